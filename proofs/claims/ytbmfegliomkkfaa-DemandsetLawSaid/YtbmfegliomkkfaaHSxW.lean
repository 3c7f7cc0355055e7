/- SX: a plain function with marks; no deferred calls. -/
import Derived.Test.YtbmfegliomkkfaaHSxV
namespace Go.Sx
open Go.RowKit

def noDefer : Code → Bool
  | .region _ ops _ => ops.toList.all fun o => !isDefer o
  | .seq a b => noDefer a && noDefer b
  | .cond _ a b => noDefer a && noDefer b
  | .block _ c => noDefer c
  | .loop c => noDefer c
  | .scope c => noDefer c
  | .rangeFunc _ _ a b => noDefer a && noDefer b
  | _ => true
theorem noDefer_child {c : Code} (h : noDefer c = true) (d : Bool) : noDefer (child d c) = true := by
  cases c <;> cases d <;> simp_all [child, noDefer]
theorem noDefer_sub {body : Code} (h : noDefer body = true) (p : List Bool) : noDefer (sub body p) = true := by
  induction p with
  | nil => exact h
  | cons d p ih => exact noDefer_child ih d
theorem noDefer_all {body : Code} (h : noDefer body = true) : ∀ p (i : Nat) (o : Oper), (opsAt (sub body p))[i]? = some o → isDefer o = false := fun p i o ho => by
  have := noDefer_sub h p
  unfold opsAt at ho
  split at ho
  · rename_i id ops d hs
    rw [hs] at this
    simp only [noDefer, List.all_eq_true] at this
    have := this o (Array.mem_toList_iff.2 (Array.mem_of_getElem? ho))
    simpa using this
  · simp at ho

section
variable {P : Program} {c : Ctx} {fnc : Func} {fn : FnC} {Q : Value → Hp → Prop} {f : FuncId} {w0 : World} {s0 : Hp} {Ds : List Nat}
theorem reachM_vc (hP : ProgOk P c) (hf : P.funcs[f]? = some fnc) (hres : fn.res = fnc.results.toList) (hm : MarksOk w0 Ds) (n : Nat) {g : Cfg} {ρ : Env} {s : Hp}
    (h : VC P Q (ReachM P f Q fn.body w0 s0 Ds) (run c fn n g) ρ s) : ReachM P f Q fn.body w0 s0 Ds g ρ s :=
  runX_sound hP (EndOk.marks Ds hm hf hres) (.inl rfl) (fun _ _ _ h => h) n _ _ _ h

theorem loopM (hP : ProgOk P c) (hf : P.funcs[f]? = some fnc) (hres : fn.res = fnc.results.toList) (hm : MarksOk w0 Ds) (n : Nat) (t : Cfg)
    (I : List Int → List Bool → List Value → Hp → Prop) (μ : List Int → List Bool → List Value → Nat) (hhead : ∀ p d ks k, t.todo ≠ .dreg p d ks :: k)
    (round : ∀ is bs vs js s1, is.length = t.ni → bs.length = t.nb → vs.length = t.nv → js.length = t.nj → I is bs vs s1 →
      (∀ (A : Asg) g' ρ' s', s1.le s' → Sx.fits ⟨0, 0, 0, 0⟩ A t g' = true → I (A.is.map (IE.den ρ')) (A.bs.map (BE.den ρ')) (SV.dens ρ' id A.vs) s' → μ (A.is.map (IE.den ρ')) (A.bs.map (BE.den ρ')) (SV.dens ρ' id A.vs) < μ is bs vs →
        ReachM P f Q fn.body w0 s0 Ds g' ρ' s') →
      VC P Q (ReachM P f Q fn.body w0 s0 Ds) (run c fn n t) ⟨is, bs, vs, js⟩ s1) :
    ∀ (A : Asg) (g : Cfg) (ρ : Env) (s : Hp), Sx.fits ⟨0, 0, 0, 0⟩ A t g = true → I (A.is.map (IE.den ρ)) (A.bs.map (BE.den ρ)) (SV.dens ρ id A.vs) s → ReachM P f Q fn.body w0 s0 Ds g ρ s :=
  loopX hP (EndOk.marks Ds hm hf hres) (.inl rfl) n t I μ hhead round

theorem progOk_leaf (h : ProgOk P c) : ProgOk P { c with leaf := true } := ⟨h.tab, h.mixed, h.call⟩
end

/- A call of yield as a step on data. -/
def yStep (body : Code) (g : Cfg) (b : Bool) : Option (Nat × List SV × Cfg) :=
  match g.todo with
  | .reg p (i :: is) :: k =>
    match (opsAt (sub body p))[i]? with
    | some o =>
      match guardOf (opsAt (sub body p)) g.sl o with
      | .known true =>
        match o.op with
        | .call { callee := .value fop, args, argTypes := _ } =>
          match ev g.sl fop, evs g.sl args.toList with
          | some (.va m), some avs => some (m, avs, { g with todo := .reg p is :: k, sl := putSV g.sl o.dst (.bool (.t b)) })
          | _, _ => none
        | _ => none
      | _ => none
    | none => none
  | _ => none

section
variable {P : Program} {F : FuncId} {fn : FnC} {s : Hp} {B : Nat} {R : Ending → World → Prop}
theorem goesI_y {L : Nat} {ys : List (List Value)} {JJ : Nat → (Nat → Prop) → World → Prop} {Z : (Nat → Prop) → World → Prop} (hY : Yielder P L ys s JJ Z) {g gt gf : Cfg} {ρ : Env} {m : Nat} {avs : List SV}
    (h1 : yStep fn.body g true = some (m, avs, gt)) (h2 : yStep fn.body g false = some (m, avs, gf)) (hm : ρ.v.getD m vd = yv L) {kk : Nat} {vals : List Value} (hv : ∀ β, SV.dens ρ β avs = vals) (hys : ys[kk]? = some vals)
    (ht : GoesI P F fn.body s B R (JJ (kk + 1)) gt ρ) (hz : GoesI P F fn.body s B R Z gf ρ) : GoesI P F fn.body s B R (JJ kk) g ρ := by
  unfold yStep at h1 h2
  split at h1
  case h_2 => simp at h1
  rename_i p i is k htd
  split at h1
  case h_2 => simp at h1
  rename_i o ho
  split at h1
  case h_2 => simp at h1
  rename_i hg
  split at h1
  case h_2 => simp at h1
  rename_i fop args ts hop
  split at h1
  case h_2 => simp at h1
  rename_i m' avs' hf ha
  simp only [Option.some.injEq, Prod.mk.injEq] at h1
  obtain ⟨rfl, rfl, rfl⟩ := h1
  simp only [htd, ho, hg, hop, hf, ha, Option.some.injEq, Prod.mk.injEq, true_and] at h2
  subst h2
  exact goesI_yield hY htd ho hg hop hf hm ha hv hys ht hz
end

/-- A function value that yields the values ys. -/
def SeqIs (P : Program) (s : Hp) (v : Value) (ys : List (List Value)) : Prop :=
  ∃ (F : Nat) (caps : List Value), v = .func (.func F) #[] caps.toArray ∧ (∀ args w, (callFunc F args).run P w = .ok (.enter F args) w) ∧ IterCt P F caps s ys
theorem SeqIs.fine {P : Program} {s : Hp} {v : Value} {ys : List (List Value)} (h : SeqIs P s v ys) : fineV v = true := by
  obtain ⟨F, caps, rfl, _⟩ := h; rfl
theorem SeqIs.mono {P : Program} {s t : Hp} {v : Value} {ys : List (List Value)} (h : SeqIs P s v ys) (hst : s.le t) : SeqIs P t v ys := by
  obtain ⟨F, caps, h1, h2, h3⟩ := h; exact ⟨F, caps, h1, h2, h3.mono hst⟩
theorem SeqIs.kind {P : Program} {s : Hp} {v : Value} {ys : List (List Value)} (h : SeqIs P s v ys) : isKindV 2 v = true := by
  obtain ⟨F, caps, rfl, _⟩ := h; rfl
theorem SeqIs.nonnil {P : Program} {s : Hp} {v : Value} {ys : List (List Value)} (h : SeqIs P s v ys) : isNilV v = false := by
  obtain ⟨F, caps, rfl, _⟩ := h; rfl

section
variable {P : Program} {Q : Value → Hp → Prop} {T : Cfg → Env → Hp → Prop} {ρ : Env} {s : Hp}
theorem vc_callV {f : Nat} {args : List SV} {H : List Blk} {n : Nat} {k : Out} (as : List Value) (Qc : Value → Hp → Prop) (hct : ∀ s1, s.le s1 → Ct P f as s1 Qc) (hfine : ∀ v s', Qc v s' → fineV v = true)
    (ha : ∀ β, SV.dens ρ β args = as) (hn : ρ.v.length = n)
    (hk : ∀ v s', s.le s' → Qc v s' → VC P Q T k ⟨ρ.i ++ [], ρ.b ++ [], ρ.v ++ [v], ρ.j⟩ s') : VC P Q T (.call f args H (.va n) 0 0 1 k) ρ s := by
  intro β s1 hs _
  refine ⟨_, by rw [ha β]; exact hct s1 hs, ?_⟩
  intro v s' hs' hv
  refine ⟨[], [], [v], rfl, rfl, rfl, by simp [hfine v s' hv], ?_, hk v s' (fun b o u h => hs' b o u (hs b o u h)) hv⟩
  subst hn
  simp [SV.den, Env.push]
end

def rf1 : Code → Operand | .rangeFunc g _ _ _ => g | _ => .tmp 0
def rf2 : Code → Array Tmp | .rangeFunc _ ps _ _ => ps | _ => #[]
def rf3 : Code → Code | .rangeFunc _ _ a _ => a | c => c
def rf4 : Code → Code | .rangeFunc _ _ _ b => b | c => c
end Go.Sx
