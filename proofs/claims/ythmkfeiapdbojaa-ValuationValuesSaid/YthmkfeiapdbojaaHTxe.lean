/- TX: a range over a function: from frame to frame, in the machine. -/
import Derived.Test.YthmkfeiapdbojaaHTxc
import Derived.RangeFuncRecord
import Derived.RangeFuncIn
import Derived.RangeFuncLeaves
import Derived.Test.YthmkfeiapdbojaaHTxd
import Derived.Below
set_option linter.unusedSimpArgs false
set_option linter.unusedVariables false
open Option.some renaming injEq → Q0
open Nat renaming le_refl → Q1, le_trans → Q9, zero_le → Qd, lt_or_ge → Qn, add_right_cancel_iff → Qz
open Prod.mk renaming injEq → Q2
open List renaming mem_map → Q3, map_cons → Q4, range → Q6, length_append → Q8, all_eq_true → Qa, length_map → Qe, replicate → Qf, eq_nil_of_length_eq_zero → Qg, take_append_drop → Qh, mem_cons → Qk, map_nil → Qm, getElem?_eq_getElem → Qp, map_map → Qq, getElem?_map → Qs, getElem?_eq_none → Qt, getElem?_eq_some_iff → Qu, append_assoc → Qv, mem_append → Qw, mem_iff_getElem? → Qy
open Bool renaming and_eq_true → Q5
open Option renaming bind_eq_some_iff → Q7, map_eq_some_iff → Qb
open List.cons renaming injEq → Qj
open Array renaming getElem?_eq_getElem → Qr
namespace Go.Sx
variable {P : Program}
def b4U (f : FuncId) (tmps : Array Value) (ps : Array Tmp) (assign body : Code) (D : Nat) (st : LoopState) (pe : Option Code) : Loop :=
 { state := st, pending := pe, fn := f, tmps, params := ps, assign, body, defers := D }
theorem b7W {f : FuncId} {R : Ending -> World -> Prop} {g : Operand} {ps : Array Tmp} {assign body : Code} {k : List Item} {a : Act} {w : World} {gf : Nat} {lb : Array Value}
  (hg : a.eval g = .func (.func gf) #[] lb) (eg : ∀ args w, (callFunc gf args).run P w = .ok (.enter gf args) w)
  (h : Calls P gf (#[.func (.yield (w.heap.size + 1)) #[] #[]] ++ lb) ((w.alloc (.deferred (some []))).alloc (.loop (b4U f a.tmps ps assign body w.heap.size .ready none))) (fun e w' => ∃ v, e = .returned v /\
   ∃ jump w4, (Instr.endLoop (w.heap.size + 1)).run P w' = .ok jump w4 /\ a1w P (f, none) R ((jump.map Item.code).toList ++ k) { a with defers := { target := .collected w.heap.size, args := #[] } :: a.defers } w4)) :
  a1w P (f, none) R (.code (.rangeFunc g ps assign body) :: k) a w := by
 intro cs hcs
 have he : (Instr.enterLoop (atF (f, none)).fn a.tmps ps assign body (atF (f, none)).roundOf).run P w = .ok (w.heap.size + 1, [{ target := .collected w.heap.size, args := #[] }]) ((w.alloc (.deferred (some []))).alloc (.loop (b4U f a.tmps ps assign body w.heap.size .ready none))) :=
  run_enterLoop_outer _ _ _ _ _
 have hres : (resolve a.eval (rangeCall g (w.heap.size + 1)) 0).run P ((w.alloc (.deferred (some []))).alloc (.loop (b4U f a.tmps ps assign body w.heap.size .ready none))) =
   .ok { target := .fn (.func gf) lb, args := #[.func (.yield (w.heap.size + 1)) #[] #[]] } ((w.alloc (.deferred (some []))).alloc (.loop (b4U f a.tmps ps assign body w.heap.size .ready none))) := by
  simp only [resolve, hg]
  simp [go_sem]
 have henter := stepR_rangeFunc (P := P) (b := atF (f, none)) (a := a) (k := k) (cs := cs) (w := w) he hres (f := gf) (args := #[.func (.yield (w.heap.size + 1)) #[] #[]] ++ lb)
  (w₂ := (w.alloc (.deferred (some []))).alloc (.loop (b4U f a.tmps ps assign body w.heap.size .ready none))) (by simp [invoke, go_sem, eg])
 obtain ⟨e, w3, fr, ⟨v, rfl, jump, w4, hend, hgo⟩, hsteps, _, hleave⟩ := h ((atF (f, none)).atR { a with defers := { target := .collected w.heap.size, args := #[] } :: a.defers } (.inRangeFunc (w.heap.size + 1) :: k) :: cs)
 have sback : Steps P (lone ((atF (f, none)).atR a (.code (.rangeFunc g ps assign body) :: k)) cs w) (lone ((atF (f, none)).atR { a with defers := { target := .collected w.heap.size, args := #[] } :: a.defers } ((jump.map Item.code).toList ++ k)) cs w4) := by
  refine .head henter (Steps.trans hsteps (.head ?_ (.one (stepR_endRangeFunc hend))))
  rw [<- finish_atR_inRangeFunc (w.heap.size + 1) v]; exact step_leave_returned hleave
 obtain ⟨e, w5, m, r, c, hl⟩ := hgo cs hcs
 exact ⟨e, w5, m, r, .of_steps sback c, hl⟩
theorem c3I {f : Fr} {R : Ending -> World -> Prop} {ops : Array Oper} {i : Nat} {rest : List Nat} {o : Oper} {k : List Item} {a : Act} {w : World} {L fn : Nat} {tmps : Array Value} {assign body : Code}
  (ho : ops[i]? = some o) (hnd : f.2 = none \/ a2V o = false) (hw : Region.wanted o (yielded ops a.tmps) = true) (hr : (execOp a.eval o).run P w = .ok (.round L fn tmps assign body) w)
  (h : a1w P (fn, some L) (fun e w' => ∃ v, e = .returned v /\ a1w P f R (.inRegion ops rest :: k) (a.put o.dst v) w') [.code assign, .beginRound, .code body] { tmps := tmps, defers := [] } w) :
  a1w P f R (.inRegion ops (i :: rest) :: k) a w := by
 intro cs hcs
 have hg := stepGR_op (P := P) (b := atF f) (k := k) (cs := cs) (w := w) (rest := rest) ho hw
 have hsem : o.semAt (atF f).roundOf a.eval = execOp a.eval o := by
  rcases hnd with h0 | h0
  ·show o.semAt f.2 a.eval = _
   rw [h0]; exact Oper.semAt_none _ _
  ·exact Oper.semAt_eq _ _ _ (b3b h0)
 rw [hsem] at hg
 have henter : step P (lone ((atF f).atR a (.inRegion ops (i :: rest) :: k)) cs w) =
   .next (lone (Frame.round L fn tmps assign body .normal) ((atF f).atR a (.inRegion ops (i :: rest) :: k) :: cs) w) :=
  step_lone_go (by rw [hg]; simp [stepG.apply, hr, Frame.atR])
 have hb : Frame.round L fn tmps assign body .normal = (atF (fn, some L)).atR { tmps := tmps, defers := [] } [.code assign, .beginRound, .code body] := by
  simp [Frame.round, Frame.atR, atF]
 obtain ⟨e, w1, m, ⟨v, rfl, hgo⟩, c, c0, cs', hcs', hm⟩ := h ((atF f).atR a (.inRegion ops (i :: rest) :: k) :: cs) (.inr (by simp))
 simp only [Qj] at hcs'
 obtain ⟨rfl, rfl⟩ := hcs'
 subst hm
 rw [<- hb] at c
 obtain ⟨e2, w5, m2, r, c2, hl⟩ := hgo cs hcs
 refine ⟨e2, w5, m2, r, .of_steps (.head henter (Steps.trans c ?_)) c2, hl⟩
 have hfin : ((atF f).atR a (.inRegion ops (i :: rest) :: k)).finish v = (atF f).atR (a.put o.dst v) (.inRegion ops rest :: k) := by
  rw [Frame.finish_atR, ho]; rfl
 simp only [hfin]
 exact .refl _ _
theorem b6M {fn L : Nat} {R : Ending -> World -> Prop} {k : List Item} {a : Act} {w w' : World} (hr : (Instr.beginRound L).run P w = .ok () w') (h : a1w P (fn, some L) R k a w') :
  a1w P (fn, some L) R (.beginRound :: k) a w := fun cs hcs => by
 obtain ⟨e, w5, m, r, c, hl⟩ := h cs hcs
 exact ⟨e, w5, m, r, .of_steps (.one (stepR_beginRound (b := atF (fn, some L)) rfl hr)) c, hl⟩
theorem c3C {fn L : Nat} {R : Ending -> World -> Prop} {todo : List Item} {a : Act} {w w' : World} {v : Value}
  (hs : ∀ c cs, step P (lone ((atF (fn, some L)).atR a todo) (c :: cs) w) = .next (lone (c.finish v) cs w')) (h : R (.returned v) w') : a1w P (fn, some L) R todo a w := fun cs hcs => by
 cases cs with
 | nil => rcases hcs with h0 | h0 <;> simp at h0
 | cons c cs => exact ⟨.returned v, w', _, h, .one (hs c cs), c, cs, rfl, rfl⟩
theorem b9s {fn L : Nat} {R : Ending -> World -> Prop} {a : Act} {w w' : World} {v : Value} (hr : (Instr.endRound L none).run P w = .ok v w') (h : R (.returned v) w') : a1w P (fn, some L) R [] a w :=
 c3C (fun _ _ => stepR_round_end (b := atF (fn, some L)) rfl rfl hr) h
end Go.Sx
namespace Go.Sx
open Go.RowKit
variable {P : Program}
theorem Grows.put {E : Nat -> Prop} {w : World} {L : Nat} {o : Obj} (hL : E L) : Grows E w (w.putObj L o) :=
 ⟨rfl, rfl, rfl, by simp, fun k _ hE => World.putObj_heap_other (by rintro rfl; exact hE hL)⟩
theorem a5l {w : World} {i : Nat} {o : Obj} (h : w.heap[i]? = some o) : i < w.heap.size := (Array.getElem?_eq_some_iff.1 h).1
theorem Rel.grows {w0 : World} {s0 : Hp} {X : Fx} {ρ : Env} {s : Hp} {β : Nat -> Nat} {g : Cfg} {a : Act} {w w' : World} {E : Nat -> Prop} (h : Rel w0 s0 X ρ s β g a w) (hg : Grows E w w')
  (hE : ∀ i, E i -> w0.heap.size <= i /\ (∀ (k : Nat) (b : Blk), g.H[k]? = some b -> act ρ b -> β k ≠ i) /\ (∀ o, s i o = none) /\ (∀ o, ¬ X.K (i, o)) /\ i ∉ a0w ρ.m) : Rel w0 s0 X ρ s β g a w' := by
 have hcell : ∀ i o, w.heap[i]? = some o -> ¬ E i -> w'.heap[i]? = some o := fun i o hi ho => by
  rw [hg.block i (a5l hi) ho]; exact hi
 refine ⟨h.tm, h.df, Q9 h.sz hg.size, fun x hx => ⟨?_, (h.kp x hx).own, (h.kp x hx).un⟩, h.ms, h.fs, h.ci, h.cb, h.cv, h.cj, h.ok, ⟨hg.os.trans h.bel.os, hg.tape.trans h.bel.tape, hg.output.trans h.bel.output, Q9 h.bel.size hg.size, fun k hk hn => ?_⟩, ?_, h.nw, h.le, ?_, h.sp⟩
 ·refine hcell _ _ (h.kp x hx).is (fun he => ?_)
  rcases hx with hx | hx
  ·exact (hE _ he).2.2.2.1 x.2 hx
  ·exact (hE _ he).2.2.2.2 (Q3.2 ⟨x, hx, rfl⟩)
 ·rw [hg.block k (Nat.lt_of_lt_of_le hk h.bel.size) (fun he => by have := (hE k he).1; omega)]; exact h.bel.block k hk hn
 ·intro b off u hb
  have hc := h.sb b off u hb
  have hnE : ¬ E b := fun he => by have := (hE b he).2.2.1 off; rw [hb] at this; simp at this
  rw [<- hc]
  exact World.cell?_of_block (hg.block b (h.sb.lt hb) hnE)
 ·intro k b hk
  have hb := h.bl k b hk
  cases b with
  | cells cs T sh =>
   simp only [BOk] at hb ⊢
   exact ⟨hb.1, hcell _ _ hb.2.1 (fun he => (hE _ he).2.1 k _ hk trivial rfl), hb.2.2⟩
  | row n T size =>
   simp only [BOk] at hb ⊢
   refine ⟨hb.1, hb.2.imp (fun x => x) ?_⟩
   rintro ⟨m, cap, cur, c1, c2, c3, c4⟩
   exact ⟨m, cap, cur, c1, c2, hcell _ _ c3 (fun he => (hE _ he).2.1 k _ hk (by show ρ.v.getD n vd ≠ _; rw [c1]; simp) rfl), c4⟩
theorem Rel.keptNC {w0 : World} {s0 : Hp} {X : Fx} {ρ : Env} {s : Hp} {β : Nat -> Nat} {g : Cfg} {a : Act} {w : World} (h : Rel w0 s0 X ρ s β g a w) {i : Nat} {o : Obj} (hi : w.heap[i]? = some o) (ho : a7h o = true) :
  Kept s ρ β g.H w (i, o) := by
 refine ⟨hi, fun k b hk hb he => ?_, fun off => ?_⟩
 ·have hbl := h.bl k b hk
  simp only at he
  cases b with
  | cells cs T sh =>
   simp only [BOk] at hbl
   rw [he, hi] at hbl
   have := hbl.2.1
   simp only [Q0] at this
   subst this; simp [a7h] at ho
  | row n T size =>
   simp only [BOk] at hbl
   rcases hbl.2 with c | ⟨m, cap, cur, c1, c2, c3, c4⟩
   ·exact hb c
   ·rw [he, hi] at c3
    simp only [Q0] at c3
    subst c3; simp [a7h] at ho
 ·cases hs : s i off with
  | none => rfl
  | some u =>
   have := h.sb i off u hs
   simp only [World.cell?, hi] at this
   cases o <;> simp_all [a7h]
theorem Rel.kept {w0 : World} {s0 : Hp} {X X' : Fx} {ρ : Env} {s : Hp} {β : Nat -> Nat} {g : Cfg} {a : Act} {w : World} (h : Rel w0 s0 X ρ s β g a w) (hE : X'.E = X.E) (hd : X'.ds = X.ds) (hz : X'.zs = X.zs) (hs : X'.sz <= w.heap.size)
  (hk : ∀ x, X'.K x -> X.K x \/ (Kept s ρ β g.H w x /\ x.1 ∉ a0w ρ.m)) : Rel w0 s0 X' ρ s β g a w :=
 ⟨h.tm, h.df.trans hd.symm, hs, fun x hx => hx.elim (fun hx => (hk x hx).elim (fun h1 => h.kp x (.inl h1)) (fun h1 => h1.1)) (fun hx => h.kp x (.inr hx)), h.ms.to rfl rfl hE (fun x hx => (hk x hx).imp id (·.2)), hz.trans h.fs, h.ci, h.cb, h.cv, h.cj, h.ok, hE ▸ h.bel, h.sb, h.nw, h.le, h.bl, h.sp⟩
theorem Rel.turned {w0 : World} {s0 : Hp} {X X' : Fx} {ρ : Env} {s : Hp} {β : Nat -> Nat} {g : Cfg} {a : Act} {w : World} {L : Nat} {o o' : Obj} (h : Rel w0 s0 X ρ s β g a w) (hE : X'.E = X.E) (hd : X'.ds = X.ds) (hz : X'.zs = X.zs) (hsz : X'.sz <= w.heap.size)
  (hL : w0.heap.size <= L) (hLm : L ∉ a0w ρ.m) (ho : w.heap[L]? = some o) (hn : a7h o = true) (hk : ∀ x, X'.K x -> (x.1 ≠ L /\ X.K x) \/ x = (L, o')) : Rel w0 s0 X' ρ s β g a (w.putObj L o') := by
 have h1 : Rel w0 s0 { X with K := fun x => x.1 ≠ L /\ X.K x } ρ s β g a w := h.kept rfl rfl rfl h.sz (fun x hx => .inl hx.2)
 have h0 := h.keptNC ho hn
 have h2 := h1.grows (Grows.put (E := fun i => i = L) (o := o') rfl) (fun i hi => by
  subst hi
  exact ⟨hL, h0.own, h0.un, fun o1 h1 => h1.1 rfl, hLm⟩)
 refine h2.kept hE hd hz (by simpa using hsz) (fun x hx => ?_)
 rcases hk x hx with h3 | rfl
 ·exact .inl h3
 ·exact .inr ⟨⟨World.putObj_heap_same (a5l ho), h0.own, h0.un⟩, hLm⟩
def c3n (E E' : Nat -> Prop) (w w' : World) : Prop := ∀ i, E' i -> (E i \/ w.heap.size <= i) /\ ∃ o, w'.heap[i]? = some o
def b6U (E : Nat -> Prop) (w w' : World) : Prop := w.heap.size <= w'.heap.size /\ ∀ i, E i -> w'.heap[i]? = w.heap[i]?
structure Yielder (P : Program) (L : Nat) (ys : List (List Value)) (s : Hp) (J : Nat -> (Nat -> Prop) -> World -> Prop) : Prop where
 sub : ∀ k E w, J k E w -> Sub s w
 stab : ∀ k E E' w w', J k E w -> Grows E w w' -> c3n E E' w w' -> J k E' w'
 call : ∀ k E w args, ys[k]? = some args -> J k E w -> ∃ r : Loop, w.heap[L]? = some (.loop r) /\ args.length = r.params.size /\
  a1w P (r.fn, some L) (fun e w' => b6U E w w' /\ e = .returned (.bool true) /\ J (k + 1) E w')
   [.code r.assign, .beginRound, .code r.body] { tmps := (r.params.zip args.toArray).foldl (fun tmps (t, a) => tmps.setIfInBounds t a) r.tmps, defers := [] } w
def yv (L : Nat) : Value := .func (.yield L) #[] #[]
def noE : Nat -> Prop := fun _ => False
def a7z (P : Program) (F : Nat) (caps : List Value) (s : Hp) (ys : List (List Value)) : Prop :=
 ∀ L J w, Yielder P L ys s J -> J 0 noE w -> Calls P F (#[yv L] ++ caps.toArray) w (fun e w' => ∃ v, e = .returned v /\ ∃ E, J ys.length E w')
theorem a7z.mono {F : Nat} {caps : List Value} {s t : Hp} {ys : List (List Value)} (h : a7z P F caps s ys) (hst : s.le t) : a7z P F caps t ys := fun L J w hy hj =>
 h L J w ⟨fun k E w hk b o u hb => hy.sub k E w hk b o u (hst b o u hb), hy.stab, hy.call⟩ hj
def b4Y (sl : List SV) (ps : List Nat) (yvs : List SV) : List SV := (ps.zip yvs).foldl (fun l x => l.set x.1 x.2) sl
theorem b8G (ρ : Env) (β : Nat -> Nat) : ∀ (ps : List Nat) (yvs : List SV) (sl : List SV) (a : Array Value), a = (SV.dens ρ β sl).toArray ->
  (ps.zip (SV.dens ρ β yvs)).foldl (fun tmps (x : Nat × Value) => tmps.setIfInBounds x.1 x.2) a = (SV.dens ρ β (b4Y sl ps yvs)).toArray
 | [], _, sl, a, h => by simpa [b4Y] using h
 | p :: ps, [], sl, a, h => by simpa [b4Y, SV.dens] using h
 | p :: ps, y :: ys, sl, a, h => by
  have := b8G ρ β ps ys (sl.set p y) (a.setIfInBounds p (y.den ρ β)) (by simp only [h, SV.dens_map, List.map_set, List.setIfInBounds_toArray])
  simpa [b4Y, SV.dens] using this
def b2p (tr : Cfg) (tsl : List SV) (p : List Bool) (ps : List Nat) (yvs : List SV) (di db dv : Nat) : Cfg :=
 { tr with todo := [.code (false :: p), .begin, .code (true :: p)], sl := b4Y tsl ps yvs, ni := tr.ni + di, nb := tr.nb + db, nv := tr.nv + dv }
def b8k (g : Cfg) (tsl : List SV) (todo : List PI) : Cfg := { g with todo, sl := tsl, fs := [] }
abbrev Inv := List Int -> List Bool -> List Value -> MS -> Hp -> Prop
section
variable (P) (f : FuncId) (Q : Value -> Hp -> MS -> Prop) (body : Code) (w0 : World) (s0 : Hp) (m0 : MS) (Ds : List Nat)
abbrev c4X (g : Cfg) (ρ : Env) (s : Hp) : Prop := a7A P (f, none) (Ret Q s0 m0 w0) body w0 s0 (Xm (a0w m0) Ds) g ρ s
end
def c0P (K : Nat) (tr : Cfg) (sb : Hp) (In : Inv) (g : Cfg) (ρ : Env) (s : Hp) : Prop :=
 g.todo = [] /\ sb.le s /\ ρ.k = K /\ ∃ A, fits ⟨0, 0, 0, 0⟩ A tr { g with sl := [] } = true /\ In (A.is.map (IE.den ρ)) (A.bs.map (BE.den ρ)) (SV.dens ρ id A.vs) ρ.m s
def XL (E : List Nat) (Ds : List Nat) (D : Nat) (T0 : Array Value) (o : Obj) : Fx :=
 { K := fun x => (x.1 ∈ Ds /\ x.2 = .deferred (some [])) \/ x = (D, .deferred (some [])) \/ x = (D + 1, o), E, zs := [T0], ds := [] }
def EOk (s : Hp) (ρ : Env) (β : Nat -> Nat) (H : List Blk) (D : Nat) (E : Nat -> Prop) (w : World) : Prop := ∀ i, E i -> D + 1 < i /\ i ∉ a0w ρ.m /\ ∃ o, Kept s ρ β H w (i, o)
def JR (w0 : World) (s0 : Hp) (m0 : MS) (Ds : List Nat) (D : Nat) (T0 : Array Value) (r0 : Loop) (K : Nat) (s : Hp) (tr : Cfg) (I : Nat -> Inv) (k : Nat) (E : Nat -> Prop) (w : World) : Prop :=
 ∃ is bs vs js mm s1 β, s.le s1 /\ I k is bs vs mm s1 /\ Rel w0 s0 (XL (a0w m0) Ds D T0 (.loop r0)) { i := is, b := bs, v := vs, j := js, m := mm, k := K } s1 β tr { tmps := #[], defers := [] } w /\ EOk s1 { i := is, b := bs, v := vs, j := js, m := mm, k := K } β tr.H D E w
theorem c9s {w0 : World} {s0 : Hp} {Em : List Nat} {Ds : List Nat} {D : Nat} {T0 : Array Value} {o : Obj} {ρ : Env} {s : Hp} {β : Nat -> Nat} {g : Cfg} {a : Act} {w w' : World} {E E' : Nat -> Prop} (hlt : ∀ D' ∈ Ds, D' < D) (hD0 : w0.heap.size <= D)
  (h : Rel w0 s0 (XL Em Ds D T0 o) ρ s β g a w) (he : EOk s ρ β g.H D E w) (hg : Grows E w w') (hn : c3n E E' w w') : Rel w0 s0 (XL Em Ds D T0 o) ρ s β g a w' /\ EOk s ρ β g.H D E' w' := by
 refine ⟨h.grows hg (fun i hi => ?_), fun i hi => ?_⟩
 ·obtain ⟨h1, hb, o1, h2, h3, h4⟩ := he i hi
  refine ⟨by omega, h3, h4, fun o2 hk => ?_, hb⟩
  rcases hk with ⟨h4, _⟩ | h4 | h4
  ·have := hlt i h4; omega
  ·simp only [Q2] at h4; omega
  ·simp only [Q2] at h4; omega
 ·obtain ⟨h1, o1, h2⟩ := hn i hi
  rcases h1 with h1 | h1
  ·obtain ⟨e1, eb, o2, e2, e3, e4⟩ := he i h1
   exact ⟨e1, eb, o1, h2, e3, e4⟩
  ·have := a5l (h.kp (D + 1, o) (.inl (.inr (.inr rfl)))).is
   simp only at this
   refine ⟨by omega, fun hm => ?_, o1, h2, fun k b hk hb => ?_, fun off => ?_⟩
   ·obtain ⟨x, hx, hxe⟩ := Q3.1 hm
    have := a5l (h.kp x (.inr hx)).is
    omega
   ·have := h.lt hk hb
    simp only; omega
   ·cases hs : s i off with
    | none => rfl
    | some u => have := h.sb.lt hs; omega
theorem Rel.back {w0 : World} {s0 : Hp} {Em : List Nat} {Ds : List Nat} {D : Nat} {T0 : Array Value} {r r' : Loop} {ρ : Env} {s : Hp} {β : Nat -> Nat} {g : Cfg} {w : World} {tsl : List SV} (hlt : ∀ D' ∈ Ds, D' < D) (hD0 : w0.heap.size <= D)
  (h : Rel w0 s0 (XL Em Ds D T0 (.loop r)) ρ s β { g with sl := [] } { tmps := #[], defers := [] } w) (hfs : g.fs = [tsl]) (todo : List PI) :
  Rel w0 s0 (Xm Em (D :: Ds)) ρ s β (b8k g tsl todo) { tmps := T0, defers := (D :: Ds).map markOf } (w.putObj (D + 1) (.loop r')) := by
 have hL := h.kp (D + 1, .loop r) (.inl (.inr (.inr rfl)))
 have hLm := h.ms.dk (D + 1, .loop r) (.inr (.inr rfl))
 have h1 := h.turned (X' := { (Xm Em (D :: Ds)) with zs := [T0], ds := [] }) (L := D + 1) (o' := .loop r') rfl rfl rfl (Qd _) (by omega) hLm hL.is rfl (fun x hx => by
  obtain ⟨h2, h3⟩ := hx
  obtain ⟨i, o⟩ := x
  simp only at h2 h3
  subst h3
  left
  rcases Qk.1 h2 with h2 | h2
  ·subst h2; exact ⟨by simp, .inr (.inl rfl)⟩
  ·have := hlt _ h2
   exact ⟨by simp only [ne_eq]; omega, .inl ⟨h2, rfl⟩⟩)
 have hz : [T0] = g.fs.map fun l => (SV.dens ρ β l).toArray := h1.fs
 rw [hfs] at hz
 simp only [Q4, Qm, Qj, and_true] at hz
 exact ⟨hz, rfl, h1.sz, h1.kp, h1.ms.to rfl rfl rfl (fun _ => .inl), rfl, h1.ci, h1.cb, h1.cv, h1.cj, h1.ok, h1.bel, h1.sb, h1.nw, h1.le, h1.bl, h1.sp⟩
section
variable {c : Ctx} {f : FuncId} {fn : FnC} {Q : Value -> Hp -> MS -> Prop} {w0 : World} {s0 : Hp} {m0 : MS} {Ds : List Nat}
def c5G (P : Program) (c : Ctx) (fn : FnC) (Q : Value -> Hp -> MS -> Prop) (T : Cfg -> Env -> Hp -> Prop) (n : Nat) (p : List Bool) (g : Cfg) (ρ : Env) (s : Hp) : Prop :=
 g.todo = [.begin, .code (true :: p)] /\ VC P Q T (run c fn n { g with todo := [.code (true :: p)] }) ρ s
theorem Rel.around {X : Fx} {ρ : Env} {s : Hp} {β : Nat -> Nat} {g : Cfg} {a : Act} {w : World} (h : Rel w0 s0 X ρ s β g a w) (todo : List PI) : Rel w0 s0 X ρ s β { g with todo, sl := [] } { tmps := #[], defers := a.defers } w :=
 ⟨by simp [SV.dens], h.df, h.sz, h.kp, h.ms, h.fs, h.ci, h.cb, h.cv, h.cj, h.ok, h.bel, h.sb, h.nw, h.le, h.bl, h.sp⟩
theorem c8V (hP : ProgOk P c) (hc : c.leaf = true) (hm : MarksOk w0 Ds) (hnd : ∀ p (i : Nat) (o : Oper), (a0F (sub fn.body p))[i]? = some o -> a2V o = false)
  {p : List Bool} {kc : List PI} {gop : Operand} {ps : Array Tmp} {assign bodyc : Code} (hsub : sub fn.body p = .rangeFunc gop ps assign bodyc) (hkc : ∀ p d ks k, kc ≠ .dreg p d ks :: k)
  {F : Nat} {caps : List Value} {ys : List (List Value)} (eg : ∀ args w, (callFunc F args).run P w = .ok (.enter F args) w)
  {g : Cfg} {ρ : Env} {s : Hp} (hit : a7z P F caps s ys) (htodo : g.todo = .code p :: kc) (hfs : g.fs = [])
  {sv : SV} (hev : ev g.sl gop = some sv) (hsv : ∀ β, sv.den ρ β = .func (.func F) #[] caps.toArray)
  (tr : Cfg) (tsl : List SV) (htd : tr.todo = []) (hsl : tr.sl = []) (htr : tr.fs = [tsl]) (hok : tr.okB = true) (yvs : List SV) (di db dv n : Nat) (hlen : yvs.length = ps.size)
  (I : Nat -> Inv)
  (A : Asg) (hfit : fits ⟨0, 0, 0, 0⟩ A tr { g with todo := [], sl := [], fs := [g.sl] } = true)
  (hI : I 0 (A.is.map (IE.den ρ)) (A.bs.map (BE.den ρ)) (SV.dens ρ id A.vs) ρ.m s)
  (round : ∀ k args is bs vs js mm s1, is.length = tr.ni -> bs.length = tr.nb -> vs.length = tr.nv -> js.length = tr.nj -> ys[k]? = some args -> s.le s1 -> I k is bs vs mm s1 ->
   ∃ is' bs' vs', is'.length = di /\ bs'.length = db /\ vs'.length = dv /\ vs'.all a2r = true /\ (∀ β, SV.dens { i := is ++ is', b := bs ++ bs', v := vs ++ vs', j := js, m := mm, k := ρ.k } β yvs = args) /\
    VC P Q (c5G P c fn Q (c0P ρ.k tr s1 (I (k + 1))) n p) (run c fn n (b2p tr tsl p ps.toList yvs di db dv)) { i := is ++ is', b := bs ++ bs', v := vs ++ vs', j := js, m := mm, k := ρ.k } s1)
  (after : ∀ is bs vs js mm s1, is.length = tr.ni -> bs.length = tr.nb -> vs.length = tr.nv -> js.length = tr.nj -> s.le s1 -> I ys.length is bs vs mm s1 ->
   ∀ D, MarksOk w0 (D :: Ds) -> c4X P f Q fn.body w0 s0 m0 (D :: Ds) (b8k tr tsl kc) { i := is, b := bs, v := vs, j := js, m := mm, k := ρ.k } s1) :
  c4X P f Q fn.body w0 s0 m0 Ds g ρ s := by
 intro β a w hr
 unfold a1U
 rw [htodo]
 show a1w P (f, none) (Ret Q s0 m0 w0) (.code (sub fn.body p) :: kc.map (a1j fn.body)) a w
 rw [hsub]
 have hadf : a.defers = Ds.map markOf := hr.df
 have hlt : ∀ D' ∈ Ds, D' < w.heap.size := fun D' hD' => a5l (hr.kp (D', .deferred (some [])) (.inl ⟨hD', rfl⟩)).is
 have hltm : ∀ i ∈ a0w ρ.m, i < w.heap.size := fun i hi => by
  obtain ⟨x, hx, rfl⟩ := Q3.1 hi
  exact a5l (hr.kp x (.inr hx)).is
 have hD0 : w0.heap.size <= w.heap.size := hr.bel.size
 have hmD : MarksOk w0 (w.heap.size :: Ds) := ⟨List.nodup_cons.2 ⟨fun h => by have := hlt _ h; omega, hm.nd⟩, fun D' hD' => by
  rcases Qk.1 hD' with rfl | h
  ·exact hD0
  ·exact hm.ge _ h⟩
 refine b7W (gf := F) (lb := caps.toArray) (by rw [a0p hev hr.tm]; exact hsv β) eg ?_
 generalize hr0 : b4U f a.tmps ps assign bodyc w.heap.size .ready none = r0
 have r0fn : r0.fn = f := by rw [<- hr0]; rfl
 have r0tmps : r0.tmps = a.tmps := by rw [<- hr0]; rfl
 have r0ps : r0.params = ps := by rw [<- hr0]; rfl
 have r0as : r0.assign = assign := by rw [<- hr0]; rfl
 have r0body : r0.body = bodyc := by rw [<- hr0]; rfl
 have r0st : r0.state = .ready := by rw [<- hr0]; rfl
 have r0pe : r0.pending = none := by rw [<- hr0]; rfl
 have hs1 : (w.alloc (.deferred (some []))).heap.size = w.heap.size + 1 := by simp
 have hw1 : Below w.heap.size w ((w.alloc (.deferred (some []))).alloc (.loop r0)) := ((Below.refl _ _).alloc (Q1 _) _).alloc (by rw [hs1]; omega) _
 have hD1 : ((w.alloc (.deferred (some []))).alloc (.loop r0)).heap[w.heap.size]? = some (.deferred (some [])) := by
  rw [Below.heap_alloc _ _ _ (by rw [hs1]; omega)]; exact World.alloc_heap_new _ _
 have hL1 : ((w.alloc (.deferred (some []))).alloc (.loop r0)).heap[w.heap.size + 1]? = some (.loop r0) := by
  rw [<- hs1]; exact World.alloc_heap_new _ _
 have hbusy : ∀ (x : Loop), x = { r0 with state := .busy } -> ({ x with state := if (none : Option Code).isNone then .ready else .done, pending := none } : Loop) = r0 := by
  rintro x rfl
  rw [<- hr0]; rfl
 generalize hD : w.heap.size = D at *
 generalize (w.alloc (.deferred (some []))).alloc (.loop r0) = w1 at *
 have hJ0 : JR w0 s0 m0 Ds D a.tmps r0 ρ.k s tr I 0 noE w1 := by
  have h1 : Rel w0 s0 (Xm (a0w m0) Ds) ρ s β g a w1 := hr.grow (by rw [hD]; exact hw1) (Hp.le_refl _) (fun b o u hu => by
   have hc := hr.sb b o u hu
   rw [<- hc]
   exact World.cell?_of_block (hw1.block _ (by rw [<- hD]; exact World.block_lt_of_cell? w _ hc))) (fun b o u h1 h2 => by rw [h1] at h2; simp at h2)
  have h2 : Rel w0 s0 (XL (a0w m0) Ds D a.tmps (.loop r0)) ρ s β { g with todo := [], sl := [], fs := [g.sl] } { tmps := #[], defers := [] } w1 := by
   refine ⟨by simp [SV.dens], rfl, Qd _, fun x hx => ?_, h1.ms.to rfl rfl rfl (fun x hx => ?_), ?_, h1.ci, h1.cb, h1.cv, h1.cj, h1.ok, h1.bel, h1.sb, h1.nw, h1.le, h1.bl, h1.sp⟩
   ·rcases hx with (⟨h3, h4⟩ | rfl | rfl) | hx
    ·exact h1.kp x (.inl ⟨h3, h4⟩)
    ·exact h1.keptNC hD1 rfl
    ·exact h1.keptNC hL1 rfl
    ·exact h1.kp x (.inr hx)
   ·rcases hx with ⟨h3, h4⟩ | rfl | rfl
    ·exact .inl ⟨h3, h4⟩
    ·exact .inr (fun h => by have := hltm _ h; simp only at this; omega)
    ·exact .inr (fun h => by have := hltm _ h; simp only at this; omega)
   ·show [a.tmps] = _
    simp [h1.tm]
  have h3 := (h2.fits hfit).1
  rw [b1N hfit] at h3
  exact ⟨_, _, _, _, _, s, β, Hp.le_refl _, hI, h3, fun i hi => hi.elim⟩
 have hY : Yielder P (D + 1) ys s (JR w0 s0 m0 Ds D a.tmps r0 ρ.k s tr I) := by
  refine ⟨?_, ?_, ?_⟩
  ·rintro k E w' ⟨is, bs, vs, js, mm, s1, β1, hle, _, h, _⟩ b o u hb
   exact h.sb b o u (hle b o u hb)
  ·rintro k E E' w2 w3 ⟨is, bs, vs, js, mm, s1, β1, hle, h0, h, he⟩ hg hn
   obtain ⟨h', he'⟩ := c9s hlt hD0 h he hg hn
   exact ⟨is, bs, vs, js, mm, s1, β1, hle, h0, h', he'⟩
  ·rintro k E w2 args hargs ⟨is, bs, vs, js, mm, s1, β1, hle, h0, h, he⟩
   have hL2 := (h.kp (D + 1, .loop r0) (.inl (.inr (.inr rfl)))).is
   obtain ⟨is', bs', vs', l1, l2, l3, hfv, hyv, hvc⟩ := round k args is bs vs js mm s1 h.ci h.cb h.cv h.cj hargs hle h0
   have hal : args.length = ps.size := by rw [<- hyv β1, SV.dens_map, Qe, hlen]
   refine ⟨r0, hL2, by rw [r0ps]; exact hal, ?_⟩
   rw [r0fn, r0as, r0body, r0ps, r0tmps]
   let XE : Obj -> Fx := fun o => { K := fun x => (XL (a0w m0) Ds D a.tmps o).K x \/ (E x.1 /\ w2.heap[x.1]? = some x.2), E := a0w m0, zs := [a.tmps], ds := [], sz := w2.heap.size }
   have hR1 : Rel w0 s0 (XE (.loop r0)) { i := is, b := bs, v := vs, j := js, m := mm, k := ρ.k } s1 β1 tr { tmps := #[], defers := [] } w2 := h.kept rfl rfl rfl (Q1 _) (fun x hx => hx.imp id (fun h => by
    obtain ⟨e1, e2⟩ := h
    obtain ⟨i, o⟩ := x
    obtain ⟨_, kb, o1, k1, k2, k3⟩ := he i e1
    exact ⟨⟨e2, k2, k3⟩, kb⟩))
   have hR2 := hR1.push hok is' bs' vs' hfv (tr.ni + di) (tr.nb + db) (tr.nv + dv) (by rw [l1]) (by rw [l2]) (by rw [l3])
   have hz : [a.tmps] = tr.fs.map fun l => (SV.dens { i := is ++ is', b := bs ++ bs', v := vs ++ vs', j := js, m := mm, k := ρ.k } β1 l).toArray := hR2.fs
   rw [htr] at hz
   simp only [Q4, Qm, Qj, and_true] at hz
   have htm : (ps.zip args.toArray).foldl (fun tmps (x : Tmp × Value) => tmps.setIfInBounds x.1 x.2) a.tmps = (SV.dens { i := is ++ is', b := bs ++ bs', v := vs ++ vs', j := js, m := mm, k := ρ.k } β1 (b4Y tsl ps.toList yvs)).toArray := by
    rw [<- b8G _ _ ps.toList yvs tsl a.tmps hz, <- Array.foldl_toList, Array.toList_zip, hyv β1]
   have hR3 : Rel w0 s0 (XE (.loop r0)) { i := is ++ is', b := bs ++ bs', v := vs ++ vs', j := js, m := mm, k := ρ.k } s1 β1 (b2p tr tsl p ps.toList yvs di db dv)
     { tmps := (ps.zip args.toArray).foldl (fun tmps (x : Tmp × Value) => tmps.setIfInBounds x.1 x.2) a.tmps, defers := [] } w2 :=
    ⟨htm, rfl, hR2.sz, hR2.kp, hR2.ms, hR2.fs, hR2.ci, hR2.cb, hR2.cv, hR2.cj, hR2.ok, hR2.bel, hR2.sb, hR2.nw, hR2.le, hR2.bl, hR2.sp⟩
   have hkeep : ∀ {o : Obj} {ρ3 : Env} {s3 : Hp} {β3 : Nat -> Nat} {g3 : Cfg} {a3 : Act} {w3 : World}, Rel w0 s0 (XE o) ρ3 s3 β3 g3 a3 w3 -> b6U E w2 w3 /\ EOk s3 ρ3 β3 g3.H D E w3 := by
    intro o ρ3 s3 β3 g3 a3 w3 h3
    refine ⟨⟨h3.sz, fun i hi => ?_⟩, fun i hi => ?_⟩
    ·obtain ⟨e1, _, x, e2, _⟩ := he i hi
     have := (h3.kp (i, x) (.inl (.inr ⟨hi, e2⟩))).is
     simp only at this e2
     rw [e2, this]
    ·obtain ⟨e1, _, x, e2, _⟩ := he i hi
     exact ⟨e1, h3.ms.dk (i, x) (.inr ⟨hi, e2⟩), x, h3.kp (i, x) (.inl (.inr ⟨hi, e2⟩))⟩
   have hturn : ∀ {o o' : Obj} {ρ3 : Env} {s3 : Hp} {β3 : Nat -> Nat} {g3 : Cfg} {a3 : Act} {w3 : World}, a7h o = true -> a7h o' = true -> Rel w0 s0 (XE o) ρ3 s3 β3 g3 a3 w3 -> Rel w0 s0 (XE o') ρ3 s3 β3 g3 a3 (w3.putObj (D + 1) o') := by
    intro o o' ρ3 s3 β3 g3 a3 w3 ho ho' h3
    refine h3.turned rfl rfl rfl h3.sz (by omega) (h3.ms.dk (D + 1, o) (.inl (.inr (.inr rfl)))) (h3.kp (D + 1, o) (.inl (.inl (.inr (.inr rfl))))).is ho (fun x hx => ?_)
    rcases hx with (⟨e1, e2⟩ | rfl | rfl) | ⟨e1, e2⟩
    ·have := hlt _ e1
     exact .inl ⟨by omega, .inl (.inl ⟨e1, e2⟩)⟩
    ·exact .inl ⟨by simp, .inl (.inr (.inl rfl))⟩
    ·exact .inr rfl
    ·have := (he _ e1).1
     exact .inl ⟨by omega, .inr ⟨e1, e2⟩⟩
   have hT' : ∀ g3 ρ3 s3, c0P ρ.k tr s1 (I (k + 1)) g3 ρ3 s3 -> a7A P (f, some (D + 1)) (fun e w' => b6U E w2 w' /\ e = .returned (.bool true) /\ JR w0 s0 m0 Ds D a.tmps r0 ρ.k s tr I (k + 1) E w')
     fn.body w0 s0 (XE (.loop { r0 with state := .busy })) g3 ρ3 s3 := by
    rintro g3 ρ3 s3 hrt β3 a3 w3 hr3
    have hL3 := (hr3.kp (D + 1, .loop { r0 with state := .busy }) (.inl (.inl (.inr (.inr rfl))))).is
    have had : a3.defers = [] := hr3.df
    unfold a1U
    obtain ⟨htd3, hle3, hk3, A3, hfit3, hI3⟩ := hrt
    rw [htd3]
    refine b9s (run_endRound none hL3) ?_
    rw [hbusy _ rfl]
    have h4 := ((hturn (o' := .loop r0) rfl rfl hr3).around g3.todo)
    rw [had] at h4
    have h5 := (h4.fits hfit3).1
    rw [b1N hfit3] at h5
    rw [hk3] at h5
    obtain ⟨q1, q2⟩ := hkeep h5
    exact ⟨q1, rfl, _, _, _, _, _, s3, β3, Hp.le_trans hle hle3, hI3, h5.kept rfl rfl rfl (Qd _) (fun x hx => .inl (.inl hx)), q2⟩
   have hT : ∀ g3 ρ3 s3, c5G P c fn Q (c0P ρ.k tr s1 (I (k + 1))) n p g3 ρ3 s3 -> a7A P (f, some (D + 1)) (fun e w' => b6U E w2 w' /\ e = .returned (.bool true) /\ JR w0 s0 m0 Ds D a.tmps r0 ρ.k s tr I (k + 1) E w')
     fn.body w0 s0 (XE (.loop r0)) g3 ρ3 s3 := by
    rintro g3 ρ3 s3 ⟨htd3, hvc3⟩ β3 a3 w3 hr3
    unfold a1U
    rw [htd3]
    refine b6M (run_beginRound (hr3.kp (D + 1, .loop r0) (.inl (.inl (.inr (.inr rfl))))).is r0st) ?_
    exact a6E hP (.inl hc) (.inr hnd) hT' n _ _ _ hvc3 β3 a3 _ ((hturn rfl rfl hr3).todo [.code (true :: p)])
   have := a6E hP (.inl hc) (.inr hnd) hT n _ _ _ hvc β1 _ w2 hR3
   simp only [a1U, b2p, Q4, Qm, a1j] at this
   have e1 : sub fn.body (false :: p) = assign := by simp [sub, hsub, a5I]
   have e2 : sub fn.body (true :: p) = bodyc := by simp [sub, hsub, a5I]
   rw [e1, e2] at this
   exact this
 refine (hit (D + 1) _ w1 hY hJ0).mono ?_
 rintro e w' ⟨v, rfl, E, hJ⟩
 obtain ⟨is, bs, vs, js, mm, s1, β1, hle, h0, h, he⟩ := hJ
 refine ⟨v, rfl, none, w'.putObj (D + 1) (.loop { r0 with state := .exhausted }), ?_, ?_⟩
 ·have := run_endLoop (P := P) (h.kp (D + 1, .loop r0) (.inl (.inr (.inr rfl)))).is (by rw [r0st]; simp)
  simp only [r0pe] at this ⊢
  exact this
 ·have h2 := Rel.back (r' := { r0 with state := .exhausted }) (g := tr) hlt hD0 (by have := h.around tr.todo; exact this) htr kc
  have h3 := after is bs vs js mm s1 h.ci h.cb h.cv h.cj hle h0 D hmD β1 _ _ h2
  have h4 := b7I h3 hkc
  simp only [Option.map_none, Option.toList_none, List.nil_append]
  rw [hadf]
  exact h4
end
end Go.Sx
namespace Go.Sx
open Go.RowKit
variable {P : Program}
def b6e (w : World) (B : Nat) : World := { w with heap := w.heap.extract 0 B }
theorem a3s {w : World} {B : Nat} (h : B <= w.heap.size) : (b6e w B).heap.size = B := by simp [b6e]; omega
theorem b1J {w : World} {B : Nat} (h : B <= w.heap.size) : Below B (b6e w B) w :=
 ⟨rfl, rfl, rfl, by simp [b6e]; omega, fun k hk => by simp [b6e, Array.getElem?_extract]; omega⟩
def a8F (ρ : Env) (β : Nat -> Nat) (H : List Blk) : Nat -> Prop := fun i => ∃ k b, H[k]? = some b /\ act ρ b /\ β k = i
def XB (w : World) (B : Nat) (E : Nat -> Prop) : Fx := { K := fun x => B <= x.1 /\ ¬ E x.1 /\ w.heap[x.1]? = some x.2, sz := w.heap.size }
def b4j (H : List Blk) : Bool := H.all fun b => match b with | .cells _ _ sh => !sh | _ => true
theorem c3g {H : List Blk} (h : b4j H = true) {k : Nat} {cs : List SV} {T : Nat} {sh : Bool} (hk : H[k]? = some (.cells cs T sh)) : sh = false := by
 have := Qa.1 h _ (List.mem_of_getElem? hk)
 simpa using this
theorem MRel.none {w0 : World} {X : Fx} {ρ : Env} (hE : X.E = []) (hm : ρ.m = []) (hk : ρ.k = 0) : MRel w0 X ρ :=
 ⟨by rw [hE, hk]; rfl, fun i x hi => by omega, by omega, by rw [hm]; simp [a0w], fun x _ => by rw [hm]; simp [a0w], fun i x _ hx => by rw [hm] at hx; simp at hx⟩
structure RelI (s : Hp) (B : Nat) (ρ : Env) (β : Nat -> Nat) (g : Cfg) (a : Act) (w : World) : Prop where
 sz : B <= w.heap.size
 lo : ∀ b o u, s b o = some u -> b < B
 m : ρ.m = []
 k : ρ.k = 0
 rel : Rel (b6e w B) s (XB w B (a8F ρ β g.H)) ρ s β g a w
theorem b8g {w0 : World} {s0 : Hp} {X : Fx} {ρ : Env} {s s1 : Hp} {β : Nat -> Nat} {g : Cfg} {a : Act} {w : World} {B : Nat} (h : Rel w0 s0 X ρ s1 β g a w) (hm : ρ.m = []) (hk0 : ρ.k = 0) (hd : X.ds = []) (hz : X.zs = []) (hns : b4j g.H = true) (hsz : B <= w0.heap.size)
  (hsub : Sub s w) (hlo : ∀ b o u, s b o = some u -> b < B) : RelI s B ρ β g a w := by
 have hB : B <= w.heap.size := Q9 hsz h.bel.size
 have hnone : ∀ i, B <= i -> ∀ o, s i o = none := fun i hi o => by
  cases hs : s i o with
  | none => rfl
  | some u => have := hlo _ _ _ hs; omega
 refine ⟨hB, hlo, hm, hk0, ⟨h.tm, h.df.trans hd, Q1 _, fun x hx => ?_, .none rfl hm hk0, ?_, h.ci, h.cb, h.cv, h.cj, h.ok, ?_, hsub, fun b o u h1 h2 => by rw [h1] at h2; simp at h2, Hp.le_refl _, fun k b hk => ?_, h.sp⟩⟩
 ·rcases hx with ⟨h1, h2, h3⟩ | hx
  ·exact ⟨h3, fun k b hk hb he => h2 ⟨k, b, hk, hb, he⟩, hnone _ h1⟩
  ·rw [hm] at hx; simp at hx
 ·have := h.fs; rw [hz] at this; exact this
 ·exact Grows.of_below (by rw [a3s hB]; exact b1J hB)
 ·have hb := h.bl k b hk
  rw [a3s hB]
  cases b with
  | cells cs T sh =>
   simp only [BOk] at hb ⊢
   refine ⟨by omega, hb.2.1, fun _ => hnone _ (by omega), fun hf => ?_⟩
   rw [c3g hns hk] at hf; simp at hf
  | row n T size =>
   simp only [BOk] at hb ⊢
   refine ⟨hb.1, hb.2.imp id ?_⟩
   rintro ⟨m, cap, cur, c1, c2, c3, c4, c5, c6, c7⟩
   exact ⟨m, cap, cur, c1, by omega, c3, c4, c5, c6, fun o u hu => by rw [hnone _ (by omega)] at hu; simp at hu⟩
theorem c4P {s : Hp} {B : Nat} {ρ : Env} {β : Nat -> Nat} {g : Cfg} {a : Act} {w w' : World} (h : RelI s B ρ β g a w) (hk : b6U (a8F ρ β g.H) w w') (hsub : Sub s w') : RelI s B ρ β g a w' := by
 have hB : B <= w'.heap.size := Q9 h.sz hk.1
 have hr := h.rel
 have hnone : ∀ i, B <= i -> ∀ o, s i o = none := fun i hi o => by
  cases hs : s i o with
  | none => rfl
  | some u => have := h.lo _ _ _ hs; omega
 refine ⟨hB, h.lo, h.m, h.k, ⟨hr.tm, hr.df, Q1 _, fun x hx => ?_, .none rfl h.m h.k, hr.fs, hr.ci, hr.cb, hr.cv, hr.cj, hr.ok, ?_, hsub, fun b o u h1 h2 => by rw [h1] at h2; simp at h2, Hp.le_refl _, fun k b hb => ?_, hr.sp⟩⟩
 ·rcases hx with ⟨h1, h2, h3⟩ | hx
  ·exact ⟨h3, fun k b hk hb he => h2 ⟨k, b, hk, hb, he⟩, hnone _ h1⟩
  ·rw [h.m] at hx; simp at hx
 ·exact Grows.of_below (by rw [a3s hB]; exact b1J hB)
 ·have hbl := hr.bl k b hb
  rw [a3s h.sz] at hbl
  rw [a3s hB]
  cases b with
  | cells cs T sh =>
   simp only [BOk] at hbl ⊢
   exact ⟨hbl.1, by rw [hk.2 _ ⟨k, _, hb, trivial, rfl⟩]; exact hbl.2.1, hbl.2.2⟩
  | row n T size =>
   simp only [BOk] at hbl ⊢
   refine ⟨hbl.1, hbl.2.imp id ?_⟩
   rintro ⟨m, cap, cur, c1, c2, c3, c4, c5, c6, c7⟩
   exact ⟨m, cap, cur, c1, c2, by rw [hk.2 _ ⟨k, _, hb, by show ρ.v.getD n vd ≠ _; rw [c1]; simp, rfl⟩]; exact c3, c4, c5, c6, c7⟩
theorem b9C {s : Hp} {B : Nat} {ρ : Env} {β : Nat -> Nat} {g : Cfg} {a : Act} {w : World} (h0 : RelI s B ρ β g a w) {ρ' : Env} {s' : Hp} {β' : Nat -> Nat} {g' : Cfg} {a' : Act} {w' : World}
  (h : Rel (b6e w B) s (XB w B (a8F ρ β g.H)) ρ' s' β' g' a' w') : Grows (a8F ρ β g.H) w w' /\ c3n (a8F ρ β g.H) (a8F ρ' β' g'.H) w w' := by
 have hbel := h.bel
 have hkp : ∀ i o, B <= i -> ¬ a8F ρ β g.H i -> w.heap[i]? = some o -> Kept s' ρ' β' g'.H w' (i, o) := fun i o h1 h2 h3 => h.kp (i, o) (.inl ⟨h1, h2, h3⟩)
 refine ⟨⟨hbel.os, hbel.tape, hbel.output, h.sz, fun k hk hE => ?_⟩, fun i hi => ?_⟩
 ·rcases Qn k B with h1 | h1
  ·rw [hbel.block k (by rw [a3s h0.sz]; exact h1) (by simp [XB]), (b1J h0.sz).block k h1]
  ·obtain ⟨o, ho⟩ : ∃ o, w.heap[k]? = some o := ⟨_, Qr hk⟩
   rw [ho]; exact (hkp k o h1 hE ho).is
 ·obtain ⟨k, b, hk, hb, rfl⟩ := hi
  have hbl := h.bl k b hk
  rw [a3s h0.sz] at hbl
  have hex : B <= β' k /\ ∃ o, w'.heap[β' k]? = some o := by
   cases b with
   | cells cs T sh => exact ⟨hbl.1, _, hbl.2.1⟩
   | row n T size =>
    simp only [BOk] at hbl
    rcases hbl.2 with c | ⟨m, cap, cur, c1, c2, c3, _⟩
    ·exact absurd c hb
    ·exact ⟨c2, _, c3⟩
  refine ⟨?_, hex.2⟩
  rcases Qn (β' k) w.heap.size with h1 | h1
  ·by_cases hE : a8F ρ β g.H (β' k)
   ·exact .inl hE
   ·obtain ⟨o, ho⟩ : ∃ o, w.heap[β' k]? = some o := ⟨_, Qr h1⟩
    exact absurd rfl ((hkp _ o hex.1 hE ho).own k b hk hb)
  ·exact .inr h1
section
variable (P : Program) (F : FuncId) (body : Code) (s : Hp) (B : Nat) (R : Ending -> World -> Prop)
def a6t (J : (Nat -> Prop) -> World -> Prop) (g : Cfg) (ρ : Env) : Prop := ∀ β a w, RelI s B ρ β g a w -> J (a8F ρ β g.H) w -> a1U P (F, none) R body ρ β s g a w
end
def c7e (J : (Nat -> Prop) -> World -> Prop) : Prop := ∀ E E' w w', J E w -> Grows E w w' -> c3n E E' w w' -> J E' w'
section
variable {c : Ctx} {F : FuncId} {fn : FnC} {s : Hp} {B : Nat} {R : Ending -> World -> Prop} {J : (Nat -> Prop) -> World -> Prop} {Q : Value -> Hp -> MS -> Prop}
def a4R (g : Cfg) : Bool := b4j g.H && match g.todo with | .dreg _ _ _ :: _ => false | _ => true
theorem c1L {g : Cfg} (h : a4R g = true) : ∀ p d ks k, g.todo ≠ .dreg p d ks :: k := by
 intro p d ks k he
 simp [a4R, he] at h
theorem c1z {g : Cfg} (h : a4R g = true) : b4j g.H = true := by
 simp only [a4R, Q5] at h; exact h.1
theorem b3I (hP : ProgOk P c) (hc : c.leaf = true) (hJ : c7e J) (n : Nat) {g : Cfg} {ρ : Env}
  (h : VC P Q (fun g' ρ' _ => a4R g' = true /\ ρ'.m = [] /\ ρ'.k = 0 /\ a6t P F fn.body s B R J g' ρ') (run c fn n g) ρ s) : a6t P F fn.body s B R J g ρ := by
 intro β a w hI hj
 refine a6E hP (.inl hc) (.inl rfl) (fun g' ρ' s' ht => ?_) n g ρ s h β a w hI.rel
 intro β' a' w' h'
 obtain ⟨e1, e2⟩ := b9C hI h'
 refine a9Z (t := g') (ρ := ρ') (β := β') (s := s) rfl (c1L ht.1) ?_
 exact ht.2.2.2 β' a' w' (b8g h' ht.2.1 ht.2.2.1 rfl rfl (c1z ht.1) (by rw [a3s hI.sz]; exact Q1 _) (fun b o u hu => h'.sb b o u (h'.le b o u hu)) hI.lo) (hJ _ _ _ _ hj e1 e2)
theorem b8W (hJ : c7e J) {t : Cfg} {A : Asg} {g : Cfg} {ρ : Env} (hfit : Sx.fits ⟨0, 0, 0, 0⟩ A t g = true) (hns : b4j t.H = true) (hhead : ∀ p d ks k, t.todo ≠ .dreg p d ks :: k)
  (h : ∀ js, js.length = A.js.length -> a6t P F fn.body s B R J t { i := A.is.map (IE.den ρ), b := A.bs.map (BE.den ρ), v := SV.dens ρ id A.vs, j := js }) : a6t P F fn.body s B R J g ρ := by
 intro β a w hI hj
 obtain ⟨hr', htd⟩ := hI.rel.fits hfit
 obtain ⟨_, e2⟩ := b9C hI hr'
 have hI' := b8g hr' hI.m hI.k rfl rfl hns (B := B) (by rw [a3s hI.sz]; exact Q1 _) hI.rel.sb hI.lo
 rw [b1N hfit] at hI' e2
 have hJ' := hJ _ _ _ _ hj (Grows.refl _ _) e2
 have hm := hI.m
 have hk := hI.k
 have h9 := h (SV.dens ρ β A.js) (by simp [a0m]) β a w
 have e : ({ i := A.is.map (IE.den ρ), b := A.bs.map (BE.den ρ), v := SV.dens ρ id A.vs, j := SV.dens ρ β A.js, m := ρ.m, k := ρ.k } : Env) = { i := A.is.map (IE.den ρ), b := A.bs.map (BE.den ρ), v := SV.dens ρ id A.vs, j := SV.dens ρ β A.js } := by rw [hm, hk]
 rw [e] at hI' hJ'
 exact a9Z htd hhead (h9 hI' hJ')
theorem a1w.mono {f : Fr} {R R' : Ending -> World -> Prop} {todo : List Item} {a : Act} {w : World} (h : a1w P f R todo a w) (hr : ∀ e w', R e w' -> R' e w') : a1w P f R' todo a w := fun cs hcs => by
 obtain ⟨e, w', m, r, x⟩ := h cs hcs
 exact ⟨e, w', m, hr _ _ r, x⟩
theorem c1m {L : Nat} {ys : List (List Value)} {JJ : Nat -> (Nat -> Prop) -> World -> Prop} (hY : Yielder P L ys s JJ) {g : Cfg} {ρ : Env} {p : List Bool} {i : Nat} {is : List Nat} {k : List PI}
  (htd : g.todo = .reg p (i :: is) :: k) {o : Oper} (ho : (a0F (sub fn.body p))[i]? = some o) (hg : a1S (a0F (sub fn.body p)) g.sl o = .known true) {fop : Operand} {args : Array Operand} {ts : Array Nat} (hop : o.op = .call { callee := .value fop, args, argTypes := ts })
  {m : Nat} (hf : ev g.sl fop = some (.va m)) (hm : ρ.v.getD m vd = yv L) {avs : List SV} (ha : evs g.sl args.toList = some avs) {kk : Nat} {vals : List Value} (hv : ∀ β, SV.dens ρ β avs = vals) (hys : ys[kk]? = some vals)
  (ht : a6t P F fn.body s B R (JJ (kk + 1)) { g with todo := .reg p is :: k, sl := a0E g.sl o.dst (.bool (.t true)) } ρ) : a6t P F fn.body s B R (JJ kk) g ρ := by
 intro β a w hI hj
 obtain ⟨r, hL, hsz, hgo⟩ := hY.call kk _ w vals hys hj
 have hsub' : ∀ w', JJ (kk + 1) (a8F ρ β g.H) w' -> Sub s w' := fun w' hw => hY.sub _ _ _ hw
 unfold a1U
 rw [htd]
 show a1w P (F, none) R (.inRegion (a0F (sub fn.body p)) (i :: is) :: k.map (a1j fn.body)) a w
 have hargs : args.map a.eval = vals.toArray := by
  have := a3o hI.rel.tm _ _ ha
  rw [hv β] at this
  rw [<- this]
  apply Array.ext'
  simp
 have hfv : a.eval fop = yv L := by rw [a0p hf hI.rel.tm]; exact hm
 refine c3I (fn := r.fn) (tmps := (r.params.zip vals.toArray).foldl (fun tmps (t, a) => tmps.setIfInBounds t a) r.tmps) (assign := r.assign) (body := r.body) ho (.inl rfl) (a2n hg hI.rel.tm) ?_ (hgo.mono ?_)
 ·simp only [execOp, hop, resolve, hargs, hfv, yv, Deferred.ofValue, Sem.run_bind, Sem.run_pure, Result.andThen_ok, invoke, Array.empty_append]
  exact run_yield hL (by simpa using hsz)
 ·rintro e w' ⟨hk, rfl, hj'⟩
  refine ⟨_, rfl, ?_⟩
  have h1 := c4P hI hk (hsub' w' hj')
  have h2 : RelI s B ρ β { g with todo := .reg p is :: k, sl := a0E g.sl o.dst (.bool (.t true)) } (a.put o.dst (.bool true)) w' := ⟨h1.sz, h1.lo, h1.m, h1.k, (h1.rel.put o.dst (.bool (.t true))).todo _⟩
  exact ht β _ w' h2 hj'
theorem b8C {fnc : Func} (hf : P.funcs[F]? = some fnc) (hres : fnc.results = #[]) {g : Cfg} {ρ : Env} (htd : g.todo = [] \/ ∃ q k, g.todo = .code q :: k /\ sub fn.body q = .ret)
  (hR : ∀ E w, J E w -> R (.returned (.tuple #[])) w) : a6t P F fn.body s B R J g ρ := by
 intro β a w hI hj
 have hr : (results fnc a.tmps).run P w = .ok (.tuple #[]) w := by
  rw [b6E, hres]; simp
 unfold a1U
 rcases htd with htd | ⟨q, k, htd, hq⟩
 ·rw [htd]
  exact c1b (.inl rfl) hf hI.rel.df hr (hR _ _ hj)
 ·rw [htd]
  exact c1b (.inr ⟨k.map (a1j fn.body), by simp [a1j, hq]⟩) hf hI.rel.df hr (hR _ _ hj)
theorem c2u {fnc : Func} (hf : P.funcs[F]? = some fnc) (hb : fnc.body = some fn.body) {ys : List (List Value)} {caps : List Value} {args : List SV} {is : List Int} {bs : List Bool} {vs : List Value}
  (hargs : ∀ L, SV.dens { i := is, b := bs, v := yv L :: vs, j := [] } id args = yv L :: caps) (hok : vs.all a2r = true)
  (h : ∀ L JJ B, Yielder P L ys s JJ -> a6t P F fn.body s B (fun e w' => ∃ v, e = .returned v /\ ∃ E, JJ ys.length E w') (JJ 0) (a1f fnc.ntmps args is.length bs.length (vs.length + 1)) { i := is, b := bs, v := yv L :: vs, j := [] }) : a7z P F caps s ys := by
 intro L JJ w hY hj
 have hsub := hY.sub _ _ _ hj
 refine b3e hf hb ?_
 have hr : Rel w s {} { i := is, b := bs, v := yv L :: vs, j := [] } s id (a1f fnc.ntmps args is.length bs.length (vs.length + 1)) { tmps := (SV.dens { i := is, b := bs, v := yv L :: vs, j := [] } id args).toArray ++ Array.replicate (fnc.ntmps - (SV.dens { i := is, b := bs, v := yv L :: vs, j := [] } id args).toArray.size) undef, defers := [] } w := by
  refine ⟨?_, rfl, Qd _, fun x hx => hx.elim (fun h => h.elim) (fun h => by simp at h), .none rfl rfl rfl, rfl, rfl, rfl, by simp [a1f], rfl, ?_, Grows.refl _ _, hsub, fun b o u h1 h2 => by rw [h1] at h2; simp at h2, Hp.le_refl _, fun k b hk => by simp [a1f] at hk, fun j k bj bk _ hj => by simp [a1f] at hj⟩
  ·simp only [a1f, b5A, b1q, List.size_toArray, a0m]
   apply Array.ext'
   simp
  ·intro x hx
   simp only [Qk] at hx
   rcases hx with rfl | hx
   ·rfl
   ·exact Qa.1 hok x hx
 have hI : RelI s w.heap.size _ _ _ _ w := b8g hr rfl rfl rfl rfl rfl (Q1 _) hsub (fun b o u hu => hsub.lt hu)
 rw [hargs L] at hI
 have hE : a8F { i := is, b := bs, v := yv L :: vs, j := [] } id (a1f fnc.ntmps args is.length bs.length (vs.length + 1)).H = noE := by
  funext i
  apply propext
  constructor
  ·rintro ⟨k, b, hk, _⟩; simp [a1f] at hk
  ·exact fun h => h.elim
 have := h L JJ w.heap.size hY id _ w hI (by rw [hE]; exact hj)
 have e : (#[yv L] ++ caps.toArray : Array Value) = (yv L :: caps).toArray := by simp
 rw [e]
 exact this
end
def c3K (body : Code) (g : Cfg) : Option (Nat × List SV × Cfg) :=
 match g.todo with
 | .reg p (i :: is) :: k =>
  match (a0F (sub body p))[i]? with
  | some o =>
   match a1S (a0F (sub body p)) g.sl o with
   | .known true =>
    match o.op with
    | .call { callee := .value fop, args, argTypes := _ } =>
     match ev g.sl fop, evs g.sl args.toList with
     | some (.va m), some avs => some (m, avs, { g with todo := .reg p is :: k, sl := a0E g.sl o.dst (.bool (.t true)) })
     | _, _ => none
    | _ => none
   | _ => none
  | none => none
 | _ => none
section
variable {P : Program} {F : FuncId} {fn : FnC} {s : Hp} {B : Nat} {R : Ending -> World -> Prop}
theorem c7x {L : Nat} {ys : List (List Value)} {JJ : Nat -> (Nat -> Prop) -> World -> Prop} (hY : Yielder P L ys s JJ) {g gt : Cfg} {ρ : Env} {m : Nat} {avs : List SV}
  (h1 : c3K fn.body g = some (m, avs, gt)) (hm : ρ.v.getD m vd = yv L) {kk : Nat} {vals : List Value} (hv : ∀ β, SV.dens ρ β avs = vals) (hys : ys[kk]? = some vals)
  (ht : a6t P F fn.body s B R (JJ (kk + 1)) gt ρ) : a6t P F fn.body s B R (JJ kk) g ρ := by
 unfold c3K at h1
 split at h1
 case h_2 => simp at h1
 rename_i p i is k htd
 split at h1
 case h_2 => simp at h1
 rename_i o ho
 split at h1
 case h_2 => simp at h1
 rename_i hg
 split at h1
 case h_2 => simp at h1
 rename_i fop args ts hop
 split at h1
 case h_2 => simp at h1
 rename_i m' avs' hf ha
 simp only [Q0, Q2] at h1
 obtain ⟨rfl, rfl, rfl⟩ := h1
 exact c1m hY htd ho hg hop hf hm ha hv hys ht
end
end Go.Sx
namespace Go.Sx
open Go.RowKit
variable {P : Program}
def Out.andThen (kk : Cfg -> Out) : Out -> Out
 | .ret gen v H => .ret gen v H
 | .ite c x y => .ite c (x.andThen kk) (y.andThen kk)
 | .need c k => .need c (k.andThen kk)
 | .load fl a cs di db dv k => .load fl a cs di db dv (k.andThen kk)
 | .app dst src size bytes k => .app dst src size bytes (k.andThen kk)
 | .cut n lo hi size k => .cut n lo hi size (k.andThen kk)
 | .chk n size k => .chk n size (k.andThen kk)
 | .scut n lo hi k => .scut n lo hi (k.andThen kk)
 | .appF n src size bytes k => .appF n src size bytes (k.andThen kk)
 | .hole dst size bytes k => .hole dst size bytes (k.andThen kk)
 | .fill n i es size k => .fill n i es size (k.andThen kk)
 | .call f args H res di db dv k => .call f args H res di db dv (k.andThen kk)
 | .callv n args res di db dv k => .callv n args res di db dv (k.andThen kk)
 | .newM cs T k => .newM cs T (k.andThen kk)
 | .mkM n zero T size bytes k => .mkM n zero T size bytes (k.andThen kk)
 | .storeM a cs k => .storeM a cs (k.andThen kk)
 | .appM d src size bytes T k => .appM d src size bytes T (k.andThen kk)
 | .mkMap K k => .mkMap K (k.andThen kk)
 | .mapGet n K key dflt ok res di db dv k => .mapGet n K key dflt ok res di db dv (k.andThen kk)
 | .mapSet n K key val k => .mapSet n K key val (k.andThen kk)
 | .mapClr n k => .mapClr n (k.andThen kk)
 | .mkQ k => .mkQ (k.andThen kk)
 | .qGet n key ok k => .qGet n key ok (k.andThen kk)
 | .qSet n key v k => .qSet n key v (k.andThen kk)
 | .qDel n key k => .qDel n key (k.andThen kk)
 | .qLen n k => .qLen n (k.andThen kk)
 | .rng n k => .rng n (k.andThen kk)
 | .next n w x y => .next n w (x.andThen kk) (y.andThen kk)
 | .entry n w k => .entry n w (k.andThen kk)
 | .copyM d x size k => .copyM d x size (k.andThen kk)
 | .both x y => .both (x.andThen kk) (y.andThen kk)
 | .stop c => kk c
 | .fail why => .fail why
theorem VC.andThen {P : Program} {Q : Value -> Hp -> MS -> Prop} {T : Cfg -> Env -> Hp -> Prop} {kk : Cfg -> Out} : ∀ (o : Out) (ρ : Env) (s : Hp), VC P Q T (o.andThen kk) ρ s -> VC P Q (fun g ρ s => VC P Q T (kk g) ρ s) o ρ s
 | .ret .., ρ, s, h => h
 | .ite c x y, ρ, s, h => ⟨fun hc => VC.andThen x ρ s (h.1 hc), fun hc => VC.andThen y ρ s (h.2 hc)⟩
 | .need c k, ρ, s, h => ⟨h.1, fun hc => VC.andThen k ρ s (h.2 hc)⟩
 | .load _ _ _ _ _ _ k, ρ, s, h => by
  obtain ⟨is, bs, vs, h1, h2, h3, h4, h5, h6⟩ := h
  exact ⟨is, bs, vs, h1, h2, h3, h4, h5, VC.andThen k _ s h6⟩
 | .app _ _ _ _ k, ρ, s, h => by
  obtain ⟨xs, es, h1, h2, h3, h4, h5⟩ := h
  exact ⟨xs, es, h1, h2, h3, h4, fun v s' a b => VC.andThen k _ _ (h5 v s' a b)⟩
 | .cut _ _ _ _ k, ρ, s, h => by
  obtain ⟨xs, h1, h2, h3, h4, h5⟩ := h
  exact ⟨xs, h1, h2, h3, h4, fun v a => VC.andThen k _ _ (h5 v a)⟩
 | .scut _ _ _ k, ρ, s, h => by
  obtain ⟨l, h1, h2, h3, h4, h5⟩ := h
  exact ⟨l, h1, h2, h3, h4, VC.andThen k _ _ h5⟩
 | .chk _ _ k, ρ, s, h => ⟨h.1, VC.andThen k _ s h.2⟩
 | .appF _ _ _ _ k, ρ, s, h => by
  obtain ⟨xs, es, h1, h2, h3, h4, h5, h6⟩ := h
  exact ⟨xs, es, h1, h2, h3, h4, h5, fun v s' a b => VC.andThen k _ _ (h6 v s' a b)⟩
 | .hole _ _ _ k, ρ, s, h => by
  obtain ⟨xs, h1, h2, h3, h5⟩ := h
  exact ⟨xs, h1, h2, h3, fun v v' s' a b c => VC.andThen k _ _ (h5 v v' s' a b c)⟩
 | .fill _ _ _ _ k, ρ, s, h => by
  obtain ⟨xs, h1, h2, h3, h5⟩ := h
  exact ⟨xs, h1, h2, h3, fun s' a b => VC.andThen k _ _ (h5 s' a b)⟩
 | .call _ _ _ _ _ _ _ k, ρ, s, h => fun β s1 a b => by
  obtain ⟨Qc, h1, h2⟩ := h β s1 a b
  refine ⟨Qc, h1, fun v s' m' a c => ?_⟩
  obtain ⟨is, bs, vs, e1, e2, e3, e4, e5, e6⟩ := h2 v s' m' a c
  exact ⟨is, bs, vs, e1, e2, e3, e4, e5, VC.andThen k _ _ e6⟩
 | .callv _ _ _ _ _ _ k, ρ, s, h => by
  obtain ⟨F, caps, Qc, h0, h1, h2, h3⟩ := h
  refine ⟨F, caps, Qc, h0, h1, h2, fun v s' m' a c => ?_⟩
  obtain ⟨is, bs, vs, e1, e2, e3, e4, e5, e6⟩ := h3 v s' m' a c
  exact ⟨is, bs, vs, e1, e2, e3, e4, e5, VC.andThen k _ _ e6⟩
 | .newM _ _ k, ρ, s, h => fun b hb => VC.andThen k _ _ (h b hb)
 | .mkM _ _ _ _ _ k, ρ, s, h => by
  obtain ⟨h1, h2, h3, h4⟩ := h
  exact ⟨h1, h2, h3, fun b hb => VC.andThen k _ _ (h4 b hb)⟩
 | .appM _ _ _ _ _ k, ρ, s, h => by
  obtain ⟨i, xs, es, h1, h2, h3, h4, h5, h6, h7⟩ := h
  exact ⟨i, xs, es, h1, h2, h3, h4, h5, fun he => VC.andThen k _ _ (h6 he), fun he b' cap' cur' e1 e2 e3 e4 e5 => VC.andThen k _ _ (h7 he b' cap' cur' e1 e2 e3 e4 e5)⟩
 | .storeM _ _ k, ρ, s, h => by
  obtain ⟨i, b, o, cur, T, h1, h2, h3, h4⟩ := h
  exact ⟨i, b, o, cur, T, h1, h2, h3, VC.andThen k _ _ h4⟩
 | .mkMap _ k, ρ, s, h => fun b hb => VC.andThen k _ _ (h b hb)
 | .mapGet _ _ _ _ _ _ _ _ _ k, ρ, s, h => by
  obtain ⟨i, b, es, clock, ks, l, h1, h2, h3, is, bs, vs, e1, e2, e3, e4, e5, e6⟩ := h
  exact ⟨i, b, es, clock, ks, l, h1, h2, h3, is, bs, vs, e1, e2, e3, e4, e5, VC.andThen k _ _ e6⟩
 | .mapSet _ _ _ _ k, ρ, s, h => by
  obtain ⟨i, b, es, clock, ks, l, h1, h2, h3, h4⟩ := h
  exact ⟨i, b, es, clock, ks, l, h1, h2, h3, fun es' clock' hm => VC.andThen k _ _ (h4 es' clock' hm)⟩
 | .mapClr _ k, ρ, s, h => by
  obtain ⟨i, b, es, clock, h1, h2, h3⟩ := h
  exact ⟨i, b, es, clock, h1, h2, VC.andThen k _ _ h3⟩
 | .mkQ k, ρ, s, h => fun b hb => VC.andThen k _ _ (h b hb)
 | .qGet _ _ _ k, ρ, s, h => by
  obtain ⟨i, b, es, clock, kv, h1, h2, h3, h4, h5⟩ := h
  exact ⟨i, b, es, clock, kv, h1, h2, h3, h4, VC.andThen k _ _ h5⟩
 | .qSet _ _ _ k, ρ, s, h => by
  obtain ⟨i, b, es, clock, kv, h1, h2, h3, h4, h5, h6⟩ := h
  exact ⟨i, b, es, clock, kv, h1, h2, h3, h4, h5, fun es' c' a b => VC.andThen k _ _ (h6 es' c' a b)⟩
 | .qDel _ _ k, ρ, s, h => by
  obtain ⟨i, b, es, clock, kv, h1, h2, h3, h4, h5, h6⟩ := h
  exact ⟨i, b, es, clock, kv, h1, h2, h3, h4, h5, fun es' c' a b => VC.andThen k _ _ (h6 es' c' a b)⟩
 | .qLen _ k, ρ, s, h => by
  obtain ⟨i, b, es, clock, h1, h2, h3⟩ := h
  exact ⟨i, b, es, clock, h1, h2, VC.andThen k _ _ h3⟩
 | .rng _ k, ρ, s, h => by
  obtain ⟨i, b, es, clock, h1, h2, h3⟩ := h
  exact ⟨i, b, es, clock, h1, h2, fun b' hb' => VC.andThen k _ _ (h3 b' hb')⟩
 | .next _ _ x y, ρ, s, h => by
  obtain ⟨i, b', j, b, since, c0, clock, seen, es, kv, h1, h2, h3, h4, h5, h6, h7, h8, h9⟩ := h
  exact ⟨i, b', j, b, since, c0, clock, seen, es, kv, h1, h2, h3, h4, h5, h6, h7, fun h0 => VC.andThen x _ _ (h8 h0), fun e he key v a b c => VC.andThen y _ _ (h9 e he key v a b c)⟩
 | .entry _ _ k, ρ, s, h => by
  obtain ⟨i, b', j, b, since, clock, seen, es, e, key, v, h1, h2, h3, h4, h5, h6, h7, h8, h9⟩ := h
  exact ⟨i, b', j, b, since, clock, seen, es, e, key, v, h1, h2, h3, h4, h5, h6, h7, h8, VC.andThen k _ _ h9⟩
 | .copyM _ _ _ k, ρ, s, h => by
  obtain ⟨i, b, o, dl, dcap, sl, cap, a, cur, T, vals, h1, h2, h3, h4, h5, h6, h7, h8⟩ := h
  exact ⟨i, b, o, dl, dcap, sl, cap, a, cur, T, vals, h1, h2, h3, h4, h5, h6, h7, VC.andThen k _ _ h8⟩
 | .both x y, ρ, s, h => ⟨VC.andThen x ρ s h.1, VC.andThen y ρ s h.2⟩
 | .stop c, ρ, s, h => h
 | .fail _, ρ, s, h => h.elim
def a2g : Code -> Bool
 | .region _ ops _ => ops.toList.all fun o => !a2V o
 | .seq a b => a2g a && a2g b
 | .cond _ a b => a2g a && a2g b
 | .block _ c => a2g c
 | .loop c => a2g c
 | .scope c => a2g c
 | .rangeFunc _ _ a b => a2g a && a2g b
 | _ => true
theorem b9o {c : Code} (h : a2g c = true) (d : Bool) : a2g (a5I d c) = true := by
 cases c <;> cases d <;> simp_all [a5I, a2g]
theorem c1E {body : Code} (h : a2g body = true) (p : List Bool) : a2g (sub body p) = true := by
 induction p with
 | nil => exact h
 | cons d p ih => exact b9o ih d
theorem c1s {body : Code} (h : a2g body = true) : ∀ p (i : Nat) (o : Oper), (a0F (sub body p))[i]? = some o -> a2V o = false := fun p i o ho => by
 have := c1E h p
 unfold a0F at ho
 split at ho
 ·rename_i id ops d hs
  rw [hs] at this
  simp only [a2g, Qa] at this
  have := this o (Array.mem_toList_iff.2 (Array.mem_of_getElem? ho))
  simpa using this
 ·simp at ho
theorem c1J {c : Ctx} (h : ProgOk P c) : ProgOk P { c with leaf := true } := ⟨h.tab, h.mixed, h.call, h.mtab, h.qtab⟩
def c9l (P : Program) (it : Nat -> List PV -> Option (List (List PV))) : Prop :=
 ∀ f caps ys, it f caps = some ys -> (∀ args w, (callFunc f args).run P w = .ok (.enter f args) w) /\ ∀ s B vs, Reps s B caps vs -> ∃ yv, (∀ t B', s.le t -> a0n t B' ys yv) /\ a7z P f vs s yv
def c8Z : List PI -> Bool
 | .dreg _ _ _ :: _ => false
 | _ => true
def c0M (c : Ctx) (fn : FnC) (fuel : Nat) (p : List Bool) (g : Cfg) : Out :=
 (run c fn fuel g).andThen fun g1 => if decide (g1.todo = [.begin, .code (true :: p)]) then (run c fn fuel { g1 with todo := [.code (true :: p)] }).andThen fun g2 => if decide (g2.todo = []) then .stop { g2 with sl := [] } else .fail "round" else .fail "begin"
def a9P (g : Cfg) : Asg := ⟨(Q6 g.ni).map .a, (Q6 g.nb).map .a, (Q6 g.nv).map .va, (Q6 g.nj).map .junk⟩
def rf1 : Code -> Operand | .rangeFunc g _ _ _ => g | _ => .tmp 0
def rf2 : Code -> Array Tmp | .rangeFunc _ ps _ _ => ps | _ => #[]
def rf3 : Code -> Code | .rangeFunc _ _ a _ => a | c => c
def rf4 : Code -> Code | .rangeFunc _ _ _ b => b | c => c
theorem b1S {α : Type} (l : List α) (d : α) : (Q6 l.length).map (fun n => l.getD n d) = l := by
 apply List.ext_getElem?
 intro i
 simp only [Qs, List.getD_eq_getElem?_getD]
 rcases Qn i l.length with h | h
 ·rw [List.getElem?_range h]; simp [Qp h]
 ·rw [Qt (l := Q6 l.length) (by simpa using h), Qt h]; rfl
theorem c5r {ρ : Env} {g : Cfg} (h1 : ρ.i.length = g.ni) (h2 : ρ.b.length = g.nb) (h3 : ρ.v.length = g.nv) : (a9P g).is.map (IE.den ρ) = ρ.i /\ (a9P g).bs.map (BE.den ρ) = ρ.b /\ SV.dens ρ id (a9P g).vs = ρ.v := by
 refine ⟨?_, ?_, ?_⟩
 ·simp only [a9P, Qq]
  rw [<- h1]
  exact b1S ρ.i 0
 ·simp only [a9P, Qq]
  rw [<- h2]
  exact b1S ρ.b false
 ·simp only [a9P, SV.dens_map, Qq]
  rw [<- h3]
  exact b1S ρ.v vd
theorem EnvRep.js {s : Hp} {ρp : PEnv} {is : List Int} {bs : List Bool} {vs : List Value} {js js' : List Value} {mm : MS} {K : Nat} (h : EnvRep s ρp { i := is, b := bs, v := vs, j := js, m := mm, k := K }) : EnvRep s ρp { i := is, b := bs, v := vs, j := js', m := mm, k := K } :=
 ⟨h.i, h.b, h.v, h.m, h.k, h.one, h.coh⟩
def b5D (Φ : Fns) (G : Rg) (ρ : PEnv) : Option (PV × List MO) := match ρ.v[G.n]? with
 | some (.fn f caps) => (G.it f caps).bind fun ys => (a3a Φ G ys ρ).bind fun ρ' => (G.after.ev Φ ρ').bind fun
  | .ret r σ => some (r, σ)
  | .jump _ _ => none
 | _ => none
def RgR (Φ : Fns) (G : Rg) (r : PV) (σ' : List MO) : Res -> Prop
 | .ret r1 σ1 => r1 = r /\ σ1 = σ'
 | .jump _ ρ => b5D Φ G ρ = some (r, σ')
structure RgIs (P : Program) (f : FuncId) (S : Sys) (G : Rg) : Prop where
 dm : ∀ Φ : Fns, (∀ f, CtP P f (Φ f)) -> ∀ as σ r σ', (∃ x, a0i S.ps as = some x /\ S.start.wp Φ { i := x.1, b := x.2.1, v := x.2.2, m := σ, k := σ.length } (RgR Φ G r σ')) ->
  (∀ args w, (callFunc f args).run P w = .ok (.enter f args) w) /\ ∀ s m vs, a0r s (inf σ m) σ m -> Coh σ m -> Reps s (inf σ m) as vs -> Ct P f vs s m (QF σ m r σ')
section
variable {c : Ctx} {fnc : Func} {f : FuncId}
theorem c6Y {S : Sys} {G : Rg} (hP : ProgOk P c) (hf : P.funcs[f]? = some fnc) (hen : ∀ args w, (callFunc f args).run P w = .ok (.enter f args) w) (hb : fnc.body.isSome = true)
  (fuel : Nat) {ni nb nv : Nat} {args : List SV} (hargs : a5z S.ps 0 0 0 = (args, ni, nb, nv)) (hp : S.prim = none) (hr : S.rg = some G) (hit : c9l P G.it)
  (h : Cfg) (p : List Bool) (kc : List PI) (ps : Array Tmp) {gop : Operand} {assign bodyc : Code} (hsub : sub (a1x fnc).body p = .rangeFunc gop ps assign bodyc) (htodo : h.todo = .code p :: kc) (hkc : c8Z kc = true) (hfs : h.fs = [])
  (hev : ev h.sl gop = some (.va G.n)) (hnd : a2g (a1x fnc).body = true)
  (hid : fits ⟨0, 0, 0, 0⟩ (a9P h) { h with todo := [], sl := [], fs := [h.sl] } { h with todo := [], sl := [], fs := [h.sl] } = true) (hok : ({ h with todo := [], sl := [], fs := [h.sl] } : Cfg).okB = true)
  {yvs : List SV} {ni2 nb2 nv2 : Nat} (hfill : a0D G.sh h.ni h.nb h.nv = (yvs, ni2, nb2, nv2)) (hlen : yvs.length = ps.size)
  (h0 : (comp [h] (run c (a1x fnc) fuel (a1f fnc.ntmps args ni nb nv)) ni nb nv).map PT.prune = some S.start)
  (h1 : (comp [{ h with todo := [], sl := [], fs := [h.sl] }] (c0M { c with leaf := true } (a1x fnc) fuel p (b2p { h with todo := [], sl := [], fs := [h.sl] } h.sl p ps.toList yvs (ni2 - h.ni) (nb2 - h.nb) (nv2 - h.nv))) ni2 nb2 nv2).map PT.prune = some G.round)
  (h2 : (comp [] (run c (a1x fnc) fuel (b8k { h with todo := [], sl := [], fs := [h.sl] } h.sl kc)) h.ni h.nb h.nv).map PT.prune = some G.after) : RgIs P f S G where
 dm Φ hΦ as σ r σ' hrun := by
  refine ⟨hen, fun s m vs hm hcoh hvs => ?_⟩
  have hbody : fnc.body = some (a1x fnc).body := by
   cases hb' : fnc.body with
   | none => rw [hb'] at hb; cases hb
   | some x => simp [a1x, hb']
  obtain ⟨x, hx, hres⟩ := hrun
  obtain ⟨vvs, hbd, hspec⟩ := a7d S.ps as vs hx hvs
  obtain ⟨c1, c2⟩ := hspec 0 0 0
  rw [hargs] at c1 c2
  simp only [Nat.zero_add, Q2] at c1
  obtain ⟨d1, d2, d3⟩ := c1
  let ρ : Env := { i := x.1, b := x.2.1, v := vvs, j := [], m := m, k := m.length }
  have hat : At ρ 0 0 0 x.1 x.2.1 vvs := ⟨fun j z h => by simpa [ρ] using h, fun j z h => by simpa [ρ] using h, fun j z h => by simpa [ρ] using h⟩
  have hden : SV.dens ρ id args = vs := c2 ρ id hat
  have hrep : EnvRep s { i := x.1, b := x.2.1, v := x.2.2, m := σ, k := σ.length } ρ := ⟨rfl, rfl, hbd.1, hm, hm.length, hbd.2, hcoh⟩
  rw [<- hden]
  have hvl := hbd.1.length
  refine c5u (ρ := ρ) hP hf hbody rfl fuel hrep.ok rfl rfl (fun w0 => ?_)
  have hl1 : ρ.i.length = ni := d1.symm
  have hl2 : ρ.b.length = nb := d2.symm
  have hl3 : ρ.v.length = nv := d3.symm
  rw [hl1, hl2, hl3]
  obtain ⟨st0, h0, hpr⟩ := Qb.1 h0
  rw [<- hpr] at hres
  have hwp := PT.prune_wp hres
  have hvc := a0G (σ0 := σ) (m0 := m) hΦ _ _ _ _ st0 _ ρ s _ h0 hwp hrep (Le2.refl _ _) (Q1 _) d1.symm d2.symm (by simp only; omega)
  have hvc := VC.le _ ρ s (sb := s) (K := m.length) (Hp.le_refl s) rfl hvc
  refine VC.mono ?_ ?_ _ _ _ hvc
  ·rintro v s' m' ⟨r', σ'', hR0, hqf⟩
   obtain ⟨rfl, rfl⟩ : r' = r /\ σ'' = σ' := hR0
   exact hqf
  rintro g ρ2 s2 ⟨hle2, hk2, q', A, t', ρp', hR', hB', hk', hq', hho, hfit, hE⟩
  have hfin : b5D Φ G ρp' = some (r, σ') := hR'
  have ht' : t' = h := by
   cases q' with
   | zero => simpa using hq'.symm
   | succ q => simp at hq'
  subst ht'
  unfold b5D at hfin
  split at hfin
  case h_2 => cases hfin
  rename_i ff caps hfn
  simp only [Q7] at hfin
  obtain ⟨ys, hys, ρe, hρe, res2, hres2, hfin⟩ := hfin
  refine b4k hfit (b0r hho) (fun js hjs => ?_)
  have hfit1 := hfit
  unfold Sx.fits at hfit1
  simp only [Q5, beq_iff_eq] at hfit1
  have hE' := hE js
  have a1 := hE'.i
  have a2 := hE'.b
  have a3 := hE'.v.length
  have b1 : ρp'.i.length = t'.ni := by rw [<- a1]; simp only [Qe]; have := hfit1.1.1.1.1.1.1.1.1.1.2; omega
  have b2 : ρp'.b.length = t'.nb := by rw [<- a2]; simp only [Qe]; have := hfit1.1.1.1.1.1.1.1.1.2; omega
  have b3 : ρp'.v.length = t'.nv := by rw [<- a3]; simp only [a0m]; have := hfit1.1.1.1.1.1.1.1.2; omega
  generalize hρ3 : ({ i := A.is.map (IE.den ρ2), b := A.bs.map (BE.den ρ2), v := SV.dens ρ2 id A.vs, j := js, m := ρ2.m, k := ρ2.k } : Env) = ρ3 at hE' ⊢
  have hm3 : ρ3.m = ρ2.m := by rw [<- hρ3]
  have hk3 : ρ3.k = m.length := by rw [<- hρ3]; exact hk2
  have e1 : ρ3.i.length = t'.ni := by rw [hE'.i]; exact b1
  have e2 : ρ3.b.length = t'.nb := by rw [hE'.b]; exact b2
  have e3 : ρ3.v.length = t'.nv := by rw [hE'.v.length]; exact b3
  obtain ⟨v, _, g1, g2⟩ := hE'.get hfn
  simp only [Rep] at g2
  obtain ⟨cv, rfl, g2⟩ := g2
  obtain ⟨eg, hit2⟩ := hit ff caps ys hys
  obtain ⟨yv, hyv, hiter⟩ := hit2 s2 _ cv g2
  have hylen := (hyv s2 (inf ρp'.m ρ3.m) (Hp.le_refl _)).length
  obtain ⟨i1, i2, i3⟩ := c5r e1 e2 e3
  let tr : Cfg := { t' with todo := [], sl := [], fs := [t'.sl] }
  have hfl := a6a G.sh t'.ni t'.nb t'.nv
  rw [hfill] at hfl
  simp only at hfl
  have hmarks := MarksOk.nil w0
  refine c8V (c := { c with leaf := true }) (fn := a1x fnc) (Q := QF σ m r σ') (Ds := []) (c1J hP) rfl hmarks (c1s hnd) hsub ?_ eg (ys := yv) hiter htodo hfs hev ?_ tr t'.sl rfl rfl rfl hok yvs (ni2 - t'.ni) (nb2 - t'.nb) (nv2 - t'.nv) fuel hlen
   (fun k is bs vs mm s1 => ∃ ρp : PEnv, a3a Φ G (ys.drop k) ρp = some ρe /\ EnvRep s1 ρp { i := is, b := bs, v := vs, j := [], m := mm, k := m.length } /\ Le2 σ m ρp.m mm /\ σ.length <= ρp.k) (a9P t') hid ?_ ?_ ?_
  ·intro p d ks k he
   rw [he] at hkc; simp [c8Z] at hkc
  ·intro β
   simp only [SV.den]
   exact g1
  ·rw [i1, i2, i3]
   refine ⟨ρp', by simpa using hρe, ?_, by rw [hm3]; exact hB', hk'⟩
   have : ρ3 = { i := ρ3.i, b := ρ3.b, v := ρ3.v, j := ρ3.j, m := ρ3.m, k := m.length } := by rw [<- hk3]
   rw [this] at hE'
   exact hE'.js
  ·
   rintro k args is bs vs' js' mm s1 l1 l2 l3 l4 hyk hles ⟨ρp, hri, hrep1, hB1, hkp⟩
   rw [hk3]
   have hky : k < ys.length := by rw [<- hylen]; exact (Qu.1 hyk).1
   have hdrop : ys.drop k = ys[k] :: ys.drop (k + 1) := List.drop_eq_getElem_cons hky
   rw [hdrop] at hri
   simp only [a3a, Q7] at hri
   obtain ⟨rb, hrb, res3, hres3, hri⟩ := hri
   obtain ⟨q0, ρ', rfl, hri⟩ : ∃ q0 ρ', res3 = .jump 0 ρ' /\ a3a Φ G (ys.drop (k + 1)) ρ' = some ρe := by
    split at hri
    ·exact ⟨0, _, rfl, hri⟩
    ·cases hri
   have hrepy : Reps s1 (inf ρp.m mm) ys[k] args := by
    have h9 := (hyv s1 (inf ρp.m mm) hles).get (Qp hky)
    obtain ⟨v, h10, h11⟩ := h9
    rw [hyk] at h10
    simp only [Q0] at h10; subst h10
    exact h11
   obtain ⟨vvs2, hb2, hspec2⟩ := a8Q G.sh ys[k] args hrb hrepy
   obtain ⟨c3, c4⟩ := hspec2 t'.ni t'.nb t'.nv
   rw [hfill] at c3 c4
   simp only [Q2] at c3
   obtain ⟨f1, f2, f3⟩ := c3
   have l1' : is.length = t'.ni := l1
   have l2' : bs.length = t'.nb := l2
   have l3' : vs'.length = t'.nv := l3
   refine ⟨rb.1, rb.2.1, vvs2, by omega, by omega, by omega, hb2.fine, fun β => ?_, ?_⟩
   ·exact c4 _ β (At.push (ρ := { i := is, b := bs, v := vs', j := js', m := mm, k := m.length }) l1' l2' l3' rb.1 rb.2.1 vvs2)
   ·have hrep2 := (hrep1.js (js' := js')).push (r := rb) (vvs := vvs2) hb2
    obtain ⟨rt0, h1, hpr1⟩ := Qb.1 h1
    rw [<- hpr1] at hres3
    have hwp3 := PT.prune_wp (PT.ev_wp (R := (· = .jump 0 ρ')) hres3 rfl)
    have q1 := hrep1.i
    have q2 := hrep1.b
    have q3 := hrep1.v.length
    simp only at q1 q2 q3
    have hv2 := hb2.1.length
    have hvc3 := a0G (σ0 := σ) (m0 := m) hΦ _ _ _ _ rt0 _ _ s1 _ h1 hwp3 hrep2 hB1 hkp
     (by simp only [PEnv.push, Q8]; rw [<- q1]; omega) (by simp only [PEnv.push, Q8]; rw [<- q2]; omega) (by simp only [PEnv.push, Q8]; rw [<- q3]; omega)
    have hvc3 := VC.le _ _ s1 (sb := s1) (K := m.length) (Hp.le_refl s1) rfl hvc3
    unfold c0M at hvc3
    refine VC.mono ?_ ?_ _ _ _ (VC.andThen _ _ _ hvc3)
    ·rintro v s' m' ⟨r', σ'', hbad, _⟩; cases hbad
    ·intro g3 ρ3' s3 h3
     split at h3
     case isFalse => exact h3.elim
     rename_i hd
     refine ⟨by simpa using hd, ?_⟩
     refine VC.mono ?_ ?_ _ _ _ (VC.andThen _ _ _ h3)
     ·rintro v s' m' ⟨r', σ'', hbad, _⟩; cases hbad
     ·intro g4 ρ4 s4 h4
      split at h4
      case isFalse => exact h4.elim
      rename_i hd4
      obtain ⟨hle4, hk4, q4, A4, t4, ρp4, hR4, hB4, hkk4, hq4, hho4, hfit4, hE4⟩ := h4
      simp only [Res.jump.injEq] at hR4
      obtain ⟨rfl, rfl⟩ := hR4
      simp only [List.getElem?_cons_zero, Q0] at hq4
      subst hq4
      refine ⟨by simpa using hd4, hle4, hk4, A4, hfit4, ρp4, hri, ?_, hB4, hkk4⟩
      have := hE4 []
      rw [hk4] at this
      exact this
  ·
   rintro is bs vs' js' mm s1 l1 l2 l3 l4 hles ⟨ρp, hri, hrep1, hB1, hkp⟩ D hmD
   rw [hylen] at hri
   rw [List.drop_length] at hri
   simp only [a3a, Q0] at hri
   subst hri
   rw [hk3]
   obtain ⟨at0, h2, hpr2⟩ := Qb.1 h2
   rw [<- hpr2] at hres2
   have hwp4 := PT.prune_wp (PT.ev_wp (R := (· = res2)) hres2 rfl)
   have q1 := hrep1.i
   have q2 := hrep1.b
   have q3 := hrep1.v.length
   simp only at q1 q2 q3
   have l1' : is.length = t'.ni := l1
   have l2' : bs.length = t'.nb := l2
   have l3' : vs'.length = t'.nv := l3
   have hvc4 := a0G (σ0 := σ) (m0 := m) hΦ _ _ _ _ at0 _ { i := is, b := bs, v := vs', j := js', m := mm, k := m.length } s1 _ h2 hwp4 hrep1.js hB1 hkp (by rw [<- q1]; exact l1') (by rw [<- q2]; exact l2') (by rw [<- q3]; exact l3')
   refine a6E (T := fun _ _ _ => False) hP (b7m.marks m (D :: []) hmD hf rfl) (.inl rfl) (fun _ _ _ h => h.elim) fuel _ _ _ (VC.mono ?_ ?_ _ _ _ hvc4)
   ·rintro v s' m' ⟨r', σ'', rfl, hqf⟩
    simp only [Q0, Q2] at hfin
    obtain ⟨rfl, rfl⟩ := hfin
    exact hqf
   ·rintro g5 ρ5 s5 ⟨q5, A5, t5, ρp5, hR5, hB5, hk5, hq5, _⟩
    simp at hq5
theorem RgIs.ok {S : Sys} {G : Rg} (h : RgIs P f S G) (hp : S.prim = none) (hr : S.rg = some G) : SysOk P f S where
 ct Φ hΦ n as σ r σ' hrun := by
  refine h.dm Φ hΦ as σ r σ' ?_
  unfold Sys.run at hrun
  simp only [hp, hr] at hrun
  unfold c6b at hrun
  simp only [Q7] at hrun
  obtain ⟨x, hx, res, hres, hfin⟩ := hrun
  refine ⟨x, hx, PT.ev_wp hres ?_⟩
  cases res with
  | ret r1 σ1 => simp only [Q0, Q2] at hfin; exact hfin
  | jump q ρ =>
   simp only at hfin
   unfold RgR b5D
   split at hfin
   ·rename_i h1
    simp only [h1]
    exact hfin
   ·cases hfin
end
end Go.Sx
namespace Go.Sx
theorem a0y {x : PV} {rows : List (List PV)} {n : Nat} (h : x.rowsOf n = some rows) : x.len = rows.length /\ x.isKind 0 = true /\ x.one = true := by
 cases x <;> simp only [PV.rowsOf, reduceCtorEq, Q0] at h
 ·subst h; exact ⟨rfl, rfl, rfl⟩
 ·split at h
  ·simp only [Q0] at h; subst h; exact ⟨rfl, rfl, rfl⟩
  ·cases h
theorem a3z {x : PV} {rows : List (List PV)} {n off : Nat} (h : x.rowsOf n = some rows) {i : Nat} {r : List PV} (hr : rows[i]? = some r) : a5G (i : Int) n off x = some (.row r off) := by
 cases x <;> simp only [PV.rowsOf, reduceCtorEq, Q0] at h
 ·subst h; simp at hr
 ·split at h
  ·rename_i hn
   simp only [Q0] at h; subst h
   simp [a5G, hn, hr]
  ·cases h
theorem a8f (a b : Nat) : ltB (a : Int) (b : Int) = decide (a < b) := by simp [ltB]
theorem a5X {α : Type} {l : List α} {i : Nat} {x : α} (h : l[i]? = some x) : l.drop i = x :: l.drop (i + 1) := by
 rw [List.drop_eq_getElem?_toList_append (i := i), h]; rfl
end Go.Sx
namespace Go.Sx
open Go.RowKit Go.ChangeShapes Go.WideShapes
def a5k (sh : TypeId -> List PV -> Prop) : List TypeId -> List PV -> Prop
 | [], ps => ps = []
 | t :: ts, ps => ∃ a b, ps = a ++ b /\ sh t a /\ a5k sh ts b
def a1m (P : Program) : Nat -> TypeId -> List PV -> Prop
 | 0, _, _ => False
 | n + 1, t, ps => match P.underlying t with
  | some .bool => ∃ b, ps = [.bool b]
  | some (.int k) => ∃ z, ps = [.int k z] /\ loI k <= z /\ z <= hiI k
  | some .string => ∃ s, ps = [.str s]
  | some (.struct fs) => a5k (a1m P n) (fs.toList.map (·.type)) ps
  | some (.array m e) => a5k (a1m P n) (Qf m e) ps
  | some (.slice e) => ∃ rows, ps = [.sl (P.cellsOf e) rows] /\ (∀ r ∈ rows, a1m P n e r) /\ rows.length <= 9223372036854775807
  | _ => False
mutual
def PV.wt : PV -> Nat
 | .sl _ rows => PV.wtss rows + 1
 | .str s => s.length + 1
 | _ => 1
def PV.wts : List PV -> Nat
 | [] => 0
 | p :: l => p.wt + PV.wts l
def PV.wtss : List (List PV) -> Nat
 | [] => 0
 | l :: ls => PV.wts l + PV.wtss ls
end
theorem PV.wts_append : ∀ (l m : List PV), PV.wts (l ++ m) = PV.wts l + PV.wts m
 | [], m => by simp [PV.wts]
 | p :: l, m => by simp only [List.cons_append, PV.wts, PV.wts_append l m]; omega
mutual
def a4L {H : Type} : DataW H -> Nat
 | .lit (.string bytes) => bytes.length + 1
 | .lit _ => 1
 | .nil => 1
 | .ptr d => a4L d + 1
 | .slice elems spare => a7j elems + a7j spare + 1
 | .agg parts => a7j parts + 1
 | .iface _ d => a4L d + 1
 | .map entries => c4V entries + 1
 | .held _ => 1
def a7j {H : Type} : List (DataW H) -> Nat
 | [] => 0
 | d :: r => a4L d + a7j r
def c4V {H : Type} : List (Lit × DataW H) -> Nat
 | [] => 0
 | x :: r => c9C x + c4V r
def c9C {H : Type} : Lit × DataW H -> Nat
 | (.string bytes, d) => bytes.length + a4L d + 1
 | (_, d) => a4L d + 1
end
def a4Q (P : Program) : Nat -> List Field -> Option Nat
 | o, [] => some o
 | o, f :: fs => if f.offset = o then a4Q P (o + P.cellsOf f.type) fs else none
def c1R (P : Program) (S : List TypeId) (t : TypeId) : Bool := match P.underlying t with
 | some .bool | some (.int _) | some .string => true
 | some (.struct fs) => fs.toList.all (fun f => S.contains f.type) && a4Q P 0 fs.toList == some (P.cellsOf t)
 | some (.array m e) => S.contains e && P.cellsOf t == m * P.cellsOf e
 | some (.slice e) => S.contains e && decide (0 < P.cellsOf e)
 | _ => false
def closed (P : Program) (S : List TypeId) : Bool := S.all (c1R P S)
theorem b5j {P : Program} : ∀ (fs : List Field) (o : Nat) {tot}, a4Q P o fs = some tot -> o <= tot
 | [], o, tot, h => by simp only [a4Q, Q0] at h; omega
 | f :: fs, o, tot, h => by
  simp only [a4Q] at h
  split at h
  ·have := b5j fs _ h; omega
  ·cases h
section
variable {H : Type} {enc : TypeId × Value -> H} {P : Program} {w : World} {spare : Nat -> Bool} {held : Bool}
def a8C (P : Program) (w : World) (m : Nat) (t : TypeId) (cs : List Value) (d : DataW H) (ps : List PV) : Prop :=
 Reps (hpOf w) [] ps cs /\ a1m P m t ps /\ (∀ p ∈ ps, p.one = true) /\ PV.wts ps <= a4L d
theorem b5m {S : List TypeId} {m : Nat} (ih : ∀ t cs (x : DataW H × List MemPlace), t ∈ S -> DataW.trod enc P w 0 spare held m t cs = some x -> ∃ ps, a8C P w m t cs x.1 ps) :
  ∀ (fs : List Field) (o : Nat) (A cs : List Value) (xs : List (DataW H × List MemPlace)) (tot : Nat), (∀ f ∈ fs, f.type ∈ S) -> a4Q P o fs = some tot -> A.length = o -> (A ++ cs).length = tot -> xs.length = fs.length ->
   (∀ (j : Nat) f, fs[j]? = some f -> DataW.trod enc P w 0 spare held m f.type (((A ++ cs).drop f.offset).take (P.cellsOf f.type)) = xs[j]?) ->
   ∃ ps, Reps (hpOf w) [] ps cs /\ a5k (a1m P m) (fs.map (·.type)) ps /\ (∀ p ∈ ps, p.one = true) /\ PV.wts ps <= a7j (xs.map (·.1))
 | [], o, A, cs, xs, tot, _, ht, hA, hl, hx, _ => by
  simp only [a4Q, Q0] at ht
  rw [Q8] at hl
  have : cs = [] := Qg (by omega)
  subst this
  have : xs = [] := Qg (by simpa using hx)
  subst this
  exact ⟨[], rfl, rfl, by simp, by simp [PV.wts]⟩
 | f :: fs, o, A, cs, xs, tot, hS, ht, hA, hl, hx, hi => by
  simp only [a4Q] at ht
  split at ht
  case isFalse => cases ht
  rename_i ho
  have hle := b5j _ _ ht
  have hl' := hl
  rw [Q8] at hl'
  match xs, hx with
  | y :: xs, hx =>
  have h0 := hi 0 f rfl
  rw [ho, <- hA, List.drop_left] at h0
  obtain ⟨ps0, a1, a2, a3, a4⟩ := ih _ _ _ (hS f (by simp)) h0
  have hcl : (cs.take (P.cellsOf f.type)).length = P.cellsOf f.type := by rw [List.length_take]; omega
  obtain ⟨ps, b1, b2, b3, b4⟩ := b5m ih fs (o + P.cellsOf f.type) (A ++ cs.take (P.cellsOf f.type)) (cs.drop (P.cellsOf f.type)) xs tot (fun g hg => hS g (by simp [hg])) ht
   (by rw [Q8, hcl, hA]) (by rw [Qv, Qh]; exact hl) (by simpa using hx) (fun j g hg => by
    rw [Qv, Qh]
    have := hi (j + 1) g (by simpa using hg)
    simpa using this)
  refine ⟨ps0 ++ ps, ?_, ⟨ps0, ps, rfl, a2, b2⟩, ?_, ?_⟩
  ·have := Reps.append a1 b1
   rwa [Qh] at this
  ·intro p hp
   rcases Qw.1 hp with hp | hp
   ·exact a3 p hp
   ·exact b3 p hp
  ·rw [PV.wts_append]; simp only [Q4, a7j]; omega
theorem b6F {S : List TypeId} {m : Nat} {e : TypeId} (he : e ∈ S) (ih : ∀ t cs (x : DataW H × List MemPlace), t ∈ S -> DataW.trod enc P w 0 spare held m t cs = some x -> ∃ ps, a8C P w m t cs x.1 ps) :
  ∀ (n : Nat) (cs : List Value) (xs : List (DataW H × List MemPlace)), cs.length = n * P.cellsOf e -> xs.length = n ->
   (∀ i, i < n -> DataW.trod enc P w 0 spare held m e ((cs.drop (i * P.cellsOf e)).take (P.cellsOf e)) = xs[i]?) ->
   ∃ ps, Reps (hpOf w) [] ps cs /\ a5k (a1m P m) (Qf n e) ps /\ (∀ p ∈ ps, p.one = true) /\ PV.wts ps <= a7j (xs.map (·.1))
 | 0, cs, xs, hl, hx, _ => by
  have : cs = [] := Qg (by omega)
  subst this
  have : xs = [] := Qg hx
  subst this
  exact ⟨[], rfl, rfl, by simp, by simp [PV.wts]⟩
 | n + 1, cs, xs, hl, hx, hi => by
  rw [Nat.add_mul, Nat.one_mul] at hl
  match xs, hx with
  | y :: xs, hx =>
  have h0 := hi 0 (by omega)
  rw [Nat.zero_mul, List.drop_zero] at h0
  obtain ⟨ps0, a1, a2, a3, a4⟩ := ih _ _ _ he h0
  obtain ⟨ps, b1, b2, b3, b4⟩ := b6F he ih n (cs.drop (P.cellsOf e)) xs (by rw [List.length_drop]; omega) (by simpa using hx) (fun i hi' => by
    have := hi (i + 1) (by omega)
    rw [Nat.add_mul, Nat.one_mul, Nat.add_comm] at this
    rw [List.drop_drop]
    simpa using this)
  refine ⟨ps0 ++ ps, ?_, ⟨ps0, ps, rfl, a2, b2⟩, ?_, ?_⟩
  ·have := Reps.append a1 b1
   rwa [Qh] at this
  ·intro p hp
   rcases Qw.1 hp with hp | hp
   ·exact a3 p hp
   ·exact b3 p hp
  ·rw [PV.wts_append]; simp only [Q4, a7j]; omega
theorem c0j {s : Hp} {B : Inf} : ∀ (zs : List (List Value × List PV)), (∀ z ∈ zs, Reps s B z.2 z.1) -> a0n s B (zs.map (·.2)) (zs.map (·.1))
 | [], _ => rfl
 | z :: zs, h => ⟨z.1, zs.map (·.1), rfl, h z (by simp), c0j zs (fun y hy => h y (by simp [hy]))⟩
theorem c1W : ∀ (zs : List (List Value × List PV)) (ys : List (DataW H × List MemPlace)), zs.length = ys.length -> (∀ (i : Nat) z y, zs[i]? = some z -> ys[i]? = some y -> PV.wts z.2 <= a4L y.1) -> PV.wtss (zs.map (·.2)) <= a7j (ys.map (·.1))
 | [], _, _, _ => by simp [PV.wtss]
 | z :: zs, [], h, _ => by simp at h
 | z :: zs, y :: ys, h, hi => by
  have h0 := hi 0 z y rfl rfl
  have := c1W zs ys (by simpa using h) (fun i z y hz hy => hi (i + 1) z y (by simpa using hz) (by simpa using hy))
  simp only [Q4, PV.wtss, a7j]; omega
theorem c4R {S : List TypeId} {m : Nat} {t e : TypeId} (hu : P.underlying t = some (.slice e)) (he : e ∈ S) (hpos : 0 < P.cellsOf e) (ih : ∀ t cs (x : DataW H × List MemPlace), t ∈ S -> DataW.trod enc P w 0 spare held m t cs = some x -> ∃ ps, a8C P w m t cs x.1 ps)
  {cs : List Value} {x : DataW H × List MemPlace} (h : DataW.trod enc P w 0 spare held (m + 1) t cs = some x) : ∃ ps, a8C P w (m + 1) t cs x.1 ps := by
 unfold DataW.trod at h
 rw [hu] at h
 cases cs with
 | nil => simp at h
 | cons v cs =>
 cases cs with
 | cons _ _ => cases v <;> simp at h
 | nil =>
 cases v <;> try (simp at h; done)
 rename_i a len cap
 cases a with
 | none =>
  cases len <;> cases cap <;> simp at h
  subst h
  refine ⟨[.sl (P.cellsOf e) []], ⟨_, [], rfl, ⟨[], ⟨by simp, none, 0, rfl, by simp, by simp⟩, rfl, by simp⟩, rfl⟩, ?_, by simp [PV.one], by simp [PV.wts, PV.wt, PV.wtss, a4L]⟩
  simp only [a1m, hu]
  exact ⟨[], rfl, by simp, by simp⟩
 | some a =>
  simp only at h
  split at h
  case isFalse => simp at h
  rename_i hcond
  simp only [Q7, Qb] at h
  obtain ⟨elems, hel, rest, _, rfl⟩ := h
  obtain ⟨h1, h2⟩ := b2R hel
  have key : ∀ i, i < len -> ∃ z : List Value × List PV, z.1.length = P.cellsOf e /\ (∀ j u, z.1[j]? = some u -> w.cell? ((a.add (i * P.cellsOf e)).add j) = some u) /\ ∃ y, elems[i]? = some y /\ a8C P w m e z.1 y.1 z.2 := by
   intro i hi
   obtain ⟨y, hy1, hy2⟩ := h2 i i (by simp [hi])
   simp only [Q7] at hy2
   obtain ⟨cs, hcs, htr⟩ := hy2
   obtain ⟨ps, hps⟩ := ih _ _ _ he htr
   unfold World.cells? at hcs
   split at hcs
   case isFalse => simp at hcs
   obtain ⟨c1, c2⟩ := b2R hcs
   refine ⟨(cs, ps), by simp only; rw [c1]; simp, fun j u hj => ?_, y, hy1, hps⟩
   have hjl : j < P.cellsOf e := by
    have := (Qu.1 hj).1
    simp only at this
    rw [c1] at this; simpa using this
   obtain ⟨y', hy', hc'⟩ := c2 j j (by simp [hjl])
   simp only at hj
   rw [hj] at hy'
   simp only [Q0] at hy'; subst hy'
   exact hc'
  obtain ⟨zs, e1, e2⟩ := c2o len key
  have hmem : ∀ z ∈ zs, ∃ y : DataW H × List MemPlace, a8C P w m e z.1 y.1 z.2 := fun z hz => by
   obtain ⟨i, hi⟩ := Qy.1 hz
   obtain ⟨_, _, y, _, hy⟩ := e2 i z hi
   exact ⟨y, hy⟩
  refine ⟨[.sl (P.cellsOf e) (zs.map (·.2))], ⟨_, [], rfl, ⟨zs.map (·.1), ⟨?_, some a, cap, by simp [e1], by simp [e1, hcond.2.1], fun hne => ?_⟩, c0j zs (fun z hz => ?_), ?_⟩, rfl⟩, ?_, by simp [PV.one], ?_⟩
  ·intro x hx
   obtain ⟨z, hz, rfl⟩ := Q3.1 hx
   obtain ⟨i, hi⟩ := Qy.1 hz
   exact (e2 i z hi).1
  ·have hsp : a.spot = none := by
    cases zs with
    | nil => simp at hne
    | cons z zs =>
     obtain ⟨hl, hcell, _⟩ := e2 0 z rfl
     have := hcell 0 (z.1[0]'(by omega)) (Qp (by omega))
     have h3 : (a.add (0 * P.cellsOf e)).add 0 = a := by simp [Addr.add]
     rw [h3] at this
     exact World.cell?_spot this
   obtain ⟨b, o, sp⟩ := a
   simp only at hsp; subst hsp
   refine ⟨b, o, rfl, fun i y hy j u hj => ?_⟩
   rw [Qs, Qb] at hy
   obtain ⟨z, hz, rfl⟩ := hy
   exact c5R (a := ⟨b, o, none⟩) rfl ((e2 i z hz).2.1 j u hj)
  ·obtain ⟨y, hy⟩ := hmem z hz
   exact hy.1
  ·intro r hr
   obtain ⟨z, hz, rfl⟩ := Q3.1 hr
   obtain ⟨y, hy⟩ := hmem z hz
   exact hy.2.2.1
  ·simp only [a1m, hu]
   refine ⟨_, rfl, fun r hr => ?_, ?_⟩
   ·obtain ⟨z, hz, rfl⟩ := Q3.1 hr
    obtain ⟨y, hy⟩ := hmem z hz
    exact hy.2.1
   ·rw [Qe, e1]
    exact Q9 hcond.2.1 hcond.2.2
  ·have := c1W zs elems (by rw [e1, h1]; simp) (fun i z y hz hy => by
    obtain ⟨_, _, y', hy', ho⟩ := e2 i z hz
    rw [hy] at hy'
    simp only [Q0] at hy'; subst hy'
    exact ho.2.2.2)
   simp only [PV.wts, PV.wt, a4L]; omega
theorem c2G {S : List TypeId} (hS : closed P S = true) : ∀ (m : Nat) (t : TypeId) (cs : List Value) (x : DataW H × List MemPlace), t ∈ S -> DataW.trod enc P w 0 spare held m t cs = some x -> ∃ ps, a8C P w m t cs x.1 ps
 | 0, t, cs, x, _, h => by simp [DataW.trod] at h
 | m + 1, t, cs, x, ht, h => by
  have ih := fun t cs x => c2G hS m t cs x
  have hc := Qa.1 hS t ht
  unfold c1R at hc
  split at hc
  ·rename_i hu
   unfold DataW.trod at h
   rw [hu] at h
   cases cs with
   | nil => simp at h
   | cons v cs =>
   cases cs with
   | cons _ _ => cases v <;> simp at h
   | nil =>
   cases v <;> try (simp at h; done)
   simp only [Q0] at h; subst h
   exact ⟨[.bool _], ⟨_, [], rfl, rfl, rfl⟩, by simp only [a1m, hu]; exact ⟨_, rfl⟩, by simp [PV.one], by simp [PV.wts, PV.wt, a4L]⟩
  ·rename_i k hu
   obtain ⟨n, rfl, rfl, hw⟩ := DataW.trod_int hu h
   exact ⟨[.int k n], ⟨_, [], rfl, rfl, rfl⟩, by simp only [a1m, hu]; exact ⟨_, rfl, c0Y hw⟩, by simp [PV.one], by simp [PV.wts, PV.wt, a4L]⟩
  ·rename_i hu
   unfold DataW.trod at h
   rw [hu] at h
   cases cs with
   | nil => simp at h
   | cons v cs =>
   cases cs with
   | cons _ _ => cases v <;> simp at h
   | nil =>
   cases v <;> try (simp at h; done)
   rename_i s
   simp only at h
   split at h
   case isFalse => cases h
   simp only [Q0] at h; subst h
   refine ⟨[.str s.data.toList], ⟨_, [], rfl, ?_, rfl⟩, by simp only [a1m, hu]; exact ⟨_, rfl⟩, by simp [PV.one], by simp [PV.wts, PV.wt, a4L]⟩
   simp [Rep]
  ·rename_i fs hu
   simp only [Q5, Qa, beq_iff_eq] at hc
   obtain ⟨xs, n, hn, rfl, hl, hx, hi⟩ := DataW.trod_struct hu h
   simp only [Qz] at hn; subst hn
   obtain ⟨ps, a1, a2, a3, a4⟩ := b5m ih fs.toList 0 [] cs xs _ (fun f hf => by simpa using hc.1 f hf) hc.2 rfl hl (by simpa using hx) (fun j f hj => by simpa using hi j f (by simpa using hj))
   exact ⟨ps, a1, by simp only [a1m, hu]; exact a2, a3, by simp only [a4L]; omega⟩
  ·rename_i n e hu
   simp only [Q5, beq_iff_eq] at hc
   obtain ⟨xs, n', hn, rfl, hl, hx, hi⟩ := DataW.trod_array hu h
   simp only [Qz] at hn; subst hn
   obtain ⟨ps, a1, a2, a3, a4⟩ := b6F (by simpa using hc.1) ih n cs xs (by rw [hl, hc.2]) hx hi
   exact ⟨ps, a1, by simp only [a1m, hu]; exact a2, a3, by simp only [a4L]; omega⟩
  ·rename_i e hu
   simp only [Q5, decide_eq_true_eq] at hc
   exact c4R hu (by simpa using hc.1) hc.2 ih h
  ·cases hc
variable {r : Go.Reach} {b0 : Nat}
theorem c1Q {t e : TypeId} {n : Nat} {v : Value} (ht : P.underlying t = some (.array n e)) (h : Value.okWide P w r b0 t v) : ∃ cs : Array Value, v = .agg cs := by
 simp only [Value.okWide, ht] at h
 obtain ⟨cs, h1, _⟩ := h
 exact ⟨cs, h1⟩
theorem c2r {S : List TypeId} (hS : closed P S = true) {t : TypeId} (ht : t ∈ S) {v : Value} {d : DataW H} {pl : List MemPlace} (hv : ∃ cs : Array Value, v = .agg cs) (h : DataW.Trod enc P w 0 spare held t v d pl) :
  ∃ n ps, Rep (hpOf w) [] (.agg ps) v /\ a1m P n t ps /\ PV.wts ps <= a4L d := by
 obtain ⟨cs, rfl⟩ := hv
 obtain ⟨fuel, h⟩ := h
 obtain ⟨ps, h1, h2, _, h4⟩ := c2G hS fuel t _ _ ht h
 refine ⟨fuel, ps, ⟨cs.toList, by simp, ?_⟩, h2, h4⟩
 exact h1
theorem c3x {S : List TypeId} (hS : closed P S = true) {t : TypeId} (ht : t ∈ S) {fs : Array Field} (hu : P.underlying t = some (.struct fs)) {v : Value} {d : DataW H} {pl : List MemPlace} (hval : Value.okWide P w r b0 t v) (h : DataW.Trod enc P w 0 spare held t v d pl) :
  ∃ n ps, Rep (hpOf w) [] (.agg ps) v /\ a1m P n t ps /\ PV.wts ps <= a4L d := c2r hS ht (by obtain ⟨cs, h, _⟩ := okWide_struct hu hval; exact ⟨cs, h⟩) h
theorem c4m {S : List TypeId} (hS : closed P S = true) {t : TypeId} (ht : t ∈ S) {m : Nat} {e : TypeId} (hu : P.underlying t = some (.array m e)) {v : Value} {d : DataW H} {pl : List MemPlace} (hval : Value.okWide P w r b0 t v) (h : DataW.Trod enc P w 0 spare held t v d pl) :
  ∃ n ps, Rep (hpOf w) [] (.agg ps) v /\ a1m P n t ps /\ PV.wts ps <= a4L d := c2r hS ht (c1Q hu hval) h
end
mutual
theorem PV.frz_low {k : Nat} {look : Nat -> Option MO} : ∀ p : PV, p.low k = true -> p.frz k look = some p
 | .int .., _ => rfl
 | .bool _, _ => rfl
 | .str _, _ => rfl
 | .undef, _ => rfl
 | .nilS, _ => rfl
 | .nilF, _ => rfl
 | .nilP, _ => rfl
 | .nilI, _ => rfl
 | .nilM, _ => rfl
 | .sl n rows, h => by simp only [PV.low] at h; simp [PV.frz, h]
 | .cell l o, h => by simp only [PV.low] at h; simp [PV.frz, h]
 | .ref h' o, h => by simp only [PV.low, decide_eq_true_eq] at h; simp [PV.frz, h]
 | .mp h', h => by simp only [PV.low, decide_eq_true_eq] at h; simp [PV.frz, h]
 | .msl h' .., h => by simp only [PV.low, decide_eq_true_eq] at h; simp [PV.frz, h]
 | .rsl h' .., h => by simp only [PV.low, decide_eq_true_eq] at h; simp [PV.frz, h]
 | .fn f l, h => by simp only [PV.low] at h; simp [PV.frz, PV.frzs_low l h]
 | .agg l, h => by simp only [PV.low] at h; simp [PV.frz, PV.frzs_low l h]
 | .tup l, h => by simp only [PV.low] at h; simp [PV.frz, PV.frzs_low l h]
theorem PV.frzs_low {k : Nat} {look : Nat -> Option MO} : ∀ l : List PV, PV.lows k l = true -> PV.frzs k look l = some l
 | [], _ => rfl
 | p :: l, h => by
  simp only [PV.lows, Q5] at h
  simp [PV.frzs, PV.frz_low p h.1, PV.frzs_low l h.2]
end
theorem c9y {α : Type} (σ : List α) (A : α) (r : List α) : (σ ++ A :: r)[σ.length]? = some A := by simp
theorem c9n {α : Type} (σ : List α) (A B : α) (r : List α) : (σ ++ A :: B :: r)[σ.length + 1]? = some B := by
 rw [List.getElem?_append_right (by omega)]; simp
theorem c9E {α : Type} (σ : List α) (A X : α) (r : List α) : (σ ++ A :: r).set σ.length X = σ ++ X :: r := by simp
theorem c9B {α : Type} (σ : List α) (A B X : α) (r : List α) : (σ ++ A :: B :: r).set (σ.length + 1) X = σ ++ A :: X :: r := by
 rw [List.set_append_right _ _ (by omega)]; simp
theorem c2N {Φ : Fns} {x y : PT} {ρ : PEnv} {r : Res} (hx : x.ev Φ ρ = some r) (hy : y.ev Φ ρ = some r) : (PT.both x y).ev Φ ρ = some r := by simp [PT.ev, hx, hy, Res.beq_self]
section
variable (Φ : Fns) (ρ : PEnv) (k x y : PT)
theorem a0T (gen : Bool) (v : SV) (H : List Blk) : (PT.ret gen v H).ev Φ ρ = ((v.pv ρ (a5F ρ H 3)).bind fun p => (a0k ρ gen p).map fun r => .ret r.1 r.2) := rfl
theorem a0W (c : BE) : (PT.ite c x y).ev Φ ρ = (if c.safe ρ then (if c.pe ρ then x.ev Φ ρ else y.ev Φ ρ) else none) := rfl
theorem a0N (c : BE) : (PT.need c k).ev Φ ρ = (if c.safe ρ then (if c.pe ρ then k.ev Φ ρ else none) else none) := rfl
theorem a0K (fl : Bool) (a : SV) (ks : List Kd) : (PT.load fl a ks k).ev Φ ρ = ((a0g ρ a).bind fun l => (a0b ρ fl ks.length l).bind fun x => (a0c ks x).bind fun r => k.ev Φ (ρ.push r)) := rfl
theorem a0X (d : Option Nat) (src : Src) (size : Nat) : (PT.app d src size k).ev Φ ρ = ((match d with | none => some [] | some n => (ρ.v[n]?).bind (PV.rowsOf size)).bind fun xs => (a2l ρ size src).bind fun es =>
   if xs.length + es.length <= 1000000 then k.ev Φ { ρ with v := ρ.v ++ [PV.sl size (xs ++ es)] } else none) := rfl
theorem a0V (n : Nat) (lo hi : Option IE) (size : Nat) : (PT.cut n lo hi size k).ev Φ ρ = (((ρ.v[n]?).bind (PV.rowsOf size)).bind fun xs =>
   if 0 <= a2P ρ lo /\ a2P ρ lo <= a2M ρ hi xs.length /\ a2M ρ hi xs.length <= xs.length then k.ev Φ { ρ with v := ρ.v ++ [.sl size ((xs.take (a2M ρ hi xs.length).toNat).drop (a2P ρ lo).toNat)] } else none) := rfl
theorem a0P (n : Nat) (lo hi : Option IE) : (PT.scut n lo hi k).ev Φ ρ = (match ρ.v[n]? with
  | some (.str l) => if 0 <= a2P ρ lo /\ a2P ρ lo <= a2M ρ hi l.length /\ a2M ρ hi l.length <= l.length then k.ev Φ { ρ with v := ρ.v ++ [.str ((l.take (a2M ρ hi l.length).toNat).drop (a2P ρ lo).toNat)] } else none
  | _ => none) := rfl
theorem a0Y (n size : Nat) : (PT.chk n size k).ev Φ ρ = (((ρ.v[n]?).bind (PV.rowsOf size)).bind fun _ => k.ev Φ ρ) := rfl
theorem a0J (n : Nat) (src : Src) (size : Nat) : (PT.appF n src size k).ev Φ ρ = (((ρ.v[n]?).bind (PV.rowsOf size)).bind fun xs => (a2l ρ size src).bind fun es =>
   if es.length ≠ 0 /\ xs.length + es.length <= 1000000 then k.ev Φ { ρ with v := ρ.v ++ [PV.sl size (xs ++ es)] } else none) := rfl
theorem a0O (f : Nat) (args : List SV) (H : List Blk) (shs : List Sh) : (PT.call f args H shs k).ev Φ ρ = ((SV.pvs ρ (a5F ρ H 3) args).bind fun as => (Φ f as ρ.m).bind fun r => (a0a shs r.1).bind fun x => k.ev Φ { ρ.push x with m := r.2 }) := rfl
theorem a0j (n : Nat) (args : List SV) (shs : List Sh) : (PT.callv n args shs k).ev Φ ρ = (match ρ.v[n]? with
  | some (.fn f cap) => (SV.pvs ρ noOwn args).bind fun as => (Φ f (as ++ cap) ρ.m).bind fun r => (a0a shs r.1).bind fun x => k.ev Φ { ρ.push x with m := r.2 }
  | _ => none) := rfl
theorem a0Q (cs : List SV) (T : Nat) : (PT.newM cs T k).ev Φ ρ = ((SV.pvs ρ noOwn cs).bind fun l => k.ev Φ { ρ with v := ρ.v ++ [.ref ρ.m.length 0], m := ρ.m ++ [.cells l T] }) := rfl
theorem a0U (n : IE) (zero : List SV) (T size bytes : Nat) : (PT.mkM n zero T size bytes k).ev Φ ρ = ((SV.pvs ρ noOwn zero).bind fun z =>
   if 0 <= n.pe ρ /\ n.pe ρ <= 1000000 /\ bytes <= 100000000 then k.ev Φ { ρ with v := ρ.v ++ [.msl ρ.m.length 0 (n.pe ρ).toNat (n.pe ρ).toNat size], m := ρ.m ++ [.cells (Qf (n.pe ρ).toNat z).flatten T] } else none) := rfl
theorem a0s (a : SV) (cs : List SV) : (PT.storeM a cs k).ev Φ ρ = (match a0g ρ a with
  | some (.obj h off) => match ρ.m[h]? with
   | some (.cells l T) => (SV.pvs ρ noOwn cs).bind fun new => if off + new.length <= l.length then k.ev Φ { ρ with m := ρ.m.set h (.cells (a1H l off new) T) } else none
   | _ => none
  | some (.elt h len i sz off) => match ρ.m[h]? with
   | some (.row rows sz' T) => if rows.length = len /\ sz' = sz then (rows[i]?).bind fun r => (SV.pvs ρ noOwn cs).bind fun new => if off + new.length <= r.length /\ new.all PV.one = true then k.ev Φ { ρ with m := ρ.m.set h (.row (rows.set i (a1H r off new)) sz' T) } else none else none
   | _ => none
  | _ => none) := rfl
theorem a0M (d : SV) (src : Src) (size T : Nat) : (PT.appM d src size T k).ev Φ ρ = ((d.pv ρ noOwn).bind fun p => (a2l ρ size src).bind fun es => match p with
  | .nilS => if es.length <= 1000000 then (if es.length = 0 then k.ev Φ { ρ with v := ρ.v ++ [.nilS] } else k.ev Φ { ρ with v := ρ.v ++ [.rsl ρ.m.length es.length size], m := ρ.m ++ [.row es size T] }) else none
  | .rsl h len sz => match ρ.m[h]? with
   | some (.row rows sz' T') => if rows.length = len /\ sz = size /\ sz' = size /\ T' = T /\ len + es.length <= 1000000 then
     (if es.length = 0 then k.ev Φ { ρ with v := ρ.v ++ [.rsl h len sz] } else k.ev Φ { ρ with v := ρ.v ++ [.rsl h (len + es.length) size], m := ρ.m.set h (.row (rows ++ es) size T) }) else none
   | _ => none
  | _ => none) := rfl
theorem a0B (K : IntKind) : (PT.mkMap K k).ev Φ ρ = (k.ev Φ { ρ with v := ρ.v ++ [.mp ρ.m.length], m := ρ.m ++ [.mp [] [] K] }) := rfl
theorem a0t (n : Nat) (K : IntKind) (key : IE) (dflt : SV) (ok : Bool) (shs : List Sh) : (PT.mapGet n K key dflt ok shs k).ev Φ ρ = (match ρ.v[n]? with
  | some (.mp h) => match ρ.m[h]? with
   | some (.mp ks vs K') => if K' = K then (dflt.pv ρ noOwn).bind fun d =>
     (a0a shs (if ok then .tup [(a1Q ks vs (key.pe ρ)).getD d, .bool (a1Q ks vs (key.pe ρ)).isSome] else (a1Q ks vs (key.pe ρ)).getD d)).bind fun x => k.ev Φ (ρ.push x) else none
   | _ => none
  | _ => none) := rfl
theorem a0u (n : Nat) (K : IntKind) (key : IE) (v : SV) : (PT.mapSet n K key v k).ev Φ ρ = (match ρ.v[n]? with
  | some (.mp h) => match ρ.m[h]? with
   | some (.mp ks vs K') => if K' = K then (v.pv ρ noOwn).bind fun x => k.ev Φ { ρ with m := ρ.m.set h (.mp (a2F ks vs (key.pe ρ) x).1 (a2F ks vs (key.pe ρ) x).2 K) } else none
   | _ => none
  | _ => none) := rfl
theorem a0v (n : Nat) : (PT.mapClr n k).ev Φ ρ = (match ρ.v[n]? with
  | some (.mp h) => match ρ.m[h]? with
   | some (.mp _ _ K') => k.ev Φ { ρ with m := ρ.m.set h (.mp [] [] K') }
   | _ => none
  | _ => none) := rfl
theorem a1W (n : Nat) (key : List IE) (ok : Bool) : (PT.qGet n key ok k).ev Φ ρ = (match ρ.v[n]? with
  | some (.mp h) => match ρ.m[h]? with
   | some (.mq kv _) => if a3r key.length kv then k.ev Φ (ρ.push ([(a0q kv (key.map (IE.pe ρ))).getD 0], if ok then [(a0q kv (key.map (IE.pe ρ))).isSome] else [], [])) else none
   | _ => none
  | _ => none) := rfl
theorem a0L (q : Nat) (is : List IE) (bs : List BE) (vs : List SV) : (PT.jump q is bs vs).ev Φ ρ = ((BE.all ρ bs).bind fun b => (SV.pvs ρ noOwn vs).map fun v => .jump q { i := is.map (IE.pe ρ), b, v, m := ρ.m, k := ρ.k }) := rfl
end
theorem c5w {α : Type} {l r : List α} {i : Nat} {x : α} (h : l.drop i = x :: r) : l[i]? = some x := by
 have := congrArg (fun l => l[0]?) h
 simpa using this
theorem a3e (x : Int) : eqB x x = true := by simp [eqB]
theorem a3q {P : Program} {n : Nat} {t : TypeId} {k : IntKind} {ps : List PV} (hu : P.underlying t = some (.int k)) (h : a1m P n t ps) : ∃ z, ps = [.int k z] /\ loI k <= z /\ z <= hiI k := by
 cases n with
 | zero => exact h.elim
 | succ n => simpa only [a1m, hu] using h
theorem b9h {P : Program} {n : Nat} {t : TypeId} {fs : Array Field} {ps : List PV} (hu : P.underlying t = some (.struct fs)) (h : a1m P n t ps) : ∃ m, m < n /\ a5k (a1m P m) (fs.toList.map (·.type)) ps := by
 cases n with
 | zero => exact h.elim
 | succ n => exact ⟨n, by omega, by simpa only [a1m, hu] using h⟩
theorem b9I {P : Program} {n : Nat} {t : TypeId} {k : Nat} {e : TypeId} {ps : List PV} (hu : P.underlying t = some (.array k e)) (h : a1m P n t ps) : ∃ m, m < n /\ a5k (a1m P m) (Qf k e) ps := by
 cases n with
 | zero => exact h.elim
 | succ n => exact ⟨n, by omega, by simpa only [a1m, hu] using h⟩
theorem b9u {P : Program} {n : Nat} {t : TypeId} {e : TypeId} {ps : List PV} (hu : P.underlying t = some (.slice e)) (h : a1m P n t ps) : ∃ m rows, m < n /\ ps = [.sl (P.cellsOf e) rows] /\ (∀ r ∈ rows, a1m P m e r) /\ rows.length <= 9223372036854775807 := by
 cases n with
 | zero => exact h.elim
 | succ n =>
  simp only [a1m, hu] at h
  obtain ⟨rows, h1, h2, h3⟩ := h
  exact ⟨n, rows, by omega, h1, h2, h3⟩
theorem lift_true {P : Program} {F : List PV -> List MO -> Option (PV × List MO)} {f : Nat} (hF : CtP P f F) {as : List PV} (hev : F as [] = some (.bool true, [])) {W : World} {args : List Value} (hr : Reps (hpOf W) [] as args) :
  Calls P f args.toArray W fun e W' => e = .returned (.bool true) /\ Below W.heap.size W W' := by
 refine ((hF as [] _ _ hev).2 (hpOf W) [] args rfl (Coh.of_none (by simp)) hr W (c5X W) ⟨List.nodup_nil, by simp, by simp⟩).mono fun e W' hh => ?_
 obtain ⟨v, s', m', rfl, hg, _, _, _, _, _, _, hrep, _, _⟩ := hh
 simp only [Rep] at hrep
 subst hrep
 exact ⟨rfl, hg.os, hg.tape, hg.output, hg.size, fun k hk => hg.block k hk (by simp [a0w])⟩
end Go.Sx
namespace Go.Sx
def OLe {α : Type} (x y : Option α) : Prop := ∀ r, x = some r -> y = some r
theorem OLe.refl {α : Type} (x : Option α) : OLe x x := fun _ h => h
theorem OLe.none {α : Type} (y : Option α) : OLe none y := fun _ h => by cases h
theorem OLe.bind {α β : Type} {x y : Option α} {f g : α -> Option β} (h : OLe x y) (hf : ∀ a, OLe (f a) (g a)) : OLe (x.bind f) (y.bind g) := fun r hr => by
 rw [Q7] at *
 obtain ⟨a, h1, h2⟩ := hr
 exact ⟨a, h a h1, hf a r h2⟩
theorem OLe.ite {α : Type} {c : Prop} [Decidable c] {x y x' y' : Option α} (h : OLe x x') (k : OLe y y') : OLe (if c then x else y) (if c then x' else y') := by
 split
 ·exact h
 ·exact k
def FLe (Φ Ψ : Fns) : Prop := ∀ f a m, OLe (Φ f a m) (Ψ f a m)
theorem b0R {Φ Ψ : Fns} (hF : FLe Φ Ψ) : ∀ (t : PT) (ρ : PEnv), OLe (t.ev Φ ρ) (t.ev Ψ ρ) := by
 intro t
 induction t with
 | call f args H shs k ih => intro ρ; simp only [PT.ev]; exact .bind (.refl _) fun _ => .bind (hF _ _ _) fun _ => .bind (.refl _) fun _ => ih _
 | callv n args shs k ih =>
  intro ρ
  simp only [PT.ev]
  split
  ·exact .bind (.refl _) fun _ => .bind (hF _ _ _) fun _ => .bind (.refl _) fun _ => ih _
  ·exact .none _
 | both x y ihx ihy => intro ρ; simp only [PT.ev]; exact .bind (ihx _) fun _ => .bind (ihy _) fun _ => .refl _
 | ite c x y ihx ihy => intro ρ; simp only [PT.ev]; exact .ite (.ite (ihx _) (ihy _)) (.refl _)
 | stuck => intro ρ; exact .refl _
 | _ =>
  rename_i ih
  intro ρ
  simp only [PT.ev]
  repeat' first
   | exact OLe.refl _
   | exact OLe.none _
   | exact ih _
   | refine OLe.bind (OLe.refl _) fun _ => ?_
   | refine OLe.ite ?_ ?_
   | split
theorem loop_mono {Φ Ψ : Fns} (hF : FLe Φ Ψ) (S : Sys) : ∀ (n q : Nat) (ρ : PEnv), OLe (S.loop Φ n q ρ) (S.loop Ψ n q ρ)
 | 0, q, ρ => by simp only [Sys.loop]; exact .refl _
 | n + 1, q, ρ => by
  simp only [Sys.loop]
  refine .bind (.refl _) fun t => .bind (b0R hF t ρ) fun r => ?_
  cases r with
  | ret r σ => exact .refl _
  | jump q' ρ' => exact loop_mono hF S n q' ρ'
theorem b5q {Φ Ψ : Fns} (hF : FLe Φ Ψ) (G : Rg) : ∀ (ys : List (List PV)) (ρ : PEnv), OLe (a3a Φ G ys ρ) (a3a Ψ G ys ρ)
 | [], ρ => by simp only [a3a]; exact .refl _
 | y :: ys, ρ => by
  simp only [a3a]
  refine .bind (.refl _) fun r => .bind (b0R hF _ _) fun r => ?_
  split
  ·exact b5q hF G ys _
  ·exact .none _
theorem b9L {Φ Ψ : Fns} (hF : FLe Φ Ψ) (S : Sys) (n : Nat) (a : List PV) (m : List MO) : OLe (S.run Φ n a m) (S.run Ψ n a m) := by
 unfold Sys.run
 split
 ·exact .refl _
 split
 ·unfold c6b
  refine .bind (.refl _) fun r => .bind (b0R hF _ _) fun r => ?_
  split
  ·exact .refl _
  ·split
   ·refine .bind (.refl _) fun ys => .bind (b5q hF _ _ _) fun ρ' => .bind (b0R hF _ _) fun r => .refl _
   ·exact .none _
 ·refine .bind (.refl _) fun r => .bind (b0R hF _ _) fun r => ?_
  split
  ·exact .refl _
  ·exact loop_mono hF S n _ _
theorem b6I {T T' : Nat -> Option Sys} (h : ∀ f S, T f = some S -> T' f = some S) : ∀ n, FLe (a0e T n) (a0e T' n)
 | 0 => fun f a m => by simp only [a0e]; exact .refl _
 | n + 1 => fun f a m => by
  simp only [a0e]
  exact .bind (fun S hS => h f S hS) fun S => b9L (b6I h n) S n a m
end Go.Sx
