/- SX: iterators: what a function that yields does, whatever the loop's rounds do; and the loop over one. -/
import Derived.Test.YtbmfegliomkkfaaHSxT
namespace Go.Sx
open Go.RowKit
variable {P : Program}

/-- From w to w' nothing has turned that was there, but what lies in E. -/
structure Grows (E : Nat → Prop) (w w' : World) : Prop where
  os : w'.os = w.os
  tape : w'.tape = w.tape
  output : w'.output = w.output
  size : w.heap.size ≤ w'.heap.size
  block : ∀ k, k < w.heap.size → ¬ E k → w'.heap[k]? = w.heap[k]?
theorem Grows.of_below {E : Nat → Prop} {w w' : World} (h : Below w.heap.size w w') : Grows E w w' := ⟨h.os, h.tape, h.output, h.size, fun k hk _ => h.block k hk⟩
theorem Grows.put {E : Nat → Prop} {w : World} {L : Nat} {o : Obj} (hL : E L) : Grows E w (w.putObj L o) :=
  ⟨rfl, rfl, rfl, by simp, fun k _ hE => World.putObj_heap_other (by rintro rfl; exact hE hL)⟩
theorem lt_of_heap {w : World} {i : Nat} {o : Obj} (h : w.heap[i]? = some o) : i < w.heap.size := (Array.getElem?_eq_some_iff.1 h).1

/-- What a frame knows holds on, if what has turned is none of its own, nothing that it knows and nothing that is kept. -/
theorem Rel.grows {w0 : World} {s0 : Hp} {X : Fx} {ρ : Env} {s : Hp} {β : Nat → Nat} {g : Cfg} {a : Act} {w w' : World} {E : Nat → Prop} (h : Rel w0 s0 X ρ s β g a w) (hg : Grows E w w')
    (hE : ∀ i, E i → w0.heap.size ≤ i ∧ (∀ (k : Nat) (b : Blk), g.H[k]? = some b → act ρ b → β k ≠ i) ∧ (∀ o, s i o = none) ∧ ∀ o, ¬ X.K (i, o)) : Rel w0 s0 X ρ s β g a w' := by
  have hcell : ∀ i o, w.heap[i]? = some o → ¬ E i → w'.heap[i]? = some o := fun i o hi ho => by
    rw [hg.block i (lt_of_heap hi) ho]; exact hi
  refine ⟨h.tm, h.df, Nat.le_trans h.sz hg.size, fun x hx => ⟨?_, (h.kp x hx).own, (h.kp x hx).un⟩, h.fs, h.ci, h.cb, h.cv, h.cj, h.ok, ⟨hg.os.trans h.bel.os, hg.tape.trans h.bel.tape, hg.output.trans h.bel.output, Nat.le_trans h.bel.size hg.size, fun k hk => ?_⟩, ?_, h.nw, h.le, ?_, h.sp⟩
  · exact hcell _ _ (h.kp x hx).is (fun he => (hE _ he).2.2.2 x.2 hx)
  · rw [hg.block k (Nat.lt_of_lt_of_le hk h.bel.size) (fun he => by have := (hE k he).1; omega)]; exact h.bel.block k hk
  · intro b off u hb
    have hc := h.sb b off u hb
    have hnE : ¬ E b := fun he => by have := (hE b he).2.2.1 off; rw [hb] at this; simp at this
    rw [← hc]
    exact World.cell?_of_block (hg.block b (h.sb.lt hb) hnE)
  · intro k b hk
    have hb := h.bl k b hk
    cases b with
    | cells cs T sh =>
      simp only [BOk] at hb ⊢
      exact ⟨hb.1, hcell _ _ hb.2.1 (fun he => (hE _ he).2.1 k _ hk trivial rfl), hb.2.2⟩
    | row n T size =>
      simp only [BOk] at hb ⊢
      refine ⟨hb.1, hb.2.imp (fun x => x) ?_⟩
      rintro ⟨m, cap, cur, c1, c2, c3, c4⟩
      exact ⟨m, cap, cur, c1, c2, hcell _ _ c3 (fun he => (hE _ he).2.1 k _ hk (by show ρ.v.getD n vd ≠ _; rw [c1]; simp) rfl), c4⟩

theorem Rel.keptNC {w0 : World} {s0 : Hp} {X : Fx} {ρ : Env} {s : Hp} {β : Nat → Nat} {g : Cfg} {a : Act} {w : World} (h : Rel w0 s0 X ρ s β g a w) {i : Nat} {o : Obj} (hi : w.heap[i]? = some o) (ho : objNC o = true) :
    Kept s ρ β g.H w (i, o) := by
  refine ⟨hi, fun k b hk hb he => ?_, fun off => ?_⟩
  · have hbl := h.bl k b hk
    simp only at he
    cases b with
    | cells cs T sh =>
      simp only [BOk] at hbl
      rw [he, hi] at hbl
      have := hbl.2.1
      simp only [Option.some.injEq] at this
      subst this; simp [objNC] at ho
    | row n T size =>
      simp only [BOk] at hbl
      rcases hbl.2 with c | ⟨m, cap, cur, c1, c2, c3, c4⟩
      · exact hb c
      · rw [he, hi] at c3
        simp only [Option.some.injEq] at c3
        subst c3; simp [objNC] at ho
  · cases hs : s i off with
    | none => rfl
    | some u =>
      have := h.sb i off u hs
      simp only [World.cell?, hi] at this
      cases o <;> simp_all [objNC]

/-- Other things are kept. -/
theorem Rel.kept {w0 : World} {s0 : Hp} {X X' : Fx} {ρ : Env} {s : Hp} {β : Nat → Nat} {g : Cfg} {a : Act} {w : World} (h : Rel w0 s0 X ρ s β g a w) (hd : X'.ds = X.ds) (hz : X'.zs = X.zs) (hs : X'.sz ≤ w.heap.size)
    (hk : ∀ x, X'.K x → X.K x ∨ Kept s ρ β g.H w x) : Rel w0 s0 X' ρ s β g a w :=
  ⟨h.tm, h.df.trans hd.symm, hs, fun x hx => (hk x hx).elim (h.kp x) id, hz.trans h.fs, h.ci, h.cb, h.cv, h.cj, h.ok, h.bel, h.sb, h.nw, h.le, h.bl, h.sp⟩

/-- A record is turned. -/
theorem Rel.turned {w0 : World} {s0 : Hp} {X X' : Fx} {ρ : Env} {s : Hp} {β : Nat → Nat} {g : Cfg} {a : Act} {w : World} {L : Nat} {o o' : Obj} (h : Rel w0 s0 X ρ s β g a w) (hd : X'.ds = X.ds) (hz : X'.zs = X.zs) (hsz : X'.sz ≤ w.heap.size)
    (hL : w0.heap.size ≤ L) (ho : w.heap[L]? = some o) (hn : objNC o = true) (hn' : objNC o' = true) (hk : ∀ x, X'.K x → (x.1 ≠ L ∧ X.K x) ∨ x = (L, o')) : Rel w0 s0 X' ρ s β g a (w.putObj L o') := by
  have h1 : Rel w0 s0 { X with K := fun x => x.1 ≠ L ∧ X.K x } ρ s β g a w := h.kept rfl rfl h.sz (fun x hx => .inl hx.2)
  have h0 := h.keptNC ho hn
  have h2 := h1.grows (Grows.put (E := fun i => i = L) (o := o') rfl) (fun i hi => by
    subst hi
    exact ⟨hL, h0.own, h0.un, fun o1 h1 => h1.1 rfl⟩)
  refine h2.kept hd hz (by simpa using hsz) (fun x hx => ?_)
  rcases hk x hx with h3 | rfl
  · exact .inl h3
  · exact .inr ⟨World.putObj_heap_same (lt_of_heap ho), h0.own, h0.un⟩

/-- What may be added to what is left alone by others. -/
def ENew (E E' : Nat → Prop) (w w' : World) : Prop := ∀ i, E' i → (E i ∨ w.heap.size ≤ i) ∧ ∃ o, w'.heap[i]? = some o
def EKept (E : Nat → Prop) (w w' : World) : Prop := w.heap.size ≤ w'.heap.size ∧ ∀ i, E i → w'.heap[i]? = w.heap[i]?

/-- A function to yield to: before the k-th call the world is as J k says, E being what the iterator has of its own; a round that ends hands back true; or the loop is left, as Z says, and it hands back false. -/
structure Yielder (P : Program) (L : Nat) (ys : List (List Value)) (s : Hp) (J : Nat → (Nat → Prop) → World → Prop) (Z : (Nat → Prop) → World → Prop) : Prop where
  sub : ∀ k E w, J k E w → Sub s w
  zsub : ∀ E w, Z E w → Sub s w
  stab : ∀ k E E' w w', J k E w → Grows E w w' → ENew E E' w w' → J k E' w'
  zstab : ∀ E E' w w', Z E w → Grows E w w' → ENew E E' w w' → Z E' w'
  call : ∀ k E w args, ys[k]? = some args → J k E w → ∃ r : Loop, w.heap[L]? = some (.loop r) ∧ args.length = r.params.size ∧
    Goes P (r.fn, some L) (fun e w' => EKept E w w' ∧ ((e = .returned (.bool true) ∧ J (k + 1) E w') ∨ (e = .returned (.bool false) ∧ Z E w')))
      [.code r.assign, .beginRound, .code r.body] { tmps := (r.params.zip args.toArray).foldl (fun tmps (t, a) => tmps.setIfInBounds t a) r.tmps, defers := [] } w

def yv (L : Nat) : Value := .func (.yield L) #[] #[]
def noE : Nat → Prop := fun _ => False
/-- The function F with what it has captured yields the values ys, one after another. -/
def IterCt (P : Program) (F : Nat) (caps : List Value) (s : Hp) (ys : List (List Value)) : Prop :=
  ∀ L J Z w, Yielder P L ys s J Z → J 0 noE w → Calls P F (#[yv L] ++ caps.toArray) w (fun e w' => ∃ v, e = .returned v ∧ ∃ E, J ys.length E w' ∨ Z E w')
theorem IterCt.mono {F : Nat} {caps : List Value} {s t : Hp} {ys : List (List Value)} (h : IterCt P F caps s ys) (hst : s.le t) : IterCt P F caps t ys := fun L J Z w hy hj =>
  h L J Z w ⟨fun k E w hk b o u hb => hy.sub k E w hk b o u (hst b o u hb), fun E w hk b o u hb => hy.zsub E w hk b o u (hst b o u hb), hy.stab, hy.zstab, hy.call⟩ hj

def setPs (sl : List SV) (ps : List Nat) (yvs : List SV) : List SV := (ps.zip yvs).foldl (fun l x => l.set x.1 x.2) sl
theorem setPs_den (ρ : Env) (β : Nat → Nat) : ∀ (ps : List Nat) (yvs : List SV) (sl : List SV) (a : Array Value), a = (SV.dens ρ β sl).toArray →
    (ps.zip (SV.dens ρ β yvs)).foldl (fun tmps (x : Nat × Value) => tmps.setIfInBounds x.1 x.2) a = (SV.dens ρ β (setPs sl ps yvs)).toArray
  | [], _, sl, a, h => by simpa [setPs] using h
  | p :: ps, [], sl, a, h => by simpa [setPs, SV.dens] using h
  | p :: ps, y :: ys, sl, a, h => by
    have := setPs_den ρ β ps ys (sl.set p y) (a.setIfInBounds p (y.den ρ β)) (by simp only [h, SV.dens_map, List.map_set, List.setIfInBounds_toArray])
    simpa [setPs, SV.dens] using this

/-- Where a round begins. -/
def roundCfg (tr : Cfg) (tsl : List SV) (p : List Bool) (ps : List Nat) (yvs : List SV) (di db dv : Nat) : Cfg :=
  { tr with todo := [.code (false :: p), .begin, .code (true :: p)], sl := setPs tsl ps yvs, ni := tr.ni + di, nb := tr.nb + db, nv := tr.nv + dv }
/-- Behind the loop. -/
def backCfg (g : Cfg) (tsl : List SV) (todo : List PI) : Cfg := { g with todo, sl := tsl, fs := [] }

section
variable (P) (f : FuncId) (Q : Value → Hp → Prop) (body : Code) (w0 : World) (s0 : Hp) (Ds : List Nat)
/-- Of a plain function that has gone through loops over functions. -/
abbrev ReachM (g : Cfg) (ρ : Env) (s : Hp) : Prop := ReachX P (f, none) (Ret Q s0 w0) body w0 s0 (Xm Ds) g ρ s

/-- Where a round ends. -/
def RoundT (tr : Cfg) (kc : List PI) (sb : Hp) (In : List Int → List Bool → List Value → Hp → Prop) (g : Cfg) (ρ : Env) (s : Hp) : Prop :=
  (g.todo = [] ∧ sb.le s ∧ ∃ A, fits ⟨0, 0, 0, 0⟩ A tr { g with sl := [] } = true ∧ In (A.is.map (IE.den ρ)) (A.bs.map (BE.den ρ)) (SV.dens ρ id A.vs) s) ∨
  (∃ q k tsl, g.todo = .code q :: k ∧ sb.le s ∧ g.fs = [tsl] ∧ (sub body q = .ret ∨ ∃ id, sub body q = .exit id ∧ exitTo id (k.map (itemOf body)) = none) ∧
    ∀ D, MarksOk w0 (D :: Ds) → ReachM P f Q body w0 s0 (D :: Ds) (backCfg g tsl (.code q :: kc)) ρ s)
end

def XL (Ds : List Nat) (D : Nat) (T0 : Array Value) (o : Obj) : Fx :=
  { K := fun x => (x.1 ∈ Ds ∧ x.2 = .deferred (some [])) ∨ x = (D, .deferred (some [])) ∨ x = (D + 1, o), zs := [T0], ds := [] }
def EOk (s : Hp) (ρ : Env) (β : Nat → Nat) (H : List Blk) (D : Nat) (E : Nat → Prop) (w : World) : Prop := ∀ i, E i → D + 1 < i ∧ ∃ o, Kept s ρ β H w (i, o)
def JR (w0 : World) (s0 : Hp) (Ds : List Nat) (D : Nat) (T0 : Array Value) (r0 : Loop) (s : Hp) (tr : Cfg) (I : Nat → List Int → List Bool → List Value → Hp → Prop) (k : Nat) (E : Nat → Prop) (w : World) : Prop :=
  ∃ is bs vs js s1 β, s.le s1 ∧ I k is bs vs s1 ∧ Rel w0 s0 (XL Ds D T0 (.loop r0)) ⟨is, bs, vs, js⟩ s1 β tr { tmps := #[], defers := [] } w ∧ EOk s1 ⟨is, bs, vs, js⟩ β tr.H D E w
def ZR (P : Program) (f : FuncId) (Q : Value → Hp → Prop) (body : Code) (w0 : World) (s0 : Hp) (Ds : List Nat) (D : Nat) (T0 : Array Value) (r0 : Loop) (s : Hp) (kc : List PI) (E : Nat → Prop) (w : World) : Prop :=
  ∃ g q tsl ρ s1 β, s.le s1 ∧ g.fs = [tsl] ∧ Rel w0 s0 (XL Ds D T0 (.loop { r0 with state := .done, pending := some (sub body q) })) ρ s1 β { g with sl := [] } { tmps := #[], defers := [] } w ∧ EOk s1 ρ β g.H D E w ∧
    ∀ D, MarksOk w0 (D :: Ds) → ReachM P f Q body w0 s0 (D :: Ds) (backCfg g tsl (.code q :: kc)) ρ s1

theorem stabR {w0 : World} {s0 : Hp} {Ds : List Nat} {D : Nat} {T0 : Array Value} {o : Obj} {ρ : Env} {s : Hp} {β : Nat → Nat} {g : Cfg} {a : Act} {w w' : World} {E E' : Nat → Prop} (hlt : ∀ D' ∈ Ds, D' < D) (hD0 : w0.heap.size ≤ D)
    (h : Rel w0 s0 (XL Ds D T0 o) ρ s β g a w) (he : EOk s ρ β g.H D E w) (hg : Grows E w w') (hn : ENew E E' w w') : Rel w0 s0 (XL Ds D T0 o) ρ s β g a w' ∧ EOk s ρ β g.H D E' w' := by
  refine ⟨h.grows hg (fun i hi => ?_), fun i hi => ?_⟩
  · obtain ⟨h1, o1, h2, h3, h4⟩ := he i hi
    refine ⟨by omega, h3, h4, fun o2 hk => ?_⟩
    rcases hk with ⟨h4, _⟩ | h4 | h4
    · have := hlt i h4; omega
    · simp only [Prod.mk.injEq] at h4; omega
    · simp only [Prod.mk.injEq] at h4; omega
  · obtain ⟨h1, o1, h2⟩ := hn i hi
    rcases h1 with h1 | h1
    · obtain ⟨e1, o2, e2, e3, e4⟩ := he i h1
      exact ⟨e1, o1, h2, e3, e4⟩
    · have := lt_of_heap (h.kp (D + 1, o) (.inr (.inr rfl))).is
      simp only at this
      refine ⟨by omega, o1, h2, fun k b hk hb => ?_, fun off => ?_⟩
      · have := h.lt hk hb
        simp only; omega
      · cases hs : s i off with
        | none => rfl
        | some u => have := h.sb.lt hs; omega

theorem Rel.back {w0 : World} {s0 : Hp} {Ds : List Nat} {D : Nat} {T0 : Array Value} {r r' : Loop} {ρ : Env} {s : Hp} {β : Nat → Nat} {g : Cfg} {w : World} {tsl : List SV} (hlt : ∀ D' ∈ Ds, D' < D) (hD0 : w0.heap.size ≤ D)
    (h : Rel w0 s0 (XL Ds D T0 (.loop r)) ρ s β { g with sl := [] } { tmps := #[], defers := [] } w) (hfs : g.fs = [tsl]) (todo : List PI) :
    Rel w0 s0 (Xm (D :: Ds)) ρ s β (backCfg g tsl todo) { tmps := T0, defers := (D :: Ds).map markOf } (w.putObj (D + 1) (.loop r')) := by
  have hL := h.kp (D + 1, .loop r) (.inr (.inr rfl))
  have h1 := h.turned (X' := { (Xm (D :: Ds)) with zs := [T0], ds := [] }) (L := D + 1) (o' := .loop r') rfl rfl (Nat.zero_le _) (by omega) hL.is rfl rfl (fun x hx => by
    obtain ⟨h2, h3⟩ := hx
    obtain ⟨i, o⟩ := x
    simp only at h2 h3
    subst h3
    left
    rcases List.mem_cons.1 h2 with h2 | h2
    · subst h2; exact ⟨by simp, .inr (.inl rfl)⟩
    · have := hlt _ h2
      exact ⟨by simp only [ne_eq]; omega, .inl ⟨h2, rfl⟩⟩)
  have hz : [T0] = g.fs.map fun l => (SV.dens ρ β l).toArray := h1.fs
  rw [hfs] at hz
  simp only [List.map_cons, List.map_nil, List.cons.injEq, and_true] at hz
  exact ⟨hz, rfl, h1.sz, h1.kp, rfl, h1.ci, h1.cb, h1.cv, h1.cj, h1.ok, h1.bel, h1.sb, h1.nw, h1.le, h1.bl, h1.sp⟩

section
variable {c : Ctx} {f : FuncId} {fn : FnC} {Q : Value → Hp → Prop} {w0 : World} {s0 : Hp} {Ds : List Nat}

def BeginT (P : Program) (c : Ctx) (fn : FnC) (Q : Value → Hp → Prop) (T : Cfg → Env → Hp → Prop) (n : Nat) (p : List Bool) (g : Cfg) (ρ : Env) (s : Hp) : Prop :=
  g.todo = [.begin, .code (true :: p)] ∧ VC P Q T (run c fn n { g with todo := [.code (true :: p)] }) ρ s

theorem Rel.around {X : Fx} {ρ : Env} {s : Hp} {β : Nat → Nat} {g : Cfg} {a : Act} {w : World} (h : Rel w0 s0 X ρ s β g a w) (todo : List PI) : Rel w0 s0 X ρ s β { g with todo, sl := [] } { tmps := #[], defers := a.defers } w :=
  ⟨by simp [SV.dens], h.df, h.sz, h.kp, h.fs, h.ci, h.cb, h.cv, h.cj, h.ok, h.bel, h.sb, h.nw, h.le, h.bl, h.sp⟩

/-- The loop over an iterator, in a plain function. -/
theorem rangeX (hP : ProgOk P c) (hc : c.leaf = true) (hm : MarksOk w0 Ds) (hnd : ∀ p (i : Nat) (o : Oper), (opsAt (sub fn.body p))[i]? = some o → isDefer o = false)
    {p : List Bool} {kc : List PI} {gop : Operand} {ps : Array Tmp} {assign bodyc : Code} (hsub : sub fn.body p = .rangeFunc gop ps assign bodyc) (hkc : ∀ p d ks k, kc ≠ .dreg p d ks :: k)
    {F : Nat} {caps : List Value} {ys : List (List Value)} (eg : ∀ args w, (callFunc F args).run P w = .ok (.enter F args) w)
    {g : Cfg} {ρ : Env} {s : Hp} (hit : IterCt P F caps s ys) (htodo : g.todo = .code p :: kc) (hfs : g.fs = [])
    {sv : SV} (hev : ev g.sl gop = some sv) (hsv : ∀ β, sv.den ρ β = .func (.func F) #[] caps.toArray)
    (tr : Cfg) (tsl : List SV) (htd : tr.todo = []) (hsl : tr.sl = []) (htr : tr.fs = [tsl]) (hok : tr.okB = true) (yvs : List SV) (di db dv n : Nat) (hlen : yvs.length = ps.size)
    (I : Nat → List Int → List Bool → List Value → Hp → Prop)
    (A : Asg) (hfit : fits ⟨0, 0, 0, 0⟩ A tr { g with todo := [], sl := [], fs := [g.sl] } = true)
    (hI : I 0 (A.is.map (IE.den ρ)) (A.bs.map (BE.den ρ)) (SV.dens ρ id A.vs) s)
    (round : ∀ k args is bs vs js s1, is.length = tr.ni → bs.length = tr.nb → vs.length = tr.nv → js.length = tr.nj → ys[k]? = some args → s.le s1 → I k is bs vs s1 →
      ∃ is' bs' vs', is'.length = di ∧ bs'.length = db ∧ vs'.length = dv ∧ vs'.all fineV = true ∧ (∀ β, SV.dens ⟨is ++ is', bs ++ bs', vs ++ vs', js⟩ β yvs = args) ∧
        VC P Q (BeginT P c fn Q (RoundT P f Q fn.body w0 s0 Ds tr kc s1 (I (k + 1))) n p) (run c fn n (roundCfg tr tsl p ps.toList yvs di db dv)) ⟨is ++ is', bs ++ bs', vs ++ vs', js⟩ s1)
    (after : ∀ is bs vs js s1, is.length = tr.ni → bs.length = tr.nb → vs.length = tr.nv → js.length = tr.nj → s.le s1 → I ys.length is bs vs s1 →
      ∀ D, MarksOk w0 (D :: Ds) → ReachM P f Q fn.body w0 s0 (D :: Ds) (backCfg tr tsl kc) ⟨is, bs, vs, js⟩ s1) :
    ReachM P f Q fn.body w0 s0 Ds g ρ s := by
  intro β a w hr
  unfold GoesG
  rw [htodo]
  show Goes P (f, none) (Ret Q s0 w0) (.code (sub fn.body p) :: kc.map (itemOf fn.body)) a w
  rw [hsub]
  have hadf : a.defers = Ds.map markOf := hr.df
  have hlt : ∀ D' ∈ Ds, D' < w.heap.size := fun D' hD' => lt_of_heap (hr.kp (D', .deferred (some [])) ⟨hD', rfl⟩).is
  have hD0 : w0.heap.size ≤ w.heap.size := hr.bel.size
  have hmD : MarksOk w0 (w.heap.size :: Ds) := ⟨List.nodup_cons.2 ⟨fun h => by have := hlt _ h; omega, hm.nd⟩, fun D' hD' => by
    rcases List.mem_cons.1 hD' with rfl | h
    · exact hD0
    · exact hm.ge _ h⟩
  refine goes_rangeFunc (gf := F) (lb := caps.toArray) (by rw [ev_den hev hr.tm]; exact hsv β) eg ?_
  generalize hr0 : recOf f a.tmps ps assign bodyc w.heap.size .ready none = r0
  have r0fn : r0.fn = f := by rw [← hr0]; rfl
  have r0tmps : r0.tmps = a.tmps := by rw [← hr0]; rfl
  have r0ps : r0.params = ps := by rw [← hr0]; rfl
  have r0as : r0.assign = assign := by rw [← hr0]; rfl
  have r0body : r0.body = bodyc := by rw [← hr0]; rfl
  have r0st : r0.state = .ready := by rw [← hr0]; rfl
  have r0pe : r0.pending = none := by rw [← hr0]; rfl
  have hs1 : (w.alloc (.deferred (some []))).heap.size = w.heap.size + 1 := by simp
  have hw1 : Below w.heap.size w ((w.alloc (.deferred (some []))).alloc (.loop r0)) := ((Below.refl _ _).alloc (Nat.le_refl _) _).alloc (by rw [hs1]; omega) _
  have hD1 : ((w.alloc (.deferred (some []))).alloc (.loop r0)).heap[w.heap.size]? = some (.deferred (some [])) := by
    rw [Below.heap_alloc _ _ _ (by rw [hs1]; omega)]; exact World.alloc_heap_new _ _
  have hL1 : ((w.alloc (.deferred (some []))).alloc (.loop r0)).heap[w.heap.size + 1]? = some (.loop r0) := by
    rw [← hs1]; exact World.alloc_heap_new _ _
  have hbusy : ∀ (x : Loop), x = { r0 with state := .busy } → ({ x with state := if (none : Option Code).isNone then .ready else .done, pending := none } : Loop) = r0 := by
    rintro x rfl
    rw [← hr0]; rfl
  generalize hD : w.heap.size = D at *
  generalize (w.alloc (.deferred (some []))).alloc (.loop r0) = w1 at *
  -- before the first round
  have hJ0 : JR w0 s0 Ds D a.tmps r0 s tr I 0 noE w1 := by
    have h1 : Rel w0 s0 (Xm Ds) ρ s β g a w1 := hr.grow (by rw [hD]; exact hw1) (Hp.le_refl _) (fun b o u hu => by
      have hc := hr.sb b o u hu
      rw [← hc]
      exact World.cell?_of_block (hw1.block _ (by rw [← hD]; exact World.block_lt_of_cell? w _ hc))) (fun b o u h1 h2 => by rw [h1] at h2; simp at h2)
    have h2 : Rel w0 s0 (XL Ds D a.tmps (.loop r0)) ρ s β { g with todo := [], sl := [], fs := [g.sl] } { tmps := #[], defers := [] } w1 := by
      refine ⟨by simp [SV.dens], rfl, Nat.zero_le _, fun x hx => ?_, ?_, h1.ci, h1.cb, h1.cv, h1.cj, h1.ok, h1.bel, h1.sb, h1.nw, h1.le, h1.bl, h1.sp⟩
      · rcases hx with ⟨h3, h4⟩ | rfl | rfl
        · exact h1.kp x ⟨h3, h4⟩
        · exact h1.keptNC hD1 rfl
        · exact h1.keptNC hL1 rfl
      · show [a.tmps] = _
        simp [h1.tm]
    have h3 := (h2.fits hfit).1
    rw [asg_zero hfit] at h3
    exact ⟨_, _, _, _, s, β, Hp.le_refl _, hI, h3, fun i hi => hi.elim⟩
  -- what is yielded to
  have hY : Yielder P (D + 1) ys s (JR w0 s0 Ds D a.tmps r0 s tr I) (ZR P f Q fn.body w0 s0 Ds D a.tmps r0 s kc) := by
    refine ⟨?_, ?_, ?_, ?_, ?_⟩
    · rintro k E w' ⟨is, bs, vs, js, s1, β1, hle, _, h, _⟩ b o u hb
      exact h.sb b o u (hle b o u hb)
    · rintro E w' ⟨g', q, tsl', ρ', s1, β1, hle, _, h, _⟩ b o u hb
      exact h.sb b o u (hle b o u hb)
    · rintro k E E' w2 w3 ⟨is, bs, vs, js, s1, β1, hle, h0, h, he⟩ hg hn
      obtain ⟨h', he'⟩ := stabR hlt hD0 h he hg hn
      exact ⟨is, bs, vs, js, s1, β1, hle, h0, h', he'⟩
    · rintro E E' w2 w3 ⟨g', q, tsl', ρ', s1, β1, hle, h0, h, he, h2⟩ hg hn
      obtain ⟨h', he'⟩ := stabR hlt hD0 h he hg hn
      exact ⟨g', q, tsl', ρ', s1, β1, hle, h0, h', he', h2⟩
    · rintro k E w2 args hargs ⟨is, bs, vs, js, s1, β1, hle, h0, h, he⟩
      have hL2 := (h.kp (D + 1, .loop r0) (.inr (.inr rfl))).is
      obtain ⟨is', bs', vs', l1, l2, l3, hfv, hyv, hvc⟩ := round k args is bs vs js s1 h.ci h.cb h.cv h.cj hargs hle h0
      have hal : args.length = ps.size := by rw [← hyv β1, SV.dens_map, List.length_map, hlen]
      refine ⟨r0, hL2, by rw [r0ps]; exact hal, ?_⟩
      rw [r0fn, r0as, r0body, r0ps, r0tmps]
      let XE : Obj → Fx := fun o => { K := fun x => (XL Ds D a.tmps o).K x ∨ (E x.1 ∧ w2.heap[x.1]? = some x.2), zs := [a.tmps], ds := [], sz := w2.heap.size }
      have hR1 : Rel w0 s0 (XE (.loop r0)) ⟨is, bs, vs, js⟩ s1 β1 tr { tmps := #[], defers := [] } w2 := h.kept rfl rfl (Nat.le_refl _) (fun x hx => hx.imp id (fun h => by
        obtain ⟨e1, e2⟩ := h
        obtain ⟨i, o⟩ := x
        obtain ⟨_, o1, k1, k2, k3⟩ := he i e1
        exact ⟨e2, k2, k3⟩))
      have hR2 := hR1.push hok is' bs' vs' hfv (tr.ni + di) (tr.nb + db) (tr.nv + dv) (by rw [l1]) (by rw [l2]) (by rw [l3])
      have hz : [a.tmps] = tr.fs.map fun l => (SV.dens ⟨is ++ is', bs ++ bs', vs ++ vs', js⟩ β1 l).toArray := hR2.fs
      rw [htr] at hz
      simp only [List.map_cons, List.map_nil, List.cons.injEq, and_true] at hz
      have htm : (ps.zip args.toArray).foldl (fun tmps (x : Tmp × Value) => tmps.setIfInBounds x.1 x.2) a.tmps = (SV.dens ⟨is ++ is', bs ++ bs', vs ++ vs', js⟩ β1 (setPs tsl ps.toList yvs)).toArray := by
        rw [← setPs_den _ _ ps.toList yvs tsl a.tmps hz, ← Array.foldl_toList, Array.toList_zip, hyv β1]
      have hR3 : Rel w0 s0 (XE (.loop r0)) ⟨is ++ is', bs ++ bs', vs ++ vs', js⟩ s1 β1 (roundCfg tr tsl p ps.toList yvs di db dv)
          { tmps := (ps.zip args.toArray).foldl (fun tmps (x : Tmp × Value) => tmps.setIfInBounds x.1 x.2) a.tmps, defers := [] } w2 :=
        ⟨htm, rfl, hR2.sz, hR2.kp, hR2.fs, hR2.ci, hR2.cb, hR2.cv, hR2.cj, hR2.ok, hR2.bel, hR2.sb, hR2.nw, hR2.le, hR2.bl, hR2.sp⟩
      have hkeep : ∀ {o : Obj} {ρ3 : Env} {s3 : Hp} {β3 : Nat → Nat} {g3 : Cfg} {a3 : Act} {w3 : World}, Rel w0 s0 (XE o) ρ3 s3 β3 g3 a3 w3 → EKept E w2 w3 ∧ EOk s3 ρ3 β3 g3.H D E w3 := by
        intro o ρ3 s3 β3 g3 a3 w3 h3
        refine ⟨⟨h3.sz, fun i hi => ?_⟩, fun i hi => ?_⟩
        · obtain ⟨e1, x, e2, _⟩ := he i hi
          have := (h3.kp (i, x) (.inr ⟨hi, e2⟩)).is
          simp only at this e2
          rw [e2, this]
        · obtain ⟨e1, x, e2, _⟩ := he i hi
          exact ⟨e1, x, h3.kp (i, x) (.inr ⟨hi, e2⟩)⟩
      have hturn : ∀ {o o' : Obj} {ρ3 : Env} {s3 : Hp} {β3 : Nat → Nat} {g3 : Cfg} {a3 : Act} {w3 : World}, objNC o = true → objNC o' = true → Rel w0 s0 (XE o) ρ3 s3 β3 g3 a3 w3 → Rel w0 s0 (XE o') ρ3 s3 β3 g3 a3 (w3.putObj (D + 1) o') := by
        intro o o' ρ3 s3 β3 g3 a3 w3 ho ho' h3
        refine h3.turned rfl rfl h3.sz (by omega) (h3.kp (D + 1, o) (.inl (.inr (.inr rfl)))).is ho ho' (fun x hx => ?_)
        rcases hx with (⟨e1, e2⟩ | rfl | rfl) | ⟨e1, e2⟩
        · have := hlt _ e1
          exact .inl ⟨by omega, .inl (.inl ⟨e1, e2⟩)⟩
        · exact .inl ⟨by simp, .inl (.inr (.inl rfl))⟩
        · exact .inr rfl
        · have := (he _ e1).1
          exact .inl ⟨by omega, .inr ⟨e1, e2⟩⟩
      have hT' : ∀ g3 ρ3 s3, RoundT P f Q fn.body w0 s0 Ds tr kc s1 (I (k + 1)) g3 ρ3 s3 → ReachX P (f, some (D + 1)) (fun e w' => EKept E w2 w' ∧ ((e = .returned (.bool true) ∧ JR w0 s0 Ds D a.tmps r0 s tr I (k + 1) E w') ∨ (e = .returned (.bool false) ∧ ZR P f Q fn.body w0 s0 Ds D a.tmps r0 s kc E w')))
          fn.body w0 s0 (XE (.loop { r0 with state := .busy })) g3 ρ3 s3 := by
        rintro g3 ρ3 s3 hrt β3 a3 w3 hr3
        have hL3 := (hr3.kp (D + 1, .loop { r0 with state := .busy }) (.inl (.inr (.inr rfl)))).is
        have had : a3.defers = [] := hr3.df
        unfold GoesG
        rcases hrt with ⟨htd3, hle3, A3, hfit3, hI3⟩ | ⟨q, k3, tsl3, htd3, hle3, hfs3, hq, hrest⟩
        · rw [htd3]
          refine goes_roundEnd (run_endRound none hL3) ?_
          rw [hbusy _ rfl]
          have h4 := ((hturn (o' := .loop r0) rfl rfl hr3).around g3.todo)
          rw [had] at h4
          have h5 := (h4.fits hfit3).1
          rw [asg_zero hfit3] at h5
          obtain ⟨q1, q2⟩ := hkeep h5
          refine ⟨q1, .inl ⟨rfl, ?_⟩⟩
          exact ⟨_, _, _, _, s3, β3, Hp.le_trans hle hle3, hI3, h5.kept rfl rfl (Nat.zero_le _) (fun x hx => .inl (.inl hx)), q2⟩
        · rw [htd3]
          have hfin : ∀ j, j = sub fn.body q → EKept E w2 (w3.putObj (D + 1) (.loop { r0 with state := .done, pending := some j })) ∧ ZR P f Q fn.body w0 s0 Ds D a.tmps r0 s kc E (w3.putObj (D + 1) (.loop { r0 with state := .done, pending := some j })) := by
            rintro j rfl
            have h4 := ((hturn (o' := .loop { r0 with state := .done, pending := some (sub fn.body q) }) rfl rfl hr3).around g3.todo)
            rw [had] at h4
            obtain ⟨q1, q2⟩ := hkeep h4
            exact ⟨q1, g3, q, tsl3, ρ3, s3, β3, Hp.le_trans hle hle3, hfs3, h4.kept rfl rfl (Nat.zero_le _) (fun x hx => .inl (.inl hx)), q2, hrest⟩
          show Goes P _ _ (.code (sub fn.body q) :: k3.map (itemOf fn.body)) a3 w3
          rcases hq with hq | ⟨id, hq, hx⟩
          · obtain ⟨q1, q2⟩ := hfin _ rfl
            rw [hq] at q1 q2 ⊢
            exact goes_roundRet (run_endRound (some .ret) hL3) ⟨q1, .inr ⟨rfl, q2⟩⟩
          · obtain ⟨q1, q2⟩ := hfin _ rfl
            rw [hq] at q1 q2 ⊢
            exact goes_roundExit hx (run_endRound (some (.exit id)) hL3) ⟨q1, .inr ⟨rfl, q2⟩⟩
      have hT : ∀ g3 ρ3 s3, BeginT P c fn Q (RoundT P f Q fn.body w0 s0 Ds tr kc s1 (I (k + 1))) n p g3 ρ3 s3 → ReachX P (f, some (D + 1)) (fun e w' => EKept E w2 w' ∧ ((e = .returned (.bool true) ∧ JR w0 s0 Ds D a.tmps r0 s tr I (k + 1) E w') ∨ (e = .returned (.bool false) ∧ ZR P f Q fn.body w0 s0 Ds D a.tmps r0 s kc E w')))
          fn.body w0 s0 (XE (.loop r0)) g3 ρ3 s3 := by
        rintro g3 ρ3 s3 ⟨htd3, hvc3⟩ β3 a3 w3 hr3
        unfold GoesG
        rw [htd3]
        refine goes_beginRound (run_beginRound (hr3.kp (D + 1, .loop r0) (.inl (.inr (.inr rfl)))).is r0st) ?_
        exact runX_sound hP (.inl hc) (.inr hnd) hT' n _ _ _ hvc3 β3 a3 _ ((hturn rfl rfl hr3).todo [.code (true :: p)])
      have := runX_sound hP (.inl hc) (.inr hnd) hT n _ _ _ hvc β1 _ w2 hR3
      simp only [GoesG, roundCfg, List.map_cons, List.map_nil, itemOf] at this
      have e1 : sub fn.body (false :: p) = assign := by simp [sub, hsub, child]
      have e2 : sub fn.body (true :: p) = bodyc := by simp [sub, hsub, child]
      rw [e1, e2] at this
      exact this
  refine (hit (D + 1) _ _ w1 hY hJ0).mono ?_
  rintro e w' ⟨v, rfl, E, hJ | hZ⟩
  · obtain ⟨is, bs, vs, js, s1, β1, hle, h0, h, he⟩ := hJ
    refine ⟨v, rfl, none, w'.putObj (D + 1) (.loop { r0 with state := .exhausted }), ?_, ?_⟩
    · have := run_endLoop (P := P) (h.kp (D + 1, .loop r0) (.inr (.inr rfl))).is (by rw [r0st]; simp)
      simp only [r0pe] at this ⊢
      exact this
    · have h2 := Rel.back (r' := { r0 with state := .exhausted }) (g := tr) hlt hD0 (by have := h.around tr.todo; exact this) htr kc
      have h3 := after is bs vs js s1 h.ci h.cb h.cv h.cj hle h0 D hmD β1 _ _ h2
      have h4 := goes_of h3 hkc
      simp only [Option.map_none, Option.toList_none, List.nil_append]
      rw [hadf]
      exact h4
  · obtain ⟨g', q, tsl', ρ', s1, β1, _, hfs', h, he, hrest⟩ := hZ
    refine ⟨v, rfl, some (sub fn.body q), w'.putObj (D + 1) (.loop { r0 with state := .exhausted, pending := some (sub fn.body q) }), ?_, ?_⟩
    · exact run_endLoop (P := P) (h.kp (D + 1, .loop { r0 with state := .done, pending := some (sub fn.body q) }) (.inr (.inr rfl))).is (by simp)
    · have h2 := Rel.back (r' := { r0 with state := .exhausted, pending := some (sub fn.body q) }) (g := g') hlt hD0 h hfs' (.code q :: kc)
      have h3 := hrest D hmD β1 _ _ h2
      have h4 := goes_of h3 (by intro p d ks k hh; simp [backCfg] at hh)
      rw [hadf]
      exact h4
end
end Go.Sx
