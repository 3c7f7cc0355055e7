/- SX: what the executor's data mean of the machine; the operations that only compute. -/
import Derived.Test.YtbmfegliomkkfaaHTxB
import Derived.Laws.World
import Derived.Laws.Sem
import Derived.Laws.AppendOwn
import Derived.AtR
import Derived.OrdersHeld
set_option linter.unusedSimpArgs false
set_option linter.unusedVariables false
namespace Go.Sx
def Env.push (ρ : Env) (is : List Int) (bs : List Bool) (vs : List Value) : Env := { ρ with i := ρ.i ++ is, b := ρ.b ++ bs, v := ρ.v ++ vs }
/-- ρ' says what ρ says of the first atoms. -/
structure Env.Le (ni nb nv nj : Nat) (ρ ρ' : Env) : Prop where
  i : ∀ n, n < ni → ρ'.i.getD n 0 = ρ.i.getD n 0
  b : ∀ n, n < nb → ρ'.b.getD n false = ρ.b.getD n false
  v : ∀ n, n < nv → ρ'.v.getD n vd = ρ.v.getD n vd
  j : ∀ n, n < nj → ρ'.j.getD n Go.undef = ρ.j.getD n Go.undef
theorem Env.le_push (ρ : Env) (is bs vs) : Env.Le ρ.i.length ρ.b.length ρ.v.length ρ.j.length ρ (ρ.push is bs vs) where
  i n h := by simp [Env.push, List.getElem?_append_left h]
  b n h := by simp [Env.push, List.getElem?_append_left h]
  v n h := by simp [Env.push, List.getElem?_append_left h]
  j n _ := rfl
theorem IE.den_le {ni nb nv nj : Nat} {ρ ρ' : Env} (h : Env.Le ni nb nv nj ρ ρ') : ∀ e : IE, e.ok ni nv = true → e.den ρ' = e.den ρ := by
  intro e
  induction e with
  | a n => intro k; exact h.i n (by simpa [IE.ok] using k)
  | l z => intro _; rfl
  | slen n => intro k; simp only [IE.den]; rw [h.v n (by simpa [IE.ok] using k)]
  | wr k x ih => intro hk; simp only [IE.den]; rw [ih (by simpa [IE.ok] using hk)]
  | ifeq p q x y i1 i2 i3 i4 =>
    intro hk; simp only [IE.ok, Bool.and_eq_true] at hk
    simp only [IE.den]; rw [i1 hk.1.1.1, i2 hk.1.1.2, i3 hk.1.2, i4 hk.2]
  | _ x y i1 i2 =>
    intro hk; simp only [IE.ok, Bool.and_eq_true] at hk
    simp only [IE.den]; rw [i1 hk.1, i2 hk.2]
theorem BE.den_le {ni nb nv nj : Nat} {ρ ρ' : Env} (h : Env.Le ni nb nv nj ρ ρ') : ∀ e : BE, e.ok ni nb nv = true → e.den ρ' = e.den ρ := by
  intro e
  induction e with
  | t b => intro _; rfl
  | a n => intro k; exact h.b n (by simpa [BE.ok] using k)
  | nil n => intro k; simp only [BE.den]; rw [h.v n (by simpa [BE.ok] using k)]
  | is q n => intro k; simp only [BE.den]; rw [h.v n (by simpa [BE.ok] using k)]
  | not x ih => intro k; simp only [BE.den]; rw [ih (by simpa [BE.ok] using k)]
  | lt x y => intro hk; simp only [BE.ok, Bool.and_eq_true] at hk; simp only [BE.den]; rw [IE.den_le h x hk.1, IE.den_le h y hk.2]
  | le x y => intro hk; simp only [BE.ok, Bool.and_eq_true] at hk; simp only [BE.den]; rw [IE.den_le h x hk.1, IE.den_le h y hk.2]
  | eq x y => intro hk; simp only [BE.ok, Bool.and_eq_true] at hk; simp only [BE.den]; rw [IE.den_le h x hk.1, IE.den_le h y hk.2]
  | and x y i1 i2 => intro hk; simp only [BE.ok, Bool.and_eq_true] at hk; simp only [BE.den]; rw [i1 hk.1, i2 hk.2]
  | or x y i1 i2 => intro hk; simp only [BE.ok, Bool.and_eq_true] at hk; simp only [BE.den]; rw [i1 hk.1, i2 hk.2]
mutual
theorem SV.den_le {ni nb nv nj : Nat} {kf : Nat → Bool} {ρ ρ' : Env} {β β' : Nat → Nat} (h : Env.Le ni nb nv nj ρ ρ') (hb : ∀ k, kf k = true → β' k = β k) : ∀ s : SV, s.ok ni nb nv nj kf = true → s.den ρ' β' = s.den ρ β
  | .int k e, hk => by simp only [SV.den]; rw [IE.den_le h e (by simpa [SV.ok] using hk)]
  | .bool b, hk => by simp only [SV.den]; rw [BE.den_le h b (by simpa [SV.ok] using hk)]
  | .va n, hk => by simp only [SV.den]; rw [h.v n (by simpa [SV.ok] using hk)]
  | .junk n, hk => by simp only [SV.den]; rw [h.j n (by simpa [SV.ok] using hk)]
  | .str _, _ => rfl
  | .undef, _ => rfl
  | .nilS, _ => rfl
  | .nilF, _ => rfl
  | .nilP, _ => rfl
  | .nilI, _ => rfl
  | .ptr k _, hk => by simp only [SV.den]; rw [hb k (by simpa [SV.ok] using hk)]
  | .sl k _, hk => by simp only [SV.den]; rw [hb k (by simpa [SV.ok] using hk)]
  | .slc k _ _, hk => by simp only [SV.den]; rw [hb k (by simpa [SV.ok] using hk)]
  | .ea n i _ _, hk => by simp only [SV.ok, Bool.and_eq_true] at hk; simp only [SV.den]; rw [h.v n (by simpa using hk.1), IE.den_le h i hk.2]
  | .pa n _, hk => by simp only [SV.den]; rw [h.v n (by simpa [SV.ok] using hk)]
  | .agg cs, hk => by simp only [SV.den]; rw [SV.dens_le h hb cs (by simpa [SV.ok] using hk)]
  | .tup cs, hk => by simp only [SV.den]; rw [SV.dens_le h hb cs (by simpa [SV.ok] using hk)]
  | .fn _ cs, hk => by simp only [SV.den]; rw [SV.dens_le h hb cs (by simpa [SV.ok] using hk)]
theorem SV.dens_le {ni nb nv nj : Nat} {kf : Nat → Bool} {ρ ρ' : Env} {β β' : Nat → Nat} (h : Env.Le ni nb nv nj ρ ρ') (hb : ∀ k, kf k = true → β' k = β k) : ∀ l : List SV, SV.oks ni nb nv nj kf l = true → SV.dens ρ' β' l = SV.dens ρ β l
  | [], _ => rfl
  | x :: l, hk => by simp only [SV.oks, Bool.and_eq_true] at hk; simp only [SV.dens]; rw [SV.den_le h hb x hk.1, SV.dens_le h hb l hk.2]
end
/-- A value of one cell; a slice without memory has no elements. -/
def fineV : Value → Bool
  | .agg _ | .tuple _ => false
  | .slice none n _ => n == 0
  | _ => true
theorem oneCell_of_fine {v : Value} (h : fineV v = true) : v.oneCell' = true := by cases v <;> simp_all [fineV, Value.oneCell']
def Env.Ok (ρ : Env) : Prop := ∀ x ∈ ρ.v, fineV x = true
theorem Env.Ok.getD {ρ : Env} (h : ρ.Ok) (n : Nat) : ∀ l, ρ.v.getD n vd ≠ .agg l := by
  intro l e
  simp only [List.getD] at e
  cases hn : ρ.v[n]? with
  | none => simp [hn] at e
  | some x =>
    have := h x (List.mem_of_getElem? hn)
    simp [hn] at e
    subst e
    simp [fineV] at this
theorem Env.Ok.fine {ρ : Env} (h : ρ.Ok) (n : Nat) : fineV (ρ.v.getD n vd) = true := by
  simp only [List.getD]
  cases hn : ρ.v[n]? with
  | none => rfl
  | some x => simpa [hn] using h x (List.mem_of_getElem? hn)
theorem Env.Ok.nil {ρ : Env} (h : ρ.Ok) (n : Nat) : ∀ l c, ρ.v.getD n vd = .slice none l c → l = 0 := by
  intro l c e
  simp only [List.getD] at e
  cases hn : ρ.v[n]? with
  | none => simp [hn] at e
  | some x =>
    have := h x (List.mem_of_getElem? hn)
    simp [hn] at e
    subst e
    simpa [fineV] using this
theorem SliceIn.fine {s : Hp} {size v xs} (h : SliceIn s size v xs) : fineV v = true := by
  obtain ⟨_, a, cap, rfl, _, h⟩ := h
  cases a with
  | some a => rfl
  | none =>
    cases xs with
    | nil => rfl
    | cons x xs => obtain ⟨b, o, e, _⟩ := h (by simp); simp at e
theorem SliceIn.len {s : Hp} {size v xs} (h : SliceIn s size v xs) : sliceLen v = xs.length := by
  obtain ⟨_, a, cap, rfl, _⟩ := h; rfl
def isDefer (o : Oper) : Bool := match o.op with | .defer _ => true | _ => false
theorem isDefer_false {o : Oper} (h : isDefer o = false) : ∀ c, o.op ≠ .defer c := by
  intro c hc
  simp [isDefer, hc] at h
/-- An operation that can end only in the ordinary way. -/
theorem wp_noexit {P : Program} {o : Oper} {a : Act} {w : World} {K Z : Act → World → Prop} (h : o.wp P a w K (fun e a w => e = .normal ∧ Z a w)) : o.wp P a w K (fun _ _ _ => False) := by
  simp only [Oper.wp, Oper.upon] at h ⊢
  split at h
  · exact h
  · exact h
  · exact h
  · refine Calls.mono h fun e w'' hq => ?_
    cases e with
    | returned v => exact hq
    | panicked chain => exact absurd hq.1 (by simp)
    | outgrown => obtain ⟨a₀, w₀, hq⟩ := hq; exact absurd hq.1 (by simp)
  · exact h
  · exact absurd h.1 (by simp)
  · exact h.elim
/-- One operation of a region, in a frame that may be a round's. -/
theorem opR {P : Program} {b : Frame} {ops : Array Oper} {Z : Act → World → Prop} {i : Nat} {rest : List Nat} {o : Oper} (ho : ops[i]? = some o) (hnd : b.roundOf = none ∨ isDefer o = false) {a : Act} {w : World}
    (h : if Region.wanted o (yielded ops a.tmps) = true then o.wp P a w Z (fun _ _ _ => False) else Z (a.put o.dst undef) w) (k : List Item) (cs : List Frame) :
    ∃ a' w', Z a' w' ∧ Steps P (lone (b.atR a (.inRegion ops (i :: rest) :: k)) cs w) (lone (b.atR a' (.inRegion ops rest :: k)) cs w') := by
  by_cases hw : Region.wanted o (yielded ops a.tmps) = true
  · simp only [hw, if_true] at h
    simp only [Oper.wp, Oper.upon] at h
    have hg := stepGR_op (P := P) (b := b) (k := k) (cs := cs) (w := w) (rest := rest) ho hw
    have hsem : o.semAt b.roundOf a.eval = execOp a.eval o := by
      rcases hnd with h0 | h0
      · rw [h0]; exact Oper.semAt_none _ _
      · exact Oper.semAt_eq _ _ _ (isDefer_false h0)
    rw [hsem] at hg
    have hfin : ∀ v, (b.atR a (.inRegion ops (i :: rest) :: k)).finish v = b.atR (a.put o.dst v) (.inRegion ops rest :: k) := by
      intro v; rw [Frame.finish_atR, ho]; rfl
    split at h
    · rename_i v w' hr
      refine ⟨_, w', h, .one (step_lone_go ?_)⟩
      rw [hg, ← hfin]; simp [stepG.apply, hr]
    · rename_i w' hr
      refine ⟨_, w', h, .one (step_lone_go ?_)⟩
      rw [hg, ← hfin]; simp [stepG.apply, hr]
    · rename_i d w' hr
      refine ⟨_, w', h, .one (step_lone_go ?_)⟩
      have : ({ b.atR a (.inRegion ops (i :: rest) :: k) with defers := d :: a.defers } : Frame).finish undef =
          b.atR ({ a with defers := d :: a.defers }.put o.dst undef) (.inRegion ops rest :: k) := by
        have := Frame.finish_atR b { a with defers := d :: a.defers } ops i rest k undef
        rw [ho] at this; exact this
      rw [hg]; simp only [stepG.apply, Sem.runT_eq, hr, GStep.bare_after]
      exact congrArg (fun fr => GStep.go { frame := fr, callers := cs, status := .running, dying := none } w') this
    · rename_i f args w' hr
      obtain ⟨e, w'', fr, hR, hsteps, _, hleave⟩ := h (b.atR a (.inRegion ops (i :: rest) :: k) :: cs)
      have henter : step P (lone (b.atR a (.inRegion ops (i :: rest) :: k)) cs w) =
          .next (lone (Frame.enter P f args .normal) (b.atR a (.inRegion ops (i :: rest) :: k) :: cs) w') :=
        step_lone_go (by rw [hg]; simp [stepG.apply, hr, Frame.atR])
      cases e with
      | returned v =>
        refine ⟨_, w'', hR, .head henter (Steps.trans hsteps (.one ?_))⟩
        rw [← hfin]; exact step_leave_returned hleave
      | panicked chain => exact hR.elim
      | outgrown =>
        obtain ⟨a₀, w₀, hq⟩ := hR
        exact hq.elim
    · rename_i row args w' hr
      obtain ⟨v, w'', hR, hsteps⟩ := h (b.atR a (.inRegion ops (i :: rest) :: k)) cs
      have henter : step P (lone (b.atR a (.inRegion ops (i :: rest) :: k)) cs w) =
          .next (lone (Frame.ofRow P row args .normal) (b.atR a (.inRegion ops (i :: rest) :: k) :: cs) w') :=
        step_lone_go (by rw [hg]; simp [stepG.apply, hr, Frame.atR])
      refine ⟨_, w'', hR, .head henter ?_⟩
      rw [← hfin]; exact hsteps
    · exact h.elim
    · exact h.elim
  · simp only [hw, if_false, Bool.false_eq_true] at h
    have hs := stepR_op_skip (P := P) (b := b) (a := a) (k := k) (cs := cs) (w := w) (ops := ops) (i := i) (rest := rest)
      (by simp [ho]; simpa using hw)
    simp only [ho, Option.bind_some] at hs
    exact ⟨_, w, h, .one hs⟩
/-- A region's operations, in a frame that may be a round's. -/
theorem wp_opsR {P : Program} {b : Frame} {ops : Array Oper} {Z : Act → World → Prop} (hnd : b.roundOf = none ∨ ∀ (i : Nat) (o : Oper), ops[i]? = some o → isDefer o = false) (l : List Nat) :
    ∀ (a : Act) (w : World), wpOps P ops (fun e a w => e = .normal ∧ Z a w) l a w → ∀ (k : List Item) (cs : List Frame),
      ∃ a' w', Z a' w' ∧ Steps P (lone (b.atR a (.inRegion ops l :: k)) cs w) (lone (b.atR a' k) cs w') := by
  induction l with
  | nil => exact fun a w h k cs => ⟨a, w, h.2, .one stepR_region_end⟩
  | cons i rest ih =>
    intro a w h k cs
    simp only [wpOps] at h
    cases ho : ops[i]? with
    | none =>
      simp only [ho] at h
      obtain ⟨a', w', hz, hs'⟩ := ih a w h k cs
      have hs := stepR_op_skip (P := P) (b := b) (a := a) (k := k) (cs := cs) (w := w) (ops := ops) (i := i) (rest := rest) (by simp [ho])
      simp only [ho, Option.bind_none, Act.put] at hs
      exact ⟨a', w', hz, .head hs hs'⟩
    | some o =>
      simp only [ho] at h
      have h1 : if Region.wanted o (yielded ops a.tmps) = true then o.wp P a w (wpOps P ops (fun e a w => e = .normal ∧ Z a w) rest) (fun _ _ _ => False) else wpOps P ops (fun e a w => e = .normal ∧ Z a w) rest (a.put o.dst undef) w := by
        split at h
        · rename_i hw
          rw [if_pos hw]
          rcases h with h | ⟨_, a₀, w₀, hq⟩
          · exact wp_noexit h
          · exact absurd hq.1 (by simp)
        · rename_i hw
          rw [if_neg hw]; exact h
      obtain ⟨a1, w1, h2, s1⟩ := opR (b := b) (rest := rest) ho (hnd.imp (fun h => h) (fun h => h i o ho)) h1 k cs
      obtain ⟨a', w', hz, hs'⟩ := ih _ _ h2 k cs
      exact ⟨a', w', hz, s1.trans hs'⟩
/-- A frame: its function; if it is a round's: the record's place. -/
abbrev Fr := FuncId × Option Nat
def atF (f : Fr) : Frame := { (default : Frame) with fn := f.1, kind := .normal, roundOf := f.2 }
/-- How a frame ends: a function's leaves; a round's has handed its answer to the frame below. -/
def Fin (P : Program) (f : Fr) (cs : List Frame) (e : Ending) (w' : World) (m' : Machine) : Prop :=
  match f.2 with
  | none => ∃ fr, m' = lone fr cs w' ∧ fr.fn = f.1 ∧ fr.leaving P w' e
  | some _ => ∃ c cs', cs = c :: cs' ∧ m' = match e with
    | .returned v => lone (c.finish v) cs' w'
    | .panicked chain => lone (c.raise chain) cs' w'
    | .outgrown => lone c cs' w'
def Goes (P : Program) (f : Fr) (R : Ending → World → Prop) (todo : List Item) (a : Act) (w : World) : Prop :=
  ∀ cs, (f.2 = none ∨ cs ≠ []) → ∃ e w' m', R e w' ∧ Comes P (lone ((atF f).atR a todo) cs w) m' e ∧ Fin P f cs e w' m'
theorem Goes.step {P : Program} {f : Fr} {R : Ending → World → Prop} {todo todo' : List Item} {a a' : Act} {w w' : World}
    (h : ∀ cs, Steps P (lone ((atF f).atR a todo) cs w) (lone ((atF f).atR a' todo') cs w')) (g : Goes P f R todo' a' w') : Goes P f R todo a w :=
  fun cs hcs => let ⟨e, w1, m, r, c, hl⟩ := g cs hcs; ⟨e, w1, m, r, .of_steps (h cs) c, hl⟩
theorem Goes.ops {P : Program} {f : Fr} {R : Ending → World → Prop} {ops : Array Oper} {is : List Nat} {k : List Item} {a : Act} {w : World}
    (hnd : f.2 = none ∨ ∀ (i : Nat) (o : Oper), ops[i]? = some o → isDefer o = false)
    (h : wpOps P ops (fun e a w => e = .normal ∧ Goes P f R k a w) is a w) : Goes P f R (.inRegion ops is :: k) a w := by
  intro cs hcs
  obtain ⟨a', w', hg, harr⟩ := wp_opsR (b := atF f) hnd is a w h k cs
  obtain ⟨e, w1, m, r, c, hl⟩ := hg cs hcs
  exact ⟨e, w1, m, r, .of_steps harr c, hl⟩
theorem goes_op {P : Program} {f : Fr} {R : Ending → World → Prop} {ops : Array Oper} {i : Nat} {rest : List Nat} {o : Oper} {k : List Item} {a : Act} {w : World} (ho : ops[i]? = some o) (hnd : f.2 = none ∨ isDefer o = false)
    (h : if Region.wanted o (yielded ops a.tmps) = true then o.wp P a w (fun a w => Goes P f R (.inRegion ops rest :: k) a w) (fun _ _ _ => False) else Goes P f R (.inRegion ops rest :: k) (a.put o.dst undef) w) :
    Goes P f R (.inRegion ops (i :: rest) :: k) a w := fun cs hcs => by
  obtain ⟨a', w', hg, hs⟩ := opR (b := atF f) ho hnd h k cs
  obtain ⟨e, w1, m, r, c, hl⟩ := hg cs hcs
  exact ⟨e, w1, m, r, .of_steps hs c, hl⟩
theorem calls_of_goes {P : Program} {f : FuncId} {fn : Func} {c : Code} {args : Array Value} {w : World} {R : Ending → World → Prop}
    (hf : P.funcs[f]? = some fn) (hb : fn.body = some c)
    (h : Goes P (f, none) R [.code c] { tmps := args ++ Array.replicate (fn.ntmps - args.size) undef, defers := [] } w) : Calls P f args w R := by
  intro cs
  obtain ⟨e, w', m, r, hc, fr, rfl, hl⟩ := h cs (.inl rfl)
  refine ⟨e, w', fr, r, ?_, hl⟩
  have henter : Frame.enter P f args .normal = (atF (f, none)).atR { tmps := args ++ Array.replicate (fn.ntmps - args.size) undef, defers := [] } [.code c] := by
    simp [Frame.enter, Frame.atR, hf, hb, atF]
  rw [henter]; exact hc
/-- The frame's end. -/
theorem goes_ret {P : Program} {f : FuncId} {fn : Func} {R : Ending → World → Prop} {todo : List Item} {a : Act} {w : World} {v : Value}
    (ht : todo = [] ∨ ∃ k, todo = .code .ret :: k) (hf : P.funcs[f]? = some fn) (hd : a.defers = []) (hr : (results fn a.tmps).run P w = .ok v w) (hR : R (.returned v) w) : Goes P (f, none) R todo a w := by
  intro cs _
  rcases ht with rfl | ⟨k, rfl⟩
  · exact ⟨.returned v, w, _, hR, .one (stepR_end rfl), _, rfl, rfl, rfl, hd, rfl, fn, hf, hr⟩
  · exact ⟨.returned v, w, _, hR, .one (stepR_ret rfl), _, rfl, rfl, rfl, hd, rfl, fn, hf, hr⟩
/-- One operation that hands back a value and leaves the world alone or turns it. -/
theorem wpOps_value {P : Program} {ops : Array Oper} {Q : Exit → Act → World → Prop} {i : Nat} {is : List Nat} {o : Oper} {a : Act} {w w' : World} {v : Value}
    (ho : ops[i]? = some o) (hw : Region.wanted o (yielded ops a.tmps) = true) (hr : (execOp a.eval o).run P w = .ok (.value v) w')
    (h : wpOps P ops Q is (a.put o.dst v) w') : wpOps P ops Q (i :: is) a w := by
  simp only [wpOps, ho, hw, if_true, Oper.wp, hr, Oper.upon]
  exact .inl h
theorem wpOps_skip {P : Program} {ops : Array Oper} {Q : Exit → Act → World → Prop} {i : Nat} {is : List Nat} {o : Oper} {a : Act} {w w' : World}
    (ho : ops[i]? = some o) (hw : Region.wanted o (yielded ops a.tmps) = true) (hr : (execOp a.eval o).run P w = .ok .skip w')
    (h : wpOps P ops Q is (a.put o.dst undef) w') : wpOps P ops Q (i :: is) a w := by
  simp only [wpOps, ho, hw, if_true, Oper.wp, hr, Oper.upon]
  exact .inl h
theorem wpOps_off {P : Program} {ops : Array Oper} {Q : Exit → Act → World → Prop} {i : Nat} {is : List Nat} {o : Oper} {a : Act} {w : World}
    (ho : ops[i]? = some o) (hw : Region.wanted o (yielded ops a.tmps) = false) (h : wpOps P ops Q is (a.put o.dst undef) w) : wpOps P ops Q (i :: is) a w := by
  simp only [wpOps, ho, hw]; exact h
theorem wpOps_enter {P : Program} {ops : Array Oper} {Q : Exit → Act → World → Prop} {i : Nat} {is : List Nat} {o : Oper} {a : Act} {w w' : World} {f : FuncId} {args : Array Value}
    (ho : ops[i]? = some o) (hw : Region.wanted o (yielded ops a.tmps) = true) (hr : (execOp a.eval o).run P w = .ok (.enter f args) w')
    (h : Calls P f args w' fun e w'' => ∃ v, e = .returned v ∧ wpOps P ops Q is (a.put o.dst v) w'') : wpOps P ops Q (i :: is) a w := by
  simp only [wpOps, ho, hw, if_true, Oper.wp, hr, Oper.upon]
  exact .inl (h.mono fun e w'' ⟨v, he, hv⟩ => by subst he; exact hv)
theorem ofV1_den {v : Value} {s : SV} (h : ofV1 v = some s) (ρ : Env) (β : Nat → Nat) : s.den ρ β = v := by
  unfold ofV1 at h
  split at h <;> simp at h <;> subst h <;> simp [SV.den, IE.den, BE.den]
theorem ofV1s_den (ρ : Env) (β : Nat → Nat) : ∀ (l : List Value) {ss : List SV}, l.mapM ofV1 = some ss → SV.dens ρ β ss = l
  | [], ss, h => by simp at h; subst h; rfl
  | v :: l, ss, h => by
    simp only [List.mapM_cons, Option.bind_eq_bind, Option.bind_eq_some_iff, Option.pure_def, Option.some.injEq] at h
    obtain ⟨x, h1, xs, h2, rfl⟩ := h
    simp only [SV.dens, ofV1_den h1, ofV1s_den ρ β l h2]
theorem ofV_den {v : Value} {s : SV} (h : ofV v = some s) (ρ : Env) (β : Nat → Nat) : s.den ρ β = v := by
  unfold ofV at h
  split at h
  · simp only [Option.map_eq_some_iff] at h
    obtain ⟨ss, h1, rfl⟩ := h
    simp only [SV.den, ofV1s_den ρ β _ h1]
  · exact ofV1_den h ρ β
theorem ev_den {sl : List SV} {x : Operand} {s : SV} (h : ev sl x = some s) {ρ : Env} {β : Nat → Nat} {a : Act} (ha : a.tmps = (SV.dens ρ β sl).toArray) : a.eval x = s.den ρ β := by
  cases x with
  | tmp t =>
    simp only [ev] at h
    simp [Act.eval, ha, SV.dens_map, h]
  | const v => simp only [ev] at h; rw [ofV_den h]; rfl
  | func f => simp only [ev, Option.some.injEq] at h; subst h; simp [Act.eval, SV.den, SV.dens]
  | global g => simp [ev] at h
theorem evs_den {sl : List SV} {ρ : Env} {β : Nat → Nat} {a : Act} (ha : a.tmps = (SV.dens ρ β sl).toArray) : ∀ (xs : List Operand) (ss : List SV), evs sl xs = some ss → xs.map a.eval = SV.dens ρ β ss
  | [], ss, h => by simp only [evs, Option.some.injEq] at h; subst h; rfl
  | x :: xs, ss, h => by
    simp only [evs] at h
    split at h
    · rename_i v vs h1 h2
      simp only [Option.some.injEq] at h; subst h
      simp only [List.map_cons, SV.dens, ev_den h1 ha, evs_den ha xs vs h2]
    · simp at h
theorem evs_length {sl : List SV} : ∀ (xs : List Operand) (ss : List SV), evs sl xs = some ss → ss.length = xs.length
  | [], ss, h => by simp only [evs, Option.some.injEq] at h; subst h; rfl
  | x :: xs, ss, h => by
    simp only [evs] at h
    split at h
    · rename_i v vs h1 h2
      simp only [Option.some.injEq] at h; subst h
      simp [evs_length xs vs h2]
    · simp at h
theorem put_den {sl : List SV} {ρ : Env} {β : Nat → Nat} {a : Act} (ha : a.tmps = (SV.dens ρ β sl).toArray) (dst : Option Tmp) (v : SV) :
    (a.put dst (v.den ρ β)).tmps = (SV.dens ρ β (putSV sl dst v)).toArray := by
  cases dst with
  | none => simpa [Act.put, putSV] using ha
  | some d =>
    simp only [Act.put, putSV, ha, SV.dens_map, List.map_set, List.setIfInBounds_toArray]
section
variable (ρ : Env)
theorem add'_den (x y : IE) : (IE.add' x y).den ρ = x.den ρ + y.den ρ := by unfold IE.add'; split <;> simp [IE.den]
theorem sub'_den (x y : IE) : (IE.sub' x y).den ρ = x.den ρ - y.den ρ := by unfold IE.sub'; split <;> rfl
theorem mul'_den (x y : IE) : (IE.mul' x y).den ρ = x.den ρ * y.den ρ := by unfold IE.mul'; split <;> rfl
theorem lt'_den (x y : IE) : (BE.lt' x y).den ρ = ltB (x.den ρ) (y.den ρ) := by unfold BE.lt'; split <;> rfl
theorem le'_den (x y : IE) : (BE.le' x y).den ρ = leB (x.den ρ) (y.den ρ) := by unfold BE.le'; split <;> rfl
theorem eq'_den (x y : IE) : (BE.eq' x y).den ρ = eqB (x.den ρ) (y.den ρ) := by unfold BE.eq'; split <;> rfl
theorem not'_den (x : BE) : (BE.not' x).den ρ = !x.den ρ := by unfold BE.not'; split <;> simp [BE.den]
theorem and'_den (x y : BE) : (BE.and' x y).den ρ = (x.den ρ && y.den ρ) := by unfold BE.and'; split <;> simp [BE.den]
theorem or'_den (x y : BE) : (BE.or' x y).den ρ = (x.den ρ || y.den ρ) := by unfold BE.or'; split <;> simp [BE.den]
end
theorem wrap_of_rng (k : IntKind) (n : Int) (h1 : loI k ≤ n) (h2 : n ≤ hiI k) : k.wrap n = n := by
  cases k <;> simp [loI, hiI, IntKind.signed, IntKind.bits] at h1 h2 <;> simp [IntKind.wrap, IntKind.signed, IntKind.bits] <;> omega
theorem fit_den {nw : Bool} {k : IntKind} {e : IE} {ns : List BE} {v : SV} (h : fit nw k e = (ns, v)) (ρ : Env) (β : Nat → Nat) (hn : ∀ b ∈ ns, b.den ρ = true) : v.den ρ β = .int k (k.wrap (e.den ρ)) := by
  unfold fit at h
  split at h
  · simp only [Prod.mk.injEq] at h
    obtain ⟨rfl, rfl⟩ := h
    have := hn _ (List.mem_singleton.2 rfl)
    simp only [rng, and'_den, le'_den, IE.den, Bool.and_eq_true] at this
    simp only [SV.den]
    rw [wrap_of_rng k _ (leB_true.1 this.1) (leB_true.1 this.2)]
  · simp only [Prod.mk.injEq] at h
    obtain ⟨rfl, rfl⟩ := h
    rfl
end Go.Sx
