/- SX: a range over a function: from frame to frame, in the machine. -/
import Derived.Test.YtbmfegliomkkfaaHSxS
import Derived.RangeFuncRecord
import Derived.RangeFuncIn
import Derived.RangeFuncLeaves
namespace Go.Sx
variable {P : Program}

/-- The record of a loop. -/
def recOf (f : FuncId) (tmps : Array Value) (ps : Array Tmp) (assign body : Code) (D : Nat) (st : LoopState) (pe : Option Code) : Loop :=
  { state := st, pending := pe, fn := f, tmps, params := ps, assign, body, defers := D }

theorem goes_rangeFunc {f : FuncId} {R : Ending → World → Prop} {g : Operand} {ps : Array Tmp} {assign body : Code} {k : List Item} {a : Act} {w : World} {gf : Nat} {lb : Array Value}
    (hg : a.eval g = .func (.func gf) #[] lb) (eg : ∀ args w, (callFunc gf args).run P w = .ok (.enter gf args) w)
    (h : Calls P gf (#[.func (.yield (w.heap.size + 1)) #[] #[]] ++ lb) ((w.alloc (.deferred (some []))).alloc (.loop (recOf f a.tmps ps assign body w.heap.size .ready none))) (fun e w' => ∃ v, e = .returned v ∧
      ∃ jump w4, (Instr.endLoop (w.heap.size + 1)).run P w' = .ok jump w4 ∧ Goes P (f, none) R ((jump.map Item.code).toList ++ k) { a with defers := { target := .collected w.heap.size, args := #[] } :: a.defers } w4)) :
    Goes P (f, none) R (.code (.rangeFunc g ps assign body) :: k) a w := by
  intro cs hcs
  have he : (Instr.enterLoop (atF (f, none)).fn a.tmps ps assign body (atF (f, none)).roundOf).run P w = .ok (w.heap.size + 1, [{ target := .collected w.heap.size, args := #[] }]) ((w.alloc (.deferred (some []))).alloc (.loop (recOf f a.tmps ps assign body w.heap.size .ready none))) :=
    run_enterLoop_outer _ _ _ _ _
  have hres : (resolve a.eval (rangeCall g (w.heap.size + 1)) 0).run P ((w.alloc (.deferred (some []))).alloc (.loop (recOf f a.tmps ps assign body w.heap.size .ready none))) =
      .ok { target := .fn (.func gf) lb, args := #[.func (.yield (w.heap.size + 1)) #[] #[]] } ((w.alloc (.deferred (some []))).alloc (.loop (recOf f a.tmps ps assign body w.heap.size .ready none))) := by
    simp only [resolve, hg]
    simp [go_sem]
  have henter := stepR_rangeFunc (P := P) (b := atF (f, none)) (a := a) (k := k) (cs := cs) (w := w) he hres (f := gf) (args := #[.func (.yield (w.heap.size + 1)) #[] #[]] ++ lb)
    (w₂ := (w.alloc (.deferred (some []))).alloc (.loop (recOf f a.tmps ps assign body w.heap.size .ready none))) (by simp [invoke, go_sem, eg])
  obtain ⟨e, w3, fr, ⟨v, rfl, jump, w4, hend, hgo⟩, hsteps, _, hleave⟩ := h ((atF (f, none)).atR { a with defers := { target := .collected w.heap.size, args := #[] } :: a.defers } (.inRangeFunc (w.heap.size + 1) :: k) :: cs)
  have sback : Steps P (lone ((atF (f, none)).atR a (.code (.rangeFunc g ps assign body) :: k)) cs w) (lone ((atF (f, none)).atR { a with defers := { target := .collected w.heap.size, args := #[] } :: a.defers } ((jump.map Item.code).toList ++ k)) cs w4) := by
    refine .head henter (Steps.trans hsteps (.head ?_ (.one (stepR_endRangeFunc hend))))
    rw [← finish_atR_inRangeFunc (w.heap.size + 1) v]; exact step_leave_returned hleave
  obtain ⟨e, w5, m, r, c, hl⟩ := hgo cs hcs
  exact ⟨e, w5, m, r, .of_steps sback c, hl⟩

/-- A call of yield: the round's frame. -/
theorem goes_yield {f : Fr} {R : Ending → World → Prop} {ops : Array Oper} {i : Nat} {rest : List Nat} {o : Oper} {k : List Item} {a : Act} {w : World} {L fn : Nat} {tmps : Array Value} {assign body : Code}
    (ho : ops[i]? = some o) (hnd : f.2 = none ∨ isDefer o = false) (hw : Region.wanted o (yielded ops a.tmps) = true) (hr : (execOp a.eval o).run P w = .ok (.round L fn tmps assign body) w)
    (h : Goes P (fn, some L) (fun e w' => ∃ v, e = .returned v ∧ Goes P f R (.inRegion ops rest :: k) (a.put o.dst v) w') [.code assign, .beginRound, .code body] { tmps := tmps, defers := [] } w) :
    Goes P f R (.inRegion ops (i :: rest) :: k) a w := by
  intro cs hcs
  have hg := stepGR_op (P := P) (b := atF f) (k := k) (cs := cs) (w := w) (rest := rest) ho hw
  have hsem : o.semAt (atF f).roundOf a.eval = execOp a.eval o := by
    rcases hnd with h0 | h0
    · show o.semAt f.2 a.eval = _
      rw [h0]; exact Oper.semAt_none _ _
    · exact Oper.semAt_eq _ _ _ (isDefer_false h0)
  rw [hsem] at hg
  have henter : step P (lone ((atF f).atR a (.inRegion ops (i :: rest) :: k)) cs w) =
      .next (lone (Frame.round L fn tmps assign body .normal) ((atF f).atR a (.inRegion ops (i :: rest) :: k) :: cs) w) :=
    step_lone_go (by rw [hg]; simp [stepG.apply, hr, Frame.atR])
  have hb : Frame.round L fn tmps assign body .normal = (atF (fn, some L)).atR { tmps := tmps, defers := [] } [.code assign, .beginRound, .code body] := by
    simp [Frame.round, Frame.atR, atF]
  obtain ⟨e, w1, m, ⟨v, rfl, hgo⟩, c, c0, cs', hcs', hm⟩ := h ((atF f).atR a (.inRegion ops (i :: rest) :: k) :: cs) (.inr (by simp))
  simp only [List.cons.injEq] at hcs'
  obtain ⟨rfl, rfl⟩ := hcs'
  subst hm
  rw [← hb] at c
  obtain ⟨e2, w5, m2, r, c2, hl⟩ := hgo cs hcs
  refine ⟨e2, w5, m2, r, .of_steps (.head henter (Steps.trans c ?_)) c2, hl⟩
  have hfin : ((atF f).atR a (.inRegion ops (i :: rest) :: k)).finish v = (atF f).atR (a.put o.dst v) (.inRegion ops rest :: k) := by
    rw [Frame.finish_atR, ho]; rfl
  simp only [hfin]
  exact .refl _ _

theorem goes_beginRound {fn L : Nat} {R : Ending → World → Prop} {k : List Item} {a : Act} {w w' : World} (hr : (Instr.beginRound L).run P w = .ok () w') (h : Goes P (fn, some L) R k a w') :
    Goes P (fn, some L) R (.beginRound :: k) a w := fun cs hcs => by
  obtain ⟨e, w5, m, r, c, hl⟩ := h cs hcs
  exact ⟨e, w5, m, r, .of_steps (.one (stepR_beginRound (b := atF (fn, some L)) rfl hr)) c, hl⟩

theorem goes_leave {fn L : Nat} {R : Ending → World → Prop} {todo : List Item} {a : Act} {w w' : World} {v : Value}
    (hs : ∀ c cs, step P (lone ((atF (fn, some L)).atR a todo) (c :: cs) w) = .next (lone (c.finish v) cs w')) (h : R (.returned v) w') : Goes P (fn, some L) R todo a w := fun cs hcs => by
  cases cs with
  | nil => rcases hcs with h0 | h0 <;> simp at h0
  | cons c cs => exact ⟨.returned v, w', _, h, .one (hs c cs), c, cs, rfl, rfl⟩

/-- A round's end: off its end; by return; by an exit that nothing in the round takes up. -/
theorem goes_roundEnd {fn L : Nat} {R : Ending → World → Prop} {a : Act} {w w' : World} {v : Value} (hr : (Instr.endRound L none).run P w = .ok v w') (h : R (.returned v) w') : Goes P (fn, some L) R [] a w :=
  goes_leave (fun _ _ => stepR_round_end (b := atF (fn, some L)) rfl rfl hr) h
theorem goes_roundRet {fn L : Nat} {R : Ending → World → Prop} {k : List Item} {a : Act} {w w' : World} {v : Value} (hr : (Instr.endRound L (some .ret)).run P w = .ok v w') (h : R (.returned v) w') : Goes P (fn, some L) R (.code .ret :: k) a w :=
  goes_leave (fun _ _ => stepR_round_ret (b := atF (fn, some L)) rfl rfl hr) h
theorem goes_roundExit {fn L id : Nat} {R : Ending → World → Prop} {k : List Item} {a : Act} {w w' : World} {v : Value} (hx : exitTo id k = none) (hr : (Instr.endRound L (some (.exit id))).run P w = .ok v w') (h : R (.returned v) w') :
    Goes P (fn, some L) R (.code (.exit id) :: k) a w :=
  goes_leave (fun _ _ => stepR_round_exit (b := atF (fn, some L)) rfl rfl hx hr) h

end Go.Sx
