/- SX: a range over a function: from frame to frame, in the machine. -/
import Derived.Test.YthjahianafohjaaHSyc
import Derived.RangeFuncRecord
import Derived.RangeFuncIn
import Derived.RangeFuncLeaves
set_option linter.unusedSimpArgs false
set_option linter.unusedVariables false
namespace Go.Sy
variable {P : Program}
def recOf (f : FuncId) (tmps : Array Value) (ps : Array Tmp) (assign body : Code) (D : Nat) (st : LoopState) (pe : Option Code) : Loop :=
 { state := st, pending := pe, fn := f, tmps, params := ps, assign, body, defers := D }
theorem goes_rangeFunc {f : FuncId} {R : Ending -> World -> Prop} {g : Operand} {ps : Array Tmp} {assign body : Code} {k : List Item} {a : Act} {w : World} {gf : Nat} {lb : Array Value}
  (hg : a.eval g = .func (.func gf) #[] lb) (eg : ∀ args w, (callFunc gf args).run P w = .ok (.enter gf args) w)
  (h : Calls P gf (#[.func (.yield (w.heap.size + 1)) #[] #[]] ++ lb) ((w.alloc (.deferred (some []))).alloc (.loop (recOf f a.tmps ps assign body w.heap.size .ready none))) (fun e w' => ∃ v, e = .returned v /\
   ∃ jump w4, (Instr.endLoop (w.heap.size + 1)).run P w' = .ok jump w4 /\ Goes P (f, none) R ((jump.map Item.code).toList ++ k) { a with defers := { target := .collected w.heap.size, args := #[] } :: a.defers } w4)) :
  Goes P (f, none) R (.code (.rangeFunc g ps assign body) :: k) a w := by
 intro cs hcs
 have he : (Instr.enterLoop (atF (f, none)).fn a.tmps ps assign body (atF (f, none)).roundOf).run P w = .ok (w.heap.size + 1, [{ target := .collected w.heap.size, args := #[] }]) ((w.alloc (.deferred (some []))).alloc (.loop (recOf f a.tmps ps assign body w.heap.size .ready none))) :=
  run_enterLoop_outer _ _ _ _ _
 have hres : (resolve a.eval (rangeCall g (w.heap.size + 1)) 0).run P ((w.alloc (.deferred (some []))).alloc (.loop (recOf f a.tmps ps assign body w.heap.size .ready none))) =
   .ok { target := .fn (.func gf) lb, args := #[.func (.yield (w.heap.size + 1)) #[] #[]] } ((w.alloc (.deferred (some []))).alloc (.loop (recOf f a.tmps ps assign body w.heap.size .ready none))) := by
  simp only [resolve, hg]
  simp [go_sem]
 have henter := stepR_rangeFunc (P := P) (b := atF (f, none)) (a := a) (k := k) (cs := cs) (w := w) he hres (f := gf) (args := #[.func (.yield (w.heap.size + 1)) #[] #[]] ++ lb)
  (w₂ := (w.alloc (.deferred (some []))).alloc (.loop (recOf f a.tmps ps assign body w.heap.size .ready none))) (by simp [invoke, go_sem, eg])
 obtain ⟨e, w3, fr, ⟨v, rfl, jump, w4, hend, hgo⟩, hsteps, _, hleave⟩ := h ((atF (f, none)).atR { a with defers := { target := .collected w.heap.size, args := #[] } :: a.defers } (.inRangeFunc (w.heap.size + 1) :: k) :: cs)
 have sback : Steps P (lone ((atF (f, none)).atR a (.code (.rangeFunc g ps assign body) :: k)) cs w) (lone ((atF (f, none)).atR { a with defers := { target := .collected w.heap.size, args := #[] } :: a.defers } ((jump.map Item.code).toList ++ k)) cs w4) := by
  refine .head henter (Steps.trans hsteps (.head ?_ (.one (stepR_endRangeFunc hend))))
  rw [<- finish_atR_inRangeFunc (w.heap.size + 1) v]; exact step_leave_returned hleave
 obtain ⟨e, w5, m, r, c, hl⟩ := hgo cs hcs
 exact ⟨e, w5, m, r, .of_steps sback c, hl⟩
theorem goes_yield {f : Fr} {R : Ending -> World -> Prop} {ops : Array Oper} {i : Nat} {rest : List Nat} {o : Oper} {k : List Item} {a : Act} {w : World} {L fn : Nat} {tmps : Array Value} {assign body : Code}
  (ho : ops[i]? = some o) (hnd : f.2 = none \/ isDefer o = false) (hw : Region.wanted o (yielded ops a.tmps) = true) (hr : (execOp a.eval o).run P w = .ok (.round L fn tmps assign body) w)
  (h : Goes P (fn, some L) (fun e w' => ∃ v, e = .returned v /\ Goes P f R (.inRegion ops rest :: k) (a.put o.dst v) w') [.code assign, .beginRound, .code body] { tmps := tmps, defers := [] } w) :
  Goes P f R (.inRegion ops (i :: rest) :: k) a w := by
 intro cs hcs
 have hg := stepGR_op (P := P) (b := atF f) (k := k) (cs := cs) (w := w) (rest := rest) ho hw
 have hsem : o.semAt (atF f).roundOf a.eval = execOp a.eval o := by
  rcases hnd with h0 | h0
  ·show o.semAt f.2 a.eval = _
   rw [h0]; exact Oper.semAt_none _ _
  ·exact Oper.semAt_eq _ _ _ (isDefer_false h0)
 rw [hsem] at hg
 have henter : step P (lone ((atF f).atR a (.inRegion ops (i :: rest) :: k)) cs w) =
   .next (lone (Frame.round L fn tmps assign body .normal) ((atF f).atR a (.inRegion ops (i :: rest) :: k) :: cs) w) :=
  step_lone_go (by rw [hg]; simp [stepG.apply, hr, Frame.atR])
 have hb : Frame.round L fn tmps assign body .normal = (atF (fn, some L)).atR { tmps := tmps, defers := [] } [.code assign, .beginRound, .code body] := by
  simp [Frame.round, Frame.atR, atF]
 obtain ⟨e, w1, m, ⟨v, rfl, hgo⟩, c, c0, cs', hcs', hm⟩ := h ((atF f).atR a (.inRegion ops (i :: rest) :: k) :: cs) (.inr (by simp))
 simp only [List.cons.injEq] at hcs'
 obtain ⟨rfl, rfl⟩ := hcs'
 subst hm
 rw [<- hb] at c
 obtain ⟨e2, w5, m2, r, c2, hl⟩ := hgo cs hcs
 refine ⟨e2, w5, m2, r, .of_steps (.head henter (Steps.trans c ?_)) c2, hl⟩
 have hfin : ((atF f).atR a (.inRegion ops (i :: rest) :: k)).finish v = (atF f).atR (a.put o.dst v) (.inRegion ops rest :: k) := by
  rw [Frame.finish_atR, ho]; rfl
 simp only [hfin]
 exact .refl _ _
theorem goes_beginRound {fn L : Nat} {R : Ending -> World -> Prop} {k : List Item} {a : Act} {w w' : World} (hr : (Instr.beginRound L).run P w = .ok () w') (h : Goes P (fn, some L) R k a w') :
  Goes P (fn, some L) R (.beginRound :: k) a w := fun cs hcs => by
 obtain ⟨e, w5, m, r, c, hl⟩ := h cs hcs
 exact ⟨e, w5, m, r, .of_steps (.one (stepR_beginRound (b := atF (fn, some L)) rfl hr)) c, hl⟩
theorem goes_leave {fn L : Nat} {R : Ending -> World -> Prop} {todo : List Item} {a : Act} {w w' : World} {v : Value}
  (hs : ∀ c cs, step P (lone ((atF (fn, some L)).atR a todo) (c :: cs) w) = .next (lone (c.finish v) cs w')) (h : R (.returned v) w') : Goes P (fn, some L) R todo a w := fun cs hcs => by
 cases cs with
 | nil => rcases hcs with h0 | h0 <;> simp at h0
 | cons c cs => exact ⟨.returned v, w', _, h, .one (hs c cs), c, cs, rfl, rfl⟩
theorem goes_roundEnd {fn L : Nat} {R : Ending -> World -> Prop} {a : Act} {w w' : World} {v : Value} (hr : (Instr.endRound L none).run P w = .ok v w') (h : R (.returned v) w') : Goes P (fn, some L) R [] a w :=
 goes_leave (fun _ _ => stepR_round_end (b := atF (fn, some L)) rfl rfl hr) h
theorem goes_roundRet {fn L : Nat} {R : Ending -> World -> Prop} {k : List Item} {a : Act} {w w' : World} {v : Value} (hr : (Instr.endRound L (some .ret)).run P w = .ok v w') (h : R (.returned v) w') : Goes P (fn, some L) R (.code .ret :: k) a w :=
 goes_leave (fun _ _ => stepR_round_ret (b := atF (fn, some L)) rfl rfl hr) h
theorem goes_roundExit {fn L id : Nat} {R : Ending -> World -> Prop} {k : List Item} {a : Act} {w w' : World} {v : Value} (hx : exitTo id k = none) (hr : (Instr.endRound L (some (.exit id))).run P w = .ok v w') (h : R (.returned v) w') :
  Goes P (fn, some L) R (.code (.exit id) :: k) a w :=
 goes_leave (fun _ _ => stepR_round_exit (b := atF (fn, some L)) rfl rfl hx hr) h
end Go.Sy
namespace Go.Sy
open Go.RowKit
variable {P : Program}
structure Grows (E : Nat -> Prop) (w w' : World) : Prop where
 os : w'.os = w.os
 tape : w'.tape = w.tape
 output : w'.output = w.output
 size : w.heap.size <= w'.heap.size
 block : ∀ k, k < w.heap.size -> ¬ E k -> w'.heap[k]? = w.heap[k]?
theorem Grows.of_below {E : Nat -> Prop} {w w' : World} (h : Below w.heap.size w w') : Grows E w w' := ⟨h.os, h.tape, h.output, h.size, fun k hk _ => h.block k hk⟩
theorem Grows.put {E : Nat -> Prop} {w : World} {L : Nat} {o : Obj} (hL : E L) : Grows E w (w.putObj L o) :=
 ⟨rfl, rfl, rfl, by simp, fun k _ hE => World.putObj_heap_other (by rintro rfl; exact hE hL)⟩
theorem lt_of_heap {w : World} {i : Nat} {o : Obj} (h : w.heap[i]? = some o) : i < w.heap.size := (Array.getElem?_eq_some_iff.1 h).1
theorem Rel.grows {w0 : World} {s0 : Hp} {X : Fx} {ρ : Env} {s : Hp} {β : Nat -> Nat} {g : Cfg} {a : Act} {w w' : World} {E : Nat -> Prop} (h : Rel w0 s0 X ρ s β g a w) (hg : Grows E w w')
  (hE : ∀ i, E i -> w0.heap.size <= i /\ (∀ (k : Nat) (b : Blk), g.H[k]? = some b -> act ρ b -> β k ≠ i) /\ (∀ o, s i o = none) /\ ∀ o, ¬ X.K (i, o)) : Rel w0 s0 X ρ s β g a w' := by
 have hcell : ∀ i o, w.heap[i]? = some o -> ¬ E i -> w'.heap[i]? = some o := fun i o hi ho => by
  rw [hg.block i (lt_of_heap hi) ho]; exact hi
 refine ⟨h.tm, h.df, Nat.le_trans h.sz hg.size, fun x hx => ⟨?_, (h.kp x hx).own, (h.kp x hx).un⟩, h.fs, h.ci, h.cb, h.cv, h.cj, h.ok, ⟨hg.os.trans h.bel.os, hg.tape.trans h.bel.tape, hg.output.trans h.bel.output, Nat.le_trans h.bel.size hg.size, fun k hk => ?_⟩, ?_, h.nw, h.le, ?_, h.sp⟩
 ·exact hcell _ _ (h.kp x hx).is (fun he => (hE _ he).2.2.2 x.2 hx)
 ·rw [hg.block k (Nat.lt_of_lt_of_le hk h.bel.size) (fun he => by have := (hE k he).1; omega)]; exact h.bel.block k hk
 ·intro b off u hb
  have hc := h.sb b off u hb
  have hnE : ¬ E b := fun he => by have := (hE b he).2.2.1 off; rw [hb] at this; simp at this
  rw [<- hc]
  exact World.cell?_of_block (hg.block b (h.sb.lt hb) hnE)
 ·intro k b hk
  have hb := h.bl k b hk
  cases b with
  | cells cs T sh =>
   simp only [BOk] at hb ⊢
   exact ⟨hb.1, hcell _ _ hb.2.1 (fun he => (hE _ he).2.1 k _ hk trivial rfl), hb.2.2⟩
  | row n T size =>
   simp only [BOk] at hb ⊢
   refine ⟨hb.1, hb.2.imp (fun x => x) ?_⟩
   rintro ⟨m, cap, cur, c1, c2, c3, c4⟩
   exact ⟨m, cap, cur, c1, c2, hcell _ _ c3 (fun he => (hE _ he).2.1 k _ hk (by show ρ.v.getD n vd ≠ _; rw [c1]; simp) rfl), c4⟩
theorem Rel.keptNC {w0 : World} {s0 : Hp} {X : Fx} {ρ : Env} {s : Hp} {β : Nat -> Nat} {g : Cfg} {a : Act} {w : World} (h : Rel w0 s0 X ρ s β g a w) {i : Nat} {o : Obj} (hi : w.heap[i]? = some o) (ho : objNC o = true) :
  Kept s ρ β g.H w (i, o) := by
 refine ⟨hi, fun k b hk hb he => ?_, fun off => ?_⟩
 ·have hbl := h.bl k b hk
  simp only at he
  cases b with
  | cells cs T sh =>
   simp only [BOk] at hbl
   rw [he, hi] at hbl
   have := hbl.2.1
   simp only [Option.some.injEq] at this
   subst this; simp [objNC] at ho
  | row n T size =>
   simp only [BOk] at hbl
   rcases hbl.2 with c | ⟨m, cap, cur, c1, c2, c3, c4⟩
   ·exact hb c
   ·rw [he, hi] at c3
    simp only [Option.some.injEq] at c3
    subst c3; simp [objNC] at ho
 ·cases hs : s i off with
  | none => rfl
  | some u =>
   have := h.sb i off u hs
   simp only [World.cell?, hi] at this
   cases o <;> simp_all [objNC]
theorem Rel.kept {w0 : World} {s0 : Hp} {X X' : Fx} {ρ : Env} {s : Hp} {β : Nat -> Nat} {g : Cfg} {a : Act} {w : World} (h : Rel w0 s0 X ρ s β g a w) (hd : X'.ds = X.ds) (hz : X'.zs = X.zs) (hs : X'.sz <= w.heap.size)
  (hk : ∀ x, X'.K x -> X.K x \/ Kept s ρ β g.H w x) : Rel w0 s0 X' ρ s β g a w :=
 ⟨h.tm, h.df.trans hd.symm, hs, fun x hx => (hk x hx).elim (h.kp x) id, hz.trans h.fs, h.ci, h.cb, h.cv, h.cj, h.ok, h.bel, h.sb, h.nw, h.le, h.bl, h.sp⟩
theorem Rel.turned {w0 : World} {s0 : Hp} {X X' : Fx} {ρ : Env} {s : Hp} {β : Nat -> Nat} {g : Cfg} {a : Act} {w : World} {L : Nat} {o o' : Obj} (h : Rel w0 s0 X ρ s β g a w) (hd : X'.ds = X.ds) (hz : X'.zs = X.zs) (hsz : X'.sz <= w.heap.size)
  (hL : w0.heap.size <= L) (ho : w.heap[L]? = some o) (hn : objNC o = true) (hn' : objNC o' = true) (hk : ∀ x, X'.K x -> (x.1 ≠ L /\ X.K x) \/ x = (L, o')) : Rel w0 s0 X' ρ s β g a (w.putObj L o') := by
 have h1 : Rel w0 s0 { X with K := fun x => x.1 ≠ L /\ X.K x } ρ s β g a w := h.kept rfl rfl h.sz (fun x hx => .inl hx.2)
 have h0 := h.keptNC ho hn
 have h2 := h1.grows (Grows.put (E := fun i => i = L) (o := o') rfl) (fun i hi => by
  subst hi
  exact ⟨hL, h0.own, h0.un, fun o1 h1 => h1.1 rfl⟩)
 refine h2.kept hd hz (by simpa using hsz) (fun x hx => ?_)
 rcases hk x hx with h3 | rfl
 ·exact .inl h3
 ·exact .inr ⟨World.putObj_heap_same (lt_of_heap ho), h0.own, h0.un⟩
def ENew (E E' : Nat -> Prop) (w w' : World) : Prop := ∀ i, E' i -> (E i \/ w.heap.size <= i) /\ ∃ o, w'.heap[i]? = some o
def EKept (E : Nat -> Prop) (w w' : World) : Prop := w.heap.size <= w'.heap.size /\ ∀ i, E i -> w'.heap[i]? = w.heap[i]?
structure Yielder (P : Program) (L : Nat) (ys : List (List Value)) (s : Hp) (J : Nat -> (Nat -> Prop) -> World -> Prop) (Z : (Nat -> Prop) -> World -> Prop) : Prop where
 sub : ∀ k E w, J k E w -> Sub s w
 zsub : ∀ E w, Z E w -> Sub s w
 stab : ∀ k E E' w w', J k E w -> Grows E w w' -> ENew E E' w w' -> J k E' w'
 zstab : ∀ E E' w w', Z E w -> Grows E w w' -> ENew E E' w w' -> Z E' w'
 call : ∀ k E w args, ys[k]? = some args -> J k E w -> ∃ r : Loop, w.heap[L]? = some (.loop r) /\ args.length = r.params.size /\
  Goes P (r.fn, some L) (fun e w' => EKept E w w' /\ ((e = .returned (.bool true) /\ J (k + 1) E w') \/ (e = .returned (.bool false) /\ Z E w')))
   [.code r.assign, .beginRound, .code r.body] { tmps := (r.params.zip args.toArray).foldl (fun tmps (t, a) => tmps.setIfInBounds t a) r.tmps, defers := [] } w
def yv (L : Nat) : Value := .func (.yield L) #[] #[]
def noE : Nat -> Prop := fun _ => False
def IterCt (P : Program) (F : Nat) (caps : List Value) (s : Hp) (ys : List (List Value)) : Prop :=
 ∀ L J Z w, Yielder P L ys s J Z -> J 0 noE w -> Calls P F (#[yv L] ++ caps.toArray) w (fun e w' => ∃ v, e = .returned v /\ ∃ E, J ys.length E w' \/ Z E w')
theorem IterCt.mono {F : Nat} {caps : List Value} {s t : Hp} {ys : List (List Value)} (h : IterCt P F caps s ys) (hst : s.le t) : IterCt P F caps t ys := fun L J Z w hy hj =>
 h L J Z w ⟨fun k E w hk b o u hb => hy.sub k E w hk b o u (hst b o u hb), fun E w hk b o u hb => hy.zsub E w hk b o u (hst b o u hb), hy.stab, hy.zstab, hy.call⟩ hj
def setPs (sl : List SV) (ps : List Nat) (yvs : List SV) : List SV := (ps.zip yvs).foldl (fun l x => l.set x.1 x.2) sl
theorem setPs_den (ρ : Env) (β : Nat -> Nat) : ∀ (ps : List Nat) (yvs : List SV) (sl : List SV) (a : Array Value), a = (SV.dens ρ β sl).toArray ->
  (ps.zip (SV.dens ρ β yvs)).foldl (fun tmps (x : Nat × Value) => tmps.setIfInBounds x.1 x.2) a = (SV.dens ρ β (setPs sl ps yvs)).toArray
 | [], _, sl, a, h => by simpa [setPs] using h
 | p :: ps, [], sl, a, h => by simpa [setPs, SV.dens] using h
 | p :: ps, y :: ys, sl, a, h => by
  have := setPs_den ρ β ps ys (sl.set p y) (a.setIfInBounds p (y.den ρ β)) (by simp only [h, SV.dens_map, List.map_set, List.setIfInBounds_toArray])
  simpa [setPs, SV.dens] using this
def roundCfg (tr : Cfg) (tsl : List SV) (p : List Bool) (ps : List Nat) (yvs : List SV) (di db dv : Nat) : Cfg :=
 { tr with todo := [.code (false :: p), .begin, .code (true :: p)], sl := setPs tsl ps yvs, ni := tr.ni + di, nb := tr.nb + db, nv := tr.nv + dv }
def backCfg (g : Cfg) (tsl : List SV) (todo : List PI) : Cfg := { g with todo, sl := tsl, fs := [] }
section
variable (P) (f : FuncId) (Q : Value -> Hp -> Prop) (body : Code) (w0 : World) (s0 : Hp) (Ds : List Nat)
abbrev ReachM (g : Cfg) (ρ : Env) (s : Hp) : Prop := ReachX P (f, none) (Ret Q s0 w0) body w0 s0 (Xm Ds) g ρ s
def RoundT (tr : Cfg) (kc : List PI) (sb : Hp) (In : List Int -> List Bool -> List Value -> Hp -> Prop) (g : Cfg) (ρ : Env) (s : Hp) : Prop :=
 (g.todo = [] /\ sb.le s /\ ∃ A, fits ⟨0, 0, 0, 0⟩ A tr { g with sl := [] } = true /\ In (A.is.map (IE.den ρ)) (A.bs.map (BE.den ρ)) (SV.dens ρ id A.vs) s) \/
 (∃ q k tsl, g.todo = .code q :: k /\ sb.le s /\ g.fs = [tsl] /\ (sub body q = .ret \/ ∃ id, sub body q = .exit id /\ exitTo id (k.map (itemOf body)) = none) /\
  ∀ D, MarksOk w0 (D :: Ds) -> ReachM P f Q body w0 s0 (D :: Ds) (backCfg g tsl (.code q :: kc)) ρ s)
end
def XL (Ds : List Nat) (D : Nat) (T0 : Array Value) (o : Obj) : Fx :=
 { K := fun x => (x.1 ∈ Ds /\ x.2 = .deferred (some [])) \/ x = (D, .deferred (some [])) \/ x = (D + 1, o), zs := [T0], ds := [] }
def EOk (s : Hp) (ρ : Env) (β : Nat -> Nat) (H : List Blk) (D : Nat) (E : Nat -> Prop) (w : World) : Prop := ∀ i, E i -> D + 1 < i /\ ∃ o, Kept s ρ β H w (i, o)
def JR (w0 : World) (s0 : Hp) (Ds : List Nat) (D : Nat) (T0 : Array Value) (r0 : Loop) (s : Hp) (tr : Cfg) (I : Nat -> List Int -> List Bool -> List Value -> Hp -> Prop) (k : Nat) (E : Nat -> Prop) (w : World) : Prop :=
 ∃ is bs vs js s1 β, s.le s1 /\ I k is bs vs s1 /\ Rel w0 s0 (XL Ds D T0 (.loop r0)) ⟨is, bs, vs, js⟩ s1 β tr { tmps := #[], defers := [] } w /\ EOk s1 ⟨is, bs, vs, js⟩ β tr.H D E w
def ZR (P : Program) (f : FuncId) (Q : Value -> Hp -> Prop) (body : Code) (w0 : World) (s0 : Hp) (Ds : List Nat) (D : Nat) (T0 : Array Value) (r0 : Loop) (s : Hp) (kc : List PI) (E : Nat -> Prop) (w : World) : Prop :=
 ∃ g q tsl ρ s1 β, s.le s1 /\ g.fs = [tsl] /\ Rel w0 s0 (XL Ds D T0 (.loop { r0 with state := .done, pending := some (sub body q) })) ρ s1 β { g with sl := [] } { tmps := #[], defers := [] } w /\ EOk s1 ρ β g.H D E w /\
  ∀ D, MarksOk w0 (D :: Ds) -> ReachM P f Q body w0 s0 (D :: Ds) (backCfg g tsl (.code q :: kc)) ρ s1
theorem stabR {w0 : World} {s0 : Hp} {Ds : List Nat} {D : Nat} {T0 : Array Value} {o : Obj} {ρ : Env} {s : Hp} {β : Nat -> Nat} {g : Cfg} {a : Act} {w w' : World} {E E' : Nat -> Prop} (hlt : ∀ D' ∈ Ds, D' < D) (hD0 : w0.heap.size <= D)
  (h : Rel w0 s0 (XL Ds D T0 o) ρ s β g a w) (he : EOk s ρ β g.H D E w) (hg : Grows E w w') (hn : ENew E E' w w') : Rel w0 s0 (XL Ds D T0 o) ρ s β g a w' /\ EOk s ρ β g.H D E' w' := by
 refine ⟨h.grows hg (fun i hi => ?_), fun i hi => ?_⟩
 ·obtain ⟨h1, o1, h2, h3, h4⟩ := he i hi
  refine ⟨by omega, h3, h4, fun o2 hk => ?_⟩
  rcases hk with ⟨h4, _⟩ | h4 | h4
  ·have := hlt i h4; omega
  ·simp only [Prod.mk.injEq] at h4; omega
  ·simp only [Prod.mk.injEq] at h4; omega
 ·obtain ⟨h1, o1, h2⟩ := hn i hi
  rcases h1 with h1 | h1
  ·obtain ⟨e1, o2, e2, e3, e4⟩ := he i h1
   exact ⟨e1, o1, h2, e3, e4⟩
  ·have := lt_of_heap (h.kp (D + 1, o) (.inr (.inr rfl))).is
   simp only at this
   refine ⟨by omega, o1, h2, fun k b hk hb => ?_, fun off => ?_⟩
   ·have := h.lt hk hb
    simp only; omega
   ·cases hs : s i off with
    | none => rfl
    | some u => have := h.sb.lt hs; omega
theorem Rel.back {w0 : World} {s0 : Hp} {Ds : List Nat} {D : Nat} {T0 : Array Value} {r r' : Loop} {ρ : Env} {s : Hp} {β : Nat -> Nat} {g : Cfg} {w : World} {tsl : List SV} (hlt : ∀ D' ∈ Ds, D' < D) (hD0 : w0.heap.size <= D)
  (h : Rel w0 s0 (XL Ds D T0 (.loop r)) ρ s β { g with sl := [] } { tmps := #[], defers := [] } w) (hfs : g.fs = [tsl]) (todo : List PI) :
  Rel w0 s0 (Xm (D :: Ds)) ρ s β (backCfg g tsl todo) { tmps := T0, defers := (D :: Ds).map markOf } (w.putObj (D + 1) (.loop r')) := by
 have hL := h.kp (D + 1, .loop r) (.inr (.inr rfl))
 have h1 := h.turned (X' := { (Xm (D :: Ds)) with zs := [T0], ds := [] }) (L := D + 1) (o' := .loop r') rfl rfl (Nat.zero_le _) (by omega) hL.is rfl rfl (fun x hx => by
  obtain ⟨h2, h3⟩ := hx
  obtain ⟨i, o⟩ := x
  simp only at h2 h3
  subst h3
  left
  rcases List.mem_cons.1 h2 with h2 | h2
  ·subst h2; exact ⟨by simp, .inr (.inl rfl)⟩
  ·have := hlt _ h2
   exact ⟨by simp only [ne_eq]; omega, .inl ⟨h2, rfl⟩⟩)
 have hz : [T0] = g.fs.map fun l => (SV.dens ρ β l).toArray := h1.fs
 rw [hfs] at hz
 simp only [List.map_cons, List.map_nil, List.cons.injEq, and_true] at hz
 exact ⟨hz, rfl, h1.sz, h1.kp, rfl, h1.ci, h1.cb, h1.cv, h1.cj, h1.ok, h1.bel, h1.sb, h1.nw, h1.le, h1.bl, h1.sp⟩
section
variable {c : Ctx} {f : FuncId} {fn : FnC} {Q : Value -> Hp -> Prop} {w0 : World} {s0 : Hp} {Ds : List Nat}
def BeginT (P : Program) (c : Ctx) (fn : FnC) (Q : Value -> Hp -> Prop) (T : Cfg -> Env -> Hp -> Prop) (n : Nat) (p : List Bool) (g : Cfg) (ρ : Env) (s : Hp) : Prop :=
 g.todo = [.begin, .code (true :: p)] /\ VC P Q T (run c fn n { g with todo := [.code (true :: p)] }) ρ s
theorem Rel.around {X : Fx} {ρ : Env} {s : Hp} {β : Nat -> Nat} {g : Cfg} {a : Act} {w : World} (h : Rel w0 s0 X ρ s β g a w) (todo : List PI) : Rel w0 s0 X ρ s β { g with todo, sl := [] } { tmps := #[], defers := a.defers } w :=
 ⟨by simp [SV.dens], h.df, h.sz, h.kp, h.fs, h.ci, h.cb, h.cv, h.cj, h.ok, h.bel, h.sb, h.nw, h.le, h.bl, h.sp⟩
theorem rangeX (hP : ProgOk P c) (hc : c.leaf = true) (hm : MarksOk w0 Ds) (hnd : ∀ p (i : Nat) (o : Oper), (opsAt (sub fn.body p))[i]? = some o -> isDefer o = false)
  {p : List Bool} {kc : List PI} {gop : Operand} {ps : Array Tmp} {assign bodyc : Code} (hsub : sub fn.body p = .rangeFunc gop ps assign bodyc) (hkc : ∀ p d ks k, kc ≠ .dreg p d ks :: k)
  {F : Nat} {caps : List Value} {ys : List (List Value)} (eg : ∀ args w, (callFunc F args).run P w = .ok (.enter F args) w)
  {g : Cfg} {ρ : Env} {s : Hp} (hit : IterCt P F caps s ys) (htodo : g.todo = .code p :: kc) (hfs : g.fs = [])
  {sv : SV} (hev : ev g.sl gop = some sv) (hsv : ∀ β, sv.den ρ β = .func (.func F) #[] caps.toArray)
  (tr : Cfg) (tsl : List SV) (htd : tr.todo = []) (hsl : tr.sl = []) (htr : tr.fs = [tsl]) (hok : tr.okB = true) (yvs : List SV) (di db dv n : Nat) (hlen : yvs.length = ps.size)
  (I : Nat -> List Int -> List Bool -> List Value -> Hp -> Prop)
  (A : Asg) (hfit : fits ⟨0, 0, 0, 0⟩ A tr { g with todo := [], sl := [], fs := [g.sl] } = true)
  (hI : I 0 (A.is.map (IE.den ρ)) (A.bs.map (BE.den ρ)) (SV.dens ρ id A.vs) s)
  (round : ∀ k args is bs vs js s1, is.length = tr.ni -> bs.length = tr.nb -> vs.length = tr.nv -> js.length = tr.nj -> ys[k]? = some args -> s.le s1 -> I k is bs vs s1 ->
   ∃ is' bs' vs', is'.length = di /\ bs'.length = db /\ vs'.length = dv /\ vs'.all fineV = true /\ (∀ β, SV.dens ⟨is ++ is', bs ++ bs', vs ++ vs', js⟩ β yvs = args) /\
    VC P Q (BeginT P c fn Q (RoundT P f Q fn.body w0 s0 Ds tr kc s1 (I (k + 1))) n p) (run c fn n (roundCfg tr tsl p ps.toList yvs di db dv)) ⟨is ++ is', bs ++ bs', vs ++ vs', js⟩ s1)
  (after : ∀ is bs vs js s1, is.length = tr.ni -> bs.length = tr.nb -> vs.length = tr.nv -> js.length = tr.nj -> s.le s1 -> I ys.length is bs vs s1 ->
   ∀ D, MarksOk w0 (D :: Ds) -> ReachM P f Q fn.body w0 s0 (D :: Ds) (backCfg tr tsl kc) ⟨is, bs, vs, js⟩ s1) :
  ReachM P f Q fn.body w0 s0 Ds g ρ s := by
 intro β a w hr
 unfold GoesG
 rw [htodo]
 show Goes P (f, none) (Ret Q s0 w0) (.code (sub fn.body p) :: kc.map (itemOf fn.body)) a w
 rw [hsub]
 have hadf : a.defers = Ds.map markOf := hr.df
 have hlt : ∀ D' ∈ Ds, D' < w.heap.size := fun D' hD' => lt_of_heap (hr.kp (D', .deferred (some [])) ⟨hD', rfl⟩).is
 have hD0 : w0.heap.size <= w.heap.size := hr.bel.size
 have hmD : MarksOk w0 (w.heap.size :: Ds) := ⟨List.nodup_cons.2 ⟨fun h => by have := hlt _ h; omega, hm.nd⟩, fun D' hD' => by
  rcases List.mem_cons.1 hD' with rfl | h
  ·exact hD0
  ·exact hm.ge _ h⟩
 refine goes_rangeFunc (gf := F) (lb := caps.toArray) (by rw [ev_den hev hr.tm]; exact hsv β) eg ?_
 generalize hr0 : recOf f a.tmps ps assign bodyc w.heap.size .ready none = r0
 have r0fn : r0.fn = f := by rw [<- hr0]; rfl
 have r0tmps : r0.tmps = a.tmps := by rw [<- hr0]; rfl
 have r0ps : r0.params = ps := by rw [<- hr0]; rfl
 have r0as : r0.assign = assign := by rw [<- hr0]; rfl
 have r0body : r0.body = bodyc := by rw [<- hr0]; rfl
 have r0st : r0.state = .ready := by rw [<- hr0]; rfl
 have r0pe : r0.pending = none := by rw [<- hr0]; rfl
 have hs1 : (w.alloc (.deferred (some []))).heap.size = w.heap.size + 1 := by simp
 have hw1 : Below w.heap.size w ((w.alloc (.deferred (some []))).alloc (.loop r0)) := ((Below.refl _ _).alloc (Nat.le_refl _) _).alloc (by rw [hs1]; omega) _
 have hD1 : ((w.alloc (.deferred (some []))).alloc (.loop r0)).heap[w.heap.size]? = some (.deferred (some [])) := by
  rw [Below.heap_alloc _ _ _ (by rw [hs1]; omega)]; exact World.alloc_heap_new _ _
 have hL1 : ((w.alloc (.deferred (some []))).alloc (.loop r0)).heap[w.heap.size + 1]? = some (.loop r0) := by
  rw [<- hs1]; exact World.alloc_heap_new _ _
 have hbusy : ∀ (x : Loop), x = { r0 with state := .busy } -> ({ x with state := if (none : Option Code).isNone then .ready else .done, pending := none } : Loop) = r0 := by
  rintro x rfl
  rw [<- hr0]; rfl
 generalize hD : w.heap.size = D at *
 generalize (w.alloc (.deferred (some []))).alloc (.loop r0) = w1 at *
 have hJ0 : JR w0 s0 Ds D a.tmps r0 s tr I 0 noE w1 := by
  have h1 : Rel w0 s0 (Xm Ds) ρ s β g a w1 := hr.grow (by rw [hD]; exact hw1) (Hp.le_refl _) (fun b o u hu => by
   have hc := hr.sb b o u hu
   rw [<- hc]
   exact World.cell?_of_block (hw1.block _ (by rw [<- hD]; exact World.block_lt_of_cell? w _ hc))) (fun b o u h1 h2 => by rw [h1] at h2; simp at h2)
  have h2 : Rel w0 s0 (XL Ds D a.tmps (.loop r0)) ρ s β { g with todo := [], sl := [], fs := [g.sl] } { tmps := #[], defers := [] } w1 := by
   refine ⟨by simp [SV.dens], rfl, Nat.zero_le _, fun x hx => ?_, ?_, h1.ci, h1.cb, h1.cv, h1.cj, h1.ok, h1.bel, h1.sb, h1.nw, h1.le, h1.bl, h1.sp⟩
   ·rcases hx with ⟨h3, h4⟩ | rfl | rfl
    ·exact h1.kp x ⟨h3, h4⟩
    ·exact h1.keptNC hD1 rfl
    ·exact h1.keptNC hL1 rfl
   ·show [a.tmps] = _
    simp [h1.tm]
  have h3 := (h2.fits hfit).1
  rw [asg_zero hfit] at h3
  exact ⟨_, _, _, _, s, β, Hp.le_refl _, hI, h3, fun i hi => hi.elim⟩
 have hY : Yielder P (D + 1) ys s (JR w0 s0 Ds D a.tmps r0 s tr I) (ZR P f Q fn.body w0 s0 Ds D a.tmps r0 s kc) := by
  refine ⟨?_, ?_, ?_, ?_, ?_⟩
  ·rintro k E w' ⟨is, bs, vs, js, s1, β1, hle, _, h, _⟩ b o u hb
   exact h.sb b o u (hle b o u hb)
  ·rintro E w' ⟨g', q, tsl', ρ', s1, β1, hle, _, h, _⟩ b o u hb
   exact h.sb b o u (hle b o u hb)
  ·rintro k E E' w2 w3 ⟨is, bs, vs, js, s1, β1, hle, h0, h, he⟩ hg hn
   obtain ⟨h', he'⟩ := stabR hlt hD0 h he hg hn
   exact ⟨is, bs, vs, js, s1, β1, hle, h0, h', he'⟩
  ·rintro E E' w2 w3 ⟨g', q, tsl', ρ', s1, β1, hle, h0, h, he, h2⟩ hg hn
   obtain ⟨h', he'⟩ := stabR hlt hD0 h he hg hn
   exact ⟨g', q, tsl', ρ', s1, β1, hle, h0, h', he', h2⟩
  ·rintro k E w2 args hargs ⟨is, bs, vs, js, s1, β1, hle, h0, h, he⟩
   have hL2 := (h.kp (D + 1, .loop r0) (.inr (.inr rfl))).is
   obtain ⟨is', bs', vs', l1, l2, l3, hfv, hyv, hvc⟩ := round k args is bs vs js s1 h.ci h.cb h.cv h.cj hargs hle h0
   have hal : args.length = ps.size := by rw [<- hyv β1, SV.dens_map, List.length_map, hlen]
   refine ⟨r0, hL2, by rw [r0ps]; exact hal, ?_⟩
   rw [r0fn, r0as, r0body, r0ps, r0tmps]
   let XE : Obj -> Fx := fun o => { K := fun x => (XL Ds D a.tmps o).K x \/ (E x.1 /\ w2.heap[x.1]? = some x.2), zs := [a.tmps], ds := [], sz := w2.heap.size }
   have hR1 : Rel w0 s0 (XE (.loop r0)) ⟨is, bs, vs, js⟩ s1 β1 tr { tmps := #[], defers := [] } w2 := h.kept rfl rfl (Nat.le_refl _) (fun x hx => hx.imp id (fun h => by
    obtain ⟨e1, e2⟩ := h
    obtain ⟨i, o⟩ := x
    obtain ⟨_, o1, k1, k2, k3⟩ := he i e1
    exact ⟨e2, k2, k3⟩))
   have hR2 := hR1.push hok is' bs' vs' hfv (tr.ni + di) (tr.nb + db) (tr.nv + dv) (by rw [l1]) (by rw [l2]) (by rw [l3])
   have hz : [a.tmps] = tr.fs.map fun l => (SV.dens ⟨is ++ is', bs ++ bs', vs ++ vs', js⟩ β1 l).toArray := hR2.fs
   rw [htr] at hz
   simp only [List.map_cons, List.map_nil, List.cons.injEq, and_true] at hz
   have htm : (ps.zip args.toArray).foldl (fun tmps (x : Tmp × Value) => tmps.setIfInBounds x.1 x.2) a.tmps = (SV.dens ⟨is ++ is', bs ++ bs', vs ++ vs', js⟩ β1 (setPs tsl ps.toList yvs)).toArray := by
    rw [<- setPs_den _ _ ps.toList yvs tsl a.tmps hz, <- Array.foldl_toList, Array.toList_zip, hyv β1]
   have hR3 : Rel w0 s0 (XE (.loop r0)) ⟨is ++ is', bs ++ bs', vs ++ vs', js⟩ s1 β1 (roundCfg tr tsl p ps.toList yvs di db dv)
     { tmps := (ps.zip args.toArray).foldl (fun tmps (x : Tmp × Value) => tmps.setIfInBounds x.1 x.2) a.tmps, defers := [] } w2 :=
    ⟨htm, rfl, hR2.sz, hR2.kp, hR2.fs, hR2.ci, hR2.cb, hR2.cv, hR2.cj, hR2.ok, hR2.bel, hR2.sb, hR2.nw, hR2.le, hR2.bl, hR2.sp⟩
   have hkeep : ∀ {o : Obj} {ρ3 : Env} {s3 : Hp} {β3 : Nat -> Nat} {g3 : Cfg} {a3 : Act} {w3 : World}, Rel w0 s0 (XE o) ρ3 s3 β3 g3 a3 w3 -> EKept E w2 w3 /\ EOk s3 ρ3 β3 g3.H D E w3 := by
    intro o ρ3 s3 β3 g3 a3 w3 h3
    refine ⟨⟨h3.sz, fun i hi => ?_⟩, fun i hi => ?_⟩
    ·obtain ⟨e1, x, e2, _⟩ := he i hi
     have := (h3.kp (i, x) (.inr ⟨hi, e2⟩)).is
     simp only at this e2
     rw [e2, this]
    ·obtain ⟨e1, x, e2, _⟩ := he i hi
     exact ⟨e1, x, h3.kp (i, x) (.inr ⟨hi, e2⟩)⟩
   have hturn : ∀ {o o' : Obj} {ρ3 : Env} {s3 : Hp} {β3 : Nat -> Nat} {g3 : Cfg} {a3 : Act} {w3 : World}, objNC o = true -> objNC o' = true -> Rel w0 s0 (XE o) ρ3 s3 β3 g3 a3 w3 -> Rel w0 s0 (XE o') ρ3 s3 β3 g3 a3 (w3.putObj (D + 1) o') := by
    intro o o' ρ3 s3 β3 g3 a3 w3 ho ho' h3
    refine h3.turned rfl rfl h3.sz (by omega) (h3.kp (D + 1, o) (.inl (.inr (.inr rfl)))).is ho ho' (fun x hx => ?_)
    rcases hx with (⟨e1, e2⟩ | rfl | rfl) | ⟨e1, e2⟩
    ·have := hlt _ e1
     exact .inl ⟨by omega, .inl (.inl ⟨e1, e2⟩)⟩
    ·exact .inl ⟨by simp, .inl (.inr (.inl rfl))⟩
    ·exact .inr rfl
    ·have := (he _ e1).1
     exact .inl ⟨by omega, .inr ⟨e1, e2⟩⟩
   have hT' : ∀ g3 ρ3 s3, RoundT P f Q fn.body w0 s0 Ds tr kc s1 (I (k + 1)) g3 ρ3 s3 -> ReachX P (f, some (D + 1)) (fun e w' => EKept E w2 w' /\ ((e = .returned (.bool true) /\ JR w0 s0 Ds D a.tmps r0 s tr I (k + 1) E w') \/ (e = .returned (.bool false) /\ ZR P f Q fn.body w0 s0 Ds D a.tmps r0 s kc E w')))
     fn.body w0 s0 (XE (.loop { r0 with state := .busy })) g3 ρ3 s3 := by
    rintro g3 ρ3 s3 hrt β3 a3 w3 hr3
    have hL3 := (hr3.kp (D + 1, .loop { r0 with state := .busy }) (.inl (.inr (.inr rfl)))).is
    have had : a3.defers = [] := hr3.df
    unfold GoesG
    rcases hrt with ⟨htd3, hle3, A3, hfit3, hI3⟩ | ⟨q, k3, tsl3, htd3, hle3, hfs3, hq, hrest⟩
    ·rw [htd3]
     refine goes_roundEnd (run_endRound none hL3) ?_
     rw [hbusy _ rfl]
     have h4 := ((hturn (o' := .loop r0) rfl rfl hr3).around g3.todo)
     rw [had] at h4
     have h5 := (h4.fits hfit3).1
     rw [asg_zero hfit3] at h5
     obtain ⟨q1, q2⟩ := hkeep h5
     refine ⟨q1, .inl ⟨rfl, ?_⟩⟩
     exact ⟨_, _, _, _, s3, β3, Hp.le_trans hle hle3, hI3, h5.kept rfl rfl (Nat.zero_le _) (fun x hx => .inl (.inl hx)), q2⟩
    ·rw [htd3]
     have hfin : ∀ j, j = sub fn.body q -> EKept E w2 (w3.putObj (D + 1) (.loop { r0 with state := .done, pending := some j })) /\ ZR P f Q fn.body w0 s0 Ds D a.tmps r0 s kc E (w3.putObj (D + 1) (.loop { r0 with state := .done, pending := some j })) := by
      rintro j rfl
      have h4 := ((hturn (o' := .loop { r0 with state := .done, pending := some (sub fn.body q) }) rfl rfl hr3).around g3.todo)
      rw [had] at h4
      obtain ⟨q1, q2⟩ := hkeep h4
      exact ⟨q1, g3, q, tsl3, ρ3, s3, β3, Hp.le_trans hle hle3, hfs3, h4.kept rfl rfl (Nat.zero_le _) (fun x hx => .inl (.inl hx)), q2, hrest⟩
     show Goes P _ _ (.code (sub fn.body q) :: k3.map (itemOf fn.body)) a3 w3
     rcases hq with hq | ⟨id, hq, hx⟩
     ·obtain ⟨q1, q2⟩ := hfin _ rfl
      rw [hq] at q1 q2 ⊢
      exact goes_roundRet (run_endRound (some .ret) hL3) ⟨q1, .inr ⟨rfl, q2⟩⟩
     ·obtain ⟨q1, q2⟩ := hfin _ rfl
      rw [hq] at q1 q2 ⊢
      exact goes_roundExit hx (run_endRound (some (.exit id)) hL3) ⟨q1, .inr ⟨rfl, q2⟩⟩
   have hT : ∀ g3 ρ3 s3, BeginT P c fn Q (RoundT P f Q fn.body w0 s0 Ds tr kc s1 (I (k + 1))) n p g3 ρ3 s3 -> ReachX P (f, some (D + 1)) (fun e w' => EKept E w2 w' /\ ((e = .returned (.bool true) /\ JR w0 s0 Ds D a.tmps r0 s tr I (k + 1) E w') \/ (e = .returned (.bool false) /\ ZR P f Q fn.body w0 s0 Ds D a.tmps r0 s kc E w')))
     fn.body w0 s0 (XE (.loop r0)) g3 ρ3 s3 := by
    rintro g3 ρ3 s3 ⟨htd3, hvc3⟩ β3 a3 w3 hr3
    unfold GoesG
    rw [htd3]
    refine goes_beginRound (run_beginRound (hr3.kp (D + 1, .loop r0) (.inl (.inr (.inr rfl)))).is r0st) ?_
    exact runX_sound hP (.inl hc) (.inr hnd) hT' n _ _ _ hvc3 β3 a3 _ ((hturn rfl rfl hr3).todo [.code (true :: p)])
   have := runX_sound hP (.inl hc) (.inr hnd) hT n _ _ _ hvc β1 _ w2 hR3
   simp only [GoesG, roundCfg, List.map_cons, List.map_nil, itemOf] at this
   have e1 : sub fn.body (false :: p) = assign := by simp [sub, hsub, child]
   have e2 : sub fn.body (true :: p) = bodyc := by simp [sub, hsub, child]
   rw [e1, e2] at this
   exact this
 refine (hit (D + 1) _ _ w1 hY hJ0).mono ?_
 rintro e w' ⟨v, rfl, E, hJ | hZ⟩
 ·obtain ⟨is, bs, vs, js, s1, β1, hle, h0, h, he⟩ := hJ
  refine ⟨v, rfl, none, w'.putObj (D + 1) (.loop { r0 with state := .exhausted }), ?_, ?_⟩
  ·have := run_endLoop (P := P) (h.kp (D + 1, .loop r0) (.inr (.inr rfl))).is (by rw [r0st]; simp)
   simp only [r0pe] at this ⊢
   exact this
  ·have h2 := Rel.back (r' := { r0 with state := .exhausted }) (g := tr) hlt hD0 (by have := h.around tr.todo; exact this) htr kc
   have h3 := after is bs vs js s1 h.ci h.cb h.cv h.cj hle h0 D hmD β1 _ _ h2
   have h4 := goes_of h3 hkc
   simp only [Option.map_none, Option.toList_none, List.nil_append]
   rw [hadf]
   exact h4
 ·obtain ⟨g', q, tsl', ρ', s1, β1, _, hfs', h, he, hrest⟩ := hZ
  refine ⟨v, rfl, some (sub fn.body q), w'.putObj (D + 1) (.loop { r0 with state := .exhausted, pending := some (sub fn.body q) }), ?_, ?_⟩
  ·exact run_endLoop (P := P) (h.kp (D + 1, .loop { r0 with state := .done, pending := some (sub fn.body q) }) (.inr (.inr rfl))).is (by simp)
  ·have h2 := Rel.back (r' := { r0 with state := .exhausted, pending := some (sub fn.body q) }) (g := g') hlt hD0 h hfs' (.code q :: kc)
   have h3 := hrest D hmD β1 _ _ h2
   have h4 := goes_of h3 (by intro p d ks k hh; simp [backCfg] at hh)
   rw [hadf]
   exact h4
end
end Go.Sy
namespace Go.Sy
open Go.RowKit
variable {P : Program}
def cutW (w : World) (B : Nat) : World := { w with heap := w.heap.extract 0 B }
theorem cutW_size {w : World} {B : Nat} (h : B <= w.heap.size) : (cutW w B).heap.size = B := by simp [cutW]; omega
theorem cutW_below {w : World} {B : Nat} (h : B <= w.heap.size) : Below B (cutW w B) w :=
 ⟨rfl, rfl, rfl, by simp [cutW]; omega, fun k hk => by simp [cutW, Array.getElem?_extract]; omega⟩
def ownE (ρ : Env) (β : Nat -> Nat) (H : List Blk) : Nat -> Prop := fun i => ∃ k b, H[k]? = some b /\ act ρ b /\ β k = i
def XB (w : World) (B : Nat) (E : Nat -> Prop) : Fx := { K := fun x => B <= x.1 /\ ¬ E x.1 /\ w.heap[x.1]? = some x.2, sz := w.heap.size }
def noShut (H : List Blk) : Bool := H.all fun b => match b with | .cells _ _ sh => !sh | _ => true
theorem noShut_get {H : List Blk} (h : noShut H = true) {k : Nat} {cs : List SV} {T : Nat} {sh : Bool} (hk : H[k]? = some (.cells cs T sh)) : sh = false := by
 have := List.all_eq_true.1 h _ (List.mem_of_getElem? hk)
 simpa using this
structure RelI (s : Hp) (B : Nat) (ρ : Env) (β : Nat -> Nat) (g : Cfg) (a : Act) (w : World) : Prop where
 sz : B <= w.heap.size
 lo : ∀ b o u, s b o = some u -> b < B
 rel : Rel (cutW w B) s (XB w B (ownE ρ β g.H)) ρ s β g a w
theorem relI_of {w0 : World} {s0 : Hp} {X : Fx} {ρ : Env} {s s1 : Hp} {β : Nat -> Nat} {g : Cfg} {a : Act} {w : World} {B : Nat} (h : Rel w0 s0 X ρ s1 β g a w) (hd : X.ds = []) (hz : X.zs = []) (hns : noShut g.H = true) (hsz : B <= w0.heap.size)
  (hsub : Sub s w) (hlo : ∀ b o u, s b o = some u -> b < B) : RelI s B ρ β g a w := by
 have hB : B <= w.heap.size := Nat.le_trans hsz h.bel.size
 have hnone : ∀ i, B <= i -> ∀ o, s i o = none := fun i hi o => by
  cases hs : s i o with
  | none => rfl
  | some u => have := hlo _ _ _ hs; omega
 refine ⟨hB, hlo, ⟨h.tm, h.df.trans hd, Nat.le_refl _, fun x hx => ?_, ?_, h.ci, h.cb, h.cv, h.cj, h.ok, ?_, hsub, fun b o u h1 h2 => by rw [h1] at h2; simp at h2, Hp.le_refl _, fun k b hk => ?_, h.sp⟩⟩
 ·obtain ⟨h1, h2, h3⟩ := hx
  exact ⟨h3, fun k b hk hb he => h2 ⟨k, b, hk, hb, he⟩, hnone _ h1⟩
 ·have := h.fs; rw [hz] at this; exact this
 ·rw [cutW_size hB]; exact cutW_below hB
 ·have hb := h.bl k b hk
  rw [cutW_size hB]
  cases b with
  | cells cs T sh =>
   simp only [BOk] at hb ⊢
   refine ⟨by omega, hb.2.1, fun _ => hnone _ (by omega), fun hf => ?_⟩
   rw [noShut_get hns hk] at hf; simp at hf
  | row n T size =>
   simp only [BOk] at hb ⊢
   refine ⟨hb.1, hb.2.imp id ?_⟩
   rintro ⟨m, cap, cur, c1, c2, c3, c4, c5, c6, c7⟩
   exact ⟨m, cap, cur, c1, by omega, c3, c4, c5, c6, fun o u hu => by rw [hnone _ (by omega)] at hu; simp at hu⟩
theorem relI_move {s : Hp} {B : Nat} {ρ : Env} {β : Nat -> Nat} {g : Cfg} {a : Act} {w w' : World} (h : RelI s B ρ β g a w) (hk : EKept (ownE ρ β g.H) w w') (hsub : Sub s w') : RelI s B ρ β g a w' := by
 have hB : B <= w'.heap.size := Nat.le_trans h.sz hk.1
 have hr := h.rel
 have hnone : ∀ i, B <= i -> ∀ o, s i o = none := fun i hi o => by
  cases hs : s i o with
  | none => rfl
  | some u => have := h.lo _ _ _ hs; omega
 refine ⟨hB, h.lo, ⟨hr.tm, hr.df, Nat.le_refl _, fun x hx => ?_, hr.fs, hr.ci, hr.cb, hr.cv, hr.cj, hr.ok, ?_, hsub, fun b o u h1 h2 => by rw [h1] at h2; simp at h2, Hp.le_refl _, fun k b hb => ?_, hr.sp⟩⟩
 ·obtain ⟨h1, h2, h3⟩ := hx
  exact ⟨h3, fun k b hk hb he => h2 ⟨k, b, hk, hb, he⟩, hnone _ h1⟩
 ·rw [cutW_size hB]; exact cutW_below hB
 ·have hbl := hr.bl k b hb
  rw [cutW_size h.sz] at hbl
  rw [cutW_size hB]
  cases b with
  | cells cs T sh =>
   simp only [BOk] at hbl ⊢
   exact ⟨hbl.1, by rw [hk.2 _ ⟨k, _, hb, trivial, rfl⟩]; exact hbl.2.1, hbl.2.2⟩
  | row n T size =>
   simp only [BOk] at hbl ⊢
   refine ⟨hbl.1, hbl.2.imp id ?_⟩
   rintro ⟨m, cap, cur, c1, c2, c3, c4, c5, c6, c7⟩
   exact ⟨m, cap, cur, c1, c2, by rw [hk.2 _ ⟨k, _, hb, by show ρ.v.getD n vd ≠ _; rw [c1]; simp, rfl⟩]; exact c3, c4, c5, c6, c7⟩
theorem relI_seg {s : Hp} {B : Nat} {ρ : Env} {β : Nat -> Nat} {g : Cfg} {a : Act} {w : World} (h0 : RelI s B ρ β g a w) {ρ' : Env} {s' : Hp} {β' : Nat -> Nat} {g' : Cfg} {a' : Act} {w' : World}
  (h : Rel (cutW w B) s (XB w B (ownE ρ β g.H)) ρ' s' β' g' a' w') : Grows (ownE ρ β g.H) w w' /\ ENew (ownE ρ β g.H) (ownE ρ' β' g'.H) w w' := by
 have hbel := h.bel
 rw [cutW_size h0.sz] at hbel
 have hkp : ∀ i o, B <= i -> ¬ ownE ρ β g.H i -> w.heap[i]? = some o -> Kept s' ρ' β' g'.H w' (i, o) := fun i o h1 h2 h3 => h.kp (i, o) ⟨h1, h2, h3⟩
 refine ⟨⟨hbel.os, hbel.tape, hbel.output, h.sz, fun k hk hE => ?_⟩, fun i hi => ?_⟩
 ·rcases Nat.lt_or_ge k B with h1 | h1
  ·rw [hbel.block k h1, (cutW_below h0.sz).block k h1]
  ·obtain ⟨o, ho⟩ : ∃ o, w.heap[k]? = some o := ⟨_, Array.getElem?_eq_getElem hk⟩
   rw [ho]; exact (hkp k o h1 hE ho).is
 ·obtain ⟨k, b, hk, hb, rfl⟩ := hi
  have hbl := h.bl k b hk
  rw [cutW_size h0.sz] at hbl
  have hex : B <= β' k /\ ∃ o, w'.heap[β' k]? = some o := by
   cases b with
   | cells cs T sh => exact ⟨hbl.1, _, hbl.2.1⟩
   | row n T size =>
    simp only [BOk] at hbl
    rcases hbl.2 with c | ⟨m, cap, cur, c1, c2, c3, _⟩
    ·exact absurd c hb
    ·exact ⟨c2, _, c3⟩
  refine ⟨?_, hex.2⟩
  rcases Nat.lt_or_ge (β' k) w.heap.size with h1 | h1
  ·by_cases hE : ownE ρ β g.H (β' k)
   ·exact .inl hE
   ·obtain ⟨o, ho⟩ : ∃ o, w.heap[β' k]? = some o := ⟨_, Array.getElem?_eq_getElem h1⟩
    exact absurd rfl ((hkp _ o hex.1 hE ho).own k b hk hb)
  ·exact .inr h1
section
variable (P : Program) (F : FuncId) (body : Code) (s : Hp) (B : Nat) (R : Ending -> World -> Prop)
def GoesI (J : (Nat -> Prop) -> World -> Prop) (g : Cfg) (ρ : Env) : Prop := ∀ β a w, RelI s B ρ β g a w -> J (ownE ρ β g.H) w -> GoesG P (F, none) R body ρ β s g a w
end
def StabJ (J : (Nat -> Prop) -> World -> Prop) : Prop := ∀ E E' w w', J E w -> Grows E w w' -> ENew E E' w w' -> J E' w'
theorem Grows.refl (E : Nat -> Prop) (w : World) : Grows E w w := ⟨rfl, rfl, rfl, Nat.le_refl _, fun _ _ _ => rfl⟩
section
variable {c : Ctx} {F : FuncId} {fn : FnC} {s : Hp} {B : Nat} {R : Ending -> World -> Prop} {J : (Nat -> Prop) -> World -> Prop} {Q : Value -> Hp -> Prop}
def okStop (g : Cfg) : Bool := noShut g.H && match g.todo with | .dreg _ _ _ :: _ => false | _ => true
theorem okStop_head {g : Cfg} (h : okStop g = true) : ∀ p d ks k, g.todo ≠ .dreg p d ks :: k := by
 intro p d ks k he
 simp [okStop, he] at h
theorem okStop_shut {g : Cfg} (h : okStop g = true) : noShut g.H = true := by
 simp only [okStop, Bool.and_eq_true] at h; exact h.1
theorem goesI_run (hP : ProgOk P c) (hc : c.leaf = true) (hJ : StabJ J) (n : Nat) {g : Cfg} {ρ : Env}
  (h : VC P Q (fun g' ρ' _ => okStop g' = true /\ GoesI P F fn.body s B R J g' ρ') (run c fn n g) ρ s) : GoesI P F fn.body s B R J g ρ := by
 intro β a w hI hj
 refine runX_sound hP (.inl hc) (.inl rfl) (fun g' ρ' s' ht => ?_) n g ρ s h β a w hI.rel
 intro β' a' w' h'
 obtain ⟨e1, e2⟩ := relI_seg hI h'
 refine goesG_congr (t := g') (ρ := ρ') (β := β') (s := s) rfl (okStop_head ht.1) ?_
 exact ht.2 β' a' w' (relI_of h' rfl rfl (okStop_shut ht.1) (by rw [cutW_size hI.sz]; exact Nat.le_refl _) (fun b o u hu => h'.sb b o u (h'.le b o u hu)) hI.lo) (hJ _ _ _ _ hj e1 e2)
theorem goesI_fit (hJ : StabJ J) {t : Cfg} {A : Asg} {g : Cfg} {ρ : Env} (hfit : Sy.fits ⟨0, 0, 0, 0⟩ A t g = true) (hns : noShut t.H = true) (hhead : ∀ p d ks k, t.todo ≠ .dreg p d ks :: k)
  (h : ∀ js, js.length = A.js.length -> GoesI P F fn.body s B R J t ⟨A.is.map (IE.den ρ), A.bs.map (BE.den ρ), SV.dens ρ id A.vs, js⟩) : GoesI P F fn.body s B R J g ρ := by
 intro β a w hI hj
 obtain ⟨hr', htd⟩ := hI.rel.fits hfit
 obtain ⟨_, e2⟩ := relI_seg hI hr'
 have hI' := relI_of hr' rfl rfl hns (B := B) (by rw [cutW_size hI.sz]; exact Nat.le_refl _) hI.rel.sb hI.lo
 rw [asg_zero hfit] at hI' e2
 exact goesG_congr htd hhead (h _ (by simp [dens_length]) β a w hI' (hJ _ _ _ _ hj (Grows.refl _ _) e2))
theorem Goes.mono {f : Fr} {R R' : Ending -> World -> Prop} {todo : List Item} {a : Act} {w : World} (h : Goes P f R todo a w) (hr : ∀ e w', R e w' -> R' e w') : Goes P f R' todo a w := fun cs hcs => by
 obtain ⟨e, w', m, r, x⟩ := h cs hcs
 exact ⟨e, w', m, hr _ _ r, x⟩
theorem goesI_yield {L : Nat} {ys : List (List Value)} {JJ : Nat -> (Nat -> Prop) -> World -> Prop} {Z : (Nat -> Prop) -> World -> Prop} (hY : Yielder P L ys s JJ Z) {g : Cfg} {ρ : Env} {p : List Bool} {i : Nat} {is : List Nat} {k : List PI}
  (htd : g.todo = .reg p (i :: is) :: k) {o : Oper} (ho : (opsAt (sub fn.body p))[i]? = some o) (hg : guardOf (opsAt (sub fn.body p)) g.sl o = .known true) {fop : Operand} {args : Array Operand} {ts : Array Nat} (hop : o.op = .call { callee := .value fop, args, argTypes := ts })
  {m : Nat} (hf : ev g.sl fop = some (.va m)) (hm : ρ.v.getD m vd = yv L) {avs : List SV} (ha : evs g.sl args.toList = some avs) {kk : Nat} {vals : List Value} (hv : ∀ β, SV.dens ρ β avs = vals) (hys : ys[kk]? = some vals)
  (ht : GoesI P F fn.body s B R (JJ (kk + 1)) { g with todo := .reg p is :: k, sl := putSV g.sl o.dst (.bool (.t true)) } ρ)
  (hz : GoesI P F fn.body s B R Z { g with todo := .reg p is :: k, sl := putSV g.sl o.dst (.bool (.t false)) } ρ) : GoesI P F fn.body s B R (JJ kk) g ρ := by
 intro β a w hI hj
 obtain ⟨r, hL, hsz, hgo⟩ := hY.call kk _ w vals hys hj
 have hsub' : ∀ w', JJ (kk + 1) (ownE ρ β g.H) w' -> Sub s w' := fun w' hw => hY.sub _ _ _ hw
 unfold GoesG
 rw [htd]
 show Goes P (F, none) R (.inRegion (opsAt (sub fn.body p)) (i :: is) :: k.map (itemOf fn.body)) a w
 have hargs : args.map a.eval = vals.toArray := by
  have := evs_den hI.rel.tm _ _ ha
  rw [hv β] at this
  rw [<- this]
  apply Array.ext'
  simp
 have hfv : a.eval fop = yv L := by rw [ev_den hf hI.rel.tm]; exact hm
 refine goes_yield (fn := r.fn) (tmps := (r.params.zip vals.toArray).foldl (fun tmps (t, a) => tmps.setIfInBounds t a) r.tmps) (assign := r.assign) (body := r.body) ho (.inl rfl) (guard_known hg hI.rel.tm) ?_ (hgo.mono ?_)
 ·simp only [execOp, hop, resolve, hargs, hfv, yv, Deferred.ofValue, Sem.run_bind, Sem.run_pure, Result.andThen_ok, invoke, Array.empty_append]
  exact run_yield hL (by simpa using hsz)
 ·rintro e w' ⟨hk, ⟨rfl, hj'⟩ | ⟨rfl, hz'⟩⟩
  ·refine ⟨_, rfl, ?_⟩
   have h1 := relI_move hI hk (hsub' w' hj')
   have h2 : RelI s B ρ β { g with todo := .reg p is :: k, sl := putSV g.sl o.dst (.bool (.t true)) } (a.put o.dst (.bool true)) w' := ⟨h1.sz, h1.lo, (h1.rel.put o.dst (.bool (.t true))).todo _⟩
   exact ht β _ w' h2 hj'
  ·refine ⟨_, rfl, ?_⟩
   have h1 := relI_move hI hk (hY.zsub _ _ hz')
   have h2 : RelI s B ρ β { g with todo := .reg p is :: k, sl := putSV g.sl o.dst (.bool (.t false)) } (a.put o.dst (.bool false)) w' := ⟨h1.sz, h1.lo, (h1.rel.put o.dst (.bool (.t false))).todo _⟩
   exact hz β _ w' h2 hz'
theorem goesI_ret {fnc : Func} (hf : P.funcs[F]? = some fnc) (hres : fnc.results = #[]) {g : Cfg} {ρ : Env} (htd : g.todo = [] \/ ∃ q k, g.todo = .code q :: k /\ sub fn.body q = .ret)
  (hR : ∀ E w, J E w -> R (.returned (.tuple #[])) w) : GoesI P F fn.body s B R J g ρ := by
 intro β a w hI hj
 have hr : (results fnc a.tmps).run P w = .ok (.tuple #[]) w := by
  rw [results_eq, hres]; simp
 unfold GoesG
 rcases htd with htd | ⟨q, k, htd, hq⟩
 ·rw [htd]
  exact goes_ret (.inl rfl) hf hI.rel.df hr (hR _ _ hj)
 ·rw [htd]
  exact goes_ret (.inr ⟨k.map (itemOf fn.body), by simp [itemOf, hq]⟩) hf hI.rel.df hr (hR _ _ hj)
theorem iter_ct {fnc : Func} (hf : P.funcs[F]? = some fnc) (hb : fnc.body = some fn.body) {ys : List (List Value)} {caps : List Value} (hlo : s.le s) {args : List SV} {is : List Int} {bs : List Bool} {vs : List Value}
  (hargs : ∀ L, SV.dens ⟨is, bs, yv L :: vs, []⟩ id args = yv L :: caps) (hok : vs.all fineV = true)
  (h : ∀ L JJ Z B, Yielder P L ys s JJ Z -> GoesI P F fn.body s B (fun e w' => ∃ v, e = .returned v /\ ∃ E, JJ ys.length E w' \/ Z E w') (JJ 0) (startCfg fnc.ntmps args is.length bs.length (vs.length + 1)) ⟨is, bs, yv L :: vs, []⟩) : IterCt P F caps s ys := by
 intro L JJ Z w hY hj
 have hsub := hY.sub _ _ _ hj
 refine calls_of_goes hf hb ?_
 have hr : Rel w s {} ⟨is, bs, yv L :: vs, []⟩ s id (startCfg fnc.ntmps args is.length bs.length (vs.length + 1)) { tmps := (SV.dens ⟨is, bs, yv L :: vs, []⟩ id args).toArray ++ Array.replicate (fnc.ntmps - (SV.dens ⟨is, bs, yv L :: vs, []⟩ id args).toArray.size) undef, defers := [] } w := by
  refine ⟨?_, rfl, Nat.zero_le _, fun x hx => hx.elim, rfl, rfl, rfl, by simp [startCfg], rfl, ?_, Below.refl _ _, hsub, fun b o u h1 h2 => by rw [h1] at h2; simp at h2, Hp.le_refl _, fun k b hk => by simp [startCfg] at hk, fun j k bj bk _ hj => by simp [startCfg] at hj⟩
  ·simp only [startCfg, dens_append, dens_replicate, List.size_toArray, dens_length]
   apply Array.ext'
   simp
  ·intro x hx
   simp only [List.mem_cons] at hx
   rcases hx with rfl | hx
   ·rfl
   ·exact List.all_eq_true.1 hok x hx
 have hI : RelI s w.heap.size _ _ _ _ w := relI_of hr rfl rfl rfl (Nat.le_refl _) hsub (fun b o u hu => hsub.lt hu)
 rw [hargs L] at hI
 have hE : ownE ⟨is, bs, yv L :: vs, []⟩ id (startCfg fnc.ntmps args is.length bs.length (vs.length + 1)).H = noE := by
  funext i
  apply propext
  constructor
  ·rintro ⟨k, b, hk, _⟩; simp [startCfg] at hk
  ·exact fun h => h.elim
 have := h L JJ Z w.heap.size hY id _ w hI (by rw [hE]; exact hj)
 have e : (#[yv L] ++ caps.toArray : Array Value) = (yv L :: caps).toArray := by simp
 rw [e]
 exact this
end
end Go.Sy
namespace Go.Sy
open Go.RowKit
def noDefer : Code -> Bool
 | .region _ ops _ => ops.toList.all fun o => !isDefer o
 | .seq a b => noDefer a && noDefer b
 | .cond _ a b => noDefer a && noDefer b
 | .block _ c => noDefer c
 | .loop c => noDefer c
 | .scope c => noDefer c
 | .rangeFunc _ _ a b => noDefer a && noDefer b
 | _ => true
theorem noDefer_child {c : Code} (h : noDefer c = true) (d : Bool) : noDefer (child d c) = true := by
 cases c <;> cases d <;> simp_all [child, noDefer]
theorem noDefer_sub {body : Code} (h : noDefer body = true) (p : List Bool) : noDefer (sub body p) = true := by
 induction p with
 | nil => exact h
 | cons d p ih => exact noDefer_child ih d
theorem noDefer_all {body : Code} (h : noDefer body = true) : ∀ p (i : Nat) (o : Oper), (opsAt (sub body p))[i]? = some o -> isDefer o = false := fun p i o ho => by
 have := noDefer_sub h p
 unfold opsAt at ho
 split at ho
 ·rename_i id ops d hs
  rw [hs] at this
  simp only [noDefer, List.all_eq_true] at this
  have := this o (Array.mem_toList_iff.2 (Array.mem_of_getElem? ho))
  simpa using this
 ·simp at ho
section
variable {P : Program} {c : Ctx} {fnc : Func} {fn : FnC} {Q : Value -> Hp -> Prop} {f : FuncId} {w0 : World} {s0 : Hp} {Ds : List Nat}
theorem reachM_vc (hP : ProgOk P c) (hf : P.funcs[f]? = some fnc) (hres : fn.res = fnc.results.toList) (hm : MarksOk w0 Ds) (n : Nat) {g : Cfg} {ρ : Env} {s : Hp}
  (h : VC P Q (ReachM P f Q fn.body w0 s0 Ds) (run c fn n g) ρ s) : ReachM P f Q fn.body w0 s0 Ds g ρ s :=
 runX_sound hP (EndOk.marks Ds hm hf hres) (.inl rfl) (fun _ _ _ h => h) n _ _ _ h
end
def yStep (body : Code) (g : Cfg) (b : Bool) : Option (Nat × List SV × Cfg) :=
 match g.todo with
 | .reg p (i :: is) :: k =>
  match (opsAt (sub body p))[i]? with
  | some o =>
   match guardOf (opsAt (sub body p)) g.sl o with
   | .known true =>
    match o.op with
    | .call { callee := .value fop, args, argTypes := _ } =>
     match ev g.sl fop, evs g.sl args.toList with
     | some (.va m), some avs => some (m, avs, { g with todo := .reg p is :: k, sl := putSV g.sl o.dst (.bool (.t b)) })
     | _, _ => none
    | _ => none
   | _ => none
  | none => none
 | _ => none
section
variable {P : Program} {F : FuncId} {fn : FnC} {s : Hp} {B : Nat} {R : Ending -> World -> Prop}
theorem goesI_y {L : Nat} {ys : List (List Value)} {JJ : Nat -> (Nat -> Prop) -> World -> Prop} {Z : (Nat -> Prop) -> World -> Prop} (hY : Yielder P L ys s JJ Z) {g gt gf : Cfg} {ρ : Env} {m : Nat} {avs : List SV}
  (h1 : yStep fn.body g true = some (m, avs, gt)) (h2 : yStep fn.body g false = some (m, avs, gf)) (hm : ρ.v.getD m vd = yv L) {kk : Nat} {vals : List Value} (hv : ∀ β, SV.dens ρ β avs = vals) (hys : ys[kk]? = some vals)
  (ht : GoesI P F fn.body s B R (JJ (kk + 1)) gt ρ) (hz : GoesI P F fn.body s B R Z gf ρ) : GoesI P F fn.body s B R (JJ kk) g ρ := by
 unfold yStep at h1 h2
 split at h1
 case h_2 => simp at h1
 rename_i p i is k htd
 split at h1
 case h_2 => simp at h1
 rename_i o ho
 split at h1
 case h_2 => simp at h1
 rename_i hg
 split at h1
 case h_2 => simp at h1
 rename_i fop args ts hop
 split at h1
 case h_2 => simp at h1
 rename_i m' avs' hf ha
 simp only [Option.some.injEq, Prod.mk.injEq] at h1
 obtain ⟨rfl, rfl, rfl⟩ := h1
 simp only [htd, ho, hg, hop, hf, ha, Option.some.injEq, Prod.mk.injEq, true_and] at h2
 subst h2
 exact goesI_yield hY htd ho hg hop hf hm ha hv hys ht hz
end
def SeqIs (P : Program) (s : Hp) (v : Value) (ys : List (List Value)) : Prop :=
 ∃ (F : Nat) (caps : List Value), v = .func (.func F) #[] caps.toArray /\ (∀ args w, (callFunc F args).run P w = .ok (.enter F args) w) /\ IterCt P F caps s ys
theorem SeqIs.fine {P : Program} {s : Hp} {v : Value} {ys : List (List Value)} (h : SeqIs P s v ys) : fineV v = true := by
 obtain ⟨F, caps, rfl, _⟩ := h; rfl
theorem SeqIs.mono {P : Program} {s t : Hp} {v : Value} {ys : List (List Value)} (h : SeqIs P s v ys) (hst : s.le t) : SeqIs P t v ys := by
 obtain ⟨F, caps, h1, h2, h3⟩ := h; exact ⟨F, caps, h1, h2, h3.mono hst⟩
theorem SeqIs.kind {P : Program} {s : Hp} {v : Value} {ys : List (List Value)} (h : SeqIs P s v ys) : isKindV 2 v = true := by
 obtain ⟨F, caps, rfl, _⟩ := h; rfl
section
variable {P : Program} {Q : Value -> Hp -> Prop} {T : Cfg -> Env -> Hp -> Prop} {ρ : Env} {s : Hp}
theorem vc_callV {f : Nat} {args : List SV} {H : List Blk} {n : Nat} {k : Out} (as : List Value) (Qc : Value -> Hp -> Prop) (hct : ∀ s1, s.le s1 -> Ct P f as s1 Qc) (hfine : ∀ v s', Qc v s' -> fineV v = true)
  (ha : ∀ β, SV.dens ρ β args = as) (hn : ρ.v.length = n)
  (hk : ∀ v s', s.le s' -> Qc v s' -> VC P Q T k ⟨ρ.i ++ [], ρ.b ++ [], ρ.v ++ [v], ρ.j⟩ s') : VC P Q T (.call f args H (.va n) 0 0 1 k) ρ s := by
 intro β s1 hs _
 refine ⟨_, by rw [ha β]; exact hct s1 hs, ?_⟩
 intro v s' hs' hv
 refine ⟨[], [], [v], rfl, rfl, rfl, by simp [hfine v s' hv], ?_, hk v s' (fun b o u h => hs' b o u (hs b o u h)) hv⟩
 subst hn
 simp [SV.den, Env.push]
end
def rf1 : Code -> Operand | .rangeFunc g _ _ _ => g | _ => .tmp 0
def rf2 : Code -> Array Tmp | .rangeFunc _ ps _ _ => ps | _ => #[]
def rf3 : Code -> Code | .rangeFunc _ _ a _ => a | c => c
def rf4 : Code -> Code | .rangeFunc _ _ _ b => b | c => c
end Go.Sy
