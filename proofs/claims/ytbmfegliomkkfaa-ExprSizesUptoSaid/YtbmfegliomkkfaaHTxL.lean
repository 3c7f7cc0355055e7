/- SX: the executor's tree is enough for a whole function's body. -/
import Derived.Test.YtbmfegliomkkfaaHTxK
import Derived.RangeFuncRecord
import Derived.RangeFuncIn
import Derived.RangeFuncLeaves
set_option linter.unusedSimpArgs false
set_option linter.unusedVariables false
namespace Go.Sx
open Go.RowKit
def itemOf (body : Code) : PI → Item
  | .code p => .code (sub body p)
  | .inBlock id => .inBlock id
  | .inLoop p => .inLoop (sub body p)
  | .inScope p => .inScope (sub body p)
  | .reg p is => .inRegion (opsAt (sub body p)) is
  | .dreg _ _ _ => .inRegion #[] []
  | .begin => .beginRound
section
variable {P : Program}
/-- The marks are taken up, one after another. -/
def shutMarks : List Nat → World → World
  | [], w => w
  | D :: Ds, w => shutMarks Ds (w.putObj D (.deferred none))
theorem steps_marks {fr0 : Frame} {cs : List Frame} (hm : fr0.mode = .returning) : ∀ (Ds : List Nat) (w : World), Ds.Nodup → (∀ D ∈ Ds, w.heap[D]? = some (.deferred (some []))) →
    Steps P (lone { fr0 with defers := Ds.map markOf } cs w) (lone { fr0 with defers := [] } cs (shutMarks Ds w))
  | [], w, _, _ => .refl _ _
  | D :: Ds, w, hn, h => by
    have hk := run_takeDeferred (P := P) (h D (by simp))
    have h1 := step_collected (P := P) (fr := { fr0 with defers := (D :: Ds).map markOf }) (cs := cs) (w := w) (by show fr0.mode ≠ .run; rw [hm]; simp) (d := markOf D) (ds := Ds.map markOf) rfl rfl hk
    refine .head h1 ?_
    rw [List.nodup_cons] at hn
    exact steps_marks hm Ds _ hn.2 (fun E hE => (World.putObj_heap_other (by intro he; subst he; exact hn.1 hE)).trans (h E (by simp [hE])))
/-- A function's end, with marks. -/
theorem goes_retMarks {f : FuncId} {fn : Func} {R : Ending → World → Prop} {todo : List Item} {a : Act} {w : World} {v : Value} {Ds : List Nat}
    (ht : todo = [] ∨ ∃ k, todo = .code .ret :: k) (hf : P.funcs[f]? = some fn) (hd : a.defers = Ds.map markOf) (hn : Ds.Nodup) (hm : ∀ D ∈ Ds, w.heap[D]? = some (.deferred (some [])))
    (hr : (results fn a.tmps).run P (shutMarks Ds w) = .ok v (shutMarks Ds w)) (hR : R (.returned v) (shutMarks Ds w)) : Goes P (f, none) R todo a w := by
  intro cs _
  rcases ht with rfl | ⟨k, rfl⟩
  · refine ⟨.returned v, _, lone { (atF (f, none)).atR a [] with mode := .returning, defers := [] } cs (shutMarks Ds w), hR, .head (stepR_end rfl) ?_, _, rfl, rfl, rfl, rfl, rfl, fn, hf, hr⟩
    have := steps_marks (P := P) (fr0 := { (atF (f, none)).atR a [] with mode := .returning }) (cs := cs) rfl Ds w hn hm
    rw [← hd] at this
    exact this
  · refine ⟨.returned v, _, lone { (atF (f, none)).atR a (.code .ret :: k) with mode := .returning, defers := [] } cs (shutMarks Ds w), hR, .head (stepR_ret rfl) ?_, _, rfl, rfl, rfl, rfl, rfl, fn, hf, hr⟩
    have := steps_marks (P := P) (fr0 := { (atF (f, none)).atR a (.code .ret :: k) with mode := .returning }) (cs := cs) rfl Ds w hn hm
    rw [← hd] at this
    exact this
theorem cell_putNC {w : World} {D : Nat} {o o' : Obj} (hd : w.heap[D]? = some o) (ho : objNC o = true) {b off : Nat} {u : Value} (h : w.cell? ⟨b, off, none⟩ = some u) : (w.putObj D o').cell? ⟨b, off, none⟩ = some u := by
  have hne : b ≠ D := by
    rintro rfl
    simp only [World.cell?, hd] at h
    cases o <;> simp_all [objNC]
  rw [← h]
  exact World.cell?_of_block (World.putObj_heap_other hne)
theorem sub_putNC {s : Hp} {w : World} {D : Nat} {o o' : Obj} (h : Sub s w) (hd : w.heap[D]? = some o) (ho : objNC o = true) : Sub s (w.putObj D o') := fun b off u hb => cell_putNC hd ho (h b off u hb)
theorem grows_put {E : Nat → Prop} {w w' : World} {D : Nat} {o : Obj} (h : Grows E w w') (hD : w.heap.size ≤ D) : Grows E w (w'.putObj D o) :=
  h.below ⟨rfl, rfl, rfl, by simp, fun k hk => World.putObj_heap_other (by omega)⟩
structure MarksOk (w0 : World) (Ds : List Nat) : Prop where
  nd : Ds.Nodup
  ge : ∀ D ∈ Ds, w0.heap.size ≤ D
theorem MarksOk.nil (w0 : World) : MarksOk w0 [] := ⟨by simp, by simp⟩
theorem shutMarks_facts {s : Hp} {E : Nat → Prop} {w0 : World} : ∀ (Ds : List Nat) (w : World), Ds.Nodup → (∀ D ∈ Ds, w0.heap.size ≤ D) → (∀ D ∈ Ds, w.heap[D]? = some (.deferred (some []))) → Grows E w0 w → Sub s w →
    Grows E w0 (shutMarks Ds w) ∧ Sub s (shutMarks Ds w) ∧ ∀ i, i ∉ Ds → (shutMarks Ds w).heap[i]? = w.heap[i]?
  | [], w, _, _, _, h1, h2 => ⟨h1, h2, fun _ _ => rfl⟩
  | D :: Ds, w, hn, hB, hd, h1, h2 => by
    rw [List.nodup_cons] at hn
    have hD := hd D (by simp)
    obtain ⟨a, b, c⟩ := shutMarks_facts (s := s) (E := E) (w0 := w0) Ds (w.putObj D (.deferred none)) hn.2 (fun E hE => hB E (by simp [hE]))
      (fun E hE => (World.putObj_heap_other (by intro he; subst he; exact hn.1 hE)).trans (hd E (by simp [hE]))) (grows_put h1 (hB D (by simp))) (sub_putNC h2 hD rfl)
    refine ⟨a, b, fun i hi => ?_⟩
    simp only [List.mem_cons, not_or] at hi
    exact (c i hi.2).trans (World.putObj_heap_other hi.1)
end
section
variable (P : Program) (f : Fr) (R : Ending → World → Prop) (body : Code)
abbrev QG (k : List PI) : Exit → Act → World → Prop := fun e a w => e = .normal ∧ Goes P f R (k.map (itemOf body)) a w
/-- From a place in the body to the function's end. -/
def GoesG (ρ : Env) (β : Nat → Nat) (s : Hp) (g : Cfg) (a : Act) (w : World) : Prop :=
  match g.todo with
  | .dreg p done ks :: k =>
      wpAnyH P .any (opsAt (sub body p)) (QG P f R body k) (fun w' => HOk ρ β (maskH ks g.H) w' ∧ Sub s w') ((opsAt (sub body p)).size - done.length) (listedOf (opsAt (sub body p)).size done) a w
  | todo => Goes P f R (todo.map (itemOf body)) a w
def ReachX (w0 : World) (s0 : Hp) (X : Fx) (g : Cfg) (ρ : Env) (s : Hp) : Prop := ∀ β a w, Rel w0 s0 X ρ s β g a w → GoesG P f R body ρ β s g a w
end
/-- Of a plain function. -/
abbrev Reach (P : Program) (f : FuncId) (R : Ending → World → Prop) (body : Code) (w0 : World) (s0 : Hp) (m0 : MS) (g : Cfg) (ρ : Env) (s : Hp) : Prop := ReachX P (f, none) R body w0 s0 (Xm (blks m0) []) g ρ s
section
variable {P : Program} {c : Ctx} {f : Fr} {fnc : Func} {fn : FnC} {w0 : World} {s0 : Hp} {X : Fx} {Q : Value → Hp → MS → Prop} {T : Cfg → Env → Hp → Prop}
theorem exit_spec (body : Code) (id : Nat) : ∀ (k k' : List PI), exitPI id k = some k' → exitTo id (k.map (itemOf body)) = some (k'.map (itemOf body))
  | [], k', h => by simp [exitPI] at h
  | x :: k, k', h => by
    cases x <;> simp only [exitPI] at h <;> simp only [List.map_cons, itemOf, exitTo]
    case inBlock id' =>
      split at h
      · rename_i he; rw [if_pos he]; simp only [Option.some.injEq] at h; rw [h]
      · rename_i he; rw [if_neg he]; exact exit_spec body id k k' h
    all_goals first | (exact exit_spec body id k k' h) | (simp at h)
theorem goes_draw {R : Ending → World → Prop} {id : Nat} {ops : Array Oper} {S : World → Prop} {k : List Item} {a : Act} {w : World} (hm : P.follows .mixedOrders = true)
    (hnd : f.2 = none ∨ ∀ (i : Nat) (o : Oper), ops[i]? = some o → isDefer o = false)
    (h : wpAnyH P .any ops (fun e a w => e = .normal ∧ Goes P f R k a w) S ops.size (Array.replicate ops.size false) a { w with drawn := w.drawn + 1 }) : Goes P f R (.code (.region id ops true) :: k) a w := by
  intro cs hcs
  have h2 := wpAny_of_held _ _ _ _ h
  have h3 : ∀ t, wpOps P ops (fun e a w => e = .normal ∧ Goes P f R k a w) (Region.schedule (P.follows .mixedOrders) ops t) a { w with drawn := w.drawn + 1 } := fun t => by
    simp only [Region.schedule, hm, Bool.true_or, if_true]
    exact wpAny_sound ops.size t _ a _ h2
  obtain ⟨e, w1, m, r, c, hl⟩ := Goes.ops hnd (h3 (w.tape w.drawn (.order (atF f).fn id))) cs hcs
  exact ⟨e, w1, m, r, .of_steps (.one stepR_region_draw) c, hl⟩
theorem Rel.drew {ρ s β} {g : Cfg} {a : Act} {w : World} (h : Rel w0 s0 X ρ s β g a w) : Rel w0 s0 X ρ s β g a { w with drawn := w.drawn + 1 } :=
  h.grow (w' := { w with drawn := w.drawn + 1 }) ⟨rfl, rfl, rfl, Nat.le_refl _, fun _ _ => rfl⟩ (Hp.le_refl _) (fun b o u hu => h.sb b o u hu) (fun b o u h1 h2 => by rw [h1] at h2; simp at h2)
theorem Rel.setsl {ρ s β} {g : Cfg} {a : Act} {w : World} (h : Rel w0 s0 X ρ s β g a w) {d : Nat} {v v' : SV} (hd : g.sl[d]? = some v) (hv : v'.den ρ β = v.den ρ β) :
    Rel w0 s0 X ρ s β { g with sl := g.sl.set d v' } a w := by
  refine ⟨?_, h.df, h.sz, h.kp, h.ms, h.fs, h.ci, h.cb, h.cv, h.cj, h.ok, h.bel, h.sb, h.nw, h.le, h.bl, h.sp⟩
  rw [h.tm]
  apply congrArg
  simp only [SV.dens_map]
  rw [List.map_set, hv]
  symm
  apply List.ext_getElem?
  intro j
  rw [List.getElem?_set]
  split
  · rename_i hj; subst hj
    obtain ⟨h1, h2⟩ := List.getElem?_eq_some_iff.1 hd
    simp [h1, h2]
  · rfl
def resOne (tmps : Array Value) : ResultVar → Sem Value
  | .tmp t => pure (tmps.getD t undef)
  | .cell a t => do loadVar t (← asAddr (tmps.getD a undef))
theorem results_eq (fn : Func) (tmps : Array Value) : results fn tmps = (fn.results.mapM (resOne tmps) >>= fun vs => pure (if h : vs.size = 1 then vs[0] else .tuple vs)) := by
  unfold results
  congr 1
theorem results_den (hP : ProgOk P c) {ρ : Env} {β : Nat → Nat} {sl : List SV} {H : List Blk} {a : Act} (ha : a.tmps = (SV.dens ρ β sl).toArray) {w : World} (hH : HOk ρ β H w) :
    ∀ (l : List ResultVar) (vs : List SV), resultSV sl H c.tab l = some vs → (l.mapM (resOne a.tmps)).run P w = .ok (SV.dens ρ β vs) w
  | [], vs, h => by simp only [resultSV, Option.some.injEq] at h; subst h; simp [SV.dens]
  | .tmp t :: l, vs, h => by
    simp only [resultSV] at h
    split at h
    · rename_i v vs' h1 h2
      simp only [Option.some.injEq] at h; subst h
      have ih := results_den hP ha hH l vs' h2
      have ht : a.tmps.getD t undef = v.den ρ β := ev_den (x := .tmp t) (by simpa [ev] using h1) ha
      have h0 : (resOne a.tmps (.tmp t)).run P w = .ok (v.den ρ β) w := by simp only [resOne, ht, Sem.run_pure]
      simp only [List.mapM_cons, Sem.run_bind, Sem.run_pure, h0, Result.andThen_ok, ih, SV.dens]
    · simp at h
  | .cell x t :: l, vs, h => by
    simp only [resultSV] at h
    split at h
    · rename_i k off i vs' h1 h2 h3
      have ih := results_den hP ha hH l vs' h3
      have hx : a.tmps.getD x undef = (SV.ptr k off).den ρ β := ev_den (x := .tmp x) (by simpa [ev] using h1) ha
      split at h
      case h_2 => simp at h
      rename_i cs T hk
      have key : ∀ v, partSV i cs off = some v → vs = v :: vs' → (List.mapM (resOne a.tmps) (ResultVar.cell x t :: l)).run P w = .ok (SV.dens ρ β vs) w := by
        intro v hv he
        subst he
        have hl := run_own (hP.tab _ _ h2) (ρ := ρ) (β := β) hv w (hH _ _ _ hk)
        have h0 : (resOne a.tmps (.cell x t)).run P w = .ok (v.den ρ β) w := by simp only [resOne, hx, SV.den, asAddr, Sem.run_bind, Sem.run_pure, Result.andThen_ok, hl]
        simp only [List.mapM_cons, Sem.run_bind, Sem.run_pure, h0, Result.andThen_ok, ih, SV.dens]
      split at h
      · rename_i hagg
        split at h
        · rename_i hle
          simp only [Option.some.injEq] at h
          exact key _ (by simp [partSV, hagg, hle]) h.symm
        · simp at h
      · rename_i hagg
        split at h
        · rename_i v hv
          simp only [Option.some.injEq] at h
          exact key v (by simp only [partSV, hagg]; simpa using hv) h.symm
        · simp at h
    · simp at h
theorem take_get_of {α : Type} {l : List α} {n i : Nat} {x : α} (h : (l.take n)[i]? = some x) : l[i]? = some x := by
  rw [List.getElem?_take] at h
  split at h
  · exact h
  · cases h
theorem ret_sound {f : FuncId} (hP : ProgOk P c) {Ds : List Nat} {m0 : MS} (hE : X.E = blks m0) (hds : X.ds = Ds.map markOf) (hm : MarksOk w0 Ds) (hK : ∀ D ∈ Ds, X.K (D, .deferred (some []))) (hf : P.funcs[f]? = some fnc) (hres : fn.res = fnc.results.toList) {g : Cfg} {ρ : Env} {s : Hp} {β : Nat → Nat} {a : Act} {w : World} (h : Rel w0 s0 X ρ s β g a w)
    (hvc : VC P Q T (retOut c fn g) ρ s) {todo : List Item} (ht : todo = [] ∨ ∃ k, todo = .code .ret :: k) : Goes P (f, none) (Ret Q s0 m0 w0) todo a w := by
  unfold retOut at hvc
  split at hvc
  case h_2 => exact hvc.elim
  rename_i vs hvs
  have hdf : ∀ D ∈ Ds, w.heap[D]? = some (.deferred (some [])) := fun D hD => (h.kp _ (.inl (hK D hD))).is
  have facts := fun s1 (hs1 : Sub s1 w) => shutMarks_facts (s := s1) Ds w hm.nd hm.ge hdf h.bel hs1
  have hok : HOk ρ β g.H (shutMarks Ds w) := fun k cs T hk => by
    rw [(facts s h.sb).2.2 _ (fun hD => by have := hdf _ hD; rw [h.hok k cs T hk] at this; simp at this)]
    exact h.hok k cs T hk
  have hr := results_den (P := P) hP h.tm hok _ _ hvs
  have hrun : (results fnc a.tmps).run P (shutMarks Ds w) = .ok ((tupOf vs).den ρ β) (shutMarks Ds w) := by
    rw [results_eq, Sem.run_bind, Array.mapM_eq_mapM_toList, ← hres]
    simp only [Sem.run_map, hr, Result.andThen_ok, Sem.run_pure]
    match vs with
    | [] => simp [tupOf, SV.den, SV.dens]
    | [v] => simp [tupOf, SV.dens]
    | v1 :: v2 :: vs => simp [tupOf, SV.den, SV.dens]
  refine goes_retMarks ht hf (h.df.trans hds) hm.nd hdf hrun ?_
  have hmD : ∀ i, i ∈ blks ρ.m → i ∉ Ds := fun i hi hD => h.ms.dk _ (hK i hD) hi
  have fin : ∀ (s1 : Hp) (H' : List Blk), s.le s1 → Rel w0 s0 X ρ s1 β { g with H := H' } a w → HShut ρ β H' s1 → VC P Q T (.ret c.gen (tupOf vs) H') ρ s → Ret Q s0 m0 w0 (.returned ((tupOf vs).den ρ β)) (shutMarks Ds w) := by
    intro s1 H' hs1 hrel hsh hvc
    have hk0 : ρ.k = m0.length := by rw [← hrel.ms.ek, hE]; simp [blks]
    have hpos : ∀ (m' : MS), (∀ (i : Nat) x, m'[i]? = some x → ρ.m[i]? = some x) → ∀ (i : Nat) x, m'[i]? = some x → (∃ y, m0[i]? = some y ∧ y.1 = x.1) ∨ w0.heap.size ≤ x.1 := by
      intro m' hm' i x hx
      have hx := hm' i x hx
      rcases Nat.lt_or_ge i ρ.k with hlt | hge
      · rcases hrel.ms.ck i x hlt hx with h1 | h1
        · rw [hE] at h1
          simp only [blks, List.getElem?_map, Option.map_eq_some_iff] at h1
          exact .inl h1
        · exact .inr h1
      · exact .inr (hrel.ms.nw i x hge hx)
    cases hg : c.gen with
    | true =>
      rw [hg] at hvc
      obtain ⟨f1, f2, f3⟩ := facts s1 hrel.sb
      have hq := hvc β s1 hs1 hsh (by simp)
      simp only [if_true] at hq
      refine ⟨_, s1, ρ.m, rfl, by rw [← hE]; exact f1, hrel.le, f2, hrel.nw, ⟨?_, hpos ρ.m (fun i x h => h)⟩, ⟨hrel.ms.nd, fun x hx => ?_, hrel.mok.un⟩, hq⟩
      · rw [← hk0]; exact hrel.ms.kl
      · rw [f3 _ (hmD _ (List.mem_map.2 ⟨x, hx, rfl⟩))]; exact hrel.mok.is x hx
    | false =>
      rw [hg] at hvc
      obtain ⟨t1, t2, t3, t4, t5⟩ := hrel.tell
      obtain ⟨f1, f2, f3⟩ := facts _ t2
      have hq := hvc β _ (Hp.le_trans hs1 t1) (hsh.mono t1) (fun _ => t3)
      simp only [Bool.false_eq_true, if_false] at hq
      refine ⟨_, _, ρ.m.take ρ.k, rfl, by rw [← hE]; exact f1, Hp.le_trans hrel.le t1, f2, t4, ⟨?_, hpos _ (fun i x h => take_get_of h)⟩, ⟨t5.nd, fun x hx => ?_, t5.un⟩, hq⟩
      · have := hrel.ms.kl
        rw [List.length_take, ← hk0]
        exact Nat.le_min.2 ⟨Nat.le_refl _, this⟩
      rw [f3 _ (hmD _ (List.mem_map.2 ⟨x, List.mem_of_mem_take hx, rfl⟩))]; exact t5.is x hx
  split at hvc
  · exact fin s g.H (Hp.le_refl s) h (fun k cs T hk => (h.bl k _ hk).2.2.2 rfl) (fun β s' hs _ => hvc β s' hs (fun k cs T hk => by simp at hk))
  · obtain ⟨k1, k2, k3, _⟩ := h.shut (SV.ptrss vs)
    exact fin _ _ k2 k1 k3 hvc
theorem guard_known {ops : Array Oper} {sl : List SV} {o : Oper} {b : Bool} (h : guardOf ops sl o = .known b) {ρ : Env} {β : Nat → Nat} {a : Act} (ha : a.tmps = (SV.dens ρ β sl).toArray) :
    Region.wanted o (yielded ops a.tmps) = b := by
  unfold guardOf at h
  unfold Region.wanted
  split at h
  · rename_i hg
    simp only [Gd.known.injEq] at h; subst h
    simp [hg]
  · rename_i j want hg
    split at h
    · simp at h
    · rename_i d hd
      split at h
      · rename_i b' hs
        simp only [Gd.known.injEq] at h; subst h
        have : a.tmps[d]? = some (.bool b') := by rw [ha]; simp [SV.dens_map, hs, SV.den, BE.den]
        simp only [hg, yielded, hd, Option.bind_some, this]
        cases b' <;> cases want <;> rfl
      · simp at h
      · rename_i hs
        simp only [Gd.known.injEq] at h; subst h
        have : a.tmps[d]? = some undef := by rw [ha]; simp [SV.dens_map, hs, SV.den]
        simp only [hg, yielded, hd, Option.bind_some, this]
        rfl
      · simp at h
theorem guard_on {ops : Array Oper} {sl : List SV} {o : Oper} {d : Nat} {b : BE} (h : guardOf ops sl o = .on d b) : sl[d]? = some (.bool b) := by
  unfold guardOf at h
  split at h
  · simp at h
  · split at h
    · simp at h
    · split at h
      · simp at h
      · rename_i hs _
        simp only [Gd.on.injEq] at h
        obtain ⟨rfl, rfl⟩ := h
        assumption
      · simp at h
      · simp at h
theorem listed_getD (n : Nat) (done : List Nat) (j : Nat) (d : Bool) : (listedOf n done).getD j d = if j < n then (maskOf done).testBit j else d := by
  simp only [listedOf, Array.getD_eq_getD_getElem?, List.getElem?_toArray, List.getElem?_map]
  split
  · rename_i h; rw [List.getElem?_range h]; rfl
  · rename_i h; rw [List.getElem?_eq_none (by simp; omega)]; rfl
theorem rmask_eq (ops : Array Oper) (o : Oper) (d : Nat) : (rmask ops o).testBit d = (o.looksAt ops).contains d := by
  have key : ∀ (l : List Nat) (m : Nat), (l.foldl (fun m t => m ||| (1 <<< t)) m).testBit d = (m.testBit d || l.contains d) := by
    intro l
    induction l with
    | nil => intro m; simp
    | cons t l ih =>
      intro m
      rw [List.foldl_cons, ih, Nat.testBit_or, Nat.one_shiftLeft, Nat.testBit_two_pow, List.contains_cons, Bool.or_assoc]
      congr 2
      by_cases h : t = d
      · subst h; simp
      · have : (d == t) = false := by simp [Ne.symm h]
        simp [h, this]
  unfold rmask
  rw [key]; simp
theorem apartF_eq {ops : Array Oper} {x y : Oper} (h : apartF ops x y = true) : x.apart ops y = true := by
  unfold apartF at h
  unfold Oper.apart
  cases hx : x.dst <;> cases hy : y.dst <;> simp only [hx, hy, rmask_eq, Bool.and_eq_true, Bool.not_eq_true', Bool.true_and, Bool.and_true, and_true, true_and] at h ⊢
  · exact h
  · simpa using h
  · refine ⟨⟨h.1.1, ?_⟩, h.2⟩
    rename_i a b
    have h2 : ¬ b = a := by
      intro he; subst he
      simp at h
    simpa using h2
theorem freeF_eq {ops : Array Oper} {done : List Nat} {i : Nat} (h : freeF ops done i = true) : Region.free .any ops (listedOf ops.size done) i = true := by
  unfold freeF at h
  unfold Region.free
  split at h
  · cases h
  · rename_i oi hi
    simp only [hi]
    rw [List.all_eq_true] at h ⊢
    intro j hj
    have hj := List.mem_range.1 hj
    have hoj : ops[j]? = some ops[j] := Array.getElem?_eq_getElem hj
    have hm : (ops[j], j) ∈ ops.toList.zipIdx := by
      rw [List.mem_iff_getElem?]
      exact ⟨j, by simp [List.getElem?_zipIdx, hoj]⟩
    have h1 := h _ hm
    simp only [Bool.or_eq_true] at h1
    simp only [hoj, listed_getD, hj, if_true, Bool.or_eq_true]
    rcases h1 with ((h1 | h1) | h1) | h1
    · exact .inl (.inl (by have := Nat.eq_of_beq_eq_true h1; simp [this]))
    · exact .inl (.inr h1)
    · refine .inr (.inl ?_)
      rw [← Array.any_toList]
      rw [List.any_eq_true] at h1 ⊢
      obtain ⟨e, he, hb⟩ := h1
      simp only [Bool.and_eq_true] at hb
      exact ⟨e, he, by simp only [Bool.and_eq_true, hb.1, true_and]; have := Nat.eq_of_beq_eq_true hb.2; simp [this]⟩
    · exact .inr (.inr (apartF_eq h1))
theorem readyF_eq (ops : Array Oper) (done : List Nat) : readyF ops done = Region.ready .any ops (listedOf ops.size done) := by
  unfold readyF Region.ready
  refine List.filter_congr (fun i hi => ?_)
  have hi := List.mem_range.1 hi
  have hoi : ops[i]? = some ops[i] := Array.getElem?_eq_getElem hi
  simp only [hoi, listed_getD, hi, if_true, Option.map_some, Option.getD_some, ← Array.all_toList]
  congr 1
  congr 1
  funext e
  congr 1
  by_cases h : e.on < ops.size
  · simp [h, Nat.blt_eq]
  · have : Nat.blt e.on ops.size = false := by
      cases hb : Nat.blt e.on ops.size with
      | false => rfl
      | true => rw [Nat.blt_eq] at hb; exact absurd hb h
    simp [h, this]
theorem noSelectF_eq {ops : Array Oper} (h : noSelectF ops = true) : Region.noSelect ops = true := by
  unfold noSelectF at h
  unfold Region.noSelect
  rw [← Array.all_toList]; exact h
theorem listed_nil (n : Nat) : listedOf n [] = Array.replicate n false := by
  apply Array.ext'
  simp only [listedOf, maskOf, List.foldl_nil, Nat.zero_testBit, List.map_const', List.length_range, Array.toList_replicate]
theorem listed_snoc (n : Nat) (done : List Nat) (i : Nat) : listedOf n (done ++ [i]) = (listedOf n done).setIfInBounds i true := by
  apply Array.ext'
  apply List.ext_getElem?
  intro j
  simp only [listedOf, maskOf, List.foldl_append, List.foldl_cons, List.foldl_nil, Array.toList_setIfInBounds, List.getElem?_map, List.getElem?_set, List.length_map, List.length_range, Nat.testBit_or]
  by_cases hj : j < n
  · rw [List.getElem?_range hj]
    simp only [Option.map_some]
    have h1 : (1 <<< i).testBit j = decide (i = j) := by
      rw [Nat.one_shiftLeft, Nat.testBit_two_pow]
    rw [h1]
    by_cases hij : i = j
    · subst hij; simp [hj]
    · simp [hij]
  · rw [List.getElem?_eq_none (by simp; omega)]
    simp only [Option.map_none]
    split
    · rename_i h; subst h; simp [hj]
    · rfl
theorem hok_mask {ρ : Env} {β : Nat → Nat} {H : List Blk} {w : World} (h : HOk ρ β H w) (ks : List Nat) : HOk ρ β (maskH ks H) w := fun k cs T hk => by
  rw [getBlk_mask] at hk
  split at hk
  · exact h k cs T hk
  · simp at hk
/-- How a frame's end is known: it is left to the leaves; or it is a plain function's, with the marks of its loops. -/
def EndOk (P : Program) (c : Ctx) (fn : FnC) (f : Fr) (X : Fx) (R : Ending → World → Prop) (Q : Value → Hp → MS → Prop) (s0 : Hp) (w0 : World) : Prop :=
  c.leaf = true ∨ ∃ (f' : FuncId) (fnc : Func) (Ds : List Nat) (m0 : MS), f = (f', none) ∧ X.E = blks m0 ∧ X.ds = Ds.map markOf ∧ MarksOk w0 Ds ∧ (∀ D ∈ Ds, X.K (D, .deferred (some []))) ∧ R = Ret Q s0 m0 w0 ∧ P.funcs[f']? = some fnc ∧ fn.res = fnc.results.toList
theorem EndOk.marks {f' : FuncId} (m0 : MS) (Ds : List Nat) (hm : MarksOk w0 Ds) (hf : P.funcs[f']? = some fnc) (hres : fn.res = fnc.results.toList) : EndOk P c fn (f', none) (Xm (blks m0) Ds) (Ret Q s0 m0 w0) Q s0 w0 :=
  .inr ⟨f', fnc, Ds, m0, rfl, rfl, rfl, hm, fun D hD => ⟨hD, rfl⟩, rfl, hf, hres⟩
theorem wpAnyH_mono {md : Region.Mode} {ops : Array Oper} {Qx : Exit → Act → World → Prop} {S S' : World → Prop} (h : ∀ w, S w → S' w) : ∀ (fuel : Nat) (listed : Array Bool) (a : Act) (w : World), wpAnyH P md ops Qx S fuel listed a w → wpAnyH P md ops Qx S' fuel listed a w
  | 0, _, _, _, k => k
  | fuel + 1, _, _, _, k => ⟨k.1, fun i hi => wpOp_mono (fun a' w' h' => ⟨h w' h'.1, wpAnyH_mono h fuel _ a' w' h'.2⟩) (k.2 i hi)⟩
theorem Rel.mapsl {ρ s β} {g : Cfg} {a : Act} {w : World} (h : Rel w0 s0 X ρ s β g a w) {k : IntKind} {e : IE} {j : Nat} (he : e.den ρ = (j : Int)) :
    Rel w0 s0 X ρ s β { g with sl := g.sl.map fun v => if SV.beq v (.int k e) then .int k (.l j) else v } a w := by
  refine ⟨?_, h.df, h.sz, h.kp, h.ms, h.fs, h.ci, h.cb, h.cv, h.cj, h.ok, h.bel, h.sb, h.nw, h.le, h.bl, h.sp⟩
  rw [h.tm]
  apply congrArg
  simp only [SV.dens_map, List.map_map]
  apply List.map_congr_left
  intro v _
  simp only [Function.comp]
  split
  · rename_i hb
    rw [SV.eq_of_beq _ _ hb]
    simp only [SV.den, IE.den, he]
  · rfl
theorem splitOf_get {c : Ctx} {sl : List SV} {o : Oper} {d : Nat} {k : IntKind} {e : IE} {n : Nat} (h : splitOf c sl o = some (d, k, e, n)) : sl[d]? = some (.int k e) := by
  unfold splitOf at h
  split at h
  case h_3 => simp at h
  all_goals
    split at h
    · simp at h
    · rename_i hd
      split at h
      · split at h
        · simp only [Option.some.injEq, Prod.mk.injEq] at h
          obtain ⟨rfl, rfl, rfl, rfl⟩ := h
          exact hd
        · simp at h
      · simp at h
    · simp at h
theorem split_vc {g : Cfg} {d : Nat} {k : IntKind} {e : IE} {r : Cfg → Out} {ρ : Env} {s : Hp} : ∀ m, VC P Q T (splitOut g d k e r m) ρ s → ∃ j : Nat, e.den ρ = (j : Int) ∧ VC P Q T (r { g with sl := g.sl.map fun v => if SV.beq v (.int k e) then .int k (.l j) else v }) ρ s
  | 0, h => h.elim
  | m + 1, h => by
    have h : ((BE.eq e (.l m)).den ρ = true → VC P Q T (r { g with sl := g.sl.map fun v => if SV.beq v (.int k e) then .int k (.l m) else v }) ρ s) ∧ ((BE.eq e (.l m)).den ρ = false → VC P Q T (splitOut g d k e r m) ρ s) := h
    cases hb : (BE.eq e (.l m)).den ρ with
    | true => exact ⟨m, by simpa [BE.den, IE.den, eqB_true] using hb, h.1 hb⟩
    | false => exact split_vc m (h.2 hb)
theorem goes_of {R : Ending → World → Prop} {body : Code} {ρ : Env} {β : Nat → Nat} {s : Hp} {g : Cfg} {a : Act} {w : World} (h : GoesG P f R body ρ β s g a w) (h2 : ∀ p d ks k, g.todo ≠ .dreg p d ks :: k) : Goes P f R (g.todo.map (itemOf body)) a w := by
  unfold GoesG at h
  split at h
  · rename_i p d ks k he
    exact absurd he (h2 _ _ _ _)
  · exact h
theorem find_if {α : Type} {b : Bool} {p : α → Bool} {l : List α} {i : α} (h : (if b = true then none else l.find? p) = some i) : l.find? p = some i := by
  split at h
  · cases h
  · exact h
theorem runX_sound {R : Ending → World → Prop} (hP : ProgOk P c)
    (hend : EndOk P c fn f X R Q s0 w0)
    (hnd : f.2 = none ∨ ∀ p (i : Nat) (o : Oper), (opsAt (sub fn.body p))[i]? = some o → isDefer o = false)
    (hT : ∀ g ρ s, T g ρ s → ReachX P f R fn.body w0 s0 X g ρ s) :
    ∀ (n : Nat) (g : Cfg) (ρ : Env) (s : Hp), VC P Q T (run c fn n g) ρ s → ReachX P f R fn.body w0 s0 X g ρ s := by
  intro n
  induction n with
  | zero => intro g ρ s h; exact h.elim
  | succ n ih =>
    intro g ρ s hvc β a w h
    have goto : ∀ {g' : Cfg} {t : List Item}, (∀ cs, Steps P (lone ((atF f).atR a t) cs w) (lone ((atF f).atR a (g'.todo.map (itemOf fn.body))) cs w)) →
        GoesG P f R fn.body ρ β s g' a w → (∀ p d ks k, g'.todo ≠ .dreg p d ks :: k) → Goes P f R t a w :=
      fun hs hg h2 => Goes.step hs (goes_of hg h2)
    have ite : ∀ {b : BE} {x y : Out}, VC P Q T (.ite b x y) ρ s → (b.den ρ = true ∧ VC P Q T x ρ s) ∨ (b.den ρ = false ∧ VC P Q T y ρ s) := by
      intro b x y hv
      cases hb : b.den ρ with
      | true => exact .inl ⟨rfl, hv.1 hb⟩
      | false => exact .inr ⟨rfl, hv.2 hb⟩
    obtain ⟨todo, sl, H, ni, nb, nv, nj, fs⟩ := g
    unfold run at hvc
    simp only at hvc
    split at hvc
    case isTrue => exact hvc.elim
    rename_i hnoD
    have nod : ∀ (k : List PI), (∀ x ∈ k, x.isD = false) → ∀ p d ks k', k ≠ .dreg p d ks :: k' := by
      intro k hk p d ks k' he
      have := hk (.dreg p d ks) (by rw [he]; simp)
      simp [PI.isD] at this
    have hk : ∀ x ∈ todo.drop 1, x.isD = false := by
      intro x hx
      cases hd : x.isD with
      | false => rfl
      | true => exact absurd (List.any_eq_true.2 ⟨x, hx, hd⟩) hnoD
    split at hvc
    ·
      split at hvc
      · exact hT _ _ _ hvc β a w h
      · rename_i hl
        rcases hend with h0 | ⟨f', fnc, Ds, m0, rfl, hE, hds, hm, hK, rfl, hf, hres⟩
        · exact absurd h0 hl
        · exact ret_sound hP hE hds hm hK hf hres h hvc (.inl rfl)
    · exact hT _ _ _ hvc β a w h
    · rename_i id k
      exact goto (fun cs => .one stepR_inBlock) (ih _ _ _ hvc β a w (h.todo k)) (nod k hk)
    · rename_i p k
      exact goto (fun cs => .one (step_lone_go (by simp [stepG, stepG.exec, Frame.atR, itemOf]))) (ih _ _ _ hvc β a w (h.todo k)) (nod k hk)
    · rename_i p k
      exact goto (fun cs => .one stepR_region_end) (ih _ _ _ hvc β a w (h.todo k)) (nod k hk)
    ·
      rename_i p k
      have hk' : ∀ x ∈ (PI.code p :: .inLoop p :: k), x.isD = false := by
        intro x hx
        simp only [List.mem_cons] at hx
        rcases hx with rfl | rfl | hx
        · rfl
        · rfl
        · exact hk x hx
      have hsub : ∀ cs, Steps P (lone ((atF f).atR a (.inLoop (sub fn.body p) :: k.map (itemOf fn.body))) cs w) (lone ((atF f).atR a ((PI.code p :: .inLoop p :: k).map (itemOf fn.body))) cs w) := fun cs => .one stepR_inLoop
      split at hvc
      · exact goto (g' := { todo := .code p :: .inLoop p :: k, sl := sl, H := H, ni := ni, nb := nb, nv := nv, nj := nj, fs := fs }) hsub (hT _ _ _ hvc β a w (h.todo _)) (nod _ hk')
      · exact goto (g' := { todo := .code p :: .inLoop p :: k, sl := sl, H := H, ni := ni, nb := nb, nv := nv, nj := nj, fs := fs }) hsub (ih _ _ _ hvc β a w (h.todo _)) (nod _ hk')
    ·
      rename_i p k
      have hk1 : ∀ (x : PI), x.isD = false → ∀ y ∈ (x :: k), y.isD = false := by
        intro x hx y hy
        rcases List.mem_cons.1 hy with rfl | hy
        · exact hx
        · exact hk y hy
      have hk2 : ∀ (x z : PI), x.isD = false → z.isD = false → ∀ y ∈ (x :: z :: k), y.isD = false := by
        intro x z hx hz y hy
        rcases List.mem_cons.1 hy with rfl | hy
        · exact hx
        · exact hk1 z hz y hy
      show Goes P f _ (.code (sub fn.body p) :: k.map (itemOf fn.body)) a w
      split at hvc
      · rename_i hs; rw [hs]
        exact goto (fun cs => .one stepR_skip) (ih _ _ _ hvc β a w (h.todo k)) (nod k hk)
      · rename_i l hs; rw [hs]
        exact goto (fun cs => .one stepR_label) (ih _ _ _ hvc β a w (h.todo k)) (nod k hk)
      · rename_i x y hs
        have e1 : sub fn.body (false :: p) = x := by simp [sub, hs, child]
        have e2 : sub fn.body (true :: p) = y := by simp [sub, hs, child]
        rw [hs]
        refine goto (fun cs => .one ?_) (ih _ _ _ hvc β a w (h.todo _)) (nod _ (hk2 _ _ rfl rfl))
        simp only [List.map_cons, itemOf, e1, e2]
        exact stepR_seq
      · rename_i x y z hs
        have e1 : sub fn.body (false :: p) = y := by simp [sub, hs, child]
        have e2 : sub fn.body (true :: p) = z := by simp [sub, hs, child]
        rw [hs]
        have cond : ∀ b : Bool, a.eval x = .bool b → ∀ cs, Steps P (lone ((atF f).atR a (.code (.cond x y z) :: k.map (itemOf fn.body))) cs w) (lone ((atF f).atR a ((PI.code ((!b) :: p) :: k).map (itemOf fn.body))) cs w) := by
          intro b hb cs
          refine .one ?_
          rw [stepR_cond hb]
          cases b <;> simp [itemOf, e1, e2]
        split at hvc
        · rename_i b hb
          exact goto (cond b (ev_den hb h.tm)) (ih _ _ _ hvc β a w (h.todo _)) (nod _ (hk1 _ rfl))
        · rename_i b _ hb
          have hev := ev_den hb h.tm
          rcases ite hvc with ⟨hb', hv⟩ | ⟨hb', hv⟩
          · simp only [SV.den, hb'] at hev
            exact goto (cond true hev) (ih _ _ _ hv β a w (h.todo _)) (nod _ (hk1 _ rfl))
          · simp only [SV.den, hb'] at hev
            exact goto (cond false hev) (ih _ _ _ hv β a w (h.todo _)) (nod _ (hk1 _ rfl))
        · exact hvc.elim
      · rename_i id x hs
        have e1 : sub fn.body (false :: p) = x := by simp [sub, hs, child]
        rw [hs]
        refine goto (fun cs => .one ?_) (ih _ _ _ hvc β a w (h.todo _)) (nod _ (hk2 _ _ rfl rfl))
        simp only [List.map_cons, itemOf, e1]
        exact stepR_block
      · rename_i x hs
        have e1 : sub fn.body (false :: p) = x := by simp [sub, hs, child]
        rw [hs]
        have hst : ∀ cs, Steps P (lone ((atF f).atR a (.code (.loop x) :: k.map (itemOf fn.body))) cs w) (lone ((atF f).atR a ((PI.code (false :: p) :: .inLoop (false :: p) :: k).map (itemOf fn.body))) cs w) := by
          intro cs
          simp only [List.map_cons, itemOf, e1]
          exact .one stepR_loop
        split at hvc
        · exact goto (g' := { todo := .code (false :: p) :: .inLoop (false :: p) :: k, sl := sl, H := H, ni := ni, nb := nb, nv := nv, nj := nj, fs := fs }) hst (hT _ _ _ hvc β a w (h.todo _)) (nod _ (hk2 _ _ rfl rfl))
        · exact goto (g' := { todo := .code (false :: p) :: .inLoop (false :: p) :: k, sl := sl, H := H, ni := ni, nb := nb, nv := nv, nj := nj, fs := fs }) hst (ih _ _ _ hvc β a w (h.todo _)) (nod _ (hk2 _ _ rfl rfl))
      · rename_i x hs
        have e1 : sub fn.body (false :: p) = x := by simp [sub, hs, child]
        rw [hs]
        refine goto (fun cs => .one ?_) (ih _ _ _ hvc β a w (h.todo _)) (nod _ (hk2 _ _ rfl rfl))
        simp only [List.map_cons, itemOf, e1]
        exact step_lone_go (by simp [stepG, stepG.exec, Frame.atR])
      · rename_i id hs
        rw [hs]
        split at hvc
        · rename_i k' hk'
          have hmem : ∀ (k k' : List PI), exitPI id k = some k' → ∀ x ∈ k', x ∈ k := by
            intro k
            induction k with
            | nil => intro k' h; simp [exitPI] at h
            | cons y k ihk =>
              intro k' h x hx
              cases y <;> simp only [exitPI] at h
              case inBlock id' =>
                split at h
                · simp only [Option.some.injEq] at h; subst h; simp [hx]
                · simp [ihk _ h x hx]
              all_goals first | (simp at h; done) | (simp [ihk _ h x hx])
          exact goto (fun cs => .one (stepR_exit (exit_spec fn.body id _ _ hk'))) (ih _ _ _ hvc β a w (h.todo k')) (nod k' (fun x hx => hk x (hmem _ _ hk' x hx)))
        · split at hvc
          · have := hT _ _ _ hvc β a w h
            simp only [GoesG, List.map_cons, itemOf, hs] at this
            exact this
          · exact hvc.elim
      · rename_i hs
        rw [hs]
        split at hvc
        · have := hT _ _ _ hvc β a w h
          simp only [GoesG, List.map_cons, itemOf, hs] at this
          exact this
        · rename_i hl
          rcases hend with h0 | ⟨f', fnc, Ds, m0, rfl, hE, hds, hm, hK, rfl, hf, hres⟩
          · exact absurd h0 hl
          · exact ret_sound hP hE hds hm hK hf hres h hvc (.inr ⟨_, rfl⟩)
      · rename_i id ops draw hs
        have e1 : opsAt (sub fn.body p) = ops := by simp [hs, opsAt]
        rw [hs]
        split at hvc
        · rename_i hd
          subst hd
          split at hvc
          · have := hT _ _ _ hvc β a w h
            simp only [GoesG, List.map_cons, itemOf, hs] at this
            exact this
          split at hvc
          case isFalse => exact hvc.elim
          rename_i hns
          refine goes_draw (S := fun w' => HOk ρ β (maskH (stableBlks ops sl H.length) H) w' ∧ Sub s w') hP.mixed (hnd.imp (fun h0 => h0) (fun h0 => by have := h0 p; rw [e1] at this; exact this)) ?_
          have := ih _ _ _ hvc β a _ ((h.drew).todo (.dreg p [] (stableBlks ops sl H.length) :: k))
          simp only [GoesG] at this
          rw [e1, listed_nil] at this
          exact this
        · rename_i hd
          have hd : draw = false := by simpa using hd
          subst hd
          refine Goes.step (fun cs => .one stepR_region) ?_
          have := ih _ _ _ hvc β a w (h.todo (.reg p (List.range ops.size) :: k))
          simp only [GoesG, List.map_cons, itemOf] at this
          rw [e1] at this
          exact this
      · exact hT _ _ _ hvc β a w h
      · exact hvc.elim
    ·
      rename_i p i is k
      show Goes P f R (.inRegion (opsAt (sub fn.body p)) (i :: is) :: k.map (itemOf fn.body)) a w
      split at hvc
      · exact hvc.elim
      rename_i o ho
      have hnd' : f.2 = none ∨ isDefer o = false := hnd.imp (fun h0 => h0) (fun h0 => h0 p i o ho)
      split at hvc
      · rename_i hg
        split at hvc
        · exact hT _ _ _ hvc β a w h
        split at hvc
        · rename_i d kd e m hsp
          obtain ⟨j, hj, hv⟩ := split_vc m hvc
          exact ih _ _ _ hv β a w (h.mapsl hj)
        · refine goes_op ho hnd' ?_
          rw [if_pos (guard_known hg h.tm)]
          refine opRun_sound hP (h.todo (.reg p is :: k)) hvc ?_
          intro ρ' s' β' g' a' w' hv hr _ htd _
          have := ih _ _ _ hv β' a' w' hr
          unfold GoesG at this
          rw [htd] at this
          exact this
      · rename_i hg
        have := guard_known hg h.tm
        refine goes_op ho hnd' ?_
        rw [if_neg (by rw [this]; simp)]
        have h2 := (h.todo (.reg p is :: k)).put o.dst .undef
        exact ih _ _ _ hvc β _ w h2
      · rename_i d b hg
        have hd := guard_on hg
        rcases ite hvc with ⟨hb', hv⟩ | ⟨hb', hv⟩
        · exact ih _ _ _ hv β a w (h.setsl hd (by simp [SV.den, BE.den, hb']))
        · exact ih _ _ _ hv β a w (h.setsl hd (by simp [SV.den, BE.den, hb']))
      · exact hvc.elim
    ·
      rename_i p done ks k
      have hSw : HOk ρ β (maskH ks H) w ∧ Sub s w := ⟨hok_mask h.hok ks, h.sb⟩
      show wpAnyH P .any (opsAt (sub fn.body p)) (QG P f R fn.body k) (fun w' => HOk ρ β (maskH ks H) w' ∧ Sub s w') ((opsAt (sub fn.body p)).size - done.length) (listedOf (opsAt (sub fn.body p)).size done) a w
      have dset : ∀ {d : Nat} {b : BE}, sl[d]? = some (.bool b) → VC P Q T (.ite b (run c fn n { todo := .dreg p done ks :: k, sl := sl.set d (.bool (.t true)), H := H, ni := ni, nb := nb, nv := nv, nj := nj, fs := fs })
          (run c fn n { todo := .dreg p done ks :: k, sl := sl.set d (.bool (.t false)), H := H, ni := ni, nb := nb, nv := nv, nj := nj, fs := fs })) ρ s →
          wpAnyH P .any (opsAt (sub fn.body p)) (QG P f R fn.body k) (fun w' => HOk ρ β (maskH ks H) w' ∧ Sub s w') ((opsAt (sub fn.body p)).size - done.length) (listedOf (opsAt (sub fn.body p)).size done) a w := by
        intro d b hd hv
        rcases ite hv with ⟨hb', hv⟩ | ⟨hb', hv⟩
        · exact ih _ _ _ hv β a w (h.setsl hd (by simp [SV.den, BE.den, hb']))
        · exact ih _ _ _ hv β a w (h.setsl hd (by simp [SV.den, BE.den, hb']))
      split at hvc
      · rename_i hr
        exact wpAnyH_done (by rw [← readyF_eq]; exact hr) ⟨rfl, goes_of (ih _ _ _ hvc β a w (h.todo k)) (nod k hk)⟩ _
      rename_i rs hne
      split at hvc
      case isTrue => exact hvc.elim
      rename_i hchk
      simp only [Bool.not_eq_true', Bool.not_eq_false, Bool.and_eq_true, decide_eq_true_eq, List.all_eq_true] at hchk
      obtain ⟨⟨hlt, hks⟩, hns⟩ := hchk
      have hns := noSelectF_eq hns
      have hfuel : (opsAt (sub fn.body p)).size - done.length = ((opsAt (sub fn.body p)).size - (done.length + 1)) + 1 := by omega
      rw [hfuel]
      have hlen : ∀ i, (done ++ [i]).length = done.length + 1 := by simp
      split at hvc
      ·
        rename_i i hfind
        split at hvc
        · exact hvc.elim
        rename_i o ho
        have hfl := List.find?_some hfind
        have hmem := List.mem_of_find?_eq_some hfind
        unfold floats at hfl
        simp only [ho, Bool.and_eq_true] at hfl
        obtain ⟨hfree, hfl⟩ := hfl
        have hfree := freeF_eq hfree
        have hready : (Region.ready .any (opsAt (sub fn.body p)) (listedOf (opsAt (sub fn.body p)).size done)).contains i = true := by rw [← readyF_eq]; simpa using hmem
        split at hvc
        · rename_i hg
          split at hvc
          · rename_i ns v hpv
            obtain ⟨hn, hvc⟩ := VC_needs P Q T _ _ _ _ hvc
            refine wpAnyH_take ho hns hfree hready (by intro c a w hq; exact absurd hq.1 (by simp)) (v := v.den ρ β) (.inl ⟨guard_known hg h.tm, fun w' hw' => run_pv hP h.ok hpv hn h.tm hw'.1⟩) hSw ?_
            have := ih _ _ _ hvc β _ w ((h.todo (.dreg p (done ++ [i]) ks :: k)).put o.dst v)
            simp only [GoesG] at this
            rw [hlen, listed_snoc] at this
            exact this
          · exact hvc.elim
        · rename_i hg
          have hoff : guardOf (opsAt (sub fn.body p)) sl o = .known false := by
            cases hgo : guardOf (opsAt (sub fn.body p)) sl o with
            | known b =>
              cases b with
              | true => exact absurd hgo hg
              | false => rfl
            | on d b => rw [hgo] at hfl; simp at hfl
            | bad => rw [hgo] at hfl; simp at hfl
          refine wpAnyH_take ho hns hfree hready (by intro c a w hq; exact absurd hq.1 (by simp)) (v := undef) (.inr ⟨guard_known hoff h.tm, rfl⟩) hSw ?_
          have := ih _ _ _ hvc β _ w ((h.todo (.dreg p (done ++ [i]) ks :: k)).put o.dst .undef)
          simp only [GoesG] at this
          rw [hlen, listed_snoc] at this
          exact this
      · split at hvc
        ·
          rename_i i hfind
          replace hfind := find_if hfind
          split at hvc
          · exact hvc.elim
          rename_i o ho
          have hfl := List.find?_some hfind
          have hmem := List.mem_of_find?_eq_some hfind
          unfold floatsL at hfl
          simp only [ho, Bool.and_eq_true] at hfl
          obtain ⟨hfree, hfl⟩ := hfl
          have hfree := freeF_eq hfree
          have hready : (Region.ready .any (opsAt (sub fn.body p)) (listedOf (opsAt (sub fn.body p)).size done)).contains i = true := by rw [← readyF_eq]; simpa using hmem
          split at hfl
          case h_2 => simp at hfl
          rename_i t x hg hop
          rw [hop] at hvc
          simp only at hvc
          split at hvc
          case h_2 => exact hvc.elim
          rename_i xs hxs
          obtain ⟨v, ρ', g', hrun, hvc', hr', hst, htd⟩ := load_sound hP (h.todo (.dreg p (done ++ [i]) ks :: k)) hop hxs hvc
          have hstab := (hst (fun _ => False)).2 ks (fun q hq => ⟨hks q hq, fun h0 => h0⟩)
          refine wpAnyH_take ho hns hfree hready (by intro c a w hq; exact absurd hq.1 (by simp)) (v := v) (.inl ⟨guard_known hg h.tm, fun w' hw' => hrun w' hw'.2 (.inl rfl)⟩) hSw ?_
          have := ih _ _ _ hvc' β _ w hr'
          unfold GoesG at this
          rw [htd] at this
          simp only at this
          rw [hlen, listed_snoc] at this
          exact wpAnyH_mono (fun w' hw' => ⟨(hstab w').1 hw'.1, hw'.2⟩) _ _ _ _ this
        split at hvc
        · rename_i d kd e m hfs
          rw [← hfuel]
          obtain ⟨i, hi, hh⟩ := List.exists_of_findSome?_eq_some hfs
          unfold splitsAt at hh
          split at hh
          · simp at hh
          · split at hh
            · obtain ⟨j, hj, hv⟩ := split_vc m hvc
              exact ih _ _ _ hv β a w (h.mapsl hj)
            · simp at hh
        split at hvc
        · rename_i d b hfs
          rw [← hfuel]
          obtain ⟨i, hi, hh⟩ := List.exists_of_findSome?_eq_some hfs
          unfold hangs at hh
          split at hh
          · simp at hh
          · split at hh
            · rename_i hg
              simp only [Option.some.injEq, Prod.mk.injEq] at hh
              obtain ⟨rfl, rfl⟩ := hh
              exact dset (guard_on hg) hvc
            · simp at hh
        · obtain ⟨hne2, hall⟩ := VC_bothAll _ _ _ _ _ _ hvc
          refine wpAnyH_all (readyF_eq _ _).symm (by intro h0; rw [h0] at hne2; simp at hne2) ?_
          intro i hi
          have hvc := hall _ (List.mem_map.2 ⟨i, hi, rfl⟩)
          split at hvc
          · exact hvc.elim
          rename_i o ho
          split at hvc
          · rename_i hg
            split at hvc
            case isTrue => exact hvc.elim
            rename_i hbad
            unfold wpOp
            simp only [ho]
            rw [if_pos (guard_known hg h.tm)]
            refine .inl (opRun_sound hP (h.todo (.dreg p (done ++ [i]) ks :: k)) hvc ?_)
            intro ρ' s' β' g' a' w' hv hr hst htd hle
            have hstab := hst.2 ks (fun q hq => ⟨hks q hq, fun ⟨off, new, hso⟩ => by
              apply hbad
              unfold storeBad
              have hso : storeOf c sl H o.op = some (q, off, new) := hso
              simp only [hso]
              simpa using hq⟩)
            refine ⟨⟨(hstab w').1 (hok_mask hr.hok ks), fun b o u hb => hr.sb b o u (hle b o u hb)⟩, ?_⟩
            have := ih _ _ _ hv β' a' w' hr
            unfold GoesG at this
            rw [htd] at this
            simp only at this
            rw [hlen, listed_snoc] at this
            exact wpAnyH_mono (fun w'' hw'' => ⟨(hstab w'').1 hw''.1, fun b o u hb => hw''.2 b o u (hle b o u hb)⟩) _ _ _ _ this
          · exact hvc.elim
/-- Of a plain function. -/
theorem run_sound {f : FuncId} (hP : ProgOk P c) (hf : P.funcs[f]? = some fnc) (hres : fn.res = fnc.results.toList) {m0 : MS} (hT : ∀ g ρ s, T g ρ s → Reach P f (Ret Q s0 m0 w0) fn.body w0 s0 m0 g ρ s) :
    ∀ (n : Nat) (g : Cfg) (ρ : Env) (s : Hp), VC P Q T (run c fn n g) ρ s → Reach P f (Ret Q s0 m0 w0) fn.body w0 s0 m0 g ρ s :=
  runX_sound hP (EndOk.marks m0 [] (.nil _) hf hres) (.inl rfl) hT
end
end Go.Sx
