/- SX: the executor's tree is enough for a whole function's body. -/
import Derived.Test.YthjahianafohjaaHTxb
import Derived.RangeFuncRecord
import Derived.RangeFuncIn
import Derived.RangeFuncLeaves
import Derived.ChangeKeysEq
import Derived.ProofKit
import Derived.OpenShut
import Derived.ChangeOld
set_option linter.unusedSimpArgs false
set_option linter.unusedVariables false
namespace Go.Sx
open Go.RowKit
def itemOf (body : Code) : PI → Item
  | .code p => .code (sub body p)
  | .inBlock id => .inBlock id
  | .inLoop p => .inLoop (sub body p)
  | .inScope p => .inScope (sub body p)
  | .reg p is => .inRegion (opsAt (sub body p)) is
  | .dreg _ _ _ => .inRegion #[] []
  | .begin => .beginRound
section
variable {P : Program}
/-- The marks are taken up, one after another. -/
def shutMarks : List Nat → World → World
  | [], w => w
  | D :: Ds, w => shutMarks Ds (w.putObj D (.deferred none))
theorem steps_marks {fr0 : Frame} {cs : List Frame} (hm : fr0.mode = .returning) : ∀ (Ds : List Nat) (w : World), Ds.Nodup → (∀ D ∈ Ds, w.heap[D]? = some (.deferred (some []))) →
    Steps P (lone { fr0 with defers := Ds.map markOf } cs w) (lone { fr0 with defers := [] } cs (shutMarks Ds w))
  | [], w, _, _ => .refl _ _
  | D :: Ds, w, hn, h => by
    have hk := run_takeDeferred (P := P) (h D (by simp))
    have h1 := step_collected (P := P) (fr := { fr0 with defers := (D :: Ds).map markOf }) (cs := cs) (w := w) (by show fr0.mode ≠ .run; rw [hm]; simp) (d := markOf D) (ds := Ds.map markOf) rfl rfl hk
    refine .head h1 ?_
    rw [List.nodup_cons] at hn
    exact steps_marks hm Ds _ hn.2 (fun E hE => (World.putObj_heap_other (by intro he; subst he; exact hn.1 hE)).trans (h E (by simp [hE])))
/-- A function's end, with marks. -/
theorem goes_retMarks {f : FuncId} {fn : Func} {R : Ending → World → Prop} {todo : List Item} {a : Act} {w : World} {v : Value} {Ds : List Nat}
    (ht : todo = [] ∨ ∃ k, todo = .code .ret :: k) (hf : P.funcs[f]? = some fn) (hd : a.defers = Ds.map markOf) (hn : Ds.Nodup) (hm : ∀ D ∈ Ds, w.heap[D]? = some (.deferred (some [])))
    (hr : (results fn a.tmps).run P (shutMarks Ds w) = .ok v (shutMarks Ds w)) (hR : R (.returned v) (shutMarks Ds w)) : Goes P (f, none) R todo a w := by
  intro cs _
  rcases ht with rfl | ⟨k, rfl⟩
  · refine ⟨.returned v, _, lone { (atF (f, none)).atR a [] with mode := .returning, defers := [] } cs (shutMarks Ds w), hR, .head (stepR_end rfl) ?_, _, rfl, rfl, rfl, rfl, rfl, fn, hf, hr⟩
    have := steps_marks (P := P) (fr0 := { (atF (f, none)).atR a [] with mode := .returning }) (cs := cs) rfl Ds w hn hm
    rw [← hd] at this
    exact this
  · refine ⟨.returned v, _, lone { (atF (f, none)).atR a (.code .ret :: k) with mode := .returning, defers := [] } cs (shutMarks Ds w), hR, .head (stepR_ret rfl) ?_, _, rfl, rfl, rfl, rfl, rfl, fn, hf, hr⟩
    have := steps_marks (P := P) (fr0 := { (atF (f, none)).atR a (.code .ret :: k) with mode := .returning }) (cs := cs) rfl Ds w hn hm
    rw [← hd] at this
    exact this
theorem cell_putNC {w : World} {D : Nat} {o o' : Obj} (hd : w.heap[D]? = some o) (ho : objNC o = true) {b off : Nat} {u : Value} (h : w.cell? ⟨b, off, none⟩ = some u) : (w.putObj D o').cell? ⟨b, off, none⟩ = some u := by
  have hne : b ≠ D := by
    rintro rfl
    simp only [World.cell?, hd] at h
    cases o <;> simp_all [objNC]
  rw [← h]
  exact World.cell?_of_block (World.putObj_heap_other hne)
theorem sub_putNC {s : Hp} {w : World} {D : Nat} {o o' : Obj} (h : Sub s w) (hd : w.heap[D]? = some o) (ho : objNC o = true) : Sub s (w.putObj D o') := fun b off u hb => cell_putNC hd ho (h b off u hb)
theorem grows_put {E : Nat → Prop} {w w' : World} {D : Nat} {o : Obj} (h : Grows E w w') (hD : w.heap.size ≤ D) : Grows E w (w'.putObj D o) :=
  h.below ⟨rfl, rfl, rfl, by simp, fun k hk => World.putObj_heap_other (by omega)⟩
structure MarksOk (w0 : World) (Ds : List Nat) : Prop where
  nd : Ds.Nodup
  ge : ∀ D ∈ Ds, w0.heap.size ≤ D
theorem MarksOk.nil (w0 : World) : MarksOk w0 [] := ⟨by simp, by simp⟩
theorem shutMarks_facts {s : Hp} {E : Nat → Prop} {w0 : World} : ∀ (Ds : List Nat) (w : World), Ds.Nodup → (∀ D ∈ Ds, w0.heap.size ≤ D) → (∀ D ∈ Ds, w.heap[D]? = some (.deferred (some []))) → Grows E w0 w → Sub s w →
    Grows E w0 (shutMarks Ds w) ∧ Sub s (shutMarks Ds w) ∧ ∀ i, i ∉ Ds → (shutMarks Ds w).heap[i]? = w.heap[i]?
  | [], w, _, _, _, h1, h2 => ⟨h1, h2, fun _ _ => rfl⟩
  | D :: Ds, w, hn, hB, hd, h1, h2 => by
    rw [List.nodup_cons] at hn
    have hD := hd D (by simp)
    obtain ⟨a, b, c⟩ := shutMarks_facts (s := s) (E := E) (w0 := w0) Ds (w.putObj D (.deferred none)) hn.2 (fun E hE => hB E (by simp [hE]))
      (fun E hE => (World.putObj_heap_other (by intro he; subst he; exact hn.1 hE)).trans (hd E (by simp [hE]))) (grows_put h1 (hB D (by simp))) (sub_putNC h2 hD rfl)
    refine ⟨a, b, fun i hi => ?_⟩
    simp only [List.mem_cons, not_or] at hi
    exact (c i hi.2).trans (World.putObj_heap_other hi.1)
end
section
variable (P : Program) (f : Fr) (R : Ending → World → Prop) (body : Code)
abbrev QG (k : List PI) : Exit → Act → World → Prop := fun e a w => e = .normal ∧ Goes P f R (k.map (itemOf body)) a w
/-- From a place in the body to the function's end. -/
def GoesG (ρ : Env) (β : Nat → Nat) (s : Hp) (g : Cfg) (a : Act) (w : World) : Prop :=
  match g.todo with
  | .dreg p done ks :: k =>
      wpAnyH P .any (opsAt (sub body p)) (QG P f R body k) (fun w' => HOk ρ β (maskH ks g.H) w' ∧ Sub s w') ((opsAt (sub body p)).size - done.length) (listedOf (opsAt (sub body p)).size done) a w
  | todo => Goes P f R (todo.map (itemOf body)) a w
def ReachX (w0 : World) (s0 : Hp) (X : Fx) (g : Cfg) (ρ : Env) (s : Hp) : Prop := ∀ β a w, Rel w0 s0 X ρ s β g a w → GoesG P f R body ρ β s g a w
end
/-- Of a plain function. -/
abbrev Reach (P : Program) (f : FuncId) (R : Ending → World → Prop) (body : Code) (w0 : World) (s0 : Hp) (m0 : MS) (g : Cfg) (ρ : Env) (s : Hp) : Prop := ReachX P (f, none) R body w0 s0 (Xm (blks m0) []) g ρ s
section
variable {P : Program} {c : Ctx} {f : Fr} {fnc : Func} {fn : FnC} {w0 : World} {s0 : Hp} {X : Fx} {Q : Value → Hp → MS → Prop} {T : Cfg → Env → Hp → Prop}
theorem exit_spec (body : Code) (id : Nat) : ∀ (k k' : List PI), exitPI id k = some k' → exitTo id (k.map (itemOf body)) = some (k'.map (itemOf body))
  | [], k', h => by simp [exitPI] at h
  | x :: k, k', h => by
    cases x <;> simp only [exitPI] at h <;> simp only [List.map_cons, itemOf, exitTo]
    case inBlock id' =>
      split at h
      · rename_i he; rw [if_pos he]; simp only [Option.some.injEq] at h; rw [h]
      · rename_i he; rw [if_neg he]; exact exit_spec body id k k' h
    all_goals first | (exact exit_spec body id k k' h) | (simp at h)
theorem goes_draw {R : Ending → World → Prop} {id : Nat} {ops : Array Oper} {S : World → Prop} {k : List Item} {a : Act} {w : World} (hm : P.follows .mixedOrders = true)
    (hnd : f.2 = none ∨ ∀ (i : Nat) (o : Oper), ops[i]? = some o → isDefer o = false)
    (h : wpAnyH P .any ops (fun e a w => e = .normal ∧ Goes P f R k a w) S ops.size (Array.replicate ops.size false) a { w with drawn := w.drawn + 1 }) : Goes P f R (.code (.region id ops true) :: k) a w := by
  intro cs hcs
  have h2 := wpAny_of_held _ _ _ _ h
  have h3 : ∀ t, wpOps P ops (fun e a w => e = .normal ∧ Goes P f R k a w) (Region.schedule (P.follows .mixedOrders) ops t) a { w with drawn := w.drawn + 1 } := fun t => by
    simp only [Region.schedule, hm, Bool.true_or, if_true]
    exact wpAny_sound ops.size t _ a _ h2
  obtain ⟨e, w1, m, r, c, hl⟩ := Goes.ops hnd (h3 (w.tape w.drawn (.order (atF f).fn id))) cs hcs
  exact ⟨e, w1, m, r, .of_steps (.one stepR_region_draw) c, hl⟩
theorem Rel.drew {ρ s β} {g : Cfg} {a : Act} {w : World} (h : Rel w0 s0 X ρ s β g a w) : Rel w0 s0 X ρ s β g a { w with drawn := w.drawn + 1 } :=
  h.grow (w' := { w with drawn := w.drawn + 1 }) ⟨rfl, rfl, rfl, Nat.le_refl _, fun _ _ => rfl⟩ (Hp.le_refl _) (fun b o u hu => h.sb b o u hu) (fun b o u h1 h2 => by rw [h1] at h2; simp at h2)
theorem Rel.setsl {ρ s β} {g : Cfg} {a : Act} {w : World} (h : Rel w0 s0 X ρ s β g a w) {d : Nat} {v v' : SV} (hd : g.sl[d]? = some v) (hv : v'.den ρ β = v.den ρ β) :
    Rel w0 s0 X ρ s β { g with sl := g.sl.set d v' } a w := by
  refine ⟨?_, h.df, h.sz, h.kp, h.ms, h.fs, h.ci, h.cb, h.cv, h.cj, h.ok, h.bel, h.sb, h.nw, h.le, h.bl, h.sp⟩
  rw [h.tm]
  apply congrArg
  simp only [SV.dens_map]
  rw [List.map_set, hv]
  symm
  apply List.ext_getElem?
  intro j
  rw [List.getElem?_set]
  split
  · rename_i hj; subst hj
    obtain ⟨h1, h2⟩ := List.getElem?_eq_some_iff.1 hd
    simp [h1, h2]
  · rfl
def resOne (tmps : Array Value) : ResultVar → Sem Value
  | .tmp t => pure (tmps.getD t undef)
  | .cell a t => do loadVar t (← asAddr (tmps.getD a undef))
theorem results_eq (fn : Func) (tmps : Array Value) : results fn tmps = (fn.results.mapM (resOne tmps) >>= fun vs => pure (if h : vs.size = 1 then vs[0] else .tuple vs)) := by
  unfold results
  congr 1
theorem results_den (hP : ProgOk P c) {ρ : Env} {β : Nat → Nat} {sl : List SV} {H : List Blk} {a : Act} (ha : a.tmps = (SV.dens ρ β sl).toArray) {w : World} (hH : HOk ρ β H w) :
    ∀ (l : List ResultVar) (vs : List SV), resultSV sl H c.tab l = some vs → (l.mapM (resOne a.tmps)).run P w = .ok (SV.dens ρ β vs) w
  | [], vs, h => by simp only [resultSV, Option.some.injEq] at h; subst h; simp [SV.dens]
  | .tmp t :: l, vs, h => by
    simp only [resultSV] at h
    split at h
    · rename_i v vs' h1 h2
      simp only [Option.some.injEq] at h; subst h
      have ih := results_den hP ha hH l vs' h2
      have ht : a.tmps.getD t undef = v.den ρ β := ev_den (x := .tmp t) (by simpa [ev] using h1) ha
      have h0 : (resOne a.tmps (.tmp t)).run P w = .ok (v.den ρ β) w := by simp only [resOne, ht, Sem.run_pure]
      simp only [List.mapM_cons, Sem.run_bind, Sem.run_pure, h0, Result.andThen_ok, ih, SV.dens]
    · simp at h
  | .cell x t :: l, vs, h => by
    simp only [resultSV] at h
    split at h
    · rename_i k off i vs' h1 h2 h3
      have ih := results_den hP ha hH l vs' h3
      have hx : a.tmps.getD x undef = (SV.ptr k off).den ρ β := ev_den (x := .tmp x) (by simpa [ev] using h1) ha
      split at h
      case h_2 => simp at h
      rename_i cs T hk
      have key : ∀ v, partSV i cs off = some v → vs = v :: vs' → (List.mapM (resOne a.tmps) (ResultVar.cell x t :: l)).run P w = .ok (SV.dens ρ β vs) w := by
        intro v hv he
        subst he
        have hl := run_own (hP.tab _ _ h2) (ρ := ρ) (β := β) hv w (hH _ _ _ hk)
        have h0 : (resOne a.tmps (.cell x t)).run P w = .ok (v.den ρ β) w := by simp only [resOne, hx, SV.den, asAddr, Sem.run_bind, Sem.run_pure, Result.andThen_ok, hl]
        simp only [List.mapM_cons, Sem.run_bind, Sem.run_pure, h0, Result.andThen_ok, ih, SV.dens]
      split at h
      · rename_i hagg
        split at h
        · rename_i hle
          simp only [Option.some.injEq] at h
          exact key _ (by simp [partSV, hagg, hle]) h.symm
        · simp at h
      · rename_i hagg
        split at h
        · rename_i v hv
          simp only [Option.some.injEq] at h
          exact key v (by simp only [partSV, hagg]; simpa using hv) h.symm
        · simp at h
    · simp at h
theorem take_get_of {α : Type} {l : List α} {n i : Nat} {x : α} (h : (l.take n)[i]? = some x) : l[i]? = some x := by
  rw [List.getElem?_take] at h
  split at h
  · exact h
  · cases h
theorem ret_sound {f : FuncId} (hP : ProgOk P c) {Ds : List Nat} {m0 : MS} (hE : X.E = blks m0) (hds : X.ds = Ds.map markOf) (hm : MarksOk w0 Ds) (hK : ∀ D ∈ Ds, X.K (D, .deferred (some []))) (hf : P.funcs[f]? = some fnc) (hres : fn.res = fnc.results.toList) {g : Cfg} {ρ : Env} {s : Hp} {β : Nat → Nat} {a : Act} {w : World} (h : Rel w0 s0 X ρ s β g a w)
    (hvc : VC P Q T (retOut c fn g) ρ s) {todo : List Item} (ht : todo = [] ∨ ∃ k, todo = .code .ret :: k) : Goes P (f, none) (Ret Q s0 m0 w0) todo a w := by
  unfold retOut at hvc
  split at hvc
  case h_2 => exact hvc.elim
  rename_i vs hvs
  have hdf : ∀ D ∈ Ds, w.heap[D]? = some (.deferred (some [])) := fun D hD => (h.kp _ (.inl (hK D hD))).is
  have facts := fun s1 (hs1 : Sub s1 w) => shutMarks_facts (s := s1) Ds w hm.nd hm.ge hdf h.bel hs1
  have hok : HOk ρ β g.H (shutMarks Ds w) := fun k cs T hk => by
    rw [(facts s h.sb).2.2 _ (fun hD => by have := hdf _ hD; rw [h.hok k cs T hk] at this; simp at this)]
    exact h.hok k cs T hk
  have hr := results_den (P := P) hP h.tm hok _ _ hvs
  have hrun : (results fnc a.tmps).run P (shutMarks Ds w) = .ok ((tupOf vs).den ρ β) (shutMarks Ds w) := by
    rw [results_eq, Sem.run_bind, Array.mapM_eq_mapM_toList, ← hres]
    simp only [Sem.run_map, hr, Result.andThen_ok, Sem.run_pure]
    match vs with
    | [] => simp [tupOf, SV.den, SV.dens]
    | [v] => simp [tupOf, SV.dens]
    | v1 :: v2 :: vs => simp [tupOf, SV.den, SV.dens]
  refine goes_retMarks ht hf (h.df.trans hds) hm.nd hdf hrun ?_
  have hmD : ∀ i, i ∈ blks ρ.m → i ∉ Ds := fun i hi hD => h.ms.dk _ (hK i hD) hi
  have fin : ∀ (s1 : Hp) (H' : List Blk), s.le s1 → Rel w0 s0 X ρ s1 β { g with H := H' } a w → HShut ρ β H' s1 → VC P Q T (.ret c.gen (tupOf vs) H') ρ s → Ret Q s0 m0 w0 (.returned ((tupOf vs).den ρ β)) (shutMarks Ds w) := by
    intro s1 H' hs1 hrel hsh hvc
    have hk0 : ρ.k = m0.length := by rw [← hrel.ms.ek, hE]; simp [blks]
    have hpos : ∀ (m' : MS), (∀ (i : Nat) x, m'[i]? = some x → ρ.m[i]? = some x) → ∀ (i : Nat) x, m'[i]? = some x → (∃ y, m0[i]? = some y ∧ y.1 = x.1) ∨ w0.heap.size ≤ x.1 := by
      intro m' hm' i x hx
      have hx := hm' i x hx
      rcases Nat.lt_or_ge i ρ.k with hlt | hge
      · rcases hrel.ms.ck i x hlt hx with h1 | h1
        · rw [hE] at h1
          simp only [blks, List.getElem?_map, Option.map_eq_some_iff] at h1
          exact .inl h1
        · exact .inr h1
      · exact .inr (hrel.ms.nw i x hge hx)
    cases hg : c.gen with
    | true =>
      rw [hg] at hvc
      obtain ⟨f1, f2, f3⟩ := facts s1 hrel.sb
      have hq := hvc β s1 hs1 hsh (by simp)
      simp only [if_true] at hq
      refine ⟨_, s1, ρ.m, rfl, by rw [← hE]; exact f1, hrel.le, f2, hrel.nw, ⟨?_, hpos ρ.m (fun i x h => h)⟩, ⟨hrel.ms.nd, fun x hx => ?_, hrel.mok.un⟩, hq⟩
      · rw [← hk0]; exact hrel.ms.kl
      · rw [f3 _ (hmD _ (List.mem_map.2 ⟨x, hx, rfl⟩))]; exact hrel.mok.is x hx
    | false =>
      rw [hg] at hvc
      obtain ⟨t1, t2, t3, t4, t5⟩ := hrel.tell
      obtain ⟨f1, f2, f3⟩ := facts _ t2
      have hq := hvc β _ (Hp.le_trans hs1 t1) (hsh.mono t1) (fun _ => t3)
      simp only [Bool.false_eq_true, if_false] at hq
      refine ⟨_, _, ρ.m.take ρ.k, rfl, by rw [← hE]; exact f1, Hp.le_trans hrel.le t1, f2, t4, ⟨?_, hpos _ (fun i x h => take_get_of h)⟩, ⟨t5.nd, fun x hx => ?_, t5.un⟩, hq⟩
      · have := hrel.ms.kl
        rw [List.length_take, ← hk0]
        exact Nat.le_min.2 ⟨Nat.le_refl _, this⟩
      rw [f3 _ (hmD _ (List.mem_map.2 ⟨x, List.mem_of_mem_take hx, rfl⟩))]; exact t5.is x hx
  split at hvc
  · exact fin s g.H (Hp.le_refl s) h (fun k cs T hk => (h.bl k _ hk).2.2.2 rfl) (fun β s' hs _ => hvc β s' hs (fun k cs T hk => by simp at hk))
  · obtain ⟨k1, k2, k3, _⟩ := h.shut (SV.ptrss vs)
    exact fin _ _ k2 k1 k3 hvc
theorem guard_known {ops : Array Oper} {sl : List SV} {o : Oper} {b : Bool} (h : guardOf ops sl o = .known b) {ρ : Env} {β : Nat → Nat} {a : Act} (ha : a.tmps = (SV.dens ρ β sl).toArray) :
    Region.wanted o (yielded ops a.tmps) = b := by
  unfold guardOf at h
  unfold Region.wanted
  split at h
  · rename_i hg
    simp only [Gd.known.injEq] at h; subst h
    simp [hg]
  · rename_i j want hg
    split at h
    · simp at h
    · rename_i d hd
      split at h
      · rename_i b' hs
        simp only [Gd.known.injEq] at h; subst h
        have : a.tmps[d]? = some (.bool b') := by rw [ha]; simp [SV.dens_map, hs, SV.den, BE.den]
        simp only [hg, yielded, hd, Option.bind_some, this]
        cases b' <;> cases want <;> rfl
      · simp at h
      · rename_i hs
        simp only [Gd.known.injEq] at h; subst h
        have : a.tmps[d]? = some undef := by rw [ha]; simp [SV.dens_map, hs, SV.den]
        simp only [hg, yielded, hd, Option.bind_some, this]
        rfl
      · simp at h
theorem guard_on {ops : Array Oper} {sl : List SV} {o : Oper} {d : Nat} {b : BE} (h : guardOf ops sl o = .on d b) : sl[d]? = some (.bool b) := by
  unfold guardOf at h
  split at h
  · simp at h
  · split at h
    · simp at h
    · split at h
      · simp at h
      · rename_i hs _
        simp only [Gd.on.injEq] at h
        obtain ⟨rfl, rfl⟩ := h
        assumption
      · simp at h
      · simp at h
theorem listed_getD (n : Nat) (done : List Nat) (j : Nat) (d : Bool) : (listedOf n done).getD j d = if j < n then (maskOf done).testBit j else d := by
  simp only [listedOf, Array.getD_eq_getD_getElem?, List.getElem?_toArray, List.getElem?_map]
  split
  · rename_i h; rw [List.getElem?_range h]; rfl
  · rename_i h; rw [List.getElem?_eq_none (by simp; omega)]; rfl
theorem rmask_eq (ops : Array Oper) (o : Oper) (d : Nat) : (rmask ops o).testBit d = (o.looksAt ops).contains d := by
  have key : ∀ (l : List Nat) (m : Nat), (l.foldl (fun m t => m ||| (1 <<< t)) m).testBit d = (m.testBit d || l.contains d) := by
    intro l
    induction l with
    | nil => intro m; simp
    | cons t l ih =>
      intro m
      rw [List.foldl_cons, ih, Nat.testBit_or, Nat.one_shiftLeft, Nat.testBit_two_pow, List.contains_cons, Bool.or_assoc]
      congr 2
      by_cases h : t = d
      · subst h; simp
      · have : (d == t) = false := by simp [Ne.symm h]
        simp [h, this]
  unfold rmask
  rw [key]; simp
theorem apartF_eq {ops : Array Oper} {x y : Oper} (h : apartF ops x y = true) : x.apart ops y = true := by
  unfold apartF at h
  unfold Oper.apart
  cases hx : x.dst <;> cases hy : y.dst <;> simp only [hx, hy, rmask_eq, Bool.and_eq_true, Bool.not_eq_true', Bool.true_and, Bool.and_true, and_true, true_and] at h ⊢
  · exact h
  · simpa using h
  · refine ⟨⟨h.1.1, ?_⟩, h.2⟩
    rename_i a b
    have h2 : ¬ b = a := by
      intro he; subst he
      simp at h
    simpa using h2
theorem freeF_eq {ops : Array Oper} {done : List Nat} {i : Nat} (h : freeF ops done i = true) : Region.free .any ops (listedOf ops.size done) i = true := by
  unfold freeF at h
  unfold Region.free
  split at h
  · cases h
  · rename_i oi hi
    simp only [hi]
    rw [List.all_eq_true] at h ⊢
    intro j hj
    have hj := List.mem_range.1 hj
    have hoj : ops[j]? = some ops[j] := Array.getElem?_eq_getElem hj
    have hm : (ops[j], j) ∈ ops.toList.zipIdx := by
      rw [List.mem_iff_getElem?]
      exact ⟨j, by simp [List.getElem?_zipIdx, hoj]⟩
    have h1 := h _ hm
    simp only [Bool.or_eq_true] at h1
    simp only [hoj, listed_getD, hj, if_true, Bool.or_eq_true]
    rcases h1 with ((h1 | h1) | h1) | h1
    · exact .inl (.inl (by have := Nat.eq_of_beq_eq_true h1; simp [this]))
    · exact .inl (.inr h1)
    · refine .inr (.inl ?_)
      rw [← Array.any_toList]
      rw [List.any_eq_true] at h1 ⊢
      obtain ⟨e, he, hb⟩ := h1
      simp only [Bool.and_eq_true] at hb
      exact ⟨e, he, by simp only [Bool.and_eq_true, hb.1, true_and]; have := Nat.eq_of_beq_eq_true hb.2; simp [this]⟩
    · exact .inr (.inr (apartF_eq h1))
theorem readyF_eq (ops : Array Oper) (done : List Nat) : readyF ops done = Region.ready .any ops (listedOf ops.size done) := by
  unfold readyF Region.ready
  refine List.filter_congr (fun i hi => ?_)
  have hi := List.mem_range.1 hi
  have hoi : ops[i]? = some ops[i] := Array.getElem?_eq_getElem hi
  simp only [hoi, listed_getD, hi, if_true, Option.map_some, Option.getD_some, ← Array.all_toList]
  congr 1
  congr 1
  funext e
  congr 1
  by_cases h : e.on < ops.size
  · simp [h, Nat.blt_eq]
  · have : Nat.blt e.on ops.size = false := by
      cases hb : Nat.blt e.on ops.size with
      | false => rfl
      | true => rw [Nat.blt_eq] at hb; exact absurd hb h
    simp [h, this]
theorem noSelectF_eq {ops : Array Oper} (h : noSelectF ops = true) : Region.noSelect ops = true := by
  unfold noSelectF at h
  unfold Region.noSelect
  rw [← Array.all_toList]; exact h
theorem listed_nil (n : Nat) : listedOf n [] = Array.replicate n false := by
  apply Array.ext'
  simp only [listedOf, maskOf, List.foldl_nil, Nat.zero_testBit, List.map_const', List.length_range, Array.toList_replicate]
theorem listed_snoc (n : Nat) (done : List Nat) (i : Nat) : listedOf n (done ++ [i]) = (listedOf n done).setIfInBounds i true := by
  apply Array.ext'
  apply List.ext_getElem?
  intro j
  simp only [listedOf, maskOf, List.foldl_append, List.foldl_cons, List.foldl_nil, Array.toList_setIfInBounds, List.getElem?_map, List.getElem?_set, List.length_map, List.length_range, Nat.testBit_or]
  by_cases hj : j < n
  · rw [List.getElem?_range hj]
    simp only [Option.map_some]
    have h1 : (1 <<< i).testBit j = decide (i = j) := by
      rw [Nat.one_shiftLeft, Nat.testBit_two_pow]
    rw [h1]
    by_cases hij : i = j
    · subst hij; simp [hj]
    · simp [hij]
  · rw [List.getElem?_eq_none (by simp; omega)]
    simp only [Option.map_none]
    split
    · rename_i h; subst h; simp [hj]
    · rfl
theorem hok_mask {ρ : Env} {β : Nat → Nat} {H : List Blk} {w : World} (h : HOk ρ β H w) (ks : List Nat) : HOk ρ β (maskH ks H) w := fun k cs T hk => by
  rw [getBlk_mask] at hk
  split at hk
  · exact h k cs T hk
  · simp at hk
/-- How a frame's end is known: it is left to the leaves; or it is a plain function's, with the marks of its loops. -/
def EndOk (P : Program) (c : Ctx) (fn : FnC) (f : Fr) (X : Fx) (R : Ending → World → Prop) (Q : Value → Hp → MS → Prop) (s0 : Hp) (w0 : World) : Prop :=
  c.leaf = true ∨ ∃ (f' : FuncId) (fnc : Func) (Ds : List Nat) (m0 : MS), f = (f', none) ∧ X.E = blks m0 ∧ X.ds = Ds.map markOf ∧ MarksOk w0 Ds ∧ (∀ D ∈ Ds, X.K (D, .deferred (some []))) ∧ R = Ret Q s0 m0 w0 ∧ P.funcs[f']? = some fnc ∧ fn.res = fnc.results.toList
theorem EndOk.marks {f' : FuncId} (m0 : MS) (Ds : List Nat) (hm : MarksOk w0 Ds) (hf : P.funcs[f']? = some fnc) (hres : fn.res = fnc.results.toList) : EndOk P c fn (f', none) (Xm (blks m0) Ds) (Ret Q s0 m0 w0) Q s0 w0 :=
  .inr ⟨f', fnc, Ds, m0, rfl, rfl, rfl, hm, fun D hD => ⟨hD, rfl⟩, rfl, hf, hres⟩
theorem wpAnyH_mono {md : Region.Mode} {ops : Array Oper} {Qx : Exit → Act → World → Prop} {S S' : World → Prop} (h : ∀ w, S w → S' w) : ∀ (fuel : Nat) (listed : Array Bool) (a : Act) (w : World), wpAnyH P md ops Qx S fuel listed a w → wpAnyH P md ops Qx S' fuel listed a w
  | 0, _, _, _, k => k
  | fuel + 1, _, _, _, k => ⟨k.1, fun i hi => wpOp_mono (fun a' w' h' => ⟨h w' h'.1, wpAnyH_mono h fuel _ a' w' h'.2⟩) (k.2 i hi)⟩
theorem Rel.mapsl {ρ s β} {g : Cfg} {a : Act} {w : World} (h : Rel w0 s0 X ρ s β g a w) {k : IntKind} {e : IE} {j : Nat} (he : e.den ρ = (j : Int)) :
    Rel w0 s0 X ρ s β { g with sl := g.sl.map fun v => if SV.beq v (.int k e) then .int k (.l j) else v } a w := by
  refine ⟨?_, h.df, h.sz, h.kp, h.ms, h.fs, h.ci, h.cb, h.cv, h.cj, h.ok, h.bel, h.sb, h.nw, h.le, h.bl, h.sp⟩
  rw [h.tm]
  apply congrArg
  simp only [SV.dens_map, List.map_map]
  apply List.map_congr_left
  intro v _
  simp only [Function.comp]
  split
  · rename_i hb
    rw [SV.eq_of_beq _ _ hb]
    simp only [SV.den, IE.den, he]
  · rfl
theorem splitOf_get {c : Ctx} {sl : List SV} {o : Oper} {d : Nat} {k : IntKind} {e : IE} {n : Nat} (h : splitOf c sl o = some (d, k, e, n)) : sl[d]? = some (.int k e) := by
  unfold splitOf at h
  split at h
  case h_3 => simp at h
  all_goals
    split at h
    · simp at h
    · rename_i hd
      split at h
      · split at h
        · simp only [Option.some.injEq, Prod.mk.injEq] at h
          obtain ⟨rfl, rfl, rfl, rfl⟩ := h
          exact hd
        · simp at h
      · simp at h
    · simp at h
theorem split_vc {g : Cfg} {d : Nat} {k : IntKind} {e : IE} {r : Cfg → Out} {ρ : Env} {s : Hp} : ∀ m, VC P Q T (splitOut g d k e r m) ρ s → ∃ j : Nat, e.den ρ = (j : Int) ∧ VC P Q T (r { g with sl := g.sl.map fun v => if SV.beq v (.int k e) then .int k (.l j) else v }) ρ s
  | 0, h => h.elim
  | m + 1, h => by
    have h : ((BE.eq e (.l m)).den ρ = true → VC P Q T (r { g with sl := g.sl.map fun v => if SV.beq v (.int k e) then .int k (.l m) else v }) ρ s) ∧ ((BE.eq e (.l m)).den ρ = false → VC P Q T (splitOut g d k e r m) ρ s) := h
    cases hb : (BE.eq e (.l m)).den ρ with
    | true => exact ⟨m, by simpa [BE.den, IE.den, eqB_true] using hb, h.1 hb⟩
    | false => exact split_vc m (h.2 hb)
theorem goes_of {R : Ending → World → Prop} {body : Code} {ρ : Env} {β : Nat → Nat} {s : Hp} {g : Cfg} {a : Act} {w : World} (h : GoesG P f R body ρ β s g a w) (h2 : ∀ p d ks k, g.todo ≠ .dreg p d ks :: k) : Goes P f R (g.todo.map (itemOf body)) a w := by
  unfold GoesG at h
  split at h
  · rename_i p d ks k he
    exact absurd he (h2 _ _ _ _)
  · exact h
theorem find_if {α : Type} {b : Bool} {p : α → Bool} {l : List α} {i : α} (h : (if b = true then none else l.find? p) = some i) : l.find? p = some i := by
  split at h
  · cases h
  · exact h
theorem runX_sound {R : Ending → World → Prop} (hP : ProgOk P c)
    (hend : EndOk P c fn f X R Q s0 w0)
    (hnd : f.2 = none ∨ ∀ p (i : Nat) (o : Oper), (opsAt (sub fn.body p))[i]? = some o → isDefer o = false)
    (hT : ∀ g ρ s, T g ρ s → ReachX P f R fn.body w0 s0 X g ρ s) :
    ∀ (n : Nat) (g : Cfg) (ρ : Env) (s : Hp), VC P Q T (run c fn n g) ρ s → ReachX P f R fn.body w0 s0 X g ρ s := by
  intro n
  induction n with
  | zero => intro g ρ s h; exact h.elim
  | succ n ih =>
    intro g ρ s hvc β a w h
    have goto : ∀ {g' : Cfg} {t : List Item}, (∀ cs, Steps P (lone ((atF f).atR a t) cs w) (lone ((atF f).atR a (g'.todo.map (itemOf fn.body))) cs w)) →
        GoesG P f R fn.body ρ β s g' a w → (∀ p d ks k, g'.todo ≠ .dreg p d ks :: k) → Goes P f R t a w :=
      fun hs hg h2 => Goes.step hs (goes_of hg h2)
    have ite : ∀ {b : BE} {x y : Out}, VC P Q T (.ite b x y) ρ s → (b.den ρ = true ∧ VC P Q T x ρ s) ∨ (b.den ρ = false ∧ VC P Q T y ρ s) := by
      intro b x y hv
      cases hb : b.den ρ with
      | true => exact .inl ⟨rfl, hv.1 hb⟩
      | false => exact .inr ⟨rfl, hv.2 hb⟩
    obtain ⟨todo, sl, H, ni, nb, nv, nj, fs⟩ := g
    unfold run at hvc
    simp only at hvc
    split at hvc
    case isTrue => exact hvc.elim
    rename_i hnoD
    have nod : ∀ (k : List PI), (∀ x ∈ k, x.isD = false) → ∀ p d ks k', k ≠ .dreg p d ks :: k' := by
      intro k hk p d ks k' he
      have := hk (.dreg p d ks) (by rw [he]; simp)
      simp [PI.isD] at this
    have hk : ∀ x ∈ todo.drop 1, x.isD = false := by
      intro x hx
      cases hd : x.isD with
      | false => rfl
      | true => exact absurd (List.any_eq_true.2 ⟨x, hx, hd⟩) hnoD
    split at hvc
    ·
      split at hvc
      · exact hT _ _ _ hvc β a w h
      · rename_i hl
        rcases hend with h0 | ⟨f', fnc, Ds, m0, rfl, hE, hds, hm, hK, rfl, hf, hres⟩
        · exact absurd h0 hl
        · exact ret_sound hP hE hds hm hK hf hres h hvc (.inl rfl)
    · exact hT _ _ _ hvc β a w h
    · rename_i id k
      exact goto (fun cs => .one stepR_inBlock) (ih _ _ _ hvc β a w (h.todo k)) (nod k hk)
    · rename_i p k
      exact goto (fun cs => .one (step_lone_go (by simp [stepG, stepG.exec, Frame.atR, itemOf]))) (ih _ _ _ hvc β a w (h.todo k)) (nod k hk)
    · rename_i p k
      exact goto (fun cs => .one stepR_region_end) (ih _ _ _ hvc β a w (h.todo k)) (nod k hk)
    ·
      rename_i p k
      have hk' : ∀ x ∈ (PI.code p :: .inLoop p :: k), x.isD = false := by
        intro x hx
        simp only [List.mem_cons] at hx
        rcases hx with rfl | rfl | hx
        · rfl
        · rfl
        · exact hk x hx
      have hsub : ∀ cs, Steps P (lone ((atF f).atR a (.inLoop (sub fn.body p) :: k.map (itemOf fn.body))) cs w) (lone ((atF f).atR a ((PI.code p :: .inLoop p :: k).map (itemOf fn.body))) cs w) := fun cs => .one stepR_inLoop
      split at hvc
      · exact goto (g' := { todo := .code p :: .inLoop p :: k, sl := sl, H := H, ni := ni, nb := nb, nv := nv, nj := nj, fs := fs }) hsub (hT _ _ _ hvc β a w (h.todo _)) (nod _ hk')
      · exact goto (g' := { todo := .code p :: .inLoop p :: k, sl := sl, H := H, ni := ni, nb := nb, nv := nv, nj := nj, fs := fs }) hsub (ih _ _ _ hvc β a w (h.todo _)) (nod _ hk')
    ·
      rename_i p k
      have hk1 : ∀ (x : PI), x.isD = false → ∀ y ∈ (x :: k), y.isD = false := by
        intro x hx y hy
        rcases List.mem_cons.1 hy with rfl | hy
        · exact hx
        · exact hk y hy
      have hk2 : ∀ (x z : PI), x.isD = false → z.isD = false → ∀ y ∈ (x :: z :: k), y.isD = false := by
        intro x z hx hz y hy
        rcases List.mem_cons.1 hy with rfl | hy
        · exact hx
        · exact hk1 z hz y hy
      show Goes P f _ (.code (sub fn.body p) :: k.map (itemOf fn.body)) a w
      split at hvc
      · rename_i hs; rw [hs]
        exact goto (fun cs => .one stepR_skip) (ih _ _ _ hvc β a w (h.todo k)) (nod k hk)
      · rename_i l hs; rw [hs]
        exact goto (fun cs => .one stepR_label) (ih _ _ _ hvc β a w (h.todo k)) (nod k hk)
      · rename_i x y hs
        have e1 : sub fn.body (false :: p) = x := by simp [sub, hs, child]
        have e2 : sub fn.body (true :: p) = y := by simp [sub, hs, child]
        rw [hs]
        have hst : ∀ cs, Steps P (lone ((atF f).atR a (.code (.seq x y) :: k.map (itemOf fn.body))) cs w) (lone ((atF f).atR a ((PI.code (false :: p) :: .code (true :: p) :: k).map (itemOf fn.body))) cs w) := by
          intro cs
          refine .one ?_
          simp only [List.map_cons, itemOf, e1, e2]
          exact stepR_seq
        split at hvc
        · exact goto (g' := { todo := .code (false :: p) :: .code (true :: p) :: k, sl := sl, H := H, ni := ni, nb := nb, nv := nv, nj := nj, fs := fs }) hst (hT _ _ _ hvc β a w (h.todo _)) (nod _ (hk2 _ _ rfl rfl))
        · exact goto (g' := { todo := .code (false :: p) :: .code (true :: p) :: k, sl := sl, H := H, ni := ni, nb := nb, nv := nv, nj := nj, fs := fs }) hst (ih _ _ _ hvc β a w (h.todo _)) (nod _ (hk2 _ _ rfl rfl))
      · rename_i x y z hs
        have e1 : sub fn.body (false :: p) = y := by simp [sub, hs, child]
        have e2 : sub fn.body (true :: p) = z := by simp [sub, hs, child]
        rw [hs]
        have cond : ∀ b : Bool, a.eval x = .bool b → ∀ cs, Steps P (lone ((atF f).atR a (.code (.cond x y z) :: k.map (itemOf fn.body))) cs w) (lone ((atF f).atR a ((PI.code ((!b) :: p) :: k).map (itemOf fn.body))) cs w) := by
          intro b hb cs
          refine .one ?_
          rw [stepR_cond hb]
          cases b <;> simp [itemOf, e1, e2]
        split at hvc
        · rename_i b hb
          exact goto (cond b (ev_den hb h.tm)) (ih _ _ _ hvc β a w (h.todo _)) (nod _ (hk1 _ rfl))
        · rename_i b _ hb
          have hev := ev_den hb h.tm
          rcases ite hvc with ⟨hb', hv⟩ | ⟨hb', hv⟩
          · simp only [SV.den, hb'] at hev
            exact goto (cond true hev) (ih _ _ _ hv β a w (h.todo _)) (nod _ (hk1 _ rfl))
          · simp only [SV.den, hb'] at hev
            exact goto (cond false hev) (ih _ _ _ hv β a w (h.todo _)) (nod _ (hk1 _ rfl))
        · exact hvc.elim
      · rename_i id x hs
        have e1 : sub fn.body (false :: p) = x := by simp [sub, hs, child]
        rw [hs]
        refine goto (fun cs => .one ?_) (ih _ _ _ hvc β a w (h.todo _)) (nod _ (hk2 _ _ rfl rfl))
        simp only [List.map_cons, itemOf, e1]
        exact stepR_block
      · rename_i x hs
        have e1 : sub fn.body (false :: p) = x := by simp [sub, hs, child]
        rw [hs]
        have hst : ∀ cs, Steps P (lone ((atF f).atR a (.code (.loop x) :: k.map (itemOf fn.body))) cs w) (lone ((atF f).atR a ((PI.code (false :: p) :: .inLoop (false :: p) :: k).map (itemOf fn.body))) cs w) := by
          intro cs
          simp only [List.map_cons, itemOf, e1]
          exact .one stepR_loop
        split at hvc
        · exact goto (g' := { todo := .code (false :: p) :: .inLoop (false :: p) :: k, sl := sl, H := H, ni := ni, nb := nb, nv := nv, nj := nj, fs := fs }) hst (hT _ _ _ hvc β a w (h.todo _)) (nod _ (hk2 _ _ rfl rfl))
        · exact goto (g' := { todo := .code (false :: p) :: .inLoop (false :: p) :: k, sl := sl, H := H, ni := ni, nb := nb, nv := nv, nj := nj, fs := fs }) hst (ih _ _ _ hvc β a w (h.todo _)) (nod _ (hk2 _ _ rfl rfl))
      · rename_i x hs
        have e1 : sub fn.body (false :: p) = x := by simp [sub, hs, child]
        rw [hs]
        refine goto (fun cs => .one ?_) (ih _ _ _ hvc β a w (h.todo _)) (nod _ (hk2 _ _ rfl rfl))
        simp only [List.map_cons, itemOf, e1]
        exact step_lone_go (by simp [stepG, stepG.exec, Frame.atR])
      · rename_i id hs
        rw [hs]
        split at hvc
        · rename_i k' hk'
          have hmem : ∀ (k k' : List PI), exitPI id k = some k' → ∀ x ∈ k', x ∈ k := by
            intro k
            induction k with
            | nil => intro k' h; simp [exitPI] at h
            | cons y k ihk =>
              intro k' h x hx
              cases y <;> simp only [exitPI] at h
              case inBlock id' =>
                split at h
                · simp only [Option.some.injEq] at h; subst h; simp [hx]
                · simp [ihk _ h x hx]
              all_goals first | (simp at h; done) | (simp [ihk _ h x hx])
          exact goto (fun cs => .one (stepR_exit (exit_spec fn.body id _ _ hk'))) (ih _ _ _ hvc β a w (h.todo k')) (nod k' (fun x hx => hk x (hmem _ _ hk' x hx)))
        · split at hvc
          · have := hT _ _ _ hvc β a w h
            simp only [GoesG, List.map_cons, itemOf, hs] at this
            exact this
          · exact hvc.elim
      · rename_i hs
        rw [hs]
        split at hvc
        · have := hT _ _ _ hvc β a w h
          simp only [GoesG, List.map_cons, itemOf, hs] at this
          exact this
        · rename_i hl
          rcases hend with h0 | ⟨f', fnc, Ds, m0, rfl, hE, hds, hm, hK, rfl, hf, hres⟩
          · exact absurd h0 hl
          · exact ret_sound hP hE hds hm hK hf hres h hvc (.inr ⟨_, rfl⟩)
      · rename_i id ops draw hs
        have e1 : opsAt (sub fn.body p) = ops := by simp [hs, opsAt]
        rw [hs]
        split at hvc
        · rename_i hd
          subst hd
          split at hvc
          · have := hT _ _ _ hvc β a w h
            simp only [GoesG, List.map_cons, itemOf, hs] at this
            exact this
          split at hvc
          case isFalse => exact hvc.elim
          rename_i hns
          refine goes_draw (S := fun w' => HOk ρ β (maskH (stableBlks ops sl H.length) H) w' ∧ Sub s w') hP.mixed (hnd.imp (fun h0 => h0) (fun h0 => by have := h0 p; rw [e1] at this; exact this)) ?_
          have := ih _ _ _ hvc β a _ ((h.drew).todo (.dreg p [] (stableBlks ops sl H.length) :: k))
          simp only [GoesG] at this
          rw [e1, listed_nil] at this
          exact this
        · rename_i hd
          have hd : draw = false := by simpa using hd
          subst hd
          refine Goes.step (fun cs => .one stepR_region) ?_
          have := ih _ _ _ hvc β a w (h.todo (.reg p (List.range ops.size) :: k))
          simp only [GoesG, List.map_cons, itemOf] at this
          rw [e1] at this
          exact this
      · exact hT _ _ _ hvc β a w h
      · exact hvc.elim
    ·
      rename_i p i is k
      show Goes P f R (.inRegion (opsAt (sub fn.body p)) (i :: is) :: k.map (itemOf fn.body)) a w
      split at hvc
      · exact hvc.elim
      rename_i o ho
      have hnd' : f.2 = none ∨ isDefer o = false := hnd.imp (fun h0 => h0) (fun h0 => h0 p i o ho)
      split at hvc
      · rename_i hg
        split at hvc
        · exact hT _ _ _ hvc β a w h
        split at hvc
        · rename_i d kd e m hsp
          obtain ⟨j, hj, hv⟩ := split_vc m hvc
          exact ih _ _ _ hv β a w (h.mapsl hj)
        · refine goes_op ho hnd' ?_
          rw [if_pos (guard_known hg h.tm)]
          refine opRun_sound hP (h.todo (.reg p is :: k)) hvc ?_
          intro ρ' s' β' g' a' w' hv hr _ htd _
          have := ih _ _ _ hv β' a' w' hr
          unfold GoesG at this
          rw [htd] at this
          exact this
      · rename_i hg
        have := guard_known hg h.tm
        refine goes_op ho hnd' ?_
        rw [if_neg (by rw [this]; simp)]
        have h2 := (h.todo (.reg p is :: k)).put o.dst .undef
        exact ih _ _ _ hvc β _ w h2
      · rename_i d b hg
        have hd := guard_on hg
        rcases ite hvc with ⟨hb', hv⟩ | ⟨hb', hv⟩
        · exact ih _ _ _ hv β a w (h.setsl hd (by simp [SV.den, BE.den, hb']))
        · exact ih _ _ _ hv β a w (h.setsl hd (by simp [SV.den, BE.den, hb']))
      · exact hvc.elim
    ·
      rename_i p done ks k
      have hSw : HOk ρ β (maskH ks H) w ∧ Sub s w := ⟨hok_mask h.hok ks, h.sb⟩
      show wpAnyH P .any (opsAt (sub fn.body p)) (QG P f R fn.body k) (fun w' => HOk ρ β (maskH ks H) w' ∧ Sub s w') ((opsAt (sub fn.body p)).size - done.length) (listedOf (opsAt (sub fn.body p)).size done) a w
      have dset : ∀ {d : Nat} {b : BE}, sl[d]? = some (.bool b) → VC P Q T (.ite b (run c fn n { todo := .dreg p done ks :: k, sl := sl.set d (.bool (.t true)), H := H, ni := ni, nb := nb, nv := nv, nj := nj, fs := fs })
          (run c fn n { todo := .dreg p done ks :: k, sl := sl.set d (.bool (.t false)), H := H, ni := ni, nb := nb, nv := nv, nj := nj, fs := fs })) ρ s →
          wpAnyH P .any (opsAt (sub fn.body p)) (QG P f R fn.body k) (fun w' => HOk ρ β (maskH ks H) w' ∧ Sub s w') ((opsAt (sub fn.body p)).size - done.length) (listedOf (opsAt (sub fn.body p)).size done) a w := by
        intro d b hd hv
        rcases ite hv with ⟨hb', hv⟩ | ⟨hb', hv⟩
        · exact ih _ _ _ hv β a w (h.setsl hd (by simp [SV.den, BE.den, hb']))
        · exact ih _ _ _ hv β a w (h.setsl hd (by simp [SV.den, BE.den, hb']))
      split at hvc
      · rename_i hr
        exact wpAnyH_done (by rw [← readyF_eq]; exact hr) ⟨rfl, goes_of (ih _ _ _ hvc β a w (h.todo k)) (nod k hk)⟩ _
      rename_i rs hne
      split at hvc
      case isTrue => exact hvc.elim
      rename_i hchk
      simp only [Bool.not_eq_true', Bool.not_eq_false, Bool.and_eq_true, decide_eq_true_eq, List.all_eq_true] at hchk
      obtain ⟨⟨hlt, hks⟩, hns⟩ := hchk
      have hns := noSelectF_eq hns
      have hfuel : (opsAt (sub fn.body p)).size - done.length = ((opsAt (sub fn.body p)).size - (done.length + 1)) + 1 := by omega
      rw [hfuel]
      have hlen : ∀ i, (done ++ [i]).length = done.length + 1 := by simp
      split at hvc
      ·
        rename_i i hfind
        split at hvc
        · exact hvc.elim
        rename_i o ho
        have hfl := List.find?_some hfind
        have hmem := List.mem_of_find?_eq_some hfind
        unfold floats at hfl
        simp only [ho, Bool.and_eq_true] at hfl
        obtain ⟨hfree, hfl⟩ := hfl
        have hfree := freeF_eq hfree
        have hready : (Region.ready .any (opsAt (sub fn.body p)) (listedOf (opsAt (sub fn.body p)).size done)).contains i = true := by rw [← readyF_eq]; simpa using hmem
        split at hvc
        · rename_i hg
          split at hvc
          · rename_i ns v hpv
            obtain ⟨hn, hvc⟩ := VC_needs P Q T _ _ _ _ hvc
            refine wpAnyH_take ho hns hfree hready (by intro c a w hq; exact absurd hq.1 (by simp)) (v := v.den ρ β) (.inl ⟨guard_known hg h.tm, fun w' hw' => run_pv hP h.ok hpv hn h.tm hw'.1⟩) hSw ?_
            have := ih _ _ _ hvc β _ w ((h.todo (.dreg p (done ++ [i]) ks :: k)).put o.dst v)
            simp only [GoesG] at this
            rw [hlen, listed_snoc] at this
            exact this
          · exact hvc.elim
        · rename_i hg
          have hoff : guardOf (opsAt (sub fn.body p)) sl o = .known false := by
            cases hgo : guardOf (opsAt (sub fn.body p)) sl o with
            | known b =>
              cases b with
              | true => exact absurd hgo hg
              | false => rfl
            | on d b => rw [hgo] at hfl; simp at hfl
            | bad => rw [hgo] at hfl; simp at hfl
          refine wpAnyH_take ho hns hfree hready (by intro c a w hq; exact absurd hq.1 (by simp)) (v := undef) (.inr ⟨guard_known hoff h.tm, rfl⟩) hSw ?_
          have := ih _ _ _ hvc β _ w ((h.todo (.dreg p (done ++ [i]) ks :: k)).put o.dst .undef)
          simp only [GoesG] at this
          rw [hlen, listed_snoc] at this
          exact this
      · split at hvc
        ·
          rename_i i hfind
          replace hfind := find_if hfind
          split at hvc
          · exact hvc.elim
          rename_i o ho
          have hfl := List.find?_some hfind
          have hmem := List.mem_of_find?_eq_some hfind
          unfold floatsL at hfl
          simp only [ho, Bool.and_eq_true] at hfl
          obtain ⟨hfree, hfl⟩ := hfl
          have hfree := freeF_eq hfree
          have hready : (Region.ready .any (opsAt (sub fn.body p)) (listedOf (opsAt (sub fn.body p)).size done)).contains i = true := by rw [← readyF_eq]; simpa using hmem
          split at hfl
          case h_2 => simp at hfl
          rename_i t x hg hop
          rw [hop] at hvc
          simp only at hvc
          split at hvc
          case h_2 => exact hvc.elim
          rename_i xs hxs
          obtain ⟨v, ρ', g', hrun, hvc', hr', hst, htd⟩ := load_sound hP (h.todo (.dreg p (done ++ [i]) ks :: k)) hop hxs hvc
          have hstab := (hst (fun _ => False)).2 ks (fun q hq => ⟨hks q hq, fun h0 => h0⟩)
          refine wpAnyH_take ho hns hfree hready (by intro c a w hq; exact absurd hq.1 (by simp)) (v := v) (.inl ⟨guard_known hg h.tm, fun w' hw' => hrun w' hw'.2 (.inl rfl)⟩) hSw ?_
          have := ih _ _ _ hvc' β _ w hr'
          unfold GoesG at this
          rw [htd] at this
          simp only at this
          rw [hlen, listed_snoc] at this
          exact wpAnyH_mono (fun w' hw' => ⟨(hstab w').1 hw'.1, hw'.2⟩) _ _ _ _ this
        split at hvc
        ·
          rename_i i hfind
          split at hvc
          · exact hvc.elim
          rename_i o ho
          have hfl := List.find?_some hfind
          have hmem := List.mem_of_find?_eq_some hfind
          unfold floatsC at hfl
          simp only [ho, Bool.and_eq_true] at hfl
          obtain ⟨hfree, hfl⟩ := hfl
          have hfree := freeF_eq hfree
          have hready : (Region.ready .any (opsAt (sub fn.body p)) (listedOf (opsAt (sub fn.body p)).size done)).contains i = true := by rw [← readyF_eq]; simpa using hmem
          have hg : guardOf (opsAt (sub fn.body p)) sl o = .known true := by
            cases hgo : guardOf (opsAt (sub fn.body p)) sl o with
            | known b =>
              cases b with
              | true => rfl
              | false => rw [hgo] at hfl; simp at hfl
            | on d b => rw [hgo] at hfl; simp at hfl
            | bad => rw [hgo] at hfl; simp at hfl
          have fin : ∀ {v : Value} {ρ' : Env} {g' : Cfg}, (∀ w', (execOp a.eval o).run P w' = .ok (.value v) w') → VC P Q T (run c fn n g') ρ' s → Rel w0 s0 X ρ' s β g' (a.put o.dst v) w →
              (∀ bad, Stab ρ β { todo := .dreg p (done ++ [i]) ks :: k, sl := sl, H := H, ni := ni, nb := nb, nv := nv, nj := nj, fs := fs } ρ' β g' bad) → g'.todo = .dreg p (done ++ [i]) ks :: k →
              wpAnyH P .any (opsAt (sub fn.body p)) (QG P f R fn.body k) (fun w' => HOk ρ β (maskH ks H) w' ∧ Sub s w') ((opsAt (sub fn.body p)).size - (done.length + 1) + 1) (listedOf (opsAt (sub fn.body p)).size done) a w := by
            intro v ρ' g' hrun hvc' hr' hst htd
            have hstab := (hst (fun _ => False)).2 ks (fun q hq => ⟨hks q hq, fun h0 => h0⟩)
            refine wpAnyH_take ho hns hfree hready (by intro c a w hq; exact absurd hq.1 (by simp)) (v := v) (.inl ⟨guard_known hg h.tm, fun w' hw' => hrun w'⟩) hSw ?_
            have := ih _ _ _ hvc' β _ w hr'
            unfold GoesG at this
            rw [htd] at this
            simp only at this
            rw [hlen, listed_snoc] at this
            exact wpAnyH_mono (fun w' hw' => ⟨(hstab w').1 hw'.1, hw'.2⟩) _ _ _ _ this
          split at hvc
          · rename_i hop
            split at hvc
            case h_2 => exact hvc.elim
            rename_i xs hxs
            obtain ⟨v, ρ', g', hrun, hvc', hr', hst, htd⟩ := cut_sound hP (h.todo (.dreg p (done ++ [i]) ks :: k)) hop hxs hvc
            exact fin hrun hvc' hr' hst htd
          · rename_i hop
            obtain ⟨v, ρ', g', hrun, hvc', hr', hst, htd⟩ := chk_sound hP (h.todo (.dreg p (done ++ [i]) ks :: k)) hop hvc
            exact fin hrun hvc' hr' hst htd
          · exact hvc.elim
        split at hvc
        · rename_i d kd e m hfs
          rw [← hfuel]
          obtain ⟨i, hi, hh⟩ := List.exists_of_findSome?_eq_some hfs
          unfold splitsAt at hh
          split at hh
          · simp at hh
          · split at hh
            · obtain ⟨j, hj, hv⟩ := split_vc m hvc
              exact ih _ _ _ hv β a w (h.mapsl hj)
            · simp at hh
        split at hvc
        · rename_i d b hfs
          rw [← hfuel]
          obtain ⟨i, hi, hh⟩ := List.exists_of_findSome?_eq_some hfs
          unfold hangs at hh
          split at hh
          · simp at hh
          · split at hh
            · rename_i hg
              simp only [Option.some.injEq, Prod.mk.injEq] at hh
              obtain ⟨rfl, rfl⟩ := hh
              exact dset (guard_on hg) hvc
            · simp at hh
        · obtain ⟨hne2, hall⟩ := VC_bothAll _ _ _ _ _ _ hvc
          refine wpAnyH_all (readyF_eq _ _).symm (by intro h0; rw [h0] at hne2; simp at hne2) ?_
          intro i hi
          have hvc := hall _ (List.mem_map.2 ⟨i, hi, rfl⟩)
          split at hvc
          · exact hvc.elim
          rename_i o ho
          split at hvc
          · rename_i hg
            split at hvc
            case isTrue => exact hvc.elim
            rename_i hbad
            unfold wpOp
            simp only [ho]
            rw [if_pos (guard_known hg h.tm)]
            refine .inl (opRun_sound hP (h.todo (.dreg p (done ++ [i]) ks :: k)) hvc ?_)
            intro ρ' s' β' g' a' w' hv hr hst htd hle
            have hstab := hst.2 ks (fun q hq => ⟨hks q hq, fun ⟨off, new, hso⟩ => by
              apply hbad
              unfold storeBad
              have hso : storeOf c sl H o.op = some (q, off, new) := hso
              simp only [hso]
              simpa using hq⟩)
            refine ⟨⟨(hstab w').1 (hok_mask hr.hok ks), fun b o u hb => hr.sb b o u (hle b o u hb)⟩, ?_⟩
            have := ih _ _ _ hv β' a' w' hr
            unfold GoesG at this
            rw [htd] at this
            simp only at this
            rw [hlen, listed_snoc] at this
            exact wpAnyH_mono (fun w'' hw'' => ⟨(hstab w'').1 hw''.1, fun b o u hb => hw''.2 b o u (hle b o u hb)⟩) _ _ _ _ this
          · exact hvc.elim
/-- Of a plain function. -/
theorem run_sound {f : FuncId} (hP : ProgOk P c) (hf : P.funcs[f]? = some fnc) (hres : fn.res = fnc.results.toList) {m0 : MS} (hT : ∀ g ρ s, T g ρ s → Reach P f (Ret Q s0 m0 w0) fn.body w0 s0 m0 g ρ s) :
    ∀ (n : Nat) (g : Cfg) (ρ : Env) (s : Hp), VC P Q T (run c fn n g) ρ s → Reach P f (Ret Q s0 m0 w0) fn.body w0 s0 m0 g ρ s :=
  runX_sound hP (EndOk.marks m0 [] (.nil _) hf hres) (.inl rfl) hT
end
end Go.Sx
namespace Go.Sx
open Go.RowKit
/-- Six integers from atom k on. -/
def b6 (k : Nat) : SV := .agg [.int .i64 (.a k), .int .i64 (.a (k + 1)), .int .i64 (.a (k + 2)), .int .i64 (.a (k + 3)), .int .i64 (.a (k + 4)), .int .i64 (.a (k + 5))]
def iA (k : Nat) : SV := .int .i64 (.a k)
def fnOf (f : Func) : FnC := ⟨f.body.getD .skip, f.results.toList⟩
def startCfg (ntmps : Nat) (args : List SV) (ni nb nv : Nat) : Cfg := { todo := [.code []], sl := args ++ List.replicate (ntmps - args.length) .undef, H := [], ni, nb, nv, nj := 0 }
theorem dens_append (ρ : Env) (β : Nat → Nat) (l m : List SV) : SV.dens ρ β (l ++ m) = SV.dens ρ β l ++ SV.dens ρ β m := by simp [SV.dens_map]
theorem dens_replicate (ρ : Env) (β : Nat → Nat) (n : Nat) : SV.dens ρ β (List.replicate n .undef) = List.replicate n undef := by simp [SV.dens_map, SV.den]
section
variable {P : Program} {c : Ctx} {f : FuncId} {fnc : Func} {fn : FnC} {Q : Value → Hp → MS → Prop}
/-- A contract out of the executor's tree. -/
theorem ct_run (hP : ProgOk P c) (hf : P.funcs[f]? = some fnc) (hb : fnc.body = some fn.body) (hres : fn.res = fnc.results.toList) (n : Nat) {args : List SV} {ρ : Env} {s0 : Hp} (hρ : ρ.Ok) (hj : ρ.j = []) (hk : ρ.k = ρ.m.length)
    (h : ∀ w0, VC P Q (Reach P f (Ret Q s0 ρ.m w0) fn.body w0 s0 ρ.m) (run c fn n (startCfg fnc.ntmps args ρ.i.length ρ.b.length ρ.v.length)) ρ s0) : Ct P f (SV.dens ρ id args) s0 ρ.m Q := by
  intro w hsub hmok
  refine calls_of_goes hf hb ?_
  have hr : Rel w s0 (Xm (blks ρ.m) []) ρ s0 id (startCfg fnc.ntmps args ρ.i.length ρ.b.length ρ.v.length) { tmps := (SV.dens ρ id args).toArray ++ Array.replicate (fnc.ntmps - (SV.dens ρ id args).toArray.size) undef, defers := [] } w := by
    refine ⟨?_, rfl, Nat.zero_le _, fun x hx => ?_, ⟨?_, ?_, by omega, hmok.nd, fun x hx => by simp [Xm] at hx, fun i x hi hx => by rw [List.getElem?_eq_none (by omega)] at hx; cases hx⟩, rfl, rfl, rfl, rfl, by simp [hj, startCfg], hρ, Grows.refl _ _, hsub, fun b o u h1 h2 => by rw [h1] at h2; simp at h2, Hp.le_refl _, fun k b hk => by simp [startCfg] at hk, fun j k bj bk _ hj => by simp [startCfg] at hj⟩
    · simp only [startCfg, dens_append, dens_replicate, List.size_toArray, dens_length]
      apply Array.ext'
      simp
    · rcases hx with hx | hx
      · simp [Xm] at hx
      · exact ⟨hmok.is x hx, fun k b hk => by simp [startCfg] at hk, hmok.un x hx⟩
    · show (blks ρ.m).length = _
      simp [blks, hk]
    · intro i x _ hx
      left
      show (blks ρ.m)[i]? = _
      simp [blks, hx]
  have := run_sound (w0 := w) (s0 := s0) hP hf hres (fun _ _ _ h => h) n _ _ _ (h w) id _ w hr
  exact this
structure Asg where
  is : List IE
  bs : List BE
  vs : List SV
  js : List SV
  deriving Inhabited
/-- The numbers of atoms that were there before the loop. -/
structure Base where
  ni : Nat
  nb : Nat
  nv : Nat
  nj : Nat
  deriving Inhabited
def Cfg.base (g : Cfg) : Base := ⟨g.ni, g.nb, g.nv, g.nj⟩
section
variable (m : Base) (A : Asg)
def vsub (n : Nat) : Option SV := if n < m.nv then some (.va n) else A.vs[n - m.nv]?
def IE.sbt : IE → Option IE
  | .a n => if n < m.ni then some (.a n) else A.is[n - m.ni]?
  | .l z => some (.l z)
  | .add x y => match x.sbt, y.sbt with | some x, some y => some (.add x y) | _, _ => none
  | .sub x y => match x.sbt, y.sbt with | some x, some y => some (.sub x y) | _, _ => none
  | .mul x y => match x.sbt, y.sbt with | some x, some y => some (.mul x y) | _, _ => none
  | .tdiv x y => match x.sbt, y.sbt with | some x, some y => some (.tdiv x y) | _, _ => none
  | .tmod x y => match x.sbt, y.sbt with | some x, some y => some (.tmod x y) | _, _ => none
  | .mn x y => match x.sbt, y.sbt with | some x, some y => some (.mn x y) | _, _ => none
  | .mx x y => match x.sbt, y.sbt with | some x, some y => some (.mx x y) | _, _ => none
  | .ifeq p q x y => match p.sbt, q.sbt, x.sbt, y.sbt with | some p, some q, some x, some y => some (.ifeq p q x y) | _, _, _, _ => none
  | .wr k x => x.sbt.map (.wr k)
  | .slen n => if n < m.nv then some (.slen n) else match A.vs[n - m.nv]? with
    | some (.va k) => some (.slen k)
    | _ => none
  | .stl n => match vsub m A n with
    | some (.va k) => some (.stl k)
    | _ => none
  | .sat n i => match vsub m A n, i.sbt with
    | some (.va k), some i => some (.sat k i)
    | _, _ => none
def BE.sbt : BE → Option BE
  | .t b => some (.t b)
  | .a n => if n < m.nb then some (.a n) else A.bs[n - m.nb]?
  | .lt x y => match x.sbt m A, y.sbt m A with | some x, some y => some (.lt x y) | _, _ => none
  | .le x y => match x.sbt m A, y.sbt m A with | some x, some y => some (.le x y) | _, _ => none
  | .eq x y => match x.sbt m A, y.sbt m A with | some x, some y => some (.eq x y) | _, _ => none
  | .not x => x.sbt.map .not
  | .and x y => match x.sbt, y.sbt with | some x, some y => some (.and x y) | _, _ => none
  | .or x y => match x.sbt, y.sbt with | some x, some y => some (.or x y) | _, _ => none
  | .nil n => if n < m.nv then some (.nil n) else match A.vs[n - m.nv]? with
    | some (.va k) => some (.nil k)
    | _ => none
  | .is q n => if n < m.nv then some (.is q n) else match A.vs[n - m.nv]? with
    | some (.va k) => some (.is q k)
    | _ => none
  | .seq n n' => match vsub m A n, vsub m A n' with
    | some (.va k), some (.va k') => some (.seq k k')
    | _, _ => none
  | .sis n l => match vsub m A n with
    | some (.va k) => some (.sis k l)
    | _ => none
mutual
def SV.sbt : SV → Option SV
  | .int k e => (e.sbt m A).map (.int k)
  | .bool b => (b.sbt m A).map .bool
  | .va n => vsub m A n
  | .junk n => if n < m.nj then some (.junk n) else A.js[n - m.nj]?
  | .ea n i size off => match vsub m A n, i.sbt m A with | some (.va k), some i => some (.ea k i size off) | _, _ => none
  | .pa n off => match vsub m A n with | some (.va k) => some (.pa k off) | _ => none
  | .agg cs => (SV.sbts cs).map .agg
  | .tup cs => (SV.sbts cs).map .tup
  | .fn f n cs => (SV.sbts cs).map (.fn f n)
  | .fs n => match vsub m A n with | some (.va k) => some (.fs k) | _ => none
  | .str s => some (.str s)
  | .undef => some .undef
  | .nilS => some .nilS
  | .nilF => some .nilF
  | .nilP => some .nilP
  | .nilI => some .nilI
  | .ptr k o => some (.ptr k o)
  | .sl k n => some (.sl k n)
  | .slc k n q => some (.slc k n q)
def SV.sbts : List SV → Option (List SV)
  | [] => some []
  | x :: l => match x.sbt, SV.sbts l with | some x, some l => some (x :: l) | _, _ => none
end
def optBeqs : Option (List SV) → List SV → Bool
  | some l, l' => SV.beqs l l'
  | none, _ => false
def blkFits : Blk → Option Blk → Bool
  | .cells cs T sh, some (.cells cs' T' sh') => optBeqs (SV.sbts m A cs) cs' && T == T' && sh == sh'
  | .row n T size, b => 0 < size && match vsub m A n with
    | some .nilS => true
    | some (.va n') => match b with
      | some (.row n2 T' size') => n2 == n' && T == T' && size == size'
      | _ => false
    | _ => false
  | _, _ => false
def hFits : List Blk → List Blk → Bool
  | [], _ => true
  | b :: l, [] => blkFits m A b none && hFits l []
  | b :: l, b' :: l' => blkFits m A b (some b') && hFits l l'
def fsFits : List (List SV) → List (List SV) → Bool
  | [], [] => true
  | x :: l, y :: l' => optBeqs (SV.sbts m A x) y && fsFits l l'
  | _, _ => false
/-- The state g fits the pattern t, its new atoms read as the assignment says. -/
def fits (t g : Cfg) : Bool :=
  decide (t.todo = g.todo) && fsFits m A t.fs g.fs && optBeqs (SV.sbts m A t.sl) g.sl && hFits m A t.H g.H &&
  t.ni == m.ni + A.is.length && t.nb == m.nb + A.bs.length && t.nv == m.nv + A.vs.length && t.nj == m.nj + A.js.length &&
  m.ni ≤ g.ni && m.nb ≤ g.nb && m.nv ≤ g.nv && m.nj ≤ g.nj &&
  A.vs.all SV.flat && SV.oks g.ni g.nb g.nv g.nj (fun _ => false) A.vs
end
/-- The atoms of the pattern: the old ones as they are, the new ones as the assignment says. -/
def Env.asg (ρ : Env) (β : Nat → Nat) (m : Base) (A : Asg) : Env :=
  { ρ with i := ρ.i.take m.ni ++ A.is.map (IE.den ρ), b := ρ.b.take m.nb ++ A.bs.map (BE.den ρ), v := ρ.v.take m.nv ++ SV.dens ρ β A.vs, j := ρ.j.take m.nj ++ SV.dens ρ β A.js }
theorem take_get {α : Type} (l x : List α) (m n : Nat) (d : α) (hm : m ≤ l.length) (h : n < m) : (l.take m ++ x).getD n d = l.getD n d := by
  simp only [List.getD]
  rw [List.getElem?_append_left (by simp; omega), List.getElem?_take, if_pos h]
theorem take_new {α : Type} (l x : List α) (m n : Nat) (d : α) (hm : m ≤ l.length) (h : ¬ n < m) : (l.take m ++ x).getD n d = x.getD (n - m) d := by
  simp only [List.getD]
  rw [List.getElem?_append_right (by simp; omega)]
  simp [Nat.min_eq_left hm]
structure Lens (m : Base) (ρ : Env) : Prop where
  i : m.ni ≤ ρ.i.length
  b : m.nb ≤ ρ.b.length
  v : m.nv ≤ ρ.v.length
  j : m.nj ≤ ρ.j.length
section
variable {m : Base} {A : Asg} {ρ : Env} {β : Nat → Nat}
theorem vsub_den (hL : Lens m ρ) {n : Nat} {v : SV} (h : vsub m A n = some v) : (ρ.asg β m A).v.getD n vd = v.den ρ β := by
  unfold vsub at h
  simp only [Env.asg]
  split at h
  · rename_i hn
    simp only [Option.some.injEq] at h; subst h
    rw [take_get _ _ _ _ _ hL.v hn]; rfl
  · rename_i hn
    rw [take_new _ _ _ _ _ hL.v hn]
    simp [SV.dens_map, h]
theorem IE.sbt_den (hL : Lens m ρ) : ∀ (e e' : IE), e.sbt m A = some e' → e.den (ρ.asg β m A) = e'.den ρ := by
  intro e
  induction e with
  | a n =>
    intro e' h
    simp only [IE.sbt] at h
    simp only [IE.den, Env.asg]
    split at h
    · rename_i hn
      simp only [Option.some.injEq] at h; subst h
      rw [take_get _ _ _ _ _ hL.i hn]; rfl
    · rename_i hn
      rw [take_new _ _ _ _ _ hL.i hn]
      simp [h]
  | l z => intro e' h; simp only [IE.sbt, Option.some.injEq] at h; subst h; rfl
  | slen n =>
    intro e' h
    simp only [IE.sbt] at h
    simp only [IE.den]
    split at h
    · rename_i hn
      simp only [Option.some.injEq] at h; subst h
      rw [vsub_den (β := β) hL (v := .va n) (by simp [vsub, hn])]; rfl
    · rename_i hn
      split at h
      · rename_i k hk
        simp only [Option.some.injEq] at h; subst h
        rw [vsub_den (β := β) hL (v := .va k) (by simp [vsub, hn, hk])]; rfl
      · simp at h
  | stl n =>
    intro e' h
    simp only [IE.sbt] at h
    simp only [IE.den]
    split at h
    · rename_i k hk
      simp only [Option.some.injEq] at h; subst h
      rw [vsub_den (β := β) hL hk]; rfl
    · simp at h
  | sat n i ih =>
    intro e' h
    simp only [IE.sbt] at h
    simp only [IE.den]
    split at h
    · rename_i k i' hk hi
      simp only [Option.some.injEq] at h; subst h
      rw [vsub_den (β := β) hL hk, ih _ hi]; rfl
    · simp at h
  | wr k x ih =>
    intro e' h
    simp only [IE.sbt, Option.map_eq_some_iff] at h
    obtain ⟨x', h1, rfl⟩ := h
    simp only [IE.den, ih _ h1]
  | ifeq p q x y i1 i2 i3 i4 =>
    intro e' h
    simp only [IE.sbt] at h
    split at h
    · rename_i p' q' x' y' h1 h2 h3 h4
      simp only [Option.some.injEq] at h; subst h
      simp only [IE.den, i1 _ h1, i2 _ h2, i3 _ h3, i4 _ h4]
    · simp at h
  | _ x y i1 i2 =>
    intro e' h
    simp only [IE.sbt] at h
    split at h
    · rename_i x' y' h1 h2
      simp only [Option.some.injEq] at h; subst h
      simp only [IE.den, i1 _ h1, i2 _ h2]
    · simp at h
theorem BE.sbt_den (hL : Lens m ρ) : ∀ (e e' : BE), e.sbt m A = some e' → e.den (ρ.asg β m A) = e'.den ρ := by
  intro e
  induction e with
  | t b => intro e' h; simp only [BE.sbt, Option.some.injEq] at h; subst h; rfl
  | a n =>
    intro e' h
    simp only [BE.sbt] at h
    simp only [BE.den, Env.asg]
    split at h
    · rename_i hn
      simp only [Option.some.injEq] at h; subst h
      rw [take_get _ _ _ _ _ hL.b hn]; rfl
    · rename_i hn
      rw [take_new _ _ _ _ _ hL.b hn]
      simp [h]
  | nil n =>
    intro e' h
    simp only [BE.sbt] at h
    simp only [BE.den]
    split at h
    · rename_i hn
      simp only [Option.some.injEq] at h; subst h
      rw [vsub_den (β := β) hL (v := .va n) (by simp [vsub, hn])]; rfl
    · rename_i hn
      split at h
      · rename_i k hk
        simp only [Option.some.injEq] at h; subst h
        rw [vsub_den (β := β) hL (v := .va k) (by simp [vsub, hn, hk])]; rfl
      · simp at h
  | is q n =>
    intro e' h
    simp only [BE.sbt] at h
    simp only [BE.den]
    split at h
    · rename_i hn
      simp only [Option.some.injEq] at h; subst h
      rw [vsub_den (β := β) hL (v := .va n) (by simp [vsub, hn])]; rfl
    · rename_i hn
      split at h
      · rename_i k hk
        simp only [Option.some.injEq] at h; subst h
        rw [vsub_den (β := β) hL (v := .va k) (by simp [vsub, hn, hk])]; rfl
      · simp at h
  | seq n n' =>
    intro e' h
    simp only [BE.sbt] at h
    simp only [BE.den]
    split at h
    · rename_i k k' hk hk'
      simp only [Option.some.injEq] at h; subst h
      rw [vsub_den (β := β) hL hk, vsub_den (β := β) hL hk']; rfl
    · simp at h
  | sis n l =>
    intro e' h
    simp only [BE.sbt] at h
    simp only [BE.den]
    split at h
    · rename_i k hk
      simp only [Option.some.injEq] at h; subst h
      rw [vsub_den (β := β) hL hk]; rfl
    · simp at h
  | not x ih =>
    intro e' h
    simp only [BE.sbt, Option.map_eq_some_iff] at h
    obtain ⟨x', h1, rfl⟩ := h
    simp only [BE.den, ih _ h1]
  | and x y i1 i2 =>
    intro e' h
    simp only [BE.sbt] at h
    split at h
    · rename_i x' y' h1 h2
      simp only [Option.some.injEq] at h; subst h
      simp only [BE.den, i1 _ h1, i2 _ h2]
    · simp at h
  | or x y i1 i2 =>
    intro e' h
    simp only [BE.sbt] at h
    split at h
    · rename_i x' y' h1 h2
      simp only [Option.some.injEq] at h; subst h
      simp only [BE.den, i1 _ h1, i2 _ h2]
    · simp at h
  | _ x y =>
    intro e' h
    simp only [BE.sbt] at h
    split at h
    · rename_i x' y' h1 h2
      simp only [Option.some.injEq] at h; subst h
      simp only [BE.den, IE.sbt_den (β := β) hL _ _ h1, IE.sbt_den (β := β) hL _ _ h2]
    · simp at h
mutual
theorem SV.sbt_den (hL : Lens m ρ) : ∀ (v v' : SV), v.sbt m A = some v' → v.den (ρ.asg β m A) β = v'.den ρ β
  | .int k e, v', h => by
    simp only [SV.sbt, Option.map_eq_some_iff] at h
    obtain ⟨x', h1, rfl⟩ := h
    simp only [SV.den, IE.sbt_den (β := β) hL _ _ h1]
  | .bool b, v', h => by
    simp only [SV.sbt, Option.map_eq_some_iff] at h
    obtain ⟨x', h1, rfl⟩ := h
    simp only [SV.den, BE.sbt_den (β := β) hL _ _ h1]
  | .va n, v', h => by simp only [SV.sbt] at h; simp only [SV.den]; exact vsub_den hL h
  | .junk n, v', h => by
    simp only [SV.sbt] at h
    simp only [SV.den, Env.asg]
    split at h
    · rename_i hn
      simp only [Option.some.injEq] at h; subst h
      rw [take_get _ _ _ _ _ hL.j hn]; rfl
    · rename_i hn
      rw [take_new _ _ _ _ _ hL.j hn]
      simp [SV.dens_map, h]
  | .ea n i size off, v', h => by
    simp only [SV.sbt] at h
    split at h
    · rename_i k i' h1 h2
      simp only [Option.some.injEq] at h; subst h
      simp only [SV.den, IE.sbt_den (β := β) hL _ _ h2]
      rw [vsub_den (β := β) hL h1]; rfl
    · simp at h
  | .pa n off, v', h => by
    simp only [SV.sbt] at h
    split at h
    · rename_i k h1
      simp only [Option.some.injEq] at h; subst h
      simp only [SV.den]
      rw [vsub_den (β := β) hL h1]; rfl
    · simp at h
  | .agg cs, v', h => by
    simp only [SV.sbt, Option.map_eq_some_iff] at h
    obtain ⟨x', h1, rfl⟩ := h
    simp only [SV.den, SV.sbts_den hL _ _ h1]
  | .tup cs, v', h => by
    simp only [SV.sbt, Option.map_eq_some_iff] at h
    obtain ⟨x', h1, rfl⟩ := h
    simp only [SV.den, SV.sbts_den hL _ _ h1]
  | .fs n, v', h => by
    simp only [SV.sbt] at h
    split at h
    · rename_i k h1
      simp only [Option.some.injEq] at h; subst h
      simp only [SV.den]
      rw [vsub_den (β := β) hL h1]; rfl
    · simp at h
  | .fn f n cs, v', h => by
    simp only [SV.sbt, Option.map_eq_some_iff] at h
    obtain ⟨x', h1, rfl⟩ := h
    simp only [SV.den, SV.sbts_den hL _ _ h1]
  | .str s, v', h => by simp only [SV.sbt, Option.some.injEq] at h; subst h; rfl
  | .undef, v', h => by simp only [SV.sbt, Option.some.injEq] at h; subst h; rfl
  | .nilS, v', h => by simp only [SV.sbt, Option.some.injEq] at h; subst h; rfl
  | .nilF, v', h => by simp only [SV.sbt, Option.some.injEq] at h; subst h; rfl
  | .nilP, v', h => by simp only [SV.sbt, Option.some.injEq] at h; subst h; rfl
  | .nilI, v', h => by simp only [SV.sbt, Option.some.injEq] at h; subst h; rfl
  | .ptr k o, v', h => by simp only [SV.sbt, Option.some.injEq] at h; subst h; rfl
  | .sl k n, v', h => by simp only [SV.sbt, Option.some.injEq] at h; subst h; rfl
  | .slc k n q, v', h => by simp only [SV.sbt, Option.some.injEq] at h; subst h; rfl
theorem SV.sbts_den (hL : Lens m ρ) : ∀ (l l' : List SV), SV.sbts m A l = some l' → SV.dens (ρ.asg β m A) β l = SV.dens ρ β l'
  | [], l', h => by simp only [SV.sbts, Option.some.injEq] at h; subst h; rfl
  | x :: l, l', h => by
    simp only [SV.sbts] at h
    split at h
    · rename_i x' l'' h1 h2
      simp only [Option.some.injEq] at h; subst h
      simp only [SV.dens, SV.sbt_den hL _ _ h1, SV.sbts_den hL _ _ h2]
    · simp at h
end
end
theorem fine_flat {ρ : Env} (hρ : ρ.Ok) (β : Nat → Nat) {v : SV} (h : v.flat = true) : fineV (v.den ρ β) = true := by
  cases v <;> simp [SV.flat] at h <;> try rfl
  exact hρ.fine _
theorem optBeqs_spec {x : Option (List SV)} {l : List SV} (h : optBeqs x l = true) : x = some l := by
  cases x with
  | none => simp [optBeqs] at h
  | some x => simp only [optBeqs] at h; rw [SV.eq_of_beqs _ _ h]
theorem hFits_get {m : Base} {A : Asg} : ∀ (l l' : List Blk), hFits m A l l' = true → ∀ (k : Nat) (b : Blk), l[k]? = some b → blkFits m A b l'[k]? = true
  | [], _, _, k, b, hk => by simp at hk
  | x :: l, [], h, k, b, hk => by
    simp only [hFits, Bool.and_eq_true] at h
    cases k with
    | zero => simp at hk; subst hk; simpa using h.1
    | succ k => simpa using hFits_get l [] h.2 k b (by simpa using hk)
  | x :: l, y :: l', h, k, b, hk => by
    simp only [hFits, Bool.and_eq_true] at h
    cases k with
    | zero => simp at hk; subst hk; simpa using h.1
    | succ k => simpa using hFits_get l l' h.2 k b (by simpa using hk)
theorem fsFits_spec {m : Base} {A : Asg} {ρ : Env} {β : Nat → Nat} (hL : Lens m ρ) : ∀ (l l' : List (List SV)), fsFits m A l l' = true → (l.map fun x => (SV.dens (ρ.asg β m A) β x).toArray) = l'.map fun x => (SV.dens ρ β x).toArray
  | [], [], _ => rfl
  | x :: l, y :: l', h => by
    simp only [fsFits, Bool.and_eq_true] at h
    simp only [List.map_cons, SV.sbts_den hL _ _ (optBeqs_spec h.1), fsFits_spec hL l l' h.2]
  | [], _ :: _, h => by simp [fsFits] at h
  | _ :: _, [], h => by simp [fsFits] at h
theorem Rel.fits {w0 : World} {s0 : Hp} {X : Fx} {ρ : Env} {s : Hp} {β : Nat → Nat} {t g : Cfg} {a : Act} {w : World} (h : Rel w0 s0 X ρ s β g a w) {m : Base} {A : Asg} (hf : fits m A t g = true) :
    Rel w0 s0 X (ρ.asg β m A) s β t a w ∧ t.todo = g.todo := by
  unfold Sx.fits at hf
  simp only [Bool.and_eq_true, decide_eq_true_eq, beq_iff_eq] at hf
  obtain ⟨⟨⟨⟨⟨⟨⟨⟨⟨⟨⟨⟨⟨htd, hfs⟩, hsl⟩, hH⟩, n1⟩, n2⟩, n3⟩, n4⟩, m1⟩, m2⟩, m3⟩, m4⟩, hflat⟩, hvok⟩ := hf
  have hi : m.ni ≤ ρ.i.length := by rw [h.ci]; exact m1
  have hb : m.nb ≤ ρ.b.length := by rw [h.cb]; exact m2
  have hv : m.nv ≤ ρ.v.length := by rw [h.cv]; exact m3
  have hj : m.nj ≤ ρ.j.length := by rw [h.cj]; exact m4
  have hL : Lens m ρ := ⟨hi, hb, hv, hj⟩
  have hsl' := optBeqs_spec hsl
  have hblk := hFits_get _ _ hH
  have hcells : ∀ (k : Nat) (cs : List SV) (T : Nat) (sh : Bool), t.H[k]? = some (Blk.cells cs T sh) → ∃ cs', g.H[k]? = some (Blk.cells cs' T sh) ∧ SV.dens (ρ.asg β m A) β cs = SV.dens ρ β cs' := by
    intro k cs T sh hk
    have := hblk k _ hk
    unfold blkFits at this
    cases hg : g.H[k]? with
    | none => rw [hg] at this; simp at this
    | some b =>
      rw [hg] at this
      cases b with
      | row n T' size => simp at this
      | cells cs' T' sh' =>
        simp only [Bool.and_eq_true, beq_iff_eq] at this
        obtain ⟨⟨e1, rfl⟩, rfl⟩ := this
        exact ⟨cs', rfl, SV.sbts_den hL _ _ (optBeqs_spec e1)⟩
  have hrow : ∀ (k n T size : Nat), t.H[k]? = some (.row n T size) → 0 < size ∧ ((ρ.asg β m A).v.getD n vd = .slice none 0 0 ∨ ∃ n', g.H[k]? = some (.row n' T size) ∧ (ρ.asg β m A).v.getD n vd = ρ.v.getD n' vd) := by
    intro k n T size hk
    have := hblk k _ hk
    unfold blkFits at this
    simp only [Bool.and_eq_true, decide_eq_true_eq] at this
    refine ⟨this.1, ?_⟩
    have h2 := this.2
    split at h2
    · rename_i hvs
      left; rw [vsub_den hL hvs]; rfl
    · rename_i n' hvs
      split at h2
      · rename_i n2 T' size' hg
        simp only [Bool.and_eq_true, beq_iff_eq] at h2
        obtain ⟨⟨rfl, rfl⟩, rfl⟩ := h2
        right
        exact ⟨_, hg, by rw [vsub_den hL hvs]; rfl⟩
      · simp at h2
    · simp at h2
  have key : ∀ (i : Nat) (b : Blk), t.H[i]? = some b → act (ρ.asg β m A) b → ∃ b', g.H[i]? = some b' ∧ act ρ b' := by
    intro i b hb' hab
    cases b with
    | cells cs T sh =>
      obtain ⟨cs', hg, _⟩ := hcells i cs T sh hb'
      exact ⟨_, hg, trivial⟩
    | row n T size =>
      obtain ⟨_, h1 | ⟨n', hg, he⟩⟩ := hrow i n T size hb'
      · exact absurd h1 hab
      · exact ⟨_, hg, by simp only [act] at hab ⊢; rw [← he]; exact hab⟩
  have hkp : ∀ x, X.K x ∨ x ∈ ρ.m → Kept s (ρ.asg β m A) β t.H w x := fun x hx => ⟨(h.kp x hx).is, fun k b hk hb => by
    obtain ⟨b', e1, e2⟩ := key k b hk hb
    exact (h.kp x hx).own k b' e1 e2, (h.kp x hx).un⟩
  refine ⟨⟨?_, h.df, h.sz, hkp, h.ms.env rfl rfl, by rw [fsFits_spec hL _ _ hfs]; exact h.fs, ?_, ?_, ?_, ?_, ?_, h.bel, h.sb, h.nw, h.le, ?_, ?_⟩, htd⟩
  · rw [SV.sbts_den hL _ _ hsl']; exact h.tm
  · simp only [Env.asg, List.length_append, List.length_take, List.length_map, Nat.min_eq_left hi, n1]
  · simp only [Env.asg, List.length_append, List.length_take, List.length_map, Nat.min_eq_left hb, n2]
  · simp only [Env.asg, List.length_append, List.length_take, dens_length, Nat.min_eq_left hv, n3]
  · simp only [Env.asg, List.length_append, List.length_take, dens_length, Nat.min_eq_left hj, n4]
  · intro x hx
    simp only [Env.asg, List.mem_append] at hx
    rcases hx with hx | hx
    · exact h.ok x (List.mem_of_mem_take hx)
    · rw [SV.dens_map] at hx
      obtain ⟨y, hy, rfl⟩ := List.mem_map.1 hx
      exact fine_flat h.ok β (List.all_eq_true.1 hflat y hy)
  · intro k b hk
    cases b with
    | cells cs T sh =>
      obtain ⟨cs', hg, he⟩ := hcells k cs T sh hk
      have := h.bl k _ hg
      simp only [BOk] at this ⊢
      rw [he]; exact this
    | row n T size =>
      obtain ⟨hsz, h1 | ⟨n', hg, he⟩⟩ := hrow k n T size hk
      · exact ⟨hsz, .inl h1⟩
      · have := h.bl k _ hg
        simp only [BOk] at this ⊢
        rw [he]; exact this
  · intro j k bj bk hjk hj' hk' aj ak
    have key : ∀ (i : Nat) (b : Blk), t.H[i]? = some b → act (ρ.asg β m A) b → ∃ b', g.H[i]? = some b' ∧ act ρ b' := by
      intro i b hb' hab
      cases b with
      | cells cs T sh =>
        obtain ⟨cs', hg, _⟩ := hcells i cs T sh hb'
        exact ⟨_, hg, trivial⟩
      | row n T size =>
        obtain ⟨_, h1 | ⟨n', hg, he⟩⟩ := hrow i n T size hb'
        · exact absurd h1 hab
        · exact ⟨_, hg, by simp only [act] at hab ⊢; rw [← he]; exact hab⟩
    obtain ⟨b1, c1, c2⟩ := key j bj hj' aj
    obtain ⟨b2, d1, d2⟩ := key k bk hk' ak
    exact h.sp j k b1 b2 hjk c1 d1 c2 d2
/-- The atoms before the loop with the loop's own. -/
def Env.ext (ρ : Env) (is : List Int) (bs : List Bool) (vs js : List Value) : Env := { ρ with i := ρ.i ++ is, b := ρ.b ++ bs, v := ρ.v ++ vs, j := ρ.j ++ js }
theorem goesG_congr {f : Fr} {R : Ending → World → Prop} {body : Code} {ρ ρ' : Env} {β β' : Nat → Nat} {s s' : Hp} {t g : Cfg} {a : Act} {w : World} (htd : t.todo = g.todo) (hhead : ∀ p d ks k, t.todo ≠ .dreg p d ks :: k)
    (h : GoesG P f R body ρ β s t a w) : GoesG P f R body ρ' β' s' g a w := by
  unfold GoesG at h ⊢
  rw [← htd]
  generalize t.todo = td at *
  cases td with
  | nil => exact h
  | cons x k => cases x <;> first | exact h | exact absurd rfl (hhead _ _ _ _)
end
end Go.Sx
namespace Go.Sx
section
variable {P : Program} {c : Ctx} {fnc : Func} {fn : FnC} {Q : Value → Hp → MS → Prop}
theorem asg_zero {ρ : Env} {β : Nat → Nat} {A : Asg} {t g : Cfg} (hfit : Sx.fits ⟨0, 0, 0, 0⟩ A t g = true) :
    ρ.asg β ⟨0, 0, 0, 0⟩ A = { i := A.is.map (IE.den ρ), b := A.bs.map (BE.den ρ), v := SV.dens ρ id A.vs, j := SV.dens ρ β A.js, m := ρ.m, k := ρ.k } := by
  have hv : SV.dens ρ β A.vs = SV.dens ρ id A.vs := by
    unfold Sx.fits at hfit
    simp only [Bool.and_eq_true] at hfit
    exact SV.dens_le (kf := fun _ => false) ⟨fun _ _ => rfl, fun _ _ => rfl, fun _ _ => rfl, fun _ _ => rfl⟩ (by simp) _ hfit.2
  simp only [Env.asg, List.take_zero, List.nil_append, hv]
section
variable {f : Fr} {R : Ending → World → Prop} {w0 : World} {s0 : Hp} {X : Fx}
/-- A state that fits a pattern goes on as the pattern does. -/
theorem reach_fit {body : Code} {t : Cfg} {A : Asg} {g : Cfg} {ρ : Env} {s : Hp} (hfit : Sx.fits ⟨0, 0, 0, 0⟩ A t g = true) (hhead : ∀ p d ks k, t.todo ≠ .dreg p d ks :: k)
    (h : ∀ js, js.length = A.js.length → ReachX P f R body w0 s0 X t { i := A.is.map (IE.den ρ), b := A.bs.map (BE.den ρ), v := SV.dens ρ id A.vs, j := js, m := ρ.m, k := ρ.k } s) : ReachX P f R body w0 s0 X g ρ s := by
  intro β a w hr
  obtain ⟨hr', htd⟩ := hr.fits hfit
  rw [asg_zero hfit] at hr'
  exact goesG_congr htd hhead (h _ (by simp [dens_length]) β a w hr')
end
end
end Go.Sx
namespace Go.Sx
def mkV (agg : Bool) (l : List Value) : Value := if agg then .agg l.toArray else l.headD undef
/-- '==' at type t compares cell by cell. -/
structure EqT (P : Program) (d : Nat) (t : TypeId) (b : Bool) (ks : List Kd) : Prop where
  agg : ∀ w, (isAgg t).run P w = .ok b w
  size : ∀ w, (sizeOf t).run P w = .ok ks.length w
  cells : P.cellsOf t = ks.length
  one : b = false → ks.length = 1
  eq : ∀ (w : World) (zs us : List Int), zs.length = ks.length → us.length = ks.length → (Op.equalIn d t (mkV b (cellsI ks zs)) (mkV b (cellsI ks us))).run P w = .ok (decide (zs = us)) w
section
variable {P : Program}
theorem cellsI_append : ∀ (ks ls : List Kd) (zs us : List Int), zs.length = ks.length → cellsI (ks ++ ls) (zs ++ us) = cellsI ks zs ++ cellsI ls us
  | [], ls, [], us, _ => rfl
  | k :: ks, ls, z :: zs, us, h => by simp only [List.cons_append, cellsI, cellsI_append ks ls zs us (by simpa using h)]
  | [], ls, z :: zs, us, h => by simp at h
  | k :: ks, ls, [], us, h => by simp at h
theorem cellsI_length : ∀ (ks : List Kd) (zs : List Int), zs.length = ks.length → (cellsI ks zs).length = ks.length
  | [], [], _ => rfl
  | k :: ks, z :: zs, h => by simp only [cellsI, List.length_cons, cellsI_length ks zs (by simpa using h)]
  | [], z :: zs, h => by simp at h
  | k :: ks, [], h => by simp at h
theorem EqT.part {d : Nat} {t : TypeId} {b : Bool} {ks : List Kd} (h : EqT P d t b ks) (A B : List Value) {zs : List Int} (hz : zs.length = ks.length) (w : World) :
    (part t (A ++ cellsI ks zs ++ B).toArray A.length).run P w = .ok (mkV b (cellsI ks zs)) w := by
  have hl := cellsI_length ks zs hz
  unfold Go.part
  simp only [Sem.run_bind, h.agg, Result.andThen_ok]
  cases b with
  | true =>
    simp only [if_true, Sem.run_bind, h.size, Result.andThen_ok, Sem.run_pure, mkV]
    congr 2
    apply Array.ext'
    simp only [List.extract_toArray, List.extract_eq_take_drop, Nat.add_sub_cancel_left]
    rw [List.append_assoc, List.drop_left, ← hl, List.take_left]
  | false =>
    have h1 := h.one rfl
    rw [h1] at hl
    simp only [Bool.false_eq_true, if_false, mkV]
    match hc : cellsI ks zs, hl with
    | [v], _ => simp
theorem eqT_int {t : TypeId} {k : IntKind} (hu : P.underlying t = some (.int k)) (hs : ∀ w, (sizeOf t).run P w = .ok 1 w) (hc : P.cellsOf t = 1) (d : Nat) : EqT P (d + 1) t false [.int k] where
  agg w := by simp [isAgg, run_underlying hu]
  size w := hs w
  cells := hc
  one _ := rfl
  eq w zs us h1 h2 := by
    match zs, h1, us, h2 with
    | [z], _, [u], _ =>
      simp only [mkV, cellsI, cellI, Bool.false_eq_true, if_false, List.headD_cons]
      rw [run_equalIn_int w d t k k z u hu]
      simp [BEq.beq]
theorem eqItems_spec {d : Nat} {e : TypeId} {b : Bool} {ks : List Kd} (h : EqT P d e b ks) : ∀ (n : Nat) (A B : List Value) (zs us : List Int) (w : World) (o : Nat), A.length = o * ks.length → B.length = o * ks.length →
    zs.length = n * ks.length → us.length = n * ks.length →
    (Op.eqItems d e (P.cellsOf e) (A ++ cellsI (List.replicate n ks).flatten zs).toArray (B ++ cellsI (List.replicate n ks).flatten us).toArray ((List.range n).map (o + ·))).run P w = .ok (decide (zs = us)) w
  | 0, A, B, zs, us, w, o, _, _, h1, h2 => by
    simp at h1 h2; subst h1; subst h2
    simp [Op.eqItems]
  | n + 1, A, B, zs, us, w, o, hA, hB, h1, h2 => by
    rw [Nat.add_mul, Nat.one_mul, Nat.add_comm] at h1 h2
    have hz : (zs.take ks.length).length = ks.length := by rw [List.length_take]; omega
    have hu : (us.take ks.length).length = ks.length := by rw [List.length_take]; omega
    have hz2 : (zs.drop ks.length).length = n * ks.length := by rw [List.length_drop]; omega
    have hu2 : (us.drop ks.length).length = n * ks.length := by rw [List.length_drop]; omega
    have ez : cellsI (List.replicate (n + 1) ks).flatten zs = cellsI ks (zs.take ks.length) ++ cellsI (List.replicate n ks).flatten (zs.drop ks.length) := by
      rw [← cellsI_append _ _ _ _ hz, List.take_append_drop]; simp [List.replicate_succ]
    have eu : cellsI (List.replicate (n + 1) ks).flatten us = cellsI ks (us.take ks.length) ++ cellsI (List.replicate n ks).flatten (us.drop ks.length) := by
      rw [← cellsI_append _ _ _ _ hu, List.take_append_drop]; simp [List.replicate_succ]
    have ih := eqItems_spec h n (A ++ cellsI ks (zs.take ks.length)) (B ++ cellsI ks (us.take ks.length)) (zs.drop ks.length) (us.drop ks.length) w (o + 1)
      (by rw [List.length_append, cellsI_length _ _ hz, hA, Nat.add_mul]; omega) (by rw [List.length_append, cellsI_length _ _ hu, hB, Nat.add_mul]; omega) hz2 hu2
    rw [List.range_succ_eq_map]
    simp only [List.map_cons, List.map_map, Op.eqItems, Sem.run_bind, Nat.add_zero]
    have p1 := h.part A (cellsI (List.replicate n ks).flatten (zs.drop ks.length)) hz w
    have p2 := h.part B (cellsI (List.replicate n ks).flatten (us.drop ks.length)) hu w
    rw [hA] at p1
    rw [hB] at p2
    rw [ez, eu, ← List.append_assoc, ← List.append_assoc, h.cells, p1]
    simp only [Result.andThen_ok, p2, h.eq w _ _ hz hu]
    have hsplit : (zs = us) ↔ (zs.take ks.length = us.take ks.length ∧ zs.drop ks.length = us.drop ks.length) := by
      constructor
      · intro e; subst e; exact ⟨rfl, rfl⟩
      · intro ⟨e1, e2⟩; rw [← List.take_append_drop ks.length zs, e1, e2, List.take_append_drop]
    by_cases he : zs.take ks.length = us.take ks.length
    · simp only [he, decide_true, Bool.not_true, Bool.false_eq_true, if_false]
      rw [h.cells] at ih
      rw [show ((fun x => o + x) ∘ Nat.succ) = (fun x => o + 1 + x) by funext x; simp; omega]
      rw [ez, eu] at *
      have : decide (zs = us) = decide (zs.drop ks.length = us.drop ks.length) := by simp [hsplit, he]
      rw [he] at ih
      rw [this]; exact ih
    · have : decide (zs = us) = false := by simp [hsplit, he]
      simp [he, this]
theorem eqT_array {d : Nat} {t e : TypeId} {n : Nat} {b : Bool} {ks : List Kd} {inf : TypeInfo} (h : EqT P d e b ks) (hu : P.underlying t = some (.array n e)) (hinf : P.info? e = some inf) (hs : ∀ w, (sizeOf t).run P w = .ok (n * ks.length) w) (hc : P.cellsOf t = n * ks.length) :
    EqT P (d + 1) t true (List.replicate n ks).flatten where
  agg w := by simp [isAgg, run_underlying hu]
  size w := by rw [hs]; simp
  cells := by rw [hc]; simp
  one hb := by simp at hb
  eq w zs us h1 h2 := by
    simp only [mkV, if_true]
    rw [run_equalIn_array w d _ _ hu hinf]
    have := eqItems_spec h n [] [] zs us w 0 (by simp) (by simp) (by simpa using h1) (by simpa using h2)
    simpa using this
/-- Fields, one behind the other. -/
inductive EqFs (P : Program) (d : Nat) : Nat → List Field → List Kd → Prop where
  | nil (o : Nat) : EqFs P d o [] []
  | cons {o : Nat} {f : Field} {fs : List Field} {b : Bool} {ks ls : List Kd} (hn : f.name ≠ "_") (ho : f.offset = o) (h : EqT P d f.type b ks) (r : EqFs P d (o + ks.length) fs ls) : EqFs P d o (f :: fs) (ks ++ ls)
theorem eqFs_spec {d o : Nat} {fs : List Field} {ks : List Kd} (h : EqFs P d o fs ks) : ∀ (A B : List Value) (zs us : List Int) (w : World), A.length = o → B.length = o → zs.length = ks.length → us.length = ks.length →
    (Op.eqFields d (A ++ cellsI ks zs).toArray (B ++ cellsI ks us).toArray fs).run P w = .ok (decide (zs = us)) w := by
  induction h with
  | nil o =>
    intro A B zs us w _ _ h1 h2
    simp at h1 h2; subst h1; subst h2
    simp [Op.eqFields]
  | cons hn ho h r ih =>
    rename_i o f fs b ks ls
    intro A B zs us w hA hB h1 h2
    rw [List.length_append] at h1 h2
    have hz : (zs.take ks.length).length = ks.length := by rw [List.length_take]; omega
    have hu : (us.take ks.length).length = ks.length := by rw [List.length_take]; omega
    have hz2 : (zs.drop ks.length).length = ls.length := by rw [List.length_drop]; omega
    have hu2 : (us.drop ks.length).length = ls.length := by rw [List.length_drop]; omega
    have ez : cellsI (ks ++ ls) zs = cellsI ks (zs.take ks.length) ++ cellsI ls (zs.drop ks.length) := by
      rw [← cellsI_append _ _ _ _ hz, List.take_append_drop]
    have eu : cellsI (ks ++ ls) us = cellsI ks (us.take ks.length) ++ cellsI ls (us.drop ks.length) := by
      rw [← cellsI_append _ _ _ _ hu, List.take_append_drop]
    have ih := ih (A ++ cellsI ks (zs.take ks.length)) (B ++ cellsI ks (us.take ks.length)) (zs.drop ks.length) (us.drop ks.length) w
      (by rw [List.length_append, cellsI_length _ _ hz, hA]) (by rw [List.length_append, cellsI_length _ _ hu, hB]) hz2 hu2
    have p1 := h.part A (cellsI ls (zs.drop ks.length)) hz w
    have p2 := h.part B (cellsI ls (us.drop ks.length)) hu w
    rw [hA] at p1
    rw [hB] at p2
    simp only [Op.eqFields]
    rw [if_pos hn, ez, eu, ← List.append_assoc, ← List.append_assoc, ho]
    simp only [Sem.run_bind, p1, Result.andThen_ok, p2, h.eq w _ _ hz hu]
    have hsplit : (zs = us) ↔ (zs.take ks.length = us.take ks.length ∧ zs.drop ks.length = us.drop ks.length) := by
      constructor
      · intro e; subst e; exact ⟨rfl, rfl⟩
      · intro ⟨e1, e2⟩; rw [← List.take_append_drop ks.length zs, e1, e2, List.take_append_drop]
    by_cases he : zs.take ks.length = us.take ks.length
    · have : decide (zs = us) = decide (zs.drop ks.length = us.drop ks.length) := by simp [hsplit, he]
      rw [this]
      simpa [he] using ih
    · have : decide (zs = us) = false := by simp [hsplit, he]
      simp [he, this]
theorem eqT_struct {d : Nat} {t : TypeId} {ks : List Kd} {fields : Array Field} (hu : P.underlying t = some (.struct fields)) (hF : EqFs P d 0 fields.toList ks) (hp : P.stoodInHeld t = false) (hs : ∀ w, (sizeOf t).run P w = .ok ks.length w) (hc : P.cellsOf t = ks.length) :
    EqT P (d + 1) t true ks where
  agg w := by simp [isAgg, run_underlying hu]
  size w := hs w
  cells := hc
  one hb := by simp at hb
  eq w zs us h1 h2 := by
    have hfo : P.fieldsOf t = fields := by simp [Program.fieldsOf, hu]
    simp only [mkV, if_true]
    rw [run_equalIn_struct w d t _ _ (by rw [hfo]; exact hu) hp]
    have := eqFs_spec hF [] [] zs us w rfl rfl h1 h2
    rw [hfo]
    simpa using this
end
end Go.Sx
namespace Go.Sx
open Go.ChangeShapes
def okI : List Kd → List Int → Prop
  | [], [] => True
  | .int k :: ks, z :: zs => loI k ≤ z ∧ z ≤ hiI k ∧ okI ks zs
  | _, _ => False
theorem okI_append : ∀ (ks ls : List Kd) (zs us : List Int), okI ks zs → okI ls us → okI (ks ++ ls) (zs ++ us)
  | [], ls, [], us, _, h => h
  | .int k :: ks, ls, z :: zs, us, h, h' => ⟨h.1, h.2.1, okI_append ks ls zs us h.2.2 h'⟩
  | [], _, _ :: _, _, h, _ => h.elim
  | .int _ :: _, _, [], _, h, _ => h.elim
  | .bool :: _, _, _, _, h, _ => by cases h
  | .val :: _, _, _, _, h, _ => by cases h
theorem okI_len : ∀ (ks : List Kd) (zs : List Int), okI ks zs → zs.length = ks.length
  | [], [], _ => rfl
  | .int k :: ks, z :: zs, h => by simp [okI_len ks zs h.2.2]
  | [], _ :: _, h => h.elim
  | .int _ :: _, [], h => h.elim
  | .bool :: _, _, h => by cases h
  | .val :: _, _, h => by cases h
mutual
inductive FlatI (P : Program) : TypeId → List Kd → Prop where
  | int {t : TypeId} {k : IntKind} (hu : P.underlying t = some (.int k)) (hc : P.cellsOf t = 1) : FlatI P t [.int k]
  | arr {t e : TypeId} {n : Nat} {ks : List Kd} (hu : P.underlying t = some (.array n e)) (h : FlatI P e ks) (he : P.cellsOf e = ks.length) (hc : P.cellsOf t = n * ks.length) : FlatI P t (List.replicate n ks).flatten
  | st {t : TypeId} {fields : Array Field} {ks : List Kd} (hu : P.underlying t = some (.struct fields)) (h : FlatFs P 0 fields.toList ks) (hc : P.cellsOf t = ks.length) : FlatI P t ks
inductive FlatFs (P : Program) : Nat → List Field → List Kd → Prop where
  | nil (o : Nat) : FlatFs P o [] []
  | cons {o : Nat} {f : Field} {fs : List Field} {ks ls : List Kd} (ho : f.offset = o) (h : FlatI P f.type ks) (hc : P.cellsOf f.type = ks.length) (r : FlatFs P (o + ks.length) fs ls) : FlatFs P o (f :: fs) (ks ++ ls)
end
theorem wf_rng {k : IntKind} {n : Int} (h : (Lit.int k n).wf = true) : loI k ≤ n ∧ n ≤ hiI k := by
  simp only [Lit.wf, Bool.and_eq_true, decide_eq_true_eq] at h
  cases k <;> simp [IntKind.min, IntKind.max, IntKind.signed, IntKind.bits] at h <;> simp [loI, hiI, IntKind.signed, IntKind.bits] <;> omega
theorem chunks_flat {ks : List Kd} : ∀ (n : Nat) (cs : List Value), cs.length = n * ks.length → (∀ i, i < n → ∃ zs, okI ks zs ∧ (cs.drop (i * ks.length)).take ks.length = cellsI ks zs) →
    ∃ zs, okI (List.replicate n ks).flatten zs ∧ cs = cellsI (List.replicate n ks).flatten zs
  | 0, cs, hl, _ => by
    simp at hl; subst hl
    exact ⟨[], trivial, rfl⟩
  | n + 1, cs, hl, h => by
    obtain ⟨z0, h0, e0⟩ := h 0 (by omega)
    simp only [Nat.zero_mul, List.drop_zero] at e0
    obtain ⟨zs, h1, e1⟩ := chunks_flat (ks := ks) n (cs.drop ks.length) (by rw [List.length_drop, hl, Nat.add_mul]; omega) (fun i hi => by
      obtain ⟨z, a, b⟩ := h (i + 1) (by omega)
      refine ⟨z, a, ?_⟩
      rw [List.drop_drop]
      rw [Nat.add_mul, Nat.one_mul, Nat.add_comm] at b
      exact b)
    refine ⟨z0 ++ zs, by simpa [List.replicate_succ] using okI_append _ _ _ _ h0 h1, ?_⟩
    have : cellsI (List.replicate (n + 1) ks).flatten (z0 ++ zs) = cellsI ks z0 ++ cellsI (List.replicate n ks).flatten zs := by
      rw [← cellsI_append _ _ _ _ (okI_len _ _ h0)]; simp [List.replicate_succ]
    rw [this, ← e0, ← e1, List.take_append_drop]
section
variable {H : Type} {enc : TypeId × Value → H} {P : Program} {w : World} {base : Nat} {spare : Nat → Bool} {held : Bool}
mutual
theorem trod_flat {t : TypeId} {ks : List Kd} : FlatI P t ks → ∀ {fuel : Nat} {cs : List Value} {x}, DataW.trod enc P w base spare held fuel t cs = some x → ∃ zs, okI ks zs ∧ cs = cellsI ks zs
  | .int hu hc, fuel, cs, x, h => by
    obtain ⟨n, rfl, _, hw⟩ := DataW.trod_int hu h
    exact ⟨[n], ⟨(wf_rng hw).1, (wf_rng hw).2, trivial⟩, rfl⟩
  | .arr hu he hce hc, fuel, cs, x, h => by
    obtain ⟨xs, m, _, _, hl, hn, hi⟩ := DataW.trod_array hu h
    rw [hc] at hl
    refine chunks_flat _ cs hl (fun i hi' => ?_)
    have := hi i hi'
    rw [hce, List.getElem?_eq_getElem (by omega)] at this
    exact trod_flat he this
  | .st hu hf hc, fuel, cs, x, h => by
    obtain ⟨xs, m, _, _, hl, hn, hi⟩ := DataW.trod_struct hu h
    rw [hc] at hl
    obtain ⟨zs, a, b⟩ := trod_flats hf [] cs rfl hl (m := m) (xs := xs) (fun j f hj => by simpa using hi j f (by simpa using hj)) hn
    exact ⟨zs, a, b⟩
theorem trod_flats {o : Nat} {fs : List Field} {ks : List Kd} : FlatFs P o fs ks → ∀ (A cs : List Value), A.length = o → cs.length = ks.length → ∀ {m : Nat} {xs : List (DataW H × List MemPlace)},
    (∀ (j : Nat) f, fs[j]? = some f → DataW.trod enc P w base spare held m f.type (((A ++ cs).drop f.offset).take (P.cellsOf f.type)) = xs[j]?) → xs.length = fs.length → ∃ zs, okI ks zs ∧ cs = cellsI ks zs
  | .nil o, A, cs, hA, hl, m, xs, _, _ => by
    simp at hl; subst hl
    exact ⟨[], trivial, rfl⟩
  | .cons (f := f) (ks := ks) (ls := ls) ho h hc r, A, cs, hA, hl, m, xs, hi, hn => by
    have h0 := hi 0 f rfl
    rw [List.getElem?_eq_getElem (by simp at hn; omega), ho, ← hA, List.drop_left, hc] at h0
    obtain ⟨z0, a0, b0⟩ := trod_flat h h0
    rw [List.length_append] at hl
    have hl0 : (cs.take ks.length).length = ks.length := by rw [List.length_take]; omega
    obtain ⟨zs, a1, b1⟩ := trod_flats r (A ++ cs.take ks.length) (cs.drop ks.length) (by rw [List.length_append, hl0, hA]) (by rw [List.length_drop]; omega) (m := m) (xs := xs.drop 1) (fun j f' hj => by
      have := hi (j + 1) f' (by simpa using hj)
      rw [List.append_assoc, List.take_append_drop]
      rw [this, List.getElem?_drop, Nat.add_comm]) (by simp at hn; simp; omega)
    refine ⟨z0 ++ zs, okI_append _ _ _ _ a0 a1, ?_⟩
    rw [cellsI_append _ _ _ _ (okI_len _ _ a0), ← b0, ← b1, List.take_append_drop]
end
/-- All cells of a world are known. -/
def hpOf (w : World) : Hp := fun b o => w.cell? ⟨b, o, none⟩
theorem sub_hpOf (w : World) : Sub (hpOf w) w := fun _ _ _ h => h
theorem mapM_opt {α β : Type} {f : α → Option β} : ∀ {l : List α} {ys : List β}, l.mapM f = some ys → ys.length = l.length ∧ ∀ (i : Nat) x, l[i]? = some x → ∃ y, ys[i]? = some y ∧ f x = some y
  | [], ys, h => by simp at h; subst h; exact ⟨rfl, by simp⟩
  | x :: l, ys, h => by
    simp only [List.mapM_cons, Option.bind_eq_bind, Option.bind_eq_some_iff, Option.pure_def, Option.some.injEq] at h
    obtain ⟨y, hy, ys', hys, rfl⟩ := h
    obtain ⟨a, b⟩ := mapM_opt hys
    refine ⟨by simp [a], fun i z hz => ?_⟩
    cases i with
    | zero => simp at hz; subst hz; exact ⟨y, by simp, hy⟩
    | succ i => simpa using b i z (by simpa using hz)
theorem list_of {α : Type} {p : Nat → α → Prop} : ∀ (n : Nat), (∀ i, i < n → ∃ z, p i z) → ∃ l : List α, l.length = n ∧ ∀ i z, l[i]? = some z → p i z
  | 0, _ => ⟨[], rfl, by simp⟩
  | n + 1, h => by
    obtain ⟨l, e1, e2⟩ := list_of n (fun i hi => h i (by omega))
    obtain ⟨z, hz⟩ := h n (by omega)
    refine ⟨l ++ [z], by simp [e1], fun i y hy => ?_⟩
    rw [List.getElem?_append] at hy
    split at hy
    · exact e2 i y hy
    · have := (List.getElem?_eq_some_iff.1 hy).1
      simp at this
      have hin : i = n := by omega
      subst hin
      simp [e1] at hy; subst hy; exact hz
theorem cell_add {w : World} {a : Addr} {j k : Nat} {u : Value} (h0 : a.spot = none) (h : w.cell? ((a.add j).add k) = some u) : w.cell? ⟨a.block, a.off + j + k, none⟩ = some u := by
  obtain ⟨b, o, sp⟩ := a
  simp only at h0; subst h0
  rw [Addr.add_add0] at h
  unfold Addr.add at h
  split at h
  · have h1 : j = 0 := by omega
    have h2 : k = 0 := by omega
    subst h1; subst h2; exact h
  · rw [← Nat.add_assoc] at h; exact h
/-- A slice of flat elements that came in. -/
theorem open_flat {t e : TypeId} {ks : List Kd} (hu : P.underlying t = some (.slice e)) (hf : FlatI P e ks) (hc : P.cellsOf e = ks.length) (hpos : 0 < ks.length) {a : Option Addr} {len cap fuel : Nat} {x}
    (h : DataW.trod enc P w 0 spare held fuel t [.slice a len cap] = some x) :
    ∃ zss : List (List Int), (∀ zs ∈ zss, okI ks zs) ∧ zss.length = len ∧ SliceIn (hpOf w) ks.length (.slice a len cap) (zss.map (cellsI ks)) := by
  cases fuel with
  | zero => simp [DataW.trod] at h
  | succ fuel =>
    unfold DataW.trod at h
    rw [hu] at h
    cases a with
    | none =>
      cases len <;> cases cap <;> simp at h
      exact ⟨[], by simp, rfl, by simp, none, 0, rfl, by simp, by simp⟩
    | some a =>
      simp only at h
      split at h
      case isFalse => simp at h
      rename_i hcond
      simp only [Option.bind_eq_some_iff] at h
      obtain ⟨elems, hel, _⟩ := h
      obtain ⟨h1, h2⟩ := mapM_opt hel
      have key : ∀ i, i < len → ∃ zs, okI ks zs ∧ ∀ j u, (cellsI ks zs)[j]? = some u → w.cell? ((a.add (i * ks.length)).add j) = some u := by
        intro i hi
        obtain ⟨y, hy1, hy2⟩ := h2 i i (by simp [hi])
        simp only [Option.bind_eq_some_iff] at hy2
        obtain ⟨cs, hcs, htr⟩ := hy2
        obtain ⟨zs, hz, rfl⟩ := trod_flat hf htr
        refine ⟨zs, hz, fun j u hj => ?_⟩
        unfold World.cells? at hcs
        split at hcs
        case isFalse => simp at hcs
        obtain ⟨c1, c2⟩ := mapM_opt hcs
        have hjl : j < P.cellsOf e := by
          have := (List.getElem?_eq_some_iff.1 hj).1
          rw [c1] at this; simpa using this
        obtain ⟨y', hy', hc'⟩ := c2 j j (by simp [hjl])
        rw [hj] at hy'
        simp only [Option.some.injEq] at hy'; subst hy'
        rw [hc] at hc'; exact hc'
      have choose := list_of len key
      obtain ⟨zss, e1, e2⟩ := choose
      refine ⟨zss, fun zs hz => ?_, e1, ?_, some a, cap, by simp [e1], by simp [e1, hcond.2.1], fun hne => ?_⟩
      · obtain ⟨i, hi⟩ := List.mem_iff_getElem?.1 hz
        exact (e2 i zs hi).1
      · intro y hy
        obtain ⟨zs, hz, rfl⟩ := List.mem_map.1 hy
        obtain ⟨i, hi⟩ := List.mem_iff_getElem?.1 hz
        exact cellsI_length _ _ (okI_len _ _ (e2 i zs hi).1)
      · have hsp : a.spot = none := by
          cases zss with
          | nil => simp at hne
          | cons z zss =>
            obtain ⟨hz, hcell⟩ := e2 0 z rfl
            have hl := cellsI_length _ _ (okI_len _ _ hz)
            have := hcell 0 ((cellsI ks z)[0]'(by omega)) (List.getElem?_eq_getElem (by omega))
            have h3 : (a.add (0 * ks.length)).add 0 = a := by simp [Addr.add]
            rw [h3] at this
            exact World.cell?_spot this
        obtain ⟨b, o, sp⟩ := a
        simp only at hsp; subst hsp
        refine ⟨b, o, rfl, fun i y hy j u hj => ?_⟩
        rw [List.getElem?_map, Option.map_eq_some_iff] at hy
        obtain ⟨zs, hz, rfl⟩ := hy
        exact cell_add (a := ⟨b, o, none⟩) rfl ((e2 i zs hz).2 j u hj)
end
end Go.Sx
namespace Go.Sx
open Go.RowKit
/-- Plain values. sl: a slice that nobody writes any more, its elements each of n cells; cell: a pointer into such cells; ref, msl: a pointer, a slice into object number h. -/
inductive PV where
  | int (k : IntKind) (z : Int)
  | bool (b : Bool)
  | str (s : List UInt8)
  | undef
  | nilS | nilF | nilP | nilI
  | sl (n : Nat) (rows : List (List PV))
  | cell (l : List PV) (off : Nat)
  | ref (h off : Nat)
  | msl (h off len cap sz : Nat)
  | rsl (h len sz : Nat)
  | fn (f : Nat) (cap : List PV)
  | agg (l : List PV)
  | tup (l : List PV)
  | mp (h : Nat)
  deriving Inhabited
inductive MO where
  | cells (l : List PV) (T : Nat)
  | row (rows : List (List PV)) (sz T : Nat)
  | mp (ks : List Int) (vs : List PV) (K : IntKind)
  deriving Inhabited
def PV.one : PV → Bool
  | .undef | .agg _ | .tup _ => false
  | _ => true
def PV.len : PV → Int
  | .sl _ rows => rows.length
  | .msl _ _ len _ _ => len
  | .rsl _ len _ => len
  | _ => 0
def PV.sLen : PV → Int
  | .str l => l.length
  | _ => 0
def PV.sAt : PV → Int → Int
  | .str l, i => (((l[i.toNat]?).getD 0).toNat : Int)
  | _, _ => 0
def PV.sEq : PV → PV → Bool
  | .str a, .str b => decide (a = b)
  | _, _ => false
def PV.sIs (l : List UInt8) : PV → Bool
  | .str a => decide (a = l)
  | _ => false
def PV.isNil : PV → Bool
  | .nilS | .nilF | .nilP => true
  | _ => false
/-- Whether it is known if it is nil. -/
def PV.nilOk : PV → Bool
  | .sl _ [] => false
  | _ => true
def PV.isKind : Nat → PV → Bool
  | 0, .nilS | 0, .sl .. | 0, .msl .. | 0, .rsl .. => true
  | 1, .cell .. | 1, .ref .. => true
  | 2, .fn .. | 2, .nilF => true
  | 3, .str _ => true
  | _, _ => false
/-- Where the objects are: block, cells, and how many elements (of a row). -/
abbrev Inf := List (Nat × Nat × Nat)
mutual
def Rep (s : Hp) (B : Inf) : PV → Value → Prop
  | .int k z, v => v = .int k z
  | .bool b, v => v = .bool b
  | .str t, v => v = .string ⟨t.toArray⟩
  | .undef, v => v = Go.undef
  | .nilS, v => v = .slice none 0 0
  | .nilF, v => v = .nilFunc
  | .nilP, v => v = .pointer none
  | .nilI, v => v = .nilIface
  | .sl n rows, v => ∃ xs, SliceIn s n v xs ∧ Repss s B rows xs ∧ ∀ r ∈ rows, ∀ p ∈ r, p.one = true
  | .cell l off, v => ∃ b base vs, v = .pointer (some ⟨b, base + off, none⟩) ∧ Reps s B l vs ∧ ∀ o u, vs[o]? = some u → s b (base + o) = some u
  | .ref h off, v => ∃ b n, B[h]? = some (b, n, 0) ∧ v = .pointer (some ⟨b, off, none⟩)
  | .mp h, v => ∃ b n, B[h]? = some (b, n, 0) ∧ v = .map (some b)
  | .msl h off len cap _, v => ∃ b n, B[h]? = some (b, n, 0) ∧ v = .slice (some ⟨b, off, none⟩) len cap
  | .rsl h len sz, v => 0 < len ∧ ∃ b cap, v = .slice (some ⟨b, 0, none⟩) len cap ∧ ∃ b' n r, B[h]? = some (b', n, r) ∧ len ≤ r ∧ (r = len → b' = b ∧ n = cap * sz ∧ len ≤ cap)
  | .fn f caps, v => ∃ vs, v = .func (.func f) #[] vs.toArray ∧ Reps s B caps vs
  | .agg l, v => ∃ vs, v = .agg vs.toArray ∧ Reps s B l vs
  | .tup l, v => ∃ vs, v = .tuple vs.toArray ∧ Reps s B l vs
def Reps (s : Hp) (B : Inf) : List PV → List Value → Prop
  | [], vs => vs = []
  | p :: l, vs => ∃ v r, vs = v :: r ∧ Rep s B p v ∧ Reps s B l r
def Repss (s : Hp) (B : Inf) : List (List PV) → List (List Value) → Prop
  | [], xs => xs = []
  | l :: ls, xs => ∃ x r, xs = x :: r ∧ Reps s B l x ∧ Repss s B ls r
end
def RepM (s : Hp) (B : Inf) : List MO → MS → Prop
  | [], m => m = []
  | .cells l T :: σ, m => ∃ b vs r, m = (b, .cells vs.toArray T (0, 0)) :: r ∧ Reps s B l vs ∧ RepM s B σ r
  | .row rows sz T :: σ, m => ∃ b cur r, m = (b, .cells cur T (0, 0)) :: r ∧ (rows ≠ [] ∧ 0 < sz ∧ (∃ cap, cur.size = cap * sz ∧ rows.length ≤ cap ∧ cap ≤ maxLen) ∧ (∀ r ∈ rows, ∀ p ∈ r, p.one = true) ∧
      ∃ xs, Repss s B rows xs ∧ (∀ x ∈ xs, x.length = sz) ∧ ∀ (j : Nat) (u : Value), xs.flatten[j]? = some u → cur[j]? = some u) ∧ RepM s B σ r
  | .mp ks vs K :: σ, m => ∃ b es clock vv r, m = (b, .map es clock) :: r ∧ (MapIs K es ks vv ∧ Reps s B vs vv) ∧ RepM s B σ r
def objSize : Obj → Nat
  | .cells cur _ _ => cur.size
  | _ => 0
def infO : MO → Nat × Obj → Nat × Nat × Nat
  | .cells _ _, x => (x.1, objSize x.2, 0)
  | .row rows _ _, x => (x.1, objSize x.2, rows.length)
  | .mp _ _ _, x => (x.1, objSize x.2, 0)
def inf (σ : List MO) (m : MS) : Inf := List.zipWith infO σ m
/-- Objects stay where they are, but rows that have grown. -/
def BLe (B B' : Inf) : Prop := ∀ (h : Nat) x, B[h]? = some x → ∃ x', B'[h]? = some x' ∧ (x' = x ∨ (1 ≤ x.2.2 ∧ x.2.2 < x'.2.2))
theorem BLe.refl (B : Inf) : BLe B B := fun _ x h => ⟨x, h, .inl rfl⟩
theorem BLe.trans {A B C : Inf} (h : BLe A B) (k : BLe B C) : BLe A C := fun i x hx => by
  obtain ⟨y, hy, h1⟩ := h i x hx
  obtain ⟨z, hz, h2⟩ := k i y hy
  refine ⟨z, hz, ?_⟩
  rcases h1 with rfl | h1
  · exact h2
  · rcases h2 with rfl | h2
    · exact .inr h1
    · exact .inr ⟨h1.1, by omega⟩
theorem BLe.pre {B B' : Inf} (h : B <+: B') : BLe B B' := fun i x hx => by
  obtain ⟨r, rfl⟩ := h
  exact ⟨x, by rw [List.getElem?_append_left (List.getElem?_eq_some_iff.1 hx).1]; exact hx, .inl rfl⟩
theorem pre_get {B B' : Inf} (h : BLe B B') {i b n : Nat} (hb : B[i]? = some (b, n, 0)) : B'[i]? = some (b, n, 0) := by
  obtain ⟨x, hx, h1⟩ := h i _ hb
  rcases h1 with rfl | h1
  · exact hx
  · simp at h1
mutual
theorem Rep.mono {s t : Hp} {B B' : Inf} (h : s.le t) (hB : BLe B B') : ∀ (p : PV) (v : Value), Rep s B p v → Rep t B' p v
  | .int .., v, k => k
  | .bool .., v, k => k
  | .str .., v, k => k
  | .undef, v, k => k
  | .nilS, v, k => k
  | .nilF, v, k => k
  | .nilP, v, k => k
  | .nilI, v, k => k
  | .sl n rows, v, k => by
    simp only [Rep] at k ⊢
    obtain ⟨xs, h1, h2, h3⟩ := k
    exact ⟨xs, h1.mono h, Repss.mono h hB rows xs h2, h3⟩
  | .cell l off, v, k => by
    simp only [Rep] at k ⊢
    obtain ⟨b, base, vs, h1, h2, h3⟩ := k
    exact ⟨b, base, vs, h1, Reps.mono h hB l vs h2, fun o u hu => h _ _ _ (h3 o u hu)⟩
  | .ref h' off, v, k => by
    simp only [Rep] at k ⊢
    obtain ⟨b, n, h1, h2⟩ := k
    exact ⟨b, n, pre_get hB h1, h2⟩
  | .msl h' off len cap _, v, k => by
    simp only [Rep] at k ⊢
    obtain ⟨b, n, h1, h2⟩ := k
    exact ⟨b, n, pre_get hB h1, h2⟩
  | .mp h', v, k => by
    simp only [Rep] at k ⊢
    obtain ⟨b, n, h1, h2⟩ := k
    exact ⟨b, n, pre_get hB h1, h2⟩
  | .rsl h' len sz, v, k => by
    simp only [Rep] at k ⊢
    obtain ⟨h0, b, cap, h1, b', n, r, h2, h3, h4⟩ := k
    obtain ⟨⟨b2, n2, r2⟩, hx, h5⟩ := hB _ _ h2
    refine ⟨h0, b, cap, h1, b2, n2, r2, hx, ?_, ?_⟩
    · rcases h5 with h5 | h5
      · simp only [Prod.mk.injEq] at h5; omega
      · simp only at h5; omega
    · intro hr
      rcases h5 with h5 | h5
      · simp only [Prod.mk.injEq] at h5
        obtain ⟨rfl, rfl, rfl⟩ := h5
        exact h4 hr
      · simp only at h5; omega
  | .fn f caps, v, k => by
    simp only [Rep] at k ⊢
    obtain ⟨vs, h1, h2⟩ := k
    exact ⟨vs, h1, Reps.mono h hB caps vs h2⟩
  | .agg l, v, k => by
    simp only [Rep] at k ⊢
    obtain ⟨vs, h1, h2⟩ := k
    exact ⟨vs, h1, Reps.mono h hB l vs h2⟩
  | .tup l, v, k => by
    simp only [Rep] at k ⊢
    obtain ⟨vs, h1, h2⟩ := k
    exact ⟨vs, h1, Reps.mono h hB l vs h2⟩
theorem Reps.mono {s t : Hp} {B B' : Inf} (h : s.le t) (hB : BLe B B') : ∀ (l : List PV) (vs : List Value), Reps s B l vs → Reps t B' l vs
  | [], vs, k => k
  | p :: l, vs, k => by
    simp only [Reps] at k ⊢
    obtain ⟨v, r, h1, h2, h3⟩ := k
    exact ⟨v, r, h1, Rep.mono h hB p v h2, Reps.mono h hB l r h3⟩
theorem Repss.mono {s t : Hp} {B B' : Inf} (h : s.le t) (hB : BLe B B') : ∀ (ls : List (List PV)) (xs : List (List Value)), Repss s B ls xs → Repss t B' ls xs
  | [], xs, k => k
  | l :: ls, xs, k => by
    simp only [Repss] at k ⊢
    obtain ⟨x, r, h1, h2, h3⟩ := k
    exact ⟨x, r, h1, Reps.mono h hB l x h2, Repss.mono h hB ls r h3⟩
end
theorem RepM.mono {s t : Hp} {B B' : Inf} (h : s.le t) (hB : BLe B B') : ∀ (σ : List MO) (m : MS), RepM s B σ m → RepM t B' σ m
  | [], m, k => k
  | .cells l T :: σ, m, k => by
    simp only [RepM] at k ⊢
    obtain ⟨b, vs, r, h1, h2, h3⟩ := k
    exact ⟨b, vs, r, h1, Reps.mono h hB l vs h2, RepM.mono h hB σ r h3⟩
  | .row rows sz T :: σ, m, k => by
    simp only [RepM] at k ⊢
    obtain ⟨b, cur, r, h1, ⟨a1, a2, a3, a4, xs, a5, a6, a7⟩, h3⟩ := k
    exact ⟨b, cur, r, h1, ⟨a1, a2, a3, a4, xs, Repss.mono h hB rows xs a5, a6, a7⟩, RepM.mono h hB σ r h3⟩
  | .mp ks vs K :: σ, m, k => by
    simp only [RepM] at k ⊢
    obtain ⟨b, es, clock, vv, r, h1, h2, h3⟩ := k
    exact ⟨b, es, clock, vv, r, h1, ⟨h2.1, Reps.mono h hB vs vv h2.2⟩, RepM.mono h hB σ r h3⟩
section
variable {s : Hp} {B : Inf}
theorem Reps.length : ∀ {l : List PV} {vs : List Value}, Reps s B l vs → vs.length = l.length
  | [], vs, k => by simp only [Reps] at k; subst k; rfl
  | p :: l, vs, k => by
    simp only [Reps] at k
    obtain ⟨v, r, rfl, _, h⟩ := k
    simp [Reps.length h]
theorem Repss.length : ∀ {l : List (List PV)} {vs : List (List Value)}, Repss s B l vs → vs.length = l.length
  | [], vs, k => by simp only [Repss] at k; subst k; rfl
  | p :: l, vs, k => by
    simp only [Repss] at k
    obtain ⟨v, r, rfl, _, h⟩ := k
    simp [Repss.length h]
theorem Reps.get : ∀ {l : List PV} {vs : List Value}, Reps s B l vs → ∀ {i : Nat} {p : PV}, l[i]? = some p → ∃ v, vs[i]? = some v ∧ Rep s B p v
  | [], vs, k, i, p, h => by simp at h
  | q :: l, vs, k, i, p, h => by
    simp only [Reps] at k
    obtain ⟨v, r, rfl, h1, h2⟩ := k
    cases i with
    | zero => simp only [List.getElem?_cons_zero, Option.some.injEq] at h; subst h; exact ⟨v, rfl, h1⟩
    | succ i => simpa using Reps.get h2 (by simpa using h)
theorem Repss.get : ∀ {l : List (List PV)} {vs : List (List Value)}, Repss s B l vs → ∀ {i : Nat} {p : List PV}, l[i]? = some p → ∃ v, vs[i]? = some v ∧ Reps s B p v
  | [], vs, k, i, p, h => by simp at h
  | q :: l, vs, k, i, p, h => by
    simp only [Repss] at k
    obtain ⟨v, r, rfl, h1, h2⟩ := k
    cases i with
    | zero => simp only [List.getElem?_cons_zero, Option.some.injEq] at h; subst h; exact ⟨v, rfl, h1⟩
    | succ i => simpa using Repss.get h2 (by simpa using h)
theorem Reps.append : ∀ {l l' : List PV} {vs vs' : List Value}, Reps s B l vs → Reps s B l' vs' → Reps s B (l ++ l') (vs ++ vs')
  | [], l', vs, vs', h, h' => by simp only [Reps] at h; subst h; exact h'
  | p :: l, l', vs, vs', h, h' => by
    simp only [Reps] at h
    obtain ⟨v, r, rfl, h1, h2⟩ := h
    exact ⟨v, r ++ vs', rfl, h1, Reps.append h2 h'⟩
theorem Repss.append : ∀ {l l' : List (List PV)} {vs vs' : List (List Value)}, Repss s B l vs → Repss s B l' vs' → Repss s B (l ++ l') (vs ++ vs')
  | [], l', vs, vs', h, h' => by simp only [Repss] at h; subst h; exact h'
  | p :: l, l', vs, vs', h, h' => by
    simp only [Repss] at h
    obtain ⟨v, r, rfl, h1, h2⟩ := h
    exact ⟨v, r ++ vs', rfl, h1, Repss.append h2 h'⟩
theorem Reps.drop : ∀ {l : List PV} {vs : List Value} (n : Nat), Reps s B l vs → Reps s B (l.drop n) (vs.drop n)
  | l, vs, 0, h => by simpa using h
  | [], vs, n + 1, h => by simp only [Reps] at h; subst h; simp [Reps]
  | p :: l, vs, n + 1, h => by
    simp only [Reps] at h
    obtain ⟨v, r, rfl, _, h2⟩ := h
    simpa using Reps.drop n h2
theorem Reps.take : ∀ {l : List PV} {vs : List Value} (n : Nat), Reps s B l vs → Reps s B (l.take n) (vs.take n)
  | l, vs, 0, h => by simp [Reps]
  | [], vs, n + 1, h => by simp only [Reps] at h; subst h; simp [Reps]
  | p :: l, vs, n + 1, h => by
    simp only [Reps] at h
    obtain ⟨v, r, rfl, h1, h2⟩ := h
    simp only [List.take_succ_cons]
    exact ⟨v, _, rfl, h1, Reps.take n h2⟩
theorem Repss.drop : ∀ {l : List (List PV)} {vs : List (List Value)} (n : Nat), Repss s B l vs → Repss s B (l.drop n) (vs.drop n)
  | l, vs, 0, h => by simpa using h
  | [], vs, n + 1, h => by simp only [Repss] at h; subst h; simp [Repss]
  | p :: l, vs, n + 1, h => by
    simp only [Repss] at h
    obtain ⟨v, r, rfl, _, h2⟩ := h
    simpa using Repss.drop n h2
theorem Repss.take : ∀ {l : List (List PV)} {vs : List (List Value)} (n : Nat), Repss s B l vs → Repss s B (l.take n) (vs.take n)
  | l, vs, 0, h => by simp [Repss]
  | [], vs, n + 1, h => by simp only [Repss] at h; subst h; simp [Repss]
  | p :: l, vs, n + 1, h => by
    simp only [Repss] at h
    obtain ⟨v, r, rfl, h1, h2⟩ := h
    simp only [List.take_succ_cons]
    exact ⟨v, _, rfl, h1, Repss.take n h2⟩
theorem RepM.length : ∀ {σ : List MO} {m : MS}, RepM s B σ m → m.length = σ.length
  | [], m, k => by simp only [RepM] at k; subst k; rfl
  | .cells l T :: σ, m, k => by
    simp only [RepM] at k
    obtain ⟨b, vs, r, rfl, _, h⟩ := k
    simp [RepM.length h]
  | .row rows sz T :: σ, m, k => by
    simp only [RepM] at k
    obtain ⟨b, vs, r, rfl, _, h⟩ := k
    simp [RepM.length h]
  | .mp ks vs K :: σ, m, k => by
    simp only [RepM] at k
    obtain ⟨b, es, clock, vv, r, rfl, _, h⟩ := k
    simp [RepM.length h]
theorem inf_get {σ : List MO} {m : MS} {i : Nat} {o : MO} {x : Nat × Obj} (h : σ[i]? = some o) (k : m[i]? = some x) : (inf σ m)[i]? = some (infO o x) := by
  simp [inf, List.getElem?_zipWith, h, k]
theorem inf_length {σ : List MO} {m : MS} (h : RepM s B σ m) : (inf σ m).length = σ.length := by simp [inf, h.length]
theorem inf_take (σ : List MO) (m : MS) (n : Nat) : inf (σ.take n) (m.take n) = (inf σ m).take n := by simp [inf, List.take_zipWith]
/-- What an object is. -/
def ObjIs (s : Hp) (B : Inf) : MO → Nat × Obj → Prop
  | .cells l T, x => ∃ vs, x.2 = .cells vs.toArray T (0, 0) ∧ Reps s B l vs
  | .row rows sz T, x => ∃ cur, x.2 = .cells cur T (0, 0) ∧ rows ≠ [] ∧ 0 < sz ∧ (∃ cap, cur.size = cap * sz ∧ rows.length ≤ cap ∧ cap ≤ maxLen) ∧ (∀ r ∈ rows, ∀ p ∈ r, p.one = true) ∧
      ∃ xs, Repss s B rows xs ∧ (∀ x ∈ xs, x.length = sz) ∧ ∀ (j : Nat) (u : Value), xs.flatten[j]? = some u → cur[j]? = some u
  | .mp ks vs K, x => ∃ es clock vv, x.2 = .map es clock ∧ MapIs K es ks vv ∧ Reps s B vs vv
theorem repM_cons {o : MO} {σ : List MO} {m : MS} : RepM s B (o :: σ) m ↔ ∃ x r, m = x :: r ∧ ObjIs s B o x ∧ RepM s B σ r := by
  cases o with
  | cells l T =>
    simp only [RepM, ObjIs]
    constructor
    · rintro ⟨b, vs, r, rfl, h, k⟩; exact ⟨_, r, rfl, ⟨vs, rfl, h⟩, k⟩
    · rintro ⟨⟨b, o⟩, r, rfl, ⟨vs, h0, h⟩, k⟩; simp only at h0; subst h0; exact ⟨b, vs, r, rfl, h, k⟩
  | row rows sz T =>
    simp only [RepM, ObjIs]
    constructor
    · rintro ⟨b, cur, r, rfl, h, k⟩; exact ⟨_, r, rfl, ⟨cur, rfl, h⟩, k⟩
    · rintro ⟨⟨b, o⟩, r, rfl, ⟨cur, h0, h⟩, k⟩; simp only at h0; subst h0; exact ⟨b, cur, r, rfl, h, k⟩
  | mp ks vs K =>
    simp only [RepM, ObjIs]
    constructor
    · rintro ⟨b, es, clock, vv, r, rfl, h, k⟩; exact ⟨_, r, rfl, ⟨es, clock, vv, rfl, h.1, h.2⟩, k⟩
    · rintro ⟨⟨b, o⟩, r, rfl, ⟨es, clock, vv, h0, h, h'⟩, k⟩; simp only at h0; subst h0; exact ⟨b, es, clock, vv, r, rfl, ⟨h, h'⟩, k⟩
theorem RepM.obj : ∀ {σ : List MO} {m : MS}, RepM s B σ m → ∀ {i : Nat} {o : MO}, σ[i]? = some o → ∃ x, m[i]? = some x ∧ ObjIs s B o x
  | [], m, k, i, o, h => by simp at h
  | o' :: σ, m, k, i, o, h => by
    obtain ⟨x, r, rfl, h1, h2⟩ := repM_cons.1 k
    cases i with
    | zero => simp only [List.getElem?_cons_zero, Option.some.injEq] at h; subst h; exact ⟨x, rfl, h1⟩
    | succ i => simpa using RepM.obj h2 (by simpa using h)
theorem RepM.get {σ : List MO} {m : MS} (k : RepM s B σ m) {i : Nat} {l : List PV} {T : Nat} (h : σ[i]? = some (.cells l T)) : ∃ b vs, m[i]? = some (b, .cells vs.toArray T (0, 0)) ∧ Reps s B l vs := by
  obtain ⟨⟨b, o⟩, h1, vs, h2, h3⟩ := k.obj h
  simp only at h2; subst h2
  exact ⟨b, vs, h1, h3⟩
theorem RepM.append : ∀ {σ σ' : List MO} {m m' : MS}, RepM s B σ m → RepM s B σ' m' → RepM s B (σ ++ σ') (m ++ m')
  | [], σ', m, m', h, h' => by simp only [RepM] at h; subst h; exact h'
  | o :: σ, σ', m, m', h, h' => by
    obtain ⟨x, r, rfl, h1, h2⟩ := repM_cons.1 h
    exact repM_cons.2 ⟨x, r ++ m', rfl, h1, RepM.append h2 h'⟩
theorem RepM.take : ∀ {σ : List MO} {m : MS} (n : Nat), RepM s B σ m → RepM s B (σ.take n) (m.take n)
  | σ, m, 0, h => by simp [RepM]
  | [], m, n + 1, h => by simp only [RepM] at h; subst h; simp [RepM]
  | o :: σ, m, n + 1, h => by
    obtain ⟨x, r, rfl, h1, h2⟩ := repM_cons.1 h
    simp only [List.take_succ_cons]
    exact repM_cons.2 ⟨x, _, rfl, h1, RepM.take n h2⟩
theorem RepM.set : ∀ {σ : List MO} {m : MS} {i : Nat} {o : MO} {x : Nat × Obj}, RepM s B σ m → i < σ.length → ObjIs s B o x → RepM s B (σ.set i o) (m.set i x)
  | [], m, i, o, x, k, h, _ => by simp at h
  | o' :: σ, m, i, o, x, k, h, h' => by
    obtain ⟨y, r, rfl, h1, h2⟩ := repM_cons.1 k
    cases i with
    | zero => exact repM_cons.2 ⟨x, r, rfl, h', h2⟩
    | succ i => exact repM_cons.2 ⟨y, _, rfl, h1, RepM.set h2 (by simpa using h) h'⟩
theorem ObjIs.mono {s t : Hp} {B B' : Inf} (h : s.le t) (hB : BLe B B') {o : MO} {x : Nat × Obj} (k : ObjIs s B o x) : ObjIs t B' o x := by
  cases o with
  | cells l T => obtain ⟨vs, h1, h2⟩ := k; exact ⟨vs, h1, Reps.mono h hB l vs h2⟩
  | row rows sz T => obtain ⟨cur, h1, a1, a2, a3, a4, xs, a5, a6, a7⟩ := k; exact ⟨cur, h1, a1, a2, a3, a4, xs, Repss.mono h hB rows xs a5, a6, a7⟩
  | mp ks vs K => obtain ⟨es, clock, vv, h1, h2, h3⟩ := k; exact ⟨es, clock, vv, h1, h2, Reps.mono h hB vs vv h3⟩
theorem Rep.fine {p : PV} {v : Value} (h : Rep s B p v) (h1 : p.one = true) : fineV v = true := by
  cases p <;> simp only [PV.one] at h1 <;> simp only [Rep] at h
  case sl => obtain ⟨_, h, _⟩ := h; exact h.fine
  case cell => obtain ⟨_, _, _, rfl, _⟩ := h; rfl
  case ref => obtain ⟨_, _, _, rfl⟩ := h; rfl
  case mp => obtain ⟨_, _, _, rfl⟩ := h; rfl
  case msl => obtain ⟨_, _, _, rfl⟩ := h; rfl
  case rsl => obtain ⟨_, _, _, rfl, _⟩ := h; rfl
  case fn => obtain ⟨_, rfl, _⟩ := h; rfl
  all_goals first | (subst h; rfl) | cases h1
theorem Rep.len {p : PV} {v : Value} (h : Rep s B p v) : sliceLen v = p.len := by
  cases p <;> simp only [Rep] at h
  case sl => obtain ⟨_, h, h', _⟩ := h; rw [h.len, h'.length]; rfl
  case cell => obtain ⟨_, _, _, rfl, _⟩ := h; rfl
  case ref => obtain ⟨_, _, _, rfl⟩ := h; rfl
  case mp => obtain ⟨_, _, _, rfl⟩ := h; rfl
  case msl => obtain ⟨_, _, _, rfl⟩ := h; rfl
  case rsl => obtain ⟨_, _, _, rfl, _⟩ := h; rfl
  case fn => obtain ⟨_, rfl, _⟩ := h; rfl
  case agg => obtain ⟨_, rfl, _⟩ := h; rfl
  case tup => obtain ⟨_, rfl, _⟩ := h; rfl
  all_goals (subst h; rfl)
theorem Rep.nil {p : PV} {v : Value} (h : Rep s B p v) (hn : p.nilOk = true) : isNilV v = p.isNil := by
  cases p <;> simp only [Rep] at h
  case sl n rows =>
    obtain ⟨xs, ⟨_, a, cap, rfl, _, h⟩, h', _⟩ := h
    cases rows with
    | nil => simp [PV.nilOk] at hn
    | cons r rows =>
      obtain ⟨b, o, rfl, _⟩ := h (by intro h0; subst h0; have := h'.length; simp at this)
      rfl
  case cell => obtain ⟨_, _, _, rfl, _⟩ := h; rfl
  case ref => obtain ⟨_, _, _, rfl⟩ := h; rfl
  case mp => obtain ⟨_, _, _, rfl⟩ := h; rfl
  case msl => obtain ⟨_, _, _, rfl⟩ := h; rfl
  case rsl => obtain ⟨_, _, _, rfl, _⟩ := h; rfl
  case fn => obtain ⟨_, rfl, _⟩ := h; rfl
  case agg => obtain ⟨_, rfl, _⟩ := h; rfl
  case tup => obtain ⟨_, rfl, _⟩ := h; rfl
  all_goals (subst h; rfl)
theorem Rep.noStr {p : PV} {v : Value} (h : Rep s B p v) (hp : ∀ l, p ≠ .str l) : ∀ b, v ≠ .string b := by
  intro b hb
  subst hb
  cases p <;> simp only [Rep, reduceCtorEq] at h
  case str l => exact hp l rfl
  case undef => simp [undef] at h
  case sl => obtain ⟨_, ⟨_, _, _, h, _⟩, _⟩ := h; cases h
  case cell => obtain ⟨_, _, _, h, _⟩ := h; cases h
  case ref => obtain ⟨_, _, _, h⟩ := h; cases h
  case msl => obtain ⟨_, _, _, h⟩ := h; cases h
  case mp => obtain ⟨_, _, _, h⟩ := h; cases h
  case rsl => obtain ⟨_, _, _, h, _⟩ := h; cases h
  case fn => obtain ⟨_, h, _⟩ := h; cases h
  case agg => obtain ⟨_, h, _⟩ := h; cases h
  case tup => obtain ⟨_, h, _⟩ := h; cases h
theorem Rep.sLen {p : PV} {v : Value} (h : Rep s B p v) : strLen v = p.sLen := by
  by_cases hp : ∃ l, p = .str l
  · obtain ⟨l, rfl⟩ := hp
    simp only [Rep] at h; subst h; simp [strLen, PV.sLen]
  · have hv := h.noStr (fun l e => hp ⟨l, e⟩)
    have e1 : strLen v = 0 := by cases v <;> first | rfl | exact absurd rfl (hv _)
    have e2 : p.sLen = 0 := by cases p <;> first | rfl | exact absurd ⟨_, rfl⟩ hp
    rw [e1, e2]
theorem Rep.sAt {p : PV} {v : Value} (h : Rep s B p v) (i : Int) : strAt v i = p.sAt i := by
  by_cases hp : ∃ l, p = .str l
  · obtain ⟨l, rfl⟩ := hp
    simp only [Rep] at h; subst h; simp [strAt, PV.sAt]
  · have hv := h.noStr (fun l e => hp ⟨l, e⟩)
    have e1 : strAt v i = 0 := by cases v <;> first | rfl | exact absurd rfl (hv _)
    have e2 : p.sAt i = 0 := by cases p <;> first | rfl | exact absurd ⟨_, rfl⟩ hp
    rw [e1, e2]
theorem Rep.sIs {p : PV} {v : Value} (h : Rep s B p v) (l : List UInt8) : strIs l v = p.sIs l := by
  by_cases hp : ∃ l, p = .str l
  · obtain ⟨l', rfl⟩ := hp
    simp only [Rep] at h; subst h; simp [strIs, PV.sIs]
  · have hv := h.noStr (fun l e => hp ⟨l, e⟩)
    have e1 : strIs l v = false := by cases v <;> first | rfl | exact absurd rfl (hv _)
    have e2 : p.sIs l = false := by cases p <;> first | rfl | exact absurd ⟨_, rfl⟩ hp
    rw [e1, e2]
theorem Rep.sEq {p q : PV} {v u : Value} (h : Rep s B p v) (k : Rep s B q u) : strEq v u = p.sEq q := by
  by_cases hp : ∃ l, p = .str l
  · obtain ⟨l, rfl⟩ := hp
    simp only [Rep] at h; subst h
    by_cases hq : ∃ l, q = .str l
    · obtain ⟨l', rfl⟩ := hq
      simp only [Rep] at k; subst k; simp [strEq, PV.sEq]
    · have hv := k.noStr (fun l e => hq ⟨l, e⟩)
      have e1 : ∀ x, strEq (.string x) u = false := by intro x; cases u <;> first | rfl | exact absurd rfl (hv _)
      have e2 : PV.sEq (.str l) q = false := by cases q <;> first | rfl | exact absurd ⟨_, rfl⟩ hq
      rw [e1, e2]
  · have hv := h.noStr (fun l e => hp ⟨l, e⟩)
    have e1 : strEq v u = false := by cases v <;> first | rfl | exact absurd rfl (hv _)
    have e2 : p.sEq q = false := by cases p <;> first | rfl | exact absurd ⟨_, rfl⟩ hp
    rw [e1, e2]
theorem Rep.kind {p : PV} {v : Value} (h : Rep s B p v) (k : Nat) : isKindV k v = p.isKind k := by
  cases p <;> simp only [Rep] at h
  case sl n rows =>
    obtain ⟨xs, ⟨_, a, cap, rfl, _, h⟩, h', _⟩ := h
    match k with | 0 => rfl | 1 => rfl | 2 => rfl | 3 => rfl | k + 4 => rfl
  case cell => obtain ⟨_, _, _, rfl, _⟩ := h; match k with | 0 => rfl | 1 => rfl | 2 => rfl | 3 => rfl | k + 4 => rfl
  case ref => obtain ⟨_, _, _, rfl⟩ := h; match k with | 0 => rfl | 1 => rfl | 2 => rfl | 3 => rfl | k + 4 => rfl
  case mp => obtain ⟨_, _, _, rfl⟩ := h; match k with | 0 => rfl | 1 => rfl | 2 => rfl | 3 => rfl | k + 4 => rfl
  case msl => obtain ⟨_, _, _, rfl⟩ := h; match k with | 0 => rfl | 1 => rfl | 2 => rfl | 3 => rfl | k + 4 => rfl
  case rsl => obtain ⟨_, _, _, rfl, _⟩ := h; match k with | 0 => rfl | 1 => rfl | 2 => rfl | 3 => rfl | k + 4 => rfl
  case fn => obtain ⟨_, rfl, _⟩ := h; match k with | 0 => rfl | 1 => rfl | 2 => rfl | 3 => rfl | k + 4 => rfl
  case agg => obtain ⟨_, rfl, _⟩ := h; match k with | 0 => rfl | 1 => rfl | 2 => rfl | 3 => rfl | k + 4 => rfl
  case tup => obtain ⟨_, rfl, _⟩ := h; match k with | 0 => rfl | 1 => rfl | 2 => rfl | 3 => rfl | k + 4 => rfl
  all_goals (subst h; match k with | 0 => rfl | 1 => rfl | 2 => rfl | 3 => rfl | k + 4 => rfl)
end
end Go.Sx
namespace Go.Sx
open Go.RowKit
structure PEnv where
  i : List Int
  b : List Bool
  v : List PV
  m : List MO := []
  k : Nat := 0
  deriving Inhabited
def PEnv.at (ρ : PEnv) (n : Nat) : PV := ρ.v.getD n (.bool false)
def IE.pe (ρ : PEnv) : IE → Int
  | .a n => ρ.i.getD n 0
  | .l z => z
  | .add x y => x.pe ρ + y.pe ρ
  | .sub x y => x.pe ρ - y.pe ρ
  | .mul x y => x.pe ρ * y.pe ρ
  | .tdiv x y => (x.pe ρ).tdiv (y.pe ρ)
  | .tmod x y => (x.pe ρ).tmod (y.pe ρ)
  | .mn x y => mnI (x.pe ρ) (y.pe ρ)
  | .mx x y => mxI (x.pe ρ) (y.pe ρ)
  | .ifeq p q x y => ifEq (p.pe ρ) (q.pe ρ) (x.pe ρ) (y.pe ρ)
  | .wr k x => k.wrap (x.pe ρ)
  | .slen n => (ρ.at n).len
  | .stl n => (ρ.at n).sLen
  | .sat n i => (ρ.at n).sAt (i.pe ρ)
def BE.pe (ρ : PEnv) : BE → Bool
  | .t b => b
  | .a n => ρ.b.getD n false
  | .lt x y => ltB (x.pe ρ) (y.pe ρ)
  | .le x y => leB (x.pe ρ) (y.pe ρ)
  | .eq x y => eqB (x.pe ρ) (y.pe ρ)
  | .not x => !x.pe ρ
  | .and x y => x.pe ρ && y.pe ρ
  | .or x y => x.pe ρ || y.pe ρ
  | .nil n => (ρ.at n).isNil
  | .is k n => (ρ.at n).isKind k
  | .seq n m => (ρ.at n).sEq (ρ.at m)
  | .sis n l => (ρ.at n).sIs l
/-- Whether it is known. -/
def BE.safe (ρ : PEnv) : BE → Bool
  | .not x => x.safe ρ
  | .and x y => x.safe ρ && y.safe ρ
  | .or x y => x.safe ρ && y.safe ρ
  | .nil n => (ρ.at n).nilOk
  | _ => true
/-- Pointers some cells on. -/
def PV.on (off : Nat) : PV → Option PV
  | .cell l o => some (.cell l (o + off))
  | .ref h o => some (.ref h (o + off))
  | _ => none
def PV.el (i : Int) (size off : Nat) : PV → Option PV
  | .msl h o len _ sz => if 0 ≤ i ∧ i < len ∧ sz = size then some (.ref h (o + (i.toNat * size + off))) else none
  | _ => none
mutual
/-- own: what the call's own cells hold, where they are shut. -/
def SV.pv (ρ : PEnv) (own : Nat → Option (List PV)) : SV → Option PV
  | .int k e => some (.int k (e.pe ρ))
  | .bool b => if b.safe ρ then some (.bool (b.pe ρ)) else none
  | .va n => ρ.v[n]?
  | .junk _ => none
  | .str s => some (.str s)
  | .undef => some .undef
  | .nilS => some .nilS
  | .nilF => some .nilF
  | .nilP => some .nilP
  | .nilI => some .nilI
  | .ptr k off => (own k).map fun l => .cell l off
  | .sl _ _ => none
  | .slc _ _ _ => none
  | .ea n i size off => (ρ.v[n]?).bind (PV.el (i.pe ρ) size off)
  | .pa n off => (ρ.v[n]?).bind (PV.on off)
  | .agg cs => (SV.pvs ρ own cs).map .agg
  | .tup cs => (SV.pvs ρ own cs).map .tup
  | .fn f n cap => if n = 0 then (SV.pvs ρ own cap).map (.fn f) else none
  | .fs _ => none
def SV.pvs (ρ : PEnv) (own : Nat → Option (List PV)) : List SV → Option (List PV)
  | [] => some []
  | x :: l => (SV.pv ρ own x).bind fun p => (SV.pvs ρ own l).map (p :: ·)
end
def noOwn : Nat → Option (List PV) := fun _ => none
/-- What shut own cells hold; cells that point to cells, up to three deep. -/
def ownOf (ρ : PEnv) (H : List Blk) : Nat → Nat → Option (List PV)
  | 0, _ => none
  | d + 1, k => match H[k]? with
    | some (.cells cs _ true) => SV.pvs ρ (ownOf ρ H d) cs
    | _ => none
structure EnvRep (s : Hp) (ρp : PEnv) (ρ : Env) : Prop where
  i : ρ.i = ρp.i
  b : ρ.b = ρp.b
  v : Reps s (inf ρp.m ρ.m) ρp.v ρ.v
  m : RepM s (inf ρp.m ρ.m) ρp.m ρ.m
  k : ρ.k = ρp.k
  one : ∀ p ∈ ρp.v, p.one = true
section
variable {s : Hp} {ρp : PEnv} {ρ : Env}
theorem EnvRep.ok (h : EnvRep s ρp ρ) : ρ.Ok := by
  intro x hx
  obtain ⟨i, hi⟩ := List.mem_iff_getElem?.1 hx
  have hl := h.v.length
  have hlt := (List.getElem?_eq_some_iff.1 hi).1
  obtain ⟨v, h1, h2⟩ := h.v.get (List.getElem?_eq_getElem (l := ρp.v) (i := i) (by omega))
  rw [hi] at h1
  simp only [Option.some.injEq] at h1
  subst h1
  exact h2.fine (h.one _ (List.getElem_mem _))
theorem EnvRep.mono {t : Hp} (h : EnvRep s ρp ρ) (hst : s.le t) : EnvRep t ρp ρ :=
  ⟨h.i, h.b, Reps.mono hst (BLe.refl _) _ _ h.v, RepM.mono hst (BLe.refl _) _ _ h.m, h.k, h.one⟩
theorem EnvRep.get (h : EnvRep s ρp ρ) {n : Nat} {p : PV} (hp : ρp.v[n]? = some p) : ∃ v, ρ.v[n]? = some v ∧ ρ.v.getD n vd = v ∧ Rep s (inf ρp.m ρ.m) p v := by
  obtain ⟨v, h1, h2⟩ := h.v.get hp
  exact ⟨v, h1, by simp [List.getD_eq_getElem?_getD, h1], h2⟩
theorem EnvRep.getD (h : EnvRep s ρp ρ) (n : Nat) : Rep s (inf ρp.m ρ.m) (ρp.at n) (ρ.v.getD n vd) := by
  unfold PEnv.at
  cases hp : ρp.v[n]? with
  | none =>
    have hl := h.v.length
    have h1 := List.getElem?_eq_none_iff.1 hp
    have h2 : ρ.v[n]? = none := List.getElem?_eq_none_iff.2 (by omega)
    simp [List.getD_eq_getElem?_getD, hp, h2, Rep, vd]
  | some p =>
    obtain ⟨v, h1, h2, h3⟩ := h.get hp
    rw [h2]
    simpa [List.getD_eq_getElem?_getD, hp] using h3
theorem IE.pe_den (h : EnvRep s ρp ρ) : ∀ e : IE, e.den ρ = e.pe ρp
  | .a n => by simp only [IE.den, IE.pe, h.i]
  | .l _ => rfl
  | .add x y => by simp only [IE.den, IE.pe, IE.pe_den h x, IE.pe_den h y]
  | .sub x y => by simp only [IE.den, IE.pe, IE.pe_den h x, IE.pe_den h y]
  | .mul x y => by simp only [IE.den, IE.pe, IE.pe_den h x, IE.pe_den h y]
  | .tdiv x y => by simp only [IE.den, IE.pe, IE.pe_den h x, IE.pe_den h y]
  | .tmod x y => by simp only [IE.den, IE.pe, IE.pe_den h x, IE.pe_den h y]
  | .mn x y => by simp only [IE.den, IE.pe, IE.pe_den h x, IE.pe_den h y]
  | .mx x y => by simp only [IE.den, IE.pe, IE.pe_den h x, IE.pe_den h y]
  | .ifeq p q x y => by simp only [IE.den, IE.pe, IE.pe_den h p, IE.pe_den h q, IE.pe_den h x, IE.pe_den h y]
  | .wr k x => by simp only [IE.den, IE.pe, IE.pe_den h x]
  | .slen n => by simp only [IE.den, IE.pe, (h.getD n).len]
  | .stl n => by simp only [IE.den, IE.pe, (h.getD n).sLen]
  | .sat n i => by simp only [IE.den, IE.pe, (h.getD n).sAt, IE.pe_den h i]
theorem BE.pe_den (h : EnvRep s ρp ρ) : ∀ e : BE, e.safe ρp = true → e.den ρ = e.pe ρp
  | .t _, _ => rfl
  | .a n, _ => by simp only [BE.den, BE.pe, h.b]
  | .lt x y, _ => by simp only [BE.den, BE.pe, IE.pe_den h]
  | .le x y, _ => by simp only [BE.den, BE.pe, IE.pe_den h]
  | .eq x y, _ => by simp only [BE.den, BE.pe, IE.pe_den h]
  | .not x, k => by simp only [BE.den, BE.pe, BE.pe_den h x k]
  | .and x y, k => by simp only [BE.safe, Bool.and_eq_true] at k; simp only [BE.den, BE.pe, BE.pe_den h x k.1, BE.pe_den h y k.2]
  | .or x y, k => by simp only [BE.safe, Bool.and_eq_true] at k; simp only [BE.den, BE.pe, BE.pe_den h x k.1, BE.pe_den h y k.2]
  | .nil n, k => by simp only [BE.den, BE.pe, (h.getD n).nil k]
  | .is q n, _ => by simp only [BE.den, BE.pe, (h.getD n).kind]
  | .seq n m, _ => by simp only [BE.den, BE.pe, (h.getD n).sEq (h.getD m)]
  | .sis n l, _ => by simp only [BE.den, BE.pe, (h.getD n).sIs]
theorem add_ad (b o j : Nat) : (⟨b, o, none⟩ : Addr).add j = ⟨b, o + j, none⟩ := by unfold Addr.add; split <;> simp_all
/-- Own cells that are told. -/
def OwnTold (t : Hp) (B : Inf) (β : Nat → Nat) (own : Nat → Option (List PV)) : Prop := ∀ k l, own k = some l → ∃ vs, Reps t B l vs ∧ ∀ o u, vs[o]? = some u → t (β k) o = some u
theorem noOwn_told (t : Hp) (B : Inf) (β : Nat → Nat) : OwnTold t B β noOwn := fun _ _ h => by cases h
theorem PV.on_rep {B : Inf} {p q : PV} {v : Value} {off : Nat} (h : Rep s B p v) (hq : PV.on off p = some q) : Rep s B q (.pointer (some (((addrOf v).getD ⟨0, 0, none⟩).add off))) := by
  cases p <;> simp only [PV.on, Option.some.injEq, reduceCtorEq] at hq
  case cell l o =>
    subst hq
    simp only [Rep] at h ⊢
    obtain ⟨b, base, vs, rfl, h1, h2⟩ := h
    exact ⟨b, base, vs, by simp [addrOf, add_ad, Nat.add_assoc], h1, h2⟩
  case ref h' o =>
    subst hq
    simp only [Rep] at h ⊢
    obtain ⟨b, n, h1, rfl⟩ := h
    exact ⟨b, n, h1, by simp [addrOf, add_ad]⟩
theorem PV.el_rep {B : Inf} {p q : PV} {v : Value} {i : Int} {size off : Nat} (h : Rep s B p v) (hq : PV.el i size off p = some q) : Rep s B q (.pointer (some ((((addrOf v).getD ⟨0, 0, none⟩).add (i.toNat * size)).add off))) := by
  cases p <;> simp only [PV.el, reduceCtorEq] at hq
  case msl h' o len cap sz =>
    split at hq
    · simp only [Option.some.injEq] at hq
      subst hq
      simp only [Rep] at h ⊢
      obtain ⟨b, n, h1, rfl⟩ := h
      exact ⟨b, n, h1, by simp [addrOf, add_ad, Nat.add_assoc]⟩
    · cases hq
mutual
theorem SV.pv_rep {t : Hp} {β : Nat → Nat} {own : Nat → Option (List PV)} (h : EnvRep t ρp ρ) (ho : OwnTold t (inf ρp.m ρ.m) β own) : ∀ (x : SV) (p : PV), x.pv ρp own = some p → Rep t (inf ρp.m ρ.m) p (x.den ρ β)
  | .int k e, p, hp => by simp only [SV.pv, Option.some.injEq] at hp; subst hp; simp only [SV.den, Rep, IE.pe_den h]
  | .bool b, p, hp => by
    simp only [SV.pv] at hp
    split at hp
    · rename_i hs
      simp only [Option.some.injEq] at hp; subst hp; simp only [SV.den, Rep, BE.pe_den h b hs]
    · cases hp
  | .va n, p, hp => by
    simp only [SV.pv] at hp
    obtain ⟨v, _, h2, h3⟩ := h.get hp
    simp only [SV.den, h2]; exact h3
  | .junk _, p, hp => by simp only [SV.pv] at hp; cases hp
  | .str _, p, hp => by simp only [SV.pv, Option.some.injEq] at hp; subst hp; simp only [SV.den, Rep]
  | .undef, p, hp => by simp only [SV.pv, Option.some.injEq] at hp; subst hp; simp only [SV.den, Rep]
  | .nilS, p, hp => by simp only [SV.pv, Option.some.injEq] at hp; subst hp; simp only [SV.den, Rep]
  | .nilF, p, hp => by simp only [SV.pv, Option.some.injEq] at hp; subst hp; simp only [SV.den, Rep]
  | .nilP, p, hp => by simp only [SV.pv, Option.some.injEq] at hp; subst hp; simp only [SV.den, Rep]
  | .nilI, p, hp => by simp only [SV.pv, Option.some.injEq] at hp; subst hp; simp only [SV.den, Rep]
  | .ptr k off, p, hp => by
    simp only [SV.pv, Option.map_eq_some_iff] at hp
    obtain ⟨l, h1, rfl⟩ := hp
    obtain ⟨vs, h2, h3⟩ := ho k l h1
    simp only [SV.den, Rep]
    exact ⟨β k, 0, vs, by simp, h2, fun o u hu => by simpa using h3 o u hu⟩
  | .sl _ _, p, hp => by simp only [SV.pv] at hp; cases hp
  | .slc _ _ _, p, hp => by simp only [SV.pv] at hp; cases hp
  | .ea n i size off, p, hp => by
    simp only [SV.pv, Option.bind_eq_some_iff] at hp
    obtain ⟨q, h1, h2⟩ := hp
    obtain ⟨v, _, h3, h4⟩ := h.get h1
    simp only [SV.den, h3, IE.pe_den h]
    exact PV.el_rep h4 h2
  | .pa n off, p, hp => by
    simp only [SV.pv, Option.bind_eq_some_iff] at hp
    obtain ⟨q, h1, h2⟩ := hp
    obtain ⟨v, _, h3, h4⟩ := h.get h1
    simp only [SV.den, h3]
    exact PV.on_rep h4 h2
  | .agg cs, p, hp => by
    simp only [SV.pv, Option.map_eq_some_iff] at hp
    obtain ⟨l, h1, rfl⟩ := hp
    simp only [SV.den, Rep]
    exact ⟨_, rfl, SV.pvs_rep h ho cs l h1⟩
  | .tup cs, p, hp => by
    simp only [SV.pv, Option.map_eq_some_iff] at hp
    obtain ⟨l, h1, rfl⟩ := hp
    simp only [SV.den, Rep]
    exact ⟨_, rfl, SV.pvs_rep h ho cs l h1⟩
  | .fn f n cs, p, hp => by
    simp only [SV.pv] at hp
    split at hp
    case isFalse => cases hp
    rename_i hn
    subst hn
    simp only [Option.map_eq_some_iff] at hp
    obtain ⟨l, h1, rfl⟩ := hp
    simp only [SV.den, Rep, List.take_zero, List.drop_zero]
    exact ⟨_, rfl, SV.pvs_rep h ho cs l h1⟩
  | .fs _, p, hp => by simp only [SV.pv] at hp; cases hp
theorem SV.pvs_rep {t : Hp} {β : Nat → Nat} {own : Nat → Option (List PV)} (h : EnvRep t ρp ρ) (ho : OwnTold t (inf ρp.m ρ.m) β own) : ∀ (x : List SV) (p : List PV), SV.pvs ρp own x = some p → Reps t (inf ρp.m ρ.m) p (SV.dens ρ β x)
  | [], p, hp => by simp only [SV.pvs, Option.some.injEq] at hp; subst hp; rfl
  | x :: l, p, hp => by
    simp only [SV.pvs, Option.bind_eq_some_iff, Option.map_eq_some_iff] at hp
    obtain ⟨q, h1, r, h2, rfl⟩ := hp
    simp only [SV.dens, Reps]
    exact ⟨_, _, rfl, SV.pv_rep h ho x q h1, SV.pvs_rep h ho l r h2⟩
end
theorem ownOf_told {t : Hp} {β : Nat → Nat} {H : List Blk} (h : EnvRep t ρp ρ) (hs : HShut ρ β H t) : ∀ d, OwnTold t (inf ρp.m ρ.m) β (ownOf ρp H d)
  | 0, k, l, hk => by simp only [ownOf] at hk; cases hk
  | d + 1, k, l, hk => by
    simp only [ownOf] at hk
    split at hk
    · rename_i cs T hc
      exact ⟨_, SV.pvs_rep h (ownOf_told h hs d) cs l hk, fun o u hu => hs k cs T hc o u hu⟩
    · cases hk
theorem flat_one' (h : EnvRep s ρp ρ) {own : Nat → Option (List PV)} {x : SV} {p : PV} (hf : x.flat = true) (hp : x.pv ρp own = some p) : p.one = true := by
  cases x <;> simp only [SV.flat, Bool.false_eq_true] at hf <;> simp only [SV.pv, Option.some.injEq, reduceCtorEq, Option.map_eq_some_iff, Option.bind_eq_some_iff] at hp
  case va n => exact h.one _ (List.mem_of_getElem? hp)
  case bool b =>
    split at hp
    · simp only [Option.some.injEq] at hp; subst hp; rfl
    · cases hp
  case ptr => obtain ⟨_, _, rfl⟩ := hp; rfl
  case ea =>
    obtain ⟨q, _, h2⟩ := hp
    cases q <;> simp only [PV.el, reduceCtorEq] at h2
    split at h2
    · simp only [Option.some.injEq] at h2; subst h2; rfl
    · cases h2
  case pa =>
    obtain ⟨q, _, h2⟩ := hp
    cases q <;> simp only [PV.on, reduceCtorEq, Option.some.injEq] at h2 <;> subst h2 <;> rfl
  case fn =>
    split at hp
    · simp only [Option.map_eq_some_iff] at hp; obtain ⟨_, _, rfl⟩ := hp; rfl
    · cases hp
  all_goals (subst hp; rfl)
end
end Go.Sx
namespace Go.Sx
open Go.RowKit
inductive PT where
  | ret (gen : Bool) (v : SV) (H : List Blk)
  | ite (c : BE) (x y : PT)
  | need (c : BE) (k : PT)
  | load (fl : Bool) (a : SV) (ks : List Kd) (k : PT)
  | app (d : Option Nat) (src : Src) (size : Nat) (k : PT)
  | cut (n : Nat) (lo hi : Option IE) (size : Nat) (k : PT)
  | chk (n size : Nat) (k : PT)
  | appF (n : Nat) (src : Src) (size : Nat) (k : PT)
  | call (f : Nat) (args : List SV) (H : List Blk) (shs : List Sh) (k : PT)
  | callv (n : Nat) (args : List SV) (shs : List Sh) (k : PT)
  | newM (cs : List SV) (T : Nat) (k : PT)
  | mkM (n : IE) (zero : List SV) (T size bytes : Nat) (k : PT)
  | storeM (a : SV) (cs : List SV) (k : PT)
  | appM (d : SV) (src : Src) (size T : Nat) (k : PT)
  | mkMap (K : IntKind) (k : PT)
  | mapGet (n : Nat) (K : IntKind) (key : IE) (dflt : SV) (ok : Bool) (shs : List Sh) (k : PT)
  | mapSet (n : Nat) (K : IntKind) (key : IE) (val : SV) (k : PT)
  | mapClr (n : Nat) (k : PT)
  | both (x y : PT)
  | jump (q : Nat) (is : List IE) (bs : List BE) (vs : List SV)
  | stuck
  deriving Inhabited
def bindK : List Kd → List PV → Option (List Int × List Bool × List PV)
  | [], [] => some ([], [], [])
  | .int k :: ks, .int k' z :: l => if k' = k then (bindK ks l).map fun r => (z :: r.1, r.2.1, r.2.2) else none
  | .bool :: ks, .bool b :: l => (bindK ks l).map fun r => (r.1, b :: r.2.1, r.2.2)
  | .val :: ks, p :: l => if p.one then (bindK ks l).map fun r => (r.1, r.2.1, p :: r.2.2) else none
  | _, _ => none
def bind1 : Sh → PV → Option (List Int × List Bool × List PV)
  | .one k, p => bindK [k] [p]
  | .agg ks, .agg l => bindK ks l
  | _, _ => none
def bindShs : List Sh → List PV → Option (List Int × List Bool × List PV)
  | [], [] => some ([], [], [])
  | sh :: shs, p :: l => (bind1 sh p).bind fun a => (bindShs shs l).map fun r => (a.1 ++ r.1, a.2.1 ++ r.2.1, a.2.2 ++ r.2.2)
  | _, _ => none
def bindRes : List Sh → PV → Option (List Int × List Bool × List PV)
  | [sh], r => bind1 sh r
  | shs, .tup l => bindShs shs l
  | _, _ => none
def PEnv.push (ρ : PEnv) (r : List Int × List Bool × List PV) : PEnv := { ρ with i := ρ.i ++ r.1, b := ρ.b ++ r.2.1, v := ρ.v ++ r.2.2 }
inductive Loc where
  | row (l : List PV) (off : Nat)
  | obj (h off : Nat)
  | elt (h len i sz off : Nat)
def locEl (i : Int) (size off : Nat) : PV → Option Loc
  | .sl sz rows => if sz = size ∧ 0 ≤ i then (rows[i.toNat]?).map fun r => .row r off else none
  | .msl h o len _ sz => if 0 ≤ i ∧ i < len ∧ sz = size then some (.obj h (o + (i.toNat * size + off))) else none
  | .rsl h len sz => if 0 ≤ i ∧ i < len ∧ sz = size then some (.elt h len i.toNat sz off) else none
  | _ => none
def locOn (off : Nat) : PV → Option Loc
  | .cell l o => some (.row l (o + off))
  | .ref h o => some (.obj h (o + off))
  | _ => none
def locOf (ρ : PEnv) : SV → Option Loc
  | .ea n i size off => (ρ.v[n]?).bind (locEl (i.pe ρ) size off)
  | .pa n off => (ρ.v[n]?).bind (locOn off)
  | _ => none
def takeN (n : Nat) (l : List PV) : Option (List PV) := if n ≤ l.length then some (l.take n) else none
def MO.list : MO → Option (List PV)
  | .cells l _ => some l
  | .row .. => none
  | .mp .. => none
/-- The elements of a row, if the slice is the whole of it. -/
def MO.elts (len sz : Nat) : MO → Option (List (List PV))
  | .row rows sz' _ => if rows.length = len ∧ sz' = sz then some rows else none
  | .cells .. => none
  | .mp .. => none
def readLoc (ρ : PEnv) (fl : Bool) (n : Nat) : Loc → Option (List PV)
  | .row l off => takeN n (l.drop off)
  | .obj h off => if fl then none else (ρ.m[h]?).bind fun o => o.list.bind fun l => takeN n (l.drop off)
  | .elt h len i sz off => if fl then none else (ρ.m[h]?).bind fun o => (o.elts len sz).bind fun rows => (rows[i]?).bind fun r => takeN n (r.drop off)
def setP (l : List PV) (o : Nat) (new : List PV) : List PV := l.take o ++ new ++ l.drop (o + new.length)
def PV.rowsOf (size : Nat) : PV → Option (List (List PV))
  | .nilS => some []
  | .sl n rows => if n = size then some rows else none
  | _ => none
def srcRows (ρ : PEnv) (size : Nat) : Src → Option (List (List PV))
  | .lit l => l.mapM (SV.pvs ρ noOwn)
  | .va n => (ρ.v[n]?).bind (PV.rowsOf size)
def loPe (ρ : PEnv) : Option IE → Int
  | some e => e.pe ρ
  | none => 0
def hiPe (ρ : PEnv) : Option IE → Nat → Int
  | some e, _ => e.pe ρ
  | none, n => n
def BE.all (ρ : PEnv) : List BE → Option (List Bool)
  | [] => some []
  | b :: l => if b.safe ρ then (BE.all ρ l).map (b.pe ρ :: ·) else none
mutual
def PV.low (k : Nat) : PV → Bool
  | .ref h _ => decide (h < k)
  | .mp h => decide (h < k)
  | .msl h _ _ _ _ => decide (h < k)
  | .rsl h _ _ => decide (h < k)
  | .sl _ rows => PV.lowss k rows
  | .cell l _ => PV.lows k l
  | .fn _ l => PV.lows k l
  | .agg l => PV.lows k l
  | .tup l => PV.lows k l
  | _ => true
def PV.lows (k : Nat) : List PV → Bool
  | [] => true
  | p :: l => p.low k && PV.lows k l
def PV.lowss (k : Nat) : List (List PV) → Bool
  | [] => true
  | p :: l => PV.lows k p && PV.lowss k l
end
def MO.low (k : Nat) : MO → Bool
  | .cells l _ => PV.lows k l
  | .row rows _ _ => PV.lowss k rows
  | .mp _ vs _ => PV.lows k vs
def rowsN (sz : Nat) : Nat → List PV → Option (List (List PV))
  | 0, _ => some []
  | n + 1, l => if sz ≤ l.length ∧ (l.take sz).all PV.one = true then (rowsN sz n (l.drop sz)).map (l.take sz :: ·) else none
mutual
def PV.frz (k : Nat) (look : Nat → Option MO) : PV → Option PV
  | .mp h => if h < k then some (.mp h) else none
  | .ref h off => if h < k then some (.ref h off) else (look h).bind fun o => o.list.map fun l => .cell l off
  | .rsl h len sz => if h < k then some (.rsl h len sz) else (look h).bind fun o => (o.elts len sz).map (.sl sz)
  | .msl h off len cap sz => if h < k then some (.msl h off len cap sz) else (look h).bind fun o => o.list.bind fun l => (if len ≤ cap then rowsN sz len (l.drop off) else none).map (.sl sz)
  | .sl n rows => if PV.lowss k rows then some (.sl n rows) else none
  | .cell l off => if PV.lows k l then some (.cell l off) else none
  | .fn f l => (PV.frzs k look l).map (.fn f)
  | .agg l => (PV.frzs k look l).map .agg
  | .tup l => (PV.frzs k look l).map .tup
  | .int kd z => some (.int kd z)
  | .bool b => some (.bool b)
  | .str s => some (.str s)
  | .undef => some .undef
  | .nilS => some .nilS
  | .nilF => some .nilF
  | .nilP => some .nilP
  | .nilI => some .nilI
def PV.frzs (k : Nat) (look : Nat → Option MO) : List PV → Option (List PV)
  | [] => some []
  | p :: l => (PV.frz k look p).bind fun q => (PV.frzs k look l).map (q :: ·)
end
def PV.frzss (k : Nat) (look : Nat → Option MO) : List (List PV) → Option (List (List PV))
  | [] => some []
  | l :: ls => (PV.frzs k look l).bind fun q => if q.all PV.one = true then (PV.frzss k look ls).map (q :: ·) else none
def lookF (ρ : PEnv) : Nat → Nat → Option MO
  | 0, _ => none
  | d + 1, h => (ρ.m[h]?).bind fun
    | .cells l T => (PV.frzs ρ.k (lookF ρ d) l).map (.cells · T)
    | .row rows sz T => (PV.frzss ρ.k (lookF ρ d) rows).map (.row · sz T)
    | .mp .. => none
def retP (ρ : PEnv) (gen : Bool) (p : PV) : Option (PV × List MO) :=
  if gen = true ∨ ρ.m.length = ρ.k then some (p, ρ.m)
  else if (ρ.m.take ρ.k).all (MO.low ρ.k) then (p.frz ρ.k (lookF ρ 3)).map fun q => (q, ρ.m.take ρ.k)
  else none
mutual
def PV.beq : PV → PV → Bool
  | .int k z, .int k' z' => decide (k = k') && decide (z = z')
  | .bool b, .bool b' => b == b'
  | .str s, .str s' => decide (s = s')
  | .undef, .undef | .nilS, .nilS | .nilF, .nilF | .nilP, .nilP | .nilI, .nilI => true
  | .sl n r, .sl n' r' => decide (n = n') && PV.beqss r r'
  | .cell l o, .cell l' o' => decide (o = o') && PV.beqs l l'
  | .ref h o, .ref h' o' => decide (h = h') && decide (o = o')
  | .mp h, .mp h' => decide (h = h')
  | .msl a b c d e, .msl a' b' c' d' e' => decide (a = a') && decide (b = b') && decide (c = c') && decide (d = d') && decide (e = e')
  | .rsl a b c, .rsl a' b' c' => decide (a = a') && decide (b = b') && decide (c = c')
  | .fn f l, .fn f' l' => decide (f = f') && PV.beqs l l'
  | .agg l, .agg l' => PV.beqs l l'
  | .tup l, .tup l' => PV.beqs l l'
  | _, _ => false
def PV.beqs : List PV → List PV → Bool
  | [], [] => true
  | x :: l, y :: m => PV.beq x y && PV.beqs l m
  | _, _ => false
def PV.beqss : List (List PV) → List (List PV) → Bool
  | [], [] => true
  | x :: l, y :: m => PV.beqs x y && PV.beqss l m
  | _, _ => false
end
mutual
theorem PV.beq_eq : ∀ {x y : PV}, PV.beq x y = true → x = y
  | .int .., y, h => by cases y <;> simp [PV.beq] at h; obtain ⟨rfl, rfl⟩ := h; rfl
  | .bool .., y, h => by cases y <;> simp [PV.beq] at h; subst h; rfl
  | .str .., y, h => by cases y <;> simp [PV.beq] at h; subst h; rfl
  | .undef, y, h => by cases y <;> simp [PV.beq] at h; rfl
  | .nilS, y, h => by cases y <;> simp [PV.beq] at h; rfl
  | .nilF, y, h => by cases y <;> simp [PV.beq] at h; rfl
  | .nilP, y, h => by cases y <;> simp [PV.beq] at h; rfl
  | .nilI, y, h => by cases y <;> simp [PV.beq] at h; rfl
  | .sl n r, y, h => by cases y <;> simp [PV.beq] at h; obtain ⟨rfl, h⟩ := h; rw [PV.beqss_eq h]
  | .cell n r, y, h => by cases y <;> simp [PV.beq] at h; obtain ⟨rfl, h⟩ := h; rw [PV.beqs_eq h]
  | .ref .., y, h => by cases y <;> simp [PV.beq] at h; obtain ⟨rfl, rfl⟩ := h; rfl
  | .mp .., y, h => by cases y <;> simp [PV.beq] at h; subst h; rfl
  | .msl .., y, h => by cases y <;> simp [PV.beq] at h; obtain ⟨⟨⟨⟨rfl, rfl⟩, rfl⟩, rfl⟩, rfl⟩ := h; rfl
  | .rsl .., y, h => by cases y <;> simp [PV.beq] at h; obtain ⟨⟨rfl, rfl⟩, rfl⟩ := h; rfl
  | .fn n r, y, h => by cases y <;> simp [PV.beq] at h; obtain ⟨rfl, h⟩ := h; rw [PV.beqs_eq h]
  | .agg r, y, h => by cases y <;> simp [PV.beq] at h; rw [PV.beqs_eq h]
  | .tup r, y, h => by cases y <;> simp [PV.beq] at h; rw [PV.beqs_eq h]
theorem PV.beqs_eq : ∀ {x y : List PV}, PV.beqs x y = true → x = y
  | [], y, h => by cases y <;> simp [PV.beqs] at h; rfl
  | x :: l, y, h => by
    cases y with
    | nil => simp [PV.beqs] at h
    | cons y m => simp [PV.beqs] at h; rw [PV.beq_eq h.1, PV.beqs_eq h.2]
theorem PV.beqss_eq : ∀ {x y : List (List PV)}, PV.beqss x y = true → x = y
  | [], y, h => by cases y <;> simp [PV.beqss] at h; rfl
  | x :: l, y, h => by
    cases y with
    | nil => simp [PV.beqss] at h
    | cons y m => simp [PV.beqss] at h; rw [PV.beqs_eq h.1, PV.beqss_eq h.2]
end
mutual
theorem PV.beq_self : ∀ x : PV, PV.beq x x = true
  | .int .. => by simp [PV.beq]
  | .bool .. => by simp [PV.beq]
  | .str .. => by simp [PV.beq]
  | .undef => rfl
  | .nilS => rfl
  | .nilF => rfl
  | .nilP => rfl
  | .nilI => rfl
  | .sl n r => by simp [PV.beq, PV.beqss_self r]
  | .cell n r => by simp [PV.beq, PV.beqs_self n]
  | .ref .. => by simp [PV.beq]
  | .mp .. => by simp [PV.beq]
  | .msl .. => by simp [PV.beq]
  | .rsl .. => by simp [PV.beq]
  | .fn n r => by simp [PV.beq, PV.beqs_self r]
  | .agg r => by simp [PV.beq, PV.beqs_self r]
  | .tup r => by simp [PV.beq, PV.beqs_self r]
theorem PV.beqs_self : ∀ x : List PV, PV.beqs x x = true
  | [] => rfl
  | x :: l => by simp [PV.beqs, PV.beq_self x, PV.beqs_self l]
theorem PV.beqss_self : ∀ x : List (List PV), PV.beqss x x = true
  | [] => rfl
  | x :: l => by simp [PV.beqss, PV.beqs_self x, PV.beqss_self l]
end
def MO.beqs : List MO → List MO → Bool
  | [], [] => true
  | .cells l T :: x, .cells l' T' :: y => decide (T = T') && PV.beqs l l' && MO.beqs x y
  | .row l n T :: x, .row l' n' T' :: y => decide (T = T') && decide (n = n') && PV.beqss l l' && MO.beqs x y
  | .mp ks vs K :: x, .mp ks' vs' K' :: y => decide (ks = ks') && decide (K = K') && PV.beqs vs vs' && MO.beqs x y
  | _, _ => false
theorem MO.beqs_eq : ∀ {x y : List MO}, MO.beqs x y = true → x = y
  | [], [], _ => rfl
  | .cells l T :: x, .cells l' T' :: y, h => by
    simp only [MO.beqs, Bool.and_eq_true, decide_eq_true_eq] at h
    obtain ⟨⟨rfl, h1⟩, h2⟩ := h
    rw [PV.beqs_eq h1, MO.beqs_eq h2]
  | .row l n T :: x, .row l' n' T' :: y, h => by
    simp only [MO.beqs, Bool.and_eq_true, decide_eq_true_eq] at h
    obtain ⟨⟨⟨rfl, rfl⟩, h1⟩, h2⟩ := h
    rw [PV.beqss_eq h1, MO.beqs_eq h2]
  | [], _ :: _, h => by simp [MO.beqs] at h
  | .cells _ _ :: _, [], h => by simp [MO.beqs] at h
  | .row .. :: _, [], h => by simp [MO.beqs] at h
  | .cells _ _ :: _, .row .. :: _, h => by simp [MO.beqs] at h
  | .row .. :: _, .cells _ _ :: _, h => by simp [MO.beqs] at h
  | .mp ks vs K :: x, .mp ks' vs' K' :: y, h => by
    simp only [MO.beqs, Bool.and_eq_true, decide_eq_true_eq] at h
    obtain ⟨⟨⟨rfl, rfl⟩, h1⟩, h2⟩ := h
    rw [PV.beqs_eq h1, MO.beqs_eq h2]
  | .mp .. :: _, [], h => by simp [MO.beqs] at h
  | .mp .. :: _, .cells _ _ :: _, h => by simp [MO.beqs] at h
  | .mp .. :: _, .row .. :: _, h => by simp [MO.beqs] at h
  | .cells _ _ :: _, .mp .. :: _, h => by simp [MO.beqs] at h
  | .row .. :: _, .mp .. :: _, h => by simp [MO.beqs] at h
theorem MO.beqs_self : ∀ x : List MO, MO.beqs x x = true
  | [] => rfl
  | .cells l T :: x => by simp [MO.beqs, PV.beqs_self, MO.beqs_self x]
  | .row l n T :: x => by simp [MO.beqs, PV.beqss_self, MO.beqs_self x]
  | .mp ks vs K :: x => by simp [MO.beqs, PV.beqs_self, MO.beqs_self x]
inductive Res where
  | ret (r : PV) (σ : List MO)
  | jump (q : Nat) (ρ : PEnv)
  deriving Inhabited
def Res.beq : Res → Res → Bool
  | .ret r σ, .ret r' σ' => PV.beq r r' && MO.beqs σ σ'
  | .jump q ρ, .jump q' ρ' => decide (q = q') && decide (ρ.i = ρ'.i) && decide (ρ.b = ρ'.b) && PV.beqs ρ.v ρ'.v && MO.beqs ρ.m ρ'.m && decide (ρ.k = ρ'.k)
  | _, _ => false
theorem Res.beq_eq {x y : Res} (h : Res.beq x y = true) : x = y := by
  cases x <;> cases y <;> simp [Res.beq] at h
  · rw [PV.beq_eq h.1, MO.beqs_eq h.2]
  · rename_i q ρ q' ρ'
    obtain ⟨⟨⟨⟨⟨rfl, h1⟩, h2⟩, h3⟩, h4⟩, h5⟩ := h
    cases ρ; cases ρ'
    simp only at h1 h2 h3 h4 h5
    rw [h1, h2, h5, PV.beqs_eq h3, MO.beqs_eq h4]
theorem Res.beq_self (x : Res) : Res.beq x x = true := by
  cases x <;> simp [Res.beq, PV.beq_self, PV.beqs_self, MO.beqs_self]
abbrev Fns := Nat → List PV → List MO → Option (PV × List MO)
def PT.ev (Φ : Fns) : PT → PEnv → Option Res
  | .ret gen v H, ρ => (v.pv ρ (ownOf ρ H 3)).bind fun p => (retP ρ gen p).map fun r => .ret r.1 r.2
  | .ite c x y, ρ => if c.safe ρ then (if c.pe ρ then x.ev Φ ρ else y.ev Φ ρ) else none
  | .need c k, ρ => if c.safe ρ then (if c.pe ρ then k.ev Φ ρ else none) else none
  | .load fl a ks k, ρ => (locOf ρ a).bind fun l => (readLoc ρ fl ks.length l).bind fun x => (bindK ks x).bind fun r => k.ev Φ (ρ.push r)
  | .app d src size k, ρ => (match d with | none => some [] | some n => (ρ.v[n]?).bind (PV.rowsOf size)).bind fun xs => (srcRows ρ size src).bind fun es =>
      if xs.length + es.length ≤ 1000000 then k.ev Φ { ρ with v := ρ.v ++ [PV.sl size (xs ++ es)] } else none
  | .cut n lo hi size k, ρ => ((ρ.v[n]?).bind (PV.rowsOf size)).bind fun xs =>
      if 0 ≤ loPe ρ lo ∧ loPe ρ lo ≤ hiPe ρ hi xs.length ∧ hiPe ρ hi xs.length ≤ xs.length then k.ev Φ { ρ with v := ρ.v ++ [.sl size ((xs.take (hiPe ρ hi xs.length).toNat).drop (loPe ρ lo).toNat)] } else none
  | .chk n size k, ρ => ((ρ.v[n]?).bind (PV.rowsOf size)).bind fun _ => k.ev Φ ρ
  | .appF n src size k, ρ => ((ρ.v[n]?).bind (PV.rowsOf size)).bind fun xs => (srcRows ρ size src).bind fun es =>
      if es.length ≠ 0 ∧ xs.length + es.length ≤ 1000000 then k.ev Φ { ρ with v := ρ.v ++ [PV.sl size (xs ++ es)] } else none
  | .call f args H shs k, ρ => (SV.pvs ρ (ownOf ρ H 3) args).bind fun as => (Φ f as ρ.m).bind fun r => (bindRes shs r.1).bind fun x => k.ev Φ { ρ.push x with m := r.2 }
  | .callv n args shs k, ρ => match ρ.v[n]? with
    | some (.fn f cap) => (SV.pvs ρ noOwn args).bind fun as => (Φ f (as ++ cap) ρ.m).bind fun r => (bindRes shs r.1).bind fun x => k.ev Φ { ρ.push x with m := r.2 }
    | _ => none
  | .newM cs T k, ρ => (SV.pvs ρ noOwn cs).bind fun l => k.ev Φ { ρ with v := ρ.v ++ [.ref ρ.m.length 0], m := ρ.m ++ [.cells l T] }
  | .mkM n zero T size bytes k, ρ => (SV.pvs ρ noOwn zero).bind fun z =>
      if 0 ≤ n.pe ρ ∧ n.pe ρ ≤ 1000000 ∧ bytes ≤ 100000000 then k.ev Φ { ρ with v := ρ.v ++ [.msl ρ.m.length 0 (n.pe ρ).toNat (n.pe ρ).toNat size], m := ρ.m ++ [.cells (List.replicate (n.pe ρ).toNat z).flatten T] } else none
  | .storeM a cs k, ρ => match locOf ρ a with
    | some (.obj h off) => match ρ.m[h]? with
      | some (.cells l T) => (SV.pvs ρ noOwn cs).bind fun new => if off + new.length ≤ l.length then k.ev Φ { ρ with m := ρ.m.set h (.cells (setP l off new) T) } else none
      | _ => none
    | some (.elt h len i sz off) => match ρ.m[h]? with
      | some (.row rows sz' T) => if rows.length = len ∧ sz' = sz then (rows[i]?).bind fun r => (SV.pvs ρ noOwn cs).bind fun new => if off + new.length ≤ r.length ∧ new.all PV.one = true then k.ev Φ { ρ with m := ρ.m.set h (.row (rows.set i (setP r off new)) sz' T) } else none else none
      | _ => none
    | _ => none
  | .appM d src size T k, ρ => (d.pv ρ noOwn).bind fun p => (srcRows ρ size src).bind fun es => match p with
    | .nilS => if es.length ≤ 1000000 then (if es.length = 0 then k.ev Φ { ρ with v := ρ.v ++ [.nilS] } else k.ev Φ { ρ with v := ρ.v ++ [.rsl ρ.m.length es.length size], m := ρ.m ++ [.row es size T] }) else none
    | .rsl h len sz => match ρ.m[h]? with
      | some (.row rows sz' T') => if rows.length = len ∧ sz = size ∧ sz' = size ∧ T' = T ∧ len + es.length ≤ 1000000 then
          (if es.length = 0 then k.ev Φ { ρ with v := ρ.v ++ [.rsl h len sz] } else k.ev Φ { ρ with v := ρ.v ++ [.rsl h (len + es.length) size], m := ρ.m.set h (.row (rows ++ es) size T) }) else none
      | _ => none
    | _ => none
  | .mkMap K k, ρ => k.ev Φ { ρ with v := ρ.v ++ [.mp ρ.m.length], m := ρ.m ++ [.mp [] [] K] }
  | .mapGet n K key dflt ok shs k, ρ => match ρ.v[n]? with
    | some (.mp h) => match ρ.m[h]? with
      | some (.mp ks vs K') => if K' = K then (dflt.pv ρ noOwn).bind fun d =>
          (bindRes shs (if ok then .tup [(lookL ks vs (key.pe ρ)).getD d, .bool (lookL ks vs (key.pe ρ)).isSome] else (lookL ks vs (key.pe ρ)).getD d)).bind fun x => k.ev Φ (ρ.push x) else none
      | _ => none
    | _ => none
  | .mapSet n K key v k, ρ => match ρ.v[n]? with
    | some (.mp h) => match ρ.m[h]? with
      | some (.mp ks vs K') => if K' = K then (v.pv ρ noOwn).bind fun x => k.ev Φ { ρ with m := ρ.m.set h (.mp (putL ks vs (key.pe ρ) x).1 (putL ks vs (key.pe ρ) x).2 K) } else none
      | _ => none
    | _ => none
  | .mapClr n k, ρ => match ρ.v[n]? with
    | some (.mp h) => match ρ.m[h]? with
      | some (.mp _ _ K') => k.ev Φ { ρ with m := ρ.m.set h (.mp [] [] K') }
      | _ => none
    | _ => none
  | .both x y, ρ => (x.ev Φ ρ).bind fun r => (y.ev Φ ρ).bind fun r' => if Res.beq r r' then some r else none
  | .jump q is bs vs, ρ => (BE.all ρ bs).bind fun b => (SV.pvs ρ noOwn vs).map fun v => .jump q { i := is.map (IE.pe ρ), b, v, m := ρ.m, k := ρ.k }
  | .stuck, _ => none
def ksOf : List SV → Option (List Kd)
  | [] => some []
  | .int k (.a _) :: l => (ksOf l).map (.int k :: ·)
  | .bool (.a _) :: l => (ksOf l).map (.bool :: ·)
  | .va _ :: l => (ksOf l).map (.val :: ·)
  | _ => none
def shOf1 : SV → Option Sh
  | .agg cs => (ksOf cs).map .agg
  | v => (ksOf [v]).bind fun | [k] => some (.one k) | _ => none
def shsOf : SV → Option (List Sh)
  | .tup l => l.mapM shOf1
  | v => (shOf1 v).map ([·])
abbrev Acc := List (Nat × IE) × List (Nat × BE) × List (Nat × SV) × List (Nat × SV)
def inferL : Nat → List (SV × SV) → Acc → Acc
  | 0, _, acc => acc
  | _, [], acc => acc
  | n + 1, (x, y) :: r, acc => match x, y, acc with
    | .int _ (.a k), .int _ e, (a, b, c, d) => inferL n r ((k, e) :: a, b, c, d)
    | .bool (.a k), .bool e, (a, b, c, d) => inferL n r (a, (k, e) :: b, c, d)
    | .va k, y, (a, b, c, d) => inferL n r (a, b, (k, y) :: c, d)
    | .junk k, y, (a, b, c, d) => inferL n r (a, b, c, (k, y) :: d)
    | .pa k _, .pa m _, (a, b, c, d) => inferL n r (a, b, (k, .va m) :: c, d)
    | .fs k, .fs m, (a, b, c, d) => inferL n r (a, b, (k, .va m) :: c, d)
    | .ea k (.a q) _ _, .ea m e _ _, (a, b, c, d) => inferL n r ((q, e) :: a, b, (k, .va m) :: c, d)
    | .agg l, .agg m, acc => inferL n (l.zip m ++ r) acc
    | .tup l, .tup m, acc => inferL n (l.zip m ++ r) acc
    | .fn _ _ l, .fn _ _ m, acc => inferL n (l.zip m ++ r) acc
    | _, _, acc => inferL n r acc
def inferS (x y : SV) (acc : Acc) : Acc := inferL 1000 [(x, y)] acc
def inferB : Blk → Blk → List (Nat × IE) × List (Nat × BE) × List (Nat × SV) × List (Nat × SV) → List (Nat × IE) × List (Nat × BE) × List (Nat × SV) × List (Nat × SV)
  | .cells l _ _, .cells m _ _, acc => (l.zip m).foldl (fun acc (x : SV × SV) => inferS x.1 x.2 acc) acc
  | .row n _ _, .row m _ _, acc => (acc.1, acc.2.1, acc.2.2.1 ++ [(n, .va m)], acc.2.2.2)
  | .row n _ _, _, acc => (acc.1, acc.2.1, acc.2.2.1 ++ [(n, .nilS)], acc.2.2.2)
  | _, _, acc => acc
def infer (t g : Cfg) : Asg :=
  let r := (t.H.zipIdx).foldl (fun acc (x : Blk × Nat) => inferB x.1 (g.H.getD x.2 (.cells [] 0 false)) acc) ((t.sl.zip g.sl).foldl (fun acc (x : SV × SV) => inferS x.1 x.2 acc) ([], [], [], []))
  ⟨(List.range t.ni).map fun n => (r.1.lookup n).getD (.l 0), (List.range t.nb).map fun n => (r.2.1.lookup n).getD (.t true), (List.range t.nv).map fun n => (r.2.2.1.lookup n).getD .nilS, (List.range t.nj).map fun n => (r.2.2.2.lookup n).getD .undef⟩
def headOk (t : Cfg) : Bool := match t.todo with | .dreg _ _ _ :: _ => false | _ => true
def findJ (g : Cfg) : List Cfg → Nat → Option (Nat × Asg)
  | [], _ => none
  | t :: l, q => if decide (t.todo = g.todo) && fits ⟨0, 0, 0, 0⟩ (infer t g) t g && headOk t then some (q, infer t g) else findJ g l (q + 1)
def srcFlat : Src → Bool
  | .lit l => l.all fun x => x.all SV.flat
  | .va _ => true
def srcLen (n : Nat) : Src → Bool
  | .lit l => l.all fun x => decide (x.length = n)
  | .va _ => true
def comp (pats : List Cfg) : Out → Nat → Nat → Nat → Option PT
  | .ret gen v H, _, _, _ => some (.ret gen v H)
  | .ite c x y, a, b, d => (comp pats x a b d).bind fun x => (comp pats y a b d).map fun y => .ite c x y
  | .need c k, a, b, d => (comp pats k a b d).map (.need c)
  | .load fl x cs di db dv k, a, b, d => (ksOf cs).bind fun ks =>
      if SV.beqs (fillK ks a b d).1 cs && decide ((fillK ks a b d).2 = (a + di, b + db, d + dv)) then (comp pats k (a + di) (b + db) (d + dv)).map (.load fl x ks) else none
  | .app n src size bytes k, a, b, d => if srcFlat src && decide (bytes ≤ 100000000) then (comp pats k a b (d + 1)).map (.app n src size) else none
  | .cut n lo hi size k, a, b, d => (comp pats k a b (d + 1)).map (.cut n lo hi size)
  | .chk n size k, a, b, d => (comp pats k a b d).map (.chk n size)
  | .appF n src size bytes k, a, b, d => if srcFlat src && decide (bytes ≤ 100000000) then (comp pats k a b (d + 1)).map (.appF n src size) else none
  | .hole .., _, _, _ => some .stuck
  | .fill .., _, _, _ => some .stuck
  | .call f args H res di db dv k, a, b, d => (shsOf res).bind fun shs =>
      if SV.beq (tupOf (fillSh shs a b d).1) res && decide ((fillSh shs a b d).2 = (a + di, b + db, d + dv)) then (comp pats k (a + di) (b + db) (d + dv)).map (.call f args H shs) else none
  | .callv n args res di db dv k, a, b, d => (shsOf res).bind fun shs =>
      if SV.beq (tupOf (fillSh shs a b d).1) res && decide ((fillSh shs a b d).2 = (a + di, b + db, d + dv)) then (comp pats k (a + di) (b + db) (d + dv)).map (.callv n args shs) else none
  | .newM cs T k, a, b, d => (comp pats k a b (d + 1)).map (.newM cs T)
  | .mkM n zero T size bytes k, a, b, d => if zero.length = size then (comp pats k a b (d + 1)).map (.mkM n zero T size bytes) else none
  | .storeM x cs k, a, b, d => (comp pats k a b d).map (.storeM x cs)
  | .appM x src size bytes T k, a, b, d => if srcFlat src && srcLen size src && decide (bytes ≤ 100000000) && decide (0 < size) && x.flat then (comp pats k a b (d + 1)).map (.appM x src size T) else none
  | .mkMap K k, a, b, d => (comp pats k a b (d + 1)).map (.mkMap K)
  | .mapGet n K key dflt ok res di db dv k, a, b, d => (shsOf res).bind fun shs =>
      if SV.beq (tupOf (fillSh shs a b d).1) res && decide ((fillSh shs a b d).2 = (a + di, b + db, d + dv)) then (comp pats k (a + di) (b + db) (d + dv)).map (.mapGet n K key dflt ok shs) else none
  | .mapSet n K key v k, a, b, d => (comp pats k a b d).map (.mapSet n K key v)
  | .mapClr n k, a, b, d => (comp pats k a b d).map (.mapClr n)
  | .both x y, a, b, d => (comp pats x a b d).bind fun x => (comp pats y a b d).map fun y => .both x y
  | .stop g, _, _, _ => (findJ g pats 0).map fun r => .jump r.1 r.2.is r.2.bs r.2.vs
  | .fail _, _, _, _ => some .stuck
/-- Where a path ends stuck, it is cut off. -/
def PT.wrap (f : PT → PT) : PT → PT
  | .stuck => .stuck
  | k => f k
def PT.prune : PT → PT
  | .ret gen v H => .ret gen v H
  | .ite c x y => match x.prune, y.prune with
    | .stuck, .stuck => .stuck
    | x, y => .ite c x y
  | .need c k => PT.wrap (.need c) k.prune
  | .load fl a ks k => PT.wrap (.load fl a ks) k.prune
  | .app d src size k => PT.wrap (.app d src size) k.prune
  | .cut n lo hi size k => PT.wrap (.cut n lo hi size) k.prune
  | .chk n size k => PT.wrap (.chk n size) k.prune
  | .appF n src size k => PT.wrap (.appF n src size) k.prune
  | .call f args H shs k => PT.wrap (.call f args H shs) k.prune
  | .callv n args shs k => PT.wrap (.callv n args shs) k.prune
  | .newM cs T k => PT.wrap (.newM cs T) k.prune
  | .mkM n zero T size bytes k => PT.wrap (.mkM n zero T size bytes) k.prune
  | .storeM a cs k => PT.wrap (.storeM a cs) k.prune
  | .appM d src size T k => PT.wrap (.appM d src size T) k.prune
  | .mkMap K k => PT.wrap (.mkMap K) k.prune
  | .mapGet n K key dflt ok shs k => PT.wrap (.mapGet n K key dflt ok shs) k.prune
  | .mapSet n K key val k => PT.wrap (.mapSet n K key val) k.prune
  | .mapClr n k => PT.wrap (.mapClr n) k.prune
  | .both x y => match x.prune, y.prune with
    | .stuck, _ => .stuck
    | _, .stuck => .stuck
    | x, y => .both x y
  | .jump q is bs vs => .jump q is bs vs
  | .stuck => .stuck
inductive PSh where
  | sh (s : Sh)
  | ptr
  deriving Inhabited
structure Sys where
  ps : List PSh
  start : PT
  loops : List PT
  /-- What is told of a function otherwise than by its trees. -/
  prim : Option (List PV → List MO → Option (PV × List MO))
  deriving Inhabited
def PV.isPtr : PV → Bool
  | .cell .. | .ref .. => true
  | _ => false
def bindPs : List PSh → List PV → Option (List Int × List Bool × List PV)
  | [], [] => some ([], [], [])
  | .sh s :: shs, p :: l => (bind1 s p).bind fun a => (bindPs shs l).map fun r => (a.1 ++ r.1, a.2.1 ++ r.2.1, a.2.2 ++ r.2.2)
  | .ptr :: shs, p :: l => if p.isPtr then (bindPs shs l).map fun r => (r.1, r.2.1, p :: r.2.2) else none
  | _, _ => none
def fillPs : List PSh → Nat → Nat → Nat → List SV × Nat × Nat × Nat
  | [], a, b, c => ([], a, b, c)
  | .sh s :: l, a, b, c => let r := fillSh [s] a b c; let q := fillPs l r.2.1 r.2.2.1 r.2.2.2; (r.1 ++ q.1, q.2)
  | .ptr :: l, a, b, c => let q := fillPs l a b (c + 1); (.pa c 0 :: q.1, q.2)
def Sys.loop (Φ : Fns) (S : Sys) : Nat → Nat → PEnv → Option (PV × List MO)
  | 0, _, _ => none
  | n + 1, q, ρ => (S.loops[q]?).bind fun t => (t.ev Φ ρ).bind fun
    | .ret r σ => some (r, σ)
    | .jump q' ρ' => S.loop Φ n q' ρ'
def Sys.run (Φ : Fns) (S : Sys) (n : Nat) (as : List PV) (σ : List MO) : Option (PV × List MO) :=
  match S.prim with
  | some F => F as σ
  | none =>
  (bindPs S.ps as).bind fun r => (S.start.ev Φ { i := r.1, b := r.2.1, v := r.2.2, m := σ, k := σ.length }).bind fun
    | .ret r σ => some (r, σ)
    | .jump q ρ => S.loop Φ n q ρ
def evalF (Tab : Nat → Option Sys) : Nat → Fns
  | 0, _, _, _ => none
  | n + 1, f, as, σ => (Tab f).bind fun S => S.run (evalF Tab n) n as σ
end Go.Sx
