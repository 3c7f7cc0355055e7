/- SX: the executor's tree is enough for a whole function's body. -/
import Derived.Test.YthjahianafohjaaHSyb
import Derived.RangeFuncRecord
import Derived.RangeFuncIn
import Derived.RangeFuncLeaves
import Derived.ChangeKeysEq
import Derived.ProofKit
import Derived.OpenShut
import Derived.ChangeOld
import Derived.ShutString
import Derived.Below
set_option linter.unusedSimpArgs false
set_option linter.unusedVariables false
namespace Go.Sy
open Go.RowKit
def itemOf (body : Code) : PI -> Item
 | .code p => .code (sub body p)
 | .inBlock id => .inBlock id
 | .inLoop p => .inLoop (sub body p)
 | .inScope p => .inScope (sub body p)
 | .reg p is => .inRegion (opsAt (sub body p)) is
 | .dreg _ _ _ => .inRegion #[] []
 | .begin => .beginRound
section
variable {P : Program}
def shutMarks : List Nat -> World -> World
 | [], w => w
 | D :: Ds, w => shutMarks Ds (w.putObj D (.deferred none))
theorem steps_marks {fr0 : Frame} {cs : List Frame} (hm : fr0.mode = .returning) : ∀ (Ds : List Nat) (w : World), Ds.Nodup -> (∀ D ∈ Ds, w.heap[D]? = some (.deferred (some []))) ->
  Steps P (lone { fr0 with defers := Ds.map markOf } cs w) (lone { fr0 with defers := [] } cs (shutMarks Ds w))
 | [], w, _, _ => .refl _ _
 | D :: Ds, w, hn, h => by
  have hk := run_takeDeferred (P := P) (h D (by simp))
  have h1 := step_collected (P := P) (fr := { fr0 with defers := (D :: Ds).map markOf }) (cs := cs) (w := w) (by show fr0.mode ≠ .run; rw [hm]; simp) (d := markOf D) (ds := Ds.map markOf) rfl rfl hk
  refine .head h1 ?_
  rw [List.nodup_cons] at hn
  exact steps_marks hm Ds _ hn.2 (fun E hE => (World.putObj_heap_other (by intro he; subst he; exact hn.1 hE)).trans (h E (by simp [hE])))
theorem goes_retMarks {f : FuncId} {fn : Func} {R : Ending -> World -> Prop} {todo : List Item} {a : Act} {w : World} {v : Value} {Ds : List Nat}
  (ht : todo = [] \/ ∃ k, todo = .code .ret :: k) (hf : P.funcs[f]? = some fn) (hd : a.defers = Ds.map markOf) (hn : Ds.Nodup) (hm : ∀ D ∈ Ds, w.heap[D]? = some (.deferred (some [])))
  (hr : (results fn a.tmps).run P (shutMarks Ds w) = .ok v (shutMarks Ds w)) (hR : R (.returned v) (shutMarks Ds w)) : Goes P (f, none) R todo a w := by
 intro cs _
 rcases ht with rfl | ⟨k, rfl⟩
 ·refine ⟨.returned v, _, lone { (atF (f, none)).atR a [] with mode := .returning, defers := [] } cs (shutMarks Ds w), hR, .head (stepR_end rfl) ?_, _, rfl, rfl, rfl, rfl, rfl, fn, hf, hr⟩
  have := steps_marks (P := P) (fr0 := { (atF (f, none)).atR a [] with mode := .returning }) (cs := cs) rfl Ds w hn hm
  rw [<- hd] at this
  exact this
 ·refine ⟨.returned v, _, lone { (atF (f, none)).atR a (.code .ret :: k) with mode := .returning, defers := [] } cs (shutMarks Ds w), hR, .head (stepR_ret rfl) ?_, _, rfl, rfl, rfl, rfl, rfl, fn, hf, hr⟩
  have := steps_marks (P := P) (fr0 := { (atF (f, none)).atR a (.code .ret :: k) with mode := .returning }) (cs := cs) rfl Ds w hn hm
  rw [<- hd] at this
  exact this
theorem cell_putNC {w : World} {D : Nat} {o o' : Obj} (hd : w.heap[D]? = some o) (ho : objNC o = true) {b off : Nat} {u : Value} (h : w.cell? ⟨b, off, none⟩ = some u) : (w.putObj D o').cell? ⟨b, off, none⟩ = some u := by
 have hne : b ≠ D := by
  rintro rfl
  simp only [World.cell?, hd] at h
  cases o <;> simp_all [objNC]
 rw [<- h]
 exact World.cell?_of_block (World.putObj_heap_other hne)
theorem sub_putNC {s : Hp} {w : World} {D : Nat} {o o' : Obj} (h : Sub s w) (hd : w.heap[D]? = some o) (ho : objNC o = true) : Sub s (w.putObj D o') := fun b off u hb => cell_putNC hd ho (h b off u hb)
theorem below_put {B : Nat} {w w' : World} {D : Nat} {o : Obj} (h : Below B w w') (hD : B <= D) : Below B w (w'.putObj D o) :=
 h.trans ⟨rfl, rfl, rfl, by simp, fun k hk => World.putObj_heap_other (by omega)⟩
structure MarksOk (w0 : World) (Ds : List Nat) : Prop where
 nd : Ds.Nodup
 ge : ∀ D ∈ Ds, w0.heap.size <= D
theorem MarksOk.nil (w0 : World) : MarksOk w0 [] := ⟨by simp, by simp⟩
theorem shutMarks_facts {s : Hp} {B : Nat} {w0 : World} : ∀ (Ds : List Nat) (w : World), Ds.Nodup -> (∀ D ∈ Ds, B <= D) -> (∀ D ∈ Ds, w.heap[D]? = some (.deferred (some []))) -> Below B w0 w -> Sub s w ->
  Below B w0 (shutMarks Ds w) /\ Sub s (shutMarks Ds w) /\ ∀ (i : Nat) (o : Obj), w.heap[i]? = some o -> objNC o = false -> (shutMarks Ds w).heap[i]? = some o
 | [], w, _, _, _, h1, h2 => ⟨h1, h2, fun _ _ h _ => h⟩
 | D :: Ds, w, hn, hB, hd, h1, h2 => by
  rw [List.nodup_cons] at hn
  have hD := hd D (by simp)
  obtain ⟨a, b, c⟩ := shutMarks_facts (s := s) (B := B) (w0 := w0) Ds (w.putObj D (.deferred none)) hn.2 (fun E hE => hB E (by simp [hE]))
   (fun E hE => (World.putObj_heap_other (by intro he; subst he; exact hn.1 hE)).trans (hd E (by simp [hE]))) (below_put h1 (hB D (by simp))) (sub_putNC h2 hD rfl)
  refine ⟨a, b, fun i o hi ho => c i o ?_ ho⟩
  have hne : i ≠ D := by
   rintro rfl
   rw [hD] at hi
   simp only [Option.some.injEq] at hi
   subst hi
   simp [objNC] at ho
  exact (World.putObj_heap_other hne).trans hi
end
section
variable (P : Program) (f : Fr) (R : Ending -> World -> Prop) (body : Code)
abbrev QG (k : List PI) : Exit -> Act -> World -> Prop := fun e a w => e = .normal /\ Goes P f R (k.map (itemOf body)) a w
def GoesG (ρ : Env) (β : Nat -> Nat) (s : Hp) (g : Cfg) (a : Act) (w : World) : Prop :=
 match g.todo with
 | .dreg p done ks :: k =>
   wpAnyH P .any (opsAt (sub body p)) (QG P f R body k) (fun w' => HOk ρ β (maskH ks g.H) w' /\ Sub s w') ((opsAt (sub body p)).size - done.length) (listedOf (opsAt (sub body p)).size done) a w
 | todo => Goes P f R (todo.map (itemOf body)) a w
def ReachX (w0 : World) (s0 : Hp) (X : Fx) (g : Cfg) (ρ : Env) (s : Hp) : Prop := ∀ β a w, Rel w0 s0 X ρ s β g a w -> GoesG P f R body ρ β s g a w
end
abbrev Reach (P : Program) (f : FuncId) (R : Ending -> World -> Prop) (body : Code) (w0 : World) (s0 : Hp) (g : Cfg) (ρ : Env) (s : Hp) : Prop := ReachX P (f, none) R body w0 s0 (Xm []) g ρ s
section
variable {P : Program} {c : Ctx} {f : Fr} {fnc : Func} {fn : FnC} {w0 : World} {s0 : Hp} {X : Fx} {Q : Value -> Hp -> Prop} {T : Cfg -> Env -> Hp -> Prop}
theorem exit_spec (body : Code) (id : Nat) : ∀ (k k' : List PI), exitPI id k = some k' -> exitTo id (k.map (itemOf body)) = some (k'.map (itemOf body))
 | [], k', h => by simp [exitPI] at h
 | x :: k, k', h => by
  cases x <;> simp only [exitPI] at h <;> simp only [List.map_cons, itemOf, exitTo]
  case inBlock id' =>
   split at h
   ·rename_i he; rw [if_pos he]; simp only [Option.some.injEq] at h; rw [h]
   ·rename_i he; rw [if_neg he]; exact exit_spec body id k k' h
  all_goals first | (exact exit_spec body id k k' h) | (simp at h)
theorem goes_draw {R : Ending -> World -> Prop} {id : Nat} {ops : Array Oper} {S : World -> Prop} {k : List Item} {a : Act} {w : World} (hm : P.follows .mixedOrders = true)
  (hnd : f.2 = none \/ ∀ (i : Nat) (o : Oper), ops[i]? = some o -> isDefer o = false)
  (h : wpAnyH P .any ops (fun e a w => e = .normal /\ Goes P f R k a w) S ops.size (Array.replicate ops.size false) a { w with drawn := w.drawn + 1 }) : Goes P f R (.code (.region id ops true) :: k) a w := by
 intro cs hcs
 have h2 := wpAny_of_held _ _ _ _ h
 have h3 : ∀ t, wpOps P ops (fun e a w => e = .normal /\ Goes P f R k a w) (Region.schedule (P.follows .mixedOrders) ops t) a { w with drawn := w.drawn + 1 } := fun t => by
  simp only [Region.schedule, hm, Bool.true_or, if_true]
  exact wpAny_sound ops.size t _ a _ h2
 obtain ⟨e, w1, m, r, c, hl⟩ := Goes.ops hnd (h3 (w.tape w.drawn (.order (atF f).fn id))) cs hcs
 exact ⟨e, w1, m, r, .of_steps (.one stepR_region_draw) c, hl⟩
theorem Rel.drew {ρ s β} {g : Cfg} {a : Act} {w : World} (h : Rel w0 s0 X ρ s β g a w) : Rel w0 s0 X ρ s β g a { w with drawn := w.drawn + 1 } :=
 h.grow (w' := { w with drawn := w.drawn + 1 }) ⟨rfl, rfl, rfl, Nat.le_refl _, fun _ _ => rfl⟩ (Hp.le_refl _) (fun b o u hu => h.sb b o u hu) (fun b o u h1 h2 => by rw [h1] at h2; simp at h2)
theorem Rel.setsl {ρ s β} {g : Cfg} {a : Act} {w : World} (h : Rel w0 s0 X ρ s β g a w) {d : Nat} {v v' : SV} (hd : g.sl[d]? = some v) (hv : v'.den ρ β = v.den ρ β) :
  Rel w0 s0 X ρ s β { g with sl := g.sl.set d v' } a w := by
 refine ⟨?_, h.df, h.sz, h.kp, h.fs, h.ci, h.cb, h.cv, h.cj, h.ok, h.bel, h.sb, h.nw, h.le, h.bl, h.sp⟩
 rw [h.tm]
 apply congrArg
 simp only [SV.dens_map]
 rw [List.map_set, hv]
 symm
 apply List.ext_getElem?
 intro j
 rw [List.getElem?_set]
 split
 ·rename_i hj; subst hj
  obtain ⟨h1, h2⟩ := List.getElem?_eq_some_iff.1 hd
  simp [h1, h2]
 ·rfl
def resOne (tmps : Array Value) : ResultVar -> Sem Value
 | .tmp t => pure (tmps.getD t undef)
 | .cell a t => do loadVar t (<- asAddr (tmps.getD a undef))
theorem results_eq (fn : Func) (tmps : Array Value) : results fn tmps = (fn.results.mapM (resOne tmps) >>= fun vs => pure (if h : vs.size = 1 then vs[0] else .tuple vs)) := by
 unfold results
 congr 1
theorem results_den (hP : ProgOk P c) {ρ : Env} {β : Nat -> Nat} {sl : List SV} {H : List Blk} {a : Act} (ha : a.tmps = (SV.dens ρ β sl).toArray) {w : World} (hH : HOk ρ β H w) :
  ∀ (l : List ResultVar) (vs : List SV), resultSV sl H c.tab l = some vs -> (l.mapM (resOne a.tmps)).run P w = .ok (SV.dens ρ β vs) w
 | [], vs, h => by simp only [resultSV, Option.some.injEq] at h; subst h; simp [SV.dens]
 | .tmp t :: l, vs, h => by
  simp only [resultSV] at h
  split at h
  ·rename_i v vs' h1 h2
   simp only [Option.some.injEq] at h; subst h
   have ih := results_den hP ha hH l vs' h2
   have ht : a.tmps.getD t undef = v.den ρ β := ev_den (x := .tmp t) (by simpa [ev] using h1) ha
   have h0 : (resOne a.tmps (.tmp t)).run P w = .ok (v.den ρ β) w := by simp only [resOne, ht, Sem.run_pure]
   simp only [List.mapM_cons, Sem.run_bind, Sem.run_pure, h0, Result.andThen_ok, ih, SV.dens]
  ·simp at h
 | .cell x t :: l, vs, h => by
  simp only [resultSV] at h
  split at h
  ·rename_i k off i vs' h1 h2 h3
   have ih := results_den hP ha hH l vs' h3
   have hx : a.tmps.getD x undef = (SV.ptr k off).den ρ β := ev_den (x := .tmp x) (by simpa [ev] using h1) ha
   split at h
   case h_2 => simp at h
   rename_i cs T hk
   have key : ∀ v, partSV i cs off = some v -> vs = v :: vs' -> (List.mapM (resOne a.tmps) (ResultVar.cell x t :: l)).run P w = .ok (SV.dens ρ β vs) w := by
    intro v hv he
    subst he
    have hl := run_own (hP.tab _ _ h2) (ρ := ρ) (β := β) hv w (hH _ _ _ hk)
    have h0 : (resOne a.tmps (.cell x t)).run P w = .ok (v.den ρ β) w := by simp only [resOne, hx, SV.den, asAddr, Sem.run_bind, Sem.run_pure, Result.andThen_ok, hl]
    simp only [List.mapM_cons, Sem.run_bind, Sem.run_pure, h0, Result.andThen_ok, ih, SV.dens]
   split at h
   ·rename_i hagg
    split at h
    ·rename_i hle
     simp only [Option.some.injEq] at h
     exact key _ (by simp [partSV, hagg, hle]) h.symm
    ·simp at h
   ·rename_i hagg
    split at h
    ·rename_i v hv
     simp only [Option.some.injEq] at h
     exact key v (by simp only [partSV, hagg]; simpa using hv) h.symm
    ·simp at h
  ·simp at h
theorem ret_sound {f : FuncId} (hP : ProgOk P c) {Ds : List Nat} (hds : X.ds = Ds.map markOf) (hm : MarksOk w0 Ds) (hK : ∀ D ∈ Ds, X.K (D, .deferred (some []))) (hf : P.funcs[f]? = some fnc) (hres : fn.res = fnc.results.toList) {g : Cfg} {ρ : Env} {s : Hp} {β : Nat -> Nat} {a : Act} {w : World} (h : Rel w0 s0 X ρ s β g a w)
  (hvc : VC P Q T (retOut c fn g) ρ s) {todo : List Item} (ht : todo = [] \/ ∃ k, todo = .code .ret :: k) : Goes P (f, none) (Ret Q s0 w0) todo a w := by
 unfold retOut at hvc
 split at hvc
 case h_2 => exact hvc.elim
 rename_i vs hvs
 have hdf : ∀ D ∈ Ds, w.heap[D]? = some (.deferred (some [])) := fun D hD => (h.kp _ (hK D hD)).is
 have facts := fun s1 (hs1 : Sub s1 w) => shutMarks_facts (s := s1) Ds w hm.nd hm.ge hdf h.bel hs1
 have hok : HOk ρ β g.H (shutMarks Ds w) := fun k cs T hk => (facts s h.sb).2.2 _ _ (h.hok k cs T hk) rfl
 have hr := results_den (P := P) hP h.tm hok _ _ hvs
 have hrun : (results fnc a.tmps).run P (shutMarks Ds w) = .ok ((tupOf vs).den ρ β) (shutMarks Ds w) := by
  rw [results_eq, Sem.run_bind, Array.mapM_eq_mapM_toList, <- hres]
  simp only [Sem.run_map, hr, Result.andThen_ok, Sem.run_pure]
  match vs with
  | [] => simp [tupOf, SV.den, SV.dens]
  | [v] => simp [tupOf, SV.dens]
  | v1 :: v2 :: vs => simp [tupOf, SV.den, SV.dens]
 refine goes_retMarks ht hf (h.df.trans hds) hm.nd hdf hrun ?_
 split at hvc
 ·exact ⟨_, s, rfl, (facts s h.sb).1, h.le, (facts s h.sb).2.1, h.nw, hvc β s (Hp.le_refl s) (fun k cs T hk => by simp at hk)⟩
 ·obtain ⟨k1, k2, k3, _⟩ := h.shut (SV.ptrss vs)
  exact ⟨_, _, rfl, (facts s h.sb).1, k1.le, (facts _ k1.sb).2.1, k1.nw, hvc β _ k2 k3⟩
theorem guard_known {ops : Array Oper} {sl : List SV} {o : Oper} {b : Bool} (h : guardOf ops sl o = .known b) {ρ : Env} {β : Nat -> Nat} {a : Act} (ha : a.tmps = (SV.dens ρ β sl).toArray) :
  Region.wanted o (yielded ops a.tmps) = b := by
 unfold guardOf at h
 unfold Region.wanted
 split at h
 ·rename_i hg
  simp only [Gd.known.injEq] at h; subst h
  simp [hg]
 ·rename_i j want hg
  split at h
  ·simp at h
  ·rename_i d hd
   split at h
   ·rename_i b' hs
    simp only [Gd.known.injEq] at h; subst h
    have : a.tmps[d]? = some (.bool b') := by rw [ha]; simp [SV.dens_map, hs, SV.den, BE.den]
    simp only [hg, yielded, hd, Option.bind_some, this]
    cases b' <;> cases want <;> rfl
   ·simp at h
   ·simp at h
theorem guard_on {ops : Array Oper} {sl : List SV} {o : Oper} {d : Nat} {b : BE} (h : guardOf ops sl o = .on d b) : sl[d]? = some (.bool b) := by
 unfold guardOf at h
 split at h
 ·simp at h
 ·split at h
  ·simp at h
  ·split at h
   ·simp at h
   ·rename_i hs _
    simp only [Gd.on.injEq] at h
    obtain ⟨rfl, rfl⟩ := h
    assumption
   ·simp at h
theorem listed_snoc (n : Nat) (done : List Nat) (i : Nat) : listedOf n (done ++ [i]) = (listedOf n done).setIfInBounds i true := by simp [listedOf]
theorem hok_mask {ρ : Env} {β : Nat -> Nat} {H : List Blk} {w : World} (h : HOk ρ β H w) (ks : List Nat) : HOk ρ β (maskH ks H) w := fun k cs T hk => by
 rw [getBlk_mask] at hk
 split at hk
 ·exact h k cs T hk
 ·simp at hk
def EndOk (P : Program) (c : Ctx) (fn : FnC) (f : Fr) (X : Fx) (R : Ending -> World -> Prop) (Q : Value -> Hp -> Prop) (s0 : Hp) (w0 : World) : Prop :=
 c.leaf = true \/ ∃ (f' : FuncId) (fnc : Func) (Ds : List Nat), f = (f', none) /\ X.ds = Ds.map markOf /\ MarksOk w0 Ds /\ (∀ D ∈ Ds, X.K (D, .deferred (some []))) /\ R = Ret Q s0 w0 /\ P.funcs[f']? = some fnc /\ fn.res = fnc.results.toList
theorem EndOk.marks {f' : FuncId} (Ds : List Nat) (hm : MarksOk w0 Ds) (hf : P.funcs[f']? = some fnc) (hres : fn.res = fnc.results.toList) : EndOk P c fn (f', none) (Xm Ds) (Ret Q s0 w0) Q s0 w0 :=
 .inr ⟨f', fnc, Ds, rfl, rfl, hm, fun D hD => ⟨hD, rfl⟩, rfl, hf, hres⟩
theorem wpAnyH_mono {md : Region.Mode} {ops : Array Oper} {Qx : Exit -> Act -> World -> Prop} {S S' : World -> Prop} (h : ∀ w, S w -> S' w) : ∀ (fuel : Nat) (listed : Array Bool) (a : Act) (w : World), wpAnyH P md ops Qx S fuel listed a w -> wpAnyH P md ops Qx S' fuel listed a w
 | 0, _, _, _, k => k
 | fuel + 1, _, _, _, k => ⟨k.1, fun i hi => wpOp_mono (fun a' w' h' => ⟨h w' h'.1, wpAnyH_mono h fuel _ a' w' h'.2⟩) (k.2 i hi)⟩
theorem Rel.mapsl {ρ s β} {g : Cfg} {a : Act} {w : World} (h : Rel w0 s0 X ρ s β g a w) {k : IntKind} {e : IE} {j : Nat} (he : e.den ρ = (j : Int)) :
  Rel w0 s0 X ρ s β { g with sl := g.sl.map fun v => if SV.beq v (.int k e) then .int k (.l j) else v } a w := by
 refine ⟨?_, h.df, h.sz, h.kp, h.fs, h.ci, h.cb, h.cv, h.cj, h.ok, h.bel, h.sb, h.nw, h.le, h.bl, h.sp⟩
 rw [h.tm]
 apply congrArg
 simp only [SV.dens_map, List.map_map]
 apply List.map_congr_left
 intro v _
 simp only [Function.comp]
 split
 ·rename_i hb
  rw [SV.eq_of_beq _ _ hb]
  simp only [SV.den, IE.den, he]
 ·rfl
theorem split_vc {g : Cfg} {d : Nat} {k : IntKind} {e : IE} {r : Cfg -> Out} {ρ : Env} {s : Hp} : ∀ m, VC P Q T (splitOut g d k e r m) ρ s -> ∃ j : Nat, e.den ρ = (j : Int) /\ VC P Q T (r { g with sl := g.sl.map fun v => if SV.beq v (.int k e) then .int k (.l j) else v }) ρ s
 | 0, h => h.elim
 | m + 1, h => by
  have h : ((BE.eq e (.l m)).den ρ = true -> VC P Q T (r { g with sl := g.sl.map fun v => if SV.beq v (.int k e) then .int k (.l m) else v }) ρ s) /\ ((BE.eq e (.l m)).den ρ = false -> VC P Q T (splitOut g d k e r m) ρ s) := h
  cases hb : (BE.eq e (.l m)).den ρ with
  | true => exact ⟨m, by simpa [BE.den, IE.den, eqB_true] using hb, h.1 hb⟩
  | false => exact split_vc m (h.2 hb)
theorem goes_of {R : Ending -> World -> Prop} {body : Code} {ρ : Env} {β : Nat -> Nat} {s : Hp} {g : Cfg} {a : Act} {w : World} (h : GoesG P f R body ρ β s g a w) (h2 : ∀ p d ks k, g.todo ≠ .dreg p d ks :: k) : Goes P f R (g.todo.map (itemOf body)) a w := by
 unfold GoesG at h
 split at h
 ·rename_i p d ks k he
  exact absurd he (h2 _ _ _ _)
 ·exact h
theorem runX_sound {R : Ending -> World -> Prop} (hP : ProgOk P c)
  (hend : EndOk P c fn f X R Q s0 w0)
  (hnd : f.2 = none \/ ∀ p (i : Nat) (o : Oper), (opsAt (sub fn.body p))[i]? = some o -> isDefer o = false)
  (hT : ∀ g ρ s, T g ρ s -> ReachX P f R fn.body w0 s0 X g ρ s) :
  ∀ (n : Nat) (g : Cfg) (ρ : Env) (s : Hp), VC P Q T (run c fn n g) ρ s -> ReachX P f R fn.body w0 s0 X g ρ s := by
 intro n
 induction n with
 | zero => intro g ρ s h; exact h.elim
 | succ n ih =>
  intro g ρ s hvc β a w h
  have goto : ∀ {g' : Cfg} {t : List Item}, (∀ cs, Steps P (lone ((atF f).atR a t) cs w) (lone ((atF f).atR a (g'.todo.map (itemOf fn.body))) cs w)) ->
    GoesG P f R fn.body ρ β s g' a w -> (∀ p d ks k, g'.todo ≠ .dreg p d ks :: k) -> Goes P f R t a w :=
   fun hs hg h2 => Goes.step hs (goes_of hg h2)
  have ite : ∀ {b : BE} {x y : Out}, VC P Q T (.ite b x y) ρ s -> (b.den ρ = true /\ VC P Q T x ρ s) \/ (b.den ρ = false /\ VC P Q T y ρ s) := by
   intro b x y hv
   cases hb : b.den ρ with
   | true => exact .inl ⟨rfl, hv.1 hb⟩
   | false => exact .inr ⟨rfl, hv.2 hb⟩
  obtain ⟨todo, sl, H, ni, nb, nv, nj, fs⟩ := g
  unfold run at hvc
  simp only at hvc
  split at hvc
  case isTrue => exact hvc.elim
  rename_i hnoD
  have nod : ∀ (k : List PI), (∀ x ∈ k, x.isD = false) -> ∀ p d ks k', k ≠ .dreg p d ks :: k' := by
   intro k hk p d ks k' he
   have := hk (.dreg p d ks) (by rw [he]; simp)
   simp [PI.isD] at this
  have hk : ∀ x ∈ todo.drop 1, x.isD = false := by
   intro x hx
   cases hd : x.isD with
   | false => rfl
   | true => exact absurd (List.any_eq_true.2 ⟨x, hx, hd⟩) hnoD
  split at hvc
  ·
   split at hvc
   ·exact hT _ _ _ hvc β a w h
   ·rename_i hl
    rcases hend with h0 | ⟨f', fnc, Ds, rfl, hds, hm, hK, rfl, hf, hres⟩
    ·exact absurd h0 hl
    ·exact ret_sound hP hds hm hK hf hres h hvc (.inl rfl)
  ·exact hT _ _ _ hvc β a w h
  ·rename_i id k
   exact goto (fun cs => .one stepR_inBlock) (ih _ _ _ hvc β a w (h.todo k)) (nod k hk)
  ·rename_i p k
   exact goto (fun cs => .one (step_lone_go (by simp [stepG, stepG.exec, Frame.atR, itemOf]))) (ih _ _ _ hvc β a w (h.todo k)) (nod k hk)
  ·rename_i p k
   exact goto (fun cs => .one stepR_region_end) (ih _ _ _ hvc β a w (h.todo k)) (nod k hk)
  ·
   rename_i p k
   have hk' : ∀ x ∈ (PI.code p :: .inLoop p :: k), x.isD = false := by
    intro x hx
    simp only [List.mem_cons] at hx
    rcases hx with rfl | rfl | hx
    ·rfl
    ·rfl
    ·exact hk x hx
   have hsub : ∀ cs, Steps P (lone ((atF f).atR a (.inLoop (sub fn.body p) :: k.map (itemOf fn.body))) cs w) (lone ((atF f).atR a ((PI.code p :: .inLoop p :: k).map (itemOf fn.body))) cs w) := fun cs => .one stepR_inLoop
   split at hvc
   ·exact goto (g' := { todo := .code p :: .inLoop p :: k, sl := sl, H := H, ni := ni, nb := nb, nv := nv, nj := nj, fs := fs }) hsub (hT _ _ _ hvc β a w (h.todo _)) (nod _ hk')
   ·exact goto (g' := { todo := .code p :: .inLoop p :: k, sl := sl, H := H, ni := ni, nb := nb, nv := nv, nj := nj, fs := fs }) hsub (ih _ _ _ hvc β a w (h.todo _)) (nod _ hk')
  ·
   rename_i p k
   have hk1 : ∀ (x : PI), x.isD = false -> ∀ y ∈ (x :: k), y.isD = false := by
    intro x hx y hy
    rcases List.mem_cons.1 hy with rfl | hy
    ·exact hx
    ·exact hk y hy
   have hk2 : ∀ (x z : PI), x.isD = false -> z.isD = false -> ∀ y ∈ (x :: z :: k), y.isD = false := by
    intro x z hx hz y hy
    rcases List.mem_cons.1 hy with rfl | hy
    ·exact hx
    ·exact hk1 z hz y hy
   show Goes P f _ (.code (sub fn.body p) :: k.map (itemOf fn.body)) a w
   split at hvc
   ·rename_i hs; rw [hs]
    exact goto (fun cs => .one stepR_skip) (ih _ _ _ hvc β a w (h.todo k)) (nod k hk)
   ·rename_i l hs; rw [hs]
    exact goto (fun cs => .one stepR_label) (ih _ _ _ hvc β a w (h.todo k)) (nod k hk)
   ·rename_i x y hs
    have e1 : sub fn.body (false :: p) = x := by simp [sub, hs, child]
    have e2 : sub fn.body (true :: p) = y := by simp [sub, hs, child]
    rw [hs]
    refine goto (fun cs => .one ?_) (ih _ _ _ hvc β a w (h.todo _)) (nod _ (hk2 _ _ rfl rfl))
    simp only [List.map_cons, itemOf, e1, e2]
    exact stepR_seq
   ·rename_i x y z hs
    have e1 : sub fn.body (false :: p) = y := by simp [sub, hs, child]
    have e2 : sub fn.body (true :: p) = z := by simp [sub, hs, child]
    rw [hs]
    have cond : ∀ b : Bool, a.eval x = .bool b -> ∀ cs, Steps P (lone ((atF f).atR a (.code (.cond x y z) :: k.map (itemOf fn.body))) cs w) (lone ((atF f).atR a ((PI.code ((!b) :: p) :: k).map (itemOf fn.body))) cs w) := by
     intro b hb cs
     refine .one ?_
     rw [stepR_cond hb]
     cases b <;> simp [itemOf, e1, e2]
    split at hvc
    ·rename_i b hb
     exact goto (cond b (ev_den hb h.tm)) (ih _ _ _ hvc β a w (h.todo _)) (nod _ (hk1 _ rfl))
    ·rename_i b _ hb
     have hev := ev_den hb h.tm
     rcases ite hvc with ⟨hb', hv⟩ | ⟨hb', hv⟩
     ·simp only [SV.den, hb'] at hev
      exact goto (cond true hev) (ih _ _ _ hv β a w (h.todo _)) (nod _ (hk1 _ rfl))
     ·simp only [SV.den, hb'] at hev
      exact goto (cond false hev) (ih _ _ _ hv β a w (h.todo _)) (nod _ (hk1 _ rfl))
    ·exact hvc.elim
   ·rename_i id x hs
    have e1 : sub fn.body (false :: p) = x := by simp [sub, hs, child]
    rw [hs]
    refine goto (fun cs => .one ?_) (ih _ _ _ hvc β a w (h.todo _)) (nod _ (hk2 _ _ rfl rfl))
    simp only [List.map_cons, itemOf, e1]
    exact stepR_block
   ·rename_i x hs
    have e1 : sub fn.body (false :: p) = x := by simp [sub, hs, child]
    rw [hs]
    have hst : ∀ cs, Steps P (lone ((atF f).atR a (.code (.loop x) :: k.map (itemOf fn.body))) cs w) (lone ((atF f).atR a ((PI.code (false :: p) :: .inLoop (false :: p) :: k).map (itemOf fn.body))) cs w) := by
     intro cs
     simp only [List.map_cons, itemOf, e1]
     exact .one stepR_loop
    split at hvc
    ·exact goto (g' := { todo := .code (false :: p) :: .inLoop (false :: p) :: k, sl := sl, H := H, ni := ni, nb := nb, nv := nv, nj := nj, fs := fs }) hst (hT _ _ _ hvc β a w (h.todo _)) (nod _ (hk2 _ _ rfl rfl))
    ·exact goto (g' := { todo := .code (false :: p) :: .inLoop (false :: p) :: k, sl := sl, H := H, ni := ni, nb := nb, nv := nv, nj := nj, fs := fs }) hst (ih _ _ _ hvc β a w (h.todo _)) (nod _ (hk2 _ _ rfl rfl))
   ·rename_i x hs
    have e1 : sub fn.body (false :: p) = x := by simp [sub, hs, child]
    rw [hs]
    refine goto (fun cs => .one ?_) (ih _ _ _ hvc β a w (h.todo _)) (nod _ (hk2 _ _ rfl rfl))
    simp only [List.map_cons, itemOf, e1]
    exact step_lone_go (by simp [stepG, stepG.exec, Frame.atR])
   ·rename_i id hs
    rw [hs]
    split at hvc
    ·rename_i k' hk'
     have hmem : ∀ (k k' : List PI), exitPI id k = some k' -> ∀ x ∈ k', x ∈ k := by
      intro k
      induction k with
      | nil => intro k' h; simp [exitPI] at h
      | cons y k ihk =>
       intro k' h x hx
       cases y <;> simp only [exitPI] at h
       case inBlock id' =>
        split at h
        ·simp only [Option.some.injEq] at h; subst h; simp [hx]
        ·simp [ihk _ h x hx]
       all_goals first | (simp at h; done) | (simp [ihk _ h x hx])
     exact goto (fun cs => .one (stepR_exit (exit_spec fn.body id _ _ hk'))) (ih _ _ _ hvc β a w (h.todo k')) (nod k' (fun x hx => hk x (hmem _ _ hk' x hx)))
    ·split at hvc
     ·have := hT _ _ _ hvc β a w h
      simp only [GoesG, List.map_cons, itemOf, hs] at this
      exact this
     ·exact hvc.elim
   ·rename_i hs
    rw [hs]
    split at hvc
    ·have := hT _ _ _ hvc β a w h
     simp only [GoesG, List.map_cons, itemOf, hs] at this
     exact this
    ·rename_i hl
     rcases hend with h0 | ⟨f', fnc, Ds, rfl, hds, hm, hK, rfl, hf, hres⟩
     ·exact absurd h0 hl
     ·exact ret_sound hP hds hm hK hf hres h hvc (.inr ⟨_, rfl⟩)
   ·rename_i id ops draw hs
    have e1 : opsAt (sub fn.body p) = ops := by simp [hs, opsAt]
    rw [hs]
    split at hvc
    ·rename_i hd
     subst hd
     split at hvc
     ·have := hT _ _ _ hvc β a w h
      simp only [GoesG, List.map_cons, itemOf, hs] at this
      exact this
     split at hvc
     case isFalse => exact hvc.elim
     rename_i hns
     refine goes_draw (S := fun w' => HOk ρ β (maskH (stableBlks ops sl H.length) H) w' /\ Sub s w') hP.mixed (hnd.imp (fun h0 => h0) (fun h0 => by have := h0 p; rw [e1] at this; exact this)) ?_
     have := ih _ _ _ hvc β a _ ((h.drew).todo (.dreg p [] (stableBlks ops sl H.length) :: k))
     simp only [GoesG] at this
     rw [e1] at this
     exact this
    ·rename_i hd
     have hd : draw = false := by simpa using hd
     subst hd
     refine Goes.step (fun cs => .one stepR_region) ?_
     have := ih _ _ _ hvc β a w (h.todo (.reg p (List.range ops.size) :: k))
     simp only [GoesG, List.map_cons, itemOf] at this
     rw [e1] at this
     exact this
   ·exact hT _ _ _ hvc β a w h
   ·exact hvc.elim
  ·
   rename_i p i is k
   show Goes P f R (.inRegion (opsAt (sub fn.body p)) (i :: is) :: k.map (itemOf fn.body)) a w
   split at hvc
   ·exact hvc.elim
   rename_i o ho
   have hnd' : f.2 = none \/ isDefer o = false := hnd.imp (fun h0 => h0) (fun h0 => h0 p i o ho)
   split at hvc
   ·rename_i hg
    split at hvc
    ·exact hT _ _ _ hvc β a w h
    split at hvc
    ·rename_i d kd e m hsp
     obtain ⟨j, hj, hv⟩ := split_vc m hvc
     exact ih _ _ _ hv β a w (h.mapsl hj)
    ·refine goes_op ho hnd' ?_
     rw [if_pos (guard_known hg h.tm)]
     refine opRun_sound hP (h.todo (.reg p is :: k)) hvc ?_
     intro ρ' s' β' g' a' w' hv hr _ htd _
     have := ih _ _ _ hv β' a' w' hr
     unfold GoesG at this
     rw [htd] at this
     exact this
   ·rename_i hg
    have := guard_known hg h.tm
    refine goes_op ho hnd' ?_
    rw [if_neg (by rw [this]; simp)]
    have h2 := (h.todo (.reg p is :: k)).put o.dst .undef
    exact ih _ _ _ hvc β _ w h2
   ·rename_i d b hg
    have hd := guard_on hg
    rcases ite hvc with ⟨hb', hv⟩ | ⟨hb', hv⟩
    ·exact ih _ _ _ hv β a w (h.setsl hd (by simp [SV.den, BE.den, hb']))
    ·exact ih _ _ _ hv β a w (h.setsl hd (by simp [SV.den, BE.den, hb']))
   ·exact hvc.elim
  ·
   rename_i p done ks k
   have hSw : HOk ρ β (maskH ks H) w /\ Sub s w := ⟨hok_mask h.hok ks, h.sb⟩
   show wpAnyH P .any (opsAt (sub fn.body p)) (QG P f R fn.body k) (fun w' => HOk ρ β (maskH ks H) w' /\ Sub s w') ((opsAt (sub fn.body p)).size - done.length) (listedOf (opsAt (sub fn.body p)).size done) a w
   have dset : ∀ {d : Nat} {b : BE}, sl[d]? = some (.bool b) -> VC P Q T (.ite b (run c fn n { todo := .dreg p done ks :: k, sl := sl.set d (.bool (.t true)), H := H, ni := ni, nb := nb, nv := nv, nj := nj, fs := fs })
     (run c fn n { todo := .dreg p done ks :: k, sl := sl.set d (.bool (.t false)), H := H, ni := ni, nb := nb, nv := nv, nj := nj, fs := fs })) ρ s ->
     wpAnyH P .any (opsAt (sub fn.body p)) (QG P f R fn.body k) (fun w' => HOk ρ β (maskH ks H) w' /\ Sub s w') ((opsAt (sub fn.body p)).size - done.length) (listedOf (opsAt (sub fn.body p)).size done) a w := by
    intro d b hd hv
    rcases ite hv with ⟨hb', hv⟩ | ⟨hb', hv⟩
    ·exact ih _ _ _ hv β a w (h.setsl hd (by simp [SV.den, BE.den, hb']))
    ·exact ih _ _ _ hv β a w (h.setsl hd (by simp [SV.den, BE.den, hb']))
   split at hvc
   ·rename_i hr
    exact wpAnyH_done hr ⟨rfl, goes_of (ih _ _ _ hvc β a w (h.todo k)) (nod k hk)⟩ _
   rename_i rs hne
   split at hvc
   case isTrue => exact hvc.elim
   rename_i hchk
   simp only [Bool.not_eq_true', Bool.not_eq_false, Bool.and_eq_true, decide_eq_true_eq, List.all_eq_true] at hchk
   obtain ⟨⟨hlt, hks⟩, hns⟩ := hchk
   have hfuel : (opsAt (sub fn.body p)).size - done.length = ((opsAt (sub fn.body p)).size - (done.length + 1)) + 1 := by omega
   rw [hfuel]
   have hlen : ∀ i, (done ++ [i]).length = done.length + 1 := by simp
   split at hvc
   ·
    rename_i i hfind
    split at hvc
    ·exact hvc.elim
    rename_i o ho
    have hfl := List.find?_some hfind
    have hmem := List.mem_of_find?_eq_some hfind
    unfold floats at hfl
    simp only [ho, Bool.and_eq_true] at hfl
    obtain ⟨hfree, hfl⟩ := hfl
    have hready : (Region.ready .any (opsAt (sub fn.body p)) (listedOf (opsAt (sub fn.body p)).size done)).contains i = true := by simpa using hmem
    split at hvc
    ·rename_i hg
     split at hvc
     ·rename_i ns v hpv
      obtain ⟨hn, hvc⟩ := VC_needs P Q T _ _ _ _ hvc
      refine wpAnyH_take ho hns hfree hready (by intro c a w hq; exact absurd hq.1 (by simp)) (v := v.den ρ β) (.inl ⟨guard_known hg h.tm, fun w' hw' => run_pv hP h.ok hpv hn h.tm hw'.1⟩) hSw ?_
      have := ih _ _ _ hvc β _ w ((h.todo (.dreg p (done ++ [i]) ks :: k)).put o.dst v)
      simp only [GoesG] at this
      rw [hlen, listed_snoc] at this
      exact this
     ·exact hvc.elim
    ·rename_i hg
     have hoff : guardOf (opsAt (sub fn.body p)) sl o = .known false := by
      cases hgo : guardOf (opsAt (sub fn.body p)) sl o with
      | known b =>
       cases b with
       | true => exact absurd hgo hg
       | false => rfl
      | on d b => rw [hgo] at hfl; simp at hfl
      | bad => rw [hgo] at hfl; simp at hfl
     refine wpAnyH_take ho hns hfree hready (by intro c a w hq; exact absurd hq.1 (by simp)) (v := undef) (.inr ⟨guard_known hoff h.tm, rfl⟩) hSw ?_
     have := ih _ _ _ hvc β _ w ((h.todo (.dreg p (done ++ [i]) ks :: k)).put o.dst .undef)
     simp only [GoesG] at this
     rw [hlen, listed_snoc] at this
     exact this
   ·split at hvc
    ·
     rename_i i hfind
     split at hvc
     ·exact hvc.elim
     rename_i o ho
     have hfl := List.find?_some hfind
     have hmem := List.mem_of_find?_eq_some hfind
     unfold floatsL at hfl
     simp only [ho, Bool.and_eq_true] at hfl
     obtain ⟨hfree, hfl⟩ := hfl
     have hready : (Region.ready .any (opsAt (sub fn.body p)) (listedOf (opsAt (sub fn.body p)).size done)).contains i = true := by simpa using hmem
     split at hfl
     case h_2 => simp at hfl
     rename_i t x hg hop
     rw [hop] at hvc
     simp only at hvc
     split at hvc
     case h_2 => exact hvc.elim
     rename_i xs hxs
     obtain ⟨v, ρ', g', hrun, hvc', hr', hst, htd⟩ := load_sound hP (h.todo (.dreg p (done ++ [i]) ks :: k)) hop hxs hvc
     have hstab := (hst (fun _ => False)).2 ks (fun q hq => ⟨hks q hq, fun h0 => h0⟩)
     refine wpAnyH_take ho hns hfree hready (by intro c a w hq; exact absurd hq.1 (by simp)) (v := v) (.inl ⟨guard_known hg h.tm, fun w' hw' => hrun w' hw'.2⟩) hSw ?_
     have := ih _ _ _ hvc' β _ w hr'
     unfold GoesG at this
     rw [htd] at this
     simp only at this
     rw [hlen, listed_snoc] at this
     exact wpAnyH_mono (fun w' hw' => ⟨(hstab w').1 hw'.1, hw'.2⟩) _ _ _ _ this
    split at hvc
    ·rename_i d kd e m hfs
     rw [<- hfuel]
     obtain ⟨i, hi, hh⟩ := List.exists_of_findSome?_eq_some hfs
     unfold splitsAt at hh
     split at hh
     ·simp at hh
     ·split at hh
      ·obtain ⟨j, hj, hv⟩ := split_vc m hvc
       exact ih _ _ _ hv β a w (h.mapsl hj)
      ·simp at hh
    split at hvc
    ·rename_i d b hfs
     rw [<- hfuel]
     obtain ⟨i, hi, hh⟩ := List.exists_of_findSome?_eq_some hfs
     unfold hangs at hh
     split at hh
     ·simp at hh
     ·split at hh
      ·rename_i hg
       simp only [Option.some.injEq, Prod.mk.injEq] at hh
       obtain ⟨rfl, rfl⟩ := hh
       exact dset (guard_on hg) hvc
      ·simp at hh
    ·obtain ⟨hne2, hall⟩ := VC_bothAll _ _ _ _ _ _ hvc
     refine wpAnyH_all rfl (by intro h0; rw [h0] at hne2; simp at hne2) ?_
     intro i hi
     have hvc := hall _ (List.mem_map.2 ⟨i, hi, rfl⟩)
     split at hvc
     ·exact hvc.elim
     rename_i o ho
     split at hvc
     ·rename_i hg
      split at hvc
      case isTrue => exact hvc.elim
      rename_i hbad
      unfold wpOp
      simp only [ho]
      rw [if_pos (guard_known hg h.tm)]
      refine .inl (opRun_sound hP (h.todo (.dreg p (done ++ [i]) ks :: k)) hvc ?_)
      intro ρ' s' β' g' a' w' hv hr hst htd hle
      have hstab := hst.2 ks (fun q hq => ⟨hks q hq, fun ⟨off, new, hso⟩ => by
       apply hbad
       unfold storeBad
       have hso : storeOf c sl H o.op = some (q, off, new) := hso
       simp only [hso]
       simpa using hq⟩)
      refine ⟨⟨(hstab w').1 (hok_mask hr.hok ks), fun b o u hb => hr.sb b o u (hle b o u hb)⟩, ?_⟩
      have := ih _ _ _ hv β' a' w' hr
      unfold GoesG at this
      rw [htd] at this
      simp only at this
      rw [hlen, listed_snoc] at this
      exact wpAnyH_mono (fun w'' hw'' => ⟨(hstab w'').1 hw''.1, fun b o u hb => hw''.2 b o u (hle b o u hb)⟩) _ _ _ _ this
     ·exact hvc.elim
theorem run_sound {f : FuncId} (hP : ProgOk P c) (hf : P.funcs[f]? = some fnc) (hres : fn.res = fnc.results.toList) (hT : ∀ g ρ s, T g ρ s -> Reach P f (Ret Q s0 w0) fn.body w0 s0 g ρ s) :
  ∀ (n : Nat) (g : Cfg) (ρ : Env) (s : Hp), VC P Q T (run c fn n g) ρ s -> Reach P f (Ret Q s0 w0) fn.body w0 s0 g ρ s :=
 runX_sound hP (EndOk.marks [] (.nil _) hf hres) (.inl rfl) hT
end
end Go.Sy
namespace Go.Sy
open Go.RowKit
def b6 (k : Nat) : SV := .agg [.int .i64 (.a k), .int .i64 (.a (k + 1)), .int .i64 (.a (k + 2)), .int .i64 (.a (k + 3)), .int .i64 (.a (k + 4)), .int .i64 (.a (k + 5))]
def fnOf (f : Func) : FnC := ⟨f.body.getD .skip, f.results.toList⟩
def startCfg (ntmps : Nat) (args : List SV) (ni nb nv : Nat) : Cfg := { todo := [.code []], sl := args ++ List.replicate (ntmps - args.length) .undef, H := [], ni, nb, nv, nj := 0 }
theorem dens_append (ρ : Env) (β : Nat -> Nat) (l m : List SV) : SV.dens ρ β (l ++ m) = SV.dens ρ β l ++ SV.dens ρ β m := by simp [SV.dens_map]
theorem dens_replicate (ρ : Env) (β : Nat -> Nat) (n : Nat) : SV.dens ρ β (List.replicate n .undef) = List.replicate n undef := by simp [SV.dens_map, SV.den]
section
variable {P : Program} {c : Ctx} {f : FuncId} {fnc : Func} {fn : FnC} {Q : Value -> Hp -> Prop}
theorem ct_run (hP : ProgOk P c) (hf : P.funcs[f]? = some fnc) (hb : fnc.body = some fn.body) (hres : fn.res = fnc.results.toList) (n : Nat) {args : List SV} {ρ : Env} {s0 : Hp} (hρ : ρ.Ok) (hj : ρ.j = [])
  (h : ∀ w0, VC P Q (Reach P f (Ret Q s0 w0) fn.body w0 s0) (run c fn n (startCfg fnc.ntmps args ρ.i.length ρ.b.length ρ.v.length)) ρ s0) : Ct P f (SV.dens ρ id args) s0 Q := by
 intro w hsub
 refine calls_of_goes hf hb ?_
 have hr : Rel w s0 (Xm []) ρ s0 id (startCfg fnc.ntmps args ρ.i.length ρ.b.length ρ.v.length) { tmps := (SV.dens ρ id args).toArray ++ Array.replicate (fnc.ntmps - (SV.dens ρ id args).toArray.size) undef, defers := [] } w := by
  refine ⟨?_, rfl, Nat.zero_le _, fun x hx => by simp [Xm] at hx, rfl, rfl, rfl, rfl, by simp [hj, startCfg], hρ, Below.refl _ _, hsub, fun b o u h1 h2 => by rw [h1] at h2; simp at h2, Hp.le_refl _, fun k b hk => by simp [startCfg] at hk, fun j k bj bk _ hj => by simp [startCfg] at hj⟩
  simp only [startCfg, dens_append, dens_replicate, List.size_toArray, dens_length]
  apply Array.ext'
  simp
 have := run_sound (w0 := w) (s0 := s0) hP hf hres (fun _ _ _ h => h) n _ _ _ (h w) id _ w hr
 exact this
structure Asg where
 is : List IE
 bs : List BE
 vs : List SV
 js : List SV
 deriving Inhabited
structure Base where
 ni : Nat
 nb : Nat
 nv : Nat
 nj : Nat
 deriving Inhabited
def Cfg.base (g : Cfg) : Base := ⟨g.ni, g.nb, g.nv, g.nj⟩
section
variable (m : Base) (A : Asg)
def vsub (n : Nat) : Option SV := if n < m.nv then some (.va n) else A.vs[n - m.nv]?
def IE.sbt : IE -> Option IE
 | .a n => if n < m.ni then some (.a n) else A.is[n - m.ni]?
 | .l z => some (.l z)
 | .add x y => match x.sbt, y.sbt with | some x, some y => some (.add x y) | _, _ => none
 | .sub x y => match x.sbt, y.sbt with | some x, some y => some (.sub x y) | _, _ => none
 | .mul x y => match x.sbt, y.sbt with | some x, some y => some (.mul x y) | _, _ => none
 | .tdiv x y => match x.sbt, y.sbt with | some x, some y => some (.tdiv x y) | _, _ => none
 | .tmod x y => match x.sbt, y.sbt with | some x, some y => some (.tmod x y) | _, _ => none
 | .mn x y => match x.sbt, y.sbt with | some x, some y => some (.mn x y) | _, _ => none
 | .mx x y => match x.sbt, y.sbt with | some x, some y => some (.mx x y) | _, _ => none
 | .ifeq p q x y => match p.sbt, q.sbt, x.sbt, y.sbt with | some p, some q, some x, some y => some (.ifeq p q x y) | _, _, _, _ => none
 | .wr k x => x.sbt.map (.wr k)
 | .slen n => if n < m.nv then some (.slen n) else match A.vs[n - m.nv]? with
  | some (.va k) => some (.slen k)
  | _ => none
def BE.sbt : BE -> Option BE
 | .t b => some (.t b)
 | .a n => if n < m.nb then some (.a n) else A.bs[n - m.nb]?
 | .lt x y => match x.sbt m A, y.sbt m A with | some x, some y => some (.lt x y) | _, _ => none
 | .le x y => match x.sbt m A, y.sbt m A with | some x, some y => some (.le x y) | _, _ => none
 | .eq x y => match x.sbt m A, y.sbt m A with | some x, some y => some (.eq x y) | _, _ => none
 | .not x => x.sbt.map .not
 | .and x y => match x.sbt, y.sbt with | some x, some y => some (.and x y) | _, _ => none
 | .or x y => match x.sbt, y.sbt with | some x, some y => some (.or x y) | _, _ => none
 | .nil n => if n < m.nv then some (.nil n) else match A.vs[n - m.nv]? with
  | some (.va k) => some (.nil k)
  | _ => none
 | .is q n => if n < m.nv then some (.is q n) else match A.vs[n - m.nv]? with
  | some (.va k) => some (.is q k)
  | _ => none
mutual
def SV.sbt : SV -> Option SV
 | .int k e => (e.sbt m A).map (.int k)
 | .bool b => (b.sbt m A).map .bool
 | .va n => vsub m A n
 | .junk n => if n < m.nj then some (.junk n) else A.js[n - m.nj]?
 | .ea n i size off => match vsub m A n, i.sbt m A with | some (.va k), some i => some (.ea k i size off) | _, _ => none
 | .pa n off => match vsub m A n with | some (.va k) => some (.pa k off) | _ => none
 | .agg cs => (SV.sbts cs).map .agg
 | .tup cs => (SV.sbts cs).map .tup
 | .fn f cs => (SV.sbts cs).map (.fn f)
 | .str s => some (.str s)
 | .undef => some .undef
 | .nilS => some .nilS
 | .nilF => some .nilF
 | .nilP => some .nilP
 | .nilI => some .nilI
 | .ptr k o => some (.ptr k o)
 | .sl k n => some (.sl k n)
 | .slc k n q => some (.slc k n q)
def SV.sbts : List SV -> Option (List SV)
 | [] => some []
 | x :: l => match x.sbt, SV.sbts l with | some x, some l => some (x :: l) | _, _ => none
end
def optBeqs : Option (List SV) -> List SV -> Bool
 | some l, l' => SV.beqs l l'
 | none, _ => false
def blkFits : Blk -> Option Blk -> Bool
 | .cells cs T sh, some (.cells cs' T' sh') => optBeqs (SV.sbts m A cs) cs' && T == T' && sh == sh'
 | .row n T size, b => 0 < size && match vsub m A n with
  | some .nilS => true
  | some (.va n') => match b with
   | some (.row n2 T' size') => n2 == n' && T == T' && size == size'
   | _ => false
  | _ => false
 | _, _ => false
def hFits : List Blk -> List Blk -> Bool
 | [], _ => true
 | b :: l, [] => blkFits m A b none && hFits l []
 | b :: l, b' :: l' => blkFits m A b (some b') && hFits l l'
def fsFits : List (List SV) -> List (List SV) -> Bool
 | [], [] => true
 | x :: l, y :: l' => optBeqs (SV.sbts m A x) y && fsFits l l'
 | _, _ => false
def fits (t g : Cfg) : Bool :=
 decide (t.todo = g.todo) && fsFits m A t.fs g.fs && optBeqs (SV.sbts m A t.sl) g.sl && hFits m A t.H g.H &&
 t.ni == m.ni + A.is.length && t.nb == m.nb + A.bs.length && t.nv == m.nv + A.vs.length && t.nj == m.nj + A.js.length &&
 m.ni <= g.ni && m.nb <= g.nb && m.nv <= g.nv && m.nj <= g.nj &&
 A.vs.all SV.flat && SV.oks g.ni g.nb g.nv g.nj (fun _ => false) A.vs
end
def Env.asg (ρ : Env) (β : Nat -> Nat) (m : Base) (A : Asg) : Env :=
 ⟨ρ.i.take m.ni ++ A.is.map (IE.den ρ), ρ.b.take m.nb ++ A.bs.map (BE.den ρ), ρ.v.take m.nv ++ SV.dens ρ β A.vs, ρ.j.take m.nj ++ SV.dens ρ β A.js⟩
theorem take_get {α : Type} (l x : List α) (m n : Nat) (d : α) (hm : m <= l.length) (h : n < m) : (l.take m ++ x).getD n d = l.getD n d := by
 simp only [List.getD]
 rw [List.getElem?_append_left (by simp; omega), List.getElem?_take, if_pos h]
theorem take_new {α : Type} (l x : List α) (m n : Nat) (d : α) (hm : m <= l.length) (h : ¬ n < m) : (l.take m ++ x).getD n d = x.getD (n - m) d := by
 simp only [List.getD]
 rw [List.getElem?_append_right (by simp; omega)]
 simp [Nat.min_eq_left hm]
structure Lens (m : Base) (ρ : Env) : Prop where
 i : m.ni <= ρ.i.length
 b : m.nb <= ρ.b.length
 v : m.nv <= ρ.v.length
 j : m.nj <= ρ.j.length
section
variable {m : Base} {A : Asg} {ρ : Env} {β : Nat -> Nat}
theorem vsub_den (hL : Lens m ρ) {n : Nat} {v : SV} (h : vsub m A n = some v) : (ρ.asg β m A).v.getD n vd = v.den ρ β := by
 unfold vsub at h
 simp only [Env.asg]
 split at h
 ·rename_i hn
  simp only [Option.some.injEq] at h; subst h
  rw [take_get _ _ _ _ _ hL.v hn]; rfl
 ·rename_i hn
  rw [take_new _ _ _ _ _ hL.v hn]
  simp [SV.dens_map, h]
theorem IE.sbt_den (hL : Lens m ρ) : ∀ (e e' : IE), e.sbt m A = some e' -> e.den (ρ.asg β m A) = e'.den ρ := by
 intro e
 induction e with
 | a n =>
  intro e' h
  simp only [IE.sbt] at h
  simp only [IE.den, Env.asg]
  split at h
  ·rename_i hn
   simp only [Option.some.injEq] at h; subst h
   rw [take_get _ _ _ _ _ hL.i hn]; rfl
  ·rename_i hn
   rw [take_new _ _ _ _ _ hL.i hn]
   simp [h]
 | l z => intro e' h; simp only [IE.sbt, Option.some.injEq] at h; subst h; rfl
 | slen n =>
  intro e' h
  simp only [IE.sbt] at h
  simp only [IE.den]
  split at h
  ·rename_i hn
   simp only [Option.some.injEq] at h; subst h
   rw [vsub_den (β := β) hL (v := .va n) (by simp [vsub, hn])]; rfl
  ·rename_i hn
   split at h
   ·rename_i k hk
    simp only [Option.some.injEq] at h; subst h
    rw [vsub_den (β := β) hL (v := .va k) (by simp [vsub, hn, hk])]; rfl
   ·simp at h
 | wr k x ih =>
  intro e' h
  simp only [IE.sbt, Option.map_eq_some_iff] at h
  obtain ⟨x', h1, rfl⟩ := h
  simp only [IE.den, ih _ h1]
 | ifeq p q x y i1 i2 i3 i4 =>
  intro e' h
  simp only [IE.sbt] at h
  split at h
  ·rename_i p' q' x' y' h1 h2 h3 h4
   simp only [Option.some.injEq] at h; subst h
   simp only [IE.den, i1 _ h1, i2 _ h2, i3 _ h3, i4 _ h4]
  ·simp at h
 | _ x y i1 i2 =>
  intro e' h
  simp only [IE.sbt] at h
  split at h
  ·rename_i x' y' h1 h2
   simp only [Option.some.injEq] at h; subst h
   simp only [IE.den, i1 _ h1, i2 _ h2]
  ·simp at h
theorem BE.sbt_den (hL : Lens m ρ) : ∀ (e e' : BE), e.sbt m A = some e' -> e.den (ρ.asg β m A) = e'.den ρ := by
 intro e
 induction e with
 | t b => intro e' h; simp only [BE.sbt, Option.some.injEq] at h; subst h; rfl
 | a n =>
  intro e' h
  simp only [BE.sbt] at h
  simp only [BE.den, Env.asg]
  split at h
  ·rename_i hn
   simp only [Option.some.injEq] at h; subst h
   rw [take_get _ _ _ _ _ hL.b hn]; rfl
  ·rename_i hn
   rw [take_new _ _ _ _ _ hL.b hn]
   simp [h]
 | nil n =>
  intro e' h
  simp only [BE.sbt] at h
  simp only [BE.den]
  split at h
  ·rename_i hn
   simp only [Option.some.injEq] at h; subst h
   rw [vsub_den (β := β) hL (v := .va n) (by simp [vsub, hn])]; rfl
  ·rename_i hn
   split at h
   ·rename_i k hk
    simp only [Option.some.injEq] at h; subst h
    rw [vsub_den (β := β) hL (v := .va k) (by simp [vsub, hn, hk])]; rfl
   ·simp at h
 | is q n =>
  intro e' h
  simp only [BE.sbt] at h
  simp only [BE.den]
  split at h
  ·rename_i hn
   simp only [Option.some.injEq] at h; subst h
   rw [vsub_den (β := β) hL (v := .va n) (by simp [vsub, hn])]; rfl
  ·rename_i hn
   split at h
   ·rename_i k hk
    simp only [Option.some.injEq] at h; subst h
    rw [vsub_den (β := β) hL (v := .va k) (by simp [vsub, hn, hk])]; rfl
   ·simp at h
 | not x ih =>
  intro e' h
  simp only [BE.sbt, Option.map_eq_some_iff] at h
  obtain ⟨x', h1, rfl⟩ := h
  simp only [BE.den, ih _ h1]
 | and x y i1 i2 =>
  intro e' h
  simp only [BE.sbt] at h
  split at h
  ·rename_i x' y' h1 h2
   simp only [Option.some.injEq] at h; subst h
   simp only [BE.den, i1 _ h1, i2 _ h2]
  ·simp at h
 | or x y i1 i2 =>
  intro e' h
  simp only [BE.sbt] at h
  split at h
  ·rename_i x' y' h1 h2
   simp only [Option.some.injEq] at h; subst h
   simp only [BE.den, i1 _ h1, i2 _ h2]
  ·simp at h
 | _ x y =>
  intro e' h
  simp only [BE.sbt] at h
  split at h
  ·rename_i x' y' h1 h2
   simp only [Option.some.injEq] at h; subst h
   simp only [BE.den, IE.sbt_den (β := β) hL _ _ h1, IE.sbt_den (β := β) hL _ _ h2]
  ·simp at h
mutual
theorem SV.sbt_den (hL : Lens m ρ) : ∀ (v v' : SV), v.sbt m A = some v' -> v.den (ρ.asg β m A) β = v'.den ρ β
 | .int k e, v', h => by
  simp only [SV.sbt, Option.map_eq_some_iff] at h
  obtain ⟨x', h1, rfl⟩ := h
  simp only [SV.den, IE.sbt_den (β := β) hL _ _ h1]
 | .bool b, v', h => by
  simp only [SV.sbt, Option.map_eq_some_iff] at h
  obtain ⟨x', h1, rfl⟩ := h
  simp only [SV.den, BE.sbt_den (β := β) hL _ _ h1]
 | .va n, v', h => by simp only [SV.sbt] at h; simp only [SV.den]; exact vsub_den hL h
 | .junk n, v', h => by
  simp only [SV.sbt] at h
  simp only [SV.den, Env.asg]
  split at h
  ·rename_i hn
   simp only [Option.some.injEq] at h; subst h
   rw [take_get _ _ _ _ _ hL.j hn]; rfl
  ·rename_i hn
   rw [take_new _ _ _ _ _ hL.j hn]
   simp [SV.dens_map, h]
 | .ea n i size off, v', h => by
  simp only [SV.sbt] at h
  split at h
  ·rename_i k i' h1 h2
   simp only [Option.some.injEq] at h; subst h
   simp only [SV.den, IE.sbt_den (β := β) hL _ _ h2]
   rw [vsub_den (β := β) hL h1]; rfl
  ·simp at h
 | .pa n off, v', h => by
  simp only [SV.sbt] at h
  split at h
  ·rename_i k h1
   simp only [Option.some.injEq] at h; subst h
   simp only [SV.den]
   rw [vsub_den (β := β) hL h1]; rfl
  ·simp at h
 | .agg cs, v', h => by
  simp only [SV.sbt, Option.map_eq_some_iff] at h
  obtain ⟨x', h1, rfl⟩ := h
  simp only [SV.den, SV.sbts_den hL _ _ h1]
 | .tup cs, v', h => by
  simp only [SV.sbt, Option.map_eq_some_iff] at h
  obtain ⟨x', h1, rfl⟩ := h
  simp only [SV.den, SV.sbts_den hL _ _ h1]
 | .fn f cs, v', h => by
  simp only [SV.sbt, Option.map_eq_some_iff] at h
  obtain ⟨x', h1, rfl⟩ := h
  simp only [SV.den, SV.sbts_den hL _ _ h1]
 | .str s, v', h => by simp only [SV.sbt, Option.some.injEq] at h; subst h; rfl
 | .undef, v', h => by simp only [SV.sbt, Option.some.injEq] at h; subst h; rfl
 | .nilS, v', h => by simp only [SV.sbt, Option.some.injEq] at h; subst h; rfl
 | .nilF, v', h => by simp only [SV.sbt, Option.some.injEq] at h; subst h; rfl
 | .nilP, v', h => by simp only [SV.sbt, Option.some.injEq] at h; subst h; rfl
 | .nilI, v', h => by simp only [SV.sbt, Option.some.injEq] at h; subst h; rfl
 | .ptr k o, v', h => by simp only [SV.sbt, Option.some.injEq] at h; subst h; rfl
 | .sl k n, v', h => by simp only [SV.sbt, Option.some.injEq] at h; subst h; rfl
 | .slc k n q, v', h => by simp only [SV.sbt, Option.some.injEq] at h; subst h; rfl
theorem SV.sbts_den (hL : Lens m ρ) : ∀ (l l' : List SV), SV.sbts m A l = some l' -> SV.dens (ρ.asg β m A) β l = SV.dens ρ β l'
 | [], l', h => by simp only [SV.sbts, Option.some.injEq] at h; subst h; rfl
 | x :: l, l', h => by
  simp only [SV.sbts] at h
  split at h
  ·rename_i x' l'' h1 h2
   simp only [Option.some.injEq] at h; subst h
   simp only [SV.dens, SV.sbt_den hL _ _ h1, SV.sbts_den hL _ _ h2]
  ·simp at h
end
end
theorem fine_flat {ρ : Env} (hρ : ρ.Ok) (β : Nat -> Nat) {v : SV} (h : v.flat = true) : fineV (v.den ρ β) = true := by
 cases v <;> simp [SV.flat] at h <;> try rfl
 exact hρ.fine _
theorem optBeqs_spec {x : Option (List SV)} {l : List SV} (h : optBeqs x l = true) : x = some l := by
 cases x with
 | none => simp [optBeqs] at h
 | some x => simp only [optBeqs] at h; rw [SV.eq_of_beqs _ _ h]
theorem hFits_get {m : Base} {A : Asg} : ∀ (l l' : List Blk), hFits m A l l' = true -> ∀ (k : Nat) (b : Blk), l[k]? = some b -> blkFits m A b l'[k]? = true
 | [], _, _, k, b, hk => by simp at hk
 | x :: l, [], h, k, b, hk => by
  simp only [hFits, Bool.and_eq_true] at h
  cases k with
  | zero => simp at hk; subst hk; simpa using h.1
  | succ k => simpa using hFits_get l [] h.2 k b (by simpa using hk)
 | x :: l, y :: l', h, k, b, hk => by
  simp only [hFits, Bool.and_eq_true] at h
  cases k with
  | zero => simp at hk; subst hk; simpa using h.1
  | succ k => simpa using hFits_get l l' h.2 k b (by simpa using hk)
theorem fsFits_spec {m : Base} {A : Asg} {ρ : Env} {β : Nat -> Nat} (hL : Lens m ρ) : ∀ (l l' : List (List SV)), fsFits m A l l' = true -> (l.map fun x => (SV.dens (ρ.asg β m A) β x).toArray) = l'.map fun x => (SV.dens ρ β x).toArray
 | [], [], _ => rfl
 | x :: l, y :: l', h => by
  simp only [fsFits, Bool.and_eq_true] at h
  simp only [List.map_cons, SV.sbts_den hL _ _ (optBeqs_spec h.1), fsFits_spec hL l l' h.2]
 | [], _ :: _, h => by simp [fsFits] at h
 | _ :: _, [], h => by simp [fsFits] at h
theorem Rel.fits {w0 : World} {s0 : Hp} {X : Fx} {ρ : Env} {s : Hp} {β : Nat -> Nat} {t g : Cfg} {a : Act} {w : World} (h : Rel w0 s0 X ρ s β g a w) {m : Base} {A : Asg} (hf : fits m A t g = true) :
  Rel w0 s0 X (ρ.asg β m A) s β t a w /\ t.todo = g.todo := by
 unfold Sy.fits at hf
 simp only [Bool.and_eq_true, decide_eq_true_eq, beq_iff_eq] at hf
 obtain ⟨⟨⟨⟨⟨⟨⟨⟨⟨⟨⟨⟨⟨htd, hfs⟩, hsl⟩, hH⟩, n1⟩, n2⟩, n3⟩, n4⟩, m1⟩, m2⟩, m3⟩, m4⟩, hflat⟩, hvok⟩ := hf
 have hi : m.ni <= ρ.i.length := by rw [h.ci]; exact m1
 have hb : m.nb <= ρ.b.length := by rw [h.cb]; exact m2
 have hv : m.nv <= ρ.v.length := by rw [h.cv]; exact m3
 have hj : m.nj <= ρ.j.length := by rw [h.cj]; exact m4
 have hL : Lens m ρ := ⟨hi, hb, hv, hj⟩
 have hsl' := optBeqs_spec hsl
 have hblk := hFits_get _ _ hH
 have hcells : ∀ (k : Nat) (cs : List SV) (T : Nat) (sh : Bool), t.H[k]? = some (Blk.cells cs T sh) -> ∃ cs', g.H[k]? = some (Blk.cells cs' T sh) /\ SV.dens (ρ.asg β m A) β cs = SV.dens ρ β cs' := by
  intro k cs T sh hk
  have := hblk k _ hk
  unfold blkFits at this
  cases hg : g.H[k]? with
  | none => rw [hg] at this; simp at this
  | some b =>
   rw [hg] at this
   cases b with
   | row n T' size => simp at this
   | cells cs' T' sh' =>
    simp only [Bool.and_eq_true, beq_iff_eq] at this
    obtain ⟨⟨e1, rfl⟩, rfl⟩ := this
    exact ⟨cs', rfl, SV.sbts_den hL _ _ (optBeqs_spec e1)⟩
 have hrow : ∀ (k n T size : Nat), t.H[k]? = some (.row n T size) -> 0 < size /\ ((ρ.asg β m A).v.getD n vd = .slice none 0 0 \/ ∃ n', g.H[k]? = some (.row n' T size) /\ (ρ.asg β m A).v.getD n vd = ρ.v.getD n' vd) := by
  intro k n T size hk
  have := hblk k _ hk
  unfold blkFits at this
  simp only [Bool.and_eq_true, decide_eq_true_eq] at this
  refine ⟨this.1, ?_⟩
  have h2 := this.2
  split at h2
  ·rename_i hvs
   left; rw [vsub_den hL hvs]; rfl
  ·rename_i n' hvs
   split at h2
   ·rename_i n2 T' size' hg
    simp only [Bool.and_eq_true, beq_iff_eq] at h2
    obtain ⟨⟨rfl, rfl⟩, rfl⟩ := h2
    right
    exact ⟨_, hg, by rw [vsub_den hL hvs]; rfl⟩
   ·simp at h2
  ·simp at h2
 have key : ∀ (i : Nat) (b : Blk), t.H[i]? = some b -> act (ρ.asg β m A) b -> ∃ b', g.H[i]? = some b' /\ act ρ b' := by
  intro i b hb' hab
  cases b with
  | cells cs T sh =>
   obtain ⟨cs', hg, _⟩ := hcells i cs T sh hb'
   exact ⟨_, hg, trivial⟩
  | row n T size =>
   obtain ⟨_, h1 | ⟨n', hg, he⟩⟩ := hrow i n T size hb'
   ·exact absurd h1 hab
   ·exact ⟨_, hg, by simp only [act] at hab ⊢; rw [<- he]; exact hab⟩
 have hkp : ∀ x, X.K x -> Kept s (ρ.asg β m A) β t.H w x := fun x hx => ⟨(h.kp x hx).is, fun k b hk hb => by
  obtain ⟨b', e1, e2⟩ := key k b hk hb
  exact (h.kp x hx).own k b' e1 e2, (h.kp x hx).un⟩
 refine ⟨⟨?_, h.df, h.sz, hkp, by rw [fsFits_spec hL _ _ hfs]; exact h.fs, ?_, ?_, ?_, ?_, ?_, h.bel, h.sb, h.nw, h.le, ?_, ?_⟩, htd⟩
 ·rw [SV.sbts_den hL _ _ hsl']; exact h.tm
 ·simp only [Env.asg, List.length_append, List.length_take, List.length_map, Nat.min_eq_left hi, n1]
 ·simp only [Env.asg, List.length_append, List.length_take, List.length_map, Nat.min_eq_left hb, n2]
 ·simp only [Env.asg, List.length_append, List.length_take, dens_length, Nat.min_eq_left hv, n3]
 ·simp only [Env.asg, List.length_append, List.length_take, dens_length, Nat.min_eq_left hj, n4]
 ·intro x hx
  simp only [Env.asg, List.mem_append] at hx
  rcases hx with hx | hx
  ·exact h.ok x (List.mem_of_mem_take hx)
  ·rw [SV.dens_map] at hx
   obtain ⟨y, hy, rfl⟩ := List.mem_map.1 hx
   exact fine_flat h.ok β (List.all_eq_true.1 hflat y hy)
 ·intro k b hk
  cases b with
  | cells cs T sh =>
   obtain ⟨cs', hg, he⟩ := hcells k cs T sh hk
   have := h.bl k _ hg
   simp only [BOk] at this ⊢
   rw [he]; exact this
  | row n T size =>
   obtain ⟨hsz, h1 | ⟨n', hg, he⟩⟩ := hrow k n T size hk
   ·exact ⟨hsz, .inl h1⟩
   ·have := h.bl k _ hg
    simp only [BOk] at this ⊢
    rw [he]; exact this
 ·intro j k bj bk hjk hj' hk' aj ak
  have key : ∀ (i : Nat) (b : Blk), t.H[i]? = some b -> act (ρ.asg β m A) b -> ∃ b', g.H[i]? = some b' /\ act ρ b' := by
   intro i b hb' hab
   cases b with
   | cells cs T sh =>
    obtain ⟨cs', hg, _⟩ := hcells i cs T sh hb'
    exact ⟨_, hg, trivial⟩
   | row n T size =>
    obtain ⟨_, h1 | ⟨n', hg, he⟩⟩ := hrow i n T size hb'
    ·exact absurd h1 hab
    ·exact ⟨_, hg, by simp only [act] at hab ⊢; rw [<- he]; exact hab⟩
  obtain ⟨b1, c1, c2⟩ := key j bj hj' aj
  obtain ⟨b2, d1, d2⟩ := key k bk hk' ak
  exact h.sp j k b1 b2 hjk c1 d1 c2 d2
def Env.ext (ρ : Env) (is : List Int) (bs : List Bool) (vs js : List Value) : Env := ⟨ρ.i ++ is, ρ.b ++ bs, ρ.v ++ vs, ρ.j ++ js⟩
theorem goesG_congr {f : Fr} {R : Ending -> World -> Prop} {body : Code} {ρ ρ' : Env} {β β' : Nat -> Nat} {s s' : Hp} {t g : Cfg} {a : Act} {w : World} (htd : t.todo = g.todo) (hhead : ∀ p d ks k, t.todo ≠ .dreg p d ks :: k)
  (h : GoesG P f R body ρ β s t a w) : GoesG P f R body ρ' β' s' g a w := by
 unfold GoesG at h ⊢
 rw [<- htd]
 generalize t.todo = td at *
 cases td with
 | nil => exact h
 | cons x k => cases x <;> first | exact h | exact absurd rfl (hhead _ _ _ _)
end
end Go.Sy
namespace Go.Sy
def mkV (agg : Bool) (l : List Value) : Value := if agg then .agg l.toArray else l.headD undef
structure EqT (P : Program) (d : Nat) (t : TypeId) (b : Bool) (ks : List Kd) : Prop where
 agg : ∀ w, (isAgg t).run P w = .ok b w
 size : ∀ w, (sizeOf t).run P w = .ok ks.length w
 cells : P.cellsOf t = ks.length
 one : b = false -> ks.length = 1
 eq : ∀ (w : World) (zs us : List Int), zs.length = ks.length -> us.length = ks.length -> (Op.equalIn d t (mkV b (cellsI ks zs)) (mkV b (cellsI ks us))).run P w = .ok (decide (zs = us)) w
section
variable {P : Program}
theorem cellsI_append : ∀ (ks ls : List Kd) (zs us : List Int), zs.length = ks.length -> cellsI (ks ++ ls) (zs ++ us) = cellsI ks zs ++ cellsI ls us
 | [], ls, [], us, _ => rfl
 | k :: ks, ls, z :: zs, us, h => by simp only [List.cons_append, cellsI, cellsI_append ks ls zs us (by simpa using h)]
 | [], ls, z :: zs, us, h => by simp at h
 | k :: ks, ls, [], us, h => by simp at h
theorem cellsI_length : ∀ (ks : List Kd) (zs : List Int), zs.length = ks.length -> (cellsI ks zs).length = ks.length
 | [], [], _ => rfl
 | k :: ks, z :: zs, h => by simp only [cellsI, List.length_cons, cellsI_length ks zs (by simpa using h)]
 | [], z :: zs, h => by simp at h
 | k :: ks, [], h => by simp at h
theorem EqT.part {d : Nat} {t : TypeId} {b : Bool} {ks : List Kd} (h : EqT P d t b ks) (A B : List Value) {zs : List Int} (hz : zs.length = ks.length) (w : World) :
  (part t (A ++ cellsI ks zs ++ B).toArray A.length).run P w = .ok (mkV b (cellsI ks zs)) w := by
 have hl := cellsI_length ks zs hz
 unfold Go.part
 simp only [Sem.run_bind, h.agg, Result.andThen_ok]
 cases b with
 | true =>
  simp only [if_true, Sem.run_bind, h.size, Result.andThen_ok, Sem.run_pure, mkV]
  congr 2
  apply Array.ext'
  simp only [List.extract_toArray, List.extract_eq_take_drop, Nat.add_sub_cancel_left]
  rw [List.append_assoc, List.drop_left, <- hl, List.take_left]
 | false =>
  have h1 := h.one rfl
  rw [h1] at hl
  simp only [Bool.false_eq_true, if_false, mkV]
  match hc : cellsI ks zs, hl with
  | [v], _ => simp
theorem eqT_int {t : TypeId} {k : IntKind} (hu : P.underlying t = some (.int k)) (hs : ∀ w, (sizeOf t).run P w = .ok 1 w) (hc : P.cellsOf t = 1) (d : Nat) : EqT P (d + 1) t false [.int k] where
 agg w := by simp [isAgg, run_underlying hu]
 size w := hs w
 cells := hc
 one _ := rfl
 eq w zs us h1 h2 := by
  match zs, h1, us, h2 with
  | [z], _, [u], _ =>
   simp only [mkV, cellsI, cellI, Bool.false_eq_true, if_false, List.headD_cons]
   rw [run_equalIn_int w d t k k z u hu]
   simp [BEq.beq]
theorem eqItems_spec {d : Nat} {e : TypeId} {b : Bool} {ks : List Kd} (h : EqT P d e b ks) : ∀ (n : Nat) (A B : List Value) (zs us : List Int) (w : World) (o : Nat), A.length = o * ks.length -> B.length = o * ks.length ->
  zs.length = n * ks.length -> us.length = n * ks.length ->
  (Op.eqItems d e (P.cellsOf e) (A ++ cellsI (List.replicate n ks).flatten zs).toArray (B ++ cellsI (List.replicate n ks).flatten us).toArray ((List.range n).map (o + ·))).run P w = .ok (decide (zs = us)) w
 | 0, A, B, zs, us, w, o, _, _, h1, h2 => by
  simp at h1 h2; subst h1; subst h2
  simp [Op.eqItems]
 | n + 1, A, B, zs, us, w, o, hA, hB, h1, h2 => by
  rw [Nat.add_mul, Nat.one_mul, Nat.add_comm] at h1 h2
  have hz : (zs.take ks.length).length = ks.length := by rw [List.length_take]; omega
  have hu : (us.take ks.length).length = ks.length := by rw [List.length_take]; omega
  have hz2 : (zs.drop ks.length).length = n * ks.length := by rw [List.length_drop]; omega
  have hu2 : (us.drop ks.length).length = n * ks.length := by rw [List.length_drop]; omega
  have ez : cellsI (List.replicate (n + 1) ks).flatten zs = cellsI ks (zs.take ks.length) ++ cellsI (List.replicate n ks).flatten (zs.drop ks.length) := by
   rw [<- cellsI_append _ _ _ _ hz, List.take_append_drop]; simp [List.replicate_succ]
  have eu : cellsI (List.replicate (n + 1) ks).flatten us = cellsI ks (us.take ks.length) ++ cellsI (List.replicate n ks).flatten (us.drop ks.length) := by
   rw [<- cellsI_append _ _ _ _ hu, List.take_append_drop]; simp [List.replicate_succ]
  have ih := eqItems_spec h n (A ++ cellsI ks (zs.take ks.length)) (B ++ cellsI ks (us.take ks.length)) (zs.drop ks.length) (us.drop ks.length) w (o + 1)
   (by rw [List.length_append, cellsI_length _ _ hz, hA, Nat.add_mul]; omega) (by rw [List.length_append, cellsI_length _ _ hu, hB, Nat.add_mul]; omega) hz2 hu2
  rw [List.range_succ_eq_map]
  simp only [List.map_cons, List.map_map, Op.eqItems, Sem.run_bind, Nat.add_zero]
  have p1 := h.part A (cellsI (List.replicate n ks).flatten (zs.drop ks.length)) hz w
  have p2 := h.part B (cellsI (List.replicate n ks).flatten (us.drop ks.length)) hu w
  rw [hA] at p1
  rw [hB] at p2
  rw [ez, eu, <- List.append_assoc, <- List.append_assoc, h.cells, p1]
  simp only [Result.andThen_ok, p2, h.eq w _ _ hz hu]
  have hsplit : (zs = us) ↔ (zs.take ks.length = us.take ks.length /\ zs.drop ks.length = us.drop ks.length) := by
   constructor
   ·intro e; subst e; exact ⟨rfl, rfl⟩
   ·intro ⟨e1, e2⟩; rw [<- List.take_append_drop ks.length zs, e1, e2, List.take_append_drop]
  by_cases he : zs.take ks.length = us.take ks.length
  ·simp only [he, decide_true, Bool.not_true, Bool.false_eq_true, if_false]
   rw [h.cells] at ih
   rw [show ((fun x => o + x) ∘ Nat.succ) = (fun x => o + 1 + x) by funext x; simp; omega]
   rw [ez, eu] at *
   have : decide (zs = us) = decide (zs.drop ks.length = us.drop ks.length) := by simp [hsplit, he]
   rw [he] at ih
   rw [this]; exact ih
  ·have : decide (zs = us) = false := by simp [hsplit, he]
   simp [he, this]
theorem eqT_array {d : Nat} {t e : TypeId} {n : Nat} {b : Bool} {ks : List Kd} {inf : TypeInfo} (h : EqT P d e b ks) (hu : P.underlying t = some (.array n e)) (hinf : P.info? e = some inf) (hs : ∀ w, (sizeOf t).run P w = .ok (n * ks.length) w) (hc : P.cellsOf t = n * ks.length) :
  EqT P (d + 1) t true (List.replicate n ks).flatten where
 agg w := by simp [isAgg, run_underlying hu]
 size w := by rw [hs]; simp
 cells := by rw [hc]; simp
 one hb := by simp at hb
 eq w zs us h1 h2 := by
  simp only [mkV, if_true]
  rw [run_equalIn_array w d _ _ hu hinf]
  have := eqItems_spec h n [] [] zs us w 0 (by simp) (by simp) (by simpa using h1) (by simpa using h2)
  simpa using this
inductive EqFs (P : Program) (d : Nat) : Nat -> List Field -> List Kd -> Prop where
 | nil (o : Nat) : EqFs P d o [] []
 | cons {o : Nat} {f : Field} {fs : List Field} {b : Bool} {ks ls : List Kd} (hn : f.name ≠ "_") (ho : f.offset = o) (h : EqT P d f.type b ks) (r : EqFs P d (o + ks.length) fs ls) : EqFs P d o (f :: fs) (ks ++ ls)
theorem eqFs_spec {d o : Nat} {fs : List Field} {ks : List Kd} (h : EqFs P d o fs ks) : ∀ (A B : List Value) (zs us : List Int) (w : World), A.length = o -> B.length = o -> zs.length = ks.length -> us.length = ks.length ->
  (Op.eqFields d (A ++ cellsI ks zs).toArray (B ++ cellsI ks us).toArray fs).run P w = .ok (decide (zs = us)) w := by
 induction h with
 | nil o =>
  intro A B zs us w _ _ h1 h2
  simp at h1 h2; subst h1; subst h2
  simp [Op.eqFields]
 | cons hn ho h r ih =>
  rename_i o f fs b ks ls
  intro A B zs us w hA hB h1 h2
  rw [List.length_append] at h1 h2
  have hz : (zs.take ks.length).length = ks.length := by rw [List.length_take]; omega
  have hu : (us.take ks.length).length = ks.length := by rw [List.length_take]; omega
  have hz2 : (zs.drop ks.length).length = ls.length := by rw [List.length_drop]; omega
  have hu2 : (us.drop ks.length).length = ls.length := by rw [List.length_drop]; omega
  have ez : cellsI (ks ++ ls) zs = cellsI ks (zs.take ks.length) ++ cellsI ls (zs.drop ks.length) := by
   rw [<- cellsI_append _ _ _ _ hz, List.take_append_drop]
  have eu : cellsI (ks ++ ls) us = cellsI ks (us.take ks.length) ++ cellsI ls (us.drop ks.length) := by
   rw [<- cellsI_append _ _ _ _ hu, List.take_append_drop]
  have ih := ih (A ++ cellsI ks (zs.take ks.length)) (B ++ cellsI ks (us.take ks.length)) (zs.drop ks.length) (us.drop ks.length) w
   (by rw [List.length_append, cellsI_length _ _ hz, hA]) (by rw [List.length_append, cellsI_length _ _ hu, hB]) hz2 hu2
  have p1 := h.part A (cellsI ls (zs.drop ks.length)) hz w
  have p2 := h.part B (cellsI ls (us.drop ks.length)) hu w
  rw [hA] at p1
  rw [hB] at p2
  simp only [Op.eqFields]
  rw [if_pos hn, ez, eu, <- List.append_assoc, <- List.append_assoc, ho]
  simp only [Sem.run_bind, p1, Result.andThen_ok, p2, h.eq w _ _ hz hu]
  have hsplit : (zs = us) ↔ (zs.take ks.length = us.take ks.length /\ zs.drop ks.length = us.drop ks.length) := by
   constructor
   ·intro e; subst e; exact ⟨rfl, rfl⟩
   ·intro ⟨e1, e2⟩; rw [<- List.take_append_drop ks.length zs, e1, e2, List.take_append_drop]
  by_cases he : zs.take ks.length = us.take ks.length
  ·have : decide (zs = us) = decide (zs.drop ks.length = us.drop ks.length) := by simp [hsplit, he]
   rw [this]
   simpa [he] using ih
  ·have : decide (zs = us) = false := by simp [hsplit, he]
   simp [he, this]
theorem eqT_struct {d : Nat} {t : TypeId} {ks : List Kd} {fields : Array Field} (hu : P.underlying t = some (.struct fields)) (hF : EqFs P d 0 fields.toList ks) (hp : P.stoodInHeld t = false) (hs : ∀ w, (sizeOf t).run P w = .ok ks.length w) (hc : P.cellsOf t = ks.length) :
  EqT P (d + 1) t true ks where
 agg w := by simp [isAgg, run_underlying hu]
 size w := hs w
 cells := hc
 one hb := by simp at hb
 eq w zs us h1 h2 := by
  have hfo : P.fieldsOf t = fields := by simp [Program.fieldsOf, hu]
  simp only [mkV, if_true]
  rw [run_equalIn_struct w d t _ _ (by rw [hfo]; exact hu) hp]
  have := eqFs_spec hF [] [] zs us w rfl rfl h1 h2
  rw [hfo]
  simpa using this
end
end Go.Sy
namespace Go.Sy
open Go.ChangeShapes
def okI : List Kd -> List Int -> Prop
 | [], [] => True
 | .int k :: ks, z :: zs => loI k <= z /\ z <= hiI k /\ okI ks zs
 | _, _ => False
theorem okI_append : ∀ (ks ls : List Kd) (zs us : List Int), okI ks zs -> okI ls us -> okI (ks ++ ls) (zs ++ us)
 | [], ls, [], us, _, h => h
 | .int k :: ks, ls, z :: zs, us, h, h' => ⟨h.1, h.2.1, okI_append ks ls zs us h.2.2 h'⟩
 | [], _, _ :: _, _, h, _ => h.elim
 | .int _ :: _, _, [], _, h, _ => h.elim
 | .bool :: _, _, _, _, h, _ => by cases h
 | .val :: _, _, _, _, h, _ => by cases h
theorem okI_len : ∀ (ks : List Kd) (zs : List Int), okI ks zs -> zs.length = ks.length
 | [], [], _ => rfl
 | .int k :: ks, z :: zs, h => by simp [okI_len ks zs h.2.2]
 | [], _ :: _, h => h.elim
 | .int _ :: _, [], h => h.elim
 | .bool :: _, _, h => by cases h
 | .val :: _, _, h => by cases h
mutual
inductive FlatI (P : Program) : TypeId -> List Kd -> Prop where
 | int {t : TypeId} {k : IntKind} (hu : P.underlying t = some (.int k)) (hc : P.cellsOf t = 1) : FlatI P t [.int k]
 | arr {t e : TypeId} {n : Nat} {ks : List Kd} (hu : P.underlying t = some (.array n e)) (h : FlatI P e ks) (he : P.cellsOf e = ks.length) (hc : P.cellsOf t = n * ks.length) : FlatI P t (List.replicate n ks).flatten
 | st {t : TypeId} {fields : Array Field} {ks : List Kd} (hu : P.underlying t = some (.struct fields)) (h : FlatFs P 0 fields.toList ks) (hc : P.cellsOf t = ks.length) : FlatI P t ks
inductive FlatFs (P : Program) : Nat -> List Field -> List Kd -> Prop where
 | nil (o : Nat) : FlatFs P o [] []
 | cons {o : Nat} {f : Field} {fs : List Field} {ks ls : List Kd} (ho : f.offset = o) (h : FlatI P f.type ks) (hc : P.cellsOf f.type = ks.length) (r : FlatFs P (o + ks.length) fs ls) : FlatFs P o (f :: fs) (ks ++ ls)
end
theorem wf_rng {k : IntKind} {n : Int} (h : (Lit.int k n).wf = true) : loI k <= n /\ n <= hiI k := by
 simp only [Lit.wf, Bool.and_eq_true, decide_eq_true_eq] at h
 cases k <;> simp [IntKind.min, IntKind.max, IntKind.signed, IntKind.bits] at h <;> simp [loI, hiI, IntKind.signed, IntKind.bits] <;> omega
theorem chunks_flat {ks : List Kd} : ∀ (n : Nat) (cs : List Value), cs.length = n * ks.length -> (∀ i, i < n -> ∃ zs, okI ks zs /\ (cs.drop (i * ks.length)).take ks.length = cellsI ks zs) ->
  ∃ zs, okI (List.replicate n ks).flatten zs /\ cs = cellsI (List.replicate n ks).flatten zs
 | 0, cs, hl, _ => by
  simp at hl; subst hl
  exact ⟨[], trivial, rfl⟩
 | n + 1, cs, hl, h => by
  obtain ⟨z0, h0, e0⟩ := h 0 (by omega)
  simp only [Nat.zero_mul, List.drop_zero] at e0
  obtain ⟨zs, h1, e1⟩ := chunks_flat (ks := ks) n (cs.drop ks.length) (by rw [List.length_drop, hl, Nat.add_mul]; omega) (fun i hi => by
   obtain ⟨z, a, b⟩ := h (i + 1) (by omega)
   refine ⟨z, a, ?_⟩
   rw [List.drop_drop]
   rw [Nat.add_mul, Nat.one_mul, Nat.add_comm] at b
   exact b)
  refine ⟨z0 ++ zs, by simpa [List.replicate_succ] using okI_append _ _ _ _ h0 h1, ?_⟩
  have : cellsI (List.replicate (n + 1) ks).flatten (z0 ++ zs) = cellsI ks z0 ++ cellsI (List.replicate n ks).flatten zs := by
   rw [<- cellsI_append _ _ _ _ (okI_len _ _ h0)]; simp [List.replicate_succ]
  rw [this, <- e0, <- e1, List.take_append_drop]
section
variable {H : Type} {enc : TypeId × Value -> H} {P : Program} {w : World} {base : Nat} {spare : Nat -> Bool} {held : Bool}
mutual
theorem trod_flat {t : TypeId} {ks : List Kd} : FlatI P t ks -> ∀ {fuel : Nat} {cs : List Value} {x}, DataW.trod enc P w base spare held fuel t cs = some x -> ∃ zs, okI ks zs /\ cs = cellsI ks zs
 | .int hu hc, fuel, cs, x, h => by
  obtain ⟨n, rfl, _, hw⟩ := DataW.trod_int hu h
  exact ⟨[n], ⟨(wf_rng hw).1, (wf_rng hw).2, trivial⟩, rfl⟩
 | .arr hu he hce hc, fuel, cs, x, h => by
  obtain ⟨xs, m, _, _, hl, hn, hi⟩ := DataW.trod_array hu h
  rw [hc] at hl
  refine chunks_flat _ cs hl (fun i hi' => ?_)
  have := hi i hi'
  rw [hce, List.getElem?_eq_getElem (by omega)] at this
  exact trod_flat he this
 | .st hu hf hc, fuel, cs, x, h => by
  obtain ⟨xs, m, _, _, hl, hn, hi⟩ := DataW.trod_struct hu h
  rw [hc] at hl
  obtain ⟨zs, a, b⟩ := trod_flats hf [] cs rfl hl (m := m) (xs := xs) (fun j f hj => by simpa using hi j f (by simpa using hj)) hn
  exact ⟨zs, a, b⟩
theorem trod_flats {o : Nat} {fs : List Field} {ks : List Kd} : FlatFs P o fs ks -> ∀ (A cs : List Value), A.length = o -> cs.length = ks.length -> ∀ {m : Nat} {xs : List (DataW H × List MemPlace)},
  (∀ (j : Nat) f, fs[j]? = some f -> DataW.trod enc P w base spare held m f.type (((A ++ cs).drop f.offset).take (P.cellsOf f.type)) = xs[j]?) -> xs.length = fs.length -> ∃ zs, okI ks zs /\ cs = cellsI ks zs
 | .nil o, A, cs, hA, hl, m, xs, _, _ => by
  simp at hl; subst hl
  exact ⟨[], trivial, rfl⟩
 | .cons (f := f) (ks := ks) (ls := ls) ho h hc r, A, cs, hA, hl, m, xs, hi, hn => by
  have h0 := hi 0 f rfl
  rw [List.getElem?_eq_getElem (by simp at hn; omega), ho, <- hA, List.drop_left, hc] at h0
  obtain ⟨z0, a0, b0⟩ := trod_flat h h0
  rw [List.length_append] at hl
  have hl0 : (cs.take ks.length).length = ks.length := by rw [List.length_take]; omega
  obtain ⟨zs, a1, b1⟩ := trod_flats r (A ++ cs.take ks.length) (cs.drop ks.length) (by rw [List.length_append, hl0, hA]) (by rw [List.length_drop]; omega) (m := m) (xs := xs.drop 1) (fun j f' hj => by
   have := hi (j + 1) f' (by simpa using hj)
   rw [List.append_assoc, List.take_append_drop]
   rw [this, List.getElem?_drop, Nat.add_comm]) (by simp at hn; simp; omega)
  refine ⟨z0 ++ zs, okI_append _ _ _ _ a0 a1, ?_⟩
  rw [cellsI_append _ _ _ _ (okI_len _ _ a0), <- b0, <- b1, List.take_append_drop]
end
def hpOf (w : World) : Hp := fun b o => w.cell? ⟨b, o, none⟩
theorem sub_hpOf (w : World) : Sub (hpOf w) w := fun _ _ _ h => h
theorem mapM_opt {α β : Type} {f : α -> Option β} : ∀ {l : List α} {ys : List β}, l.mapM f = some ys -> ys.length = l.length /\ ∀ (i : Nat) x, l[i]? = some x -> ∃ y, ys[i]? = some y /\ f x = some y
 | [], ys, h => by simp at h; subst h; exact ⟨rfl, by simp⟩
 | x :: l, ys, h => by
  simp only [List.mapM_cons, Option.bind_eq_bind, Option.bind_eq_some_iff, Option.pure_def, Option.some.injEq] at h
  obtain ⟨y, hy, ys', hys, rfl⟩ := h
  obtain ⟨a, b⟩ := mapM_opt hys
  refine ⟨by simp [a], fun i z hz => ?_⟩
  cases i with
  | zero => simp at hz; subst hz; exact ⟨y, by simp, hy⟩
  | succ i => simpa using b i z (by simpa using hz)
theorem list_of {α : Type} {p : Nat -> α -> Prop} : ∀ (n : Nat), (∀ i, i < n -> ∃ z, p i z) -> ∃ l : List α, l.length = n /\ ∀ i z, l[i]? = some z -> p i z
 | 0, _ => ⟨[], rfl, by simp⟩
 | n + 1, h => by
  obtain ⟨l, e1, e2⟩ := list_of n (fun i hi => h i (by omega))
  obtain ⟨z, hz⟩ := h n (by omega)
  refine ⟨l ++ [z], by simp [e1], fun i y hy => ?_⟩
  rw [List.getElem?_append] at hy
  split at hy
  ·exact e2 i y hy
  ·have := (List.getElem?_eq_some_iff.1 hy).1
   simp at this
   have hin : i = n := by omega
   subst hin
   simp [e1] at hy; subst hy; exact hz
theorem cell_add {w : World} {a : Addr} {j k : Nat} {u : Value} (h0 : a.spot = none) (h : w.cell? ((a.add j).add k) = some u) : w.cell? ⟨a.block, a.off + j + k, none⟩ = some u := by
 obtain ⟨b, o, sp⟩ := a
 simp only at h0; subst h0
 rw [Addr.add_add0] at h
 unfold Addr.add at h
 split at h
 ·have h1 : j = 0 := by omega
  have h2 : k = 0 := by omega
  subst h1; subst h2; exact h
 ·rw [<- Nat.add_assoc] at h; exact h
end
end Go.Sy
namespace Go.Sy
open Go.ChangeShapes Go.WideShapes
variable {H : Type} {enc : TypeId × Value -> H} {P : Program} {w : World} {base : Nat} {r : Go.Reach} {b0 : Nat} {spare : Nat -> Bool} {held : Bool}
end Go.Sy
namespace Go.Sy
section
variable {P : Program} {Q : Value -> Hp -> Prop} {T : Cfg -> Env -> Hp -> Prop} {ρ : Env} {s : Hp}
theorem vc_ite {c : BE} {x y : Out} (h : c.den ρ = true -> VC P Q T x ρ s) (h' : c.den ρ = false -> VC P Q T y ρ s) : VC P Q T (.ite c x y) ρ s := ⟨h, h'⟩
theorem vc_need {c : BE} {k : Out} (h : c.den ρ = true) (h' : c.den ρ = true -> VC P Q T k ρ s) : VC P Q T (.need c k) ρ s := ⟨h, h'⟩
theorem vc_ret {v : SV} {H : List Blk} (h : ∀ β s', s.le s' -> HShut ρ β H s' -> Q (v.den ρ β) s') : VC P Q T (.ret v H) ρ s := h
theorem vc_call {f : Nat} {args : List SV} {H : List Blk} {res : SV} {di db dv : Nat} {k : Out} (as : List Value) (V : Value) (is : List Int) (bs : List Bool) (vs : List Value) (hct : ∀ s1, s.le s1 -> Ct P f as s1 (fun v _ => v = V))
  (ha : ∀ β, SV.dens ρ β args = as) (h1 : is.length = di) (h2 : bs.length = db) (h3 : vs.length = dv) (hf : vs.all fineV = true) (hr : V = res.den ⟨ρ.i ++ is, ρ.b ++ bs, ρ.v ++ vs, ρ.j⟩ id)
  (hk : ∀ s', s.le s' -> VC P Q T k ⟨ρ.i ++ is, ρ.b ++ bs, ρ.v ++ vs, ρ.j⟩ s') : VC P Q T (.call f args H res di db dv k) ρ s := by
 intro β s1 hs _
 refine ⟨_, by rw [ha β]; exact hct s1 hs, ?_⟩
 rintro v s' hs' rfl
 exact ⟨is, bs, vs, h1, h2, h3, hf, hr, hk s' (fun b o u h => hs' b o u (hs b o u h))⟩
end
end Go.Sy
namespace Go.Sy
section
variable {P : Program} {c : Ctx} {fnc : Func} {fn : FnC} {Q : Value -> Hp -> Prop}
theorem asg_zero {ρ : Env} {β : Nat -> Nat} {A : Asg} {t g : Cfg} (hfit : Sy.fits ⟨0, 0, 0, 0⟩ A t g = true) :
  ρ.asg β ⟨0, 0, 0, 0⟩ A = ⟨A.is.map (IE.den ρ), A.bs.map (BE.den ρ), SV.dens ρ id A.vs, SV.dens ρ β A.js⟩ := by
 have hv : SV.dens ρ β A.vs = SV.dens ρ id A.vs := by
  unfold Sy.fits at hfit
  simp only [Bool.and_eq_true] at hfit
  exact SV.dens_le (kf := fun _ => false) ⟨fun _ _ => rfl, fun _ _ => rfl, fun _ _ => rfl, fun _ _ => rfl⟩ (by simp) _ hfit.2
 simp only [Env.asg, List.take_zero, List.nil_append, hv]
section
variable {f : Fr} {R : Ending -> World -> Prop} {w0 : World} {s0 : Hp} {X : Fx}
theorem reach_fit {body : Code} {t : Cfg} {A : Asg} {g : Cfg} {ρ : Env} {s : Hp} (hfit : Sy.fits ⟨0, 0, 0, 0⟩ A t g = true) (hhead : ∀ p d ks k, t.todo ≠ .dreg p d ks :: k)
  (h : ∀ js, js.length = A.js.length -> ReachX P f R body w0 s0 X t ⟨A.is.map (IE.den ρ), A.bs.map (BE.den ρ), SV.dens ρ id A.vs, js⟩ s) : ReachX P f R body w0 s0 X g ρ s := by
 intro β a w hr
 obtain ⟨hr', htd⟩ := hr.fits hfit
 rw [asg_zero hfit] at hr'
 exact goesG_congr htd hhead (h _ (by simp [dens_length]) β a w hr')
theorem loopX (hP : ProgOk P c)
  (hend : EndOk P c fn f X R Q s0 w0)
  (hnd : f.2 = none \/ ∀ p (i : Nat) (o : Oper), (opsAt (sub fn.body p))[i]? = some o -> isDefer o = false) (n : Nat) (t : Cfg)
  (I : List Int -> List Bool -> List Value -> Hp -> Prop) (μ : List Int -> List Bool -> List Value -> Nat) (hhead : ∀ p d ks k, t.todo ≠ .dreg p d ks :: k)
  (round : ∀ is bs vs js s1, is.length = t.ni -> bs.length = t.nb -> vs.length = t.nv -> js.length = t.nj -> I is bs vs s1 ->
   (∀ (A : Asg) g' ρ' s', s1.le s' -> Sy.fits ⟨0, 0, 0, 0⟩ A t g' = true -> I (A.is.map (IE.den ρ')) (A.bs.map (BE.den ρ')) (SV.dens ρ' id A.vs) s' -> μ (A.is.map (IE.den ρ')) (A.bs.map (BE.den ρ')) (SV.dens ρ' id A.vs) < μ is bs vs ->
    ReachX P f R fn.body w0 s0 X g' ρ' s') ->
   VC P Q (ReachX P f R fn.body w0 s0 X) (run c fn n t) ⟨is, bs, vs, js⟩ s1) :
  ∀ (A : Asg) (g : Cfg) (ρ : Env) (s : Hp), Sy.fits ⟨0, 0, 0, 0⟩ A t g = true -> I (A.is.map (IE.den ρ)) (A.bs.map (BE.den ρ)) (SV.dens ρ id A.vs) s -> ReachX P f R fn.body w0 s0 X g ρ s := by
 have main : ∀ (N : Nat) (is : List Int) (bs : List Bool) (vs js : List Value) (s1 : Hp), μ is bs vs = N -> is.length = t.ni -> bs.length = t.nb -> vs.length = t.nv -> js.length = t.nj ->
   I is bs vs s1 -> ReachX P f R fn.body w0 s0 X t ⟨is, bs, vs, js⟩ s1 := by
  intro N
  induction N using Nat.strongRecOn with
  | _ N ih =>
   intro is bs vs js s1 hN l1 l2 l3 l4 hI
   refine runX_sound hP hend hnd (fun _ _ _ h => h) n _ _ _ (round is bs vs js s1 l1 l2 l3 l4 hI ?_)
   intro A g' ρ' s' hle' hfit hI' hlt
   have hfit1 := hfit
   unfold Sy.fits at hfit1
   simp only [Bool.and_eq_true, beq_iff_eq] at hfit1
   refine reach_fit hfit hhead (fun js hjs => ih _ (by rw [<- hN]; exact hlt) _ _ _ js s' rfl ?_ ?_ ?_ ?_ hI')
   ·simp only [List.length_map]; have := hfit1.1.1.1.1.1.1.1.1.1.2; omega
   ·simp only [List.length_map]; have := hfit1.1.1.1.1.1.1.1.1.2; omega
   ·simp only [dens_length]; have := hfit1.1.1.1.1.1.1.1.2; omega
   ·have := hfit1.1.1.1.1.1.1.2; omega
 intro A g ρ s hfit hI
 have hfit1 := hfit
 unfold Sy.fits at hfit1
 simp only [Bool.and_eq_true, beq_iff_eq] at hfit1
 refine reach_fit hfit hhead (fun js hjs => main _ _ _ _ js s rfl ?_ ?_ ?_ ?_ hI)
 ·simp only [List.length_map]; have := hfit1.1.1.1.1.1.1.1.1.1.2; omega
 ·simp only [List.length_map]; have := hfit1.1.1.1.1.1.1.1.1.2; omega
 ·simp only [dens_length]; have := hfit1.1.1.1.1.1.1.1.2; omega
 ·have := hfit1.1.1.1.1.1.1.2; omega
end
theorem loop0 {f : FuncId} (hP : ProgOk P c) (hf : P.funcs[f]? = some fnc) (hres : fn.res = fnc.results.toList) {w0 : World} {s0 : Hp} (n : Nat) (t : Cfg)
  (I : List Int -> List Bool -> List Value -> Hp -> Prop) (μ : List Int -> List Bool -> List Value -> Nat) (hhead : ∀ p d ks k, t.todo ≠ .dreg p d ks :: k)
  (round : ∀ is bs vs js s1, is.length = t.ni -> bs.length = t.nb -> vs.length = t.nv -> js.length = t.nj -> I is bs vs s1 ->
   (∀ (A : Asg) g' ρ' s', s1.le s' -> Sy.fits ⟨0, 0, 0, 0⟩ A t g' = true -> I (A.is.map (IE.den ρ')) (A.bs.map (BE.den ρ')) (SV.dens ρ' id A.vs) s' -> μ (A.is.map (IE.den ρ')) (A.bs.map (BE.den ρ')) (SV.dens ρ' id A.vs) < μ is bs vs ->
    Reach P f (Ret Q s0 w0) fn.body w0 s0 g' ρ' s') ->
   VC P Q (Reach P f (Ret Q s0 w0) fn.body w0 s0) (run c fn n t) ⟨is, bs, vs, js⟩ s1) :
  ∀ (A : Asg) (g : Cfg) (ρ : Env) (s : Hp), Sy.fits ⟨0, 0, 0, 0⟩ A t g = true -> I (A.is.map (IE.den ρ)) (A.bs.map (BE.den ρ)) (SV.dens ρ id A.vs) s -> Reach P f (Ret Q s0 w0) fn.body w0 s0 g ρ s :=
 loopX hP (EndOk.marks [] (.nil _) hf hres) (.inl rfl) n t I μ hhead round
end
end Go.Sy
namespace Go.Sy
section
variable {P : Program} {Q : Value -> Hp -> Prop} {T : Cfg -> Env -> Hp -> Prop} {ρ : Env} {s : Hp}
theorem SliceIn.kind {size : Nat} {v : Value} {xs : List (List Value)} (h : SliceIn s size v xs) : isKindV 0 v = true := by
 obtain ⟨_, a, cap, rfl, _⟩ := h
 rfl
theorem SliceIn.at {size : Nat} {v : Value} {xs : List (List Value)} {n : Nat} {i : IE} {k : Nat} {x : List Value} {ρ : Env} (h : SliceIn s size v xs) (hv : ρ.v.getD n vd = v) (hi : i.den ρ = (k : Int)) (hx : xs[k]? = some x) :
  Reads s (SV.den ρ id (.ea n i size 0)) x := by
 obtain ⟨h1, a, cap, rfl, hc, h2⟩ := h
 obtain ⟨b, o, rfl, h3⟩ := h2 (by intro h0; subst h0; simp at hx)
 refine ⟨b, o + k * size, ?_, fun j u hj => h3 k x hx j u hj⟩
 simp only [SV.den, addrOf, hv, hi, Option.getD_some, Int.toNat_natCast]
 by_cases h0 : k * size = 0
 ·simp [Addr.add, h0]
 ·simp [Addr.add, h0]
theorem vc_load {a : SV} {cs : List SV} {di db dv : Nat} {k : Out} (is : List Int) (bs : List Bool) (vs : List Value) (xs : List Value) (hr : Reads s (a.den ρ id) xs)
  (h1 : is.length = di) (h2 : bs.length = db) (h3 : vs.length = dv) (hf : vs.all fineV = true) (hx : SV.dens ⟨ρ.i ++ is, ρ.b ++ bs, ρ.v ++ vs, ρ.j⟩ id cs = xs)
  (hk : VC P Q T k ⟨ρ.i ++ is, ρ.b ++ bs, ρ.v ++ vs, ρ.j⟩ s) : VC P Q T (.load a cs di db dv k) ρ s :=
 ⟨is, bs, vs, h1, h2, h3, hf, by unfold Env.push; rw [hx]; exact hr, hk⟩
theorem vc_app {d : Nat} {e : List SV} {size bytes : Nat} {k : Out} (xs : List (List Value)) (x : List Value) (hd : SliceIn s size (ρ.v.getD d vd) xs) (he : SV.dens ρ id e = x)
  (h1 : (xs.length + 1) * bytes <= 140737488355328) (h2 : xs.length + 1 <= maxLen)
  (hk : ∀ v s', s.le s' -> SliceIn s' size v (xs ++ [x]) -> VC P Q T k ⟨ρ.i ++ [], ρ.b ++ [], ρ.v ++ [v], ρ.j⟩ s') : VC P Q T (.app (some d) (.lit [e]) size bytes k) ρ s := by
 refine ⟨xs, [x], hd, by simp [SrcIs, he], by simpa using h1, by simpa using h2, fun v s' hs h => hk v s' hs h⟩
theorem vc_stop {c : Cfg} (h : T c ρ s) : VC P Q T (.stop c) ρ s := h
theorem SliceIn.nil (s : Hp) (size : Nat) : SliceIn s size (.slice none 0 0) [] := ⟨by simp, none, 0, rfl, Nat.le_refl _, by simp⟩
theorem vc_callS {f : Nat} {args : List SV} {H : List Blk} {n : Nat} {k : Out} (as : List Value) (size : Nat) (xs : List (List Value)) (hct : ∀ s1, s.le s1 -> Ct P f as s1 (fun v s' => SliceIn s' size v xs))
  (ha : ∀ β, SV.dens ρ β args = as) (hn : ρ.v.length = n)
  (hk : ∀ v s', s.le s' -> SliceIn s' size v xs -> VC P Q T k ⟨ρ.i ++ [], ρ.b ++ [], ρ.v ++ [v], ρ.j⟩ s') : VC P Q T (.call f args H (.va n) 0 0 1 k) ρ s := by
 intro β s1 hs _
 refine ⟨_, by rw [ha β]; exact hct s1 hs, ?_⟩
 intro v s' hs' hv
 refine ⟨[], [], [v], rfl, rfl, rfl, by simp [hv.fine], ?_, hk v s' (fun b o u h => hs' b o u (hs b o u h)) hv⟩
 subst hn
 simp [SV.den, Env.push]
end
end Go.Sy
