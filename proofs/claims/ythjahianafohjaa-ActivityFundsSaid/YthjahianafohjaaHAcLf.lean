/- ActivityFunds: Affordable compares the cost of a choice with the budget. -/
import Derived.Test.YthjahianafohjaaHAca
import Derived.Test.YthjahianafohjaaRows
import Derived.WalkKit
import Derived.ProofKit
import Derived.OpenShut
import Derived.JoinedCond
import Derived.ShutString
set_option linter.unusedSimpArgs false
set_option linter.unusedVariables false
set_option maxRecDepth 100000
namespace Go.Proofs.Ythjahianafohjaa
open Go.ChangeShapes Go.WideShapes Go.ChangeAt Go.RowKit Go.Sx
theorem funds_true (n0 : Nat) (ps : List PV) (hs : Shaped Try.prog n0 53 ps) (i : Int) (hi0 : loI .i64 ≤ i) (hi1 : i ≤ hiI .i64) (n2 : Nat) (pc : List PV) (hs2 : Shaped Try.prog n2 44 pc) :
    evalF Tab 40001 n_saleroomlaw37_ActivityFunds [.agg ps, .int .i64 i, .agg pc] [] = some (.bool true, []) := by
  obtain ⟨s, rfl, hS, _, _⟩ := shaped_St hs
  obtain ⟨x, rfl⟩ := shaped_Ch hs2
  obtain ⟨p1, p2, p3⟩ := rows_len hS.P
  obtain ⟨b1, b2, b3⟩ := rows_len hS.B
  have ll := awake37
  have c1 := few_sem [] s hS 40000 (by omega)
  have c2 := mod_sem [] [x] (.sl 12 ([x].map Ch.row)) (sl_rows _ _) 40000 (by omega)
  have c3 := fun hx : x.ok => activity_Affordable_sem [] s hS i x hx 39999 (by omega) (bundle_Cost_sem [] x.p x.w hx.1 hx.2 39999 (by omega))
  have c4 := fun hx : x.ok => saleroomref37_Affordable_sem [] s hS i x hx 39999 (by omega) (rcost37_sem [] x.p x.w hx.1 hx.2 39999 (by omega))
  have hm : modB [x] = decide x.ok := by simp [modB, ltB]
  rw [hm] at c2
  simp only [List.map_cons, List.map_nil] at c2
  rw [show 39999 + 1 = 40000 from rfl] at c3 c4
  generalize affV s i x = z at *
  generalize fewB s = fw at *
  simp only [n_saleroomlaw37_awake, n_saleroomlaw37_few, n_saleroomref37_Moderate, n_activity_Affordable, n_saleroomref37_Affordable, St.pv, row_eq] at ll c1 c2 c3 c4
  rw [evalF]
  simp only [tab_saleroomlaw37_ActivityFunds, Option.bind_some, Sys.run, St.pv, row_eq]
  show ((bindPs [.sh (.agg [_, _, _, _]), .sh (.one _), .sh (.agg [_, _, _, _, _, _, _, _, _, _, _, _])] _).bind _) = _
  simp -implicitDefEqProofs only [bindPs, bind1, bindK, Option.map_some, Option.bind_some, List.append_nil, List.nil_append, List.cons_append, if_true, p3, b3, hS.C, hS.A]
  show (PT.ev _ saleroomlaw37_ActivityFunds_s _).bind _ = _
  simp -implicitDefEqProofs only [saleroomlaw37_ActivityFunds_s, ↓reduceIte, eq_self, evb_ret, evb_ite, evb_need, evb_load, evb_app, evb_cut, evb_scut, evb_chk, evb_appF, evb_call, evb_callv, evb_newM, evb_mkM, evb_storeM, evb_appM, evb_mkMap, evb_mapGet, evb_mapSet, evb_mapClr, evb_jump, BE.safe, BE.pe, IE.pe, PEnv.at, List.getD_cons_zero, List.getD_cons_succ, List.getElem?_cons_zero, List.getElem?_cons_succ, locOf, locOn, readLoc, takeN, Nat.add_zero, List.drop_zero, List.length_cons, List.length_nil, Nat.reduceAdd, Nat.le_refl, if_true, if_false, Bool.false_eq_true, List.take_succ_cons, List.take_zero, bindK, bindRes, bind1, Option.map_some, Option.bind_some, PEnv.push, List.cons_append, List.nil_append, List.append_nil, SV.pvs, SV.pv, BE.all, Bool.and_self, Bool.not_true, Bool.not_false, List.map_cons, List.map_nil, c1]
  cases fw with
  | false => simp -implicitDefEqProofs only [↓reduceIte, eq_self, evb_ret, evb_ite, evb_need, evb_load, evb_app, evb_cut, evb_scut, evb_chk, evb_appF, evb_call, evb_callv, evb_newM, evb_mkM, evb_storeM, evb_appM, evb_mkMap, evb_mapGet, evb_mapSet, evb_mapClr, evb_jump, BE.safe, BE.pe, IE.pe, PEnv.at, List.getD_cons_zero, List.getD_cons_succ, List.getElem?_cons_zero, List.getElem?_cons_succ, locOf, locOn, readLoc, takeN, Nat.add_zero, List.drop_zero, List.length_cons, List.length_nil, Nat.reduceAdd, Nat.le_refl, if_true, if_false, Bool.false_eq_true, List.take_succ_cons, List.take_zero, bindK, bindRes, bind1, Option.map_some, Option.bind_some, PEnv.push, List.cons_append, List.nil_append, List.append_nil, SV.pvs, SV.pv, BE.all, Bool.and_self, Bool.not_true, Bool.not_false, List.map_cons, List.map_nil, ll, retP, or_true]
  | true =>
    simp -implicitDefEqProofs only [↓reduceIte, eq_self, evb_ret, evb_ite, evb_need, evb_load, evb_app, evb_cut, evb_scut, evb_chk, evb_appF, evb_call, evb_callv, evb_newM, evb_mkM, evb_storeM, evb_appM, evb_mkMap, evb_mapGet, evb_mapSet, evb_mapClr, evb_jump, BE.safe, BE.pe, IE.pe, PEnv.at, List.getD_cons_zero, List.getD_cons_succ, List.getElem?_cons_zero, List.getElem?_cons_succ, locOf, locOn, readLoc, takeN, Nat.add_zero, List.drop_zero, List.length_cons, List.length_nil, Nat.reduceAdd, Nat.le_refl, if_true, if_false, Bool.false_eq_true, List.take_succ_cons, List.take_zero, bindK, bindRes, bind1, Option.map_some, Option.bind_some, PEnv.push, List.cons_append, List.nil_append, List.append_nil, SV.pvs, SV.pv, BE.all, Bool.and_self, Bool.not_true, Bool.not_false, List.map_cons, List.map_nil, srcRows, List.mapM_cons, List.mapM_nil, List.reverse_cons, List.reverse_nil, Option.bind_eq_bind, Option.pure_def, Nat.zero_add, if_pos one_le, c2]
    by_cases hx : x.ok
    · rw [decide_eq_true hx]
      simp -implicitDefEqProofs only [↓reduceIte, eq_self, evb_ret, evb_ite, evb_need, evb_load, evb_app, evb_cut, evb_scut, evb_chk, evb_appF, evb_call, evb_callv, evb_newM, evb_mkM, evb_storeM, evb_appM, evb_mkMap, evb_mapGet, evb_mapSet, evb_mapClr, evb_jump, BE.safe, BE.pe, IE.pe, PEnv.at, List.getD_cons_zero, List.getD_cons_succ, List.getElem?_cons_zero, List.getElem?_cons_succ, locOf, locOn, readLoc, takeN, Nat.add_zero, List.drop_zero, List.length_cons, List.length_nil, Nat.reduceAdd, Nat.le_refl, if_true, if_false, Bool.false_eq_true, List.take_succ_cons, List.take_zero, bindK, bindRes, bind1, Option.map_some, Option.bind_some, PEnv.push, List.cons_append, List.nil_append, List.append_nil, SV.pvs, SV.pv, BE.all, Bool.and_self, Bool.not_true, Bool.not_false, List.map_cons, List.map_nil, c3 hx, c4 hx, eqB_self, ll, retP, or_true]
    · rw [decide_eq_false hx]
      simp -implicitDefEqProofs only [↓reduceIte, eq_self, evb_ret, evb_ite, evb_need, evb_load, evb_app, evb_cut, evb_scut, evb_chk, evb_appF, evb_call, evb_callv, evb_newM, evb_mkM, evb_storeM, evb_appM, evb_mkMap, evb_mapGet, evb_mapSet, evb_mapClr, evb_jump, BE.safe, BE.pe, IE.pe, PEnv.at, List.getD_cons_zero, List.getD_cons_succ, List.getElem?_cons_zero, List.getElem?_cons_succ, locOf, locOn, readLoc, takeN, Nat.add_zero, List.drop_zero, List.length_cons, List.length_nil, Nat.reduceAdd, Nat.le_refl, if_true, if_false, Bool.false_eq_true, List.take_succ_cons, List.take_zero, bindK, bindRes, bind1, Option.map_some, Option.bind_some, PEnv.push, List.cons_append, List.nil_append, List.append_nil, SV.pvs, SV.pv, BE.all, Bool.and_self, Bool.not_true, Bool.not_false, List.map_cons, List.map_nil, ll, retP, or_true]
theorem activityFunds_own : ownKnob Try.prog.godebug = none := by kernel_rfl
theorem activityFunds_laid : laidOutB Try.prog = true := by kernel_rfl
theorem activityFunds_types : Go.Sx.closed Try.prog [53, 44, 48, 49, 50, 51, 40, 42, 90, 66, 140, 142, 2, 3, 9] = true := by kernel_rfl
set_option maxRecDepth 100000 in
theorem activityFunds_lifted (os : Os) (started : os.Started) (H : Type) (enc : TypeId × Value → H) :
    ReturnsInHanded {} Try.checked os 10 .any (Rows.activityFundsSpec.pre6 enc Try.prog Try.f10 Rows.activityFundsRow.domain false) (Rows.activityFundsSpec.post enc Try.prog Try.f10 false true false false) := by
  refine returnsInHanded_of_change (C := Try.checked) activityFunds_own started (by kernel_rfl) Try.func10
    (ChangeSpec.witness6 (enc := enc) (C := Try.checked) false ⟨#[], #[.agg #[.slice none 0 0, .slice none 0 0, .slice none 0 0, .slice none 0 0], .int .i64 0, .agg #[.int .i64 0, .int .i64 0, .int .i64 0, .int .i64 0, .int .i64 0, .int .i64 0, .int .i64 0, .int .i64 0, .int .i64 0, .int .i64 0, .int .i64 0, .int .i64 0]], []⟩ 8 (by kernel_rfl) (by kernel_rfl) (by kernel_rfl) (by kernel_rfl)) ?_
  intro W base args ds gs before hval0 hW hcnd _
  have hval : ∀ (j : Nat) t v, Try.f10.params[j]? = some t → args[j]? = some v → Value.okWide Try.prog W .any base t v := hval0
  have hW' := hW
  obtain ⟨p, q, hA0, hV, rfl, hfz, hnd⟩ := hW
  have hA : DataW.TrodAll enc Try.prog W 0 (fun _ => true) true Try.f10.params.toList args.toList ds p := hA0
  rw [Try.params10] at hA hval
  obtain ⟨v0, vs0, d0, ds0, p0, q0, hargs, rfl, rfl, h0, r0⟩ := trodAll_cons hA
  obtain ⟨v1, vs1, d1, ds1, p1, q1, rfl, rfl, rfl, h1, r1⟩ := trodAll_cons r0
  obtain ⟨v2, vs2, d2, ds2, p2, q2, rfl, rfl, rfl, h2, r2⟩ := trodAll_cons r1
  obtain ⟨rfl, rfl, rfl⟩ := trodAll_nil r2
  obtain rfl : args = #[v0, v1, v2] := by cases args; simp_all
  obtain ⟨rfl, rfl⟩ := trodVars_none hV
  have k0 := h0
  have lt0 : ∀ x ∈ p0, x.block < W.heap.size := by obtain ⟨m, hm⟩ := k0; exact DataW.trod_lt m _ _ _ hm
  obtain ⟨n0, a0, e0, s0, w0⟩ := arg_struct activityFunds_types (t := 53) (by decide) Try.underlying53 (hval 0 53 v0 rfl rfl) h0
  have k1 := h1
  have lt1 : ∀ x ∈ p1, x.block < W.heap.size := by obtain ⟨m, hm⟩ := k1; exact DataW.trod_lt m _ _ _ hm
  obtain ⟨a1, e1, l1, u1⟩ := arg_int Try.underlying3 (hval 1 3 v1 rfl rfl) h1
  have k2 := h2
  have lt2 : ∀ x ∈ p2, x.block < W.heap.size := by obtain ⟨m, hm⟩ := k2; exact DataW.trod_lt m _ _ _ hm
  obtain ⟨n2, a2, e2, s2, w2⟩ := arg_struct activityFunds_types (t := 44) (by decide) Try.underlying44 (hval 2 44 v2 rfl rfl) h2
  clear hA0 hval0
  have hr : Go.Sx.Reps (Go.Sx.hpOf W) [] [.agg a0, .int .i64 a1, .agg a2] [v0, v1, v2] := ⟨v0, _, rfl, e0, ⟨v1, _, rfl, e1, ⟨v2, _, rfl, e2, rfl⟩⟩⟩
  refine (Go.Sx.lift_true (Go.Sx.evalF_good tab_ok 40001 10) (funds_true n0 a0 s0 a1 l1 u1 n2 a2 s2) hr).mono fun e W' hh => ?_
  obtain ⟨rfl, bel⟩ := hh
  exact ⟨_, rfl, _, _, _, [], _, [], hW', trodAll_mk1 (shut_bool Try.underlying4 _), (trodAll_cons_mk (Below.trod activityFunds_laid (by kernel_rfl) (of_decide_eq_true (by kernel_rfl)) k0 bel lt0) (trodAll_cons_mk (Below.trod activityFunds_laid (by kernel_rfl) (of_decide_eq_true (by kernel_rfl)) k1 bel lt1) (trodAll_cons_mk (Below.trod activityFunds_laid (by kernel_rfl) (of_decide_eq_true (by kernel_rfl)) k2 bel lt2) trodAll_mk0))), rfl, bel.frame _, fun h => by cases h⟩
theorem activityFunds_proved : Rows.ActivityFundsSaid :=
  OpenClaim.holds_of_wide 10 Try.f10 rfl rfl rfl rfl rfl rfl rfl ⟨rfl, rfl, rfl, rfl, rfl⟩ rfl rfl rfl rfl rfl (by kernel_rfl) Try.func10 (by kernel_rfl)
    (of_decide_eq_true (by kernel_rfl)) (by unfold Func.isWrapper; first | (rw [if_pos (by decide +kernel)]; kernel_rfl) | (rw [if_neg (by decide +kernel)]; exact ⟨rfl, rfl⟩))
    (fun os started H enc _ => activityFunds_lifted os started H enc)
end Go.Proofs.Ythjahianafohjaa
