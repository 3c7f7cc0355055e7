/- ActivityPoints: Eligibility and Exited return the specified results, and the eligibility never increases. -/
import Derived.Test.YthjahianafohjaaHAcb
import Derived.Test.YthjahianafohjaaRows
import Derived.WalkKit
import Derived.ProofKit
import Derived.OpenShut
import Derived.JoinedCond
import Derived.ShutString
set_option linter.unusedSimpArgs false
set_option linter.unusedVariables false
set_option maxRecDepth 100000
namespace Go.Proofs.Ythjahianafohjaa
open Go.ChangeShapes Go.WideShapes Go.ChangeAt Go.RowKit Go.Sx
theorem mnI_le (a b : Int) : mnI a b ≤ a := by unfold mnI; split <;> omega
theorem eligV_le (s : St) (i : Int) (l : List Ch) (x : Ch) : leB (eligV s i (l ++ [x])) (eligV s i l) = true := by
  unfold eligV
  split
  · rw [leB_true]
    simp only [eligF, List.foldl_append, List.foldl_cons, List.foldl_nil]
    exact mnI_le _ _
  · rfl
theorem points_true (n0 : Nat) (ps : List PV) (hs : Shaped Try.prog n0 53 ps) (i : Int) (hi0 : loI .i64 ≤ i) (hi1 : i ≤ hiI .i64) (n1 : Nat) (rows : List (List PV)) (hs1 : ∀ r ∈ rows, Shaped Try.prog n1 44 r) (n2 : Nat) (pc : List PV) (hs2 : Shaped Try.prog n2 44 pc) :
    evalF Tab 40001 n_saleroomlaw37_ActivityPoints [.agg ps, .int .i64 i, .sl 12 rows, .agg pc] [] = some (.bool true, []) := by
  obtain ⟨s, rfl, hS, _, _⟩ := shaped_St hs
  obtain ⟨l, rfl⟩ := shaped_Chs rows hs1
  obtain ⟨x, rfl⟩ := shaped_Ch hs2
  have hP : (PV.sl 12 (l.map Ch.row)).rowsOf 12 = some (l.map Ch.row) := sl_rows _ _
  obtain ⟨p1, p2, p3⟩ := rows_len hS.P
  obtain ⟨b1, b2, b3⟩ := rows_len hS.B
  obtain ⟨l1, l2, l3⟩ := rows_len hP
  have ll := awake37
  have c1 := few_sem [] s hS 40000 (by omega)
  have c2 := mod_sem [] l (.sl 12 (l.map Ch.row)) (sl_rows _ _) 40000 (by omega)
  have c3 := mod_sem [] [x] (.sl 12 ([x].map Ch.row)) (sl_rows _ _) 40000 (by omega)
  have c4 := fun hl : l.length ≤ 1000 => elig_sem [] s hS i l (.sl 12 (l.map Ch.row)) (sl_rows _ _) hl 40000 (by omega)
  have c5 := fun hl : l.length ≤ 30 => elig_sem [] s hS i (l ++ [x]) (.sl 12 ((l ++ [x]).map Ch.row)) (sl_rows _ _) (by simp; omega) 40000 (by omega)
  have c6 := fun hl : l.length ≤ 1000 => relig_sem [] s hS i l (.sl 12 (l.map Ch.row)) (sl_rows _ _) hl 40000 (by omega)
  have c7 := fun hl : l.length ≤ 1000 => activity_Exited_sem [] l (.sl 12 (l.map Ch.row)) (sl_rows _ _) hl 40000 (by omega)
  have c8 := fun hl : l.length ≤ 1000 => saleroomref37_Exited_sem [] l (.sl 12 (l.map Ch.row)) (sl_rows _ _) hl 40000 (by omega)
  have hle := eligV_le s i l x
  simp only [List.map_cons, List.map_nil] at c3
  have hml : modB l = true → l.length ≤ 30 := fun h => by
    simp only [modB, Bool.and_eq_true, Bool.not_eq_true', ltB_false] at h
    omega
  have a2 : l.map Ch.row ++ [x.row] = (l ++ [x]).map Ch.row := by simp
  have alen : l.length ≤ 30 → (l.map Ch.row).length ≤ 1000000 := fun h => by simp; omega
  have alen2 : l.length ≤ 30 → (l.map Ch.row).length + 1 ≤ 1000000 := fun h => by simp; omega
  generalize eligV s i (l ++ [x]) = z1 at *
  generalize eligV s i l = z2 at *
  generalize exitB l = ex at *
  generalize fewB s = fw at *
  generalize modB [x] = md2 at *
  generalize modB l = md at *
  simp only [n_saleroomlaw37_awake, n_saleroomlaw37_few, n_saleroomref37_Moderate, n_activity_Eligibility, n_saleroomref37_Eligibility, n_activity_Exited, n_saleroomref37_Exited, St.pv] at ll c1 c2 c3 c4 c5 c6 c7 c8
  rw [row_eq] at a2 c3
  rw [← a2] at c5
  generalize l.map Ch.row = L at *
  rw [evalF]
  simp only [tab_saleroomlaw37_ActivityPoints, Option.bind_some, Sys.run, St.pv, row_eq]
  show ((bindPs [.sh (.agg [_, _, _, _]), .sh (.one _), .sh (.one _), .sh (.agg [_, _, _, _, _, _, _, _, _, _, _, _])] _).bind _) = _
  simp -implicitDefEqProofs only [bindPs, bind1, bindK, Option.map_some, Option.bind_some, List.append_nil, List.nil_append, List.cons_append, if_true, p3, b3, l3, hS.C, hS.A]
  have t5 : (0 : Nat) ≤ 1000000 := by decide
  have E : PT.ev (evalF Tab 40000) saleroomlaw37_ActivityPoints_s { i := [i, x.p.a, x.p.b, x.p.c, x.p.d, x.p.e, x.p.f, x.w.a, x.w.b, x.w.c, x.w.d, x.w.e, x.w.f], b := [], v := [s.P, s.B, s.C, s.A, .sl 12 L], m := [], k := 0 } = some (.ret (.bool true) []) := by
    simp -implicitDefEqProofs only [saleroomlaw37_ActivityPoints_s, ↓reduceIte, eq_self, evb_ret, evb_ite, evb_need, evb_load, evb_app, evb_cut, evb_scut, evb_chk, evb_appF, evb_call, evb_callv, evb_newM, evb_mkM, evb_storeM, evb_appM, evb_mkMap, evb_mapGet, evb_mapSet, evb_mapClr, evb_jump, BE.safe, BE.pe, IE.pe, PEnv.at, List.getD_cons_zero, List.getD_cons_succ, List.getElem?_cons_zero, List.getElem?_cons_succ, locOf, locOn, readLoc, takeN, Nat.add_zero, List.drop_zero, List.length_cons, List.length_nil, Nat.reduceAdd, Nat.le_refl, if_true, if_false, Bool.false_eq_true, List.take_succ_cons, List.take_zero, bindK, bindRes, bind1, Option.map_some, Option.bind_some, PEnv.push, List.cons_append, List.nil_append, List.append_nil, SV.pvs, SV.pv, BE.all, Bool.and_self, Bool.not_true, Bool.not_false, List.map_cons, List.map_nil, c1]
    cases fw with
    | false => simp -implicitDefEqProofs only [↓reduceIte, eq_self, evb_ret, evb_ite, evb_need, evb_load, evb_app, evb_cut, evb_scut, evb_chk, evb_appF, evb_call, evb_callv, evb_newM, evb_mkM, evb_storeM, evb_appM, evb_mkMap, evb_mapGet, evb_mapSet, evb_mapClr, evb_jump, BE.safe, BE.pe, IE.pe, PEnv.at, List.getD_cons_zero, List.getD_cons_succ, List.getElem?_cons_zero, List.getElem?_cons_succ, locOf, locOn, readLoc, takeN, Nat.add_zero, List.drop_zero, List.length_cons, List.length_nil, Nat.reduceAdd, Nat.le_refl, if_true, if_false, Bool.false_eq_true, List.take_succ_cons, List.take_zero, bindK, bindRes, bind1, Option.map_some, Option.bind_some, PEnv.push, List.cons_append, List.nil_append, List.append_nil, SV.pvs, SV.pv, BE.all, Bool.and_self, Bool.not_true, Bool.not_false, List.map_cons, List.map_nil, ll, retP, or_true]
    | true =>
    simp -implicitDefEqProofs only [↓reduceIte, eq_self, evb_ret, evb_ite, evb_need, evb_load, evb_app, evb_cut, evb_scut, evb_chk, evb_appF, evb_call, evb_callv, evb_newM, evb_mkM, evb_storeM, evb_appM, evb_mkMap, evb_mapGet, evb_mapSet, evb_mapClr, evb_jump, BE.safe, BE.pe, IE.pe, PEnv.at, List.getD_cons_zero, List.getD_cons_succ, List.getElem?_cons_zero, List.getElem?_cons_succ, locOf, locOn, readLoc, takeN, Nat.add_zero, List.drop_zero, List.length_cons, List.length_nil, Nat.reduceAdd, Nat.le_refl, if_true, if_false, Bool.false_eq_true, List.take_succ_cons, List.take_zero, bindK, bindRes, bind1, Option.map_some, Option.bind_some, PEnv.push, List.cons_append, List.nil_append, List.append_nil, SV.pvs, SV.pv, BE.all, Bool.and_self, Bool.not_true, Bool.not_false, List.map_cons, List.map_nil, c2]
    cases md with
    | false => simp -implicitDefEqProofs only [↓reduceIte, eq_self, evb_ret, evb_ite, evb_need, evb_load, evb_app, evb_cut, evb_scut, evb_chk, evb_appF, evb_call, evb_callv, evb_newM, evb_mkM, evb_storeM, evb_appM, evb_mkMap, evb_mapGet, evb_mapSet, evb_mapClr, evb_jump, BE.safe, BE.pe, IE.pe, PEnv.at, List.getD_cons_zero, List.getD_cons_succ, List.getElem?_cons_zero, List.getElem?_cons_succ, locOf, locOn, readLoc, takeN, Nat.add_zero, List.drop_zero, List.length_cons, List.length_nil, Nat.reduceAdd, Nat.le_refl, if_true, if_false, Bool.false_eq_true, List.take_succ_cons, List.take_zero, bindK, bindRes, bind1, Option.map_some, Option.bind_some, PEnv.push, List.cons_append, List.nil_append, List.append_nil, SV.pvs, SV.pv, BE.all, Bool.and_self, Bool.not_true, Bool.not_false, List.map_cons, List.map_nil, ll, retP, or_true]
    | true =>
    have hl := hml rfl
    simp -implicitDefEqProofs only [↓reduceIte, eq_self, evb_ret, evb_ite, evb_need, evb_load, evb_app, evb_cut, evb_scut, evb_chk, evb_appF, evb_call, evb_callv, evb_newM, evb_mkM, evb_storeM, evb_appM, evb_mkMap, evb_mapGet, evb_mapSet, evb_mapClr, evb_jump, BE.safe, BE.pe, IE.pe, PEnv.at, List.getD_cons_zero, List.getD_cons_succ, List.getElem?_cons_zero, List.getElem?_cons_succ, locOf, locOn, readLoc, takeN, Nat.add_zero, List.drop_zero, List.length_cons, List.length_nil, Nat.reduceAdd, Nat.le_refl, if_true, if_false, Bool.false_eq_true, List.take_succ_cons, List.take_zero, bindK, bindRes, bind1, Option.map_some, Option.bind_some, PEnv.push, List.cons_append, List.nil_append, List.append_nil, SV.pvs, SV.pv, BE.all, Bool.and_self, Bool.not_true, Bool.not_false, List.map_cons, List.map_nil, srcRows, List.mapM_cons, List.mapM_nil, List.reverse_cons, List.reverse_nil, Option.bind_eq_bind, Option.pure_def, Nat.zero_add, if_pos one_le, c3]
    cases md2 with
    | false => simp -implicitDefEqProofs only [↓reduceIte, eq_self, evb_ret, evb_ite, evb_need, evb_load, evb_app, evb_cut, evb_scut, evb_chk, evb_appF, evb_call, evb_callv, evb_newM, evb_mkM, evb_storeM, evb_appM, evb_mkMap, evb_mapGet, evb_mapSet, evb_mapClr, evb_jump, BE.safe, BE.pe, IE.pe, PEnv.at, List.getD_cons_zero, List.getD_cons_succ, List.getElem?_cons_zero, List.getElem?_cons_succ, locOf, locOn, readLoc, takeN, Nat.add_zero, List.drop_zero, List.length_cons, List.length_nil, Nat.reduceAdd, Nat.le_refl, if_true, if_false, Bool.false_eq_true, List.take_succ_cons, List.take_zero, bindK, bindRes, bind1, Option.map_some, Option.bind_some, PEnv.push, List.cons_append, List.nil_append, List.append_nil, SV.pvs, SV.pv, BE.all, Bool.and_self, Bool.not_true, Bool.not_false, List.map_cons, List.map_nil, ll, retP, or_true]
    | true =>
    simp -implicitDefEqProofs only [↓reduceIte, eq_self, evb_ret, evb_ite, evb_need, evb_load, evb_app, evb_cut, evb_scut, evb_chk, evb_appF, evb_call, evb_callv, evb_newM, evb_mkM, evb_storeM, evb_appM, evb_mkMap, evb_mapGet, evb_mapSet, evb_mapClr, evb_jump, BE.safe, BE.pe, IE.pe, PEnv.at, List.getD_cons_zero, List.getD_cons_succ, List.getElem?_cons_zero, List.getElem?_cons_succ, locOf, locOn, readLoc, takeN, Nat.add_zero, List.drop_zero, List.length_cons, List.length_nil, Nat.reduceAdd, Nat.le_refl, if_true, if_false, Bool.false_eq_true, List.take_succ_cons, List.take_zero, bindK, bindRes, bind1, Option.map_some, Option.bind_some, PEnv.push, List.cons_append, List.nil_append, List.append_nil, SV.pvs, SV.pv, BE.all, Bool.and_self, Bool.not_true, Bool.not_false, List.map_cons, List.map_nil, c4 (by omega)]
    cases ex
    all_goals
      repeat' (first
        | with_reducible rfl
        | apply ev_both
        | (unfold saleroomlaw37_ActivityPoints_s_b1; simp -implicitDefEqProofs only [↓reduceIte, eq_self, evb_ret, evb_ite, evb_need, evb_load, evb_app, evb_cut, evb_scut, evb_chk, evb_appF, evb_call, evb_callv, evb_newM, evb_mkM, evb_storeM, evb_appM, evb_mkMap, evb_mapGet, evb_mapSet, evb_mapClr, evb_jump, BE.safe, BE.pe, IE.pe, PEnv.at, List.getD_cons_zero, List.getD_cons_succ, List.getElem?_cons_zero, List.getElem?_cons_succ, locOf, locOn, readLoc, takeN, Nat.add_zero, List.drop_zero, List.length_cons, List.length_nil, Nat.reduceAdd, Nat.le_refl, if_true, if_false, Bool.false_eq_true, List.take_succ_cons, List.take_zero, bindK, bindRes, bind1, Option.map_some, Option.bind_some, PEnv.push, List.cons_append, List.nil_append, List.append_nil, SV.pvs, SV.pv, BE.all, Bool.and_self, Bool.not_true, Bool.not_false, List.map_cons, List.map_nil, srcRows, List.mapM_cons, List.mapM_nil, List.reverse_cons, List.reverse_nil, Option.bind_eq_bind, Option.pure_def, List.reverse_nil, sl_rows, List.length_nil, Nat.zero_add, if_pos t5, if_pos one_le, if_pos (alen hl), if_pos (alen2 hl), List.nil_append, c5 hl, c6 (by omega), c7 (by omega), c8 (by omega), eqB_self, hle, Bool.or_true, Bool.or_false, Bool.and_true, Bool.and_false, ll, retP, or_true]; done)
        | (unfold saleroomlaw37_ActivityPoints_s_b1; simp -implicitDefEqProofs only [↓reduceIte, eq_self, evb_ret, evb_ite, evb_need, evb_load, evb_app, evb_cut, evb_scut, evb_chk, evb_appF, evb_call, evb_callv, evb_newM, evb_mkM, evb_storeM, evb_appM, evb_mkMap, evb_mapGet, evb_mapSet, evb_mapClr, evb_jump, BE.safe, BE.pe, IE.pe, PEnv.at, List.getD_cons_zero, List.getD_cons_succ, List.getElem?_cons_zero, List.getElem?_cons_succ, locOf, locOn, readLoc, takeN, Nat.add_zero, List.drop_zero, List.length_cons, List.length_nil, Nat.reduceAdd, Nat.le_refl, if_true, if_false, Bool.false_eq_true, List.take_succ_cons, List.take_zero, bindK, bindRes, bind1, Option.map_some, Option.bind_some, PEnv.push, List.cons_append, List.nil_append, List.append_nil, SV.pvs, SV.pv, BE.all, Bool.and_self, Bool.not_true, Bool.not_false, List.map_cons, List.map_nil, srcRows, List.mapM_cons, List.mapM_nil, List.reverse_cons, List.reverse_nil, Option.bind_eq_bind, Option.pure_def, List.reverse_nil, sl_rows, List.length_nil, Nat.zero_add, if_pos t5, if_pos one_le, if_pos (alen hl), if_pos (alen2 hl), List.nil_append, c5 hl, c6 (by omega), c7 (by omega), c8 (by omega), eqB_self, hle, Bool.or_true, Bool.or_false, Bool.and_true, Bool.and_false, ll, retP, or_true])
        | (unfold saleroomlaw37_ActivityPoints_s_b2; simp -implicitDefEqProofs only [↓reduceIte, eq_self, evb_ret, evb_ite, evb_need, evb_load, evb_app, evb_cut, evb_scut, evb_chk, evb_appF, evb_call, evb_callv, evb_newM, evb_mkM, evb_storeM, evb_appM, evb_mkMap, evb_mapGet, evb_mapSet, evb_mapClr, evb_jump, BE.safe, BE.pe, IE.pe, PEnv.at, List.getD_cons_zero, List.getD_cons_succ, List.getElem?_cons_zero, List.getElem?_cons_succ, locOf, locOn, readLoc, takeN, Nat.add_zero, List.drop_zero, List.length_cons, List.length_nil, Nat.reduceAdd, Nat.le_refl, if_true, if_false, Bool.false_eq_true, List.take_succ_cons, List.take_zero, bindK, bindRes, bind1, Option.map_some, Option.bind_some, PEnv.push, List.cons_append, List.nil_append, List.append_nil, SV.pvs, SV.pv, BE.all, Bool.and_self, Bool.not_true, Bool.not_false, List.map_cons, List.map_nil, srcRows, List.mapM_cons, List.mapM_nil, List.reverse_cons, List.reverse_nil, Option.bind_eq_bind, Option.pure_def, List.reverse_nil, sl_rows, List.length_nil, Nat.zero_add, if_pos t5, if_pos one_le, if_pos (alen hl), if_pos (alen2 hl), List.nil_append, c5 hl, c6 (by omega), c7 (by omega), c8 (by omega), eqB_self, hle, Bool.or_true, Bool.or_false, Bool.and_true, Bool.and_false, ll, retP, or_true]; done)
        | (unfold saleroomlaw37_ActivityPoints_s_b2; simp -implicitDefEqProofs only [↓reduceIte, eq_self, evb_ret, evb_ite, evb_need, evb_load, evb_app, evb_cut, evb_scut, evb_chk, evb_appF, evb_call, evb_callv, evb_newM, evb_mkM, evb_storeM, evb_appM, evb_mkMap, evb_mapGet, evb_mapSet, evb_mapClr, evb_jump, BE.safe, BE.pe, IE.pe, PEnv.at, List.getD_cons_zero, List.getD_cons_succ, List.getElem?_cons_zero, List.getElem?_cons_succ, locOf, locOn, readLoc, takeN, Nat.add_zero, List.drop_zero, List.length_cons, List.length_nil, Nat.reduceAdd, Nat.le_refl, if_true, if_false, Bool.false_eq_true, List.take_succ_cons, List.take_zero, bindK, bindRes, bind1, Option.map_some, Option.bind_some, PEnv.push, List.cons_append, List.nil_append, List.append_nil, SV.pvs, SV.pv, BE.all, Bool.and_self, Bool.not_true, Bool.not_false, List.map_cons, List.map_nil, srcRows, List.mapM_cons, List.mapM_nil, List.reverse_cons, List.reverse_nil, Option.bind_eq_bind, Option.pure_def, List.reverse_nil, sl_rows, List.length_nil, Nat.zero_add, if_pos t5, if_pos one_le, if_pos (alen hl), if_pos (alen2 hl), List.nil_append, c5 hl, c6 (by omega), c7 (by omega), c8 (by omega), eqB_self, hle, Bool.or_true, Bool.or_false, Bool.and_true, Bool.and_false, ll, retP, or_true])
        | (unfold saleroomlaw37_ActivityPoints_s_b3; simp -implicitDefEqProofs only [↓reduceIte, eq_self, evb_ret, evb_ite, evb_need, evb_load, evb_app, evb_cut, evb_scut, evb_chk, evb_appF, evb_call, evb_callv, evb_newM, evb_mkM, evb_storeM, evb_appM, evb_mkMap, evb_mapGet, evb_mapSet, evb_mapClr, evb_jump, BE.safe, BE.pe, IE.pe, PEnv.at, List.getD_cons_zero, List.getD_cons_succ, List.getElem?_cons_zero, List.getElem?_cons_succ, locOf, locOn, readLoc, takeN, Nat.add_zero, List.drop_zero, List.length_cons, List.length_nil, Nat.reduceAdd, Nat.le_refl, if_true, if_false, Bool.false_eq_true, List.take_succ_cons, List.take_zero, bindK, bindRes, bind1, Option.map_some, Option.bind_some, PEnv.push, List.cons_append, List.nil_append, List.append_nil, SV.pvs, SV.pv, BE.all, Bool.and_self, Bool.not_true, Bool.not_false, List.map_cons, List.map_nil, srcRows, List.mapM_cons, List.mapM_nil, List.reverse_cons, List.reverse_nil, Option.bind_eq_bind, Option.pure_def, List.reverse_nil, sl_rows, List.length_nil, Nat.zero_add, if_pos t5, if_pos one_le, if_pos (alen hl), if_pos (alen2 hl), List.nil_append, c5 hl, c6 (by omega), c7 (by omega), c8 (by omega), eqB_self, hle, Bool.or_true, Bool.or_false, Bool.and_true, Bool.and_false, ll, retP, or_true]; done)
        | (unfold saleroomlaw37_ActivityPoints_s_b3; simp -implicitDefEqProofs only [↓reduceIte, eq_self, evb_ret, evb_ite, evb_need, evb_load, evb_app, evb_cut, evb_scut, evb_chk, evb_appF, evb_call, evb_callv, evb_newM, evb_mkM, evb_storeM, evb_appM, evb_mkMap, evb_mapGet, evb_mapSet, evb_mapClr, evb_jump, BE.safe, BE.pe, IE.pe, PEnv.at, List.getD_cons_zero, List.getD_cons_succ, List.getElem?_cons_zero, List.getElem?_cons_succ, locOf, locOn, readLoc, takeN, Nat.add_zero, List.drop_zero, List.length_cons, List.length_nil, Nat.reduceAdd, Nat.le_refl, if_true, if_false, Bool.false_eq_true, List.take_succ_cons, List.take_zero, bindK, bindRes, bind1, Option.map_some, Option.bind_some, PEnv.push, List.cons_append, List.nil_append, List.append_nil, SV.pvs, SV.pv, BE.all, Bool.and_self, Bool.not_true, Bool.not_false, List.map_cons, List.map_nil, srcRows, List.mapM_cons, List.mapM_nil, List.reverse_cons, List.reverse_nil, Option.bind_eq_bind, Option.pure_def, List.reverse_nil, sl_rows, List.length_nil, Nat.zero_add, if_pos t5, if_pos one_le, if_pos (alen hl), if_pos (alen2 hl), List.nil_append, c5 hl, c6 (by omega), c7 (by omega), c8 (by omega), eqB_self, hle, Bool.or_true, Bool.or_false, Bool.and_true, Bool.and_false, ll, retP, or_true])
        | (unfold saleroomlaw37_ActivityPoints_s_b4; simp -implicitDefEqProofs only [↓reduceIte, eq_self, evb_ret, evb_ite, evb_need, evb_load, evb_app, evb_cut, evb_scut, evb_chk, evb_appF, evb_call, evb_callv, evb_newM, evb_mkM, evb_storeM, evb_appM, evb_mkMap, evb_mapGet, evb_mapSet, evb_mapClr, evb_jump, BE.safe, BE.pe, IE.pe, PEnv.at, List.getD_cons_zero, List.getD_cons_succ, List.getElem?_cons_zero, List.getElem?_cons_succ, locOf, locOn, readLoc, takeN, Nat.add_zero, List.drop_zero, List.length_cons, List.length_nil, Nat.reduceAdd, Nat.le_refl, if_true, if_false, Bool.false_eq_true, List.take_succ_cons, List.take_zero, bindK, bindRes, bind1, Option.map_some, Option.bind_some, PEnv.push, List.cons_append, List.nil_append, List.append_nil, SV.pvs, SV.pv, BE.all, Bool.and_self, Bool.not_true, Bool.not_false, List.map_cons, List.map_nil, srcRows, List.mapM_cons, List.mapM_nil, List.reverse_cons, List.reverse_nil, Option.bind_eq_bind, Option.pure_def, List.reverse_nil, sl_rows, List.length_nil, Nat.zero_add, if_pos t5, if_pos one_le, if_pos (alen hl), if_pos (alen2 hl), List.nil_append, c5 hl, c6 (by omega), c7 (by omega), c8 (by omega), eqB_self, hle, Bool.or_true, Bool.or_false, Bool.and_true, Bool.and_false, ll, retP, or_true]; done)
        | (unfold saleroomlaw37_ActivityPoints_s_b4; simp -implicitDefEqProofs only [↓reduceIte, eq_self, evb_ret, evb_ite, evb_need, evb_load, evb_app, evb_cut, evb_scut, evb_chk, evb_appF, evb_call, evb_callv, evb_newM, evb_mkM, evb_storeM, evb_appM, evb_mkMap, evb_mapGet, evb_mapSet, evb_mapClr, evb_jump, BE.safe, BE.pe, IE.pe, PEnv.at, List.getD_cons_zero, List.getD_cons_succ, List.getElem?_cons_zero, List.getElem?_cons_succ, locOf, locOn, readLoc, takeN, Nat.add_zero, List.drop_zero, List.length_cons, List.length_nil, Nat.reduceAdd, Nat.le_refl, if_true, if_false, Bool.false_eq_true, List.take_succ_cons, List.take_zero, bindK, bindRes, bind1, Option.map_some, Option.bind_some, PEnv.push, List.cons_append, List.nil_append, List.append_nil, SV.pvs, SV.pv, BE.all, Bool.and_self, Bool.not_true, Bool.not_false, List.map_cons, List.map_nil, srcRows, List.mapM_cons, List.mapM_nil, List.reverse_cons, List.reverse_nil, Option.bind_eq_bind, Option.pure_def, List.reverse_nil, sl_rows, List.length_nil, Nat.zero_add, if_pos t5, if_pos one_le, if_pos (alen hl), if_pos (alen2 hl), List.nil_append, c5 hl, c6 (by omega), c7 (by omega), c8 (by omega), eqB_self, hle, Bool.or_true, Bool.or_false, Bool.and_true, Bool.and_false, ll, retP, or_true]))
  show ((PT.ev (evalF Tab 40000) saleroomlaw37_ActivityPoints_s _).bind _) = _
  exact (congrArg (Option.bind · _) E).trans rfl
theorem activityPoints_own : ownKnob Try.prog.godebug = none := by kernel_rfl
theorem activityPoints_laid : laidOutB Try.prog = true := by kernel_rfl
theorem activityPoints_types : Go.Sx.closed Try.prog [53, 22, 44, 48, 49, 50, 51, 40, 42, 90, 66, 140, 142, 2, 3, 9] = true := by kernel_rfl
set_option maxRecDepth 100000 in
theorem activityPoints_lifted (os : Os) (started : os.Started) (H : Type) (enc : TypeId × Value → H) :
    ReturnsInHanded {} Try.checked os 9 .any (Rows.activityPointsSpec.pre6 enc Try.prog Try.f9 Rows.activityPointsRow.domain false) (Rows.activityPointsSpec.post enc Try.prog Try.f9 false true false false) := by
  refine returnsInHanded_of_change (C := Try.checked) activityPoints_own started (by kernel_rfl) Try.func9
    (ChangeSpec.witness6 (enc := enc) (C := Try.checked) false ⟨#[], #[.agg #[.slice none 0 0, .slice none 0 0, .slice none 0 0, .slice none 0 0], .int .i64 0, .slice none 0 0, .agg #[.int .i64 0, .int .i64 0, .int .i64 0, .int .i64 0, .int .i64 0, .int .i64 0, .int .i64 0, .int .i64 0, .int .i64 0, .int .i64 0, .int .i64 0, .int .i64 0]], []⟩ 8 (by kernel_rfl) (by kernel_rfl) (by kernel_rfl) (by kernel_rfl)) ?_
  intro W base args ds gs before hval0 hW hcnd _
  have hval : ∀ (j : Nat) t v, Try.f9.params[j]? = some t → args[j]? = some v → Value.okWide Try.prog W .any base t v := hval0
  have hW' := hW
  obtain ⟨p, q, hA0, hV, rfl, hfz, hnd⟩ := hW
  have hA : DataW.TrodAll enc Try.prog W 0 (fun _ => true) true Try.f9.params.toList args.toList ds p := hA0
  rw [Try.params9] at hA hval
  obtain ⟨v0, vs0, d0, ds0, p0, q0, hargs, rfl, rfl, h0, r0⟩ := trodAll_cons hA
  obtain ⟨v1, vs1, d1, ds1, p1, q1, rfl, rfl, rfl, h1, r1⟩ := trodAll_cons r0
  obtain ⟨v2, vs2, d2, ds2, p2, q2, rfl, rfl, rfl, h2, r2⟩ := trodAll_cons r1
  obtain ⟨v3, vs3, d3, ds3, p3, q3, rfl, rfl, rfl, h3, r3⟩ := trodAll_cons r2
  obtain ⟨rfl, rfl, rfl⟩ := trodAll_nil r3
  obtain rfl : args = #[v0, v1, v2, v3] := by cases args; simp_all
  obtain ⟨rfl, rfl⟩ := trodVars_none hV
  have k0 := h0
  have lt0 : ∀ x ∈ p0, x.block < W.heap.size := by obtain ⟨m, hm⟩ := k0; exact DataW.trod_lt m _ _ _ hm
  obtain ⟨n0, a0, e0, s0, w0⟩ := arg_struct activityPoints_types (t := 53) (by decide) Try.underlying53 (hval 0 53 v0 rfl rfl) h0
  have k1 := h1
  have lt1 : ∀ x ∈ p1, x.block < W.heap.size := by obtain ⟨m, hm⟩ := k1; exact DataW.trod_lt m _ _ _ hm
  obtain ⟨a1, e1, l1, u1⟩ := arg_int Try.underlying3 (hval 1 3 v1 rfl rfl) h1
  have k2 := h2
  have lt2 : ∀ x ∈ p2, x.block < W.heap.size := by obtain ⟨m, hm⟩ := k2; exact DataW.trod_lt m _ _ _ hm
  obtain ⟨n2, a2, e2, s2, w2⟩ := arg_slice activityPoints_types (t := 22) (by decide) Try.underlying22 (hval 2 22 v2 rfl rfl) h2
  have k3 := h3
  have lt3 : ∀ x ∈ p3, x.block < W.heap.size := by obtain ⟨m, hm⟩ := k3; exact DataW.trod_lt m _ _ _ hm
  obtain ⟨n3, a3, e3, s3, w3⟩ := arg_struct activityPoints_types (t := 44) (by decide) Try.underlying44 (hval 3 44 v3 rfl rfl) h3
  clear hA0 hval0
  rw [show Try.prog.cellsOf 44 = 12 by kernel_rfl] at e2
  have hr : Go.Sx.Reps (Go.Sx.hpOf W) [] [.agg a0, .int .i64 a1, .sl 12 a2, .agg a3] [v0, v1, v2, v3] := ⟨v0, _, rfl, e0, ⟨v1, _, rfl, e1, ⟨v2, _, rfl, e2, ⟨v3, _, rfl, e3, rfl⟩⟩⟩⟩
  refine (Go.Sx.lift_true (Go.Sx.evalF_good tab_ok 40001 9) (points_true n0 a0 s0 a1 l1 u1 n2 a2 s2 n3 a3 s3) hr).mono fun e W' hh => ?_
  obtain ⟨rfl, bel⟩ := hh
  exact ⟨_, rfl, _, _, _, [], _, [], hW', trodAll_mk1 (shut_bool Try.underlying4 _), (trodAll_cons_mk (Below.trod activityPoints_laid (by kernel_rfl) (of_decide_eq_true (by kernel_rfl)) k0 bel lt0) (trodAll_cons_mk (Below.trod activityPoints_laid (by kernel_rfl) (of_decide_eq_true (by kernel_rfl)) k1 bel lt1) (trodAll_cons_mk (Below.trod activityPoints_laid (by kernel_rfl) (of_decide_eq_true (by kernel_rfl)) k2 bel lt2) (trodAll_cons_mk (Below.trod activityPoints_laid (by kernel_rfl) (of_decide_eq_true (by kernel_rfl)) k3 bel lt3) trodAll_mk0)))), rfl, bel.frame _, fun h => by cases h⟩
theorem activityPoints_proved : Rows.ActivityPointsSaid :=
  OpenClaim.holds_of_wide 9 Try.f9 rfl rfl rfl rfl rfl rfl rfl ⟨rfl, rfl, rfl, rfl, rfl⟩ rfl rfl rfl rfl rfl (by kernel_rfl) Try.func9 (by kernel_rfl)
    (of_decide_eq_true (by kernel_rfl)) (by unfold Func.isWrapper; first | (rw [if_pos (by decide +kernel)]; kernel_rfl) | (rw [if_neg (by decide +kernel)]; exact ⟨rfl, rfl⟩))
    (fun os started H enc _ => activityPoints_lifted os started H enc)
end Go.Proofs.Ythjahianafohjaa
