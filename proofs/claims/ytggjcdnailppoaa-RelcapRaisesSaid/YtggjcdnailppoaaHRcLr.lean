/- RelcapRaises: a further bid on one bundle never lowers the cap of another bundle, and without choices every valid bid is accepted, for all lists of at most 14 choices and 14 bids. -/
import Derived.Test.YtggjcdnailppoaaHRca
import Derived.Test.YtggjcdnailppoaaRows
import Derived.WalkKit
import Derived.ProofKit
import Derived.OpenShut
import Derived.JoinedCond
import Derived.ShutString
set_option linter.unusedSimpArgs false
set_option linter.unusedVariables false
set_option maxRecDepth 100000
namespace Go.Proofs.Ytggjcdnailppoaa
open Go.ChangeShapes Go.WideShapes Go.ChangeAt Go.RowKit Go.Sx
theorem raises_no (o : Of) (b : W6) (P B : PV) {rb : List (List PV)} (hB : B.rowsOf 8 = some rb) (r1 : rb.length ≤ 1000000) (r2 : rb.length + 1 ≤ 1000000) (z1 z2 : Int) (rr : Int × Int) (rg : Bool) (bb : Int)
    (c1 : evalF Tab 40000 13 [P, B, .agg [.int .i64 b.a, .int .i64 b.b, .int .i64 b.c, .int .i64 b.d, .int .i64 b.e, .int .i64 b.f]] [] = some (.int .i64 z1, []))
    (c2 : evalF Tab 40000 13 [P, .sl 8 (rb ++ [[.int .i64 o.n, .int .i64 o.w.a, .int .i64 o.w.b, .int .i64 o.w.c, .int .i64 o.w.d, .int .i64 o.w.e, .int .i64 o.w.f, .int .i64 o.v]]), .agg [.int .i64 b.a, .int .i64 b.b, .int .i64 b.c, .int .i64 b.d, .int .i64 b.e, .int .i64 b.f]] [] = some (.int .i64 z2, []))
    (g1 : ltB z2 z1 = false)
    (c4 : evalF Tab 40000 15 [.nilS, .sl 8 [[.int .i64 o.n, .int .i64 o.w.a, .int .i64 o.w.b, .int .i64 o.w.c, .int .i64 o.w.d, .int .i64 o.w.e, .int .i64 o.w.f, .int .i64 o.v]]] [] = some (.tup [.int .i64 rr.1, .int .i64 rr.2], []))
    (c5 : evalF Tab 40000 16 [.agg [.int .i64 o.n, .int .i64 o.w.a, .int .i64 o.w.b, .int .i64 o.w.c, .int .i64 o.w.d, .int .i64 o.w.e, .int .i64 o.w.f, .int .i64 o.v]] [] = some (.bool rg, []))
    (g2 : (eqB rr.2 0 && rg || !(eqB rr.2 0) && !rg) = true)
    (c6 : evalF Tab 40000 17 [.agg [.int .i64 b.a, .int .i64 b.b, .int .i64 b.c, .int .i64 b.d, .int .i64 b.e, .int .i64 b.f]] [] = some (.int .i64 bb, []))
    (hbb : eqB bb 0 = false)
    (ll : evalF Tab 40000 9 [] [] = some (.bool true, [])) :
    PT.ev (evalF Tab 40000) (.both saleroomlaw40_RelcapRaises_s_b3 saleroomlaw40_RelcapRaises_s_b4) { i := [o.n, o.w.a, o.w.b, o.w.c, o.w.d, o.w.e, o.w.f, o.v, b.a, b.b, b.c, b.d, b.e, b.f], b := [], v := [P, B], m := [], k := 0 } = some (.ret (.bool true) []) := by
  have t5 : (0 : Nat) ≤ 1000000 := by decide
  repeat' (first
    | with_reducible rfl
    | apply ev_both
    | (unfold saleroomlaw40_RelcapRaises_s_b1; simp -implicitDefEqProofs only [↓reduceIte, eq_self, evb_ret, evb_ite, evb_need, evb_load, evb_app, evb_cut, evb_chk, evb_appF, evb_call, evb_callv, evb_newM, evb_mkM, evb_storeM, evb_appM, evb_mkMap, evb_mapGet, evb_mapSet, evb_mapClr, evb_jump, BE.safe, BE.pe, IE.pe, PEnv.at, List.getD_cons_zero, List.getD_cons_succ, List.getElem?_cons_zero, List.getElem?_cons_succ, locOf, locOn, readLoc, takeN, Nat.add_zero, List.drop_zero, List.length_cons, List.length_nil, Nat.reduceAdd, Nat.le_refl, if_true, if_false, Bool.false_eq_true, List.take_succ_cons, List.take_zero, bindK, bindRes, bind1, Option.map_some, Option.bind_some, PEnv.push, List.cons_append, List.nil_append, List.append_nil, SV.pvs, SV.pv, BE.all, Bool.and_self, Bool.not_true, Bool.not_false, List.map_cons, List.map_nil, srcRows, List.mapM_cons, List.mapM_nil, List.reverse_cons, List.reverse_nil, Option.bind_eq_bind, Option.pure_def, if_pos one_le, Nat.zero_add, sl_rows, hB, List.length_nil, if_pos t5, if_pos r1, if_pos r2, List.nil_append, c1, c2, g1, c4, bindShs, c5, g2, c6, hbb, ll, retP, or_true]; done)
    | (unfold saleroomlaw40_RelcapRaises_s_b1; simp -implicitDefEqProofs only [↓reduceIte, eq_self, evb_ret, evb_ite, evb_need, evb_load, evb_app, evb_cut, evb_chk, evb_appF, evb_call, evb_callv, evb_newM, evb_mkM, evb_storeM, evb_appM, evb_mkMap, evb_mapGet, evb_mapSet, evb_mapClr, evb_jump, BE.safe, BE.pe, IE.pe, PEnv.at, List.getD_cons_zero, List.getD_cons_succ, List.getElem?_cons_zero, List.getElem?_cons_succ, locOf, locOn, readLoc, takeN, Nat.add_zero, List.drop_zero, List.length_cons, List.length_nil, Nat.reduceAdd, Nat.le_refl, if_true, if_false, Bool.false_eq_true, List.take_succ_cons, List.take_zero, bindK, bindRes, bind1, Option.map_some, Option.bind_some, PEnv.push, List.cons_append, List.nil_append, List.append_nil, SV.pvs, SV.pv, BE.all, Bool.and_self, Bool.not_true, Bool.not_false, List.map_cons, List.map_nil, srcRows, List.mapM_cons, List.mapM_nil, List.reverse_cons, List.reverse_nil, Option.bind_eq_bind, Option.pure_def, if_pos one_le, Nat.zero_add, sl_rows, hB, List.length_nil, if_pos t5, if_pos r1, if_pos r2, List.nil_append, c1, c2, g1, c4, bindShs, c5, g2, c6, hbb, ll, retP, or_true])
    | (unfold saleroomlaw40_RelcapRaises_s_b2; simp -implicitDefEqProofs only [↓reduceIte, eq_self, evb_ret, evb_ite, evb_need, evb_load, evb_app, evb_cut, evb_chk, evb_appF, evb_call, evb_callv, evb_newM, evb_mkM, evb_storeM, evb_appM, evb_mkMap, evb_mapGet, evb_mapSet, evb_mapClr, evb_jump, BE.safe, BE.pe, IE.pe, PEnv.at, List.getD_cons_zero, List.getD_cons_succ, List.getElem?_cons_zero, List.getElem?_cons_succ, locOf, locOn, readLoc, takeN, Nat.add_zero, List.drop_zero, List.length_cons, List.length_nil, Nat.reduceAdd, Nat.le_refl, if_true, if_false, Bool.false_eq_true, List.take_succ_cons, List.take_zero, bindK, bindRes, bind1, Option.map_some, Option.bind_some, PEnv.push, List.cons_append, List.nil_append, List.append_nil, SV.pvs, SV.pv, BE.all, Bool.and_self, Bool.not_true, Bool.not_false, List.map_cons, List.map_nil, srcRows, List.mapM_cons, List.mapM_nil, List.reverse_cons, List.reverse_nil, Option.bind_eq_bind, Option.pure_def, if_pos one_le, Nat.zero_add, sl_rows, hB, List.length_nil, if_pos t5, if_pos r1, if_pos r2, List.nil_append, c1, c2, g1, c4, bindShs, c5, g2, c6, hbb, ll, retP, or_true]; done)
    | (unfold saleroomlaw40_RelcapRaises_s_b2; simp -implicitDefEqProofs only [↓reduceIte, eq_self, evb_ret, evb_ite, evb_need, evb_load, evb_app, evb_cut, evb_chk, evb_appF, evb_call, evb_callv, evb_newM, evb_mkM, evb_storeM, evb_appM, evb_mkMap, evb_mapGet, evb_mapSet, evb_mapClr, evb_jump, BE.safe, BE.pe, IE.pe, PEnv.at, List.getD_cons_zero, List.getD_cons_succ, List.getElem?_cons_zero, List.getElem?_cons_succ, locOf, locOn, readLoc, takeN, Nat.add_zero, List.drop_zero, List.length_cons, List.length_nil, Nat.reduceAdd, Nat.le_refl, if_true, if_false, Bool.false_eq_true, List.take_succ_cons, List.take_zero, bindK, bindRes, bind1, Option.map_some, Option.bind_some, PEnv.push, List.cons_append, List.nil_append, List.append_nil, SV.pvs, SV.pv, BE.all, Bool.and_self, Bool.not_true, Bool.not_false, List.map_cons, List.map_nil, srcRows, List.mapM_cons, List.mapM_nil, List.reverse_cons, List.reverse_nil, Option.bind_eq_bind, Option.pure_def, if_pos one_le, Nat.zero_add, sl_rows, hB, List.length_nil, if_pos t5, if_pos r1, if_pos r2, List.nil_append, c1, c2, g1, c4, bindShs, c5, g2, c6, hbb, ll, retP, or_true])
    | (unfold saleroomlaw40_RelcapRaises_s_b3; simp -implicitDefEqProofs only [↓reduceIte, eq_self, evb_ret, evb_ite, evb_need, evb_load, evb_app, evb_cut, evb_chk, evb_appF, evb_call, evb_callv, evb_newM, evb_mkM, evb_storeM, evb_appM, evb_mkMap, evb_mapGet, evb_mapSet, evb_mapClr, evb_jump, BE.safe, BE.pe, IE.pe, PEnv.at, List.getD_cons_zero, List.getD_cons_succ, List.getElem?_cons_zero, List.getElem?_cons_succ, locOf, locOn, readLoc, takeN, Nat.add_zero, List.drop_zero, List.length_cons, List.length_nil, Nat.reduceAdd, Nat.le_refl, if_true, if_false, Bool.false_eq_true, List.take_succ_cons, List.take_zero, bindK, bindRes, bind1, Option.map_some, Option.bind_some, PEnv.push, List.cons_append, List.nil_append, List.append_nil, SV.pvs, SV.pv, BE.all, Bool.and_self, Bool.not_true, Bool.not_false, List.map_cons, List.map_nil, srcRows, List.mapM_cons, List.mapM_nil, List.reverse_cons, List.reverse_nil, Option.bind_eq_bind, Option.pure_def, if_pos one_le, Nat.zero_add, sl_rows, hB, List.length_nil, if_pos t5, if_pos r1, if_pos r2, List.nil_append, c1, c2, g1, c4, bindShs, c5, g2, c6, hbb, ll, retP, or_true]; done)
    | (unfold saleroomlaw40_RelcapRaises_s_b3; simp -implicitDefEqProofs only [↓reduceIte, eq_self, evb_ret, evb_ite, evb_need, evb_load, evb_app, evb_cut, evb_chk, evb_appF, evb_call, evb_callv, evb_newM, evb_mkM, evb_storeM, evb_appM, evb_mkMap, evb_mapGet, evb_mapSet, evb_mapClr, evb_jump, BE.safe, BE.pe, IE.pe, PEnv.at, List.getD_cons_zero, List.getD_cons_succ, List.getElem?_cons_zero, List.getElem?_cons_succ, locOf, locOn, readLoc, takeN, Nat.add_zero, List.drop_zero, List.length_cons, List.length_nil, Nat.reduceAdd, Nat.le_refl, if_true, if_false, Bool.false_eq_true, List.take_succ_cons, List.take_zero, bindK, bindRes, bind1, Option.map_some, Option.bind_some, PEnv.push, List.cons_append, List.nil_append, List.append_nil, SV.pvs, SV.pv, BE.all, Bool.and_self, Bool.not_true, Bool.not_false, List.map_cons, List.map_nil, srcRows, List.mapM_cons, List.mapM_nil, List.reverse_cons, List.reverse_nil, Option.bind_eq_bind, Option.pure_def, if_pos one_le, Nat.zero_add, sl_rows, hB, List.length_nil, if_pos t5, if_pos r1, if_pos r2, List.nil_append, c1, c2, g1, c4, bindShs, c5, g2, c6, hbb, ll, retP, or_true])
    | (unfold saleroomlaw40_RelcapRaises_s_b4; simp -implicitDefEqProofs only [↓reduceIte, eq_self, evb_ret, evb_ite, evb_need, evb_load, evb_app, evb_cut, evb_chk, evb_appF, evb_call, evb_callv, evb_newM, evb_mkM, evb_storeM, evb_appM, evb_mkMap, evb_mapGet, evb_mapSet, evb_mapClr, evb_jump, BE.safe, BE.pe, IE.pe, PEnv.at, List.getD_cons_zero, List.getD_cons_succ, List.getElem?_cons_zero, List.getElem?_cons_succ, locOf, locOn, readLoc, takeN, Nat.add_zero, List.drop_zero, List.length_cons, List.length_nil, Nat.reduceAdd, Nat.le_refl, if_true, if_false, Bool.false_eq_true, List.take_succ_cons, List.take_zero, bindK, bindRes, bind1, Option.map_some, Option.bind_some, PEnv.push, List.cons_append, List.nil_append, List.append_nil, SV.pvs, SV.pv, BE.all, Bool.and_self, Bool.not_true, Bool.not_false, List.map_cons, List.map_nil, srcRows, List.mapM_cons, List.mapM_nil, List.reverse_cons, List.reverse_nil, Option.bind_eq_bind, Option.pure_def, if_pos one_le, Nat.zero_add, sl_rows, hB, List.length_nil, if_pos t5, if_pos r1, if_pos r2, List.nil_append, c1, c2, g1, c4, bindShs, c5, g2, c6, hbb, ll, retP, or_true]; done)
    | (unfold saleroomlaw40_RelcapRaises_s_b4; simp -implicitDefEqProofs only [↓reduceIte, eq_self, evb_ret, evb_ite, evb_need, evb_load, evb_app, evb_cut, evb_chk, evb_appF, evb_call, evb_callv, evb_newM, evb_mkM, evb_storeM, evb_appM, evb_mkMap, evb_mapGet, evb_mapSet, evb_mapClr, evb_jump, BE.safe, BE.pe, IE.pe, PEnv.at, List.getD_cons_zero, List.getD_cons_succ, List.getElem?_cons_zero, List.getElem?_cons_succ, locOf, locOn, readLoc, takeN, Nat.add_zero, List.drop_zero, List.length_cons, List.length_nil, Nat.reduceAdd, Nat.le_refl, if_true, if_false, Bool.false_eq_true, List.take_succ_cons, List.take_zero, bindK, bindRes, bind1, Option.map_some, Option.bind_some, PEnv.push, List.cons_append, List.nil_append, List.append_nil, SV.pvs, SV.pv, BE.all, Bool.and_self, Bool.not_true, Bool.not_false, List.map_cons, List.map_nil, srcRows, List.mapM_cons, List.mapM_nil, List.reverse_cons, List.reverse_nil, Option.bind_eq_bind, Option.pure_def, if_pos one_le, Nat.zero_add, sl_rows, hB, List.length_nil, if_pos t5, if_pos r1, if_pos r2, List.nil_append, c1, c2, g1, c4, bindShs, c5, g2, c6, hbb, ll, retP, or_true]))
theorem raises_yes (o : Of) (b : W6) (P B : PV) {rb : List (List PV)} (hB : B.rowsOf 8 = some rb) (r1 : rb.length ≤ 1000000) (r2 : rb.length + 1 ≤ 1000000) (z1 z2 z3 : Int) (rr : Int × Int) (rg : Bool) (bb : Int)
    (c1 : evalF Tab 40000 13 [P, B, .agg [.int .i64 b.a, .int .i64 b.b, .int .i64 b.c, .int .i64 b.d, .int .i64 b.e, .int .i64 b.f]] [] = some (.int .i64 z1, []))
    (c2 : evalF Tab 40000 13 [P, .sl 8 (rb ++ [[.int .i64 o.n, .int .i64 o.w.a, .int .i64 o.w.b, .int .i64 o.w.c, .int .i64 o.w.d, .int .i64 o.w.e, .int .i64 o.w.f, .int .i64 o.v]]), .agg [.int .i64 b.a, .int .i64 b.b, .int .i64 b.c, .int .i64 b.d, .int .i64 b.e, .int .i64 b.f]] [] = some (.int .i64 z2, []))
    (g1 : ltB z2 z1 = false)
    (c4 : evalF Tab 40000 15 [.nilS, .sl 8 [[.int .i64 o.n, .int .i64 o.w.a, .int .i64 o.w.b, .int .i64 o.w.c, .int .i64 o.w.d, .int .i64 o.w.e, .int .i64 o.w.f, .int .i64 o.v]]] [] = some (.tup [.int .i64 rr.1, .int .i64 rr.2], []))
    (c5 : evalF Tab 40000 16 [.agg [.int .i64 o.n, .int .i64 o.w.a, .int .i64 o.w.b, .int .i64 o.w.c, .int .i64 o.w.d, .int .i64 o.w.e, .int .i64 o.w.f, .int .i64 o.v]] [] = some (.bool rg, []))
    (g2 : (eqB rr.2 0 && rg || !(eqB rr.2 0) && !rg) = true)
    (c6 : evalF Tab 40000 17 [.agg [.int .i64 b.a, .int .i64 b.b, .int .i64 b.c, .int .i64 b.d, .int .i64 b.e, .int .i64 b.f]] [] = some (.int .i64 bb, []))
    (hbb : eqB bb 0 = true)
    (c3 : evalF Tab 40000 13 [.nilS, B, .agg [.int .i64 b.a, .int .i64 b.b, .int .i64 b.c, .int .i64 b.d, .int .i64 b.e, .int .i64 b.f]] [] = some (.int .i64 z3, [])) (g3 : eqB z3 1000000 = true)
    (ll : evalF Tab 40000 9 [] [] = some (.bool true, [])) :
    PT.ev (evalF Tab 40000) (.both saleroomlaw40_RelcapRaises_s_b3 saleroomlaw40_RelcapRaises_s_b4) { i := [o.n, o.w.a, o.w.b, o.w.c, o.w.d, o.w.e, o.w.f, o.v, b.a, b.b, b.c, b.d, b.e, b.f], b := [], v := [P, B], m := [], k := 0 } = some (.ret (.bool true) []) := by
  have t5 : (0 : Nat) ≤ 1000000 := by decide
  repeat' (first
    | with_reducible rfl
    | apply ev_both
    | (unfold saleroomlaw40_RelcapRaises_s_b1; simp -implicitDefEqProofs only [↓reduceIte, eq_self, evb_ret, evb_ite, evb_need, evb_load, evb_app, evb_cut, evb_chk, evb_appF, evb_call, evb_callv, evb_newM, evb_mkM, evb_storeM, evb_appM, evb_mkMap, evb_mapGet, evb_mapSet, evb_mapClr, evb_jump, BE.safe, BE.pe, IE.pe, PEnv.at, List.getD_cons_zero, List.getD_cons_succ, List.getElem?_cons_zero, List.getElem?_cons_succ, locOf, locOn, readLoc, takeN, Nat.add_zero, List.drop_zero, List.length_cons, List.length_nil, Nat.reduceAdd, Nat.le_refl, if_true, if_false, Bool.false_eq_true, List.take_succ_cons, List.take_zero, bindK, bindRes, bind1, Option.map_some, Option.bind_some, PEnv.push, List.cons_append, List.nil_append, List.append_nil, SV.pvs, SV.pv, BE.all, Bool.and_self, Bool.not_true, Bool.not_false, List.map_cons, List.map_nil, srcRows, List.mapM_cons, List.mapM_nil, List.reverse_cons, List.reverse_nil, Option.bind_eq_bind, Option.pure_def, if_pos one_le, Nat.zero_add, sl_rows, hB, List.length_nil, if_pos t5, if_pos r1, if_pos r2, List.nil_append, c1, c2, g1, c4, bindShs, c5, g2, c6, hbb, c3, g3, ll, retP, or_true]; done)
    | (unfold saleroomlaw40_RelcapRaises_s_b1; simp -implicitDefEqProofs only [↓reduceIte, eq_self, evb_ret, evb_ite, evb_need, evb_load, evb_app, evb_cut, evb_chk, evb_appF, evb_call, evb_callv, evb_newM, evb_mkM, evb_storeM, evb_appM, evb_mkMap, evb_mapGet, evb_mapSet, evb_mapClr, evb_jump, BE.safe, BE.pe, IE.pe, PEnv.at, List.getD_cons_zero, List.getD_cons_succ, List.getElem?_cons_zero, List.getElem?_cons_succ, locOf, locOn, readLoc, takeN, Nat.add_zero, List.drop_zero, List.length_cons, List.length_nil, Nat.reduceAdd, Nat.le_refl, if_true, if_false, Bool.false_eq_true, List.take_succ_cons, List.take_zero, bindK, bindRes, bind1, Option.map_some, Option.bind_some, PEnv.push, List.cons_append, List.nil_append, List.append_nil, SV.pvs, SV.pv, BE.all, Bool.and_self, Bool.not_true, Bool.not_false, List.map_cons, List.map_nil, srcRows, List.mapM_cons, List.mapM_nil, List.reverse_cons, List.reverse_nil, Option.bind_eq_bind, Option.pure_def, if_pos one_le, Nat.zero_add, sl_rows, hB, List.length_nil, if_pos t5, if_pos r1, if_pos r2, List.nil_append, c1, c2, g1, c4, bindShs, c5, g2, c6, hbb, c3, g3, ll, retP, or_true])
    | (unfold saleroomlaw40_RelcapRaises_s_b2; simp -implicitDefEqProofs only [↓reduceIte, eq_self, evb_ret, evb_ite, evb_need, evb_load, evb_app, evb_cut, evb_chk, evb_appF, evb_call, evb_callv, evb_newM, evb_mkM, evb_storeM, evb_appM, evb_mkMap, evb_mapGet, evb_mapSet, evb_mapClr, evb_jump, BE.safe, BE.pe, IE.pe, PEnv.at, List.getD_cons_zero, List.getD_cons_succ, List.getElem?_cons_zero, List.getElem?_cons_succ, locOf, locOn, readLoc, takeN, Nat.add_zero, List.drop_zero, List.length_cons, List.length_nil, Nat.reduceAdd, Nat.le_refl, if_true, if_false, Bool.false_eq_true, List.take_succ_cons, List.take_zero, bindK, bindRes, bind1, Option.map_some, Option.bind_some, PEnv.push, List.cons_append, List.nil_append, List.append_nil, SV.pvs, SV.pv, BE.all, Bool.and_self, Bool.not_true, Bool.not_false, List.map_cons, List.map_nil, srcRows, List.mapM_cons, List.mapM_nil, List.reverse_cons, List.reverse_nil, Option.bind_eq_bind, Option.pure_def, if_pos one_le, Nat.zero_add, sl_rows, hB, List.length_nil, if_pos t5, if_pos r1, if_pos r2, List.nil_append, c1, c2, g1, c4, bindShs, c5, g2, c6, hbb, c3, g3, ll, retP, or_true]; done)
    | (unfold saleroomlaw40_RelcapRaises_s_b2; simp -implicitDefEqProofs only [↓reduceIte, eq_self, evb_ret, evb_ite, evb_need, evb_load, evb_app, evb_cut, evb_chk, evb_appF, evb_call, evb_callv, evb_newM, evb_mkM, evb_storeM, evb_appM, evb_mkMap, evb_mapGet, evb_mapSet, evb_mapClr, evb_jump, BE.safe, BE.pe, IE.pe, PEnv.at, List.getD_cons_zero, List.getD_cons_succ, List.getElem?_cons_zero, List.getElem?_cons_succ, locOf, locOn, readLoc, takeN, Nat.add_zero, List.drop_zero, List.length_cons, List.length_nil, Nat.reduceAdd, Nat.le_refl, if_true, if_false, Bool.false_eq_true, List.take_succ_cons, List.take_zero, bindK, bindRes, bind1, Option.map_some, Option.bind_some, PEnv.push, List.cons_append, List.nil_append, List.append_nil, SV.pvs, SV.pv, BE.all, Bool.and_self, Bool.not_true, Bool.not_false, List.map_cons, List.map_nil, srcRows, List.mapM_cons, List.mapM_nil, List.reverse_cons, List.reverse_nil, Option.bind_eq_bind, Option.pure_def, if_pos one_le, Nat.zero_add, sl_rows, hB, List.length_nil, if_pos t5, if_pos r1, if_pos r2, List.nil_append, c1, c2, g1, c4, bindShs, c5, g2, c6, hbb, c3, g3, ll, retP, or_true])
    | (unfold saleroomlaw40_RelcapRaises_s_b3; simp -implicitDefEqProofs only [↓reduceIte, eq_self, evb_ret, evb_ite, evb_need, evb_load, evb_app, evb_cut, evb_chk, evb_appF, evb_call, evb_callv, evb_newM, evb_mkM, evb_storeM, evb_appM, evb_mkMap, evb_mapGet, evb_mapSet, evb_mapClr, evb_jump, BE.safe, BE.pe, IE.pe, PEnv.at, List.getD_cons_zero, List.getD_cons_succ, List.getElem?_cons_zero, List.getElem?_cons_succ, locOf, locOn, readLoc, takeN, Nat.add_zero, List.drop_zero, List.length_cons, List.length_nil, Nat.reduceAdd, Nat.le_refl, if_true, if_false, Bool.false_eq_true, List.take_succ_cons, List.take_zero, bindK, bindRes, bind1, Option.map_some, Option.bind_some, PEnv.push, List.cons_append, List.nil_append, List.append_nil, SV.pvs, SV.pv, BE.all, Bool.and_self, Bool.not_true, Bool.not_false, List.map_cons, List.map_nil, srcRows, List.mapM_cons, List.mapM_nil, List.reverse_cons, List.reverse_nil, Option.bind_eq_bind, Option.pure_def, if_pos one_le, Nat.zero_add, sl_rows, hB, List.length_nil, if_pos t5, if_pos r1, if_pos r2, List.nil_append, c1, c2, g1, c4, bindShs, c5, g2, c6, hbb, c3, g3, ll, retP, or_true]; done)
    | (unfold saleroomlaw40_RelcapRaises_s_b3; simp -implicitDefEqProofs only [↓reduceIte, eq_self, evb_ret, evb_ite, evb_need, evb_load, evb_app, evb_cut, evb_chk, evb_appF, evb_call, evb_callv, evb_newM, evb_mkM, evb_storeM, evb_appM, evb_mkMap, evb_mapGet, evb_mapSet, evb_mapClr, evb_jump, BE.safe, BE.pe, IE.pe, PEnv.at, List.getD_cons_zero, List.getD_cons_succ, List.getElem?_cons_zero, List.getElem?_cons_succ, locOf, locOn, readLoc, takeN, Nat.add_zero, List.drop_zero, List.length_cons, List.length_nil, Nat.reduceAdd, Nat.le_refl, if_true, if_false, Bool.false_eq_true, List.take_succ_cons, List.take_zero, bindK, bindRes, bind1, Option.map_some, Option.bind_some, PEnv.push, List.cons_append, List.nil_append, List.append_nil, SV.pvs, SV.pv, BE.all, Bool.and_self, Bool.not_true, Bool.not_false, List.map_cons, List.map_nil, srcRows, List.mapM_cons, List.mapM_nil, List.reverse_cons, List.reverse_nil, Option.bind_eq_bind, Option.pure_def, if_pos one_le, Nat.zero_add, sl_rows, hB, List.length_nil, if_pos t5, if_pos r1, if_pos r2, List.nil_append, c1, c2, g1, c4, bindShs, c5, g2, c6, hbb, c3, g3, ll, retP, or_true])
    | (unfold saleroomlaw40_RelcapRaises_s_b4; simp -implicitDefEqProofs only [↓reduceIte, eq_self, evb_ret, evb_ite, evb_need, evb_load, evb_app, evb_cut, evb_chk, evb_appF, evb_call, evb_callv, evb_newM, evb_mkM, evb_storeM, evb_appM, evb_mkMap, evb_mapGet, evb_mapSet, evb_mapClr, evb_jump, BE.safe, BE.pe, IE.pe, PEnv.at, List.getD_cons_zero, List.getD_cons_succ, List.getElem?_cons_zero, List.getElem?_cons_succ, locOf, locOn, readLoc, takeN, Nat.add_zero, List.drop_zero, List.length_cons, List.length_nil, Nat.reduceAdd, Nat.le_refl, if_true, if_false, Bool.false_eq_true, List.take_succ_cons, List.take_zero, bindK, bindRes, bind1, Option.map_some, Option.bind_some, PEnv.push, List.cons_append, List.nil_append, List.append_nil, SV.pvs, SV.pv, BE.all, Bool.and_self, Bool.not_true, Bool.not_false, List.map_cons, List.map_nil, srcRows, List.mapM_cons, List.mapM_nil, List.reverse_cons, List.reverse_nil, Option.bind_eq_bind, Option.pure_def, if_pos one_le, Nat.zero_add, sl_rows, hB, List.length_nil, if_pos t5, if_pos r1, if_pos r2, List.nil_append, c1, c2, g1, c4, bindShs, c5, g2, c6, hbb, c3, g3, ll, retP, or_true]; done)
    | (unfold saleroomlaw40_RelcapRaises_s_b4; simp -implicitDefEqProofs only [↓reduceIte, eq_self, evb_ret, evb_ite, evb_need, evb_load, evb_app, evb_cut, evb_chk, evb_appF, evb_call, evb_callv, evb_newM, evb_mkM, evb_storeM, evb_appM, evb_mkMap, evb_mapGet, evb_mapSet, evb_mapClr, evb_jump, BE.safe, BE.pe, IE.pe, PEnv.at, List.getD_cons_zero, List.getD_cons_succ, List.getElem?_cons_zero, List.getElem?_cons_succ, locOf, locOn, readLoc, takeN, Nat.add_zero, List.drop_zero, List.length_cons, List.length_nil, Nat.reduceAdd, Nat.le_refl, if_true, if_false, Bool.false_eq_true, List.take_succ_cons, List.take_zero, bindK, bindRes, bind1, Option.map_some, Option.bind_some, PEnv.push, List.cons_append, List.nil_append, List.append_nil, SV.pvs, SV.pv, BE.all, Bool.and_self, Bool.not_true, Bool.not_false, List.map_cons, List.map_nil, srcRows, List.mapM_cons, List.mapM_nil, List.reverse_cons, List.reverse_nil, Option.bind_eq_bind, Option.pure_def, if_pos one_le, Nat.zero_add, sl_rows, hB, List.length_nil, if_pos t5, if_pos r1, if_pos r2, List.nil_append, c1, c2, g1, c4, bindShs, c5, g2, c6, hbb, c3, g3, ll, retP, or_true]))
theorem relcapRaises_true (n0 : Nat) (rows : List (List PV)) (hs : ∀ r ∈ rows, Shaped Try.prog n0 46 r) (n1 : Nat) (rows1 : List (List PV)) (hs1 : ∀ r ∈ rows1, Shaped Try.prog n1 33 r) (n2 : Nat) (po : List PV) (hs2 : Shaped Try.prog n2 33 po) (n3 : Nat) (ps : List PV) (hs3 : Shaped Try.prog n3 29 ps) :
    evalF Tab 40001 n_saleroomlaw40_RelcapRaises [.sl 12 rows, .sl 8 rows1, .agg po, .agg ps] [] = some (.bool true, []) := by
  obtain ⟨l, rfl⟩ := shaped_Chs rows hs
  obtain ⟨bids, rfl⟩ := shaped_Ofs rows1 hs1
  obtain ⟨o, rfl⟩ := shaped_Of hs2
  obtain ⟨b, rfl⟩ := shaped_w6 Try.underlying29 (by kernel_rfl) hs3
  have hP : (PV.sl 12 (l.map Ch.row)).rowsOf 12 = some (l.map Ch.row) := sl_rows _ _
  have hB : (PV.sl 8 (bids.map Of.row)).rowsOf 8 = some (bids.map Of.row) := sl_rows _ _
  have hB2 : (PV.sl 8 ((bids ++ [o]).map Of.row)).rowsOf 8 = some ((bids ++ [o]).map Of.row) := sl_rows _ _
  have hB3 : (PV.sl 8 ([o].map Of.row)).rowsOf 8 = some ([o].map Of.row) := sl_rows _ _
  have hN : PV.nilS.rowsOf 12 = some (([] : List Ch).map Ch.row) := rfl
  have hPl : (PV.sl 12 (l.map Ch.row)).low 0 = true := low_ch 0 l
  obtain ⟨p1, p2, p3⟩ := rows_len hP
  obtain ⟨b1, b2, b3⟩ := rows_len hB
  rw [List.length_map] at p1 b1
  have ll := lives40
  simp only [n_saleroomlaw40_lives] at ll
  have d1 := capV_more l bids [o] b
  have d2 := capV_nil bids b
  have d3 := chkR_one o
  have d4 := bchk_eq b
  have c1 := fun h1 h2 => capv_sem [] rfl l _ hP hPl bids _ hB h1 h2 b 40000 (by omega)
  have c2 := fun h1 h2 => capv_sem [] rfl l _ hP hPl (bids ++ [o]) _ hB2 h1 h2 b 40000 (by omega)
  have c3 := fun h2 => capv_sem [] rfl [] _ hN rfl bids _ hB (by simp) h2 b 40000 (by omega)
  have c4 := check40_sem [] [] _ hN [o] _ hB3 (by simp) (by simp) rfl rfl (low_of 0 [o]) 40000 (by omega)
  have c5 := saleroomref40_Right_sem [] o 40000 (by omega)
  have c6 := saleroomref07_Check_sem [] b 40000 (by omega)
  have a1 : bids.map Of.row ++ [o.row] = (bids ++ [o]).map Of.row := by simp
  have a2 : [o.row] = [o].map Of.row := rfl
  rw [of_row] at a1 a2
  have hlen : (bids.map Of.row).length = bids.length := by simp
  simp only [n_relcap_Most, n_relcap_Check, n_saleroomref40_Right, n_saleroomref07_Check, W6.pv, of_row, erT] at c1 c2 c3 c4 c5 c6
  rw [← a1] at c2
  rw [← a2] at c4
  generalize (PV.sl 12 (l.map Ch.row)) = P at *
  generalize (PV.sl 8 (bids.map Of.row)) = B at *
  generalize capV l bids b = z1 at *
  generalize capV l (bids ++ [o]) b = z2 at *
  generalize capV [] bids b = z3 at *
  generalize chkR [] [o] = rr at *
  generalize o.right = rg at *
  generalize bchk b = bb at *
  rw [evalF]
  simp only [tab_saleroomlaw40_RelcapRaises, Option.bind_some, Sys.run, W6.pv, of_row]
  show ((bindPs [.sh (.one _), .sh (.one _), .sh (.agg [_, _, _, _, _, _, _, _]), .sh (.agg [_, _, _, _, _, _])] _).bind _) = _
  simp -implicitDefEqProofs only [bindPs, bind1, bindK, Option.map_some, Option.bind_some, List.append_nil, List.nil_append, List.cons_append, if_true, p3, b3]
  by_cases h1 : 14 < l.length
  · have e1 : ltB 14 (l.length : Int) = true := by rw [ltB_true]; omega
    show (PT.ev _ saleroomlaw40_RelcapRaises_s _).bind _ = _
    simp -implicitDefEqProofs only [saleroomlaw40_RelcapRaises_s, ↓reduceIte, eq_self, evb_ret, evb_ite, evb_need, evb_load, evb_app, evb_cut, evb_chk, evb_appF, evb_call, evb_callv, evb_newM, evb_mkM, evb_storeM, evb_appM, evb_mkMap, evb_mapGet, evb_mapSet, evb_mapClr, evb_jump, BE.safe, BE.pe, IE.pe, PEnv.at, List.getD_cons_zero, List.getD_cons_succ, List.getElem?_cons_zero, List.getElem?_cons_succ, locOf, locOn, readLoc, takeN, Nat.add_zero, List.drop_zero, List.length_cons, List.length_nil, Nat.reduceAdd, Nat.le_refl, if_true, if_false, Bool.false_eq_true, List.take_succ_cons, List.take_zero, bindK, bindRes, bind1, Option.map_some, Option.bind_some, PEnv.push, List.cons_append, List.nil_append, List.append_nil, SV.pvs, SV.pv, BE.all, Bool.and_self, Bool.not_true, Bool.not_false, List.map_cons, List.map_nil, p1, p2, e1, ll, retP, or_true]
  have e1 : ltB 14 (l.length : Int) = false := by rw [ltB_false]; omega
  by_cases h2 : 14 < bids.length
  · have e2 : ltB 14 (bids.length : Int) = true := by rw [ltB_true]; omega
    show (PT.ev _ saleroomlaw40_RelcapRaises_s _).bind _ = _
    simp -implicitDefEqProofs only [saleroomlaw40_RelcapRaises_s, ↓reduceIte, eq_self, evb_ret, evb_ite, evb_need, evb_load, evb_app, evb_cut, evb_chk, evb_appF, evb_call, evb_callv, evb_newM, evb_mkM, evb_storeM, evb_appM, evb_mkMap, evb_mapGet, evb_mapSet, evb_mapClr, evb_jump, BE.safe, BE.pe, IE.pe, PEnv.at, List.getD_cons_zero, List.getD_cons_succ, List.getElem?_cons_zero, List.getElem?_cons_succ, locOf, locOn, readLoc, takeN, Nat.add_zero, List.drop_zero, List.length_cons, List.length_nil, Nat.reduceAdd, Nat.le_refl, if_true, if_false, Bool.false_eq_true, List.take_succ_cons, List.take_zero, bindK, bindRes, bind1, Option.map_some, Option.bind_some, PEnv.push, List.cons_append, List.nil_append, List.append_nil, SV.pvs, SV.pv, BE.all, Bool.and_self, Bool.not_true, Bool.not_false, List.map_cons, List.map_nil, p1, p2, e1, b1, b2, e2, ll, retP, or_true]
  have e2 : ltB 14 (bids.length : Int) = false := by rw [ltB_false]; omega
  have c1 := c1 (by omega) (by omega)
  have c2 := c2 (by omega) (by simp; omega)
  have c3 := c3 (by omega)
  have g1 : ltB z2 z1 = false := by rw [ltB_false]; omega
  have g2 : (eqB rr.2 0 && rg || !(eqB rr.2 0) && !rg) = true := by rw [d3]; cases rg <;> rfl
  have g3 : eqB bb 0 = true → eqB z3 1000000 = true := by
    intro h
    rw [d4, decide_eq_true_iff] at h
    rw [d2, if_pos h]; rfl
  have r1 : bids.length ≤ 1000000 := by omega
  have r2 : bids.length + 1 ≤ 1000000 := by omega
  have t5 : (0 : Nat) ≤ 1000000 := by decide
  have ev : PT.ev (evalF Tab 40000) saleroomlaw40_RelcapRaises_s { i := [o.n, o.w.a, o.w.b, o.w.c, o.w.d, o.w.e, o.w.f, o.v, b.a, b.b, b.c, b.d, b.e, b.f], b := [], v := [P, B], m := [], k := 0 } = some (.ret (.bool true) []) := by
    cases heq : o.w.beq b with
    | true =>
      have hz : (eqB o.w.a b.a && (eqB o.w.b b.b && (eqB o.w.c b.c && (eqB o.w.d b.d && (eqB o.w.e b.e && eqB o.w.f b.f))))) = true := heq
      simp -implicitDefEqProofs only [saleroomlaw40_RelcapRaises_s, ↓reduceIte, eq_self, evb_ret, evb_ite, evb_need, evb_load, evb_app, evb_cut, evb_chk, evb_appF, evb_call, evb_callv, evb_newM, evb_mkM, evb_storeM, evb_appM, evb_mkMap, evb_mapGet, evb_mapSet, evb_mapClr, evb_jump, BE.safe, BE.pe, IE.pe, PEnv.at, List.getD_cons_zero, List.getD_cons_succ, List.getElem?_cons_zero, List.getElem?_cons_succ, locOf, locOn, readLoc, takeN, Nat.add_zero, List.drop_zero, List.length_cons, List.length_nil, Nat.reduceAdd, Nat.le_refl, if_true, if_false, Bool.false_eq_true, List.take_succ_cons, List.take_zero, bindK, bindRes, bind1, Option.map_some, Option.bind_some, PEnv.push, List.cons_append, List.nil_append, List.append_nil, SV.pvs, SV.pv, BE.all, Bool.and_self, Bool.not_true, Bool.not_false, List.map_cons, List.map_nil, p1, p2, e1, b1, b2, e2, hz]
      simp -implicitDefEqProofs only [↓reduceIte, eq_self, evb_ret, evb_ite, evb_need, evb_load, evb_app, evb_cut, evb_chk, evb_appF, evb_call, evb_callv, evb_newM, evb_mkM, evb_storeM, evb_appM, evb_mkMap, evb_mapGet, evb_mapSet, evb_mapClr, evb_jump, BE.safe, BE.pe, IE.pe, PEnv.at, List.getD_cons_zero, List.getD_cons_succ, List.getElem?_cons_zero, List.getElem?_cons_succ, locOf, locOn, readLoc, takeN, Nat.add_zero, List.drop_zero, List.length_cons, List.length_nil, Nat.reduceAdd, Nat.le_refl, if_true, if_false, Bool.false_eq_true, List.take_succ_cons, List.take_zero, bindK, bindRes, bind1, Option.map_some, Option.bind_some, PEnv.push, List.cons_append, List.nil_append, List.append_nil, SV.pvs, SV.pv, BE.all, Bool.and_self, Bool.not_true, Bool.not_false, List.map_cons, List.map_nil, srcRows, List.mapM_cons, List.mapM_nil, List.reverse_cons, List.reverse_nil, Option.bind_eq_bind, Option.pure_def, if_pos one_le, Nat.zero_add, sl_rows, c4, bindShs, c5, g2, c6]
      cases hbb : eqB bb 0 with
      | false => simp -implicitDefEqProofs only [↓reduceIte, eq_self, evb_ret, evb_ite, evb_need, evb_load, evb_app, evb_cut, evb_chk, evb_appF, evb_call, evb_callv, evb_newM, evb_mkM, evb_storeM, evb_appM, evb_mkMap, evb_mapGet, evb_mapSet, evb_mapClr, evb_jump, BE.safe, BE.pe, IE.pe, PEnv.at, List.getD_cons_zero, List.getD_cons_succ, List.getElem?_cons_zero, List.getElem?_cons_succ, locOf, locOn, readLoc, takeN, Nat.add_zero, List.drop_zero, List.length_cons, List.length_nil, Nat.reduceAdd, Nat.le_refl, if_true, if_false, Bool.false_eq_true, List.take_succ_cons, List.take_zero, bindK, bindRes, bind1, Option.map_some, Option.bind_some, PEnv.push, List.cons_append, List.nil_append, List.append_nil, SV.pvs, SV.pv, BE.all, Bool.and_self, Bool.not_true, Bool.not_false, List.map_cons, List.map_nil, ll, retP, or_true]
      | true => simp -implicitDefEqProofs only [↓reduceIte, eq_self, evb_ret, evb_ite, evb_need, evb_load, evb_app, evb_cut, evb_chk, evb_appF, evb_call, evb_callv, evb_newM, evb_mkM, evb_storeM, evb_appM, evb_mkMap, evb_mapGet, evb_mapSet, evb_mapClr, evb_jump, BE.safe, BE.pe, IE.pe, PEnv.at, List.getD_cons_zero, List.getD_cons_succ, List.getElem?_cons_zero, List.getElem?_cons_succ, locOf, locOn, readLoc, takeN, Nat.add_zero, List.drop_zero, List.length_cons, List.length_nil, Nat.reduceAdd, Nat.le_refl, if_true, if_false, Bool.false_eq_true, List.take_succ_cons, List.take_zero, bindK, bindRes, bind1, Option.map_some, Option.bind_some, PEnv.push, List.cons_append, List.nil_append, List.append_nil, SV.pvs, SV.pv, BE.all, Bool.and_self, Bool.not_true, Bool.not_false, List.map_cons, List.map_nil, c3, g3 hbb, ll, retP, or_true]
    | false =>
      have hz : (eqB o.w.a b.a && (eqB o.w.b b.b && (eqB o.w.c b.c && (eqB o.w.d b.d && (eqB o.w.e b.e && eqB o.w.f b.f))))) = false := heq
      simp -implicitDefEqProofs only [saleroomlaw40_RelcapRaises_s, ↓reduceIte, eq_self, evb_ret, evb_ite, evb_need, evb_load, evb_app, evb_cut, evb_chk, evb_appF, evb_call, evb_callv, evb_newM, evb_mkM, evb_storeM, evb_appM, evb_mkMap, evb_mapGet, evb_mapSet, evb_mapClr, evb_jump, BE.safe, BE.pe, IE.pe, PEnv.at, List.getD_cons_zero, List.getD_cons_succ, List.getElem?_cons_zero, List.getElem?_cons_succ, locOf, locOn, readLoc, takeN, Nat.add_zero, List.drop_zero, List.length_cons, List.length_nil, Nat.reduceAdd, Nat.le_refl, if_true, if_false, Bool.false_eq_true, List.take_succ_cons, List.take_zero, bindK, bindRes, bind1, Option.map_some, Option.bind_some, PEnv.push, List.cons_append, List.nil_append, List.append_nil, SV.pvs, SV.pv, BE.all, Bool.and_self, Bool.not_true, Bool.not_false, List.map_cons, List.map_nil, p1, p2, e1, b1, b2, e2, hz]
      cases hbb : eqB bb 0 with
      | false => exact raises_no o b P B hB (by simpa using r1) (by simpa using r2) z1 z2 rr rg bb c1 c2 g1 c4 c5 g2 c6 hbb ll
      | true => exact raises_yes o b P B hB (by simpa using r1) (by simpa using r2) z1 z2 z3 rr rg bb c1 c2 g1 c4 c5 g2 c6 hbb c3 (g3 hbb) ll
  show (PT.ev (evalF Tab 40000) saleroomlaw40_RelcapRaises_s { i := [o.n, o.w.a, o.w.b, o.w.c, o.w.d, o.w.e, o.w.f, o.v, b.a, b.b, b.c, b.d, b.e, b.f], b := [], v := [P, B], m := [], k := 0 }).bind _ = _
  rw [ev]
  rfl
theorem relcapRaises_own : ownKnob Try.prog.godebug = none := by kernel_rfl
theorem relcapRaises_laid : laidOutB Try.prog = true := by kernel_rfl
theorem relcapRaises_types : Go.Sx.closed Try.prog [22, 25, 33, 29, 46, 3, 2, 44] = true := by kernel_rfl
set_option maxRecDepth 100000 in
theorem relcapRaises_lifted (os : Os) (started : os.Started) (H : Type) (enc : TypeId × Value → H) :
    ReturnsInHanded {} Try.checked os 5 .any (Rows.relcapRaisesSpec.pre6 enc Try.prog Try.f5 Rows.relcapRaisesRow.domain false) (Rows.relcapRaisesSpec.post enc Try.prog Try.f5 false true false false) := by
  refine returnsInHanded_of_change (C := Try.checked) relcapRaises_own started (by kernel_rfl) Try.func5
    (ChangeSpec.witness6 (enc := enc) (C := Try.checked) false ⟨#[], #[.slice none 0 0, .slice none 0 0, .agg #[.int .i64 0, .int .i64 0, .int .i64 0, .int .i64 0, .int .i64 0, .int .i64 0, .int .i64 0, .int .i64 0], .agg #[.int .i64 0, .int .i64 0, .int .i64 0, .int .i64 0, .int .i64 0, .int .i64 0]], []⟩ 8 (by kernel_rfl) (by kernel_rfl) (by kernel_rfl) (by kernel_rfl)) ?_
  intro W base args ds gs before hval0 hW hcnd _
  have hval : ∀ (j : Nat) t v, Try.f5.params[j]? = some t → args[j]? = some v → Value.okWide Try.prog W .any base t v := hval0
  have hW' := hW
  obtain ⟨p, q, hA0, hV, rfl, hfz, hnd⟩ := hW
  have hA : DataW.TrodAll enc Try.prog W 0 (fun _ => true) true Try.f5.params.toList args.toList ds p := hA0
  rw [Try.params5] at hA hval
  obtain ⟨v0, vs0, d0, ds0, p0, q0, hargs, rfl, rfl, h0, r0⟩ := trodAll_cons hA
  obtain ⟨v1, vs1, d1, ds1, p1, q1, rfl, rfl, rfl, h1, r1⟩ := trodAll_cons r0
  obtain ⟨v2, vs2, d2, ds2, p2, q2, rfl, rfl, rfl, h2, r2⟩ := trodAll_cons r1
  obtain ⟨v3, vs3, d3, ds3, p3, q3, rfl, rfl, rfl, h3, r3⟩ := trodAll_cons r2
  obtain ⟨rfl, rfl, rfl⟩ := trodAll_nil r3
  obtain rfl : args = #[v0, v1, v2, v3] := by cases args; simp_all
  obtain ⟨rfl, rfl⟩ := trodVars_none hV
  have k0 := h0
  have lt0 : ∀ x ∈ p0, x.block < W.heap.size := by obtain ⟨m, hm⟩ := k0; exact DataW.trod_lt m _ _ _ hm
  obtain ⟨n0, a0, e0, s0, w0⟩ := arg_slice relcapRaises_types (t := 22) (by decide) Try.underlying22 (hval 0 22 v0 rfl rfl) h0
  have k1 := h1
  have lt1 : ∀ x ∈ p1, x.block < W.heap.size := by obtain ⟨m, hm⟩ := k1; exact DataW.trod_lt m _ _ _ hm
  obtain ⟨n1, a1, e1, s1, w1⟩ := arg_slice relcapRaises_types (t := 25) (by decide) Try.underlying25 (hval 1 25 v1 rfl rfl) h1
  have k2 := h2
  have lt2 : ∀ x ∈ p2, x.block < W.heap.size := by obtain ⟨m, hm⟩ := k2; exact DataW.trod_lt m _ _ _ hm
  obtain ⟨n2, a2, e2, s2, w2⟩ := arg_struct relcapRaises_types (t := 33) (by decide) Try.underlying33 (hval 2 33 v2 rfl rfl) h2
  have k3 := h3
  have lt3 : ∀ x ∈ p3, x.block < W.heap.size := by obtain ⟨m, hm⟩ := k3; exact DataW.trod_lt m _ _ _ hm
  obtain ⟨n3, a3, e3, s3, w3⟩ := arg_array relcapRaises_types (t := 29) (by decide) Try.underlying29 (hval 3 29 v3 rfl rfl) h3
  clear hA0 hval0
  rw [show Try.prog.cellsOf 46 = 12 by kernel_rfl] at e0
  rw [show Try.prog.cellsOf 33 = 8 by kernel_rfl] at e1
  have hr : Go.Sx.Reps (Go.Sx.hpOf W) [] [.sl 12 a0, .sl 8 a1, .agg a2, .agg a3] [v0, v1, v2, v3] := ⟨v0, _, rfl, e0, ⟨v1, _, rfl, e1, ⟨v2, _, rfl, e2, ⟨v3, _, rfl, e3, rfl⟩⟩⟩⟩
  refine (Go.Sx.lift_true (Go.Sx.evalF_good tab_ok 40001 5) (relcapRaises_true n0 a0 s0 n1 a1 s1 n2 a2 s2 n3 a3 s3) hr).mono fun e W' hh => ?_
  obtain ⟨rfl, bel⟩ := hh
  exact ⟨_, rfl, _, _, _, [], _, [], hW', trodAll_mk1 (shut_bool Try.underlying4 _), (trodAll_cons_mk (Below.trod relcapRaises_laid (by kernel_rfl) (of_decide_eq_true (by kernel_rfl)) k0 bel lt0) (trodAll_cons_mk (Below.trod relcapRaises_laid (by kernel_rfl) (of_decide_eq_true (by kernel_rfl)) k1 bel lt1) (trodAll_cons_mk (Below.trod relcapRaises_laid (by kernel_rfl) (of_decide_eq_true (by kernel_rfl)) k2 bel lt2) (trodAll_cons_mk (Below.trod relcapRaises_laid (by kernel_rfl) (of_decide_eq_true (by kernel_rfl)) k3 bel lt3) trodAll_mk0)))), rfl, bel.frame _, fun h => by cases h⟩
theorem relcapRaises_proved : Rows.RelcapRaisesSaid :=
  OpenClaim.holds_of_wide 5 Try.f5 rfl rfl rfl rfl rfl rfl rfl ⟨rfl, rfl, rfl, rfl, rfl⟩ rfl rfl rfl rfl rfl (by kernel_rfl) Try.func5 (by kernel_rfl)
    (of_decide_eq_true (by kernel_rfl)) (by unfold Func.isWrapper; first | (rw [if_pos (by decide +kernel)]; kernel_rfl) | (rw [if_neg (by decide +kernel)]; exact ⟨rfl, rfl⟩))
    (fun os started H enc _ => relcapRaises_lifted os started H enc)
end Go.Proofs.Ytggjcdnailppoaa
