/- RelcapConsistent: accepted bids are consistent with the choices of the clock phase, and if there is a sufficient bid for every demanded bundle, the final values explain the choices, for all lists of at most 14 choices and 14 bids. -/
import Derived.Test.YtggjcdnailppoaaHRca
import Derived.Test.YtggjcdnailppoaaRows
import Derived.WalkKit
import Derived.ProofKit
import Derived.OpenShut
import Derived.JoinedCond
import Derived.ShutString
set_option linter.unusedSimpArgs false
set_option linter.unusedVariables false
set_option maxRecDepth 100000
namespace Go.Proofs.Ytggjcdnailppoaa
open Go.ChangeShapes Go.WideShapes Go.ChangeAt Go.RowKit Go.Sx
def csl1 : List (List PV) → PV
  | [] => .nilS
  | r => .sl 1 r
theorem csl1_rows (r : List (List PV)) : (csl1 r).rowsOf 1 = some r := by cases r <;> simp [csl1, PV.rowsOf]
theorem csl1_one (r : List (List PV)) : (csl1 r).one = true := by cases r <;> rfl
theorem csl1_snoc (r : List (List PV)) (x : List PV) : PV.sl 1 (r ++ [x]) = csl1 (r ++ [x]) := by cases r <;> rfl
theorem fnd_take (c : Ch) (v : Int) {bids : List Of} {k : Nat} {x : Of} (h : bids[k]? = some x) : fndF c v (bids.take (k + 1)) = (fndF c v (bids.take k) || (x.w.beq c.w && leB v x.v)) := by
  unfold fndF
  rw [List.take_add_one, h]
  simp [Bool.or_assoc]
theorem en_take (l : List Ch) (bids : List Of) {i : Nat} {x : Ch} (h : l[i]? = some x) : enF l bids (l.take (i + 1)) = (enF l bids (l.take i) && fndF x (fin l bids x.w) bids) := by
  unfold enF
  rw [List.take_add_one, h]
  simp
section
variable (l : List Ch) (bids : List Of) (P B : PV) (hP : P.rowsOf 12 = some (l.map Ch.row)) (hB : B.rowsOf 8 = some (bids.map Of.row)) (hl : l.length ≤ 14) (hb : bids.length ≤ 14) (hacc : (chkR l bids).2 = 0)
include hP hB hb hacc in
theorem cons_in (i : Nat) (c : Ch) (hc : l[i]? = some c) (en : Bool) (V : PV) : ∀ k, k < bids.length → ∀ fuel,
    saleroomlaw40_RelcapConsistent_S.loop (evalF Tab 40000) (fuel + 1) 1 { i := [(i : Int), fin l bids c.w, costW c.p c.w, (k : Int)], b := [en, fndF c (fin l bids c.w) (bids.take k)], v := [P, B, V], m := [], k := 0 } =
      saleroomlaw40_RelcapConsistent_S.loop (evalF Tab 40000) fuel 1 { i := [(i : Int), fin l bids c.w, costW c.p c.w, ((k + 1 : Nat) : Int)], b := [en, fndF c (fin l bids c.w) (bids.take (k + 1))], v := [P, B, V], m := [], k := 0 } := by
  intro k hk fuel
  obtain ⟨hok, hr, hle⟩ := chkR_ok hacc
  obtain ⟨p1, p2, p3⟩ := rows_len hP
  obtain ⟨b1, b2, b3⟩ := rows_len hB
  rw [List.length_map] at p1 b1
  obtain ⟨x, hx⟩ := get_ex hk
  have hil := (List.getElem?_eq_some_iff.1 hc).1
  have hcm := List.mem_of_getElem? hc
  have hxm := List.mem_of_getElem? hx
  have hco := hok c hcm
  have hxr := right_ok (hr x hxm)
  have hd : decide (k < bids.length) = true := decide_eq_true hk
  have hdi : decide (i < l.length) = true := decide_eq_true hil
  have hloc0 := rows_get (off := 0) hP (rows_chs hc)
  have hloc6 := rows_get (off := 6) hP (rows_chs hc)
  have hlo1 := rows_get (off := 1) hB (rows_ofs hx)
  have hlo7 := rows_get (off := 7) hB (rows_ofs hx)
  have c1 := rcost_sem [] c hco.1 x.w hxr.1 40000 (by omega)
  have d1 := cost_bd hco.1 hxr.1
  have d2 := cost_bd hco.1 hco.2
  have d3 := fin_bd hok hr c.w
  have hle := hle x hxm c hcm
  rw [fnd_take c _ hx, nat_succ, Sys.loop, show saleroomlaw40_RelcapConsistent_S.loops[1]? = some saleroomlaw40_RelcapConsistent_t1 from rfl, Option.bind_some]
  have hz : (eqB x.w.a c.w.a && (eqB x.w.b c.w.b && (eqB x.w.c c.w.c && (eqB x.w.d c.w.d && (eqB x.w.e c.w.e && eqB x.w.f c.w.f))))) = x.w.beq c.w := rfl
  rw [W6.beq_comm c.w x.w] at hle
  generalize fndF c (fin l bids c.w) (bids.take k) = fd
  generalize fin l bids c.w = v at *
  generalize costW c.p c.w = own at *
  generalize costW c.p x.w = cst at *
  have dr1 : ∀ a b c d e f g h : PV, List.drop 1 [a, b, c, d, e, f, g, h] = [b, c, d, e, f, g, h] := fun _ _ _ _ _ _ _ _ => rfl
  have dr7 : ∀ a b c d e f g h : PV, List.drop 7 [a, b, c, d, e, f, g, h] = [h] := fun _ _ _ _ _ _ _ _ => rfl
  have l67 : (6 : Nat) ≤ 7 := by decide
  have q1 := i64_ok (z := v - own) (by omega)
  have q2 := i64_ok (z := x.v - cst) (by omega)
  have q3 := up_ok (show k ≤ 1000000000 by omega)
  simp only [n_saleroomref36_Cost, W6.pv, row_eq] at c1
  simp -implicitDefEqProofs only [saleroomlaw40_RelcapConsistent_t1, ↓reduceIte, eq_self, evb_ret, evb_ite, evb_need, evb_load, evb_app, evb_cut, evb_chk, evb_appF, evb_call, evb_callv, evb_newM, evb_mkM, evb_storeM, evb_appM, evb_mkMap, evb_mapGet, evb_mapSet, evb_mapClr, evb_jump, BE.safe, BE.pe, IE.pe, PEnv.at, List.getD_cons_zero, List.getD_cons_succ, List.getElem?_cons_zero, List.getElem?_cons_succ, locOf, locOn, readLoc, takeN, Nat.add_zero, List.drop_zero, List.length_cons, List.length_nil, Nat.reduceAdd, Nat.le_refl, if_true, if_false, Bool.false_eq_true, List.take_succ_cons, List.take_zero, bindK, bindRes, bind1, Option.map_some, Option.bind_some, PEnv.push, List.cons_append, List.nil_append, List.append_nil, SV.pvs, SV.pv, BE.all, Bool.and_self, Bool.not_true, Bool.not_false, List.map_cons, List.map_nil, b1, b2, ltB_nat, hd, le0, p1, hdi, hlo1, of_row, dr1, if_pos l67, hloc6, row_eq, drop6, hz]
  cases hbb : x.w.beq c.w with
  | false =>
    have hle := hle hbb
    have g1 : ltB (v - own) (x.v - cst) = false := by rw [ltB_false]; omega
    cases fd with
    | true => simp -implicitDefEqProofs only [↓reduceIte, eq_self, evb_ret, evb_ite, evb_need, evb_load, evb_app, evb_cut, evb_chk, evb_appF, evb_call, evb_callv, evb_newM, evb_mkM, evb_storeM, evb_appM, evb_mkMap, evb_mapGet, evb_mapSet, evb_mapClr, evb_jump, BE.safe, BE.pe, IE.pe, PEnv.at, List.getD_cons_zero, List.getD_cons_succ, List.getElem?_cons_zero, List.getElem?_cons_succ, locOf, locOn, readLoc, takeN, Nat.add_zero, List.drop_zero, List.length_cons, List.length_nil, Nat.reduceAdd, Nat.le_refl, if_true, if_false, Bool.false_eq_true, List.take_succ_cons, List.take_zero, bindK, bindRes, bind1, Option.map_some, Option.bind_some, PEnv.push, List.cons_append, List.nil_append, List.append_nil, SV.pvs, SV.pv, BE.all, Bool.and_self, Bool.not_true, Bool.not_false, List.map_cons, List.map_nil, if_pos q1, if_pos q2, if_pos q3, b1, ltB_nat, hd, le0, p1, hdi, hlo1, hlo7, of_row, dr1, dr7, if_pos l67, hloc0, hloc6, row_eq, drop6, hz, hbb, c1, g1, Bool.true_or]
    | false => simp -implicitDefEqProofs only [↓reduceIte, eq_self, evb_ret, evb_ite, evb_need, evb_load, evb_app, evb_cut, evb_chk, evb_appF, evb_call, evb_callv, evb_newM, evb_mkM, evb_storeM, evb_appM, evb_mkMap, evb_mapGet, evb_mapSet, evb_mapClr, evb_jump, BE.safe, BE.pe, IE.pe, PEnv.at, List.getD_cons_zero, List.getD_cons_succ, List.getElem?_cons_zero, List.getElem?_cons_succ, locOf, locOn, readLoc, takeN, Nat.add_zero, List.drop_zero, List.length_cons, List.length_nil, Nat.reduceAdd, Nat.le_refl, if_true, if_false, Bool.false_eq_true, List.take_succ_cons, List.take_zero, bindK, bindRes, bind1, Option.map_some, Option.bind_some, PEnv.push, List.cons_append, List.nil_append, List.append_nil, SV.pvs, SV.pv, BE.all, Bool.and_self, Bool.not_true, Bool.not_false, List.map_cons, List.map_nil, if_pos q1, if_pos q2, if_pos q3, b1, ltB_nat, hd, le0, p1, hdi, hlo1, hlo7, of_row, dr1, dr7, if_pos l67, hloc0, hloc6, row_eq, drop6, hz, hbb, c1, g1, Bool.false_or, Bool.false_and]
  | true =>
    cases fd with
    | true => simp -implicitDefEqProofs only [↓reduceIte, eq_self, evb_ret, evb_ite, evb_need, evb_load, evb_app, evb_cut, evb_chk, evb_appF, evb_call, evb_callv, evb_newM, evb_mkM, evb_storeM, evb_appM, evb_mkMap, evb_mapGet, evb_mapSet, evb_mapClr, evb_jump, BE.safe, BE.pe, IE.pe, PEnv.at, List.getD_cons_zero, List.getD_cons_succ, List.getElem?_cons_zero, List.getElem?_cons_succ, locOf, locOn, readLoc, takeN, Nat.add_zero, List.drop_zero, List.length_cons, List.length_nil, Nat.reduceAdd, Nat.le_refl, if_true, if_false, Bool.false_eq_true, List.take_succ_cons, List.take_zero, bindK, bindRes, bind1, Option.map_some, Option.bind_some, PEnv.push, List.cons_append, List.nil_append, List.append_nil, SV.pvs, SV.pv, BE.all, Bool.and_self, Bool.not_true, Bool.not_false, List.map_cons, List.map_nil, if_pos q3, Bool.true_or]
    | false => simp -implicitDefEqProofs only [↓reduceIte, eq_self, evb_ret, evb_ite, evb_need, evb_load, evb_app, evb_cut, evb_chk, evb_appF, evb_call, evb_callv, evb_newM, evb_mkM, evb_storeM, evb_appM, evb_mkMap, evb_mapGet, evb_mapSet, evb_mapClr, evb_jump, BE.safe, BE.pe, IE.pe, PEnv.at, List.getD_cons_zero, List.getD_cons_succ, List.getElem?_cons_zero, List.getElem?_cons_succ, locOf, locOn, readLoc, takeN, Nat.add_zero, List.drop_zero, List.length_cons, List.length_nil, Nat.reduceAdd, Nat.le_refl, if_true, if_false, Bool.false_eq_true, List.take_succ_cons, List.take_zero, bindK, bindRes, bind1, Option.map_some, Option.bind_some, PEnv.push, List.cons_append, List.nil_append, List.append_nil, SV.pvs, SV.pv, BE.all, Bool.and_self, Bool.not_true, Bool.not_false, List.map_cons, List.map_nil, if_pos q3, b1, ltB_nat, hd, le0, p1, hdi, hlo1, hlo7, of_row, dr1, dr7, if_pos l67, hloc6, row_eq, drop6, hz, hbb, Bool.false_or, Bool.true_and]
include hP hB hl hb hacc in
theorem cons_out (i : Nat) (hi : i < l.length) (fuel : Nat) :
    saleroomlaw40_RelcapConsistent_S.loop (evalF Tab 40000) (fuel + bids.length + 2) 0 { i := [(i : Int)], b := [enF l bids (l.take i)], v := [P, B, csl1 (ints ((l.take i).map fun c => fin l bids c.w))], m := [], k := 0 } =
      saleroomlaw40_RelcapConsistent_S.loop (evalF Tab 40000) fuel 0 { i := [((i + 1 : Nat) : Int)], b := [enF l bids (l.take (i + 1))], v := [P, B, csl1 (ints ((l.take (i + 1)).map fun c => fin l bids c.w))], m := [], k := 0 } := by
  obtain ⟨hok, hr, hle⟩ := chkR_ok hacc
  obtain ⟨p1, p2, p3⟩ := rows_len hP
  obtain ⟨b1, b2, b3⟩ := rows_len hB
  rw [List.length_map] at p1 b1
  obtain ⟨c, hc⟩ := get_ex hi
  have hco := hok c (List.mem_of_getElem? hc)
  have hdi : decide (i < l.length) = true := decide_eq_true hi
  have hloc0 := rows_get (off := 0) hP (rows_chs hc)
  have hloc6 := rows_get (off := 6) hP (rows_chs hc)
  have c1 := final_sem [] l P hP bids B hB (by omega) (by omega) hok c.w 40000 (by omega)
  rw [filter_all hr] at c1
  have c2 := rcost_sem [] c hco.1 c.w hco.2 40000 (by omega)
  have hin := cons_in l bids P B hP hB hb hacc i c hc (enF l bids (l.take i)) (csl1 (ints ((l.take i).map fun c => fin l bids c.w)))
  have run := loop_all _ hin (fuel + bids.length + 1) (by omega)
  have hf0 : fndF c (fin l bids c.w) (bids.take 0) = c.w.isZ := by simp [fndF]
  rw [hf0, take_all, show fuel + bids.length + 1 - bids.length = fuel + 1 by omega, show ((0 : Nat) : Int) = 0 from rfl] at run
  have ht : ints ((l.take (i + 1)).map fun c => fin l bids c.w) = ints ((l.take i).map fun c => fin l bids c.w) ++ [[.int .i64 (fin l bids c.w)]] := by
    rw [List.take_add_one, hc]; simp [ints]
  have hlen : (ints ((l.take i).map fun c => fin l bids c.w)).length + 1 ≤ 1000000 := by simp [ints]; omega
  rw [ht, ← csl1_snoc, en_take l bids hc]
  generalize ints ((l.take i).map fun c => fin l bids c.w) = vs at *
  generalize fin l bids c.w = v at *
  generalize fndF c v bids = fd at *
  generalize enF l bids (l.take i) = en at *
  have hz : (eqB c.w.a 0 && (eqB c.w.b 0 && (eqB c.w.c 0 && (eqB c.w.d 0 && (eqB c.w.e 0 && eqB c.w.f 0))))) = c.w.isZ := rfl
  generalize costW c.p c.w = own at *
  simp only [n_saleroomref36_Cost, n_saleroomref40_Final, W6.pv, row_eq] at c1 c2
  have q3 := up_ok (show i ≤ 1000000000 by omega)
  rw [nat_succ, Sys.loop, show saleroomlaw40_RelcapConsistent_S.loops[0]? = some saleroomlaw40_RelcapConsistent_t0 from rfl, Option.bind_some]
  simp -implicitDefEqProofs only [saleroomlaw40_RelcapConsistent_t0, ↓reduceIte, eq_self, evb_ret, evb_ite, evb_need, evb_load, evb_app, evb_cut, evb_chk, evb_appF, evb_call, evb_callv, evb_newM, evb_mkM, evb_storeM, evb_appM, evb_mkMap, evb_mapGet, evb_mapSet, evb_mapClr, evb_jump, BE.safe, BE.pe, IE.pe, PEnv.at, List.getD_cons_zero, List.getD_cons_succ, List.getElem?_cons_zero, List.getElem?_cons_succ, locOf, locOn, readLoc, takeN, Nat.add_zero, List.drop_zero, List.length_cons, List.length_nil, Nat.reduceAdd, Nat.le_refl, if_true, if_false, Bool.false_eq_true, List.take_succ_cons, List.take_zero, bindK, bindRes, bind1, Option.map_some, Option.bind_some, PEnv.push, List.cons_append, List.nil_append, List.append_nil, SV.pvs, SV.pv, BE.all, Bool.and_self, Bool.not_true, Bool.not_false, List.map_cons, List.map_nil, p1, p2, ltB_nat, hdi, le0, hloc0, hloc6, row_eq, drop6, c1, c2, hz]
  refine run.trans ?_
  have hd0 : decide (bids.length < bids.length) = false := by simp
  rw [Sys.loop, show saleroomlaw40_RelcapConsistent_S.loops[1]? = some saleroomlaw40_RelcapConsistent_t1 from rfl, Option.bind_some]
  cases en with
  | true => simp -implicitDefEqProofs only [saleroomlaw40_RelcapConsistent_t1, ↓reduceIte, eq_self, evb_ret, evb_ite, evb_need, evb_load, evb_app, evb_cut, evb_chk, evb_appF, evb_call, evb_callv, evb_newM, evb_mkM, evb_storeM, evb_appM, evb_mkMap, evb_mapGet, evb_mapSet, evb_mapClr, evb_jump, BE.safe, BE.pe, IE.pe, PEnv.at, List.getD_cons_zero, List.getD_cons_succ, List.getElem?_cons_zero, List.getElem?_cons_succ, locOf, locOn, readLoc, takeN, Nat.add_zero, List.drop_zero, List.length_cons, List.length_nil, Nat.reduceAdd, Nat.le_refl, if_true, if_false, Bool.false_eq_true, List.take_succ_cons, List.take_zero, bindK, bindRes, bind1, Option.map_some, Option.bind_some, PEnv.push, List.cons_append, List.nil_append, List.append_nil, SV.pvs, SV.pv, BE.all, Bool.and_self, Bool.not_true, Bool.not_false, List.map_cons, List.map_nil, srcRows, List.mapM_cons, List.mapM_nil, List.reverse_cons, List.reverse_nil, Option.bind_eq_bind, Option.pure_def, b1, b2, ltB_nat, hd0, csl1_rows, sl_rows, if_pos one_le, if_pos hlen, if_pos q3, Bool.true_and]
  | false => simp -implicitDefEqProofs only [saleroomlaw40_RelcapConsistent_t1, ↓reduceIte, eq_self, evb_ret, evb_ite, evb_need, evb_load, evb_app, evb_cut, evb_chk, evb_appF, evb_call, evb_callv, evb_newM, evb_mkM, evb_storeM, evb_appM, evb_mkMap, evb_mapGet, evb_mapSet, evb_mapClr, evb_jump, BE.safe, BE.pe, IE.pe, PEnv.at, List.getD_cons_zero, List.getD_cons_succ, List.getElem?_cons_zero, List.getElem?_cons_succ, locOf, locOn, readLoc, takeN, Nat.add_zero, List.drop_zero, List.length_cons, List.length_nil, Nat.reduceAdd, Nat.le_refl, if_true, if_false, Bool.false_eq_true, List.take_succ_cons, List.take_zero, bindK, bindRes, bind1, Option.map_some, Option.bind_some, PEnv.push, List.cons_append, List.nil_append, List.append_nil, SV.pvs, SV.pv, BE.all, Bool.and_self, Bool.not_true, Bool.not_false, List.map_cons, List.map_nil, srcRows, List.mapM_cons, List.mapM_nil, List.reverse_cons, List.reverse_nil, Option.bind_eq_bind, Option.pure_def, b1, b2, ltB_nat, hd0, csl1_rows, sl_rows, if_pos one_le, if_pos hlen, if_pos q3, Bool.false_and]
end
theorem relcapConsistent_true (n0 : Nat) (rows : List (List PV)) (hs : ∀ r ∈ rows, Shaped Try.prog n0 46 r) (n1 : Nat) (rows1 : List (List PV)) (hs1 : ∀ r ∈ rows1, Shaped Try.prog n1 33 r) :
    evalF Tab 40001 n_saleroomlaw40_RelcapConsistent [.sl 12 rows, .sl 8 rows1] [] = some (.bool true, []) := by
  obtain ⟨l, rfl⟩ := shaped_Chs rows hs
  obtain ⟨bids, rfl⟩ := shaped_Ofs rows1 hs1
  have hP : (PV.sl 12 (l.map Ch.row)).rowsOf 12 = some (l.map Ch.row) := sl_rows _ _
  have hB : (PV.sl 8 (bids.map Of.row)).rowsOf 8 = some (bids.map Of.row) := sl_rows _ _
  have hPl : (PV.sl 12 (l.map Ch.row)).low 0 = true := low_ch 0 l
  have hBl : (PV.sl 8 (bids.map Of.row)).low 0 = true := low_of 0 bids
  obtain ⟨p1, p2, p3⟩ := rows_len hP
  obtain ⟨b1, b2, b3⟩ := rows_len hB
  rw [List.length_map] at p1 b1
  have ll := lives40
  simp only [n_saleroomlaw40_lives] at ll
  generalize (PV.sl 12 (l.map Ch.row)) = P at *
  generalize (PV.sl 8 (bids.map Of.row)) = B at *
  rw [evalF]
  simp only [tab_saleroomlaw40_RelcapConsistent, Option.bind_some, Sys.run]
  show ((bindPs [.sh (.one _), .sh (.one _)] _).bind _) = _
  simp -implicitDefEqProofs only [bindPs, bind1, bindK, Option.map_some, Option.bind_some, List.append_nil, List.nil_append, List.cons_append, if_true, p3, b3]
  show (PT.ev _ saleroomlaw40_RelcapConsistent_s _).bind _ = _
  by_cases h1 : 14 < l.length
  · have e1 : ltB 14 (l.length : Int) = true := by rw [ltB_true]; omega
    simp -implicitDefEqProofs only [saleroomlaw40_RelcapConsistent_s, ↓reduceIte, eq_self, evb_ret, evb_ite, evb_need, evb_load, evb_app, evb_cut, evb_chk, evb_appF, evb_call, evb_callv, evb_newM, evb_mkM, evb_storeM, evb_appM, evb_mkMap, evb_mapGet, evb_mapSet, evb_mapClr, evb_jump, BE.safe, BE.pe, IE.pe, PEnv.at, List.getD_cons_zero, List.getD_cons_succ, List.getElem?_cons_zero, List.getElem?_cons_succ, locOf, locOn, readLoc, takeN, Nat.add_zero, List.drop_zero, List.length_cons, List.length_nil, Nat.reduceAdd, Nat.le_refl, if_true, if_false, Bool.false_eq_true, List.take_succ_cons, List.take_zero, bindK, bindRes, bind1, Option.map_some, Option.bind_some, PEnv.push, List.cons_append, List.nil_append, List.append_nil, SV.pvs, SV.pv, BE.all, Bool.and_self, Bool.not_true, Bool.not_false, List.map_cons, List.map_nil, p1, p2, e1, ll, retP, or_true]
  have e1 : ltB 14 (l.length : Int) = false := by rw [ltB_false]; omega
  by_cases h2 : 14 < bids.length
  · have e2 : ltB 14 (bids.length : Int) = true := by rw [ltB_true]; omega
    simp -implicitDefEqProofs only [saleroomlaw40_RelcapConsistent_s, ↓reduceIte, eq_self, evb_ret, evb_ite, evb_need, evb_load, evb_app, evb_cut, evb_chk, evb_appF, evb_call, evb_callv, evb_newM, evb_mkM, evb_storeM, evb_appM, evb_mkMap, evb_mapGet, evb_mapSet, evb_mapClr, evb_jump, BE.safe, BE.pe, IE.pe, PEnv.at, List.getD_cons_zero, List.getD_cons_succ, List.getElem?_cons_zero, List.getElem?_cons_succ, locOf, locOn, readLoc, takeN, Nat.add_zero, List.drop_zero, List.length_cons, List.length_nil, Nat.reduceAdd, Nat.le_refl, if_true, if_false, Bool.false_eq_true, List.take_succ_cons, List.take_zero, bindK, bindRes, bind1, Option.map_some, Option.bind_some, PEnv.push, List.cons_append, List.nil_append, List.append_nil, SV.pvs, SV.pv, BE.all, Bool.and_self, Bool.not_true, Bool.not_false, List.map_cons, List.map_nil, p1, p2, e1, b1, b2, e2, ll, retP, or_true]
  have e2 : ltB 14 (bids.length : Int) = false := by rw [ltB_false]; omega
  have c1 := check40_sem [] l P hP bids B hB (by omega) (by omega) rfl hPl hBl 40000 (by omega)
  simp only [n_relcap_Check, erT] at c1
  simp -implicitDefEqProofs only [saleroomlaw40_RelcapConsistent_s, ↓reduceIte, eq_self, evb_ret, evb_ite, evb_need, evb_load, evb_app, evb_cut, evb_chk, evb_appF, evb_call, evb_callv, evb_newM, evb_mkM, evb_storeM, evb_appM, evb_mkMap, evb_mapGet, evb_mapSet, evb_mapClr, evb_jump, BE.safe, BE.pe, IE.pe, PEnv.at, List.getD_cons_zero, List.getD_cons_succ, List.getElem?_cons_zero, List.getElem?_cons_succ, locOf, locOn, readLoc, takeN, Nat.add_zero, List.drop_zero, List.length_cons, List.length_nil, Nat.reduceAdd, Nat.le_refl, if_true, if_false, Bool.false_eq_true, List.take_succ_cons, List.take_zero, bindK, bindRes, bind1, Option.map_some, Option.bind_some, PEnv.push, List.cons_append, List.nil_append, List.append_nil, SV.pvs, SV.pv, BE.all, Bool.and_self, Bool.not_true, Bool.not_false, List.map_cons, List.map_nil, p1, p2, e1, b1, b2, e2, c1, bindShs]
  by_cases hacc : (chkR l bids).2 = 0
  case neg =>
    have e3 : eqB (chkR l bids).2 0 = false := by rw [eqB_false]; exact hacc
    simp -implicitDefEqProofs only [↓reduceIte, eq_self, evb_ret, evb_ite, evb_need, evb_load, evb_app, evb_cut, evb_chk, evb_appF, evb_call, evb_callv, evb_newM, evb_mkM, evb_storeM, evb_appM, evb_mkMap, evb_mapGet, evb_mapSet, evb_mapClr, evb_jump, BE.safe, BE.pe, IE.pe, PEnv.at, List.getD_cons_zero, List.getD_cons_succ, List.getElem?_cons_zero, List.getElem?_cons_succ, locOf, locOn, readLoc, takeN, Nat.add_zero, List.drop_zero, List.length_cons, List.length_nil, Nat.reduceAdd, Nat.le_refl, if_true, if_false, Bool.false_eq_true, List.take_succ_cons, List.take_zero, bindK, bindRes, bind1, Option.map_some, Option.bind_some, PEnv.push, List.cons_append, List.nil_append, List.append_nil, SV.pvs, SV.pv, BE.all, Bool.and_self, Bool.not_true, Bool.not_false, List.map_cons, List.map_nil, e3, ll, retP, or_true]
  have e3 : eqB (chkR l bids).2 0 = true := by rw [eqB_true]; exact hacc
  simp -implicitDefEqProofs only [↓reduceIte, eq_self, evb_ret, evb_ite, evb_need, evb_load, evb_app, evb_cut, evb_chk, evb_appF, evb_call, evb_callv, evb_newM, evb_mkM, evb_storeM, evb_appM, evb_mkMap, evb_mapGet, evb_mapSet, evb_mapClr, evb_jump, BE.safe, BE.pe, IE.pe, PEnv.at, List.getD_cons_zero, List.getD_cons_succ, List.getElem?_cons_zero, List.getElem?_cons_succ, locOf, locOn, readLoc, takeN, Nat.add_zero, List.drop_zero, List.length_cons, List.length_nil, Nat.reduceAdd, Nat.le_refl, if_true, if_false, Bool.false_eq_true, List.take_succ_cons, List.take_zero, bindK, bindRes, bind1, Option.map_some, Option.bind_some, PEnv.push, List.cons_append, List.nil_append, List.append_nil, SV.pvs, SV.pv, BE.all, Bool.and_self, Bool.not_true, Bool.not_false, List.map_cons, List.map_nil, e3]
  have run : ∀ d i, i + d = l.length → ∀ fuel, saleroomlaw40_RelcapConsistent_S.loop (evalF Tab 40000) (fuel + d * (bids.length + 2)) 0 { i := [(i : Int)], b := [enF l bids (l.take i)], v := [P, B, csl1 (ints ((l.take i).map fun c => fin l bids c.w))], m := [], k := 0 } =
      saleroomlaw40_RelcapConsistent_S.loop (evalF Tab 40000) fuel 0 { i := [(l.length : Int)], b := [enF l bids l], v := [P, B, csl1 (ints (l.map fun c => fin l bids c.w))], m := [], k := 0 } := by
    intro d
    induction d with
    | zero => intro i hi fuel; rw [Nat.add_zero] at hi; subst hi; rw [Nat.zero_mul, Nat.add_zero, take_all]
    | succ d ih =>
      intro i hi fuel
      rw [show fuel + (d + 1) * (bids.length + 2) = (fuel + d * (bids.length + 2)) + bids.length + 2 by rw [Nat.add_mul]; omega, cons_out l bids P B hP hB (by omega) (by omega) hacc i (by omega)]
      exact ih (i + 1) (by omega) fuel
  have hmul : l.length * (bids.length + 2) ≤ 14 * 16 := Nat.mul_le_mul (by omega) (by omega)
  have r0 := run l.length 0 (by omega) (40000 - l.length * (bids.length + 2))
  rw [show 40000 - l.length * (bids.length + 2) + l.length * (bids.length + 2) = 40000 by omega] at r0
  have z0 : enF l bids (l.take 0) = true := by simp [enF]
  have z1 : csl1 (ints ((l.take 0).map fun c => fin l bids c.w)) = .nilS := by simp [ints, csl1]
  rw [z0, z1] at r0
  refine r0.trans ?_
  rw [show 40000 - l.length * (bids.length + 2) = (40000 - l.length * (bids.length + 2) - 1) + 1 by omega, Sys.loop, show saleroomlaw40_RelcapConsistent_S.loops[0]? = some saleroomlaw40_RelcapConsistent_t0 from rfl, Option.bind_some]
  have hd0 : decide (l.length < l.length) = false := by simp
  cases hen : enF l bids l with
  | false => simp -implicitDefEqProofs only [saleroomlaw40_RelcapConsistent_t0, ↓reduceIte, eq_self, evb_ret, evb_ite, evb_need, evb_load, evb_app, evb_cut, evb_chk, evb_appF, evb_call, evb_callv, evb_newM, evb_mkM, evb_storeM, evb_appM, evb_mkMap, evb_mapGet, evb_mapSet, evb_mapClr, evb_jump, BE.safe, BE.pe, IE.pe, PEnv.at, List.getD_cons_zero, List.getD_cons_succ, List.getElem?_cons_zero, List.getElem?_cons_succ, locOf, locOn, readLoc, takeN, Nat.add_zero, List.drop_zero, List.length_cons, List.length_nil, Nat.reduceAdd, Nat.le_refl, if_true, if_false, Bool.false_eq_true, List.take_succ_cons, List.take_zero, bindK, bindRes, bind1, Option.map_some, Option.bind_some, PEnv.push, List.cons_append, List.nil_append, List.append_nil, SV.pvs, SV.pv, BE.all, Bool.and_self, Bool.not_true, Bool.not_false, List.map_cons, List.map_nil, p1, p2, ltB_nat, hd0, ll, retP, or_true]
  | true =>
    obtain ⟨w1, w2, b, c2, o1, o2, hbb⟩ := check_is [] flat_nil l P hP (by omega) 40000 (by omega)
    have hbt := hbb.2 (pot_fin hacc hen)
    subst hbt
    have c3 := verify_sem [] l P hP [] (l.map fun c => fin l bids c.w) .nilS (csl1 (ints (l.map fun c => fin l bids c.w))) rfl (csl1_rows _) (by omega) 40000 (by simp; omega) (by simp) (by simp; omega)
    rw [verd_fin hacc hen] at c3
    have ho := csl1_one (ints (l.map fun c => fin l bids c.w))
    have ez : eqB 0 0 = true := rfl
    generalize csl1 (ints (l.map fun c => fin l bids c.w)) = V at *
    simp only [n_revealed_Check, n_revealed_Verify] at c2 c3
    simp -implicitDefEqProofs only [saleroomlaw40_RelcapConsistent_t0, ↓reduceIte, eq_self, evb_ret, evb_ite, evb_need, evb_load, evb_app, evb_cut, evb_chk, evb_appF, evb_call, evb_callv, evb_newM, evb_mkM, evb_storeM, evb_appM, evb_mkMap, evb_mapGet, evb_mapSet, evb_mapClr, evb_jump, BE.safe, BE.pe, IE.pe, PEnv.at, List.getD_cons_zero, List.getD_cons_succ, List.getElem?_cons_zero, List.getElem?_cons_succ, locOf, locOn, readLoc, takeN, Nat.add_zero, List.drop_zero, List.length_cons, List.length_nil, Nat.reduceAdd, Nat.le_refl, if_true, if_false, Bool.false_eq_true, List.take_succ_cons, List.take_zero, bindK, bindRes, bind1, Option.map_some, Option.bind_some, PEnv.push, List.cons_append, List.nil_append, List.append_nil, SV.pvs, SV.pv, BE.all, Bool.and_self, Bool.not_true, Bool.not_false, List.map_cons, List.map_nil, p1, p2, ltB_nat, hd0, c2, o1, o2, bindShs, c3, ez, ll, retP, or_true]
theorem relcapConsistent_own : ownKnob Try.prog.godebug = none := by kernel_rfl
theorem relcapConsistent_laid : laidOutB Try.prog = true := by kernel_rfl
theorem relcapConsistent_types : Go.Sx.closed Try.prog [22, 25, 46, 33, 44, 29, 3, 2] = true := by kernel_rfl
set_option maxRecDepth 100000 in
theorem relcapConsistent_lifted (os : Os) (started : os.Started) (H : Type) (enc : TypeId × Value → H) :
    ReturnsInHanded {} Try.checked os 8 .any (Rows.relcapConsistentSpec.pre6 enc Try.prog Try.f8 Rows.relcapConsistentRow.domain false) (Rows.relcapConsistentSpec.post enc Try.prog Try.f8 false true false false) := by
  refine returnsInHanded_of_change (C := Try.checked) relcapConsistent_own started (by kernel_rfl) Try.func8
    (ChangeSpec.witness6 (enc := enc) (C := Try.checked) false ⟨#[], #[.slice none 0 0, .slice none 0 0], []⟩ 8 (by kernel_rfl) (by kernel_rfl) (by kernel_rfl) (by kernel_rfl)) ?_
  intro W base args ds gs before hval0 hW hcnd _
  have hval : ∀ (j : Nat) t v, Try.f8.params[j]? = some t → args[j]? = some v → Value.okWide Try.prog W .any base t v := hval0
  have hW' := hW
  obtain ⟨p, q, hA0, hV, rfl, hfz, hnd⟩ := hW
  have hA : DataW.TrodAll enc Try.prog W 0 (fun _ => true) true Try.f8.params.toList args.toList ds p := hA0
  rw [Try.params8] at hA hval
  obtain ⟨v0, vs0, d0, ds0, p0, q0, hargs, rfl, rfl, h0, r0⟩ := trodAll_cons hA
  obtain ⟨v1, vs1, d1, ds1, p1, q1, rfl, rfl, rfl, h1, r1⟩ := trodAll_cons r0
  obtain ⟨rfl, rfl, rfl⟩ := trodAll_nil r1
  obtain rfl : args = #[v0, v1] := by cases args; simp_all
  obtain ⟨rfl, rfl⟩ := trodVars_none hV
  have k0 := h0
  have lt0 : ∀ x ∈ p0, x.block < W.heap.size := by obtain ⟨m, hm⟩ := k0; exact DataW.trod_lt m _ _ _ hm
  obtain ⟨n0, a0, e0, s0, w0⟩ := arg_slice relcapConsistent_types (t := 22) (by decide) Try.underlying22 (hval 0 22 v0 rfl rfl) h0
  have k1 := h1
  have lt1 : ∀ x ∈ p1, x.block < W.heap.size := by obtain ⟨m, hm⟩ := k1; exact DataW.trod_lt m _ _ _ hm
  obtain ⟨n1, a1, e1, s1, w1⟩ := arg_slice relcapConsistent_types (t := 25) (by decide) Try.underlying25 (hval 1 25 v1 rfl rfl) h1
  clear hA0 hval0
  rw [show Try.prog.cellsOf 46 = 12 by kernel_rfl] at e0
  rw [show Try.prog.cellsOf 33 = 8 by kernel_rfl] at e1
  have hr : Go.Sx.Reps (Go.Sx.hpOf W) [] [.sl 12 a0, .sl 8 a1] [v0, v1] := ⟨v0, _, rfl, e0, ⟨v1, _, rfl, e1, rfl⟩⟩
  refine (Go.Sx.lift_true (Go.Sx.evalF_good tab_ok 40001 8) (relcapConsistent_true n0 a0 s0 n1 a1 s1) hr).mono fun e W' hh => ?_
  obtain ⟨rfl, bel⟩ := hh
  exact ⟨_, rfl, _, _, _, [], _, [], hW', trodAll_mk1 (shut_bool Try.underlying4 _), (trodAll_cons_mk (Below.trod relcapConsistent_laid (by kernel_rfl) (of_decide_eq_true (by kernel_rfl)) k0 bel lt0) (trodAll_cons_mk (Below.trod relcapConsistent_laid (by kernel_rfl) (of_decide_eq_true (by kernel_rfl)) k1 bel lt1) trodAll_mk0)), rfl, bel.frame _, fun h => by cases h⟩
theorem relcapConsistent_proved : Rows.RelcapConsistentSaid :=
  OpenClaim.holds_of_wide 8 Try.f8 rfl rfl rfl rfl rfl rfl rfl ⟨rfl, rfl, rfl, rfl, rfl⟩ rfl rfl rfl rfl rfl (by kernel_rfl) Try.func8 (by kernel_rfl)
    (of_decide_eq_true (by kernel_rfl)) (by unfold Func.isWrapper; first | (rw [if_pos (by decide +kernel)]; kernel_rfl) | (rw [if_neg (by decide +kernel)]; exact ⟨rfl, rfl⟩))
    (fun os started H enc _ => relcapConsistent_lifted os started H enc)
end Go.Proofs.Ytggjcdnailppoaa
