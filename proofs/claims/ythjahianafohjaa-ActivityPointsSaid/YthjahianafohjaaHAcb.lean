/- Eligibility, exits. -/
import Derived.Test.YthjahianafohjaaHAca
set_option linter.unusedSimpArgs false
set_option linter.unusedVariables false
set_option maxRecDepth 100000
namespace Go.Proofs.Ythjahianafohjaa
open Go.Sx
theorem usum_sem (σ : List MO) (l : List Pr) (P : PV) (hP : P.rowsOf 5 = some (l.map Pr.row)) (w : W6) (n : Nat) (hn : 80 ≤ n) : evalF Tab n n_catalog_units_sum [.agg (P :: w.pv), .fn n_catalog_Points_1 []] σ = some (.int .i64 (ptsV l w), σ) := by
  obtain ⟨n, rfl⟩ : ∃ k, n = k + 1 := ⟨n - 1, by omega⟩
  obtain ⟨p1, p2, p3⟩ := rows_len hP
  rw [List.length_map] at p1
  have c1 := check08_sem σ l P hP n (by omega)
  have c2 := bundle_Check_sem σ w n (by omega)
  simp only [n_catalog_Check, n_bundle_Check, W6.pv] at c1 c2
  simp only [evalF, tab_catalog_units_sum, Option.bind_some, Sys.run, W6.pv]
  show ((bindPs [.sh (.agg [_, _, _, _, _, _, _]), .sh (.one _)] _).bind _) = _
  simp -implicitDefEqProofs only [bindPs, bind1, bindK, Option.map_some, Option.bind_some, List.append_nil, List.nil_append, List.cons_append, if_true, p3, one_fn]
  show (PT.ev _ catalog_units_sum_s _).bind _ = _
  simp -implicitDefEqProofs only [catalog_units_sum_s, ↓reduceIte, eq_self, evb_ret, evb_ite, evb_need, evb_load, evb_app, evb_cut, evb_scut, evb_chk, evb_appF, evb_call, evb_callv, evb_newM, evb_mkM, evb_storeM, evb_appM, evb_mkMap, evb_mapGet, evb_mapSet, evb_mapClr, evb_jump, BE.safe, BE.pe, IE.pe, PEnv.at, List.getD_cons_zero, List.getD_cons_succ, List.getElem?_cons_zero, List.getElem?_cons_succ, locOf, locOn, readLoc, takeN, Nat.add_zero, List.drop_zero, List.length_cons, List.length_nil, Nat.reduceAdd, Nat.le_refl, if_true, if_false, Bool.false_eq_true, List.take_succ_cons, List.take_zero, bindK, bindRes, bind1, Option.map_some, Option.bind_some, PEnv.push, List.cons_append, List.nil_append, List.append_nil, SV.pvs, SV.pv, BE.all, Bool.and_self, Bool.not_true, Bool.not_false, List.map_cons, List.map_nil, c1, ptsV]
  cases hc : eqB (pchk l) 0 with
  | false => simp -implicitDefEqProofs only [↓reduceIte, eq_self, evb_ret, evb_ite, evb_need, evb_load, evb_app, evb_cut, evb_scut, evb_chk, evb_appF, evb_call, evb_callv, evb_newM, evb_mkM, evb_storeM, evb_appM, evb_mkMap, evb_mapGet, evb_mapSet, evb_mapClr, evb_jump, BE.safe, BE.pe, IE.pe, PEnv.at, List.getD_cons_zero, List.getD_cons_succ, List.getElem?_cons_zero, List.getElem?_cons_succ, locOf, locOn, readLoc, takeN, Nat.add_zero, List.drop_zero, List.length_cons, List.length_nil, Nat.reduceAdd, Nat.le_refl, if_true, if_false, Bool.false_eq_true, List.take_succ_cons, List.take_zero, bindK, bindRes, bind1, Option.map_some, Option.bind_some, PEnv.push, List.cons_append, List.nil_append, List.append_nil, SV.pvs, SV.pv, BE.all, Bool.and_self, Bool.not_true, Bool.not_false, List.map_cons, List.map_nil, retP, or_true]
  | true =>
    obtain ⟨hl, hr⟩ := pchk_zero (eqB_true.1 hc)
    simp -implicitDefEqProofs only [↓reduceIte, eq_self, evb_ret, evb_ite, evb_need, evb_load, evb_app, evb_cut, evb_scut, evb_chk, evb_appF, evb_call, evb_callv, evb_newM, evb_mkM, evb_storeM, evb_appM, evb_mkMap, evb_mapGet, evb_mapSet, evb_mapClr, evb_jump, BE.safe, BE.pe, IE.pe, PEnv.at, List.getD_cons_zero, List.getD_cons_succ, List.getElem?_cons_zero, List.getElem?_cons_succ, locOf, locOn, readLoc, takeN, Nat.add_zero, List.drop_zero, List.length_cons, List.length_nil, Nat.reduceAdd, Nat.le_refl, if_true, if_false, Bool.false_eq_true, List.take_succ_cons, List.take_zero, bindK, bindRes, bind1, Option.map_some, Option.bind_some, PEnv.push, List.cons_append, List.nil_append, List.append_nil, SV.pvs, SV.pv, BE.all, Bool.and_self, Bool.not_true, Bool.not_false, List.map_cons, List.map_nil, c2]
    by_cases hw : w.ok
    · have hb : eqB (bchk w) 0 = true := by unfold bchk; rw [if_pos hw]; rfl
      have := usum_loop σ l P hP w hw hl hr n (by omega) l.length 0 (by omega) (n - l.length - 1)
      rw [show n - l.length - 1 + l.length + 1 = n by omega] at this
      simp -implicitDefEqProofs only [↓reduceIte, eq_self, evb_ret, evb_ite, evb_need, evb_load, evb_app, evb_cut, evb_scut, evb_chk, evb_appF, evb_call, evb_callv, evb_newM, evb_mkM, evb_storeM, evb_appM, evb_mkMap, evb_mapGet, evb_mapSet, evb_mapClr, evb_jump, BE.safe, BE.pe, IE.pe, PEnv.at, List.getD_cons_zero, List.getD_cons_succ, List.getElem?_cons_zero, List.getElem?_cons_succ, locOf, locOn, readLoc, takeN, Nat.add_zero, List.drop_zero, List.length_cons, List.length_nil, Nat.reduceAdd, Nat.le_refl, if_true, if_false, Bool.false_eq_true, List.take_succ_cons, List.take_zero, bindK, bindRes, bind1, Option.map_some, Option.bind_some, PEnv.push, List.cons_append, List.nil_append, List.append_nil, SV.pvs, SV.pv, BE.all, Bool.and_self, Bool.not_true, Bool.not_false, List.map_cons, List.map_nil, hb, p1, p2]
      exact this
    · have hb : eqB (bchk w) 0 = false := by unfold bchk; rw [if_neg hw]; rfl
      simp -implicitDefEqProofs only [↓reduceIte, eq_self, evb_ret, evb_ite, evb_need, evb_load, evb_app, evb_cut, evb_scut, evb_chk, evb_appF, evb_call, evb_callv, evb_newM, evb_mkM, evb_storeM, evb_appM, evb_mkMap, evb_mapGet, evb_mapSet, evb_mapClr, evb_jump, BE.safe, BE.pe, IE.pe, PEnv.at, List.getD_cons_zero, List.getD_cons_succ, List.getElem?_cons_zero, List.getElem?_cons_succ, locOf, locOn, readLoc, takeN, Nat.add_zero, List.drop_zero, List.length_cons, List.length_nil, Nat.reduceAdd, Nat.le_refl, if_true, if_false, Bool.false_eq_true, List.take_succ_cons, List.take_zero, bindK, bindRes, bind1, Option.map_some, Option.bind_some, PEnv.push, List.cons_append, List.nil_append, List.append_nil, SV.pvs, SV.pv, BE.all, Bool.and_self, Bool.not_true, Bool.not_false, List.map_cons, List.map_nil, hb, retP, or_true]
theorem points_sem (σ : List MO) (l : List Pr) (P : PV) (hP : P.rowsOf 5 = some (l.map Pr.row)) (w : W6) (n : Nat) (hn : 90 ≤ n) : evalF Tab n n_catalog_Points [P, .agg w.pv] σ = some (.int .i64 (ptsV l w), σ) := by
  obtain ⟨n, rfl⟩ : ∃ k, n = k + 1 := ⟨n - 1, by omega⟩
  obtain ⟨p1, p2, p3⟩ := rows_len hP
  have c1 := usum_sem σ l P hP w n (by omega)
  simp only [n_catalog_units_sum, n_catalog_Points_1, W6.pv] at c1
  simp only [evalF, tab_catalog_Points, Option.bind_some, Sys.run, W6.pv]
  show ((bindPs [.sh (.one _), .sh (.agg [_, _, _, _, _, _])] _).bind _) = _
  simp -implicitDefEqProofs only [bindPs, bind1, bindK, Option.map_some, Option.bind_some, List.append_nil, List.nil_append, List.cons_append, if_true, p3]
  show (PT.ev _ catalog_Points_s _).bind _ = _
  simp -implicitDefEqProofs only [catalog_Points_s, ↓reduceIte, eq_self, evb_ret, evb_ite, evb_need, evb_load, evb_app, evb_cut, evb_scut, evb_chk, evb_appF, evb_call, evb_callv, evb_newM, evb_mkM, evb_storeM, evb_appM, evb_mkMap, evb_mapGet, evb_mapSet, evb_mapClr, evb_jump, BE.safe, BE.pe, IE.pe, PEnv.at, List.getD_cons_zero, List.getD_cons_succ, List.getElem?_cons_zero, List.getElem?_cons_succ, locOf, locOn, readLoc, takeN, Nat.add_zero, List.drop_zero, List.length_cons, List.length_nil, Nat.reduceAdd, Nat.le_refl, if_true, if_false, Bool.false_eq_true, List.take_succ_cons, List.take_zero, bindK, bindRes, bind1, Option.map_some, Option.bind_some, PEnv.push, List.cons_append, List.nil_append, List.append_nil, SV.pvs, SV.pv, BE.all, Bool.and_self, Bool.not_true, Bool.not_false, List.map_cons, List.map_nil, c1, retP, or_true]
/-- A history: setup, bidder, choices. -/
def hist (s : St) (i : Int) (L : PV) : List PV := [s.P, s.B, s.C, s.A, .int .i64 i, L]
theorem hpoints_sem (σ : List MO) (s : St) (hs : s.Ok) (i : Int) (L : PV) (hL : L.one = true) (x : Ch) (n : Nat) (hn : 100 ≤ n) : evalF Tab n n_activity_history_points [.agg (hist s i L), .agg x.row] σ = some (.int .i64 (ptsV s.ps x.w), σ) := by
  obtain ⟨n, rfl⟩ : ∃ k, n = k + 1 := ⟨n - 1, by omega⟩
  obtain ⟨p1, p2, p3⟩ := rows_len hs.P
  obtain ⟨b1, b2, b3⟩ := rows_len hs.B
  have c1 := points_sem σ s.ps s.P hs.P x.w n (by omega)
  simp only [n_catalog_Points, W6.pv] at c1
  simp only [evalF, tab_activity_history_points, Option.bind_some, Sys.run, hist, row_eq]
  show ((bindPs [.sh (.agg [_, _, _, _, _, _]), .sh (.agg [_, _, _, _, _, _, _, _, _, _, _, _])] _).bind _) = _
  simp -implicitDefEqProofs only [bindPs, bind1, bindK, Option.map_some, Option.bind_some, List.append_nil, List.nil_append, List.cons_append, if_true, p3, b3, hs.C, hs.A, hL]
  show (PT.ev _ activity_history_points_s _).bind _ = _
  simp -implicitDefEqProofs only [activity_history_points_s, ↓reduceIte, eq_self, evb_ret, evb_ite, evb_need, evb_load, evb_app, evb_cut, evb_scut, evb_chk, evb_appF, evb_call, evb_callv, evb_newM, evb_mkM, evb_storeM, evb_appM, evb_mkMap, evb_mapGet, evb_mapSet, evb_mapClr, evb_jump, BE.safe, BE.pe, IE.pe, PEnv.at, List.getD_cons_zero, List.getD_cons_succ, List.getElem?_cons_zero, List.getElem?_cons_succ, locOf, locOn, readLoc, takeN, Nat.add_zero, List.drop_zero, List.length_cons, List.length_nil, Nat.reduceAdd, Nat.le_refl, if_true, if_false, Bool.false_eq_true, List.take_succ_cons, List.take_zero, bindK, bindRes, bind1, Option.map_some, Option.bind_some, PEnv.push, List.cons_append, List.nil_append, List.append_nil, SV.pvs, SV.pv, BE.all, Bool.and_self, Bool.not_true, Bool.not_false, List.map_cons, List.map_nil, c1, retP, or_true]
def eligF (ps : List Pr) (l : List Ch) (a : Int) : Int := l.foldl (fun m x => mnI m (ptsV ps x.w)) a
def eligV (s : St) (i : Int) (l : List Ch) : Int := if hasB s i = true then eligF s.ps l (((s.bs[i.toNat]?).map Bd.p).getD 0) else 0
theorem elig_sem (σ : List MO) (s : St) (hs : s.Ok) (i : Int) (l : List Ch) (L : PV) (hL : L.rowsOf 12 = some (l.map Ch.row)) (hl : l.length ≤ 1000) (n : Nat) (hn : 1200 ≤ n) :
    evalF Tab n n_activity_Eligibility [.agg s.pv, .int .i64 i, L] σ = some (.int .i64 (eligV s i l), σ) := by
  obtain ⟨n, rfl⟩ : ∃ k, n = k + 1 := ⟨n - 1, by omega⟩
  obtain ⟨p1, p2, p3⟩ := rows_len hs.P
  obtain ⟨b1, b2, b3⟩ := rows_len hs.B
  obtain ⟨l1, l2, l3⟩ := rows_len hL
  rw [List.length_map] at b1 l1
  have c1 := activity_has_sem σ s hs i n (by omega)
  simp only [n_activity_has, St.pv] at c1
  have loop : ∀ d k, k + d = l.length → ∀ fuel (a : Int), activity_Eligibility_S.loop (evalF Tab n) (fuel + d + 1) 0 { i := [i, a, (l.length : Int), (k : Int)], b := [], v := [s.P, s.B, s.C, s.A, L], m := σ, k := σ.length } = some (.int .i64 (eligF s.ps (l.drop k) a), σ) := by
    intro d
    induction d with
    | zero =>
      intro k hk fuel a
      rw [Nat.add_zero] at hk; subst hk
      have hd : decide (l.length < l.length) = false := by simp
      rw [Sys.loop, show activity_Eligibility_S.loops[0]? = some activity_Eligibility_t0 from rfl, List.drop_length]
      simp -implicitDefEqProofs only [Option.bind_some, activity_Eligibility_t0, ↓reduceIte, eq_self, evb_ret, evb_ite, evb_need, evb_load, evb_app, evb_cut, evb_scut, evb_chk, evb_appF, evb_call, evb_callv, evb_newM, evb_mkM, evb_storeM, evb_appM, evb_mkMap, evb_mapGet, evb_mapSet, evb_mapClr, evb_jump, BE.safe, BE.pe, IE.pe, PEnv.at, List.getD_cons_zero, List.getD_cons_succ, List.getElem?_cons_zero, List.getElem?_cons_succ, locOf, locOn, readLoc, takeN, Nat.add_zero, List.drop_zero, List.length_cons, List.length_nil, Nat.reduceAdd, Nat.le_refl, if_true, if_false, Bool.false_eq_true, List.take_succ_cons, List.take_zero, bindK, bindRes, bind1, Option.map_some, Option.bind_some, PEnv.push, List.cons_append, List.nil_append, List.append_nil, SV.pvs, SV.pv, BE.all, Bool.and_self, Bool.not_true, Bool.not_false, List.map_cons, List.map_nil, ltB_nat, hd, retP, or_true, eligF, List.foldl_nil]
    | succ d ih =>
      intro k hk fuel a
      have hlt : k < l.length := by omega
      obtain ⟨x, hx⟩ := get_ex hlt
      have hd : decide (k < l.length) = true := decide_eq_true hlt
      have h0 := rows_get (off := 0) hL (rows_chs hx)
      have hup := up_ok (show k ≤ 1000000000 by omega)
      have c2 := hpoints_sem σ s hs i L l3 x n (by omega)
      simp only [n_activity_history_points, hist, row_eq] at c2
      have ih := ih (k + 1) (by omega) fuel (mnI a (ptsV s.ps x.w))
      rw [nat_succ] at ih
      rw [drop_cons hx, show eligF s.ps (x :: l.drop (k + 1)) a = eligF s.ps (l.drop (k + 1)) (mnI a (ptsV s.ps x.w)) from rfl, ← ih, show fuel + (d + 1) + 1 = (fuel + d + 1) + 1 from rfl, Sys.loop, show activity_Eligibility_S.loops[0]? = some activity_Eligibility_t0 from rfl]
      simp -implicitDefEqProofs only [Option.bind_some, activity_Eligibility_t0, ↓reduceIte, eq_self, evb_ret, evb_ite, evb_need, evb_load, evb_app, evb_cut, evb_scut, evb_chk, evb_appF, evb_call, evb_callv, evb_newM, evb_mkM, evb_storeM, evb_appM, evb_mkMap, evb_mapGet, evb_mapSet, evb_mapClr, evb_jump, BE.safe, BE.pe, IE.pe, PEnv.at, List.getD_cons_zero, List.getD_cons_succ, List.getElem?_cons_zero, List.getElem?_cons_succ, locOf, locOn, readLoc, takeN, Nat.add_zero, List.drop_zero, List.length_cons, List.length_nil, Nat.reduceAdd, Nat.le_refl, if_true, if_false, Bool.false_eq_true, List.take_succ_cons, List.take_zero, bindK, bindRes, bind1, Option.map_some, Option.bind_some, PEnv.push, List.cons_append, List.nil_append, List.append_nil, SV.pvs, SV.pv, BE.all, Bool.and_self, Bool.not_true, Bool.not_false, List.map_cons, List.map_nil, l1, ltB_nat, hd, le0, h0, row_eq, c2, if_pos hup]
  simp only [evalF, tab_activity_Eligibility, Option.bind_some, Sys.run, St.pv]
  show ((bindPs [.sh (.agg [_, _, _, _]), .sh (.one _), .sh (.one _)] _).bind _) = _
  simp -implicitDefEqProofs only [bindPs, bind1, bindK, Option.map_some, Option.bind_some, List.append_nil, List.nil_append, List.cons_append, if_true, p3, b3, l3, hs.C, hs.A]
  show (PT.ev _ activity_Eligibility_s _).bind _ = _
  simp -implicitDefEqProofs only [activity_Eligibility_s, ↓reduceIte, eq_self, evb_ret, evb_ite, evb_need, evb_load, evb_app, evb_cut, evb_scut, evb_chk, evb_appF, evb_call, evb_callv, evb_newM, evb_mkM, evb_storeM, evb_appM, evb_mkMap, evb_mapGet, evb_mapSet, evb_mapClr, evb_jump, BE.safe, BE.pe, IE.pe, PEnv.at, List.getD_cons_zero, List.getD_cons_succ, List.getElem?_cons_zero, List.getElem?_cons_succ, locOf, locOn, readLoc, takeN, Nat.add_zero, List.drop_zero, List.length_cons, List.length_nil, Nat.reduceAdd, Nat.le_refl, if_true, if_false, Bool.false_eq_true, List.take_succ_cons, List.take_zero, bindK, bindRes, bind1, Option.map_some, Option.bind_some, PEnv.push, List.cons_append, List.nil_append, List.append_nil, SV.pvs, SV.pv, BE.all, Bool.and_self, Bool.not_true, Bool.not_false, List.map_cons, List.map_nil, c1, eligV]
  cases hh : hasB s i with
  | false => simp -implicitDefEqProofs only [↓reduceIte, eq_self, evb_ret, evb_ite, evb_need, evb_load, evb_app, evb_cut, evb_scut, evb_chk, evb_appF, evb_call, evb_callv, evb_newM, evb_mkM, evb_storeM, evb_appM, evb_mkMap, evb_mapGet, evb_mapSet, evb_mapClr, evb_jump, BE.safe, BE.pe, IE.pe, PEnv.at, List.getD_cons_zero, List.getD_cons_succ, List.getElem?_cons_zero, List.getElem?_cons_succ, locOf, locOn, readLoc, takeN, Nat.add_zero, List.drop_zero, List.length_cons, List.length_nil, Nat.reduceAdd, Nat.le_refl, if_true, if_false, Bool.false_eq_true, List.take_succ_cons, List.take_zero, bindK, bindRes, bind1, Option.map_some, Option.bind_some, PEnv.push, List.cons_append, List.nil_append, List.append_nil, SV.pvs, SV.pv, BE.all, Bool.and_self, Bool.not_true, Bool.not_false, List.map_cons, List.map_nil, retP, or_true]
  | true =>
    obtain ⟨k, rfl, hk, hkn⟩ := has_get hh
    obtain ⟨b, hb⟩ := get_ex hk
    have hloc := rows_get (off := 3) hs.B (rows_bds hb)
    have hd : decide (k < s.bs.length) = true := decide_eq_true hk
    have dr : ∀ a b c d : PV, List.drop 3 [a, b, c, d] = [d] := fun _ _ _ _ => rfl
    have := loop l.length 0 (by omega) (n - l.length - 1) b.p
    rw [show n - l.length - 1 + l.length + 1 = n by omega, List.drop_zero] at this
    rw [hkn, hb]
    simp -implicitDefEqProofs only [↓reduceIte, eq_self, evb_ret, evb_ite, evb_need, evb_load, evb_app, evb_cut, evb_scut, evb_chk, evb_appF, evb_call, evb_callv, evb_newM, evb_mkM, evb_storeM, evb_appM, evb_mkMap, evb_mapGet, evb_mapSet, evb_mapClr, evb_jump, BE.safe, BE.pe, IE.pe, PEnv.at, List.getD_cons_zero, List.getD_cons_succ, List.getElem?_cons_zero, List.getElem?_cons_succ, locOf, locOn, readLoc, takeN, Nat.add_zero, List.drop_zero, List.length_cons, List.length_nil, Nat.reduceAdd, Nat.le_refl, if_true, if_false, Bool.false_eq_true, List.take_succ_cons, List.take_zero, bindK, bindRes, bind1, Option.map_some, Option.bind_some, PEnv.push, List.cons_append, List.nil_append, List.append_nil, SV.pvs, SV.pv, BE.all, Bool.and_self, Bool.not_true, Bool.not_false, List.map_cons, List.map_nil, b1, l1, l2, ltB_nat, hd, le0, hloc, bd_row, dr, Option.getD_some]
    exact this
theorem relig_sem (σ : List MO) (s : St) (hs : s.Ok) (i : Int) (l : List Ch) (L : PV) (hL : L.rowsOf 12 = some (l.map Ch.row)) (hl : l.length ≤ 1000) (n : Nat) (hn : 1200 ≤ n) :
    evalF Tab n n_saleroomref37_Eligibility [.agg s.pv, .int .i64 i, L] σ = some (.int .i64 (eligV s i l), σ) := by
  obtain ⟨n, rfl⟩ : ∃ k, n = k + 1 := ⟨n - 1, by omega⟩
  obtain ⟨p1, p2, p3⟩ := rows_len hs.P
  obtain ⟨b1, b2, b3⟩ := rows_len hs.B
  obtain ⟨l1, l2, l3⟩ := rows_len hL
  rw [List.length_map] at b1 l1
  have c1 := saleroomref37_bidder_sem σ s hs i n (by omega)
  simp only [n_saleroomref37_bidder, St.pv] at c1
  have loop : ∀ d k, k + d = l.length → ∀ fuel (a : Int), saleroomref37_Eligibility_S.loop (evalF Tab n) (fuel + d + 1) 0 { i := [a, (k : Int)], b := [], v := [L, s.P, s.B, s.C, s.A], m := σ, k := σ.length } = some (.int .i64 (eligF s.ps (l.drop k) a), σ) := by
    intro d
    induction d with
    | zero =>
      intro k hk fuel a
      rw [Nat.add_zero] at hk; subst hk
      have hd : decide (l.length < l.length) = false := by simp
      rw [Sys.loop, show saleroomref37_Eligibility_S.loops[0]? = some saleroomref37_Eligibility_t0 from rfl, List.drop_length]
      simp -implicitDefEqProofs only [Option.bind_some, saleroomref37_Eligibility_t0, ↓reduceIte, eq_self, evb_ret, evb_ite, evb_need, evb_load, evb_app, evb_cut, evb_scut, evb_chk, evb_appF, evb_call, evb_callv, evb_newM, evb_mkM, evb_storeM, evb_appM, evb_mkMap, evb_mapGet, evb_mapSet, evb_mapClr, evb_jump, BE.safe, BE.pe, IE.pe, PEnv.at, List.getD_cons_zero, List.getD_cons_succ, List.getElem?_cons_zero, List.getElem?_cons_succ, locOf, locOn, readLoc, takeN, Nat.add_zero, List.drop_zero, List.length_cons, List.length_nil, Nat.reduceAdd, Nat.le_refl, if_true, if_false, Bool.false_eq_true, List.take_succ_cons, List.take_zero, bindK, bindRes, bind1, Option.map_some, Option.bind_some, PEnv.push, List.cons_append, List.nil_append, List.append_nil, SV.pvs, SV.pv, BE.all, Bool.and_self, Bool.not_true, Bool.not_false, List.map_cons, List.map_nil, l1, l2, ltB_nat, hd, retP, or_true, eligF, List.foldl_nil]
    | succ d ih =>
      intro k hk fuel a
      have hlt : k < l.length := by omega
      obtain ⟨x, hx⟩ := get_ex hlt
      have hd : decide (k < l.length) = true := decide_eq_true hlt
      have h0 := rows_get (off := 6) hL (rows_chs hx)
      have hup := up_ok (show k ≤ 1000000000 by omega)
      have c2 := rpoints_sem σ s hs x.w n (by omega)
      simp only [n_saleroomref37_points, St.pv, W6.pv] at c2
      have ih := ih (k + 1) (by omega) fuel (mnI a (ptsV s.ps x.w))
      rw [nat_succ] at ih
      rw [drop_cons hx, show eligF s.ps (x :: l.drop (k + 1)) a = eligF s.ps (l.drop (k + 1)) (mnI a (ptsV s.ps x.w)) from rfl, ← ih, show fuel + (d + 1) + 1 = (fuel + d + 1) + 1 from rfl, Sys.loop, show saleroomref37_Eligibility_S.loops[0]? = some saleroomref37_Eligibility_t0 from rfl]
      simp -implicitDefEqProofs only [Option.bind_some, saleroomref37_Eligibility_t0, ↓reduceIte, eq_self, evb_ret, evb_ite, evb_need, evb_load, evb_app, evb_cut, evb_scut, evb_chk, evb_appF, evb_call, evb_callv, evb_newM, evb_mkM, evb_storeM, evb_appM, evb_mkMap, evb_mapGet, evb_mapSet, evb_mapClr, evb_jump, BE.safe, BE.pe, IE.pe, PEnv.at, List.getD_cons_zero, List.getD_cons_succ, List.getElem?_cons_zero, List.getElem?_cons_succ, locOf, locOn, readLoc, takeN, Nat.add_zero, List.drop_zero, List.length_cons, List.length_nil, Nat.reduceAdd, Nat.le_refl, if_true, if_false, Bool.false_eq_true, List.take_succ_cons, List.take_zero, bindK, bindRes, bind1, Option.map_some, Option.bind_some, PEnv.push, List.cons_append, List.nil_append, List.append_nil, SV.pvs, SV.pv, BE.all, Bool.and_self, Bool.not_true, Bool.not_false, List.map_cons, List.map_nil, l1, l2, ltB_nat, hd, le0, h0, row_eq, drop6, c2, if_pos hup]
  simp only [evalF, tab_saleroomref37_Eligibility, Option.bind_some, Sys.run, St.pv]
  show ((bindPs [.sh (.agg [_, _, _, _]), .sh (.one _), .sh (.one _)] _).bind _) = _
  simp -implicitDefEqProofs only [bindPs, bind1, bindK, Option.map_some, Option.bind_some, List.append_nil, List.nil_append, List.cons_append, if_true, p3, b3, l3, hs.C, hs.A]
  show (PT.ev _ saleroomref37_Eligibility_s _).bind _ = _
  simp -implicitDefEqProofs only [saleroomref37_Eligibility_s, ↓reduceIte, eq_self, evb_ret, evb_ite, evb_need, evb_load, evb_app, evb_cut, evb_scut, evb_chk, evb_appF, evb_call, evb_callv, evb_newM, evb_mkM, evb_storeM, evb_appM, evb_mkMap, evb_mapGet, evb_mapSet, evb_mapClr, evb_jump, BE.safe, BE.pe, IE.pe, PEnv.at, List.getD_cons_zero, List.getD_cons_succ, List.getElem?_cons_zero, List.getElem?_cons_succ, locOf, locOn, readLoc, takeN, Nat.add_zero, List.drop_zero, List.length_cons, List.length_nil, Nat.reduceAdd, Nat.le_refl, if_true, if_false, Bool.false_eq_true, List.take_succ_cons, List.take_zero, bindK, bindRes, bind1, Option.map_some, Option.bind_some, PEnv.push, List.cons_append, List.nil_append, List.append_nil, SV.pvs, SV.pv, BE.all, Bool.and_self, Bool.not_true, Bool.not_false, List.map_cons, List.map_nil, c1, eligV]
  cases hh : hasB s i with
  | false => simp -implicitDefEqProofs only [↓reduceIte, eq_self, evb_ret, evb_ite, evb_need, evb_load, evb_app, evb_cut, evb_scut, evb_chk, evb_appF, evb_call, evb_callv, evb_newM, evb_mkM, evb_storeM, evb_appM, evb_mkMap, evb_mapGet, evb_mapSet, evb_mapClr, evb_jump, BE.safe, BE.pe, IE.pe, PEnv.at, List.getD_cons_zero, List.getD_cons_succ, List.getElem?_cons_zero, List.getElem?_cons_succ, locOf, locOn, readLoc, takeN, Nat.add_zero, List.drop_zero, List.length_cons, List.length_nil, Nat.reduceAdd, Nat.le_refl, if_true, if_false, Bool.false_eq_true, List.take_succ_cons, List.take_zero, bindK, bindRes, bind1, Option.map_some, Option.bind_some, PEnv.push, List.cons_append, List.nil_append, List.append_nil, SV.pvs, SV.pv, BE.all, Bool.and_self, Bool.not_true, Bool.not_false, List.map_cons, List.map_nil, retP, or_true]
  | true =>
    obtain ⟨k, rfl, hk, hkn⟩ := has_get hh
    obtain ⟨b, hb⟩ := get_ex hk
    have hloc := rows_get (off := 3) hs.B (rows_bds hb)
    have hd : decide (k < s.bs.length) = true := decide_eq_true hk
    have dr : ∀ a b c d : PV, List.drop 3 [a, b, c, d] = [d] := fun _ _ _ _ => rfl
    have := loop l.length 0 (by omega) (n - l.length - 1) b.p
    rw [show n - l.length - 1 + l.length + 1 = n by omega, List.drop_zero] at this
    rw [hkn, hb]
    simp -implicitDefEqProofs only [↓reduceIte, eq_self, evb_ret, evb_ite, evb_need, evb_load, evb_app, evb_cut, evb_scut, evb_chk, evb_appF, evb_call, evb_callv, evb_newM, evb_mkM, evb_storeM, evb_appM, evb_mkMap, evb_mapGet, evb_mapSet, evb_mapClr, evb_jump, BE.safe, BE.pe, IE.pe, PEnv.at, List.getD_cons_zero, List.getD_cons_succ, List.getElem?_cons_zero, List.getElem?_cons_succ, locOf, locOn, readLoc, takeN, Nat.add_zero, List.drop_zero, List.length_cons, List.length_nil, Nat.reduceAdd, Nat.le_refl, if_true, if_false, Bool.false_eq_true, List.take_succ_cons, List.take_zero, bindK, bindRes, bind1, Option.map_some, Option.bind_some, PEnv.push, List.cons_append, List.nil_append, List.append_nil, SV.pvs, SV.pv, BE.all, Bool.and_self, Bool.not_true, Bool.not_false, List.map_cons, List.map_nil, b1, ltB_nat, hd, le0, hloc, bd_row, dr, Option.getD_some]
    exact this
def emptyB (w : W6) : Bool := eqB w.a 0 && (eqB w.b 0 && (eqB w.c 0 && (eqB w.d 0 && (eqB w.e 0 && eqB w.f 0))))
def exitB (l : List Ch) : Bool := match l.getLast? with | some x => emptyB x.w | none => false
theorem activity_Exited_sem (σ : List MO) (l : List Ch) (L : PV) (hL : L.rowsOf 12 = some (l.map Ch.row)) (hl : l.length ≤ 1000) (n : Nat) (hn : 1 ≤ n) : evalF Tab n n_activity_Exited [L] σ = some (.bool (exitB l), σ) := by
  obtain ⟨n, rfl⟩ : ∃ k, n = k + 1 := ⟨n - 1, by omega⟩
  obtain ⟨l1, l2, l3⟩ := rows_len hL
  rw [List.length_map] at l1
  simp only [evalF, tab_activity_Exited, Option.bind_some, Sys.run]
  show ((bindPs [.sh (.one _)] _).bind _) = _
  simp -implicitDefEqProofs only [bindPs, bind1, bindK, Option.map_some, Option.bind_some, List.append_nil, List.nil_append, List.cons_append, if_true, l3]
  show (PT.ev _ activity_Exited_s _).bind _ = _
  simp -implicitDefEqProofs only [activity_Exited_s, ↓reduceIte, eq_self, evb_ret, evb_ite, evb_need, evb_load, evb_app, evb_cut, evb_scut, evb_chk, evb_appF, evb_call, evb_callv, evb_newM, evb_mkM, evb_storeM, evb_appM, evb_mkMap, evb_mapGet, evb_mapSet, evb_mapClr, evb_jump, BE.safe, BE.pe, IE.pe, PEnv.at, List.getD_cons_zero, List.getD_cons_succ, List.getElem?_cons_zero, List.getElem?_cons_succ, locOf, locOn, readLoc, takeN, Nat.add_zero, List.drop_zero, List.length_cons, List.length_nil, Nat.reduceAdd, Nat.le_refl, if_true, if_false, Bool.false_eq_true, List.take_succ_cons, List.take_zero, bindK, bindRes, bind1, Option.map_some, Option.bind_some, PEnv.push, List.cons_append, List.nil_append, List.append_nil, SV.pvs, SV.pv, BE.all, Bool.and_self, Bool.not_true, Bool.not_false, List.map_cons, List.map_nil, l1, l2]
  by_cases h0 : l.length = 0
  · have hn : l = [] := List.length_eq_zero_iff.1 h0
    subst hn
    have h1 : ltB 0 (([] : List Ch).length : Int) = false := rfl
    rw [h1]
    simp -implicitDefEqProofs only [↓reduceIte, eq_self, evb_ret, evb_ite, evb_need, evb_load, evb_app, evb_cut, evb_scut, evb_chk, evb_appF, evb_call, evb_callv, evb_newM, evb_mkM, evb_storeM, evb_appM, evb_mkMap, evb_mapGet, evb_mapSet, evb_mapClr, evb_jump, BE.safe, BE.pe, IE.pe, PEnv.at, List.getD_cons_zero, List.getD_cons_succ, List.getElem?_cons_zero, List.getElem?_cons_succ, locOf, locOn, readLoc, takeN, Nat.add_zero, List.drop_zero, List.length_cons, List.length_nil, Nat.reduceAdd, Nat.le_refl, if_true, if_false, Bool.false_eq_true, List.take_succ_cons, List.take_zero, bindK, bindRes, bind1, Option.map_some, Option.bind_some, PEnv.push, List.cons_append, List.nil_append, List.append_nil, SV.pvs, SV.pv, BE.all, Bool.and_self, Bool.not_true, Bool.not_false, List.map_cons, List.map_nil, retP, or_true]
    rfl
  · have h1 : ltB 0 (l.length : Int) = true := by rw [ltB_true]; omega
    obtain ⟨x, hx⟩ := get_ex (show l.length - 1 < l.length by omega)
    have h2 := rows_get (off := 6) hL (rows_chs hx)
    have e : ((l.length - 1 : Nat) : Int) = (l.length : Int) - 1 := by omega
    rw [e] at h2
    have h4 : leB 0 ((l.length : Int) - 1) = true := by rw [leB_true]; omega
    have h5 : ltB ((l.length : Int) - 1) (l.length : Int) = true := by rw [ltB_true]; omega
    have h6 : exitB l = emptyB x.w := by unfold exitB; rw [List.getLast?_eq_getElem?, hx]
    rw [h1, h6]
    simp -implicitDefEqProofs only [↓reduceIte, eq_self, evb_ret, evb_ite, evb_need, evb_load, evb_app, evb_cut, evb_scut, evb_chk, evb_appF, evb_call, evb_callv, evb_newM, evb_mkM, evb_storeM, evb_appM, evb_mkMap, evb_mapGet, evb_mapSet, evb_mapClr, evb_jump, BE.safe, BE.pe, IE.pe, PEnv.at, List.getD_cons_zero, List.getD_cons_succ, List.getElem?_cons_zero, List.getElem?_cons_succ, locOf, locOn, readLoc, takeN, Nat.add_zero, List.drop_zero, List.length_cons, List.length_nil, Nat.reduceAdd, Nat.le_refl, if_true, if_false, Bool.false_eq_true, List.take_succ_cons, List.take_zero, bindK, bindRes, bind1, Option.map_some, Option.bind_some, PEnv.push, List.cons_append, List.nil_append, List.append_nil, SV.pvs, SV.pv, BE.all, Bool.and_self, Bool.not_true, Bool.not_false, List.map_cons, List.map_nil, l1, l2, if_pos (i64_ok (z := (l.length : Int) - 1) (by omega)), h4, h5, h2, row_eq, drop6, retP, or_true, emptyB]
theorem saleroomref37_Exited_sem (σ : List MO) (l : List Ch) (L : PV) (hL : L.rowsOf 12 = some (l.map Ch.row)) (hl : l.length ≤ 1000) (n : Nat) (hn : 1 ≤ n) : evalF Tab n n_saleroomref37_Exited [L] σ = some (.bool (exitB l), σ) := by
  obtain ⟨n, rfl⟩ : ∃ k, n = k + 1 := ⟨n - 1, by omega⟩
  obtain ⟨l1, l2, l3⟩ := rows_len hL
  rw [List.length_map] at l1
  simp only [evalF, tab_saleroomref37_Exited, Option.bind_some, Sys.run]
  show ((bindPs [.sh (.one _)] _).bind _) = _
  simp -implicitDefEqProofs only [bindPs, bind1, bindK, Option.map_some, Option.bind_some, List.append_nil, List.nil_append, List.cons_append, if_true, l3]
  show (PT.ev _ saleroomref37_Exited_s _).bind _ = _
  simp -implicitDefEqProofs only [saleroomref37_Exited_s, ↓reduceIte, eq_self, evb_ret, evb_ite, evb_need, evb_load, evb_app, evb_cut, evb_scut, evb_chk, evb_appF, evb_call, evb_callv, evb_newM, evb_mkM, evb_storeM, evb_appM, evb_mkMap, evb_mapGet, evb_mapSet, evb_mapClr, evb_jump, BE.safe, BE.pe, IE.pe, PEnv.at, List.getD_cons_zero, List.getD_cons_succ, List.getElem?_cons_zero, List.getElem?_cons_succ, locOf, locOn, readLoc, takeN, Nat.add_zero, List.drop_zero, List.length_cons, List.length_nil, Nat.reduceAdd, Nat.le_refl, if_true, if_false, Bool.false_eq_true, List.take_succ_cons, List.take_zero, bindK, bindRes, bind1, Option.map_some, Option.bind_some, PEnv.push, List.cons_append, List.nil_append, List.append_nil, SV.pvs, SV.pv, BE.all, Bool.and_self, Bool.not_true, Bool.not_false, List.map_cons, List.map_nil, l1, l2]
  by_cases h0 : l.length = 0
  · have hn : l = [] := List.length_eq_zero_iff.1 h0
    subst hn
    have h1 : ltB 0 (([] : List Ch).length : Int) = false := rfl
    rw [h1]
    simp -implicitDefEqProofs only [↓reduceIte, eq_self, evb_ret, evb_ite, evb_need, evb_load, evb_app, evb_cut, evb_scut, evb_chk, evb_appF, evb_call, evb_callv, evb_newM, evb_mkM, evb_storeM, evb_appM, evb_mkMap, evb_mapGet, evb_mapSet, evb_mapClr, evb_jump, BE.safe, BE.pe, IE.pe, PEnv.at, List.getD_cons_zero, List.getD_cons_succ, List.getElem?_cons_zero, List.getElem?_cons_succ, locOf, locOn, readLoc, takeN, Nat.add_zero, List.drop_zero, List.length_cons, List.length_nil, Nat.reduceAdd, Nat.le_refl, if_true, if_false, Bool.false_eq_true, List.take_succ_cons, List.take_zero, bindK, bindRes, bind1, Option.map_some, Option.bind_some, PEnv.push, List.cons_append, List.nil_append, List.append_nil, SV.pvs, SV.pv, BE.all, Bool.and_self, Bool.not_true, Bool.not_false, List.map_cons, List.map_nil, retP, or_true]
    rfl
  · have h1 : ltB 0 (l.length : Int) = true := by rw [ltB_true]; omega
    obtain ⟨x, hx⟩ := get_ex (show l.length - 1 < l.length by omega)
    have h2 := rows_get (off := 6) hL (rows_chs hx)
    have e : ((l.length - 1 : Nat) : Int) = (l.length : Int) - 1 := by omega
    rw [e] at h2
    have h4 : leB 0 ((l.length : Int) - 1) = true := by rw [leB_true]; omega
    have h5 : ltB ((l.length : Int) - 1) (l.length : Int) = true := by rw [ltB_true]; omega
    have h6 : exitB l = emptyB x.w := by unfold exitB; rw [List.getLast?_eq_getElem?, hx]
    rw [h1, h6]
    simp -implicitDefEqProofs only [↓reduceIte, eq_self, evb_ret, evb_ite, evb_need, evb_load, evb_app, evb_cut, evb_scut, evb_chk, evb_appF, evb_call, evb_callv, evb_newM, evb_mkM, evb_storeM, evb_appM, evb_mkMap, evb_mapGet, evb_mapSet, evb_mapClr, evb_jump, BE.safe, BE.pe, IE.pe, PEnv.at, List.getD_cons_zero, List.getD_cons_succ, List.getElem?_cons_zero, List.getElem?_cons_succ, locOf, locOn, readLoc, takeN, Nat.add_zero, List.drop_zero, List.length_cons, List.length_nil, Nat.reduceAdd, Nat.le_refl, if_true, if_false, Bool.false_eq_true, List.take_succ_cons, List.take_zero, bindK, bindRes, bind1, Option.map_some, Option.bind_some, PEnv.push, List.cons_append, List.nil_append, List.append_nil, SV.pvs, SV.pv, BE.all, Bool.and_self, Bool.not_true, Bool.not_false, List.map_cons, List.map_nil, l1, l2, if_pos (i64_ok (z := (l.length : Int) - 1) (by omega)), h4, h5, h2, row_eq, drop6, retP, or_true, emptyB]
end Go.Proofs.Ythjahianafohjaa
