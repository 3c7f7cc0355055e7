/- The examples of the chapter on activity. -/
import Derived.Test.YthjahianafohjaaHSac
import Derived.Test.YthjahianafohjaaHTxd
import Derived.Test.YthjahianafohjaaHRva
import Derived.Test.YthjahianafohjaaHGx
set_option linter.unusedSimpArgs false
set_option linter.unusedVariables false
set_option maxRecDepth 100000
namespace Go.Proofs.Ythjahianafohjaa
open Go.Sx
theorem awake37 : evalF Tab 40000 n_saleroomlaw37_awake [] [] = some (.bool true, []) := by kernel_rfl
end Go.Proofs.Ythjahianafohjaa
set_option maxRecDepth 100000
namespace Go.Proofs.Ythjahianafohjaa
open Go.Sx
/-- A product. -/
structure Pr where
  (nm : List UInt8) (s r p g : Int)
def Pr.row (x : Pr) : List PV := [.str x.nm, .int .i64 x.s, .int .i64 x.r, .int .i64 x.p, .int .i64 x.g]
/-- A bidder. -/
structure Bd where
  (nm : List UInt8) (c b p : Int)
def Bd.row (x : Bd) : List PV := [.str x.nm, .int .i64 x.c, .int .i64 x.b, .int .i64 x.p]
theorem pr_row (x : Pr) : x.row = [.str x.nm, .int .i64 x.s, .int .i64 x.r, .int .i64 x.p, .int .i64 x.g] := rfl
theorem bd_row (x : Bd) : x.row = [.str x.nm, .int .i64 x.c, .int .i64 x.b, .int .i64 x.p] := rfl
theorem shaped_Pr {n : Nat} {ps : List PV} (h : Shaped Try.prog n 90 ps) : ∃ x : Pr, ps = x.row := by
  obtain ⟨m, _, h⟩ := shaped_struct Try.underlying90 h
  simp only [List.map_cons, List.map_nil, Shapeds] at h
  obtain ⟨_, _, rfl, h1, _, _, rfl, h2, _, _, rfl, h3, _, _, rfl, h4, _, _, rfl, h5, rfl⟩ := h
  obtain ⟨a, rfl⟩ := shaped_str (by kernel_rfl) h1
  obtain ⟨b, rfl, _⟩ := shaped_int (k := .i64) (by kernel_rfl) h2
  obtain ⟨c, rfl, _⟩ := shaped_int (k := .i64) (by kernel_rfl) h3
  obtain ⟨d, rfl, _⟩ := shaped_int (k := .i64) (by kernel_rfl) h4
  obtain ⟨e, rfl, _⟩ := shaped_int (k := .i64) (by kernel_rfl) h5
  exact ⟨⟨a, b, c, d, e⟩, rfl⟩
theorem shaped_Bd {n : Nat} {ps : List PV} (h : Shaped Try.prog n 66 ps) : ∃ x : Bd, ps = x.row ∧ loI .i64 ≤ x.b ∧ x.b ≤ hiI .i64 ∧ loI .i64 ≤ x.p ∧ x.p ≤ hiI .i64 := by
  obtain ⟨m, _, h⟩ := shaped_struct Try.underlying66 h
  simp only [List.map_cons, List.map_nil, Shapeds] at h
  obtain ⟨_, _, rfl, h1, _, _, rfl, h2, _, _, rfl, h3, _, _, rfl, h4, rfl⟩ := h
  obtain ⟨a, rfl⟩ := shaped_str (by kernel_rfl) h1
  obtain ⟨b, rfl, _⟩ := shaped_int (k := .i64) (by kernel_rfl) h2
  obtain ⟨c, rfl, c1, c2⟩ := shaped_int (k := .i64) (by kernel_rfl) h3
  obtain ⟨d, rfl, d1, d2⟩ := shaped_int (k := .i64) (by kernel_rfl) h4
  exact ⟨⟨a, b, c, d⟩, rfl, c1, c2, d1, d2⟩
theorem shaped_rows {α : Type} {row : α → List PV} {P : Program} {n : Nat} {t : TypeId} (h1 : ∀ ps, Shaped P n t ps → ∃ x : α, ps = row x) : ∀ (rows : List (List PV)), (∀ r ∈ rows, Shaped P n t r) → ∃ l : List α, rows = l.map row
  | [], _ => ⟨[], rfl⟩
  | r :: rows, h => by
    obtain ⟨x, rfl⟩ := h1 r (h r (by simp))
    obtain ⟨l, rfl⟩ := shaped_rows h1 rows (fun q hq => h q (by simp [hq]))
    exact ⟨x :: l, rfl⟩
/-- A setup. -/
structure St where
  (ps : List Pr) (bs : List Bd) (P B C A : PV)
structure St.Ok (s : St) : Prop where
  P : s.P.rowsOf 5 = some (s.ps.map Pr.row)
  B : s.B.rowsOf 4 = some (s.bs.map Bd.row)
  C : s.C.one = true
  A : s.A.one = true
def St.pv (s : St) : List PV := [s.P, s.B, s.C, s.A]
theorem shaped_St {n : Nat} {ps : List PV} (h : Shaped Try.prog n 53 ps) : ∃ s : St, ps = s.pv ∧ s.Ok ∧ s.P = .sl 5 (s.ps.map Pr.row) ∧ s.B = .sl 4 (s.bs.map Bd.row) := by
  obtain ⟨m, _, h⟩ := shaped_struct Try.underlying53 h
  simp only [List.map_cons, List.map_nil, Shapeds] at h
  obtain ⟨_, _, rfl, h1, _, _, rfl, h2, _, _, rfl, h3, _, _, rfl, h4, rfl⟩ := h
  obtain ⟨m1, r1, _, rfl, g1⟩ := shaped_slice (e := 90) (by kernel_rfl) h1
  obtain ⟨m2, r2, _, rfl, g2⟩ := shaped_slice (e := 66) (by kernel_rfl) h2
  obtain ⟨m3, r3, _, rfl, g3⟩ := shaped_slice (e := 140) (by kernel_rfl) h3
  obtain ⟨m4, r4, _, rfl, g4⟩ := shaped_slice (e := 142) (by kernel_rfl) h4
  obtain ⟨l1, rfl⟩ := shaped_rows (row := Pr.row) (fun ps h => shaped_Pr h) r1 g1
  obtain ⟨l2, rfl⟩ := shaped_rows (row := Bd.row) (fun ps h => (shaped_Bd h).imp fun _ h => h.1) r2 g2
  rw [show Try.prog.cellsOf 90 = 5 by kernel_rfl, show Try.prog.cellsOf 66 = 4 by kernel_rfl]
  exact ⟨⟨l1, l2, _, _, _, _⟩, rfl, ⟨sl_rows _ _, sl_rows _ _, rfl, rfl⟩, rfl, rfl⟩
def fewB (s : St) : Bool := leB (s.ps.length : Int) 8 && leB (s.bs.length : Int) 10
theorem few_sem (σ : List MO) (s : St) (hs : s.Ok) (n : Nat) (hn : 1 ≤ n) : evalF Tab n n_saleroomlaw37_few [.agg s.pv] σ = some (.bool (fewB s), σ) := by
  obtain ⟨n, rfl⟩ : ∃ k, n = k + 1 := ⟨n - 1, by omega⟩
  obtain ⟨p1, p2, p3⟩ := rows_len hs.P
  obtain ⟨b1, b2, b3⟩ := rows_len hs.B
  rw [List.length_map] at p1 b1
  simp only [evalF, tab_saleroomlaw37_few, Option.bind_some, Sys.run, St.pv]
  show ((bindPs [.sh (.agg [_, _, _, _])] _).bind _) = _
  simp -implicitDefEqProofs only [bindPs, bind1, bindK, Option.map_some, Option.bind_some, List.append_nil, List.nil_append, List.cons_append, if_true, p3, b3, hs.C, hs.A]
  show (PT.ev _ saleroomlaw37_few_s _).bind _ = _
  simp -implicitDefEqProofs only [saleroomlaw37_few_s, ↓reduceIte, eq_self, evb_ret, evb_ite, evb_need, evb_load, evb_app, evb_cut, evb_scut, evb_chk, evb_appF, evb_call, evb_callv, evb_newM, evb_mkM, evb_storeM, evb_appM, evb_mkMap, evb_mapGet, evb_mapSet, evb_mapClr, evb_jump, BE.safe, BE.pe, IE.pe, PEnv.at, List.getD_cons_zero, List.getD_cons_succ, List.getElem?_cons_zero, List.getElem?_cons_succ, locOf, locOn, readLoc, takeN, Nat.add_zero, List.drop_zero, List.length_cons, List.length_nil, Nat.reduceAdd, Nat.le_refl, if_true, if_false, Bool.false_eq_true, List.take_succ_cons, List.take_zero, bindK, bindRes, bind1, Option.map_some, Option.bind_some, PEnv.push, List.cons_append, List.nil_append, List.append_nil, SV.pvs, SV.pv, BE.all, Bool.and_self, Bool.not_true, Bool.not_false, List.map_cons, List.map_nil, p1, p2, b1, b2, retP, or_true, fewB]
  cases leB (s.ps.length : Int) 8 <;> simp -implicitDefEqProofs only [↓reduceIte, eq_self, evb_ret, evb_ite, evb_need, evb_load, evb_app, evb_cut, evb_scut, evb_chk, evb_appF, evb_call, evb_callv, evb_newM, evb_mkM, evb_storeM, evb_appM, evb_mkMap, evb_mapGet, evb_mapSet, evb_mapClr, evb_jump, BE.safe, BE.pe, IE.pe, PEnv.at, List.getD_cons_zero, List.getD_cons_succ, List.getElem?_cons_zero, List.getElem?_cons_succ, locOf, locOn, readLoc, takeN, Nat.add_zero, List.drop_zero, List.length_cons, List.length_nil, Nat.reduceAdd, Nat.le_refl, if_true, if_false, Bool.false_eq_true, List.take_succ_cons, List.take_zero, bindK, bindRes, bind1, Option.map_some, Option.bind_some, PEnv.push, List.cons_append, List.nil_append, List.append_nil, SV.pvs, SV.pv, BE.all, Bool.and_self, Bool.not_true, Bool.not_false, List.map_cons, List.map_nil, b1, b2, retP, or_true, Bool.true_and, Bool.false_and]
def hasB (s : St) (i : Int) : Bool := leB 0 i && ltB i (s.bs.length : Int)
theorem activity_has_sem (σ : List MO) (s : St) (hs : s.Ok) (i : Int) (n : Nat) (hn : 1 ≤ n) : evalF Tab n n_activity_has [.agg s.pv, .int .i64 i] σ = some (.bool (hasB s i), σ) := by
  obtain ⟨n, rfl⟩ : ∃ k, n = k + 1 := ⟨n - 1, by omega⟩
  obtain ⟨p1, p2, p3⟩ := rows_len hs.P
  obtain ⟨b1, b2, b3⟩ := rows_len hs.B
  rw [List.length_map] at p1 b1
  simp only [evalF, tab_activity_has, Option.bind_some, Sys.run, St.pv]
  show ((bindPs [.sh (.agg [_, _, _, _]), .sh (.one _)] _).bind _) = _
  simp -implicitDefEqProofs only [bindPs, bind1, bindK, Option.map_some, Option.bind_some, List.append_nil, List.nil_append, List.cons_append, if_true, p3, b3, hs.C, hs.A]
  show (PT.ev _ activity_has_s _).bind _ = _
  simp -implicitDefEqProofs only [activity_has_s, ↓reduceIte, eq_self, evb_ret, evb_ite, evb_need, evb_load, evb_app, evb_cut, evb_scut, evb_chk, evb_appF, evb_call, evb_callv, evb_newM, evb_mkM, evb_storeM, evb_appM, evb_mkMap, evb_mapGet, evb_mapSet, evb_mapClr, evb_jump, BE.safe, BE.pe, IE.pe, PEnv.at, List.getD_cons_zero, List.getD_cons_succ, List.getElem?_cons_zero, List.getElem?_cons_succ, locOf, locOn, readLoc, takeN, Nat.add_zero, List.drop_zero, List.length_cons, List.length_nil, Nat.reduceAdd, Nat.le_refl, if_true, if_false, Bool.false_eq_true, List.take_succ_cons, List.take_zero, bindK, bindRes, bind1, Option.map_some, Option.bind_some, PEnv.push, List.cons_append, List.nil_append, List.append_nil, SV.pvs, SV.pv, BE.all, Bool.and_self, Bool.not_true, Bool.not_false, List.map_cons, List.map_nil, b1, b2, retP, or_true, hasB]
  cases leB 0 i <;> simp -implicitDefEqProofs only [↓reduceIte, eq_self, evb_ret, evb_ite, evb_need, evb_load, evb_app, evb_cut, evb_scut, evb_chk, evb_appF, evb_call, evb_callv, evb_newM, evb_mkM, evb_storeM, evb_appM, evb_mkMap, evb_mapGet, evb_mapSet, evb_mapClr, evb_jump, BE.safe, BE.pe, IE.pe, PEnv.at, List.getD_cons_zero, List.getD_cons_succ, List.getElem?_cons_zero, List.getElem?_cons_succ, locOf, locOn, readLoc, takeN, Nat.add_zero, List.drop_zero, List.length_cons, List.length_nil, Nat.reduceAdd, Nat.le_refl, if_true, if_false, Bool.false_eq_true, List.take_succ_cons, List.take_zero, bindK, bindRes, bind1, Option.map_some, Option.bind_some, PEnv.push, List.cons_append, List.nil_append, List.append_nil, SV.pvs, SV.pv, BE.all, Bool.and_self, Bool.not_true, Bool.not_false, List.map_cons, List.map_nil, b1, b2, retP, or_true, Bool.true_and, Bool.false_and]
theorem saleroomref37_bidder_sem (σ : List MO) (s : St) (hs : s.Ok) (i : Int) (n : Nat) (hn : 1 ≤ n) : evalF Tab n n_saleroomref37_bidder [.agg s.pv, .int .i64 i] σ = some (.bool (hasB s i), σ) := by
  obtain ⟨n, rfl⟩ : ∃ k, n = k + 1 := ⟨n - 1, by omega⟩
  obtain ⟨p1, p2, p3⟩ := rows_len hs.P
  obtain ⟨b1, b2, b3⟩ := rows_len hs.B
  rw [List.length_map] at p1 b1
  simp only [evalF, tab_saleroomref37_bidder, Option.bind_some, Sys.run, St.pv]
  show ((bindPs [.sh (.agg [_, _, _, _]), .sh (.one _)] _).bind _) = _
  simp -implicitDefEqProofs only [bindPs, bind1, bindK, Option.map_some, Option.bind_some, List.append_nil, List.nil_append, List.cons_append, if_true, p3, b3, hs.C, hs.A]
  show (PT.ev _ saleroomref37_bidder_s _).bind _ = _
  simp -implicitDefEqProofs only [saleroomref37_bidder_s, ↓reduceIte, eq_self, evb_ret, evb_ite, evb_need, evb_load, evb_app, evb_cut, evb_scut, evb_chk, evb_appF, evb_call, evb_callv, evb_newM, evb_mkM, evb_storeM, evb_appM, evb_mkMap, evb_mapGet, evb_mapSet, evb_mapClr, evb_jump, BE.safe, BE.pe, IE.pe, PEnv.at, List.getD_cons_zero, List.getD_cons_succ, List.getElem?_cons_zero, List.getElem?_cons_succ, locOf, locOn, readLoc, takeN, Nat.add_zero, List.drop_zero, List.length_cons, List.length_nil, Nat.reduceAdd, Nat.le_refl, if_true, if_false, Bool.false_eq_true, List.take_succ_cons, List.take_zero, bindK, bindRes, bind1, Option.map_some, Option.bind_some, PEnv.push, List.cons_append, List.nil_append, List.append_nil, SV.pvs, SV.pv, BE.all, Bool.and_self, Bool.not_true, Bool.not_false, List.map_cons, List.map_nil, b1, b2, retP, or_true, hasB]
  cases leB 0 i <;> simp -implicitDefEqProofs only [↓reduceIte, eq_self, evb_ret, evb_ite, evb_need, evb_load, evb_app, evb_cut, evb_scut, evb_chk, evb_appF, evb_call, evb_callv, evb_newM, evb_mkM, evb_storeM, evb_appM, evb_mkMap, evb_mapGet, evb_mapSet, evb_mapClr, evb_jump, BE.safe, BE.pe, IE.pe, PEnv.at, List.getD_cons_zero, List.getD_cons_succ, List.getElem?_cons_zero, List.getElem?_cons_succ, locOf, locOn, readLoc, takeN, Nat.add_zero, List.drop_zero, List.length_cons, List.length_nil, Nat.reduceAdd, Nat.le_refl, if_true, if_false, Bool.false_eq_true, List.take_succ_cons, List.take_zero, bindK, bindRes, bind1, Option.map_some, Option.bind_some, PEnv.push, List.cons_append, List.nil_append, List.append_nil, SV.pvs, SV.pv, BE.all, Bool.and_self, Bool.not_true, Bool.not_false, List.map_cons, List.map_nil, b1, b2, retP, or_true, Bool.true_and, Bool.false_and]
theorem rcost37_sem (σ : List MO) (p w : W6) (hp : p.pok) (hw : w.ok) (n : Nat) (hn : 1 ≤ n) : evalF Tab n n_saleroomref37_cost [.agg p.pv, .agg w.pv] σ = some (.int .i64 (costW p w), σ) := by
  obtain ⟨n, rfl⟩ : ∃ k, n = k + 1 := ⟨n - 1, by omega⟩
  simp only [evalF, tab_saleroomref37_cost, Option.bind_some, Sys.run, W6.pv]
  show ((bindPs [.sh (.agg [_, _, _, _, _, _]), .sh (.agg [_, _, _, _, _, _])] _).bind _) = _
  simp only [bindPs, bind1, bindK, Option.map_some, Option.bind_some, List.append_nil, List.nil_append, List.cons_append, if_true]
  show (PT.ev _ saleroomref37_cost_s _).bind _ = _
  obtain ⟨b0, b1, b2, b3, b4, b5⟩ := cost_bounds hp hw
  obtain ⟨a, b, c, d, e, f⟩ := p
  obtain ⟨a', b', c', d', e', f'⟩ := w
  simp only at b0 b1 b2 b3 b4 b5
  simp -implicitDefEqProofs only [saleroomref37_cost_s, ↓reduceIte, eq_self, PT.ev, BE.safe, BE.pe, IE.pe, PEnv.at, List.getD_cons_zero, List.getD_cons_succ, List.getElem?_cons_zero, List.getElem?_cons_succ, locOf, locOn, readLoc, takeN, Nat.add_zero, List.drop_zero, List.length_cons, List.length_nil, Nat.reduceAdd, Nat.le_refl, if_true, if_false, Bool.false_eq_true, List.take_succ_cons, List.take_zero, bindK, bindRes, bind1, Option.map_some, Option.bind_some, PEnv.push, List.cons_append, List.nil_append, List.append_nil, SV.pvs, SV.pv, BE.all, Bool.and_self, Bool.not_true, Bool.not_false, List.map_cons, List.map_nil, retP, or_true, Bool.and_eq_true, leB_true, costW]
  generalize a * a' = x0 at *
  generalize b * b' = x1 at *
  generalize c * c' = x2 at *
  generalize d * d' = x3 at *
  generalize e * e' = x4 at *
  generalize f * f' = x5 at *
  repeat rw [if_pos (by omega)]
  rfl
/-- What Affordable answers. -/
def affV (s : St) (i : Int) (x : Ch) : Int := if hasB s i = true then (match s.bs[i.toNat]? with | some b => if eqB b.b 0 = true then 0 else if ltB b.b (costW x.p x.w) = true then 17 else 0 | none => 0) else 6
theorem has_get {s : St} {i : Int} (h : hasB s i = true) : ∃ k : Nat, i = (k : Int) ∧ k < s.bs.length ∧ i.toNat = k := by
  simp only [hasB, Bool.and_eq_true, leB_true, ltB_true] at h
  exact ⟨i.toNat, by omega, by omega, rfl⟩
theorem rows_bds {l : List Bd} {i : Nat} {x : Bd} (h : l[i]? = some x) : (l.map Bd.row)[i]? = some x.row := by simp [h]
theorem activity_Affordable_sem (σ : List MO) (s : St) (hs : s.Ok) (i : Int) (x : Ch) (hx : x.ok) (n : Nat) (hn : 1 ≤ n) (hc : evalF Tab n n_bundle_Cost [.agg x.p.pv, .agg x.w.pv] σ = some (.int .i64 (costW x.p x.w), σ)) : evalF Tab (n + 1) n_activity_Affordable [.agg s.pv, .int .i64 i, .agg x.row] σ = some (.int .i64 (affV s i x), σ) := by
  obtain ⟨p1, p2, p3⟩ := rows_len hs.P
  obtain ⟨b1, b2, b3⟩ := rows_len hs.B
  rw [List.length_map] at p1 b1
  have c1 := activity_has_sem σ s hs i n hn
  simp only [n_activity_has, n_bundle_Cost, St.pv, W6.pv] at c1 hc
  rw [evalF]
  simp only [tab_activity_Affordable, Option.bind_some, Sys.run, St.pv, row_eq]
  show ((bindPs [.sh (.agg [_, _, _, _]), .sh (.one _), .sh (.agg [_, _, _, _, _, _, _, _, _, _, _, _])] _).bind _) = _
  simp -implicitDefEqProofs only [bindPs, bind1, bindK, Option.map_some, Option.bind_some, List.append_nil, List.nil_append, List.cons_append, if_true, p3, b3, hs.C, hs.A]
  show (PT.ev _ activity_Affordable_s _).bind _ = _
  simp -implicitDefEqProofs only [activity_Affordable_s, ↓reduceIte, eq_self, evb_ret, evb_ite, evb_need, evb_load, evb_app, evb_cut, evb_scut, evb_chk, evb_appF, evb_call, evb_callv, evb_newM, evb_mkM, evb_storeM, evb_appM, evb_mkMap, evb_mapGet, evb_mapSet, evb_mapClr, evb_jump, BE.safe, BE.pe, IE.pe, PEnv.at, List.getD_cons_zero, List.getD_cons_succ, List.getElem?_cons_zero, List.getElem?_cons_succ, locOf, locOn, readLoc, takeN, Nat.add_zero, List.drop_zero, List.length_cons, List.length_nil, Nat.reduceAdd, Nat.le_refl, if_true, if_false, Bool.false_eq_true, List.take_succ_cons, List.take_zero, bindK, bindRes, bind1, Option.map_some, Option.bind_some, PEnv.push, List.cons_append, List.nil_append, List.append_nil, SV.pvs, SV.pv, BE.all, Bool.and_self, Bool.not_true, Bool.not_false, List.map_cons, List.map_nil, c1, affV]
  cases hh : hasB s i with
  | false => simp -implicitDefEqProofs only [↓reduceIte, eq_self, evb_ret, evb_ite, evb_need, evb_load, evb_app, evb_cut, evb_scut, evb_chk, evb_appF, evb_call, evb_callv, evb_newM, evb_mkM, evb_storeM, evb_appM, evb_mkMap, evb_mapGet, evb_mapSet, evb_mapClr, evb_jump, BE.safe, BE.pe, IE.pe, PEnv.at, List.getD_cons_zero, List.getD_cons_succ, List.getElem?_cons_zero, List.getElem?_cons_succ, locOf, locOn, readLoc, takeN, Nat.add_zero, List.drop_zero, List.length_cons, List.length_nil, Nat.reduceAdd, Nat.le_refl, if_true, if_false, Bool.false_eq_true, List.take_succ_cons, List.take_zero, bindK, bindRes, bind1, Option.map_some, Option.bind_some, PEnv.push, List.cons_append, List.nil_append, List.append_nil, SV.pvs, SV.pv, BE.all, Bool.and_self, Bool.not_true, Bool.not_false, List.map_cons, List.map_nil, retP, or_true]
  | true =>
    obtain ⟨k, rfl, hk, hkn⟩ := has_get hh
    obtain ⟨b, hb⟩ := get_ex hk
    have hloc := rows_get (off := 2) hs.B (rows_bds hb)
    have hd : decide (k < s.bs.length) = true := decide_eq_true hk
    have dr : ∀ a b c d : PV, List.drop 2 [a, b, c, d] = [c, d] := fun _ _ _ _ => rfl
    have l12 : (1 : Nat) ≤ 2 := by decide
    rw [hkn, hb]
    simp -implicitDefEqProofs only [↓reduceIte, eq_self, evb_ret, evb_ite, evb_need, evb_load, evb_app, evb_cut, evb_scut, evb_chk, evb_appF, evb_call, evb_callv, evb_newM, evb_mkM, evb_storeM, evb_appM, evb_mkMap, evb_mapGet, evb_mapSet, evb_mapClr, evb_jump, BE.safe, BE.pe, IE.pe, PEnv.at, List.getD_cons_zero, List.getD_cons_succ, List.getElem?_cons_zero, List.getElem?_cons_succ, locOf, locOn, readLoc, takeN, Nat.add_zero, List.drop_zero, List.length_cons, List.length_nil, Nat.reduceAdd, Nat.le_refl, if_true, if_false, Bool.false_eq_true, List.take_succ_cons, List.take_zero, bindK, bindRes, bind1, Option.map_some, Option.bind_some, PEnv.push, List.cons_append, List.nil_append, List.append_nil, SV.pvs, SV.pv, BE.all, Bool.and_self, Bool.not_true, Bool.not_false, List.map_cons, List.map_nil, b1, ltB_nat, hd, le0, hloc, bd_row, dr, if_pos l12]
    cases eqB b.b 0 with
    | true => simp -implicitDefEqProofs only [↓reduceIte, eq_self, evb_ret, evb_ite, evb_need, evb_load, evb_app, evb_cut, evb_scut, evb_chk, evb_appF, evb_call, evb_callv, evb_newM, evb_mkM, evb_storeM, evb_appM, evb_mkMap, evb_mapGet, evb_mapSet, evb_mapClr, evb_jump, BE.safe, BE.pe, IE.pe, PEnv.at, List.getD_cons_zero, List.getD_cons_succ, List.getElem?_cons_zero, List.getElem?_cons_succ, locOf, locOn, readLoc, takeN, Nat.add_zero, List.drop_zero, List.length_cons, List.length_nil, Nat.reduceAdd, Nat.le_refl, if_true, if_false, Bool.false_eq_true, List.take_succ_cons, List.take_zero, bindK, bindRes, bind1, Option.map_some, Option.bind_some, PEnv.push, List.cons_append, List.nil_append, List.append_nil, SV.pvs, SV.pv, BE.all, Bool.and_self, Bool.not_true, Bool.not_false, List.map_cons, List.map_nil, retP, or_true]
    | false =>
      simp -implicitDefEqProofs only [↓reduceIte, eq_self, evb_ret, evb_ite, evb_need, evb_load, evb_app, evb_cut, evb_scut, evb_chk, evb_appF, evb_call, evb_callv, evb_newM, evb_mkM, evb_storeM, evb_appM, evb_mkMap, evb_mapGet, evb_mapSet, evb_mapClr, evb_jump, BE.safe, BE.pe, IE.pe, PEnv.at, List.getD_cons_zero, List.getD_cons_succ, List.getElem?_cons_zero, List.getElem?_cons_succ, locOf, locOn, readLoc, takeN, Nat.add_zero, List.drop_zero, List.length_cons, List.length_nil, Nat.reduceAdd, Nat.le_refl, if_true, if_false, Bool.false_eq_true, List.take_succ_cons, List.take_zero, bindK, bindRes, bind1, Option.map_some, Option.bind_some, PEnv.push, List.cons_append, List.nil_append, List.append_nil, SV.pvs, SV.pv, BE.all, Bool.and_self, Bool.not_true, Bool.not_false, List.map_cons, List.map_nil, b1, ltB_nat, hd, le0, hloc, bd_row, dr, if_pos l12, hc]
      cases ltB b.b (costW x.p x.w) <;> simp -implicitDefEqProofs only [↓reduceIte, eq_self, evb_ret, evb_ite, evb_need, evb_load, evb_app, evb_cut, evb_scut, evb_chk, evb_appF, evb_call, evb_callv, evb_newM, evb_mkM, evb_storeM, evb_appM, evb_mkMap, evb_mapGet, evb_mapSet, evb_mapClr, evb_jump, BE.safe, BE.pe, IE.pe, PEnv.at, List.getD_cons_zero, List.getD_cons_succ, List.getElem?_cons_zero, List.getElem?_cons_succ, locOf, locOn, readLoc, takeN, Nat.add_zero, List.drop_zero, List.length_cons, List.length_nil, Nat.reduceAdd, Nat.le_refl, if_true, if_false, Bool.false_eq_true, List.take_succ_cons, List.take_zero, bindK, bindRes, bind1, Option.map_some, Option.bind_some, PEnv.push, List.cons_append, List.nil_append, List.append_nil, SV.pvs, SV.pv, BE.all, Bool.and_self, Bool.not_true, Bool.not_false, List.map_cons, List.map_nil, retP, or_true]
theorem saleroomref37_Affordable_sem (σ : List MO) (s : St) (hs : s.Ok) (i : Int) (x : Ch) (hx : x.ok) (n : Nat) (hn : 1 ≤ n) (hc : evalF Tab n n_saleroomref37_cost [.agg x.p.pv, .agg x.w.pv] σ = some (.int .i64 (costW x.p x.w), σ)) : evalF Tab (n + 1) n_saleroomref37_Affordable [.agg s.pv, .int .i64 i, .agg x.row] σ = some (.int .i64 (affV s i x), σ) := by
  obtain ⟨p1, p2, p3⟩ := rows_len hs.P
  obtain ⟨b1, b2, b3⟩ := rows_len hs.B
  rw [List.length_map] at p1 b1
  have c1 := saleroomref37_bidder_sem σ s hs i n hn
  simp only [n_saleroomref37_bidder, n_saleroomref37_cost, St.pv, W6.pv] at c1 hc
  rw [evalF]
  simp only [tab_saleroomref37_Affordable, Option.bind_some, Sys.run, St.pv, row_eq]
  show ((bindPs [.sh (.agg [_, _, _, _]), .sh (.one _), .sh (.agg [_, _, _, _, _, _, _, _, _, _, _, _])] _).bind _) = _
  simp -implicitDefEqProofs only [bindPs, bind1, bindK, Option.map_some, Option.bind_some, List.append_nil, List.nil_append, List.cons_append, if_true, p3, b3, hs.C, hs.A]
  show (PT.ev _ saleroomref37_Affordable_s _).bind _ = _
  simp -implicitDefEqProofs only [saleroomref37_Affordable_s, ↓reduceIte, eq_self, evb_ret, evb_ite, evb_need, evb_load, evb_app, evb_cut, evb_scut, evb_chk, evb_appF, evb_call, evb_callv, evb_newM, evb_mkM, evb_storeM, evb_appM, evb_mkMap, evb_mapGet, evb_mapSet, evb_mapClr, evb_jump, BE.safe, BE.pe, IE.pe, PEnv.at, List.getD_cons_zero, List.getD_cons_succ, List.getElem?_cons_zero, List.getElem?_cons_succ, locOf, locOn, readLoc, takeN, Nat.add_zero, List.drop_zero, List.length_cons, List.length_nil, Nat.reduceAdd, Nat.le_refl, if_true, if_false, Bool.false_eq_true, List.take_succ_cons, List.take_zero, bindK, bindRes, bind1, Option.map_some, Option.bind_some, PEnv.push, List.cons_append, List.nil_append, List.append_nil, SV.pvs, SV.pv, BE.all, Bool.and_self, Bool.not_true, Bool.not_false, List.map_cons, List.map_nil, c1, affV]
  cases hh : hasB s i with
  | false => simp -implicitDefEqProofs only [↓reduceIte, eq_self, evb_ret, evb_ite, evb_need, evb_load, evb_app, evb_cut, evb_scut, evb_chk, evb_appF, evb_call, evb_callv, evb_newM, evb_mkM, evb_storeM, evb_appM, evb_mkMap, evb_mapGet, evb_mapSet, evb_mapClr, evb_jump, BE.safe, BE.pe, IE.pe, PEnv.at, List.getD_cons_zero, List.getD_cons_succ, List.getElem?_cons_zero, List.getElem?_cons_succ, locOf, locOn, readLoc, takeN, Nat.add_zero, List.drop_zero, List.length_cons, List.length_nil, Nat.reduceAdd, Nat.le_refl, if_true, if_false, Bool.false_eq_true, List.take_succ_cons, List.take_zero, bindK, bindRes, bind1, Option.map_some, Option.bind_some, PEnv.push, List.cons_append, List.nil_append, List.append_nil, SV.pvs, SV.pv, BE.all, Bool.and_self, Bool.not_true, Bool.not_false, List.map_cons, List.map_nil, retP, or_true]
  | true =>
    obtain ⟨k, rfl, hk, hkn⟩ := has_get hh
    obtain ⟨b, hb⟩ := get_ex hk
    have hloc := rows_get (off := 2) hs.B (rows_bds hb)
    have hd : decide (k < s.bs.length) = true := decide_eq_true hk
    have dr : ∀ a b c d : PV, List.drop 2 [a, b, c, d] = [c, d] := fun _ _ _ _ => rfl
    have l12 : (1 : Nat) ≤ 2 := by decide
    rw [hkn, hb]
    simp -implicitDefEqProofs only [↓reduceIte, eq_self, evb_ret, evb_ite, evb_need, evb_load, evb_app, evb_cut, evb_scut, evb_chk, evb_appF, evb_call, evb_callv, evb_newM, evb_mkM, evb_storeM, evb_appM, evb_mkMap, evb_mapGet, evb_mapSet, evb_mapClr, evb_jump, BE.safe, BE.pe, IE.pe, PEnv.at, List.getD_cons_zero, List.getD_cons_succ, List.getElem?_cons_zero, List.getElem?_cons_succ, locOf, locOn, readLoc, takeN, Nat.add_zero, List.drop_zero, List.length_cons, List.length_nil, Nat.reduceAdd, Nat.le_refl, if_true, if_false, Bool.false_eq_true, List.take_succ_cons, List.take_zero, bindK, bindRes, bind1, Option.map_some, Option.bind_some, PEnv.push, List.cons_append, List.nil_append, List.append_nil, SV.pvs, SV.pv, BE.all, Bool.and_self, Bool.not_true, Bool.not_false, List.map_cons, List.map_nil, b1, ltB_nat, hd, le0, hloc, bd_row, dr, if_pos l12]
    cases eqB b.b 0 with
    | true => simp -implicitDefEqProofs only [↓reduceIte, eq_self, evb_ret, evb_ite, evb_need, evb_load, evb_app, evb_cut, evb_scut, evb_chk, evb_appF, evb_call, evb_callv, evb_newM, evb_mkM, evb_storeM, evb_appM, evb_mkMap, evb_mapGet, evb_mapSet, evb_mapClr, evb_jump, BE.safe, BE.pe, IE.pe, PEnv.at, List.getD_cons_zero, List.getD_cons_succ, List.getElem?_cons_zero, List.getElem?_cons_succ, locOf, locOn, readLoc, takeN, Nat.add_zero, List.drop_zero, List.length_cons, List.length_nil, Nat.reduceAdd, Nat.le_refl, if_true, if_false, Bool.false_eq_true, List.take_succ_cons, List.take_zero, bindK, bindRes, bind1, Option.map_some, Option.bind_some, PEnv.push, List.cons_append, List.nil_append, List.append_nil, SV.pvs, SV.pv, BE.all, Bool.and_self, Bool.not_true, Bool.not_false, List.map_cons, List.map_nil, retP, or_true]
    | false =>
      simp -implicitDefEqProofs only [↓reduceIte, eq_self, evb_ret, evb_ite, evb_need, evb_load, evb_app, evb_cut, evb_scut, evb_chk, evb_appF, evb_call, evb_callv, evb_newM, evb_mkM, evb_storeM, evb_appM, evb_mkMap, evb_mapGet, evb_mapSet, evb_mapClr, evb_jump, BE.safe, BE.pe, IE.pe, PEnv.at, List.getD_cons_zero, List.getD_cons_succ, List.getElem?_cons_zero, List.getElem?_cons_succ, locOf, locOn, readLoc, takeN, Nat.add_zero, List.drop_zero, List.length_cons, List.length_nil, Nat.reduceAdd, Nat.le_refl, if_true, if_false, Bool.false_eq_true, List.take_succ_cons, List.take_zero, bindK, bindRes, bind1, Option.map_some, Option.bind_some, PEnv.push, List.cons_append, List.nil_append, List.append_nil, SV.pvs, SV.pv, BE.all, Bool.and_self, Bool.not_true, Bool.not_false, List.map_cons, List.map_nil, b1, ltB_nat, hd, le0, hloc, bd_row, dr, if_pos l12, hc]
      cases ltB b.b (costW x.p x.w) <;> simp -implicitDefEqProofs only [↓reduceIte, eq_self, evb_ret, evb_ite, evb_need, evb_load, evb_app, evb_cut, evb_scut, evb_chk, evb_appF, evb_call, evb_callv, evb_newM, evb_mkM, evb_storeM, evb_appM, evb_mkMap, evb_mapGet, evb_mapSet, evb_mapClr, evb_jump, BE.safe, BE.pe, IE.pe, PEnv.at, List.getD_cons_zero, List.getD_cons_succ, List.getElem?_cons_zero, List.getElem?_cons_succ, locOf, locOn, readLoc, takeN, Nat.add_zero, List.drop_zero, List.length_cons, List.length_nil, Nat.reduceAdd, Nat.le_refl, if_true, if_false, Bool.false_eq_true, List.take_succ_cons, List.take_zero, bindK, bindRes, bind1, Option.map_some, Option.bind_some, PEnv.push, List.cons_append, List.nil_append, List.append_nil, SV.pvs, SV.pv, BE.all, Bool.and_self, Bool.not_true, Bool.not_false, List.map_cons, List.map_nil, retP, or_true]
end Go.Proofs.Ythjahianafohjaa
set_option maxRecDepth 100000
namespace Go.Proofs.Ythjahianafohjaa
open Go.Sx
def modB (l : List Ch) : Bool := !ltB 30 (l.length : Int) && l.all fun x => decide x.ok
theorem dr12 (a b c d e f a' b' c' d' e' f' : PV) : List.drop 1 [a, b, c, d, e, f, a', b', c', d', e', f'] = [b, c, d, e, f, a', b', c', d', e', f'] ∧ List.drop 2 [a, b, c, d, e, f, a', b', c', d', e', f'] = [c, d, e, f, a', b', c', d', e', f'] ∧
    List.drop 3 [a, b, c, d, e, f, a', b', c', d', e', f'] = [d, e, f, a', b', c', d', e', f'] ∧ List.drop 4 [a, b, c, d, e, f, a', b', c', d', e', f'] = [e, f, a', b', c', d', e', f'] ∧ List.drop 5 [a, b, c, d, e, f, a', b', c', d', e', f'] = [f, a', b', c', d', e', f'] := ⟨rfl, rfl, rfl, rfl, rfl⟩
theorem mod_sem (σ : List MO) (l : List Ch) (P : PV) (hP : P.rowsOf 12 = some (l.map Ch.row)) (n : Nat) (hn : 100 ≤ n) :
    evalF Tab n n_saleroomref37_Moderate [P] σ = some (.bool (modB l), σ) := by
  obtain ⟨n, rfl⟩ : ∃ k, n = k + 1 := ⟨n - 1, by omega⟩
  obtain ⟨p1, p2, p3⟩ := rows_len hP
  rw [List.length_map] at p1
  simp only [evalF, tab_saleroomref37_Moderate, Option.bind_some, Sys.run]
  show ((bindPs [.sh (.one _)] _).bind _) = _
  simp -implicitDefEqProofs only [bindPs, bind1, bindK, Option.map_some, Option.bind_some, List.append_nil, List.nil_append, List.cons_append, if_true, p3]
  show (PT.ev _ saleroomref37_Moderate_s _).bind _ = _
  simp -implicitDefEqProofs only [saleroomref37_Moderate_s, ↓reduceIte, eq_self, evb_ret, evb_ite, evb_need, evb_load, evb_app, evb_cut, evb_scut, evb_chk, evb_appF, evb_call, evb_callv, evb_newM, evb_mkM, evb_storeM, evb_appM, evb_mkMap, evb_mapGet, evb_mapSet, evb_mapClr, evb_jump, BE.safe, BE.pe, IE.pe, PEnv.at, List.getD_cons_zero, List.getD_cons_succ, List.getElem?_cons_zero, List.getElem?_cons_succ, locOf, locOn, readLoc, takeN, Nat.add_zero, List.drop_zero, List.length_cons, List.length_nil, Nat.reduceAdd, Nat.le_refl, if_true, if_false, Bool.false_eq_true, List.take_succ_cons, List.take_zero, bindK, bindRes, bind1, Option.map_some, Option.bind_some, PEnv.push, List.cons_append, List.nil_append, List.append_nil, SV.pvs, SV.pv, BE.all, Bool.and_self, Bool.not_true, Bool.not_false, List.map_cons, List.map_nil, p1, p2, modB]
  cases h30 : ltB 30 (l.length : Int) with
  | true => simp -implicitDefEqProofs only [↓reduceIte, eq_self, evb_ret, evb_ite, evb_need, evb_load, evb_app, evb_cut, evb_scut, evb_chk, evb_appF, evb_call, evb_callv, evb_newM, evb_mkM, evb_storeM, evb_appM, evb_mkMap, evb_mapGet, evb_mapSet, evb_mapClr, evb_jump, BE.safe, BE.pe, IE.pe, PEnv.at, List.getD_cons_zero, List.getD_cons_succ, List.getElem?_cons_zero, List.getElem?_cons_succ, locOf, locOn, readLoc, takeN, Nat.add_zero, List.drop_zero, List.length_cons, List.length_nil, Nat.reduceAdd, Nat.le_refl, if_true, if_false, Bool.false_eq_true, List.take_succ_cons, List.take_zero, bindK, bindRes, bind1, Option.map_some, Option.bind_some, PEnv.push, List.cons_append, List.nil_append, List.append_nil, SV.pvs, SV.pv, BE.all, Bool.and_self, Bool.not_true, Bool.not_false, List.map_cons, List.map_nil, retP, or_true, Bool.false_and]
  | false =>
    rw [ltB_false] at h30
    have loop : ∀ d i, i + d = l.length → ∀ fuel, saleroomref37_Moderate_S.loop (evalF Tab n) (fuel + d + 1) 0 { i := [(i : Int)], b := [], v := [P], m := σ, k := σ.length } = some (.bool ((l.drop i).all fun x => decide x.ok), σ) := by
      intro d
      induction d with
      | zero =>
        intro i hi fuel
        rw [Nat.add_zero] at hi; subst hi
        have hd : decide (l.length < l.length) = false := by simp
        rw [Sys.loop, show saleroomref37_Moderate_S.loops[0]? = some saleroomref37_Moderate_t0 from rfl, List.drop_length]
        simp -implicitDefEqProofs only [Option.bind_some, saleroomref37_Moderate_t0, ↓reduceIte, eq_self, evb_ret, evb_ite, evb_need, evb_load, evb_app, evb_cut, evb_scut, evb_chk, evb_appF, evb_call, evb_callv, evb_newM, evb_mkM, evb_storeM, evb_appM, evb_mkMap, evb_mapGet, evb_mapSet, evb_mapClr, evb_jump, BE.safe, BE.pe, IE.pe, PEnv.at, List.getD_cons_zero, List.getD_cons_succ, List.getElem?_cons_zero, List.getElem?_cons_succ, locOf, locOn, readLoc, takeN, Nat.add_zero, List.drop_zero, List.length_cons, List.length_nil, Nat.reduceAdd, Nat.le_refl, if_true, if_false, Bool.false_eq_true, List.take_succ_cons, List.take_zero, bindK, bindRes, bind1, Option.map_some, Option.bind_some, PEnv.push, List.cons_append, List.nil_append, List.append_nil, SV.pvs, SV.pv, BE.all, Bool.and_self, Bool.not_true, Bool.not_false, List.map_cons, List.map_nil, p1, p2, ltB_nat, hd, retP, or_true, List.all_nil]
      | succ d ih =>
        intro i hi fuel
        have hlt : i < l.length := by omega
        obtain ⟨x, hx⟩ := get_ex hlt
        have hd : decide (i < l.length) = true := decide_eq_true hlt
        have h0 := rows_get (off := 0) hP (rows_chs hx)
        have h1 := rows_get (off := 1) hP (rows_chs hx)
        have h2 := rows_get (off := 2) hP (rows_chs hx)
        have h3 := rows_get (off := 3) hP (rows_chs hx)
        have h4 := rows_get (off := 4) hP (rows_chs hx)
        have h5 := rows_get (off := 5) hP (rows_chs hx)
        have h6 := rows_get (off := 6) hP (rows_chs hx)
        have c1 := saleroomref07_Check_sem σ x.w n (by omega)
        have hb : eqB (bchk x.w) 0 = decide x.w.ok := by
          unfold bchk
          by_cases h : x.w.ok
          · rw [if_pos h, decide_eq_true h]; rfl
          · rw [if_neg h, decide_eq_false h]; rfl
        have e : ∀ k, k < 12 → (1 : Nat) ≤ 12 - k := by omega
        rw [drop_cons hx, List.all_cons, Ch.ok_dec, Sys.loop, show saleroomref37_Moderate_S.loops[0]? = some saleroomref37_Moderate_t0 from rfl]
        generalize bchk x.w = y at *
        simp only [n_saleroomref07_Check, W6.pv] at c1
        simp -implicitDefEqProofs only [Option.bind_some, saleroomref37_Moderate_t0, ↓reduceIte, eq_self, evb_ret, evb_ite, evb_need, evb_load, evb_app, evb_cut, evb_scut, evb_chk, evb_appF, evb_call, evb_callv, evb_newM, evb_mkM, evb_storeM, evb_appM, evb_mkMap, evb_mapGet, evb_mapSet, evb_mapClr, evb_jump, BE.safe, BE.pe, IE.pe, PEnv.at, List.getD_cons_zero, List.getD_cons_succ, List.getElem?_cons_zero, List.getElem?_cons_succ, locOf, locOn, readLoc, takeN, Nat.add_zero, List.drop_zero, List.length_cons, List.length_nil, Nat.reduceAdd, Nat.le_refl, if_true, if_false, Bool.false_eq_true, List.take_succ_cons, List.take_zero, bindK, bindRes, bind1, Option.map_some, Option.bind_some, PEnv.push, List.cons_append, List.nil_append, List.append_nil, SV.pvs, SV.pv, BE.all, Bool.and_self, Bool.not_true, Bool.not_false, List.map_cons, List.map_nil, p1, p2, ltB_nat, hd, le0, h6, row_eq, drop6, c1, hb]
        by_cases hw : x.w.ok
        case neg =>
          rw [decide_eq_false hw, Bool.and_false, Bool.false_and]
          simp -implicitDefEqProofs only [↓reduceIte, eq_self, evb_ret, evb_ite, evb_need, evb_load, evb_app, evb_cut, evb_scut, evb_chk, evb_appF, evb_call, evb_callv, evb_newM, evb_mkM, evb_storeM, evb_appM, evb_mkMap, evb_mapGet, evb_mapSet, evb_mapClr, evb_jump, BE.safe, BE.pe, IE.pe, PEnv.at, List.getD_cons_zero, List.getD_cons_succ, List.getElem?_cons_zero, List.getElem?_cons_succ, locOf, locOn, readLoc, takeN, Nat.add_zero, List.drop_zero, List.length_cons, List.length_nil, Nat.reduceAdd, Nat.le_refl, if_true, if_false, Bool.false_eq_true, List.take_succ_cons, List.take_zero, bindK, bindRes, bind1, Option.map_some, Option.bind_some, PEnv.push, List.cons_append, List.nil_append, List.append_nil, SV.pvs, SV.pv, BE.all, Bool.and_self, Bool.not_true, Bool.not_false, List.map_cons, List.map_nil, retP, or_true]
        rw [decide_eq_true hw, Bool.and_true]
        have ih := ih (i + 1) (by omega) fuel
        rw [nat_succ] at ih
        have hup := up_ok (show i ≤ 1000000000 by omega)
        obtain ⟨⟨a, b, c, d', e', f⟩, w⟩ := x
        obtain ⟨g1, g2, g3, g4, g5⟩ := dr12 (.int .i64 a) (.int .i64 b) (.int .i64 c) (.int .i64 d') (.int .i64 e') (.int .i64 f) (.int .i64 w.a) (.int .i64 w.b) (.int .i64 w.c) (.int .i64 w.d) (.int .i64 w.e) (.int .i64 w.f)
        simp -implicitDefEqProofs only [↓reduceIte, eq_self, evb_ret, evb_ite, evb_need, evb_load, evb_app, evb_cut, evb_scut, evb_chk, evb_appF, evb_call, evb_callv, evb_newM, evb_mkM, evb_storeM, evb_appM, evb_mkMap, evb_mapGet, evb_mapSet, evb_mapClr, evb_jump, BE.safe, BE.pe, IE.pe, PEnv.at, List.getD_cons_zero, List.getD_cons_succ, List.getElem?_cons_zero, List.getElem?_cons_succ, locOf, locOn, readLoc, takeN, Nat.add_zero, List.drop_zero, List.length_cons, List.length_nil, Nat.reduceAdd, Nat.le_refl, if_true, if_false, Bool.false_eq_true, List.take_succ_cons, List.take_zero, bindK, bindRes, bind1, Option.map_some, Option.bind_some, PEnv.push, List.cons_append, List.nil_append, List.append_nil, SV.pvs, SV.pv, BE.all, Bool.and_self, Bool.not_true, Bool.not_false, List.map_cons, List.map_nil, p1, ltB_nat, hd, le0, h0, h1, h2, h3, h4, h5, row_eq, g1, g2, g3, g4, g5, Nat.reduceLeDiff, if_pos hup]
        simp only [ltB_true]
        by_cases hok : (⟨a, b, c, d', e', f⟩ : W6).pok
        · rw [decide_eq_true hok]
          simp only [W6.pok] at hok
          repeat rw [if_neg (by omega)]
          simp only [Option.bind_some, Bool.true_and]
          exact ih
        · rw [decide_eq_false hok]
          simp only [W6.pok] at hok
          simp -implicitDefEqProofs only [retP, ↓reduceIte, eq_self, evb_ret, evb_ite, evb_need, evb_load, evb_app, evb_cut, evb_scut, evb_chk, evb_appF, evb_call, evb_callv, evb_newM, evb_mkM, evb_storeM, evb_appM, evb_mkMap, evb_mapGet, evb_mapSet, evb_mapClr, evb_jump, BE.safe, BE.pe, IE.pe, PEnv.at, List.getD_cons_zero, List.getD_cons_succ, List.getElem?_cons_zero, List.getElem?_cons_succ, locOf, locOn, readLoc, takeN, Nat.add_zero, List.drop_zero, List.length_cons, List.length_nil, Nat.reduceAdd, Nat.le_refl, if_true, if_false, Bool.false_eq_true, List.take_succ_cons, List.take_zero, bindK, bindRes, bind1, Option.map_some, Option.bind_some, PEnv.push, List.cons_append, List.nil_append, List.append_nil, SV.pvs, SV.pv, BE.all, Bool.and_self, Bool.not_true, Bool.not_false, List.map_cons, List.map_nil, or_true, Bool.false_and]
          by_cases k1 : a < 0
          · rw [if_pos k1]; rfl
          rw [if_neg k1]
          by_cases k2 : 1000000 < a
          · rw [if_pos k2]; rfl
          rw [if_neg k2]
          by_cases k3 : b < 0
          · rw [if_pos k3]; rfl
          rw [if_neg k3]
          by_cases k4 : 1000000 < b
          · rw [if_pos k4]; rfl
          rw [if_neg k4]
          by_cases k5 : c < 0
          · rw [if_pos k5]; rfl
          rw [if_neg k5]
          by_cases k6 : 1000000 < c
          · rw [if_pos k6]; rfl
          rw [if_neg k6]
          by_cases k7 : d' < 0
          · rw [if_pos k7]; rfl
          rw [if_neg k7]
          by_cases k8 : 1000000 < d'
          · rw [if_pos k8]; rfl
          rw [if_neg k8]
          by_cases k9 : e' < 0
          · rw [if_pos k9]; rfl
          rw [if_neg k9]
          by_cases k10 : 1000000 < e'
          · rw [if_pos k10]; rfl
          rw [if_neg k10]
          by_cases k11 : f < 0
          · rw [if_pos k11]; rfl
          rw [if_neg k11]
          by_cases k12 : 1000000 < f
          · rw [if_pos k12]; rfl
          exfalso; omega
    have := loop l.length 0 (by omega) (n - l.length - 1)
    rw [show n - l.length - 1 + l.length + 1 = n by omega, List.drop_zero] at this
    simp -implicitDefEqProofs only [↓reduceIte, eq_self, evb_ret, evb_ite, evb_need, evb_load, evb_app, evb_cut, evb_scut, evb_chk, evb_appF, evb_call, evb_callv, evb_newM, evb_mkM, evb_storeM, evb_appM, evb_mkMap, evb_mapGet, evb_mapSet, evb_mapClr, evb_jump, BE.safe, BE.pe, IE.pe, PEnv.at, List.getD_cons_zero, List.getD_cons_succ, List.getElem?_cons_zero, List.getElem?_cons_succ, locOf, locOn, readLoc, takeN, Nat.add_zero, List.drop_zero, List.length_cons, List.length_nil, Nat.reduceAdd, Nat.le_refl, if_true, if_false, Bool.false_eq_true, List.take_succ_cons, List.take_zero, bindK, bindRes, bind1, Option.map_some, Option.bind_some, PEnv.push, List.cons_append, List.nil_append, List.append_nil, SV.pvs, SV.pv, BE.all, Bool.and_self, Bool.not_true, Bool.not_false, List.map_cons, List.map_nil]
    exact this
end Go.Proofs.Ythjahianafohjaa
