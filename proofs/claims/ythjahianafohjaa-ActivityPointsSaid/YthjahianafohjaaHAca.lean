/- The examples of the chapter on activity. -/
import Derived.Test.YthjahianafohjaaHSac
import Derived.Test.YthjahianafohjaaHTxd
import Derived.Test.YthjahianafohjaaHRva
import Derived.Test.YthjahianafohjaaHGx
set_option linter.unusedSimpArgs false
set_option linter.unusedVariables false
set_option maxRecDepth 100000
namespace Go.Proofs.Ythjahianafohjaa
open Go.Sx
theorem awake37 : evalF Tab 40000 n_saleroomlaw37_awake [] [] = some (.bool true, []) := by kernel_rfl
end Go.Proofs.Ythjahianafohjaa
set_option maxRecDepth 100000
namespace Go.Proofs.Ythjahianafohjaa
open Go.Sx
/-- A product. -/
structure Pr where
  (nm : List UInt8) (s r p g : Int)
def Pr.row (x : Pr) : List PV := [.str x.nm, .int .i64 x.s, .int .i64 x.r, .int .i64 x.p, .int .i64 x.g]
/-- A bidder. -/
structure Bd where
  (nm : List UInt8) (c b p : Int)
def Bd.row (x : Bd) : List PV := [.str x.nm, .int .i64 x.c, .int .i64 x.b, .int .i64 x.p]
theorem pr_row (x : Pr) : x.row = [.str x.nm, .int .i64 x.s, .int .i64 x.r, .int .i64 x.p, .int .i64 x.g] := rfl
theorem bd_row (x : Bd) : x.row = [.str x.nm, .int .i64 x.c, .int .i64 x.b, .int .i64 x.p] := rfl
theorem shaped_Pr {n : Nat} {ps : List PV} (h : Shaped Try.prog n 90 ps) : ∃ x : Pr, ps = x.row := by
  obtain ⟨m, _, h⟩ := shaped_struct Try.underlying90 h
  simp only [List.map_cons, List.map_nil, Shapeds] at h
  obtain ⟨_, _, rfl, h1, _, _, rfl, h2, _, _, rfl, h3, _, _, rfl, h4, _, _, rfl, h5, rfl⟩ := h
  obtain ⟨a, rfl⟩ := shaped_str (by kernel_rfl) h1
  obtain ⟨b, rfl, _⟩ := shaped_int (k := .i64) (by kernel_rfl) h2
  obtain ⟨c, rfl, _⟩ := shaped_int (k := .i64) (by kernel_rfl) h3
  obtain ⟨d, rfl, _⟩ := shaped_int (k := .i64) (by kernel_rfl) h4
  obtain ⟨e, rfl, _⟩ := shaped_int (k := .i64) (by kernel_rfl) h5
  exact ⟨⟨a, b, c, d, e⟩, rfl⟩
theorem shaped_Bd {n : Nat} {ps : List PV} (h : Shaped Try.prog n 66 ps) : ∃ x : Bd, ps = x.row ∧ loI .i64 ≤ x.b ∧ x.b ≤ hiI .i64 ∧ loI .i64 ≤ x.p ∧ x.p ≤ hiI .i64 := by
  obtain ⟨m, _, h⟩ := shaped_struct Try.underlying66 h
  simp only [List.map_cons, List.map_nil, Shapeds] at h
  obtain ⟨_, _, rfl, h1, _, _, rfl, h2, _, _, rfl, h3, _, _, rfl, h4, rfl⟩ := h
  obtain ⟨a, rfl⟩ := shaped_str (by kernel_rfl) h1
  obtain ⟨b, rfl, _⟩ := shaped_int (k := .i64) (by kernel_rfl) h2
  obtain ⟨c, rfl, c1, c2⟩ := shaped_int (k := .i64) (by kernel_rfl) h3
  obtain ⟨d, rfl, d1, d2⟩ := shaped_int (k := .i64) (by kernel_rfl) h4
  exact ⟨⟨a, b, c, d⟩, rfl, c1, c2, d1, d2⟩
theorem shaped_rows {α : Type} {row : α → List PV} {P : Program} {n : Nat} {t : TypeId} (h1 : ∀ ps, Shaped P n t ps → ∃ x : α, ps = row x) : ∀ (rows : List (List PV)), (∀ r ∈ rows, Shaped P n t r) → ∃ l : List α, rows = l.map row
  | [], _ => ⟨[], rfl⟩
  | r :: rows, h => by
    obtain ⟨x, rfl⟩ := h1 r (h r (by simp))
    obtain ⟨l, rfl⟩ := shaped_rows h1 rows (fun q hq => h q (by simp [hq]))
    exact ⟨x :: l, rfl⟩
/-- A setup. -/
structure St where
  (ps : List Pr) (bs : List Bd) (P B C A : PV)
structure St.Ok (s : St) : Prop where
  P : s.P.rowsOf 5 = some (s.ps.map Pr.row)
  B : s.B.rowsOf 4 = some (s.bs.map Bd.row)
  C : s.C.one = true
  A : s.A.one = true
def St.pv (s : St) : List PV := [s.P, s.B, s.C, s.A]
theorem shaped_St {n : Nat} {ps : List PV} (h : Shaped Try.prog n 53 ps) : ∃ s : St, ps = s.pv ∧ s.Ok ∧ s.P = .sl 5 (s.ps.map Pr.row) ∧ s.B = .sl 4 (s.bs.map Bd.row) := by
  obtain ⟨m, _, h⟩ := shaped_struct Try.underlying53 h
  simp only [List.map_cons, List.map_nil, Shapeds] at h
  obtain ⟨_, _, rfl, h1, _, _, rfl, h2, _, _, rfl, h3, _, _, rfl, h4, rfl⟩ := h
  obtain ⟨m1, r1, _, rfl, g1⟩ := shaped_slice (e := 90) (by kernel_rfl) h1
  obtain ⟨m2, r2, _, rfl, g2⟩ := shaped_slice (e := 66) (by kernel_rfl) h2
  obtain ⟨m3, r3, _, rfl, g3⟩ := shaped_slice (e := 140) (by kernel_rfl) h3
  obtain ⟨m4, r4, _, rfl, g4⟩ := shaped_slice (e := 142) (by kernel_rfl) h4
  obtain ⟨l1, rfl⟩ := shaped_rows (row := Pr.row) (fun ps h => shaped_Pr h) r1 g1
  obtain ⟨l2, rfl⟩ := shaped_rows (row := Bd.row) (fun ps h => (shaped_Bd h).imp fun _ h => h.1) r2 g2
  rw [show Try.prog.cellsOf 90 = 5 by kernel_rfl, show Try.prog.cellsOf 66 = 4 by kernel_rfl]
  exact ⟨⟨l1, l2, _, _, _, _⟩, rfl, ⟨sl_rows _ _, sl_rows _ _, rfl, rfl⟩, rfl, rfl⟩
def fewB (s : St) : Bool := leB (s.ps.length : Int) 8 && leB (s.bs.length : Int) 10
theorem few_sem (σ : List MO) (s : St) (hs : s.Ok) (n : Nat) (hn : 1 ≤ n) : evalF Tab n n_saleroomlaw37_few [.agg s.pv] σ = some (.bool (fewB s), σ) := by
  obtain ⟨n, rfl⟩ : ∃ k, n = k + 1 := ⟨n - 1, by omega⟩
  obtain ⟨p1, p2, p3⟩ := rows_len hs.P
  obtain ⟨b1, b2, b3⟩ := rows_len hs.B
  rw [List.length_map] at p1 b1
  simp only [evalF, tab_saleroomlaw37_few, Option.bind_some, Sys.run, St.pv]
  show ((bindPs [.sh (.agg [_, _, _, _])] _).bind _) = _
  simp -implicitDefEqProofs only [bindPs, bind1, bindK, Option.map_some, Option.bind_some, List.append_nil, List.nil_append, List.cons_append, if_true, p3, b3, hs.C, hs.A]
  show (PT.ev _ saleroomlaw37_few_s _).bind _ = _
  simp -implicitDefEqProofs only [saleroomlaw37_few_s, ↓reduceIte, eq_self, evb_ret, evb_ite, evb_need, evb_load, evb_app, evb_cut, evb_scut, evb_chk, evb_appF, evb_call, evb_callv, evb_newM, evb_mkM, evb_storeM, evb_appM, evb_mkMap, evb_mapGet, evb_mapSet, evb_mapClr, evb_jump, BE.safe, BE.pe, IE.pe, PEnv.at, List.getD_cons_zero, List.getD_cons_succ, List.getElem?_cons_zero, List.getElem?_cons_succ, locOf, locOn, readLoc, takeN, Nat.add_zero, List.drop_zero, List.length_cons, List.length_nil, Nat.reduceAdd, Nat.le_refl, if_true, if_false, Bool.false_eq_true, List.take_succ_cons, List.take_zero, bindK, bindRes, bind1, Option.map_some, Option.bind_some, PEnv.push, List.cons_append, List.nil_append, List.append_nil, SV.pvs, SV.pv, BE.all, Bool.and_self, Bool.not_true, Bool.not_false, List.map_cons, List.map_nil, p1, p2, b1, b2, retP, or_true, fewB]
  cases leB (s.ps.length : Int) 8 <;> simp -implicitDefEqProofs only [↓reduceIte, eq_self, evb_ret, evb_ite, evb_need, evb_load, evb_app, evb_cut, evb_scut, evb_chk, evb_appF, evb_call, evb_callv, evb_newM, evb_mkM, evb_storeM, evb_appM, evb_mkMap, evb_mapGet, evb_mapSet, evb_mapClr, evb_jump, BE.safe, BE.pe, IE.pe, PEnv.at, List.getD_cons_zero, List.getD_cons_succ, List.getElem?_cons_zero, List.getElem?_cons_succ, locOf, locOn, readLoc, takeN, Nat.add_zero, List.drop_zero, List.length_cons, List.length_nil, Nat.reduceAdd, Nat.le_refl, if_true, if_false, Bool.false_eq_true, List.take_succ_cons, List.take_zero, bindK, bindRes, bind1, Option.map_some, Option.bind_some, PEnv.push, List.cons_append, List.nil_append, List.append_nil, SV.pvs, SV.pv, BE.all, Bool.and_self, Bool.not_true, Bool.not_false, List.map_cons, List.map_nil, b1, b2, retP, or_true, Bool.true_and, Bool.false_and]
def hasB (s : St) (i : Int) : Bool := leB 0 i && ltB i (s.bs.length : Int)
theorem activity_has_sem (σ : List MO) (s : St) (hs : s.Ok) (i : Int) (n : Nat) (hn : 1 ≤ n) : evalF Tab n n_activity_has [.agg s.pv, .int .i64 i] σ = some (.bool (hasB s i), σ) := by
  obtain ⟨n, rfl⟩ : ∃ k, n = k + 1 := ⟨n - 1, by omega⟩
  obtain ⟨p1, p2, p3⟩ := rows_len hs.P
  obtain ⟨b1, b2, b3⟩ := rows_len hs.B
  rw [List.length_map] at p1 b1
  simp only [evalF, tab_activity_has, Option.bind_some, Sys.run, St.pv]
  show ((bindPs [.sh (.agg [_, _, _, _]), .sh (.one _)] _).bind _) = _
  simp -implicitDefEqProofs only [bindPs, bind1, bindK, Option.map_some, Option.bind_some, List.append_nil, List.nil_append, List.cons_append, if_true, p3, b3, hs.C, hs.A]
  show (PT.ev _ activity_has_s _).bind _ = _
  simp -implicitDefEqProofs only [activity_has_s, ↓reduceIte, eq_self, evb_ret, evb_ite, evb_need, evb_load, evb_app, evb_cut, evb_scut, evb_chk, evb_appF, evb_call, evb_callv, evb_newM, evb_mkM, evb_storeM, evb_appM, evb_mkMap, evb_mapGet, evb_mapSet, evb_mapClr, evb_jump, BE.safe, BE.pe, IE.pe, PEnv.at, List.getD_cons_zero, List.getD_cons_succ, List.getElem?_cons_zero, List.getElem?_cons_succ, locOf, locOn, readLoc, takeN, Nat.add_zero, List.drop_zero, List.length_cons, List.length_nil, Nat.reduceAdd, Nat.le_refl, if_true, if_false, Bool.false_eq_true, List.take_succ_cons, List.take_zero, bindK, bindRes, bind1, Option.map_some, Option.bind_some, PEnv.push, List.cons_append, List.nil_append, List.append_nil, SV.pvs, SV.pv, BE.all, Bool.and_self, Bool.not_true, Bool.not_false, List.map_cons, List.map_nil, b1, b2, retP, or_true, hasB]
  cases leB 0 i <;> simp -implicitDefEqProofs only [↓reduceIte, eq_self, evb_ret, evb_ite, evb_need, evb_load, evb_app, evb_cut, evb_scut, evb_chk, evb_appF, evb_call, evb_callv, evb_newM, evb_mkM, evb_storeM, evb_appM, evb_mkMap, evb_mapGet, evb_mapSet, evb_mapClr, evb_jump, BE.safe, BE.pe, IE.pe, PEnv.at, List.getD_cons_zero, List.getD_cons_succ, List.getElem?_cons_zero, List.getElem?_cons_succ, locOf, locOn, readLoc, takeN, Nat.add_zero, List.drop_zero, List.length_cons, List.length_nil, Nat.reduceAdd, Nat.le_refl, if_true, if_false, Bool.false_eq_true, List.take_succ_cons, List.take_zero, bindK, bindRes, bind1, Option.map_some, Option.bind_some, PEnv.push, List.cons_append, List.nil_append, List.append_nil, SV.pvs, SV.pv, BE.all, Bool.and_self, Bool.not_true, Bool.not_false, List.map_cons, List.map_nil, b1, b2, retP, or_true, Bool.true_and, Bool.false_and]
theorem saleroomref37_bidder_sem (σ : List MO) (s : St) (hs : s.Ok) (i : Int) (n : Nat) (hn : 1 ≤ n) : evalF Tab n n_saleroomref37_bidder [.agg s.pv, .int .i64 i] σ = some (.bool (hasB s i), σ) := by
  obtain ⟨n, rfl⟩ : ∃ k, n = k + 1 := ⟨n - 1, by omega⟩
  obtain ⟨p1, p2, p3⟩ := rows_len hs.P
  obtain ⟨b1, b2, b3⟩ := rows_len hs.B
  rw [List.length_map] at p1 b1
  simp only [evalF, tab_saleroomref37_bidder, Option.bind_some, Sys.run, St.pv]
  show ((bindPs [.sh (.agg [_, _, _, _]), .sh (.one _)] _).bind _) = _
  simp -implicitDefEqProofs only [bindPs, bind1, bindK, Option.map_some, Option.bind_some, List.append_nil, List.nil_append, List.cons_append, if_true, p3, b3, hs.C, hs.A]
  show (PT.ev _ saleroomref37_bidder_s _).bind _ = _
  simp -implicitDefEqProofs only [saleroomref37_bidder_s, ↓reduceIte, eq_self, evb_ret, evb_ite, evb_need, evb_load, evb_app, evb_cut, evb_scut, evb_chk, evb_appF, evb_call, evb_callv, evb_newM, evb_mkM, evb_storeM, evb_appM, evb_mkMap, evb_mapGet, evb_mapSet, evb_mapClr, evb_jump, BE.safe, BE.pe, IE.pe, PEnv.at, List.getD_cons_zero, List.getD_cons_succ, List.getElem?_cons_zero, List.getElem?_cons_succ, locOf, locOn, readLoc, takeN, Nat.add_zero, List.drop_zero, List.length_cons, List.length_nil, Nat.reduceAdd, Nat.le_refl, if_true, if_false, Bool.false_eq_true, List.take_succ_cons, List.take_zero, bindK, bindRes, bind1, Option.map_some, Option.bind_some, PEnv.push, List.cons_append, List.nil_append, List.append_nil, SV.pvs, SV.pv, BE.all, Bool.and_self, Bool.not_true, Bool.not_false, List.map_cons, List.map_nil, b1, b2, retP, or_true, hasB]
  cases leB 0 i <;> simp -implicitDefEqProofs only [↓reduceIte, eq_self, evb_ret, evb_ite, evb_need, evb_load, evb_app, evb_cut, evb_scut, evb_chk, evb_appF, evb_call, evb_callv, evb_newM, evb_mkM, evb_storeM, evb_appM, evb_mkMap, evb_mapGet, evb_mapSet, evb_mapClr, evb_jump, BE.safe, BE.pe, IE.pe, PEnv.at, List.getD_cons_zero, List.getD_cons_succ, List.getElem?_cons_zero, List.getElem?_cons_succ, locOf, locOn, readLoc, takeN, Nat.add_zero, List.drop_zero, List.length_cons, List.length_nil, Nat.reduceAdd, Nat.le_refl, if_true, if_false, Bool.false_eq_true, List.take_succ_cons, List.take_zero, bindK, bindRes, bind1, Option.map_some, Option.bind_some, PEnv.push, List.cons_append, List.nil_append, List.append_nil, SV.pvs, SV.pv, BE.all, Bool.and_self, Bool.not_true, Bool.not_false, List.map_cons, List.map_nil, b1, b2, retP, or_true, Bool.true_and, Bool.false_and]
theorem rcost37_sem (σ : List MO) (p w : W6) (hp : p.pok) (hw : w.ok) (n : Nat) (hn : 1 ≤ n) : evalF Tab n n_saleroomref37_cost [.agg p.pv, .agg w.pv] σ = some (.int .i64 (costW p w), σ) := by
  obtain ⟨n, rfl⟩ : ∃ k, n = k + 1 := ⟨n - 1, by omega⟩
  simp only [evalF, tab_saleroomref37_cost, Option.bind_some, Sys.run, W6.pv]
  show ((bindPs [.sh (.agg [_, _, _, _, _, _]), .sh (.agg [_, _, _, _, _, _])] _).bind _) = _
  simp only [bindPs, bind1, bindK, Option.map_some, Option.bind_some, List.append_nil, List.nil_append, List.cons_append, if_true]
  show (PT.ev _ saleroomref37_cost_s _).bind _ = _
  obtain ⟨b0, b1, b2, b3, b4, b5⟩ := cost_bounds hp hw
  obtain ⟨a, b, c, d, e, f⟩ := p
  obtain ⟨a', b', c', d', e', f'⟩ := w
  simp only at b0 b1 b2 b3 b4 b5
  simp -implicitDefEqProofs only [saleroomref37_cost_s, ↓reduceIte, eq_self, PT.ev, BE.safe, BE.pe, IE.pe, PEnv.at, List.getD_cons_zero, List.getD_cons_succ, List.getElem?_cons_zero, List.getElem?_cons_succ, locOf, locOn, readLoc, takeN, Nat.add_zero, List.drop_zero, List.length_cons, List.length_nil, Nat.reduceAdd, Nat.le_refl, if_true, if_false, Bool.false_eq_true, List.take_succ_cons, List.take_zero, bindK, bindRes, bind1, Option.map_some, Option.bind_some, PEnv.push, List.cons_append, List.nil_append, List.append_nil, SV.pvs, SV.pv, BE.all, Bool.and_self, Bool.not_true, Bool.not_false, List.map_cons, List.map_nil, retP, or_true, Bool.and_eq_true, leB_true, costW]
  generalize a * a' = x0 at *
  generalize b * b' = x1 at *
  generalize c * c' = x2 at *
  generalize d * d' = x3 at *
  generalize e * e' = x4 at *
  generalize f * f' = x5 at *
  repeat rw [if_pos (by omega)]
  rfl
/-- What Affordable answers. -/
def affV (s : St) (i : Int) (x : Ch) : Int := if hasB s i = true then (match s.bs[i.toNat]? with | some b => if eqB b.b 0 = true then 0 else if ltB b.b (costW x.p x.w) = true then 17 else 0 | none => 0) else 6
theorem has_get {s : St} {i : Int} (h : hasB s i = true) : ∃ k : Nat, i = (k : Int) ∧ k < s.bs.length ∧ i.toNat = k := by
  simp only [hasB, Bool.and_eq_true, leB_true, ltB_true] at h
  exact ⟨i.toNat, by omega, by omega, rfl⟩
theorem rows_bds {l : List Bd} {i : Nat} {x : Bd} (h : l[i]? = some x) : (l.map Bd.row)[i]? = some x.row := by simp [h]
theorem activity_Affordable_sem (σ : List MO) (s : St) (hs : s.Ok) (i : Int) (x : Ch) (hx : x.ok) (n : Nat) (hn : 1 ≤ n) (hc : evalF Tab n n_bundle_Cost [.agg x.p.pv, .agg x.w.pv] σ = some (.int .i64 (costW x.p x.w), σ)) : evalF Tab (n + 1) n_activity_Affordable [.agg s.pv, .int .i64 i, .agg x.row] σ = some (.int .i64 (affV s i x), σ) := by
  obtain ⟨p1, p2, p3⟩ := rows_len hs.P
  obtain ⟨b1, b2, b3⟩ := rows_len hs.B
  rw [List.length_map] at p1 b1
  have c1 := activity_has_sem σ s hs i n hn
  simp only [n_activity_has, n_bundle_Cost, St.pv, W6.pv] at c1 hc
  rw [evalF]
  simp only [tab_activity_Affordable, Option.bind_some, Sys.run, St.pv, row_eq]
  show ((bindPs [.sh (.agg [_, _, _, _]), .sh (.one _), .sh (.agg [_, _, _, _, _, _, _, _, _, _, _, _])] _).bind _) = _
  simp -implicitDefEqProofs only [bindPs, bind1, bindK, Option.map_some, Option.bind_some, List.append_nil, List.nil_append, List.cons_append, if_true, p3, b3, hs.C, hs.A]
  show (PT.ev _ activity_Affordable_s _).bind _ = _
  simp -implicitDefEqProofs only [activity_Affordable_s, ↓reduceIte, eq_self, evb_ret, evb_ite, evb_need, evb_load, evb_app, evb_cut, evb_scut, evb_chk, evb_appF, evb_call, evb_callv, evb_newM, evb_mkM, evb_storeM, evb_appM, evb_mkMap, evb_mapGet, evb_mapSet, evb_mapClr, evb_jump, BE.safe, BE.pe, IE.pe, PEnv.at, List.getD_cons_zero, List.getD_cons_succ, List.getElem?_cons_zero, List.getElem?_cons_succ, locOf, locOn, readLoc, takeN, Nat.add_zero, List.drop_zero, List.length_cons, List.length_nil, Nat.reduceAdd, Nat.le_refl, if_true, if_false, Bool.false_eq_true, List.take_succ_cons, List.take_zero, bindK, bindRes, bind1, Option.map_some, Option.bind_some, PEnv.push, List.cons_append, List.nil_append, List.append_nil, SV.pvs, SV.pv, BE.all, Bool.and_self, Bool.not_true, Bool.not_false, List.map_cons, List.map_nil, c1, affV]
  cases hh : hasB s i with
  | false => simp -implicitDefEqProofs only [↓reduceIte, eq_self, evb_ret, evb_ite, evb_need, evb_load, evb_app, evb_cut, evb_scut, evb_chk, evb_appF, evb_call, evb_callv, evb_newM, evb_mkM, evb_storeM, evb_appM, evb_mkMap, evb_mapGet, evb_mapSet, evb_mapClr, evb_jump, BE.safe, BE.pe, IE.pe, PEnv.at, List.getD_cons_zero, List.getD_cons_succ, List.getElem?_cons_zero, List.getElem?_cons_succ, locOf, locOn, readLoc, takeN, Nat.add_zero, List.drop_zero, List.length_cons, List.length_nil, Nat.reduceAdd, Nat.le_refl, if_true, if_false, Bool.false_eq_true, List.take_succ_cons, List.take_zero, bindK, bindRes, bind1, Option.map_some, Option.bind_some, PEnv.push, List.cons_append, List.nil_append, List.append_nil, SV.pvs, SV.pv, BE.all, Bool.and_self, Bool.not_true, Bool.not_false, List.map_cons, List.map_nil, retP, or_true]
  | true =>
    obtain ⟨k, rfl, hk, hkn⟩ := has_get hh
    obtain ⟨b, hb⟩ := get_ex hk
    have hloc := rows_get (off := 2) hs.B (rows_bds hb)
    have hd : decide (k < s.bs.length) = true := decide_eq_true hk
    have dr : ∀ a b c d : PV, List.drop 2 [a, b, c, d] = [c, d] := fun _ _ _ _ => rfl
    have l12 : (1 : Nat) ≤ 2 := by decide
    rw [hkn, hb]
    simp -implicitDefEqProofs only [↓reduceIte, eq_self, evb_ret, evb_ite, evb_need, evb_load, evb_app, evb_cut, evb_scut, evb_chk, evb_appF, evb_call, evb_callv, evb_newM, evb_mkM, evb_storeM, evb_appM, evb_mkMap, evb_mapGet, evb_mapSet, evb_mapClr, evb_jump, BE.safe, BE.pe, IE.pe, PEnv.at, List.getD_cons_zero, List.getD_cons_succ, List.getElem?_cons_zero, List.getElem?_cons_succ, locOf, locOn, readLoc, takeN, Nat.add_zero, List.drop_zero, List.length_cons, List.length_nil, Nat.reduceAdd, Nat.le_refl, if_true, if_false, Bool.false_eq_true, List.take_succ_cons, List.take_zero, bindK, bindRes, bind1, Option.map_some, Option.bind_some, PEnv.push, List.cons_append, List.nil_append, List.append_nil, SV.pvs, SV.pv, BE.all, Bool.and_self, Bool.not_true, Bool.not_false, List.map_cons, List.map_nil, b1, ltB_nat, hd, le0, hloc, bd_row, dr, if_pos l12]
    cases eqB b.b 0 with
    | true => simp -implicitDefEqProofs only [↓reduceIte, eq_self, evb_ret, evb_ite, evb_need, evb_load, evb_app, evb_cut, evb_scut, evb_chk, evb_appF, evb_call, evb_callv, evb_newM, evb_mkM, evb_storeM, evb_appM, evb_mkMap, evb_mapGet, evb_mapSet, evb_mapClr, evb_jump, BE.safe, BE.pe, IE.pe, PEnv.at, List.getD_cons_zero, List.getD_cons_succ, List.getElem?_cons_zero, List.getElem?_cons_succ, locOf, locOn, readLoc, takeN, Nat.add_zero, List.drop_zero, List.length_cons, List.length_nil, Nat.reduceAdd, Nat.le_refl, if_true, if_false, Bool.false_eq_true, List.take_succ_cons, List.take_zero, bindK, bindRes, bind1, Option.map_some, Option.bind_some, PEnv.push, List.cons_append, List.nil_append, List.append_nil, SV.pvs, SV.pv, BE.all, Bool.and_self, Bool.not_true, Bool.not_false, List.map_cons, List.map_nil, retP, or_true]
    | false =>
      simp -implicitDefEqProofs only [↓reduceIte, eq_self, evb_ret, evb_ite, evb_need, evb_load, evb_app, evb_cut, evb_scut, evb_chk, evb_appF, evb_call, evb_callv, evb_newM, evb_mkM, evb_storeM, evb_appM, evb_mkMap, evb_mapGet, evb_mapSet, evb_mapClr, evb_jump, BE.safe, BE.pe, IE.pe, PEnv.at, List.getD_cons_zero, List.getD_cons_succ, List.getElem?_cons_zero, List.getElem?_cons_succ, locOf, locOn, readLoc, takeN, Nat.add_zero, List.drop_zero, List.length_cons, List.length_nil, Nat.reduceAdd, Nat.le_refl, if_true, if_false, Bool.false_eq_true, List.take_succ_cons, List.take_zero, bindK, bindRes, bind1, Option.map_some, Option.bind_some, PEnv.push, List.cons_append, List.nil_append, List.append_nil, SV.pvs, SV.pv, BE.all, Bool.and_self, Bool.not_true, Bool.not_false, List.map_cons, List.map_nil, b1, ltB_nat, hd, le0, hloc, bd_row, dr, if_pos l12, hc]
      cases ltB b.b (costW x.p x.w) <;> simp -implicitDefEqProofs only [↓reduceIte, eq_self, evb_ret, evb_ite, evb_need, evb_load, evb_app, evb_cut, evb_scut, evb_chk, evb_appF, evb_call, evb_callv, evb_newM, evb_mkM, evb_storeM, evb_appM, evb_mkMap, evb_mapGet, evb_mapSet, evb_mapClr, evb_jump, BE.safe, BE.pe, IE.pe, PEnv.at, List.getD_cons_zero, List.getD_cons_succ, List.getElem?_cons_zero, List.getElem?_cons_succ, locOf, locOn, readLoc, takeN, Nat.add_zero, List.drop_zero, List.length_cons, List.length_nil, Nat.reduceAdd, Nat.le_refl, if_true, if_false, Bool.false_eq_true, List.take_succ_cons, List.take_zero, bindK, bindRes, bind1, Option.map_some, Option.bind_some, PEnv.push, List.cons_append, List.nil_append, List.append_nil, SV.pvs, SV.pv, BE.all, Bool.and_self, Bool.not_true, Bool.not_false, List.map_cons, List.map_nil, retP, or_true]
theorem saleroomref37_Affordable_sem (σ : List MO) (s : St) (hs : s.Ok) (i : Int) (x : Ch) (hx : x.ok) (n : Nat) (hn : 1 ≤ n) (hc : evalF Tab n n_saleroomref37_cost [.agg x.p.pv, .agg x.w.pv] σ = some (.int .i64 (costW x.p x.w), σ)) : evalF Tab (n + 1) n_saleroomref37_Affordable [.agg s.pv, .int .i64 i, .agg x.row] σ = some (.int .i64 (affV s i x), σ) := by
  obtain ⟨p1, p2, p3⟩ := rows_len hs.P
  obtain ⟨b1, b2, b3⟩ := rows_len hs.B
  rw [List.length_map] at p1 b1
  have c1 := saleroomref37_bidder_sem σ s hs i n hn
  simp only [n_saleroomref37_bidder, n_saleroomref37_cost, St.pv, W6.pv] at c1 hc
  rw [evalF]
  simp only [tab_saleroomref37_Affordable, Option.bind_some, Sys.run, St.pv, row_eq]
  show ((bindPs [.sh (.agg [_, _, _, _]), .sh (.one _), .sh (.agg [_, _, _, _, _, _, _, _, _, _, _, _])] _).bind _) = _
  simp -implicitDefEqProofs only [bindPs, bind1, bindK, Option.map_some, Option.bind_some, List.append_nil, List.nil_append, List.cons_append, if_true, p3, b3, hs.C, hs.A]
  show (PT.ev _ saleroomref37_Affordable_s _).bind _ = _
  simp -implicitDefEqProofs only [saleroomref37_Affordable_s, ↓reduceIte, eq_self, evb_ret, evb_ite, evb_need, evb_load, evb_app, evb_cut, evb_scut, evb_chk, evb_appF, evb_call, evb_callv, evb_newM, evb_mkM, evb_storeM, evb_appM, evb_mkMap, evb_mapGet, evb_mapSet, evb_mapClr, evb_jump, BE.safe, BE.pe, IE.pe, PEnv.at, List.getD_cons_zero, List.getD_cons_succ, List.getElem?_cons_zero, List.getElem?_cons_succ, locOf, locOn, readLoc, takeN, Nat.add_zero, List.drop_zero, List.length_cons, List.length_nil, Nat.reduceAdd, Nat.le_refl, if_true, if_false, Bool.false_eq_true, List.take_succ_cons, List.take_zero, bindK, bindRes, bind1, Option.map_some, Option.bind_some, PEnv.push, List.cons_append, List.nil_append, List.append_nil, SV.pvs, SV.pv, BE.all, Bool.and_self, Bool.not_true, Bool.not_false, List.map_cons, List.map_nil, c1, affV]
  cases hh : hasB s i with
  | false => simp -implicitDefEqProofs only [↓reduceIte, eq_self, evb_ret, evb_ite, evb_need, evb_load, evb_app, evb_cut, evb_scut, evb_chk, evb_appF, evb_call, evb_callv, evb_newM, evb_mkM, evb_storeM, evb_appM, evb_mkMap, evb_mapGet, evb_mapSet, evb_mapClr, evb_jump, BE.safe, BE.pe, IE.pe, PEnv.at, List.getD_cons_zero, List.getD_cons_succ, List.getElem?_cons_zero, List.getElem?_cons_succ, locOf, locOn, readLoc, takeN, Nat.add_zero, List.drop_zero, List.length_cons, List.length_nil, Nat.reduceAdd, Nat.le_refl, if_true, if_false, Bool.false_eq_true, List.take_succ_cons, List.take_zero, bindK, bindRes, bind1, Option.map_some, Option.bind_some, PEnv.push, List.cons_append, List.nil_append, List.append_nil, SV.pvs, SV.pv, BE.all, Bool.and_self, Bool.not_true, Bool.not_false, List.map_cons, List.map_nil, retP, or_true]
  | true =>
    obtain ⟨k, rfl, hk, hkn⟩ := has_get hh
    obtain ⟨b, hb⟩ := get_ex hk
    have hloc := rows_get (off := 2) hs.B (rows_bds hb)
    have hd : decide (k < s.bs.length) = true := decide_eq_true hk
    have dr : ∀ a b c d : PV, List.drop 2 [a, b, c, d] = [c, d] := fun _ _ _ _ => rfl
    have l12 : (1 : Nat) ≤ 2 := by decide
    rw [hkn, hb]
    simp -implicitDefEqProofs only [↓reduceIte, eq_self, evb_ret, evb_ite, evb_need, evb_load, evb_app, evb_cut, evb_scut, evb_chk, evb_appF, evb_call, evb_callv, evb_newM, evb_mkM, evb_storeM, evb_appM, evb_mkMap, evb_mapGet, evb_mapSet, evb_mapClr, evb_jump, BE.safe, BE.pe, IE.pe, PEnv.at, List.getD_cons_zero, List.getD_cons_succ, List.getElem?_cons_zero, List.getElem?_cons_succ, locOf, locOn, readLoc, takeN, Nat.add_zero, List.drop_zero, List.length_cons, List.length_nil, Nat.reduceAdd, Nat.le_refl, if_true, if_false, Bool.false_eq_true, List.take_succ_cons, List.take_zero, bindK, bindRes, bind1, Option.map_some, Option.bind_some, PEnv.push, List.cons_append, List.nil_append, List.append_nil, SV.pvs, SV.pv, BE.all, Bool.and_self, Bool.not_true, Bool.not_false, List.map_cons, List.map_nil, b1, ltB_nat, hd, le0, hloc, bd_row, dr, if_pos l12]
    cases eqB b.b 0 with
    | true => simp -implicitDefEqProofs only [↓reduceIte, eq_self, evb_ret, evb_ite, evb_need, evb_load, evb_app, evb_cut, evb_scut, evb_chk, evb_appF, evb_call, evb_callv, evb_newM, evb_mkM, evb_storeM, evb_appM, evb_mkMap, evb_mapGet, evb_mapSet, evb_mapClr, evb_jump, BE.safe, BE.pe, IE.pe, PEnv.at, List.getD_cons_zero, List.getD_cons_succ, List.getElem?_cons_zero, List.getElem?_cons_succ, locOf, locOn, readLoc, takeN, Nat.add_zero, List.drop_zero, List.length_cons, List.length_nil, Nat.reduceAdd, Nat.le_refl, if_true, if_false, Bool.false_eq_true, List.take_succ_cons, List.take_zero, bindK, bindRes, bind1, Option.map_some, Option.bind_some, PEnv.push, List.cons_append, List.nil_append, List.append_nil, SV.pvs, SV.pv, BE.all, Bool.and_self, Bool.not_true, Bool.not_false, List.map_cons, List.map_nil, retP, or_true]
    | false =>
      simp -implicitDefEqProofs only [↓reduceIte, eq_self, evb_ret, evb_ite, evb_need, evb_load, evb_app, evb_cut, evb_scut, evb_chk, evb_appF, evb_call, evb_callv, evb_newM, evb_mkM, evb_storeM, evb_appM, evb_mkMap, evb_mapGet, evb_mapSet, evb_mapClr, evb_jump, BE.safe, BE.pe, IE.pe, PEnv.at, List.getD_cons_zero, List.getD_cons_succ, List.getElem?_cons_zero, List.getElem?_cons_succ, locOf, locOn, readLoc, takeN, Nat.add_zero, List.drop_zero, List.length_cons, List.length_nil, Nat.reduceAdd, Nat.le_refl, if_true, if_false, Bool.false_eq_true, List.take_succ_cons, List.take_zero, bindK, bindRes, bind1, Option.map_some, Option.bind_some, PEnv.push, List.cons_append, List.nil_append, List.append_nil, SV.pvs, SV.pv, BE.all, Bool.and_self, Bool.not_true, Bool.not_false, List.map_cons, List.map_nil, b1, ltB_nat, hd, le0, hloc, bd_row, dr, if_pos l12, hc]
      cases ltB b.b (costW x.p x.w) <;> simp -implicitDefEqProofs only [↓reduceIte, eq_self, evb_ret, evb_ite, evb_need, evb_load, evb_app, evb_cut, evb_scut, evb_chk, evb_appF, evb_call, evb_callv, evb_newM, evb_mkM, evb_storeM, evb_appM, evb_mkMap, evb_mapGet, evb_mapSet, evb_mapClr, evb_jump, BE.safe, BE.pe, IE.pe, PEnv.at, List.getD_cons_zero, List.getD_cons_succ, List.getElem?_cons_zero, List.getElem?_cons_succ, locOf, locOn, readLoc, takeN, Nat.add_zero, List.drop_zero, List.length_cons, List.length_nil, Nat.reduceAdd, Nat.le_refl, if_true, if_false, Bool.false_eq_true, List.take_succ_cons, List.take_zero, bindK, bindRes, bind1, Option.map_some, Option.bind_some, PEnv.push, List.cons_append, List.nil_append, List.append_nil, SV.pvs, SV.pv, BE.all, Bool.and_self, Bool.not_true, Bool.not_false, List.map_cons, List.map_nil, retP, or_true]
end Go.Proofs.Ythjahianafohjaa
set_option maxRecDepth 100000
namespace Go.Proofs.Ythjahianafohjaa
open Go.Sx
def modB (l : List Ch) : Bool := !ltB 30 (l.length : Int) && l.all fun x => decide x.ok
theorem dr12 (a b c d e f a' b' c' d' e' f' : PV) : List.drop 1 [a, b, c, d, e, f, a', b', c', d', e', f'] = [b, c, d, e, f, a', b', c', d', e', f'] ∧ List.drop 2 [a, b, c, d, e, f, a', b', c', d', e', f'] = [c, d, e, f, a', b', c', d', e', f'] ∧
    List.drop 3 [a, b, c, d, e, f, a', b', c', d', e', f'] = [d, e, f, a', b', c', d', e', f'] ∧ List.drop 4 [a, b, c, d, e, f, a', b', c', d', e', f'] = [e, f, a', b', c', d', e', f'] ∧ List.drop 5 [a, b, c, d, e, f, a', b', c', d', e', f'] = [f, a', b', c', d', e', f'] := ⟨rfl, rfl, rfl, rfl, rfl⟩
theorem mod_sem (σ : List MO) (l : List Ch) (P : PV) (hP : P.rowsOf 12 = some (l.map Ch.row)) (n : Nat) (hn : 100 ≤ n) :
    evalF Tab n n_saleroomref37_Moderate [P] σ = some (.bool (modB l), σ) := by
  obtain ⟨n, rfl⟩ : ∃ k, n = k + 1 := ⟨n - 1, by omega⟩
  obtain ⟨p1, p2, p3⟩ := rows_len hP
  rw [List.length_map] at p1
  simp only [evalF, tab_saleroomref37_Moderate, Option.bind_some, Sys.run]
  show ((bindPs [.sh (.one _)] _).bind _) = _
  simp -implicitDefEqProofs only [bindPs, bind1, bindK, Option.map_some, Option.bind_some, List.append_nil, List.nil_append, List.cons_append, if_true, p3]
  show (PT.ev _ saleroomref37_Moderate_s _).bind _ = _
  simp -implicitDefEqProofs only [saleroomref37_Moderate_s, ↓reduceIte, eq_self, evb_ret, evb_ite, evb_need, evb_load, evb_app, evb_cut, evb_scut, evb_chk, evb_appF, evb_call, evb_callv, evb_newM, evb_mkM, evb_storeM, evb_appM, evb_mkMap, evb_mapGet, evb_mapSet, evb_mapClr, evb_jump, BE.safe, BE.pe, IE.pe, PEnv.at, List.getD_cons_zero, List.getD_cons_succ, List.getElem?_cons_zero, List.getElem?_cons_succ, locOf, locOn, readLoc, takeN, Nat.add_zero, List.drop_zero, List.length_cons, List.length_nil, Nat.reduceAdd, Nat.le_refl, if_true, if_false, Bool.false_eq_true, List.take_succ_cons, List.take_zero, bindK, bindRes, bind1, Option.map_some, Option.bind_some, PEnv.push, List.cons_append, List.nil_append, List.append_nil, SV.pvs, SV.pv, BE.all, Bool.and_self, Bool.not_true, Bool.not_false, List.map_cons, List.map_nil, p1, p2, modB]
  cases h30 : ltB 30 (l.length : Int) with
  | true => simp -implicitDefEqProofs only [↓reduceIte, eq_self, evb_ret, evb_ite, evb_need, evb_load, evb_app, evb_cut, evb_scut, evb_chk, evb_appF, evb_call, evb_callv, evb_newM, evb_mkM, evb_storeM, evb_appM, evb_mkMap, evb_mapGet, evb_mapSet, evb_mapClr, evb_jump, BE.safe, BE.pe, IE.pe, PEnv.at, List.getD_cons_zero, List.getD_cons_succ, List.getElem?_cons_zero, List.getElem?_cons_succ, locOf, locOn, readLoc, takeN, Nat.add_zero, List.drop_zero, List.length_cons, List.length_nil, Nat.reduceAdd, Nat.le_refl, if_true, if_false, Bool.false_eq_true, List.take_succ_cons, List.take_zero, bindK, bindRes, bind1, Option.map_some, Option.bind_some, PEnv.push, List.cons_append, List.nil_append, List.append_nil, SV.pvs, SV.pv, BE.all, Bool.and_self, Bool.not_true, Bool.not_false, List.map_cons, List.map_nil, retP, or_true, Bool.false_and]
  | false =>
    rw [ltB_false] at h30
    have loop : ∀ d i, i + d = l.length → ∀ fuel, saleroomref37_Moderate_S.loop (evalF Tab n) (fuel + d + 1) 0 { i := [(i : Int)], b := [], v := [P], m := σ, k := σ.length } = some (.bool ((l.drop i).all fun x => decide x.ok), σ) := by
      intro d
      induction d with
      | zero =>
        intro i hi fuel
        rw [Nat.add_zero] at hi; subst hi
        have hd : decide (l.length < l.length) = false := by simp
        rw [Sys.loop, show saleroomref37_Moderate_S.loops[0]? = some saleroomref37_Moderate_t0 from rfl, List.drop_length]
        simp -implicitDefEqProofs only [Option.bind_some, saleroomref37_Moderate_t0, ↓reduceIte, eq_self, evb_ret, evb_ite, evb_need, evb_load, evb_app, evb_cut, evb_scut, evb_chk, evb_appF, evb_call, evb_callv, evb_newM, evb_mkM, evb_storeM, evb_appM, evb_mkMap, evb_mapGet, evb_mapSet, evb_mapClr, evb_jump, BE.safe, BE.pe, IE.pe, PEnv.at, List.getD_cons_zero, List.getD_cons_succ, List.getElem?_cons_zero, List.getElem?_cons_succ, locOf, locOn, readLoc, takeN, Nat.add_zero, List.drop_zero, List.length_cons, List.length_nil, Nat.reduceAdd, Nat.le_refl, if_true, if_false, Bool.false_eq_true, List.take_succ_cons, List.take_zero, bindK, bindRes, bind1, Option.map_some, Option.bind_some, PEnv.push, List.cons_append, List.nil_append, List.append_nil, SV.pvs, SV.pv, BE.all, Bool.and_self, Bool.not_true, Bool.not_false, List.map_cons, List.map_nil, p1, p2, ltB_nat, hd, retP, or_true, List.all_nil]
      | succ d ih =>
        intro i hi fuel
        have hlt : i < l.length := by omega
        obtain ⟨x, hx⟩ := get_ex hlt
        have hd : decide (i < l.length) = true := decide_eq_true hlt
        have h0 := rows_get (off := 0) hP (rows_chs hx)
        have h1 := rows_get (off := 1) hP (rows_chs hx)
        have h2 := rows_get (off := 2) hP (rows_chs hx)
        have h3 := rows_get (off := 3) hP (rows_chs hx)
        have h4 := rows_get (off := 4) hP (rows_chs hx)
        have h5 := rows_get (off := 5) hP (rows_chs hx)
        have h6 := rows_get (off := 6) hP (rows_chs hx)
        have c1 := saleroomref07_Check_sem σ x.w n (by omega)
        have hb : eqB (bchk x.w) 0 = decide x.w.ok := by
          unfold bchk
          by_cases h : x.w.ok
          · rw [if_pos h, decide_eq_true h]; rfl
          · rw [if_neg h, decide_eq_false h]; rfl
        have e : ∀ k, k < 12 → (1 : Nat) ≤ 12 - k := by omega
        rw [drop_cons hx, List.all_cons, Ch.ok_dec, Sys.loop, show saleroomref37_Moderate_S.loops[0]? = some saleroomref37_Moderate_t0 from rfl]
        generalize bchk x.w = y at *
        simp only [n_saleroomref07_Check, W6.pv] at c1
        simp -implicitDefEqProofs only [Option.bind_some, saleroomref37_Moderate_t0, ↓reduceIte, eq_self, evb_ret, evb_ite, evb_need, evb_load, evb_app, evb_cut, evb_scut, evb_chk, evb_appF, evb_call, evb_callv, evb_newM, evb_mkM, evb_storeM, evb_appM, evb_mkMap, evb_mapGet, evb_mapSet, evb_mapClr, evb_jump, BE.safe, BE.pe, IE.pe, PEnv.at, List.getD_cons_zero, List.getD_cons_succ, List.getElem?_cons_zero, List.getElem?_cons_succ, locOf, locOn, readLoc, takeN, Nat.add_zero, List.drop_zero, List.length_cons, List.length_nil, Nat.reduceAdd, Nat.le_refl, if_true, if_false, Bool.false_eq_true, List.take_succ_cons, List.take_zero, bindK, bindRes, bind1, Option.map_some, Option.bind_some, PEnv.push, List.cons_append, List.nil_append, List.append_nil, SV.pvs, SV.pv, BE.all, Bool.and_self, Bool.not_true, Bool.not_false, List.map_cons, List.map_nil, p1, p2, ltB_nat, hd, le0, h6, row_eq, drop6, c1, hb]
        by_cases hw : x.w.ok
        case neg =>
          rw [decide_eq_false hw, Bool.and_false, Bool.false_and]
          simp -implicitDefEqProofs only [↓reduceIte, eq_self, evb_ret, evb_ite, evb_need, evb_load, evb_app, evb_cut, evb_scut, evb_chk, evb_appF, evb_call, evb_callv, evb_newM, evb_mkM, evb_storeM, evb_appM, evb_mkMap, evb_mapGet, evb_mapSet, evb_mapClr, evb_jump, BE.safe, BE.pe, IE.pe, PEnv.at, List.getD_cons_zero, List.getD_cons_succ, List.getElem?_cons_zero, List.getElem?_cons_succ, locOf, locOn, readLoc, takeN, Nat.add_zero, List.drop_zero, List.length_cons, List.length_nil, Nat.reduceAdd, Nat.le_refl, if_true, if_false, Bool.false_eq_true, List.take_succ_cons, List.take_zero, bindK, bindRes, bind1, Option.map_some, Option.bind_some, PEnv.push, List.cons_append, List.nil_append, List.append_nil, SV.pvs, SV.pv, BE.all, Bool.and_self, Bool.not_true, Bool.not_false, List.map_cons, List.map_nil, retP, or_true]
        rw [decide_eq_true hw, Bool.and_true]
        have ih := ih (i + 1) (by omega) fuel
        rw [nat_succ] at ih
        have hup := up_ok (show i ≤ 1000000000 by omega)
        obtain ⟨⟨a, b, c, d', e', f⟩, w⟩ := x
        obtain ⟨g1, g2, g3, g4, g5⟩ := dr12 (.int .i64 a) (.int .i64 b) (.int .i64 c) (.int .i64 d') (.int .i64 e') (.int .i64 f) (.int .i64 w.a) (.int .i64 w.b) (.int .i64 w.c) (.int .i64 w.d) (.int .i64 w.e) (.int .i64 w.f)
        simp -implicitDefEqProofs only [↓reduceIte, eq_self, evb_ret, evb_ite, evb_need, evb_load, evb_app, evb_cut, evb_scut, evb_chk, evb_appF, evb_call, evb_callv, evb_newM, evb_mkM, evb_storeM, evb_appM, evb_mkMap, evb_mapGet, evb_mapSet, evb_mapClr, evb_jump, BE.safe, BE.pe, IE.pe, PEnv.at, List.getD_cons_zero, List.getD_cons_succ, List.getElem?_cons_zero, List.getElem?_cons_succ, locOf, locOn, readLoc, takeN, Nat.add_zero, List.drop_zero, List.length_cons, List.length_nil, Nat.reduceAdd, Nat.le_refl, if_true, if_false, Bool.false_eq_true, List.take_succ_cons, List.take_zero, bindK, bindRes, bind1, Option.map_some, Option.bind_some, PEnv.push, List.cons_append, List.nil_append, List.append_nil, SV.pvs, SV.pv, BE.all, Bool.and_self, Bool.not_true, Bool.not_false, List.map_cons, List.map_nil, p1, ltB_nat, hd, le0, h0, h1, h2, h3, h4, h5, row_eq, g1, g2, g3, g4, g5, Nat.reduceLeDiff, if_pos hup]
        simp only [ltB_true]
        by_cases hok : (⟨a, b, c, d', e', f⟩ : W6).pok
        · rw [decide_eq_true hok]
          simp only [W6.pok] at hok
          repeat rw [if_neg (by omega)]
          simp only [Option.bind_some, Bool.true_and]
          exact ih
        · rw [decide_eq_false hok]
          simp only [W6.pok] at hok
          simp -implicitDefEqProofs only [retP, ↓reduceIte, eq_self, evb_ret, evb_ite, evb_need, evb_load, evb_app, evb_cut, evb_scut, evb_chk, evb_appF, evb_call, evb_callv, evb_newM, evb_mkM, evb_storeM, evb_appM, evb_mkMap, evb_mapGet, evb_mapSet, evb_mapClr, evb_jump, BE.safe, BE.pe, IE.pe, PEnv.at, List.getD_cons_zero, List.getD_cons_succ, List.getElem?_cons_zero, List.getElem?_cons_succ, locOf, locOn, readLoc, takeN, Nat.add_zero, List.drop_zero, List.length_cons, List.length_nil, Nat.reduceAdd, Nat.le_refl, if_true, if_false, Bool.false_eq_true, List.take_succ_cons, List.take_zero, bindK, bindRes, bind1, Option.map_some, Option.bind_some, PEnv.push, List.cons_append, List.nil_append, List.append_nil, SV.pvs, SV.pv, BE.all, Bool.and_self, Bool.not_true, Bool.not_false, List.map_cons, List.map_nil, or_true, Bool.false_and]
          by_cases k1 : a < 0
          · rw [if_pos k1]; rfl
          rw [if_neg k1]
          by_cases k2 : 1000000 < a
          · rw [if_pos k2]; rfl
          rw [if_neg k2]
          by_cases k3 : b < 0
          · rw [if_pos k3]; rfl
          rw [if_neg k3]
          by_cases k4 : 1000000 < b
          · rw [if_pos k4]; rfl
          rw [if_neg k4]
          by_cases k5 : c < 0
          · rw [if_pos k5]; rfl
          rw [if_neg k5]
          by_cases k6 : 1000000 < c
          · rw [if_pos k6]; rfl
          rw [if_neg k6]
          by_cases k7 : d' < 0
          · rw [if_pos k7]; rfl
          rw [if_neg k7]
          by_cases k8 : 1000000 < d'
          · rw [if_pos k8]; rfl
          rw [if_neg k8]
          by_cases k9 : e' < 0
          · rw [if_pos k9]; rfl
          rw [if_neg k9]
          by_cases k10 : 1000000 < e'
          · rw [if_pos k10]; rfl
          rw [if_neg k10]
          by_cases k11 : f < 0
          · rw [if_pos k11]; rfl
          rw [if_neg k11]
          by_cases k12 : 1000000 < f
          · rw [if_pos k12]; rfl
          exfalso; omega
    have := loop l.length 0 (by omega) (n - l.length - 1)
    rw [show n - l.length - 1 + l.length + 1 = n by omega, List.drop_zero] at this
    simp -implicitDefEqProofs only [↓reduceIte, eq_self, evb_ret, evb_ite, evb_need, evb_load, evb_app, evb_cut, evb_scut, evb_chk, evb_appF, evb_call, evb_callv, evb_newM, evb_mkM, evb_storeM, evb_appM, evb_mkMap, evb_mapGet, evb_mapSet, evb_mapClr, evb_jump, BE.safe, BE.pe, IE.pe, PEnv.at, List.getD_cons_zero, List.getD_cons_succ, List.getElem?_cons_zero, List.getElem?_cons_succ, locOf, locOn, readLoc, takeN, Nat.add_zero, List.drop_zero, List.length_cons, List.length_nil, Nat.reduceAdd, Nat.le_refl, if_true, if_false, Bool.false_eq_true, List.take_succ_cons, List.take_zero, bindK, bindRes, bind1, Option.map_some, Option.bind_some, PEnv.push, List.cons_append, List.nil_append, List.append_nil, SV.pvs, SV.pv, BE.all, Bool.and_self, Bool.not_true, Bool.not_false, List.map_cons, List.map_nil]
    exact this
end Go.Proofs.Ythjahianafohjaa
set_option maxRecDepth 100000
namespace Go.Proofs.Ythjahianafohjaa
open Go.Sx
def lowZ (z : Int) : Bool := leB 97 z && leB z 122
def digZ (z : Int) : Bool := leB 48 z && leB z 57
def innZ (z : Int) : Bool := lowZ z || (digZ z || eqB z 95)
def innC (c : UInt8) : Bool := innZ (c.toNat : Int)
theorem sAt_get {l : List UInt8} {i : Nat} {c : UInt8} (h : l[i]? = some c) : PV.sAt (.str l) (i : Int) = (c.toNat : Int) := by simp [PV.sAt, h]
theorem sLen_eq (l : List UInt8) : PV.sLen (.str l) = (l.length : Int) := rfl
theorem is3 (l : List UInt8) : PV.isKind 3 (.str l) = true := rfl
theorem one_str (l : List UInt8) : PV.one (.str l) = true := rfl
theorem one_fn (f : Nat) (l : List PV) : PV.one (.fn f l) = true := rfl
theorem sEq_eq (a b : List UInt8) : PV.sEq (.str a) (.str b) = decide (a = b) := rfl
theorem sIs_eq (a b : List UInt8) : PV.sIs b (.str a) = decide (a = b) := rfl
theorem u8_bd (c : UInt8) : (0 : Int) ≤ (c.toNat : Int) ∧ (c.toNat : Int) ≤ 255 := by have := c.toNat_lt; omega
theorem letter_sem (σ : List MO) (z : Int) (n : Nat) (hn : 1 ≤ n) : evalF Tab n n_lexer_letter [.int .i32 z] σ = some (.bool (lowZ z), σ) := by
  obtain ⟨n, rfl⟩ : ∃ k, n = k + 1 := ⟨n - 1, by omega⟩
  simp only [evalF, tab_lexer_letter, Option.bind_some, Sys.run]
  show ((bindPs [.sh (.one _)] _).bind _) = _
  simp -implicitDefEqProofs only [bindPs, bind1, bindK, Option.map_some, Option.bind_some, List.append_nil, List.nil_append, List.cons_append, if_true]
  show (PT.ev _ lexer_letter_s _).bind _ = _
  simp -implicitDefEqProofs only [lexer_letter_s, ↓reduceIte, eq_self, evb_ret, evb_ite, evb_need, evb_load, evb_app, evb_cut, evb_scut, evb_chk, evb_appF, evb_call, evb_callv, evb_newM, evb_mkM, evb_storeM, evb_appM, evb_mkMap, evb_mapGet, evb_mapSet, evb_mapClr, evb_jump, BE.safe, BE.pe, IE.pe, PEnv.at, List.getD_cons_zero, List.getD_cons_succ, List.getElem?_cons_zero, List.getElem?_cons_succ, locOf, locOn, readLoc, takeN, Nat.add_zero, List.drop_zero, List.length_cons, List.length_nil, Nat.reduceAdd, Nat.le_refl, if_true, if_false, Bool.false_eq_true, List.take_succ_cons, List.take_zero, bindK, bindRes, bind1, Option.map_some, Option.bind_some, PEnv.push, List.cons_append, List.nil_append, List.append_nil, SV.pvs, SV.pv, BE.all, Bool.and_self, Bool.not_true, Bool.not_false, List.map_cons, List.map_nil, lowZ]
  cases leB 97 z <;> simp -implicitDefEqProofs only [↓reduceIte, eq_self, evb_ret, evb_ite, evb_need, evb_load, evb_app, evb_cut, evb_scut, evb_chk, evb_appF, evb_call, evb_callv, evb_newM, evb_mkM, evb_storeM, evb_appM, evb_mkMap, evb_mapGet, evb_mapSet, evb_mapClr, evb_jump, BE.safe, BE.pe, IE.pe, PEnv.at, List.getD_cons_zero, List.getD_cons_succ, List.getElem?_cons_zero, List.getElem?_cons_succ, locOf, locOn, readLoc, takeN, Nat.add_zero, List.drop_zero, List.length_cons, List.length_nil, Nat.reduceAdd, Nat.le_refl, if_true, if_false, Bool.false_eq_true, List.take_succ_cons, List.take_zero, bindK, bindRes, bind1, Option.map_some, Option.bind_some, PEnv.push, List.cons_append, List.nil_append, List.append_nil, SV.pvs, SV.pv, BE.all, Bool.and_self, Bool.not_true, Bool.not_false, List.map_cons, List.map_nil, retP, or_true, Bool.true_and, Bool.false_and]
theorem digit_sem (σ : List MO) (z : Int) (n : Nat) (hn : 1 ≤ n) : evalF Tab n n_lexer_digit [.int .i32 z] σ = some (.bool (digZ z), σ) := by
  obtain ⟨n, rfl⟩ : ∃ k, n = k + 1 := ⟨n - 1, by omega⟩
  simp only [evalF, tab_lexer_digit, Option.bind_some, Sys.run]
  show ((bindPs [.sh (.one _)] _).bind _) = _
  simp -implicitDefEqProofs only [bindPs, bind1, bindK, Option.map_some, Option.bind_some, List.append_nil, List.nil_append, List.cons_append, if_true]
  show (PT.ev _ lexer_digit_s _).bind _ = _
  simp -implicitDefEqProofs only [lexer_digit_s, ↓reduceIte, eq_self, evb_ret, evb_ite, evb_need, evb_load, evb_app, evb_cut, evb_scut, evb_chk, evb_appF, evb_call, evb_callv, evb_newM, evb_mkM, evb_storeM, evb_appM, evb_mkMap, evb_mapGet, evb_mapSet, evb_mapClr, evb_jump, BE.safe, BE.pe, IE.pe, PEnv.at, List.getD_cons_zero, List.getD_cons_succ, List.getElem?_cons_zero, List.getElem?_cons_succ, locOf, locOn, readLoc, takeN, Nat.add_zero, List.drop_zero, List.length_cons, List.length_nil, Nat.reduceAdd, Nat.le_refl, if_true, if_false, Bool.false_eq_true, List.take_succ_cons, List.take_zero, bindK, bindRes, bind1, Option.map_some, Option.bind_some, PEnv.push, List.cons_append, List.nil_append, List.append_nil, SV.pvs, SV.pv, BE.all, Bool.and_self, Bool.not_true, Bool.not_false, List.map_cons, List.map_nil, digZ]
  cases leB 48 z <;> simp -implicitDefEqProofs only [↓reduceIte, eq_self, evb_ret, evb_ite, evb_need, evb_load, evb_app, evb_cut, evb_scut, evb_chk, evb_appF, evb_call, evb_callv, evb_newM, evb_mkM, evb_storeM, evb_appM, evb_mkMap, evb_mapGet, evb_mapSet, evb_mapClr, evb_jump, BE.safe, BE.pe, IE.pe, PEnv.at, List.getD_cons_zero, List.getD_cons_succ, List.getElem?_cons_zero, List.getElem?_cons_succ, locOf, locOn, readLoc, takeN, Nat.add_zero, List.drop_zero, List.length_cons, List.length_nil, Nat.reduceAdd, Nat.le_refl, if_true, if_false, Bool.false_eq_true, List.take_succ_cons, List.take_zero, bindK, bindRes, bind1, Option.map_some, Option.bind_some, PEnv.push, List.cons_append, List.nil_append, List.append_nil, SV.pvs, SV.pv, BE.all, Bool.and_self, Bool.not_true, Bool.not_false, List.map_cons, List.map_nil, retP, or_true, Bool.true_and, Bool.false_and]
theorem inner_sem (σ : List MO) (z : Int) (n : Nat) (hn : 2 ≤ n) : evalF Tab n n_lexer_inner [.int .i32 z] σ = some (.bool (innZ z), σ) := by
  obtain ⟨n, rfl⟩ : ∃ k, n = k + 1 := ⟨n - 1, by omega⟩
  have c1 := letter_sem σ z n (by omega)
  have c2 := digit_sem σ z n (by omega)
  simp only [n_lexer_letter, n_lexer_digit] at c1 c2
  simp only [evalF, tab_lexer_inner, Option.bind_some, Sys.run]
  show ((bindPs [.sh (.one _)] _).bind _) = _
  simp -implicitDefEqProofs only [bindPs, bind1, bindK, Option.map_some, Option.bind_some, List.append_nil, List.nil_append, List.cons_append, if_true]
  show (PT.ev _ lexer_inner_s _).bind _ = _
  simp -implicitDefEqProofs only [lexer_inner_s, ↓reduceIte, eq_self, evb_ret, evb_ite, evb_need, evb_load, evb_app, evb_cut, evb_scut, evb_chk, evb_appF, evb_call, evb_callv, evb_newM, evb_mkM, evb_storeM, evb_appM, evb_mkMap, evb_mapGet, evb_mapSet, evb_mapClr, evb_jump, BE.safe, BE.pe, IE.pe, PEnv.at, List.getD_cons_zero, List.getD_cons_succ, List.getElem?_cons_zero, List.getElem?_cons_succ, locOf, locOn, readLoc, takeN, Nat.add_zero, List.drop_zero, List.length_cons, List.length_nil, Nat.reduceAdd, Nat.le_refl, if_true, if_false, Bool.false_eq_true, List.take_succ_cons, List.take_zero, bindK, bindRes, bind1, Option.map_some, Option.bind_some, PEnv.push, List.cons_append, List.nil_append, List.append_nil, SV.pvs, SV.pv, BE.all, Bool.and_self, Bool.not_true, Bool.not_false, List.map_cons, List.map_nil, c1, c2, innZ]
  cases lowZ z
  · simp -implicitDefEqProofs only [↓reduceIte, eq_self, evb_ret, evb_ite, evb_need, evb_load, evb_app, evb_cut, evb_scut, evb_chk, evb_appF, evb_call, evb_callv, evb_newM, evb_mkM, evb_storeM, evb_appM, evb_mkMap, evb_mapGet, evb_mapSet, evb_mapClr, evb_jump, BE.safe, BE.pe, IE.pe, PEnv.at, List.getD_cons_zero, List.getD_cons_succ, List.getElem?_cons_zero, List.getElem?_cons_succ, locOf, locOn, readLoc, takeN, Nat.add_zero, List.drop_zero, List.length_cons, List.length_nil, Nat.reduceAdd, Nat.le_refl, if_true, if_false, Bool.false_eq_true, List.take_succ_cons, List.take_zero, bindK, bindRes, bind1, Option.map_some, Option.bind_some, PEnv.push, List.cons_append, List.nil_append, List.append_nil, SV.pvs, SV.pv, BE.all, Bool.and_self, Bool.not_true, Bool.not_false, List.map_cons, List.map_nil, c2, Bool.false_or]
    cases digZ z <;> simp -implicitDefEqProofs only [↓reduceIte, eq_self, evb_ret, evb_ite, evb_need, evb_load, evb_app, evb_cut, evb_scut, evb_chk, evb_appF, evb_call, evb_callv, evb_newM, evb_mkM, evb_storeM, evb_appM, evb_mkMap, evb_mapGet, evb_mapSet, evb_mapClr, evb_jump, BE.safe, BE.pe, IE.pe, PEnv.at, List.getD_cons_zero, List.getD_cons_succ, List.getElem?_cons_zero, List.getElem?_cons_succ, locOf, locOn, readLoc, takeN, Nat.add_zero, List.drop_zero, List.length_cons, List.length_nil, Nat.reduceAdd, Nat.le_refl, if_true, if_false, Bool.false_eq_true, List.take_succ_cons, List.take_zero, bindK, bindRes, bind1, Option.map_some, Option.bind_some, PEnv.push, List.cons_append, List.nil_append, List.append_nil, SV.pvs, SV.pv, BE.all, Bool.and_self, Bool.not_true, Bool.not_false, List.map_cons, List.map_nil, retP, or_true, Bool.true_or, Bool.false_or]
  · simp -implicitDefEqProofs only [↓reduceIte, eq_self, evb_ret, evb_ite, evb_need, evb_load, evb_app, evb_cut, evb_scut, evb_chk, evb_appF, evb_call, evb_callv, evb_newM, evb_mkM, evb_storeM, evb_appM, evb_mkMap, evb_mapGet, evb_mapSet, evb_mapClr, evb_jump, BE.safe, BE.pe, IE.pe, PEnv.at, List.getD_cons_zero, List.getD_cons_succ, List.getElem?_cons_zero, List.getElem?_cons_succ, locOf, locOn, readLoc, takeN, Nat.add_zero, List.drop_zero, List.length_cons, List.length_nil, Nat.reduceAdd, Nat.le_refl, if_true, if_false, Bool.false_eq_true, List.take_succ_cons, List.take_zero, bindK, bindRes, bind1, Option.map_some, Option.bind_some, PEnv.push, List.cons_append, List.nil_append, List.append_nil, SV.pvs, SV.pv, BE.all, Bool.and_self, Bool.not_true, Bool.not_false, List.map_cons, List.map_nil, retP, or_true, Bool.true_or]
theorem takeWhile_split {α : Type} {p : α → Bool} {l : List α} {i : Nat} {c : α} (h : l[i]? = some c) (hc : p c = true) : (l.drop i).takeWhile p = c :: (l.drop (i + 1)).takeWhile p := by
  rw [drop_cons h, List.takeWhile_cons, if_pos hc]
theorem takeWhile_stop {α : Type} {p : α → Bool} {l : List α} {i : Nat} {c : α} (h : l[i]? = some c) (hc : p c = false) : (l.drop i).takeWhile p = [] := by
  rw [drop_cons h, List.takeWhile_cons, hc]; rfl
theorem run_sem (σ : List MO) (l : List UInt8) (hl : l.length ≤ 12) (n : Nat) (hn : 20 ≤ n) : evalF Tab n n_lexer_run [.str l, .int .i64 0, .fn n_lexer_inner []] σ = some (.str (l.takeWhile innC), σ) := by
  obtain ⟨n, rfl⟩ : ∃ k, n = k + 1 := ⟨n - 1, by omega⟩
  have loop : ∀ d i, i + d = l.length → ∀ fuel, lexer_run_S.loop (evalF Tab n) (fuel + d + 1) 0 { i := [0, (i : Int)], b := [], v := [.str l, .fn n_lexer_inner []], m := σ, k := σ.length } = some (.str (l.take i ++ (l.drop i).takeWhile innC), σ) := by
    intro d
    induction d with
    | zero =>
      intro i hi fuel
      rw [Nat.add_zero] at hi; subst hi
      have hd : decide (l.length < l.length) = false := by simp
      rw [Sys.loop, show lexer_run_S.loops[0]? = some lexer_run_t0 from rfl, List.drop_length]
      have hc : (0 : Int) ≤ 0 ∧ (0 : Int) ≤ (l.length : Int) ∧ (l.length : Int) ≤ (l.length : Int) := by omega
      simp -implicitDefEqProofs only [Option.bind_some, lexer_run_t0, ↓reduceIte, eq_self, evb_ret, evb_ite, evb_need, evb_load, evb_app, evb_cut, evb_scut, evb_chk, evb_appF, evb_call, evb_callv, evb_newM, evb_mkM, evb_storeM, evb_appM, evb_mkMap, evb_mapGet, evb_mapSet, evb_mapClr, evb_jump, BE.safe, BE.pe, IE.pe, PEnv.at, List.getD_cons_zero, List.getD_cons_succ, List.getElem?_cons_zero, List.getElem?_cons_succ, locOf, locOn, readLoc, takeN, Nat.add_zero, List.drop_zero, List.length_cons, List.length_nil, Nat.reduceAdd, Nat.le_refl, if_true, if_false, Bool.false_eq_true, List.take_succ_cons, List.take_zero, bindK, bindRes, bind1, Option.map_some, Option.bind_some, PEnv.push, List.cons_append, List.nil_append, List.append_nil, SV.pvs, SV.pv, BE.all, Bool.and_self, Bool.not_true, Bool.not_false, List.map_cons, List.map_nil, is3, sLen_eq, ltB_nat, hd, loPe, hiPe, if_pos hc, retP, or_true, Int.toNat_natCast, take_all, List.takeWhile_nil, Int.toNat_zero]
    | succ d ih =>
      intro i hi fuel
      have hlt : i < l.length := by omega
      obtain ⟨c, hc⟩ := get_ex hlt
      have hd : decide (i < l.length) = true := decide_eq_true hlt
      have hu := u8_bd c
      have e32 : (leB (-2147483648) (c.toNat : Int) && leB (c.toNat : Int) 2147483647) = true := by simp [leB]; omega
      have c1 := inner_sem σ (c.toNat : Int) n (by omega)
      have hup := up_ok (show i ≤ 1000000000 by omega)
      simp only [n_lexer_inner] at c1
      rw [Sys.loop, show lexer_run_S.loops[0]? = some lexer_run_t0 from rfl]
      cases hi2 : innC c with
      | true =>
        have hi3 : innZ (c.toNat : Int) = true := hi2
        rw [hi3] at c1
        have ih := ih (i + 1) (by omega) fuel
        rw [nat_succ] at ih
        simp -implicitDefEqProofs only [Option.bind_some, lexer_run_t0, ↓reduceIte, eq_self, evb_ret, evb_ite, evb_need, evb_load, evb_app, evb_cut, evb_scut, evb_chk, evb_appF, evb_call, evb_callv, evb_newM, evb_mkM, evb_storeM, evb_appM, evb_mkMap, evb_mapGet, evb_mapSet, evb_mapClr, evb_jump, BE.safe, BE.pe, IE.pe, PEnv.at, List.getD_cons_zero, List.getD_cons_succ, List.getElem?_cons_zero, List.getElem?_cons_succ, locOf, locOn, readLoc, takeN, Nat.add_zero, List.drop_zero, List.length_cons, List.length_nil, Nat.reduceAdd, Nat.le_refl, if_true, if_false, Bool.false_eq_true, List.take_succ_cons, List.take_zero, bindK, bindRes, bind1, Option.map_some, Option.bind_some, PEnv.push, List.cons_append, List.nil_append, List.append_nil, SV.pvs, SV.pv, BE.all, Bool.and_self, Bool.not_true, Bool.not_false, List.map_cons, List.map_nil, is3, sLen_eq, ltB_nat, hd, le0, sAt_get hc, e32, n_lexer_inner, c1, if_pos hup]
        rw [takeWhile_split hc hi2, show l.take i ++ c :: (l.drop (i + 1)).takeWhile innC = l.take (i + 1) ++ (l.drop (i + 1)).takeWhile innC by rw [List.take_add_one, hc]; simp]
        exact ih
      | false =>
        have hi3 : innZ (c.toNat : Int) = false := hi2
        rw [hi3] at c1
        have hcc : (0 : Int) ≤ 0 ∧ (0 : Int) ≤ (i : Int) ∧ (i : Int) ≤ (l.length : Int) := by omega
        simp -implicitDefEqProofs only [Option.bind_some, lexer_run_t0, ↓reduceIte, eq_self, evb_ret, evb_ite, evb_need, evb_load, evb_app, evb_cut, evb_scut, evb_chk, evb_appF, evb_call, evb_callv, evb_newM, evb_mkM, evb_storeM, evb_appM, evb_mkMap, evb_mapGet, evb_mapSet, evb_mapClr, evb_jump, BE.safe, BE.pe, IE.pe, PEnv.at, List.getD_cons_zero, List.getD_cons_succ, List.getElem?_cons_zero, List.getElem?_cons_succ, locOf, locOn, readLoc, takeN, Nat.add_zero, List.drop_zero, List.length_cons, List.length_nil, Nat.reduceAdd, Nat.le_refl, if_true, if_false, Bool.false_eq_true, List.take_succ_cons, List.take_zero, bindK, bindRes, bind1, Option.map_some, Option.bind_some, PEnv.push, List.cons_append, List.nil_append, List.append_nil, SV.pvs, SV.pv, BE.all, Bool.and_self, Bool.not_true, Bool.not_false, List.map_cons, List.map_nil, is3, sLen_eq, ltB_nat, hd, le0, sAt_get hc, e32, n_lexer_inner, c1, loPe, hiPe, if_pos hcc, retP, or_true, Int.toNat_natCast, takeWhile_stop hc hi2, Int.toNat_zero]
  have := loop l.length 0 (by omega) (n - l.length - 1)
  rw [show n - l.length - 1 + l.length + 1 = n by omega, List.take_zero, List.drop_zero, List.nil_append] at this
  simp only [evalF, tab_lexer_run, Option.bind_some, Sys.run]
  show ((bindPs [.sh (.one _), .sh (.one _), .sh (.one _)] _).bind _) = _
  simp -implicitDefEqProofs only [bindPs, bind1, bindK, Option.map_some, Option.bind_some, List.append_nil, List.nil_append, List.cons_append, if_true, one_str, one_fn]
  show (PT.ev _ lexer_run_s _).bind _ = _
  simp -implicitDefEqProofs only [lexer_run_s, ↓reduceIte, eq_self, evb_ret, evb_ite, evb_need, evb_load, evb_app, evb_cut, evb_scut, evb_chk, evb_appF, evb_call, evb_callv, evb_newM, evb_mkM, evb_storeM, evb_appM, evb_mkMap, evb_mapGet, evb_mapSet, evb_mapClr, evb_jump, BE.safe, BE.pe, IE.pe, PEnv.at, List.getD_cons_zero, List.getD_cons_succ, List.getElem?_cons_zero, List.getElem?_cons_succ, locOf, locOn, readLoc, takeN, Nat.add_zero, List.drop_zero, List.length_cons, List.length_nil, Nat.reduceAdd, Nat.le_refl, if_true, if_false, Bool.false_eq_true, List.take_succ_cons, List.take_zero, bindK, bindRes, bind1, Option.map_some, Option.bind_some, PEnv.push, List.cons_append, List.nil_append, List.append_nil, SV.pvs, SV.pv, BE.all, Bool.and_self, Bool.not_true, Bool.not_false, List.map_cons, List.map_nil]
  exact this
def nameB (l : List UInt8) : Bool := decide (1 ≤ l.length) && (decide (l.length ≤ 12) && (lowZ (PV.sAt (.str l) 0) && l.all innC))
theorem takeWhile_eq {α : Type} (p : α → Bool) : ∀ l : List α, (l.takeWhile p = l) ↔ l.all p = true
  | [] => by simp
  | a :: l => by
    have ih := takeWhile_eq p l
    rw [List.takeWhile_cons]
    cases h : p a <;> simp [h, ih]
theorem lname_sem (σ : List MO) (l : List UInt8) (n : Nat) (hn : 30 ≤ n) : evalF Tab n n_lexer_IsName [.str l] σ = some (.bool (nameB l), σ) := by
  obtain ⟨n, rfl⟩ : ∃ k, n = k + 1 := ⟨n - 1, by omega⟩
  simp only [evalF, tab_lexer_IsName, Option.bind_some, Sys.run]
  show ((bindPs [.sh (.one _)] _).bind _) = _
  simp -implicitDefEqProofs only [bindPs, bind1, bindK, Option.map_some, Option.bind_some, List.append_nil, List.nil_append, List.cons_append, if_true]
  show (PT.ev _ lexer_IsName_s _).bind _ = _
  simp -implicitDefEqProofs only [lexer_IsName_s, ↓reduceIte, eq_self, evb_ret, evb_ite, evb_need, evb_load, evb_app, evb_cut, evb_scut, evb_chk, evb_appF, evb_call, evb_callv, evb_newM, evb_mkM, evb_storeM, evb_appM, evb_mkMap, evb_mapGet, evb_mapSet, evb_mapClr, evb_jump, BE.safe, BE.pe, IE.pe, PEnv.at, List.getD_cons_zero, List.getD_cons_succ, List.getElem?_cons_zero, List.getElem?_cons_succ, locOf, locOn, readLoc, takeN, Nat.add_zero, List.drop_zero, List.length_cons, List.length_nil, Nat.reduceAdd, Nat.le_refl, if_true, if_false, Bool.false_eq_true, List.take_succ_cons, List.take_zero, bindK, bindRes, bind1, Option.map_some, Option.bind_some, PEnv.push, List.cons_append, List.nil_append, List.append_nil, SV.pvs, SV.pv, BE.all, Bool.and_self, Bool.not_true, Bool.not_false, List.map_cons, List.map_nil, is3, sIs_eq, sLen_eq]
  cases l with
  | nil => simp -implicitDefEqProofs only [↓reduceIte, eq_self, evb_ret, evb_ite, evb_need, evb_load, evb_app, evb_cut, evb_scut, evb_chk, evb_appF, evb_call, evb_callv, evb_newM, evb_mkM, evb_storeM, evb_appM, evb_mkMap, evb_mapGet, evb_mapSet, evb_mapClr, evb_jump, BE.safe, BE.pe, IE.pe, PEnv.at, List.getD_cons_zero, List.getD_cons_succ, List.getElem?_cons_zero, List.getElem?_cons_succ, locOf, locOn, readLoc, takeN, Nat.add_zero, List.drop_zero, List.length_cons, List.length_nil, Nat.reduceAdd, Nat.le_refl, if_true, if_false, Bool.false_eq_true, List.take_succ_cons, List.take_zero, bindK, bindRes, bind1, Option.map_some, Option.bind_some, PEnv.push, List.cons_append, List.nil_append, List.append_nil, SV.pvs, SV.pv, BE.all, Bool.and_self, Bool.not_true, Bool.not_false, List.map_cons, List.map_nil, decide_true, Bool.not_true, retP, or_true, nameB]; rfl
  | cons c l =>
    have h0 : decide (c :: l = []) = false := by simp
    have hlen : decide (1 ≤ (c :: l).length) = true := by simp
    have hp : ltB 0 ((c :: l).length : Int) = true := by rw [ltB_true]; simp
    have sa : PV.sAt (.str (c :: l)) 0 = (c.toNat : Int) := rfl
    rw [h0]
    unfold nameB
    rw [hlen, Bool.true_and, sa]
    generalize hl : c :: l = L at *
    by_cases h12 : L.length ≤ 12
    · have h1 : leB (L.length : Int) 12 = true := by rw [leB_true]; omega
      have hu := u8_bd c
      have e32 : (leB (-2147483648) (c.toNat : Int) && leB (c.toNat : Int) 2147483647) = true := by simp [leB]; omega
      have c1 := letter_sem σ (c.toNat : Int) n (by omega)
      have c2 := run_sem σ L h12 n (by omega)
      simp only [n_lexer_letter, n_lexer_run, n_lexer_inner] at c1 c2
      rw [decide_eq_true h12]
      cases hlo : lowZ (c.toNat : Int) with
      | false =>
        rw [hlo] at c1
        simp -implicitDefEqProofs only [↓reduceIte, eq_self, evb_ret, evb_ite, evb_need, evb_load, evb_app, evb_cut, evb_scut, evb_chk, evb_appF, evb_call, evb_callv, evb_newM, evb_mkM, evb_storeM, evb_appM, evb_mkMap, evb_mapGet, evb_mapSet, evb_mapClr, evb_jump, BE.safe, BE.pe, IE.pe, PEnv.at, List.getD_cons_zero, List.getD_cons_succ, List.getElem?_cons_zero, List.getElem?_cons_succ, locOf, locOn, readLoc, takeN, Nat.add_zero, List.drop_zero, List.length_cons, List.length_nil, Nat.reduceAdd, Nat.le_refl, if_true, if_false, Bool.false_eq_true, List.take_succ_cons, List.take_zero, bindK, bindRes, bind1, Option.map_some, Option.bind_some, PEnv.push, List.cons_append, List.nil_append, List.append_nil, SV.pvs, SV.pv, BE.all, Bool.and_self, Bool.not_true, Bool.not_false, List.map_cons, List.map_nil, is3, sLen_eq, h1, hp, sa, e32, c1, retP, or_true, Bool.true_and, Bool.false_and]
      | true =>
        rw [hlo] at c1
        simp -implicitDefEqProofs only [↓reduceIte, eq_self, evb_ret, evb_ite, evb_need, evb_load, evb_app, evb_cut, evb_scut, evb_chk, evb_appF, evb_call, evb_callv, evb_newM, evb_mkM, evb_storeM, evb_appM, evb_mkMap, evb_mapGet, evb_mapSet, evb_mapClr, evb_jump, BE.safe, BE.pe, IE.pe, PEnv.at, List.getD_cons_zero, List.getD_cons_succ, List.getElem?_cons_zero, List.getElem?_cons_succ, locOf, locOn, readLoc, takeN, Nat.add_zero, List.drop_zero, List.length_cons, List.length_nil, Nat.reduceAdd, Nat.le_refl, if_true, if_false, Bool.false_eq_true, List.take_succ_cons, List.take_zero, bindK, bindRes, bind1, Option.map_some, Option.bind_some, PEnv.push, List.cons_append, List.nil_append, List.append_nil, SV.pvs, SV.pv, BE.all, Bool.and_self, Bool.not_true, Bool.not_false, List.map_cons, List.map_nil, is3, sLen_eq, h1, hp, sa, e32, c1, c2, one_str, sEq_eq, retP, or_true, Bool.true_and]
        rw [show decide (L.takeWhile innC = L) = L.all innC by rw [Bool.eq_iff_iff, decide_eq_true_iff]; exact takeWhile_eq _ _]
    · have h1 : leB (L.length : Int) 12 = false := by rw [leB_false]; omega
      rw [decide_eq_false h12]
      simp -implicitDefEqProofs only [↓reduceIte, eq_self, evb_ret, evb_ite, evb_need, evb_load, evb_app, evb_cut, evb_scut, evb_chk, evb_appF, evb_call, evb_callv, evb_newM, evb_mkM, evb_storeM, evb_appM, evb_mkMap, evb_mapGet, evb_mapSet, evb_mapClr, evb_jump, BE.safe, BE.pe, IE.pe, PEnv.at, List.getD_cons_zero, List.getD_cons_succ, List.getElem?_cons_zero, List.getElem?_cons_succ, locOf, locOn, readLoc, takeN, Nat.add_zero, List.drop_zero, List.length_cons, List.length_nil, Nat.reduceAdd, Nat.le_refl, if_true, if_false, Bool.false_eq_true, List.take_succ_cons, List.take_zero, bindK, bindRes, bind1, Option.map_some, Option.bind_some, PEnv.push, List.cons_append, List.nil_append, List.append_nil, SV.pvs, SV.pv, BE.all, Bool.and_self, Bool.not_true, Bool.not_false, List.map_cons, List.map_nil, is3, sLen_eq, h1, retP, or_true, Bool.false_and]
theorem rname_sem (σ : List MO) (l : List UInt8) (n : Nat) (hn : 30 ≤ n) : evalF Tab n n_saleroomref08_IsName [.str l] σ = some (.bool (nameB l), σ) := by
  obtain ⟨n, rfl⟩ : ∃ k, n = k + 1 := ⟨n - 1, by omega⟩
  simp only [evalF, tab_saleroomref08_IsName, Option.bind_some, Sys.run]
  show ((bindPs [.sh (.one _)] _).bind _) = _
  simp -implicitDefEqProofs only [bindPs, bind1, bindK, Option.map_some, Option.bind_some, List.append_nil, List.nil_append, List.cons_append, if_true]
  show (PT.ev _ saleroomref08_IsName_s _).bind _ = _
  simp -implicitDefEqProofs only [saleroomref08_IsName_s, ↓reduceIte, eq_self, evb_ret, evb_ite, evb_need, evb_load, evb_app, evb_cut, evb_scut, evb_chk, evb_appF, evb_call, evb_callv, evb_newM, evb_mkM, evb_storeM, evb_appM, evb_mkMap, evb_mapGet, evb_mapSet, evb_mapClr, evb_jump, BE.safe, BE.pe, IE.pe, PEnv.at, List.getD_cons_zero, List.getD_cons_succ, List.getElem?_cons_zero, List.getElem?_cons_succ, locOf, locOn, readLoc, takeN, Nat.add_zero, List.drop_zero, List.length_cons, List.length_nil, Nat.reduceAdd, Nat.le_refl, if_true, if_false, Bool.false_eq_true, List.take_succ_cons, List.take_zero, bindK, bindRes, bind1, Option.map_some, Option.bind_some, PEnv.push, List.cons_append, List.nil_append, List.append_nil, SV.pvs, SV.pv, BE.all, Bool.and_self, Bool.not_true, Bool.not_false, List.map_cons, List.map_nil, is3, sLen_eq]
  by_cases h0 : l.length < 1
  · have h1 : ltB (l.length : Int) 1 = true := by rw [ltB_true]; omega
    simp -implicitDefEqProofs only [↓reduceIte, eq_self, evb_ret, evb_ite, evb_need, evb_load, evb_app, evb_cut, evb_scut, evb_chk, evb_appF, evb_call, evb_callv, evb_newM, evb_mkM, evb_storeM, evb_appM, evb_mkMap, evb_mapGet, evb_mapSet, evb_mapClr, evb_jump, BE.safe, BE.pe, IE.pe, PEnv.at, List.getD_cons_zero, List.getD_cons_succ, List.getElem?_cons_zero, List.getElem?_cons_succ, locOf, locOn, readLoc, takeN, Nat.add_zero, List.drop_zero, List.length_cons, List.length_nil, Nat.reduceAdd, Nat.le_refl, if_true, if_false, Bool.false_eq_true, List.take_succ_cons, List.take_zero, bindK, bindRes, bind1, Option.map_some, Option.bind_some, PEnv.push, List.cons_append, List.nil_append, List.append_nil, SV.pvs, SV.pv, BE.all, Bool.and_self, Bool.not_true, Bool.not_false, List.map_cons, List.map_nil, is3, sLen_eq, h1, retP, or_true, nameB]
    rw [decide_eq_false (by omega)]; rfl
  have h1 : ltB (l.length : Int) 1 = false := by rw [ltB_false]; omega
  by_cases h12 : 12 < l.length
  · have h2 : ltB 12 (l.length : Int) = true := by rw [ltB_true]; omega
    simp -implicitDefEqProofs only [↓reduceIte, eq_self, evb_ret, evb_ite, evb_need, evb_load, evb_app, evb_cut, evb_scut, evb_chk, evb_appF, evb_call, evb_callv, evb_newM, evb_mkM, evb_storeM, evb_appM, evb_mkMap, evb_mapGet, evb_mapSet, evb_mapClr, evb_jump, BE.safe, BE.pe, IE.pe, PEnv.at, List.getD_cons_zero, List.getD_cons_succ, List.getElem?_cons_zero, List.getElem?_cons_succ, locOf, locOn, readLoc, takeN, Nat.add_zero, List.drop_zero, List.length_cons, List.length_nil, Nat.reduceAdd, Nat.le_refl, if_true, if_false, Bool.false_eq_true, List.take_succ_cons, List.take_zero, bindK, bindRes, bind1, Option.map_some, Option.bind_some, PEnv.push, List.cons_append, List.nil_append, List.append_nil, SV.pvs, SV.pv, BE.all, Bool.and_self, Bool.not_true, Bool.not_false, List.map_cons, List.map_nil, is3, sLen_eq, h1, h2, retP, or_true, nameB]
    rw [decide_eq_false (by omega : ¬ l.length ≤ 12), Bool.false_and, Bool.and_false]
  have h2 : ltB 12 (l.length : Int) = false := by rw [ltB_false]; omega
  simp -implicitDefEqProofs only [↓reduceIte, eq_self, evb_ret, evb_ite, evb_need, evb_load, evb_app, evb_cut, evb_scut, evb_chk, evb_appF, evb_call, evb_callv, evb_newM, evb_mkM, evb_storeM, evb_appM, evb_mkMap, evb_mapGet, evb_mapSet, evb_mapClr, evb_jump, BE.safe, BE.pe, IE.pe, PEnv.at, List.getD_cons_zero, List.getD_cons_succ, List.getElem?_cons_zero, List.getElem?_cons_succ, locOf, locOn, readLoc, takeN, Nat.add_zero, List.drop_zero, List.length_cons, List.length_nil, Nat.reduceAdd, Nat.le_refl, if_true, if_false, Bool.false_eq_true, List.take_succ_cons, List.take_zero, bindK, bindRes, bind1, Option.map_some, Option.bind_some, PEnv.push, List.cons_append, List.nil_append, List.append_nil, SV.pvs, SV.pv, BE.all, Bool.and_self, Bool.not_true, Bool.not_false, List.map_cons, List.map_nil, is3, sLen_eq, h1, h2]
  have loop : ∀ d i, i + d = l.length → ∀ fuel, saleroomref08_IsName_S.loop (evalF Tab n) (fuel + d + 1) 0 { i := [(i : Int)], b := [], v := [.str l], m := σ, k := σ.length } = some (.bool ((decide (1 ≤ i) || lowZ (PV.sAt (.str l) 0)) && (l.drop i).all innC), σ) := by
    intro d
    induction d with
    | zero =>
      intro i hi fuel
      rw [Nat.add_zero] at hi; subst hi
      have hd : decide (l.length < l.length) = false := by simp
      rw [Sys.loop, show saleroomref08_IsName_S.loops[0]? = some saleroomref08_IsName_t0 from rfl, List.drop_length, decide_eq_true (by omega : 1 ≤ l.length)]
      simp -implicitDefEqProofs only [Option.bind_some, saleroomref08_IsName_t0, ↓reduceIte, eq_self, evb_ret, evb_ite, evb_need, evb_load, evb_app, evb_cut, evb_scut, evb_chk, evb_appF, evb_call, evb_callv, evb_newM, evb_mkM, evb_storeM, evb_appM, evb_mkMap, evb_mapGet, evb_mapSet, evb_mapClr, evb_jump, BE.safe, BE.pe, IE.pe, PEnv.at, List.getD_cons_zero, List.getD_cons_succ, List.getElem?_cons_zero, List.getElem?_cons_succ, locOf, locOn, readLoc, takeN, Nat.add_zero, List.drop_zero, List.length_cons, List.length_nil, Nat.reduceAdd, Nat.le_refl, if_true, if_false, Bool.false_eq_true, List.take_succ_cons, List.take_zero, bindK, bindRes, bind1, Option.map_some, Option.bind_some, PEnv.push, List.cons_append, List.nil_append, List.append_nil, SV.pvs, SV.pv, BE.all, Bool.and_self, Bool.not_true, Bool.not_false, List.map_cons, List.map_nil, is3, sLen_eq, ltB_nat, hd, retP, or_true, Bool.true_or, List.all_nil]
    | succ d ih =>
      intro i hi fuel
      have hlt : i < l.length := by omega
      obtain ⟨c, hc⟩ := get_ex hlt
      have hd : decide (i < l.length) = true := decide_eq_true hlt
      have hup := up_ok (show i ≤ 1000000000 by omega)
      have ih := ih (i + 1) (by omega) fuel
      rw [nat_succ, decide_eq_true (by omega : 1 ≤ i + 1), Bool.true_or, Bool.true_and] at ih
      rw [drop_cons hc, List.all_cons, Sys.loop, show saleroomref08_IsName_S.loops[0]? = some saleroomref08_IsName_t0 from rfl]
      have hz : eqB (i : Int) 0 = decide (i = 0) := by rw [Bool.eq_iff_iff, decide_eq_true_iff, eqB_true]; omega
      have hA : PV.sAt (.str l) 0 = PV.sAt (.str l) ((0 : Nat) : Int) := rfl
      rw [hA]
      simp -implicitDefEqProofs only [Option.bind_some, saleroomref08_IsName_t0, ↓reduceIte, eq_self, evb_ret, evb_ite, evb_need, evb_load, evb_app, evb_cut, evb_scut, evb_chk, evb_appF, evb_call, evb_callv, evb_newM, evb_mkM, evb_storeM, evb_appM, evb_mkMap, evb_mapGet, evb_mapSet, evb_mapClr, evb_jump, BE.safe, BE.pe, IE.pe, PEnv.at, List.getD_cons_zero, List.getD_cons_succ, List.getElem?_cons_zero, List.getElem?_cons_succ, locOf, locOn, readLoc, takeN, Nat.add_zero, List.drop_zero, List.length_cons, List.length_nil, Nat.reduceAdd, Nat.le_refl, if_true, if_false, Bool.false_eq_true, List.take_succ_cons, List.take_zero, bindK, bindRes, bind1, Option.map_some, Option.bind_some, PEnv.push, List.cons_append, List.nil_append, List.append_nil, SV.pvs, SV.pv, BE.all, Bool.and_self, Bool.not_true, Bool.not_false, List.map_cons, List.map_nil, is3, sLen_eq, ltB_nat, hd, le0, sAt_get hc, hz, innC, innZ, digZ]
      by_cases h0 : i = 0
      · subst h0
        rw [sAt_get hc, show decide (1 ≤ 0) = false from rfl, Bool.false_or]
        generalize (List.drop (0 + 1) l).all innC = rest at *
        cases g1 : leB 97 (c.toNat : Int) with
        | false =>
          simp -implicitDefEqProofs only [lowZ, g1, ↓reduceIte, eq_self, evb_ret, evb_ite, evb_need, evb_load, evb_app, evb_cut, evb_scut, evb_chk, evb_appF, evb_call, evb_callv, evb_newM, evb_mkM, evb_storeM, evb_appM, evb_mkMap, evb_mapGet, evb_mapSet, evb_mapClr, evb_jump, BE.safe, BE.pe, IE.pe, PEnv.at, List.getD_cons_zero, List.getD_cons_succ, List.getElem?_cons_zero, List.getElem?_cons_succ, locOf, locOn, readLoc, takeN, Nat.add_zero, List.drop_zero, List.length_cons, List.length_nil, Nat.reduceAdd, Nat.le_refl, if_true, if_false, Bool.false_eq_true, List.take_succ_cons, List.take_zero, bindK, bindRes, bind1, Option.map_some, Option.bind_some, PEnv.push, List.cons_append, List.nil_append, List.append_nil, SV.pvs, SV.pv, BE.all, Bool.and_self, Bool.not_true, Bool.not_false, List.map_cons, List.map_nil, decide_true, retP, or_true, Bool.false_and]
        | true =>
          cases g2 : leB (c.toNat : Int) 122 with
          | false => simp -implicitDefEqProofs only [lowZ, g1, g2, ↓reduceIte, eq_self, evb_ret, evb_ite, evb_need, evb_load, evb_app, evb_cut, evb_scut, evb_chk, evb_appF, evb_call, evb_callv, evb_newM, evb_mkM, evb_storeM, evb_appM, evb_mkMap, evb_mapGet, evb_mapSet, evb_mapClr, evb_jump, BE.safe, BE.pe, IE.pe, PEnv.at, List.getD_cons_zero, List.getD_cons_succ, List.getElem?_cons_zero, List.getElem?_cons_succ, locOf, locOn, readLoc, takeN, Nat.add_zero, List.drop_zero, List.length_cons, List.length_nil, Nat.reduceAdd, Nat.le_refl, if_true, if_false, Bool.false_eq_true, List.take_succ_cons, List.take_zero, bindK, bindRes, bind1, Option.map_some, Option.bind_some, PEnv.push, List.cons_append, List.nil_append, List.append_nil, SV.pvs, SV.pv, BE.all, Bool.and_self, Bool.not_true, Bool.not_false, List.map_cons, List.map_nil, is3, sLen_eq, ltB_nat, hd, le0, sAt_get hc, decide_true, retP, or_true, Bool.false_and, Bool.true_and]
          | true =>
            simp -implicitDefEqProofs only [lowZ, g1, g2, ↓reduceIte, eq_self, evb_ret, evb_ite, evb_need, evb_load, evb_app, evb_cut, evb_scut, evb_chk, evb_appF, evb_call, evb_callv, evb_newM, evb_mkM, evb_storeM, evb_appM, evb_mkMap, evb_mapGet, evb_mapSet, evb_mapClr, evb_jump, BE.safe, BE.pe, IE.pe, PEnv.at, List.getD_cons_zero, List.getD_cons_succ, List.getElem?_cons_zero, List.getElem?_cons_succ, locOf, locOn, readLoc, takeN, Nat.add_zero, List.drop_zero, List.length_cons, List.length_nil, Nat.reduceAdd, Nat.le_refl, if_true, if_false, Bool.false_eq_true, List.take_succ_cons, List.take_zero, bindK, bindRes, bind1, Option.map_some, Option.bind_some, PEnv.push, List.cons_append, List.nil_append, List.append_nil, SV.pvs, SV.pv, BE.all, Bool.and_self, Bool.not_true, Bool.not_false, List.map_cons, List.map_nil, is3, sLen_eq, ltB_nat, hd, le0, sAt_get hc, if_pos hup, Bool.true_and, Bool.true_or]
            exact ih
      · rw [decide_eq_false h0, decide_eq_true (by omega : 1 ≤ i), Bool.true_or, Bool.true_and]
        generalize (List.drop (i + 1) l).all innC = rest at *
        have n57 : ltB 57 (c.toNat : Int) = !leB (c.toNat : Int) 57 := by
          rw [Bool.eq_iff_iff, ltB_true, Bool.not_eq_true', leB_false]; omega
        have n48 : ltB (c.toNat : Int) 48 = !leB 48 (c.toNat : Int) := by
          rw [Bool.eq_iff_iff, ltB_true, Bool.not_eq_true', leB_false]; omega
        simp only [lowZ]
        cases g1 : leB 97 (c.toNat : Int) <;> cases g2 : leB (c.toNat : Int) 122 <;> cases g3 : eqB (c.toNat : Int) 95 <;> cases g4 : leB 48 (c.toNat : Int) <;> cases g5 : leB (c.toNat : Int) 57 <;>
          simp -implicitDefEqProofs only [n57, n48, g1, g2, g3, g4, g5, ↓reduceIte, eq_self, evb_ret, evb_ite, evb_need, evb_load, evb_app, evb_cut, evb_scut, evb_chk, evb_appF, evb_call, evb_callv, evb_newM, evb_mkM, evb_storeM, evb_appM, evb_mkMap, evb_mapGet, evb_mapSet, evb_mapClr, evb_jump, BE.safe, BE.pe, IE.pe, PEnv.at, List.getD_cons_zero, List.getD_cons_succ, List.getElem?_cons_zero, List.getElem?_cons_succ, locOf, locOn, readLoc, takeN, Nat.add_zero, List.drop_zero, List.length_cons, List.length_nil, Nat.reduceAdd, Nat.le_refl, if_true, if_false, Bool.false_eq_true, List.take_succ_cons, List.take_zero, bindK, bindRes, bind1, Option.map_some, Option.bind_some, PEnv.push, List.cons_append, List.nil_append, List.append_nil, SV.pvs, SV.pv, BE.all, Bool.and_self, Bool.not_true, Bool.not_false, List.map_cons, List.map_nil, is3, sLen_eq, ltB_nat, hd, le0, sAt_get hc, if_pos hup, decide_false, retP, or_true, Bool.true_and, Bool.false_and, Bool.and_false, Bool.and_true, Bool.true_or, Bool.or_true, Bool.false_or] <;>
          exact ih
  have := loop l.length 0 (by omega) (n - l.length - 1)
  rw [show n - l.length - 1 + l.length + 1 = n by omega, List.drop_zero, show decide (1 ≤ 0) = false from rfl, Bool.false_or] at this
  unfold nameB
  rw [decide_eq_true (by omega : 1 ≤ l.length), decide_eq_true (by omega : l.length ≤ 12), Bool.true_and, Bool.true_and]
  exact this
end Go.Proofs.Ythjahianafohjaa
set_option maxRecDepth 100000
namespace Go.Proofs.Ythjahianafohjaa
open Go.Sx
theorem rows_prs {l : List Pr} {i : Nat} {x : Pr} (h : l[i]? = some x) : (l.map Pr.row)[i]? = some x.row := by simp [h]
def Pr.rng (x : Pr) : Prop := 1 ≤ x.s ∧ x.s ≤ 4 ∧ 0 ≤ x.r ∧ x.r ≤ 1000000 ∧ 0 ≤ x.p ∧ x.p ≤ 1000 ∧ 0 ≤ x.g ∧ x.g ≤ 4
instance (x : Pr) : Decidable x.rng := by unfold Pr.rng; infer_instance
/-- What is wrong with a product behind others. -/
def pbad (before : List Pr) (x : Pr) : Int := if nameB x.nm = true then (if (before.any fun y => decide (y.nm = x.nm)) = true then 7 else if x.rng then 0 else 4) else 5
def prodS (ps : List Pr) : Int := ps.foldl (fun n x => n * (x.s + 1)) 1
def pfin (ps : List Pr) : Int := if ltB 1024 (prodS ps) = true then 12 else 0
def pgo (ps : List Pr) : Nat → Nat → Int
  | 0, _ => pfin ps
  | d + 1, i => match ps[i]? with
    | some x => if pbad (ps.take i) x = 0 then pgo ps d (i + 1) else pbad (ps.take i) x
    | none => 0
/-- What Check answers. -/
def pchk (ps : List Pr) : Int := if eqB (ps.length : Int) 0 = true then 1 else if ltB 6 (ps.length : Int) = true then 3 else pgo ps ps.length 0
theorem between_sem (σ : List MO) (z a b : Int) (n : Nat) (hn : 1 ≤ n) : evalF Tab n n_catalog_between [.int .i64 z, .int .i64 a, .int .i64 b] σ = some (.bool (leB a z && leB z b), σ) := by
  obtain ⟨n, rfl⟩ : ∃ k, n = k + 1 := ⟨n - 1, by omega⟩
  simp only [evalF, tab_catalog_between, Option.bind_some, Sys.run]
  show ((bindPs [.sh (.one _), .sh (.one _), .sh (.one _)] _).bind _) = _
  simp -implicitDefEqProofs only [bindPs, bind1, bindK, Option.map_some, Option.bind_some, List.append_nil, List.nil_append, List.cons_append, if_true]
  show (PT.ev _ catalog_between_s _).bind _ = _
  simp -implicitDefEqProofs only [catalog_between_s, ↓reduceIte, eq_self, evb_ret, evb_ite, evb_need, evb_load, evb_app, evb_cut, evb_scut, evb_chk, evb_appF, evb_call, evb_callv, evb_newM, evb_mkM, evb_storeM, evb_appM, evb_mkMap, evb_mapGet, evb_mapSet, evb_mapClr, evb_jump, BE.safe, BE.pe, IE.pe, PEnv.at, List.getD_cons_zero, List.getD_cons_succ, List.getElem?_cons_zero, List.getElem?_cons_succ, locOf, locOn, readLoc, takeN, Nat.add_zero, List.drop_zero, List.length_cons, List.length_nil, Nat.reduceAdd, Nat.le_refl, if_true, if_false, Bool.false_eq_true, List.take_succ_cons, List.take_zero, bindK, bindRes, bind1, Option.map_some, Option.bind_some, PEnv.push, List.cons_append, List.nil_append, List.append_nil, SV.pvs, SV.pv, BE.all, Bool.and_self, Bool.not_true, Bool.not_false, List.map_cons, List.map_nil]
  cases leB a z <;> simp -implicitDefEqProofs only [↓reduceIte, eq_self, evb_ret, evb_ite, evb_need, evb_load, evb_app, evb_cut, evb_scut, evb_chk, evb_appF, evb_call, evb_callv, evb_newM, evb_mkM, evb_storeM, evb_appM, evb_mkMap, evb_mapGet, evb_mapSet, evb_mapClr, evb_jump, BE.safe, BE.pe, IE.pe, PEnv.at, List.getD_cons_zero, List.getD_cons_succ, List.getElem?_cons_zero, List.getElem?_cons_succ, locOf, locOn, readLoc, takeN, Nat.add_zero, List.drop_zero, List.length_cons, List.length_nil, Nat.reduceAdd, Nat.le_refl, if_true, if_false, Bool.false_eq_true, List.take_succ_cons, List.take_zero, bindK, bindRes, bind1, Option.map_some, Option.bind_some, PEnv.push, List.cons_append, List.nil_append, List.append_nil, SV.pvs, SV.pv, BE.all, Bool.and_self, Bool.not_true, Bool.not_false, List.map_cons, List.map_nil, retP, or_true, Bool.true_and, Bool.false_and]
theorem find_sem (σ : List MO) (l : List Pr) (P : PV) (hP : P.rowsOf 5 = some (l.map Pr.row)) (hl : l.length ≤ 1000000) (nm : List UInt8) (n : Nat) (hn : l.length + 2 ≤ n) :
    ∃ k : Int, evalF Tab n n_catalog_Find [P, .str nm] σ = some (.tup [.int .i64 k, .bool (l.any fun x => decide (x.nm = nm))], σ) := by
  obtain ⟨n, rfl⟩ : ∃ k, n = k + 1 := ⟨n - 1, by omega⟩
  obtain ⟨p1, p2, p3⟩ := rows_len hP
  rw [List.length_map] at p1
  have loop : ∀ d i, i + d = l.length → ∃ k : Int, ∀ fuel, catalog_Find_S.loop (evalF Tab n) (fuel + d + 1) 0 { i := [(l.length : Int), (i : Int)], b := [], v := [.str nm, P], m := σ, k := σ.length } = some (.tup [.int .i64 k, .bool ((l.drop i).any fun x => decide (x.nm = nm))], σ) := by
    intro d
    induction d with
    | zero =>
      intro i hi
      rw [Nat.add_zero] at hi; subst hi
      refine ⟨0, fun fuel => ?_⟩
      have hd : decide (l.length < l.length) = false := by simp
      rw [Sys.loop, show catalog_Find_S.loops[0]? = some catalog_Find_t0 from rfl, List.drop_length]
      simp -implicitDefEqProofs only [Option.bind_some, catalog_Find_t0, ↓reduceIte, eq_self, evb_ret, evb_ite, evb_need, evb_load, evb_app, evb_cut, evb_scut, evb_chk, evb_appF, evb_call, evb_callv, evb_newM, evb_mkM, evb_storeM, evb_appM, evb_mkMap, evb_mapGet, evb_mapSet, evb_mapClr, evb_jump, BE.safe, BE.pe, IE.pe, PEnv.at, List.getD_cons_zero, List.getD_cons_succ, List.getElem?_cons_zero, List.getElem?_cons_succ, locOf, locOn, readLoc, takeN, Nat.add_zero, List.drop_zero, List.length_cons, List.length_nil, Nat.reduceAdd, Nat.le_refl, if_true, if_false, Bool.false_eq_true, List.take_succ_cons, List.take_zero, bindK, bindRes, bind1, Option.map_some, Option.bind_some, PEnv.push, List.cons_append, List.nil_append, List.append_nil, SV.pvs, SV.pv, BE.all, Bool.and_self, Bool.not_true, Bool.not_false, List.map_cons, List.map_nil, ltB_nat, hd, retP, or_true, List.any_nil]
    | succ d ih =>
      intro i hi
      have hlt : i < l.length := by omega
      obtain ⟨x, hx⟩ := get_ex hlt
      have hd : decide (i < l.length) = true := decide_eq_true hlt
      have h0 := rows_get (off := 0) hP (rows_prs hx)
      have hup := up_ok (show i ≤ 1000000000 by omega)
      rw [drop_cons hx, List.any_cons]
      by_cases hn : x.nm = nm
      · refine ⟨i, fun fuel => ?_⟩
        rw [decide_eq_true hn, Bool.true_or, Sys.loop, show catalog_Find_S.loops[0]? = some catalog_Find_t0 from rfl]
        simp -implicitDefEqProofs only [Option.bind_some, catalog_Find_t0, ↓reduceIte, eq_self, evb_ret, evb_ite, evb_need, evb_load, evb_app, evb_cut, evb_scut, evb_chk, evb_appF, evb_call, evb_callv, evb_newM, evb_mkM, evb_storeM, evb_appM, evb_mkMap, evb_mapGet, evb_mapSet, evb_mapClr, evb_jump, BE.safe, BE.pe, IE.pe, PEnv.at, List.getD_cons_zero, List.getD_cons_succ, List.getElem?_cons_zero, List.getElem?_cons_succ, locOf, locOn, readLoc, takeN, Nat.add_zero, List.drop_zero, List.length_cons, List.length_nil, Nat.reduceAdd, Nat.le_refl, if_true, if_false, Bool.false_eq_true, List.take_succ_cons, List.take_zero, bindK, bindRes, bind1, Option.map_some, Option.bind_some, PEnv.push, List.cons_append, List.nil_append, List.append_nil, SV.pvs, SV.pv, BE.all, Bool.and_self, Bool.not_true, Bool.not_false, List.map_cons, List.map_nil, p1, ltB_nat, hd, le0, h0, pr_row, one_str, is3, sEq_eq, decide_eq_true hn, retP, or_true]
      · obtain ⟨k, ih⟩ := ih (i + 1) (by omega)
        refine ⟨k, fun fuel => ?_⟩
        have ih := ih fuel
        rw [nat_succ] at ih
        rw [decide_eq_false hn, Bool.false_or, Sys.loop, show catalog_Find_S.loops[0]? = some catalog_Find_t0 from rfl]
        simp -implicitDefEqProofs only [Option.bind_some, catalog_Find_t0, ↓reduceIte, eq_self, evb_ret, evb_ite, evb_need, evb_load, evb_app, evb_cut, evb_scut, evb_chk, evb_appF, evb_call, evb_callv, evb_newM, evb_mkM, evb_storeM, evb_appM, evb_mkMap, evb_mapGet, evb_mapSet, evb_mapClr, evb_jump, BE.safe, BE.pe, IE.pe, PEnv.at, List.getD_cons_zero, List.getD_cons_succ, List.getElem?_cons_zero, List.getElem?_cons_succ, locOf, locOn, readLoc, takeN, Nat.add_zero, List.drop_zero, List.length_cons, List.length_nil, Nat.reduceAdd, Nat.le_refl, if_true, if_false, Bool.false_eq_true, List.take_succ_cons, List.take_zero, bindK, bindRes, bind1, Option.map_some, Option.bind_some, PEnv.push, List.cons_append, List.nil_append, List.append_nil, SV.pvs, SV.pv, BE.all, Bool.and_self, Bool.not_true, Bool.not_false, List.map_cons, List.map_nil, p1, ltB_nat, hd, le0, h0, pr_row, one_str, is3, sEq_eq, decide_eq_false hn, if_pos hup]
        exact ih
  obtain ⟨k, hk⟩ := loop l.length 0 (by omega)
  have := hk (n - l.length - 1)
  rw [show n - l.length - 1 + l.length + 1 = n by omega, List.drop_zero] at this
  refine ⟨k, ?_⟩
  simp only [evalF, tab_catalog_Find, Option.bind_some, Sys.run]
  show ((bindPs [.sh (.one _), .sh (.one _)] _).bind _) = _
  simp -implicitDefEqProofs only [bindPs, bind1, bindK, Option.map_some, Option.bind_some, List.append_nil, List.nil_append, List.cons_append, if_true, p3, one_str]
  show (PT.ev _ catalog_Find_s _).bind _ = _
  simp -implicitDefEqProofs only [catalog_Find_s, ↓reduceIte, eq_self, evb_ret, evb_ite, evb_need, evb_load, evb_app, evb_cut, evb_scut, evb_chk, evb_appF, evb_call, evb_callv, evb_newM, evb_mkM, evb_storeM, evb_appM, evb_mkMap, evb_mapGet, evb_mapSet, evb_mapClr, evb_jump, BE.safe, BE.pe, IE.pe, PEnv.at, List.getD_cons_zero, List.getD_cons_succ, List.getElem?_cons_zero, List.getElem?_cons_succ, locOf, locOn, readLoc, takeN, Nat.add_zero, List.drop_zero, List.length_cons, List.length_nil, Nat.reduceAdd, Nat.le_refl, if_true, if_false, Bool.false_eq_true, List.take_succ_cons, List.take_zero, bindK, bindRes, bind1, Option.map_some, Option.bind_some, PEnv.push, List.cons_append, List.nil_append, List.append_nil, SV.pvs, SV.pv, BE.all, Bool.and_self, Bool.not_true, Bool.not_false, List.map_cons, List.map_nil, p1, p2]
  exact this
/-- Supplies of at most six products. -/
def supW (l : List Pr) : W6 := ⟨((l.map Pr.s)[0]?).getD 0, ((l.map Pr.s)[1]?).getD 0, ((l.map Pr.s)[2]?).getD 0, ((l.map Pr.s)[3]?).getD 0, ((l.map Pr.s)[4]?).getD 0, ((l.map Pr.s)[5]?).getD 0⟩
def supSt (P : PV) (σ : List MO) (N i : Nat) (w : W6) : PEnv := { i := [(N : Int), (i : Int), w.a, w.b, w.c, w.d, w.e, w.f], b := [], v := [P], m := σ, k := σ.length }
theorem supply_sem (σ : List MO) (l : List Pr) (P : PV) (hP : P.rowsOf 5 = some (l.map Pr.row)) (hl : l.length ≤ 6) (n : Nat) (hn : 10 ≤ n) : evalF Tab n n_catalog_Supply [P] σ = some (.agg (supW l).pv, σ) := by
  obtain ⟨n, rfl⟩ : ∃ k, n = k + 1 := ⟨n - 1, by omega⟩
  obtain ⟨p1, p2, p3⟩ := rows_len hP
  rw [List.length_map] at p1
  have step : ∀ i x, l[i]? = some x → ∀ fuel (w : W6), catalog_Supply_S.loop (evalF Tab n) (fuel + 1) 0 (supSt P σ l.length i w) = catalog_Supply_S.loop (evalF Tab n) fuel 0 (supSt P σ l.length (i + 1) (match i with | 0 => { w with a := x.s } | 1 => { w with b := x.s } | 2 => { w with c := x.s } | 3 => { w with d := x.s } | 4 => { w with e := x.s } | _ => { w with f := x.s })) := by
    intro i x hx fuel w
    have hlt : i < l.length := (List.getElem?_eq_some_iff.1 hx).1
    have hd : decide (i < l.length) = true := decide_eq_true hlt
    have h0 := rows_get (off := 0) hP (rows_prs hx)
    rw [Sys.loop, show catalog_Supply_S.loops[0]? = some catalog_Supply_t0 from rfl]
    simp only [supSt]
    simp -implicitDefEqProofs only [Option.bind_some, catalog_Supply_t0, ↓reduceIte, eq_self, evb_ret, evb_ite, evb_need, evb_load, evb_app, evb_cut, evb_scut, evb_chk, evb_appF, evb_call, evb_callv, evb_newM, evb_mkM, evb_storeM, evb_appM, evb_mkMap, evb_mapGet, evb_mapSet, evb_mapClr, evb_jump, BE.safe, BE.pe, IE.pe, PEnv.at, List.getD_cons_zero, List.getD_cons_succ, List.getElem?_cons_zero, List.getElem?_cons_succ, locOf, locOn, readLoc, takeN, Nat.add_zero, List.drop_zero, List.length_cons, List.length_nil, Nat.reduceAdd, Nat.le_refl, if_true, if_false, Bool.false_eq_true, List.take_succ_cons, List.take_zero, bindK, bindRes, bind1, Option.map_some, Option.bind_some, PEnv.push, List.cons_append, List.nil_append, List.append_nil, SV.pvs, SV.pv, BE.all, Bool.and_self, Bool.not_true, Bool.not_false, List.map_cons, List.map_nil, p1, ltB_nat, hd, le0, h0, pr_row, one_str]
    obtain rfl | rfl | rfl | rfl | rfl | rfl : i = 0 ∨ i = 1 ∨ i = 2 ∨ i = 3 ∨ i = 4 ∨ i = 5 := by omega
    all_goals rfl
  have fin : ∀ fuel (w : W6), catalog_Supply_S.loop (evalF Tab n) (fuel + 1) 0 (supSt P σ l.length l.length w) = some (.agg w.pv, σ) := by
    intro fuel w
    have hd : decide (l.length < l.length) = false := by simp
    rw [Sys.loop, show catalog_Supply_S.loops[0]? = some catalog_Supply_t0 from rfl]
    simp only [supSt]
    simp -implicitDefEqProofs only [Option.bind_some, catalog_Supply_t0, ↓reduceIte, eq_self, evb_ret, evb_ite, evb_need, evb_load, evb_app, evb_cut, evb_scut, evb_chk, evb_appF, evb_call, evb_callv, evb_newM, evb_mkM, evb_storeM, evb_appM, evb_mkMap, evb_mapGet, evb_mapSet, evb_mapClr, evb_jump, BE.safe, BE.pe, IE.pe, PEnv.at, List.getD_cons_zero, List.getD_cons_succ, List.getElem?_cons_zero, List.getElem?_cons_succ, locOf, locOn, readLoc, takeN, Nat.add_zero, List.drop_zero, List.length_cons, List.length_nil, Nat.reduceAdd, Nat.le_refl, if_true, if_false, Bool.false_eq_true, List.take_succ_cons, List.take_zero, bindK, bindRes, bind1, Option.map_some, Option.bind_some, PEnv.push, List.cons_append, List.nil_append, List.append_nil, SV.pvs, SV.pv, BE.all, Bool.and_self, Bool.not_true, Bool.not_false, List.map_cons, List.map_nil, ltB_nat, hd, retP, or_true, W6.pv]
  have key : catalog_Supply_S.loop (evalF Tab n) n 0 (supSt P σ l.length 0 ⟨0, 0, 0, 0, 0, 0⟩) = some (.agg (supW l).pv, σ) := by
    obtain ⟨m, rfl⟩ : ∃ m, n = m + 7 := ⟨n - 7, by omega⟩
    have g : ∀ k, k < l.length → ∃ x, l[k]? = some x := fun k hk => get_ex hk
    rcases l with _ | ⟨a, _ | ⟨b, _ | ⟨c, _ | ⟨d, _ | ⟨e, _ | ⟨f, _ | ⟨z, r⟩⟩⟩⟩⟩⟩⟩
    · exact fin _ _
    · rw [step 0 a rfl]; exact fin _ _
    · rw [step 0 a rfl, step 1 b rfl]; exact fin _ _
    · rw [step 0 a rfl, step 1 b rfl, step 2 c rfl]; exact fin _ _
    · rw [step 0 a rfl, step 1 b rfl, step 2 c rfl, step 3 d rfl]; exact fin _ _
    · rw [step 0 a rfl, step 1 b rfl, step 2 c rfl, step 3 d rfl, step 4 e rfl]; exact fin _ _
    · rw [step 0 a rfl, step 1 b rfl, step 2 c rfl, step 3 d rfl, step 4 e rfl, step 5 f rfl]; exact fin _ _
    · simp at hl
  simp only [evalF, tab_catalog_Supply, Option.bind_some, Sys.run]
  show ((bindPs [.sh (.one _)] _).bind _) = _
  simp -implicitDefEqProofs only [bindPs, bind1, bindK, Option.map_some, Option.bind_some, List.append_nil, List.nil_append, List.cons_append, if_true, p3]
  show (PT.ev _ catalog_Supply_s _).bind _ = _
  simp -implicitDefEqProofs only [catalog_Supply_s, ↓reduceIte, eq_self, evb_ret, evb_ite, evb_need, evb_load, evb_app, evb_cut, evb_scut, evb_chk, evb_appF, evb_call, evb_callv, evb_newM, evb_mkM, evb_storeM, evb_appM, evb_mkMap, evb_mapGet, evb_mapSet, evb_mapClr, evb_jump, BE.safe, BE.pe, IE.pe, PEnv.at, List.getD_cons_zero, List.getD_cons_succ, List.getElem?_cons_zero, List.getElem?_cons_succ, locOf, locOn, readLoc, takeN, Nat.add_zero, List.drop_zero, List.length_cons, List.length_nil, Nat.reduceAdd, Nat.le_refl, if_true, if_false, Bool.false_eq_true, List.take_succ_cons, List.take_zero, bindK, bindRes, bind1, Option.map_some, Option.bind_some, PEnv.push, List.cons_append, List.nil_append, List.append_nil, SV.pvs, SV.pv, BE.all, Bool.and_self, Bool.not_true, Bool.not_false, List.map_cons, List.map_nil, p1, p2]
  exact key
/-- How many bundles. -/
def cntW (w : W6) : Int := if eqB (bchk w) 0 = true then (let p := ((((((1 * (w.a + 1)) * (w.b + 1)) * (w.c + 1)) * (w.d + 1)) * (w.e + 1)) * (w.f + 1)); if ltB 1024 p = true then 0 else p) else 0
theorem mul_bd5 {x y b : Int} (h1 : 1 ≤ x) (h2 : x ≤ b) (h3 : 1 ≤ y) (h4 : y ≤ 5) : 1 ≤ x * y ∧ x * y ≤ b * 5 := by
  constructor
  · calc (1 : Int) = 1 * 1 := rfl
      _ ≤ x * y := Int.mul_le_mul h1 h3 (by omega) (by omega)
  · exact Int.mul_le_mul h2 h4 (by omega) (by omega)
theorem count_sem (σ : List MO) (w : W6) (n : Nat) (hn : 2 ≤ n) : evalF Tab n n_bundle_Count [.agg w.pv] σ = some (.int .i64 (cntW w), σ) := by
  obtain ⟨n, rfl⟩ : ∃ k, n = k + 1 := ⟨n - 1, by omega⟩
  have c1 := bundle_Check_sem σ w n (by omega)
  simp only [n_bundle_Check, W6.pv] at c1
  simp only [evalF, tab_bundle_Count, Option.bind_some, Sys.run, W6.pv]
  show ((bindPs [.sh (.agg [_, _, _, _, _, _])] _).bind _) = _
  simp only [bindPs, bind1, bindK, Option.map_some, Option.bind_some, List.append_nil, List.nil_append, List.cons_append, if_true]
  show (PT.ev _ bundle_Count_s _).bind _ = _
  simp -implicitDefEqProofs only [bundle_Count_s, ↓reduceIte, eq_self, evb_ret, evb_ite, evb_need, evb_load, evb_app, evb_cut, evb_scut, evb_chk, evb_appF, evb_call, evb_callv, evb_newM, evb_mkM, evb_storeM, evb_appM, evb_mkMap, evb_mapGet, evb_mapSet, evb_mapClr, evb_jump, BE.safe, BE.pe, IE.pe, PEnv.at, List.getD_cons_zero, List.getD_cons_succ, List.getElem?_cons_zero, List.getElem?_cons_succ, locOf, locOn, readLoc, takeN, Nat.add_zero, List.drop_zero, List.length_cons, List.length_nil, Nat.reduceAdd, Nat.le_refl, if_true, if_false, Bool.false_eq_true, List.take_succ_cons, List.take_zero, bindK, bindRes, bind1, Option.map_some, Option.bind_some, PEnv.push, List.cons_append, List.nil_append, List.append_nil, SV.pvs, SV.pv, BE.all, Bool.and_self, Bool.not_true, Bool.not_false, List.map_cons, List.map_nil, c1]
  by_cases hw : w.ok
  case neg =>
    have hb : eqB (bchk w) 0 = false := by unfold bchk; rw [if_neg hw]; rfl
    simp -implicitDefEqProofs only [↓reduceIte, eq_self, evb_ret, evb_ite, evb_need, evb_load, evb_app, evb_cut, evb_scut, evb_chk, evb_appF, evb_call, evb_callv, evb_newM, evb_mkM, evb_storeM, evb_appM, evb_mkMap, evb_mapGet, evb_mapSet, evb_mapClr, evb_jump, BE.safe, BE.pe, IE.pe, PEnv.at, List.getD_cons_zero, List.getD_cons_succ, List.getElem?_cons_zero, List.getElem?_cons_succ, locOf, locOn, readLoc, takeN, Nat.add_zero, List.drop_zero, List.length_cons, List.length_nil, Nat.reduceAdd, Nat.le_refl, if_true, if_false, Bool.false_eq_true, List.take_succ_cons, List.take_zero, bindK, bindRes, bind1, Option.map_some, Option.bind_some, PEnv.push, List.cons_append, List.nil_append, List.append_nil, SV.pvs, SV.pv, BE.all, Bool.and_self, Bool.not_true, Bool.not_false, List.map_cons, List.map_nil, hb, retP, or_true, cntW]
  have hb : eqB (bchk w) 0 = true := by unfold bchk; rw [if_pos hw]; rfl
  obtain ⟨a, b, c, d, e, f⟩ := w
  have hw' := hw
  simp only [W6.ok] at hw
  simp -implicitDefEqProofs only [↓reduceIte, eq_self, evb_ret, evb_ite, evb_need, evb_load, evb_app, evb_cut, evb_scut, evb_chk, evb_appF, evb_call, evb_callv, evb_newM, evb_mkM, evb_storeM, evb_appM, evb_mkMap, evb_mapGet, evb_mapSet, evb_mapClr, evb_jump, BE.safe, BE.pe, IE.pe, PEnv.at, List.getD_cons_zero, List.getD_cons_succ, List.getElem?_cons_zero, List.getElem?_cons_succ, locOf, locOn, readLoc, takeN, Nat.add_zero, List.drop_zero, List.length_cons, List.length_nil, Nat.reduceAdd, Nat.le_refl, if_true, if_false, Bool.false_eq_true, List.take_succ_cons, List.take_zero, bindK, bindRes, bind1, Option.map_some, Option.bind_some, PEnv.push, List.cons_append, List.nil_append, List.append_nil, SV.pvs, SV.pv, BE.all, Bool.and_self, Bool.not_true, Bool.not_false, List.map_cons, List.map_nil, hb, retP, or_true, cntW]
  obtain ⟨q1, q2⟩ := mul_bd5 (x := 1) (y := a + 1) (b := 1) (by omega) (by omega) (by omega) (by omega)
  generalize 1 * (a + 1) = x1 at *
  obtain ⟨q3, q4⟩ := mul_bd5 (x := x1) (y := b + 1) q1 q2 (by omega) (by omega)
  generalize x1 * (b + 1) = x2 at *
  obtain ⟨q5, q6⟩ := mul_bd5 (x := x2) (y := c + 1) q3 q4 (by omega) (by omega)
  generalize x2 * (c + 1) = x3 at *
  obtain ⟨q7, q8⟩ := mul_bd5 (x := x3) (y := d + 1) q5 q6 (by omega) (by omega)
  generalize x3 * (d + 1) = x4 at *
  obtain ⟨q9, q10⟩ := mul_bd5 (x := x4) (y := e + 1) q7 q8 (by omega) (by omega)
  generalize x4 * (e + 1) = x5 at *
  obtain ⟨q11, q12⟩ := mul_bd5 (x := x5) (y := f + 1) q9 q10 (by omega) (by omega)
  generalize x5 * (f + 1) = x6 at *
  repeat rw [if_pos (i64_ok (by omega))]
  cases ltB 1024 x6 <;> simp -implicitDefEqProofs only [↓reduceIte, eq_self, evb_ret, evb_ite, evb_need, evb_load, evb_app, evb_cut, evb_scut, evb_chk, evb_appF, evb_call, evb_callv, evb_newM, evb_mkM, evb_storeM, evb_appM, evb_mkMap, evb_mapGet, evb_mapSet, evb_mapClr, evb_jump, BE.safe, BE.pe, IE.pe, PEnv.at, List.getD_cons_zero, List.getD_cons_succ, List.getElem?_cons_zero, List.getElem?_cons_succ, locOf, locOn, readLoc, takeN, Nat.add_zero, List.drop_zero, List.length_cons, List.length_nil, Nat.reduceAdd, Nat.le_refl, if_true, if_false, Bool.false_eq_true, List.take_succ_cons, List.take_zero, bindK, bindRes, bind1, Option.map_some, Option.bind_some, PEnv.push, List.cons_append, List.nil_append, List.append_nil, SV.pvs, SV.pv, BE.all, Bool.and_self, Bool.not_true, Bool.not_false, List.map_cons, List.map_nil, retP, or_true]
theorem cnt_prod {l : List Pr} (hl : l.length ≤ 6) (hr : ∀ x ∈ l, x.rng) : eqB (cntW (supW l)) 0 = ltB 1024 (prodS l) := by
  have hw : (supW l).ok := by
    have g : ∀ i : Nat, 0 ≤ ((l.map Pr.s)[i]?).getD 0 ∧ ((l.map Pr.s)[i]?).getD 0 ≤ 4 := by
      intro i
      cases h : (l.map Pr.s)[i]? with
      | none => simp
      | some z =>
        have := List.mem_of_getElem? h
        obtain ⟨x, hx, rfl⟩ := List.mem_map.1 this
        have := hr x hx
        simp only [Pr.rng] at this
        simp only [Option.getD_some]; omega
    exact ⟨(g 0).1, (g 0).2, (g 1).1, (g 1).2, (g 2).1, (g 2).2, (g 3).1, (g 3).2, (g 4).1, (g 4).2, (g 5).1, (g 5).2⟩
  have hb : eqB (bchk (supW l)) 0 = true := by unfold bchk; rw [if_pos hw]; rfl
  have hp : ((((((1 * ((supW l).a + 1)) * ((supW l).b + 1)) * ((supW l).c + 1)) * ((supW l).d + 1)) * ((supW l).e + 1)) * ((supW l).f + 1)) = prodS l := by
    match l, hl with
    | [], _ => rfl
    | [a], _ => simp [supW, prodS]
    | [a, b], _ => simp [supW, prodS]
    | [a, b, c], _ => simp [supW, prodS]
    | [a, b, c, d], _ => simp [supW, prodS]
    | [a, b, c, d, e], _ => simp [supW, prodS]
    | [a, b, c, d, e, f], _ => simp [supW, prodS]
  have hpos : 1 ≤ prodS l := by
    rw [← hp]
    simp only [W6.ok] at hw
    have m : ∀ {x y : Int}, 1 ≤ x → 1 ≤ y → 1 ≤ x * y := fun h1 h2 => by
      calc (1 : Int) = 1 * 1 := rfl
        _ ≤ _ := Int.mul_le_mul h1 h2 (by omega) (by omega)
    exact m (m (m (m (m (m (by omega) (by omega)) (by omega)) (by omega)) (by omega)) (by omega)) (by omega)
  unfold cntW
  rw [if_pos hb]
  simp only [hp]
  cases h : ltB 1024 (prodS l) with
  | true => simp [eqB]
  | false => simp [eqB]; omega
theorem cut_hi {l : List Pr} {i : Nat} (h : i ≤ l.length) : (0 : Int) ≤ 0 ∧ (0 : Int) ≤ (i : Int) ∧ (i : Int) ≤ ((l.map Pr.row).length : Int) := by rw [List.length_map]; omega
theorem check08_sem (σ : List MO) (l : List Pr) (P : PV) (hP : P.rowsOf 5 = some (l.map Pr.row)) (n : Nat) (hn : 50 ≤ n) : evalF Tab n n_catalog_Check [P] σ = some (.int .i64 (pchk l), σ) := by
  obtain ⟨n, rfl⟩ : ∃ k, n = k + 1 := ⟨n - 1, by omega⟩
  obtain ⟨p1, p2, p3⟩ := rows_len hP
  rw [List.length_map] at p1
  simp only [evalF, tab_catalog_Check, Option.bind_some, Sys.run]
  show ((bindPs [.sh (.one _)] _).bind _) = _
  simp -implicitDefEqProofs only [bindPs, bind1, bindK, Option.map_some, Option.bind_some, List.append_nil, List.nil_append, List.cons_append, if_true, p3]
  show (PT.ev _ catalog_Check_s _).bind _ = _
  simp -implicitDefEqProofs only [catalog_Check_s, ↓reduceIte, eq_self, evb_ret, evb_ite, evb_need, evb_load, evb_app, evb_cut, evb_scut, evb_chk, evb_appF, evb_call, evb_callv, evb_newM, evb_mkM, evb_storeM, evb_appM, evb_mkMap, evb_mapGet, evb_mapSet, evb_mapClr, evb_jump, BE.safe, BE.pe, IE.pe, PEnv.at, List.getD_cons_zero, List.getD_cons_succ, List.getElem?_cons_zero, List.getElem?_cons_succ, locOf, locOn, readLoc, takeN, Nat.add_zero, List.drop_zero, List.length_cons, List.length_nil, Nat.reduceAdd, Nat.le_refl, if_true, if_false, Bool.false_eq_true, List.take_succ_cons, List.take_zero, bindK, bindRes, bind1, Option.map_some, Option.bind_some, PEnv.push, List.cons_append, List.nil_append, List.append_nil, SV.pvs, SV.pv, BE.all, Bool.and_self, Bool.not_true, Bool.not_false, List.map_cons, List.map_nil, p1, p2, pchk]
  cases h0 : eqB (l.length : Int) 0 with
  | true => simp -implicitDefEqProofs only [↓reduceIte, eq_self, evb_ret, evb_ite, evb_need, evb_load, evb_app, evb_cut, evb_scut, evb_chk, evb_appF, evb_call, evb_callv, evb_newM, evb_mkM, evb_storeM, evb_appM, evb_mkMap, evb_mapGet, evb_mapSet, evb_mapClr, evb_jump, BE.safe, BE.pe, IE.pe, PEnv.at, List.getD_cons_zero, List.getD_cons_succ, List.getElem?_cons_zero, List.getElem?_cons_succ, locOf, locOn, readLoc, takeN, Nat.add_zero, List.drop_zero, List.length_cons, List.length_nil, Nat.reduceAdd, Nat.le_refl, if_true, if_false, Bool.false_eq_true, List.take_succ_cons, List.take_zero, bindK, bindRes, bind1, Option.map_some, Option.bind_some, PEnv.push, List.cons_append, List.nil_append, List.append_nil, SV.pvs, SV.pv, BE.all, Bool.and_self, Bool.not_true, Bool.not_false, List.map_cons, List.map_nil, retP, or_true]
  | false =>
  cases h6 : ltB 6 (l.length : Int) with
  | true => simp -implicitDefEqProofs only [↓reduceIte, eq_self, evb_ret, evb_ite, evb_need, evb_load, evb_app, evb_cut, evb_scut, evb_chk, evb_appF, evb_call, evb_callv, evb_newM, evb_mkM, evb_storeM, evb_appM, evb_mkMap, evb_mapGet, evb_mapSet, evb_mapClr, evb_jump, BE.safe, BE.pe, IE.pe, PEnv.at, List.getD_cons_zero, List.getD_cons_succ, List.getElem?_cons_zero, List.getElem?_cons_succ, locOf, locOn, readLoc, takeN, Nat.add_zero, List.drop_zero, List.length_cons, List.length_nil, Nat.reduceAdd, Nat.le_refl, if_true, if_false, Bool.false_eq_true, List.take_succ_cons, List.take_zero, bindK, bindRes, bind1, Option.map_some, Option.bind_some, PEnv.push, List.cons_append, List.nil_append, List.append_nil, SV.pvs, SV.pv, BE.all, Bool.and_self, Bool.not_true, Bool.not_false, List.map_cons, List.map_nil, p1, p2, h6, retP, or_true]
  | false =>
  rw [ltB_false] at h6
  have loop : ∀ d i, i + d = l.length → (∀ x ∈ l.take i, x.rng) → ∀ fuel, catalog_Check_S.loop (evalF Tab n) (fuel + d + 1) 0 { i := [(l.length : Int), (i : Int)], b := [], v := [P], m := σ, k := σ.length } = some (.int .i64 (pgo l d i), σ) := by
    intro d
    induction d with
    | zero =>
      intro i hi hr fuel
      rw [Nat.add_zero] at hi; subst hi
      have hd : decide (l.length < l.length) = false := by simp
      have c1 := supply_sem σ l P hP (by omega) n (by omega)
      have c2 := count_sem σ (supW l) n (by omega)
      have c3 := cnt_prod (l := l) (by omega) (by rwa [take_all] at hr)
      simp only [n_catalog_Supply, n_bundle_Count, W6.pv] at c1 c2
      rw [Sys.loop, show catalog_Check_S.loops[0]? = some catalog_Check_t0 from rfl]
      simp -implicitDefEqProofs only [Option.bind_some, catalog_Check_t0, ↓reduceIte, eq_self, evb_ret, evb_ite, evb_need, evb_load, evb_app, evb_cut, evb_scut, evb_chk, evb_appF, evb_call, evb_callv, evb_newM, evb_mkM, evb_storeM, evb_appM, evb_mkMap, evb_mapGet, evb_mapSet, evb_mapClr, evb_jump, BE.safe, BE.pe, IE.pe, PEnv.at, List.getD_cons_zero, List.getD_cons_succ, List.getElem?_cons_zero, List.getElem?_cons_succ, locOf, locOn, readLoc, takeN, Nat.add_zero, List.drop_zero, List.length_cons, List.length_nil, Nat.reduceAdd, Nat.le_refl, if_true, if_false, Bool.false_eq_true, List.take_succ_cons, List.take_zero, bindK, bindRes, bind1, Option.map_some, Option.bind_some, PEnv.push, List.cons_append, List.nil_append, List.append_nil, SV.pvs, SV.pv, BE.all, Bool.and_self, Bool.not_true, Bool.not_false, List.map_cons, List.map_nil, ltB_nat, hd, c1, c2, c3, pgo, pfin]
      cases ltB 1024 (prodS l) <;> simp -implicitDefEqProofs only [↓reduceIte, eq_self, evb_ret, evb_ite, evb_need, evb_load, evb_app, evb_cut, evb_scut, evb_chk, evb_appF, evb_call, evb_callv, evb_newM, evb_mkM, evb_storeM, evb_appM, evb_mkMap, evb_mapGet, evb_mapSet, evb_mapClr, evb_jump, BE.safe, BE.pe, IE.pe, PEnv.at, List.getD_cons_zero, List.getD_cons_succ, List.getElem?_cons_zero, List.getElem?_cons_succ, locOf, locOn, readLoc, takeN, Nat.add_zero, List.drop_zero, List.length_cons, List.length_nil, Nat.reduceAdd, Nat.le_refl, if_true, if_false, Bool.false_eq_true, List.take_succ_cons, List.take_zero, bindK, bindRes, bind1, Option.map_some, Option.bind_some, PEnv.push, List.cons_append, List.nil_append, List.append_nil, SV.pvs, SV.pv, BE.all, Bool.and_self, Bool.not_true, Bool.not_false, List.map_cons, List.map_nil, retP, or_true]
    | succ d ih =>
      intro i hi hr fuel
      have hlt : i < l.length := by omega
      obtain ⟨x, hx⟩ := get_ex hlt
      have hd : decide (i < l.length) = true := decide_eq_true hlt
      have hq := rows_get (off := 0) hP (rows_prs hx)
      have hup := up_ok (show i ≤ 1000000000 by omega)
      have c1 := lname_sem σ x.nm n (by omega)
      have hcut : ((((l.map Pr.row).take (i : Int).toNat).drop (0 : Int).toNat)) = (l.take i).map Pr.row := by simp [List.map_take]
      obtain ⟨k, c2⟩ := find_sem σ (l.take i) (.sl 5 ((l.take i).map Pr.row)) (sl_rows _ _) (by simp; omega) x.nm n (by simp; omega)
      have b1 := between_sem σ x.s 1 4 n (by omega)
      have b2 := between_sem σ x.r 0 1000000 n (by omega)
      have b3 := between_sem σ x.p 0 1000 n (by omega)
      have b4 := between_sem σ x.g 0 4 n (by omega)
      simp only [n_lexer_IsName, n_catalog_Find, n_catalog_between] at c1 c2 b1 b2 b3 b4
      rw [pgo, hx, Sys.loop, show catalog_Check_S.loops[0]? = some catalog_Check_t0 from rfl]
      have hc := cut_hi (l := l) (i := i) (by omega)
      simp -implicitDefEqProofs only [Option.bind_some, catalog_Check_t0, ↓reduceIte, eq_self, evb_ret, evb_ite, evb_need, evb_load, evb_app, evb_cut, evb_scut, evb_chk, evb_appF, evb_call, evb_callv, evb_newM, evb_mkM, evb_storeM, evb_appM, evb_mkMap, evb_mapGet, evb_mapSet, evb_mapClr, evb_jump, BE.safe, BE.pe, IE.pe, PEnv.at, List.getD_cons_zero, List.getD_cons_succ, List.getElem?_cons_zero, List.getElem?_cons_succ, locOf, locOn, readLoc, takeN, Nat.add_zero, List.drop_zero, List.length_cons, List.length_nil, Nat.reduceAdd, Nat.le_refl, if_true, if_false, Bool.false_eq_true, List.take_succ_cons, List.take_zero, bindK, bindRes, bind1, Option.map_some, Option.bind_some, PEnv.push, List.cons_append, List.nil_append, List.append_nil, SV.pvs, SV.pv, BE.all, Bool.and_self, Bool.not_true, Bool.not_false, List.map_cons, List.map_nil, p1, ltB_nat, hd, le0, hq, pr_row, one_str, c1, hP, loPe, hiPe, if_pos hc, hcut]
      have h50 : ¬ ((5 : Int) = 0) := by decide
      have h70 : ¬ ((7 : Int) = 0) := by decide
      have h40 : ¬ ((4 : Int) = 0) := by decide
      cases hnm : nameB x.nm with
      | false =>
        have hp : pbad (l.take i) x = 5 := by unfold pbad; rw [hnm]; rfl
        rw [hp, if_neg h50]
        simp -implicitDefEqProofs only [↓reduceIte, eq_self, evb_ret, evb_ite, evb_need, evb_load, evb_app, evb_cut, evb_scut, evb_chk, evb_appF, evb_call, evb_callv, evb_newM, evb_mkM, evb_storeM, evb_appM, evb_mkMap, evb_mapGet, evb_mapSet, evb_mapClr, evb_jump, BE.safe, BE.pe, IE.pe, PEnv.at, List.getD_cons_zero, List.getD_cons_succ, List.getElem?_cons_zero, List.getElem?_cons_succ, locOf, locOn, readLoc, takeN, Nat.add_zero, List.drop_zero, List.length_cons, List.length_nil, Nat.reduceAdd, Nat.le_refl, if_true, if_false, Bool.false_eq_true, List.take_succ_cons, List.take_zero, bindK, bindRes, bind1, Option.map_some, Option.bind_some, PEnv.push, List.cons_append, List.nil_append, List.append_nil, SV.pvs, SV.pv, BE.all, Bool.and_self, Bool.not_true, Bool.not_false, List.map_cons, List.map_nil, retP, or_true]
      | true =>
        simp -implicitDefEqProofs only [↓reduceIte, eq_self, evb_ret, evb_ite, evb_need, evb_load, evb_app, evb_cut, evb_scut, evb_chk, evb_appF, evb_call, evb_callv, evb_newM, evb_mkM, evb_storeM, evb_appM, evb_mkMap, evb_mapGet, evb_mapSet, evb_mapClr, evb_jump, BE.safe, BE.pe, IE.pe, PEnv.at, List.getD_cons_zero, List.getD_cons_succ, List.getElem?_cons_zero, List.getElem?_cons_succ, locOf, locOn, readLoc, takeN, Nat.add_zero, List.drop_zero, List.length_cons, List.length_nil, Nat.reduceAdd, Nat.le_refl, if_true, if_false, Bool.false_eq_true, List.take_succ_cons, List.take_zero, bindK, bindRes, bind1, Option.map_some, Option.bind_some, PEnv.push, List.cons_append, List.nil_append, List.append_nil, SV.pvs, SV.pv, BE.all, Bool.and_self, Bool.not_true, Bool.not_false, List.map_cons, List.map_nil, bindShs, hP, loPe, hiPe, if_pos hc, hcut, c2]
        cases hany : ((l.take i).any fun y => decide (y.nm = x.nm)) with
        | true =>
          have hp : pbad (l.take i) x = 7 := by unfold pbad; rw [hnm, hany]; rfl
          rw [hp, if_neg h70]
          simp -implicitDefEqProofs only [↓reduceIte, eq_self, evb_ret, evb_ite, evb_need, evb_load, evb_app, evb_cut, evb_scut, evb_chk, evb_appF, evb_call, evb_callv, evb_newM, evb_mkM, evb_storeM, evb_appM, evb_mkMap, evb_mapGet, evb_mapSet, evb_mapClr, evb_jump, BE.safe, BE.pe, IE.pe, PEnv.at, List.getD_cons_zero, List.getD_cons_succ, List.getElem?_cons_zero, List.getElem?_cons_succ, locOf, locOn, readLoc, takeN, Nat.add_zero, List.drop_zero, List.length_cons, List.length_nil, Nat.reduceAdd, Nat.le_refl, if_true, if_false, Bool.false_eq_true, List.take_succ_cons, List.take_zero, bindK, bindRes, bind1, Option.map_some, Option.bind_some, PEnv.push, List.cons_append, List.nil_append, List.append_nil, SV.pvs, SV.pv, BE.all, Bool.and_self, Bool.not_true, Bool.not_false, List.map_cons, List.map_nil, bindShs, retP, or_true]
        | false =>
          simp -implicitDefEqProofs only [↓reduceIte, eq_self, evb_ret, evb_ite, evb_need, evb_load, evb_app, evb_cut, evb_scut, evb_chk, evb_appF, evb_call, evb_callv, evb_newM, evb_mkM, evb_storeM, evb_appM, evb_mkMap, evb_mapGet, evb_mapSet, evb_mapClr, evb_jump, BE.safe, BE.pe, IE.pe, PEnv.at, List.getD_cons_zero, List.getD_cons_succ, List.getElem?_cons_zero, List.getElem?_cons_succ, locOf, locOn, readLoc, takeN, Nat.add_zero, List.drop_zero, List.length_cons, List.length_nil, Nat.reduceAdd, Nat.le_refl, if_true, if_false, Bool.false_eq_true, List.take_succ_cons, List.take_zero, bindK, bindRes, bind1, Option.map_some, Option.bind_some, PEnv.push, List.cons_append, List.nil_append, List.append_nil, SV.pvs, SV.pv, BE.all, Bool.and_self, Bool.not_true, Bool.not_false, List.map_cons, List.map_nil, bindShs, b1]
          by_cases hrng : x.rng
          · have ih := ih (i + 1) (by omega) (by
              intro y hy
              rw [List.take_add_one, hx] at hy
              simp only [Option.toList_some, List.mem_append, List.mem_singleton] at hy
              rcases hy with hy | rfl
              · exact hr y hy
              · exact hrng) fuel
            rw [nat_succ] at ih
            have hp : pbad (l.take i) x = 0 := by unfold pbad; rw [hnm, hany, if_pos hrng]; rfl
            rw [hp, if_pos rfl]
            simp only [Pr.rng] at hrng
            have e1 : (leB 1 x.s && leB x.s 4) = true := by simp [leB]; omega
            have e2 : (leB 0 x.r && leB x.r 1000000) = true := by simp [leB]; omega
            have e3 : (leB 0 x.p && leB x.p 1000) = true := by simp [leB]; omega
            have e4 : (leB 0 x.g && leB x.g 4) = true := by simp [leB]; omega
            rw [e1]; rw [e2] at b2; rw [e3] at b3; rw [e4] at b4
            simp -implicitDefEqProofs only [↓reduceIte, eq_self, evb_ret, evb_ite, evb_need, evb_load, evb_app, evb_cut, evb_scut, evb_chk, evb_appF, evb_call, evb_callv, evb_newM, evb_mkM, evb_storeM, evb_appM, evb_mkMap, evb_mapGet, evb_mapSet, evb_mapClr, evb_jump, BE.safe, BE.pe, IE.pe, PEnv.at, List.getD_cons_zero, List.getD_cons_succ, List.getElem?_cons_zero, List.getElem?_cons_succ, locOf, locOn, readLoc, takeN, Nat.add_zero, List.drop_zero, List.length_cons, List.length_nil, Nat.reduceAdd, Nat.le_refl, if_true, if_false, Bool.false_eq_true, List.take_succ_cons, List.take_zero, bindK, bindRes, bind1, Option.map_some, Option.bind_some, PEnv.push, List.cons_append, List.nil_append, List.append_nil, SV.pvs, SV.pv, BE.all, Bool.and_self, Bool.not_true, Bool.not_false, List.map_cons, List.map_nil, bindShs, b2, b3, b4, if_pos hup]
            exact ih
          · have hp : pbad (l.take i) x = 4 := by unfold pbad; rw [hnm, hany, if_neg hrng]; rfl
            rw [hp, if_neg h40]
            cases e1 : (leB 1 x.s && leB x.s 4) with
            | false => simp -implicitDefEqProofs only [↓reduceIte, eq_self, evb_ret, evb_ite, evb_need, evb_load, evb_app, evb_cut, evb_scut, evb_chk, evb_appF, evb_call, evb_callv, evb_newM, evb_mkM, evb_storeM, evb_appM, evb_mkMap, evb_mapGet, evb_mapSet, evb_mapClr, evb_jump, BE.safe, BE.pe, IE.pe, PEnv.at, List.getD_cons_zero, List.getD_cons_succ, List.getElem?_cons_zero, List.getElem?_cons_succ, locOf, locOn, readLoc, takeN, Nat.add_zero, List.drop_zero, List.length_cons, List.length_nil, Nat.reduceAdd, Nat.le_refl, if_true, if_false, Bool.false_eq_true, List.take_succ_cons, List.take_zero, bindK, bindRes, bind1, Option.map_some, Option.bind_some, PEnv.push, List.cons_append, List.nil_append, List.append_nil, SV.pvs, SV.pv, BE.all, Bool.and_self, Bool.not_true, Bool.not_false, List.map_cons, List.map_nil, bindShs, retP, or_true]
            | true =>
            cases e2 : (leB 0 x.r && leB x.r 1000000) with
            | false => rw [e2] at b2; simp -implicitDefEqProofs only [↓reduceIte, eq_self, evb_ret, evb_ite, evb_need, evb_load, evb_app, evb_cut, evb_scut, evb_chk, evb_appF, evb_call, evb_callv, evb_newM, evb_mkM, evb_storeM, evb_appM, evb_mkMap, evb_mapGet, evb_mapSet, evb_mapClr, evb_jump, BE.safe, BE.pe, IE.pe, PEnv.at, List.getD_cons_zero, List.getD_cons_succ, List.getElem?_cons_zero, List.getElem?_cons_succ, locOf, locOn, readLoc, takeN, Nat.add_zero, List.drop_zero, List.length_cons, List.length_nil, Nat.reduceAdd, Nat.le_refl, if_true, if_false, Bool.false_eq_true, List.take_succ_cons, List.take_zero, bindK, bindRes, bind1, Option.map_some, Option.bind_some, PEnv.push, List.cons_append, List.nil_append, List.append_nil, SV.pvs, SV.pv, BE.all, Bool.and_self, Bool.not_true, Bool.not_false, List.map_cons, List.map_nil, bindShs, b2, retP, or_true]
            | true =>
            cases e3 : (leB 0 x.p && leB x.p 1000) with
            | false => rw [e2] at b2; rw [e3] at b3; simp -implicitDefEqProofs only [↓reduceIte, eq_self, evb_ret, evb_ite, evb_need, evb_load, evb_app, evb_cut, evb_scut, evb_chk, evb_appF, evb_call, evb_callv, evb_newM, evb_mkM, evb_storeM, evb_appM, evb_mkMap, evb_mapGet, evb_mapSet, evb_mapClr, evb_jump, BE.safe, BE.pe, IE.pe, PEnv.at, List.getD_cons_zero, List.getD_cons_succ, List.getElem?_cons_zero, List.getElem?_cons_succ, locOf, locOn, readLoc, takeN, Nat.add_zero, List.drop_zero, List.length_cons, List.length_nil, Nat.reduceAdd, Nat.le_refl, if_true, if_false, Bool.false_eq_true, List.take_succ_cons, List.take_zero, bindK, bindRes, bind1, Option.map_some, Option.bind_some, PEnv.push, List.cons_append, List.nil_append, List.append_nil, SV.pvs, SV.pv, BE.all, Bool.and_self, Bool.not_true, Bool.not_false, List.map_cons, List.map_nil, bindShs, b2, b3, retP, or_true]
            | true =>
            cases e4 : (leB 0 x.g && leB x.g 4) with
            | false => rw [e2] at b2; rw [e3] at b3; rw [e4] at b4; simp -implicitDefEqProofs only [↓reduceIte, eq_self, evb_ret, evb_ite, evb_need, evb_load, evb_app, evb_cut, evb_scut, evb_chk, evb_appF, evb_call, evb_callv, evb_newM, evb_mkM, evb_storeM, evb_appM, evb_mkMap, evb_mapGet, evb_mapSet, evb_mapClr, evb_jump, BE.safe, BE.pe, IE.pe, PEnv.at, List.getD_cons_zero, List.getD_cons_succ, List.getElem?_cons_zero, List.getElem?_cons_succ, locOf, locOn, readLoc, takeN, Nat.add_zero, List.drop_zero, List.length_cons, List.length_nil, Nat.reduceAdd, Nat.le_refl, if_true, if_false, Bool.false_eq_true, List.take_succ_cons, List.take_zero, bindK, bindRes, bind1, Option.map_some, Option.bind_some, PEnv.push, List.cons_append, List.nil_append, List.append_nil, SV.pvs, SV.pv, BE.all, Bool.and_self, Bool.not_true, Bool.not_false, List.map_cons, List.map_nil, bindShs, b2, b3, b4, retP, or_true]
            | true =>
              exfalso; apply hrng
              simp only [Bool.and_eq_true, leB_true] at e1 e2 e3 e4
              simp only [Pr.rng]; omega
  have := loop l.length 0 (by omega) (by simp) (n - l.length - 1)
  rw [show n - l.length - 1 + l.length + 1 = n by omega] at this
  have h6' : ltB 6 (l.length : Int) = false := by rw [ltB_false]; omega
  simp -implicitDefEqProofs only [↓reduceIte, eq_self, evb_ret, evb_ite, evb_need, evb_load, evb_app, evb_cut, evb_scut, evb_chk, evb_appF, evb_call, evb_callv, evb_newM, evb_mkM, evb_storeM, evb_appM, evb_mkMap, evb_mapGet, evb_mapSet, evb_mapClr, evb_jump, BE.safe, BE.pe, IE.pe, PEnv.at, List.getD_cons_zero, List.getD_cons_succ, List.getElem?_cons_zero, List.getElem?_cons_succ, locOf, locOn, readLoc, takeN, Nat.add_zero, List.drop_zero, List.length_cons, List.length_nil, Nat.reduceAdd, Nat.le_refl, if_true, if_false, Bool.false_eq_true, List.take_succ_cons, List.take_zero, bindK, bindRes, bind1, Option.map_some, Option.bind_some, PEnv.push, List.cons_append, List.nil_append, List.append_nil, SV.pvs, SV.pv, BE.all, Bool.and_self, Bool.not_true, Bool.not_false, List.map_cons, List.map_nil, bindShs, p1, p2, h6']
  exact this
end Go.Proofs.Ythjahianafohjaa
set_option maxRecDepth 100000
namespace Go.Proofs.Ythjahianafohjaa
open Go.Sx
theorem prod_bd {l : List Pr} (hr : ∀ x ∈ l, x.rng) (hl : l.length ≤ 6) : ∀ i, i ≤ l.length → 1 ≤ prodS (l.take i) ∧ prodS (l.take i) ≤ 15625 := by
  have key : ∀ i, i ≤ l.length → 1 ≤ prodS (l.take i) ∧ prodS (l.take i) ≤ ((5 ^ i : Nat) : Int) := by
    intro i
    induction i with
    | zero => intro _; simp [prodS]
    | succ i ih =>
      intro hi
      obtain ⟨h1, h2⟩ := ih (by omega)
      obtain ⟨x, hx⟩ := get_ex (show i < l.length by omega)
      have hxr := hr x (List.mem_of_getElem? hx)
      simp only [Pr.rng] at hxr
      have : prodS (l.take (i + 1)) = prodS (l.take i) * (x.s + 1) := foldl_take _ _ hx
      rw [this]
      obtain ⟨h3, h4⟩ := mul_bd5 (x := prodS (l.take i)) (y := x.s + 1) h1 h2 (by omega) (by omega)
      refine ⟨h3, ?_⟩
      rw [Nat.pow_succ]; omega
  intro i hi
  obtain ⟨h1, h2⟩ := key i hi
  have : 5 ^ i ≤ 5 ^ 6 := Nat.pow_le_pow_right (by omega) (by omega)
  have h6 : (5 : Nat) ^ 6 = 15625 := by decide
  omega
section
variable (σ : List MO) (l : List Pr) (P : PV) (hP : P.rowsOf 5 = some (l.map Pr.row)) (hl : l.length ≤ 6) (n : Nat) (hn : 40 ≤ n)
def rkSt (σ : List MO) (P : PV) (is : List Int) : PEnv := { i := is, b := [], v := [P], m := σ, k := σ.length }
include hP hl in
theorem rk_prod (hr : ∀ x ∈ l, x.rng) : ∀ d i, i + d = l.length → ∀ fuel, saleroomref08_Check_S.loop (evalF Tab n) (fuel + d + 1) 2 (rkSt σ P [prodS (l.take i), (i : Int)]) = some (.int .i64 (pfin l), σ) := by
  obtain ⟨p1, p2, p3⟩ := rows_len hP
  rw [List.length_map] at p1
  intro d
  induction d with
  | zero =>
    intro i hi fuel
    rw [Nat.add_zero] at hi; subst hi
    have hd : decide (l.length < l.length) = false := by simp
    rw [take_all, Sys.loop, show saleroomref08_Check_S.loops[2]? = some saleroomref08_Check_t2 from rfl]
    simp -implicitDefEqProofs only [Option.bind_some, rkSt, saleroomref08_Check_t2, ↓reduceIte, eq_self, evb_ret, evb_ite, evb_need, evb_load, evb_app, evb_cut, evb_scut, evb_chk, evb_appF, evb_call, evb_callv, evb_newM, evb_mkM, evb_storeM, evb_appM, evb_mkMap, evb_mapGet, evb_mapSet, evb_mapClr, evb_jump, BE.safe, BE.pe, IE.pe, PEnv.at, List.getD_cons_zero, List.getD_cons_succ, List.getElem?_cons_zero, List.getElem?_cons_succ, locOf, locOn, readLoc, takeN, Nat.add_zero, List.drop_zero, List.length_cons, List.length_nil, Nat.reduceAdd, Nat.le_refl, if_true, if_false, Bool.false_eq_true, List.take_succ_cons, List.take_zero, bindK, bindRes, bind1, Option.map_some, Option.bind_some, PEnv.push, List.cons_append, List.nil_append, List.append_nil, SV.pvs, SV.pv, BE.all, Bool.and_self, Bool.not_true, Bool.not_false, List.map_cons, List.map_nil, p1, p2, ltB_nat, hd, pfin]
    cases ltB 1024 (prodS l) <;> simp -implicitDefEqProofs only [↓reduceIte, eq_self, evb_ret, evb_ite, evb_need, evb_load, evb_app, evb_cut, evb_scut, evb_chk, evb_appF, evb_call, evb_callv, evb_newM, evb_mkM, evb_storeM, evb_appM, evb_mkMap, evb_mapGet, evb_mapSet, evb_mapClr, evb_jump, BE.safe, BE.pe, IE.pe, PEnv.at, List.getD_cons_zero, List.getD_cons_succ, List.getElem?_cons_zero, List.getElem?_cons_succ, locOf, locOn, readLoc, takeN, Nat.add_zero, List.drop_zero, List.length_cons, List.length_nil, Nat.reduceAdd, Nat.le_refl, if_true, if_false, Bool.false_eq_true, List.take_succ_cons, List.take_zero, bindK, bindRes, bind1, Option.map_some, Option.bind_some, PEnv.push, List.cons_append, List.nil_append, List.append_nil, SV.pvs, SV.pv, BE.all, Bool.and_self, Bool.not_true, Bool.not_false, List.map_cons, List.map_nil, retP, or_true]
  | succ d ih =>
    intro i hi fuel
    have hlt : i < l.length := by omega
    obtain ⟨x, hx⟩ := get_ex hlt
    have hd : decide (i < l.length) = true := decide_eq_true hlt
    have hq := rows_get (off := 1) hP (rows_prs hx)
    have hup := up_ok (show i ≤ 1000000000 by omega)
    have ih := ih (i + 1) (by omega) fuel
    have hxr := hr x (List.mem_of_getElem? hx)
    simp only [Pr.rng] at hxr
    obtain ⟨b1, b2⟩ := prod_bd hr hl i (by omega)
    obtain ⟨b3, b4⟩ := prod_bd hr hl (i + 1) (by omega)
    rw [nat_succ] at ih
    rw [show prodS (l.take (i + 1)) = prodS (l.take i) * (x.s + 1) from foldl_take _ _ hx] at b3 b4 ih
    have dr : ∀ a b c d e : PV, List.drop 1 [a, b, c, d, e] = [b, c, d, e] := fun _ _ _ _ _ => rfl
    rw [show fuel + (d + 1) + 1 = (fuel + d + 1) + 1 from rfl, Sys.loop, show saleroomref08_Check_S.loops[2]? = some saleroomref08_Check_t2 from rfl]
    simp -implicitDefEqProofs only [Option.bind_some, rkSt, saleroomref08_Check_t2, ↓reduceIte, eq_self, evb_ret, evb_ite, evb_need, evb_load, evb_app, evb_cut, evb_scut, evb_chk, evb_appF, evb_call, evb_callv, evb_newM, evb_mkM, evb_storeM, evb_appM, evb_mkMap, evb_mapGet, evb_mapSet, evb_mapClr, evb_jump, BE.safe, BE.pe, IE.pe, PEnv.at, List.getD_cons_zero, List.getD_cons_succ, List.getElem?_cons_zero, List.getElem?_cons_succ, locOf, locOn, readLoc, takeN, Nat.add_zero, List.drop_zero, List.length_cons, List.length_nil, Nat.reduceAdd, Nat.le_refl, if_true, if_false, Bool.false_eq_true, List.take_succ_cons, List.take_zero, bindK, bindRes, bind1, Option.map_some, Option.bind_some, PEnv.push, List.cons_append, List.nil_append, List.append_nil, SV.pvs, SV.pv, BE.all, Bool.and_self, Bool.not_true, Bool.not_false, List.map_cons, List.map_nil, p1, p2, ltB_nat, hd, le0, hq, pr_row, dr, Nat.reduceLeDiff, if_pos (i64_ok (z := x.s + 1) (by omega)), if_pos (i64_ok (z := prodS (l.take i) * (x.s + 1)) (by omega)), if_pos hup]
    exact ih
include hP hl in
theorem rk_in (i : Nat) (x : Pr) (hx : l[i]? = some x) : ∀ d k, k + d = i → ∀ fuel, saleroomref08_Check_S.loop (evalF Tab n) (fuel + d + 1) 1 (rkSt σ P [(i : Int), (k : Int)]) = if (((l.take i).drop k).any fun y => decide (y.nm = x.nm)) = true then some (.int .i64 7, σ) else if x.rng then saleroomref08_Check_S.loop (evalF Tab n) fuel 0 (rkSt σ P [(i : Int) + 1]) else some (.int .i64 4, σ) := by
  obtain ⟨p1, p2, p3⟩ := rows_len hP
  rw [List.length_map] at p1
  have hlt : i < l.length := (List.getElem?_eq_some_iff.1 hx).1
  have hd : decide (i < l.length) = true := decide_eq_true hlt
  have hq := rows_get (off := 0) hP (rows_prs hx)
  have hup := up_ok (show i ≤ 1000000000 by omega)
  have hlen : (l.take i).length = i := by simp; omega
  intro d
  induction d with
  | zero =>
    intro k hk fuel
    rw [Nat.add_zero] at hk; subst hk
    have hk : decide (k < k) = false := by simp
    have he : (l.take k).drop k = [] := List.drop_eq_nil_of_le (by omega)
    have hF : ¬ (false = true) := by simp
    rw [he, List.any_nil, if_neg hF, Sys.loop, show saleroomref08_Check_S.loops[1]? = some saleroomref08_Check_t1 from rfl]
    simp -implicitDefEqProofs only [Option.bind_some, rkSt, saleroomref08_Check_t1, ↓reduceIte, eq_self, evb_ret, evb_ite, evb_need, evb_load, evb_app, evb_cut, evb_scut, evb_chk, evb_appF, evb_call, evb_callv, evb_newM, evb_mkM, evb_storeM, evb_appM, evb_mkMap, evb_mapGet, evb_mapSet, evb_mapClr, evb_jump, BE.safe, BE.pe, IE.pe, PEnv.at, List.getD_cons_zero, List.getD_cons_succ, List.getElem?_cons_zero, List.getElem?_cons_succ, locOf, locOn, readLoc, takeN, Nat.add_zero, List.drop_zero, List.length_cons, List.length_nil, Nat.reduceAdd, Nat.le_refl, if_true, if_false, Bool.false_eq_true, List.take_succ_cons, List.take_zero, bindK, bindRes, bind1, Option.map_some, Option.bind_some, PEnv.push, List.cons_append, List.nil_append, List.append_nil, SV.pvs, SV.pv, BE.all, Bool.and_self, Bool.not_true, Bool.not_false, List.map_cons, List.map_nil, p1, p2, ltB_nat, hk, hd, le0, hq, pr_row, one_str]
    by_cases hrng : x.rng
    · rw [if_pos hrng]
      simp only [Pr.rng] at hrng
      have e1 : ltB x.s 1 = false := by rw [ltB_false]; omega
      have e2 : ltB 4 x.s = false := by rw [ltB_false]; omega
      have e3 : ltB x.r 0 = false := by rw [ltB_false]; omega
      have e4 : ltB 1000000 x.r = false := by rw [ltB_false]; omega
      have e5 : ltB x.p 0 = false := by rw [ltB_false]; omega
      have e6 : ltB 1000 x.p = false := by rw [ltB_false]; omega
      have e7 : ltB x.g 0 = false := by rw [ltB_false]; omega
      have e8 : ltB 4 x.g = false := by rw [ltB_false]; omega
      simp -implicitDefEqProofs only [↓reduceIte, eq_self, evb_ret, evb_ite, evb_need, evb_load, evb_app, evb_cut, evb_scut, evb_chk, evb_appF, evb_call, evb_callv, evb_newM, evb_mkM, evb_storeM, evb_appM, evb_mkMap, evb_mapGet, evb_mapSet, evb_mapClr, evb_jump, BE.safe, BE.pe, IE.pe, PEnv.at, List.getD_cons_zero, List.getD_cons_succ, List.getElem?_cons_zero, List.getElem?_cons_succ, locOf, locOn, readLoc, takeN, Nat.add_zero, List.drop_zero, List.length_cons, List.length_nil, Nat.reduceAdd, Nat.le_refl, if_true, if_false, Bool.false_eq_true, List.take_succ_cons, List.take_zero, bindK, bindRes, bind1, Option.map_some, Option.bind_some, PEnv.push, List.cons_append, List.nil_append, List.append_nil, SV.pvs, SV.pv, BE.all, Bool.and_self, Bool.not_true, Bool.not_false, List.map_cons, List.map_nil, e1, e2, e3, e4, e5, e6, e7, e8, if_pos hup]
    · rw [if_neg hrng]
      cases e1 : ltB x.s 1 with
      | true => simp -implicitDefEqProofs only [↓reduceIte, eq_self, evb_ret, evb_ite, evb_need, evb_load, evb_app, evb_cut, evb_scut, evb_chk, evb_appF, evb_call, evb_callv, evb_newM, evb_mkM, evb_storeM, evb_appM, evb_mkMap, evb_mapGet, evb_mapSet, evb_mapClr, evb_jump, BE.safe, BE.pe, IE.pe, PEnv.at, List.getD_cons_zero, List.getD_cons_succ, List.getElem?_cons_zero, List.getElem?_cons_succ, locOf, locOn, readLoc, takeN, Nat.add_zero, List.drop_zero, List.length_cons, List.length_nil, Nat.reduceAdd, Nat.le_refl, if_true, if_false, Bool.false_eq_true, List.take_succ_cons, List.take_zero, bindK, bindRes, bind1, Option.map_some, Option.bind_some, PEnv.push, List.cons_append, List.nil_append, List.append_nil, SV.pvs, SV.pv, BE.all, Bool.and_self, Bool.not_true, Bool.not_false, List.map_cons, List.map_nil, retP, or_true]
      | false =>
      cases e2 : ltB 4 x.s with
      | true => simp -implicitDefEqProofs only [↓reduceIte, eq_self, evb_ret, evb_ite, evb_need, evb_load, evb_app, evb_cut, evb_scut, evb_chk, evb_appF, evb_call, evb_callv, evb_newM, evb_mkM, evb_storeM, evb_appM, evb_mkMap, evb_mapGet, evb_mapSet, evb_mapClr, evb_jump, BE.safe, BE.pe, IE.pe, PEnv.at, List.getD_cons_zero, List.getD_cons_succ, List.getElem?_cons_zero, List.getElem?_cons_succ, locOf, locOn, readLoc, takeN, Nat.add_zero, List.drop_zero, List.length_cons, List.length_nil, Nat.reduceAdd, Nat.le_refl, if_true, if_false, Bool.false_eq_true, List.take_succ_cons, List.take_zero, bindK, bindRes, bind1, Option.map_some, Option.bind_some, PEnv.push, List.cons_append, List.nil_append, List.append_nil, SV.pvs, SV.pv, BE.all, Bool.and_self, Bool.not_true, Bool.not_false, List.map_cons, List.map_nil, retP, or_true]
      | false =>
      cases e3 : ltB x.r 0 with
      | true => simp -implicitDefEqProofs only [↓reduceIte, eq_self, evb_ret, evb_ite, evb_need, evb_load, evb_app, evb_cut, evb_scut, evb_chk, evb_appF, evb_call, evb_callv, evb_newM, evb_mkM, evb_storeM, evb_appM, evb_mkMap, evb_mapGet, evb_mapSet, evb_mapClr, evb_jump, BE.safe, BE.pe, IE.pe, PEnv.at, List.getD_cons_zero, List.getD_cons_succ, List.getElem?_cons_zero, List.getElem?_cons_succ, locOf, locOn, readLoc, takeN, Nat.add_zero, List.drop_zero, List.length_cons, List.length_nil, Nat.reduceAdd, Nat.le_refl, if_true, if_false, Bool.false_eq_true, List.take_succ_cons, List.take_zero, bindK, bindRes, bind1, Option.map_some, Option.bind_some, PEnv.push, List.cons_append, List.nil_append, List.append_nil, SV.pvs, SV.pv, BE.all, Bool.and_self, Bool.not_true, Bool.not_false, List.map_cons, List.map_nil, retP, or_true]
      | false =>
      cases e4 : ltB 1000000 x.r with
      | true => simp -implicitDefEqProofs only [↓reduceIte, eq_self, evb_ret, evb_ite, evb_need, evb_load, evb_app, evb_cut, evb_scut, evb_chk, evb_appF, evb_call, evb_callv, evb_newM, evb_mkM, evb_storeM, evb_appM, evb_mkMap, evb_mapGet, evb_mapSet, evb_mapClr, evb_jump, BE.safe, BE.pe, IE.pe, PEnv.at, List.getD_cons_zero, List.getD_cons_succ, List.getElem?_cons_zero, List.getElem?_cons_succ, locOf, locOn, readLoc, takeN, Nat.add_zero, List.drop_zero, List.length_cons, List.length_nil, Nat.reduceAdd, Nat.le_refl, if_true, if_false, Bool.false_eq_true, List.take_succ_cons, List.take_zero, bindK, bindRes, bind1, Option.map_some, Option.bind_some, PEnv.push, List.cons_append, List.nil_append, List.append_nil, SV.pvs, SV.pv, BE.all, Bool.and_self, Bool.not_true, Bool.not_false, List.map_cons, List.map_nil, retP, or_true]
      | false =>
      cases e5 : ltB x.p 0 with
      | true => simp -implicitDefEqProofs only [↓reduceIte, eq_self, evb_ret, evb_ite, evb_need, evb_load, evb_app, evb_cut, evb_scut, evb_chk, evb_appF, evb_call, evb_callv, evb_newM, evb_mkM, evb_storeM, evb_appM, evb_mkMap, evb_mapGet, evb_mapSet, evb_mapClr, evb_jump, BE.safe, BE.pe, IE.pe, PEnv.at, List.getD_cons_zero, List.getD_cons_succ, List.getElem?_cons_zero, List.getElem?_cons_succ, locOf, locOn, readLoc, takeN, Nat.add_zero, List.drop_zero, List.length_cons, List.length_nil, Nat.reduceAdd, Nat.le_refl, if_true, if_false, Bool.false_eq_true, List.take_succ_cons, List.take_zero, bindK, bindRes, bind1, Option.map_some, Option.bind_some, PEnv.push, List.cons_append, List.nil_append, List.append_nil, SV.pvs, SV.pv, BE.all, Bool.and_self, Bool.not_true, Bool.not_false, List.map_cons, List.map_nil, retP, or_true]
      | false =>
      cases e6 : ltB 1000 x.p with
      | true => simp -implicitDefEqProofs only [↓reduceIte, eq_self, evb_ret, evb_ite, evb_need, evb_load, evb_app, evb_cut, evb_scut, evb_chk, evb_appF, evb_call, evb_callv, evb_newM, evb_mkM, evb_storeM, evb_appM, evb_mkMap, evb_mapGet, evb_mapSet, evb_mapClr, evb_jump, BE.safe, BE.pe, IE.pe, PEnv.at, List.getD_cons_zero, List.getD_cons_succ, List.getElem?_cons_zero, List.getElem?_cons_succ, locOf, locOn, readLoc, takeN, Nat.add_zero, List.drop_zero, List.length_cons, List.length_nil, Nat.reduceAdd, Nat.le_refl, if_true, if_false, Bool.false_eq_true, List.take_succ_cons, List.take_zero, bindK, bindRes, bind1, Option.map_some, Option.bind_some, PEnv.push, List.cons_append, List.nil_append, List.append_nil, SV.pvs, SV.pv, BE.all, Bool.and_self, Bool.not_true, Bool.not_false, List.map_cons, List.map_nil, retP, or_true]
      | false =>
      cases e7 : ltB x.g 0 with
      | true => simp -implicitDefEqProofs only [↓reduceIte, eq_self, evb_ret, evb_ite, evb_need, evb_load, evb_app, evb_cut, evb_scut, evb_chk, evb_appF, evb_call, evb_callv, evb_newM, evb_mkM, evb_storeM, evb_appM, evb_mkMap, evb_mapGet, evb_mapSet, evb_mapClr, evb_jump, BE.safe, BE.pe, IE.pe, PEnv.at, List.getD_cons_zero, List.getD_cons_succ, List.getElem?_cons_zero, List.getElem?_cons_succ, locOf, locOn, readLoc, takeN, Nat.add_zero, List.drop_zero, List.length_cons, List.length_nil, Nat.reduceAdd, Nat.le_refl, if_true, if_false, Bool.false_eq_true, List.take_succ_cons, List.take_zero, bindK, bindRes, bind1, Option.map_some, Option.bind_some, PEnv.push, List.cons_append, List.nil_append, List.append_nil, SV.pvs, SV.pv, BE.all, Bool.and_self, Bool.not_true, Bool.not_false, List.map_cons, List.map_nil, retP, or_true]
      | false =>
      cases e8 : ltB 4 x.g with
      | true => simp -implicitDefEqProofs only [↓reduceIte, eq_self, evb_ret, evb_ite, evb_need, evb_load, evb_app, evb_cut, evb_scut, evb_chk, evb_appF, evb_call, evb_callv, evb_newM, evb_mkM, evb_storeM, evb_appM, evb_mkMap, evb_mapGet, evb_mapSet, evb_mapClr, evb_jump, BE.safe, BE.pe, IE.pe, PEnv.at, List.getD_cons_zero, List.getD_cons_succ, List.getElem?_cons_zero, List.getElem?_cons_succ, locOf, locOn, readLoc, takeN, Nat.add_zero, List.drop_zero, List.length_cons, List.length_nil, Nat.reduceAdd, Nat.le_refl, if_true, if_false, Bool.false_eq_true, List.take_succ_cons, List.take_zero, bindK, bindRes, bind1, Option.map_some, Option.bind_some, PEnv.push, List.cons_append, List.nil_append, List.append_nil, SV.pvs, SV.pv, BE.all, Bool.and_self, Bool.not_true, Bool.not_false, List.map_cons, List.map_nil, retP, or_true]
      | false =>
        exfalso; apply hrng
        simp only [ltB_false] at e1 e2 e3 e4 e5 e6 e7 e8
        simp only [Pr.rng]; omega
  | succ d ih =>
    intro k hk fuel
    have hlk : k < l.length := by omega
    obtain ⟨y, hy⟩ := get_ex hlk
    have hki : decide (k < i) = true := decide_eq_true (by omega)
    have hkl : decide (k < l.length) = true := decide_eq_true hlk
    have hq2 := rows_get (off := 0) hP (rows_prs hy)
    have hup2 := up_ok (show k ≤ 1000000000 by omega)
    have hyt : (l.take i)[k]? = some y := by rw [List.getElem?_take_of_lt (by omega)]; exact hy
    rw [drop_cons hyt, List.any_cons, show fuel + (d + 1) + 1 = (fuel + d + 1) + 1 from rfl, Sys.loop, show saleroomref08_Check_S.loops[1]? = some saleroomref08_Check_t1 from rfl]
    by_cases hn : y.nm = x.nm
    · rw [decide_eq_true hn, Bool.true_or, if_pos rfl]
      simp -implicitDefEqProofs only [Option.bind_some, rkSt, saleroomref08_Check_t1, ↓reduceIte, eq_self, evb_ret, evb_ite, evb_need, evb_load, evb_app, evb_cut, evb_scut, evb_chk, evb_appF, evb_call, evb_callv, evb_newM, evb_mkM, evb_storeM, evb_appM, evb_mkMap, evb_mapGet, evb_mapSet, evb_mapClr, evb_jump, BE.safe, BE.pe, IE.pe, PEnv.at, List.getD_cons_zero, List.getD_cons_succ, List.getElem?_cons_zero, List.getElem?_cons_succ, locOf, locOn, readLoc, takeN, Nat.add_zero, List.drop_zero, List.length_cons, List.length_nil, Nat.reduceAdd, Nat.le_refl, if_true, if_false, Bool.false_eq_true, List.take_succ_cons, List.take_zero, bindK, bindRes, bind1, Option.map_some, Option.bind_some, PEnv.push, List.cons_append, List.nil_append, List.append_nil, SV.pvs, SV.pv, BE.all, Bool.and_self, Bool.not_true, Bool.not_false, List.map_cons, List.map_nil, p1, p2, ltB_nat, hki, hkl, hd, le0, hq, hq2, pr_row, one_str, is3, sEq_eq, decide_eq_true hn, retP, or_true, Nat.reduceLeDiff]
    · have ih := ih (k + 1) (by omega) fuel
      rw [nat_succ] at ih
      rw [decide_eq_false hn, Bool.false_or, ← ih]
      simp -implicitDefEqProofs only [Option.bind_some, rkSt, saleroomref08_Check_t1, ↓reduceIte, eq_self, evb_ret, evb_ite, evb_need, evb_load, evb_app, evb_cut, evb_scut, evb_chk, evb_appF, evb_call, evb_callv, evb_newM, evb_mkM, evb_storeM, evb_appM, evb_mkMap, evb_mapGet, evb_mapSet, evb_mapClr, evb_jump, BE.safe, BE.pe, IE.pe, PEnv.at, List.getD_cons_zero, List.getD_cons_succ, List.getElem?_cons_zero, List.getElem?_cons_succ, locOf, locOn, readLoc, takeN, Nat.add_zero, List.drop_zero, List.length_cons, List.length_nil, Nat.reduceAdd, Nat.le_refl, if_true, if_false, Bool.false_eq_true, List.take_succ_cons, List.take_zero, bindK, bindRes, bind1, Option.map_some, Option.bind_some, PEnv.push, List.cons_append, List.nil_append, List.append_nil, SV.pvs, SV.pv, BE.all, Bool.and_self, Bool.not_true, Bool.not_false, List.map_cons, List.map_nil, p1, p2, ltB_nat, hki, hkl, hd, le0, hq, hq2, pr_row, one_str, is3, sEq_eq, decide_eq_false hn, if_pos hup2, Nat.reduceLeDiff]
include hP hl hn in
theorem rk_out : ∀ d i, i + d = l.length → (∀ x ∈ l.take i, x.rng) → ∀ fuel, 8 + d * 8 ≤ fuel → saleroomref08_Check_S.loop (evalF Tab n) fuel 0 (rkSt σ P [(i : Int)]) = some (.int .i64 (pgo l d i), σ) := by
  obtain ⟨p1, p2, p3⟩ := rows_len hP
  rw [List.length_map] at p1
  intro d
  induction d with
  | zero =>
    intro i hi hr fuel hf
    rw [Nat.add_zero] at hi; subst hi
    have hd : decide (l.length < l.length) = false := by simp
    obtain ⟨fuel, rfl⟩ : ∃ k, fuel = (k + l.length + 1) + 1 := ⟨fuel - l.length - 2, by omega⟩
    have := rk_prod σ l P hP hl n (by rwa [take_all] at hr) l.length 0 (by omega) fuel
    rw [List.take_zero, show prodS [] = 1 from rfl] at this
    rw [pgo, Sys.loop, show saleroomref08_Check_S.loops[0]? = some saleroomref08_Check_t0 from rfl]
    simp -implicitDefEqProofs only [Option.bind_some, rkSt, saleroomref08_Check_t0, ↓reduceIte, eq_self, evb_ret, evb_ite, evb_need, evb_load, evb_app, evb_cut, evb_scut, evb_chk, evb_appF, evb_call, evb_callv, evb_newM, evb_mkM, evb_storeM, evb_appM, evb_mkMap, evb_mapGet, evb_mapSet, evb_mapClr, evb_jump, BE.safe, BE.pe, IE.pe, PEnv.at, List.getD_cons_zero, List.getD_cons_succ, List.getElem?_cons_zero, List.getElem?_cons_succ, locOf, locOn, readLoc, takeN, Nat.add_zero, List.drop_zero, List.length_cons, List.length_nil, Nat.reduceAdd, Nat.le_refl, if_true, if_false, Bool.false_eq_true, List.take_succ_cons, List.take_zero, bindK, bindRes, bind1, Option.map_some, Option.bind_some, PEnv.push, List.cons_append, List.nil_append, List.append_nil, SV.pvs, SV.pv, BE.all, Bool.and_self, Bool.not_true, Bool.not_false, List.map_cons, List.map_nil, p1, p2, ltB_nat, hd]
    exact this
  | succ d ih =>
    intro i hi hr fuel hf
    have hlt : i < l.length := by omega
    obtain ⟨x, hx⟩ := get_ex hlt
    have hd : decide (i < l.length) = true := decide_eq_true hlt
    have hq := rows_get (off := 0) hP (rows_prs hx)
    have c1 := rname_sem σ x.nm n (by omega)
    simp only [n_saleroomref08_IsName] at c1
    obtain ⟨fuel, rfl⟩ : ∃ k, fuel = (k + i + 1) + 1 := ⟨fuel - i - 2, by omega⟩
    have inn := rk_in σ l P hP hl n i x hx i 0 (by omega) fuel
    rw [List.drop_zero] at inn
    rw [pgo, hx, Sys.loop, show saleroomref08_Check_S.loops[0]? = some saleroomref08_Check_t0 from rfl]
    simp -implicitDefEqProofs only [Option.bind_some, rkSt, saleroomref08_Check_t0, ↓reduceIte, eq_self, evb_ret, evb_ite, evb_need, evb_load, evb_app, evb_cut, evb_scut, evb_chk, evb_appF, evb_call, evb_callv, evb_newM, evb_mkM, evb_storeM, evb_appM, evb_mkMap, evb_mapGet, evb_mapSet, evb_mapClr, evb_jump, BE.safe, BE.pe, IE.pe, PEnv.at, List.getD_cons_zero, List.getD_cons_succ, List.getElem?_cons_zero, List.getElem?_cons_succ, locOf, locOn, readLoc, takeN, Nat.add_zero, List.drop_zero, List.length_cons, List.length_nil, Nat.reduceAdd, Nat.le_refl, if_true, if_false, Bool.false_eq_true, List.take_succ_cons, List.take_zero, bindK, bindRes, bind1, Option.map_some, Option.bind_some, PEnv.push, List.cons_append, List.nil_append, List.append_nil, SV.pvs, SV.pv, BE.all, Bool.and_self, Bool.not_true, Bool.not_false, List.map_cons, List.map_nil, p1, p2, ltB_nat, hd, le0, hq, pr_row, one_str, Nat.reduceLeDiff, c1]
    have h50 : ¬ ((5 : Int) = 0) := by decide
    have h70 : ¬ ((7 : Int) = 0) := by decide
    have h40 : ¬ ((4 : Int) = 0) := by decide
    cases hnm : nameB x.nm with
    | false =>
      have hp : pbad (l.take i) x = 5 := by unfold pbad; rw [hnm]; rfl
      rw [hp, if_neg h50]
      simp -implicitDefEqProofs only [↓reduceIte, eq_self, evb_ret, evb_ite, evb_need, evb_load, evb_app, evb_cut, evb_scut, evb_chk, evb_appF, evb_call, evb_callv, evb_newM, evb_mkM, evb_storeM, evb_appM, evb_mkMap, evb_mapGet, evb_mapSet, evb_mapClr, evb_jump, BE.safe, BE.pe, IE.pe, PEnv.at, List.getD_cons_zero, List.getD_cons_succ, List.getElem?_cons_zero, List.getElem?_cons_succ, locOf, locOn, readLoc, takeN, Nat.add_zero, List.drop_zero, List.length_cons, List.length_nil, Nat.reduceAdd, Nat.le_refl, if_true, if_false, Bool.false_eq_true, List.take_succ_cons, List.take_zero, bindK, bindRes, bind1, Option.map_some, Option.bind_some, PEnv.push, List.cons_append, List.nil_append, List.append_nil, SV.pvs, SV.pv, BE.all, Bool.and_self, Bool.not_true, Bool.not_false, List.map_cons, List.map_nil, retP, or_true]
    | true =>
      simp -implicitDefEqProofs only [↓reduceIte, eq_self, evb_ret, evb_ite, evb_need, evb_load, evb_app, evb_cut, evb_scut, evb_chk, evb_appF, evb_call, evb_callv, evb_newM, evb_mkM, evb_storeM, evb_appM, evb_mkMap, evb_mapGet, evb_mapSet, evb_mapClr, evb_jump, BE.safe, BE.pe, IE.pe, PEnv.at, List.getD_cons_zero, List.getD_cons_succ, List.getElem?_cons_zero, List.getElem?_cons_succ, locOf, locOn, readLoc, takeN, Nat.add_zero, List.drop_zero, List.length_cons, List.length_nil, Nat.reduceAdd, Nat.le_refl, if_true, if_false, Bool.false_eq_true, List.take_succ_cons, List.take_zero, bindK, bindRes, bind1, Option.map_some, Option.bind_some, PEnv.push, List.cons_append, List.nil_append, List.append_nil, SV.pvs, SV.pv, BE.all, Bool.and_self, Bool.not_true, Bool.not_false, List.map_cons, List.map_nil]
      refine inn.trans ?_
      cases hany : ((l.take i).any fun y => decide (y.nm = x.nm)) with
      | true =>
        have hp : pbad (l.take i) x = 7 := by unfold pbad; rw [hnm, hany]; rfl
        rw [hp, if_neg h70, if_pos rfl]
      | false =>
        have hF : ¬ (false = true) := by simp
        rw [if_neg hF]
        by_cases hrng : x.rng
        · have hp : pbad (l.take i) x = 0 := by unfold pbad; rw [hnm, hany, if_pos hrng]; rfl
          rw [hp, if_pos rfl, if_pos hrng]
          have := ih (i + 1) (by omega) (by
            intro y hy
            rw [List.take_add_one, hx] at hy
            simp only [Option.toList_some, List.mem_append, List.mem_singleton] at hy
            rcases hy with hy | rfl
            · exact hr y hy
            · exact hrng) fuel (by omega)
          rwa [nat_succ] at this
        · have hp : pbad (l.take i) x = 4 := by unfold pbad; rw [hnm, hany, if_neg hrng]; rfl
          rw [hp, if_neg h40, if_neg hrng]
end
theorem rcheck08_sem (σ : List MO) (l : List Pr) (P : PV) (hP : P.rowsOf 5 = some (l.map Pr.row)) (n : Nat) (hn : 70 ≤ n) : evalF Tab n n_saleroomref08_Check [P] σ = some (.int .i64 (pchk l), σ) := by
  obtain ⟨n, rfl⟩ : ∃ k, n = k + 1 := ⟨n - 1, by omega⟩
  obtain ⟨p1, p2, p3⟩ := rows_len hP
  rw [List.length_map] at p1
  simp only [evalF, tab_saleroomref08_Check, Option.bind_some, Sys.run]
  show ((bindPs [.sh (.one _)] _).bind _) = _
  simp -implicitDefEqProofs only [bindPs, bind1, bindK, Option.map_some, Option.bind_some, List.append_nil, List.nil_append, List.cons_append, if_true, p3]
  show (PT.ev _ saleroomref08_Check_s _).bind _ = _
  simp -implicitDefEqProofs only [saleroomref08_Check_s, ↓reduceIte, eq_self, evb_ret, evb_ite, evb_need, evb_load, evb_app, evb_cut, evb_scut, evb_chk, evb_appF, evb_call, evb_callv, evb_newM, evb_mkM, evb_storeM, evb_appM, evb_mkMap, evb_mapGet, evb_mapSet, evb_mapClr, evb_jump, BE.safe, BE.pe, IE.pe, PEnv.at, List.getD_cons_zero, List.getD_cons_succ, List.getElem?_cons_zero, List.getElem?_cons_succ, locOf, locOn, readLoc, takeN, Nat.add_zero, List.drop_zero, List.length_cons, List.length_nil, Nat.reduceAdd, Nat.le_refl, if_true, if_false, Bool.false_eq_true, List.take_succ_cons, List.take_zero, bindK, bindRes, bind1, Option.map_some, Option.bind_some, PEnv.push, List.cons_append, List.nil_append, List.append_nil, SV.pvs, SV.pv, BE.all, Bool.and_self, Bool.not_true, Bool.not_false, List.map_cons, List.map_nil, p1, p2, pchk]
  cases h0 : eqB (l.length : Int) 0 with
  | true => simp -implicitDefEqProofs only [↓reduceIte, eq_self, evb_ret, evb_ite, evb_need, evb_load, evb_app, evb_cut, evb_scut, evb_chk, evb_appF, evb_call, evb_callv, evb_newM, evb_mkM, evb_storeM, evb_appM, evb_mkMap, evb_mapGet, evb_mapSet, evb_mapClr, evb_jump, BE.safe, BE.pe, IE.pe, PEnv.at, List.getD_cons_zero, List.getD_cons_succ, List.getElem?_cons_zero, List.getElem?_cons_succ, locOf, locOn, readLoc, takeN, Nat.add_zero, List.drop_zero, List.length_cons, List.length_nil, Nat.reduceAdd, Nat.le_refl, if_true, if_false, Bool.false_eq_true, List.take_succ_cons, List.take_zero, bindK, bindRes, bind1, Option.map_some, Option.bind_some, PEnv.push, List.cons_append, List.nil_append, List.append_nil, SV.pvs, SV.pv, BE.all, Bool.and_self, Bool.not_true, Bool.not_false, List.map_cons, List.map_nil, retP, or_true]
  | false =>
  cases h6 : ltB 6 (l.length : Int) with
  | true => simp -implicitDefEqProofs only [↓reduceIte, eq_self, evb_ret, evb_ite, evb_need, evb_load, evb_app, evb_cut, evb_scut, evb_chk, evb_appF, evb_call, evb_callv, evb_newM, evb_mkM, evb_storeM, evb_appM, evb_mkMap, evb_mapGet, evb_mapSet, evb_mapClr, evb_jump, BE.safe, BE.pe, IE.pe, PEnv.at, List.getD_cons_zero, List.getD_cons_succ, List.getElem?_cons_zero, List.getElem?_cons_succ, locOf, locOn, readLoc, takeN, Nat.add_zero, List.drop_zero, List.length_cons, List.length_nil, Nat.reduceAdd, Nat.le_refl, if_true, if_false, Bool.false_eq_true, List.take_succ_cons, List.take_zero, bindK, bindRes, bind1, Option.map_some, Option.bind_some, PEnv.push, List.cons_append, List.nil_append, List.append_nil, SV.pvs, SV.pv, BE.all, Bool.and_self, Bool.not_true, Bool.not_false, List.map_cons, List.map_nil, p1, p2, h6, retP, or_true]
  | false =>
  have h6' := h6
  rw [ltB_false] at h6
  have := rk_out σ l P hP (by omega) n (by omega) l.length 0 (by omega) (by simp) n (by omega)
  simp -implicitDefEqProofs only [↓reduceIte, eq_self, evb_ret, evb_ite, evb_need, evb_load, evb_app, evb_cut, evb_scut, evb_chk, evb_appF, evb_call, evb_callv, evb_newM, evb_mkM, evb_storeM, evb_appM, evb_mkMap, evb_mapGet, evb_mapSet, evb_mapClr, evb_jump, BE.safe, BE.pe, IE.pe, PEnv.at, List.getD_cons_zero, List.getD_cons_succ, List.getElem?_cons_zero, List.getElem?_cons_succ, locOf, locOn, readLoc, takeN, Nat.add_zero, List.drop_zero, List.length_cons, List.length_nil, Nat.reduceAdd, Nat.le_refl, if_true, if_false, Bool.false_eq_true, List.take_succ_cons, List.take_zero, bindK, bindRes, bind1, Option.map_some, Option.bind_some, PEnv.push, List.cons_append, List.nil_append, List.append_nil, SV.pvs, SV.pv, BE.all, Bool.and_self, Bool.not_true, Bool.not_false, List.map_cons, List.map_nil, p1, p2, h6']
  exact this
/-- What Check finds right. -/
theorem pgo_zero {ps : List Pr} : ∀ d i, i + d = ps.length → pgo ps d i = 0 → ∀ k x, i ≤ k → ps[k]? = some x → x.rng
  | 0, i, hi, _, k, x, hk, hx => by have := (List.getElem?_eq_some_iff.1 hx).1; omega
  | d + 1, i, hi, h, k, x, hk, hx => by
    obtain ⟨y, hy⟩ := get_ex (show i < ps.length by omega)
    rw [pgo, hy] at h
    simp only at h
    split at h
    · rename_i hb
      by_cases hki : k = i
      · subst hki
        rw [hx] at hy; cases hy
        unfold pbad at hb
        split at hb
        · split at hb
          · cases hb
          · split at hb
            · assumption
            · cases hb
        · cases hb
      · exact pgo_zero d (i + 1) (by omega) h k x (by omega) hx
    · rename_i hb; exact absurd h hb
theorem pchk_zero {ps : List Pr} (h : pchk ps = 0) : ps.length ≤ 6 ∧ ∀ x ∈ ps, x.rng := by
  unfold pchk at h
  split at h
  · cases h
  · split at h
    · cases h
    · rename_i h6
      rw [Bool.not_eq_true, ltB_false] at h6
      refine ⟨by omega, fun x hx => ?_⟩
      obtain ⟨k, hk⟩ := List.mem_iff_getElem?.1 hx
      exact pgo_zero ps.length 0 (by omega) h k x (by omega) hk
end Go.Proofs.Ythjahianafohjaa
set_option maxRecDepth 100000
namespace Go.Proofs.Ythjahianafohjaa
open Go.Sx
def wl (w : W6) : List Int := [w.a, w.b, w.c, w.d, w.e, w.f]
def wlAt (w : W6) (i : Nat) : Int := ((wl w)[i]?).getD 0
def prAt (f : Pr → Int) (l : List Pr) (i : Nat) : Int := ((l[i]?).map f).getD 0
def ptS (f : Pr → Int) (l : List Pr) (w : W6) : Nat → Int
  | 0 => 0
  | i + 1 => ptS f l w i + wlAt w i * prAt f l i
theorem wlAt_bd {w : W6} (hw : w.ok) (i : Nat) : 0 ≤ wlAt w i ∧ wlAt w i ≤ 4 := by
  simp only [W6.ok] at hw
  unfold wlAt wl
  rcases i with _ | _ | _ | _ | _ | _ | i <;> simp <;> omega
theorem ptS_bd {f : Pr → Int} {l : List Pr} {w : W6} {b : Int} (hw : w.ok) (hb : 0 ≤ b) (hf : ∀ x ∈ l, 0 ≤ f x ∧ f x ≤ b) : ∀ i, 0 ≤ ptS f l w i ∧ ptS f l w i ≤ (i : Int) * (4 * b)
  | 0 => by simp [ptS]
  | i + 1 => by
    have ih := ptS_bd hw hb hf i
    have h1 := wlAt_bd hw i
    have h2 : 0 ≤ prAt f l i ∧ prAt f l i ≤ b := by
      unfold prAt
      cases h : l[i]? with
      | none => simp; omega
      | some x => simpa using hf x (List.mem_of_getElem? h)
    have h3 : 0 ≤ wlAt w i * prAt f l i := Int.mul_nonneg h1.1 h2.1
    have h4 : wlAt w i * prAt f l i ≤ 4 * b := Int.mul_le_mul h1.2 h2.2 h2.1 (by omega)
    simp only [ptS]
    refine ⟨by omega, ?_⟩
    rw [show ((i + 1 : Nat) : Int) * (4 * b) = (i : Int) * (4 * b) + 4 * b by rw [Int.natCast_add, Int.add_mul]; simp]
    omega
/-- The points of a bundle. -/
def ptsV (l : List Pr) (w : W6) : Int := if eqB (pchk l) 0 = true then (if eqB (bchk w) 0 = true then ptS Pr.p l w l.length else 0) else 0
theorem rvalid08_sem (σ : List MO) (w : W6) (n : Nat) (hn : 1 ≤ n) : evalF Tab n n_saleroomref08_Valid [.agg w.pv] σ = some (.bool (decide w.ok), σ) := by
  obtain ⟨n, rfl⟩ : ∃ k, n = k + 1 := ⟨n - 1, by omega⟩
  simp only [evalF, tab_saleroomref08_Valid, Option.bind_some, Sys.run, W6.pv]
  show ((bindPs [.sh (.agg [_, _, _, _, _, _])] _).bind _) = _
  simp only [bindPs, bind1, bindK, Option.map_some, Option.bind_some, List.append_nil, List.nil_append, List.cons_append, if_true]
  show (PT.ev _ saleroomref08_Valid_s _).bind _ = _
  simp -implicitDefEqProofs only [saleroomref08_Valid_s, ↓reduceIte, eq_self, PT.ev, BE.safe, BE.pe, IE.pe, PEnv.at, List.getD_cons_zero, List.getD_cons_succ, List.getElem?_cons_zero, List.getElem?_cons_succ, locOf, locOn, readLoc, takeN, Nat.add_zero, List.drop_zero, List.length_cons, List.length_nil, Nat.reduceAdd, Nat.le_refl, if_true, if_false, Bool.false_eq_true, List.take_succ_cons, List.take_zero, bindK, bindRes, bind1, Option.map_some, Option.bind_some, PEnv.push, List.cons_append, List.nil_append, List.append_nil, SV.pvs, SV.pv, BE.all, Bool.and_self, Bool.not_true, Bool.not_false, List.map_cons, List.map_nil, retP, or_true]
  obtain ⟨a, b, c, d, e, f⟩ := w
  simp only [ltB_true]
  by_cases hok : (⟨a, b, c, d, e, f⟩ : W6).ok
  · rw [decide_eq_true hok]
    simp only [W6.ok] at hok
    repeat rw [if_neg (by omega)]
    rfl
  · rw [decide_eq_false hok]
    simp only [W6.ok] at hok
    by_cases h1 : a < 0
    · rw [if_pos h1]; rfl
    rw [if_neg h1]
    by_cases h2 : 4 < a
    · rw [if_pos h2]; rfl
    rw [if_neg h2]
    by_cases h3 : b < 0
    · rw [if_pos h3]; rfl
    rw [if_neg h3]
    by_cases h4 : 4 < b
    · rw [if_pos h4]; rfl
    rw [if_neg h4]
    by_cases h5 : c < 0
    · rw [if_pos h5]; rfl
    rw [if_neg h5]
    by_cases h6 : 4 < c
    · rw [if_pos h6]; rfl
    rw [if_neg h6]
    by_cases h7 : d < 0
    · rw [if_pos h7]; rfl
    rw [if_neg h7]
    by_cases h8 : 4 < d
    · rw [if_pos h8]; rfl
    rw [if_neg h8]
    by_cases h9 : e < 0
    · rw [if_pos h9]; rfl
    rw [if_neg h9]
    by_cases h10 : 4 < e
    · rw [if_pos h10]; rfl
    rw [if_neg h10]
    by_cases h11 : f < 0
    · rw [if_pos h11]; rfl
    rw [if_neg h11]
    by_cases h12 : 4 < f
    · rw [if_pos h12]; rfl
    exfalso; omega
section
variable (σ : List MO) (l : List Pr) (P : PV) (hP : P.rowsOf 5 = some (l.map Pr.row)) (n : Nat) (w : W6)
def suSt (σ : List MO) (P : PV) (is : List Int) (w : W6) : PEnv := { i := is ++ [w.a, w.b, w.c, w.d, w.e, w.f], b := [], v := [P], m := σ, k := σ.length }
theorem dr5 (a b c d e : PV) : List.drop 1 [a, b, c, d, e] = [b, c, d, e] ∧ List.drop 2 [a, b, c, d, e] = [c, d, e] ∧ List.drop 3 [a, b, c, d, e] = [d, e] ∧ List.drop 4 [a, b, c, d, e] = [e] := ⟨rfl, rfl, rfl, rfl⟩
include hP in
theorem su_in0 (g : Int) (x : Pr) (hx : l[0]? = some x) (hr : x.rng) : ∀ (m k : Nat), (k : Int) + m = w.a → k + m ≤ 1000 → ∀ fuel (p1 p2 p3 : Int), 0 ≤ p1 → p1 + 1000 * m ≤ 1000000000000 → 0 ≤ p2 → p2 + 1000000 * m ≤ 1000000000000 → 0 ≤ p3 → p3 + m ≤ 1000000000000 →
    saleroomref08_Sums_S.loop (evalF Tab n) (fuel + m + 1) 1 (suSt σ P [g, p1, p2, p3, 0, (k : Int)] w) = saleroomref08_Sums_S.loop (evalF Tab n) fuel 0 (suSt σ P [g, p1 + m * x.p, p2 + m * x.r, if eqB x.g g = true then p3 + m else p3, 0 + 1] w) := by
  obtain ⟨p1, p2, p3⟩ := rows_len hP
  rw [List.length_map] at p1
  have hlt : 0 < l.length := (List.getElem?_eq_some_iff.1 hx).1
  have hd : ltB 0 (l.length : Int) = true := by rw [ltB_true]; omega
  have q2 : locEl 0 5 2 P = some (.row x.row 2) := rows_get (off := 2) (i := 0) hP (rows_prs hx)
  have q3 : locEl 0 5 3 P = some (.row x.row 3) := rows_get (off := 3) (i := 0) hP (rows_prs hx)
  have q4 : locEl 0 5 4 P = some (.row x.row 4) := rows_get (off := 4) (i := 0) hP (rows_prs hx)
  simp only [Pr.rng] at hr
  have e5 : ∀ a b : Int, eqB a b = decide (a = b) := fun _ _ => rfl
  intro m
  induction m with
  | zero =>
    intro k hk hk2 fuel s1 s2 s3 _ _ _ _ _ _
    have hk : ltB (k : Int) w.a = false := by rw [ltB_false]; omega
    rw [Sys.loop, show saleroomref08_Sums_S.loops[1]? = some saleroomref08_Sums_t1 from rfl]
    simp -implicitDefEqProofs only [Option.bind_some, suSt, saleroomref08_Sums_t1, ↓reduceIte, eq_self, evb_ret, evb_ite, evb_need, evb_load, evb_app, evb_cut, evb_scut, evb_chk, evb_appF, evb_call, evb_callv, evb_newM, evb_mkM, evb_storeM, evb_appM, evb_mkMap, evb_mapGet, evb_mapSet, evb_mapClr, evb_jump, BE.safe, BE.pe, IE.pe, PEnv.at, List.getD_cons_zero, List.getD_cons_succ, List.getElem?_cons_zero, List.getElem?_cons_succ, locOf, locOn, readLoc, takeN, Nat.add_zero, List.drop_zero, List.length_cons, List.length_nil, Nat.reduceAdd, Nat.le_refl, if_true, if_false, Bool.false_eq_true, List.take_succ_cons, List.take_zero, bindK, bindRes, bind1, Option.map_some, Option.bind_some, PEnv.push, List.cons_append, List.nil_append, List.append_nil, SV.pvs, SV.pv, BE.all, Bool.and_self, Bool.not_true, Bool.not_false, List.map_cons, List.map_nil, e5, Int.reduceEq, decide_true, decide_false, hk, Int.reduceAdd]
    simp
  | succ m ih =>
    intro k hk hk2 fuel s1 s2 s3 h1 h2 h3 h4 h5 h6
    have hk' : ltB (k : Int) w.a = true := by rw [ltB_true]; omega
    have hup := up_ok (show k ≤ 1000000000 by omega)
    obtain ⟨d1, d2, d3, d4⟩ := dr5 (.str x.nm) (.int .i64 x.s) (.int .i64 x.r) (.int .i64 x.p) (.int .i64 x.g)
    have ih := ih (k + 1) (by omega) (by omega) fuel (s1 + x.p) (s2 + x.r) (if eqB x.g g = true then s3 + 1 else s3) (by omega) (by omega) (by omega) (by omega) (by split <;> omega) (by split <;> omega)
    have m1 : s1 + x.p + (m : Int) * x.p = s1 + ((m + 1 : Nat) : Int) * x.p := by rw [Int.natCast_add, Int.add_mul]; simp; omega
    have m2 : s2 + x.r + (m : Int) * x.r = s2 + ((m + 1 : Nat) : Int) * x.r := by rw [Int.natCast_add, Int.add_mul]; simp; omega
    rw [m1, m2, nat_succ] at ih
    rw [show fuel + (m + 1) + 1 = (fuel + m + 1) + 1 from rfl, Sys.loop, show saleroomref08_Sums_S.loops[1]? = some saleroomref08_Sums_t1 from rfl]
    simp -implicitDefEqProofs only [Option.bind_some, suSt, saleroomref08_Sums_t1, ↓reduceIte, eq_self, evb_ret, evb_ite, evb_need, evb_load, evb_app, evb_cut, evb_scut, evb_chk, evb_appF, evb_call, evb_callv, evb_newM, evb_mkM, evb_storeM, evb_appM, evb_mkMap, evb_mapGet, evb_mapSet, evb_mapClr, evb_jump, BE.safe, BE.pe, IE.pe, PEnv.at, List.getD_cons_zero, List.getD_cons_succ, List.getElem?_cons_zero, List.getElem?_cons_succ, locOf, locOn, readLoc, takeN, Nat.add_zero, List.drop_zero, List.length_cons, List.length_nil, Nat.reduceAdd, Nat.le_refl, if_true, if_false, Bool.false_eq_true, List.take_succ_cons, List.take_zero, bindK, bindRes, bind1, Option.map_some, Option.bind_some, PEnv.push, List.cons_append, List.nil_append, List.append_nil, SV.pvs, SV.pv, BE.all, Bool.and_self, Bool.not_true, Bool.not_false, List.map_cons, List.map_nil, p1, e5, Int.reduceEq, decide_true, decide_false, hk', hd, q2, q3, q4, pr_row, d2, d3, d4, Nat.reduceLeDiff, if_pos (i64_ok (z := s1 + x.p) (by omega)), if_pos (i64_ok (z := s2 + x.r) (by omega))]
    cases hg : decide (x.g = g) with
    | true =>
      have hg' : eqB x.g g = true := hg
      rw [if_pos hg'] at ih
      simp -implicitDefEqProofs only [↓reduceIte, eq_self, evb_ret, evb_ite, evb_need, evb_load, evb_app, evb_cut, evb_scut, evb_chk, evb_appF, evb_call, evb_callv, evb_newM, evb_mkM, evb_storeM, evb_appM, evb_mkMap, evb_mapGet, evb_mapSet, evb_mapClr, evb_jump, BE.safe, BE.pe, IE.pe, PEnv.at, List.getD_cons_zero, List.getD_cons_succ, List.getElem?_cons_zero, List.getElem?_cons_succ, locOf, locOn, readLoc, takeN, Nat.add_zero, List.drop_zero, List.length_cons, List.length_nil, Nat.reduceAdd, Nat.le_refl, if_true, if_false, Bool.false_eq_true, List.take_succ_cons, List.take_zero, bindK, bindRes, bind1, Option.map_some, Option.bind_some, PEnv.push, List.cons_append, List.nil_append, List.append_nil, SV.pvs, SV.pv, BE.all, Bool.and_self, Bool.not_true, Bool.not_false, List.map_cons, List.map_nil, if_pos (i64_ok (z := s3 + 1) (by omega)), if_pos hup]
      rw [show s3 + ((m + 1 : Nat) : Int) = s3 + 1 + (m : Int) by omega]
      rw [if_pos hg'] at ih
      exact ih
    | false =>
      have hg' : ¬ eqB x.g g = true := by rw [show eqB x.g g = false from hg]; simp
      rw [if_neg hg'] at ih
      simp -implicitDefEqProofs only [↓reduceIte, eq_self, evb_ret, evb_ite, evb_need, evb_load, evb_app, evb_cut, evb_scut, evb_chk, evb_appF, evb_call, evb_callv, evb_newM, evb_mkM, evb_storeM, evb_appM, evb_mkMap, evb_mapGet, evb_mapSet, evb_mapClr, evb_jump, BE.safe, BE.pe, IE.pe, PEnv.at, List.getD_cons_zero, List.getD_cons_succ, List.getElem?_cons_zero, List.getElem?_cons_succ, locOf, locOn, readLoc, takeN, Nat.add_zero, List.drop_zero, List.length_cons, List.length_nil, Nat.reduceAdd, Nat.le_refl, if_true, if_false, Bool.false_eq_true, List.take_succ_cons, List.take_zero, bindK, bindRes, bind1, Option.map_some, Option.bind_some, PEnv.push, List.cons_append, List.nil_append, List.append_nil, SV.pvs, SV.pv, BE.all, Bool.and_self, Bool.not_true, Bool.not_false, List.map_cons, List.map_nil, if_pos hup]
      rw [if_neg hg'] at ih
      exact ih
include hP in
theorem su_in1 (g : Int) (x : Pr) (hx : l[1]? = some x) (hr : x.rng) : ∀ (m k : Nat), (k : Int) + m = w.b → k + m ≤ 1000 → ∀ fuel (p1 p2 p3 : Int), 0 ≤ p1 → p1 + 1000 * m ≤ 1000000000000 → 0 ≤ p2 → p2 + 1000000 * m ≤ 1000000000000 → 0 ≤ p3 → p3 + m ≤ 1000000000000 →
    saleroomref08_Sums_S.loop (evalF Tab n) (fuel + m + 1) 1 (suSt σ P [g, p1, p2, p3, 1, (k : Int)] w) = saleroomref08_Sums_S.loop (evalF Tab n) fuel 0 (suSt σ P [g, p1 + m * x.p, p2 + m * x.r, if eqB x.g g = true then p3 + m else p3, 1 + 1] w) := by
  obtain ⟨p1, p2, p3⟩ := rows_len hP
  rw [List.length_map] at p1
  have hlt : 1 < l.length := (List.getElem?_eq_some_iff.1 hx).1
  have hd : ltB 1 (l.length : Int) = true := by rw [ltB_true]; omega
  have q2 : locEl 1 5 2 P = some (.row x.row 2) := rows_get (off := 2) (i := 1) hP (rows_prs hx)
  have q3 : locEl 1 5 3 P = some (.row x.row 3) := rows_get (off := 3) (i := 1) hP (rows_prs hx)
  have q4 : locEl 1 5 4 P = some (.row x.row 4) := rows_get (off := 4) (i := 1) hP (rows_prs hx)
  simp only [Pr.rng] at hr
  have e5 : ∀ a b : Int, eqB a b = decide (a = b) := fun _ _ => rfl
  intro m
  induction m with
  | zero =>
    intro k hk hk2 fuel s1 s2 s3 _ _ _ _ _ _
    have hk : ltB (k : Int) w.b = false := by rw [ltB_false]; omega
    rw [Sys.loop, show saleroomref08_Sums_S.loops[1]? = some saleroomref08_Sums_t1 from rfl]
    simp -implicitDefEqProofs only [Option.bind_some, suSt, saleroomref08_Sums_t1, ↓reduceIte, eq_self, evb_ret, evb_ite, evb_need, evb_load, evb_app, evb_cut, evb_scut, evb_chk, evb_appF, evb_call, evb_callv, evb_newM, evb_mkM, evb_storeM, evb_appM, evb_mkMap, evb_mapGet, evb_mapSet, evb_mapClr, evb_jump, BE.safe, BE.pe, IE.pe, PEnv.at, List.getD_cons_zero, List.getD_cons_succ, List.getElem?_cons_zero, List.getElem?_cons_succ, locOf, locOn, readLoc, takeN, Nat.add_zero, List.drop_zero, List.length_cons, List.length_nil, Nat.reduceAdd, Nat.le_refl, if_true, if_false, Bool.false_eq_true, List.take_succ_cons, List.take_zero, bindK, bindRes, bind1, Option.map_some, Option.bind_some, PEnv.push, List.cons_append, List.nil_append, List.append_nil, SV.pvs, SV.pv, BE.all, Bool.and_self, Bool.not_true, Bool.not_false, List.map_cons, List.map_nil, e5, Int.reduceEq, decide_true, decide_false, hk, Int.reduceAdd]
    simp
  | succ m ih =>
    intro k hk hk2 fuel s1 s2 s3 h1 h2 h3 h4 h5 h6
    have hk' : ltB (k : Int) w.b = true := by rw [ltB_true]; omega
    have hup := up_ok (show k ≤ 1000000000 by omega)
    obtain ⟨d1, d2, d3, d4⟩ := dr5 (.str x.nm) (.int .i64 x.s) (.int .i64 x.r) (.int .i64 x.p) (.int .i64 x.g)
    have ih := ih (k + 1) (by omega) (by omega) fuel (s1 + x.p) (s2 + x.r) (if eqB x.g g = true then s3 + 1 else s3) (by omega) (by omega) (by omega) (by omega) (by split <;> omega) (by split <;> omega)
    have m1 : s1 + x.p + (m : Int) * x.p = s1 + ((m + 1 : Nat) : Int) * x.p := by rw [Int.natCast_add, Int.add_mul]; simp; omega
    have m2 : s2 + x.r + (m : Int) * x.r = s2 + ((m + 1 : Nat) : Int) * x.r := by rw [Int.natCast_add, Int.add_mul]; simp; omega
    rw [m1, m2, nat_succ] at ih
    rw [show fuel + (m + 1) + 1 = (fuel + m + 1) + 1 from rfl, Sys.loop, show saleroomref08_Sums_S.loops[1]? = some saleroomref08_Sums_t1 from rfl]
    simp -implicitDefEqProofs only [Option.bind_some, suSt, saleroomref08_Sums_t1, ↓reduceIte, eq_self, evb_ret, evb_ite, evb_need, evb_load, evb_app, evb_cut, evb_scut, evb_chk, evb_appF, evb_call, evb_callv, evb_newM, evb_mkM, evb_storeM, evb_appM, evb_mkMap, evb_mapGet, evb_mapSet, evb_mapClr, evb_jump, BE.safe, BE.pe, IE.pe, PEnv.at, List.getD_cons_zero, List.getD_cons_succ, List.getElem?_cons_zero, List.getElem?_cons_succ, locOf, locOn, readLoc, takeN, Nat.add_zero, List.drop_zero, List.length_cons, List.length_nil, Nat.reduceAdd, Nat.le_refl, if_true, if_false, Bool.false_eq_true, List.take_succ_cons, List.take_zero, bindK, bindRes, bind1, Option.map_some, Option.bind_some, PEnv.push, List.cons_append, List.nil_append, List.append_nil, SV.pvs, SV.pv, BE.all, Bool.and_self, Bool.not_true, Bool.not_false, List.map_cons, List.map_nil, p1, e5, Int.reduceEq, decide_true, decide_false, hk', hd, q2, q3, q4, pr_row, d2, d3, d4, Nat.reduceLeDiff, if_pos (i64_ok (z := s1 + x.p) (by omega)), if_pos (i64_ok (z := s2 + x.r) (by omega))]
    cases hg : decide (x.g = g) with
    | true =>
      have hg' : eqB x.g g = true := hg
      rw [if_pos hg'] at ih
      simp -implicitDefEqProofs only [↓reduceIte, eq_self, evb_ret, evb_ite, evb_need, evb_load, evb_app, evb_cut, evb_scut, evb_chk, evb_appF, evb_call, evb_callv, evb_newM, evb_mkM, evb_storeM, evb_appM, evb_mkMap, evb_mapGet, evb_mapSet, evb_mapClr, evb_jump, BE.safe, BE.pe, IE.pe, PEnv.at, List.getD_cons_zero, List.getD_cons_succ, List.getElem?_cons_zero, List.getElem?_cons_succ, locOf, locOn, readLoc, takeN, Nat.add_zero, List.drop_zero, List.length_cons, List.length_nil, Nat.reduceAdd, Nat.le_refl, if_true, if_false, Bool.false_eq_true, List.take_succ_cons, List.take_zero, bindK, bindRes, bind1, Option.map_some, Option.bind_some, PEnv.push, List.cons_append, List.nil_append, List.append_nil, SV.pvs, SV.pv, BE.all, Bool.and_self, Bool.not_true, Bool.not_false, List.map_cons, List.map_nil, if_pos (i64_ok (z := s3 + 1) (by omega)), if_pos hup]
      rw [show s3 + ((m + 1 : Nat) : Int) = s3 + 1 + (m : Int) by omega]
      rw [if_pos hg'] at ih
      exact ih
    | false =>
      have hg' : ¬ eqB x.g g = true := by rw [show eqB x.g g = false from hg]; simp
      rw [if_neg hg'] at ih
      simp -implicitDefEqProofs only [↓reduceIte, eq_self, evb_ret, evb_ite, evb_need, evb_load, evb_app, evb_cut, evb_scut, evb_chk, evb_appF, evb_call, evb_callv, evb_newM, evb_mkM, evb_storeM, evb_appM, evb_mkMap, evb_mapGet, evb_mapSet, evb_mapClr, evb_jump, BE.safe, BE.pe, IE.pe, PEnv.at, List.getD_cons_zero, List.getD_cons_succ, List.getElem?_cons_zero, List.getElem?_cons_succ, locOf, locOn, readLoc, takeN, Nat.add_zero, List.drop_zero, List.length_cons, List.length_nil, Nat.reduceAdd, Nat.le_refl, if_true, if_false, Bool.false_eq_true, List.take_succ_cons, List.take_zero, bindK, bindRes, bind1, Option.map_some, Option.bind_some, PEnv.push, List.cons_append, List.nil_append, List.append_nil, SV.pvs, SV.pv, BE.all, Bool.and_self, Bool.not_true, Bool.not_false, List.map_cons, List.map_nil, if_pos hup]
      rw [if_neg hg'] at ih
      exact ih
include hP in
theorem su_in2 (g : Int) (x : Pr) (hx : l[2]? = some x) (hr : x.rng) : ∀ (m k : Nat), (k : Int) + m = w.c → k + m ≤ 1000 → ∀ fuel (p1 p2 p3 : Int), 0 ≤ p1 → p1 + 1000 * m ≤ 1000000000000 → 0 ≤ p2 → p2 + 1000000 * m ≤ 1000000000000 → 0 ≤ p3 → p3 + m ≤ 1000000000000 →
    saleroomref08_Sums_S.loop (evalF Tab n) (fuel + m + 1) 1 (suSt σ P [g, p1, p2, p3, 2, (k : Int)] w) = saleroomref08_Sums_S.loop (evalF Tab n) fuel 0 (suSt σ P [g, p1 + m * x.p, p2 + m * x.r, if eqB x.g g = true then p3 + m else p3, 2 + 1] w) := by
  obtain ⟨p1, p2, p3⟩ := rows_len hP
  rw [List.length_map] at p1
  have hlt : 2 < l.length := (List.getElem?_eq_some_iff.1 hx).1
  have hd : ltB 2 (l.length : Int) = true := by rw [ltB_true]; omega
  have q2 : locEl 2 5 2 P = some (.row x.row 2) := rows_get (off := 2) (i := 2) hP (rows_prs hx)
  have q3 : locEl 2 5 3 P = some (.row x.row 3) := rows_get (off := 3) (i := 2) hP (rows_prs hx)
  have q4 : locEl 2 5 4 P = some (.row x.row 4) := rows_get (off := 4) (i := 2) hP (rows_prs hx)
  simp only [Pr.rng] at hr
  have e5 : ∀ a b : Int, eqB a b = decide (a = b) := fun _ _ => rfl
  intro m
  induction m with
  | zero =>
    intro k hk hk2 fuel s1 s2 s3 _ _ _ _ _ _
    have hk : ltB (k : Int) w.c = false := by rw [ltB_false]; omega
    rw [Sys.loop, show saleroomref08_Sums_S.loops[1]? = some saleroomref08_Sums_t1 from rfl]
    simp -implicitDefEqProofs only [Option.bind_some, suSt, saleroomref08_Sums_t1, ↓reduceIte, eq_self, evb_ret, evb_ite, evb_need, evb_load, evb_app, evb_cut, evb_scut, evb_chk, evb_appF, evb_call, evb_callv, evb_newM, evb_mkM, evb_storeM, evb_appM, evb_mkMap, evb_mapGet, evb_mapSet, evb_mapClr, evb_jump, BE.safe, BE.pe, IE.pe, PEnv.at, List.getD_cons_zero, List.getD_cons_succ, List.getElem?_cons_zero, List.getElem?_cons_succ, locOf, locOn, readLoc, takeN, Nat.add_zero, List.drop_zero, List.length_cons, List.length_nil, Nat.reduceAdd, Nat.le_refl, if_true, if_false, Bool.false_eq_true, List.take_succ_cons, List.take_zero, bindK, bindRes, bind1, Option.map_some, Option.bind_some, PEnv.push, List.cons_append, List.nil_append, List.append_nil, SV.pvs, SV.pv, BE.all, Bool.and_self, Bool.not_true, Bool.not_false, List.map_cons, List.map_nil, e5, Int.reduceEq, decide_true, decide_false, hk, Int.reduceAdd]
    simp
  | succ m ih =>
    intro k hk hk2 fuel s1 s2 s3 h1 h2 h3 h4 h5 h6
    have hk' : ltB (k : Int) w.c = true := by rw [ltB_true]; omega
    have hup := up_ok (show k ≤ 1000000000 by omega)
    obtain ⟨d1, d2, d3, d4⟩ := dr5 (.str x.nm) (.int .i64 x.s) (.int .i64 x.r) (.int .i64 x.p) (.int .i64 x.g)
    have ih := ih (k + 1) (by omega) (by omega) fuel (s1 + x.p) (s2 + x.r) (if eqB x.g g = true then s3 + 1 else s3) (by omega) (by omega) (by omega) (by omega) (by split <;> omega) (by split <;> omega)
    have m1 : s1 + x.p + (m : Int) * x.p = s1 + ((m + 1 : Nat) : Int) * x.p := by rw [Int.natCast_add, Int.add_mul]; simp; omega
    have m2 : s2 + x.r + (m : Int) * x.r = s2 + ((m + 1 : Nat) : Int) * x.r := by rw [Int.natCast_add, Int.add_mul]; simp; omega
    rw [m1, m2, nat_succ] at ih
    rw [show fuel + (m + 1) + 1 = (fuel + m + 1) + 1 from rfl, Sys.loop, show saleroomref08_Sums_S.loops[1]? = some saleroomref08_Sums_t1 from rfl]
    simp -implicitDefEqProofs only [Option.bind_some, suSt, saleroomref08_Sums_t1, ↓reduceIte, eq_self, evb_ret, evb_ite, evb_need, evb_load, evb_app, evb_cut, evb_scut, evb_chk, evb_appF, evb_call, evb_callv, evb_newM, evb_mkM, evb_storeM, evb_appM, evb_mkMap, evb_mapGet, evb_mapSet, evb_mapClr, evb_jump, BE.safe, BE.pe, IE.pe, PEnv.at, List.getD_cons_zero, List.getD_cons_succ, List.getElem?_cons_zero, List.getElem?_cons_succ, locOf, locOn, readLoc, takeN, Nat.add_zero, List.drop_zero, List.length_cons, List.length_nil, Nat.reduceAdd, Nat.le_refl, if_true, if_false, Bool.false_eq_true, List.take_succ_cons, List.take_zero, bindK, bindRes, bind1, Option.map_some, Option.bind_some, PEnv.push, List.cons_append, List.nil_append, List.append_nil, SV.pvs, SV.pv, BE.all, Bool.and_self, Bool.not_true, Bool.not_false, List.map_cons, List.map_nil, p1, e5, Int.reduceEq, decide_true, decide_false, hk', hd, q2, q3, q4, pr_row, d2, d3, d4, Nat.reduceLeDiff, if_pos (i64_ok (z := s1 + x.p) (by omega)), if_pos (i64_ok (z := s2 + x.r) (by omega))]
    cases hg : decide (x.g = g) with
    | true =>
      have hg' : eqB x.g g = true := hg
      rw [if_pos hg'] at ih
      simp -implicitDefEqProofs only [↓reduceIte, eq_self, evb_ret, evb_ite, evb_need, evb_load, evb_app, evb_cut, evb_scut, evb_chk, evb_appF, evb_call, evb_callv, evb_newM, evb_mkM, evb_storeM, evb_appM, evb_mkMap, evb_mapGet, evb_mapSet, evb_mapClr, evb_jump, BE.safe, BE.pe, IE.pe, PEnv.at, List.getD_cons_zero, List.getD_cons_succ, List.getElem?_cons_zero, List.getElem?_cons_succ, locOf, locOn, readLoc, takeN, Nat.add_zero, List.drop_zero, List.length_cons, List.length_nil, Nat.reduceAdd, Nat.le_refl, if_true, if_false, Bool.false_eq_true, List.take_succ_cons, List.take_zero, bindK, bindRes, bind1, Option.map_some, Option.bind_some, PEnv.push, List.cons_append, List.nil_append, List.append_nil, SV.pvs, SV.pv, BE.all, Bool.and_self, Bool.not_true, Bool.not_false, List.map_cons, List.map_nil, if_pos (i64_ok (z := s3 + 1) (by omega)), if_pos hup]
      rw [show s3 + ((m + 1 : Nat) : Int) = s3 + 1 + (m : Int) by omega]
      rw [if_pos hg'] at ih
      exact ih
    | false =>
      have hg' : ¬ eqB x.g g = true := by rw [show eqB x.g g = false from hg]; simp
      rw [if_neg hg'] at ih
      simp -implicitDefEqProofs only [↓reduceIte, eq_self, evb_ret, evb_ite, evb_need, evb_load, evb_app, evb_cut, evb_scut, evb_chk, evb_appF, evb_call, evb_callv, evb_newM, evb_mkM, evb_storeM, evb_appM, evb_mkMap, evb_mapGet, evb_mapSet, evb_mapClr, evb_jump, BE.safe, BE.pe, IE.pe, PEnv.at, List.getD_cons_zero, List.getD_cons_succ, List.getElem?_cons_zero, List.getElem?_cons_succ, locOf, locOn, readLoc, takeN, Nat.add_zero, List.drop_zero, List.length_cons, List.length_nil, Nat.reduceAdd, Nat.le_refl, if_true, if_false, Bool.false_eq_true, List.take_succ_cons, List.take_zero, bindK, bindRes, bind1, Option.map_some, Option.bind_some, PEnv.push, List.cons_append, List.nil_append, List.append_nil, SV.pvs, SV.pv, BE.all, Bool.and_self, Bool.not_true, Bool.not_false, List.map_cons, List.map_nil, if_pos hup]
      rw [if_neg hg'] at ih
      exact ih
include hP in
theorem su_in3 (g : Int) (x : Pr) (hx : l[3]? = some x) (hr : x.rng) : ∀ (m k : Nat), (k : Int) + m = w.d → k + m ≤ 1000 → ∀ fuel (p1 p2 p3 : Int), 0 ≤ p1 → p1 + 1000 * m ≤ 1000000000000 → 0 ≤ p2 → p2 + 1000000 * m ≤ 1000000000000 → 0 ≤ p3 → p3 + m ≤ 1000000000000 →
    saleroomref08_Sums_S.loop (evalF Tab n) (fuel + m + 1) 1 (suSt σ P [g, p1, p2, p3, 3, (k : Int)] w) = saleroomref08_Sums_S.loop (evalF Tab n) fuel 0 (suSt σ P [g, p1 + m * x.p, p2 + m * x.r, if eqB x.g g = true then p3 + m else p3, 3 + 1] w) := by
  obtain ⟨p1, p2, p3⟩ := rows_len hP
  rw [List.length_map] at p1
  have hlt : 3 < l.length := (List.getElem?_eq_some_iff.1 hx).1
  have hd : ltB 3 (l.length : Int) = true := by rw [ltB_true]; omega
  have q2 : locEl 3 5 2 P = some (.row x.row 2) := rows_get (off := 2) (i := 3) hP (rows_prs hx)
  have q3 : locEl 3 5 3 P = some (.row x.row 3) := rows_get (off := 3) (i := 3) hP (rows_prs hx)
  have q4 : locEl 3 5 4 P = some (.row x.row 4) := rows_get (off := 4) (i := 3) hP (rows_prs hx)
  simp only [Pr.rng] at hr
  have e5 : ∀ a b : Int, eqB a b = decide (a = b) := fun _ _ => rfl
  intro m
  induction m with
  | zero =>
    intro k hk hk2 fuel s1 s2 s3 _ _ _ _ _ _
    have hk : ltB (k : Int) w.d = false := by rw [ltB_false]; omega
    rw [Sys.loop, show saleroomref08_Sums_S.loops[1]? = some saleroomref08_Sums_t1 from rfl]
    simp -implicitDefEqProofs only [Option.bind_some, suSt, saleroomref08_Sums_t1, ↓reduceIte, eq_self, evb_ret, evb_ite, evb_need, evb_load, evb_app, evb_cut, evb_scut, evb_chk, evb_appF, evb_call, evb_callv, evb_newM, evb_mkM, evb_storeM, evb_appM, evb_mkMap, evb_mapGet, evb_mapSet, evb_mapClr, evb_jump, BE.safe, BE.pe, IE.pe, PEnv.at, List.getD_cons_zero, List.getD_cons_succ, List.getElem?_cons_zero, List.getElem?_cons_succ, locOf, locOn, readLoc, takeN, Nat.add_zero, List.drop_zero, List.length_cons, List.length_nil, Nat.reduceAdd, Nat.le_refl, if_true, if_false, Bool.false_eq_true, List.take_succ_cons, List.take_zero, bindK, bindRes, bind1, Option.map_some, Option.bind_some, PEnv.push, List.cons_append, List.nil_append, List.append_nil, SV.pvs, SV.pv, BE.all, Bool.and_self, Bool.not_true, Bool.not_false, List.map_cons, List.map_nil, e5, Int.reduceEq, decide_true, decide_false, hk, Int.reduceAdd]
    simp
  | succ m ih =>
    intro k hk hk2 fuel s1 s2 s3 h1 h2 h3 h4 h5 h6
    have hk' : ltB (k : Int) w.d = true := by rw [ltB_true]; omega
    have hup := up_ok (show k ≤ 1000000000 by omega)
    obtain ⟨d1, d2, d3, d4⟩ := dr5 (.str x.nm) (.int .i64 x.s) (.int .i64 x.r) (.int .i64 x.p) (.int .i64 x.g)
    have ih := ih (k + 1) (by omega) (by omega) fuel (s1 + x.p) (s2 + x.r) (if eqB x.g g = true then s3 + 1 else s3) (by omega) (by omega) (by omega) (by omega) (by split <;> omega) (by split <;> omega)
    have m1 : s1 + x.p + (m : Int) * x.p = s1 + ((m + 1 : Nat) : Int) * x.p := by rw [Int.natCast_add, Int.add_mul]; simp; omega
    have m2 : s2 + x.r + (m : Int) * x.r = s2 + ((m + 1 : Nat) : Int) * x.r := by rw [Int.natCast_add, Int.add_mul]; simp; omega
    rw [m1, m2, nat_succ] at ih
    rw [show fuel + (m + 1) + 1 = (fuel + m + 1) + 1 from rfl, Sys.loop, show saleroomref08_Sums_S.loops[1]? = some saleroomref08_Sums_t1 from rfl]
    simp -implicitDefEqProofs only [Option.bind_some, suSt, saleroomref08_Sums_t1, ↓reduceIte, eq_self, evb_ret, evb_ite, evb_need, evb_load, evb_app, evb_cut, evb_scut, evb_chk, evb_appF, evb_call, evb_callv, evb_newM, evb_mkM, evb_storeM, evb_appM, evb_mkMap, evb_mapGet, evb_mapSet, evb_mapClr, evb_jump, BE.safe, BE.pe, IE.pe, PEnv.at, List.getD_cons_zero, List.getD_cons_succ, List.getElem?_cons_zero, List.getElem?_cons_succ, locOf, locOn, readLoc, takeN, Nat.add_zero, List.drop_zero, List.length_cons, List.length_nil, Nat.reduceAdd, Nat.le_refl, if_true, if_false, Bool.false_eq_true, List.take_succ_cons, List.take_zero, bindK, bindRes, bind1, Option.map_some, Option.bind_some, PEnv.push, List.cons_append, List.nil_append, List.append_nil, SV.pvs, SV.pv, BE.all, Bool.and_self, Bool.not_true, Bool.not_false, List.map_cons, List.map_nil, p1, e5, Int.reduceEq, decide_true, decide_false, hk', hd, q2, q3, q4, pr_row, d2, d3, d4, Nat.reduceLeDiff, if_pos (i64_ok (z := s1 + x.p) (by omega)), if_pos (i64_ok (z := s2 + x.r) (by omega))]
    cases hg : decide (x.g = g) with
    | true =>
      have hg' : eqB x.g g = true := hg
      rw [if_pos hg'] at ih
      simp -implicitDefEqProofs only [↓reduceIte, eq_self, evb_ret, evb_ite, evb_need, evb_load, evb_app, evb_cut, evb_scut, evb_chk, evb_appF, evb_call, evb_callv, evb_newM, evb_mkM, evb_storeM, evb_appM, evb_mkMap, evb_mapGet, evb_mapSet, evb_mapClr, evb_jump, BE.safe, BE.pe, IE.pe, PEnv.at, List.getD_cons_zero, List.getD_cons_succ, List.getElem?_cons_zero, List.getElem?_cons_succ, locOf, locOn, readLoc, takeN, Nat.add_zero, List.drop_zero, List.length_cons, List.length_nil, Nat.reduceAdd, Nat.le_refl, if_true, if_false, Bool.false_eq_true, List.take_succ_cons, List.take_zero, bindK, bindRes, bind1, Option.map_some, Option.bind_some, PEnv.push, List.cons_append, List.nil_append, List.append_nil, SV.pvs, SV.pv, BE.all, Bool.and_self, Bool.not_true, Bool.not_false, List.map_cons, List.map_nil, if_pos (i64_ok (z := s3 + 1) (by omega)), if_pos hup]
      rw [show s3 + ((m + 1 : Nat) : Int) = s3 + 1 + (m : Int) by omega]
      rw [if_pos hg'] at ih
      exact ih
    | false =>
      have hg' : ¬ eqB x.g g = true := by rw [show eqB x.g g = false from hg]; simp
      rw [if_neg hg'] at ih
      simp -implicitDefEqProofs only [↓reduceIte, eq_self, evb_ret, evb_ite, evb_need, evb_load, evb_app, evb_cut, evb_scut, evb_chk, evb_appF, evb_call, evb_callv, evb_newM, evb_mkM, evb_storeM, evb_appM, evb_mkMap, evb_mapGet, evb_mapSet, evb_mapClr, evb_jump, BE.safe, BE.pe, IE.pe, PEnv.at, List.getD_cons_zero, List.getD_cons_succ, List.getElem?_cons_zero, List.getElem?_cons_succ, locOf, locOn, readLoc, takeN, Nat.add_zero, List.drop_zero, List.length_cons, List.length_nil, Nat.reduceAdd, Nat.le_refl, if_true, if_false, Bool.false_eq_true, List.take_succ_cons, List.take_zero, bindK, bindRes, bind1, Option.map_some, Option.bind_some, PEnv.push, List.cons_append, List.nil_append, List.append_nil, SV.pvs, SV.pv, BE.all, Bool.and_self, Bool.not_true, Bool.not_false, List.map_cons, List.map_nil, if_pos hup]
      rw [if_neg hg'] at ih
      exact ih
include hP in
theorem su_in4 (g : Int) (x : Pr) (hx : l[4]? = some x) (hr : x.rng) : ∀ (m k : Nat), (k : Int) + m = w.e → k + m ≤ 1000 → ∀ fuel (p1 p2 p3 : Int), 0 ≤ p1 → p1 + 1000 * m ≤ 1000000000000 → 0 ≤ p2 → p2 + 1000000 * m ≤ 1000000000000 → 0 ≤ p3 → p3 + m ≤ 1000000000000 →
    saleroomref08_Sums_S.loop (evalF Tab n) (fuel + m + 1) 1 (suSt σ P [g, p1, p2, p3, 4, (k : Int)] w) = saleroomref08_Sums_S.loop (evalF Tab n) fuel 0 (suSt σ P [g, p1 + m * x.p, p2 + m * x.r, if eqB x.g g = true then p3 + m else p3, 4 + 1] w) := by
  obtain ⟨p1, p2, p3⟩ := rows_len hP
  rw [List.length_map] at p1
  have hlt : 4 < l.length := (List.getElem?_eq_some_iff.1 hx).1
  have hd : ltB 4 (l.length : Int) = true := by rw [ltB_true]; omega
  have q2 : locEl 4 5 2 P = some (.row x.row 2) := rows_get (off := 2) (i := 4) hP (rows_prs hx)
  have q3 : locEl 4 5 3 P = some (.row x.row 3) := rows_get (off := 3) (i := 4) hP (rows_prs hx)
  have q4 : locEl 4 5 4 P = some (.row x.row 4) := rows_get (off := 4) (i := 4) hP (rows_prs hx)
  simp only [Pr.rng] at hr
  have e5 : ∀ a b : Int, eqB a b = decide (a = b) := fun _ _ => rfl
  intro m
  induction m with
  | zero =>
    intro k hk hk2 fuel s1 s2 s3 _ _ _ _ _ _
    have hk : ltB (k : Int) w.e = false := by rw [ltB_false]; omega
    rw [Sys.loop, show saleroomref08_Sums_S.loops[1]? = some saleroomref08_Sums_t1 from rfl]
    simp -implicitDefEqProofs only [Option.bind_some, suSt, saleroomref08_Sums_t1, ↓reduceIte, eq_self, evb_ret, evb_ite, evb_need, evb_load, evb_app, evb_cut, evb_scut, evb_chk, evb_appF, evb_call, evb_callv, evb_newM, evb_mkM, evb_storeM, evb_appM, evb_mkMap, evb_mapGet, evb_mapSet, evb_mapClr, evb_jump, BE.safe, BE.pe, IE.pe, PEnv.at, List.getD_cons_zero, List.getD_cons_succ, List.getElem?_cons_zero, List.getElem?_cons_succ, locOf, locOn, readLoc, takeN, Nat.add_zero, List.drop_zero, List.length_cons, List.length_nil, Nat.reduceAdd, Nat.le_refl, if_true, if_false, Bool.false_eq_true, List.take_succ_cons, List.take_zero, bindK, bindRes, bind1, Option.map_some, Option.bind_some, PEnv.push, List.cons_append, List.nil_append, List.append_nil, SV.pvs, SV.pv, BE.all, Bool.and_self, Bool.not_true, Bool.not_false, List.map_cons, List.map_nil, e5, Int.reduceEq, decide_true, decide_false, hk, Int.reduceAdd]
    simp
  | succ m ih =>
    intro k hk hk2 fuel s1 s2 s3 h1 h2 h3 h4 h5 h6
    have hk' : ltB (k : Int) w.e = true := by rw [ltB_true]; omega
    have hup := up_ok (show k ≤ 1000000000 by omega)
    obtain ⟨d1, d2, d3, d4⟩ := dr5 (.str x.nm) (.int .i64 x.s) (.int .i64 x.r) (.int .i64 x.p) (.int .i64 x.g)
    have ih := ih (k + 1) (by omega) (by omega) fuel (s1 + x.p) (s2 + x.r) (if eqB x.g g = true then s3 + 1 else s3) (by omega) (by omega) (by omega) (by omega) (by split <;> omega) (by split <;> omega)
    have m1 : s1 + x.p + (m : Int) * x.p = s1 + ((m + 1 : Nat) : Int) * x.p := by rw [Int.natCast_add, Int.add_mul]; simp; omega
    have m2 : s2 + x.r + (m : Int) * x.r = s2 + ((m + 1 : Nat) : Int) * x.r := by rw [Int.natCast_add, Int.add_mul]; simp; omega
    rw [m1, m2, nat_succ] at ih
    rw [show fuel + (m + 1) + 1 = (fuel + m + 1) + 1 from rfl, Sys.loop, show saleroomref08_Sums_S.loops[1]? = some saleroomref08_Sums_t1 from rfl]
    simp -implicitDefEqProofs only [Option.bind_some, suSt, saleroomref08_Sums_t1, ↓reduceIte, eq_self, evb_ret, evb_ite, evb_need, evb_load, evb_app, evb_cut, evb_scut, evb_chk, evb_appF, evb_call, evb_callv, evb_newM, evb_mkM, evb_storeM, evb_appM, evb_mkMap, evb_mapGet, evb_mapSet, evb_mapClr, evb_jump, BE.safe, BE.pe, IE.pe, PEnv.at, List.getD_cons_zero, List.getD_cons_succ, List.getElem?_cons_zero, List.getElem?_cons_succ, locOf, locOn, readLoc, takeN, Nat.add_zero, List.drop_zero, List.length_cons, List.length_nil, Nat.reduceAdd, Nat.le_refl, if_true, if_false, Bool.false_eq_true, List.take_succ_cons, List.take_zero, bindK, bindRes, bind1, Option.map_some, Option.bind_some, PEnv.push, List.cons_append, List.nil_append, List.append_nil, SV.pvs, SV.pv, BE.all, Bool.and_self, Bool.not_true, Bool.not_false, List.map_cons, List.map_nil, p1, e5, Int.reduceEq, decide_true, decide_false, hk', hd, q2, q3, q4, pr_row, d2, d3, d4, Nat.reduceLeDiff, if_pos (i64_ok (z := s1 + x.p) (by omega)), if_pos (i64_ok (z := s2 + x.r) (by omega))]
    cases hg : decide (x.g = g) with
    | true =>
      have hg' : eqB x.g g = true := hg
      rw [if_pos hg'] at ih
      simp -implicitDefEqProofs only [↓reduceIte, eq_self, evb_ret, evb_ite, evb_need, evb_load, evb_app, evb_cut, evb_scut, evb_chk, evb_appF, evb_call, evb_callv, evb_newM, evb_mkM, evb_storeM, evb_appM, evb_mkMap, evb_mapGet, evb_mapSet, evb_mapClr, evb_jump, BE.safe, BE.pe, IE.pe, PEnv.at, List.getD_cons_zero, List.getD_cons_succ, List.getElem?_cons_zero, List.getElem?_cons_succ, locOf, locOn, readLoc, takeN, Nat.add_zero, List.drop_zero, List.length_cons, List.length_nil, Nat.reduceAdd, Nat.le_refl, if_true, if_false, Bool.false_eq_true, List.take_succ_cons, List.take_zero, bindK, bindRes, bind1, Option.map_some, Option.bind_some, PEnv.push, List.cons_append, List.nil_append, List.append_nil, SV.pvs, SV.pv, BE.all, Bool.and_self, Bool.not_true, Bool.not_false, List.map_cons, List.map_nil, if_pos (i64_ok (z := s3 + 1) (by omega)), if_pos hup]
      rw [show s3 + ((m + 1 : Nat) : Int) = s3 + 1 + (m : Int) by omega]
      rw [if_pos hg'] at ih
      exact ih
    | false =>
      have hg' : ¬ eqB x.g g = true := by rw [show eqB x.g g = false from hg]; simp
      rw [if_neg hg'] at ih
      simp -implicitDefEqProofs only [↓reduceIte, eq_self, evb_ret, evb_ite, evb_need, evb_load, evb_app, evb_cut, evb_scut, evb_chk, evb_appF, evb_call, evb_callv, evb_newM, evb_mkM, evb_storeM, evb_appM, evb_mkMap, evb_mapGet, evb_mapSet, evb_mapClr, evb_jump, BE.safe, BE.pe, IE.pe, PEnv.at, List.getD_cons_zero, List.getD_cons_succ, List.getElem?_cons_zero, List.getElem?_cons_succ, locOf, locOn, readLoc, takeN, Nat.add_zero, List.drop_zero, List.length_cons, List.length_nil, Nat.reduceAdd, Nat.le_refl, if_true, if_false, Bool.false_eq_true, List.take_succ_cons, List.take_zero, bindK, bindRes, bind1, Option.map_some, Option.bind_some, PEnv.push, List.cons_append, List.nil_append, List.append_nil, SV.pvs, SV.pv, BE.all, Bool.and_self, Bool.not_true, Bool.not_false, List.map_cons, List.map_nil, if_pos hup]
      rw [if_neg hg'] at ih
      exact ih
include hP in
theorem su_in5 (g : Int) (x : Pr) (hx : l[5]? = some x) (hr : x.rng) : ∀ (m k : Nat), (k : Int) + m = w.f → k + m ≤ 1000 → ∀ fuel (p1 p2 p3 : Int), 0 ≤ p1 → p1 + 1000 * m ≤ 1000000000000 → 0 ≤ p2 → p2 + 1000000 * m ≤ 1000000000000 → 0 ≤ p3 → p3 + m ≤ 1000000000000 →
    saleroomref08_Sums_S.loop (evalF Tab n) (fuel + m + 1) 1 (suSt σ P [g, p1, p2, p3, 5, (k : Int)] w) = saleroomref08_Sums_S.loop (evalF Tab n) fuel 0 (suSt σ P [g, p1 + m * x.p, p2 + m * x.r, if eqB x.g g = true then p3 + m else p3, 5 + 1] w) := by
  obtain ⟨p1, p2, p3⟩ := rows_len hP
  rw [List.length_map] at p1
  have hlt : 5 < l.length := (List.getElem?_eq_some_iff.1 hx).1
  have hd : ltB 5 (l.length : Int) = true := by rw [ltB_true]; omega
  have q2 : locEl 5 5 2 P = some (.row x.row 2) := rows_get (off := 2) (i := 5) hP (rows_prs hx)
  have q3 : locEl 5 5 3 P = some (.row x.row 3) := rows_get (off := 3) (i := 5) hP (rows_prs hx)
  have q4 : locEl 5 5 4 P = some (.row x.row 4) := rows_get (off := 4) (i := 5) hP (rows_prs hx)
  simp only [Pr.rng] at hr
  have e5 : ∀ a b : Int, eqB a b = decide (a = b) := fun _ _ => rfl
  intro m
  induction m with
  | zero =>
    intro k hk hk2 fuel s1 s2 s3 _ _ _ _ _ _
    have hk : ltB (k : Int) w.f = false := by rw [ltB_false]; omega
    rw [Sys.loop, show saleroomref08_Sums_S.loops[1]? = some saleroomref08_Sums_t1 from rfl]
    simp -implicitDefEqProofs only [Option.bind_some, suSt, saleroomref08_Sums_t1, ↓reduceIte, eq_self, evb_ret, evb_ite, evb_need, evb_load, evb_app, evb_cut, evb_scut, evb_chk, evb_appF, evb_call, evb_callv, evb_newM, evb_mkM, evb_storeM, evb_appM, evb_mkMap, evb_mapGet, evb_mapSet, evb_mapClr, evb_jump, BE.safe, BE.pe, IE.pe, PEnv.at, List.getD_cons_zero, List.getD_cons_succ, List.getElem?_cons_zero, List.getElem?_cons_succ, locOf, locOn, readLoc, takeN, Nat.add_zero, List.drop_zero, List.length_cons, List.length_nil, Nat.reduceAdd, Nat.le_refl, if_true, if_false, Bool.false_eq_true, List.take_succ_cons, List.take_zero, bindK, bindRes, bind1, Option.map_some, Option.bind_some, PEnv.push, List.cons_append, List.nil_append, List.append_nil, SV.pvs, SV.pv, BE.all, Bool.and_self, Bool.not_true, Bool.not_false, List.map_cons, List.map_nil, e5, Int.reduceEq, decide_true, decide_false, hk, Int.reduceAdd]
    simp
  | succ m ih =>
    intro k hk hk2 fuel s1 s2 s3 h1 h2 h3 h4 h5 h6
    have hk' : ltB (k : Int) w.f = true := by rw [ltB_true]; omega
    have hup := up_ok (show k ≤ 1000000000 by omega)
    obtain ⟨d1, d2, d3, d4⟩ := dr5 (.str x.nm) (.int .i64 x.s) (.int .i64 x.r) (.int .i64 x.p) (.int .i64 x.g)
    have ih := ih (k + 1) (by omega) (by omega) fuel (s1 + x.p) (s2 + x.r) (if eqB x.g g = true then s3 + 1 else s3) (by omega) (by omega) (by omega) (by omega) (by split <;> omega) (by split <;> omega)
    have m1 : s1 + x.p + (m : Int) * x.p = s1 + ((m + 1 : Nat) : Int) * x.p := by rw [Int.natCast_add, Int.add_mul]; simp; omega
    have m2 : s2 + x.r + (m : Int) * x.r = s2 + ((m + 1 : Nat) : Int) * x.r := by rw [Int.natCast_add, Int.add_mul]; simp; omega
    rw [m1, m2, nat_succ] at ih
    rw [show fuel + (m + 1) + 1 = (fuel + m + 1) + 1 from rfl, Sys.loop, show saleroomref08_Sums_S.loops[1]? = some saleroomref08_Sums_t1 from rfl]
    simp -implicitDefEqProofs only [Option.bind_some, suSt, saleroomref08_Sums_t1, ↓reduceIte, eq_self, evb_ret, evb_ite, evb_need, evb_load, evb_app, evb_cut, evb_scut, evb_chk, evb_appF, evb_call, evb_callv, evb_newM, evb_mkM, evb_storeM, evb_appM, evb_mkMap, evb_mapGet, evb_mapSet, evb_mapClr, evb_jump, BE.safe, BE.pe, IE.pe, PEnv.at, List.getD_cons_zero, List.getD_cons_succ, List.getElem?_cons_zero, List.getElem?_cons_succ, locOf, locOn, readLoc, takeN, Nat.add_zero, List.drop_zero, List.length_cons, List.length_nil, Nat.reduceAdd, Nat.le_refl, if_true, if_false, Bool.false_eq_true, List.take_succ_cons, List.take_zero, bindK, bindRes, bind1, Option.map_some, Option.bind_some, PEnv.push, List.cons_append, List.nil_append, List.append_nil, SV.pvs, SV.pv, BE.all, Bool.and_self, Bool.not_true, Bool.not_false, List.map_cons, List.map_nil, p1, e5, Int.reduceEq, decide_true, decide_false, hk', hd, q2, q3, q4, pr_row, d2, d3, d4, Nat.reduceLeDiff, if_pos (i64_ok (z := s1 + x.p) (by omega)), if_pos (i64_ok (z := s2 + x.r) (by omega))]
    cases hg : decide (x.g = g) with
    | true =>
      have hg' : eqB x.g g = true := hg
      rw [if_pos hg'] at ih
      simp -implicitDefEqProofs only [↓reduceIte, eq_self, evb_ret, evb_ite, evb_need, evb_load, evb_app, evb_cut, evb_scut, evb_chk, evb_appF, evb_call, evb_callv, evb_newM, evb_mkM, evb_storeM, evb_appM, evb_mkMap, evb_mapGet, evb_mapSet, evb_mapClr, evb_jump, BE.safe, BE.pe, IE.pe, PEnv.at, List.getD_cons_zero, List.getD_cons_succ, List.getElem?_cons_zero, List.getElem?_cons_succ, locOf, locOn, readLoc, takeN, Nat.add_zero, List.drop_zero, List.length_cons, List.length_nil, Nat.reduceAdd, Nat.le_refl, if_true, if_false, Bool.false_eq_true, List.take_succ_cons, List.take_zero, bindK, bindRes, bind1, Option.map_some, Option.bind_some, PEnv.push, List.cons_append, List.nil_append, List.append_nil, SV.pvs, SV.pv, BE.all, Bool.and_self, Bool.not_true, Bool.not_false, List.map_cons, List.map_nil, if_pos (i64_ok (z := s3 + 1) (by omega)), if_pos hup]
      rw [show s3 + ((m + 1 : Nat) : Int) = s3 + 1 + (m : Int) by omega]
      rw [if_pos hg'] at ih
      exact ih
    | false =>
      have hg' : ¬ eqB x.g g = true := by rw [show eqB x.g g = false from hg]; simp
      rw [if_neg hg'] at ih
      simp -implicitDefEqProofs only [↓reduceIte, eq_self, evb_ret, evb_ite, evb_need, evb_load, evb_app, evb_cut, evb_scut, evb_chk, evb_appF, evb_call, evb_callv, evb_newM, evb_mkM, evb_storeM, evb_appM, evb_mkMap, evb_mapGet, evb_mapSet, evb_mapClr, evb_jump, BE.safe, BE.pe, IE.pe, PEnv.at, List.getD_cons_zero, List.getD_cons_succ, List.getElem?_cons_zero, List.getElem?_cons_succ, locOf, locOn, readLoc, takeN, Nat.add_zero, List.drop_zero, List.length_cons, List.length_nil, Nat.reduceAdd, Nat.le_refl, if_true, if_false, Bool.false_eq_true, List.take_succ_cons, List.take_zero, bindK, bindRes, bind1, Option.map_some, Option.bind_some, PEnv.push, List.cons_append, List.nil_append, List.append_nil, SV.pvs, SV.pv, BE.all, Bool.and_self, Bool.not_true, Bool.not_false, List.map_cons, List.map_nil, if_pos hup]
      rw [if_neg hg'] at ih
      exact ih
include hP in
theorem su_out (hw : w.ok) (g : Int) (hl : l.length ≤ 6) (hr : ∀ x ∈ l, x.rng) : ∀ d i, i + d = l.length → ∀ u : Int, 0 ≤ u → u ≤ 4 * i → ∃ u' : Int, ∀ fuel, 1 + d * 6 ≤ fuel →
    saleroomref08_Sums_S.loop (evalF Tab n) fuel 0 (suSt σ P [g, ptS Pr.p l w i, ptS Pr.r l w i, u, (i : Int)] w) = some (.tup [.int .i64 (ptS Pr.p l w l.length), .int .i64 (ptS Pr.r l w l.length), .int .i64 u'], σ) := by
  obtain ⟨p1, p2, p3⟩ := rows_len hP
  rw [List.length_map] at p1
  intro d
  induction d with
  | zero =>
    intro i hi u h1 h2
    rw [Nat.add_zero] at hi; subst hi
    refine ⟨u, fun fuel hf => ?_⟩
    obtain ⟨fuel, rfl⟩ : ∃ k, fuel = k + 1 := ⟨fuel - 1, by omega⟩
    have hd : decide (l.length < l.length) = false := by simp
    rw [Sys.loop, show saleroomref08_Sums_S.loops[0]? = some saleroomref08_Sums_t0 from rfl]
    simp -implicitDefEqProofs only [Option.bind_some, suSt, saleroomref08_Sums_t0, ↓reduceIte, eq_self, evb_ret, evb_ite, evb_need, evb_load, evb_app, evb_cut, evb_scut, evb_chk, evb_appF, evb_call, evb_callv, evb_newM, evb_mkM, evb_storeM, evb_appM, evb_mkMap, evb_mapGet, evb_mapSet, evb_mapClr, evb_jump, BE.safe, BE.pe, IE.pe, PEnv.at, List.getD_cons_zero, List.getD_cons_succ, List.getElem?_cons_zero, List.getElem?_cons_succ, locOf, locOn, readLoc, takeN, Nat.add_zero, List.drop_zero, List.length_cons, List.length_nil, Nat.reduceAdd, Nat.le_refl, if_true, if_false, Bool.false_eq_true, List.take_succ_cons, List.take_zero, bindK, bindRes, bind1, Option.map_some, Option.bind_some, PEnv.push, List.cons_append, List.nil_append, List.append_nil, SV.pvs, SV.pv, BE.all, Bool.and_self, Bool.not_true, Bool.not_false, List.map_cons, List.map_nil, p1, p2, ltB_nat, hd, retP, or_true]
  | succ d ih =>
    intro i hi u h1 h2
    have hlt : i < l.length := by omega
    obtain ⟨x, hx⟩ := get_ex hlt
    have hd : decide (i < l.length) = true := decide_eq_true hlt
    have hxr := hr x (List.mem_of_getElem? hx)
    have hw1 := wlAt_bd hw i
    have hxr' := hxr
    simp only [Pr.rng] at hxr'
    have b1 := ptS_bd (f := Pr.p) (b := 1000) hw (by omega) (fun y hy => by have := hr y hy; simp only [Pr.rng] at this; omega) i
    have b2 := ptS_bd (f := Pr.r) (b := 1000000) hw (by omega) (fun y hy => by have := hr y hy; simp only [Pr.rng] at this; omega) i
    obtain ⟨m, hm⟩ : ∃ m : Nat, (m : Int) = wlAt w i := ⟨(wlAt w i).toNat, by omega⟩
    obtain ⟨u', hu⟩ := ih (i + 1) (by omega) (if eqB x.g g = true then u + m else u) (by split <;> omega) (by split <;> omega)
    refine ⟨u', fun fuel hf => ?_⟩
    obtain ⟨fuel, rfl⟩ : ∃ k, fuel = (k + m + 1) + 1 := ⟨fuel - m - 2, by omega⟩
    have hu := hu fuel (by omega)
    have k1 : ptS Pr.p l w (i + 1) = ptS Pr.p l w i + m * x.p := by simp only [ptS, prAt, hx, Option.map_some, Option.getD_some, hm]
    have k2 : ptS Pr.r l w (i + 1) = ptS Pr.r l w i + m * x.r := by simp only [ptS, prAt, hx, Option.map_some, Option.getD_some, hm]
    rw [k1, k2, nat_succ] at hu
    rw [← hu, Sys.loop, show saleroomref08_Sums_S.loops[0]? = some saleroomref08_Sums_t0 from rfl]
    simp -implicitDefEqProofs only [Option.bind_some, suSt, saleroomref08_Sums_t0, ↓reduceIte, eq_self, evb_ret, evb_ite, evb_need, evb_load, evb_app, evb_cut, evb_scut, evb_chk, evb_appF, evb_call, evb_callv, evb_newM, evb_mkM, evb_storeM, evb_appM, evb_mkMap, evb_mapGet, evb_mapSet, evb_mapClr, evb_jump, BE.safe, BE.pe, IE.pe, PEnv.at, List.getD_cons_zero, List.getD_cons_succ, List.getElem?_cons_zero, List.getElem?_cons_succ, locOf, locOn, readLoc, takeN, Nat.add_zero, List.drop_zero, List.length_cons, List.length_nil, Nat.reduceAdd, Nat.le_refl, if_true, if_false, Bool.false_eq_true, List.take_succ_cons, List.take_zero, bindK, bindRes, bind1, Option.map_some, Option.bind_some, PEnv.push, List.cons_append, List.nil_append, List.append_nil, SV.pvs, SV.pv, BE.all, Bool.and_self, Bool.not_true, Bool.not_false, List.map_cons, List.map_nil, p1, p2, ltB_nat, hd]
    clear hu ih
    generalize ptS Pr.p l w i = s1 at *
    generalize ptS Pr.r l w i = s2 at *
    obtain rfl | rfl | rfl | rfl | rfl | rfl : i = 0 ∨ i = 1 ∨ i = 2 ∨ i = 3 ∨ i = 4 ∨ i = 5 := by omega
    · exact su_in0 σ l P hP n w g x hx hxr m 0 (by rw [hm]; simp [wlAt, wl]) (by omega) fuel s1 s2 u (by omega) (by omega) (by omega) (by omega) (by omega) (by omega)
    · exact su_in1 σ l P hP n w g x hx hxr m 0 (by rw [hm]; simp [wlAt, wl]) (by omega) fuel s1 s2 u (by omega) (by omega) (by omega) (by omega) (by omega) (by omega)
    · exact su_in2 σ l P hP n w g x hx hxr m 0 (by rw [hm]; simp [wlAt, wl]) (by omega) fuel s1 s2 u (by omega) (by omega) (by omega) (by omega) (by omega) (by omega)
    · exact su_in3 σ l P hP n w g x hx hxr m 0 (by rw [hm]; simp [wlAt, wl]) (by omega) fuel s1 s2 u (by omega) (by omega) (by omega) (by omega) (by omega) (by omega)
    · exact su_in4 σ l P hP n w g x hx hxr m 0 (by rw [hm]; simp [wlAt, wl]) (by omega) fuel s1 s2 u (by omega) (by omega) (by omega) (by omega) (by omega) (by omega)
    · exact su_in5 σ l P hP n w g x hx hxr m 0 (by rw [hm]; simp [wlAt, wl]) (by omega) fuel s1 s2 u (by omega) (by omega) (by omega) (by omega) (by omega) (by omega)
end
theorem rpoints_sem (σ : List MO) (s : St) (hs : s.Ok) (w : W6) (n : Nat) (hn : 100 ≤ n) : evalF Tab n n_saleroomref37_points [.agg s.pv, .agg w.pv] σ = some (.int .i64 (ptsV s.ps w), σ) := by
  obtain ⟨n, rfl⟩ : ∃ k, n = k + 1 := ⟨n - 1, by omega⟩
  obtain ⟨p1, p2, p3⟩ := rows_len hs.P
  obtain ⟨b1, b2, b3⟩ := rows_len hs.B
  have sums : ∃ y z : Int, evalF Tab n n_saleroomref08_Sums [s.P, .int .i64 0, .agg w.pv] σ = some (.tup [.int .i64 (ptsV s.ps w), .int .i64 y, .int .i64 z], σ) := by
    obtain ⟨n, rfl⟩ : ∃ k, n = k + 1 := ⟨n - 1, by omega⟩
    have c1 := rcheck08_sem σ s.ps s.P hs.P n (by omega)
    have c2 := rvalid08_sem σ w n (by omega)
    simp only [n_saleroomref08_Check, n_saleroomref08_Valid, W6.pv] at c1 c2
    simp only [evalF, tab_saleroomref08_Sums, Option.bind_some, Sys.run, W6.pv]
    show ∃ y z : Int, ((bindPs [.sh (.one _), .sh (.one _), .sh (.agg [_, _, _, _, _, _])] _).bind _) = _
    simp -implicitDefEqProofs only [bindPs, bind1, bindK, Option.map_some, Option.bind_some, List.append_nil, List.nil_append, List.cons_append, if_true, p3]
    show ∃ y z : Int, (PT.ev _ saleroomref08_Sums_s _).bind _ = _
    simp -implicitDefEqProofs only [saleroomref08_Sums_s, ↓reduceIte, eq_self, evb_ret, evb_ite, evb_need, evb_load, evb_app, evb_cut, evb_scut, evb_chk, evb_appF, evb_call, evb_callv, evb_newM, evb_mkM, evb_storeM, evb_appM, evb_mkMap, evb_mapGet, evb_mapSet, evb_mapClr, evb_jump, BE.safe, BE.pe, IE.pe, PEnv.at, List.getD_cons_zero, List.getD_cons_succ, List.getElem?_cons_zero, List.getElem?_cons_succ, locOf, locOn, readLoc, takeN, Nat.add_zero, List.drop_zero, List.length_cons, List.length_nil, Nat.reduceAdd, Nat.le_refl, if_true, if_false, Bool.false_eq_true, List.take_succ_cons, List.take_zero, bindK, bindRes, bind1, Option.map_some, Option.bind_some, PEnv.push, List.cons_append, List.nil_append, List.append_nil, SV.pvs, SV.pv, BE.all, Bool.and_self, Bool.not_true, Bool.not_false, List.map_cons, List.map_nil, c1, ptsV]
    cases hc : eqB (pchk s.ps) 0 with
    | false => refine ⟨0, 0, ?_⟩; simp -implicitDefEqProofs only [↓reduceIte, eq_self, evb_ret, evb_ite, evb_need, evb_load, evb_app, evb_cut, evb_scut, evb_chk, evb_appF, evb_call, evb_callv, evb_newM, evb_mkM, evb_storeM, evb_appM, evb_mkMap, evb_mapGet, evb_mapSet, evb_mapClr, evb_jump, BE.safe, BE.pe, IE.pe, PEnv.at, List.getD_cons_zero, List.getD_cons_succ, List.getElem?_cons_zero, List.getElem?_cons_succ, locOf, locOn, readLoc, takeN, Nat.add_zero, List.drop_zero, List.length_cons, List.length_nil, Nat.reduceAdd, Nat.le_refl, if_true, if_false, Bool.false_eq_true, List.take_succ_cons, List.take_zero, bindK, bindRes, bind1, Option.map_some, Option.bind_some, PEnv.push, List.cons_append, List.nil_append, List.append_nil, SV.pvs, SV.pv, BE.all, Bool.and_self, Bool.not_true, Bool.not_false, List.map_cons, List.map_nil, retP, or_true]
    | true =>
      obtain ⟨hl, hr⟩ := pchk_zero (eqB_true.1 hc)
      by_cases hw : w.ok
      · have hb : eqB (bchk w) 0 = true := by unfold bchk; rw [if_pos hw]; rfl
        obtain ⟨u', hu⟩ := su_out σ s.ps s.P hs.P n w hw 0 hl hr s.ps.length 0 (by omega) 0 (by omega) (by omega)
        refine ⟨ptS Pr.r s.ps w s.ps.length, u', ?_⟩
        rw [decide_eq_true hw] at c2
        have hu := hu n (by omega)
        simp -implicitDefEqProofs only [↓reduceIte, eq_self, evb_ret, evb_ite, evb_need, evb_load, evb_app, evb_cut, evb_scut, evb_chk, evb_appF, evb_call, evb_callv, evb_newM, evb_mkM, evb_storeM, evb_appM, evb_mkMap, evb_mapGet, evb_mapSet, evb_mapClr, evb_jump, BE.safe, BE.pe, IE.pe, PEnv.at, List.getD_cons_zero, List.getD_cons_succ, List.getElem?_cons_zero, List.getElem?_cons_succ, locOf, locOn, readLoc, takeN, Nat.add_zero, List.drop_zero, List.length_cons, List.length_nil, Nat.reduceAdd, Nat.le_refl, if_true, if_false, Bool.false_eq_true, List.take_succ_cons, List.take_zero, bindK, bindRes, bind1, Option.map_some, Option.bind_some, PEnv.push, List.cons_append, List.nil_append, List.append_nil, SV.pvs, SV.pv, BE.all, Bool.and_self, Bool.not_true, Bool.not_false, List.map_cons, List.map_nil, c2, hb]
        exact hu
      · have hb : eqB (bchk w) 0 = false := by unfold bchk; rw [if_neg hw]; rfl
        refine ⟨0, 0, ?_⟩
        rw [decide_eq_false hw] at c2
        simp -implicitDefEqProofs only [↓reduceIte, eq_self, evb_ret, evb_ite, evb_need, evb_load, evb_app, evb_cut, evb_scut, evb_chk, evb_appF, evb_call, evb_callv, evb_newM, evb_mkM, evb_storeM, evb_appM, evb_mkMap, evb_mapGet, evb_mapSet, evb_mapClr, evb_jump, BE.safe, BE.pe, IE.pe, PEnv.at, List.getD_cons_zero, List.getD_cons_succ, List.getElem?_cons_zero, List.getElem?_cons_succ, locOf, locOn, readLoc, takeN, Nat.add_zero, List.drop_zero, List.length_cons, List.length_nil, Nat.reduceAdd, Nat.le_refl, if_true, if_false, Bool.false_eq_true, List.take_succ_cons, List.take_zero, bindK, bindRes, bind1, Option.map_some, Option.bind_some, PEnv.push, List.cons_append, List.nil_append, List.append_nil, SV.pvs, SV.pv, BE.all, Bool.and_self, Bool.not_true, Bool.not_false, List.map_cons, List.map_nil, c2, hb, retP, or_true]
  obtain ⟨y, z, c1⟩ := sums
  simp only [n_saleroomref08_Sums, W6.pv] at c1
  simp only [evalF, tab_saleroomref37_points, Option.bind_some, Sys.run, W6.pv, St.pv]
  show ((bindPs [.sh (.agg [_, _, _, _]), .sh (.agg [_, _, _, _, _, _])] _).bind _) = _
  simp -implicitDefEqProofs only [bindPs, bind1, bindK, Option.map_some, Option.bind_some, List.append_nil, List.nil_append, List.cons_append, if_true, p3, b3, hs.C, hs.A]
  show (PT.ev _ saleroomref37_points_s _).bind _ = _
  simp -implicitDefEqProofs only [saleroomref37_points_s, ↓reduceIte, eq_self, evb_ret, evb_ite, evb_need, evb_load, evb_app, evb_cut, evb_scut, evb_chk, evb_appF, evb_call, evb_callv, evb_newM, evb_mkM, evb_storeM, evb_appM, evb_mkMap, evb_mapGet, evb_mapSet, evb_mapClr, evb_jump, BE.safe, BE.pe, IE.pe, PEnv.at, List.getD_cons_zero, List.getD_cons_succ, List.getElem?_cons_zero, List.getElem?_cons_succ, locOf, locOn, readLoc, takeN, Nat.add_zero, List.drop_zero, List.length_cons, List.length_nil, Nat.reduceAdd, Nat.le_refl, if_true, if_false, Bool.false_eq_true, List.take_succ_cons, List.take_zero, bindK, bindRes, bind1, Option.map_some, Option.bind_some, PEnv.push, List.cons_append, List.nil_append, List.append_nil, SV.pvs, SV.pv, BE.all, Bool.and_self, Bool.not_true, Bool.not_false, List.map_cons, List.map_nil, c1, bindShs, retP, or_true]
/-- The code's sum. -/
theorem pt1_sem (σ : List MO) (x : Pr) (n : Nat) (hn : 1 ≤ n) : evalF Tab n n_catalog_Points_1 [.agg x.row] σ = some (.int .i64 x.p, σ) := by
  obtain ⟨n, rfl⟩ : ∃ k, n = k + 1 := ⟨n - 1, by omega⟩
  simp only [evalF, tab_catalog_Points_1, Option.bind_some, Sys.run, pr_row]
  show ((bindPs [.sh (.agg [_, _, _, _, _])] _).bind _) = _
  simp -implicitDefEqProofs only [bindPs, bind1, bindK, Option.map_some, Option.bind_some, List.append_nil, List.nil_append, List.cons_append, if_true, one_str]
  show (PT.ev _ catalog_Points_1_s _).bind _ = _
  simp -implicitDefEqProofs only [catalog_Points_1_s, ↓reduceIte, eq_self, evb_ret, evb_ite, evb_need, evb_load, evb_app, evb_cut, evb_scut, evb_chk, evb_appF, evb_call, evb_callv, evb_newM, evb_mkM, evb_storeM, evb_appM, evb_mkMap, evb_mapGet, evb_mapSet, evb_mapClr, evb_jump, BE.safe, BE.pe, IE.pe, PEnv.at, List.getD_cons_zero, List.getD_cons_succ, List.getElem?_cons_zero, List.getElem?_cons_succ, locOf, locOn, readLoc, takeN, Nat.add_zero, List.drop_zero, List.length_cons, List.length_nil, Nat.reduceAdd, Nat.le_refl, if_true, if_false, Bool.false_eq_true, List.take_succ_cons, List.take_zero, bindK, bindRes, bind1, Option.map_some, Option.bind_some, PEnv.push, List.cons_append, List.nil_append, List.append_nil, SV.pvs, SV.pv, BE.all, Bool.and_self, Bool.not_true, Bool.not_false, List.map_cons, List.map_nil, retP, or_true]
def usSt (σ : List MO) (P F : PV) (is : List Int) (w : W6) : PEnv := { i := is ++ [w.a, w.b, w.c, w.d, w.e, w.f], b := [], v := [F, P], m := σ, k := σ.length }
theorem usum_loop (σ : List MO) (l : List Pr) (P : PV) (hP : P.rowsOf 5 = some (l.map Pr.row)) (w : W6) (hw : w.ok) (hl : l.length ≤ 6) (hr : ∀ x ∈ l, x.rng) (n : Nat) (hn : 1 ≤ n) : ∀ d i, i + d = l.length → ∀ fuel,
    catalog_units_sum_S.loop (evalF Tab n) (fuel + d + 1) 0 (usSt σ P (.fn n_catalog_Points_1 []) [ptS Pr.p l w i, (l.length : Int), (i : Int)] w) = some (.int .i64 (ptS Pr.p l w l.length), σ) := by
  obtain ⟨p1, p2, p3⟩ := rows_len hP
  rw [List.length_map] at p1
  intro d
  induction d with
  | zero =>
    intro i hi fuel
    rw [Nat.add_zero] at hi; subst hi
    have hd : decide (l.length < l.length) = false := by simp
    rw [Sys.loop, show catalog_units_sum_S.loops[0]? = some catalog_units_sum_t0 from rfl]
    simp -implicitDefEqProofs only [Option.bind_some, usSt, catalog_units_sum_t0, ↓reduceIte, eq_self, evb_ret, evb_ite, evb_need, evb_load, evb_app, evb_cut, evb_scut, evb_chk, evb_appF, evb_call, evb_callv, evb_newM, evb_mkM, evb_storeM, evb_appM, evb_mkMap, evb_mapGet, evb_mapSet, evb_mapClr, evb_jump, BE.safe, BE.pe, IE.pe, PEnv.at, List.getD_cons_zero, List.getD_cons_succ, List.getElem?_cons_zero, List.getElem?_cons_succ, locOf, locOn, readLoc, takeN, Nat.add_zero, List.drop_zero, List.length_cons, List.length_nil, Nat.reduceAdd, Nat.le_refl, if_true, if_false, Bool.false_eq_true, List.take_succ_cons, List.take_zero, bindK, bindRes, bind1, Option.map_some, Option.bind_some, PEnv.push, List.cons_append, List.nil_append, List.append_nil, SV.pvs, SV.pv, BE.all, Bool.and_self, Bool.not_true, Bool.not_false, List.map_cons, List.map_nil, p1, p2, ltB_nat, hd, retP, or_true]
  | succ d ih =>
    intro i hi fuel
    have hlt : i < l.length := by omega
    obtain ⟨x, hx⟩ := get_ex hlt
    have hd : decide (i < l.length) = true := decide_eq_true hlt
    have hxr := hr x (List.mem_of_getElem? hx)
    simp only [Pr.rng] at hxr
    have hq := rows_get (off := 0) hP (rows_prs hx)
    have hw1 := wlAt_bd hw i
    have b1 := ptS_bd (f := Pr.p) (b := 1000) hw (by omega) (fun y hy => by have := hr y hy; simp only [Pr.rng] at this; omega) i
    have c1 := pt1_sem σ x n hn
    have ih := ih (i + 1) (by omega) fuel
    rw [nat_succ] at ih
    have k1 : ptS Pr.p l w (i + 1) = ptS Pr.p l w i + wlAt w i * x.p := by simp only [ptS, prAt, hx, Option.map_some, Option.getD_some]
    have hm : 0 ≤ wlAt w i * x.p ∧ wlAt w i * x.p ≤ 4 * 1000 := ⟨Int.mul_nonneg hw1.1 (by omega), Int.mul_le_mul hw1.2 (by omega) (by omega) (by omega)⟩
    rw [k1] at ih
    generalize ptS Pr.p l w i = s1 at *
    have q1 := i64_ok (z := wlAt w i * x.p) (by omega)
    have q2 := i64_ok (z := s1 + wlAt w i * x.p) (by omega)
    simp only [n_catalog_Points_1, pr_row] at c1
    rw [← ih, show fuel + (d + 1) + 1 = (fuel + d + 1) + 1 from rfl, Sys.loop, show catalog_units_sum_S.loops[0]? = some catalog_units_sum_t0 from rfl]
    simp -implicitDefEqProofs only [Option.bind_some, usSt, catalog_units_sum_t0, ↓reduceIte, eq_self, evb_ret, evb_ite, evb_need, evb_load, evb_app, evb_cut, evb_scut, evb_chk, evb_appF, evb_call, evb_callv, evb_newM, evb_mkM, evb_storeM, evb_appM, evb_mkMap, evb_mapGet, evb_mapSet, evb_mapClr, evb_jump, BE.safe, BE.pe, IE.pe, PEnv.at, List.getD_cons_zero, List.getD_cons_succ, List.getElem?_cons_zero, List.getElem?_cons_succ, locOf, locOn, readLoc, takeN, Nat.add_zero, List.drop_zero, List.length_cons, List.length_nil, Nat.reduceAdd, Nat.le_refl, if_true, if_false, Bool.false_eq_true, List.take_succ_cons, List.take_zero, bindK, bindRes, bind1, Option.map_some, Option.bind_some, PEnv.push, List.cons_append, List.nil_append, List.append_nil, SV.pvs, SV.pv, BE.all, Bool.and_self, Bool.not_true, Bool.not_false, List.map_cons, List.map_nil, p1, p2, ltB_nat, hd, le0, hq, pr_row, one_str, n_catalog_Points_1, c1]
    obtain rfl | rfl | rfl | rfl | rfl | rfl : i = 0 ∨ i = 1 ∨ i = 2 ∨ i = 3 ∨ i = 4 ∨ i = 5 := by omega
    all_goals
      simp only [wlAt, wl, List.getElem?_cons_zero, List.getElem?_cons_succ, Option.getD_some] at q1 q2 ⊢
      have e5 : ∀ a b : Int, eqB a b = decide (a = b) := fun _ _ => rfl
      simp -implicitDefEqProofs only [↓reduceIte, eq_self, evb_ret, evb_ite, evb_need, evb_load, evb_app, evb_cut, evb_scut, evb_chk, evb_appF, evb_call, evb_callv, evb_newM, evb_mkM, evb_storeM, evb_appM, evb_mkMap, evb_mapGet, evb_mapSet, evb_mapClr, evb_jump, BE.safe, BE.pe, IE.pe, PEnv.at, List.getD_cons_zero, List.getD_cons_succ, List.getElem?_cons_zero, List.getElem?_cons_succ, locOf, locOn, readLoc, takeN, Nat.add_zero, List.drop_zero, List.length_cons, List.length_nil, Nat.reduceAdd, Nat.le_refl, if_true, if_false, Bool.false_eq_true, List.take_succ_cons, List.take_zero, bindK, bindRes, bind1, Option.map_some, Option.bind_some, PEnv.push, List.cons_append, List.nil_append, List.append_nil, SV.pvs, SV.pv, BE.all, Bool.and_self, Bool.not_true, Bool.not_false, List.map_cons, List.map_nil, e5, Int.reduceEq, Int.cast_ofNat_Int, decide_true, decide_false, q1, q2, c1, Int.reduceAdd]
end Go.Proofs.Ythjahianafohjaa
