/- revealed.Check as a whole. -/
import Derived.Test.YthjahianafohjaaHRvN
set_option linter.unusedSimpArgs false
set_option linter.unusedVariables false
set_option maxRecDepth 100000
namespace Go.Proofs.Ythjahianafohjaa
open Go.Sx Go.Bf
def rs0 (l : List Ch) (vs : List Int) : Nat → Int
  | 0 => 0
  | i + 1 => mxI (rs0 l vs i) (costW (chAt l (i : Int)).p (chAt l (i : Int)).w - at' vs i)
def rs1 (l : List Ch) (vs : List Int) (r0 : Int) : Nat → Int
  | 0 => r0
  | i + 1 => if (chAt l (i : Int)).w.isZ = true then 0 - at' vs i else rs1 l vs r0 i
def raiseOf (l : List Ch) (vs : List Int) : Int := rs1 l vs (rs0 l vs l.length) l.length
theorem rs0_bd {l : List Ch} (hok : ∀ x ∈ l, x.ok) {vs : List Int} (hb : ∀ x, x < l.length → -648000000000 ≤ at' vs x ∧ at' vs x ≤ 0) : ∀ i, i ≤ l.length → 0 ≤ rs0 l vs i ∧ rs0 l vs i ≤ 648024000000
  | 0, _ => by simp [rs0]
  | i + 1, h => by
    have ih := rs0_bd hok hb i (by omega)
    have hxo := hok _ (List.mem_of_getElem? (chN (x := i) (l := l) (by omega)))
    have := cost_bd hxo.1 hxo.2
    have := hb i (by omega)
    simp only [rs0, mxI]
    split <;> omega
theorem rs1_bd {l : List Ch} {vs : List Int} (hb : ∀ x, x < l.length → -648000000000 ≤ at' vs x ∧ at' vs x ≤ 0) {r0 : Int} (h0 : 0 ≤ r0 ∧ r0 ≤ 648024000000) : ∀ i, i ≤ l.length → 0 ≤ rs1 l vs r0 i ∧ rs1 l vs r0 i ≤ 648024000000
  | 0, _ => h0
  | i + 1, h => by
    have ih := rs1_bd hb h0 i (by omega)
    have := hb i (by omega)
    simp only [rs1]
    split <;> omega
def cst (σ : List MO) (P : PV) (N : Nat) (vs fs : List Int) (is : List Int) : PEnv :=
  { i := is, b := [], v := [P, .msl σ.length 0 N N 1], m := σ ++ [.cells (icell vs) 2, .cells (icell fs) 3], k := σ.length }
def cst1 (σ : List MO) (P : PV) (N : Nat) (vs fs : List Int) (is : List Int) : PEnv :=
  { i := is, b := [], v := [.msl σ.length 0 N N 1, P], m := σ ++ [.cells (icell vs) 2, .cells (icell fs) 3], k := σ.length }
def cst2 (σ : List MO) (N : Nat) (vs fs : List Int) (is : List Int) : PEnv :=
  { i := is, b := [], v := [.msl σ.length 0 N N 1], m := σ ++ [.cells (icell vs) 2, .cells (icell fs) 3], k := σ.length }
section
variable (σ : List MO) (hσ : Flat σ) (l : List Ch) (P : PV) (hP : P.rowsOf 12 = some (l.map Ch.row)) (hok : ∀ x ∈ l, x.ok) (hl : l.length ≤ 30) (n : Nat) (hn : 110 ≤ n)
variable (vs fs : List Int) (hvs : vs.length = l.length) (hb : ∀ x, x < l.length → -648000000000 ≤ at' vs x ∧ at' vs x ≤ 0)
include hP hok hl hn hvs hb in
theorem chk0 (i fuel : Nat) (hi : i < l.length) : revealed_Check_S.loop (evalF Tab n) (fuel + 1) 0 (cst σ P l.length vs fs [rs0 l vs i, (l.length : Int), (i : Int)]) = revealed_Check_S.loop (evalF Tab n) fuel 0 (cst σ P l.length vs fs [rs0 l vs (i + 1), (l.length : Int), ((i + 1 : Nat) : Int)]) := by
  obtain ⟨p1, p2, p3⟩ := rows_len hP
  rw [List.length_map] at p1
  have ex := chN hi
  have hxo := hok _ (List.mem_of_getElem? ex)
  have c1 := bundle_Cost_sem (σ ++ [.cells (icell vs) 2, .cells (icell fs) 3]) _ _ hxo.1 hxo.2 n (by omega)
  have lx := rows_get (off := 0) hP (rows_chs ex)
  have dva := icell_drop (at'_get (l := vs) (i := i) (by omega))
  have ma := locEl_msl (h := σ.length) (o := 0) (cap := l.length) (sz := 1) (off := 0) hi
  have hbi := hb i hi
  have hcb := cost_bd hxo.1 hxo.2
  have e2 : ((i + 1 : Nat) : Int) = (i : Int) + 1 := by omega
  have hd : decide (i < l.length) = true := decide_eq_true hi
  have q1 : (leB 0 (i : Int) && true) = true := by simp [leB]
  have q4 : (leB (-9223372036854775808) ((i : Int) + 1) && leB ((i : Int) + 1) 9223372036854775807) = true := by simp [leB]; omega
  simp only [rs0]
  generalize rs0 l vs i = r at *
  generalize chAt l (i : Int) = x at *
  generalize costW x.p x.w = u at *
  have q5 : (leB (-9223372036854775808) (u - at' vs i) && leB (u - at' vs i) 9223372036854775807) = true := by simp [leB]; omega
  simp only [n_bundle_Cost, W6.pv] at c1
  have hev : revealed_Check_t0.ev (evalF Tab n) (cst σ P l.length vs fs [r, (l.length : Int), (i : Int)]) = some (.jump 0 (cst σ P l.length vs fs [mxI r (u - at' vs i), (l.length : Int), (i : Int) + 1])) := by
    unfold revealed_Check_t0
    simp -implicitDefEqProofs only [↓reduceIte, evb_ret, evb_ite, evb_need, evb_load, evb_app, evb_cut, evb_call, evb_callv, evb_newM, evb_mkM, evb_storeM, evb_appM, evb_mkMap, evb_mapGet, evb_mapSet, evb_mapClr, evb_jump, BE.safe, BE.pe, IE.pe, PEnv.at, List.getD_cons_zero, List.getD_cons_succ, List.getElem?_cons_zero, List.getElem?_cons_succ, locOf, locOn, readLoc, takeN, Nat.add_zero, List.drop_zero, List.length_cons, List.length_nil, Nat.reduceAdd, Nat.le_refl, if_true, if_false, Bool.false_eq_true, List.take_succ_cons, List.take_zero, bindK, bindRes, bind1, Option.map_some, Option.bind_some, PEnv.push, List.cons_append, List.nil_append, List.append_nil, SV.pvs, SV.pv, BE.all, Bool.and_self, Bool.not_true, Bool.not_false, List.map_cons, List.map_nil, cst, p1, lenM, ltB_nat, hd, if_pos q1, lx, row_eq]
    repeat' (first
      | with_reducible rfl
      | apply ev_both
      | (unfold revealed_Check_t0_b1; simp -implicitDefEqProofs only [↓reduceIte, evb_ret, evb_ite, evb_need, evb_load, evb_app, evb_cut, evb_call, evb_callv, evb_newM, evb_mkM, evb_storeM, evb_appM, evb_mkMap, evb_mapGet, evb_mapSet, evb_mapClr, evb_jump, BE.safe, BE.pe, IE.pe, PEnv.at, List.getD_cons_zero, List.getD_cons_succ, List.getElem?_cons_zero, List.getElem?_cons_succ, locOf, locOn, readLoc, takeN, Nat.add_zero, List.drop_zero, List.length_cons, List.length_nil, Nat.reduceAdd, Nat.le_refl, if_true, if_false, Bool.false_eq_true, List.take_succ_cons, List.take_zero, bindK, bindRes, bind1, Option.map_some, Option.bind_some, PEnv.push, List.cons_append, List.nil_append, List.append_nil, SV.pvs, SV.pv, BE.all, Bool.and_self, Bool.not_true, Bool.not_false, List.map_cons, List.map_nil, p1, lenM, ltB_nat, hd, if_pos q1, if_pos q4, if_pos q5, lx, ma, row_eq, c1, get_0, MO.list, Nat.mul_one, Nat.zero_add, dva, Nat.le_add_left]; done)
      | (unfold revealed_Check_t0_b1; simp -implicitDefEqProofs only [↓reduceIte, evb_ret, evb_ite, evb_need, evb_load, evb_app, evb_cut, evb_call, evb_callv, evb_newM, evb_mkM, evb_storeM, evb_appM, evb_mkMap, evb_mapGet, evb_mapSet, evb_mapClr, evb_jump, BE.safe, BE.pe, IE.pe, PEnv.at, List.getD_cons_zero, List.getD_cons_succ, List.getElem?_cons_zero, List.getElem?_cons_succ, locOf, locOn, readLoc, takeN, Nat.add_zero, List.drop_zero, List.length_cons, List.length_nil, Nat.reduceAdd, Nat.le_refl, if_true, if_false, Bool.false_eq_true, List.take_succ_cons, List.take_zero, bindK, bindRes, bind1, Option.map_some, Option.bind_some, PEnv.push, List.cons_append, List.nil_append, List.append_nil, SV.pvs, SV.pv, BE.all, Bool.and_self, Bool.not_true, Bool.not_false, List.map_cons, List.map_nil, p1, lenM, ltB_nat, hd, if_pos q1, if_pos q4, if_pos q5, lx, ma, row_eq, c1, get_0, MO.list, Nat.mul_one, Nat.zero_add, dva, Nat.le_add_left])
      | (unfold revealed_Check_t0_b2; simp -implicitDefEqProofs only [↓reduceIte, evb_ret, evb_ite, evb_need, evb_load, evb_app, evb_cut, evb_call, evb_callv, evb_newM, evb_mkM, evb_storeM, evb_appM, evb_mkMap, evb_mapGet, evb_mapSet, evb_mapClr, evb_jump, BE.safe, BE.pe, IE.pe, PEnv.at, List.getD_cons_zero, List.getD_cons_succ, List.getElem?_cons_zero, List.getElem?_cons_succ, locOf, locOn, readLoc, takeN, Nat.add_zero, List.drop_zero, List.length_cons, List.length_nil, Nat.reduceAdd, Nat.le_refl, if_true, if_false, Bool.false_eq_true, List.take_succ_cons, List.take_zero, bindK, bindRes, bind1, Option.map_some, Option.bind_some, PEnv.push, List.cons_append, List.nil_append, List.append_nil, SV.pvs, SV.pv, BE.all, Bool.and_self, Bool.not_true, Bool.not_false, List.map_cons, List.map_nil, p1, lenM, ltB_nat, hd, if_pos q1, if_pos q4, if_pos q5, lx, ma, row_eq, c1, get_0, MO.list, Nat.mul_one, Nat.zero_add, dva, Nat.le_add_left]; done)
      | (unfold revealed_Check_t0_b2; simp -implicitDefEqProofs only [↓reduceIte, evb_ret, evb_ite, evb_need, evb_load, evb_app, evb_cut, evb_call, evb_callv, evb_newM, evb_mkM, evb_storeM, evb_appM, evb_mkMap, evb_mapGet, evb_mapSet, evb_mapClr, evb_jump, BE.safe, BE.pe, IE.pe, PEnv.at, List.getD_cons_zero, List.getD_cons_succ, List.getElem?_cons_zero, List.getElem?_cons_succ, locOf, locOn, readLoc, takeN, Nat.add_zero, List.drop_zero, List.length_cons, List.length_nil, Nat.reduceAdd, Nat.le_refl, if_true, if_false, Bool.false_eq_true, List.take_succ_cons, List.take_zero, bindK, bindRes, bind1, Option.map_some, Option.bind_some, PEnv.push, List.cons_append, List.nil_append, List.append_nil, SV.pvs, SV.pv, BE.all, Bool.and_self, Bool.not_true, Bool.not_false, List.map_cons, List.map_nil, p1, lenM, ltB_nat, hd, if_pos q1, if_pos q4, if_pos q5, lx, ma, row_eq, c1, get_0, MO.list, Nat.mul_one, Nat.zero_add, dva, Nat.le_add_left]))
  rw [e2, Sys.loop, show revealed_Check_S.loops[0]? = some revealed_Check_t0 from rfl, Option.bind_some, hev, Option.bind_some]
include hP hl hvs hb in
theorem chk1 (r0 : Int) (i fuel : Nat) (hi : i < l.length) : revealed_Check_S.loop (evalF Tab n) (fuel + 1) 1 (cst1 σ P l.length vs fs [rs1 l vs r0 i, (l.length : Int), (i : Int)]) = revealed_Check_S.loop (evalF Tab n) fuel 1 (cst1 σ P l.length vs fs [rs1 l vs r0 (i + 1), (l.length : Int), ((i + 1 : Nat) : Int)]) := by
  obtain ⟨p1, p2, p3⟩ := rows_len hP
  rw [List.length_map] at p1
  have ex := chN hi
  have lx := rows_get (off := 0) hP (rows_chs ex)
  have dva := icell_drop (at'_get (l := vs) (i := i) (by omega))
  have ma := locEl_msl (h := σ.length) (o := 0) (cap := l.length) (sz := 1) (off := 0) hi
  have hbi := hb i hi
  have e2 : ((i + 1 : Nat) : Int) = (i : Int) + 1 := by omega
  have hd : decide (i < l.length) = true := decide_eq_true hi
  have q1 : (leB 0 (i : Int) && true) = true := by simp [leB]
  have q4 : (leB (-9223372036854775808) ((i : Int) + 1) && leB ((i : Int) + 1) 9223372036854775807) = true := by simp [leB]; omega
  have q5 : (leB (-9223372036854775808) (0 - at' vs i) && leB (0 - at' vs i) 9223372036854775807) = true := by simp [leB]; omega
  simp only [rs1]
  generalize rs1 l vs r0 i = r at *
  generalize chAt l (i : Int) = x at *
  have hz : (eqB x.w.a 0 && (eqB x.w.b 0 && (eqB x.w.c 0 && (eqB x.w.d 0 && (eqB x.w.e 0 && eqB x.w.f 0))))) = x.w.isZ := rfl
  rw [e2, Sys.loop, show revealed_Check_S.loops[1]? = some revealed_Check_t1 from rfl, Option.bind_some]
  cases hzz : x.w.isZ with
  | true => simp -implicitDefEqProofs only [revealed_Check_t1, ↓reduceIte, evb_ret, evb_ite, evb_need, evb_load, evb_app, evb_cut, evb_call, evb_callv, evb_newM, evb_mkM, evb_storeM, evb_appM, evb_mkMap, evb_mapGet, evb_mapSet, evb_mapClr, evb_jump, BE.safe, BE.pe, IE.pe, PEnv.at, List.getD_cons_zero, List.getD_cons_succ, List.getElem?_cons_zero, List.getElem?_cons_succ, locOf, locOn, readLoc, takeN, Nat.add_zero, List.drop_zero, List.length_cons, List.length_nil, Nat.reduceAdd, Nat.le_refl, if_true, if_false, Bool.false_eq_true, List.take_succ_cons, List.take_zero, bindK, bindRes, bind1, Option.map_some, Option.bind_some, PEnv.push, List.cons_append, List.nil_append, List.append_nil, SV.pvs, SV.pv, BE.all, Bool.and_self, Bool.not_true, Bool.not_false, List.map_cons, List.map_nil, cst1, p1, lenM, ltB_nat, hd, if_pos q1, if_pos q4, if_pos q5, lx, ma, row_eq, hz, hzz, get_0, MO.list, Nat.mul_one, Nat.zero_add, dva, Nat.le_add_left]
  | false => simp -implicitDefEqProofs only [revealed_Check_t1, ↓reduceIte, evb_ret, evb_ite, evb_need, evb_load, evb_app, evb_cut, evb_call, evb_callv, evb_newM, evb_mkM, evb_storeM, evb_appM, evb_mkMap, evb_mapGet, evb_mapSet, evb_mapClr, evb_jump, BE.safe, BE.pe, IE.pe, PEnv.at, List.getD_cons_zero, List.getD_cons_succ, List.getElem?_cons_zero, List.getElem?_cons_succ, locOf, locOn, readLoc, takeN, Nat.add_zero, List.drop_zero, List.length_cons, List.length_nil, Nat.reduceAdd, Nat.le_refl, if_true, if_false, Bool.false_eq_true, List.take_succ_cons, List.take_zero, bindK, bindRes, bind1, Option.map_some, Option.bind_some, PEnv.push, List.cons_append, List.nil_append, List.append_nil, SV.pvs, SV.pv, BE.all, Bool.and_self, Bool.not_true, Bool.not_false, List.map_cons, List.map_nil, cst1, p1, lenM, ltB_nat, hd, if_pos q1, if_pos q4, if_pos q5, lx, ma, row_eq, hz, hzz, get_0, MO.list, Nat.mul_one, Nat.zero_add, dva, Nat.le_add_left]
end
end Go.Proofs.Ythjahianafohjaa
