/- The examples of the chapter on relative caps. -/
import Derived.Test.YtggjcdnailppoaaHSac
import Derived.Test.YtggjcdnailppoaaHTxd
import Derived.Test.YtggjcdnailppoaaHRvb
import Derived.Test.YtggjcdnailppoaaHGx
set_option linter.unusedSimpArgs false
set_option linter.unusedVariables false
set_option maxRecDepth 100000
namespace Go.Proofs.Ytggjcdnailppoaa
open Go.Sx
theorem lives40 : evalF Tab 40000 n_saleroomlaw40_lives [] [] = some (.bool true, []) := by kernel_rfl
end Go.Proofs.Ytggjcdnailppoaa
set_option maxRecDepth 100000
namespace Go.Proofs.Ytggjcdnailppoaa
open Go.Sx
/-- An offer. -/
structure Of where
  (n : Int) (w : W6) (v : Int)
def Of.row (o : Of) : List PV := .int .i64 o.n :: (o.w.pv ++ [.int .i64 o.v])
theorem of_row (o : Of) : o.row = [.int .i64 o.n, .int .i64 o.w.a, .int .i64 o.w.b, .int .i64 o.w.c, .int .i64 o.w.d, .int .i64 o.w.e, .int .i64 o.w.f, .int .i64 o.v] := rfl
def Of.right (o : Of) : Bool := decide o.w.ok && (!o.w.isZ && (leB 1 o.v && leB o.v 1000000))
theorem shaped_Of {n : Nat} {ps : List PV} (h : Shaped Try.prog n 33 ps) : ∃ x : Of, ps = x.row := by
  obtain ⟨m, _, h⟩ := shaped_struct Try.underlying33 h
  simp only [List.map_cons, List.map_nil, Shapeds] at h
  obtain ⟨_, _, rfl, h1, _, _, rfl, h2, _, _, rfl, h3, rfl⟩ := h
  obtain ⟨a, rfl, _⟩ := shaped_int (k := .i64) (by kernel_rfl) h1
  obtain ⟨w, rfl⟩ := shaped_w6 Try.underlying29 (by kernel_rfl) h2
  obtain ⟨v, rfl, _⟩ := shaped_int (k := .i64) (by kernel_rfl) h3
  exact ⟨⟨a, w, v⟩, by simp [Of.row]⟩
theorem shaped_Ofs {n : Nat} : ∀ (rows : List (List PV)), (∀ r ∈ rows, Shaped Try.prog n 33 r) → ∃ l : List Of, rows = l.map Of.row
  | [], _ => ⟨[], rfl⟩
  | r :: rows, h => by
    obtain ⟨x, rfl⟩ := shaped_Of (h r (by simp))
    obtain ⟨l, rfl⟩ := shaped_Ofs rows (fun q hq => h q (by simp [hq]))
    exact ⟨x :: l, rfl⟩
theorem rows_ofs {l : List Of} {i : Nat} {x : Of} (h : l[i]? = some x) : (l.map Of.row)[i]? = some x.row := by simp [h]
theorem bchk_eq (w : W6) : eqB (bchk w) 0 = decide w.ok := by
  unfold bchk
  by_cases h : w.ok
  · rw [if_pos h, decide_eq_true h]; rfl
  · rw [if_neg h, decide_eq_false h]; rfl
theorem relcap_valid_sem (σ : List MO) (o : Of) (n : Nat) (hn : 2 ≤ n) : evalF Tab n n_relcap_valid [.agg o.row] σ = some (.bool o.right, σ) := by
  obtain ⟨n, rfl⟩ : ∃ k, n = k + 1 := ⟨n - 1, by omega⟩
  have c1 := bundle_Check_sem σ o.w n (by omega)
  have hb := bchk_eq o.w
  obtain ⟨b, ⟨a', b', c', d', e', f'⟩, v⟩ := o
  generalize hy : bchk ⟨a', b', c', d', e', f'⟩ = y at *
  simp only [n_bundle_Check, W6.pv] at c1
  simp only [evalF, tab_relcap_valid, Option.bind_some, Sys.run, of_row]
  show ((bindPs [.sh (.agg [_, _, _, _, _, _, _, _])] _).bind _) = _
  simp only [bindPs, bind1, bindK, Option.map_some, Option.bind_some, List.append_nil, List.nil_append, List.cons_append, if_true]
  show (PT.ev _ relcap_valid_s _).bind _ = _
  have hz : (eqB a' 0 && (eqB b' 0 && (eqB c' 0 && (eqB d' 0 && (eqB e' 0 && eqB f' 0))))) = (⟨a', b', c', d', e', f'⟩ : W6).isZ := rfl
  simp -implicitDefEqProofs only [relcap_valid_s, ↓reduceIte, eq_self, evb_ret, evb_ite, evb_need, evb_load, evb_app, evb_cut, evb_chk, evb_appF, evb_call, evb_callv, evb_newM, evb_mkM, evb_storeM, evb_appM, evb_mkMap, evb_mapGet, evb_mapSet, evb_mapClr, evb_jump, BE.safe, BE.pe, IE.pe, PEnv.at, List.getD_cons_zero, List.getD_cons_succ, List.getElem?_cons_zero, List.getElem?_cons_succ, locOf, locOn, readLoc, takeN, Nat.add_zero, List.drop_zero, List.length_cons, List.length_nil, Nat.reduceAdd, Nat.le_refl, if_true, if_false, Bool.false_eq_true, List.take_succ_cons, List.take_zero, bindK, bindRes, bind1, Option.map_some, Option.bind_some, PEnv.push, List.cons_append, List.nil_append, List.append_nil, SV.pvs, SV.pv, BE.all, Bool.and_self, Bool.not_true, Bool.not_false, List.map_cons, List.map_nil, retP, or_true, c1, hb, hz, Of.right]
  cases decide (⟨a', b', c', d', e', f'⟩ : W6).ok <;> cases (⟨a', b', c', d', e', f'⟩ : W6).isZ <;> cases leB 1 v <;> simp -implicitDefEqProofs only [↓reduceIte, eq_self, evb_ret, evb_ite, evb_need, evb_load, evb_app, evb_cut, evb_chk, evb_appF, evb_call, evb_callv, evb_newM, evb_mkM, evb_storeM, evb_appM, evb_mkMap, evb_mapGet, evb_mapSet, evb_mapClr, evb_jump, BE.safe, BE.pe, IE.pe, PEnv.at, List.getD_cons_zero, List.getD_cons_succ, List.getElem?_cons_zero, List.getElem?_cons_succ, locOf, locOn, readLoc, takeN, Nat.add_zero, List.drop_zero, List.length_cons, List.length_nil, Nat.reduceAdd, Nat.le_refl, if_true, if_false, Bool.false_eq_true, List.take_succ_cons, List.take_zero, bindK, bindRes, bind1, Option.map_some, Option.bind_some, PEnv.push, List.cons_append, List.nil_append, List.append_nil, SV.pvs, SV.pv, BE.all, Bool.and_self, Bool.not_true, Bool.not_false, List.map_cons, List.map_nil, retP, or_true, Bool.true_and, Bool.false_and, Bool.not_true, Bool.not_false]
theorem saleroomref40_Right_sem (σ : List MO) (o : Of) (n : Nat) (hn : 2 ≤ n) : evalF Tab n n_saleroomref40_Right [.agg o.row] σ = some (.bool o.right, σ) := by
  obtain ⟨n, rfl⟩ : ∃ k, n = k + 1 := ⟨n - 1, by omega⟩
  have c1 := saleroomref07_Check_sem σ o.w n (by omega)
  have hb := bchk_eq o.w
  obtain ⟨b, ⟨a', b', c', d', e', f'⟩, v⟩ := o
  generalize hy : bchk ⟨a', b', c', d', e', f'⟩ = y at *
  simp only [n_saleroomref07_Check, W6.pv] at c1
  simp only [evalF, tab_saleroomref40_Right, Option.bind_some, Sys.run, of_row]
  show ((bindPs [.sh (.agg [_, _, _, _, _, _, _, _])] _).bind _) = _
  simp only [bindPs, bind1, bindK, Option.map_some, Option.bind_some, List.append_nil, List.nil_append, List.cons_append, if_true]
  show (PT.ev _ saleroomref40_Right_s _).bind _ = _
  have hz : (eqB a' 0 && (eqB b' 0 && (eqB c' 0 && (eqB d' 0 && (eqB e' 0 && eqB f' 0))))) = (⟨a', b', c', d', e', f'⟩ : W6).isZ := rfl
  simp -implicitDefEqProofs only [saleroomref40_Right_s, ↓reduceIte, eq_self, evb_ret, evb_ite, evb_need, evb_load, evb_app, evb_cut, evb_chk, evb_appF, evb_call, evb_callv, evb_newM, evb_mkM, evb_storeM, evb_appM, evb_mkMap, evb_mapGet, evb_mapSet, evb_mapClr, evb_jump, BE.safe, BE.pe, IE.pe, PEnv.at, List.getD_cons_zero, List.getD_cons_succ, List.getElem?_cons_zero, List.getElem?_cons_succ, locOf, locOn, readLoc, takeN, Nat.add_zero, List.drop_zero, List.length_cons, List.length_nil, Nat.reduceAdd, Nat.le_refl, if_true, if_false, Bool.false_eq_true, List.take_succ_cons, List.take_zero, bindK, bindRes, bind1, Option.map_some, Option.bind_some, PEnv.push, List.cons_append, List.nil_append, List.append_nil, SV.pvs, SV.pv, BE.all, Bool.and_self, Bool.not_true, Bool.not_false, List.map_cons, List.map_nil, retP, or_true, c1, hb, hz, Of.right]
  cases decide (⟨a', b', c', d', e', f'⟩ : W6).ok <;> cases (⟨a', b', c', d', e', f'⟩ : W6).isZ <;> cases leB 1 v <;> simp -implicitDefEqProofs only [↓reduceIte, eq_self, evb_ret, evb_ite, evb_need, evb_load, evb_app, evb_cut, evb_chk, evb_appF, evb_call, evb_callv, evb_newM, evb_mkM, evb_storeM, evb_appM, evb_mkMap, evb_mapGet, evb_mapSet, evb_mapClr, evb_jump, BE.safe, BE.pe, IE.pe, PEnv.at, List.getD_cons_zero, List.getD_cons_succ, List.getElem?_cons_zero, List.getElem?_cons_succ, locOf, locOn, readLoc, takeN, Nat.add_zero, List.drop_zero, List.length_cons, List.length_nil, Nat.reduceAdd, Nat.le_refl, if_true, if_false, Bool.false_eq_true, List.take_succ_cons, List.take_zero, bindK, bindRes, bind1, Option.map_some, Option.bind_some, PEnv.push, List.cons_append, List.nil_append, List.append_nil, SV.pvs, SV.pv, BE.all, Bool.and_self, Bool.not_true, Bool.not_false, List.map_cons, List.map_nil, retP, or_true, Bool.true_and, Bool.false_and, Bool.not_true, Bool.not_false]
theorem verd_one (x : Ch) : eqB (verd [x] [] []) 4 = !decide x.ok := by
  unfold verd
  by_cases h : x.ok
  · rw [decide_eq_true h]
    simp only [List.all_cons, List.all_nil, decide_eq_true h, Bool.and_true, if_true]
    split
    · split
      · split <;> rfl
      · split <;> rfl
    · rfl
  · rw [decide_eq_false h]
    simp only [List.all_cons, List.all_nil, decide_eq_false h, Bool.false_and]
    rfl
theorem sound_sem (σ : List MO) (l : List Ch) (P : PV) (hP : P.rowsOf 12 = some (l.map Ch.row)) (n : Nat) (hn : l.length + 500 ≤ n) (hl : l.length ≤ 1000000) :
    evalF Tab n n_relcap_sound [P] σ = some (.bool (l.all fun x => decide x.ok), σ) := by
  obtain ⟨n, rfl⟩ : ∃ k, n = k + 1 := ⟨n - 1, by omega⟩
  obtain ⟨p1, p2, p3⟩ := rows_len hP
  rw [List.length_map] at p1
  have loop : ∀ (fuel i : Nat), l.length - i < fuel → i ≤ l.length → relcap_sound_S.loop (evalF Tab n) fuel 0 { i := [(l.length : Int), (i : Int)], b := [], v := [P], m := σ, k := σ.length } = some (.bool ((l.drop i).all fun x => decide x.ok), σ) := by
    intro fuel
    induction fuel with
    | zero => intro i h; omega
    | succ fuel ihf =>
      intro i h1 h2
      rw [Sys.loop, show relcap_sound_S.loops[0]? = some relcap_sound_t0 from rfl]
      simp -implicitDefEqProofs only [Option.bind_some, relcap_sound_t0, ↓reduceIte, eq_self, evb_ret, evb_ite, evb_need, evb_load, evb_app, evb_cut, evb_chk, evb_appF, evb_call, evb_callv, evb_newM, evb_mkM, evb_storeM, evb_appM, evb_mkMap, evb_mapGet, evb_mapSet, evb_mapClr, evb_jump, BE.safe, BE.pe, IE.pe, PEnv.at, List.getD_cons_zero, List.getD_cons_succ, List.getElem?_cons_zero, List.getElem?_cons_succ, locOf, locOn, readLoc, takeN, Nat.add_zero, List.drop_zero, List.length_cons, List.length_nil, Nat.reduceAdd, Nat.le_refl, if_true, if_false, Bool.false_eq_true, List.take_succ_cons, List.take_zero, bindK, bindRes, bind1, Option.map_some, Option.bind_some, PEnv.push, List.cons_append, List.nil_append, List.append_nil, SV.pvs, SV.pv, BE.all, Bool.and_self, Bool.not_true, Bool.not_false, List.map_cons, List.map_nil, ltB_nat, decide_eq_true_eq]
      by_cases hlt : i < l.length
      · obtain ⟨x, hx⟩ : ∃ x, l[i]? = some x := ⟨_, List.getElem?_eq_getElem hlt⟩
        rw [if_pos hlt, drop_cons hx, List.all_cons]
        have hloc := rows_get (off := 0) hP (rows_chs hx)
        have c1 := verify_sem σ [x] (.sl 12 [x.row]) rfl [] [] .nilS .nilS rfl rfl (by simp) n (by simp; omega) (by simp) (by simp)
        have hv := verd_one x
        have := ihf (i + 1) (by omega) (by omega)
        rw [show ((i + 1 : Nat) : Int) = (i : Int) + 1 from by omega] at this
        have q1 : (leB 0 (i : Int) && decide (i < l.length)) = true := by simp [leB, hlt]
        have q2 : (leB (-9223372036854775808) ((i : Int) + 1) && leB ((i : Int) + 1) 9223372036854775807) = true := by simp [leB]; omega
        generalize decide x.ok = q at *
        generalize verd [x] [] [] = y at *
        simp only [n_revealed_Verify, row_eq] at c1
        have l1 : (0 + 1 : Nat) ≤ 1000000 := by decide
        simp -implicitDefEqProofs only [p1, ltB_nat, ↓reduceIte, eq_self, evb_ret, evb_ite, evb_need, evb_load, evb_app, evb_cut, evb_chk, evb_appF, evb_call, evb_callv, evb_newM, evb_mkM, evb_storeM, evb_appM, evb_mkMap, evb_mapGet, evb_mapSet, evb_mapClr, evb_jump, BE.safe, BE.pe, IE.pe, PEnv.at, List.getD_cons_zero, List.getD_cons_succ, List.getElem?_cons_zero, List.getElem?_cons_succ, locOf, locOn, readLoc, takeN, Nat.add_zero, List.drop_zero, List.length_cons, List.length_nil, Nat.reduceAdd, Nat.le_refl, if_true, if_false, Bool.false_eq_true, List.take_succ_cons, List.take_zero, bindK, bindRes, bind1, Option.map_some, Option.bind_some, PEnv.push, List.cons_append, List.nil_append, List.append_nil, SV.pvs, SV.pv, BE.all, Bool.and_self, Bool.not_true, Bool.not_false, List.map_cons, List.map_nil, srcRows, List.mapM_cons, List.mapM_nil, List.reverse_cons, List.reverse_nil, Option.bind_eq_bind, Option.pure_def, if_pos l1, if_pos q1, hloc, row_eq, c1]
        cases q with
        | false => simp -implicitDefEqProofs only [↓reduceIte, eq_self, evb_ret, evb_ite, evb_need, evb_load, evb_app, evb_cut, evb_chk, evb_appF, evb_call, evb_callv, evb_newM, evb_mkM, evb_storeM, evb_appM, evb_mkMap, evb_mapGet, evb_mapSet, evb_mapClr, evb_jump, BE.safe, BE.pe, IE.pe, PEnv.at, List.getD_cons_zero, List.getD_cons_succ, List.getElem?_cons_zero, List.getElem?_cons_succ, locOf, locOn, readLoc, takeN, Nat.add_zero, List.drop_zero, List.length_cons, List.length_nil, Nat.reduceAdd, Nat.le_refl, if_true, if_false, Bool.false_eq_true, List.take_succ_cons, List.take_zero, bindK, bindRes, bind1, Option.map_some, Option.bind_some, PEnv.push, List.cons_append, List.nil_append, List.append_nil, SV.pvs, SV.pv, BE.all, Bool.and_self, Bool.not_true, Bool.not_false, List.map_cons, List.map_nil, retP, or_true, Bool.false_and, Bool.not_false, hv]
        | true =>
          simp -implicitDefEqProofs only [↓reduceIte, eq_self, evb_ret, evb_ite, evb_need, evb_load, evb_app, evb_cut, evb_chk, evb_appF, evb_call, evb_callv, evb_newM, evb_mkM, evb_storeM, evb_appM, evb_mkMap, evb_mapGet, evb_mapSet, evb_mapClr, evb_jump, BE.safe, BE.pe, IE.pe, PEnv.at, List.getD_cons_zero, List.getD_cons_succ, List.getElem?_cons_zero, List.getElem?_cons_succ, locOf, locOn, readLoc, takeN, Nat.add_zero, List.drop_zero, List.length_cons, List.length_nil, Nat.reduceAdd, Nat.le_refl, if_true, if_false, Bool.false_eq_true, List.take_succ_cons, List.take_zero, bindK, bindRes, bind1, Option.map_some, Option.bind_some, PEnv.push, List.cons_append, List.nil_append, List.append_nil, SV.pvs, SV.pv, BE.all, Bool.and_self, Bool.not_true, Bool.not_false, List.map_cons, List.map_nil, if_pos q2, Bool.true_and, Bool.not_true, hv]
          exact this
      · rw [if_neg hlt, show i = l.length by omega, List.drop_length]
        simp -implicitDefEqProofs only [↓reduceIte, eq_self, evb_ret, evb_ite, evb_need, evb_load, evb_app, evb_cut, evb_chk, evb_appF, evb_call, evb_callv, evb_newM, evb_mkM, evb_storeM, evb_appM, evb_mkMap, evb_mapGet, evb_mapSet, evb_mapClr, evb_jump, BE.safe, BE.pe, IE.pe, PEnv.at, List.getD_cons_zero, List.getD_cons_succ, List.getElem?_cons_zero, List.getElem?_cons_succ, locOf, locOn, readLoc, takeN, Nat.add_zero, List.drop_zero, List.length_cons, List.length_nil, Nat.reduceAdd, Nat.le_refl, if_true, if_false, Bool.false_eq_true, List.take_succ_cons, List.take_zero, bindK, bindRes, bind1, Option.map_some, Option.bind_some, PEnv.push, List.cons_append, List.nil_append, List.append_nil, SV.pvs, SV.pv, BE.all, Bool.and_self, Bool.not_true, Bool.not_false, List.map_cons, List.map_nil, retP, or_true, List.all_nil]
  have h0 := loop n 0 (by omega) (Nat.zero_le _)
  simp only [evalF, tab_relcap_sound, Option.bind_some, Sys.run]
  show ((bindPs [.sh (.one _)] _).bind _) = _
  simp -implicitDefEqProofs only [bindPs, bind1, bindK, Option.map_some, Option.bind_some, List.append_nil, List.nil_append, List.cons_append, if_true, p3]
  show (PT.ev _ relcap_sound_s _).bind _ = _
  simp -implicitDefEqProofs only [relcap_sound_s, ↓reduceIte, eq_self, evb_ret, evb_ite, evb_need, evb_load, evb_app, evb_cut, evb_chk, evb_appF, evb_call, evb_callv, evb_newM, evb_mkM, evb_storeM, evb_appM, evb_mkMap, evb_mapGet, evb_mapSet, evb_mapClr, evb_jump, BE.safe, BE.pe, IE.pe, PEnv.at, List.getD_cons_zero, List.getD_cons_succ, List.getElem?_cons_zero, List.getElem?_cons_succ, locOf, locOn, readLoc, takeN, Nat.add_zero, List.drop_zero, List.length_cons, List.length_nil, Nat.reduceAdd, Nat.le_refl, if_true, if_false, Bool.false_eq_true, List.take_succ_cons, List.take_zero, bindK, bindRes, bind1, Option.map_some, Option.bind_some, PEnv.push, List.cons_append, List.nil_append, List.append_nil, SV.pvs, SV.pv, BE.all, Bool.and_self, Bool.not_true, Bool.not_false, List.map_cons, List.map_nil, p1, p2]
  simpa using h0
end Go.Proofs.Ytggjcdnailppoaa
set_option maxRecDepth 100000
namespace Go.Proofs.Ytggjcdnailppoaa
open Go.Sx
def finC (l : List Ch) (b : W6) (a : Int) : Int := l.foldl (fun m c => if c.w.beq b = true then mxI m (costW c.p b) else m) a
def finB (bids : List Of) (b : W6) (a : Int) : Int := bids.foldl (fun m o => if o.w.beq b = true then mxI m o.v else m) a
def fin (l : List Ch) (bids : List Of) (b : W6) : Int := finB bids b (finC l b 0)
def mostP (l : List Ch) (f : W6 → Int) (b : W6) : Int := l.foldl (fun v c => if c.w.beq b = true then v else mnI v (f c.w + costW c.p b - costW c.p c.w)) 1000000
theorem finC_take (b : W6) {l : List Ch} {i : Nat} {x : Ch} (h : l[i]? = some x) (a : Int) : finC (l.take (i + 1)) b a = if x.w.beq b = true then mxI (finC (l.take i) b a) (costW x.p b) else finC (l.take i) b a := foldl_take _ _ h
theorem finB_take (b : W6) {l : List Of} {i : Nat} {x : Of} (h : l[i]? = some x) (a : Int) : finB (l.take (i + 1)) b a = if x.w.beq b = true then mxI (finB (l.take i) b a) x.v else finB (l.take i) b a := foldl_take _ _ h
theorem mostP_take (f : W6 → Int) (b : W6) {l : List Ch} {i : Nat} {x : Ch} (h : l[i]? = some x) : mostP (l.take (i + 1)) f b = if x.w.beq b = true then mostP (l.take i) f b else mnI (mostP (l.take i) f b) (f x.w + costW x.p b - costW x.p x.w) := foldl_take _ _ h
theorem finals_sem (σ : List MO) (P B : PV) (h1 : P.one = true) (h2 : B.one = true) (h3 : P.low σ.length = true) (h4 : B.low σ.length = true) (n : Nat) (hn : 1 ≤ n) (hσ : σ.all (MO.low σ.length) = true) : evalF Tab n n_relcap_finals [P, B] σ = some (.fn n_relcap_finals_1 [.cell [P] 0, .cell [B] 0], σ) := by
  obtain ⟨n, rfl⟩ : ∃ k, n = k + 1 := ⟨n - 1, by omega⟩
  simp only [evalF, tab_relcap_finals, Option.bind_some, Sys.run]
  show ((bindPs [.sh (.one _), .sh (.one _)] _).bind _) = _
  simp -implicitDefEqProofs only [bindPs, bind1, bindK, Option.map_some, Option.bind_some, List.append_nil, List.nil_append, List.cons_append, if_true, h1, h2]
  show (PT.ev _ relcap_finals_s _).bind _ = _
  simp -implicitDefEqProofs only [relcap_finals_s, ↓reduceIte, eq_self, evb_ret, evb_ite, evb_need, evb_load, evb_app, evb_cut, evb_chk, evb_appF, evb_call, evb_callv, evb_newM, evb_mkM, evb_storeM, evb_appM, evb_mkMap, evb_mapGet, evb_mapSet, evb_mapClr, evb_jump, BE.safe, BE.pe, IE.pe, PEnv.at, List.getD_cons_zero, List.getD_cons_succ, List.getElem?_cons_zero, List.getElem?_cons_succ, locOf, locOn, readLoc, takeN, Nat.add_zero, List.drop_zero, List.length_cons, List.length_nil, Nat.reduceAdd, Nat.le_refl, if_true, if_false, Bool.false_eq_true, List.take_succ_cons, List.take_zero, bindK, bindRes, bind1, Option.map_some, Option.bind_some, PEnv.push, List.cons_append, List.nil_append, List.append_nil, SV.pvs, SV.pv, BE.all, Bool.and_self, Bool.not_true, Bool.not_false, List.map_cons, List.map_nil, PV.on, len_1, app_1, Nat.add_zero]
  have e1 : ¬ (false = true ∨ (σ ++ [MO.cells [P] 22, MO.cells [B] 25]).length = σ.length) := by simp
  have e2 : ¬ (σ.length < σ.length) := by omega
  have e3 : ¬ (σ.length + 1 < σ.length) := by omega
  simp -implicitDefEqProofs only [retP, if_neg e1, List.take_left', hσ, PV.frz, PV.frzs, if_neg e2, if_neg e3, lookF, get_0, get_1, MO.list, PV.frz_low _ h3, PV.frz_low _ h4, ↓reduceIte, eq_self, PT.ev, BE.safe, BE.pe, IE.pe, PEnv.at, List.getD_cons_zero, List.getD_cons_succ, List.getElem?_cons_zero, List.getElem?_cons_succ, locOf, locOn, readLoc, takeN, Nat.add_zero, List.drop_zero, List.length_cons, List.length_nil, Nat.reduceAdd, Nat.le_refl, if_true, if_false, Bool.false_eq_true, List.take_succ_cons, List.take_zero, bindK, bindRes, bind1, Option.map_some, Option.bind_some, PEnv.push, List.cons_append, List.nil_append, List.append_nil, SV.pvs, SV.pv, BE.all, Bool.and_self, Bool.not_true, Bool.not_false, List.map_cons, List.map_nil, List.take_append]
  simp [hσ]
theorem fin1_sem (σ : List MO) (l : List Ch) (P : PV) (hP : P.rowsOf 12 = some (l.map Ch.row)) (bids : List Of) (B : PV) (hB : B.rowsOf 8 = some (bids.map Of.row)) (hl : l.length ≤ 1000) (hb : bids.length ≤ 1000) (hok : ∀ x ∈ l, x.ok) (b : W6) (n : Nat) (hn : 2200 ≤ n) :
    evalF Tab n n_relcap_finals_1 [.agg b.pv, .cell [P] 0, .cell [B] 0] σ = some (.int .i64 (fin l bids b), σ) := by
  obtain ⟨n, rfl⟩ : ∃ k, n = k + 1 := ⟨n - 1, by omega⟩
  obtain ⟨p1, p2, p3⟩ := rows_len hP
  obtain ⟨b1, b2, b3⟩ := rows_len hB
  rw [List.length_map] at p1 b1
  have s0 : ∀ i, i < l.length → ∀ fuel, relcap_finals_1_S.loop (evalF Tab n) (fuel + 1) 0 { i := [finC (l.take i) b 0, (l.length : Int), (i : Int), b.a, b.b, b.c, b.d, b.e, b.f], b := [], v := [.cell [B] 0, P], m := σ, k := σ.length } =
      relcap_finals_1_S.loop (evalF Tab n) fuel 0 { i := [finC (l.take (i + 1)) b 0, (l.length : Int), ((i + 1 : Nat) : Int), b.a, b.b, b.c, b.d, b.e, b.f], b := [], v := [.cell [B] 0, P], m := σ, k := σ.length } := by
    intro i hi fuel
    obtain ⟨x, hx⟩ := get_ex hi
    have hxo := hok x (List.mem_of_getElem? hx)
    have hloc := rows_get (off := 0) hP (rows_chs hx)
    rw [finC_take b hx, nat_succ, Sys.loop, show relcap_finals_1_S.loops[0]? = some relcap_finals_1_t0 from rfl]
    have hd : decide (i < l.length) = true := decide_eq_true hi
    have hz : (eqB x.w.a b.a && (eqB x.w.b b.b && (eqB x.w.c b.c && (eqB x.w.d b.d && (eqB x.w.e b.e && eqB x.w.f b.f))))) = x.w.beq b := rfl
    simp -implicitDefEqProofs only [Option.bind_some, relcap_finals_1_t0, ↓reduceIte, eq_self, evb_ret, evb_ite, evb_need, evb_load, evb_app, evb_cut, evb_chk, evb_appF, evb_call, evb_callv, evb_newM, evb_mkM, evb_storeM, evb_appM, evb_mkMap, evb_mapGet, evb_mapSet, evb_mapClr, evb_jump, BE.safe, BE.pe, IE.pe, PEnv.at, List.getD_cons_zero, List.getD_cons_succ, List.getElem?_cons_zero, List.getElem?_cons_succ, locOf, locOn, readLoc, takeN, Nat.add_zero, List.drop_zero, List.length_cons, List.length_nil, Nat.reduceAdd, Nat.le_refl, if_true, if_false, Bool.false_eq_true, List.take_succ_cons, List.take_zero, bindK, bindRes, bind1, Option.map_some, Option.bind_some, PEnv.push, List.cons_append, List.nil_append, List.append_nil, SV.pvs, SV.pv, BE.all, Bool.and_self, Bool.not_true, Bool.not_false, List.map_cons, List.map_nil, ltB_nat, hd, p1, le0, hloc, row_eq, hz]
    cases hbb : x.w.beq b with
    | false => simp -implicitDefEqProofs only [↓reduceIte, eq_self, evb_ret, evb_ite, evb_need, evb_load, evb_app, evb_cut, evb_chk, evb_appF, evb_call, evb_callv, evb_newM, evb_mkM, evb_storeM, evb_appM, evb_mkMap, evb_mapGet, evb_mapSet, evb_mapClr, evb_jump, BE.safe, BE.pe, IE.pe, PEnv.at, List.getD_cons_zero, List.getD_cons_succ, List.getElem?_cons_zero, List.getElem?_cons_succ, locOf, locOn, readLoc, takeN, Nat.add_zero, List.drop_zero, List.length_cons, List.length_nil, Nat.reduceAdd, Nat.le_refl, if_true, if_false, Bool.false_eq_true, List.take_succ_cons, List.take_zero, bindK, bindRes, bind1, Option.map_some, Option.bind_some, PEnv.push, List.cons_append, List.nil_append, List.append_nil, SV.pvs, SV.pv, BE.all, Bool.and_self, Bool.not_true, Bool.not_false, List.map_cons, List.map_nil, if_pos (up_ok (show i ≤ 1000000000 by omega))]
    | true =>
      have e := W6.beq_eq hbb
      have c1 := bundle_Cost_sem σ x.p b hxo.1 (e ▸ hxo.2) n (by omega)
      simp only [n_bundle_Cost, W6.pv] at c1
      simp -implicitDefEqProofs only [↓reduceIte, eq_self, evb_ret, evb_ite, evb_need, evb_load, evb_app, evb_cut, evb_chk, evb_appF, evb_call, evb_callv, evb_newM, evb_mkM, evb_storeM, evb_appM, evb_mkMap, evb_mapGet, evb_mapSet, evb_mapClr, evb_jump, BE.safe, BE.pe, IE.pe, PEnv.at, List.getD_cons_zero, List.getD_cons_succ, List.getElem?_cons_zero, List.getElem?_cons_succ, locOf, locOn, readLoc, takeN, Nat.add_zero, List.drop_zero, List.length_cons, List.length_nil, Nat.reduceAdd, Nat.le_refl, if_true, if_false, Bool.false_eq_true, List.take_succ_cons, List.take_zero, bindK, bindRes, bind1, Option.map_some, Option.bind_some, PEnv.push, List.cons_append, List.nil_append, List.append_nil, SV.pvs, SV.pv, BE.all, Bool.and_self, Bool.not_true, Bool.not_false, List.map_cons, List.map_nil, c1, if_pos (up_ok (show i ≤ 1000000000 by omega))]
  have s1 : ∀ a, ∀ i, i < bids.length → ∀ fuel, relcap_finals_1_S.loop (evalF Tab n) (fuel + 1) 1 { i := [finB (bids.take i) b a, (bids.length : Int), (i : Int), b.a, b.b, b.c, b.d, b.e, b.f], b := [], v := [B], m := σ, k := σ.length } =
      relcap_finals_1_S.loop (evalF Tab n) fuel 1 { i := [finB (bids.take (i + 1)) b a, (bids.length : Int), ((i + 1 : Nat) : Int), b.a, b.b, b.c, b.d, b.e, b.f], b := [], v := [B], m := σ, k := σ.length } := by
    intro a i hi fuel
    obtain ⟨x, hx⟩ := get_ex hi
    have hloc := rows_get (off := 0) hB (rows_ofs hx)
    rw [finB_take b hx, nat_succ, Sys.loop, show relcap_finals_1_S.loops[1]? = some relcap_finals_1_t1 from rfl]
    have hd : decide (i < bids.length) = true := decide_eq_true hi
    have hz : (eqB x.w.a b.a && (eqB x.w.b b.b && (eqB x.w.c b.c && (eqB x.w.d b.d && (eqB x.w.e b.e && eqB x.w.f b.f))))) = x.w.beq b := rfl
    simp -implicitDefEqProofs only [Option.bind_some, relcap_finals_1_t1, ↓reduceIte, eq_self, evb_ret, evb_ite, evb_need, evb_load, evb_app, evb_cut, evb_chk, evb_appF, evb_call, evb_callv, evb_newM, evb_mkM, evb_storeM, evb_appM, evb_mkMap, evb_mapGet, evb_mapSet, evb_mapClr, evb_jump, BE.safe, BE.pe, IE.pe, PEnv.at, List.getD_cons_zero, List.getD_cons_succ, List.getElem?_cons_zero, List.getElem?_cons_succ, locOf, locOn, readLoc, takeN, Nat.add_zero, List.drop_zero, List.length_cons, List.length_nil, Nat.reduceAdd, Nat.le_refl, if_true, if_false, Bool.false_eq_true, List.take_succ_cons, List.take_zero, bindK, bindRes, bind1, Option.map_some, Option.bind_some, PEnv.push, List.cons_append, List.nil_append, List.append_nil, SV.pvs, SV.pv, BE.all, Bool.and_self, Bool.not_true, Bool.not_false, List.map_cons, List.map_nil, ltB_nat, hd, b1, le0, hloc, of_row, hz]
    cases hbb : x.w.beq b with
    | false => simp -implicitDefEqProofs only [↓reduceIte, eq_self, evb_ret, evb_ite, evb_need, evb_load, evb_app, evb_cut, evb_chk, evb_appF, evb_call, evb_callv, evb_newM, evb_mkM, evb_storeM, evb_appM, evb_mkMap, evb_mapGet, evb_mapSet, evb_mapClr, evb_jump, BE.safe, BE.pe, IE.pe, PEnv.at, List.getD_cons_zero, List.getD_cons_succ, List.getElem?_cons_zero, List.getElem?_cons_succ, locOf, locOn, readLoc, takeN, Nat.add_zero, List.drop_zero, List.length_cons, List.length_nil, Nat.reduceAdd, Nat.le_refl, if_true, if_false, Bool.false_eq_true, List.take_succ_cons, List.take_zero, bindK, bindRes, bind1, Option.map_some, Option.bind_some, PEnv.push, List.cons_append, List.nil_append, List.append_nil, SV.pvs, SV.pv, BE.all, Bool.and_self, Bool.not_true, Bool.not_false, List.map_cons, List.map_nil, if_pos (up_ok (show i ≤ 1000000000 by omega))]
    | true => simp -implicitDefEqProofs only [↓reduceIte, eq_self, evb_ret, evb_ite, evb_need, evb_load, evb_app, evb_cut, evb_chk, evb_appF, evb_call, evb_callv, evb_newM, evb_mkM, evb_storeM, evb_appM, evb_mkMap, evb_mapGet, evb_mapSet, evb_mapClr, evb_jump, BE.safe, BE.pe, IE.pe, PEnv.at, List.getD_cons_zero, List.getD_cons_succ, List.getElem?_cons_zero, List.getElem?_cons_succ, locOf, locOn, readLoc, takeN, Nat.add_zero, List.drop_zero, List.length_cons, List.length_nil, Nat.reduceAdd, Nat.le_refl, if_true, if_false, Bool.false_eq_true, List.take_succ_cons, List.take_zero, bindK, bindRes, bind1, Option.map_some, Option.bind_some, PEnv.push, List.cons_append, List.nil_append, List.append_nil, SV.pvs, SV.pv, BE.all, Bool.and_self, Bool.not_true, Bool.not_false, List.map_cons, List.map_nil, if_pos (up_ok (show i ≤ 1000000000 by omega))]
  have hd0 : decide (l.length < l.length) = false := by simp
  have hd1 : decide (bids.length < bids.length) = false := by simp
  have x0 : ∀ fuel a, relcap_finals_1_S.loop (evalF Tab n) (fuel + 1) 0 { i := [a, (l.length : Int), (l.length : Int), b.a, b.b, b.c, b.d, b.e, b.f], b := [], v := [.cell [B] 0, P], m := σ, k := σ.length } =
      relcap_finals_1_S.loop (evalF Tab n) fuel 1 { i := [a, (bids.length : Int), 0, b.a, b.b, b.c, b.d, b.e, b.f], b := [], v := [B], m := σ, k := σ.length } := by
    intro fuel a
    rw [Sys.loop, show relcap_finals_1_S.loops[0]? = some relcap_finals_1_t0 from rfl]
    simp -implicitDefEqProofs only [Option.bind_some, relcap_finals_1_t0, ↓reduceIte, eq_self, evb_ret, evb_ite, evb_need, evb_load, evb_app, evb_cut, evb_chk, evb_appF, evb_call, evb_callv, evb_newM, evb_mkM, evb_storeM, evb_appM, evb_mkMap, evb_mapGet, evb_mapSet, evb_mapClr, evb_jump, BE.safe, BE.pe, IE.pe, PEnv.at, List.getD_cons_zero, List.getD_cons_succ, List.getElem?_cons_zero, List.getElem?_cons_succ, locOf, locOn, readLoc, takeN, Nat.add_zero, List.drop_zero, List.length_cons, List.length_nil, Nat.reduceAdd, Nat.le_refl, if_true, if_false, Bool.false_eq_true, List.take_succ_cons, List.take_zero, bindK, bindRes, bind1, Option.map_some, Option.bind_some, PEnv.push, List.cons_append, List.nil_append, List.append_nil, SV.pvs, SV.pv, BE.all, Bool.and_self, Bool.not_true, Bool.not_false, List.map_cons, List.map_nil, ltB_nat, hd0, b1, b2, b3]
  have x1 : ∀ fuel a, relcap_finals_1_S.loop (evalF Tab n) (fuel + 1) 1 { i := [a, (bids.length : Int), (bids.length : Int), b.a, b.b, b.c, b.d, b.e, b.f], b := [], v := [B], m := σ, k := σ.length } = some (.int .i64 a, σ) := by
    intro fuel a
    rw [Sys.loop, show relcap_finals_1_S.loops[1]? = some relcap_finals_1_t1 from rfl]
    simp -implicitDefEqProofs only [Option.bind_some, relcap_finals_1_t1, ↓reduceIte, eq_self, evb_ret, evb_ite, evb_need, evb_load, evb_app, evb_cut, evb_chk, evb_appF, evb_call, evb_callv, evb_newM, evb_mkM, evb_storeM, evb_appM, evb_mkMap, evb_mapGet, evb_mapSet, evb_mapClr, evb_jump, BE.safe, BE.pe, IE.pe, PEnv.at, List.getD_cons_zero, List.getD_cons_succ, List.getElem?_cons_zero, List.getElem?_cons_succ, locOf, locOn, readLoc, takeN, Nat.add_zero, List.drop_zero, List.length_cons, List.length_nil, Nat.reduceAdd, Nat.le_refl, if_true, if_false, Bool.false_eq_true, List.take_succ_cons, List.take_zero, bindK, bindRes, bind1, Option.map_some, Option.bind_some, PEnv.push, List.cons_append, List.nil_append, List.append_nil, SV.pvs, SV.pv, BE.all, Bool.and_self, Bool.not_true, Bool.not_false, List.map_cons, List.map_nil, ltB_nat, hd1, retP, true_or]
  have r0 := loop_all _ s0 n (by omega)
  have r1 := fun a => loop_all _ (s1 a) (n - l.length - 1) (by omega)
  simp only [evalF, tab_relcap_finals_1, Option.bind_some, Sys.run, W6.pv]
  show ((bindPs [.sh (.agg [_, _, _, _, _, _]), .ptr, .ptr] _).bind _) = _
  simp -implicitDefEqProofs only [bindPs, bind1, bindK, Option.map_some, Option.bind_some, List.append_nil, List.nil_append, List.cons_append, if_true, PV.isPtr]
  show (PT.ev _ relcap_finals_1_s _).bind _ = _
  simp -implicitDefEqProofs only [relcap_finals_1_s, ↓reduceIte, eq_self, evb_ret, evb_ite, evb_need, evb_load, evb_app, evb_cut, evb_chk, evb_appF, evb_call, evb_callv, evb_newM, evb_mkM, evb_storeM, evb_appM, evb_mkMap, evb_mapGet, evb_mapSet, evb_mapClr, evb_jump, BE.safe, BE.pe, IE.pe, PEnv.at, List.getD_cons_zero, List.getD_cons_succ, List.getElem?_cons_zero, List.getElem?_cons_succ, locOf, locOn, readLoc, takeN, Nat.add_zero, List.drop_zero, List.length_cons, List.length_nil, Nat.reduceAdd, Nat.le_refl, if_true, if_false, Bool.false_eq_true, List.take_succ_cons, List.take_zero, bindK, bindRes, bind1, Option.map_some, Option.bind_some, PEnv.push, List.cons_append, List.nil_append, List.append_nil, SV.pvs, SV.pv, BE.all, Bool.and_self, Bool.not_true, Bool.not_false, List.map_cons, List.map_nil, p1, p2, p3]
  have t0 : (List.take 0 l) = [] := rfl
  have t1 : (List.take 0 bids) = [] := rfl
  simp only [t0, take_all, finC, List.foldl_nil, Int.cast_ofNat_Int] at r0
  simp only [t1, take_all, finB, List.foldl_nil, Int.cast_ofNat_Int] at r1
  refine r0.trans ?_
  rw [show n - l.length = (n - l.length - 1) + 1 by omega, x0]
  refine (r1 _).trans ?_
  rw [show n - l.length - 1 - bids.length = (n - l.length - 1 - bids.length - 1) + 1 by omega, x1]
  rfl
end Go.Proofs.Ytggjcdnailppoaa
set_option maxRecDepth 100000
namespace Go.Proofs.Ytggjcdnailppoaa
open Go.Sx
theorem most_sem (σ : List MO) (l : List Ch) (P : PV) (hP : P.rowsOf 12 = some (l.map Ch.row)) (hl : l.length ≤ 1000) (hok : ∀ x ∈ l, x.ok) (g : Nat) (cap : List PV) (f : W6 → Int) (b : W6) (hbk : b.ok) (n : Nat) (hn : 1100 ≤ n + 1)
    (hf : ∀ w, w.ok → evalF Tab n g ([.agg w.pv] ++ cap) σ = some (.int .i64 (f w), σ)) (hfb : ∀ w, w.ok → 0 ≤ f w ∧ f w ≤ 1000000000) :
    evalF Tab (n + 1) n_relcap_most [P, .fn g cap, .agg b.pv] σ = some (.int .i64 (mostP l f b), σ) := by
  obtain ⟨p1, p2, p3⟩ := rows_len hP
  rw [List.length_map] at p1
  have s0 : ∀ i, i < l.length → ∀ fuel, relcap_most_S.loop (evalF Tab n) (fuel + 1) 0 { i := [mostP (l.take i) f b, (l.length : Int), (i : Int), b.a, b.b, b.c, b.d, b.e, b.f], b := [], v := [.fn g cap, P], m := σ, k := σ.length } =
      relcap_most_S.loop (evalF Tab n) fuel 0 { i := [mostP (l.take (i + 1)) f b, (l.length : Int), ((i + 1 : Nat) : Int), b.a, b.b, b.c, b.d, b.e, b.f], b := [], v := [.fn g cap, P], m := σ, k := σ.length } := by
    intro i hi fuel
    obtain ⟨x, hx⟩ := get_ex hi
    have hxo := hok x (List.mem_of_getElem? hx)
    have hloc := rows_get (off := 0) hP (rows_chs hx)
    rw [mostP_take f b hx, nat_succ, Sys.loop, show relcap_most_S.loops[0]? = some relcap_most_t0 from rfl]
    have hd : decide (i < l.length) = true := decide_eq_true hi
    have hz : (eqB x.w.a b.a && (eqB x.w.b b.b && (eqB x.w.c b.c && (eqB x.w.d b.d && (eqB x.w.e b.e && eqB x.w.f b.f))))) = x.w.beq b := rfl
    simp -implicitDefEqProofs only [Option.bind_some, relcap_most_t0, ↓reduceIte, eq_self, evb_ret, evb_ite, evb_need, evb_load, evb_app, evb_cut, evb_chk, evb_appF, evb_call, evb_callv, evb_newM, evb_mkM, evb_storeM, evb_appM, evb_mkMap, evb_mapGet, evb_mapSet, evb_mapClr, evb_jump, BE.safe, BE.pe, IE.pe, PEnv.at, List.getD_cons_zero, List.getD_cons_succ, List.getElem?_cons_zero, List.getElem?_cons_succ, locOf, locOn, readLoc, takeN, Nat.add_zero, List.drop_zero, List.length_cons, List.length_nil, Nat.reduceAdd, Nat.le_refl, if_true, if_false, Bool.false_eq_true, List.take_succ_cons, List.take_zero, bindK, bindRes, bind1, Option.map_some, Option.bind_some, PEnv.push, List.cons_append, List.nil_append, List.append_nil, SV.pvs, SV.pv, BE.all, Bool.and_self, Bool.not_true, Bool.not_false, List.map_cons, List.map_nil, ltB_nat, hd, p1, le0, hloc, row_eq, hz]
    cases hbb : x.w.beq b with
    | true => simp -implicitDefEqProofs only [↓reduceIte, eq_self, evb_ret, evb_ite, evb_need, evb_load, evb_app, evb_cut, evb_chk, evb_appF, evb_call, evb_callv, evb_newM, evb_mkM, evb_storeM, evb_appM, evb_mkMap, evb_mapGet, evb_mapSet, evb_mapClr, evb_jump, BE.safe, BE.pe, IE.pe, PEnv.at, List.getD_cons_zero, List.getD_cons_succ, List.getElem?_cons_zero, List.getElem?_cons_succ, locOf, locOn, readLoc, takeN, Nat.add_zero, List.drop_zero, List.length_cons, List.length_nil, Nat.reduceAdd, Nat.le_refl, if_true, if_false, Bool.false_eq_true, List.take_succ_cons, List.take_zero, bindK, bindRes, bind1, Option.map_some, Option.bind_some, PEnv.push, List.cons_append, List.nil_append, List.append_nil, SV.pvs, SV.pv, BE.all, Bool.and_self, Bool.not_true, Bool.not_false, List.map_cons, List.map_nil, if_pos (up_ok (show i ≤ 1000000000 by omega))]
    | false =>
      have c1 := bundle_Cost_sem σ x.p b hxo.1 hbk n (by omega)
      have c2 := bundle_Cost_sem σ x.p x.w hxo.1 hxo.2 n (by omega)
      have d1 := cost_bd hxo.1 hbk
      have d2 := cost_bd hxo.1 hxo.2
      have c3 := hf x.w hxo.2
      have d3 := hfb x.w hxo.2
      simp only [n_bundle_Cost, W6.pv, List.cons_append, List.nil_append] at c1 c2 c3
      have q1 := i64_ok (z := f x.w + costW x.p b) (by omega)
      have q2 := i64_ok (z := f x.w + costW x.p b - costW x.p x.w) (by omega)
      simp -implicitDefEqProofs only [↓reduceIte, eq_self, evb_ret, evb_ite, evb_need, evb_load, evb_app, evb_cut, evb_chk, evb_appF, evb_call, evb_callv, evb_newM, evb_mkM, evb_storeM, evb_appM, evb_mkMap, evb_mapGet, evb_mapSet, evb_mapClr, evb_jump, BE.safe, BE.pe, IE.pe, PEnv.at, List.getD_cons_zero, List.getD_cons_succ, List.getElem?_cons_zero, List.getElem?_cons_succ, locOf, locOn, readLoc, takeN, Nat.add_zero, List.drop_zero, List.length_cons, List.length_nil, Nat.reduceAdd, Nat.le_refl, if_true, if_false, Bool.false_eq_true, List.take_succ_cons, List.take_zero, bindK, bindRes, bind1, Option.map_some, Option.bind_some, PEnv.push, List.cons_append, List.nil_append, List.append_nil, SV.pvs, SV.pv, BE.all, Bool.and_self, Bool.not_true, Bool.not_false, List.map_cons, List.map_nil, c1, c2, c3, if_pos q1, if_pos q2, if_pos (up_ok (show i ≤ 1000000000 by omega))]
  have hd0 : decide (l.length < l.length) = false := by simp
  have x0 : ∀ fuel a, relcap_most_S.loop (evalF Tab n) (fuel + 1) 0 { i := [a, (l.length : Int), (l.length : Int), b.a, b.b, b.c, b.d, b.e, b.f], b := [], v := [.fn g cap, P], m := σ, k := σ.length } = some (.int .i64 a, σ) := by
    intro fuel a
    rw [Sys.loop, show relcap_most_S.loops[0]? = some relcap_most_t0 from rfl]
    simp -implicitDefEqProofs only [Option.bind_some, relcap_most_t0, ↓reduceIte, eq_self, evb_ret, evb_ite, evb_need, evb_load, evb_app, evb_cut, evb_chk, evb_appF, evb_call, evb_callv, evb_newM, evb_mkM, evb_storeM, evb_appM, evb_mkMap, evb_mapGet, evb_mapSet, evb_mapClr, evb_jump, BE.safe, BE.pe, IE.pe, PEnv.at, List.getD_cons_zero, List.getD_cons_succ, List.getElem?_cons_zero, List.getElem?_cons_succ, locOf, locOn, readLoc, takeN, Nat.add_zero, List.drop_zero, List.length_cons, List.length_nil, Nat.reduceAdd, Nat.le_refl, if_true, if_false, Bool.false_eq_true, List.take_succ_cons, List.take_zero, bindK, bindRes, bind1, Option.map_some, Option.bind_some, PEnv.push, List.cons_append, List.nil_append, List.append_nil, SV.pvs, SV.pv, BE.all, Bool.and_self, Bool.not_true, Bool.not_false, List.map_cons, List.map_nil, ltB_nat, hd0, retP, or_true]
  have r0 := loop_all _ s0 n (by omega)
  simp only [evalF, tab_relcap_most, Option.bind_some, Sys.run, W6.pv]
  show ((bindPs [.sh (.one _), .sh (.one _), .sh (.agg [_, _, _, _, _, _])] _).bind _) = _
  have hfo : (PV.fn g cap).one = true := rfl
  simp -implicitDefEqProofs only [bindPs, bind1, bindK, Option.map_some, Option.bind_some, List.append_nil, List.nil_append, List.cons_append, if_true, p3, hfo]
  show (PT.ev _ relcap_most_s _).bind _ = _
  simp -implicitDefEqProofs only [relcap_most_s, ↓reduceIte, eq_self, evb_ret, evb_ite, evb_need, evb_load, evb_app, evb_cut, evb_chk, evb_appF, evb_call, evb_callv, evb_newM, evb_mkM, evb_storeM, evb_appM, evb_mkMap, evb_mapGet, evb_mapSet, evb_mapClr, evb_jump, BE.safe, BE.pe, IE.pe, PEnv.at, List.getD_cons_zero, List.getD_cons_succ, List.getElem?_cons_zero, List.getElem?_cons_succ, locOf, locOn, readLoc, takeN, Nat.add_zero, List.drop_zero, List.length_cons, List.length_nil, Nat.reduceAdd, Nat.le_refl, if_true, if_false, Bool.false_eq_true, List.take_succ_cons, List.take_zero, bindK, bindRes, bind1, Option.map_some, Option.bind_some, PEnv.push, List.cons_append, List.nil_append, List.append_nil, SV.pvs, SV.pv, BE.all, Bool.and_self, Bool.not_true, Bool.not_false, List.map_cons, List.map_nil, p1, p2, p3]
  have t0 : (List.take 0 l) = [] := rfl
  simp only [t0, take_all, mostP, List.foldl_nil, Int.cast_ofNat_Int] at r0
  refine r0.trans ?_
  rw [show n - l.length = (n - l.length - 1) + 1 by omega, x0]
  rfl
theorem final_sem (σ : List MO) (l : List Ch) (P : PV) (hP : P.rowsOf 12 = some (l.map Ch.row)) (bids : List Of) (B : PV) (hB : B.rowsOf 8 = some (bids.map Of.row)) (hl : l.length ≤ 1000) (hb : bids.length ≤ 1000) (hok : ∀ x ∈ l, x.ok) (b : W6) (n : Nat) (hn : 2200 ≤ n) :
    evalF Tab n n_saleroomref40_Final [P, B, .agg b.pv] σ = some (.int .i64 (fin l (bids.filter Of.right) b), σ) := by
  obtain ⟨n, rfl⟩ : ∃ k, n = k + 1 := ⟨n - 1, by omega⟩
  obtain ⟨p1, p2, p3⟩ := rows_len hP
  obtain ⟨b1, b2, b3⟩ := rows_len hB
  rw [List.length_map] at p1 b1
  have s0 : ∀ i, i < l.length → ∀ fuel, saleroomref40_Final_S.loop (evalF Tab n) (fuel + 1) 0 { i := [finC (l.take i) b 0, (i : Int), b.a, b.b, b.c, b.d, b.e, b.f], b := [], v := [P, B], m := σ, k := σ.length } =
      saleroomref40_Final_S.loop (evalF Tab n) fuel 0 { i := [finC (l.take (i + 1)) b 0, ((i + 1 : Nat) : Int), b.a, b.b, b.c, b.d, b.e, b.f], b := [], v := [P, B], m := σ, k := σ.length } := by
    intro i hi fuel
    obtain ⟨x, hx⟩ := get_ex hi
    have hxo := hok x (List.mem_of_getElem? hx)
    have hloc := rows_get (off := 0) hP (rows_chs hx)
    have hloc6 := rows_get (off := 6) hP (rows_chs hx)
    rw [finC_take b hx, nat_succ, Sys.loop, show saleroomref40_Final_S.loops[0]? = some saleroomref40_Final_t0 from rfl]
    have hd : decide (i < l.length) = true := decide_eq_true hi
    have hz : (eqB x.w.a b.a && (eqB x.w.b b.b && (eqB x.w.c b.c && (eqB x.w.d b.d && (eqB x.w.e b.e && eqB x.w.f b.f))))) = x.w.beq b := rfl
    simp -implicitDefEqProofs only [Option.bind_some, saleroomref40_Final_t0, ↓reduceIte, eq_self, evb_ret, evb_ite, evb_need, evb_load, evb_app, evb_cut, evb_chk, evb_appF, evb_call, evb_callv, evb_newM, evb_mkM, evb_storeM, evb_appM, evb_mkMap, evb_mapGet, evb_mapSet, evb_mapClr, evb_jump, BE.safe, BE.pe, IE.pe, PEnv.at, List.getD_cons_zero, List.getD_cons_succ, List.getElem?_cons_zero, List.getElem?_cons_succ, locOf, locOn, readLoc, takeN, Nat.add_zero, List.drop_zero, List.length_cons, List.length_nil, Nat.reduceAdd, Nat.le_refl, if_true, if_false, Bool.false_eq_true, List.take_succ_cons, List.take_zero, bindK, bindRes, bind1, Option.map_some, Option.bind_some, PEnv.push, List.cons_append, List.nil_append, List.append_nil, SV.pvs, SV.pv, BE.all, Bool.and_self, Bool.not_true, Bool.not_false, List.map_cons, List.map_nil, ltB_nat, hd, p1, p2, le0, hloc6, row_eq, drop6, hz]
    cases hbb : x.w.beq b with
    | false => simp -implicitDefEqProofs only [↓reduceIte, eq_self, evb_ret, evb_ite, evb_need, evb_load, evb_app, evb_cut, evb_chk, evb_appF, evb_call, evb_callv, evb_newM, evb_mkM, evb_storeM, evb_appM, evb_mkMap, evb_mapGet, evb_mapSet, evb_mapClr, evb_jump, BE.safe, BE.pe, IE.pe, PEnv.at, List.getD_cons_zero, List.getD_cons_succ, List.getElem?_cons_zero, List.getElem?_cons_succ, locOf, locOn, readLoc, takeN, Nat.add_zero, List.drop_zero, List.length_cons, List.length_nil, Nat.reduceAdd, Nat.le_refl, if_true, if_false, Bool.false_eq_true, List.take_succ_cons, List.take_zero, bindK, bindRes, bind1, Option.map_some, Option.bind_some, PEnv.push, List.cons_append, List.nil_append, List.append_nil, SV.pvs, SV.pv, BE.all, Bool.and_self, Bool.not_true, Bool.not_false, List.map_cons, List.map_nil, if_pos (up_ok (show i ≤ 1000000000 by omega))]
    | true =>
      have e := W6.beq_eq hbb
      have c1 := rcost_sem σ x hxo.1 b (e ▸ hxo.2) n (by omega)
      simp only [n_saleroomref36_Cost, W6.pv, row_eq] at c1
      simp -implicitDefEqProofs only [↓reduceIte, eq_self, evb_ret, evb_ite, evb_need, evb_load, evb_app, evb_cut, evb_chk, evb_appF, evb_call, evb_callv, evb_newM, evb_mkM, evb_storeM, evb_appM, evb_mkMap, evb_mapGet, evb_mapSet, evb_mapClr, evb_jump, BE.safe, BE.pe, IE.pe, PEnv.at, List.getD_cons_zero, List.getD_cons_succ, List.getElem?_cons_zero, List.getElem?_cons_succ, locOf, locOn, readLoc, takeN, Nat.add_zero, List.drop_zero, List.length_cons, List.length_nil, Nat.reduceAdd, Nat.le_refl, if_true, if_false, Bool.false_eq_true, List.take_succ_cons, List.take_zero, bindK, bindRes, bind1, Option.map_some, Option.bind_some, PEnv.push, List.cons_append, List.nil_append, List.append_nil, SV.pvs, SV.pv, BE.all, Bool.and_self, Bool.not_true, Bool.not_false, List.map_cons, List.map_nil, p1, ltB_nat, hd, le0, hloc, row_eq, c1, if_pos (up_ok (show i ≤ 1000000000 by omega))]
  have ft : ∀ (i : Nat) x a, bids[i]? = some x → finB ((bids.take (i + 1)).filter Of.right) b a = if (x.right && x.w.beq b) = true then mxI (finB ((bids.take i).filter Of.right) b a) x.v else finB ((bids.take i).filter Of.right) b a := by
    intro i x a hx
    rw [List.take_add_one, hx, List.filter_append]
    simp only [finB, Option.toList_some, List.foldl_append, List.filter_cons, List.filter_nil]
    cases x.right <;> simp
  have s1 : ∀ a, ∀ i, i < bids.length → ∀ fuel, saleroomref40_Final_S.loop (evalF Tab n) (fuel + 1) 1 { i := [finB ((bids.take i).filter Of.right) b a, (i : Int), b.a, b.b, b.c, b.d, b.e, b.f], b := [], v := [B], m := σ, k := σ.length } =
      saleroomref40_Final_S.loop (evalF Tab n) fuel 1 { i := [finB ((bids.take (i + 1)).filter Of.right) b a, ((i + 1 : Nat) : Int), b.a, b.b, b.c, b.d, b.e, b.f], b := [], v := [B], m := σ, k := σ.length } := by
    intro a i hi fuel
    obtain ⟨x, hx⟩ := get_ex hi
    have hloc := rows_get (off := 0) hB (rows_ofs hx)
    have hloc1 := rows_get (off := 1) hB (rows_ofs hx)
    have hloc7 := rows_get (off := 7) hB (rows_ofs hx)
    have c1 := saleroomref40_Right_sem σ x n (by omega)
    rw [ft i x a hx, nat_succ, Sys.loop, show saleroomref40_Final_S.loops[1]? = some saleroomref40_Final_t1 from rfl]
    have hd : decide (i < bids.length) = true := decide_eq_true hi
    have hz : (eqB x.w.a b.a && (eqB x.w.b b.b && (eqB x.w.c b.c && (eqB x.w.d b.d && (eqB x.w.e b.e && eqB x.w.f b.f))))) = x.w.beq b := rfl
    generalize x.right = r at *
    simp only [n_saleroomref40_Right, of_row] at c1
    have dr1 : ∀ a b c d e f g h : PV, List.drop 1 [a, b, c, d, e, f, g, h] = [b, c, d, e, f, g, h] := fun _ _ _ _ _ _ _ _ => rfl
    have dr7 : ∀ a b c d e f g h : PV, List.drop 7 [a, b, c, d, e, f, g, h] = [h] := fun _ _ _ _ _ _ _ _ => rfl
    simp -implicitDefEqProofs only [Option.bind_some, saleroomref40_Final_t1, ↓reduceIte, eq_self, evb_ret, evb_ite, evb_need, evb_load, evb_app, evb_cut, evb_chk, evb_appF, evb_call, evb_callv, evb_newM, evb_mkM, evb_storeM, evb_appM, evb_mkMap, evb_mapGet, evb_mapSet, evb_mapClr, evb_jump, BE.safe, BE.pe, IE.pe, PEnv.at, List.getD_cons_zero, List.getD_cons_succ, List.getElem?_cons_zero, List.getElem?_cons_succ, locOf, locOn, readLoc, takeN, Nat.add_zero, List.drop_zero, List.length_cons, List.length_nil, Nat.reduceAdd, Nat.le_refl, if_true, if_false, Bool.false_eq_true, List.take_succ_cons, List.take_zero, bindK, bindRes, bind1, Option.map_some, Option.bind_some, PEnv.push, List.cons_append, List.nil_append, List.append_nil, SV.pvs, SV.pv, BE.all, Bool.and_self, Bool.not_true, Bool.not_false, List.map_cons, List.map_nil, ltB_nat, hd, b1, b2, le0, hloc, of_row, c1]
    cases r with
    | false => simp -implicitDefEqProofs only [↓reduceIte, eq_self, evb_ret, evb_ite, evb_need, evb_load, evb_app, evb_cut, evb_chk, evb_appF, evb_call, evb_callv, evb_newM, evb_mkM, evb_storeM, evb_appM, evb_mkMap, evb_mapGet, evb_mapSet, evb_mapClr, evb_jump, BE.safe, BE.pe, IE.pe, PEnv.at, List.getD_cons_zero, List.getD_cons_succ, List.getElem?_cons_zero, List.getElem?_cons_succ, locOf, locOn, readLoc, takeN, Nat.add_zero, List.drop_zero, List.length_cons, List.length_nil, Nat.reduceAdd, Nat.le_refl, if_true, if_false, Bool.false_eq_true, List.take_succ_cons, List.take_zero, bindK, bindRes, bind1, Option.map_some, Option.bind_some, PEnv.push, List.cons_append, List.nil_append, List.append_nil, SV.pvs, SV.pv, BE.all, Bool.and_self, Bool.not_true, Bool.not_false, List.map_cons, List.map_nil, Bool.false_and, if_pos (up_ok (show i ≤ 1000000000 by omega))]
    | true =>
      simp -implicitDefEqProofs only [↓reduceIte, eq_self, evb_ret, evb_ite, evb_need, evb_load, evb_app, evb_cut, evb_chk, evb_appF, evb_call, evb_callv, evb_newM, evb_mkM, evb_storeM, evb_appM, evb_mkMap, evb_mapGet, evb_mapSet, evb_mapClr, evb_jump, BE.safe, BE.pe, IE.pe, PEnv.at, List.getD_cons_zero, List.getD_cons_succ, List.getElem?_cons_zero, List.getElem?_cons_succ, locOf, locOn, readLoc, takeN, Nat.add_zero, List.drop_zero, List.length_cons, List.length_nil, Nat.reduceAdd, Nat.le_refl, if_true, if_false, Bool.false_eq_true, List.take_succ_cons, List.take_zero, bindK, bindRes, bind1, Option.map_some, Option.bind_some, PEnv.push, List.cons_append, List.nil_append, List.append_nil, SV.pvs, SV.pv, BE.all, Bool.and_self, Bool.not_true, Bool.not_false, List.map_cons, List.map_nil, ltB_nat, hd, b1, le0, hloc1, of_row, dr1, hz, Bool.true_and, Nat.reduceLeDiff]
      cases hbb : x.w.beq b with
      | false => simp -implicitDefEqProofs only [↓reduceIte, eq_self, evb_ret, evb_ite, evb_need, evb_load, evb_app, evb_cut, evb_chk, evb_appF, evb_call, evb_callv, evb_newM, evb_mkM, evb_storeM, evb_appM, evb_mkMap, evb_mapGet, evb_mapSet, evb_mapClr, evb_jump, BE.safe, BE.pe, IE.pe, PEnv.at, List.getD_cons_zero, List.getD_cons_succ, List.getElem?_cons_zero, List.getElem?_cons_succ, locOf, locOn, readLoc, takeN, Nat.add_zero, List.drop_zero, List.length_cons, List.length_nil, Nat.reduceAdd, Nat.le_refl, if_true, if_false, Bool.false_eq_true, List.take_succ_cons, List.take_zero, bindK, bindRes, bind1, Option.map_some, Option.bind_some, PEnv.push, List.cons_append, List.nil_append, List.append_nil, SV.pvs, SV.pv, BE.all, Bool.and_self, Bool.not_true, Bool.not_false, List.map_cons, List.map_nil, if_pos (up_ok (show i ≤ 1000000000 by omega))]
      | true => simp -implicitDefEqProofs only [↓reduceIte, eq_self, evb_ret, evb_ite, evb_need, evb_load, evb_app, evb_cut, evb_chk, evb_appF, evb_call, evb_callv, evb_newM, evb_mkM, evb_storeM, evb_appM, evb_mkMap, evb_mapGet, evb_mapSet, evb_mapClr, evb_jump, BE.safe, BE.pe, IE.pe, PEnv.at, List.getD_cons_zero, List.getD_cons_succ, List.getElem?_cons_zero, List.getElem?_cons_succ, locOf, locOn, readLoc, takeN, Nat.add_zero, List.drop_zero, List.length_cons, List.length_nil, Nat.reduceAdd, Nat.le_refl, if_true, if_false, Bool.false_eq_true, List.take_succ_cons, List.take_zero, bindK, bindRes, bind1, Option.map_some, Option.bind_some, PEnv.push, List.cons_append, List.nil_append, List.append_nil, SV.pvs, SV.pv, BE.all, Bool.and_self, Bool.not_true, Bool.not_false, List.map_cons, List.map_nil, ltB_nat, hd, b1, le0, hloc7, of_row, dr7, if_pos (up_ok (show i ≤ 1000000000 by omega))]
  have hd0 : decide (l.length < l.length) = false := by simp
  have hd1 : decide (bids.length < bids.length) = false := by simp
  have x0 : ∀ fuel a, saleroomref40_Final_S.loop (evalF Tab n) (fuel + 1) 0 { i := [a, (l.length : Int), b.a, b.b, b.c, b.d, b.e, b.f], b := [], v := [P, B], m := σ, k := σ.length } =
      saleroomref40_Final_S.loop (evalF Tab n) fuel 1 { i := [a, 0, b.a, b.b, b.c, b.d, b.e, b.f], b := [], v := [B], m := σ, k := σ.length } := by
    intro fuel a
    rw [Sys.loop, show saleroomref40_Final_S.loops[0]? = some saleroomref40_Final_t0 from rfl]
    simp -implicitDefEqProofs only [Option.bind_some, saleroomref40_Final_t0, ↓reduceIte, eq_self, evb_ret, evb_ite, evb_need, evb_load, evb_app, evb_cut, evb_chk, evb_appF, evb_call, evb_callv, evb_newM, evb_mkM, evb_storeM, evb_appM, evb_mkMap, evb_mapGet, evb_mapSet, evb_mapClr, evb_jump, BE.safe, BE.pe, IE.pe, PEnv.at, List.getD_cons_zero, List.getD_cons_succ, List.getElem?_cons_zero, List.getElem?_cons_succ, locOf, locOn, readLoc, takeN, Nat.add_zero, List.drop_zero, List.length_cons, List.length_nil, Nat.reduceAdd, Nat.le_refl, if_true, if_false, Bool.false_eq_true, List.take_succ_cons, List.take_zero, bindK, bindRes, bind1, Option.map_some, Option.bind_some, PEnv.push, List.cons_append, List.nil_append, List.append_nil, SV.pvs, SV.pv, BE.all, Bool.and_self, Bool.not_true, Bool.not_false, List.map_cons, List.map_nil, ltB_nat, hd0, p1, p2]
  have x1 : ∀ fuel a, saleroomref40_Final_S.loop (evalF Tab n) (fuel + 1) 1 { i := [a, (bids.length : Int), b.a, b.b, b.c, b.d, b.e, b.f], b := [], v := [B], m := σ, k := σ.length } = some (.int .i64 a, σ) := by
    intro fuel a
    rw [Sys.loop, show saleroomref40_Final_S.loops[1]? = some saleroomref40_Final_t1 from rfl]
    simp -implicitDefEqProofs only [Option.bind_some, saleroomref40_Final_t1, ↓reduceIte, eq_self, evb_ret, evb_ite, evb_need, evb_load, evb_app, evb_cut, evb_chk, evb_appF, evb_call, evb_callv, evb_newM, evb_mkM, evb_storeM, evb_appM, evb_mkMap, evb_mapGet, evb_mapSet, evb_mapClr, evb_jump, BE.safe, BE.pe, IE.pe, PEnv.at, List.getD_cons_zero, List.getD_cons_succ, List.getElem?_cons_zero, List.getElem?_cons_succ, locOf, locOn, readLoc, takeN, Nat.add_zero, List.drop_zero, List.length_cons, List.length_nil, Nat.reduceAdd, Nat.le_refl, if_true, if_false, Bool.false_eq_true, List.take_succ_cons, List.take_zero, bindK, bindRes, bind1, Option.map_some, Option.bind_some, PEnv.push, List.cons_append, List.nil_append, List.append_nil, SV.pvs, SV.pv, BE.all, Bool.and_self, Bool.not_true, Bool.not_false, List.map_cons, List.map_nil, ltB_nat, hd1, b1, b2, retP, or_true]
  have r0 := loop_all _ s0 n (by omega)
  have r1 := fun a => loop_all _ (s1 a) (n - l.length - 1) (by omega)
  simp only [evalF, tab_saleroomref40_Final, Option.bind_some, Sys.run, W6.pv]
  show ((bindPs [.sh (.one _), .sh (.one _), .sh (.agg [_, _, _, _, _, _])] _).bind _) = _
  simp -implicitDefEqProofs only [bindPs, bind1, bindK, Option.map_some, Option.bind_some, List.append_nil, List.nil_append, List.cons_append, if_true, p3, b3]
  show (PT.ev _ saleroomref40_Final_s _).bind _ = _
  simp -implicitDefEqProofs only [saleroomref40_Final_s, ↓reduceIte, eq_self, evb_ret, evb_ite, evb_need, evb_load, evb_app, evb_cut, evb_chk, evb_appF, evb_call, evb_callv, evb_newM, evb_mkM, evb_storeM, evb_appM, evb_mkMap, evb_mapGet, evb_mapSet, evb_mapClr, evb_jump, BE.safe, BE.pe, IE.pe, PEnv.at, List.getD_cons_zero, List.getD_cons_succ, List.getElem?_cons_zero, List.getElem?_cons_succ, locOf, locOn, readLoc, takeN, Nat.add_zero, List.drop_zero, List.length_cons, List.length_nil, Nat.reduceAdd, Nat.le_refl, if_true, if_false, Bool.false_eq_true, List.take_succ_cons, List.take_zero, bindK, bindRes, bind1, Option.map_some, Option.bind_some, PEnv.push, List.cons_append, List.nil_append, List.append_nil, SV.pvs, SV.pv, BE.all, Bool.and_self, Bool.not_true, Bool.not_false, List.map_cons, List.map_nil]
  have t0 : (List.take 0 l) = [] := rfl
  have t1 : (List.take 0 bids) = [] := rfl
  simp only [t0, take_all, finC, List.foldl_nil, Int.cast_ofNat_Int] at r0
  simp only [t1, take_all, finB, List.filter_nil, List.foldl_nil, Int.cast_ofNat_Int] at r1
  refine r0.trans ?_
  rw [show n - l.length = (n - l.length - 1) + 1 by omega, x0]
  refine (r1 _).trans ?_
  rw [show n - l.length - 1 - bids.length = (n - l.length - 1 - bids.length - 1) + 1 by omega, x1]
  rfl
end Go.Proofs.Ytggjcdnailppoaa
set_option maxRecDepth 100000
namespace Go.Proofs.Ytggjcdnailppoaa
open Go.Sx
def csl8 : List (List PV) → PV
  | [] => .nilS
  | r => .sl 8 r
theorem csl8_rows (r : List (List PV)) : (csl8 r).rowsOf 8 = some r := by cases r <;> simp [csl8, PV.rowsOf]
theorem csl8_one (r : List (List PV)) : (csl8 r).one = true := by cases r <;> rfl
theorem csl8_snoc (r : List (List PV)) (x : List PV) : PV.sl 8 (r ++ [x]) = csl8 (r ++ [x]) := by cases r <;> rfl
theorem low_of (k : Nat) (l : List Of) : PV.lowss k (l.map Of.row) = true := by
  induction l with
  | nil => rfl
  | cons z l ih => simp [of_row, PV.lowss, PV.lows, PV.low, ih]
theorem low_ch (k : Nat) (l : List Ch) : PV.lowss k (l.map Ch.row) = true := by
  induction l with
  | nil => rfl
  | cons z l ih => simp [row_eq, PV.lowss, PV.lows, PV.low, ih]
theorem csl8_low (k : Nat) (l : List Of) : (csl8 (l.map Of.row)).low k = true := by
  cases l with
  | nil => rfl
  | cons x l => exact low_of k (x :: l)
theorem finC_bd {l : List Ch} (hok : ∀ x ∈ l, x.ok) (b : W6) : ∀ a, 0 ≤ a ∧ a ≤ 24000000 → 0 ≤ finC l b a ∧ finC l b a ≤ 24000000 := by
  induction l with
  | nil => intro a h; exact h
  | cons x l ih =>
    intro a h
    simp only [finC, List.foldl_cons]
    refine ih (fun y hy => hok y (List.mem_cons_of_mem _ hy)) _ ?_
    have hx := hok x (by simp)
    by_cases hb : x.w.beq b = true
    · rw [if_pos hb]
      have e := W6.beq_eq hb
      have := cost_bd hx.1 (e ▸ hx.2 : b.ok)
      unfold mxI; split <;> omega
    · rw [if_neg hb]; exact h
theorem finB_bd {l : List Of} (hok : ∀ x ∈ l, x.v ≤ 24000000) (b : W6) : ∀ a, 0 ≤ a ∧ a ≤ 24000000 → 0 ≤ finB l b a ∧ finB l b a ≤ 24000000 := by
  induction l with
  | nil => intro a h; exact h
  | cons x l ih =>
    intro a h
    simp only [finB, List.foldl_cons]
    refine ih (fun y hy => hok y (List.mem_cons_of_mem _ hy)) _ ?_
    have hx := hok x (by simp)
    by_cases hb : x.w.beq b = true
    · rw [if_pos hb]; unfold mxI; split <;> omega
    · rw [if_neg hb]; exact h
theorem fin_bd {l : List Ch} (hok : ∀ x ∈ l, x.ok) {bids : List Of} (hb : ∀ x ∈ bids, x.right = true) (b : W6) : 0 ≤ fin l bids b ∧ fin l bids b ≤ 24000000 :=
  finB_bd (fun x hx => by have := hb x hx; simp only [Of.right, Bool.and_eq_true, leB_true] at this; omega) b _ (finC_bd hok b _ (by omega))
theorem filter_right (bids : List Of) : ∀ x ∈ bids.filter Of.right, x.right = true := fun x hx => (List.mem_filter.1 hx).2
/-- What Most answers. -/
def capV (l : List Ch) (bids : List Of) (b : W6) : Int := if (l.all fun x => decide x.ok) = true then (if b.ok then mostP l (fin l (bids.filter Of.right)) b else 0) else 0
theorem capv_sem (σ : List MO) (hσ : σ.all (MO.low σ.length) = true) (l : List Ch) (P : PV) (hP : P.rowsOf 12 = some (l.map Ch.row)) (hPl : P.low σ.length = true) (bids : List Of) (B : PV) (hB : B.rowsOf 8 = some (bids.map Of.row)) (hl : l.length ≤ 1000) (hb : bids.length ≤ 1000) (b : W6) (n : Nat) (hn : 4000 ≤ n) :
    evalF Tab n n_relcap_Most [P, B, .agg b.pv] σ = some (.int .i64 (capV l bids b), σ) := by
  obtain ⟨n, rfl⟩ : ∃ k, n = k + 1 := ⟨n - 1, by omega⟩
  obtain ⟨p1, p2, p3⟩ := rows_len hP
  obtain ⟨b1, b2, b3⟩ := rows_len hB
  rw [List.length_map] at p1 b1
  have c1 := sound_sem σ l P hP n (by omega) (by omega)
  have c2 := bundle_Check_sem σ b n (by omega)
  have hb2 := bchk_eq b
  simp only [n_relcap_sound, n_bundle_Check, W6.pv] at c1 c2
  have head : ∀ R, (Sys.run (evalF Tab n) relcap_Most_S n [P, B, .agg b.pv] σ = R) = ((PT.ev (evalF Tab n) relcap_Most_s { i := [b.a, b.b, b.c, b.d, b.e, b.f], b := [], v := [P, B], m := σ, k := σ.length }).bind (fun
      | .ret r σ => some (r, σ)
      | .jump q ρ => relcap_Most_S.loop (evalF Tab n) n q ρ) = R) := by
    intro R
    simp only [Sys.run, W6.pv]
    show (((bindPs [.sh (.one _), .sh (.one _), .sh (.agg [_, _, _, _, _, _])] _).bind _) = _) = _
    simp -implicitDefEqProofs only [bindPs, bind1, bindK, Option.map_some, Option.bind_some, List.append_nil, List.nil_append, List.cons_append, if_true, p3, b3]
    rfl
  simp only [evalF, tab_relcap_Most, Option.bind_some]
  rw [head]
  simp -implicitDefEqProofs only [relcap_Most_s, ↓reduceIte, eq_self, evb_ret, evb_ite, evb_need, evb_load, evb_app, evb_cut, evb_chk, evb_appF, evb_call, evb_callv, evb_newM, evb_mkM, evb_storeM, evb_appM, evb_mkMap, evb_mapGet, evb_mapSet, evb_mapClr, evb_jump, BE.safe, BE.pe, IE.pe, PEnv.at, List.getD_cons_zero, List.getD_cons_succ, List.getElem?_cons_zero, List.getElem?_cons_succ, locOf, locOn, readLoc, takeN, Nat.add_zero, List.drop_zero, List.length_cons, List.length_nil, Nat.reduceAdd, Nat.le_refl, if_true, if_false, Bool.false_eq_true, List.take_succ_cons, List.take_zero, bindK, bindRes, bind1, Option.map_some, Option.bind_some, PEnv.push, List.cons_append, List.nil_append, List.append_nil, SV.pvs, SV.pv, BE.all, Bool.and_self, Bool.not_true, Bool.not_false, List.map_cons, List.map_nil, c1, capV]
  by_cases ha : (l.all fun x => decide x.ok) = true
  case neg =>
    rw [Bool.not_eq_true] at ha
    rw [ha]
    simp -implicitDefEqProofs only [↓reduceIte, eq_self, evb_ret, evb_ite, evb_need, evb_load, evb_app, evb_cut, evb_chk, evb_appF, evb_call, evb_callv, evb_newM, evb_mkM, evb_storeM, evb_appM, evb_mkMap, evb_mapGet, evb_mapSet, evb_mapClr, evb_jump, BE.safe, BE.pe, IE.pe, PEnv.at, List.getD_cons_zero, List.getD_cons_succ, List.getElem?_cons_zero, List.getElem?_cons_succ, locOf, locOn, readLoc, takeN, Nat.add_zero, List.drop_zero, List.length_cons, List.length_nil, Nat.reduceAdd, Nat.le_refl, if_true, if_false, Bool.false_eq_true, List.take_succ_cons, List.take_zero, bindK, bindRes, bind1, Option.map_some, Option.bind_some, PEnv.push, List.cons_append, List.nil_append, List.append_nil, SV.pvs, SV.pv, BE.all, Bool.and_self, Bool.not_true, Bool.not_false, List.map_cons, List.map_nil, retP, or_true]
  have hok : ∀ x ∈ l, x.ok := fun x hx => by simpa using (List.all_eq_true.1 ha) x hx
  rw [ha]
  simp -implicitDefEqProofs only [↓reduceIte, eq_self, evb_ret, evb_ite, evb_need, evb_load, evb_app, evb_cut, evb_chk, evb_appF, evb_call, evb_callv, evb_newM, evb_mkM, evb_storeM, evb_appM, evb_mkMap, evb_mapGet, evb_mapSet, evb_mapClr, evb_jump, BE.safe, BE.pe, IE.pe, PEnv.at, List.getD_cons_zero, List.getD_cons_succ, List.getElem?_cons_zero, List.getElem?_cons_succ, locOf, locOn, readLoc, takeN, Nat.add_zero, List.drop_zero, List.length_cons, List.length_nil, Nat.reduceAdd, Nat.le_refl, if_true, if_false, Bool.false_eq_true, List.take_succ_cons, List.take_zero, bindK, bindRes, bind1, Option.map_some, Option.bind_some, PEnv.push, List.cons_append, List.nil_append, List.append_nil, SV.pvs, SV.pv, BE.all, Bool.and_self, Bool.not_true, Bool.not_false, List.map_cons, List.map_nil, c2, hb2]
  by_cases hbk : b.ok
  case neg =>
    rw [decide_eq_false hbk, if_neg hbk]
    simp -implicitDefEqProofs only [↓reduceIte, eq_self, evb_ret, evb_ite, evb_need, evb_load, evb_app, evb_cut, evb_chk, evb_appF, evb_call, evb_callv, evb_newM, evb_mkM, evb_storeM, evb_appM, evb_mkMap, evb_mapGet, evb_mapSet, evb_mapClr, evb_jump, BE.safe, BE.pe, IE.pe, PEnv.at, List.getD_cons_zero, List.getD_cons_succ, List.getElem?_cons_zero, List.getElem?_cons_succ, locOf, locOn, readLoc, takeN, Nat.add_zero, List.drop_zero, List.length_cons, List.length_nil, Nat.reduceAdd, Nat.le_refl, if_true, if_false, Bool.false_eq_true, List.take_succ_cons, List.take_zero, bindK, bindRes, bind1, Option.map_some, Option.bind_some, PEnv.push, List.cons_append, List.nil_append, List.append_nil, SV.pvs, SV.pv, BE.all, Bool.and_self, Bool.not_true, Bool.not_false, List.map_cons, List.map_nil, retP, or_true]
  rw [decide_eq_true hbk, if_pos hbk]
  simp -implicitDefEqProofs only [↓reduceIte, eq_self, evb_ret, evb_ite, evb_need, evb_load, evb_app, evb_cut, evb_chk, evb_appF, evb_call, evb_callv, evb_newM, evb_mkM, evb_storeM, evb_appM, evb_mkMap, evb_mapGet, evb_mapSet, evb_mapClr, evb_jump, BE.safe, BE.pe, IE.pe, PEnv.at, List.getD_cons_zero, List.getD_cons_succ, List.getElem?_cons_zero, List.getElem?_cons_succ, locOf, locOn, readLoc, takeN, Nat.add_zero, List.drop_zero, List.length_cons, List.length_nil, Nat.reduceAdd, Nat.le_refl, if_true, if_false, Bool.false_eq_true, List.take_succ_cons, List.take_zero, bindK, bindRes, bind1, Option.map_some, Option.bind_some, PEnv.push, List.cons_append, List.nil_append, List.append_nil, SV.pvs, SV.pv, BE.all, Bool.and_self, Bool.not_true, Bool.not_false, List.map_cons, List.map_nil, b1, b2]
  have s0 : ∀ i, i < bids.length → ∀ fuel, relcap_Most_S.loop (evalF Tab n) (fuel + 1) 0 { i := [(bids.length : Int), (i : Int), b.a, b.b, b.c, b.d, b.e, b.f], b := [], v := [P, csl8 (((bids.take i).filter Of.right).map Of.row), B], m := σ, k := σ.length } =
      relcap_Most_S.loop (evalF Tab n) fuel 0 { i := [(bids.length : Int), ((i + 1 : Nat) : Int), b.a, b.b, b.c, b.d, b.e, b.f], b := [], v := [P, csl8 (((bids.take (i + 1)).filter Of.right).map Of.row), B], m := σ, k := σ.length } := by
    intro i hi fuel
    obtain ⟨x, hx⟩ := get_ex hi
    have hloc := rows_get (off := 0) hB (rows_ofs hx)
    have c1 := relcap_valid_sem σ x n (by omega)
    have hd : decide (i < bids.length) = true := decide_eq_true hi
    have ht : (bids.take (i + 1)).filter Of.right = (bids.take i).filter Of.right ++ if x.right = true then [x] else [] := by
      rw [List.take_add_one, hx, List.filter_append]
      simp only [Option.toList_some, List.filter_cons, List.filter_nil]
    have hgl : ((bids.take i).filter Of.right).length ≤ 1000 := Nat.le_trans (List.length_filter_le _ _) (by simp; omega)
    generalize (bids.take i).filter Of.right = gd at *
    rw [ht, nat_succ, Sys.loop, show relcap_Most_S.loops[0]? = some relcap_Most_t0 from rfl]
    simp only [n_relcap_valid, of_row] at c1
    simp -implicitDefEqProofs only [Option.bind_some, relcap_Most_t0, ↓reduceIte, eq_self, evb_ret, evb_ite, evb_need, evb_load, evb_app, evb_cut, evb_chk, evb_appF, evb_call, evb_callv, evb_newM, evb_mkM, evb_storeM, evb_appM, evb_mkMap, evb_mapGet, evb_mapSet, evb_mapClr, evb_jump, BE.safe, BE.pe, IE.pe, PEnv.at, List.getD_cons_zero, List.getD_cons_succ, List.getElem?_cons_zero, List.getElem?_cons_succ, locOf, locOn, readLoc, takeN, Nat.add_zero, List.drop_zero, List.length_cons, List.length_nil, Nat.reduceAdd, Nat.le_refl, if_true, if_false, Bool.false_eq_true, List.take_succ_cons, List.take_zero, bindK, bindRes, bind1, Option.map_some, Option.bind_some, PEnv.push, List.cons_append, List.nil_append, List.append_nil, SV.pvs, SV.pv, BE.all, Bool.and_self, Bool.not_true, Bool.not_false, List.map_cons, List.map_nil, ltB_nat, hd, b1, le0, hloc, of_row, c1]
    cases x.right with
    | false => simp -implicitDefEqProofs only [↓reduceIte, eq_self, evb_ret, evb_ite, evb_need, evb_load, evb_app, evb_cut, evb_chk, evb_appF, evb_call, evb_callv, evb_newM, evb_mkM, evb_storeM, evb_appM, evb_mkMap, evb_mapGet, evb_mapSet, evb_mapClr, evb_jump, BE.safe, BE.pe, IE.pe, PEnv.at, List.getD_cons_zero, List.getD_cons_succ, List.getElem?_cons_zero, List.getElem?_cons_succ, locOf, locOn, readLoc, takeN, Nat.add_zero, List.drop_zero, List.length_cons, List.length_nil, Nat.reduceAdd, Nat.le_refl, if_true, if_false, Bool.false_eq_true, List.take_succ_cons, List.take_zero, bindK, bindRes, bind1, Option.map_some, Option.bind_some, PEnv.push, List.cons_append, List.nil_append, List.append_nil, SV.pvs, SV.pv, BE.all, Bool.and_self, Bool.not_true, Bool.not_false, List.map_cons, List.map_nil, if_pos (up_ok (show i ≤ 1000000000 by omega))]
    | true =>
      have q1 : (gd.map Of.row).length + 1 ≤ 1000000 := by simp; omega
      have hsn := csl8_snoc (gd.map Of.row) x.row
      rw [of_row] at hsn
      simp -implicitDefEqProofs only [↓reduceIte, eq_self, evb_ret, evb_ite, evb_need, evb_load, evb_app, evb_cut, evb_chk, evb_appF, evb_call, evb_callv, evb_newM, evb_mkM, evb_storeM, evb_appM, evb_mkMap, evb_mapGet, evb_mapSet, evb_mapClr, evb_jump, BE.safe, BE.pe, IE.pe, PEnv.at, List.getD_cons_zero, List.getD_cons_succ, List.getElem?_cons_zero, List.getElem?_cons_succ, locOf, locOn, readLoc, takeN, Nat.add_zero, List.drop_zero, List.length_cons, List.length_nil, Nat.reduceAdd, Nat.le_refl, if_true, if_false, Bool.false_eq_true, List.take_succ_cons, List.take_zero, bindK, bindRes, bind1, Option.map_some, Option.bind_some, PEnv.push, List.cons_append, List.nil_append, List.append_nil, SV.pvs, SV.pv, BE.all, Bool.and_self, Bool.not_true, Bool.not_false, List.map_cons, List.map_nil, srcRows, List.mapM_cons, List.mapM_nil, List.reverse_cons, List.reverse_nil, Option.bind_eq_bind, Option.pure_def, csl8_rows, sl_rows, if_pos one_le, if_pos q1, if_pos (up_ok (show i ≤ 1000000000 by omega)), hsn, List.map_append, of_row]
  have hfin := fun gd (hg : gd = bids.filter Of.right) w => fin1_sem σ l P hP gd (csl8 (gd.map Of.row)) (csl8_rows _) hl (hg ▸ Nat.le_trans (List.length_filter_le _ _) hb) hok w (n - 1) (by omega)
  have hfb := fin_bd hok (filter_right bids)
  have hd0 : decide (bids.length < bids.length) = false := by simp
  have x0 : ∀ fuel, relcap_Most_S.loop (evalF Tab n) (fuel + 1) 0 { i := [(bids.length : Int), (bids.length : Int), b.a, b.b, b.c, b.d, b.e, b.f], b := [], v := [P, csl8 ((bids.filter Of.right).map Of.row), B], m := σ, k := σ.length } =
      some (.int .i64 (mostP l (fin l (bids.filter Of.right)) b), σ) := by
    intro fuel
    have e1 := finals_sem σ P (csl8 ((bids.filter Of.right).map Of.row)) p3 (csl8_one _) hPl (csl8_low _ _) n (by omega) hσ
    have e2 := most_sem σ l P hP hl hok n_relcap_finals_1 [.cell [P] 0, .cell [csl8 ((bids.filter Of.right).map Of.row)] 0] (fin l (bids.filter Of.right)) b hbk (n - 1) (by omega) (fun w _ => hfin _ rfl w) (fun w _ => by have := hfb w; omega)
    rw [show n - 1 + 1 = n by omega] at e2
    simp only [n_relcap_finals, n_relcap_most, W6.pv] at e1 e2
    rw [Sys.loop, show relcap_Most_S.loops[0]? = some relcap_Most_t0 from rfl]
    have hone : (PV.fn n_relcap_finals_1 [.cell [P] 0, .cell [csl8 ((bids.filter Of.right).map Of.row)] 0]).one = true := rfl
    simp -implicitDefEqProofs only [Option.bind_some, relcap_Most_t0, ↓reduceIte, eq_self, evb_ret, evb_ite, evb_need, evb_load, evb_app, evb_cut, evb_chk, evb_appF, evb_call, evb_callv, evb_newM, evb_mkM, evb_storeM, evb_appM, evb_mkMap, evb_mapGet, evb_mapSet, evb_mapClr, evb_jump, BE.safe, BE.pe, IE.pe, PEnv.at, List.getD_cons_zero, List.getD_cons_succ, List.getElem?_cons_zero, List.getElem?_cons_succ, locOf, locOn, readLoc, takeN, Nat.add_zero, List.drop_zero, List.length_cons, List.length_nil, Nat.reduceAdd, Nat.le_refl, if_true, if_false, Bool.false_eq_true, List.take_succ_cons, List.take_zero, bindK, bindRes, bind1, Option.map_some, Option.bind_some, PEnv.push, List.cons_append, List.nil_append, List.append_nil, SV.pvs, SV.pv, BE.all, Bool.and_self, Bool.not_true, Bool.not_false, List.map_cons, List.map_nil, ltB_nat, hd0, e1, e2, hone, retP, or_true]
  have r0 := loop_all _ s0 n (by omega)
  have t0 : csl8 (((List.take 0 bids).filter Of.right).map Of.row) = .nilS := rfl
  rw [t0, take_all] at r0
  refine r0.trans ?_
  rw [show n - bids.length = (n - bids.length - 1) + 1 by omega, x0]
theorem rcapv_sem (σ : List MO) (l : List Ch) (P : PV) (hP : P.rowsOf 12 = some (l.map Ch.row)) (bids : List Of) (B : PV) (hB : B.rowsOf 8 = some (bids.map Of.row)) (hl : l.length ≤ 1000) (hb : bids.length ≤ 1000) (b : W6) (n : Nat) (hn : 4000 ≤ n) :
    evalF Tab n n_saleroomref40_Most [P, B, .agg b.pv] σ = some (.int .i64 (capV l bids b), σ) := by
  obtain ⟨n, rfl⟩ : ∃ k, n = k + 1 := ⟨n - 1, by omega⟩
  obtain ⟨p1, p2, p3⟩ := rows_len hP
  obtain ⟨b1, b2, b3⟩ := rows_len hB
  rw [List.length_map] at p1 b1
  have c1 := rall_sem σ l P hP n (by omega) (by omega)
  have c2 := saleroomref07_Check_sem σ b n (by omega)
  have hb2 := bchk_eq b
  simp only [n_saleroomref36_All, n_saleroomref07_Check, W6.pv] at c1 c2
  have head : ∀ R, (Sys.run (evalF Tab n) saleroomref40_Most_S n [P, B, .agg b.pv] σ = R) = ((PT.ev (evalF Tab n) saleroomref40_Most_s { i := [b.a, b.b, b.c, b.d, b.e, b.f], b := [], v := [P, B], m := σ, k := σ.length }).bind (fun
      | .ret r σ => some (r, σ)
      | .jump q ρ => saleroomref40_Most_S.loop (evalF Tab n) n q ρ) = R) := by
    intro R
    simp only [Sys.run, W6.pv]
    show (((bindPs [.sh (.one _), .sh (.one _), .sh (.agg [_, _, _, _, _, _])] _).bind _) = _) = _
    simp -implicitDefEqProofs only [bindPs, bind1, bindK, Option.map_some, Option.bind_some, List.append_nil, List.nil_append, List.cons_append, if_true, p3, b3]
    rfl
  simp only [evalF, tab_saleroomref40_Most, Option.bind_some]
  rw [head]
  simp -implicitDefEqProofs only [saleroomref40_Most_s, ↓reduceIte, eq_self, evb_ret, evb_ite, evb_need, evb_load, evb_app, evb_cut, evb_chk, evb_appF, evb_call, evb_callv, evb_newM, evb_mkM, evb_storeM, evb_appM, evb_mkMap, evb_mapGet, evb_mapSet, evb_mapClr, evb_jump, BE.safe, BE.pe, IE.pe, PEnv.at, List.getD_cons_zero, List.getD_cons_succ, List.getElem?_cons_zero, List.getElem?_cons_succ, locOf, locOn, readLoc, takeN, Nat.add_zero, List.drop_zero, List.length_cons, List.length_nil, Nat.reduceAdd, Nat.le_refl, if_true, if_false, Bool.false_eq_true, List.take_succ_cons, List.take_zero, bindK, bindRes, bind1, Option.map_some, Option.bind_some, PEnv.push, List.cons_append, List.nil_append, List.append_nil, SV.pvs, SV.pv, BE.all, Bool.and_self, Bool.not_true, Bool.not_false, List.map_cons, List.map_nil, c1, capV]
  by_cases ha : (l.all fun x => decide x.ok) = true
  case neg =>
    rw [Bool.not_eq_true] at ha
    rw [ha]
    simp -implicitDefEqProofs only [↓reduceIte, eq_self, evb_ret, evb_ite, evb_need, evb_load, evb_app, evb_cut, evb_chk, evb_appF, evb_call, evb_callv, evb_newM, evb_mkM, evb_storeM, evb_appM, evb_mkMap, evb_mapGet, evb_mapSet, evb_mapClr, evb_jump, BE.safe, BE.pe, IE.pe, PEnv.at, List.getD_cons_zero, List.getD_cons_succ, List.getElem?_cons_zero, List.getElem?_cons_succ, locOf, locOn, readLoc, takeN, Nat.add_zero, List.drop_zero, List.length_cons, List.length_nil, Nat.reduceAdd, Nat.le_refl, if_true, if_false, Bool.false_eq_true, List.take_succ_cons, List.take_zero, bindK, bindRes, bind1, Option.map_some, Option.bind_some, PEnv.push, List.cons_append, List.nil_append, List.append_nil, SV.pvs, SV.pv, BE.all, Bool.and_self, Bool.not_true, Bool.not_false, List.map_cons, List.map_nil, retP, or_true]
  have hok : ∀ x ∈ l, x.ok := fun x hx => by simpa using (List.all_eq_true.1 ha) x hx
  rw [ha]
  simp -implicitDefEqProofs only [↓reduceIte, eq_self, evb_ret, evb_ite, evb_need, evb_load, evb_app, evb_cut, evb_chk, evb_appF, evb_call, evb_callv, evb_newM, evb_mkM, evb_storeM, evb_appM, evb_mkMap, evb_mapGet, evb_mapSet, evb_mapClr, evb_jump, BE.safe, BE.pe, IE.pe, PEnv.at, List.getD_cons_zero, List.getD_cons_succ, List.getElem?_cons_zero, List.getElem?_cons_succ, locOf, locOn, readLoc, takeN, Nat.add_zero, List.drop_zero, List.length_cons, List.length_nil, Nat.reduceAdd, Nat.le_refl, if_true, if_false, Bool.false_eq_true, List.take_succ_cons, List.take_zero, bindK, bindRes, bind1, Option.map_some, Option.bind_some, PEnv.push, List.cons_append, List.nil_append, List.append_nil, SV.pvs, SV.pv, BE.all, Bool.and_self, Bool.not_true, Bool.not_false, List.map_cons, List.map_nil, c2, hb2]
  by_cases hbk : b.ok
  case neg =>
    rw [decide_eq_false hbk, if_neg hbk]
    simp -implicitDefEqProofs only [↓reduceIte, eq_self, evb_ret, evb_ite, evb_need, evb_load, evb_app, evb_cut, evb_chk, evb_appF, evb_call, evb_callv, evb_newM, evb_mkM, evb_storeM, evb_appM, evb_mkMap, evb_mapGet, evb_mapSet, evb_mapClr, evb_jump, BE.safe, BE.pe, IE.pe, PEnv.at, List.getD_cons_zero, List.getD_cons_succ, List.getElem?_cons_zero, List.getElem?_cons_succ, locOf, locOn, readLoc, takeN, Nat.add_zero, List.drop_zero, List.length_cons, List.length_nil, Nat.reduceAdd, Nat.le_refl, if_true, if_false, Bool.false_eq_true, List.take_succ_cons, List.take_zero, bindK, bindRes, bind1, Option.map_some, Option.bind_some, PEnv.push, List.cons_append, List.nil_append, List.append_nil, SV.pvs, SV.pv, BE.all, Bool.and_self, Bool.not_true, Bool.not_false, List.map_cons, List.map_nil, retP, or_true]
  rw [decide_eq_true hbk, if_pos hbk]
  simp -implicitDefEqProofs only [↓reduceIte, eq_self, evb_ret, evb_ite, evb_need, evb_load, evb_app, evb_cut, evb_chk, evb_appF, evb_call, evb_callv, evb_newM, evb_mkM, evb_storeM, evb_appM, evb_mkMap, evb_mapGet, evb_mapSet, evb_mapClr, evb_jump, BE.safe, BE.pe, IE.pe, PEnv.at, List.getD_cons_zero, List.getD_cons_succ, List.getElem?_cons_zero, List.getElem?_cons_succ, locOf, locOn, readLoc, takeN, Nat.add_zero, List.drop_zero, List.length_cons, List.length_nil, Nat.reduceAdd, Nat.le_refl, if_true, if_false, Bool.false_eq_true, List.take_succ_cons, List.take_zero, bindK, bindRes, bind1, Option.map_some, Option.bind_some, PEnv.push, List.cons_append, List.nil_append, List.append_nil, SV.pvs, SV.pv, BE.all, Bool.and_self, Bool.not_true, Bool.not_false, List.map_cons, List.map_nil]
  have hfb := fin_bd hok (filter_right bids)
  have s0 : ∀ i, i < l.length → ∀ fuel, saleroomref40_Most_S.loop (evalF Tab n) (fuel + 1) 0 { i := [mostP (l.take i) (fin l (bids.filter Of.right)) b, (i : Int), b.a, b.b, b.c, b.d, b.e, b.f], b := [], v := [P, B], m := σ, k := σ.length } =
      saleroomref40_Most_S.loop (evalF Tab n) fuel 0 { i := [mostP (l.take (i + 1)) (fin l (bids.filter Of.right)) b, ((i + 1 : Nat) : Int), b.a, b.b, b.c, b.d, b.e, b.f], b := [], v := [P, B], m := σ, k := σ.length } := by
    intro i hi fuel
    obtain ⟨x, hx⟩ := get_ex hi
    have hxo := hok x (List.mem_of_getElem? hx)
    have hloc := rows_get (off := 0) hP (rows_chs hx)
    have hloc6 := rows_get (off := 6) hP (rows_chs hx)
    rw [mostP_take _ b hx, nat_succ, Sys.loop, show saleroomref40_Most_S.loops[0]? = some saleroomref40_Most_t0 from rfl]
    have hd : decide (i < l.length) = true := decide_eq_true hi
    have hz : (eqB x.w.a b.a && (eqB x.w.b b.b && (eqB x.w.c b.c && (eqB x.w.d b.d && (eqB x.w.e b.e && eqB x.w.f b.f))))) = x.w.beq b := rfl
    simp -implicitDefEqProofs only [Option.bind_some, saleroomref40_Most_t0, ↓reduceIte, eq_self, evb_ret, evb_ite, evb_need, evb_load, evb_app, evb_cut, evb_chk, evb_appF, evb_call, evb_callv, evb_newM, evb_mkM, evb_storeM, evb_appM, evb_mkMap, evb_mapGet, evb_mapSet, evb_mapClr, evb_jump, BE.safe, BE.pe, IE.pe, PEnv.at, List.getD_cons_zero, List.getD_cons_succ, List.getElem?_cons_zero, List.getElem?_cons_succ, locOf, locOn, readLoc, takeN, Nat.add_zero, List.drop_zero, List.length_cons, List.length_nil, Nat.reduceAdd, Nat.le_refl, if_true, if_false, Bool.false_eq_true, List.take_succ_cons, List.take_zero, bindK, bindRes, bind1, Option.map_some, Option.bind_some, PEnv.push, List.cons_append, List.nil_append, List.append_nil, SV.pvs, SV.pv, BE.all, Bool.and_self, Bool.not_true, Bool.not_false, List.map_cons, List.map_nil, ltB_nat, hd, p1, p2, le0, hloc6, row_eq, drop6, hz]
    cases hbb : x.w.beq b with
    | true => simp -implicitDefEqProofs only [↓reduceIte, eq_self, evb_ret, evb_ite, evb_need, evb_load, evb_app, evb_cut, evb_chk, evb_appF, evb_call, evb_callv, evb_newM, evb_mkM, evb_storeM, evb_appM, evb_mkMap, evb_mapGet, evb_mapSet, evb_mapClr, evb_jump, BE.safe, BE.pe, IE.pe, PEnv.at, List.getD_cons_zero, List.getD_cons_succ, List.getElem?_cons_zero, List.getElem?_cons_succ, locOf, locOn, readLoc, takeN, Nat.add_zero, List.drop_zero, List.length_cons, List.length_nil, Nat.reduceAdd, Nat.le_refl, if_true, if_false, Bool.false_eq_true, List.take_succ_cons, List.take_zero, bindK, bindRes, bind1, Option.map_some, Option.bind_some, PEnv.push, List.cons_append, List.nil_append, List.append_nil, SV.pvs, SV.pv, BE.all, Bool.and_self, Bool.not_true, Bool.not_false, List.map_cons, List.map_nil, if_pos (up_ok (show i ≤ 1000000000 by omega))]
    | false =>
      have c1 := rcost_sem σ x hxo.1 b hbk n (by omega)
      have c2 := rcost_sem σ x hxo.1 x.w hxo.2 n (by omega)
      have d1 := cost_bd hxo.1 hbk
      have d2 := cost_bd hxo.1 hxo.2
      have c3 := final_sem σ l P hP bids B hB hl hb hok x.w n (by omega)
      have d3 := hfb x.w
      simp only [n_saleroomref36_Cost, n_saleroomref40_Final, W6.pv, row_eq] at c1 c2 c3
      have q1 := i64_ok (z := fin l (bids.filter Of.right) x.w + costW x.p b) (by omega)
      have q2 := i64_ok (z := fin l (bids.filter Of.right) x.w + costW x.p b - costW x.p x.w) (by omega)
      simp -implicitDefEqProofs only [↓reduceIte, eq_self, evb_ret, evb_ite, evb_need, evb_load, evb_app, evb_cut, evb_chk, evb_appF, evb_call, evb_callv, evb_newM, evb_mkM, evb_storeM, evb_appM, evb_mkMap, evb_mapGet, evb_mapSet, evb_mapClr, evb_jump, BE.safe, BE.pe, IE.pe, PEnv.at, List.getD_cons_zero, List.getD_cons_succ, List.getElem?_cons_zero, List.getElem?_cons_succ, locOf, locOn, readLoc, takeN, Nat.add_zero, List.drop_zero, List.length_cons, List.length_nil, Nat.reduceAdd, Nat.le_refl, if_true, if_false, Bool.false_eq_true, List.take_succ_cons, List.take_zero, bindK, bindRes, bind1, Option.map_some, Option.bind_some, PEnv.push, List.cons_append, List.nil_append, List.append_nil, SV.pvs, SV.pv, BE.all, Bool.and_self, Bool.not_true, Bool.not_false, List.map_cons, List.map_nil, p1, ltB_nat, hd, le0, hloc, hloc6, row_eq, drop6, c1, c2, c3, if_pos q1, if_pos q2, if_pos (up_ok (show i ≤ 1000000000 by omega))]
  have hd0 : decide (l.length < l.length) = false := by simp
  have x0 : ∀ fuel a, saleroomref40_Most_S.loop (evalF Tab n) (fuel + 1) 0 { i := [a, (l.length : Int), b.a, b.b, b.c, b.d, b.e, b.f], b := [], v := [P, B], m := σ, k := σ.length } = some (.int .i64 a, σ) := by
    intro fuel a
    rw [Sys.loop, show saleroomref40_Most_S.loops[0]? = some saleroomref40_Most_t0 from rfl]
    simp -implicitDefEqProofs only [Option.bind_some, saleroomref40_Most_t0, ↓reduceIte, eq_self, evb_ret, evb_ite, evb_need, evb_load, evb_app, evb_cut, evb_chk, evb_appF, evb_call, evb_callv, evb_newM, evb_mkM, evb_storeM, evb_appM, evb_mkMap, evb_mapGet, evb_mapSet, evb_mapClr, evb_jump, BE.safe, BE.pe, IE.pe, PEnv.at, List.getD_cons_zero, List.getD_cons_succ, List.getElem?_cons_zero, List.getElem?_cons_succ, locOf, locOn, readLoc, takeN, Nat.add_zero, List.drop_zero, List.length_cons, List.length_nil, Nat.reduceAdd, Nat.le_refl, if_true, if_false, Bool.false_eq_true, List.take_succ_cons, List.take_zero, bindK, bindRes, bind1, Option.map_some, Option.bind_some, PEnv.push, List.cons_append, List.nil_append, List.append_nil, SV.pvs, SV.pv, BE.all, Bool.and_self, Bool.not_true, Bool.not_false, List.map_cons, List.map_nil, ltB_nat, hd0, p1, p2, retP, or_true]
  have r0 := loop_all _ s0 n (by omega)
  have t0 : (List.take 0 l) = [] := rfl
  simp only [t0, take_all] at r0
  refine r0.trans ?_
  rw [show n - l.length = (n - l.length - 1) + 1 by omega, x0]
end Go.Proofs.Ytggjcdnailppoaa
set_option maxRecDepth 100000
namespace Go.Proofs.Ytggjcdnailppoaa
open Go.Sx
def p1F (o : Of) : Bool := !o.right
def p2F (l : List Ch) (bids : List Of) (o : Of) : Bool := ltB (mostP l (fin l bids) o.w) o.v
/-- What Check answers. -/
def chkR (l : List Ch) (bids : List Of) : Int × Int :=
  if (l.all fun x => decide x.ok) = true then
    match bids.findIdx? p1F with
    | some i => ((i : Int), 4)
    | none => match bids.findIdx? (p2F l bids) with
      | some i => ((i : Int), 16)
      | none => (0, 0)
  else (0, 4)
def erT (r : Int × Int) : PV := .tup [.int .i64 r.1, .int .i64 r.2]
theorem find_drop {α : Type} (p : α → Bool) {l : List α} {i : Nat} {x : α} (h : l[i]? = some x) : (l.drop i).findIdx? p = if p x = true then some 0 else ((l.drop (i + 1)).findIdx? p).map (· + 1) := by
  rw [drop_cons h, List.findIdx?_cons]
theorem right_ok {o : Of} (h : o.right = true) : o.w.ok ∧ 1 ≤ o.v ∧ o.v ≤ 1000000 := by
  simp only [Of.right, Bool.and_eq_true, decide_eq_true_eq, leB_true] at h
  exact ⟨h.1, h.2.2.1, h.2.2.2⟩
theorem all_right {bids : List Of} (h : bids.findIdx? p1F = none) : ∀ x ∈ bids, x.right = true := by
  intro x hx
  have := List.findIdx?_eq_none_iff.1 h x hx
  simpa [p1F] using this
theorem filter_all {bids : List Of} (h : ∀ x ∈ bids, x.right = true) : bids.filter Of.right = bids := List.filter_eq_self.2 h
section
variable (σ : List MO) (l : List Ch) (P : PV) (hP : P.rowsOf 12 = some (l.map Ch.row)) (bids : List Of) (B : PV) (hB : B.rowsOf 8 = some (bids.map Of.row)) (hl : l.length ≤ 1000) (hb : bids.length ≤ 1000)
include hP hB hl hb in
theorem check40_sem (hσ : σ.all (MO.low σ.length) = true) (hPl : P.low σ.length = true) (hBl : B.low σ.length = true) (n : Nat) (hn : 5000 ≤ n) :
    evalF Tab n n_relcap_Check [P, B] σ = some (erT (chkR l bids), σ) := by
  obtain ⟨n, rfl⟩ : ∃ k, n = k + 1 := ⟨n - 1, by omega⟩
  obtain ⟨p1, p2, p3⟩ := rows_len hP
  obtain ⟨b1, b2, b3⟩ := rows_len hB
  rw [List.length_map] at p1 b1
  have c1 := sound_sem σ l P hP n (by omega) (by omega)
  simp only [n_relcap_sound] at c1
  simp only [evalF, tab_relcap_Check, Option.bind_some, Sys.run]
  show ((bindPs [.sh (.one _), .sh (.one _)] _).bind _) = _
  simp -implicitDefEqProofs only [bindPs, bind1, bindK, Option.map_some, Option.bind_some, List.append_nil, List.nil_append, List.cons_append, if_true, p3, b3]
  show (PT.ev _ relcap_Check_s _).bind _ = _
  simp -implicitDefEqProofs only [relcap_Check_s, ↓reduceIte, eq_self, evb_ret, evb_ite, evb_need, evb_load, evb_app, evb_cut, evb_chk, evb_appF, evb_call, evb_callv, evb_newM, evb_mkM, evb_storeM, evb_appM, evb_mkMap, evb_mapGet, evb_mapSet, evb_mapClr, evb_jump, BE.safe, BE.pe, IE.pe, PEnv.at, List.getD_cons_zero, List.getD_cons_succ, List.getElem?_cons_zero, List.getElem?_cons_succ, locOf, locOn, readLoc, takeN, Nat.add_zero, List.drop_zero, List.length_cons, List.length_nil, Nat.reduceAdd, Nat.le_refl, if_true, if_false, Bool.false_eq_true, List.take_succ_cons, List.take_zero, bindK, bindRes, bind1, Option.map_some, Option.bind_some, PEnv.push, List.cons_append, List.nil_append, List.append_nil, SV.pvs, SV.pv, BE.all, Bool.and_self, Bool.not_true, Bool.not_false, List.map_cons, List.map_nil, c1, chkR]
  by_cases ha : (l.all fun x => decide x.ok) = true
  case neg =>
    rw [if_neg ha]
    rw [Bool.not_eq_true] at ha
    rw [ha]
    simp -implicitDefEqProofs only [↓reduceIte, eq_self, evb_ret, evb_ite, evb_need, evb_load, evb_app, evb_cut, evb_chk, evb_appF, evb_call, evb_callv, evb_newM, evb_mkM, evb_storeM, evb_appM, evb_mkMap, evb_mapGet, evb_mapSet, evb_mapClr, evb_jump, BE.safe, BE.pe, IE.pe, PEnv.at, List.getD_cons_zero, List.getD_cons_succ, List.getElem?_cons_zero, List.getElem?_cons_succ, locOf, locOn, readLoc, takeN, Nat.add_zero, List.drop_zero, List.length_cons, List.length_nil, Nat.reduceAdd, Nat.le_refl, if_true, if_false, Bool.false_eq_true, List.take_succ_cons, List.take_zero, bindK, bindRes, bind1, Option.map_some, Option.bind_some, PEnv.push, List.cons_append, List.nil_append, List.append_nil, SV.pvs, SV.pv, BE.all, Bool.and_self, Bool.not_true, Bool.not_false, List.map_cons, List.map_nil, retP, or_true, erT]
  rw [if_pos ha]
  have hok : ∀ x ∈ l, x.ok := fun x hx => by simpa using (List.all_eq_true.1 ha) x hx
  rw [ha]
  simp -implicitDefEqProofs only [↓reduceIte, eq_self, evb_ret, evb_ite, evb_need, evb_load, evb_app, evb_cut, evb_chk, evb_appF, evb_call, evb_callv, evb_newM, evb_mkM, evb_storeM, evb_appM, evb_mkMap, evb_mapGet, evb_mapSet, evb_mapClr, evb_jump, BE.safe, BE.pe, IE.pe, PEnv.at, List.getD_cons_zero, List.getD_cons_succ, List.getElem?_cons_zero, List.getElem?_cons_succ, locOf, locOn, readLoc, takeN, Nat.add_zero, List.drop_zero, List.length_cons, List.length_nil, Nat.reduceAdd, Nat.le_refl, if_true, if_false, Bool.false_eq_true, List.take_succ_cons, List.take_zero, bindK, bindRes, bind1, Option.map_some, Option.bind_some, PEnv.push, List.cons_append, List.nil_append, List.append_nil, SV.pvs, SV.pv, BE.all, Bool.and_self, Bool.not_true, Bool.not_false, List.map_cons, List.map_nil, b1, b2]
  have L1 : (∀ x ∈ bids, x.right = true) → ∀ F, F = PV.fn n_relcap_finals_1 [.cell [P] 0, .cell [B] 0] → ∀ d i, i + d = bids.length → ∀ fuel,
      relcap_Check_S.loop (evalF Tab n) (fuel + d + 1) 1 { i := [(bids.length : Int), (i : Int)], b := [], v := [P, F, B], m := σ, k := σ.length } =
        some (erT (match (bids.drop i).findIdx? (p2F l bids) with | some j => ((i : Int) + (j : Int), 16) | none => (0, 0)), σ) := by
    intro hr F hF d
    have hfin := fun w => fin1_sem σ l P hP bids B hB hl hb hok w (n - 1) (by omega)
    have hfb := fin_bd hok hr
    induction d with
    | zero =>
      intro i hi fuel
      rw [Nat.add_zero] at hi; subst hi
      have hd : decide (bids.length < bids.length) = false := by simp
      rw [Sys.loop, show relcap_Check_S.loops[1]? = some relcap_Check_t1 from rfl, List.drop_length]
      simp -implicitDefEqProofs only [Option.bind_some, relcap_Check_t1, ↓reduceIte, eq_self, evb_ret, evb_ite, evb_need, evb_load, evb_app, evb_cut, evb_chk, evb_appF, evb_call, evb_callv, evb_newM, evb_mkM, evb_storeM, evb_appM, evb_mkMap, evb_mapGet, evb_mapSet, evb_mapClr, evb_jump, BE.safe, BE.pe, IE.pe, PEnv.at, List.getD_cons_zero, List.getD_cons_succ, List.getElem?_cons_zero, List.getElem?_cons_succ, locOf, locOn, readLoc, takeN, Nat.add_zero, List.drop_zero, List.length_cons, List.length_nil, Nat.reduceAdd, Nat.le_refl, if_true, if_false, Bool.false_eq_true, List.take_succ_cons, List.take_zero, bindK, bindRes, bind1, Option.map_some, Option.bind_some, PEnv.push, List.cons_append, List.nil_append, List.append_nil, SV.pvs, SV.pv, BE.all, Bool.and_self, Bool.not_true, Bool.not_false, List.map_cons, List.map_nil, ltB_nat, hd, retP, or_true, List.findIdx?_nil, erT]
    | succ d ih =>
      intro i hi fuel
      have hlt : i < bids.length := by omega
      obtain ⟨x, hx⟩ := get_ex hlt
      have hd : decide (i < bids.length) = true := decide_eq_true hlt
      have hloc := rows_get (off := 0) hB (rows_ofs hx)
      have hxr := right_ok (hr x (List.mem_of_getElem? hx))
      have e2 := most_sem σ l P hP hl hok n_relcap_finals_1 [.cell [P] 0, .cell [B] 0] (fin l bids) x.w hxr.1 (n - 1) (by omega) (fun w _ => hfin w) (fun w _ => by have := hfb w; omega)
      rw [show n - 1 + 1 = n by omega, ← hF] at e2
      rw [find_drop _ hx, Sys.loop, show relcap_Check_S.loops[1]? = some relcap_Check_t1 from rfl]
      have hp2 : p2F l bids x = ltB (mostP l (fin l bids) x.w) x.v := rfl
      rw [hp2]
      generalize mostP l (fin l bids) x.w = mm at *
      simp only [n_relcap_most, W6.pv] at e2
      simp -implicitDefEqProofs only [Option.bind_some, relcap_Check_t1, ↓reduceIte, eq_self, evb_ret, evb_ite, evb_need, evb_load, evb_app, evb_cut, evb_chk, evb_appF, evb_call, evb_callv, evb_newM, evb_mkM, evb_storeM, evb_appM, evb_mkMap, evb_mapGet, evb_mapSet, evb_mapClr, evb_jump, BE.safe, BE.pe, IE.pe, PEnv.at, List.getD_cons_zero, List.getD_cons_succ, List.getElem?_cons_zero, List.getElem?_cons_succ, locOf, locOn, readLoc, takeN, Nat.add_zero, List.drop_zero, List.length_cons, List.length_nil, Nat.reduceAdd, Nat.le_refl, if_true, if_false, Bool.false_eq_true, List.take_succ_cons, List.take_zero, bindK, bindRes, bind1, Option.map_some, Option.bind_some, PEnv.push, List.cons_append, List.nil_append, List.append_nil, SV.pvs, SV.pv, BE.all, Bool.and_self, Bool.not_true, Bool.not_false, List.map_cons, List.map_nil, ltB_nat, hd, b1, le0, hloc, of_row, e2]
      cases ltB mm x.v with
      | true => simp -implicitDefEqProofs only [↓reduceIte, eq_self, evb_ret, evb_ite, evb_need, evb_load, evb_app, evb_cut, evb_chk, evb_appF, evb_call, evb_callv, evb_newM, evb_mkM, evb_storeM, evb_appM, evb_mkMap, evb_mapGet, evb_mapSet, evb_mapClr, evb_jump, BE.safe, BE.pe, IE.pe, PEnv.at, List.getD_cons_zero, List.getD_cons_succ, List.getElem?_cons_zero, List.getElem?_cons_succ, locOf, locOn, readLoc, takeN, Nat.add_zero, List.drop_zero, List.length_cons, List.length_nil, Nat.reduceAdd, Nat.le_refl, if_true, if_false, Bool.false_eq_true, List.take_succ_cons, List.take_zero, bindK, bindRes, bind1, Option.map_some, Option.bind_some, PEnv.push, List.cons_append, List.nil_append, List.append_nil, SV.pvs, SV.pv, BE.all, Bool.and_self, Bool.not_true, Bool.not_false, List.map_cons, List.map_nil, retP, or_true, erT, Int.cast_ofNat_Int, Int.add_zero]
      | false =>
        have := ih (i + 1) (by omega) fuel
        rw [nat_succ] at this
        simp -implicitDefEqProofs only [↓reduceIte, eq_self, evb_ret, evb_ite, evb_need, evb_load, evb_app, evb_cut, evb_chk, evb_appF, evb_call, evb_callv, evb_newM, evb_mkM, evb_storeM, evb_appM, evb_mkMap, evb_mapGet, evb_mapSet, evb_mapClr, evb_jump, BE.safe, BE.pe, IE.pe, PEnv.at, List.getD_cons_zero, List.getD_cons_succ, List.getElem?_cons_zero, List.getElem?_cons_succ, locOf, locOn, readLoc, takeN, Nat.add_zero, List.drop_zero, List.length_cons, List.length_nil, Nat.reduceAdd, Nat.le_refl, if_true, if_false, Bool.false_eq_true, List.take_succ_cons, List.take_zero, bindK, bindRes, bind1, Option.map_some, Option.bind_some, PEnv.push, List.cons_append, List.nil_append, List.append_nil, SV.pvs, SV.pv, BE.all, Bool.and_self, Bool.not_true, Bool.not_false, List.map_cons, List.map_nil, if_pos (up_ok (show i ≤ 1000000000 by omega))]
        refine this.trans ?_
        cases (bids.drop (i + 1)).findIdx? (p2F l bids) with
        | none => rfl
        | some j => simp only [Option.map_some, erT]; rw [show (i : Int) + 1 + (j : Int) = (i : Int) + ((j + 1 : Nat) : Int) by omega]
  have L0 : ∀ d i, i + d = bids.length → ∀ fuel,
      relcap_Check_S.loop (evalF Tab n) (fuel + d + 1) 0 { i := [(bids.length : Int), (i : Int)], b := [], v := [P, B], m := σ, k := σ.length } =
        match (bids.drop i).findIdx? p1F with
        | some j => some (erT ((i : Int) + (j : Int), 4), σ)
        | none => relcap_Check_S.loop (evalF Tab n) fuel 1 { i := [(bids.length : Int), 0], b := [], v := [P, PV.fn n_relcap_finals_1 [.cell [P] 0, .cell [B] 0], B], m := σ, k := σ.length } := by
    intro d
    induction d with
    | zero =>
      intro i hi fuel
      rw [Nat.add_zero] at hi; subst hi
      have hd : decide (bids.length < bids.length) = false := by simp
      have e1 := finals_sem σ P B p3 b3 hPl hBl n (by omega) hσ
      simp only [n_relcap_finals] at e1
      have hone : (PV.fn n_relcap_finals_1 [.cell [P] 0, .cell [B] 0]).one = true := rfl
      rw [Sys.loop, show relcap_Check_S.loops[0]? = some relcap_Check_t0 from rfl, List.drop_length]
      simp -implicitDefEqProofs only [Option.bind_some, relcap_Check_t0, ↓reduceIte, eq_self, evb_ret, evb_ite, evb_need, evb_load, evb_app, evb_cut, evb_chk, evb_appF, evb_call, evb_callv, evb_newM, evb_mkM, evb_storeM, evb_appM, evb_mkMap, evb_mapGet, evb_mapSet, evb_mapClr, evb_jump, BE.safe, BE.pe, IE.pe, PEnv.at, List.getD_cons_zero, List.getD_cons_succ, List.getElem?_cons_zero, List.getElem?_cons_succ, locOf, locOn, readLoc, takeN, Nat.add_zero, List.drop_zero, List.length_cons, List.length_nil, Nat.reduceAdd, Nat.le_refl, if_true, if_false, Bool.false_eq_true, List.take_succ_cons, List.take_zero, bindK, bindRes, bind1, Option.map_some, Option.bind_some, PEnv.push, List.cons_append, List.nil_append, List.append_nil, SV.pvs, SV.pv, BE.all, Bool.and_self, Bool.not_true, Bool.not_false, List.map_cons, List.map_nil, ltB_nat, hd, e1, hone, b1, b2, List.findIdx?_nil]
    | succ d ih =>
      intro i hi fuel
      have hlt : i < bids.length := by omega
      obtain ⟨x, hx⟩ := get_ex hlt
      have hd : decide (i < bids.length) = true := decide_eq_true hlt
      have hloc := rows_get (off := 0) hB (rows_ofs hx)
      have c1 := relcap_valid_sem σ x n (by omega)
      rw [find_drop _ hx, Sys.loop, show relcap_Check_S.loops[0]? = some relcap_Check_t0 from rfl]
      have hp : p1F x = !x.right := rfl
      rw [hp]
      generalize x.right = r at *
      simp only [n_relcap_valid, of_row] at c1
      simp -implicitDefEqProofs only [Option.bind_some, relcap_Check_t0, ↓reduceIte, eq_self, evb_ret, evb_ite, evb_need, evb_load, evb_app, evb_cut, evb_chk, evb_appF, evb_call, evb_callv, evb_newM, evb_mkM, evb_storeM, evb_appM, evb_mkMap, evb_mapGet, evb_mapSet, evb_mapClr, evb_jump, BE.safe, BE.pe, IE.pe, PEnv.at, List.getD_cons_zero, List.getD_cons_succ, List.getElem?_cons_zero, List.getElem?_cons_succ, locOf, locOn, readLoc, takeN, Nat.add_zero, List.drop_zero, List.length_cons, List.length_nil, Nat.reduceAdd, Nat.le_refl, if_true, if_false, Bool.false_eq_true, List.take_succ_cons, List.take_zero, bindK, bindRes, bind1, Option.map_some, Option.bind_some, PEnv.push, List.cons_append, List.nil_append, List.append_nil, SV.pvs, SV.pv, BE.all, Bool.and_self, Bool.not_true, Bool.not_false, List.map_cons, List.map_nil, ltB_nat, hd, b1, le0, hloc, of_row, c1]
      cases r with
      | false => simp -implicitDefEqProofs only [↓reduceIte, eq_self, evb_ret, evb_ite, evb_need, evb_load, evb_app, evb_cut, evb_chk, evb_appF, evb_call, evb_callv, evb_newM, evb_mkM, evb_storeM, evb_appM, evb_mkMap, evb_mapGet, evb_mapSet, evb_mapClr, evb_jump, BE.safe, BE.pe, IE.pe, PEnv.at, List.getD_cons_zero, List.getD_cons_succ, List.getElem?_cons_zero, List.getElem?_cons_succ, locOf, locOn, readLoc, takeN, Nat.add_zero, List.drop_zero, List.length_cons, List.length_nil, Nat.reduceAdd, Nat.le_refl, if_true, if_false, Bool.false_eq_true, List.take_succ_cons, List.take_zero, bindK, bindRes, bind1, Option.map_some, Option.bind_some, PEnv.push, List.cons_append, List.nil_append, List.append_nil, SV.pvs, SV.pv, BE.all, Bool.and_self, Bool.not_true, Bool.not_false, List.map_cons, List.map_nil, retP, or_true, erT, Int.cast_ofNat_Int, Int.add_zero]
      | true =>
        have := ih (i + 1) (by omega) fuel
        rw [nat_succ] at this
        simp -implicitDefEqProofs only [↓reduceIte, eq_self, evb_ret, evb_ite, evb_need, evb_load, evb_app, evb_cut, evb_chk, evb_appF, evb_call, evb_callv, evb_newM, evb_mkM, evb_storeM, evb_appM, evb_mkMap, evb_mapGet, evb_mapSet, evb_mapClr, evb_jump, BE.safe, BE.pe, IE.pe, PEnv.at, List.getD_cons_zero, List.getD_cons_succ, List.getElem?_cons_zero, List.getElem?_cons_succ, locOf, locOn, readLoc, takeN, Nat.add_zero, List.drop_zero, List.length_cons, List.length_nil, Nat.reduceAdd, Nat.le_refl, if_true, if_false, Bool.false_eq_true, List.take_succ_cons, List.take_zero, bindK, bindRes, bind1, Option.map_some, Option.bind_some, PEnv.push, List.cons_append, List.nil_append, List.append_nil, SV.pvs, SV.pv, BE.all, Bool.and_self, Bool.not_true, Bool.not_false, List.map_cons, List.map_nil, if_pos (up_ok (show i ≤ 1000000000 by omega))]
        refine this.trans ?_
        cases (bids.drop (i + 1)).findIdx? p1F with
        | none => rfl
        | some j => simp only [Option.map_some, erT]; rw [show (i : Int) + 1 + (j : Int) = (i : Int) + ((j + 1 : Nat) : Int) by omega]
  have r0 := L0 bids.length 0 (by omega) (n - bids.length - 1)
  rw [show n - bids.length - 1 + bids.length + 1 = n by omega, List.drop_zero] at r0
  refine r0.trans ?_
  cases hf : bids.findIdx? p1F with
  | some j => simp only [erT, Int.cast_ofNat_Int, Int.zero_add]
  | none =>
    have r1 := L1 (all_right hf) _ rfl bids.length 0 (by omega) (n - bids.length - 1 - bids.length - 1)
    rw [show n - bids.length - 1 - bids.length - 1 + bids.length + 1 = n - bids.length - 1 by omega, List.drop_zero] at r1
    refine r1.trans ?_
    cases bids.findIdx? (p2F l bids) with
    | none => rfl
    | some j => simp only [erT, Int.cast_ofNat_Int, Int.zero_add]
end
end Go.Proofs.Ytggjcdnailppoaa
set_option maxRecDepth 100000
namespace Go.Proofs.Ytggjcdnailppoaa
open Go.Sx
theorem finB_ge (l : List Of) (b : W6) : ∀ a, a ≤ finB l b a := by
  induction l with
  | nil => intro a; exact Int.le_refl _
  | cons x l ih =>
    intro a
    simp only [finB, List.foldl_cons]
    refine Int.le_trans ?_ (ih _)
    by_cases hb : x.w.beq b = true
    · rw [if_pos hb]; unfold mxI; split <;> omega
    · rw [if_neg hb]; exact Int.le_refl _
theorem finB_app (l m : List Of) (b : W6) (a : Int) : finB (l ++ m) b a = finB m b (finB l b a) := by simp [finB]
theorem mostP_mono {f f' : W6 → Int} (h : ∀ w, f w ≤ f' w) (b : W6) (l : List Ch) : mostP l f b ≤ mostP l f' b := by
  have : ∀ (l : List Ch) (a a' : Int), a ≤ a' → l.foldl (fun v c => if c.w.beq b = true then v else mnI v (f c.w + costW c.p b - costW c.p c.w)) a ≤ l.foldl (fun v c => if c.w.beq b = true then v else mnI v (f' c.w + costW c.p b - costW c.p c.w)) a' := by
    intro l
    induction l with
    | nil => intro a a' h; exact h
    | cons x l ih =>
      intro a a' ha
      simp only [List.foldl_cons]
      refine ih _ _ ?_
      by_cases hb : x.w.beq b = true
      · rw [if_pos hb, if_pos hb]; exact ha
      · rw [if_neg hb, if_neg hb]
        have := h x.w
        unfold mnI; split <;> split <;> omega
  exact this l _ _ (Int.le_refl _)
theorem capV_more (l : List Ch) (bids more : List Of) (b : W6) : capV l bids b ≤ capV l (bids ++ more) b := by
  unfold capV
  split
  · split
    · refine mostP_mono (fun w => ?_) b l
      rw [List.filter_append]
      unfold fin
      rw [finB_app]
      exact finB_ge _ _ _
    · exact Int.le_refl _
  · exact Int.le_refl _
theorem capV_nil (bids : List Of) (b : W6) : capV [] bids b = if b.ok then 1000000 else 0 := by
  unfold capV
  rw [if_pos (by rfl)]
  rfl
theorem chkR_one (o : Of) : eqB (chkR [] [o]).2 0 = o.right := by
  unfold chkR
  rw [if_pos (by rfl)]
  cases hr : o.right with
  | false => simp [p1F, hr, List.findIdx?_cons, eqB]
  | true =>
    have hv := (right_ok hr).2.2
    have : ltB (mostP [] (fin [] [o]) o.w) o.v = false := by rw [ltB_false]; show ¬ 1000000 < o.v; omega
    simp [p1F, hr, List.findIdx?_cons, p2F, this, eqB]
end Go.Proofs.Ytggjcdnailppoaa
