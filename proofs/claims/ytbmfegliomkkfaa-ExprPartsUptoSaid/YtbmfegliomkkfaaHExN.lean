/- Check, the program's and the reference's. -/
import Derived.Test.YtbmfegliomkkfaaHExM
set_option linter.unusedSimpArgs false
set_option linter.unusedVariables false
set_option maxRecDepth 100000
namespace Go.Proofs.Ytbmfegliomkkfaa
open Go.Sx
def ndErr (x : Ex) : Int := if x.form then (if x.rng then 0 else 4) else 2
def nodesErr : List Ex → Int
  | [] => 0
  | x :: l => if ndErr x = 0 then nodesErr l else ndErr x
def chk (e : Ex) : Int := if 6 < e.depth then 9 else if 40 < e.size then 3 else if e.pre.all (fun x => decide (x.len ≤ 8)) then nodesErr e.pre else 3
theorem stopAt_all (g : Ex → Bool) : ∀ (l p : List Ex), (l.all g = true → stopAt (fun _ x => g x) p l = none) ∧ (l.all g = false → ∃ q x, stopAt (fun _ x => g x) p l = some (q, x))
  | [], p => by simp [stopAt]
  | x :: l, p => by
    have ih := stopAt_all g l (p ++ [x])
    cases hg : g x with
    | true => simpa [stopAt, hg] using ih
    | false => exact ⟨by simp [hg], fun _ => ⟨p, x, by simp [stopAt, hg]⟩⟩
theorem stopAt_err : ∀ (l p : List Ex), (∃ q x, stopAt (fun _ x => decide (ndErr x = 0)) p l = some (q, x) ∧ ndErr x = nodesErr l) ∨ (stopAt (fun _ x => decide (ndErr x = 0)) p l = none ∧ nodesErr l = 0)
  | [], p => .inr ⟨rfl, rfl⟩
  | x :: l, p => by
    by_cases hx : ndErr x = 0
    · simpa [stopAt, hx, nodesErr] using stopAt_err l (p ++ [x])
    · exact .inl ⟨p, x, by simp [stopAt, hx], by simp [nodesErr, hx]⟩
theorem wide_visits (σ : List MO) (all : List Ex) : Visits n_expr_Check_1 [] 1 all (fun _ => σ) (fun _ x => decide (x.len ≤ 8)) (fun _ _ => σ) where
  at_ p x r row hall hrow n hn := by
    obtain ⟨n, rfl⟩ : ∃ k, n = k + 1 := ⟨n - 1, by omega⟩
    obtain ⟨op, a, b, c, d, e', f, v, l⟩ := x
    simp only [IsE] at hrow
    obtain ⟨x, rows, rfl, hx, hl⟩ := hrow
    obtain ⟨x1, x2, x3⟩ := rows_len hx
    have hlen := hl.length
    simp only [evalF, tab_expr_Check_1, Option.bind_some, Sys.run]
    show ((bindPs [.sh (.agg [_, _, _, _, _, _, _, _, _])] _).bind _) = _
    simp only [bindPs, bind1, bindK, Option.map_some, Option.bind_some, List.append_nil, List.nil_append, List.cons_append, if_true, x3]
    show (PT.ev _ expr_Check_1_s _).bind _ = _
    have hle : leB (rows.length : Int) 8 = decide (l.length ≤ 8) := by rw [hlen]; unfold leB; congr 1; rw [eq_iff_iff]; omega
    simp -implicitDefEqProofs only [expr_Check_1_s, ↓reduceIte, PT.ev, BE.safe, BE.pe, IE.pe, PEnv.at, List.getD_cons_zero, List.getD_cons_succ, List.getElem?_cons_zero, List.getElem?_cons_succ, locOf, locOn, readLoc, takeN, Nat.add_zero, List.drop_zero, List.length_cons, List.length_nil, Nat.reduceAdd, Nat.le_refl, if_true, if_false, Bool.false_eq_true, List.take_succ_cons, List.take_zero, bindK, bindRes, bind1, Option.map_some, Option.bind_some, PEnv.push, List.cons_append, List.nil_append, List.append_nil, SV.pvs, SV.pv, BE.all, Bool.and_self, Bool.not_true, Bool.not_false, List.map_cons, List.map_nil, retP, or_true, x1, x2, hle, Ex.len]
    by_cases h : l.length ≤ 8 <;> simp [h]
theorem nodes_visits (σ : List MO) (all : List Ex) :
    Visits n_expr_Check_2 [.ref σ.length 0] 3 all (fun _ => σ ++ [.cells [.int .i64 0] 51]) (fun _ x => decide (ndErr x = 0)) (fun _ x => σ ++ [.cells [.int .i64 (ndErr x)] 51]) where
  at_ p x r row hall hrow n hn := by
    obtain ⟨n, rfl⟩ : ∃ k, n = k + 1 := ⟨n - 1, by omega⟩
    have c1 := form_sem (σ ++ [.cells [.int .i64 0] 51]) x row hrow n (by omega)
    have c2 := ranged_sem (σ ++ [.cells [.int .i64 0] 51]) x row hrow n (by omega)
    have hnd : ndErr x = if x.form then (if x.rng then 0 else 4) else 2 := rfl
    generalize ndErr x = nd at *
    obtain ⟨bf, hf⟩ : ∃ b, x.form = b := ⟨_, rfl⟩
    obtain ⟨br, hr⟩ : ∃ b, x.rng = b := ⟨_, rfl⟩
    rw [hf] at c1
    rw [hr] at c2
    simp only [hf, hr] at hnd
    clear hf hr
    obtain ⟨op, a, b, c, d, e', f, v, l⟩ := x
    simp only [IsE] at hrow
    obtain ⟨x, rows, rfl, hx, hl⟩ := hrow
    obtain ⟨x1, x2, x3⟩ := rows_len hx
    simp only [n_expr_form, n_expr_ranged] at c1 c2
    simp only [evalF, tab_expr_Check_2, Option.bind_some, Sys.run]
    show ((bindPs [.sh (.agg [_, _, _, _, _, _, _, _, _]), .ptr] _).bind _) = _
    have hptr : (PV.ref σ.length 0).isPtr = true := rfl
    simp only [bindPs, bind1, bindK, Option.map_some, Option.bind_some, List.append_nil, List.nil_append, List.cons_append, if_true, x3, hptr]
    show (PT.ev _ expr_Check_2_s _).bind _ = _
    have hget : ∀ z, (σ ++ [MO.cells [.int .i64 z] 51])[σ.length]? = some (.cells [.int .i64 z] 51) := by simp
    have e2 : eqB 2 0 = false := rfl
    have e4 : eqB 4 0 = false := rfl
    cases bf with
    | false =>
      obtain rfl : nd = 2 := hnd
      simp -implicitDefEqProofs only [expr_Check_2_s, ↓reduceIte, PT.ev, BE.safe, BE.pe, IE.pe, PEnv.at, List.getD_cons_zero, List.getD_cons_succ, List.getElem?_cons_zero, List.getElem?_cons_succ, locOf, locOn, readLoc, takeN, Nat.add_zero, List.drop_zero, List.length_cons, List.length_nil, Nat.reduceAdd, Nat.le_refl, if_true, if_false, Bool.false_eq_true, List.take_succ_cons, List.take_zero, bindK, bindRes, bind1, Option.map_some, Option.bind_some, PEnv.push, List.cons_append, List.nil_append, List.append_nil, SV.pvs, SV.pv, BE.all, Bool.and_self, Bool.not_true, Bool.not_false, List.map_cons, List.map_nil, c1, hget, MO.list, setP, Nat.zero_add, List.drop_succ_cons, List.drop_nil, set_last, retP, true_or, e2]
      rfl
    | true =>
      cases br with
      | false =>
        obtain rfl : nd = 4 := hnd
        simp -implicitDefEqProofs only [expr_Check_2_s, ↓reduceIte, PT.ev, BE.safe, BE.pe, IE.pe, PEnv.at, List.getD_cons_zero, List.getD_cons_succ, List.getElem?_cons_zero, List.getElem?_cons_succ, locOf, locOn, readLoc, takeN, Nat.add_zero, List.drop_zero, List.length_cons, List.length_nil, Nat.reduceAdd, Nat.le_refl, if_true, if_false, Bool.false_eq_true, List.take_succ_cons, List.take_zero, bindK, bindRes, bind1, Option.map_some, Option.bind_some, PEnv.push, List.cons_append, List.nil_append, List.append_nil, SV.pvs, SV.pv, BE.all, Bool.and_self, Bool.not_true, Bool.not_false, List.map_cons, List.map_nil, c1, c2, hget, MO.list, setP, Nat.zero_add, List.drop_succ_cons, List.drop_nil, set_last, retP, true_or, e4]
        rfl
      | true =>
        obtain rfl : nd = 0 := hnd
        simp -implicitDefEqProofs only [expr_Check_2_s, ↓reduceIte, PT.ev, BE.safe, BE.pe, IE.pe, PEnv.at, List.getD_cons_zero, List.getD_cons_succ, List.getElem?_cons_zero, List.getElem?_cons_succ, locOf, locOn, readLoc, takeN, Nat.add_zero, List.drop_zero, List.length_cons, List.length_nil, Nat.reduceAdd, Nat.le_refl, if_true, if_false, Bool.false_eq_true, List.take_succ_cons, List.take_zero, bindK, bindRes, bind1, Option.map_some, Option.bind_some, PEnv.push, List.cons_append, List.nil_append, List.append_nil, SV.pvs, SV.pv, BE.all, Bool.and_self, Bool.not_true, Bool.not_false, List.map_cons, List.map_nil, c1, c2, hget, MO.list, setP, Nat.zero_add, List.drop_succ_cons, List.drop_nil, set_last, retP, true_or, eqB_self]
        rfl
theorem check_sem (σ : List MO) (hσ : σ.all (MO.low σ.length) = true) (e : Ex) (row : List PV) (hrow : IsE e row) (n : Nat) (hn : e.size + 8 ≤ n) (hbig : e.size ≤ 1000000) :
    evalF Tab n n_expr_Check [.agg row] σ = some (.int .i64 (chk e), σ) := by
  obtain ⟨n, rfl⟩ : ∃ k, n = k + 1 := ⟨n - 1, by omega⟩
  have c1 := depth_sem σ e row hrow n (by omega) hbig
  have c2 := size_sem σ hσ e row hrow n (by omega) hbig
  have w1 := walk_sem (wide_visits σ e.pre) e row [] [] (by simp) hrow n (by omega) hbig
  have w2 := walk_sem (nodes_visits σ e.pre) e row [] [] (by simp) hrow n (by omega) hbig
  have s1 := stopAt_all (fun x => decide (x.len ≤ 8)) e.pre []
  have s2 := stopAt_err e.pre []
  simp only [chk]
  generalize e.pre = pr at *
  generalize nodesErr pr = ne at *
  obtain ⟨op, a, b, c, d, e', f, v, l⟩ := e
  simp only [IsE] at hrow
  obtain ⟨x, rows, rfl, hx, hl⟩ := hrow
  obtain ⟨x1, x2, x3⟩ := rows_len hx
  generalize hy0 : Ex.node op a b c d e' f v l = y0 at *
  simp only [n_expr_Depth, n_expr_Size, n_expr_walker_walk, n_expr_Check_1, n_expr_Check_2] at c1 c2 w1 w2
  simp only [evalF, tab_expr_Check, Option.bind_some, Sys.run]
  show ((bindPs [.sh (.agg [_, _, _, _, _, _, _, _, _])] _).bind _) = _
  simp only [bindPs, bind1, bindK, Option.map_some, Option.bind_some, List.append_nil, List.nil_append, List.cons_append, if_true, x3]
  show (PT.ev _ expr_Check_s _).bind _ = _
  simp -implicitDefEqProofs only [expr_Check_s, ↓reduceIte, PT.ev, BE.safe, BE.pe, IE.pe, PEnv.at, List.getD_cons_zero, List.getD_cons_succ, List.getElem?_cons_zero, List.getElem?_cons_succ, locOf, locOn, readLoc, takeN, Nat.add_zero, List.drop_zero, List.length_cons, List.length_nil, Nat.reduceAdd, Nat.le_refl, if_true, if_false, Bool.false_eq_true, List.take_succ_cons, List.take_zero, bindK, bindRes, bind1, Option.map_some, Option.bind_some, PEnv.push, List.cons_append, List.nil_append, List.append_nil, SV.pvs, SV.pv, BE.all, Bool.and_self, Bool.not_true, Bool.not_false, List.map_cons, List.map_nil, c1, ltB_true]
  by_cases h1 : 6 < y0.depth
  · simp -implicitDefEqProofs only [if_pos h1, ↓reduceIte, PT.ev, BE.safe, BE.pe, IE.pe, PEnv.at, List.getD_cons_zero, List.getD_cons_succ, List.getElem?_cons_zero, List.getElem?_cons_succ, locOf, locOn, readLoc, takeN, Nat.add_zero, List.drop_zero, List.length_cons, List.length_nil, Nat.reduceAdd, Nat.le_refl, if_true, if_false, Bool.false_eq_true, List.take_succ_cons, List.take_zero, bindK, bindRes, bind1, Option.map_some, Option.bind_some, PEnv.push, List.cons_append, List.nil_append, List.append_nil, SV.pvs, SV.pv, BE.all, Bool.and_self, Bool.not_true, Bool.not_false, List.map_cons, List.map_nil, retP, or_true]
  simp -implicitDefEqProofs only [if_neg h1, ↓reduceIte, PT.ev, BE.safe, BE.pe, IE.pe, PEnv.at, List.getD_cons_zero, List.getD_cons_succ, List.getElem?_cons_zero, List.getElem?_cons_succ, locOf, locOn, readLoc, takeN, Nat.add_zero, List.drop_zero, List.length_cons, List.length_nil, Nat.reduceAdd, Nat.le_refl, if_true, if_false, Bool.false_eq_true, List.take_succ_cons, List.take_zero, bindK, bindRes, bind1, Option.map_some, Option.bind_some, PEnv.push, List.cons_append, List.nil_append, List.append_nil, SV.pvs, SV.pv, BE.all, Bool.and_self, Bool.not_true, Bool.not_false, List.map_cons, List.map_nil]
  cases ha : pr.all (fun x => decide (x.len ≤ 8)) with
  | false =>
    obtain ⟨q, x', hs⟩ := s1.2 ha
    simp only [hs, visitR] at w1
    simp -implicitDefEqProofs only [↓reduceIte, PT.ev, BE.safe, BE.pe, IE.pe, PEnv.at, List.getD_cons_zero, List.getD_cons_succ, List.getElem?_cons_zero, List.getElem?_cons_succ, locOf, locOn, readLoc, takeN, Nat.add_zero, List.drop_zero, List.length_cons, List.length_nil, Nat.reduceAdd, Nat.le_refl, if_true, if_false, Bool.false_eq_true, List.take_succ_cons, List.take_zero, bindK, bindRes, bind1, Option.map_some, Option.bind_some, PEnv.push, List.cons_append, List.nil_append, List.append_nil, SV.pvs, SV.pv, BE.all, Bool.and_self, Bool.not_true, Bool.not_false, List.map_cons, List.map_nil, w1, retP, or_true, ite_self]
  | true =>
    simp only [s1.1 ha, visitR] at w1
    simp -implicitDefEqProofs only [↓reduceIte, PT.ev, BE.safe, BE.pe, IE.pe, PEnv.at, List.getD_cons_zero, List.getD_cons_succ, List.getElem?_cons_zero, List.getElem?_cons_succ, locOf, locOn, readLoc, takeN, Nat.add_zero, List.drop_zero, List.length_cons, List.length_nil, Nat.reduceAdd, Nat.le_refl, if_true, if_false, Bool.false_eq_true, List.take_succ_cons, List.take_zero, bindK, bindRes, bind1, Option.map_some, Option.bind_some, PEnv.push, List.cons_append, List.nil_append, List.append_nil, SV.pvs, SV.pv, BE.all, Bool.and_self, Bool.not_true, Bool.not_false, List.map_cons, List.map_nil, w1, c2, ltB_true]
    by_cases h2 : 40 < y0.size
    · rw [if_pos (by omega)]
      simp -implicitDefEqProofs only [if_pos h2, ↓reduceIte, PT.ev, BE.safe, BE.pe, IE.pe, PEnv.at, List.getD_cons_zero, List.getD_cons_succ, List.getElem?_cons_zero, List.getElem?_cons_succ, locOf, locOn, readLoc, takeN, Nat.add_zero, List.drop_zero, List.length_cons, List.length_nil, Nat.reduceAdd, Nat.le_refl, if_true, if_false, Bool.false_eq_true, List.take_succ_cons, List.take_zero, bindK, bindRes, bind1, Option.map_some, Option.bind_some, PEnv.push, List.cons_append, List.nil_append, List.append_nil, SV.pvs, SV.pv, BE.all, Bool.and_self, Bool.not_true, Bool.not_false, List.map_cons, List.map_nil, retP, or_true]
    · rw [if_neg (by omega)]
      have hget : ∀ z, (σ ++ [MO.cells [.int .i64 z] 51])[σ.length]? = some (.cells [.int .i64 z] 51) := by simp
      have hσ' : ∀ x ∈ σ, MO.low σ.length x = true := List.all_eq_true.1 hσ
      have hne : ¬ (σ ++ [MO.cells [.int .i64 ne] 51]).length = σ.length := by simp
      have htk : (σ ++ [MO.cells [.int .i64 ne] 51]).take σ.length = σ := by simp
      rcases s2 with ⟨q, x', hs, hx'⟩ | ⟨hs, hz⟩
      · simp only [hs, visitR, hx'] at w2
        simp -implicitDefEqProofs only [if_neg h2, ↓reduceIte, PT.ev, BE.safe, BE.pe, IE.pe, PEnv.at, List.getD_cons_zero, List.getD_cons_succ, List.getElem?_cons_zero, List.getElem?_cons_succ, locOf, locOn, readLoc, takeN, Nat.add_zero, List.drop_zero, List.length_cons, List.length_nil, Nat.reduceAdd, Nat.le_refl, if_true, if_false, Bool.false_eq_true, List.take_succ_cons, List.take_zero, bindK, bindRes, bind1, Option.map_some, Option.bind_some, PEnv.push, List.cons_append, List.nil_append, List.append_nil, SV.pvs, SV.pv, BE.all, Bool.and_self, Bool.not_true, Bool.not_false, List.map_cons, List.map_nil, SV.pvs, PV.on, hget, MO.list, setP, Nat.zero_add, List.drop_succ_cons, List.drop_nil, set_last, w2, retP, Bool.false_eq_true, false_or, if_neg hne, htk, hσ, PV.frz]
      · simp only [hs, visitR] at w2
        subst hz
        simp -implicitDefEqProofs only [if_neg h2, ↓reduceIte, PT.ev, BE.safe, BE.pe, IE.pe, PEnv.at, List.getD_cons_zero, List.getD_cons_succ, List.getElem?_cons_zero, List.getElem?_cons_succ, locOf, locOn, readLoc, takeN, Nat.add_zero, List.drop_zero, List.length_cons, List.length_nil, Nat.reduceAdd, Nat.le_refl, if_true, if_false, Bool.false_eq_true, List.take_succ_cons, List.take_zero, bindK, bindRes, bind1, Option.map_some, Option.bind_some, PEnv.push, List.cons_append, List.nil_append, List.append_nil, SV.pvs, SV.pv, BE.all, Bool.and_self, Bool.not_true, Bool.not_false, List.map_cons, List.map_nil, SV.pvs, PV.on, hget, MO.list, setP, Nat.zero_add, List.drop_succ_cons, List.drop_nil, set_last, w2, retP, Bool.false_eq_true, false_or, if_neg hne, htk, hσ, PV.frz]
theorem rcheck_sem (σ : List MO) (e : Ex) (row : List PV) (hrow : IsE e row) (n : Nat) (hn : e.size + 100 ≤ n) (hbig : e.size ≤ 1000000) :
    evalF Tab n n_saleroomref11_Check [.agg row] σ = some (.int .i64 (chk e), σ) := by
  obtain ⟨n, rfl⟩ : ∃ k, n = k + 1 := ⟨n - 1, by omega⟩
  have c1 := rdepth_sem σ e row hrow n (by omega) hbig
  obtain ⟨nrows, hcall, hnr⟩ := pre_sem σ e row hrow n (by omega) hbig
  have hnl := hnr.length
  rw [Ex.pre_len] at hnl
  simp only [chk]
  have hal := Ex.pre_len e
  generalize hall : e.pre = all at *
  have z2 : (PV.sl 9 nrows).isKind 0 = true := rfl
  have z1 : (PV.sl 9 nrows).len = nrows.length := rfl
  have z3 : (PV.sl 9 nrows).one = true := rfl
  have hrowi : ∀ (i : Nat) (e1 : Ex), all[i]? = some e1 → ∃ r1, nrows[i]? = some r1 ∧ IsE e1 r1 := by
    intro i e1 he1
    have hd := hnr.split i
    rw [drop_cons he1] at hd
    simp only [IsEs] at hd
    obtain ⟨r1, rs, hd1, hd2, hd3⟩ := hd
    exact ⟨r1, head_drop hd1, hd2⟩
  have loop1 : ∀ (fuel : Nat) (i k : Nat), all.length ≤ 40 → all.length - i < fuel → i ≤ all.length → 
      saleroomref11_Check_S.loop (evalF Tab n) fuel 1 { i := [(i : Int)], b := [], v := [.sl 9 nrows], m := σ, k := σ.length } = some (.int .i64 (nodesErr (all.drop i)), σ) := by
    intro fuel
    induction fuel with
    | zero => intro i k _ h; omega
    | succ fuel ihf =>
      intro i k h0 h1 h2
      rw [Sys.loop, show saleroomref11_Check_S.loops[1]? = some saleroomref11_Check_t1 from rfl]
      simp -implicitDefEqProofs only [Option.bind_some, saleroomref11_Check_t1, ↓reduceIte, PT.ev, BE.safe, BE.pe, IE.pe, PEnv.at, List.getD_cons_zero, List.getD_cons_succ, List.getElem?_cons_zero, List.getElem?_cons_succ, locOf, locOn, readLoc, takeN, Nat.add_zero, List.drop_zero, List.length_cons, List.length_nil, Nat.reduceAdd, Nat.le_refl, if_true, if_false, Bool.false_eq_true, List.take_succ_cons, List.take_zero, bindK, bindRes, bind1, Option.map_some, Option.bind_some, PEnv.push, List.cons_append, List.nil_append, List.append_nil, SV.pvs, SV.pv, BE.all, Bool.and_self, Bool.not_true, Bool.not_false, List.map_cons, List.map_nil, ltB_nat, decide_eq_true_eq, z1, z2]
      by_cases hlt : i < nrows.length
      · obtain ⟨e1, he1⟩ : ∃ e1, all[i]? = some e1 := ⟨_, List.getElem?_eq_getElem (by omega)⟩
        obtain ⟨r1, hr, hd2⟩ := hrowi i e1 he1
        rw [drop_cons he1]
        simp only [nodesErr]
        have hloc : ∀ off, locEl (i : Int) 9 off (.sl 9 nrows) = some (.row r1 off) := fun off => rows_get (rowsOf_sl 9 nrows) hr
        rw [if_pos hlt]
        have f1 := formed_sem σ e1 r1 hd2 n (by omega)
        have f2 := rranged_sem σ e1 r1 hd2 n (by omega)
        have hnd : ndErr e1 = if e1.form then (if e1.rng then 0 else 4) else 2 := rfl
        generalize ndErr e1 = nd at *
        obtain ⟨bf, hf⟩ : ∃ b, e1.form = b := ⟨_, rfl⟩
        obtain ⟨br, hr'⟩ : ∃ b, e1.rng = b := ⟨_, rfl⟩
        rw [hf] at f1
        rw [hr'] at f2
        simp only [hf, hr'] at hnd
        clear hf hr'
        obtain ⟨op1, a1, b1, c1, d1, e1', f1', v1, l1⟩ := e1
        simp only [IsE] at hd2
        obtain ⟨y, rows1, rfl, hy, hl1⟩ := hd2
        obtain ⟨y1, y2, y3⟩ := rows_len hy
        have q1 : (leB 0 (i : Int) && decide (i < nrows.length)) = true := by simp [leB, hlt]
        have q2 : (leB (-9223372036854775808) ((i : Int) + 1) && leB ((i : Int) + 1) 9223372036854775807) = true := by simp [leB]; omega
        have := ihf (i + 1) k h0 (by omega) (by omega)
        rw [show ((i + 1 : Nat) : Int) = (i : Int) + 1 from by omega] at this
        simp only [n_saleroomref11_formed, n_saleroomref11_ranged] at f1 f2
        cases bf with
        | false =>
          obtain rfl : nd = 2 := hnd
          simp -implicitDefEqProofs only [↓reduceIte, PT.ev, BE.safe, BE.pe, IE.pe, PEnv.at, List.getD_cons_zero, List.getD_cons_succ, List.getElem?_cons_zero, List.getElem?_cons_succ, locOf, locOn, readLoc, takeN, Nat.add_zero, List.drop_zero, List.length_cons, List.length_nil, Nat.reduceAdd, Nat.le_refl, if_true, if_false, Bool.false_eq_true, List.take_succ_cons, List.take_zero, bindK, bindRes, bind1, Option.map_some, Option.bind_some, PEnv.push, List.cons_append, List.nil_append, List.append_nil, SV.pvs, SV.pv, BE.all, Bool.and_self, Bool.not_true, Bool.not_false, List.map_cons, List.map_nil, q1, hloc, y3, f1, retP, or_true]; rfl
        | true =>
          cases br with
          | false =>
            obtain rfl : nd = 4 := hnd
            simp -implicitDefEqProofs only [↓reduceIte, PT.ev, BE.safe, BE.pe, IE.pe, PEnv.at, List.getD_cons_zero, List.getD_cons_succ, List.getElem?_cons_zero, List.getElem?_cons_succ, locOf, locOn, readLoc, takeN, Nat.add_zero, List.drop_zero, List.length_cons, List.length_nil, Nat.reduceAdd, Nat.le_refl, if_true, if_false, Bool.false_eq_true, List.take_succ_cons, List.take_zero, bindK, bindRes, bind1, Option.map_some, Option.bind_some, PEnv.push, List.cons_append, List.nil_append, List.append_nil, SV.pvs, SV.pv, BE.all, Bool.and_self, Bool.not_true, Bool.not_false, List.map_cons, List.map_nil, q1, hloc, y3, f1, f2, retP, or_true]; rfl
          | true =>
            obtain rfl : nd = 0 := hnd
            simp -implicitDefEqProofs only [↓reduceIte, PT.ev, BE.safe, BE.pe, IE.pe, PEnv.at, List.getD_cons_zero, List.getD_cons_succ, List.getElem?_cons_zero, List.getElem?_cons_succ, locOf, locOn, readLoc, takeN, Nat.add_zero, List.drop_zero, List.length_cons, List.length_nil, Nat.reduceAdd, Nat.le_refl, if_true, if_false, Bool.false_eq_true, List.take_succ_cons, List.take_zero, bindK, bindRes, bind1, Option.map_some, Option.bind_some, PEnv.push, List.cons_append, List.nil_append, List.append_nil, SV.pvs, SV.pv, BE.all, Bool.and_self, Bool.not_true, Bool.not_false, List.map_cons, List.map_nil, q1, hloc, y3, f1, f2, if_pos q2]
            exact this
      · have hil : i = all.length := by omega
        rw [if_neg hlt]
        subst hil
        simp -implicitDefEqProofs only [↓reduceIte, PT.ev, BE.safe, BE.pe, IE.pe, PEnv.at, List.getD_cons_zero, List.getD_cons_succ, List.getElem?_cons_zero, List.getElem?_cons_succ, locOf, locOn, readLoc, takeN, Nat.add_zero, List.drop_zero, List.length_cons, List.length_nil, Nat.reduceAdd, Nat.le_refl, if_true, if_false, Bool.false_eq_true, List.take_succ_cons, List.take_zero, bindK, bindRes, bind1, Option.map_some, Option.bind_some, PEnv.push, List.cons_append, List.nil_append, List.append_nil, SV.pvs, SV.pv, BE.all, Bool.and_self, Bool.not_true, Bool.not_false, List.map_cons, List.map_nil, retP, or_true, List.drop_length, nodesErr]
  have loop0 : ∀ (fuel : Nat) (i : Nat), all.length ≤ 40 → (all.length - i) + all.length + 1 < fuel → i ≤ all.length → 
      saleroomref11_Check_S.loop (evalF Tab n) fuel 0 { i := [(i : Int)], b := [], v := [.sl 9 nrows], m := σ, k := σ.length } = some (.int .i64 (if (all.drop i).all (fun x => decide (x.len ≤ 8)) then nodesErr all else 3), σ) := by
    intro fuel
    induction fuel with
    | zero => intro i _ h; omega
    | succ fuel ihf =>
      intro i h0 h1 h2
      rw [Sys.loop, show saleroomref11_Check_S.loops[0]? = some saleroomref11_Check_t0 from rfl]
      simp -implicitDefEqProofs only [Option.bind_some, saleroomref11_Check_t0, ↓reduceIte, PT.ev, BE.safe, BE.pe, IE.pe, PEnv.at, List.getD_cons_zero, List.getD_cons_succ, List.getElem?_cons_zero, List.getElem?_cons_succ, locOf, locOn, readLoc, takeN, Nat.add_zero, List.drop_zero, List.length_cons, List.length_nil, Nat.reduceAdd, Nat.le_refl, if_true, if_false, Bool.false_eq_true, List.take_succ_cons, List.take_zero, bindK, bindRes, bind1, Option.map_some, Option.bind_some, PEnv.push, List.cons_append, List.nil_append, List.append_nil, SV.pvs, SV.pv, BE.all, Bool.and_self, Bool.not_true, Bool.not_false, List.map_cons, List.map_nil, ltB_nat, decide_eq_true_eq, z1, z2]
      by_cases hlt : i < nrows.length
      · obtain ⟨e1, he1⟩ : ∃ e1, all[i]? = some e1 := ⟨_, List.getElem?_eq_getElem (by omega)⟩
        obtain ⟨r1, hr, hd2⟩ := hrowi i e1 he1
        rw [drop_cons he1]
        have hloc : ∀ off, locEl (i : Int) 9 off (.sl 9 nrows) = some (.row r1 off) := fun off => rows_get (rowsOf_sl 9 nrows) hr
        rw [if_pos hlt]
        simp only [List.all_cons]
        have hln : e1.len = (e1.args).length := by cases e1; rfl
        obtain ⟨op1, a1, b1, c1, d1, e1', f1', v1, l1⟩ := e1
        simp only [IsE] at hd2
        obtain ⟨y, rows1, rfl, hy, hl1⟩ := hd2
        obtain ⟨y1, y2, y3⟩ := rows_len hy
        have hl1' := hl1.length
        have q1 : (leB 0 (i : Int) && decide (i < nrows.length)) = true := by simp [leB, hlt]
        have q2 : (leB (-9223372036854775808) ((i : Int) + 1) && leB ((i : Int) + 1) 9223372036854775807) = true := by simp [leB]; omega
        have := ihf (i + 1) h0 (by omega) (by omega)
        rw [show ((i + 1 : Nat) : Int) = (i : Int) + 1 from by omega] at this
        simp -implicitDefEqProofs only [↓reduceIte, PT.ev, BE.safe, BE.pe, IE.pe, PEnv.at, List.getD_cons_zero, List.getD_cons_succ, List.getElem?_cons_zero, List.getElem?_cons_succ, locOf, locOn, readLoc, takeN, Nat.add_zero, List.drop_zero, List.length_cons, List.length_nil, Nat.reduceAdd, Nat.le_refl, if_true, if_false, Bool.false_eq_true, List.take_succ_cons, List.take_zero, bindK, bindRes, bind1, Option.map_some, Option.bind_some, PEnv.push, List.cons_append, List.nil_append, List.append_nil, SV.pvs, SV.pv, BE.all, Bool.and_self, Bool.not_true, Bool.not_false, List.map_cons, List.map_nil, q1, hloc, y1, y2, y3, ltB_true, Ex.len, List.drop_succ_cons, List.drop_nil]
        by_cases h8 : l1.length ≤ 8
        · rw [if_neg (by omega)]
          simp -implicitDefEqProofs only [↓reduceIte, PT.ev, BE.safe, BE.pe, IE.pe, PEnv.at, List.getD_cons_zero, List.getD_cons_succ, List.getElem?_cons_zero, List.getElem?_cons_succ, locOf, locOn, readLoc, takeN, Nat.add_zero, List.drop_zero, List.length_cons, List.length_nil, Nat.reduceAdd, Nat.le_refl, if_true, if_false, Bool.false_eq_true, List.take_succ_cons, List.take_zero, bindK, bindRes, bind1, Option.map_some, Option.bind_some, PEnv.push, List.cons_append, List.nil_append, List.append_nil, SV.pvs, SV.pv, BE.all, Bool.and_self, Bool.not_true, Bool.not_false, List.map_cons, List.map_nil, if_pos q2, h8, decide_true, Bool.true_and]
          exact this
        · rw [if_pos (by omega)]
          simp -implicitDefEqProofs only [↓reduceIte, PT.ev, BE.safe, BE.pe, IE.pe, PEnv.at, List.getD_cons_zero, List.getD_cons_succ, List.getElem?_cons_zero, List.getElem?_cons_succ, locOf, locOn, readLoc, takeN, Nat.add_zero, List.drop_zero, List.length_cons, List.length_nil, Nat.reduceAdd, Nat.le_refl, if_true, if_false, Bool.false_eq_true, List.take_succ_cons, List.take_zero, bindK, bindRes, bind1, Option.map_some, Option.bind_some, PEnv.push, List.cons_append, List.nil_append, List.append_nil, SV.pvs, SV.pv, BE.all, Bool.and_self, Bool.not_true, Bool.not_false, List.map_cons, List.map_nil, retP, or_true, h8, decide_false, Bool.false_and]
      · have hil : i = all.length := by omega
        rw [if_neg hlt]
        subst hil
        simp -implicitDefEqProofs only [↓reduceIte, PT.ev, BE.safe, BE.pe, IE.pe, PEnv.at, List.getD_cons_zero, List.getD_cons_succ, List.getElem?_cons_zero, List.getElem?_cons_succ, locOf, locOn, readLoc, takeN, Nat.add_zero, List.drop_zero, List.length_cons, List.length_nil, Nat.reduceAdd, Nat.le_refl, if_true, if_false, Bool.false_eq_true, List.take_succ_cons, List.take_zero, bindK, bindRes, bind1, Option.map_some, Option.bind_some, PEnv.push, List.cons_append, List.nil_append, List.append_nil, SV.pvs, SV.pv, BE.all, Bool.and_self, Bool.not_true, Bool.not_false, List.map_cons, List.map_nil, List.drop_length, List.all_nil]
        have := loop1 fuel 0 0 h0 (by omega) (Nat.zero_le _)
        simpa using this
  have h0 := fun h => loop0 n 0 h (by omega) (Nat.zero_le _)
  obtain ⟨op, a, b, c, d, e', f, v, l⟩ := e
  simp only [IsE] at hrow
  obtain ⟨x, rows, rfl, hx, hl⟩ := hrow
  obtain ⟨x1, x2, x3⟩ := rows_len hx
  generalize hy0 : Ex.node op a b c d e' f v l = y0 at *
  simp only [n_saleroomref11_Preorder, n_saleroomref11_Depth] at hcall c1
  simp only [evalF, tab_saleroomref11_Check, Option.bind_some, Sys.run]
  show ((bindPs [.sh (.agg [_, _, _, _, _, _, _, _, _])] _).bind _) = _
  simp only [bindPs, bind1, bindK, Option.map_some, Option.bind_some, List.append_nil, List.nil_append, List.cons_append, if_true, x3]
  show (PT.ev _ saleroomref11_Check_s _).bind _ = _
  simp -implicitDefEqProofs only [saleroomref11_Check_s, ↓reduceIte, PT.ev, BE.safe, BE.pe, IE.pe, PEnv.at, List.getD_cons_zero, List.getD_cons_succ, List.getElem?_cons_zero, List.getElem?_cons_succ, locOf, locOn, readLoc, takeN, Nat.add_zero, List.drop_zero, List.length_cons, List.length_nil, Nat.reduceAdd, Nat.le_refl, if_true, if_false, Bool.false_eq_true, List.take_succ_cons, List.take_zero, bindK, bindRes, bind1, Option.map_some, Option.bind_some, PEnv.push, List.cons_append, List.nil_append, List.append_nil, SV.pvs, SV.pv, BE.all, Bool.and_self, Bool.not_true, Bool.not_false, List.map_cons, List.map_nil, c1, ltB_true]
  by_cases h1 : 6 < y0.depth
  · simp -implicitDefEqProofs only [if_pos h1, ↓reduceIte, PT.ev, BE.safe, BE.pe, IE.pe, PEnv.at, List.getD_cons_zero, List.getD_cons_succ, List.getElem?_cons_zero, List.getElem?_cons_succ, locOf, locOn, readLoc, takeN, Nat.add_zero, List.drop_zero, List.length_cons, List.length_nil, Nat.reduceAdd, Nat.le_refl, if_true, if_false, Bool.false_eq_true, List.take_succ_cons, List.take_zero, bindK, bindRes, bind1, Option.map_some, Option.bind_some, PEnv.push, List.cons_append, List.nil_append, List.append_nil, SV.pvs, SV.pv, BE.all, Bool.and_self, Bool.not_true, Bool.not_false, List.map_cons, List.map_nil, retP, or_true]
  simp -implicitDefEqProofs only [if_neg h1, ↓reduceIte, PT.ev, BE.safe, BE.pe, IE.pe, PEnv.at, List.getD_cons_zero, List.getD_cons_succ, List.getElem?_cons_zero, List.getElem?_cons_succ, locOf, locOn, readLoc, takeN, Nat.add_zero, List.drop_zero, List.length_cons, List.length_nil, Nat.reduceAdd, Nat.le_refl, if_true, if_false, Bool.false_eq_true, List.take_succ_cons, List.take_zero, bindK, bindRes, bind1, Option.map_some, Option.bind_some, PEnv.push, List.cons_append, List.nil_append, List.append_nil, SV.pvs, SV.pv, BE.all, Bool.and_self, Bool.not_true, Bool.not_false, List.map_cons, List.map_nil, hcall, z1, z2, z3, ltB_true]
  by_cases h2 : 40 < y0.size
  · rw [if_pos (by omega)]
    simp -implicitDefEqProofs only [if_pos h2, ↓reduceIte, PT.ev, BE.safe, BE.pe, IE.pe, PEnv.at, List.getD_cons_zero, List.getD_cons_succ, List.getElem?_cons_zero, List.getElem?_cons_succ, locOf, locOn, readLoc, takeN, Nat.add_zero, List.drop_zero, List.length_cons, List.length_nil, Nat.reduceAdd, Nat.le_refl, if_true, if_false, Bool.false_eq_true, List.take_succ_cons, List.take_zero, bindK, bindRes, bind1, Option.map_some, Option.bind_some, PEnv.push, List.cons_append, List.nil_append, List.append_nil, SV.pvs, SV.pv, BE.all, Bool.and_self, Bool.not_true, Bool.not_false, List.map_cons, List.map_nil, retP, or_true]
  · rw [if_neg (by omega)]
    simp -implicitDefEqProofs only [if_neg h2, ↓reduceIte, PT.ev, BE.safe, BE.pe, IE.pe, PEnv.at, List.getD_cons_zero, List.getD_cons_succ, List.getElem?_cons_zero, List.getElem?_cons_succ, locOf, locOn, readLoc, takeN, Nat.add_zero, List.drop_zero, List.length_cons, List.length_nil, Nat.reduceAdd, Nat.le_refl, if_true, if_false, Bool.false_eq_true, List.take_succ_cons, List.take_zero, bindK, bindRes, bind1, Option.map_some, Option.bind_some, PEnv.push, List.cons_append, List.nil_append, List.append_nil, SV.pvs, SV.pv, BE.all, Bool.and_self, Bool.not_true, Bool.not_false, List.map_cons, List.map_nil]
    have := h0 (by omega)
    simpa using this
theorem checks_true (e : Ex) (row : List PV) (hrow : IsE e row) (n : Nat) (hn : e.size + 100 ≤ n) (hbig : e.size ≤ 1000000) (haw : evalF Tab n n_saleroomlaw11_awake [] [] = some (.bool true, [])) :
    evalF Tab (n + 1) n_saleroomlaw11_ExprChecks [.agg row] [] = some (.bool true, []) := by
  have c1 := few_sem [] rfl e row hrow n (by omega) hbig
  have c2 := check_sem [] rfl e row hrow n (by omega) hbig
  have c3 := rcheck_sem [] e row hrow n (by omega) hbig
  generalize chk e = w at *
  obtain ⟨op, a, b, c, d, e', f, v, l⟩ := e
  simp only [IsE] at hrow
  obtain ⟨x, rows, rfl, hx, hl⟩ := hrow
  obtain ⟨x1, x2, x3⟩ := rows_len hx
  generalize hy0 : Ex.node op a b c d e' f v l = y0 at *
  simp only [n_saleroomlaw11_few, n_expr_Check, n_saleroomref11_Check, n_saleroomlaw11_awake] at c1 c2 c3 haw
  simp only [evalF, tab_saleroomlaw11_ExprChecks, Option.bind_some, Sys.run]
  show ((bindPs [.sh (.agg [_, _, _, _, _, _, _, _, _])] _).bind _) = _
  simp only [bindPs, bind1, bindK, Option.map_some, Option.bind_some, List.append_nil, List.nil_append, List.cons_append, if_true, x3]
  show (PT.ev _ saleroomlaw11_ExprChecks_s _).bind _ = _
  simp -implicitDefEqProofs only [saleroomlaw11_ExprChecks_s, ↓reduceIte, PT.ev, BE.safe, BE.pe, IE.pe, PEnv.at, List.getD_cons_zero, List.getD_cons_succ, List.getElem?_cons_zero, List.getElem?_cons_succ, locOf, locOn, readLoc, takeN, Nat.add_zero, List.drop_zero, List.length_cons, List.length_nil, Nat.reduceAdd, Nat.le_refl, if_true, if_false, Bool.false_eq_true, List.take_succ_cons, List.take_zero, bindK, bindRes, bind1, Option.map_some, Option.bind_some, PEnv.push, List.cons_append, List.nil_append, List.append_nil, SV.pvs, SV.pv, BE.all, Bool.and_self, Bool.not_true, Bool.not_false, List.map_cons, List.map_nil, c1]
  by_cases h : y0.size ≤ 400
  · simp -implicitDefEqProofs only [h, decide_true, ↓reduceIte, PT.ev, BE.safe, BE.pe, IE.pe, PEnv.at, List.getD_cons_zero, List.getD_cons_succ, List.getElem?_cons_zero, List.getElem?_cons_succ, locOf, locOn, readLoc, takeN, Nat.add_zero, List.drop_zero, List.length_cons, List.length_nil, Nat.reduceAdd, Nat.le_refl, if_true, if_false, Bool.false_eq_true, List.take_succ_cons, List.take_zero, bindK, bindRes, bind1, Option.map_some, Option.bind_some, PEnv.push, List.cons_append, List.nil_append, List.append_nil, SV.pvs, SV.pv, BE.all, Bool.and_self, Bool.not_true, Bool.not_false, List.map_cons, List.map_nil, c2, c3, haw, eqB_self, retP, or_true]
  · simp -implicitDefEqProofs only [h, decide_false, ↓reduceIte, PT.ev, BE.safe, BE.pe, IE.pe, PEnv.at, List.getD_cons_zero, List.getD_cons_succ, List.getElem?_cons_zero, List.getElem?_cons_succ, locOf, locOn, readLoc, takeN, Nat.add_zero, List.drop_zero, List.length_cons, List.length_nil, Nat.reduceAdd, Nat.le_refl, if_true, if_false, Bool.false_eq_true, List.take_succ_cons, List.take_zero, bindK, bindRes, bind1, Option.map_some, Option.bind_some, PEnv.push, List.cons_append, List.nil_append, List.append_nil, SV.pvs, SV.pv, BE.all, Bool.and_self, Bool.not_true, Bool.not_false, List.map_cons, List.map_nil, retP, or_true]
end Go.Proofs.Ytbmfegliomkkfaa
