/- An expression as the argument of another. -/
import Derived.Test.YtbmfegliomkkfaaHExN
set_option linter.unusedSimpArgs false
set_option linter.unusedVariables false
set_option maxRecDepth 100000
namespace Go.Proofs.Ytbmfegliomkkfaa
open Go.Sx
def Ex.inX (e : Ex) : Ex := .node 2 0 0 0 0 0 0 0 [e]
theorem inX_size (e : Ex) : e.inX.size = e.size + 1 := by simp only [Ex.inX, Ex.size, sizes, Nat.add_zero]
theorem inX_depth (e : Ex) : e.inX.depth = e.depth + 1 := by
  have := e.depth_le
  simp only [Ex.inX, Ex.depth, depths, mxI]; split <;> omega
theorem inX_pre (e : Ex) : e.inX.pre = e.inX :: e.pre := by simp only [Ex.inX, Ex.pre, pres, List.append_nil]
theorem inX_prods (e : Ex) : prods ⟨0, 0, 0, 0, 0, 0⟩ e.inX.pre = prods ⟨0, 0, 0, 0, 0, 0⟩ e.pre := by
  rw [inX_pre]
  simp only [prods, List.foldl_cons, Ex.inX, Ex.want, W6.mx]
  rfl
theorem inX_nd (e : Ex) : ndErr e.inX = 0 := by
  have h1 : e.inX.form = true := by simp [Ex.inX, Ex.form, formP]
  have h2 : e.inX.rng = true := by simp [Ex.inX, Ex.rng, rngP]
  simp [ndErr, h1, h2]
theorem nodesErr_ne (l : List Ex) : nodesErr l = 0 ∨ nodesErr l = 2 ∨ nodesErr l = 4 := by
  induction l with
  | nil => exact .inl rfl
  | cons x l ih =>
    simp only [nodesErr]
    split
    · exact ih
    · simp only [ndErr] at *
      repeat' split
      all_goals simp
theorem inX_chk (e : Ex) : eqB (chk e.inX) 0 = (eqB (chk e) 0 && (ltB e.depth 6 && ltB (e.size : Int) 40)) := by
  have h8 : (e.inX :: e.pre).all (fun x => decide (x.len ≤ 8)) = e.pre.all (fun x => decide (x.len ≤ 8)) := by simp [Ex.inX, Ex.len]
  have hn : nodesErr (e.inX :: e.pre) = nodesErr e.pre := by simp only [nodesErr, inX_nd, if_true]
  simp only [chk, inX_depth, inX_size, inX_pre, h8, hn]
  generalize e.pre.all (fun x => decide (x.len ≤ 8)) = b
  have := nodesErr_ne e.pre
  generalize nodesErr e.pre = m at *
  generalize e.depth = d
  rw [Bool.eq_iff_iff]
  simp only [Bool.and_eq_true, eqB_true, ltB_true]
  by_cases h1 : 6 < d
  · rw [if_pos (by omega), if_pos h1]; omega
  · rw [if_neg h1]
    by_cases h2 : 40 < e.size
    · rw [if_pos h2]
      by_cases h3 : 6 < d + 1
      · rw [if_pos h3]; omega
      · rw [if_neg h3, if_pos (by omega)]; omega
    · rw [if_neg h2]
      by_cases h3 : 6 < d + 1
      · rw [if_pos h3]; omega
      · rw [if_neg h3]
        by_cases h4 : 40 < e.size + 1
        · rw [if_pos h4]; omega
        · rw [if_neg h4]
          cases b <;> simp <;> omega
set_option maxHeartbeats 4000000 in
theorem parts_true (e : Ex) (row : List PV) (hrow : IsE e row) (n : Nat) (hn : e.size + 100 ≤ n) (hbig : e.size < 1000000) (haw : evalF Tab n n_saleroomlaw11_awake [] [] = some (.bool true, [])) :
    evalF Tab (n + 1) n_saleroomlaw11_ExprParts [.agg row] [] = some (.bool true, []) := by
  have c1 := few_sem [] rfl e row hrow n (by omega) (by omega)
  have c2 := depth_sem [] e row hrow n (by omega) (by omega)
  have c3 := size_sem [] rfl e row hrow n (by omega) (by omega)
  have c4 := check_sem [] rfl e row hrow n (by omega) (by omega)
  have c5 := prod_sem [] rfl e row hrow n (by omega) (by omega)
  have hX : IsE e.inX [.int .i64 2, .int .i64 0, .int .i64 0, .int .i64 0, .int .i64 0, .int .i64 0, .int .i64 0, .int .i64 0, .sl 9 [row]] := by
    simp only [Ex.inX, IsE, IsEs]
    exact ⟨_, [row], rfl, by simp [PV.rowsOf], row, [], rfl, hrow, rfl⟩
  have hz := inX_size e
  have d2 := depth_sem [] e.inX _ hX n (by omega) (by omega)
  have d3 := size_sem [] rfl e.inX _ hX n (by omega) (by omega)
  have d4 := check_sem [] rfl e.inX _ hX n (by omega) (by omega)
  have d5 := prod_sem [] rfl e.inX _ hX n (by omega) (by omega)
  have hK := inX_chk e
  have hdl := e.depth_le
  rw [inX_depth] at d2
  rw [inX_size] at d3
  rw [inX_prods] at d5
  clear hX hz
  rw [show ((e.size + 1 : Nat) : Int) = (e.size : Int) + 1 from by omega] at d3
  generalize chk e.inX = K at *
  generalize chk e = k at *
  generalize e.depth = D at *
  generalize prods ⟨0, 0, 0, 0, 0, 0⟩ e.pre = w at *
  obtain ⟨op, a, b, c, d, e', f, v, l⟩ := e
  simp only [IsE] at hrow
  obtain ⟨x, rows, rfl, hx, hl⟩ := hrow
  obtain ⟨x1, x2, x3⟩ := rows_len hx
  generalize hy0 : Ex.node op a b c d e' f v l = y0 at *
  have hZ : (0 : Int) ≤ y0.size := by omega
  have hZ2 : (y0.size : Int) ≤ 1000000 := by omega
  have q1 : (leB (-9223372036854775808) ((y0.size : Int) + 1) && leB ((y0.size : Int) + 1) 9223372036854775807) = true := by simp [leB]; omega
  have q2 : (leB (-9223372036854775808) (D + 1) && leB (D + 1) 9223372036854775807) = true := by simp [leB]; omega
  simp only [n_saleroomlaw11_few, n_expr_Size, n_expr_Depth, n_expr_Check, n_expr_Products, n_saleroomlaw11_awake, W6.pv] at c1 c2 c3 c4 c5 d2 d3 d4 d5 haw
  simp only [evalF, tab_saleroomlaw11_ExprParts, Option.bind_some, Sys.run]
  show ((bindPs [.sh (.agg [_, _, _, _, _, _, _, _, _])] _).bind _) = _
  simp only [bindPs, bind1, bindK, Option.map_some, Option.bind_some, List.append_nil, List.nil_append, List.cons_append, if_true, x3]
  show (PT.ev _ saleroomlaw11_ExprParts_s _).bind _ = _
  simp -implicitDefEqProofs only [saleroomlaw11_ExprParts_s, ↓reduceIte, PT.ev, BE.safe, BE.pe, IE.pe, PEnv.at, List.getD_cons_zero, List.getD_cons_succ, List.getElem?_cons_zero, List.getElem?_cons_succ, locOf, locOn, readLoc, takeN, Nat.add_zero, List.drop_zero, List.length_cons, List.length_nil, Nat.reduceAdd, Nat.le_refl, if_true, if_false, Bool.false_eq_true, List.take_succ_cons, List.take_zero, bindK, bindRes, bind1, Option.map_some, Option.bind_some, PEnv.push, List.cons_append, List.nil_append, List.append_nil, SV.pvs, SV.pv, BE.all, Bool.and_self, Bool.not_true, Bool.not_false, List.map_cons, List.map_nil, c1]
  by_cases h : y0.size ≤ 400
  · have l1 : 1 ≤ 1000000 := by omega
    simp -implicitDefEqProofs only [h, decide_true, ↓reduceIte, PT.ev, BE.safe, BE.pe, IE.pe, PEnv.at, List.getD_cons_zero, List.getD_cons_succ, List.getElem?_cons_zero, List.getElem?_cons_succ, locOf, locOn, readLoc, takeN, Nat.add_zero, List.drop_zero, List.length_cons, List.length_nil, Nat.reduceAdd, Nat.le_refl, if_true, if_false, Bool.false_eq_true, List.take_succ_cons, List.take_zero, bindK, bindRes, bind1, Option.map_some, Option.bind_some, PEnv.push, List.cons_append, List.nil_append, List.append_nil, SV.pvs, SV.pv, BE.all, Bool.and_self, Bool.not_true, Bool.not_false, List.map_cons, List.map_nil, srcRows, List.mapM_cons, List.mapM_nil, Option.bind_eq_bind, Option.pure_def, if_pos l1, c2]
    cases hb1 : ltB D 6 <;> cases hb2 : eqB k 0 <;> cases hb3 : ltB (y0.size : Int) 40 <;> rw [hb1, hb2, hb3] at hK <;> simp only [Bool.and_self, Bool.and_false, Bool.false_and] at hK <;>
    simp -implicitDefEqProofs only [↓reduceIte, PT.ev, BE.safe, BE.pe, IE.pe, PEnv.at, List.getD_cons_zero, List.getD_cons_succ, List.getElem?_cons_zero, List.getElem?_cons_succ, locOf, locOn, readLoc, takeN, Nat.add_zero, List.drop_zero, List.length_cons, List.length_nil, Nat.reduceAdd, Nat.le_refl, if_true, if_false, Bool.false_eq_true, List.take_succ_cons, List.take_zero, bindK, bindRes, bind1, Option.map_some, Option.bind_some, PEnv.push, List.cons_append, List.nil_append, List.append_nil, SV.pvs, SV.pv, BE.all, Bool.and_self, Bool.not_true, Bool.not_false, List.map_cons, List.map_nil, sl_one, c2, c3, c4, c5, d2, d3, d4, d5, hK, hb2, hb3, haw, if_pos q1, if_pos q2, eqB_self, retP, or_true, Bool.and_false, Bool.false_and, Bool.or_true, Bool.true_or, Bool.and_true, Bool.true_and, Bool.or_false, Bool.false_or]
  · simp -implicitDefEqProofs only [h, decide_false, ↓reduceIte, PT.ev, BE.safe, BE.pe, IE.pe, PEnv.at, List.getD_cons_zero, List.getD_cons_succ, List.getElem?_cons_zero, List.getElem?_cons_succ, locOf, locOn, readLoc, takeN, Nat.add_zero, List.drop_zero, List.length_cons, List.length_nil, Nat.reduceAdd, Nat.le_refl, if_true, if_false, Bool.false_eq_true, List.take_succ_cons, List.take_zero, bindK, bindRes, bind1, Option.map_some, Option.bind_some, PEnv.push, List.cons_append, List.nil_append, List.append_nil, SV.pvs, SV.pv, BE.all, Bool.and_self, Bool.not_true, Bool.not_false, List.map_cons, List.map_nil, haw, retP, or_true]
end Go.Proofs.Ytbmfegliomkkfaa
