/- The law of sizes. -/
import Derived.Test.YtbmfegliomkkfaaHExJ
import Derived.Test.YtbmfegliomkkfaaHTxZ
set_option linter.unusedSimpArgs false
set_option linter.unusedVariables false
set_option maxRecDepth 100000
namespace Go.Proofs.Ytbmfegliomkkfaa
open Go.Sx
theorem sizes_true (e : Ex) (row : List PV) (hrow : IsE e row) (n : Nat) (hn : e.size + 5 ≤ n) (hbig : e.size ≤ 1000000) (haw : evalF Tab n n_saleroomlaw11_awake [] [] = some (.bool true, [])) :
    evalF Tab (n + 1) n_saleroomlaw11_ExprSizes [.agg row] [] = some (.bool true, []) := by
  have c1 := few_sem [] rfl e row hrow n (by omega) hbig
  have c2 := size_sem [] rfl e row hrow n (by omega) hbig
  have c3 := rsize_sem [] rfl e row hrow n (by omega) hbig
  have c4 := depth_sem [] e row hrow n (by omega) hbig
  have c5 := rdepth_sem [] e row hrow n (by omega) hbig
  have c6 := prod_sem [] rfl e row hrow n (by omega) hbig
  have c7 := rprod_sem [] e row hrow n (by omega) hbig
  generalize prods ⟨0, 0, 0, 0, 0, 0⟩ e.pre = w at *
  obtain ⟨op, a, b, c, d, e', f, v, l⟩ := e
  simp only [IsE] at hrow
  obtain ⟨x, rows, rfl, hx, hl⟩ := hrow
  obtain ⟨x1, x2, x3⟩ := rows_len hx
  generalize hy0 : Ex.node op a b c d e' f v l = y0 at *
  simp only [n_saleroomlaw11_few, n_expr_Size, n_saleroomref11_Size, n_expr_Depth, n_saleroomref11_Depth, n_expr_Products, n_saleroomref11_Products, n_saleroomlaw11_awake, W6.pv] at c1 c2 c3 c4 c5 c6 c7 haw
  simp only [evalF, tab_saleroomlaw11_ExprSizes, Option.bind_some, Sys.run]
  show ((bindPs [.sh (.agg [_, _, _, _, _, _, _, _, _])] _).bind _) = _
  simp only [bindPs, bind1, bindK, Option.map_some, Option.bind_some, List.append_nil, List.nil_append, List.cons_append, if_true, x3]
  show (PT.ev _ saleroomlaw11_ExprSizes_s _).bind _ = _
  simp -implicitDefEqProofs only [saleroomlaw11_ExprSizes_s, PT.ev, BE.safe, BE.pe, IE.pe, PEnv.at, List.getD_cons_zero, List.getD_cons_succ, List.getElem?_cons_zero, List.getElem?_cons_succ, locOf, locOn, readLoc, takeN, Nat.add_zero, List.drop_zero, List.length_cons, List.length_nil, Nat.reduceAdd, Nat.le_refl, if_true, if_false, Bool.false_eq_true, List.take_succ_cons, List.take_zero, bindK, bindRes, bind1, Option.map_some, Option.bind_some, PEnv.push, List.cons_append, List.nil_append, List.append_nil, SV.pvs, SV.pv, BE.all, Bool.and_self, Bool.not_true, Bool.not_false, List.map_cons, List.map_nil, c1]
  by_cases h : y0.size ≤ 400
  · simp -implicitDefEqProofs only [h, decide_true, PT.ev, BE.safe, BE.pe, IE.pe, PEnv.at, List.getD_cons_zero, List.getD_cons_succ, List.getElem?_cons_zero, List.getElem?_cons_succ, locOf, locOn, readLoc, takeN, Nat.add_zero, List.drop_zero, List.length_cons, List.length_nil, Nat.reduceAdd, Nat.le_refl, if_true, if_false, Bool.false_eq_true, List.take_succ_cons, List.take_zero, bindK, bindRes, bind1, Option.map_some, Option.bind_some, PEnv.push, List.cons_append, List.nil_append, List.append_nil, SV.pvs, SV.pv, BE.all, Bool.and_self, Bool.not_true, Bool.not_false, List.map_cons, List.map_nil, c2, c3, c4, c5, c6, c7, haw, eqB_self, retP, or_true]
  · simp -implicitDefEqProofs only [h, decide_false, PT.ev, BE.safe, BE.pe, IE.pe, PEnv.at, List.getD_cons_zero, List.getD_cons_succ, List.getElem?_cons_zero, List.getElem?_cons_succ, locOf, locOn, readLoc, takeN, Nat.add_zero, List.drop_zero, List.length_cons, List.length_nil, Nat.reduceAdd, Nat.le_refl, if_true, if_false, Bool.false_eq_true, List.take_succ_cons, List.take_zero, bindK, bindRes, bind1, Option.map_some, Option.bind_some, PEnv.push, List.cons_append, List.nil_append, List.append_nil, SV.pvs, SV.pv, BE.all, Bool.and_self, Bool.not_true, Bool.not_false, List.map_cons, List.map_nil, retP, or_true]
end Go.Proofs.Ytbmfegliomkkfaa
