/- Few nodes. -/
import Derived.Test.YtbmfegliomkkfaaHExF
set_option linter.unusedSimpArgs false
set_option linter.unusedVariables false
set_option maxRecDepth 100000
namespace Go.Proofs.Ytbmfegliomkkfaa
open Go.Sx
theorem few_sem (σ : List MO) (hσ : σ.all (MO.low σ.length) = true) (e : Ex) (row : List PV) (hrow : IsE e row) (n : Nat) (hn : e.size + 4 ≤ n) (hbig : e.size ≤ 1000000) :
    evalF Tab n n_saleroomlaw11_few [.agg row] σ = some (.bool (decide (e.size ≤ 400)), σ) := by
  obtain ⟨n, rfl⟩ : ∃ k, n = k + 1 := ⟨n - 1, by omega⟩
  have hcall := rsize_sem σ hσ e row hrow n (by omega) hbig
  obtain ⟨op, a, b, c, d, e', f, v, l⟩ := e
  simp only [IsE] at hrow
  obtain ⟨x, rows, rfl, hx, hl⟩ := hrow
  obtain ⟨x1, x2, x3⟩ := rows_len hx
  generalize hy0 : Ex.node op a b c d e' f v l = y0 at *
  simp only [n_saleroomref11_Size] at hcall
  simp only [evalF, tab_saleroomlaw11_few, Option.bind_some, Sys.run]
  show ((bindPs [.sh (.agg [_, _, _, _, _, _, _, _, _])] _).bind _) = _
  simp only [bindPs, bind1, bindK, Option.map_some, Option.bind_some, List.append_nil, List.nil_append, List.cons_append, if_true, x3]
  show (PT.ev _ saleroomlaw11_few_s _).bind _ = _
  simp -implicitDefEqProofs only [saleroomlaw11_few_s, PT.ev, BE.safe, BE.pe, IE.pe, PEnv.at, List.getD_cons_zero, List.getD_cons_succ, List.getElem?_cons_zero, List.getElem?_cons_succ, locOf, locOn, readLoc, takeN, Nat.add_zero, List.drop_zero, List.length_cons, List.length_nil, Nat.reduceAdd, Nat.le_refl, if_true, if_false, Bool.false_eq_true, List.take_succ_cons, List.take_zero, bindK, bindRes, bind1, Option.map_some, Option.bind_some, PEnv.push, List.cons_append, List.nil_append, List.append_nil, SV.pvs, SV.pv, BE.all, Bool.and_self, Bool.not_true, Bool.not_false, List.map_cons, List.map_nil, hcall, retP, or_true]
  simp [leB]; omega
end Go.Proofs.Ytbmfegliomkkfaa
