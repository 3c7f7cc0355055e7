/- The reference's size. -/
import Derived.Test.YtbmfegliomkkfaaHExD
set_option linter.unusedSimpArgs false
set_option linter.unusedVariables false
set_option maxRecDepth 100000
namespace Go.Proofs.Ytbmfegliomkkfaa
open Go.Sx
theorem rsize_sem (σ : List MO) (hσ : σ.all (MO.low σ.length) = true) (e : Ex) (row : List PV) (hrow : IsE e row) (n : Nat) (hn : e.size + 3 ≤ n) (hbig : e.size ≤ 1000000) :
    evalF Tab n n_saleroomref11_Size [.agg row] σ = some (.int .i64 e.size, σ) := by
  obtain ⟨n, rfl⟩ : ∃ k, n = k + 1 := ⟨n - 1, by omega⟩
  obtain ⟨nrows, hcall, hnr⟩ := pre_sem σ e row hrow n (by omega) hbig
  have hnl := hnr.length
  rw [Ex.pre_len] at hnl
  obtain ⟨op, a, b, c, d, e', f, v, l⟩ := e
  simp only [IsE] at hrow
  obtain ⟨x, rows, rfl, hx, hl⟩ := hrow
  obtain ⟨x1, x2, x3⟩ := rows_len hx
  simp only [n_saleroomref11_Preorder] at hcall
  simp only [evalF, tab_saleroomref11_Size, Option.bind_some, Sys.run]
  show ((bindPs [.sh (.agg [_, _, _, _, _, _, _, _, _])] _).bind _) = _
  simp only [bindPs, bind1, bindK, Option.map_some, Option.bind_some, List.append_nil, List.nil_append, List.cons_append, if_true, x3]
  show (PT.ev _ saleroomref11_Size_s _).bind _ = _
  have hk : (PV.sl 9 nrows).isKind 0 = true := rfl
  have hl : (PV.sl 9 nrows).len = nrows.length := rfl
  simp -implicitDefEqProofs only [saleroomref11_Size_s, PT.ev, BE.safe, BE.pe, IE.pe, PEnv.at, List.getD_cons_zero, List.getD_cons_succ, List.getElem?_cons_zero, List.getElem?_cons_succ, locOf, locOn, readLoc, takeN, Nat.add_zero, List.drop_zero, List.length_cons, List.length_nil, Nat.reduceAdd, Nat.le_refl, if_true, if_false, Bool.false_eq_true, List.take_succ_cons, List.take_zero, bindK, bindRes, bind1, Option.map_some, Option.bind_some, PEnv.push, List.cons_append, List.nil_append, List.append_nil, SV.pvs, SV.pv, BE.all, Bool.and_self, Bool.not_true, Bool.not_false, List.map_cons, List.map_nil, hcall, sl_one, hk, hl, retP, or_true, hnl]
end Go.Proofs.Ytbmfegliomkkfaa
