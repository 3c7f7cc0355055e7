/- How many nodes. -/
import Derived.Test.YtbmfegliomkkfaaHExB
set_option linter.unusedSimpArgs false
set_option linter.unusedVariables false
set_option maxRecDepth 100000
namespace Go.Proofs.Ytbmfegliomkkfaa
open Go.Sx
theorem size1_ps : expr_Size_1_S.ps = [.sh (.agg [.int .i64, .int .i64, .int .i64, .int .i64, .int .i64, .int .i64, .int .i64, .int .i64, .val]), .ptr] := rfl
theorem size1_start : expr_Size_1_S.start = expr_Size_1_s := rfl
theorem set_last {α : Type} (l : List α) (a b : α) : (l ++ [a]).set l.length b = l ++ [b] := by simp
theorem size_visits (σ : List MO) (all : List Ex) (hb : all.length ≤ 1000000) :
    Visits n_expr_Size_1 [.ref σ.length 0] 1 all (fun p => σ ++ [.cells [.int .i64 p.length] 3]) (fun _ _ => true) (fun _ _ => []) where
  at_ p x r row hall hrow n hn := by
    obtain ⟨n, rfl⟩ : ∃ k, n = k + 1 := ⟨n - 1, by omega⟩
    obtain ⟨op, a, b, c, d, e', f, v, l⟩ := x
    simp only [IsE] at hrow
    obtain ⟨x, rows, rfl, hx, hl⟩ := hrow
    obtain ⟨x1, x2, x3⟩ := rows_len hx
    have hp : (p.length : Int) + 1 ≤ 1000000 := by
      have := congrArg List.length hall
      simp only [List.length_append, List.length_cons] at this; omega
    simp only [evalF, tab_expr_Size_1, Option.bind_some, Sys.run, size1_ps, size1_start]
    simp only [bindPs, bind1, bindK, x3, PV.isPtr, if_true, Option.map_some, Option.bind_some, List.append_nil, List.nil_append, List.cons_append]
    have hcast : (((p ++ [Ex.node op a b c d e' f v l]).length : Nat) : Int) = (p.length : Int) + 1 := by rw [List.length_append, List.length_singleton]; omega
    have h0 : (0 : Int) ≤ p.length := by omega
    rw [hcast]
    generalize (p.length : Int) = z at *
    have q2 : leB (-9223372036854775808) (z + 1) = true := by rw [leB_true]; omega
    have q3 : leB (z + 1) 9223372036854775807 = true := by rw [leB_true]; omega
    have hget : (σ ++ [MO.cells [.int .i64 z] 3])[σ.length]? = some (.cells [.int .i64 z] 3) := by simp
    simp -implicitDefEqProofs only [expr_Size_1_s, PT.ev, locOf, List.getElem?_cons_succ, List.getElem?_cons_zero, Option.bind_some, locOn, Nat.add_zero, readLoc, Bool.false_eq_true, if_false, hget, MO.list, List.drop_zero, takeN, List.length_cons, List.length_nil, Nat.reduceAdd, Nat.le_refl, if_true,
      List.take_succ_cons, List.take_zero, bindK, Option.map_some, PEnv.push, List.append_nil, List.cons_append, List.nil_append, BE.safe, BE.pe, IE.pe, Bool.and_self, List.getD_cons_succ, List.getD_cons_zero, q2, q3, SV.pvs, SV.pv, setP, Nat.zero_add, List.drop_succ_cons, List.drop_nil, set_last, retP, true_or]
theorem size_sem (σ : List MO) (hσ : σ.all (MO.low σ.length) = true) (e : Ex) (row : List PV) (hrow : IsE e row) (n : Nat) (hn : e.size + 5 ≤ n) (hbig : e.size ≤ 1000000) :
    evalF Tab n n_expr_Size [.agg row] σ = some (.int .i64 e.size, σ) := by
  obtain ⟨n, rfl⟩ : ∃ k, n = k + 1 := ⟨n - 1, by omega⟩
  have hw := walk_sem (size_visits σ e.pre (by rw [Ex.pre_len]; exact hbig)) e row [] [] (by simp) hrow n (by omega) hbig
  have hstop : ∀ (l p : List Ex), stopAt (fun _ _ => true) p l = none := by
    intro l
    induction l with
    | nil => intro p; rfl
    | cons x l ih => intro p; simp [stopAt, ih]
  rw [hstop] at hw
  simp only [visitR, List.nil_append, List.length_nil, Ex.pre_len, n_expr_walker_walk, n_expr_Size_1, Int.cast_ofNat_Int] at hw
  obtain ⟨op, a, b, c, d, e', f, v, l⟩ := e
  simp only [IsE] at hrow
  obtain ⟨x, rows, rfl, hx, hl⟩ := hrow
  obtain ⟨x1, x2, x3⟩ := rows_len hx
  simp only [evalF, tab_expr_Size, Option.bind_some, Sys.run]
  show ((bindPs [.sh (.agg [_, _, _, _, _, _, _, _, _])] _).bind _) = _
  simp only [bindPs, bind1, bindK, x3, if_true, Option.map_some, Option.bind_some, List.append_nil, List.nil_append, List.cons_append]
  show (PT.ev _ expr_Size_s _).bind _ = _
  have hσ' : ∀ x ∈ σ, MO.low σ.length x = true := List.all_eq_true.1 hσ
  simp [expr_Size_s, PT.ev, SV.pvs, SV.pv, IE.pe, PV.on, hw, bindRes, bind1, bindK, PEnv.push, locOf, locOn, readLoc, MO.list, takeN, retP, PV.frz, setP]
  rw [if_pos hσ']
  rfl
end Go.Proofs.Ytbmfegliomkkfaa
