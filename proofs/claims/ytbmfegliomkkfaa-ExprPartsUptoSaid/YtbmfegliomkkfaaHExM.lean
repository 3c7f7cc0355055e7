/- What a node must be. -/
import Derived.Test.YtbmfegliomkkfaaHExI
import Derived.Test.YtbmfegliomkkfaaHTxZ
set_option linter.unusedSimpArgs false
set_option linter.unusedVariables false
set_option maxRecDepth 100000
namespace Go.Proofs.Ytbmfegliomkkfaa
open Go.Sx
def W6.ok (w : W6) : Prop := 0 ≤ w.a ∧ w.a ≤ 4 ∧ 0 ≤ w.b ∧ w.b ≤ 4 ∧ 0 ≤ w.c ∧ w.c ≤ 4 ∧ 0 ≤ w.d ∧ w.d ≤ 4 ∧ 0 ≤ w.e ∧ w.e ≤ 4 ∧ 0 ≤ w.f ∧ w.f ≤ 4
instance (w : W6) : Decidable w.ok := by unfold W6.ok; infer_instance
def W6.zero (w : W6) : Prop := w.a = 0 ∧ w.b = 0 ∧ w.c = 0 ∧ w.d = 0 ∧ w.e = 0 ∧ w.f = 0
def bchk (w : W6) : Int := if w.ok then 0 else 4
def W6.tot (w : W6) : Int := w.a + w.b + w.c + w.d + w.e + w.f
theorem bcheck_sem (σ : List MO) (w : W6) (n : Nat) (hn : 1 ≤ n) : evalF Tab n n_bundle_Check [.agg w.pv] σ = some (.int .i64 (bchk w), σ) := by
  obtain ⟨n, rfl⟩ : ∃ k, n = k + 1 := ⟨n - 1, by omega⟩
  simp only [evalF, tab_bundle_Check, Option.bind_some, Sys.run, W6.pv]
  show ((bindPs [.sh (.agg [_, _, _, _, _, _])] _).bind _) = _
  simp only [bindPs, bind1, bindK, Option.map_some, Option.bind_some, List.append_nil, List.nil_append, List.cons_append, if_true]
  show (PT.ev _ bundle_Check_s _).bind _ = _
  simp -implicitDefEqProofs only [bundle_Check_s, ↓reduceIte, PT.ev, BE.safe, BE.pe, IE.pe, PEnv.at, List.getD_cons_zero, List.getD_cons_succ, List.getElem?_cons_zero, List.getElem?_cons_succ, locOf, locOn, readLoc, takeN, Nat.add_zero, List.drop_zero, List.length_cons, List.length_nil, Nat.reduceAdd, Nat.le_refl, if_true, if_false, Bool.false_eq_true, List.take_succ_cons, List.take_zero, bindK, bindRes, bind1, Option.map_some, Option.bind_some, PEnv.push, List.cons_append, List.nil_append, List.append_nil, SV.pvs, SV.pv, BE.all, Bool.and_self, Bool.not_true, Bool.not_false, List.map_cons, List.map_nil, retP, or_true]
  obtain ⟨a, b, c, d, e, f⟩ := w
  simp only [ltB_true, bchk]
  by_cases hok : (⟨a, b, c, d, e, f⟩ : W6).ok
  · rw [if_pos hok]
    simp only [W6.ok] at hok
    repeat rw [if_neg (by omega)]
    rfl
  · rw [if_neg hok]
    simp only [W6.ok] at hok
    by_cases h1 : a < 0
    · rw [if_pos h1]; rfl
    rw [if_neg h1]
    by_cases h2 : 4 < a
    · rw [if_pos h2]; rfl
    rw [if_neg h2]
    by_cases h3 : b < 0
    · rw [if_pos h3]; rfl
    rw [if_neg h3]
    by_cases h4 : 4 < b
    · rw [if_pos h4]; rfl
    rw [if_neg h4]
    by_cases h5 : c < 0
    · rw [if_pos h5]; rfl
    rw [if_neg h5]
    by_cases h6 : 4 < c
    · rw [if_pos h6]; rfl
    rw [if_neg h6]
    by_cases h7 : d < 0
    · rw [if_pos h7]; rfl
    rw [if_neg h7]
    by_cases h8 : 4 < d
    · rw [if_pos h8]; rfl
    rw [if_neg h8]
    by_cases h9 : e < 0
    · rw [if_pos h9]; rfl
    rw [if_neg h9]
    by_cases h10 : 4 < e
    · rw [if_pos h10]; rfl
    rw [if_neg h10]
    by_cases h11 : f < 0
    · rw [if_pos h11]; rfl
    rw [if_neg h11]
    by_cases h12 : 4 < f
    · rw [if_pos h12]; rfl
    rw [if_neg h12]
    exfalso; omega
theorem rbcheck_sem (σ : List MO) (w : W6) (n : Nat) (hn : 1 ≤ n) : evalF Tab n n_saleroomref07_Check [.agg w.pv] σ = some (.int .i64 (bchk w), σ) := by
  obtain ⟨n, rfl⟩ : ∃ k, n = k + 1 := ⟨n - 1, by omega⟩
  simp only [evalF, tab_saleroomref07_Check, Option.bind_some, Sys.run, W6.pv]
  show ((bindPs [.sh (.agg [_, _, _, _, _, _])] _).bind _) = _
  simp only [bindPs, bind1, bindK, Option.map_some, Option.bind_some, List.append_nil, List.nil_append, List.cons_append, if_true]
  show (PT.ev _ saleroomref07_Check_s _).bind _ = _
  simp -implicitDefEqProofs only [saleroomref07_Check_s, ↓reduceIte, PT.ev, BE.safe, BE.pe, IE.pe, PEnv.at, List.getD_cons_zero, List.getD_cons_succ, List.getElem?_cons_zero, List.getElem?_cons_succ, locOf, locOn, readLoc, takeN, Nat.add_zero, List.drop_zero, List.length_cons, List.length_nil, Nat.reduceAdd, Nat.le_refl, if_true, if_false, Bool.false_eq_true, List.take_succ_cons, List.take_zero, bindK, bindRes, bind1, Option.map_some, Option.bind_some, PEnv.push, List.cons_append, List.nil_append, List.append_nil, SV.pvs, SV.pv, BE.all, Bool.and_self, Bool.not_true, Bool.not_false, List.map_cons, List.map_nil, retP, or_true]
  obtain ⟨a, b, c, d, e, f⟩ := w
  simp only [ltB_true, bchk]
  by_cases hok : (⟨a, b, c, d, e, f⟩ : W6).ok
  · rw [if_pos hok]
    simp only [W6.ok] at hok
    repeat rw [if_neg (by omega)]
    rfl
  · rw [if_neg hok]
    simp only [W6.ok] at hok
    by_cases h1 : a < 0
    · rw [if_pos h1]; rfl
    rw [if_neg h1]
    by_cases h2 : 4 < a
    · rw [if_pos h2]; rfl
    rw [if_neg h2]
    by_cases h3 : b < 0
    · rw [if_pos h3]; rfl
    rw [if_neg h3]
    by_cases h4 : 4 < b
    · rw [if_pos h4]; rfl
    rw [if_neg h4]
    by_cases h5 : c < 0
    · rw [if_pos h5]; rfl
    rw [if_neg h5]
    by_cases h6 : 4 < c
    · rw [if_pos h6]; rfl
    rw [if_neg h6]
    by_cases h7 : d < 0
    · rw [if_pos h7]; rfl
    rw [if_neg h7]
    by_cases h8 : 4 < d
    · rw [if_pos h8]; rfl
    rw [if_neg h8]
    by_cases h9 : e < 0
    · rw [if_pos h9]; rfl
    rw [if_neg h9]
    by_cases h10 : 4 < e
    · rw [if_pos h10]; rfl
    rw [if_neg h10]
    by_cases h11 : f < 0
    · rw [if_pos h11]; rfl
    rw [if_neg h11]
    by_cases h12 : 4 < f
    · rw [if_pos h12]; rfl
    rw [if_neg h12]
    exfalso; omega
theorem total_sem (σ : List MO) (w : W6) (hw : w.ok) (n : Nat) (hn : 1 ≤ n) : evalF Tab n n_bundle_Total [.agg w.pv] σ = some (.int .i64 w.tot, σ) := by
  obtain ⟨n, rfl⟩ : ∃ k, n = k + 1 := ⟨n - 1, by omega⟩
  simp only [evalF, tab_bundle_Total, Option.bind_some, Sys.run, W6.pv]
  show ((bindPs [.sh (.agg [_, _, _, _, _, _])] _).bind _) = _
  simp only [bindPs, bind1, bindK, Option.map_some, Option.bind_some, List.append_nil, List.nil_append, List.cons_append, if_true]
  show (PT.ev _ bundle_Total_s _).bind _ = _
  obtain ⟨a, b, c, d, e, f⟩ := w
  simp only [W6.ok] at hw
  simp -implicitDefEqProofs only [bundle_Total_s, ↓reduceIte, PT.ev, BE.safe, BE.pe, IE.pe, PEnv.at, List.getD_cons_zero, List.getD_cons_succ, List.getElem?_cons_zero, List.getElem?_cons_succ, locOf, locOn, readLoc, takeN, Nat.add_zero, List.drop_zero, List.length_cons, List.length_nil, Nat.reduceAdd, Nat.le_refl, if_true, if_false, Bool.false_eq_true, List.take_succ_cons, List.take_zero, bindK, bindRes, bind1, Option.map_some, Option.bind_some, PEnv.push, List.cons_append, List.nil_append, List.append_nil, SV.pvs, SV.pv, BE.all, Bool.and_self, Bool.not_true, Bool.not_false, List.map_cons, List.map_nil, retP, or_true, Bool.and_eq_true, leB_true, W6.tot]
  repeat rw [if_pos (by omega)]
  rfl
theorem rtotal_sem (σ : List MO) (w : W6) (hw : w.ok) (n : Nat) (hn : 1 ≤ n) : evalF Tab n n_saleroomref07_Total [.agg w.pv] σ = some (.int .i64 w.tot, σ) := by
  obtain ⟨n, rfl⟩ : ∃ k, n = k + 1 := ⟨n - 1, by omega⟩
  simp only [evalF, tab_saleroomref07_Total, Option.bind_some, Sys.run, W6.pv]
  show ((bindPs [.sh (.agg [_, _, _, _, _, _])] _).bind _) = _
  simp only [bindPs, bind1, bindK, Option.map_some, Option.bind_some, List.append_nil, List.nil_append, List.cons_append, if_true]
  show (PT.ev _ saleroomref07_Total_s _).bind _ = _
  obtain ⟨a, b, c, d, e, f⟩ := w
  simp only [W6.ok] at hw
  simp -implicitDefEqProofs only [saleroomref07_Total_s, ↓reduceIte, PT.ev, BE.safe, BE.pe, IE.pe, PEnv.at, List.getD_cons_zero, List.getD_cons_succ, List.getElem?_cons_zero, List.getElem?_cons_succ, locOf, locOn, readLoc, takeN, Nat.add_zero, List.drop_zero, List.length_cons, List.length_nil, Nat.reduceAdd, Nat.le_refl, if_true, if_false, Bool.false_eq_true, List.take_succ_cons, List.take_zero, bindK, bindRes, bind1, Option.map_some, Option.bind_some, PEnv.push, List.cons_append, List.nil_append, List.append_nil, SV.pvs, SV.pv, BE.all, Bool.and_self, Bool.not_true, Bool.not_false, List.map_cons, List.map_nil, retP, or_true, Bool.and_eq_true, leB_true, W6.tot]
  repeat rw [if_pos (by omega)]
  rfl
/-- The right form, the right range. -/
def Ex.len : Ex → Nat | .node _ _ _ _ _ _ _ _ l => l.length
def formP (op a b c d e f v n : Int) : Prop := (op = 1 ∧ n = 0) ∨ ((op = 2 ∨ op = 3) ∧ 1 ≤ n ∧ n ≤ 8 ∧ a = 0 ∧ b = 0 ∧ c = 0 ∧ d = 0 ∧ e = 0 ∧ f = 0 ∧ v = 0) ∨ (op = 4 ∧ n = 1) ∨ (op = 5 ∧ n = 1 ∧ a = 0 ∧ b = 0 ∧ c = 0 ∧ d = 0 ∧ e = 0 ∧ f = 0)
instance (op a b c d e f v n : Int) : Decidable (formP op a b c d e f v n) := by unfold formP; infer_instance
def Ex.form : Ex → Bool | .node op a b c d e f v l => decide (formP op a b c d e f v l.length)
def rngP (op v : Int) (w : W6) : Prop := op = 2 ∨ op = 3 ∨ (1 ≤ v ∧ v ≤ 1000000 ∧ (op = 5 ∨ (w.ok ∧ 1 ≤ w.tot)))
instance (op v : Int) (w : W6) : Decidable (rngP op v w) := by unfold rngP; infer_instance
def Ex.rng : Ex → Bool | .node op a b c d e f v _ => decide (rngP op v ⟨a, b, c, d, e, f⟩)
theorem form_sem (σ : List MO) (e : Ex) (row : List PV) (hrow : IsE e row) (n : Nat) (hn : 1 ≤ n) : evalF Tab n n_expr_form [.agg row] σ = some (.bool e.form, σ) := by
  obtain ⟨n, rfl⟩ : ∃ k, n = k + 1 := ⟨n - 1, by omega⟩
  obtain ⟨op, a, b, c, d, e', f, v, l⟩ := e
  simp only [IsE] at hrow
  obtain ⟨x, rows, rfl, hx, hl⟩ := hrow
  obtain ⟨x1, x2, x3⟩ := rows_len hx
  have hlen := hl.length
  simp only [Ex.form]
  rw [← hlen]
  generalize hz : (rows.length : Int) = z at *
  simp only [evalF, tab_expr_form, Option.bind_some, Sys.run]
  show ((bindPs [.sh (.agg [_, _, _, _, _, _, _, _, _])] _).bind _) = _
  simp only [bindPs, bind1, bindK, Option.map_some, Option.bind_some, List.append_nil, List.nil_append, List.cons_append, if_true, x3]
  show (PT.ev _ expr_form_s _).bind _ = _
  simp -implicitDefEqProofs only [expr_form_s, ↓reduceIte, PT.ev, BE.safe, BE.pe, IE.pe, PEnv.at, List.getD_cons_zero, List.getD_cons_succ, List.getElem?_cons_zero, List.getElem?_cons_succ, locOf, locOn, readLoc, takeN, Nat.add_zero, List.drop_zero, List.length_cons, List.length_nil, Nat.reduceAdd, Nat.le_refl, if_true, if_false, Bool.false_eq_true, List.take_succ_cons, List.take_zero, bindK, bindRes, bind1, Option.map_some, Option.bind_some, PEnv.push, List.cons_append, List.nil_append, List.append_nil, SV.pvs, SV.pv, BE.all, Bool.and_self, Bool.not_true, Bool.not_false, List.map_cons, List.map_nil, retP, or_true, x1, x2]
  simp only [eqB_true, leB_true, Bool.and_eq_true]
  repeat' split
  all_goals (simp only [Option.bind_some]; congr 3; rw [Bool.eq_iff_iff, decide_eq_true_iff]; simp only [Bool.and_eq_true, eqB_true, decide_eq_true_eq, formP, Bool.false_eq_true, false_iff]; omega)
theorem formed_sem (σ : List MO) (e : Ex) (row : List PV) (hrow : IsE e row) (n : Nat) (hn : 1 ≤ n) : evalF Tab n n_saleroomref11_formed [.agg row] σ = some (.bool e.form, σ) := by
  obtain ⟨n, rfl⟩ : ∃ k, n = k + 1 := ⟨n - 1, by omega⟩
  obtain ⟨op, a, b, c, d, e', f, v, l⟩ := e
  simp only [IsE] at hrow
  obtain ⟨x, rows, rfl, hx, hl⟩ := hrow
  obtain ⟨x1, x2, x3⟩ := rows_len hx
  have hlen := hl.length
  simp only [Ex.form]
  rw [← hlen]
  generalize hz : (rows.length : Int) = z at *
  simp only [evalF, tab_saleroomref11_formed, Option.bind_some, Sys.run]
  show ((bindPs [.sh (.agg [_, _, _, _, _, _, _, _, _])] _).bind _) = _
  simp only [bindPs, bind1, bindK, Option.map_some, Option.bind_some, List.append_nil, List.nil_append, List.cons_append, if_true, x3]
  show (PT.ev _ saleroomref11_formed_s _).bind _ = _
  simp -implicitDefEqProofs only [saleroomref11_formed_s, ↓reduceIte, PT.ev, BE.safe, BE.pe, IE.pe, PEnv.at, List.getD_cons_zero, List.getD_cons_succ, List.getElem?_cons_zero, List.getElem?_cons_succ, locOf, locOn, readLoc, takeN, Nat.add_zero, List.drop_zero, List.length_cons, List.length_nil, Nat.reduceAdd, Nat.le_refl, if_true, if_false, Bool.false_eq_true, List.take_succ_cons, List.take_zero, bindK, bindRes, bind1, Option.map_some, Option.bind_some, PEnv.push, List.cons_append, List.nil_append, List.append_nil, SV.pvs, SV.pv, BE.all, Bool.and_self, Bool.not_true, Bool.not_false, List.map_cons, List.map_nil, retP, or_true, x1, x2]
  simp only [eqB_true, leB_true, Bool.and_eq_true]
  repeat' split
  all_goals (simp only [Option.bind_some]; congr 3; rw [Bool.eq_iff_iff, decide_eq_true_iff]; simp only [Bool.and_eq_true, eqB_true, decide_eq_true_eq, formP, Bool.false_eq_true, false_iff]; omega)
theorem ranged_sem (σ : List MO) (e : Ex) (row : List PV) (hrow : IsE e row) (n : Nat) (hn : 2 ≤ n) : evalF Tab n n_expr_ranged [.agg row] σ = some (.bool e.rng, σ) := by
  obtain ⟨n, rfl⟩ : ∃ k, n = k + 1 := ⟨n - 1, by omega⟩
  obtain ⟨op, a, b, c, d, e', f, v, l⟩ := e
  simp only [IsE] at hrow
  obtain ⟨x, rows, rfl, hx, hl⟩ := hrow
  obtain ⟨x1, x2, x3⟩ := rows_len hx
  have c1 := bcheck_sem σ ⟨a, b, c, d, e', f⟩ n (by omega)
  have c2 := fun h => total_sem σ ⟨a, b, c, d, e', f⟩ h n (by omega)
  simp only [Ex.rng]
  generalize hw : (⟨a, b, c, d, e', f⟩ : W6) = w at *
  have hpv : w.pv = [.int .i64 a, .int .i64 b, .int .i64 c, .int .i64 d, .int .i64 e', .int .i64 f] := by subst hw; rfl
  simp only [n_bundle_Check, n_bundle_Total, hpv] at c1 c2
  simp only [evalF, tab_expr_ranged, Option.bind_some, Sys.run]
  show ((bindPs [.sh (.agg [_, _, _, _, _, _, _, _, _])] _).bind _) = _
  simp only [bindPs, bind1, bindK, Option.map_some, Option.bind_some, List.append_nil, List.nil_append, List.cons_append, if_true, x3]
  show (PT.ev _ expr_ranged_s _).bind _ = _
  simp -implicitDefEqProofs only [expr_ranged_s, ↓reduceIte, PT.ev, BE.safe, BE.pe, IE.pe, PEnv.at, List.getD_cons_zero, List.getD_cons_succ, List.getElem?_cons_zero, List.getElem?_cons_succ, locOf, locOn, readLoc, takeN, Nat.add_zero, List.drop_zero, List.length_cons, List.length_nil, Nat.reduceAdd, Nat.le_refl, if_true, if_false, Bool.false_eq_true, List.take_succ_cons, List.take_zero, bindK, bindRes, bind1, Option.map_some, Option.bind_some, PEnv.push, List.cons_append, List.nil_append, List.append_nil, SV.pvs, SV.pv, BE.all, Bool.and_self, Bool.not_true, Bool.not_false, List.map_cons, List.map_nil, retP, or_true, c1]
  by_cases hok : w.ok
  · simp -implicitDefEqProofs only [↓reduceIte, PT.ev, BE.safe, BE.pe, IE.pe, PEnv.at, List.getD_cons_zero, List.getD_cons_succ, List.getElem?_cons_zero, List.getElem?_cons_succ, locOf, locOn, readLoc, takeN, Nat.add_zero, List.drop_zero, List.length_cons, List.length_nil, Nat.reduceAdd, Nat.le_refl, if_true, if_false, Bool.false_eq_true, List.take_succ_cons, List.take_zero, bindK, bindRes, bind1, Option.map_some, Option.bind_some, PEnv.push, List.cons_append, List.nil_append, List.append_nil, SV.pvs, SV.pv, BE.all, Bool.and_self, Bool.not_true, Bool.not_false, List.map_cons, List.map_nil, retP, or_true, c2 hok, bchk, if_pos hok, eqB_self, eqB_true, ltB_true]
    repeat' split
    all_goals (simp only [Option.bind_some]; congr 3; rw [Bool.eq_iff_iff, decide_eq_true_iff]; simp only [Bool.and_eq_true, eqB_true, ltB_true, decide_eq_true_eq, rngP, Bool.false_eq_true, false_iff, true_iff, hok, true_and]; omega)
  · have h4 : eqB 4 0 = false := rfl
    simp -implicitDefEqProofs only [↓reduceIte, PT.ev, BE.safe, BE.pe, IE.pe, PEnv.at, List.getD_cons_zero, List.getD_cons_succ, List.getElem?_cons_zero, List.getElem?_cons_succ, locOf, locOn, readLoc, takeN, Nat.add_zero, List.drop_zero, List.length_cons, List.length_nil, Nat.reduceAdd, Nat.le_refl, if_true, if_false, Bool.false_eq_true, List.take_succ_cons, List.take_zero, bindK, bindRes, bind1, Option.map_some, Option.bind_some, PEnv.push, List.cons_append, List.nil_append, List.append_nil, SV.pvs, SV.pv, BE.all, Bool.and_self, Bool.not_true, Bool.not_false, List.map_cons, List.map_nil, retP, or_true, bchk, if_neg hok, h4, eqB_true, ltB_true]
    repeat' split
    all_goals (simp only [Option.bind_some]; congr 3; rw [Bool.eq_iff_iff, decide_eq_true_iff]; simp only [Bool.and_eq_true, eqB_true, ltB_true, decide_eq_true_eq, rngP, Bool.false_eq_true, false_iff, true_iff, hok, false_and, and_false, or_false]; omega)
theorem rranged_sem (σ : List MO) (e : Ex) (row : List PV) (hrow : IsE e row) (n : Nat) (hn : 2 ≤ n) : evalF Tab n n_saleroomref11_ranged [.agg row] σ = some (.bool e.rng, σ) := by
  obtain ⟨n, rfl⟩ : ∃ k, n = k + 1 := ⟨n - 1, by omega⟩
  obtain ⟨op, a, b, c, d, e', f, v, l⟩ := e
  simp only [IsE] at hrow
  obtain ⟨x, rows, rfl, hx, hl⟩ := hrow
  obtain ⟨x1, x2, x3⟩ := rows_len hx
  have c1 := rbcheck_sem σ ⟨a, b, c, d, e', f⟩ n (by omega)
  have c2 := fun h => rtotal_sem σ ⟨a, b, c, d, e', f⟩ h n (by omega)
  simp only [Ex.rng]
  generalize hw : (⟨a, b, c, d, e', f⟩ : W6) = w at *
  have hpv : w.pv = [.int .i64 a, .int .i64 b, .int .i64 c, .int .i64 d, .int .i64 e', .int .i64 f] := by subst hw; rfl
  simp only [n_saleroomref07_Check, n_saleroomref07_Total, hpv] at c1 c2
  simp only [evalF, tab_saleroomref11_ranged, Option.bind_some, Sys.run]
  show ((bindPs [.sh (.agg [_, _, _, _, _, _, _, _, _])] _).bind _) = _
  simp only [bindPs, bind1, bindK, Option.map_some, Option.bind_some, List.append_nil, List.nil_append, List.cons_append, if_true, x3]
  show (PT.ev _ saleroomref11_ranged_s _).bind _ = _
  simp -implicitDefEqProofs only [saleroomref11_ranged_s, ↓reduceIte, PT.ev, BE.safe, BE.pe, IE.pe, PEnv.at, List.getD_cons_zero, List.getD_cons_succ, List.getElem?_cons_zero, List.getElem?_cons_succ, locOf, locOn, readLoc, takeN, Nat.add_zero, List.drop_zero, List.length_cons, List.length_nil, Nat.reduceAdd, Nat.le_refl, if_true, if_false, Bool.false_eq_true, List.take_succ_cons, List.take_zero, bindK, bindRes, bind1, Option.map_some, Option.bind_some, PEnv.push, List.cons_append, List.nil_append, List.append_nil, SV.pvs, SV.pv, BE.all, Bool.and_self, Bool.not_true, Bool.not_false, List.map_cons, List.map_nil, retP, or_true, c1]
  by_cases hok : w.ok
  · simp -implicitDefEqProofs only [↓reduceIte, PT.ev, BE.safe, BE.pe, IE.pe, PEnv.at, List.getD_cons_zero, List.getD_cons_succ, List.getElem?_cons_zero, List.getElem?_cons_succ, locOf, locOn, readLoc, takeN, Nat.add_zero, List.drop_zero, List.length_cons, List.length_nil, Nat.reduceAdd, Nat.le_refl, if_true, if_false, Bool.false_eq_true, List.take_succ_cons, List.take_zero, bindK, bindRes, bind1, Option.map_some, Option.bind_some, PEnv.push, List.cons_append, List.nil_append, List.append_nil, SV.pvs, SV.pv, BE.all, Bool.and_self, Bool.not_true, Bool.not_false, List.map_cons, List.map_nil, retP, or_true, c2 hok, bchk, if_pos hok, eqB_self, eqB_true, leB_true]
    repeat' split
    all_goals (simp only [Option.bind_some]; congr 3; rw [Bool.eq_iff_iff, decide_eq_true_iff]; simp only [Bool.and_eq_true, eqB_true, leB_true, ltB_true, decide_eq_true_eq, rngP, Bool.false_eq_true, false_iff, true_iff, hok, true_and] at *; omega)
  · have h4 : eqB 4 0 = false := rfl
    simp -implicitDefEqProofs only [↓reduceIte, PT.ev, BE.safe, BE.pe, IE.pe, PEnv.at, List.getD_cons_zero, List.getD_cons_succ, List.getElem?_cons_zero, List.getElem?_cons_succ, locOf, locOn, readLoc, takeN, Nat.add_zero, List.drop_zero, List.length_cons, List.length_nil, Nat.reduceAdd, Nat.le_refl, if_true, if_false, Bool.false_eq_true, List.take_succ_cons, List.take_zero, bindK, bindRes, bind1, Option.map_some, Option.bind_some, PEnv.push, List.cons_append, List.nil_append, List.append_nil, SV.pvs, SV.pv, BE.all, Bool.and_self, Bool.not_true, Bool.not_false, List.map_cons, List.map_nil, retP, or_true, bchk, if_neg hok, h4, eqB_true, leB_true]
    repeat' split
    all_goals (simp only [Option.bind_some]; congr 3; rw [Bool.eq_iff_iff, decide_eq_true_iff]; simp only [Bool.and_eq_true, eqB_true, leB_true, ltB_true, decide_eq_true_eq, rngP, Bool.false_eq_true, false_iff, true_iff, hok, false_and, and_false, or_false] at *; omega)
end Go.Proofs.Ytbmfegliomkkfaa
