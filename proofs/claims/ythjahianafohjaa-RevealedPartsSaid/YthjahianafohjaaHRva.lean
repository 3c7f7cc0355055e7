/- The examples of the chapter on revealed preference. -/
import Derived.Test.YthjahianafohjaaHSac
import Derived.Test.YthjahianafohjaaHTxd
set_option linter.unusedSimpArgs false
set_option linter.unusedVariables false
set_option maxRecDepth 100000
namespace Go.Proofs.Ythjahianafohjaa
open Go.Sx
theorem lives_sem : evalF Tab 3000 n_saleroomlaw36_lives [] [] = some (.bool true, []) := by kernel_rfl
end Go.Proofs.Ythjahianafohjaa
set_option maxRecDepth 100000
namespace Go.Proofs.Ythjahianafohjaa
open Go.Sx
structure W6 where
  (a b c d e f : Int)
def W6.pv (x : W6) : List PV := [.int .i64 x.a, .int .i64 x.b, .int .i64 x.c, .int .i64 x.d, .int .i64 x.e, .int .i64 x.f]
def W6.ok (w : W6) : Prop := 0 ≤ w.a ∧ w.a ≤ 4 ∧ 0 ≤ w.b ∧ w.b ≤ 4 ∧ 0 ≤ w.c ∧ w.c ≤ 4 ∧ 0 ≤ w.d ∧ w.d ≤ 4 ∧ 0 ≤ w.e ∧ w.e ≤ 4 ∧ 0 ≤ w.f ∧ w.f ≤ 4
instance (w : W6) : Decidable w.ok := by unfold W6.ok; infer_instance
def W6.pok (w : W6) : Prop := 0 ≤ w.a ∧ w.a ≤ 1000000 ∧ 0 ≤ w.b ∧ w.b ≤ 1000000 ∧ 0 ≤ w.c ∧ w.c ≤ 1000000 ∧ 0 ≤ w.d ∧ w.d ≤ 1000000 ∧ 0 ≤ w.e ∧ w.e ≤ 1000000 ∧ 0 ≤ w.f ∧ w.f ≤ 1000000
instance (w : W6) : Decidable w.pok := by unfold W6.pok; infer_instance
def bchk (w : W6) : Int := if w.ok then 0 else 4
def costW (p w : W6) : Int := p.a * w.a + p.b * w.b + p.c * w.c + p.d * w.d + p.e * w.e + p.f * w.f
/-- A choice. -/
structure Ch where
  (p w : W6)
def Ch.row (c : Ch) : List PV := c.p.pv ++ c.w.pv
def Ch.ok (c : Ch) : Prop := c.p.pok ∧ c.w.ok
instance (c : Ch) : Decidable c.ok := by unfold Ch.ok; infer_instance
theorem Ch.ok_dec (x : Ch) : decide x.ok = (decide x.p.pok && decide x.w.ok) := by
  rw [Bool.eq_iff_iff, decide_eq_true_iff, Bool.and_eq_true, decide_eq_true_iff, decide_eq_true_iff]; exact Iff.rfl
def gainC (a b : Ch) : Int := costW a.p b.w - costW a.p a.w
theorem mul_bd {x y : Int} (h1 : 0 ≤ x) (h2 : x ≤ 1000000) (h3 : 0 ≤ y) (h4 : y ≤ 4) : 0 ≤ x * y ∧ x * y ≤ 4000000 := by
  constructor
  · exact Int.mul_nonneg h1 h3
  · calc x * y ≤ 1000000 * 4 := Int.mul_le_mul h2 h4 h3 (by omega)
      _ = 4000000 := by decide
theorem cost_bounds {p w : W6} (hp : p.pok) (hw : w.ok) : (0 ≤ p.a * w.a ∧ p.a * w.a ≤ 4000000) ∧ (0 ≤ p.b * w.b ∧ p.b * w.b ≤ 4000000) ∧ (0 ≤ p.c * w.c ∧ p.c * w.c ≤ 4000000) ∧ (0 ≤ p.d * w.d ∧ p.d * w.d ≤ 4000000) ∧ (0 ≤ p.e * w.e ∧ p.e * w.e ≤ 4000000) ∧ (0 ≤ p.f * w.f ∧ p.f * w.f ≤ 4000000) := by
  simp only [W6.pok, W6.ok] at hp hw
  exact ⟨mul_bd (by omega) (by omega) (by omega) (by omega), mul_bd (by omega) (by omega) (by omega) (by omega), mul_bd (by omega) (by omega) (by omega) (by omega), mul_bd (by omega) (by omega) (by omega) (by omega), mul_bd (by omega) (by omega) (by omega) (by omega), mul_bd (by omega) (by omega) (by omega) (by omega)⟩
theorem cost_bd {p w : W6} (hp : p.pok) (hw : w.ok) : 0 ≤ costW p w ∧ costW p w ≤ 24000000 := by
  have := cost_bounds hp hw
  simp only [costW]; omega
theorem gain_bd {a b : Ch} (ha : a.ok) (hb : b.ok) : -24000000 ≤ gainC a b ∧ gainC a b ≤ 24000000 := by
  have := cost_bd ha.1 hb.2
  have := cost_bd ha.1 ha.2
  simp only [gainC]; omega
theorem bundle_Check_sem (σ : List MO) (w : W6) (n : Nat) (hn : 1 ≤ n) : evalF Tab n n_bundle_Check [.agg w.pv] σ = some (.int .i64 (bchk w), σ) := by
  obtain ⟨n, rfl⟩ : ∃ k, n = k + 1 := ⟨n - 1, by omega⟩
  simp only [evalF, tab_bundle_Check, Option.bind_some, Sys.run, W6.pv]
  show ((bindPs [.sh (.agg [_, _, _, _, _, _])] _).bind _) = _
  simp only [bindPs, bind1, bindK, Option.map_some, Option.bind_some, List.append_nil, List.nil_append, List.cons_append, if_true]
  show (PT.ev _ bundle_Check_s _).bind _ = _
  simp -implicitDefEqProofs only [bundle_Check_s, ↓reduceIte, eq_self, PT.ev, BE.safe, BE.pe, IE.pe, PEnv.at, List.getD_cons_zero, List.getD_cons_succ, List.getElem?_cons_zero, List.getElem?_cons_succ, locOf, locOn, readLoc, takeN, Nat.add_zero, List.drop_zero, List.length_cons, List.length_nil, Nat.reduceAdd, Nat.le_refl, if_true, if_false, Bool.false_eq_true, List.take_succ_cons, List.take_zero, bindK, bindRes, bind1, Option.map_some, Option.bind_some, PEnv.push, List.cons_append, List.nil_append, List.append_nil, SV.pvs, SV.pv, BE.all, Bool.and_self, Bool.not_true, Bool.not_false, List.map_cons, List.map_nil, retP, or_true]
  obtain ⟨a, b, c, d, e, f⟩ := w
  simp only [ltB_true, bchk]
  by_cases hok : (⟨a, b, c, d, e, f⟩ : W6).ok
  · rw [if_pos hok]
    simp only [W6.ok] at hok
    repeat rw [if_neg (by omega)]
    rfl
  · rw [if_neg hok]
    simp only [W6.ok] at hok
    by_cases h1 : a < 0
    · rw [if_pos h1]; rfl
    rw [if_neg h1]
    by_cases h2 : 4 < a
    · rw [if_pos h2]; rfl
    rw [if_neg h2]
    by_cases h3 : b < 0
    · rw [if_pos h3]; rfl
    rw [if_neg h3]
    by_cases h4 : 4 < b
    · rw [if_pos h4]; rfl
    rw [if_neg h4]
    by_cases h5 : c < 0
    · rw [if_pos h5]; rfl
    rw [if_neg h5]
    by_cases h6 : 4 < c
    · rw [if_pos h6]; rfl
    rw [if_neg h6]
    by_cases h7 : d < 0
    · rw [if_pos h7]; rfl
    rw [if_neg h7]
    by_cases h8 : 4 < d
    · rw [if_pos h8]; rfl
    rw [if_neg h8]
    by_cases h9 : e < 0
    · rw [if_pos h9]; rfl
    rw [if_neg h9]
    by_cases h10 : 4 < e
    · rw [if_pos h10]; rfl
    rw [if_neg h10]
    by_cases h11 : f < 0
    · rw [if_pos h11]; rfl
    rw [if_neg h11]
    by_cases h12 : 4 < f
    · rw [if_pos h12]; rfl
    rw [if_neg h12]
    exfalso; omega
theorem saleroomref07_Check_sem (σ : List MO) (w : W6) (n : Nat) (hn : 1 ≤ n) : evalF Tab n n_saleroomref07_Check [.agg w.pv] σ = some (.int .i64 (bchk w), σ) := by
  obtain ⟨n, rfl⟩ : ∃ k, n = k + 1 := ⟨n - 1, by omega⟩
  simp only [evalF, tab_saleroomref07_Check, Option.bind_some, Sys.run, W6.pv]
  show ((bindPs [.sh (.agg [_, _, _, _, _, _])] _).bind _) = _
  simp only [bindPs, bind1, bindK, Option.map_some, Option.bind_some, List.append_nil, List.nil_append, List.cons_append, if_true]
  show (PT.ev _ saleroomref07_Check_s _).bind _ = _
  simp -implicitDefEqProofs only [saleroomref07_Check_s, ↓reduceIte, eq_self, PT.ev, BE.safe, BE.pe, IE.pe, PEnv.at, List.getD_cons_zero, List.getD_cons_succ, List.getElem?_cons_zero, List.getElem?_cons_succ, locOf, locOn, readLoc, takeN, Nat.add_zero, List.drop_zero, List.length_cons, List.length_nil, Nat.reduceAdd, Nat.le_refl, if_true, if_false, Bool.false_eq_true, List.take_succ_cons, List.take_zero, bindK, bindRes, bind1, Option.map_some, Option.bind_some, PEnv.push, List.cons_append, List.nil_append, List.append_nil, SV.pvs, SV.pv, BE.all, Bool.and_self, Bool.not_true, Bool.not_false, List.map_cons, List.map_nil, retP, or_true]
  obtain ⟨a, b, c, d, e, f⟩ := w
  simp only [ltB_true, bchk]
  by_cases hok : (⟨a, b, c, d, e, f⟩ : W6).ok
  · rw [if_pos hok]
    simp only [W6.ok] at hok
    repeat rw [if_neg (by omega)]
    rfl
  · rw [if_neg hok]
    simp only [W6.ok] at hok
    by_cases h1 : a < 0
    · rw [if_pos h1]; rfl
    rw [if_neg h1]
    by_cases h2 : 4 < a
    · rw [if_pos h2]; rfl
    rw [if_neg h2]
    by_cases h3 : b < 0
    · rw [if_pos h3]; rfl
    rw [if_neg h3]
    by_cases h4 : 4 < b
    · rw [if_pos h4]; rfl
    rw [if_neg h4]
    by_cases h5 : c < 0
    · rw [if_pos h5]; rfl
    rw [if_neg h5]
    by_cases h6 : 4 < c
    · rw [if_pos h6]; rfl
    rw [if_neg h6]
    by_cases h7 : d < 0
    · rw [if_pos h7]; rfl
    rw [if_neg h7]
    by_cases h8 : 4 < d
    · rw [if_pos h8]; rfl
    rw [if_neg h8]
    by_cases h9 : e < 0
    · rw [if_pos h9]; rfl
    rw [if_neg h9]
    by_cases h10 : 4 < e
    · rw [if_pos h10]; rfl
    rw [if_neg h10]
    by_cases h11 : f < 0
    · rw [if_pos h11]; rfl
    rw [if_neg h11]
    by_cases h12 : 4 < f
    · rw [if_pos h12]; rfl
    rw [if_neg h12]
    exfalso; omega
theorem bundle_Cost_sem (σ : List MO) (p w : W6) (hp : p.pok) (hw : w.ok) (n : Nat) (hn : 1 ≤ n) : evalF Tab n n_bundle_Cost [.agg p.pv, .agg w.pv] σ = some (.int .i64 (costW p w), σ) := by
  obtain ⟨n, rfl⟩ : ∃ k, n = k + 1 := ⟨n - 1, by omega⟩
  simp only [evalF, tab_bundle_Cost, Option.bind_some, Sys.run, W6.pv]
  show ((bindPs [.sh (.agg [_, _, _, _, _, _]), .sh (.agg [_, _, _, _, _, _])] _).bind _) = _
  simp only [bindPs, bind1, bindK, Option.map_some, Option.bind_some, List.append_nil, List.nil_append, List.cons_append, if_true]
  show (PT.ev _ bundle_Cost_s _).bind _ = _
  obtain ⟨b0, b1, b2, b3, b4, b5⟩ := cost_bounds hp hw
  obtain ⟨a, b, c, d, e, f⟩ := p
  obtain ⟨a', b', c', d', e', f'⟩ := w
  simp only at b0 b1 b2 b3 b4 b5
  simp -implicitDefEqProofs only [bundle_Cost_s, ↓reduceIte, eq_self, PT.ev, BE.safe, BE.pe, IE.pe, PEnv.at, List.getD_cons_zero, List.getD_cons_succ, List.getElem?_cons_zero, List.getElem?_cons_succ, locOf, locOn, readLoc, takeN, Nat.add_zero, List.drop_zero, List.length_cons, List.length_nil, Nat.reduceAdd, Nat.le_refl, if_true, if_false, Bool.false_eq_true, List.take_succ_cons, List.take_zero, bindK, bindRes, bind1, Option.map_some, Option.bind_some, PEnv.push, List.cons_append, List.nil_append, List.append_nil, SV.pvs, SV.pv, BE.all, Bool.and_self, Bool.not_true, Bool.not_false, List.map_cons, List.map_nil, retP, or_true, Bool.and_eq_true, leB_true, costW]
  generalize a * a' = x0 at *
  generalize b * b' = x1 at *
  generalize c * c' = x2 at *
  generalize d * d' = x3 at *
  generalize e * e' = x4 at *
  generalize f * f' = x5 at *
  repeat rw [if_pos (by omega)]
  rfl
theorem saleroomref07_Cost_sem (σ : List MO) (p w : W6) (hp : p.pok) (hw : w.ok) (n : Nat) (hn : 1 ≤ n) : evalF Tab n n_saleroomref07_Cost [.agg p.pv, .agg w.pv] σ = some (.int .i64 (costW p w), σ) := by
  obtain ⟨n, rfl⟩ : ∃ k, n = k + 1 := ⟨n - 1, by omega⟩
  simp only [evalF, tab_saleroomref07_Cost, Option.bind_some, Sys.run, W6.pv]
  show ((bindPs [.sh (.agg [_, _, _, _, _, _]), .sh (.agg [_, _, _, _, _, _])] _).bind _) = _
  simp only [bindPs, bind1, bindK, Option.map_some, Option.bind_some, List.append_nil, List.nil_append, List.cons_append, if_true]
  show (PT.ev _ saleroomref07_Cost_s _).bind _ = _
  obtain ⟨b0, b1, b2, b3, b4, b5⟩ := cost_bounds hp hw
  obtain ⟨a, b, c, d, e, f⟩ := p
  obtain ⟨a', b', c', d', e', f'⟩ := w
  simp only at b0 b1 b2 b3 b4 b5
  simp -implicitDefEqProofs only [saleroomref07_Cost_s, ↓reduceIte, eq_self, PT.ev, BE.safe, BE.pe, IE.pe, PEnv.at, List.getD_cons_zero, List.getD_cons_succ, List.getElem?_cons_zero, List.getElem?_cons_succ, locOf, locOn, readLoc, takeN, Nat.add_zero, List.drop_zero, List.length_cons, List.length_nil, Nat.reduceAdd, Nat.le_refl, if_true, if_false, Bool.false_eq_true, List.take_succ_cons, List.take_zero, bindK, bindRes, bind1, Option.map_some, Option.bind_some, PEnv.push, List.cons_append, List.nil_append, List.append_nil, SV.pvs, SV.pv, BE.all, Bool.and_self, Bool.not_true, Bool.not_false, List.map_cons, List.map_nil, retP, or_true, Bool.and_eq_true, leB_true, costW]
  generalize a * a' = x0 at *
  generalize b * b' = x1 at *
  generalize c * c' = x2 at *
  generalize d * d' = x3 at *
  generalize e * e' = x4 at *
  generalize f * f' = x5 at *
  repeat rw [if_pos (by omega)]
  rfl
theorem prices_sem (σ : List MO) (w : W6) (n : Nat) (hn : 1 ≤ n) : evalF Tab n n_saleroomref07_Prices [.agg w.pv] σ = some (.bool (decide w.pok), σ) := by
  obtain ⟨n, rfl⟩ : ∃ k, n = k + 1 := ⟨n - 1, by omega⟩
  simp only [evalF, tab_saleroomref07_Prices, Option.bind_some, Sys.run, W6.pv]
  show ((bindPs [.sh (.agg [_, _, _, _, _, _])] _).bind _) = _
  simp only [bindPs, bind1, bindK, Option.map_some, Option.bind_some, List.append_nil, List.nil_append, List.cons_append, if_true]
  show (PT.ev _ saleroomref07_Prices_s _).bind _ = _
  simp -implicitDefEqProofs only [saleroomref07_Prices_s, ↓reduceIte, eq_self, PT.ev, BE.safe, BE.pe, IE.pe, PEnv.at, List.getD_cons_zero, List.getD_cons_succ, List.getElem?_cons_zero, List.getElem?_cons_succ, locOf, locOn, readLoc, takeN, Nat.add_zero, List.drop_zero, List.length_cons, List.length_nil, Nat.reduceAdd, Nat.le_refl, if_true, if_false, Bool.false_eq_true, List.take_succ_cons, List.take_zero, bindK, bindRes, bind1, Option.map_some, Option.bind_some, PEnv.push, List.cons_append, List.nil_append, List.append_nil, SV.pvs, SV.pv, BE.all, Bool.and_self, Bool.not_true, Bool.not_false, List.map_cons, List.map_nil, retP, or_true]
  obtain ⟨a, b, c, d, e, f⟩ := w
  simp only [ltB_true]
  by_cases hok : (⟨a, b, c, d, e, f⟩ : W6).pok
  · rw [decide_eq_true hok]
    simp only [W6.pok] at hok
    repeat rw [if_neg (by omega)]
    rfl
  · rw [decide_eq_false hok]
    simp only [W6.pok] at hok
    by_cases h1 : a < 0
    · rw [if_pos h1]; rfl
    rw [if_neg h1]
    by_cases h2 : 1000000 < a
    · rw [if_pos h2]; rfl
    rw [if_neg h2]
    by_cases h3 : b < 0
    · rw [if_pos h3]; rfl
    rw [if_neg h3]
    by_cases h4 : 1000000 < b
    · rw [if_pos h4]; rfl
    rw [if_neg h4]
    by_cases h5 : c < 0
    · rw [if_pos h5]; rfl
    rw [if_neg h5]
    by_cases h6 : 1000000 < c
    · rw [if_pos h6]; rfl
    rw [if_neg h6]
    by_cases h7 : d < 0
    · rw [if_pos h7]; rfl
    rw [if_neg h7]
    by_cases h8 : 1000000 < d
    · rw [if_pos h8]; rfl
    rw [if_neg h8]
    by_cases h9 : e < 0
    · rw [if_pos h9]; rfl
    rw [if_neg h9]
    by_cases h10 : 1000000 < e
    · rw [if_pos h10]; rfl
    rw [if_neg h10]
    by_cases h11 : f < 0
    · rw [if_pos h11]; rfl
    rw [if_neg h11]
    by_cases h12 : 1000000 < f
    · rw [if_pos h12]; rfl
    rw [if_neg h12]
    exfalso; omega
theorem valid_sem (σ : List MO) (x : Ch) (n : Nat) (hn : 2 ≤ n) : evalF Tab n n_revealed_valid [.agg x.row] σ = some (.bool (decide x.ok), σ) := by
  obtain ⟨n, rfl⟩ : ∃ k, n = k + 1 := ⟨n - 1, by omega⟩
  have c1 := bundle_Check_sem σ x.w n (by omega)
  obtain ⟨⟨a, b, c, d, e, f⟩, ⟨a', b', c', d', e', f'⟩⟩ := x
  generalize hy : bchk ⟨a', b', c', d', e', f'⟩ = y at *
  simp only [n_bundle_Check, W6.pv] at c1
  simp only [evalF, tab_revealed_valid, Option.bind_some, Sys.run, W6.pv, Ch.row, List.cons_append, List.nil_append]
  show ((bindPs [.sh (.agg [_, _, _, _, _, _, _, _, _, _, _, _])] _).bind _) = _
  simp only [bindPs, bind1, bindK, Option.map_some, Option.bind_some, List.append_nil, List.nil_append, List.cons_append, if_true]
  show (PT.ev _ revealed_valid_s _).bind _ = _
  simp -implicitDefEqProofs only [revealed_valid_s, ↓reduceIte, eq_self, PT.ev, BE.safe, BE.pe, IE.pe, PEnv.at, List.getD_cons_zero, List.getD_cons_succ, List.getElem?_cons_zero, List.getElem?_cons_succ, locOf, locOn, readLoc, takeN, Nat.add_zero, List.drop_zero, List.length_cons, List.length_nil, Nat.reduceAdd, Nat.le_refl, if_true, if_false, Bool.false_eq_true, List.take_succ_cons, List.take_zero, bindK, bindRes, bind1, Option.map_some, Option.bind_some, PEnv.push, List.cons_append, List.nil_append, List.append_nil, SV.pvs, SV.pv, BE.all, Bool.and_self, Bool.not_true, Bool.not_false, List.map_cons, List.map_nil, retP, or_true, c1]
  simp only [ltB_true]
  have hyd : eqB y 0 = decide (⟨a', b', c', d', e', f'⟩ : W6).ok := by
    rw [← hy]; unfold bchk
    by_cases h : (⟨a', b', c', d', e', f'⟩ : W6).ok
    · rw [if_pos h, decide_eq_true h]; rfl
    · rw [if_neg h, decide_eq_false h]; rfl
  have hsp : decide (Ch.ok ⟨⟨a, b, c, d, e, f⟩, ⟨a', b', c', d', e', f'⟩⟩) = (decide (⟨a, b, c, d, e, f⟩ : W6).pok && decide (⟨a', b', c', d', e', f'⟩ : W6).ok) := Ch.ok_dec _
  rw [hsp, hyd]
  generalize decide (⟨a', b', c', d', e', f'⟩ : W6).ok = q
  by_cases hok : (⟨a, b, c, d, e, f⟩ : W6).pok
  · rw [decide_eq_true hok]
    simp only [W6.pok] at hok
    repeat rw [if_neg (by omega)]
    simp
  · rw [decide_eq_false hok]
    simp only [W6.pok] at hok
    by_cases h1 : a < 0
    · rw [if_pos h1]; rfl
    rw [if_neg h1]
    by_cases h2 : 1000000 < a
    · rw [if_pos h2]; rfl
    rw [if_neg h2]
    by_cases h3 : b < 0
    · rw [if_pos h3]; rfl
    rw [if_neg h3]
    by_cases h4 : 1000000 < b
    · rw [if_pos h4]; rfl
    rw [if_neg h4]
    by_cases h5 : c < 0
    · rw [if_pos h5]; rfl
    rw [if_neg h5]
    by_cases h6 : 1000000 < c
    · rw [if_pos h6]; rfl
    rw [if_neg h6]
    by_cases h7 : d < 0
    · rw [if_pos h7]; rfl
    rw [if_neg h7]
    by_cases h8 : 1000000 < d
    · rw [if_pos h8]; rfl
    rw [if_neg h8]
    by_cases h9 : e < 0
    · rw [if_pos h9]; rfl
    rw [if_neg h9]
    by_cases h10 : 1000000 < e
    · rw [if_pos h10]; rfl
    rw [if_neg h10]
    by_cases h11 : f < 0
    · rw [if_pos h11]; rfl
    rw [if_neg h11]
    by_cases h12 : 1000000 < f
    · rw [if_pos h12]; rfl
    rw [if_neg h12]
    exfalso; omega
theorem rvalid_sem (σ : List MO) (x : Ch) (n : Nat) (hn : 2 ≤ n) : evalF Tab n n_saleroomref36_Valid [.agg x.row] σ = some (.bool (decide x.ok), σ) := by
  obtain ⟨n, rfl⟩ : ∃ k, n = k + 1 := ⟨n - 1, by omega⟩
  have c1 := saleroomref07_Check_sem σ x.w n (by omega)
  have c2 := prices_sem σ x.p n (by omega)
  obtain ⟨⟨a, b, c, d, e, f⟩, ⟨a', b', c', d', e', f'⟩⟩ := x
  have hsp : decide (Ch.ok ⟨⟨a, b, c, d, e, f⟩, ⟨a', b', c', d', e', f'⟩⟩) = (decide (⟨a, b, c, d, e, f⟩ : W6).pok && decide (⟨a', b', c', d', e', f'⟩ : W6).ok) := Ch.ok_dec _
  rw [hsp]
  simp only [n_saleroomref07_Check, n_saleroomref07_Prices, W6.pv] at c1 c2
  simp only [evalF, tab_saleroomref36_Valid, Option.bind_some, Sys.run, W6.pv, Ch.row, List.cons_append, List.nil_append]
  show ((bindPs [.sh (.agg [_, _, _, _, _, _, _, _, _, _, _, _])] _).bind _) = _
  simp only [bindPs, bind1, bindK, Option.map_some, Option.bind_some, List.append_nil, List.nil_append, List.cons_append, if_true]
  show (PT.ev _ saleroomref36_Valid_s _).bind _ = _
  by_cases h : (⟨a', b', c', d', e', f'⟩ : W6).ok
  · rw [decide_eq_true h, Bool.and_true]
    simp only [bchk, if_pos h] at c1
    simp -implicitDefEqProofs only [saleroomref36_Valid_s, ↓reduceIte, eq_self, PT.ev, BE.safe, BE.pe, IE.pe, PEnv.at, List.getD_cons_zero, List.getD_cons_succ, List.getElem?_cons_zero, List.getElem?_cons_succ, locOf, locOn, readLoc, takeN, Nat.add_zero, List.drop_zero, List.length_cons, List.length_nil, Nat.reduceAdd, Nat.le_refl, if_true, if_false, Bool.false_eq_true, List.take_succ_cons, List.take_zero, bindK, bindRes, bind1, Option.map_some, Option.bind_some, PEnv.push, List.cons_append, List.nil_append, List.append_nil, SV.pvs, SV.pv, BE.all, Bool.and_self, Bool.not_true, Bool.not_false, List.map_cons, List.map_nil, retP, or_true, c1, eqB_self, c2]
  · rw [decide_eq_false h, Bool.and_false]
    simp only [bchk, if_neg h] at c1
    have e4 : eqB 4 0 = false := rfl
    simp -implicitDefEqProofs only [saleroomref36_Valid_s, ↓reduceIte, eq_self, PT.ev, BE.safe, BE.pe, IE.pe, PEnv.at, List.getD_cons_zero, List.getD_cons_succ, List.getElem?_cons_zero, List.getElem?_cons_succ, locOf, locOn, readLoc, takeN, Nat.add_zero, List.drop_zero, List.length_cons, List.length_nil, Nat.reduceAdd, Nat.le_refl, if_true, if_false, Bool.false_eq_true, List.take_succ_cons, List.take_zero, bindK, bindRes, bind1, Option.map_some, Option.bind_some, PEnv.push, List.cons_append, List.nil_append, List.append_nil, SV.pvs, SV.pv, BE.all, Bool.and_self, Bool.not_true, Bool.not_false, List.map_cons, List.map_nil, retP, or_true, c1, e4]
theorem rcost_sem (σ : List MO) (x : Ch) (hx : x.p.pok) (w : W6) (hw : w.ok) (n : Nat) (hn : 2 ≤ n) : evalF Tab n n_saleroomref36_Cost [.agg x.row, .agg w.pv] σ = some (.int .i64 (costW x.p w), σ) := by
  obtain ⟨n, rfl⟩ : ∃ k, n = k + 1 := ⟨n - 1, by omega⟩
  have c1 := saleroomref07_Cost_sem σ x.p w hx hw n (by omega)
  obtain ⟨⟨a, b, c, d, e, f⟩, ⟨a', b', c', d', e', f'⟩⟩ := x
  generalize costW ⟨a, b, c, d, e, f⟩ w = y at *
  simp only [n_saleroomref07_Cost, W6.pv] at c1
  simp only [evalF, tab_saleroomref36_Cost, Option.bind_some, Sys.run, W6.pv, Ch.row, List.cons_append, List.nil_append]
  show ((bindPs [.sh (.agg [_, _, _, _, _, _, _, _, _, _, _, _]), .sh (.agg [_, _, _, _, _, _])] _).bind _) = _
  simp only [bindPs, bind1, bindK, Option.map_some, Option.bind_some, List.append_nil, List.nil_append, List.cons_append, if_true]
  show (PT.ev _ saleroomref36_Cost_s _).bind _ = _
  simp -implicitDefEqProofs only [saleroomref36_Cost_s, ↓reduceIte, eq_self, PT.ev, BE.safe, BE.pe, IE.pe, PEnv.at, List.getD_cons_zero, List.getD_cons_succ, List.getElem?_cons_zero, List.getElem?_cons_succ, locOf, locOn, readLoc, takeN, Nat.add_zero, List.drop_zero, List.length_cons, List.length_nil, Nat.reduceAdd, Nat.le_refl, if_true, if_false, Bool.false_eq_true, List.take_succ_cons, List.take_zero, bindK, bindRes, bind1, Option.map_some, Option.bind_some, PEnv.push, List.cons_append, List.nil_append, List.append_nil, SV.pvs, SV.pv, BE.all, Bool.and_self, Bool.not_true, Bool.not_false, List.map_cons, List.map_nil, retP, or_true, c1]
theorem gain0_sem (σ : List MO) (x y : Ch) (hx : x.ok) (hy : y.ok) (n : Nat) (hn : 2 ≤ n) : evalF Tab n n_revealed_gain [.agg x.row, .agg y.row] σ = some (.int .i64 (gainC x y), σ) := by
  obtain ⟨n, rfl⟩ : ∃ k, n = k + 1 := ⟨n - 1, by omega⟩
  have c1 := bundle_Cost_sem σ x.p y.w hx.1 hy.2 n (by omega)
  have c2 := bundle_Cost_sem σ x.p x.w hx.1 hx.2 n (by omega)
  have b1 := cost_bd hx.1 hy.2
  have b2 := cost_bd hx.1 hx.2
  simp only [gainC]
  generalize costW x.p y.w = u at *
  generalize costW x.p x.w = v at *
  obtain ⟨⟨a, b, c, d, e, f⟩, ⟨a', b', c', d', e', f'⟩⟩ := x
  obtain ⟨⟨a1, b1', c1', d1, e1, f1⟩, ⟨a1', b1'', c1'', d1', e1', f1'⟩⟩ := y
  simp only [n_bundle_Cost, W6.pv] at c1 c2
  simp only [evalF, tab_revealed_gain, Option.bind_some, Sys.run, W6.pv, Ch.row, List.cons_append, List.nil_append]
  show ((bindPs [.sh (.agg [_, _, _, _, _, _, _, _, _, _, _, _]), .sh (.agg [_, _, _, _, _, _, _, _, _, _, _, _])] _).bind _) = _
  simp only [bindPs, bind1, bindK, Option.map_some, Option.bind_some, List.append_nil, List.nil_append, List.cons_append, if_true]
  show (PT.ev _ revealed_gain_s _).bind _ = _
  have q : (leB (-9223372036854775808) (u - v) && leB (u - v) 9223372036854775807) = true := by simp [leB]; omega
  simp -implicitDefEqProofs only [revealed_gain_s, ↓reduceIte, eq_self, PT.ev, BE.safe, BE.pe, IE.pe, PEnv.at, List.getD_cons_zero, List.getD_cons_succ, List.getElem?_cons_zero, List.getElem?_cons_succ, locOf, locOn, readLoc, takeN, Nat.add_zero, List.drop_zero, List.length_cons, List.length_nil, Nat.reduceAdd, Nat.le_refl, if_true, if_false, Bool.false_eq_true, List.take_succ_cons, List.take_zero, bindK, bindRes, bind1, Option.map_some, Option.bind_some, PEnv.push, List.cons_append, List.nil_append, List.append_nil, SV.pvs, SV.pv, BE.all, Bool.and_self, Bool.not_true, Bool.not_false, List.map_cons, List.map_nil, retP, or_true, c1, c2, if_pos q]
def gainV (x y : Ch) : Int := if x.ok ∧ y.ok then gainC x y else 0
theorem gain_sem (σ : List MO) (x y : Ch) (n : Nat) (hn : 3 ≤ n) : evalF Tab n n_revealed_Gain [.agg x.row, .agg y.row] σ = some (.int .i64 (gainV x y), σ) := by
  obtain ⟨n, rfl⟩ : ∃ k, n = k + 1 := ⟨n - 1, by omega⟩
  have c1 := valid_sem σ x n (by omega)
  have c2 := valid_sem σ y n (by omega)
  have c3 := fun h1 h2 => gain0_sem σ x y h1 h2 n (by omega)
  by_cases hx : x.ok
  · rw [decide_eq_true hx] at c1
    by_cases hy : y.ok
    · rw [decide_eq_true hy] at c2
      have c3 := c3 hx hy
      have hg : gainV x y = gainC x y := if_pos ⟨hx, hy⟩
      rw [hg]
      generalize gainC x y = u at *
      clear hg hx hy
      obtain ⟨⟨a, b, c, d, e, f⟩, ⟨a', b', c', d', e', f'⟩⟩ := x
      obtain ⟨⟨a1, b1', c1', d1, e1, f1⟩, ⟨a1', b1'', c1'', d1', e1', f1'⟩⟩ := y
      simp only [n_revealed_valid, n_revealed_gain, W6.pv, Ch.row, List.cons_append, List.nil_append] at c1 c2 c3
      simp only [evalF, tab_revealed_Gain, Option.bind_some, Sys.run, W6.pv, Ch.row, List.cons_append, List.nil_append]
      show ((bindPs [.sh (.agg [_, _, _, _, _, _, _, _, _, _, _, _]), .sh (.agg [_, _, _, _, _, _, _, _, _, _, _, _])] _).bind _) = _
      simp only [bindPs, bind1, bindK, Option.map_some, Option.bind_some, List.append_nil, List.nil_append, List.cons_append, if_true]
      show (PT.ev _ revealed_Gain_s _).bind _ = _
      simp -implicitDefEqProofs only [revealed_Gain_s, ↓reduceIte, eq_self, PT.ev, BE.safe, BE.pe, IE.pe, PEnv.at, List.getD_cons_zero, List.getD_cons_succ, List.getElem?_cons_zero, List.getElem?_cons_succ, locOf, locOn, readLoc, takeN, Nat.add_zero, List.drop_zero, List.length_cons, List.length_nil, Nat.reduceAdd, Nat.le_refl, if_true, if_false, Bool.false_eq_true, List.take_succ_cons, List.take_zero, bindK, bindRes, bind1, Option.map_some, Option.bind_some, PEnv.push, List.cons_append, List.nil_append, List.append_nil, SV.pvs, SV.pv, BE.all, Bool.and_self, Bool.not_true, Bool.not_false, List.map_cons, List.map_nil, retP, or_true, c1, c2, c3]
    · rw [decide_eq_false hy] at c2
      have hg : gainV x y = 0 := if_neg (fun h => hy h.2)
      rw [hg]
      clear hg hx hy c3
      obtain ⟨⟨a, b, c, d, e, f⟩, ⟨a', b', c', d', e', f'⟩⟩ := x
      obtain ⟨⟨a1, b1', c1', d1, e1, f1⟩, ⟨a1', b1'', c1'', d1', e1', f1'⟩⟩ := y
      simp only [n_revealed_valid, W6.pv, Ch.row, List.cons_append, List.nil_append] at c1 c2
      simp only [evalF, tab_revealed_Gain, Option.bind_some, Sys.run, W6.pv, Ch.row, List.cons_append, List.nil_append]
      show ((bindPs [.sh (.agg [_, _, _, _, _, _, _, _, _, _, _, _]), .sh (.agg [_, _, _, _, _, _, _, _, _, _, _, _])] _).bind _) = _
      simp only [bindPs, bind1, bindK, Option.map_some, Option.bind_some, List.append_nil, List.nil_append, List.cons_append, if_true]
      show (PT.ev _ revealed_Gain_s _).bind _ = _
      simp -implicitDefEqProofs only [revealed_Gain_s, ↓reduceIte, eq_self, PT.ev, BE.safe, BE.pe, IE.pe, PEnv.at, List.getD_cons_zero, List.getD_cons_succ, List.getElem?_cons_zero, List.getElem?_cons_succ, locOf, locOn, readLoc, takeN, Nat.add_zero, List.drop_zero, List.length_cons, List.length_nil, Nat.reduceAdd, Nat.le_refl, if_true, if_false, Bool.false_eq_true, List.take_succ_cons, List.take_zero, bindK, bindRes, bind1, Option.map_some, Option.bind_some, PEnv.push, List.cons_append, List.nil_append, List.append_nil, SV.pvs, SV.pv, BE.all, Bool.and_self, Bool.not_true, Bool.not_false, List.map_cons, List.map_nil, retP, or_true, c1, c2]
  · rw [decide_eq_false hx] at c1
    have hg : gainV x y = 0 := if_neg (fun h => hx h.1)
    rw [hg]
    clear hg hx c2 c3
    obtain ⟨⟨a, b, c, d, e, f⟩, ⟨a', b', c', d', e', f'⟩⟩ := x
    obtain ⟨⟨a1, b1', c1', d1, e1, f1⟩, ⟨a1', b1'', c1'', d1', e1', f1'⟩⟩ := y
    simp only [n_revealed_valid, W6.pv, Ch.row, List.cons_append, List.nil_append] at c1
    simp only [evalF, tab_revealed_Gain, Option.bind_some, Sys.run, W6.pv, Ch.row, List.cons_append, List.nil_append]
    show ((bindPs [.sh (.agg [_, _, _, _, _, _, _, _, _, _, _, _]), .sh (.agg [_, _, _, _, _, _, _, _, _, _, _, _])] _).bind _) = _
    simp only [bindPs, bind1, bindK, Option.map_some, Option.bind_some, List.append_nil, List.nil_append, List.cons_append, if_true]
    show (PT.ev _ revealed_Gain_s _).bind _ = _
    simp -implicitDefEqProofs only [revealed_Gain_s, ↓reduceIte, eq_self, PT.ev, BE.safe, BE.pe, IE.pe, PEnv.at, List.getD_cons_zero, List.getD_cons_succ, List.getElem?_cons_zero, List.getElem?_cons_succ, locOf, locOn, readLoc, takeN, Nat.add_zero, List.drop_zero, List.length_cons, List.length_nil, Nat.reduceAdd, Nat.le_refl, if_true, if_false, Bool.false_eq_true, List.take_succ_cons, List.take_zero, bindK, bindRes, bind1, Option.map_some, Option.bind_some, PEnv.push, List.cons_append, List.nil_append, List.append_nil, SV.pvs, SV.pv, BE.all, Bool.and_self, Bool.not_true, Bool.not_false, List.map_cons, List.map_nil, retP, or_true, c1]
theorem rgain_sem (σ : List MO) (x y : Ch) (n : Nat) (hn : 4 ≤ n) : evalF Tab n n_saleroomref36_Gain [.agg x.row, .agg y.row] σ = some (.int .i64 (gainV x y), σ) := by
  obtain ⟨n, rfl⟩ : ∃ k, n = k + 1 := ⟨n - 1, by omega⟩
  have c1 := rvalid_sem σ x n (by omega)
  have c2 := rvalid_sem σ y n (by omega)
  by_cases hx : x.ok
  · rw [decide_eq_true hx] at c1
    by_cases hy : y.ok
    · rw [decide_eq_true hy] at c2
      have c3 := rcost_sem σ x hx.1 y.w hy.2 n (by omega)
      have c4 := rcost_sem σ x hx.1 x.w hx.2 n (by omega)
      have b1 := cost_bd hx.1 hy.2
      have b2 := cost_bd hx.1 hx.2
      have hg : gainV x y = costW x.p y.w - costW x.p x.w := if_pos ⟨hx, hy⟩
      rw [hg]
      generalize costW x.p y.w = u at *
      generalize costW x.p x.w = v at *
      have q : (leB (-9223372036854775808) (u - v) && leB (u - v) 9223372036854775807) = true := by simp [leB]; omega
      clear hg hx hy
      obtain ⟨⟨a, b, c, d, e, f⟩, ⟨a', b', c', d', e', f'⟩⟩ := x
      obtain ⟨⟨a1, b1', c1', d1, e1, f1⟩, ⟨a1', b1'', c1'', d1', e1', f1'⟩⟩ := y
      simp only [n_saleroomref36_Valid, n_saleroomref36_Cost, W6.pv, Ch.row, List.cons_append, List.nil_append] at c1 c2 c3 c4
      simp only [evalF, tab_saleroomref36_Gain, Option.bind_some, Sys.run, W6.pv, Ch.row, List.cons_append, List.nil_append]
      show ((bindPs [.sh (.agg [_, _, _, _, _, _, _, _, _, _, _, _]), .sh (.agg [_, _, _, _, _, _, _, _, _, _, _, _])] _).bind _) = _
      simp only [bindPs, bind1, bindK, Option.map_some, Option.bind_some, List.append_nil, List.nil_append, List.cons_append, if_true]
      show (PT.ev _ saleroomref36_Gain_s _).bind _ = _
      simp -implicitDefEqProofs only [saleroomref36_Gain_s, ↓reduceIte, eq_self, PT.ev, BE.safe, BE.pe, IE.pe, PEnv.at, List.getD_cons_zero, List.getD_cons_succ, List.getElem?_cons_zero, List.getElem?_cons_succ, locOf, locOn, readLoc, takeN, Nat.add_zero, List.drop_zero, List.length_cons, List.length_nil, Nat.reduceAdd, Nat.le_refl, if_true, if_false, Bool.false_eq_true, List.take_succ_cons, List.take_zero, bindK, bindRes, bind1, Option.map_some, Option.bind_some, PEnv.push, List.cons_append, List.nil_append, List.append_nil, SV.pvs, SV.pv, BE.all, Bool.and_self, Bool.not_true, Bool.not_false, List.map_cons, List.map_nil, retP, or_true, c1, c2, c3, c4, if_pos q]
    · rw [decide_eq_false hy] at c2
      have hg : gainV x y = 0 := if_neg (fun h => hy h.2)
      rw [hg]
      clear hg hx hy
      obtain ⟨⟨a, b, c, d, e, f⟩, ⟨a', b', c', d', e', f'⟩⟩ := x
      obtain ⟨⟨a1, b1', c1', d1, e1, f1⟩, ⟨a1', b1'', c1'', d1', e1', f1'⟩⟩ := y
      simp only [n_saleroomref36_Valid, W6.pv, Ch.row, List.cons_append, List.nil_append] at c1 c2
      simp only [evalF, tab_saleroomref36_Gain, Option.bind_some, Sys.run, W6.pv, Ch.row, List.cons_append, List.nil_append]
      show ((bindPs [.sh (.agg [_, _, _, _, _, _, _, _, _, _, _, _]), .sh (.agg [_, _, _, _, _, _, _, _, _, _, _, _])] _).bind _) = _
      simp only [bindPs, bind1, bindK, Option.map_some, Option.bind_some, List.append_nil, List.nil_append, List.cons_append, if_true]
      show (PT.ev _ saleroomref36_Gain_s _).bind _ = _
      simp -implicitDefEqProofs only [saleroomref36_Gain_s, ↓reduceIte, eq_self, PT.ev, BE.safe, BE.pe, IE.pe, PEnv.at, List.getD_cons_zero, List.getD_cons_succ, List.getElem?_cons_zero, List.getElem?_cons_succ, locOf, locOn, readLoc, takeN, Nat.add_zero, List.drop_zero, List.length_cons, List.length_nil, Nat.reduceAdd, Nat.le_refl, if_true, if_false, Bool.false_eq_true, List.take_succ_cons, List.take_zero, bindK, bindRes, bind1, Option.map_some, Option.bind_some, PEnv.push, List.cons_append, List.nil_append, List.append_nil, SV.pvs, SV.pv, BE.all, Bool.and_self, Bool.not_true, Bool.not_false, List.map_cons, List.map_nil, retP, or_true, c1, c2]
  · rw [decide_eq_false hx] at c1
    have hg : gainV x y = 0 := if_neg (fun h => hx h.1)
    rw [hg]
    clear hg hx c2
    obtain ⟨⟨a, b, c, d, e, f⟩, ⟨a', b', c', d', e', f'⟩⟩ := x
    obtain ⟨⟨a1, b1', c1', d1, e1, f1⟩, ⟨a1', b1'', c1'', d1', e1', f1'⟩⟩ := y
    simp only [n_saleroomref36_Valid, W6.pv, Ch.row, List.cons_append, List.nil_append] at c1
    simp only [evalF, tab_saleroomref36_Gain, Option.bind_some, Sys.run, W6.pv, Ch.row, List.cons_append, List.nil_append]
    show ((bindPs [.sh (.agg [_, _, _, _, _, _, _, _, _, _, _, _]), .sh (.agg [_, _, _, _, _, _, _, _, _, _, _, _])] _).bind _) = _
    simp only [bindPs, bind1, bindK, Option.map_some, Option.bind_some, List.append_nil, List.nil_append, List.cons_append, if_true]
    show (PT.ev _ saleroomref36_Gain_s _).bind _ = _
    simp -implicitDefEqProofs only [saleroomref36_Gain_s, ↓reduceIte, eq_self, PT.ev, BE.safe, BE.pe, IE.pe, PEnv.at, List.getD_cons_zero, List.getD_cons_succ, List.getElem?_cons_zero, List.getElem?_cons_succ, locOf, locOn, readLoc, takeN, Nat.add_zero, List.drop_zero, List.length_cons, List.length_nil, Nat.reduceAdd, Nat.le_refl, if_true, if_false, Bool.false_eq_true, List.take_succ_cons, List.take_zero, bindK, bindRes, bind1, Option.map_some, Option.bind_some, PEnv.push, List.cons_append, List.nil_append, List.append_nil, SV.pvs, SV.pv, BE.all, Bool.and_self, Bool.not_true, Bool.not_false, List.map_cons, List.map_nil, retP, or_true, c1]
theorem gains_true (x y : Ch) (n : Nat) (hn : 10 ≤ n) (haw : evalF Tab n n_saleroomlaw36_lives [] [] = some (.bool true, [])) : evalF Tab (n + 1) n_saleroomlaw36_RevealedGains [.agg x.row, .agg y.row] [] = some (.bool true, []) := by
  have c1 := gain_sem [] x y n (by omega)
  have c2 := rgain_sem [] x y n (by omega)
  generalize gainV x y = u at *
  obtain ⟨⟨a, b, c, d, e, f⟩, ⟨a', b', c', d', e', f'⟩⟩ := x
  obtain ⟨⟨a1, b1', c1', d1, e1, f1⟩, ⟨a1', b1'', c1'', d1', e1', f1'⟩⟩ := y
  simp only [n_revealed_Gain, n_saleroomref36_Gain, n_saleroomlaw36_lives, W6.pv, Ch.row, List.cons_append, List.nil_append] at c1 c2 haw
  simp only [evalF, tab_saleroomlaw36_RevealedGains, Option.bind_some, Sys.run, W6.pv, Ch.row, List.cons_append, List.nil_append]
  show ((bindPs [.sh (.agg [_, _, _, _, _, _, _, _, _, _, _, _]), .sh (.agg [_, _, _, _, _, _, _, _, _, _, _, _])] _).bind _) = _
  simp only [bindPs, bind1, bindK, Option.map_some, Option.bind_some, List.append_nil, List.nil_append, List.cons_append, if_true]
  show (PT.ev _ saleroomlaw36_RevealedGains_s _).bind _ = _
  simp -implicitDefEqProofs only [saleroomlaw36_RevealedGains_s, ↓reduceIte, eq_self, PT.ev, BE.safe, BE.pe, IE.pe, PEnv.at, List.getD_cons_zero, List.getD_cons_succ, List.getElem?_cons_zero, List.getElem?_cons_succ, locOf, locOn, readLoc, takeN, Nat.add_zero, List.drop_zero, List.length_cons, List.length_nil, Nat.reduceAdd, Nat.le_refl, if_true, if_false, Bool.false_eq_true, List.take_succ_cons, List.take_zero, bindK, bindRes, bind1, Option.map_some, Option.bind_some, PEnv.push, List.cons_append, List.nil_append, List.append_nil, SV.pvs, SV.pv, BE.all, Bool.and_self, Bool.not_true, Bool.not_false, List.map_cons, List.map_nil, retP, or_true, c1, c2, eqB_self, haw]
end Go.Proofs.Ythjahianafohjaa
set_option maxRecDepth 100000
namespace Go.Proofs.Ythjahianafohjaa
open Go.Sx
theorem shaped_w6 {t i : Nat} (hu : Try.prog.underlying t = some (.array 6 i)) (hi : Try.prog.underlying i = some (.int .i64)) {n : Nat} {ps : List PV} (h : Shaped Try.prog n t ps) : ∃ w : W6, ps = w.pv := by
  obtain ⟨m, _, h⟩ := shaped_array hu h
  simp only [List.replicate, Shapeds] at h
  obtain ⟨_, _, rfl, h1, _, _, rfl, h2, _, _, rfl, h3, _, _, rfl, h4, _, _, rfl, h5, _, _, rfl, h6, rfl⟩ := h
  obtain ⟨a, rfl, _⟩ := shaped_int hi h1
  obtain ⟨b, rfl, _⟩ := shaped_int hi h2
  obtain ⟨c, rfl, _⟩ := shaped_int hi h3
  obtain ⟨d, rfl, _⟩ := shaped_int hi h4
  obtain ⟨e, rfl, _⟩ := shaped_int hi h5
  obtain ⟨f, rfl, _⟩ := shaped_int hi h6
  exact ⟨⟨a, b, c, d, e, f⟩, rfl⟩
theorem shaped_Ch {n : Nat} {ps : List PV} (h : Shaped Try.prog n 44 ps) : ∃ x : Ch, ps = x.row := by
  obtain ⟨m, _, h⟩ := shaped_struct Try.underlying44 h
  simp only [List.map_cons, List.map_nil, Shapeds] at h
  obtain ⟨_, _, rfl, h1, _, _, rfl, h2, rfl⟩ := h
  obtain ⟨p, rfl⟩ := shaped_w6 Try.underlying40 (by kernel_rfl) h1
  obtain ⟨w, rfl⟩ := shaped_w6 Try.underlying42 (by kernel_rfl) h2
  exact ⟨⟨p, w⟩, by simp [Ch.row]⟩
/-- The rows of a list of choices. -/
theorem shaped_Chs {n : Nat} : ∀ (rows : List (List PV)), (∀ r ∈ rows, Shaped Try.prog n 44 r) → ∃ l : List Ch, rows = l.map Ch.row
  | [], _ => ⟨[], rfl⟩
  | r :: rows, h => by
    obtain ⟨x, rfl⟩ := shaped_Ch (h r (by simp))
    obtain ⟨l, rfl⟩ := shaped_Chs rows (fun q hq => h q (by simp [hq]))
    exact ⟨x :: l, rfl⟩
/-- Lists of numbers. -/
def ints (l : List Int) : List (List PV) := l.map fun z => [.int .i64 z]
theorem shaped_ints {n t : Nat} (hi : Try.prog.underlying t = some (.int .i64)) : ∀ (rows : List (List PV)), (∀ r ∈ rows, Shaped Try.prog n t r) → ∃ l : List Int, rows = ints l ∧ ∀ z ∈ l, -9223372036854775808 ≤ z ∧ z ≤ 9223372036854775807
  | [], _ => ⟨[], rfl, by simp⟩
  | r :: rows, h => by
    obtain ⟨z, rfl, h1, h2⟩ := shaped_int hi (h r (by simp))
    obtain ⟨l, rfl, hl⟩ := shaped_ints hi rows (fun q hq => h q (by simp [hq]))
    refine ⟨z :: l, rfl, fun y hy => ?_⟩
    rcases List.mem_cons.1 hy with rfl | hy
    · simpa [loI, hiI, IntKind.signed, IntKind.bits] using And.intro h1 h2
    · exact hl y hy
end Go.Proofs.Ythjahianafohjaa
set_option maxRecDepth 100000
namespace Go.Proofs.Ythjahianafohjaa
open Go.Sx
theorem row_eq (x : Ch) : x.row = [.int .i64 x.p.a, .int .i64 x.p.b, .int .i64 x.p.c, .int .i64 x.p.d, .int .i64 x.p.e, .int .i64 x.p.f, .int .i64 x.w.a, .int .i64 x.w.b, .int .i64 x.w.c, .int .i64 x.w.d, .int .i64 x.w.e, .int .i64 x.w.f] := rfl
theorem ints_len (l : List Int) : (ints l).length = l.length := by simp [ints]
theorem ints_get {l : List Int} {i : Nat} {z : Int} (h : l[i]? = some z) : (ints l)[i]? = some [.int .i64 z] := by simp [ints, h]
theorem rows_chs {l : List Ch} {i : Nat} {x : Ch} (h : l[i]? = some x) : (l.map Ch.row)[i]? = some x.row := by simp [h]
theorem all_sem (σ : List MO) (l : List Ch) (P : PV) (hP : P.rowsOf 12 = some (l.map Ch.row)) (n : Nat) (hn : l.length + 5 ≤ n) (hl : l.length ≤ 1000000) :
    evalF Tab n n_revealed_allValid [P] σ = some (.bool (l.all fun x => decide x.ok), σ) := by
  obtain ⟨n, rfl⟩ : ∃ k, n = k + 1 := ⟨n - 1, by omega⟩
  obtain ⟨p1, p2, p3⟩ := rows_len hP
  rw [List.length_map] at p1
  have loop : ∀ (fuel i : Nat), l.length - i < fuel → i ≤ l.length → revealed_allValid_S.loop (evalF Tab n) fuel 0 { i := [(l.length : Int), (i : Int)], b := [], v := [P], m := σ, k := σ.length } = some (.bool ((l.drop i).all fun x => decide x.ok), σ) := by
    intro fuel
    induction fuel with
    | zero => intro i h; omega
    | succ fuel ihf =>
      intro i h1 h2
      rw [Sys.loop, show revealed_allValid_S.loops[0]? = some revealed_allValid_t0 from rfl]
      simp -implicitDefEqProofs only [Option.bind_some, revealed_allValid_t0, ↓reduceIte, eq_self, PT.ev, BE.safe, BE.pe, IE.pe, PEnv.at, List.getD_cons_zero, List.getD_cons_succ, List.getElem?_cons_zero, List.getElem?_cons_succ, locOf, locOn, readLoc, takeN, Nat.add_zero, List.drop_zero, List.length_cons, List.length_nil, Nat.reduceAdd, Nat.le_refl, if_true, if_false, Bool.false_eq_true, List.take_succ_cons, List.take_zero, bindK, bindRes, bind1, Option.map_some, Option.bind_some, PEnv.push, List.cons_append, List.nil_append, List.append_nil, SV.pvs, SV.pv, BE.all, Bool.and_self, Bool.not_true, Bool.not_false, List.map_cons, List.map_nil, ltB_nat, decide_eq_true_eq]
      by_cases hlt : i < l.length
      · obtain ⟨x, hx⟩ : ∃ x, l[i]? = some x := ⟨_, List.getElem?_eq_getElem hlt⟩
        rw [if_pos hlt, drop_cons hx, List.all_cons]
        have hloc := rows_get (off := 0) hP (rows_chs hx)
        have c1 := valid_sem σ x n (by omega)
        have := ihf (i + 1) (by omega) (by omega)
        rw [show ((i + 1 : Nat) : Int) = (i : Int) + 1 from by omega] at this
        have q1 : (leB 0 (i : Int) && decide (i < l.length)) = true := by simp [leB, hlt]
        have q2 : (leB (-9223372036854775808) ((i : Int) + 1) && leB ((i : Int) + 1) 9223372036854775807) = true := by simp [leB]; omega
        generalize decide x.ok = q at *
        simp only [n_revealed_valid, row_eq] at c1
        simp -implicitDefEqProofs only [p1, ltB_nat, ↓reduceIte, eq_self, PT.ev, BE.safe, BE.pe, IE.pe, PEnv.at, List.getD_cons_zero, List.getD_cons_succ, List.getElem?_cons_zero, List.getElem?_cons_succ, locOf, locOn, readLoc, takeN, Nat.add_zero, List.drop_zero, List.length_cons, List.length_nil, Nat.reduceAdd, Nat.le_refl, if_true, if_false, Bool.false_eq_true, List.take_succ_cons, List.take_zero, bindK, bindRes, bind1, Option.map_some, Option.bind_some, PEnv.push, List.cons_append, List.nil_append, List.append_nil, SV.pvs, SV.pv, BE.all, Bool.and_self, Bool.not_true, Bool.not_false, List.map_cons, List.map_nil, if_pos q1, hloc, row_eq, c1]
        cases q with
        | false => simp -implicitDefEqProofs only [↓reduceIte, eq_self, PT.ev, BE.safe, BE.pe, IE.pe, PEnv.at, List.getD_cons_zero, List.getD_cons_succ, List.getElem?_cons_zero, List.getElem?_cons_succ, locOf, locOn, readLoc, takeN, Nat.add_zero, List.drop_zero, List.length_cons, List.length_nil, Nat.reduceAdd, Nat.le_refl, if_true, if_false, Bool.false_eq_true, List.take_succ_cons, List.take_zero, bindK, bindRes, bind1, Option.map_some, Option.bind_some, PEnv.push, List.cons_append, List.nil_append, List.append_nil, SV.pvs, SV.pv, BE.all, Bool.and_self, Bool.not_true, Bool.not_false, List.map_cons, List.map_nil, retP, or_true, Bool.false_and]
        | true =>
          simp -implicitDefEqProofs only [↓reduceIte, eq_self, PT.ev, BE.safe, BE.pe, IE.pe, PEnv.at, List.getD_cons_zero, List.getD_cons_succ, List.getElem?_cons_zero, List.getElem?_cons_succ, locOf, locOn, readLoc, takeN, Nat.add_zero, List.drop_zero, List.length_cons, List.length_nil, Nat.reduceAdd, Nat.le_refl, if_true, if_false, Bool.false_eq_true, List.take_succ_cons, List.take_zero, bindK, bindRes, bind1, Option.map_some, Option.bind_some, PEnv.push, List.cons_append, List.nil_append, List.append_nil, SV.pvs, SV.pv, BE.all, Bool.and_self, Bool.not_true, Bool.not_false, List.map_cons, List.map_nil, if_pos q2, Bool.true_and]
          exact this
      · rw [if_neg hlt, show i = l.length by omega, List.drop_length]
        simp -implicitDefEqProofs only [↓reduceIte, eq_self, PT.ev, BE.safe, BE.pe, IE.pe, PEnv.at, List.getD_cons_zero, List.getD_cons_succ, List.getElem?_cons_zero, List.getElem?_cons_succ, locOf, locOn, readLoc, takeN, Nat.add_zero, List.drop_zero, List.length_cons, List.length_nil, Nat.reduceAdd, Nat.le_refl, if_true, if_false, Bool.false_eq_true, List.take_succ_cons, List.take_zero, bindK, bindRes, bind1, Option.map_some, Option.bind_some, PEnv.push, List.cons_append, List.nil_append, List.append_nil, SV.pvs, SV.pv, BE.all, Bool.and_self, Bool.not_true, Bool.not_false, List.map_cons, List.map_nil, retP, or_true, List.all_nil]
  have h0 := loop n 0 (by omega) (Nat.zero_le _)
  simp only [evalF, tab_revealed_allValid, Option.bind_some, Sys.run]
  show ((bindPs [.sh (.one _)] _).bind _) = _
  simp -implicitDefEqProofs only [bindPs, bind1, bindK, Option.map_some, Option.bind_some, List.append_nil, List.nil_append, List.cons_append, if_true, p3]
  show (PT.ev _ revealed_allValid_s _).bind _ = _
  simp -implicitDefEqProofs only [revealed_allValid_s, ↓reduceIte, eq_self, PT.ev, BE.safe, BE.pe, IE.pe, PEnv.at, List.getD_cons_zero, List.getD_cons_succ, List.getElem?_cons_zero, List.getElem?_cons_succ, locOf, locOn, readLoc, takeN, Nat.add_zero, List.drop_zero, List.length_cons, List.length_nil, Nat.reduceAdd, Nat.le_refl, if_true, if_false, Bool.false_eq_true, List.take_succ_cons, List.take_zero, bindK, bindRes, bind1, Option.map_some, Option.bind_some, PEnv.push, List.cons_append, List.nil_append, List.append_nil, SV.pvs, SV.pv, BE.all, Bool.and_self, Bool.not_true, Bool.not_false, List.map_cons, List.map_nil, p1, p2]
  simpa using h0
theorem rall_sem (σ : List MO) (l : List Ch) (P : PV) (hP : P.rowsOf 12 = some (l.map Ch.row)) (n : Nat) (hn : l.length + 5 ≤ n) (hl : l.length ≤ 1000000) :
    evalF Tab n n_saleroomref36_All [P] σ = some (.bool (l.all fun x => decide x.ok), σ) := by
  obtain ⟨n, rfl⟩ : ∃ k, n = k + 1 := ⟨n - 1, by omega⟩
  obtain ⟨p1, p2, p3⟩ := rows_len hP
  rw [List.length_map] at p1
  have loop : ∀ (fuel i : Nat), l.length - i < fuel → i ≤ l.length → saleroomref36_All_S.loop (evalF Tab n) fuel 0 { i := [(i : Int)], b := [], v := [P], m := σ, k := σ.length } = some (.bool ((l.drop i).all fun x => decide x.ok), σ) := by
    intro fuel
    induction fuel with
    | zero => intro i h; omega
    | succ fuel ihf =>
      intro i h1 h2
      rw [Sys.loop, show saleroomref36_All_S.loops[0]? = some saleroomref36_All_t0 from rfl]
      simp -implicitDefEqProofs only [Option.bind_some, saleroomref36_All_t0, ↓reduceIte, eq_self, PT.ev, BE.safe, BE.pe, IE.pe, PEnv.at, List.getD_cons_zero, List.getD_cons_succ, List.getElem?_cons_zero, List.getElem?_cons_succ, locOf, locOn, readLoc, takeN, Nat.add_zero, List.drop_zero, List.length_cons, List.length_nil, Nat.reduceAdd, Nat.le_refl, if_true, if_false, Bool.false_eq_true, List.take_succ_cons, List.take_zero, bindK, bindRes, bind1, Option.map_some, Option.bind_some, PEnv.push, List.cons_append, List.nil_append, List.append_nil, SV.pvs, SV.pv, BE.all, Bool.and_self, Bool.not_true, Bool.not_false, List.map_cons, List.map_nil, p1, p2, ltB_nat, decide_eq_true_eq]
      by_cases hlt : i < l.length
      · obtain ⟨x, hx⟩ : ∃ x, l[i]? = some x := ⟨_, List.getElem?_eq_getElem hlt⟩
        rw [if_pos hlt, drop_cons hx, List.all_cons]
        have hloc := rows_get (off := 0) hP (rows_chs hx)
        have c1 := rvalid_sem σ x n (by omega)
        have := ihf (i + 1) (by omega) (by omega)
        rw [show ((i + 1 : Nat) : Int) = (i : Int) + 1 from by omega] at this
        have q1 : (leB 0 (i : Int) && decide (i < l.length)) = true := by simp [leB, hlt]
        have q2 : (leB (-9223372036854775808) ((i : Int) + 1) && leB ((i : Int) + 1) 9223372036854775807) = true := by simp [leB]; omega
        generalize decide x.ok = q at *
        simp only [n_saleroomref36_Valid, row_eq] at c1
        simp -implicitDefEqProofs only [p1, ltB_nat, ↓reduceIte, eq_self, PT.ev, BE.safe, BE.pe, IE.pe, PEnv.at, List.getD_cons_zero, List.getD_cons_succ, List.getElem?_cons_zero, List.getElem?_cons_succ, locOf, locOn, readLoc, takeN, Nat.add_zero, List.drop_zero, List.length_cons, List.length_nil, Nat.reduceAdd, Nat.le_refl, if_true, if_false, Bool.false_eq_true, List.take_succ_cons, List.take_zero, bindK, bindRes, bind1, Option.map_some, Option.bind_some, PEnv.push, List.cons_append, List.nil_append, List.append_nil, SV.pvs, SV.pv, BE.all, Bool.and_self, Bool.not_true, Bool.not_false, List.map_cons, List.map_nil, if_pos q1, hloc, row_eq, c1]
        cases q with
        | false => simp -implicitDefEqProofs only [↓reduceIte, eq_self, PT.ev, BE.safe, BE.pe, IE.pe, PEnv.at, List.getD_cons_zero, List.getD_cons_succ, List.getElem?_cons_zero, List.getElem?_cons_succ, locOf, locOn, readLoc, takeN, Nat.add_zero, List.drop_zero, List.length_cons, List.length_nil, Nat.reduceAdd, Nat.le_refl, if_true, if_false, Bool.false_eq_true, List.take_succ_cons, List.take_zero, bindK, bindRes, bind1, Option.map_some, Option.bind_some, PEnv.push, List.cons_append, List.nil_append, List.append_nil, SV.pvs, SV.pv, BE.all, Bool.and_self, Bool.not_true, Bool.not_false, List.map_cons, List.map_nil, retP, or_true, Bool.false_and]
        | true =>
          simp -implicitDefEqProofs only [↓reduceIte, eq_self, PT.ev, BE.safe, BE.pe, IE.pe, PEnv.at, List.getD_cons_zero, List.getD_cons_succ, List.getElem?_cons_zero, List.getElem?_cons_succ, locOf, locOn, readLoc, takeN, Nat.add_zero, List.drop_zero, List.length_cons, List.length_nil, Nat.reduceAdd, Nat.le_refl, if_true, if_false, Bool.false_eq_true, List.take_succ_cons, List.take_zero, bindK, bindRes, bind1, Option.map_some, Option.bind_some, PEnv.push, List.cons_append, List.nil_append, List.append_nil, SV.pvs, SV.pv, BE.all, Bool.and_self, Bool.not_true, Bool.not_false, List.map_cons, List.map_nil, if_pos q2, Bool.true_and]
          exact this
      · rw [if_neg hlt, show i = l.length by omega, List.drop_length]
        simp -implicitDefEqProofs only [↓reduceIte, eq_self, PT.ev, BE.safe, BE.pe, IE.pe, PEnv.at, List.getD_cons_zero, List.getD_cons_succ, List.getElem?_cons_zero, List.getElem?_cons_succ, locOf, locOn, readLoc, takeN, Nat.add_zero, List.drop_zero, List.length_cons, List.length_nil, Nat.reduceAdd, Nat.le_refl, if_true, if_false, Bool.false_eq_true, List.take_succ_cons, List.take_zero, bindK, bindRes, bind1, Option.map_some, Option.bind_some, PEnv.push, List.cons_append, List.nil_append, List.append_nil, SV.pvs, SV.pv, BE.all, Bool.and_self, Bool.not_true, Bool.not_false, List.map_cons, List.map_nil, retP, or_true, List.all_nil]
  have h0 := loop n 0 (by omega) (Nat.zero_le _)
  simp only [evalF, tab_saleroomref36_All, Option.bind_some, Sys.run]
  show ((bindPs [.sh (.one _)] _).bind _) = _
  simp -implicitDefEqProofs only [bindPs, bind1, bindK, Option.map_some, Option.bind_some, List.append_nil, List.nil_append, List.cons_append, if_true, p3]
  show (PT.ev _ saleroomref36_All_s _).bind _ = _
  simp -implicitDefEqProofs only [saleroomref36_All_s, ↓reduceIte, eq_self, PT.ev, BE.safe, BE.pe, IE.pe, PEnv.at, List.getD_cons_zero, List.getD_cons_succ, List.getElem?_cons_zero, List.getElem?_cons_succ, locOf, locOn, readLoc, takeN, Nat.add_zero, List.drop_zero, List.length_cons, List.length_nil, Nat.reduceAdd, Nat.le_refl, if_true, if_false, Bool.false_eq_true, List.take_succ_cons, List.take_zero, bindK, bindRes, bind1, Option.map_some, Option.bind_some, PEnv.push, List.cons_append, List.nil_append, List.append_nil, SV.pvs, SV.pv, BE.all, Bool.and_self, Bool.not_true, Bool.not_false, List.map_cons, List.map_nil]
  simpa using h0
def cycOk (n : Nat) (z : Int) : Bool := decide (0 ≤ z ∧ z < n)
def valOk (z : Int) : Bool := decide (-1099511627776 ≤ z ∧ z ≤ 1099511627776)
def formV (n : Nat) (cyc vals : List Int) : Bool := !(decide (0 < cyc.length ∧ 0 < vals.length) || decide (1000 < cyc.length)) && cyc.all (cycOk n) && vals.all valOk
theorem formed_sem (σ : List MO) (l : List Ch) (P : PV) (hP : P.rowsOf 12 = some (l.map Ch.row)) (cyc vals : List Int) (C V : PV) (hC : C.rowsOf 1 = some (ints cyc)) (hV : V.rowsOf 1 = some (ints vals)) (n : Nat) (hn : cyc.length + vals.length + 5 ≤ n) (hc : cyc.length ≤ 1000000) (hv : vals.length ≤ 1000000) :
    evalF Tab n n_revealed_formed [P, .agg [C, V]] σ = some (.bool (formV l.length cyc vals), σ) := by
  obtain ⟨n, rfl⟩ : ∃ k, n = k + 1 := ⟨n - 1, by omega⟩
  obtain ⟨p1, p2, p3⟩ := rows_len hP
  obtain ⟨r1, r2, r3⟩ := rows_len hC
  obtain ⟨s1, s2, s3⟩ := rows_len hV
  rw [List.length_map] at p1
  rw [ints_len] at r1 s1
  have loop1 : ∀ (fuel i : Nat), vals.length - i < fuel → i ≤ vals.length → revealed_formed_S.loop (evalF Tab n) fuel 1 { i := [(vals.length : Int), (i : Int)], b := [], v := [V], m := σ, k := σ.length } = some (.bool ((vals.drop i).all valOk), σ) := by
    intro fuel
    induction fuel with
    | zero => intro i h; omega
    | succ fuel ihf =>
      intro i h1 h2
      rw [Sys.loop, show revealed_formed_S.loops[1]? = some revealed_formed_t1 from rfl]
      simp -implicitDefEqProofs only [Option.bind_some, revealed_formed_t1, ↓reduceIte, eq_self, PT.ev, BE.safe, BE.pe, IE.pe, PEnv.at, List.getD_cons_zero, List.getD_cons_succ, List.getElem?_cons_zero, List.getElem?_cons_succ, locOf, locOn, readLoc, takeN, Nat.add_zero, List.drop_zero, List.length_cons, List.length_nil, Nat.reduceAdd, Nat.le_refl, if_true, if_false, Bool.false_eq_true, List.take_succ_cons, List.take_zero, bindK, bindRes, bind1, Option.map_some, Option.bind_some, PEnv.push, List.cons_append, List.nil_append, List.append_nil, SV.pvs, SV.pv, BE.all, Bool.and_self, Bool.not_true, Bool.not_false, List.map_cons, List.map_nil, ltB_nat, decide_eq_true_eq]
      by_cases hlt : i < vals.length
      · obtain ⟨z, hz⟩ : ∃ z, vals[i]? = some z := ⟨_, List.getElem?_eq_getElem hlt⟩
        rw [if_pos hlt, drop_cons hz, List.all_cons]
        have hloc := rows_get (off := 0) hV (ints_get hz)
        have := ihf (i + 1) (by omega) (by omega)
        rw [show ((i + 1 : Nat) : Int) = (i : Int) + 1 from by omega] at this
        have q1 : (leB 0 (i : Int) && decide (i < vals.length)) = true := by simp [leB, hlt]
        have q2 : (leB (-9223372036854775808) ((i : Int) + 1) && leB ((i : Int) + 1) 9223372036854775807) = true := by simp [leB]; omega
        simp -implicitDefEqProofs only [s1, ltB_nat, ↓reduceIte, eq_self, PT.ev, BE.safe, BE.pe, IE.pe, PEnv.at, List.getD_cons_zero, List.getD_cons_succ, List.getElem?_cons_zero, List.getElem?_cons_succ, locOf, locOn, readLoc, takeN, Nat.add_zero, List.drop_zero, List.length_cons, List.length_nil, Nat.reduceAdd, Nat.le_refl, if_true, if_false, Bool.false_eq_true, List.take_succ_cons, List.take_zero, bindK, bindRes, bind1, Option.map_some, Option.bind_some, PEnv.push, List.cons_append, List.nil_append, List.append_nil, SV.pvs, SV.pv, BE.all, Bool.and_self, Bool.not_true, Bool.not_false, List.map_cons, List.map_nil, if_pos q1, hloc, ltB_true]
        by_cases h3 : z < -1099511627776
        · rw [if_pos h3]
          have : valOk z = false := by simp [valOk]; omega
          simp -implicitDefEqProofs only [↓reduceIte, eq_self, PT.ev, BE.safe, BE.pe, IE.pe, PEnv.at, List.getD_cons_zero, List.getD_cons_succ, List.getElem?_cons_zero, List.getElem?_cons_succ, locOf, locOn, readLoc, takeN, Nat.add_zero, List.drop_zero, List.length_cons, List.length_nil, Nat.reduceAdd, Nat.le_refl, if_true, if_false, Bool.false_eq_true, List.take_succ_cons, List.take_zero, bindK, bindRes, bind1, Option.map_some, Option.bind_some, PEnv.push, List.cons_append, List.nil_append, List.append_nil, SV.pvs, SV.pv, BE.all, Bool.and_self, Bool.not_true, Bool.not_false, List.map_cons, List.map_nil, retP, or_true, this, Bool.false_and]
        · rw [if_neg h3]
          by_cases h4 : 1099511627776 < z
          · rw [if_pos h4]
            have : valOk z = false := by simp [valOk]; omega
            simp -implicitDefEqProofs only [↓reduceIte, eq_self, PT.ev, BE.safe, BE.pe, IE.pe, PEnv.at, List.getD_cons_zero, List.getD_cons_succ, List.getElem?_cons_zero, List.getElem?_cons_succ, locOf, locOn, readLoc, takeN, Nat.add_zero, List.drop_zero, List.length_cons, List.length_nil, Nat.reduceAdd, Nat.le_refl, if_true, if_false, Bool.false_eq_true, List.take_succ_cons, List.take_zero, bindK, bindRes, bind1, Option.map_some, Option.bind_some, PEnv.push, List.cons_append, List.nil_append, List.append_nil, SV.pvs, SV.pv, BE.all, Bool.and_self, Bool.not_true, Bool.not_false, List.map_cons, List.map_nil, retP, or_true, this, Bool.false_and]
          · rw [if_neg h4]
            have h5 : valOk z = true := by simp [valOk]; omega
            simp -implicitDefEqProofs only [↓reduceIte, eq_self, PT.ev, BE.safe, BE.pe, IE.pe, PEnv.at, List.getD_cons_zero, List.getD_cons_succ, List.getElem?_cons_zero, List.getElem?_cons_succ, locOf, locOn, readLoc, takeN, Nat.add_zero, List.drop_zero, List.length_cons, List.length_nil, Nat.reduceAdd, Nat.le_refl, if_true, if_false, Bool.false_eq_true, List.take_succ_cons, List.take_zero, bindK, bindRes, bind1, Option.map_some, Option.bind_some, PEnv.push, List.cons_append, List.nil_append, List.append_nil, SV.pvs, SV.pv, BE.all, Bool.and_self, Bool.not_true, Bool.not_false, List.map_cons, List.map_nil, if_pos q2, h5, Bool.true_and]
            exact this
      · rw [if_neg hlt, show i = vals.length by omega, List.drop_length]
        simp -implicitDefEqProofs only [↓reduceIte, eq_self, PT.ev, BE.safe, BE.pe, IE.pe, PEnv.at, List.getD_cons_zero, List.getD_cons_succ, List.getElem?_cons_zero, List.getElem?_cons_succ, locOf, locOn, readLoc, takeN, Nat.add_zero, List.drop_zero, List.length_cons, List.length_nil, Nat.reduceAdd, Nat.le_refl, if_true, if_false, Bool.false_eq_true, List.take_succ_cons, List.take_zero, bindK, bindRes, bind1, Option.map_some, Option.bind_some, PEnv.push, List.cons_append, List.nil_append, List.append_nil, SV.pvs, SV.pv, BE.all, Bool.and_self, Bool.not_true, Bool.not_false, List.map_cons, List.map_nil, retP, or_true, List.all_nil]
  have loop0 : ∀ (fuel i : Nat), (cyc.length - i) + vals.length + 1 < fuel → i ≤ cyc.length → revealed_formed_S.loop (evalF Tab n) fuel 0 { i := [(cyc.length : Int), (i : Int)], b := [], v := [P, C, V], m := σ, k := σ.length } = some (.bool ((cyc.drop i).all (cycOk l.length) && vals.all valOk), σ) := by
    intro fuel
    induction fuel with
    | zero => intro i h; omega
    | succ fuel ihf =>
      intro i h1 h2
      rw [Sys.loop, show revealed_formed_S.loops[0]? = some revealed_formed_t0 from rfl]
      simp -implicitDefEqProofs only [Option.bind_some, revealed_formed_t0, ↓reduceIte, eq_self, PT.ev, BE.safe, BE.pe, IE.pe, PEnv.at, List.getD_cons_zero, List.getD_cons_succ, List.getElem?_cons_zero, List.getElem?_cons_succ, locOf, locOn, readLoc, takeN, Nat.add_zero, List.drop_zero, List.length_cons, List.length_nil, Nat.reduceAdd, Nat.le_refl, if_true, if_false, Bool.false_eq_true, List.take_succ_cons, List.take_zero, bindK, bindRes, bind1, Option.map_some, Option.bind_some, PEnv.push, List.cons_append, List.nil_append, List.append_nil, SV.pvs, SV.pv, BE.all, Bool.and_self, Bool.not_true, Bool.not_false, List.map_cons, List.map_nil, ltB_nat, decide_eq_true_eq]
      by_cases hlt : i < cyc.length
      · obtain ⟨z, hz⟩ : ∃ z, cyc[i]? = some z := ⟨_, List.getElem?_eq_getElem hlt⟩
        rw [if_pos hlt, drop_cons hz, List.all_cons]
        have hloc := rows_get (off := 0) hC (ints_get hz)
        have := ihf (i + 1) (by omega) (by omega)
        rw [show ((i + 1 : Nat) : Int) = (i : Int) + 1 from by omega] at this
        have q1 : (leB 0 (i : Int) && decide (i < cyc.length)) = true := by simp [leB, hlt]
        have q2 : (leB (-9223372036854775808) ((i : Int) + 1) && leB ((i : Int) + 1) 9223372036854775807) = true := by simp [leB]; omega
        simp -implicitDefEqProofs only [p1, p2, r1, ltB_nat, ↓reduceIte, eq_self, PT.ev, BE.safe, BE.pe, IE.pe, PEnv.at, List.getD_cons_zero, List.getD_cons_succ, List.getElem?_cons_zero, List.getElem?_cons_succ, locOf, locOn, readLoc, takeN, Nat.add_zero, List.drop_zero, List.length_cons, List.length_nil, Nat.reduceAdd, Nat.le_refl, if_true, if_false, Bool.false_eq_true, List.take_succ_cons, List.take_zero, bindK, bindRes, bind1, Option.map_some, Option.bind_some, PEnv.push, List.cons_append, List.nil_append, List.append_nil, SV.pvs, SV.pv, BE.all, Bool.and_self, Bool.not_true, Bool.not_false, List.map_cons, List.map_nil, if_pos q1, hloc, ltB_true, leB_true]
        by_cases h3 : z < 0
        · rw [if_pos h3]
          have : cycOk l.length z = false := by simp [cycOk]; omega
          simp -implicitDefEqProofs only [↓reduceIte, eq_self, PT.ev, BE.safe, BE.pe, IE.pe, PEnv.at, List.getD_cons_zero, List.getD_cons_succ, List.getElem?_cons_zero, List.getElem?_cons_succ, locOf, locOn, readLoc, takeN, Nat.add_zero, List.drop_zero, List.length_cons, List.length_nil, Nat.reduceAdd, Nat.le_refl, if_true, if_false, Bool.false_eq_true, List.take_succ_cons, List.take_zero, bindK, bindRes, bind1, Option.map_some, Option.bind_some, PEnv.push, List.cons_append, List.nil_append, List.append_nil, SV.pvs, SV.pv, BE.all, Bool.and_self, Bool.not_true, Bool.not_false, List.map_cons, List.map_nil, retP, or_true, this, Bool.false_and]
        · rw [if_neg h3]
          by_cases h4 : (l.length : Int) ≤ z
          · rw [if_pos h4]
            have : cycOk l.length z = false := by simp [cycOk]; omega
            simp -implicitDefEqProofs only [↓reduceIte, eq_self, PT.ev, BE.safe, BE.pe, IE.pe, PEnv.at, List.getD_cons_zero, List.getD_cons_succ, List.getElem?_cons_zero, List.getElem?_cons_succ, locOf, locOn, readLoc, takeN, Nat.add_zero, List.drop_zero, List.length_cons, List.length_nil, Nat.reduceAdd, Nat.le_refl, if_true, if_false, Bool.false_eq_true, List.take_succ_cons, List.take_zero, bindK, bindRes, bind1, Option.map_some, Option.bind_some, PEnv.push, List.cons_append, List.nil_append, List.append_nil, SV.pvs, SV.pv, BE.all, Bool.and_self, Bool.not_true, Bool.not_false, List.map_cons, List.map_nil, retP, or_true, this, Bool.false_and]
          · rw [if_neg h4]
            have h5 : cycOk l.length z = true := by simp [cycOk]; omega
            simp -implicitDefEqProofs only [↓reduceIte, eq_self, PT.ev, BE.safe, BE.pe, IE.pe, PEnv.at, List.getD_cons_zero, List.getD_cons_succ, List.getElem?_cons_zero, List.getElem?_cons_succ, locOf, locOn, readLoc, takeN, Nat.add_zero, List.drop_zero, List.length_cons, List.length_nil, Nat.reduceAdd, Nat.le_refl, if_true, if_false, Bool.false_eq_true, List.take_succ_cons, List.take_zero, bindK, bindRes, bind1, Option.map_some, Option.bind_some, PEnv.push, List.cons_append, List.nil_append, List.append_nil, SV.pvs, SV.pv, BE.all, Bool.and_self, Bool.not_true, Bool.not_false, List.map_cons, List.map_nil, if_pos q2, h5, Bool.true_and]
            exact this
      · rw [if_neg hlt, show i = cyc.length by omega, List.drop_length]
        simp -implicitDefEqProofs only [↓reduceIte, eq_self, PT.ev, BE.safe, BE.pe, IE.pe, PEnv.at, List.getD_cons_zero, List.getD_cons_succ, List.getElem?_cons_zero, List.getElem?_cons_succ, locOf, locOn, readLoc, takeN, Nat.add_zero, List.drop_zero, List.length_cons, List.length_nil, Nat.reduceAdd, Nat.le_refl, if_true, if_false, Bool.false_eq_true, List.take_succ_cons, List.take_zero, bindK, bindRes, bind1, Option.map_some, Option.bind_some, PEnv.push, List.cons_append, List.nil_append, List.append_nil, SV.pvs, SV.pv, BE.all, Bool.and_self, Bool.not_true, Bool.not_false, List.map_cons, List.map_nil, s1, s2, List.all_nil, Bool.true_and]
        have := loop1 fuel 0 (by omega) (Nat.zero_le _)
        simpa using this
  have h0 := loop0 n 0 (by omega) (Nat.zero_le _)
  simp only [List.drop_zero] at h0
  simp only [evalF, tab_revealed_formed, Option.bind_some, Sys.run]
  show ((bindPs [.sh (.one _), .sh (.agg [_, _])] _).bind _) = _
  simp -implicitDefEqProofs only [bindPs, bind1, bindK, Option.map_some, Option.bind_some, List.append_nil, List.nil_append, List.cons_append, if_true, p3, r3, s3]
  show (PT.ev _ revealed_formed_s _).bind _ = _
  simp -implicitDefEqProofs only [revealed_formed_s, ↓reduceIte, eq_self, PT.ev, BE.safe, BE.pe, IE.pe, PEnv.at, List.getD_cons_zero, List.getD_cons_succ, List.getElem?_cons_zero, List.getElem?_cons_succ, locOf, locOn, readLoc, takeN, Nat.add_zero, List.drop_zero, List.length_cons, List.length_nil, Nat.reduceAdd, Nat.le_refl, if_true, if_false, Bool.false_eq_true, List.take_succ_cons, List.take_zero, bindK, bindRes, bind1, Option.map_some, Option.bind_some, PEnv.push, List.cons_append, List.nil_append, List.append_nil, SV.pvs, SV.pv, BE.all, Bool.and_self, Bool.not_true, Bool.not_false, List.map_cons, List.map_nil, r1, r2, s1, s2, ltB_true]
  simp only [formV]
  by_cases h1 : 0 < cyc.length
  · rw [if_pos (by omega)]
    by_cases h2 : 0 < vals.length
    · rw [if_pos (by omega)]
      simp -implicitDefEqProofs only [↓reduceIte, eq_self, PT.ev, BE.safe, BE.pe, IE.pe, PEnv.at, List.getD_cons_zero, List.getD_cons_succ, List.getElem?_cons_zero, List.getElem?_cons_succ, locOf, locOn, readLoc, takeN, Nat.add_zero, List.drop_zero, List.length_cons, List.length_nil, Nat.reduceAdd, Nat.le_refl, if_true, if_false, Bool.false_eq_true, List.take_succ_cons, List.take_zero, bindK, bindRes, bind1, Option.map_some, Option.bind_some, PEnv.push, List.cons_append, List.nil_append, List.append_nil, SV.pvs, SV.pv, BE.all, Bool.and_self, Bool.not_true, Bool.not_false, List.map_cons, List.map_nil, retP, or_true, h1, h2, and_self, decide_true, Bool.true_or, Bool.false_and]
    · rw [if_neg (by omega)]
      by_cases h3 : 1000 < cyc.length
      · rw [if_pos (by omega)]
        simp -implicitDefEqProofs only [↓reduceIte, eq_self, PT.ev, BE.safe, BE.pe, IE.pe, PEnv.at, List.getD_cons_zero, List.getD_cons_succ, List.getElem?_cons_zero, List.getElem?_cons_succ, locOf, locOn, readLoc, takeN, Nat.add_zero, List.drop_zero, List.length_cons, List.length_nil, Nat.reduceAdd, Nat.le_refl, if_true, if_false, Bool.false_eq_true, List.take_succ_cons, List.take_zero, bindK, bindRes, bind1, Option.map_some, Option.bind_some, PEnv.push, List.cons_append, List.nil_append, List.append_nil, SV.pvs, SV.pv, BE.all, Bool.and_self, Bool.not_true, Bool.not_false, List.map_cons, List.map_nil, retP, or_true, h3, decide_true, Bool.or_true, Bool.false_and]
      · rw [if_neg (by omega)]
        simp -implicitDefEqProofs only [↓reduceIte, eq_self, PT.ev, BE.safe, BE.pe, IE.pe, PEnv.at, List.getD_cons_zero, List.getD_cons_succ, List.getElem?_cons_zero, List.getElem?_cons_succ, locOf, locOn, readLoc, takeN, Nat.add_zero, List.drop_zero, List.length_cons, List.length_nil, Nat.reduceAdd, Nat.le_refl, if_true, if_false, Bool.false_eq_true, List.take_succ_cons, List.take_zero, bindK, bindRes, bind1, Option.map_some, Option.bind_some, PEnv.push, List.cons_append, List.nil_append, List.append_nil, SV.pvs, SV.pv, BE.all, Bool.and_self, Bool.not_true, Bool.not_false, List.map_cons, List.map_nil, h2, h3, and_false, decide_false, Bool.or_self, Bool.true_and]
        simpa using h0
  · rw [if_neg (by omega)]
    by_cases h3 : 1000 < cyc.length
    · omega
    · rw [if_neg (by omega)]
      simp -implicitDefEqProofs only [↓reduceIte, eq_self, PT.ev, BE.safe, BE.pe, IE.pe, PEnv.at, List.getD_cons_zero, List.getD_cons_succ, List.getElem?_cons_zero, List.getElem?_cons_succ, locOf, locOn, readLoc, takeN, Nat.add_zero, List.drop_zero, List.length_cons, List.length_nil, Nat.reduceAdd, Nat.le_refl, if_true, if_false, Bool.false_eq_true, List.take_succ_cons, List.take_zero, bindK, bindRes, bind1, Option.map_some, Option.bind_some, PEnv.push, List.cons_append, List.nil_append, List.append_nil, SV.pvs, SV.pv, BE.all, Bool.and_self, Bool.not_true, Bool.not_false, List.map_cons, List.map_nil, h1, h3, false_and, decide_false, Bool.or_self, Bool.true_and]
      simpa using h0
end Go.Proofs.Ythjahianafohjaa
set_option maxRecDepth 100000
namespace Go.Proofs.Ythjahianafohjaa
open Go.Sx
def W6.beq (x y : W6) : Bool := eqB x.a y.a && (eqB x.b y.b && (eqB x.c y.c && (eqB x.d y.d && (eqB x.e y.e && eqB x.f y.f))))
def W6.isZ (x : W6) : Bool := eqB x.a 0 && (eqB x.b 0 && (eqB x.c 0 && (eqB x.d 0 && (eqB x.e 0 && eqB x.f 0))))
theorem W6.beq_eq {x y : W6} (h : x.beq y = true) : x = y := by
  obtain ⟨a, b, c, d, e, f⟩ := x
  obtain ⟨a', b', c', d', e', f'⟩ := y
  simp only [W6.beq, Bool.and_eq_true, eqB_true] at h
  obtain ⟨rfl, rfl, rfl, rfl, rfl, rfl⟩ := h
  rfl
abbrev CV := Ch × Int
def ownOk (p : CV) : Bool := decide (costW p.1.p p.1.w ≤ p.2) && (!p.1.w.isZ || eqB p.2 0)
def innP (p q : CV) : Bool := decide (q.2 - p.2 ≤ gainC p.1 q.1)
def innR (p q : CV) : Bool := (!p.1.w.beq q.1.w || eqB p.2 q.2) && decide (q.2 - costW p.1.p q.1.w ≤ p.2 - costW p.1.p p.1.w)
def explP (z : List CV) : Bool := z.all fun p => ownOk p && z.all (innP p)
def explR (z : List CV) : Bool := z.all fun p => ownOk p && z.all (innR p)
theorem innP_iff (p q : CV) : innP p q = true ↔ q.2 - p.2 ≤ costW p.1.p q.1.w - costW p.1.p p.1.w := by
  unfold innP; rw [decide_eq_true_iff]; exact Iff.rfl
theorem innR_iff (p q : CV) : innR p q = true ↔ (p.1.w.beq q.1.w = true → p.2 = q.2) ∧ q.2 - costW p.1.p q.1.w ≤ p.2 - costW p.1.p p.1.w := by
  unfold innR
  rw [Bool.and_eq_true, decide_eq_true_iff, Bool.or_eq_true, eqB_true]
  cases p.1.w.beq q.1.w <;> simp
theorem expl_eq (z : List CV) : explP z = explR z := by
  rw [Bool.eq_iff_iff]
  simp only [explP, explR, List.all_eq_true, Bool.and_eq_true]
  constructor
  · intro h p hp
    refine ⟨(h p hp).1, fun q hq => ?_⟩
    have h1 := (innP_iff p q).1 ((h p hp).2 q hq)
    have h2 := (innP_iff q p).1 ((h q hq).2 p hp)
    refine (innR_iff p q).2 ⟨fun hb => ?_, by omega⟩
    have hw := W6.beq_eq hb
    rw [hw] at h1 h2
    omega
  · intro h p hp
    refine ⟨(h p hp).1, fun q hq => ?_⟩
    have h1 := (innR_iff p q).1 ((h p hp).2 q hq)
    exact (innP_iff p q).2 (by omega)
theorem zip_at {l : List Ch} {vals : List Int} {i : Nat} {x : Ch} {v : Int} (hx : l[i]? = some x) (hv : vals[i]? = some v) : (l.zip vals)[i]? = some (x, v) := by
  rw [List.getElem?_zip_eq_some]; exact ⟨hx, hv⟩
theorem expl_sem (σ : List MO) (l : List Ch) (P : PV) (hP : P.rowsOf 12 = some (l.map Ch.row)) (vals : List Int) (V : PV) (hV : V.rowsOf 1 = some (ints vals)) (hl : l.length ≤ 14) (hok : ∀ x ∈ l, x.ok) (hvo : ∀ v ∈ vals, valOk v = true) (n : Nat) (hn : 400 ≤ n) :
    evalF Tab n n_revealed_explains [P, V] σ = some (.bool (decide (vals.length = l.length) && explP (l.zip vals)), σ) := by
  obtain ⟨n, rfl⟩ : ∃ k, n = k + 1 := ⟨n - 1, by omega⟩
  obtain ⟨p1, p2, p3⟩ := rows_len hP
  obtain ⟨s1, s2, s3⟩ := rows_len hV
  rw [List.length_map] at p1
  rw [ints_len] at s1
  have loops : vals.length = l.length → ∀ fuel : Nat,
      (∀ i, i ≤ l.length → (l.length - i) * 20 + 1 ≤ fuel → revealed_explains_S.loop (evalF Tab n) fuel 0 { i := [(l.length : Int), (i : Int)], b := [], v := [P, V], m := σ, k := σ.length } = some (.bool (((l.zip vals).drop i).all fun p => ownOk p && (l.zip vals).all (innP p)), σ)) ∧
      (∀ i k x v b0 b1 b2, l[i]? = some x → vals[i]? = some v → k ≤ l.length → (l.length - i - 1) * 20 + (l.length - k) + 3 ≤ fuel →
        revealed_explains_S.loop (evalF Tab n) fuel 1 { i := [(i : Int), (l.length : Int), x.w.a, x.w.b, x.w.c, x.w.d, x.w.e, x.w.f, (l.length : Int), (k : Int), x.p.a, x.p.b, x.p.c, x.p.d, x.p.e, x.p.f], b := [b0, b1, b2], v := [P, V], m := σ, k := σ.length } =
          some (.bool (((l.zip vals).drop k).all (innP (x, v)) && ((l.zip vals).drop (i + 1)).all fun p => ownOk p && (l.zip vals).all (innP p)), σ)) := by
    intro hvl fuel
    induction fuel with
    | zero => exact ⟨fun i _ h => by omega, fun i k x v b0 b1 b2 _ _ _ h => by omega⟩
    | succ fuel ih =>
      refine ⟨fun i h1 h2 => ?_, fun i k x v b0 b1 b2 hx hv h1 h2 => ?_⟩
      · rw [Sys.loop, show revealed_explains_S.loops[0]? = some revealed_explains_t0 from rfl]
        simp -implicitDefEqProofs only [Option.bind_some, revealed_explains_t0, ↓reduceIte, eq_self, PT.ev, BE.safe, BE.pe, IE.pe, PEnv.at, List.getD_cons_zero, List.getD_cons_succ, List.getElem?_cons_zero, List.getElem?_cons_succ, locOf, locOn, readLoc, takeN, Nat.add_zero, List.drop_zero, List.length_cons, List.length_nil, Nat.reduceAdd, Nat.le_refl, if_true, if_false, Bool.false_eq_true, List.take_succ_cons, List.take_zero, bindK, bindRes, bind1, Option.map_some, Option.bind_some, PEnv.push, List.cons_append, List.nil_append, List.append_nil, SV.pvs, SV.pv, BE.all, Bool.and_self, Bool.not_true, Bool.not_false, List.map_cons, List.map_nil, ltB_nat, decide_eq_true_eq]
        by_cases hlt : i < l.length
        · obtain ⟨x, hx⟩ : ∃ x, l[i]? = some x := ⟨_, List.getElem?_eq_getElem hlt⟩
          obtain ⟨v, hv⟩ : ∃ x, vals[i]? = some x := ⟨_, List.getElem?_eq_getElem (by omega)⟩
          rw [if_pos hlt, drop_cons (zip_at hx hv), List.all_cons]
          have hloc := rows_get (off := 0) hP (rows_chs hx)
          have hloc2 := rows_get (off := 0) hV (ints_get hv)
          have hxo := hok x (List.mem_of_getElem? hx)
          have c1 := bundle_Cost_sem σ x.p x.w hxo.1 hxo.2 n (by omega)
          have q1 : (leB 0 (i : Int) && decide (i < l.length)) = true := by simp [leB, hlt]
          have q3 : (leB 0 (i : Int) && decide (i < vals.length)) = true := by simp [leB]; omega
          have rcc := fun b0 b1 b2 => ih.2 i 0 x v b0 b1 b2 hx hv (Nat.zero_le _) (by omega)
          simp only [ownOk]
          generalize costW x.p x.w = u at *
          simp only [List.drop_zero, Int.cast_ofNat_Int] at rcc
          have hz : (eqB x.w.a 0 && (eqB x.w.b 0 && (eqB x.w.c 0 && (eqB x.w.d 0 && (eqB x.w.e 0 && eqB x.w.f 0))))) = x.w.isZ := rfl
          simp only [n_bundle_Cost, W6.pv] at c1
          simp -implicitDefEqProofs only [p1, p2, s1, ltB_nat, ↓reduceIte, eq_self, PT.ev, BE.safe, BE.pe, IE.pe, PEnv.at, List.getD_cons_zero, List.getD_cons_succ, List.getElem?_cons_zero, List.getElem?_cons_succ, locOf, locOn, readLoc, takeN, Nat.add_zero, List.drop_zero, List.length_cons, List.length_nil, Nat.reduceAdd, Nat.le_refl, if_true, if_false, Bool.false_eq_true, List.take_succ_cons, List.take_zero, bindK, bindRes, bind1, Option.map_some, Option.bind_some, PEnv.push, List.cons_append, List.nil_append, List.append_nil, SV.pvs, SV.pv, BE.all, Bool.and_self, Bool.not_true, Bool.not_false, List.map_cons, List.map_nil, if_pos q1, if_pos q3, hloc, hloc2, row_eq, c1, hz]
          by_cases h3 : v < u
          · have e3 : ltB v u = true := ltB_true.2 h3
            have e4 : decide (u ≤ v) = false := decide_eq_false (by omega)
            simp -implicitDefEqProofs only [e3, e4, ↓reduceIte, eq_self, PT.ev, BE.safe, BE.pe, IE.pe, PEnv.at, List.getD_cons_zero, List.getD_cons_succ, List.getElem?_cons_zero, List.getElem?_cons_succ, locOf, locOn, readLoc, takeN, Nat.add_zero, List.drop_zero, List.length_cons, List.length_nil, Nat.reduceAdd, Nat.le_refl, if_true, if_false, Bool.false_eq_true, List.take_succ_cons, List.take_zero, bindK, bindRes, bind1, Option.map_some, Option.bind_some, PEnv.push, List.cons_append, List.nil_append, List.append_nil, SV.pvs, SV.pv, BE.all, Bool.and_self, Bool.not_true, Bool.not_false, List.map_cons, List.map_nil, retP, or_true, Bool.false_and]
          · have e3 : ltB v u = false := ltB_false.2 h3
            have e4 : decide (u ≤ v) = true := decide_eq_true (by omega)
            cases hzz : x.w.isZ with
            | false =>
              simp -implicitDefEqProofs only [e3, e4, ↓reduceIte, eq_self, PT.ev, BE.safe, BE.pe, IE.pe, PEnv.at, List.getD_cons_zero, List.getD_cons_succ, List.getElem?_cons_zero, List.getElem?_cons_succ, locOf, locOn, readLoc, takeN, Nat.add_zero, List.drop_zero, List.length_cons, List.length_nil, Nat.reduceAdd, Nat.le_refl, if_true, if_false, Bool.false_eq_true, List.take_succ_cons, List.take_zero, bindK, bindRes, bind1, Option.map_some, Option.bind_some, PEnv.push, List.cons_append, List.nil_append, List.append_nil, SV.pvs, SV.pv, BE.all, Bool.and_self, Bool.not_true, Bool.not_false, List.map_cons, List.map_nil, p1, p2, Bool.true_and, Bool.true_or]
              have := rcc false false false
              exact this
            | true =>
              cases hv0 : eqB v 0 with
              | false => simp -implicitDefEqProofs only [e3, e4, ↓reduceIte, eq_self, PT.ev, BE.safe, BE.pe, IE.pe, PEnv.at, List.getD_cons_zero, List.getD_cons_succ, List.getElem?_cons_zero, List.getElem?_cons_succ, locOf, locOn, readLoc, takeN, Nat.add_zero, List.drop_zero, List.length_cons, List.length_nil, Nat.reduceAdd, Nat.le_refl, if_true, if_false, Bool.false_eq_true, List.take_succ_cons, List.take_zero, bindK, bindRes, bind1, Option.map_some, Option.bind_some, PEnv.push, List.cons_append, List.nil_append, List.append_nil, SV.pvs, SV.pv, BE.all, Bool.and_self, Bool.not_true, Bool.not_false, List.map_cons, List.map_nil, if_pos q3, hloc2, hv0, retP, or_true, Bool.true_and, Bool.or_self, Bool.false_and]
              | true =>
                simp -implicitDefEqProofs only [e3, e4, ↓reduceIte, eq_self, PT.ev, BE.safe, BE.pe, IE.pe, PEnv.at, List.getD_cons_zero, List.getD_cons_succ, List.getElem?_cons_zero, List.getElem?_cons_succ, locOf, locOn, readLoc, takeN, Nat.add_zero, List.drop_zero, List.length_cons, List.length_nil, Nat.reduceAdd, Nat.le_refl, if_true, if_false, Bool.false_eq_true, List.take_succ_cons, List.take_zero, bindK, bindRes, bind1, Option.map_some, Option.bind_some, PEnv.push, List.cons_append, List.nil_append, List.append_nil, SV.pvs, SV.pv, BE.all, Bool.and_self, Bool.not_true, Bool.not_false, List.map_cons, List.map_nil, if_pos q3, hloc2, hv0, p1, p2, Bool.true_and, Bool.or_true]
                have := rcc true true false
                exact this
        · rw [if_neg hlt, show i = l.length by omega, List.drop_eq_nil_of_le (by simp [hvl])]
          simp -implicitDefEqProofs only [↓reduceIte, eq_self, PT.ev, BE.safe, BE.pe, IE.pe, PEnv.at, List.getD_cons_zero, List.getD_cons_succ, List.getElem?_cons_zero, List.getElem?_cons_succ, locOf, locOn, readLoc, takeN, Nat.add_zero, List.drop_zero, List.length_cons, List.length_nil, Nat.reduceAdd, Nat.le_refl, if_true, if_false, Bool.false_eq_true, List.take_succ_cons, List.take_zero, bindK, bindRes, bind1, Option.map_some, Option.bind_some, PEnv.push, List.cons_append, List.nil_append, List.append_nil, SV.pvs, SV.pv, BE.all, Bool.and_self, Bool.not_true, Bool.not_false, List.map_cons, List.map_nil, retP, or_true, List.all_nil]
      · rw [Sys.loop, show revealed_explains_S.loops[1]? = some revealed_explains_t1 from rfl]
        simp -implicitDefEqProofs only [Option.bind_some, revealed_explains_t1, ↓reduceIte, eq_self, PT.ev, BE.safe, BE.pe, IE.pe, PEnv.at, List.getD_cons_zero, List.getD_cons_succ, List.getElem?_cons_zero, List.getElem?_cons_succ, locOf, locOn, readLoc, takeN, Nat.add_zero, List.drop_zero, List.length_cons, List.length_nil, Nat.reduceAdd, Nat.le_refl, if_true, if_false, Bool.false_eq_true, List.take_succ_cons, List.take_zero, bindK, bindRes, bind1, Option.map_some, Option.bind_some, PEnv.push, List.cons_append, List.nil_append, List.append_nil, SV.pvs, SV.pv, BE.all, Bool.and_self, Bool.not_true, Bool.not_false, List.map_cons, List.map_nil, ltB_nat, decide_eq_true_eq]
        by_cases hlt : k < l.length
        · obtain ⟨y, hy⟩ : ∃ x, l[k]? = some x := ⟨_, List.getElem?_eq_getElem hlt⟩
          obtain ⟨u, hu⟩ : ∃ x, vals[k]? = some x := ⟨_, List.getElem?_eq_getElem (by omega)⟩
          rw [if_pos hlt, drop_cons (zip_at hy hu), List.all_cons]
          have hloc := rows_get (off := 0) hP (rows_chs hy)
          have hloc2 := rows_get (off := 0) hV (ints_get hu)
          have hloc3 := rows_get (off := 0) hV (ints_get hv)
          have hil := (List.getElem?_eq_some_iff.1 hx).1
          have hxo := hok x (List.mem_of_getElem? hx)
          have hyo := hok y (List.mem_of_getElem? hy)
          have c1 := gain0_sem σ x y hxo hyo n (by omega)
          have v1 := hvo v (List.mem_of_getElem? hv)
          have v2 := hvo u (List.mem_of_getElem? hu)
          simp only [valOk, decide_eq_true_eq] at v1 v2
          have q1 : (leB 0 (k : Int) && decide (k < l.length)) = true := by simp [leB, hlt]
          have q3 : (leB 0 (k : Int) && decide (k < vals.length)) = true := by simp [leB]; omega
          have q4 : (leB 0 (i : Int) && decide (i < vals.length)) = true := by simp [leB]; omega
          have q2 : (leB (-9223372036854775808) ((k : Int) + 1) && leB ((k : Int) + 1) 9223372036854775807) = true := by simp [leB]; omega
          have q5 : (leB (-9223372036854775808) (u - v) && leB (u - v) 9223372036854775807) = true := by simp [leB]; omega
          have rcc := ih.2 i (k + 1) x v b0 b1 b2 hx hv (by omega) (by omega)
          rw [show ((k + 1 : Nat) : Int) = (k : Int) + 1 from by omega] at rcc
          simp only [innP] at rcc ⊢
          generalize gainC x y = gg at *
          simp only [n_revealed_gain, row_eq] at c1
          simp -implicitDefEqProofs only [p1, p2, s1, ltB_nat, ↓reduceIte, eq_self, PT.ev, BE.safe, BE.pe, IE.pe, PEnv.at, List.getD_cons_zero, List.getD_cons_succ, List.getElem?_cons_zero, List.getElem?_cons_succ, locOf, locOn, readLoc, takeN, Nat.add_zero, List.drop_zero, List.length_cons, List.length_nil, Nat.reduceAdd, Nat.le_refl, if_true, if_false, Bool.false_eq_true, List.take_succ_cons, List.take_zero, bindK, bindRes, bind1, Option.map_some, Option.bind_some, PEnv.push, List.cons_append, List.nil_append, List.append_nil, SV.pvs, SV.pv, BE.all, Bool.and_self, Bool.not_true, Bool.not_false, List.map_cons, List.map_nil, if_pos q1, if_pos q3, if_pos q4, if_pos q5, hloc, hloc2, hloc3, row_eq, c1]
          by_cases h3 : gg < u - v
          · have e3 : ltB gg (u - v) = true := ltB_true.2 h3
            have e4 : decide (u - v ≤ gg) = false := decide_eq_false (by omega)
            simp -implicitDefEqProofs only [e3, e4, ↓reduceIte, eq_self, PT.ev, BE.safe, BE.pe, IE.pe, PEnv.at, List.getD_cons_zero, List.getD_cons_succ, List.getElem?_cons_zero, List.getElem?_cons_succ, locOf, locOn, readLoc, takeN, Nat.add_zero, List.drop_zero, List.length_cons, List.length_nil, Nat.reduceAdd, Nat.le_refl, if_true, if_false, Bool.false_eq_true, List.take_succ_cons, List.take_zero, bindK, bindRes, bind1, Option.map_some, Option.bind_some, PEnv.push, List.cons_append, List.nil_append, List.append_nil, SV.pvs, SV.pv, BE.all, Bool.and_self, Bool.not_true, Bool.not_false, List.map_cons, List.map_nil, retP, or_true, Bool.false_and]
          · have e3 : ltB gg (u - v) = false := ltB_false.2 h3
            have e4 : decide (u - v ≤ gg) = true := decide_eq_true (by omega)
            simp -implicitDefEqProofs only [e3, e4, ↓reduceIte, eq_self, PT.ev, BE.safe, BE.pe, IE.pe, PEnv.at, List.getD_cons_zero, List.getD_cons_succ, List.getElem?_cons_zero, List.getElem?_cons_succ, locOf, locOn, readLoc, takeN, Nat.add_zero, List.drop_zero, List.length_cons, List.length_nil, Nat.reduceAdd, Nat.le_refl, if_true, if_false, Bool.false_eq_true, List.take_succ_cons, List.take_zero, bindK, bindRes, bind1, Option.map_some, Option.bind_some, PEnv.push, List.cons_append, List.nil_append, List.append_nil, SV.pvs, SV.pv, BE.all, Bool.and_self, Bool.not_true, Bool.not_false, List.map_cons, List.map_nil, if_pos q2, Bool.true_and]
            exact rcc
        · have hk : k = l.length := by omega
          rw [if_neg hlt, hk, List.drop_eq_nil_of_le (by simp [hvl])]
          have hil := (List.getElem?_eq_some_iff.1 hx).1
          have q2 : (leB (-9223372036854775808) ((i : Int) + 1) && leB ((i : Int) + 1) 9223372036854775807) = true := by simp [leB]; omega
          have rcc := ih.1 (i + 1) (by omega) (by omega)
          rw [show ((i + 1 : Nat) : Int) = (i : Int) + 1 from by omega] at rcc
          simp -implicitDefEqProofs only [↓reduceIte, eq_self, PT.ev, BE.safe, BE.pe, IE.pe, PEnv.at, List.getD_cons_zero, List.getD_cons_succ, List.getElem?_cons_zero, List.getElem?_cons_succ, locOf, locOn, readLoc, takeN, Nat.add_zero, List.drop_zero, List.length_cons, List.length_nil, Nat.reduceAdd, Nat.le_refl, if_true, if_false, Bool.false_eq_true, List.take_succ_cons, List.take_zero, bindK, bindRes, bind1, Option.map_some, Option.bind_some, PEnv.push, List.cons_append, List.nil_append, List.append_nil, SV.pvs, SV.pv, BE.all, Bool.and_self, Bool.not_true, Bool.not_false, List.map_cons, List.map_nil, if_pos q2, List.all_nil, Bool.true_and]
          exact rcc
  simp only [evalF, tab_revealed_explains, Option.bind_some, Sys.run]
  show ((bindPs [.sh (.one _), .sh (.one _)] _).bind _) = _
  simp -implicitDefEqProofs only [bindPs, bind1, bindK, Option.map_some, Option.bind_some, List.append_nil, List.nil_append, List.cons_append, if_true, p3, s3]
  show (PT.ev _ revealed_explains_s _).bind _ = _
  simp -implicitDefEqProofs only [revealed_explains_s, ↓reduceIte, eq_self, PT.ev, BE.safe, BE.pe, IE.pe, PEnv.at, List.getD_cons_zero, List.getD_cons_succ, List.getElem?_cons_zero, List.getElem?_cons_succ, locOf, locOn, readLoc, takeN, Nat.add_zero, List.drop_zero, List.length_cons, List.length_nil, Nat.reduceAdd, Nat.le_refl, if_true, if_false, Bool.false_eq_true, List.take_succ_cons, List.take_zero, bindK, bindRes, bind1, Option.map_some, Option.bind_some, PEnv.push, List.cons_append, List.nil_append, List.append_nil, SV.pvs, SV.pv, BE.all, Bool.and_self, Bool.not_true, Bool.not_false, List.map_cons, List.map_nil, p1, p2, s1, s2]
  have hee : eqB (vals.length : Int) (l.length : Int) = decide (vals.length = l.length) := by unfold eqB; congr 1; rw [eq_iff_iff]; omega
  by_cases hvl : vals.length = l.length
  · have h0 := (loops hvl n).1 0 (Nat.zero_le _) (by omega)
    have he2 : eqB (l.length : Int) (l.length : Int) = true := by rw [hvl] at hee; rw [hee]; exact decide_eq_true rfl
    simp -implicitDefEqProofs only [↓reduceIte, eq_self, PT.ev, BE.safe, BE.pe, IE.pe, PEnv.at, List.getD_cons_zero, List.getD_cons_succ, List.getElem?_cons_zero, List.getElem?_cons_succ, locOf, locOn, readLoc, takeN, Nat.add_zero, List.drop_zero, List.length_cons, List.length_nil, Nat.reduceAdd, Nat.le_refl, if_true, if_false, Bool.false_eq_true, List.take_succ_cons, List.take_zero, bindK, bindRes, bind1, Option.map_some, Option.bind_some, PEnv.push, List.cons_append, List.nil_append, List.append_nil, SV.pvs, SV.pv, BE.all, Bool.and_self, Bool.not_true, Bool.not_false, List.map_cons, List.map_nil, p1, he2, hvl, decide_true, Bool.true_and]
    simpa [explP] using h0
  · simp -implicitDefEqProofs only [↓reduceIte, eq_self, PT.ev, BE.safe, BE.pe, IE.pe, PEnv.at, List.getD_cons_zero, List.getD_cons_succ, List.getElem?_cons_zero, List.getElem?_cons_succ, locOf, locOn, readLoc, takeN, Nat.add_zero, List.drop_zero, List.length_cons, List.length_nil, Nat.reduceAdd, Nat.le_refl, if_true, if_false, Bool.false_eq_true, List.take_succ_cons, List.take_zero, bindK, bindRes, bind1, Option.map_some, Option.bind_some, PEnv.push, List.cons_append, List.nil_append, List.append_nil, SV.pvs, SV.pv, BE.all, Bool.and_self, Bool.not_true, Bool.not_false, List.map_cons, List.map_nil, hee, hvl, decide_false, retP, or_true, Bool.false_and]
end Go.Proofs.Ythjahianafohjaa
set_option maxRecDepth 100000
namespace Go.Proofs.Ythjahianafohjaa
open Go.Sx
theorem drop6 {α : Type} (a b c d e f a' b' c' d' e' f' : α) : List.drop 6 [a, b, c, d, e, f, a', b', c', d', e', f'] = [a', b', c', d', e', f'] := rfl
theorem rexpl_sem (σ : List MO) (l : List Ch) (P : PV) (hP : P.rowsOf 12 = some (l.map Ch.row)) (vals : List Int) (V : PV) (hV : V.rowsOf 1 = some (ints vals)) (hl : l.length ≤ 14) (hok : ∀ x ∈ l, x.ok) (hvo : ∀ v ∈ vals, valOk v = true) (n : Nat) (hn : 400 ≤ n) :
    evalF Tab n n_saleroomref36_explains [P, V] σ = some (.bool (decide (vals.length = l.length) && explR (l.zip vals)), σ) := by
  obtain ⟨n, rfl⟩ : ∃ k, n = k + 1 := ⟨n - 1, by omega⟩
  obtain ⟨p1, p2, p3⟩ := rows_len hP
  obtain ⟨s1, s2, s3⟩ := rows_len hV
  rw [List.length_map] at p1
  rw [ints_len] at s1
  have loops : vals.length = l.length → ∀ fuel : Nat,
      (∀ i, i ≤ l.length → (l.length - i) * 20 + 1 ≤ fuel → saleroomref36_explains_S.loop (evalF Tab n) fuel 0 { i := [(i : Int)], b := [], v := [P, V], m := σ, k := σ.length } = some (.bool (((l.zip vals).drop i).all fun p => ownOk p && (l.zip vals).all (innR p)), σ)) ∧
      (∀ i k x v b0 b1 b2, l[i]? = some x → vals[i]? = some v → k ≤ l.length → (l.length - i - 1) * 20 + (l.length - k) + 3 ≤ fuel →
        saleroomref36_explains_S.loop (evalF Tab n) fuel 1 { i := [(i : Int), costW x.p x.w, (k : Int), (i : Int), x.w.a, x.w.b, x.w.c, x.w.d, x.w.e, x.w.f], b := [b0, b1, b2], v := [P, V], m := σ, k := σ.length } =
          some (.bool (((l.zip vals).drop k).all (innR (x, v)) && ((l.zip vals).drop (i + 1)).all fun p => ownOk p && (l.zip vals).all (innR p)), σ)) := by
    intro hvl fuel
    induction fuel with
    | zero => exact ⟨fun i h1 h2 => by omega, fun i k x v b0 b1 b2 hx hv h1 h2 => by omega⟩
    | succ fuel ih =>
      refine ⟨fun i h1 h2 => ?_, fun i k x v b0 b1 b2 hx hv h1 h2 => ?_⟩
      · rw [Sys.loop, show saleroomref36_explains_S.loops[0]? = some saleroomref36_explains_t0 from rfl]
        simp -implicitDefEqProofs only [Option.bind_some, saleroomref36_explains_t0, ↓reduceIte, eq_self, PT.ev, BE.safe, BE.pe, IE.pe, PEnv.at, List.getD_cons_zero, List.getD_cons_succ, List.getElem?_cons_zero, List.getElem?_cons_succ, locOf, locOn, readLoc, takeN, Nat.add_zero, List.drop_zero, List.length_cons, List.length_nil, Nat.reduceAdd, Nat.le_refl, if_true, if_false, Bool.false_eq_true, List.take_succ_cons, List.take_zero, bindK, bindRes, bind1, Option.map_some, Option.bind_some, PEnv.push, List.cons_append, List.nil_append, List.append_nil, SV.pvs, SV.pv, BE.all, Bool.and_self, Bool.not_true, Bool.not_false, List.map_cons, List.map_nil, p1, p2, ltB_nat, decide_eq_true_eq]
        by_cases hlt : i < l.length
        · obtain ⟨x, hx⟩ : ∃ x, l[i]? = some x := ⟨_, List.getElem?_eq_getElem hlt⟩
          obtain ⟨v, hv⟩ : ∃ x, vals[i]? = some x := ⟨_, List.getElem?_eq_getElem (by omega)⟩
          rw [if_pos hlt, drop_cons (zip_at hx hv), List.all_cons]
          have hloc := rows_get (off := 0) hP (rows_chs hx)
          have hloc6 := rows_get (off := 6) hP (rows_chs hx)
          have hloc2 := rows_get (off := 0) hV (ints_get hv)
          have hxo := hok x (List.mem_of_getElem? hx)
          have c1 := rcost_sem σ x hxo.1 x.w hxo.2 n (by omega)
          have q1 : (leB 0 (i : Int) && decide (i < l.length)) = true := by simp [leB, hlt]
          have q3 : (leB 0 (i : Int) && decide (i < vals.length)) = true := by simp [leB]; omega
          have rcc := fun b0 b1 b2 => ih.2 i 0 x v b0 b1 b2 hx hv (Nat.zero_le _) (by omega)
          simp only [ownOk]
          generalize costW x.p x.w = u at *
          simp only [List.drop_zero, Int.cast_ofNat_Int] at rcc
          have hz : (eqB x.w.a 0 && (eqB x.w.b 0 && (eqB x.w.c 0 && (eqB x.w.d 0 && (eqB x.w.e 0 && eqB x.w.f 0))))) = x.w.isZ := rfl
          simp only [n_saleroomref36_Cost, W6.pv, row_eq] at c1
          simp -implicitDefEqProofs only [p1, p2, s1, ltB_nat, ↓reduceIte, eq_self, PT.ev, BE.safe, BE.pe, IE.pe, PEnv.at, List.getD_cons_zero, List.getD_cons_succ, List.getElem?_cons_zero, List.getElem?_cons_succ, locOf, locOn, readLoc, takeN, Nat.add_zero, List.drop_zero, List.length_cons, List.length_nil, Nat.reduceAdd, Nat.le_refl, if_true, if_false, Bool.false_eq_true, List.take_succ_cons, List.take_zero, bindK, bindRes, bind1, Option.map_some, Option.bind_some, PEnv.push, List.cons_append, List.nil_append, List.append_nil, SV.pvs, SV.pv, BE.all, Bool.and_self, Bool.not_true, Bool.not_false, List.map_cons, List.map_nil, if_pos q1, if_pos q3, hloc, hloc6, hloc2, row_eq, drop6, c1, hz]
          by_cases h3 : v < u
          · have e3 : ltB v u = true := ltB_true.2 h3
            have e4 : decide (u ≤ v) = false := decide_eq_false (by omega)
            simp -implicitDefEqProofs only [e3, e4, ↓reduceIte, eq_self, PT.ev, BE.safe, BE.pe, IE.pe, PEnv.at, List.getD_cons_zero, List.getD_cons_succ, List.getElem?_cons_zero, List.getElem?_cons_succ, locOf, locOn, readLoc, takeN, Nat.add_zero, List.drop_zero, List.length_cons, List.length_nil, Nat.reduceAdd, Nat.le_refl, if_true, if_false, Bool.false_eq_true, List.take_succ_cons, List.take_zero, bindK, bindRes, bind1, Option.map_some, Option.bind_some, PEnv.push, List.cons_append, List.nil_append, List.append_nil, SV.pvs, SV.pv, BE.all, Bool.and_self, Bool.not_true, Bool.not_false, List.map_cons, List.map_nil, retP, or_true, Bool.false_and]
          · have e3 : ltB v u = false := ltB_false.2 h3
            have e4 : decide (u ≤ v) = true := decide_eq_true (by omega)
            cases hzz : x.w.isZ with
            | false =>
              simp -implicitDefEqProofs only [e3, e4, ↓reduceIte, eq_self, PT.ev, BE.safe, BE.pe, IE.pe, PEnv.at, List.getD_cons_zero, List.getD_cons_succ, List.getElem?_cons_zero, List.getElem?_cons_succ, locOf, locOn, readLoc, takeN, Nat.add_zero, List.drop_zero, List.length_cons, List.length_nil, Nat.reduceAdd, Nat.le_refl, if_true, if_false, Bool.false_eq_true, List.take_succ_cons, List.take_zero, bindK, bindRes, bind1, Option.map_some, Option.bind_some, PEnv.push, List.cons_append, List.nil_append, List.append_nil, SV.pvs, SV.pv, BE.all, Bool.and_self, Bool.not_true, Bool.not_false, List.map_cons, List.map_nil, p1, p2, if_pos q1, hloc6, row_eq, drop6, hz, hzz, Bool.true_and, Bool.true_or]
              have := rcc false false false
              exact this
            | true =>
              cases hv0 : eqB v 0 with
              | false => simp -implicitDefEqProofs only [e3, e4, ↓reduceIte, eq_self, PT.ev, BE.safe, BE.pe, IE.pe, PEnv.at, List.getD_cons_zero, List.getD_cons_succ, List.getElem?_cons_zero, List.getElem?_cons_succ, locOf, locOn, readLoc, takeN, Nat.add_zero, List.drop_zero, List.length_cons, List.length_nil, Nat.reduceAdd, Nat.le_refl, if_true, if_false, Bool.false_eq_true, List.take_succ_cons, List.take_zero, bindK, bindRes, bind1, Option.map_some, Option.bind_some, PEnv.push, List.cons_append, List.nil_append, List.append_nil, SV.pvs, SV.pv, BE.all, Bool.and_self, Bool.not_true, Bool.not_false, List.map_cons, List.map_nil, p1, if_pos q1, hloc6, row_eq, drop6, hz, hzz, if_pos q3, hloc2, hv0, retP, or_true, Bool.true_and, Bool.or_self, Bool.false_and]
              | true =>
                simp -implicitDefEqProofs only [e3, e4, ↓reduceIte, eq_self, PT.ev, BE.safe, BE.pe, IE.pe, PEnv.at, List.getD_cons_zero, List.getD_cons_succ, List.getElem?_cons_zero, List.getElem?_cons_succ, locOf, locOn, readLoc, takeN, Nat.add_zero, List.drop_zero, List.length_cons, List.length_nil, Nat.reduceAdd, Nat.le_refl, if_true, if_false, Bool.false_eq_true, List.take_succ_cons, List.take_zero, bindK, bindRes, bind1, Option.map_some, Option.bind_some, PEnv.push, List.cons_append, List.nil_append, List.append_nil, SV.pvs, SV.pv, BE.all, Bool.and_self, Bool.not_true, Bool.not_false, List.map_cons, List.map_nil, p1, if_pos q1, hloc6, row_eq, drop6, hz, hzz, if_pos q3, hloc2, hv0, p1, p2, Bool.true_and, Bool.or_true]
                have := rcc true true false
                exact this
        · rw [if_neg hlt, show i = l.length by omega, List.drop_eq_nil_of_le (by simp [hvl])]
          simp -implicitDefEqProofs only [↓reduceIte, eq_self, PT.ev, BE.safe, BE.pe, IE.pe, PEnv.at, List.getD_cons_zero, List.getD_cons_succ, List.getElem?_cons_zero, List.getElem?_cons_succ, locOf, locOn, readLoc, takeN, Nat.add_zero, List.drop_zero, List.length_cons, List.length_nil, Nat.reduceAdd, Nat.le_refl, if_true, if_false, Bool.false_eq_true, List.take_succ_cons, List.take_zero, bindK, bindRes, bind1, Option.map_some, Option.bind_some, PEnv.push, List.cons_append, List.nil_append, List.append_nil, SV.pvs, SV.pv, BE.all, Bool.and_self, Bool.not_true, Bool.not_false, List.map_cons, List.map_nil, retP, or_true, List.all_nil]
      · rw [Sys.loop, show saleroomref36_explains_S.loops[1]? = some saleroomref36_explains_t1 from rfl]
        simp -implicitDefEqProofs only [Option.bind_some, saleroomref36_explains_t1, ↓reduceIte, eq_self, PT.ev, BE.safe, BE.pe, IE.pe, PEnv.at, List.getD_cons_zero, List.getD_cons_succ, List.getElem?_cons_zero, List.getElem?_cons_succ, locOf, locOn, readLoc, takeN, Nat.add_zero, List.drop_zero, List.length_cons, List.length_nil, Nat.reduceAdd, Nat.le_refl, if_true, if_false, Bool.false_eq_true, List.take_succ_cons, List.take_zero, bindK, bindRes, bind1, Option.map_some, Option.bind_some, PEnv.push, List.cons_append, List.nil_append, List.append_nil, SV.pvs, SV.pv, BE.all, Bool.and_self, Bool.not_true, Bool.not_false, List.map_cons, List.map_nil, p1, p2, ltB_nat, decide_eq_true_eq]
        by_cases hlt : k < l.length
        · obtain ⟨y, hy⟩ : ∃ x, l[k]? = some x := ⟨_, List.getElem?_eq_getElem hlt⟩
          obtain ⟨u, hu⟩ : ∃ x, vals[k]? = some x := ⟨_, List.getElem?_eq_getElem (by omega)⟩
          rw [if_pos hlt, drop_cons (zip_at hy hu), List.all_cons]
          have hil := (List.getElem?_eq_some_iff.1 hx).1
          have hloc := rows_get (off := 6) hP (rows_chs hy)
          have hlocx := rows_get (off := 6) hP (rows_chs hx)
          have hlocx0 := rows_get (off := 0) hP (rows_chs hx)
          have hloc2 := rows_get (off := 0) hV (ints_get hu)
          have hloc3 := rows_get (off := 0) hV (ints_get hv)
          have hxo := hok x (List.mem_of_getElem? hx)
          have hyo := hok y (List.mem_of_getElem? hy)
          have c1 := rcost_sem σ x hxo.1 y.w hyo.2 n (by omega)
          have bd1 := cost_bd hxo.1 hyo.2
          have bd2 := cost_bd hxo.1 hxo.2
          have v1 := hvo v (List.mem_of_getElem? hv)
          have v2 := hvo u (List.mem_of_getElem? hu)
          simp only [valOk, decide_eq_true_eq] at v1 v2
          have q1 : (leB 0 (k : Int) && decide (k < l.length)) = true := by simp [leB, hlt]
          have q0 : (leB 0 (i : Int) && decide (i < l.length)) = true := by simp [leB, hil]
          have q3 : (leB 0 (k : Int) && decide (k < vals.length)) = true := by simp [leB]; omega
          have q4 : (leB 0 (i : Int) && decide (i < vals.length)) = true := by simp [leB]; omega
          have q2 : (leB (-9223372036854775808) ((k : Int) + 1) && leB ((k : Int) + 1) 9223372036854775807) = true := by simp [leB]; omega
          have q5 : (leB (-9223372036854775808) (v - costW x.p x.w) && leB (v - costW x.p x.w) 9223372036854775807) = true := by simp [leB]; omega
          have q6 : (leB (-9223372036854775808) (u - costW x.p y.w) && leB (u - costW x.p y.w) 9223372036854775807) = true := by simp [leB]; omega
          have rcc := ih.2 i (k + 1) x v b0 b1 b2 hx hv (by omega) (by omega)
          rw [show ((k + 1 : Nat) : Int) = (k : Int) + 1 from by omega] at rcc
          have hz : (eqB x.w.a y.w.a && (eqB x.w.b y.w.b && (eqB x.w.c y.w.c && (eqB x.w.d y.w.d && (eqB x.w.e y.w.e && eqB x.w.f y.w.f))))) = x.w.beq y.w := rfl
          simp only [innR] at rcc ⊢
          generalize costW x.p x.w = c at *
          generalize costW x.p y.w = d at *
          simp only [n_saleroomref36_Cost, W6.pv, row_eq] at c1
          simp -implicitDefEqProofs only [p1, p2, s1, ltB_nat, ↓reduceIte, eq_self, PT.ev, BE.safe, BE.pe, IE.pe, PEnv.at, List.getD_cons_zero, List.getD_cons_succ, List.getElem?_cons_zero, List.getElem?_cons_succ, locOf, locOn, readLoc, takeN, Nat.add_zero, List.drop_zero, List.length_cons, List.length_nil, Nat.reduceAdd, Nat.le_refl, if_true, if_false, Bool.false_eq_true, List.take_succ_cons, List.take_zero, bindK, bindRes, bind1, Option.map_some, Option.bind_some, PEnv.push, List.cons_append, List.nil_append, List.append_nil, SV.pvs, SV.pv, BE.all, Bool.and_self, Bool.not_true, Bool.not_false, List.map_cons, List.map_nil, if_pos q0, if_pos q1, hloc, hlocx, row_eq, drop6, hz]
          have fin : ∀ q : Bool, (q = true → v = u) → True := fun _ _ => trivial
          by_cases h3 : v - c < u - d
          · have e3 : ltB (v - c) (u - d) = true := ltB_true.2 h3
            have e4 : decide (u - d ≤ v - c) = false := decide_eq_false (by omega)
            cases hbb : x.w.beq y.w with
            | false => simp -implicitDefEqProofs only [p1, s1, ltB_nat, ↓reduceIte, eq_self, PT.ev, BE.safe, BE.pe, IE.pe, PEnv.at, List.getD_cons_zero, List.getD_cons_succ, List.getElem?_cons_zero, List.getElem?_cons_succ, locOf, locOn, readLoc, takeN, Nat.add_zero, List.drop_zero, List.length_cons, List.length_nil, Nat.reduceAdd, Nat.le_refl, if_true, if_false, Bool.false_eq_true, List.take_succ_cons, List.take_zero, bindK, bindRes, bind1, Option.map_some, Option.bind_some, PEnv.push, List.cons_append, List.nil_append, List.append_nil, SV.pvs, SV.pv, BE.all, Bool.and_self, Bool.not_true, Bool.not_false, List.map_cons, List.map_nil, if_pos q0, if_pos q1, if_pos q3, if_pos q4, if_pos q5, if_pos q6, hloc, hloc2, hloc3, hlocx0, row_eq, drop6, c1, e3, e4, retP, or_true, Bool.false_and, Bool.and_false]
            | true =>
              cases hv0 : eqB v u with
              | false => simp -implicitDefEqProofs only [p1, s1, ltB_nat, ↓reduceIte, eq_self, PT.ev, BE.safe, BE.pe, IE.pe, PEnv.at, List.getD_cons_zero, List.getD_cons_succ, List.getElem?_cons_zero, List.getElem?_cons_succ, locOf, locOn, readLoc, takeN, Nat.add_zero, List.drop_zero, List.length_cons, List.length_nil, Nat.reduceAdd, Nat.le_refl, if_true, if_false, Bool.false_eq_true, List.take_succ_cons, List.take_zero, bindK, bindRes, bind1, Option.map_some, Option.bind_some, PEnv.push, List.cons_append, List.nil_append, List.append_nil, SV.pvs, SV.pv, BE.all, Bool.and_self, Bool.not_true, Bool.not_false, List.map_cons, List.map_nil, if_pos q3, if_pos q4, hloc2, hloc3, hv0, e4, retP, or_true, Bool.false_and, Bool.and_false]
              | true => simp -implicitDefEqProofs only [p1, s1, ltB_nat, ↓reduceIte, eq_self, PT.ev, BE.safe, BE.pe, IE.pe, PEnv.at, List.getD_cons_zero, List.getD_cons_succ, List.getElem?_cons_zero, List.getElem?_cons_succ, locOf, locOn, readLoc, takeN, Nat.add_zero, List.drop_zero, List.length_cons, List.length_nil, Nat.reduceAdd, Nat.le_refl, if_true, if_false, Bool.false_eq_true, List.take_succ_cons, List.take_zero, bindK, bindRes, bind1, Option.map_some, Option.bind_some, PEnv.push, List.cons_append, List.nil_append, List.append_nil, SV.pvs, SV.pv, BE.all, Bool.and_self, Bool.not_true, Bool.not_false, List.map_cons, List.map_nil, if_pos q0, if_pos q1, if_pos q3, if_pos q4, if_pos q5, if_pos q6, hloc, hloc2, hloc3, hlocx0, row_eq, drop6, c1, hv0, e3, e4, retP, or_true, Bool.false_and, Bool.and_false]
          · have e3 : ltB (v - c) (u - d) = false := ltB_false.2 h3
            have e4 : decide (u - d ≤ v - c) = true := decide_eq_true (by omega)
            cases hbb : x.w.beq y.w with
            | false =>
              simp -implicitDefEqProofs only [p1, s1, ltB_nat, ↓reduceIte, eq_self, PT.ev, BE.safe, BE.pe, IE.pe, PEnv.at, List.getD_cons_zero, List.getD_cons_succ, List.getElem?_cons_zero, List.getElem?_cons_succ, locOf, locOn, readLoc, takeN, Nat.add_zero, List.drop_zero, List.length_cons, List.length_nil, Nat.reduceAdd, Nat.le_refl, if_true, if_false, Bool.false_eq_true, List.take_succ_cons, List.take_zero, bindK, bindRes, bind1, Option.map_some, Option.bind_some, PEnv.push, List.cons_append, List.nil_append, List.append_nil, SV.pvs, SV.pv, BE.all, Bool.and_self, Bool.not_true, Bool.not_false, List.map_cons, List.map_nil, if_pos q0, if_pos q1, if_pos q2, if_pos q3, if_pos q4, if_pos q5, if_pos q6, hloc, hloc2, hloc3, hlocx0, row_eq, drop6, c1, e3, e4, Bool.not_false, Bool.true_or, Bool.true_and]
              exact rcc
            | true =>
              cases hv0 : eqB v u with
              | false => simp -implicitDefEqProofs only [p1, s1, ltB_nat, ↓reduceIte, eq_self, PT.ev, BE.safe, BE.pe, IE.pe, PEnv.at, List.getD_cons_zero, List.getD_cons_succ, List.getElem?_cons_zero, List.getElem?_cons_succ, locOf, locOn, readLoc, takeN, Nat.add_zero, List.drop_zero, List.length_cons, List.length_nil, Nat.reduceAdd, Nat.le_refl, if_true, if_false, Bool.false_eq_true, List.take_succ_cons, List.take_zero, bindK, bindRes, bind1, Option.map_some, Option.bind_some, PEnv.push, List.cons_append, List.nil_append, List.append_nil, SV.pvs, SV.pv, BE.all, Bool.and_self, Bool.not_true, Bool.not_false, List.map_cons, List.map_nil, if_pos q3, if_pos q4, hloc2, hloc3, hv0, e4, retP, or_true, Bool.not_true, Bool.or_self, Bool.false_and, Bool.and_false]
              | true =>
                simp -implicitDefEqProofs only [p1, s1, ltB_nat, ↓reduceIte, eq_self, PT.ev, BE.safe, BE.pe, IE.pe, PEnv.at, List.getD_cons_zero, List.getD_cons_succ, List.getElem?_cons_zero, List.getElem?_cons_succ, locOf, locOn, readLoc, takeN, Nat.add_zero, List.drop_zero, List.length_cons, List.length_nil, Nat.reduceAdd, Nat.le_refl, if_true, if_false, Bool.false_eq_true, List.take_succ_cons, List.take_zero, bindK, bindRes, bind1, Option.map_some, Option.bind_some, PEnv.push, List.cons_append, List.nil_append, List.append_nil, SV.pvs, SV.pv, BE.all, Bool.and_self, Bool.not_true, Bool.not_false, List.map_cons, List.map_nil, if_pos q0, if_pos q1, if_pos q2, if_pos q3, if_pos q4, if_pos q5, if_pos q6, hloc, hloc2, hloc3, hlocx0, row_eq, drop6, c1, hv0, e3, e4, Bool.not_true, Bool.or_true, Bool.true_and]
                exact rcc
        · have hk : k = l.length := by omega
          rw [if_neg hlt, hk, List.drop_eq_nil_of_le (by simp [hvl])]
          have hil := (List.getElem?_eq_some_iff.1 hx).1
          have q2 : (leB (-9223372036854775808) ((i : Int) + 1) && leB ((i : Int) + 1) 9223372036854775807) = true := by simp [leB]; omega
          have rcc := ih.1 (i + 1) (by omega) (by omega)
          rw [show ((i + 1 : Nat) : Int) = (i : Int) + 1 from by omega] at rcc
          simp -implicitDefEqProofs only [↓reduceIte, eq_self, PT.ev, BE.safe, BE.pe, IE.pe, PEnv.at, List.getD_cons_zero, List.getD_cons_succ, List.getElem?_cons_zero, List.getElem?_cons_succ, locOf, locOn, readLoc, takeN, Nat.add_zero, List.drop_zero, List.length_cons, List.length_nil, Nat.reduceAdd, Nat.le_refl, if_true, if_false, Bool.false_eq_true, List.take_succ_cons, List.take_zero, bindK, bindRes, bind1, Option.map_some, Option.bind_some, PEnv.push, List.cons_append, List.nil_append, List.append_nil, SV.pvs, SV.pv, BE.all, Bool.and_self, Bool.not_true, Bool.not_false, List.map_cons, List.map_nil, if_pos q2, List.all_nil, Bool.true_and]
          exact rcc
  simp only [evalF, tab_saleroomref36_explains, Option.bind_some, Sys.run]
  show ((bindPs [.sh (.one _), .sh (.one _)] _).bind _) = _
  simp -implicitDefEqProofs only [bindPs, bind1, bindK, Option.map_some, Option.bind_some, List.append_nil, List.nil_append, List.cons_append, if_true, p3, s3]
  show (PT.ev _ saleroomref36_explains_s _).bind _ = _
  simp -implicitDefEqProofs only [saleroomref36_explains_s, ↓reduceIte, eq_self, PT.ev, BE.safe, BE.pe, IE.pe, PEnv.at, List.getD_cons_zero, List.getD_cons_succ, List.getElem?_cons_zero, List.getElem?_cons_succ, locOf, locOn, readLoc, takeN, Nat.add_zero, List.drop_zero, List.length_cons, List.length_nil, Nat.reduceAdd, Nat.le_refl, if_true, if_false, Bool.false_eq_true, List.take_succ_cons, List.take_zero, bindK, bindRes, bind1, Option.map_some, Option.bind_some, PEnv.push, List.cons_append, List.nil_append, List.append_nil, SV.pvs, SV.pv, BE.all, Bool.and_self, Bool.not_true, Bool.not_false, List.map_cons, List.map_nil, p1, p2, s1, s2]
  have hee : eqB (vals.length : Int) (l.length : Int) = decide (vals.length = l.length) := by unfold eqB; congr 1; rw [eq_iff_iff]; omega
  by_cases hvl : vals.length = l.length
  · have h0 := (loops hvl n).1 0 (Nat.zero_le _) (by omega)
    have he2 : eqB (l.length : Int) (l.length : Int) = true := by rw [hvl] at hee; rw [hee]; exact decide_eq_true rfl
    simp -implicitDefEqProofs only [↓reduceIte, eq_self, PT.ev, BE.safe, BE.pe, IE.pe, PEnv.at, List.getD_cons_zero, List.getD_cons_succ, List.getElem?_cons_zero, List.getElem?_cons_succ, locOf, locOn, readLoc, takeN, Nat.add_zero, List.drop_zero, List.length_cons, List.length_nil, Nat.reduceAdd, Nat.le_refl, if_true, if_false, Bool.false_eq_true, List.take_succ_cons, List.take_zero, bindK, bindRes, bind1, Option.map_some, Option.bind_some, PEnv.push, List.cons_append, List.nil_append, List.append_nil, SV.pvs, SV.pv, BE.all, Bool.and_self, Bool.not_true, Bool.not_false, List.map_cons, List.map_nil, p1, he2, hvl, decide_true, Bool.true_and]
    simpa [explR] using h0
  · simp -implicitDefEqProofs only [↓reduceIte, eq_self, PT.ev, BE.safe, BE.pe, IE.pe, PEnv.at, List.getD_cons_zero, List.getD_cons_succ, List.getElem?_cons_zero, List.getElem?_cons_succ, locOf, locOn, readLoc, takeN, Nat.add_zero, List.drop_zero, List.length_cons, List.length_nil, Nat.reduceAdd, Nat.le_refl, if_true, if_false, Bool.false_eq_true, List.take_succ_cons, List.take_zero, bindK, bindRes, bind1, Option.map_some, Option.bind_some, PEnv.push, List.cons_append, List.nil_append, List.append_nil, SV.pvs, SV.pv, BE.all, Bool.and_self, Bool.not_true, Bool.not_false, List.map_cons, List.map_nil, hee, hvl, decide_false, retP, or_true, Bool.false_and]
end Go.Proofs.Ythjahianafohjaa
set_option maxRecDepth 100000
namespace Go.Proofs.Ythjahianafohjaa
open Go.Sx
def ch0 : Ch := ⟨⟨0, 0, 0, 0, 0, 0⟩, ⟨0, 0, 0, 0, 0, 0⟩⟩
def chAt (l : List Ch) (z : Int) : Ch := (l[z.toNat]?).getD ch0
def cycG (l : List Ch) (cyc : List Int) (i : Nat) : Int := gainC (chAt l ((cyc[i]?).getD 0)) (chAt l ((cyc[(i + 1) % cyc.length]?).getD 0))
def cycSum (l : List Ch) (cyc : List Int) : Nat → Int
  | 0 => 0
  | i + 1 => cycSum l cyc i + cycG l cyc i
def verd (l : List Ch) (cyc vals : List Int) : Int :=
  if (l.all fun x => decide x.ok) = true then
    if formV l.length cyc vals = true then
      if cyc.length = 0 then (if (decide (vals.length = l.length) && explP (l.zip vals)) = true then 0 else 13)
      else (if 0 ≤ cycSum l cyc cyc.length then 13 else 0)
    else 2
  else 4
theorem chAt_of {l : List Ch} {z : Int} {x : Ch} (h : l[z.toNat]? = some x) : chAt l z = x := by simp [chAt, h]
theorem chAt_get {l : List Ch} {z : Int} (h : cycOk l.length z = true) : ∃ k : Nat, z = (k : Int) ∧ k < l.length ∧ l[k]? = some (chAt l z) := by
  simp only [cycOk, decide_eq_true_eq] at h
  obtain ⟨k, rfl⟩ : ∃ k : Nat, z = (k : Int) := ⟨z.toNat, by omega⟩
  refine ⟨k, rfl, by omega, ?_⟩
  have hk : k < l.length := by omega
  simp [chAt, List.getElem?_eq_getElem hk]
theorem cyc_bd {l : List Ch} (hok : ∀ x ∈ l, x.ok) {cyc : List Int} (hc : ∀ z ∈ cyc, cycOk l.length z = true) : ∀ i, i ≤ cyc.length → -24000000 * (i : Int) ≤ cycSum l cyc i ∧ cycSum l cyc i ≤ 24000000 * (i : Int)
  | 0, _ => by simp [cycSum]
  | i + 1, h => by
    have ih := cyc_bd hok hc i (by omega)
    have hi : i < cyc.length := by omega
    have hj : (i + 1) % cyc.length < cyc.length := Nat.mod_lt _ (by omega)
    have m1 : cyc[i]? = some cyc[i] := List.getElem?_eq_getElem hi
    have m2 : cyc[(i + 1) % cyc.length]? = some cyc[(i + 1) % cyc.length] := List.getElem?_eq_getElem hj
    obtain ⟨k1, _, _, e1⟩ := chAt_get (hc _ (List.mem_of_getElem? m1))
    obtain ⟨k2, _, _, e2⟩ := chAt_get (hc _ (List.mem_of_getElem? m2))
    have := gain_bd (hok _ (List.mem_of_getElem? e1)) (hok _ (List.mem_of_getElem? e2))
    simp only [cycSum, cycG, m1, m2, Option.getD_some]
    omega
theorem tmod_nat (i m : Nat) : Int.tmod ((i : Int) + 1) (m : Int) = (((i + 1) % m : Nat) : Int) := by
  rw [show (i : Int) + 1 = ((i + 1 : Nat) : Int) from by omega]; exact (Int.ofNat_tmod _ _).symm
theorem verify_sem (σ : List MO) (l : List Ch) (P : PV) (hP : P.rowsOf 12 = some (l.map Ch.row)) (cyc vals : List Int) (C V : PV) (hC : C.rowsOf 1 = some (ints cyc)) (hV : V.rowsOf 1 = some (ints vals)) (hl : l.length ≤ 14) (n : Nat) (hn : cyc.length + vals.length + 420 ≤ n) (hc : cyc.length ≤ 1000000) (hv : vals.length ≤ 1000000) :
    evalF Tab n n_revealed_Verify [P, .agg [C, V]] σ = some (.int .i64 (verd l cyc vals), σ) := by
  obtain ⟨n, rfl⟩ : ∃ k, n = k + 1 := ⟨n - 1, by omega⟩
  obtain ⟨p1, p2, p3⟩ := rows_len hP
  obtain ⟨r1, r2, r3⟩ := rows_len hC
  obtain ⟨s1, s2, s3⟩ := rows_len hV
  rw [List.length_map] at p1
  rw [ints_len] at r1 s1
  have c1 := all_sem σ l P hP n (by omega) (by omega)
  have c2 := formed_sem σ l P hP cyc vals C V hC hV n (by omega) (by omega) (by omega)
  simp only [n_revealed_allValid, n_revealed_formed] at c1 c2
  simp only [evalF, tab_revealed_Verify, Option.bind_some, Sys.run]
  show ((bindPs [.sh (.one _), .sh (.agg [_, _])] _).bind _) = _
  simp -implicitDefEqProofs only [bindPs, bind1, bindK, Option.map_some, Option.bind_some, List.append_nil, List.nil_append, List.cons_append, if_true, p3, r3, s3]
  show (PT.ev _ revealed_Verify_s _).bind _ = _
  simp -implicitDefEqProofs only [revealed_Verify_s, ↓reduceIte, eq_self, PT.ev, BE.safe, BE.pe, IE.pe, PEnv.at, List.getD_cons_zero, List.getD_cons_succ, List.getElem?_cons_zero, List.getElem?_cons_succ, locOf, locOn, readLoc, takeN, Nat.add_zero, List.drop_zero, List.length_cons, List.length_nil, Nat.reduceAdd, Nat.le_refl, if_true, if_false, Bool.false_eq_true, List.take_succ_cons, List.take_zero, bindK, bindRes, bind1, Option.map_some, Option.bind_some, PEnv.push, List.cons_append, List.nil_append, List.append_nil, SV.pvs, SV.pv, BE.all, Bool.and_self, Bool.not_true, Bool.not_false, List.map_cons, List.map_nil, c1]
  by_cases ha : (l.all fun x => decide x.ok) = true
  case neg =>
    rw [Bool.not_eq_true] at ha
    have hd : verd l cyc vals = 4 := by unfold verd; rw [ha]; rfl
    rw [ha, hd]
    simp -implicitDefEqProofs only [↓reduceIte, eq_self, PT.ev, BE.safe, BE.pe, IE.pe, PEnv.at, List.getD_cons_zero, List.getD_cons_succ, List.getElem?_cons_zero, List.getElem?_cons_succ, locOf, locOn, readLoc, takeN, Nat.add_zero, List.drop_zero, List.length_cons, List.length_nil, Nat.reduceAdd, Nat.le_refl, if_true, if_false, Bool.false_eq_true, List.take_succ_cons, List.take_zero, bindK, bindRes, bind1, Option.map_some, Option.bind_some, PEnv.push, List.cons_append, List.nil_append, List.append_nil, SV.pvs, SV.pv, BE.all, Bool.and_self, Bool.not_true, Bool.not_false, List.map_cons, List.map_nil, retP, or_true]
  rw [ha]
  simp -implicitDefEqProofs only [↓reduceIte, eq_self, PT.ev, BE.safe, BE.pe, IE.pe, PEnv.at, List.getD_cons_zero, List.getD_cons_succ, List.getElem?_cons_zero, List.getElem?_cons_succ, locOf, locOn, readLoc, takeN, Nat.add_zero, List.drop_zero, List.length_cons, List.length_nil, Nat.reduceAdd, Nat.le_refl, if_true, if_false, Bool.false_eq_true, List.take_succ_cons, List.take_zero, bindK, bindRes, bind1, Option.map_some, Option.bind_some, PEnv.push, List.cons_append, List.nil_append, List.append_nil, SV.pvs, SV.pv, BE.all, Bool.and_self, Bool.not_true, Bool.not_false, List.map_cons, List.map_nil, c2]
  cases hf : formV l.length cyc vals with
  | false =>
    have hd : verd l cyc vals = 2 := by unfold verd; rw [ha, hf]; rfl
    rw [hd]
    simp -implicitDefEqProofs only [↓reduceIte, eq_self, PT.ev, BE.safe, BE.pe, IE.pe, PEnv.at, List.getD_cons_zero, List.getD_cons_succ, List.getElem?_cons_zero, List.getElem?_cons_succ, locOf, locOn, readLoc, takeN, Nat.add_zero, List.drop_zero, List.length_cons, List.length_nil, Nat.reduceAdd, Nat.le_refl, if_true, if_false, Bool.false_eq_true, List.take_succ_cons, List.take_zero, bindK, bindRes, bind1, Option.map_some, Option.bind_some, PEnv.push, List.cons_append, List.nil_append, List.append_nil, SV.pvs, SV.pv, BE.all, Bool.and_self, Bool.not_true, Bool.not_false, List.map_cons, List.map_nil, retP, or_true]
  | true =>
    have hok : ∀ x ∈ l, x.ok := fun x hx => by simpa using (List.all_eq_true.1 ha) x hx
    simp only [formV, Bool.and_eq_true] at hf
    have hcy : ∀ z ∈ cyc, cycOk l.length z = true := List.all_eq_true.1 hf.1.2
    have hva : ∀ z ∈ vals, valOk z = true := List.all_eq_true.1 hf.2
    have hf' : formV l.length cyc vals = true := by simp only [formV, Bool.and_eq_true]; exact hf
    simp -implicitDefEqProofs only [↓reduceIte, eq_self, PT.ev, BE.safe, BE.pe, IE.pe, PEnv.at, List.getD_cons_zero, List.getD_cons_succ, List.getElem?_cons_zero, List.getElem?_cons_succ, locOf, locOn, readLoc, takeN, Nat.add_zero, List.drop_zero, List.length_cons, List.length_nil, Nat.reduceAdd, Nat.le_refl, if_true, if_false, Bool.false_eq_true, List.take_succ_cons, List.take_zero, bindK, bindRes, bind1, Option.map_some, Option.bind_some, PEnv.push, List.cons_append, List.nil_append, List.append_nil, SV.pvs, SV.pv, BE.all, Bool.and_self, Bool.not_true, Bool.not_false, List.map_cons, List.map_nil, r1, r2]
    by_cases h0 : cyc.length = 0
    · have c3 := expl_sem σ l P hP vals V hV hl hok hva n (by omega)
      have e0 : eqB (cyc.length : Int) 0 = true := by rw [h0]; rfl
      simp only [n_revealed_explains] at c3
      simp -implicitDefEqProofs only [↓reduceIte, eq_self, PT.ev, BE.safe, BE.pe, IE.pe, PEnv.at, List.getD_cons_zero, List.getD_cons_succ, List.getElem?_cons_zero, List.getElem?_cons_succ, locOf, locOn, readLoc, takeN, Nat.add_zero, List.drop_zero, List.length_cons, List.length_nil, Nat.reduceAdd, Nat.le_refl, if_true, if_false, Bool.false_eq_true, List.take_succ_cons, List.take_zero, bindK, bindRes, bind1, Option.map_some, Option.bind_some, PEnv.push, List.cons_append, List.nil_append, List.append_nil, SV.pvs, SV.pv, BE.all, Bool.and_self, Bool.not_true, Bool.not_false, List.map_cons, List.map_nil, e0, c3]
      have hd : verd l cyc vals = if (decide (vals.length = l.length) && explP (l.zip vals)) = true then 0 else 13 := by unfold verd; rw [ha, hf', if_pos rfl, if_pos rfl, if_pos h0]
      rw [hd]
      generalize (decide (vals.length = l.length) && explP (l.zip vals)) = q
      cases q <;> simp -implicitDefEqProofs only [↓reduceIte, eq_self, PT.ev, BE.safe, BE.pe, IE.pe, PEnv.at, List.getD_cons_zero, List.getD_cons_succ, List.getElem?_cons_zero, List.getElem?_cons_succ, locOf, locOn, readLoc, takeN, Nat.add_zero, List.drop_zero, List.length_cons, List.length_nil, Nat.reduceAdd, Nat.le_refl, if_true, if_false, Bool.false_eq_true, List.take_succ_cons, List.take_zero, bindK, bindRes, bind1, Option.map_some, Option.bind_some, PEnv.push, List.cons_append, List.nil_append, List.append_nil, SV.pvs, SV.pv, BE.all, Bool.and_self, Bool.not_true, Bool.not_false, List.map_cons, List.map_nil, retP, or_true, if_pos]
    · have e0 : eqB (cyc.length : Int) 0 = false := by rw [eqB_false]; omega
      simp -implicitDefEqProofs only [↓reduceIte, eq_self, PT.ev, BE.safe, BE.pe, IE.pe, PEnv.at, List.getD_cons_zero, List.getD_cons_succ, List.getElem?_cons_zero, List.getElem?_cons_succ, locOf, locOn, readLoc, takeN, Nat.add_zero, List.drop_zero, List.length_cons, List.length_nil, Nat.reduceAdd, Nat.le_refl, if_true, if_false, Bool.false_eq_true, List.take_succ_cons, List.take_zero, bindK, bindRes, bind1, Option.map_some, Option.bind_some, PEnv.push, List.cons_append, List.nil_append, List.append_nil, SV.pvs, SV.pv, BE.all, Bool.and_self, Bool.not_true, Bool.not_false, List.map_cons, List.map_nil, e0]
      have hd : verd l cyc vals = if 0 ≤ cycSum l cyc cyc.length then 13 else 0 := by unfold verd; rw [ha, hf', if_pos rfl, if_pos rfl, if_neg h0]
      have loop : ∀ (fuel i : Nat), cyc.length - i < fuel → i ≤ cyc.length → revealed_Verify_S.loop (evalF Tab n) fuel 0 { i := [cycSum l cyc i, (cyc.length : Int), (i : Int)], b := [], v := [P, C, V], m := σ, k := σ.length } = some (.int .i64 (verd l cyc vals), σ) := by
        intro fuel
        induction fuel with
        | zero => intro i h; omega
        | succ fuel ihf =>
          intro i h1 h2
          rw [Sys.loop, show revealed_Verify_S.loops[0]? = some revealed_Verify_t0 from rfl]
          simp -implicitDefEqProofs only [Option.bind_some, revealed_Verify_t0, ↓reduceIte, eq_self, PT.ev, BE.safe, BE.pe, IE.pe, PEnv.at, List.getD_cons_zero, List.getD_cons_succ, List.getElem?_cons_zero, List.getElem?_cons_succ, locOf, locOn, readLoc, takeN, Nat.add_zero, List.drop_zero, List.length_cons, List.length_nil, Nat.reduceAdd, Nat.le_refl, if_true, if_false, Bool.false_eq_true, List.take_succ_cons, List.take_zero, bindK, bindRes, bind1, Option.map_some, Option.bind_some, PEnv.push, List.cons_append, List.nil_append, List.append_nil, SV.pvs, SV.pv, BE.all, Bool.and_self, Bool.not_true, Bool.not_false, List.map_cons, List.map_nil, ltB_nat, decide_eq_true_eq]
          by_cases hlt : i < cyc.length
          · have hj : (i + 1) % cyc.length < cyc.length := Nat.mod_lt _ (by omega)
            have m1 : cyc[i]? = some cyc[i] := List.getElem?_eq_getElem hlt
            have m2 : cyc[(i + 1) % cyc.length]? = some cyc[(i + 1) % cyc.length] := List.getElem?_eq_getElem hj
            obtain ⟨k1, z1, l1, e1⟩ := chAt_get (hcy _ (List.mem_of_getElem? m1))
            obtain ⟨k2, z2, l2, e2⟩ := chAt_get (hcy _ (List.mem_of_getElem? m2))
            have g := ihf (i + 1) (by omega) (by omega)
            rw [show ((i + 1 : Nat) : Int) = (i : Int) + 1 from by omega] at g
            have b1 := cyc_bd hok hcy i (by omega)
            have b2 := cyc_bd hok hcy (i + 1) (by omega)
            simp only [cycSum, cycG, m1, m2, Option.getD_some] at g b2
            have c4 := gain0_sem σ _ _ (hok _ (List.mem_of_getElem? e1)) (hok _ (List.mem_of_getElem? e2)) n (by omega)
            have d1 := rows_get (off := 0) hC (ints_get m1)
            have d2 := rows_get (off := 0) hC (ints_get m2)
            have d3 := rows_get (off := 0) hP (rows_chs e1)
            have d4 := rows_get (off := 0) hP (rows_chs e2)
            generalize chAt l cyc[i] = x at *
            generalize chAt l cyc[(i + 1) % cyc.length] = y at *
            generalize gainC x y = gg at *
            rw [z1] at d1; rw [z2] at d2
            generalize cycSum l cyc i = acc at *
            generalize hj' : (i + 1) % cyc.length = j at *
            have t1 := tmod_nat i cyc.length
            rw [hj'] at t1
            have q1 : (leB 0 (i : Int) && decide (i < cyc.length)) = true := by simp [leB, hlt]
            have q2 : (leB (-9223372036854775808) ((i : Int) + 1) && leB ((i : Int) + 1) 9223372036854775807) = true := by simp [leB]; omega
            have q3 : (leB 0 (k1 : Int) && decide (k1 < l.length)) = true := by simp [leB, l1]
            have q4 : (leB 0 (k2 : Int) && decide (k2 < l.length)) = true := by simp [leB, l2]
            have q5 : (leB 0 (j : Int) && decide (j < cyc.length)) = true := by simp [leB, hj]
            have q6 : (leB (-9223372036854775808) (acc + gg) && leB (acc + gg) 9223372036854775807) = true := by simp [leB]; omega
            simp only [n_revealed_gain, row_eq] at c4
            rw [if_pos hlt]
            simp -implicitDefEqProofs only [p1, p2, r1, r2, ltB_nat, ↓reduceIte, eq_self, PT.ev, BE.safe, BE.pe, IE.pe, PEnv.at, List.getD_cons_zero, List.getD_cons_succ, List.getElem?_cons_zero, List.getElem?_cons_succ, locOf, locOn, readLoc, takeN, Nat.add_zero, List.drop_zero, List.length_cons, List.length_nil, Nat.reduceAdd, Nat.le_refl, if_true, if_false, Bool.false_eq_true, List.take_succ_cons, List.take_zero, bindK, bindRes, bind1, Option.map_some, Option.bind_some, PEnv.push, List.cons_append, List.nil_append, List.append_nil, SV.pvs, SV.pv, BE.all, Bool.and_self, Bool.not_true, Bool.not_false, List.map_cons, List.map_nil, t1, e0, if_pos q1, if_pos q2, if_pos q3, if_pos q4, if_pos q5, if_pos q6, d1, d2, d3, d4, row_eq, c4]
            exact g
          · rw [if_neg hlt, hd]
            obtain rfl : i = cyc.length := by omega
            by_cases h3 : 0 ≤ cycSum l cyc cyc.length
            · have e3 : leB 0 (cycSum l cyc cyc.length) = true := leB_true.2 h3
              rw [if_pos h3]
              simp -implicitDefEqProofs only [↓reduceIte, eq_self, PT.ev, BE.safe, BE.pe, IE.pe, PEnv.at, List.getD_cons_zero, List.getD_cons_succ, List.getElem?_cons_zero, List.getElem?_cons_succ, locOf, locOn, readLoc, takeN, Nat.add_zero, List.drop_zero, List.length_cons, List.length_nil, Nat.reduceAdd, Nat.le_refl, if_true, if_false, Bool.false_eq_true, List.take_succ_cons, List.take_zero, bindK, bindRes, bind1, Option.map_some, Option.bind_some, PEnv.push, List.cons_append, List.nil_append, List.append_nil, SV.pvs, SV.pv, BE.all, Bool.and_self, Bool.not_true, Bool.not_false, List.map_cons, List.map_nil, e3, retP, or_true]
            · have e3 : leB 0 (cycSum l cyc cyc.length) = false := leB_false.2 h3
              rw [if_neg h3]
              simp -implicitDefEqProofs only [↓reduceIte, eq_self, PT.ev, BE.safe, BE.pe, IE.pe, PEnv.at, List.getD_cons_zero, List.getD_cons_succ, List.getElem?_cons_zero, List.getElem?_cons_succ, locOf, locOn, readLoc, takeN, Nat.add_zero, List.drop_zero, List.length_cons, List.length_nil, Nat.reduceAdd, Nat.le_refl, if_true, if_false, Bool.false_eq_true, List.take_succ_cons, List.take_zero, bindK, bindRes, bind1, Option.map_some, Option.bind_some, PEnv.push, List.cons_append, List.nil_append, List.append_nil, SV.pvs, SV.pv, BE.all, Bool.and_self, Bool.not_true, Bool.not_false, List.map_cons, List.map_nil, e3, retP, or_true]
      have g := loop n 0 (by omega) (Nat.zero_le _)
      simpa [cycSum] using g
end Go.Proofs.Ythjahianafohjaa
