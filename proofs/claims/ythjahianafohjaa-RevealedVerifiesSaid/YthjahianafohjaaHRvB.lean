/- Gains. -/
import Derived.Test.YthjahianafohjaaHRvA
set_option linter.unusedSimpArgs false
set_option linter.unusedVariables false
set_option maxRecDepth 100000
namespace Go.Proofs.Ythjahianafohjaa
open Go.Sx
structure W6 where
  (a b c d e f : Int)
def W6.pv (x : W6) : List PV := [.int .i64 x.a, .int .i64 x.b, .int .i64 x.c, .int .i64 x.d, .int .i64 x.e, .int .i64 x.f]
def W6.ok (w : W6) : Prop := 0 ≤ w.a ∧ w.a ≤ 4 ∧ 0 ≤ w.b ∧ w.b ≤ 4 ∧ 0 ≤ w.c ∧ w.c ≤ 4 ∧ 0 ≤ w.d ∧ w.d ≤ 4 ∧ 0 ≤ w.e ∧ w.e ≤ 4 ∧ 0 ≤ w.f ∧ w.f ≤ 4
instance (w : W6) : Decidable w.ok := by unfold W6.ok; infer_instance
def W6.pok (w : W6) : Prop := 0 ≤ w.a ∧ w.a ≤ 1000000 ∧ 0 ≤ w.b ∧ w.b ≤ 1000000 ∧ 0 ≤ w.c ∧ w.c ≤ 1000000 ∧ 0 ≤ w.d ∧ w.d ≤ 1000000 ∧ 0 ≤ w.e ∧ w.e ≤ 1000000 ∧ 0 ≤ w.f ∧ w.f ≤ 1000000
instance (w : W6) : Decidable w.pok := by unfold W6.pok; infer_instance
def bchk (w : W6) : Int := if w.ok then 0 else 4
def costW (p w : W6) : Int := p.a * w.a + p.b * w.b + p.c * w.c + p.d * w.d + p.e * w.e + p.f * w.f
/-- A choice. -/
structure Ch where
  (p w : W6)
def Ch.row (c : Ch) : List PV := c.p.pv ++ c.w.pv
def Ch.ok (c : Ch) : Prop := c.p.pok ∧ c.w.ok
instance (c : Ch) : Decidable c.ok := by unfold Ch.ok; infer_instance
theorem Ch.ok_dec (x : Ch) : decide x.ok = (decide x.p.pok && decide x.w.ok) := by
  rw [Bool.eq_iff_iff, decide_eq_true_iff, Bool.and_eq_true, decide_eq_true_iff, decide_eq_true_iff]; exact Iff.rfl
def gainC (a b : Ch) : Int := costW a.p b.w - costW a.p a.w
theorem mul_bd {x y : Int} (h1 : 0 ≤ x) (h2 : x ≤ 1000000) (h3 : 0 ≤ y) (h4 : y ≤ 4) : 0 ≤ x * y ∧ x * y ≤ 4000000 := by
  constructor
  · exact Int.mul_nonneg h1 h3
  · calc x * y ≤ 1000000 * 4 := Int.mul_le_mul h2 h4 h3 (by omega)
      _ = 4000000 := by decide
theorem cost_bounds {p w : W6} (hp : p.pok) (hw : w.ok) : (0 ≤ p.a * w.a ∧ p.a * w.a ≤ 4000000) ∧ (0 ≤ p.b * w.b ∧ p.b * w.b ≤ 4000000) ∧ (0 ≤ p.c * w.c ∧ p.c * w.c ≤ 4000000) ∧ (0 ≤ p.d * w.d ∧ p.d * w.d ≤ 4000000) ∧ (0 ≤ p.e * w.e ∧ p.e * w.e ≤ 4000000) ∧ (0 ≤ p.f * w.f ∧ p.f * w.f ≤ 4000000) := by
  simp only [W6.pok, W6.ok] at hp hw
  exact ⟨mul_bd (by omega) (by omega) (by omega) (by omega), mul_bd (by omega) (by omega) (by omega) (by omega), mul_bd (by omega) (by omega) (by omega) (by omega), mul_bd (by omega) (by omega) (by omega) (by omega), mul_bd (by omega) (by omega) (by omega) (by omega), mul_bd (by omega) (by omega) (by omega) (by omega)⟩
theorem cost_bd {p w : W6} (hp : p.pok) (hw : w.ok) : 0 ≤ costW p w ∧ costW p w ≤ 24000000 := by
  have := cost_bounds hp hw
  simp only [costW]; omega
theorem gain_bd {a b : Ch} (ha : a.ok) (hb : b.ok) : -24000000 ≤ gainC a b ∧ gainC a b ≤ 24000000 := by
  have := cost_bd ha.1 hb.2
  have := cost_bd ha.1 ha.2
  simp only [gainC]; omega
theorem bundle_Check_sem (σ : List MO) (w : W6) (n : Nat) (hn : 1 ≤ n) : evalF Tab n n_bundle_Check [.agg w.pv] σ = some (.int .i64 (bchk w), σ) := by
  obtain ⟨n, rfl⟩ : ∃ k, n = k + 1 := ⟨n - 1, by omega⟩
  simp only [evalF, tab_bundle_Check, Option.bind_some, Sys.run, W6.pv]
  show ((bindPs [.sh (.agg [_, _, _, _, _, _])] _).bind _) = _
  simp only [bindPs, bind1, bindK, Option.map_some, Option.bind_some, List.append_nil, List.nil_append, List.cons_append, if_true]
  show (PT.ev _ bundle_Check_s _).bind _ = _
  simp -implicitDefEqProofs only [bundle_Check_s, ↓reduceIte, PT.ev, BE.safe, BE.pe, IE.pe, PEnv.at, List.getD_cons_zero, List.getD_cons_succ, List.getElem?_cons_zero, List.getElem?_cons_succ, locOf, locOn, readLoc, takeN, Nat.add_zero, List.drop_zero, List.length_cons, List.length_nil, Nat.reduceAdd, Nat.le_refl, if_true, if_false, Bool.false_eq_true, List.take_succ_cons, List.take_zero, bindK, bindRes, bind1, Option.map_some, Option.bind_some, PEnv.push, List.cons_append, List.nil_append, List.append_nil, SV.pvs, SV.pv, BE.all, Bool.and_self, Bool.not_true, Bool.not_false, List.map_cons, List.map_nil, retP, or_true]
  obtain ⟨a, b, c, d, e, f⟩ := w
  simp only [ltB_true, bchk]
  by_cases hok : (⟨a, b, c, d, e, f⟩ : W6).ok
  · rw [if_pos hok]
    simp only [W6.ok] at hok
    repeat rw [if_neg (by omega)]
    rfl
  · rw [if_neg hok]
    simp only [W6.ok] at hok
    by_cases h1 : a < 0
    · rw [if_pos h1]; rfl
    rw [if_neg h1]
    by_cases h2 : 4 < a
    · rw [if_pos h2]; rfl
    rw [if_neg h2]
    by_cases h3 : b < 0
    · rw [if_pos h3]; rfl
    rw [if_neg h3]
    by_cases h4 : 4 < b
    · rw [if_pos h4]; rfl
    rw [if_neg h4]
    by_cases h5 : c < 0
    · rw [if_pos h5]; rfl
    rw [if_neg h5]
    by_cases h6 : 4 < c
    · rw [if_pos h6]; rfl
    rw [if_neg h6]
    by_cases h7 : d < 0
    · rw [if_pos h7]; rfl
    rw [if_neg h7]
    by_cases h8 : 4 < d
    · rw [if_pos h8]; rfl
    rw [if_neg h8]
    by_cases h9 : e < 0
    · rw [if_pos h9]; rfl
    rw [if_neg h9]
    by_cases h10 : 4 < e
    · rw [if_pos h10]; rfl
    rw [if_neg h10]
    by_cases h11 : f < 0
    · rw [if_pos h11]; rfl
    rw [if_neg h11]
    by_cases h12 : 4 < f
    · rw [if_pos h12]; rfl
    rw [if_neg h12]
    exfalso; omega
theorem saleroomref07_Check_sem (σ : List MO) (w : W6) (n : Nat) (hn : 1 ≤ n) : evalF Tab n n_saleroomref07_Check [.agg w.pv] σ = some (.int .i64 (bchk w), σ) := by
  obtain ⟨n, rfl⟩ : ∃ k, n = k + 1 := ⟨n - 1, by omega⟩
  simp only [evalF, tab_saleroomref07_Check, Option.bind_some, Sys.run, W6.pv]
  show ((bindPs [.sh (.agg [_, _, _, _, _, _])] _).bind _) = _
  simp only [bindPs, bind1, bindK, Option.map_some, Option.bind_some, List.append_nil, List.nil_append, List.cons_append, if_true]
  show (PT.ev _ saleroomref07_Check_s _).bind _ = _
  simp -implicitDefEqProofs only [saleroomref07_Check_s, ↓reduceIte, PT.ev, BE.safe, BE.pe, IE.pe, PEnv.at, List.getD_cons_zero, List.getD_cons_succ, List.getElem?_cons_zero, List.getElem?_cons_succ, locOf, locOn, readLoc, takeN, Nat.add_zero, List.drop_zero, List.length_cons, List.length_nil, Nat.reduceAdd, Nat.le_refl, if_true, if_false, Bool.false_eq_true, List.take_succ_cons, List.take_zero, bindK, bindRes, bind1, Option.map_some, Option.bind_some, PEnv.push, List.cons_append, List.nil_append, List.append_nil, SV.pvs, SV.pv, BE.all, Bool.and_self, Bool.not_true, Bool.not_false, List.map_cons, List.map_nil, retP, or_true]
  obtain ⟨a, b, c, d, e, f⟩ := w
  simp only [ltB_true, bchk]
  by_cases hok : (⟨a, b, c, d, e, f⟩ : W6).ok
  · rw [if_pos hok]
    simp only [W6.ok] at hok
    repeat rw [if_neg (by omega)]
    rfl
  · rw [if_neg hok]
    simp only [W6.ok] at hok
    by_cases h1 : a < 0
    · rw [if_pos h1]; rfl
    rw [if_neg h1]
    by_cases h2 : 4 < a
    · rw [if_pos h2]; rfl
    rw [if_neg h2]
    by_cases h3 : b < 0
    · rw [if_pos h3]; rfl
    rw [if_neg h3]
    by_cases h4 : 4 < b
    · rw [if_pos h4]; rfl
    rw [if_neg h4]
    by_cases h5 : c < 0
    · rw [if_pos h5]; rfl
    rw [if_neg h5]
    by_cases h6 : 4 < c
    · rw [if_pos h6]; rfl
    rw [if_neg h6]
    by_cases h7 : d < 0
    · rw [if_pos h7]; rfl
    rw [if_neg h7]
    by_cases h8 : 4 < d
    · rw [if_pos h8]; rfl
    rw [if_neg h8]
    by_cases h9 : e < 0
    · rw [if_pos h9]; rfl
    rw [if_neg h9]
    by_cases h10 : 4 < e
    · rw [if_pos h10]; rfl
    rw [if_neg h10]
    by_cases h11 : f < 0
    · rw [if_pos h11]; rfl
    rw [if_neg h11]
    by_cases h12 : 4 < f
    · rw [if_pos h12]; rfl
    rw [if_neg h12]
    exfalso; omega
theorem bundle_Cost_sem (σ : List MO) (p w : W6) (hp : p.pok) (hw : w.ok) (n : Nat) (hn : 1 ≤ n) : evalF Tab n n_bundle_Cost [.agg p.pv, .agg w.pv] σ = some (.int .i64 (costW p w), σ) := by
  obtain ⟨n, rfl⟩ : ∃ k, n = k + 1 := ⟨n - 1, by omega⟩
  simp only [evalF, tab_bundle_Cost, Option.bind_some, Sys.run, W6.pv]
  show ((bindPs [.sh (.agg [_, _, _, _, _, _]), .sh (.agg [_, _, _, _, _, _])] _).bind _) = _
  simp only [bindPs, bind1, bindK, Option.map_some, Option.bind_some, List.append_nil, List.nil_append, List.cons_append, if_true]
  show (PT.ev _ bundle_Cost_s _).bind _ = _
  obtain ⟨b0, b1, b2, b3, b4, b5⟩ := cost_bounds hp hw
  obtain ⟨a, b, c, d, e, f⟩ := p
  obtain ⟨a', b', c', d', e', f'⟩ := w
  simp only at b0 b1 b2 b3 b4 b5
  simp -implicitDefEqProofs only [bundle_Cost_s, ↓reduceIte, PT.ev, BE.safe, BE.pe, IE.pe, PEnv.at, List.getD_cons_zero, List.getD_cons_succ, List.getElem?_cons_zero, List.getElem?_cons_succ, locOf, locOn, readLoc, takeN, Nat.add_zero, List.drop_zero, List.length_cons, List.length_nil, Nat.reduceAdd, Nat.le_refl, if_true, if_false, Bool.false_eq_true, List.take_succ_cons, List.take_zero, bindK, bindRes, bind1, Option.map_some, Option.bind_some, PEnv.push, List.cons_append, List.nil_append, List.append_nil, SV.pvs, SV.pv, BE.all, Bool.and_self, Bool.not_true, Bool.not_false, List.map_cons, List.map_nil, retP, or_true, Bool.and_eq_true, leB_true, costW]
  generalize a * a' = x0 at *
  generalize b * b' = x1 at *
  generalize c * c' = x2 at *
  generalize d * d' = x3 at *
  generalize e * e' = x4 at *
  generalize f * f' = x5 at *
  repeat rw [if_pos (by omega)]
  rfl
theorem saleroomref07_Cost_sem (σ : List MO) (p w : W6) (hp : p.pok) (hw : w.ok) (n : Nat) (hn : 1 ≤ n) : evalF Tab n n_saleroomref07_Cost [.agg p.pv, .agg w.pv] σ = some (.int .i64 (costW p w), σ) := by
  obtain ⟨n, rfl⟩ : ∃ k, n = k + 1 := ⟨n - 1, by omega⟩
  simp only [evalF, tab_saleroomref07_Cost, Option.bind_some, Sys.run, W6.pv]
  show ((bindPs [.sh (.agg [_, _, _, _, _, _]), .sh (.agg [_, _, _, _, _, _])] _).bind _) = _
  simp only [bindPs, bind1, bindK, Option.map_some, Option.bind_some, List.append_nil, List.nil_append, List.cons_append, if_true]
  show (PT.ev _ saleroomref07_Cost_s _).bind _ = _
  obtain ⟨b0, b1, b2, b3, b4, b5⟩ := cost_bounds hp hw
  obtain ⟨a, b, c, d, e, f⟩ := p
  obtain ⟨a', b', c', d', e', f'⟩ := w
  simp only at b0 b1 b2 b3 b4 b5
  simp -implicitDefEqProofs only [saleroomref07_Cost_s, ↓reduceIte, PT.ev, BE.safe, BE.pe, IE.pe, PEnv.at, List.getD_cons_zero, List.getD_cons_succ, List.getElem?_cons_zero, List.getElem?_cons_succ, locOf, locOn, readLoc, takeN, Nat.add_zero, List.drop_zero, List.length_cons, List.length_nil, Nat.reduceAdd, Nat.le_refl, if_true, if_false, Bool.false_eq_true, List.take_succ_cons, List.take_zero, bindK, bindRes, bind1, Option.map_some, Option.bind_some, PEnv.push, List.cons_append, List.nil_append, List.append_nil, SV.pvs, SV.pv, BE.all, Bool.and_self, Bool.not_true, Bool.not_false, List.map_cons, List.map_nil, retP, or_true, Bool.and_eq_true, leB_true, costW]
  generalize a * a' = x0 at *
  generalize b * b' = x1 at *
  generalize c * c' = x2 at *
  generalize d * d' = x3 at *
  generalize e * e' = x4 at *
  generalize f * f' = x5 at *
  repeat rw [if_pos (by omega)]
  rfl
theorem prices_sem (σ : List MO) (w : W6) (n : Nat) (hn : 1 ≤ n) : evalF Tab n n_saleroomref07_Prices [.agg w.pv] σ = some (.bool (decide w.pok), σ) := by
  obtain ⟨n, rfl⟩ : ∃ k, n = k + 1 := ⟨n - 1, by omega⟩
  simp only [evalF, tab_saleroomref07_Prices, Option.bind_some, Sys.run, W6.pv]
  show ((bindPs [.sh (.agg [_, _, _, _, _, _])] _).bind _) = _
  simp only [bindPs, bind1, bindK, Option.map_some, Option.bind_some, List.append_nil, List.nil_append, List.cons_append, if_true]
  show (PT.ev _ saleroomref07_Prices_s _).bind _ = _
  simp -implicitDefEqProofs only [saleroomref07_Prices_s, ↓reduceIte, PT.ev, BE.safe, BE.pe, IE.pe, PEnv.at, List.getD_cons_zero, List.getD_cons_succ, List.getElem?_cons_zero, List.getElem?_cons_succ, locOf, locOn, readLoc, takeN, Nat.add_zero, List.drop_zero, List.length_cons, List.length_nil, Nat.reduceAdd, Nat.le_refl, if_true, if_false, Bool.false_eq_true, List.take_succ_cons, List.take_zero, bindK, bindRes, bind1, Option.map_some, Option.bind_some, PEnv.push, List.cons_append, List.nil_append, List.append_nil, SV.pvs, SV.pv, BE.all, Bool.and_self, Bool.not_true, Bool.not_false, List.map_cons, List.map_nil, retP, or_true]
  obtain ⟨a, b, c, d, e, f⟩ := w
  simp only [ltB_true]
  by_cases hok : (⟨a, b, c, d, e, f⟩ : W6).pok
  · rw [decide_eq_true hok]
    simp only [W6.pok] at hok
    repeat rw [if_neg (by omega)]
    rfl
  · rw [decide_eq_false hok]
    simp only [W6.pok] at hok
    by_cases h1 : a < 0
    · rw [if_pos h1]; rfl
    rw [if_neg h1]
    by_cases h2 : 1000000 < a
    · rw [if_pos h2]; rfl
    rw [if_neg h2]
    by_cases h3 : b < 0
    · rw [if_pos h3]; rfl
    rw [if_neg h3]
    by_cases h4 : 1000000 < b
    · rw [if_pos h4]; rfl
    rw [if_neg h4]
    by_cases h5 : c < 0
    · rw [if_pos h5]; rfl
    rw [if_neg h5]
    by_cases h6 : 1000000 < c
    · rw [if_pos h6]; rfl
    rw [if_neg h6]
    by_cases h7 : d < 0
    · rw [if_pos h7]; rfl
    rw [if_neg h7]
    by_cases h8 : 1000000 < d
    · rw [if_pos h8]; rfl
    rw [if_neg h8]
    by_cases h9 : e < 0
    · rw [if_pos h9]; rfl
    rw [if_neg h9]
    by_cases h10 : 1000000 < e
    · rw [if_pos h10]; rfl
    rw [if_neg h10]
    by_cases h11 : f < 0
    · rw [if_pos h11]; rfl
    rw [if_neg h11]
    by_cases h12 : 1000000 < f
    · rw [if_pos h12]; rfl
    rw [if_neg h12]
    exfalso; omega
theorem valid_sem (σ : List MO) (x : Ch) (n : Nat) (hn : 2 ≤ n) : evalF Tab n n_revealed_valid [.agg x.row] σ = some (.bool (decide x.ok), σ) := by
  obtain ⟨n, rfl⟩ : ∃ k, n = k + 1 := ⟨n - 1, by omega⟩
  have c1 := bundle_Check_sem σ x.w n (by omega)
  obtain ⟨⟨a, b, c, d, e, f⟩, ⟨a', b', c', d', e', f'⟩⟩ := x
  generalize hy : bchk ⟨a', b', c', d', e', f'⟩ = y at *
  simp only [n_bundle_Check, W6.pv] at c1
  simp only [evalF, tab_revealed_valid, Option.bind_some, Sys.run, W6.pv, Ch.row, List.cons_append, List.nil_append]
  show ((bindPs [.sh (.agg [_, _, _, _, _, _, _, _, _, _, _, _])] _).bind _) = _
  simp only [bindPs, bind1, bindK, Option.map_some, Option.bind_some, List.append_nil, List.nil_append, List.cons_append, if_true]
  show (PT.ev _ revealed_valid_s _).bind _ = _
  simp -implicitDefEqProofs only [revealed_valid_s, ↓reduceIte, PT.ev, BE.safe, BE.pe, IE.pe, PEnv.at, List.getD_cons_zero, List.getD_cons_succ, List.getElem?_cons_zero, List.getElem?_cons_succ, locOf, locOn, readLoc, takeN, Nat.add_zero, List.drop_zero, List.length_cons, List.length_nil, Nat.reduceAdd, Nat.le_refl, if_true, if_false, Bool.false_eq_true, List.take_succ_cons, List.take_zero, bindK, bindRes, bind1, Option.map_some, Option.bind_some, PEnv.push, List.cons_append, List.nil_append, List.append_nil, SV.pvs, SV.pv, BE.all, Bool.and_self, Bool.not_true, Bool.not_false, List.map_cons, List.map_nil, retP, or_true, c1]
  simp only [ltB_true]
  have hyd : eqB y 0 = decide (⟨a', b', c', d', e', f'⟩ : W6).ok := by
    rw [← hy]; unfold bchk
    by_cases h : (⟨a', b', c', d', e', f'⟩ : W6).ok
    · rw [if_pos h, decide_eq_true h]; rfl
    · rw [if_neg h, decide_eq_false h]; rfl
  have hsp : decide (Ch.ok ⟨⟨a, b, c, d, e, f⟩, ⟨a', b', c', d', e', f'⟩⟩) = (decide (⟨a, b, c, d, e, f⟩ : W6).pok && decide (⟨a', b', c', d', e', f'⟩ : W6).ok) := Ch.ok_dec _
  rw [hsp, hyd]
  generalize decide (⟨a', b', c', d', e', f'⟩ : W6).ok = q
  by_cases hok : (⟨a, b, c, d, e, f⟩ : W6).pok
  · rw [decide_eq_true hok]
    simp only [W6.pok] at hok
    repeat rw [if_neg (by omega)]
    simp
  · rw [decide_eq_false hok]
    simp only [W6.pok] at hok
    by_cases h1 : a < 0
    · rw [if_pos h1]; rfl
    rw [if_neg h1]
    by_cases h2 : 1000000 < a
    · rw [if_pos h2]; rfl
    rw [if_neg h2]
    by_cases h3 : b < 0
    · rw [if_pos h3]; rfl
    rw [if_neg h3]
    by_cases h4 : 1000000 < b
    · rw [if_pos h4]; rfl
    rw [if_neg h4]
    by_cases h5 : c < 0
    · rw [if_pos h5]; rfl
    rw [if_neg h5]
    by_cases h6 : 1000000 < c
    · rw [if_pos h6]; rfl
    rw [if_neg h6]
    by_cases h7 : d < 0
    · rw [if_pos h7]; rfl
    rw [if_neg h7]
    by_cases h8 : 1000000 < d
    · rw [if_pos h8]; rfl
    rw [if_neg h8]
    by_cases h9 : e < 0
    · rw [if_pos h9]; rfl
    rw [if_neg h9]
    by_cases h10 : 1000000 < e
    · rw [if_pos h10]; rfl
    rw [if_neg h10]
    by_cases h11 : f < 0
    · rw [if_pos h11]; rfl
    rw [if_neg h11]
    by_cases h12 : 1000000 < f
    · rw [if_pos h12]; rfl
    rw [if_neg h12]
    exfalso; omega
theorem rvalid_sem (σ : List MO) (x : Ch) (n : Nat) (hn : 2 ≤ n) : evalF Tab n n_saleroomref36_Valid [.agg x.row] σ = some (.bool (decide x.ok), σ) := by
  obtain ⟨n, rfl⟩ : ∃ k, n = k + 1 := ⟨n - 1, by omega⟩
  have c1 := saleroomref07_Check_sem σ x.w n (by omega)
  have c2 := prices_sem σ x.p n (by omega)
  obtain ⟨⟨a, b, c, d, e, f⟩, ⟨a', b', c', d', e', f'⟩⟩ := x
  have hsp : decide (Ch.ok ⟨⟨a, b, c, d, e, f⟩, ⟨a', b', c', d', e', f'⟩⟩) = (decide (⟨a, b, c, d, e, f⟩ : W6).pok && decide (⟨a', b', c', d', e', f'⟩ : W6).ok) := Ch.ok_dec _
  rw [hsp]
  simp only [n_saleroomref07_Check, n_saleroomref07_Prices, W6.pv] at c1 c2
  simp only [evalF, tab_saleroomref36_Valid, Option.bind_some, Sys.run, W6.pv, Ch.row, List.cons_append, List.nil_append]
  show ((bindPs [.sh (.agg [_, _, _, _, _, _, _, _, _, _, _, _])] _).bind _) = _
  simp only [bindPs, bind1, bindK, Option.map_some, Option.bind_some, List.append_nil, List.nil_append, List.cons_append, if_true]
  show (PT.ev _ saleroomref36_Valid_s _).bind _ = _
  by_cases h : (⟨a', b', c', d', e', f'⟩ : W6).ok
  · rw [decide_eq_true h, Bool.and_true]
    simp only [bchk, if_pos h] at c1
    simp -implicitDefEqProofs only [saleroomref36_Valid_s, ↓reduceIte, PT.ev, BE.safe, BE.pe, IE.pe, PEnv.at, List.getD_cons_zero, List.getD_cons_succ, List.getElem?_cons_zero, List.getElem?_cons_succ, locOf, locOn, readLoc, takeN, Nat.add_zero, List.drop_zero, List.length_cons, List.length_nil, Nat.reduceAdd, Nat.le_refl, if_true, if_false, Bool.false_eq_true, List.take_succ_cons, List.take_zero, bindK, bindRes, bind1, Option.map_some, Option.bind_some, PEnv.push, List.cons_append, List.nil_append, List.append_nil, SV.pvs, SV.pv, BE.all, Bool.and_self, Bool.not_true, Bool.not_false, List.map_cons, List.map_nil, retP, or_true, c1, eqB_self, c2]
  · rw [decide_eq_false h, Bool.and_false]
    simp only [bchk, if_neg h] at c1
    have e4 : eqB 4 0 = false := rfl
    simp -implicitDefEqProofs only [saleroomref36_Valid_s, ↓reduceIte, PT.ev, BE.safe, BE.pe, IE.pe, PEnv.at, List.getD_cons_zero, List.getD_cons_succ, List.getElem?_cons_zero, List.getElem?_cons_succ, locOf, locOn, readLoc, takeN, Nat.add_zero, List.drop_zero, List.length_cons, List.length_nil, Nat.reduceAdd, Nat.le_refl, if_true, if_false, Bool.false_eq_true, List.take_succ_cons, List.take_zero, bindK, bindRes, bind1, Option.map_some, Option.bind_some, PEnv.push, List.cons_append, List.nil_append, List.append_nil, SV.pvs, SV.pv, BE.all, Bool.and_self, Bool.not_true, Bool.not_false, List.map_cons, List.map_nil, retP, or_true, c1, e4]
theorem rcost_sem (σ : List MO) (x : Ch) (hx : x.p.pok) (w : W6) (hw : w.ok) (n : Nat) (hn : 2 ≤ n) : evalF Tab n n_saleroomref36_Cost [.agg x.row, .agg w.pv] σ = some (.int .i64 (costW x.p w), σ) := by
  obtain ⟨n, rfl⟩ : ∃ k, n = k + 1 := ⟨n - 1, by omega⟩
  have c1 := saleroomref07_Cost_sem σ x.p w hx hw n (by omega)
  obtain ⟨⟨a, b, c, d, e, f⟩, ⟨a', b', c', d', e', f'⟩⟩ := x
  generalize costW ⟨a, b, c, d, e, f⟩ w = y at *
  simp only [n_saleroomref07_Cost, W6.pv] at c1
  simp only [evalF, tab_saleroomref36_Cost, Option.bind_some, Sys.run, W6.pv, Ch.row, List.cons_append, List.nil_append]
  show ((bindPs [.sh (.agg [_, _, _, _, _, _, _, _, _, _, _, _]), .sh (.agg [_, _, _, _, _, _])] _).bind _) = _
  simp only [bindPs, bind1, bindK, Option.map_some, Option.bind_some, List.append_nil, List.nil_append, List.cons_append, if_true]
  show (PT.ev _ saleroomref36_Cost_s _).bind _ = _
  simp -implicitDefEqProofs only [saleroomref36_Cost_s, ↓reduceIte, PT.ev, BE.safe, BE.pe, IE.pe, PEnv.at, List.getD_cons_zero, List.getD_cons_succ, List.getElem?_cons_zero, List.getElem?_cons_succ, locOf, locOn, readLoc, takeN, Nat.add_zero, List.drop_zero, List.length_cons, List.length_nil, Nat.reduceAdd, Nat.le_refl, if_true, if_false, Bool.false_eq_true, List.take_succ_cons, List.take_zero, bindK, bindRes, bind1, Option.map_some, Option.bind_some, PEnv.push, List.cons_append, List.nil_append, List.append_nil, SV.pvs, SV.pv, BE.all, Bool.and_self, Bool.not_true, Bool.not_false, List.map_cons, List.map_nil, retP, or_true, c1]
theorem gain0_sem (σ : List MO) (x y : Ch) (hx : x.ok) (hy : y.ok) (n : Nat) (hn : 2 ≤ n) : evalF Tab n n_revealed_gain [.agg x.row, .agg y.row] σ = some (.int .i64 (gainC x y), σ) := by
  obtain ⟨n, rfl⟩ : ∃ k, n = k + 1 := ⟨n - 1, by omega⟩
  have c1 := bundle_Cost_sem σ x.p y.w hx.1 hy.2 n (by omega)
  have c2 := bundle_Cost_sem σ x.p x.w hx.1 hx.2 n (by omega)
  have b1 := cost_bd hx.1 hy.2
  have b2 := cost_bd hx.1 hx.2
  simp only [gainC]
  generalize costW x.p y.w = u at *
  generalize costW x.p x.w = v at *
  obtain ⟨⟨a, b, c, d, e, f⟩, ⟨a', b', c', d', e', f'⟩⟩ := x
  obtain ⟨⟨a1, b1', c1', d1, e1, f1⟩, ⟨a1', b1'', c1'', d1', e1', f1'⟩⟩ := y
  simp only [n_bundle_Cost, W6.pv] at c1 c2
  simp only [evalF, tab_revealed_gain, Option.bind_some, Sys.run, W6.pv, Ch.row, List.cons_append, List.nil_append]
  show ((bindPs [.sh (.agg [_, _, _, _, _, _, _, _, _, _, _, _]), .sh (.agg [_, _, _, _, _, _, _, _, _, _, _, _])] _).bind _) = _
  simp only [bindPs, bind1, bindK, Option.map_some, Option.bind_some, List.append_nil, List.nil_append, List.cons_append, if_true]
  show (PT.ev _ revealed_gain_s _).bind _ = _
  have q : (leB (-9223372036854775808) (u - v) && leB (u - v) 9223372036854775807) = true := by simp [leB]; omega
  simp -implicitDefEqProofs only [revealed_gain_s, ↓reduceIte, PT.ev, BE.safe, BE.pe, IE.pe, PEnv.at, List.getD_cons_zero, List.getD_cons_succ, List.getElem?_cons_zero, List.getElem?_cons_succ, locOf, locOn, readLoc, takeN, Nat.add_zero, List.drop_zero, List.length_cons, List.length_nil, Nat.reduceAdd, Nat.le_refl, if_true, if_false, Bool.false_eq_true, List.take_succ_cons, List.take_zero, bindK, bindRes, bind1, Option.map_some, Option.bind_some, PEnv.push, List.cons_append, List.nil_append, List.append_nil, SV.pvs, SV.pv, BE.all, Bool.and_self, Bool.not_true, Bool.not_false, List.map_cons, List.map_nil, retP, or_true, c1, c2, if_pos q]
def gainV (x y : Ch) : Int := if x.ok ∧ y.ok then gainC x y else 0
theorem gain_sem (σ : List MO) (x y : Ch) (n : Nat) (hn : 3 ≤ n) : evalF Tab n n_revealed_Gain [.agg x.row, .agg y.row] σ = some (.int .i64 (gainV x y), σ) := by
  obtain ⟨n, rfl⟩ : ∃ k, n = k + 1 := ⟨n - 1, by omega⟩
  have c1 := valid_sem σ x n (by omega)
  have c2 := valid_sem σ y n (by omega)
  have c3 := fun h1 h2 => gain0_sem σ x y h1 h2 n (by omega)
  by_cases hx : x.ok
  · rw [decide_eq_true hx] at c1
    by_cases hy : y.ok
    · rw [decide_eq_true hy] at c2
      have c3 := c3 hx hy
      have hg : gainV x y = gainC x y := if_pos ⟨hx, hy⟩
      rw [hg]
      generalize gainC x y = u at *
      clear hg hx hy
      obtain ⟨⟨a, b, c, d, e, f⟩, ⟨a', b', c', d', e', f'⟩⟩ := x
      obtain ⟨⟨a1, b1', c1', d1, e1, f1⟩, ⟨a1', b1'', c1'', d1', e1', f1'⟩⟩ := y
      simp only [n_revealed_valid, n_revealed_gain, W6.pv, Ch.row, List.cons_append, List.nil_append] at c1 c2 c3
      simp only [evalF, tab_revealed_Gain, Option.bind_some, Sys.run, W6.pv, Ch.row, List.cons_append, List.nil_append]
      show ((bindPs [.sh (.agg [_, _, _, _, _, _, _, _, _, _, _, _]), .sh (.agg [_, _, _, _, _, _, _, _, _, _, _, _])] _).bind _) = _
      simp only [bindPs, bind1, bindK, Option.map_some, Option.bind_some, List.append_nil, List.nil_append, List.cons_append, if_true]
      show (PT.ev _ revealed_Gain_s _).bind _ = _
      simp -implicitDefEqProofs only [revealed_Gain_s, ↓reduceIte, PT.ev, BE.safe, BE.pe, IE.pe, PEnv.at, List.getD_cons_zero, List.getD_cons_succ, List.getElem?_cons_zero, List.getElem?_cons_succ, locOf, locOn, readLoc, takeN, Nat.add_zero, List.drop_zero, List.length_cons, List.length_nil, Nat.reduceAdd, Nat.le_refl, if_true, if_false, Bool.false_eq_true, List.take_succ_cons, List.take_zero, bindK, bindRes, bind1, Option.map_some, Option.bind_some, PEnv.push, List.cons_append, List.nil_append, List.append_nil, SV.pvs, SV.pv, BE.all, Bool.and_self, Bool.not_true, Bool.not_false, List.map_cons, List.map_nil, retP, or_true, c1, c2, c3]
    · rw [decide_eq_false hy] at c2
      have hg : gainV x y = 0 := if_neg (fun h => hy h.2)
      rw [hg]
      clear hg hx hy c3
      obtain ⟨⟨a, b, c, d, e, f⟩, ⟨a', b', c', d', e', f'⟩⟩ := x
      obtain ⟨⟨a1, b1', c1', d1, e1, f1⟩, ⟨a1', b1'', c1'', d1', e1', f1'⟩⟩ := y
      simp only [n_revealed_valid, W6.pv, Ch.row, List.cons_append, List.nil_append] at c1 c2
      simp only [evalF, tab_revealed_Gain, Option.bind_some, Sys.run, W6.pv, Ch.row, List.cons_append, List.nil_append]
      show ((bindPs [.sh (.agg [_, _, _, _, _, _, _, _, _, _, _, _]), .sh (.agg [_, _, _, _, _, _, _, _, _, _, _, _])] _).bind _) = _
      simp only [bindPs, bind1, bindK, Option.map_some, Option.bind_some, List.append_nil, List.nil_append, List.cons_append, if_true]
      show (PT.ev _ revealed_Gain_s _).bind _ = _
      simp -implicitDefEqProofs only [revealed_Gain_s, ↓reduceIte, PT.ev, BE.safe, BE.pe, IE.pe, PEnv.at, List.getD_cons_zero, List.getD_cons_succ, List.getElem?_cons_zero, List.getElem?_cons_succ, locOf, locOn, readLoc, takeN, Nat.add_zero, List.drop_zero, List.length_cons, List.length_nil, Nat.reduceAdd, Nat.le_refl, if_true, if_false, Bool.false_eq_true, List.take_succ_cons, List.take_zero, bindK, bindRes, bind1, Option.map_some, Option.bind_some, PEnv.push, List.cons_append, List.nil_append, List.append_nil, SV.pvs, SV.pv, BE.all, Bool.and_self, Bool.not_true, Bool.not_false, List.map_cons, List.map_nil, retP, or_true, c1, c2]
  · rw [decide_eq_false hx] at c1
    have hg : gainV x y = 0 := if_neg (fun h => hx h.1)
    rw [hg]
    clear hg hx c2 c3
    obtain ⟨⟨a, b, c, d, e, f⟩, ⟨a', b', c', d', e', f'⟩⟩ := x
    obtain ⟨⟨a1, b1', c1', d1, e1, f1⟩, ⟨a1', b1'', c1'', d1', e1', f1'⟩⟩ := y
    simp only [n_revealed_valid, W6.pv, Ch.row, List.cons_append, List.nil_append] at c1
    simp only [evalF, tab_revealed_Gain, Option.bind_some, Sys.run, W6.pv, Ch.row, List.cons_append, List.nil_append]
    show ((bindPs [.sh (.agg [_, _, _, _, _, _, _, _, _, _, _, _]), .sh (.agg [_, _, _, _, _, _, _, _, _, _, _, _])] _).bind _) = _
    simp only [bindPs, bind1, bindK, Option.map_some, Option.bind_some, List.append_nil, List.nil_append, List.cons_append, if_true]
    show (PT.ev _ revealed_Gain_s _).bind _ = _
    simp -implicitDefEqProofs only [revealed_Gain_s, ↓reduceIte, PT.ev, BE.safe, BE.pe, IE.pe, PEnv.at, List.getD_cons_zero, List.getD_cons_succ, List.getElem?_cons_zero, List.getElem?_cons_succ, locOf, locOn, readLoc, takeN, Nat.add_zero, List.drop_zero, List.length_cons, List.length_nil, Nat.reduceAdd, Nat.le_refl, if_true, if_false, Bool.false_eq_true, List.take_succ_cons, List.take_zero, bindK, bindRes, bind1, Option.map_some, Option.bind_some, PEnv.push, List.cons_append, List.nil_append, List.append_nil, SV.pvs, SV.pv, BE.all, Bool.and_self, Bool.not_true, Bool.not_false, List.map_cons, List.map_nil, retP, or_true, c1]
theorem rgain_sem (σ : List MO) (x y : Ch) (n : Nat) (hn : 4 ≤ n) : evalF Tab n n_saleroomref36_Gain [.agg x.row, .agg y.row] σ = some (.int .i64 (gainV x y), σ) := by
  obtain ⟨n, rfl⟩ : ∃ k, n = k + 1 := ⟨n - 1, by omega⟩
  have c1 := rvalid_sem σ x n (by omega)
  have c2 := rvalid_sem σ y n (by omega)
  by_cases hx : x.ok
  · rw [decide_eq_true hx] at c1
    by_cases hy : y.ok
    · rw [decide_eq_true hy] at c2
      have c3 := rcost_sem σ x hx.1 y.w hy.2 n (by omega)
      have c4 := rcost_sem σ x hx.1 x.w hx.2 n (by omega)
      have b1 := cost_bd hx.1 hy.2
      have b2 := cost_bd hx.1 hx.2
      have hg : gainV x y = costW x.p y.w - costW x.p x.w := if_pos ⟨hx, hy⟩
      rw [hg]
      generalize costW x.p y.w = u at *
      generalize costW x.p x.w = v at *
      have q : (leB (-9223372036854775808) (u - v) && leB (u - v) 9223372036854775807) = true := by simp [leB]; omega
      clear hg hx hy
      obtain ⟨⟨a, b, c, d, e, f⟩, ⟨a', b', c', d', e', f'⟩⟩ := x
      obtain ⟨⟨a1, b1', c1', d1, e1, f1⟩, ⟨a1', b1'', c1'', d1', e1', f1'⟩⟩ := y
      simp only [n_saleroomref36_Valid, n_saleroomref36_Cost, W6.pv, Ch.row, List.cons_append, List.nil_append] at c1 c2 c3 c4
      simp only [evalF, tab_saleroomref36_Gain, Option.bind_some, Sys.run, W6.pv, Ch.row, List.cons_append, List.nil_append]
      show ((bindPs [.sh (.agg [_, _, _, _, _, _, _, _, _, _, _, _]), .sh (.agg [_, _, _, _, _, _, _, _, _, _, _, _])] _).bind _) = _
      simp only [bindPs, bind1, bindK, Option.map_some, Option.bind_some, List.append_nil, List.nil_append, List.cons_append, if_true]
      show (PT.ev _ saleroomref36_Gain_s _).bind _ = _
      simp -implicitDefEqProofs only [saleroomref36_Gain_s, ↓reduceIte, PT.ev, BE.safe, BE.pe, IE.pe, PEnv.at, List.getD_cons_zero, List.getD_cons_succ, List.getElem?_cons_zero, List.getElem?_cons_succ, locOf, locOn, readLoc, takeN, Nat.add_zero, List.drop_zero, List.length_cons, List.length_nil, Nat.reduceAdd, Nat.le_refl, if_true, if_false, Bool.false_eq_true, List.take_succ_cons, List.take_zero, bindK, bindRes, bind1, Option.map_some, Option.bind_some, PEnv.push, List.cons_append, List.nil_append, List.append_nil, SV.pvs, SV.pv, BE.all, Bool.and_self, Bool.not_true, Bool.not_false, List.map_cons, List.map_nil, retP, or_true, c1, c2, c3, c4, if_pos q]
    · rw [decide_eq_false hy] at c2
      have hg : gainV x y = 0 := if_neg (fun h => hy h.2)
      rw [hg]
      clear hg hx hy
      obtain ⟨⟨a, b, c, d, e, f⟩, ⟨a', b', c', d', e', f'⟩⟩ := x
      obtain ⟨⟨a1, b1', c1', d1, e1, f1⟩, ⟨a1', b1'', c1'', d1', e1', f1'⟩⟩ := y
      simp only [n_saleroomref36_Valid, W6.pv, Ch.row, List.cons_append, List.nil_append] at c1 c2
      simp only [evalF, tab_saleroomref36_Gain, Option.bind_some, Sys.run, W6.pv, Ch.row, List.cons_append, List.nil_append]
      show ((bindPs [.sh (.agg [_, _, _, _, _, _, _, _, _, _, _, _]), .sh (.agg [_, _, _, _, _, _, _, _, _, _, _, _])] _).bind _) = _
      simp only [bindPs, bind1, bindK, Option.map_some, Option.bind_some, List.append_nil, List.nil_append, List.cons_append, if_true]
      show (PT.ev _ saleroomref36_Gain_s _).bind _ = _
      simp -implicitDefEqProofs only [saleroomref36_Gain_s, ↓reduceIte, PT.ev, BE.safe, BE.pe, IE.pe, PEnv.at, List.getD_cons_zero, List.getD_cons_succ, List.getElem?_cons_zero, List.getElem?_cons_succ, locOf, locOn, readLoc, takeN, Nat.add_zero, List.drop_zero, List.length_cons, List.length_nil, Nat.reduceAdd, Nat.le_refl, if_true, if_false, Bool.false_eq_true, List.take_succ_cons, List.take_zero, bindK, bindRes, bind1, Option.map_some, Option.bind_some, PEnv.push, List.cons_append, List.nil_append, List.append_nil, SV.pvs, SV.pv, BE.all, Bool.and_self, Bool.not_true, Bool.not_false, List.map_cons, List.map_nil, retP, or_true, c1, c2]
  · rw [decide_eq_false hx] at c1
    have hg : gainV x y = 0 := if_neg (fun h => hx h.1)
    rw [hg]
    clear hg hx c2
    obtain ⟨⟨a, b, c, d, e, f⟩, ⟨a', b', c', d', e', f'⟩⟩ := x
    obtain ⟨⟨a1, b1', c1', d1, e1, f1⟩, ⟨a1', b1'', c1'', d1', e1', f1'⟩⟩ := y
    simp only [n_saleroomref36_Valid, W6.pv, Ch.row, List.cons_append, List.nil_append] at c1
    simp only [evalF, tab_saleroomref36_Gain, Option.bind_some, Sys.run, W6.pv, Ch.row, List.cons_append, List.nil_append]
    show ((bindPs [.sh (.agg [_, _, _, _, _, _, _, _, _, _, _, _]), .sh (.agg [_, _, _, _, _, _, _, _, _, _, _, _])] _).bind _) = _
    simp only [bindPs, bind1, bindK, Option.map_some, Option.bind_some, List.append_nil, List.nil_append, List.cons_append, if_true]
    show (PT.ev _ saleroomref36_Gain_s _).bind _ = _
    simp -implicitDefEqProofs only [saleroomref36_Gain_s, ↓reduceIte, PT.ev, BE.safe, BE.pe, IE.pe, PEnv.at, List.getD_cons_zero, List.getD_cons_succ, List.getElem?_cons_zero, List.getElem?_cons_succ, locOf, locOn, readLoc, takeN, Nat.add_zero, List.drop_zero, List.length_cons, List.length_nil, Nat.reduceAdd, Nat.le_refl, if_true, if_false, Bool.false_eq_true, List.take_succ_cons, List.take_zero, bindK, bindRes, bind1, Option.map_some, Option.bind_some, PEnv.push, List.cons_append, List.nil_append, List.append_nil, SV.pvs, SV.pv, BE.all, Bool.and_self, Bool.not_true, Bool.not_false, List.map_cons, List.map_nil, retP, or_true, c1]
theorem gains_true (x y : Ch) (n : Nat) (hn : 10 ≤ n) (haw : evalF Tab n n_saleroomlaw36_lives [] [] = some (.bool true, [])) : evalF Tab (n + 1) n_saleroomlaw36_RevealedGains [.agg x.row, .agg y.row] [] = some (.bool true, []) := by
  have c1 := gain_sem [] x y n (by omega)
  have c2 := rgain_sem [] x y n (by omega)
  generalize gainV x y = u at *
  obtain ⟨⟨a, b, c, d, e, f⟩, ⟨a', b', c', d', e', f'⟩⟩ := x
  obtain ⟨⟨a1, b1', c1', d1, e1, f1⟩, ⟨a1', b1'', c1'', d1', e1', f1'⟩⟩ := y
  simp only [n_revealed_Gain, n_saleroomref36_Gain, n_saleroomlaw36_lives, W6.pv, Ch.row, List.cons_append, List.nil_append] at c1 c2 haw
  simp only [evalF, tab_saleroomlaw36_RevealedGains, Option.bind_some, Sys.run, W6.pv, Ch.row, List.cons_append, List.nil_append]
  show ((bindPs [.sh (.agg [_, _, _, _, _, _, _, _, _, _, _, _]), .sh (.agg [_, _, _, _, _, _, _, _, _, _, _, _])] _).bind _) = _
  simp only [bindPs, bind1, bindK, Option.map_some, Option.bind_some, List.append_nil, List.nil_append, List.cons_append, if_true]
  show (PT.ev _ saleroomlaw36_RevealedGains_s _).bind _ = _
  simp -implicitDefEqProofs only [saleroomlaw36_RevealedGains_s, ↓reduceIte, PT.ev, BE.safe, BE.pe, IE.pe, PEnv.at, List.getD_cons_zero, List.getD_cons_succ, List.getElem?_cons_zero, List.getElem?_cons_succ, locOf, locOn, readLoc, takeN, Nat.add_zero, List.drop_zero, List.length_cons, List.length_nil, Nat.reduceAdd, Nat.le_refl, if_true, if_false, Bool.false_eq_true, List.take_succ_cons, List.take_zero, bindK, bindRes, bind1, Option.map_some, Option.bind_some, PEnv.push, List.cons_append, List.nil_append, List.append_nil, SV.pvs, SV.pv, BE.all, Bool.and_self, Bool.not_true, Bool.not_false, List.map_cons, List.map_nil, retP, or_true, c1, c2, eqB_self, haw]
end Go.Proofs.Ythjahianafohjaa
