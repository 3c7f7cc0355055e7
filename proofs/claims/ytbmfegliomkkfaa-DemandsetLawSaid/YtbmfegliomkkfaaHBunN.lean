/- The bundle behind another one, in the order of ranks: plain. -/
import Derived.Test.YtbmfegliomkkfaaHBunM
namespace Go.Bun
open Go.Sx
def Bd.next (s b : Bd) : Bd :=
  if b.f < s.f then ⟨b.a, b.b, b.c, b.d, b.e, b.f + 1⟩
  else if b.e < s.e then ⟨b.a, b.b, b.c, b.d, b.e + 1, 0⟩
  else if b.d < s.d then ⟨b.a, b.b, b.c, b.d + 1, 0, 0⟩
  else if b.c < s.c then ⟨b.a, b.b, b.c + 1, 0, 0, 0⟩
  else if b.b < s.b then ⟨b.a, b.b + 1, 0, 0, 0, 0⟩
  else if b.a < s.a then ⟨b.a + 1, 0, 0, 0, 0, 0⟩
  else Bd.zero
theorem carry (A m : Nat) : (A + 1) * (m + 1) + 0 = A * (m + 1) + m + 1 := by rw [Nat.add_mul]; omega

theorem hN_def (b c d e f u v w x y z : Nat) : hN b c d e f u v w x y z = ((((u * (b + 1) + v) * (c + 1) + w) * (d + 1) + x) * (e + 1) + y) * (f + 1) + z := rfl
theorem next_nat {a b c d e f u v w x y z : Nat} (hu : u ≤ a) (hv : v ≤ b) (hw : w ≤ c) (hx : x ≤ d) (hy : y ≤ e) (hz : z ≤ f) :
    (hN b c d e f u v w x y z + 1 < nprod a b c d e f ∧ ∃ u' v' w' x' y' z' : Nat, (nB a b c d e f).next (nB u v w x y z) = nB u' v' w' x' y' z' ∧ u' ≤ a ∧ v' ≤ b ∧ w' ≤ c ∧ x' ≤ d ∧ y' ≤ e ∧ z' ≤ f ∧ hN b c d e f u' v' w' x' y' z' = hN b c d e f u v w x y z + 1) ∨
    (hN b c d e f u v w x y z + 1 = nprod a b c d e f ∧ (nB a b c d e f).next (nB u v w x y z) = Bd.zero) := by
  have hlt : ∀ u' v' w' x' y' z', u' ≤ a → v' ≤ b → w' ≤ c → x' ≤ d → y' ≤ e → z' ≤ f → hN b c d e f u' v' w' x' y' z' < nprod a b c d e f := by
    intro u' v' w' x' y' z' h1 h2 h3 h4 h5 h6
    have k1 : u' * (b + 1) + v' < (a + 1) * (b + 1) := by have := Nat.mul_le_mul_right (b + 1) h1; rw [Nat.add_mul]; omega
    have k2 : (u' * (b + 1) + v') * (c + 1) + w' < (a + 1) * (b + 1) * (c + 1) := by have := Nat.mul_le_mul_right (c + 1) k1; rw [Nat.succ_mul] at this; omega
    have k3 := Nat.mul_le_mul_right (d + 1) k2
    rw [Nat.succ_mul] at k3
    have k3' : ((u' * (b + 1) + v') * (c + 1) + w') * (d + 1) + x' < (a + 1) * (b + 1) * (c + 1) * (d + 1) := by omega
    have k4 := Nat.mul_le_mul_right (e + 1) k3'
    rw [Nat.succ_mul] at k4
    have k4' : (((u' * (b + 1) + v') * (c + 1) + w') * (d + 1) + x') * (e + 1) + y' < (a + 1) * (b + 1) * (c + 1) * (d + 1) * (e + 1) := by omega
    have k5 := Nat.mul_le_mul_right (f + 1) k4'
    rw [Nat.succ_mul] at k5
    rw [hN_def]; unfold nprod; omega
  have mk : ∀ u' v' w' x' y' z' : Nat, u' ≤ a → v' ≤ b → w' ≤ c → x' ≤ d → y' ≤ e → z' ≤ f → (nB a b c d e f).next (nB u v w x y z) = nB u' v' w' x' y' z' → hN b c d e f u' v' w' x' y' z' = hN b c d e f u v w x y z + 1 →
      (hN b c d e f u v w x y z + 1 < nprod a b c d e f ∧ ∃ u' v' w' x' y' z' : Nat, (nB a b c d e f).next (nB u v w x y z) = nB u' v' w' x' y' z' ∧ u' ≤ a ∧ v' ≤ b ∧ w' ≤ c ∧ x' ≤ d ∧ y' ≤ e ∧ z' ≤ f ∧ hN b c d e f u' v' w' x' y' z' = hN b c d e f u v w x y z + 1) := by
    intro u' v' w' x' y' z' h1 h2 h3 h4 h5 h6 h7 h8
    have := hlt u' v' w' x' y' z' h1 h2 h3 h4 h5 h6
    exact ⟨by omega, u', v', w', x', y', z', h7, h1, h2, h3, h4, h5, h6, h8⟩
  have nx : (nB a b c d e f).next (nB u v w x y z) = if z < f then nB u v w x y (z + 1) else if y < e then nB u v w x (y + 1) 0 else if x < d then nB u v w (x + 1) 0 0 else if w < c then nB u v (w + 1) 0 0 0 else if v < b then nB u (v + 1) 0 0 0 0 else if u < a then nB (u + 1) 0 0 0 0 0 else Bd.zero := by
    simp only [Bd.next, nB, Int.ofNat_lt, Int.natCast_add, Int.cast_ofNat_Int]
  by_cases c6 : z < f
  · exact .inl (mk u v w x y (z + 1) hu hv hw hx hy (by omega) (by rw [nx, if_pos c6]) rfl)
  obtain rfl : z = f := by omega
  by_cases c5 : y < e
  · exact .inl (mk u v w x (y + 1) 0 hu hv hw hx (by omega) (by omega) (by rw [nx, if_neg c6, if_pos c5]) (by
      simp only [hN_def]; exact carry _ _))
  obtain rfl : y = e := by omega
  by_cases c4 : x < d
  · exact .inl (mk u v w (x + 1) 0 0 hu hv hw (by omega) (by omega) (by omega) (by rw [nx, if_neg c6, if_neg c5, if_pos c4]) (by
      simp only [hN_def]
      rw [show ((u * (b + 1) + v) * (c + 1) + w) * (d + 1) + (x + 1) = (((u * (b + 1) + v) * (c + 1) + w) * (d + 1) + x) + 1 from rfl, carry, carry]))
  obtain rfl : x = d := by omega
  by_cases c3 : w < c
  · exact .inl (mk u v (w + 1) 0 0 0 hu hv (by omega) (by omega) (by omega) (by omega) (by rw [nx, if_neg c6, if_neg c5, if_neg c4, if_pos c3]) (by
      simp only [hN_def]
      rw [show (u * (b + 1) + v) * (c + 1) + (w + 1) = ((u * (b + 1) + v) * (c + 1) + w) + 1 from rfl, carry, carry, carry]))
  obtain rfl : w = c := by omega
  by_cases c2 : v < b
  · exact .inl (mk u (v + 1) 0 0 0 0 hu (by omega) (by omega) (by omega) (by omega) (by omega) (by rw [nx, if_neg c6, if_neg c5, if_neg c4, if_neg c3, if_pos c2]) (by
      simp only [hN_def]
      rw [show u * (b + 1) + (v + 1) = (u * (b + 1) + v) + 1 from rfl, carry, carry, carry, carry]))
  obtain rfl : v = b := by omega
  by_cases c1 : u < a
  · exact .inl (mk (u + 1) 0 0 0 0 0 (by omega) (by omega) (by omega) (by omega) (by omega) (by omega) (by rw [nx, if_neg c6, if_neg c5, if_neg c4, if_neg c3, if_neg c2, if_pos c1]) (by
      simp only [hN_def]
      rw [carry, carry, carry, carry, carry]))
  obtain rfl : u = a := by omega
  refine .inr ⟨?_, by rw [nx, if_neg c6, if_neg c5, if_neg c4, if_neg c3, if_neg c2, if_neg c1]⟩
  have h := carry u v
  simp only [hN_def, nprod]
  rw [← carry, ← carry, ← carry, ← carry, ← carry]
  simp only [Nat.add_zero]

/-- The walk through all bundles. -/
theorem Lk_next {s : Bd} (hs : s.Ok) {n : Nat} (hn : n < (Lk s 6).length) : (Lk s 6)[n]? = some (s.unr n).l ∧
    ((n + 1 < (Lk s 6).length ∧ s.next (s.unr n) = s.unr ((n + 1 : Nat) : Int) ∧ s.next (s.unr n) ≠ Bd.zero) ∨ (n + 1 = (Lk s 6).length ∧ s.next (s.unr n) = Bd.zero)) := by
  obtain ⟨a, b, c, d, e, f, rfl⟩ := Bd.nat hs.pos
  rw [len_nat] at hn ⊢
  refine ⟨unr_get a b c d e f n hn, ?_⟩
  have hh := horner_unr a b c d e f n hn
  obtain ⟨u, v, w, x, y, z, he, hu, hv, hw, hx, hy, hz⟩ : ∃ u v w x y z : Nat, (nB a b c d e f).unr n = nB u v w x y z ∧ u ≤ a ∧ v ≤ b ∧ w ≤ c ∧ x ≤ d ∧ y ≤ e ∧ z ≤ f := by
    refine ⟨_, _, _, _, _, _, unr_nat a b c d e f n, ?_, ?_, ?_, ?_, ?_, ?_⟩ <;> exact Nat.le_of_lt_succ (Nat.mod_lt _ (by omega))
  rw [he] at hh ⊢
  rw [horner_hN] at hh
  have hh : hN b c d e f u v w x y z = n := by exact_mod_cast hh
  rcases next_nat hu hv hw hx hy hz with ⟨h1, u', v', w', x', y', z', h2, k1, k2, k3, k4, k5, k6, h3⟩ | ⟨h1, h2⟩
  · rw [hh] at h1 h3
    have h4 := unr_horner a b c d e f u' v' w' x' y' z' k1 k2 k3 k4 k5 k6
    rw [horner_hN, h3] at h4
    obtain ⟨m, e1, _, e3⟩ := h4
    have e1 : n + 1 = m := by exact_mod_cast e1
    subst e1
    refine .inl ⟨h1, by rw [h2, e3], fun h0 => ?_⟩
    rw [h2] at h0
    have e1 : nB u' v' w' x' y' z' = nB 0 0 0 0 0 0 := h0
    simp only [nB, Bd.mk.injEq, Int.natCast_inj] at e1
    obtain ⟨rfl, rfl, rfl, rfl, rfl, rfl⟩ := e1
    simp [hN_def] at h3
  · rw [hh] at h1
    exact .inr ⟨h1, h2⟩
theorem Lk_zero (s : Bd) (hs : s.Ok) : s.unr ((0 : Nat) : Int) = Bd.zero := by
  obtain ⟨a, b, c, d, e, f, rfl⟩ := Bd.nat hs.pos
  rw [unr_nat]; simp [nB, Bd.zero]
end Go.Bun
