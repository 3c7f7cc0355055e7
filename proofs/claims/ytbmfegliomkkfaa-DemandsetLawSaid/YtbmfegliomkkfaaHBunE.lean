/- A higher price: plain. -/
import Derived.Test.YtbmfegliomkkfaaHBunD
namespace Go.Bun
open Go.Sx
def Bd.at (x : Bd) : Nat → Int
  | 0 => x.a | 1 => x.b | 2 => x.c | 3 => x.d | 4 => x.e | 5 => x.f | _ => 0
def Bd.bump (x : Bd) (r : Int) : Nat → Bd
  | 0 => ⟨x.a + r, x.b, x.c, x.d, x.e, x.f⟩ | 1 => ⟨x.a, x.b + r, x.c, x.d, x.e, x.f⟩ | 2 => ⟨x.a, x.b, x.c + r, x.d, x.e, x.f⟩
  | 3 => ⟨x.a, x.b, x.c, x.d + r, x.e, x.f⟩ | 4 => ⟨x.a, x.b, x.c, x.d, x.e + r, x.f⟩ | 5 => ⟨x.a, x.b, x.c, x.d, x.e, x.f + r⟩ | _ => x
theorem cost_bump (p b : Bd) (r : Int) : ∀ j, (p.bump r j).cost b = p.cost b + r * b.at j
  | 0 | 1 | 2 | 3 | 4 | 5 => by simp only [Bd.cost, Bd.bump, Bd.at, Int.add_mul]; omega
  | n + 6 => by simp [Bd.bump, Bd.at]
theorem demand_law (L : List Of) (S p : Bd) (r : Int) (hr : 0 < r) (j : Nat) (hp : pok p) (hq : pok (p.bump r j)) : (best L S (p.bump r j)).1.at j ≤ (best L S p).1.at j := by
  by_cases hS : S.list = []
  · rw [best_nil _ _ _ hS, best_nil _ _ _ hS]; exact Int.le_refl _
  · obtain ⟨_, _, h1, _, h3, h4⟩ := demand_spec L S p hp hS
    obtain ⟨_, _, k1, _, k3, k4⟩ := demand_spec L S (p.bump r j) hq hS
    have e1 := h3 _ k4
    have e2 := k3 _ h4
    rw [← h1] at e1
    rw [← k1] at e2
    unfold util at e1 e2
    rw [cost_bump, cost_bump] at e2
    generalize (best L S (p.bump r j)).1 = c at *
    generalize (best L S p).1 = b at *
    have : r * c.at j ≤ r * b.at j := by omega
    exact Int.le_of_mul_le_mul_left this hr
structure Ch where
  p : Bd
  w : Bd
def Ch.cs (x : Ch) : List Value := x.p.cs ++ x.w.cs
def path (L : List Of) (S : Bd) (P : List Bd) : List Ch := P.map fun p => ⟨p, (best L S p).1⟩
end Go.Bun
