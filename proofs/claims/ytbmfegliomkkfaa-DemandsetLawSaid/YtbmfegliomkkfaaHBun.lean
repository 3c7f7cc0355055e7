/- Bundles, as six integers: plain. -/
import Derived.Test.YtbmfegliomkkfaaHSxO
namespace Go.Bun
open Go.Sx

structure Bd where
  a : Int
  b : Int
  c : Int
  d : Int
  e : Int
  f : Int
  deriving DecidableEq, Inhabited, Repr
namespace Bd
def l (x : Bd) : List Int := [x.a, x.b, x.c, x.d, x.e, x.f]
def cs (x : Bd) : List Value := [.int .i64 x.a, .int .i64 x.b, .int .i64 x.c, .int .i64 x.d, .int .i64 x.e, .int .i64 x.f]
def v (x : Bd) : Value := .agg #[.int .i64 x.a, .int .i64 x.b, .int .i64 x.c, .int .i64 x.d, .int .i64 x.e, .int .i64 x.f]
def zero : Bd := ⟨0, 0, 0, 0, 0, 0⟩
def all (p : Int → Prop) (x : Bd) : Prop := p x.a ∧ p x.b ∧ p x.c ∧ p x.d ∧ p x.e ∧ p x.f
def map (g : Int → Int) (x : Bd) : Bd := ⟨g x.a, g x.b, g x.c, g x.d, g x.e, g x.f⟩
def map2 (g : Int → Int → Int) (x y : Bd) : Bd := ⟨g x.a y.a, g x.b y.b, g x.c y.c, g x.d y.d, g x.e y.e, g x.f y.f⟩
/-- Every quantity is from 0 to 4. -/
def Ok (x : Bd) : Prop := (0 ≤ x.a ∧ x.a ≤ 4) ∧ (0 ≤ x.b ∧ x.b ≤ 4) ∧ (0 ≤ x.c ∧ x.c ≤ 4) ∧ (0 ≤ x.d ∧ x.d ≤ 4) ∧ (0 ≤ x.e ∧ x.e ≤ 4) ∧ (0 ≤ x.f ∧ x.f ≤ 4)
instance (x : Bd) : Decidable x.Ok := by unfold Ok; exact inferInstance
def check (x : Bd) : Int := if x.Ok then 0 else 4
def meet (x y : Bd) : Bd := map2 mnI x y
def join (x y : Bd) : Bd := map2 mxI x y
def Le (x y : Bd) : Prop := x.a ≤ y.a ∧ x.b ≤ y.b ∧ x.c ≤ y.c ∧ x.d ≤ y.d ∧ x.e ≤ y.e ∧ x.f ≤ y.f
instance (x y : Bd) : Decidable (Le x y) := by unfold Le; exact inferInstance
def add (x y : Bd) : Bd := map2 (· + ·) x y
def sub (x y : Bd) : Bd := map2 (· - ·) x y
def total (x : Bd) : Int := x.a + x.b + x.c + x.d + x.e + x.f
def cost (p x : Bd) : Int := p.a * x.a + p.b * x.b + p.c * x.c + p.d * x.d + p.e * x.e + p.f * x.f
def cmpL : List Int → List Int → Int
  | x :: l, y :: m => if x < y then -1 else if y < x then 1 else cmpL l m
  | _, _ => 0
def compare (x y : Bd) : Int := cmpL x.l y.l
def Mod (x : Bd) : Prop := x.all fun n => -1000000 ≤ n ∧ n ≤ 1000000
def fits (x : Bd) : Prop := x.all fun n => -9223372036854775808 ≤ n ∧ n ≤ 9223372036854775807
def count (x : Bd) : Int := if x.Ok then
  (let n := (x.a + 1) * (x.b + 1) * (x.c + 1) * (x.d + 1) * (x.e + 1) * (x.f + 1); if 1024 < n then 0 else n) else 0
end Bd
theorem mnI_of (x y : Int) : mnI x y = if y < x then y else x := rfl
theorem mxI_of (x y : Int) : mxI x y = if x < y then y else x := rfl
end Go.Bun
namespace Go.Bun
open Go.Sx
theorem mulB {x y A B : Int} (hx : 0 ≤ x ∧ x ≤ A) (hy : 0 ≤ y ∧ y ≤ B) : 0 ≤ x * y ∧ x * y ≤ A * B :=
  ⟨Int.mul_nonneg hx.1 hy.1, Int.mul_le_mul hx.2 hy.2 hy.1 (Int.le_trans hx.1 hx.2)⟩
theorem mulS {x y A B : Int} (hx : -A ≤ x ∧ x ≤ A) (hy : -B ≤ y ∧ y ≤ B) : -(A * B) ≤ x * y ∧ x * y ≤ A * B := by
  have hB : 0 ≤ B := by omega
  rcases Int.le_total 0 x with h1 | h1 <;> rcases Int.le_total 0 y with h2 | h2
  · have := mulB (x := x) (y := y) (A := A) (B := B) ⟨h1, hx.2⟩ ⟨h2, hy.2⟩; omega
  · have := mulB (x := x) (y := -y) (A := A) (B := B) ⟨h1, hx.2⟩ ⟨by omega, by omega⟩; rw [Int.mul_neg] at this; omega
  · have := mulB (x := -x) (y := y) (A := A) (B := B) ⟨by omega, by omega⟩ ⟨h2, hy.2⟩; rw [Int.neg_mul] at this; omega
  · have := mulB (x := -x) (y := -y) (A := A) (B := B) ⟨by omega, by omega⟩ ⟨by omega, by omega⟩; rw [Int.neg_mul_neg] at this; omega
theorem tdivB {x y : Int} (hx : 0 ≤ x) (hy : 0 < y) : 0 ≤ x.tdiv y ∧ x.tdiv y ≤ x := by
  rw [Int.tdiv_eq_ediv_of_nonneg hx]
  exact ⟨Int.ediv_nonneg hx (by omega), Int.ediv_le_self _ hx⟩
namespace Bd
def prod (x : Bd) : Int := 1 * (x.a + 1) * (x.b + 1) * (x.c + 1) * (x.d + 1) * (x.e + 1) * (x.f + 1)
def cnt (x : Bd) : Int := if x.Ok then (if 1024 < x.prod then 0 else x.prod) else 0
def horner (s b : Bd) : Int := (((((0 * (s.a + 1) + b.a) * (s.b + 1) + b.b) * (s.c + 1) + b.c) * (s.d + 1) + b.d) * (s.e + 1) + b.e) * (s.f + 1) + b.f
def rank (s b : Bd) : Int × Int := if s.cnt ≠ 0 ∧ b.Ok ∧ b.Le s then (horner s b, 0) else (0, 4)
def unr (s : Bd) (n : Int) : Bd :=
  ⟨((((((n.tdiv (s.f + 1)).tdiv (s.e + 1)).tdiv (s.d + 1)).tdiv (s.c + 1)).tdiv (s.b + 1)).tmod (s.a + 1)), (((((n.tdiv (s.f + 1)).tdiv (s.e + 1)).tdiv (s.d + 1)).tdiv (s.c + 1)).tmod (s.b + 1)),
   ((((n.tdiv (s.f + 1)).tdiv (s.e + 1)).tdiv (s.d + 1)).tmod (s.c + 1)), (((n.tdiv (s.f + 1)).tdiv (s.e + 1)).tmod (s.d + 1)), ((n.tdiv (s.f + 1)).tmod (s.e + 1)), n.tmod (s.f + 1)⟩
def unrank (s : Bd) (n : Int) : Bd × Int := if 0 ≤ n ∧ n < s.cnt then (unr s n, 0) else (zero, 4)
theorem ok_of_cnt {s : Bd} (h : s.cnt ≠ 0) : s.Ok := by
  unfold cnt at h
  split at h
  · assumption
  · exact absurd rfl h
theorem check_zero {s : Bd} : s.check = 0 ↔ s.Ok := by
  unfold check
  split <;> simp [*]
end Bd
end Go.Bun
namespace Go.Bun
open Go.Sx
theorem Bd.ofI {zs : List Int} (h : okI (List.replicate 6 [.int .i64]).flatten zs) : ∃ b : Bd, Value.agg (cellsI (List.replicate 6 [.int .i64]).flatten zs).toArray = b.v ∧ b.fits := by
  match zs, h with
  | [a, b, c, d, e, f], h =>
    refine ⟨⟨a, b, c, d, e, f⟩, rfl, ?_⟩
    simp only [List.replicate_succ, List.replicate_zero, List.flatten_cons, List.flatten_nil, List.append_nil, List.cons_append, List.nil_append, okI, loI, hiI, IntKind.signed, IntKind.bits] at h
    unfold Bd.fits Bd.all
    simp only [and_true, if_true] at h ⊢
    obtain ⟨h1, h2, h3, h4, h5, h6, h7, h8, h9, h10, h11, h12⟩ := h
    refine ⟨⟨?_, ?_⟩, ⟨?_, ?_⟩, ⟨?_, ?_⟩, ⟨?_, ?_⟩, ⟨?_, ?_⟩, ⟨?_, ?_⟩⟩ <;> omega
end Go.Bun
