/- Bundles, as six integers: plain. -/
import Derived.Test.YthjahianafohjaaHSyc
set_option linter.unusedSimpArgs false
set_option linter.unusedVariables false
namespace Go.Bun
open Go.Sy
structure Bd where
 a : Int
 b : Int
 c : Int
 d : Int
 e : Int
 f : Int
 deriving DecidableEq, Inhabited, Repr
namespace Bd
def l (x : Bd) : List Int := [x.a, x.b, x.c, x.d, x.e, x.f]
def cs (x : Bd) : List Value := [.int .i64 x.a, .int .i64 x.b, .int .i64 x.c, .int .i64 x.d, .int .i64 x.e, .int .i64 x.f]
def v (x : Bd) : Value := .agg #[.int .i64 x.a, .int .i64 x.b, .int .i64 x.c, .int .i64 x.d, .int .i64 x.e, .int .i64 x.f]
def zero : Bd := ⟨0, 0, 0, 0, 0, 0⟩
def all (p : Int -> Prop) (x : Bd) : Prop := p x.a /\ p x.b /\ p x.c /\ p x.d /\ p x.e /\ p x.f
def map (g : Int -> Int) (x : Bd) : Bd := ⟨g x.a, g x.b, g x.c, g x.d, g x.e, g x.f⟩
def map2 (g : Int -> Int -> Int) (x y : Bd) : Bd := ⟨g x.a y.a, g x.b y.b, g x.c y.c, g x.d y.d, g x.e y.e, g x.f y.f⟩
def Ok (x : Bd) : Prop := (0 <= x.a /\ x.a <= 4) /\ (0 <= x.b /\ x.b <= 4) /\ (0 <= x.c /\ x.c <= 4) /\ (0 <= x.d /\ x.d <= 4) /\ (0 <= x.e /\ x.e <= 4) /\ (0 <= x.f /\ x.f <= 4)
instance (x : Bd) : Decidable x.Ok := by unfold Ok; exact inferInstance
def check (x : Bd) : Int := if x.Ok then 0 else 4
def meet (x y : Bd) : Bd := map2 mnI x y
def Le (x y : Bd) : Prop := x.a <= y.a /\ x.b <= y.b /\ x.c <= y.c /\ x.d <= y.d /\ x.e <= y.e /\ x.f <= y.f
instance (x y : Bd) : Decidable (Le x y) := by unfold Le; exact inferInstance
def add (x y : Bd) : Bd := map2 (· + ·) x y
def sub (x y : Bd) : Bd := map2 (· - ·) x y
def cost (p x : Bd) : Int := p.a * x.a + p.b * x.b + p.c * x.c + p.d * x.d + p.e * x.e + p.f * x.f
def fits (x : Bd) : Prop := x.all fun n => -9223372036854775808 <= n /\ n <= 9223372036854775807
end Bd
end Go.Bun
namespace Go.Bun
open Go.Sy
theorem mulB {x y A B : Int} (hx : 0 <= x /\ x <= A) (hy : 0 <= y /\ y <= B) : 0 <= x * y /\ x * y <= A * B :=
 ⟨Int.mul_nonneg hx.1 hy.1, Int.mul_le_mul hx.2 hy.2 hy.1 (Int.le_trans hx.1 hx.2)⟩
theorem mulS {x y A B : Int} (hx : -A <= x /\ x <= A) (hy : -B <= y /\ y <= B) : -(A * B) <= x * y /\ x * y <= A * B := by
 have hB : 0 <= B := by omega
 rcases Int.le_total 0 x with h1 | h1 <;> rcases Int.le_total 0 y with h2 | h2
 ·have := mulB (x := x) (y := y) (A := A) (B := B) ⟨h1, hx.2⟩ ⟨h2, hy.2⟩; omega
 ·have := mulB (x := x) (y := -y) (A := A) (B := B) ⟨h1, hx.2⟩ ⟨by omega, by omega⟩; rw [Int.mul_neg] at this; omega
 ·have := mulB (x := -x) (y := y) (A := A) (B := B) ⟨by omega, by omega⟩ ⟨h2, hy.2⟩; rw [Int.neg_mul] at this; omega
 ·have := mulB (x := -x) (y := -y) (A := A) (B := B) ⟨by omega, by omega⟩ ⟨by omega, by omega⟩; rw [Int.neg_mul_neg] at this; omega
namespace Bd
def prod (x : Bd) : Int := 1 * (x.a + 1) * (x.b + 1) * (x.c + 1) * (x.d + 1) * (x.e + 1) * (x.f + 1)
def cnt (x : Bd) : Int := if x.Ok then (if 1024 < x.prod then 0 else x.prod) else 0
def horner (s b : Bd) : Int := (((((0 * (s.a + 1) + b.a) * (s.b + 1) + b.b) * (s.c + 1) + b.c) * (s.d + 1) + b.d) * (s.e + 1) + b.e) * (s.f + 1) + b.f
def unr (s : Bd) (n : Int) : Bd :=
 ⟨((((((n.tdiv (s.f + 1)).tdiv (s.e + 1)).tdiv (s.d + 1)).tdiv (s.c + 1)).tdiv (s.b + 1)).tmod (s.a + 1)), (((((n.tdiv (s.f + 1)).tdiv (s.e + 1)).tdiv (s.d + 1)).tdiv (s.c + 1)).tmod (s.b + 1)),
  ((((n.tdiv (s.f + 1)).tdiv (s.e + 1)).tdiv (s.d + 1)).tmod (s.c + 1)), (((n.tdiv (s.f + 1)).tdiv (s.e + 1)).tmod (s.d + 1)), ((n.tdiv (s.f + 1)).tmod (s.e + 1)), n.tmod (s.f + 1)⟩
theorem ok_of_cnt {s : Bd} (h : s.cnt ≠ 0) : s.Ok := by
 unfold cnt at h
 split at h
 ·assumption
 ·exact absurd rfl h
theorem check_zero {s : Bd} : s.check = 0 ↔ s.Ok := by
 unfold check
 split <;> simp [*]
end Bd
end Go.Bun
namespace Go.Bun
open Go.Sy
end Go.Bun
namespace Go.Bun
open Go.Sy
def cI (x : List Int) : List Value := x.map (Value.int .i64)
def brow (i : Nat) (x : List Int) (n : Nat) : List (List Int) := (List.range n).map fun (q : Nat) => x.set i (q : Int)
def bstep (i m : Nat) (L : List (List Int)) : List (List Int) := L.flatMap fun x => brow i x m
theorem brow_len (i : Nat) (x : List Int) (q : Nat) : (brow i x q).length = q := by simp [brow]
theorem bstep_len (i m : Nat) : ∀ (L : List (List Int)), (bstep i m L).length = L.length * m
 | [] => by simp [bstep]
 | x :: L => by
  have := bstep_len i m L
  simp only [bstep, List.flatMap_cons, List.length_append, brow_len, List.length_cons] at *
  rw [this, Nat.add_mul]; omega
def Lk (s : Bd) : Nat -> List (List Int)
 | 0 => [[0, 0, 0, 0, 0, 0]]
 | i + 1 => bstep i ((s.l.getD i 0).toNat + 1) (Lk s i)
theorem Lk_len (s : Bd) (i : Nat) : (Lk s (i + 1)).length = (Lk s i).length * ((s.l.getD i 0).toNat + 1) := bstep_len _ _ _
theorem Bd.Ok.at {s : Bd} (h : s.Ok) : ∀ i, 0 <= s.l.getD i 0 /\ s.l.getD i 0 <= 4 := by
 unfold Bd.Ok at h
 intro i
 match i with
 | 0 => exact h.1
 | 1 => exact h.2.1
 | 2 => exact h.2.2.1
 | 3 => exact h.2.2.2.1
 | 4 => exact h.2.2.2.2.1
 | 5 => exact h.2.2.2.2.2
 | n + 6 => simp [Bd.l]
theorem Lk_pos (s : Bd) : ∀ i, 0 < (Lk s i).length
 | 0 => by simp [Lk]
 | i + 1 => by rw [Lk_len]; exact Nat.mul_pos (Lk_pos s i) (by omega)
def Bd.list (s : Bd) : List (List Int) := if s.cnt = 0 then [] else Lk s 6
end Go.Bun
namespace Go.Bun
open Go.Sy
theorem bstep_get (i m : Nat) (hm : 0 < m) : ∀ (L : List (List Int)) (n : Nat) (x : List Int), L[n / m]? = some x -> (bstep i m L)[n]? = some (x.set i ((n % m : Nat) : Int))
 | [], n, x, h => by simp at h
 | y :: L, n, x, h => by
  simp only [bstep, List.flatMap_cons]
  rw [List.getElem?_append]
  split
  ·rename_i hlt
   rw [brow_len] at hlt
   rw [Nat.div_eq_of_lt hlt] at h
   simp only [List.getElem?_cons_zero, Option.some.injEq] at h
   subst h
   rw [Nat.mod_eq_of_lt hlt]
   simp [brow, hlt]
  ·rename_i hge
   rw [brow_len] at hge ⊢
   have h1 : n / m = (n - m) / m + 1 := by
    rw [Nat.div_eq n m, if_pos ⟨hm, by omega⟩]
   rw [h1, List.getElem?_cons_succ] at h
   have := bstep_get i m hm L (n - m) x h
   rw [bstep] at this
   rw [this]
   congr 2
   rw [Nat.mod_eq_sub_mod (a := n) (by omega)]
theorem Lk_get (s : Bd) (i n : Nat) (x : List Int) (h : (Lk s i)[n / ((s.l.getD i 0).toNat + 1)]? = some x) : (Lk s (i + 1))[n]? = some (x.set i ((n % ((s.l.getD i 0).toNat + 1) : Nat) : Int)) :=
 bstep_get i _ (by omega) _ n x h
end Go.Bun
namespace Go.Bun
open Go.Sy
def nB (a b c d e f : Nat) : Bd := ⟨a, b, c, d, e, f⟩
theorem Bd.nat {s : Bd} (h : s.all fun x => 0 <= x) : ∃ a b c d e f : Nat, s = nB a b c d e f := by
 obtain ⟨a, b, c, d, e, f⟩ := s
 obtain ⟨h1, h2, h3, h4, h5, h6⟩ := h
 exact ⟨a.toNat, b.toNat, c.toNat, d.toNat, e.toNat, f.toNat, by simp only [nB, Bd.mk.injEq]; simp only at h1 h2 h3 h4 h5 h6; omega⟩
theorem Bd.Ok.pos {s : Bd} (h : s.Ok) : s.all fun x => 0 <= x := ⟨h.1.1, h.2.1.1, h.2.2.1.1, h.2.2.2.1.1, h.2.2.2.2.1.1, h.2.2.2.2.2.1⟩
def nprod (a b c d e f : Nat) : Nat := (a + 1) * (b + 1) * (c + 1) * (d + 1) * (e + 1) * (f + 1)
theorem prod_nat (a b c d e f : Nat) : (nB a b c d e f).prod = (nprod a b c d e f : Int) := by
 simp only [Bd.prod, nB, nprod, Int.natCast_mul, Int.natCast_add]; simp
theorem len_nat (a b c d e f : Nat) : (Lk (nB a b c d e f) 6).length = nprod a b c d e f := by
 rw [Lk_len, Lk_len, Lk_len, Lk_len, Lk_len, Lk_len]
 simp only [Lk, nB, Bd.l, List.getD_cons_zero, List.getD_cons_succ, Int.toNat_natCast, List.length_cons, List.length_nil, nprod]
 simp
theorem dm (h m x : Nat) (hx : x < m) : (h * m + x) / m = h /\ (h * m + x) % m = x := by
 constructor
 ·rw [Nat.mul_comm, Nat.mul_add_div (by omega), Nat.div_eq_of_lt hx, Nat.add_zero]
 ·rw [Nat.mul_comm, Nat.mul_add_mod, Nat.mod_eq_of_lt hx]
theorem unr_nat (a b c d e f n : Nat) : (nB a b c d e f).unr n =
  nB (n / (f + 1) / (e + 1) / (d + 1) / (c + 1) / (b + 1) % (a + 1)) (n / (f + 1) / (e + 1) / (d + 1) / (c + 1) % (b + 1)) (n / (f + 1) / (e + 1) / (d + 1) % (c + 1)) (n / (f + 1) / (e + 1) % (d + 1)) (n / (f + 1) % (e + 1)) (n % (f + 1)) := by
 have hc : ∀ x : Nat, ((x : Int) + 1) = ((x + 1 : Nat) : Int) := fun _ => rfl
 simp only [Bd.unr, nB, hc, <- Int.ofNat_tdiv, <- Int.ofNat_tmod]
theorem unr_get (a b c d e f n : Nat) (hn : n < nprod a b c d e f) : (Lk (nB a b c d e f) 6)[n]? = some ((nB a b c d e f).unr n).l := by
 have h0 : n / (f + 1) / (e + 1) / (d + 1) / (c + 1) / (b + 1) / (a + 1) = 0 := by
  rw [Nat.div_div_eq_div_mul, Nat.div_div_eq_div_mul, Nat.div_div_eq_div_mul, Nat.div_div_eq_div_mul, Nat.div_div_eq_div_mul]
  apply Nat.div_eq_of_lt
  have : (f + 1) * ((e + 1) * ((d + 1) * ((c + 1) * ((b + 1) * (a + 1))))) = nprod a b c d e f := by
   unfold nprod; ac_rfl
  rw [<- this] at hn
  simpa only [Nat.mul_assoc] using hn
 have g0 : (Lk (nB a b c d e f) 0)[n / (f + 1) / (e + 1) / (d + 1) / (c + 1) / (b + 1) / (a + 1)]? = some [0, 0, 0, 0, 0, 0] := by rw [h0]; rfl
 have g1 := Lk_get (nB a b c d e f) 0 (n / (f + 1) / (e + 1) / (d + 1) / (c + 1) / (b + 1)) _ g0
 have g2 := Lk_get (nB a b c d e f) 1 (n / (f + 1) / (e + 1) / (d + 1) / (c + 1)) _ g1
 have g3 := Lk_get (nB a b c d e f) 2 (n / (f + 1) / (e + 1) / (d + 1)) _ g2
 have g4 := Lk_get (nB a b c d e f) 3 (n / (f + 1) / (e + 1)) _ g3
 have g5 := Lk_get (nB a b c d e f) 4 (n / (f + 1)) _ g4
 have g6 := Lk_get (nB a b c d e f) 5 n _ g5
 rw [g6, unr_nat]
 rfl
theorem horner_unr (a b c d e f n : Nat) (hn : n < nprod a b c d e f) : (nB a b c d e f).horner ((nB a b c d e f).unr n) = n := by
 have h0 : n / (f + 1) / (e + 1) / (d + 1) / (c + 1) / (b + 1) < a + 1 := by
  rw [Nat.div_div_eq_div_mul, Nat.div_div_eq_div_mul, Nat.div_div_eq_div_mul, Nat.div_div_eq_div_mul]
  apply Nat.div_lt_of_lt_mul
  have : (f + 1) * ((e + 1) * ((d + 1) * ((c + 1) * (b + 1)))) * (a + 1) = nprod a b c d e f := by
   unfold nprod; ac_rfl
  rw [<- this] at hn
  simpa only [Nat.mul_assoc] using hn
 rw [unr_nat]
 have hc : ∀ x : Nat, ((x : Int) + 1) = ((x + 1 : Nat) : Int) := fun _ => rfl
 simp only [Bd.horner, nB, hc, <- Int.natCast_mul, <- Int.natCast_add, Int.zero_mul, Int.zero_add, Nat.mod_eq_of_lt h0, Nat.div_add_mod']
theorem unr_horner (a b c d e f u v w x y z : Nat) (hu : u <= a) (hv : v <= b) (hw : w <= c) (hx : x <= d) (hy : y <= e) (hz : z <= f) :
  ∃ n : Nat, (nB a b c d e f).horner (nB u v w x y z) = n /\ n < nprod a b c d e f /\ (nB a b c d e f).unr n = nB u v w x y z := by
 have hc : ∀ x : Nat, ((x : Int) + 1) = ((x + 1 : Nat) : Int) := fun _ => rfl
 refine ⟨((((u * (b + 1) + v) * (c + 1) + w) * (d + 1) + x) * (e + 1) + y) * (f + 1) + z, ?_, ?_, ?_⟩
 ·simp only [Bd.horner, nB, hc, <- Int.natCast_mul, <- Int.natCast_add, Int.zero_mul, Int.zero_add]
 ·have st : ∀ {p q r m : Nat}, p < q -> r <= m -> p * (m + 1) + r < q * (m + 1) := by
   intro p q r m hp hr
   have : (p + 1) * (m + 1) <= q * (m + 1) := Nat.mul_le_mul_right _ hp
   rw [Nat.add_mul, Nat.one_mul] at this
   omega
  unfold nprod
  exact st (st (st (st (st (by omega) hv) hw) hx) hy) hz
 ·rw [unr_nat]
  obtain ⟨p1, q1⟩ := dm ((((u * (b + 1) + v) * (c + 1) + w) * (d + 1) + x) * (e + 1) + y) (f + 1) z (by omega)
  obtain ⟨p2, q2⟩ := dm (((u * (b + 1) + v) * (c + 1) + w) * (d + 1) + x) (e + 1) y (by omega)
  obtain ⟨p3, q3⟩ := dm ((u * (b + 1) + v) * (c + 1) + w) (d + 1) x (by omega)
  obtain ⟨p4, q4⟩ := dm (u * (b + 1) + v) (c + 1) w (by omega)
  obtain ⟨p5, q5⟩ := dm u (b + 1) v (by omega)
  rw [p1, p2, p3, p4, p5, q1, q2, q3, q4, q5, Nat.mod_eq_of_lt (by omega)]
end Go.Bun
namespace Go.Bun
open Go.Sy
theorem Bd.l_inj {x y : Bd} (h : x.l = y.l) : x = y := by
 obtain ⟨a, b, c, d, e, f⟩ := x
 obtain ⟨a', b', c', d', e', f'⟩ := y
 simp only [Bd.l, List.cons.injEq] at h
 obtain ⟨rfl, rfl, rfl, rfl, rfl, rfl, _⟩ := h
 rfl
theorem cnt_prod {s : Bd} (h : s.cnt ≠ 0) : s.cnt = s.prod := by
 unfold Bd.cnt at h ⊢
 split at h
 ·rename_i h1
  rw [if_pos h1]
  split at h
  ·exact absurd rfl h
  ·rename_i h2; rw [if_neg h2]
 ·exact absurd rfl h
theorem list_len (s : Bd) : (s.list.length : Int) = s.cnt := by
 by_cases h : s.cnt = 0
 ·rw [Bd.list, if_pos h, h]; rfl
 ·rw [Bd.list, if_neg h, cnt_prod h]
  obtain ⟨a, b, c, d, e, f, rfl⟩ := Bd.nat (Bd.ok_of_cnt h).pos
  rw [len_nat, prod_nat]
theorem list_unr {s : Bd} {n : Nat} (hn : (n : Int) < s.cnt) : s.list[n]? = some (s.unr n).l := by
 have h : s.cnt ≠ 0 := by omega
 rw [Bd.list, if_neg h]
 rw [cnt_prod h] at hn
 obtain ⟨a, b, c, d, e, f, rfl⟩ := Bd.nat (Bd.ok_of_cnt h).pos
 rw [prod_nat] at hn
 exact unr_get a b c d e f n (by omega)
theorem at_lt {s b : Bd} {i : Nat} (h : s.list[i]? = some b.l) : (i : Int) < s.cnt /\ b = s.unr i := by
 have h1 := (List.getElem?_eq_some_iff.1 h).1
 have h2 : (i : Int) < s.cnt := by rw [<- list_len]; omega
 refine ⟨h2, ?_⟩
 rw [list_unr h2] at h
 exact (Bd.l_inj (Option.some.inj h)).symm
theorem unr_in {s : Bd} (hs : s.Ok) (n : Nat) : (s.unr n).Ok /\ (s.unr n).Le s := by
 have hs' := hs
 obtain ⟨a, b, c, d, e, f, rfl⟩ := Bd.nat hs.pos
 rw [unr_nat]
 unfold Bd.Ok nB at hs'
 simp only at hs'
 have m1 := Nat.mod_lt (n / (f + 1) / (e + 1) / (d + 1) / (c + 1) / (b + 1)) (show 0 < a + 1 by omega)
 have m2 := Nat.mod_lt (n / (f + 1) / (e + 1) / (d + 1) / (c + 1)) (show 0 < b + 1 by omega)
 have m3 := Nat.mod_lt (n / (f + 1) / (e + 1) / (d + 1)) (show 0 < c + 1 by omega)
 have m4 := Nat.mod_lt (n / (f + 1) / (e + 1)) (show 0 < d + 1 by omega)
 have m5 := Nat.mod_lt (n / (f + 1)) (show 0 < e + 1 by omega)
 have m6 := Nat.mod_lt n (show 0 < f + 1 by omega)
 unfold Bd.Ok Bd.Le nB
 simp only
 generalize n / (f + 1) / (e + 1) / (d + 1) / (c + 1) / (b + 1) % (a + 1) = x1 at *
 generalize n / (f + 1) / (e + 1) / (d + 1) / (c + 1) % (b + 1) = x2 at *
 generalize n / (f + 1) / (e + 1) / (d + 1) % (c + 1) = x3 at *
 generalize n / (f + 1) / (e + 1) % (d + 1) = x4 at *
 generalize n / (f + 1) % (e + 1) = x5 at *
 generalize n % (f + 1) = x6 at *
 omega
end Go.Bun
namespace Go.Bun
open Go.Sy
def hN (b c d e f u v w x y z : Nat) : Nat := ((((u * (b + 1) + v) * (c + 1) + w) * (d + 1) + x) * (e + 1) + y) * (f + 1) + z
theorem horner_hN (a b c d e f u v w x y z : Nat) : (nB a b c d e f).horner (nB u v w x y z) = hN b c d e f u v w x y z := by
 have hc : ∀ x : Nat, ((x : Int) + 1) = ((x + 1 : Nat) : Int) := fun _ => rfl
 simp only [Bd.horner, nB, hN, hc, <- Int.natCast_mul, <- Int.natCast_add, Int.zero_mul, Int.zero_add]
end Go.Bun
namespace Go.Bun
open Go.Sy
def Bd.next (s b : Bd) : Bd :=
 if b.f < s.f then ⟨b.a, b.b, b.c, b.d, b.e, b.f + 1⟩
 else if b.e < s.e then ⟨b.a, b.b, b.c, b.d, b.e + 1, 0⟩
 else if b.d < s.d then ⟨b.a, b.b, b.c, b.d + 1, 0, 0⟩
 else if b.c < s.c then ⟨b.a, b.b, b.c + 1, 0, 0, 0⟩
 else if b.b < s.b then ⟨b.a, b.b + 1, 0, 0, 0, 0⟩
 else if b.a < s.a then ⟨b.a + 1, 0, 0, 0, 0, 0⟩
 else Bd.zero
theorem carry (A m : Nat) : (A + 1) * (m + 1) + 0 = A * (m + 1) + m + 1 := by rw [Nat.add_mul]; omega
theorem hN_def (b c d e f u v w x y z : Nat) : hN b c d e f u v w x y z = ((((u * (b + 1) + v) * (c + 1) + w) * (d + 1) + x) * (e + 1) + y) * (f + 1) + z := rfl
theorem next_nat {a b c d e f u v w x y z : Nat} (hu : u <= a) (hv : v <= b) (hw : w <= c) (hx : x <= d) (hy : y <= e) (hz : z <= f) :
  (hN b c d e f u v w x y z + 1 < nprod a b c d e f /\ ∃ u' v' w' x' y' z' : Nat, (nB a b c d e f).next (nB u v w x y z) = nB u' v' w' x' y' z' /\ u' <= a /\ v' <= b /\ w' <= c /\ x' <= d /\ y' <= e /\ z' <= f /\ hN b c d e f u' v' w' x' y' z' = hN b c d e f u v w x y z + 1) \/
  (hN b c d e f u v w x y z + 1 = nprod a b c d e f /\ (nB a b c d e f).next (nB u v w x y z) = Bd.zero) := by
 have hlt : ∀ u' v' w' x' y' z', u' <= a -> v' <= b -> w' <= c -> x' <= d -> y' <= e -> z' <= f -> hN b c d e f u' v' w' x' y' z' < nprod a b c d e f := by
  intro u' v' w' x' y' z' h1 h2 h3 h4 h5 h6
  have k1 : u' * (b + 1) + v' < (a + 1) * (b + 1) := by have := Nat.mul_le_mul_right (b + 1) h1; rw [Nat.add_mul]; omega
  have k2 : (u' * (b + 1) + v') * (c + 1) + w' < (a + 1) * (b + 1) * (c + 1) := by have := Nat.mul_le_mul_right (c + 1) k1; rw [Nat.succ_mul] at this; omega
  have k3 := Nat.mul_le_mul_right (d + 1) k2
  rw [Nat.succ_mul] at k3
  have k3' : ((u' * (b + 1) + v') * (c + 1) + w') * (d + 1) + x' < (a + 1) * (b + 1) * (c + 1) * (d + 1) := by omega
  have k4 := Nat.mul_le_mul_right (e + 1) k3'
  rw [Nat.succ_mul] at k4
  have k4' : (((u' * (b + 1) + v') * (c + 1) + w') * (d + 1) + x') * (e + 1) + y' < (a + 1) * (b + 1) * (c + 1) * (d + 1) * (e + 1) := by omega
  have k5 := Nat.mul_le_mul_right (f + 1) k4'
  rw [Nat.succ_mul] at k5
  rw [hN_def]; unfold nprod; omega
 have mk : ∀ u' v' w' x' y' z' : Nat, u' <= a -> v' <= b -> w' <= c -> x' <= d -> y' <= e -> z' <= f -> (nB a b c d e f).next (nB u v w x y z) = nB u' v' w' x' y' z' -> hN b c d e f u' v' w' x' y' z' = hN b c d e f u v w x y z + 1 ->
   (hN b c d e f u v w x y z + 1 < nprod a b c d e f /\ ∃ u' v' w' x' y' z' : Nat, (nB a b c d e f).next (nB u v w x y z) = nB u' v' w' x' y' z' /\ u' <= a /\ v' <= b /\ w' <= c /\ x' <= d /\ y' <= e /\ z' <= f /\ hN b c d e f u' v' w' x' y' z' = hN b c d e f u v w x y z + 1) := by
  intro u' v' w' x' y' z' h1 h2 h3 h4 h5 h6 h7 h8
  have := hlt u' v' w' x' y' z' h1 h2 h3 h4 h5 h6
  exact ⟨by omega, u', v', w', x', y', z', h7, h1, h2, h3, h4, h5, h6, h8⟩
 have nx : (nB a b c d e f).next (nB u v w x y z) = if z < f then nB u v w x y (z + 1) else if y < e then nB u v w x (y + 1) 0 else if x < d then nB u v w (x + 1) 0 0 else if w < c then nB u v (w + 1) 0 0 0 else if v < b then nB u (v + 1) 0 0 0 0 else if u < a then nB (u + 1) 0 0 0 0 0 else Bd.zero := by
  simp only [Bd.next, nB, Int.ofNat_lt, Int.natCast_add, Int.cast_ofNat_Int]
 by_cases c6 : z < f
 ·exact .inl (mk u v w x y (z + 1) hu hv hw hx hy (by omega) (by rw [nx, if_pos c6]) rfl)
 obtain rfl : z = f := by omega
 by_cases c5 : y < e
 ·exact .inl (mk u v w x (y + 1) 0 hu hv hw hx (by omega) (by omega) (by rw [nx, if_neg c6, if_pos c5]) (by
   simp only [hN_def]; exact carry _ _))
 obtain rfl : y = e := by omega
 by_cases c4 : x < d
 ·exact .inl (mk u v w (x + 1) 0 0 hu hv hw (by omega) (by omega) (by omega) (by rw [nx, if_neg c6, if_neg c5, if_pos c4]) (by
   simp only [hN_def]
   rw [show ((u * (b + 1) + v) * (c + 1) + w) * (d + 1) + (x + 1) = (((u * (b + 1) + v) * (c + 1) + w) * (d + 1) + x) + 1 from rfl, carry, carry]))
 obtain rfl : x = d := by omega
 by_cases c3 : w < c
 ·exact .inl (mk u v (w + 1) 0 0 0 hu hv (by omega) (by omega) (by omega) (by omega) (by rw [nx, if_neg c6, if_neg c5, if_neg c4, if_pos c3]) (by
   simp only [hN_def]
   rw [show (u * (b + 1) + v) * (c + 1) + (w + 1) = ((u * (b + 1) + v) * (c + 1) + w) + 1 from rfl, carry, carry, carry]))
 obtain rfl : w = c := by omega
 by_cases c2 : v < b
 ·exact .inl (mk u (v + 1) 0 0 0 0 hu (by omega) (by omega) (by omega) (by omega) (by omega) (by rw [nx, if_neg c6, if_neg c5, if_neg c4, if_neg c3, if_pos c2]) (by
   simp only [hN_def]
   rw [show u * (b + 1) + (v + 1) = (u * (b + 1) + v) + 1 from rfl, carry, carry, carry, carry]))
 obtain rfl : v = b := by omega
 by_cases c1 : u < a
 ·exact .inl (mk (u + 1) 0 0 0 0 0 (by omega) (by omega) (by omega) (by omega) (by omega) (by omega) (by rw [nx, if_neg c6, if_neg c5, if_neg c4, if_neg c3, if_neg c2, if_pos c1]) (by
   simp only [hN_def]
   rw [carry, carry, carry, carry, carry]))
 obtain rfl : u = a := by omega
 refine .inr ⟨?_, by rw [nx, if_neg c6, if_neg c5, if_neg c4, if_neg c3, if_neg c2, if_neg c1]⟩
 have h := carry u v
 simp only [hN_def, nprod]
 rw [<- carry, <- carry, <- carry, <- carry, <- carry]
 simp only [Nat.add_zero]
theorem Lk_next {s : Bd} (hs : s.Ok) {n : Nat} (hn : n < (Lk s 6).length) : (Lk s 6)[n]? = some (s.unr n).l /\
  ((n + 1 < (Lk s 6).length /\ s.next (s.unr n) = s.unr ((n + 1 : Nat) : Int) /\ s.next (s.unr n) ≠ Bd.zero) \/ (n + 1 = (Lk s 6).length /\ s.next (s.unr n) = Bd.zero)) := by
 obtain ⟨a, b, c, d, e, f, rfl⟩ := Bd.nat hs.pos
 rw [len_nat] at hn ⊢
 refine ⟨unr_get a b c d e f n hn, ?_⟩
 have hh := horner_unr a b c d e f n hn
 obtain ⟨u, v, w, x, y, z, he, hu, hv, hw, hx, hy, hz⟩ : ∃ u v w x y z : Nat, (nB a b c d e f).unr n = nB u v w x y z /\ u <= a /\ v <= b /\ w <= c /\ x <= d /\ y <= e /\ z <= f := by
  refine ⟨_, _, _, _, _, _, unr_nat a b c d e f n, ?_, ?_, ?_, ?_, ?_, ?_⟩ <;> exact Nat.le_of_lt_succ (Nat.mod_lt _ (by omega))
 rw [he] at hh ⊢
 rw [horner_hN] at hh
 have hh : hN b c d e f u v w x y z = n := by exact_mod_cast hh
 rcases next_nat hu hv hw hx hy hz with ⟨h1, u', v', w', x', y', z', h2, k1, k2, k3, k4, k5, k6, h3⟩ | ⟨h1, h2⟩
 ·rw [hh] at h1 h3
  have h4 := unr_horner a b c d e f u' v' w' x' y' z' k1 k2 k3 k4 k5 k6
  rw [horner_hN, h3] at h4
  obtain ⟨m, e1, _, e3⟩ := h4
  have e1 : n + 1 = m := by exact_mod_cast e1
  subst e1
  refine .inl ⟨h1, by rw [h2, e3], fun h0 => ?_⟩
  rw [h2] at h0
  have e1 : nB u' v' w' x' y' z' = nB 0 0 0 0 0 0 := h0
  simp only [nB, Bd.mk.injEq, Int.natCast_inj] at e1
  obtain ⟨rfl, rfl, rfl, rfl, rfl, rfl⟩ := e1
  simp [hN_def] at h3
 ·rw [hh] at h1
  exact .inr ⟨h1, h2⟩
theorem Lk_zero (s : Bd) (hs : s.Ok) : s.unr ((0 : Nat) : Int) = Bd.zero := by
 obtain ⟨a, b, c, d, e, f, rfl⟩ := Bd.nat hs.pos
 rw [unr_nat]; simp [nB, Bd.zero]
end Go.Bun
namespace Go.Bun
open Go.Sy
structure Of where
 n : Int
 w : Bd
 v : Int
 deriving DecidableEq, Inhabited
namespace Of
def l (o : Of) : List Int := [o.n, o.w.a, o.w.b, o.w.c, o.w.d, o.w.e, o.w.f, o.v]
def cs (o : Of) : List Value := [.int .i64 o.n, .int .i64 o.w.a, .int .i64 o.w.b, .int .i64 o.w.c, .int .i64 o.w.d, .int .i64 o.w.e, .int .i64 o.w.f, .int .i64 o.v]
def good (o : Of) : Prop := o.w.Ok /\ 1 <= o.v /\ o.v <= 1000000
instance (o : Of) : Decidable o.good := by unfold good; exact inferInstance
end Of
def counting (L : List Of) : List Of := L.filter fun o => decide o.good
def vstep (b : Bd) (best : Int) (o : Of) : Int := if best < o.v /\ o.w.Le b then o.v else best
def val (L : List Of) (b : Bd) : Int := L.foldl (vstep b) 0
theorem val_acc (b : Bd) : ∀ (L : List Of) (x : Int), (∀ o ∈ L, o.good) -> 0 <= x /\ x <= 1000000 -> 0 <= L.foldl (vstep b) x /\ L.foldl (vstep b) x <= 1000000
 | [], x, _, h => h
 | o :: L, x, hL, h => by
  simp only [List.foldl_cons]
  apply val_acc b L _ (fun o' ho' => hL o' (by simp [ho']))
  have := hL o (by simp)
  unfold Of.good at this
  unfold vstep
  split <;> omega
theorem counting_good (L : List Of) : ∀ o ∈ counting L, o.good := fun o ho => by
 simpa using (List.mem_filter.1 ho).2
theorem val_range (L : List Of) (b : Bd) : 0 <= val (counting L) b /\ val (counting L) b <= 1000000 := val_acc b _ 0 (counting_good L) (by omega)
theorem counting_len (L : List Of) : (counting L).length <= L.length := List.length_filter_le _ _
def pok (p : Bd) : Prop := p.all fun x => 0 <= x /\ x <= 1000000
instance (p : Bd) : Decidable (pok p) := by unfold pok Bd.all; exact inferInstance
def util (L : List Of) (p b : Bd) : Int := val (counting L) b - p.cost b
def utility (L : List Of) (p b : Bd) : Int := if pok p /\ b.Ok then util L p b else 0
theorem cost_range {p b : Bd} (hp : pok p) (hb : b.Ok) : 0 <= p.cost b /\ p.cost b <= 24000000 := by
 unfold pok Bd.all at hp
 unfold Bd.Ok at hb
 have h1 := mulB (x := p.a) (y := b.a) (A := 1000000) (B := 4) hp.1 hb.1
 have h2 := mulB (x := p.b) (y := b.b) (A := 1000000) (B := 4) hp.2.1 hb.2.1
 have h3 := mulB (x := p.c) (y := b.c) (A := 1000000) (B := 4) hp.2.2.1 hb.2.2.1
 have h4 := mulB (x := p.d) (y := b.d) (A := 1000000) (B := 4) hp.2.2.2.1 hb.2.2.2.1
 have h5 := mulB (x := p.e) (y := b.e) (A := 1000000) (B := 4) hp.2.2.2.2.1 hb.2.2.2.2.1
 have h6 := mulB (x := p.f) (y := b.f) (A := 1000000) (B := 4) hp.2.2.2.2.2 hb.2.2.2.2.2
 unfold Bd.cost
 omega
def Bd.bds (S : Bd) : List Bd := (List.range S.list.length).map fun (n : Nat) => S.unr (n : Int)
theorem Bd.bds_len (S : Bd) : S.bds.length = S.list.length := by simp [Bd.bds]
theorem Bd.bds_l (S : Bd) : S.list = S.bds.map Bd.l := by
 apply List.ext_getElem?
 intro n
 rw [List.getElem?_map]
 by_cases h : n < S.list.length
 ·have hc : (n : Int) < S.cnt := by have := list_len S; omega
  rw [list_unr hc]
  simp [Bd.bds, h]
 ·rw [List.getElem?_eq_none (by omega), List.getElem?_eq_none (by rw [Bd.bds_len]; omega)]; rfl
theorem Bd.bds_ok {S : Bd} : ∀ b ∈ S.bds, b.Ok /\ b.Le S := by
 intro b hb
 simp only [Bd.bds, List.mem_map, List.mem_range] at hb
 obtain ⟨n, hn, rfl⟩ := hb
 have hc : S.cnt ≠ 0 := by have := list_len S; omega
 exact unr_in (Bd.ok_of_cnt hc) n
theorem Bd.bds_head {S : Bd} (h : S.list ≠ []) : ∃ r, S.bds = Bd.zero :: r := by
 have hl : 0 < S.list.length := List.length_pos_iff.2 h
 have hc : S.cnt ≠ 0 := by have := list_len S; omega
 obtain ⟨m, hm⟩ : ∃ m, S.list.length = m + 1 := ⟨S.list.length - 1, by omega⟩
 refine ⟨(List.range m).map fun (n : Nat) => S.unr ((n + 1 : Nat) : Int), ?_⟩
 have h0 := Lk_zero S (Bd.ok_of_cnt hc)
 simp only [Bd.bds, hm, List.range_succ_eq_map, List.map_cons, List.map_map, h0]
 rfl
def bstepD (u : Bd -> Int) (x : Bd × Int) (b : Bd) : Bd × Int := if x.2 < u b then (b, u b) else x
def bestOf (u : Bd -> Int) (W : List Bd) : Bd × Int := W.foldl (bstepD u) (Bd.zero, 0)
def dstep (u : Bd -> Int) (x : Int × List Bd) (b : Bd) : Int × List Bd :=
 if x.1 < u b then (u b, [b]) else if u b = x.1 then (x.1, x.2 ++ [b]) else x
def demOf (u : Bd -> Int) (W : List Bd) : Int × List Bd := W.foldl (dstep u) (-1, [])
structure DInv (u : Bd -> Int) (done : List Bd) (p : Bd × Int) (r : Int × List Bd) : Prop where
 eq : r.1 = p.2
 ub : u p.1 = p.2
 out : r.2 = done.filter fun b => decide (u b = p.2)
 le : ∀ b ∈ done, u b <= p.2
 hd : ∃ t, r.2 = p.1 :: t
theorem dinv_step {u : Bd -> Int} {done : List Bd} {p : Bd × Int} {r : Int × List Bd} (h : DInv u done p r) (b : Bd) : DInv u (done ++ [b]) (bstepD u p b) (dstep u r b) := by
 obtain ⟨h1, h2, h3, h4, t, h5⟩ := h
 unfold bstepD dstep
 rw [h1]
 by_cases hlt : p.2 < u b
 ·simp only [hlt, if_true]
  refine ⟨rfl, rfl, ?_, ?_, [], rfl⟩
  ·simp only [List.filter_append, List.filter_cons, decide_true, if_true, List.filter_nil]
   rw [List.filter_eq_nil_iff.2]
   ·rfl
   ·intro x hx; have := h4 x hx; simp; omega
  ·intro x hx
   rcases List.mem_append.1 hx with hx | hx
   ·have := h4 x hx; omega
   ·simp only [List.mem_singleton] at hx; subst hx; exact Int.le_refl _
 ·simp only [hlt, if_false]
  by_cases he : u b = p.2
  ·simp only [he, if_true]
   refine ⟨rfl, h2, ?_, ?_, t ++ [b], by rw [h5]; rfl⟩
   ·rw [h3]; simp [he]
   ·intro x hx
    rcases List.mem_append.1 hx with hx | hx
    ·exact h4 x hx
    ·simp only [List.mem_singleton] at hx; subst hx; omega
  ·simp only [he, if_false]
   refine ⟨h1, h2, ?_, ?_, t, h5⟩
   ·rw [h3]; simp [he]
   ·intro x hx
    rcases List.mem_append.1 hx with hx | hx
    ·exact h4 x hx
    ·simp only [List.mem_singleton] at hx; subst hx; omega
theorem dinv_fold {u : Bd -> Int} : ∀ (W done : List Bd) (p : Bd × Int) (r : Int × List Bd), DInv u done p r -> DInv u (done ++ W) (W.foldl (bstepD u) p) (W.foldl (dstep u) r)
 | [], done, p, r, h => by simpa using h
 | b :: W, done, p, r, h => by
  have := dinv_fold W (done ++ [b]) _ _ (dinv_step h b)
  simpa using this
theorem dem_best {u : Bd -> Int} {r : List Bd} (h0 : 0 <= u Bd.zero) : DInv u (Bd.zero :: r) (bestOf u (Bd.zero :: r)) (demOf u (Bd.zero :: r)) /\ 0 <= (bestOf u (Bd.zero :: r)).2 := by
 have hs : bstepD u (Bd.zero, 0) Bd.zero = (Bd.zero, u Bd.zero) := by
  unfold bstepD
  simp only
  split
  ·rfl
  ·have : u Bd.zero = 0 := by omega
   rw [this]
 have hd : dstep u (-1, []) Bd.zero = (u Bd.zero, [Bd.zero]) := by
  unfold dstep
  rw [if_pos (by simp only; omega)]
 have hi : DInv u [Bd.zero] (Bd.zero, u Bd.zero) (u Bd.zero, [Bd.zero]) :=
  ⟨rfl, rfl, by simp, by simp, [], rfl⟩
 have h := dinv_fold r _ _ _ hi
 have hb : bestOf u (Bd.zero :: r) = r.foldl (bstepD u) (Bd.zero, u Bd.zero) := by unfold bestOf; rw [List.foldl_cons, hs]
 have hdm : demOf u (Bd.zero :: r) = r.foldl (dstep u) (u Bd.zero, [Bd.zero]) := by unfold demOf; rw [List.foldl_cons, hd]
 rw [hb, hdm]
 refine ⟨h, ?_⟩
 have := h.le Bd.zero (by simp)
 omega
theorem foldl_congr' {α β : Type} {f g : β -> α -> β} : ∀ (l : List α) (x : β), (∀ a ∈ l, ∀ y, f y a = g y a) -> l.foldl f x = l.foldl g x
 | [], _, _ => rfl
 | a :: l, x, h => by
  simp only [List.foldl_cons]
  rw [h a (by simp) x]
  exact foldl_congr' l _ (fun b hb y => h b (by simp [hb]) y)
theorem demOf_congr {u u' : Bd -> Int} {W : List Bd} (h : ∀ b ∈ W, u b = u' b) : demOf u W = demOf u' W :=
 foldl_congr' _ _ (fun b hb y => by unfold dstep; rw [h b hb])
theorem cost_zero (p : Bd) : p.cost Bd.zero = 0 := by simp [Bd.cost, Bd.zero]
def best (L : List Of) (S p : Bd) : Bd × Int := if pok p then bestOf (util L p) S.bds else (Bd.zero, 0)
def demand (L : List Of) (S p : Bd) : List Bd := if pok p then S.bds.filter fun b => decide (util L p b = (best L S p).2) else []
def rdemand (L : List Of) (S p : Bd) : List Bd := if pok p then (demOf (utility L p) S.bds).2 else []
theorem demand_spec (L : List Of) (S p : Bd) (hp : pok p) (hS : S.list ≠ []) :
  rdemand L S p = demand L S p /\ (∃ t, demand L S p = (best L S p).1 :: t) /\ util L p (best L S p).1 = (best L S p).2 /\ 0 <= (best L S p).2 /\ (∀ b ∈ S.bds, util L p b <= (best L S p).2) /\ (best L S p).1 ∈ S.bds := by
 obtain ⟨r, hr⟩ := Bd.bds_head hS
 have hu0 : 0 <= util L p Bd.zero := by
  have := (val_range L Bd.zero).1
  unfold util; rw [cost_zero]; omega
 obtain ⟨h, h0⟩ := dem_best (u := util L p) (r := r) hu0
 rw [<- hr] at h h0
 have hc : demOf (utility L p) S.bds = demOf (util L p) S.bds := demOf_congr (fun b hb => by unfold utility; rw [if_pos ⟨hp, (Bd.bds_ok b hb).1⟩])
 have hb : best L S p = bestOf (util L p) S.bds := by unfold best; rw [if_pos hp]
 have hd : demand L S p = (demOf (util L p) S.bds).2 := by
  unfold demand; rw [if_pos hp, hb]; exact h.out.symm
 obtain ⟨t, ht⟩ := h.hd
 refine ⟨by unfold rdemand; rw [if_pos hp, hc, hd], ⟨t, by rw [hd, hb, ht]⟩, by rw [hb]; exact h.ub, by rw [hb]; exact h0, by rw [hb]; exact h.le, ?_⟩
 have : (best L S p).1 ∈ demand L S p := by rw [hd, ht, hb]; simp
 unfold demand at this
 rw [if_pos hp] at this
 exact (List.mem_filter.1 this).1
theorem bds_nil {S : Bd} (h : S.list = []) : S.bds = [] := by
 have := Bd.bds_len S
 rw [h] at this
 exact List.length_eq_zero_iff.1 this
theorem best_nil (L : List Of) (S p : Bd) (h : S.list = []) : best L S p = (Bd.zero, 0) := by
 unfold best; split
 ·rw [bds_nil h]; rfl
 ·rfl
end Go.Bun
namespace Go.Bun
open Go.Sy
def Bd.at (x : Bd) : Nat -> Int
 | 0 => x.a | 1 => x.b | 2 => x.c | 3 => x.d | 4 => x.e | 5 => x.f | _ => 0
structure Ch where
 p : Bd
 w : Bd
def Ch.cs (x : Ch) : List Value := x.p.cs ++ x.w.cs
def path (L : List Of) (S : Bd) (P : List Bd) : List Ch := P.map fun p => ⟨p, (best L S p).1⟩
end Go.Bun
