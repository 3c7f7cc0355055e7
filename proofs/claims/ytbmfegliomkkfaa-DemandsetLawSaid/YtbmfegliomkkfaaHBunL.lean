/- The list of all bundles within a supply, as lists of six integers: plain. -/
import Derived.Test.YtbmfegliomkkfaaHBun
namespace Go.Bun
open Go.Sx
def cI (x : List Int) : List Value := x.map (Value.int .i64)
def brow (i : Nat) (x : List Int) (n : Nat) : List (List Int) := (List.range n).map fun (q : Nat) => x.set i (q : Int)
def bstep (i m : Nat) (L : List (List Int)) : List (List Int) := L.flatMap fun x => brow i x m
def bpart (i m : Nat) (L : List (List Int)) (k q : Nat) : List (List Int) := bstep i m (L.take k) ++ brow i (L.getD k []) q

theorem brow_succ (i : Nat) (x : List Int) (q : Nat) : brow i x (q + 1) = brow i x q ++ [x.set i (q : Int)] := by simp [brow, List.range_succ]
theorem brow_len (i : Nat) (x : List Int) (q : Nat) : (brow i x q).length = q := by simp [brow]
theorem bstep_len (i m : Nat) : ∀ (L : List (List Int)), (bstep i m L).length = L.length * m
  | [] => by simp [bstep]
  | x :: L => by
    have := bstep_len i m L
    simp only [bstep, List.flatMap_cons, List.length_append, brow_len, List.length_cons] at *
    rw [this, Nat.add_mul]; omega
theorem bpart_succ (i m : Nat) (L : List (List Int)) (k q : Nat) : bpart i m L k (q + 1) = bpart i m L k q ++ [(L.getD k []).set i (q : Int)] := by
  simp only [bpart, brow_succ, List.append_assoc]
theorem bpart_next (i m : Nat) (L : List (List Int)) (k : Nat) (hk : k < L.length) : bpart i m L (k + 1) 0 = bpart i m L k m := by
  simp only [bpart, brow, List.range_zero, List.map_nil, List.append_nil]
  rw [List.take_add_one, List.getElem?_eq_getElem hk]
  simp only [bstep, Option.toList_some, List.flatMap_append, List.flatMap_cons, List.flatMap_nil, List.append_nil, brow]
  simp [List.getD, List.getElem?_eq_getElem hk]
theorem bpart_all (i m : Nat) (L : List (List Int)) (k : Nat) (hk : L.length ≤ k) : bpart i m L k 0 = bstep i m L := by
  simp only [bpart, brow, List.range_zero, List.map_nil, List.append_nil, List.take_of_length_le hk]
theorem bpart_zero (i m : Nat) (L : List (List Int)) : bpart i m L 0 0 = [] := by simp [bpart, bstep, brow]
theorem bpart_len (i m : Nat) (L : List (List Int)) (k q : Nat) (hk : k ≤ L.length) : (bpart i m L k q).length = k * m + q := by
  simp only [bpart, List.length_append, bstep_len, brow_len, List.length_take, Nat.min_eq_left hk]
theorem brow_mem {i : Nat} {x y : List Int} {n : Nat} (h : y ∈ brow i x n) : y.length = x.length := by
  simp only [brow, List.mem_map, List.mem_range] at h
  obtain ⟨q, _, rfl⟩ := h
  simp
theorem bstep_mem {i m n : Nat} {L : List (List Int)} (hL : ∀ x ∈ L, x.length = n) : ∀ x ∈ bstep i m L, x.length = n := by
  intro x hx
  simp only [bstep, List.mem_flatMap] at hx
  obtain ⟨y, hy, hx⟩ := hx
  rw [brow_mem hx, hL y hy]

/-- The lists, a product at a time. -/
def Lk (s : Bd) : Nat → List (List Int)
  | 0 => [[0, 0, 0, 0, 0, 0]]
  | i + 1 => bstep i ((s.l.getD i 0).toNat + 1) (Lk s i)
theorem Lk_mem (s : Bd) : ∀ i, ∀ x ∈ Lk s i, x.length = 6
  | 0 => by simp [Lk]
  | i + 1 => bstep_mem (Lk_mem s i)
theorem Lk_len (s : Bd) (i : Nat) : (Lk s (i + 1)).length = (Lk s i).length * ((s.l.getD i 0).toNat + 1) := bstep_len _ _ _
theorem Bd.Ok.at {s : Bd} (h : s.Ok) : ∀ i, 0 ≤ s.l.getD i 0 ∧ s.l.getD i 0 ≤ 4 := by
  unfold Bd.Ok at h
  intro i
  match i with
  | 0 => exact h.1
  | 1 => exact h.2.1
  | 2 => exact h.2.2.1
  | 3 => exact h.2.2.2.1
  | 4 => exact h.2.2.2.2.1
  | 5 => exact h.2.2.2.2.2
  | n + 6 => simp [Bd.l]
theorem Lk_pos (s : Bd) : ∀ i, 0 < (Lk s i).length
  | 0 => by simp [Lk]
  | i + 1 => by rw [Lk_len]; exact Nat.mul_pos (Lk_pos s i) (by omega)
theorem Lk_le (s : Bd) (h : s.Ok) : ∀ i, (Lk s i).length ≤ 5 ^ i
  | 0 => by simp [Lk]
  | i + 1 => by
    rw [Lk_len, Nat.pow_succ]
    exact Nat.mul_le_mul (Lk_le s h i) (by have := h.at i; omega)
def Bd.list (s : Bd) : List (List Int) := if s.cnt = 0 then [] else Lk s 6
end Go.Bun
