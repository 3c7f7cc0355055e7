/- Ranks of bundles: plain. -/
import Derived.Test.YtbmfegliomkkfaaHBunL
namespace Go.Bun
open Go.Sx

theorem bstep_get (i m : Nat) (hm : 0 < m) : ∀ (L : List (List Int)) (n : Nat) (x : List Int), L[n / m]? = some x → (bstep i m L)[n]? = some (x.set i ((n % m : Nat) : Int))
  | [], n, x, h => by simp at h
  | y :: L, n, x, h => by
    simp only [bstep, List.flatMap_cons]
    rw [List.getElem?_append]
    split
    · rename_i hlt
      rw [brow_len] at hlt
      rw [Nat.div_eq_of_lt hlt] at h
      simp only [List.getElem?_cons_zero, Option.some.injEq] at h
      subst h
      rw [Nat.mod_eq_of_lt hlt]
      simp [brow, hlt]
    · rename_i hge
      rw [brow_len] at hge ⊢
      have h1 : n / m = (n - m) / m + 1 := by
        rw [Nat.div_eq n m, if_pos ⟨hm, by omega⟩]
      rw [h1, List.getElem?_cons_succ] at h
      have := bstep_get i m hm L (n - m) x h
      rw [bstep] at this
      rw [this]
      congr 2
      rw [Nat.mod_eq_sub_mod (a := n) (by omega)]

theorem Lk_get (s : Bd) (i n : Nat) (x : List Int) (h : (Lk s i)[n / ((s.l.getD i 0).toNat + 1)]? = some x) : (Lk s (i + 1))[n]? = some (x.set i ((n % ((s.l.getD i 0).toNat + 1) : Nat) : Int)) :=
  bstep_get i _ (by omega) _ n x h

end Go.Bun
namespace Go.Bun
open Go.Sx
/-- A supply of natural numbers. -/
def nB (a b c d e f : Nat) : Bd := ⟨a, b, c, d, e, f⟩
theorem Bd.nat {s : Bd} (h : s.all fun x => 0 ≤ x) : ∃ a b c d e f : Nat, s = nB a b c d e f := by
  obtain ⟨a, b, c, d, e, f⟩ := s
  obtain ⟨h1, h2, h3, h4, h5, h6⟩ := h
  exact ⟨a.toNat, b.toNat, c.toNat, d.toNat, e.toNat, f.toNat, by simp only [nB, Bd.mk.injEq]; simp only at h1 h2 h3 h4 h5 h6; omega⟩
theorem Bd.Ok.pos {s : Bd} (h : s.Ok) : s.all fun x => 0 ≤ x := ⟨h.1.1, h.2.1.1, h.2.2.1.1, h.2.2.2.1.1, h.2.2.2.2.1.1, h.2.2.2.2.2.1⟩

def nprod (a b c d e f : Nat) : Nat := (a + 1) * (b + 1) * (c + 1) * (d + 1) * (e + 1) * (f + 1)
theorem prod_nat (a b c d e f : Nat) : (nB a b c d e f).prod = (nprod a b c d e f : Int) := by
  simp only [Bd.prod, nB, nprod, Int.natCast_mul, Int.natCast_add]; simp
theorem len_nat (a b c d e f : Nat) : (Lk (nB a b c d e f) 6).length = nprod a b c d e f := by
  rw [Lk_len, Lk_len, Lk_len, Lk_len, Lk_len, Lk_len]
  simp only [Lk, nB, Bd.l, List.getD_cons_zero, List.getD_cons_succ, Int.toNat_natCast, List.length_cons, List.length_nil, nprod]
  simp
theorem dm (h m x : Nat) (hx : x < m) : (h * m + x) / m = h ∧ (h * m + x) % m = x := by
  constructor
  · rw [Nat.mul_comm, Nat.mul_add_div (by omega), Nat.div_eq_of_lt hx, Nat.add_zero]
  · rw [Nat.mul_comm, Nat.mul_add_mod, Nat.mod_eq_of_lt hx]

theorem unr_nat (a b c d e f n : Nat) : (nB a b c d e f).unr n =
    nB (n / (f + 1) / (e + 1) / (d + 1) / (c + 1) / (b + 1) % (a + 1)) (n / (f + 1) / (e + 1) / (d + 1) / (c + 1) % (b + 1)) (n / (f + 1) / (e + 1) / (d + 1) % (c + 1)) (n / (f + 1) / (e + 1) % (d + 1)) (n / (f + 1) % (e + 1)) (n % (f + 1)) := by
  have hc : ∀ x : Nat, ((x : Int) + 1) = ((x + 1 : Nat) : Int) := fun _ => rfl
  simp only [Bd.unr, nB, hc, ← Int.ofNat_tdiv, ← Int.ofNat_tmod]

theorem unr_get (a b c d e f n : Nat) (hn : n < nprod a b c d e f) : (Lk (nB a b c d e f) 6)[n]? = some ((nB a b c d e f).unr n).l := by
  have h0 : n / (f + 1) / (e + 1) / (d + 1) / (c + 1) / (b + 1) / (a + 1) = 0 := by
    rw [Nat.div_div_eq_div_mul, Nat.div_div_eq_div_mul, Nat.div_div_eq_div_mul, Nat.div_div_eq_div_mul, Nat.div_div_eq_div_mul]
    apply Nat.div_eq_of_lt
    have : (f + 1) * ((e + 1) * ((d + 1) * ((c + 1) * ((b + 1) * (a + 1))))) = nprod a b c d e f := by
      unfold nprod; ac_rfl
    rw [← this] at hn
    simpa only [Nat.mul_assoc] using hn
  have g0 : (Lk (nB a b c d e f) 0)[n / (f + 1) / (e + 1) / (d + 1) / (c + 1) / (b + 1) / (a + 1)]? = some [0, 0, 0, 0, 0, 0] := by rw [h0]; rfl
  have g1 := Lk_get (nB a b c d e f) 0 (n / (f + 1) / (e + 1) / (d + 1) / (c + 1) / (b + 1)) _ g0
  have g2 := Lk_get (nB a b c d e f) 1 (n / (f + 1) / (e + 1) / (d + 1) / (c + 1)) _ g1
  have g3 := Lk_get (nB a b c d e f) 2 (n / (f + 1) / (e + 1) / (d + 1)) _ g2
  have g4 := Lk_get (nB a b c d e f) 3 (n / (f + 1) / (e + 1)) _ g3
  have g5 := Lk_get (nB a b c d e f) 4 (n / (f + 1)) _ g4
  have g6 := Lk_get (nB a b c d e f) 5 n _ g5
  rw [g6, unr_nat]
  rfl

theorem horner_unr (a b c d e f n : Nat) (hn : n < nprod a b c d e f) : (nB a b c d e f).horner ((nB a b c d e f).unr n) = n := by
  have h0 : n / (f + 1) / (e + 1) / (d + 1) / (c + 1) / (b + 1) < a + 1 := by
    rw [Nat.div_div_eq_div_mul, Nat.div_div_eq_div_mul, Nat.div_div_eq_div_mul, Nat.div_div_eq_div_mul]
    apply Nat.div_lt_of_lt_mul
    have : (f + 1) * ((e + 1) * ((d + 1) * ((c + 1) * (b + 1)))) * (a + 1) = nprod a b c d e f := by
      unfold nprod; ac_rfl
    rw [← this] at hn
    simpa only [Nat.mul_assoc] using hn
  rw [unr_nat]
  have hc : ∀ x : Nat, ((x : Int) + 1) = ((x + 1 : Nat) : Int) := fun _ => rfl
  simp only [Bd.horner, nB, hc, ← Int.natCast_mul, ← Int.natCast_add, Int.zero_mul, Int.zero_add, Nat.mod_eq_of_lt h0, Nat.div_add_mod']

theorem unr_horner (a b c d e f u v w x y z : Nat) (hu : u ≤ a) (hv : v ≤ b) (hw : w ≤ c) (hx : x ≤ d) (hy : y ≤ e) (hz : z ≤ f) :
    ∃ n : Nat, (nB a b c d e f).horner (nB u v w x y z) = n ∧ n < nprod a b c d e f ∧ (nB a b c d e f).unr n = nB u v w x y z := by
  have hc : ∀ x : Nat, ((x : Int) + 1) = ((x + 1 : Nat) : Int) := fun _ => rfl
  refine ⟨((((u * (b + 1) + v) * (c + 1) + w) * (d + 1) + x) * (e + 1) + y) * (f + 1) + z, ?_, ?_, ?_⟩
  · simp only [Bd.horner, nB, hc, ← Int.natCast_mul, ← Int.natCast_add, Int.zero_mul, Int.zero_add]
  · have st : ∀ {p q r m : Nat}, p < q → r ≤ m → p * (m + 1) + r < q * (m + 1) := by
      intro p q r m hp hr
      have : (p + 1) * (m + 1) ≤ q * (m + 1) := Nat.mul_le_mul_right _ hp
      rw [Nat.add_mul, Nat.one_mul] at this
      omega
    unfold nprod
    exact st (st (st (st (st (by omega) hv) hw) hx) hy) hz
  · rw [unr_nat]
    obtain ⟨p1, q1⟩ := dm ((((u * (b + 1) + v) * (c + 1) + w) * (d + 1) + x) * (e + 1) + y) (f + 1) z (by omega)
    obtain ⟨p2, q2⟩ := dm (((u * (b + 1) + v) * (c + 1) + w) * (d + 1) + x) (e + 1) y (by omega)
    obtain ⟨p3, q3⟩ := dm ((u * (b + 1) + v) * (c + 1) + w) (d + 1) x (by omega)
    obtain ⟨p4, q4⟩ := dm (u * (b + 1) + v) (c + 1) w (by omega)
    obtain ⟨p5, q5⟩ := dm u (b + 1) v (by omega)
    rw [p1, p2, p3, p4, p5, q1, q2, q3, q4, q5, Nat.mod_eq_of_lt (by omega)]
end Go.Bun
namespace Go.Bun
open Go.Sx
theorem Bd.l_inj {x y : Bd} (h : x.l = y.l) : x = y := by
  obtain ⟨a, b, c, d, e, f⟩ := x
  obtain ⟨a', b', c', d', e', f'⟩ := y
  simp only [Bd.l, List.cons.injEq] at h
  obtain ⟨rfl, rfl, rfl, rfl, rfl, rfl, _⟩ := h
  rfl
theorem cnt_prod {s : Bd} (h : s.cnt ≠ 0) : s.cnt = s.prod := by
  unfold Bd.cnt at h ⊢
  split at h
  · rename_i h1
    rw [if_pos h1]
    split at h
    · exact absurd rfl h
    · rename_i h2; rw [if_neg h2]
  · exact absurd rfl h
theorem list_len (s : Bd) : (s.list.length : Int) = s.cnt := by
  by_cases h : s.cnt = 0
  · rw [Bd.list, if_pos h, h]; rfl
  · rw [Bd.list, if_neg h, cnt_prod h]
    obtain ⟨a, b, c, d, e, f, rfl⟩ := Bd.nat (Bd.ok_of_cnt h).pos
    rw [len_nat, prod_nat]
theorem list_unr {s : Bd} {n : Nat} (hn : (n : Int) < s.cnt) : s.list[n]? = some (s.unr n).l := by
  have h : s.cnt ≠ 0 := by omega
  rw [Bd.list, if_neg h]
  rw [cnt_prod h] at hn
  obtain ⟨a, b, c, d, e, f, rfl⟩ := Bd.nat (Bd.ok_of_cnt h).pos
  rw [prod_nat] at hn
  exact unr_get a b c d e f n (by omega)
theorem at_lt {s b : Bd} {i : Nat} (h : s.list[i]? = some b.l) : (i : Int) < s.cnt ∧ b = s.unr i := by
  have h1 := (List.getElem?_eq_some_iff.1 h).1
  have h2 : (i : Int) < s.cnt := by rw [← list_len]; omega
  refine ⟨h2, ?_⟩
  rw [list_unr h2] at h
  exact (Bd.l_inj (Option.some.inj h)).symm
theorem unr_in {s : Bd} (hs : s.Ok) (n : Nat) : (s.unr n).Ok ∧ (s.unr n).Le s := by
  have hs' := hs
  obtain ⟨a, b, c, d, e, f, rfl⟩ := Bd.nat hs.pos
  rw [unr_nat]
  unfold Bd.Ok nB at hs'
  simp only at hs'
  have m1 := Nat.mod_lt (n / (f + 1) / (e + 1) / (d + 1) / (c + 1) / (b + 1)) (show 0 < a + 1 by omega)
  have m2 := Nat.mod_lt (n / (f + 1) / (e + 1) / (d + 1) / (c + 1)) (show 0 < b + 1 by omega)
  have m3 := Nat.mod_lt (n / (f + 1) / (e + 1) / (d + 1)) (show 0 < c + 1 by omega)
  have m4 := Nat.mod_lt (n / (f + 1) / (e + 1)) (show 0 < d + 1 by omega)
  have m5 := Nat.mod_lt (n / (f + 1)) (show 0 < e + 1 by omega)
  have m6 := Nat.mod_lt n (show 0 < f + 1 by omega)
  unfold Bd.Ok Bd.Le nB
  simp only
  generalize n / (f + 1) / (e + 1) / (d + 1) / (c + 1) / (b + 1) % (a + 1) = x1 at *
  generalize n / (f + 1) / (e + 1) / (d + 1) / (c + 1) % (b + 1) = x2 at *
  generalize n / (f + 1) / (e + 1) / (d + 1) % (c + 1) = x3 at *
  generalize n / (f + 1) / (e + 1) % (d + 1) = x4 at *
  generalize n / (f + 1) % (e + 1) = x5 at *
  generalize n % (f + 1) = x6 at *
  omega
theorem horner_at {s : Bd} {n : Nat} (hn : (n : Int) < s.cnt) : s.horner (s.unr n) = n := by
  have h : s.cnt ≠ 0 := by omega
  rw [cnt_prod h] at hn
  obtain ⟨a, b, c, d, e, f, rfl⟩ := Bd.nat (Bd.ok_of_cnt h).pos
  rw [prod_nat] at hn
  exact horner_unr a b c d e f n (by omega)
theorem unr_at {s b : Bd} (h : s.cnt ≠ 0) (hb : b.Ok) (hle : b.Le s) : ∃ n : Nat, s.horner b = n ∧ (n : Int) < s.cnt ∧ s.unr n = b := by
  rw [cnt_prod h]
  obtain ⟨a, b', c, d, e, f, rfl⟩ := Bd.nat (Bd.ok_of_cnt h).pos
  obtain ⟨u, v, w, x, y, z, rfl⟩ := Bd.nat hb.pos
  unfold Bd.Le nB at hle
  simp only at hle
  obtain ⟨n, h1, h2, h3⟩ := unr_horner a b' c d e f u v w x y z (by omega) (by omega) (by omega) (by omega) (by omega) (by omega)
  exact ⟨n, h1, by rw [prod_nat]; omega, h3⟩
theorem rank_found {s b : Bd} {i : Nat} (h : s.list[i]? = some b.l) : s.rank b = ((i : Int), 0) := by
  obtain ⟨h1, rfl⟩ := at_lt h
  have hc : s.cnt ≠ 0 := by omega
  obtain ⟨h2, h3⟩ := unr_in (Bd.ok_of_cnt hc) i
  rw [Bd.rank, if_pos ⟨hc, h2, h3⟩, horner_at h1]
theorem rank_none {s b : Bd} (h : ∀ i : Nat, s.list[i]? ≠ some b.l) : s.rank b = (0, 4) := by
  rw [Bd.rank, if_neg]
  rintro ⟨h1, h2, h3⟩
  obtain ⟨n, _, h5, h6⟩ := unr_at h1 h2 h3
  exact h n (by rw [list_unr h5, h6])
theorem unrank_found {s b : Bd} {n : Int} (hn : 0 ≤ n) (h : s.list[n.toNat]? = some b.l) : s.unrank n = (b, 0) := by
  obtain ⟨h1, rfl⟩ := at_lt h
  have : ((n.toNat : Nat) : Int) = n := by omega
  rw [this] at h1 ⊢
  rw [Bd.unrank, if_pos ⟨hn, h1⟩]
theorem unrank_none {s : Bd} {n : Int} (h : n < 0 ∨ (s.list.length : Int) ≤ n) : s.unrank n = (Bd.zero, 4) := by
  rw [list_len] at h
  rw [Bd.unrank, if_neg (by omega)]
/-- Rank and Unrank are inverse to each other. -/
theorem rank_unrank {s : Bd} {n : Int} (h : 0 ≤ n ∧ n < s.cnt) : s.rank (s.unrank n).1 = (n, 0) := by
  rw [Bd.unrank, if_pos h]
  have : ((n.toNat : Nat) : Int) = n := by omega
  have h1 : ((n.toNat : Nat) : Int) < s.cnt := by omega
  have := rank_found (list_unr h1)
  rw [‹((n.toNat : Nat) : Int) = n›] at this
  exact this
end Go.Bun
namespace Go.Bun
open Go.Sx
theorem lexs {p q r r' m : Nat} (h : p < q) (hr : r ≤ m) : p * (m + 1) + r < q * (m + 1) + r' := by
  have : (p + 1) * (m + 1) ≤ q * (m + 1) := Nat.mul_le_mul_right _ h
  rw [Nat.add_mul, Nat.one_mul] at this
  omega
def hN (b c d e f u v w x y z : Nat) : Nat := ((((u * (b + 1) + v) * (c + 1) + w) * (d + 1) + x) * (e + 1) + y) * (f + 1) + z
theorem horner_hN (a b c d e f u v w x y z : Nat) : (nB a b c d e f).horner (nB u v w x y z) = hN b c d e f u v w x y z := by
  have hc : ∀ x : Nat, ((x : Int) + 1) = ((x + 1 : Nat) : Int) := fun _ => rfl
  simp only [Bd.horner, nB, hN, hc, ← Int.natCast_mul, ← Int.natCast_add, Int.zero_mul, Int.zero_add]
theorem cmp_nat {b c d e f u v w x y z u' v' w' x' y' z' : Nat} (hv : v ≤ b) (hw : w ≤ c) (hx : x ≤ d) (hy : y ≤ e) (hz : z ≤ f) (hv' : v' ≤ b) (hw' : w' ≤ c) (hx' : x' ≤ d) (hy' : y' ≤ e) (hz' : z' ≤ f) :
    (nB u v w x y z).compare (nB u' v' w' x' y' z') = if hN b c d e f u v w x y z < hN b c d e f u' v' w' x' y' z' then -1 else if hN b c d e f u' v' w' x' y' z' < hN b c d e f u v w x y z then 1 else 0 := by
  simp only [Bd.compare, Bd.l, Bd.cmpL, nB]
  unfold hN
  rcases Nat.lt_trichotomy u u' with h | rfl | h
  · rw [if_pos (by omega), if_pos (lexs (lexs (lexs (lexs (lexs h hv) hw) hx) hy) hz)]
  · rw [if_neg (by omega), if_neg (by omega)]
    rcases Nat.lt_trichotomy v v' with h | rfl | h
    · rw [if_pos (by omega), if_pos (lexs (lexs (lexs (lexs (by omega) hw) hx) hy) hz)]
    · rw [if_neg (by omega), if_neg (by omega)]
      rcases Nat.lt_trichotomy w w' with h | rfl | h
      · rw [if_pos (by omega), if_pos (lexs (lexs (lexs (by omega) hx) hy) hz)]
      · rw [if_neg (by omega), if_neg (by omega)]
        rcases Nat.lt_trichotomy x x' with h | rfl | h
        · rw [if_pos (by omega), if_pos (lexs (lexs (by omega) hy) hz)]
        · rw [if_neg (by omega), if_neg (by omega)]
          rcases Nat.lt_trichotomy y y' with h | rfl | h
          · rw [if_pos (by omega), if_pos (lexs (by omega) hz)]
          · rw [if_neg (by omega), if_neg (by omega)]
            rcases Nat.lt_trichotomy z z' with h | rfl | h
            · rw [if_pos (by omega), if_pos (by omega)]
            · rw [if_neg (by omega), if_neg (by omega), if_neg (by omega), if_neg (by omega)]
            · rw [if_neg (by omega), if_pos (by omega), if_neg (by omega), if_pos (by omega)]
          · have := lexs (r := z') (r' := z) (m := f) (show (((u * (b + 1) + v) * (c + 1) + w) * (d + 1) + x) * (e + 1) + y' < (((u * (b + 1) + v) * (c + 1) + w) * (d + 1) + x) * (e + 1) + y by omega) hz'
            rw [if_neg (by omega), if_pos (by omega), if_neg (by omega), if_pos (by omega)]
        · have := lexs (r' := z) (lexs (r' := y) (show ((u * (b + 1) + v) * (c + 1) + w) * (d + 1) + x' < ((u * (b + 1) + v) * (c + 1) + w) * (d + 1) + x by omega) hy') hz'
          rw [if_neg (by omega), if_pos (by omega), if_neg (by omega), if_pos (by omega)]
      · have := lexs (r' := z) (lexs (r' := y) (lexs (r' := x) (show (u * (b + 1) + v) * (c + 1) + w' < (u * (b + 1) + v) * (c + 1) + w by omega) hx') hy') hz'
        rw [if_neg (by omega), if_pos (by omega), if_neg (by omega), if_pos (by omega)]
    · have := lexs (r' := z) (lexs (r' := y) (lexs (r' := x) (lexs (r' := w) (show u * (b + 1) + v' < u * (b + 1) + v by omega) hw') hx') hy') hz'
      rw [if_neg (by omega), if_pos (by omega), if_neg (by omega), if_pos (by omega)]
  · have := lexs (r' := z) (lexs (r' := y) (lexs (r' := x) (lexs (r' := w) (lexs (r' := v) h hv') hw') hx') hy') hz'
    rw [if_neg (by omega), if_pos (by omega), if_neg (by omega), if_pos (by omega)]

/-- Compare orders as the ranks do. -/
theorem cmp_unr {s : Bd} {n m : Nat} (hn : (n : Int) < s.cnt) (hm : (m : Int) < s.cnt) : (s.unr n).compare (s.unr m) = if n < m then -1 else if m < n then 1 else 0 := by
  have h : s.cnt ≠ 0 := by omega
  have k1 := horner_at hn
  have k2 := horner_at hm
  have l1 := unr_in (Bd.ok_of_cnt h) n
  have l2 := unr_in (Bd.ok_of_cnt h) m
  obtain ⟨a, b, c, d, e, f, rfl⟩ := Bd.nat (Bd.ok_of_cnt h).pos
  obtain ⟨u, v, w, x, y, z, hx⟩ := Bd.nat l1.1.pos
  obtain ⟨u', v', w', x', y', z', hx'⟩ := Bd.nat l2.1.pos
  rw [hx] at k1 l1 ⊢
  rw [hx'] at k2 l2 ⊢
  rw [horner_hN] at k1 k2
  have e1 := l1.2
  have e2 := l2.2
  unfold Bd.Le nB at e1 e2
  simp only at e1 e2
  rw [cmp_nat (b := b) (c := c) (d := d) (e := e) (f := f) (by omega) (by omega) (by omega) (by omega) (by omega) (by omega) (by omega) (by omega) (by omega) (by omega)]
  have k1' : hN b c d e f u v w x y z = n := by omega
  have k2' : hN b c d e f u' v' w' x' y' z' = m := by omega
  rw [k1', k2']
end Go.Bun
