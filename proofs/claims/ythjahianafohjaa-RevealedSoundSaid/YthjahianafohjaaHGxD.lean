/- Shortest ways: lowering values in rounds, as plain law. -/
import Derived.Test.YthjahianafohjaaHTxA
set_option linter.unusedSimpArgs false
set_option linter.unusedVariables false
namespace Go.Bf
def upd {α : Type} (f : Nat → α) (b : Nat) (x : α) : Nat → α := fun i => if i = b then x else f i
theorem upd_eq {α : Type} (f : Nat → α) (b : Nat) (x : α) : upd f b x b = x := if_pos rfl
theorem upd_ne {α : Type} (f : Nat → α) {b i : Nat} (x : α) (h : i ≠ b) : upd f b x i = f i := if_neg h
/-- In round r (from 1 on), before the pair (a, b); c: the round of the last change, t: its moment; T moments so far. -/
structure Inv (n : Nat) (g : Nat → Nat → Int) (v f : Nat → Int) (c t : Nat → Nat) (T r a b : Nat) : Prop where
  par : ∀ x, x < n → c x ≠ 0 → ∃ p : Nat, p < n ∧ f x = (p : Int) ∧ p ≠ x ∧ v p + g p x ≤ v x ∧ (t x < t p → v p + g p x < v x) ∧ c x ≤ c p + 1
  uniq : ∀ x y, x < n → y < n → c x ≠ 0 → c y ≠ 0 → t x = t y → x = y
  tle : ∀ x, x < n → t x ≤ T
  cle : ∀ x, x < n → c x ≤ r
  done : ∀ x y, x < n → y < n → (x < a ∨ (x = a ∧ y < b)) → v y ≤ v x + g x y ∨ c x = r
  todo : ∀ x y, x < n → y < n → v y ≤ v x + g x y ∨ r ≤ c x + 1
  low : ∀ x, x < n → -(24000000 * (T : Int)) ≤ v x ∧ v x ≤ 0
variable {n : Nat} {g : Nat → Nat → Int} {v f : Nat → Int} {c t : Nat → Nat} {T r a b : Nat}
theorem Inv.start (n : Nat) (g : Nat → Nat → Int) (v f : Nat → Int) (hv : ∀ x, x < n → v x = 0) : Inv n g v f (fun _ => 0) (fun _ => 0) 0 1 0 0 where
  par := fun x _ h => absurd rfl h
  uniq := fun x y _ _ h => absurd rfl h
  tle := fun x _ => Nat.le_refl _
  cle := fun x _ => Nat.zero_le _
  done := fun x y _ _ h => by omega
  todo := fun x y _ _ => .inr (by omega)
  low := fun x hx => by rw [hv x hx]; omega
theorem Inv.keep (h : Inv n g v f c t T r a b) (hb : v b ≤ v a + g a b) : Inv n g v f c t (T + 1) r a (b + 1) where
  par := h.par
  uniq := h.uniq
  tle := fun x hx => Nat.le_succ_of_le (h.tle x hx)
  cle := h.cle
  done := fun x y hx hy hd => by
    by_cases hy2 : x = a ∧ y = b
    · obtain ⟨rfl, rfl⟩ := hy2; exact .inl hb
    · exact h.done x y hx hy (by omega)
  todo := h.todo
  low := fun x hx => by have := h.low x hx; omega
theorem Inv.lower (h : Inv n g v f c t T r a b) (ha : a < n) (hbn : b < n) (hr : 1 ≤ r) (hg : -24000000 ≤ g a b) (hd : g a a = 0) (hb : v a + g a b < v b) :
    Inv n g (upd v b (v a + g a b)) (upd f b (a : Int)) (upd c b r) (upd t b (T + 1)) (T + 1) r a (b + 1) := by
  have hab : a ≠ b := by rintro rfl; omega
  have hcr : r ≤ c a + 1 := by
    rcases h.todo a b ha hbn with h1 | h1
    · omega
    · exact h1
  refine ⟨?_, ?_, ?_, ?_, ?_, ?_, ?_⟩
  · intro x hx hcx
    by_cases hxb : x = b
    · subst hxb
      refine ⟨a, ha, upd_eq _ _ _, hab, ?_, ?_, ?_⟩
      · rw [upd_eq, upd_ne v _ hab]; omega
      · intro ht
        rw [upd_eq, upd_ne t _ hab] at ht
        have := h.tle a ha; omega
      · rw [upd_eq, upd_ne c _ hab]; exact hcr
    · rw [upd_ne c _ hxb] at hcx
      obtain ⟨p, p1, p2, p3, p4, p5, p6⟩ := h.par x hx hcx
      refine ⟨p, p1, by rw [upd_ne f _ hxb]; exact p2, p3, ?_, ?_, ?_⟩
      · rw [upd_ne v _ hxb]
        by_cases hpb : p = b
        · subst hpb; rw [upd_eq]; omega
        · rw [upd_ne v _ hpb]; exact p4
      · rw [upd_ne v _ hxb, upd_ne t _ hxb]
        by_cases hpb : p = b
        · subst hpb; rw [upd_eq, upd_eq]; intro _; omega
        · rw [upd_ne v _ hpb, upd_ne t _ hpb]; exact p5
      · rw [upd_ne c _ hxb]
        by_cases hpb : p = b
        · subst hpb; rw [upd_eq]; have := h.cle x hx; omega
        · rw [upd_ne c _ hpb]; exact p6
  · intro x y hx hy hcx hcy ht
    by_cases hxb : x = b
    · by_cases hyb : y = b
      · omega
      · rw [hxb, upd_eq, upd_ne t _ hyb] at ht
        have := h.tle y hy; omega
    · by_cases hyb : y = b
      · rw [hyb, upd_eq, upd_ne t _ hxb] at ht
        have := h.tle x hx; omega
      · rw [upd_ne t _ hxb, upd_ne t _ hyb] at ht
        rw [upd_ne c _ hxb] at hcx
        rw [upd_ne c _ hyb] at hcy
        exact h.uniq x y hx hy hcx hcy ht
  · intro x hx
    by_cases hxb : x = b
    · rw [hxb, upd_eq]; omega
    · rw [upd_ne t _ hxb]; have := h.tle x hx; omega
  · intro x hx
    by_cases hxb : x = b
    · rw [hxb, upd_eq]; omega
    · rw [upd_ne c _ hxb]; exact h.cle x hx
  · intro x y hx hy hdn
    by_cases hxb : x = b
    · right; rw [hxb, upd_eq]
    · rw [upd_ne c _ hxb, upd_ne v _ hxb]
      by_cases hyb : y = b
      · subst hyb
        rw [upd_eq]
        by_cases hxa : x = a
        · subst hxa; left; omega
        · rcases h.done x y hx hy (by omega) with h1 | h1
          · left; omega
          · exact .inr h1
      · rw [upd_ne v _ hyb]
        exact h.done x y hx hy (by omega)
  · intro x y hx hy
    by_cases hxb : x = b
    · right; rw [hxb, upd_eq]; omega
    · rw [upd_ne c _ hxb, upd_ne v _ hxb]
      by_cases hyb : y = b
      · subst hyb
        rw [upd_eq]
        rcases h.todo x y hx hy with h1 | h1
        · left; omega
        · exact .inr h1
      · rw [upd_ne v _ hyb]; exact h.todo x y hx hy
  · intro x hx
    have h1 := h.low a ha
    have h2 := h.low b hbn
    by_cases hxb : x = b
    · rw [hxb, upd_eq]; omega
    · rw [upd_ne v _ hxb]; have := h.low x hx; omega
theorem Inv.row (h : Inv n g v f c t T r a n) : Inv n g v f c t T r (a + 1) 0 where
  par := h.par
  uniq := h.uniq
  tle := h.tle
  cle := h.cle
  done := fun x y hx hy hd => h.done x y hx hy (by omega)
  todo := h.todo
  low := h.low
theorem Inv.round (h : Inv n g v f c t T r n 0) : Inv n g v f c t T (r + 1) 0 0 where
  par := h.par
  uniq := h.uniq
  tle := h.tle
  cle := fun x hx => Nat.le_succ_of_le (h.cle x hx)
  done := fun x y hx hy hd => by omega
  todo := fun x y hx hy => by
    rcases h.done x y hx hy (.inl hx) with h1 | h1
    · exact .inl h1
    · right; omega
  low := h.low
/-- A round without a change: the values exceed no gain. -/
theorem Inv.stable (h : Inv n g v f c t T r n 0) (hc : ∀ x, x < n → c x ≠ r) : ∀ x y, x < n → y < n → v y ≤ v x + g x y := by
  intro x y hx hy
  rcases h.done x y hx hy (.inl hx) with h1 | h1
  · exact h1
  · exact absurd h1 (hc x hx)
/-- Numbers below n, none of them twice. -/
theorem few : ∀ (n : Nat) (l : List Nat), l.Nodup → (∀ x ∈ l, x < n) → l.length ≤ n
  | 0, l, _, h => by
    cases l with
    | nil => exact Nat.le_refl _
    | cons x l => exact absurd (h x (List.mem_cons_self)) (by omega)
  | n + 1, l, hn, h => by
    have h1 := few n (l.erase n) (hn.erase n) (fun x hx => by
      have h2 := (hn.mem_erase_iff).1 hx
      have := h x h2.2
      have := h2.1
      omega)
    by_cases hm : n ∈ l
    · have := List.length_erase_of_mem hm; omega
    · rw [List.erase_of_not_mem hm] at h1; omega
/-- The links back from a choice. -/
def chain (f : Nat → Int) (z : Nat) : Nat → Nat
  | 0 => z
  | i + 1 => (f (chain f z i)).toNat
/-- What holds when every round changed something. -/
structure Fin (n : Nat) (g : Nat → Nat → Int) (v f : Nat → Int) (c t : Nat → Nat) (z : Nat) : Prop where
  par : ∀ x, x < n → c x ≠ 0 → ∃ p : Nat, p < n ∧ f x = (p : Int) ∧ p ≠ x ∧ v p + g p x ≤ v x ∧ (t x < t p → v p + g p x < v x) ∧ c x ≤ c p + 1
  uniq : ∀ x y, x < n → y < n → c x ≠ 0 → c y ≠ 0 → t x = t y → x = y
  hz : z < n
  cz : n ≤ c z
variable {z : Nat}
theorem Fin.at_lt (h : Fin n g v f c t z) : ∀ i, i ≤ n → chain f z i < n ∧ n ≤ c (chain f z i) + i
  | 0, _ => ⟨h.hz, h.cz⟩
  | i + 1, hi => by
    obtain ⟨h1, h2⟩ := h.at_lt i (by omega)
    obtain ⟨p, p1, p2, _, _, _, p6⟩ := h.par _ h1 (by omega)
    simp only [chain, p2, Int.toNat_natCast]
    exact ⟨p1, by omega⟩
theorem Fin.link (h : Fin n g v f c t z) {i : Nat} (hi : i < n) : f (chain f z i) = (chain f z (i + 1) : Int) ∧ chain f z (i + 1) ≠ chain f z i ∧
    v (chain f z (i + 1)) + g (chain f z (i + 1)) (chain f z i) ≤ v (chain f z i) ∧
    (t (chain f z i) < t (chain f z (i + 1)) → v (chain f z (i + 1)) + g (chain f z (i + 1)) (chain f z i) < v (chain f z i)) ∧ c (chain f z i) ≠ 0 := by
  obtain ⟨h1, h2⟩ := h.at_lt i (by omega)
  obtain ⟨p, p1, p2, p3, p4, p5, p6⟩ := h.par _ h1 (by omega)
  simp only [chain, p2, Int.toNat_natCast, true_and]
  exact ⟨p3, p4, p5, by omega⟩
/-- The first so many links, all distinct: fewer than n, or the chain has closed. -/
theorem Fin.short (h : Fin n g v f c t z) {k : Nat} (hk : k ≤ n) (hn : ((List.range k).map (chain f z)).Nodup) (hx : chain f z k ∉ (List.range k).map (chain f z)) : k < n := by
  have hk1 : ((List.range (k + 1)).map (chain f z)).Nodup := by
    rw [List.range_succ, List.map_append, List.nodup_append]
    refine ⟨hn, by simp, ?_⟩
    intro a ha b hb
    simp only [List.map_cons, List.map_nil, List.mem_singleton] at hb
    rintro rfl
    subst hb
    exact hx ha
  have := few n _ hk1 (fun x hx => by
    obtain ⟨i, hi, rfl⟩ := List.mem_map.1 hx
    exact (h.at_lt i (by have := List.mem_range.1 hi; omega)).1)
  have h2 : k + 1 ≤ n := by simpa using this
  exact h2
/-- On a closed part of the chain some link is strict. -/
theorem Fin.strict (h : Fin n g v f c t z) {j k : Nat} (hjk : j < k) (hk : k ≤ n) (e : chain f z k = chain f z j) : ∃ i, j ≤ i ∧ i < k ∧ v (chain f z (i + 1)) + g (chain f z (i + 1)) (chain f z i) < v (chain f z i) := by
  refine Classical.byContradiction fun hne => ?_
  have hle : ∀ i, j ≤ i → i < k → t (chain f z (i + 1)) ≤ t (chain f z i) := fun i h1 h2 => by
    refine Nat.le_of_not_lt fun hlt => hne ⟨i, h1, h2, (h.link (by omega)).2.2.2.1 hlt⟩
  have hdown : ∀ d i, j ≤ i → i + d ≤ k → t (chain f z (i + d)) ≤ t (chain f z i) := by
    intro d
    induction d with
    | zero => intro i _ _; exact Nat.le_refl _
    | succ d ih =>
      intro i h1 h2
      have := ih i h1 (by omega)
      have := hle (i + d) (by omega) (by omega)
      rw [show i + (d + 1) = i + d + 1 from rfl]; omega
  have e1 := hle j (Nat.le_refl _) hjk
  have e2 := hdown (k - (j + 1)) (j + 1) (by omega) (by omega)
  rw [show j + 1 + (k - (j + 1)) = k by omega, e] at e2
  have hte : t (chain f z (j + 1)) = t (chain f z j) := by omega
  have l0 := h.link (i := j) (by omega)
  have a0 := h.at_lt j (by omega)
  have a1 := h.at_lt (j + 1) (by omega)
  have hc1 : c (chain f z (j + 1)) ≠ 0 := by
    by_cases hj : j + 1 < n
    · exact (h.link hj).2.2.2.2
    · have : k = j + 1 := by omega
      subst this; rw [e]; exact l0.2.2.2.2
  exact l0.2.1 (h.uniq _ _ a1.1 a0.1 hc1 l0.2.2.2.2 hte)
/-- The chain closes. -/
theorem Fin.closes (h : Fin n g v f c t z) : ∃ j k, j < k ∧ k ≤ n ∧ chain f z k = chain f z j := by
  refine Classical.byContradiction fun hne => ?_
  have nd : ∀ k, k ≤ n + 1 → ((List.range k).map (chain f z)).Nodup := by
    intro k
    induction k with
    | zero => intro _; simp
    | succ k ih =>
      intro hk
      rw [List.range_succ, List.map_append, List.nodup_append]
      refine ⟨ih (by omega), by simp, ?_⟩
      intro a ha b hb
      simp only [List.map_cons, List.map_nil, List.mem_singleton] at hb
      rintro rfl
      subst hb
      obtain ⟨i, hi, e⟩ := List.mem_map.1 ha
      have := List.mem_range.1 hi
      exact hne ⟨i, k, this, by omega, e.symm⟩
  have := few n _ (nd (n + 1) (Nat.le_refl _)) (fun x hx => by
    obtain ⟨i, hi, rfl⟩ := List.mem_map.1 hx
    exact (h.at_lt i (by have := List.mem_range.1 hi; omega)).1)
  rw [List.length_map, List.length_range] at this
  omega
/-- So no values exceed no gain. -/
theorem Fin.none (h : Fin n g v f c t z) (π : Nat → Int) (hp : ∀ x y, x < n → y < n → π y ≤ π x + g x y) : False := by
  obtain ⟨j, k, hjk, hk, e⟩ := h.closes
  obtain ⟨i, h1, h2, h3⟩ := h.strict hjk hk e
  have hle : ∀ m, m < k → v (chain f z (m + 1)) - π (chain f z (m + 1)) ≤ v (chain f z m) - π (chain f z m) := fun m hm => by
    have l0 := h.link (i := m) (by omega)
    have := hp _ _ (h.at_lt (m + 1) (by omega)).1 (h.at_lt m (by omega)).1
    omega
  have hdown : ∀ d m, m + d ≤ k → v (chain f z (m + d)) - π (chain f z (m + d)) ≤ v (chain f z m) - π (chain f z m) := by
    intro d
    induction d with
    | zero => intro m _; exact Int.le_refl _
    | succ d ih =>
      intro m h2
      have := ih m (by omega)
      have := hle (m + d) (by omega)
      rw [show m + (d + 1) = m + d + 1 from rfl]; omega
  have d1 := hdown (i - j) j (by omega)
  have d2 := hdown (k - (i + 1)) (i + 1) (by omega)
  have := hp _ _ (h.at_lt (i + 1) (by omega)).1 (h.at_lt i (by omega)).1
  rw [show j + (i - j) = i by omega] at d1
  rw [show i + 1 + (k - (i + 1)) = k by omega, e] at d2
  omega
end Go.Bf
