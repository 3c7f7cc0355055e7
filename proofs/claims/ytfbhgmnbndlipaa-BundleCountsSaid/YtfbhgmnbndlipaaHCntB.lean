/- The laws BundleCounts and BundleRanks: true, whatever comes in. -/
import Derived.Test.YtfbhgmnbndlipaaHCnt
set_option linter.unusedSimpArgs false
set_option linter.unusedVariables false
namespace Go.Proofs.Ytfbhgmnbndlipaa
open Go.Sx Go.Bun

theorem bundleCounts_ct (S b : Bd) (s : Hp) : Ct Try.prog 3 [S.v, b.v] s (fun v _ => v = .bool true) := by
  obtain ⟨n, hn⟩ : ∃ n, n = (S.rank b).1 := ⟨_, rfl⟩
  obtain ⟨e, he⟩ : ∃ n, n = (S.rank b).2 := ⟨_, rfl⟩
  obtain ⟨c, hc⟩ : ∃ n, n = S.cnt := ⟨_, rfl⟩
  have c1 : ∀ s1 : Hp, Ct Try.prog 9 [S.v, b.v] s1 (fun w _ => w = .tuple #[.int .i64 n, .int .i64 e]) := fun s1 => by rw [hn, he]; exact rank_ct S b s1
  have c2 : ∀ s1 : Hp, Ct Try.prog 10 [S.v, b.v] s1 (fun w _ => w = .tuple #[.int .i64 n, .int .i64 e]) := fun s1 => by rw [hn, he]; exact rrank_ct S b s1
  have c3 : ∀ s1 : Hp, Ct Try.prog 11 [S.v] s1 (fun w _ => w = .int .i64 c) := fun s1 => by rw [hc]; exact count_ct S s1
  have c4 : ∀ s1 : Hp, Ct Try.prog 12 [S.v] s1 (fun w _ => w = .int .i64 c) := fun s1 => by rw [hc]; exact rcount_ct S s1
  refine o_bundleCounts_ct (S.l ++ b.l) [] [] rfl rfl rfl rfl (fun w0 => ?_)
  unfold o_bundleCounts
  conv => arg 5; simp only [List.cons_append, List.nil_append, List.append_nil, Bd.l]
  refine vc_call _ _ ([n, e]) ([]) ([]) (fun s1 _ => c1 s1) (fun _ => rfl) rfl rfl rfl rfl rfl (fun s1 _ => ?_)
  conv => arg 5; simp only [List.cons_append, List.nil_append, List.append_nil, Bd.l]
  refine vc_call _ _ ([n, e]) ([]) ([]) (fun s1 _ => c2 s1) (fun _ => rfl) rfl rfl rfl rfl rfl (fun s1 _ => ?_)
  conv => arg 5; simp only [List.cons_append, List.nil_append, List.append_nil, Bd.l]
  refine vc_call _ _ ([c]) ([]) ([]) (fun s1 _ => c3 s1) (fun _ => rfl) rfl rfl rfl rfl rfl (fun s1 _ => ?_)
  conv => arg 5; simp only [List.cons_append, List.nil_append, List.append_nil, Bd.l]
  refine vc_call _ _ ([c]) ([]) ([]) (fun s1 _ => c4 s1) (fun _ => rfl) rfl rfl rfl rfl rfl (fun s1 _ => ?_)
  conv => arg 5; simp only [List.cons_append, List.nil_append, List.append_nil, Bd.l]
  refine vc_ite (fun _ => ?_) (fun h => by simp [BE.den, IE.den, SV.den, SV.dens, List.getD_cons_zero, List.getD_cons_succ, List.cons_append, List.nil_append, List.append_assoc, ltB_true, leB_true, eqB_true, ltB_false, leB_false, eqB_false, Bool.not_eq_true', Bool.not_eq_false', Bool.and_eq_true, Bool.or_eq_true, Bool.and_eq_false_iff, Bool.or_eq_false_iff] at h)
  refine vc_ite (fun _ => ?_) (fun h => by simp [BE.den, IE.den, SV.den, SV.dens, List.getD_cons_zero, List.getD_cons_succ, List.cons_append, List.nil_append, List.append_assoc, ltB_true, leB_true, eqB_true, ltB_false, leB_false, eqB_false, Bool.not_eq_true', Bool.not_eq_false', Bool.and_eq_true, Bool.or_eq_true, Bool.and_eq_false_iff, Bool.or_eq_false_iff] at h)
  refine vc_ite (fun _ => (vc_call _ _ [] [true] [] (fun s1 _ => lives_ct s1) (fun _ => rfl) rfl rfl rfl rfl rfl (fun s1 _ => vc_ret (fun _ _ _ _ => rfl)))) (fun h => by simp [BE.den, IE.den, SV.den, SV.dens, List.getD_cons_zero, List.getD_cons_succ, List.cons_append, List.nil_append, List.append_assoc, ltB_true, leB_true, eqB_true, ltB_false, leB_false, eqB_false, Bool.not_eq_true', Bool.not_eq_false', Bool.and_eq_true, Bool.or_eq_true, Bool.and_eq_false_iff, Bool.or_eq_false_iff] at h)

theorem unrank_zero {S : Bd} {n : Int} (h : (S.unrank n).2 = 0) : (0 ≤ n ∧ n < S.cnt) ∧ (S.unrank n).1 = S.unr n := by
  rw [Bd.unrank] at h ⊢
  split at h
  · rename_i h1; exact ⟨h1, by rw [if_pos h1]⟩
  · simp at h

theorem bundleRanks_ct (S : Bd) (n m : Int) (hn : n ≤ 9223372036854775807) (hm : m ≤ 9223372036854775807) (s : Hp) : Ct Try.prog 4 [S.v, .int .i64 n, .int .i64 m] s (fun v _ => v = .bool true) := by
  obtain ⟨u, hu⟩ : ∃ u, u = (S.unrank n).1 := ⟨_, rfl⟩
  obtain ⟨e, he⟩ : ∃ u, u = (S.unrank n).2 := ⟨_, rfl⟩
  obtain ⟨w, hw⟩ : ∃ u, u = (S.unrank m).1 := ⟨_, rfl⟩
  obtain ⟨g, hg⟩ : ∃ u, u = (S.unrank m).2 := ⟨_, rfl⟩
  have c1 : ∀ s1 : Hp, Ct Try.prog 14 [S.v, .int .i64 n] s1 (fun v _ => v = .tuple #[u.v, .int .i64 e]) := fun s1 => by rw [hu, he]; exact unrank_ct S n hn s1
  have c2 : ∀ s1 : Hp, Ct Try.prog 15 [S.v, .int .i64 n] s1 (fun v _ => v = .tuple #[u.v, .int .i64 e]) := fun s1 => by rw [hu, he]; exact runrank_ct S n s1
  have c3 : ∀ s1 : Hp, Ct Try.prog 14 [S.v, .int .i64 m] s1 (fun v _ => v = .tuple #[w.v, .int .i64 g]) := fun s1 => by rw [hw, hg]; exact unrank_ct S m hm s1
  refine o_bundleRanks_ct (S.l ++ [n, m]) [] [] rfl rfl rfl rfl (fun w0 => ?_)
  unfold o_bundleRanks
  conv => arg 5; simp only [List.cons_append, List.nil_append, List.append_nil, Bd.l]
  refine vc_call _ _ (u.l ++ [e]) ([]) ([]) (fun s1 _ => c1 s1) (fun _ => rfl) rfl rfl rfl rfl rfl (fun s1 _ => ?_)
  conv => arg 5; simp only [List.cons_append, List.nil_append, List.append_nil, Bd.l]
  refine vc_call _ _ (u.l ++ [e]) ([]) ([]) (fun s1 _ => c2 s1) (fun _ => rfl) rfl rfl rfl rfl rfl (fun s1 _ => ?_)
  conv => arg 5; simp only [List.cons_append, List.nil_append, List.append_nil, Bd.l]
  refine vc_ite (fun h => by simp [BE.den, IE.den, SV.den, SV.dens, List.getD_cons_zero, List.getD_cons_succ, List.cons_append, List.nil_append, List.append_assoc, ltB_true, leB_true, eqB_true, ltB_false, leB_false, eqB_false, Bool.not_eq_true', Bool.not_eq_false', Bool.and_eq_true, Bool.or_eq_true, Bool.and_eq_false_iff, Bool.or_eq_false_iff] at h) (fun _ => ?_)
  refine vc_ite (fun h => by simp [BE.den, IE.den, SV.den, SV.dens, List.getD_cons_zero, List.getD_cons_succ, List.cons_append, List.nil_append, List.append_assoc, ltB_true, leB_true, eqB_true, ltB_false, leB_false, eqB_false, Bool.not_eq_true', Bool.not_eq_false', Bool.and_eq_true, Bool.or_eq_true, Bool.and_eq_false_iff, Bool.or_eq_false_iff] at h) (fun _ => ?_)
  refine vc_ite (fun _ => (vc_call _ _ [] [true] [] (fun s1 _ => lives_ct s1) (fun _ => rfl) rfl rfl rfl rfl rfl (fun s1 _ => vc_ret (fun _ _ _ _ => rfl)))) (fun h => ?_)
  simp only [BE.den, IE.den, SV.den, SV.dens, List.getD_cons_zero, List.getD_cons_succ, List.cons_append, List.nil_append, List.append_assoc, ltB_true, leB_true, eqB_true, ltB_false, leB_false, eqB_false, Bool.not_eq_true', Bool.not_eq_false', Bool.and_eq_true, Bool.or_eq_true, Bool.and_eq_false_iff, Bool.or_eq_false_iff] at h
  subst h
  obtain ⟨r1, r2⟩ := unrank_zero he.symm
  have c4 : ∀ s1 : Hp, Ct Try.prog 9 [S.v, u.v] s1 (fun v _ => v = .tuple #[.int .i64 n, .int .i64 0]) := fun s1 => by
    have := rank_ct S u s1
    rw [hu, rank_unrank r1] at this
    rw [hu]; exact this
  refine vc_call _ _ ([n, 0]) ([]) ([]) (fun s1 _ => c4 s1) (fun _ => rfl) rfl rfl rfl rfl rfl (fun s1 _ => ?_)
  conv => arg 5; simp only [List.cons_append, List.nil_append, List.append_nil, Bd.l]
  refine vc_ite (fun h => by simp [BE.den, IE.den, SV.den, SV.dens, List.getD_cons_zero, List.getD_cons_succ, List.cons_append, List.nil_append, List.append_assoc, ltB_true, leB_true, eqB_true, ltB_false, leB_false, eqB_false, Bool.not_eq_true', Bool.not_eq_false', Bool.and_eq_true, Bool.or_eq_true, Bool.and_eq_false_iff, Bool.or_eq_false_iff] at h) (fun _ => ?_)
  refine vc_ite (fun h => by simp [BE.den, IE.den, SV.den, SV.dens, List.getD_cons_zero, List.getD_cons_succ, List.cons_append, List.nil_append, List.append_assoc, ltB_true, leB_true, eqB_true, ltB_false, leB_false, eqB_false, Bool.not_eq_true', Bool.not_eq_false', Bool.and_eq_true, Bool.or_eq_true, Bool.and_eq_false_iff, Bool.or_eq_false_iff] at h) (fun _ => ?_)
  refine vc_call _ _ (w.l ++ [g]) ([]) ([]) (fun s1 _ => c3 s1) (fun _ => rfl) rfl rfl rfl rfl rfl (fun s1 _ => ?_)
  conv => arg 5; simp only [List.cons_append, List.nil_append, List.append_nil, Bd.l]
  refine vc_ite (fun _ => (vc_call _ _ [] [true] [] (fun s1 _ => lives_ct s1) (fun _ => rfl) rfl rfl rfl rfl rfl (fun s1 _ => vc_ret (fun _ _ _ _ => rfl)))) (fun h => ?_)
  simp only [BE.den, IE.den, SV.den, SV.dens, List.getD_cons_zero, List.getD_cons_succ, List.cons_append, List.nil_append, List.append_assoc, ltB_true, leB_true, eqB_true, ltB_false, leB_false, eqB_false, Bool.not_eq_true', Bool.not_eq_false', Bool.and_eq_true, Bool.or_eq_true, Bool.and_eq_false_iff, Bool.or_eq_false_iff] at h
  subst h
  obtain ⟨q1, q2⟩ := unrank_zero hg.symm
  have en : ((n.toNat : Nat) : Int) = n := by omega
  have em : ((m.toNat : Nat) : Int) = m := by omega
  have hcmp : u.compare w = if n.toNat < m.toNat then -1 else if m.toNat < n.toNat then 1 else 0 := by
    have := cmp_unr (s := S) (n := n.toNat) (m := m.toNat) (by omega) (by omega)
    rw [en, em] at this
    rw [hu, hw, r2, q2]; exact this
  have c5 : ∀ (z : Int), u.compare w = z → ∀ s1 : Hp, Ct Try.prog 16 [u.v, w.v] s1 (fun v _ => v = .int .i64 z) := fun z hz s1 => by rw [← hz]; exact cmp_ct u w s1
  refine vc_ite (fun h => ?_) (fun h => ?_)
  · simp only [BE.den, IE.den, SV.den, SV.dens, List.getD_cons_zero, List.getD_cons_succ, List.cons_append, List.nil_append, List.append_assoc, ltB_true, leB_true, eqB_true, ltB_false, leB_false, eqB_false, Bool.not_eq_true', Bool.not_eq_false', Bool.and_eq_true, Bool.or_eq_true, Bool.and_eq_false_iff, Bool.or_eq_false_iff] at h
    refine vc_call _ _ ([-1]) ([]) ([]) (fun s1 _ => c5 (-1) (by rw [hcmp, if_pos (by omega)]) s1) (fun _ => rfl) rfl rfl rfl rfl rfl (fun s1 _ => ?_)
    conv => arg 5; simp only [List.cons_append, List.nil_append, List.append_nil, Bd.l]
    refine vc_ite (fun _ => (vc_call _ _ [] [true] [] (fun s1 _ => lives_ct s1) (fun _ => rfl) rfl rfl rfl rfl rfl (fun s1 _ => vc_ret (fun _ _ _ _ => rfl)))) (fun h => by simp [BE.den, IE.den, SV.den, SV.dens, List.getD_cons_zero, List.getD_cons_succ, List.cons_append, List.nil_append, List.append_assoc, ltB_true, leB_true, eqB_true, ltB_false, leB_false, eqB_false, Bool.not_eq_true', Bool.not_eq_false', Bool.and_eq_true, Bool.or_eq_true, Bool.and_eq_false_iff, Bool.or_eq_false_iff] at h)
  · simp only [BE.den, IE.den, SV.den, SV.dens, List.getD_cons_zero, List.getD_cons_succ, List.cons_append, List.nil_append, List.append_assoc, ltB_true, leB_true, eqB_true, ltB_false, leB_false, eqB_false, Bool.not_eq_true', Bool.not_eq_false', Bool.and_eq_true, Bool.or_eq_true, Bool.and_eq_false_iff, Bool.or_eq_false_iff] at h
    refine vc_ite (fun h => ?_) (fun h => ?_)
    · simp only [BE.den, IE.den, SV.den, SV.dens, List.getD_cons_zero, List.getD_cons_succ, List.cons_append, List.nil_append, List.append_assoc, ltB_true, leB_true, eqB_true, ltB_false, leB_false, eqB_false, Bool.not_eq_true', Bool.not_eq_false', Bool.and_eq_true, Bool.or_eq_true, Bool.and_eq_false_iff, Bool.or_eq_false_iff] at h
      refine vc_call _ _ ([1]) ([]) ([]) (fun s1 _ => c5 1 (by rw [hcmp, if_neg (by omega), if_pos (by omega)]) s1) (fun _ => rfl) rfl rfl rfl rfl rfl (fun s1 _ => ?_)
      conv => arg 5; simp only [List.cons_append, List.nil_append, List.append_nil, Bd.l]
      refine vc_ite (fun _ => (vc_call _ _ [] [true] [] (fun s1 _ => lives_ct s1) (fun _ => rfl) rfl rfl rfl rfl rfl (fun s1 _ => vc_ret (fun _ _ _ _ => rfl)))) (fun h => by simp [BE.den, IE.den, SV.den, SV.dens, List.getD_cons_zero, List.getD_cons_succ, List.cons_append, List.nil_append, List.append_assoc, ltB_true, leB_true, eqB_true, ltB_false, leB_false, eqB_false, Bool.not_eq_true', Bool.not_eq_false', Bool.and_eq_true, Bool.or_eq_true, Bool.and_eq_false_iff, Bool.or_eq_false_iff] at h)
    · simp only [BE.den, IE.den, SV.den, SV.dens, List.getD_cons_zero, List.getD_cons_succ, List.cons_append, List.nil_append, List.append_assoc, ltB_true, leB_true, eqB_true, ltB_false, leB_false, eqB_false, Bool.not_eq_true', Bool.not_eq_false', Bool.and_eq_true, Bool.or_eq_true, Bool.and_eq_false_iff, Bool.or_eq_false_iff] at h
      refine vc_call _ _ ([0]) ([]) ([]) (fun s1 _ => c5 0 (by rw [hcmp, if_neg (by omega), if_neg (by omega)]) s1) (fun _ => rfl) rfl rfl rfl rfl rfl (fun s1 _ => ?_)
      conv => arg 5; simp only [List.cons_append, List.nil_append, List.append_nil, Bd.l]
      refine vc_ite (fun _ => (vc_call _ _ [] [true] [] (fun s1 _ => lives_ct s1) (fun _ => rfl) rfl rfl rfl rfl rfl (fun s1 _ => vc_ret (fun _ _ _ _ => rfl)))) (fun h => by simp [BE.den, IE.den, SV.den, SV.dens, List.getD_cons_zero, List.getD_cons_succ, List.cons_append, List.nil_append, List.append_assoc, ltB_true, leB_true, eqB_true, ltB_false, leB_false, eqB_false, Bool.not_eq_true', Bool.not_eq_false', Bool.and_eq_true, Bool.or_eq_true, Bool.and_eq_false_iff, Bool.or_eq_false_iff] at h)
end Go.Proofs.Ytfbhgmnbndlipaa
