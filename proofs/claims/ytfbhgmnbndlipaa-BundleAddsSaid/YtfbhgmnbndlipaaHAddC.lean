/- The law BundleAdds: true, whatever comes in. -/
import Derived.Test.YtfbhgmnbndlipaaHAddB
set_option linter.unusedSimpArgs false
set_option linter.unusedVariables false
namespace Go.Proofs.Ytfbhgmnbndlipaa
open Go.Sx Go.Bun

theorem bundleAdds_ct (a b p : Bd) (s : Hp) : Ct Try.prog 6 [a.v, b.v, p.v] s (fun v _ => v = .bool true) := by
  refine o_bundleAdds_ct (a.l ++ (b.l ++ p.l)) [] [] rfl rfl rfl rfl (fun w0 => ?_)
  unfold o_bundleAdds
  conv => arg 5; simp only [List.cons_append, List.nil_append, List.append_nil, Bd.l]
  refine vc_call _ _ ([]) ([decide (Small 1000000 a)]) ([]) (fun s1 _ => mod_ct a s1) (fun _ => rfl) rfl rfl rfl rfl rfl (fun s1 _ => ?_)
  conv => arg 5; simp only [List.cons_append, List.nil_append, List.append_nil, Bd.l]
  refine vc_ite (fun _ => (vc_call _ _ [] [true] [] (fun s1 _ => lives_ct s1) (fun _ => rfl) rfl rfl rfl rfl rfl (fun s1 _ => vc_ret (fun _ _ _ _ => rfl)))) (fun ha => ?_)
  refine vc_call _ _ ([]) ([decide (Small 1000000 b)]) ([]) (fun s1 _ => mod_ct b s1) (fun _ => rfl) rfl rfl rfl rfl rfl (fun s1 _ => ?_)
  conv => arg 5; simp only [List.cons_append, List.nil_append, List.append_nil, Bd.l]
  refine vc_ite (fun _ => (vc_call _ _ [] [true] [] (fun s1 _ => lives_ct s1) (fun _ => rfl) rfl rfl rfl rfl rfl (fun s1 _ => vc_ret (fun _ _ _ _ => rfl)))) (fun hb => ?_)
  iterate 12 (refine vc_ite (fun _ => (vc_call _ _ [] [true] [] (fun s1 _ => lives_ct s1) (fun _ => rfl) rfl rfl rfl rfl rfl (fun s1 _ => vc_ret (fun _ _ _ _ => rfl)))) (fun _ => ?_))
  rename_i h1 h2 h3 h4 h5 h6 h7 h8 h9 h10 h11 h12
  simp only [BE.den, IE.den, SV.den, SV.dens, List.getD_cons_zero, List.getD_cons_succ, List.cons_append, List.nil_append, List.append_assoc, ltB_true, leB_true, eqB_true, ltB_false, leB_false, eqB_false, Bool.not_eq_true', Bool.not_eq_false', Bool.and_eq_true, Bool.or_eq_true, Bool.and_eq_false_iff, Bool.or_eq_false_iff, Bd.l, decide_eq_true_eq, decide_eq_false_iff_not] at ha hb h1 h2 h3 h4 h5 h6 h7 h8 h9 h10 h11 h12
  have hp : Small 1000000000 p := by unfold Small Bd.all; omega
  have ha' := small_more (B := 1000000000000) ha (by decide)
  have hb' := small_more (B := 1000000000000) hb (by decide)
  obtain ⟨x, hx⟩ : ∃ x, x = a.add b := ⟨_, rfl⟩
  obtain ⟨y, hy⟩ : ∃ x, x = a.sub b := ⟨_, rfl⟩
  obtain ⟨n, hn⟩ : ∃ x, x = a.total := ⟨_, rfl⟩
  obtain ⟨m, hm⟩ : ∃ x, x = p.cost a := ⟨_, rfl⟩
  obtain ⟨u, hu⟩ : ∃ x, x = a.meet b := ⟨_, rfl⟩
  obtain ⟨v, hv⟩ : ∃ x, x = a.join b := ⟨_, rfl⟩
  have huv : u.add v = x := by rw [hu, hv, hx]; exact meet_join a b
  have su : Small 1000000000000 u := hu ▸ small_meet ha' hb'
  have sv : Small 1000000000000 v := hv ▸ small_join ha' hb'
  have c1 : ∀ s1 : Hp, Ct Try.prog 27 [a.v, b.v] s1 (fun w _ => w = x.v) := fun s1 => by rw [hx]; exact add_ct a b s1 ha' hb'
  have c2 : ∀ s1 : Hp, Ct Try.prog 28 [a.v, b.v] s1 (fun w _ => w = x.v) := fun s1 => by rw [hx]; exact radd_ct a b s1 ha' hb'
  have c3 : ∀ s1 : Hp, Ct Try.prog 29 [a.v, b.v] s1 (fun w _ => w = y.v) := fun s1 => by rw [hy]; exact sub_ct a b s1 ha' hb'
  have c4 : ∀ s1 : Hp, Ct Try.prog 30 [a.v, b.v] s1 (fun w _ => w = y.v) := fun s1 => by rw [hy]; exact rsub_ct a b s1 ha' hb'
  have c5 : ∀ s1 : Hp, Ct Try.prog 31 [a.v] s1 (fun w _ => w = .int .i64 n) := fun s1 => by rw [hn]; exact total_ct a s1 ha
  have c6 : ∀ s1 : Hp, Ct Try.prog 32 [a.v] s1 (fun w _ => w = .int .i64 n) := fun s1 => by rw [hn]; exact rtotal_ct a s1 ha
  have c7 : ∀ s1 : Hp, Ct Try.prog 33 [p.v, a.v] s1 (fun w _ => w = .int .i64 m) := fun s1 => by rw [hm]; exact cost_ct p a s1 hp ha
  have c8 : ∀ s1 : Hp, Ct Try.prog 34 [p.v, a.v] s1 (fun w _ => w = .int .i64 m) := fun s1 => by rw [hm]; exact rcost_ct p a s1 hp ha
  have c9 : ∀ s1 : Hp, Ct Try.prog 19 [a.v, b.v] s1 (fun w _ => w = u.v) := fun s1 => by rw [hu]; exact meet_ct a b s1
  have c10 : ∀ s1 : Hp, Ct Try.prog 21 [a.v, b.v] s1 (fun w _ => w = v.v) := fun s1 => by rw [hv]; exact join_ct a b s1
  have c11 : ∀ s1 : Hp, Ct Try.prog 27 [u.v, v.v] s1 (fun w _ => w = x.v) := fun s1 => by rw [← huv]; exact add_ct u v s1 su sv
  refine vc_call _ _ (x.l) ([]) ([]) (fun s1 _ => c1 s1) (fun _ => rfl) rfl rfl rfl rfl rfl (fun s1 _ => ?_)
  conv => arg 5; simp only [List.cons_append, List.nil_append, List.append_nil, Bd.l]
  refine vc_call _ _ (x.l) ([]) ([]) (fun s1 _ => c2 s1) (fun _ => rfl) rfl rfl rfl rfl rfl (fun s1 _ => ?_)
  conv => arg 5; simp only [List.cons_append, List.nil_append, List.append_nil, Bd.l]
  refine vc_ite (fun _ => ?_) (fun h => by simp [BE.den, IE.den, SV.den, SV.dens, List.getD_cons_zero, List.getD_cons_succ, List.cons_append, List.nil_append, List.append_assoc, ltB_true, leB_true, eqB_true, ltB_false, leB_false, eqB_false, Bool.not_eq_true', Bool.not_eq_false', Bool.and_eq_true, Bool.or_eq_true, Bool.and_eq_false_iff, Bool.or_eq_false_iff, Bd.l] at h)
  refine vc_call _ _ (y.l) ([]) ([]) (fun s1 _ => c3 s1) (fun _ => rfl) rfl rfl rfl rfl rfl (fun s1 _ => ?_)
  conv => arg 5; simp only [List.cons_append, List.nil_append, List.append_nil, Bd.l]
  refine vc_call _ _ (y.l) ([]) ([]) (fun s1 _ => c4 s1) (fun _ => rfl) rfl rfl rfl rfl rfl (fun s1 _ => ?_)
  conv => arg 5; simp only [List.cons_append, List.nil_append, List.append_nil, Bd.l]
  refine vc_ite (fun _ => ?_) (fun h => by simp [BE.den, IE.den, SV.den, SV.dens, List.getD_cons_zero, List.getD_cons_succ, List.cons_append, List.nil_append, List.append_assoc, ltB_true, leB_true, eqB_true, ltB_false, leB_false, eqB_false, Bool.not_eq_true', Bool.not_eq_false', Bool.and_eq_true, Bool.or_eq_true, Bool.and_eq_false_iff, Bool.or_eq_false_iff, Bd.l] at h)
  refine vc_call _ _ ([n]) ([]) ([]) (fun s1 _ => c5 s1) (fun _ => rfl) rfl rfl rfl rfl rfl (fun s1 _ => ?_)
  conv => arg 5; simp only [List.cons_append, List.nil_append, List.append_nil, Bd.l]
  refine vc_call _ _ ([n]) ([]) ([]) (fun s1 _ => c6 s1) (fun _ => rfl) rfl rfl rfl rfl rfl (fun s1 _ => ?_)
  conv => arg 5; simp only [List.cons_append, List.nil_append, List.append_nil, Bd.l]
  refine vc_ite (fun _ => ?_) (fun h => by simp [BE.den, IE.den, SV.den, SV.dens, List.getD_cons_zero, List.getD_cons_succ, List.cons_append, List.nil_append, List.append_assoc, ltB_true, leB_true, eqB_true, ltB_false, leB_false, eqB_false, Bool.not_eq_true', Bool.not_eq_false', Bool.and_eq_true, Bool.or_eq_true, Bool.and_eq_false_iff, Bool.or_eq_false_iff, Bd.l] at h)
  refine vc_call _ _ ([m]) ([]) ([]) (fun s1 _ => c7 s1) (fun _ => rfl) rfl rfl rfl rfl rfl (fun s1 _ => ?_)
  conv => arg 5; simp only [List.cons_append, List.nil_append, List.append_nil, Bd.l]
  refine vc_call _ _ ([m]) ([]) ([]) (fun s1 _ => c8 s1) (fun _ => rfl) rfl rfl rfl rfl rfl (fun s1 _ => ?_)
  conv => arg 5; simp only [List.cons_append, List.nil_append, List.append_nil, Bd.l]
  refine vc_ite (fun _ => ?_) (fun h => by simp [BE.den, IE.den, SV.den, SV.dens, List.getD_cons_zero, List.getD_cons_succ, List.cons_append, List.nil_append, List.append_assoc, ltB_true, leB_true, eqB_true, ltB_false, leB_false, eqB_false, Bool.not_eq_true', Bool.not_eq_false', Bool.and_eq_true, Bool.or_eq_true, Bool.and_eq_false_iff, Bool.or_eq_false_iff, Bd.l] at h)
  refine vc_call _ _ (u.l) ([]) ([]) (fun s1 _ => c9 s1) (fun _ => rfl) rfl rfl rfl rfl rfl (fun s1 _ => ?_)
  conv => arg 5; simp only [List.cons_append, List.nil_append, List.append_nil, Bd.l]
  refine vc_call _ _ (v.l) ([]) ([]) (fun s1 _ => c10 s1) (fun _ => rfl) rfl rfl rfl rfl rfl (fun s1 _ => ?_)
  conv => arg 5; simp only [List.cons_append, List.nil_append, List.append_nil, Bd.l]
  refine vc_call _ _ (x.l) ([]) ([]) (fun s1 _ => c11 s1) (fun _ => rfl) rfl rfl rfl rfl rfl (fun s1 _ => ?_)
  conv => arg 5; simp only [List.cons_append, List.nil_append, List.append_nil, Bd.l]
  refine vc_ite (fun _ => (vc_call _ _ [] [true] [] (fun s1 _ => lives_ct s1) (fun _ => rfl) rfl rfl rfl rfl rfl (fun s1 _ => vc_ret (fun _ _ _ _ => rfl)))) (fun h => by simp [BE.den, IE.den, SV.den, SV.dens, List.getD_cons_zero, List.getD_cons_succ, List.cons_append, List.nil_append, List.append_assoc, ltB_true, leB_true, eqB_true, ltB_false, leB_false, eqB_false, Bool.not_eq_true', Bool.not_eq_false', Bool.and_eq_true, Bool.or_eq_true, Bool.and_eq_false_iff, Bool.or_eq_false_iff, Bd.l] at h)
end Go.Proofs.Ytfbhgmnbndlipaa
