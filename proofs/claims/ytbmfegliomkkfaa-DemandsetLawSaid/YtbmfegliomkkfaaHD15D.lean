/- The laws of demandset, but DemandsetLaw: the walks. -/
import Derived.Test.YtbmfegliomkkfaaHD15C
import Derived.Test.YtbmfegliomkkfaaHSxX
set_option linter.unusedSimpArgs false
set_option linter.unusedVariables false
namespace Go.Proofs.Ytbmfegliomkkfaa
open Go.Sx Go.Bun

def o_lives : Out :=
  (.call 19 [(.sl 0 2), (.agg [(.int .i64 (.l 1)), (.int .i64 (.l 1)), (.int .i64 (.l 0)), (.int .i64 (.l 0)), (.int .i64 (.l 0)), (.int .i64 (.l 0))]), (.agg [(.int .i64 (.l 3)), (.int .i64 (.l 2)), (.int .i64 (.l 0)), (.int .i64 (.l 0)), (.int .i64 (.l 0)), (.int .i64 (.l 0))])] [(.cells [(.int .i64 (.l 0)), (.int .i64 (.l 1)), (.int .i64 (.l 0)), (.int .i64 (.l 0)), (.int .i64 (.l 0)), (.int .i64 (.l 0)), (.int .i64 (.l 0)), (.int .i64 (.l 10)), (.int .i64 (.l 0)), (.int .i64 (.l 1)), (.int .i64 (.l 1)), (.int .i64 (.l 0)), (.int .i64 (.l 0)), (.int .i64 (.l 0)), (.int .i64 (.l 0)), (.int .i64 (.l 12))] 65 true), (.cells [(.int .i64 (.l 3)), (.int .i64 (.l 2)), (.int .i64 (.l 0)), (.int .i64 (.l 0)), (.int .i64 (.l 0)), (.int .i64 (.l 0))] 24 false), (.cells [(.int .i64 (.l 1)), (.int .i64 (.l 1)), (.int .i64 (.l 0)), (.int .i64 (.l 0)), (.int .i64 (.l 0)), (.int .i64 (.l 0))] 26 false)] (.tup [(.agg [(.int .i64 (.a 0)), (.int .i64 (.a 1)), (.int .i64 (.a 2)), (.int .i64 (.a 3)), (.int .i64 (.a 4)), (.int .i64 (.a 5))]), (.int .i64 (.a 6))]) 7 0 0
  (.call 21 [(.sl 0 2), (.agg [(.int .i64 (.l 1)), (.int .i64 (.l 1)), (.int .i64 (.l 0)), (.int .i64 (.l 0)), (.int .i64 (.l 0)), (.int .i64 (.l 0))]), (.agg [(.int .i64 (.l 3)), (.int .i64 (.l 2)), (.int .i64 (.l 0)), (.int .i64 (.l 0)), (.int .i64 (.l 0)), (.int .i64 (.l 0))])] [(.cells [(.int .i64 (.l 0)), (.int .i64 (.l 1)), (.int .i64 (.l 0)), (.int .i64 (.l 0)), (.int .i64 (.l 0)), (.int .i64 (.l 0)), (.int .i64 (.l 0)), (.int .i64 (.l 10)), (.int .i64 (.l 0)), (.int .i64 (.l 1)), (.int .i64 (.l 1)), (.int .i64 (.l 0)), (.int .i64 (.l 0)), (.int .i64 (.l 0)), (.int .i64 (.l 0)), (.int .i64 (.l 12))] 65 true), (.cells [(.int .i64 (.l 3)), (.int .i64 (.l 2)), (.int .i64 (.l 0)), (.int .i64 (.l 0)), (.int .i64 (.l 0)), (.int .i64 (.l 0))] 24 false), (.cells [(.int .i64 (.l 1)), (.int .i64 (.l 1)), (.int .i64 (.l 0)), (.int .i64 (.l 0)), (.int .i64 (.l 0)), (.int .i64 (.l 0))] 26 false), (.cells [(.int .i64 (.a 0)), (.int .i64 (.a 1)), (.int .i64 (.a 2)), (.int .i64 (.a 3)), (.int .i64 (.a 4)), (.int .i64 (.a 5))] 26 false)] (.va 0) 0 0 1
  (.call 26 [(.sl 0 2), (.agg [(.int .i64 (.l 1)), (.int .i64 (.l 1)), (.int .i64 (.l 0)), (.int .i64 (.l 0)), (.int .i64 (.l 0)), (.int .i64 (.l 0))]), (.sl 4 1)] [(.cells [(.int .i64 (.l 0)), (.int .i64 (.l 1)), (.int .i64 (.l 0)), (.int .i64 (.l 0)), (.int .i64 (.l 0)), (.int .i64 (.l 0)), (.int .i64 (.l 0)), (.int .i64 (.l 10)), (.int .i64 (.l 0)), (.int .i64 (.l 1)), (.int .i64 (.l 1)), (.int .i64 (.l 0)), (.int .i64 (.l 0)), (.int .i64 (.l 0)), (.int .i64 (.l 0)), (.int .i64 (.l 12))] 65 true), (.cells [(.int .i64 (.l 3)), (.int .i64 (.l 2)), (.int .i64 (.l 0)), (.int .i64 (.l 0)), (.int .i64 (.l 0)), (.int .i64 (.l 0))] 24 false), (.cells [(.int .i64 (.l 1)), (.int .i64 (.l 1)), (.int .i64 (.l 0)), (.int .i64 (.l 0)), (.int .i64 (.l 0)), (.int .i64 (.l 0))] 26 false), (.cells [(.int .i64 (.a 0)), (.int .i64 (.a 1)), (.int .i64 (.a 2)), (.int .i64 (.a 3)), (.int .i64 (.a 4)), (.int .i64 (.a 5))] 26 false), (.cells [(.int .i64 (.l 3)), (.int .i64 (.l 2)), (.int .i64 (.l 0)), (.int .i64 (.l 0)), (.int .i64 (.l 0)), (.int .i64 (.l 0))] 24 true)] (.va 1) 0 0 1
  (.ite (.and (.eq (.a 0) (.l 1)) (.and (.eq (.a 1) (.l 0)) (.and (.eq (.a 2) (.l 0)) (.and (.eq (.a 3) (.l 0)) (.and (.eq (.a 4) (.l 0)) (.eq (.a 5) (.l 0)))))))
  (.ite (.eq (.a 6) (.l 7))
  (.need (.is 0 0)
  (.ite (.eq (.slen 0) (.l 2))
  (.need (.lt (.l 1) (.slen 0))
  (.load (.ea 0 (.l 1) 6 0) [(.int .i64 (.a 7)), (.int .i64 (.a 8)), (.int .i64 (.a 9)), (.int .i64 (.a 10)), (.int .i64 (.a 11)), (.int .i64 (.a 12))] 6 0 0
  (.ite (.and (.eq (.a 7) (.l 1)) (.and (.eq (.a 8) (.l 1)) (.and (.eq (.a 9) (.l 0)) (.and (.eq (.a 10) (.l 0)) (.and (.eq (.a 11) (.l 0)) (.eq (.a 12) (.l 0)))))))
  (.call 16 [(.sl 0 2), (.agg [(.int .i64 (.l 3)), (.int .i64 (.l 2)), (.int .i64 (.l 0)), (.int .i64 (.l 0)), (.int .i64 (.l 0)), (.int .i64 (.l 0))]), (.agg [(.int .i64 (.l 1)), (.int .i64 (.l 1)), (.int .i64 (.l 0)), (.int .i64 (.l 0)), (.int .i64 (.l 0)), (.int .i64 (.l 0))])] [(.cells [(.int .i64 (.l 0)), (.int .i64 (.l 1)), (.int .i64 (.l 0)), (.int .i64 (.l 0)), (.int .i64 (.l 0)), (.int .i64 (.l 0)), (.int .i64 (.l 0)), (.int .i64 (.l 10)), (.int .i64 (.l 0)), (.int .i64 (.l 1)), (.int .i64 (.l 1)), (.int .i64 (.l 0)), (.int .i64 (.l 0)), (.int .i64 (.l 0)), (.int .i64 (.l 0)), (.int .i64 (.l 12))] 65 true), (.cells [(.int .i64 (.l 3)), (.int .i64 (.l 2)), (.int .i64 (.l 0)), (.int .i64 (.l 0)), (.int .i64 (.l 0)), (.int .i64 (.l 0))] 24 false), (.cells [(.int .i64 (.l 1)), (.int .i64 (.l 1)), (.int .i64 (.l 0)), (.int .i64 (.l 0)), (.int .i64 (.l 0)), (.int .i64 (.l 0))] 26 false), (.cells [(.int .i64 (.a 0)), (.int .i64 (.a 1)), (.int .i64 (.a 2)), (.int .i64 (.a 3)), (.int .i64 (.a 4)), (.int .i64 (.a 5))] 26 false), (.cells [(.int .i64 (.l 3)), (.int .i64 (.l 2)), (.int .i64 (.l 0)), (.int .i64 (.l 0)), (.int .i64 (.l 0)), (.int .i64 (.l 0))] 24 true)] (.int .i64 (.a 13)) 1 0 0
  (.ite (.eq (.a 13) (.l 7))
  (.call 16 [(.slc 0 1 2), (.agg [(.int .i64 (.l 3)), (.int .i64 (.l 2)), (.int .i64 (.l 0)), (.int .i64 (.l 0)), (.int .i64 (.l 0)), (.int .i64 (.l 0))]), (.agg [(.int .i64 (.l 1)), (.int .i64 (.l 1)), (.int .i64 (.l 0)), (.int .i64 (.l 0)), (.int .i64 (.l 0)), (.int .i64 (.l 0))])] [(.cells [(.int .i64 (.l 0)), (.int .i64 (.l 1)), (.int .i64 (.l 0)), (.int .i64 (.l 0)), (.int .i64 (.l 0)), (.int .i64 (.l 0)), (.int .i64 (.l 0)), (.int .i64 (.l 10)), (.int .i64 (.l 0)), (.int .i64 (.l 1)), (.int .i64 (.l 1)), (.int .i64 (.l 0)), (.int .i64 (.l 0)), (.int .i64 (.l 0)), (.int .i64 (.l 0)), (.int .i64 (.l 12))] 65 true), (.cells [(.int .i64 (.l 3)), (.int .i64 (.l 2)), (.int .i64 (.l 0)), (.int .i64 (.l 0)), (.int .i64 (.l 0)), (.int .i64 (.l 0))] 24 false), (.cells [(.int .i64 (.l 1)), (.int .i64 (.l 1)), (.int .i64 (.l 0)), (.int .i64 (.l 0)), (.int .i64 (.l 0)), (.int .i64 (.l 0))] 26 false), (.cells [(.int .i64 (.a 0)), (.int .i64 (.a 1)), (.int .i64 (.a 2)), (.int .i64 (.a 3)), (.int .i64 (.a 4)), (.int .i64 (.a 5))] 26 false), (.cells [(.int .i64 (.l 3)), (.int .i64 (.l 2)), (.int .i64 (.l 0)), (.int .i64 (.l 0)), (.int .i64 (.l 0)), (.int .i64 (.l 0))] 24 true)] (.int .i64 (.a 14)) 1 0 0
  (.ite (.eq (.a 14) (.l 5))
  (.need (.is 0 1)
  (.ite (.eq (.slen 1) (.l 1))
  (.need (.lt (.l 0) (.slen 1))
  (.load (.ea 1 (.l 0) 12 0) [(.int .i64 (.a 15)), (.int .i64 (.a 16)), (.int .i64 (.a 17)), (.int .i64 (.a 18)), (.int .i64 (.a 19)), (.int .i64 (.a 20)), (.int .i64 (.a 21)), (.int .i64 (.a 22)), (.int .i64 (.a 23)), (.int .i64 (.a 24)), (.int .i64 (.a 25)), (.int .i64 (.a 26))] 12 0 0
  (.ret (.bool (.and (.eq (.a 15) (.l 3)) (.and (.eq (.a 16) (.l 2)) (.and (.eq (.a 17) (.l 0)) (.and (.eq (.a 18) (.l 0)) (.and (.eq (.a 19) (.l 0)) (.and (.eq (.a 20) (.l 0)) (.and (.eq (.a 21) (.a 0)) (.and (.eq (.a 22) (.a 1)) (.and (.eq (.a 23) (.a 2)) (.and (.eq (.a 24) (.a 3)) (.and (.eq (.a 25) (.a 4)) (.eq (.a 26) (.a 5)))))))))))))) [])))
  (.ret (.bool (.t false)) [])))
  (.ret (.bool (.t false)) [])))
  (.ret (.bool (.t false)) [])))
  (.ret (.bool (.t false)) []))))
  (.ret (.bool (.t false)) [])))
  (.ret (.bool (.t false)) []))
  (.ret (.bool (.t false)) [])))))
theorem o_lives_eq : run (cx true [] []) (fnOf Try.f15) 5000 (startCfg Try.f15.ntmps [] 0 0 0) = o_lives := by kernel_rfl
theorem o_lives_ct {Q : Value → Hp → Prop} {s : Hp} (i : List Int) (b : List Bool) (v : List Value) (hi : i.length = 0) (hb : b.length = 0) (hv : v.length = 0) (hok : v.all fineV = true)
    (h : ∀ w0, VC Try.prog Q (Go.Sx.Reach Try.prog 15 (Ret Q s w0) (fnOf Try.f15).body w0 s) o_lives ⟨i, b, v, []⟩ s) : Ct Try.prog 15 (SV.dens ⟨i, b, v, []⟩ id []) s Q := by
  refine ct_run (fn := fnOf Try.f15) (progOk true [] []) Try.func15 rfl rfl 5000 (fun x hx => List.all_eq_true.1 hok x hx) rfl (fun w0 => ?_)
  rw [hi, hb, hv, o_lives_eq]
  exact h w0

theorem lives_ct (s : Hp) : Ct Try.prog 15 [] s (fun v _ => v = .bool true) := by
  refine o_lives_ct [] [] [] rfl rfl rfl rfl (fun w0 => ?_)
  unfold o_lives
  refine vc_callH (bestV (⟨1, 0, 0, 0, 0, 0⟩, 7)) [1, 0, 0, 0, 0, 0, 7] [] [] (fun β s1 _ hsh => ?_) rfl rfl rfl rfl rfl (fun s1 hs1 => ?_)
  · rw [← ex_best]; exact best_ct exL (by decide) _ exS exP s1 (exL_in (n := 2) (by omega) (by omega) (fun o u hu => hsh 0 _ _ rfl o u hu))
  conv => arg 5; simp only [List.cons_append, List.nil_append, List.append_nil]
  refine vc_callSH 6 ((demand exL exS exP).map Bd.cs) (fun β s1 _ hsh => ?_) rfl (fun dv s2 hs2 hd => ?_)
  · exact demand_ct exL (by decide) _ exS exP s1 (exL_in (n := 2) (by omega) (by omega) (fun o u hu => hsh 0 _ _ rfl o u hu))
  conv => arg 5; simp only [List.cons_append, List.nil_append, List.append_nil]
  rw [ex_demand] at hd
  refine vc_callSH 12 ((path exL exS [exP]).map Ch.cs) (fun β s1 _ hsh => ?_) rfl (fun cv s3 hs3 hc => ?_)
  · exact path_ct exL (by decide) exS [exP] (by decide) _ _ s1 (exL_in (n := 2) (by omega) (by omega) (fun o u hu => hsh 0 _ _ rfl o u hu)) (exP_in (fun o u hu => hsh 4 _ _ rfl o u hu))
  conv => arg 5; simp only [List.cons_append, List.nil_append, List.append_nil]
  have hpe : path exL exS [exP] = [⟨exP, ⟨1, 0, 0, 0, 0, 0⟩⟩] := by unfold path; rw [List.map_cons, ex_best]; rfl
  rw [hpe] at hc
  have hd := hd.mono hs3
  refine vc_ite (fun _ => ?_) (fun h => by simp [BE.den, IE.den, eqB] at h)
  refine vc_ite (fun _ => ?_) (fun h => by simp [BE.den, IE.den, eqB] at h)
  refine vc_need hd.kind (fun _ => ?_)
  have hdl := hd.len
  have hcl := hc.len
  refine vc_ite (fun _ => ?_) (fun h => by exfalso; simp only [BE.den, IE.den, SV.den, SV.dens, List.getD_cons_zero, List.getD_cons_succ, List.cons_append, List.nil_append, List.append_assoc, ltB_true, leB_true, eqB_true, ltB_false, leB_false, eqB_false, Bool.not_eq_true', Bool.not_eq_false', Bool.and_eq_true, Bool.or_eq_true, Bool.and_eq_false_iff, Bool.or_eq_false_iff, hdl] at h; simp at h)
  refine vc_need (by simp only [BE.den, IE.den, SV.den, SV.dens, List.getD_cons_zero, List.getD_cons_succ, List.cons_append, List.nil_append, List.append_assoc, ltB_true, leB_true, eqB_true, ltB_false, leB_false, eqB_false, Bool.not_eq_true', Bool.not_eq_false', Bool.and_eq_true, Bool.or_eq_true, Bool.and_eq_false_iff, Bool.or_eq_false_iff, hdl]; simp) (fun _ => ?_)
  refine vc_load [1, 1, 0, 0, 0, 0] [] [] (Bd.cs ⟨1, 1, 0, 0, 0, 0⟩) (hd.at (k := 1) rfl rfl rfl) rfl rfl rfl rfl rfl ?_
  conv => arg 5; simp only [List.cons_append, List.nil_append, List.append_nil]
  refine vc_ite (fun _ => ?_) (fun h => by simp [BE.den, IE.den, eqB] at h)
  refine vc_callH (.int .i64 7) [7] [] [] (fun β s1 _ hsh => ?_) rfl rfl rfl rfl rfl (fun s4 hs4 => ?_)
  · rw [← ex_util]; exact utility_ct exL (by decide) _ exP exS s1 (exL_in (n := 2) (by omega) (by omega) (fun o u hu => hsh 0 _ _ rfl o u hu))
  conv => arg 5; simp only [List.cons_append, List.nil_append, List.append_nil]
  refine vc_ite (fun _ => ?_) (fun h => by simp [BE.den, IE.den, eqB] at h)
  refine vc_callH (.int .i64 5) [5] [] [] (fun β s1 _ hsh => ?_) rfl rfl rfl rfl rfl (fun s5 hs5 => ?_)
  · rw [← ex_util1]; exact utility_ct (exL.take 1) (by decide) _ exP exS s1 (exL_in (n := 1) (by omega) (by omega) (fun o u hu => hsh 0 _ _ rfl o u hu))
  conv => arg 5; simp only [List.cons_append, List.nil_append, List.append_nil]
  refine vc_ite (fun _ => ?_) (fun h => by simp [BE.den, IE.den, eqB] at h)
  have hc := (hc.mono hs4).mono hs5
  refine vc_need hc.kind (fun _ => ?_)
  refine vc_ite (fun _ => ?_) (fun h => by exfalso; simp only [BE.den, IE.den, SV.den, SV.dens, List.getD_cons_zero, List.getD_cons_succ, List.cons_append, List.nil_append, List.append_assoc, ltB_true, leB_true, eqB_true, ltB_false, leB_false, eqB_false, Bool.not_eq_true', Bool.not_eq_false', Bool.and_eq_true, Bool.or_eq_true, Bool.and_eq_false_iff, Bool.or_eq_false_iff, hcl] at h; simp at h)
  refine vc_need (by simp only [BE.den, IE.den, SV.den, SV.dens, List.getD_cons_zero, List.getD_cons_succ, List.cons_append, List.nil_append, List.append_assoc, ltB_true, leB_true, eqB_true, ltB_false, leB_false, eqB_false, Bool.not_eq_true', Bool.not_eq_false', Bool.and_eq_true, Bool.or_eq_true, Bool.and_eq_false_iff, Bool.or_eq_false_iff, hcl]; simp) (fun _ => ?_)
  refine vc_load [3, 2, 0, 0, 0, 0, 1, 0, 0, 0, 0, 0] [] [] (Ch.cs ⟨exP, ⟨1, 0, 0, 0, 0, 0⟩⟩) (hc.at (k := 0) rfl rfl rfl) rfl rfl rfl rfl rfl ?_
  exact vc_ret (fun _ _ _ _ => rfl)

def o_lu : Out :=
  (.need (.is 0 0)
  (.ite (.lt (.l 60) (.slen 0))
  (.call 15 [] [] (.bool (.a 0)) 0 1 0
  (.ret (.bool (.a 0)) []))
  (.call 16 [(.va 0), (.agg [(.int .i64 (.a 0)), (.int .i64 (.a 1)), (.int .i64 (.a 2)), (.int .i64 (.a 3)), (.int .i64 (.a 4)), (.int .i64 (.a 5))]), (.agg [(.int .i64 (.a 6)), (.int .i64 (.a 7)), (.int .i64 (.a 8)), (.int .i64 (.a 9)), (.int .i64 (.a 10)), (.int .i64 (.a 11))])] [] (.int .i64 (.a 12)) 1 0 0
  (.call 17 [(.va 0), (.agg [(.int .i64 (.a 0)), (.int .i64 (.a 1)), (.int .i64 (.a 2)), (.int .i64 (.a 3)), (.int .i64 (.a 4)), (.int .i64 (.a 5))]), (.agg [(.int .i64 (.a 6)), (.int .i64 (.a 7)), (.int .i64 (.a 8)), (.int .i64 (.a 9)), (.int .i64 (.a 10)), (.int .i64 (.a 11))])] [] (.int .i64 (.a 13)) 1 0 0
  (.ite (.eq (.a 12) (.a 13))
  (.call 15 [] [] (.bool (.a 0)) 0 1 0
  (.ret (.bool (.a 0)) []))
  (.ret (.bool (.t false)) []))))))
theorem o_lu_eq : run (cx true [] []) (fnOf Try.f3) 5000 (startCfg Try.f3.ntmps [.va 0, b6 0, b6 6] 12 0 1) = o_lu := by kernel_rfl
theorem o_lu_ct {Q : Value → Hp → Prop} {s : Hp} (i : List Int) (b : List Bool) (v : List Value) (hi : i.length = 12) (hb : b.length = 0) (hv : v.length = 1) (hok : v.all fineV = true)
    (h : ∀ w0, VC Try.prog Q (Go.Sx.Reach Try.prog 3 (Ret Q s w0) (fnOf Try.f3).body w0 s) o_lu ⟨i, b, v, []⟩ s) : Ct Try.prog 3 (SV.dens ⟨i, b, v, []⟩ id [.va 0, b6 0, b6 6]) s Q := by
  refine ct_run (fn := fnOf Try.f3) (progOk true [] []) Try.func3 rfl rfl 5000 (fun x hx => List.all_eq_true.1 hok x hx) rfl (fun w0 => ?_)
  rw [hi, hb, hv, o_lu_eq]
  exact h w0

theorem lu_ct (L : List Of) (lv : Value) (p b : Bd) (s : Hp) (hl : OfIn s lv L) : Ct Try.prog 3 [lv, p.v, b.v] s (fun v s' => v = .bool true) := by
  refine o_lu_ct (p.l ++ b.l) [] [lv] rfl rfl rfl (by simp [hl.fine]) (fun w0 => ?_)
  unfold o_lu
  conv => arg 5; simp only [Bd.l, List.cons_append, List.nil_append]
  refine vc_need hl.kind (fun _ => ?_)
  refine vc_ite (fun h => ?_) (fun h => ?_) <;> simp only [BE.den, IE.den, SV.den, SV.dens, List.getD_cons_zero, List.getD_cons_succ, List.cons_append, List.nil_append, List.append_assoc, ltB_true, leB_true, eqB_true, ltB_false, leB_false, eqB_false, Bool.not_eq_true', Bool.not_eq_false', Bool.and_eq_true, Bool.or_eq_true, Bool.and_eq_false_iff, Bool.or_eq_false_iff, hl.len, List.length_map] at h
  · exact (vc_call _ _ [] [true] [] (fun s1 _ => lives_ct s1) (fun _ => rfl) rfl rfl rfl rfl rfl (fun s1 _ => vc_ret (fun _ _ _ _ => rfl)))
  have hL : L.length ≤ 1000 := by omega
  obtain ⟨u, hu⟩ : ∃ u, u = utility L p b := ⟨_, rfl⟩
  have hct : ∀ s1, s.le s1 → Ct Try.prog 16 [lv, p.v, b.v] s1 (fun v _ => v = .int .i64 u) := fun s1 hs1 => by rw [hu]; exact utility_ct L hL lv p b s1 (hl.mono hs1)
  refine vc_call _ _ [u] [] [] hct (fun _ => rfl) rfl rfl rfl rfl rfl (fun s1 hs1 => ?_)
  conv => arg 5; simp only [List.cons_append, List.nil_append, List.append_nil]
  have hct : ∀ s2, s1.le s2 → Ct Try.prog 17 [lv, p.v, b.v] s2 (fun v _ => v = .int .i64 u) := fun s2 hs2 => by rw [hu]; exact rutility_ct L hL lv p b s2 ((hl.mono hs1).mono hs2)
  refine vc_call _ _ [u] [] [] hct (fun _ => rfl) rfl rfl rfl rfl rfl (fun s2 hs2 => ?_)
  conv => arg 5; simp only [List.cons_append, List.nil_append, List.append_nil]
  refine vc_ite (fun h => ?_) (fun h => ?_)
  · exact (vc_call _ _ [] [true] [] (fun s1 _ => lives_ct s1) (fun _ => rfl) rfl rfl rfl rfl rfl (fun s1 _ => vc_ret (fun _ _ _ _ => rfl)))
  · exfalso; simp [BE.den, IE.den, eqB] at h

/- Two slices, element by element. -/
def lb_o : Out :=
  (.need (.is 0 0)
  (.ite (.lt (.l 60) (.slen 0))
  (.call 15 [] [] (.bool (.a 0)) 0 1 0
  (.ret (.bool (.a 0)) []))
  (.call 18 [(.agg [(.int .i64 (.a 0)), (.int .i64 (.a 1)), (.int .i64 (.a 2)), (.int .i64 (.a 3)), (.int .i64 (.a 4)), (.int .i64 (.a 5))])] [] (.int .i64 (.a 12)) 1 0 0
  (.ite (.lt (.l 400) (.a 12))
  (.call 15 [] [] (.bool (.a 0)) 0 1 0
  (.ret (.bool (.a 0)) []))
  (.call 19 [(.va 0), (.agg [(.int .i64 (.a 0)), (.int .i64 (.a 1)), (.int .i64 (.a 2)), (.int .i64 (.a 3)), (.int .i64 (.a 4)), (.int .i64 (.a 5))]), (.agg [(.int .i64 (.a 6)), (.int .i64 (.a 7)), (.int .i64 (.a 8)), (.int .i64 (.a 9)), (.int .i64 (.a 10)), (.int .i64 (.a 11))])] [] (.tup [(.agg [(.int .i64 (.a 13)), (.int .i64 (.a 14)), (.int .i64 (.a 15)), (.int .i64 (.a 16)), (.int .i64 (.a 17)), (.int .i64 (.a 18))]), (.int .i64 (.a 19))]) 7 0 0
  (.call 20 [(.va 0), (.agg [(.int .i64 (.a 0)), (.int .i64 (.a 1)), (.int .i64 (.a 2)), (.int .i64 (.a 3)), (.int .i64 (.a 4)), (.int .i64 (.a 5))]), (.agg [(.int .i64 (.a 6)), (.int .i64 (.a 7)), (.int .i64 (.a 8)), (.int .i64 (.a 9)), (.int .i64 (.a 10)), (.int .i64 (.a 11))])] [] (.tup [(.agg [(.int .i64 (.a 20)), (.int .i64 (.a 21)), (.int .i64 (.a 22)), (.int .i64 (.a 23)), (.int .i64 (.a 24)), (.int .i64 (.a 25))]), (.int .i64 (.a 26))]) 7 0 0
  (.call 21 [(.va 0), (.agg [(.int .i64 (.a 0)), (.int .i64 (.a 1)), (.int .i64 (.a 2)), (.int .i64 (.a 3)), (.int .i64 (.a 4)), (.int .i64 (.a 5))]), (.agg [(.int .i64 (.a 6)), (.int .i64 (.a 7)), (.int .i64 (.a 8)), (.int .i64 (.a 9)), (.int .i64 (.a 10)), (.int .i64 (.a 11))])] [] (.va 1) 0 0 1
  (.call 22 [(.va 0), (.agg [(.int .i64 (.a 0)), (.int .i64 (.a 1)), (.int .i64 (.a 2)), (.int .i64 (.a 3)), (.int .i64 (.a 4)), (.int .i64 (.a 5))]), (.agg [(.int .i64 (.a 6)), (.int .i64 (.a 7)), (.int .i64 (.a 8)), (.int .i64 (.a 9)), (.int .i64 (.a 10)), (.int .i64 (.a 11))])] [] (.va 2) 0 0 1
  (.ite (.not (.and (.eq (.a 13) (.a 20)) (.and (.eq (.a 14) (.a 21)) (.and (.eq (.a 15) (.a 22)) (.and (.eq (.a 16) (.a 23)) (.and (.eq (.a 17) (.a 24)) (.eq (.a 18) (.a 25))))))))
  (.ret (.bool (.t false)) [])
  (.ite (.not (.eq (.a 19) (.a 26)))
  (.ret (.bool (.t false)) [])
  (.need (.is 0 1)
  (.need (.is 0 2)
  (.ite (.not (.eq (.slen 1) (.slen 2)))
  (.ret (.bool (.t false)) [])
  (.stop { todo := [(.code [false, false, true, false, true, true, true, true, true, true]), (.inLoop [false, false, true, false, true, true, true, true, true, true]), (.inBlock 0), (.code [true, true, true, true, true, true, true])], sl := [(.va 0), (.agg [(.int .i64 (.a 0)), (.int .i64 (.a 1)), (.int .i64 (.a 2)), (.int .i64 (.a 3)), (.int .i64 (.a 4)), (.int .i64 (.a 5))]), (.agg [(.int .i64 (.a 6)), (.int .i64 (.a 7)), (.int .i64 (.a 8)), (.int .i64 (.a 9)), (.int .i64 (.a 10)), (.int .i64 (.a 11))]), .undef, (.ptr 0 0), (.ptr 1 0), (.bool (.t false)), (.ptr 2 0), (.int .i64 (.a 19)), (.ptr 3 0), (.int .i64 (.a 26)), (.va 1), (.va 2), (.int .i64 (.l 0)), (.va 0), (.int .i64 (.slen 0)), (.bool (.lt (.l 60) (.slen 0))), (.bool (.t false)), (.agg [(.int .i64 (.a 0)), (.int .i64 (.a 1)), (.int .i64 (.a 2)), (.int .i64 (.a 3)), (.int .i64 (.a 4)), (.int .i64 (.a 5))]), (.int .i64 (.a 12)), (.bool (.lt (.l 400) (.a 12))), (.bool (.lt (.l 400) (.a 12))), .undef, (.tup [(.agg [(.int .i64 (.a 13)), (.int .i64 (.a 14)), (.int .i64 (.a 15)), (.int .i64 (.a 16)), (.int .i64 (.a 17)), (.int .i64 (.a 18))]), (.int .i64 (.a 19))]), (.va 0), (.agg [(.int .i64 (.a 0)), (.int .i64 (.a 1)), (.int .i64 (.a 2)), (.int .i64 (.a 3)), (.int .i64 (.a 4)), (.int .i64 (.a 5))]), (.agg [(.int .i64 (.a 6)), (.int .i64 (.a 7)), (.int .i64 (.a 8)), (.int .i64 (.a 9)), (.int .i64 (.a 10)), (.int .i64 (.a 11))]), (.tup [(.agg [(.int .i64 (.a 13)), (.int .i64 (.a 14)), (.int .i64 (.a 15)), (.int .i64 (.a 16)), (.int .i64 (.a 17)), (.int .i64 (.a 18))]), (.int .i64 (.a 19))]), (.agg [(.int .i64 (.a 13)), (.int .i64 (.a 14)), (.int .i64 (.a 15)), (.int .i64 (.a 16)), (.int .i64 (.a 17)), (.int .i64 (.a 18))]), (.int .i64 (.a 19)), (.tup [(.agg [(.int .i64 (.a 20)), (.int .i64 (.a 21)), (.int .i64 (.a 22)), (.int .i64 (.a 23)), (.int .i64 (.a 24)), (.int .i64 (.a 25))]), (.int .i64 (.a 26))]), (.va 0), (.agg [(.int .i64 (.a 0)), (.int .i64 (.a 1)), (.int .i64 (.a 2)), (.int .i64 (.a 3)), (.int .i64 (.a 4)), (.int .i64 (.a 5))]), (.agg [(.int .i64 (.a 6)), (.int .i64 (.a 7)), (.int .i64 (.a 8)), (.int .i64 (.a 9)), (.int .i64 (.a 10)), (.int .i64 (.a 11))]), (.tup [(.agg [(.int .i64 (.a 20)), (.int .i64 (.a 21)), (.int .i64 (.a 22)), (.int .i64 (.a 23)), (.int .i64 (.a 24)), (.int .i64 (.a 25))]), (.int .i64 (.a 26))]), (.agg [(.int .i64 (.a 20)), (.int .i64 (.a 21)), (.int .i64 (.a 22)), (.int .i64 (.a 23)), (.int .i64 (.a 24)), (.int .i64 (.a 25))]), (.int .i64 (.a 26)), (.va 0), (.agg [(.int .i64 (.a 0)), (.int .i64 (.a 1)), (.int .i64 (.a 2)), (.int .i64 (.a 3)), (.int .i64 (.a 4)), (.int .i64 (.a 5))]), (.agg [(.int .i64 (.a 6)), (.int .i64 (.a 7)), (.int .i64 (.a 8)), (.int .i64 (.a 9)), (.int .i64 (.a 10)), (.int .i64 (.a 11))]), (.va 1), (.va 0), (.agg [(.int .i64 (.a 0)), (.int .i64 (.a 1)), (.int .i64 (.a 2)), (.int .i64 (.a 3)), (.int .i64 (.a 4)), (.int .i64 (.a 5))]), (.agg [(.int .i64 (.a 6)), (.int .i64 (.a 7)), (.int .i64 (.a 8)), (.int .i64 (.a 9)), (.int .i64 (.a 10)), (.int .i64 (.a 11))]), (.va 2), (.agg [(.int .i64 (.a 13)), (.int .i64 (.a 14)), (.int .i64 (.a 15)), (.int .i64 (.a 16)), (.int .i64 (.a 17)), (.int .i64 (.a 18))]), (.agg [(.int .i64 (.a 20)), (.int .i64 (.a 21)), (.int .i64 (.a 22)), (.int .i64 (.a 23)), (.int .i64 (.a 24)), (.int .i64 (.a 25))]), (.bool (.not (.and (.eq (.a 13) (.a 20)) (.and (.eq (.a 14) (.a 21)) (.and (.eq (.a 15) (.a 22)) (.and (.eq (.a 16) (.a 23)) (.and (.eq (.a 17) (.a 24)) (.eq (.a 18) (.a 25))))))))), (.bool (.t false)), (.int .i64 (.a 19)), (.int .i64 (.a 26)), (.bool (.not (.eq (.a 19) (.a 26)))), (.bool (.not (.eq (.a 19) (.a 26)))), (.bool (.t false)), (.va 1), (.int .i64 (.slen 1)), (.va 2), (.int .i64 (.slen 2)), (.bool (.not (.eq (.slen 1) (.slen 2)))), (.bool (.not (.eq (.slen 1) (.slen 2)))), .undef, .undef, .undef, .undef, .undef, .undef, .undef, .undef, .undef, .undef, .undef, .undef, .undef, .undef, .undef, .undef], H := [(.cells [(.int .i64 (.a 0)), (.int .i64 (.a 1)), (.int .i64 (.a 2)), (.int .i64 (.a 3)), (.int .i64 (.a 4)), (.int .i64 (.a 5))] 26 false), (.cells [(.int .i64 (.a 6)), (.int .i64 (.a 7)), (.int .i64 (.a 8)), (.int .i64 (.a 9)), (.int .i64 (.a 10)), (.int .i64 (.a 11))] 24 false), (.cells [(.int .i64 (.a 13)), (.int .i64 (.a 14)), (.int .i64 (.a 15)), (.int .i64 (.a 16)), (.int .i64 (.a 17)), (.int .i64 (.a 18))] 26 false), (.cells [(.int .i64 (.a 20)), (.int .i64 (.a 21)), (.int .i64 (.a 22)), (.int .i64 (.a 23)), (.int .i64 (.a 24)), (.int .i64 (.a 25))] 26 false)], ni := 27, nb := 0, nv := 3, nj := 0 }))))))))))))))
theorem lb_o_eq : run (cx true [[false, false, true, false, true, true, true, true, true, true]] []) (fnOf Try.f4) 5000 (startCfg Try.f4.ntmps [.va 0, b6 0, b6 6] 12 0 1) = lb_o := by kernel_rfl
theorem lb_o_ct {Q : Value → Hp → Prop} {s : Hp} (i : List Int) (b : List Bool) (v : List Value) (hi : i.length = 12) (hb : b.length = 0) (hv : v.length = 1) (hok : v.all fineV = true)
    (h : ∀ w0, VC Try.prog Q (Go.Sx.Reach Try.prog 4 (Ret Q s w0) (fnOf Try.f4).body w0 s) lb_o ⟨i, b, v, []⟩ s) : Ct Try.prog 4 (SV.dens ⟨i, b, v, []⟩ id [.va 0, b6 0, b6 6]) s Q := by
  refine ct_run (fn := fnOf Try.f4) (progOk true [[false, false, true, false, true, true, true, true, true, true]] []) Try.func4 rfl rfl 5000 (fun x hx => List.all_eq_true.1 hok x hx) rfl (fun w0 => ?_)
  rw [hi, hb, hv, lb_o_eq]
  exact h w0
def lb_a_0 : Asg :=
  ⟨[(.l 0)], [], [(.va 1), (.va 2)], [(.va 0), (.agg [(.int .i64 (.a 0)), (.int .i64 (.a 1)), (.int .i64 (.a 2)), (.int .i64 (.a 3)), (.int .i64 (.a 4)), (.int .i64 (.a 5))]), (.agg [(.int .i64 (.a 6)), (.int .i64 (.a 7)), (.int .i64 (.a 8)), (.int .i64 (.a 9)), (.int .i64 (.a 10)), (.int .i64 (.a 11))]), (.ptr 0 0), (.ptr 1 0), (.bool (.t false)), (.ptr 2 0), (.int .i64 (.a 19)), (.ptr 3 0), (.int .i64 (.a 26)), (.va 0), (.int .i64 (.slen 0)), (.bool (.lt (.l 60) (.slen 0))), (.bool (.t false)), (.agg [(.int .i64 (.a 0)), (.int .i64 (.a 1)), (.int .i64 (.a 2)), (.int .i64 (.a 3)), (.int .i64 (.a 4)), (.int .i64 (.a 5))]), (.int .i64 (.a 12)), (.bool (.lt (.l 400) (.a 12))), (.bool (.lt (.l 400) (.a 12))), (.tup [(.agg [(.int .i64 (.a 13)), (.int .i64 (.a 14)), (.int .i64 (.a 15)), (.int .i64 (.a 16)), (.int .i64 (.a 17)), (.int .i64 (.a 18))]), (.int .i64 (.a 19))]), (.va 0), (.agg [(.int .i64 (.a 0)), (.int .i64 (.a 1)), (.int .i64 (.a 2)), (.int .i64 (.a 3)), (.int .i64 (.a 4)), (.int .i64 (.a 5))]), (.agg [(.int .i64 (.a 6)), (.int .i64 (.a 7)), (.int .i64 (.a 8)), (.int .i64 (.a 9)), (.int .i64 (.a 10)), (.int .i64 (.a 11))]), (.tup [(.agg [(.int .i64 (.a 13)), (.int .i64 (.a 14)), (.int .i64 (.a 15)), (.int .i64 (.a 16)), (.int .i64 (.a 17)), (.int .i64 (.a 18))]), (.int .i64 (.a 19))]), (.agg [(.int .i64 (.a 13)), (.int .i64 (.a 14)), (.int .i64 (.a 15)), (.int .i64 (.a 16)), (.int .i64 (.a 17)), (.int .i64 (.a 18))]), (.int .i64 (.a 19)), (.tup [(.agg [(.int .i64 (.a 20)), (.int .i64 (.a 21)), (.int .i64 (.a 22)), (.int .i64 (.a 23)), (.int .i64 (.a 24)), (.int .i64 (.a 25))]), (.int .i64 (.a 26))]), (.va 0), (.agg [(.int .i64 (.a 0)), (.int .i64 (.a 1)), (.int .i64 (.a 2)), (.int .i64 (.a 3)), (.int .i64 (.a 4)), (.int .i64 (.a 5))]), (.agg [(.int .i64 (.a 6)), (.int .i64 (.a 7)), (.int .i64 (.a 8)), (.int .i64 (.a 9)), (.int .i64 (.a 10)), (.int .i64 (.a 11))]), (.tup [(.agg [(.int .i64 (.a 20)), (.int .i64 (.a 21)), (.int .i64 (.a 22)), (.int .i64 (.a 23)), (.int .i64 (.a 24)), (.int .i64 (.a 25))]), (.int .i64 (.a 26))]), (.agg [(.int .i64 (.a 20)), (.int .i64 (.a 21)), (.int .i64 (.a 22)), (.int .i64 (.a 23)), (.int .i64 (.a 24)), (.int .i64 (.a 25))]), (.int .i64 (.a 26)), (.va 0), (.agg [(.int .i64 (.a 0)), (.int .i64 (.a 1)), (.int .i64 (.a 2)), (.int .i64 (.a 3)), (.int .i64 (.a 4)), (.int .i64 (.a 5))]), (.agg [(.int .i64 (.a 6)), (.int .i64 (.a 7)), (.int .i64 (.a 8)), (.int .i64 (.a 9)), (.int .i64 (.a 10)), (.int .i64 (.a 11))]), (.va 1), (.va 0), (.agg [(.int .i64 (.a 0)), (.int .i64 (.a 1)), (.int .i64 (.a 2)), (.int .i64 (.a 3)), (.int .i64 (.a 4)), (.int .i64 (.a 5))]), (.agg [(.int .i64 (.a 6)), (.int .i64 (.a 7)), (.int .i64 (.a 8)), (.int .i64 (.a 9)), (.int .i64 (.a 10)), (.int .i64 (.a 11))]), (.va 2), (.agg [(.int .i64 (.a 13)), (.int .i64 (.a 14)), (.int .i64 (.a 15)), (.int .i64 (.a 16)), (.int .i64 (.a 17)), (.int .i64 (.a 18))]), (.agg [(.int .i64 (.a 20)), (.int .i64 (.a 21)), (.int .i64 (.a 22)), (.int .i64 (.a 23)), (.int .i64 (.a 24)), (.int .i64 (.a 25))]), (.bool (.not (.and (.eq (.a 13) (.a 20)) (.and (.eq (.a 14) (.a 21)) (.and (.eq (.a 15) (.a 22)) (.and (.eq (.a 16) (.a 23)) (.and (.eq (.a 17) (.a 24)) (.eq (.a 18) (.a 25))))))))), (.bool (.t false)), (.int .i64 (.a 19)), (.int .i64 (.a 26)), (.bool (.not (.eq (.a 19) (.a 26)))), (.bool (.not (.eq (.a 19) (.a 26)))), (.bool (.t false)), (.va 1), (.int .i64 (.slen 1)), (.va 2), (.int .i64 (.slen 2)), (.bool (.not (.eq (.slen 1) (.slen 2)))), (.bool (.not (.eq (.slen 1) (.slen 2)))), .undef, .undef, .undef, .undef, .undef, .undef, .undef, .undef, .undef, .undef, .undef, .undef, .undef, .undef, .undef]⟩
def lb_p0 : Cfg :=
  { todo := [(.code [false, false, true, false, true, true, true, true, true, true]), (.inLoop [false, false, true, false, true, true, true, true, true, true]), (.inBlock 0), (.code [true, true, true, true, true, true, true])], sl := [(.junk 0), (.junk 1), (.junk 2), .undef, (.junk 3), (.junk 4), (.junk 5), (.junk 6), (.junk 7), (.junk 8), (.junk 9), (.va 0), (.va 1), (.int .i64 (.a 0)), (.junk 10), (.junk 11), (.junk 12), (.junk 13), (.junk 14), (.junk 15), (.junk 16), (.junk 17), .undef, (.junk 18), (.junk 19), (.junk 20), (.junk 21), (.junk 22), (.junk 23), (.junk 24), (.junk 25), (.junk 26), (.junk 27), (.junk 28), (.junk 29), (.junk 30), (.junk 31), (.junk 32), (.junk 33), (.junk 34), (.junk 35), (.junk 36), (.junk 37), (.junk 38), (.junk 39), (.junk 40), (.junk 41), (.junk 42), (.junk 43), (.junk 44), (.junk 45), (.junk 46), (.junk 47), (.junk 48), (.junk 49), (.junk 50), (.junk 51), (.junk 52), (.junk 53), (.junk 54), (.junk 55), (.junk 56), (.junk 57), (.junk 58), (.junk 59), (.junk 60), (.junk 61), (.junk 62), (.junk 63), (.junk 64), (.junk 65), (.junk 66), (.junk 67), (.junk 68), (.junk 69), .undef], H := [], ni := 1, nb := 0, nv := 2, nj := 70 }
def lb_o0 : Out :=
  (.need (.is 0 1)
  (.ite (.lt (.a 0) (.slen 1))
  (.need (.and (.le (.l 0) (.a 0)) (.lt (.a 0) (.slen 0)))
  (.need (.and (.le (.l 0) (.a 0)) (.lt (.a 0) (.slen 1)))
  (.load (.ea 0 (.a 0) 6 0) [(.int .i64 (.a 1)), (.int .i64 (.a 2)), (.int .i64 (.a 3)), (.int .i64 (.a 4)), (.int .i64 (.a 5)), (.int .i64 (.a 6))] 6 0 0
  (.load (.ea 1 (.a 0) 6 0) [(.int .i64 (.a 7)), (.int .i64 (.a 8)), (.int .i64 (.a 9)), (.int .i64 (.a 10)), (.int .i64 (.a 11)), (.int .i64 (.a 12))] 6 0 0
  (.ite (.not (.and (.eq (.a 1) (.a 7)) (.and (.eq (.a 2) (.a 8)) (.and (.eq (.a 3) (.a 9)) (.and (.eq (.a 4) (.a 10)) (.and (.eq (.a 5) (.a 11)) (.eq (.a 6) (.a 12))))))))
  (.ret (.bool (.t false)) [])
  (.need (.and (.le (.l (-9223372036854775808)) (.add (.a 0) (.l 1))) (.le (.add (.a 0) (.l 1)) (.l 9223372036854775807)))
  (.stop { todo := [(.code [false, false, true, false, true, true, true, true, true, true]), (.inLoop [false, false, true, false, true, true, true, true, true, true]), (.inBlock 0), (.code [true, true, true, true, true, true, true])], sl := [(.junk 0), (.junk 1), (.junk 2), .undef, (.junk 3), (.junk 4), (.junk 5), (.junk 6), (.junk 7), (.junk 8), (.junk 9), (.va 0), (.va 1), (.int .i64 (.add (.a 0) (.l 1))), (.junk 10), (.junk 11), (.junk 12), (.junk 13), (.junk 14), (.junk 15), (.junk 16), (.junk 17), .undef, (.junk 18), (.junk 19), (.junk 20), (.junk 21), (.junk 22), (.junk 23), (.junk 24), (.junk 25), (.junk 26), (.junk 27), (.junk 28), (.junk 29), (.junk 30), (.junk 31), (.junk 32), (.junk 33), (.junk 34), (.junk 35), (.junk 36), (.junk 37), (.junk 38), (.junk 39), (.junk 40), (.junk 41), (.junk 42), (.junk 43), (.junk 44), (.junk 45), (.junk 46), (.junk 47), (.junk 48), (.junk 49), (.junk 50), (.junk 51), (.junk 52), (.junk 53), (.junk 54), (.int .i64 (.a 0)), (.va 1), (.int .i64 (.slen 1)), (.bool (.lt (.a 0) (.slen 1))), (.int .i64 (.a 0)), (.int .i64 (.add (.a 0) (.l 1))), (.va 0), (.int .i64 (.a 0)), (.ea 0 (.a 0) 6 0), (.agg [(.int .i64 (.a 1)), (.int .i64 (.a 2)), (.int .i64 (.a 3)), (.int .i64 (.a 4)), (.int .i64 (.a 5)), (.int .i64 (.a 6))]), (.va 1), (.int .i64 (.a 0)), (.ea 1 (.a 0) 6 0), (.agg [(.int .i64 (.a 7)), (.int .i64 (.a 8)), (.int .i64 (.a 9)), (.int .i64 (.a 10)), (.int .i64 (.a 11)), (.int .i64 (.a 12))]), (.bool (.not (.and (.eq (.a 1) (.a 7)) (.and (.eq (.a 2) (.a 8)) (.and (.eq (.a 3) (.a 9)) (.and (.eq (.a 4) (.a 10)) (.and (.eq (.a 5) (.a 11)) (.eq (.a 6) (.a 12))))))))), .undef], H := [], ni := 13, nb := 0, nv := 2, nj := 70 })))))))
  (.call 15 [] [] (.bool (.a 0)) 0 1 0
  (.ret (.bool (.a 0)) []))))
theorem lb_o0_eq : run (cx true [[false, false, true, false, true, true, true, true, true, true]] []) (fnOf Try.f4) 5000 lb_p0 = lb_o0 := by kernel_rfl
theorem lb_l0 {Q : Value → Hp → Prop} {w0 : World} {s0 : Hp} (I : List Int → List Bool → List Value → Hp → Prop) (m : List Int → List Bool → List Value → Nat)
    (round : ∀ is bs vs js s1, is.length = 1 → bs.length = 0 → vs.length = 2 → I is bs vs s1 →
      (∀ (A : Asg) g r s, s1.le s → Go.Sx.fits ⟨0, 0, 0, 0⟩ A lb_p0 g = true → I (A.is.map (IE.den r)) (A.bs.map (BE.den r)) (SV.dens r id A.vs) s → m (A.is.map (IE.den r)) (A.bs.map (BE.den r)) (SV.dens r id A.vs) < m is bs vs →
        Go.Sx.Reach Try.prog 4 (Ret Q s0 w0) (fnOf Try.f4).body w0 s0 g r s) → VC Try.prog Q (Go.Sx.Reach Try.prog 4 (Ret Q s0 w0) (fnOf Try.f4).body w0 s0) lb_o0 ⟨is, bs, vs, js⟩ s1) :
    ∀ (A : Asg) (g : Cfg) (r : Env) (s : Hp), Go.Sx.fits ⟨0, 0, 0, 0⟩ A lb_p0 g = true → I (A.is.map (IE.den r)) (A.bs.map (BE.den r)) (SV.dens r id A.vs) s → Go.Sx.Reach Try.prog 4 (Ret Q s0 w0) (fnOf Try.f4).body w0 s0 g r s :=
  loop0 (fn := fnOf Try.f4) (progOk true [[false, false, true, false, true, true, true, true, true, true]] []) Try.func4 rfl 5000 lb_p0 I m (fun _ _ _ _ h => by cases h) (fun is bs vs js s1 h1 h2 h3 _ h ih => by
    rw [lb_o0_eq]
    exact round is bs vs js s1 h1 h2 h3 h ih)
def lb_a0_0 : Asg :=
  ⟨[(.add (.a 0) (.l 1))], [], [(.va 0), (.va 1)], [(.junk 0), (.junk 1), (.junk 2), (.junk 3), (.junk 4), (.junk 5), (.junk 6), (.junk 7), (.junk 8), (.junk 9), (.junk 10), (.junk 11), (.junk 12), (.junk 13), (.junk 14), (.junk 15), (.junk 16), (.junk 17), (.junk 18), (.junk 19), (.junk 20), (.junk 21), (.junk 22), (.junk 23), (.junk 24), (.junk 25), (.junk 26), (.junk 27), (.junk 28), (.junk 29), (.junk 30), (.junk 31), (.junk 32), (.junk 33), (.junk 34), (.junk 35), (.junk 36), (.junk 37), (.junk 38), (.junk 39), (.junk 40), (.junk 41), (.junk 42), (.junk 43), (.junk 44), (.junk 45), (.junk 46), (.junk 47), (.junk 48), (.junk 49), (.junk 50), (.junk 51), (.junk 52), (.junk 53), (.junk 54), (.int .i64 (.a 0)), (.va 1), (.int .i64 (.slen 1)), (.bool (.lt (.a 0) (.slen 1))), (.int .i64 (.a 0)), (.int .i64 (.add (.a 0) (.l 1))), (.va 0), (.int .i64 (.a 0)), (.ea 0 (.a 0) 6 0), (.agg [(.int .i64 (.a 1)), (.int .i64 (.a 2)), (.int .i64 (.a 3)), (.int .i64 (.a 4)), (.int .i64 (.a 5)), (.int .i64 (.a 6))]), (.va 1), (.int .i64 (.a 0)), (.ea 1 (.a 0) 6 0), (.agg [(.int .i64 (.a 7)), (.int .i64 (.a 8)), (.int .i64 (.a 9)), (.int .i64 (.a 10)), (.int .i64 (.a 11)), (.int .i64 (.a 12))]), (.bool (.not (.and (.eq (.a 1) (.a 7)) (.and (.eq (.a 2) (.a 8)) (.and (.eq (.a 3) (.a 9)) (.and (.eq (.a 4) (.a 10)) (.and (.eq (.a 5) (.a 11)) (.eq (.a 6) (.a 12)))))))))]⟩

def LbI (D : List Bd) (dv wv : Value) : List Int → List Bool → List Value → Hp → Prop := fun is bs vs s =>
  ∃ (i : Nat), is = [(i : Int)] ∧ vs = [dv, wv] ∧ i ≤ D.length ∧ D.length ≤ 15625 ∧ BdIn s dv D ∧ BdIn s wv D
theorem lb_r0 (D : List Bd) (dv wv : Value) {w0 : World} {s0 : Hp} : ∀ (A : Asg) (g : Cfg) (r : Env) (s : Hp), Go.Sx.fits ⟨0, 0, 0, 0⟩ A lb_p0 g = true → LbI D dv wv (A.is.map (IE.den r)) (A.bs.map (BE.den r)) (SV.dens r id A.vs) s →
    Go.Sx.Reach Try.prog 4 (Ret (fun v s => v = .bool true) s0 w0) (fnOf Try.f4).body w0 s0 g r s := by
  refine lb_l0 (LbI D dv wv) (fun is _ _ => D.length - (is.getD 0 0).toNat) (fun is bs vs js s1 l1 l2 l3 hI ih => ?_)
  obtain ⟨i, rfl, rfl, hi, hle, h0, h1⟩ := hI
  obtain rfl : bs = [] := List.length_eq_zero_iff.1 l2
  unfold lb_o0
  refine vc_need h1.kind (fun _ => ?_)
  refine vc_ite (fun h => ?_) (fun h => ?_) <;> simp only [BE.den, IE.den, SV.den, SV.dens, List.getD_cons_zero, List.getD_cons_succ, List.cons_append, List.nil_append, List.append_assoc, ltB_true, leB_true, eqB_true, ltB_false, leB_false, eqB_false, Bool.not_eq_true', Bool.not_eq_false', Bool.and_eq_true, Bool.or_eq_true, Bool.and_eq_false_iff, Bool.or_eq_false_iff, h1.len, List.length_map] at h
  · refine vc_need (by simp only [BE.den, IE.den, SV.den, SV.dens, List.getD_cons_zero, List.getD_cons_succ, List.cons_append, List.nil_append, List.append_assoc, ltB_true, leB_true, eqB_true, ltB_false, leB_false, eqB_false, Bool.not_eq_true', Bool.not_eq_false', Bool.and_eq_true, Bool.or_eq_true, Bool.and_eq_false_iff, Bool.or_eq_false_iff, h0.len, List.length_map]; omega) (fun _ => ?_)
    refine vc_need (by simp only [BE.den, IE.den, SV.den, SV.dens, List.getD_cons_zero, List.getD_cons_succ, List.cons_append, List.nil_append, List.append_assoc, ltB_true, leB_true, eqB_true, ltB_false, leB_false, eqB_false, Bool.not_eq_true', Bool.not_eq_false', Bool.and_eq_true, Bool.or_eq_true, Bool.and_eq_false_iff, Bool.or_eq_false_iff, h1.len, List.length_map]; omega) (fun _ => ?_)
    obtain ⟨x, hx⟩ : ∃ x, D[i]? = some x := ⟨_, List.getElem?_eq_getElem (by omega)⟩
    refine vc_load x.l [] [] x.cs (h0.at rfl rfl (by rw [List.getElem?_map, hx]; rfl)) rfl rfl rfl rfl rfl ?_
    conv => arg 5; simp only [List.cons_append, List.nil_append, List.append_nil, Bd.l]
    refine vc_load x.l [] [] x.cs (h1.at rfl rfl (by rw [List.getElem?_map, hx]; rfl)) rfl rfl rfl rfl rfl ?_
    conv => arg 5; simp only [List.cons_append, List.nil_append, List.append_nil, Bd.l]
    refine vc_ite (fun h => ?_) (fun _ => ?_)
    · exfalso; simp [BE.den, IE.den, eqB] at h
    refine vc_need (by simp only [BE.den, IE.den, SV.den, SV.dens, List.getD_cons_zero, List.getD_cons_succ, List.cons_append, List.nil_append, List.append_assoc, ltB_true, leB_true, eqB_true, ltB_false, leB_false, eqB_false, Bool.not_eq_true', Bool.not_eq_false', Bool.and_eq_true, Bool.or_eq_true, Bool.and_eq_false_iff, Bool.or_eq_false_iff]; omega) (fun _ => vc_stop ?_)
    refine ih lb_a0_0 _ _ _ (Hp.le_refl _) (by kernel_rfl) ⟨i + 1, rfl, rfl, by omega, hle, h0, h1⟩ ?_
    show D.length - ((i : Int) + 1).toNat < D.length - (i : Int).toNat
    omega
  · exact (vc_call _ _ [] [true] [] (fun s1 _ => lives_ct s1) (fun _ => rfl) rfl rfl rfl rfl rfl (fun s1 _ => vc_ret (fun _ _ _ _ => rfl)))
theorem demand_len (L : List Of) (S p : Bd) : (demand L S p).length ≤ 15625 := by
  unfold demand
  split
  · have := List.length_filter_le (fun b => decide (util L p b = (best L S p).2)) S.bds
    have := bds_le S
    omega
  · simp
theorem lb_ct (L : List Of) (lv : Value) (S p : Bd) (s : Hp) (hl : OfIn s lv L) : Ct Try.prog 4 [lv, S.v, p.v] s (fun v s' => v = .bool true) := by
  refine lb_o_ct (S.l ++ p.l) [] [lv] rfl rfl rfl (by simp [hl.fine]) (fun w0 => ?_)
  unfold lb_o
  conv => arg 5; simp only [Bd.l, List.cons_append, List.nil_append]
  refine vc_need hl.kind (fun _ => ?_)
  refine vc_ite (fun h => ?_) (fun h => ?_) <;> simp only [BE.den, IE.den, SV.den, SV.dens, List.getD_cons_zero, List.getD_cons_succ, List.cons_append, List.nil_append, List.append_assoc, ltB_true, leB_true, eqB_true, ltB_false, leB_false, eqB_false, Bool.not_eq_true', Bool.not_eq_false', Bool.and_eq_true, Bool.or_eq_true, Bool.and_eq_false_iff, Bool.or_eq_false_iff, hl.len, List.length_map] at h
  · exact (vc_call _ _ [] [true] [] (fun s1 _ => lives_ct s1) (fun _ => rfl) rfl rfl rfl rfl rfl (fun s1 _ => vc_ret (fun _ _ _ _ => rfl)))
  have hL : L.length ≤ 1000 := by omega
  obtain ⟨n, hn⟩ : ∃ n, n = S.cnt := ⟨_, rfl⟩
  have hct : ∀ s1, Ct Try.prog 18 [S.v] s1 (fun v _ => v = .int .i64 n) := fun s1 => by rw [hn]; exact rcount_ct S s1
  refine vc_call _ _ [n] [] [] (fun s1 _ => hct s1) (fun _ => rfl) rfl rfl rfl rfl rfl (fun s1 hs1 => ?_)
  conv => arg 5; simp only [List.cons_append, List.nil_append, List.append_nil]
  refine vc_ite (fun h => ?_) (fun h => ?_)
  · exact (vc_call _ _ [] [true] [] (fun s1 _ => lives_ct s1) (fun _ => rfl) rfl rfl rfl rfl rfl (fun s1 _ => vc_ret (fun _ _ _ _ => rfl)))
  obtain ⟨x, hx⟩ : ∃ x, x = best L S p := ⟨_, rfl⟩
  obtain ⟨b, m⟩ := x
  have hl1 := hl.mono hs1
  have hct : ∀ s2, s1.le s2 → Ct Try.prog 19 [lv, S.v, p.v] s2 (fun v _ => v = bestV (b, m)) := fun s2 hs2 => by rw [hx]; exact best_ct L hL lv S p s2 (hl1.mono hs2)
  refine vc_call _ _ (b.l ++ [m]) [] [] hct (fun _ => rfl) rfl rfl rfl rfl rfl (fun s2 hs2 => ?_)
  conv => arg 5; simp only [List.cons_append, List.nil_append, List.append_nil, Bd.l]
  have hl2 := hl1.mono hs2
  have hct : ∀ s3, s2.le s3 → Ct Try.prog 20 [lv, S.v, p.v] s3 (fun v _ => v = bestV (b, m)) := fun s2 hs2 => by rw [hx]; exact rbest_ct L hL lv S p s2 (hl2.mono hs2)
  refine vc_call _ _ (b.l ++ [m]) [] [] hct (fun _ => rfl) rfl rfl rfl rfl rfl (fun s3 hs3 => ?_)
  conv => arg 5; simp only [List.cons_append, List.nil_append, List.append_nil, Bd.l]
  have hl3 := hl2.mono hs3
  refine vc_callS _ _ _ (fun s4 hs => demand_ct L hL lv S p s4 (hl3.mono hs)) (fun _ => rfl) rfl (fun dv s4 hs4 hd => ?_)
  conv => arg 5; simp only [List.cons_append, List.nil_append, List.append_nil]
  have hl4 := hl3.mono hs4
  refine vc_callS _ _ _ (fun s5 hs => rdemand_ct L hL lv S p s5 (hl4.mono hs)) (fun _ => rfl) rfl (fun wv s5 hs5 hw => ?_)
  conv => arg 5; simp only [List.cons_append, List.nil_append, List.append_nil]
  rw [demand_eq] at hw
  have hd := hd.mono hs5
  refine vc_ite (fun h => ?_) (fun _ => ?_)
  · exfalso; simp [BE.den, IE.den, eqB] at h
  refine vc_ite (fun h => ?_) (fun _ => ?_)
  · exfalso; simp [BE.den, IE.den, eqB] at h
  refine vc_need hd.kind (fun _ => ?_)
  refine vc_need hw.kind (fun _ => ?_)
  refine vc_ite (fun h => ?_) (fun _ => vc_stop ?_)
  · exfalso; simp only [BE.den, IE.den, SV.den, SV.dens, List.getD_cons_zero, List.getD_cons_succ, List.cons_append, List.nil_append, List.append_assoc, ltB_true, leB_true, eqB_true, ltB_false, leB_false, eqB_false, Bool.not_eq_true', Bool.not_eq_false', Bool.and_eq_true, Bool.or_eq_true, Bool.and_eq_false_iff, Bool.or_eq_false_iff, hd.len, hw.len] at h; exact h trivial
  exact lb_r0 _ dv wv lb_a_0 _ _ _ (by kernel_rfl) ⟨0, rfl, rfl, Nat.zero_le _, demand_len L S p, hd, hw⟩

def lo_o : Out :=
  (.need (.is 0 0)
  (.ite (.lt (.l 60) (.slen 0))
  (.call 15 [] [] (.bool (.a 0)) 0 1 0
  (.ret (.bool (.a 0)) []))
  (.call 23 [(.agg [(.int .i64 (.a 6)), (.int .i64 (.a 7)), (.int .i64 (.a 8)), (.int .i64 (.a 9)), (.int .i64 (.a 10)), (.int .i64 (.a 11))])] [] (.bool (.a 0)) 0 1 0
  (.ite (.not (.a 0))
  (.call 15 [] [] (.bool (.a 1)) 0 1 0
  (.ret (.bool (.a 1)) []))
  (.call 18 [(.agg [(.int .i64 (.a 0)), (.int .i64 (.a 1)), (.int .i64 (.a 2)), (.int .i64 (.a 3)), (.int .i64 (.a 4)), (.int .i64 (.a 5))])] [] (.int .i64 (.a 12)) 1 0 0
  (.ite (.lt (.a 12) (.l 1))
  (.call 15 [] [] (.bool (.a 1)) 0 1 0
  (.ret (.bool (.a 1)) []))
  (.call 18 [(.agg [(.int .i64 (.a 0)), (.int .i64 (.a 1)), (.int .i64 (.a 2)), (.int .i64 (.a 3)), (.int .i64 (.a 4)), (.int .i64 (.a 5))])] [] (.int .i64 (.a 13)) 1 0 0
  (.ite (.lt (.l 200) (.a 13))
  (.call 15 [] [] (.bool (.a 1)) 0 1 0
  (.ret (.bool (.a 1)) []))
  (.call 19 [(.va 0), (.agg [(.int .i64 (.a 0)), (.int .i64 (.a 1)), (.int .i64 (.a 2)), (.int .i64 (.a 3)), (.int .i64 (.a 4)), (.int .i64 (.a 5))]), (.agg [(.int .i64 (.a 6)), (.int .i64 (.a 7)), (.int .i64 (.a 8)), (.int .i64 (.a 9)), (.int .i64 (.a 10)), (.int .i64 (.a 11))])] [] (.tup [(.agg [(.int .i64 (.a 14)), (.int .i64 (.a 15)), (.int .i64 (.a 16)), (.int .i64 (.a 17)), (.int .i64 (.a 18)), (.int .i64 (.a 19))]), (.int .i64 (.a 20))]) 7 0 0
  (.ite (.lt (.a 20) (.l 0))
  (.ret (.bool (.t false)) [])
  (.call 16 [(.va 0), (.agg [(.int .i64 (.a 6)), (.int .i64 (.a 7)), (.int .i64 (.a 8)), (.int .i64 (.a 9)), (.int .i64 (.a 10)), (.int .i64 (.a 11))]), (.agg [(.int .i64 (.a 14)), (.int .i64 (.a 15)), (.int .i64 (.a 16)), (.int .i64 (.a 17)), (.int .i64 (.a 18)), (.int .i64 (.a 19))])] [] (.int .i64 (.a 21)) 1 0 0
  (.ite (.not (.eq (.a 21) (.a 20)))
  (.ret (.bool (.t false)) [])
  (.call 24 [(.agg [(.int .i64 (.a 14)), (.int .i64 (.a 15)), (.int .i64 (.a 16)), (.int .i64 (.a 17)), (.int .i64 (.a 18)), (.int .i64 (.a 19))]), (.agg [(.int .i64 (.a 0)), (.int .i64 (.a 1)), (.int .i64 (.a 2)), (.int .i64 (.a 3)), (.int .i64 (.a 4)), (.int .i64 (.a 5))])] [] (.bool (.a 1)) 0 1 0
  (.ite (.not (.a 1))
  (.ret (.bool (.t false)) [])
  (.call 25 [(.agg [(.int .i64 (.a 0)), (.int .i64 (.a 1)), (.int .i64 (.a 2)), (.int .i64 (.a 3)), (.int .i64 (.a 4)), (.int .i64 (.a 5))])] [] (.va 1) 0 0 1
  (.stop { todo := [(.code [false, false, true, false, true, true, true, true, true]), (.inLoop [false, false, true, false, true, true, true, true, true]), (.inBlock 0), (.code [true, true, true, true, true, true])], sl := [(.va 0), (.agg [(.int .i64 (.a 0)), (.int .i64 (.a 1)), (.int .i64 (.a 2)), (.int .i64 (.a 3)), (.int .i64 (.a 4)), (.int .i64 (.a 5))]), (.agg [(.int .i64 (.a 6)), (.int .i64 (.a 7)), (.int .i64 (.a 8)), (.int .i64 (.a 9)), (.int .i64 (.a 10)), (.int .i64 (.a 11))]), .undef, (.ptr 0 0), (.ptr 1 0), (.bool (.t false)), (.ptr 2 0), (.int .i64 (.a 20)), (.va 1), (.int .i64 (.l 0)), (.va 0), (.int .i64 (.slen 0)), (.bool (.lt (.l 60) (.slen 0))), (.bool (.t false)), (.agg [(.int .i64 (.a 6)), (.int .i64 (.a 7)), (.int .i64 (.a 8)), (.int .i64 (.a 9)), (.int .i64 (.a 10)), (.int .i64 (.a 11))]), (.bool (.a 0)), (.bool (.not (.a 0))), (.bool (.not (.a 0))), (.bool (.t false)), (.agg [(.int .i64 (.a 0)), (.int .i64 (.a 1)), (.int .i64 (.a 2)), (.int .i64 (.a 3)), (.int .i64 (.a 4)), (.int .i64 (.a 5))]), (.int .i64 (.a 12)), (.bool (.lt (.a 12) (.l 1))), (.bool (.lt (.a 12) (.l 1))), (.bool (.t false)), (.agg [(.int .i64 (.a 0)), (.int .i64 (.a 1)), (.int .i64 (.a 2)), (.int .i64 (.a 3)), (.int .i64 (.a 4)), (.int .i64 (.a 5))]), (.int .i64 (.a 13)), (.bool (.lt (.l 200) (.a 13))), (.bool (.lt (.l 200) (.a 13))), .undef, (.tup [(.agg [(.int .i64 (.a 14)), (.int .i64 (.a 15)), (.int .i64 (.a 16)), (.int .i64 (.a 17)), (.int .i64 (.a 18)), (.int .i64 (.a 19))]), (.int .i64 (.a 20))]), (.va 0), (.agg [(.int .i64 (.a 0)), (.int .i64 (.a 1)), (.int .i64 (.a 2)), (.int .i64 (.a 3)), (.int .i64 (.a 4)), (.int .i64 (.a 5))]), (.agg [(.int .i64 (.a 6)), (.int .i64 (.a 7)), (.int .i64 (.a 8)), (.int .i64 (.a 9)), (.int .i64 (.a 10)), (.int .i64 (.a 11))]), (.tup [(.agg [(.int .i64 (.a 14)), (.int .i64 (.a 15)), (.int .i64 (.a 16)), (.int .i64 (.a 17)), (.int .i64 (.a 18)), (.int .i64 (.a 19))]), (.int .i64 (.a 20))]), (.agg [(.int .i64 (.a 14)), (.int .i64 (.a 15)), (.int .i64 (.a 16)), (.int .i64 (.a 17)), (.int .i64 (.a 18)), (.int .i64 (.a 19))]), (.int .i64 (.a 20)), (.int .i64 (.a 20)), (.bool (.lt (.a 20) (.l 0))), (.bool (.t false)), (.va 0), (.agg [(.int .i64 (.a 6)), (.int .i64 (.a 7)), (.int .i64 (.a 8)), (.int .i64 (.a 9)), (.int .i64 (.a 10)), (.int .i64 (.a 11))]), (.agg [(.int .i64 (.a 14)), (.int .i64 (.a 15)), (.int .i64 (.a 16)), (.int .i64 (.a 17)), (.int .i64 (.a 18)), (.int .i64 (.a 19))]), (.int .i64 (.a 21)), (.int .i64 (.a 20)), (.bool (.not (.eq (.a 21) (.a 20)))), (.bool (.not (.eq (.a 21) (.a 20)))), (.bool (.t false)), (.agg [(.int .i64 (.a 14)), (.int .i64 (.a 15)), (.int .i64 (.a 16)), (.int .i64 (.a 17)), (.int .i64 (.a 18)), (.int .i64 (.a 19))]), (.agg [(.int .i64 (.a 0)), (.int .i64 (.a 1)), (.int .i64 (.a 2)), (.int .i64 (.a 3)), (.int .i64 (.a 4)), (.int .i64 (.a 5))]), (.bool (.a 1)), (.bool (.not (.a 1))), (.bool (.not (.a 1))), (.agg [(.int .i64 (.a 0)), (.int .i64 (.a 1)), (.int .i64 (.a 2)), (.int .i64 (.a 3)), (.int .i64 (.a 4)), (.int .i64 (.a 5))]), (.va 1), .undef, .undef, .undef, .undef, .undef, .undef, .undef, .undef, .undef, .undef, .undef, .undef, .undef, .undef, .undef, .undef], H := [(.cells [(.int .i64 (.a 0)), (.int .i64 (.a 1)), (.int .i64 (.a 2)), (.int .i64 (.a 3)), (.int .i64 (.a 4)), (.int .i64 (.a 5))] 26 false), (.cells [(.int .i64 (.a 6)), (.int .i64 (.a 7)), (.int .i64 (.a 8)), (.int .i64 (.a 9)), (.int .i64 (.a 10)), (.int .i64 (.a 11))] 24 false), (.cells [(.int .i64 (.a 14)), (.int .i64 (.a 15)), (.int .i64 (.a 16)), (.int .i64 (.a 17)), (.int .i64 (.a 18)), (.int .i64 (.a 19))] 26 false)], ni := 22, nb := 2, nv := 2, nj := 0 }))))))))))))))))
theorem lo_o_eq : run (cx true [[false, false, true, false, true, true, true, true, true]] []) (fnOf Try.f5) 5000 (startCfg Try.f5.ntmps [.va 0, b6 0, b6 6] 12 0 1) = lo_o := by kernel_rfl
theorem lo_o_ct {Q : Value → Hp → Prop} {s : Hp} (i : List Int) (b : List Bool) (v : List Value) (hi : i.length = 12) (hb : b.length = 0) (hv : v.length = 1) (hok : v.all fineV = true)
    (h : ∀ w0, VC Try.prog Q (Go.Sx.Reach Try.prog 5 (Ret Q s w0) (fnOf Try.f5).body w0 s) lo_o ⟨i, b, v, []⟩ s) : Ct Try.prog 5 (SV.dens ⟨i, b, v, []⟩ id [.va 0, b6 0, b6 6]) s Q := by
  refine ct_run (fn := fnOf Try.f5) (progOk true [[false, false, true, false, true, true, true, true, true]] []) Try.func5 rfl rfl 5000 (fun x hx => List.all_eq_true.1 hok x hx) rfl (fun w0 => ?_)
  rw [hi, hb, hv, lo_o_eq]
  exact h w0
def lo_a_0 : Asg :=
  ⟨[(.a 20), (.l 0), (.a 0), (.a 1), (.a 2), (.a 3), (.a 4), (.a 5), (.a 6), (.a 7), (.a 8), (.a 9), (.a 10), (.a 11)], [], [(.va 0), (.va 1)], [(.agg [(.int .i64 (.a 0)), (.int .i64 (.a 1)), (.int .i64 (.a 2)), (.int .i64 (.a 3)), (.int .i64 (.a 4)), (.int .i64 (.a 5))]), (.agg [(.int .i64 (.a 6)), (.int .i64 (.a 7)), (.int .i64 (.a 8)), (.int .i64 (.a 9)), (.int .i64 (.a 10)), (.int .i64 (.a 11))]), (.bool (.t false)), (.ptr 2 0), (.va 0), (.int .i64 (.slen 0)), (.bool (.lt (.l 60) (.slen 0))), (.bool (.t false)), (.agg [(.int .i64 (.a 6)), (.int .i64 (.a 7)), (.int .i64 (.a 8)), (.int .i64 (.a 9)), (.int .i64 (.a 10)), (.int .i64 (.a 11))]), (.bool (.a 0)), (.bool (.not (.a 0))), (.bool (.not (.a 0))), (.bool (.t false)), (.agg [(.int .i64 (.a 0)), (.int .i64 (.a 1)), (.int .i64 (.a 2)), (.int .i64 (.a 3)), (.int .i64 (.a 4)), (.int .i64 (.a 5))]), (.int .i64 (.a 12)), (.bool (.lt (.a 12) (.l 1))), (.bool (.lt (.a 12) (.l 1))), (.bool (.t false)), (.agg [(.int .i64 (.a 0)), (.int .i64 (.a 1)), (.int .i64 (.a 2)), (.int .i64 (.a 3)), (.int .i64 (.a 4)), (.int .i64 (.a 5))]), (.int .i64 (.a 13)), (.bool (.lt (.l 200) (.a 13))), (.bool (.lt (.l 200) (.a 13))), (.tup [(.agg [(.int .i64 (.a 14)), (.int .i64 (.a 15)), (.int .i64 (.a 16)), (.int .i64 (.a 17)), (.int .i64 (.a 18)), (.int .i64 (.a 19))]), (.int .i64 (.a 20))]), (.va 0), (.agg [(.int .i64 (.a 0)), (.int .i64 (.a 1)), (.int .i64 (.a 2)), (.int .i64 (.a 3)), (.int .i64 (.a 4)), (.int .i64 (.a 5))]), (.agg [(.int .i64 (.a 6)), (.int .i64 (.a 7)), (.int .i64 (.a 8)), (.int .i64 (.a 9)), (.int .i64 (.a 10)), (.int .i64 (.a 11))]), (.tup [(.agg [(.int .i64 (.a 14)), (.int .i64 (.a 15)), (.int .i64 (.a 16)), (.int .i64 (.a 17)), (.int .i64 (.a 18)), (.int .i64 (.a 19))]), (.int .i64 (.a 20))]), (.agg [(.int .i64 (.a 14)), (.int .i64 (.a 15)), (.int .i64 (.a 16)), (.int .i64 (.a 17)), (.int .i64 (.a 18)), (.int .i64 (.a 19))]), (.int .i64 (.a 20)), (.int .i64 (.a 20)), (.bool (.lt (.a 20) (.l 0))), (.bool (.t false)), (.va 0), (.agg [(.int .i64 (.a 6)), (.int .i64 (.a 7)), (.int .i64 (.a 8)), (.int .i64 (.a 9)), (.int .i64 (.a 10)), (.int .i64 (.a 11))]), (.agg [(.int .i64 (.a 14)), (.int .i64 (.a 15)), (.int .i64 (.a 16)), (.int .i64 (.a 17)), (.int .i64 (.a 18)), (.int .i64 (.a 19))]), (.int .i64 (.a 21)), (.int .i64 (.a 20)), (.bool (.not (.eq (.a 21) (.a 20)))), (.bool (.not (.eq (.a 21) (.a 20)))), (.bool (.t false)), (.agg [(.int .i64 (.a 14)), (.int .i64 (.a 15)), (.int .i64 (.a 16)), (.int .i64 (.a 17)), (.int .i64 (.a 18)), (.int .i64 (.a 19))]), (.agg [(.int .i64 (.a 0)), (.int .i64 (.a 1)), (.int .i64 (.a 2)), (.int .i64 (.a 3)), (.int .i64 (.a 4)), (.int .i64 (.a 5))]), (.bool (.a 1)), (.bool (.not (.a 1))), (.bool (.not (.a 1))), (.agg [(.int .i64 (.a 0)), (.int .i64 (.a 1)), (.int .i64 (.a 2)), (.int .i64 (.a 3)), (.int .i64 (.a 4)), (.int .i64 (.a 5))]), (.va 1), .undef, .undef, .undef, .undef, .undef, .undef, .undef, .undef, .undef, .undef, .undef, .undef, .undef, .undef, .undef]⟩
def lo_p0 : Cfg :=
  { todo := [(.code [false, false, true, false, true, true, true, true, true]), (.inLoop [false, false, true, false, true, true, true, true, true]), (.inBlock 0), (.code [true, true, true, true, true, true])], sl := [(.va 0), (.junk 0), (.junk 1), .undef, (.ptr 0 0), (.ptr 1 0), (.junk 2), (.junk 3), (.int .i64 (.a 0)), (.va 1), (.int .i64 (.a 1)), (.junk 4), (.junk 5), (.junk 6), (.junk 7), (.junk 8), (.junk 9), (.junk 10), (.junk 11), (.junk 12), (.junk 13), (.junk 14), (.junk 15), (.junk 16), (.junk 17), (.junk 18), (.junk 19), (.junk 20), (.junk 21), .undef, (.junk 22), (.junk 23), (.junk 24), (.junk 25), (.junk 26), (.junk 27), (.junk 28), (.junk 29), (.junk 30), (.junk 31), (.junk 32), (.junk 33), (.junk 34), (.junk 35), (.junk 36), (.junk 37), (.junk 38), (.junk 39), (.junk 40), (.junk 41), (.junk 42), (.junk 43), (.junk 44), (.junk 45), (.junk 46), (.junk 47), (.junk 48), (.junk 49), (.junk 50), (.junk 51), (.junk 52), (.junk 53), (.junk 54), (.junk 55), (.junk 56), (.junk 57), (.junk 58), (.junk 59), (.junk 60), (.junk 61), .undef], H := [(.cells [(.int .i64 (.a 2)), (.int .i64 (.a 3)), (.int .i64 (.a 4)), (.int .i64 (.a 5)), (.int .i64 (.a 6)), (.int .i64 (.a 7))] 26 false), (.cells [(.int .i64 (.a 8)), (.int .i64 (.a 9)), (.int .i64 (.a 10)), (.int .i64 (.a 11)), (.int .i64 (.a 12)), (.int .i64 (.a 13))] 24 false)], ni := 14, nb := 0, nv := 2, nj := 62 }
def lo_o0 : Out :=
  (.need (.is 0 1)
  (.ite (.lt (.a 1) (.slen 1))
  (.need (.and (.le (.l 0) (.a 1)) (.lt (.a 1) (.slen 1)))
  (.load (.ea 1 (.a 1) 6 0) [(.int .i64 (.a 14)), (.int .i64 (.a 15)), (.int .i64 (.a 16)), (.int .i64 (.a 17)), (.int .i64 (.a 18)), (.int .i64 (.a 19))] 6 0 0
  (.call 16 [(.va 0), (.agg [(.int .i64 (.a 8)), (.int .i64 (.a 9)), (.int .i64 (.a 10)), (.int .i64 (.a 11)), (.int .i64 (.a 12)), (.int .i64 (.a 13))]), (.agg [(.int .i64 (.a 14)), (.int .i64 (.a 15)), (.int .i64 (.a 16)), (.int .i64 (.a 17)), (.int .i64 (.a 18)), (.int .i64 (.a 19))])] [] (.int .i64 (.a 20)) 1 0 0
  (.ite (.lt (.a 0) (.a 20))
  (.ret (.bool (.t false)) [])
  (.need (.and (.le (.l (-9223372036854775808)) (.add (.a 1) (.l 1))) (.le (.add (.a 1) (.l 1)) (.l 9223372036854775807)))
  (.stop { todo := [(.code [false, false, true, false, true, true, true, true, true]), (.inLoop [false, false, true, false, true, true, true, true, true]), (.inBlock 0), (.code [true, true, true, true, true, true])], sl := [(.va 0), (.junk 0), (.junk 1), .undef, (.ptr 0 0), (.ptr 1 0), (.junk 2), (.junk 3), (.int .i64 (.a 0)), (.va 1), (.int .i64 (.add (.a 1) (.l 1))), (.junk 4), (.junk 5), (.junk 6), (.junk 7), (.junk 8), (.junk 9), (.junk 10), (.junk 11), (.junk 12), (.junk 13), (.junk 14), (.junk 15), (.junk 16), (.junk 17), (.junk 18), (.junk 19), (.junk 20), (.junk 21), .undef, (.junk 22), (.junk 23), (.junk 24), (.junk 25), (.junk 26), (.junk 27), (.junk 28), (.junk 29), (.junk 30), (.junk 31), (.junk 32), (.junk 33), (.junk 34), (.junk 35), (.junk 36), (.junk 37), (.junk 38), (.junk 39), (.junk 40), (.junk 41), (.junk 42), (.junk 43), (.junk 44), (.junk 45), (.junk 46), (.int .i64 (.a 1)), (.va 1), (.int .i64 (.slen 1)), (.bool (.lt (.a 1) (.slen 1))), (.int .i64 (.a 1)), (.int .i64 (.add (.a 1) (.l 1))), (.va 0), (.agg [(.int .i64 (.a 8)), (.int .i64 (.a 9)), (.int .i64 (.a 10)), (.int .i64 (.a 11)), (.int .i64 (.a 12)), (.int .i64 (.a 13))]), (.va 1), (.int .i64 (.a 1)), (.ea 1 (.a 1) 6 0), (.agg [(.int .i64 (.a 14)), (.int .i64 (.a 15)), (.int .i64 (.a 16)), (.int .i64 (.a 17)), (.int .i64 (.a 18)), (.int .i64 (.a 19))]), (.int .i64 (.a 20)), (.int .i64 (.a 0)), (.bool (.lt (.a 0) (.a 20))), .undef], H := [(.cells [(.int .i64 (.a 2)), (.int .i64 (.a 3)), (.int .i64 (.a 4)), (.int .i64 (.a 5)), (.int .i64 (.a 6)), (.int .i64 (.a 7))] 26 false), (.cells [(.int .i64 (.a 8)), (.int .i64 (.a 9)), (.int .i64 (.a 10)), (.int .i64 (.a 11)), (.int .i64 (.a 12)), (.int .i64 (.a 13))] 24 false)], ni := 21, nb := 0, nv := 2, nj := 62 }))))))
  (.call 15 [] [] (.bool (.a 0)) 0 1 0
  (.ret (.bool (.a 0)) []))))
theorem lo_o0_eq : run (cx true [[false, false, true, false, true, true, true, true, true]] []) (fnOf Try.f5) 5000 lo_p0 = lo_o0 := by kernel_rfl
theorem lo_l0 {Q : Value → Hp → Prop} {w0 : World} {s0 : Hp} (I : List Int → List Bool → List Value → Hp → Prop) (m : List Int → List Bool → List Value → Nat)
    (round : ∀ is bs vs js s1, is.length = 14 → bs.length = 0 → vs.length = 2 → I is bs vs s1 →
      (∀ (A : Asg) g r s, s1.le s → Go.Sx.fits ⟨0, 0, 0, 0⟩ A lo_p0 g = true → I (A.is.map (IE.den r)) (A.bs.map (BE.den r)) (SV.dens r id A.vs) s → m (A.is.map (IE.den r)) (A.bs.map (BE.den r)) (SV.dens r id A.vs) < m is bs vs →
        Go.Sx.Reach Try.prog 5 (Ret Q s0 w0) (fnOf Try.f5).body w0 s0 g r s) → VC Try.prog Q (Go.Sx.Reach Try.prog 5 (Ret Q s0 w0) (fnOf Try.f5).body w0 s0) lo_o0 ⟨is, bs, vs, js⟩ s1) :
    ∀ (A : Asg) (g : Cfg) (r : Env) (s : Hp), Go.Sx.fits ⟨0, 0, 0, 0⟩ A lo_p0 g = true → I (A.is.map (IE.den r)) (A.bs.map (BE.den r)) (SV.dens r id A.vs) s → Go.Sx.Reach Try.prog 5 (Ret Q s0 w0) (fnOf Try.f5).body w0 s0 g r s :=
  loop0 (fn := fnOf Try.f5) (progOk true [[false, false, true, false, true, true, true, true, true]] []) Try.func5 rfl 5000 lo_p0 I m (fun _ _ _ _ h => by cases h) (fun is bs vs js s1 h1 h2 h3 _ h ih => by
    rw [lo_o0_eq]
    exact round is bs vs js s1 h1 h2 h3 h ih)
def lo_a0_0 : Asg :=
  ⟨[(.a 0), (.add (.a 1) (.l 1)), (.a 2), (.a 3), (.a 4), (.a 5), (.a 6), (.a 7), (.a 8), (.a 9), (.a 10), (.a 11), (.a 12), (.a 13)], [], [(.va 0), (.va 1)], [(.junk 0), (.junk 1), (.junk 2), (.junk 3), (.junk 4), (.junk 5), (.junk 6), (.junk 7), (.junk 8), (.junk 9), (.junk 10), (.junk 11), (.junk 12), (.junk 13), (.junk 14), (.junk 15), (.junk 16), (.junk 17), (.junk 18), (.junk 19), (.junk 20), (.junk 21), (.junk 22), (.junk 23), (.junk 24), (.junk 25), (.junk 26), (.junk 27), (.junk 28), (.junk 29), (.junk 30), (.junk 31), (.junk 32), (.junk 33), (.junk 34), (.junk 35), (.junk 36), (.junk 37), (.junk 38), (.junk 39), (.junk 40), (.junk 41), (.junk 42), (.junk 43), (.junk 44), (.junk 45), (.junk 46), (.int .i64 (.a 1)), (.va 1), (.int .i64 (.slen 1)), (.bool (.lt (.a 1) (.slen 1))), (.int .i64 (.a 1)), (.int .i64 (.add (.a 1) (.l 1))), (.va 0), (.agg [(.int .i64 (.a 8)), (.int .i64 (.a 9)), (.int .i64 (.a 10)), (.int .i64 (.a 11)), (.int .i64 (.a 12)), (.int .i64 (.a 13))]), (.va 1), (.int .i64 (.a 1)), (.ea 1 (.a 1) 6 0), (.agg [(.int .i64 (.a 14)), (.int .i64 (.a 15)), (.int .i64 (.a 16)), (.int .i64 (.a 17)), (.int .i64 (.a 18)), (.int .i64 (.a 19))]), (.int .i64 (.a 20)), (.int .i64 (.a 0)), (.bool (.lt (.a 0) (.a 20)))]⟩

def LoI (L : List Of) (S p : Bd) (m : Int) (lv wv : Value) : List Int → List Bool → List Value → Hp → Prop := fun is bs vs s =>
  ∃ (i : Nat), is = [m, (i : Int)] ++ S.l ++ p.l ∧ vs = [lv, wv] ∧ i ≤ S.bds.length ∧ OfIn s lv L ∧ BdIn s wv S.bds
theorem lo_r0 (L : List Of) (hL : L.length ≤ 1000) (S p : Bd) (m : Int) (hm : ∀ b ∈ S.bds, utility L p b ≤ m) (lv wv : Value) {w0 : World} {s0 : Hp} : ∀ (A : Asg) (g : Cfg) (r : Env) (s : Hp), Go.Sx.fits ⟨0, 0, 0, 0⟩ A lo_p0 g = true → LoI L S p m lv wv (A.is.map (IE.den r)) (A.bs.map (BE.den r)) (SV.dens r id A.vs) s →
    Go.Sx.Reach Try.prog 5 (Ret (fun v s => v = .bool true) s0 w0) (fnOf Try.f5).body w0 s0 g r s := by
  refine lo_l0 (LoI L S p m lv wv) (fun is _ _ => S.bds.length - (is.getD 1 0).toNat) (fun is bs vs js s1 l1 l2 l3 hI ih => ?_)
  obtain ⟨i, rfl, rfl, hi, h0, h1⟩ := hI
  obtain rfl : bs = [] := List.length_eq_zero_iff.1 l2
  have hle := bds_le S
  unfold lo_o0
  conv => arg 5; simp only [Bd.l, List.cons_append, List.nil_append]
  refine vc_need h1.kind (fun _ => ?_)
  refine vc_ite (fun h => ?_) (fun h => ?_) <;> simp only [BE.den, IE.den, SV.den, SV.dens, List.getD_cons_zero, List.getD_cons_succ, List.cons_append, List.nil_append, List.append_assoc, ltB_true, leB_true, eqB_true, ltB_false, leB_false, eqB_false, Bool.not_eq_true', Bool.not_eq_false', Bool.and_eq_true, Bool.or_eq_true, Bool.and_eq_false_iff, Bool.or_eq_false_iff, h1.len, List.length_map] at h
  · refine vc_need (by simp only [BE.den, IE.den, SV.den, SV.dens, List.getD_cons_zero, List.getD_cons_succ, List.cons_append, List.nil_append, List.append_assoc, ltB_true, leB_true, eqB_true, ltB_false, leB_false, eqB_false, Bool.not_eq_true', Bool.not_eq_false', Bool.and_eq_true, Bool.or_eq_true, Bool.and_eq_false_iff, Bool.or_eq_false_iff, h1.len, List.length_map]; omega) (fun _ => ?_)
    obtain ⟨x, hx⟩ : ∃ x, S.bds[i]? = some x := ⟨_, List.getElem?_eq_getElem (by omega)⟩
    refine vc_load x.l [] [] x.cs (h1.at rfl rfl (by rw [List.getElem?_map, hx]; rfl)) rfl rfl rfl rfl rfl ?_
    conv => arg 5; simp only [List.cons_append, List.nil_append, List.append_nil, Bd.l]
    obtain ⟨u, hu⟩ : ∃ u, u = utility L p x := ⟨_, rfl⟩
    have hux := hm x (List.mem_of_getElem? hx)
    rw [← hu] at hux
    have hct : ∀ s2, s1.le s2 → Ct Try.prog 16 [lv, p.v, x.v] s2 (fun v _ => v = .int .i64 u) := fun s2 hs2 => by rw [hu]; exact utility_ct L hL lv p x s2 (h0.mono hs2)
    refine vc_call _ _ [u] [] [] hct (fun _ => rfl) rfl rfl rfl rfl rfl (fun s2 hs2 => ?_)
    conv => arg 5; simp only [List.cons_append, List.nil_append, List.append_nil]
    refine vc_ite (fun h => ?_) (fun h => ?_) <;> simp only [BE.den, IE.den, SV.den, SV.dens, List.getD_cons_zero, List.getD_cons_succ, List.cons_append, List.nil_append, List.append_assoc, ltB_true, leB_true, eqB_true, ltB_false, leB_false, eqB_false, Bool.not_eq_true', Bool.not_eq_false', Bool.and_eq_true, Bool.or_eq_true, Bool.and_eq_false_iff, Bool.or_eq_false_iff] at h
    · exfalso; omega
    refine vc_need (by simp only [BE.den, IE.den, SV.den, SV.dens, List.getD_cons_zero, List.getD_cons_succ, List.cons_append, List.nil_append, List.append_assoc, ltB_true, leB_true, eqB_true, ltB_false, leB_false, eqB_false, Bool.not_eq_true', Bool.not_eq_false', Bool.and_eq_true, Bool.or_eq_true, Bool.and_eq_false_iff, Bool.or_eq_false_iff]; omega) (fun _ => vc_stop ?_)
    refine ih lo_a0_0 _ _ _ hs2 (by kernel_rfl) ⟨i + 1, rfl, rfl, by omega, h0.mono hs2, h1.mono hs2⟩ ?_
    show S.bds.length - ((i : Int) + 1).toNat < S.bds.length - (i : Int).toNat
    omega
  · exact (vc_call _ _ [] [true] [] (fun s1 _ => lives_ct s1) (fun _ => rfl) rfl rfl rfl rfl rfl (fun s1 _ => vc_ret (fun _ _ _ _ => rfl)))
theorem lo_ct (L : List Of) (lv : Value) (S p : Bd) (s : Hp) (hl : OfIn s lv L) : Ct Try.prog 5 [lv, S.v, p.v] s (fun v s' => v = .bool true) := by
  refine lo_o_ct (S.l ++ p.l) [] [lv] rfl rfl rfl (by simp [hl.fine]) (fun w0 => ?_)
  unfold lo_o
  conv => arg 5; simp only [Bd.l, List.cons_append, List.nil_append]
  refine vc_need hl.kind (fun _ => ?_)
  refine vc_ite (fun h => ?_) (fun h => ?_) <;> simp only [BE.den, IE.den, SV.den, SV.dens, List.getD_cons_zero, List.getD_cons_succ, List.cons_append, List.nil_append, List.append_assoc, ltB_true, leB_true, eqB_true, ltB_false, leB_false, eqB_false, Bool.not_eq_true', Bool.not_eq_false', Bool.and_eq_true, Bool.or_eq_true, Bool.and_eq_false_iff, Bool.or_eq_false_iff, hl.len, List.length_map] at h
  · exact (vc_call _ _ [] [true] [] (fun s1 _ => lives_ct s1) (fun _ => rfl) rfl rfl rfl rfl rfl (fun s1 _ => vc_ret (fun _ _ _ _ => rfl)))
  have hL : L.length ≤ 1000 := by omega
  obtain ⟨q, hq⟩ : ∃ q, q = decide (pok p) := ⟨_, rfl⟩
  have hct : ∀ s1, Ct Try.prog 23 [p.v] s1 (fun v _ => v = .bool q) := fun s1 => by rw [hq]; exact rprices_ct p s1
  refine vc_call _ _ [] [q] [] (fun s1 _ => hct s1) (fun _ => rfl) rfl rfl rfl rfl rfl (fun s1 hs1 => ?_)
  conv => arg 5; simp only [List.cons_append, List.nil_append, List.append_nil]
  refine vc_ite (fun h => ?_) (fun h => ?_)
  · exact (vc_call _ _ [] [true] [] (fun s1 _ => lives_ct s1) (fun _ => rfl) rfl rfl rfl rfl rfl (fun s1 _ => vc_ret (fun _ _ _ _ => rfl)))
  simp only [BE.den, List.getD_cons_zero, Bool.not_eq_false'] at h
  subst h
  have hp := of_decide_eq_true hq.symm
  obtain ⟨n, hn⟩ : ∃ n, n = S.cnt := ⟨_, rfl⟩
  have hct : ∀ s1, Ct Try.prog 18 [S.v] s1 (fun v _ => v = .int .i64 n) := fun s1 => by rw [hn]; exact rcount_ct S s1
  refine vc_call _ _ [n] [] [] (fun s1 _ => hct s1) (fun _ => rfl) rfl rfl rfl rfl rfl (fun s2 hs2 => ?_)
  conv => arg 5; simp only [List.cons_append, List.nil_append, List.append_nil]
  refine vc_ite (fun h => ?_) (fun h => ?_)
  · exact (vc_call _ _ [] [true] [] (fun s1 _ => lives_ct s1) (fun _ => rfl) rfl rfl rfl rfl rfl (fun s1 _ => vc_ret (fun _ _ _ _ => rfl)))
  simp only [BE.den, IE.den, SV.den, SV.dens, List.getD_cons_zero, List.getD_cons_succ, List.cons_append, List.nil_append, List.append_assoc, ltB_true, leB_true, eqB_true, ltB_false, leB_false, eqB_false, Bool.not_eq_true', Bool.not_eq_false', Bool.and_eq_true, Bool.or_eq_true, Bool.and_eq_false_iff, Bool.or_eq_false_iff] at h
  refine vc_call _ _ [n] [] [] (fun s1 _ => hct s1) (fun _ => rfl) rfl rfl rfl rfl rfl (fun s3 hs3 => ?_)
  conv => arg 5; simp only [List.cons_append, List.nil_append, List.append_nil]
  refine vc_ite (fun h => ?_) (fun h3 => ?_)
  · exact (vc_call _ _ [] [true] [] (fun s1 _ => lives_ct s1) (fun _ => rfl) rfl rfl rfl rfl rfl (fun s1 _ => vc_ret (fun _ _ _ _ => rfl)))
  have hS : S.list ≠ [] := by
    intro h0
    have := list_len S
    rw [h0] at this
    simp at this
    omega
  obtain ⟨_, _, k1, k2, k3, k4⟩ := demand_spec L S p hp hS
  have hb := Bd.bds_ok _ k4
  obtain ⟨x, hx⟩ : ∃ x, x = best L S p := ⟨_, rfl⟩
  have hl3 := ((hl.mono hs1).mono hs2).mono hs3
  rw [← hx] at k1 k2 k3 k4 hb
  obtain ⟨b, m⟩ := x
  have hct : ∀ s4, s3.le s4 → Ct Try.prog 19 [lv, S.v, p.v] s4 (fun v _ => v = bestV (b, m)) := fun s2 hs2 => by rw [hx]; exact best_ct L hL lv S p s2 (hl3.mono hs2)
  refine vc_call _ _ (b.l ++ [m]) [] [] hct (fun _ => rfl) rfl rfl rfl rfl rfl (fun s4 hs4 => ?_)
  conv => arg 5; simp only [List.cons_append, List.nil_append, List.append_nil, Bd.l]
  have hl4 := hl3.mono hs4
  simp only at k1 k2 k3 k4 hb
  have hum : utility L p b = m := by unfold utility; rw [if_pos ⟨hp, hb.1⟩]; exact k1
  refine vc_ite (fun h => ?_) (fun _ => ?_)
  · exfalso; simp only [BE.den, IE.den, SV.den, SV.dens, List.getD_cons_zero, List.getD_cons_succ, List.cons_append, List.nil_append, List.append_assoc, ltB_true, leB_true, eqB_true, ltB_false, leB_false, eqB_false, Bool.not_eq_true', Bool.not_eq_false', Bool.and_eq_true, Bool.or_eq_true, Bool.and_eq_false_iff, Bool.or_eq_false_iff] at h; omega
  have hct : ∀ s5, s4.le s5 → Ct Try.prog 16 [lv, p.v, b.v] s5 (fun v _ => v = .int .i64 m) := fun s2 hs2 => by rw [← hum]; exact utility_ct L hL lv p b s2 (hl4.mono hs2)
  refine vc_call _ _ [m] [] [] hct (fun _ => rfl) rfl rfl rfl rfl rfl (fun s5 hs5 => ?_)
  conv => arg 5; simp only [List.cons_append, List.nil_append, List.append_nil]
  have hl5 := hl4.mono hs5
  refine vc_ite (fun h => ?_) (fun _ => ?_)
  · exfalso; simp [BE.den, IE.den, eqB] at h
  have hct : ∀ s6, Ct Try.prog 24 [b.v, S.v] s6 (fun v _ => v = .bool true) := fun s6 => by have := within_ct b S s6; rw [decide_eq_true hb.2] at this; exact this
  refine vc_call _ _ [] [true] [] (fun s6 _ => hct s6) (fun _ => rfl) rfl rfl rfl rfl rfl (fun s6 hs6 => ?_)
  conv => arg 5; simp only [List.cons_append, List.nil_append, List.append_nil]
  refine vc_ite (fun h => ?_) (fun _ => ?_)
  · exfalso; simp [BE.den] at h
  have hl6 := hl5.mono hs6
  refine vc_callS _ _ _ (fun s1 _ => li_ct S s1) (fun _ => rfl) rfl (fun wv s7 hs7 hw => vc_stop ?_)
  conv => arg 9; simp only [List.cons_append, List.nil_append, List.append_nil]
  refine lo_r0 L hL S p m (fun y hy => ?_) lv wv lo_a_0 _ _ _ (by kernel_rfl) ⟨0, rfl, rfl, Nat.zero_le _, hl6.mono hs7, BdIn.of hw⟩
  unfold utility
  rw [if_pos ⟨hp, (Bd.bds_ok y hy).1⟩]
  exact k3 y hy

def lp_o : Out :=
  (.need (.is 0 0)
  (.ite (.lt (.l 40) (.slen 0))
  (.call 15 [] [] (.bool (.a 0)) 0 1 0
  (.ret (.bool (.a 0)) []))
  (.need (.is 0 1)
  (.ite (.lt (.l 8) (.slen 1))
  (.call 15 [] [] (.bool (.a 0)) 0 1 0
  (.ret (.bool (.a 0)) []))
  (.call 18 [(.agg [(.int .i64 (.a 0)), (.int .i64 (.a 1)), (.int .i64 (.a 2)), (.int .i64 (.a 3)), (.int .i64 (.a 4)), (.int .i64 (.a 5))])] [] (.int .i64 (.a 6)) 1 0 0
  (.ite (.lt (.l 100) (.a 6))
  (.call 15 [] [] (.bool (.a 0)) 0 1 0
  (.ret (.bool (.a 0)) []))
  (.call 26 [(.va 0), (.agg [(.int .i64 (.a 0)), (.int .i64 (.a 1)), (.int .i64 (.a 2)), (.int .i64 (.a 3)), (.int .i64 (.a 4)), (.int .i64 (.a 5))]), (.va 1)] [] (.va 2) 0 0 1
  (.call 27 [(.va 0), (.agg [(.int .i64 (.a 0)), (.int .i64 (.a 1)), (.int .i64 (.a 2)), (.int .i64 (.a 3)), (.int .i64 (.a 4)), (.int .i64 (.a 5))]), (.va 1)] [] (.va 3) 0 0 1
  (.need (.is 0 2)
  (.need (.is 0 3)
  (.ite (.not (.eq (.slen 2) (.slen 3)))
  (.ret (.bool (.t false)) [])
  (.stop { todo := [(.code [false, false, true, false, true, true, true, true]), (.inLoop [false, false, true, false, true, true, true, true]), (.inBlock 0), (.code [true, true, true, true, true])], sl := [(.va 0), (.agg [(.int .i64 (.a 0)), (.int .i64 (.a 1)), (.int .i64 (.a 2)), (.int .i64 (.a 3)), (.int .i64 (.a 4)), (.int .i64 (.a 5))]), (.va 1), .undef, (.ptr 0 0), .undef, (.bool (.t false)), (.va 2), (.va 3), (.int .i64 (.l 0)), (.va 0), (.int .i64 (.slen 0)), (.bool (.lt (.l 40) (.slen 0))), (.bool (.t false)), (.va 1), (.int .i64 (.slen 1)), (.bool (.lt (.l 8) (.slen 1))), (.bool (.lt (.l 8) (.slen 1))), (.bool (.t false)), (.agg [(.int .i64 (.a 0)), (.int .i64 (.a 1)), (.int .i64 (.a 2)), (.int .i64 (.a 3)), (.int .i64 (.a 4)), (.int .i64 (.a 5))]), (.int .i64 (.a 6)), (.bool (.lt (.l 100) (.a 6))), (.bool (.lt (.l 100) (.a 6))), .undef, (.va 0), (.agg [(.int .i64 (.a 0)), (.int .i64 (.a 1)), (.int .i64 (.a 2)), (.int .i64 (.a 3)), (.int .i64 (.a 4)), (.int .i64 (.a 5))]), (.va 1), (.va 2), (.va 0), (.agg [(.int .i64 (.a 0)), (.int .i64 (.a 1)), (.int .i64 (.a 2)), (.int .i64 (.a 3)), (.int .i64 (.a 4)), (.int .i64 (.a 5))]), (.va 1), (.va 3), (.va 2), (.int .i64 (.slen 2)), (.va 3), (.int .i64 (.slen 3)), (.bool (.not (.eq (.slen 2) (.slen 3)))), .undef, .undef, .undef, .undef, .undef, .undef, .undef, .undef, .undef, .undef, .undef, .undef, .undef, .undef, .undef, .undef], H := [(.cells [(.int .i64 (.a 0)), (.int .i64 (.a 1)), (.int .i64 (.a 2)), (.int .i64 (.a 3)), (.int .i64 (.a 4)), (.int .i64 (.a 5))] 26 false)], ni := 7, nb := 0, nv := 4, nj := 0 }))))))))))))
theorem lp_o_eq : run (cx true [[false, false, true, false, true, true, true, true]] []) (fnOf Try.f7) 5000 (startCfg Try.f7.ntmps [.va 0, b6 0, .va 1] 6 0 2) = lp_o := by kernel_rfl
theorem lp_o_ct {Q : Value → Hp → Prop} {s : Hp} (i : List Int) (b : List Bool) (v : List Value) (hi : i.length = 6) (hb : b.length = 0) (hv : v.length = 2) (hok : v.all fineV = true)
    (h : ∀ w0, VC Try.prog Q (Go.Sx.Reach Try.prog 7 (Ret Q s w0) (fnOf Try.f7).body w0 s) lp_o ⟨i, b, v, []⟩ s) : Ct Try.prog 7 (SV.dens ⟨i, b, v, []⟩ id [.va 0, b6 0, .va 1]) s Q := by
  refine ct_run (fn := fnOf Try.f7) (progOk true [[false, false, true, false, true, true, true, true]] []) Try.func7 rfl rfl 5000 (fun x hx => List.all_eq_true.1 hok x hx) rfl (fun w0 => ?_)
  rw [hi, hb, hv, lp_o_eq]
  exact h w0
def lp_a_0 : Asg :=
  ⟨[(.l 0)], [], [(.va 2), (.va 3)], [(.va 0), (.agg [(.int .i64 (.a 0)), (.int .i64 (.a 1)), (.int .i64 (.a 2)), (.int .i64 (.a 3)), (.int .i64 (.a 4)), (.int .i64 (.a 5))]), (.va 1), (.ptr 0 0), (.bool (.t false)), (.va 0), (.int .i64 (.slen 0)), (.bool (.lt (.l 40) (.slen 0))), (.bool (.t false)), (.va 1), (.int .i64 (.slen 1)), (.bool (.lt (.l 8) (.slen 1))), (.bool (.lt (.l 8) (.slen 1))), (.bool (.t false)), (.agg [(.int .i64 (.a 0)), (.int .i64 (.a 1)), (.int .i64 (.a 2)), (.int .i64 (.a 3)), (.int .i64 (.a 4)), (.int .i64 (.a 5))]), (.int .i64 (.a 6)), (.bool (.lt (.l 100) (.a 6))), (.bool (.lt (.l 100) (.a 6))), (.va 0), (.agg [(.int .i64 (.a 0)), (.int .i64 (.a 1)), (.int .i64 (.a 2)), (.int .i64 (.a 3)), (.int .i64 (.a 4)), (.int .i64 (.a 5))]), (.va 1), (.va 2), (.va 0), (.agg [(.int .i64 (.a 0)), (.int .i64 (.a 1)), (.int .i64 (.a 2)), (.int .i64 (.a 3)), (.int .i64 (.a 4)), (.int .i64 (.a 5))]), (.va 1), (.va 3), (.va 2), (.int .i64 (.slen 2)), (.va 3), (.int .i64 (.slen 3)), (.bool (.not (.eq (.slen 2) (.slen 3)))), .undef, .undef, .undef, .undef, .undef, .undef, .undef, .undef, .undef, .undef, .undef, .undef, .undef, .undef, .undef]⟩
def lp_p0 : Cfg :=
  { todo := [(.code [false, false, true, false, true, true, true, true]), (.inLoop [false, false, true, false, true, true, true, true]), (.inBlock 0), (.code [true, true, true, true, true])], sl := [(.junk 0), (.junk 1), (.junk 2), .undef, (.junk 3), .undef, (.junk 4), (.va 0), (.va 1), (.int .i64 (.a 0)), (.junk 5), (.junk 6), (.junk 7), (.junk 8), (.junk 9), (.junk 10), (.junk 11), (.junk 12), (.junk 13), (.junk 14), (.junk 15), (.junk 16), (.junk 17), .undef, (.junk 18), (.junk 19), (.junk 20), (.junk 21), (.junk 22), (.junk 23), (.junk 24), (.junk 25), (.junk 26), (.junk 27), (.junk 28), (.junk 29), (.junk 30), (.junk 31), (.junk 32), (.junk 33), (.junk 34), (.junk 35), (.junk 36), (.junk 37), (.junk 38), (.junk 39), (.junk 40), (.junk 41), (.junk 42), (.junk 43), (.junk 44), (.junk 45), .undef], H := [], ni := 1, nb := 0, nv := 2, nj := 46 }
def lp_o0 : Out :=
  (.need (.is 0 1)
  (.ite (.lt (.a 0) (.slen 1))
  (.need (.and (.le (.l 0) (.a 0)) (.lt (.a 0) (.slen 0)))
  (.need (.and (.le (.l 0) (.a 0)) (.lt (.a 0) (.slen 1)))
  (.load (.ea 0 (.a 0) 12 0) [(.int .i64 (.a 1)), (.int .i64 (.a 2)), (.int .i64 (.a 3)), (.int .i64 (.a 4)), (.int .i64 (.a 5)), (.int .i64 (.a 6)), (.int .i64 (.a 7)), (.int .i64 (.a 8)), (.int .i64 (.a 9)), (.int .i64 (.a 10)), (.int .i64 (.a 11)), (.int .i64 (.a 12))] 12 0 0
  (.load (.ea 1 (.a 0) 12 0) [(.int .i64 (.a 13)), (.int .i64 (.a 14)), (.int .i64 (.a 15)), (.int .i64 (.a 16)), (.int .i64 (.a 17)), (.int .i64 (.a 18)), (.int .i64 (.a 19)), (.int .i64 (.a 20)), (.int .i64 (.a 21)), (.int .i64 (.a 22)), (.int .i64 (.a 23)), (.int .i64 (.a 24))] 12 0 0
  (.ite (.not (.and (.eq (.a 1) (.a 13)) (.and (.eq (.a 2) (.a 14)) (.and (.eq (.a 3) (.a 15)) (.and (.eq (.a 4) (.a 16)) (.and (.eq (.a 5) (.a 17)) (.and (.eq (.a 6) (.a 18)) (.and (.eq (.a 7) (.a 19)) (.and (.eq (.a 8) (.a 20)) (.and (.eq (.a 9) (.a 21)) (.and (.eq (.a 10) (.a 22)) (.and (.eq (.a 11) (.a 23)) (.eq (.a 12) (.a 24))))))))))))))
  (.ret (.bool (.t false)) [])
  (.need (.and (.le (.l (-9223372036854775808)) (.add (.a 0) (.l 1))) (.le (.add (.a 0) (.l 1)) (.l 9223372036854775807)))
  (.stop { todo := [(.code [false, false, true, false, true, true, true, true]), (.inLoop [false, false, true, false, true, true, true, true]), (.inBlock 0), (.code [true, true, true, true, true])], sl := [(.junk 0), (.junk 1), (.junk 2), .undef, (.junk 3), .undef, (.junk 4), (.va 0), (.va 1), (.int .i64 (.add (.a 0) (.l 1))), (.junk 5), (.junk 6), (.junk 7), (.junk 8), (.junk 9), (.junk 10), (.junk 11), (.junk 12), (.junk 13), (.junk 14), (.junk 15), (.junk 16), (.junk 17), .undef, (.junk 18), (.junk 19), (.junk 20), (.junk 21), (.junk 22), (.junk 23), (.junk 24), (.junk 25), (.junk 26), (.junk 27), (.junk 28), (.junk 29), (.junk 30), (.int .i64 (.a 0)), (.va 1), (.int .i64 (.slen 1)), (.bool (.lt (.a 0) (.slen 1))), (.int .i64 (.a 0)), (.int .i64 (.add (.a 0) (.l 1))), (.va 0), (.int .i64 (.a 0)), (.ea 0 (.a 0) 12 0), (.agg [(.int .i64 (.a 1)), (.int .i64 (.a 2)), (.int .i64 (.a 3)), (.int .i64 (.a 4)), (.int .i64 (.a 5)), (.int .i64 (.a 6)), (.int .i64 (.a 7)), (.int .i64 (.a 8)), (.int .i64 (.a 9)), (.int .i64 (.a 10)), (.int .i64 (.a 11)), (.int .i64 (.a 12))]), (.va 1), (.int .i64 (.a 0)), (.ea 1 (.a 0) 12 0), (.agg [(.int .i64 (.a 13)), (.int .i64 (.a 14)), (.int .i64 (.a 15)), (.int .i64 (.a 16)), (.int .i64 (.a 17)), (.int .i64 (.a 18)), (.int .i64 (.a 19)), (.int .i64 (.a 20)), (.int .i64 (.a 21)), (.int .i64 (.a 22)), (.int .i64 (.a 23)), (.int .i64 (.a 24))]), (.bool (.not (.and (.eq (.a 1) (.a 13)) (.and (.eq (.a 2) (.a 14)) (.and (.eq (.a 3) (.a 15)) (.and (.eq (.a 4) (.a 16)) (.and (.eq (.a 5) (.a 17)) (.and (.eq (.a 6) (.a 18)) (.and (.eq (.a 7) (.a 19)) (.and (.eq (.a 8) (.a 20)) (.and (.eq (.a 9) (.a 21)) (.and (.eq (.a 10) (.a 22)) (.and (.eq (.a 11) (.a 23)) (.eq (.a 12) (.a 24))))))))))))))), .undef], H := [], ni := 25, nb := 0, nv := 2, nj := 46 })))))))
  (.call 15 [] [] (.bool (.a 0)) 0 1 0
  (.ret (.bool (.a 0)) []))))
theorem lp_o0_eq : run (cx true [[false, false, true, false, true, true, true, true]] []) (fnOf Try.f7) 5000 lp_p0 = lp_o0 := by kernel_rfl
theorem lp_l0 {Q : Value → Hp → Prop} {w0 : World} {s0 : Hp} (I : List Int → List Bool → List Value → Hp → Prop) (m : List Int → List Bool → List Value → Nat)
    (round : ∀ is bs vs js s1, is.length = 1 → bs.length = 0 → vs.length = 2 → I is bs vs s1 →
      (∀ (A : Asg) g r s, s1.le s → Go.Sx.fits ⟨0, 0, 0, 0⟩ A lp_p0 g = true → I (A.is.map (IE.den r)) (A.bs.map (BE.den r)) (SV.dens r id A.vs) s → m (A.is.map (IE.den r)) (A.bs.map (BE.den r)) (SV.dens r id A.vs) < m is bs vs →
        Go.Sx.Reach Try.prog 7 (Ret Q s0 w0) (fnOf Try.f7).body w0 s0 g r s) → VC Try.prog Q (Go.Sx.Reach Try.prog 7 (Ret Q s0 w0) (fnOf Try.f7).body w0 s0) lp_o0 ⟨is, bs, vs, js⟩ s1) :
    ∀ (A : Asg) (g : Cfg) (r : Env) (s : Hp), Go.Sx.fits ⟨0, 0, 0, 0⟩ A lp_p0 g = true → I (A.is.map (IE.den r)) (A.bs.map (BE.den r)) (SV.dens r id A.vs) s → Go.Sx.Reach Try.prog 7 (Ret Q s0 w0) (fnOf Try.f7).body w0 s0 g r s :=
  loop0 (fn := fnOf Try.f7) (progOk true [[false, false, true, false, true, true, true, true]] []) Try.func7 rfl 5000 lp_p0 I m (fun _ _ _ _ h => by cases h) (fun is bs vs js s1 h1 h2 h3 _ h ih => by
    rw [lp_o0_eq]
    exact round is bs vs js s1 h1 h2 h3 h ih)
def lp_a0_0 : Asg :=
  ⟨[(.add (.a 0) (.l 1))], [], [(.va 0), (.va 1)], [(.junk 0), (.junk 1), (.junk 2), (.junk 3), (.junk 4), (.junk 5), (.junk 6), (.junk 7), (.junk 8), (.junk 9), (.junk 10), (.junk 11), (.junk 12), (.junk 13), (.junk 14), (.junk 15), (.junk 16), (.junk 17), (.junk 18), (.junk 19), (.junk 20), (.junk 21), (.junk 22), (.junk 23), (.junk 24), (.junk 25), (.junk 26), (.junk 27), (.junk 28), (.junk 29), (.junk 30), (.int .i64 (.a 0)), (.va 1), (.int .i64 (.slen 1)), (.bool (.lt (.a 0) (.slen 1))), (.int .i64 (.a 0)), (.int .i64 (.add (.a 0) (.l 1))), (.va 0), (.int .i64 (.a 0)), (.ea 0 (.a 0) 12 0), (.agg [(.int .i64 (.a 1)), (.int .i64 (.a 2)), (.int .i64 (.a 3)), (.int .i64 (.a 4)), (.int .i64 (.a 5)), (.int .i64 (.a 6)), (.int .i64 (.a 7)), (.int .i64 (.a 8)), (.int .i64 (.a 9)), (.int .i64 (.a 10)), (.int .i64 (.a 11)), (.int .i64 (.a 12))]), (.va 1), (.int .i64 (.a 0)), (.ea 1 (.a 0) 12 0), (.agg [(.int .i64 (.a 13)), (.int .i64 (.a 14)), (.int .i64 (.a 15)), (.int .i64 (.a 16)), (.int .i64 (.a 17)), (.int .i64 (.a 18)), (.int .i64 (.a 19)), (.int .i64 (.a 20)), (.int .i64 (.a 21)), (.int .i64 (.a 22)), (.int .i64 (.a 23)), (.int .i64 (.a 24))]), (.bool (.not (.and (.eq (.a 1) (.a 13)) (.and (.eq (.a 2) (.a 14)) (.and (.eq (.a 3) (.a 15)) (.and (.eq (.a 4) (.a 16)) (.and (.eq (.a 5) (.a 17)) (.and (.eq (.a 6) (.a 18)) (.and (.eq (.a 7) (.a 19)) (.and (.eq (.a 8) (.a 20)) (.and (.eq (.a 9) (.a 21)) (.and (.eq (.a 10) (.a 22)) (.and (.eq (.a 11) (.a 23)) (.eq (.a 12) (.a 24)))))))))))))))]⟩

def LpI (D : List Ch) (dv wv : Value) : List Int → List Bool → List Value → Hp → Prop := fun is bs vs s =>
  ∃ (i : Nat), is = [(i : Int)] ∧ vs = [dv, wv] ∧ i ≤ D.length ∧ D.length ≤ 15625 ∧ ChIn s dv D ∧ ChIn s wv D
theorem lp_r0 (D : List Ch) (dv wv : Value) {w0 : World} {s0 : Hp} : ∀ (A : Asg) (g : Cfg) (r : Env) (s : Hp), Go.Sx.fits ⟨0, 0, 0, 0⟩ A lp_p0 g = true → LpI D dv wv (A.is.map (IE.den r)) (A.bs.map (BE.den r)) (SV.dens r id A.vs) s →
    Go.Sx.Reach Try.prog 7 (Ret (fun v s => v = .bool true) s0 w0) (fnOf Try.f7).body w0 s0 g r s := by
  refine lp_l0 (LpI D dv wv) (fun is _ _ => D.length - (is.getD 0 0).toNat) (fun is bs vs js s1 l1 l2 l3 hI ih => ?_)
  obtain ⟨i, rfl, rfl, hi, hle, h0, h1⟩ := hI
  obtain rfl : bs = [] := List.length_eq_zero_iff.1 l2
  unfold lp_o0
  refine vc_need h1.kind (fun _ => ?_)
  refine vc_ite (fun h => ?_) (fun h => ?_) <;> simp only [BE.den, IE.den, SV.den, SV.dens, List.getD_cons_zero, List.getD_cons_succ, List.cons_append, List.nil_append, List.append_assoc, ltB_true, leB_true, eqB_true, ltB_false, leB_false, eqB_false, Bool.not_eq_true', Bool.not_eq_false', Bool.and_eq_true, Bool.or_eq_true, Bool.and_eq_false_iff, Bool.or_eq_false_iff, h1.len, List.length_map] at h
  · refine vc_need (by simp only [BE.den, IE.den, SV.den, SV.dens, List.getD_cons_zero, List.getD_cons_succ, List.cons_append, List.nil_append, List.append_assoc, ltB_true, leB_true, eqB_true, ltB_false, leB_false, eqB_false, Bool.not_eq_true', Bool.not_eq_false', Bool.and_eq_true, Bool.or_eq_true, Bool.and_eq_false_iff, Bool.or_eq_false_iff, h0.len, List.length_map]; omega) (fun _ => ?_)
    refine vc_need (by simp only [BE.den, IE.den, SV.den, SV.dens, List.getD_cons_zero, List.getD_cons_succ, List.cons_append, List.nil_append, List.append_assoc, ltB_true, leB_true, eqB_true, ltB_false, leB_false, eqB_false, Bool.not_eq_true', Bool.not_eq_false', Bool.and_eq_true, Bool.or_eq_true, Bool.and_eq_false_iff, Bool.or_eq_false_iff, h1.len, List.length_map]; omega) (fun _ => ?_)
    obtain ⟨x, hx⟩ : ∃ x, D[i]? = some x := ⟨_, List.getElem?_eq_getElem (by omega)⟩
    refine vc_load (x.p.l ++ x.w.l) [] [] x.cs (h0.at rfl rfl (by rw [List.getElem?_map, hx]; rfl)) rfl rfl rfl rfl rfl ?_
    conv => arg 5; simp only [List.cons_append, List.nil_append, List.append_nil, Bd.l]
    refine vc_load (x.p.l ++ x.w.l) [] [] x.cs (h1.at rfl rfl (by rw [List.getElem?_map, hx]; rfl)) rfl rfl rfl rfl rfl ?_
    conv => arg 5; simp only [List.cons_append, List.nil_append, List.append_nil, Bd.l]
    refine vc_ite (fun h => ?_) (fun _ => ?_)
    · exfalso; simp [BE.den, IE.den, eqB] at h
    refine vc_need (by simp only [BE.den, IE.den, SV.den, SV.dens, List.getD_cons_zero, List.getD_cons_succ, List.cons_append, List.nil_append, List.append_assoc, ltB_true, leB_true, eqB_true, ltB_false, leB_false, eqB_false, Bool.not_eq_true', Bool.not_eq_false', Bool.and_eq_true, Bool.or_eq_true, Bool.and_eq_false_iff, Bool.or_eq_false_iff]; omega) (fun _ => vc_stop ?_)
    refine ih lp_a0_0 _ _ _ (Hp.le_refl _) (by kernel_rfl) ⟨i + 1, rfl, rfl, by omega, hle, h0, h1⟩ ?_
    show D.length - ((i : Int) + 1).toNat < D.length - (i : Int).toNat
    omega
  · exact (vc_call _ _ [] [true] [] (fun s1 _ => lives_ct s1) (fun _ => rfl) rfl rfl rfl rfl rfl (fun s1 _ => vc_ret (fun _ _ _ _ => rfl)))
theorem lp_ct (L : List Of) (Ps : List Bd) (lv pv : Value) (S : Bd) (s : Hp) (hl : OfIn s lv L) (hp : BdIn s pv Ps) : Ct Try.prog 7 [lv, S.v, pv] s (fun v s' => v = .bool true) := by
  refine lp_o_ct S.l [] [lv, pv] rfl rfl rfl (by simp [hl.fine, hp.fine]) (fun w0 => ?_)
  unfold lp_o
  conv => arg 5; simp only [Bd.l]
  refine vc_need hl.kind (fun _ => ?_)
  refine vc_ite (fun h => ?_) (fun h => ?_) <;> simp only [BE.den, IE.den, SV.den, SV.dens, List.getD_cons_zero, List.getD_cons_succ, List.cons_append, List.nil_append, List.append_assoc, ltB_true, leB_true, eqB_true, ltB_false, leB_false, eqB_false, Bool.not_eq_true', Bool.not_eq_false', Bool.and_eq_true, Bool.or_eq_true, Bool.and_eq_false_iff, Bool.or_eq_false_iff, hl.len, List.length_map] at h
  · exact (vc_call _ _ [] [true] [] (fun s1 _ => lives_ct s1) (fun _ => rfl) rfl rfl rfl rfl rfl (fun s1 _ => vc_ret (fun _ _ _ _ => rfl)))
  have hL : L.length ≤ 1000 := by omega
  refine vc_need hp.kind (fun _ => ?_)
  refine vc_ite (fun h => ?_) (fun h2 => ?_)
  · exact (vc_call _ _ [] [true] [] (fun s1 _ => lives_ct s1) (fun _ => rfl) rfl rfl rfl rfl rfl (fun s1 _ => vc_ret (fun _ _ _ _ => rfl)))
  simp only [BE.den, IE.den, SV.den, SV.dens, List.getD_cons_zero, List.getD_cons_succ, List.cons_append, List.nil_append, List.append_assoc, ltB_true, leB_true, eqB_true, ltB_false, leB_false, eqB_false, Bool.not_eq_true', Bool.not_eq_false', Bool.and_eq_true, Bool.or_eq_true, Bool.and_eq_false_iff, Bool.or_eq_false_iff, hp.len, List.length_map] at h2
  have hP : Ps.length ≤ 1000 := by omega
  obtain ⟨n, hn⟩ : ∃ n, n = S.cnt := ⟨_, rfl⟩
  have hct : ∀ s1, Ct Try.prog 18 [S.v] s1 (fun v _ => v = .int .i64 n) := fun s1 => by rw [hn]; exact rcount_ct S s1
  refine vc_call _ _ [n] [] [] (fun s1 _ => hct s1) (fun _ => rfl) rfl rfl rfl rfl rfl (fun s1 hs1 => ?_)
  conv => arg 5; simp only [List.cons_append, List.nil_append, List.append_nil]
  refine vc_ite (fun h => ?_) (fun h => ?_)
  · exact (vc_call _ _ [] [true] [] (fun s1 _ => lives_ct s1) (fun _ => rfl) rfl rfl rfl rfl rfl (fun s1 _ => vc_ret (fun _ _ _ _ => rfl)))
  have hl1 := hl.mono hs1
  have hp1 := hp.mono hs1
  refine vc_callS _ _ _ (fun s4 hs => path_ct L hL S Ps hP lv pv s4 (hl1.mono hs) (hp1.mono hs)) (fun _ => rfl) rfl (fun dv s4 hs4 hd => ?_)
  conv => arg 5; simp only [List.cons_append, List.nil_append, List.append_nil]
  have hl4 := hl1.mono hs4
  have hp4 := hp1.mono hs4
  refine vc_callS _ _ _ (fun s5 hs => rpath_ct L hL S Ps hP lv pv s5 (hl4.mono hs) (hp4.mono hs)) (fun _ => rfl) rfl (fun wv s5 hs5 hw => ?_)
  conv => arg 5; simp only [List.cons_append, List.nil_append, List.append_nil]
  have hd := hd.mono hs5
  refine vc_need hd.kind (fun _ => ?_)
  refine vc_need hw.kind (fun _ => ?_)
  refine vc_ite (fun h => ?_) (fun _ => vc_stop ?_)
  · exfalso; simp only [BE.den, IE.den, SV.den, SV.dens, List.getD_cons_zero, List.getD_cons_succ, List.cons_append, List.nil_append, List.append_assoc, ltB_true, leB_true, eqB_true, ltB_false, leB_false, eqB_false, Bool.not_eq_true', Bool.not_eq_false', Bool.and_eq_true, Bool.or_eq_true, Bool.and_eq_false_iff, Bool.or_eq_false_iff, hd.len, hw.len] at h; exact h trivial
  exact lp_r0 _ dv wv lp_a_0 _ _ _ (by kernel_rfl) ⟨0, rfl, rfl, Nat.zero_le _, by unfold path; rw [List.length_map]; omega, hd, hw⟩

end Go.Proofs.Ytbmfegliomkkfaa
