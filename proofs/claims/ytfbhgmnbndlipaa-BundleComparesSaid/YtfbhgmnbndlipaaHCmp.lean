/- The law BundleCompares: true, whatever comes in. -/
import Derived.Test.YtfbhgmnbndlipaaHB7
set_option linter.unusedSimpArgs false
set_option linter.unusedVariables false
namespace Go.Proofs.Ytfbhgmnbndlipaa
open Go.Sx Go.Bun

def o_bundleCompares : Out :=
  (.call 17 [(.agg [(.int .i64 (.a 0)), (.int .i64 (.a 1)), (.int .i64 (.a 2)), (.int .i64 (.a 3)), (.int .i64 (.a 4)), (.int .i64 (.a 5))])] [] (.int .i64 (.a 12)) 1 0 0
  (.call 18 [(.agg [(.int .i64 (.a 0)), (.int .i64 (.a 1)), (.int .i64 (.a 2)), (.int .i64 (.a 3)), (.int .i64 (.a 4)), (.int .i64 (.a 5))])] [] (.int .i64 (.a 13)) 1 0 0
  (.ite (.eq (.a 12) (.a 13))
  (.call 19 [(.agg [(.int .i64 (.a 0)), (.int .i64 (.a 1)), (.int .i64 (.a 2)), (.int .i64 (.a 3)), (.int .i64 (.a 4)), (.int .i64 (.a 5))]), (.agg [(.int .i64 (.a 6)), (.int .i64 (.a 7)), (.int .i64 (.a 8)), (.int .i64 (.a 9)), (.int .i64 (.a 10)), (.int .i64 (.a 11))])] [] (.agg [(.int .i64 (.a 14)), (.int .i64 (.a 15)), (.int .i64 (.a 16)), (.int .i64 (.a 17)), (.int .i64 (.a 18)), (.int .i64 (.a 19))]) 6 0 0
  (.call 20 [(.agg [(.int .i64 (.a 0)), (.int .i64 (.a 1)), (.int .i64 (.a 2)), (.int .i64 (.a 3)), (.int .i64 (.a 4)), (.int .i64 (.a 5))]), (.agg [(.int .i64 (.a 6)), (.int .i64 (.a 7)), (.int .i64 (.a 8)), (.int .i64 (.a 9)), (.int .i64 (.a 10)), (.int .i64 (.a 11))])] [] (.agg [(.int .i64 (.a 20)), (.int .i64 (.a 21)), (.int .i64 (.a 22)), (.int .i64 (.a 23)), (.int .i64 (.a 24)), (.int .i64 (.a 25))]) 6 0 0
  (.ite (.and (.eq (.a 14) (.a 20)) (.and (.eq (.a 15) (.a 21)) (.and (.eq (.a 16) (.a 22)) (.and (.eq (.a 17) (.a 23)) (.and (.eq (.a 18) (.a 24)) (.eq (.a 19) (.a 25)))))))
  (.call 21 [(.agg [(.int .i64 (.a 0)), (.int .i64 (.a 1)), (.int .i64 (.a 2)), (.int .i64 (.a 3)), (.int .i64 (.a 4)), (.int .i64 (.a 5))]), (.agg [(.int .i64 (.a 6)), (.int .i64 (.a 7)), (.int .i64 (.a 8)), (.int .i64 (.a 9)), (.int .i64 (.a 10)), (.int .i64 (.a 11))])] [] (.agg [(.int .i64 (.a 26)), (.int .i64 (.a 27)), (.int .i64 (.a 28)), (.int .i64 (.a 29)), (.int .i64 (.a 30)), (.int .i64 (.a 31))]) 6 0 0
  (.call 22 [(.agg [(.int .i64 (.a 0)), (.int .i64 (.a 1)), (.int .i64 (.a 2)), (.int .i64 (.a 3)), (.int .i64 (.a 4)), (.int .i64 (.a 5))]), (.agg [(.int .i64 (.a 6)), (.int .i64 (.a 7)), (.int .i64 (.a 8)), (.int .i64 (.a 9)), (.int .i64 (.a 10)), (.int .i64 (.a 11))])] [] (.agg [(.int .i64 (.a 32)), (.int .i64 (.a 33)), (.int .i64 (.a 34)), (.int .i64 (.a 35)), (.int .i64 (.a 36)), (.int .i64 (.a 37))]) 6 0 0
  (.ite (.and (.eq (.a 26) (.a 32)) (.and (.eq (.a 27) (.a 33)) (.and (.eq (.a 28) (.a 34)) (.and (.eq (.a 29) (.a 35)) (.and (.eq (.a 30) (.a 36)) (.eq (.a 31) (.a 37)))))))
  (.call 23 [(.agg [(.int .i64 (.a 0)), (.int .i64 (.a 1)), (.int .i64 (.a 2)), (.int .i64 (.a 3)), (.int .i64 (.a 4)), (.int .i64 (.a 5))]), (.agg [(.int .i64 (.a 6)), (.int .i64 (.a 7)), (.int .i64 (.a 8)), (.int .i64 (.a 9)), (.int .i64 (.a 10)), (.int .i64 (.a 11))])] [] (.bool (.a 0)) 0 1 0
  (.call 24 [(.agg [(.int .i64 (.a 0)), (.int .i64 (.a 1)), (.int .i64 (.a 2)), (.int .i64 (.a 3)), (.int .i64 (.a 4)), (.int .i64 (.a 5))]), (.agg [(.int .i64 (.a 6)), (.int .i64 (.a 7)), (.int .i64 (.a 8)), (.int .i64 (.a 9)), (.int .i64 (.a 10)), (.int .i64 (.a 11))])] [] (.bool (.a 1)) 0 1 0
  (.ite (.or (.and (.a 0) (.a 1)) (.and (.not (.a 0)) (.not (.a 1))))
  (.call 16 [(.agg [(.int .i64 (.a 0)), (.int .i64 (.a 1)), (.int .i64 (.a 2)), (.int .i64 (.a 3)), (.int .i64 (.a 4)), (.int .i64 (.a 5))]), (.agg [(.int .i64 (.a 6)), (.int .i64 (.a 7)), (.int .i64 (.a 8)), (.int .i64 (.a 9)), (.int .i64 (.a 10)), (.int .i64 (.a 11))])] [] (.int .i64 (.a 38)) 1 0 0
  (.call 25 [(.agg [(.int .i64 (.a 0)), (.int .i64 (.a 1)), (.int .i64 (.a 2)), (.int .i64 (.a 3)), (.int .i64 (.a 4)), (.int .i64 (.a 5))]), (.agg [(.int .i64 (.a 6)), (.int .i64 (.a 7)), (.int .i64 (.a 8)), (.int .i64 (.a 9)), (.int .i64 (.a 10)), (.int .i64 (.a 11))])] [] (.int .i64 (.a 39)) 1 0 0
  (.ite (.eq (.a 38) (.a 39))
  (.call 13 [] [] (.bool (.a 2)) 0 1 0
  (.ret (.bool (.a 2)) []))
  (.ret (.bool (.t false)) []))))
  (.ret (.bool (.t false)) []))))
  (.ret (.bool (.t false)) []))))
  (.ret (.bool (.t false)) []))))
  (.ret (.bool (.t false)) []))))
theorem o_bundleCompares_eq : run (cx true [] []) (fnOf Try.f5) 5000 (startCfg Try.f5.ntmps [b6 0, b6 6] 12 0 0) = o_bundleCompares := by kernel_rfl
theorem o_bundleCompares_ct {Q : Value → Hp → Prop} {s : Hp} (i : List Int) (b : List Bool) (v : List Value) (hi : i.length = 12) (hb : b.length = 0) (hv : v.length = 0) (hok : v.all fineV = true)
    (h : ∀ w0, VC Try.prog Q (Go.Sx.Reach Try.prog 5 (Ret Q s w0) (fnOf Try.f5).body w0 s) o_bundleCompares ⟨i, b, v, []⟩ s) : Ct Try.prog 5 (SV.dens ⟨i, b, v, []⟩ id [b6 0, b6 6]) s Q := by
  refine ct_run (fn := fnOf Try.f5) (progOk true [] []) Try.func5 rfl rfl 5000 (fun x hx => List.all_eq_true.1 hok x hx) rfl (fun w0 => ?_)
  rw [hi, hb, hv, o_bundleCompares_eq]
  exact h w0

set_option maxRecDepth 20000 in
theorem bundleCompares_ct (a b : Bd) (s : Hp) : Ct Try.prog 5 [a.v, b.v] s (fun v _ => v = .bool true) := by
  refine o_bundleCompares_ct (a.l ++ b.l) [] [] rfl rfl rfl rfl (fun w0 => ?_)
  simp only [o_bundleCompares, VC, IE.den, BE.den, SV.den, SV.dens, Env.push, Env.ext, List.getD_cons_zero, List.getD_cons_succ, List.cons_append, List.nil_append, List.append_assoc, List.map_cons, List.map_nil, ltB_true, leB_true, eqB_true, ltB_false, leB_false, eqB_false, Bool.not_eq_true', Bool.not_eq_false', Bool.and_eq_true, Bool.or_eq_true, Bool.and_eq_false_iff, Bool.or_eq_false_iff, Bd.l]
  intro β s1 _ _
  refine ⟨_, check_ct a s1, ?_⟩
  rintro v s' hs rfl
  refine ⟨[a.check], [], [], rfl, rfl, rfl, rfl, rfl, ?_⟩
  simp only [VC, IE.den, BE.den, SV.den, SV.dens, Env.push, Env.ext, List.getD_cons_zero, List.getD_cons_succ, List.cons_append, List.nil_append, List.append_assoc, List.map_cons, List.map_nil, ltB_true, leB_true, eqB_true, ltB_false, leB_false, eqB_false, Bool.not_eq_true', Bool.not_eq_false', Bool.and_eq_true, Bool.or_eq_true, Bool.and_eq_false_iff, Bool.or_eq_false_iff]
  intro β s1 _ _
  refine ⟨_, rcheck_ct a s1, ?_⟩
  rintro v s' hs rfl
  refine ⟨[a.check], [], [], rfl, rfl, rfl, rfl, rfl, ?_⟩
  simp only [VC, IE.den, BE.den, SV.den, SV.dens, Env.push, Env.ext, List.getD_cons_zero, List.getD_cons_succ, List.cons_append, List.nil_append, List.append_assoc, List.map_cons, List.map_nil, ltB_true, leB_true, eqB_true, ltB_false, leB_false, eqB_false, Bool.not_eq_true', Bool.not_eq_false', Bool.and_eq_true, Bool.or_eq_true, Bool.and_eq_false_iff, Bool.or_eq_false_iff]
  refine ⟨fun _ => ?_, fun h => by simp at h⟩
  intro β s1 _ _
  refine ⟨_, meet_ct a b s1, ?_⟩
  rintro v s' hs rfl
  refine ⟨(a.meet b).l, [], [], rfl, rfl, rfl, rfl, rfl, ?_⟩
  simp only [VC, IE.den, BE.den, SV.den, SV.dens, Env.push, Env.ext, List.getD_cons_zero, List.getD_cons_succ, List.cons_append, List.nil_append, List.append_assoc, List.map_cons, List.map_nil, ltB_true, leB_true, eqB_true, ltB_false, leB_false, eqB_false, Bool.not_eq_true', Bool.not_eq_false', Bool.and_eq_true, Bool.or_eq_true, Bool.and_eq_false_iff, Bool.or_eq_false_iff, Bd.l]
  intro β s1 _ _
  refine ⟨_, rmeet_ct a b s1, ?_⟩
  rintro v s' hs rfl
  refine ⟨(a.meet b).l, [], [], rfl, rfl, rfl, rfl, rfl, ?_⟩
  simp only [VC, IE.den, BE.den, SV.den, SV.dens, Env.push, Env.ext, List.getD_cons_zero, List.getD_cons_succ, List.cons_append, List.nil_append, List.append_assoc, List.map_cons, List.map_nil, ltB_true, leB_true, eqB_true, ltB_false, leB_false, eqB_false, Bool.not_eq_true', Bool.not_eq_false', Bool.and_eq_true, Bool.or_eq_true, Bool.and_eq_false_iff, Bool.or_eq_false_iff, Bd.l]
  refine ⟨fun _ => ?_, fun h => by simp at h⟩
  intro β s1 _ _
  refine ⟨_, join_ct a b s1, ?_⟩
  rintro v s' hs rfl
  refine ⟨(a.join b).l, [], [], rfl, rfl, rfl, rfl, rfl, ?_⟩
  simp only [VC, IE.den, BE.den, SV.den, SV.dens, Env.push, Env.ext, List.getD_cons_zero, List.getD_cons_succ, List.cons_append, List.nil_append, List.append_assoc, List.map_cons, List.map_nil, ltB_true, leB_true, eqB_true, ltB_false, leB_false, eqB_false, Bool.not_eq_true', Bool.not_eq_false', Bool.and_eq_true, Bool.or_eq_true, Bool.and_eq_false_iff, Bool.or_eq_false_iff, Bd.l]
  intro β s1 _ _
  refine ⟨_, rjoin_ct a b s1, ?_⟩
  rintro v s' hs rfl
  refine ⟨(a.join b).l, [], [], rfl, rfl, rfl, rfl, rfl, ?_⟩
  simp only [VC, IE.den, BE.den, SV.den, SV.dens, Env.push, Env.ext, List.getD_cons_zero, List.getD_cons_succ, List.cons_append, List.nil_append, List.append_assoc, List.map_cons, List.map_nil, ltB_true, leB_true, eqB_true, ltB_false, leB_false, eqB_false, Bool.not_eq_true', Bool.not_eq_false', Bool.and_eq_true, Bool.or_eq_true, Bool.and_eq_false_iff, Bool.or_eq_false_iff, Bd.l]
  refine ⟨fun _ => ?_, fun h => by simp at h⟩
  intro β s1 _ _
  refine ⟨_, within_ct a b s1, ?_⟩
  rintro v s' hs rfl
  refine ⟨[], [decide (a.Le b)], [], rfl, rfl, rfl, rfl, rfl, ?_⟩
  simp only [VC, IE.den, BE.den, SV.den, SV.dens, Env.push, Env.ext, List.getD_cons_zero, List.getD_cons_succ, List.cons_append, List.nil_append, List.append_assoc, List.map_cons, List.map_nil, ltB_true, leB_true, eqB_true, ltB_false, leB_false, eqB_false, Bool.not_eq_true', Bool.not_eq_false', Bool.and_eq_true, Bool.or_eq_true, Bool.and_eq_false_iff, Bool.or_eq_false_iff]
  intro β s1 _ _
  refine ⟨_, rwithin_ct a b s1, ?_⟩
  rintro v s' hs rfl
  refine ⟨[], [decide (a.Le b)], [], rfl, rfl, rfl, rfl, rfl, ?_⟩
  simp only [VC, IE.den, BE.den, SV.den, SV.dens, Env.push, Env.ext, List.getD_cons_zero, List.getD_cons_succ, List.cons_append, List.nil_append, List.append_assoc, List.map_cons, List.map_nil, ltB_true, leB_true, eqB_true, ltB_false, leB_false, eqB_false, Bool.not_eq_true', Bool.not_eq_false', Bool.and_eq_true, Bool.or_eq_true, Bool.and_eq_false_iff, Bool.or_eq_false_iff]
  refine ⟨fun _ => ?_, fun h => by exfalso; revert h; cases decide (a.Le b) <;> simp⟩
  intro β s1 _ _
  refine ⟨_, cmp_ct a b s1, ?_⟩
  rintro v s' hs rfl
  refine ⟨[a.compare b], [], [], rfl, rfl, rfl, rfl, rfl, ?_⟩
  simp only [VC, IE.den, BE.den, SV.den, SV.dens, Env.push, Env.ext, List.getD_cons_zero, List.getD_cons_succ, List.cons_append, List.nil_append, List.append_assoc, List.map_cons, List.map_nil, ltB_true, leB_true, eqB_true, ltB_false, leB_false, eqB_false, Bool.not_eq_true', Bool.not_eq_false', Bool.and_eq_true, Bool.or_eq_true, Bool.and_eq_false_iff, Bool.or_eq_false_iff]
  intro β s1 _ _
  refine ⟨_, rcmp_ct a b s1, ?_⟩
  rintro v s' hs rfl
  refine ⟨[a.compare b], [], [], rfl, rfl, rfl, rfl, rfl, ?_⟩
  simp only [VC, IE.den, BE.den, SV.den, SV.dens, Env.push, Env.ext, List.getD_cons_zero, List.getD_cons_succ, List.cons_append, List.nil_append, List.append_assoc, List.map_cons, List.map_nil, ltB_true, leB_true, eqB_true, ltB_false, leB_false, eqB_false, Bool.not_eq_true', Bool.not_eq_false', Bool.and_eq_true, Bool.or_eq_true, Bool.and_eq_false_iff, Bool.or_eq_false_iff]
  refine ⟨fun _ => ?_, fun h => by simp at h⟩
  intro β s1 _ _
  refine ⟨_, lives_ct s1, ?_⟩
  rintro v s' hs rfl
  refine ⟨[], [true], [], rfl, rfl, rfl, rfl, rfl, ?_⟩
  simp only [VC, IE.den, BE.den, SV.den, SV.dens, Env.push, Env.ext, List.getD_cons_zero, List.getD_cons_succ, List.cons_append, List.nil_append, List.append_assoc, List.map_cons, List.map_nil, ltB_true, leB_true, eqB_true, ltB_false, leB_false, eqB_false, Bool.not_eq_true', Bool.not_eq_false', Bool.and_eq_true, Bool.or_eq_true, Bool.and_eq_false_iff, Bool.or_eq_false_iff]
  intro β s' _ _
  trivial
end Go.Proofs.Ytfbhgmnbndlipaa
