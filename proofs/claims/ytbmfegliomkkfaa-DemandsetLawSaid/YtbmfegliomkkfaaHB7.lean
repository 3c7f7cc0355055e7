/- The functions of package bundle and of its reference: the plain ones. -/
import Derived.Test.YtbmfegliomkkfaaHTab
import Derived.Test.YtbmfegliomkkfaaHBun
set_option linter.unusedSimpArgs false
set_option linter.unusedVariables false
namespace Go.Proofs.Ytbmfegliomkkfaa
open Go.Sx Go.Bun

def o_check : Out :=
  (.ite (.lt (.a 0) (.l 0))
  (.ret (.int .i64 (.l 4)) [])
  (.ite (.lt (.l 4) (.a 0))
  (.ret (.int .i64 (.l 4)) [])
  (.ite (.lt (.a 1) (.l 0))
  (.ret (.int .i64 (.l 4)) [])
  (.ite (.lt (.l 4) (.a 1))
  (.ret (.int .i64 (.l 4)) [])
  (.ite (.lt (.a 2) (.l 0))
  (.ret (.int .i64 (.l 4)) [])
  (.ite (.lt (.l 4) (.a 2))
  (.ret (.int .i64 (.l 4)) [])
  (.ite (.lt (.a 3) (.l 0))
  (.ret (.int .i64 (.l 4)) [])
  (.ite (.lt (.l 4) (.a 3))
  (.ret (.int .i64 (.l 4)) [])
  (.ite (.lt (.a 4) (.l 0))
  (.ret (.int .i64 (.l 4)) [])
  (.ite (.lt (.l 4) (.a 4))
  (.ret (.int .i64 (.l 4)) [])
  (.ite (.lt (.a 5) (.l 0))
  (.ret (.int .i64 (.l 4)) [])
  (.ite (.lt (.l 4) (.a 5))
  (.ret (.int .i64 (.l 4)) [])
  (.ret (.int .i64 (.l 0)) [])))))))))))))
theorem o_check_eq : run (cx true [] []) (fnOf Try.f51) 5000 (startCfg Try.f51.ntmps [b6 0] 6 0 0) = o_check := by kernel_rfl
theorem o_check_ct {Q : Value → Hp → Prop} {s : Hp} (i : List Int) (b : List Bool) (v : List Value) (hi : i.length = 6) (hb : b.length = 0) (hv : v.length = 0) (hok : v.all fineV = true)
    (h : ∀ w0, VC Try.prog Q (Go.Sx.Reach Try.prog 51 (Ret Q s w0) (fnOf Try.f51).body w0 s) o_check ⟨i, b, v, []⟩ s) : Ct Try.prog 51 (SV.dens ⟨i, b, v, []⟩ id [b6 0]) s Q := by
  refine ct_run (fn := fnOf Try.f51) (progOk true [] []) Try.func51 rfl rfl 5000 (fun x hx => List.all_eq_true.1 hok x hx) rfl (fun w0 => ?_)
  rw [hi, hb, hv, o_check_eq]
  exact h w0

theorem check_ct (b : Bd) (s : Hp) : Ct Try.prog 51 [b.v] s (fun v _ => v = .int .i64 b.check) := by
  refine o_check_ct b.l [] [] rfl rfl rfl rfl (fun w0 => ?_)
  simp only [o_check, VC, IE.den, BE.den, SV.den, SV.dens, Env.push, Env.ext, List.getD_cons_zero, List.getD_cons_succ, List.cons_append, List.nil_append, List.append_assoc, List.map_cons, List.map_nil, ltB_true, leB_true, eqB_true, ltB_false, leB_false, eqB_false, Bool.not_eq_true', Bool.not_eq_false', Bool.and_eq_true, Bool.or_eq_true, Bool.and_eq_false_iff, Bool.or_eq_false_iff, Bd.l]
  repeat' (first | (refine ⟨fun h => ?_, fun h => ?_⟩) | (intro β s' _ _))
  all_goals (unfold Bd.check; first | rw [if_pos (by unfold Bd.Ok; omega)] | rw [if_neg (by unfold Bd.Ok; omega)])

def o_rcheck : Out :=
  (.ite (.lt (.a 0) (.l 0))
  (.ret (.int .i64 (.l 4)) [])
  (.ite (.lt (.l 4) (.a 0))
  (.ret (.int .i64 (.l 4)) [])
  (.ite (.lt (.a 1) (.l 0))
  (.ret (.int .i64 (.l 4)) [])
  (.ite (.lt (.l 4) (.a 1))
  (.ret (.int .i64 (.l 4)) [])
  (.ite (.lt (.a 2) (.l 0))
  (.ret (.int .i64 (.l 4)) [])
  (.ite (.lt (.l 4) (.a 2))
  (.ret (.int .i64 (.l 4)) [])
  (.ite (.lt (.a 3) (.l 0))
  (.ret (.int .i64 (.l 4)) [])
  (.ite (.lt (.l 4) (.a 3))
  (.ret (.int .i64 (.l 4)) [])
  (.ite (.lt (.a 4) (.l 0))
  (.ret (.int .i64 (.l 4)) [])
  (.ite (.lt (.l 4) (.a 4))
  (.ret (.int .i64 (.l 4)) [])
  (.ite (.lt (.a 5) (.l 0))
  (.ret (.int .i64 (.l 4)) [])
  (.ite (.lt (.l 4) (.a 5))
  (.ret (.int .i64 (.l 4)) [])
  (.ret (.int .i64 (.l 0)) [])))))))))))))
theorem o_rcheck_eq : run (cx true [] []) (fnOf Try.f54) 5000 (startCfg Try.f54.ntmps [b6 0] 6 0 0) = o_rcheck := by kernel_rfl
theorem o_rcheck_ct {Q : Value → Hp → Prop} {s : Hp} (i : List Int) (b : List Bool) (v : List Value) (hi : i.length = 6) (hb : b.length = 0) (hv : v.length = 0) (hok : v.all fineV = true)
    (h : ∀ w0, VC Try.prog Q (Go.Sx.Reach Try.prog 54 (Ret Q s w0) (fnOf Try.f54).body w0 s) o_rcheck ⟨i, b, v, []⟩ s) : Ct Try.prog 54 (SV.dens ⟨i, b, v, []⟩ id [b6 0]) s Q := by
  refine ct_run (fn := fnOf Try.f54) (progOk true [] []) Try.func54 rfl rfl 5000 (fun x hx => List.all_eq_true.1 hok x hx) rfl (fun w0 => ?_)
  rw [hi, hb, hv, o_rcheck_eq]
  exact h w0

theorem rcheck_ct (b : Bd) (s : Hp) : Ct Try.prog 54 [b.v] s (fun v _ => v = .int .i64 b.check) := by
  refine o_rcheck_ct b.l [] [] rfl rfl rfl rfl (fun w0 => ?_)
  simp only [o_rcheck, VC, IE.den, BE.den, SV.den, SV.dens, Env.push, Env.ext, List.getD_cons_zero, List.getD_cons_succ, List.cons_append, List.nil_append, List.append_assoc, List.map_cons, List.map_nil, ltB_true, leB_true, eqB_true, ltB_false, leB_false, eqB_false, Bool.not_eq_true', Bool.not_eq_false', Bool.and_eq_true, Bool.or_eq_true, Bool.and_eq_false_iff, Bool.or_eq_false_iff, Bd.l]
  repeat' (first | (refine ⟨fun h => ?_, fun h => ?_⟩) | (intro β s' _ _))
  all_goals (unfold Bd.check; first | rw [if_pos (by unfold Bd.Ok; omega)] | rw [if_neg (by unfold Bd.Ok; omega)])

def o_meet : Out :=
  (.ret (.agg [(.int .i64 (.mn (.a 0) (.a 6))), (.int .i64 (.mn (.a 1) (.a 7))), (.int .i64 (.mn (.a 2) (.a 8))), (.int .i64 (.mn (.a 3) (.a 9))), (.int .i64 (.mn (.a 4) (.a 10))), (.int .i64 (.mn (.a 5) (.a 11)))]) [])
theorem o_meet_eq : run (cx true [] []) (fnOf Try.f58) 5000 (startCfg Try.f58.ntmps [b6 0, b6 6] 12 0 0) = o_meet := by kernel_rfl
theorem o_meet_ct {Q : Value → Hp → Prop} {s : Hp} (i : List Int) (b : List Bool) (v : List Value) (hi : i.length = 12) (hb : b.length = 0) (hv : v.length = 0) (hok : v.all fineV = true)
    (h : ∀ w0, VC Try.prog Q (Go.Sx.Reach Try.prog 58 (Ret Q s w0) (fnOf Try.f58).body w0 s) o_meet ⟨i, b, v, []⟩ s) : Ct Try.prog 58 (SV.dens ⟨i, b, v, []⟩ id [b6 0, b6 6]) s Q := by
  refine ct_run (fn := fnOf Try.f58) (progOk true [] []) Try.func58 rfl rfl 5000 (fun x hx => List.all_eq_true.1 hok x hx) rfl (fun w0 => ?_)
  rw [hi, hb, hv, o_meet_eq]
  exact h w0

theorem meet_ct (a b : Bd) (s : Hp) : Ct Try.prog 58 [a.v, b.v] s (fun v _ => v = (a.meet b).v) := by
  refine o_meet_ct (a.l ++ b.l) [] [] rfl rfl rfl rfl (fun w0 => ?_)
  simp only [o_meet, VC, IE.den, BE.den, SV.den, SV.dens, Env.push, Env.ext, List.getD_cons_zero, List.getD_cons_succ, List.cons_append, List.nil_append, List.append_assoc, List.map_cons, List.map_nil, ltB_true, leB_true, eqB_true, ltB_false, leB_false, eqB_false, Bool.not_eq_true', Bool.not_eq_false', Bool.and_eq_true, Bool.or_eq_true, Bool.and_eq_false_iff, Bool.or_eq_false_iff, Bd.l]
  intro β s' _ _
  rfl

def o_join : Out :=
  (.ret (.agg [(.int .i64 (.mx (.a 0) (.a 6))), (.int .i64 (.mx (.a 1) (.a 7))), (.int .i64 (.mx (.a 2) (.a 8))), (.int .i64 (.mx (.a 3) (.a 9))), (.int .i64 (.mx (.a 4) (.a 10))), (.int .i64 (.mx (.a 5) (.a 11)))]) [])
theorem o_join_eq : run (cx true [] []) (fnOf Try.f70) 5000 (startCfg Try.f70.ntmps [b6 0, b6 6] 12 0 0) = o_join := by kernel_rfl
theorem o_join_ct {Q : Value → Hp → Prop} {s : Hp} (i : List Int) (b : List Bool) (v : List Value) (hi : i.length = 12) (hb : b.length = 0) (hv : v.length = 0) (hok : v.all fineV = true)
    (h : ∀ w0, VC Try.prog Q (Go.Sx.Reach Try.prog 70 (Ret Q s w0) (fnOf Try.f70).body w0 s) o_join ⟨i, b, v, []⟩ s) : Ct Try.prog 70 (SV.dens ⟨i, b, v, []⟩ id [b6 0, b6 6]) s Q := by
  refine ct_run (fn := fnOf Try.f70) (progOk true [] []) Try.func70 rfl rfl 5000 (fun x hx => List.all_eq_true.1 hok x hx) rfl (fun w0 => ?_)
  rw [hi, hb, hv, o_join_eq]
  exact h w0

theorem join_ct (a b : Bd) (s : Hp) : Ct Try.prog 70 [a.v, b.v] s (fun v _ => v = (a.join b).v) := by
  refine o_join_ct (a.l ++ b.l) [] [] rfl rfl rfl rfl (fun w0 => ?_)
  simp only [o_join, VC, IE.den, BE.den, SV.den, SV.dens, Env.push, Env.ext, List.getD_cons_zero, List.getD_cons_succ, List.cons_append, List.nil_append, List.append_assoc, List.map_cons, List.map_nil, ltB_true, leB_true, eqB_true, ltB_false, leB_false, eqB_false, Bool.not_eq_true', Bool.not_eq_false', Bool.and_eq_true, Bool.or_eq_true, Bool.and_eq_false_iff, Bool.or_eq_false_iff, Bd.l]
  intro β s' _ _
  rfl

def o_within : Out :=
  (.call 58 [(.agg [(.int .i64 (.a 0)), (.int .i64 (.a 1)), (.int .i64 (.a 2)), (.int .i64 (.a 3)), (.int .i64 (.a 4)), (.int .i64 (.a 5))]), (.agg [(.int .i64 (.a 6)), (.int .i64 (.a 7)), (.int .i64 (.a 8)), (.int .i64 (.a 9)), (.int .i64 (.a 10)), (.int .i64 (.a 11))])] [] (.agg [(.int .i64 (.a 12)), (.int .i64 (.a 13)), (.int .i64 (.a 14)), (.int .i64 (.a 15)), (.int .i64 (.a 16)), (.int .i64 (.a 17))]) 6 0 0
  (.ret (.bool (.and (.eq (.a 12) (.a 0)) (.and (.eq (.a 13) (.a 1)) (.and (.eq (.a 14) (.a 2)) (.and (.eq (.a 15) (.a 3)) (.and (.eq (.a 16) (.a 4)) (.eq (.a 17) (.a 5)))))))) []))
theorem o_within_eq : run (cx true [] []) (fnOf Try.f24) 5000 (startCfg Try.f24.ntmps [b6 0, b6 6] 12 0 0) = o_within := by kernel_rfl
theorem o_within_ct {Q : Value → Hp → Prop} {s : Hp} (i : List Int) (b : List Bool) (v : List Value) (hi : i.length = 12) (hb : b.length = 0) (hv : v.length = 0) (hok : v.all fineV = true)
    (h : ∀ w0, VC Try.prog Q (Go.Sx.Reach Try.prog 24 (Ret Q s w0) (fnOf Try.f24).body w0 s) o_within ⟨i, b, v, []⟩ s) : Ct Try.prog 24 (SV.dens ⟨i, b, v, []⟩ id [b6 0, b6 6]) s Q := by
  refine ct_run (fn := fnOf Try.f24) (progOk true [] []) Try.func24 rfl rfl 5000 (fun x hx => List.all_eq_true.1 hok x hx) rfl (fun w0 => ?_)
  rw [hi, hb, hv, o_within_eq]
  exact h w0

theorem within_ct (a b : Bd) (s : Hp) : Ct Try.prog 24 [a.v, b.v] s (fun v _ => v = .bool (decide (a.Le b))) := by
  refine o_within_ct (a.l ++ b.l) [] [] rfl rfl rfl rfl (fun w0 => ?_)
  simp only [o_within, VC, IE.den, BE.den, SV.den, SV.dens, Env.push, Env.ext, List.getD_cons_zero, List.getD_cons_succ, List.cons_append, List.nil_append, List.append_assoc, List.map_cons, List.map_nil, ltB_true, leB_true, eqB_true, ltB_false, leB_false, eqB_false, Bool.not_eq_true', Bool.not_eq_false', Bool.and_eq_true, Bool.or_eq_true, Bool.and_eq_false_iff, Bool.or_eq_false_iff, Bd.l]
  intro β s1 _ _
  refine ⟨_, meet_ct a b s1, ?_⟩
  rintro v s' hs rfl
  refine ⟨(a.meet b).l, [], [], rfl, rfl, rfl, rfl, rfl, ?_⟩
  simp only [VC, IE.den, BE.den, SV.den, SV.dens, Env.push, Env.ext, List.getD_cons_zero, List.getD_cons_succ, List.cons_append, List.nil_append, List.append_assoc, List.map_cons, List.map_nil, ltB_true, leB_true, eqB_true, ltB_false, leB_false, eqB_false, Bool.not_eq_true', Bool.not_eq_false', Bool.and_eq_true, Bool.or_eq_true, Bool.and_eq_false_iff, Bool.or_eq_false_iff, Bd.l, Bd.meet, Bd.map2]
  intro β s' _ _
  refine congrArg Value.bool ?_
  rw [Bool.eq_iff_iff, decide_eq_true_iff]
  show _ ↔ (a.a ≤ b.a ∧ a.b ≤ b.b ∧ a.c ≤ b.c ∧ a.d ≤ b.d ∧ a.e ≤ b.e ∧ a.f ≤ b.f)
  simp only [Bool.and_eq_true, eqB_true, decide_eq_true_eq, mnI]
  constructor
  · rintro ⟨h1, h2, h3, h4, h5, h6⟩
    split at h1 <;> split at h2 <;> split at h3 <;> split at h4 <;> split at h5 <;> split at h6 <;> omega
  · rintro ⟨h1, h2, h3, h4, h5, h6⟩
    rw [if_neg (by omega), if_neg (by omega), if_neg (by omega), if_neg (by omega), if_neg (by omega), if_neg (by omega)]
    exact ⟨rfl, rfl, rfl, rfl, rfl, rfl⟩

def o_rwithin : Out :=
  (.ite (.lt (.a 6) (.a 0))
  (.ret (.bool (.t false)) [])
  (.ite (.lt (.a 7) (.a 1))
  (.ret (.bool (.t false)) [])
  (.ite (.lt (.a 8) (.a 2))
  (.ret (.bool (.t false)) [])
  (.ite (.lt (.a 9) (.a 3))
  (.ret (.bool (.t false)) [])
  (.ite (.lt (.a 10) (.a 4))
  (.ret (.bool (.t false)) [])
  (.ite (.lt (.a 11) (.a 5))
  (.ret (.bool (.t false)) [])
  (.ret (.bool (.t true)) [])))))))
theorem o_rwithin_eq : run (cx true [] []) (fnOf Try.f75) 5000 (startCfg Try.f75.ntmps [b6 0, b6 6] 12 0 0) = o_rwithin := by kernel_rfl
theorem o_rwithin_ct {Q : Value → Hp → Prop} {s : Hp} (i : List Int) (b : List Bool) (v : List Value) (hi : i.length = 12) (hb : b.length = 0) (hv : v.length = 0) (hok : v.all fineV = true)
    (h : ∀ w0, VC Try.prog Q (Go.Sx.Reach Try.prog 75 (Ret Q s w0) (fnOf Try.f75).body w0 s) o_rwithin ⟨i, b, v, []⟩ s) : Ct Try.prog 75 (SV.dens ⟨i, b, v, []⟩ id [b6 0, b6 6]) s Q := by
  refine ct_run (fn := fnOf Try.f75) (progOk true [] []) Try.func75 rfl rfl 5000 (fun x hx => List.all_eq_true.1 hok x hx) rfl (fun w0 => ?_)
  rw [hi, hb, hv, o_rwithin_eq]
  exact h w0

theorem rwithin_ct (a b : Bd) (s : Hp) : Ct Try.prog 75 [a.v, b.v] s (fun v _ => v = .bool (decide (a.Le b))) := by
  refine o_rwithin_ct (a.l ++ b.l) [] [] rfl rfl rfl rfl (fun w0 => ?_)
  simp only [o_rwithin, VC, IE.den, BE.den, SV.den, SV.dens, Env.push, Env.ext, List.getD_cons_zero, List.getD_cons_succ, List.cons_append, List.nil_append, List.append_assoc, List.map_cons, List.map_nil, ltB_true, leB_true, eqB_true, ltB_false, leB_false, eqB_false, Bool.not_eq_true', Bool.not_eq_false', Bool.and_eq_true, Bool.or_eq_true, Bool.and_eq_false_iff, Bool.or_eq_false_iff, Bd.l]
  repeat' (first | (refine ⟨fun h => ?_, fun h => ?_⟩) | (intro β s' _ _))
  all_goals first
    | (refine congrArg Value.bool (Eq.symm (decide_eq_false ?_)); unfold Bd.Le; omega)
    | (refine congrArg Value.bool (Eq.symm (decide_eq_true ?_)); unfold Bd.Le; omega)

/-- The quantities are small enough that nothing overflows. -/
def Small (n : Int) (x : Bd) : Prop := x.all fun q => -n ≤ q ∧ q ≤ n

def o_total : Out :=
  (.need (.and (.le (.l (-9223372036854775808)) (.a 0)) (.le (.a 0) (.l 9223372036854775807)))
  (.need (.and (.le (.l (-9223372036854775808)) (.add (.a 0) (.a 1))) (.le (.add (.a 0) (.a 1)) (.l 9223372036854775807)))
  (.need (.and (.le (.l (-9223372036854775808)) (.add (.add (.a 0) (.a 1)) (.a 2))) (.le (.add (.add (.a 0) (.a 1)) (.a 2)) (.l 9223372036854775807)))
  (.need (.and (.le (.l (-9223372036854775808)) (.add (.add (.add (.a 0) (.a 1)) (.a 2)) (.a 3))) (.le (.add (.add (.add (.a 0) (.a 1)) (.a 2)) (.a 3)) (.l 9223372036854775807)))
  (.need (.and (.le (.l (-9223372036854775808)) (.add (.add (.add (.add (.a 0) (.a 1)) (.a 2)) (.a 3)) (.a 4))) (.le (.add (.add (.add (.add (.a 0) (.a 1)) (.a 2)) (.a 3)) (.a 4)) (.l 9223372036854775807)))
  (.need (.and (.le (.l (-9223372036854775808)) (.add (.add (.add (.add (.add (.a 0) (.a 1)) (.a 2)) (.a 3)) (.a 4)) (.a 5))) (.le (.add (.add (.add (.add (.add (.a 0) (.a 1)) (.a 2)) (.a 3)) (.a 4)) (.a 5)) (.l 9223372036854775807)))
  (.ret (.int .i64 (.add (.add (.add (.add (.add (.a 0) (.a 1)) (.a 2)) (.a 3)) (.a 4)) (.a 5))) [])))))))
theorem o_total_eq : run (cx true [] []) (fnOf Try.f79) 5000 (startCfg Try.f79.ntmps [b6 0] 6 0 0) = o_total := by kernel_rfl
theorem o_total_ct {Q : Value → Hp → Prop} {s : Hp} (i : List Int) (b : List Bool) (v : List Value) (hi : i.length = 6) (hb : b.length = 0) (hv : v.length = 0) (hok : v.all fineV = true)
    (h : ∀ w0, VC Try.prog Q (Go.Sx.Reach Try.prog 79 (Ret Q s w0) (fnOf Try.f79).body w0 s) o_total ⟨i, b, v, []⟩ s) : Ct Try.prog 79 (SV.dens ⟨i, b, v, []⟩ id [b6 0]) s Q := by
  refine ct_run (fn := fnOf Try.f79) (progOk true [] []) Try.func79 rfl rfl 5000 (fun x hx => List.all_eq_true.1 hok x hx) rfl (fun w0 => ?_)
  rw [hi, hb, hv, o_total_eq]
  exact h w0

theorem total_ct (b : Bd) (s : Hp) (hb : Small 1000000 b) : Ct Try.prog 79 [b.v] s (fun v _ => v = .int .i64 b.total) := by
  refine o_total_ct b.l [] [] rfl rfl rfl rfl (fun w0 => ?_)
  simp only [o_total, VC, IE.den, BE.den, SV.den, SV.dens, Env.push, Env.ext, List.getD_cons_zero, List.getD_cons_succ, List.cons_append, List.nil_append, List.append_assoc, List.map_cons, List.map_nil, ltB_true, leB_true, eqB_true, ltB_false, leB_false, eqB_false, Bool.not_eq_true', Bool.not_eq_false', Bool.and_eq_true, Bool.or_eq_true, Bool.and_eq_false_iff, Bool.or_eq_false_iff, Bd.l]
  unfold Small Bd.all at hb
  repeat' (first | (refine ⟨?_, fun _ => ?_⟩) | (intro β s' _ _))
  all_goals first | rfl | omega

def o_count : Out :=
  (.call 51 [(.agg [(.int .i64 (.a 0)), (.int .i64 (.a 1)), (.int .i64 (.a 2)), (.int .i64 (.a 3)), (.int .i64 (.a 4)), (.int .i64 (.a 5))])] [] (.int .i64 (.a 6)) 1 0 0
  (.ite (.not (.eq (.a 6) (.l 0)))
  (.ret (.int .i64 (.l 0)) [])
  (.need (.and (.le (.l (-9223372036854775808)) (.add (.a 0) (.l 1))) (.le (.add (.a 0) (.l 1)) (.l 9223372036854775807)))
  (.need (.and (.le (.l (-9223372036854775808)) (.mul (.l 1) (.add (.a 0) (.l 1)))) (.le (.mul (.l 1) (.add (.a 0) (.l 1))) (.l 9223372036854775807)))
  (.need (.and (.le (.l (-9223372036854775808)) (.add (.a 1) (.l 1))) (.le (.add (.a 1) (.l 1)) (.l 9223372036854775807)))
  (.need (.and (.le (.l (-9223372036854775808)) (.mul (.mul (.l 1) (.add (.a 0) (.l 1))) (.add (.a 1) (.l 1)))) (.le (.mul (.mul (.l 1) (.add (.a 0) (.l 1))) (.add (.a 1) (.l 1))) (.l 9223372036854775807)))
  (.need (.and (.le (.l (-9223372036854775808)) (.add (.a 2) (.l 1))) (.le (.add (.a 2) (.l 1)) (.l 9223372036854775807)))
  (.need (.and (.le (.l (-9223372036854775808)) (.mul (.mul (.mul (.l 1) (.add (.a 0) (.l 1))) (.add (.a 1) (.l 1))) (.add (.a 2) (.l 1)))) (.le (.mul (.mul (.mul (.l 1) (.add (.a 0) (.l 1))) (.add (.a 1) (.l 1))) (.add (.a 2) (.l 1))) (.l 9223372036854775807)))
  (.need (.and (.le (.l (-9223372036854775808)) (.add (.a 3) (.l 1))) (.le (.add (.a 3) (.l 1)) (.l 9223372036854775807)))
  (.need (.and (.le (.l (-9223372036854775808)) (.mul (.mul (.mul (.mul (.l 1) (.add (.a 0) (.l 1))) (.add (.a 1) (.l 1))) (.add (.a 2) (.l 1))) (.add (.a 3) (.l 1)))) (.le (.mul (.mul (.mul (.mul (.l 1) (.add (.a 0) (.l 1))) (.add (.a 1) (.l 1))) (.add (.a 2) (.l 1))) (.add (.a 3) (.l 1))) (.l 9223372036854775807)))
  (.need (.and (.le (.l (-9223372036854775808)) (.add (.a 4) (.l 1))) (.le (.add (.a 4) (.l 1)) (.l 9223372036854775807)))
  (.need (.and (.le (.l (-9223372036854775808)) (.mul (.mul (.mul (.mul (.mul (.l 1) (.add (.a 0) (.l 1))) (.add (.a 1) (.l 1))) (.add (.a 2) (.l 1))) (.add (.a 3) (.l 1))) (.add (.a 4) (.l 1)))) (.le (.mul (.mul (.mul (.mul (.mul (.l 1) (.add (.a 0) (.l 1))) (.add (.a 1) (.l 1))) (.add (.a 2) (.l 1))) (.add (.a 3) (.l 1))) (.add (.a 4) (.l 1))) (.l 9223372036854775807)))
  (.need (.and (.le (.l (-9223372036854775808)) (.add (.a 5) (.l 1))) (.le (.add (.a 5) (.l 1)) (.l 9223372036854775807)))
  (.need (.and (.le (.l (-9223372036854775808)) (.mul (.mul (.mul (.mul (.mul (.mul (.l 1) (.add (.a 0) (.l 1))) (.add (.a 1) (.l 1))) (.add (.a 2) (.l 1))) (.add (.a 3) (.l 1))) (.add (.a 4) (.l 1))) (.add (.a 5) (.l 1)))) (.le (.mul (.mul (.mul (.mul (.mul (.mul (.l 1) (.add (.a 0) (.l 1))) (.add (.a 1) (.l 1))) (.add (.a 2) (.l 1))) (.add (.a 3) (.l 1))) (.add (.a 4) (.l 1))) (.add (.a 5) (.l 1))) (.l 9223372036854775807)))
  (.ite (.lt (.l 1024) (.mul (.mul (.mul (.mul (.mul (.mul (.l 1) (.add (.a 0) (.l 1))) (.add (.a 1) (.l 1))) (.add (.a 2) (.l 1))) (.add (.a 3) (.l 1))) (.add (.a 4) (.l 1))) (.add (.a 5) (.l 1))))
  (.ret (.int .i64 (.l 0)) [])
  (.ret (.int .i64 (.mul (.mul (.mul (.mul (.mul (.mul (.l 1) (.add (.a 0) (.l 1))) (.add (.a 1) (.l 1))) (.add (.a 2) (.l 1))) (.add (.a 3) (.l 1))) (.add (.a 4) (.l 1))) (.add (.a 5) (.l 1)))) []))))))))))))))))
theorem o_count_eq : run (cx true [] []) (fnOf Try.f76) 5000 (startCfg Try.f76.ntmps [b6 0] 6 0 0) = o_count := by kernel_rfl
theorem o_count_ct {Q : Value → Hp → Prop} {s : Hp} (i : List Int) (b : List Bool) (v : List Value) (hi : i.length = 6) (hb : b.length = 0) (hv : v.length = 0) (hok : v.all fineV = true)
    (h : ∀ w0, VC Try.prog Q (Go.Sx.Reach Try.prog 76 (Ret Q s w0) (fnOf Try.f76).body w0 s) o_count ⟨i, b, v, []⟩ s) : Ct Try.prog 76 (SV.dens ⟨i, b, v, []⟩ id [b6 0]) s Q := by
  refine ct_run (fn := fnOf Try.f76) (progOk true [] []) Try.func76 rfl rfl 5000 (fun x hx => List.all_eq_true.1 hok x hx) rfl (fun w0 => ?_)
  rw [hi, hb, hv, o_count_eq]
  exact h w0

set_option maxRecDepth 10000 in
theorem count_ct (b : Bd) (s : Hp) : Ct Try.prog 76 [b.v] s (fun v _ => v = .int .i64 b.cnt) := by
  refine o_count_ct b.l [] [] rfl rfl rfl rfl (fun w0 => ?_)
  simp only [o_count, VC, IE.den, BE.den, SV.den, SV.dens, Env.push, Env.ext, List.getD_cons_zero, List.getD_cons_succ, List.cons_append, List.nil_append, List.append_assoc, List.map_cons, List.map_nil, ltB_true, leB_true, eqB_true, ltB_false, leB_false, eqB_false, Bool.not_eq_true', Bool.not_eq_false', Bool.and_eq_true, Bool.or_eq_true, Bool.and_eq_false_iff, Bool.or_eq_false_iff, Bd.l]
  intro β s1 _ _
  refine ⟨_, check_ct b s1, ?_⟩
  rintro v s' hs rfl
  refine ⟨[b.check], [], [], rfl, rfl, rfl, rfl, rfl, ?_⟩
  simp only [VC, IE.den, BE.den, SV.den, SV.dens, Env.push, Env.ext, List.getD_cons_zero, List.getD_cons_succ, List.cons_append, List.nil_append, List.append_assoc, List.map_cons, List.map_nil, ltB_true, leB_true, eqB_true, ltB_false, leB_false, eqB_false, Bool.not_eq_true', Bool.not_eq_false', Bool.and_eq_true, Bool.or_eq_true, Bool.and_eq_false_iff, Bool.or_eq_false_iff, Bd.check_zero]
  refine ⟨fun h => ?_, fun h => ?_⟩
  · intro β s' _ _
    rw [Bd.cnt, if_neg h]
  · have h0 := h
    unfold Bd.Ok at h0
    have h2 := mulB (x := 1 * (b.a + 1)) (y := b.b + 1) (A := 5) (B := 5) (by omega) (by omega)
    have h3 := mulB (x := 1 * (b.a + 1) * (b.b + 1)) (y := b.c + 1) (A := 25) (B := 5) (by omega) (by omega)
    have h4 := mulB (x := 1 * (b.a + 1) * (b.b + 1) * (b.c + 1)) (y := b.d + 1) (A := 125) (B := 5) (by omega) (by omega)
    have h5 := mulB (x := 1 * (b.a + 1) * (b.b + 1) * (b.c + 1) * (b.d + 1)) (y := b.e + 1) (A := 625) (B := 5) (by omega) (by omega)
    have h6 := mulB (x := 1 * (b.a + 1) * (b.b + 1) * (b.c + 1) * (b.d + 1) * (b.e + 1)) (y := b.f + 1) (A := 3125) (B := 5) (by omega) (by omega)
    iterate 12 (refine ⟨by omega, fun _ => ?_⟩)
    refine ⟨fun hl => ?_, fun hl => ?_⟩ <;> intro β s' _ _
    · rw [Bd.cnt, if_pos h, if_pos (show 1024 < b.prod from hl)]
    · rw [Bd.cnt, if_pos h, if_neg (show ¬ 1024 < b.prod from hl)]; rfl

def o_cost : Out :=
  (.need (.and (.le (.l (-9223372036854775808)) (.mul (.a 0) (.a 6))) (.le (.mul (.a 0) (.a 6)) (.l 9223372036854775807)))
  (.need (.and (.le (.l (-9223372036854775808)) (.mul (.a 0) (.a 6))) (.le (.mul (.a 0) (.a 6)) (.l 9223372036854775807)))
  (.need (.and (.le (.l (-9223372036854775808)) (.mul (.a 1) (.a 7))) (.le (.mul (.a 1) (.a 7)) (.l 9223372036854775807)))
  (.need (.and (.le (.l (-9223372036854775808)) (.add (.mul (.a 0) (.a 6)) (.mul (.a 1) (.a 7)))) (.le (.add (.mul (.a 0) (.a 6)) (.mul (.a 1) (.a 7))) (.l 9223372036854775807)))
  (.need (.and (.le (.l (-9223372036854775808)) (.mul (.a 2) (.a 8))) (.le (.mul (.a 2) (.a 8)) (.l 9223372036854775807)))
  (.need (.and (.le (.l (-9223372036854775808)) (.add (.add (.mul (.a 0) (.a 6)) (.mul (.a 1) (.a 7))) (.mul (.a 2) (.a 8)))) (.le (.add (.add (.mul (.a 0) (.a 6)) (.mul (.a 1) (.a 7))) (.mul (.a 2) (.a 8))) (.l 9223372036854775807)))
  (.need (.and (.le (.l (-9223372036854775808)) (.mul (.a 3) (.a 9))) (.le (.mul (.a 3) (.a 9)) (.l 9223372036854775807)))
  (.need (.and (.le (.l (-9223372036854775808)) (.add (.add (.add (.mul (.a 0) (.a 6)) (.mul (.a 1) (.a 7))) (.mul (.a 2) (.a 8))) (.mul (.a 3) (.a 9)))) (.le (.add (.add (.add (.mul (.a 0) (.a 6)) (.mul (.a 1) (.a 7))) (.mul (.a 2) (.a 8))) (.mul (.a 3) (.a 9))) (.l 9223372036854775807)))
  (.need (.and (.le (.l (-9223372036854775808)) (.mul (.a 4) (.a 10))) (.le (.mul (.a 4) (.a 10)) (.l 9223372036854775807)))
  (.need (.and (.le (.l (-9223372036854775808)) (.add (.add (.add (.add (.mul (.a 0) (.a 6)) (.mul (.a 1) (.a 7))) (.mul (.a 2) (.a 8))) (.mul (.a 3) (.a 9))) (.mul (.a 4) (.a 10)))) (.le (.add (.add (.add (.add (.mul (.a 0) (.a 6)) (.mul (.a 1) (.a 7))) (.mul (.a 2) (.a 8))) (.mul (.a 3) (.a 9))) (.mul (.a 4) (.a 10))) (.l 9223372036854775807)))
  (.need (.and (.le (.l (-9223372036854775808)) (.mul (.a 5) (.a 11))) (.le (.mul (.a 5) (.a 11)) (.l 9223372036854775807)))
  (.need (.and (.le (.l (-9223372036854775808)) (.add (.add (.add (.add (.add (.mul (.a 0) (.a 6)) (.mul (.a 1) (.a 7))) (.mul (.a 2) (.a 8))) (.mul (.a 3) (.a 9))) (.mul (.a 4) (.a 10))) (.mul (.a 5) (.a 11)))) (.le (.add (.add (.add (.add (.add (.mul (.a 0) (.a 6)) (.mul (.a 1) (.a 7))) (.mul (.a 2) (.a 8))) (.mul (.a 3) (.a 9))) (.mul (.a 4) (.a 10))) (.mul (.a 5) (.a 11))) (.l 9223372036854775807)))
  (.ret (.int .i64 (.add (.add (.add (.add (.add (.mul (.a 0) (.a 6)) (.mul (.a 1) (.a 7))) (.mul (.a 2) (.a 8))) (.mul (.a 3) (.a 9))) (.mul (.a 4) (.a 10))) (.mul (.a 5) (.a 11)))) [])))))))))))))
theorem o_cost_eq : run (cx true [] []) (fnOf Try.f74) 5000 (startCfg Try.f74.ntmps [b6 0, b6 6] 12 0 0) = o_cost := by kernel_rfl
theorem o_cost_ct {Q : Value → Hp → Prop} {s : Hp} (i : List Int) (b : List Bool) (v : List Value) (hi : i.length = 12) (hb : b.length = 0) (hv : v.length = 0) (hok : v.all fineV = true)
    (h : ∀ w0, VC Try.prog Q (Go.Sx.Reach Try.prog 74 (Ret Q s w0) (fnOf Try.f74).body w0 s) o_cost ⟨i, b, v, []⟩ s) : Ct Try.prog 74 (SV.dens ⟨i, b, v, []⟩ id [b6 0, b6 6]) s Q := by
  refine ct_run (fn := fnOf Try.f74) (progOk true [] []) Try.func74 rfl rfl 5000 (fun x hx => List.all_eq_true.1 hok x hx) rfl (fun w0 => ?_)
  rw [hi, hb, hv, o_cost_eq]
  exact h w0

theorem cost_ct (p b : Bd) (s : Hp) (hp : Small 1000000000 p) (hb : Small 1000000 b) : Ct Try.prog 74 [p.v, b.v] s (fun v _ => v = .int .i64 (p.cost b)) := by
  refine o_cost_ct (p.l ++ b.l) [] [] rfl rfl rfl rfl (fun w0 => ?_)
  simp only [o_cost, VC, IE.den, BE.den, SV.den, SV.dens, Env.push, Env.ext, List.getD_cons_zero, List.getD_cons_succ, List.cons_append, List.nil_append, List.append_assoc, List.map_cons, List.map_nil, ltB_true, leB_true, eqB_true, ltB_false, leB_false, eqB_false, Bool.not_eq_true', Bool.not_eq_false', Bool.and_eq_true, Bool.or_eq_true, Bool.and_eq_false_iff, Bool.or_eq_false_iff, Bd.l]
  unfold Small Bd.all at hb hp
  have m1 := mulS (x := p.a) (y := b.a) (A := 1000000000) (B := 1000000) (by omega) (by omega)
  have m2 := mulS (x := p.b) (y := b.b) (A := 1000000000) (B := 1000000) (by omega) (by omega)
  have m3 := mulS (x := p.c) (y := b.c) (A := 1000000000) (B := 1000000) (by omega) (by omega)
  have m4 := mulS (x := p.d) (y := b.d) (A := 1000000000) (B := 1000000) (by omega) (by omega)
  have m5 := mulS (x := p.e) (y := b.e) (A := 1000000000) (B := 1000000) (by omega) (by omega)
  have m6 := mulS (x := p.f) (y := b.f) (A := 1000000000) (B := 1000000) (by omega) (by omega)
  repeat' (first | (refine ⟨by omega, fun _ => ?_⟩) | (intro β s' _ _))
  rfl

end Go.Proofs.Ytbmfegliomkkfaa
