/- The functions of package bundle and of its reference: the plain ones. -/
import Derived.Test.YtfbhgmnbndlipaaHTab
import Derived.Test.YtfbhgmnbndlipaaHBun
set_option linter.unusedSimpArgs false
set_option linter.unusedVariables false
namespace Go.Proofs.Ytfbhgmnbndlipaa
open Go.Sx Go.Bun

def o_check : Out :=
  (.ite (.lt (.a 0) (.l 0))
  (.ret (.int .i64 (.l 4)) [])
  (.ite (.lt (.l 4) (.a 0))
  (.ret (.int .i64 (.l 4)) [])
  (.ite (.lt (.a 1) (.l 0))
  (.ret (.int .i64 (.l 4)) [])
  (.ite (.lt (.l 4) (.a 1))
  (.ret (.int .i64 (.l 4)) [])
  (.ite (.lt (.a 2) (.l 0))
  (.ret (.int .i64 (.l 4)) [])
  (.ite (.lt (.l 4) (.a 2))
  (.ret (.int .i64 (.l 4)) [])
  (.ite (.lt (.a 3) (.l 0))
  (.ret (.int .i64 (.l 4)) [])
  (.ite (.lt (.l 4) (.a 3))
  (.ret (.int .i64 (.l 4)) [])
  (.ite (.lt (.a 4) (.l 0))
  (.ret (.int .i64 (.l 4)) [])
  (.ite (.lt (.l 4) (.a 4))
  (.ret (.int .i64 (.l 4)) [])
  (.ite (.lt (.a 5) (.l 0))
  (.ret (.int .i64 (.l 4)) [])
  (.ite (.lt (.l 4) (.a 5))
  (.ret (.int .i64 (.l 4)) [])
  (.ret (.int .i64 (.l 0)) [])))))))))))))
theorem o_check_eq : run (cx true [] []) (fnOf Try.f17) 5000 (startCfg Try.f17.ntmps [b6 0] 6 0 0) = o_check := by kernel_rfl
theorem o_check_ct {Q : Value → Hp → Prop} {s : Hp} (i : List Int) (b : List Bool) (v : List Value) (hi : i.length = 6) (hb : b.length = 0) (hv : v.length = 0) (hok : v.all fineV = true)
    (h : ∀ w0, VC Try.prog Q (Go.Sx.Reach Try.prog 17 (Ret Q s w0) (fnOf Try.f17).body w0 s) o_check ⟨i, b, v, []⟩ s) : Ct Try.prog 17 (SV.dens ⟨i, b, v, []⟩ id [b6 0]) s Q := by
  refine ct_run (fn := fnOf Try.f17) (progOk true [] []) Try.func17 rfl rfl 5000 (fun x hx => List.all_eq_true.1 hok x hx) rfl (fun w0 => ?_)
  rw [hi, hb, hv, o_check_eq]
  exact h w0

theorem check_ct (b : Bd) (s : Hp) : Ct Try.prog 17 [b.v] s (fun v _ => v = .int .i64 b.check) := by
  refine o_check_ct b.l [] [] rfl rfl rfl rfl (fun w0 => ?_)
  simp only [o_check, VC, IE.den, BE.den, SV.den, SV.dens, Env.push, Env.ext, List.getD_cons_zero, List.getD_cons_succ, List.cons_append, List.nil_append, List.append_assoc, List.map_cons, List.map_nil, ltB_true, leB_true, eqB_true, ltB_false, leB_false, eqB_false, Bool.not_eq_true', Bool.not_eq_false', Bool.and_eq_true, Bool.or_eq_true, Bool.and_eq_false_iff, Bool.or_eq_false_iff, Bd.l]
  repeat' (first | (refine ⟨fun h => ?_, fun h => ?_⟩) | (intro β s' _ _))
  all_goals (unfold Bd.check; first | rw [if_pos (by unfold Bd.Ok; omega)] | rw [if_neg (by unfold Bd.Ok; omega)])

def o_rcheck : Out :=
  (.ite (.lt (.a 0) (.l 0))
  (.ret (.int .i64 (.l 4)) [])
  (.ite (.lt (.l 4) (.a 0))
  (.ret (.int .i64 (.l 4)) [])
  (.ite (.lt (.a 1) (.l 0))
  (.ret (.int .i64 (.l 4)) [])
  (.ite (.lt (.l 4) (.a 1))
  (.ret (.int .i64 (.l 4)) [])
  (.ite (.lt (.a 2) (.l 0))
  (.ret (.int .i64 (.l 4)) [])
  (.ite (.lt (.l 4) (.a 2))
  (.ret (.int .i64 (.l 4)) [])
  (.ite (.lt (.a 3) (.l 0))
  (.ret (.int .i64 (.l 4)) [])
  (.ite (.lt (.l 4) (.a 3))
  (.ret (.int .i64 (.l 4)) [])
  (.ite (.lt (.a 4) (.l 0))
  (.ret (.int .i64 (.l 4)) [])
  (.ite (.lt (.l 4) (.a 4))
  (.ret (.int .i64 (.l 4)) [])
  (.ite (.lt (.a 5) (.l 0))
  (.ret (.int .i64 (.l 4)) [])
  (.ite (.lt (.l 4) (.a 5))
  (.ret (.int .i64 (.l 4)) [])
  (.ret (.int .i64 (.l 0)) [])))))))))))))
theorem o_rcheck_eq : run (cx true [] []) (fnOf Try.f18) 5000 (startCfg Try.f18.ntmps [b6 0] 6 0 0) = o_rcheck := by kernel_rfl
theorem o_rcheck_ct {Q : Value → Hp → Prop} {s : Hp} (i : List Int) (b : List Bool) (v : List Value) (hi : i.length = 6) (hb : b.length = 0) (hv : v.length = 0) (hok : v.all fineV = true)
    (h : ∀ w0, VC Try.prog Q (Go.Sx.Reach Try.prog 18 (Ret Q s w0) (fnOf Try.f18).body w0 s) o_rcheck ⟨i, b, v, []⟩ s) : Ct Try.prog 18 (SV.dens ⟨i, b, v, []⟩ id [b6 0]) s Q := by
  refine ct_run (fn := fnOf Try.f18) (progOk true [] []) Try.func18 rfl rfl 5000 (fun x hx => List.all_eq_true.1 hok x hx) rfl (fun w0 => ?_)
  rw [hi, hb, hv, o_rcheck_eq]
  exact h w0

theorem rcheck_ct (b : Bd) (s : Hp) : Ct Try.prog 18 [b.v] s (fun v _ => v = .int .i64 b.check) := by
  refine o_rcheck_ct b.l [] [] rfl rfl rfl rfl (fun w0 => ?_)
  simp only [o_rcheck, VC, IE.den, BE.den, SV.den, SV.dens, Env.push, Env.ext, List.getD_cons_zero, List.getD_cons_succ, List.cons_append, List.nil_append, List.append_assoc, List.map_cons, List.map_nil, ltB_true, leB_true, eqB_true, ltB_false, leB_false, eqB_false, Bool.not_eq_true', Bool.not_eq_false', Bool.and_eq_true, Bool.or_eq_true, Bool.and_eq_false_iff, Bool.or_eq_false_iff, Bd.l]
  repeat' (first | (refine ⟨fun h => ?_, fun h => ?_⟩) | (intro β s' _ _))
  all_goals (unfold Bd.check; first | rw [if_pos (by unfold Bd.Ok; omega)] | rw [if_neg (by unfold Bd.Ok; omega)])

def o_meet : Out :=
  (.ret (.agg [(.int .i64 (.mn (.a 0) (.a 6))), (.int .i64 (.mn (.a 1) (.a 7))), (.int .i64 (.mn (.a 2) (.a 8))), (.int .i64 (.mn (.a 3) (.a 9))), (.int .i64 (.mn (.a 4) (.a 10))), (.int .i64 (.mn (.a 5) (.a 11)))]) [])
theorem o_meet_eq : run (cx true [] []) (fnOf Try.f19) 5000 (startCfg Try.f19.ntmps [b6 0, b6 6] 12 0 0) = o_meet := by kernel_rfl
theorem o_meet_ct {Q : Value → Hp → Prop} {s : Hp} (i : List Int) (b : List Bool) (v : List Value) (hi : i.length = 12) (hb : b.length = 0) (hv : v.length = 0) (hok : v.all fineV = true)
    (h : ∀ w0, VC Try.prog Q (Go.Sx.Reach Try.prog 19 (Ret Q s w0) (fnOf Try.f19).body w0 s) o_meet ⟨i, b, v, []⟩ s) : Ct Try.prog 19 (SV.dens ⟨i, b, v, []⟩ id [b6 0, b6 6]) s Q := by
  refine ct_run (fn := fnOf Try.f19) (progOk true [] []) Try.func19 rfl rfl 5000 (fun x hx => List.all_eq_true.1 hok x hx) rfl (fun w0 => ?_)
  rw [hi, hb, hv, o_meet_eq]
  exact h w0

theorem meet_ct (a b : Bd) (s : Hp) : Ct Try.prog 19 [a.v, b.v] s (fun v _ => v = (a.meet b).v) := by
  refine o_meet_ct (a.l ++ b.l) [] [] rfl rfl rfl rfl (fun w0 => ?_)
  simp only [o_meet, VC, IE.den, BE.den, SV.den, SV.dens, Env.push, Env.ext, List.getD_cons_zero, List.getD_cons_succ, List.cons_append, List.nil_append, List.append_assoc, List.map_cons, List.map_nil, ltB_true, leB_true, eqB_true, ltB_false, leB_false, eqB_false, Bool.not_eq_true', Bool.not_eq_false', Bool.and_eq_true, Bool.or_eq_true, Bool.and_eq_false_iff, Bool.or_eq_false_iff, Bd.l]
  intro β s' _ _
  rfl

def o_rmeet : Out :=
  (.ite (.lt (.a 6) (.a 0))
  (.ite (.lt (.a 7) (.a 1))
  (.ite (.lt (.a 8) (.a 2))
  (.ite (.lt (.a 9) (.a 3))
  (.ite (.lt (.a 10) (.a 4))
  (.ite (.lt (.a 11) (.a 5))
  (.ret (.agg [(.int .i64 (.a 6)), (.int .i64 (.a 7)), (.int .i64 (.a 8)), (.int .i64 (.a 9)), (.int .i64 (.a 10)), (.int .i64 (.a 11))]) [])
  (.ret (.agg [(.int .i64 (.a 6)), (.int .i64 (.a 7)), (.int .i64 (.a 8)), (.int .i64 (.a 9)), (.int .i64 (.a 10)), (.int .i64 (.a 5))]) []))
  (.ite (.lt (.a 11) (.a 5))
  (.ret (.agg [(.int .i64 (.a 6)), (.int .i64 (.a 7)), (.int .i64 (.a 8)), (.int .i64 (.a 9)), (.int .i64 (.a 4)), (.int .i64 (.a 11))]) [])
  (.ret (.agg [(.int .i64 (.a 6)), (.int .i64 (.a 7)), (.int .i64 (.a 8)), (.int .i64 (.a 9)), (.int .i64 (.a 4)), (.int .i64 (.a 5))]) [])))
  (.ite (.lt (.a 10) (.a 4))
  (.ite (.lt (.a 11) (.a 5))
  (.ret (.agg [(.int .i64 (.a 6)), (.int .i64 (.a 7)), (.int .i64 (.a 8)), (.int .i64 (.a 3)), (.int .i64 (.a 10)), (.int .i64 (.a 11))]) [])
  (.ret (.agg [(.int .i64 (.a 6)), (.int .i64 (.a 7)), (.int .i64 (.a 8)), (.int .i64 (.a 3)), (.int .i64 (.a 10)), (.int .i64 (.a 5))]) []))
  (.ite (.lt (.a 11) (.a 5))
  (.ret (.agg [(.int .i64 (.a 6)), (.int .i64 (.a 7)), (.int .i64 (.a 8)), (.int .i64 (.a 3)), (.int .i64 (.a 4)), (.int .i64 (.a 11))]) [])
  (.ret (.agg [(.int .i64 (.a 6)), (.int .i64 (.a 7)), (.int .i64 (.a 8)), (.int .i64 (.a 3)), (.int .i64 (.a 4)), (.int .i64 (.a 5))]) []))))
  (.ite (.lt (.a 9) (.a 3))
  (.ite (.lt (.a 10) (.a 4))
  (.ite (.lt (.a 11) (.a 5))
  (.ret (.agg [(.int .i64 (.a 6)), (.int .i64 (.a 7)), (.int .i64 (.a 2)), (.int .i64 (.a 9)), (.int .i64 (.a 10)), (.int .i64 (.a 11))]) [])
  (.ret (.agg [(.int .i64 (.a 6)), (.int .i64 (.a 7)), (.int .i64 (.a 2)), (.int .i64 (.a 9)), (.int .i64 (.a 10)), (.int .i64 (.a 5))]) []))
  (.ite (.lt (.a 11) (.a 5))
  (.ret (.agg [(.int .i64 (.a 6)), (.int .i64 (.a 7)), (.int .i64 (.a 2)), (.int .i64 (.a 9)), (.int .i64 (.a 4)), (.int .i64 (.a 11))]) [])
  (.ret (.agg [(.int .i64 (.a 6)), (.int .i64 (.a 7)), (.int .i64 (.a 2)), (.int .i64 (.a 9)), (.int .i64 (.a 4)), (.int .i64 (.a 5))]) [])))
  (.ite (.lt (.a 10) (.a 4))
  (.ite (.lt (.a 11) (.a 5))
  (.ret (.agg [(.int .i64 (.a 6)), (.int .i64 (.a 7)), (.int .i64 (.a 2)), (.int .i64 (.a 3)), (.int .i64 (.a 10)), (.int .i64 (.a 11))]) [])
  (.ret (.agg [(.int .i64 (.a 6)), (.int .i64 (.a 7)), (.int .i64 (.a 2)), (.int .i64 (.a 3)), (.int .i64 (.a 10)), (.int .i64 (.a 5))]) []))
  (.ite (.lt (.a 11) (.a 5))
  (.ret (.agg [(.int .i64 (.a 6)), (.int .i64 (.a 7)), (.int .i64 (.a 2)), (.int .i64 (.a 3)), (.int .i64 (.a 4)), (.int .i64 (.a 11))]) [])
  (.ret (.agg [(.int .i64 (.a 6)), (.int .i64 (.a 7)), (.int .i64 (.a 2)), (.int .i64 (.a 3)), (.int .i64 (.a 4)), (.int .i64 (.a 5))]) [])))))
  (.ite (.lt (.a 8) (.a 2))
  (.ite (.lt (.a 9) (.a 3))
  (.ite (.lt (.a 10) (.a 4))
  (.ite (.lt (.a 11) (.a 5))
  (.ret (.agg [(.int .i64 (.a 6)), (.int .i64 (.a 1)), (.int .i64 (.a 8)), (.int .i64 (.a 9)), (.int .i64 (.a 10)), (.int .i64 (.a 11))]) [])
  (.ret (.agg [(.int .i64 (.a 6)), (.int .i64 (.a 1)), (.int .i64 (.a 8)), (.int .i64 (.a 9)), (.int .i64 (.a 10)), (.int .i64 (.a 5))]) []))
  (.ite (.lt (.a 11) (.a 5))
  (.ret (.agg [(.int .i64 (.a 6)), (.int .i64 (.a 1)), (.int .i64 (.a 8)), (.int .i64 (.a 9)), (.int .i64 (.a 4)), (.int .i64 (.a 11))]) [])
  (.ret (.agg [(.int .i64 (.a 6)), (.int .i64 (.a 1)), (.int .i64 (.a 8)), (.int .i64 (.a 9)), (.int .i64 (.a 4)), (.int .i64 (.a 5))]) [])))
  (.ite (.lt (.a 10) (.a 4))
  (.ite (.lt (.a 11) (.a 5))
  (.ret (.agg [(.int .i64 (.a 6)), (.int .i64 (.a 1)), (.int .i64 (.a 8)), (.int .i64 (.a 3)), (.int .i64 (.a 10)), (.int .i64 (.a 11))]) [])
  (.ret (.agg [(.int .i64 (.a 6)), (.int .i64 (.a 1)), (.int .i64 (.a 8)), (.int .i64 (.a 3)), (.int .i64 (.a 10)), (.int .i64 (.a 5))]) []))
  (.ite (.lt (.a 11) (.a 5))
  (.ret (.agg [(.int .i64 (.a 6)), (.int .i64 (.a 1)), (.int .i64 (.a 8)), (.int .i64 (.a 3)), (.int .i64 (.a 4)), (.int .i64 (.a 11))]) [])
  (.ret (.agg [(.int .i64 (.a 6)), (.int .i64 (.a 1)), (.int .i64 (.a 8)), (.int .i64 (.a 3)), (.int .i64 (.a 4)), (.int .i64 (.a 5))]) []))))
  (.ite (.lt (.a 9) (.a 3))
  (.ite (.lt (.a 10) (.a 4))
  (.ite (.lt (.a 11) (.a 5))
  (.ret (.agg [(.int .i64 (.a 6)), (.int .i64 (.a 1)), (.int .i64 (.a 2)), (.int .i64 (.a 9)), (.int .i64 (.a 10)), (.int .i64 (.a 11))]) [])
  (.ret (.agg [(.int .i64 (.a 6)), (.int .i64 (.a 1)), (.int .i64 (.a 2)), (.int .i64 (.a 9)), (.int .i64 (.a 10)), (.int .i64 (.a 5))]) []))
  (.ite (.lt (.a 11) (.a 5))
  (.ret (.agg [(.int .i64 (.a 6)), (.int .i64 (.a 1)), (.int .i64 (.a 2)), (.int .i64 (.a 9)), (.int .i64 (.a 4)), (.int .i64 (.a 11))]) [])
  (.ret (.agg [(.int .i64 (.a 6)), (.int .i64 (.a 1)), (.int .i64 (.a 2)), (.int .i64 (.a 9)), (.int .i64 (.a 4)), (.int .i64 (.a 5))]) [])))
  (.ite (.lt (.a 10) (.a 4))
  (.ite (.lt (.a 11) (.a 5))
  (.ret (.agg [(.int .i64 (.a 6)), (.int .i64 (.a 1)), (.int .i64 (.a 2)), (.int .i64 (.a 3)), (.int .i64 (.a 10)), (.int .i64 (.a 11))]) [])
  (.ret (.agg [(.int .i64 (.a 6)), (.int .i64 (.a 1)), (.int .i64 (.a 2)), (.int .i64 (.a 3)), (.int .i64 (.a 10)), (.int .i64 (.a 5))]) []))
  (.ite (.lt (.a 11) (.a 5))
  (.ret (.agg [(.int .i64 (.a 6)), (.int .i64 (.a 1)), (.int .i64 (.a 2)), (.int .i64 (.a 3)), (.int .i64 (.a 4)), (.int .i64 (.a 11))]) [])
  (.ret (.agg [(.int .i64 (.a 6)), (.int .i64 (.a 1)), (.int .i64 (.a 2)), (.int .i64 (.a 3)), (.int .i64 (.a 4)), (.int .i64 (.a 5))]) []))))))
  (.ite (.lt (.a 7) (.a 1))
  (.ite (.lt (.a 8) (.a 2))
  (.ite (.lt (.a 9) (.a 3))
  (.ite (.lt (.a 10) (.a 4))
  (.ite (.lt (.a 11) (.a 5))
  (.ret (.agg [(.int .i64 (.a 0)), (.int .i64 (.a 7)), (.int .i64 (.a 8)), (.int .i64 (.a 9)), (.int .i64 (.a 10)), (.int .i64 (.a 11))]) [])
  (.ret (.agg [(.int .i64 (.a 0)), (.int .i64 (.a 7)), (.int .i64 (.a 8)), (.int .i64 (.a 9)), (.int .i64 (.a 10)), (.int .i64 (.a 5))]) []))
  (.ite (.lt (.a 11) (.a 5))
  (.ret (.agg [(.int .i64 (.a 0)), (.int .i64 (.a 7)), (.int .i64 (.a 8)), (.int .i64 (.a 9)), (.int .i64 (.a 4)), (.int .i64 (.a 11))]) [])
  (.ret (.agg [(.int .i64 (.a 0)), (.int .i64 (.a 7)), (.int .i64 (.a 8)), (.int .i64 (.a 9)), (.int .i64 (.a 4)), (.int .i64 (.a 5))]) [])))
  (.ite (.lt (.a 10) (.a 4))
  (.ite (.lt (.a 11) (.a 5))
  (.ret (.agg [(.int .i64 (.a 0)), (.int .i64 (.a 7)), (.int .i64 (.a 8)), (.int .i64 (.a 3)), (.int .i64 (.a 10)), (.int .i64 (.a 11))]) [])
  (.ret (.agg [(.int .i64 (.a 0)), (.int .i64 (.a 7)), (.int .i64 (.a 8)), (.int .i64 (.a 3)), (.int .i64 (.a 10)), (.int .i64 (.a 5))]) []))
  (.ite (.lt (.a 11) (.a 5))
  (.ret (.agg [(.int .i64 (.a 0)), (.int .i64 (.a 7)), (.int .i64 (.a 8)), (.int .i64 (.a 3)), (.int .i64 (.a 4)), (.int .i64 (.a 11))]) [])
  (.ret (.agg [(.int .i64 (.a 0)), (.int .i64 (.a 7)), (.int .i64 (.a 8)), (.int .i64 (.a 3)), (.int .i64 (.a 4)), (.int .i64 (.a 5))]) []))))
  (.ite (.lt (.a 9) (.a 3))
  (.ite (.lt (.a 10) (.a 4))
  (.ite (.lt (.a 11) (.a 5))
  (.ret (.agg [(.int .i64 (.a 0)), (.int .i64 (.a 7)), (.int .i64 (.a 2)), (.int .i64 (.a 9)), (.int .i64 (.a 10)), (.int .i64 (.a 11))]) [])
  (.ret (.agg [(.int .i64 (.a 0)), (.int .i64 (.a 7)), (.int .i64 (.a 2)), (.int .i64 (.a 9)), (.int .i64 (.a 10)), (.int .i64 (.a 5))]) []))
  (.ite (.lt (.a 11) (.a 5))
  (.ret (.agg [(.int .i64 (.a 0)), (.int .i64 (.a 7)), (.int .i64 (.a 2)), (.int .i64 (.a 9)), (.int .i64 (.a 4)), (.int .i64 (.a 11))]) [])
  (.ret (.agg [(.int .i64 (.a 0)), (.int .i64 (.a 7)), (.int .i64 (.a 2)), (.int .i64 (.a 9)), (.int .i64 (.a 4)), (.int .i64 (.a 5))]) [])))
  (.ite (.lt (.a 10) (.a 4))
  (.ite (.lt (.a 11) (.a 5))
  (.ret (.agg [(.int .i64 (.a 0)), (.int .i64 (.a 7)), (.int .i64 (.a 2)), (.int .i64 (.a 3)), (.int .i64 (.a 10)), (.int .i64 (.a 11))]) [])
  (.ret (.agg [(.int .i64 (.a 0)), (.int .i64 (.a 7)), (.int .i64 (.a 2)), (.int .i64 (.a 3)), (.int .i64 (.a 10)), (.int .i64 (.a 5))]) []))
  (.ite (.lt (.a 11) (.a 5))
  (.ret (.agg [(.int .i64 (.a 0)), (.int .i64 (.a 7)), (.int .i64 (.a 2)), (.int .i64 (.a 3)), (.int .i64 (.a 4)), (.int .i64 (.a 11))]) [])
  (.ret (.agg [(.int .i64 (.a 0)), (.int .i64 (.a 7)), (.int .i64 (.a 2)), (.int .i64 (.a 3)), (.int .i64 (.a 4)), (.int .i64 (.a 5))]) [])))))
  (.ite (.lt (.a 8) (.a 2))
  (.ite (.lt (.a 9) (.a 3))
  (.ite (.lt (.a 10) (.a 4))
  (.ite (.lt (.a 11) (.a 5))
  (.ret (.agg [(.int .i64 (.a 0)), (.int .i64 (.a 1)), (.int .i64 (.a 8)), (.int .i64 (.a 9)), (.int .i64 (.a 10)), (.int .i64 (.a 11))]) [])
  (.ret (.agg [(.int .i64 (.a 0)), (.int .i64 (.a 1)), (.int .i64 (.a 8)), (.int .i64 (.a 9)), (.int .i64 (.a 10)), (.int .i64 (.a 5))]) []))
  (.ite (.lt (.a 11) (.a 5))
  (.ret (.agg [(.int .i64 (.a 0)), (.int .i64 (.a 1)), (.int .i64 (.a 8)), (.int .i64 (.a 9)), (.int .i64 (.a 4)), (.int .i64 (.a 11))]) [])
  (.ret (.agg [(.int .i64 (.a 0)), (.int .i64 (.a 1)), (.int .i64 (.a 8)), (.int .i64 (.a 9)), (.int .i64 (.a 4)), (.int .i64 (.a 5))]) [])))
  (.ite (.lt (.a 10) (.a 4))
  (.ite (.lt (.a 11) (.a 5))
  (.ret (.agg [(.int .i64 (.a 0)), (.int .i64 (.a 1)), (.int .i64 (.a 8)), (.int .i64 (.a 3)), (.int .i64 (.a 10)), (.int .i64 (.a 11))]) [])
  (.ret (.agg [(.int .i64 (.a 0)), (.int .i64 (.a 1)), (.int .i64 (.a 8)), (.int .i64 (.a 3)), (.int .i64 (.a 10)), (.int .i64 (.a 5))]) []))
  (.ite (.lt (.a 11) (.a 5))
  (.ret (.agg [(.int .i64 (.a 0)), (.int .i64 (.a 1)), (.int .i64 (.a 8)), (.int .i64 (.a 3)), (.int .i64 (.a 4)), (.int .i64 (.a 11))]) [])
  (.ret (.agg [(.int .i64 (.a 0)), (.int .i64 (.a 1)), (.int .i64 (.a 8)), (.int .i64 (.a 3)), (.int .i64 (.a 4)), (.int .i64 (.a 5))]) []))))
  (.ite (.lt (.a 9) (.a 3))
  (.ite (.lt (.a 10) (.a 4))
  (.ite (.lt (.a 11) (.a 5))
  (.ret (.agg [(.int .i64 (.a 0)), (.int .i64 (.a 1)), (.int .i64 (.a 2)), (.int .i64 (.a 9)), (.int .i64 (.a 10)), (.int .i64 (.a 11))]) [])
  (.ret (.agg [(.int .i64 (.a 0)), (.int .i64 (.a 1)), (.int .i64 (.a 2)), (.int .i64 (.a 9)), (.int .i64 (.a 10)), (.int .i64 (.a 5))]) []))
  (.ite (.lt (.a 11) (.a 5))
  (.ret (.agg [(.int .i64 (.a 0)), (.int .i64 (.a 1)), (.int .i64 (.a 2)), (.int .i64 (.a 9)), (.int .i64 (.a 4)), (.int .i64 (.a 11))]) [])
  (.ret (.agg [(.int .i64 (.a 0)), (.int .i64 (.a 1)), (.int .i64 (.a 2)), (.int .i64 (.a 9)), (.int .i64 (.a 4)), (.int .i64 (.a 5))]) [])))
  (.ite (.lt (.a 10) (.a 4))
  (.ite (.lt (.a 11) (.a 5))
  (.ret (.agg [(.int .i64 (.a 0)), (.int .i64 (.a 1)), (.int .i64 (.a 2)), (.int .i64 (.a 3)), (.int .i64 (.a 10)), (.int .i64 (.a 11))]) [])
  (.ret (.agg [(.int .i64 (.a 0)), (.int .i64 (.a 1)), (.int .i64 (.a 2)), (.int .i64 (.a 3)), (.int .i64 (.a 10)), (.int .i64 (.a 5))]) []))
  (.ite (.lt (.a 11) (.a 5))
  (.ret (.agg [(.int .i64 (.a 0)), (.int .i64 (.a 1)), (.int .i64 (.a 2)), (.int .i64 (.a 3)), (.int .i64 (.a 4)), (.int .i64 (.a 11))]) [])
  (.ret (.agg [(.int .i64 (.a 0)), (.int .i64 (.a 1)), (.int .i64 (.a 2)), (.int .i64 (.a 3)), (.int .i64 (.a 4)), (.int .i64 (.a 5))]) [])))))))
theorem o_rmeet_eq : run (cx true [] []) (fnOf Try.f20) 5000 (startCfg Try.f20.ntmps [b6 0, b6 6] 12 0 0) = o_rmeet := by kernel_rfl
theorem o_rmeet_ct {Q : Value → Hp → Prop} {s : Hp} (i : List Int) (b : List Bool) (v : List Value) (hi : i.length = 12) (hb : b.length = 0) (hv : v.length = 0) (hok : v.all fineV = true)
    (h : ∀ w0, VC Try.prog Q (Go.Sx.Reach Try.prog 20 (Ret Q s w0) (fnOf Try.f20).body w0 s) o_rmeet ⟨i, b, v, []⟩ s) : Ct Try.prog 20 (SV.dens ⟨i, b, v, []⟩ id [b6 0, b6 6]) s Q := by
  refine ct_run (fn := fnOf Try.f20) (progOk true [] []) Try.func20 rfl rfl 5000 (fun x hx => List.all_eq_true.1 hok x hx) rfl (fun w0 => ?_)
  rw [hi, hb, hv, o_rmeet_eq]
  exact h w0

theorem rmeet_ct (a b : Bd) (s : Hp) : Ct Try.prog 20 [a.v, b.v] s (fun v _ => v = (a.meet b).v) := by
  refine o_rmeet_ct (a.l ++ b.l) [] [] rfl rfl rfl rfl (fun w0 => ?_)
  simp only [o_rmeet, VC, IE.den, BE.den, SV.den, SV.dens, Env.push, Env.ext, List.getD_cons_zero, List.getD_cons_succ, List.cons_append, List.nil_append, List.append_assoc, List.map_cons, List.map_nil, ltB_true, leB_true, eqB_true, ltB_false, leB_false, eqB_false, Bool.not_eq_true', Bool.not_eq_false', Bool.and_eq_true, Bool.or_eq_true, Bool.and_eq_false_iff, Bool.or_eq_false_iff, Bd.l]
  repeat' (first | (refine ⟨fun h => ?_, fun h => ?_⟩) | (intro β s' _ _))
  all_goals (simp only [Bd.v, Bd.meet, Bd.map2, mnI]; simp only [*, if_true, if_false])

def o_join : Out :=
  (.ret (.agg [(.int .i64 (.mx (.a 0) (.a 6))), (.int .i64 (.mx (.a 1) (.a 7))), (.int .i64 (.mx (.a 2) (.a 8))), (.int .i64 (.mx (.a 3) (.a 9))), (.int .i64 (.mx (.a 4) (.a 10))), (.int .i64 (.mx (.a 5) (.a 11)))]) [])
theorem o_join_eq : run (cx true [] []) (fnOf Try.f21) 5000 (startCfg Try.f21.ntmps [b6 0, b6 6] 12 0 0) = o_join := by kernel_rfl
theorem o_join_ct {Q : Value → Hp → Prop} {s : Hp} (i : List Int) (b : List Bool) (v : List Value) (hi : i.length = 12) (hb : b.length = 0) (hv : v.length = 0) (hok : v.all fineV = true)
    (h : ∀ w0, VC Try.prog Q (Go.Sx.Reach Try.prog 21 (Ret Q s w0) (fnOf Try.f21).body w0 s) o_join ⟨i, b, v, []⟩ s) : Ct Try.prog 21 (SV.dens ⟨i, b, v, []⟩ id [b6 0, b6 6]) s Q := by
  refine ct_run (fn := fnOf Try.f21) (progOk true [] []) Try.func21 rfl rfl 5000 (fun x hx => List.all_eq_true.1 hok x hx) rfl (fun w0 => ?_)
  rw [hi, hb, hv, o_join_eq]
  exact h w0

theorem join_ct (a b : Bd) (s : Hp) : Ct Try.prog 21 [a.v, b.v] s (fun v _ => v = (a.join b).v) := by
  refine o_join_ct (a.l ++ b.l) [] [] rfl rfl rfl rfl (fun w0 => ?_)
  simp only [o_join, VC, IE.den, BE.den, SV.den, SV.dens, Env.push, Env.ext, List.getD_cons_zero, List.getD_cons_succ, List.cons_append, List.nil_append, List.append_assoc, List.map_cons, List.map_nil, ltB_true, leB_true, eqB_true, ltB_false, leB_false, eqB_false, Bool.not_eq_true', Bool.not_eq_false', Bool.and_eq_true, Bool.or_eq_true, Bool.and_eq_false_iff, Bool.or_eq_false_iff, Bd.l]
  intro β s' _ _
  rfl

def o_rjoin : Out :=
  (.ite (.lt (.a 0) (.a 6))
  (.ite (.lt (.a 1) (.a 7))
  (.ite (.lt (.a 2) (.a 8))
  (.ite (.lt (.a 3) (.a 9))
  (.ite (.lt (.a 4) (.a 10))
  (.ite (.lt (.a 5) (.a 11))
  (.ret (.agg [(.int .i64 (.a 6)), (.int .i64 (.a 7)), (.int .i64 (.a 8)), (.int .i64 (.a 9)), (.int .i64 (.a 10)), (.int .i64 (.a 11))]) [])
  (.ret (.agg [(.int .i64 (.a 6)), (.int .i64 (.a 7)), (.int .i64 (.a 8)), (.int .i64 (.a 9)), (.int .i64 (.a 10)), (.int .i64 (.a 5))]) []))
  (.ite (.lt (.a 5) (.a 11))
  (.ret (.agg [(.int .i64 (.a 6)), (.int .i64 (.a 7)), (.int .i64 (.a 8)), (.int .i64 (.a 9)), (.int .i64 (.a 4)), (.int .i64 (.a 11))]) [])
  (.ret (.agg [(.int .i64 (.a 6)), (.int .i64 (.a 7)), (.int .i64 (.a 8)), (.int .i64 (.a 9)), (.int .i64 (.a 4)), (.int .i64 (.a 5))]) [])))
  (.ite (.lt (.a 4) (.a 10))
  (.ite (.lt (.a 5) (.a 11))
  (.ret (.agg [(.int .i64 (.a 6)), (.int .i64 (.a 7)), (.int .i64 (.a 8)), (.int .i64 (.a 3)), (.int .i64 (.a 10)), (.int .i64 (.a 11))]) [])
  (.ret (.agg [(.int .i64 (.a 6)), (.int .i64 (.a 7)), (.int .i64 (.a 8)), (.int .i64 (.a 3)), (.int .i64 (.a 10)), (.int .i64 (.a 5))]) []))
  (.ite (.lt (.a 5) (.a 11))
  (.ret (.agg [(.int .i64 (.a 6)), (.int .i64 (.a 7)), (.int .i64 (.a 8)), (.int .i64 (.a 3)), (.int .i64 (.a 4)), (.int .i64 (.a 11))]) [])
  (.ret (.agg [(.int .i64 (.a 6)), (.int .i64 (.a 7)), (.int .i64 (.a 8)), (.int .i64 (.a 3)), (.int .i64 (.a 4)), (.int .i64 (.a 5))]) []))))
  (.ite (.lt (.a 3) (.a 9))
  (.ite (.lt (.a 4) (.a 10))
  (.ite (.lt (.a 5) (.a 11))
  (.ret (.agg [(.int .i64 (.a 6)), (.int .i64 (.a 7)), (.int .i64 (.a 2)), (.int .i64 (.a 9)), (.int .i64 (.a 10)), (.int .i64 (.a 11))]) [])
  (.ret (.agg [(.int .i64 (.a 6)), (.int .i64 (.a 7)), (.int .i64 (.a 2)), (.int .i64 (.a 9)), (.int .i64 (.a 10)), (.int .i64 (.a 5))]) []))
  (.ite (.lt (.a 5) (.a 11))
  (.ret (.agg [(.int .i64 (.a 6)), (.int .i64 (.a 7)), (.int .i64 (.a 2)), (.int .i64 (.a 9)), (.int .i64 (.a 4)), (.int .i64 (.a 11))]) [])
  (.ret (.agg [(.int .i64 (.a 6)), (.int .i64 (.a 7)), (.int .i64 (.a 2)), (.int .i64 (.a 9)), (.int .i64 (.a 4)), (.int .i64 (.a 5))]) [])))
  (.ite (.lt (.a 4) (.a 10))
  (.ite (.lt (.a 5) (.a 11))
  (.ret (.agg [(.int .i64 (.a 6)), (.int .i64 (.a 7)), (.int .i64 (.a 2)), (.int .i64 (.a 3)), (.int .i64 (.a 10)), (.int .i64 (.a 11))]) [])
  (.ret (.agg [(.int .i64 (.a 6)), (.int .i64 (.a 7)), (.int .i64 (.a 2)), (.int .i64 (.a 3)), (.int .i64 (.a 10)), (.int .i64 (.a 5))]) []))
  (.ite (.lt (.a 5) (.a 11))
  (.ret (.agg [(.int .i64 (.a 6)), (.int .i64 (.a 7)), (.int .i64 (.a 2)), (.int .i64 (.a 3)), (.int .i64 (.a 4)), (.int .i64 (.a 11))]) [])
  (.ret (.agg [(.int .i64 (.a 6)), (.int .i64 (.a 7)), (.int .i64 (.a 2)), (.int .i64 (.a 3)), (.int .i64 (.a 4)), (.int .i64 (.a 5))]) [])))))
  (.ite (.lt (.a 2) (.a 8))
  (.ite (.lt (.a 3) (.a 9))
  (.ite (.lt (.a 4) (.a 10))
  (.ite (.lt (.a 5) (.a 11))
  (.ret (.agg [(.int .i64 (.a 6)), (.int .i64 (.a 1)), (.int .i64 (.a 8)), (.int .i64 (.a 9)), (.int .i64 (.a 10)), (.int .i64 (.a 11))]) [])
  (.ret (.agg [(.int .i64 (.a 6)), (.int .i64 (.a 1)), (.int .i64 (.a 8)), (.int .i64 (.a 9)), (.int .i64 (.a 10)), (.int .i64 (.a 5))]) []))
  (.ite (.lt (.a 5) (.a 11))
  (.ret (.agg [(.int .i64 (.a 6)), (.int .i64 (.a 1)), (.int .i64 (.a 8)), (.int .i64 (.a 9)), (.int .i64 (.a 4)), (.int .i64 (.a 11))]) [])
  (.ret (.agg [(.int .i64 (.a 6)), (.int .i64 (.a 1)), (.int .i64 (.a 8)), (.int .i64 (.a 9)), (.int .i64 (.a 4)), (.int .i64 (.a 5))]) [])))
  (.ite (.lt (.a 4) (.a 10))
  (.ite (.lt (.a 5) (.a 11))
  (.ret (.agg [(.int .i64 (.a 6)), (.int .i64 (.a 1)), (.int .i64 (.a 8)), (.int .i64 (.a 3)), (.int .i64 (.a 10)), (.int .i64 (.a 11))]) [])
  (.ret (.agg [(.int .i64 (.a 6)), (.int .i64 (.a 1)), (.int .i64 (.a 8)), (.int .i64 (.a 3)), (.int .i64 (.a 10)), (.int .i64 (.a 5))]) []))
  (.ite (.lt (.a 5) (.a 11))
  (.ret (.agg [(.int .i64 (.a 6)), (.int .i64 (.a 1)), (.int .i64 (.a 8)), (.int .i64 (.a 3)), (.int .i64 (.a 4)), (.int .i64 (.a 11))]) [])
  (.ret (.agg [(.int .i64 (.a 6)), (.int .i64 (.a 1)), (.int .i64 (.a 8)), (.int .i64 (.a 3)), (.int .i64 (.a 4)), (.int .i64 (.a 5))]) []))))
  (.ite (.lt (.a 3) (.a 9))
  (.ite (.lt (.a 4) (.a 10))
  (.ite (.lt (.a 5) (.a 11))
  (.ret (.agg [(.int .i64 (.a 6)), (.int .i64 (.a 1)), (.int .i64 (.a 2)), (.int .i64 (.a 9)), (.int .i64 (.a 10)), (.int .i64 (.a 11))]) [])
  (.ret (.agg [(.int .i64 (.a 6)), (.int .i64 (.a 1)), (.int .i64 (.a 2)), (.int .i64 (.a 9)), (.int .i64 (.a 10)), (.int .i64 (.a 5))]) []))
  (.ite (.lt (.a 5) (.a 11))
  (.ret (.agg [(.int .i64 (.a 6)), (.int .i64 (.a 1)), (.int .i64 (.a 2)), (.int .i64 (.a 9)), (.int .i64 (.a 4)), (.int .i64 (.a 11))]) [])
  (.ret (.agg [(.int .i64 (.a 6)), (.int .i64 (.a 1)), (.int .i64 (.a 2)), (.int .i64 (.a 9)), (.int .i64 (.a 4)), (.int .i64 (.a 5))]) [])))
  (.ite (.lt (.a 4) (.a 10))
  (.ite (.lt (.a 5) (.a 11))
  (.ret (.agg [(.int .i64 (.a 6)), (.int .i64 (.a 1)), (.int .i64 (.a 2)), (.int .i64 (.a 3)), (.int .i64 (.a 10)), (.int .i64 (.a 11))]) [])
  (.ret (.agg [(.int .i64 (.a 6)), (.int .i64 (.a 1)), (.int .i64 (.a 2)), (.int .i64 (.a 3)), (.int .i64 (.a 10)), (.int .i64 (.a 5))]) []))
  (.ite (.lt (.a 5) (.a 11))
  (.ret (.agg [(.int .i64 (.a 6)), (.int .i64 (.a 1)), (.int .i64 (.a 2)), (.int .i64 (.a 3)), (.int .i64 (.a 4)), (.int .i64 (.a 11))]) [])
  (.ret (.agg [(.int .i64 (.a 6)), (.int .i64 (.a 1)), (.int .i64 (.a 2)), (.int .i64 (.a 3)), (.int .i64 (.a 4)), (.int .i64 (.a 5))]) []))))))
  (.ite (.lt (.a 1) (.a 7))
  (.ite (.lt (.a 2) (.a 8))
  (.ite (.lt (.a 3) (.a 9))
  (.ite (.lt (.a 4) (.a 10))
  (.ite (.lt (.a 5) (.a 11))
  (.ret (.agg [(.int .i64 (.a 0)), (.int .i64 (.a 7)), (.int .i64 (.a 8)), (.int .i64 (.a 9)), (.int .i64 (.a 10)), (.int .i64 (.a 11))]) [])
  (.ret (.agg [(.int .i64 (.a 0)), (.int .i64 (.a 7)), (.int .i64 (.a 8)), (.int .i64 (.a 9)), (.int .i64 (.a 10)), (.int .i64 (.a 5))]) []))
  (.ite (.lt (.a 5) (.a 11))
  (.ret (.agg [(.int .i64 (.a 0)), (.int .i64 (.a 7)), (.int .i64 (.a 8)), (.int .i64 (.a 9)), (.int .i64 (.a 4)), (.int .i64 (.a 11))]) [])
  (.ret (.agg [(.int .i64 (.a 0)), (.int .i64 (.a 7)), (.int .i64 (.a 8)), (.int .i64 (.a 9)), (.int .i64 (.a 4)), (.int .i64 (.a 5))]) [])))
  (.ite (.lt (.a 4) (.a 10))
  (.ite (.lt (.a 5) (.a 11))
  (.ret (.agg [(.int .i64 (.a 0)), (.int .i64 (.a 7)), (.int .i64 (.a 8)), (.int .i64 (.a 3)), (.int .i64 (.a 10)), (.int .i64 (.a 11))]) [])
  (.ret (.agg [(.int .i64 (.a 0)), (.int .i64 (.a 7)), (.int .i64 (.a 8)), (.int .i64 (.a 3)), (.int .i64 (.a 10)), (.int .i64 (.a 5))]) []))
  (.ite (.lt (.a 5) (.a 11))
  (.ret (.agg [(.int .i64 (.a 0)), (.int .i64 (.a 7)), (.int .i64 (.a 8)), (.int .i64 (.a 3)), (.int .i64 (.a 4)), (.int .i64 (.a 11))]) [])
  (.ret (.agg [(.int .i64 (.a 0)), (.int .i64 (.a 7)), (.int .i64 (.a 8)), (.int .i64 (.a 3)), (.int .i64 (.a 4)), (.int .i64 (.a 5))]) []))))
  (.ite (.lt (.a 3) (.a 9))
  (.ite (.lt (.a 4) (.a 10))
  (.ite (.lt (.a 5) (.a 11))
  (.ret (.agg [(.int .i64 (.a 0)), (.int .i64 (.a 7)), (.int .i64 (.a 2)), (.int .i64 (.a 9)), (.int .i64 (.a 10)), (.int .i64 (.a 11))]) [])
  (.ret (.agg [(.int .i64 (.a 0)), (.int .i64 (.a 7)), (.int .i64 (.a 2)), (.int .i64 (.a 9)), (.int .i64 (.a 10)), (.int .i64 (.a 5))]) []))
  (.ite (.lt (.a 5) (.a 11))
  (.ret (.agg [(.int .i64 (.a 0)), (.int .i64 (.a 7)), (.int .i64 (.a 2)), (.int .i64 (.a 9)), (.int .i64 (.a 4)), (.int .i64 (.a 11))]) [])
  (.ret (.agg [(.int .i64 (.a 0)), (.int .i64 (.a 7)), (.int .i64 (.a 2)), (.int .i64 (.a 9)), (.int .i64 (.a 4)), (.int .i64 (.a 5))]) [])))
  (.ite (.lt (.a 4) (.a 10))
  (.ite (.lt (.a 5) (.a 11))
  (.ret (.agg [(.int .i64 (.a 0)), (.int .i64 (.a 7)), (.int .i64 (.a 2)), (.int .i64 (.a 3)), (.int .i64 (.a 10)), (.int .i64 (.a 11))]) [])
  (.ret (.agg [(.int .i64 (.a 0)), (.int .i64 (.a 7)), (.int .i64 (.a 2)), (.int .i64 (.a 3)), (.int .i64 (.a 10)), (.int .i64 (.a 5))]) []))
  (.ite (.lt (.a 5) (.a 11))
  (.ret (.agg [(.int .i64 (.a 0)), (.int .i64 (.a 7)), (.int .i64 (.a 2)), (.int .i64 (.a 3)), (.int .i64 (.a 4)), (.int .i64 (.a 11))]) [])
  (.ret (.agg [(.int .i64 (.a 0)), (.int .i64 (.a 7)), (.int .i64 (.a 2)), (.int .i64 (.a 3)), (.int .i64 (.a 4)), (.int .i64 (.a 5))]) [])))))
  (.ite (.lt (.a 2) (.a 8))
  (.ite (.lt (.a 3) (.a 9))
  (.ite (.lt (.a 4) (.a 10))
  (.ite (.lt (.a 5) (.a 11))
  (.ret (.agg [(.int .i64 (.a 0)), (.int .i64 (.a 1)), (.int .i64 (.a 8)), (.int .i64 (.a 9)), (.int .i64 (.a 10)), (.int .i64 (.a 11))]) [])
  (.ret (.agg [(.int .i64 (.a 0)), (.int .i64 (.a 1)), (.int .i64 (.a 8)), (.int .i64 (.a 9)), (.int .i64 (.a 10)), (.int .i64 (.a 5))]) []))
  (.ite (.lt (.a 5) (.a 11))
  (.ret (.agg [(.int .i64 (.a 0)), (.int .i64 (.a 1)), (.int .i64 (.a 8)), (.int .i64 (.a 9)), (.int .i64 (.a 4)), (.int .i64 (.a 11))]) [])
  (.ret (.agg [(.int .i64 (.a 0)), (.int .i64 (.a 1)), (.int .i64 (.a 8)), (.int .i64 (.a 9)), (.int .i64 (.a 4)), (.int .i64 (.a 5))]) [])))
  (.ite (.lt (.a 4) (.a 10))
  (.ite (.lt (.a 5) (.a 11))
  (.ret (.agg [(.int .i64 (.a 0)), (.int .i64 (.a 1)), (.int .i64 (.a 8)), (.int .i64 (.a 3)), (.int .i64 (.a 10)), (.int .i64 (.a 11))]) [])
  (.ret (.agg [(.int .i64 (.a 0)), (.int .i64 (.a 1)), (.int .i64 (.a 8)), (.int .i64 (.a 3)), (.int .i64 (.a 10)), (.int .i64 (.a 5))]) []))
  (.ite (.lt (.a 5) (.a 11))
  (.ret (.agg [(.int .i64 (.a 0)), (.int .i64 (.a 1)), (.int .i64 (.a 8)), (.int .i64 (.a 3)), (.int .i64 (.a 4)), (.int .i64 (.a 11))]) [])
  (.ret (.agg [(.int .i64 (.a 0)), (.int .i64 (.a 1)), (.int .i64 (.a 8)), (.int .i64 (.a 3)), (.int .i64 (.a 4)), (.int .i64 (.a 5))]) []))))
  (.ite (.lt (.a 3) (.a 9))
  (.ite (.lt (.a 4) (.a 10))
  (.ite (.lt (.a 5) (.a 11))
  (.ret (.agg [(.int .i64 (.a 0)), (.int .i64 (.a 1)), (.int .i64 (.a 2)), (.int .i64 (.a 9)), (.int .i64 (.a 10)), (.int .i64 (.a 11))]) [])
  (.ret (.agg [(.int .i64 (.a 0)), (.int .i64 (.a 1)), (.int .i64 (.a 2)), (.int .i64 (.a 9)), (.int .i64 (.a 10)), (.int .i64 (.a 5))]) []))
  (.ite (.lt (.a 5) (.a 11))
  (.ret (.agg [(.int .i64 (.a 0)), (.int .i64 (.a 1)), (.int .i64 (.a 2)), (.int .i64 (.a 9)), (.int .i64 (.a 4)), (.int .i64 (.a 11))]) [])
  (.ret (.agg [(.int .i64 (.a 0)), (.int .i64 (.a 1)), (.int .i64 (.a 2)), (.int .i64 (.a 9)), (.int .i64 (.a 4)), (.int .i64 (.a 5))]) [])))
  (.ite (.lt (.a 4) (.a 10))
  (.ite (.lt (.a 5) (.a 11))
  (.ret (.agg [(.int .i64 (.a 0)), (.int .i64 (.a 1)), (.int .i64 (.a 2)), (.int .i64 (.a 3)), (.int .i64 (.a 10)), (.int .i64 (.a 11))]) [])
  (.ret (.agg [(.int .i64 (.a 0)), (.int .i64 (.a 1)), (.int .i64 (.a 2)), (.int .i64 (.a 3)), (.int .i64 (.a 10)), (.int .i64 (.a 5))]) []))
  (.ite (.lt (.a 5) (.a 11))
  (.ret (.agg [(.int .i64 (.a 0)), (.int .i64 (.a 1)), (.int .i64 (.a 2)), (.int .i64 (.a 3)), (.int .i64 (.a 4)), (.int .i64 (.a 11))]) [])
  (.ret (.agg [(.int .i64 (.a 0)), (.int .i64 (.a 1)), (.int .i64 (.a 2)), (.int .i64 (.a 3)), (.int .i64 (.a 4)), (.int .i64 (.a 5))]) [])))))))
theorem o_rjoin_eq : run (cx true [] []) (fnOf Try.f22) 5000 (startCfg Try.f22.ntmps [b6 0, b6 6] 12 0 0) = o_rjoin := by kernel_rfl
theorem o_rjoin_ct {Q : Value → Hp → Prop} {s : Hp} (i : List Int) (b : List Bool) (v : List Value) (hi : i.length = 12) (hb : b.length = 0) (hv : v.length = 0) (hok : v.all fineV = true)
    (h : ∀ w0, VC Try.prog Q (Go.Sx.Reach Try.prog 22 (Ret Q s w0) (fnOf Try.f22).body w0 s) o_rjoin ⟨i, b, v, []⟩ s) : Ct Try.prog 22 (SV.dens ⟨i, b, v, []⟩ id [b6 0, b6 6]) s Q := by
  refine ct_run (fn := fnOf Try.f22) (progOk true [] []) Try.func22 rfl rfl 5000 (fun x hx => List.all_eq_true.1 hok x hx) rfl (fun w0 => ?_)
  rw [hi, hb, hv, o_rjoin_eq]
  exact h w0

theorem rjoin_ct (a b : Bd) (s : Hp) : Ct Try.prog 22 [a.v, b.v] s (fun v _ => v = (a.join b).v) := by
  refine o_rjoin_ct (a.l ++ b.l) [] [] rfl rfl rfl rfl (fun w0 => ?_)
  simp only [o_rjoin, VC, IE.den, BE.den, SV.den, SV.dens, Env.push, Env.ext, List.getD_cons_zero, List.getD_cons_succ, List.cons_append, List.nil_append, List.append_assoc, List.map_cons, List.map_nil, ltB_true, leB_true, eqB_true, ltB_false, leB_false, eqB_false, Bool.not_eq_true', Bool.not_eq_false', Bool.and_eq_true, Bool.or_eq_true, Bool.and_eq_false_iff, Bool.or_eq_false_iff, Bd.l]
  repeat' (first | (refine ⟨fun h => ?_, fun h => ?_⟩) | (intro β s' _ _))
  all_goals (simp only [Bd.v, Bd.join, Bd.map2, mxI_of]; simp only [*, if_true, if_false])

def o_within : Out :=
  (.call 19 [(.agg [(.int .i64 (.a 0)), (.int .i64 (.a 1)), (.int .i64 (.a 2)), (.int .i64 (.a 3)), (.int .i64 (.a 4)), (.int .i64 (.a 5))]), (.agg [(.int .i64 (.a 6)), (.int .i64 (.a 7)), (.int .i64 (.a 8)), (.int .i64 (.a 9)), (.int .i64 (.a 10)), (.int .i64 (.a 11))])] [] (.agg [(.int .i64 (.a 12)), (.int .i64 (.a 13)), (.int .i64 (.a 14)), (.int .i64 (.a 15)), (.int .i64 (.a 16)), (.int .i64 (.a 17))]) 6 0 0
  (.ret (.bool (.and (.eq (.a 12) (.a 0)) (.and (.eq (.a 13) (.a 1)) (.and (.eq (.a 14) (.a 2)) (.and (.eq (.a 15) (.a 3)) (.and (.eq (.a 16) (.a 4)) (.eq (.a 17) (.a 5)))))))) []))
theorem o_within_eq : run (cx true [] []) (fnOf Try.f23) 5000 (startCfg Try.f23.ntmps [b6 0, b6 6] 12 0 0) = o_within := by kernel_rfl
theorem o_within_ct {Q : Value → Hp → Prop} {s : Hp} (i : List Int) (b : List Bool) (v : List Value) (hi : i.length = 12) (hb : b.length = 0) (hv : v.length = 0) (hok : v.all fineV = true)
    (h : ∀ w0, VC Try.prog Q (Go.Sx.Reach Try.prog 23 (Ret Q s w0) (fnOf Try.f23).body w0 s) o_within ⟨i, b, v, []⟩ s) : Ct Try.prog 23 (SV.dens ⟨i, b, v, []⟩ id [b6 0, b6 6]) s Q := by
  refine ct_run (fn := fnOf Try.f23) (progOk true [] []) Try.func23 rfl rfl 5000 (fun x hx => List.all_eq_true.1 hok x hx) rfl (fun w0 => ?_)
  rw [hi, hb, hv, o_within_eq]
  exact h w0

theorem within_ct (a b : Bd) (s : Hp) : Ct Try.prog 23 [a.v, b.v] s (fun v _ => v = .bool (decide (a.Le b))) := by
  refine o_within_ct (a.l ++ b.l) [] [] rfl rfl rfl rfl (fun w0 => ?_)
  simp only [o_within, VC, IE.den, BE.den, SV.den, SV.dens, Env.push, Env.ext, List.getD_cons_zero, List.getD_cons_succ, List.cons_append, List.nil_append, List.append_assoc, List.map_cons, List.map_nil, ltB_true, leB_true, eqB_true, ltB_false, leB_false, eqB_false, Bool.not_eq_true', Bool.not_eq_false', Bool.and_eq_true, Bool.or_eq_true, Bool.and_eq_false_iff, Bool.or_eq_false_iff, Bd.l]
  intro β s1 _ _
  refine ⟨_, meet_ct a b s1, ?_⟩
  rintro v s' hs rfl
  refine ⟨(a.meet b).l, [], [], rfl, rfl, rfl, rfl, rfl, ?_⟩
  simp only [VC, IE.den, BE.den, SV.den, SV.dens, Env.push, Env.ext, List.getD_cons_zero, List.getD_cons_succ, List.cons_append, List.nil_append, List.append_assoc, List.map_cons, List.map_nil, ltB_true, leB_true, eqB_true, ltB_false, leB_false, eqB_false, Bool.not_eq_true', Bool.not_eq_false', Bool.and_eq_true, Bool.or_eq_true, Bool.and_eq_false_iff, Bool.or_eq_false_iff, Bd.l, Bd.meet, Bd.map2]
  intro β s' _ _
  refine congrArg Value.bool ?_
  rw [Bool.eq_iff_iff, decide_eq_true_iff]
  show _ ↔ (a.a ≤ b.a ∧ a.b ≤ b.b ∧ a.c ≤ b.c ∧ a.d ≤ b.d ∧ a.e ≤ b.e ∧ a.f ≤ b.f)
  simp only [Bool.and_eq_true, eqB_true, decide_eq_true_eq, mnI]
  constructor
  · rintro ⟨h1, h2, h3, h4, h5, h6⟩
    split at h1 <;> split at h2 <;> split at h3 <;> split at h4 <;> split at h5 <;> split at h6 <;> omega
  · rintro ⟨h1, h2, h3, h4, h5, h6⟩
    rw [if_neg (by omega), if_neg (by omega), if_neg (by omega), if_neg (by omega), if_neg (by omega), if_neg (by omega)]
    exact ⟨rfl, rfl, rfl, rfl, rfl, rfl⟩

def o_rwithin : Out :=
  (.ite (.lt (.a 6) (.a 0))
  (.ret (.bool (.t false)) [])
  (.ite (.lt (.a 7) (.a 1))
  (.ret (.bool (.t false)) [])
  (.ite (.lt (.a 8) (.a 2))
  (.ret (.bool (.t false)) [])
  (.ite (.lt (.a 9) (.a 3))
  (.ret (.bool (.t false)) [])
  (.ite (.lt (.a 10) (.a 4))
  (.ret (.bool (.t false)) [])
  (.ite (.lt (.a 11) (.a 5))
  (.ret (.bool (.t false)) [])
  (.ret (.bool (.t true)) [])))))))
theorem o_rwithin_eq : run (cx true [] []) (fnOf Try.f24) 5000 (startCfg Try.f24.ntmps [b6 0, b6 6] 12 0 0) = o_rwithin := by kernel_rfl
theorem o_rwithin_ct {Q : Value → Hp → Prop} {s : Hp} (i : List Int) (b : List Bool) (v : List Value) (hi : i.length = 12) (hb : b.length = 0) (hv : v.length = 0) (hok : v.all fineV = true)
    (h : ∀ w0, VC Try.prog Q (Go.Sx.Reach Try.prog 24 (Ret Q s w0) (fnOf Try.f24).body w0 s) o_rwithin ⟨i, b, v, []⟩ s) : Ct Try.prog 24 (SV.dens ⟨i, b, v, []⟩ id [b6 0, b6 6]) s Q := by
  refine ct_run (fn := fnOf Try.f24) (progOk true [] []) Try.func24 rfl rfl 5000 (fun x hx => List.all_eq_true.1 hok x hx) rfl (fun w0 => ?_)
  rw [hi, hb, hv, o_rwithin_eq]
  exact h w0

theorem rwithin_ct (a b : Bd) (s : Hp) : Ct Try.prog 24 [a.v, b.v] s (fun v _ => v = .bool (decide (a.Le b))) := by
  refine o_rwithin_ct (a.l ++ b.l) [] [] rfl rfl rfl rfl (fun w0 => ?_)
  simp only [o_rwithin, VC, IE.den, BE.den, SV.den, SV.dens, Env.push, Env.ext, List.getD_cons_zero, List.getD_cons_succ, List.cons_append, List.nil_append, List.append_assoc, List.map_cons, List.map_nil, ltB_true, leB_true, eqB_true, ltB_false, leB_false, eqB_false, Bool.not_eq_true', Bool.not_eq_false', Bool.and_eq_true, Bool.or_eq_true, Bool.and_eq_false_iff, Bool.or_eq_false_iff, Bd.l]
  repeat' (first | (refine ⟨fun h => ?_, fun h => ?_⟩) | (intro β s' _ _))
  all_goals first
    | (refine congrArg Value.bool (Eq.symm (decide_eq_false ?_)); unfold Bd.Le; omega)
    | (refine congrArg Value.bool (Eq.symm (decide_eq_true ?_)); unfold Bd.Le; omega)

def o_cmp : Out :=
  (.ite (.lt (.a 0) (.a 6))
  (.ret (.int .i64 (.l (-1))) [])
  (.ite (.lt (.a 6) (.a 0))
  (.ret (.int .i64 (.l 1)) [])
  (.ite (.lt (.a 1) (.a 7))
  (.ret (.int .i64 (.l (-1))) [])
  (.ite (.lt (.a 7) (.a 1))
  (.ret (.int .i64 (.l 1)) [])
  (.ite (.lt (.a 2) (.a 8))
  (.ret (.int .i64 (.l (-1))) [])
  (.ite (.lt (.a 8) (.a 2))
  (.ret (.int .i64 (.l 1)) [])
  (.ite (.lt (.a 3) (.a 9))
  (.ret (.int .i64 (.l (-1))) [])
  (.ite (.lt (.a 9) (.a 3))
  (.ret (.int .i64 (.l 1)) [])
  (.ite (.lt (.a 4) (.a 10))
  (.ret (.int .i64 (.l (-1))) [])
  (.ite (.lt (.a 10) (.a 4))
  (.ret (.int .i64 (.l 1)) [])
  (.ite (.lt (.a 5) (.a 11))
  (.ret (.int .i64 (.l (-1))) [])
  (.ite (.lt (.a 11) (.a 5))
  (.ret (.int .i64 (.l 1)) [])
  (.ret (.int .i64 (.l 0)) [])))))))))))))
theorem o_cmp_eq : run (cx true [] []) (fnOf Try.f16) 5000 (startCfg Try.f16.ntmps [b6 0, b6 6] 12 0 0) = o_cmp := by kernel_rfl
theorem o_cmp_ct {Q : Value → Hp → Prop} {s : Hp} (i : List Int) (b : List Bool) (v : List Value) (hi : i.length = 12) (hb : b.length = 0) (hv : v.length = 0) (hok : v.all fineV = true)
    (h : ∀ w0, VC Try.prog Q (Go.Sx.Reach Try.prog 16 (Ret Q s w0) (fnOf Try.f16).body w0 s) o_cmp ⟨i, b, v, []⟩ s) : Ct Try.prog 16 (SV.dens ⟨i, b, v, []⟩ id [b6 0, b6 6]) s Q := by
  refine ct_run (fn := fnOf Try.f16) (progOk true [] []) Try.func16 rfl rfl 5000 (fun x hx => List.all_eq_true.1 hok x hx) rfl (fun w0 => ?_)
  rw [hi, hb, hv, o_cmp_eq]
  exact h w0

theorem cmp_ct (a b : Bd) (s : Hp) : Ct Try.prog 16 [a.v, b.v] s (fun v _ => v = .int .i64 (a.compare b)) := by
  refine o_cmp_ct (a.l ++ b.l) [] [] rfl rfl rfl rfl (fun w0 => ?_)
  simp only [o_cmp, VC, IE.den, BE.den, SV.den, SV.dens, Env.push, Env.ext, List.getD_cons_zero, List.getD_cons_succ, List.cons_append, List.nil_append, List.append_assoc, List.map_cons, List.map_nil, ltB_true, leB_true, eqB_true, ltB_false, leB_false, eqB_false, Bool.not_eq_true', Bool.not_eq_false', Bool.and_eq_true, Bool.or_eq_true, Bool.and_eq_false_iff, Bool.or_eq_false_iff, Bd.l]
  repeat' (first | (refine ⟨fun h => ?_, fun h => ?_⟩) | (intro β s' _ _))
  all_goals (simp only [Bd.compare, Bd.l, Bd.cmpL, *, if_true, if_false])

def o_rcmp : Out :=
  (.ite (.lt (.a 0) (.a 6))
  (.ret (.int .i64 (.l (-1))) [])
  (.ite (.lt (.a 6) (.a 0))
  (.ret (.int .i64 (.l 1)) [])
  (.ite (.lt (.a 1) (.a 7))
  (.ret (.int .i64 (.l (-1))) [])
  (.ite (.lt (.a 7) (.a 1))
  (.ret (.int .i64 (.l 1)) [])
  (.ite (.lt (.a 2) (.a 8))
  (.ret (.int .i64 (.l (-1))) [])
  (.ite (.lt (.a 8) (.a 2))
  (.ret (.int .i64 (.l 1)) [])
  (.ite (.lt (.a 3) (.a 9))
  (.ret (.int .i64 (.l (-1))) [])
  (.ite (.lt (.a 9) (.a 3))
  (.ret (.int .i64 (.l 1)) [])
  (.ite (.lt (.a 4) (.a 10))
  (.ret (.int .i64 (.l (-1))) [])
  (.ite (.lt (.a 10) (.a 4))
  (.ret (.int .i64 (.l 1)) [])
  (.ite (.lt (.a 5) (.a 11))
  (.ret (.int .i64 (.l (-1))) [])
  (.ite (.lt (.a 11) (.a 5))
  (.ret (.int .i64 (.l 1)) [])
  (.ret (.int .i64 (.l 0)) [])))))))))))))
theorem o_rcmp_eq : run (cx true [] []) (fnOf Try.f25) 5000 (startCfg Try.f25.ntmps [b6 0, b6 6] 12 0 0) = o_rcmp := by kernel_rfl
theorem o_rcmp_ct {Q : Value → Hp → Prop} {s : Hp} (i : List Int) (b : List Bool) (v : List Value) (hi : i.length = 12) (hb : b.length = 0) (hv : v.length = 0) (hok : v.all fineV = true)
    (h : ∀ w0, VC Try.prog Q (Go.Sx.Reach Try.prog 25 (Ret Q s w0) (fnOf Try.f25).body w0 s) o_rcmp ⟨i, b, v, []⟩ s) : Ct Try.prog 25 (SV.dens ⟨i, b, v, []⟩ id [b6 0, b6 6]) s Q := by
  refine ct_run (fn := fnOf Try.f25) (progOk true [] []) Try.func25 rfl rfl 5000 (fun x hx => List.all_eq_true.1 hok x hx) rfl (fun w0 => ?_)
  rw [hi, hb, hv, o_rcmp_eq]
  exact h w0

theorem rcmp_ct (a b : Bd) (s : Hp) : Ct Try.prog 25 [a.v, b.v] s (fun v _ => v = .int .i64 (a.compare b)) := by
  refine o_rcmp_ct (a.l ++ b.l) [] [] rfl rfl rfl rfl (fun w0 => ?_)
  simp only [o_rcmp, VC, IE.den, BE.den, SV.den, SV.dens, Env.push, Env.ext, List.getD_cons_zero, List.getD_cons_succ, List.cons_append, List.nil_append, List.append_assoc, List.map_cons, List.map_nil, ltB_true, leB_true, eqB_true, ltB_false, leB_false, eqB_false, Bool.not_eq_true', Bool.not_eq_false', Bool.and_eq_true, Bool.or_eq_true, Bool.and_eq_false_iff, Bool.or_eq_false_iff, Bd.l]
  repeat' (first | (refine ⟨fun h => ?_, fun h => ?_⟩) | (intro β s' _ _))
  all_goals (simp only [Bd.compare, Bd.l, Bd.cmpL, *, if_true, if_false])

/-- The quantities are small enough that nothing overflows. -/
def Small (n : Int) (x : Bd) : Prop := x.all fun q => -n ≤ q ∧ q ≤ n

def o_total : Out :=
  (.need (.and (.le (.l (-9223372036854775808)) (.a 0)) (.le (.a 0) (.l 9223372036854775807)))
  (.need (.and (.le (.l (-9223372036854775808)) (.add (.a 0) (.a 1))) (.le (.add (.a 0) (.a 1)) (.l 9223372036854775807)))
  (.need (.and (.le (.l (-9223372036854775808)) (.add (.add (.a 0) (.a 1)) (.a 2))) (.le (.add (.add (.a 0) (.a 1)) (.a 2)) (.l 9223372036854775807)))
  (.need (.and (.le (.l (-9223372036854775808)) (.add (.add (.add (.a 0) (.a 1)) (.a 2)) (.a 3))) (.le (.add (.add (.add (.a 0) (.a 1)) (.a 2)) (.a 3)) (.l 9223372036854775807)))
  (.need (.and (.le (.l (-9223372036854775808)) (.add (.add (.add (.add (.a 0) (.a 1)) (.a 2)) (.a 3)) (.a 4))) (.le (.add (.add (.add (.add (.a 0) (.a 1)) (.a 2)) (.a 3)) (.a 4)) (.l 9223372036854775807)))
  (.need (.and (.le (.l (-9223372036854775808)) (.add (.add (.add (.add (.add (.a 0) (.a 1)) (.a 2)) (.a 3)) (.a 4)) (.a 5))) (.le (.add (.add (.add (.add (.add (.a 0) (.a 1)) (.a 2)) (.a 3)) (.a 4)) (.a 5)) (.l 9223372036854775807)))
  (.ret (.int .i64 (.add (.add (.add (.add (.add (.a 0) (.a 1)) (.a 2)) (.a 3)) (.a 4)) (.a 5))) [])))))))
theorem o_total_eq : run (cx true [] []) (fnOf Try.f31) 5000 (startCfg Try.f31.ntmps [b6 0] 6 0 0) = o_total := by kernel_rfl
theorem o_total_ct {Q : Value → Hp → Prop} {s : Hp} (i : List Int) (b : List Bool) (v : List Value) (hi : i.length = 6) (hb : b.length = 0) (hv : v.length = 0) (hok : v.all fineV = true)
    (h : ∀ w0, VC Try.prog Q (Go.Sx.Reach Try.prog 31 (Ret Q s w0) (fnOf Try.f31).body w0 s) o_total ⟨i, b, v, []⟩ s) : Ct Try.prog 31 (SV.dens ⟨i, b, v, []⟩ id [b6 0]) s Q := by
  refine ct_run (fn := fnOf Try.f31) (progOk true [] []) Try.func31 rfl rfl 5000 (fun x hx => List.all_eq_true.1 hok x hx) rfl (fun w0 => ?_)
  rw [hi, hb, hv, o_total_eq]
  exact h w0

theorem total_ct (b : Bd) (s : Hp) (hb : Small 1000000 b) : Ct Try.prog 31 [b.v] s (fun v _ => v = .int .i64 b.total) := by
  refine o_total_ct b.l [] [] rfl rfl rfl rfl (fun w0 => ?_)
  simp only [o_total, VC, IE.den, BE.den, SV.den, SV.dens, Env.push, Env.ext, List.getD_cons_zero, List.getD_cons_succ, List.cons_append, List.nil_append, List.append_assoc, List.map_cons, List.map_nil, ltB_true, leB_true, eqB_true, ltB_false, leB_false, eqB_false, Bool.not_eq_true', Bool.not_eq_false', Bool.and_eq_true, Bool.or_eq_true, Bool.and_eq_false_iff, Bool.or_eq_false_iff, Bd.l]
  unfold Small Bd.all at hb
  repeat' (first | (refine ⟨?_, fun _ => ?_⟩) | (intro β s' _ _))
  all_goals first | rfl | omega

def o_count : Out :=
  (.call 17 [(.agg [(.int .i64 (.a 0)), (.int .i64 (.a 1)), (.int .i64 (.a 2)), (.int .i64 (.a 3)), (.int .i64 (.a 4)), (.int .i64 (.a 5))])] [] (.int .i64 (.a 6)) 1 0 0
  (.ite (.not (.eq (.a 6) (.l 0)))
  (.ret (.int .i64 (.l 0)) [])
  (.need (.and (.le (.l (-9223372036854775808)) (.add (.a 0) (.l 1))) (.le (.add (.a 0) (.l 1)) (.l 9223372036854775807)))
  (.need (.and (.le (.l (-9223372036854775808)) (.mul (.l 1) (.add (.a 0) (.l 1)))) (.le (.mul (.l 1) (.add (.a 0) (.l 1))) (.l 9223372036854775807)))
  (.need (.and (.le (.l (-9223372036854775808)) (.add (.a 1) (.l 1))) (.le (.add (.a 1) (.l 1)) (.l 9223372036854775807)))
  (.need (.and (.le (.l (-9223372036854775808)) (.mul (.mul (.l 1) (.add (.a 0) (.l 1))) (.add (.a 1) (.l 1)))) (.le (.mul (.mul (.l 1) (.add (.a 0) (.l 1))) (.add (.a 1) (.l 1))) (.l 9223372036854775807)))
  (.need (.and (.le (.l (-9223372036854775808)) (.add (.a 2) (.l 1))) (.le (.add (.a 2) (.l 1)) (.l 9223372036854775807)))
  (.need (.and (.le (.l (-9223372036854775808)) (.mul (.mul (.mul (.l 1) (.add (.a 0) (.l 1))) (.add (.a 1) (.l 1))) (.add (.a 2) (.l 1)))) (.le (.mul (.mul (.mul (.l 1) (.add (.a 0) (.l 1))) (.add (.a 1) (.l 1))) (.add (.a 2) (.l 1))) (.l 9223372036854775807)))
  (.need (.and (.le (.l (-9223372036854775808)) (.add (.a 3) (.l 1))) (.le (.add (.a 3) (.l 1)) (.l 9223372036854775807)))
  (.need (.and (.le (.l (-9223372036854775808)) (.mul (.mul (.mul (.mul (.l 1) (.add (.a 0) (.l 1))) (.add (.a 1) (.l 1))) (.add (.a 2) (.l 1))) (.add (.a 3) (.l 1)))) (.le (.mul (.mul (.mul (.mul (.l 1) (.add (.a 0) (.l 1))) (.add (.a 1) (.l 1))) (.add (.a 2) (.l 1))) (.add (.a 3) (.l 1))) (.l 9223372036854775807)))
  (.need (.and (.le (.l (-9223372036854775808)) (.add (.a 4) (.l 1))) (.le (.add (.a 4) (.l 1)) (.l 9223372036854775807)))
  (.need (.and (.le (.l (-9223372036854775808)) (.mul (.mul (.mul (.mul (.mul (.l 1) (.add (.a 0) (.l 1))) (.add (.a 1) (.l 1))) (.add (.a 2) (.l 1))) (.add (.a 3) (.l 1))) (.add (.a 4) (.l 1)))) (.le (.mul (.mul (.mul (.mul (.mul (.l 1) (.add (.a 0) (.l 1))) (.add (.a 1) (.l 1))) (.add (.a 2) (.l 1))) (.add (.a 3) (.l 1))) (.add (.a 4) (.l 1))) (.l 9223372036854775807)))
  (.need (.and (.le (.l (-9223372036854775808)) (.add (.a 5) (.l 1))) (.le (.add (.a 5) (.l 1)) (.l 9223372036854775807)))
  (.need (.and (.le (.l (-9223372036854775808)) (.mul (.mul (.mul (.mul (.mul (.mul (.l 1) (.add (.a 0) (.l 1))) (.add (.a 1) (.l 1))) (.add (.a 2) (.l 1))) (.add (.a 3) (.l 1))) (.add (.a 4) (.l 1))) (.add (.a 5) (.l 1)))) (.le (.mul (.mul (.mul (.mul (.mul (.mul (.l 1) (.add (.a 0) (.l 1))) (.add (.a 1) (.l 1))) (.add (.a 2) (.l 1))) (.add (.a 3) (.l 1))) (.add (.a 4) (.l 1))) (.add (.a 5) (.l 1))) (.l 9223372036854775807)))
  (.ite (.lt (.l 1024) (.mul (.mul (.mul (.mul (.mul (.mul (.l 1) (.add (.a 0) (.l 1))) (.add (.a 1) (.l 1))) (.add (.a 2) (.l 1))) (.add (.a 3) (.l 1))) (.add (.a 4) (.l 1))) (.add (.a 5) (.l 1))))
  (.ret (.int .i64 (.l 0)) [])
  (.ret (.int .i64 (.mul (.mul (.mul (.mul (.mul (.mul (.l 1) (.add (.a 0) (.l 1))) (.add (.a 1) (.l 1))) (.add (.a 2) (.l 1))) (.add (.a 3) (.l 1))) (.add (.a 4) (.l 1))) (.add (.a 5) (.l 1)))) []))))))))))))))))
theorem o_count_eq : run (cx true [] []) (fnOf Try.f11) 5000 (startCfg Try.f11.ntmps [b6 0] 6 0 0) = o_count := by kernel_rfl
theorem o_count_ct {Q : Value → Hp → Prop} {s : Hp} (i : List Int) (b : List Bool) (v : List Value) (hi : i.length = 6) (hb : b.length = 0) (hv : v.length = 0) (hok : v.all fineV = true)
    (h : ∀ w0, VC Try.prog Q (Go.Sx.Reach Try.prog 11 (Ret Q s w0) (fnOf Try.f11).body w0 s) o_count ⟨i, b, v, []⟩ s) : Ct Try.prog 11 (SV.dens ⟨i, b, v, []⟩ id [b6 0]) s Q := by
  refine ct_run (fn := fnOf Try.f11) (progOk true [] []) Try.func11 rfl rfl 5000 (fun x hx => List.all_eq_true.1 hok x hx) rfl (fun w0 => ?_)
  rw [hi, hb, hv, o_count_eq]
  exact h w0

set_option maxRecDepth 10000 in
theorem count_ct (b : Bd) (s : Hp) : Ct Try.prog 11 [b.v] s (fun v _ => v = .int .i64 b.cnt) := by
  refine o_count_ct b.l [] [] rfl rfl rfl rfl (fun w0 => ?_)
  simp only [o_count, VC, IE.den, BE.den, SV.den, SV.dens, Env.push, Env.ext, List.getD_cons_zero, List.getD_cons_succ, List.cons_append, List.nil_append, List.append_assoc, List.map_cons, List.map_nil, ltB_true, leB_true, eqB_true, ltB_false, leB_false, eqB_false, Bool.not_eq_true', Bool.not_eq_false', Bool.and_eq_true, Bool.or_eq_true, Bool.and_eq_false_iff, Bool.or_eq_false_iff, Bd.l]
  intro β s1 _ _
  refine ⟨_, check_ct b s1, ?_⟩
  rintro v s' hs rfl
  refine ⟨[b.check], [], [], rfl, rfl, rfl, rfl, rfl, ?_⟩
  simp only [VC, IE.den, BE.den, SV.den, SV.dens, Env.push, Env.ext, List.getD_cons_zero, List.getD_cons_succ, List.cons_append, List.nil_append, List.append_assoc, List.map_cons, List.map_nil, ltB_true, leB_true, eqB_true, ltB_false, leB_false, eqB_false, Bool.not_eq_true', Bool.not_eq_false', Bool.and_eq_true, Bool.or_eq_true, Bool.and_eq_false_iff, Bool.or_eq_false_iff, Bd.check_zero]
  refine ⟨fun h => ?_, fun h => ?_⟩
  · intro β s' _ _
    rw [Bd.cnt, if_neg h]
  · have h0 := h
    unfold Bd.Ok at h0
    have h2 := mulB (x := 1 * (b.a + 1)) (y := b.b + 1) (A := 5) (B := 5) (by omega) (by omega)
    have h3 := mulB (x := 1 * (b.a + 1) * (b.b + 1)) (y := b.c + 1) (A := 25) (B := 5) (by omega) (by omega)
    have h4 := mulB (x := 1 * (b.a + 1) * (b.b + 1) * (b.c + 1)) (y := b.d + 1) (A := 125) (B := 5) (by omega) (by omega)
    have h5 := mulB (x := 1 * (b.a + 1) * (b.b + 1) * (b.c + 1) * (b.d + 1)) (y := b.e + 1) (A := 625) (B := 5) (by omega) (by omega)
    have h6 := mulB (x := 1 * (b.a + 1) * (b.b + 1) * (b.c + 1) * (b.d + 1) * (b.e + 1)) (y := b.f + 1) (A := 3125) (B := 5) (by omega) (by omega)
    iterate 12 (refine ⟨by omega, fun _ => ?_⟩)
    refine ⟨fun hl => ?_, fun hl => ?_⟩ <;> intro β s' _ _
    · rw [Bd.cnt, if_pos h, if_pos (show 1024 < b.prod from hl)]
    · rw [Bd.cnt, if_pos h, if_neg (show ¬ 1024 < b.prod from hl)]; rfl

def o_rank : Out :=
  (.call 11 [(.agg [(.int .i64 (.a 0)), (.int .i64 (.a 1)), (.int .i64 (.a 2)), (.int .i64 (.a 3)), (.int .i64 (.a 4)), (.int .i64 (.a 5))])] [] (.int .i64 (.a 12)) 1 0 0
  (.ite (.eq (.a 12) (.l 0))
  (.ret (.tup [(.int .i64 (.l 0)), (.int .i64 (.l 4))]) [])
  (.call 17 [(.agg [(.int .i64 (.a 6)), (.int .i64 (.a 7)), (.int .i64 (.a 8)), (.int .i64 (.a 9)), (.int .i64 (.a 10)), (.int .i64 (.a 11))])] [] (.int .i64 (.a 13)) 1 0 0
  (.ite (.not (.eq (.a 13) (.l 0)))
  (.ret (.tup [(.int .i64 (.l 0)), (.int .i64 (.l 4))]) [])
  (.call 23 [(.agg [(.int .i64 (.a 6)), (.int .i64 (.a 7)), (.int .i64 (.a 8)), (.int .i64 (.a 9)), (.int .i64 (.a 10)), (.int .i64 (.a 11))]), (.agg [(.int .i64 (.a 0)), (.int .i64 (.a 1)), (.int .i64 (.a 2)), (.int .i64 (.a 3)), (.int .i64 (.a 4)), (.int .i64 (.a 5))])] [] (.bool (.a 0)) 0 1 0
  (.ite (.not (.a 0))
  (.ret (.tup [(.int .i64 (.l 0)), (.int .i64 (.l 4))]) [])
  (.need (.and (.le (.l (-9223372036854775808)) (.add (.a 0) (.l 1))) (.le (.add (.a 0) (.l 1)) (.l 9223372036854775807)))
  (.need (.and (.le (.l (-9223372036854775808)) (.mul (.l 0) (.add (.a 0) (.l 1)))) (.le (.mul (.l 0) (.add (.a 0) (.l 1))) (.l 9223372036854775807)))
  (.need (.and (.le (.l (-9223372036854775808)) (.add (.mul (.l 0) (.add (.a 0) (.l 1))) (.a 6))) (.le (.add (.mul (.l 0) (.add (.a 0) (.l 1))) (.a 6)) (.l 9223372036854775807)))
  (.need (.and (.le (.l (-9223372036854775808)) (.add (.a 1) (.l 1))) (.le (.add (.a 1) (.l 1)) (.l 9223372036854775807)))
  (.need (.and (.le (.l (-9223372036854775808)) (.mul (.add (.mul (.l 0) (.add (.a 0) (.l 1))) (.a 6)) (.add (.a 1) (.l 1)))) (.le (.mul (.add (.mul (.l 0) (.add (.a 0) (.l 1))) (.a 6)) (.add (.a 1) (.l 1))) (.l 9223372036854775807)))
  (.need (.and (.le (.l (-9223372036854775808)) (.add (.mul (.add (.mul (.l 0) (.add (.a 0) (.l 1))) (.a 6)) (.add (.a 1) (.l 1))) (.a 7))) (.le (.add (.mul (.add (.mul (.l 0) (.add (.a 0) (.l 1))) (.a 6)) (.add (.a 1) (.l 1))) (.a 7)) (.l 9223372036854775807)))
  (.need (.and (.le (.l (-9223372036854775808)) (.add (.a 2) (.l 1))) (.le (.add (.a 2) (.l 1)) (.l 9223372036854775807)))
  (.need (.and (.le (.l (-9223372036854775808)) (.mul (.add (.mul (.add (.mul (.l 0) (.add (.a 0) (.l 1))) (.a 6)) (.add (.a 1) (.l 1))) (.a 7)) (.add (.a 2) (.l 1)))) (.le (.mul (.add (.mul (.add (.mul (.l 0) (.add (.a 0) (.l 1))) (.a 6)) (.add (.a 1) (.l 1))) (.a 7)) (.add (.a 2) (.l 1))) (.l 9223372036854775807)))
  (.need (.and (.le (.l (-9223372036854775808)) (.add (.mul (.add (.mul (.add (.mul (.l 0) (.add (.a 0) (.l 1))) (.a 6)) (.add (.a 1) (.l 1))) (.a 7)) (.add (.a 2) (.l 1))) (.a 8))) (.le (.add (.mul (.add (.mul (.add (.mul (.l 0) (.add (.a 0) (.l 1))) (.a 6)) (.add (.a 1) (.l 1))) (.a 7)) (.add (.a 2) (.l 1))) (.a 8)) (.l 9223372036854775807)))
  (.need (.and (.le (.l (-9223372036854775808)) (.add (.a 3) (.l 1))) (.le (.add (.a 3) (.l 1)) (.l 9223372036854775807)))
  (.need (.and (.le (.l (-9223372036854775808)) (.mul (.add (.mul (.add (.mul (.add (.mul (.l 0) (.add (.a 0) (.l 1))) (.a 6)) (.add (.a 1) (.l 1))) (.a 7)) (.add (.a 2) (.l 1))) (.a 8)) (.add (.a 3) (.l 1)))) (.le (.mul (.add (.mul (.add (.mul (.add (.mul (.l 0) (.add (.a 0) (.l 1))) (.a 6)) (.add (.a 1) (.l 1))) (.a 7)) (.add (.a 2) (.l 1))) (.a 8)) (.add (.a 3) (.l 1))) (.l 9223372036854775807)))
  (.need (.and (.le (.l (-9223372036854775808)) (.add (.mul (.add (.mul (.add (.mul (.add (.mul (.l 0) (.add (.a 0) (.l 1))) (.a 6)) (.add (.a 1) (.l 1))) (.a 7)) (.add (.a 2) (.l 1))) (.a 8)) (.add (.a 3) (.l 1))) (.a 9))) (.le (.add (.mul (.add (.mul (.add (.mul (.add (.mul (.l 0) (.add (.a 0) (.l 1))) (.a 6)) (.add (.a 1) (.l 1))) (.a 7)) (.add (.a 2) (.l 1))) (.a 8)) (.add (.a 3) (.l 1))) (.a 9)) (.l 9223372036854775807)))
  (.need (.and (.le (.l (-9223372036854775808)) (.add (.a 4) (.l 1))) (.le (.add (.a 4) (.l 1)) (.l 9223372036854775807)))
  (.need (.and (.le (.l (-9223372036854775808)) (.mul (.add (.mul (.add (.mul (.add (.mul (.add (.mul (.l 0) (.add (.a 0) (.l 1))) (.a 6)) (.add (.a 1) (.l 1))) (.a 7)) (.add (.a 2) (.l 1))) (.a 8)) (.add (.a 3) (.l 1))) (.a 9)) (.add (.a 4) (.l 1)))) (.le (.mul (.add (.mul (.add (.mul (.add (.mul (.add (.mul (.l 0) (.add (.a 0) (.l 1))) (.a 6)) (.add (.a 1) (.l 1))) (.a 7)) (.add (.a 2) (.l 1))) (.a 8)) (.add (.a 3) (.l 1))) (.a 9)) (.add (.a 4) (.l 1))) (.l 9223372036854775807)))
  (.need (.and (.le (.l (-9223372036854775808)) (.add (.mul (.add (.mul (.add (.mul (.add (.mul (.add (.mul (.l 0) (.add (.a 0) (.l 1))) (.a 6)) (.add (.a 1) (.l 1))) (.a 7)) (.add (.a 2) (.l 1))) (.a 8)) (.add (.a 3) (.l 1))) (.a 9)) (.add (.a 4) (.l 1))) (.a 10))) (.le (.add (.mul (.add (.mul (.add (.mul (.add (.mul (.add (.mul (.l 0) (.add (.a 0) (.l 1))) (.a 6)) (.add (.a 1) (.l 1))) (.a 7)) (.add (.a 2) (.l 1))) (.a 8)) (.add (.a 3) (.l 1))) (.a 9)) (.add (.a 4) (.l 1))) (.a 10)) (.l 9223372036854775807)))
  (.need (.and (.le (.l (-9223372036854775808)) (.add (.a 5) (.l 1))) (.le (.add (.a 5) (.l 1)) (.l 9223372036854775807)))
  (.need (.and (.le (.l (-9223372036854775808)) (.mul (.add (.mul (.add (.mul (.add (.mul (.add (.mul (.add (.mul (.l 0) (.add (.a 0) (.l 1))) (.a 6)) (.add (.a 1) (.l 1))) (.a 7)) (.add (.a 2) (.l 1))) (.a 8)) (.add (.a 3) (.l 1))) (.a 9)) (.add (.a 4) (.l 1))) (.a 10)) (.add (.a 5) (.l 1)))) (.le (.mul (.add (.mul (.add (.mul (.add (.mul (.add (.mul (.add (.mul (.l 0) (.add (.a 0) (.l 1))) (.a 6)) (.add (.a 1) (.l 1))) (.a 7)) (.add (.a 2) (.l 1))) (.a 8)) (.add (.a 3) (.l 1))) (.a 9)) (.add (.a 4) (.l 1))) (.a 10)) (.add (.a 5) (.l 1))) (.l 9223372036854775807)))
  (.need (.and (.le (.l (-9223372036854775808)) (.add (.mul (.add (.mul (.add (.mul (.add (.mul (.add (.mul (.add (.mul (.l 0) (.add (.a 0) (.l 1))) (.a 6)) (.add (.a 1) (.l 1))) (.a 7)) (.add (.a 2) (.l 1))) (.a 8)) (.add (.a 3) (.l 1))) (.a 9)) (.add (.a 4) (.l 1))) (.a 10)) (.add (.a 5) (.l 1))) (.a 11))) (.le (.add (.mul (.add (.mul (.add (.mul (.add (.mul (.add (.mul (.add (.mul (.l 0) (.add (.a 0) (.l 1))) (.a 6)) (.add (.a 1) (.l 1))) (.a 7)) (.add (.a 2) (.l 1))) (.a 8)) (.add (.a 3) (.l 1))) (.a 9)) (.add (.a 4) (.l 1))) (.a 10)) (.add (.a 5) (.l 1))) (.a 11)) (.l 9223372036854775807)))
  (.ret (.tup [(.int .i64 (.add (.mul (.add (.mul (.add (.mul (.add (.mul (.add (.mul (.add (.mul (.l 0) (.add (.a 0) (.l 1))) (.a 6)) (.add (.a 1) (.l 1))) (.a 7)) (.add (.a 2) (.l 1))) (.a 8)) (.add (.a 3) (.l 1))) (.a 9)) (.add (.a 4) (.l 1))) (.a 10)) (.add (.a 5) (.l 1))) (.a 11))), (.int .i64 (.l 0))]) [])))))))))))))))))))))))))
theorem o_rank_eq : run (cx true [] []) (fnOf Try.f9) 5000 (startCfg Try.f9.ntmps [b6 0, b6 6] 12 0 0) = o_rank := by kernel_rfl
theorem o_rank_ct {Q : Value → Hp → Prop} {s : Hp} (i : List Int) (b : List Bool) (v : List Value) (hi : i.length = 12) (hb : b.length = 0) (hv : v.length = 0) (hok : v.all fineV = true)
    (h : ∀ w0, VC Try.prog Q (Go.Sx.Reach Try.prog 9 (Ret Q s w0) (fnOf Try.f9).body w0 s) o_rank ⟨i, b, v, []⟩ s) : Ct Try.prog 9 (SV.dens ⟨i, b, v, []⟩ id [b6 0, b6 6]) s Q := by
  refine ct_run (fn := fnOf Try.f9) (progOk true [] []) Try.func9 rfl rfl 5000 (fun x hx => List.all_eq_true.1 hok x hx) rfl (fun w0 => ?_)
  rw [hi, hb, hv, o_rank_eq]
  exact h w0

set_option maxRecDepth 10000 in
theorem rank_ct (s b : Bd) (sg : Hp) : Ct Try.prog 9 [s.v, b.v] sg (fun v _ => v = .tuple #[.int .i64 (s.rank b).1, .int .i64 (s.rank b).2]) := by
  refine o_rank_ct (s.l ++ b.l) [] [] rfl rfl rfl rfl (fun w0 => ?_)
  simp only [o_rank, VC, IE.den, BE.den, SV.den, SV.dens, Env.push, Env.ext, List.getD_cons_zero, List.getD_cons_succ, List.cons_append, List.nil_append, List.append_assoc, List.map_cons, List.map_nil, ltB_true, leB_true, eqB_true, ltB_false, leB_false, eqB_false, Bool.not_eq_true', Bool.not_eq_false', Bool.and_eq_true, Bool.or_eq_true, Bool.and_eq_false_iff, Bool.or_eq_false_iff, Bd.l]
  intro β s1 _ _
  refine ⟨_, count_ct s s1, ?_⟩
  rintro v s' hs rfl
  refine ⟨[s.cnt], [], [], rfl, rfl, rfl, rfl, rfl, ?_⟩
  simp only [VC, IE.den, BE.den, SV.den, SV.dens, Env.push, Env.ext, List.getD_cons_zero, List.getD_cons_succ, List.cons_append, List.nil_append, List.append_assoc, List.map_cons, List.map_nil, ltB_true, leB_true, eqB_true, ltB_false, leB_false, eqB_false, Bool.not_eq_true', Bool.not_eq_false', Bool.and_eq_true, Bool.or_eq_true, Bool.and_eq_false_iff, Bool.or_eq_false_iff]
  refine ⟨fun h => ?_, fun h1 => ?_⟩
  · intro β s' _ _
    rw [Bd.rank, if_neg (by intro hc; exact hc.1 h)]
  intro β s1 _ _
  refine ⟨_, check_ct b s1, ?_⟩
  rintro v s' hs rfl
  refine ⟨[b.check], [], [], rfl, rfl, rfl, rfl, rfl, ?_⟩
  simp only [VC, IE.den, BE.den, SV.den, SV.dens, Env.push, Env.ext, List.getD_cons_zero, List.getD_cons_succ, List.cons_append, List.nil_append, List.append_assoc, List.map_cons, List.map_nil, ltB_true, leB_true, eqB_true, ltB_false, leB_false, eqB_false, Bool.not_eq_true', Bool.not_eq_false', Bool.and_eq_true, Bool.or_eq_true, Bool.and_eq_false_iff, Bool.or_eq_false_iff, Bd.check_zero]
  refine ⟨fun h => ?_, fun h2 => ?_⟩
  · intro β s' _ _
    rw [Bd.rank, if_neg (by intro hc; exact h hc.2.1)]
  intro β s1 _ _
  refine ⟨_, within_ct b s s1, ?_⟩
  rintro v s' hs rfl
  refine ⟨[], [decide (b.Le s)], [], rfl, rfl, rfl, rfl, rfl, ?_⟩
  simp only [VC, IE.den, BE.den, SV.den, SV.dens, Env.push, Env.ext, List.getD_cons_zero, List.getD_cons_succ, List.cons_append, List.nil_append, List.append_assoc, List.map_cons, List.map_nil, ltB_true, leB_true, eqB_true, ltB_false, leB_false, eqB_false, Bool.not_eq_true', Bool.not_eq_false', Bool.and_eq_true, Bool.or_eq_true, Bool.and_eq_false_iff, Bool.or_eq_false_iff, decide_eq_false_iff_not, decide_eq_true_eq]
  refine ⟨fun h => ?_, fun h3 => ?_⟩
  · intro β s' _ _
    rw [Bd.rank, if_neg (by intro hc; exact h hc.2.2)]
  have k1 := Bd.ok_of_cnt h1
  have k2 := h2
  unfold Bd.Ok at k1 k2
  have m2 := mulB (x := 0 * (s.a + 1) + b.a) (y := s.b + 1) (A := 4) (B := 5) (by omega) (by omega)
  have m3 := mulB (x := (0 * (s.a + 1) + b.a) * (s.b + 1) + b.b) (y := s.c + 1) (A := 24) (B := 5) (by omega) (by omega)
  have m4 := mulB (x := ((0 * (s.a + 1) + b.a) * (s.b + 1) + b.b) * (s.c + 1) + b.c) (y := s.d + 1) (A := 124) (B := 5) (by omega) (by omega)
  have m5 := mulB (x := (((0 * (s.a + 1) + b.a) * (s.b + 1) + b.b) * (s.c + 1) + b.c) * (s.d + 1) + b.d) (y := s.e + 1) (A := 624) (B := 5) (by omega) (by omega)
  have m6 := mulB (x := ((((0 * (s.a + 1) + b.a) * (s.b + 1) + b.b) * (s.c + 1) + b.c) * (s.d + 1) + b.d) * (s.e + 1) + b.e) (y := s.f + 1) (A := 3124) (B := 5) (by omega) (by omega)
  iterate 18 (refine ⟨by omega, fun _ => ?_⟩)
  intro β s' _ _
  rw [Bd.rank, if_pos ⟨h1, h2, h3⟩]; rfl

def o_unrank : Out :=
  (.ite (.lt (.a 6) (.l 0))
  (.ret (.tup [(.agg [(.int .i64 (.l 0)), (.int .i64 (.l 0)), (.int .i64 (.l 0)), (.int .i64 (.l 0)), (.int .i64 (.l 0)), (.int .i64 (.l 0))]), (.int .i64 (.l 4))]) [])
  (.call 11 [(.agg [(.int .i64 (.a 0)), (.int .i64 (.a 1)), (.int .i64 (.a 2)), (.int .i64 (.a 3)), (.int .i64 (.a 4)), (.int .i64 (.a 5))])] [] (.int .i64 (.a 7)) 1 0 0
  (.ite (.le (.a 7) (.a 6))
  (.ret (.tup [(.agg [(.int .i64 (.l 0)), (.int .i64 (.l 0)), (.int .i64 (.l 0)), (.int .i64 (.l 0)), (.int .i64 (.l 0)), (.int .i64 (.l 0))]), (.int .i64 (.l 4))]) [])
  (.need (.and (.le (.l (-9223372036854775808)) (.add (.a 5) (.l 1))) (.le (.add (.a 5) (.l 1)) (.l 9223372036854775807)))
  (.need (.not (.eq (.add (.a 5) (.l 1)) (.l 0)))
  (.need (.and (.le (.l (-9223372036854775808)) (.add (.a 5) (.l 1))) (.le (.add (.a 5) (.l 1)) (.l 9223372036854775807)))
  (.need (.not (.eq (.add (.a 5) (.l 1)) (.l 0)))
  (.need (.and (.le (.l (-9223372036854775808)) (.tdiv (.a 6) (.add (.a 5) (.l 1)))) (.le (.tdiv (.a 6) (.add (.a 5) (.l 1))) (.l 9223372036854775807)))
  (.need (.and (.le (.l (-9223372036854775808)) (.add (.a 4) (.l 1))) (.le (.add (.a 4) (.l 1)) (.l 9223372036854775807)))
  (.need (.not (.eq (.add (.a 4) (.l 1)) (.l 0)))
  (.need (.and (.le (.l (-9223372036854775808)) (.add (.a 4) (.l 1))) (.le (.add (.a 4) (.l 1)) (.l 9223372036854775807)))
  (.need (.not (.eq (.add (.a 4) (.l 1)) (.l 0)))
  (.need (.and (.le (.l (-9223372036854775808)) (.tdiv (.tdiv (.a 6) (.add (.a 5) (.l 1))) (.add (.a 4) (.l 1)))) (.le (.tdiv (.tdiv (.a 6) (.add (.a 5) (.l 1))) (.add (.a 4) (.l 1))) (.l 9223372036854775807)))
  (.need (.and (.le (.l (-9223372036854775808)) (.add (.a 3) (.l 1))) (.le (.add (.a 3) (.l 1)) (.l 9223372036854775807)))
  (.need (.not (.eq (.add (.a 3) (.l 1)) (.l 0)))
  (.need (.and (.le (.l (-9223372036854775808)) (.add (.a 3) (.l 1))) (.le (.add (.a 3) (.l 1)) (.l 9223372036854775807)))
  (.need (.not (.eq (.add (.a 3) (.l 1)) (.l 0)))
  (.need (.and (.le (.l (-9223372036854775808)) (.tdiv (.tdiv (.tdiv (.a 6) (.add (.a 5) (.l 1))) (.add (.a 4) (.l 1))) (.add (.a 3) (.l 1)))) (.le (.tdiv (.tdiv (.tdiv (.a 6) (.add (.a 5) (.l 1))) (.add (.a 4) (.l 1))) (.add (.a 3) (.l 1))) (.l 9223372036854775807)))
  (.need (.and (.le (.l (-9223372036854775808)) (.add (.a 2) (.l 1))) (.le (.add (.a 2) (.l 1)) (.l 9223372036854775807)))
  (.need (.not (.eq (.add (.a 2) (.l 1)) (.l 0)))
  (.need (.and (.le (.l (-9223372036854775808)) (.add (.a 2) (.l 1))) (.le (.add (.a 2) (.l 1)) (.l 9223372036854775807)))
  (.need (.not (.eq (.add (.a 2) (.l 1)) (.l 0)))
  (.need (.and (.le (.l (-9223372036854775808)) (.tdiv (.tdiv (.tdiv (.tdiv (.a 6) (.add (.a 5) (.l 1))) (.add (.a 4) (.l 1))) (.add (.a 3) (.l 1))) (.add (.a 2) (.l 1)))) (.le (.tdiv (.tdiv (.tdiv (.tdiv (.a 6) (.add (.a 5) (.l 1))) (.add (.a 4) (.l 1))) (.add (.a 3) (.l 1))) (.add (.a 2) (.l 1))) (.l 9223372036854775807)))
  (.need (.and (.le (.l (-9223372036854775808)) (.add (.a 1) (.l 1))) (.le (.add (.a 1) (.l 1)) (.l 9223372036854775807)))
  (.need (.not (.eq (.add (.a 1) (.l 1)) (.l 0)))
  (.need (.and (.le (.l (-9223372036854775808)) (.add (.a 1) (.l 1))) (.le (.add (.a 1) (.l 1)) (.l 9223372036854775807)))
  (.need (.not (.eq (.add (.a 1) (.l 1)) (.l 0)))
  (.need (.and (.le (.l (-9223372036854775808)) (.tdiv (.tdiv (.tdiv (.tdiv (.tdiv (.a 6) (.add (.a 5) (.l 1))) (.add (.a 4) (.l 1))) (.add (.a 3) (.l 1))) (.add (.a 2) (.l 1))) (.add (.a 1) (.l 1)))) (.le (.tdiv (.tdiv (.tdiv (.tdiv (.tdiv (.a 6) (.add (.a 5) (.l 1))) (.add (.a 4) (.l 1))) (.add (.a 3) (.l 1))) (.add (.a 2) (.l 1))) (.add (.a 1) (.l 1))) (.l 9223372036854775807)))
  (.need (.and (.le (.l (-9223372036854775808)) (.add (.a 0) (.l 1))) (.le (.add (.a 0) (.l 1)) (.l 9223372036854775807)))
  (.need (.not (.eq (.add (.a 0) (.l 1)) (.l 0)))
  (.need (.and (.le (.l (-9223372036854775808)) (.add (.a 0) (.l 1))) (.le (.add (.a 0) (.l 1)) (.l 9223372036854775807)))
  (.need (.not (.eq (.add (.a 0) (.l 1)) (.l 0)))
  (.need (.and (.le (.l (-9223372036854775808)) (.tdiv (.tdiv (.tdiv (.tdiv (.tdiv (.tdiv (.a 6) (.add (.a 5) (.l 1))) (.add (.a 4) (.l 1))) (.add (.a 3) (.l 1))) (.add (.a 2) (.l 1))) (.add (.a 1) (.l 1))) (.add (.a 0) (.l 1)))) (.le (.tdiv (.tdiv (.tdiv (.tdiv (.tdiv (.tdiv (.a 6) (.add (.a 5) (.l 1))) (.add (.a 4) (.l 1))) (.add (.a 3) (.l 1))) (.add (.a 2) (.l 1))) (.add (.a 1) (.l 1))) (.add (.a 0) (.l 1))) (.l 9223372036854775807)))
  (.ret (.tup [(.agg [(.int .i64 (.tmod (.tdiv (.tdiv (.tdiv (.tdiv (.tdiv (.a 6) (.add (.a 5) (.l 1))) (.add (.a 4) (.l 1))) (.add (.a 3) (.l 1))) (.add (.a 2) (.l 1))) (.add (.a 1) (.l 1))) (.add (.a 0) (.l 1)))), (.int .i64 (.tmod (.tdiv (.tdiv (.tdiv (.tdiv (.a 6) (.add (.a 5) (.l 1))) (.add (.a 4) (.l 1))) (.add (.a 3) (.l 1))) (.add (.a 2) (.l 1))) (.add (.a 1) (.l 1)))), (.int .i64 (.tmod (.tdiv (.tdiv (.tdiv (.a 6) (.add (.a 5) (.l 1))) (.add (.a 4) (.l 1))) (.add (.a 3) (.l 1))) (.add (.a 2) (.l 1)))), (.int .i64 (.tmod (.tdiv (.tdiv (.a 6) (.add (.a 5) (.l 1))) (.add (.a 4) (.l 1))) (.add (.a 3) (.l 1)))), (.int .i64 (.tmod (.tdiv (.a 6) (.add (.a 5) (.l 1))) (.add (.a 4) (.l 1)))), (.int .i64 (.tmod (.a 6) (.add (.a 5) (.l 1))))]), (.int .i64 (.l 0))]) []))))))))))))))))))))))))))))))))))
theorem o_unrank_eq : run (cx true [] []) (fnOf Try.f14) 5000 (startCfg Try.f14.ntmps [b6 0, iA 6] 7 0 0) = o_unrank := by kernel_rfl
theorem o_unrank_ct {Q : Value → Hp → Prop} {s : Hp} (i : List Int) (b : List Bool) (v : List Value) (hi : i.length = 7) (hb : b.length = 0) (hv : v.length = 0) (hok : v.all fineV = true)
    (h : ∀ w0, VC Try.prog Q (Go.Sx.Reach Try.prog 14 (Ret Q s w0) (fnOf Try.f14).body w0 s) o_unrank ⟨i, b, v, []⟩ s) : Ct Try.prog 14 (SV.dens ⟨i, b, v, []⟩ id [b6 0, iA 6]) s Q := by
  refine ct_run (fn := fnOf Try.f14) (progOk true [] []) Try.func14 rfl rfl 5000 (fun x hx => List.all_eq_true.1 hok x hx) rfl (fun w0 => ?_)
  rw [hi, hb, hv, o_unrank_eq]
  exact h w0

set_option maxRecDepth 10000 in
theorem unrank_ct (s : Bd) (n : Int) (hn : n ≤ 9223372036854775807) (sg : Hp) : Ct Try.prog 14 [s.v, .int .i64 n] sg (fun v _ => v = .tuple #[(s.unrank n).1.v, .int .i64 (s.unrank n).2]) := by
  refine o_unrank_ct (s.l ++ [n]) [] [] rfl rfl rfl rfl (fun w0 => ?_)
  simp only [o_unrank, VC, IE.den, BE.den, SV.den, SV.dens, Env.push, Env.ext, List.getD_cons_zero, List.getD_cons_succ, List.cons_append, List.nil_append, List.append_assoc, List.map_cons, List.map_nil, ltB_true, leB_true, eqB_true, ltB_false, leB_false, eqB_false, Bool.not_eq_true', Bool.not_eq_false', Bool.and_eq_true, Bool.or_eq_true, Bool.and_eq_false_iff, Bool.or_eq_false_iff, Bd.l]
  refine ⟨fun h => ?_, fun h1 => ?_⟩
  · intro β s' _ _
    rw [Bd.unrank, if_neg (by omega)]; rfl
  intro β s1 _ _
  refine ⟨_, count_ct s s1, ?_⟩
  rintro v s' hs rfl
  refine ⟨[s.cnt], [], [], rfl, rfl, rfl, rfl, rfl, ?_⟩
  simp only [VC, IE.den, BE.den, SV.den, SV.dens, Env.push, Env.ext, List.getD_cons_zero, List.getD_cons_succ, List.cons_append, List.nil_append, List.append_assoc, List.map_cons, List.map_nil, ltB_true, leB_true, eqB_true, ltB_false, leB_false, eqB_false, Bool.not_eq_true', Bool.not_eq_false', Bool.and_eq_true, Bool.or_eq_true, Bool.and_eq_false_iff, Bool.or_eq_false_iff]
  refine ⟨fun h => ?_, fun h2 => ?_⟩
  · intro β s' _ _
    rw [Bd.unrank, if_neg (by omega)]; rfl
  have k1 := Bd.ok_of_cnt (s := s) (by omega)
  unfold Bd.Ok at k1
  have d1 := tdivB (x := n) (y := s.f + 1) (by omega) (by omega)
  have d2 := tdivB (x := n.tdiv (s.f + 1)) (y := s.e + 1) (by omega) (by omega)
  have d3 := tdivB (x := (n.tdiv (s.f + 1)).tdiv (s.e + 1)) (y := s.d + 1) (by omega) (by omega)
  have d4 := tdivB (x := ((n.tdiv (s.f + 1)).tdiv (s.e + 1)).tdiv (s.d + 1)) (y := s.c + 1) (by omega) (by omega)
  have d5 := tdivB (x := (((n.tdiv (s.f + 1)).tdiv (s.e + 1)).tdiv (s.d + 1)).tdiv (s.c + 1)) (y := s.b + 1) (by omega) (by omega)
  have d6 := tdivB (x := ((((n.tdiv (s.f + 1)).tdiv (s.e + 1)).tdiv (s.d + 1)).tdiv (s.c + 1)).tdiv (s.b + 1)) (y := s.a + 1) (by omega) (by omega)
  iterate 30 (refine ⟨by omega, fun _ => ?_⟩)
  intro β s' _ _
  rw [Bd.unrank, if_pos (by omega)]; rfl

def o_cost : Out :=
  (.need (.and (.le (.l (-9223372036854775808)) (.mul (.a 0) (.a 6))) (.le (.mul (.a 0) (.a 6)) (.l 9223372036854775807)))
  (.need (.and (.le (.l (-9223372036854775808)) (.mul (.a 0) (.a 6))) (.le (.mul (.a 0) (.a 6)) (.l 9223372036854775807)))
  (.need (.and (.le (.l (-9223372036854775808)) (.mul (.a 1) (.a 7))) (.le (.mul (.a 1) (.a 7)) (.l 9223372036854775807)))
  (.need (.and (.le (.l (-9223372036854775808)) (.add (.mul (.a 0) (.a 6)) (.mul (.a 1) (.a 7)))) (.le (.add (.mul (.a 0) (.a 6)) (.mul (.a 1) (.a 7))) (.l 9223372036854775807)))
  (.need (.and (.le (.l (-9223372036854775808)) (.mul (.a 2) (.a 8))) (.le (.mul (.a 2) (.a 8)) (.l 9223372036854775807)))
  (.need (.and (.le (.l (-9223372036854775808)) (.add (.add (.mul (.a 0) (.a 6)) (.mul (.a 1) (.a 7))) (.mul (.a 2) (.a 8)))) (.le (.add (.add (.mul (.a 0) (.a 6)) (.mul (.a 1) (.a 7))) (.mul (.a 2) (.a 8))) (.l 9223372036854775807)))
  (.need (.and (.le (.l (-9223372036854775808)) (.mul (.a 3) (.a 9))) (.le (.mul (.a 3) (.a 9)) (.l 9223372036854775807)))
  (.need (.and (.le (.l (-9223372036854775808)) (.add (.add (.add (.mul (.a 0) (.a 6)) (.mul (.a 1) (.a 7))) (.mul (.a 2) (.a 8))) (.mul (.a 3) (.a 9)))) (.le (.add (.add (.add (.mul (.a 0) (.a 6)) (.mul (.a 1) (.a 7))) (.mul (.a 2) (.a 8))) (.mul (.a 3) (.a 9))) (.l 9223372036854775807)))
  (.need (.and (.le (.l (-9223372036854775808)) (.mul (.a 4) (.a 10))) (.le (.mul (.a 4) (.a 10)) (.l 9223372036854775807)))
  (.need (.and (.le (.l (-9223372036854775808)) (.add (.add (.add (.add (.mul (.a 0) (.a 6)) (.mul (.a 1) (.a 7))) (.mul (.a 2) (.a 8))) (.mul (.a 3) (.a 9))) (.mul (.a 4) (.a 10)))) (.le (.add (.add (.add (.add (.mul (.a 0) (.a 6)) (.mul (.a 1) (.a 7))) (.mul (.a 2) (.a 8))) (.mul (.a 3) (.a 9))) (.mul (.a 4) (.a 10))) (.l 9223372036854775807)))
  (.need (.and (.le (.l (-9223372036854775808)) (.mul (.a 5) (.a 11))) (.le (.mul (.a 5) (.a 11)) (.l 9223372036854775807)))
  (.need (.and (.le (.l (-9223372036854775808)) (.add (.add (.add (.add (.add (.mul (.a 0) (.a 6)) (.mul (.a 1) (.a 7))) (.mul (.a 2) (.a 8))) (.mul (.a 3) (.a 9))) (.mul (.a 4) (.a 10))) (.mul (.a 5) (.a 11)))) (.le (.add (.add (.add (.add (.add (.mul (.a 0) (.a 6)) (.mul (.a 1) (.a 7))) (.mul (.a 2) (.a 8))) (.mul (.a 3) (.a 9))) (.mul (.a 4) (.a 10))) (.mul (.a 5) (.a 11))) (.l 9223372036854775807)))
  (.ret (.int .i64 (.add (.add (.add (.add (.add (.mul (.a 0) (.a 6)) (.mul (.a 1) (.a 7))) (.mul (.a 2) (.a 8))) (.mul (.a 3) (.a 9))) (.mul (.a 4) (.a 10))) (.mul (.a 5) (.a 11)))) [])))))))))))))
theorem o_cost_eq : run (cx true [] []) (fnOf Try.f33) 5000 (startCfg Try.f33.ntmps [b6 0, b6 6] 12 0 0) = o_cost := by kernel_rfl
theorem o_cost_ct {Q : Value → Hp → Prop} {s : Hp} (i : List Int) (b : List Bool) (v : List Value) (hi : i.length = 12) (hb : b.length = 0) (hv : v.length = 0) (hok : v.all fineV = true)
    (h : ∀ w0, VC Try.prog Q (Go.Sx.Reach Try.prog 33 (Ret Q s w0) (fnOf Try.f33).body w0 s) o_cost ⟨i, b, v, []⟩ s) : Ct Try.prog 33 (SV.dens ⟨i, b, v, []⟩ id [b6 0, b6 6]) s Q := by
  refine ct_run (fn := fnOf Try.f33) (progOk true [] []) Try.func33 rfl rfl 5000 (fun x hx => List.all_eq_true.1 hok x hx) rfl (fun w0 => ?_)
  rw [hi, hb, hv, o_cost_eq]
  exact h w0

theorem cost_ct (p b : Bd) (s : Hp) (hp : Small 1000000000 p) (hb : Small 1000000 b) : Ct Try.prog 33 [p.v, b.v] s (fun v _ => v = .int .i64 (p.cost b)) := by
  refine o_cost_ct (p.l ++ b.l) [] [] rfl rfl rfl rfl (fun w0 => ?_)
  simp only [o_cost, VC, IE.den, BE.den, SV.den, SV.dens, Env.push, Env.ext, List.getD_cons_zero, List.getD_cons_succ, List.cons_append, List.nil_append, List.append_assoc, List.map_cons, List.map_nil, ltB_true, leB_true, eqB_true, ltB_false, leB_false, eqB_false, Bool.not_eq_true', Bool.not_eq_false', Bool.and_eq_true, Bool.or_eq_true, Bool.and_eq_false_iff, Bool.or_eq_false_iff, Bd.l]
  unfold Small Bd.all at hb hp
  have m1 := mulS (x := p.a) (y := b.a) (A := 1000000000) (B := 1000000) (by omega) (by omega)
  have m2 := mulS (x := p.b) (y := b.b) (A := 1000000000) (B := 1000000) (by omega) (by omega)
  have m3 := mulS (x := p.c) (y := b.c) (A := 1000000000) (B := 1000000) (by omega) (by omega)
  have m4 := mulS (x := p.d) (y := b.d) (A := 1000000000) (B := 1000000) (by omega) (by omega)
  have m5 := mulS (x := p.e) (y := b.e) (A := 1000000000) (B := 1000000) (by omega) (by omega)
  have m6 := mulS (x := p.f) (y := b.f) (A := 1000000000) (B := 1000000) (by omega) (by omega)
  repeat' (first | (refine ⟨by omega, fun _ => ?_⟩) | (intro β s' _ _))
  rfl

def o_lives : Out :=
  (.call 9 [(.agg [(.int .i64 (.l 2)), (.int .i64 (.l 2)), (.int .i64 (.l 0)), (.int .i64 (.l 0)), (.int .i64 (.l 0)), (.int .i64 (.l 0))]), (.agg [(.int .i64 (.l 1)), (.int .i64 (.l 2)), (.int .i64 (.l 0)), (.int .i64 (.l 0)), (.int .i64 (.l 0)), (.int .i64 (.l 0))])] [] (.tup [(.int .i64 (.a 0)), (.int .i64 (.a 1))]) 2 0 0
  (.call 14 [(.agg [(.int .i64 (.l 2)), (.int .i64 (.l 2)), (.int .i64 (.l 0)), (.int .i64 (.l 0)), (.int .i64 (.l 0)), (.int .i64 (.l 0))]), (.int .i64 (.l 5))] [] (.tup [(.agg [(.int .i64 (.a 2)), (.int .i64 (.a 3)), (.int .i64 (.a 4)), (.int .i64 (.a 5)), (.int .i64 (.a 6)), (.int .i64 (.a 7))]), (.int .i64 (.a 8))]) 7 0 0
  (.ite (.eq (.a 1) (.l 0))
  (.ite (.eq (.a 0) (.l 5))
  (.ite (.eq (.a 8) (.l 0))
  (.ite (.and (.eq (.a 2) (.l 1)) (.and (.eq (.a 3) (.l 2)) (.and (.eq (.a 4) (.l 0)) (.and (.eq (.a 5) (.l 0)) (.and (.eq (.a 6) (.l 0)) (.eq (.a 7) (.l 0)))))))
  (.call 11 [(.agg [(.int .i64 (.l 2)), (.int .i64 (.l 2)), (.int .i64 (.l 0)), (.int .i64 (.l 0)), (.int .i64 (.l 0)), (.int .i64 (.l 0))])] [] (.int .i64 (.a 9)) 1 0 0
  (.ite (.eq (.a 9) (.l 9))
  (.call 31 [(.agg [(.int .i64 (.l 1)), (.int .i64 (.l 2)), (.int .i64 (.l 0)), (.int .i64 (.l 0)), (.int .i64 (.l 0)), (.int .i64 (.l 0))])] [] (.int .i64 (.a 10)) 1 0 0
  (.ite (.eq (.a 10) (.l 3))
  (.call 33 [(.agg [(.int .i64 (.l 10)), (.int .i64 (.l 3)), (.int .i64 (.l 0)), (.int .i64 (.l 0)), (.int .i64 (.l 0)), (.int .i64 (.l 0))]), (.agg [(.int .i64 (.l 1)), (.int .i64 (.l 2)), (.int .i64 (.l 0)), (.int .i64 (.l 0)), (.int .i64 (.l 0)), (.int .i64 (.l 0))])] [] (.int .i64 (.a 11)) 1 0 0
  (.ite (.eq (.a 11) (.l 16))
  (.call 23 [(.agg [(.int .i64 (.l 1)), (.int .i64 (.l 2)), (.int .i64 (.l 0)), (.int .i64 (.l 0)), (.int .i64 (.l 0)), (.int .i64 (.l 0))]), (.agg [(.int .i64 (.l 2)), (.int .i64 (.l 2)), (.int .i64 (.l 0)), (.int .i64 (.l 0)), (.int .i64 (.l 0)), (.int .i64 (.l 0))])] [] (.bool (.a 0)) 0 1 0
  (.ite (.a 0)
  (.call 17 [(.agg [(.int .i64 (.l 5)), (.int .i64 (.l 0)), (.int .i64 (.l 0)), (.int .i64 (.l 0)), (.int .i64 (.l 0)), (.int .i64 (.l 0))])] [] (.int .i64 (.a 12)) 1 0 0
  (.ite (.eq (.a 12) (.l 4))
  (.call 16 [(.agg [(.int .i64 (.l 0)), (.int .i64 (.l 4)), (.int .i64 (.l 0)), (.int .i64 (.l 0)), (.int .i64 (.l 0)), (.int .i64 (.l 0))]), (.agg [(.int .i64 (.l 1)), (.int .i64 (.l 0)), (.int .i64 (.l 0)), (.int .i64 (.l 0)), (.int .i64 (.l 0)), (.int .i64 (.l 0))])] [] (.int .i64 (.a 13)) 1 0 0
  (.ret (.bool (.eq (.a 13) (.l (-1)))) []))
  (.ret (.bool (.t false)) [])))
  (.ret (.bool (.t false)) [])))
  (.ret (.bool (.t false)) [])))
  (.ret (.bool (.t false)) [])))
  (.ret (.bool (.t false)) [])))
  (.ret (.bool (.t false)) []))
  (.ret (.bool (.t false)) []))
  (.ret (.bool (.t false)) []))
  (.ret (.bool (.t false)) []))))
theorem o_lives_eq : run (cx true [] []) (fnOf Try.f13) 5000 (startCfg Try.f13.ntmps [] 0 0 0) = o_lives := by kernel_rfl
theorem o_lives_ct {Q : Value → Hp → Prop} {s : Hp} (i : List Int) (b : List Bool) (v : List Value) (hi : i.length = 0) (hb : b.length = 0) (hv : v.length = 0) (hok : v.all fineV = true)
    (h : ∀ w0, VC Try.prog Q (Go.Sx.Reach Try.prog 13 (Ret Q s w0) (fnOf Try.f13).body w0 s) o_lives ⟨i, b, v, []⟩ s) : Ct Try.prog 13 (SV.dens ⟨i, b, v, []⟩ id []) s Q := by
  refine ct_run (fn := fnOf Try.f13) (progOk true [] []) Try.func13 rfl rfl 5000 (fun x hx => List.all_eq_true.1 hok x hx) rfl (fun w0 => ?_)
  rw [hi, hb, hv, o_lives_eq]
  exact h w0

theorem lives_ct (s : Hp) : Ct Try.prog 13 [] s (fun v _ => v = .bool true) := by
  refine o_lives_ct [] [] [] rfl rfl rfl rfl (fun w0 => ?_)
  simp only [o_lives, VC, IE.den, BE.den, SV.den, SV.dens, Env.push, Env.ext, List.getD_cons_zero, List.getD_cons_succ, List.cons_append, List.nil_append, List.append_assoc, List.map_cons, List.map_nil, ltB_true, leB_true, eqB_true, ltB_false, leB_false, eqB_false, Bool.not_eq_true', Bool.not_eq_false', Bool.and_eq_true, Bool.or_eq_true, Bool.and_eq_false_iff, Bool.or_eq_false_iff]
  intro β s1 _ _
  refine ⟨_, rank_ct ⟨2, 2, 0, 0, 0, 0⟩ ⟨1, 2, 0, 0, 0, 0⟩ s1, ?_⟩
  rintro v s' hs rfl
  refine ⟨[5, 0], [], [], rfl, rfl, rfl, rfl, rfl, ?_⟩
  simp only [VC, IE.den, BE.den, SV.den, SV.dens, Env.push, Env.ext, List.getD_cons_zero, List.getD_cons_succ, List.cons_append, List.nil_append, List.append_assoc, List.map_cons, List.map_nil, ltB_true, leB_true, eqB_true, ltB_false, leB_false, eqB_false, Bool.not_eq_true', Bool.not_eq_false', Bool.and_eq_true, Bool.or_eq_true, Bool.and_eq_false_iff, Bool.or_eq_false_iff]
  intro β s1 _ _
  refine ⟨_, unrank_ct ⟨2, 2, 0, 0, 0, 0⟩ 5 (by omega) s1, ?_⟩
  rintro v s' hs rfl
  refine ⟨[1, 2, 0, 0, 0, 0, 0], [], [], rfl, rfl, rfl, rfl, rfl, ?_⟩
  simp only [VC, IE.den, BE.den, SV.den, SV.dens, Env.push, Env.ext, List.getD_cons_zero, List.getD_cons_succ, List.cons_append, List.nil_append, List.append_assoc, List.map_cons, List.map_nil, ltB_true, leB_true, eqB_true, ltB_false, leB_false, eqB_false, Bool.not_eq_true', Bool.not_eq_false', Bool.and_eq_true, Bool.or_eq_true, Bool.and_eq_false_iff, Bool.or_eq_false_iff]
  refine ⟨fun _ => ?_, fun h => by simp at h⟩
  refine ⟨fun _ => ?_, fun h => by simp at h⟩
  refine ⟨fun _ => ?_, fun h => by simp at h⟩
  refine ⟨fun _ => ?_, fun h => by simp at h⟩
  intro β s1 _ _
  refine ⟨_, count_ct ⟨2, 2, 0, 0, 0, 0⟩ s1, ?_⟩
  rintro v s' hs rfl
  refine ⟨[9], [], [], rfl, rfl, rfl, rfl, rfl, ?_⟩
  simp only [VC, IE.den, BE.den, SV.den, SV.dens, Env.push, Env.ext, List.getD_cons_zero, List.getD_cons_succ, List.cons_append, List.nil_append, List.append_assoc, List.map_cons, List.map_nil, ltB_true, leB_true, eqB_true, ltB_false, leB_false, eqB_false, Bool.not_eq_true', Bool.not_eq_false', Bool.and_eq_true, Bool.or_eq_true, Bool.and_eq_false_iff, Bool.or_eq_false_iff]
  refine ⟨fun _ => ?_, fun h => by simp at h⟩
  intro β s1 _ _
  refine ⟨_, total_ct ⟨1, 2, 0, 0, 0, 0⟩ s1 (by simp [Small, Bd.all]), ?_⟩
  rintro v s' hs rfl
  refine ⟨[3], [], [], rfl, rfl, rfl, rfl, rfl, ?_⟩
  simp only [VC, IE.den, BE.den, SV.den, SV.dens, Env.push, Env.ext, List.getD_cons_zero, List.getD_cons_succ, List.cons_append, List.nil_append, List.append_assoc, List.map_cons, List.map_nil, ltB_true, leB_true, eqB_true, ltB_false, leB_false, eqB_false, Bool.not_eq_true', Bool.not_eq_false', Bool.and_eq_true, Bool.or_eq_true, Bool.and_eq_false_iff, Bool.or_eq_false_iff]
  refine ⟨fun _ => ?_, fun h => by simp at h⟩
  intro β s1 _ _
  refine ⟨_, cost_ct ⟨10, 3, 0, 0, 0, 0⟩ ⟨1, 2, 0, 0, 0, 0⟩ s1 (by simp [Small, Bd.all]) (by simp [Small, Bd.all]), ?_⟩
  rintro v s' hs rfl
  refine ⟨[16], [], [], rfl, rfl, rfl, rfl, rfl, ?_⟩
  simp only [VC, IE.den, BE.den, SV.den, SV.dens, Env.push, Env.ext, List.getD_cons_zero, List.getD_cons_succ, List.cons_append, List.nil_append, List.append_assoc, List.map_cons, List.map_nil, ltB_true, leB_true, eqB_true, ltB_false, leB_false, eqB_false, Bool.not_eq_true', Bool.not_eq_false', Bool.and_eq_true, Bool.or_eq_true, Bool.and_eq_false_iff, Bool.or_eq_false_iff]
  refine ⟨fun _ => ?_, fun h => by simp at h⟩
  intro β s1 _ _
  refine ⟨_, within_ct ⟨1, 2, 0, 0, 0, 0⟩ ⟨2, 2, 0, 0, 0, 0⟩ s1, ?_⟩
  rintro v s' hs rfl
  refine ⟨[], [true], [], rfl, rfl, rfl, rfl, rfl, ?_⟩
  simp only [VC, IE.den, BE.den, SV.den, SV.dens, Env.push, Env.ext, List.getD_cons_zero, List.getD_cons_succ, List.cons_append, List.nil_append, List.append_assoc, List.map_cons, List.map_nil, ltB_true, leB_true, eqB_true, ltB_false, leB_false, eqB_false, Bool.not_eq_true', Bool.not_eq_false', Bool.and_eq_true, Bool.or_eq_true, Bool.and_eq_false_iff, Bool.or_eq_false_iff]
  refine ⟨fun _ => ?_, fun h => by simp at h⟩
  intro β s1 _ _
  refine ⟨_, check_ct ⟨5, 0, 0, 0, 0, 0⟩ s1, ?_⟩
  rintro v s' hs rfl
  refine ⟨[4], [], [], rfl, rfl, rfl, rfl, rfl, ?_⟩
  simp only [VC, IE.den, BE.den, SV.den, SV.dens, Env.push, Env.ext, List.getD_cons_zero, List.getD_cons_succ, List.cons_append, List.nil_append, List.append_assoc, List.map_cons, List.map_nil, ltB_true, leB_true, eqB_true, ltB_false, leB_false, eqB_false, Bool.not_eq_true', Bool.not_eq_false', Bool.and_eq_true, Bool.or_eq_true, Bool.and_eq_false_iff, Bool.or_eq_false_iff]
  refine ⟨fun _ => ?_, fun h => by simp at h⟩
  intro β s1 _ _
  refine ⟨_, cmp_ct ⟨0, 4, 0, 0, 0, 0⟩ ⟨1, 0, 0, 0, 0, 0⟩ s1, ?_⟩
  rintro v s' hs rfl
  refine ⟨[-1], [], [], rfl, rfl, rfl, rfl, rfl, ?_⟩
  simp only [VC, IE.den, BE.den, SV.den, SV.dens, Env.push, Env.ext, List.getD_cons_zero, List.getD_cons_succ, List.cons_append, List.nil_append, List.append_assoc, List.map_cons, List.map_nil, ltB_true, leB_true, eqB_true, ltB_false, leB_false, eqB_false, Bool.not_eq_true', Bool.not_eq_false', Bool.and_eq_true, Bool.or_eq_true, Bool.and_eq_false_iff, Bool.or_eq_false_iff]
  intro β s' _ _
  rfl

end Go.Proofs.Ytfbhgmnbndlipaa
