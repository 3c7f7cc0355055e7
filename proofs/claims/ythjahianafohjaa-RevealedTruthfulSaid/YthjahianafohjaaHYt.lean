/- The functions of package bundle and of its reference: the plain ones. -/
import Derived.Test.YthjahianafohjaaHYTab
import Derived.Test.YthjahianafohjaaHYun
import Derived.Test.YthjahianafohjaaHSyc
import Derived.Test.YthjahianafohjaaHSyd
set_option linter.unusedSimpArgs false
set_option linter.unusedVariables false
set_option linter.unusedSimpArgs false
set_option linter.unusedVariables false
namespace Go.Proofs.YthjahianafohjaaY
open Go.Sy Go.Bun
def o_check : Out :=
 (.ite (.lt (.a 0) (.l 0))
 (.ret (.int .i64 (.l 4)) [])
 (.ite (.lt (.l 4) (.a 0))
 (.ret (.int .i64 (.l 4)) [])
 (.ite (.lt (.a 1) (.l 0))
 (.ret (.int .i64 (.l 4)) [])
 (.ite (.lt (.l 4) (.a 1))
 (.ret (.int .i64 (.l 4)) [])
 (.ite (.lt (.a 2) (.l 0))
 (.ret (.int .i64 (.l 4)) [])
 (.ite (.lt (.l 4) (.a 2))
 (.ret (.int .i64 (.l 4)) [])
 (.ite (.lt (.a 3) (.l 0))
 (.ret (.int .i64 (.l 4)) [])
 (.ite (.lt (.l 4) (.a 3))
 (.ret (.int .i64 (.l 4)) [])
 (.ite (.lt (.a 4) (.l 0))
 (.ret (.int .i64 (.l 4)) [])
 (.ite (.lt (.l 4) (.a 4))
 (.ret (.int .i64 (.l 4)) [])
 (.ite (.lt (.a 5) (.l 0))
 (.ret (.int .i64 (.l 4)) [])
 (.ite (.lt (.l 4) (.a 5))
 (.ret (.int .i64 (.l 4)) [])
 (.ret (.int .i64 (.l 0)) [])))))))))))))
theorem o_check_eq : run (cx true [] []) (fnOf Try.f55) 5000 (startCfg Try.f55.ntmps [b6 0] 6 0 0) = o_check := by kernel_rfl
theorem o_check_ct {Q : Value -> Hp -> Prop} {s : Hp} (i : List Int) (b : List Bool) (v : List Value) (hi : i.length = 6) (hb : b.length = 0) (hv : v.length = 0) (hok : v.all fineV = true)
  (h : ∀ w0, VC Try.prog Q (Go.Sy.Reach Try.prog 55 (Ret Q s w0) (fnOf Try.f55).body w0 s) o_check ⟨i, b, v, []⟩ s) : Ct Try.prog 55 (SV.dens ⟨i, b, v, []⟩ id [b6 0]) s Q := by
 refine ct_run (fn := fnOf Try.f55) (progOk true [] []) Try.func55 rfl rfl 5000 (fun x hx => List.all_eq_true.1 hok x hx) rfl (fun w0 => ?_)
 rw [hi, hb, hv, o_check_eq]
 exact h w0
theorem check_ct (b : Bd) (s : Hp) : Ct Try.prog 55 [b.v] s (fun v _ => v = .int .i64 b.check) := by
 refine o_check_ct b.l [] [] rfl rfl rfl rfl (fun w0 => ?_)
 simp only [o_check, VC, IE.den, BE.den, SV.den, SV.dens, Env.push, Env.ext, List.getD_cons_zero, List.getD_cons_succ, List.cons_append, List.nil_append, List.append_assoc, List.map_cons, List.map_nil, ltB_true, leB_true, eqB_true, ltB_false, leB_false, eqB_false, Bool.not_eq_true', Bool.not_eq_false', Bool.and_eq_true, Bool.or_eq_true, Bool.and_eq_false_iff, Bool.or_eq_false_iff, Bd.l]
 repeat' (first | (refine ⟨fun h => ?_, fun h => ?_⟩) | (intro β s' _ _))
 all_goals (unfold Bd.check; first | rw [if_pos (by unfold Bd.Ok; omega)] | rw [if_neg (by unfold Bd.Ok; omega)])
def o_meet : Out :=
 (.ret (.agg [(.int .i64 (.mn (.a 0) (.a 6))), (.int .i64 (.mn (.a 1) (.a 7))), (.int .i64 (.mn (.a 2) (.a 8))), (.int .i64 (.mn (.a 3) (.a 9))), (.int .i64 (.mn (.a 4) (.a 10))), (.int .i64 (.mn (.a 5) (.a 11)))]) [])
theorem o_meet_eq : run (cx true [] []) (fnOf Try.f87) 5000 (startCfg Try.f87.ntmps [b6 0, b6 6] 12 0 0) = o_meet := by kernel_rfl
theorem o_meet_ct {Q : Value -> Hp -> Prop} {s : Hp} (i : List Int) (b : List Bool) (v : List Value) (hi : i.length = 12) (hb : b.length = 0) (hv : v.length = 0) (hok : v.all fineV = true)
  (h : ∀ w0, VC Try.prog Q (Go.Sy.Reach Try.prog 87 (Ret Q s w0) (fnOf Try.f87).body w0 s) o_meet ⟨i, b, v, []⟩ s) : Ct Try.prog 87 (SV.dens ⟨i, b, v, []⟩ id [b6 0, b6 6]) s Q := by
 refine ct_run (fn := fnOf Try.f87) (progOk true [] []) Try.func87 rfl rfl 5000 (fun x hx => List.all_eq_true.1 hok x hx) rfl (fun w0 => ?_)
 rw [hi, hb, hv, o_meet_eq]
 exact h w0
theorem meet_ct (a b : Bd) (s : Hp) : Ct Try.prog 87 [a.v, b.v] s (fun v _ => v = (a.meet b).v) := by
 refine o_meet_ct (a.l ++ b.l) [] [] rfl rfl rfl rfl (fun w0 => ?_)
 simp only [o_meet, VC, IE.den, BE.den, SV.den, SV.dens, Env.push, Env.ext, List.getD_cons_zero, List.getD_cons_succ, List.cons_append, List.nil_append, List.append_assoc, List.map_cons, List.map_nil, ltB_true, leB_true, eqB_true, ltB_false, leB_false, eqB_false, Bool.not_eq_true', Bool.not_eq_false', Bool.and_eq_true, Bool.or_eq_true, Bool.and_eq_false_iff, Bool.or_eq_false_iff, Bd.l]
 intro β s' _ _
 rfl
def o_within : Out :=
 (.call 87 [(.agg [(.int .i64 (.a 0)), (.int .i64 (.a 1)), (.int .i64 (.a 2)), (.int .i64 (.a 3)), (.int .i64 (.a 4)), (.int .i64 (.a 5))]), (.agg [(.int .i64 (.a 6)), (.int .i64 (.a 7)), (.int .i64 (.a 8)), (.int .i64 (.a 9)), (.int .i64 (.a 10)), (.int .i64 (.a 11))])] [] (.agg [(.int .i64 (.a 12)), (.int .i64 (.a 13)), (.int .i64 (.a 14)), (.int .i64 (.a 15)), (.int .i64 (.a 16)), (.int .i64 (.a 17))]) 6 0 0
 (.ret (.bool (.and (.eq (.a 12) (.a 0)) (.and (.eq (.a 13) (.a 1)) (.and (.eq (.a 14) (.a 2)) (.and (.eq (.a 15) (.a 3)) (.and (.eq (.a 16) (.a 4)) (.eq (.a 17) (.a 5)))))))) []))
theorem o_within_eq : run (cx true [] []) (fnOf Try.f80) 5000 (startCfg Try.f80.ntmps [b6 0, b6 6] 12 0 0) = o_within := by kernel_rfl
theorem o_within_ct {Q : Value -> Hp -> Prop} {s : Hp} (i : List Int) (b : List Bool) (v : List Value) (hi : i.length = 12) (hb : b.length = 0) (hv : v.length = 0) (hok : v.all fineV = true)
  (h : ∀ w0, VC Try.prog Q (Go.Sy.Reach Try.prog 80 (Ret Q s w0) (fnOf Try.f80).body w0 s) o_within ⟨i, b, v, []⟩ s) : Ct Try.prog 80 (SV.dens ⟨i, b, v, []⟩ id [b6 0, b6 6]) s Q := by
 refine ct_run (fn := fnOf Try.f80) (progOk true [] []) Try.func80 rfl rfl 5000 (fun x hx => List.all_eq_true.1 hok x hx) rfl (fun w0 => ?_)
 rw [hi, hb, hv, o_within_eq]
 exact h w0
theorem within_ct (a b : Bd) (s : Hp) : Ct Try.prog 80 [a.v, b.v] s (fun v _ => v = .bool (decide (a.Le b))) := by
 refine o_within_ct (a.l ++ b.l) [] [] rfl rfl rfl rfl (fun w0 => ?_)
 simp only [o_within, VC, IE.den, BE.den, SV.den, SV.dens, Env.push, Env.ext, List.getD_cons_zero, List.getD_cons_succ, List.cons_append, List.nil_append, List.append_assoc, List.map_cons, List.map_nil, ltB_true, leB_true, eqB_true, ltB_false, leB_false, eqB_false, Bool.not_eq_true', Bool.not_eq_false', Bool.and_eq_true, Bool.or_eq_true, Bool.and_eq_false_iff, Bool.or_eq_false_iff, Bd.l]
 intro β s1 _ _
 refine ⟨_, meet_ct a b s1, ?_⟩
 rintro v s' hs rfl
 refine ⟨(a.meet b).l, [], [], rfl, rfl, rfl, rfl, rfl, ?_⟩
 simp only [VC, IE.den, BE.den, SV.den, SV.dens, Env.push, Env.ext, List.getD_cons_zero, List.getD_cons_succ, List.cons_append, List.nil_append, List.append_assoc, List.map_cons, List.map_nil, ltB_true, leB_true, eqB_true, ltB_false, leB_false, eqB_false, Bool.not_eq_true', Bool.not_eq_false', Bool.and_eq_true, Bool.or_eq_true, Bool.and_eq_false_iff, Bool.or_eq_false_iff, Bd.l, Bd.meet, Bd.map2]
 intro β s' _ _
 refine congrArg Value.bool ?_
 rw [Bool.eq_iff_iff, decide_eq_true_iff]
 show _ ↔ (a.a <= b.a /\ a.b <= b.b /\ a.c <= b.c /\ a.d <= b.d /\ a.e <= b.e /\ a.f <= b.f)
 simp only [Bool.and_eq_true, eqB_true, decide_eq_true_eq, mnI]
 constructor
 ·rintro ⟨h1, h2, h3, h4, h5, h6⟩
  split at h1 <;> split at h2 <;> split at h3 <;> split at h4 <;> split at h5 <;> split at h6 <;> omega
 ·rintro ⟨h1, h2, h3, h4, h5, h6⟩
  rw [if_neg (by omega), if_neg (by omega), if_neg (by omega), if_neg (by omega), if_neg (by omega), if_neg (by omega)]
  exact ⟨rfl, rfl, rfl, rfl, rfl, rfl⟩
def Small (n : Int) (x : Bd) : Prop := x.all fun q => -n <= q /\ q <= n
def o_count : Out :=
 (.call 55 [(.agg [(.int .i64 (.a 0)), (.int .i64 (.a 1)), (.int .i64 (.a 2)), (.int .i64 (.a 3)), (.int .i64 (.a 4)), (.int .i64 (.a 5))])] [] (.int .i64 (.a 6)) 1 0 0
 (.ite (.not (.eq (.a 6) (.l 0)))
 (.ret (.int .i64 (.l 0)) [])
 (.need (.and (.le (.l (-9223372036854775808)) (.add (.a 0) (.l 1))) (.le (.add (.a 0) (.l 1)) (.l 9223372036854775807)))
 (.need (.and (.le (.l (-9223372036854775808)) (.mul (.l 1) (.add (.a 0) (.l 1)))) (.le (.mul (.l 1) (.add (.a 0) (.l 1))) (.l 9223372036854775807)))
 (.need (.and (.le (.l (-9223372036854775808)) (.add (.a 1) (.l 1))) (.le (.add (.a 1) (.l 1)) (.l 9223372036854775807)))
 (.need (.and (.le (.l (-9223372036854775808)) (.mul (.mul (.l 1) (.add (.a 0) (.l 1))) (.add (.a 1) (.l 1)))) (.le (.mul (.mul (.l 1) (.add (.a 0) (.l 1))) (.add (.a 1) (.l 1))) (.l 9223372036854775807)))
 (.need (.and (.le (.l (-9223372036854775808)) (.add (.a 2) (.l 1))) (.le (.add (.a 2) (.l 1)) (.l 9223372036854775807)))
 (.need (.and (.le (.l (-9223372036854775808)) (.mul (.mul (.mul (.l 1) (.add (.a 0) (.l 1))) (.add (.a 1) (.l 1))) (.add (.a 2) (.l 1)))) (.le (.mul (.mul (.mul (.l 1) (.add (.a 0) (.l 1))) (.add (.a 1) (.l 1))) (.add (.a 2) (.l 1))) (.l 9223372036854775807)))
 (.need (.and (.le (.l (-9223372036854775808)) (.add (.a 3) (.l 1))) (.le (.add (.a 3) (.l 1)) (.l 9223372036854775807)))
 (.need (.and (.le (.l (-9223372036854775808)) (.mul (.mul (.mul (.mul (.l 1) (.add (.a 0) (.l 1))) (.add (.a 1) (.l 1))) (.add (.a 2) (.l 1))) (.add (.a 3) (.l 1)))) (.le (.mul (.mul (.mul (.mul (.l 1) (.add (.a 0) (.l 1))) (.add (.a 1) (.l 1))) (.add (.a 2) (.l 1))) (.add (.a 3) (.l 1))) (.l 9223372036854775807)))
 (.need (.and (.le (.l (-9223372036854775808)) (.add (.a 4) (.l 1))) (.le (.add (.a 4) (.l 1)) (.l 9223372036854775807)))
 (.need (.and (.le (.l (-9223372036854775808)) (.mul (.mul (.mul (.mul (.mul (.l 1) (.add (.a 0) (.l 1))) (.add (.a 1) (.l 1))) (.add (.a 2) (.l 1))) (.add (.a 3) (.l 1))) (.add (.a 4) (.l 1)))) (.le (.mul (.mul (.mul (.mul (.mul (.l 1) (.add (.a 0) (.l 1))) (.add (.a 1) (.l 1))) (.add (.a 2) (.l 1))) (.add (.a 3) (.l 1))) (.add (.a 4) (.l 1))) (.l 9223372036854775807)))
 (.need (.and (.le (.l (-9223372036854775808)) (.add (.a 5) (.l 1))) (.le (.add (.a 5) (.l 1)) (.l 9223372036854775807)))
 (.need (.and (.le (.l (-9223372036854775808)) (.mul (.mul (.mul (.mul (.mul (.mul (.l 1) (.add (.a 0) (.l 1))) (.add (.a 1) (.l 1))) (.add (.a 2) (.l 1))) (.add (.a 3) (.l 1))) (.add (.a 4) (.l 1))) (.add (.a 5) (.l 1)))) (.le (.mul (.mul (.mul (.mul (.mul (.mul (.l 1) (.add (.a 0) (.l 1))) (.add (.a 1) (.l 1))) (.add (.a 2) (.l 1))) (.add (.a 3) (.l 1))) (.add (.a 4) (.l 1))) (.add (.a 5) (.l 1))) (.l 9223372036854775807)))
 (.ite (.lt (.l 1024) (.mul (.mul (.mul (.mul (.mul (.mul (.l 1) (.add (.a 0) (.l 1))) (.add (.a 1) (.l 1))) (.add (.a 2) (.l 1))) (.add (.a 3) (.l 1))) (.add (.a 4) (.l 1))) (.add (.a 5) (.l 1))))
 (.ret (.int .i64 (.l 0)) [])
 (.ret (.int .i64 (.mul (.mul (.mul (.mul (.mul (.mul (.l 1) (.add (.a 0) (.l 1))) (.add (.a 1) (.l 1))) (.add (.a 2) (.l 1))) (.add (.a 3) (.l 1))) (.add (.a 4) (.l 1))) (.add (.a 5) (.l 1)))) []))))))))))))))))
theorem o_count_eq : run (cx true [] []) (fnOf Try.f76) 5000 (startCfg Try.f76.ntmps [b6 0] 6 0 0) = o_count := by kernel_rfl
theorem o_count_ct {Q : Value -> Hp -> Prop} {s : Hp} (i : List Int) (b : List Bool) (v : List Value) (hi : i.length = 6) (hb : b.length = 0) (hv : v.length = 0) (hok : v.all fineV = true)
  (h : ∀ w0, VC Try.prog Q (Go.Sy.Reach Try.prog 76 (Ret Q s w0) (fnOf Try.f76).body w0 s) o_count ⟨i, b, v, []⟩ s) : Ct Try.prog 76 (SV.dens ⟨i, b, v, []⟩ id [b6 0]) s Q := by
 refine ct_run (fn := fnOf Try.f76) (progOk true [] []) Try.func76 rfl rfl 5000 (fun x hx => List.all_eq_true.1 hok x hx) rfl (fun w0 => ?_)
 rw [hi, hb, hv, o_count_eq]
 exact h w0
set_option maxRecDepth 10000 in
theorem count_ct (b : Bd) (s : Hp) : Ct Try.prog 76 [b.v] s (fun v _ => v = .int .i64 b.cnt) := by
 refine o_count_ct b.l [] [] rfl rfl rfl rfl (fun w0 => ?_)
 simp only [o_count, VC, IE.den, BE.den, SV.den, SV.dens, Env.push, Env.ext, List.getD_cons_zero, List.getD_cons_succ, List.cons_append, List.nil_append, List.append_assoc, List.map_cons, List.map_nil, ltB_true, leB_true, eqB_true, ltB_false, leB_false, eqB_false, Bool.not_eq_true', Bool.not_eq_false', Bool.and_eq_true, Bool.or_eq_true, Bool.and_eq_false_iff, Bool.or_eq_false_iff, Bd.l]
 intro β s1 _ _
 refine ⟨_, check_ct b s1, ?_⟩
 rintro v s' hs rfl
 refine ⟨[b.check], [], [], rfl, rfl, rfl, rfl, rfl, ?_⟩
 simp only [VC, IE.den, BE.den, SV.den, SV.dens, Env.push, Env.ext, List.getD_cons_zero, List.getD_cons_succ, List.cons_append, List.nil_append, List.append_assoc, List.map_cons, List.map_nil, ltB_true, leB_true, eqB_true, ltB_false, leB_false, eqB_false, Bool.not_eq_true', Bool.not_eq_false', Bool.and_eq_true, Bool.or_eq_true, Bool.and_eq_false_iff, Bool.or_eq_false_iff, Bd.check_zero]
 refine ⟨fun h => ?_, fun h => ?_⟩
 ·intro β s' _ _
  rw [Bd.cnt, if_neg h]
 ·have h0 := h
  unfold Bd.Ok at h0
  have h2 := mulB (x := 1 * (b.a + 1)) (y := b.b + 1) (A := 5) (B := 5) (by omega) (by omega)
  have h3 := mulB (x := 1 * (b.a + 1) * (b.b + 1)) (y := b.c + 1) (A := 25) (B := 5) (by omega) (by omega)
  have h4 := mulB (x := 1 * (b.a + 1) * (b.b + 1) * (b.c + 1)) (y := b.d + 1) (A := 125) (B := 5) (by omega) (by omega)
  have h5 := mulB (x := 1 * (b.a + 1) * (b.b + 1) * (b.c + 1) * (b.d + 1)) (y := b.e + 1) (A := 625) (B := 5) (by omega) (by omega)
  have h6 := mulB (x := 1 * (b.a + 1) * (b.b + 1) * (b.c + 1) * (b.d + 1) * (b.e + 1)) (y := b.f + 1) (A := 3125) (B := 5) (by omega) (by omega)
  iterate 12 (refine ⟨by omega, fun _ => ?_⟩)
  refine ⟨fun hl => ?_, fun hl => ?_⟩ <;> intro β s' _ _
  ·rw [Bd.cnt, if_pos h, if_pos (show 1024 < b.prod from hl)]
  ·rw [Bd.cnt, if_pos h, if_neg (show ¬ 1024 < b.prod from hl)]; rfl
def o_cost : Out :=
 (.need (.and (.le (.l (-9223372036854775808)) (.mul (.a 0) (.a 6))) (.le (.mul (.a 0) (.a 6)) (.l 9223372036854775807)))
 (.need (.and (.le (.l (-9223372036854775808)) (.mul (.a 0) (.a 6))) (.le (.mul (.a 0) (.a 6)) (.l 9223372036854775807)))
 (.need (.and (.le (.l (-9223372036854775808)) (.mul (.a 1) (.a 7))) (.le (.mul (.a 1) (.a 7)) (.l 9223372036854775807)))
 (.need (.and (.le (.l (-9223372036854775808)) (.add (.mul (.a 0) (.a 6)) (.mul (.a 1) (.a 7)))) (.le (.add (.mul (.a 0) (.a 6)) (.mul (.a 1) (.a 7))) (.l 9223372036854775807)))
 (.need (.and (.le (.l (-9223372036854775808)) (.mul (.a 2) (.a 8))) (.le (.mul (.a 2) (.a 8)) (.l 9223372036854775807)))
 (.need (.and (.le (.l (-9223372036854775808)) (.add (.add (.mul (.a 0) (.a 6)) (.mul (.a 1) (.a 7))) (.mul (.a 2) (.a 8)))) (.le (.add (.add (.mul (.a 0) (.a 6)) (.mul (.a 1) (.a 7))) (.mul (.a 2) (.a 8))) (.l 9223372036854775807)))
 (.need (.and (.le (.l (-9223372036854775808)) (.mul (.a 3) (.a 9))) (.le (.mul (.a 3) (.a 9)) (.l 9223372036854775807)))
 (.need (.and (.le (.l (-9223372036854775808)) (.add (.add (.add (.mul (.a 0) (.a 6)) (.mul (.a 1) (.a 7))) (.mul (.a 2) (.a 8))) (.mul (.a 3) (.a 9)))) (.le (.add (.add (.add (.mul (.a 0) (.a 6)) (.mul (.a 1) (.a 7))) (.mul (.a 2) (.a 8))) (.mul (.a 3) (.a 9))) (.l 9223372036854775807)))
 (.need (.and (.le (.l (-9223372036854775808)) (.mul (.a 4) (.a 10))) (.le (.mul (.a 4) (.a 10)) (.l 9223372036854775807)))
 (.need (.and (.le (.l (-9223372036854775808)) (.add (.add (.add (.add (.mul (.a 0) (.a 6)) (.mul (.a 1) (.a 7))) (.mul (.a 2) (.a 8))) (.mul (.a 3) (.a 9))) (.mul (.a 4) (.a 10)))) (.le (.add (.add (.add (.add (.mul (.a 0) (.a 6)) (.mul (.a 1) (.a 7))) (.mul (.a 2) (.a 8))) (.mul (.a 3) (.a 9))) (.mul (.a 4) (.a 10))) (.l 9223372036854775807)))
 (.need (.and (.le (.l (-9223372036854775808)) (.mul (.a 5) (.a 11))) (.le (.mul (.a 5) (.a 11)) (.l 9223372036854775807)))
 (.need (.and (.le (.l (-9223372036854775808)) (.add (.add (.add (.add (.add (.mul (.a 0) (.a 6)) (.mul (.a 1) (.a 7))) (.mul (.a 2) (.a 8))) (.mul (.a 3) (.a 9))) (.mul (.a 4) (.a 10))) (.mul (.a 5) (.a 11)))) (.le (.add (.add (.add (.add (.add (.mul (.a 0) (.a 6)) (.mul (.a 1) (.a 7))) (.mul (.a 2) (.a 8))) (.mul (.a 3) (.a 9))) (.mul (.a 4) (.a 10))) (.mul (.a 5) (.a 11))) (.l 9223372036854775807)))
 (.ret (.int .i64 (.add (.add (.add (.add (.add (.mul (.a 0) (.a 6)) (.mul (.a 1) (.a 7))) (.mul (.a 2) (.a 8))) (.mul (.a 3) (.a 9))) (.mul (.a 4) (.a 10))) (.mul (.a 5) (.a 11)))) [])))))))))))))
theorem o_cost_eq : run (cx true [] []) (fnOf Try.f41) 5000 (startCfg Try.f41.ntmps [b6 0, b6 6] 12 0 0) = o_cost := by kernel_rfl
theorem o_cost_ct {Q : Value -> Hp -> Prop} {s : Hp} (i : List Int) (b : List Bool) (v : List Value) (hi : i.length = 12) (hb : b.length = 0) (hv : v.length = 0) (hok : v.all fineV = true)
  (h : ∀ w0, VC Try.prog Q (Go.Sy.Reach Try.prog 41 (Ret Q s w0) (fnOf Try.f41).body w0 s) o_cost ⟨i, b, v, []⟩ s) : Ct Try.prog 41 (SV.dens ⟨i, b, v, []⟩ id [b6 0, b6 6]) s Q := by
 refine ct_run (fn := fnOf Try.f41) (progOk true [] []) Try.func41 rfl rfl 5000 (fun x hx => List.all_eq_true.1 hok x hx) rfl (fun w0 => ?_)
 rw [hi, hb, hv, o_cost_eq]
 exact h w0
theorem cost_ct (p b : Bd) (s : Hp) (hp : Small 1000000000 p) (hb : Small 1000000 b) : Ct Try.prog 41 [p.v, b.v] s (fun v _ => v = .int .i64 (p.cost b)) := by
 refine o_cost_ct (p.l ++ b.l) [] [] rfl rfl rfl rfl (fun w0 => ?_)
 simp only [o_cost, VC, IE.den, BE.den, SV.den, SV.dens, Env.push, Env.ext, List.getD_cons_zero, List.getD_cons_succ, List.cons_append, List.nil_append, List.append_assoc, List.map_cons, List.map_nil, ltB_true, leB_true, eqB_true, ltB_false, leB_false, eqB_false, Bool.not_eq_true', Bool.not_eq_false', Bool.and_eq_true, Bool.or_eq_true, Bool.and_eq_false_iff, Bool.or_eq_false_iff, Bd.l]
 unfold Small Bd.all at hb hp
 have m1 := mulS (x := p.a) (y := b.a) (A := 1000000000) (B := 1000000) (by omega) (by omega)
 have m2 := mulS (x := p.b) (y := b.b) (A := 1000000000) (B := 1000000) (by omega) (by omega)
 have m3 := mulS (x := p.c) (y := b.c) (A := 1000000000) (B := 1000000) (by omega) (by omega)
 have m4 := mulS (x := p.d) (y := b.d) (A := 1000000000) (B := 1000000) (by omega) (by omega)
 have m5 := mulS (x := p.e) (y := b.e) (A := 1000000000) (B := 1000000) (by omega) (by omega)
 have m6 := mulS (x := p.f) (y := b.f) (A := 1000000000) (B := 1000000) (by omega) (by omega)
 repeat' (first | (refine ⟨by omega, fun _ => ?_⟩) | (intro β s' _ _))
 rfl
end Go.Proofs.YthjahianafohjaaY
set_option linter.unusedSimpArgs false
set_option linter.unusedVariables false
namespace Go.Proofs.YthjahianafohjaaY
open Go.Sy Go.Bun
end Go.Proofs.YthjahianafohjaaY
set_option linter.unusedSimpArgs false
set_option linter.unusedVariables false
namespace Go.Proofs.YthjahianafohjaaY
open Go.Sy Go.Bun
def o_valid : Out :=
 (.ite (.lt (.a 0) (.l 0))
 (.ret (.bool (.t false)) [])
 (.ite (.lt (.l 1000000) (.a 0))
 (.ret (.bool (.t false)) [])
 (.ite (.lt (.a 1) (.l 0))
 (.ret (.bool (.t false)) [])
 (.ite (.lt (.l 1000000) (.a 1))
 (.ret (.bool (.t false)) [])
 (.ite (.lt (.a 2) (.l 0))
 (.ret (.bool (.t false)) [])
 (.ite (.lt (.l 1000000) (.a 2))
 (.ret (.bool (.t false)) [])
 (.ite (.lt (.a 3) (.l 0))
 (.ret (.bool (.t false)) [])
 (.ite (.lt (.l 1000000) (.a 3))
 (.ret (.bool (.t false)) [])
 (.ite (.lt (.a 4) (.l 0))
 (.ret (.bool (.t false)) [])
 (.ite (.lt (.l 1000000) (.a 4))
 (.ret (.bool (.t false)) [])
 (.ite (.lt (.a 5) (.l 0))
 (.ret (.bool (.t false)) [])
 (.ite (.lt (.l 1000000) (.a 5))
 (.ret (.bool (.t false)) [])
 (.ret (.bool (.t true)) [])))))))))))))
theorem o_valid_eq : run (cx true [] []) (fnOf Try.f68) 5000 (startCfg Try.f68.ntmps [b6 0] 6 0 0) = o_valid := by kernel_rfl
theorem o_valid_ct {Q : Value -> Hp -> Prop} {s : Hp} (i : List Int) (b : List Bool) (v : List Value) (hi : i.length = 6) (hb : b.length = 0) (hv : v.length = 0) (hok : v.all fineV = true)
  (h : ∀ w0, VC Try.prog Q (Go.Sy.Reach Try.prog 68 (Ret Q s w0) (fnOf Try.f68).body w0 s) o_valid ⟨i, b, v, []⟩ s) : Ct Try.prog 68 (SV.dens ⟨i, b, v, []⟩ id [b6 0]) s Q := by
 refine ct_run (fn := fnOf Try.f68) (progOk true [] []) Try.func68 rfl rfl 5000 (fun x hx => List.all_eq_true.1 hok x hx) rfl (fun w0 => ?_)
 rw [hi, hb, hv, o_valid_eq]
 exact h w0
theorem valid_ct (p : Bd) (s : Hp) : Ct Try.prog 68 [p.v] s (fun v _ => v = .bool (decide (pok p))) := by
 refine o_valid_ct p.l [] [] rfl rfl rfl rfl (fun w0 => ?_)
 simp only [o_valid, VC, IE.den, BE.den, SV.den, SV.dens, Env.push, Env.ext, List.getD_cons_zero, List.getD_cons_succ, List.cons_append, List.nil_append, List.append_assoc, List.map_cons, List.map_nil, ltB_true, leB_true, eqB_true, ltB_false, leB_false, eqB_false, Bool.not_eq_true', Bool.not_eq_false', Bool.and_eq_true, Bool.or_eq_true, Bool.and_eq_false_iff, Bool.or_eq_false_iff, Bd.l]
 repeat' (first | (refine ⟨fun h => ?_, fun h => ?_⟩) | (intro β s' _ _))
 all_goals first
  | (refine congrArg Value.bool (Eq.symm (decide_eq_false ?_)); unfold pok Bd.all; omega)
  | (refine congrArg Value.bool (Eq.symm (decide_eq_true ?_)); unfold pok Bd.all; omega)
theorem pok_small {p : Bd} (h : pok p) : Small 1000000000 p := by
 unfold pok Bd.all at h; unfold Small Bd.all; omega
theorem ok_small {b : Bd} (h : b.Ok) : Small 1000000 b := by
 unfold Bd.Ok at h; unfold Small Bd.all; omega
abbrev OfIn (s : Hp) (v : Value) (L : List Of) : Prop := SliceIn s 8 v (L.map Of.cs)
def cn_o : Out :=
 (.need (.is 0 0)
 (.stop { todo := [(.code [false, false, true, false, true, true]), (.inLoop [false, false, true, false, true, true]), (.inBlock 0), (.code [true, true, true])], sl := [(.va 0), .undef, .nilS, .nilS, .undef, .undef, (.va 0), (.int .i64 (.slen 0)), (.int .i64 (.l 0)), .undef, .undef, .undef, .undef, .undef, .undef, .undef, .undef, .undef, .undef, .undef, .undef, .undef, .undef, .undef, .undef, .undef, .undef, .undef, .undef, .undef, .undef, .undef], H := [], ni := 0, nb := 0, nv := 1, nj := 0 }))
theorem cn_o_eq : run (cx true [[false, false, true, false, true, true]] []) (fnOf Try.f70) 5000 (startCfg Try.f70.ntmps [.va 0] 0 0 1) = cn_o := by kernel_rfl
theorem cn_o_ct {Q : Value -> Hp -> Prop} {s : Hp} (i : List Int) (b : List Bool) (v : List Value) (hi : i.length = 0) (hb : b.length = 0) (hv : v.length = 1) (hok : v.all fineV = true)
  (h : ∀ w0, VC Try.prog Q (Go.Sy.Reach Try.prog 70 (Ret Q s w0) (fnOf Try.f70).body w0 s) cn_o ⟨i, b, v, []⟩ s) : Ct Try.prog 70 (SV.dens ⟨i, b, v, []⟩ id [.va 0]) s Q := by
 refine ct_run (fn := fnOf Try.f70) (progOk true [[false, false, true, false, true, true]] []) Try.func70 rfl rfl 5000 (fun x hx => List.all_eq_true.1 hok x hx) rfl (fun w0 => ?_)
 rw [hi, hb, hv, cn_o_eq]
 exact h w0
def cn_a_0 : Asg :=
 ⟨[(.slen 0), (.l 0)], [], [(.va 0), .nilS], [.undef, .undef, .undef, .undef, .undef, .undef, .undef, .undef, .undef, .undef, .undef, .undef, .undef, .undef, .undef, .undef, .undef, .undef, .undef, .undef, .undef, .undef, .undef]⟩
def cn_p0 : Cfg :=
 { todo := [(.code [false, false, true, false, true, true]), (.inLoop [false, false, true, false, true, true]), (.inBlock 0), (.code [true, true, true])], sl := [(.va 0), .undef, .nilS, (.va 1), .undef, (.junk 0), (.va 0), (.int .i64 (.a 0)), (.int .i64 (.a 1)), (.junk 1), (.junk 2), (.junk 3), (.junk 4), (.junk 5), (.junk 6), (.junk 7), (.junk 8), (.junk 9), (.junk 10), (.junk 11), (.junk 12), (.junk 13), (.junk 14), (.junk 15), (.junk 16), (.junk 17), (.junk 18), (.junk 19), (.junk 20), (.junk 21), (.junk 22), .undef], H := [(.row 1 113 8)], ni := 2, nb := 0, nv := 2, nj := 23 }
def cn_o0 : Out :=
 (.ite (.lt (.a 1) (.a 0))
 (.need (.and (.le (.l 0) (.a 1)) (.lt (.a 1) (.slen 0)))
 (.load (.ea 0 (.a 1) 8 0) [(.int .i64 (.a 2)), (.int .i64 (.a 3)), (.int .i64 (.a 4)), (.int .i64 (.a 5)), (.int .i64 (.a 6)), (.int .i64 (.a 7)), (.int .i64 (.a 8)), (.int .i64 (.a 9))] 8 0 0
 (.call 55 [(.agg [(.int .i64 (.a 3)), (.int .i64 (.a 4)), (.int .i64 (.a 5)), (.int .i64 (.a 6)), (.int .i64 (.a 7)), (.int .i64 (.a 8))])] [] (.int .i64 (.a 10)) 1 0 0
 (.ite (.eq (.a 10) (.l 0))
 (.ite (.le (.l 1) (.a 9))
 (.ite (.le (.a 9) (.l 1000000))
 (.app (some 1) (.lit [[(.int .i64 (.a 2)), (.int .i64 (.a 3)), (.int .i64 (.a 4)), (.int .i64 (.a 5)), (.int .i64 (.a 6)), (.int .i64 (.a 7)), (.int .i64 (.a 8)), (.int .i64 (.a 9))]]) 8 64
 (.need (.and (.le (.l (-9223372036854775808)) (.add (.a 1) (.l 1))) (.le (.add (.a 1) (.l 1)) (.l 9223372036854775807)))
 (.stop { todo := [(.code [false, false, true, false, true, true]), (.inLoop [false, false, true, false, true, true]), (.inBlock 0), (.code [true, true, true])], sl := [(.va 0), .undef, .nilS, (.va 2), .undef, (.ptr 1 0), (.va 0), (.int .i64 (.a 0)), (.int .i64 (.add (.a 1) (.l 1))), (.bool (.lt (.a 1) (.a 0))), (.ea 0 (.a 1) 8 0), (.agg [(.int .i64 (.a 2)), (.int .i64 (.a 3)), (.int .i64 (.a 4)), (.int .i64 (.a 5)), (.int .i64 (.a 6)), (.int .i64 (.a 7)), (.int .i64 (.a 8)), (.int .i64 (.a 9))]), (.ptr 1 1), (.agg [(.int .i64 (.a 3)), (.int .i64 (.a 4)), (.int .i64 (.a 5)), (.int .i64 (.a 6)), (.int .i64 (.a 7)), (.int .i64 (.a 8))]), (.int .i64 (.a 10)), (.bool (.eq (.a 10) (.l 0))), (.bool (.t true)), (.ptr 1 7), (.int .i64 (.a 9)), (.bool (.le (.l 1) (.a 9))), (.bool (.le (.l 1) (.a 9))), (.bool (.t true)), (.ptr 1 7), (.int .i64 (.a 9)), (.bool (.le (.a 9) (.l 1000000))), (.bool (.le (.a 9) (.l 1000000))), (.va 1), (.agg [(.int .i64 (.a 2)), (.int .i64 (.a 3)), (.int .i64 (.a 4)), (.int .i64 (.a 5)), (.int .i64 (.a 6)), (.int .i64 (.a 7)), (.int .i64 (.a 8)), (.int .i64 (.a 9))]), (.sl 2 1), (.va 2), (.int .i64 (.add (.a 1) (.l 1))), .undef], H := [(.row 2 113 8), (.cells [(.int .i64 (.a 2)), (.int .i64 (.a 3)), (.int .i64 (.a 4)), (.int .i64 (.a 5)), (.int .i64 (.a 6)), (.int .i64 (.a 7)), (.int .i64 (.a 8)), (.int .i64 (.a 9))] 113 false), (.cells [(.int .i64 (.a 2)), (.int .i64 (.a 3)), (.int .i64 (.a 4)), (.int .i64 (.a 5)), (.int .i64 (.a 6)), (.int .i64 (.a 7)), (.int .i64 (.a 8)), (.int .i64 (.a 9))] 113 false)], ni := 11, nb := 0, nv := 3, nj := 23 })))
 (.need (.and (.le (.l (-9223372036854775808)) (.add (.a 1) (.l 1))) (.le (.add (.a 1) (.l 1)) (.l 9223372036854775807)))
 (.stop { todo := [(.code [false, false, true, false, true, true]), (.inLoop [false, false, true, false, true, true]), (.inBlock 0), (.code [true, true, true])], sl := [(.va 0), .undef, .nilS, (.va 1), .undef, (.ptr 1 0), (.va 0), (.int .i64 (.a 0)), (.int .i64 (.add (.a 1) (.l 1))), (.bool (.lt (.a 1) (.a 0))), (.ea 0 (.a 1) 8 0), (.agg [(.int .i64 (.a 2)), (.int .i64 (.a 3)), (.int .i64 (.a 4)), (.int .i64 (.a 5)), (.int .i64 (.a 6)), (.int .i64 (.a 7)), (.int .i64 (.a 8)), (.int .i64 (.a 9))]), (.ptr 1 1), (.agg [(.int .i64 (.a 3)), (.int .i64 (.a 4)), (.int .i64 (.a 5)), (.int .i64 (.a 6)), (.int .i64 (.a 7)), (.int .i64 (.a 8))]), (.int .i64 (.a 10)), (.bool (.eq (.a 10) (.l 0))), (.bool (.t true)), (.ptr 1 7), (.int .i64 (.a 9)), (.bool (.le (.l 1) (.a 9))), (.bool (.le (.l 1) (.a 9))), (.bool (.t true)), (.ptr 1 7), (.int .i64 (.a 9)), (.bool (.le (.a 9) (.l 1000000))), (.bool (.le (.a 9) (.l 1000000))), (.junk 18), (.junk 19), (.junk 20), (.junk 21), (.int .i64 (.add (.a 1) (.l 1))), .undef], H := [(.row 1 113 8), (.cells [(.int .i64 (.a 2)), (.int .i64 (.a 3)), (.int .i64 (.a 4)), (.int .i64 (.a 5)), (.int .i64 (.a 6)), (.int .i64 (.a 7)), (.int .i64 (.a 8)), (.int .i64 (.a 9))] 113 false)], ni := 11, nb := 0, nv := 2, nj := 23 })))
 (.need (.and (.le (.l (-9223372036854775808)) (.add (.a 1) (.l 1))) (.le (.add (.a 1) (.l 1)) (.l 9223372036854775807)))
 (.stop { todo := [(.code [false, false, true, false, true, true]), (.inLoop [false, false, true, false, true, true]), (.inBlock 0), (.code [true, true, true])], sl := [(.va 0), .undef, .nilS, (.va 1), .undef, (.ptr 1 0), (.va 0), (.int .i64 (.a 0)), (.int .i64 (.add (.a 1) (.l 1))), (.bool (.lt (.a 1) (.a 0))), (.ea 0 (.a 1) 8 0), (.agg [(.int .i64 (.a 2)), (.int .i64 (.a 3)), (.int .i64 (.a 4)), (.int .i64 (.a 5)), (.int .i64 (.a 6)), (.int .i64 (.a 7)), (.int .i64 (.a 8)), (.int .i64 (.a 9))]), (.ptr 1 1), (.agg [(.int .i64 (.a 3)), (.int .i64 (.a 4)), (.int .i64 (.a 5)), (.int .i64 (.a 6)), (.int .i64 (.a 7)), (.int .i64 (.a 8))]), (.int .i64 (.a 10)), (.bool (.eq (.a 10) (.l 0))), (.bool (.t true)), (.ptr 1 7), (.int .i64 (.a 9)), (.bool (.le (.l 1) (.a 9))), (.bool (.le (.l 1) (.a 9))), (.bool (.t false)), .undef, .undef, .undef, (.bool (.t false)), (.junk 18), (.junk 19), (.junk 20), (.junk 21), (.int .i64 (.add (.a 1) (.l 1))), .undef], H := [(.row 1 113 8), (.cells [(.int .i64 (.a 2)), (.int .i64 (.a 3)), (.int .i64 (.a 4)), (.int .i64 (.a 5)), (.int .i64 (.a 6)), (.int .i64 (.a 7)), (.int .i64 (.a 8)), (.int .i64 (.a 9))] 113 false)], ni := 11, nb := 0, nv := 2, nj := 23 })))
 (.need (.and (.le (.l (-9223372036854775808)) (.add (.a 1) (.l 1))) (.le (.add (.a 1) (.l 1)) (.l 9223372036854775807)))
 (.stop { todo := [(.code [false, false, true, false, true, true]), (.inLoop [false, false, true, false, true, true]), (.inBlock 0), (.code [true, true, true])], sl := [(.va 0), .undef, .nilS, (.va 1), .undef, (.ptr 1 0), (.va 0), (.int .i64 (.a 0)), (.int .i64 (.add (.a 1) (.l 1))), (.bool (.lt (.a 1) (.a 0))), (.ea 0 (.a 1) 8 0), (.agg [(.int .i64 (.a 2)), (.int .i64 (.a 3)), (.int .i64 (.a 4)), (.int .i64 (.a 5)), (.int .i64 (.a 6)), (.int .i64 (.a 7)), (.int .i64 (.a 8)), (.int .i64 (.a 9))]), (.ptr 1 1), (.agg [(.int .i64 (.a 3)), (.int .i64 (.a 4)), (.int .i64 (.a 5)), (.int .i64 (.a 6)), (.int .i64 (.a 7)), (.int .i64 (.a 8))]), (.int .i64 (.a 10)), (.bool (.eq (.a 10) (.l 0))), (.bool (.t false)), .undef, .undef, .undef, (.bool (.t false)), (.bool (.t false)), .undef, .undef, .undef, (.bool (.t false)), (.junk 18), (.junk 19), (.junk 20), (.junk 21), (.int .i64 (.add (.a 1) (.l 1))), .undef], H := [(.row 1 113 8), (.cells [(.int .i64 (.a 2)), (.int .i64 (.a 3)), (.int .i64 (.a 4)), (.int .i64 (.a 5)), (.int .i64 (.a 6)), (.int .i64 (.a 7)), (.int .i64 (.a 8)), (.int .i64 (.a 9))] 113 false)], ni := 11, nb := 0, nv := 2, nj := 23 }))))))
 (.ret (.va 1) []))
theorem cn_o0_eq : run (cx true [[false, false, true, false, true, true]] []) (fnOf Try.f70) 5000 cn_p0 = cn_o0 := by kernel_rfl
theorem cn_l0 {Q : Value -> Hp -> Prop} {w0 : World} {s0 : Hp} (I : List Int -> List Bool -> List Value -> Hp -> Prop) (m : List Int -> List Bool -> List Value -> Nat)
  (round : ∀ is bs vs js s1, is.length = 2 -> bs.length = 0 -> vs.length = 2 -> I is bs vs s1 ->
   (∀ (A : Asg) g r s, s1.le s -> Go.Sy.fits ⟨0, 0, 0, 0⟩ A cn_p0 g = true -> I (A.is.map (IE.den r)) (A.bs.map (BE.den r)) (SV.dens r id A.vs) s -> m (A.is.map (IE.den r)) (A.bs.map (BE.den r)) (SV.dens r id A.vs) < m is bs vs ->
    Go.Sy.Reach Try.prog 70 (Ret Q s0 w0) (fnOf Try.f70).body w0 s0 g r s) -> VC Try.prog Q (Go.Sy.Reach Try.prog 70 (Ret Q s0 w0) (fnOf Try.f70).body w0 s0) cn_o0 ⟨is, bs, vs, js⟩ s1) :
  ∀ (A : Asg) (g : Cfg) (r : Env) (s : Hp), Go.Sy.fits ⟨0, 0, 0, 0⟩ A cn_p0 g = true -> I (A.is.map (IE.den r)) (A.bs.map (BE.den r)) (SV.dens r id A.vs) s -> Go.Sy.Reach Try.prog 70 (Ret Q s0 w0) (fnOf Try.f70).body w0 s0 g r s :=
 loop0 (fn := fnOf Try.f70) (progOk true [[false, false, true, false, true, true]] []) Try.func70 rfl 5000 cn_p0 I m (fun _ _ _ _ h => by cases h) (fun is bs vs js s1 h1 h2 h3 _ h ih => by
  rw [cn_o0_eq]
  exact round is bs vs js s1 h1 h2 h3 h ih)
def cn_a0_0 : Asg :=
 ⟨[(.a 0), (.add (.a 1) (.l 1))], [], [(.va 0), (.va 2)], [(.ptr 1 0), (.bool (.lt (.a 1) (.a 0))), (.ea 0 (.a 1) 8 0), (.agg [(.int .i64 (.a 2)), (.int .i64 (.a 3)), (.int .i64 (.a 4)), (.int .i64 (.a 5)), (.int .i64 (.a 6)), (.int .i64 (.a 7)), (.int .i64 (.a 8)), (.int .i64 (.a 9))]), (.ptr 1 1), (.agg [(.int .i64 (.a 3)), (.int .i64 (.a 4)), (.int .i64 (.a 5)), (.int .i64 (.a 6)), (.int .i64 (.a 7)), (.int .i64 (.a 8))]), (.int .i64 (.a 10)), (.bool (.eq (.a 10) (.l 0))), (.bool (.t true)), (.ptr 1 7), (.int .i64 (.a 9)), (.bool (.le (.l 1) (.a 9))), (.bool (.le (.l 1) (.a 9))), (.bool (.t true)), (.ptr 1 7), (.int .i64 (.a 9)), (.bool (.le (.a 9) (.l 1000000))), (.bool (.le (.a 9) (.l 1000000))), (.va 1), (.agg [(.int .i64 (.a 2)), (.int .i64 (.a 3)), (.int .i64 (.a 4)), (.int .i64 (.a 5)), (.int .i64 (.a 6)), (.int .i64 (.a 7)), (.int .i64 (.a 8)), (.int .i64 (.a 9))]), (.sl 2 1), (.va 2), (.int .i64 (.add (.a 1) (.l 1)))]⟩
def cn_a0_1 : Asg :=
 ⟨[(.a 0), (.add (.a 1) (.l 1))], [], [(.va 0), (.va 1)], [(.ptr 1 0), (.bool (.lt (.a 1) (.a 0))), (.ea 0 (.a 1) 8 0), (.agg [(.int .i64 (.a 2)), (.int .i64 (.a 3)), (.int .i64 (.a 4)), (.int .i64 (.a 5)), (.int .i64 (.a 6)), (.int .i64 (.a 7)), (.int .i64 (.a 8)), (.int .i64 (.a 9))]), (.ptr 1 1), (.agg [(.int .i64 (.a 3)), (.int .i64 (.a 4)), (.int .i64 (.a 5)), (.int .i64 (.a 6)), (.int .i64 (.a 7)), (.int .i64 (.a 8))]), (.int .i64 (.a 10)), (.bool (.eq (.a 10) (.l 0))), (.bool (.t true)), (.ptr 1 7), (.int .i64 (.a 9)), (.bool (.le (.l 1) (.a 9))), (.bool (.le (.l 1) (.a 9))), (.bool (.t true)), (.ptr 1 7), (.int .i64 (.a 9)), (.bool (.le (.a 9) (.l 1000000))), (.bool (.le (.a 9) (.l 1000000))), (.junk 18), (.junk 19), (.junk 20), (.junk 21), (.int .i64 (.add (.a 1) (.l 1)))]⟩
def cn_a0_2 : Asg :=
 ⟨[(.a 0), (.add (.a 1) (.l 1))], [], [(.va 0), (.va 1)], [(.ptr 1 0), (.bool (.lt (.a 1) (.a 0))), (.ea 0 (.a 1) 8 0), (.agg [(.int .i64 (.a 2)), (.int .i64 (.a 3)), (.int .i64 (.a 4)), (.int .i64 (.a 5)), (.int .i64 (.a 6)), (.int .i64 (.a 7)), (.int .i64 (.a 8)), (.int .i64 (.a 9))]), (.ptr 1 1), (.agg [(.int .i64 (.a 3)), (.int .i64 (.a 4)), (.int .i64 (.a 5)), (.int .i64 (.a 6)), (.int .i64 (.a 7)), (.int .i64 (.a 8))]), (.int .i64 (.a 10)), (.bool (.eq (.a 10) (.l 0))), (.bool (.t true)), (.ptr 1 7), (.int .i64 (.a 9)), (.bool (.le (.l 1) (.a 9))), (.bool (.le (.l 1) (.a 9))), (.bool (.t false)), .undef, .undef, .undef, (.bool (.t false)), (.junk 18), (.junk 19), (.junk 20), (.junk 21), (.int .i64 (.add (.a 1) (.l 1)))]⟩
def cn_a0_3 : Asg :=
 ⟨[(.a 0), (.add (.a 1) (.l 1))], [], [(.va 0), (.va 1)], [(.ptr 1 0), (.bool (.lt (.a 1) (.a 0))), (.ea 0 (.a 1) 8 0), (.agg [(.int .i64 (.a 2)), (.int .i64 (.a 3)), (.int .i64 (.a 4)), (.int .i64 (.a 5)), (.int .i64 (.a 6)), (.int .i64 (.a 7)), (.int .i64 (.a 8)), (.int .i64 (.a 9))]), (.ptr 1 1), (.agg [(.int .i64 (.a 3)), (.int .i64 (.a 4)), (.int .i64 (.a 5)), (.int .i64 (.a 6)), (.int .i64 (.a 7)), (.int .i64 (.a 8))]), (.int .i64 (.a 10)), (.bool (.eq (.a 10) (.l 0))), (.bool (.t false)), .undef, .undef, .undef, (.bool (.t false)), (.bool (.t false)), .undef, .undef, .undef, (.bool (.t false)), (.junk 18), (.junk 19), (.junk 20), (.junk 21), (.int .i64 (.add (.a 1) (.l 1)))]⟩
def CnI (L : List Of) (lv : Value) : List Int -> List Bool -> List Value -> Hp -> Prop := fun is bs vs s =>
 ∃ (i : Nat) (out : Value), is = [(L.length : Int), (i : Int)] /\ vs = [lv, out] /\ i <= L.length /\ OfIn s lv L /\ OfIn s out (counting (L.take i))
theorem cn_r0 (L : List Of) (hL : L.length <= 1000) (lv : Value) {w0 : World} {s0 : Hp} : ∀ (A : Asg) (g : Cfg) (r : Env) (s : Hp), Go.Sy.fits ⟨0, 0, 0, 0⟩ A cn_p0 g = true -> CnI L lv (A.is.map (IE.den r)) (A.bs.map (BE.den r)) (SV.dens r id A.vs) s ->
  Go.Sy.Reach Try.prog 70 (Ret (fun v s => OfIn s v (counting L)) s0 w0) (fnOf Try.f70).body w0 s0 g r s := by
 refine cn_l0 (CnI L lv) (fun is _ _ => L.length - (is.getD 1 0).toNat) (fun is bs vs js s1 l1 l2 l3 hI ih => ?_)
 obtain ⟨i, out, rfl, rfl, hi, h0, h1⟩ := hI
 obtain rfl : bs = [] := List.length_eq_zero_iff.1 l2
 unfold cn_o0
 refine vc_ite (fun h => ?_) (fun h => ?_) <;> simp only [BE.den, IE.den, SV.den, SV.dens, List.getD_cons_zero, List.getD_cons_succ, List.cons_append, List.nil_append, List.append_assoc, ltB_true, leB_true, eqB_true, ltB_false, leB_false, eqB_false, Bool.not_eq_true', Bool.not_eq_false', Bool.and_eq_true, Bool.or_eq_true, Bool.and_eq_false_iff, Bool.or_eq_false_iff] at h
 ·have hlt : i < L.length := by omega
  have hm : L.length - ((i : Int) + 1).toNat < L.length - (i : Int).toNat := by omega
  have htake : ∀ o, L[i]? = some o -> counting (L.take (i + 1)) = counting (L.take i) ++ (if o.good then [o] else []) := by
   intro o ho
   rw [List.take_add_one, ho]
   simp only [Option.toList_some, counting, List.filter_append, List.filter_cons, List.filter_nil]
   by_cases hg : o.good <;> simp [hg]
  refine vc_need (by simp only [BE.den, IE.den, SV.den, SV.dens, List.getD_cons_zero, List.getD_cons_succ, List.cons_append, List.nil_append, List.append_assoc, ltB_true, leB_true, eqB_true, ltB_false, leB_false, eqB_false, Bool.not_eq_true', Bool.not_eq_false', Bool.and_eq_true, Bool.or_eq_true, Bool.and_eq_false_iff, Bool.or_eq_false_iff, h0.len, List.length_map]; omega) (fun _ => ?_)
  obtain ⟨o, ho⟩ : ∃ o, L[i]? = some o := ⟨_, List.getElem?_eq_getElem hlt⟩
  have htake := htake o ho
  obtain ⟨n, ⟨a, b, c, d, e, f⟩, v⟩ := o
  refine vc_load [n, a, b, c, d, e, f, v] [] [] (Of.cs ⟨n, ⟨a, b, c, d, e, f⟩, v⟩) (h0.at rfl rfl (by rw [List.getElem?_map, ho]; rfl)) rfl rfl rfl rfl rfl ?_
  conv => arg 5; simp only [List.cons_append, List.nil_append, List.append_nil]
  obtain ⟨k, hk⟩ : ∃ k, k = (Bd.mk a b c d e f).check := ⟨_, rfl⟩
  have hct : ∀ s1, Ct Try.prog 55 [(Bd.mk a b c d e f).v] s1 (fun v _ => v = .int .i64 k) := fun s1 => by rw [hk]; exact check_ct _ s1
  refine vc_call _ _ [k] [] [] (fun s1 _ => hct s1) (fun _ => rfl) rfl rfl rfl rfl rfl (fun s2 hs2 => ?_)
  conv => arg 5; simp only [List.cons_append, List.nil_append, List.append_nil]
  have hok := Bd.check_zero (s := ⟨a, b, c, d, e, f⟩)
  rw [<- hk] at hok
  have no : ¬ (Of.mk n ⟨a, b, c, d, e, f⟩ v).good -> OfIn s2 out (counting (L.take (i + 1))) := fun hg => by
   rw [htake, if_neg hg, List.append_nil]; exact h1.mono hs2
  refine vc_ite (fun h => ?_) (fun h => ?_) <;> simp only [BE.den, IE.den, SV.den, SV.dens, List.getD_cons_zero, List.getD_cons_succ, List.cons_append, List.nil_append, List.append_assoc, ltB_true, leB_true, eqB_true, ltB_false, leB_false, eqB_false, Bool.not_eq_true', Bool.not_eq_false', Bool.and_eq_true, Bool.or_eq_true, Bool.and_eq_false_iff, Bool.or_eq_false_iff] at h
  ·refine vc_ite (fun h3 => ?_) (fun h3 => ?_) <;> simp only [BE.den, IE.den, SV.den, SV.dens, List.getD_cons_zero, List.getD_cons_succ, List.cons_append, List.nil_append, List.append_assoc, ltB_true, leB_true, eqB_true, ltB_false, leB_false, eqB_false, Bool.not_eq_true', Bool.not_eq_false', Bool.and_eq_true, Bool.or_eq_true, Bool.and_eq_false_iff, Bool.or_eq_false_iff] at h3
   ·refine vc_ite (fun h4 => ?_) (fun h4 => ?_) <;> simp only [BE.den, IE.den, SV.den, SV.dens, List.getD_cons_zero, List.getD_cons_succ, List.cons_append, List.nil_append, List.append_assoc, ltB_true, leB_true, eqB_true, ltB_false, leB_false, eqB_false, Bool.not_eq_true', Bool.not_eq_false', Bool.and_eq_true, Bool.or_eq_true, Bool.and_eq_false_iff, Bool.or_eq_false_iff] at h4
    ·have hlen : (counting (L.take i)).length <= 1000 := by
      have := counting_len (L.take i); have := List.length_take_le i L; omega
     refine vc_app ((counting (L.take i)).map Of.cs) (Of.cs ⟨n, ⟨a, b, c, d, e, f⟩, v⟩) (h1.mono hs2) rfl (by rw [List.length_map]; omega) (by rw [List.length_map]; simp only [maxLen]; omega) (fun g' s4 hs4 hg' => ?_)
     conv => arg 5; simp only [List.cons_append, List.nil_append, List.append_nil]
     refine vc_need (by simp only [BE.den, IE.den, SV.den, SV.dens, List.getD_cons_zero, List.getD_cons_succ, List.cons_append, List.nil_append, List.append_assoc, ltB_true, leB_true, eqB_true, ltB_false, leB_false, eqB_false, Bool.not_eq_true', Bool.not_eq_false', Bool.and_eq_true, Bool.or_eq_true, Bool.and_eq_false_iff, Bool.or_eq_false_iff]; omega) (fun _ => vc_stop ?_)
     refine ih cn_a0_0 _ _ _ (Hp.le_trans hs2 hs4) (by kernel_rfl) ⟨i + 1, g', rfl, rfl, by omega, (h0.mono hs2).mono hs4, ?_⟩ hm
     rw [htake, if_pos ⟨hok.1 h, h3, h4⟩]
     unfold OfIn
     rw [List.map_append]
     exact hg'
    ·exact vc_need (by simp only [BE.den, IE.den, SV.den, SV.dens, List.getD_cons_zero, List.getD_cons_succ, List.cons_append, List.nil_append, List.append_assoc, ltB_true, leB_true, eqB_true, ltB_false, leB_false, eqB_false, Bool.not_eq_true', Bool.not_eq_false', Bool.and_eq_true, Bool.or_eq_true, Bool.and_eq_false_iff, Bool.or_eq_false_iff]; omega) (fun _ => vc_stop (ih cn_a0_1 _ _ _ hs2 (by kernel_rfl) ⟨i + 1, out, rfl, rfl, by omega, h0.mono hs2, no (fun hg => h4 hg.2.2)⟩ hm))
   ·exact vc_need (by simp only [BE.den, IE.den, SV.den, SV.dens, List.getD_cons_zero, List.getD_cons_succ, List.cons_append, List.nil_append, List.append_assoc, ltB_true, leB_true, eqB_true, ltB_false, leB_false, eqB_false, Bool.not_eq_true', Bool.not_eq_false', Bool.and_eq_true, Bool.or_eq_true, Bool.and_eq_false_iff, Bool.or_eq_false_iff]; omega) (fun _ => vc_stop (ih cn_a0_2 _ _ _ hs2 (by kernel_rfl) ⟨i + 1, out, rfl, rfl, by omega, h0.mono hs2, no (fun hg => h3 hg.2.1)⟩ hm))
  ·exact vc_need (by simp only [BE.den, IE.den, SV.den, SV.dens, List.getD_cons_zero, List.getD_cons_succ, List.cons_append, List.nil_append, List.append_assoc, ltB_true, leB_true, eqB_true, ltB_false, leB_false, eqB_false, Bool.not_eq_true', Bool.not_eq_false', Bool.and_eq_true, Bool.or_eq_true, Bool.and_eq_false_iff, Bool.or_eq_false_iff]; omega) (fun _ => vc_stop (ih cn_a0_3 _ _ _ hs2 (by kernel_rfl) ⟨i + 1, out, rfl, rfl, by omega, h0.mono hs2, no (fun hg => h (hok.2 hg.1))⟩ hm))
 ·refine vc_ret (fun β s' hs _ => ?_)
  have : L.take i = L := List.take_of_length_le (by omega)
  rw [this] at h1
  exact h1.mono hs
theorem counting_ct (L : List Of) (hL : L.length <= 1000) (lv : Value) (s : Hp) (hl : OfIn s lv L) : Ct Try.prog 70 [lv] s (fun v s' => OfIn s' v (counting L)) := by
 refine cn_o_ct [] [] [lv] rfl rfl rfl (by simp [hl.fine]) (fun w0 => ?_)
 unfold cn_o
 refine vc_need hl.kind (fun _ => vc_stop ?_)
 refine cn_r0 L hL lv cn_a_0 _ _ _ (by kernel_rfl) ⟨0, .slice none 0 0, ?_, rfl, Nat.zero_le _, hl, by simp [counting, OfIn]; exact SliceIn.nil _ _⟩
 simp [cn_a_0, IE.den, hl.len]
def fv_o : Out :=
 (.need (.is 0 0)
 (.stop { todo := [(.code [false, false, true, false, true, true]), (.inLoop [false, false, true, false, true, true]), (.inBlock 0), (.code [true, true, true])], sl := [(.va 0), (.agg [(.int .i64 (.a 0)), (.int .i64 (.a 1)), (.int .i64 (.a 2)), (.int .i64 (.a 3)), (.int .i64 (.a 4)), (.int .i64 (.a 5))]), .undef, (.ptr 0 0), (.int .i64 (.l 0)), (.int .i64 (.l 0)), .undef, .undef, (.va 0), (.int .i64 (.slen 0)), (.int .i64 (.l 0)), .undef, .undef, .undef, .undef, .undef, .undef, .undef, .undef, .undef, .undef, .undef, .undef, .undef, .undef, .undef, .undef, .undef], H := [(.cells [(.int .i64 (.a 0)), (.int .i64 (.a 1)), (.int .i64 (.a 2)), (.int .i64 (.a 3)), (.int .i64 (.a 4)), (.int .i64 (.a 5))] 42 false)], ni := 6, nb := 0, nv := 1, nj := 0 }))
theorem fv_o_eq : run (cx true [[false, false, true, false, true, true]] []) (fnOf Try.f75) 5000 (startCfg Try.f75.ntmps [.va 0, b6 0] 6 0 1) = fv_o := by kernel_rfl
theorem fv_o_ct {Q : Value -> Hp -> Prop} {s : Hp} (i : List Int) (b : List Bool) (v : List Value) (hi : i.length = 6) (hb : b.length = 0) (hv : v.length = 1) (hok : v.all fineV = true)
  (h : ∀ w0, VC Try.prog Q (Go.Sy.Reach Try.prog 75 (Ret Q s w0) (fnOf Try.f75).body w0 s) fv_o ⟨i, b, v, []⟩ s) : Ct Try.prog 75 (SV.dens ⟨i, b, v, []⟩ id [.va 0, b6 0]) s Q := by
 refine ct_run (fn := fnOf Try.f75) (progOk true [[false, false, true, false, true, true]] []) Try.func75 rfl rfl 5000 (fun x hx => List.all_eq_true.1 hok x hx) rfl (fun w0 => ?_)
 rw [hi, hb, hv, fv_o_eq]
 exact h w0
def fv_a_0 : Asg :=
 ⟨[(.a 0), (.a 1), (.a 2), (.a 3), (.a 4), (.a 5), (.l 0), (.slen 0), (.l 0)], [], [(.va 0)], [(.int .i64 (.l 0)), .undef, .undef, .undef, .undef, .undef, .undef, .undef, .undef, .undef, .undef, .undef, .undef, .undef, .undef, .undef, .undef, .undef]⟩
def fv_p0 : Cfg :=
 { todo := [(.code [false, false, true, false, true, true]), (.inLoop [false, false, true, false, true, true]), (.inBlock 0), (.code [true, true, true])], sl := [(.va 0), (.agg [(.int .i64 (.a 0)), (.int .i64 (.a 1)), (.int .i64 (.a 2)), (.int .i64 (.a 3)), (.int .i64 (.a 4)), (.int .i64 (.a 5))]), .undef, (.ptr 0 0), (.junk 0), (.int .i64 (.a 6)), .undef, (.junk 1), (.va 0), (.int .i64 (.a 7)), (.int .i64 (.a 8)), (.junk 2), (.junk 3), (.junk 4), (.junk 5), (.junk 6), (.junk 7), (.junk 8), (.junk 9), (.junk 10), (.junk 11), (.junk 12), (.junk 13), (.junk 14), (.junk 15), (.junk 16), (.junk 17), .undef], H := [(.cells [(.int .i64 (.a 0)), (.int .i64 (.a 1)), (.int .i64 (.a 2)), (.int .i64 (.a 3)), (.int .i64 (.a 4)), (.int .i64 (.a 5))] 42 false)], ni := 9, nb := 0, nv := 1, nj := 18 }
def fv_o0 : Out :=
 (.ite (.lt (.a 8) (.a 7))
 (.need (.and (.le (.l 0) (.a 8)) (.lt (.a 8) (.slen 0)))
 (.load (.ea 0 (.a 8) 8 0) [(.int .i64 (.a 9)), (.int .i64 (.a 10)), (.int .i64 (.a 11)), (.int .i64 (.a 12)), (.int .i64 (.a 13)), (.int .i64 (.a 14)), (.int .i64 (.a 15)), (.int .i64 (.a 16))] 8 0 0
 (.ite (.lt (.a 6) (.a 16))
 (.call 80 [(.agg [(.int .i64 (.a 10)), (.int .i64 (.a 11)), (.int .i64 (.a 12)), (.int .i64 (.a 13)), (.int .i64 (.a 14)), (.int .i64 (.a 15))]), (.agg [(.int .i64 (.a 0)), (.int .i64 (.a 1)), (.int .i64 (.a 2)), (.int .i64 (.a 3)), (.int .i64 (.a 4)), (.int .i64 (.a 5))])] [] (.bool (.a 0)) 0 1 0
 (.ite (.a 0)
 (.need (.and (.le (.l (-9223372036854775808)) (.add (.a 8) (.l 1))) (.le (.add (.a 8) (.l 1)) (.l 9223372036854775807)))
 (.stop { todo := [(.code [false, false, true, false, true, true]), (.inLoop [false, false, true, false, true, true]), (.inBlock 0), (.code [true, true, true])], sl := [(.va 0), (.agg [(.int .i64 (.a 0)), (.int .i64 (.a 1)), (.int .i64 (.a 2)), (.int .i64 (.a 3)), (.int .i64 (.a 4)), (.int .i64 (.a 5))]), .undef, (.ptr 0 0), (.junk 0), (.int .i64 (.a 16)), .undef, (.ptr 1 0), (.va 0), (.int .i64 (.a 7)), (.int .i64 (.add (.a 8) (.l 1))), (.bool (.lt (.a 8) (.a 7))), (.ea 0 (.a 8) 8 0), (.agg [(.int .i64 (.a 9)), (.int .i64 (.a 10)), (.int .i64 (.a 11)), (.int .i64 (.a 12)), (.int .i64 (.a 13)), (.int .i64 (.a 14)), (.int .i64 (.a 15)), (.int .i64 (.a 16))]), (.ptr 1 7), (.int .i64 (.a 16)), (.int .i64 (.a 6)), (.bool (.lt (.a 6) (.a 16))), (.bool (.t true)), (.ptr 1 1), (.agg [(.int .i64 (.a 10)), (.int .i64 (.a 11)), (.int .i64 (.a 12)), (.int .i64 (.a 13)), (.int .i64 (.a 14)), (.int .i64 (.a 15))]), (.agg [(.int .i64 (.a 0)), (.int .i64 (.a 1)), (.int .i64 (.a 2)), (.int .i64 (.a 3)), (.int .i64 (.a 4)), (.int .i64 (.a 5))]), (.bool (.a 0)), (.bool (.a 0)), (.ptr 1 7), (.int .i64 (.a 16)), (.int .i64 (.add (.a 8) (.l 1))), .undef], H := [(.cells [(.int .i64 (.a 0)), (.int .i64 (.a 1)), (.int .i64 (.a 2)), (.int .i64 (.a 3)), (.int .i64 (.a 4)), (.int .i64 (.a 5))] 42 false), (.cells [(.int .i64 (.a 9)), (.int .i64 (.a 10)), (.int .i64 (.a 11)), (.int .i64 (.a 12)), (.int .i64 (.a 13)), (.int .i64 (.a 14)), (.int .i64 (.a 15)), (.int .i64 (.a 16))] 113 false)], ni := 17, nb := 1, nv := 1, nj := 18 }))
 (.need (.and (.le (.l (-9223372036854775808)) (.add (.a 8) (.l 1))) (.le (.add (.a 8) (.l 1)) (.l 9223372036854775807)))
 (.stop { todo := [(.code [false, false, true, false, true, true]), (.inLoop [false, false, true, false, true, true]), (.inBlock 0), (.code [true, true, true])], sl := [(.va 0), (.agg [(.int .i64 (.a 0)), (.int .i64 (.a 1)), (.int .i64 (.a 2)), (.int .i64 (.a 3)), (.int .i64 (.a 4)), (.int .i64 (.a 5))]), .undef, (.ptr 0 0), (.junk 0), (.int .i64 (.a 6)), .undef, (.ptr 1 0), (.va 0), (.int .i64 (.a 7)), (.int .i64 (.add (.a 8) (.l 1))), (.bool (.lt (.a 8) (.a 7))), (.ea 0 (.a 8) 8 0), (.agg [(.int .i64 (.a 9)), (.int .i64 (.a 10)), (.int .i64 (.a 11)), (.int .i64 (.a 12)), (.int .i64 (.a 13)), (.int .i64 (.a 14)), (.int .i64 (.a 15)), (.int .i64 (.a 16))]), (.ptr 1 7), (.int .i64 (.a 16)), (.int .i64 (.a 6)), (.bool (.lt (.a 6) (.a 16))), (.bool (.t true)), (.ptr 1 1), (.agg [(.int .i64 (.a 10)), (.int .i64 (.a 11)), (.int .i64 (.a 12)), (.int .i64 (.a 13)), (.int .i64 (.a 14)), (.int .i64 (.a 15))]), (.agg [(.int .i64 (.a 0)), (.int .i64 (.a 1)), (.int .i64 (.a 2)), (.int .i64 (.a 3)), (.int .i64 (.a 4)), (.int .i64 (.a 5))]), (.bool (.a 0)), (.bool (.a 0)), (.junk 15), (.junk 16), (.int .i64 (.add (.a 8) (.l 1))), .undef], H := [(.cells [(.int .i64 (.a 0)), (.int .i64 (.a 1)), (.int .i64 (.a 2)), (.int .i64 (.a 3)), (.int .i64 (.a 4)), (.int .i64 (.a 5))] 42 false), (.cells [(.int .i64 (.a 9)), (.int .i64 (.a 10)), (.int .i64 (.a 11)), (.int .i64 (.a 12)), (.int .i64 (.a 13)), (.int .i64 (.a 14)), (.int .i64 (.a 15)), (.int .i64 (.a 16))] 113 false)], ni := 17, nb := 1, nv := 1, nj := 18 }))))
 (.need (.and (.le (.l (-9223372036854775808)) (.add (.a 8) (.l 1))) (.le (.add (.a 8) (.l 1)) (.l 9223372036854775807)))
 (.stop { todo := [(.code [false, false, true, false, true, true]), (.inLoop [false, false, true, false, true, true]), (.inBlock 0), (.code [true, true, true])], sl := [(.va 0), (.agg [(.int .i64 (.a 0)), (.int .i64 (.a 1)), (.int .i64 (.a 2)), (.int .i64 (.a 3)), (.int .i64 (.a 4)), (.int .i64 (.a 5))]), .undef, (.ptr 0 0), (.junk 0), (.int .i64 (.a 6)), .undef, (.ptr 1 0), (.va 0), (.int .i64 (.a 7)), (.int .i64 (.add (.a 8) (.l 1))), (.bool (.lt (.a 8) (.a 7))), (.ea 0 (.a 8) 8 0), (.agg [(.int .i64 (.a 9)), (.int .i64 (.a 10)), (.int .i64 (.a 11)), (.int .i64 (.a 12)), (.int .i64 (.a 13)), (.int .i64 (.a 14)), (.int .i64 (.a 15)), (.int .i64 (.a 16))]), (.ptr 1 7), (.int .i64 (.a 16)), (.int .i64 (.a 6)), (.bool (.lt (.a 6) (.a 16))), (.bool (.t false)), .undef, .undef, .undef, .undef, (.bool (.t false)), (.junk 15), (.junk 16), (.int .i64 (.add (.a 8) (.l 1))), .undef], H := [(.cells [(.int .i64 (.a 0)), (.int .i64 (.a 1)), (.int .i64 (.a 2)), (.int .i64 (.a 3)), (.int .i64 (.a 4)), (.int .i64 (.a 5))] 42 false), (.cells [(.int .i64 (.a 9)), (.int .i64 (.a 10)), (.int .i64 (.a 11)), (.int .i64 (.a 12)), (.int .i64 (.a 13)), (.int .i64 (.a 14)), (.int .i64 (.a 15)), (.int .i64 (.a 16))] 113 false)], ni := 17, nb := 0, nv := 1, nj := 18 })))))
 (.ret (.int .i64 (.a 6)) []))
theorem fv_o0_eq : run (cx true [[false, false, true, false, true, true]] []) (fnOf Try.f75) 5000 fv_p0 = fv_o0 := by kernel_rfl
theorem fv_l0 {Q : Value -> Hp -> Prop} {w0 : World} {s0 : Hp} (I : List Int -> List Bool -> List Value -> Hp -> Prop) (m : List Int -> List Bool -> List Value -> Nat)
  (round : ∀ is bs vs js s1, is.length = 9 -> bs.length = 0 -> vs.length = 1 -> I is bs vs s1 ->
   (∀ (A : Asg) g r s, s1.le s -> Go.Sy.fits ⟨0, 0, 0, 0⟩ A fv_p0 g = true -> I (A.is.map (IE.den r)) (A.bs.map (BE.den r)) (SV.dens r id A.vs) s -> m (A.is.map (IE.den r)) (A.bs.map (BE.den r)) (SV.dens r id A.vs) < m is bs vs ->
    Go.Sy.Reach Try.prog 75 (Ret Q s0 w0) (fnOf Try.f75).body w0 s0 g r s) -> VC Try.prog Q (Go.Sy.Reach Try.prog 75 (Ret Q s0 w0) (fnOf Try.f75).body w0 s0) fv_o0 ⟨is, bs, vs, js⟩ s1) :
  ∀ (A : Asg) (g : Cfg) (r : Env) (s : Hp), Go.Sy.fits ⟨0, 0, 0, 0⟩ A fv_p0 g = true -> I (A.is.map (IE.den r)) (A.bs.map (BE.den r)) (SV.dens r id A.vs) s -> Go.Sy.Reach Try.prog 75 (Ret Q s0 w0) (fnOf Try.f75).body w0 s0 g r s :=
 loop0 (fn := fnOf Try.f75) (progOk true [[false, false, true, false, true, true]] []) Try.func75 rfl 5000 fv_p0 I m (fun _ _ _ _ h => by cases h) (fun is bs vs js s1 h1 h2 h3 _ h ih => by
  rw [fv_o0_eq]
  exact round is bs vs js s1 h1 h2 h3 h ih)
def fv_a0_0 : Asg :=
 ⟨[(.a 0), (.a 1), (.a 2), (.a 3), (.a 4), (.a 5), (.a 16), (.a 7), (.add (.a 8) (.l 1))], [], [(.va 0)], [(.junk 0), (.ptr 1 0), (.bool (.lt (.a 8) (.a 7))), (.ea 0 (.a 8) 8 0), (.agg [(.int .i64 (.a 9)), (.int .i64 (.a 10)), (.int .i64 (.a 11)), (.int .i64 (.a 12)), (.int .i64 (.a 13)), (.int .i64 (.a 14)), (.int .i64 (.a 15)), (.int .i64 (.a 16))]), (.ptr 1 7), (.int .i64 (.a 16)), (.int .i64 (.a 6)), (.bool (.lt (.a 6) (.a 16))), (.bool (.t true)), (.ptr 1 1), (.agg [(.int .i64 (.a 10)), (.int .i64 (.a 11)), (.int .i64 (.a 12)), (.int .i64 (.a 13)), (.int .i64 (.a 14)), (.int .i64 (.a 15))]), (.agg [(.int .i64 (.a 0)), (.int .i64 (.a 1)), (.int .i64 (.a 2)), (.int .i64 (.a 3)), (.int .i64 (.a 4)), (.int .i64 (.a 5))]), (.bool (.a 0)), (.bool (.a 0)), (.ptr 1 7), (.int .i64 (.a 16)), (.int .i64 (.add (.a 8) (.l 1)))]⟩
def fv_a0_1 : Asg :=
 ⟨[(.a 0), (.a 1), (.a 2), (.a 3), (.a 4), (.a 5), (.a 6), (.a 7), (.add (.a 8) (.l 1))], [], [(.va 0)], [(.junk 0), (.ptr 1 0), (.bool (.lt (.a 8) (.a 7))), (.ea 0 (.a 8) 8 0), (.agg [(.int .i64 (.a 9)), (.int .i64 (.a 10)), (.int .i64 (.a 11)), (.int .i64 (.a 12)), (.int .i64 (.a 13)), (.int .i64 (.a 14)), (.int .i64 (.a 15)), (.int .i64 (.a 16))]), (.ptr 1 7), (.int .i64 (.a 16)), (.int .i64 (.a 6)), (.bool (.lt (.a 6) (.a 16))), (.bool (.t true)), (.ptr 1 1), (.agg [(.int .i64 (.a 10)), (.int .i64 (.a 11)), (.int .i64 (.a 12)), (.int .i64 (.a 13)), (.int .i64 (.a 14)), (.int .i64 (.a 15))]), (.agg [(.int .i64 (.a 0)), (.int .i64 (.a 1)), (.int .i64 (.a 2)), (.int .i64 (.a 3)), (.int .i64 (.a 4)), (.int .i64 (.a 5))]), (.bool (.a 0)), (.bool (.a 0)), (.junk 15), (.junk 16), (.int .i64 (.add (.a 8) (.l 1)))]⟩
def fv_a0_2 : Asg :=
 ⟨[(.a 0), (.a 1), (.a 2), (.a 3), (.a 4), (.a 5), (.a 6), (.a 7), (.add (.a 8) (.l 1))], [], [(.va 0)], [(.junk 0), (.ptr 1 0), (.bool (.lt (.a 8) (.a 7))), (.ea 0 (.a 8) 8 0), (.agg [(.int .i64 (.a 9)), (.int .i64 (.a 10)), (.int .i64 (.a 11)), (.int .i64 (.a 12)), (.int .i64 (.a 13)), (.int .i64 (.a 14)), (.int .i64 (.a 15)), (.int .i64 (.a 16))]), (.ptr 1 7), (.int .i64 (.a 16)), (.int .i64 (.a 6)), (.bool (.lt (.a 6) (.a 16))), (.bool (.t false)), .undef, .undef, .undef, .undef, (.bool (.t false)), (.junk 15), (.junk 16), (.int .i64 (.add (.a 8) (.l 1)))]⟩
def FvI (L : List Of) (bb : Bd) (lv : Value) : List Int -> List Bool -> List Value -> Hp -> Prop := fun is bs vs s =>
 ∃ (i : Nat) (x : Int), is = bb.l ++ [x, (L.length : Int), (i : Int)] /\ vs = [lv] /\ i <= L.length /\ OfIn s lv L /\ x = val (L.take i) bb
theorem fv_r0 (L : List Of) (hL : L.length <= 1000) (bb : Bd) (lv : Value) {w0 : World} {s0 : Hp} : ∀ (A : Asg) (g : Cfg) (r : Env) (s : Hp), Go.Sy.fits ⟨0, 0, 0, 0⟩ A fv_p0 g = true -> FvI L bb lv (A.is.map (IE.den r)) (A.bs.map (BE.den r)) (SV.dens r id A.vs) s ->
  Go.Sy.Reach Try.prog 75 (Ret (fun v s => v = .int .i64 (val L bb)) s0 w0) (fnOf Try.f75).body w0 s0 g r s := by
 refine fv_l0 (FvI L bb lv) (fun is _ _ => L.length - (is.getD 8 0).toNat) (fun is bs vs js s1 l1 l2 l3 hI ih => ?_)
 obtain ⟨i, x, rfl, rfl, hi, h0, hx⟩ := hI
 obtain rfl : bs = [] := List.length_eq_zero_iff.1 l2
 unfold fv_o0
 conv => arg 5; simp only [Bd.l, List.cons_append, List.nil_append]
 refine vc_ite (fun h => ?_) (fun h => ?_) <;> simp only [BE.den, IE.den, SV.den, SV.dens, List.getD_cons_zero, List.getD_cons_succ, List.cons_append, List.nil_append, List.append_assoc, ltB_true, leB_true, eqB_true, ltB_false, leB_false, eqB_false, Bool.not_eq_true', Bool.not_eq_false', Bool.and_eq_true, Bool.or_eq_true, Bool.and_eq_false_iff, Bool.or_eq_false_iff] at h
 ·have hlt : i < L.length := by omega
  have hm : L.length - ((i : Int) + 1).toNat < L.length - (i : Int).toNat := by omega
  refine vc_need (by simp only [BE.den, IE.den, SV.den, SV.dens, List.getD_cons_zero, List.getD_cons_succ, List.cons_append, List.nil_append, List.append_assoc, ltB_true, leB_true, eqB_true, ltB_false, leB_false, eqB_false, Bool.not_eq_true', Bool.not_eq_false', Bool.and_eq_true, Bool.or_eq_true, Bool.and_eq_false_iff, Bool.or_eq_false_iff, h0.len, List.length_map]; omega) (fun _ => ?_)
  obtain ⟨o, ho⟩ : ∃ o, L[i]? = some o := ⟨_, List.getElem?_eq_getElem hlt⟩
  have htake : val (L.take (i + 1)) bb = vstep bb x o := by
   rw [hx]; unfold val; rw [List.take_add_one, ho, List.foldl_append]; rfl
  obtain ⟨n, ⟨a, b, c, d, e, f⟩, v⟩ := o
  refine vc_load [n, a, b, c, d, e, f, v] [] [] (Of.cs ⟨n, ⟨a, b, c, d, e, f⟩, v⟩) (h0.at rfl rfl (by rw [List.getElem?_map, ho]; rfl)) rfl rfl rfl rfl rfl ?_
  conv => arg 5; simp only [List.cons_append, List.nil_append, List.append_nil]
  refine vc_ite (fun h => ?_) (fun h => ?_) <;> simp only [BE.den, IE.den, SV.den, SV.dens, List.getD_cons_zero, List.getD_cons_succ, List.cons_append, List.nil_append, List.append_assoc, ltB_true, leB_true, eqB_true, ltB_false, leB_false, eqB_false, Bool.not_eq_true', Bool.not_eq_false', Bool.and_eq_true, Bool.or_eq_true, Bool.and_eq_false_iff, Bool.or_eq_false_iff] at h
  ·obtain ⟨k, hk⟩ : ∃ k, k = decide ((Bd.mk a b c d e f).Le bb) := ⟨_, rfl⟩
   have hct : ∀ s1, Ct Try.prog 80 [(Bd.mk a b c d e f).v, bb.v] s1 (fun v _ => v = .bool k) := fun s1 => by rw [hk]; exact within_ct _ _ s1
   refine vc_call _ _ [] [k] [] (fun s1 _ => hct s1) (fun _ => rfl) rfl rfl rfl rfl rfl (fun s2 hs2 => ?_)
   conv => arg 5; simp only [List.cons_append, List.nil_append, List.append_nil]
   refine vc_ite (fun h3 => ?_) (fun h3 => ?_) <;> simp only [BE.den, List.getD_cons_zero] at h3 <;> subst h3
   ·refine vc_need (by simp only [BE.den, IE.den, SV.den, SV.dens, List.getD_cons_zero, List.getD_cons_succ, List.cons_append, List.nil_append, List.append_assoc, ltB_true, leB_true, eqB_true, ltB_false, leB_false, eqB_false, Bool.not_eq_true', Bool.not_eq_false', Bool.and_eq_true, Bool.or_eq_true, Bool.and_eq_false_iff, Bool.or_eq_false_iff]; omega) (fun _ => vc_stop (ih fv_a0_0 _ _ _ hs2 (by kernel_rfl) ⟨i + 1, v, rfl, rfl, by omega, h0.mono hs2, ?_⟩ hm))
    rw [htake]; unfold vstep; rw [if_pos ⟨h, of_decide_eq_true hk.symm⟩]
   ·refine vc_need (by simp only [BE.den, IE.den, SV.den, SV.dens, List.getD_cons_zero, List.getD_cons_succ, List.cons_append, List.nil_append, List.append_assoc, ltB_true, leB_true, eqB_true, ltB_false, leB_false, eqB_false, Bool.not_eq_true', Bool.not_eq_false', Bool.and_eq_true, Bool.or_eq_true, Bool.and_eq_false_iff, Bool.or_eq_false_iff]; omega) (fun _ => vc_stop (ih fv_a0_1 _ _ _ hs2 (by kernel_rfl) ⟨i + 1, x, rfl, rfl, by omega, h0.mono hs2, ?_⟩ hm))
    rw [htake]; unfold vstep; rw [if_neg (fun hh => of_decide_eq_false hk.symm hh.2)]
  ·refine vc_need (by simp only [BE.den, IE.den, SV.den, SV.dens, List.getD_cons_zero, List.getD_cons_succ, List.cons_append, List.nil_append, List.append_assoc, ltB_true, leB_true, eqB_true, ltB_false, leB_false, eqB_false, Bool.not_eq_true', Bool.not_eq_false', Bool.and_eq_true, Bool.or_eq_true, Bool.and_eq_false_iff, Bool.or_eq_false_iff]; omega) (fun _ => vc_stop (ih fv_a0_2 _ _ _ (Hp.le_refl _) (by kernel_rfl) ⟨i + 1, x, rfl, rfl, by omega, h0, ?_⟩ hm))
   rw [htake]; unfold vstep; rw [if_neg (fun hh => h hh.1)]
 ·refine vc_ret (fun β s' hs _ => ?_)
  have : L.take i = L := List.take_of_length_le (by omega)
  rw [this] at hx
  rw [<- hx]; rfl
theorem fval_ct (L : List Of) (hL : L.length <= 1000) (lv : Value) (bb : Bd) (s : Hp) (hl : OfIn s lv L) : Ct Try.prog 75 [lv, bb.v] s (fun v s' => v = .int .i64 (val L bb)) := by
 refine fv_o_ct bb.l [] [lv] rfl rfl rfl (by simp [hl.fine]) (fun w0 => ?_)
 unfold fv_o
 refine vc_need hl.kind (fun _ => vc_stop ?_)
 refine fv_r0 L hL bb lv fv_a_0 _ _ _ (by kernel_rfl) ⟨0, 0, ?_, rfl, Nat.zero_le _, hl, rfl⟩
 have hn := hl.len
 simp only [List.length_map] at hn
 show [_, _, _, _, _, _, _, sliceLen lv, _] = _
 rw [hn]; rfl
def o_util : Out :=
 (.call 75 [(.va 0), (.agg [(.int .i64 (.a 6)), (.int .i64 (.a 7)), (.int .i64 (.a 8)), (.int .i64 (.a 9)), (.int .i64 (.a 10)), (.int .i64 (.a 11))])] [] (.int .i64 (.a 12)) 1 0 0
 (.call 41 [(.agg [(.int .i64 (.a 0)), (.int .i64 (.a 1)), (.int .i64 (.a 2)), (.int .i64 (.a 3)), (.int .i64 (.a 4)), (.int .i64 (.a 5))]), (.agg [(.int .i64 (.a 6)), (.int .i64 (.a 7)), (.int .i64 (.a 8)), (.int .i64 (.a 9)), (.int .i64 (.a 10)), (.int .i64 (.a 11))])] [] (.int .i64 (.a 13)) 1 0 0
 (.need (.and (.le (.l (-9223372036854775808)) (.sub (.a 12) (.a 13))) (.le (.sub (.a 12) (.a 13)) (.l 9223372036854775807)))
 (.ret (.int .i64 (.sub (.a 12) (.a 13))) []))))
theorem o_util_eq : run (cx true [] []) (fnOf Try.f69) 5000 (startCfg Try.f69.ntmps [.va 0, b6 0, b6 6] 12 0 1) = o_util := by kernel_rfl
theorem o_util_ct {Q : Value -> Hp -> Prop} {s : Hp} (i : List Int) (b : List Bool) (v : List Value) (hi : i.length = 12) (hb : b.length = 0) (hv : v.length = 1) (hok : v.all fineV = true)
  (h : ∀ w0, VC Try.prog Q (Go.Sy.Reach Try.prog 69 (Ret Q s w0) (fnOf Try.f69).body w0 s) o_util ⟨i, b, v, []⟩ s) : Ct Try.prog 69 (SV.dens ⟨i, b, v, []⟩ id [.va 0, b6 0, b6 6]) s Q := by
 refine ct_run (fn := fnOf Try.f69) (progOk true [] []) Try.func69 rfl rfl 5000 (fun x hx => List.all_eq_true.1 hok x hx) rfl (fun w0 => ?_)
 rw [hi, hb, hv, o_util_eq]
 exact h w0
theorem util_ct (L : List Of) (hL : L.length <= 1000) (lv : Value) (p b : Bd) (hp : pok p) (hb : b.Ok) (s : Hp) (hl : OfIn s lv (counting L)) : Ct Try.prog 69 [lv, p.v, b.v] s (fun v s' => v = .int .i64 (util L p b)) := by
 refine o_util_ct (p.l ++ b.l) [] [lv] rfl rfl rfl (by simp [hl.fine]) (fun w0 => ?_)
 unfold o_util
 conv => arg 5; simp only [Bd.l, List.cons_append, List.nil_append]
 have hcl := counting_len L
 have r1 := val_range L b
 have r2 := cost_range hp hb
 obtain ⟨x, hx⟩ : ∃ x, x = val (counting L) b := ⟨_, rfl⟩
 have hct : ∀ s1, s.le s1 -> Ct Try.prog 75 [lv, b.v] s1 (fun v _ => v = .int .i64 x) := fun s1 hs1 => by rw [hx]; exact fval_ct _ (by omega) lv b s1 (hl.mono hs1)
 refine vc_call _ _ [x] [] [] hct (fun _ => rfl) rfl rfl rfl rfl rfl (fun s2 hs2 => ?_)
 conv => arg 5; simp only [List.cons_append, List.nil_append, List.append_nil]
 obtain ⟨y, hy⟩ : ∃ y, y = p.cost b := ⟨_, rfl⟩
 have hct : ∀ s1, Ct Try.prog 41 [p.v, b.v] s1 (fun v _ => v = .int .i64 y) := fun s1 => by rw [hy]; exact cost_ct p b s1 (pok_small hp) (ok_small hb)
 refine vc_call _ _ [y] [] [] (fun s1 _ => hct s1) (fun _ => rfl) rfl rfl rfl rfl rfl (fun s2 hs2 => ?_)
 conv => arg 5; simp only [List.cons_append, List.nil_append, List.append_nil]
 rw [<- hx] at r1
 rw [<- hy] at r2
 refine vc_need (by simp only [BE.den, IE.den, SV.den, SV.dens, List.getD_cons_zero, List.getD_cons_succ, List.cons_append, List.nil_append, List.append_assoc, ltB_true, leB_true, eqB_true, ltB_false, leB_false, eqB_false, Bool.not_eq_true', Bool.not_eq_false', Bool.and_eq_true, Bool.or_eq_true, Bool.and_eq_false_iff, Bool.or_eq_false_iff]; omega) (fun _ => vc_ret (fun β s' _ _ => ?_))
 unfold util
 rw [<- hx, <- hy]; rfl
end Go.Proofs.YthjahianafohjaaY
set_option linter.unusedSimpArgs false
set_option linter.unusedVariables false
namespace Go.Proofs.YthjahianafohjaaY
open Go.Sy Go.Bun
def o_follow : Out :=
 (.ite (.lt (.a 5) (.a 11))
 (.need (.and (.le (.l (-9223372036854775808)) (.add (.a 5) (.l 1))) (.le (.add (.a 5) (.l 1)) (.l 9223372036854775807)))
 (.ret (.agg [(.int .i64 (.a 0)), (.int .i64 (.a 1)), (.int .i64 (.a 2)), (.int .i64 (.a 3)), (.int .i64 (.a 4)), (.int .i64 (.add (.a 5) (.l 1)))]) []))
 (.ite (.lt (.a 4) (.a 10))
 (.need (.and (.le (.l (-9223372036854775808)) (.add (.a 4) (.l 1))) (.le (.add (.a 4) (.l 1)) (.l 9223372036854775807)))
 (.ret (.agg [(.int .i64 (.a 0)), (.int .i64 (.a 1)), (.int .i64 (.a 2)), (.int .i64 (.a 3)), (.int .i64 (.add (.a 4) (.l 1))), (.int .i64 (.l 0))]) []))
 (.ite (.lt (.a 3) (.a 9))
 (.need (.and (.le (.l (-9223372036854775808)) (.add (.a 3) (.l 1))) (.le (.add (.a 3) (.l 1)) (.l 9223372036854775807)))
 (.ret (.agg [(.int .i64 (.a 0)), (.int .i64 (.a 1)), (.int .i64 (.a 2)), (.int .i64 (.add (.a 3) (.l 1))), (.int .i64 (.l 0)), (.int .i64 (.l 0))]) []))
 (.ite (.lt (.a 2) (.a 8))
 (.need (.and (.le (.l (-9223372036854775808)) (.add (.a 2) (.l 1))) (.le (.add (.a 2) (.l 1)) (.l 9223372036854775807)))
 (.ret (.agg [(.int .i64 (.a 0)), (.int .i64 (.a 1)), (.int .i64 (.add (.a 2) (.l 1))), (.int .i64 (.l 0)), (.int .i64 (.l 0)), (.int .i64 (.l 0))]) []))
 (.ite (.lt (.a 1) (.a 7))
 (.need (.and (.le (.l (-9223372036854775808)) (.add (.a 1) (.l 1))) (.le (.add (.a 1) (.l 1)) (.l 9223372036854775807)))
 (.ret (.agg [(.int .i64 (.a 0)), (.int .i64 (.add (.a 1) (.l 1))), (.int .i64 (.l 0)), (.int .i64 (.l 0)), (.int .i64 (.l 0)), (.int .i64 (.l 0))]) []))
 (.ite (.lt (.a 0) (.a 6))
 (.need (.and (.le (.l (-9223372036854775808)) (.add (.a 0) (.l 1))) (.le (.add (.a 0) (.l 1)) (.l 9223372036854775807)))
 (.ret (.agg [(.int .i64 (.add (.a 0) (.l 1))), (.int .i64 (.l 0)), (.int .i64 (.l 0)), (.int .i64 (.l 0)), (.int .i64 (.l 0)), (.int .i64 (.l 0))]) []))
 (.ret (.agg [(.int .i64 (.l 0)), (.int .i64 (.l 0)), (.int .i64 (.l 0)), (.int .i64 (.l 0)), (.int .i64 (.l 0)), (.int .i64 (.l 0))]) [])))))))
theorem o_follow_eq : run (cx true [] []) (fnOf Try.f82) 5000 (startCfg Try.f82.ntmps [b6 0, b6 6] 12 0 0) = o_follow := by kernel_rfl
theorem o_follow_ct {Q : Value -> Hp -> Prop} {s : Hp} (i : List Int) (b : List Bool) (v : List Value) (hi : i.length = 12) (hb : b.length = 0) (hv : v.length = 0) (hok : v.all fineV = true)
  (h : ∀ w0, VC Try.prog Q (Go.Sy.Reach Try.prog 82 (Ret Q s w0) (fnOf Try.f82).body w0 s) o_follow ⟨i, b, v, []⟩ s) : Ct Try.prog 82 (SV.dens ⟨i, b, v, []⟩ id [b6 0, b6 6]) s Q := by
 refine ct_run (fn := fnOf Try.f82) (progOk true [] []) Try.func82 rfl rfl 5000 (fun x hx => List.all_eq_true.1 hok x hx) rfl (fun w0 => ?_)
 rw [hi, hb, hv, o_follow_eq]
 exact h w0
def o_each : Out :=
 (.ret (.fn 81 [(.ptr 0 0)]) [(.cells [(.int .i64 (.a 0)), (.int .i64 (.a 1)), (.int .i64 (.a 2)), (.int .i64 (.a 3)), (.int .i64 (.a 4)), (.int .i64 (.a 5))] 42 true)])
theorem o_each_eq : run (cx true [] []) (fnOf Try.f78) 5000 (startCfg Try.f78.ntmps [b6 0] 6 0 0) = o_each := by kernel_rfl
theorem o_each_ct {Q : Value -> Hp -> Prop} {s : Hp} (i : List Int) (b : List Bool) (v : List Value) (hi : i.length = 6) (hb : b.length = 0) (hv : v.length = 0) (hok : v.all fineV = true)
  (h : ∀ w0, VC Try.prog Q (Go.Sy.Reach Try.prog 78 (Ret Q s w0) (fnOf Try.f78).body w0 s) o_each ⟨i, b, v, []⟩ s) : Ct Try.prog 78 (SV.dens ⟨i, b, v, []⟩ id [b6 0]) s Q := by
 refine ct_run (fn := fnOf Try.f78) (progOk true [] []) Try.func78 rfl rfl 5000 (fun x hx => List.all_eq_true.1 hok x hx) rfl (fun w0 => ?_)
 rw [hi, hb, hv, o_each_eq]
 exact h w0
def o_all : Out :=
 (.call 76 [(.agg [(.int .i64 (.a 0)), (.int .i64 (.a 1)), (.int .i64 (.a 2)), (.int .i64 (.a 3)), (.int .i64 (.a 4)), (.int .i64 (.a 5))])] [] (.int .i64 (.a 6)) 1 0 0
 (.ite (.eq (.a 6) (.l 0))
 (.ret (.fn 77 []) [])
 (.call 78 [(.agg [(.int .i64 (.a 0)), (.int .i64 (.a 1)), (.int .i64 (.a 2)), (.int .i64 (.a 3)), (.int .i64 (.a 4)), (.int .i64 (.a 5))])] [] (.va 0) 0 0 1
 (.ret (.va 0) []))))
theorem o_all_eq : run (cx true [] []) (fnOf Try.f71) 5000 (startCfg Try.f71.ntmps [b6 0] 6 0 0) = o_all := by kernel_rfl
theorem o_all_ct {Q : Value -> Hp -> Prop} {s : Hp} (i : List Int) (b : List Bool) (v : List Value) (hi : i.length = 6) (hb : b.length = 0) (hv : v.length = 0) (hok : v.all fineV = true)
  (h : ∀ w0, VC Try.prog Q (Go.Sy.Reach Try.prog 71 (Ret Q s w0) (fnOf Try.f71).body w0 s) o_all ⟨i, b, v, []⟩ s) : Ct Try.prog 71 (SV.dens ⟨i, b, v, []⟩ id [b6 0]) s Q := by
 refine ct_run (fn := fnOf Try.f71) (progOk true [] []) Try.func71 rfl rfl 5000 (fun x hx => List.all_eq_true.1 hok x hx) rfl (fun w0 => ?_)
 rw [hi, hb, hv, o_all_eq]
 exact h w0
def e1_s : Cfg :=
 { todo := [(.code [])], sl := [(.va 0), (.pa 1 0), .undef, .undef, .undef, .undef, .undef, .undef, .undef, .undef, .undef, .undef, .undef, .undef], H := [], ni := 0, nb := 0, nv := 2, nj := 0 }
def e1 : Out :=
 (.stop { todo := [(.code [false, false, true]), (.inLoop [false, false, true]), (.inBlock 0)], sl := [(.va 0), (.pa 1 0), .undef, (.ptr 0 0), (.agg [(.int .i64 (.l 0)), (.int .i64 (.l 0)), (.int .i64 (.l 0)), (.int .i64 (.l 0)), (.int .i64 (.l 0)), (.int .i64 (.l 0))]), .undef, .undef, .undef, .undef, .undef, .undef, .undef, .undef, .undef], H := [(.cells [(.int .i64 (.l 0)), (.int .i64 (.l 0)), (.int .i64 (.l 0)), (.int .i64 (.l 0)), (.int .i64 (.l 0)), (.int .i64 (.l 0))] 42 false)], ni := 0, nb := 0, nv := 2, nj := 0 })
theorem e1_eq : run (cl true [[false, false, true]] [([false, false, false, false, true], 2)]) (fnOf Try.f81) 5000 e1_s = e1 := by kernel_rfl
theorem e1_go {J : (Nat -> Prop) -> World -> Prop} {R : Ending -> World -> Prop} {s : Hp} {B : Nat} (hJ : StabJ J) {r : Env}
  (h : VC Try.prog (fun _ _ => True) (fun g' r' _ => okStop g' = true /\ GoesI Try.prog 81 (fnOf Try.f81).body s B R J g' r') e1 r s) : GoesI Try.prog 81 (fnOf Try.f81).body s B R J e1_s r := by
 refine goesI_run (fn := fnOf Try.f81) (c := (cl true [[false, false, true]] [([false, false, false, false, true], 2)])) (Q := fun _ _ => True) (progOkL _ _ _) rfl hJ 5000 ?_
 show VC _ _ _ (run (cl true [[false, false, true]] [([false, false, false, false, true], 2)]) (fnOf Try.f81) 5000 e1_s) _ _
 rw [e1_eq]
 exact h
def e1_a0 : Asg :=
 ⟨[(.l 0), (.l 0), (.l 0), (.l 0), (.l 0), (.l 0)], [], [(.va 0), (.va 1)], [(.agg [(.int .i64 (.l 0)), (.int .i64 (.l 0)), (.int .i64 (.l 0)), (.int .i64 (.l 0)), (.int .i64 (.l 0)), (.int .i64 (.l 0))]), .undef, .undef, .undef, .undef, .undef, .undef, .undef, .undef, .undef]⟩
def e1_p0_s : Cfg :=
 { todo := [(.code [false, false, true]), (.inLoop [false, false, true]), (.inBlock 0)], sl := [(.va 0), (.pa 1 0), .undef, (.ptr 0 0), (.junk 0), (.junk 1), (.junk 2), (.junk 3), (.junk 4), (.junk 5), (.junk 6), (.junk 7), (.junk 8), (.junk 9)], H := [(.cells [(.int .i64 (.a 0)), (.int .i64 (.a 1)), (.int .i64 (.a 2)), (.int .i64 (.a 3)), (.int .i64 (.a 4)), (.int .i64 (.a 5))] 42 false)], ni := 6, nb := 0, nv := 2, nj := 10 }
def e1_p0 : Out :=
 (.stop { todo := [(.reg [false, false, false, false, true] [2]), (.code [true, false, false, false, true]), (.code [true, false, false, true]), (.inLoop [false, false, true]), (.inBlock 0)], sl := [(.va 0), (.pa 1 0), .undef, (.ptr 0 0), (.junk 0), (.va 0), (.agg [(.int .i64 (.a 0)), (.int .i64 (.a 1)), (.int .i64 (.a 2)), (.int .i64 (.a 3)), (.int .i64 (.a 4)), (.int .i64 (.a 5))]), (.junk 3), (.junk 4), (.junk 5), (.junk 6), (.junk 7), (.junk 8), (.junk 9)], H := [(.cells [(.int .i64 (.a 0)), (.int .i64 (.a 1)), (.int .i64 (.a 2)), (.int .i64 (.a 3)), (.int .i64 (.a 4)), (.int .i64 (.a 5))] 42 false)], ni := 6, nb := 0, nv := 2, nj := 10 })
theorem e1_p0_eq : run (cl true [[false, false, true]] [([false, false, false, false, true], 2)]) (fnOf Try.f81) 5000 e1_p0_s = e1_p0 := by kernel_rfl
theorem e1_p0_go {J : (Nat -> Prop) -> World -> Prop} {R : Ending -> World -> Prop} {s : Hp} {B : Nat} (hJ : StabJ J) {r : Env}
  (h : VC Try.prog (fun _ _ => True) (fun g' r' _ => okStop g' = true /\ GoesI Try.prog 81 (fnOf Try.f81).body s B R J g' r') e1_p0 r s) : GoesI Try.prog 81 (fnOf Try.f81).body s B R J e1_p0_s r := by
 refine goesI_run (fn := fnOf Try.f81) (c := (cl true [[false, false, true]] [([false, false, false, false, true], 2)])) (Q := fun _ _ => True) (progOkL _ _ _) rfl hJ 5000 ?_
 show VC _ _ _ (run (cl true [[false, false, true]] [([false, false, false, false, true], 2)]) (fnOf Try.f81) 5000 e1_p0_s) _ _
 rw [e1_p0_eq]
 exact h
def e1_p0_t0_s : Cfg :=
 { todo := [(.reg [false, false, false, false, true] []), (.code [true, false, false, false, true]), (.code [true, false, false, true]), (.inLoop [false, false, true]), (.inBlock 0)], sl := [(.va 0), (.pa 1 0), .undef, (.ptr 0 0), (.junk 0), (.va 0), (.agg [(.int .i64 (.a 0)), (.int .i64 (.a 1)), (.int .i64 (.a 2)), (.int .i64 (.a 3)), (.int .i64 (.a 4)), (.int .i64 (.a 5))]), (.bool (.t true)), (.junk 4), (.junk 5), (.junk 6), (.junk 7), (.junk 8), (.junk 9)], H := [(.cells [(.int .i64 (.a 0)), (.int .i64 (.a 1)), (.int .i64 (.a 2)), (.int .i64 (.a 3)), (.int .i64 (.a 4)), (.int .i64 (.a 5))] 42 false)], ni := 6, nb := 0, nv := 2, nj := 10 }
def e1_p0_t0 : Out :=
 (.load (.pa 1 0) [(.int .i64 (.a 6)), (.int .i64 (.a 7)), (.int .i64 (.a 8)), (.int .i64 (.a 9)), (.int .i64 (.a 10)), (.int .i64 (.a 11))] 6 0 0
 (.call 82 [(.agg [(.int .i64 (.a 0)), (.int .i64 (.a 1)), (.int .i64 (.a 2)), (.int .i64 (.a 3)), (.int .i64 (.a 4)), (.int .i64 (.a 5))]), (.agg [(.int .i64 (.a 6)), (.int .i64 (.a 7)), (.int .i64 (.a 8)), (.int .i64 (.a 9)), (.int .i64 (.a 10)), (.int .i64 (.a 11))])] [] (.agg [(.int .i64 (.a 12)), (.int .i64 (.a 13)), (.int .i64 (.a 14)), (.int .i64 (.a 15)), (.int .i64 (.a 16)), (.int .i64 (.a 17))]) 6 0 0
 (.ite (.and (.eq (.a 12) (.l 0)) (.and (.eq (.a 13) (.l 0)) (.and (.eq (.a 14) (.l 0)) (.and (.eq (.a 15) (.l 0)) (.and (.eq (.a 16) (.l 0)) (.eq (.a 17) (.l 0)))))))
 (.stop { todo := [(.code [false, true, true, false, true, false, false, true]), (.inBlock 1), (.inLoop [false, false, true]), (.inBlock 0)], sl := [(.va 0), (.pa 1 0), .undef, (.ptr 0 0), (.junk 0), (.va 0), (.agg [(.int .i64 (.a 0)), (.int .i64 (.a 1)), (.int .i64 (.a 2)), (.int .i64 (.a 3)), (.int .i64 (.a 4)), (.int .i64 (.a 5))]), (.bool (.t true)), (.agg [(.int .i64 (.a 0)), (.int .i64 (.a 1)), (.int .i64 (.a 2)), (.int .i64 (.a 3)), (.int .i64 (.a 4)), (.int .i64 (.a 5))]), (.agg [(.int .i64 (.a 6)), (.int .i64 (.a 7)), (.int .i64 (.a 8)), (.int .i64 (.a 9)), (.int .i64 (.a 10)), (.int .i64 (.a 11))]), (.agg [(.int .i64 (.a 12)), (.int .i64 (.a 13)), (.int .i64 (.a 14)), (.int .i64 (.a 15)), (.int .i64 (.a 16)), (.int .i64 (.a 17))]), (.agg [(.int .i64 (.a 12)), (.int .i64 (.a 13)), (.int .i64 (.a 14)), (.int .i64 (.a 15)), (.int .i64 (.a 16)), (.int .i64 (.a 17))]), (.agg [(.int .i64 (.l 0)), (.int .i64 (.l 0)), (.int .i64 (.l 0)), (.int .i64 (.l 0)), (.int .i64 (.l 0)), (.int .i64 (.l 0))]), (.bool (.and (.eq (.a 12) (.l 0)) (.and (.eq (.a 13) (.l 0)) (.and (.eq (.a 14) (.l 0)) (.and (.eq (.a 15) (.l 0)) (.and (.eq (.a 16) (.l 0)) (.eq (.a 17) (.l 0))))))))], H := [(.cells [(.int .i64 (.a 12)), (.int .i64 (.a 13)), (.int .i64 (.a 14)), (.int .i64 (.a 15)), (.int .i64 (.a 16)), (.int .i64 (.a 17))] 42 false)], ni := 18, nb := 0, nv := 2, nj := 10 })
 (.stop { todo := [(.code [false, false, true]), (.inLoop [false, false, true]), (.inBlock 0)], sl := [(.va 0), (.pa 1 0), .undef, (.ptr 0 0), (.junk 0), (.va 0), (.agg [(.int .i64 (.a 0)), (.int .i64 (.a 1)), (.int .i64 (.a 2)), (.int .i64 (.a 3)), (.int .i64 (.a 4)), (.int .i64 (.a 5))]), (.bool (.t true)), (.agg [(.int .i64 (.a 0)), (.int .i64 (.a 1)), (.int .i64 (.a 2)), (.int .i64 (.a 3)), (.int .i64 (.a 4)), (.int .i64 (.a 5))]), (.agg [(.int .i64 (.a 6)), (.int .i64 (.a 7)), (.int .i64 (.a 8)), (.int .i64 (.a 9)), (.int .i64 (.a 10)), (.int .i64 (.a 11))]), (.agg [(.int .i64 (.a 12)), (.int .i64 (.a 13)), (.int .i64 (.a 14)), (.int .i64 (.a 15)), (.int .i64 (.a 16)), (.int .i64 (.a 17))]), (.agg [(.int .i64 (.a 12)), (.int .i64 (.a 13)), (.int .i64 (.a 14)), (.int .i64 (.a 15)), (.int .i64 (.a 16)), (.int .i64 (.a 17))]), (.agg [(.int .i64 (.l 0)), (.int .i64 (.l 0)), (.int .i64 (.l 0)), (.int .i64 (.l 0)), (.int .i64 (.l 0)), (.int .i64 (.l 0))]), (.bool (.and (.eq (.a 12) (.l 0)) (.and (.eq (.a 13) (.l 0)) (.and (.eq (.a 14) (.l 0)) (.and (.eq (.a 15) (.l 0)) (.and (.eq (.a 16) (.l 0)) (.eq (.a 17) (.l 0))))))))], H := [(.cells [(.int .i64 (.a 12)), (.int .i64 (.a 13)), (.int .i64 (.a 14)), (.int .i64 (.a 15)), (.int .i64 (.a 16)), (.int .i64 (.a 17))] 42 false)], ni := 18, nb := 0, nv := 2, nj := 10 }))))
theorem e1_p0_t0_eq : run (cl true [[false, false, true]] [([false, false, false, false, true], 2)]) (fnOf Try.f81) 5000 e1_p0_t0_s = e1_p0_t0 := by kernel_rfl
theorem e1_p0_t0_go {J : (Nat -> Prop) -> World -> Prop} {R : Ending -> World -> Prop} {s : Hp} {B : Nat} (hJ : StabJ J) {r : Env}
  (h : VC Try.prog (fun _ _ => True) (fun g' r' _ => okStop g' = true /\ GoesI Try.prog 81 (fnOf Try.f81).body s B R J g' r') e1_p0_t0 r s) : GoesI Try.prog 81 (fnOf Try.f81).body s B R J e1_p0_t0_s r := by
 refine goesI_run (fn := fnOf Try.f81) (c := (cl true [[false, false, true]] [([false, false, false, false, true], 2)])) (Q := fun _ _ => True) (progOkL _ _ _) rfl hJ 5000 ?_
 show VC _ _ _ (run (cl true [[false, false, true]] [([false, false, false, false, true], 2)]) (fnOf Try.f81) 5000 e1_p0_t0_s) _ _
 rw [e1_p0_t0_eq]
 exact h
def e1_p0_t0_a1 : Asg :=
 ⟨[(.a 12), (.a 13), (.a 14), (.a 15), (.a 16), (.a 17)], [], [(.va 0), (.va 1)], [(.junk 0), (.va 0), (.agg [(.int .i64 (.a 0)), (.int .i64 (.a 1)), (.int .i64 (.a 2)), (.int .i64 (.a 3)), (.int .i64 (.a 4)), (.int .i64 (.a 5))]), (.bool (.t true)), (.agg [(.int .i64 (.a 0)), (.int .i64 (.a 1)), (.int .i64 (.a 2)), (.int .i64 (.a 3)), (.int .i64 (.a 4)), (.int .i64 (.a 5))]), (.agg [(.int .i64 (.a 6)), (.int .i64 (.a 7)), (.int .i64 (.a 8)), (.int .i64 (.a 9)), (.int .i64 (.a 10)), (.int .i64 (.a 11))]), (.agg [(.int .i64 (.a 12)), (.int .i64 (.a 13)), (.int .i64 (.a 14)), (.int .i64 (.a 15)), (.int .i64 (.a 16)), (.int .i64 (.a 17))]), (.agg [(.int .i64 (.a 12)), (.int .i64 (.a 13)), (.int .i64 (.a 14)), (.int .i64 (.a 15)), (.int .i64 (.a 16)), (.int .i64 (.a 17))]), (.agg [(.int .i64 (.l 0)), (.int .i64 (.l 0)), (.int .i64 (.l 0)), (.int .i64 (.l 0)), (.int .i64 (.l 0)), (.int .i64 (.l 0))]), (.bool (.and (.eq (.a 12) (.l 0)) (.and (.eq (.a 13) (.l 0)) (.and (.eq (.a 14) (.l 0)) (.and (.eq (.a 15) (.l 0)) (.and (.eq (.a 16) (.l 0)) (.eq (.a 17) (.l 0))))))))]⟩
def e1_p0_f0_s : Cfg :=
 { todo := [(.reg [false, false, false, false, true] []), (.code [true, false, false, false, true]), (.code [true, false, false, true]), (.inLoop [false, false, true]), (.inBlock 0)], sl := [(.va 0), (.pa 1 0), .undef, (.ptr 0 0), (.junk 0), (.va 0), (.agg [(.int .i64 (.a 0)), (.int .i64 (.a 1)), (.int .i64 (.a 2)), (.int .i64 (.a 3)), (.int .i64 (.a 4)), (.int .i64 (.a 5))]), (.bool (.t false)), (.junk 4), (.junk 5), (.junk 6), (.junk 7), (.junk 8), (.junk 9)], H := [(.cells [(.int .i64 (.a 0)), (.int .i64 (.a 1)), (.int .i64 (.a 2)), (.int .i64 (.a 3)), (.int .i64 (.a 4)), (.int .i64 (.a 5))] 42 false)], ni := 6, nb := 0, nv := 2, nj := 10 }
def e1_p0_f0 : Out :=
 (.stop { todo := [], sl := [(.va 0), (.pa 1 0), .undef, (.ptr 0 0), (.junk 0), (.va 0), (.agg [(.int .i64 (.a 0)), (.int .i64 (.a 1)), (.int .i64 (.a 2)), (.int .i64 (.a 3)), (.int .i64 (.a 4)), (.int .i64 (.a 5))]), (.bool (.t false)), (.junk 4), (.junk 5), (.junk 6), (.junk 7), (.junk 8), (.junk 9)], H := [(.cells [(.int .i64 (.a 0)), (.int .i64 (.a 1)), (.int .i64 (.a 2)), (.int .i64 (.a 3)), (.int .i64 (.a 4)), (.int .i64 (.a 5))] 42 false)], ni := 6, nb := 0, nv := 2, nj := 10 })
theorem e1_p0_f0_eq : run (cl true [[false, false, true]] [([false, false, false, false, true], 2)]) (fnOf Try.f81) 5000 e1_p0_f0_s = e1_p0_f0 := by kernel_rfl
theorem e1_p0_f0_go {J : (Nat -> Prop) -> World -> Prop} {R : Ending -> World -> Prop} {s : Hp} {B : Nat} (hJ : StabJ J) {r : Env}
  (h : VC Try.prog (fun _ _ => True) (fun g' r' _ => okStop g' = true /\ GoesI Try.prog 81 (fnOf Try.f81).body s B R J g' r') e1_p0_f0 r s) : GoesI Try.prog 81 (fnOf Try.f81).body s B R J e1_p0_f0_s r := by
 refine goesI_run (fn := fnOf Try.f81) (c := (cl true [[false, false, true]] [([false, false, false, false, true], 2)])) (Q := fun _ _ => True) (progOkL _ _ _) rfl hJ 5000 ?_
 show VC _ _ _ (run (cl true [[false, false, true]] [([false, false, false, false, true], 2)]) (fnOf Try.f81) 5000 e1_p0_f0_s) _ _
 rw [e1_p0_f0_eq]
 exact h
def a1_s : Cfg :=
 { todo := [(.code [])], sl := [(.va 0), .undef], H := [], ni := 0, nb := 0, nv := 1, nj := 0 }
def a1 : Out :=
 (.stop { todo := [], sl := [(.va 0), .undef], H := [], ni := 0, nb := 0, nv := 1, nj := 0 })
theorem a1_eq : run (cl true [] []) (fnOf Try.f77) 5000 a1_s = a1 := by kernel_rfl
theorem a1_go {J : (Nat -> Prop) -> World -> Prop} {R : Ending -> World -> Prop} {s : Hp} {B : Nat} (hJ : StabJ J) {r : Env}
  (h : VC Try.prog (fun _ _ => True) (fun g' r' _ => okStop g' = true /\ GoesI Try.prog 77 (fnOf Try.f77).body s B R J g' r') a1 r s) : GoesI Try.prog 77 (fnOf Try.f77).body s B R J a1_s r := by
 refine goesI_run (fn := fnOf Try.f77) (c := (cl true [] [])) (Q := fun _ _ => True) (progOkL _ _ _) rfl hJ 5000 ?_
 show VC _ _ _ (run (cl true [] []) (fnOf Try.f77) 5000 a1_s) _ _
 rw [a1_eq]
 exact h
theorem follow_ct (b s : Bd) (hb : b.Ok) (hs : s.Ok) (sg : Hp) : Ct Try.prog 82 [b.v, s.v] sg (fun v _ => v = (s.next b).v) := by
 refine o_follow_ct (b.l ++ s.l) [] [] rfl rfl rfl rfl (fun w0 => ?_)
 unfold Bd.Ok at hs hb
 unfold o_follow
 conv => arg 5; simp only [Bd.l, List.cons_append, List.nil_append]
 unfold Bd.next
 refine vc_ite (fun h => ?_) (fun h => ?_) <;> simp only [BE.den, IE.den, SV.den, SV.dens, List.getD_cons_zero, List.getD_cons_succ, List.cons_append, List.nil_append, List.append_assoc, ltB_true, leB_true, eqB_true, ltB_false, leB_false, eqB_false, Bool.not_eq_true', Bool.not_eq_false', Bool.and_eq_true, Bool.or_eq_true, Bool.and_eq_false_iff, Bool.or_eq_false_iff] at h
 ·exact vc_need (by simp only [BE.den, IE.den, SV.den, SV.dens, List.getD_cons_zero, List.getD_cons_succ, List.cons_append, List.nil_append, List.append_assoc, ltB_true, leB_true, eqB_true, ltB_false, leB_false, eqB_false, Bool.not_eq_true', Bool.not_eq_false', Bool.and_eq_true, Bool.or_eq_true, Bool.and_eq_false_iff, Bool.or_eq_false_iff]; omega) (fun _ => vc_ret (fun β s' _ _ => by rw [if_pos h]; rfl))
 rw [if_neg h]
 refine vc_ite (fun h => ?_) (fun h => ?_) <;> simp only [BE.den, IE.den, SV.den, SV.dens, List.getD_cons_zero, List.getD_cons_succ, List.cons_append, List.nil_append, List.append_assoc, ltB_true, leB_true, eqB_true, ltB_false, leB_false, eqB_false, Bool.not_eq_true', Bool.not_eq_false', Bool.and_eq_true, Bool.or_eq_true, Bool.and_eq_false_iff, Bool.or_eq_false_iff] at h
 ·exact vc_need (by simp only [BE.den, IE.den, SV.den, SV.dens, List.getD_cons_zero, List.getD_cons_succ, List.cons_append, List.nil_append, List.append_assoc, ltB_true, leB_true, eqB_true, ltB_false, leB_false, eqB_false, Bool.not_eq_true', Bool.not_eq_false', Bool.and_eq_true, Bool.or_eq_true, Bool.and_eq_false_iff, Bool.or_eq_false_iff]; omega) (fun _ => vc_ret (fun β s' _ _ => by rw [if_pos h]; rfl))
 rw [if_neg h]
 refine vc_ite (fun h => ?_) (fun h => ?_) <;> simp only [BE.den, IE.den, SV.den, SV.dens, List.getD_cons_zero, List.getD_cons_succ, List.cons_append, List.nil_append, List.append_assoc, ltB_true, leB_true, eqB_true, ltB_false, leB_false, eqB_false, Bool.not_eq_true', Bool.not_eq_false', Bool.and_eq_true, Bool.or_eq_true, Bool.and_eq_false_iff, Bool.or_eq_false_iff] at h
 ·exact vc_need (by simp only [BE.den, IE.den, SV.den, SV.dens, List.getD_cons_zero, List.getD_cons_succ, List.cons_append, List.nil_append, List.append_assoc, ltB_true, leB_true, eqB_true, ltB_false, leB_false, eqB_false, Bool.not_eq_true', Bool.not_eq_false', Bool.and_eq_true, Bool.or_eq_true, Bool.and_eq_false_iff, Bool.or_eq_false_iff]; omega) (fun _ => vc_ret (fun β s' _ _ => by rw [if_pos h]; rfl))
 rw [if_neg h]
 refine vc_ite (fun h => ?_) (fun h => ?_) <;> simp only [BE.den, IE.den, SV.den, SV.dens, List.getD_cons_zero, List.getD_cons_succ, List.cons_append, List.nil_append, List.append_assoc, ltB_true, leB_true, eqB_true, ltB_false, leB_false, eqB_false, Bool.not_eq_true', Bool.not_eq_false', Bool.and_eq_true, Bool.or_eq_true, Bool.and_eq_false_iff, Bool.or_eq_false_iff] at h
 ·exact vc_need (by simp only [BE.den, IE.den, SV.den, SV.dens, List.getD_cons_zero, List.getD_cons_succ, List.cons_append, List.nil_append, List.append_assoc, ltB_true, leB_true, eqB_true, ltB_false, leB_false, eqB_false, Bool.not_eq_true', Bool.not_eq_false', Bool.and_eq_true, Bool.or_eq_true, Bool.and_eq_false_iff, Bool.or_eq_false_iff]; omega) (fun _ => vc_ret (fun β s' _ _ => by rw [if_pos h]; rfl))
 rw [if_neg h]
 refine vc_ite (fun h => ?_) (fun h => ?_) <;> simp only [BE.den, IE.den, SV.den, SV.dens, List.getD_cons_zero, List.getD_cons_succ, List.cons_append, List.nil_append, List.append_assoc, ltB_true, leB_true, eqB_true, ltB_false, leB_false, eqB_false, Bool.not_eq_true', Bool.not_eq_false', Bool.and_eq_true, Bool.or_eq_true, Bool.and_eq_false_iff, Bool.or_eq_false_iff] at h
 ·exact vc_need (by simp only [BE.den, IE.den, SV.den, SV.dens, List.getD_cons_zero, List.getD_cons_succ, List.cons_append, List.nil_append, List.append_assoc, ltB_true, leB_true, eqB_true, ltB_false, leB_false, eqB_false, Bool.not_eq_true', Bool.not_eq_false', Bool.and_eq_true, Bool.or_eq_true, Bool.and_eq_false_iff, Bool.or_eq_false_iff]; omega) (fun _ => vc_ret (fun β s' _ _ => by rw [if_pos h]; rfl))
 rw [if_neg h]
 refine vc_ite (fun h => ?_) (fun h => ?_) <;> simp only [BE.den, IE.den, SV.den, SV.dens, List.getD_cons_zero, List.getD_cons_succ, List.cons_append, List.nil_append, List.append_assoc, ltB_true, leB_true, eqB_true, ltB_false, leB_false, eqB_false, Bool.not_eq_true', Bool.not_eq_false', Bool.and_eq_true, Bool.or_eq_true, Bool.and_eq_false_iff, Bool.or_eq_false_iff] at h
 ·exact vc_need (by simp only [BE.den, IE.den, SV.den, SV.dens, List.getD_cons_zero, List.getD_cons_succ, List.cons_append, List.nil_append, List.append_assoc, ltB_true, leB_true, eqB_true, ltB_false, leB_false, eqB_false, Bool.not_eq_true', Bool.not_eq_false', Bool.and_eq_true, Bool.or_eq_true, Bool.and_eq_false_iff, Bool.or_eq_false_iff]; omega) (fun _ => vc_ret (fun β s' _ _ => by rw [if_pos h]; rfl))
 rw [if_neg h]
 exact vc_ret (fun β s' _ _ => rfl)
def yB (x : List Int) : List Value := [.agg (cI x).toArray]
def KnB (hp : Hp) (b : Nat) (s : Bd) : Prop := ∀ (j : Nat) (u : Value), s.cs[j]? = some u -> hp b j = some u
theorem each1_iter (s : Bd) (hs : s.Ok) (hp : Hp) (b : Nat) (hk : KnB hp b s) : IterCt Try.prog 81 [.pointer (some ⟨b, 0, none⟩)] hp ((Lk s 6).map yB) := by
 refine iter_ct (fn := fnOf Try.f81) (is := []) (bs := []) (vs := [.pointer (some ⟨b, 0, none⟩)]) (args := [.va 0, .pa 1 0]) Try.func81 rfl (Hp.le_refl _) (fun L => by simp [SV.dens, SV.den, addrOf, Addr.add, yv]) rfl ?_
 intro L JJ Z B hY
 have hJ : ∀ k, StabJ (JJ k) := fun k => hY.stab k
 have hstart : startCfg Try.f81.ntmps [.va 0, .pa 1 0] 0 0 2 = e1_s := by kernel_rfl
 show GoesI _ _ _ _ _ _ _ (startCfg Try.f81.ntmps [.va 0, .pa 1 0] 0 0 2) _
 rw [hstart]
 have main : ∀ (d n : Nat), n + d = (Lk s 6).length -> n < (Lk s 6).length -> ∀ js, js.length = 10 ->
   GoesI Try.prog 81 (fnOf Try.f81).body hp B (fun e w' => ∃ v, e = .returned v /\ ∃ E, JJ ((Lk s 6).map yB).length E w' \/ Z E w') (JJ n) e1_p0_s ⟨(s.unr n).l, [], [yv L, .pointer (some ⟨b, 0, none⟩)], js⟩ := by
  intro d
  induction d with
  | zero => intro n h1 h2; omega
  | succ d ih =>
   intro n h1 h2 js hjs
   obtain ⟨hget, hnx⟩ := Lk_next hs h2
   have hxok : (s.unr n).Ok := (unr_in hs n).1
   generalize hx : s.unr n = x at *
   refine e1_p0_go (hJ n) ?_
   unfold e1_p0
   refine vc_stop ⟨rfl, ?_⟩
   refine goesI_y (fn := fnOf Try.f81) hY (gt := e1_p0_t0_s) (gf := e1_p0_f0_s) (m := 0) (avs := [b6 0]) (by kernel_rfl) (by kernel_rfl) rfl (vals := yB x.l) (fun β => rfl) (by rw [List.getElem?_map, hget]; rfl) ?_ ?_
   ·refine e1_p0_t0_go (hJ (n + 1)) ?_
    unfold e1_p0_t0
    refine vc_load s.l [] [] s.cs ⟨b, 0, by simp [SV.den, addrOf, Addr.add], fun j u hj => by simpa using hk j u hj⟩ rfl rfl rfl rfl rfl ?_
    conv => arg 5; simp only [List.cons_append, List.nil_append, List.append_nil, Bd.l]
    obtain ⟨y, hy⟩ : ∃ y, y = s.next x := ⟨_, rfl⟩
    have hct : ∀ s1, Ct Try.prog 82 [x.v, s.v] s1 (fun v _ => v = y.v) := fun s1 => by rw [hy]; exact follow_ct x s hxok hs s1
    refine vc_call _ _ y.l [] [] (fun s1 _ => hct s1) (fun _ => rfl) rfl rfl rfl rfl rfl (fun s1 _ => ?_)
    conv => arg 5; simp only [List.cons_append, List.nil_append, List.append_nil, Bd.l]
    refine vc_ite (fun h => ?_) (fun h => ?_)
    ·simp only [BE.den, IE.den, SV.den, SV.dens, List.getD_cons_zero, List.getD_cons_succ, List.cons_append, List.nil_append, List.append_assoc, ltB_true, leB_true, eqB_true, ltB_false, leB_false, eqB_false, Bool.not_eq_true', Bool.not_eq_false', Bool.and_eq_true, Bool.or_eq_true, Bool.and_eq_false_iff, Bool.or_eq_false_iff] at h
     refine vc_stop ⟨rfl, goesI_ret (fn := fnOf Try.f81) Try.func81 rfl (.inr ⟨_, _, rfl, by kernel_rfl⟩) (fun E w hj => ⟨_, rfl, E, .inl ?_⟩)⟩
     rcases hnx with ⟨h3, h4, h5⟩ | ⟨h3, h4⟩
     ·exfalso
      rw [<- hy] at h5
      apply h5
      obtain ⟨h6, h7, h8, h9, h10, h11⟩ := h
      obtain ⟨ya, yb, yc, yd, ye, yf⟩ := y
      simp only at h6 h7 h8 h9 h10 h11
      subst h6 h7 h8 h9 h10 h11
      rfl
     ·rw [List.length_map, <- h3]; exact hj
    ·simp only [BE.den, IE.den, SV.den, SV.dens, List.getD_cons_zero, List.getD_cons_succ, List.cons_append, List.nil_append, List.append_assoc, ltB_true, leB_true, eqB_true, ltB_false, leB_false, eqB_false, Bool.not_eq_true', Bool.not_eq_false', Bool.and_eq_true, Bool.or_eq_true, Bool.and_eq_false_iff, Bool.or_eq_false_iff] at h
     rcases hnx with ⟨h3, h4, h5⟩ | ⟨h3, h4⟩
     ·rw [<- hy] at h4
      refine vc_stop ⟨rfl, goesI_fit (t := e1_p0_s) (A := e1_p0_t0_a1) (hJ (n + 1)) (by kernel_rfl) rfl (fun _ _ _ _ h => by cases h) (fun js' hjs' => ?_)⟩
      have := ih (n + 1) (by omega) h3 js' hjs'
      rw [<- h4] at this
      exact this
     ·exfalso
      rw [<- hy] at h4
      subst h4
      simp [Bd.zero] at h
   ·refine e1_p0_f0_go (hY.zstab) ?_
    unfold e1_p0_f0
    exact vc_stop ⟨rfl, goesI_ret (fn := fnOf Try.f81) Try.func81 rfl (.inl rfl) (fun E w hj => ⟨_, rfl, E, .inr hj⟩)⟩
 refine e1_go (hJ 0) ?_
 unfold e1
 refine vc_stop ⟨rfl, ?_⟩
 refine goesI_fit (t := e1_p0_s) (A := e1_a0) (hJ 0) (by kernel_rfl) rfl (fun _ _ _ _ h => by cases h) (fun js hjs => ?_)
 have h0 : 0 < (Lk s 6).length := Lk_pos s 6
 have := main (Lk s 6).length 0 (by omega) h0 js hjs
 rw [Lk_zero s hs] at this
 exact this
theorem all1_iter (hp : Hp) : IterCt Try.prog 77 [] hp [] := by
 refine iter_ct (fn := fnOf Try.f77) (is := []) (bs := []) (vs := []) (args := [.va 0]) Try.func77 rfl (Hp.le_refl _) (fun L => rfl) rfl ?_
 intro L JJ Z B hY
 have hstart : startCfg Try.f77.ntmps [.va 0] 0 0 1 = a1_s := by kernel_rfl
 show GoesI _ _ _ _ _ _ _ (startCfg Try.f77.ntmps [.va 0] 0 0 1) _
 rw [hstart]
 refine a1_go (hY.stab 0) ?_
 unfold a1
 exact vc_stop ⟨rfl, goesI_ret (fn := fnOf Try.f77) Try.func77 rfl (.inl rfl) (fun E w hj => ⟨_, rfl, E, .inl hj⟩)⟩
theorem each_ct (s : Bd) (hs : s.Ok) (sg : Hp) : Ct Try.prog 78 [s.v] sg (fun v s' => SeqIs Try.prog s' v ((Lk s 6).map yB)) := by
 refine o_each_ct s.l [] [] rfl rfl rfl rfl (fun w0 => ?_)
 unfold o_each
 refine vc_ret (fun β s' hs' hsh => ?_)
 refine ⟨81, [.pointer (some ⟨β 0, 0, none⟩)], rfl, (progOk true [] []).call _ (by kernel_rfl), each1_iter s hs s' (β 0) (fun j u hj => hsh 0 _ _ rfl j u hj)⟩
theorem all_ct (s : Bd) (sg : Hp) : Ct Try.prog 71 [s.v] sg (fun v s' => SeqIs Try.prog s' v (s.list.map yB)) := by
 refine o_all_ct s.l [] [] rfl rfl rfl rfl (fun w0 => ?_)
 unfold o_all
 conv => arg 5; simp only [Bd.l, List.cons_append, List.nil_append]
 obtain ⟨n, hn⟩ : ∃ n, n = s.cnt := ⟨_, rfl⟩
 have hct : ∀ s1, Ct Try.prog 76 [s.v] s1 (fun v _ => v = .int .i64 n) := fun s1 => by rw [hn]; exact count_ct s s1
 refine vc_call _ _ [n] [] [] (fun s1 _ => hct s1) (fun _ => rfl) rfl rfl rfl rfl rfl (fun s1 _ => ?_)
 conv => arg 5; simp only [List.cons_append, List.nil_append, List.append_nil, Bd.l]
 refine vc_ite (fun h => ?_) (fun h => ?_)
 ·simp only [BE.den, IE.den, SV.den, SV.dens, List.getD_cons_zero, List.getD_cons_succ, List.cons_append, List.nil_append, List.append_assoc, ltB_true, leB_true, eqB_true, ltB_false, leB_false, eqB_false, Bool.not_eq_true', Bool.not_eq_false', Bool.and_eq_true, Bool.or_eq_true, Bool.and_eq_false_iff, Bool.or_eq_false_iff] at h
  refine vc_ret (fun β s' hs' hsh => ?_)
  have e : s.list = [] := by unfold Bd.list; rw [if_pos (by omega)]
  rw [e]
  exact ⟨77, [], rfl, (progOk true [] []).call _ (by kernel_rfl), all1_iter s'⟩
 ·simp only [BE.den, IE.den, SV.den, SV.dens, List.getD_cons_zero, List.getD_cons_succ, List.cons_append, List.nil_append, List.append_assoc, ltB_true, leB_true, eqB_true, ltB_false, leB_false, eqB_false, Bool.not_eq_true', Bool.not_eq_false', Bool.and_eq_true, Bool.or_eq_true, Bool.and_eq_false_iff, Bool.or_eq_false_iff] at h
  have hc : s.cnt ≠ 0 := by omega
  have e : s.list = Lk s 6 := by unfold Bd.list; rw [if_neg hc]
  rw [e]
  refine vc_callV _ _ (fun s1 _ => each_ct s (Bd.ok_of_cnt hc) s1) (fun v s' h => h.fine) (fun _ => rfl) rfl (fun v s1 _ hv => ?_)
  exact vc_ret (fun β s' hs' _ => hv.mono hs')
end Go.Proofs.YthjahianafohjaaY
set_option linter.unusedSimpArgs false
set_option linter.unusedVariables false
namespace Go.Proofs.YthjahianafohjaaY
open Go.Sy Go.Bun
theorem yB_bds {S : Bd} {k : Nat} {args : List Value} (h : (S.list.map yB)[k]? = some args) : ∃ b, S.bds[k]? = some b /\ args = yB b.l := by
 rw [Bd.bds_l, List.map_map, List.getElem?_map, Option.map_eq_some_iff] at h
 obtain ⟨b, hb, rfl⟩ := h
 exact ⟨b, hb, rfl⟩
def o_best : Out :=
 (.call 68 [(.agg [(.int .i64 (.a 6)), (.int .i64 (.a 7)), (.int .i64 (.a 8)), (.int .i64 (.a 9)), (.int .i64 (.a 10)), (.int .i64 (.a 11))])] [] (.bool (.a 0)) 0 1 0
 (.ite (.not (.a 0))
 (.ret (.tup [(.agg [(.int .i64 (.l 0)), (.int .i64 (.l 0)), (.int .i64 (.l 0)), (.int .i64 (.l 0)), (.int .i64 (.l 0)), (.int .i64 (.l 0))]), (.int .i64 (.l 0))]) [])
 (.call 70 [(.va 0)] [] (.va 1) 0 0 1
 (.call 71 [(.agg [(.int .i64 (.a 0)), (.int .i64 (.a 1)), (.int .i64 (.a 2)), (.int .i64 (.a 3)), (.int .i64 (.a 4)), (.int .i64 (.a 5))])] [] (.va 2) 0 0 1
 (.stop { todo := [(.code [false, true, false, true, true, true, true, true]), (.inBlock 0), (.code [true, true, true, true, true, true])], sl := [(.va 0), (.agg [(.int .i64 (.a 0)), (.int .i64 (.a 1)), (.int .i64 (.a 2)), (.int .i64 (.a 3)), (.int .i64 (.a 4)), (.int .i64 (.a 5))]), (.agg [(.int .i64 (.a 6)), (.int .i64 (.a 7)), (.int .i64 (.a 8)), (.int .i64 (.a 9)), (.int .i64 (.a 10)), (.int .i64 (.a 11))]), .undef, (.ptr 0 0), (.ptr 1 0), (.ptr 2 0), (.int .i64 (.l 0)), (.ptr 3 0), (.ptr 4 0), (.ptr 5 0), (.ptr 6 0), .undef, .undef, (.agg [(.int .i64 (.a 6)), (.int .i64 (.a 7)), (.int .i64 (.a 8)), (.int .i64 (.a 9)), (.int .i64 (.a 10)), (.int .i64 (.a 11))]), (.bool (.a 0)), (.bool (.not (.a 0))), .undef, (.va 0), (.va 1), (.agg [(.int .i64 (.l 0)), (.int .i64 (.l 0)), (.int .i64 (.l 0)), (.int .i64 (.l 0)), (.int .i64 (.l 0)), (.int .i64 (.l 0))]), (.agg [(.int .i64 (.a 0)), (.int .i64 (.a 1)), (.int .i64 (.a 2)), (.int .i64 (.a 3)), (.int .i64 (.a 4)), (.int .i64 (.a 5))]), (.va 2), .undef, .undef, .undef, .undef, .undef, .undef, .undef, .undef, .undef, .undef, .undef, .undef, .undef], H := [(.cells [(.int .i64 (.a 0)), (.int .i64 (.a 1)), (.int .i64 (.a 2)), (.int .i64 (.a 3)), (.int .i64 (.a 4)), (.int .i64 (.a 5))] 42 false), (.cells [(.int .i64 (.a 6)), (.int .i64 (.a 7)), (.int .i64 (.a 8)), (.int .i64 (.a 9)), (.int .i64 (.a 10)), (.int .i64 (.a 11))] 40 false), (.cells [(.int .i64 (.l 0)), (.int .i64 (.l 0)), (.int .i64 (.l 0)), (.int .i64 (.l 0)), (.int .i64 (.l 0)), (.int .i64 (.l 0))] 42 false), (.cells [(.fn 69 [])] 99 false), (.cells [(.va 1)] 100 false), (.cells [(.int .i64 (.l 0)), (.int .i64 (.l 0)), (.int .i64 (.l 0)), (.int .i64 (.l 0)), (.int .i64 (.l 0)), (.int .i64 (.l 0))] 42 false), (.cells [(.int .i64 (.l 0))] 2 false)], ni := 12, nb := 1, nv := 3, nj := 0 })))))
theorem o_best_eq : run (cx true [] []) (fnOf Try.f62) 5000 (startCfg Try.f62.ntmps [.va 0, b6 0, b6 6] 12 0 1) = o_best := by kernel_rfl
theorem o_best_ct {Q : Value -> Hp -> Prop} {s : Hp} (i : List Int) (b : List Bool) (v : List Value) (hi : i.length = 12) (hb : b.length = 0) (hv : v.length = 1) (hok : v.all fineV = true)
  (h : ∀ w0, VC Try.prog Q (Go.Sy.Reach Try.prog 62 (Ret Q s w0) (fnOf Try.f62).body w0 s) o_best ⟨i, b, v, []⟩ s) : Ct Try.prog 62 (SV.dens ⟨i, b, v, []⟩ id [.va 0, b6 0, b6 6]) s Q := by
 refine ct_run (fn := fnOf Try.f62) (progOk true [] []) Try.func62 rfl rfl 5000 (fun x hx => List.all_eq_true.1 hok x hx) rfl (fun w0 => ?_)
 rw [hi, hb, hv, o_best_eq]
 exact h w0
def be_tr : Cfg :=
 { todo := [], sl := [], H := [(.cells [(.int .i64 (.a 0)), (.int .i64 (.a 1)), (.int .i64 (.a 2)), (.int .i64 (.a 3)), (.int .i64 (.a 4)), (.int .i64 (.a 5))] 42 false), (.cells [(.int .i64 (.a 6)), (.int .i64 (.a 7)), (.int .i64 (.a 8)), (.int .i64 (.a 9)), (.int .i64 (.a 10)), (.int .i64 (.a 11))] 40 false), (.cells [(.int .i64 (.l 0)), (.int .i64 (.l 0)), (.int .i64 (.l 0)), (.int .i64 (.l 0)), (.int .i64 (.l 0)), (.int .i64 (.l 0))] 42 false), (.cells [(.fn 69 [])] 99 false), (.cells [(.va 1)] 100 false), (.cells [(.int .i64 (.a 12)), (.int .i64 (.a 13)), (.int .i64 (.a 14)), (.int .i64 (.a 15)), (.int .i64 (.a 16)), (.int .i64 (.a 17))] 42 false), (.cells [(.int .i64 (.a 18))] 2 false)], ni := 19, nb := 2, nv := 3, nj := 0, fs := [[(.va 0), (.agg [(.int .i64 (.a 0)), (.int .i64 (.a 1)), (.int .i64 (.a 2)), (.int .i64 (.a 3)), (.int .i64 (.a 4)), (.int .i64 (.a 5))]), (.agg [(.int .i64 (.a 6)), (.int .i64 (.a 7)), (.int .i64 (.a 8)), (.int .i64 (.a 9)), (.int .i64 (.a 10)), (.int .i64 (.a 11))]), .undef, (.ptr 0 0), (.ptr 1 0), (.ptr 2 0), (.int .i64 (.l 0)), (.ptr 3 0), (.ptr 4 0), (.ptr 5 0), (.ptr 6 0), .undef, .undef, (.agg [(.int .i64 (.a 6)), (.int .i64 (.a 7)), (.int .i64 (.a 8)), (.int .i64 (.a 9)), (.int .i64 (.a 10)), (.int .i64 (.a 11))]), (.bool (.a 0)), (.bool (.a 1)), .undef, (.va 0), (.va 1), (.agg [(.int .i64 (.l 0)), (.int .i64 (.l 0)), (.int .i64 (.l 0)), (.int .i64 (.l 0)), (.int .i64 (.l 0)), (.int .i64 (.l 0))]), (.agg [(.int .i64 (.a 0)), (.int .i64 (.a 1)), (.int .i64 (.a 2)), (.int .i64 (.a 3)), (.int .i64 (.a 4)), (.int .i64 (.a 5))]), (.va 2), .undef, .undef, .undef, .undef, .undef, .undef, .undef, .undef, .undef, .undef, .undef, .undef, .undef]] }
def be_tsl : List SV :=
 [(.va 0), (.agg [(.int .i64 (.a 0)), (.int .i64 (.a 1)), (.int .i64 (.a 2)), (.int .i64 (.a 3)), (.int .i64 (.a 4)), (.int .i64 (.a 5))]), (.agg [(.int .i64 (.a 6)), (.int .i64 (.a 7)), (.int .i64 (.a 8)), (.int .i64 (.a 9)), (.int .i64 (.a 10)), (.int .i64 (.a 11))]), .undef, (.ptr 0 0), (.ptr 1 0), (.ptr 2 0), (.int .i64 (.l 0)), (.ptr 3 0), (.ptr 4 0), (.ptr 5 0), (.ptr 6 0), .undef, .undef, (.agg [(.int .i64 (.a 6)), (.int .i64 (.a 7)), (.int .i64 (.a 8)), (.int .i64 (.a 9)), (.int .i64 (.a 10)), (.int .i64 (.a 11))]), (.bool (.a 0)), (.bool (.a 1)), .undef, (.va 0), (.va 1), (.agg [(.int .i64 (.l 0)), (.int .i64 (.l 0)), (.int .i64 (.l 0)), (.int .i64 (.l 0)), (.int .i64 (.l 0)), (.int .i64 (.l 0))]), (.agg [(.int .i64 (.a 0)), (.int .i64 (.a 1)), (.int .i64 (.a 2)), (.int .i64 (.a 3)), (.int .i64 (.a 4)), (.int .i64 (.a 5))]), (.va 2), .undef, .undef, .undef, .undef, .undef, .undef, .undef, .undef, .undef, .undef, .undef, .undef, .undef]
def be_A : Asg :=
 ⟨[(.a 0), (.a 1), (.a 2), (.a 3), (.a 4), (.a 5), (.a 6), (.a 7), (.a 8), (.a 9), (.a 10), (.a 11), (.l 0), (.l 0), (.l 0), (.l 0), (.l 0), (.l 0), (.l 0)], [(.a 0), (.not (.a 0))], [(.va 0), (.va 1), (.va 2)], []⟩
def be_g0 : Cfg :=
 { todo := [(.code [false, true, false, true, true, true, true, true]), (.inBlock 0), (.code [true, true, true, true, true, true])], sl := [(.va 0), (.agg [(.int .i64 (.a 0)), (.int .i64 (.a 1)), (.int .i64 (.a 2)), (.int .i64 (.a 3)), (.int .i64 (.a 4)), (.int .i64 (.a 5))]), (.agg [(.int .i64 (.a 6)), (.int .i64 (.a 7)), (.int .i64 (.a 8)), (.int .i64 (.a 9)), (.int .i64 (.a 10)), (.int .i64 (.a 11))]), .undef, (.ptr 0 0), (.ptr 1 0), (.ptr 2 0), (.int .i64 (.l 0)), (.ptr 3 0), (.ptr 4 0), (.ptr 5 0), (.ptr 6 0), .undef, .undef, (.agg [(.int .i64 (.a 6)), (.int .i64 (.a 7)), (.int .i64 (.a 8)), (.int .i64 (.a 9)), (.int .i64 (.a 10)), (.int .i64 (.a 11))]), (.bool (.a 0)), (.bool (.not (.a 0))), .undef, (.va 0), (.va 1), (.agg [(.int .i64 (.l 0)), (.int .i64 (.l 0)), (.int .i64 (.l 0)), (.int .i64 (.l 0)), (.int .i64 (.l 0)), (.int .i64 (.l 0))]), (.agg [(.int .i64 (.a 0)), (.int .i64 (.a 1)), (.int .i64 (.a 2)), (.int .i64 (.a 3)), (.int .i64 (.a 4)), (.int .i64 (.a 5))]), (.va 2), .undef, .undef, .undef, .undef, .undef, .undef, .undef, .undef, .undef, .undef, .undef, .undef, .undef], H := [(.cells [(.int .i64 (.a 0)), (.int .i64 (.a 1)), (.int .i64 (.a 2)), (.int .i64 (.a 3)), (.int .i64 (.a 4)), (.int .i64 (.a 5))] 42 false), (.cells [(.int .i64 (.a 6)), (.int .i64 (.a 7)), (.int .i64 (.a 8)), (.int .i64 (.a 9)), (.int .i64 (.a 10)), (.int .i64 (.a 11))] 40 false), (.cells [(.int .i64 (.l 0)), (.int .i64 (.l 0)), (.int .i64 (.l 0)), (.int .i64 (.l 0)), (.int .i64 (.l 0)), (.int .i64 (.l 0))] 42 false), (.cells [(.fn 69 [])] 99 false), (.cells [(.va 1)] 100 false), (.cells [(.int .i64 (.l 0)), (.int .i64 (.l 0)), (.int .i64 (.l 0)), (.int .i64 (.l 0)), (.int .i64 (.l 0)), (.int .i64 (.l 0))] 42 false), (.cells [(.int .i64 (.l 0))] 2 false)], ni := 12, nb := 1, nv := 3, nj := 0 }
def be_o : Out :=
 (.stop { todo := [.begin, (.code [true, false, true, false, true, true, true, true, true])], sl := [(.va 0), (.agg [(.int .i64 (.a 0)), (.int .i64 (.a 1)), (.int .i64 (.a 2)), (.int .i64 (.a 3)), (.int .i64 (.a 4)), (.int .i64 (.a 5))]), (.agg [(.int .i64 (.a 6)), (.int .i64 (.a 7)), (.int .i64 (.a 8)), (.int .i64 (.a 9)), (.int .i64 (.a 10)), (.int .i64 (.a 11))]), .undef, (.ptr 0 0), (.ptr 1 0), (.ptr 2 0), (.int .i64 (.l 0)), (.ptr 3 0), (.ptr 4 0), (.ptr 5 0), (.ptr 6 0), (.ptr 7 0), .undef, (.agg [(.int .i64 (.a 6)), (.int .i64 (.a 7)), (.int .i64 (.a 8)), (.int .i64 (.a 9)), (.int .i64 (.a 10)), (.int .i64 (.a 11))]), (.bool (.a 0)), (.bool (.a 1)), .undef, (.va 0), (.va 1), (.agg [(.int .i64 (.l 0)), (.int .i64 (.l 0)), (.int .i64 (.l 0)), (.int .i64 (.l 0)), (.int .i64 (.l 0)), (.int .i64 (.l 0))]), (.agg [(.int .i64 (.a 0)), (.int .i64 (.a 1)), (.int .i64 (.a 2)), (.int .i64 (.a 3)), (.int .i64 (.a 4)), (.int .i64 (.a 5))]), (.va 2), (.agg [(.int .i64 (.a 19)), (.int .i64 (.a 20)), (.int .i64 (.a 21)), (.int .i64 (.a 22)), (.int .i64 (.a 23)), (.int .i64 (.a 24))]), .undef, .undef, .undef, .undef, .undef, .undef, .undef, .undef, .undef, .undef, .undef, .undef], H := [(.cells [(.int .i64 (.a 0)), (.int .i64 (.a 1)), (.int .i64 (.a 2)), (.int .i64 (.a 3)), (.int .i64 (.a 4)), (.int .i64 (.a 5))] 42 false), (.cells [(.int .i64 (.a 6)), (.int .i64 (.a 7)), (.int .i64 (.a 8)), (.int .i64 (.a 9)), (.int .i64 (.a 10)), (.int .i64 (.a 11))] 40 false), (.cells [(.int .i64 (.l 0)), (.int .i64 (.l 0)), (.int .i64 (.l 0)), (.int .i64 (.l 0)), (.int .i64 (.l 0)), (.int .i64 (.l 0))] 42 false), (.cells [(.fn 69 [])] 99 false), (.cells [(.va 1)] 100 false), (.cells [(.int .i64 (.a 12)), (.int .i64 (.a 13)), (.int .i64 (.a 14)), (.int .i64 (.a 15)), (.int .i64 (.a 16)), (.int .i64 (.a 17))] 42 false), (.cells [(.int .i64 (.a 18))] 2 false), (.cells [(.int .i64 (.a 19)), (.int .i64 (.a 20)), (.int .i64 (.a 21)), (.int .i64 (.a 22)), (.int .i64 (.a 23)), (.int .i64 (.a 24))] 42 false)], ni := 25, nb := 2, nv := 3, nj := 0, fs := [[(.va 0), (.agg [(.int .i64 (.a 0)), (.int .i64 (.a 1)), (.int .i64 (.a 2)), (.int .i64 (.a 3)), (.int .i64 (.a 4)), (.int .i64 (.a 5))]), (.agg [(.int .i64 (.a 6)), (.int .i64 (.a 7)), (.int .i64 (.a 8)), (.int .i64 (.a 9)), (.int .i64 (.a 10)), (.int .i64 (.a 11))]), .undef, (.ptr 0 0), (.ptr 1 0), (.ptr 2 0), (.int .i64 (.l 0)), (.ptr 3 0), (.ptr 4 0), (.ptr 5 0), (.ptr 6 0), .undef, .undef, (.agg [(.int .i64 (.a 6)), (.int .i64 (.a 7)), (.int .i64 (.a 8)), (.int .i64 (.a 9)), (.int .i64 (.a 10)), (.int .i64 (.a 11))]), (.bool (.a 0)), (.bool (.a 1)), .undef, (.va 0), (.va 1), (.agg [(.int .i64 (.l 0)), (.int .i64 (.l 0)), (.int .i64 (.l 0)), (.int .i64 (.l 0)), (.int .i64 (.l 0)), (.int .i64 (.l 0))]), (.agg [(.int .i64 (.a 0)), (.int .i64 (.a 1)), (.int .i64 (.a 2)), (.int .i64 (.a 3)), (.int .i64 (.a 4)), (.int .i64 (.a 5))]), (.va 2), .undef, .undef, .undef, .undef, .undef, .undef, .undef, .undef, .undef, .undef, .undef, .undef, .undef]] })
def be_c : Cfg :=
 { todo := [(.code [true, false, true, false, true, true, true, true, true])], sl := [(.va 0), (.agg [(.int .i64 (.a 0)), (.int .i64 (.a 1)), (.int .i64 (.a 2)), (.int .i64 (.a 3)), (.int .i64 (.a 4)), (.int .i64 (.a 5))]), (.agg [(.int .i64 (.a 6)), (.int .i64 (.a 7)), (.int .i64 (.a 8)), (.int .i64 (.a 9)), (.int .i64 (.a 10)), (.int .i64 (.a 11))]), .undef, (.ptr 0 0), (.ptr 1 0), (.ptr 2 0), (.int .i64 (.l 0)), (.ptr 3 0), (.ptr 4 0), (.ptr 5 0), (.ptr 6 0), (.ptr 7 0), .undef, (.agg [(.int .i64 (.a 6)), (.int .i64 (.a 7)), (.int .i64 (.a 8)), (.int .i64 (.a 9)), (.int .i64 (.a 10)), (.int .i64 (.a 11))]), (.bool (.a 0)), (.bool (.a 1)), .undef, (.va 0), (.va 1), (.agg [(.int .i64 (.l 0)), (.int .i64 (.l 0)), (.int .i64 (.l 0)), (.int .i64 (.l 0)), (.int .i64 (.l 0)), (.int .i64 (.l 0))]), (.agg [(.int .i64 (.a 0)), (.int .i64 (.a 1)), (.int .i64 (.a 2)), (.int .i64 (.a 3)), (.int .i64 (.a 4)), (.int .i64 (.a 5))]), (.va 2), (.agg [(.int .i64 (.a 19)), (.int .i64 (.a 20)), (.int .i64 (.a 21)), (.int .i64 (.a 22)), (.int .i64 (.a 23)), (.int .i64 (.a 24))]), .undef, .undef, .undef, .undef, .undef, .undef, .undef, .undef, .undef, .undef, .undef, .undef], H := [(.cells [(.int .i64 (.a 0)), (.int .i64 (.a 1)), (.int .i64 (.a 2)), (.int .i64 (.a 3)), (.int .i64 (.a 4)), (.int .i64 (.a 5))] 42 false), (.cells [(.int .i64 (.a 6)), (.int .i64 (.a 7)), (.int .i64 (.a 8)), (.int .i64 (.a 9)), (.int .i64 (.a 10)), (.int .i64 (.a 11))] 40 false), (.cells [(.int .i64 (.l 0)), (.int .i64 (.l 0)), (.int .i64 (.l 0)), (.int .i64 (.l 0)), (.int .i64 (.l 0)), (.int .i64 (.l 0))] 42 false), (.cells [(.fn 69 [])] 99 false), (.cells [(.va 1)] 100 false), (.cells [(.int .i64 (.a 12)), (.int .i64 (.a 13)), (.int .i64 (.a 14)), (.int .i64 (.a 15)), (.int .i64 (.a 16)), (.int .i64 (.a 17))] 42 false), (.cells [(.int .i64 (.a 18))] 2 false), (.cells [(.int .i64 (.a 19)), (.int .i64 (.a 20)), (.int .i64 (.a 21)), (.int .i64 (.a 22)), (.int .i64 (.a 23)), (.int .i64 (.a 24))] 42 false)], ni := 25, nb := 2, nv := 3, nj := 0, fs := [[(.va 0), (.agg [(.int .i64 (.a 0)), (.int .i64 (.a 1)), (.int .i64 (.a 2)), (.int .i64 (.a 3)), (.int .i64 (.a 4)), (.int .i64 (.a 5))]), (.agg [(.int .i64 (.a 6)), (.int .i64 (.a 7)), (.int .i64 (.a 8)), (.int .i64 (.a 9)), (.int .i64 (.a 10)), (.int .i64 (.a 11))]), .undef, (.ptr 0 0), (.ptr 1 0), (.ptr 2 0), (.int .i64 (.l 0)), (.ptr 3 0), (.ptr 4 0), (.ptr 5 0), (.ptr 6 0), .undef, .undef, (.agg [(.int .i64 (.a 6)), (.int .i64 (.a 7)), (.int .i64 (.a 8)), (.int .i64 (.a 9)), (.int .i64 (.a 10)), (.int .i64 (.a 11))]), (.bool (.a 0)), (.bool (.a 1)), .undef, (.va 0), (.va 1), (.agg [(.int .i64 (.l 0)), (.int .i64 (.l 0)), (.int .i64 (.l 0)), (.int .i64 (.l 0)), (.int .i64 (.l 0)), (.int .i64 (.l 0))]), (.agg [(.int .i64 (.a 0)), (.int .i64 (.a 1)), (.int .i64 (.a 2)), (.int .i64 (.a 3)), (.int .i64 (.a 4)), (.int .i64 (.a 5))]), (.va 2), .undef, .undef, .undef, .undef, .undef, .undef, .undef, .undef, .undef, .undef, .undef, .undef, .undef]] }
def be_b : Out :=
 (.call 69 [(.va 1), (.agg [(.int .i64 (.a 6)), (.int .i64 (.a 7)), (.int .i64 (.a 8)), (.int .i64 (.a 9)), (.int .i64 (.a 10)), (.int .i64 (.a 11))]), (.agg [(.int .i64 (.a 19)), (.int .i64 (.a 20)), (.int .i64 (.a 21)), (.int .i64 (.a 22)), (.int .i64 (.a 23)), (.int .i64 (.a 24))])] [] (.int .i64 (.a 25)) 1 0 0
 (.ite (.lt (.a 18) (.a 25))
 (.stop { todo := [], sl := [(.va 0), (.agg [(.int .i64 (.a 0)), (.int .i64 (.a 1)), (.int .i64 (.a 2)), (.int .i64 (.a 3)), (.int .i64 (.a 4)), (.int .i64 (.a 5))]), (.agg [(.int .i64 (.a 6)), (.int .i64 (.a 7)), (.int .i64 (.a 8)), (.int .i64 (.a 9)), (.int .i64 (.a 10)), (.int .i64 (.a 11))]), .undef, (.ptr 0 0), (.ptr 1 0), (.ptr 2 0), (.int .i64 (.l 0)), (.ptr 3 0), (.ptr 4 0), (.ptr 5 0), (.ptr 6 0), (.ptr 7 0), (.int .i64 (.a 25)), (.agg [(.int .i64 (.a 6)), (.int .i64 (.a 7)), (.int .i64 (.a 8)), (.int .i64 (.a 9)), (.int .i64 (.a 10)), (.int .i64 (.a 11))]), (.bool (.a 0)), (.bool (.a 1)), .undef, (.va 0), (.va 1), (.agg [(.int .i64 (.l 0)), (.int .i64 (.l 0)), (.int .i64 (.l 0)), (.int .i64 (.l 0)), (.int .i64 (.l 0)), (.int .i64 (.l 0))]), (.agg [(.int .i64 (.a 0)), (.int .i64 (.a 1)), (.int .i64 (.a 2)), (.int .i64 (.a 3)), (.int .i64 (.a 4)), (.int .i64 (.a 5))]), (.va 2), (.agg [(.int .i64 (.a 19)), (.int .i64 (.a 20)), (.int .i64 (.a 21)), (.int .i64 (.a 22)), (.int .i64 (.a 23)), (.int .i64 (.a 24))]), (.fn 69 []), (.va 1), (.agg [(.int .i64 (.a 6)), (.int .i64 (.a 7)), (.int .i64 (.a 8)), (.int .i64 (.a 9)), (.int .i64 (.a 10)), (.int .i64 (.a 11))]), (.agg [(.int .i64 (.a 19)), (.int .i64 (.a 20)), (.int .i64 (.a 21)), (.int .i64 (.a 22)), (.int .i64 (.a 23)), (.int .i64 (.a 24))]), (.int .i64 (.a 25)), (.int .i64 (.a 25)), (.int .i64 (.a 18)), (.bool (.lt (.a 18) (.a 25))), (.agg [(.int .i64 (.a 19)), (.int .i64 (.a 20)), (.int .i64 (.a 21)), (.int .i64 (.a 22)), (.int .i64 (.a 23)), (.int .i64 (.a 24))]), (.int .i64 (.a 25)), .undef, .undef], H := [(.cells [(.int .i64 (.a 0)), (.int .i64 (.a 1)), (.int .i64 (.a 2)), (.int .i64 (.a 3)), (.int .i64 (.a 4)), (.int .i64 (.a 5))] 42 false), (.cells [(.int .i64 (.a 6)), (.int .i64 (.a 7)), (.int .i64 (.a 8)), (.int .i64 (.a 9)), (.int .i64 (.a 10)), (.int .i64 (.a 11))] 40 false), (.cells [(.int .i64 (.l 0)), (.int .i64 (.l 0)), (.int .i64 (.l 0)), (.int .i64 (.l 0)), (.int .i64 (.l 0)), (.int .i64 (.l 0))] 42 false), (.cells [(.fn 69 [])] 99 false), (.cells [(.va 1)] 100 false), (.cells [(.int .i64 (.a 19)), (.int .i64 (.a 20)), (.int .i64 (.a 21)), (.int .i64 (.a 22)), (.int .i64 (.a 23)), (.int .i64 (.a 24))] 42 false), (.cells [(.int .i64 (.a 25))] 2 false), (.cells [(.int .i64 (.a 19)), (.int .i64 (.a 20)), (.int .i64 (.a 21)), (.int .i64 (.a 22)), (.int .i64 (.a 23)), (.int .i64 (.a 24))] 42 false)], ni := 26, nb := 2, nv := 3, nj := 0, fs := [[(.va 0), (.agg [(.int .i64 (.a 0)), (.int .i64 (.a 1)), (.int .i64 (.a 2)), (.int .i64 (.a 3)), (.int .i64 (.a 4)), (.int .i64 (.a 5))]), (.agg [(.int .i64 (.a 6)), (.int .i64 (.a 7)), (.int .i64 (.a 8)), (.int .i64 (.a 9)), (.int .i64 (.a 10)), (.int .i64 (.a 11))]), .undef, (.ptr 0 0), (.ptr 1 0), (.ptr 2 0), (.int .i64 (.l 0)), (.ptr 3 0), (.ptr 4 0), (.ptr 5 0), (.ptr 6 0), .undef, .undef, (.agg [(.int .i64 (.a 6)), (.int .i64 (.a 7)), (.int .i64 (.a 8)), (.int .i64 (.a 9)), (.int .i64 (.a 10)), (.int .i64 (.a 11))]), (.bool (.a 0)), (.bool (.a 1)), .undef, (.va 0), (.va 1), (.agg [(.int .i64 (.l 0)), (.int .i64 (.l 0)), (.int .i64 (.l 0)), (.int .i64 (.l 0)), (.int .i64 (.l 0)), (.int .i64 (.l 0))]), (.agg [(.int .i64 (.a 0)), (.int .i64 (.a 1)), (.int .i64 (.a 2)), (.int .i64 (.a 3)), (.int .i64 (.a 4)), (.int .i64 (.a 5))]), (.va 2), .undef, .undef, .undef, .undef, .undef, .undef, .undef, .undef, .undef, .undef, .undef, .undef, .undef]] })
 (.stop { todo := [], sl := [(.va 0), (.agg [(.int .i64 (.a 0)), (.int .i64 (.a 1)), (.int .i64 (.a 2)), (.int .i64 (.a 3)), (.int .i64 (.a 4)), (.int .i64 (.a 5))]), (.agg [(.int .i64 (.a 6)), (.int .i64 (.a 7)), (.int .i64 (.a 8)), (.int .i64 (.a 9)), (.int .i64 (.a 10)), (.int .i64 (.a 11))]), .undef, (.ptr 0 0), (.ptr 1 0), (.ptr 2 0), (.int .i64 (.l 0)), (.ptr 3 0), (.ptr 4 0), (.ptr 5 0), (.ptr 6 0), (.ptr 7 0), (.int .i64 (.a 25)), (.agg [(.int .i64 (.a 6)), (.int .i64 (.a 7)), (.int .i64 (.a 8)), (.int .i64 (.a 9)), (.int .i64 (.a 10)), (.int .i64 (.a 11))]), (.bool (.a 0)), (.bool (.a 1)), .undef, (.va 0), (.va 1), (.agg [(.int .i64 (.l 0)), (.int .i64 (.l 0)), (.int .i64 (.l 0)), (.int .i64 (.l 0)), (.int .i64 (.l 0)), (.int .i64 (.l 0))]), (.agg [(.int .i64 (.a 0)), (.int .i64 (.a 1)), (.int .i64 (.a 2)), (.int .i64 (.a 3)), (.int .i64 (.a 4)), (.int .i64 (.a 5))]), (.va 2), (.agg [(.int .i64 (.a 19)), (.int .i64 (.a 20)), (.int .i64 (.a 21)), (.int .i64 (.a 22)), (.int .i64 (.a 23)), (.int .i64 (.a 24))]), (.fn 69 []), (.va 1), (.agg [(.int .i64 (.a 6)), (.int .i64 (.a 7)), (.int .i64 (.a 8)), (.int .i64 (.a 9)), (.int .i64 (.a 10)), (.int .i64 (.a 11))]), (.agg [(.int .i64 (.a 19)), (.int .i64 (.a 20)), (.int .i64 (.a 21)), (.int .i64 (.a 22)), (.int .i64 (.a 23)), (.int .i64 (.a 24))]), (.int .i64 (.a 25)), (.int .i64 (.a 25)), (.int .i64 (.a 18)), (.bool (.lt (.a 18) (.a 25))), .undef, .undef, .undef, .undef], H := [(.cells [(.int .i64 (.a 0)), (.int .i64 (.a 1)), (.int .i64 (.a 2)), (.int .i64 (.a 3)), (.int .i64 (.a 4)), (.int .i64 (.a 5))] 42 false), (.cells [(.int .i64 (.a 6)), (.int .i64 (.a 7)), (.int .i64 (.a 8)), (.int .i64 (.a 9)), (.int .i64 (.a 10)), (.int .i64 (.a 11))] 40 false), (.cells [(.int .i64 (.l 0)), (.int .i64 (.l 0)), (.int .i64 (.l 0)), (.int .i64 (.l 0)), (.int .i64 (.l 0)), (.int .i64 (.l 0))] 42 false), (.cells [(.fn 69 [])] 99 false), (.cells [(.va 1)] 100 false), (.cells [(.int .i64 (.a 12)), (.int .i64 (.a 13)), (.int .i64 (.a 14)), (.int .i64 (.a 15)), (.int .i64 (.a 16)), (.int .i64 (.a 17))] 42 false), (.cells [(.int .i64 (.a 18))] 2 false), (.cells [(.int .i64 (.a 19)), (.int .i64 (.a 20)), (.int .i64 (.a 21)), (.int .i64 (.a 22)), (.int .i64 (.a 23)), (.int .i64 (.a 24))] 42 false)], ni := 26, nb := 2, nv := 3, nj := 0, fs := [[(.va 0), (.agg [(.int .i64 (.a 0)), (.int .i64 (.a 1)), (.int .i64 (.a 2)), (.int .i64 (.a 3)), (.int .i64 (.a 4)), (.int .i64 (.a 5))]), (.agg [(.int .i64 (.a 6)), (.int .i64 (.a 7)), (.int .i64 (.a 8)), (.int .i64 (.a 9)), (.int .i64 (.a 10)), (.int .i64 (.a 11))]), .undef, (.ptr 0 0), (.ptr 1 0), (.ptr 2 0), (.int .i64 (.l 0)), (.ptr 3 0), (.ptr 4 0), (.ptr 5 0), (.ptr 6 0), .undef, .undef, (.agg [(.int .i64 (.a 6)), (.int .i64 (.a 7)), (.int .i64 (.a 8)), (.int .i64 (.a 9)), (.int .i64 (.a 10)), (.int .i64 (.a 11))]), (.bool (.a 0)), (.bool (.a 1)), .undef, (.va 0), (.va 1), (.agg [(.int .i64 (.l 0)), (.int .i64 (.l 0)), (.int .i64 (.l 0)), (.int .i64 (.l 0)), (.int .i64 (.l 0)), (.int .i64 (.l 0))]), (.agg [(.int .i64 (.a 0)), (.int .i64 (.a 1)), (.int .i64 (.a 2)), (.int .i64 (.a 3)), (.int .i64 (.a 4)), (.int .i64 (.a 5))]), (.va 2), .undef, .undef, .undef, .undef, .undef, .undef, .undef, .undef, .undef, .undef, .undef, .undef, .undef]] })))
def be_k : Cfg :=
 { todo := [(.inBlock 0), (.code [true, true, true, true, true, true])], sl := [(.va 0), (.agg [(.int .i64 (.a 0)), (.int .i64 (.a 1)), (.int .i64 (.a 2)), (.int .i64 (.a 3)), (.int .i64 (.a 4)), (.int .i64 (.a 5))]), (.agg [(.int .i64 (.a 6)), (.int .i64 (.a 7)), (.int .i64 (.a 8)), (.int .i64 (.a 9)), (.int .i64 (.a 10)), (.int .i64 (.a 11))]), .undef, (.ptr 0 0), (.ptr 1 0), (.ptr 2 0), (.int .i64 (.l 0)), (.ptr 3 0), (.ptr 4 0), (.ptr 5 0), (.ptr 6 0), .undef, .undef, (.agg [(.int .i64 (.a 6)), (.int .i64 (.a 7)), (.int .i64 (.a 8)), (.int .i64 (.a 9)), (.int .i64 (.a 10)), (.int .i64 (.a 11))]), (.bool (.a 0)), (.bool (.a 1)), .undef, (.va 0), (.va 1), (.agg [(.int .i64 (.l 0)), (.int .i64 (.l 0)), (.int .i64 (.l 0)), (.int .i64 (.l 0)), (.int .i64 (.l 0)), (.int .i64 (.l 0))]), (.agg [(.int .i64 (.a 0)), (.int .i64 (.a 1)), (.int .i64 (.a 2)), (.int .i64 (.a 3)), (.int .i64 (.a 4)), (.int .i64 (.a 5))]), (.va 2), .undef, .undef, .undef, .undef, .undef, .undef, .undef, .undef, .undef, .undef, .undef, .undef, .undef], H := [(.cells [(.int .i64 (.a 0)), (.int .i64 (.a 1)), (.int .i64 (.a 2)), (.int .i64 (.a 3)), (.int .i64 (.a 4)), (.int .i64 (.a 5))] 42 false), (.cells [(.int .i64 (.a 6)), (.int .i64 (.a 7)), (.int .i64 (.a 8)), (.int .i64 (.a 9)), (.int .i64 (.a 10)), (.int .i64 (.a 11))] 40 false), (.cells [(.int .i64 (.l 0)), (.int .i64 (.l 0)), (.int .i64 (.l 0)), (.int .i64 (.l 0)), (.int .i64 (.l 0)), (.int .i64 (.l 0))] 42 false), (.cells [(.fn 69 [])] 99 false), (.cells [(.va 1)] 100 false), (.cells [(.int .i64 (.a 12)), (.int .i64 (.a 13)), (.int .i64 (.a 14)), (.int .i64 (.a 15)), (.int .i64 (.a 16)), (.int .i64 (.a 17))] 42 false), (.cells [(.int .i64 (.a 18))] 2 false)], ni := 19, nb := 2, nv := 3, nj := 0 }
theorem be_oeq : run (cl true [] []) (fnOf Try.f62) 5000 (roundCfg be_tr be_tsl [false, true, false, true, true, true, true, true] [23] [(.agg [(.int .i64 (.a 19)), (.int .i64 (.a 20)), (.int .i64 (.a 21)), (.int .i64 (.a 22)), (.int .i64 (.a 23)), (.int .i64 (.a 24))])] 6 0 0) = be_o := by kernel_rfl
theorem be_beq : run (cl true [] []) (fnOf Try.f62) 5000 be_c = be_b := by kernel_rfl
def be_a0 : Asg :=
 ⟨[(.a 0), (.a 1), (.a 2), (.a 3), (.a 4), (.a 5), (.a 6), (.a 7), (.a 8), (.a 9), (.a 10), (.a 11), (.a 19), (.a 20), (.a 21), (.a 22), (.a 23), (.a 24), (.a 25)], [(.a 0), (.a 1)], [(.va 0), (.va 1), (.va 2)], []⟩
def be_a1 : Asg :=
 ⟨[(.a 0), (.a 1), (.a 2), (.a 3), (.a 4), (.a 5), (.a 6), (.a 7), (.a 8), (.a 9), (.a 10), (.a 11), (.a 12), (.a 13), (.a 14), (.a 15), (.a 16), (.a 17), (.a 18)], [(.a 0), (.a 1)], [(.va 0), (.va 1), (.va 2)], []⟩
theorem be_range {Q : Value -> Hp -> Prop} {w0 : World} {s0 : Hp} {Ds : List Nat} (hm : MarksOk w0 Ds) {ys : List (List Value)} {ρ : Env} {s : Hp} (hseq : SeqIs Try.prog s (ρ.v.getD 2 vd) ys)
  (I : Nat -> List Int -> List Bool -> List Value -> Hp -> Prop) (hI : I 0 (be_A.is.map (IE.den ρ)) (be_A.bs.map (BE.den ρ)) (SV.dens ρ id be_A.vs) s)
  (round : ∀ k args is bs vs js s1, is.length = 19 -> bs.length = 2 -> vs.length = 3 -> ys[k]? = some args -> s.le s1 -> I k is bs vs s1 ->
   ∃ is' bs' vs', is'.length = 6 /\ bs'.length = 0 /\ vs'.length = 0 /\ vs'.all fineV = true /\ (∀ β, SV.dens ⟨is ++ is', bs ++ bs', vs ++ vs', js⟩ β [(.agg [(.int .i64 (.a 19)), (.int .i64 (.a 20)), (.int .i64 (.a 21)), (.int .i64 (.a 22)), (.int .i64 (.a 23)), (.int .i64 (.a 24))])] = args) /\
    VC Try.prog Q (RoundT Try.prog 62 Q (fnOf Try.f62).body w0 s0 Ds be_tr [(.inBlock 0), (.code [true, true, true, true, true, true])] s1 (I (k + 1))) be_b ⟨is ++ is', bs ++ bs', vs ++ vs', js⟩ s1)
  (after : ∀ is bs vs js s1, is.length = 19 -> bs.length = 2 -> vs.length = 3 -> s.le s1 -> I ys.length is bs vs s1 -> ∀ D, MarksOk w0 (D :: Ds) -> ReachM Try.prog 62 Q (fnOf Try.f62).body w0 s0 (D :: Ds) be_k ⟨is, bs, vs, js⟩ s1) :
  ReachM Try.prog 62 Q (fnOf Try.f62).body w0 s0 Ds be_g0 ρ s := by
 obtain ⟨F, caps, hsv, eg, hit⟩ := hseq
 have hps : (rf2 (sub (fnOf Try.f62).body [false, true, false, true, true, true, true, true])).toList = [23] := by kernel_rfl
 refine rangeX (fn := fnOf Try.f62) (c := (cl true [] [])) (progOkL _ _ _) rfl hm (noDefer_all (by kernel_rfl)) (p := [false, true, false, true, true, true, true, true]) (gop := rf1 (sub (fnOf Try.f62).body [false, true, false, true, true, true, true, true])) (ps := rf2 (sub (fnOf Try.f62).body [false, true, false, true, true, true, true, true])) (assign := rf3 (sub (fnOf Try.f62).body [false, true, false, true, true, true, true, true])) (bodyc := rf4 (sub (fnOf Try.f62).body [false, true, false, true, true, true, true, true])) (by kernel_rfl) (by intro _ _ _ _ h; cases h) eg hit rfl rfl (sv := .va 2) (by kernel_rfl) (fun _ => hsv) be_tr be_tsl rfl rfl rfl (by kernel_rfl) [(.agg [(.int .i64 (.a 19)), (.int .i64 (.a 20)), (.int .i64 (.a 21)), (.int .i64 (.a 22)), (.int .i64 (.a 23)), (.int .i64 (.a 24))])] 6 0 0 5000 (by rw [<- Array.length_toList, hps]; rfl) I be_A (by kernel_rfl) hI ?_ ?_
 ·intro k args is bs vs js s1 h1 h2 h3 h4 h5 h6 h7
  obtain ⟨is', bs', vs', e1, e2, e3, e4, e5, e6⟩ := round k args is bs vs js s1 h1 h2 h3 h5 h6 h7
  refine ⟨is', bs', vs', e1, e2, e3, e4, e5, ?_⟩
  rw [hps, be_oeq]
  refine ⟨rfl, ?_⟩
  show VC _ _ _ (run (cl true [] []) (fnOf Try.f62) 5000 be_c) _ _
  rw [be_beq]
  exact e6
 ·intro is bs vs js s1 h1 h2 h3 h4 h5 h6
  exact after is bs vs js s1 h1 h2 h3 h5 h6
def bek_s : Cfg :=
 { todo := [(.inBlock 0), (.code [true, true, true, true, true, true])], sl := [(.va 0), (.agg [(.int .i64 (.a 0)), (.int .i64 (.a 1)), (.int .i64 (.a 2)), (.int .i64 (.a 3)), (.int .i64 (.a 4)), (.int .i64 (.a 5))]), (.agg [(.int .i64 (.a 6)), (.int .i64 (.a 7)), (.int .i64 (.a 8)), (.int .i64 (.a 9)), (.int .i64 (.a 10)), (.int .i64 (.a 11))]), .undef, (.ptr 0 0), (.ptr 1 0), (.ptr 2 0), (.int .i64 (.l 0)), (.ptr 3 0), (.ptr 4 0), (.ptr 5 0), (.ptr 6 0), .undef, .undef, (.agg [(.int .i64 (.a 6)), (.int .i64 (.a 7)), (.int .i64 (.a 8)), (.int .i64 (.a 9)), (.int .i64 (.a 10)), (.int .i64 (.a 11))]), (.bool (.a 0)), (.bool (.a 1)), .undef, (.va 0), (.va 1), (.agg [(.int .i64 (.l 0)), (.int .i64 (.l 0)), (.int .i64 (.l 0)), (.int .i64 (.l 0)), (.int .i64 (.l 0)), (.int .i64 (.l 0))]), (.agg [(.int .i64 (.a 0)), (.int .i64 (.a 1)), (.int .i64 (.a 2)), (.int .i64 (.a 3)), (.int .i64 (.a 4)), (.int .i64 (.a 5))]), (.va 2), .undef, .undef, .undef, .undef, .undef, .undef, .undef, .undef, .undef, .undef, .undef, .undef, .undef], H := [(.cells [(.int .i64 (.a 0)), (.int .i64 (.a 1)), (.int .i64 (.a 2)), (.int .i64 (.a 3)), (.int .i64 (.a 4)), (.int .i64 (.a 5))] 42 false), (.cells [(.int .i64 (.a 6)), (.int .i64 (.a 7)), (.int .i64 (.a 8)), (.int .i64 (.a 9)), (.int .i64 (.a 10)), (.int .i64 (.a 11))] 40 false), (.cells [(.int .i64 (.l 0)), (.int .i64 (.l 0)), (.int .i64 (.l 0)), (.int .i64 (.l 0)), (.int .i64 (.l 0)), (.int .i64 (.l 0))] 42 false), (.cells [(.fn 69 [])] 99 false), (.cells [(.va 1)] 100 false), (.cells [(.int .i64 (.a 12)), (.int .i64 (.a 13)), (.int .i64 (.a 14)), (.int .i64 (.a 15)), (.int .i64 (.a 16)), (.int .i64 (.a 17))] 42 false), (.cells [(.int .i64 (.a 18))] 2 false)], ni := 19, nb := 2, nv := 3, nj := 0 }
def bek : Out :=
 (.ret (.tup [(.agg [(.int .i64 (.a 12)), (.int .i64 (.a 13)), (.int .i64 (.a 14)), (.int .i64 (.a 15)), (.int .i64 (.a 16)), (.int .i64 (.a 17))]), (.int .i64 (.a 18))]) [])
theorem bek_eq : run (cx true [] []) (fnOf Try.f62) 5000 bek_s = bek := by kernel_rfl
theorem bek_go {Q : Value -> Hp -> Prop} {w0 : World} {s0 : Hp} {Ds : List Nat} (hm : MarksOk w0 Ds) {r : Env} {s : Hp} (h : VC Try.prog Q (ReachM Try.prog 62 Q (fnOf Try.f62).body w0 s0 Ds) bek r s) : ReachM Try.prog 62 Q (fnOf Try.f62).body w0 s0 Ds bek_s r s := by
 refine reachM_vc (fn := fnOf Try.f62) (progOk true [] []) Try.func62 rfl hm 5000 ?_
 rw [bek_eq]
 exact h
def bestV (x : Bd × Int) : Value := .tuple #[x.1.v, .int .i64 x.2]
def BeI (L : List Of) (S p : Bd) (lv cv fv : Value) (k : Nat) : List Int -> List Bool -> List Value -> Hp -> Prop := fun is bs vs s =>
 ∃ (b : Bd) (m : Int), is = S.l ++ p.l ++ b.l ++ [m] /\ vs = [lv, cv, fv] /\ (b, m) = (S.bds.take k).foldl (bstepD (util L p)) (Bd.zero, 0) /\ OfIn s cv (counting L)
theorem best_ct (L : List Of) (hL : L.length <= 1000) (lv : Value) (S p : Bd) (s : Hp) (hl : OfIn s lv L) : Ct Try.prog 62 [lv, S.v, p.v] s (fun v s' => v = bestV (best L S p)) := by
 refine o_best_ct (S.l ++ p.l) [] [lv] rfl rfl rfl (by simp [hl.fine]) (fun w0 => ?_)
 unfold o_best
 conv => arg 5; simp only [Bd.l, List.cons_append, List.nil_append]
 obtain ⟨q, hq⟩ : ∃ q, q = decide (pok p) := ⟨_, rfl⟩
 have hct : ∀ s1, Ct Try.prog 68 [p.v] s1 (fun v _ => v = .bool q) := fun s1 => by rw [hq]; exact valid_ct p s1
 refine vc_call _ _ [] [q] [] (fun s1 _ => hct s1) (fun _ => rfl) rfl rfl rfl rfl rfl (fun s1 hs1 => ?_)
 conv => arg 5; simp only [List.cons_append, List.nil_append, List.append_nil]
 refine vc_ite (fun h => ?_) (fun h => ?_) <;> simp only [BE.den, List.getD_cons_zero, Bool.not_eq_true', Bool.not_eq_false'] at h <;> subst h
 ·have := of_decide_eq_false hq.symm
  refine vc_ret (fun β s' _ _ => ?_)
  unfold best; rw [if_neg this]; rfl
 have hp := of_decide_eq_true hq.symm
 refine vc_callS _ _ _ (fun s2 hs => counting_ct L hL lv s2 ((hl.mono hs1).mono hs)) (fun _ => rfl) rfl (fun cv s3 hs3 hc => ?_)
 conv => arg 5; simp only [List.cons_append, List.nil_append, List.append_nil]
 refine vc_callV _ _ (fun s1 _ => all_ct S s1) (fun v s' h => h.fine) (fun _ => rfl) rfl (fun fv s4 hs4 hf => vc_stop ?_)
 conv => arg 9; simp only [List.cons_append, List.nil_append, List.append_nil]
 refine be_range (MarksOk.nil w0) (ys := S.list.map yB) hf (BeI L S p lv cv fv) ⟨Bd.zero, 0, rfl, rfl, rfl, hc.mono hs4⟩ ?_ ?_
 ·intro k args is bs vs js s5 l1 l2 l3 hk hs hI
  obtain ⟨b, m, rfl, rfl, hbm, hc5⟩ := hI
  obtain ⟨x, hx, rfl⟩ := yB_bds hk
  have hxok := (Bd.bds_ok x (List.mem_of_getElem? hx)).1
  have hstep : (S.bds.take (k + 1)).foldl (bstepD (util L p)) (Bd.zero, 0) = bstepD (util L p) (b, m) x := by
   rw [List.take_add_one, hx, List.foldl_append, <- hbm]; rfl
  refine ⟨x.l, [], [], rfl, rfl, rfl, rfl, fun β => rfl, ?_⟩
  unfold be_b
  conv => arg 5; simp only [List.cons_append, List.nil_append, List.append_nil, Bd.l]
  obtain ⟨u, hu⟩ : ∃ u, u = util L p x := ⟨_, rfl⟩
  have hct : ∀ s1, s5.le s1 -> Ct Try.prog 69 [cv, p.v, x.v] s1 (fun v _ => v = .int .i64 u) := fun s1 hs1 => by rw [hu]; exact util_ct L hL cv p x hp hxok s1 (hc5.mono hs1)
  refine vc_call _ _ [u] [] [] hct (fun _ => rfl) rfl rfl rfl rfl rfl (fun s6 hs6 => ?_)
  conv => arg 5; simp only [List.cons_append, List.nil_append, List.append_nil]
  refine vc_ite (fun h => ?_) (fun h => ?_) <;> simp only [BE.den, IE.den, SV.den, SV.dens, List.getD_cons_zero, List.getD_cons_succ, List.cons_append, List.nil_append, List.append_assoc, ltB_true, leB_true, eqB_true, ltB_false, leB_false, eqB_false, Bool.not_eq_true', Bool.not_eq_false', Bool.and_eq_true, Bool.or_eq_true, Bool.and_eq_false_iff, Bool.or_eq_false_iff] at h
  ·refine vc_stop (Or.inl ⟨rfl, hs6, be_a0, by kernel_rfl, x, u, rfl, rfl, ?_, hc5.mono hs6⟩)
   rw [hstep]; unfold bstepD; rw [<- hu, if_pos h]
  ·refine vc_stop (Or.inl ⟨rfl, hs6, be_a1, by kernel_rfl, b, m, rfl, rfl, ?_, hc5.mono hs6⟩)
   rw [hstep]; unfold bstepD; rw [<- hu, if_neg h]
 ·intro is bs vs js s5 l1 l2 l3 hs hI D hD
  obtain ⟨b, m, rfl, rfl, hbm, hc5⟩ := hI
  refine bek_go hD ?_
  unfold bek
  conv => arg 5; simp only [List.cons_append, List.nil_append, List.append_nil, Bd.l]
  refine vc_ret (fun β s' _ _ => ?_)
  have hlen : S.bds.take (S.list.map yB).length = S.bds := List.take_of_length_le (by rw [List.length_map, Bd.bds_len]; exact Nat.le_refl _)
  rw [hlen] at hbm
  unfold best bestOf
  rw [if_pos hp, <- hbm]; rfl
abbrev BdIn (s : Hp) (v : Value) (W : List Bd) : Prop := SliceIn s 6 v (W.map Bd.cs)
theorem BdIn.of {s : Hp} {v : Value} {S : Bd} (h : SliceIn s 6 v (S.list.map cI)) : BdIn s v S.bds := by
 rw [Bd.bds_l, List.map_map] at h; exact h
end Go.Proofs.YthjahianafohjaaY
set_option linter.unusedSimpArgs false
set_option linter.unusedVariables false
namespace Go.Proofs.YthjahianafohjaaY
open Go.Sy Go.Bun
abbrev ChIn (s : Hp) (v : Value) (C : List Ch) : Prop := SliceIn s 12 v (C.map Ch.cs)
def pa_o : Out :=
 (.need (.is 0 1)
 (.stop { todo := [(.code [false, false, true, false, true, true]), (.inLoop [false, false, true, false, true, true]), (.inBlock 0), (.code [true, true, true])], sl := [(.va 0), (.agg [(.int .i64 (.a 0)), (.int .i64 (.a 1)), (.int .i64 (.a 2)), (.int .i64 (.a 3)), (.int .i64 (.a 4)), (.int .i64 (.a 5))]), (.va 1), .undef, (.ptr 0 0), .undef, .nilS, .nilS, .undef, .undef, .undef, .undef, (.va 1), (.int .i64 (.slen 1)), (.int .i64 (.l 0)), .undef, .undef, .undef, .undef, .undef, .undef, .undef, .undef, .undef, .undef, .undef, .undef, .undef, .undef, .undef, .undef, .undef, .undef], H := [(.cells [(.int .i64 (.a 0)), (.int .i64 (.a 1)), (.int .i64 (.a 2)), (.int .i64 (.a 3)), (.int .i64 (.a 4)), (.int .i64 (.a 5))] 42 false)], ni := 6, nb := 0, nv := 2, nj := 0 }))
theorem pa_o_eq : run (cx true [[false, false, true, false, true, true]] []) (fnOf Try.f37) 5000 (startCfg Try.f37.ntmps [.va 0, b6 0, .va 1] 6 0 2) = pa_o := by kernel_rfl
theorem pa_o_ct {Q : Value -> Hp -> Prop} {s : Hp} (i : List Int) (b : List Bool) (v : List Value) (hi : i.length = 6) (hb : b.length = 0) (hv : v.length = 2) (hok : v.all fineV = true)
  (h : ∀ w0, VC Try.prog Q (Go.Sy.Reach Try.prog 37 (Ret Q s w0) (fnOf Try.f37).body w0 s) pa_o ⟨i, b, v, []⟩ s) : Ct Try.prog 37 (SV.dens ⟨i, b, v, []⟩ id [.va 0, b6 0, .va 1]) s Q := by
 refine ct_run (fn := fnOf Try.f37) (progOk true [[false, false, true, false, true, true]] []) Try.func37 rfl rfl 5000 (fun x hx => List.all_eq_true.1 hok x hx) rfl (fun w0 => ?_)
 rw [hi, hb, hv, pa_o_eq]
 exact h w0
def pa_a_0 : Asg :=
 ⟨[(.a 0), (.a 1), (.a 2), (.a 3), (.a 4), (.a 5), (.slen 1), (.l 0)], [], [(.va 0), (.va 1), .nilS], [.undef, .undef, .undef, .undef, .undef, .undef, .undef, .undef, .undef, .undef, .undef, .undef, .undef, .undef, .undef, .undef, .undef, .undef, .undef, .undef]⟩
def pa_p0 : Cfg :=
 { todo := [(.code [false, false, true, false, true, true]), (.inLoop [false, false, true, false, true, true]), (.inBlock 0), (.code [true, true, true])], sl := [(.va 0), (.agg [(.int .i64 (.a 0)), (.int .i64 (.a 1)), (.int .i64 (.a 2)), (.int .i64 (.a 3)), (.int .i64 (.a 4)), (.int .i64 (.a 5))]), (.va 1), .undef, (.ptr 0 0), .undef, .nilS, (.va 2), .undef, (.junk 0), (.junk 1), (.junk 2), (.va 1), (.int .i64 (.a 6)), (.int .i64 (.a 7)), (.junk 3), (.junk 4), (.junk 5), (.junk 6), (.junk 7), (.junk 8), (.junk 9), (.junk 10), (.junk 11), (.junk 12), (.junk 13), (.junk 14), (.junk 15), (.junk 16), (.junk 17), (.junk 18), (.junk 19), .undef], H := [(.cells [(.int .i64 (.a 0)), (.int .i64 (.a 1)), (.int .i64 (.a 2)), (.int .i64 (.a 3)), (.int .i64 (.a 4)), (.int .i64 (.a 5))] 42 false), (.row 2 44 12)], ni := 8, nb := 0, nv := 3, nj := 20 }
def pa_o0 : Out :=
 (.ite (.lt (.a 7) (.a 6))
 (.need (.and (.le (.l 0) (.a 7)) (.lt (.a 7) (.slen 1)))
 (.load (.ea 1 (.a 7) 6 0) [(.int .i64 (.a 8)), (.int .i64 (.a 9)), (.int .i64 (.a 10)), (.int .i64 (.a 11)), (.int .i64 (.a 12)), (.int .i64 (.a 13))] 6 0 0
 (.call 62 [(.va 0), (.agg [(.int .i64 (.a 0)), (.int .i64 (.a 1)), (.int .i64 (.a 2)), (.int .i64 (.a 3)), (.int .i64 (.a 4)), (.int .i64 (.a 5))]), (.agg [(.int .i64 (.a 8)), (.int .i64 (.a 9)), (.int .i64 (.a 10)), (.int .i64 (.a 11)), (.int .i64 (.a 12)), (.int .i64 (.a 13))])] [] (.tup [(.agg [(.int .i64 (.a 14)), (.int .i64 (.a 15)), (.int .i64 (.a 16)), (.int .i64 (.a 17)), (.int .i64 (.a 18)), (.int .i64 (.a 19))]), (.int .i64 (.a 20))]) 7 0 0
 (.app (some 2) (.lit [[(.int .i64 (.a 8)), (.int .i64 (.a 9)), (.int .i64 (.a 10)), (.int .i64 (.a 11)), (.int .i64 (.a 12)), (.int .i64 (.a 13)), (.int .i64 (.a 14)), (.int .i64 (.a 15)), (.int .i64 (.a 16)), (.int .i64 (.a 17)), (.int .i64 (.a 18)), (.int .i64 (.a 19))]]) 12 96
 (.need (.and (.le (.l (-9223372036854775808)) (.add (.a 7) (.l 1))) (.le (.add (.a 7) (.l 1)) (.l 9223372036854775807)))
 (.stop { todo := [(.code [false, false, true, false, true, true]), (.inLoop [false, false, true, false, true, true]), (.inBlock 0), (.code [true, true, true])], sl := [(.va 0), (.agg [(.int .i64 (.a 0)), (.int .i64 (.a 1)), (.int .i64 (.a 2)), (.int .i64 (.a 3)), (.int .i64 (.a 4)), (.int .i64 (.a 5))]), (.va 1), .undef, (.ptr 0 0), .undef, .nilS, (.va 3), .undef, (.ptr 2 0), (.ptr 3 0), (.int .i64 (.a 20)), (.va 1), (.int .i64 (.a 6)), (.int .i64 (.add (.a 7) (.l 1))), (.bool (.lt (.a 7) (.a 6))), (.ea 1 (.a 7) 6 0), (.agg [(.int .i64 (.a 8)), (.int .i64 (.a 9)), (.int .i64 (.a 10)), (.int .i64 (.a 11)), (.int .i64 (.a 12)), (.int .i64 (.a 13))]), (.tup [(.agg [(.int .i64 (.a 14)), (.int .i64 (.a 15)), (.int .i64 (.a 16)), (.int .i64 (.a 17)), (.int .i64 (.a 18)), (.int .i64 (.a 19))]), (.int .i64 (.a 20))]), (.va 0), (.agg [(.int .i64 (.a 0)), (.int .i64 (.a 1)), (.int .i64 (.a 2)), (.int .i64 (.a 3)), (.int .i64 (.a 4)), (.int .i64 (.a 5))]), (.agg [(.int .i64 (.a 8)), (.int .i64 (.a 9)), (.int .i64 (.a 10)), (.int .i64 (.a 11)), (.int .i64 (.a 12)), (.int .i64 (.a 13))]), (.tup [(.agg [(.int .i64 (.a 14)), (.int .i64 (.a 15)), (.int .i64 (.a 16)), (.int .i64 (.a 17)), (.int .i64 (.a 18)), (.int .i64 (.a 19))]), (.int .i64 (.a 20))]), (.agg [(.int .i64 (.a 14)), (.int .i64 (.a 15)), (.int .i64 (.a 16)), (.int .i64 (.a 17)), (.int .i64 (.a 18)), (.int .i64 (.a 19))]), (.int .i64 (.a 20)), (.va 2), (.agg [(.int .i64 (.a 8)), (.int .i64 (.a 9)), (.int .i64 (.a 10)), (.int .i64 (.a 11)), (.int .i64 (.a 12)), (.int .i64 (.a 13))]), (.agg [(.int .i64 (.a 14)), (.int .i64 (.a 15)), (.int .i64 (.a 16)), (.int .i64 (.a 17)), (.int .i64 (.a 18)), (.int .i64 (.a 19))]), (.agg [(.int .i64 (.a 8)), (.int .i64 (.a 9)), (.int .i64 (.a 10)), (.int .i64 (.a 11)), (.int .i64 (.a 12)), (.int .i64 (.a 13)), (.int .i64 (.a 14)), (.int .i64 (.a 15)), (.int .i64 (.a 16)), (.int .i64 (.a 17)), (.int .i64 (.a 18)), (.int .i64 (.a 19))]), (.sl 4 1), (.va 3), (.int .i64 (.add (.a 7) (.l 1))), .undef], H := [(.cells [(.int .i64 (.a 0)), (.int .i64 (.a 1)), (.int .i64 (.a 2)), (.int .i64 (.a 3)), (.int .i64 (.a 4)), (.int .i64 (.a 5))] 42 false), (.row 3 44 12), (.cells [(.int .i64 (.a 8)), (.int .i64 (.a 9)), (.int .i64 (.a 10)), (.int .i64 (.a 11)), (.int .i64 (.a 12)), (.int .i64 (.a 13))] 40 false), (.cells [(.int .i64 (.a 14)), (.int .i64 (.a 15)), (.int .i64 (.a 16)), (.int .i64 (.a 17)), (.int .i64 (.a 18)), (.int .i64 (.a 19))] 42 false), (.cells [(.int .i64 (.a 8)), (.int .i64 (.a 9)), (.int .i64 (.a 10)), (.int .i64 (.a 11)), (.int .i64 (.a 12)), (.int .i64 (.a 13)), (.int .i64 (.a 14)), (.int .i64 (.a 15)), (.int .i64 (.a 16)), (.int .i64 (.a 17)), (.int .i64 (.a 18)), (.int .i64 (.a 19))] 44 false)], ni := 21, nb := 0, nv := 4, nj := 20 }))))))
 (.ret (.va 2) []))
theorem pa_o0_eq : run (cx true [[false, false, true, false, true, true]] []) (fnOf Try.f37) 5000 pa_p0 = pa_o0 := by kernel_rfl
theorem pa_l0 {Q : Value -> Hp -> Prop} {w0 : World} {s0 : Hp} (I : List Int -> List Bool -> List Value -> Hp -> Prop) (m : List Int -> List Bool -> List Value -> Nat)
  (round : ∀ is bs vs js s1, is.length = 8 -> bs.length = 0 -> vs.length = 3 -> I is bs vs s1 ->
   (∀ (A : Asg) g r s, s1.le s -> Go.Sy.fits ⟨0, 0, 0, 0⟩ A pa_p0 g = true -> I (A.is.map (IE.den r)) (A.bs.map (BE.den r)) (SV.dens r id A.vs) s -> m (A.is.map (IE.den r)) (A.bs.map (BE.den r)) (SV.dens r id A.vs) < m is bs vs ->
    Go.Sy.Reach Try.prog 37 (Ret Q s0 w0) (fnOf Try.f37).body w0 s0 g r s) -> VC Try.prog Q (Go.Sy.Reach Try.prog 37 (Ret Q s0 w0) (fnOf Try.f37).body w0 s0) pa_o0 ⟨is, bs, vs, js⟩ s1) :
  ∀ (A : Asg) (g : Cfg) (r : Env) (s : Hp), Go.Sy.fits ⟨0, 0, 0, 0⟩ A pa_p0 g = true -> I (A.is.map (IE.den r)) (A.bs.map (BE.den r)) (SV.dens r id A.vs) s -> Go.Sy.Reach Try.prog 37 (Ret Q s0 w0) (fnOf Try.f37).body w0 s0 g r s :=
 loop0 (fn := fnOf Try.f37) (progOk true [[false, false, true, false, true, true]] []) Try.func37 rfl 5000 pa_p0 I m (fun _ _ _ _ h => by cases h) (fun is bs vs js s1 h1 h2 h3 _ h ih => by
  rw [pa_o0_eq]
  exact round is bs vs js s1 h1 h2 h3 h ih)
def pa_a0_0 : Asg :=
 ⟨[(.a 0), (.a 1), (.a 2), (.a 3), (.a 4), (.a 5), (.a 6), (.add (.a 7) (.l 1))], [], [(.va 0), (.va 1), (.va 3)], [(.ptr 2 0), (.ptr 3 0), (.int .i64 (.a 20)), (.bool (.lt (.a 7) (.a 6))), (.ea 1 (.a 7) 6 0), (.agg [(.int .i64 (.a 8)), (.int .i64 (.a 9)), (.int .i64 (.a 10)), (.int .i64 (.a 11)), (.int .i64 (.a 12)), (.int .i64 (.a 13))]), (.tup [(.agg [(.int .i64 (.a 14)), (.int .i64 (.a 15)), (.int .i64 (.a 16)), (.int .i64 (.a 17)), (.int .i64 (.a 18)), (.int .i64 (.a 19))]), (.int .i64 (.a 20))]), (.va 0), (.agg [(.int .i64 (.a 0)), (.int .i64 (.a 1)), (.int .i64 (.a 2)), (.int .i64 (.a 3)), (.int .i64 (.a 4)), (.int .i64 (.a 5))]), (.agg [(.int .i64 (.a 8)), (.int .i64 (.a 9)), (.int .i64 (.a 10)), (.int .i64 (.a 11)), (.int .i64 (.a 12)), (.int .i64 (.a 13))]), (.tup [(.agg [(.int .i64 (.a 14)), (.int .i64 (.a 15)), (.int .i64 (.a 16)), (.int .i64 (.a 17)), (.int .i64 (.a 18)), (.int .i64 (.a 19))]), (.int .i64 (.a 20))]), (.agg [(.int .i64 (.a 14)), (.int .i64 (.a 15)), (.int .i64 (.a 16)), (.int .i64 (.a 17)), (.int .i64 (.a 18)), (.int .i64 (.a 19))]), (.int .i64 (.a 20)), (.va 2), (.agg [(.int .i64 (.a 8)), (.int .i64 (.a 9)), (.int .i64 (.a 10)), (.int .i64 (.a 11)), (.int .i64 (.a 12)), (.int .i64 (.a 13))]), (.agg [(.int .i64 (.a 14)), (.int .i64 (.a 15)), (.int .i64 (.a 16)), (.int .i64 (.a 17)), (.int .i64 (.a 18)), (.int .i64 (.a 19))]), (.agg [(.int .i64 (.a 8)), (.int .i64 (.a 9)), (.int .i64 (.a 10)), (.int .i64 (.a 11)), (.int .i64 (.a 12)), (.int .i64 (.a 13)), (.int .i64 (.a 14)), (.int .i64 (.a 15)), (.int .i64 (.a 16)), (.int .i64 (.a 17)), (.int .i64 (.a 18)), (.int .i64 (.a 19))]), (.sl 4 1), (.va 3), (.int .i64 (.add (.a 7) (.l 1)))]⟩
def PaI (L : List Of) (S : Bd) (Ps : List Bd) (lv pv : Value) : List Int -> List Bool -> List Value -> Hp -> Prop := fun is bs vs s =>
 ∃ (i : Nat) (out : Value), is = S.l ++ [(Ps.length : Int), (i : Int)] /\ vs = [lv, pv, out] /\ i <= Ps.length /\ OfIn s lv L /\ BdIn s pv Ps /\ ChIn s out (path L S (Ps.take i))
theorem path_take (L : List Of) (S : Bd) (Ps : List Bd) (i : Nat) (p : Bd) (h : Ps[i]? = some p) : path L S (Ps.take (i + 1)) = path L S (Ps.take i) ++ [⟨p, (best L S p).1⟩] := by
 unfold path
 rw [List.take_add_one, h, Option.toList_some, List.map_append]; rfl
theorem pa_r0 (L : List Of) (hL : L.length <= 1000) (S : Bd) (Ps : List Bd) (hP : Ps.length <= 1000) (lv pv : Value) {w0 : World} {s0 : Hp} : ∀ (A : Asg) (g : Cfg) (r : Env) (s : Hp), Go.Sy.fits ⟨0, 0, 0, 0⟩ A pa_p0 g = true -> PaI L S Ps lv pv (A.is.map (IE.den r)) (A.bs.map (BE.den r)) (SV.dens r id A.vs) s ->
  Go.Sy.Reach Try.prog 37 (Ret (fun v s => ChIn s v (path L S Ps)) s0 w0) (fnOf Try.f37).body w0 s0 g r s := by
 refine pa_l0 (PaI L S Ps lv pv) (fun is _ _ => Ps.length - (is.getD 7 0).toNat) (fun is bs vs js s1 l1 l2 l3 hI ih => ?_)
 obtain ⟨i, out, rfl, rfl, hi, h0, h1, h2⟩ := hI
 obtain rfl : bs = [] := List.length_eq_zero_iff.1 l2
 unfold pa_o0
 conv => arg 5; simp only [Bd.l, List.cons_append, List.nil_append]
 refine vc_ite (fun h => ?_) (fun h => ?_) <;> simp only [BE.den, IE.den, SV.den, SV.dens, List.getD_cons_zero, List.getD_cons_succ, List.cons_append, List.nil_append, List.append_assoc, ltB_true, leB_true, eqB_true, ltB_false, leB_false, eqB_false, Bool.not_eq_true', Bool.not_eq_false', Bool.and_eq_true, Bool.or_eq_true, Bool.and_eq_false_iff, Bool.or_eq_false_iff] at h
 ·have hlt : i < Ps.length := by omega
  refine vc_need (by simp only [BE.den, IE.den, SV.den, SV.dens, List.getD_cons_zero, List.getD_cons_succ, List.cons_append, List.nil_append, List.append_assoc, ltB_true, leB_true, eqB_true, ltB_false, leB_false, eqB_false, Bool.not_eq_true', Bool.not_eq_false', Bool.and_eq_true, Bool.or_eq_true, Bool.and_eq_false_iff, Bool.or_eq_false_iff, h1.len, List.length_map]; omega) (fun _ => ?_)
  obtain ⟨p, hp⟩ : ∃ p, Ps[i]? = some p := ⟨_, List.getElem?_eq_getElem hlt⟩
  refine vc_load p.l [] [] p.cs (h1.at rfl rfl (by rw [List.getElem?_map, hp]; rfl)) rfl rfl rfl rfl rfl ?_
  conv => arg 5; simp only [List.cons_append, List.nil_append, List.append_nil, Bd.l]
  have hpt := path_take L S Ps i p hp
  obtain ⟨x, hx⟩ : ∃ x, x = best L S p := ⟨_, rfl⟩
  rw [<- hx] at hpt
  obtain ⟨b, m⟩ := x
  have hct : ∀ s2, s1.le s2 -> Ct Try.prog 62 [lv, S.v, p.v] s2 (fun v _ => v = bestV (b, m)) := fun s2 hs2 => by rw [hx]; exact best_ct L hL lv S p s2 (h0.mono hs2)
  refine vc_call _ _ (b.l ++ [m]) [] [] hct (fun _ => rfl) rfl rfl rfl rfl rfl (fun s2 hs2 => ?_)
  conv => arg 5; simp only [List.cons_append, List.nil_append, List.append_nil, Bd.l]
  have hpl : (path L S (Ps.take i)).length <= 1000 := by
   unfold path; rw [List.length_map]; have := List.length_take_le i Ps; omega
  refine vc_app ((path L S (Ps.take i)).map Ch.cs) (Ch.cs ⟨p, b⟩) (h2.mono hs2) rfl (by rw [List.length_map]; omega) (by rw [List.length_map]; simp only [maxLen]; omega) (fun g' s4 hs4 hg' => ?_)
  conv => arg 5; simp only [List.cons_append, List.nil_append, List.append_nil]
  refine vc_need (by simp only [BE.den, IE.den, SV.den, SV.dens, List.getD_cons_zero, List.getD_cons_succ, List.cons_append, List.nil_append, List.append_assoc, ltB_true, leB_true, eqB_true, ltB_false, leB_false, eqB_false, Bool.not_eq_true', Bool.not_eq_false', Bool.and_eq_true, Bool.or_eq_true, Bool.and_eq_false_iff, Bool.or_eq_false_iff]; omega) (fun _ => vc_stop ?_)
  refine ih pa_a0_0 _ _ _ (Hp.le_trans hs2 hs4) (by kernel_rfl) ⟨i + 1, g', rfl, rfl, by omega, (h0.mono hs2).mono hs4, (h1.mono hs2).mono hs4, ?_⟩ (show Ps.length - ((i : Int) + 1).toNat < Ps.length - (i : Int).toNat by omega)
  rw [hpt]
  unfold ChIn
  rw [List.map_append]
  exact hg'
 ·refine vc_ret (fun β s' hs _ => ?_)
  have : Ps.take i = Ps := List.take_of_length_le (by omega)
  rw [this] at h2
  exact h2.mono hs
theorem path_ct (L : List Of) (hL : L.length <= 1000) (S : Bd) (Ps : List Bd) (hP : Ps.length <= 1000) (lv pv : Value) (s : Hp) (hl : OfIn s lv L) (hp : BdIn s pv Ps) : Ct Try.prog 37 [lv, S.v, pv] s (fun v s' => ChIn s' v (path L S Ps)) := by
 refine pa_o_ct S.l [] [lv, pv] rfl rfl rfl (by simp [hl.fine, hp.fine]) (fun w0 => ?_)
 unfold pa_o
 refine vc_need hp.kind (fun _ => vc_stop ?_)
 refine pa_r0 L hL S Ps hP lv pv pa_a_0 _ _ _ (by kernel_rfl) ⟨0, .slice none 0 0, ?_, rfl, Nat.zero_le _, hl, hp, SliceIn.nil _ _⟩
 have hn := hp.len
 simp only [List.length_map] at hn
 show [_, _, _, _, _, _, sliceLen pv, _] = _
 rw [hn]; rfl
end Go.Proofs.YthjahianafohjaaY
