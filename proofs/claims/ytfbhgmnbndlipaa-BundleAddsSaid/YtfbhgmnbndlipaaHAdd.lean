/- Sums, differences, totals and costs of bundles; the law BundleAdds. -/
import Derived.Test.YtfbhgmnbndlipaaHB7
import Derived.Test.YtfbhgmnbndlipaaHSxQ
set_option linter.unusedSimpArgs false
set_option linter.unusedVariables false
namespace Go.Proofs.Ytfbhgmnbndlipaa
open Go.Sx Go.Bun

def o_add : Out :=
  (.need (.and (.le (.l (-9223372036854775808)) (.add (.a 0) (.a 6))) (.le (.add (.a 0) (.a 6)) (.l 9223372036854775807)))
  (.need (.and (.le (.l (-9223372036854775808)) (.add (.a 1) (.a 7))) (.le (.add (.a 1) (.a 7)) (.l 9223372036854775807)))
  (.need (.and (.le (.l (-9223372036854775808)) (.add (.a 2) (.a 8))) (.le (.add (.a 2) (.a 8)) (.l 9223372036854775807)))
  (.need (.and (.le (.l (-9223372036854775808)) (.add (.a 3) (.a 9))) (.le (.add (.a 3) (.a 9)) (.l 9223372036854775807)))
  (.need (.and (.le (.l (-9223372036854775808)) (.add (.a 4) (.a 10))) (.le (.add (.a 4) (.a 10)) (.l 9223372036854775807)))
  (.need (.and (.le (.l (-9223372036854775808)) (.add (.a 5) (.a 11))) (.le (.add (.a 5) (.a 11)) (.l 9223372036854775807)))
  (.ret (.agg [(.int .i64 (.add (.a 0) (.a 6))), (.int .i64 (.add (.a 1) (.a 7))), (.int .i64 (.add (.a 2) (.a 8))), (.int .i64 (.add (.a 3) (.a 9))), (.int .i64 (.add (.a 4) (.a 10))), (.int .i64 (.add (.a 5) (.a 11)))]) [])))))))
theorem o_add_eq : run (cx true [] []) (fnOf Try.f27) 5000 (startCfg Try.f27.ntmps [b6 0, b6 6] 12 0 0) = o_add := by kernel_rfl
theorem o_add_ct {Q : Value → Hp → Prop} {s : Hp} (i : List Int) (b : List Bool) (v : List Value) (hi : i.length = 12) (hb : b.length = 0) (hv : v.length = 0) (hok : v.all fineV = true)
    (h : ∀ w0, VC Try.prog Q (Go.Sx.Reach Try.prog 27 (Ret Q s w0) (fnOf Try.f27).body w0 s) o_add ⟨i, b, v, []⟩ s) : Ct Try.prog 27 (SV.dens ⟨i, b, v, []⟩ id [b6 0, b6 6]) s Q := by
  refine ct_run (fn := fnOf Try.f27) (progOk true [] []) Try.func27 rfl rfl 5000 (fun x hx => List.all_eq_true.1 hok x hx) rfl (fun w0 => ?_)
  rw [hi, hb, hv, o_add_eq]
  exact h w0

theorem add_ct (a b : Bd) (s : Hp) (ha : Small 1000000000000 a) (hb : Small 1000000000000 b) : Ct Try.prog 27 [a.v, b.v] s (fun v _ => v = (a.add b).v) := by
  refine o_add_ct (a.l ++ b.l) [] [] rfl rfl rfl rfl (fun w0 => ?_)
  simp only [o_add, VC, IE.den, BE.den, SV.den, SV.dens, Env.push, Env.ext, List.getD_cons_zero, List.getD_cons_succ, List.cons_append, List.nil_append, List.append_assoc, List.map_cons, List.map_nil, ltB_true, leB_true, eqB_true, ltB_false, leB_false, eqB_false, Bool.not_eq_true', Bool.not_eq_false', Bool.and_eq_true, Bool.or_eq_true, Bool.and_eq_false_iff, Bool.or_eq_false_iff, Bd.l]
  unfold Small Bd.all at ha hb
  iterate 6 (refine ⟨by omega, fun _ => ?_⟩)
  intro β s' _ _
  rfl

def o_sub : Out :=
  (.need (.and (.le (.l (-9223372036854775808)) (.sub (.a 0) (.a 6))) (.le (.sub (.a 0) (.a 6)) (.l 9223372036854775807)))
  (.need (.and (.le (.l (-9223372036854775808)) (.sub (.a 1) (.a 7))) (.le (.sub (.a 1) (.a 7)) (.l 9223372036854775807)))
  (.need (.and (.le (.l (-9223372036854775808)) (.sub (.a 2) (.a 8))) (.le (.sub (.a 2) (.a 8)) (.l 9223372036854775807)))
  (.need (.and (.le (.l (-9223372036854775808)) (.sub (.a 3) (.a 9))) (.le (.sub (.a 3) (.a 9)) (.l 9223372036854775807)))
  (.need (.and (.le (.l (-9223372036854775808)) (.sub (.a 4) (.a 10))) (.le (.sub (.a 4) (.a 10)) (.l 9223372036854775807)))
  (.need (.and (.le (.l (-9223372036854775808)) (.sub (.a 5) (.a 11))) (.le (.sub (.a 5) (.a 11)) (.l 9223372036854775807)))
  (.ret (.agg [(.int .i64 (.sub (.a 0) (.a 6))), (.int .i64 (.sub (.a 1) (.a 7))), (.int .i64 (.sub (.a 2) (.a 8))), (.int .i64 (.sub (.a 3) (.a 9))), (.int .i64 (.sub (.a 4) (.a 10))), (.int .i64 (.sub (.a 5) (.a 11)))]) [])))))))
theorem o_sub_eq : run (cx true [] []) (fnOf Try.f29) 5000 (startCfg Try.f29.ntmps [b6 0, b6 6] 12 0 0) = o_sub := by kernel_rfl
theorem o_sub_ct {Q : Value → Hp → Prop} {s : Hp} (i : List Int) (b : List Bool) (v : List Value) (hi : i.length = 12) (hb : b.length = 0) (hv : v.length = 0) (hok : v.all fineV = true)
    (h : ∀ w0, VC Try.prog Q (Go.Sx.Reach Try.prog 29 (Ret Q s w0) (fnOf Try.f29).body w0 s) o_sub ⟨i, b, v, []⟩ s) : Ct Try.prog 29 (SV.dens ⟨i, b, v, []⟩ id [b6 0, b6 6]) s Q := by
  refine ct_run (fn := fnOf Try.f29) (progOk true [] []) Try.func29 rfl rfl 5000 (fun x hx => List.all_eq_true.1 hok x hx) rfl (fun w0 => ?_)
  rw [hi, hb, hv, o_sub_eq]
  exact h w0

theorem sub_ct (a b : Bd) (s : Hp) (ha : Small 1000000000000 a) (hb : Small 1000000000000 b) : Ct Try.prog 29 [a.v, b.v] s (fun v _ => v = (a.sub b).v) := by
  refine o_sub_ct (a.l ++ b.l) [] [] rfl rfl rfl rfl (fun w0 => ?_)
  simp only [o_sub, VC, IE.den, BE.den, SV.den, SV.dens, Env.push, Env.ext, List.getD_cons_zero, List.getD_cons_succ, List.cons_append, List.nil_append, List.append_assoc, List.map_cons, List.map_nil, ltB_true, leB_true, eqB_true, ltB_false, leB_false, eqB_false, Bool.not_eq_true', Bool.not_eq_false', Bool.and_eq_true, Bool.or_eq_true, Bool.and_eq_false_iff, Bool.or_eq_false_iff, Bd.l]
  unfold Small Bd.all at ha hb
  iterate 6 (refine ⟨by omega, fun _ => ?_⟩)
  intro β s' _ _
  rfl

def o_radd : Out :=
  (.need (.and (.le (.l (-9223372036854775808)) (.add (.a 0) (.a 6))) (.le (.add (.a 0) (.a 6)) (.l 9223372036854775807)))
  (.need (.and (.le (.l (-9223372036854775808)) (.add (.a 1) (.a 7))) (.le (.add (.a 1) (.a 7)) (.l 9223372036854775807)))
  (.need (.and (.le (.l (-9223372036854775808)) (.add (.a 2) (.a 8))) (.le (.add (.a 2) (.a 8)) (.l 9223372036854775807)))
  (.need (.and (.le (.l (-9223372036854775808)) (.add (.a 3) (.a 9))) (.le (.add (.a 3) (.a 9)) (.l 9223372036854775807)))
  (.need (.and (.le (.l (-9223372036854775808)) (.add (.a 4) (.a 10))) (.le (.add (.a 4) (.a 10)) (.l 9223372036854775807)))
  (.need (.and (.le (.l (-9223372036854775808)) (.add (.a 5) (.a 11))) (.le (.add (.a 5) (.a 11)) (.l 9223372036854775807)))
  (.ret (.agg [(.int .i64 (.add (.a 0) (.a 6))), (.int .i64 (.add (.a 1) (.a 7))), (.int .i64 (.add (.a 2) (.a 8))), (.int .i64 (.add (.a 3) (.a 9))), (.int .i64 (.add (.a 4) (.a 10))), (.int .i64 (.add (.a 5) (.a 11)))]) [])))))))
theorem o_radd_eq : run (cx true [] []) (fnOf Try.f28) 5000 (startCfg Try.f28.ntmps [b6 0, b6 6] 12 0 0) = o_radd := by kernel_rfl
theorem o_radd_ct {Q : Value → Hp → Prop} {s : Hp} (i : List Int) (b : List Bool) (v : List Value) (hi : i.length = 12) (hb : b.length = 0) (hv : v.length = 0) (hok : v.all fineV = true)
    (h : ∀ w0, VC Try.prog Q (Go.Sx.Reach Try.prog 28 (Ret Q s w0) (fnOf Try.f28).body w0 s) o_radd ⟨i, b, v, []⟩ s) : Ct Try.prog 28 (SV.dens ⟨i, b, v, []⟩ id [b6 0, b6 6]) s Q := by
  refine ct_run (fn := fnOf Try.f28) (progOk true [] []) Try.func28 rfl rfl 5000 (fun x hx => List.all_eq_true.1 hok x hx) rfl (fun w0 => ?_)
  rw [hi, hb, hv, o_radd_eq]
  exact h w0

theorem radd_ct (a b : Bd) (s : Hp) (ha : Small 1000000000000 a) (hb : Small 1000000000000 b) : Ct Try.prog 28 [a.v, b.v] s (fun v _ => v = (a.add b).v) := by
  refine o_radd_ct (a.l ++ b.l) [] [] rfl rfl rfl rfl (fun w0 => ?_)
  simp only [o_radd, VC, IE.den, BE.den, SV.den, SV.dens, Env.push, Env.ext, List.getD_cons_zero, List.getD_cons_succ, List.cons_append, List.nil_append, List.append_assoc, List.map_cons, List.map_nil, ltB_true, leB_true, eqB_true, ltB_false, leB_false, eqB_false, Bool.not_eq_true', Bool.not_eq_false', Bool.and_eq_true, Bool.or_eq_true, Bool.and_eq_false_iff, Bool.or_eq_false_iff, Bd.l]
  unfold Small Bd.all at ha hb
  iterate 6 (refine ⟨by omega, fun _ => ?_⟩)
  intro β s' _ _
  rfl

def o_rsub : Out :=
  (.need (.and (.le (.l (-9223372036854775808)) (.sub (.a 0) (.a 6))) (.le (.sub (.a 0) (.a 6)) (.l 9223372036854775807)))
  (.need (.and (.le (.l (-9223372036854775808)) (.sub (.a 1) (.a 7))) (.le (.sub (.a 1) (.a 7)) (.l 9223372036854775807)))
  (.need (.and (.le (.l (-9223372036854775808)) (.sub (.a 2) (.a 8))) (.le (.sub (.a 2) (.a 8)) (.l 9223372036854775807)))
  (.need (.and (.le (.l (-9223372036854775808)) (.sub (.a 3) (.a 9))) (.le (.sub (.a 3) (.a 9)) (.l 9223372036854775807)))
  (.need (.and (.le (.l (-9223372036854775808)) (.sub (.a 4) (.a 10))) (.le (.sub (.a 4) (.a 10)) (.l 9223372036854775807)))
  (.need (.and (.le (.l (-9223372036854775808)) (.sub (.a 5) (.a 11))) (.le (.sub (.a 5) (.a 11)) (.l 9223372036854775807)))
  (.ret (.agg [(.int .i64 (.sub (.a 0) (.a 6))), (.int .i64 (.sub (.a 1) (.a 7))), (.int .i64 (.sub (.a 2) (.a 8))), (.int .i64 (.sub (.a 3) (.a 9))), (.int .i64 (.sub (.a 4) (.a 10))), (.int .i64 (.sub (.a 5) (.a 11)))]) [])))))))
theorem o_rsub_eq : run (cx true [] []) (fnOf Try.f30) 5000 (startCfg Try.f30.ntmps [b6 0, b6 6] 12 0 0) = o_rsub := by kernel_rfl
theorem o_rsub_ct {Q : Value → Hp → Prop} {s : Hp} (i : List Int) (b : List Bool) (v : List Value) (hi : i.length = 12) (hb : b.length = 0) (hv : v.length = 0) (hok : v.all fineV = true)
    (h : ∀ w0, VC Try.prog Q (Go.Sx.Reach Try.prog 30 (Ret Q s w0) (fnOf Try.f30).body w0 s) o_rsub ⟨i, b, v, []⟩ s) : Ct Try.prog 30 (SV.dens ⟨i, b, v, []⟩ id [b6 0, b6 6]) s Q := by
  refine ct_run (fn := fnOf Try.f30) (progOk true [] []) Try.func30 rfl rfl 5000 (fun x hx => List.all_eq_true.1 hok x hx) rfl (fun w0 => ?_)
  rw [hi, hb, hv, o_rsub_eq]
  exact h w0

theorem rsub_ct (a b : Bd) (s : Hp) (ha : Small 1000000000000 a) (hb : Small 1000000000000 b) : Ct Try.prog 30 [a.v, b.v] s (fun v _ => v = (a.sub b).v) := by
  refine o_rsub_ct (a.l ++ b.l) [] [] rfl rfl rfl rfl (fun w0 => ?_)
  simp only [o_rsub, VC, IE.den, BE.den, SV.den, SV.dens, Env.push, Env.ext, List.getD_cons_zero, List.getD_cons_succ, List.cons_append, List.nil_append, List.append_assoc, List.map_cons, List.map_nil, ltB_true, leB_true, eqB_true, ltB_false, leB_false, eqB_false, Bool.not_eq_true', Bool.not_eq_false', Bool.and_eq_true, Bool.or_eq_true, Bool.and_eq_false_iff, Bool.or_eq_false_iff, Bd.l]
  unfold Small Bd.all at ha hb
  iterate 6 (refine ⟨by omega, fun _ => ?_⟩)
  intro β s' _ _
  rfl

def o_rtotal : Out :=
  (.need (.and (.le (.l (-9223372036854775808)) (.a 0)) (.le (.a 0) (.l 9223372036854775807)))
  (.need (.and (.le (.l (-9223372036854775808)) (.add (.a 0) (.a 1))) (.le (.add (.a 0) (.a 1)) (.l 9223372036854775807)))
  (.need (.and (.le (.l (-9223372036854775808)) (.add (.add (.a 0) (.a 1)) (.a 2))) (.le (.add (.add (.a 0) (.a 1)) (.a 2)) (.l 9223372036854775807)))
  (.need (.and (.le (.l (-9223372036854775808)) (.add (.add (.add (.a 0) (.a 1)) (.a 2)) (.a 3))) (.le (.add (.add (.add (.a 0) (.a 1)) (.a 2)) (.a 3)) (.l 9223372036854775807)))
  (.need (.and (.le (.l (-9223372036854775808)) (.add (.add (.add (.add (.a 0) (.a 1)) (.a 2)) (.a 3)) (.a 4))) (.le (.add (.add (.add (.add (.a 0) (.a 1)) (.a 2)) (.a 3)) (.a 4)) (.l 9223372036854775807)))
  (.need (.and (.le (.l (-9223372036854775808)) (.add (.add (.add (.add (.add (.a 0) (.a 1)) (.a 2)) (.a 3)) (.a 4)) (.a 5))) (.le (.add (.add (.add (.add (.add (.a 0) (.a 1)) (.a 2)) (.a 3)) (.a 4)) (.a 5)) (.l 9223372036854775807)))
  (.ret (.int .i64 (.add (.add (.add (.add (.add (.a 0) (.a 1)) (.a 2)) (.a 3)) (.a 4)) (.a 5))) [])))))))
theorem o_rtotal_eq : run (cx true [] []) (fnOf Try.f32) 5000 (startCfg Try.f32.ntmps [b6 0] 6 0 0) = o_rtotal := by kernel_rfl
theorem o_rtotal_ct {Q : Value → Hp → Prop} {s : Hp} (i : List Int) (b : List Bool) (v : List Value) (hi : i.length = 6) (hb : b.length = 0) (hv : v.length = 0) (hok : v.all fineV = true)
    (h : ∀ w0, VC Try.prog Q (Go.Sx.Reach Try.prog 32 (Ret Q s w0) (fnOf Try.f32).body w0 s) o_rtotal ⟨i, b, v, []⟩ s) : Ct Try.prog 32 (SV.dens ⟨i, b, v, []⟩ id [b6 0]) s Q := by
  refine ct_run (fn := fnOf Try.f32) (progOk true [] []) Try.func32 rfl rfl 5000 (fun x hx => List.all_eq_true.1 hok x hx) rfl (fun w0 => ?_)
  rw [hi, hb, hv, o_rtotal_eq]
  exact h w0

theorem rtotal_ct (b : Bd) (s : Hp) (hb : Small 1000000 b) : Ct Try.prog 32 [b.v] s (fun v _ => v = .int .i64 b.total) := by
  refine o_rtotal_ct b.l [] [] rfl rfl rfl rfl (fun w0 => ?_)
  simp only [o_rtotal, VC, IE.den, BE.den, SV.den, SV.dens, Env.push, Env.ext, List.getD_cons_zero, List.getD_cons_succ, List.cons_append, List.nil_append, List.append_assoc, List.map_cons, List.map_nil, ltB_true, leB_true, eqB_true, ltB_false, leB_false, eqB_false, Bool.not_eq_true', Bool.not_eq_false', Bool.and_eq_true, Bool.or_eq_true, Bool.and_eq_false_iff, Bool.or_eq_false_iff, Bd.l]
  unfold Small Bd.all at hb
  repeat' (first | (refine ⟨?_, fun _ => ?_⟩) | (intro β s' _ _))
  all_goals first | rfl | omega

def o_rcost : Out :=
  (.need (.and (.le (.l (-9223372036854775808)) (.mul (.a 0) (.a 6))) (.le (.mul (.a 0) (.a 6)) (.l 9223372036854775807)))
  (.need (.and (.le (.l (-9223372036854775808)) (.mul (.a 0) (.a 6))) (.le (.mul (.a 0) (.a 6)) (.l 9223372036854775807)))
  (.need (.and (.le (.l (-9223372036854775808)) (.mul (.a 1) (.a 7))) (.le (.mul (.a 1) (.a 7)) (.l 9223372036854775807)))
  (.need (.and (.le (.l (-9223372036854775808)) (.add (.mul (.a 0) (.a 6)) (.mul (.a 1) (.a 7)))) (.le (.add (.mul (.a 0) (.a 6)) (.mul (.a 1) (.a 7))) (.l 9223372036854775807)))
  (.need (.and (.le (.l (-9223372036854775808)) (.mul (.a 2) (.a 8))) (.le (.mul (.a 2) (.a 8)) (.l 9223372036854775807)))
  (.need (.and (.le (.l (-9223372036854775808)) (.add (.add (.mul (.a 0) (.a 6)) (.mul (.a 1) (.a 7))) (.mul (.a 2) (.a 8)))) (.le (.add (.add (.mul (.a 0) (.a 6)) (.mul (.a 1) (.a 7))) (.mul (.a 2) (.a 8))) (.l 9223372036854775807)))
  (.need (.and (.le (.l (-9223372036854775808)) (.mul (.a 3) (.a 9))) (.le (.mul (.a 3) (.a 9)) (.l 9223372036854775807)))
  (.need (.and (.le (.l (-9223372036854775808)) (.add (.add (.add (.mul (.a 0) (.a 6)) (.mul (.a 1) (.a 7))) (.mul (.a 2) (.a 8))) (.mul (.a 3) (.a 9)))) (.le (.add (.add (.add (.mul (.a 0) (.a 6)) (.mul (.a 1) (.a 7))) (.mul (.a 2) (.a 8))) (.mul (.a 3) (.a 9))) (.l 9223372036854775807)))
  (.need (.and (.le (.l (-9223372036854775808)) (.mul (.a 4) (.a 10))) (.le (.mul (.a 4) (.a 10)) (.l 9223372036854775807)))
  (.need (.and (.le (.l (-9223372036854775808)) (.add (.add (.add (.add (.mul (.a 0) (.a 6)) (.mul (.a 1) (.a 7))) (.mul (.a 2) (.a 8))) (.mul (.a 3) (.a 9))) (.mul (.a 4) (.a 10)))) (.le (.add (.add (.add (.add (.mul (.a 0) (.a 6)) (.mul (.a 1) (.a 7))) (.mul (.a 2) (.a 8))) (.mul (.a 3) (.a 9))) (.mul (.a 4) (.a 10))) (.l 9223372036854775807)))
  (.need (.and (.le (.l (-9223372036854775808)) (.mul (.a 5) (.a 11))) (.le (.mul (.a 5) (.a 11)) (.l 9223372036854775807)))
  (.need (.and (.le (.l (-9223372036854775808)) (.add (.add (.add (.add (.add (.mul (.a 0) (.a 6)) (.mul (.a 1) (.a 7))) (.mul (.a 2) (.a 8))) (.mul (.a 3) (.a 9))) (.mul (.a 4) (.a 10))) (.mul (.a 5) (.a 11)))) (.le (.add (.add (.add (.add (.add (.mul (.a 0) (.a 6)) (.mul (.a 1) (.a 7))) (.mul (.a 2) (.a 8))) (.mul (.a 3) (.a 9))) (.mul (.a 4) (.a 10))) (.mul (.a 5) (.a 11))) (.l 9223372036854775807)))
  (.ret (.int .i64 (.add (.add (.add (.add (.add (.mul (.a 0) (.a 6)) (.mul (.a 1) (.a 7))) (.mul (.a 2) (.a 8))) (.mul (.a 3) (.a 9))) (.mul (.a 4) (.a 10))) (.mul (.a 5) (.a 11)))) [])))))))))))))
theorem o_rcost_eq : run (cx true [] []) (fnOf Try.f34) 5000 (startCfg Try.f34.ntmps [b6 0, b6 6] 12 0 0) = o_rcost := by kernel_rfl
theorem o_rcost_ct {Q : Value → Hp → Prop} {s : Hp} (i : List Int) (b : List Bool) (v : List Value) (hi : i.length = 12) (hb : b.length = 0) (hv : v.length = 0) (hok : v.all fineV = true)
    (h : ∀ w0, VC Try.prog Q (Go.Sx.Reach Try.prog 34 (Ret Q s w0) (fnOf Try.f34).body w0 s) o_rcost ⟨i, b, v, []⟩ s) : Ct Try.prog 34 (SV.dens ⟨i, b, v, []⟩ id [b6 0, b6 6]) s Q := by
  refine ct_run (fn := fnOf Try.f34) (progOk true [] []) Try.func34 rfl rfl 5000 (fun x hx => List.all_eq_true.1 hok x hx) rfl (fun w0 => ?_)
  rw [hi, hb, hv, o_rcost_eq]
  exact h w0

theorem rcost_ct (p b : Bd) (s : Hp) (hp : Small 1000000000 p) (hb : Small 1000000 b) : Ct Try.prog 34 [p.v, b.v] s (fun v _ => v = .int .i64 (p.cost b)) := by
  refine o_rcost_ct (p.l ++ b.l) [] [] rfl rfl rfl rfl (fun w0 => ?_)
  simp only [o_rcost, VC, IE.den, BE.den, SV.den, SV.dens, Env.push, Env.ext, List.getD_cons_zero, List.getD_cons_succ, List.cons_append, List.nil_append, List.append_assoc, List.map_cons, List.map_nil, ltB_true, leB_true, eqB_true, ltB_false, leB_false, eqB_false, Bool.not_eq_true', Bool.not_eq_false', Bool.and_eq_true, Bool.or_eq_true, Bool.and_eq_false_iff, Bool.or_eq_false_iff, Bd.l]
  unfold Small Bd.all at hb hp
  have m1 := mulS (x := p.a) (y := b.a) (A := 1000000000) (B := 1000000) (by omega) (by omega)
  have m2 := mulS (x := p.b) (y := b.b) (A := 1000000000) (B := 1000000) (by omega) (by omega)
  have m3 := mulS (x := p.c) (y := b.c) (A := 1000000000) (B := 1000000) (by omega) (by omega)
  have m4 := mulS (x := p.d) (y := b.d) (A := 1000000000) (B := 1000000) (by omega) (by omega)
  have m5 := mulS (x := p.e) (y := b.e) (A := 1000000000) (B := 1000000) (by omega) (by omega)
  have m6 := mulS (x := p.f) (y := b.f) (A := 1000000000) (B := 1000000) (by omega) (by omega)
  repeat' (first | (refine ⟨by omega, fun _ => ?_⟩) | (intro β s' _ _))
  rfl

instance (b : Bd) : Decidable (Small 1000000 b) := by unfold Small Bd.all; exact inferInstance
def o_mod : Out :=
  (.ite (.lt (.a 0) (.l (-1000000)))
  (.ret (.bool (.t false)) [])
  (.ite (.lt (.l 1000000) (.a 0))
  (.ret (.bool (.t false)) [])
  (.ite (.lt (.a 1) (.l (-1000000)))
  (.ret (.bool (.t false)) [])
  (.ite (.lt (.l 1000000) (.a 1))
  (.ret (.bool (.t false)) [])
  (.ite (.lt (.a 2) (.l (-1000000)))
  (.ret (.bool (.t false)) [])
  (.ite (.lt (.l 1000000) (.a 2))
  (.ret (.bool (.t false)) [])
  (.ite (.lt (.a 3) (.l (-1000000)))
  (.ret (.bool (.t false)) [])
  (.ite (.lt (.l 1000000) (.a 3))
  (.ret (.bool (.t false)) [])
  (.ite (.lt (.a 4) (.l (-1000000)))
  (.ret (.bool (.t false)) [])
  (.ite (.lt (.l 1000000) (.a 4))
  (.ret (.bool (.t false)) [])
  (.ite (.lt (.a 5) (.l (-1000000)))
  (.ret (.bool (.t false)) [])
  (.ite (.lt (.l 1000000) (.a 5))
  (.ret (.bool (.t false)) [])
  (.ret (.bool (.t true)) [])))))))))))))
theorem o_mod_eq : run (cx true [] []) (fnOf Try.f26) 5000 (startCfg Try.f26.ntmps [b6 0] 6 0 0) = o_mod := by kernel_rfl
theorem o_mod_ct {Q : Value → Hp → Prop} {s : Hp} (i : List Int) (b : List Bool) (v : List Value) (hi : i.length = 6) (hb : b.length = 0) (hv : v.length = 0) (hok : v.all fineV = true)
    (h : ∀ w0, VC Try.prog Q (Go.Sx.Reach Try.prog 26 (Ret Q s w0) (fnOf Try.f26).body w0 s) o_mod ⟨i, b, v, []⟩ s) : Ct Try.prog 26 (SV.dens ⟨i, b, v, []⟩ id [b6 0]) s Q := by
  refine ct_run (fn := fnOf Try.f26) (progOk true [] []) Try.func26 rfl rfl 5000 (fun x hx => List.all_eq_true.1 hok x hx) rfl (fun w0 => ?_)
  rw [hi, hb, hv, o_mod_eq]
  exact h w0

theorem mod_ct (b : Bd) (s : Hp) : Ct Try.prog 26 [b.v] s (fun v _ => v = .bool (decide (Small 1000000 b))) := by
  refine o_mod_ct b.l [] [] rfl rfl rfl rfl (fun w0 => ?_)
  simp only [o_mod, VC, IE.den, BE.den, SV.den, SV.dens, Env.push, Env.ext, List.getD_cons_zero, List.getD_cons_succ, List.cons_append, List.nil_append, List.append_assoc, List.map_cons, List.map_nil, ltB_true, leB_true, eqB_true, ltB_false, leB_false, eqB_false, Bool.not_eq_true', Bool.not_eq_false', Bool.and_eq_true, Bool.or_eq_true, Bool.and_eq_false_iff, Bool.or_eq_false_iff, Bd.l]
  repeat' (first | (refine ⟨fun h => ?_, fun h => ?_⟩) | (intro β s' _ _))
  all_goals first
    | (refine congrArg Value.bool (Eq.symm (decide_eq_false ?_)); unfold Small Bd.all; omega)
    | (refine congrArg Value.bool (Eq.symm (decide_eq_true ?_)); unfold Small Bd.all; omega)

theorem small_more {A B : Int} {b : Bd} (h : Small A b) (hAB : A ≤ B) : Small B b := by
  unfold Small Bd.all at *; omega
theorem small_meet {A : Int} {a b : Bd} (h : Small A a) (h' : Small A b) : Small A (a.meet b) := by
  unfold Small Bd.all at *
  simp only [Bd.meet, Bd.map2, mnI_of]
  refine ⟨?_, ?_, ?_, ?_, ?_, ?_⟩ <;> split <;> omega
theorem small_join {A : Int} {a b : Bd} (h : Small A a) (h' : Small A b) : Small A (a.join b) := by
  unfold Small Bd.all at *
  simp only [Bd.join, Bd.map2, mxI_of]
  refine ⟨?_, ?_, ?_, ?_, ?_, ?_⟩ <;> split <;> omega
theorem mn_mx (x y : Int) : mnI x y + mxI x y = x + y := by
  rw [mnI_of, mxI_of]; split <;> split <;> omega
theorem meet_join (a b : Bd) : (a.meet b).add (a.join b) = a.add b := by
  simp only [Bd.add, Bd.meet, Bd.join, Bd.map2, mn_mx]

end Go.Proofs.Ytfbhgmnbndlipaa
