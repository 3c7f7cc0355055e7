/- The functions of package demandset and of its reference, but those that go through all bundles. -/
import Derived.Test.YtbmfegliomkkfaaHListL
import Derived.Test.YtbmfegliomkkfaaHBunD
set_option linter.unusedSimpArgs false
set_option linter.unusedVariables false
namespace Go.Proofs.Ytbmfegliomkkfaa
open Go.Sx Go.Bun

def o_valid : Out :=
  (.ite (.lt (.a 0) (.l 0))
  (.ret (.bool (.t false)) [])
  (.ite (.lt (.l 1000000) (.a 0))
  (.ret (.bool (.t false)) [])
  (.ite (.lt (.a 1) (.l 0))
  (.ret (.bool (.t false)) [])
  (.ite (.lt (.l 1000000) (.a 1))
  (.ret (.bool (.t false)) [])
  (.ite (.lt (.a 2) (.l 0))
  (.ret (.bool (.t false)) [])
  (.ite (.lt (.l 1000000) (.a 2))
  (.ret (.bool (.t false)) [])
  (.ite (.lt (.a 3) (.l 0))
  (.ret (.bool (.t false)) [])
  (.ite (.lt (.l 1000000) (.a 3))
  (.ret (.bool (.t false)) [])
  (.ite (.lt (.a 4) (.l 0))
  (.ret (.bool (.t false)) [])
  (.ite (.lt (.l 1000000) (.a 4))
  (.ret (.bool (.t false)) [])
  (.ite (.lt (.a 5) (.l 0))
  (.ret (.bool (.t false)) [])
  (.ite (.lt (.l 1000000) (.a 5))
  (.ret (.bool (.t false)) [])
  (.ret (.bool (.t true)) [])))))))))))))
theorem o_valid_eq : run (cx true [] []) (fnOf Try.f50) 5000 (startCfg Try.f50.ntmps [b6 0] 6 0 0) = o_valid := by kernel_rfl
theorem o_valid_ct {Q : Value → Hp → Prop} {s : Hp} (i : List Int) (b : List Bool) (v : List Value) (hi : i.length = 6) (hb : b.length = 0) (hv : v.length = 0) (hok : v.all fineV = true)
    (h : ∀ w0, VC Try.prog Q (Go.Sx.Reach Try.prog 50 (Ret Q s w0) (fnOf Try.f50).body w0 s) o_valid ⟨i, b, v, []⟩ s) : Ct Try.prog 50 (SV.dens ⟨i, b, v, []⟩ id [b6 0]) s Q := by
  refine ct_run (fn := fnOf Try.f50) (progOk true [] []) Try.func50 rfl rfl 5000 (fun x hx => List.all_eq_true.1 hok x hx) rfl (fun w0 => ?_)
  rw [hi, hb, hv, o_valid_eq]
  exact h w0

theorem valid_ct (p : Bd) (s : Hp) : Ct Try.prog 50 [p.v] s (fun v _ => v = .bool (decide (pok p))) := by
  refine o_valid_ct p.l [] [] rfl rfl rfl rfl (fun w0 => ?_)
  simp only [o_valid, VC, IE.den, BE.den, SV.den, SV.dens, Env.push, Env.ext, List.getD_cons_zero, List.getD_cons_succ, List.cons_append, List.nil_append, List.append_assoc, List.map_cons, List.map_nil, ltB_true, leB_true, eqB_true, ltB_false, leB_false, eqB_false, Bool.not_eq_true', Bool.not_eq_false', Bool.and_eq_true, Bool.or_eq_true, Bool.and_eq_false_iff, Bool.or_eq_false_iff, Bd.l]
  repeat' (first | (refine ⟨fun h => ?_, fun h => ?_⟩) | (intro β s' _ _))
  all_goals first
    | (refine congrArg Value.bool (Eq.symm (decide_eq_false ?_)); unfold pok Bd.all; omega)
    | (refine congrArg Value.bool (Eq.symm (decide_eq_true ?_)); unfold pok Bd.all; omega)

def o_rprices : Out :=
  (.ite (.lt (.a 0) (.l 0))
  (.ret (.bool (.t false)) [])
  (.ite (.lt (.l 1000000) (.a 0))
  (.ret (.bool (.t false)) [])
  (.ite (.lt (.a 1) (.l 0))
  (.ret (.bool (.t false)) [])
  (.ite (.lt (.l 1000000) (.a 1))
  (.ret (.bool (.t false)) [])
  (.ite (.lt (.a 2) (.l 0))
  (.ret (.bool (.t false)) [])
  (.ite (.lt (.l 1000000) (.a 2))
  (.ret (.bool (.t false)) [])
  (.ite (.lt (.a 3) (.l 0))
  (.ret (.bool (.t false)) [])
  (.ite (.lt (.l 1000000) (.a 3))
  (.ret (.bool (.t false)) [])
  (.ite (.lt (.a 4) (.l 0))
  (.ret (.bool (.t false)) [])
  (.ite (.lt (.l 1000000) (.a 4))
  (.ret (.bool (.t false)) [])
  (.ite (.lt (.a 5) (.l 0))
  (.ret (.bool (.t false)) [])
  (.ite (.lt (.l 1000000) (.a 5))
  (.ret (.bool (.t false)) [])
  (.ret (.bool (.t true)) [])))))))))))))
theorem o_rprices_eq : run (cx true [] []) (fnOf Try.f23) 5000 (startCfg Try.f23.ntmps [b6 0] 6 0 0) = o_rprices := by kernel_rfl
theorem o_rprices_ct {Q : Value → Hp → Prop} {s : Hp} (i : List Int) (b : List Bool) (v : List Value) (hi : i.length = 6) (hb : b.length = 0) (hv : v.length = 0) (hok : v.all fineV = true)
    (h : ∀ w0, VC Try.prog Q (Go.Sx.Reach Try.prog 23 (Ret Q s w0) (fnOf Try.f23).body w0 s) o_rprices ⟨i, b, v, []⟩ s) : Ct Try.prog 23 (SV.dens ⟨i, b, v, []⟩ id [b6 0]) s Q := by
  refine ct_run (fn := fnOf Try.f23) (progOk true [] []) Try.func23 rfl rfl 5000 (fun x hx => List.all_eq_true.1 hok x hx) rfl (fun w0 => ?_)
  rw [hi, hb, hv, o_rprices_eq]
  exact h w0

theorem rprices_ct (p : Bd) (s : Hp) : Ct Try.prog 23 [p.v] s (fun v _ => v = .bool (decide (pok p))) := by
  refine o_rprices_ct p.l [] [] rfl rfl rfl rfl (fun w0 => ?_)
  simp only [o_rprices, VC, IE.den, BE.den, SV.den, SV.dens, Env.push, Env.ext, List.getD_cons_zero, List.getD_cons_succ, List.cons_append, List.nil_append, List.append_assoc, List.map_cons, List.map_nil, ltB_true, leB_true, eqB_true, ltB_false, leB_false, eqB_false, Bool.not_eq_true', Bool.not_eq_false', Bool.and_eq_true, Bool.or_eq_true, Bool.and_eq_false_iff, Bool.or_eq_false_iff, Bd.l]
  repeat' (first | (refine ⟨fun h => ?_, fun h => ?_⟩) | (intro β s' _ _))
  all_goals first
    | (refine congrArg Value.bool (Eq.symm (decide_eq_false ?_)); unfold pok Bd.all; omega)
    | (refine congrArg Value.bool (Eq.symm (decide_eq_true ?_)); unfold pok Bd.all; omega)

def o_rcost : Out :=
  (.need (.and (.le (.l (-9223372036854775808)) (.mul (.a 0) (.a 6))) (.le (.mul (.a 0) (.a 6)) (.l 9223372036854775807)))
  (.need (.and (.le (.l (-9223372036854775808)) (.mul (.a 0) (.a 6))) (.le (.mul (.a 0) (.a 6)) (.l 9223372036854775807)))
  (.need (.and (.le (.l (-9223372036854775808)) (.mul (.a 1) (.a 7))) (.le (.mul (.a 1) (.a 7)) (.l 9223372036854775807)))
  (.need (.and (.le (.l (-9223372036854775808)) (.add (.mul (.a 0) (.a 6)) (.mul (.a 1) (.a 7)))) (.le (.add (.mul (.a 0) (.a 6)) (.mul (.a 1) (.a 7))) (.l 9223372036854775807)))
  (.need (.and (.le (.l (-9223372036854775808)) (.mul (.a 2) (.a 8))) (.le (.mul (.a 2) (.a 8)) (.l 9223372036854775807)))
  (.need (.and (.le (.l (-9223372036854775808)) (.add (.add (.mul (.a 0) (.a 6)) (.mul (.a 1) (.a 7))) (.mul (.a 2) (.a 8)))) (.le (.add (.add (.mul (.a 0) (.a 6)) (.mul (.a 1) (.a 7))) (.mul (.a 2) (.a 8))) (.l 9223372036854775807)))
  (.need (.and (.le (.l (-9223372036854775808)) (.mul (.a 3) (.a 9))) (.le (.mul (.a 3) (.a 9)) (.l 9223372036854775807)))
  (.need (.and (.le (.l (-9223372036854775808)) (.add (.add (.add (.mul (.a 0) (.a 6)) (.mul (.a 1) (.a 7))) (.mul (.a 2) (.a 8))) (.mul (.a 3) (.a 9)))) (.le (.add (.add (.add (.mul (.a 0) (.a 6)) (.mul (.a 1) (.a 7))) (.mul (.a 2) (.a 8))) (.mul (.a 3) (.a 9))) (.l 9223372036854775807)))
  (.need (.and (.le (.l (-9223372036854775808)) (.mul (.a 4) (.a 10))) (.le (.mul (.a 4) (.a 10)) (.l 9223372036854775807)))
  (.need (.and (.le (.l (-9223372036854775808)) (.add (.add (.add (.add (.mul (.a 0) (.a 6)) (.mul (.a 1) (.a 7))) (.mul (.a 2) (.a 8))) (.mul (.a 3) (.a 9))) (.mul (.a 4) (.a 10)))) (.le (.add (.add (.add (.add (.mul (.a 0) (.a 6)) (.mul (.a 1) (.a 7))) (.mul (.a 2) (.a 8))) (.mul (.a 3) (.a 9))) (.mul (.a 4) (.a 10))) (.l 9223372036854775807)))
  (.need (.and (.le (.l (-9223372036854775808)) (.mul (.a 5) (.a 11))) (.le (.mul (.a 5) (.a 11)) (.l 9223372036854775807)))
  (.need (.and (.le (.l (-9223372036854775808)) (.add (.add (.add (.add (.add (.mul (.a 0) (.a 6)) (.mul (.a 1) (.a 7))) (.mul (.a 2) (.a 8))) (.mul (.a 3) (.a 9))) (.mul (.a 4) (.a 10))) (.mul (.a 5) (.a 11)))) (.le (.add (.add (.add (.add (.add (.mul (.a 0) (.a 6)) (.mul (.a 1) (.a 7))) (.mul (.a 2) (.a 8))) (.mul (.a 3) (.a 9))) (.mul (.a 4) (.a 10))) (.mul (.a 5) (.a 11))) (.l 9223372036854775807)))
  (.ret (.int .i64 (.add (.add (.add (.add (.add (.mul (.a 0) (.a 6)) (.mul (.a 1) (.a 7))) (.mul (.a 2) (.a 8))) (.mul (.a 3) (.a 9))) (.mul (.a 4) (.a 10))) (.mul (.a 5) (.a 11)))) [])))))))))))))
theorem o_rcost_eq : run (cx true [] []) (fnOf Try.f56) 5000 (startCfg Try.f56.ntmps [b6 0, b6 6] 12 0 0) = o_rcost := by kernel_rfl
theorem o_rcost_ct {Q : Value → Hp → Prop} {s : Hp} (i : List Int) (b : List Bool) (v : List Value) (hi : i.length = 12) (hb : b.length = 0) (hv : v.length = 0) (hok : v.all fineV = true)
    (h : ∀ w0, VC Try.prog Q (Go.Sx.Reach Try.prog 56 (Ret Q s w0) (fnOf Try.f56).body w0 s) o_rcost ⟨i, b, v, []⟩ s) : Ct Try.prog 56 (SV.dens ⟨i, b, v, []⟩ id [b6 0, b6 6]) s Q := by
  refine ct_run (fn := fnOf Try.f56) (progOk true [] []) Try.func56 rfl rfl 5000 (fun x hx => List.all_eq_true.1 hok x hx) rfl (fun w0 => ?_)
  rw [hi, hb, hv, o_rcost_eq]
  exact h w0

theorem rcost_ct (p b : Bd) (s : Hp) (hp : Small 1000000000 p) (hb : Small 1000000 b) : Ct Try.prog 56 [p.v, b.v] s (fun v _ => v = .int .i64 (p.cost b)) := by
  refine o_rcost_ct (p.l ++ b.l) [] [] rfl rfl rfl rfl (fun w0 => ?_)
  simp only [o_rcost, VC, IE.den, BE.den, SV.den, SV.dens, Env.push, Env.ext, List.getD_cons_zero, List.getD_cons_succ, List.cons_append, List.nil_append, List.append_assoc, List.map_cons, List.map_nil, ltB_true, leB_true, eqB_true, ltB_false, leB_false, eqB_false, Bool.not_eq_true', Bool.not_eq_false', Bool.and_eq_true, Bool.or_eq_true, Bool.and_eq_false_iff, Bool.or_eq_false_iff, Bd.l]
  unfold Small Bd.all at hb hp
  have m1 := mulS (x := p.a) (y := b.a) (A := 1000000000) (B := 1000000) (by omega) (by omega)
  have m2 := mulS (x := p.b) (y := b.b) (A := 1000000000) (B := 1000000) (by omega) (by omega)
  have m3 := mulS (x := p.c) (y := b.c) (A := 1000000000) (B := 1000000) (by omega) (by omega)
  have m4 := mulS (x := p.d) (y := b.d) (A := 1000000000) (B := 1000000) (by omega) (by omega)
  have m5 := mulS (x := p.e) (y := b.e) (A := 1000000000) (B := 1000000) (by omega) (by omega)
  have m6 := mulS (x := p.f) (y := b.f) (A := 1000000000) (B := 1000000) (by omega) (by omega)
  repeat' (first | (refine ⟨by omega, fun _ => ?_⟩) | (intro β s' _ _))
  rfl

theorem pok_small {p : Bd} (h : pok p) : Small 1000000000 p := by
  unfold pok Bd.all at h; unfold Small Bd.all; omega
theorem ok_small {b : Bd} (h : b.Ok) : Small 1000000 b := by
  unfold Bd.Ok at h; unfold Small Bd.all; omega

/-- The slice v holds the offers L. -/
abbrev OfIn (s : Hp) (v : Value) (L : List Of) : Prop := SliceIn s 8 v (L.map Of.cs)

def cn_o : Out :=
  (.need (.is 0 0)
  (.stop { todo := [(.code [false, false, true, false, true, true]), (.inLoop [false, false, true, false, true, true]), (.inBlock 0), (.code [true, true, true])], sl := [(.va 0), .undef, .nilS, .nilS, .undef, .undef, (.va 0), (.int .i64 (.slen 0)), (.int .i64 (.l 0)), .undef, .undef, .undef, .undef, .undef, .undef, .undef, .undef, .undef, .undef, .undef, .undef, .undef, .undef, .undef, .undef, .undef, .undef, .undef, .undef, .undef, .undef, .undef], H := [], ni := 0, nb := 0, nv := 1, nj := 0 }))
theorem cn_o_eq : run (cx true [[false, false, true, false, true, true]] []) (fnOf Try.f53) 5000 (startCfg Try.f53.ntmps [.va 0] 0 0 1) = cn_o := by kernel_rfl
theorem cn_o_ct {Q : Value → Hp → Prop} {s : Hp} (i : List Int) (b : List Bool) (v : List Value) (hi : i.length = 0) (hb : b.length = 0) (hv : v.length = 1) (hok : v.all fineV = true)
    (h : ∀ w0, VC Try.prog Q (Go.Sx.Reach Try.prog 53 (Ret Q s w0) (fnOf Try.f53).body w0 s) cn_o ⟨i, b, v, []⟩ s) : Ct Try.prog 53 (SV.dens ⟨i, b, v, []⟩ id [.va 0]) s Q := by
  refine ct_run (fn := fnOf Try.f53) (progOk true [[false, false, true, false, true, true]] []) Try.func53 rfl rfl 5000 (fun x hx => List.all_eq_true.1 hok x hx) rfl (fun w0 => ?_)
  rw [hi, hb, hv, cn_o_eq]
  exact h w0
def cn_a_0 : Asg :=
  ⟨[(.slen 0), (.l 0)], [], [(.va 0), .nilS], [.undef, .undef, .undef, .undef, .undef, .undef, .undef, .undef, .undef, .undef, .undef, .undef, .undef, .undef, .undef, .undef, .undef, .undef, .undef, .undef, .undef, .undef, .undef]⟩
def cn_p0 : Cfg :=
  { todo := [(.code [false, false, true, false, true, true]), (.inLoop [false, false, true, false, true, true]), (.inBlock 0), (.code [true, true, true])], sl := [(.va 0), .undef, .nilS, (.va 1), .undef, (.junk 0), (.va 0), (.int .i64 (.a 0)), (.int .i64 (.a 1)), (.junk 1), (.junk 2), (.junk 3), (.junk 4), (.junk 5), (.junk 6), (.junk 7), (.junk 8), (.junk 9), (.junk 10), (.junk 11), (.junk 12), (.junk 13), (.junk 14), (.junk 15), (.junk 16), (.junk 17), (.junk 18), (.junk 19), (.junk 20), (.junk 21), (.junk 22), .undef], H := [(.row 1 65 8)], ni := 2, nb := 0, nv := 2, nj := 23 }
def cn_o0 : Out :=
  (.ite (.lt (.a 1) (.a 0))
  (.need (.and (.le (.l 0) (.a 1)) (.lt (.a 1) (.slen 0)))
  (.load (.ea 0 (.a 1) 8 0) [(.int .i64 (.a 2)), (.int .i64 (.a 3)), (.int .i64 (.a 4)), (.int .i64 (.a 5)), (.int .i64 (.a 6)), (.int .i64 (.a 7)), (.int .i64 (.a 8)), (.int .i64 (.a 9))] 8 0 0
  (.call 51 [(.agg [(.int .i64 (.a 3)), (.int .i64 (.a 4)), (.int .i64 (.a 5)), (.int .i64 (.a 6)), (.int .i64 (.a 7)), (.int .i64 (.a 8))])] [] (.int .i64 (.a 10)) 1 0 0
  (.ite (.eq (.a 10) (.l 0))
  (.ite (.le (.l 1) (.a 9))
  (.ite (.le (.a 9) (.l 1000000))
  (.app (some 1) (.lit [[(.int .i64 (.a 2)), (.int .i64 (.a 3)), (.int .i64 (.a 4)), (.int .i64 (.a 5)), (.int .i64 (.a 6)), (.int .i64 (.a 7)), (.int .i64 (.a 8)), (.int .i64 (.a 9))]]) 8 64
  (.need (.and (.le (.l (-9223372036854775808)) (.add (.a 1) (.l 1))) (.le (.add (.a 1) (.l 1)) (.l 9223372036854775807)))
  (.stop { todo := [(.code [false, false, true, false, true, true]), (.inLoop [false, false, true, false, true, true]), (.inBlock 0), (.code [true, true, true])], sl := [(.va 0), .undef, .nilS, (.va 2), .undef, (.ptr 1 0), (.va 0), (.int .i64 (.a 0)), (.int .i64 (.add (.a 1) (.l 1))), (.bool (.lt (.a 1) (.a 0))), (.ea 0 (.a 1) 8 0), (.agg [(.int .i64 (.a 2)), (.int .i64 (.a 3)), (.int .i64 (.a 4)), (.int .i64 (.a 5)), (.int .i64 (.a 6)), (.int .i64 (.a 7)), (.int .i64 (.a 8)), (.int .i64 (.a 9))]), (.ptr 1 1), (.agg [(.int .i64 (.a 3)), (.int .i64 (.a 4)), (.int .i64 (.a 5)), (.int .i64 (.a 6)), (.int .i64 (.a 7)), (.int .i64 (.a 8))]), (.int .i64 (.a 10)), (.bool (.eq (.a 10) (.l 0))), (.bool (.t true)), (.ptr 1 7), (.int .i64 (.a 9)), (.bool (.le (.l 1) (.a 9))), (.bool (.le (.l 1) (.a 9))), (.bool (.t true)), (.ptr 1 7), (.int .i64 (.a 9)), (.bool (.le (.a 9) (.l 1000000))), (.bool (.le (.a 9) (.l 1000000))), (.va 1), (.agg [(.int .i64 (.a 2)), (.int .i64 (.a 3)), (.int .i64 (.a 4)), (.int .i64 (.a 5)), (.int .i64 (.a 6)), (.int .i64 (.a 7)), (.int .i64 (.a 8)), (.int .i64 (.a 9))]), (.sl 2 1), (.va 2), (.int .i64 (.add (.a 1) (.l 1))), .undef], H := [(.row 2 65 8), (.cells [(.int .i64 (.a 2)), (.int .i64 (.a 3)), (.int .i64 (.a 4)), (.int .i64 (.a 5)), (.int .i64 (.a 6)), (.int .i64 (.a 7)), (.int .i64 (.a 8)), (.int .i64 (.a 9))] 65 false), (.cells [(.int .i64 (.a 2)), (.int .i64 (.a 3)), (.int .i64 (.a 4)), (.int .i64 (.a 5)), (.int .i64 (.a 6)), (.int .i64 (.a 7)), (.int .i64 (.a 8)), (.int .i64 (.a 9))] 65 false)], ni := 11, nb := 0, nv := 3, nj := 23 })))
  (.need (.and (.le (.l (-9223372036854775808)) (.add (.a 1) (.l 1))) (.le (.add (.a 1) (.l 1)) (.l 9223372036854775807)))
  (.stop { todo := [(.code [false, false, true, false, true, true]), (.inLoop [false, false, true, false, true, true]), (.inBlock 0), (.code [true, true, true])], sl := [(.va 0), .undef, .nilS, (.va 1), .undef, (.ptr 1 0), (.va 0), (.int .i64 (.a 0)), (.int .i64 (.add (.a 1) (.l 1))), (.bool (.lt (.a 1) (.a 0))), (.ea 0 (.a 1) 8 0), (.agg [(.int .i64 (.a 2)), (.int .i64 (.a 3)), (.int .i64 (.a 4)), (.int .i64 (.a 5)), (.int .i64 (.a 6)), (.int .i64 (.a 7)), (.int .i64 (.a 8)), (.int .i64 (.a 9))]), (.ptr 1 1), (.agg [(.int .i64 (.a 3)), (.int .i64 (.a 4)), (.int .i64 (.a 5)), (.int .i64 (.a 6)), (.int .i64 (.a 7)), (.int .i64 (.a 8))]), (.int .i64 (.a 10)), (.bool (.eq (.a 10) (.l 0))), (.bool (.t true)), (.ptr 1 7), (.int .i64 (.a 9)), (.bool (.le (.l 1) (.a 9))), (.bool (.le (.l 1) (.a 9))), (.bool (.t true)), (.ptr 1 7), (.int .i64 (.a 9)), (.bool (.le (.a 9) (.l 1000000))), (.bool (.le (.a 9) (.l 1000000))), (.junk 18), (.junk 19), (.junk 20), (.junk 21), (.int .i64 (.add (.a 1) (.l 1))), .undef], H := [(.row 1 65 8), (.cells [(.int .i64 (.a 2)), (.int .i64 (.a 3)), (.int .i64 (.a 4)), (.int .i64 (.a 5)), (.int .i64 (.a 6)), (.int .i64 (.a 7)), (.int .i64 (.a 8)), (.int .i64 (.a 9))] 65 false)], ni := 11, nb := 0, nv := 2, nj := 23 })))
  (.need (.and (.le (.l (-9223372036854775808)) (.add (.a 1) (.l 1))) (.le (.add (.a 1) (.l 1)) (.l 9223372036854775807)))
  (.stop { todo := [(.code [false, false, true, false, true, true]), (.inLoop [false, false, true, false, true, true]), (.inBlock 0), (.code [true, true, true])], sl := [(.va 0), .undef, .nilS, (.va 1), .undef, (.ptr 1 0), (.va 0), (.int .i64 (.a 0)), (.int .i64 (.add (.a 1) (.l 1))), (.bool (.lt (.a 1) (.a 0))), (.ea 0 (.a 1) 8 0), (.agg [(.int .i64 (.a 2)), (.int .i64 (.a 3)), (.int .i64 (.a 4)), (.int .i64 (.a 5)), (.int .i64 (.a 6)), (.int .i64 (.a 7)), (.int .i64 (.a 8)), (.int .i64 (.a 9))]), (.ptr 1 1), (.agg [(.int .i64 (.a 3)), (.int .i64 (.a 4)), (.int .i64 (.a 5)), (.int .i64 (.a 6)), (.int .i64 (.a 7)), (.int .i64 (.a 8))]), (.int .i64 (.a 10)), (.bool (.eq (.a 10) (.l 0))), (.bool (.t true)), (.ptr 1 7), (.int .i64 (.a 9)), (.bool (.le (.l 1) (.a 9))), (.bool (.le (.l 1) (.a 9))), (.bool (.t false)), .undef, .undef, .undef, (.bool (.t false)), (.junk 18), (.junk 19), (.junk 20), (.junk 21), (.int .i64 (.add (.a 1) (.l 1))), .undef], H := [(.row 1 65 8), (.cells [(.int .i64 (.a 2)), (.int .i64 (.a 3)), (.int .i64 (.a 4)), (.int .i64 (.a 5)), (.int .i64 (.a 6)), (.int .i64 (.a 7)), (.int .i64 (.a 8)), (.int .i64 (.a 9))] 65 false)], ni := 11, nb := 0, nv := 2, nj := 23 })))
  (.need (.and (.le (.l (-9223372036854775808)) (.add (.a 1) (.l 1))) (.le (.add (.a 1) (.l 1)) (.l 9223372036854775807)))
  (.stop { todo := [(.code [false, false, true, false, true, true]), (.inLoop [false, false, true, false, true, true]), (.inBlock 0), (.code [true, true, true])], sl := [(.va 0), .undef, .nilS, (.va 1), .undef, (.ptr 1 0), (.va 0), (.int .i64 (.a 0)), (.int .i64 (.add (.a 1) (.l 1))), (.bool (.lt (.a 1) (.a 0))), (.ea 0 (.a 1) 8 0), (.agg [(.int .i64 (.a 2)), (.int .i64 (.a 3)), (.int .i64 (.a 4)), (.int .i64 (.a 5)), (.int .i64 (.a 6)), (.int .i64 (.a 7)), (.int .i64 (.a 8)), (.int .i64 (.a 9))]), (.ptr 1 1), (.agg [(.int .i64 (.a 3)), (.int .i64 (.a 4)), (.int .i64 (.a 5)), (.int .i64 (.a 6)), (.int .i64 (.a 7)), (.int .i64 (.a 8))]), (.int .i64 (.a 10)), (.bool (.eq (.a 10) (.l 0))), (.bool (.t false)), .undef, .undef, .undef, (.bool (.t false)), (.bool (.t false)), .undef, .undef, .undef, (.bool (.t false)), (.junk 18), (.junk 19), (.junk 20), (.junk 21), (.int .i64 (.add (.a 1) (.l 1))), .undef], H := [(.row 1 65 8), (.cells [(.int .i64 (.a 2)), (.int .i64 (.a 3)), (.int .i64 (.a 4)), (.int .i64 (.a 5)), (.int .i64 (.a 6)), (.int .i64 (.a 7)), (.int .i64 (.a 8)), (.int .i64 (.a 9))] 65 false)], ni := 11, nb := 0, nv := 2, nj := 23 }))))))
  (.ret (.va 1) []))
theorem cn_o0_eq : run (cx true [[false, false, true, false, true, true]] []) (fnOf Try.f53) 5000 cn_p0 = cn_o0 := by kernel_rfl
theorem cn_l0 {Q : Value → Hp → Prop} {w0 : World} {s0 : Hp} (I : List Int → List Bool → List Value → Hp → Prop) (m : List Int → List Bool → List Value → Nat)
    (round : ∀ is bs vs js s1, is.length = 2 → bs.length = 0 → vs.length = 2 → I is bs vs s1 →
      (∀ (A : Asg) g r s, s1.le s → Go.Sx.fits ⟨0, 0, 0, 0⟩ A cn_p0 g = true → I (A.is.map (IE.den r)) (A.bs.map (BE.den r)) (SV.dens r id A.vs) s → m (A.is.map (IE.den r)) (A.bs.map (BE.den r)) (SV.dens r id A.vs) < m is bs vs →
        Go.Sx.Reach Try.prog 53 (Ret Q s0 w0) (fnOf Try.f53).body w0 s0 g r s) → VC Try.prog Q (Go.Sx.Reach Try.prog 53 (Ret Q s0 w0) (fnOf Try.f53).body w0 s0) cn_o0 ⟨is, bs, vs, js⟩ s1) :
    ∀ (A : Asg) (g : Cfg) (r : Env) (s : Hp), Go.Sx.fits ⟨0, 0, 0, 0⟩ A cn_p0 g = true → I (A.is.map (IE.den r)) (A.bs.map (BE.den r)) (SV.dens r id A.vs) s → Go.Sx.Reach Try.prog 53 (Ret Q s0 w0) (fnOf Try.f53).body w0 s0 g r s :=
  loop0 (fn := fnOf Try.f53) (progOk true [[false, false, true, false, true, true]] []) Try.func53 rfl 5000 cn_p0 I m (fun _ _ _ _ h => by cases h) (fun is bs vs js s1 h1 h2 h3 _ h ih => by
    rw [cn_o0_eq]
    exact round is bs vs js s1 h1 h2 h3 h ih)
def cn_a0_0 : Asg :=
  ⟨[(.a 0), (.add (.a 1) (.l 1))], [], [(.va 0), (.va 2)], [(.ptr 1 0), (.bool (.lt (.a 1) (.a 0))), (.ea 0 (.a 1) 8 0), (.agg [(.int .i64 (.a 2)), (.int .i64 (.a 3)), (.int .i64 (.a 4)), (.int .i64 (.a 5)), (.int .i64 (.a 6)), (.int .i64 (.a 7)), (.int .i64 (.a 8)), (.int .i64 (.a 9))]), (.ptr 1 1), (.agg [(.int .i64 (.a 3)), (.int .i64 (.a 4)), (.int .i64 (.a 5)), (.int .i64 (.a 6)), (.int .i64 (.a 7)), (.int .i64 (.a 8))]), (.int .i64 (.a 10)), (.bool (.eq (.a 10) (.l 0))), (.bool (.t true)), (.ptr 1 7), (.int .i64 (.a 9)), (.bool (.le (.l 1) (.a 9))), (.bool (.le (.l 1) (.a 9))), (.bool (.t true)), (.ptr 1 7), (.int .i64 (.a 9)), (.bool (.le (.a 9) (.l 1000000))), (.bool (.le (.a 9) (.l 1000000))), (.va 1), (.agg [(.int .i64 (.a 2)), (.int .i64 (.a 3)), (.int .i64 (.a 4)), (.int .i64 (.a 5)), (.int .i64 (.a 6)), (.int .i64 (.a 7)), (.int .i64 (.a 8)), (.int .i64 (.a 9))]), (.sl 2 1), (.va 2), (.int .i64 (.add (.a 1) (.l 1)))]⟩
def cn_a0_1 : Asg :=
  ⟨[(.a 0), (.add (.a 1) (.l 1))], [], [(.va 0), (.va 1)], [(.ptr 1 0), (.bool (.lt (.a 1) (.a 0))), (.ea 0 (.a 1) 8 0), (.agg [(.int .i64 (.a 2)), (.int .i64 (.a 3)), (.int .i64 (.a 4)), (.int .i64 (.a 5)), (.int .i64 (.a 6)), (.int .i64 (.a 7)), (.int .i64 (.a 8)), (.int .i64 (.a 9))]), (.ptr 1 1), (.agg [(.int .i64 (.a 3)), (.int .i64 (.a 4)), (.int .i64 (.a 5)), (.int .i64 (.a 6)), (.int .i64 (.a 7)), (.int .i64 (.a 8))]), (.int .i64 (.a 10)), (.bool (.eq (.a 10) (.l 0))), (.bool (.t true)), (.ptr 1 7), (.int .i64 (.a 9)), (.bool (.le (.l 1) (.a 9))), (.bool (.le (.l 1) (.a 9))), (.bool (.t true)), (.ptr 1 7), (.int .i64 (.a 9)), (.bool (.le (.a 9) (.l 1000000))), (.bool (.le (.a 9) (.l 1000000))), (.junk 18), (.junk 19), (.junk 20), (.junk 21), (.int .i64 (.add (.a 1) (.l 1)))]⟩
def cn_a0_2 : Asg :=
  ⟨[(.a 0), (.add (.a 1) (.l 1))], [], [(.va 0), (.va 1)], [(.ptr 1 0), (.bool (.lt (.a 1) (.a 0))), (.ea 0 (.a 1) 8 0), (.agg [(.int .i64 (.a 2)), (.int .i64 (.a 3)), (.int .i64 (.a 4)), (.int .i64 (.a 5)), (.int .i64 (.a 6)), (.int .i64 (.a 7)), (.int .i64 (.a 8)), (.int .i64 (.a 9))]), (.ptr 1 1), (.agg [(.int .i64 (.a 3)), (.int .i64 (.a 4)), (.int .i64 (.a 5)), (.int .i64 (.a 6)), (.int .i64 (.a 7)), (.int .i64 (.a 8))]), (.int .i64 (.a 10)), (.bool (.eq (.a 10) (.l 0))), (.bool (.t true)), (.ptr 1 7), (.int .i64 (.a 9)), (.bool (.le (.l 1) (.a 9))), (.bool (.le (.l 1) (.a 9))), (.bool (.t false)), .undef, .undef, .undef, (.bool (.t false)), (.junk 18), (.junk 19), (.junk 20), (.junk 21), (.int .i64 (.add (.a 1) (.l 1)))]⟩
def cn_a0_3 : Asg :=
  ⟨[(.a 0), (.add (.a 1) (.l 1))], [], [(.va 0), (.va 1)], [(.ptr 1 0), (.bool (.lt (.a 1) (.a 0))), (.ea 0 (.a 1) 8 0), (.agg [(.int .i64 (.a 2)), (.int .i64 (.a 3)), (.int .i64 (.a 4)), (.int .i64 (.a 5)), (.int .i64 (.a 6)), (.int .i64 (.a 7)), (.int .i64 (.a 8)), (.int .i64 (.a 9))]), (.ptr 1 1), (.agg [(.int .i64 (.a 3)), (.int .i64 (.a 4)), (.int .i64 (.a 5)), (.int .i64 (.a 6)), (.int .i64 (.a 7)), (.int .i64 (.a 8))]), (.int .i64 (.a 10)), (.bool (.eq (.a 10) (.l 0))), (.bool (.t false)), .undef, .undef, .undef, (.bool (.t false)), (.bool (.t false)), .undef, .undef, .undef, (.bool (.t false)), (.junk 18), (.junk 19), (.junk 20), (.junk 21), (.int .i64 (.add (.a 1) (.l 1)))]⟩

def CnI (L : List Of) (lv : Value) : List Int → List Bool → List Value → Hp → Prop := fun is bs vs s =>
  ∃ (i : Nat) (out : Value), is = [(L.length : Int), (i : Int)] ∧ vs = [lv, out] ∧ i ≤ L.length ∧ OfIn s lv L ∧ OfIn s out (counting (L.take i))
theorem cn_r0 (L : List Of) (hL : L.length ≤ 1000) (lv : Value) {w0 : World} {s0 : Hp} : ∀ (A : Asg) (g : Cfg) (r : Env) (s : Hp), Go.Sx.fits ⟨0, 0, 0, 0⟩ A cn_p0 g = true → CnI L lv (A.is.map (IE.den r)) (A.bs.map (BE.den r)) (SV.dens r id A.vs) s →
    Go.Sx.Reach Try.prog 53 (Ret (fun v s => OfIn s v (counting L)) s0 w0) (fnOf Try.f53).body w0 s0 g r s := by
  refine cn_l0 (CnI L lv) (fun is _ _ => L.length - (is.getD 1 0).toNat) (fun is bs vs js s1 l1 l2 l3 hI ih => ?_)
  obtain ⟨i, out, rfl, rfl, hi, h0, h1⟩ := hI
  obtain rfl : bs = [] := List.length_eq_zero_iff.1 l2
  unfold cn_o0
  refine vc_ite (fun h => ?_) (fun h => ?_) <;> simp only [BE.den, IE.den, SV.den, SV.dens, List.getD_cons_zero, List.getD_cons_succ, List.cons_append, List.nil_append, List.append_assoc, ltB_true, leB_true, eqB_true, ltB_false, leB_false, eqB_false, Bool.not_eq_true', Bool.not_eq_false', Bool.and_eq_true, Bool.or_eq_true, Bool.and_eq_false_iff, Bool.or_eq_false_iff] at h
  · have hlt : i < L.length := by omega
    have hm : L.length - ((i : Int) + 1).toNat < L.length - (i : Int).toNat := by omega
    have htake : ∀ o, L[i]? = some o → counting (L.take (i + 1)) = counting (L.take i) ++ (if o.good then [o] else []) := by
      intro o ho
      rw [List.take_add_one, ho]
      simp only [Option.toList_some, counting, List.filter_append, List.filter_cons, List.filter_nil]
      by_cases hg : o.good <;> simp [hg]
    refine vc_need (by simp only [BE.den, IE.den, SV.den, SV.dens, List.getD_cons_zero, List.getD_cons_succ, List.cons_append, List.nil_append, List.append_assoc, ltB_true, leB_true, eqB_true, ltB_false, leB_false, eqB_false, Bool.not_eq_true', Bool.not_eq_false', Bool.and_eq_true, Bool.or_eq_true, Bool.and_eq_false_iff, Bool.or_eq_false_iff, h0.len, List.length_map]; omega) (fun _ => ?_)
    obtain ⟨o, ho⟩ : ∃ o, L[i]? = some o := ⟨_, List.getElem?_eq_getElem hlt⟩
    have htake := htake o ho
    obtain ⟨n, ⟨a, b, c, d, e, f⟩, v⟩ := o
    refine vc_load [n, a, b, c, d, e, f, v] [] [] (Of.cs ⟨n, ⟨a, b, c, d, e, f⟩, v⟩) (h0.at rfl rfl (by rw [List.getElem?_map, ho]; rfl)) rfl rfl rfl rfl rfl ?_
    conv => arg 5; simp only [List.cons_append, List.nil_append, List.append_nil]
    obtain ⟨k, hk⟩ : ∃ k, k = (Bd.mk a b c d e f).check := ⟨_, rfl⟩
    have hct : ∀ s1, Ct Try.prog 51 [(Bd.mk a b c d e f).v] s1 (fun v _ => v = .int .i64 k) := fun s1 => by rw [hk]; exact check_ct _ s1
    refine vc_call _ _ [k] [] [] (fun s1 _ => hct s1) (fun _ => rfl) rfl rfl rfl rfl rfl (fun s2 hs2 => ?_)
    conv => arg 5; simp only [List.cons_append, List.nil_append, List.append_nil]
    have hok := Bd.check_zero (s := ⟨a, b, c, d, e, f⟩)
    rw [← hk] at hok
    have no : ¬ (Of.mk n ⟨a, b, c, d, e, f⟩ v).good → OfIn s2 out (counting (L.take (i + 1))) := fun hg => by
      rw [htake, if_neg hg, List.append_nil]; exact h1.mono hs2
    refine vc_ite (fun h => ?_) (fun h => ?_) <;> simp only [BE.den, IE.den, SV.den, SV.dens, List.getD_cons_zero, List.getD_cons_succ, List.cons_append, List.nil_append, List.append_assoc, ltB_true, leB_true, eqB_true, ltB_false, leB_false, eqB_false, Bool.not_eq_true', Bool.not_eq_false', Bool.and_eq_true, Bool.or_eq_true, Bool.and_eq_false_iff, Bool.or_eq_false_iff] at h
    · refine vc_ite (fun h3 => ?_) (fun h3 => ?_) <;> simp only [BE.den, IE.den, SV.den, SV.dens, List.getD_cons_zero, List.getD_cons_succ, List.cons_append, List.nil_append, List.append_assoc, ltB_true, leB_true, eqB_true, ltB_false, leB_false, eqB_false, Bool.not_eq_true', Bool.not_eq_false', Bool.and_eq_true, Bool.or_eq_true, Bool.and_eq_false_iff, Bool.or_eq_false_iff] at h3
      · refine vc_ite (fun h4 => ?_) (fun h4 => ?_) <;> simp only [BE.den, IE.den, SV.den, SV.dens, List.getD_cons_zero, List.getD_cons_succ, List.cons_append, List.nil_append, List.append_assoc, ltB_true, leB_true, eqB_true, ltB_false, leB_false, eqB_false, Bool.not_eq_true', Bool.not_eq_false', Bool.and_eq_true, Bool.or_eq_true, Bool.and_eq_false_iff, Bool.or_eq_false_iff] at h4
        · have hlen : (counting (L.take i)).length ≤ 1000 := by
            have := counting_len (L.take i); have := List.length_take_le i L; omega
          refine vc_app ((counting (L.take i)).map Of.cs) (Of.cs ⟨n, ⟨a, b, c, d, e, f⟩, v⟩) (h1.mono hs2) rfl (by rw [List.length_map]; omega) (by rw [List.length_map]; simp only [maxLen]; omega) (fun g' s4 hs4 hg' => ?_)
          conv => arg 5; simp only [List.cons_append, List.nil_append, List.append_nil]
          refine vc_need (by simp only [BE.den, IE.den, SV.den, SV.dens, List.getD_cons_zero, List.getD_cons_succ, List.cons_append, List.nil_append, List.append_assoc, ltB_true, leB_true, eqB_true, ltB_false, leB_false, eqB_false, Bool.not_eq_true', Bool.not_eq_false', Bool.and_eq_true, Bool.or_eq_true, Bool.and_eq_false_iff, Bool.or_eq_false_iff]; omega) (fun _ => vc_stop ?_)
          refine ih cn_a0_0 _ _ _ (Hp.le_trans hs2 hs4) (by kernel_rfl) ⟨i + 1, g', rfl, rfl, by omega, (h0.mono hs2).mono hs4, ?_⟩ hm
          rw [htake, if_pos ⟨hok.1 h, h3, h4⟩]
          unfold OfIn
          rw [List.map_append]
          exact hg'
        · exact vc_need (by simp only [BE.den, IE.den, SV.den, SV.dens, List.getD_cons_zero, List.getD_cons_succ, List.cons_append, List.nil_append, List.append_assoc, ltB_true, leB_true, eqB_true, ltB_false, leB_false, eqB_false, Bool.not_eq_true', Bool.not_eq_false', Bool.and_eq_true, Bool.or_eq_true, Bool.and_eq_false_iff, Bool.or_eq_false_iff]; omega) (fun _ => vc_stop (ih cn_a0_1 _ _ _ hs2 (by kernel_rfl) ⟨i + 1, out, rfl, rfl, by omega, h0.mono hs2, no (fun hg => h4 hg.2.2)⟩ hm))
      · exact vc_need (by simp only [BE.den, IE.den, SV.den, SV.dens, List.getD_cons_zero, List.getD_cons_succ, List.cons_append, List.nil_append, List.append_assoc, ltB_true, leB_true, eqB_true, ltB_false, leB_false, eqB_false, Bool.not_eq_true', Bool.not_eq_false', Bool.and_eq_true, Bool.or_eq_true, Bool.and_eq_false_iff, Bool.or_eq_false_iff]; omega) (fun _ => vc_stop (ih cn_a0_2 _ _ _ hs2 (by kernel_rfl) ⟨i + 1, out, rfl, rfl, by omega, h0.mono hs2, no (fun hg => h3 hg.2.1)⟩ hm))
    · exact vc_need (by simp only [BE.den, IE.den, SV.den, SV.dens, List.getD_cons_zero, List.getD_cons_succ, List.cons_append, List.nil_append, List.append_assoc, ltB_true, leB_true, eqB_true, ltB_false, leB_false, eqB_false, Bool.not_eq_true', Bool.not_eq_false', Bool.and_eq_true, Bool.or_eq_true, Bool.and_eq_false_iff, Bool.or_eq_false_iff]; omega) (fun _ => vc_stop (ih cn_a0_3 _ _ _ hs2 (by kernel_rfl) ⟨i + 1, out, rfl, rfl, by omega, h0.mono hs2, no (fun hg => h (hok.2 hg.1))⟩ hm))
  · refine vc_ret (fun β s' hs _ => ?_)
    have : L.take i = L := List.take_of_length_le (by omega)
    rw [this] at h1
    exact h1.mono hs
theorem counting_ct (L : List Of) (hL : L.length ≤ 1000) (lv : Value) (s : Hp) (hl : OfIn s lv L) : Ct Try.prog 53 [lv] s (fun v s' => OfIn s' v (counting L)) := by
  refine cn_o_ct [] [] [lv] rfl rfl rfl (by simp [hl.fine]) (fun w0 => ?_)
  unfold cn_o
  refine vc_need hl.kind (fun _ => vc_stop ?_)
  refine cn_r0 L hL lv cn_a_0 _ _ _ (by kernel_rfl) ⟨0, .slice none 0 0, ?_, rfl, Nat.zero_le _, hl, by simp [counting, OfIn]; exact SliceIn.nil _ _⟩
  simp [cn_a_0, IE.den, hl.len]

def fv_o : Out :=
  (.need (.is 0 0)
  (.stop { todo := [(.code [false, false, true, false, true, true]), (.inLoop [false, false, true, false, true, true]), (.inBlock 0), (.code [true, true, true])], sl := [(.va 0), (.agg [(.int .i64 (.a 0)), (.int .i64 (.a 1)), (.int .i64 (.a 2)), (.int .i64 (.a 3)), (.int .i64 (.a 4)), (.int .i64 (.a 5))]), .undef, (.ptr 0 0), (.int .i64 (.l 0)), (.int .i64 (.l 0)), .undef, .undef, (.va 0), (.int .i64 (.slen 0)), (.int .i64 (.l 0)), .undef, .undef, .undef, .undef, .undef, .undef, .undef, .undef, .undef, .undef, .undef, .undef, .undef, .undef, .undef, .undef, .undef], H := [(.cells [(.int .i64 (.a 0)), (.int .i64 (.a 1)), (.int .i64 (.a 2)), (.int .i64 (.a 3)), (.int .i64 (.a 4)), (.int .i64 (.a 5))] 26 false)], ni := 6, nb := 0, nv := 1, nj := 0 }))
theorem fv_o_eq : run (cx true [[false, false, true, false, true, true]] []) (fnOf Try.f73) 5000 (startCfg Try.f73.ntmps [.va 0, b6 0] 6 0 1) = fv_o := by kernel_rfl
theorem fv_o_ct {Q : Value → Hp → Prop} {s : Hp} (i : List Int) (b : List Bool) (v : List Value) (hi : i.length = 6) (hb : b.length = 0) (hv : v.length = 1) (hok : v.all fineV = true)
    (h : ∀ w0, VC Try.prog Q (Go.Sx.Reach Try.prog 73 (Ret Q s w0) (fnOf Try.f73).body w0 s) fv_o ⟨i, b, v, []⟩ s) : Ct Try.prog 73 (SV.dens ⟨i, b, v, []⟩ id [.va 0, b6 0]) s Q := by
  refine ct_run (fn := fnOf Try.f73) (progOk true [[false, false, true, false, true, true]] []) Try.func73 rfl rfl 5000 (fun x hx => List.all_eq_true.1 hok x hx) rfl (fun w0 => ?_)
  rw [hi, hb, hv, fv_o_eq]
  exact h w0
def fv_a_0 : Asg :=
  ⟨[(.a 0), (.a 1), (.a 2), (.a 3), (.a 4), (.a 5), (.l 0), (.slen 0), (.l 0)], [], [(.va 0)], [(.int .i64 (.l 0)), .undef, .undef, .undef, .undef, .undef, .undef, .undef, .undef, .undef, .undef, .undef, .undef, .undef, .undef, .undef, .undef, .undef]⟩
def fv_p0 : Cfg :=
  { todo := [(.code [false, false, true, false, true, true]), (.inLoop [false, false, true, false, true, true]), (.inBlock 0), (.code [true, true, true])], sl := [(.va 0), (.agg [(.int .i64 (.a 0)), (.int .i64 (.a 1)), (.int .i64 (.a 2)), (.int .i64 (.a 3)), (.int .i64 (.a 4)), (.int .i64 (.a 5))]), .undef, (.ptr 0 0), (.junk 0), (.int .i64 (.a 6)), .undef, (.junk 1), (.va 0), (.int .i64 (.a 7)), (.int .i64 (.a 8)), (.junk 2), (.junk 3), (.junk 4), (.junk 5), (.junk 6), (.junk 7), (.junk 8), (.junk 9), (.junk 10), (.junk 11), (.junk 12), (.junk 13), (.junk 14), (.junk 15), (.junk 16), (.junk 17), .undef], H := [(.cells [(.int .i64 (.a 0)), (.int .i64 (.a 1)), (.int .i64 (.a 2)), (.int .i64 (.a 3)), (.int .i64 (.a 4)), (.int .i64 (.a 5))] 26 false)], ni := 9, nb := 0, nv := 1, nj := 18 }
def fv_o0 : Out :=
  (.ite (.lt (.a 8) (.a 7))
  (.need (.and (.le (.l 0) (.a 8)) (.lt (.a 8) (.slen 0)))
  (.load (.ea 0 (.a 8) 8 0) [(.int .i64 (.a 9)), (.int .i64 (.a 10)), (.int .i64 (.a 11)), (.int .i64 (.a 12)), (.int .i64 (.a 13)), (.int .i64 (.a 14)), (.int .i64 (.a 15)), (.int .i64 (.a 16))] 8 0 0
  (.ite (.lt (.a 6) (.a 16))
  (.call 24 [(.agg [(.int .i64 (.a 10)), (.int .i64 (.a 11)), (.int .i64 (.a 12)), (.int .i64 (.a 13)), (.int .i64 (.a 14)), (.int .i64 (.a 15))]), (.agg [(.int .i64 (.a 0)), (.int .i64 (.a 1)), (.int .i64 (.a 2)), (.int .i64 (.a 3)), (.int .i64 (.a 4)), (.int .i64 (.a 5))])] [] (.bool (.a 0)) 0 1 0
  (.ite (.a 0)
  (.need (.and (.le (.l (-9223372036854775808)) (.add (.a 8) (.l 1))) (.le (.add (.a 8) (.l 1)) (.l 9223372036854775807)))
  (.stop { todo := [(.code [false, false, true, false, true, true]), (.inLoop [false, false, true, false, true, true]), (.inBlock 0), (.code [true, true, true])], sl := [(.va 0), (.agg [(.int .i64 (.a 0)), (.int .i64 (.a 1)), (.int .i64 (.a 2)), (.int .i64 (.a 3)), (.int .i64 (.a 4)), (.int .i64 (.a 5))]), .undef, (.ptr 0 0), (.junk 0), (.int .i64 (.a 16)), .undef, (.ptr 1 0), (.va 0), (.int .i64 (.a 7)), (.int .i64 (.add (.a 8) (.l 1))), (.bool (.lt (.a 8) (.a 7))), (.ea 0 (.a 8) 8 0), (.agg [(.int .i64 (.a 9)), (.int .i64 (.a 10)), (.int .i64 (.a 11)), (.int .i64 (.a 12)), (.int .i64 (.a 13)), (.int .i64 (.a 14)), (.int .i64 (.a 15)), (.int .i64 (.a 16))]), (.ptr 1 7), (.int .i64 (.a 16)), (.int .i64 (.a 6)), (.bool (.lt (.a 6) (.a 16))), (.bool (.t true)), (.ptr 1 1), (.agg [(.int .i64 (.a 10)), (.int .i64 (.a 11)), (.int .i64 (.a 12)), (.int .i64 (.a 13)), (.int .i64 (.a 14)), (.int .i64 (.a 15))]), (.agg [(.int .i64 (.a 0)), (.int .i64 (.a 1)), (.int .i64 (.a 2)), (.int .i64 (.a 3)), (.int .i64 (.a 4)), (.int .i64 (.a 5))]), (.bool (.a 0)), (.bool (.a 0)), (.ptr 1 7), (.int .i64 (.a 16)), (.int .i64 (.add (.a 8) (.l 1))), .undef], H := [(.cells [(.int .i64 (.a 0)), (.int .i64 (.a 1)), (.int .i64 (.a 2)), (.int .i64 (.a 3)), (.int .i64 (.a 4)), (.int .i64 (.a 5))] 26 false), (.cells [(.int .i64 (.a 9)), (.int .i64 (.a 10)), (.int .i64 (.a 11)), (.int .i64 (.a 12)), (.int .i64 (.a 13)), (.int .i64 (.a 14)), (.int .i64 (.a 15)), (.int .i64 (.a 16))] 65 false)], ni := 17, nb := 1, nv := 1, nj := 18 }))
  (.need (.and (.le (.l (-9223372036854775808)) (.add (.a 8) (.l 1))) (.le (.add (.a 8) (.l 1)) (.l 9223372036854775807)))
  (.stop { todo := [(.code [false, false, true, false, true, true]), (.inLoop [false, false, true, false, true, true]), (.inBlock 0), (.code [true, true, true])], sl := [(.va 0), (.agg [(.int .i64 (.a 0)), (.int .i64 (.a 1)), (.int .i64 (.a 2)), (.int .i64 (.a 3)), (.int .i64 (.a 4)), (.int .i64 (.a 5))]), .undef, (.ptr 0 0), (.junk 0), (.int .i64 (.a 6)), .undef, (.ptr 1 0), (.va 0), (.int .i64 (.a 7)), (.int .i64 (.add (.a 8) (.l 1))), (.bool (.lt (.a 8) (.a 7))), (.ea 0 (.a 8) 8 0), (.agg [(.int .i64 (.a 9)), (.int .i64 (.a 10)), (.int .i64 (.a 11)), (.int .i64 (.a 12)), (.int .i64 (.a 13)), (.int .i64 (.a 14)), (.int .i64 (.a 15)), (.int .i64 (.a 16))]), (.ptr 1 7), (.int .i64 (.a 16)), (.int .i64 (.a 6)), (.bool (.lt (.a 6) (.a 16))), (.bool (.t true)), (.ptr 1 1), (.agg [(.int .i64 (.a 10)), (.int .i64 (.a 11)), (.int .i64 (.a 12)), (.int .i64 (.a 13)), (.int .i64 (.a 14)), (.int .i64 (.a 15))]), (.agg [(.int .i64 (.a 0)), (.int .i64 (.a 1)), (.int .i64 (.a 2)), (.int .i64 (.a 3)), (.int .i64 (.a 4)), (.int .i64 (.a 5))]), (.bool (.a 0)), (.bool (.a 0)), (.junk 15), (.junk 16), (.int .i64 (.add (.a 8) (.l 1))), .undef], H := [(.cells [(.int .i64 (.a 0)), (.int .i64 (.a 1)), (.int .i64 (.a 2)), (.int .i64 (.a 3)), (.int .i64 (.a 4)), (.int .i64 (.a 5))] 26 false), (.cells [(.int .i64 (.a 9)), (.int .i64 (.a 10)), (.int .i64 (.a 11)), (.int .i64 (.a 12)), (.int .i64 (.a 13)), (.int .i64 (.a 14)), (.int .i64 (.a 15)), (.int .i64 (.a 16))] 65 false)], ni := 17, nb := 1, nv := 1, nj := 18 }))))
  (.need (.and (.le (.l (-9223372036854775808)) (.add (.a 8) (.l 1))) (.le (.add (.a 8) (.l 1)) (.l 9223372036854775807)))
  (.stop { todo := [(.code [false, false, true, false, true, true]), (.inLoop [false, false, true, false, true, true]), (.inBlock 0), (.code [true, true, true])], sl := [(.va 0), (.agg [(.int .i64 (.a 0)), (.int .i64 (.a 1)), (.int .i64 (.a 2)), (.int .i64 (.a 3)), (.int .i64 (.a 4)), (.int .i64 (.a 5))]), .undef, (.ptr 0 0), (.junk 0), (.int .i64 (.a 6)), .undef, (.ptr 1 0), (.va 0), (.int .i64 (.a 7)), (.int .i64 (.add (.a 8) (.l 1))), (.bool (.lt (.a 8) (.a 7))), (.ea 0 (.a 8) 8 0), (.agg [(.int .i64 (.a 9)), (.int .i64 (.a 10)), (.int .i64 (.a 11)), (.int .i64 (.a 12)), (.int .i64 (.a 13)), (.int .i64 (.a 14)), (.int .i64 (.a 15)), (.int .i64 (.a 16))]), (.ptr 1 7), (.int .i64 (.a 16)), (.int .i64 (.a 6)), (.bool (.lt (.a 6) (.a 16))), (.bool (.t false)), .undef, .undef, .undef, .undef, (.bool (.t false)), (.junk 15), (.junk 16), (.int .i64 (.add (.a 8) (.l 1))), .undef], H := [(.cells [(.int .i64 (.a 0)), (.int .i64 (.a 1)), (.int .i64 (.a 2)), (.int .i64 (.a 3)), (.int .i64 (.a 4)), (.int .i64 (.a 5))] 26 false), (.cells [(.int .i64 (.a 9)), (.int .i64 (.a 10)), (.int .i64 (.a 11)), (.int .i64 (.a 12)), (.int .i64 (.a 13)), (.int .i64 (.a 14)), (.int .i64 (.a 15)), (.int .i64 (.a 16))] 65 false)], ni := 17, nb := 0, nv := 1, nj := 18 })))))
  (.ret (.int .i64 (.a 6)) []))
theorem fv_o0_eq : run (cx true [[false, false, true, false, true, true]] []) (fnOf Try.f73) 5000 fv_p0 = fv_o0 := by kernel_rfl
theorem fv_l0 {Q : Value → Hp → Prop} {w0 : World} {s0 : Hp} (I : List Int → List Bool → List Value → Hp → Prop) (m : List Int → List Bool → List Value → Nat)
    (round : ∀ is bs vs js s1, is.length = 9 → bs.length = 0 → vs.length = 1 → I is bs vs s1 →
      (∀ (A : Asg) g r s, s1.le s → Go.Sx.fits ⟨0, 0, 0, 0⟩ A fv_p0 g = true → I (A.is.map (IE.den r)) (A.bs.map (BE.den r)) (SV.dens r id A.vs) s → m (A.is.map (IE.den r)) (A.bs.map (BE.den r)) (SV.dens r id A.vs) < m is bs vs →
        Go.Sx.Reach Try.prog 73 (Ret Q s0 w0) (fnOf Try.f73).body w0 s0 g r s) → VC Try.prog Q (Go.Sx.Reach Try.prog 73 (Ret Q s0 w0) (fnOf Try.f73).body w0 s0) fv_o0 ⟨is, bs, vs, js⟩ s1) :
    ∀ (A : Asg) (g : Cfg) (r : Env) (s : Hp), Go.Sx.fits ⟨0, 0, 0, 0⟩ A fv_p0 g = true → I (A.is.map (IE.den r)) (A.bs.map (BE.den r)) (SV.dens r id A.vs) s → Go.Sx.Reach Try.prog 73 (Ret Q s0 w0) (fnOf Try.f73).body w0 s0 g r s :=
  loop0 (fn := fnOf Try.f73) (progOk true [[false, false, true, false, true, true]] []) Try.func73 rfl 5000 fv_p0 I m (fun _ _ _ _ h => by cases h) (fun is bs vs js s1 h1 h2 h3 _ h ih => by
    rw [fv_o0_eq]
    exact round is bs vs js s1 h1 h2 h3 h ih)
def fv_a0_0 : Asg :=
  ⟨[(.a 0), (.a 1), (.a 2), (.a 3), (.a 4), (.a 5), (.a 16), (.a 7), (.add (.a 8) (.l 1))], [], [(.va 0)], [(.junk 0), (.ptr 1 0), (.bool (.lt (.a 8) (.a 7))), (.ea 0 (.a 8) 8 0), (.agg [(.int .i64 (.a 9)), (.int .i64 (.a 10)), (.int .i64 (.a 11)), (.int .i64 (.a 12)), (.int .i64 (.a 13)), (.int .i64 (.a 14)), (.int .i64 (.a 15)), (.int .i64 (.a 16))]), (.ptr 1 7), (.int .i64 (.a 16)), (.int .i64 (.a 6)), (.bool (.lt (.a 6) (.a 16))), (.bool (.t true)), (.ptr 1 1), (.agg [(.int .i64 (.a 10)), (.int .i64 (.a 11)), (.int .i64 (.a 12)), (.int .i64 (.a 13)), (.int .i64 (.a 14)), (.int .i64 (.a 15))]), (.agg [(.int .i64 (.a 0)), (.int .i64 (.a 1)), (.int .i64 (.a 2)), (.int .i64 (.a 3)), (.int .i64 (.a 4)), (.int .i64 (.a 5))]), (.bool (.a 0)), (.bool (.a 0)), (.ptr 1 7), (.int .i64 (.a 16)), (.int .i64 (.add (.a 8) (.l 1)))]⟩
def fv_a0_1 : Asg :=
  ⟨[(.a 0), (.a 1), (.a 2), (.a 3), (.a 4), (.a 5), (.a 6), (.a 7), (.add (.a 8) (.l 1))], [], [(.va 0)], [(.junk 0), (.ptr 1 0), (.bool (.lt (.a 8) (.a 7))), (.ea 0 (.a 8) 8 0), (.agg [(.int .i64 (.a 9)), (.int .i64 (.a 10)), (.int .i64 (.a 11)), (.int .i64 (.a 12)), (.int .i64 (.a 13)), (.int .i64 (.a 14)), (.int .i64 (.a 15)), (.int .i64 (.a 16))]), (.ptr 1 7), (.int .i64 (.a 16)), (.int .i64 (.a 6)), (.bool (.lt (.a 6) (.a 16))), (.bool (.t true)), (.ptr 1 1), (.agg [(.int .i64 (.a 10)), (.int .i64 (.a 11)), (.int .i64 (.a 12)), (.int .i64 (.a 13)), (.int .i64 (.a 14)), (.int .i64 (.a 15))]), (.agg [(.int .i64 (.a 0)), (.int .i64 (.a 1)), (.int .i64 (.a 2)), (.int .i64 (.a 3)), (.int .i64 (.a 4)), (.int .i64 (.a 5))]), (.bool (.a 0)), (.bool (.a 0)), (.junk 15), (.junk 16), (.int .i64 (.add (.a 8) (.l 1)))]⟩
def fv_a0_2 : Asg :=
  ⟨[(.a 0), (.a 1), (.a 2), (.a 3), (.a 4), (.a 5), (.a 6), (.a 7), (.add (.a 8) (.l 1))], [], [(.va 0)], [(.junk 0), (.ptr 1 0), (.bool (.lt (.a 8) (.a 7))), (.ea 0 (.a 8) 8 0), (.agg [(.int .i64 (.a 9)), (.int .i64 (.a 10)), (.int .i64 (.a 11)), (.int .i64 (.a 12)), (.int .i64 (.a 13)), (.int .i64 (.a 14)), (.int .i64 (.a 15)), (.int .i64 (.a 16))]), (.ptr 1 7), (.int .i64 (.a 16)), (.int .i64 (.a 6)), (.bool (.lt (.a 6) (.a 16))), (.bool (.t false)), .undef, .undef, .undef, .undef, (.bool (.t false)), (.junk 15), (.junk 16), (.int .i64 (.add (.a 8) (.l 1)))]⟩

def FvI (L : List Of) (bb : Bd) (lv : Value) : List Int → List Bool → List Value → Hp → Prop := fun is bs vs s =>
  ∃ (i : Nat) (x : Int), is = bb.l ++ [x, (L.length : Int), (i : Int)] ∧ vs = [lv] ∧ i ≤ L.length ∧ OfIn s lv L ∧ x = val (L.take i) bb
theorem fv_r0 (L : List Of) (hL : L.length ≤ 1000) (bb : Bd) (lv : Value) {w0 : World} {s0 : Hp} : ∀ (A : Asg) (g : Cfg) (r : Env) (s : Hp), Go.Sx.fits ⟨0, 0, 0, 0⟩ A fv_p0 g = true → FvI L bb lv (A.is.map (IE.den r)) (A.bs.map (BE.den r)) (SV.dens r id A.vs) s →
    Go.Sx.Reach Try.prog 73 (Ret (fun v s => v = .int .i64 (val L bb)) s0 w0) (fnOf Try.f73).body w0 s0 g r s := by
  refine fv_l0 (FvI L bb lv) (fun is _ _ => L.length - (is.getD 8 0).toNat) (fun is bs vs js s1 l1 l2 l3 hI ih => ?_)
  obtain ⟨i, x, rfl, rfl, hi, h0, hx⟩ := hI
  obtain rfl : bs = [] := List.length_eq_zero_iff.1 l2
  unfold fv_o0
  conv => arg 5; simp only [Bd.l, List.cons_append, List.nil_append]
  refine vc_ite (fun h => ?_) (fun h => ?_) <;> simp only [BE.den, IE.den, SV.den, SV.dens, List.getD_cons_zero, List.getD_cons_succ, List.cons_append, List.nil_append, List.append_assoc, ltB_true, leB_true, eqB_true, ltB_false, leB_false, eqB_false, Bool.not_eq_true', Bool.not_eq_false', Bool.and_eq_true, Bool.or_eq_true, Bool.and_eq_false_iff, Bool.or_eq_false_iff] at h
  · have hlt : i < L.length := by omega
    have hm : L.length - ((i : Int) + 1).toNat < L.length - (i : Int).toNat := by omega
    refine vc_need (by simp only [BE.den, IE.den, SV.den, SV.dens, List.getD_cons_zero, List.getD_cons_succ, List.cons_append, List.nil_append, List.append_assoc, ltB_true, leB_true, eqB_true, ltB_false, leB_false, eqB_false, Bool.not_eq_true', Bool.not_eq_false', Bool.and_eq_true, Bool.or_eq_true, Bool.and_eq_false_iff, Bool.or_eq_false_iff, h0.len, List.length_map]; omega) (fun _ => ?_)
    obtain ⟨o, ho⟩ : ∃ o, L[i]? = some o := ⟨_, List.getElem?_eq_getElem hlt⟩
    have htake : val (L.take (i + 1)) bb = vstep bb x o := by
      rw [hx]; unfold val; rw [List.take_add_one, ho, List.foldl_append]; rfl
    obtain ⟨n, ⟨a, b, c, d, e, f⟩, v⟩ := o
    refine vc_load [n, a, b, c, d, e, f, v] [] [] (Of.cs ⟨n, ⟨a, b, c, d, e, f⟩, v⟩) (h0.at rfl rfl (by rw [List.getElem?_map, ho]; rfl)) rfl rfl rfl rfl rfl ?_
    conv => arg 5; simp only [List.cons_append, List.nil_append, List.append_nil]
    refine vc_ite (fun h => ?_) (fun h => ?_) <;> simp only [BE.den, IE.den, SV.den, SV.dens, List.getD_cons_zero, List.getD_cons_succ, List.cons_append, List.nil_append, List.append_assoc, ltB_true, leB_true, eqB_true, ltB_false, leB_false, eqB_false, Bool.not_eq_true', Bool.not_eq_false', Bool.and_eq_true, Bool.or_eq_true, Bool.and_eq_false_iff, Bool.or_eq_false_iff] at h
    · obtain ⟨k, hk⟩ : ∃ k, k = decide ((Bd.mk a b c d e f).Le bb) := ⟨_, rfl⟩
      have hct : ∀ s1, Ct Try.prog 24 [(Bd.mk a b c d e f).v, bb.v] s1 (fun v _ => v = .bool k) := fun s1 => by rw [hk]; exact within_ct _ _ s1
      refine vc_call _ _ [] [k] [] (fun s1 _ => hct s1) (fun _ => rfl) rfl rfl rfl rfl rfl (fun s2 hs2 => ?_)
      conv => arg 5; simp only [List.cons_append, List.nil_append, List.append_nil]
      refine vc_ite (fun h3 => ?_) (fun h3 => ?_) <;> simp only [BE.den, List.getD_cons_zero] at h3 <;> subst h3
      · refine vc_need (by simp only [BE.den, IE.den, SV.den, SV.dens, List.getD_cons_zero, List.getD_cons_succ, List.cons_append, List.nil_append, List.append_assoc, ltB_true, leB_true, eqB_true, ltB_false, leB_false, eqB_false, Bool.not_eq_true', Bool.not_eq_false', Bool.and_eq_true, Bool.or_eq_true, Bool.and_eq_false_iff, Bool.or_eq_false_iff]; omega) (fun _ => vc_stop (ih fv_a0_0 _ _ _ hs2 (by kernel_rfl) ⟨i + 1, v, rfl, rfl, by omega, h0.mono hs2, ?_⟩ hm))
        rw [htake]; unfold vstep; rw [if_pos ⟨h, of_decide_eq_true hk.symm⟩]
      · refine vc_need (by simp only [BE.den, IE.den, SV.den, SV.dens, List.getD_cons_zero, List.getD_cons_succ, List.cons_append, List.nil_append, List.append_assoc, ltB_true, leB_true, eqB_true, ltB_false, leB_false, eqB_false, Bool.not_eq_true', Bool.not_eq_false', Bool.and_eq_true, Bool.or_eq_true, Bool.and_eq_false_iff, Bool.or_eq_false_iff]; omega) (fun _ => vc_stop (ih fv_a0_1 _ _ _ hs2 (by kernel_rfl) ⟨i + 1, x, rfl, rfl, by omega, h0.mono hs2, ?_⟩ hm))
        rw [htake]; unfold vstep; rw [if_neg (fun hh => of_decide_eq_false hk.symm hh.2)]
    · refine vc_need (by simp only [BE.den, IE.den, SV.den, SV.dens, List.getD_cons_zero, List.getD_cons_succ, List.cons_append, List.nil_append, List.append_assoc, ltB_true, leB_true, eqB_true, ltB_false, leB_false, eqB_false, Bool.not_eq_true', Bool.not_eq_false', Bool.and_eq_true, Bool.or_eq_true, Bool.and_eq_false_iff, Bool.or_eq_false_iff]; omega) (fun _ => vc_stop (ih fv_a0_2 _ _ _ (Hp.le_refl _) (by kernel_rfl) ⟨i + 1, x, rfl, rfl, by omega, h0, ?_⟩ hm))
      rw [htake]; unfold vstep; rw [if_neg (fun hh => h hh.1)]
  · refine vc_ret (fun β s' hs _ => ?_)
    have : L.take i = L := List.take_of_length_le (by omega)
    rw [this] at hx
    rw [← hx]; rfl
theorem fval_ct (L : List Of) (hL : L.length ≤ 1000) (lv : Value) (bb : Bd) (s : Hp) (hl : OfIn s lv L) : Ct Try.prog 73 [lv, bb.v] s (fun v s' => v = .int .i64 (val L bb)) := by
  refine fv_o_ct bb.l [] [lv] rfl rfl rfl (by simp [hl.fine]) (fun w0 => ?_)
  unfold fv_o
  refine vc_need hl.kind (fun _ => vc_stop ?_)
  refine fv_r0 L hL bb lv fv_a_0 _ _ _ (by kernel_rfl) ⟨0, 0, ?_, rfl, Nat.zero_le _, hl, rfl⟩
  have hn := hl.len
  simp only [List.length_map] at hn
  show [_, _, _, _, _, _, _, sliceLen lv, _] = _
  rw [hn]; rfl

def rv_o : Out :=
  (.stop { todo := [(.code [false, false, true, false, true, true]), (.inLoop [false, false, true, false, true, true]), (.inBlock 0), (.code [true, true, true])], sl := [(.va 0), (.agg [(.int .i64 (.a 0)), (.int .i64 (.a 1)), (.int .i64 (.a 2)), (.int .i64 (.a 3)), (.int .i64 (.a 4)), (.int .i64 (.a 5))]), .undef, (.ptr 0 0), (.int .i64 (.l 0)), (.int .i64 (.l 0)), (.int .i64 (.l 0)), .undef, .undef, .undef, .undef, .undef, .undef, .undef, .undef, .undef, .undef, .undef, .undef, .undef, .undef, .undef, .undef, .undef, .undef, .undef, .undef, .undef, .undef, .undef, .undef, .undef, .undef, .undef, .undef, .undef, .undef, .undef, .undef, .undef, .undef, .undef, .undef, .undef, .undef, .undef, .undef], H := [(.cells [(.int .i64 (.a 0)), (.int .i64 (.a 1)), (.int .i64 (.a 2)), (.int .i64 (.a 3)), (.int .i64 (.a 4)), (.int .i64 (.a 5))] 26 false)], ni := 6, nb := 0, nv := 1, nj := 0 })
theorem rv_o_eq : run (cx true [[false, false, true, false, true, true]] []) (fnOf Try.f55) 5000 (startCfg Try.f55.ntmps [.va 0, b6 0] 6 0 1) = rv_o := by kernel_rfl
theorem rv_o_ct {Q : Value → Hp → Prop} {s : Hp} (i : List Int) (b : List Bool) (v : List Value) (hi : i.length = 6) (hb : b.length = 0) (hv : v.length = 1) (hok : v.all fineV = true)
    (h : ∀ w0, VC Try.prog Q (Go.Sx.Reach Try.prog 55 (Ret Q s w0) (fnOf Try.f55).body w0 s) rv_o ⟨i, b, v, []⟩ s) : Ct Try.prog 55 (SV.dens ⟨i, b, v, []⟩ id [.va 0, b6 0]) s Q := by
  refine ct_run (fn := fnOf Try.f55) (progOk true [[false, false, true, false, true, true]] []) Try.func55 rfl rfl 5000 (fun x hx => List.all_eq_true.1 hok x hx) rfl (fun w0 => ?_)
  rw [hi, hb, hv, rv_o_eq]
  exact h w0
def rv_a_0 : Asg :=
  ⟨[(.a 0), (.a 1), (.a 2), (.a 3), (.a 4), (.a 5), (.l 0), (.l 0)], [], [(.va 0)], [(.int .i64 (.l 0)), .undef, .undef, .undef, .undef, .undef, .undef, .undef, .undef, .undef, .undef, .undef, .undef, .undef, .undef, .undef, .undef, .undef, .undef, .undef, .undef, .undef, .undef, .undef, .undef, .undef, .undef, .undef, .undef, .undef, .undef, .undef, .undef, .undef, .undef, .undef, .undef, .undef, .undef, .undef]⟩
def rv_p0 : Cfg :=
  { todo := [(.code [false, false, true, false, true, true]), (.inLoop [false, false, true, false, true, true]), (.inBlock 0), (.code [true, true, true])], sl := [(.va 0), (.agg [(.int .i64 (.a 0)), (.int .i64 (.a 1)), (.int .i64 (.a 2)), (.int .i64 (.a 3)), (.int .i64 (.a 4)), (.int .i64 (.a 5))]), .undef, (.ptr 0 0), (.junk 0), (.int .i64 (.a 6)), (.int .i64 (.a 7)), (.junk 1), (.junk 2), (.junk 3), (.junk 4), (.junk 5), (.junk 6), (.junk 7), (.junk 8), (.junk 9), (.junk 10), (.junk 11), (.junk 12), (.junk 13), (.junk 14), (.junk 15), (.junk 16), (.junk 17), (.junk 18), (.junk 19), (.junk 20), (.junk 21), (.junk 22), (.junk 23), (.junk 24), (.junk 25), (.junk 26), (.junk 27), (.junk 28), (.junk 29), (.junk 30), (.junk 31), (.junk 32), (.junk 33), (.junk 34), (.junk 35), (.junk 36), (.junk 37), (.junk 38), (.junk 39), .undef], H := [(.cells [(.int .i64 (.a 0)), (.int .i64 (.a 1)), (.int .i64 (.a 2)), (.int .i64 (.a 3)), (.int .i64 (.a 4)), (.int .i64 (.a 5))] 26 false)], ni := 8, nb := 0, nv := 1, nj := 40 }
def rv_o0 : Out :=
  (.need (.is 0 0)
  (.ite (.lt (.a 7) (.slen 0))
  (.need (.and (.le (.l 0) (.a 7)) (.lt (.a 7) (.slen 0)))
  (.load (.ea 0 (.a 7) 8 0) [(.int .i64 (.a 8)), (.int .i64 (.a 9)), (.int .i64 (.a 10)), (.int .i64 (.a 11)), (.int .i64 (.a 12)), (.int .i64 (.a 13)), (.int .i64 (.a 14)), (.int .i64 (.a 15))] 8 0 0
  (.call 54 [(.agg [(.int .i64 (.a 9)), (.int .i64 (.a 10)), (.int .i64 (.a 11)), (.int .i64 (.a 12)), (.int .i64 (.a 13)), (.int .i64 (.a 14))])] [] (.int .i64 (.a 16)) 1 0 0
  (.ite (.eq (.a 16) (.l 0))
  (.ite (.le (.l 1) (.a 15))
  (.ite (.le (.a 15) (.l 1000000))
  (.call 75 [(.agg [(.int .i64 (.a 9)), (.int .i64 (.a 10)), (.int .i64 (.a 11)), (.int .i64 (.a 12)), (.int .i64 (.a 13)), (.int .i64 (.a 14))]), (.agg [(.int .i64 (.a 0)), (.int .i64 (.a 1)), (.int .i64 (.a 2)), (.int .i64 (.a 3)), (.int .i64 (.a 4)), (.int .i64 (.a 5))])] [] (.bool (.a 0)) 0 1 0
  (.ite (.a 0)
  (.ite (.lt (.a 6) (.a 15))
  (.need (.and (.le (.l (-9223372036854775808)) (.add (.a 7) (.l 1))) (.le (.add (.a 7) (.l 1)) (.l 9223372036854775807)))
  (.stop { todo := [(.code [false, false, true, false, true, true]), (.inLoop [false, false, true, false, true, true]), (.inBlock 0), (.code [true, true, true])], sl := [(.va 0), (.agg [(.int .i64 (.a 0)), (.int .i64 (.a 1)), (.int .i64 (.a 2)), (.int .i64 (.a 3)), (.int .i64 (.a 4)), (.int .i64 (.a 5))]), .undef, (.ptr 0 0), (.junk 0), (.int .i64 (.a 15)), (.int .i64 (.add (.a 7) (.l 1))), (.ptr 1 0), (.int .i64 (.a 7)), (.va 0), (.int .i64 (.slen 0)), (.bool (.lt (.a 7) (.slen 0))), (.int .i64 (.a 7)), (.int .i64 (.add (.a 7) (.l 1))), (.va 0), (.int .i64 (.a 7)), (.ea 0 (.a 7) 8 0), (.agg [(.int .i64 (.a 8)), (.int .i64 (.a 9)), (.int .i64 (.a 10)), (.int .i64 (.a 11)), (.int .i64 (.a 12)), (.int .i64 (.a 13)), (.int .i64 (.a 14)), (.int .i64 (.a 15))]), (.ptr 1 1), (.agg [(.int .i64 (.a 9)), (.int .i64 (.a 10)), (.int .i64 (.a 11)), (.int .i64 (.a 12)), (.int .i64 (.a 13)), (.int .i64 (.a 14))]), (.int .i64 (.a 16)), (.bool (.eq (.a 16) (.l 0))), (.bool (.t true)), (.ptr 1 7), (.int .i64 (.a 15)), (.bool (.le (.l 1) (.a 15))), (.bool (.le (.l 1) (.a 15))), (.bool (.t true)), (.ptr 1 7), (.int .i64 (.a 15)), (.bool (.le (.a 15) (.l 1000000))), (.bool (.le (.a 15) (.l 1000000))), (.bool (.t true)), (.ptr 1 1), (.agg [(.int .i64 (.a 9)), (.int .i64 (.a 10)), (.int .i64 (.a 11)), (.int .i64 (.a 12)), (.int .i64 (.a 13)), (.int .i64 (.a 14))]), (.agg [(.int .i64 (.a 0)), (.int .i64 (.a 1)), (.int .i64 (.a 2)), (.int .i64 (.a 3)), (.int .i64 (.a 4)), (.int .i64 (.a 5))]), (.bool (.a 0)), (.bool (.a 0)), (.bool (.t true)), (.ptr 1 7), (.int .i64 (.a 15)), (.int .i64 (.a 6)), (.bool (.lt (.a 6) (.a 15))), (.bool (.lt (.a 6) (.a 15))), (.ptr 1 7), (.int .i64 (.a 15)), .undef], H := [(.cells [(.int .i64 (.a 0)), (.int .i64 (.a 1)), (.int .i64 (.a 2)), (.int .i64 (.a 3)), (.int .i64 (.a 4)), (.int .i64 (.a 5))] 26 false), (.cells [(.int .i64 (.a 8)), (.int .i64 (.a 9)), (.int .i64 (.a 10)), (.int .i64 (.a 11)), (.int .i64 (.a 12)), (.int .i64 (.a 13)), (.int .i64 (.a 14)), (.int .i64 (.a 15))] 65 false)], ni := 17, nb := 1, nv := 1, nj := 40 }))
  (.need (.and (.le (.l (-9223372036854775808)) (.add (.a 7) (.l 1))) (.le (.add (.a 7) (.l 1)) (.l 9223372036854775807)))
  (.stop { todo := [(.code [false, false, true, false, true, true]), (.inLoop [false, false, true, false, true, true]), (.inBlock 0), (.code [true, true, true])], sl := [(.va 0), (.agg [(.int .i64 (.a 0)), (.int .i64 (.a 1)), (.int .i64 (.a 2)), (.int .i64 (.a 3)), (.int .i64 (.a 4)), (.int .i64 (.a 5))]), .undef, (.ptr 0 0), (.junk 0), (.int .i64 (.a 6)), (.int .i64 (.add (.a 7) (.l 1))), (.ptr 1 0), (.int .i64 (.a 7)), (.va 0), (.int .i64 (.slen 0)), (.bool (.lt (.a 7) (.slen 0))), (.int .i64 (.a 7)), (.int .i64 (.add (.a 7) (.l 1))), (.va 0), (.int .i64 (.a 7)), (.ea 0 (.a 7) 8 0), (.agg [(.int .i64 (.a 8)), (.int .i64 (.a 9)), (.int .i64 (.a 10)), (.int .i64 (.a 11)), (.int .i64 (.a 12)), (.int .i64 (.a 13)), (.int .i64 (.a 14)), (.int .i64 (.a 15))]), (.ptr 1 1), (.agg [(.int .i64 (.a 9)), (.int .i64 (.a 10)), (.int .i64 (.a 11)), (.int .i64 (.a 12)), (.int .i64 (.a 13)), (.int .i64 (.a 14))]), (.int .i64 (.a 16)), (.bool (.eq (.a 16) (.l 0))), (.bool (.t true)), (.ptr 1 7), (.int .i64 (.a 15)), (.bool (.le (.l 1) (.a 15))), (.bool (.le (.l 1) (.a 15))), (.bool (.t true)), (.ptr 1 7), (.int .i64 (.a 15)), (.bool (.le (.a 15) (.l 1000000))), (.bool (.le (.a 15) (.l 1000000))), (.bool (.t true)), (.ptr 1 1), (.agg [(.int .i64 (.a 9)), (.int .i64 (.a 10)), (.int .i64 (.a 11)), (.int .i64 (.a 12)), (.int .i64 (.a 13)), (.int .i64 (.a 14))]), (.agg [(.int .i64 (.a 0)), (.int .i64 (.a 1)), (.int .i64 (.a 2)), (.int .i64 (.a 3)), (.int .i64 (.a 4)), (.int .i64 (.a 5))]), (.bool (.a 0)), (.bool (.a 0)), (.bool (.t true)), (.ptr 1 7), (.int .i64 (.a 15)), (.int .i64 (.a 6)), (.bool (.lt (.a 6) (.a 15))), (.bool (.lt (.a 6) (.a 15))), (.junk 38), (.junk 39), .undef], H := [(.cells [(.int .i64 (.a 0)), (.int .i64 (.a 1)), (.int .i64 (.a 2)), (.int .i64 (.a 3)), (.int .i64 (.a 4)), (.int .i64 (.a 5))] 26 false), (.cells [(.int .i64 (.a 8)), (.int .i64 (.a 9)), (.int .i64 (.a 10)), (.int .i64 (.a 11)), (.int .i64 (.a 12)), (.int .i64 (.a 13)), (.int .i64 (.a 14)), (.int .i64 (.a 15))] 65 false)], ni := 17, nb := 1, nv := 1, nj := 40 })))
  (.need (.and (.le (.l (-9223372036854775808)) (.add (.a 7) (.l 1))) (.le (.add (.a 7) (.l 1)) (.l 9223372036854775807)))
  (.stop { todo := [(.code [false, false, true, false, true, true]), (.inLoop [false, false, true, false, true, true]), (.inBlock 0), (.code [true, true, true])], sl := [(.va 0), (.agg [(.int .i64 (.a 0)), (.int .i64 (.a 1)), (.int .i64 (.a 2)), (.int .i64 (.a 3)), (.int .i64 (.a 4)), (.int .i64 (.a 5))]), .undef, (.ptr 0 0), (.junk 0), (.int .i64 (.a 6)), (.int .i64 (.add (.a 7) (.l 1))), (.ptr 1 0), (.int .i64 (.a 7)), (.va 0), (.int .i64 (.slen 0)), (.bool (.lt (.a 7) (.slen 0))), (.int .i64 (.a 7)), (.int .i64 (.add (.a 7) (.l 1))), (.va 0), (.int .i64 (.a 7)), (.ea 0 (.a 7) 8 0), (.agg [(.int .i64 (.a 8)), (.int .i64 (.a 9)), (.int .i64 (.a 10)), (.int .i64 (.a 11)), (.int .i64 (.a 12)), (.int .i64 (.a 13)), (.int .i64 (.a 14)), (.int .i64 (.a 15))]), (.ptr 1 1), (.agg [(.int .i64 (.a 9)), (.int .i64 (.a 10)), (.int .i64 (.a 11)), (.int .i64 (.a 12)), (.int .i64 (.a 13)), (.int .i64 (.a 14))]), (.int .i64 (.a 16)), (.bool (.eq (.a 16) (.l 0))), (.bool (.t true)), (.ptr 1 7), (.int .i64 (.a 15)), (.bool (.le (.l 1) (.a 15))), (.bool (.le (.l 1) (.a 15))), (.bool (.t true)), (.ptr 1 7), (.int .i64 (.a 15)), (.bool (.le (.a 15) (.l 1000000))), (.bool (.le (.a 15) (.l 1000000))), (.bool (.t true)), (.ptr 1 1), (.agg [(.int .i64 (.a 9)), (.int .i64 (.a 10)), (.int .i64 (.a 11)), (.int .i64 (.a 12)), (.int .i64 (.a 13)), (.int .i64 (.a 14))]), (.agg [(.int .i64 (.a 0)), (.int .i64 (.a 1)), (.int .i64 (.a 2)), (.int .i64 (.a 3)), (.int .i64 (.a 4)), (.int .i64 (.a 5))]), (.bool (.a 0)), (.bool (.a 0)), (.bool (.t false)), .undef, .undef, .undef, .undef, (.bool (.t false)), (.junk 38), (.junk 39), .undef], H := [(.cells [(.int .i64 (.a 0)), (.int .i64 (.a 1)), (.int .i64 (.a 2)), (.int .i64 (.a 3)), (.int .i64 (.a 4)), (.int .i64 (.a 5))] 26 false), (.cells [(.int .i64 (.a 8)), (.int .i64 (.a 9)), (.int .i64 (.a 10)), (.int .i64 (.a 11)), (.int .i64 (.a 12)), (.int .i64 (.a 13)), (.int .i64 (.a 14)), (.int .i64 (.a 15))] 65 false)], ni := 17, nb := 1, nv := 1, nj := 40 }))))
  (.need (.and (.le (.l (-9223372036854775808)) (.add (.a 7) (.l 1))) (.le (.add (.a 7) (.l 1)) (.l 9223372036854775807)))
  (.stop { todo := [(.code [false, false, true, false, true, true]), (.inLoop [false, false, true, false, true, true]), (.inBlock 0), (.code [true, true, true])], sl := [(.va 0), (.agg [(.int .i64 (.a 0)), (.int .i64 (.a 1)), (.int .i64 (.a 2)), (.int .i64 (.a 3)), (.int .i64 (.a 4)), (.int .i64 (.a 5))]), .undef, (.ptr 0 0), (.junk 0), (.int .i64 (.a 6)), (.int .i64 (.add (.a 7) (.l 1))), (.ptr 1 0), (.int .i64 (.a 7)), (.va 0), (.int .i64 (.slen 0)), (.bool (.lt (.a 7) (.slen 0))), (.int .i64 (.a 7)), (.int .i64 (.add (.a 7) (.l 1))), (.va 0), (.int .i64 (.a 7)), (.ea 0 (.a 7) 8 0), (.agg [(.int .i64 (.a 8)), (.int .i64 (.a 9)), (.int .i64 (.a 10)), (.int .i64 (.a 11)), (.int .i64 (.a 12)), (.int .i64 (.a 13)), (.int .i64 (.a 14)), (.int .i64 (.a 15))]), (.ptr 1 1), (.agg [(.int .i64 (.a 9)), (.int .i64 (.a 10)), (.int .i64 (.a 11)), (.int .i64 (.a 12)), (.int .i64 (.a 13)), (.int .i64 (.a 14))]), (.int .i64 (.a 16)), (.bool (.eq (.a 16) (.l 0))), (.bool (.t true)), (.ptr 1 7), (.int .i64 (.a 15)), (.bool (.le (.l 1) (.a 15))), (.bool (.le (.l 1) (.a 15))), (.bool (.t true)), (.ptr 1 7), (.int .i64 (.a 15)), (.bool (.le (.a 15) (.l 1000000))), (.bool (.le (.a 15) (.l 1000000))), (.bool (.t false)), .undef, .undef, .undef, .undef, (.bool (.t false)), (.bool (.t false)), .undef, .undef, .undef, .undef, (.bool (.t false)), (.junk 38), (.junk 39), .undef], H := [(.cells [(.int .i64 (.a 0)), (.int .i64 (.a 1)), (.int .i64 (.a 2)), (.int .i64 (.a 3)), (.int .i64 (.a 4)), (.int .i64 (.a 5))] 26 false), (.cells [(.int .i64 (.a 8)), (.int .i64 (.a 9)), (.int .i64 (.a 10)), (.int .i64 (.a 11)), (.int .i64 (.a 12)), (.int .i64 (.a 13)), (.int .i64 (.a 14)), (.int .i64 (.a 15))] 65 false)], ni := 17, nb := 0, nv := 1, nj := 40 })))
  (.need (.and (.le (.l (-9223372036854775808)) (.add (.a 7) (.l 1))) (.le (.add (.a 7) (.l 1)) (.l 9223372036854775807)))
  (.stop { todo := [(.code [false, false, true, false, true, true]), (.inLoop [false, false, true, false, true, true]), (.inBlock 0), (.code [true, true, true])], sl := [(.va 0), (.agg [(.int .i64 (.a 0)), (.int .i64 (.a 1)), (.int .i64 (.a 2)), (.int .i64 (.a 3)), (.int .i64 (.a 4)), (.int .i64 (.a 5))]), .undef, (.ptr 0 0), (.junk 0), (.int .i64 (.a 6)), (.int .i64 (.add (.a 7) (.l 1))), (.ptr 1 0), (.int .i64 (.a 7)), (.va 0), (.int .i64 (.slen 0)), (.bool (.lt (.a 7) (.slen 0))), (.int .i64 (.a 7)), (.int .i64 (.add (.a 7) (.l 1))), (.va 0), (.int .i64 (.a 7)), (.ea 0 (.a 7) 8 0), (.agg [(.int .i64 (.a 8)), (.int .i64 (.a 9)), (.int .i64 (.a 10)), (.int .i64 (.a 11)), (.int .i64 (.a 12)), (.int .i64 (.a 13)), (.int .i64 (.a 14)), (.int .i64 (.a 15))]), (.ptr 1 1), (.agg [(.int .i64 (.a 9)), (.int .i64 (.a 10)), (.int .i64 (.a 11)), (.int .i64 (.a 12)), (.int .i64 (.a 13)), (.int .i64 (.a 14))]), (.int .i64 (.a 16)), (.bool (.eq (.a 16) (.l 0))), (.bool (.t true)), (.ptr 1 7), (.int .i64 (.a 15)), (.bool (.le (.l 1) (.a 15))), (.bool (.le (.l 1) (.a 15))), (.bool (.t false)), .undef, .undef, .undef, (.bool (.t false)), (.bool (.t false)), .undef, .undef, .undef, .undef, (.bool (.t false)), (.bool (.t false)), .undef, .undef, .undef, .undef, (.bool (.t false)), (.junk 38), (.junk 39), .undef], H := [(.cells [(.int .i64 (.a 0)), (.int .i64 (.a 1)), (.int .i64 (.a 2)), (.int .i64 (.a 3)), (.int .i64 (.a 4)), (.int .i64 (.a 5))] 26 false), (.cells [(.int .i64 (.a 8)), (.int .i64 (.a 9)), (.int .i64 (.a 10)), (.int .i64 (.a 11)), (.int .i64 (.a 12)), (.int .i64 (.a 13)), (.int .i64 (.a 14)), (.int .i64 (.a 15))] 65 false)], ni := 17, nb := 0, nv := 1, nj := 40 })))
  (.need (.and (.le (.l (-9223372036854775808)) (.add (.a 7) (.l 1))) (.le (.add (.a 7) (.l 1)) (.l 9223372036854775807)))
  (.stop { todo := [(.code [false, false, true, false, true, true]), (.inLoop [false, false, true, false, true, true]), (.inBlock 0), (.code [true, true, true])], sl := [(.va 0), (.agg [(.int .i64 (.a 0)), (.int .i64 (.a 1)), (.int .i64 (.a 2)), (.int .i64 (.a 3)), (.int .i64 (.a 4)), (.int .i64 (.a 5))]), .undef, (.ptr 0 0), (.junk 0), (.int .i64 (.a 6)), (.int .i64 (.add (.a 7) (.l 1))), (.ptr 1 0), (.int .i64 (.a 7)), (.va 0), (.int .i64 (.slen 0)), (.bool (.lt (.a 7) (.slen 0))), (.int .i64 (.a 7)), (.int .i64 (.add (.a 7) (.l 1))), (.va 0), (.int .i64 (.a 7)), (.ea 0 (.a 7) 8 0), (.agg [(.int .i64 (.a 8)), (.int .i64 (.a 9)), (.int .i64 (.a 10)), (.int .i64 (.a 11)), (.int .i64 (.a 12)), (.int .i64 (.a 13)), (.int .i64 (.a 14)), (.int .i64 (.a 15))]), (.ptr 1 1), (.agg [(.int .i64 (.a 9)), (.int .i64 (.a 10)), (.int .i64 (.a 11)), (.int .i64 (.a 12)), (.int .i64 (.a 13)), (.int .i64 (.a 14))]), (.int .i64 (.a 16)), (.bool (.eq (.a 16) (.l 0))), (.bool (.t false)), .undef, .undef, .undef, (.bool (.t false)), (.bool (.t false)), .undef, .undef, .undef, (.bool (.t false)), (.bool (.t false)), .undef, .undef, .undef, .undef, (.bool (.t false)), (.bool (.t false)), .undef, .undef, .undef, .undef, (.bool (.t false)), (.junk 38), (.junk 39), .undef], H := [(.cells [(.int .i64 (.a 0)), (.int .i64 (.a 1)), (.int .i64 (.a 2)), (.int .i64 (.a 3)), (.int .i64 (.a 4)), (.int .i64 (.a 5))] 26 false), (.cells [(.int .i64 (.a 8)), (.int .i64 (.a 9)), (.int .i64 (.a 10)), (.int .i64 (.a 11)), (.int .i64 (.a 12)), (.int .i64 (.a 13)), (.int .i64 (.a 14)), (.int .i64 (.a 15))] 65 false)], ni := 17, nb := 0, nv := 1, nj := 40 }))))))
  (.ret (.int .i64 (.a 6)) [])))
theorem rv_o0_eq : run (cx true [[false, false, true, false, true, true]] []) (fnOf Try.f55) 5000 rv_p0 = rv_o0 := by kernel_rfl
theorem rv_l0 {Q : Value → Hp → Prop} {w0 : World} {s0 : Hp} (I : List Int → List Bool → List Value → Hp → Prop) (m : List Int → List Bool → List Value → Nat)
    (round : ∀ is bs vs js s1, is.length = 8 → bs.length = 0 → vs.length = 1 → I is bs vs s1 →
      (∀ (A : Asg) g r s, s1.le s → Go.Sx.fits ⟨0, 0, 0, 0⟩ A rv_p0 g = true → I (A.is.map (IE.den r)) (A.bs.map (BE.den r)) (SV.dens r id A.vs) s → m (A.is.map (IE.den r)) (A.bs.map (BE.den r)) (SV.dens r id A.vs) < m is bs vs →
        Go.Sx.Reach Try.prog 55 (Ret Q s0 w0) (fnOf Try.f55).body w0 s0 g r s) → VC Try.prog Q (Go.Sx.Reach Try.prog 55 (Ret Q s0 w0) (fnOf Try.f55).body w0 s0) rv_o0 ⟨is, bs, vs, js⟩ s1) :
    ∀ (A : Asg) (g : Cfg) (r : Env) (s : Hp), Go.Sx.fits ⟨0, 0, 0, 0⟩ A rv_p0 g = true → I (A.is.map (IE.den r)) (A.bs.map (BE.den r)) (SV.dens r id A.vs) s → Go.Sx.Reach Try.prog 55 (Ret Q s0 w0) (fnOf Try.f55).body w0 s0 g r s :=
  loop0 (fn := fnOf Try.f55) (progOk true [[false, false, true, false, true, true]] []) Try.func55 rfl 5000 rv_p0 I m (fun _ _ _ _ h => by cases h) (fun is bs vs js s1 h1 h2 h3 _ h ih => by
    rw [rv_o0_eq]
    exact round is bs vs js s1 h1 h2 h3 h ih)
def rv_a0_0 : Asg :=
  ⟨[(.a 0), (.a 1), (.a 2), (.a 3), (.a 4), (.a 5), (.a 15), (.add (.a 7) (.l 1))], [], [(.va 0)], [(.junk 0), (.ptr 1 0), (.int .i64 (.a 7)), (.va 0), (.int .i64 (.slen 0)), (.bool (.lt (.a 7) (.slen 0))), (.int .i64 (.a 7)), (.int .i64 (.add (.a 7) (.l 1))), (.va 0), (.int .i64 (.a 7)), (.ea 0 (.a 7) 8 0), (.agg [(.int .i64 (.a 8)), (.int .i64 (.a 9)), (.int .i64 (.a 10)), (.int .i64 (.a 11)), (.int .i64 (.a 12)), (.int .i64 (.a 13)), (.int .i64 (.a 14)), (.int .i64 (.a 15))]), (.ptr 1 1), (.agg [(.int .i64 (.a 9)), (.int .i64 (.a 10)), (.int .i64 (.a 11)), (.int .i64 (.a 12)), (.int .i64 (.a 13)), (.int .i64 (.a 14))]), (.int .i64 (.a 16)), (.bool (.eq (.a 16) (.l 0))), (.bool (.t true)), (.ptr 1 7), (.int .i64 (.a 15)), (.bool (.le (.l 1) (.a 15))), (.bool (.le (.l 1) (.a 15))), (.bool (.t true)), (.ptr 1 7), (.int .i64 (.a 15)), (.bool (.le (.a 15) (.l 1000000))), (.bool (.le (.a 15) (.l 1000000))), (.bool (.t true)), (.ptr 1 1), (.agg [(.int .i64 (.a 9)), (.int .i64 (.a 10)), (.int .i64 (.a 11)), (.int .i64 (.a 12)), (.int .i64 (.a 13)), (.int .i64 (.a 14))]), (.agg [(.int .i64 (.a 0)), (.int .i64 (.a 1)), (.int .i64 (.a 2)), (.int .i64 (.a 3)), (.int .i64 (.a 4)), (.int .i64 (.a 5))]), (.bool (.a 0)), (.bool (.a 0)), (.bool (.t true)), (.ptr 1 7), (.int .i64 (.a 15)), (.int .i64 (.a 6)), (.bool (.lt (.a 6) (.a 15))), (.bool (.lt (.a 6) (.a 15))), (.ptr 1 7), (.int .i64 (.a 15))]⟩
def rv_a0_1 : Asg :=
  ⟨[(.a 0), (.a 1), (.a 2), (.a 3), (.a 4), (.a 5), (.a 6), (.add (.a 7) (.l 1))], [], [(.va 0)], [(.junk 0), (.ptr 1 0), (.int .i64 (.a 7)), (.va 0), (.int .i64 (.slen 0)), (.bool (.lt (.a 7) (.slen 0))), (.int .i64 (.a 7)), (.int .i64 (.add (.a 7) (.l 1))), (.va 0), (.int .i64 (.a 7)), (.ea 0 (.a 7) 8 0), (.agg [(.int .i64 (.a 8)), (.int .i64 (.a 9)), (.int .i64 (.a 10)), (.int .i64 (.a 11)), (.int .i64 (.a 12)), (.int .i64 (.a 13)), (.int .i64 (.a 14)), (.int .i64 (.a 15))]), (.ptr 1 1), (.agg [(.int .i64 (.a 9)), (.int .i64 (.a 10)), (.int .i64 (.a 11)), (.int .i64 (.a 12)), (.int .i64 (.a 13)), (.int .i64 (.a 14))]), (.int .i64 (.a 16)), (.bool (.eq (.a 16) (.l 0))), (.bool (.t true)), (.ptr 1 7), (.int .i64 (.a 15)), (.bool (.le (.l 1) (.a 15))), (.bool (.le (.l 1) (.a 15))), (.bool (.t true)), (.ptr 1 7), (.int .i64 (.a 15)), (.bool (.le (.a 15) (.l 1000000))), (.bool (.le (.a 15) (.l 1000000))), (.bool (.t true)), (.ptr 1 1), (.agg [(.int .i64 (.a 9)), (.int .i64 (.a 10)), (.int .i64 (.a 11)), (.int .i64 (.a 12)), (.int .i64 (.a 13)), (.int .i64 (.a 14))]), (.agg [(.int .i64 (.a 0)), (.int .i64 (.a 1)), (.int .i64 (.a 2)), (.int .i64 (.a 3)), (.int .i64 (.a 4)), (.int .i64 (.a 5))]), (.bool (.a 0)), (.bool (.a 0)), (.bool (.t true)), (.ptr 1 7), (.int .i64 (.a 15)), (.int .i64 (.a 6)), (.bool (.lt (.a 6) (.a 15))), (.bool (.lt (.a 6) (.a 15))), (.junk 38), (.junk 39)]⟩
def rv_a0_2 : Asg :=
  ⟨[(.a 0), (.a 1), (.a 2), (.a 3), (.a 4), (.a 5), (.a 6), (.add (.a 7) (.l 1))], [], [(.va 0)], [(.junk 0), (.ptr 1 0), (.int .i64 (.a 7)), (.va 0), (.int .i64 (.slen 0)), (.bool (.lt (.a 7) (.slen 0))), (.int .i64 (.a 7)), (.int .i64 (.add (.a 7) (.l 1))), (.va 0), (.int .i64 (.a 7)), (.ea 0 (.a 7) 8 0), (.agg [(.int .i64 (.a 8)), (.int .i64 (.a 9)), (.int .i64 (.a 10)), (.int .i64 (.a 11)), (.int .i64 (.a 12)), (.int .i64 (.a 13)), (.int .i64 (.a 14)), (.int .i64 (.a 15))]), (.ptr 1 1), (.agg [(.int .i64 (.a 9)), (.int .i64 (.a 10)), (.int .i64 (.a 11)), (.int .i64 (.a 12)), (.int .i64 (.a 13)), (.int .i64 (.a 14))]), (.int .i64 (.a 16)), (.bool (.eq (.a 16) (.l 0))), (.bool (.t true)), (.ptr 1 7), (.int .i64 (.a 15)), (.bool (.le (.l 1) (.a 15))), (.bool (.le (.l 1) (.a 15))), (.bool (.t true)), (.ptr 1 7), (.int .i64 (.a 15)), (.bool (.le (.a 15) (.l 1000000))), (.bool (.le (.a 15) (.l 1000000))), (.bool (.t true)), (.ptr 1 1), (.agg [(.int .i64 (.a 9)), (.int .i64 (.a 10)), (.int .i64 (.a 11)), (.int .i64 (.a 12)), (.int .i64 (.a 13)), (.int .i64 (.a 14))]), (.agg [(.int .i64 (.a 0)), (.int .i64 (.a 1)), (.int .i64 (.a 2)), (.int .i64 (.a 3)), (.int .i64 (.a 4)), (.int .i64 (.a 5))]), (.bool (.a 0)), (.bool (.a 0)), (.bool (.t false)), .undef, .undef, .undef, .undef, (.bool (.t false)), (.junk 38), (.junk 39)]⟩
def rv_a0_3 : Asg :=
  ⟨[(.a 0), (.a 1), (.a 2), (.a 3), (.a 4), (.a 5), (.a 6), (.add (.a 7) (.l 1))], [], [(.va 0)], [(.junk 0), (.ptr 1 0), (.int .i64 (.a 7)), (.va 0), (.int .i64 (.slen 0)), (.bool (.lt (.a 7) (.slen 0))), (.int .i64 (.a 7)), (.int .i64 (.add (.a 7) (.l 1))), (.va 0), (.int .i64 (.a 7)), (.ea 0 (.a 7) 8 0), (.agg [(.int .i64 (.a 8)), (.int .i64 (.a 9)), (.int .i64 (.a 10)), (.int .i64 (.a 11)), (.int .i64 (.a 12)), (.int .i64 (.a 13)), (.int .i64 (.a 14)), (.int .i64 (.a 15))]), (.ptr 1 1), (.agg [(.int .i64 (.a 9)), (.int .i64 (.a 10)), (.int .i64 (.a 11)), (.int .i64 (.a 12)), (.int .i64 (.a 13)), (.int .i64 (.a 14))]), (.int .i64 (.a 16)), (.bool (.eq (.a 16) (.l 0))), (.bool (.t true)), (.ptr 1 7), (.int .i64 (.a 15)), (.bool (.le (.l 1) (.a 15))), (.bool (.le (.l 1) (.a 15))), (.bool (.t true)), (.ptr 1 7), (.int .i64 (.a 15)), (.bool (.le (.a 15) (.l 1000000))), (.bool (.le (.a 15) (.l 1000000))), (.bool (.t false)), .undef, .undef, .undef, .undef, (.bool (.t false)), (.bool (.t false)), .undef, .undef, .undef, .undef, (.bool (.t false)), (.junk 38), (.junk 39)]⟩
def rv_a0_4 : Asg :=
  ⟨[(.a 0), (.a 1), (.a 2), (.a 3), (.a 4), (.a 5), (.a 6), (.add (.a 7) (.l 1))], [], [(.va 0)], [(.junk 0), (.ptr 1 0), (.int .i64 (.a 7)), (.va 0), (.int .i64 (.slen 0)), (.bool (.lt (.a 7) (.slen 0))), (.int .i64 (.a 7)), (.int .i64 (.add (.a 7) (.l 1))), (.va 0), (.int .i64 (.a 7)), (.ea 0 (.a 7) 8 0), (.agg [(.int .i64 (.a 8)), (.int .i64 (.a 9)), (.int .i64 (.a 10)), (.int .i64 (.a 11)), (.int .i64 (.a 12)), (.int .i64 (.a 13)), (.int .i64 (.a 14)), (.int .i64 (.a 15))]), (.ptr 1 1), (.agg [(.int .i64 (.a 9)), (.int .i64 (.a 10)), (.int .i64 (.a 11)), (.int .i64 (.a 12)), (.int .i64 (.a 13)), (.int .i64 (.a 14))]), (.int .i64 (.a 16)), (.bool (.eq (.a 16) (.l 0))), (.bool (.t true)), (.ptr 1 7), (.int .i64 (.a 15)), (.bool (.le (.l 1) (.a 15))), (.bool (.le (.l 1) (.a 15))), (.bool (.t false)), .undef, .undef, .undef, (.bool (.t false)), (.bool (.t false)), .undef, .undef, .undef, .undef, (.bool (.t false)), (.bool (.t false)), .undef, .undef, .undef, .undef, (.bool (.t false)), (.junk 38), (.junk 39)]⟩
def rv_a0_5 : Asg :=
  ⟨[(.a 0), (.a 1), (.a 2), (.a 3), (.a 4), (.a 5), (.a 6), (.add (.a 7) (.l 1))], [], [(.va 0)], [(.junk 0), (.ptr 1 0), (.int .i64 (.a 7)), (.va 0), (.int .i64 (.slen 0)), (.bool (.lt (.a 7) (.slen 0))), (.int .i64 (.a 7)), (.int .i64 (.add (.a 7) (.l 1))), (.va 0), (.int .i64 (.a 7)), (.ea 0 (.a 7) 8 0), (.agg [(.int .i64 (.a 8)), (.int .i64 (.a 9)), (.int .i64 (.a 10)), (.int .i64 (.a 11)), (.int .i64 (.a 12)), (.int .i64 (.a 13)), (.int .i64 (.a 14)), (.int .i64 (.a 15))]), (.ptr 1 1), (.agg [(.int .i64 (.a 9)), (.int .i64 (.a 10)), (.int .i64 (.a 11)), (.int .i64 (.a 12)), (.int .i64 (.a 13)), (.int .i64 (.a 14))]), (.int .i64 (.a 16)), (.bool (.eq (.a 16) (.l 0))), (.bool (.t false)), .undef, .undef, .undef, (.bool (.t false)), (.bool (.t false)), .undef, .undef, .undef, (.bool (.t false)), (.bool (.t false)), .undef, .undef, .undef, .undef, (.bool (.t false)), (.bool (.t false)), .undef, .undef, .undef, .undef, (.bool (.t false)), (.junk 38), (.junk 39)]⟩

def RvI (L : List Of) (bb : Bd) (lv : Value) : List Int → List Bool → List Value → Hp → Prop := fun is bs vs s =>
  ∃ (i : Nat) (x : Int), is = bb.l ++ [x, (i : Int)] ∧ vs = [lv] ∧ i ≤ L.length ∧ OfIn s lv L ∧ x = rval (L.take i) bb
theorem rv_r0 (L : List Of) (hL : L.length ≤ 1000) (bb : Bd) (lv : Value) {w0 : World} {s0 : Hp} : ∀ (A : Asg) (g : Cfg) (r : Env) (s : Hp), Go.Sx.fits ⟨0, 0, 0, 0⟩ A rv_p0 g = true → RvI L bb lv (A.is.map (IE.den r)) (A.bs.map (BE.den r)) (SV.dens r id A.vs) s →
    Go.Sx.Reach Try.prog 55 (Ret (fun v s => v = .int .i64 (rval L bb)) s0 w0) (fnOf Try.f55).body w0 s0 g r s := by
  refine rv_l0 (RvI L bb lv) (fun is _ _ => L.length - (is.getD 7 0).toNat) (fun is bs vs js s1 l1 l2 l3 hI ih => ?_)
  obtain ⟨i, x, rfl, rfl, hi, h0, hx⟩ := hI
  obtain rfl : bs = [] := List.length_eq_zero_iff.1 l2
  unfold rv_o0
  conv => arg 5; simp only [Bd.l, List.cons_append, List.nil_append]
  refine vc_need h0.kind (fun _ => ?_)
  refine vc_ite (fun h => ?_) (fun h => ?_) <;> simp only [BE.den, IE.den, SV.den, SV.dens, List.getD_cons_zero, List.getD_cons_succ, List.cons_append, List.nil_append, List.append_assoc, ltB_true, leB_true, eqB_true, ltB_false, leB_false, eqB_false, Bool.not_eq_true', Bool.not_eq_false', Bool.and_eq_true, Bool.or_eq_true, Bool.and_eq_false_iff, Bool.or_eq_false_iff, h0.len, List.length_map] at h
  · have hlt : i < L.length := by omega
    have hm : L.length - ((i : Int) + 1).toNat < L.length - (i : Int).toNat := by omega
    refine vc_need (by simp only [BE.den, IE.den, SV.den, SV.dens, List.getD_cons_zero, List.getD_cons_succ, List.cons_append, List.nil_append, List.append_assoc, ltB_true, leB_true, eqB_true, ltB_false, leB_false, eqB_false, Bool.not_eq_true', Bool.not_eq_false', Bool.and_eq_true, Bool.or_eq_true, Bool.and_eq_false_iff, Bool.or_eq_false_iff, h0.len, List.length_map]; omega) (fun _ => ?_)
    obtain ⟨o, ho⟩ : ∃ o, L[i]? = some o := ⟨_, List.getElem?_eq_getElem hlt⟩
    have htake : rval (L.take (i + 1)) bb = rstep bb x o := by
      rw [hx]; unfold rval; rw [List.take_add_one, ho, List.foldl_append]; rfl
    obtain ⟨n, ⟨a, b, c, d, e, f⟩, v⟩ := o
    refine vc_load [n, a, b, c, d, e, f, v] [] [] (Of.cs ⟨n, ⟨a, b, c, d, e, f⟩, v⟩) (h0.at rfl rfl (by rw [List.getElem?_map, ho]; rfl)) rfl rfl rfl rfl rfl ?_
    conv => arg 5; simp only [List.cons_append, List.nil_append, List.append_nil]
    obtain ⟨k, hk⟩ : ∃ k, k = (Bd.mk a b c d e f).check := ⟨_, rfl⟩
    have hct : ∀ s1, Ct Try.prog 54 [(Bd.mk a b c d e f).v] s1 (fun v _ => v = .int .i64 k) := fun s1 => by rw [hk]; exact rcheck_ct _ s1
    refine vc_call _ _ [k] [] [] (fun s1 _ => hct s1) (fun _ => rfl) rfl rfl rfl rfl rfl (fun s2 hs2 => ?_)
    conv => arg 5; simp only [List.cons_append, List.nil_append, List.append_nil]
    have hok := Bd.check_zero (s := ⟨a, b, c, d, e, f⟩)
    rw [← hk] at hok
    have no : ¬ ((Of.mk n ⟨a, b, c, d, e, f⟩ v).good ∧ (Bd.mk a b c d e f).Le bb ∧ x < v) → x = rval (L.take (i + 1)) bb := fun hg => by
      rw [htake]; unfold rstep; rw [if_neg hg]
    refine vc_ite (fun h => ?_) (fun h => ?_) <;> simp only [BE.den, IE.den, SV.den, SV.dens, List.getD_cons_zero, List.getD_cons_succ, List.cons_append, List.nil_append, List.append_assoc, ltB_true, leB_true, eqB_true, ltB_false, leB_false, eqB_false, Bool.not_eq_true', Bool.not_eq_false', Bool.and_eq_true, Bool.or_eq_true, Bool.and_eq_false_iff, Bool.or_eq_false_iff] at h
    · refine vc_ite (fun h3 => ?_) (fun h3 => ?_) <;> simp only [BE.den, IE.den, SV.den, SV.dens, List.getD_cons_zero, List.getD_cons_succ, List.cons_append, List.nil_append, List.append_assoc, ltB_true, leB_true, eqB_true, ltB_false, leB_false, eqB_false, Bool.not_eq_true', Bool.not_eq_false', Bool.and_eq_true, Bool.or_eq_true, Bool.and_eq_false_iff, Bool.or_eq_false_iff] at h3
      · refine vc_ite (fun h4 => ?_) (fun h4 => ?_) <;> simp only [BE.den, IE.den, SV.den, SV.dens, List.getD_cons_zero, List.getD_cons_succ, List.cons_append, List.nil_append, List.append_assoc, ltB_true, leB_true, eqB_true, ltB_false, leB_false, eqB_false, Bool.not_eq_true', Bool.not_eq_false', Bool.and_eq_true, Bool.or_eq_true, Bool.and_eq_false_iff, Bool.or_eq_false_iff] at h4
        · obtain ⟨q, hq⟩ : ∃ q, q = decide ((Bd.mk a b c d e f).Le bb) := ⟨_, rfl⟩
          have hct : ∀ s1, Ct Try.prog 75 [(Bd.mk a b c d e f).v, bb.v] s1 (fun v _ => v = .bool q) := fun s1 => by rw [hq]; exact rwithin_ct _ _ s1
          refine vc_call _ _ [] [q] [] (fun s1 _ => hct s1) (fun _ => rfl) rfl rfl rfl rfl rfl (fun s3 hs3 => ?_)
          conv => arg 5; simp only [List.cons_append, List.nil_append, List.append_nil]
          refine vc_ite (fun h5 => ?_) (fun h5 => ?_) <;> simp only [BE.den, List.getD_cons_zero] at h5 <;> subst h5
          · refine vc_ite (fun h6 => ?_) (fun h6 => ?_) <;> simp only [BE.den, IE.den, SV.den, SV.dens, List.getD_cons_zero, List.getD_cons_succ, List.cons_append, List.nil_append, List.append_assoc, ltB_true, leB_true, eqB_true, ltB_false, leB_false, eqB_false, Bool.not_eq_true', Bool.not_eq_false', Bool.and_eq_true, Bool.or_eq_true, Bool.and_eq_false_iff, Bool.or_eq_false_iff] at h6
            · refine vc_need (by simp only [BE.den, IE.den, SV.den, SV.dens, List.getD_cons_zero, List.getD_cons_succ, List.cons_append, List.nil_append, List.append_assoc, ltB_true, leB_true, eqB_true, ltB_false, leB_false, eqB_false, Bool.not_eq_true', Bool.not_eq_false', Bool.and_eq_true, Bool.or_eq_true, Bool.and_eq_false_iff, Bool.or_eq_false_iff]; omega) (fun _ => vc_stop (ih rv_a0_0 _ _ _ (Hp.le_trans hs2 hs3) (by kernel_rfl) ⟨i + 1, v, rfl, rfl, by omega, (h0.mono hs2).mono hs3, ?_⟩ hm))
              rw [htake]; unfold rstep; rw [if_pos ⟨⟨hok.1 h, h3, h4⟩, of_decide_eq_true hq.symm, h6⟩]
            · exact vc_need (by simp only [BE.den, IE.den, SV.den, SV.dens, List.getD_cons_zero, List.getD_cons_succ, List.cons_append, List.nil_append, List.append_assoc, ltB_true, leB_true, eqB_true, ltB_false, leB_false, eqB_false, Bool.not_eq_true', Bool.not_eq_false', Bool.and_eq_true, Bool.or_eq_true, Bool.and_eq_false_iff, Bool.or_eq_false_iff]; omega) (fun _ => vc_stop (ih rv_a0_1 _ _ _ (Hp.le_trans hs2 hs3) (by kernel_rfl) ⟨i + 1, x, rfl, rfl, by omega, (h0.mono hs2).mono hs3, no (fun hg => h6 hg.2.2)⟩ hm))
          · exact vc_need (by simp only [BE.den, IE.den, SV.den, SV.dens, List.getD_cons_zero, List.getD_cons_succ, List.cons_append, List.nil_append, List.append_assoc, ltB_true, leB_true, eqB_true, ltB_false, leB_false, eqB_false, Bool.not_eq_true', Bool.not_eq_false', Bool.and_eq_true, Bool.or_eq_true, Bool.and_eq_false_iff, Bool.or_eq_false_iff]; omega) (fun _ => vc_stop (ih rv_a0_2 _ _ _ (Hp.le_trans hs2 hs3) (by kernel_rfl) ⟨i + 1, x, rfl, rfl, by omega, (h0.mono hs2).mono hs3, no (fun hg => of_decide_eq_false hq.symm hg.2.1)⟩ hm))
        · exact vc_need (by simp only [BE.den, IE.den, SV.den, SV.dens, List.getD_cons_zero, List.getD_cons_succ, List.cons_append, List.nil_append, List.append_assoc, ltB_true, leB_true, eqB_true, ltB_false, leB_false, eqB_false, Bool.not_eq_true', Bool.not_eq_false', Bool.and_eq_true, Bool.or_eq_true, Bool.and_eq_false_iff, Bool.or_eq_false_iff]; omega) (fun _ => vc_stop (ih rv_a0_3 _ _ _ hs2 (by kernel_rfl) ⟨i + 1, x, rfl, rfl, by omega, h0.mono hs2, no (fun hg => h4 hg.1.2.2)⟩ hm))
      · exact vc_need (by simp only [BE.den, IE.den, SV.den, SV.dens, List.getD_cons_zero, List.getD_cons_succ, List.cons_append, List.nil_append, List.append_assoc, ltB_true, leB_true, eqB_true, ltB_false, leB_false, eqB_false, Bool.not_eq_true', Bool.not_eq_false', Bool.and_eq_true, Bool.or_eq_true, Bool.and_eq_false_iff, Bool.or_eq_false_iff]; omega) (fun _ => vc_stop (ih rv_a0_4 _ _ _ hs2 (by kernel_rfl) ⟨i + 1, x, rfl, rfl, by omega, h0.mono hs2, no (fun hg => h3 hg.1.2.1)⟩ hm))
    · exact vc_need (by simp only [BE.den, IE.den, SV.den, SV.dens, List.getD_cons_zero, List.getD_cons_succ, List.cons_append, List.nil_append, List.append_assoc, ltB_true, leB_true, eqB_true, ltB_false, leB_false, eqB_false, Bool.not_eq_true', Bool.not_eq_false', Bool.and_eq_true, Bool.or_eq_true, Bool.and_eq_false_iff, Bool.or_eq_false_iff]; omega) (fun _ => vc_stop (ih rv_a0_5 _ _ _ hs2 (by kernel_rfl) ⟨i + 1, x, rfl, rfl, by omega, h0.mono hs2, no (fun hg => h (hok.2 hg.1.1))⟩ hm))
  · refine vc_ret (fun β s' hs _ => ?_)
    have : L.take i = L := List.take_of_length_le (by omega)
    rw [this] at hx
    rw [← hx]; rfl
theorem rval_ct (L : List Of) (hL : L.length ≤ 1000) (lv : Value) (bb : Bd) (s : Hp) (hl : OfIn s lv L) : Ct Try.prog 55 [lv, bb.v] s (fun v s' => v = .int .i64 (rval L bb)) := by
  refine rv_o_ct bb.l [] [lv] rfl rfl rfl (by simp [hl.fine]) (fun w0 => ?_)
  unfold rv_o
  exact vc_stop (rv_r0 L hL bb lv rv_a_0 _ _ _ (by kernel_rfl) ⟨0, 0, rfl, rfl, Nat.zero_le _, hl, rfl⟩)

def o_util : Out :=
  (.call 73 [(.va 0), (.agg [(.int .i64 (.a 6)), (.int .i64 (.a 7)), (.int .i64 (.a 8)), (.int .i64 (.a 9)), (.int .i64 (.a 10)), (.int .i64 (.a 11))])] [] (.int .i64 (.a 12)) 1 0 0
  (.call 74 [(.agg [(.int .i64 (.a 0)), (.int .i64 (.a 1)), (.int .i64 (.a 2)), (.int .i64 (.a 3)), (.int .i64 (.a 4)), (.int .i64 (.a 5))]), (.agg [(.int .i64 (.a 6)), (.int .i64 (.a 7)), (.int .i64 (.a 8)), (.int .i64 (.a 9)), (.int .i64 (.a 10)), (.int .i64 (.a 11))])] [] (.int .i64 (.a 13)) 1 0 0
  (.need (.and (.le (.l (-9223372036854775808)) (.sub (.a 12) (.a 13))) (.le (.sub (.a 12) (.a 13)) (.l 9223372036854775807)))
  (.ret (.int .i64 (.sub (.a 12) (.a 13))) []))))
theorem o_util_eq : run (cx true [] []) (fnOf Try.f52) 5000 (startCfg Try.f52.ntmps [.va 0, b6 0, b6 6] 12 0 1) = o_util := by kernel_rfl
theorem o_util_ct {Q : Value → Hp → Prop} {s : Hp} (i : List Int) (b : List Bool) (v : List Value) (hi : i.length = 12) (hb : b.length = 0) (hv : v.length = 1) (hok : v.all fineV = true)
    (h : ∀ w0, VC Try.prog Q (Go.Sx.Reach Try.prog 52 (Ret Q s w0) (fnOf Try.f52).body w0 s) o_util ⟨i, b, v, []⟩ s) : Ct Try.prog 52 (SV.dens ⟨i, b, v, []⟩ id [.va 0, b6 0, b6 6]) s Q := by
  refine ct_run (fn := fnOf Try.f52) (progOk true [] []) Try.func52 rfl rfl 5000 (fun x hx => List.all_eq_true.1 hok x hx) rfl (fun w0 => ?_)
  rw [hi, hb, hv, o_util_eq]
  exact h w0

theorem util_ct (L : List Of) (hL : L.length ≤ 1000) (lv : Value) (p b : Bd) (hp : pok p) (hb : b.Ok) (s : Hp) (hl : OfIn s lv (counting L)) : Ct Try.prog 52 [lv, p.v, b.v] s (fun v s' => v = .int .i64 (util L p b)) := by
  refine o_util_ct (p.l ++ b.l) [] [lv] rfl rfl rfl (by simp [hl.fine]) (fun w0 => ?_)
  unfold o_util
  conv => arg 5; simp only [Bd.l, List.cons_append, List.nil_append]
  have hcl := counting_len L
  have r1 := val_range L b
  have r2 := cost_range hp hb
  obtain ⟨x, hx⟩ : ∃ x, x = val (counting L) b := ⟨_, rfl⟩
  have hct : ∀ s1, s.le s1 → Ct Try.prog 73 [lv, b.v] s1 (fun v _ => v = .int .i64 x) := fun s1 hs1 => by rw [hx]; exact fval_ct _ (by omega) lv b s1 (hl.mono hs1)
  refine vc_call _ _ [x] [] [] hct (fun _ => rfl) rfl rfl rfl rfl rfl (fun s2 hs2 => ?_)
  conv => arg 5; simp only [List.cons_append, List.nil_append, List.append_nil]
  obtain ⟨y, hy⟩ : ∃ y, y = p.cost b := ⟨_, rfl⟩
  have hct : ∀ s1, Ct Try.prog 74 [p.v, b.v] s1 (fun v _ => v = .int .i64 y) := fun s1 => by rw [hy]; exact cost_ct p b s1 (pok_small hp) (ok_small hb)
  refine vc_call _ _ [y] [] [] (fun s1 _ => hct s1) (fun _ => rfl) rfl rfl rfl rfl rfl (fun s2 hs2 => ?_)
  conv => arg 5; simp only [List.cons_append, List.nil_append, List.append_nil]
  rw [← hx] at r1
  rw [← hy] at r2
  refine vc_need (by simp only [BE.den, IE.den, SV.den, SV.dens, List.getD_cons_zero, List.getD_cons_succ, List.cons_append, List.nil_append, List.append_assoc, ltB_true, leB_true, eqB_true, ltB_false, leB_false, eqB_false, Bool.not_eq_true', Bool.not_eq_false', Bool.and_eq_true, Bool.or_eq_true, Bool.and_eq_false_iff, Bool.or_eq_false_iff]; omega) (fun _ => vc_ret (fun β s' _ _ => ?_))
  unfold util
  rw [← hx, ← hy]; rfl

def o_utility : Out :=
  (.call 50 [(.agg [(.int .i64 (.a 0)), (.int .i64 (.a 1)), (.int .i64 (.a 2)), (.int .i64 (.a 3)), (.int .i64 (.a 4)), (.int .i64 (.a 5))])] [] (.bool (.a 0)) 0 1 0
  (.ite (.not (.a 0))
  (.ret (.int .i64 (.l 0)) [])
  (.call 51 [(.agg [(.int .i64 (.a 6)), (.int .i64 (.a 7)), (.int .i64 (.a 8)), (.int .i64 (.a 9)), (.int .i64 (.a 10)), (.int .i64 (.a 11))])] [] (.int .i64 (.a 12)) 1 0 0
  (.ite (.not (.eq (.a 12) (.l 0)))
  (.ret (.int .i64 (.l 0)) [])
  (.call 53 [(.va 0)] [] (.va 1) 0 0 1
  (.call 52 [(.va 1), (.agg [(.int .i64 (.a 0)), (.int .i64 (.a 1)), (.int .i64 (.a 2)), (.int .i64 (.a 3)), (.int .i64 (.a 4)), (.int .i64 (.a 5))]), (.agg [(.int .i64 (.a 6)), (.int .i64 (.a 7)), (.int .i64 (.a 8)), (.int .i64 (.a 9)), (.int .i64 (.a 10)), (.int .i64 (.a 11))])] [] (.int .i64 (.a 13)) 1 0 0
  (.ret (.int .i64 (.a 13)) [])))))))
theorem o_utility_eq : run (cx true [] []) (fnOf Try.f16) 5000 (startCfg Try.f16.ntmps [.va 0, b6 0, b6 6] 12 0 1) = o_utility := by kernel_rfl
theorem o_utility_ct {Q : Value → Hp → Prop} {s : Hp} (i : List Int) (b : List Bool) (v : List Value) (hi : i.length = 12) (hb : b.length = 0) (hv : v.length = 1) (hok : v.all fineV = true)
    (h : ∀ w0, VC Try.prog Q (Go.Sx.Reach Try.prog 16 (Ret Q s w0) (fnOf Try.f16).body w0 s) o_utility ⟨i, b, v, []⟩ s) : Ct Try.prog 16 (SV.dens ⟨i, b, v, []⟩ id [.va 0, b6 0, b6 6]) s Q := by
  refine ct_run (fn := fnOf Try.f16) (progOk true [] []) Try.func16 rfl rfl 5000 (fun x hx => List.all_eq_true.1 hok x hx) rfl (fun w0 => ?_)
  rw [hi, hb, hv, o_utility_eq]
  exact h w0

theorem utility_ct (L : List Of) (hL : L.length ≤ 1000) (lv : Value) (p b : Bd) (s : Hp) (hl : OfIn s lv L) : Ct Try.prog 16 [lv, p.v, b.v] s (fun v s' => v = .int .i64 (utility L p b)) := by
  refine o_utility_ct (p.l ++ b.l) [] [lv] rfl rfl rfl (by simp [hl.fine]) (fun w0 => ?_)
  unfold o_utility
  conv => arg 5; simp only [Bd.l, List.cons_append, List.nil_append]
  obtain ⟨q, hq⟩ : ∃ q, q = decide (pok p) := ⟨_, rfl⟩
  have hct : ∀ s1, Ct Try.prog 50 [p.v] s1 (fun v _ => v = .bool q) := fun s1 => by rw [hq]; exact valid_ct p s1
  refine vc_call _ _ [] [q] [] (fun s1 _ => hct s1) (fun _ => rfl) rfl rfl rfl rfl rfl (fun s1 hs1 => ?_)
  conv => arg 5; simp only [List.cons_append, List.nil_append, List.append_nil]
  refine vc_ite (fun h => ?_) (fun h => ?_) <;> simp only [BE.den, List.getD_cons_zero, Bool.not_eq_true', Bool.not_eq_false'] at h <;> subst h
  · have := of_decide_eq_false hq.symm
    refine vc_ret (fun β s' _ _ => ?_)
    unfold utility; rw [if_neg (fun hh => this hh.1)]; rfl
  have hp := of_decide_eq_true hq.symm
  obtain ⟨k, hk⟩ : ∃ k, k = b.check := ⟨_, rfl⟩
  have hct : ∀ s1, Ct Try.prog 51 [b.v] s1 (fun v _ => v = .int .i64 k) := fun s1 => by rw [hk]; exact check_ct _ s1
  refine vc_call _ _ [k] [] [] (fun s1 _ => hct s1) (fun _ => rfl) rfl rfl rfl rfl rfl (fun s2 hs2 => ?_)
  conv => arg 5; simp only [List.cons_append, List.nil_append, List.append_nil]
  have hok := Bd.check_zero (s := b)
  rw [← hk] at hok
  refine vc_ite (fun h => ?_) (fun h => ?_) <;> simp only [BE.den, IE.den, SV.den, SV.dens, List.getD_cons_zero, List.getD_cons_succ, List.cons_append, List.nil_append, List.append_assoc, ltB_true, leB_true, eqB_true, ltB_false, leB_false, eqB_false, Bool.not_eq_true', Bool.not_eq_false', Bool.and_eq_true, Bool.or_eq_true, Bool.and_eq_false_iff, Bool.or_eq_false_iff] at h
  · refine vc_ret (fun β s' _ _ => ?_)
    unfold utility; rw [if_neg (fun hh => h (hok.2 hh.2))]; rfl
  have hb := hok.1 h
  have hl2 := (hl.mono hs1).mono hs2
  refine vc_callS _ _ _ (fun s1 hs => counting_ct L hL lv s1 (hl2.mono hs)) (fun _ => rfl) rfl (fun cv s3 hs3 hc => ?_)
  conv => arg 5; simp only [List.cons_append, List.nil_append, List.append_nil]
  obtain ⟨u, hu⟩ : ∃ u, u = util L p b := ⟨_, rfl⟩
  have hct : ∀ s1, s3.le s1 → Ct Try.prog 52 [cv, p.v, b.v] s1 (fun v _ => v = .int .i64 u) := fun s1 hs1 => by rw [hu]; exact util_ct L hL cv p b hp hb s1 (hc.mono hs1)
  refine vc_call _ _ [u] [] [] hct (fun _ => rfl) rfl rfl rfl rfl rfl (fun s4 hs4 => ?_)
  refine vc_ret (fun β s' _ _ => ?_)
  unfold utility; rw [if_pos ⟨hp, hb⟩, ← hu]; rfl

def o_rutility : Out :=
  (.call 54 [(.agg [(.int .i64 (.a 6)), (.int .i64 (.a 7)), (.int .i64 (.a 8)), (.int .i64 (.a 9)), (.int .i64 (.a 10)), (.int .i64 (.a 11))])] [] (.int .i64 (.a 12)) 1 0 0
  (.ite (.not (.eq (.a 12) (.l 0)))
  (.ret (.int .i64 (.l 0)) [])
  (.call 23 [(.agg [(.int .i64 (.a 0)), (.int .i64 (.a 1)), (.int .i64 (.a 2)), (.int .i64 (.a 3)), (.int .i64 (.a 4)), (.int .i64 (.a 5))])] [] (.bool (.a 0)) 0 1 0
  (.ite (.not (.a 0))
  (.ret (.int .i64 (.l 0)) [])
  (.call 55 [(.va 0), (.agg [(.int .i64 (.a 6)), (.int .i64 (.a 7)), (.int .i64 (.a 8)), (.int .i64 (.a 9)), (.int .i64 (.a 10)), (.int .i64 (.a 11))])] [] (.int .i64 (.a 13)) 1 0 0
  (.call 56 [(.agg [(.int .i64 (.a 0)), (.int .i64 (.a 1)), (.int .i64 (.a 2)), (.int .i64 (.a 3)), (.int .i64 (.a 4)), (.int .i64 (.a 5))]), (.agg [(.int .i64 (.a 6)), (.int .i64 (.a 7)), (.int .i64 (.a 8)), (.int .i64 (.a 9)), (.int .i64 (.a 10)), (.int .i64 (.a 11))])] [] (.int .i64 (.a 14)) 1 0 0
  (.need (.and (.le (.l (-9223372036854775808)) (.sub (.a 13) (.a 14))) (.le (.sub (.a 13) (.a 14)) (.l 9223372036854775807)))
  (.ret (.int .i64 (.sub (.a 13) (.a 14))) []))))))))
theorem o_rutility_eq : run (cx true [] []) (fnOf Try.f17) 5000 (startCfg Try.f17.ntmps [.va 0, b6 0, b6 6] 12 0 1) = o_rutility := by kernel_rfl
theorem o_rutility_ct {Q : Value → Hp → Prop} {s : Hp} (i : List Int) (b : List Bool) (v : List Value) (hi : i.length = 12) (hb : b.length = 0) (hv : v.length = 1) (hok : v.all fineV = true)
    (h : ∀ w0, VC Try.prog Q (Go.Sx.Reach Try.prog 17 (Ret Q s w0) (fnOf Try.f17).body w0 s) o_rutility ⟨i, b, v, []⟩ s) : Ct Try.prog 17 (SV.dens ⟨i, b, v, []⟩ id [.va 0, b6 0, b6 6]) s Q := by
  refine ct_run (fn := fnOf Try.f17) (progOk true [] []) Try.func17 rfl rfl 5000 (fun x hx => List.all_eq_true.1 hok x hx) rfl (fun w0 => ?_)
  rw [hi, hb, hv, o_rutility_eq]
  exact h w0

theorem rutility_ct (L : List Of) (hL : L.length ≤ 1000) (lv : Value) (p b : Bd) (s : Hp) (hl : OfIn s lv L) : Ct Try.prog 17 [lv, p.v, b.v] s (fun v s' => v = .int .i64 (utility L p b)) := by
  refine o_rutility_ct (p.l ++ b.l) [] [lv] rfl rfl rfl (by simp [hl.fine]) (fun w0 => ?_)
  unfold o_rutility
  conv => arg 5; simp only [Bd.l, List.cons_append, List.nil_append]
  obtain ⟨k, hk⟩ : ∃ k, k = b.check := ⟨_, rfl⟩
  have hct : ∀ s1, Ct Try.prog 54 [b.v] s1 (fun v _ => v = .int .i64 k) := fun s1 => by rw [hk]; exact rcheck_ct _ s1
  refine vc_call _ _ [k] [] [] (fun s1 _ => hct s1) (fun _ => rfl) rfl rfl rfl rfl rfl (fun s2 hs2 => ?_)
  conv => arg 5; simp only [List.cons_append, List.nil_append, List.append_nil]
  have hok := Bd.check_zero (s := b)
  rw [← hk] at hok
  refine vc_ite (fun h => ?_) (fun h => ?_) <;> simp only [BE.den, IE.den, SV.den, SV.dens, List.getD_cons_zero, List.getD_cons_succ, List.cons_append, List.nil_append, List.append_assoc, ltB_true, leB_true, eqB_true, ltB_false, leB_false, eqB_false, Bool.not_eq_true', Bool.not_eq_false', Bool.and_eq_true, Bool.or_eq_true, Bool.and_eq_false_iff, Bool.or_eq_false_iff] at h
  · refine vc_ret (fun β s' _ _ => ?_)
    unfold utility; rw [if_neg (fun hh => h (hok.2 hh.2))]; rfl
  have hb := hok.1 h
  obtain ⟨q, hq⟩ : ∃ q, q = decide (pok p) := ⟨_, rfl⟩
  have hct : ∀ s1, Ct Try.prog 23 [p.v] s1 (fun v _ => v = .bool q) := fun s1 => by rw [hq]; exact rprices_ct p s1
  refine vc_call _ _ [] [q] [] (fun s1 _ => hct s1) (fun _ => rfl) rfl rfl rfl rfl rfl (fun s1 hs1 => ?_)
  conv => arg 5; simp only [List.cons_append, List.nil_append, List.append_nil]
  refine vc_ite (fun h => ?_) (fun h => ?_) <;> simp only [BE.den, List.getD_cons_zero, Bool.not_eq_true', Bool.not_eq_false'] at h <;> subst h
  · have := of_decide_eq_false hq.symm
    refine vc_ret (fun β s' _ _ => ?_)
    unfold utility; rw [if_neg (fun hh => this hh.1)]; rfl
  have hp := of_decide_eq_true hq.symm
  have r1 := val_range L b
  have r2 := cost_range hp hb
  obtain ⟨x, hx⟩ : ∃ x, x = val (counting L) b := ⟨_, rfl⟩
  have hl2 := (hl.mono hs2).mono hs1
  have hct : ∀ s3, s1.le s3 → Ct Try.prog 55 [lv, b.v] s3 (fun v _ => v = .int .i64 x) := fun s3 hs3 => by rw [hx, ← rval_eq]; exact rval_ct _ hL lv b s3 (hl2.mono hs3)
  refine vc_call _ _ [x] [] [] hct (fun _ => rfl) rfl rfl rfl rfl rfl (fun s2 hs2 => ?_)
  conv => arg 5; simp only [List.cons_append, List.nil_append, List.append_nil]
  obtain ⟨y, hy⟩ : ∃ y, y = p.cost b := ⟨_, rfl⟩
  have hct : ∀ s1, Ct Try.prog 56 [p.v, b.v] s1 (fun v _ => v = .int .i64 y) := fun s1 => by rw [hy]; exact rcost_ct p b s1 (pok_small hp) (ok_small hb)
  refine vc_call _ _ [y] [] [] (fun s1 _ => hct s1) (fun _ => rfl) rfl rfl rfl rfl rfl (fun s2 hs2 => ?_)
  conv => arg 5; simp only [List.cons_append, List.nil_append, List.append_nil]
  rw [← hx] at r1
  rw [← hy] at r2
  refine vc_need (by simp only [BE.den, IE.den, SV.den, SV.dens, List.getD_cons_zero, List.getD_cons_succ, List.cons_append, List.nil_append, List.append_assoc, ltB_true, leB_true, eqB_true, ltB_false, leB_false, eqB_false, Bool.not_eq_true', Bool.not_eq_false', Bool.and_eq_true, Bool.or_eq_true, Bool.and_eq_false_iff, Bool.or_eq_false_iff]; omega) (fun _ => vc_ret (fun β s' _ _ => ?_))
  unfold utility
  rw [if_pos ⟨hp, hb⟩]
  unfold util
  rw [← hx, ← hy]; rfl

end Go.Proofs.Ytbmfegliomkkfaa
