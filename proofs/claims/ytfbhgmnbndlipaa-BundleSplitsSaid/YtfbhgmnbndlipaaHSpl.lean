/- The iterator Splits. -/
import Derived.Test.YtfbhgmnbndlipaaHAll
import Derived.Test.YtfbhgmnbndlipaaHHaL
import Derived.Test.YtfbhgmnbndlipaaHSxZ
set_option linter.unusedSimpArgs false
set_option linter.unusedVariables false
namespace Go.Proofs.Ytfbhgmnbndlipaa
open Go.Sx Go.Bun
def o_splits : Out :=
  (.ret (.fn 41 [(.ptr 0 0)]) [(.cells [(.int .i64 (.a 0)), (.int .i64 (.a 1)), (.int .i64 (.a 2)), (.int .i64 (.a 3)), (.int .i64 (.a 4)), (.int .i64 (.a 5))] 23 true)])
theorem o_splits_eq : run (cx true [] []) (fnOf Try.f38) 5000 (startCfg Try.f38.ntmps [b6 0] 6 0 0) = o_splits := by kernel_rfl
theorem o_splits_ct {Q : Value → Hp → Prop} {s : Hp} (i : List Int) (b : List Bool) (v : List Value) (hi : i.length = 6) (hb : b.length = 0) (hv : v.length = 0) (hok : v.all fineV = true)
    (h : ∀ w0, VC Try.prog Q (Go.Sx.Reach Try.prog 38 (Ret Q s w0) (fnOf Try.f38).body w0 s) o_splits ⟨i, b, v, []⟩ s) : Ct Try.prog 38 (SV.dens ⟨i, b, v, []⟩ id [b6 0]) s Q := by
  refine ct_run (fn := fnOf Try.f38) (progOk true [] []) Try.func38 rfl rfl 5000 (fun x hx => List.all_eq_true.1 hok x hx) rfl (fun w0 => ?_)
  rw [hi, hb, hv, o_splits_eq]
  exact h w0

def o_sub : Out :=
  (.need (.and (.le (.l (-9223372036854775808)) (.sub (.a 0) (.a 6))) (.le (.sub (.a 0) (.a 6)) (.l 9223372036854775807)))
  (.need (.and (.le (.l (-9223372036854775808)) (.sub (.a 1) (.a 7))) (.le (.sub (.a 1) (.a 7)) (.l 9223372036854775807)))
  (.need (.and (.le (.l (-9223372036854775808)) (.sub (.a 2) (.a 8))) (.le (.sub (.a 2) (.a 8)) (.l 9223372036854775807)))
  (.need (.and (.le (.l (-9223372036854775808)) (.sub (.a 3) (.a 9))) (.le (.sub (.a 3) (.a 9)) (.l 9223372036854775807)))
  (.need (.and (.le (.l (-9223372036854775808)) (.sub (.a 4) (.a 10))) (.le (.sub (.a 4) (.a 10)) (.l 9223372036854775807)))
  (.need (.and (.le (.l (-9223372036854775808)) (.sub (.a 5) (.a 11))) (.le (.sub (.a 5) (.a 11)) (.l 9223372036854775807)))
  (.ret (.agg [(.int .i64 (.sub (.a 0) (.a 6))), (.int .i64 (.sub (.a 1) (.a 7))), (.int .i64 (.sub (.a 2) (.a 8))), (.int .i64 (.sub (.a 3) (.a 9))), (.int .i64 (.sub (.a 4) (.a 10))), (.int .i64 (.sub (.a 5) (.a 11)))]) [])))))))
theorem o_sub_eq : run (cx true [] []) (fnOf Try.f29) 5000 (startCfg Try.f29.ntmps [b6 0, b6 6] 12 0 0) = o_sub := by kernel_rfl
theorem o_sub_ct {Q : Value → Hp → Prop} {s : Hp} (i : List Int) (b : List Bool) (v : List Value) (hi : i.length = 12) (hb : b.length = 0) (hv : v.length = 0) (hok : v.all fineV = true)
    (h : ∀ w0, VC Try.prog Q (Go.Sx.Reach Try.prog 29 (Ret Q s w0) (fnOf Try.f29).body w0 s) o_sub ⟨i, b, v, []⟩ s) : Ct Try.prog 29 (SV.dens ⟨i, b, v, []⟩ id [b6 0, b6 6]) s Q := by
  refine ct_run (fn := fnOf Try.f29) (progOk true [] []) Try.func29 rfl rfl 5000 (fun x hx => List.all_eq_true.1 hok x hx) rfl (fun w0 => ?_)
  rw [hi, hb, hv, o_sub_eq]
  exact h w0

def o_rsub : Out :=
  (.need (.and (.le (.l (-9223372036854775808)) (.sub (.a 0) (.a 6))) (.le (.sub (.a 0) (.a 6)) (.l 9223372036854775807)))
  (.need (.and (.le (.l (-9223372036854775808)) (.sub (.a 1) (.a 7))) (.le (.sub (.a 1) (.a 7)) (.l 9223372036854775807)))
  (.need (.and (.le (.l (-9223372036854775808)) (.sub (.a 2) (.a 8))) (.le (.sub (.a 2) (.a 8)) (.l 9223372036854775807)))
  (.need (.and (.le (.l (-9223372036854775808)) (.sub (.a 3) (.a 9))) (.le (.sub (.a 3) (.a 9)) (.l 9223372036854775807)))
  (.need (.and (.le (.l (-9223372036854775808)) (.sub (.a 4) (.a 10))) (.le (.sub (.a 4) (.a 10)) (.l 9223372036854775807)))
  (.need (.and (.le (.l (-9223372036854775808)) (.sub (.a 5) (.a 11))) (.le (.sub (.a 5) (.a 11)) (.l 9223372036854775807)))
  (.ret (.agg [(.int .i64 (.sub (.a 0) (.a 6))), (.int .i64 (.sub (.a 1) (.a 7))), (.int .i64 (.sub (.a 2) (.a 8))), (.int .i64 (.sub (.a 3) (.a 9))), (.int .i64 (.sub (.a 4) (.a 10))), (.int .i64 (.sub (.a 5) (.a 11)))]) [])))))))
theorem o_rsub_eq : run (cx true [] []) (fnOf Try.f30) 5000 (startCfg Try.f30.ntmps [b6 0, b6 6] 12 0 0) = o_rsub := by kernel_rfl
theorem o_rsub_ct {Q : Value → Hp → Prop} {s : Hp} (i : List Int) (b : List Bool) (v : List Value) (hi : i.length = 12) (hb : b.length = 0) (hv : v.length = 0) (hok : v.all fineV = true)
    (h : ∀ w0, VC Try.prog Q (Go.Sx.Reach Try.prog 30 (Ret Q s w0) (fnOf Try.f30).body w0 s) o_rsub ⟨i, b, v, []⟩ s) : Ct Try.prog 30 (SV.dens ⟨i, b, v, []⟩ id [b6 0, b6 6]) s Q := by
  refine ct_run (fn := fnOf Try.f30) (progOk true [] []) Try.func30 rfl rfl 5000 (fun x hx => List.all_eq_true.1 hok x hx) rfl (fun w0 => ?_)
  rw [hi, hb, hv, o_rsub_eq]
  exact h w0

def q1 : Out :=
  (.load (.pa 1 0) [(.int .i64 (.a 0)), (.int .i64 (.a 1)), (.int .i64 (.a 2)), (.int .i64 (.a 3)), (.int .i64 (.a 4)), (.int .i64 (.a 5))] 6 0 0
  (.call 17 [(.agg [(.int .i64 (.a 0)), (.int .i64 (.a 1)), (.int .i64 (.a 2)), (.int .i64 (.a 3)), (.int .i64 (.a 4)), (.int .i64 (.a 5))])] [] (.int .i64 (.a 6)) 1 0 0
  (.ite (.not (.eq (.a 6) (.l 0)))
  (.stop { todo := [(.code [false, true, false, true]), (.code [true, true])], sl := [(.va 0), (.pa 1 0), (.ptr 0 0), .undef, (.agg [(.int .i64 (.a 0)), (.int .i64 (.a 1)), (.int .i64 (.a 2)), (.int .i64 (.a 3)), (.int .i64 (.a 4)), (.int .i64 (.a 5))]), (.int .i64 (.a 6)), (.bool (.not (.eq (.a 6) (.l 0)))), .undef, .undef, .undef, .undef, .undef, .undef, .undef, .undef, .undef, .undef], H := [(.cells [(.va 0)] 29 false)], ni := 7, nb := 0, nv := 2, nj := 0 })
  (.load (.pa 1 0) [(.int .i64 (.a 7)), (.int .i64 (.a 8)), (.int .i64 (.a 9)), (.int .i64 (.a 10)), (.int .i64 (.a 11)), (.int .i64 (.a 12))] 6 0 0
  (.call 40 [(.agg [(.int .i64 (.a 7)), (.int .i64 (.a 8)), (.int .i64 (.a 9)), (.int .i64 (.a 10)), (.int .i64 (.a 11)), (.int .i64 (.a 12))])] [] (.va 2) 0 0 1
  (.stop { todo := [(.code [false, true, true, true]), (.inBlock 0)], sl := [(.va 0), (.pa 1 0), (.ptr 0 0), .undef, (.agg [(.int .i64 (.a 0)), (.int .i64 (.a 1)), (.int .i64 (.a 2)), (.int .i64 (.a 3)), (.int .i64 (.a 4)), (.int .i64 (.a 5))]), (.int .i64 (.a 6)), (.bool (.not (.eq (.a 6) (.l 0)))), (.agg [(.int .i64 (.a 7)), (.int .i64 (.a 8)), (.int .i64 (.a 9)), (.int .i64 (.a 10)), (.int .i64 (.a 11)), (.int .i64 (.a 12))]), (.va 2), .undef, .undef, .undef, .undef, .undef, .undef, .undef, .undef], H := [(.cells [(.va 0)] 29 false)], ni := 13, nb := 0, nv := 3, nj := 0 }))))))
theorem q1_eq : run (cl true [] []) (fnOf Try.f41) 5000 (startCfg Try.f41.ntmps [.va 0, .pa 1 0] 0 0 2) = q1 := by kernel_rfl

def q2_s : Cfg :=
  { todo := [(.code [false, false, true, true, true]), .begin, (.code [true, false, true, true, true])], sl := [(.va 0), (.pa 1 0), (.pa 3 0), .undef, (.agg [(.int .i64 (.a 0)), (.int .i64 (.a 1)), (.int .i64 (.a 2)), (.int .i64 (.a 3)), (.int .i64 (.a 4)), (.int .i64 (.a 5))]), (.int .i64 (.a 6)), (.bool (.not (.eq (.a 6) (.l 0)))), (.agg [(.int .i64 (.a 7)), (.int .i64 (.a 8)), (.int .i64 (.a 9)), (.int .i64 (.a 10)), (.int .i64 (.a 11)), (.int .i64 (.a 12))]), (.va 2), (.agg [(.int .i64 (.a 13)), (.int .i64 (.a 14)), (.int .i64 (.a 15)), (.int .i64 (.a 16)), (.int .i64 (.a 17)), (.int .i64 (.a 18))]), .undef, .undef, .undef, .undef, .undef, .undef, .undef], H := [], ni := 19, nb := 0, nv := 4, nj := 0 }
def q2 : Out :=
  (.stop { todo := [.begin, (.code [true, false, true, true, true])], sl := [(.va 0), (.pa 1 0), (.pa 3 0), (.ptr 0 0), (.agg [(.int .i64 (.a 0)), (.int .i64 (.a 1)), (.int .i64 (.a 2)), (.int .i64 (.a 3)), (.int .i64 (.a 4)), (.int .i64 (.a 5))]), (.int .i64 (.a 6)), (.bool (.not (.eq (.a 6) (.l 0)))), (.agg [(.int .i64 (.a 7)), (.int .i64 (.a 8)), (.int .i64 (.a 9)), (.int .i64 (.a 10)), (.int .i64 (.a 11)), (.int .i64 (.a 12))]), (.va 2), (.agg [(.int .i64 (.a 13)), (.int .i64 (.a 14)), (.int .i64 (.a 15)), (.int .i64 (.a 16)), (.int .i64 (.a 17)), (.int .i64 (.a 18))]), .undef, .undef, .undef, .undef, .undef, .undef, .undef], H := [(.cells [(.int .i64 (.a 13)), (.int .i64 (.a 14)), (.int .i64 (.a 15)), (.int .i64 (.a 16)), (.int .i64 (.a 17)), (.int .i64 (.a 18))] 23 false)], ni := 19, nb := 0, nv := 4, nj := 0 })
theorem q2_eq : run (cl true [] []) (fnOf Try.f41) 5000 q2_s = q2 := by kernel_rfl

def q3_s : Cfg :=
  { todo := [(.code [true, false, true, true, true])], sl := [(.va 0), (.pa 1 0), (.pa 3 0), (.ptr 0 0), (.agg [(.int .i64 (.a 0)), (.int .i64 (.a 1)), (.int .i64 (.a 2)), (.int .i64 (.a 3)), (.int .i64 (.a 4)), (.int .i64 (.a 5))]), (.int .i64 (.a 6)), (.bool (.not (.eq (.a 6) (.l 0)))), (.agg [(.int .i64 (.a 7)), (.int .i64 (.a 8)), (.int .i64 (.a 9)), (.int .i64 (.a 10)), (.int .i64 (.a 11)), (.int .i64 (.a 12))]), (.va 2), (.agg [(.int .i64 (.a 13)), (.int .i64 (.a 14)), (.int .i64 (.a 15)), (.int .i64 (.a 16)), (.int .i64 (.a 17)), (.int .i64 (.a 18))]), .undef, .undef, .undef, .undef, .undef, .undef, .undef], H := [(.cells [(.int .i64 (.a 13)), (.int .i64 (.a 14)), (.int .i64 (.a 15)), (.int .i64 (.a 16)), (.int .i64 (.a 17)), (.int .i64 (.a 18))] 23 false)], ni := 19, nb := 0, nv := 4, nj := 0 }
def q3 : Out :=
  (.stop { todo := [(.code [false, false, true, false, true, true, true]), (.code [true, false, true, false, true, true, true]), (.inBlock 1)], sl := [(.va 0), (.pa 1 0), (.pa 3 0), (.ptr 0 0), (.agg [(.int .i64 (.a 0)), (.int .i64 (.a 1)), (.int .i64 (.a 2)), (.int .i64 (.a 3)), (.int .i64 (.a 4)), (.int .i64 (.a 5))]), (.int .i64 (.a 6)), (.bool (.not (.eq (.a 6) (.l 0)))), (.agg [(.int .i64 (.a 7)), (.int .i64 (.a 8)), (.int .i64 (.a 9)), (.int .i64 (.a 10)), (.int .i64 (.a 11)), (.int .i64 (.a 12))]), (.va 2), (.agg [(.int .i64 (.a 13)), (.int .i64 (.a 14)), (.int .i64 (.a 15)), (.int .i64 (.a 16)), (.int .i64 (.a 17)), (.int .i64 (.a 18))]), .undef, .undef, .undef, .undef, .undef, .undef, .undef], H := [(.cells [(.int .i64 (.a 13)), (.int .i64 (.a 14)), (.int .i64 (.a 15)), (.int .i64 (.a 16)), (.int .i64 (.a 17)), (.int .i64 (.a 18))] 23 false)], ni := 19, nb := 0, nv := 4, nj := 0 })
theorem q3_eq : run (cl true [] [([false, false, true, false, true, true, true], 9999)]) (fnOf Try.f41) 5000 q3_s = q3 := by kernel_rfl

def q4_s : Cfg :=
  { todo := [(.code [false, false, true, false, true, true, true]), (.code [true, false, true, false, true, true, true]), (.inBlock 1)], sl := [(.va 0), (.pa 1 0), (.pa 3 0), (.ptr 0 0), (.agg [(.int .i64 (.a 0)), (.int .i64 (.a 1)), (.int .i64 (.a 2)), (.int .i64 (.a 3)), (.int .i64 (.a 4)), (.int .i64 (.a 5))]), (.int .i64 (.a 6)), (.bool (.not (.eq (.a 6) (.l 0)))), (.agg [(.int .i64 (.a 7)), (.int .i64 (.a 8)), (.int .i64 (.a 9)), (.int .i64 (.a 10)), (.int .i64 (.a 11)), (.int .i64 (.a 12))]), (.va 2), (.agg [(.int .i64 (.a 13)), (.int .i64 (.a 14)), (.int .i64 (.a 15)), (.int .i64 (.a 16)), (.int .i64 (.a 17)), (.int .i64 (.a 18))]), .undef, .undef, .undef, .undef, .undef, .undef, .undef], H := [(.cells [(.int .i64 (.a 13)), (.int .i64 (.a 14)), (.int .i64 (.a 15)), (.int .i64 (.a 16)), (.int .i64 (.a 17)), (.int .i64 (.a 18))] 23 false)], ni := 19, nb := 0, nv := 4, nj := 0 }
def q4_0 : Out :=
  (.load (.pa 3 0) [(.va 4)] 0 0 1
  (.load (.pa 1 0) [(.int .i64 (.a 19)), (.int .i64 (.a 20)), (.int .i64 (.a 21)), (.int .i64 (.a 22)), (.int .i64 (.a 23)), (.int .i64 (.a 24))] 6 0 0
  (.call 29 [(.agg [(.int .i64 (.a 19)), (.int .i64 (.a 20)), (.int .i64 (.a 21)), (.int .i64 (.a 22)), (.int .i64 (.a 23)), (.int .i64 (.a 24))]), (.agg [(.int .i64 (.a 13)), (.int .i64 (.a 14)), (.int .i64 (.a 15)), (.int .i64 (.a 16)), (.int .i64 (.a 17)), (.int .i64 (.a 18))])] [] (.agg [(.int .i64 (.a 25)), (.int .i64 (.a 26)), (.int .i64 (.a 27)), (.int .i64 (.a 28)), (.int .i64 (.a 29)), (.int .i64 (.a 30))]) 6 0 0
  (.stop { todo := [(.reg [false, false, true, false, true, true, true] [5, 6]), (.code [true, false, true, false, true, true, true]), (.inBlock 1)], sl := [(.va 0), (.pa 1 0), (.pa 3 0), (.ptr 0 0), (.agg [(.int .i64 (.a 0)), (.int .i64 (.a 1)), (.int .i64 (.a 2)), (.int .i64 (.a 3)), (.int .i64 (.a 4)), (.int .i64 (.a 5))]), (.int .i64 (.a 6)), (.bool (.not (.eq (.a 6) (.l 0)))), (.agg [(.int .i64 (.a 7)), (.int .i64 (.a 8)), (.int .i64 (.a 9)), (.int .i64 (.a 10)), (.int .i64 (.a 11)), (.int .i64 (.a 12))]), (.va 2), (.agg [(.int .i64 (.a 13)), (.int .i64 (.a 14)), (.int .i64 (.a 15)), (.int .i64 (.a 16)), (.int .i64 (.a 17)), (.int .i64 (.a 18))]), (.va 4), (.agg [(.int .i64 (.a 13)), (.int .i64 (.a 14)), (.int .i64 (.a 15)), (.int .i64 (.a 16)), (.int .i64 (.a 17)), (.int .i64 (.a 18))]), (.agg [(.int .i64 (.a 19)), (.int .i64 (.a 20)), (.int .i64 (.a 21)), (.int .i64 (.a 22)), (.int .i64 (.a 23)), (.int .i64 (.a 24))]), (.agg [(.int .i64 (.a 13)), (.int .i64 (.a 14)), (.int .i64 (.a 15)), (.int .i64 (.a 16)), (.int .i64 (.a 17)), (.int .i64 (.a 18))]), (.agg [(.int .i64 (.a 25)), (.int .i64 (.a 26)), (.int .i64 (.a 27)), (.int .i64 (.a 28)), (.int .i64 (.a 29)), (.int .i64 (.a 30))]), .undef, .undef], H := [(.cells [(.int .i64 (.a 13)), (.int .i64 (.a 14)), (.int .i64 (.a 15)), (.int .i64 (.a 16)), (.int .i64 (.a 17)), (.int .i64 (.a 18))] 23 false)], ni := 31, nb := 0, nv := 5, nj := 0 }))))
def q4_1 : Out :=
  (.load (.pa 1 0) [(.int .i64 (.a 19)), (.int .i64 (.a 20)), (.int .i64 (.a 21)), (.int .i64 (.a 22)), (.int .i64 (.a 23)), (.int .i64 (.a 24))] 6 0 0
  (.load (.pa 3 0) [(.va 4)] 0 0 1
  (.call 29 [(.agg [(.int .i64 (.a 19)), (.int .i64 (.a 20)), (.int .i64 (.a 21)), (.int .i64 (.a 22)), (.int .i64 (.a 23)), (.int .i64 (.a 24))]), (.agg [(.int .i64 (.a 13)), (.int .i64 (.a 14)), (.int .i64 (.a 15)), (.int .i64 (.a 16)), (.int .i64 (.a 17)), (.int .i64 (.a 18))])] [] (.agg [(.int .i64 (.a 25)), (.int .i64 (.a 26)), (.int .i64 (.a 27)), (.int .i64 (.a 28)), (.int .i64 (.a 29)), (.int .i64 (.a 30))]) 6 0 0
  (.stop { todo := [(.reg [false, false, true, false, true, true, true] [5, 6]), (.code [true, false, true, false, true, true, true]), (.inBlock 1)], sl := [(.va 0), (.pa 1 0), (.pa 3 0), (.ptr 0 0), (.agg [(.int .i64 (.a 0)), (.int .i64 (.a 1)), (.int .i64 (.a 2)), (.int .i64 (.a 3)), (.int .i64 (.a 4)), (.int .i64 (.a 5))]), (.int .i64 (.a 6)), (.bool (.not (.eq (.a 6) (.l 0)))), (.agg [(.int .i64 (.a 7)), (.int .i64 (.a 8)), (.int .i64 (.a 9)), (.int .i64 (.a 10)), (.int .i64 (.a 11)), (.int .i64 (.a 12))]), (.va 2), (.agg [(.int .i64 (.a 13)), (.int .i64 (.a 14)), (.int .i64 (.a 15)), (.int .i64 (.a 16)), (.int .i64 (.a 17)), (.int .i64 (.a 18))]), (.va 4), (.agg [(.int .i64 (.a 13)), (.int .i64 (.a 14)), (.int .i64 (.a 15)), (.int .i64 (.a 16)), (.int .i64 (.a 17)), (.int .i64 (.a 18))]), (.agg [(.int .i64 (.a 19)), (.int .i64 (.a 20)), (.int .i64 (.a 21)), (.int .i64 (.a 22)), (.int .i64 (.a 23)), (.int .i64 (.a 24))]), (.agg [(.int .i64 (.a 13)), (.int .i64 (.a 14)), (.int .i64 (.a 15)), (.int .i64 (.a 16)), (.int .i64 (.a 17)), (.int .i64 (.a 18))]), (.agg [(.int .i64 (.a 25)), (.int .i64 (.a 26)), (.int .i64 (.a 27)), (.int .i64 (.a 28)), (.int .i64 (.a 29)), (.int .i64 (.a 30))]), .undef, .undef], H := [(.cells [(.int .i64 (.a 13)), (.int .i64 (.a 14)), (.int .i64 (.a 15)), (.int .i64 (.a 16)), (.int .i64 (.a 17)), (.int .i64 (.a 18))] 23 false)], ni := 31, nb := 0, nv := 5, nj := 0 }))))
def q4_2 : Out :=
  (.load (.pa 1 0) [(.int .i64 (.a 19)), (.int .i64 (.a 20)), (.int .i64 (.a 21)), (.int .i64 (.a 22)), (.int .i64 (.a 23)), (.int .i64 (.a 24))] 6 0 0
  (.call 29 [(.agg [(.int .i64 (.a 19)), (.int .i64 (.a 20)), (.int .i64 (.a 21)), (.int .i64 (.a 22)), (.int .i64 (.a 23)), (.int .i64 (.a 24))]), (.agg [(.int .i64 (.a 13)), (.int .i64 (.a 14)), (.int .i64 (.a 15)), (.int .i64 (.a 16)), (.int .i64 (.a 17)), (.int .i64 (.a 18))])] [] (.agg [(.int .i64 (.a 25)), (.int .i64 (.a 26)), (.int .i64 (.a 27)), (.int .i64 (.a 28)), (.int .i64 (.a 29)), (.int .i64 (.a 30))]) 6 0 0
  (.load (.pa 3 0) [(.va 4)] 0 0 1
  (.stop { todo := [(.reg [false, false, true, false, true, true, true] [5, 6]), (.code [true, false, true, false, true, true, true]), (.inBlock 1)], sl := [(.va 0), (.pa 1 0), (.pa 3 0), (.ptr 0 0), (.agg [(.int .i64 (.a 0)), (.int .i64 (.a 1)), (.int .i64 (.a 2)), (.int .i64 (.a 3)), (.int .i64 (.a 4)), (.int .i64 (.a 5))]), (.int .i64 (.a 6)), (.bool (.not (.eq (.a 6) (.l 0)))), (.agg [(.int .i64 (.a 7)), (.int .i64 (.a 8)), (.int .i64 (.a 9)), (.int .i64 (.a 10)), (.int .i64 (.a 11)), (.int .i64 (.a 12))]), (.va 2), (.agg [(.int .i64 (.a 13)), (.int .i64 (.a 14)), (.int .i64 (.a 15)), (.int .i64 (.a 16)), (.int .i64 (.a 17)), (.int .i64 (.a 18))]), (.va 4), (.agg [(.int .i64 (.a 13)), (.int .i64 (.a 14)), (.int .i64 (.a 15)), (.int .i64 (.a 16)), (.int .i64 (.a 17)), (.int .i64 (.a 18))]), (.agg [(.int .i64 (.a 19)), (.int .i64 (.a 20)), (.int .i64 (.a 21)), (.int .i64 (.a 22)), (.int .i64 (.a 23)), (.int .i64 (.a 24))]), (.agg [(.int .i64 (.a 13)), (.int .i64 (.a 14)), (.int .i64 (.a 15)), (.int .i64 (.a 16)), (.int .i64 (.a 17)), (.int .i64 (.a 18))]), (.agg [(.int .i64 (.a 25)), (.int .i64 (.a 26)), (.int .i64 (.a 27)), (.int .i64 (.a 28)), (.int .i64 (.a 29)), (.int .i64 (.a 30))]), .undef, .undef], H := [(.cells [(.int .i64 (.a 13)), (.int .i64 (.a 14)), (.int .i64 (.a 15)), (.int .i64 (.a 16)), (.int .i64 (.a 17)), (.int .i64 (.a 18))] 23 false)], ni := 31, nb := 0, nv := 5, nj := 0 }))))
theorem q4_map : (ordersOf (opsAt (sub (fnOf Try.f41).body [false, false, true, false, true, true, true]))).map (fun l => run (cl true [] [([false, false, true, false, true, true, true], 5)]) (fnOf Try.f41) 5000 { q4_s with todo := .reg [false, false, true, false, true, true, true] l :: [(.code [true, false, true, false, true, true, true]), (.inBlock 1)] }) = [q4_0, q4_0, q4_0, q4_0, q4_0, q4_0, q4_0, q4_0, q4_0, q4_0, q4_1, q4_1, q4_2, q4_0, q4_1, q4_2, q4_1, q4_1, q4_1, q4_1, q4_1, q4_2, q4_1, q4_1, q4_1, q4_2, q4_2, q4_2, q4_0, q4_0, q4_0, q4_0, q4_1, q4_2, q4_1, q4_1, q4_1, q4_2, q4_2, q4_2] := by kernel_rfl
theorem q4_all : ∀ l ∈ ordersOf (opsAt (sub (fnOf Try.f41).body [false, false, true, false, true, true, true])), (fun x => x = q4_0 ∨ x = q4_1 ∨ x = q4_2) (run (cl true [] [([false, false, true, false, true, true, true], 5)]) (fnOf Try.f41) 5000 { q4_s with todo := .reg [false, false, true, false, true, true, true] l :: [(.code [true, false, true, false, true, true, true]), (.inBlock 1)] }) := by
  have h : ∀ x ∈ [q4_0, q4_0, q4_0, q4_0, q4_0, q4_0, q4_0, q4_0, q4_0, q4_0, q4_1, q4_1, q4_2, q4_0, q4_1, q4_2, q4_1, q4_1, q4_1, q4_1, q4_1, q4_2, q4_1, q4_1, q4_1, q4_2, q4_2, q4_2, q4_0, q4_0, q4_0, q4_0, q4_1, q4_2, q4_1, q4_1, q4_1, q4_2, q4_2, q4_2], x = q4_0 ∨ x = q4_1 ∨ x = q4_2 :=
    List.forall_mem_cons.2 ⟨(.inl rfl), List.forall_mem_cons.2 ⟨(.inl rfl), List.forall_mem_cons.2 ⟨(.inl rfl), List.forall_mem_cons.2 ⟨(.inl rfl), List.forall_mem_cons.2 ⟨(.inl rfl), List.forall_mem_cons.2 ⟨(.inl rfl), List.forall_mem_cons.2 ⟨(.inl rfl), List.forall_mem_cons.2 ⟨(.inl rfl), List.forall_mem_cons.2 ⟨(.inl rfl), List.forall_mem_cons.2 ⟨(.inl rfl), List.forall_mem_cons.2 ⟨(.inr (.inl rfl)), List.forall_mem_cons.2 ⟨(.inr (.inl rfl)), List.forall_mem_cons.2 ⟨(.inr (.inr rfl)), List.forall_mem_cons.2 ⟨(.inl rfl), List.forall_mem_cons.2 ⟨(.inr (.inl rfl)), List.forall_mem_cons.2 ⟨(.inr (.inr rfl)), List.forall_mem_cons.2 ⟨(.inr (.inl rfl)), List.forall_mem_cons.2 ⟨(.inr (.inl rfl)), List.forall_mem_cons.2 ⟨(.inr (.inl rfl)), List.forall_mem_cons.2 ⟨(.inr (.inl rfl)), List.forall_mem_cons.2 ⟨(.inr (.inl rfl)), List.forall_mem_cons.2 ⟨(.inr (.inr rfl)), List.forall_mem_cons.2 ⟨(.inr (.inl rfl)), List.forall_mem_cons.2 ⟨(.inr (.inl rfl)), List.forall_mem_cons.2 ⟨(.inr (.inl rfl)), List.forall_mem_cons.2 ⟨(.inr (.inr rfl)), List.forall_mem_cons.2 ⟨(.inr (.inr rfl)), List.forall_mem_cons.2 ⟨(.inr (.inr rfl)), List.forall_mem_cons.2 ⟨(.inl rfl), List.forall_mem_cons.2 ⟨(.inl rfl), List.forall_mem_cons.2 ⟨(.inl rfl), List.forall_mem_cons.2 ⟨(.inl rfl), List.forall_mem_cons.2 ⟨(.inr (.inl rfl)), List.forall_mem_cons.2 ⟨(.inr (.inr rfl)), List.forall_mem_cons.2 ⟨(.inr (.inl rfl)), List.forall_mem_cons.2 ⟨(.inr (.inl rfl)), List.forall_mem_cons.2 ⟨(.inr (.inl rfl)), List.forall_mem_cons.2 ⟨(.inr (.inr rfl)), List.forall_mem_cons.2 ⟨(.inr (.inr rfl)), List.forall_mem_cons.2 ⟨(.inr (.inr rfl)), (by simp)⟩⟩⟩⟩⟩⟩⟩⟩⟩⟩⟩⟩⟩⟩⟩⟩⟩⟩⟩⟩⟩⟩⟩⟩⟩⟩⟩⟩⟩⟩⟩⟩⟩⟩⟩⟩⟩⟩⟩⟩
  intro l hl
  have := List.mem_map_of_mem (f := fun l => run (cl true [] [([false, false, true, false, true, true, true], 5)]) (fnOf Try.f41) 5000 { q4_s with todo := .reg [false, false, true, false, true, true, true] l :: [(.code [true, false, true, false, true, true, true]), (.inBlock 1)] }) hl
  rw [q4_map] at this
  exact h _ this
def q4_y : Cfg :=
  { todo := [(.reg [false, false, true, false, true, true, true] [5, 6]), (.code [true, false, true, false, true, true, true]), (.inBlock 1)], sl := [(.va 0), (.pa 1 0), (.pa 3 0), (.ptr 0 0), (.agg [(.int .i64 (.a 0)), (.int .i64 (.a 1)), (.int .i64 (.a 2)), (.int .i64 (.a 3)), (.int .i64 (.a 4)), (.int .i64 (.a 5))]), (.int .i64 (.a 6)), (.bool (.not (.eq (.a 6) (.l 0)))), (.agg [(.int .i64 (.a 7)), (.int .i64 (.a 8)), (.int .i64 (.a 9)), (.int .i64 (.a 10)), (.int .i64 (.a 11)), (.int .i64 (.a 12))]), (.va 2), (.agg [(.int .i64 (.a 13)), (.int .i64 (.a 14)), (.int .i64 (.a 15)), (.int .i64 (.a 16)), (.int .i64 (.a 17)), (.int .i64 (.a 18))]), (.va 4), (.agg [(.int .i64 (.a 13)), (.int .i64 (.a 14)), (.int .i64 (.a 15)), (.int .i64 (.a 16)), (.int .i64 (.a 17)), (.int .i64 (.a 18))]), (.agg [(.int .i64 (.a 19)), (.int .i64 (.a 20)), (.int .i64 (.a 21)), (.int .i64 (.a 22)), (.int .i64 (.a 23)), (.int .i64 (.a 24))]), (.agg [(.int .i64 (.a 13)), (.int .i64 (.a 14)), (.int .i64 (.a 15)), (.int .i64 (.a 16)), (.int .i64 (.a 17)), (.int .i64 (.a 18))]), (.agg [(.int .i64 (.a 25)), (.int .i64 (.a 26)), (.int .i64 (.a 27)), (.int .i64 (.a 28)), (.int .i64 (.a 29)), (.int .i64 (.a 30))]), .undef, .undef], H := [(.cells [(.int .i64 (.a 13)), (.int .i64 (.a 14)), (.int .i64 (.a 15)), (.int .i64 (.a 16)), (.int .i64 (.a 17)), (.int .i64 (.a 18))] 23 false)], ni := 31, nb := 0, nv := 5, nj := 0 }
/- 40 orders
SHAPE 0
LOAD &*v3.0 = v4 (0,0,1)
LOAD &*v1.0 = i19, i20, i21, i22, i23, i24 (6,0,0)
CALL f29 ({i19, i20, i21, i22, i23, i24}, {i13, i14, i15, i16, i17, i18}) = {i25, i26, i27, i28, i29, i30} (6,0,0) 
STOP todo [Go.Sx.PI.reg [false, false, true, false, true, true, true] [5, 6],
 Go.Sx.PI.code [true, false, true, false, true, true, true],
 Go.Sx.PI.inBlock 1]
   slots 0:v0, 1:&*v1.0, 2:&*v3.0, 3:&0.0, 4:{i0, i1, i2, i3, i4, i5}, 5:i6, 6:!(i6==0), 7:{i7, i8, i9, i10, i11, i12}, 8:v2, 9:{i13, i14, i15, i16, i17, i18}, 10:v4, 11:{i13, i14, i15, i16, i17, i18}, 12:{i19, i20, i21, i22, i23, i24}, 13:{i13, i14, i15, i16, i17, i18}, 14:{i25, i26, i27, i28, i29, i30}
   H cells23[i13, i14, i15, i16, i17, i18]
   n 31 0 5 0

SHAPE 1
LOAD &*v1.0 = i19, i20, i21, i22, i23, i24 (6,0,0)
LOAD &*v3.0 = v4 (0,0,1)
CALL f29 ({i19, i20, i21, i22, i23, i24}, {i13, i14, i15, i16, i17, i18}) = {i25, i26, i27, i28, i29, i30} (6,0,0) 
STOP todo [Go.Sx.PI.reg [false, false, true, false, true, true, true] [5, 6],
 Go.Sx.PI.code [true, false, true, false, true, true, true],
 Go.Sx.PI.inBlock 1]
   slots 0:v0, 1:&*v1.0, 2:&*v3.0, 3:&0.0, 4:{i0, i1, i2, i3, i4, i5}, 5:i6, 6:!(i6==0), 7:{i7, i8, i9, i10, i11, i12}, 8:v2, 9:{i13, i14, i15, i16, i17, i18}, 10:v4, 11:{i13, i14, i15, i16, i17, i18}, 12:{i19, i20, i21, i22, i23, i24}, 13:{i13, i14, i15, i16, i17, i18}, 14:{i25, i26, i27, i28, i29, i30}
   H cells23[i13, i14, i15, i16, i17, i18]
   n 31 0 5 0

SHAPE 2
LOAD &*v1.0 = i19, i20, i21, i22, i23, i24 (6,0,0)
CALL f29 ({i19, i20, i21, i22, i23, i24}, {i13, i14, i15, i16, i17, i18}) = {i25, i26, i27, i28, i29, i30} (6,0,0) 
LOAD &*v3.0 = v4 (0,0,1)
STOP todo [Go.Sx.PI.reg [false, false, true, false, true, true, true] [5, 6],
 Go.Sx.PI.code [true, false, true, false, true, true, true],
 Go.Sx.PI.inBlock 1]
   slots 0:v0, 1:&*v1.0, 2:&*v3.0, 3:&0.0, 4:{i0, i1, i2, i3, i4, i5}, 5:i6, 6:!(i6==0), 7:{i7, i8, i9, i10, i11, i12}, 8:v2, 9:{i13, i14, i15, i16, i17, i18}, 10:v4, 11:{i13, i14, i15, i16, i17, i18}, 12:{i19, i20, i21, i22, i23, i24}, 13:{i13, i14, i15, i16, i17, i18}, 14:{i25, i26, i27, i28, i29, i30}
   H cells23[i13, i14, i15, i16, i17, i18]
   n 31 0 5 0

 -/

def q5_s : Cfg :=
  { todo := [(.reg [false, false, true, false, true, true, true] [6]), (.code [true, false, true, false, true, true, true]), (.inBlock 1)], sl := [(.va 0), (.pa 1 0), (.pa 3 0), (.ptr 0 0), (.agg [(.int .i64 (.a 0)), (.int .i64 (.a 1)), (.int .i64 (.a 2)), (.int .i64 (.a 3)), (.int .i64 (.a 4)), (.int .i64 (.a 5))]), (.int .i64 (.a 6)), (.bool (.not (.eq (.a 6) (.l 0)))), (.agg [(.int .i64 (.a 7)), (.int .i64 (.a 8)), (.int .i64 (.a 9)), (.int .i64 (.a 10)), (.int .i64 (.a 11)), (.int .i64 (.a 12))]), (.va 2), (.agg [(.int .i64 (.a 13)), (.int .i64 (.a 14)), (.int .i64 (.a 15)), (.int .i64 (.a 16)), (.int .i64 (.a 17)), (.int .i64 (.a 18))]), (.va 4), (.agg [(.int .i64 (.a 13)), (.int .i64 (.a 14)), (.int .i64 (.a 15)), (.int .i64 (.a 16)), (.int .i64 (.a 17)), (.int .i64 (.a 18))]), (.agg [(.int .i64 (.a 19)), (.int .i64 (.a 20)), (.int .i64 (.a 21)), (.int .i64 (.a 22)), (.int .i64 (.a 23)), (.int .i64 (.a 24))]), (.agg [(.int .i64 (.a 13)), (.int .i64 (.a 14)), (.int .i64 (.a 15)), (.int .i64 (.a 16)), (.int .i64 (.a 17)), (.int .i64 (.a 18))]), (.agg [(.int .i64 (.a 25)), (.int .i64 (.a 26)), (.int .i64 (.a 27)), (.int .i64 (.a 28)), (.int .i64 (.a 29)), (.int .i64 (.a 30))]), (.bool (.t true)), .undef], H := [(.cells [(.int .i64 (.a 13)), (.int .i64 (.a 14)), (.int .i64 (.a 15)), (.int .i64 (.a 16)), (.int .i64 (.a 17)), (.int .i64 (.a 18))] 23 false)], ni := 31, nb := 0, nv := 5, nj := 0 }
def q5 : Out :=
  (.stop { todo := [], sl := [(.va 0), (.pa 1 0), (.pa 3 0), (.ptr 0 0), (.agg [(.int .i64 (.a 0)), (.int .i64 (.a 1)), (.int .i64 (.a 2)), (.int .i64 (.a 3)), (.int .i64 (.a 4)), (.int .i64 (.a 5))]), (.int .i64 (.a 6)), (.bool (.not (.eq (.a 6) (.l 0)))), (.agg [(.int .i64 (.a 7)), (.int .i64 (.a 8)), (.int .i64 (.a 9)), (.int .i64 (.a 10)), (.int .i64 (.a 11)), (.int .i64 (.a 12))]), (.va 2), (.agg [(.int .i64 (.a 13)), (.int .i64 (.a 14)), (.int .i64 (.a 15)), (.int .i64 (.a 16)), (.int .i64 (.a 17)), (.int .i64 (.a 18))]), (.va 4), (.agg [(.int .i64 (.a 13)), (.int .i64 (.a 14)), (.int .i64 (.a 15)), (.int .i64 (.a 16)), (.int .i64 (.a 17)), (.int .i64 (.a 18))]), (.agg [(.int .i64 (.a 19)), (.int .i64 (.a 20)), (.int .i64 (.a 21)), (.int .i64 (.a 22)), (.int .i64 (.a 23)), (.int .i64 (.a 24))]), (.agg [(.int .i64 (.a 13)), (.int .i64 (.a 14)), (.int .i64 (.a 15)), (.int .i64 (.a 16)), (.int .i64 (.a 17)), (.int .i64 (.a 18))]), (.agg [(.int .i64 (.a 25)), (.int .i64 (.a 26)), (.int .i64 (.a 27)), (.int .i64 (.a 28)), (.int .i64 (.a 29)), (.int .i64 (.a 30))]), (.bool (.t true)), (.bool (.t false))], H := [(.cells [(.int .i64 (.a 13)), (.int .i64 (.a 14)), (.int .i64 (.a 15)), (.int .i64 (.a 16)), (.int .i64 (.a 17)), (.int .i64 (.a 18))] 23 false)], ni := 31, nb := 0, nv := 5, nj := 0 })
theorem q5_eq : run (cl true [] []) (fnOf Try.f41) 5000 q5_s = q5 := by kernel_rfl

def q6_s : Cfg :=
  { todo := [(.reg [false, false, true, false, true, true, true] [6]), (.code [true, false, true, false, true, true, true]), (.inBlock 1)], sl := [(.va 0), (.pa 1 0), (.pa 3 0), (.ptr 0 0), (.agg [(.int .i64 (.a 0)), (.int .i64 (.a 1)), (.int .i64 (.a 2)), (.int .i64 (.a 3)), (.int .i64 (.a 4)), (.int .i64 (.a 5))]), (.int .i64 (.a 6)), (.bool (.not (.eq (.a 6) (.l 0)))), (.agg [(.int .i64 (.a 7)), (.int .i64 (.a 8)), (.int .i64 (.a 9)), (.int .i64 (.a 10)), (.int .i64 (.a 11)), (.int .i64 (.a 12))]), (.va 2), (.agg [(.int .i64 (.a 13)), (.int .i64 (.a 14)), (.int .i64 (.a 15)), (.int .i64 (.a 16)), (.int .i64 (.a 17)), (.int .i64 (.a 18))]), (.va 4), (.agg [(.int .i64 (.a 13)), (.int .i64 (.a 14)), (.int .i64 (.a 15)), (.int .i64 (.a 16)), (.int .i64 (.a 17)), (.int .i64 (.a 18))]), (.agg [(.int .i64 (.a 19)), (.int .i64 (.a 20)), (.int .i64 (.a 21)), (.int .i64 (.a 22)), (.int .i64 (.a 23)), (.int .i64 (.a 24))]), (.agg [(.int .i64 (.a 13)), (.int .i64 (.a 14)), (.int .i64 (.a 15)), (.int .i64 (.a 16)), (.int .i64 (.a 17)), (.int .i64 (.a 18))]), (.agg [(.int .i64 (.a 25)), (.int .i64 (.a 26)), (.int .i64 (.a 27)), (.int .i64 (.a 28)), (.int .i64 (.a 29)), (.int .i64 (.a 30))]), (.bool (.t false)), .undef], H := [(.cells [(.int .i64 (.a 13)), (.int .i64 (.a 14)), (.int .i64 (.a 15)), (.int .i64 (.a 16)), (.int .i64 (.a 17)), (.int .i64 (.a 18))] 23 false)], ni := 31, nb := 0, nv := 5, nj := 0 }
def q6 : Out :=
  (.stop { todo := [(.code [false, true, false, true, false, true, true, true]), (.inBlock 1)], sl := [(.va 0), (.pa 1 0), (.pa 3 0), (.ptr 0 0), (.agg [(.int .i64 (.a 0)), (.int .i64 (.a 1)), (.int .i64 (.a 2)), (.int .i64 (.a 3)), (.int .i64 (.a 4)), (.int .i64 (.a 5))]), (.int .i64 (.a 6)), (.bool (.not (.eq (.a 6) (.l 0)))), (.agg [(.int .i64 (.a 7)), (.int .i64 (.a 8)), (.int .i64 (.a 9)), (.int .i64 (.a 10)), (.int .i64 (.a 11)), (.int .i64 (.a 12))]), (.va 2), (.agg [(.int .i64 (.a 13)), (.int .i64 (.a 14)), (.int .i64 (.a 15)), (.int .i64 (.a 16)), (.int .i64 (.a 17)), (.int .i64 (.a 18))]), (.va 4), (.agg [(.int .i64 (.a 13)), (.int .i64 (.a 14)), (.int .i64 (.a 15)), (.int .i64 (.a 16)), (.int .i64 (.a 17)), (.int .i64 (.a 18))]), (.agg [(.int .i64 (.a 19)), (.int .i64 (.a 20)), (.int .i64 (.a 21)), (.int .i64 (.a 22)), (.int .i64 (.a 23)), (.int .i64 (.a 24))]), (.agg [(.int .i64 (.a 13)), (.int .i64 (.a 14)), (.int .i64 (.a 15)), (.int .i64 (.a 16)), (.int .i64 (.a 17)), (.int .i64 (.a 18))]), (.agg [(.int .i64 (.a 25)), (.int .i64 (.a 26)), (.int .i64 (.a 27)), (.int .i64 (.a 28)), (.int .i64 (.a 29)), (.int .i64 (.a 30))]), (.bool (.t false)), (.bool (.t true))], H := [(.cells [(.int .i64 (.a 13)), (.int .i64 (.a 14)), (.int .i64 (.a 15)), (.int .i64 (.a 16)), (.int .i64 (.a 17)), (.int .i64 (.a 18))] 23 false)], ni := 31, nb := 0, nv := 5, nj := 0 })
theorem q6_eq : run (cl true [] []) (fnOf Try.f41) 5000 q6_s = q6 := by kernel_rfl


theorem spsub_ct (a b : Bd) (ha : a.Ok) (hb : b.Ok) (s : Hp) : Ct Try.prog 29 [a.v, b.v] s (fun v _ => v = (a.sub b).v) := by
  refine o_sub_ct (a.l ++ b.l) [] [] rfl rfl rfl rfl (fun w0 => ?_)
  unfold Bd.Ok at ha hb
  unfold o_sub
  conv => arg 5; simp only [Bd.l, List.cons_append, List.nil_append]
  iterate 6 (refine vc_need (by simp only [BE.den, IE.den, SV.den, SV.dens, List.getD_cons_zero, List.getD_cons_succ, List.cons_append, List.nil_append, List.append_assoc, ltB_true, leB_true, eqB_true, ltB_false, leB_false, eqB_false, Bool.not_eq_true', Bool.not_eq_false', Bool.and_eq_true, Bool.or_eq_true, Bool.and_eq_false_iff, Bool.or_eq_false_iff]; omega) (fun _ => ?_))
  exact vc_ret (fun _ _ _ _ => rfl)
theorem rsub_ct' (a b : Bd) (ha : a.Ok) (hb : b.Ok) (s : Hp) : Ct Try.prog 30 [a.v, b.v] s (fun v _ => v = (a.sub b).v) := by
  refine o_rsub_ct (a.l ++ b.l) [] [] rfl rfl rfl rfl (fun w0 => ?_)
  unfold Bd.Ok at ha hb
  unfold o_rsub
  conv => arg 5; simp only [Bd.l, List.cons_append, List.nil_append]
  iterate 6 (refine vc_need (by simp only [BE.den, IE.den, SV.den, SV.dens, List.getD_cons_zero, List.getD_cons_succ, List.cons_append, List.nil_append, List.append_assoc, ltB_true, leB_true, eqB_true, ltB_false, leB_false, eqB_false, Bool.not_eq_true', Bool.not_eq_false', Bool.and_eq_true, Bool.or_eq_true, Bool.and_eq_false_iff, Bool.or_eq_false_iff]; omega) (fun _ => ?_))
  exact vc_ret (fun _ _ _ _ => rfl)

def yS (S : Bd) (n : Nat) : List Value := [(S.unr n).v, (S.sub (S.unr n)).v]
def ysS (S : Bd) : List (List Value) := (List.range (halves S).length).map (yS S)
theorem ysS_get {S : Bd} {k : Nat} (h : k < (halves S).length) : (ysS S)[k]? = some (yS S k) := by simp [ysS, h]
theorem ysS_len (S : Bd) : (ysS S).length = (halves S).length := by simp [ysS]
theorem halves_ok {S : Bd} (h : S.Ok) : halves S = Lk S 6 := by unfold halves; rw [if_pos (Bd.check_zero.2 h)]

theorem splits1_iter (S : Bd) (hp : Hp) (b : Nat) (hk : KnB hp b S) : IterCt Try.prog 41 [.pointer (some ⟨b, 0, none⟩)] hp (ysS S) := by
  refine iter_ct1 (c := cl true [] []) (fn := fnOf Try.f41) (Q := fun _ _ => True) (is := []) (bs := []) (vs := [.pointer (some ⟨b, 0, none⟩)]) (args := [.va 0, .pa 1 0]) (progOkL _ _ _) rfl Try.func41 rfl 5000 (fun L => by simp [SV.dens, SV.den, addrOf, Addr.add, yv]) rfl ?_
  intro L JJ Z B hY
  show VC _ _ _ (run (cl true [] []) (fnOf Try.f41) 5000 (startCfg Try.f41.ntmps [.va 0, .pa 1 0] 0 0 2)) _ _
  rw [q1_eq]
  unfold q1
  have hrd : ∀ (s' : Hp), hp.le s' → Reads s' (.pointer (some ⟨b, 0, none⟩)) S.cs := fun s' hs => ⟨b, 0, rfl, fun j u hj => by simpa using hs _ _ _ (hk j u hj)⟩
  have hpa : ∀ (v : Value) (f : Value), SV.den ⟨[], [], [v, .pointer (some ⟨b, 0, none⟩), f], []⟩ id (.pa 1 0) = .pointer (some ⟨b, 0, none⟩) := fun v f => by simp [SV.den, addrOf, Addr.add]
  refine vc_load S.l [] [] S.cs (by simpa [SV.den, addrOf, Addr.add] using hrd hp (Hp.le_refl _)) rfl rfl rfl rfl rfl ?_
  conv => arg 5; simp only [List.cons_append, List.nil_append, List.append_nil, Bd.l]
  obtain ⟨ck, hck⟩ : ∃ k, k = S.check := ⟨_, rfl⟩
  have hct : ∀ s1, Ct Try.prog 17 [S.v] s1 (fun v _ => v = .int .i64 ck) := fun s1 => by rw [hck]; exact check_ct _ s1
  refine vc_call _ _ [ck] [] [] (fun s1 _ => hct s1) (fun _ => rfl) rfl rfl rfl rfl rfl (fun s1 hs1 => ?_)
  conv => arg 5; simp only [List.cons_append, List.nil_append, List.append_nil]
  have hok := Bd.check_zero (s := S)
  rw [← hck] at hok
  refine vc_ite (fun h => ?_) (fun h => ?_) <;> simp only [BE.den, IE.den, SV.den, SV.dens, List.getD_cons_zero, List.getD_cons_succ, List.cons_append, List.nil_append, List.append_assoc, ltB_true, leB_true, eqB_true, ltB_false, leB_false, eqB_false, Bool.not_eq_true', Bool.not_eq_false', Bool.and_eq_true, Bool.or_eq_true, Bool.and_eq_false_iff, Bool.or_eq_false_iff] at h
  · refine vc_stop ⟨rfl, goesB_ret (fn := fnOf Try.f41) (Q := fun _ _ => True) Try.func41 rfl (.inr ⟨_, _, rfl, by kernel_rfl⟩) (fun E w hj => ⟨_, rfl, E, .inl ?_⟩)⟩
    have h0 : halves S = [] := by unfold halves; rw [if_neg (by rw [← hck]; exact h)]
    have : (ysS S).length = 0 := by rw [ysS_len, h0]; rfl
    rw [this]; exact hj
  have hS := hok.1 h
  refine vc_load S.l [] [] S.cs (by simpa [SV.den, addrOf, Addr.add] using hrd s1 hs1) rfl rfl rfl rfl rfl ?_
  conv => arg 5; simp only [List.cons_append, List.nil_append, List.append_nil, Bd.l]
  -- what the iterator knows is what it knew at its start
  refine vc_callV _ _ (fun s2 _ => each_ct S hS s2) (fun v s' h => h.fine) (fun _ => rfl) rfl (fun fv s2 hs2 hf => vc_stop ⟨rfl, ?_⟩)
  have hle2 : hp.le s2 := Hp.le_trans hs1 hs2
  refine goesB_range (fn := fnOf Try.f41) Try.func41 rfl hY (p := [false, true, true, true]) (gop := rf1 (sub (fnOf Try.f41).body [false, true, true, true])) (ps := rf2 (sub (fnOf Try.f41).body [false, true, true, true])) (assign := rf3 (sub (fnOf Try.f41).body [false, true, true, true])) (bodyc := rf4 (sub (fnOf Try.f41).body [false, true, true, true]))
    (by kernel_rfl) rfl (m := 0) rfl rfl (n := 2) (by kernel_rfl) hf (by rw [List.length_map, ysS_len, halves_ok hS]) [b6 13] 6 0 0 (by kernel_rfl) (by kernel_rfl) q2_s (by kernel_rfl) (by kernel_rfl) ?_
  intro k args hargs
  rw [List.getElem?_map, Option.map_eq_some_iff] at hargs
  obtain ⟨x', hx', rfl⟩ := hargs
  have hkl : k < (Lk S 6).length := (List.getElem?_eq_some_iff.1 hx').1
  obtain ⟨hget, _⟩ := Lk_next hS hkl
  rw [hget] at hx'
  simp only [Option.some.injEq] at hx'
  subst hx'
  have hxok := (unr_in hS k).1
  have hys : (ysS S)[k]? = some (yS S k) := ysS_get (by rw [halves_ok hS]; exact hkl)
  unfold yS at hys
  generalize S.unr (k : Int) = x at *
  refine ⟨x.l, [], [], rfl, rfl, rfl, rfl, ?_⟩
  intro b0 sp Bp L' R J Jb Jt Jf hs hb0 kit
  refine ⟨fun β => rfl, ?_⟩
  have hle3 : hp.le sp := Hp.le_trans hle2 hs
  have hnd : noDefer (fnOf Try.f41).body = true := by kernel_rfl
  refine goesF_run (fn := fnOf Try.f41) (c := cl true [] []) (Q := fun _ _ => True) (progOkL _ _ _) rfl hnd kit.sj 5000 ?_
  rw [q2_eq]
  unfold q2
  refine vc_stop ⟨rfl, kit.begin _ _ rfl ?_⟩
  show GoesF _ _ _ _ _ _ _ q3_s _
  refine goesF_run (fn := fnOf Try.f41) (c := cl true [] [([false, false, true, false, true, true, true], 9999)]) (Q := fun _ _ => True) (progOkL _ _ _) rfl hnd kit.sb 5000 ?_
  rw [q3_eq]
  unfold q3
  refine vc_stop ⟨rfl, ?_⟩
  show GoesF _ _ _ _ _ _ _ q4_s _
  refine goesF_orders (fn := fnOf Try.f41) (progOkL true [] []) kit.sb (p := [false, false, true, false, true, true, true]) rfl (by kernel_rfl) (fun l hl => ?_)
  refine goesF_run (fn := fnOf Try.f41) (c := cl true [] [([false, false, true, false, true, true, true], 5)]) (Q := fun _ _ => True) (progOkL _ _ _) rfl hnd kit.sb 5000 ?_
  obtain ⟨y, hy⟩ : ∃ y, y = S.sub x := ⟨_, rfl⟩
  rw [← hy] at hys
  have hct : ∀ s1, Ct Try.prog 29 [S.v, x.v] s1 (fun v _ => v = y.v) := fun s1 => by rw [hy]; exact spsub_ct S x hS hxok s1
  have hfin : ∀ (s3 : Hp), GoesF Try.prog (41, some L') (fnOf Try.f41).body sp Bp R Jb q4_y ⟨S.l ++ [ck] ++ S.l ++ x.l ++ S.l ++ y.l, [], [yv L, .pointer (some ⟨b, 0, none⟩), fv, .pointer (some ⟨b0, 0, none⟩), yv L], []⟩ := by
    intro s3
    refine kit.yld _ _ q5_s q6_s 4 [b6 13, b6 25] _ (by kernel_rfl) (by kernel_rfl) rfl (fun β => rfl) hys ?_ ?_
    · refine goesF_run (fn := fnOf Try.f41) (c := cl true [] []) (Q := fun _ _ => True) (progOkL _ _ _) rfl hnd kit.st 5000 ?_
      rw [q5_eq]
      unfold q5
      exact vc_stop ⟨rfl, kit.last _ _ rfl⟩
    · refine goesF_run (fn := fnOf Try.f41) (c := cl true [] []) (Q := fun _ _ => True) (progOkL _ _ _) rfl hnd kit.sf 5000 ?_
      rw [q6_eq]
      unfold q6
      exact vc_stop ⟨rfl, kit.ret _ _ _ _ rfl (by kernel_rfl)⟩
  have rdS : ∀ (s3 : Hp), sp.le s3 → Reads s3 (.pointer (some ⟨b, 0, none⟩)) S.cs := fun s3 h3 => hrd s3 (Hp.le_trans hle3 h3)
  have rdY : ∀ (s3 : Hp), sp.le s3 → Reads s3 (.pointer (some ⟨b0, 0, none⟩)) [yv L] := fun s3 h3 => ⟨b0, 0, rfl, fun j u hj => by
    match j with
    | 0 => simp only [List.getElem?_cons_zero, Option.some.injEq] at hj; subst hj; exact h3 _ _ _ hb0
    | j + 1 => simp at hj⟩
  rcases q4_all l hl with h | h | h
  all_goals rw [h]
  · unfold q4_0
    refine vc_load [] [] [yv L] [yv L] (by simpa [SV.den, addrOf, Addr.add] using rdY sp (Hp.le_refl _)) rfl rfl rfl rfl rfl ?_
    conv => arg 5; simp only [List.cons_append, List.nil_append, List.append_nil, Bd.l]
    refine vc_load S.l [] [] S.cs (by simpa [SV.den, addrOf, Addr.add] using rdS sp (Hp.le_refl _)) rfl rfl rfl rfl rfl ?_
    conv => arg 5; simp only [List.cons_append, List.nil_append, List.append_nil, Bd.l]
    refine vc_call _ _ y.l [] [] (fun s1 _ => hct s1) (fun _ => rfl) rfl rfl rfl rfl rfl (fun s3 hs3 => vc_stop ⟨rfl, ?_⟩)
    exact hfin s3
  · unfold q4_1
    refine vc_load S.l [] [] S.cs (by simpa [SV.den, addrOf, Addr.add] using rdS sp (Hp.le_refl _)) rfl rfl rfl rfl rfl ?_
    conv => arg 5; simp only [List.cons_append, List.nil_append, List.append_nil, Bd.l]
    refine vc_load [] [] [yv L] [yv L] (by simpa [SV.den, addrOf, Addr.add] using rdY sp (Hp.le_refl _)) rfl rfl rfl rfl rfl ?_
    conv => arg 5; simp only [List.cons_append, List.nil_append, List.append_nil, Bd.l]
    refine vc_call _ _ y.l [] [] (fun s1 _ => hct s1) (fun _ => rfl) rfl rfl rfl rfl rfl (fun s3 hs3 => vc_stop ⟨rfl, ?_⟩)
    exact hfin s3
  · unfold q4_2
    refine vc_load S.l [] [] S.cs (by simpa [SV.den, addrOf, Addr.add] using rdS sp (Hp.le_refl _)) rfl rfl rfl rfl rfl ?_
    conv => arg 5; simp only [List.cons_append, List.nil_append, List.append_nil, Bd.l]
    refine vc_call _ _ y.l [] [] (fun s1 _ => hct s1) (fun _ => rfl) rfl rfl rfl rfl rfl (fun s3 hs3 => ?_)
    conv => arg 5; simp only [List.cons_append, List.nil_append, List.append_nil, Bd.l]
    refine vc_load [] [] [yv L] [yv L] (by simpa [SV.den, addrOf, Addr.add] using rdY s3 hs3) rfl rfl rfl rfl rfl (vc_stop ⟨rfl, ?_⟩)
    exact hfin s3

theorem splits_ct (S : Bd) (sg : Hp) : Ct Try.prog 38 [S.v] sg (fun v s' => SeqIs Try.prog s' v (ysS S)) := by
  refine o_splits_ct S.l [] [] rfl rfl rfl rfl (fun w0 => ?_)
  unfold o_splits
  refine vc_ret (fun β s' hs' hsh => ?_)
  exact ⟨41, [.pointer (some ⟨β 0, 0, none⟩)], rfl, (progOk true [] []).call _ (by kernel_rfl), splits1_iter S s' (β 0) (fun j u hj => hsh 0 _ _ rfl j u hj)⟩

end Go.Proofs.Ytfbhgmnbndlipaa
