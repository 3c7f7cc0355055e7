/- The iterators of package bundle. -/
import Derived.Test.YtbmfegliomkkfaaHB7
import Derived.Test.YtbmfegliomkkfaaHBunN
import Derived.Test.YtbmfegliomkkfaaHSxW
set_option linter.unusedSimpArgs false
set_option linter.unusedVariables false
namespace Go.Proofs.Ytbmfegliomkkfaa
open Go.Sx Go.Bun
def o_follow : Out :=
  (.ite (.lt (.a 5) (.a 11))
  (.need (.and (.le (.l (-9223372036854775808)) (.add (.a 5) (.l 1))) (.le (.add (.a 5) (.l 1)) (.l 9223372036854775807)))
  (.ret (.agg [(.int .i64 (.a 0)), (.int .i64 (.a 1)), (.int .i64 (.a 2)), (.int .i64 (.a 3)), (.int .i64 (.a 4)), (.int .i64 (.add (.a 5) (.l 1)))]) []))
  (.ite (.lt (.a 4) (.a 10))
  (.need (.and (.le (.l (-9223372036854775808)) (.add (.a 4) (.l 1))) (.le (.add (.a 4) (.l 1)) (.l 9223372036854775807)))
  (.ret (.agg [(.int .i64 (.a 0)), (.int .i64 (.a 1)), (.int .i64 (.a 2)), (.int .i64 (.a 3)), (.int .i64 (.add (.a 4) (.l 1))), (.int .i64 (.l 0))]) []))
  (.ite (.lt (.a 3) (.a 9))
  (.need (.and (.le (.l (-9223372036854775808)) (.add (.a 3) (.l 1))) (.le (.add (.a 3) (.l 1)) (.l 9223372036854775807)))
  (.ret (.agg [(.int .i64 (.a 0)), (.int .i64 (.a 1)), (.int .i64 (.a 2)), (.int .i64 (.add (.a 3) (.l 1))), (.int .i64 (.l 0)), (.int .i64 (.l 0))]) []))
  (.ite (.lt (.a 2) (.a 8))
  (.need (.and (.le (.l (-9223372036854775808)) (.add (.a 2) (.l 1))) (.le (.add (.a 2) (.l 1)) (.l 9223372036854775807)))
  (.ret (.agg [(.int .i64 (.a 0)), (.int .i64 (.a 1)), (.int .i64 (.add (.a 2) (.l 1))), (.int .i64 (.l 0)), (.int .i64 (.l 0)), (.int .i64 (.l 0))]) []))
  (.ite (.lt (.a 1) (.a 7))
  (.need (.and (.le (.l (-9223372036854775808)) (.add (.a 1) (.l 1))) (.le (.add (.a 1) (.l 1)) (.l 9223372036854775807)))
  (.ret (.agg [(.int .i64 (.a 0)), (.int .i64 (.add (.a 1) (.l 1))), (.int .i64 (.l 0)), (.int .i64 (.l 0)), (.int .i64 (.l 0)), (.int .i64 (.l 0))]) []))
  (.ite (.lt (.a 0) (.a 6))
  (.need (.and (.le (.l (-9223372036854775808)) (.add (.a 0) (.l 1))) (.le (.add (.a 0) (.l 1)) (.l 9223372036854775807)))
  (.ret (.agg [(.int .i64 (.add (.a 0) (.l 1))), (.int .i64 (.l 0)), (.int .i64 (.l 0)), (.int .i64 (.l 0)), (.int .i64 (.l 0)), (.int .i64 (.l 0))]) []))
  (.ret (.agg [(.int .i64 (.l 0)), (.int .i64 (.l 0)), (.int .i64 (.l 0)), (.int .i64 (.l 0)), (.int .i64 (.l 0)), (.int .i64 (.l 0))]) [])))))))
theorem o_follow_eq : run (cx true [] []) (fnOf Try.f82) 5000 (startCfg Try.f82.ntmps [b6 0, b6 6] 12 0 0) = o_follow := by kernel_rfl
theorem o_follow_ct {Q : Value → Hp → Prop} {s : Hp} (i : List Int) (b : List Bool) (v : List Value) (hi : i.length = 12) (hb : b.length = 0) (hv : v.length = 0) (hok : v.all fineV = true)
    (h : ∀ w0, VC Try.prog Q (Go.Sx.Reach Try.prog 82 (Ret Q s w0) (fnOf Try.f82).body w0 s) o_follow ⟨i, b, v, []⟩ s) : Ct Try.prog 82 (SV.dens ⟨i, b, v, []⟩ id [b6 0, b6 6]) s Q := by
  refine ct_run (fn := fnOf Try.f82) (progOk true [] []) Try.func82 rfl rfl 5000 (fun x hx => List.all_eq_true.1 hok x hx) rfl (fun w0 => ?_)
  rw [hi, hb, hv, o_follow_eq]
  exact h w0

def o_each : Out :=
  (.ret (.fn 81 [(.ptr 0 0)]) [(.cells [(.int .i64 (.a 0)), (.int .i64 (.a 1)), (.int .i64 (.a 2)), (.int .i64 (.a 3)), (.int .i64 (.a 4)), (.int .i64 (.a 5))] 26 true)])
theorem o_each_eq : run (cx true [] []) (fnOf Try.f78) 5000 (startCfg Try.f78.ntmps [b6 0] 6 0 0) = o_each := by kernel_rfl
theorem o_each_ct {Q : Value → Hp → Prop} {s : Hp} (i : List Int) (b : List Bool) (v : List Value) (hi : i.length = 6) (hb : b.length = 0) (hv : v.length = 0) (hok : v.all fineV = true)
    (h : ∀ w0, VC Try.prog Q (Go.Sx.Reach Try.prog 78 (Ret Q s w0) (fnOf Try.f78).body w0 s) o_each ⟨i, b, v, []⟩ s) : Ct Try.prog 78 (SV.dens ⟨i, b, v, []⟩ id [b6 0]) s Q := by
  refine ct_run (fn := fnOf Try.f78) (progOk true [] []) Try.func78 rfl rfl 5000 (fun x hx => List.all_eq_true.1 hok x hx) rfl (fun w0 => ?_)
  rw [hi, hb, hv, o_each_eq]
  exact h w0

def o_all : Out :=
  (.call 76 [(.agg [(.int .i64 (.a 0)), (.int .i64 (.a 1)), (.int .i64 (.a 2)), (.int .i64 (.a 3)), (.int .i64 (.a 4)), (.int .i64 (.a 5))])] [] (.int .i64 (.a 6)) 1 0 0
  (.ite (.eq (.a 6) (.l 0))
  (.ret (.fn 77 []) [])
  (.call 78 [(.agg [(.int .i64 (.a 0)), (.int .i64 (.a 1)), (.int .i64 (.a 2)), (.int .i64 (.a 3)), (.int .i64 (.a 4)), (.int .i64 (.a 5))])] [] (.va 0) 0 0 1
  (.ret (.va 0) []))))
theorem o_all_eq : run (cx true [] []) (fnOf Try.f57) 5000 (startCfg Try.f57.ntmps [b6 0] 6 0 0) = o_all := by kernel_rfl
theorem o_all_ct {Q : Value → Hp → Prop} {s : Hp} (i : List Int) (b : List Bool) (v : List Value) (hi : i.length = 6) (hb : b.length = 0) (hv : v.length = 0) (hok : v.all fineV = true)
    (h : ∀ w0, VC Try.prog Q (Go.Sx.Reach Try.prog 57 (Ret Q s w0) (fnOf Try.f57).body w0 s) o_all ⟨i, b, v, []⟩ s) : Ct Try.prog 57 (SV.dens ⟨i, b, v, []⟩ id [b6 0]) s Q := by
  refine ct_run (fn := fnOf Try.f57) (progOk true [] []) Try.func57 rfl rfl 5000 (fun x hx => List.all_eq_true.1 hok x hx) rfl (fun w0 => ?_)
  rw [hi, hb, hv, o_all_eq]
  exact h w0

def e1_s : Cfg :=
  { todo := [(.code [])], sl := [(.va 0), (.pa 1 0), .undef, .undef, .undef, .undef, .undef, .undef, .undef, .undef, .undef, .undef, .undef, .undef], H := [], ni := 0, nb := 0, nv := 2, nj := 0 }
def e1 : Out :=
  (.stop { todo := [(.code [false, false, true]), (.inLoop [false, false, true]), (.inBlock 0)], sl := [(.va 0), (.pa 1 0), .undef, (.ptr 0 0), (.agg [(.int .i64 (.l 0)), (.int .i64 (.l 0)), (.int .i64 (.l 0)), (.int .i64 (.l 0)), (.int .i64 (.l 0)), (.int .i64 (.l 0))]), .undef, .undef, .undef, .undef, .undef, .undef, .undef, .undef, .undef], H := [(.cells [(.int .i64 (.l 0)), (.int .i64 (.l 0)), (.int .i64 (.l 0)), (.int .i64 (.l 0)), (.int .i64 (.l 0)), (.int .i64 (.l 0))] 26 false)], ni := 0, nb := 0, nv := 2, nj := 0 })
theorem e1_eq : run (cl true [[false, false, true]] [([false, false, false, false, true], 2)]) (fnOf Try.f81) 5000 e1_s = e1 := by kernel_rfl
theorem e1_go {J : (Nat → Prop) → World → Prop} {R : Ending → World → Prop} {s : Hp} {B : Nat} (hJ : StabJ J) {r : Env}
    (h : VC Try.prog (fun _ _ => True) (fun g' r' _ => okStop g' = true ∧ GoesI Try.prog 81 (fnOf Try.f81).body s B R J g' r') e1 r s) : GoesI Try.prog 81 (fnOf Try.f81).body s B R J e1_s r := by
  refine goesI_run (fn := fnOf Try.f81) (c := (cl true [[false, false, true]] [([false, false, false, false, true], 2)])) (Q := fun _ _ => True) (progOkL _ _ _) rfl hJ 5000 ?_
  show VC _ _ _ (run (cl true [[false, false, true]] [([false, false, false, false, true], 2)]) (fnOf Try.f81) 5000 e1_s) _ _
  rw [e1_eq]
  exact h
def e1_a0 : Asg := -- pattern 0, fits true
  ⟨[(.l 0), (.l 0), (.l 0), (.l 0), (.l 0), (.l 0)], [], [(.va 0), (.va 1)], [(.agg [(.int .i64 (.l 0)), (.int .i64 (.l 0)), (.int .i64 (.l 0)), (.int .i64 (.l 0)), (.int .i64 (.l 0)), (.int .i64 (.l 0))]), .undef, .undef, .undef, .undef, .undef, .undef, .undef, .undef, .undef]⟩
def e1_p0_s : Cfg :=
  { todo := [(.code [false, false, true]), (.inLoop [false, false, true]), (.inBlock 0)], sl := [(.va 0), (.pa 1 0), .undef, (.ptr 0 0), (.junk 0), (.junk 1), (.junk 2), (.junk 3), (.junk 4), (.junk 5), (.junk 6), (.junk 7), (.junk 8), (.junk 9)], H := [(.cells [(.int .i64 (.a 0)), (.int .i64 (.a 1)), (.int .i64 (.a 2)), (.int .i64 (.a 3)), (.int .i64 (.a 4)), (.int .i64 (.a 5))] 26 false)], ni := 6, nb := 0, nv := 2, nj := 10 }
def e1_p0 : Out :=
  (.stop { todo := [(.reg [false, false, false, false, true] [2]), (.code [true, false, false, false, true]), (.code [true, false, false, true]), (.inLoop [false, false, true]), (.inBlock 0)], sl := [(.va 0), (.pa 1 0), .undef, (.ptr 0 0), (.junk 0), (.va 0), (.agg [(.int .i64 (.a 0)), (.int .i64 (.a 1)), (.int .i64 (.a 2)), (.int .i64 (.a 3)), (.int .i64 (.a 4)), (.int .i64 (.a 5))]), (.junk 3), (.junk 4), (.junk 5), (.junk 6), (.junk 7), (.junk 8), (.junk 9)], H := [(.cells [(.int .i64 (.a 0)), (.int .i64 (.a 1)), (.int .i64 (.a 2)), (.int .i64 (.a 3)), (.int .i64 (.a 4)), (.int .i64 (.a 5))] 26 false)], ni := 6, nb := 0, nv := 2, nj := 10 })
theorem e1_p0_eq : run (cl true [[false, false, true]] [([false, false, false, false, true], 2)]) (fnOf Try.f81) 5000 e1_p0_s = e1_p0 := by kernel_rfl
theorem e1_p0_go {J : (Nat → Prop) → World → Prop} {R : Ending → World → Prop} {s : Hp} {B : Nat} (hJ : StabJ J) {r : Env}
    (h : VC Try.prog (fun _ _ => True) (fun g' r' _ => okStop g' = true ∧ GoesI Try.prog 81 (fnOf Try.f81).body s B R J g' r') e1_p0 r s) : GoesI Try.prog 81 (fnOf Try.f81).body s B R J e1_p0_s r := by
  refine goesI_run (fn := fnOf Try.f81) (c := (cl true [[false, false, true]] [([false, false, false, false, true], 2)])) (Q := fun _ _ => True) (progOkL _ _ _) rfl hJ 5000 ?_
  show VC _ _ _ (run (cl true [[false, false, true]] [([false, false, false, false, true], 2)]) (fnOf Try.f81) 5000 e1_p0_s) _ _
  rw [e1_p0_eq]
  exact h
def e1_p0_y0 : Cfg :=
  { todo := [(.reg [false, false, false, false, true] [2]), (.code [true, false, false, false, true]), (.code [true, false, false, true]), (.inLoop [false, false, true]), (.inBlock 0)], sl := [(.va 0), (.pa 1 0), .undef, (.ptr 0 0), (.junk 0), (.va 0), (.agg [(.int .i64 (.a 0)), (.int .i64 (.a 1)), (.int .i64 (.a 2)), (.int .i64 (.a 3)), (.int .i64 (.a 4)), (.int .i64 (.a 5))]), (.junk 3), (.junk 4), (.junk 5), (.junk 6), (.junk 7), (.junk 8), (.junk 9)], H := [(.cells [(.int .i64 (.a 0)), (.int .i64 (.a 1)), (.int .i64 (.a 2)), (.int .i64 (.a 3)), (.int .i64 (.a 4)), (.int .i64 (.a 5))] 26 false)], ni := 6, nb := 0, nv := 2, nj := 10 }
def e1_p0_t0_s : Cfg :=
  { todo := [(.reg [false, false, false, false, true] []), (.code [true, false, false, false, true]), (.code [true, false, false, true]), (.inLoop [false, false, true]), (.inBlock 0)], sl := [(.va 0), (.pa 1 0), .undef, (.ptr 0 0), (.junk 0), (.va 0), (.agg [(.int .i64 (.a 0)), (.int .i64 (.a 1)), (.int .i64 (.a 2)), (.int .i64 (.a 3)), (.int .i64 (.a 4)), (.int .i64 (.a 5))]), (.bool (.t true)), (.junk 4), (.junk 5), (.junk 6), (.junk 7), (.junk 8), (.junk 9)], H := [(.cells [(.int .i64 (.a 0)), (.int .i64 (.a 1)), (.int .i64 (.a 2)), (.int .i64 (.a 3)), (.int .i64 (.a 4)), (.int .i64 (.a 5))] 26 false)], ni := 6, nb := 0, nv := 2, nj := 10 }
def e1_p0_t0 : Out :=
  (.load (.pa 1 0) [(.int .i64 (.a 6)), (.int .i64 (.a 7)), (.int .i64 (.a 8)), (.int .i64 (.a 9)), (.int .i64 (.a 10)), (.int .i64 (.a 11))] 6 0 0
  (.call 82 [(.agg [(.int .i64 (.a 0)), (.int .i64 (.a 1)), (.int .i64 (.a 2)), (.int .i64 (.a 3)), (.int .i64 (.a 4)), (.int .i64 (.a 5))]), (.agg [(.int .i64 (.a 6)), (.int .i64 (.a 7)), (.int .i64 (.a 8)), (.int .i64 (.a 9)), (.int .i64 (.a 10)), (.int .i64 (.a 11))])] [] (.agg [(.int .i64 (.a 12)), (.int .i64 (.a 13)), (.int .i64 (.a 14)), (.int .i64 (.a 15)), (.int .i64 (.a 16)), (.int .i64 (.a 17))]) 6 0 0
  (.ite (.and (.eq (.a 12) (.l 0)) (.and (.eq (.a 13) (.l 0)) (.and (.eq (.a 14) (.l 0)) (.and (.eq (.a 15) (.l 0)) (.and (.eq (.a 16) (.l 0)) (.eq (.a 17) (.l 0)))))))
  (.stop { todo := [(.code [false, true, true, false, true, false, false, true]), (.inBlock 1), (.inLoop [false, false, true]), (.inBlock 0)], sl := [(.va 0), (.pa 1 0), .undef, (.ptr 0 0), (.junk 0), (.va 0), (.agg [(.int .i64 (.a 0)), (.int .i64 (.a 1)), (.int .i64 (.a 2)), (.int .i64 (.a 3)), (.int .i64 (.a 4)), (.int .i64 (.a 5))]), (.bool (.t true)), (.agg [(.int .i64 (.a 0)), (.int .i64 (.a 1)), (.int .i64 (.a 2)), (.int .i64 (.a 3)), (.int .i64 (.a 4)), (.int .i64 (.a 5))]), (.agg [(.int .i64 (.a 6)), (.int .i64 (.a 7)), (.int .i64 (.a 8)), (.int .i64 (.a 9)), (.int .i64 (.a 10)), (.int .i64 (.a 11))]), (.agg [(.int .i64 (.a 12)), (.int .i64 (.a 13)), (.int .i64 (.a 14)), (.int .i64 (.a 15)), (.int .i64 (.a 16)), (.int .i64 (.a 17))]), (.agg [(.int .i64 (.a 12)), (.int .i64 (.a 13)), (.int .i64 (.a 14)), (.int .i64 (.a 15)), (.int .i64 (.a 16)), (.int .i64 (.a 17))]), (.agg [(.int .i64 (.l 0)), (.int .i64 (.l 0)), (.int .i64 (.l 0)), (.int .i64 (.l 0)), (.int .i64 (.l 0)), (.int .i64 (.l 0))]), (.bool (.and (.eq (.a 12) (.l 0)) (.and (.eq (.a 13) (.l 0)) (.and (.eq (.a 14) (.l 0)) (.and (.eq (.a 15) (.l 0)) (.and (.eq (.a 16) (.l 0)) (.eq (.a 17) (.l 0))))))))], H := [(.cells [(.int .i64 (.a 12)), (.int .i64 (.a 13)), (.int .i64 (.a 14)), (.int .i64 (.a 15)), (.int .i64 (.a 16)), (.int .i64 (.a 17))] 26 false)], ni := 18, nb := 0, nv := 2, nj := 10 })
  (.stop { todo := [(.code [false, false, true]), (.inLoop [false, false, true]), (.inBlock 0)], sl := [(.va 0), (.pa 1 0), .undef, (.ptr 0 0), (.junk 0), (.va 0), (.agg [(.int .i64 (.a 0)), (.int .i64 (.a 1)), (.int .i64 (.a 2)), (.int .i64 (.a 3)), (.int .i64 (.a 4)), (.int .i64 (.a 5))]), (.bool (.t true)), (.agg [(.int .i64 (.a 0)), (.int .i64 (.a 1)), (.int .i64 (.a 2)), (.int .i64 (.a 3)), (.int .i64 (.a 4)), (.int .i64 (.a 5))]), (.agg [(.int .i64 (.a 6)), (.int .i64 (.a 7)), (.int .i64 (.a 8)), (.int .i64 (.a 9)), (.int .i64 (.a 10)), (.int .i64 (.a 11))]), (.agg [(.int .i64 (.a 12)), (.int .i64 (.a 13)), (.int .i64 (.a 14)), (.int .i64 (.a 15)), (.int .i64 (.a 16)), (.int .i64 (.a 17))]), (.agg [(.int .i64 (.a 12)), (.int .i64 (.a 13)), (.int .i64 (.a 14)), (.int .i64 (.a 15)), (.int .i64 (.a 16)), (.int .i64 (.a 17))]), (.agg [(.int .i64 (.l 0)), (.int .i64 (.l 0)), (.int .i64 (.l 0)), (.int .i64 (.l 0)), (.int .i64 (.l 0)), (.int .i64 (.l 0))]), (.bool (.and (.eq (.a 12) (.l 0)) (.and (.eq (.a 13) (.l 0)) (.and (.eq (.a 14) (.l 0)) (.and (.eq (.a 15) (.l 0)) (.and (.eq (.a 16) (.l 0)) (.eq (.a 17) (.l 0))))))))], H := [(.cells [(.int .i64 (.a 12)), (.int .i64 (.a 13)), (.int .i64 (.a 14)), (.int .i64 (.a 15)), (.int .i64 (.a 16)), (.int .i64 (.a 17))] 26 false)], ni := 18, nb := 0, nv := 2, nj := 10 }))))
theorem e1_p0_t0_eq : run (cl true [[false, false, true]] [([false, false, false, false, true], 2)]) (fnOf Try.f81) 5000 e1_p0_t0_s = e1_p0_t0 := by kernel_rfl
theorem e1_p0_t0_go {J : (Nat → Prop) → World → Prop} {R : Ending → World → Prop} {s : Hp} {B : Nat} (hJ : StabJ J) {r : Env}
    (h : VC Try.prog (fun _ _ => True) (fun g' r' _ => okStop g' = true ∧ GoesI Try.prog 81 (fnOf Try.f81).body s B R J g' r') e1_p0_t0 r s) : GoesI Try.prog 81 (fnOf Try.f81).body s B R J e1_p0_t0_s r := by
  refine goesI_run (fn := fnOf Try.f81) (c := (cl true [[false, false, true]] [([false, false, false, false, true], 2)])) (Q := fun _ _ => True) (progOkL _ _ _) rfl hJ 5000 ?_
  show VC _ _ _ (run (cl true [[false, false, true]] [([false, false, false, false, true], 2)]) (fnOf Try.f81) 5000 e1_p0_t0_s) _ _
  rw [e1_p0_t0_eq]
  exact h
def e1_p0_t0_a1 : Asg := -- pattern 0, fits true
  ⟨[(.a 12), (.a 13), (.a 14), (.a 15), (.a 16), (.a 17)], [], [(.va 0), (.va 1)], [(.junk 0), (.va 0), (.agg [(.int .i64 (.a 0)), (.int .i64 (.a 1)), (.int .i64 (.a 2)), (.int .i64 (.a 3)), (.int .i64 (.a 4)), (.int .i64 (.a 5))]), (.bool (.t true)), (.agg [(.int .i64 (.a 0)), (.int .i64 (.a 1)), (.int .i64 (.a 2)), (.int .i64 (.a 3)), (.int .i64 (.a 4)), (.int .i64 (.a 5))]), (.agg [(.int .i64 (.a 6)), (.int .i64 (.a 7)), (.int .i64 (.a 8)), (.int .i64 (.a 9)), (.int .i64 (.a 10)), (.int .i64 (.a 11))]), (.agg [(.int .i64 (.a 12)), (.int .i64 (.a 13)), (.int .i64 (.a 14)), (.int .i64 (.a 15)), (.int .i64 (.a 16)), (.int .i64 (.a 17))]), (.agg [(.int .i64 (.a 12)), (.int .i64 (.a 13)), (.int .i64 (.a 14)), (.int .i64 (.a 15)), (.int .i64 (.a 16)), (.int .i64 (.a 17))]), (.agg [(.int .i64 (.l 0)), (.int .i64 (.l 0)), (.int .i64 (.l 0)), (.int .i64 (.l 0)), (.int .i64 (.l 0)), (.int .i64 (.l 0))]), (.bool (.and (.eq (.a 12) (.l 0)) (.and (.eq (.a 13) (.l 0)) (.and (.eq (.a 14) (.l 0)) (.and (.eq (.a 15) (.l 0)) (.and (.eq (.a 16) (.l 0)) (.eq (.a 17) (.l 0))))))))]⟩
def e1_p0_f0_s : Cfg :=
  { todo := [(.reg [false, false, false, false, true] []), (.code [true, false, false, false, true]), (.code [true, false, false, true]), (.inLoop [false, false, true]), (.inBlock 0)], sl := [(.va 0), (.pa 1 0), .undef, (.ptr 0 0), (.junk 0), (.va 0), (.agg [(.int .i64 (.a 0)), (.int .i64 (.a 1)), (.int .i64 (.a 2)), (.int .i64 (.a 3)), (.int .i64 (.a 4)), (.int .i64 (.a 5))]), (.bool (.t false)), (.junk 4), (.junk 5), (.junk 6), (.junk 7), (.junk 8), (.junk 9)], H := [(.cells [(.int .i64 (.a 0)), (.int .i64 (.a 1)), (.int .i64 (.a 2)), (.int .i64 (.a 3)), (.int .i64 (.a 4)), (.int .i64 (.a 5))] 26 false)], ni := 6, nb := 0, nv := 2, nj := 10 }
def e1_p0_f0 : Out :=
  (.stop { todo := [], sl := [(.va 0), (.pa 1 0), .undef, (.ptr 0 0), (.junk 0), (.va 0), (.agg [(.int .i64 (.a 0)), (.int .i64 (.a 1)), (.int .i64 (.a 2)), (.int .i64 (.a 3)), (.int .i64 (.a 4)), (.int .i64 (.a 5))]), (.bool (.t false)), (.junk 4), (.junk 5), (.junk 6), (.junk 7), (.junk 8), (.junk 9)], H := [(.cells [(.int .i64 (.a 0)), (.int .i64 (.a 1)), (.int .i64 (.a 2)), (.int .i64 (.a 3)), (.int .i64 (.a 4)), (.int .i64 (.a 5))] 26 false)], ni := 6, nb := 0, nv := 2, nj := 10 })
theorem e1_p0_f0_eq : run (cl true [[false, false, true]] [([false, false, false, false, true], 2)]) (fnOf Try.f81) 5000 e1_p0_f0_s = e1_p0_f0 := by kernel_rfl
theorem e1_p0_f0_go {J : (Nat → Prop) → World → Prop} {R : Ending → World → Prop} {s : Hp} {B : Nat} (hJ : StabJ J) {r : Env}
    (h : VC Try.prog (fun _ _ => True) (fun g' r' _ => okStop g' = true ∧ GoesI Try.prog 81 (fnOf Try.f81).body s B R J g' r') e1_p0_f0 r s) : GoesI Try.prog 81 (fnOf Try.f81).body s B R J e1_p0_f0_s r := by
  refine goesI_run (fn := fnOf Try.f81) (c := (cl true [[false, false, true]] [([false, false, false, false, true], 2)])) (Q := fun _ _ => True) (progOkL _ _ _) rfl hJ 5000 ?_
  show VC _ _ _ (run (cl true [[false, false, true]] [([false, false, false, false, true], 2)]) (fnOf Try.f81) 5000 e1_p0_f0_s) _ _
  rw [e1_p0_f0_eq]
  exact h

def a1_s : Cfg :=
  { todo := [(.code [])], sl := [(.va 0), .undef], H := [], ni := 0, nb := 0, nv := 1, nj := 0 }
def a1 : Out :=
  (.stop { todo := [], sl := [(.va 0), .undef], H := [], ni := 0, nb := 0, nv := 1, nj := 0 })
theorem a1_eq : run (cl true [] []) (fnOf Try.f77) 5000 a1_s = a1 := by kernel_rfl
theorem a1_go {J : (Nat → Prop) → World → Prop} {R : Ending → World → Prop} {s : Hp} {B : Nat} (hJ : StabJ J) {r : Env}
    (h : VC Try.prog (fun _ _ => True) (fun g' r' _ => okStop g' = true ∧ GoesI Try.prog 77 (fnOf Try.f77).body s B R J g' r') a1 r s) : GoesI Try.prog 77 (fnOf Try.f77).body s B R J a1_s r := by
  refine goesI_run (fn := fnOf Try.f77) (c := (cl true [] [])) (Q := fun _ _ => True) (progOkL _ _ _) rfl hJ 5000 ?_
  show VC _ _ _ (run (cl true [] []) (fnOf Try.f77) 5000 a1_s) _ _
  rw [a1_eq]
  exact h


theorem follow_ct (b s : Bd) (hb : b.Ok) (hs : s.Ok) (sg : Hp) : Ct Try.prog 82 [b.v, s.v] sg (fun v _ => v = (s.next b).v) := by
  refine o_follow_ct (b.l ++ s.l) [] [] rfl rfl rfl rfl (fun w0 => ?_)
  unfold Bd.Ok at hs hb
  unfold o_follow
  conv => arg 5; simp only [Bd.l, List.cons_append, List.nil_append]
  unfold Bd.next
  refine vc_ite (fun h => ?_) (fun h => ?_) <;> simp only [BE.den, IE.den, SV.den, SV.dens, List.getD_cons_zero, List.getD_cons_succ, List.cons_append, List.nil_append, List.append_assoc, ltB_true, leB_true, eqB_true, ltB_false, leB_false, eqB_false, Bool.not_eq_true', Bool.not_eq_false', Bool.and_eq_true, Bool.or_eq_true, Bool.and_eq_false_iff, Bool.or_eq_false_iff] at h
  · exact vc_need (by simp only [BE.den, IE.den, SV.den, SV.dens, List.getD_cons_zero, List.getD_cons_succ, List.cons_append, List.nil_append, List.append_assoc, ltB_true, leB_true, eqB_true, ltB_false, leB_false, eqB_false, Bool.not_eq_true', Bool.not_eq_false', Bool.and_eq_true, Bool.or_eq_true, Bool.and_eq_false_iff, Bool.or_eq_false_iff]; omega) (fun _ => vc_ret (fun β s' _ _ => by rw [if_pos h]; rfl))
  rw [if_neg h]
  refine vc_ite (fun h => ?_) (fun h => ?_) <;> simp only [BE.den, IE.den, SV.den, SV.dens, List.getD_cons_zero, List.getD_cons_succ, List.cons_append, List.nil_append, List.append_assoc, ltB_true, leB_true, eqB_true, ltB_false, leB_false, eqB_false, Bool.not_eq_true', Bool.not_eq_false', Bool.and_eq_true, Bool.or_eq_true, Bool.and_eq_false_iff, Bool.or_eq_false_iff] at h
  · exact vc_need (by simp only [BE.den, IE.den, SV.den, SV.dens, List.getD_cons_zero, List.getD_cons_succ, List.cons_append, List.nil_append, List.append_assoc, ltB_true, leB_true, eqB_true, ltB_false, leB_false, eqB_false, Bool.not_eq_true', Bool.not_eq_false', Bool.and_eq_true, Bool.or_eq_true, Bool.and_eq_false_iff, Bool.or_eq_false_iff]; omega) (fun _ => vc_ret (fun β s' _ _ => by rw [if_pos h]; rfl))
  rw [if_neg h]
  refine vc_ite (fun h => ?_) (fun h => ?_) <;> simp only [BE.den, IE.den, SV.den, SV.dens, List.getD_cons_zero, List.getD_cons_succ, List.cons_append, List.nil_append, List.append_assoc, ltB_true, leB_true, eqB_true, ltB_false, leB_false, eqB_false, Bool.not_eq_true', Bool.not_eq_false', Bool.and_eq_true, Bool.or_eq_true, Bool.and_eq_false_iff, Bool.or_eq_false_iff] at h
  · exact vc_need (by simp only [BE.den, IE.den, SV.den, SV.dens, List.getD_cons_zero, List.getD_cons_succ, List.cons_append, List.nil_append, List.append_assoc, ltB_true, leB_true, eqB_true, ltB_false, leB_false, eqB_false, Bool.not_eq_true', Bool.not_eq_false', Bool.and_eq_true, Bool.or_eq_true, Bool.and_eq_false_iff, Bool.or_eq_false_iff]; omega) (fun _ => vc_ret (fun β s' _ _ => by rw [if_pos h]; rfl))
  rw [if_neg h]
  refine vc_ite (fun h => ?_) (fun h => ?_) <;> simp only [BE.den, IE.den, SV.den, SV.dens, List.getD_cons_zero, List.getD_cons_succ, List.cons_append, List.nil_append, List.append_assoc, ltB_true, leB_true, eqB_true, ltB_false, leB_false, eqB_false, Bool.not_eq_true', Bool.not_eq_false', Bool.and_eq_true, Bool.or_eq_true, Bool.and_eq_false_iff, Bool.or_eq_false_iff] at h
  · exact vc_need (by simp only [BE.den, IE.den, SV.den, SV.dens, List.getD_cons_zero, List.getD_cons_succ, List.cons_append, List.nil_append, List.append_assoc, ltB_true, leB_true, eqB_true, ltB_false, leB_false, eqB_false, Bool.not_eq_true', Bool.not_eq_false', Bool.and_eq_true, Bool.or_eq_true, Bool.and_eq_false_iff, Bool.or_eq_false_iff]; omega) (fun _ => vc_ret (fun β s' _ _ => by rw [if_pos h]; rfl))
  rw [if_neg h]
  refine vc_ite (fun h => ?_) (fun h => ?_) <;> simp only [BE.den, IE.den, SV.den, SV.dens, List.getD_cons_zero, List.getD_cons_succ, List.cons_append, List.nil_append, List.append_assoc, ltB_true, leB_true, eqB_true, ltB_false, leB_false, eqB_false, Bool.not_eq_true', Bool.not_eq_false', Bool.and_eq_true, Bool.or_eq_true, Bool.and_eq_false_iff, Bool.or_eq_false_iff] at h
  · exact vc_need (by simp only [BE.den, IE.den, SV.den, SV.dens, List.getD_cons_zero, List.getD_cons_succ, List.cons_append, List.nil_append, List.append_assoc, ltB_true, leB_true, eqB_true, ltB_false, leB_false, eqB_false, Bool.not_eq_true', Bool.not_eq_false', Bool.and_eq_true, Bool.or_eq_true, Bool.and_eq_false_iff, Bool.or_eq_false_iff]; omega) (fun _ => vc_ret (fun β s' _ _ => by rw [if_pos h]; rfl))
  rw [if_neg h]
  refine vc_ite (fun h => ?_) (fun h => ?_) <;> simp only [BE.den, IE.den, SV.den, SV.dens, List.getD_cons_zero, List.getD_cons_succ, List.cons_append, List.nil_append, List.append_assoc, ltB_true, leB_true, eqB_true, ltB_false, leB_false, eqB_false, Bool.not_eq_true', Bool.not_eq_false', Bool.and_eq_true, Bool.or_eq_true, Bool.and_eq_false_iff, Bool.or_eq_false_iff] at h
  · exact vc_need (by simp only [BE.den, IE.den, SV.den, SV.dens, List.getD_cons_zero, List.getD_cons_succ, List.cons_append, List.nil_append, List.append_assoc, ltB_true, leB_true, eqB_true, ltB_false, leB_false, eqB_false, Bool.not_eq_true', Bool.not_eq_false', Bool.and_eq_true, Bool.or_eq_true, Bool.and_eq_false_iff, Bool.or_eq_false_iff]; omega) (fun _ => vc_ret (fun β s' _ _ => by rw [if_pos h]; rfl))
  rw [if_neg h]
  exact vc_ret (fun β s' _ _ => rfl)

def yB (x : List Int) : List Value := [.agg (cI x).toArray]
/-- The supply's cells are known. -/
def KnB (hp : Hp) (b : Nat) (s : Bd) : Prop := ∀ (j : Nat) (u : Value), s.cs[j]? = some u → hp b j = some u

theorem each1_iter (s : Bd) (hs : s.Ok) (hp : Hp) (b : Nat) (hk : KnB hp b s) : IterCt Try.prog 81 [.pointer (some ⟨b, 0, none⟩)] hp ((Lk s 6).map yB) := by
  refine iter_ct (fn := fnOf Try.f81) (is := []) (bs := []) (vs := [.pointer (some ⟨b, 0, none⟩)]) (args := [.va 0, .pa 1 0]) Try.func81 rfl (Hp.le_refl _) (fun L => by simp [SV.dens, SV.den, addrOf, Addr.add, yv]) rfl ?_
  intro L JJ Z B hY
  have hJ : ∀ k, StabJ (JJ k) := fun k => hY.stab k
  have hstart : startCfg Try.f81.ntmps [.va 0, .pa 1 0] 0 0 2 = e1_s := by kernel_rfl
  show GoesI _ _ _ _ _ _ _ (startCfg Try.f81.ntmps [.va 0, .pa 1 0] 0 0 2) _
  rw [hstart]
  have main : ∀ (d n : Nat), n + d = (Lk s 6).length → n < (Lk s 6).length → ∀ js, js.length = 10 →
      GoesI Try.prog 81 (fnOf Try.f81).body hp B (fun e w' => ∃ v, e = .returned v ∧ ∃ E, JJ ((Lk s 6).map yB).length E w' ∨ Z E w') (JJ n) e1_p0_s ⟨(s.unr n).l, [], [yv L, .pointer (some ⟨b, 0, none⟩)], js⟩ := by
    intro d
    induction d with
    | zero => intro n h1 h2; omega
    | succ d ih =>
      intro n h1 h2 js hjs
      obtain ⟨hget, hnx⟩ := Lk_next hs h2
      have hxok : (s.unr n).Ok := (unr_in hs n).1
      generalize hx : s.unr n = x at *
      refine e1_p0_go (hJ n) ?_
      unfold e1_p0
      refine vc_stop ⟨rfl, ?_⟩
      refine goesI_y (fn := fnOf Try.f81) hY (gt := e1_p0_t0_s) (gf := e1_p0_f0_s) (m := 0) (avs := [b6 0]) (by kernel_rfl) (by kernel_rfl) rfl (vals := yB x.l) (fun β => rfl) (by rw [List.getElem?_map, hget]; rfl) ?_ ?_
      · refine e1_p0_t0_go (hJ (n + 1)) ?_
        unfold e1_p0_t0
        refine vc_load s.l [] [] s.cs ⟨b, 0, by simp [SV.den, addrOf, Addr.add], fun j u hj => by simpa using hk j u hj⟩ rfl rfl rfl rfl rfl ?_
        conv => arg 5; simp only [List.cons_append, List.nil_append, List.append_nil, Bd.l]
        obtain ⟨y, hy⟩ : ∃ y, y = s.next x := ⟨_, rfl⟩
        have hct : ∀ s1, Ct Try.prog 82 [x.v, s.v] s1 (fun v _ => v = y.v) := fun s1 => by rw [hy]; exact follow_ct x s hxok hs s1
        refine vc_call _ _ y.l [] [] (fun s1 _ => hct s1) (fun _ => rfl) rfl rfl rfl rfl rfl (fun s1 _ => ?_)
        conv => arg 5; simp only [List.cons_append, List.nil_append, List.append_nil, Bd.l]
        refine vc_ite (fun h => ?_) (fun h => ?_)
        · simp only [BE.den, IE.den, SV.den, SV.dens, List.getD_cons_zero, List.getD_cons_succ, List.cons_append, List.nil_append, List.append_assoc, ltB_true, leB_true, eqB_true, ltB_false, leB_false, eqB_false, Bool.not_eq_true', Bool.not_eq_false', Bool.and_eq_true, Bool.or_eq_true, Bool.and_eq_false_iff, Bool.or_eq_false_iff] at h
          refine vc_stop ⟨rfl, goesI_ret (fn := fnOf Try.f81) Try.func81 rfl (.inr ⟨_, _, rfl, by kernel_rfl⟩) (fun E w hj => ⟨_, rfl, E, .inl ?_⟩)⟩
          rcases hnx with ⟨h3, h4, h5⟩ | ⟨h3, h4⟩
          · exfalso
            rw [← hy] at h5
            apply h5
            obtain ⟨h6, h7, h8, h9, h10, h11⟩ := h
            obtain ⟨ya, yb, yc, yd, ye, yf⟩ := y
            simp only at h6 h7 h8 h9 h10 h11
            subst h6 h7 h8 h9 h10 h11
            rfl
          · rw [List.length_map, ← h3]; exact hj
        · simp only [BE.den, IE.den, SV.den, SV.dens, List.getD_cons_zero, List.getD_cons_succ, List.cons_append, List.nil_append, List.append_assoc, ltB_true, leB_true, eqB_true, ltB_false, leB_false, eqB_false, Bool.not_eq_true', Bool.not_eq_false', Bool.and_eq_true, Bool.or_eq_true, Bool.and_eq_false_iff, Bool.or_eq_false_iff] at h
          rcases hnx with ⟨h3, h4, h5⟩ | ⟨h3, h4⟩
          · rw [← hy] at h4
            refine vc_stop ⟨rfl, goesI_fit (t := e1_p0_s) (A := e1_p0_t0_a1) (hJ (n + 1)) (by kernel_rfl) rfl (fun _ _ _ _ h => by cases h) (fun js' hjs' => ?_)⟩
            have := ih (n + 1) (by omega) h3 js' hjs'
            rw [← h4] at this
            exact this
          · exfalso
            rw [← hy] at h4
            subst h4
            simp [Bd.zero] at h
      · refine e1_p0_f0_go (hY.zstab) ?_
        unfold e1_p0_f0
        exact vc_stop ⟨rfl, goesI_ret (fn := fnOf Try.f81) Try.func81 rfl (.inl rfl) (fun E w hj => ⟨_, rfl, E, .inr hj⟩)⟩
  refine e1_go (hJ 0) ?_
  unfold e1
  refine vc_stop ⟨rfl, ?_⟩
  refine goesI_fit (t := e1_p0_s) (A := e1_a0) (hJ 0) (by kernel_rfl) rfl (fun _ _ _ _ h => by cases h) (fun js hjs => ?_)
  have h0 : 0 < (Lk s 6).length := Lk_pos s 6
  have := main (Lk s 6).length 0 (by omega) h0 js hjs
  rw [Lk_zero s hs] at this
  exact this

theorem all1_iter (hp : Hp) : IterCt Try.prog 77 [] hp [] := by
  refine iter_ct (fn := fnOf Try.f77) (is := []) (bs := []) (vs := []) (args := [.va 0]) Try.func77 rfl (Hp.le_refl _) (fun L => rfl) rfl ?_
  intro L JJ Z B hY
  have hstart : startCfg Try.f77.ntmps [.va 0] 0 0 1 = a1_s := by kernel_rfl
  show GoesI _ _ _ _ _ _ _ (startCfg Try.f77.ntmps [.va 0] 0 0 1) _
  rw [hstart]
  refine a1_go (hY.stab 0) ?_
  unfold a1
  exact vc_stop ⟨rfl, goesI_ret (fn := fnOf Try.f77) Try.func77 rfl (.inl rfl) (fun E w hj => ⟨_, rfl, E, .inl hj⟩)⟩

theorem each_ct (s : Bd) (hs : s.Ok) (sg : Hp) : Ct Try.prog 78 [s.v] sg (fun v s' => SeqIs Try.prog s' v ((Lk s 6).map yB)) := by
  refine o_each_ct s.l [] [] rfl rfl rfl rfl (fun w0 => ?_)
  unfold o_each
  refine vc_ret (fun β s' hs' hsh => ?_)
  refine ⟨81, [.pointer (some ⟨β 0, 0, none⟩)], rfl, (progOk true [] []).call _ (by kernel_rfl), each1_iter s hs s' (β 0) (fun j u hj => hsh 0 _ _ rfl j u hj)⟩

theorem all_ct (s : Bd) (sg : Hp) : Ct Try.prog 57 [s.v] sg (fun v s' => SeqIs Try.prog s' v (s.list.map yB)) := by
  refine o_all_ct s.l [] [] rfl rfl rfl rfl (fun w0 => ?_)
  unfold o_all
  conv => arg 5; simp only [Bd.l, List.cons_append, List.nil_append]
  obtain ⟨n, hn⟩ : ∃ n, n = s.cnt := ⟨_, rfl⟩
  have hct : ∀ s1, Ct Try.prog 76 [s.v] s1 (fun v _ => v = .int .i64 n) := fun s1 => by rw [hn]; exact count_ct s s1
  refine vc_call _ _ [n] [] [] (fun s1 _ => hct s1) (fun _ => rfl) rfl rfl rfl rfl rfl (fun s1 _ => ?_)
  conv => arg 5; simp only [List.cons_append, List.nil_append, List.append_nil, Bd.l]
  refine vc_ite (fun h => ?_) (fun h => ?_)
  · simp only [BE.den, IE.den, SV.den, SV.dens, List.getD_cons_zero, List.getD_cons_succ, List.cons_append, List.nil_append, List.append_assoc, ltB_true, leB_true, eqB_true, ltB_false, leB_false, eqB_false, Bool.not_eq_true', Bool.not_eq_false', Bool.and_eq_true, Bool.or_eq_true, Bool.and_eq_false_iff, Bool.or_eq_false_iff] at h
    refine vc_ret (fun β s' hs' hsh => ?_)
    have e : s.list = [] := by unfold Bd.list; rw [if_pos (by omega)]
    rw [e]
    exact ⟨77, [], rfl, (progOk true [] []).call _ (by kernel_rfl), all1_iter s'⟩
  · simp only [BE.den, IE.den, SV.den, SV.dens, List.getD_cons_zero, List.getD_cons_succ, List.cons_append, List.nil_append, List.append_assoc, ltB_true, leB_true, eqB_true, ltB_false, leB_false, eqB_false, Bool.not_eq_true', Bool.not_eq_false', Bool.and_eq_true, Bool.or_eq_true, Bool.and_eq_false_iff, Bool.or_eq_false_iff] at h
    have hc : s.cnt ≠ 0 := by omega
    have e : s.list = Lk s 6 := by unfold Bd.list; rw [if_neg hc]
    rw [e]
    refine vc_callV _ _ (fun s1 _ => each_ct s (Bd.ok_of_cnt hc) s1) (fun v s' h => h.fine) (fun _ => rfl) rfl (fun v s1 _ hv => ?_)
    exact vc_ret (fun β s' hs' _ => hv.mono hs')

end Go.Proofs.Ytbmfegliomkkfaa
