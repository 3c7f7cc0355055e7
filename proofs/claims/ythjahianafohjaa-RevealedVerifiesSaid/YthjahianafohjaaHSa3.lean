/- The trees of this seat's functions, part 3. Written by txgen.py. -/
import Derived.Test.YthjahianafohjaaHTab
set_option linter.unusedSimpArgs false
set_option linter.unusedVariables false
set_option maxRecDepth 100000
namespace Go.Proofs.Ythjahianafohjaa
open Go.Sx
def saleroomlaw36_RevealedGains_s : PT :=
 (.call 20 [(.agg [(.int .i64 (.a 0)), (.int .i64 (.a 1)), (.int .i64 (.a 2)), (.int .i64 (.a 3)), (.int .i64 (.a 4)), (.int .i64 (.a 5)), (.int .i64 (.a 6)), (.int .i64 (.a 7)), (.int .i64 (.a 8)), (.int .i64 (.a 9)), (.int .i64 (.a 10)), (.int .i64 (.a 11))]), (.agg [(.int .i64 (.a 12)), (.int .i64 (.a 13)), (.int .i64 (.a 14)), (.int .i64 (.a 15)), (.int .i64 (.a 16)), (.int .i64 (.a 17)), (.int .i64 (.a 18)), (.int .i64 (.a 19)), (.int .i64 (.a 20)), (.int .i64 (.a 21)), (.int .i64 (.a 22)), (.int .i64 (.a 23))])] [] [(.one (.int .i64))]
 (.call 21 [(.agg [(.int .i64 (.a 0)), (.int .i64 (.a 1)), (.int .i64 (.a 2)), (.int .i64 (.a 3)), (.int .i64 (.a 4)), (.int .i64 (.a 5)), (.int .i64 (.a 6)), (.int .i64 (.a 7)), (.int .i64 (.a 8)), (.int .i64 (.a 9)), (.int .i64 (.a 10)), (.int .i64 (.a 11))]), (.agg [(.int .i64 (.a 12)), (.int .i64 (.a 13)), (.int .i64 (.a 14)), (.int .i64 (.a 15)), (.int .i64 (.a 16)), (.int .i64 (.a 17)), (.int .i64 (.a 18)), (.int .i64 (.a 19)), (.int .i64 (.a 20)), (.int .i64 (.a 21)), (.int .i64 (.a 22)), (.int .i64 (.a 23))])] [] [(.one (.int .i64))]
 (.ite (.eq (.a 24) (.a 25))
  (.call 14 [] [] [(.one .bool)]
  (.ret false (.bool (.a 0)) []))
  (.ret false (.bool (.t false)) []))))
def saleroomlaw36_RevealedGains_S : Sx.Sys := ⟨[(.sh (.agg [(.int .i64), (.int .i64), (.int .i64), (.int .i64), (.int .i64), (.int .i64), (.int .i64), (.int .i64), (.int .i64), (.int .i64), (.int .i64), (.int .i64)])), (.sh (.agg [(.int .i64), (.int .i64), (.int .i64), (.int .i64), (.int .i64), (.int .i64), (.int .i64), (.int .i64), (.int .i64), (.int .i64), (.int .i64), (.int .i64)]))], saleroomlaw36_RevealedGains_s, []⟩
def saleroomlaw36_RevealedGains_pats : List Cfg := []
theorem saleroomlaw36_RevealedGains_ok : SysOk Try.prog 6 saleroomlaw36_RevealedGains_S := sys_ok (c := (cg [] [] [] false false false true)) (progOkG _ _ _ _ _ _ _) Try.func6 Try.call6 (by kernel_rfl) saleroomlaw36_RevealedGains_pats saleroomlaw36_RevealedGains_S 5000 rfl (by kernel_rfl) (by kernel_rfl)
def saleroomref36_All_s : PT :=
 (.jump 0 [(.l 0)] [] [(.va 0)])
def saleroomref36_All_t0 : PT :=
 (.need (.is 0 0)
 (.ite (.lt (.a 0) (.slen 0))
  (.need (.and (.le (.l 0) (.a 0)) (.lt (.a 0) (.slen 0)))
  (.load false (.ea 0 (.a 0) 12 0) [(.int .i64), (.int .i64), (.int .i64), (.int .i64), (.int .i64), (.int .i64), (.int .i64), (.int .i64), (.int .i64), (.int .i64), (.int .i64), (.int .i64)]
  (.call 44 [(.agg [(.int .i64 (.a 1)), (.int .i64 (.a 2)), (.int .i64 (.a 3)), (.int .i64 (.a 4)), (.int .i64 (.a 5)), (.int .i64 (.a 6)), (.int .i64 (.a 7)), (.int .i64 (.a 8)), (.int .i64 (.a 9)), (.int .i64 (.a 10)), (.int .i64 (.a 11)), (.int .i64 (.a 12))])] [] [(.one .bool)]
  (.ite (.not (.a 0))
   (.ret false (.bool (.t false)) [])
   (.need (.and (.le (.l (-9223372036854775808)) (.add (.a 0) (.l 1))) (.le (.add (.a 0) (.l 1)) (.l 9223372036854775807)))
   (.jump 0 [(.add (.a 0) (.l 1))] [] [(.va 0)]))))))
  (.ret false (.bool (.t true)) [])))
def saleroomref36_All_S : Sx.Sys := ⟨[(.sh (.one .val))], saleroomref36_All_s, [saleroomref36_All_t0]⟩
def saleroomref36_All_pats : List Cfg := [{ todo := [(.code [false, false, true, false, true]), (.inLoop [false, false, true, false, true]), (.inBlock 0), (.code [true, true])], sl := [(.va 0), .undef, (.junk 0), (.int .i64 (.a 0)), (.junk 1), (.junk 2), (.junk 3), (.junk 4), (.junk 5), (.junk 6), (.junk 7), (.junk 8), (.junk 9), (.junk 10), (.junk 11), (.junk 12)], H := [], ni := 1, nb := 0, nv := 1, nj := 13 }]
theorem saleroomref36_All_ok : SysOk Try.prog 17 saleroomref36_All_S := sys_ok (c := (cg [[false, false, true, false, true]] [] [] false false false true)) (progOkG _ _ _ _ _ _ _) Try.func17 Try.call17 (by kernel_rfl) saleroomref36_All_pats saleroomref36_All_S 5000 rfl (by kernel_rfl) (by kernel_rfl)
def saleroomref37_Eligibility_s : PT :=
 (.call 57 [(.agg [(.va 0), (.va 1), (.va 2), (.va 3)]), (.int .i64 (.a 0))] [] [(.one .bool)]
 (.ite (.not (.a 0))
  (.ret false (.int .i64 (.l 0)) [])
  (.need (.and (.le (.l 0) (.a 0)) (.lt (.a 0) (.slen 1)))
  (.load false (.ea 1 (.a 0) 4 3) [(.int .i64)]
  (.jump 0 [(.a 1), (.l 0)] [] [(.va 4), (.va 0), (.va 1), (.va 2), (.va 3)])))))
def saleroomref37_Eligibility_t0 : PT :=
 (.need (.is 0 0)
 (.ite (.lt (.a 1) (.slen 0))
  (.need (.and (.le (.l 0) (.a 1)) (.lt (.a 1) (.slen 0)))
  (.load true (.ea 0 (.a 1) 12 6) [(.int .i64), (.int .i64), (.int .i64), (.int .i64), (.int .i64), (.int .i64)]
  (.call 58 [(.agg [(.va 1), (.va 2), (.va 3), (.va 4)]), (.agg [(.int .i64 (.a 2)), (.int .i64 (.a 3)), (.int .i64 (.a 4)), (.int .i64 (.a 5)), (.int .i64 (.a 6)), (.int .i64 (.a 7))])] [] [(.one (.int .i64))]
  (.need (.and (.le (.l (-9223372036854775808)) (.add (.a 1) (.l 1))) (.le (.add (.a 1) (.l 1)) (.l 9223372036854775807)))
  (.jump 0 [(.mn (.a 0) (.a 8)), (.add (.a 1) (.l 1))] [] [(.va 0), (.va 1), (.va 2), (.va 3), (.va 4)])))))
  (.ret false (.int .i64 (.a 0)) [])))
def saleroomref37_Eligibility_S : Sx.Sys := ⟨[(.sh (.agg [.val, .val, .val, .val])), (.sh (.one (.int .i64))), (.sh (.one .val))], saleroomref37_Eligibility_s, [saleroomref37_Eligibility_t0]⟩
def saleroomref37_Eligibility_pats : List Cfg := [{ todo := [(.code [false, false, true, false, true, true, true]), (.inLoop [false, false, true, false, true, true, true]), (.inBlock 0), (.code [true, true, true, true])], sl := [(.junk 0), (.junk 1), (.va 0), (.ptr 0 0), .undef, .undef, (.junk 2), (.int .i64 (.a 0)), (.int .i64 (.a 1)), (.junk 3), (.junk 4), (.junk 5), (.junk 6), (.junk 7), (.junk 8), (.junk 9), (.junk 10), (.junk 11), (.junk 12), (.junk 13), (.junk 14), (.junk 15), (.junk 16), (.junk 17), (.junk 18), (.junk 19), (.junk 20), (.junk 21), (.junk 22), (.junk 23), (.junk 24), (.junk 25), (.junk 26), (.junk 27), .undef], H := [(.cells [(.va 1), (.va 2), (.va 3), (.va 4)] 53 false)], ni := 2, nb := 0, nv := 5, nj := 28 }]
theorem saleroomref37_Eligibility_ok : SysOk Try.prog 28 saleroomref37_Eligibility_S := sys_ok (c := (cg [[false, false, true, false, true, true, true]] [] [] false false false true)) (progOkG _ _ _ _ _ _ _) Try.func28 Try.call28 (by kernel_rfl) saleroomref37_Eligibility_pats saleroomref37_Eligibility_S 5000 rfl (by kernel_rfl) (by kernel_rfl)
def revealed_allValid_s : PT :=
 (.need (.is 0 0)
 (.jump 0 [(.slen 0), (.l 0)] [] [(.va 0)]))
def revealed_allValid_t0 : PT :=
 (.ite (.lt (.a 1) (.a 0))
  (.need (.and (.le (.l 0) (.a 1)) (.lt (.a 1) (.slen 0)))
  (.load false (.ea 0 (.a 1) 12 0) [(.int .i64), (.int .i64), (.int .i64), (.int .i64), (.int .i64), (.int .i64), (.int .i64), (.int .i64), (.int .i64), (.int .i64), (.int .i64), (.int .i64)]
  (.call 49 [(.agg [(.int .i64 (.a 2)), (.int .i64 (.a 3)), (.int .i64 (.a 4)), (.int .i64 (.a 5)), (.int .i64 (.a 6)), (.int .i64 (.a 7)), (.int .i64 (.a 8)), (.int .i64 (.a 9)), (.int .i64 (.a 10)), (.int .i64 (.a 11)), (.int .i64 (.a 12)), (.int .i64 (.a 13))])] [] [(.one .bool)]
  (.ite (.not (.a 0))
   (.ret false (.bool (.t false)) [])
   (.need (.and (.le (.l (-9223372036854775808)) (.add (.a 1) (.l 1))) (.le (.add (.a 1) (.l 1)) (.l 9223372036854775807)))
   (.jump 0 [(.a 0), (.add (.a 1) (.l 1))] [] [(.va 0)]))))))
  (.ret false (.bool (.t true)) []))
def revealed_allValid_S : Sx.Sys := ⟨[(.sh (.one .val))], revealed_allValid_s, [revealed_allValid_t0]⟩
def revealed_allValid_pats : List Cfg := [{ todo := [(.code [false, false, true, false, true]), (.inLoop [false, false, true, false, true]), (.inBlock 0), (.code [true, true])], sl := [(.junk 0), .undef, (.junk 1), .undef, (.junk 2), (.va 0), (.int .i64 (.a 0)), (.int .i64 (.a 1)), (.junk 3), (.junk 4), (.junk 5), (.junk 6), (.junk 7), (.junk 8), (.junk 9)], H := [], ni := 2, nb := 0, nv := 1, nj := 10 }]
theorem revealed_allValid_ok : SysOk Try.prog 39 revealed_allValid_S := sys_ok (c := (cg [[false, false, true, false, true]] [] [] false false false true)) (progOkG _ _ _ _ _ _ _) Try.func39 Try.call39 (by kernel_rfl) revealed_allValid_pats revealed_allValid_S 5000 rfl (by kernel_rfl) (by kernel_rfl)
def revealed_gain_s : PT :=
 (.call 41 [(.agg [(.int .i64 (.a 0)), (.int .i64 (.a 1)), (.int .i64 (.a 2)), (.int .i64 (.a 3)), (.int .i64 (.a 4)), (.int .i64 (.a 5))]), (.agg [(.int .i64 (.a 18)), (.int .i64 (.a 19)), (.int .i64 (.a 20)), (.int .i64 (.a 21)), (.int .i64 (.a 22)), (.int .i64 (.a 23))])] [] [(.one (.int .i64))]
 (.call 41 [(.agg [(.int .i64 (.a 0)), (.int .i64 (.a 1)), (.int .i64 (.a 2)), (.int .i64 (.a 3)), (.int .i64 (.a 4)), (.int .i64 (.a 5))]), (.agg [(.int .i64 (.a 6)), (.int .i64 (.a 7)), (.int .i64 (.a 8)), (.int .i64 (.a 9)), (.int .i64 (.a 10)), (.int .i64 (.a 11))])] [] [(.one (.int .i64))]
 (.need (.and (.le (.l (-9223372036854775808)) (.sub (.a 24) (.a 25))) (.le (.sub (.a 24) (.a 25)) (.l 9223372036854775807)))
 (.ret false (.int .i64 (.sub (.a 24) (.a 25))) []))))
def revealed_gain_S : Sx.Sys := ⟨[(.sh (.agg [(.int .i64), (.int .i64), (.int .i64), (.int .i64), (.int .i64), (.int .i64), (.int .i64), (.int .i64), (.int .i64), (.int .i64), (.int .i64), (.int .i64)])), (.sh (.agg [(.int .i64), (.int .i64), (.int .i64), (.int .i64), (.int .i64), (.int .i64), (.int .i64), (.int .i64), (.int .i64), (.int .i64), (.int .i64), (.int .i64)]))], revealed_gain_s, []⟩
def revealed_gain_pats : List Cfg := []
theorem revealed_gain_ok : SysOk Try.prog 48 revealed_gain_S := sys_ok (c := (cg [] [] [] false false false true)) (progOkG _ _ _ _ _ _ _) Try.func48 Try.call48 (by kernel_rfl) revealed_gain_pats revealed_gain_S 5000 rfl (by kernel_rfl) (by kernel_rfl)
def saleroomref37_bidder_s : PT :=
 (.ite (.le (.l 0) (.a 0))
  (.need (.is 0 1)
  (.ret false (.bool (.lt (.a 0) (.slen 1))) []))
  (.ret false (.bool (.t false)) []))
def saleroomref37_bidder_S : Sx.Sys := ⟨[(.sh (.agg [.val, .val, .val, .val])), (.sh (.one (.int .i64)))], saleroomref37_bidder_s, []⟩
def saleroomref37_bidder_pats : List Cfg := []
theorem saleroomref37_bidder_ok : SysOk Try.prog 57 saleroomref37_bidder_S := sys_ok (c := (cg [] [] [] false false false true)) (progOkG _ _ _ _ _ _ _) Try.func57 Try.call57 (by kernel_rfl) saleroomref37_bidder_pats saleroomref37_bidder_S 5000 rfl (by kernel_rfl) (by kernel_rfl)
def demandset_offers_utility_s : PT :=
 (.call 75 [(.va 0), (.agg [(.int .i64 (.a 6)), (.int .i64 (.a 7)), (.int .i64 (.a 8)), (.int .i64 (.a 9)), (.int .i64 (.a 10)), (.int .i64 (.a 11))])] [] [(.one (.int .i64))]
 (.call 41 [(.agg [(.int .i64 (.a 0)), (.int .i64 (.a 1)), (.int .i64 (.a 2)), (.int .i64 (.a 3)), (.int .i64 (.a 4)), (.int .i64 (.a 5))]), (.agg [(.int .i64 (.a 6)), (.int .i64 (.a 7)), (.int .i64 (.a 8)), (.int .i64 (.a 9)), (.int .i64 (.a 10)), (.int .i64 (.a 11))])] [] [(.one (.int .i64))]
 (.need (.and (.le (.l (-9223372036854775808)) (.sub (.a 12) (.a 13))) (.le (.sub (.a 12) (.a 13)) (.l 9223372036854775807)))
 (.ret false (.int .i64 (.sub (.a 12) (.a 13))) []))))
def demandset_offers_utility_S : Sx.Sys := ⟨[(.sh (.one .val)), (.sh (.agg [(.int .i64), (.int .i64), (.int .i64), (.int .i64), (.int .i64), (.int .i64)])), (.sh (.agg [(.int .i64), (.int .i64), (.int .i64), (.int .i64), (.int .i64), (.int .i64)]))], demandset_offers_utility_s, []⟩
def demandset_offers_utility_pats : List Cfg := []
theorem demandset_offers_utility_ok : SysOk Try.prog 69 demandset_offers_utility_S := sys_ok (c := (cg [] [] [] false false false true)) (progOkG _ _ _ _ _ _ _) Try.func69 Try.call69 (by kernel_rfl) demandset_offers_utility_pats demandset_offers_utility_S 5000 rfl (by kernel_rfl) (by kernel_rfl)
def bundle_each_s : PT :=
 (.newM [(.int .i64 (.a 0)), (.int .i64 (.a 1)), (.int .i64 (.a 2)), (.int .i64 (.a 3)), (.int .i64 (.a 4)), (.int .i64 (.a 5))] 42
 (.ret false (.fn 81 [(.pa 0 0)]) []))
def bundle_each_S : Sx.Sys := ⟨[(.sh (.agg [(.int .i64), (.int .i64), (.int .i64), (.int .i64), (.int .i64), (.int .i64)]))], bundle_each_s, []⟩
def bundle_each_pats : List Cfg := []
theorem bundle_each_ok : SysOk Try.prog 78 bundle_each_S := sys_ok (c := (cg [] [1] [] true false false true)) (progOkG _ _ _ _ _ _ _) Try.func78 Try.call78 (by kernel_rfl) bundle_each_pats bundle_each_S 5000 rfl (by kernel_rfl) (by kernel_rfl)
def lexer_inner_s : PT :=
 (.call 88 [(.int .i32 (.a 0))] [] [(.one .bool)]
 (.ite (.a 0)
  (.ret false (.bool (.t true)) [])
  (.call 91 [(.int .i32 (.a 0))] [] [(.one .bool)]
  (.ite (.a 1)
   (.ret false (.bool (.t true)) [])
   (.ret false (.bool (.eq (.a 0) (.l 95))) [])))))
def lexer_inner_S : Sx.Sys := ⟨[(.sh (.one (.int .i32)))], lexer_inner_s, []⟩
def lexer_inner_pats : List Cfg := []
theorem lexer_inner_ok : SysOk Try.prog 90 lexer_inner_S := sys_ok (c := (cg [] [] [] false false false true)) (progOkG _ _ _ _ _ _ _) Try.func90 Try.call90 (by kernel_rfl) lexer_inner_pats lexer_inner_S 5000 rfl (by kernel_rfl) (by kernel_rfl)
end Go.Proofs.Ythjahianafohjaa
