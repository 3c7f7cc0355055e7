/- The trees of this seat's functions, part 5. Written by txgen.py. -/
import Derived.Test.YtbmfegliomkkfaaHTab
set_option linter.unusedSimpArgs false
set_option linter.unusedVariables false
set_option maxRecDepth 100000
namespace Go.Proofs.Ytbmfegliomkkfaa
open Go.Sx
def saleroomlaw11_ExprSizes_s : PT :=
 (.call 28 [(.agg [(.int .i64 (.a 0)), (.int .i64 (.a 1)), (.int .i64 (.a 2)), (.int .i64 (.a 3)), (.int .i64 (.a 4)), (.int .i64 (.a 5)), (.int .i64 (.a 6)), (.int .i64 (.a 7)), (.va 0)])] [] [(.one .bool)]
 (.ite (.not (.a 0))
  (.ret false (.bool (.t true)) [])
  (.call 32 [(.agg [(.int .i64 (.a 0)), (.int .i64 (.a 1)), (.int .i64 (.a 2)), (.int .i64 (.a 3)), (.int .i64 (.a 4)), (.int .i64 (.a 5)), (.int .i64 (.a 6)), (.int .i64 (.a 7)), (.va 0)])] [] [(.one (.int .i64))]
  (.call 33 [(.agg [(.int .i64 (.a 0)), (.int .i64 (.a 1)), (.int .i64 (.a 2)), (.int .i64 (.a 3)), (.int .i64 (.a 4)), (.int .i64 (.a 5)), (.int .i64 (.a 6)), (.int .i64 (.a 7)), (.va 0)])] [] [(.one (.int .i64))]
  (.ite (.eq (.a 8) (.a 9))
   (.call 34 [(.agg [(.int .i64 (.a 0)), (.int .i64 (.a 1)), (.int .i64 (.a 2)), (.int .i64 (.a 3)), (.int .i64 (.a 4)), (.int .i64 (.a 5)), (.int .i64 (.a 6)), (.int .i64 (.a 7)), (.va 0)])] [] [(.one (.int .i64))]
   (.call 35 [(.agg [(.int .i64 (.a 0)), (.int .i64 (.a 1)), (.int .i64 (.a 2)), (.int .i64 (.a 3)), (.int .i64 (.a 4)), (.int .i64 (.a 5)), (.int .i64 (.a 6)), (.int .i64 (.a 7)), (.va 0)])] [] [(.one (.int .i64))]
   (.ite (.eq (.a 10) (.a 11))
    (.call 36 [(.agg [(.int .i64 (.a 0)), (.int .i64 (.a 1)), (.int .i64 (.a 2)), (.int .i64 (.a 3)), (.int .i64 (.a 4)), (.int .i64 (.a 5)), (.int .i64 (.a 6)), (.int .i64 (.a 7)), (.va 0)])] [] [(.agg [(.int .i64), (.int .i64), (.int .i64), (.int .i64), (.int .i64), (.int .i64)])]
    (.call 37 [(.agg [(.int .i64 (.a 0)), (.int .i64 (.a 1)), (.int .i64 (.a 2)), (.int .i64 (.a 3)), (.int .i64 (.a 4)), (.int .i64 (.a 5)), (.int .i64 (.a 6)), (.int .i64 (.a 7)), (.va 0)])] [] [(.agg [(.int .i64), (.int .i64), (.int .i64), (.int .i64), (.int .i64), (.int .i64)])]
    (.ite (.and (.eq (.a 12) (.a 18)) (.and (.eq (.a 13) (.a 19)) (.and (.eq (.a 14) (.a 20)) (.and (.eq (.a 15) (.a 21)) (.and (.eq (.a 16) (.a 22)) (.eq (.a 17) (.a 23)))))))
     (.call 31 [] [] [(.one .bool)]
     (.ret false (.bool (.a 1)) []))
     (.ret false (.bool (.t false)) []))))
    (.ret false (.bool (.t false)) []))))
   (.ret false (.bool (.t false)) []))))))
def saleroomlaw11_ExprSizes_S : Sx.Sys := ⟨[(.sh (.agg [(.int .i64), (.int .i64), (.int .i64), (.int .i64), (.int .i64), (.int .i64), (.int .i64), (.int .i64), .val]))], saleroomlaw11_ExprSizes_s, []⟩
def saleroomlaw11_ExprSizes_pats : List Cfg := []
theorem saleroomlaw11_ExprSizes_ok : SysOk Try.prog 9 saleroomlaw11_ExprSizes_S := sys_ok (c := (cg [] [] [] false false false)) (progOkG _ _ _ _ _ _) Try.func9 Try.call9 (by kernel_rfl) saleroomlaw11_ExprSizes_pats saleroomlaw11_ExprSizes_S 5000 rfl (by kernel_rfl) (by kernel_rfl)
def saleroomref15_Utility_s : PT :=
 (.call 54 [(.agg [(.int .i64 (.a 6)), (.int .i64 (.a 7)), (.int .i64 (.a 8)), (.int .i64 (.a 9)), (.int .i64 (.a 10)), (.int .i64 (.a 11))])] [] [(.one (.int .i64))]
 (.ite (.not (.eq (.a 12) (.l 0)))
  (.ret false (.int .i64 (.l 0)) [])
  (.call 23 [(.agg [(.int .i64 (.a 0)), (.int .i64 (.a 1)), (.int .i64 (.a 2)), (.int .i64 (.a 3)), (.int .i64 (.a 4)), (.int .i64 (.a 5))])] [] [(.one .bool)]
  (.ite (.not (.a 0))
   (.ret false (.int .i64 (.l 0)) [])
   (.call 55 [(.va 0), (.agg [(.int .i64 (.a 6)), (.int .i64 (.a 7)), (.int .i64 (.a 8)), (.int .i64 (.a 9)), (.int .i64 (.a 10)), (.int .i64 (.a 11))])] [] [(.one (.int .i64))]
   (.call 56 [(.agg [(.int .i64 (.a 0)), (.int .i64 (.a 1)), (.int .i64 (.a 2)), (.int .i64 (.a 3)), (.int .i64 (.a 4)), (.int .i64 (.a 5))]), (.agg [(.int .i64 (.a 6)), (.int .i64 (.a 7)), (.int .i64 (.a 8)), (.int .i64 (.a 9)), (.int .i64 (.a 10)), (.int .i64 (.a 11))])] [] [(.one (.int .i64))]
   (.need (.and (.le (.l (-9223372036854775808)) (.sub (.a 13) (.a 14))) (.le (.sub (.a 13) (.a 14)) (.l 9223372036854775807)))
   (.ret false (.int .i64 (.sub (.a 13) (.a 14))) []))))))))
def saleroomref15_Utility_S : Sx.Sys := ⟨[(.sh (.one .val)), (.sh (.agg [(.int .i64), (.int .i64), (.int .i64), (.int .i64), (.int .i64), (.int .i64)])), (.sh (.agg [(.int .i64), (.int .i64), (.int .i64), (.int .i64), (.int .i64), (.int .i64)]))], saleroomref15_Utility_s, []⟩
def saleroomref15_Utility_pats : List Cfg := []
theorem saleroomref15_Utility_ok : SysOk Try.prog 17 saleroomref15_Utility_S := sys_ok (c := (cg [] [] [] false false false)) (progOkG _ _ _ _ _ _) Try.func17 Try.call17 (by kernel_rfl) saleroomref15_Utility_pats saleroomref15_Utility_S 5000 rfl (by kernel_rfl) (by kernel_rfl)
def saleroomlaw11_few_s : PT :=
 (.call 33 [(.agg [(.int .i64 (.a 0)), (.int .i64 (.a 1)), (.int .i64 (.a 2)), (.int .i64 (.a 3)), (.int .i64 (.a 4)), (.int .i64 (.a 5)), (.int .i64 (.a 6)), (.int .i64 (.a 7)), (.va 0)])] [] [(.one (.int .i64))]
 (.ret false (.bool (.le (.a 8) (.l 400))) []))
def saleroomlaw11_few_S : Sx.Sys := ⟨[(.sh (.agg [(.int .i64), (.int .i64), (.int .i64), (.int .i64), (.int .i64), (.int .i64), (.int .i64), (.int .i64), .val]))], saleroomlaw11_few_s, []⟩
def saleroomlaw11_few_pats : List Cfg := []
theorem saleroomlaw11_few_ok : SysOk Try.prog 28 saleroomlaw11_few_S := sys_ok (c := (cg [] [] [] false false false)) (progOkG _ _ _ _ _ _) Try.func28 Try.call28 (by kernel_rfl) saleroomlaw11_few_pats saleroomlaw11_few_S 5000 rfl (by kernel_rfl) (by kernel_rfl)
def expr_Products_s : PT :=
 (.newM [(.int .i64 (.l 0)), (.int .i64 (.l 0)), (.int .i64 (.l 0)), (.int .i64 (.l 0)), (.int .i64 (.l 0)), (.int .i64 (.l 0))] 26
 (.call 60 [(.agg [(.fn 69 [(.pa 1 0)])]), (.agg [(.int .i64 (.a 0)), (.int .i64 (.a 1)), (.int .i64 (.a 2)), (.int .i64 (.a 3)), (.int .i64 (.a 4)), (.int .i64 (.a 5)), (.int .i64 (.a 6)), (.int .i64 (.a 7)), (.va 0)])] [] [(.one .bool)]
 (.load false (.pa 1 0) [(.int .i64), (.int .i64), (.int .i64), (.int .i64), (.int .i64), (.int .i64)]
 (.ret false (.agg [(.int .i64 (.a 8)), (.int .i64 (.a 9)), (.int .i64 (.a 10)), (.int .i64 (.a 11)), (.int .i64 (.a 12)), (.int .i64 (.a 13))]) []))))
def expr_Products_S : Sx.Sys := ⟨[(.sh (.agg [(.int .i64), (.int .i64), (.int .i64), (.int .i64), (.int .i64), (.int .i64), (.int .i64), (.int .i64), .val]))], expr_Products_s, []⟩
def expr_Products_pats : List Cfg := []
theorem expr_Products_ok : SysOk Try.prog 36 expr_Products_S := sys_ok (c := (cg [] [3] [] true false false)) (progOkG _ _ _ _ _ _) Try.func36 Try.call36 (by kernel_rfl) expr_Products_pats expr_Products_S 5000 rfl (by kernel_rfl) (by kernel_rfl)
def saleroomlaw11_spoil_s : PT :=
 (.need (.is 1 0)
 (.load false (.pa 0 7) [(.int .i64)]
 (.need (.and (.le (.l (-9223372036854775808)) (.add (.a 0) (.l 1))) (.le (.add (.a 0) (.l 1)) (.l 9223372036854775807)))
 (.need (.is 1 0)
 (.storeM (.pa 0 7) [(.int .i64 (.add (.a 0) (.l 1)))]
 (.need (.is 1 0)
 (.load false (.pa 0 8) [.val]
 (.need (.is 0 1)
 (.jump 0 [(.slen 1), (.l 0)] [] [(.va 0)])))))))))
def saleroomlaw11_spoil_t0 : PT :=
 (.ite (.lt (.a 1) (.a 0))
  (.need (.is 1 0)
  (.load false (.pa 0 8) [.val]
  (.need (.and (.le (.l 0) (.a 1)) (.lt (.a 1) (.slen 1)))
  (.call 44 [(.ea 1 (.a 1) 9 0)] [] []
  (.need (.and (.le (.l (-9223372036854775808)) (.add (.a 1) (.l 1))) (.le (.add (.a 1) (.l 1)) (.l 9223372036854775807)))
  (.jump 0 [(.a 0), (.add (.a 1) (.l 1))] [] [(.va 0)]))))))
  (.ret false (.tup []) []))
def saleroomlaw11_spoil_S : Sx.Sys := ⟨[(.sh (.one .val))], saleroomlaw11_spoil_s, [saleroomlaw11_spoil_t0]⟩
def saleroomlaw11_spoil_pats : List Cfg := [{ todo := [(.code [false, false, true, true]), (.inLoop [false, false, true, true]), (.inBlock 0)], sl := [(.va 0), .undef, (.junk 0), (.junk 1), (.junk 2), (.junk 3), (.junk 4), (.junk 5), (.junk 6), (.junk 7), (.junk 8), (.junk 9), (.junk 10), (.junk 11), (.int .i64 (.a 0)), (.int .i64 (.a 1)), (.junk 12), (.junk 13), (.junk 14), (.junk 15), (.junk 16), (.junk 17), (.junk 18), (.junk 19), (.junk 20), (.junk 21)], H := [], ni := 2, nb := 0, nv := 1, nj := 22 }]
theorem saleroomlaw11_spoil_ok : SysOk Try.prog 44 saleroomlaw11_spoil_S := sys_ok (c := (cg [[false, false, true, true]] [] [] false false false)) (progOkG _ _ _ _ _ _) Try.func44 Try.call44 (by kernel_rfl) saleroomlaw11_spoil_pats saleroomlaw11_spoil_S 5000 rfl (by kernel_rfl) (by kernel_rfl)
def demandset_offers_utility_s : PT :=
 (.call 73 [(.va 0), (.agg [(.int .i64 (.a 6)), (.int .i64 (.a 7)), (.int .i64 (.a 8)), (.int .i64 (.a 9)), (.int .i64 (.a 10)), (.int .i64 (.a 11))])] [] [(.one (.int .i64))]
 (.call 74 [(.agg [(.int .i64 (.a 0)), (.int .i64 (.a 1)), (.int .i64 (.a 2)), (.int .i64 (.a 3)), (.int .i64 (.a 4)), (.int .i64 (.a 5))]), (.agg [(.int .i64 (.a 6)), (.int .i64 (.a 7)), (.int .i64 (.a 8)), (.int .i64 (.a 9)), (.int .i64 (.a 10)), (.int .i64 (.a 11))])] [] [(.one (.int .i64))]
 (.need (.and (.le (.l (-9223372036854775808)) (.sub (.a 12) (.a 13))) (.le (.sub (.a 12) (.a 13)) (.l 9223372036854775807)))
 (.ret false (.int .i64 (.sub (.a 12) (.a 13))) []))))
def demandset_offers_utility_S : Sx.Sys := ⟨[(.sh (.one .val)), (.sh (.agg [(.int .i64), (.int .i64), (.int .i64), (.int .i64), (.int .i64), (.int .i64)])), (.sh (.agg [(.int .i64), (.int .i64), (.int .i64), (.int .i64), (.int .i64), (.int .i64)]))], demandset_offers_utility_s, []⟩
def demandset_offers_utility_pats : List Cfg := []
theorem demandset_offers_utility_ok : SysOk Try.prog 52 demandset_offers_utility_S := sys_ok (c := (cg [] [] [] false false false)) (progOkG _ _ _ _ _ _) Try.func52 Try.call52 (by kernel_rfl) demandset_offers_utility_pats demandset_offers_utility_S 5000 rfl (by kernel_rfl) (by kernel_rfl)
def expr_walker_walk_s : PT :=
 (.callv 0 [(.agg [(.int .i64 (.a 0)), (.int .i64 (.a 1)), (.int .i64 (.a 2)), (.int .i64 (.a 3)), (.int .i64 (.a 4)), (.int .i64 (.a 5)), (.int .i64 (.a 6)), (.int .i64 (.a 7)), (.va 1)])] [(.one .bool)]
 (.ite (.not (.a 0))
  (.ret true (.bool (.t false)) [])
  (.need (.is 0 1)
  (.jump 0 [(.slen 1), (.l 0)] [] [(.va 1), (.va 0)]))))
def expr_walker_walk_t0 : PT :=
 (.ite (.lt (.a 1) (.a 0))
  (.need (.and (.le (.l 0) (.a 1)) (.lt (.a 1) (.slen 0)))
  (.load false (.ea 0 (.a 1) 9 0) [(.int .i64), (.int .i64), (.int .i64), (.int .i64), (.int .i64), (.int .i64), (.int .i64), (.int .i64), .val]
  (.call 60 [(.agg [(.va 1)]), (.agg [(.int .i64 (.a 2)), (.int .i64 (.a 3)), (.int .i64 (.a 4)), (.int .i64 (.a 5)), (.int .i64 (.a 6)), (.int .i64 (.a 7)), (.int .i64 (.a 8)), (.int .i64 (.a 9)), (.va 2)])] [] [(.one .bool)]
  (.ite (.not (.a 0))
   (.ret true (.bool (.t false)) [])
   (.need (.and (.le (.l (-9223372036854775808)) (.add (.a 1) (.l 1))) (.le (.add (.a 1) (.l 1)) (.l 9223372036854775807)))
   (.jump 0 [(.a 0), (.add (.a 1) (.l 1))] [] [(.va 0), (.va 1)]))))))
  (.ret true (.bool (.t true)) []))
def expr_walker_walk_S : Sx.Sys := ⟨[(.sh (.agg [.val])), (.sh (.agg [(.int .i64), (.int .i64), (.int .i64), (.int .i64), (.int .i64), (.int .i64), (.int .i64), (.int .i64), .val]))], expr_walker_walk_s, [expr_walker_walk_t0]⟩
def expr_walker_walk_pats : List Cfg := [{ todo := [(.code [false, false, true, false, true, true]), (.inLoop [false, false, true, false, true, true]), (.inBlock 0), (.code [true, true, true])], sl := [(.junk 0), (.junk 1), (.ptr 0 0), (.junk 2), (.junk 3), .undef, (.junk 4), (.junk 5), (.junk 6), (.junk 7), (.junk 8), (.junk 9), (.junk 10), (.va 0), (.int .i64 (.a 0)), (.int .i64 (.a 1)), (.junk 11), (.junk 12), (.junk 13), (.junk 14), (.junk 15), (.junk 16), (.junk 17), (.junk 18)], H := [(.cells [(.va 1)] 77 false)], ni := 2, nb := 0, nv := 2, nj := 19 }]
theorem expr_walker_walk_ok : SysOk Try.prog 60 expr_walker_walk_S := sys_ok (c := (cg [[false, false, true, false, true, true]] [] [(8, [4])] false true false)) (progOkG _ _ _ _ _ _) Try.func60 Try.call60 (by kernel_rfl) expr_walker_walk_pats expr_walker_walk_S 5000 rfl (by kernel_rfl) (by kernel_rfl)
def expr_Size_1_s : PT :=
 (.load false (.pa 1 0) [(.int .i64)]
 (.need (.and (.le (.l (-9223372036854775808)) (.add (.a 8) (.l 1))) (.le (.add (.a 8) (.l 1)) (.l 9223372036854775807)))
 (.storeM (.pa 1 0) [(.int .i64 (.add (.a 8) (.l 1)))]
 (.ret true (.bool (.t true)) []))))
def expr_Size_1_S : Sx.Sys := ⟨[(.sh (.agg [(.int .i64), (.int .i64), (.int .i64), (.int .i64), (.int .i64), (.int .i64), (.int .i64), (.int .i64), .val])), .ptr], expr_Size_1_s, []⟩
def expr_Size_1_pats : List Cfg := []
theorem expr_Size_1_ok : SysOk Try.prog 68 expr_Size_1_S := sys_ok (c := (cg [] [] [] true true false)) (progOkG _ _ _ _ _ _) Try.func68 Try.call68 (by kernel_rfl) expr_Size_1_pats expr_Size_1_S 5000 rfl (by kernel_rfl) (by kernel_rfl)
def bundle_Count_s : PT :=
 (.call 51 [(.agg [(.int .i64 (.a 0)), (.int .i64 (.a 1)), (.int .i64 (.a 2)), (.int .i64 (.a 3)), (.int .i64 (.a 4)), (.int .i64 (.a 5))])] [] [(.one (.int .i64))]
 (.ite (.not (.eq (.a 6) (.l 0)))
  (.ret false (.int .i64 (.l 0)) [])
  (.need (.and (.le (.l (-9223372036854775808)) (.add (.a 0) (.l 1))) (.le (.add (.a 0) (.l 1)) (.l 9223372036854775807)))
  (.need (.and (.le (.l (-9223372036854775808)) (.mul (.l 1) (.add (.a 0) (.l 1)))) (.le (.mul (.l 1) (.add (.a 0) (.l 1))) (.l 9223372036854775807)))
  (.need (.and (.le (.l (-9223372036854775808)) (.add (.a 1) (.l 1))) (.le (.add (.a 1) (.l 1)) (.l 9223372036854775807)))
  (.need (.and (.le (.l (-9223372036854775808)) (.mul (.mul (.l 1) (.add (.a 0) (.l 1))) (.add (.a 1) (.l 1)))) (.le (.mul (.mul (.l 1) (.add (.a 0) (.l 1))) (.add (.a 1) (.l 1))) (.l 9223372036854775807)))
  (.need (.and (.le (.l (-9223372036854775808)) (.add (.a 2) (.l 1))) (.le (.add (.a 2) (.l 1)) (.l 9223372036854775807)))
  (.need (.and (.le (.l (-9223372036854775808)) (.mul (.mul (.mul (.l 1) (.add (.a 0) (.l 1))) (.add (.a 1) (.l 1))) (.add (.a 2) (.l 1)))) (.le (.mul (.mul (.mul (.l 1) (.add (.a 0) (.l 1))) (.add (.a 1) (.l 1))) (.add (.a 2) (.l 1))) (.l 9223372036854775807)))
  (.need (.and (.le (.l (-9223372036854775808)) (.add (.a 3) (.l 1))) (.le (.add (.a 3) (.l 1)) (.l 9223372036854775807)))
  (.need (.and (.le (.l (-9223372036854775808)) (.mul (.mul (.mul (.mul (.l 1) (.add (.a 0) (.l 1))) (.add (.a 1) (.l 1))) (.add (.a 2) (.l 1))) (.add (.a 3) (.l 1)))) (.le (.mul (.mul (.mul (.mul (.l 1) (.add (.a 0) (.l 1))) (.add (.a 1) (.l 1))) (.add (.a 2) (.l 1))) (.add (.a 3) (.l 1))) (.l 9223372036854775807)))
  (.need (.and (.le (.l (-9223372036854775808)) (.add (.a 4) (.l 1))) (.le (.add (.a 4) (.l 1)) (.l 9223372036854775807)))
  (.need (.and (.le (.l (-9223372036854775808)) (.mul (.mul (.mul (.mul (.mul (.l 1) (.add (.a 0) (.l 1))) (.add (.a 1) (.l 1))) (.add (.a 2) (.l 1))) (.add (.a 3) (.l 1))) (.add (.a 4) (.l 1)))) (.le (.mul (.mul (.mul (.mul (.mul (.l 1) (.add (.a 0) (.l 1))) (.add (.a 1) (.l 1))) (.add (.a 2) (.l 1))) (.add (.a 3) (.l 1))) (.add (.a 4) (.l 1))) (.l 9223372036854775807)))
  (.need (.and (.le (.l (-9223372036854775808)) (.add (.a 5) (.l 1))) (.le (.add (.a 5) (.l 1)) (.l 9223372036854775807)))
  (.need (.and (.le (.l (-9223372036854775808)) (.mul (.mul (.mul (.mul (.mul (.mul (.l 1) (.add (.a 0) (.l 1))) (.add (.a 1) (.l 1))) (.add (.a 2) (.l 1))) (.add (.a 3) (.l 1))) (.add (.a 4) (.l 1))) (.add (.a 5) (.l 1)))) (.le (.mul (.mul (.mul (.mul (.mul (.mul (.l 1) (.add (.a 0) (.l 1))) (.add (.a 1) (.l 1))) (.add (.a 2) (.l 1))) (.add (.a 3) (.l 1))) (.add (.a 4) (.l 1))) (.add (.a 5) (.l 1))) (.l 9223372036854775807)))
  (.ite (.lt (.l 1024) (.mul (.mul (.mul (.mul (.mul (.mul (.l 1) (.add (.a 0) (.l 1))) (.add (.a 1) (.l 1))) (.add (.a 2) (.l 1))) (.add (.a 3) (.l 1))) (.add (.a 4) (.l 1))) (.add (.a 5) (.l 1))))
   (.ret false (.int .i64 (.l 0)) [])
   (.ret false (.int .i64 (.mul (.mul (.mul (.mul (.mul (.mul (.l 1) (.add (.a 0) (.l 1))) (.add (.a 1) (.l 1))) (.add (.a 2) (.l 1))) (.add (.a 3) (.l 1))) (.add (.a 4) (.l 1))) (.add (.a 5) (.l 1)))) []))))))))))))))))
def bundle_Count_S : Sx.Sys := ⟨[(.sh (.agg [(.int .i64), (.int .i64), (.int .i64), (.int .i64), (.int .i64), (.int .i64)]))], bundle_Count_s, []⟩
def bundle_Count_pats : List Cfg := []
theorem bundle_Count_ok : SysOk Try.prog 76 bundle_Count_S := sys_ok (c := (cg [] [] [] false false false)) (progOkG _ _ _ _ _ _) Try.func76 Try.call76 (by kernel_rfl) bundle_Count_pats bundle_Count_S 5000 rfl (by kernel_rfl) (by kernel_rfl)
end Go.Proofs.Ytbmfegliomkkfaa
