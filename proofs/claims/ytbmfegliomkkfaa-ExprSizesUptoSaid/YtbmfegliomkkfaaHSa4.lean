/- The trees of this seat's functions, part 4. Written by txgen.py. -/
import Derived.Test.YtbmfegliomkkfaaHTab
set_option linter.unusedSimpArgs false
set_option linter.unusedVariables false
set_option maxRecDepth 100000
namespace Go.Proofs.Ytbmfegliomkkfaa
open Go.Sx
def saleroomlaw11_ExprChecks_s : PT :=
 (.call 28 [(.agg [(.int .i64 (.a 0)), (.int .i64 (.a 1)), (.int .i64 (.a 2)), (.int .i64 (.a 3)), (.int .i64 (.a 4)), (.int .i64 (.a 5)), (.int .i64 (.a 6)), (.int .i64 (.a 7)), (.va 0)])] [] [(.one .bool)]
 (.ite (.not (.a 0))
  (.ret false (.bool (.t true)) [])
  (.call 29 [(.agg [(.int .i64 (.a 0)), (.int .i64 (.a 1)), (.int .i64 (.a 2)), (.int .i64 (.a 3)), (.int .i64 (.a 4)), (.int .i64 (.a 5)), (.int .i64 (.a 6)), (.int .i64 (.a 7)), (.va 0)])] [] [(.one (.int .i64))]
  (.call 30 [(.agg [(.int .i64 (.a 0)), (.int .i64 (.a 1)), (.int .i64 (.a 2)), (.int .i64 (.a 3)), (.int .i64 (.a 4)), (.int .i64 (.a 5)), (.int .i64 (.a 6)), (.int .i64 (.a 7)), (.va 0)])] [] [(.one (.int .i64))]
  (.ite (.eq (.a 8) (.a 9))
   (.call 31 [] [] [(.one .bool)]
   (.ret false (.bool (.a 1)) []))
   (.ret false (.bool (.t false)) []))))))
def saleroomlaw11_ExprChecks_S : Sx.Sys := ⟨[(.sh (.agg [(.int .i64), (.int .i64), (.int .i64), (.int .i64), (.int .i64), (.int .i64), (.int .i64), (.int .i64), .val]))], saleroomlaw11_ExprChecks_s, []⟩
def saleroomlaw11_ExprChecks_pats : List Cfg := []
theorem saleroomlaw11_ExprChecks_ok : SysOk Try.prog 8 saleroomlaw11_ExprChecks_S := sys_ok (c := (cg [] [] [] false false false)) (progOkG _ _ _ _ _ _) Try.func8 Try.call8 (by kernel_rfl) saleroomlaw11_ExprChecks_pats saleroomlaw11_ExprChecks_S 5000 rfl (by kernel_rfl) (by kernel_rfl)
def demandset_Utility_s : PT :=
 (.call 50 [(.agg [(.int .i64 (.a 0)), (.int .i64 (.a 1)), (.int .i64 (.a 2)), (.int .i64 (.a 3)), (.int .i64 (.a 4)), (.int .i64 (.a 5))])] [] [(.one .bool)]
 (.ite (.not (.a 0))
  (.ret false (.int .i64 (.l 0)) [])
  (.call 51 [(.agg [(.int .i64 (.a 6)), (.int .i64 (.a 7)), (.int .i64 (.a 8)), (.int .i64 (.a 9)), (.int .i64 (.a 10)), (.int .i64 (.a 11))])] [] [(.one (.int .i64))]
  (.ite (.not (.eq (.a 12) (.l 0)))
   (.ret false (.int .i64 (.l 0)) [])
   (.call 53 [(.va 0)] [] [(.one .val)]
   (.call 52 [(.va 1), (.agg [(.int .i64 (.a 0)), (.int .i64 (.a 1)), (.int .i64 (.a 2)), (.int .i64 (.a 3)), (.int .i64 (.a 4)), (.int .i64 (.a 5))]), (.agg [(.int .i64 (.a 6)), (.int .i64 (.a 7)), (.int .i64 (.a 8)), (.int .i64 (.a 9)), (.int .i64 (.a 10)), (.int .i64 (.a 11))])] [] [(.one (.int .i64))]
   (.ret false (.int .i64 (.a 13)) [])))))))
def demandset_Utility_S : Sx.Sys := ⟨[(.sh (.one .val)), (.sh (.agg [(.int .i64), (.int .i64), (.int .i64), (.int .i64), (.int .i64), (.int .i64)])), (.sh (.agg [(.int .i64), (.int .i64), (.int .i64), (.int .i64), (.int .i64), (.int .i64)]))], demandset_Utility_s, []⟩
def demandset_Utility_pats : List Cfg := []
theorem demandset_Utility_ok : SysOk Try.prog 16 demandset_Utility_S := sys_ok (c := (cg [] [] [] false false false)) (progOkG _ _ _ _ _ _) Try.func16 Try.call16 (by kernel_rfl) demandset_Utility_pats demandset_Utility_S 5000 rfl (by kernel_rfl) (by kernel_rfl)
def saleroomref15_Path_s : PT :=
 (.jump 0 [(.l 0), (.a 0), (.a 1), (.a 2), (.a 3), (.a 4), (.a 5)] [] [(.va 0), (.va 1), .nilS])
def saleroomref15_Path_t0 : PT :=
 (.need (.is 0 1)
 (.ite (.lt (.a 0) (.slen 1))
  (.need (.and (.le (.l 0) (.a 0)) (.lt (.a 0) (.slen 1)))
  (.load true (.ea 1 (.a 0) 6 0) [(.int .i64), (.int .i64), (.int .i64), (.int .i64), (.int .i64), (.int .i64)]
  (.both
   (.both
    (.call 20 [(.va 0), (.agg [(.int .i64 (.a 1)), (.int .i64 (.a 2)), (.int .i64 (.a 3)), (.int .i64 (.a 4)), (.int .i64 (.a 5)), (.int .i64 (.a 6))]), (.agg [(.int .i64 (.a 7)), (.int .i64 (.a 8)), (.int .i64 (.a 9)), (.int .i64 (.a 10)), (.int .i64 (.a 11)), (.int .i64 (.a 12))])] [] [(.agg [(.int .i64), (.int .i64), (.int .i64), (.int .i64), (.int .i64), (.int .i64)]), (.one (.int .i64))]
    (.need (.and (.le (.l 0) (.a 0)) (.lt (.a 0) (.slen 1)))
    (.load true (.ea 1 (.a 0) 6 0) [(.int .i64), (.int .i64), (.int .i64), (.int .i64), (.int .i64), (.int .i64)]
    (.app none (.lit [[(.int .i64 (.a 20)), (.int .i64 (.a 21)), (.int .i64 (.a 22)), (.int .i64 (.a 23)), (.int .i64 (.a 24)), (.int .i64 (.a 25)), (.int .i64 (.a 13)), (.int .i64 (.a 14)), (.int .i64 (.a 15)), (.int .i64 (.a 16)), (.int .i64 (.a 17)), (.int .i64 (.a 18))]]) 12
    (.app (some 2) (.va 3) 12
    (.need (.and (.le (.l (-9223372036854775808)) (.add (.a 0) (.l 1))) (.le (.add (.a 0) (.l 1)) (.l 9223372036854775807)))
    (.jump 0 [(.add (.a 0) (.l 1)), (.a 1), (.a 2), (.a 3), (.a 4), (.a 5), (.a 6)] [] [(.va 0), (.va 1), (.va 4)])))))))
    (.call 20 [(.va 0), (.agg [(.int .i64 (.a 1)), (.int .i64 (.a 2)), (.int .i64 (.a 3)), (.int .i64 (.a 4)), (.int .i64 (.a 5)), (.int .i64 (.a 6))]), (.agg [(.int .i64 (.a 7)), (.int .i64 (.a 8)), (.int .i64 (.a 9)), (.int .i64 (.a 10)), (.int .i64 (.a 11)), (.int .i64 (.a 12))])] [] [(.agg [(.int .i64), (.int .i64), (.int .i64), (.int .i64), (.int .i64), (.int .i64)]), (.one (.int .i64))]
    (.need (.and (.le (.l 0) (.a 0)) (.lt (.a 0) (.slen 1)))
    (.load true (.ea 1 (.a 0) 6 0) [(.int .i64), (.int .i64), (.int .i64), (.int .i64), (.int .i64), (.int .i64)]
    (.app none (.lit [[(.int .i64 (.a 20)), (.int .i64 (.a 21)), (.int .i64 (.a 22)), (.int .i64 (.a 23)), (.int .i64 (.a 24)), (.int .i64 (.a 25)), (.int .i64 (.a 13)), (.int .i64 (.a 14)), (.int .i64 (.a 15)), (.int .i64 (.a 16)), (.int .i64 (.a 17)), (.int .i64 (.a 18))]]) 12
    (.app (some 2) (.va 3) 12
    (.need (.and (.le (.l (-9223372036854775808)) (.add (.a 0) (.l 1))) (.le (.add (.a 0) (.l 1)) (.l 9223372036854775807)))
    (.jump 0 [(.add (.a 0) (.l 1)), (.a 1), (.a 2), (.a 3), (.a 4), (.a 5), (.a 6)] [] [(.va 0), (.va 1), (.va 4)]))))))))
   (.call 20 [(.va 0), (.agg [(.int .i64 (.a 1)), (.int .i64 (.a 2)), (.int .i64 (.a 3)), (.int .i64 (.a 4)), (.int .i64 (.a 5)), (.int .i64 (.a 6))]), (.agg [(.int .i64 (.a 7)), (.int .i64 (.a 8)), (.int .i64 (.a 9)), (.int .i64 (.a 10)), (.int .i64 (.a 11)), (.int .i64 (.a 12))])] [] [(.agg [(.int .i64), (.int .i64), (.int .i64), (.int .i64), (.int .i64), (.int .i64)]), (.one (.int .i64))]
   (.need (.and (.le (.l 0) (.a 0)) (.lt (.a 0) (.slen 1)))
   (.load true (.ea 1 (.a 0) 6 0) [(.int .i64), (.int .i64), (.int .i64), (.int .i64), (.int .i64), (.int .i64)]
   (.app none (.lit [[(.int .i64 (.a 20)), (.int .i64 (.a 21)), (.int .i64 (.a 22)), (.int .i64 (.a 23)), (.int .i64 (.a 24)), (.int .i64 (.a 25)), (.int .i64 (.a 13)), (.int .i64 (.a 14)), (.int .i64 (.a 15)), (.int .i64 (.a 16)), (.int .i64 (.a 17)), (.int .i64 (.a 18))]]) 12
   (.app (some 2) (.va 3) 12
   (.need (.and (.le (.l (-9223372036854775808)) (.add (.a 0) (.l 1))) (.le (.add (.a 0) (.l 1)) (.l 9223372036854775807)))
   (.jump 0 [(.add (.a 0) (.l 1)), (.a 1), (.a 2), (.a 3), (.a 4), (.a 5), (.a 6)] [] [(.va 0), (.va 1), (.va 4)]))))))))))
  (.ret false (.va 2) [])))
def saleroomref15_Path_S : Sx.Sys := ⟨[(.sh (.one .val)), (.sh (.agg [(.int .i64), (.int .i64), (.int .i64), (.int .i64), (.int .i64), (.int .i64)])), (.sh (.one .val))], saleroomref15_Path_s, [saleroomref15_Path_t0]⟩
def saleroomref15_Path_pats : List Cfg := [{ todo := [(.code [false, false, true, false, true, true]), (.inLoop [false, false, true, false, true, true]), (.inBlock 0), (.code [true, true, true])], sl := [(.va 0), (.junk 0), (.va 1), .undef, (.ptr 0 0), .undef, (.junk 1), (.va 2), (.int .i64 (.a 0)), (.junk 2), (.junk 3), (.junk 4), (.junk 5), (.junk 6), (.junk 7), (.junk 8), (.junk 9), (.junk 10), (.junk 11), (.junk 12), (.junk 13), (.junk 14), (.junk 15), (.junk 16), (.junk 17), (.junk 18), (.junk 19), (.junk 20), (.junk 21), (.junk 22), (.junk 23), (.junk 24), (.junk 25), (.junk 26), (.junk 27), (.junk 28), .undef], H := [(.cells [(.int .i64 (.a 1)), (.int .i64 (.a 2)), (.int .i64 (.a 3)), (.int .i64 (.a 4)), (.int .i64 (.a 5)), (.int .i64 (.a 6))] 26 false), (.row 2 45 12)], ni := 7, nb := 0, nv := 3, nj := 29 }]
theorem saleroomref15_Path_ok : SysOk Try.prog 27 saleroomref15_Path_S := sys_ok (c := (cg [[false, false, true, false, true, true]] [] [] false false false)) (progOkG _ _ _ _ _ _) Try.func27 Try.call27 (by kernel_rfl) saleroomref15_Path_pats saleroomref15_Path_S 5000 rfl (by kernel_rfl) (by kernel_rfl)
def saleroomref11_Depth_s : PT :=
 (.jump 0 [(.l 0), (.l 0), (.a 0), (.a 1), (.a 2), (.a 3), (.a 4), (.a 5), (.a 6), (.a 7)] [] [(.va 0)])
def saleroomref11_Depth_t0 : PT :=
 (.need (.is 0 0)
 (.ite (.lt (.a 1) (.slen 0))
  (.need (.and (.le (.l 0) (.a 1)) (.lt (.a 1) (.slen 0)))
  (.load false (.ea 0 (.a 1) 9 0) [(.int .i64), (.int .i64), (.int .i64), (.int .i64), (.int .i64), (.int .i64), (.int .i64), (.int .i64), .val]
  (.call 35 [(.agg [(.int .i64 (.a 10)), (.int .i64 (.a 11)), (.int .i64 (.a 12)), (.int .i64 (.a 13)), (.int .i64 (.a 14)), (.int .i64 (.a 15)), (.int .i64 (.a 16)), (.int .i64 (.a 17)), (.va 1)])] [] [(.one (.int .i64))]
  (.need (.and (.le (.l (-9223372036854775808)) (.add (.a 1) (.l 1))) (.le (.add (.a 1) (.l 1)) (.l 9223372036854775807)))
  (.jump 0 [(.mx (.a 0) (.a 18)), (.add (.a 1) (.l 1)), (.a 2), (.a 3), (.a 4), (.a 5), (.a 6), (.a 7), (.a 8), (.a 9)] [] [(.va 0)])))))
  (.need (.and (.le (.l (-9223372036854775808)) (.add (.a 0) (.l 1))) (.le (.add (.a 0) (.l 1)) (.l 9223372036854775807)))
  (.ret false (.int .i64 (.add (.a 0) (.l 1))) []))))
def saleroomref11_Depth_S : Sx.Sys := ⟨[(.sh (.agg [(.int .i64), (.int .i64), (.int .i64), (.int .i64), (.int .i64), (.int .i64), (.int .i64), (.int .i64), .val]))], saleroomref11_Depth_s, [saleroomref11_Depth_t0]⟩
def saleroomref11_Depth_pats : List Cfg := [{ todo := [(.code [false, false, true, false, true, true]), (.inLoop [false, false, true, false, true, true]), (.inBlock 0), (.code [true, true, true])], sl := [(.junk 0), (.ptr 0 0), (.junk 1), (.int .i64 (.a 0)), (.int .i64 (.a 1)), (.junk 2), (.junk 3), (.junk 4), (.junk 5), (.junk 6), (.junk 7), (.junk 8), (.junk 9), (.junk 10), (.junk 11), (.junk 12), (.junk 13), (.junk 14), (.junk 15), (.junk 16), .undef, .undef], H := [(.cells [(.int .i64 (.a 2)), (.int .i64 (.a 3)), (.int .i64 (.a 4)), (.int .i64 (.a 5)), (.int .i64 (.a 6)), (.int .i64 (.a 7)), (.int .i64 (.a 8)), (.int .i64 (.a 9)), (.va 0)] 49 false)], ni := 10, nb := 0, nv := 1, nj := 17 }]
theorem saleroomref11_Depth_ok : SysOk Try.prog 35 saleroomref11_Depth_S := sys_ok (c := (cg [[false, false, true, false, true, true]] [] [] false false false)) (progOkG _ _ _ _ _ _) Try.func35 Try.call35 (by kernel_rfl) saleroomref11_Depth_pats saleroomref11_Depth_S 5000 rfl (by kernel_rfl) (by kernel_rfl)
def expr_Copy_s : PT :=
 (.call 45 [(.agg [(.int .i64 (.a 0)), (.int .i64 (.a 1)), (.int .i64 (.a 2)), (.int .i64 (.a 3)), (.int .i64 (.a 4)), (.int .i64 (.a 5)), (.int .i64 (.a 6)), (.int .i64 (.a 7)), (.va 0)]), (.fn 72 [])] [] [(.agg [(.int .i64), (.int .i64), (.int .i64), (.int .i64), (.int .i64), (.int .i64), (.int .i64), (.int .i64), .val])]
 (.ret false (.agg [(.int .i64 (.a 8)), (.int .i64 (.a 9)), (.int .i64 (.a 10)), (.int .i64 (.a 11)), (.int .i64 (.a 12)), (.int .i64 (.a 13)), (.int .i64 (.a 14)), (.int .i64 (.a 15)), (.va 1)]) []))
def expr_Copy_S : Sx.Sys := ⟨[(.sh (.agg [(.int .i64), (.int .i64), (.int .i64), (.int .i64), (.int .i64), (.int .i64), (.int .i64), (.int .i64), .val]))], expr_Copy_s, []⟩
def expr_Copy_pats : List Cfg := []
theorem expr_Copy_ok : SysOk Try.prog 43 expr_Copy_S := sys_ok (c := (cg [] [] [] false false false)) (progOkG _ _ _ _ _ _) Try.func43 Try.call43 (by kernel_rfl) expr_Copy_pats expr_Copy_S 5000 rfl (by kernel_rfl) (by kernel_rfl)
def bundle_Check_s : PT :=
 (.ite (.lt (.a 0) (.l 0))
  (.ret false (.int .i64 (.l 4)) [])
  (.ite (.lt (.l 4) (.a 0))
   (.ret false (.int .i64 (.l 4)) [])
   (.ite (.lt (.a 1) (.l 0))
    (.ret false (.int .i64 (.l 4)) [])
    (.ite (.lt (.l 4) (.a 1))
     (.ret false (.int .i64 (.l 4)) [])
     (.ite (.lt (.a 2) (.l 0))
      (.ret false (.int .i64 (.l 4)) [])
      (.ite (.lt (.l 4) (.a 2))
       (.ret false (.int .i64 (.l 4)) [])
       (.ite (.lt (.a 3) (.l 0))
        (.ret false (.int .i64 (.l 4)) [])
        (.ite (.lt (.l 4) (.a 3))
         (.ret false (.int .i64 (.l 4)) [])
         (.ite (.lt (.a 4) (.l 0))
          (.ret false (.int .i64 (.l 4)) [])
          (.ite (.lt (.l 4) (.a 4))
           (.ret false (.int .i64 (.l 4)) [])
           (.ite (.lt (.a 5) (.l 0))
            (.ret false (.int .i64 (.l 4)) [])
            (.ite (.lt (.l 4) (.a 5))
             (.ret false (.int .i64 (.l 4)) [])
             (.ret false (.int .i64 (.l 0)) [])))))))))))))
def bundle_Check_S : Sx.Sys := ⟨[(.sh (.agg [(.int .i64), (.int .i64), (.int .i64), (.int .i64), (.int .i64), (.int .i64)]))], bundle_Check_s, []⟩
def bundle_Check_pats : List Cfg := []
theorem bundle_Check_ok : SysOk Try.prog 51 bundle_Check_S := sys_ok (c := (cg [] [] [] false false false)) (progOkG _ _ _ _ _ _) Try.func51 Try.call51 (by kernel_rfl) bundle_Check_pats bundle_Check_S 5000 rfl (by kernel_rfl) (by kernel_rfl)
def expr_Check_1_s : PT :=
 (.need (.is 0 0)
 (.ret false (.bool (.le (.slen 0) (.l 8))) []))
def expr_Check_1_S : Sx.Sys := ⟨[(.sh (.agg [(.int .i64), (.int .i64), (.int .i64), (.int .i64), (.int .i64), (.int .i64), (.int .i64), (.int .i64), .val]))], expr_Check_1_s, []⟩
def expr_Check_1_pats : List Cfg := []
theorem expr_Check_1_ok : SysOk Try.prog 59 expr_Check_1_S := sys_ok (c := (cg [] [] [] false false false)) (progOkG _ _ _ _ _ _) Try.func59 Try.call59 (by kernel_rfl) expr_Check_1_pats expr_Check_1_S 5000 rfl (by kernel_rfl) (by kernel_rfl)
def saleroomlaw11_awake_1_s : PT :=
 (.need (.and (.le (.l (-9223372036854775808)) (.mul (.a 7) (.l 2))) (.le (.mul (.a 7) (.l 2)) (.l 9223372036854775807)))
 (.ret false (.agg [(.int .i64 (.a 0)), (.int .i64 (.a 1)), (.int .i64 (.a 2)), (.int .i64 (.a 3)), (.int .i64 (.a 4)), (.int .i64 (.a 5)), (.int .i64 (.a 6)), (.int .i64 (.mul (.a 7) (.l 2))), (.va 0)]) []))
def saleroomlaw11_awake_1_S : Sx.Sys := ⟨[(.sh (.agg [(.int .i64), (.int .i64), (.int .i64), (.int .i64), (.int .i64), (.int .i64), (.int .i64), (.int .i64), .val]))], saleroomlaw11_awake_1_s, []⟩
def saleroomlaw11_awake_1_pats : List Cfg := []
theorem saleroomlaw11_awake_1_ok : SysOk Try.prog 67 saleroomlaw11_awake_1_S := sys_ok (c := (cg [] [] [] false false false)) (progOkG _ _ _ _ _ _) Try.func67 Try.call67 (by kernel_rfl) saleroomlaw11_awake_1_pats saleroomlaw11_awake_1_S 5000 rfl (by kernel_rfl) (by kernel_rfl)
def saleroomref07_Within_s : PT :=
 (.ite (.lt (.a 6) (.a 0))
  (.ret false (.bool (.t false)) [])
  (.ite (.lt (.a 7) (.a 1))
   (.ret false (.bool (.t false)) [])
   (.ite (.lt (.a 8) (.a 2))
    (.ret false (.bool (.t false)) [])
    (.ite (.lt (.a 9) (.a 3))
     (.ret false (.bool (.t false)) [])
     (.ite (.lt (.a 10) (.a 4))
      (.ret false (.bool (.t false)) [])
      (.ite (.lt (.a 11) (.a 5))
       (.ret false (.bool (.t false)) [])
       (.ret false (.bool (.t true)) [])))))))
def saleroomref07_Within_S : Sx.Sys := ⟨[(.sh (.agg [(.int .i64), (.int .i64), (.int .i64), (.int .i64), (.int .i64), (.int .i64)])), (.sh (.agg [(.int .i64), (.int .i64), (.int .i64), (.int .i64), (.int .i64), (.int .i64)]))], saleroomref07_Within_s, []⟩
def saleroomref07_Within_pats : List Cfg := []
theorem saleroomref07_Within_ok : SysOk Try.prog 75 saleroomref07_Within_S := sys_ok (c := (cg [] [] [] false false false)) (progOkG _ _ _ _ _ _) Try.func75 Try.call75 (by kernel_rfl) saleroomref07_Within_pats saleroomref07_Within_S 5000 rfl (by kernel_rfl) (by kernel_rfl)
end Go.Proofs.Ytbmfegliomkkfaa
