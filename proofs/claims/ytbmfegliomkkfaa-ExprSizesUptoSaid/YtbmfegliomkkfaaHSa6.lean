/- The trees of this seat's functions, part 6. Written by txgen.py. -/
import Derived.Test.YtbmfegliomkkfaaHTab
set_option linter.unusedSimpArgs false
set_option linter.unusedVariables false
set_option maxRecDepth 100000
namespace Go.Proofs.Ytbmfegliomkkfaa
open Go.Sx
def saleroomlaw11_ExprEqual_s : PT :=
 (.call 28 [(.agg [(.int .i64 (.a 0)), (.int .i64 (.a 1)), (.int .i64 (.a 2)), (.int .i64 (.a 3)), (.int .i64 (.a 4)), (.int .i64 (.a 5)), (.int .i64 (.a 6)), (.int .i64 (.a 7)), (.va 0)])] [] [(.one .bool)]
 (.ite (.not (.a 0))
  (.call 31 [] [] [(.one .bool)]
  (.ret false (.bool (.a 1)) []))
  (.call 28 [(.agg [(.int .i64 (.a 8)), (.int .i64 (.a 9)), (.int .i64 (.a 10)), (.int .i64 (.a 11)), (.int .i64 (.a 12)), (.int .i64 (.a 13)), (.int .i64 (.a 14)), (.int .i64 (.a 15)), (.va 1)])] [] [(.one .bool)]
  (.ite (.not (.a 1))
   (.call 31 [] [] [(.one .bool)]
   (.ret false (.bool (.a 2)) []))
   (.call 38 [(.agg [(.int .i64 (.a 0)), (.int .i64 (.a 1)), (.int .i64 (.a 2)), (.int .i64 (.a 3)), (.int .i64 (.a 4)), (.int .i64 (.a 5)), (.int .i64 (.a 6)), (.int .i64 (.a 7)), (.va 0)]), (.agg [(.int .i64 (.a 8)), (.int .i64 (.a 9)), (.int .i64 (.a 10)), (.int .i64 (.a 11)), (.int .i64 (.a 12)), (.int .i64 (.a 13)), (.int .i64 (.a 14)), (.int .i64 (.a 15)), (.va 1)])] [] [(.one .bool)]
   (.call 39 [(.agg [(.int .i64 (.a 0)), (.int .i64 (.a 1)), (.int .i64 (.a 2)), (.int .i64 (.a 3)), (.int .i64 (.a 4)), (.int .i64 (.a 5)), (.int .i64 (.a 6)), (.int .i64 (.a 7)), (.va 0)]), (.agg [(.int .i64 (.a 8)), (.int .i64 (.a 9)), (.int .i64 (.a 10)), (.int .i64 (.a 11)), (.int .i64 (.a 12)), (.int .i64 (.a 13)), (.int .i64 (.a 14)), (.int .i64 (.a 15)), (.va 1)])] [] [(.one .bool)]
   (.ite (.or (.and (.a 2) (.a 3)) (.and (.not (.a 2)) (.not (.a 3))))
    (.call 38 [(.agg [(.int .i64 (.a 0)), (.int .i64 (.a 1)), (.int .i64 (.a 2)), (.int .i64 (.a 3)), (.int .i64 (.a 4)), (.int .i64 (.a 5)), (.int .i64 (.a 6)), (.int .i64 (.a 7)), (.va 0)]), (.agg [(.int .i64 (.a 0)), (.int .i64 (.a 1)), (.int .i64 (.a 2)), (.int .i64 (.a 3)), (.int .i64 (.a 4)), (.int .i64 (.a 5)), (.int .i64 (.a 6)), (.int .i64 (.a 7)), (.va 0)])] [] [(.one .bool)]
    (.ite (.a 4)
     (.call 38 [(.agg [(.int .i64 (.a 0)), (.int .i64 (.a 1)), (.int .i64 (.a 2)), (.int .i64 (.a 3)), (.int .i64 (.a 4)), (.int .i64 (.a 5)), (.int .i64 (.a 6)), (.int .i64 (.a 7)), (.va 0)]), (.agg [(.int .i64 (.a 8)), (.int .i64 (.a 9)), (.int .i64 (.a 10)), (.int .i64 (.a 11)), (.int .i64 (.a 12)), (.int .i64 (.a 13)), (.int .i64 (.a 14)), (.int .i64 (.a 15)), (.va 1)])] [] [(.one .bool)]
     (.call 38 [(.agg [(.int .i64 (.a 8)), (.int .i64 (.a 9)), (.int .i64 (.a 10)), (.int .i64 (.a 11)), (.int .i64 (.a 12)), (.int .i64 (.a 13)), (.int .i64 (.a 14)), (.int .i64 (.a 15)), (.va 1)]), (.agg [(.int .i64 (.a 0)), (.int .i64 (.a 1)), (.int .i64 (.a 2)), (.int .i64 (.a 3)), (.int .i64 (.a 4)), (.int .i64 (.a 5)), (.int .i64 (.a 6)), (.int .i64 (.a 7)), (.va 0)])] [] [(.one .bool)]
     (.ite (.or (.and (.a 5) (.a 6)) (.and (.not (.a 5)) (.not (.a 6))))
      (.call 31 [] [] [(.one .bool)]
      (.ret false (.bool (.a 7)) []))
      (.ret false (.bool (.t false)) []))))
     (.ret false (.bool (.t false)) [])))
    (.ret false (.bool (.t false)) []))))))))
def saleroomlaw11_ExprEqual_S : Sx.Sys := ⟨[(.sh (.agg [(.int .i64), (.int .i64), (.int .i64), (.int .i64), (.int .i64), (.int .i64), (.int .i64), (.int .i64), .val])), (.sh (.agg [(.int .i64), (.int .i64), (.int .i64), (.int .i64), (.int .i64), (.int .i64), (.int .i64), (.int .i64), .val]))], saleroomlaw11_ExprEqual_s, []⟩
def saleroomlaw11_ExprEqual_pats : List Cfg := []
theorem saleroomlaw11_ExprEqual_ok : SysOk Try.prog 10 saleroomlaw11_ExprEqual_S := sys_ok (c := (cg [] [] [] false false false)) (progOkG _ _ _ _ _ _) Try.func10 Try.call10 (by kernel_rfl) saleroomlaw11_ExprEqual_pats saleroomlaw11_ExprEqual_S 5000 rfl (by kernel_rfl) (by kernel_rfl)
def saleroomref07_Count_s : PT :=
 (.call 54 [(.agg [(.int .i64 (.a 0)), (.int .i64 (.a 1)), (.int .i64 (.a 2)), (.int .i64 (.a 3)), (.int .i64 (.a 4)), (.int .i64 (.a 5))])] [] [(.one (.int .i64))]
 (.ite (.not (.eq (.a 6) (.l 0)))
  (.ret false (.int .i64 (.l 0)) [])
  (.need (.and (.le (.l (-9223372036854775808)) (.add (.a 0) (.l 1))) (.le (.add (.a 0) (.l 1)) (.l 9223372036854775807)))
  (.need (.and (.le (.l (-9223372036854775808)) (.mul (.l 1) (.add (.a 0) (.l 1)))) (.le (.mul (.l 1) (.add (.a 0) (.l 1))) (.l 9223372036854775807)))
  (.need (.and (.le (.l (-9223372036854775808)) (.add (.a 1) (.l 1))) (.le (.add (.a 1) (.l 1)) (.l 9223372036854775807)))
  (.need (.and (.le (.l (-9223372036854775808)) (.mul (.mul (.l 1) (.add (.a 0) (.l 1))) (.add (.a 1) (.l 1)))) (.le (.mul (.mul (.l 1) (.add (.a 0) (.l 1))) (.add (.a 1) (.l 1))) (.l 9223372036854775807)))
  (.need (.and (.le (.l (-9223372036854775808)) (.add (.a 2) (.l 1))) (.le (.add (.a 2) (.l 1)) (.l 9223372036854775807)))
  (.need (.and (.le (.l (-9223372036854775808)) (.mul (.mul (.mul (.l 1) (.add (.a 0) (.l 1))) (.add (.a 1) (.l 1))) (.add (.a 2) (.l 1)))) (.le (.mul (.mul (.mul (.l 1) (.add (.a 0) (.l 1))) (.add (.a 1) (.l 1))) (.add (.a 2) (.l 1))) (.l 9223372036854775807)))
  (.need (.and (.le (.l (-9223372036854775808)) (.add (.a 3) (.l 1))) (.le (.add (.a 3) (.l 1)) (.l 9223372036854775807)))
  (.need (.and (.le (.l (-9223372036854775808)) (.mul (.mul (.mul (.mul (.l 1) (.add (.a 0) (.l 1))) (.add (.a 1) (.l 1))) (.add (.a 2) (.l 1))) (.add (.a 3) (.l 1)))) (.le (.mul (.mul (.mul (.mul (.l 1) (.add (.a 0) (.l 1))) (.add (.a 1) (.l 1))) (.add (.a 2) (.l 1))) (.add (.a 3) (.l 1))) (.l 9223372036854775807)))
  (.need (.and (.le (.l (-9223372036854775808)) (.add (.a 4) (.l 1))) (.le (.add (.a 4) (.l 1)) (.l 9223372036854775807)))
  (.need (.and (.le (.l (-9223372036854775808)) (.mul (.mul (.mul (.mul (.mul (.l 1) (.add (.a 0) (.l 1))) (.add (.a 1) (.l 1))) (.add (.a 2) (.l 1))) (.add (.a 3) (.l 1))) (.add (.a 4) (.l 1)))) (.le (.mul (.mul (.mul (.mul (.mul (.l 1) (.add (.a 0) (.l 1))) (.add (.a 1) (.l 1))) (.add (.a 2) (.l 1))) (.add (.a 3) (.l 1))) (.add (.a 4) (.l 1))) (.l 9223372036854775807)))
  (.need (.and (.le (.l (-9223372036854775808)) (.add (.a 5) (.l 1))) (.le (.add (.a 5) (.l 1)) (.l 9223372036854775807)))
  (.need (.and (.le (.l (-9223372036854775808)) (.mul (.mul (.mul (.mul (.mul (.mul (.l 1) (.add (.a 0) (.l 1))) (.add (.a 1) (.l 1))) (.add (.a 2) (.l 1))) (.add (.a 3) (.l 1))) (.add (.a 4) (.l 1))) (.add (.a 5) (.l 1)))) (.le (.mul (.mul (.mul (.mul (.mul (.mul (.l 1) (.add (.a 0) (.l 1))) (.add (.a 1) (.l 1))) (.add (.a 2) (.l 1))) (.add (.a 3) (.l 1))) (.add (.a 4) (.l 1))) (.add (.a 5) (.l 1))) (.l 9223372036854775807)))
  (.ite (.lt (.l 1024) (.mul (.mul (.mul (.mul (.mul (.mul (.l 1) (.add (.a 0) (.l 1))) (.add (.a 1) (.l 1))) (.add (.a 2) (.l 1))) (.add (.a 3) (.l 1))) (.add (.a 4) (.l 1))) (.add (.a 5) (.l 1))))
   (.ret false (.int .i64 (.l 0)) [])
   (.ret false (.int .i64 (.mul (.mul (.mul (.mul (.mul (.mul (.l 1) (.add (.a 0) (.l 1))) (.add (.a 1) (.l 1))) (.add (.a 2) (.l 1))) (.add (.a 3) (.l 1))) (.add (.a 4) (.l 1))) (.add (.a 5) (.l 1)))) []))))))))))))))))
def saleroomref07_Count_S : Sx.Sys := ⟨[(.sh (.agg [(.int .i64), (.int .i64), (.int .i64), (.int .i64), (.int .i64), (.int .i64)]))], saleroomref07_Count_s, []⟩
def saleroomref07_Count_pats : List Cfg := []
theorem saleroomref07_Count_ok : SysOk Try.prog 18 saleroomref07_Count_S := sys_ok (c := (cg [] [] [] false false false)) (progOkG _ _ _ _ _ _) Try.func18 Try.call18 (by kernel_rfl) saleroomref07_Count_pats saleroomref07_Count_S 5000 rfl (by kernel_rfl) (by kernel_rfl)
def expr_Check_s : PT :=
 (.call 34 [(.agg [(.int .i64 (.a 0)), (.int .i64 (.a 1)), (.int .i64 (.a 2)), (.int .i64 (.a 3)), (.int .i64 (.a 4)), (.int .i64 (.a 5)), (.int .i64 (.a 6)), (.int .i64 (.a 7)), (.va 0)])] [] [(.one (.int .i64))]
 (.ite (.lt (.l 6) (.a 8))
  (.ret false (.int .i64 (.l 9)) [])
  (.call 60 [(.agg [(.fn 59 [])]), (.agg [(.int .i64 (.a 0)), (.int .i64 (.a 1)), (.int .i64 (.a 2)), (.int .i64 (.a 3)), (.int .i64 (.a 4)), (.int .i64 (.a 5)), (.int .i64 (.a 6)), (.int .i64 (.a 7)), (.va 0)])] [] [(.one .bool)]
  (.ite (.not (.a 0))
   (.ret false (.int .i64 (.l 3)) [])
   (.call 32 [(.agg [(.int .i64 (.a 0)), (.int .i64 (.a 1)), (.int .i64 (.a 2)), (.int .i64 (.a 3)), (.int .i64 (.a 4)), (.int .i64 (.a 5)), (.int .i64 (.a 6)), (.int .i64 (.a 7)), (.va 0)])] [] [(.one (.int .i64))]
   (.ite (.lt (.l 40) (.a 9))
    (.ret false (.int .i64 (.l 3)) [])
    (.newM [(.int .i64 (.l 0))] 51
    (.storeM (.pa 1 0) [(.int .i64 (.l 0))]
    (.call 60 [(.agg [(.fn 61 [(.pa 1 0)])]), (.agg [(.int .i64 (.a 0)), (.int .i64 (.a 1)), (.int .i64 (.a 2)), (.int .i64 (.a 3)), (.int .i64 (.a 4)), (.int .i64 (.a 5)), (.int .i64 (.a 6)), (.int .i64 (.a 7)), (.va 0)])] [] [(.one .bool)]
    (.load false (.pa 1 0) [(.int .i64)]
    (.ret false (.int .i64 (.a 10)) [])))))))))))
def expr_Check_S : Sx.Sys := ⟨[(.sh (.agg [(.int .i64), (.int .i64), (.int .i64), (.int .i64), (.int .i64), (.int .i64), (.int .i64), (.int .i64), .val]))], expr_Check_s, []⟩
def expr_Check_pats : List Cfg := []
theorem expr_Check_ok : SysOk Try.prog 29 expr_Check_S := sys_ok (c := (cg [] [4] [] true false false)) (progOkG _ _ _ _ _ _) Try.func29 Try.call29 (by kernel_rfl) expr_Check_pats expr_Check_S 5000 rfl (by kernel_rfl) (by kernel_rfl)
def saleroomref11_Products_s : PT :=
 (.call 64 [(.agg [(.int .i64 (.a 0)), (.int .i64 (.a 1)), (.int .i64 (.a 2)), (.int .i64 (.a 3)), (.int .i64 (.a 4)), (.int .i64 (.a 5)), (.int .i64 (.a 6)), (.int .i64 (.a 7)), (.va 0)])] [] [(.one .val)]
 (.jump 0 [(.l 0), (.a 0), (.a 1), (.a 2), (.a 3), (.a 4), (.a 5), (.a 6), (.a 7), (.l 0), (.l 0), (.l 0), (.l 0), (.l 0), (.l 0)] [] [(.va 1), (.va 0)]))
def saleroomref11_Products_t0 : PT :=
 (.need (.is 0 0)
 (.ite (.lt (.a 0) (.slen 0))
  (.need (.and (.le (.l 0) (.a 0)) (.lt (.a 0) (.slen 0)))
  (.load true (.ea 0 (.a 0) 9 1) [(.int .i64)]
  (.need (.and (.le (.l 0) (.a 0)) (.lt (.a 0) (.slen 0)))
  (.load true (.ea 0 (.a 0) 9 2) [(.int .i64)]
  (.need (.and (.le (.l 0) (.a 0)) (.lt (.a 0) (.slen 0)))
  (.load true (.ea 0 (.a 0) 9 3) [(.int .i64)]
  (.need (.and (.le (.l 0) (.a 0)) (.lt (.a 0) (.slen 0)))
  (.load true (.ea 0 (.a 0) 9 4) [(.int .i64)]
  (.need (.and (.le (.l 0) (.a 0)) (.lt (.a 0) (.slen 0)))
  (.load true (.ea 0 (.a 0) 9 5) [(.int .i64)]
  (.need (.and (.le (.l 0) (.a 0)) (.lt (.a 0) (.slen 0)))
  (.load true (.ea 0 (.a 0) 9 6) [(.int .i64)]
  (.need (.and (.le (.l (-9223372036854775808)) (.add (.a 0) (.l 1))) (.le (.add (.a 0) (.l 1)) (.l 9223372036854775807)))
  (.jump 0 [(.add (.a 0) (.l 1)), (.a 1), (.a 2), (.a 3), (.a 4), (.a 5), (.a 6), (.a 7), (.a 8), (.mx (.a 9) (.a 15)), (.mx (.a 10) (.a 16)), (.mx (.a 11) (.a 17)), (.mx (.a 12) (.a 18)), (.mx (.a 13) (.a 19)), (.mx (.a 14) (.a 20))] [] [(.va 0), (.va 1)]))))))))))))))
  (.ret false (.agg [(.int .i64 (.a 9)), (.int .i64 (.a 10)), (.int .i64 (.a 11)), (.int .i64 (.a 12)), (.int .i64 (.a 13)), (.int .i64 (.a 14))]) [])))
def saleroomref11_Products_S : Sx.Sys := ⟨[(.sh (.agg [(.int .i64), (.int .i64), (.int .i64), (.int .i64), (.int .i64), (.int .i64), (.int .i64), (.int .i64), .val]))], saleroomref11_Products_s, [saleroomref11_Products_t0]⟩
def saleroomref11_Products_pats : List Cfg := [{ todo := [(.code [false, false, true, false, true, true, true]), (.inLoop [false, false, true, false, true, true, true]), (.inBlock 0), (.code [true, true, true, true])], sl := [(.junk 0), (.junk 1), (.ptr 1 0), (.ptr 2 0), (.va 0), (.int .i64 (.a 0)), (.junk 2), (.junk 3), (.junk 4), (.junk 5), (.junk 6), (.junk 7), (.junk 8), (.junk 9), (.junk 10), (.junk 11), (.junk 12), (.junk 13), (.junk 14), (.junk 15), (.junk 16), (.junk 17), (.junk 18), (.junk 19), (.junk 20), (.junk 21), (.junk 22), (.junk 23), (.junk 24), (.junk 25), (.junk 26), (.junk 27), .undef], H := [(.cells [(.int .i64 (.a 1)), (.int .i64 (.a 2)), (.int .i64 (.a 3)), (.int .i64 (.a 4)), (.int .i64 (.a 5)), (.int .i64 (.a 6)), (.int .i64 (.a 7)), (.int .i64 (.a 8)), (.va 1)] 49 false), (.cells [(.int .i64 (.l 0)), (.int .i64 (.l 0)), (.int .i64 (.l 0)), (.int .i64 (.l 0)), (.int .i64 (.l 0)), (.int .i64 (.l 0))] 26 false), (.cells [(.int .i64 (.a 9)), (.int .i64 (.a 10)), (.int .i64 (.a 11)), (.int .i64 (.a 12)), (.int .i64 (.a 13)), (.int .i64 (.a 14))] 26 false)], ni := 15, nb := 0, nv := 2, nj := 28 }]
theorem saleroomref11_Products_ok : SysOk Try.prog 37 saleroomref11_Products_S := sys_ok (c := (cg [[false, false, true, false, true, true, true]] [] [] false false false)) (progOkG _ _ _ _ _ _) Try.func37 Try.call37 (by kernel_rfl) saleroomref11_Products_pats saleroomref11_Products_S 5000 rfl (by kernel_rfl) (by kernel_rfl)
def expr_Map_s : PT :=
 (.need (.is 2 1)
 (.ite (.nil 1)
  (.call 43 [(.agg [(.int .i64 (.a 0)), (.int .i64 (.a 1)), (.int .i64 (.a 2)), (.int .i64 (.a 3)), (.int .i64 (.a 4)), (.int .i64 (.a 5)), (.int .i64 (.a 6)), (.int .i64 (.a 7)), (.va 0)])] [] [(.agg [(.int .i64), (.int .i64), (.int .i64), (.int .i64), (.int .i64), (.int .i64), (.int .i64), (.int .i64), .val])]
  (.ret false (.agg [(.int .i64 (.a 8)), (.int .i64 (.a 9)), (.int .i64 (.a 10)), (.int .i64 (.a 11)), (.int .i64 (.a 12)), (.int .i64 (.a 13)), (.int .i64 (.a 14)), (.int .i64 (.a 15)), (.va 2)]) []))
  (.need (.is 0 0)
  (.jump 0 [(.slen 0), (.l 0), (.a 0), (.a 1), (.a 2), (.a 3), (.a 4), (.a 5), (.a 6), (.a 7)] [] [(.va 1), .nilS, (.va 0)]))))
def expr_Map_t0 : PT :=
 (.ite (.lt (.a 1) (.a 0))
  (.need (.and (.le (.l 0) (.a 1)) (.lt (.a 1) (.slen 2)))
  (.load false (.ea 2 (.a 1) 9 0) [(.int .i64), (.int .i64), (.int .i64), (.int .i64), (.int .i64), (.int .i64), (.int .i64), (.int .i64), .val]
  (.call 45 [(.agg [(.int .i64 (.a 10)), (.int .i64 (.a 11)), (.int .i64 (.a 12)), (.int .i64 (.a 13)), (.int .i64 (.a 14)), (.int .i64 (.a 15)), (.int .i64 (.a 16)), (.int .i64 (.a 17)), (.va 3)]), (.va 0)] [] [(.agg [(.int .i64), (.int .i64), (.int .i64), (.int .i64), (.int .i64), (.int .i64), (.int .i64), (.int .i64), .val])]
  (.app none (.lit [[(.int .i64 (.a 18)), (.int .i64 (.a 19)), (.int .i64 (.a 20)), (.int .i64 (.a 21)), (.int .i64 (.a 22)), (.int .i64 (.a 23)), (.int .i64 (.a 24)), (.int .i64 (.a 25)), (.va 4)]]) 9
  (.appM (.va 1) (.va 5) 9 49
  (.need (.and (.le (.l (-9223372036854775808)) (.add (.a 1) (.l 1))) (.le (.add (.a 1) (.l 1)) (.l 9223372036854775807)))
  (.jump 0 [(.a 0), (.add (.a 1) (.l 1)), (.a 2), (.a 3), (.a 4), (.a 5), (.a 6), (.a 7), (.a 8), (.a 9)] [] [(.va 0), (.va 6), (.va 2)])))))))
  (.callv 0 [(.agg [(.int .i64 (.a 2)), (.int .i64 (.a 3)), (.int .i64 (.a 4)), (.int .i64 (.a 5)), (.int .i64 (.a 6)), (.int .i64 (.a 7)), (.int .i64 (.a 8)), (.int .i64 (.a 9)), (.va 1)])] [(.agg [(.int .i64), (.int .i64), (.int .i64), (.int .i64), (.int .i64), (.int .i64), (.int .i64), (.int .i64), .val])]
  (.ret false (.agg [(.int .i64 (.a 10)), (.int .i64 (.a 11)), (.int .i64 (.a 12)), (.int .i64 (.a 13)), (.int .i64 (.a 14)), (.int .i64 (.a 15)), (.int .i64 (.a 16)), (.int .i64 (.a 17)), (.va 3)]) [])))
def expr_Map_S : Sx.Sys := ⟨[(.sh (.agg [(.int .i64), (.int .i64), (.int .i64), (.int .i64), (.int .i64), (.int .i64), (.int .i64), (.int .i64), .val])), (.sh (.one .val))], expr_Map_s, [expr_Map_t0]⟩
def expr_Map_pats : List Cfg := [{ todo := [(.code [false, false, true, false, true, true, true]), (.inLoop [false, false, true, false, true, true, true]), (.inBlock 0), (.code [true, true, true, true])], sl := [(.junk 0), (.va 0), (.ptr 0 0), .undef, (.ptr 1 0), (.va 1), .undef, (.junk 1), (.junk 2), (.junk 3), .undef, .undef, (.junk 4), (.va 2), (.int .i64 (.a 0)), (.int .i64 (.a 1)), (.junk 5), (.junk 6), (.junk 7), (.junk 8), (.junk 9), (.junk 10), (.junk 11), (.junk 12), (.junk 13), (.junk 14), .undef, .undef, .undef, .undef, .undef], H := [(.cells [(.int .i64 (.a 2)), (.int .i64 (.a 3)), (.int .i64 (.a 4)), (.int .i64 (.a 5)), (.int .i64 (.a 6)), (.int .i64 (.a 7)), (.int .i64 (.a 8)), (.int .i64 (.a 9)), (.va 2)] 49 false), (.cells [(.int .i64 (.l 0)), (.int .i64 (.l 0)), (.int .i64 (.l 0)), (.int .i64 (.l 0)), (.int .i64 (.l 0)), (.int .i64 (.l 0)), (.int .i64 (.l 0)), (.int .i64 (.l 0)), .nilS] 49 false)], ni := 10, nb := 0, nv := 3, nj := 15 }]
theorem expr_Map_ok : SysOk Try.prog 45 expr_Map_S := sys_ok (c := (cg [[false, false, true, false, true, true, true]] [] [(28, [49])] true false true)) (progOkG _ _ _ _ _ _) Try.func45 Try.call45 (by kernel_rfl) expr_Map_pats expr_Map_S 5000 rfl (by kernel_rfl) (by kernel_rfl)
def demandset_counting_s : PT :=
 (.need (.is 0 0)
 (.jump 0 [(.slen 0), (.l 0)] [] [.nilS, (.va 0)]))
def demandset_counting_t0 : PT :=
 (.ite (.lt (.a 1) (.a 0))
  (.need (.and (.le (.l 0) (.a 1)) (.lt (.a 1) (.slen 1)))
  (.load false (.ea 1 (.a 1) 8 0) [(.int .i64), (.int .i64), (.int .i64), (.int .i64), (.int .i64), (.int .i64), (.int .i64), (.int .i64)]
  (.call 51 [(.agg [(.int .i64 (.a 3)), (.int .i64 (.a 4)), (.int .i64 (.a 5)), (.int .i64 (.a 6)), (.int .i64 (.a 7)), (.int .i64 (.a 8))])] [] [(.one (.int .i64))]
  (.ite (.eq (.a 10) (.l 0))
   (.ite (.le (.l 1) (.a 9))
    (.ite (.le (.a 9) (.l 1000000))
     (.app none (.lit [[(.int .i64 (.a 2)), (.int .i64 (.a 3)), (.int .i64 (.a 4)), (.int .i64 (.a 5)), (.int .i64 (.a 6)), (.int .i64 (.a 7)), (.int .i64 (.a 8)), (.int .i64 (.a 9))]]) 8
     (.app (some 0) (.va 2) 8
     (.need (.and (.le (.l (-9223372036854775808)) (.add (.a 1) (.l 1))) (.le (.add (.a 1) (.l 1)) (.l 9223372036854775807)))
     (.jump 0 [(.a 0), (.add (.a 1) (.l 1))] [] [(.va 3), (.va 1)]))))
     (.need (.and (.le (.l (-9223372036854775808)) (.add (.a 1) (.l 1))) (.le (.add (.a 1) (.l 1)) (.l 9223372036854775807)))
     (.jump 0 [(.a 0), (.add (.a 1) (.l 1))] [] [(.va 0), (.va 1)])))
    (.need (.and (.le (.l (-9223372036854775808)) (.add (.a 1) (.l 1))) (.le (.add (.a 1) (.l 1)) (.l 9223372036854775807)))
    (.jump 0 [(.a 0), (.add (.a 1) (.l 1))] [] [(.va 0), (.va 1)])))
   (.need (.and (.le (.l (-9223372036854775808)) (.add (.a 1) (.l 1))) (.le (.add (.a 1) (.l 1)) (.l 9223372036854775807)))
   (.jump 0 [(.a 0), (.add (.a 1) (.l 1))] [] [(.va 0), (.va 1)]))))))
  (.ret false (.va 0) []))
def demandset_counting_S : Sx.Sys := ⟨[(.sh (.one .val))], demandset_counting_s, [demandset_counting_t0]⟩
def demandset_counting_pats : List Cfg := [{ todo := [(.code [false, false, true, false, true, true]), (.inLoop [false, false, true, false, true, true]), (.inBlock 0), (.code [true, true, true])], sl := [(.junk 0), .undef, (.junk 1), (.va 0), .undef, (.junk 2), (.va 1), (.int .i64 (.a 0)), (.int .i64 (.a 1)), (.junk 3), (.junk 4), (.junk 5), (.junk 6), (.junk 7), (.junk 8), (.junk 9), (.junk 10), (.junk 11), (.junk 12), (.junk 13), (.junk 14), (.junk 15), (.junk 16), (.junk 17), (.junk 18), (.junk 19), (.junk 20), (.junk 21), (.junk 22), (.junk 23), (.junk 24), .undef], H := [(.row 0 65 8)], ni := 2, nb := 0, nv := 2, nj := 25 }]
theorem demandset_counting_ok : SysOk Try.prog 53 demandset_counting_S := sys_ok (c := (cg [[false, false, true, false, true, true]] [] [] false false false)) (progOkG _ _ _ _ _ _) Try.func53 Try.call53 (by kernel_rfl) demandset_counting_pats demandset_counting_S 5000 rfl (by kernel_rfl) (by kernel_rfl)
def expr_Check_2_s : PT :=
 (.call 62 [(.agg [(.int .i64 (.a 0)), (.int .i64 (.a 1)), (.int .i64 (.a 2)), (.int .i64 (.a 3)), (.int .i64 (.a 4)), (.int .i64 (.a 5)), (.int .i64 (.a 6)), (.int .i64 (.a 7)), (.va 0)])] [] [(.one .bool)]
 (.ite (.not (.a 0))
  (.storeM (.pa 1 0) [(.int .i64 (.l 2))]
  (.load false (.pa 1 0) [(.int .i64)]
  (.ret true (.bool (.eq (.a 8) (.l 0))) [])))
  (.call 63 [(.agg [(.int .i64 (.a 0)), (.int .i64 (.a 1)), (.int .i64 (.a 2)), (.int .i64 (.a 3)), (.int .i64 (.a 4)), (.int .i64 (.a 5)), (.int .i64 (.a 6)), (.int .i64 (.a 7)), (.va 0)])] [] [(.one .bool)]
  (.ite (.not (.a 1))
   (.storeM (.pa 1 0) [(.int .i64 (.l 4))]
   (.load false (.pa 1 0) [(.int .i64)]
   (.ret true (.bool (.eq (.a 8) (.l 0))) [])))
   (.load false (.pa 1 0) [(.int .i64)]
   (.ret true (.bool (.eq (.a 8) (.l 0))) []))))))
def expr_Check_2_S : Sx.Sys := ⟨[(.sh (.agg [(.int .i64), (.int .i64), (.int .i64), (.int .i64), (.int .i64), (.int .i64), (.int .i64), (.int .i64), .val])), .ptr], expr_Check_2_s, []⟩
def expr_Check_2_pats : List Cfg := []
theorem expr_Check_2_ok : SysOk Try.prog 61 expr_Check_2_S := sys_ok (c := (cg [] [] [] true true false)) (progOkG _ _ _ _ _ _) Try.func61 Try.call61 (by kernel_rfl) expr_Check_2_pats expr_Check_2_S 5000 rfl (by kernel_rfl) (by kernel_rfl)
def expr_Products_1_s : PT :=
 (.load false (.pa 1 0) [(.int .i64), (.int .i64), (.int .i64), (.int .i64), (.int .i64), (.int .i64)]
 (.call 70 [(.agg [(.int .i64 (.a 8)), (.int .i64 (.a 9)), (.int .i64 (.a 10)), (.int .i64 (.a 11)), (.int .i64 (.a 12)), (.int .i64 (.a 13))]), (.agg [(.int .i64 (.a 1)), (.int .i64 (.a 2)), (.int .i64 (.a 3)), (.int .i64 (.a 4)), (.int .i64 (.a 5)), (.int .i64 (.a 6))])] [] [(.agg [(.int .i64), (.int .i64), (.int .i64), (.int .i64), (.int .i64), (.int .i64)])]
 (.storeM (.pa 1 0) [(.int .i64 (.a 14)), (.int .i64 (.a 15)), (.int .i64 (.a 16)), (.int .i64 (.a 17)), (.int .i64 (.a 18)), (.int .i64 (.a 19))]
 (.ret true (.bool (.t true)) []))))
def expr_Products_1_S : Sx.Sys := ⟨[(.sh (.agg [(.int .i64), (.int .i64), (.int .i64), (.int .i64), (.int .i64), (.int .i64), (.int .i64), (.int .i64), .val])), .ptr], expr_Products_1_s, []⟩
def expr_Products_1_pats : List Cfg := []
theorem expr_Products_1_ok : SysOk Try.prog 69 expr_Products_1_S := sys_ok (c := (cg [] [] [] true true false)) (progOkG _ _ _ _ _ _) Try.func69 Try.call69 (by kernel_rfl) expr_Products_1_pats expr_Products_1_S 5000 rfl (by kernel_rfl) (by kernel_rfl)
def bundle_All_1_s : PT :=
 (.ret false (.tup []) [])
def bundle_All_1_S : Sx.Sys := ⟨[(.sh (.one .val))], bundle_All_1_s, []⟩
def bundle_All_1_pats : List Cfg := []
theorem bundle_All_1_ok : SysOk Try.prog 77 bundle_All_1_S := sys_ok (c := (cg [] [] [] false false false)) (progOkG _ _ _ _ _ _) Try.func77 Try.call77 (by kernel_rfl) bundle_All_1_pats bundle_All_1_S 5000 rfl (by kernel_rfl) (by kernel_rfl)
end Go.Proofs.Ytbmfegliomkkfaa
