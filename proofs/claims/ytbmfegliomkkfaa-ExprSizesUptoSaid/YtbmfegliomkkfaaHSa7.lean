/- The trees of this seat's functions, part 7. Written by txgen.py. -/
import Derived.Test.YtbmfegliomkkfaaHTab
set_option linter.unusedSimpArgs false
set_option linter.unusedVariables false
set_option maxRecDepth 100000
namespace Go.Proofs.Ytbmfegliomkkfaa
open Go.Sx
def saleroomlaw11_ExprAtoms_s : PT :=
 (.call 28 [(.agg [(.int .i64 (.a 0)), (.int .i64 (.a 1)), (.int .i64 (.a 2)), (.int .i64 (.a 3)), (.int .i64 (.a 4)), (.int .i64 (.a 5)), (.int .i64 (.a 6)), (.int .i64 (.a 7)), (.va 0)])] [] [(.one .bool)]
 (.ite (.not (.a 0))
  (.call 31 [] [] [(.one .bool)]
  (.ret false (.bool (.a 1)) []))
  (.call 40 [(.agg [(.int .i64 (.a 0)), (.int .i64 (.a 1)), (.int .i64 (.a 2)), (.int .i64 (.a 3)), (.int .i64 (.a 4)), (.int .i64 (.a 5)), (.int .i64 (.a 6)), (.int .i64 (.a 7)), (.va 0)])] [] [(.one .val)]
  (.call 42 [(.agg [(.int .i64 (.a 0)), (.int .i64 (.a 1)), (.int .i64 (.a 2)), (.int .i64 (.a 3)), (.int .i64 (.a 4)), (.int .i64 (.a 5)), (.int .i64 (.a 6)), (.int .i64 (.a 7)), (.va 0)])] [] [(.one .val)]
  (.call 41 [(.va 1), (.va 2)] [] [(.one .bool)]
  (.ite (.not (.a 1))
   (.ret false (.bool (.t false)) [])
   (.need (.is 0 0)
   (.jump 0 [(.slen 0), (.l 0), (.a 0), (.a 1), (.a 2), (.a 3), (.a 4), (.a 5), (.a 6), (.a 7)] [] [(.va 1), .nilS, (.va 0)]))))))))
def saleroomlaw11_ExprAtoms_t0 : PT :=
 (.ite (.lt (.a 1) (.a 0))
  (.need (.and (.le (.l 0) (.a 1)) (.lt (.a 1) (.slen 2)))
  (.load false (.ea 2 (.a 1) 9 0) [(.int .i64), (.int .i64), (.int .i64), (.int .i64), (.int .i64), (.int .i64), (.int .i64), (.int .i64), .val]
  (.call 40 [(.agg [(.int .i64 (.a 10)), (.int .i64 (.a 11)), (.int .i64 (.a 12)), (.int .i64 (.a 13)), (.int .i64 (.a 14)), (.int .i64 (.a 15)), (.int .i64 (.a 16)), (.int .i64 (.a 17)), (.va 3)])] [] [(.one .val)]
  (.app (some 1) (.va 4) 9
  (.need (.and (.le (.l (-9223372036854775808)) (.add (.a 1) (.l 1))) (.le (.add (.a 1) (.l 1)) (.l 9223372036854775807)))
  (.jump 0 [(.a 0), (.add (.a 1) (.l 1)), (.a 2), (.a 3), (.a 4), (.a 5), (.a 6), (.a 7), (.a 8), (.a 9)] [] [(.va 0), (.va 5), (.va 2)]))))))
  (.ite (.eq (.a 2) (.l 1))
   (.call 31 [] [] [(.one .bool)]
   (.ret false (.bool (.a 0)) []))
   (.call 41 [(.va 0), (.va 1)] [] [(.one .bool)]
   (.ite (.a 0)
    (.call 31 [] [] [(.one .bool)]
    (.ret false (.bool (.a 1)) []))
    (.ret false (.bool (.t false)) [])))))
def saleroomlaw11_ExprAtoms_S : Sx.Sys := ⟨[(.sh (.agg [(.int .i64), (.int .i64), (.int .i64), (.int .i64), (.int .i64), (.int .i64), (.int .i64), (.int .i64), .val]))], saleroomlaw11_ExprAtoms_s, [saleroomlaw11_ExprAtoms_t0]⟩
def saleroomlaw11_ExprAtoms_pats : List Cfg := [{ todo := [(.code [false, false, true, false, true, true, true, true, true]), (.inLoop [false, false, true, false, true, true, true, true, true]), (.inBlock 0), (.code [true, true, true, true, true, true])], sl := [(.junk 0), (.ptr 0 0), (.junk 1), (.va 0), (.va 1), .undef, (.junk 2), (.junk 3), (.junk 4), (.junk 5), .undef, (.junk 6), (.junk 7), (.junk 8), (.junk 9), (.junk 10), (.junk 11), (.junk 12), (.junk 13), (.va 2), (.int .i64 (.a 0)), (.int .i64 (.a 1)), (.junk 14), (.junk 15), (.junk 16), (.junk 17), (.junk 18), (.junk 19), (.junk 20), (.junk 21), .undef, .undef, .undef, .undef, .undef, .undef, .undef, .undef, .undef, .undef, .undef], H := [(.cells [(.int .i64 (.a 2)), (.int .i64 (.a 3)), (.int .i64 (.a 4)), (.int .i64 (.a 5)), (.int .i64 (.a 6)), (.int .i64 (.a 7)), (.int .i64 (.a 8)), (.int .i64 (.a 9)), (.va 2)] 49 false), (.row 1 49 9)], ni := 10, nb := 0, nv := 3, nj := 22 }]
theorem saleroomlaw11_ExprAtoms_ok : SysOk Try.prog 11 saleroomlaw11_ExprAtoms_S := sys_ok (c := (cg [[false, false, true, false, true, true, true, true, true]] [] [] false false false)) (progOkG _ _ _ _ _ _) Try.func11 Try.call11 (by kernel_rfl) saleroomlaw11_ExprAtoms_pats saleroomlaw11_ExprAtoms_S 5000 rfl (by kernel_rfl) (by kernel_rfl)
def saleroomref15_Best_s : PT :=
 (.call 22 [(.va 0), (.agg [(.int .i64 (.a 0)), (.int .i64 (.a 1)), (.int .i64 (.a 2)), (.int .i64 (.a 3)), (.int .i64 (.a 4)), (.int .i64 (.a 5))]), (.agg [(.int .i64 (.a 6)), (.int .i64 (.a 7)), (.int .i64 (.a 8)), (.int .i64 (.a 9)), (.int .i64 (.a 10)), (.int .i64 (.a 11))])] [] [(.one .val)]
 (.need (.is 0 1)
 (.ite (.eq (.slen 1) (.l 0))
  (.ret false (.tup [(.agg [(.int .i64 (.l 0)), (.int .i64 (.l 0)), (.int .i64 (.l 0)), (.int .i64 (.l 0)), (.int .i64 (.l 0)), (.int .i64 (.l 0))]), (.int .i64 (.l 0))]) [])
  (.need (.lt (.l 0) (.slen 1))
  (.need (.lt (.l 0) (.slen 1))
  (.load true (.ea 1 (.l 0) 6 0) [(.int .i64), (.int .i64), (.int .i64), (.int .i64), (.int .i64), (.int .i64)]
  (.load true (.ea 1 (.l 0) 6 0) [(.int .i64), (.int .i64), (.int .i64), (.int .i64), (.int .i64), (.int .i64)]
  (.call 17 [(.va 0), (.agg [(.int .i64 (.a 6)), (.int .i64 (.a 7)), (.int .i64 (.a 8)), (.int .i64 (.a 9)), (.int .i64 (.a 10)), (.int .i64 (.a 11))]), (.agg [(.int .i64 (.a 18)), (.int .i64 (.a 19)), (.int .i64 (.a 20)), (.int .i64 (.a 21)), (.int .i64 (.a 22)), (.int .i64 (.a 23))])] [] [(.one (.int .i64))]
  (.ret false (.tup [(.agg [(.int .i64 (.a 12)), (.int .i64 (.a 13)), (.int .i64 (.a 14)), (.int .i64 (.a 15)), (.int .i64 (.a 16)), (.int .i64 (.a 17))]), (.int .i64 (.a 24))]) [])))))))))
def saleroomref15_Best_S : Sx.Sys := ⟨[(.sh (.one .val)), (.sh (.agg [(.int .i64), (.int .i64), (.int .i64), (.int .i64), (.int .i64), (.int .i64)])), (.sh (.agg [(.int .i64), (.int .i64), (.int .i64), (.int .i64), (.int .i64), (.int .i64)]))], saleroomref15_Best_s, []⟩
def saleroomref15_Best_pats : List Cfg := []
theorem saleroomref15_Best_ok : SysOk Try.prog 20 saleroomref15_Best_S := sys_ok (c := (cg [] [] [] false false false)) (progOkG _ _ _ _ _ _) Try.func20 Try.call20 (by kernel_rfl) saleroomref15_Best_pats saleroomref15_Best_S 5000 rfl (by kernel_rfl) (by kernel_rfl)
def saleroomref11_Check_s : PT :=
 (.call 35 [(.agg [(.int .i64 (.a 0)), (.int .i64 (.a 1)), (.int .i64 (.a 2)), (.int .i64 (.a 3)), (.int .i64 (.a 4)), (.int .i64 (.a 5)), (.int .i64 (.a 6)), (.int .i64 (.a 7)), (.va 0)])] [] [(.one (.int .i64))]
 (.ite (.lt (.l 6) (.a 8))
  (.ret false (.int .i64 (.l 9)) [])
  (.call 64 [(.agg [(.int .i64 (.a 0)), (.int .i64 (.a 1)), (.int .i64 (.a 2)), (.int .i64 (.a 3)), (.int .i64 (.a 4)), (.int .i64 (.a 5)), (.int .i64 (.a 6)), (.int .i64 (.a 7)), (.va 0)])] [] [(.one .val)]
  (.need (.is 0 1)
  (.ite (.lt (.l 40) (.slen 1))
   (.ret false (.int .i64 (.l 3)) [])
   (.jump 0 [(.l 0)] [] [(.va 1)]))))))
def saleroomref11_Check_t0 : PT :=
 (.need (.is 0 0)
 (.ite (.lt (.a 0) (.slen 0))
  (.need (.and (.le (.l 0) (.a 0)) (.lt (.a 0) (.slen 0)))
  (.load false (.ea 0 (.a 0) 9 8) [.val]
  (.need (.is 0 1)
  (.ite (.lt (.l 8) (.slen 1))
   (.ret false (.int .i64 (.l 3)) [])
   (.need (.and (.le (.l (-9223372036854775808)) (.add (.a 0) (.l 1))) (.le (.add (.a 0) (.l 1)) (.l 9223372036854775807)))
   (.jump 0 [(.add (.a 0) (.l 1))] [] [(.va 0)]))))))
  (.jump 1 [(.l 0)] [] [(.va 0)])))
def saleroomref11_Check_t1 : PT :=
 (.need (.is 0 0)
 (.ite (.lt (.a 0) (.slen 0))
  (.need (.and (.le (.l 0) (.a 0)) (.lt (.a 0) (.slen 0)))
  (.load false (.ea 0 (.a 0) 9 0) [(.int .i64), (.int .i64), (.int .i64), (.int .i64), (.int .i64), (.int .i64), (.int .i64), (.int .i64), .val]
  (.call 65 [(.agg [(.int .i64 (.a 1)), (.int .i64 (.a 2)), (.int .i64 (.a 3)), (.int .i64 (.a 4)), (.int .i64 (.a 5)), (.int .i64 (.a 6)), (.int .i64 (.a 7)), (.int .i64 (.a 8)), (.va 1)])] [] [(.one .bool)]
  (.ite (.not (.a 0))
   (.ret false (.int .i64 (.l 2)) [])
   (.need (.and (.le (.l 0) (.a 0)) (.lt (.a 0) (.slen 0)))
   (.load false (.ea 0 (.a 0) 9 0) [(.int .i64), (.int .i64), (.int .i64), (.int .i64), (.int .i64), (.int .i64), (.int .i64), (.int .i64), .val]
   (.call 66 [(.agg [(.int .i64 (.a 9)), (.int .i64 (.a 10)), (.int .i64 (.a 11)), (.int .i64 (.a 12)), (.int .i64 (.a 13)), (.int .i64 (.a 14)), (.int .i64 (.a 15)), (.int .i64 (.a 16)), (.va 2)])] [] [(.one .bool)]
   (.ite (.not (.a 1))
    (.ret false (.int .i64 (.l 4)) [])
    (.need (.and (.le (.l (-9223372036854775808)) (.add (.a 0) (.l 1))) (.le (.add (.a 0) (.l 1)) (.l 9223372036854775807)))
    (.jump 1 [(.add (.a 0) (.l 1))] [] [(.va 0)]))))))))))
  (.ret false (.int .i64 (.l 0)) [])))
def saleroomref11_Check_S : Sx.Sys := ⟨[(.sh (.agg [(.int .i64), (.int .i64), (.int .i64), (.int .i64), (.int .i64), (.int .i64), (.int .i64), (.int .i64), .val]))], saleroomref11_Check_s, [saleroomref11_Check_t0, saleroomref11_Check_t1]⟩
def saleroomref11_Check_pats : List Cfg := [{ todo := [(.code [false, false, true, false, true, true, true, true]), (.inLoop [false, false, true, false, true, true, true, true]), (.inBlock 0), (.code [true, true, true, true, true])], sl := [(.junk 0), (.junk 1), (.junk 2), (.va 0), (.int .i64 (.a 0)), .undef, (.junk 3), (.junk 4), (.junk 5), (.junk 6), (.junk 7), (.junk 8), (.junk 9), (.junk 10), (.junk 11), (.junk 12), (.junk 13), (.junk 14), (.junk 15), (.junk 16), (.junk 17), (.junk 18), (.junk 19), (.junk 20), (.junk 21), (.junk 22), (.junk 23), .undef, .undef, .undef, .undef, .undef, .undef, .undef, .undef, .undef, .undef, .undef, .undef, .undef, .undef, .undef, .undef, .undef, .undef], H := [], ni := 1, nb := 0, nv := 1, nj := 24 },
 { todo := [(.code [false, false, true, false, true, true, true, true, true]), (.inLoop [false, false, true, false, true, true, true, true, true]), (.inBlock 2), (.code [true, true, true, true, true, true])], sl := [(.junk 0), (.junk 1), (.junk 2), (.va 0), (.junk 3), (.int .i64 (.a 0)), (.junk 4), (.junk 5), (.junk 6), (.junk 7), (.junk 8), (.junk 9), (.junk 10), (.junk 11), (.junk 12), (.junk 13), (.junk 14), (.junk 15), (.junk 16), (.junk 17), (.junk 18), (.junk 19), (.junk 20), (.junk 21), (.junk 22), (.junk 23), (.junk 24), (.junk 25), (.junk 26), (.junk 27), (.junk 28), (.junk 29), (.junk 30), (.junk 31), (.junk 32), (.junk 33), (.junk 34), (.junk 35), (.junk 36), (.junk 37), (.junk 38), (.junk 39), (.junk 40), (.junk 41), (.junk 42)], H := [], ni := 1, nb := 0, nv := 1, nj := 43 }]
theorem saleroomref11_Check_ok : SysOk Try.prog 30 saleroomref11_Check_S := sys_ok (c := (cg [[false, false, true, false, true, true, true, true], [false, false, true, false, true, true, true, true, true]] [] [] false false false)) (progOkG _ _ _ _ _ _) Try.func30 Try.call30 (by kernel_rfl) saleroomref11_Check_pats saleroomref11_Check_S 5000 rfl (by kernel_rfl) (by kernel_rfl)
def expr_Equal_s : PT :=
 (.ite (.not (.eq (.a 0) (.a 8)))
  (.ret false (.bool (.t false)) [])
  (.ite (.not (.and (.eq (.a 1) (.a 9)) (.and (.eq (.a 2) (.a 10)) (.and (.eq (.a 3) (.a 11)) (.and (.eq (.a 4) (.a 12)) (.and (.eq (.a 5) (.a 13)) (.eq (.a 6) (.a 14))))))))
   (.ret false (.bool (.t false)) [])
   (.ite (.not (.eq (.a 7) (.a 15)))
    (.ret false (.bool (.t false)) [])
    (.need (.is 0 0)
    (.need (.is 0 1)
    (.ite (.not (.eq (.slen 0) (.slen 1)))
     (.ret false (.bool (.t false)) [])
     (.need (.is 0 0)
     (.jump 0 [(.slen 0), (.l 0), (.a 0), (.a 1), (.a 2), (.a 3), (.a 4), (.a 5), (.a 6), (.a 7), (.a 8), (.a 9), (.a 10), (.a 11), (.a 12), (.a 13), (.a 14), (.a 15)] [] [(.va 0), (.va 1)]))))))))
def expr_Equal_t0 : PT :=
 (.ite (.lt (.a 1) (.a 0))
  (.need (.and (.le (.l 0) (.a 1)) (.lt (.a 1) (.slen 0)))
  (.need (.and (.le (.l 0) (.a 1)) (.lt (.a 1) (.slen 1)))
  (.load true (.ea 0 (.a 1) 9 0) [(.int .i64), (.int .i64), (.int .i64), (.int .i64), (.int .i64), (.int .i64), (.int .i64), (.int .i64), .val]
  (.load true (.ea 1 (.a 1) 9 0) [(.int .i64), (.int .i64), (.int .i64), (.int .i64), (.int .i64), (.int .i64), (.int .i64), (.int .i64), .val]
  (.call 38 [(.agg [(.int .i64 (.a 18)), (.int .i64 (.a 19)), (.int .i64 (.a 20)), (.int .i64 (.a 21)), (.int .i64 (.a 22)), (.int .i64 (.a 23)), (.int .i64 (.a 24)), (.int .i64 (.a 25)), (.va 2)]), (.agg [(.int .i64 (.a 26)), (.int .i64 (.a 27)), (.int .i64 (.a 28)), (.int .i64 (.a 29)), (.int .i64 (.a 30)), (.int .i64 (.a 31)), (.int .i64 (.a 32)), (.int .i64 (.a 33)), (.va 3)])] [] [(.one .bool)]
  (.ite (.not (.a 0))
   (.ret false (.bool (.t false)) [])
   (.need (.and (.le (.l (-9223372036854775808)) (.add (.a 1) (.l 1))) (.le (.add (.a 1) (.l 1)) (.l 9223372036854775807)))
   (.jump 0 [(.a 0), (.add (.a 1) (.l 1)), (.a 2), (.a 3), (.a 4), (.a 5), (.a 6), (.a 7), (.a 8), (.a 9), (.a 10), (.a 11), (.a 12), (.a 13), (.a 14), (.a 15), (.a 16), (.a 17)] [] [(.va 0), (.va 1)]))))))))
  (.ret false (.bool (.t true)) []))
def expr_Equal_S : Sx.Sys := ⟨[(.sh (.agg [(.int .i64), (.int .i64), (.int .i64), (.int .i64), (.int .i64), (.int .i64), (.int .i64), (.int .i64), .val])), (.sh (.agg [(.int .i64), (.int .i64), (.int .i64), (.int .i64), (.int .i64), (.int .i64), (.int .i64), (.int .i64), .val]))], expr_Equal_s, [expr_Equal_t0]⟩
def expr_Equal_pats : List Cfg := [{ todo := [(.code [false, false, true, false, true, true]), (.inLoop [false, false, true, false, true, true]), (.inBlock 0), (.code [true, true, true])], sl := [(.junk 0), (.junk 1), (.ptr 0 0), (.ptr 1 0), (.junk 2), (.junk 3), (.junk 4), (.junk 5), (.junk 6), (.junk 7), (.junk 8), (.junk 9), (.junk 10), (.junk 11), (.junk 12), (.junk 13), (.junk 14), (.junk 15), (.junk 16), (.junk 17), (.junk 18), (.junk 19), (.junk 20), (.junk 21), (.junk 22), (.junk 23), (.junk 24), (.junk 25), (.junk 26), (.junk 27), (.junk 28), (.junk 29), (.junk 30), (.junk 31), (.junk 32), (.junk 33), (.int .i64 (.a 0)), (.int .i64 (.a 1)), (.junk 34), (.junk 35), (.junk 36), (.junk 37), (.junk 38), (.junk 39), (.junk 40), (.junk 41), (.junk 42), (.junk 43), (.junk 44), (.junk 45), (.junk 46), (.junk 47), (.junk 48)], H := [(.cells [(.int .i64 (.a 2)), (.int .i64 (.a 3)), (.int .i64 (.a 4)), (.int .i64 (.a 5)), (.int .i64 (.a 6)), (.int .i64 (.a 7)), (.int .i64 (.a 8)), (.int .i64 (.a 9)), (.va 0)] 49 false), (.cells [(.int .i64 (.a 10)), (.int .i64 (.a 11)), (.int .i64 (.a 12)), (.int .i64 (.a 13)), (.int .i64 (.a 14)), (.int .i64 (.a 15)), (.int .i64 (.a 16)), (.int .i64 (.a 17)), (.va 1)] 49 false)], ni := 18, nb := 0, nv := 2, nj := 49 }]
theorem expr_Equal_ok : SysOk Try.prog 38 expr_Equal_S := sys_ok (c := (cg [[false, false, true, false, true, true]] [] [] false false false)) (progOkG _ _ _ _ _ _) Try.func38 Try.call38 (by kernel_rfl) expr_Equal_pats expr_Equal_S 5000 rfl (by kernel_rfl) (by kernel_rfl)
def saleroomlaw11_ExprMaps_1_s : PT :=
 (.load false (.pa 1 0) [(.int .i64)]
 (.need (.and (.le (.l (-9223372036854775808)) (.add (.a 8) (.l 1))) (.le (.add (.a 8) (.l 1)) (.l 9223372036854775807)))
 (.storeM (.pa 1 0) [(.int .i64 (.add (.a 8) (.l 1)))]
 (.load false (.pa 2 0) [(.int .i64)]
 (.call 47 [(.agg [(.int .i64 (.a 0)), (.int .i64 (.a 1)), (.int .i64 (.a 2)), (.int .i64 (.a 3)), (.int .i64 (.a 4)), (.int .i64 (.a 5)), (.int .i64 (.a 6)), (.int .i64 (.a 7)), (.va 0)]), (.int .i64 (.a 9))] [] [(.agg [(.int .i64), (.int .i64), (.int .i64), (.int .i64), (.int .i64), (.int .i64), (.int .i64), (.int .i64), .val])]
 (.ret true (.agg [(.int .i64 (.a 10)), (.int .i64 (.a 11)), (.int .i64 (.a 12)), (.int .i64 (.a 13)), (.int .i64 (.a 14)), (.int .i64 (.a 15)), (.int .i64 (.a 16)), (.int .i64 (.a 17)), (.va 3)]) []))))))
def saleroomlaw11_ExprMaps_1_S : Sx.Sys := ⟨[(.sh (.agg [(.int .i64), (.int .i64), (.int .i64), (.int .i64), (.int .i64), (.int .i64), (.int .i64), (.int .i64), .val])), .ptr, .ptr], saleroomlaw11_ExprMaps_1_s, []⟩
def saleroomlaw11_ExprMaps_1_pats : List Cfg := []
theorem saleroomlaw11_ExprMaps_1_ok : SysOk Try.prog 46 saleroomlaw11_ExprMaps_1_S := sys_ok (c := (cg [] [] [] true true false)) (progOkG _ _ _ _ _ _) Try.func46 Try.call46 (by kernel_rfl) saleroomlaw11_ExprMaps_1_pats saleroomlaw11_ExprMaps_1_S 5000 rfl (by kernel_rfl) (by kernel_rfl)
def saleroomref07_Check_s : PT :=
 (.ite (.lt (.a 0) (.l 0))
  (.ret false (.int .i64 (.l 4)) [])
  (.ite (.lt (.l 4) (.a 0))
   (.ret false (.int .i64 (.l 4)) [])
   (.ite (.lt (.a 1) (.l 0))
    (.ret false (.int .i64 (.l 4)) [])
    (.ite (.lt (.l 4) (.a 1))
     (.ret false (.int .i64 (.l 4)) [])
     (.ite (.lt (.a 2) (.l 0))
      (.ret false (.int .i64 (.l 4)) [])
      (.ite (.lt (.l 4) (.a 2))
       (.ret false (.int .i64 (.l 4)) [])
       (.ite (.lt (.a 3) (.l 0))
        (.ret false (.int .i64 (.l 4)) [])
        (.ite (.lt (.l 4) (.a 3))
         (.ret false (.int .i64 (.l 4)) [])
         (.ite (.lt (.a 4) (.l 0))
          (.ret false (.int .i64 (.l 4)) [])
          (.ite (.lt (.l 4) (.a 4))
           (.ret false (.int .i64 (.l 4)) [])
           (.ite (.lt (.a 5) (.l 0))
            (.ret false (.int .i64 (.l 4)) [])
            (.ite (.lt (.l 4) (.a 5))
             (.ret false (.int .i64 (.l 4)) [])
             (.ret false (.int .i64 (.l 0)) [])))))))))))))
def saleroomref07_Check_S : Sx.Sys := ⟨[(.sh (.agg [(.int .i64), (.int .i64), (.int .i64), (.int .i64), (.int .i64), (.int .i64)]))], saleroomref07_Check_s, []⟩
def saleroomref07_Check_pats : List Cfg := []
theorem saleroomref07_Check_ok : SysOk Try.prog 54 saleroomref07_Check_S := sys_ok (c := (cg [] [] [] false false false)) (progOkG _ _ _ _ _ _) Try.func54 Try.call54 (by kernel_rfl) saleroomref07_Check_pats saleroomref07_Check_S 5000 rfl (by kernel_rfl) (by kernel_rfl)
def expr_form_s : PT :=
 (.need (.is 0 0)
 (.ite (.eq (.a 0) (.l 1))
  (.ret false (.bool (.eq (.slen 0) (.l 0))) [])
  (.ite (.eq (.a 0) (.l 2))
   (.ite (.eq (.a 0) (.l 2))
    (.ite (.le (.l 1) (.slen 0))
     (.ite (.le (.slen 0) (.l 8))
      (.ite (.and (.eq (.a 1) (.l 0)) (.and (.eq (.a 2) (.l 0)) (.and (.eq (.a 3) (.l 0)) (.and (.eq (.a 4) (.l 0)) (.and (.eq (.a 5) (.l 0)) (.eq (.a 6) (.l 0)))))))
       (.ret false (.bool (.eq (.a 7) (.l 0))) [])
       (.ret false (.bool (.t false)) []))
      (.ret false (.bool (.t false)) []))
     (.ret false (.bool (.t false)) []))
    (.ite (.eq (.a 0) (.l 4))
     (.ret false (.bool (.eq (.slen 0) (.l 1))) [])
     (.ite (.eq (.a 0) (.l 5))
      (.ite (.eq (.slen 0) (.l 1))
       (.ret false (.bool (.and (.eq (.a 1) (.l 0)) (.and (.eq (.a 2) (.l 0)) (.and (.eq (.a 3) (.l 0)) (.and (.eq (.a 4) (.l 0)) (.and (.eq (.a 5) (.l 0)) (.eq (.a 6) (.l 0)))))))) [])
       (.ret false (.bool (.t false)) []))
      (.ret false (.bool (.t false)) []))))
   (.ite (.eq (.a 0) (.l 3))
    (.ite (.le (.l 1) (.slen 0))
     (.ite (.le (.slen 0) (.l 8))
      (.ite (.and (.eq (.a 1) (.l 0)) (.and (.eq (.a 2) (.l 0)) (.and (.eq (.a 3) (.l 0)) (.and (.eq (.a 4) (.l 0)) (.and (.eq (.a 5) (.l 0)) (.eq (.a 6) (.l 0)))))))
       (.ret false (.bool (.eq (.a 7) (.l 0))) [])
       (.ret false (.bool (.t false)) []))
      (.ret false (.bool (.t false)) []))
     (.ret false (.bool (.t false)) []))
    (.ite (.eq (.a 0) (.l 4))
     (.ret false (.bool (.eq (.slen 0) (.l 1))) [])
     (.ite (.eq (.a 0) (.l 5))
      (.ite (.eq (.slen 0) (.l 1))
       (.ret false (.bool (.and (.eq (.a 1) (.l 0)) (.and (.eq (.a 2) (.l 0)) (.and (.eq (.a 3) (.l 0)) (.and (.eq (.a 4) (.l 0)) (.and (.eq (.a 5) (.l 0)) (.eq (.a 6) (.l 0)))))))) [])
       (.ret false (.bool (.t false)) []))
      (.ret false (.bool (.t false)) [])))))))
def expr_form_S : Sx.Sys := ⟨[(.sh (.agg [(.int .i64), (.int .i64), (.int .i64), (.int .i64), (.int .i64), (.int .i64), (.int .i64), (.int .i64), .val]))], expr_form_s, []⟩
def expr_form_pats : List Cfg := []
theorem expr_form_ok : SysOk Try.prog 62 expr_form_S := sys_ok (c := (cg [] [] [] false false false)) (progOkG _ _ _ _ _ _) Try.func62 Try.call62 (by kernel_rfl) expr_form_pats expr_form_S 5000 rfl (by kernel_rfl) (by kernel_rfl)
def bundle_Join_s : PT :=
 (.ret false (.agg [(.int .i64 (.mx (.a 0) (.a 6))), (.int .i64 (.mx (.a 1) (.a 7))), (.int .i64 (.mx (.a 2) (.a 8))), (.int .i64 (.mx (.a 3) (.a 9))), (.int .i64 (.mx (.a 4) (.a 10))), (.int .i64 (.mx (.a 5) (.a 11)))]) [])
def bundle_Join_S : Sx.Sys := ⟨[(.sh (.agg [(.int .i64), (.int .i64), (.int .i64), (.int .i64), (.int .i64), (.int .i64)])), (.sh (.agg [(.int .i64), (.int .i64), (.int .i64), (.int .i64), (.int .i64), (.int .i64)]))], bundle_Join_s, []⟩
def bundle_Join_pats : List Cfg := []
theorem bundle_Join_ok : SysOk Try.prog 70 bundle_Join_S := sys_ok (c := (cg [] [] [] false false false)) (progOkG _ _ _ _ _ _) Try.func70 Try.call70 (by kernel_rfl) bundle_Join_pats bundle_Join_S 5000 rfl (by kernel_rfl) (by kernel_rfl)
def bundle_each_s : PT :=
 (.newM [(.int .i64 (.a 0)), (.int .i64 (.a 1)), (.int .i64 (.a 2)), (.int .i64 (.a 3)), (.int .i64 (.a 4)), (.int .i64 (.a 5))] 26
 (.ret false (.fn 81 [(.pa 0 0)]) []))
def bundle_each_S : Sx.Sys := ⟨[(.sh (.agg [(.int .i64), (.int .i64), (.int .i64), (.int .i64), (.int .i64), (.int .i64)]))], bundle_each_s, []⟩
def bundle_each_pats : List Cfg := []
theorem bundle_each_ok : SysOk Try.prog 78 bundle_each_S := sys_ok (c := (cg [] [1] [] true false false)) (progOkG _ _ _ _ _ _) Try.func78 Try.call78 (by kernel_rfl) bundle_each_pats bundle_each_S 5000 rfl (by kernel_rfl) (by kernel_rfl)
end Go.Proofs.Ytbmfegliomkkfaa
