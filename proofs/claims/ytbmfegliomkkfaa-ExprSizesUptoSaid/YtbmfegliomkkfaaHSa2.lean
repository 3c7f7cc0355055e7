/- The trees of this seat's functions, part 2. Written by txgen.py. -/
import Derived.Test.YtbmfegliomkkfaaHTab
set_option linter.unusedSimpArgs false
set_option linter.unusedVariables false
set_option maxRecDepth 100000
namespace Go.Proofs.Ytbmfegliomkkfaa
open Go.Sx
def saleroomlaw15_DemandsetOptimal_s : PT :=
 (.need (.is 0 0)
 (.ite (.lt (.l 60) (.slen 0))
  (.call 15 [] [] [(.one .bool)]
  (.ret false (.bool (.a 0)) []))
  (.call 23 [(.agg [(.int .i64 (.a 6)), (.int .i64 (.a 7)), (.int .i64 (.a 8)), (.int .i64 (.a 9)), (.int .i64 (.a 10)), (.int .i64 (.a 11))])] [] [(.one .bool)]
  (.ite (.not (.a 0))
   (.call 15 [] [] [(.one .bool)]
   (.ret false (.bool (.a 1)) []))
   (.call 18 [(.agg [(.int .i64 (.a 0)), (.int .i64 (.a 1)), (.int .i64 (.a 2)), (.int .i64 (.a 3)), (.int .i64 (.a 4)), (.int .i64 (.a 5))])] [] [(.one (.int .i64))]
   (.ite (.lt (.a 12) (.l 1))
    (.call 15 [] [] [(.one .bool)]
    (.ret false (.bool (.a 1)) []))
    (.call 18 [(.agg [(.int .i64 (.a 0)), (.int .i64 (.a 1)), (.int .i64 (.a 2)), (.int .i64 (.a 3)), (.int .i64 (.a 4)), (.int .i64 (.a 5))])] [] [(.one (.int .i64))]
    (.ite (.lt (.l 200) (.a 13))
     (.call 15 [] [] [(.one .bool)]
     (.ret false (.bool (.a 1)) []))
     (.call 19 [(.va 0), (.agg [(.int .i64 (.a 0)), (.int .i64 (.a 1)), (.int .i64 (.a 2)), (.int .i64 (.a 3)), (.int .i64 (.a 4)), (.int .i64 (.a 5))]), (.agg [(.int .i64 (.a 6)), (.int .i64 (.a 7)), (.int .i64 (.a 8)), (.int .i64 (.a 9)), (.int .i64 (.a 10)), (.int .i64 (.a 11))])] [] [(.agg [(.int .i64), (.int .i64), (.int .i64), (.int .i64), (.int .i64), (.int .i64)]), (.one (.int .i64))]
     (.ite (.lt (.a 20) (.l 0))
      (.ret false (.bool (.t false)) [])
      (.call 16 [(.va 0), (.agg [(.int .i64 (.a 6)), (.int .i64 (.a 7)), (.int .i64 (.a 8)), (.int .i64 (.a 9)), (.int .i64 (.a 10)), (.int .i64 (.a 11))]), (.agg [(.int .i64 (.a 14)), (.int .i64 (.a 15)), (.int .i64 (.a 16)), (.int .i64 (.a 17)), (.int .i64 (.a 18)), (.int .i64 (.a 19))])] [] [(.one (.int .i64))]
      (.ite (.not (.eq (.a 21) (.a 20)))
       (.ret false (.bool (.t false)) [])
       (.call 24 [(.agg [(.int .i64 (.a 14)), (.int .i64 (.a 15)), (.int .i64 (.a 16)), (.int .i64 (.a 17)), (.int .i64 (.a 18)), (.int .i64 (.a 19))]), (.agg [(.int .i64 (.a 0)), (.int .i64 (.a 1)), (.int .i64 (.a 2)), (.int .i64 (.a 3)), (.int .i64 (.a 4)), (.int .i64 (.a 5))])] [] [(.one .bool)]
       (.ite (.not (.a 1))
        (.ret false (.bool (.t false)) [])
        (.call 25 [(.agg [(.int .i64 (.a 0)), (.int .i64 (.a 1)), (.int .i64 (.a 2)), (.int .i64 (.a 3)), (.int .i64 (.a 4)), (.int .i64 (.a 5))])] [] [(.one .val)]
        (.jump 0 [(.a 20), (.l 0), (.a 0), (.a 1), (.a 2), (.a 3), (.a 4), (.a 5), (.a 6), (.a 7), (.a 8), (.a 9), (.a 10), (.a 11)] [] [(.va 0), (.va 1)]))))))))))))))))
def saleroomlaw15_DemandsetOptimal_t0 : PT :=
 (.need (.is 0 1)
 (.ite (.lt (.a 1) (.slen 1))
  (.need (.and (.le (.l 0) (.a 1)) (.lt (.a 1) (.slen 1)))
  (.load true (.ea 1 (.a 1) 6 0) [(.int .i64), (.int .i64), (.int .i64), (.int .i64), (.int .i64), (.int .i64)]
  (.call 16 [(.va 0), (.agg [(.int .i64 (.a 8)), (.int .i64 (.a 9)), (.int .i64 (.a 10)), (.int .i64 (.a 11)), (.int .i64 (.a 12)), (.int .i64 (.a 13))]), (.agg [(.int .i64 (.a 14)), (.int .i64 (.a 15)), (.int .i64 (.a 16)), (.int .i64 (.a 17)), (.int .i64 (.a 18)), (.int .i64 (.a 19))])] [] [(.one (.int .i64))]
  (.ite (.lt (.a 0) (.a 20))
   (.ret false (.bool (.t false)) [])
   (.need (.and (.le (.l (-9223372036854775808)) (.add (.a 1) (.l 1))) (.le (.add (.a 1) (.l 1)) (.l 9223372036854775807)))
   (.jump 0 [(.a 0), (.add (.a 1) (.l 1)), (.a 2), (.a 3), (.a 4), (.a 5), (.a 6), (.a 7), (.a 8), (.a 9), (.a 10), (.a 11), (.a 12), (.a 13)] [] [(.va 0), (.va 1)]))))))
  (.call 15 [] [] [(.one .bool)]
  (.ret false (.bool (.a 0)) []))))
def saleroomlaw15_DemandsetOptimal_S : Sx.Sys := ⟨[(.sh (.one .val)), (.sh (.agg [(.int .i64), (.int .i64), (.int .i64), (.int .i64), (.int .i64), (.int .i64)])), (.sh (.agg [(.int .i64), (.int .i64), (.int .i64), (.int .i64), (.int .i64), (.int .i64)]))], saleroomlaw15_DemandsetOptimal_s, [saleroomlaw15_DemandsetOptimal_t0]⟩
def saleroomlaw15_DemandsetOptimal_pats : List Cfg := [{ todo := [(.code [false, false, true, false, true, true, true, true, true]), (.inLoop [false, false, true, false, true, true, true, true, true]), (.inBlock 0), (.code [true, true, true, true, true, true])], sl := [(.va 0), (.junk 0), (.junk 1), .undef, (.junk 2), (.ptr 1 0), (.junk 3), (.junk 4), (.int .i64 (.a 0)), (.va 1), (.int .i64 (.a 1)), (.junk 5), (.junk 6), (.junk 7), (.junk 8), (.junk 9), (.junk 10), (.junk 11), (.junk 12), (.junk 13), (.junk 14), (.junk 15), (.junk 16), (.junk 17), (.junk 18), (.junk 19), (.junk 20), (.junk 21), (.junk 22), .undef, (.junk 23), (.junk 24), (.junk 25), (.junk 26), (.junk 27), (.junk 28), (.junk 29), (.junk 30), (.junk 31), (.junk 32), (.junk 33), (.junk 34), (.junk 35), (.junk 36), (.junk 37), (.junk 38), (.junk 39), (.junk 40), (.junk 41), (.junk 42), (.junk 43), (.junk 44), (.junk 45), (.junk 46), (.junk 47), (.junk 48), (.junk 49), (.junk 50), (.junk 51), (.junk 52), (.junk 53), (.junk 54), (.junk 55), (.junk 56), (.junk 57), (.junk 58), (.junk 59), (.junk 60), (.junk 61), (.junk 62), .undef], H := [(.cells [(.int .i64 (.a 2)), (.int .i64 (.a 3)), (.int .i64 (.a 4)), (.int .i64 (.a 5)), (.int .i64 (.a 6)), (.int .i64 (.a 7))] 26 false), (.cells [(.int .i64 (.a 8)), (.int .i64 (.a 9)), (.int .i64 (.a 10)), (.int .i64 (.a 11)), (.int .i64 (.a 12)), (.int .i64 (.a 13))] 24 false)], ni := 14, nb := 0, nv := 2, nj := 63 }]
theorem saleroomlaw15_DemandsetOptimal_ok : SysOk Try.prog 5 saleroomlaw15_DemandsetOptimal_S := sys_ok (c := (cg [[false, false, true, false, true, true, true, true, true]] [] [] false false false)) (progOkG _ _ _ _ _ _) Try.func5 Try.call5 (by kernel_rfl) saleroomlaw15_DemandsetOptimal_pats saleroomlaw15_DemandsetOptimal_S 5000 rfl (by kernel_rfl) (by kernel_rfl)
def saleroomlaw11_ExprParts_s : PT :=
 (.call 28 [(.agg [(.int .i64 (.a 0)), (.int .i64 (.a 1)), (.int .i64 (.a 2)), (.int .i64 (.a 3)), (.int .i64 (.a 4)), (.int .i64 (.a 5)), (.int .i64 (.a 6)), (.int .i64 (.a 7)), (.va 0)])] [] [(.one .bool)]
 (.ite (.not (.a 0))
  (.call 31 [] [] [(.one .bool)]
  (.ret false (.bool (.a 1)) []))
  (.app none (.lit [[(.int .i64 (.a 0)), (.int .i64 (.a 1)), (.int .i64 (.a 2)), (.int .i64 (.a 3)), (.int .i64 (.a 4)), (.int .i64 (.a 5)), (.int .i64 (.a 6)), (.int .i64 (.a 7)), (.va 0)]]) 9
  (.call 34 [(.agg [(.int .i64 (.a 0)), (.int .i64 (.a 1)), (.int .i64 (.a 2)), (.int .i64 (.a 3)), (.int .i64 (.a 4)), (.int .i64 (.a 5)), (.int .i64 (.a 6)), (.int .i64 (.a 7)), (.va 0)])] [] [(.one (.int .i64))]
  (.ite (.lt (.a 8) (.l 6))
   (.call 32 [(.agg [(.int .i64 (.a 0)), (.int .i64 (.a 1)), (.int .i64 (.a 2)), (.int .i64 (.a 3)), (.int .i64 (.a 4)), (.int .i64 (.a 5)), (.int .i64 (.a 6)), (.int .i64 (.a 7)), (.va 0)])] [] [(.one (.int .i64))]
   (.call 29 [(.agg [(.int .i64 (.l 2)), (.int .i64 (.l 0)), (.int .i64 (.l 0)), (.int .i64 (.l 0)), (.int .i64 (.l 0)), (.int .i64 (.l 0)), (.int .i64 (.l 0)), (.int .i64 (.l 0)), (.va 1)])] [] [(.one (.int .i64))]
   (.call 29 [(.agg [(.int .i64 (.a 0)), (.int .i64 (.a 1)), (.int .i64 (.a 2)), (.int .i64 (.a 3)), (.int .i64 (.a 4)), (.int .i64 (.a 5)), (.int .i64 (.a 6)), (.int .i64 (.a 7)), (.va 0)])] [] [(.one (.int .i64))]
   (.ite (.eq (.a 11) (.l 0))
    (.ite (.or (.and (.eq (.a 10) (.l 0)) (.lt (.a 9) (.l 40))) (.and (.not (.eq (.a 10) (.l 0))) (.not (.lt (.a 9) (.l 40)))))
     (.call 32 [(.agg [(.int .i64 (.l 2)), (.int .i64 (.l 0)), (.int .i64 (.l 0)), (.int .i64 (.l 0)), (.int .i64 (.l 0)), (.int .i64 (.l 0)), (.int .i64 (.l 0)), (.int .i64 (.l 0)), (.va 1)])] [] [(.one (.int .i64))]
     (.call 32 [(.agg [(.int .i64 (.a 0)), (.int .i64 (.a 1)), (.int .i64 (.a 2)), (.int .i64 (.a 3)), (.int .i64 (.a 4)), (.int .i64 (.a 5)), (.int .i64 (.a 6)), (.int .i64 (.a 7)), (.va 0)])] [] [(.one (.int .i64))]
     (.need (.and (.le (.l (-9223372036854775808)) (.add (.a 13) (.l 1))) (.le (.add (.a 13) (.l 1)) (.l 9223372036854775807)))
     (.ite (.eq (.a 12) (.add (.a 13) (.l 1)))
      (.call 34 [(.agg [(.int .i64 (.l 2)), (.int .i64 (.l 0)), (.int .i64 (.l 0)), (.int .i64 (.l 0)), (.int .i64 (.l 0)), (.int .i64 (.l 0)), (.int .i64 (.l 0)), (.int .i64 (.l 0)), (.va 1)])] [] [(.one (.int .i64))]
      (.call 34 [(.agg [(.int .i64 (.a 0)), (.int .i64 (.a 1)), (.int .i64 (.a 2)), (.int .i64 (.a 3)), (.int .i64 (.a 4)), (.int .i64 (.a 5)), (.int .i64 (.a 6)), (.int .i64 (.a 7)), (.va 0)])] [] [(.one (.int .i64))]
      (.need (.and (.le (.l (-9223372036854775808)) (.add (.a 15) (.l 1))) (.le (.add (.a 15) (.l 1)) (.l 9223372036854775807)))
      (.ite (.eq (.a 14) (.add (.a 15) (.l 1)))
       (.call 36 [(.agg [(.int .i64 (.l 2)), (.int .i64 (.l 0)), (.int .i64 (.l 0)), (.int .i64 (.l 0)), (.int .i64 (.l 0)), (.int .i64 (.l 0)), (.int .i64 (.l 0)), (.int .i64 (.l 0)), (.va 1)])] [] [(.agg [(.int .i64), (.int .i64), (.int .i64), (.int .i64), (.int .i64), (.int .i64)])]
       (.call 36 [(.agg [(.int .i64 (.a 0)), (.int .i64 (.a 1)), (.int .i64 (.a 2)), (.int .i64 (.a 3)), (.int .i64 (.a 4)), (.int .i64 (.a 5)), (.int .i64 (.a 6)), (.int .i64 (.a 7)), (.va 0)])] [] [(.agg [(.int .i64), (.int .i64), (.int .i64), (.int .i64), (.int .i64), (.int .i64)])]
       (.ite (.and (.eq (.a 16) (.a 22)) (.and (.eq (.a 17) (.a 23)) (.and (.eq (.a 18) (.a 24)) (.and (.eq (.a 19) (.a 25)) (.and (.eq (.a 20) (.a 26)) (.eq (.a 21) (.a 27)))))))
        (.call 31 [] [] [(.one .bool)]
        (.ret false (.bool (.a 1)) []))
        (.ret false (.bool (.t false)) []))))
       (.ret false (.bool (.t false)) [])))))
      (.ret false (.bool (.t false)) [])))))
     (.ret false (.bool (.t false)) []))
    (.ite (.or (.and (.eq (.a 10) (.l 0)) (.t false)) (.not (.eq (.a 10) (.l 0))))
     (.call 32 [(.agg [(.int .i64 (.l 2)), (.int .i64 (.l 0)), (.int .i64 (.l 0)), (.int .i64 (.l 0)), (.int .i64 (.l 0)), (.int .i64 (.l 0)), (.int .i64 (.l 0)), (.int .i64 (.l 0)), (.va 1)])] [] [(.one (.int .i64))]
     (.call 32 [(.agg [(.int .i64 (.a 0)), (.int .i64 (.a 1)), (.int .i64 (.a 2)), (.int .i64 (.a 3)), (.int .i64 (.a 4)), (.int .i64 (.a 5)), (.int .i64 (.a 6)), (.int .i64 (.a 7)), (.va 0)])] [] [(.one (.int .i64))]
     (.need (.and (.le (.l (-9223372036854775808)) (.add (.a 13) (.l 1))) (.le (.add (.a 13) (.l 1)) (.l 9223372036854775807)))
     (.ite (.eq (.a 12) (.add (.a 13) (.l 1)))
      (.call 34 [(.agg [(.int .i64 (.l 2)), (.int .i64 (.l 0)), (.int .i64 (.l 0)), (.int .i64 (.l 0)), (.int .i64 (.l 0)), (.int .i64 (.l 0)), (.int .i64 (.l 0)), (.int .i64 (.l 0)), (.va 1)])] [] [(.one (.int .i64))]
      (.call 34 [(.agg [(.int .i64 (.a 0)), (.int .i64 (.a 1)), (.int .i64 (.a 2)), (.int .i64 (.a 3)), (.int .i64 (.a 4)), (.int .i64 (.a 5)), (.int .i64 (.a 6)), (.int .i64 (.a 7)), (.va 0)])] [] [(.one (.int .i64))]
      (.need (.and (.le (.l (-9223372036854775808)) (.add (.a 15) (.l 1))) (.le (.add (.a 15) (.l 1)) (.l 9223372036854775807)))
      (.ite (.eq (.a 14) (.add (.a 15) (.l 1)))
       (.call 36 [(.agg [(.int .i64 (.l 2)), (.int .i64 (.l 0)), (.int .i64 (.l 0)), (.int .i64 (.l 0)), (.int .i64 (.l 0)), (.int .i64 (.l 0)), (.int .i64 (.l 0)), (.int .i64 (.l 0)), (.va 1)])] [] [(.agg [(.int .i64), (.int .i64), (.int .i64), (.int .i64), (.int .i64), (.int .i64)])]
       (.call 36 [(.agg [(.int .i64 (.a 0)), (.int .i64 (.a 1)), (.int .i64 (.a 2)), (.int .i64 (.a 3)), (.int .i64 (.a 4)), (.int .i64 (.a 5)), (.int .i64 (.a 6)), (.int .i64 (.a 7)), (.va 0)])] [] [(.agg [(.int .i64), (.int .i64), (.int .i64), (.int .i64), (.int .i64), (.int .i64)])]
       (.ite (.and (.eq (.a 16) (.a 22)) (.and (.eq (.a 17) (.a 23)) (.and (.eq (.a 18) (.a 24)) (.and (.eq (.a 19) (.a 25)) (.and (.eq (.a 20) (.a 26)) (.eq (.a 21) (.a 27)))))))
        (.call 31 [] [] [(.one .bool)]
        (.ret false (.bool (.a 1)) []))
        (.ret false (.bool (.t false)) []))))
       (.ret false (.bool (.t false)) [])))))
      (.ret false (.bool (.t false)) [])))))
     (.ret false (.bool (.t false)) []))))))
   (.call 29 [(.agg [(.int .i64 (.l 2)), (.int .i64 (.l 0)), (.int .i64 (.l 0)), (.int .i64 (.l 0)), (.int .i64 (.l 0)), (.int .i64 (.l 0)), (.int .i64 (.l 0)), (.int .i64 (.l 0)), (.va 1)])] [] [(.one (.int .i64))]
   (.call 29 [(.agg [(.int .i64 (.a 0)), (.int .i64 (.a 1)), (.int .i64 (.a 2)), (.int .i64 (.a 3)), (.int .i64 (.a 4)), (.int .i64 (.a 5)), (.int .i64 (.a 6)), (.int .i64 (.a 7)), (.va 0)])] [] [(.one (.int .i64))]
   (.ite (.eq (.a 10) (.l 0))
    (.ite (.or (.and (.eq (.a 9) (.l 0)) (.t false)) (.not (.eq (.a 9) (.l 0))))
     (.call 32 [(.agg [(.int .i64 (.l 2)), (.int .i64 (.l 0)), (.int .i64 (.l 0)), (.int .i64 (.l 0)), (.int .i64 (.l 0)), (.int .i64 (.l 0)), (.int .i64 (.l 0)), (.int .i64 (.l 0)), (.va 1)])] [] [(.one (.int .i64))]
     (.call 32 [(.agg [(.int .i64 (.a 0)), (.int .i64 (.a 1)), (.int .i64 (.a 2)), (.int .i64 (.a 3)), (.int .i64 (.a 4)), (.int .i64 (.a 5)), (.int .i64 (.a 6)), (.int .i64 (.a 7)), (.va 0)])] [] [(.one (.int .i64))]
     (.need (.and (.le (.l (-9223372036854775808)) (.add (.a 12) (.l 1))) (.le (.add (.a 12) (.l 1)) (.l 9223372036854775807)))
     (.ite (.eq (.a 11) (.add (.a 12) (.l 1)))
      (.call 34 [(.agg [(.int .i64 (.l 2)), (.int .i64 (.l 0)), (.int .i64 (.l 0)), (.int .i64 (.l 0)), (.int .i64 (.l 0)), (.int .i64 (.l 0)), (.int .i64 (.l 0)), (.int .i64 (.l 0)), (.va 1)])] [] [(.one (.int .i64))]
      (.call 34 [(.agg [(.int .i64 (.a 0)), (.int .i64 (.a 1)), (.int .i64 (.a 2)), (.int .i64 (.a 3)), (.int .i64 (.a 4)), (.int .i64 (.a 5)), (.int .i64 (.a 6)), (.int .i64 (.a 7)), (.va 0)])] [] [(.one (.int .i64))]
      (.need (.and (.le (.l (-9223372036854775808)) (.add (.a 14) (.l 1))) (.le (.add (.a 14) (.l 1)) (.l 9223372036854775807)))
      (.ite (.eq (.a 13) (.add (.a 14) (.l 1)))
       (.call 36 [(.agg [(.int .i64 (.l 2)), (.int .i64 (.l 0)), (.int .i64 (.l 0)), (.int .i64 (.l 0)), (.int .i64 (.l 0)), (.int .i64 (.l 0)), (.int .i64 (.l 0)), (.int .i64 (.l 0)), (.va 1)])] [] [(.agg [(.int .i64), (.int .i64), (.int .i64), (.int .i64), (.int .i64), (.int .i64)])]
       (.call 36 [(.agg [(.int .i64 (.a 0)), (.int .i64 (.a 1)), (.int .i64 (.a 2)), (.int .i64 (.a 3)), (.int .i64 (.a 4)), (.int .i64 (.a 5)), (.int .i64 (.a 6)), (.int .i64 (.a 7)), (.va 0)])] [] [(.agg [(.int .i64), (.int .i64), (.int .i64), (.int .i64), (.int .i64), (.int .i64)])]
       (.ite (.and (.eq (.a 15) (.a 21)) (.and (.eq (.a 16) (.a 22)) (.and (.eq (.a 17) (.a 23)) (.and (.eq (.a 18) (.a 24)) (.and (.eq (.a 19) (.a 25)) (.eq (.a 20) (.a 26)))))))
        (.call 31 [] [] [(.one .bool)]
        (.ret false (.bool (.a 1)) []))
        (.ret false (.bool (.t false)) []))))
       (.ret false (.bool (.t false)) [])))))
      (.ret false (.bool (.t false)) [])))))
     (.ret false (.bool (.t false)) []))
    (.ite (.or (.and (.eq (.a 9) (.l 0)) (.t false)) (.not (.eq (.a 9) (.l 0))))
     (.call 32 [(.agg [(.int .i64 (.l 2)), (.int .i64 (.l 0)), (.int .i64 (.l 0)), (.int .i64 (.l 0)), (.int .i64 (.l 0)), (.int .i64 (.l 0)), (.int .i64 (.l 0)), (.int .i64 (.l 0)), (.va 1)])] [] [(.one (.int .i64))]
     (.call 32 [(.agg [(.int .i64 (.a 0)), (.int .i64 (.a 1)), (.int .i64 (.a 2)), (.int .i64 (.a 3)), (.int .i64 (.a 4)), (.int .i64 (.a 5)), (.int .i64 (.a 6)), (.int .i64 (.a 7)), (.va 0)])] [] [(.one (.int .i64))]
     (.need (.and (.le (.l (-9223372036854775808)) (.add (.a 12) (.l 1))) (.le (.add (.a 12) (.l 1)) (.l 9223372036854775807)))
     (.ite (.eq (.a 11) (.add (.a 12) (.l 1)))
      (.call 34 [(.agg [(.int .i64 (.l 2)), (.int .i64 (.l 0)), (.int .i64 (.l 0)), (.int .i64 (.l 0)), (.int .i64 (.l 0)), (.int .i64 (.l 0)), (.int .i64 (.l 0)), (.int .i64 (.l 0)), (.va 1)])] [] [(.one (.int .i64))]
      (.call 34 [(.agg [(.int .i64 (.a 0)), (.int .i64 (.a 1)), (.int .i64 (.a 2)), (.int .i64 (.a 3)), (.int .i64 (.a 4)), (.int .i64 (.a 5)), (.int .i64 (.a 6)), (.int .i64 (.a 7)), (.va 0)])] [] [(.one (.int .i64))]
      (.need (.and (.le (.l (-9223372036854775808)) (.add (.a 14) (.l 1))) (.le (.add (.a 14) (.l 1)) (.l 9223372036854775807)))
      (.ite (.eq (.a 13) (.add (.a 14) (.l 1)))
       (.call 36 [(.agg [(.int .i64 (.l 2)), (.int .i64 (.l 0)), (.int .i64 (.l 0)), (.int .i64 (.l 0)), (.int .i64 (.l 0)), (.int .i64 (.l 0)), (.int .i64 (.l 0)), (.int .i64 (.l 0)), (.va 1)])] [] [(.agg [(.int .i64), (.int .i64), (.int .i64), (.int .i64), (.int .i64), (.int .i64)])]
       (.call 36 [(.agg [(.int .i64 (.a 0)), (.int .i64 (.a 1)), (.int .i64 (.a 2)), (.int .i64 (.a 3)), (.int .i64 (.a 4)), (.int .i64 (.a 5)), (.int .i64 (.a 6)), (.int .i64 (.a 7)), (.va 0)])] [] [(.agg [(.int .i64), (.int .i64), (.int .i64), (.int .i64), (.int .i64), (.int .i64)])]
       (.ite (.and (.eq (.a 15) (.a 21)) (.and (.eq (.a 16) (.a 22)) (.and (.eq (.a 17) (.a 23)) (.and (.eq (.a 18) (.a 24)) (.and (.eq (.a 19) (.a 25)) (.eq (.a 20) (.a 26)))))))
        (.call 31 [] [] [(.one .bool)]
        (.ret false (.bool (.a 1)) []))
        (.ret false (.bool (.t false)) []))))
       (.ret false (.bool (.t false)) [])))))
      (.ret false (.bool (.t false)) [])))))
     (.ret false (.bool (.t false)) []))))))))))
def saleroomlaw11_ExprParts_S : Sx.Sys := ⟨[(.sh (.agg [(.int .i64), (.int .i64), (.int .i64), (.int .i64), (.int .i64), (.int .i64), (.int .i64), (.int .i64), .val]))], saleroomlaw11_ExprParts_s, []⟩
def saleroomlaw11_ExprParts_pats : List Cfg := []
theorem saleroomlaw11_ExprParts_ok : SysOk Try.prog 14 saleroomlaw11_ExprParts_S := sys_ok (c := (cg [] [] [] false false false)) (progOkG _ _ _ _ _ _) Try.func14 Try.call14 (by kernel_rfl) saleroomlaw11_ExprParts_pats saleroomlaw11_ExprParts_S 5000 rfl (by kernel_rfl) (by kernel_rfl)
def bundle_Within_s : PT :=
 (.call 58 [(.agg [(.int .i64 (.a 0)), (.int .i64 (.a 1)), (.int .i64 (.a 2)), (.int .i64 (.a 3)), (.int .i64 (.a 4)), (.int .i64 (.a 5))]), (.agg [(.int .i64 (.a 6)), (.int .i64 (.a 7)), (.int .i64 (.a 8)), (.int .i64 (.a 9)), (.int .i64 (.a 10)), (.int .i64 (.a 11))])] [] [(.agg [(.int .i64), (.int .i64), (.int .i64), (.int .i64), (.int .i64), (.int .i64)])]
 (.ret false (.bool (.and (.eq (.a 12) (.a 0)) (.and (.eq (.a 13) (.a 1)) (.and (.eq (.a 14) (.a 2)) (.and (.eq (.a 15) (.a 3)) (.and (.eq (.a 16) (.a 4)) (.eq (.a 17) (.a 5)))))))) []))
def bundle_Within_S : Sx.Sys := ⟨[(.sh (.agg [(.int .i64), (.int .i64), (.int .i64), (.int .i64), (.int .i64), (.int .i64)])), (.sh (.agg [(.int .i64), (.int .i64), (.int .i64), (.int .i64), (.int .i64), (.int .i64)]))], bundle_Within_s, []⟩
def bundle_Within_pats : List Cfg := []
theorem bundle_Within_ok : SysOk Try.prog 24 bundle_Within_S := sys_ok (c := (cg [] [] [] false false false)) (progOkG _ _ _ _ _ _) Try.func24 Try.call24 (by kernel_rfl) bundle_Within_pats bundle_Within_S 5000 rfl (by kernel_rfl) (by kernel_rfl)
def saleroomref11_Size_s : PT :=
 (.call 64 [(.agg [(.int .i64 (.a 0)), (.int .i64 (.a 1)), (.int .i64 (.a 2)), (.int .i64 (.a 3)), (.int .i64 (.a 4)), (.int .i64 (.a 5)), (.int .i64 (.a 6)), (.int .i64 (.a 7)), (.va 0)])] [] [(.one .val)]
 (.need (.is 0 1)
 (.ret false (.int .i64 (.slen 1)) [])))
def saleroomref11_Size_S : Sx.Sys := ⟨[(.sh (.agg [(.int .i64), (.int .i64), (.int .i64), (.int .i64), (.int .i64), (.int .i64), (.int .i64), (.int .i64), .val]))], saleroomref11_Size_s, []⟩
def saleroomref11_Size_pats : List Cfg := []
theorem saleroomref11_Size_ok : SysOk Try.prog 33 saleroomref11_Size_S := sys_ok (c := (cg [] [] [] false false false)) (progOkG _ _ _ _ _ _) Try.func33 Try.call33 (by kernel_rfl) saleroomref11_Size_pats saleroomref11_Size_S 5000 rfl (by kernel_rfl) (by kernel_rfl)
def saleroomref11_Same_s : PT :=
 (.call 39 [(.agg [(.int .i64 (.l 0)), (.int .i64 (.l 0)), (.int .i64 (.l 0)), (.int .i64 (.l 0)), (.int .i64 (.l 0)), (.int .i64 (.l 0)), (.int .i64 (.l 0)), (.int .i64 (.l 0)), (.va 0)]), (.agg [(.int .i64 (.l 0)), (.int .i64 (.l 0)), (.int .i64 (.l 0)), (.int .i64 (.l 0)), (.int .i64 (.l 0)), (.int .i64 (.l 0)), (.int .i64 (.l 0)), (.int .i64 (.l 0)), (.va 1)])] [] [(.one .bool)]
 (.ret false (.bool (.a 0)) []))
def saleroomref11_Same_S : Sx.Sys := ⟨[(.sh (.one .val)), (.sh (.one .val))], saleroomref11_Same_s, []⟩
def saleroomref11_Same_pats : List Cfg := []
theorem saleroomref11_Same_ok : SysOk Try.prog 41 saleroomref11_Same_S := sys_ok (c := (cg [] [] [] false false false)) (progOkG _ _ _ _ _ _) Try.func41 Try.call41 (by kernel_rfl) saleroomref11_Same_pats saleroomref11_Same_S 5000 rfl (by kernel_rfl) (by kernel_rfl)
def saleroomlaw11_mapped_s : PT :=
 (.need (.is 0 0)
 (.jump 0 [(.a 8), (.slen 0), (.l 0), (.a 0), (.a 1), (.a 2), (.a 3), (.a 4), (.a 5), (.a 6), (.a 7)] [] [.nilS, (.va 0)]))
def saleroomlaw11_mapped_t0 : PT :=
 (.ite (.lt (.a 2) (.a 1))
  (.need (.and (.le (.l 0) (.a 2)) (.lt (.a 2) (.slen 1)))
  (.load false (.ea 1 (.a 2) 9 0) [(.int .i64), (.int .i64), (.int .i64), (.int .i64), (.int .i64), (.int .i64), (.int .i64), (.int .i64), .val]
  (.call 49 [(.agg [(.int .i64 (.a 11)), (.int .i64 (.a 12)), (.int .i64 (.a 13)), (.int .i64 (.a 14)), (.int .i64 (.a 15)), (.int .i64 (.a 16)), (.int .i64 (.a 17)), (.int .i64 (.a 18)), (.va 2)]), (.int .i64 (.a 0))] [] [(.agg [(.int .i64), (.int .i64), (.int .i64), (.int .i64), (.int .i64), (.int .i64), (.int .i64), (.int .i64), .val])]
  (.app none (.lit [[(.int .i64 (.a 19)), (.int .i64 (.a 20)), (.int .i64 (.a 21)), (.int .i64 (.a 22)), (.int .i64 (.a 23)), (.int .i64 (.a 24)), (.int .i64 (.a 25)), (.int .i64 (.a 26)), (.va 3)]]) 9
  (.appM (.va 0) (.va 4) 9 49
  (.need (.and (.le (.l (-9223372036854775808)) (.add (.a 2) (.l 1))) (.le (.add (.a 2) (.l 1)) (.l 9223372036854775807)))
  (.jump 0 [(.a 0), (.a 1), (.add (.a 2) (.l 1)), (.a 3), (.a 4), (.a 5), (.a 6), (.a 7), (.a 8), (.a 9), (.a 10)] [] [(.va 5), (.va 1)])))))))
  (.call 47 [(.agg [(.int .i64 (.a 3)), (.int .i64 (.a 4)), (.int .i64 (.a 5)), (.int .i64 (.a 6)), (.int .i64 (.a 7)), (.int .i64 (.a 8)), (.int .i64 (.a 9)), (.int .i64 (.a 10)), (.va 0)]), (.int .i64 (.a 0))] [] [(.agg [(.int .i64), (.int .i64), (.int .i64), (.int .i64), (.int .i64), (.int .i64), (.int .i64), (.int .i64), .val])]
  (.ret false (.agg [(.int .i64 (.a 11)), (.int .i64 (.a 12)), (.int .i64 (.a 13)), (.int .i64 (.a 14)), (.int .i64 (.a 15)), (.int .i64 (.a 16)), (.int .i64 (.a 17)), (.int .i64 (.a 18)), (.va 2)]) [])))
def saleroomlaw11_mapped_S : Sx.Sys := ⟨[(.sh (.agg [(.int .i64), (.int .i64), (.int .i64), (.int .i64), (.int .i64), (.int .i64), (.int .i64), (.int .i64), .val])), (.sh (.one (.int .i64)))], saleroomlaw11_mapped_s, [saleroomlaw11_mapped_t0]⟩
def saleroomlaw11_mapped_pats : List Cfg := [{ todo := [(.code [false, false, true, false, true, true]), (.inLoop [false, false, true, false, true, true]), (.inBlock 0), (.code [true, true, true])], sl := [(.junk 0), (.int .i64 (.a 0)), (.ptr 0 0), .undef, (.ptr 1 0), (.va 0), .undef, (.junk 1), (.junk 2), (.va 1), (.int .i64 (.a 1)), (.int .i64 (.a 2)), (.junk 3), (.junk 4), (.junk 5), (.junk 6), (.junk 7), (.junk 8), (.junk 9), (.junk 10), (.junk 11), (.junk 12), .undef, .undef, .undef, .undef, .undef], H := [(.cells [(.int .i64 (.a 3)), (.int .i64 (.a 4)), (.int .i64 (.a 5)), (.int .i64 (.a 6)), (.int .i64 (.a 7)), (.int .i64 (.a 8)), (.int .i64 (.a 9)), (.int .i64 (.a 10)), (.va 1)] 49 false), (.cells [(.int .i64 (.l 0)), (.int .i64 (.l 0)), (.int .i64 (.l 0)), (.int .i64 (.l 0)), (.int .i64 (.l 0)), (.int .i64 (.l 0)), (.int .i64 (.l 0)), (.int .i64 (.l 0)), .nilS] 49 false)], ni := 11, nb := 0, nv := 2, nj := 13 }]
theorem saleroomlaw11_mapped_ok : SysOk Try.prog 49 saleroomlaw11_mapped_S := sys_ok (c := (cg [[false, false, true, false, true, true]] [] [] true false true)) (progOkG _ _ _ _ _ _) Try.func49 Try.call49 (by kernel_rfl) saleroomlaw11_mapped_pats saleroomlaw11_mapped_S 5000 rfl (by kernel_rfl) (by kernel_rfl)
def bundle_All_s : PT :=
 (.call 76 [(.agg [(.int .i64 (.a 0)), (.int .i64 (.a 1)), (.int .i64 (.a 2)), (.int .i64 (.a 3)), (.int .i64 (.a 4)), (.int .i64 (.a 5))])] [] [(.one (.int .i64))]
 (.ite (.eq (.a 6) (.l 0))
  (.ret false (.fn 77 []) [])
  (.call 78 [(.agg [(.int .i64 (.a 0)), (.int .i64 (.a 1)), (.int .i64 (.a 2)), (.int .i64 (.a 3)), (.int .i64 (.a 4)), (.int .i64 (.a 5))])] [] [(.one .val)]
  (.ret false (.va 0) []))))
def bundle_All_S : Sx.Sys := ⟨[(.sh (.agg [(.int .i64), (.int .i64), (.int .i64), (.int .i64), (.int .i64), (.int .i64)]))], bundle_All_s, []⟩
def bundle_All_pats : List Cfg := []
theorem bundle_All_ok : SysOk Try.prog 57 bundle_All_S := sys_ok (c := (cg [] [] [] false false false)) (progOkG _ _ _ _ _ _) Try.func57 Try.call57 (by kernel_rfl) bundle_All_pats bundle_All_S 5000 rfl (by kernel_rfl) (by kernel_rfl)
def saleroomref11_formed_s : PT :=
 (.need (.is 0 0)
 (.ite (.eq (.a 0) (.l 1))
  (.ret false (.bool (.eq (.slen 0) (.l 0))) [])
  (.ite (.eq (.a 0) (.l 2))
   (.ite (.eq (.a 0) (.l 2))
    (.ite (.le (.l 1) (.slen 0))
     (.ite (.le (.slen 0) (.l 8))
      (.ite (.and (.eq (.a 1) (.l 0)) (.and (.eq (.a 2) (.l 0)) (.and (.eq (.a 3) (.l 0)) (.and (.eq (.a 4) (.l 0)) (.and (.eq (.a 5) (.l 0)) (.eq (.a 6) (.l 0)))))))
       (.ret false (.bool (.eq (.a 7) (.l 0))) [])
       (.ret false (.bool (.t false)) []))
      (.ret false (.bool (.t false)) []))
     (.ret false (.bool (.t false)) []))
    (.ite (.eq (.a 0) (.l 4))
     (.ret false (.bool (.eq (.slen 0) (.l 1))) [])
     (.ite (.eq (.a 0) (.l 5))
      (.ite (.eq (.slen 0) (.l 1))
       (.ret false (.bool (.and (.eq (.a 1) (.l 0)) (.and (.eq (.a 2) (.l 0)) (.and (.eq (.a 3) (.l 0)) (.and (.eq (.a 4) (.l 0)) (.and (.eq (.a 5) (.l 0)) (.eq (.a 6) (.l 0)))))))) [])
       (.ret false (.bool (.t false)) []))
      (.ret false (.bool (.t false)) []))))
   (.ite (.eq (.a 0) (.l 3))
    (.ite (.le (.l 1) (.slen 0))
     (.ite (.le (.slen 0) (.l 8))
      (.ite (.and (.eq (.a 1) (.l 0)) (.and (.eq (.a 2) (.l 0)) (.and (.eq (.a 3) (.l 0)) (.and (.eq (.a 4) (.l 0)) (.and (.eq (.a 5) (.l 0)) (.eq (.a 6) (.l 0)))))))
       (.ret false (.bool (.eq (.a 7) (.l 0))) [])
       (.ret false (.bool (.t false)) []))
      (.ret false (.bool (.t false)) []))
     (.ret false (.bool (.t false)) []))
    (.ite (.eq (.a 0) (.l 4))
     (.ret false (.bool (.eq (.slen 0) (.l 1))) [])
     (.ite (.eq (.a 0) (.l 5))
      (.ite (.eq (.slen 0) (.l 1))
       (.ret false (.bool (.and (.eq (.a 1) (.l 0)) (.and (.eq (.a 2) (.l 0)) (.and (.eq (.a 3) (.l 0)) (.and (.eq (.a 4) (.l 0)) (.and (.eq (.a 5) (.l 0)) (.eq (.a 6) (.l 0)))))))) [])
       (.ret false (.bool (.t false)) []))
      (.ret false (.bool (.t false)) [])))))))
def saleroomref11_formed_S : Sx.Sys := ⟨[(.sh (.agg [(.int .i64), (.int .i64), (.int .i64), (.int .i64), (.int .i64), (.int .i64), (.int .i64), (.int .i64), .val]))], saleroomref11_formed_s, []⟩
def saleroomref11_formed_pats : List Cfg := []
theorem saleroomref11_formed_ok : SysOk Try.prog 65 saleroomref11_formed_S := sys_ok (c := (cg [] [] [] false false false)) (progOkG _ _ _ _ _ _) Try.func65 Try.call65 (by kernel_rfl) saleroomref11_formed_pats saleroomref11_formed_S 5000 rfl (by kernel_rfl) (by kernel_rfl)
def flatten_Value_s : PT :=
 (.need (.is 0 0)
 (.jump 0 [(.l 0), (.slen 0), (.l 0), (.a 0), (.a 1), (.a 2), (.a 3), (.a 4), (.a 5)] [] [(.va 0)]))
def flatten_Value_t0 : PT :=
 (.ite (.lt (.a 2) (.a 1))
  (.need (.and (.le (.l 0) (.a 2)) (.lt (.a 2) (.slen 0)))
  (.load false (.ea 0 (.a 2) 8 0) [(.int .i64), (.int .i64), (.int .i64), (.int .i64), (.int .i64), (.int .i64), (.int .i64), (.int .i64)]
  (.ite (.lt (.a 0) (.a 16))
   (.call 24 [(.agg [(.int .i64 (.a 10)), (.int .i64 (.a 11)), (.int .i64 (.a 12)), (.int .i64 (.a 13)), (.int .i64 (.a 14)), (.int .i64 (.a 15))]), (.agg [(.int .i64 (.a 3)), (.int .i64 (.a 4)), (.int .i64 (.a 5)), (.int .i64 (.a 6)), (.int .i64 (.a 7)), (.int .i64 (.a 8))])] [] [(.one .bool)]
   (.ite (.a 0)
    (.need (.and (.le (.l (-9223372036854775808)) (.add (.a 2) (.l 1))) (.le (.add (.a 2) (.l 1)) (.l 9223372036854775807)))
    (.jump 0 [(.a 16), (.a 1), (.add (.a 2) (.l 1)), (.a 3), (.a 4), (.a 5), (.a 6), (.a 7), (.a 8)] [] [(.va 0)]))
    (.need (.and (.le (.l (-9223372036854775808)) (.add (.a 2) (.l 1))) (.le (.add (.a 2) (.l 1)) (.l 9223372036854775807)))
    (.jump 0 [(.a 0), (.a 1), (.add (.a 2) (.l 1)), (.a 3), (.a 4), (.a 5), (.a 6), (.a 7), (.a 8)] [] [(.va 0)]))))
   (.need (.and (.le (.l (-9223372036854775808)) (.add (.a 2) (.l 1))) (.le (.add (.a 2) (.l 1)) (.l 9223372036854775807)))
   (.jump 0 [(.a 0), (.a 1), (.add (.a 2) (.l 1)), (.a 3), (.a 4), (.a 5), (.a 6), (.a 7), (.a 8)] [] [(.va 0)])))))
  (.ret false (.int .i64 (.a 0)) []))
def flatten_Value_S : Sx.Sys := ⟨[(.sh (.one .val)), (.sh (.agg [(.int .i64), (.int .i64), (.int .i64), (.int .i64), (.int .i64), (.int .i64)]))], flatten_Value_s, [flatten_Value_t0]⟩
def flatten_Value_pats : List Cfg := [{ todo := [(.code [false, false, true, false, true, true]), (.inLoop [false, false, true, false, true, true]), (.inBlock 0), (.code [true, true, true])], sl := [(.junk 0), (.junk 1), .undef, (.ptr 0 0), (.junk 2), (.int .i64 (.a 0)), .undef, (.junk 3), (.va 0), (.int .i64 (.a 1)), (.int .i64 (.a 2)), (.junk 4), (.junk 5), (.junk 6), (.junk 7), (.junk 8), (.junk 9), (.junk 10), (.junk 11), (.junk 12), (.junk 13), (.junk 14), (.junk 15), (.junk 16), (.junk 17), (.junk 18), (.junk 19), .undef], H := [(.cells [(.int .i64 (.a 3)), (.int .i64 (.a 4)), (.int .i64 (.a 5)), (.int .i64 (.a 6)), (.int .i64 (.a 7)), (.int .i64 (.a 8))] 26 false)], ni := 9, nb := 0, nv := 1, nj := 20 }]
theorem flatten_Value_ok : SysOk Try.prog 73 flatten_Value_S := sys_ok (c := (cg [[false, false, true, false, true, true]] [] [] false false false)) (progOkG _ _ _ _ _ _) Try.func73 Try.call73 (by kernel_rfl) flatten_Value_pats flatten_Value_S 5000 rfl (by kernel_rfl) (by kernel_rfl)
def bundle_each_1_s : PT :=
 (.jump 0 [(.l 0), (.l 0), (.l 0), (.l 0), (.l 0), (.l 0)] [] [(.va 0), (.va 1)])
def bundle_each_1_t0 : PT :=
 (.callv 0 [(.agg [(.int .i64 (.a 0)), (.int .i64 (.a 1)), (.int .i64 (.a 2)), (.int .i64 (.a 3)), (.int .i64 (.a 4)), (.int .i64 (.a 5))])] [(.one .bool)]
 (.ite (.a 0)
  (.load false (.pa 1 0) [(.int .i64), (.int .i64), (.int .i64), (.int .i64), (.int .i64), (.int .i64)]
  (.call 82 [(.agg [(.int .i64 (.a 0)), (.int .i64 (.a 1)), (.int .i64 (.a 2)), (.int .i64 (.a 3)), (.int .i64 (.a 4)), (.int .i64 (.a 5))]), (.agg [(.int .i64 (.a 6)), (.int .i64 (.a 7)), (.int .i64 (.a 8)), (.int .i64 (.a 9)), (.int .i64 (.a 10)), (.int .i64 (.a 11))])] [] [(.agg [(.int .i64), (.int .i64), (.int .i64), (.int .i64), (.int .i64), (.int .i64)])]
  (.ite (.and (.eq (.a 12) (.l 0)) (.and (.eq (.a 13) (.l 0)) (.and (.eq (.a 14) (.l 0)) (.and (.eq (.a 15) (.l 0)) (.and (.eq (.a 16) (.l 0)) (.eq (.a 17) (.l 0)))))))
   (.ret true (.tup []) [])
   (.jump 0 [(.a 12), (.a 13), (.a 14), (.a 15), (.a 16), (.a 17)] [] [(.va 0), (.va 1)]))))
  (.ret true (.tup []) [])))
def bundle_each_1_S : Sx.Sys := ⟨[(.sh (.one .val)), .ptr], bundle_each_1_s, [bundle_each_1_t0]⟩
def bundle_each_1_pats : List Cfg := [{ todo := [(.code [false, false, true]), (.inLoop [false, false, true]), (.inBlock 0)], sl := [(.va 0), (.pa 1 0), .undef, (.ptr 0 0), (.junk 0), (.junk 1), (.junk 2), (.junk 3), (.junk 4), (.junk 5), (.junk 6), (.junk 7), (.junk 8), (.junk 9)], H := [(.cells [(.int .i64 (.a 0)), (.int .i64 (.a 1)), (.int .i64 (.a 2)), (.int .i64 (.a 3)), (.int .i64 (.a 4)), (.int .i64 (.a 5))] 26 false)], ni := 6, nb := 0, nv := 2, nj := 10 }]
theorem bundle_each_1_ok : SysOk Try.prog 81 bundle_each_1_S := sys_ok (c := (cg [[false, false, true]] [] [(5, [4])] true true false)) (progOkG _ _ _ _ _ _) Try.func81 Try.call81 (by kernel_rfl) bundle_each_1_pats bundle_each_1_S 5000 rfl (by kernel_rfl) (by kernel_rfl)
end Go.Proofs.Ytbmfegliomkkfaa
