/- The trees of this seat's functions, part 6. Written by txgen.py. -/
import Derived.Test.YthjahianafohjaaHTab
set_option linter.unusedSimpArgs false
set_option linter.unusedVariables false
set_option maxRecDepth 100000
namespace Go.Proofs.Ythjahianafohjaa
open Go.Sx
def saleroomlaw37_ActivityLeaves_s : PT :=
 (.call 22 [(.agg [(.va 0), (.va 1), (.va 2), (.va 3)])] [] [(.one .bool)]
 (.ite (.not (.a 0))
  (.call 24 [] [] [(.one .bool)]
  (.ret false (.bool (.a 1)) []))
  (.need (.is 0 4)
  (.ite (.lt (.l 29) (.slen 4))
   (.call 24 [] [] [(.one .bool)]
   (.ret false (.bool (.a 1)) []))
   (.call 23 [(.va 4)] [] [(.one .bool)]
   (.ite (.not (.a 1))
    (.call 24 [] [] [(.one .bool)]
    (.ret false (.bool (.a 2)) []))
    (.app none (.lit [[(.int .i64 (.a 1)), (.int .i64 (.a 2)), (.int .i64 (.a 3)), (.int .i64 (.a 4)), (.int .i64 (.a 5)), (.int .i64 (.a 6)), (.int .i64 (.l 0)), (.int .i64 (.l 0)), (.int .i64 (.l 0)), (.int .i64 (.l 0)), (.int .i64 (.l 0)), (.int .i64 (.l 0))]]) 12
    (.call 23 [(.va 5)] [] [(.one .bool)]
    (.ite (.not (.a 2))
     (.call 24 [] [] [(.one .bool)]
     (.ret false (.bool (.a 3)) []))
     (.ite (.lt (.a 0) (.l 0))
      (.call 24 [] [] [(.one .bool)]
      (.ret false (.bool (.a 3)) []))
      (.need (.is 0 1)
      (.ite (.le (.slen 1) (.a 0))
       (.call 24 [] [] [(.one .bool)]
       (.ret false (.bool (.a 3)) []))
       (.need (.and (.le (.l 0) (.a 0)) (.lt (.a 0) (.slen 1)))
       (.load false (.ea 1 (.a 0) 4 3) [(.int .i64)]
       (.ite (.lt (.a 7) (.l 0))
        (.call 24 [] [] [(.one .bool)]
        (.ret false (.bool (.a 3)) []))
        (.call 35 [(.agg [(.int .i64 (.l 0)), (.int .i64 (.l 0)), (.int .i64 (.l 0)), (.int .i64 (.l 0)), (.int .i64 (.l 0)), (.int .i64 (.l 0))])] [] [(.one (.int .i64))]
        (.ite (.not (.eq (.a 8) (.l 0)))
         (.call 24 [] [] [(.one .bool)]
         (.ret false (.bool (.a 3)) []))
         (.call 25 [(.agg [(.va 0), (.va 1), (.va 2), (.va 3)]), (.int .i64 (.l 1)), (.int .i64 (.a 0)), (.va 4), (.agg [(.int .i64 (.a 1)), (.int .i64 (.a 2)), (.int .i64 (.a 3)), (.int .i64 (.a 4)), (.int .i64 (.a 5)), (.int .i64 (.a 6)), (.int .i64 (.l 0)), (.int .i64 (.l 0)), (.int .i64 (.l 0)), (.int .i64 (.l 0)), (.int .i64 (.l 0)), (.int .i64 (.l 0))])] [] [(.one (.int .i64))]
         (.ite (.not (.eq (.a 9) (.l 0)))
          (.ret false (.bool (.t false)) [])
          (.jump 0 [(.a 0), (.l 0), (.a 1), (.a 2), (.a 3), (.a 4), (.a 5), (.a 6)] [] [(.va 4), (.va 0), (.va 1), (.va 2), (.va 3)]))))))))))))))))))))
def saleroomlaw37_ActivityLeaves_t0 : PT :=
 (.need (.is 0 0)
 (.ite (.lt (.a 1) (.slen 0))
  (.need (.and (.le (.l 0) (.a 1)) (.lt (.a 1) (.slen 0)))
  (.load true (.ea 0 (.a 1) 12 0) [(.int .i64)]
  (.ite (.lt (.a 2) (.a 8))
   (.call 24 [] [] [(.one .bool)]
   (.ret false (.bool (.a 0)) []))
   (.need (.and (.le (.l 0) (.a 1)) (.lt (.a 1) (.slen 0)))
   (.load true (.ea 0 (.a 1) 12 1) [(.int .i64)]
   (.ite (.lt (.a 3) (.a 9))
    (.call 24 [] [] [(.one .bool)]
    (.ret false (.bool (.a 0)) []))
    (.need (.and (.le (.l 0) (.a 1)) (.lt (.a 1) (.slen 0)))
    (.load true (.ea 0 (.a 1) 12 2) [(.int .i64)]
    (.ite (.lt (.a 4) (.a 10))
     (.call 24 [] [] [(.one .bool)]
     (.ret false (.bool (.a 0)) []))
     (.need (.and (.le (.l 0) (.a 1)) (.lt (.a 1) (.slen 0)))
     (.load true (.ea 0 (.a 1) 12 3) [(.int .i64)]
     (.ite (.lt (.a 5) (.a 11))
      (.call 24 [] [] [(.one .bool)]
      (.ret false (.bool (.a 0)) []))
      (.need (.and (.le (.l 0) (.a 1)) (.lt (.a 1) (.slen 0)))
      (.load true (.ea 0 (.a 1) 12 4) [(.int .i64)]
      (.ite (.lt (.a 6) (.a 12))
       (.call 24 [] [] [(.one .bool)]
       (.ret false (.bool (.a 0)) []))
       (.need (.and (.le (.l 0) (.a 1)) (.lt (.a 1) (.slen 0)))
       (.load true (.ea 0 (.a 1) 12 5) [(.int .i64)]
       (.ite (.lt (.a 7) (.a 13))
        (.call 24 [] [] [(.one .bool)]
        (.ret false (.bool (.a 0)) []))
        (.need (.and (.le (.l (-9223372036854775808)) (.add (.a 1) (.l 1))) (.le (.add (.a 1) (.l 1)) (.l 9223372036854775807)))
        (.jump 0 [(.a 0), (.add (.a 1) (.l 1)), (.a 2), (.a 3), (.a 4), (.a 5), (.a 6), (.a 7)] [] [(.va 0), (.va 1), (.va 2), (.va 3), (.va 4)]))))))))))))))))))))
  (.call 36 [(.va 0)] [] [(.one .bool)]
  (.ite (.not (.a 0))
   (.call 24 [] [] [(.one .bool)]
   (.ret false (.bool (.a 1)) []))
   (.call 25 [(.agg [(.va 1), (.va 2), (.va 3), (.va 4)]), (.int .i64 (.l 2)), (.int .i64 (.a 0)), (.va 0), (.agg [(.int .i64 (.a 2)), (.int .i64 (.a 3)), (.int .i64 (.a 4)), (.int .i64 (.a 5)), (.int .i64 (.a 6)), (.int .i64 (.a 7)), (.int .i64 (.l 0)), (.int .i64 (.l 0)), (.int .i64 (.l 0)), (.int .i64 (.l 0)), (.int .i64 (.l 0)), (.int .i64 (.l 0))])] [] [(.one (.int .i64))]
   (.ite (.eq (.a 8) (.l 0))
    (.call 24 [] [] [(.one .bool)]
    (.ret false (.bool (.a 1)) []))
    (.ret false (.bool (.t false)) [])))))))
def saleroomlaw37_ActivityLeaves_S : Sx.Sys := ⟨[(.sh (.agg [.val, .val, .val, .val])), (.sh (.one (.int .i64))), (.sh (.one .val)), (.sh (.agg [(.int .i64), (.int .i64), (.int .i64), (.int .i64), (.int .i64), (.int .i64)]))], saleroomlaw37_ActivityLeaves_s, [saleroomlaw37_ActivityLeaves_t0]⟩
def saleroomlaw37_ActivityLeaves_pats : List Cfg := [{ todo := [(.code [false, false, true, false, true, true, true, true]), (.inLoop [false, false, true, false, true, true, true, true]), (.inBlock 0), (.code [true, true, true, true, true])], sl := [(.junk 0), (.int .i64 (.a 0)), (.va 0), (.junk 1), (.ptr 0 0), .undef, .undef, (.ptr 1 0), (.junk 2), (.ptr 2 0), (.int .i64 (.a 1)), (.junk 3), (.junk 4), (.junk 5), (.junk 6), (.junk 7), (.junk 8), (.junk 9), (.junk 10), (.junk 11), (.junk 12), (.junk 13), (.junk 14), (.junk 15), (.junk 16), (.junk 17), (.junk 18), (.junk 19), (.junk 20), (.junk 21), (.junk 22), (.junk 23), (.junk 24), (.junk 25), (.junk 26), (.junk 27), (.junk 28), (.junk 29), (.junk 30), (.junk 31), (.junk 32), (.junk 33), (.junk 34), (.junk 35), (.junk 36), (.junk 37), (.junk 38), (.junk 39), (.junk 40), (.junk 41), (.junk 42), (.junk 43), (.junk 44), (.junk 45), (.junk 46), (.junk 47), (.junk 48), (.junk 49), (.junk 50), .undef, (.junk 51), (.junk 52), (.junk 53), (.junk 54), (.junk 55), (.junk 56), (.junk 57), (.junk 58), (.junk 59), (.junk 60), (.junk 61), (.junk 62), (.junk 63), (.junk 64), (.junk 65), (.junk 66), (.junk 67), (.junk 68), (.junk 69), (.junk 70), (.junk 71), (.junk 72), (.junk 73), (.junk 74), (.junk 75), (.junk 76), (.junk 77), .undef, .undef, .undef, .undef, .undef, .undef, .undef, .undef, .undef, .undef, .undef, .undef, .undef, .undef, .undef], H := [(.cells [(.va 1), (.va 2), (.va 3), (.va 4)] 53 false), (.cells [(.int .i64 (.a 2)), (.int .i64 (.a 3)), (.int .i64 (.a 4)), (.int .i64 (.a 5)), (.int .i64 (.a 6)), (.int .i64 (.a 7))] 40 false), (.cells [(.int .i64 (.a 2)), (.int .i64 (.a 3)), (.int .i64 (.a 4)), (.int .i64 (.a 5)), (.int .i64 (.a 6)), (.int .i64 (.a 7)), (.int .i64 (.l 0)), (.int .i64 (.l 0)), (.int .i64 (.l 0)), (.int .i64 (.l 0)), (.int .i64 (.l 0)), (.int .i64 (.l 0))] 44 false)], ni := 8, nb := 0, nv := 5, nj := 78 }]
theorem saleroomlaw37_ActivityLeaves_ok : SysOk Try.prog 12 saleroomlaw37_ActivityLeaves_S := sys_ok (c := (cg [[false, false, true, false, true, true, true, true]] [] [] false false false true)) (progOkG _ _ _ _ _ _ _) Try.func12 Try.call12 (by kernel_rfl) saleroomlaw37_ActivityLeaves_pats saleroomlaw37_ActivityLeaves_S 5000 rfl (by kernel_rfl) (by kernel_rfl)
def revealed_Gain_s : PT :=
 (.call 49 [(.agg [(.int .i64 (.a 0)), (.int .i64 (.a 1)), (.int .i64 (.a 2)), (.int .i64 (.a 3)), (.int .i64 (.a 4)), (.int .i64 (.a 5)), (.int .i64 (.a 6)), (.int .i64 (.a 7)), (.int .i64 (.a 8)), (.int .i64 (.a 9)), (.int .i64 (.a 10)), (.int .i64 (.a 11))])] [] [(.one .bool)]
 (.ite (.not (.a 0))
  (.ret false (.int .i64 (.l 0)) [])
  (.call 49 [(.agg [(.int .i64 (.a 12)), (.int .i64 (.a 13)), (.int .i64 (.a 14)), (.int .i64 (.a 15)), (.int .i64 (.a 16)), (.int .i64 (.a 17)), (.int .i64 (.a 18)), (.int .i64 (.a 19)), (.int .i64 (.a 20)), (.int .i64 (.a 21)), (.int .i64 (.a 22)), (.int .i64 (.a 23))])] [] [(.one .bool)]
  (.ite (.not (.a 1))
   (.ret false (.int .i64 (.l 0)) [])
   (.call 48 [(.agg [(.int .i64 (.a 0)), (.int .i64 (.a 1)), (.int .i64 (.a 2)), (.int .i64 (.a 3)), (.int .i64 (.a 4)), (.int .i64 (.a 5)), (.int .i64 (.a 6)), (.int .i64 (.a 7)), (.int .i64 (.a 8)), (.int .i64 (.a 9)), (.int .i64 (.a 10)), (.int .i64 (.a 11))]), (.agg [(.int .i64 (.a 12)), (.int .i64 (.a 13)), (.int .i64 (.a 14)), (.int .i64 (.a 15)), (.int .i64 (.a 16)), (.int .i64 (.a 17)), (.int .i64 (.a 18)), (.int .i64 (.a 19)), (.int .i64 (.a 20)), (.int .i64 (.a 21)), (.int .i64 (.a 22)), (.int .i64 (.a 23))])] [] [(.one (.int .i64))]
   (.ret false (.int .i64 (.a 24)) []))))))
def revealed_Gain_S : Sx.Sys := ⟨[(.sh (.agg [(.int .i64), (.int .i64), (.int .i64), (.int .i64), (.int .i64), (.int .i64), (.int .i64), (.int .i64), (.int .i64), (.int .i64), (.int .i64), (.int .i64)])), (.sh (.agg [(.int .i64), (.int .i64), (.int .i64), (.int .i64), (.int .i64), (.int .i64), (.int .i64), (.int .i64), (.int .i64), (.int .i64), (.int .i64), (.int .i64)]))], revealed_Gain_s, []⟩
def revealed_Gain_pats : List Cfg := []
theorem revealed_Gain_ok : SysOk Try.prog 20 revealed_Gain_S := sys_ok (c := (cg [] [] [] false false false true)) (progOkG _ _ _ _ _ _ _) Try.func20 Try.call20 (by kernel_rfl) revealed_Gain_pats revealed_Gain_S 5000 rfl (by kernel_rfl) (by kernel_rfl)
def activity_Affordable_s : PT :=
 (.call 54 [(.agg [(.va 0), (.va 1), (.va 2), (.va 3)]), (.int .i64 (.a 0))] [] [(.one .bool)]
 (.ite (.not (.a 0))
  (.ret false (.int .i64 (.l 6)) [])
  (.need (.and (.le (.l 0) (.a 0)) (.lt (.a 0) (.slen 1)))
  (.load false (.ea 1 (.a 0) 4 2) [(.int .i64)]
  (.ite (.not (.eq (.a 13) (.l 0)))
   (.call 41 [(.agg [(.int .i64 (.a 1)), (.int .i64 (.a 2)), (.int .i64 (.a 3)), (.int .i64 (.a 4)), (.int .i64 (.a 5)), (.int .i64 (.a 6))]), (.agg [(.int .i64 (.a 7)), (.int .i64 (.a 8)), (.int .i64 (.a 9)), (.int .i64 (.a 10)), (.int .i64 (.a 11)), (.int .i64 (.a 12))])] [] [(.one (.int .i64))]
   (.ite (.lt (.a 13) (.a 14))
    (.ret false (.int .i64 (.l 17)) [])
    (.ret false (.int .i64 (.l 0)) [])))
   (.ret false (.int .i64 (.l 0)) []))))))
def activity_Affordable_S : Sx.Sys := ⟨[(.sh (.agg [.val, .val, .val, .val])), (.sh (.one (.int .i64))), (.sh (.agg [(.int .i64), (.int .i64), (.int .i64), (.int .i64), (.int .i64), (.int .i64), (.int .i64), (.int .i64), (.int .i64), (.int .i64), (.int .i64), (.int .i64)]))], activity_Affordable_s, []⟩
def activity_Affordable_pats : List Cfg := []
theorem activity_Affordable_ok : SysOk Try.prog 31 activity_Affordable_S := sys_ok (c := (cg [] [] [] false false false true)) (progOkG _ _ _ _ _ _ _) Try.func31 Try.call31 (by kernel_rfl) activity_Affordable_pats activity_Affordable_S 5000 rfl (by kernel_rfl) (by kernel_rfl)
def saleroomref36_Cost_s : PT :=
 (.call 64 [(.agg [(.int .i64 (.a 0)), (.int .i64 (.a 1)), (.int .i64 (.a 2)), (.int .i64 (.a 3)), (.int .i64 (.a 4)), (.int .i64 (.a 5))]), (.agg [(.int .i64 (.a 12)), (.int .i64 (.a 13)), (.int .i64 (.a 14)), (.int .i64 (.a 15)), (.int .i64 (.a 16)), (.int .i64 (.a 17))])] [] [(.one (.int .i64))]
 (.ret false (.int .i64 (.a 18)) []))
def saleroomref36_Cost_S : Sx.Sys := ⟨[(.sh (.agg [(.int .i64), (.int .i64), (.int .i64), (.int .i64), (.int .i64), (.int .i64), (.int .i64), (.int .i64), (.int .i64), (.int .i64), (.int .i64), (.int .i64)])), (.sh (.agg [(.int .i64), (.int .i64), (.int .i64), (.int .i64), (.int .i64), (.int .i64)]))], saleroomref36_Cost_s, []⟩
def saleroomref36_Cost_pats : List Cfg := []
theorem saleroomref36_Cost_ok : SysOk Try.prog 43 saleroomref36_Cost_S := sys_ok (c := (cg [] [] [] false false false true)) (progOkG _ _ _ _ _ _ _) Try.func43 Try.call43 (by kernel_rfl) saleroomref36_Cost_pats saleroomref36_Cost_S 5000 rfl (by kernel_rfl) (by kernel_rfl)
def activity_history_fits_s : PT :=
 (.call 59 [(.agg [(.va 0), (.va 1), (.va 2), (.va 3), (.int .i64 (.a 0)), (.va 4)]), (.agg [(.int .i64 (.a 1)), (.int .i64 (.a 2)), (.int .i64 (.a 3)), (.int .i64 (.a 4)), (.int .i64 (.a 5)), (.int .i64 (.a 6)), (.int .i64 (.a 7)), (.int .i64 (.a 8)), (.int .i64 (.a 9)), (.int .i64 (.a 10)), (.int .i64 (.a 11)), (.int .i64 (.a 12))])] [] [(.one (.int .i64))]
 (.call 27 [(.agg [(.va 0), (.va 1), (.va 2), (.va 3)]), (.int .i64 (.a 0)), (.va 4)] [] [(.one (.int .i64))]
 (.ret false (.bool (.le (.a 13) (.a 14))) [])))
def activity_history_fits_S : Sx.Sys := ⟨[(.sh (.agg [.val, .val, .val, .val, (.int .i64), .val])), (.sh (.agg [(.int .i64), (.int .i64), (.int .i64), (.int .i64), (.int .i64), (.int .i64), (.int .i64), (.int .i64), (.int .i64), (.int .i64), (.int .i64), (.int .i64)]))], activity_history_fits_s, []⟩
def activity_history_fits_pats : List Cfg := []
theorem activity_history_fits_ok : SysOk Try.prog 51 activity_history_fits_S := sys_ok (c := (cg [] [] [] false false false true)) (progOkG _ _ _ _ _ _ _) Try.func51 Try.call51 (by kernel_rfl) activity_history_fits_pats activity_history_fits_S 5000 rfl (by kernel_rfl) (by kernel_rfl)
def saleroomref37_cost_s : PT :=
 (.need (.and (.le (.l (-9223372036854775808)) (.mul (.a 0) (.a 6))) (.le (.mul (.a 0) (.a 6)) (.l 9223372036854775807)))
 (.need (.and (.le (.l (-9223372036854775808)) (.mul (.a 0) (.a 6))) (.le (.mul (.a 0) (.a 6)) (.l 9223372036854775807)))
 (.need (.and (.le (.l (-9223372036854775808)) (.mul (.a 1) (.a 7))) (.le (.mul (.a 1) (.a 7)) (.l 9223372036854775807)))
 (.need (.and (.le (.l (-9223372036854775808)) (.add (.mul (.a 0) (.a 6)) (.mul (.a 1) (.a 7)))) (.le (.add (.mul (.a 0) (.a 6)) (.mul (.a 1) (.a 7))) (.l 9223372036854775807)))
 (.need (.and (.le (.l (-9223372036854775808)) (.mul (.a 2) (.a 8))) (.le (.mul (.a 2) (.a 8)) (.l 9223372036854775807)))
 (.need (.and (.le (.l (-9223372036854775808)) (.add (.add (.mul (.a 0) (.a 6)) (.mul (.a 1) (.a 7))) (.mul (.a 2) (.a 8)))) (.le (.add (.add (.mul (.a 0) (.a 6)) (.mul (.a 1) (.a 7))) (.mul (.a 2) (.a 8))) (.l 9223372036854775807)))
 (.need (.and (.le (.l (-9223372036854775808)) (.mul (.a 3) (.a 9))) (.le (.mul (.a 3) (.a 9)) (.l 9223372036854775807)))
 (.need (.and (.le (.l (-9223372036854775808)) (.add (.add (.add (.mul (.a 0) (.a 6)) (.mul (.a 1) (.a 7))) (.mul (.a 2) (.a 8))) (.mul (.a 3) (.a 9)))) (.le (.add (.add (.add (.mul (.a 0) (.a 6)) (.mul (.a 1) (.a 7))) (.mul (.a 2) (.a 8))) (.mul (.a 3) (.a 9))) (.l 9223372036854775807)))
 (.need (.and (.le (.l (-9223372036854775808)) (.mul (.a 4) (.a 10))) (.le (.mul (.a 4) (.a 10)) (.l 9223372036854775807)))
 (.need (.and (.le (.l (-9223372036854775808)) (.add (.add (.add (.add (.mul (.a 0) (.a 6)) (.mul (.a 1) (.a 7))) (.mul (.a 2) (.a 8))) (.mul (.a 3) (.a 9))) (.mul (.a 4) (.a 10)))) (.le (.add (.add (.add (.add (.mul (.a 0) (.a 6)) (.mul (.a 1) (.a 7))) (.mul (.a 2) (.a 8))) (.mul (.a 3) (.a 9))) (.mul (.a 4) (.a 10))) (.l 9223372036854775807)))
 (.need (.and (.le (.l (-9223372036854775808)) (.mul (.a 5) (.a 11))) (.le (.mul (.a 5) (.a 11)) (.l 9223372036854775807)))
 (.need (.and (.le (.l (-9223372036854775808)) (.add (.add (.add (.add (.add (.mul (.a 0) (.a 6)) (.mul (.a 1) (.a 7))) (.mul (.a 2) (.a 8))) (.mul (.a 3) (.a 9))) (.mul (.a 4) (.a 10))) (.mul (.a 5) (.a 11)))) (.le (.add (.add (.add (.add (.add (.mul (.a 0) (.a 6)) (.mul (.a 1) (.a 7))) (.mul (.a 2) (.a 8))) (.mul (.a 3) (.a 9))) (.mul (.a 4) (.a 10))) (.mul (.a 5) (.a 11))) (.l 9223372036854775807)))
 (.ret false (.int .i64 (.add (.add (.add (.add (.add (.mul (.a 0) (.a 6)) (.mul (.a 1) (.a 7))) (.mul (.a 2) (.a 8))) (.mul (.a 3) (.a 9))) (.mul (.a 4) (.a 10))) (.mul (.a 5) (.a 11)))) [])))))))))))))
def saleroomref37_cost_S : Sx.Sys := ⟨[(.sh (.agg [(.int .i64), (.int .i64), (.int .i64), (.int .i64), (.int .i64), (.int .i64)])), (.sh (.agg [(.int .i64), (.int .i64), (.int .i64), (.int .i64), (.int .i64), (.int .i64)]))], saleroomref37_cost_s, []⟩
def saleroomref37_cost_pats : List Cfg := []
theorem saleroomref37_cost_ok : SysOk Try.prog 60 saleroomref37_cost_S := sys_ok (c := (cg [] [] [] false false false true)) (progOkG _ _ _ _ _ _ _) Try.func60 Try.call60 (by kernel_rfl) saleroomref37_cost_pats saleroomref37_cost_S 5000 rfl (by kernel_rfl) (by kernel_rfl)
def saleroomref08_Valid_s : PT :=
 (.ite (.lt (.a 0) (.l 0))
  (.ret false (.bool (.t false)) [])
  (.ite (.lt (.l 4) (.a 0))
   (.ret false (.bool (.t false)) [])
   (.ite (.lt (.a 1) (.l 0))
    (.ret false (.bool (.t false)) [])
    (.ite (.lt (.l 4) (.a 1))
     (.ret false (.bool (.t false)) [])
     (.ite (.lt (.a 2) (.l 0))
      (.ret false (.bool (.t false)) [])
      (.ite (.lt (.l 4) (.a 2))
       (.ret false (.bool (.t false)) [])
       (.ite (.lt (.a 3) (.l 0))
        (.ret false (.bool (.t false)) [])
        (.ite (.lt (.l 4) (.a 3))
         (.ret false (.bool (.t false)) [])
         (.ite (.lt (.a 4) (.l 0))
          (.ret false (.bool (.t false)) [])
          (.ite (.lt (.l 4) (.a 4))
           (.ret false (.bool (.t false)) [])
           (.ite (.lt (.a 5) (.l 0))
            (.ret false (.bool (.t false)) [])
            (.ite (.lt (.l 4) (.a 5))
             (.ret false (.bool (.t false)) [])
             (.ret false (.bool (.t true)) [])))))))))))))
def saleroomref08_Valid_S : Sx.Sys := ⟨[(.sh (.agg [(.int .i64), (.int .i64), (.int .i64), (.int .i64), (.int .i64), (.int .i64)]))], saleroomref08_Valid_s, []⟩
def saleroomref08_Valid_pats : List Cfg := []
theorem saleroomref08_Valid_ok : SysOk Try.prog 72 saleroomref08_Valid_S := sys_ok (c := (cg [] [] [] false false false true)) (progOkG _ _ _ _ _ _ _) Try.func72 Try.call72 (by kernel_rfl) saleroomref08_Valid_pats saleroomref08_Valid_S 5000 rfl (by kernel_rfl) (by kernel_rfl)
def bundle_each_1_s : PT :=
 (.jump 0 [(.l 0), (.l 0), (.l 0), (.l 0), (.l 0), (.l 0)] [] [(.va 0), (.va 1)])
def bundle_each_1_t0 : PT :=
 (.callv 0 [(.agg [(.int .i64 (.a 0)), (.int .i64 (.a 1)), (.int .i64 (.a 2)), (.int .i64 (.a 3)), (.int .i64 (.a 4)), (.int .i64 (.a 5))])] [(.one .bool)]
 (.ite (.a 0)
  (.load false (.pa 1 0) [(.int .i64), (.int .i64), (.int .i64), (.int .i64), (.int .i64), (.int .i64)]
  (.call 82 [(.agg [(.int .i64 (.a 0)), (.int .i64 (.a 1)), (.int .i64 (.a 2)), (.int .i64 (.a 3)), (.int .i64 (.a 4)), (.int .i64 (.a 5))]), (.agg [(.int .i64 (.a 6)), (.int .i64 (.a 7)), (.int .i64 (.a 8)), (.int .i64 (.a 9)), (.int .i64 (.a 10)), (.int .i64 (.a 11))])] [] [(.agg [(.int .i64), (.int .i64), (.int .i64), (.int .i64), (.int .i64), (.int .i64)])]
  (.ite (.and (.eq (.a 12) (.l 0)) (.and (.eq (.a 13) (.l 0)) (.and (.eq (.a 14) (.l 0)) (.and (.eq (.a 15) (.l 0)) (.and (.eq (.a 16) (.l 0)) (.eq (.a 17) (.l 0)))))))
   (.ret true (.tup []) [])
   (.jump 0 [(.a 12), (.a 13), (.a 14), (.a 15), (.a 16), (.a 17)] [] [(.va 0), (.va 1)]))))
  (.ret true (.tup []) [])))
def bundle_each_1_S : Sx.Sys := ⟨[(.sh (.one .val)), .ptr], bundle_each_1_s, [bundle_each_1_t0]⟩
def bundle_each_1_pats : List Cfg := [{ todo := [(.code [false, false, true]), (.inLoop [false, false, true]), (.inBlock 0)], sl := [(.va 0), (.pa 1 0), .undef, (.ptr 0 0), (.junk 0), (.junk 1), (.junk 2), (.junk 3), (.junk 4), (.junk 5), (.junk 6), (.junk 7), (.junk 8), (.junk 9)], H := [(.cells [(.int .i64 (.a 0)), (.int .i64 (.a 1)), (.int .i64 (.a 2)), (.int .i64 (.a 3)), (.int .i64 (.a 4)), (.int .i64 (.a 5))] 42 false)], ni := 6, nb := 0, nv := 2, nj := 10 }]
theorem bundle_each_1_ok : SysOk Try.prog 81 bundle_each_1_S := sys_ok (c := (cg [[false, false, true]] [] [(5, [4])] true true false true)) (progOkG _ _ _ _ _ _ _) Try.func81 Try.call81 (by kernel_rfl) bundle_each_1_pats bundle_each_1_S 5000 rfl (by kernel_rfl) (by kernel_rfl)
end Go.Proofs.Ythjahianafohjaa
