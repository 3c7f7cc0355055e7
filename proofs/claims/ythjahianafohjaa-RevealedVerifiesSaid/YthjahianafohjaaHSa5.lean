/- The trees of this seat's functions, part 5. Written by txgen.py. -/
import Derived.Test.YthjahianafohjaaHTab
set_option linter.unusedSimpArgs false
set_option linter.unusedVariables false
set_option maxRecDepth 100000
namespace Go.Proofs.Ythjahianafohjaa
open Go.Sx
def saleroomlaw37_ActivityFunds_s : PT :=
 (.call 22 [(.agg [(.va 0), (.va 1), (.va 2), (.va 3)])] [] [(.one .bool)]
 (.ite (.not (.a 0))
  (.call 24 [] [] [(.one .bool)]
  (.ret false (.bool (.a 1)) []))
  (.app none (.lit [[(.int .i64 (.a 1)), (.int .i64 (.a 2)), (.int .i64 (.a 3)), (.int .i64 (.a 4)), (.int .i64 (.a 5)), (.int .i64 (.a 6)), (.int .i64 (.a 7)), (.int .i64 (.a 8)), (.int .i64 (.a 9)), (.int .i64 (.a 10)), (.int .i64 (.a 11)), (.int .i64 (.a 12))]]) 12
  (.call 23 [(.va 4)] [] [(.one .bool)]
  (.ite (.not (.a 1))
   (.call 24 [] [] [(.one .bool)]
   (.ret false (.bool (.a 2)) []))
   (.call 31 [(.agg [(.va 0), (.va 1), (.va 2), (.va 3)]), (.int .i64 (.a 0)), (.agg [(.int .i64 (.a 1)), (.int .i64 (.a 2)), (.int .i64 (.a 3)), (.int .i64 (.a 4)), (.int .i64 (.a 5)), (.int .i64 (.a 6)), (.int .i64 (.a 7)), (.int .i64 (.a 8)), (.int .i64 (.a 9)), (.int .i64 (.a 10)), (.int .i64 (.a 11)), (.int .i64 (.a 12))])] [] [(.one (.int .i64))]
   (.call 32 [(.agg [(.va 0), (.va 1), (.va 2), (.va 3)]), (.int .i64 (.a 0)), (.agg [(.int .i64 (.a 1)), (.int .i64 (.a 2)), (.int .i64 (.a 3)), (.int .i64 (.a 4)), (.int .i64 (.a 5)), (.int .i64 (.a 6)), (.int .i64 (.a 7)), (.int .i64 (.a 8)), (.int .i64 (.a 9)), (.int .i64 (.a 10)), (.int .i64 (.a 11)), (.int .i64 (.a 12))])] [] [(.one (.int .i64))]
   (.ite (.eq (.a 13) (.a 14))
    (.call 24 [] [] [(.one .bool)]
    (.ret false (.bool (.a 2)) []))
    (.ret false (.bool (.t false)) [])))))))))
def saleroomlaw37_ActivityFunds_S : Sx.Sys := ⟨[(.sh (.agg [.val, .val, .val, .val])), (.sh (.one (.int .i64))), (.sh (.agg [(.int .i64), (.int .i64), (.int .i64), (.int .i64), (.int .i64), (.int .i64), (.int .i64), (.int .i64), (.int .i64), (.int .i64), (.int .i64), (.int .i64)]))], saleroomlaw37_ActivityFunds_s, []⟩
def saleroomlaw37_ActivityFunds_pats : List Cfg := []
theorem saleroomlaw37_ActivityFunds_ok : SysOk Try.prog 10 saleroomlaw37_ActivityFunds_S := sys_ok (c := (cg [] [] [] false false false true)) (progOkG _ _ _ _ _ _ _) Try.func10 Try.call10 (by kernel_rfl) saleroomlaw37_ActivityFunds_pats saleroomlaw37_ActivityFunds_S 5000 rfl (by kernel_rfl) (by kernel_rfl)
def revealed_Verify_s : PT :=
 (.call 39 [(.va 0)] [] [(.one .bool)]
 (.ite (.not (.a 0))
  (.ret false (.int .i64 (.l 4)) [])
  (.call 46 [(.va 0), (.agg [(.va 1), (.va 2)])] [] [(.one .bool)]
  (.ite (.not (.a 1))
   (.ret false (.int .i64 (.l 2)) [])
   (.need (.is 0 1)
   (.ite (.eq (.slen 1) (.l 0))
    (.call 47 [(.va 0), (.va 2)] [] [(.one .bool)]
    (.ite (.not (.a 2))
     (.ret false (.int .i64 (.l 13)) [])
     (.ret false (.int .i64 (.l 0)) [])))
    (.need (.is 0 1)
    (.jump 0 [(.l 0), (.slen 1), (.l 0)] [] [(.va 0), (.va 1), (.va 2)]))))))))
def revealed_Verify_t0 : PT :=
 (.ite (.lt (.a 2) (.a 1))
  (.need (.and (.le (.l 0) (.a 2)) (.lt (.a 2) (.slen 1)))
  (.load false (.ea 1 (.a 2) 1 0) [(.int .i64)]
  (.need (.and (.le (.l 0) (.a 3)) (.lt (.a 3) (.slen 0)))
  (.need (.and (.le (.l (-9223372036854775808)) (.add (.a 2) (.l 1))) (.le (.add (.a 2) (.l 1)) (.l 9223372036854775807)))
  (.need (.is 0 1)
  (.need (.not (.eq (.slen 1) (.l 0)))
  (.need (.and (.le (.l 0) (.tmod (.add (.a 2) (.l 1)) (.slen 1))) (.lt (.tmod (.add (.a 2) (.l 1)) (.slen 1)) (.slen 1)))
  (.load true (.ea 0 (.a 3) 12 0) [(.int .i64), (.int .i64), (.int .i64), (.int .i64), (.int .i64), (.int .i64), (.int .i64), (.int .i64), (.int .i64), (.int .i64), (.int .i64), (.int .i64)]
  (.load true (.ea 1 (.tmod (.add (.a 2) (.l 1)) (.slen 1)) 1 0) [(.int .i64)]
  (.need (.and (.le (.l 0) (.a 16)) (.lt (.a 16) (.slen 0)))
  (.load true (.ea 0 (.a 16) 12 0) [(.int .i64), (.int .i64), (.int .i64), (.int .i64), (.int .i64), (.int .i64), (.int .i64), (.int .i64), (.int .i64), (.int .i64), (.int .i64), (.int .i64)]
  (.call 48 [(.agg [(.int .i64 (.a 4)), (.int .i64 (.a 5)), (.int .i64 (.a 6)), (.int .i64 (.a 7)), (.int .i64 (.a 8)), (.int .i64 (.a 9)), (.int .i64 (.a 10)), (.int .i64 (.a 11)), (.int .i64 (.a 12)), (.int .i64 (.a 13)), (.int .i64 (.a 14)), (.int .i64 (.a 15))]), (.agg [(.int .i64 (.a 17)), (.int .i64 (.a 18)), (.int .i64 (.a 19)), (.int .i64 (.a 20)), (.int .i64 (.a 21)), (.int .i64 (.a 22)), (.int .i64 (.a 23)), (.int .i64 (.a 24)), (.int .i64 (.a 25)), (.int .i64 (.a 26)), (.int .i64 (.a 27)), (.int .i64 (.a 28))])] [] [(.one (.int .i64))]
  (.need (.and (.le (.l (-9223372036854775808)) (.add (.a 0) (.a 29))) (.le (.add (.a 0) (.a 29)) (.l 9223372036854775807)))
  (.need (.and (.le (.l (-9223372036854775808)) (.add (.a 2) (.l 1))) (.le (.add (.a 2) (.l 1)) (.l 9223372036854775807)))
  (.jump 0 [(.add (.a 0) (.a 29)), (.a 1), (.add (.a 2) (.l 1))] [] [(.va 0), (.va 1), (.va 2)])))))))))))))))
  (.ite (.le (.l 0) (.a 0))
   (.ret false (.int .i64 (.l 13)) [])
   (.ret false (.int .i64 (.l 0)) [])))
def revealed_Verify_S : Sx.Sys := ⟨[(.sh (.one .val)), (.sh (.agg [.val, .val]))], revealed_Verify_s, [revealed_Verify_t0]⟩
def revealed_Verify_pats : List Cfg := [{ todo := [(.code [false, false, true, false, true, true, true, true, true]), (.inLoop [false, false, true, false, true, true, true, true, true]), (.inBlock 0), (.code [true, true, true, true, true, true])], sl := [(.va 0), (.junk 0), .undef, (.ptr 0 0), (.junk 1), (.int .i64 (.a 0)), (.junk 2), (.junk 3), (.junk 4), (.junk 5), (.junk 6), (.junk 7), (.junk 8), (.junk 9), (.junk 10), (.junk 11), (.junk 12), (.junk 13), (.junk 14), .undef, .undef, .undef, .undef, .undef, (.junk 15), (.va 1), (.int .i64 (.a 1)), (.int .i64 (.a 2)), (.junk 16), (.junk 17), (.junk 18), (.junk 19), (.junk 20), (.junk 21), (.junk 22), (.junk 23), (.junk 24), (.junk 25), (.junk 26), (.junk 27), (.junk 28), (.junk 29), (.junk 30), (.junk 31), (.junk 32), (.junk 33), (.junk 34), (.junk 35), (.junk 36), (.junk 37), (.junk 38), (.junk 39), (.junk 40), .undef, .undef], H := [(.cells [(.va 1), (.va 2)] 27 false)], ni := 3, nb := 0, nv := 3, nj := 41 }]
theorem revealed_Verify_ok : SysOk Try.prog 19 revealed_Verify_S := sys_ok (c := (cg [[false, false, true, false, true, true, true, true, true]] [] [] false false false true)) (progOkG _ _ _ _ _ _ _) Try.func19 Try.call19 (by kernel_rfl) revealed_Verify_pats revealed_Verify_S 5000 rfl (by kernel_rfl) (by kernel_rfl)
def saleroomref37_Exited_s : PT :=
 (.need (.is 0 0)
 (.ite (.lt (.l 0) (.slen 0))
  (.need (.is 0 0)
  (.need (.and (.le (.l (-9223372036854775808)) (.sub (.slen 0) (.l 1))) (.le (.sub (.slen 0) (.l 1)) (.l 9223372036854775807)))
  (.need (.and (.le (.l 0) (.sub (.slen 0) (.l 1))) (.lt (.sub (.slen 0) (.l 1)) (.slen 0)))
  (.load false (.ea 0 (.sub (.slen 0) (.l 1)) 12 6) [(.int .i64), (.int .i64), (.int .i64), (.int .i64), (.int .i64), (.int .i64)]
  (.ret false (.bool (.and (.eq (.a 0) (.l 0)) (.and (.eq (.a 1) (.l 0)) (.and (.eq (.a 2) (.l 0)) (.and (.eq (.a 3) (.l 0)) (.and (.eq (.a 4) (.l 0)) (.eq (.a 5) (.l 0)))))))) [])))))
  (.ret false (.bool (.t false)) [])))
def saleroomref37_Exited_S : Sx.Sys := ⟨[(.sh (.one .val))], saleroomref37_Exited_s, []⟩
def saleroomref37_Exited_pats : List Cfg := []
theorem saleroomref37_Exited_ok : SysOk Try.prog 30 saleroomref37_Exited_S := sys_ok (c := (cg [] [] [] false false false true)) (progOkG _ _ _ _ _ _ _) Try.func30 Try.call30 (by kernel_rfl) saleroomref37_Exited_pats saleroomref37_Exited_S 5000 rfl (by kernel_rfl) (by kernel_rfl)
def bundle_Cost_s : PT :=
 (.need (.and (.le (.l (-9223372036854775808)) (.mul (.a 0) (.a 6))) (.le (.mul (.a 0) (.a 6)) (.l 9223372036854775807)))
 (.need (.and (.le (.l (-9223372036854775808)) (.mul (.a 0) (.a 6))) (.le (.mul (.a 0) (.a 6)) (.l 9223372036854775807)))
 (.need (.and (.le (.l (-9223372036854775808)) (.mul (.a 1) (.a 7))) (.le (.mul (.a 1) (.a 7)) (.l 9223372036854775807)))
 (.need (.and (.le (.l (-9223372036854775808)) (.add (.mul (.a 0) (.a 6)) (.mul (.a 1) (.a 7)))) (.le (.add (.mul (.a 0) (.a 6)) (.mul (.a 1) (.a 7))) (.l 9223372036854775807)))
 (.need (.and (.le (.l (-9223372036854775808)) (.mul (.a 2) (.a 8))) (.le (.mul (.a 2) (.a 8)) (.l 9223372036854775807)))
 (.need (.and (.le (.l (-9223372036854775808)) (.add (.add (.mul (.a 0) (.a 6)) (.mul (.a 1) (.a 7))) (.mul (.a 2) (.a 8)))) (.le (.add (.add (.mul (.a 0) (.a 6)) (.mul (.a 1) (.a 7))) (.mul (.a 2) (.a 8))) (.l 9223372036854775807)))
 (.need (.and (.le (.l (-9223372036854775808)) (.mul (.a 3) (.a 9))) (.le (.mul (.a 3) (.a 9)) (.l 9223372036854775807)))
 (.need (.and (.le (.l (-9223372036854775808)) (.add (.add (.add (.mul (.a 0) (.a 6)) (.mul (.a 1) (.a 7))) (.mul (.a 2) (.a 8))) (.mul (.a 3) (.a 9)))) (.le (.add (.add (.add (.mul (.a 0) (.a 6)) (.mul (.a 1) (.a 7))) (.mul (.a 2) (.a 8))) (.mul (.a 3) (.a 9))) (.l 9223372036854775807)))
 (.need (.and (.le (.l (-9223372036854775808)) (.mul (.a 4) (.a 10))) (.le (.mul (.a 4) (.a 10)) (.l 9223372036854775807)))
 (.need (.and (.le (.l (-9223372036854775808)) (.add (.add (.add (.add (.mul (.a 0) (.a 6)) (.mul (.a 1) (.a 7))) (.mul (.a 2) (.a 8))) (.mul (.a 3) (.a 9))) (.mul (.a 4) (.a 10)))) (.le (.add (.add (.add (.add (.mul (.a 0) (.a 6)) (.mul (.a 1) (.a 7))) (.mul (.a 2) (.a 8))) (.mul (.a 3) (.a 9))) (.mul (.a 4) (.a 10))) (.l 9223372036854775807)))
 (.need (.and (.le (.l (-9223372036854775808)) (.mul (.a 5) (.a 11))) (.le (.mul (.a 5) (.a 11)) (.l 9223372036854775807)))
 (.need (.and (.le (.l (-9223372036854775808)) (.add (.add (.add (.add (.add (.mul (.a 0) (.a 6)) (.mul (.a 1) (.a 7))) (.mul (.a 2) (.a 8))) (.mul (.a 3) (.a 9))) (.mul (.a 4) (.a 10))) (.mul (.a 5) (.a 11)))) (.le (.add (.add (.add (.add (.add (.mul (.a 0) (.a 6)) (.mul (.a 1) (.a 7))) (.mul (.a 2) (.a 8))) (.mul (.a 3) (.a 9))) (.mul (.a 4) (.a 10))) (.mul (.a 5) (.a 11))) (.l 9223372036854775807)))
 (.ret false (.int .i64 (.add (.add (.add (.add (.add (.mul (.a 0) (.a 6)) (.mul (.a 1) (.a 7))) (.mul (.a 2) (.a 8))) (.mul (.a 3) (.a 9))) (.mul (.a 4) (.a 10))) (.mul (.a 5) (.a 11)))) [])))))))))))))
def bundle_Cost_S : Sx.Sys := ⟨[(.sh (.agg [(.int .i64), (.int .i64), (.int .i64), (.int .i64), (.int .i64), (.int .i64)])), (.sh (.agg [(.int .i64), (.int .i64), (.int .i64), (.int .i64), (.int .i64), (.int .i64)]))], bundle_Cost_s, []⟩
def bundle_Cost_pats : List Cfg := []
theorem bundle_Cost_ok : SysOk Try.prog 41 bundle_Cost_S := sys_ok (c := (cg [] [] [] false false false true)) (progOkG _ _ _ _ _ _ _) Try.func41 Try.call41 (by kernel_rfl) bundle_Cost_pats bundle_Cost_S 5000 rfl (by kernel_rfl) (by kernel_rfl)
def saleroomlaw37_sale_s : PT :=
 (.app none (.lit [[(.str [97]), (.int .i64 (.l 2)), (.int .i64 (.l 0)), (.int .i64 (.l 2)), (.int .i64 (.l 0))], [(.str [98]), (.int .i64 (.l 2)), (.int .i64 (.l 0)), (.int .i64 (.l 2)), (.int .i64 (.l 0))]]) 5
 (.app none (.lit [[(.str [120]), (.int .i64 (.l 0)), (.int .i64 (.l 9)), (.int .i64 (.l 3))]]) 4
 (.ret false (.agg [(.va 0), (.va 1), .nilS, .nilS]) [])))
def saleroomlaw37_sale_S : Sx.Sys := ⟨[], saleroomlaw37_sale_s, []⟩
def saleroomlaw37_sale_pats : List Cfg := []
theorem saleroomlaw37_sale_ok : SysOk Try.prog 50 saleroomlaw37_sale_S := sys_ok (c := (cg [] [] [] false false false true)) (progOkG _ _ _ _ _ _ _) Try.func50 Try.call50 (by kernel_rfl) saleroomlaw37_sale_pats saleroomlaw37_sale_S 5000 rfl (by kernel_rfl) (by kernel_rfl)
def activity_history_points_s : PT :=
 (.call 67 [(.va 0), (.agg [(.int .i64 (.a 7)), (.int .i64 (.a 8)), (.int .i64 (.a 9)), (.int .i64 (.a 10)), (.int .i64 (.a 11)), (.int .i64 (.a 12))])] [] [(.one (.int .i64))]
 (.ret false (.int .i64 (.a 13)) []))
def activity_history_points_S : Sx.Sys := ⟨[(.sh (.agg [.val, .val, .val, .val, (.int .i64), .val])), (.sh (.agg [(.int .i64), (.int .i64), (.int .i64), (.int .i64), (.int .i64), (.int .i64), (.int .i64), (.int .i64), (.int .i64), (.int .i64), (.int .i64), (.int .i64)]))], activity_history_points_s, []⟩
def activity_history_points_pats : List Cfg := []
theorem activity_history_points_ok : SysOk Try.prog 59 activity_history_points_S := sys_ok (c := (cg [] [] [] false false false true)) (progOkG _ _ _ _ _ _ _) Try.func59 Try.call59 (by kernel_rfl) activity_history_points_pats activity_history_points_S 5000 rfl (by kernel_rfl) (by kernel_rfl)
def bundle_All_s : PT :=
 (.call 76 [(.agg [(.int .i64 (.a 0)), (.int .i64 (.a 1)), (.int .i64 (.a 2)), (.int .i64 (.a 3)), (.int .i64 (.a 4)), (.int .i64 (.a 5))])] [] [(.one (.int .i64))]
 (.ite (.eq (.a 6) (.l 0))
  (.ret false (.fn 77 []) [])
  (.call 78 [(.agg [(.int .i64 (.a 0)), (.int .i64 (.a 1)), (.int .i64 (.a 2)), (.int .i64 (.a 3)), (.int .i64 (.a 4)), (.int .i64 (.a 5))])] [] [(.one .val)]
  (.ret false (.va 0) []))))
def bundle_All_S : Sx.Sys := ⟨[(.sh (.agg [(.int .i64), (.int .i64), (.int .i64), (.int .i64), (.int .i64), (.int .i64)]))], bundle_All_s, []⟩
def bundle_All_pats : List Cfg := []
theorem bundle_All_ok : SysOk Try.prog 71 bundle_All_S := sys_ok (c := (cg [] [] [] false false false true)) (progOkG _ _ _ _ _ _ _) Try.func71 Try.call71 (by kernel_rfl) bundle_All_pats bundle_All_S 5000 rfl (by kernel_rfl) (by kernel_rfl)
def bundle_Within_s : PT :=
 (.call 87 [(.agg [(.int .i64 (.a 0)), (.int .i64 (.a 1)), (.int .i64 (.a 2)), (.int .i64 (.a 3)), (.int .i64 (.a 4)), (.int .i64 (.a 5))]), (.agg [(.int .i64 (.a 6)), (.int .i64 (.a 7)), (.int .i64 (.a 8)), (.int .i64 (.a 9)), (.int .i64 (.a 10)), (.int .i64 (.a 11))])] [] [(.agg [(.int .i64), (.int .i64), (.int .i64), (.int .i64), (.int .i64), (.int .i64)])]
 (.ret false (.bool (.and (.eq (.a 12) (.a 0)) (.and (.eq (.a 13) (.a 1)) (.and (.eq (.a 14) (.a 2)) (.and (.eq (.a 15) (.a 3)) (.and (.eq (.a 16) (.a 4)) (.eq (.a 17) (.a 5)))))))) []))
def bundle_Within_S : Sx.Sys := ⟨[(.sh (.agg [(.int .i64), (.int .i64), (.int .i64), (.int .i64), (.int .i64), (.int .i64)])), (.sh (.agg [(.int .i64), (.int .i64), (.int .i64), (.int .i64), (.int .i64), (.int .i64)]))], bundle_Within_s, []⟩
def bundle_Within_pats : List Cfg := []
theorem bundle_Within_ok : SysOk Try.prog 80 bundle_Within_S := sys_ok (c := (cg [] [] [] false false false true)) (progOkG _ _ _ _ _ _ _) Try.func80 Try.call80 (by kernel_rfl) bundle_Within_pats bundle_Within_S 5000 rfl (by kernel_rfl) (by kernel_rfl)
end Go.Proofs.Ythjahianafohjaa
