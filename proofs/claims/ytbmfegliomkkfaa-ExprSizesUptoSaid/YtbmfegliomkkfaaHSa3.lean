/- The trees of this seat's functions, part 3. Written by txgen.py. -/
import Derived.Test.YtbmfegliomkkfaaHTab
set_option linter.unusedSimpArgs false
set_option linter.unusedVariables false
set_option maxRecDepth 100000
namespace Go.Proofs.Ytbmfegliomkkfaa
open Go.Sx
def saleroomlaw15_DemandsetPath_s : PT :=
 (.need (.is 0 0)
 (.ite (.lt (.l 40) (.slen 0))
  (.call 15 [] [] [(.one .bool)]
  (.ret false (.bool (.a 0)) []))
  (.need (.is 0 1)
  (.ite (.lt (.l 8) (.slen 1))
   (.call 15 [] [] [(.one .bool)]
   (.ret false (.bool (.a 0)) []))
   (.call 18 [(.agg [(.int .i64 (.a 0)), (.int .i64 (.a 1)), (.int .i64 (.a 2)), (.int .i64 (.a 3)), (.int .i64 (.a 4)), (.int .i64 (.a 5))])] [] [(.one (.int .i64))]
   (.ite (.lt (.l 100) (.a 6))
    (.call 15 [] [] [(.one .bool)]
    (.ret false (.bool (.a 0)) []))
    (.call 26 [(.va 0), (.agg [(.int .i64 (.a 0)), (.int .i64 (.a 1)), (.int .i64 (.a 2)), (.int .i64 (.a 3)), (.int .i64 (.a 4)), (.int .i64 (.a 5))]), (.va 1)] [] [(.one .val)]
    (.call 27 [(.va 0), (.agg [(.int .i64 (.a 0)), (.int .i64 (.a 1)), (.int .i64 (.a 2)), (.int .i64 (.a 3)), (.int .i64 (.a 4)), (.int .i64 (.a 5))]), (.va 1)] [] [(.one .val)]
    (.need (.is 0 2)
    (.need (.is 0 3)
    (.ite (.not (.eq (.slen 2) (.slen 3)))
     (.ret false (.bool (.t false)) [])
     (.jump 0 [(.l 0)] [] [(.va 2), (.va 3)]))))))))))))
def saleroomlaw15_DemandsetPath_t0 : PT :=
 (.need (.is 0 1)
 (.ite (.lt (.a 0) (.slen 1))
  (.need (.and (.le (.l 0) (.a 0)) (.lt (.a 0) (.slen 0)))
  (.need (.and (.le (.l 0) (.a 0)) (.lt (.a 0) (.slen 1)))
  (.load true (.ea 0 (.a 0) 12 0) [(.int .i64), (.int .i64), (.int .i64), (.int .i64), (.int .i64), (.int .i64), (.int .i64), (.int .i64), (.int .i64), (.int .i64), (.int .i64), (.int .i64)]
  (.load true (.ea 1 (.a 0) 12 0) [(.int .i64), (.int .i64), (.int .i64), (.int .i64), (.int .i64), (.int .i64), (.int .i64), (.int .i64), (.int .i64), (.int .i64), (.int .i64), (.int .i64)]
  (.ite (.not (.and (.eq (.a 1) (.a 13)) (.and (.eq (.a 2) (.a 14)) (.and (.eq (.a 3) (.a 15)) (.and (.eq (.a 4) (.a 16)) (.and (.eq (.a 5) (.a 17)) (.and (.eq (.a 6) (.a 18)) (.and (.eq (.a 7) (.a 19)) (.and (.eq (.a 8) (.a 20)) (.and (.eq (.a 9) (.a 21)) (.and (.eq (.a 10) (.a 22)) (.and (.eq (.a 11) (.a 23)) (.eq (.a 12) (.a 24))))))))))))))
   (.ret false (.bool (.t false)) [])
   (.need (.and (.le (.l (-9223372036854775808)) (.add (.a 0) (.l 1))) (.le (.add (.a 0) (.l 1)) (.l 9223372036854775807)))
   (.jump 0 [(.add (.a 0) (.l 1))] [] [(.va 0), (.va 1)])))))))
  (.call 15 [] [] [(.one .bool)]
  (.ret false (.bool (.a 0)) []))))
def saleroomlaw15_DemandsetPath_S : Sx.Sys := ⟨[(.sh (.one .val)), (.sh (.agg [(.int .i64), (.int .i64), (.int .i64), (.int .i64), (.int .i64), (.int .i64)])), (.sh (.one .val))], saleroomlaw15_DemandsetPath_s, [saleroomlaw15_DemandsetPath_t0]⟩
def saleroomlaw15_DemandsetPath_pats : List Cfg := [{ todo := [(.code [false, false, true, false, true, true, true, true]), (.inLoop [false, false, true, false, true, true, true, true]), (.inBlock 0), (.code [true, true, true, true, true])], sl := [(.junk 0), (.junk 1), (.junk 2), .undef, (.junk 3), .undef, (.junk 4), (.va 0), (.va 1), (.int .i64 (.a 0)), (.junk 5), (.junk 6), (.junk 7), (.junk 8), (.junk 9), (.junk 10), (.junk 11), (.junk 12), (.junk 13), (.junk 14), (.junk 15), (.junk 16), (.junk 17), .undef, (.junk 18), (.junk 19), (.junk 20), (.junk 21), (.junk 22), (.junk 23), (.junk 24), (.junk 25), (.junk 26), (.junk 27), (.junk 28), (.junk 29), (.junk 30), (.junk 31), (.junk 32), (.junk 33), (.junk 34), (.junk 35), (.junk 36), (.junk 37), (.junk 38), (.junk 39), (.junk 40), (.junk 41), (.junk 42), (.junk 43), (.junk 44), (.junk 45), .undef], H := [], ni := 1, nb := 0, nv := 2, nj := 46 }]
theorem saleroomlaw15_DemandsetPath_ok : SysOk Try.prog 7 saleroomlaw15_DemandsetPath_S := sys_ok (c := (cg [[false, false, true, false, true, true, true, true]] [] [] false false false)) (progOkG _ _ _ _ _ _) Try.func7 Try.call7 (by kernel_rfl) saleroomlaw15_DemandsetPath_pats saleroomlaw15_DemandsetPath_S 5000 rfl (by kernel_rfl) (by kernel_rfl)
def saleroomlaw15_lives_s : PT :=
 (.app none (.lit [[(.int .i64 (.l 0)), (.int .i64 (.l 1)), (.int .i64 (.l 0)), (.int .i64 (.l 0)), (.int .i64 (.l 0)), (.int .i64 (.l 0)), (.int .i64 (.l 0)), (.int .i64 (.l 10))], [(.int .i64 (.l 0)), (.int .i64 (.l 1)), (.int .i64 (.l 1)), (.int .i64 (.l 0)), (.int .i64 (.l 0)), (.int .i64 (.l 0)), (.int .i64 (.l 0)), (.int .i64 (.l 12))]]) 8
 (.call 19 [(.va 0), (.agg [(.int .i64 (.l 1)), (.int .i64 (.l 1)), (.int .i64 (.l 0)), (.int .i64 (.l 0)), (.int .i64 (.l 0)), (.int .i64 (.l 0))]), (.agg [(.int .i64 (.l 3)), (.int .i64 (.l 2)), (.int .i64 (.l 0)), (.int .i64 (.l 0)), (.int .i64 (.l 0)), (.int .i64 (.l 0))])] [] [(.agg [(.int .i64), (.int .i64), (.int .i64), (.int .i64), (.int .i64), (.int .i64)]), (.one (.int .i64))]
 (.call 21 [(.va 0), (.agg [(.int .i64 (.l 1)), (.int .i64 (.l 1)), (.int .i64 (.l 0)), (.int .i64 (.l 0)), (.int .i64 (.l 0)), (.int .i64 (.l 0))]), (.agg [(.int .i64 (.l 3)), (.int .i64 (.l 2)), (.int .i64 (.l 0)), (.int .i64 (.l 0)), (.int .i64 (.l 0)), (.int .i64 (.l 0))])] [] [(.one .val)]
 (.app none (.lit [[(.int .i64 (.l 3)), (.int .i64 (.l 2)), (.int .i64 (.l 0)), (.int .i64 (.l 0)), (.int .i64 (.l 0)), (.int .i64 (.l 0))]]) 6
 (.call 26 [(.va 0), (.agg [(.int .i64 (.l 1)), (.int .i64 (.l 1)), (.int .i64 (.l 0)), (.int .i64 (.l 0)), (.int .i64 (.l 0)), (.int .i64 (.l 0))]), (.va 2)] [] [(.one .val)]
 (.ite (.and (.eq (.a 0) (.l 1)) (.and (.eq (.a 1) (.l 0)) (.and (.eq (.a 2) (.l 0)) (.and (.eq (.a 3) (.l 0)) (.and (.eq (.a 4) (.l 0)) (.eq (.a 5) (.l 0)))))))
  (.ite (.eq (.a 6) (.l 7))
   (.need (.is 0 1)
   (.ite (.eq (.slen 1) (.l 2))
    (.need (.lt (.l 1) (.slen 1))
    (.load true (.ea 1 (.l 1) 6 0) [(.int .i64), (.int .i64), (.int .i64), (.int .i64), (.int .i64), (.int .i64)]
    (.ite (.and (.eq (.a 7) (.l 1)) (.and (.eq (.a 8) (.l 1)) (.and (.eq (.a 9) (.l 0)) (.and (.eq (.a 10) (.l 0)) (.and (.eq (.a 11) (.l 0)) (.eq (.a 12) (.l 0)))))))
     (.call 16 [(.va 0), (.agg [(.int .i64 (.l 3)), (.int .i64 (.l 2)), (.int .i64 (.l 0)), (.int .i64 (.l 0)), (.int .i64 (.l 0)), (.int .i64 (.l 0))]), (.agg [(.int .i64 (.l 1)), (.int .i64 (.l 1)), (.int .i64 (.l 0)), (.int .i64 (.l 0)), (.int .i64 (.l 0)), (.int .i64 (.l 0))])] [] [(.one (.int .i64))]
     (.ite (.eq (.a 13) (.l 7))
      (.cut 0 none (some (.l 1)) 8
      (.call 16 [(.va 4), (.agg [(.int .i64 (.l 3)), (.int .i64 (.l 2)), (.int .i64 (.l 0)), (.int .i64 (.l 0)), (.int .i64 (.l 0)), (.int .i64 (.l 0))]), (.agg [(.int .i64 (.l 1)), (.int .i64 (.l 1)), (.int .i64 (.l 0)), (.int .i64 (.l 0)), (.int .i64 (.l 0)), (.int .i64 (.l 0))])] [] [(.one (.int .i64))]
      (.ite (.eq (.a 14) (.l 5))
       (.need (.is 0 3)
       (.ite (.eq (.slen 3) (.l 1))
        (.need (.lt (.l 0) (.slen 3))
        (.load true (.ea 3 (.l 0) 12 0) [(.int .i64), (.int .i64), (.int .i64), (.int .i64), (.int .i64), (.int .i64), (.int .i64), (.int .i64), (.int .i64), (.int .i64), (.int .i64), (.int .i64)]
        (.ret false (.bool (.and (.eq (.a 15) (.l 3)) (.and (.eq (.a 16) (.l 2)) (.and (.eq (.a 17) (.l 0)) (.and (.eq (.a 18) (.l 0)) (.and (.eq (.a 19) (.l 0)) (.and (.eq (.a 20) (.l 0)) (.and (.eq (.a 21) (.a 0)) (.and (.eq (.a 22) (.a 1)) (.and (.eq (.a 23) (.a 2)) (.and (.eq (.a 24) (.a 3)) (.and (.eq (.a 25) (.a 4)) (.eq (.a 26) (.a 5)))))))))))))) [])))
        (.ret false (.bool (.t false)) [])))
       (.ret false (.bool (.t false)) []))))
      (.ret false (.bool (.t false)) [])))
     (.ret false (.bool (.t false)) []))))
    (.ret false (.bool (.t false)) [])))
   (.ret false (.bool (.t false)) []))
  (.ret false (.bool (.t false)) [])))))))
def saleroomlaw15_lives_S : Sx.Sys := ⟨[], saleroomlaw15_lives_s, []⟩
def saleroomlaw15_lives_pats : List Cfg := []
theorem saleroomlaw15_lives_ok : SysOk Try.prog 15 saleroomlaw15_lives_S := sys_ok (c := (cg [] [] [] false false false)) (progOkG _ _ _ _ _ _) Try.func15 Try.call15 (by kernel_rfl) saleroomlaw15_lives_pats saleroomlaw15_lives_S 5000 rfl (by kernel_rfl) (by kernel_rfl)
def demandset_Path_s : PT :=
 (.need (.is 0 1)
 (.jump 0 [(.slen 1), (.l 0), (.a 0), (.a 1), (.a 2), (.a 3), (.a 4), (.a 5)] [] [(.va 0), .nilS, (.va 1)]))
def demandset_Path_t0 : PT :=
 (.ite (.lt (.a 1) (.a 0))
  (.need (.and (.le (.l 0) (.a 1)) (.lt (.a 1) (.slen 2)))
  (.load false (.ea 2 (.a 1) 6 0) [(.int .i64), (.int .i64), (.int .i64), (.int .i64), (.int .i64), (.int .i64)]
  (.call 19 [(.va 0), (.agg [(.int .i64 (.a 2)), (.int .i64 (.a 3)), (.int .i64 (.a 4)), (.int .i64 (.a 5)), (.int .i64 (.a 6)), (.int .i64 (.a 7))]), (.agg [(.int .i64 (.a 8)), (.int .i64 (.a 9)), (.int .i64 (.a 10)), (.int .i64 (.a 11)), (.int .i64 (.a 12)), (.int .i64 (.a 13))])] [] [(.agg [(.int .i64), (.int .i64), (.int .i64), (.int .i64), (.int .i64), (.int .i64)]), (.one (.int .i64))]
  (.app none (.lit [[(.int .i64 (.a 8)), (.int .i64 (.a 9)), (.int .i64 (.a 10)), (.int .i64 (.a 11)), (.int .i64 (.a 12)), (.int .i64 (.a 13)), (.int .i64 (.a 14)), (.int .i64 (.a 15)), (.int .i64 (.a 16)), (.int .i64 (.a 17)), (.int .i64 (.a 18)), (.int .i64 (.a 19))]]) 12
  (.app (some 1) (.va 3) 12
  (.need (.and (.le (.l (-9223372036854775808)) (.add (.a 1) (.l 1))) (.le (.add (.a 1) (.l 1)) (.l 9223372036854775807)))
  (.jump 0 [(.a 0), (.add (.a 1) (.l 1)), (.a 2), (.a 3), (.a 4), (.a 5), (.a 6), (.a 7)] [] [(.va 0), (.va 4), (.va 2)])))))))
  (.ret false (.va 1) []))
def demandset_Path_S : Sx.Sys := ⟨[(.sh (.one .val)), (.sh (.agg [(.int .i64), (.int .i64), (.int .i64), (.int .i64), (.int .i64), (.int .i64)])), (.sh (.one .val))], demandset_Path_s, [demandset_Path_t0]⟩
def demandset_Path_pats : List Cfg := [{ todo := [(.code [false, false, true, false, true, true]), (.inLoop [false, false, true, false, true, true]), (.inBlock 0), (.code [true, true, true])], sl := [(.va 0), (.junk 0), (.junk 1), .undef, (.ptr 0 0), .undef, (.junk 2), (.va 1), .undef, (.junk 3), (.junk 4), (.junk 5), (.va 2), (.int .i64 (.a 0)), (.int .i64 (.a 1)), (.junk 6), (.junk 7), (.junk 8), (.junk 9), (.junk 10), (.junk 11), (.junk 12), (.junk 13), (.junk 14), (.junk 15), (.junk 16), (.junk 17), (.junk 18), (.junk 19), (.junk 20), (.junk 21), (.junk 22), .undef], H := [(.cells [(.int .i64 (.a 2)), (.int .i64 (.a 3)), (.int .i64 (.a 4)), (.int .i64 (.a 5)), (.int .i64 (.a 6)), (.int .i64 (.a 7))] 26 false), (.row 1 45 12)], ni := 8, nb := 0, nv := 3, nj := 23 }]
theorem demandset_Path_ok : SysOk Try.prog 26 demandset_Path_S := sys_ok (c := (cg [[false, false, true, false, true, true]] [] [] false false false)) (progOkG _ _ _ _ _ _) Try.func26 Try.call26 (by kernel_rfl) demandset_Path_pats demandset_Path_S 5000 rfl (by kernel_rfl) (by kernel_rfl)
def expr_Depth_s : PT :=
 (.need (.is 0 0)
 (.jump 0 [(.l 0), (.slen 0), (.l 0)] [] [(.va 0)]))
def expr_Depth_t0 : PT :=
 (.ite (.lt (.a 2) (.a 1))
  (.need (.and (.le (.l 0) (.a 2)) (.lt (.a 2) (.slen 0)))
  (.load false (.ea 0 (.a 2) 9 0) [(.int .i64), (.int .i64), (.int .i64), (.int .i64), (.int .i64), (.int .i64), (.int .i64), (.int .i64), .val]
  (.call 34 [(.agg [(.int .i64 (.a 3)), (.int .i64 (.a 4)), (.int .i64 (.a 5)), (.int .i64 (.a 6)), (.int .i64 (.a 7)), (.int .i64 (.a 8)), (.int .i64 (.a 9)), (.int .i64 (.a 10)), (.va 1)])] [] [(.one (.int .i64))]
  (.need (.and (.le (.l (-9223372036854775808)) (.add (.a 2) (.l 1))) (.le (.add (.a 2) (.l 1)) (.l 9223372036854775807)))
  (.jump 0 [(.mx (.a 0) (.a 11)), (.a 1), (.add (.a 2) (.l 1))] [] [(.va 0)])))))
  (.need (.and (.le (.l (-9223372036854775808)) (.add (.a 0) (.l 1))) (.le (.add (.a 0) (.l 1)) (.l 9223372036854775807)))
  (.ret false (.int .i64 (.add (.a 0) (.l 1))) [])))
def expr_Depth_S : Sx.Sys := ⟨[(.sh (.agg [(.int .i64), (.int .i64), (.int .i64), (.int .i64), (.int .i64), (.int .i64), (.int .i64), (.int .i64), .val]))], expr_Depth_s, [expr_Depth_t0]⟩
def expr_Depth_pats : List Cfg := [{ todo := [(.code [false, false, true, false, true, true]), (.inLoop [false, false, true, false, true, true]), (.inBlock 0), (.code [true, true, true])], sl := [(.junk 0), (.junk 1), (.junk 2), (.int .i64 (.a 0)), .undef, (.junk 3), (.junk 4), (.va 0), (.int .i64 (.a 1)), (.int .i64 (.a 2)), (.junk 5), (.junk 6), (.junk 7), (.junk 8), (.junk 9), (.junk 10), (.junk 11), (.junk 12), .undef, .undef], H := [], ni := 3, nb := 0, nv := 1, nj := 13 }]
theorem expr_Depth_ok : SysOk Try.prog 34 expr_Depth_S := sys_ok (c := (cg [[false, false, true, false, true, true]] [] [] false false false)) (progOkG _ _ _ _ _ _) Try.func34 Try.call34 (by kernel_rfl) expr_Depth_pats expr_Depth_S 5000 rfl (by kernel_rfl) (by kernel_rfl)
def saleroomref11_Atoms_s : PT :=
 (.call 64 [(.agg [(.int .i64 (.a 0)), (.int .i64 (.a 1)), (.int .i64 (.a 2)), (.int .i64 (.a 3)), (.int .i64 (.a 4)), (.int .i64 (.a 5)), (.int .i64 (.a 6)), (.int .i64 (.a 7)), (.va 0)])] [] [(.one .val)]
 (.jump 0 [(.l 0)] [] [.nilS, (.va 1)]))
def saleroomref11_Atoms_t0 : PT :=
 (.need (.is 0 1)
 (.ite (.lt (.a 0) (.slen 1))
  (.need (.and (.le (.l 0) (.a 0)) (.lt (.a 0) (.slen 1)))
  (.load false (.ea 1 (.a 0) 9 0) [(.int .i64)]
  (.ite (.eq (.a 1) (.l 1))
   (.need (.and (.le (.l 0) (.a 0)) (.lt (.a 0) (.slen 1)))
   (.load false (.ea 1 (.a 0) 9 0) [(.int .i64), (.int .i64), (.int .i64), (.int .i64), (.int .i64), (.int .i64), (.int .i64), (.int .i64), .val]
   (.app none (.lit [[(.int .i64 (.a 2)), (.int .i64 (.a 3)), (.int .i64 (.a 4)), (.int .i64 (.a 5)), (.int .i64 (.a 6)), (.int .i64 (.a 7)), (.int .i64 (.a 8)), (.int .i64 (.a 9)), (.va 2)]]) 9
   (.app (some 0) (.va 3) 9
   (.need (.and (.le (.l (-9223372036854775808)) (.add (.a 0) (.l 1))) (.le (.add (.a 0) (.l 1)) (.l 9223372036854775807)))
   (.jump 0 [(.add (.a 0) (.l 1))] [] [(.va 4), (.va 1)]))))))
   (.need (.and (.le (.l (-9223372036854775808)) (.add (.a 0) (.l 1))) (.le (.add (.a 0) (.l 1)) (.l 9223372036854775807)))
   (.jump 0 [(.add (.a 0) (.l 1))] [] [(.va 0), (.va 1)])))))
  (.ret false (.va 0) [])))
def saleroomref11_Atoms_S : Sx.Sys := ⟨[(.sh (.agg [(.int .i64), (.int .i64), (.int .i64), (.int .i64), (.int .i64), (.int .i64), (.int .i64), (.int .i64), .val]))], saleroomref11_Atoms_s, [saleroomref11_Atoms_t0]⟩
def saleroomref11_Atoms_pats : List Cfg := [{ todo := [(.code [false, false, true, false, true, true, true]), (.inLoop [false, false, true, false, true, true, true]), (.inBlock 0), (.code [true, true, true, true])], sl := [(.junk 0), (.junk 1), (.junk 2), (.va 0), (.va 1), (.int .i64 (.a 0)), (.junk 3), (.junk 4), (.junk 5), (.junk 6), (.junk 7), (.junk 8), (.junk 9), (.junk 10), (.junk 11), (.junk 12), (.junk 13), (.junk 14), (.junk 15), (.junk 16), (.junk 17), (.junk 18), (.junk 19), (.junk 20), (.junk 21), (.junk 22), (.junk 23), .undef], H := [(.row 0 49 9)], ni := 1, nb := 0, nv := 2, nj := 24 }]
theorem saleroomref11_Atoms_ok : SysOk Try.prog 42 saleroomref11_Atoms_S := sys_ok (c := (cg [[false, false, true, false, true, true, true]] [] [] false false false)) (progOkG _ _ _ _ _ _) Try.func42 Try.call42 (by kernel_rfl) saleroomref11_Atoms_pats saleroomref11_Atoms_S 5000 rfl (by kernel_rfl) (by kernel_rfl)
def demandset_valid_s : PT :=
 (.ite (.lt (.a 0) (.l 0))
  (.ret false (.bool (.t false)) [])
  (.ite (.lt (.l 1000000) (.a 0))
   (.ret false (.bool (.t false)) [])
   (.ite (.lt (.a 1) (.l 0))
    (.ret false (.bool (.t false)) [])
    (.ite (.lt (.l 1000000) (.a 1))
     (.ret false (.bool (.t false)) [])
     (.ite (.lt (.a 2) (.l 0))
      (.ret false (.bool (.t false)) [])
      (.ite (.lt (.l 1000000) (.a 2))
       (.ret false (.bool (.t false)) [])
       (.ite (.lt (.a 3) (.l 0))
        (.ret false (.bool (.t false)) [])
        (.ite (.lt (.l 1000000) (.a 3))
         (.ret false (.bool (.t false)) [])
         (.ite (.lt (.a 4) (.l 0))
          (.ret false (.bool (.t false)) [])
          (.ite (.lt (.l 1000000) (.a 4))
           (.ret false (.bool (.t false)) [])
           (.ite (.lt (.a 5) (.l 0))
            (.ret false (.bool (.t false)) [])
            (.ite (.lt (.l 1000000) (.a 5))
             (.ret false (.bool (.t false)) [])
             (.ret false (.bool (.t true)) [])))))))))))))
def demandset_valid_S : Sx.Sys := ⟨[(.sh (.agg [(.int .i64), (.int .i64), (.int .i64), (.int .i64), (.int .i64), (.int .i64)]))], demandset_valid_s, []⟩
def demandset_valid_pats : List Cfg := []
theorem demandset_valid_ok : SysOk Try.prog 50 demandset_valid_S := sys_ok (c := (cg [] [] [] false false false)) (progOkG _ _ _ _ _ _) Try.func50 Try.call50 (by kernel_rfl) demandset_valid_pats demandset_valid_S 5000 rfl (by kernel_rfl) (by kernel_rfl)
def bundle_Meet_s : PT :=
 (.ret false (.agg [(.int .i64 (.mn (.a 0) (.a 6))), (.int .i64 (.mn (.a 1) (.a 7))), (.int .i64 (.mn (.a 2) (.a 8))), (.int .i64 (.mn (.a 3) (.a 9))), (.int .i64 (.mn (.a 4) (.a 10))), (.int .i64 (.mn (.a 5) (.a 11)))]) [])
def bundle_Meet_S : Sx.Sys := ⟨[(.sh (.agg [(.int .i64), (.int .i64), (.int .i64), (.int .i64), (.int .i64), (.int .i64)])), (.sh (.agg [(.int .i64), (.int .i64), (.int .i64), (.int .i64), (.int .i64), (.int .i64)]))], bundle_Meet_s, []⟩
def bundle_Meet_pats : List Cfg := []
theorem bundle_Meet_ok : SysOk Try.prog 58 bundle_Meet_S := sys_ok (c := (cg [] [] [] false false false)) (progOkG _ _ _ _ _ _) Try.func58 Try.call58 (by kernel_rfl) bundle_Meet_pats bundle_Meet_S 5000 rfl (by kernel_rfl) (by kernel_rfl)
def saleroomref11_ranged_s : PT :=
 (.ite (.eq (.a 0) (.l 2))
  (.ret false (.bool (.t true)) [])
  (.ite (.eq (.a 0) (.l 3))
   (.ret false (.bool (.t true)) [])
   (.ite (.lt (.a 7) (.l 1))
    (.ret false (.bool (.t false)) [])
    (.ite (.lt (.l 1000000) (.a 7))
     (.ret false (.bool (.t false)) [])
     (.ite (.eq (.a 0) (.l 5))
      (.ret false (.bool (.t true)) [])
      (.call 54 [(.agg [(.int .i64 (.a 1)), (.int .i64 (.a 2)), (.int .i64 (.a 3)), (.int .i64 (.a 4)), (.int .i64 (.a 5)), (.int .i64 (.a 6))])] [] [(.one (.int .i64))]
      (.ite (.eq (.a 8) (.l 0))
       (.call 80 [(.agg [(.int .i64 (.a 1)), (.int .i64 (.a 2)), (.int .i64 (.a 3)), (.int .i64 (.a 4)), (.int .i64 (.a 5)), (.int .i64 (.a 6))])] [] [(.one (.int .i64))]
       (.ret false (.bool (.le (.l 1) (.a 9))) []))
       (.ret false (.bool (.t false)) []))))))))
def saleroomref11_ranged_S : Sx.Sys := ⟨[(.sh (.agg [(.int .i64), (.int .i64), (.int .i64), (.int .i64), (.int .i64), (.int .i64), (.int .i64), (.int .i64), .val]))], saleroomref11_ranged_s, []⟩
def saleroomref11_ranged_pats : List Cfg := []
theorem saleroomref11_ranged_ok : SysOk Try.prog 66 saleroomref11_ranged_S := sys_ok (c := (cg [] [] [] false false false)) (progOkG _ _ _ _ _ _) Try.func66 Try.call66 (by kernel_rfl) saleroomref11_ranged_pats saleroomref11_ranged_S 5000 rfl (by kernel_rfl) (by kernel_rfl)
def bundle_Cost_s : PT :=
 (.need (.and (.le (.l (-9223372036854775808)) (.mul (.a 0) (.a 6))) (.le (.mul (.a 0) (.a 6)) (.l 9223372036854775807)))
 (.need (.and (.le (.l (-9223372036854775808)) (.mul (.a 0) (.a 6))) (.le (.mul (.a 0) (.a 6)) (.l 9223372036854775807)))
 (.need (.and (.le (.l (-9223372036854775808)) (.mul (.a 1) (.a 7))) (.le (.mul (.a 1) (.a 7)) (.l 9223372036854775807)))
 (.need (.and (.le (.l (-9223372036854775808)) (.add (.mul (.a 0) (.a 6)) (.mul (.a 1) (.a 7)))) (.le (.add (.mul (.a 0) (.a 6)) (.mul (.a 1) (.a 7))) (.l 9223372036854775807)))
 (.need (.and (.le (.l (-9223372036854775808)) (.mul (.a 2) (.a 8))) (.le (.mul (.a 2) (.a 8)) (.l 9223372036854775807)))
 (.need (.and (.le (.l (-9223372036854775808)) (.add (.add (.mul (.a 0) (.a 6)) (.mul (.a 1) (.a 7))) (.mul (.a 2) (.a 8)))) (.le (.add (.add (.mul (.a 0) (.a 6)) (.mul (.a 1) (.a 7))) (.mul (.a 2) (.a 8))) (.l 9223372036854775807)))
 (.need (.and (.le (.l (-9223372036854775808)) (.mul (.a 3) (.a 9))) (.le (.mul (.a 3) (.a 9)) (.l 9223372036854775807)))
 (.need (.and (.le (.l (-9223372036854775808)) (.add (.add (.add (.mul (.a 0) (.a 6)) (.mul (.a 1) (.a 7))) (.mul (.a 2) (.a 8))) (.mul (.a 3) (.a 9)))) (.le (.add (.add (.add (.mul (.a 0) (.a 6)) (.mul (.a 1) (.a 7))) (.mul (.a 2) (.a 8))) (.mul (.a 3) (.a 9))) (.l 9223372036854775807)))
 (.need (.and (.le (.l (-9223372036854775808)) (.mul (.a 4) (.a 10))) (.le (.mul (.a 4) (.a 10)) (.l 9223372036854775807)))
 (.need (.and (.le (.l (-9223372036854775808)) (.add (.add (.add (.add (.mul (.a 0) (.a 6)) (.mul (.a 1) (.a 7))) (.mul (.a 2) (.a 8))) (.mul (.a 3) (.a 9))) (.mul (.a 4) (.a 10)))) (.le (.add (.add (.add (.add (.mul (.a 0) (.a 6)) (.mul (.a 1) (.a 7))) (.mul (.a 2) (.a 8))) (.mul (.a 3) (.a 9))) (.mul (.a 4) (.a 10))) (.l 9223372036854775807)))
 (.need (.and (.le (.l (-9223372036854775808)) (.mul (.a 5) (.a 11))) (.le (.mul (.a 5) (.a 11)) (.l 9223372036854775807)))
 (.need (.and (.le (.l (-9223372036854775808)) (.add (.add (.add (.add (.add (.mul (.a 0) (.a 6)) (.mul (.a 1) (.a 7))) (.mul (.a 2) (.a 8))) (.mul (.a 3) (.a 9))) (.mul (.a 4) (.a 10))) (.mul (.a 5) (.a 11)))) (.le (.add (.add (.add (.add (.add (.mul (.a 0) (.a 6)) (.mul (.a 1) (.a 7))) (.mul (.a 2) (.a 8))) (.mul (.a 3) (.a 9))) (.mul (.a 4) (.a 10))) (.mul (.a 5) (.a 11))) (.l 9223372036854775807)))
 (.ret false (.int .i64 (.add (.add (.add (.add (.add (.mul (.a 0) (.a 6)) (.mul (.a 1) (.a 7))) (.mul (.a 2) (.a 8))) (.mul (.a 3) (.a 9))) (.mul (.a 4) (.a 10))) (.mul (.a 5) (.a 11)))) [])))))))))))))
def bundle_Cost_S : Sx.Sys := ⟨[(.sh (.agg [(.int .i64), (.int .i64), (.int .i64), (.int .i64), (.int .i64), (.int .i64)])), (.sh (.agg [(.int .i64), (.int .i64), (.int .i64), (.int .i64), (.int .i64), (.int .i64)]))], bundle_Cost_s, []⟩
def bundle_Cost_pats : List Cfg := []
theorem bundle_Cost_ok : SysOk Try.prog 74 bundle_Cost_S := sys_ok (c := (cg [] [] [] false false false)) (progOkG _ _ _ _ _ _) Try.func74 Try.call74 (by kernel_rfl) bundle_Cost_pats bundle_Cost_S 5000 rfl (by kernel_rfl) (by kernel_rfl)
def bundle_following_s : PT :=
 (.ite (.lt (.a 5) (.a 11))
  (.need (.and (.le (.l (-9223372036854775808)) (.add (.a 5) (.l 1))) (.le (.add (.a 5) (.l 1)) (.l 9223372036854775807)))
  (.ret false (.agg [(.int .i64 (.a 0)), (.int .i64 (.a 1)), (.int .i64 (.a 2)), (.int .i64 (.a 3)), (.int .i64 (.a 4)), (.int .i64 (.add (.a 5) (.l 1)))]) []))
  (.ite (.lt (.a 4) (.a 10))
   (.need (.and (.le (.l (-9223372036854775808)) (.add (.a 4) (.l 1))) (.le (.add (.a 4) (.l 1)) (.l 9223372036854775807)))
   (.ret false (.agg [(.int .i64 (.a 0)), (.int .i64 (.a 1)), (.int .i64 (.a 2)), (.int .i64 (.a 3)), (.int .i64 (.add (.a 4) (.l 1))), (.int .i64 (.l 0))]) []))
   (.ite (.lt (.a 3) (.a 9))
    (.need (.and (.le (.l (-9223372036854775808)) (.add (.a 3) (.l 1))) (.le (.add (.a 3) (.l 1)) (.l 9223372036854775807)))
    (.ret false (.agg [(.int .i64 (.a 0)), (.int .i64 (.a 1)), (.int .i64 (.a 2)), (.int .i64 (.add (.a 3) (.l 1))), (.int .i64 (.l 0)), (.int .i64 (.l 0))]) []))
    (.ite (.lt (.a 2) (.a 8))
     (.need (.and (.le (.l (-9223372036854775808)) (.add (.a 2) (.l 1))) (.le (.add (.a 2) (.l 1)) (.l 9223372036854775807)))
     (.ret false (.agg [(.int .i64 (.a 0)), (.int .i64 (.a 1)), (.int .i64 (.add (.a 2) (.l 1))), (.int .i64 (.l 0)), (.int .i64 (.l 0)), (.int .i64 (.l 0))]) []))
     (.ite (.lt (.a 1) (.a 7))
      (.need (.and (.le (.l (-9223372036854775808)) (.add (.a 1) (.l 1))) (.le (.add (.a 1) (.l 1)) (.l 9223372036854775807)))
      (.ret false (.agg [(.int .i64 (.a 0)), (.int .i64 (.add (.a 1) (.l 1))), (.int .i64 (.l 0)), (.int .i64 (.l 0)), (.int .i64 (.l 0)), (.int .i64 (.l 0))]) []))
      (.ite (.lt (.a 0) (.a 6))
       (.need (.and (.le (.l (-9223372036854775808)) (.add (.a 0) (.l 1))) (.le (.add (.a 0) (.l 1)) (.l 9223372036854775807)))
       (.ret false (.agg [(.int .i64 (.add (.a 0) (.l 1))), (.int .i64 (.l 0)), (.int .i64 (.l 0)), (.int .i64 (.l 0)), (.int .i64 (.l 0)), (.int .i64 (.l 0))]) []))
       (.ret false (.agg [(.int .i64 (.l 0)), (.int .i64 (.l 0)), (.int .i64 (.l 0)), (.int .i64 (.l 0)), (.int .i64 (.l 0)), (.int .i64 (.l 0))]) [])))))))
def bundle_following_S : Sx.Sys := ⟨[(.sh (.agg [(.int .i64), (.int .i64), (.int .i64), (.int .i64), (.int .i64), (.int .i64)])), (.sh (.agg [(.int .i64), (.int .i64), (.int .i64), (.int .i64), (.int .i64), (.int .i64)]))], bundle_following_s, []⟩
def bundle_following_pats : List Cfg := []
theorem bundle_following_ok : SysOk Try.prog 82 bundle_following_S := sys_ok (c := (cg [] [] [] false false false)) (progOkG _ _ _ _ _ _) Try.func82 Try.call82 (by kernel_rfl) bundle_following_pats bundle_following_S 5000 rfl (by kernel_rfl) (by kernel_rfl)
end Go.Proofs.Ytbmfegliomkkfaa
