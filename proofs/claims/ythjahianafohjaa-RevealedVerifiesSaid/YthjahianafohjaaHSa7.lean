/- The trees of this seat's functions, part 7. Written by txgen.py. -/
import Derived.Test.YthjahianafohjaaHTab
set_option linter.unusedSimpArgs false
set_option linter.unusedVariables false
set_option maxRecDepth 100000
namespace Go.Proofs.Ythjahianafohjaa
open Go.Sx
def saleroomlaw36_RevealedTruthful_s : PT :=
 (.need (.is 0 0)
 (.ite (.lt (.l 20) (.slen 0))
  (.call 14 [] [] [(.one .bool)]
  (.ret false (.bool (.a 0)) []))
  (.need (.is 0 1)
  (.ite (.lt (.l 8) (.slen 1))
   (.call 14 [] [] [(.one .bool)]
   (.ret false (.bool (.a 0)) []))
   (.call 37 [(.va 0), (.agg [(.int .i64 (.a 0)), (.int .i64 (.a 1)), (.int .i64 (.a 2)), (.int .i64 (.a 3)), (.int .i64 (.a 4)), (.int .i64 (.a 5))]), (.va 1)] [] [(.one .val)]
   (.need (.is 0 2)
   (.need (.is 0 1)
   (.ite (.not (.eq (.slen 2) (.slen 1)))
    (.ret false (.bool (.t false)) [])
    (.call 17 [(.va 2)] [] [(.one .bool)]
    (.ite (.not (.a 0))
     (.call 14 [] [] [(.one .bool)]
     (.ret false (.bool (.a 1)) []))
     (.call 15 [(.va 2)] [] [(.agg [.val, .val]), (.one .bool)]
     (.ite (.a 1)
      (.call 14 [] [] [(.one .bool)]
      (.ret false (.bool (.a 2)) []))
      (.ret false (.bool (.t false)) [])))))))))))))
def saleroomlaw36_RevealedTruthful_S : Sx.Sys := ⟨[(.sh (.one .val)), (.sh (.agg [(.int .i64), (.int .i64), (.int .i64), (.int .i64), (.int .i64), (.int .i64)])), (.sh (.one .val))], saleroomlaw36_RevealedTruthful_s, []⟩
def saleroomlaw36_RevealedTruthful_pats : List Cfg := []
theorem saleroomlaw36_RevealedTruthful_ok : SysOk Try.prog 13 saleroomlaw36_RevealedTruthful_S := sys_ok (c := (cg [] [] [] false false false true)) (progOkG _ _ _ _ _ _ _) Try.func13 Try.call13 (by kernel_rfl) saleroomlaw36_RevealedTruthful_pats saleroomlaw36_RevealedTruthful_S 5000 rfl (by kernel_rfl) (by kernel_rfl)
def saleroomref36_Gain_s : PT :=
 (.call 44 [(.agg [(.int .i64 (.a 0)), (.int .i64 (.a 1)), (.int .i64 (.a 2)), (.int .i64 (.a 3)), (.int .i64 (.a 4)), (.int .i64 (.a 5)), (.int .i64 (.a 6)), (.int .i64 (.a 7)), (.int .i64 (.a 8)), (.int .i64 (.a 9)), (.int .i64 (.a 10)), (.int .i64 (.a 11))])] [] [(.one .bool)]
 (.ite (.not (.a 0))
  (.ret false (.int .i64 (.l 0)) [])
  (.call 44 [(.agg [(.int .i64 (.a 12)), (.int .i64 (.a 13)), (.int .i64 (.a 14)), (.int .i64 (.a 15)), (.int .i64 (.a 16)), (.int .i64 (.a 17)), (.int .i64 (.a 18)), (.int .i64 (.a 19)), (.int .i64 (.a 20)), (.int .i64 (.a 21)), (.int .i64 (.a 22)), (.int .i64 (.a 23))])] [] [(.one .bool)]
  (.ite (.not (.a 1))
   (.ret false (.int .i64 (.l 0)) [])
   (.call 43 [(.agg [(.int .i64 (.a 0)), (.int .i64 (.a 1)), (.int .i64 (.a 2)), (.int .i64 (.a 3)), (.int .i64 (.a 4)), (.int .i64 (.a 5)), (.int .i64 (.a 6)), (.int .i64 (.a 7)), (.int .i64 (.a 8)), (.int .i64 (.a 9)), (.int .i64 (.a 10)), (.int .i64 (.a 11))]), (.agg [(.int .i64 (.a 18)), (.int .i64 (.a 19)), (.int .i64 (.a 20)), (.int .i64 (.a 21)), (.int .i64 (.a 22)), (.int .i64 (.a 23))])] [] [(.one (.int .i64))]
   (.call 43 [(.agg [(.int .i64 (.a 0)), (.int .i64 (.a 1)), (.int .i64 (.a 2)), (.int .i64 (.a 3)), (.int .i64 (.a 4)), (.int .i64 (.a 5)), (.int .i64 (.a 6)), (.int .i64 (.a 7)), (.int .i64 (.a 8)), (.int .i64 (.a 9)), (.int .i64 (.a 10)), (.int .i64 (.a 11))]), (.agg [(.int .i64 (.a 6)), (.int .i64 (.a 7)), (.int .i64 (.a 8)), (.int .i64 (.a 9)), (.int .i64 (.a 10)), (.int .i64 (.a 11))])] [] [(.one (.int .i64))]
   (.need (.and (.le (.l (-9223372036854775808)) (.sub (.a 24) (.a 25))) (.le (.sub (.a 24) (.a 25)) (.l 9223372036854775807)))
   (.ret false (.int .i64 (.sub (.a 24) (.a 25))) []))))))))
def saleroomref36_Gain_S : Sx.Sys := ⟨[(.sh (.agg [(.int .i64), (.int .i64), (.int .i64), (.int .i64), (.int .i64), (.int .i64), (.int .i64), (.int .i64), (.int .i64), (.int .i64), (.int .i64), (.int .i64)])), (.sh (.agg [(.int .i64), (.int .i64), (.int .i64), (.int .i64), (.int .i64), (.int .i64), (.int .i64), (.int .i64), (.int .i64), (.int .i64), (.int .i64), (.int .i64)]))], saleroomref36_Gain_s, []⟩
def saleroomref36_Gain_pats : List Cfg := []
theorem saleroomref36_Gain_ok : SysOk Try.prog 21 saleroomref36_Gain_S := sys_ok (c := (cg [] [] [] false false false true)) (progOkG _ _ _ _ _ _ _) Try.func21 Try.call21 (by kernel_rfl) saleroomref36_Gain_pats saleroomref36_Gain_S 5000 rfl (by kernel_rfl) (by kernel_rfl)
def saleroomref37_Affordable_s : PT :=
 (.call 57 [(.agg [(.va 0), (.va 1), (.va 2), (.va 3)]), (.int .i64 (.a 0))] [] [(.one .bool)]
 (.ite (.not (.a 0))
  (.ret false (.int .i64 (.l 6)) [])
  (.need (.and (.le (.l 0) (.a 0)) (.lt (.a 0) (.slen 1)))
  (.load true (.ea 1 (.a 0) 4 2) [(.int .i64)]
  (.ite (.not (.eq (.a 13) (.l 0)))
   (.need (.and (.le (.l 0) (.a 0)) (.lt (.a 0) (.slen 1)))
   (.load true (.ea 1 (.a 0) 4 2) [(.int .i64)]
   (.call 60 [(.agg [(.int .i64 (.a 1)), (.int .i64 (.a 2)), (.int .i64 (.a 3)), (.int .i64 (.a 4)), (.int .i64 (.a 5)), (.int .i64 (.a 6))]), (.agg [(.int .i64 (.a 7)), (.int .i64 (.a 8)), (.int .i64 (.a 9)), (.int .i64 (.a 10)), (.int .i64 (.a 11)), (.int .i64 (.a 12))])] [] [(.one (.int .i64))]
   (.ite (.lt (.a 14) (.a 15))
    (.ret false (.int .i64 (.l 17)) [])
    (.ret false (.int .i64 (.l 0)) [])))))
   (.ret false (.int .i64 (.l 0)) []))))))
def saleroomref37_Affordable_S : Sx.Sys := ⟨[(.sh (.agg [.val, .val, .val, .val])), (.sh (.one (.int .i64))), (.sh (.agg [(.int .i64), (.int .i64), (.int .i64), (.int .i64), (.int .i64), (.int .i64), (.int .i64), (.int .i64), (.int .i64), (.int .i64), (.int .i64), (.int .i64)]))], saleroomref37_Affordable_s, []⟩
def saleroomref37_Affordable_pats : List Cfg := []
theorem saleroomref37_Affordable_ok : SysOk Try.prog 32 saleroomref37_Affordable_S := sys_ok (c := (cg [] [] [] false false false true)) (progOkG _ _ _ _ _ _ _) Try.func32 Try.call32 (by kernel_rfl) saleroomref37_Affordable_pats saleroomref37_Affordable_S 5000 rfl (by kernel_rfl) (by kernel_rfl)
def saleroomref36_Valid_s : PT :=
 (.call 35 [(.agg [(.int .i64 (.a 6)), (.int .i64 (.a 7)), (.int .i64 (.a 8)), (.int .i64 (.a 9)), (.int .i64 (.a 10)), (.int .i64 (.a 11))])] [] [(.one (.int .i64))]
 (.ite (.eq (.a 12) (.l 0))
  (.call 65 [(.agg [(.int .i64 (.a 0)), (.int .i64 (.a 1)), (.int .i64 (.a 2)), (.int .i64 (.a 3)), (.int .i64 (.a 4)), (.int .i64 (.a 5))])] [] [(.one .bool)]
  (.ret false (.bool (.a 0)) []))
  (.ret false (.bool (.t false)) [])))
def saleroomref36_Valid_S : Sx.Sys := ⟨[(.sh (.agg [(.int .i64), (.int .i64), (.int .i64), (.int .i64), (.int .i64), (.int .i64), (.int .i64), (.int .i64), (.int .i64), (.int .i64), (.int .i64), (.int .i64)]))], saleroomref36_Valid_s, []⟩
def saleroomref36_Valid_pats : List Cfg := []
theorem saleroomref36_Valid_ok : SysOk Try.prog 44 saleroomref36_Valid_S := sys_ok (c := (cg [] [] [] false false false true)) (progOkG _ _ _ _ _ _ _) Try.func44 Try.call44 (by kernel_rfl) saleroomref36_Valid_pats saleroomref36_Valid_S 5000 rfl (by kernel_rfl) (by kernel_rfl)
def activity_history_either_s : PT :=
 (.call 51 [(.agg [(.va 0), (.va 1), (.va 2), (.va 3), (.int .i64 (.a 0)), (.va 4)]), (.agg [(.int .i64 (.a 1)), (.int .i64 (.a 2)), (.int .i64 (.a 3)), (.int .i64 (.a 4)), (.int .i64 (.a 5)), (.int .i64 (.a 6)), (.int .i64 (.a 7)), (.int .i64 (.a 8)), (.int .i64 (.a 9)), (.int .i64 (.a 10)), (.int .i64 (.a 11)), (.int .i64 (.a 12))])] [] [(.one .bool)]
 (.ite (.a 0)
  (.ret false (.bool (.t true)) [])
  (.call 52 [(.agg [(.va 0), (.va 1), (.va 2), (.va 3), (.int .i64 (.a 0)), (.va 4)]), (.agg [(.int .i64 (.a 1)), (.int .i64 (.a 2)), (.int .i64 (.a 3)), (.int .i64 (.a 4)), (.int .i64 (.a 5)), (.int .i64 (.a 6)), (.int .i64 (.a 7)), (.int .i64 (.a 8)), (.int .i64 (.a 9)), (.int .i64 (.a 10)), (.int .i64 (.a 11)), (.int .i64 (.a 12))])] [] [(.one .bool)]
  (.ret false (.bool (.a 1)) []))))
def activity_history_either_S : Sx.Sys := ⟨[(.sh (.agg [.val, .val, .val, .val, (.int .i64), .val])), (.sh (.agg [(.int .i64), (.int .i64), (.int .i64), (.int .i64), (.int .i64), (.int .i64), (.int .i64), (.int .i64), (.int .i64), (.int .i64), (.int .i64), (.int .i64)]))], activity_history_either_s, []⟩
def activity_history_either_pats : List Cfg := []
theorem activity_history_either_ok : SysOk Try.prog 53 activity_history_either_S := sys_ok (c := (cg [] [] [] false false false true)) (progOkG _ _ _ _ _ _ _) Try.func53 Try.call53 (by kernel_rfl) activity_history_either_pats activity_history_either_S 5000 rfl (by kernel_rfl) (by kernel_rfl)
def revealed_cycle_s : PT :=
 (.mkMap .i64
 (.jump 0 [(.a 0)] [] [(.va 0), (.va 1)]))
def revealed_cycle_t0 : PT :=
 (.mapGet 1 .i64 (.a 0) (.bool (.t false)) false [(.one .bool)]
 (.ite (.not (.a 0))
  (.mapSet 1 .i64 (.a 0) (.bool (.t true))
  (.need (.and (.le (.l 0) (.a 0)) (.lt (.a 0) (.slen 0)))
  (.load false (.ea 0 (.a 0) 1 0) [(.int .i64)]
  (.jump 0 [(.a 1)] [] [(.va 0), (.va 1)]))))
  (.mapClr 1
  (.jump 1 [(.a 0)] [] [(.va 0), (.va 1), .nilS]))))
def revealed_cycle_t1 : PT :=
 (.mapGet 1 .i64 (.a 0) (.bool (.t false)) false [(.one .bool)]
 (.ite (.not (.a 0))
  (.mapSet 1 .i64 (.a 0) (.bool (.t true))
  (.app none (.lit [[(.int .i64 (.a 0))]]) 1
  (.appM (.va 2) (.va 3) 1 3
  (.need (.and (.le (.l 0) (.a 0)) (.lt (.a 0) (.slen 0)))
  (.load false (.ea 0 (.a 0) 1 0) [(.int .i64)]
  (.jump 1 [(.a 1)] [] [(.va 0), (.va 1), (.va 4)]))))))
  (.need (.is 0 2)
  (.mkM (.slen 2) [(.int .i64 (.l 0))] 3 1 8
  (.need (.is 0 2)
  (.jump 2 [(.slen 2), (.l 0)] [] [(.va 2), (.va 3)]))))))
def revealed_cycle_t2 : PT :=
 (.ite (.lt (.a 1) (.a 0))
  (.need (.and (.le (.l 0) (.a 1)) (.lt (.a 1) (.slen 0)))
  (.load false (.ea 0 (.a 1) 1 0) [(.int .i64)]
  (.need (.is 0 0)
  (.need (.and (.le (.l (-9223372036854775808)) (.sub (.slen 0) (.l 1))) (.le (.sub (.slen 0) (.l 1)) (.l 9223372036854775807)))
  (.need (.and (.le (.l (-9223372036854775808)) (.sub (.sub (.slen 0) (.l 1)) (.a 1))) (.le (.sub (.sub (.slen 0) (.l 1)) (.a 1)) (.l 9223372036854775807)))
  (.need (.and (.le (.l 0) (.sub (.sub (.slen 0) (.l 1)) (.a 1))) (.lt (.sub (.sub (.slen 0) (.l 1)) (.a 1)) (.slen 1)))
  (.storeM (.ea 1 (.sub (.sub (.slen 0) (.l 1)) (.a 1)) 1 0) [(.int .i64 (.a 2))]
  (.need (.and (.le (.l (-9223372036854775808)) (.add (.a 1) (.l 1))) (.le (.add (.a 1) (.l 1)) (.l 9223372036854775807)))
  (.jump 2 [(.a 0), (.add (.a 1) (.l 1))] [] [(.va 0), (.va 1)])))))))))
  (.ret false (.va 1) []))
def revealed_cycle_S : Sx.Sys := ⟨[(.sh (.one .val)), (.sh (.one (.int .i64)))], revealed_cycle_s, [revealed_cycle_t0, revealed_cycle_t1, revealed_cycle_t2]⟩
def revealed_cycle_pats : List Cfg := [{ todo := [(.code [false, false, false, true, true]), (.inLoop [false, false, false, true, true]), (.inBlock 0), (.code [true, true, true])], sl := [(.va 0), (.int .i64 (.a 0)), .undef, .undef, (.junk 0), (.va 1), .undef, .undef, .undef, .undef, (.junk 1), (.junk 2), (.junk 3), (.junk 4), (.junk 5), (.junk 6), (.junk 7), (.junk 8), (.junk 9), (.junk 10), (.junk 11), .undef, .undef, .undef, .undef, .undef, .undef, .undef, .undef, .undef, .undef, .undef, .undef, .undef, .undef, .undef, .undef, .undef, .undef, .undef, .undef, .undef, .undef, .undef, .undef, .undef, .undef, .undef, .undef, .undef, .undef, .undef, .undef, .undef, .undef, .undef], H := [], ni := 1, nb := 0, nv := 2, nj := 12 },
 { todo := [(.code [false, false, false, true, true, true, true, true]), (.inLoop [false, false, false, true, true, true, true, true]), (.inBlock 2), (.code [true, true, true, true, true, true])], sl := [(.va 0), (.int .i64 (.a 0)), .undef, .undef, (.junk 0), (.va 1), (.va 2), .undef, .undef, .undef, (.junk 1), (.junk 2), (.junk 3), (.junk 4), (.junk 5), (.junk 6), (.junk 7), (.junk 8), (.junk 9), (.junk 10), (.junk 11), (.junk 12), (.junk 13), (.junk 14), (.junk 15), (.junk 16), (.junk 17), (.junk 18), (.junk 19), (.junk 20), (.junk 21), (.junk 22), (.junk 23), (.junk 24), (.junk 25), (.junk 26), .undef, .undef, .undef, .undef, .undef, .undef, .undef, .undef, .undef, .undef, .undef, .undef, .undef, .undef, .undef, .undef, .undef, .undef, .undef, .undef], H := [], ni := 1, nb := 0, nv := 3, nj := 27 },
 { todo := [(.code [false, false, true, false, true, true, true, true, true, true, true]), (.inLoop [false, false, true, false, true, true, true, true, true, true, true]), (.inBlock 4), (.code [true, true, true, true, true, true, true, true])], sl := [(.junk 0), (.junk 1), .undef, .undef, (.junk 2), (.junk 3), (.va 0), (.va 1), (.junk 4), (.junk 5), (.junk 6), (.junk 7), (.junk 8), (.junk 9), (.junk 10), (.junk 11), (.junk 12), (.junk 13), (.junk 14), (.junk 15), (.junk 16), (.junk 17), (.junk 18), (.junk 19), (.junk 20), (.junk 21), (.junk 22), (.junk 23), (.junk 24), (.junk 25), (.junk 26), (.junk 27), (.junk 28), (.junk 29), (.junk 30), (.junk 31), (.junk 32), (.junk 33), (.junk 34), (.va 0), (.int .i64 (.a 0)), (.int .i64 (.a 1)), (.junk 35), (.junk 36), (.junk 37), (.junk 38), (.junk 39), (.junk 40), (.junk 41), (.junk 42), (.junk 43), (.junk 44), (.junk 45), (.junk 46), (.junk 47), .undef], H := [], ni := 2, nb := 0, nv := 2, nj := 48 }]
theorem revealed_cycle_ok : SysOk Try.prog 63 revealed_cycle_S := sys_ok (c := (cg [[false, false, false, true, true], [false, false, false, true, true, true, true, true], [false, false, true, false, true, true, true, true, true, true, true]] [] [] true false true true)) (progOkG _ _ _ _ _ _ _) Try.func63 Try.call63 (by kernel_rfl) revealed_cycle_pats revealed_cycle_S 5000 rfl (by kernel_rfl) (by kernel_rfl)
def catalog_Points_1_s : PT :=
 (.ret false (.int .i64 (.a 2)) [])
def catalog_Points_1_S : Sx.Sys := ⟨[(.sh (.agg [.val, (.int .i64), (.int .i64), (.int .i64), (.int .i64)]))], catalog_Points_1_s, []⟩
def catalog_Points_1_pats : List Cfg := []
theorem catalog_Points_1_ok : SysOk Try.prog 74 catalog_Points_1_S := sys_ok (c := (cg [] [] [] false false false true)) (progOkG _ _ _ _ _ _ _) Try.func74 Try.call74 (by kernel_rfl) catalog_Points_1_pats catalog_Points_1_S 5000 rfl (by kernel_rfl) (by kernel_rfl)
def bundle_following_s : PT :=
 (.ite (.lt (.a 5) (.a 11))
  (.need (.and (.le (.l (-9223372036854775808)) (.add (.a 5) (.l 1))) (.le (.add (.a 5) (.l 1)) (.l 9223372036854775807)))
  (.ret false (.agg [(.int .i64 (.a 0)), (.int .i64 (.a 1)), (.int .i64 (.a 2)), (.int .i64 (.a 3)), (.int .i64 (.a 4)), (.int .i64 (.add (.a 5) (.l 1)))]) []))
  (.ite (.lt (.a 4) (.a 10))
   (.need (.and (.le (.l (-9223372036854775808)) (.add (.a 4) (.l 1))) (.le (.add (.a 4) (.l 1)) (.l 9223372036854775807)))
   (.ret false (.agg [(.int .i64 (.a 0)), (.int .i64 (.a 1)), (.int .i64 (.a 2)), (.int .i64 (.a 3)), (.int .i64 (.add (.a 4) (.l 1))), (.int .i64 (.l 0))]) []))
   (.ite (.lt (.a 3) (.a 9))
    (.need (.and (.le (.l (-9223372036854775808)) (.add (.a 3) (.l 1))) (.le (.add (.a 3) (.l 1)) (.l 9223372036854775807)))
    (.ret false (.agg [(.int .i64 (.a 0)), (.int .i64 (.a 1)), (.int .i64 (.a 2)), (.int .i64 (.add (.a 3) (.l 1))), (.int .i64 (.l 0)), (.int .i64 (.l 0))]) []))
    (.ite (.lt (.a 2) (.a 8))
     (.need (.and (.le (.l (-9223372036854775808)) (.add (.a 2) (.l 1))) (.le (.add (.a 2) (.l 1)) (.l 9223372036854775807)))
     (.ret false (.agg [(.int .i64 (.a 0)), (.int .i64 (.a 1)), (.int .i64 (.add (.a 2) (.l 1))), (.int .i64 (.l 0)), (.int .i64 (.l 0)), (.int .i64 (.l 0))]) []))
     (.ite (.lt (.a 1) (.a 7))
      (.need (.and (.le (.l (-9223372036854775808)) (.add (.a 1) (.l 1))) (.le (.add (.a 1) (.l 1)) (.l 9223372036854775807)))
      (.ret false (.agg [(.int .i64 (.a 0)), (.int .i64 (.add (.a 1) (.l 1))), (.int .i64 (.l 0)), (.int .i64 (.l 0)), (.int .i64 (.l 0)), (.int .i64 (.l 0))]) []))
      (.ite (.lt (.a 0) (.a 6))
       (.need (.and (.le (.l (-9223372036854775808)) (.add (.a 0) (.l 1))) (.le (.add (.a 0) (.l 1)) (.l 9223372036854775807)))
       (.ret false (.agg [(.int .i64 (.add (.a 0) (.l 1))), (.int .i64 (.l 0)), (.int .i64 (.l 0)), (.int .i64 (.l 0)), (.int .i64 (.l 0)), (.int .i64 (.l 0))]) []))
       (.ret false (.agg [(.int .i64 (.l 0)), (.int .i64 (.l 0)), (.int .i64 (.l 0)), (.int .i64 (.l 0)), (.int .i64 (.l 0)), (.int .i64 (.l 0))]) [])))))))
def bundle_following_S : Sx.Sys := ⟨[(.sh (.agg [(.int .i64), (.int .i64), (.int .i64), (.int .i64), (.int .i64), (.int .i64)])), (.sh (.agg [(.int .i64), (.int .i64), (.int .i64), (.int .i64), (.int .i64), (.int .i64)]))], bundle_following_s, []⟩
def bundle_following_pats : List Cfg := []
theorem bundle_following_ok : SysOk Try.prog 82 bundle_following_S := sys_ok (c := (cg [] [] [] false false false true)) (progOkG _ _ _ _ _ _ _) Try.func82 Try.call82 (by kernel_rfl) bundle_following_pats bundle_following_S 5000 rfl (by kernel_rfl) (by kernel_rfl)
end Go.Proofs.Ythjahianafohjaa
