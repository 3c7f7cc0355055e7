/- The trees of this seat's functions, part 3. Written by txgen.py. -/
import Derived.Test.YtggjcdnailppoaaHTab
set_option linter.unusedSimpArgs false
set_option linter.unusedVariables false
set_option maxRecDepth 100000
namespace Go.Proofs.Ytggjcdnailppoaa
open Go.Sx
def saleroomlaw40_RelcapChecks_s : PT :=
 (.need (.is 0 0)
 (.ite (.lt (.l 14) (.slen 0))
  (.call 9 [] [] [(.one .bool)]
  (.ret false (.bool (.a 0)) []))
  (.need (.is 0 1)
  (.ite (.lt (.l 14) (.slen 1))
   (.call 9 [] [] [(.one .bool)]
   (.ret false (.bool (.a 0)) []))
   (.call 15 [(.va 0), (.va 1)] [] [(.one (.int .i64)), (.one (.int .i64))]
   (.call 18 [(.va 0), (.va 1)] [] [(.one (.int .i64)), (.one (.int .i64))]
   (.ite (.eq (.a 0) (.a 2))
    (.ite (.eq (.a 1) (.a 3))
     (.call 19 [(.va 0), (.va 1)] [] [(.one .val)]
     (.call 20 [(.va 0), (.va 1)] [] [(.one .val)]
     (.call 10 [(.va 2), (.va 3)] [] [(.one .bool)]
     (.ite (.a 0)
      (.call 9 [] [] [(.one .bool)]
      (.ret false (.bool (.a 1)) []))
      (.ret false (.bool (.t false)) [])))))
     (.ret false (.bool (.t false)) []))
    (.ret false (.bool (.t false)) []))))))))
def saleroomlaw40_RelcapChecks_S : Sx.Sys := ⟨[(.sh (.one .val)), (.sh (.one .val))], saleroomlaw40_RelcapChecks_s, [], none⟩
def saleroomlaw40_RelcapChecks_pats : List Cfg := []
theorem saleroomlaw40_RelcapChecks_ok : SysOk Try.prog 6 saleroomlaw40_RelcapChecks_S := sys_ok (c := (cg [] [] [] false false false true)) (progOkG _ _ _ _ _ _ _) Try.func6 Try.call6 (by kernel_rfl) saleroomlaw40_RelcapChecks_pats saleroomlaw40_RelcapChecks_S 5000 rfl (by kernel_rfl) (by kernel_rfl) rfl
def saleroomref40_Most_s : PT :=
 (.call 21 [(.va 0)] [] [(.one .bool)]
 (.ite (.not (.a 0))
  (.ret false (.int .i64 (.l 0)) [])
  (.call 17 [(.agg [(.int .i64 (.a 0)), (.int .i64 (.a 1)), (.int .i64 (.a 2)), (.int .i64 (.a 3)), (.int .i64 (.a 4)), (.int .i64 (.a 5))])] [] [(.one (.int .i64))]
  (.ite (.not (.eq (.a 6) (.l 0)))
   (.ret false (.int .i64 (.l 0)) [])
   (.jump 0 [(.l 1000000), (.l 0), (.a 0), (.a 1), (.a 2), (.a 3), (.a 4), (.a 5)] [] [(.va 0), (.va 1)])))))
def saleroomref40_Most_t0 : PT :=
 (.need (.is 0 0)
 (.ite (.lt (.a 1) (.slen 0))
  (.need (.and (.le (.l 0) (.a 1)) (.lt (.a 1) (.slen 0)))
  (.load true (.ea 0 (.a 1) 12 6) [(.int .i64), (.int .i64), (.int .i64), (.int .i64), (.int .i64), (.int .i64)]
  (.ite (.not (.and (.eq (.a 8) (.a 2)) (.and (.eq (.a 9) (.a 3)) (.and (.eq (.a 10) (.a 4)) (.and (.eq (.a 11) (.a 5)) (.and (.eq (.a 12) (.a 6)) (.eq (.a 13) (.a 7))))))))
   (.need (.and (.le (.l 0) (.a 1)) (.lt (.a 1) (.slen 0)))
   (.need (.and (.le (.l 0) (.a 1)) (.lt (.a 1) (.slen 0)))
   (.need (.and (.le (.l 0) (.a 1)) (.lt (.a 1) (.slen 0)))
   (.need (.and (.le (.l 0) (.a 1)) (.lt (.a 1) (.slen 0)))
   (.load true (.ea 0 (.a 1) 12 6) [(.int .i64), (.int .i64), (.int .i64), (.int .i64), (.int .i64), (.int .i64)]
   (.load true (.ea 0 (.a 1) 12 0) [(.int .i64), (.int .i64), (.int .i64), (.int .i64), (.int .i64), (.int .i64), (.int .i64), (.int .i64), (.int .i64), (.int .i64), (.int .i64), (.int .i64)]
   (.load true (.ea 0 (.a 1) 12 0) [(.int .i64), (.int .i64), (.int .i64), (.int .i64), (.int .i64), (.int .i64), (.int .i64), (.int .i64), (.int .i64), (.int .i64), (.int .i64), (.int .i64)]
   (.load true (.ea 0 (.a 1) 12 6) [(.int .i64), (.int .i64), (.int .i64), (.int .i64), (.int .i64), (.int .i64)]
   (.call 22 [(.va 0), (.va 1), (.agg [(.int .i64 (.a 14)), (.int .i64 (.a 15)), (.int .i64 (.a 16)), (.int .i64 (.a 17)), (.int .i64 (.a 18)), (.int .i64 (.a 19))])] [] [(.one (.int .i64))]
   (.call 23 [(.agg [(.int .i64 (.a 20)), (.int .i64 (.a 21)), (.int .i64 (.a 22)), (.int .i64 (.a 23)), (.int .i64 (.a 24)), (.int .i64 (.a 25)), (.int .i64 (.a 26)), (.int .i64 (.a 27)), (.int .i64 (.a 28)), (.int .i64 (.a 29)), (.int .i64 (.a 30)), (.int .i64 (.a 31))]), (.agg [(.int .i64 (.a 2)), (.int .i64 (.a 3)), (.int .i64 (.a 4)), (.int .i64 (.a 5)), (.int .i64 (.a 6)), (.int .i64 (.a 7))])] [] [(.one (.int .i64))]
   (.need (.and (.le (.l (-9223372036854775808)) (.add (.a 50) (.a 51))) (.le (.add (.a 50) (.a 51)) (.l 9223372036854775807)))
   (.call 23 [(.agg [(.int .i64 (.a 32)), (.int .i64 (.a 33)), (.int .i64 (.a 34)), (.int .i64 (.a 35)), (.int .i64 (.a 36)), (.int .i64 (.a 37)), (.int .i64 (.a 38)), (.int .i64 (.a 39)), (.int .i64 (.a 40)), (.int .i64 (.a 41)), (.int .i64 (.a 42)), (.int .i64 (.a 43))]), (.agg [(.int .i64 (.a 44)), (.int .i64 (.a 45)), (.int .i64 (.a 46)), (.int .i64 (.a 47)), (.int .i64 (.a 48)), (.int .i64 (.a 49))])] [] [(.one (.int .i64))]
   (.need (.and (.le (.l (-9223372036854775808)) (.sub (.add (.a 50) (.a 51)) (.a 52))) (.le (.sub (.add (.a 50) (.a 51)) (.a 52)) (.l 9223372036854775807)))
   (.need (.and (.le (.l (-9223372036854775808)) (.add (.a 1) (.l 1))) (.le (.add (.a 1) (.l 1)) (.l 9223372036854775807)))
   (.jump 0 [(.mn (.a 0) (.sub (.add (.a 50) (.a 51)) (.a 52))), (.add (.a 1) (.l 1)), (.a 2), (.a 3), (.a 4), (.a 5), (.a 6), (.a 7)] [] [(.va 0), (.va 1)])))))))))))))))
   (.need (.and (.le (.l (-9223372036854775808)) (.add (.a 1) (.l 1))) (.le (.add (.a 1) (.l 1)) (.l 9223372036854775807)))
   (.jump 0 [(.a 0), (.add (.a 1) (.l 1)), (.a 2), (.a 3), (.a 4), (.a 5), (.a 6), (.a 7)] [] [(.va 0), (.va 1)])))))
  (.ret false (.int .i64 (.a 0)) [])))
def saleroomref40_Most_S : Sx.Sys := ⟨[(.sh (.one .val)), (.sh (.one .val)), (.sh (.agg [(.int .i64), (.int .i64), (.int .i64), (.int .i64), (.int .i64), (.int .i64)]))], saleroomref40_Most_s, [saleroomref40_Most_t0], none⟩
def saleroomref40_Most_pats : List Cfg := [{ todo := [(.code [false, false, true, false, true, true, true]), (.inLoop [false, false, true, false, true, true, true]), (.inBlock 0), (.code [true, true, true, true])], sl := [(.va 0), (.va 1), (.junk 0), .undef, .undef, (.ptr 0 0), (.junk 1), (.int .i64 (.a 0)), (.int .i64 (.a 1)), (.junk 2), (.junk 3), (.junk 4), (.junk 5), (.junk 6), (.junk 7), (.junk 8), (.junk 9), (.junk 10), (.junk 11), (.junk 12), (.junk 13), (.junk 14), (.junk 15), (.junk 16), (.junk 17), (.junk 18), (.junk 19), (.junk 20), (.junk 21), (.junk 22), (.junk 23), (.junk 24), (.junk 25), (.junk 26), (.junk 27), (.junk 28), (.junk 29), (.junk 30), (.junk 31), (.junk 32), (.junk 33), (.junk 34), (.junk 35), (.junk 36), (.junk 37), (.junk 38), (.junk 39), (.junk 40), (.junk 41), (.junk 42), (.junk 43), (.junk 44), (.junk 45), (.junk 46), (.junk 47), (.junk 48), (.junk 49), (.junk 50), .undef], H := [(.cells [(.int .i64 (.a 2)), (.int .i64 (.a 3)), (.int .i64 (.a 4)), (.int .i64 (.a 5)), (.int .i64 (.a 6)), (.int .i64 (.a 7))] 29 false)], ni := 8, nb := 0, nv := 2, nj := 51 }]
theorem saleroomref40_Most_ok : SysOk Try.prog 14 saleroomref40_Most_S := sys_ok (c := (cg [[false, false, true, false, true, true, true]] [] [] false false false true)) (progOkG _ _ _ _ _ _ _) Try.func14 Try.call14 (by kernel_rfl) saleroomref40_Most_pats saleroomref40_Most_S 5000 rfl (by kernel_rfl) (by kernel_rfl) rfl
def saleroomref36_Cost_s : PT :=
 (.call 41 [(.agg [(.int .i64 (.a 0)), (.int .i64 (.a 1)), (.int .i64 (.a 2)), (.int .i64 (.a 3)), (.int .i64 (.a 4)), (.int .i64 (.a 5))]), (.agg [(.int .i64 (.a 12)), (.int .i64 (.a 13)), (.int .i64 (.a 14)), (.int .i64 (.a 15)), (.int .i64 (.a 16)), (.int .i64 (.a 17))])] [] [(.one (.int .i64))]
 (.ret false (.int .i64 (.a 18)) []))
def saleroomref36_Cost_S : Sx.Sys := ⟨[(.sh (.agg [(.int .i64), (.int .i64), (.int .i64), (.int .i64), (.int .i64), (.int .i64), (.int .i64), (.int .i64), (.int .i64), (.int .i64), (.int .i64), (.int .i64)])), (.sh (.agg [(.int .i64), (.int .i64), (.int .i64), (.int .i64), (.int .i64), (.int .i64)]))], saleroomref36_Cost_s, [], none⟩
def saleroomref36_Cost_pats : List Cfg := []
theorem saleroomref36_Cost_ok : SysOk Try.prog 23 saleroomref36_Cost_S := sys_ok (c := (cg [] [] [] false false false true)) (progOkG _ _ _ _ _ _ _) Try.func23 Try.call23 (by kernel_rfl) saleroomref36_Cost_pats saleroomref36_Cost_S 5000 rfl (by kernel_rfl) (by kernel_rfl) rfl
def relcap_Clockbids_2_s : PT :=
 (.call 32 [(.agg [(.int .i64 (.a 1)), (.int .i64 (.a 2)), (.int .i64 (.a 3)), (.int .i64 (.a 4)), (.int .i64 (.a 5)), (.int .i64 (.a 6))]), (.agg [(.int .i64 (.a 9)), (.int .i64 (.a 10)), (.int .i64 (.a 11)), (.int .i64 (.a 12)), (.int .i64 (.a 13)), (.int .i64 (.a 14))])] [] [(.one (.int .i64))]
 (.ret false (.int .i64 (.a 16)) []))
def relcap_Clockbids_2_S : Sx.Sys := ⟨[(.sh (.agg [(.int .i64), (.int .i64), (.int .i64), (.int .i64), (.int .i64), (.int .i64), (.int .i64), (.int .i64)])), (.sh (.agg [(.int .i64), (.int .i64), (.int .i64), (.int .i64), (.int .i64), (.int .i64), (.int .i64), (.int .i64)]))], relcap_Clockbids_2_s, [], none⟩
def relcap_Clockbids_2_pats : List Cfg := []
theorem relcap_Clockbids_2_ok : SysOk Try.prog 31 relcap_Clockbids_2_S := sys_ok (c := (cg [] [] [] false false false true)) (progOkG _ _ _ _ _ _ _) Try.func31 Try.call31 (by kernel_rfl) relcap_Clockbids_2_pats relcap_Clockbids_2_S 5000 rfl (by kernel_rfl) (by kernel_rfl) rfl
def saleroomref36_Valid_s : PT :=
 (.call 17 [(.agg [(.int .i64 (.a 6)), (.int .i64 (.a 7)), (.int .i64 (.a 8)), (.int .i64 (.a 9)), (.int .i64 (.a 10)), (.int .i64 (.a 11))])] [] [(.one (.int .i64))]
 (.ite (.eq (.a 12) (.l 0))
  (.call 51 [(.agg [(.int .i64 (.a 0)), (.int .i64 (.a 1)), (.int .i64 (.a 2)), (.int .i64 (.a 3)), (.int .i64 (.a 4)), (.int .i64 (.a 5))])] [] [(.one .bool)]
  (.ret false (.bool (.a 0)) []))
  (.ret false (.bool (.t false)) [])))
def saleroomref36_Valid_S : Sx.Sys := ⟨[(.sh (.agg [(.int .i64), (.int .i64), (.int .i64), (.int .i64), (.int .i64), (.int .i64), (.int .i64), (.int .i64), (.int .i64), (.int .i64), (.int .i64), (.int .i64)]))], saleroomref36_Valid_s, [], none⟩
def saleroomref36_Valid_pats : List Cfg := []
theorem saleroomref36_Valid_ok : SysOk Try.prog 40 saleroomref36_Valid_S := sys_ok (c := (cg [] [] [] false false false true)) (progOkG _ _ _ _ _ _ _) Try.func40 Try.call40 (by kernel_rfl) saleroomref36_Valid_pats saleroomref36_Valid_S 5000 rfl (by kernel_rfl) (by kernel_rfl) rfl
def slices_pdqsortCmpFunc_api_Offer_s : PT :=
 (.jump 0 [(.a 0), (.a 1), (.a 2)] [] [(.va 0), (.va 1)])
def slices_pdqsortCmpFunc_api_Offer_t0 : PT :=
 (.need (.and (.le (.l (-9223372036854775808)) (.sub (.a 1) (.a 0))) (.le (.sub (.a 1) (.a 0)) (.l 9223372036854775807)))
 (.ite (.le (.sub (.a 1) (.a 0)) (.l 12))
  (.call 54 [(.va 0), (.int .i64 (.a 0)), (.int .i64 (.a 1)), (.va 1)] [] []
  (.ret false (.tup []) []))
  (.ite (.eq (.a 2) (.l 0))
   (.call 55 [(.va 0), (.int .i64 (.a 0)), (.int .i64 (.a 1)), (.va 1)] [] []
   (.ret false (.tup []) []))
   .stuck)))
def slices_pdqsortCmpFunc_api_Offer_S : Sx.Sys := ⟨[(.sh (.one .val)), (.sh (.one (.int .i64))), (.sh (.one (.int .i64))), (.sh (.one (.int .i64))), (.sh (.one .val))], slices_pdqsortCmpFunc_api_Offer_s, [slices_pdqsortCmpFunc_api_Offer_t0], none⟩
def slices_pdqsortCmpFunc_api_Offer_pats : List Cfg := [{ todo := [(.code [false, false, true, true]), (.inLoop [false, false, true, true]), (.inBlock 0)], sl := [(.va 0), (.int .i64 (.a 0)), (.int .i64 (.a 1)), (.int .i64 (.a 2)), (.va 1), .undef, .undef, .undef, .undef, .undef, (.bool (.t true)), (.bool (.t true)), .undef, .undef, .undef, .undef, .undef, .undef, .undef, .undef, .undef, .undef, .undef, .undef, .undef, .undef, .undef, .undef, .undef, .undef, .undef, .undef, .undef, .undef, .undef, .undef, .undef, .undef, .undef, .undef, .undef, .undef, .undef, .undef, .undef, .undef, .undef, .undef, .undef, .undef, .undef, .undef, .undef, .undef, .undef, .undef, .undef, .undef, .undef, .undef, .undef, .undef, .undef, .undef, .undef, .undef, .undef, .undef, .undef, .undef, .undef, .undef, .undef, .undef, .undef, .undef, .undef, .undef, .undef, .undef, .undef, .undef, .undef, .undef, .undef, .undef, .undef, .undef, .undef, .undef, .undef, .undef, .undef, .undef, .undef, .undef, .undef, .undef, .undef, .undef, .undef, .undef, .undef, .undef, .undef, .undef, .undef, .undef, .undef, .undef, .undef, .undef, .undef, .undef, .undef, .undef, .undef, .undef, .undef, .undef, .undef, .undef, .undef, .undef, .undef, .undef, .undef, .undef, .undef, .undef, .undef, .undef, .undef, .undef, .undef, .undef, .undef, .undef, .undef, .undef, .undef, .undef, .undef, .undef, .undef, .undef, .undef, .undef], H := [], ni := 3, nb := 0, nv := 2, nj := 0 }]
theorem slices_pdqsortCmpFunc_api_Offer_ok : SysOk Try.prog 48 slices_pdqsortCmpFunc_api_Offer_S := sys_ok (c := (cg [[false, false, true, true]] [] [(84, [3])] false false false true)) (progOkG _ _ _ _ _ _ _) Try.func48 Try.call48 (by kernel_rfl) slices_pdqsortCmpFunc_api_Offer_pats slices_pdqsortCmpFunc_api_Offer_S 60 rfl (by kernel_rfl) (by kernel_rfl) rfl
def slices_choosePivotCmpFunc_api_Offer_s : PT :=
 (.need (.and (.le (.l (-9223372036854775808)) (.sub (.a 1) (.a 0))) (.le (.sub (.a 1) (.a 0)) (.l 9223372036854775807)))
 (.newM [(.int .i64 (.l 0))] 3
 (.need (.and (.le (.l (-9223372036854775808)) (.tdiv (.sub (.a 1) (.a 0)) (.l 4))) (.le (.tdiv (.sub (.a 1) (.a 0)) (.l 4)) (.l 9223372036854775807)))
 (.need (.and (.le (.l (-9223372036854775808)) (.mul (.tdiv (.sub (.a 1) (.a 0)) (.l 4)) (.l 1))) (.le (.mul (.tdiv (.sub (.a 1) (.a 0)) (.l 4)) (.l 1)) (.l 9223372036854775807)))
 (.need (.and (.le (.l (-9223372036854775808)) (.add (.a 0) (.mul (.tdiv (.sub (.a 1) (.a 0)) (.l 4)) (.l 1)))) (.le (.add (.a 0) (.mul (.tdiv (.sub (.a 1) (.a 0)) (.l 4)) (.l 1))) (.l 9223372036854775807)))
 (.need (.and (.le (.l (-9223372036854775808)) (.tdiv (.sub (.a 1) (.a 0)) (.l 4))) (.le (.tdiv (.sub (.a 1) (.a 0)) (.l 4)) (.l 9223372036854775807)))
 (.need (.and (.le (.l (-9223372036854775808)) (.mul (.tdiv (.sub (.a 1) (.a 0)) (.l 4)) (.l 2))) (.le (.mul (.tdiv (.sub (.a 1) (.a 0)) (.l 4)) (.l 2)) (.l 9223372036854775807)))
 (.need (.and (.le (.l (-9223372036854775808)) (.add (.a 0) (.mul (.tdiv (.sub (.a 1) (.a 0)) (.l 4)) (.l 2)))) (.le (.add (.a 0) (.mul (.tdiv (.sub (.a 1) (.a 0)) (.l 4)) (.l 2))) (.l 9223372036854775807)))
 (.need (.and (.le (.l (-9223372036854775808)) (.tdiv (.sub (.a 1) (.a 0)) (.l 4))) (.le (.tdiv (.sub (.a 1) (.a 0)) (.l 4)) (.l 9223372036854775807)))
 (.need (.and (.le (.l (-9223372036854775808)) (.mul (.tdiv (.sub (.a 1) (.a 0)) (.l 4)) (.l 3))) (.le (.mul (.tdiv (.sub (.a 1) (.a 0)) (.l 4)) (.l 3)) (.l 9223372036854775807)))
 (.need (.and (.le (.l (-9223372036854775808)) (.add (.a 0) (.mul (.tdiv (.sub (.a 1) (.a 0)) (.l 4)) (.l 3)))) (.le (.add (.a 0) (.mul (.tdiv (.sub (.a 1) (.a 0)) (.l 4)) (.l 3))) (.l 9223372036854775807)))
 (.ite (.le (.l 8) (.sub (.a 1) (.a 0)))
  (.ite (.le (.l 50) (.sub (.a 1) (.a 0)))
   (.call 67 [(.va 0), (.int .i64 (.add (.a 0) (.mul (.tdiv (.sub (.a 1) (.a 0)) (.l 4)) (.l 1)))), (.pa 2 0), (.va 1)] [] [(.one (.int .i64))]
   (.call 67 [(.va 0), (.int .i64 (.add (.a 0) (.mul (.tdiv (.sub (.a 1) (.a 0)) (.l 4)) (.l 2)))), (.pa 2 0), (.va 1)] [] [(.one (.int .i64))]
   (.call 67 [(.va 0), (.int .i64 (.add (.a 0) (.mul (.tdiv (.sub (.a 1) (.a 0)) (.l 4)) (.l 3)))), (.pa 2 0), (.va 1)] [] [(.one (.int .i64))]
   (.call 68 [(.va 0), (.int .i64 (.a 2)), (.int .i64 (.a 3)), (.int .i64 (.a 4)), (.pa 2 0), (.va 1)] [] [(.one (.int .i64))]
   (.load false (.pa 2 0) [(.int .i64)]
   (.ite (.eq (.a 6) (.l 0))
    (.ret false (.tup [(.int .i64 (.a 5)), (.int .i64 (.l 1))]) [])
    (.ite (.eq (.a 6) (.l 12))
     (.ret false (.tup [(.int .i64 (.a 5)), (.int .i64 (.l 2))]) [])
     (.ret false (.tup [(.int .i64 (.a 5)), (.int .i64 (.l 0))]) []))))))))
   (.call 68 [(.va 0), (.int .i64 (.add (.a 0) (.mul (.tdiv (.sub (.a 1) (.a 0)) (.l 4)) (.l 1)))), (.int .i64 (.add (.a 0) (.mul (.tdiv (.sub (.a 1) (.a 0)) (.l 4)) (.l 2)))), (.int .i64 (.add (.a 0) (.mul (.tdiv (.sub (.a 1) (.a 0)) (.l 4)) (.l 3)))), (.pa 2 0), (.va 1)] [] [(.one (.int .i64))]
   (.load false (.pa 2 0) [(.int .i64)]
   (.ite (.eq (.a 3) (.l 0))
    (.ret false (.tup [(.int .i64 (.a 2)), (.int .i64 (.l 1))]) [])
    (.ite (.eq (.a 3) (.l 12))
     (.ret false (.tup [(.int .i64 (.a 2)), (.int .i64 (.l 2))]) [])
     (.ret false (.tup [(.int .i64 (.a 2)), (.int .i64 (.l 0))]) []))))))
  (.load false (.pa 2 0) [(.int .i64)]
  (.ite (.eq (.a 2) (.l 0))
   (.ret false (.tup [(.int .i64 (.add (.a 0) (.mul (.tdiv (.sub (.a 1) (.a 0)) (.l 4)) (.l 2)))), (.int .i64 (.l 1))]) [])
   (.ite (.eq (.a 2) (.l 12))
    (.ret false (.tup [(.int .i64 (.add (.a 0) (.mul (.tdiv (.sub (.a 1) (.a 0)) (.l 4)) (.l 2)))), (.int .i64 (.l 2))]) [])
    (.ret false (.tup [(.int .i64 (.add (.a 0) (.mul (.tdiv (.sub (.a 1) (.a 0)) (.l 4)) (.l 2)))), (.int .i64 (.l 0))]) []))))))))))))))))
def slices_choosePivotCmpFunc_api_Offer_S : Sx.Sys := ⟨[(.sh (.one .val)), (.sh (.one (.int .i64))), (.sh (.one (.int .i64))), (.sh (.one .val))], slices_choosePivotCmpFunc_api_Offer_s, [], none⟩
def slices_choosePivotCmpFunc_api_Offer_pats : List Cfg := []
theorem slices_choosePivotCmpFunc_api_Offer_ok : SysOk Try.prog 57 slices_choosePivotCmpFunc_api_Offer_S := sys_ok (c := (cg [] [11] [] true false false true)) (progOkG _ _ _ _ _ _ _) Try.func57 Try.call57 (by kernel_rfl) slices_choosePivotCmpFunc_api_Offer_pats slices_choosePivotCmpFunc_api_Offer_S 5000 rfl (by kernel_rfl) (by kernel_rfl) rfl
end Go.Proofs.Ytggjcdnailppoaa
set_option maxRecDepth 100000
namespace Go.Proofs.Ytggjcdnailppoaa
open Go.Sx
def saleroomlaw40_RelcapTrims_s : PT :=
 (.need (.is 0 0)
 (.ite (.lt (.l 14) (.slen 0))
  (.call 9 [] [] [(.one .bool)]
  (.ret false (.bool (.a 0)) []))
  (.need (.is 0 1)
  (.ite (.lt (.l 14) (.slen 1))
   (.call 9 [] [] [(.one .bool)]
   (.ret false (.bool (.a 0)) []))
   (.call 21 [(.va 0)] [] [(.one .bool)]
   (.ite (.not (.a 0))
    (.call 9 [] [] [(.one .bool)]
    (.ret false (.bool (.a 1)) []))
    (.call 19 [(.va 0), (.va 1)] [] [(.one .val)]
    (.call 15 [(.va 0), (.va 2)] [] [(.one (.int .i64)), (.one (.int .i64))]
    (.ite (.not (.eq (.a 1) (.l 0)))
     (.ret false (.bool (.t false)) [])
     (.jump 0 [(.l 0), (.l 0)] [] [(.va 0), (.va 1), (.va 2)]))))))))))
def saleroomlaw40_RelcapTrims_t0 : PT :=
 (.need (.is 0 2)
 (.ite (.lt (.a 1) (.slen 2))
  (.jump 1 [(.a 0), (.a 1)] [] [(.va 0), (.va 1), (.va 2)])
  (.call 15 [(.va 0), (.va 1)] [] [(.one (.int .i64)), (.one (.int .i64))]
  (.ite (.not (.eq (.a 3) (.l 0)))
   (.call 9 [] [] [(.one .bool)]
   (.ret false (.bool (.a 0)) []))
   (.call 10 [(.va 2), (.va 1)] [] [(.one .bool)]
   (.ite (.a 0)
    (.call 9 [] [] [(.one .bool)]
    (.ret false (.bool (.a 1)) []))
    (.ret false (.bool (.t false)) [])))))))
def saleroomlaw40_RelcapTrims_t1 : PT :=
 (.need (.is 0 1)
 (.ite (.lt (.a 0) (.slen 1))
  (.need (.and (.le (.l 0) (.a 0)) (.lt (.a 0) (.slen 1)))
  (.need (.and (.le (.l 0) (.a 1)) (.lt (.a 1) (.slen 2)))
  (.load true (.ea 1 (.a 0) 8 0) [(.int .i64), (.int .i64), (.int .i64), (.int .i64), (.int .i64), (.int .i64), (.int .i64), (.int .i64)]
  (.load true (.ea 2 (.a 1) 8 0) [(.int .i64), (.int .i64), (.int .i64), (.int .i64), (.int .i64), (.int .i64), (.int .i64), (.int .i64)]
  (.ite (.not (.and (.eq (.a 2) (.a 10)) (.and (.eq (.a 3) (.a 11)) (.and (.eq (.a 4) (.a 12)) (.and (.eq (.a 5) (.a 13)) (.and (.eq (.a 6) (.a 14)) (.and (.eq (.a 7) (.a 15)) (.and (.eq (.a 8) (.a 16)) (.eq (.a 9) (.a 17))))))))))
   (.need (.and (.le (.l (-9223372036854775808)) (.add (.a 0) (.l 1))) (.le (.add (.a 0) (.l 1)) (.l 9223372036854775807)))
   (.jump 1 [(.add (.a 0) (.l 1)), (.a 1)] [] [(.va 0), (.va 1), (.va 2)]))
   (.need (.is 0 1)
   (.ite (.eq (.a 0) (.slen 1))
    (.ret false (.bool (.t false)) [])
    (.need (.and (.le (.l (-9223372036854775808)) (.add (.a 0) (.l 1))) (.le (.add (.a 0) (.l 1)) (.l 9223372036854775807)))
    (.need (.and (.le (.l (-9223372036854775808)) (.add (.a 1) (.l 1))) (.le (.add (.a 1) (.l 1)) (.l 9223372036854775807)))
    (.jump 0 [(.add (.a 0) (.l 1)), (.add (.a 1) (.l 1))] [] [(.va 0), (.va 1), (.va 2)]))))))))))
  (.need (.is 0 1)
  (.ite (.eq (.a 0) (.slen 1))
   (.ret false (.bool (.t false)) [])
   (.need (.and (.le (.l (-9223372036854775808)) (.add (.a 0) (.l 1))) (.le (.add (.a 0) (.l 1)) (.l 9223372036854775807)))
   (.need (.and (.le (.l (-9223372036854775808)) (.add (.a 1) (.l 1))) (.le (.add (.a 1) (.l 1)) (.l 9223372036854775807)))
   (.jump 0 [(.add (.a 0) (.l 1)), (.add (.a 1) (.l 1))] [] [(.va 0), (.va 1), (.va 2)])))))))
def saleroomlaw40_RelcapTrims_S : Sx.Sys := ⟨[(.sh (.one .val)), (.sh (.one .val))], saleroomlaw40_RelcapTrims_s, [saleroomlaw40_RelcapTrims_t0, saleroomlaw40_RelcapTrims_t1], none⟩
def saleroomlaw40_RelcapTrims_pats : List Cfg := [{ todo := [(.code [false, false, true, false, true, true, true, true, true]), (.inLoop [false, false, true, false, true, true, true, true, true]), (.inBlock 0), (.code [true, true, true, true, true, true])], sl := [(.va 0), (.va 1), .undef, .undef, (.junk 0), (.va 2), (.junk 1), (.junk 2), (.int .i64 (.a 0)), (.int .i64 (.a 1)), .undef, .undef, (.junk 3), (.junk 4), (.junk 5), (.junk 6), (.junk 7), (.junk 8), (.junk 9), (.junk 10), (.junk 11), (.junk 12), (.junk 13), (.junk 14), (.junk 15), .undef, (.junk 16), (.junk 17), (.junk 18), (.junk 19), (.junk 20), (.junk 21), (.junk 22), (.junk 23), (.junk 24), (.junk 25), (.junk 26), (.junk 27), (.junk 28), (.junk 29), (.junk 30), (.junk 31), (.junk 32), (.junk 33), (.junk 34), (.junk 35), (.junk 36), (.junk 37), (.junk 38), (.junk 39), (.junk 40), (.junk 41), (.junk 42), (.junk 43), (.junk 44), (.junk 45), (.junk 46), (.junk 47), (.junk 48), (.junk 49), (.junk 50), (.junk 51), (.junk 52), (.junk 53), (.junk 54), (.junk 55), .undef, .undef, .undef, .undef, .undef, .undef, .undef, .undef, .undef, .undef, .undef, .undef, .undef, .undef, .undef, .undef], H := [], ni := 2, nb := 0, nv := 3, nj := 56 },
 { todo := [(.code [false, false, false, false, false, true, false, false, true, false, true, true, true, true, true]), (.inLoop [false, false, false, false, false, true, false, false, true, false, true, true, true, true, true]), (.inBlock 2), (.code [true, false, false, true, false, false, true, false, true, true, true, true, true]), (.inBlock 1), (.code [true, true, false, false, true, false, true, true, true, true, true]), (.inLoop [false, false, true, false, true, true, true, true, true]), (.inBlock 0), (.code [true, true, true, true, true, true])], sl := [(.va 0), (.va 1), .undef, .undef, (.junk 0), (.va 2), (.junk 1), (.junk 2), (.int .i64 (.a 0)), (.int .i64 (.a 1)), .undef, .undef, (.junk 3), (.junk 4), (.junk 5), (.junk 6), (.junk 7), (.junk 8), (.junk 9), (.junk 10), (.junk 11), (.junk 12), (.junk 13), (.junk 14), (.junk 15), .undef, (.junk 16), (.junk 17), (.junk 18), (.junk 19), (.junk 20), (.junk 21), (.junk 22), (.junk 23), (.junk 24), (.junk 25), (.junk 26), (.junk 27), (.junk 28), (.junk 29), (.junk 30), (.junk 31), (.junk 32), (.junk 33), (.junk 34), (.junk 35), (.junk 36), (.junk 37), (.junk 38), (.junk 39), (.junk 40), (.junk 41), (.junk 42), (.junk 43), (.junk 44), (.junk 45), (.junk 46), (.junk 47), (.junk 48), (.junk 49), (.junk 50), (.junk 51), (.junk 52), (.junk 53), (.junk 54), (.junk 55), .undef, .undef, .undef, .undef, .undef, .undef, .undef, .undef, .undef, .undef, .undef, .undef, .undef, .undef, .undef, .undef], H := [], ni := 2, nb := 0, nv := 3, nj := 56 }]
theorem saleroomlaw40_RelcapTrims_ok : SysOk Try.prog 7 saleroomlaw40_RelcapTrims_S := sys_ok (c := (cg [[false, false, true, false, true, true, true, true, true], [false, false, false, false, false, true, false, false, true, false, true, true, true, true, true]] [] [] false false false true)) (progOkG _ _ _ _ _ _ _) Try.func7 Try.call7 (by kernel_rfl) saleroomlaw40_RelcapTrims_pats saleroomlaw40_RelcapTrims_S 5000 rfl (by kernel_rfl) (by kernel_rfl) rfl
def relcap_Check_s : PT :=
 (.call 26 [(.va 0)] [] [(.one .bool)]
 (.ite (.not (.a 0))
  (.ret false (.tup [(.int .i64 (.l 0)), (.int .i64 (.l 4))]) [])
  (.need (.is 0 1)
  (.jump 0 [(.slen 1), (.l 0)] [] [(.va 0), (.va 1)]))))
def relcap_Check_t0 : PT :=
 (.ite (.lt (.a 1) (.a 0))
  (.need (.and (.le (.l 0) (.a 1)) (.lt (.a 1) (.slen 1)))
  (.load false (.ea 1 (.a 1) 8 0) [(.int .i64), (.int .i64), (.int .i64), (.int .i64), (.int .i64), (.int .i64), (.int .i64), (.int .i64)]
  (.call 35 [(.agg [(.int .i64 (.a 2)), (.int .i64 (.a 3)), (.int .i64 (.a 4)), (.int .i64 (.a 5)), (.int .i64 (.a 6)), (.int .i64 (.a 7)), (.int .i64 (.a 8)), (.int .i64 (.a 9))])] [] [(.one .bool)]
  (.ite (.not (.a 0))
   (.ret false (.tup [(.int .i64 (.a 1)), (.int .i64 (.l 4))]) [])
   (.need (.and (.le (.l (-9223372036854775808)) (.add (.a 1) (.l 1))) (.le (.add (.a 1) (.l 1)) (.l 9223372036854775807)))
   (.jump 0 [(.a 0), (.add (.a 1) (.l 1))] [] [(.va 0), (.va 1)]))))))
  (.call 37 [(.va 0), (.va 1)] [] [(.one .val)]
  (.need (.is 0 1)
  (.jump 1 [(.slen 1), (.l 0)] [] [(.va 0), (.va 2), (.va 1)]))))
def relcap_Check_t1 : PT :=
 (.ite (.lt (.a 1) (.a 0))
  (.need (.and (.le (.l 0) (.a 1)) (.lt (.a 1) (.slen 2)))
  (.load false (.ea 2 (.a 1) 8 0) [(.int .i64), (.int .i64), (.int .i64), (.int .i64), (.int .i64), (.int .i64), (.int .i64), (.int .i64)]
  (.call 36 [(.va 0), (.va 1), (.agg [(.int .i64 (.a 3)), (.int .i64 (.a 4)), (.int .i64 (.a 5)), (.int .i64 (.a 6)), (.int .i64 (.a 7)), (.int .i64 (.a 8))])] [] [(.one (.int .i64))]
  (.ite (.lt (.a 10) (.a 9))
   (.ret false (.tup [(.int .i64 (.a 1)), (.int .i64 (.l 16))]) [])
   (.need (.and (.le (.l (-9223372036854775808)) (.add (.a 1) (.l 1))) (.le (.add (.a 1) (.l 1)) (.l 9223372036854775807)))
   (.jump 1 [(.a 0), (.add (.a 1) (.l 1))] [] [(.va 0), (.va 1), (.va 2)]))))))
  (.ret false (.tup [(.int .i64 (.l 0)), (.int .i64 (.l 0))]) []))
def relcap_Check_S : Sx.Sys := ⟨[(.sh (.one .val)), (.sh (.one .val))], relcap_Check_s, [relcap_Check_t0, relcap_Check_t1], none⟩
def relcap_Check_pats : List Cfg := [{ todo := [(.code [false, false, true, false, true, true]), (.inLoop [false, false, true, false, true, true]), (.inBlock 0), (.code [true, true, true])], sl := [(.va 0), (.va 1), .undef, .undef, (.junk 0), (.junk 1), (.junk 2), (.junk 3), .undef, .undef, .undef, (.junk 4), (.junk 5), (.junk 6), (.va 1), (.int .i64 (.a 0)), (.int .i64 (.a 1)), (.junk 7), (.junk 8), (.junk 9), (.junk 10), (.junk 11), (.junk 12), (.junk 13), .undef, (.junk 14), .undef, .undef, .undef, .undef, .undef, .undef, .undef, .undef, .undef, .undef, .undef, .undef, .undef, .undef, .undef, .undef, .undef, .undef, .undef, .undef], H := [], ni := 2, nb := 0, nv := 2, nj := 15 },
 { todo := [(.code [false, false, true, false, true, true, true, true]), (.inLoop [false, false, true, false, true, true, true, true]), (.inBlock 2), (.code [true, true, true, true, true])], sl := [(.va 0), (.junk 0), .undef, .undef, (.junk 1), (.junk 2), (.junk 3), (.junk 4), (.va 1), (.junk 5), (.junk 6), (.junk 7), (.junk 8), (.junk 9), (.junk 10), (.junk 11), (.junk 12), (.junk 13), (.junk 14), (.junk 15), (.junk 16), (.junk 17), (.junk 18), (.junk 19), .undef, (.junk 20), (.junk 21), (.junk 22), (.junk 23), (.va 2), (.int .i64 (.a 0)), (.int .i64 (.a 1)), (.junk 24), (.junk 25), (.junk 26), (.junk 27), (.junk 28), (.junk 29), (.junk 30), (.junk 31), (.junk 32), (.junk 33), (.junk 34), (.junk 35), .undef, (.junk 36)], H := [], ni := 2, nb := 0, nv := 3, nj := 37 }]
theorem relcap_Check_ok : SysOk Try.prog 15 relcap_Check_S := sys_ok (c := (cg [[false, false, true, false, true, true], [false, false, true, false, true, true, true, true]] [] [] false false false true)) (progOkG _ _ _ _ _ _ _) Try.func15 Try.call15 (by kernel_rfl) relcap_Check_pats relcap_Check_S 5000 rfl (by kernel_rfl) (by kernel_rfl) rfl
def revealed_Check_s : PT :=
 (.call 42 [(.va 0)] [] [(.one .bool)]
 (.ite (.not (.a 0))
  (.ret false (.tup [(.agg [.nilS, .nilS]), (.bool (.t false))]) [])
  (.call 43 [(.va 0)] [] [(.one .val), (.one .val)]
  (.need (.is 0 2)
  (.ite (.not (.nil 2))
   (.ret false (.tup [(.agg [(.va 2), .nilS]), (.bool (.t false))]) [])
   (.need (.is 0 0)
   (.jump 0 [(.l 0), (.slen 0), (.l 0)] [] [(.va 0), (.va 1)])))))))
def revealed_Check_t0_b1 : PT :=
 (.call 27 [(.agg [(.int .i64 (.a 3)), (.int .i64 (.a 4)), (.int .i64 (.a 5)), (.int .i64 (.a 6)), (.int .i64 (.a 7)), (.int .i64 (.a 8))]), (.agg [(.int .i64 (.a 9)), (.int .i64 (.a 10)), (.int .i64 (.a 11)), (.int .i64 (.a 12)), (.int .i64 (.a 13)), (.int .i64 (.a 14))])] [] [(.one (.int .i64))]
   (.load false (.ea 1 (.a 2) 1 0) [(.int .i64)]
   (.need (.and (.le (.l (-9223372036854775808)) (.sub (.a 15) (.a 16))) (.le (.sub (.a 15) (.a 16)) (.l 9223372036854775807)))
   (.need (.and (.le (.l (-9223372036854775808)) (.add (.a 2) (.l 1))) (.le (.add (.a 2) (.l 1)) (.l 9223372036854775807)))
   (.jump 0 [(.mx (.a 0) (.sub (.a 15) (.a 16))), (.a 1), (.add (.a 2) (.l 1))] [] [(.va 0), (.va 1)])))))
def revealed_Check_t0_b2 : PT :=
 (.load false (.ea 1 (.a 2) 1 0) [(.int .i64)]
   (.call 27 [(.agg [(.int .i64 (.a 3)), (.int .i64 (.a 4)), (.int .i64 (.a 5)), (.int .i64 (.a 6)), (.int .i64 (.a 7)), (.int .i64 (.a 8))]), (.agg [(.int .i64 (.a 9)), (.int .i64 (.a 10)), (.int .i64 (.a 11)), (.int .i64 (.a 12)), (.int .i64 (.a 13)), (.int .i64 (.a 14))])] [] [(.one (.int .i64))]
   (.need (.and (.le (.l (-9223372036854775808)) (.sub (.a 16) (.a 15))) (.le (.sub (.a 16) (.a 15)) (.l 9223372036854775807)))
   (.need (.and (.le (.l (-9223372036854775808)) (.add (.a 2) (.l 1))) (.le (.add (.a 2) (.l 1)) (.l 9223372036854775807)))
   (.jump 0 [(.mx (.a 0) (.sub (.a 16) (.a 15))), (.a 1), (.add (.a 2) (.l 1))] [] [(.va 0), (.va 1)])))))
def revealed_Check_t0 : PT :=
 (.ite (.lt (.a 2) (.a 1))
  (.need (.and (.le (.l 0) (.a 2)) (.lt (.a 2) (.slen 0)))
  (.load false (.ea 0 (.a 2) 12 0) [(.int .i64), (.int .i64), (.int .i64), (.int .i64), (.int .i64), (.int .i64), (.int .i64), (.int .i64), (.int .i64), (.int .i64), (.int .i64), (.int .i64)]
  (.need (.and (.le (.l 0) (.a 2)) (.lt (.a 2) (.slen 1)))
  (.both revealed_Check_t0_b1 revealed_Check_t0_b2))))
  (.need (.is 0 0)
  (.jump 1 [(.a 0), (.slen 0), (.l 0)] [] [(.va 1), (.va 0)])))
def revealed_Check_t1 : PT :=
 (.ite (.lt (.a 2) (.a 1))
  (.need (.and (.le (.l 0) (.a 2)) (.lt (.a 2) (.slen 1)))
  (.load false (.ea 1 (.a 2) 12 0) [(.int .i64), (.int .i64), (.int .i64), (.int .i64), (.int .i64), (.int .i64), (.int .i64), (.int .i64), (.int .i64), (.int .i64), (.int .i64), (.int .i64)]
  (.ite (.and (.eq (.a 9) (.l 0)) (.and (.eq (.a 10) (.l 0)) (.and (.eq (.a 11) (.l 0)) (.and (.eq (.a 12) (.l 0)) (.and (.eq (.a 13) (.l 0)) (.eq (.a 14) (.l 0)))))))
   (.need (.and (.le (.l 0) (.a 2)) (.lt (.a 2) (.slen 0)))
   (.load false (.ea 0 (.a 2) 1 0) [(.int .i64)]
   (.need (.and (.le (.l (-9223372036854775808)) (.sub (.l 0) (.a 15))) (.le (.sub (.l 0) (.a 15)) (.l 9223372036854775807)))
   (.need (.and (.le (.l (-9223372036854775808)) (.add (.a 2) (.l 1))) (.le (.add (.a 2) (.l 1)) (.l 9223372036854775807)))
   (.jump 1 [(.sub (.l 0) (.a 15)), (.a 1), (.add (.a 2) (.l 1))] [] [(.va 0), (.va 1)])))))
   (.need (.and (.le (.l (-9223372036854775808)) (.add (.a 2) (.l 1))) (.le (.add (.a 2) (.l 1)) (.l 9223372036854775807)))
   (.jump 1 [(.a 0), (.a 1), (.add (.a 2) (.l 1))] [] [(.va 0), (.va 1)])))))
  (.need (.is 0 0)
  (.jump 2 [(.a 0), (.slen 0), (.l 0)] [] [(.va 0)])))
def revealed_Check_t2 : PT :=
 (.ite (.lt (.a 2) (.a 1))
  (.need (.and (.le (.l 0) (.a 2)) (.lt (.a 2) (.slen 0)))
  (.load false (.ea 0 (.a 2) 1 0) [(.int .i64)]
  (.need (.and (.le (.l (-9223372036854775808)) (.add (.a 3) (.a 0))) (.le (.add (.a 3) (.a 0)) (.l 9223372036854775807)))
  (.need (.and (.le (.l 0) (.a 2)) (.lt (.a 2) (.slen 0)))
  (.storeM (.ea 0 (.a 2) 1 0) [(.int .i64 (.add (.a 3) (.a 0)))]
  (.need (.and (.le (.l (-9223372036854775808)) (.add (.a 2) (.l 1))) (.le (.add (.a 2) (.l 1)) (.l 9223372036854775807)))
  (.jump 2 [(.a 0), (.a 1), (.add (.a 2) (.l 1))] [] [(.va 0)])))))))
  (.ret false (.tup [(.agg [.nilS, (.va 0)]), (.bool (.t true))]) []))
def revealed_Check_S : Sx.Sys := ⟨[(.sh (.one .val))], revealed_Check_s, [revealed_Check_t0, revealed_Check_t1, revealed_Check_t2], none⟩
def revealed_Check_pats : List Cfg := [{ todo := [(.code [false, false, true, false, true, true, true, true, true]), (.inLoop [false, false, true, false, true, true, true, true, true]), (.inBlock 0), (.code [true, true, true, true, true, true])], sl := [(.va 0), .undef, (.ptr 0 0), (.junk 0), (.va 1), (.junk 1), (.int .i64 (.a 0)), (.junk 2), (.junk 3), .undef, .undef, .undef, (.junk 4), (.junk 5), (.junk 6), .undef, (.junk 7), (.junk 8), (.junk 9), (.junk 10), (.junk 11), (.junk 12), (.junk 13), .undef, .undef, (.va 0), (.int .i64 (.a 1)), (.int .i64 (.a 2)), (.junk 14), (.junk 15), (.junk 16), (.junk 17), (.junk 18), (.junk 19), (.junk 20), (.junk 21), (.junk 22), (.junk 23), (.junk 24), (.junk 25), (.junk 26), (.junk 27), (.junk 28), (.junk 29), (.junk 30), .undef, .undef, .undef, .undef, .undef, .undef, .undef, .undef, .undef, .undef, .undef, .undef, .undef, .undef, .undef, .undef, .undef, .undef, .undef, .undef, .undef, .undef, .undef, .undef, .undef, .undef, .undef, .undef, .undef, .undef, .undef, .undef], H := [(.cells [.nilS, .nilS] 50 false)], ni := 3, nb := 0, nv := 2, nj := 31 },
 { todo := [(.code [false, false, true, false, true, true, true, true, true, true]), (.inLoop [false, false, true, false, true, true, true, true, true, true]), (.inBlock 2), (.code [true, true, true, true, true, true, true])], sl := [(.junk 0), .undef, (.ptr 0 0), (.junk 1), (.va 0), (.junk 2), (.int .i64 (.a 0)), (.junk 3), (.junk 4), (.junk 5), (.junk 6), .undef, (.junk 7), (.junk 8), (.junk 9), .undef, (.junk 10), (.junk 11), (.junk 12), (.junk 13), (.junk 14), (.junk 15), (.junk 16), .undef, .undef, (.junk 17), (.junk 18), (.junk 19), (.junk 20), (.junk 21), (.junk 22), (.junk 23), (.junk 24), (.junk 25), (.junk 26), (.junk 27), (.junk 28), (.junk 29), (.junk 30), (.junk 31), (.junk 32), (.junk 33), (.junk 34), (.junk 35), (.junk 36), (.va 1), (.int .i64 (.a 1)), (.int .i64 (.a 2)), (.junk 37), (.junk 38), (.junk 39), (.junk 40), (.junk 41), (.junk 42), (.junk 43), (.junk 44), (.junk 45), (.junk 46), (.junk 47), (.junk 48), (.junk 49), (.junk 50), .undef, .undef, .undef, .undef, .undef, .undef, .undef, .undef, .undef, .undef, .undef, .undef, .undef, .undef, .undef], H := [(.cells [.nilS, .nilS] 50 false)], ni := 3, nb := 0, nv := 2, nj := 51 },
 { todo := [(.code [false, false, true, false, true, true, true, true, true, true, true]), (.inLoop [false, false, true, false, true, true, true, true, true, true, true]), (.inBlock 4), (.code [true, true, true, true, true, true, true, true])], sl := [(.junk 0), .undef, (.ptr 0 0), (.junk 1), (.va 0), (.junk 2), (.int .i64 (.a 0)), (.junk 3), (.junk 4), (.junk 5), (.junk 6), (.junk 7), (.junk 8), (.junk 9), (.junk 10), .undef, (.junk 11), (.junk 12), (.junk 13), (.junk 14), (.junk 15), (.junk 16), (.junk 17), .undef, .undef, (.junk 18), (.junk 19), (.junk 20), (.junk 21), (.junk 22), (.junk 23), (.junk 24), (.junk 25), (.junk 26), (.junk 27), (.junk 28), (.junk 29), (.junk 30), (.junk 31), (.junk 32), (.junk 33), (.junk 34), (.junk 35), (.junk 36), (.junk 37), (.junk 38), (.junk 39), (.junk 40), (.junk 41), (.junk 42), (.junk 43), (.junk 44), (.junk 45), (.junk 46), (.junk 47), (.junk 48), (.junk 49), (.junk 50), (.junk 51), (.junk 52), (.junk 53), (.junk 54), (.junk 55), (.int .i64 (.a 1)), (.int .i64 (.a 2)), (.junk 56), (.junk 57), (.junk 58), (.junk 59), (.junk 60), (.junk 61), (.junk 62), (.junk 63), (.junk 64), (.junk 65), .undef, .undef], H := [(.cells [.nilS, .nilS] 50 false)], ni := 3, nb := 0, nv := 1, nj := 66 }]
theorem revealed_Check_ok : SysOk Try.prog 24 revealed_Check_S := sys_ok (c := (cg [[false, false, true, false, true, true, true, true, true], [false, false, true, false, true, true, true, true, true, true], [false, false, true, false, true, true, true, true, true, true, true]] [] [] true false false true)) (progOkG _ _ _ _ _ _ _) Try.func24 Try.call24 (by kernel_rfl) revealed_Check_pats revealed_Check_S 5000 rfl (by kernel_rfl) (by kernel_rfl) rfl
def bundle_Compare_s : PT :=
 (.ite (.lt (.a 0) (.a 6))
  (.ret false (.int .i64 (.l (-1))) [])
  (.ite (.lt (.a 6) (.a 0))
   (.ret false (.int .i64 (.l 1)) [])
   (.ite (.lt (.a 1) (.a 7))
    (.ret false (.int .i64 (.l (-1))) [])
    (.ite (.lt (.a 7) (.a 1))
     (.ret false (.int .i64 (.l 1)) [])
     (.ite (.lt (.a 2) (.a 8))
      (.ret false (.int .i64 (.l (-1))) [])
      (.ite (.lt (.a 8) (.a 2))
       (.ret false (.int .i64 (.l 1)) [])
       (.ite (.lt (.a 3) (.a 9))
        (.ret false (.int .i64 (.l (-1))) [])
        (.ite (.lt (.a 9) (.a 3))
         (.ret false (.int .i64 (.l 1)) [])
         (.ite (.lt (.a 4) (.a 10))
          (.ret false (.int .i64 (.l (-1))) [])
          (.ite (.lt (.a 10) (.a 4))
           (.ret false (.int .i64 (.l 1)) [])
           (.ite (.lt (.a 5) (.a 11))
            (.ret false (.int .i64 (.l (-1))) [])
            (.ite (.lt (.a 11) (.a 5))
             (.ret false (.int .i64 (.l 1)) [])
             (.ret false (.int .i64 (.l 0)) [])))))))))))))
def bundle_Compare_S : Sx.Sys := ⟨[(.sh (.agg [(.int .i64), (.int .i64), (.int .i64), (.int .i64), (.int .i64), (.int .i64)])), (.sh (.agg [(.int .i64), (.int .i64), (.int .i64), (.int .i64), (.int .i64), (.int .i64)]))], bundle_Compare_s, [], none⟩
def bundle_Compare_pats : List Cfg := []
theorem bundle_Compare_ok : SysOk Try.prog 32 bundle_Compare_S := sys_ok (c := (cg [] [] [] false false false true)) (progOkG _ _ _ _ _ _ _) Try.func32 Try.call32 (by kernel_rfl) bundle_Compare_pats bundle_Compare_S 5000 rfl (by kernel_rfl) (by kernel_rfl) rfl
def saleroomref07_Cost_s : PT :=
 (.need (.and (.le (.l (-9223372036854775808)) (.mul (.a 0) (.a 6))) (.le (.mul (.a 0) (.a 6)) (.l 9223372036854775807)))
 (.need (.and (.le (.l (-9223372036854775808)) (.mul (.a 0) (.a 6))) (.le (.mul (.a 0) (.a 6)) (.l 9223372036854775807)))
 (.need (.and (.le (.l (-9223372036854775808)) (.mul (.a 1) (.a 7))) (.le (.mul (.a 1) (.a 7)) (.l 9223372036854775807)))
 (.need (.and (.le (.l (-9223372036854775808)) (.add (.mul (.a 0) (.a 6)) (.mul (.a 1) (.a 7)))) (.le (.add (.mul (.a 0) (.a 6)) (.mul (.a 1) (.a 7))) (.l 9223372036854775807)))
 (.need (.and (.le (.l (-9223372036854775808)) (.mul (.a 2) (.a 8))) (.le (.mul (.a 2) (.a 8)) (.l 9223372036854775807)))
 (.need (.and (.le (.l (-9223372036854775808)) (.add (.add (.mul (.a 0) (.a 6)) (.mul (.a 1) (.a 7))) (.mul (.a 2) (.a 8)))) (.le (.add (.add (.mul (.a 0) (.a 6)) (.mul (.a 1) (.a 7))) (.mul (.a 2) (.a 8))) (.l 9223372036854775807)))
 (.need (.and (.le (.l (-9223372036854775808)) (.mul (.a 3) (.a 9))) (.le (.mul (.a 3) (.a 9)) (.l 9223372036854775807)))
 (.need (.and (.le (.l (-9223372036854775808)) (.add (.add (.add (.mul (.a 0) (.a 6)) (.mul (.a 1) (.a 7))) (.mul (.a 2) (.a 8))) (.mul (.a 3) (.a 9)))) (.le (.add (.add (.add (.mul (.a 0) (.a 6)) (.mul (.a 1) (.a 7))) (.mul (.a 2) (.a 8))) (.mul (.a 3) (.a 9))) (.l 9223372036854775807)))
 (.need (.and (.le (.l (-9223372036854775808)) (.mul (.a 4) (.a 10))) (.le (.mul (.a 4) (.a 10)) (.l 9223372036854775807)))
 (.need (.and (.le (.l (-9223372036854775808)) (.add (.add (.add (.add (.mul (.a 0) (.a 6)) (.mul (.a 1) (.a 7))) (.mul (.a 2) (.a 8))) (.mul (.a 3) (.a 9))) (.mul (.a 4) (.a 10)))) (.le (.add (.add (.add (.add (.mul (.a 0) (.a 6)) (.mul (.a 1) (.a 7))) (.mul (.a 2) (.a 8))) (.mul (.a 3) (.a 9))) (.mul (.a 4) (.a 10))) (.l 9223372036854775807)))
 (.need (.and (.le (.l (-9223372036854775808)) (.mul (.a 5) (.a 11))) (.le (.mul (.a 5) (.a 11)) (.l 9223372036854775807)))
 (.need (.and (.le (.l (-9223372036854775808)) (.add (.add (.add (.add (.add (.mul (.a 0) (.a 6)) (.mul (.a 1) (.a 7))) (.mul (.a 2) (.a 8))) (.mul (.a 3) (.a 9))) (.mul (.a 4) (.a 10))) (.mul (.a 5) (.a 11)))) (.le (.add (.add (.add (.add (.add (.mul (.a 0) (.a 6)) (.mul (.a 1) (.a 7))) (.mul (.a 2) (.a 8))) (.mul (.a 3) (.a 9))) (.mul (.a 4) (.a 10))) (.mul (.a 5) (.a 11))) (.l 9223372036854775807)))
 (.ret false (.int .i64 (.add (.add (.add (.add (.add (.mul (.a 0) (.a 6)) (.mul (.a 1) (.a 7))) (.mul (.a 2) (.a 8))) (.mul (.a 3) (.a 9))) (.mul (.a 4) (.a 10))) (.mul (.a 5) (.a 11)))) [])))))))))))))
def saleroomref07_Cost_S : Sx.Sys := ⟨[(.sh (.agg [(.int .i64), (.int .i64), (.int .i64), (.int .i64), (.int .i64), (.int .i64)])), (.sh (.agg [(.int .i64), (.int .i64), (.int .i64), (.int .i64), (.int .i64), (.int .i64)]))], saleroomref07_Cost_s, [], none⟩
def saleroomref07_Cost_pats : List Cfg := []
theorem saleroomref07_Cost_ok : SysOk Try.prog 41 saleroomref07_Cost_S := sys_ok (c := (cg [] [] [] false false false true)) (progOkG _ _ _ _ _ _ _) Try.func41 Try.call41 (by kernel_rfl) saleroomref07_Cost_pats saleroomref07_Cost_S 5000 rfl (by kernel_rfl) (by kernel_rfl) rfl
def math_bits_Len_s : PT :=
 (.call 63 [(.int .u64 (.a 0))] [] [(.one (.int .i64))]
 (.ret false (.int .i64 (.a 1)) []))
def math_bits_Len_S : Sx.Sys := ⟨[(.sh (.one (.int .u64)))], math_bits_Len_s, [], none⟩
def math_bits_Len_pats : List Cfg := []
theorem math_bits_Len_ok : SysOk Try.prog 49 math_bits_Len_S := sys_ok (c := (cg [] [] [] false false false true)) (progOkG _ _ _ _ _ _ _) Try.func49 Try.call49 (by kernel_rfl) math_bits_Len_pats math_bits_Len_S 5000 rfl (by kernel_rfl) (by kernel_rfl) rfl
def slices_reverseRangeCmpFunc_api_Offer_s : PT :=
 (.need (.and (.le (.l (-9223372036854775808)) (.sub (.a 1) (.l 1))) (.le (.sub (.a 1) (.l 1)) (.l 9223372036854775807)))
 (.jump 0 [(.a 0), (.sub (.a 1) (.l 1))] [] [(.va 0)]))
def slices_reverseRangeCmpFunc_api_Offer_t0 : PT :=
 (.ite (.lt (.a 0) (.a 1))
  (.need (.and (.le (.l 0) (.a 1)) (.lt (.a 1) (.slen 0)))
  (.need (.and (.le (.l 0) (.a 0)) (.lt (.a 0) (.slen 0)))
  (.load true (.ea 0 (.a 1) 8 0) [(.int .i64), (.int .i64), (.int .i64), (.int .i64), (.int .i64), (.int .i64), (.int .i64), (.int .i64)]
  (.load true (.ea 0 (.a 0) 8 0) [(.int .i64), (.int .i64), (.int .i64), (.int .i64), (.int .i64), (.int .i64), (.int .i64), (.int .i64)]
  (.need (.and (.le (.l 0) (.a 0)) (.lt (.a 0) (.slen 0)))
  (.storeM (.ea 0 (.a 0) 8 0) [(.int .i64 (.a 2)), (.int .i64 (.a 3)), (.int .i64 (.a 4)), (.int .i64 (.a 5)), (.int .i64 (.a 6)), (.int .i64 (.a 7)), (.int .i64 (.a 8)), (.int .i64 (.a 9))]
  (.need (.and (.le (.l 0) (.a 1)) (.lt (.a 1) (.slen 0)))
  (.storeM (.ea 0 (.a 1) 8 0) [(.int .i64 (.a 10)), (.int .i64 (.a 11)), (.int .i64 (.a 12)), (.int .i64 (.a 13)), (.int .i64 (.a 14)), (.int .i64 (.a 15)), (.int .i64 (.a 16)), (.int .i64 (.a 17))]
  (.need (.and (.le (.l (-9223372036854775808)) (.add (.a 0) (.l 1))) (.le (.add (.a 0) (.l 1)) (.l 9223372036854775807)))
  (.need (.and (.le (.l (-9223372036854775808)) (.sub (.a 1) (.l 1))) (.le (.sub (.a 1) (.l 1)) (.l 9223372036854775807)))
  (.jump 0 [(.add (.a 0) (.l 1)), (.sub (.a 1) (.l 1))] [] [(.va 0)])))))))))))
  (.ret false (.tup []) []))
def slices_reverseRangeCmpFunc_api_Offer_S : Sx.Sys := ⟨[(.sh (.one .val)), (.sh (.one (.int .i64))), (.sh (.one (.int .i64))), (.sh (.one .val))], slices_reverseRangeCmpFunc_api_Offer_s, [slices_reverseRangeCmpFunc_api_Offer_t0], none⟩
def slices_reverseRangeCmpFunc_api_Offer_pats : List Cfg := [{ todo := [(.code [false, false, true, true]), (.inLoop [false, false, true, true]), (.inBlock 0)], sl := [(.va 0), (.junk 0), (.junk 1), (.junk 2), .undef, .undef, .undef, .undef, (.int .i64 (.a 0)), (.int .i64 (.a 1)), (.junk 3), (.junk 4), (.junk 5), (.junk 6), (.junk 7), (.junk 8), (.junk 9), (.junk 10), (.junk 11), (.junk 12), (.junk 13), (.junk 14), (.junk 15), (.junk 16), (.junk 17), (.junk 18), (.junk 19), (.junk 20), (.junk 21), (.junk 22), (.junk 23), (.junk 24), (.junk 25), (.junk 26)], H := [], ni := 2, nb := 0, nv := 1, nj := 27 }]
theorem slices_reverseRangeCmpFunc_api_Offer_ok : SysOk Try.prog 58 slices_reverseRangeCmpFunc_api_Offer_S := sys_ok (c := (cg [[false, false, true, true]] [] [] false false false true)) (progOkG _ _ _ _ _ _ _) Try.func58 Try.call58 (by kernel_rfl) slices_reverseRangeCmpFunc_api_Offer_pats slices_reverseRangeCmpFunc_api_Offer_S 5000 rfl (by kernel_rfl) (by kernel_rfl) rfl
end Go.Proofs.Ytggjcdnailppoaa
set_option maxRecDepth 100000
namespace Go.Proofs.Ytggjcdnailppoaa
open Go.Sx
def saleroomlaw40_RelcapConsistent_s : PT :=
 (.need (.is 0 0)
 (.ite (.lt (.l 14) (.slen 0))
  (.call 9 [] [] [(.one .bool)]
  (.ret false (.bool (.a 0)) []))
  (.need (.is 0 1)
  (.ite (.lt (.l 14) (.slen 1))
   (.call 9 [] [] [(.one .bool)]
   (.ret false (.bool (.a 0)) []))
   (.call 15 [(.va 0), (.va 1)] [] [(.one (.int .i64)), (.one (.int .i64))]
   (.ite (.not (.eq (.a 1) (.l 0)))
    (.call 9 [] [] [(.one .bool)]
    (.ret false (.bool (.a 0)) []))
    (.jump 0 [(.l 0)] [(.t true)] [(.va 0), (.va 1), .nilS])))))))
def saleroomlaw40_RelcapConsistent_t0 : PT :=
 (.need (.is 0 0)
 (.ite (.lt (.a 0) (.slen 0))
  (.need (.and (.le (.l 0) (.a 0)) (.lt (.a 0) (.slen 0)))
  (.load false (.ea 0 (.a 0) 12 6) [(.int .i64), (.int .i64), (.int .i64), (.int .i64), (.int .i64), (.int .i64)]
  (.call 22 [(.va 0), (.va 1), (.agg [(.int .i64 (.a 1)), (.int .i64 (.a 2)), (.int .i64 (.a 3)), (.int .i64 (.a 4)), (.int .i64 (.a 5)), (.int .i64 (.a 6))])] [] [(.one (.int .i64))]
  (.need (.and (.le (.l 0) (.a 0)) (.lt (.a 0) (.slen 0)))
  (.need (.and (.le (.l 0) (.a 0)) (.lt (.a 0) (.slen 0)))
  (.load true (.ea 0 (.a 0) 12 0) [(.int .i64), (.int .i64), (.int .i64), (.int .i64), (.int .i64), (.int .i64), (.int .i64), (.int .i64), (.int .i64), (.int .i64), (.int .i64), (.int .i64)]
  (.load true (.ea 0 (.a 0) 12 6) [(.int .i64), (.int .i64), (.int .i64), (.int .i64), (.int .i64), (.int .i64)]
  (.call 23 [(.agg [(.int .i64 (.a 8)), (.int .i64 (.a 9)), (.int .i64 (.a 10)), (.int .i64 (.a 11)), (.int .i64 (.a 12)), (.int .i64 (.a 13)), (.int .i64 (.a 14)), (.int .i64 (.a 15)), (.int .i64 (.a 16)), (.int .i64 (.a 17)), (.int .i64 (.a 18)), (.int .i64 (.a 19))]), (.agg [(.int .i64 (.a 20)), (.int .i64 (.a 21)), (.int .i64 (.a 22)), (.int .i64 (.a 23)), (.int .i64 (.a 24)), (.int .i64 (.a 25))])] [] [(.one (.int .i64))]
  (.need (.and (.le (.l 0) (.a 0)) (.lt (.a 0) (.slen 0)))
  (.load false (.ea 0 (.a 0) 12 6) [(.int .i64), (.int .i64), (.int .i64), (.int .i64), (.int .i64), (.int .i64)]
  (.jump 1 [(.a 0), (.a 7), (.a 26), (.l 0)] [(.a 0), (.and (.eq (.a 27) (.l 0)) (.and (.eq (.a 28) (.l 0)) (.and (.eq (.a 29) (.l 0)) (.and (.eq (.a 30) (.l 0)) (.and (.eq (.a 31) (.l 0)) (.eq (.a 32) (.l 0)))))))] [(.va 0), (.va 1), (.va 2)])))))))))))
  (.ite (.not (.a 0))
   (.call 9 [] [] [(.one .bool)]
   (.ret false (.bool (.a 1)) []))
   (.call 24 [(.va 0)] [] [(.agg [.val, .val]), (.one .bool)]
   (.ite (.a 1)
    (.call 25 [(.va 0), (.agg [.nilS, (.va 2)])] [] [(.one (.int .i64))]
    (.ite (.eq (.a 1) (.l 0))
     (.call 9 [] [] [(.one .bool)]
     (.ret false (.bool (.a 2)) []))
     (.ret false (.bool (.t false)) [])))
    (.ret false (.bool (.t false)) []))))))
def saleroomlaw40_RelcapConsistent_t1 : PT :=
 (.need (.is 0 1)
 (.ite (.lt (.a 3) (.slen 1))
  (.need (.and (.le (.l 0) (.a 3)) (.lt (.a 3) (.slen 1)))
  (.need (.and (.le (.l 0) (.a 0)) (.lt (.a 0) (.slen 0)))
  (.load true (.ea 1 (.a 3) 8 1) [(.int .i64), (.int .i64), (.int .i64), (.int .i64), (.int .i64), (.int .i64)]
  (.load true (.ea 0 (.a 0) 12 6) [(.int .i64), (.int .i64), (.int .i64), (.int .i64), (.int .i64), (.int .i64)]
  (.ite (.not (.and (.eq (.a 4) (.a 10)) (.and (.eq (.a 5) (.a 11)) (.and (.eq (.a 6) (.a 12)) (.and (.eq (.a 7) (.a 13)) (.and (.eq (.a 8) (.a 14)) (.eq (.a 9) (.a 15))))))))
   (.need (.and (.le (.l (-9223372036854775808)) (.sub (.a 1) (.a 2))) (.le (.sub (.a 1) (.a 2)) (.l 9223372036854775807)))
   (.need (.and (.le (.l 0) (.a 3)) (.lt (.a 3) (.slen 1)))
   (.need (.and (.le (.l 0) (.a 0)) (.lt (.a 0) (.slen 0)))
   (.need (.and (.le (.l 0) (.a 3)) (.lt (.a 3) (.slen 1)))
   (.load true (.ea 1 (.a 3) 8 7) [(.int .i64)]
   (.load true (.ea 0 (.a 0) 12 0) [(.int .i64), (.int .i64), (.int .i64), (.int .i64), (.int .i64), (.int .i64), (.int .i64), (.int .i64), (.int .i64), (.int .i64), (.int .i64), (.int .i64)]
   (.load true (.ea 1 (.a 3) 8 1) [(.int .i64), (.int .i64), (.int .i64), (.int .i64), (.int .i64), (.int .i64)]
   (.call 23 [(.agg [(.int .i64 (.a 17)), (.int .i64 (.a 18)), (.int .i64 (.a 19)), (.int .i64 (.a 20)), (.int .i64 (.a 21)), (.int .i64 (.a 22)), (.int .i64 (.a 23)), (.int .i64 (.a 24)), (.int .i64 (.a 25)), (.int .i64 (.a 26)), (.int .i64 (.a 27)), (.int .i64 (.a 28))]), (.agg [(.int .i64 (.a 29)), (.int .i64 (.a 30)), (.int .i64 (.a 31)), (.int .i64 (.a 32)), (.int .i64 (.a 33)), (.int .i64 (.a 34))])] [] [(.one (.int .i64))]
   (.need (.and (.le (.l (-9223372036854775808)) (.sub (.a 16) (.a 35))) (.le (.sub (.a 16) (.a 35)) (.l 9223372036854775807)))
   (.ite (.lt (.sub (.a 1) (.a 2)) (.sub (.a 16) (.a 35)))
    (.ret false (.bool (.t false)) [])
    (.ite (.a 1)
     (.need (.and (.le (.l (-9223372036854775808)) (.add (.a 3) (.l 1))) (.le (.add (.a 3) (.l 1)) (.l 9223372036854775807)))
     (.jump 1 [(.a 0), (.a 1), (.a 2), (.add (.a 3) (.l 1))] [(.a 0), (.t true)] [(.va 0), (.va 1), (.va 2)]))
     (.need (.and (.le (.l 0) (.a 3)) (.lt (.a 3) (.slen 1)))
     (.need (.and (.le (.l 0) (.a 0)) (.lt (.a 0) (.slen 0)))
     (.load true (.ea 1 (.a 3) 8 1) [(.int .i64), (.int .i64), (.int .i64), (.int .i64), (.int .i64), (.int .i64)]
     (.load true (.ea 0 (.a 0) 12 6) [(.int .i64), (.int .i64), (.int .i64), (.int .i64), (.int .i64), (.int .i64)]
     (.ite (.and (.eq (.a 36) (.a 42)) (.and (.eq (.a 37) (.a 43)) (.and (.eq (.a 38) (.a 44)) (.and (.eq (.a 39) (.a 45)) (.and (.eq (.a 40) (.a 46)) (.eq (.a 41) (.a 47)))))))
      (.need (.and (.le (.l 0) (.a 3)) (.lt (.a 3) (.slen 1)))
      (.load true (.ea 1 (.a 3) 8 7) [(.int .i64)]
      (.need (.and (.le (.l (-9223372036854775808)) (.add (.a 3) (.l 1))) (.le (.add (.a 3) (.l 1)) (.l 9223372036854775807)))
      (.jump 1 [(.a 0), (.a 1), (.a 2), (.add (.a 3) (.l 1))] [(.a 0), (.le (.a 1) (.a 48))] [(.va 0), (.va 1), (.va 2)]))))
      (.need (.and (.le (.l (-9223372036854775808)) (.add (.a 3) (.l 1))) (.le (.add (.a 3) (.l 1)) (.l 9223372036854775807)))
      (.jump 1 [(.a 0), (.a 1), (.a 2), (.add (.a 3) (.l 1))] [(.a 0), (.t false)] [(.va 0), (.va 1), (.va 2)]))))))))))))))))))
   (.ite (.a 1)
    (.need (.and (.le (.l (-9223372036854775808)) (.add (.a 3) (.l 1))) (.le (.add (.a 3) (.l 1)) (.l 9223372036854775807)))
    (.jump 1 [(.a 0), (.a 1), (.a 2), (.add (.a 3) (.l 1))] [(.a 0), (.t true)] [(.va 0), (.va 1), (.va 2)]))
    (.need (.and (.le (.l 0) (.a 3)) (.lt (.a 3) (.slen 1)))
    (.need (.and (.le (.l 0) (.a 0)) (.lt (.a 0) (.slen 0)))
    (.load true (.ea 1 (.a 3) 8 1) [(.int .i64), (.int .i64), (.int .i64), (.int .i64), (.int .i64), (.int .i64)]
    (.load true (.ea 0 (.a 0) 12 6) [(.int .i64), (.int .i64), (.int .i64), (.int .i64), (.int .i64), (.int .i64)]
    (.ite (.and (.eq (.a 16) (.a 22)) (.and (.eq (.a 17) (.a 23)) (.and (.eq (.a 18) (.a 24)) (.and (.eq (.a 19) (.a 25)) (.and (.eq (.a 20) (.a 26)) (.eq (.a 21) (.a 27)))))))
     (.need (.and (.le (.l 0) (.a 3)) (.lt (.a 3) (.slen 1)))
     (.load true (.ea 1 (.a 3) 8 7) [(.int .i64)]
     (.need (.and (.le (.l (-9223372036854775808)) (.add (.a 3) (.l 1))) (.le (.add (.a 3) (.l 1)) (.l 9223372036854775807)))
     (.jump 1 [(.a 0), (.a 1), (.a 2), (.add (.a 3) (.l 1))] [(.a 0), (.le (.a 1) (.a 28))] [(.va 0), (.va 1), (.va 2)]))))
     (.need (.and (.le (.l (-9223372036854775808)) (.add (.a 3) (.l 1))) (.le (.add (.a 3) (.l 1)) (.l 9223372036854775807)))
     (.jump 1 [(.a 0), (.a 1), (.a 2), (.add (.a 3) (.l 1))] [(.a 0), (.t false)] [(.va 0), (.va 1), (.va 2)])))))))))))))
  (.ite (.a 0)
   (.app none (.lit [[(.int .i64 (.a 1))]]) 1
   (.app (some 2) (.va 3) 1
   (.need (.and (.le (.l (-9223372036854775808)) (.add (.a 0) (.l 1))) (.le (.add (.a 0) (.l 1)) (.l 9223372036854775807)))
   (.jump 0 [(.add (.a 0) (.l 1))] [(.a 1)] [(.va 0), (.va 1), (.va 4)]))))
   (.app none (.lit [[(.int .i64 (.a 1))]]) 1
   (.app (some 2) (.va 3) 1
   (.need (.and (.le (.l (-9223372036854775808)) (.add (.a 0) (.l 1))) (.le (.add (.a 0) (.l 1)) (.l 9223372036854775807)))
   (.jump 0 [(.add (.a 0) (.l 1))] [(.t false)] [(.va 0), (.va 1), (.va 4)])))))))
def saleroomlaw40_RelcapConsistent_S : Sx.Sys := ⟨[(.sh (.one .val)), (.sh (.one .val))], saleroomlaw40_RelcapConsistent_s, [saleroomlaw40_RelcapConsistent_t0, saleroomlaw40_RelcapConsistent_t1], none⟩
def saleroomlaw40_RelcapConsistent_pats : List Cfg := [{ todo := [(.code [false, false, true, false, true, true, true, true, true]), (.inLoop [false, false, true, false, true, true, true, true, true]), (.inBlock 0), (.code [true, true, true, true, true, true])], sl := [(.va 0), (.va 1), .undef, .undef, (.junk 0), (.junk 1), (.junk 2), (.va 2), (.bool (.a 0)), (.int .i64 (.a 0)), (.junk 3), (.junk 4), (.junk 5), (.junk 6), .undef, .undef, (.junk 7), (.junk 8), (.junk 9), (.junk 10), (.junk 11), (.junk 12), (.junk 13), (.junk 14), .undef, (.junk 15), (.junk 16), (.junk 17), (.junk 18), (.junk 19), (.junk 20), (.junk 21), (.junk 22), .undef, (.junk 23), (.junk 24), (.junk 25), (.junk 26), (.junk 27), (.junk 28), (.junk 29), (.junk 30), (.junk 31), (.junk 32), (.junk 33), (.junk 34), (.junk 35), (.junk 36), (.junk 37), (.junk 38), (.junk 39), (.junk 40), (.junk 41), (.junk 42), (.junk 43), (.junk 44), (.junk 45), (.junk 46), (.junk 47), (.junk 48), (.junk 49), (.junk 50), (.junk 51), (.junk 52), (.junk 53), (.junk 54), (.junk 55), (.junk 56), (.junk 57), (.junk 58), (.junk 59), (.junk 60), (.junk 61), (.junk 62), (.junk 63), (.junk 64), (.junk 65), (.junk 66), (.junk 67), (.junk 68), (.junk 69), (.junk 70), (.junk 71), (.junk 72), (.junk 73), (.junk 74), (.junk 75), (.junk 76), (.junk 77), (.junk 78), (.junk 79), (.junk 80), (.junk 81), (.junk 82), (.junk 83), (.junk 84), (.junk 85), (.junk 86), (.junk 87), (.junk 88), (.junk 89), (.junk 90), (.junk 91), (.junk 92), (.junk 93), (.junk 94), (.junk 95), (.junk 96), (.junk 97), (.junk 98), (.junk 99), (.junk 100), (.junk 101), (.junk 102), (.junk 103), (.junk 104), (.junk 105), (.junk 106), (.junk 107), (.junk 108), (.junk 109), (.junk 110), (.junk 111), (.junk 112), (.junk 113), (.junk 114), (.junk 115), (.junk 116), (.junk 117), (.junk 118), (.junk 119), (.junk 120), (.junk 121), (.junk 122), (.junk 123), .undef, .undef, .undef, .undef, .undef, .undef, .undef, .undef, .undef, .undef, .undef, .undef, .undef, .undef, .undef, .undef, .undef, .undef, .undef], H := [(.row 2 2 1)], ni := 1, nb := 1, nv := 3, nj := 124 },
 { todo := [(.code [false, false, true, false, true, true, true, false, false, true, false, false, true, false, true, true, true, true, true]), (.inLoop [false, false, true, false, true, true, true, false, false, true, false, false, true, false, true, true, true, true, true]), (.inBlock 2), (.code [true, true, true, true, false, false, true, false, false, true, false, true, true, true, true, true]), (.inBlock 1), (.code [true, true, false, false, true, false, true, true, true, true, true]), (.inLoop [false, false, true, false, true, true, true, true, true]), (.inBlock 0), (.code [true, true, true, true, true, true])], sl := [(.va 0), (.va 1), .undef, .undef, (.junk 0), (.junk 1), (.junk 2), (.va 2), (.bool (.a 0)), (.int .i64 (.a 0)), (.int .i64 (.a 1)), (.int .i64 (.a 2)), (.bool (.a 1)), (.int .i64 (.a 3)), .undef, .undef, (.junk 3), (.junk 4), (.junk 5), (.junk 6), (.junk 7), (.junk 8), (.junk 9), (.junk 10), .undef, (.junk 11), (.junk 12), (.junk 13), (.junk 14), (.junk 15), (.junk 16), (.junk 17), (.junk 18), .undef, (.junk 19), (.junk 20), (.junk 21), (.junk 22), (.junk 23), (.junk 24), (.junk 25), (.junk 26), (.junk 27), (.junk 28), (.junk 29), (.junk 30), (.junk 31), (.junk 32), (.junk 33), (.junk 34), (.junk 35), (.junk 36), (.junk 37), (.junk 38), (.junk 39), (.junk 40), (.junk 41), (.junk 42), (.junk 43), (.junk 44), (.junk 45), (.junk 46), (.junk 47), (.junk 48), (.junk 49), (.junk 50), (.junk 51), (.junk 52), (.junk 53), (.junk 54), (.junk 55), (.junk 56), (.junk 57), (.junk 58), (.junk 59), (.junk 60), (.junk 61), (.junk 62), (.junk 63), (.junk 64), (.junk 65), (.junk 66), (.junk 67), (.junk 68), (.junk 69), (.junk 70), (.junk 71), (.junk 72), (.junk 73), (.junk 74), (.junk 75), (.junk 76), (.junk 77), (.junk 78), (.junk 79), (.junk 80), (.junk 81), (.junk 82), (.junk 83), (.junk 84), (.junk 85), (.junk 86), (.junk 87), (.junk 88), (.junk 89), (.junk 90), (.junk 91), (.junk 92), (.junk 93), (.junk 94), (.junk 95), (.junk 96), (.junk 97), (.junk 98), (.junk 99), (.junk 100), (.junk 101), (.junk 102), (.junk 103), (.junk 104), (.junk 105), (.junk 106), (.junk 107), (.junk 108), (.junk 109), (.junk 110), (.junk 111), (.junk 112), (.junk 113), (.junk 114), (.junk 115), (.junk 116), (.junk 117), (.junk 118), (.junk 119), .undef, .undef, .undef, .undef, .undef, .undef, .undef, .undef, .undef, .undef, .undef, .undef, .undef, .undef, .undef, .undef, .undef, .undef, .undef], H := [(.row 2 2 1)], ni := 4, nb := 2, nv := 3, nj := 120 }]
theorem saleroomlaw40_RelcapConsistent_ok : SysOk Try.prog 8 saleroomlaw40_RelcapConsistent_S := sys_ok (c := (cg [[false, false, true, false, true, true, true, true, true], [false, false, true, false, true, true, true, false, false, true, false, false, true, false, true, true, true, true, true]] [] [] false false false true)) (progOkG _ _ _ _ _ _ _) Try.func8 Try.call8 (by kernel_rfl) saleroomlaw40_RelcapConsistent_pats saleroomlaw40_RelcapConsistent_S 5000 rfl (by kernel_rfl) (by kernel_rfl) rfl
def saleroomref40_Right_s : PT :=
 (.call 17 [(.agg [(.int .i64 (.a 1)), (.int .i64 (.a 2)), (.int .i64 (.a 3)), (.int .i64 (.a 4)), (.int .i64 (.a 5)), (.int .i64 (.a 6))])] [] [(.one (.int .i64))]
 (.ite (.eq (.a 8) (.l 0))
  (.ite (.not (.and (.eq (.a 1) (.l 0)) (.and (.eq (.a 2) (.l 0)) (.and (.eq (.a 3) (.l 0)) (.and (.eq (.a 4) (.l 0)) (.and (.eq (.a 5) (.l 0)) (.eq (.a 6) (.l 0))))))))
   (.ite (.le (.l 1) (.a 7))
    (.ret false (.bool (.le (.a 7) (.l 1000000))) [])
    (.ret false (.bool (.t false)) []))
   (.ret false (.bool (.t false)) []))
  (.ret false (.bool (.t false)) [])))
def saleroomref40_Right_S : Sx.Sys := ⟨[(.sh (.agg [(.int .i64), (.int .i64), (.int .i64), (.int .i64), (.int .i64), (.int .i64), (.int .i64), (.int .i64)]))], saleroomref40_Right_s, [], none⟩
def saleroomref40_Right_pats : List Cfg := []
theorem saleroomref40_Right_ok : SysOk Try.prog 16 saleroomref40_Right_S := sys_ok (c := (cg [] [] [] false false false true)) (progOkG _ _ _ _ _ _ _) Try.func16 Try.call16 (by kernel_rfl) saleroomref40_Right_pats saleroomref40_Right_S 5000 rfl (by kernel_rfl) (by kernel_rfl) rfl
def revealed_Verify_s : PT :=
 (.call 42 [(.va 0)] [] [(.one .bool)]
 (.ite (.not (.a 0))
  (.ret false (.int .i64 (.l 4)) [])
  (.call 44 [(.va 0), (.agg [(.va 1), (.va 2)])] [] [(.one .bool)]
  (.ite (.not (.a 1))
   (.ret false (.int .i64 (.l 2)) [])
   (.need (.is 0 1)
   (.ite (.eq (.slen 1) (.l 0))
    (.call 45 [(.va 0), (.va 2)] [] [(.one .bool)]
    (.ite (.not (.a 2))
     (.ret false (.int .i64 (.l 13)) [])
     (.ret false (.int .i64 (.l 0)) [])))
    (.need (.is 0 1)
    (.jump 0 [(.l 0), (.slen 1), (.l 0)] [] [(.va 0), (.va 1), (.va 2)]))))))))
def revealed_Verify_t0 : PT :=
 (.ite (.lt (.a 2) (.a 1))
  (.need (.and (.le (.l 0) (.a 2)) (.lt (.a 2) (.slen 1)))
  (.load false (.ea 1 (.a 2) 1 0) [(.int .i64)]
  (.need (.and (.le (.l 0) (.a 3)) (.lt (.a 3) (.slen 0)))
  (.need (.and (.le (.l (-9223372036854775808)) (.add (.a 2) (.l 1))) (.le (.add (.a 2) (.l 1)) (.l 9223372036854775807)))
  (.need (.is 0 1)
  (.need (.not (.eq (.slen 1) (.l 0)))
  (.need (.and (.le (.l 0) (.tmod (.add (.a 2) (.l 1)) (.slen 1))) (.lt (.tmod (.add (.a 2) (.l 1)) (.slen 1)) (.slen 1)))
  (.load true (.ea 0 (.a 3) 12 0) [(.int .i64), (.int .i64), (.int .i64), (.int .i64), (.int .i64), (.int .i64), (.int .i64), (.int .i64), (.int .i64), (.int .i64), (.int .i64), (.int .i64)]
  (.load true (.ea 1 (.tmod (.add (.a 2) (.l 1)) (.slen 1)) 1 0) [(.int .i64)]
  (.need (.and (.le (.l 0) (.a 16)) (.lt (.a 16) (.slen 0)))
  (.load true (.ea 0 (.a 16) 12 0) [(.int .i64), (.int .i64), (.int .i64), (.int .i64), (.int .i64), (.int .i64), (.int .i64), (.int .i64), (.int .i64), (.int .i64), (.int .i64), (.int .i64)]
  (.call 46 [(.agg [(.int .i64 (.a 4)), (.int .i64 (.a 5)), (.int .i64 (.a 6)), (.int .i64 (.a 7)), (.int .i64 (.a 8)), (.int .i64 (.a 9)), (.int .i64 (.a 10)), (.int .i64 (.a 11)), (.int .i64 (.a 12)), (.int .i64 (.a 13)), (.int .i64 (.a 14)), (.int .i64 (.a 15))]), (.agg [(.int .i64 (.a 17)), (.int .i64 (.a 18)), (.int .i64 (.a 19)), (.int .i64 (.a 20)), (.int .i64 (.a 21)), (.int .i64 (.a 22)), (.int .i64 (.a 23)), (.int .i64 (.a 24)), (.int .i64 (.a 25)), (.int .i64 (.a 26)), (.int .i64 (.a 27)), (.int .i64 (.a 28))])] [] [(.one (.int .i64))]
  (.need (.and (.le (.l (-9223372036854775808)) (.add (.a 0) (.a 29))) (.le (.add (.a 0) (.a 29)) (.l 9223372036854775807)))
  (.need (.and (.le (.l (-9223372036854775808)) (.add (.a 2) (.l 1))) (.le (.add (.a 2) (.l 1)) (.l 9223372036854775807)))
  (.jump 0 [(.add (.a 0) (.a 29)), (.a 1), (.add (.a 2) (.l 1))] [] [(.va 0), (.va 1), (.va 2)])))))))))))))))
  (.ite (.le (.l 0) (.a 0))
   (.ret false (.int .i64 (.l 13)) [])
   (.ret false (.int .i64 (.l 0)) [])))
def revealed_Verify_S : Sx.Sys := ⟨[(.sh (.one .val)), (.sh (.agg [.val, .val]))], revealed_Verify_s, [revealed_Verify_t0], none⟩
def revealed_Verify_pats : List Cfg := [{ todo := [(.code [false, false, true, false, true, true, true, true, true]), (.inLoop [false, false, true, false, true, true, true, true, true]), (.inBlock 0), (.code [true, true, true, true, true, true])], sl := [(.va 0), (.junk 0), .undef, (.ptr 0 0), (.junk 1), (.int .i64 (.a 0)), (.junk 2), (.junk 3), (.junk 4), (.junk 5), (.junk 6), (.junk 7), (.junk 8), (.junk 9), (.junk 10), (.junk 11), (.junk 12), (.junk 13), (.junk 14), .undef, .undef, .undef, .undef, .undef, (.junk 15), (.va 1), (.int .i64 (.a 1)), (.int .i64 (.a 2)), (.junk 16), (.junk 17), (.junk 18), (.junk 19), (.junk 20), (.junk 21), (.junk 22), (.junk 23), (.junk 24), (.junk 25), (.junk 26), (.junk 27), (.junk 28), (.junk 29), (.junk 30), (.junk 31), (.junk 32), (.junk 33), (.junk 34), (.junk 35), (.junk 36), (.junk 37), (.junk 38), (.junk 39), (.junk 40), .undef, .undef], H := [(.cells [(.va 1), (.va 2)] 50 false)], ni := 3, nb := 0, nv := 3, nj := 41 }]
theorem revealed_Verify_ok : SysOk Try.prog 25 revealed_Verify_S := sys_ok (c := (cg [[false, false, true, false, true, true, true, true, true]] [] [] false false false true)) (progOkG _ _ _ _ _ _ _) Try.func25 Try.call25 (by kernel_rfl) revealed_Verify_pats revealed_Verify_S 5000 rfl (by kernel_rfl) (by kernel_rfl) rfl
def saleroomref07_Compare_s : PT :=
 (.ite (.lt (.a 0) (.a 6))
  (.ret false (.int .i64 (.l (-1))) [])
  (.ite (.lt (.a 6) (.a 0))
   (.ret false (.int .i64 (.l 1)) [])
   (.ite (.lt (.a 1) (.a 7))
    (.ret false (.int .i64 (.l (-1))) [])
    (.ite (.lt (.a 7) (.a 1))
     (.ret false (.int .i64 (.l 1)) [])
     (.ite (.lt (.a 2) (.a 8))
      (.ret false (.int .i64 (.l (-1))) [])
      (.ite (.lt (.a 8) (.a 2))
       (.ret false (.int .i64 (.l 1)) [])
       (.ite (.lt (.a 3) (.a 9))
        (.ret false (.int .i64 (.l (-1))) [])
        (.ite (.lt (.a 9) (.a 3))
         (.ret false (.int .i64 (.l 1)) [])
         (.ite (.lt (.a 4) (.a 10))
          (.ret false (.int .i64 (.l (-1))) [])
          (.ite (.lt (.a 10) (.a 4))
           (.ret false (.int .i64 (.l 1)) [])
           (.ite (.lt (.a 5) (.a 11))
            (.ret false (.int .i64 (.l (-1))) [])
            (.ite (.lt (.a 11) (.a 5))
             (.ret false (.int .i64 (.l 1)) [])
             (.ret false (.int .i64 (.l 0)) [])))))))))))))
def saleroomref07_Compare_S : Sx.Sys := ⟨[(.sh (.agg [(.int .i64), (.int .i64), (.int .i64), (.int .i64), (.int .i64), (.int .i64)])), (.sh (.agg [(.int .i64), (.int .i64), (.int .i64), (.int .i64), (.int .i64), (.int .i64)]))], saleroomref07_Compare_s, [], none⟩
def saleroomref07_Compare_pats : List Cfg := []
theorem saleroomref07_Compare_ok : SysOk Try.prog 33 saleroomref07_Compare_S := sys_ok (c := (cg [] [] [] false false false true)) (progOkG _ _ _ _ _ _ _) Try.func33 Try.call33 (by kernel_rfl) saleroomref07_Compare_pats saleroomref07_Compare_S 5000 rfl (by kernel_rfl) (by kernel_rfl) rfl
def revealed_allValid_s : PT :=
 (.need (.is 0 0)
 (.jump 0 [(.slen 0), (.l 0)] [] [(.va 0)]))
def revealed_allValid_t0 : PT :=
 (.ite (.lt (.a 1) (.a 0))
  (.need (.and (.le (.l 0) (.a 1)) (.lt (.a 1) (.slen 0)))
  (.load false (.ea 0 (.a 1) 12 0) [(.int .i64), (.int .i64), (.int .i64), (.int .i64), (.int .i64), (.int .i64), (.int .i64), (.int .i64), (.int .i64), (.int .i64), (.int .i64), (.int .i64)]
  (.call 52 [(.agg [(.int .i64 (.a 2)), (.int .i64 (.a 3)), (.int .i64 (.a 4)), (.int .i64 (.a 5)), (.int .i64 (.a 6)), (.int .i64 (.a 7)), (.int .i64 (.a 8)), (.int .i64 (.a 9)), (.int .i64 (.a 10)), (.int .i64 (.a 11)), (.int .i64 (.a 12)), (.int .i64 (.a 13))])] [] [(.one .bool)]
  (.ite (.not (.a 0))
   (.ret false (.bool (.t false)) [])
   (.need (.and (.le (.l (-9223372036854775808)) (.add (.a 1) (.l 1))) (.le (.add (.a 1) (.l 1)) (.l 9223372036854775807)))
   (.jump 0 [(.a 0), (.add (.a 1) (.l 1))] [] [(.va 0)]))))))
  (.ret false (.bool (.t true)) []))
def revealed_allValid_S : Sx.Sys := ⟨[(.sh (.one .val))], revealed_allValid_s, [revealed_allValid_t0], none⟩
def revealed_allValid_pats : List Cfg := [{ todo := [(.code [false, false, true, false, true]), (.inLoop [false, false, true, false, true]), (.inBlock 0), (.code [true, true])], sl := [(.junk 0), .undef, (.junk 1), .undef, (.junk 2), (.va 0), (.int .i64 (.a 0)), (.int .i64 (.a 1)), (.junk 3), (.junk 4), (.junk 5), (.junk 6), (.junk 7), (.junk 8), (.junk 9)], H := [], ni := 2, nb := 0, nv := 1, nj := 10 }]
theorem revealed_allValid_ok : SysOk Try.prog 42 revealed_allValid_S := sys_ok (c := (cg [[false, false, true, false, true]] [] [] false false false true)) (progOkG _ _ _ _ _ _ _) Try.func42 Try.call42 (by kernel_rfl) revealed_allValid_pats revealed_allValid_S 5000 rfl (by kernel_rfl) (by kernel_rfl) rfl
def relcap_finals_1_s : PT :=
 (.load false (.pa 0 0) [.val]
 (.need (.is 0 2)
 (.jump 0 [(.l 0), (.slen 2), (.l 0), (.a 0), (.a 1), (.a 2), (.a 3), (.a 4), (.a 5)] [] [(.va 1), (.va 2)])))
def relcap_finals_1_t0 : PT :=
 (.ite (.lt (.a 2) (.a 1))
  (.need (.and (.le (.l 0) (.a 2)) (.lt (.a 2) (.slen 1)))
  (.load false (.ea 1 (.a 2) 12 0) [(.int .i64), (.int .i64), (.int .i64), (.int .i64), (.int .i64), (.int .i64), (.int .i64), (.int .i64), (.int .i64), (.int .i64), (.int .i64), (.int .i64)]
  (.ite (.and (.eq (.a 15) (.a 3)) (.and (.eq (.a 16) (.a 4)) (.and (.eq (.a 17) (.a 5)) (.and (.eq (.a 18) (.a 6)) (.and (.eq (.a 19) (.a 7)) (.eq (.a 20) (.a 8)))))))
   (.call 27 [(.agg [(.int .i64 (.a 9)), (.int .i64 (.a 10)), (.int .i64 (.a 11)), (.int .i64 (.a 12)), (.int .i64 (.a 13)), (.int .i64 (.a 14))]), (.agg [(.int .i64 (.a 3)), (.int .i64 (.a 4)), (.int .i64 (.a 5)), (.int .i64 (.a 6)), (.int .i64 (.a 7)), (.int .i64 (.a 8))])] [] [(.one (.int .i64))]
   (.need (.and (.le (.l (-9223372036854775808)) (.add (.a 2) (.l 1))) (.le (.add (.a 2) (.l 1)) (.l 9223372036854775807)))
   (.jump 0 [(.mx (.a 0) (.a 21)), (.a 1), (.add (.a 2) (.l 1)), (.a 3), (.a 4), (.a 5), (.a 6), (.a 7), (.a 8)] [] [(.va 0), (.va 1)])))
   (.need (.and (.le (.l (-9223372036854775808)) (.add (.a 2) (.l 1))) (.le (.add (.a 2) (.l 1)) (.l 9223372036854775807)))
   (.jump 0 [(.a 0), (.a 1), (.add (.a 2) (.l 1)), (.a 3), (.a 4), (.a 5), (.a 6), (.a 7), (.a 8)] [] [(.va 0), (.va 1)])))))
  (.load false (.pa 0 0) [.val]
  (.need (.is 0 2)
  (.jump 1 [(.a 0), (.slen 2), (.l 0), (.a 3), (.a 4), (.a 5), (.a 6), (.a 7), (.a 8)] [] [(.va 2)]))))
def relcap_finals_1_t1 : PT :=
 (.ite (.lt (.a 2) (.a 1))
  (.need (.and (.le (.l 0) (.a 2)) (.lt (.a 2) (.slen 0)))
  (.load false (.ea 0 (.a 2) 8 0) [(.int .i64), (.int .i64), (.int .i64), (.int .i64), (.int .i64), (.int .i64), (.int .i64), (.int .i64)]
  (.ite (.and (.eq (.a 10) (.a 3)) (.and (.eq (.a 11) (.a 4)) (.and (.eq (.a 12) (.a 5)) (.and (.eq (.a 13) (.a 6)) (.and (.eq (.a 14) (.a 7)) (.eq (.a 15) (.a 8)))))))
   (.need (.and (.le (.l (-9223372036854775808)) (.add (.a 2) (.l 1))) (.le (.add (.a 2) (.l 1)) (.l 9223372036854775807)))
   (.jump 1 [(.mx (.a 0) (.a 16)), (.a 1), (.add (.a 2) (.l 1)), (.a 3), (.a 4), (.a 5), (.a 6), (.a 7), (.a 8)] [] [(.va 0)]))
   (.need (.and (.le (.l (-9223372036854775808)) (.add (.a 2) (.l 1))) (.le (.add (.a 2) (.l 1)) (.l 9223372036854775807)))
   (.jump 1 [(.a 0), (.a 1), (.add (.a 2) (.l 1)), (.a 3), (.a 4), (.a 5), (.a 6), (.a 7), (.a 8)] [] [(.va 0)])))))
  (.ret true (.int .i64 (.a 0)) []))
def relcap_finals_1_S : Sx.Sys := ⟨[(.sh (.agg [(.int .i64), (.int .i64), (.int .i64), (.int .i64), (.int .i64), (.int .i64)])), .ptr, .ptr], relcap_finals_1_s, [relcap_finals_1_t0, relcap_finals_1_t1], none⟩
def relcap_finals_1_pats : List Cfg := [{ todo := [(.code [false, false, true, false, true, true]), (.inLoop [false, false, true, false, true, true]), (.inBlock 0), (.code [true, true, true])], sl := [(.junk 0), (.junk 1), (.pa 0 0), (.ptr 0 0), (.junk 2), (.int .i64 (.a 0)), .undef, (.junk 3), .undef, .undef, (.va 1), (.int .i64 (.a 1)), (.int .i64 (.a 2)), (.junk 4), (.junk 5), (.junk 6), (.junk 7), (.junk 8), (.junk 9), (.junk 10), (.junk 11), (.junk 12), (.junk 13), (.junk 14), (.junk 15), (.junk 16), (.junk 17), .undef, .undef, .undef, .undef, .undef, .undef, .undef, .undef, .undef, .undef, .undef, .undef, .undef, .undef, .undef, .undef], H := [(.cells [(.int .i64 (.a 3)), (.int .i64 (.a 4)), (.int .i64 (.a 5)), (.int .i64 (.a 6)), (.int .i64 (.a 7)), (.int .i64 (.a 8))] 29 false)], ni := 9, nb := 0, nv := 2, nj := 18 },
 { todo := [(.code [false, false, true, false, true, true, true]), (.inLoop [false, false, true, false, true, true, true]), (.inBlock 2), (.code [true, true, true, true])], sl := [(.junk 0), (.junk 1), (.junk 2), (.ptr 0 0), (.junk 3), (.int .i64 (.a 0)), .undef, (.junk 4), .undef, (.junk 5), (.junk 6), (.junk 7), (.junk 8), (.junk 9), (.junk 10), (.junk 11), (.junk 12), (.junk 13), (.junk 14), (.junk 15), (.junk 16), (.junk 17), (.junk 18), (.junk 19), (.junk 20), (.junk 21), (.junk 22), (.va 0), (.int .i64 (.a 1)), (.int .i64 (.a 2)), (.junk 23), (.junk 24), (.junk 25), (.junk 26), (.junk 27), (.junk 28), (.junk 29), (.junk 30), (.junk 31), (.junk 32), (.junk 33), (.junk 34), .undef], H := [(.cells [(.int .i64 (.a 3)), (.int .i64 (.a 4)), (.int .i64 (.a 5)), (.int .i64 (.a 6)), (.int .i64 (.a 7)), (.int .i64 (.a 8))] 29 false)], ni := 9, nb := 0, nv := 1, nj := 35 }]
theorem relcap_finals_1_ok : SysOk Try.prog 50 relcap_finals_1_S := sys_ok (c := (cg [[false, false, true, false, true, true], [false, false, true, false, true, true, true]] [] [] true true false true)) (progOkG _ _ _ _ _ _ _) Try.func50 Try.call50 (by kernel_rfl) relcap_finals_1_pats relcap_finals_1_S 5000 rfl (by kernel_rfl) (by kernel_rfl) rfl
def math_bits_Len32_s : PT :=
 (.ite (.le (.l 65536) (.a 0))
  .stuck
  (.ite (.le (.l 256) (.a 0))
   .stuck
   (.need (.and (.le (.l 0) (.a 0)) (.le (.a 0) (.l 255)))
   (.need (.and (.le (.l 0) (.a 0)) (.lt (.a 0) (.l 256)))
   (.need (.and (.le (.l (-9223372036854775808)) (.ifeq (.a 0) (.l 0) (.l 0) (.ifeq (.a 0) (.l 1) (.l 1) (.ifeq (.a 0) (.l 2) (.l 2) (.ifeq (.a 0) (.l 3) (.l 2) (.ifeq (.a 0) (.l 4) (.l 3) (.ifeq (.a 0) (.l 5) (.l 3) (.ifeq (.a 0) (.l 6) (.l 3) (.ifeq (.a 0) (.l 7) (.l 3) (.ifeq (.a 0) (.l 8) (.l 4) (.ifeq (.a 0) (.l 9) (.l 4) (.ifeq (.a 0) (.l 10) (.l 4) (.ifeq (.a 0) (.l 11) (.l 4) (.ifeq (.a 0) (.l 12) (.l 4) (.ifeq (.a 0) (.l 13) (.l 4) (.ifeq (.a 0) (.l 14) (.l 4) (.ifeq (.a 0) (.l 15) (.l 4) (.ifeq (.a 0) (.l 16) (.l 5) (.ifeq (.a 0) (.l 17) (.l 5) (.ifeq (.a 0) (.l 18) (.l 5) (.ifeq (.a 0) (.l 19) (.l 5) (.ifeq (.a 0) (.l 20) (.l 5) (.ifeq (.a 0) (.l 21) (.l 5) (.ifeq (.a 0) (.l 22) (.l 5) (.ifeq (.a 0) (.l 23) (.l 5) (.ifeq (.a 0) (.l 24) (.l 5) (.ifeq (.a 0) (.l 25) (.l 5) (.ifeq (.a 0) (.l 26) (.l 5) (.ifeq (.a 0) (.l 27) (.l 5) (.ifeq (.a 0) (.l 28) (.l 5) (.ifeq (.a 0) (.l 29) (.l 5) (.ifeq (.a 0) (.l 30) (.l 5) (.ifeq (.a 0) (.l 31) (.l 5) (.ifeq (.a 0) (.l 32) (.l 6) (.ifeq (.a 0) (.l 33) (.l 6) (.ifeq (.a 0) (.l 34) (.l 6) (.ifeq (.a 0) (.l 35) (.l 6) (.ifeq (.a 0) (.l 36) (.l 6) (.ifeq (.a 0) (.l 37) (.l 6) (.ifeq (.a 0) (.l 38) (.l 6) (.ifeq (.a 0) (.l 39) (.l 6) (.ifeq (.a 0) (.l 40) (.l 6) (.ifeq (.a 0) (.l 41) (.l 6) (.ifeq (.a 0) (.l 42) (.l 6) (.ifeq (.a 0) (.l 43) (.l 6) (.ifeq (.a 0) (.l 44) (.l 6) (.ifeq (.a 0) (.l 45) (.l 6) (.ifeq (.a 0) (.l 46) (.l 6) (.ifeq (.a 0) (.l 47) (.l 6) (.ifeq (.a 0) (.l 48) (.l 6) (.ifeq (.a 0) (.l 49) (.l 6) (.ifeq (.a 0) (.l 50) (.l 6) (.ifeq (.a 0) (.l 51) (.l 6) (.ifeq (.a 0) (.l 52) (.l 6) (.ifeq (.a 0) (.l 53) (.l 6) (.ifeq (.a 0) (.l 54) (.l 6) (.ifeq (.a 0) (.l 55) (.l 6) (.ifeq (.a 0) (.l 56) (.l 6) (.ifeq (.a 0) (.l 57) (.l 6) (.ifeq (.a 0) (.l 58) (.l 6) (.ifeq (.a 0) (.l 59) (.l 6) (.ifeq (.a 0) (.l 60) (.l 6) (.ifeq (.a 0) (.l 61) (.l 6) (.ifeq (.a 0) (.l 62) (.l 6) (.ifeq (.a 0) (.l 63) (.l 6) (.ifeq (.a 0) (.l 64) (.l 7) (.ifeq (.a 0) (.l 65) (.l 7) (.ifeq (.a 0) (.l 66) (.l 7) (.ifeq (.a 0) (.l 67) (.l 7) (.ifeq (.a 0) (.l 68) (.l 7) (.ifeq (.a 0) (.l 69) (.l 7) (.ifeq (.a 0) (.l 70) (.l 7) (.ifeq (.a 0) (.l 71) (.l 7) (.ifeq (.a 0) (.l 72) (.l 7) (.ifeq (.a 0) (.l 73) (.l 7) (.ifeq (.a 0) (.l 74) (.l 7) (.ifeq (.a 0) (.l 75) (.l 7) (.ifeq (.a 0) (.l 76) (.l 7) (.ifeq (.a 0) (.l 77) (.l 7) (.ifeq (.a 0) (.l 78) (.l 7) (.ifeq (.a 0) (.l 79) (.l 7) (.ifeq (.a 0) (.l 80) (.l 7) (.ifeq (.a 0) (.l 81) (.l 7) (.ifeq (.a 0) (.l 82) (.l 7) (.ifeq (.a 0) (.l 83) (.l 7) (.ifeq (.a 0) (.l 84) (.l 7) (.ifeq (.a 0) (.l 85) (.l 7) (.ifeq (.a 0) (.l 86) (.l 7) (.ifeq (.a 0) (.l 87) (.l 7) (.ifeq (.a 0) (.l 88) (.l 7) (.ifeq (.a 0) (.l 89) (.l 7) (.ifeq (.a 0) (.l 90) (.l 7) (.ifeq (.a 0) (.l 91) (.l 7) (.ifeq (.a 0) (.l 92) (.l 7) (.ifeq (.a 0) (.l 93) (.l 7) (.ifeq (.a 0) (.l 94) (.l 7) (.ifeq (.a 0) (.l 95) (.l 7) (.ifeq (.a 0) (.l 96) (.l 7) (.ifeq (.a 0) (.l 97) (.l 7) (.ifeq (.a 0) (.l 98) (.l 7) (.ifeq (.a 0) (.l 99) (.l 7) (.ifeq (.a 0) (.l 100) (.l 7) (.ifeq (.a 0) (.l 101) (.l 7) (.ifeq (.a 0) (.l 102) (.l 7) (.ifeq (.a 0) (.l 103) (.l 7) (.ifeq (.a 0) (.l 104) (.l 7) (.ifeq (.a 0) (.l 105) (.l 7) (.ifeq (.a 0) (.l 106) (.l 7) (.ifeq (.a 0) (.l 107) (.l 7) (.ifeq (.a 0) (.l 108) (.l 7) (.ifeq (.a 0) (.l 109) (.l 7) (.ifeq (.a 0) (.l 110) (.l 7) (.ifeq (.a 0) (.l 111) (.l 7) (.ifeq (.a 0) (.l 112) (.l 7) (.ifeq (.a 0) (.l 113) (.l 7) (.ifeq (.a 0) (.l 114) (.l 7) (.ifeq (.a 0) (.l 115) (.l 7) (.ifeq (.a 0) (.l 116) (.l 7) (.ifeq (.a 0) (.l 117) (.l 7) (.ifeq (.a 0) (.l 118) (.l 7) (.ifeq (.a 0) (.l 119) (.l 7) (.ifeq (.a 0) (.l 120) (.l 7) (.ifeq (.a 0) (.l 121) (.l 7) (.ifeq (.a 0) (.l 122) (.l 7) (.ifeq (.a 0) (.l 123) (.l 7) (.ifeq (.a 0) (.l 124) (.l 7) (.ifeq (.a 0) (.l 125) (.l 7) (.ifeq (.a 0) (.l 126) (.l 7) (.ifeq (.a 0) (.l 127) (.l 7) (.ifeq (.a 0) (.l 128) (.l 8) (.ifeq (.a 0) (.l 129) (.l 8) (.ifeq (.a 0) (.l 130) (.l 8) (.ifeq (.a 0) (.l 131) (.l 8) (.ifeq (.a 0) (.l 132) (.l 8) (.ifeq (.a 0) (.l 133) (.l 8) (.ifeq (.a 0) (.l 134) (.l 8) (.ifeq (.a 0) (.l 135) (.l 8) (.ifeq (.a 0) (.l 136) (.l 8) (.ifeq (.a 0) (.l 137) (.l 8) (.ifeq (.a 0) (.l 138) (.l 8) (.ifeq (.a 0) (.l 139) (.l 8) (.ifeq (.a 0) (.l 140) (.l 8) (.ifeq (.a 0) (.l 141) (.l 8) (.ifeq (.a 0) (.l 142) (.l 8) (.ifeq (.a 0) (.l 143) (.l 8) (.ifeq (.a 0) (.l 144) (.l 8) (.ifeq (.a 0) (.l 145) (.l 8) (.ifeq (.a 0) (.l 146) (.l 8) (.ifeq (.a 0) (.l 147) (.l 8) (.ifeq (.a 0) (.l 148) (.l 8) (.ifeq (.a 0) (.l 149) (.l 8) (.ifeq (.a 0) (.l 150) (.l 8) (.ifeq (.a 0) (.l 151) (.l 8) (.ifeq (.a 0) (.l 152) (.l 8) (.ifeq (.a 0) (.l 153) (.l 8) (.ifeq (.a 0) (.l 154) (.l 8) (.ifeq (.a 0) (.l 155) (.l 8) (.ifeq (.a 0) (.l 156) (.l 8) (.ifeq (.a 0) (.l 157) (.l 8) (.ifeq (.a 0) (.l 158) (.l 8) (.ifeq (.a 0) (.l 159) (.l 8) (.ifeq (.a 0) (.l 160) (.l 8) (.ifeq (.a 0) (.l 161) (.l 8) (.ifeq (.a 0) (.l 162) (.l 8) (.ifeq (.a 0) (.l 163) (.l 8) (.ifeq (.a 0) (.l 164) (.l 8) (.ifeq (.a 0) (.l 165) (.l 8) (.ifeq (.a 0) (.l 166) (.l 8) (.ifeq (.a 0) (.l 167) (.l 8) (.ifeq (.a 0) (.l 168) (.l 8) (.ifeq (.a 0) (.l 169) (.l 8) (.ifeq (.a 0) (.l 170) (.l 8) (.ifeq (.a 0) (.l 171) (.l 8) (.ifeq (.a 0) (.l 172) (.l 8) (.ifeq (.a 0) (.l 173) (.l 8) (.ifeq (.a 0) (.l 174) (.l 8) (.ifeq (.a 0) (.l 175) (.l 8) (.ifeq (.a 0) (.l 176) (.l 8) (.ifeq (.a 0) (.l 177) (.l 8) (.ifeq (.a 0) (.l 178) (.l 8) (.ifeq (.a 0) (.l 179) (.l 8) (.ifeq (.a 0) (.l 180) (.l 8) (.ifeq (.a 0) (.l 181) (.l 8) (.ifeq (.a 0) (.l 182) (.l 8) (.ifeq (.a 0) (.l 183) (.l 8) (.ifeq (.a 0) (.l 184) (.l 8) (.ifeq (.a 0) (.l 185) (.l 8) (.ifeq (.a 0) (.l 186) (.l 8) (.ifeq (.a 0) (.l 187) (.l 8) (.ifeq (.a 0) (.l 188) (.l 8) (.ifeq (.a 0) (.l 189) (.l 8) (.ifeq (.a 0) (.l 190) (.l 8) (.ifeq (.a 0) (.l 191) (.l 8) (.ifeq (.a 0) (.l 192) (.l 8) (.ifeq (.a 0) (.l 193) (.l 8) (.ifeq (.a 0) (.l 194) (.l 8) (.ifeq (.a 0) (.l 195) (.l 8) (.ifeq (.a 0) (.l 196) (.l 8) (.ifeq (.a 0) (.l 197) (.l 8) (.ifeq (.a 0) (.l 198) (.l 8) (.ifeq (.a 0) (.l 199) (.l 8) (.ifeq (.a 0) (.l 200) (.l 8) (.ifeq (.a 0) (.l 201) (.l 8) (.ifeq (.a 0) (.l 202) (.l 8) (.ifeq (.a 0) (.l 203) (.l 8) (.ifeq (.a 0) (.l 204) (.l 8) (.ifeq (.a 0) (.l 205) (.l 8) (.ifeq (.a 0) (.l 206) (.l 8) (.ifeq (.a 0) (.l 207) (.l 8) (.ifeq (.a 0) (.l 208) (.l 8) (.ifeq (.a 0) (.l 209) (.l 8) (.ifeq (.a 0) (.l 210) (.l 8) (.ifeq (.a 0) (.l 211) (.l 8) (.ifeq (.a 0) (.l 212) (.l 8) (.ifeq (.a 0) (.l 213) (.l 8) (.ifeq (.a 0) (.l 214) (.l 8) (.ifeq (.a 0) (.l 215) (.l 8) (.ifeq (.a 0) (.l 216) (.l 8) (.ifeq (.a 0) (.l 217) (.l 8) (.ifeq (.a 0) (.l 218) (.l 8) (.ifeq (.a 0) (.l 219) (.l 8) (.ifeq (.a 0) (.l 220) (.l 8) (.ifeq (.a 0) (.l 221) (.l 8) (.ifeq (.a 0) (.l 222) (.l 8) (.ifeq (.a 0) (.l 223) (.l 8) (.ifeq (.a 0) (.l 224) (.l 8) (.ifeq (.a 0) (.l 225) (.l 8) (.ifeq (.a 0) (.l 226) (.l 8) (.ifeq (.a 0) (.l 227) (.l 8) (.ifeq (.a 0) (.l 228) (.l 8) (.ifeq (.a 0) (.l 229) (.l 8) (.ifeq (.a 0) (.l 230) (.l 8) (.ifeq (.a 0) (.l 231) (.l 8) (.ifeq (.a 0) (.l 232) (.l 8) (.ifeq (.a 0) (.l 233) (.l 8) (.ifeq (.a 0) (.l 234) (.l 8) (.ifeq (.a 0) (.l 235) (.l 8) (.ifeq (.a 0) (.l 236) (.l 8) (.ifeq (.a 0) (.l 237) (.l 8) (.ifeq (.a 0) (.l 238) (.l 8) (.ifeq (.a 0) (.l 239) (.l 8) (.ifeq (.a 0) (.l 240) (.l 8) (.ifeq (.a 0) (.l 241) (.l 8) (.ifeq (.a 0) (.l 242) (.l 8) (.ifeq (.a 0) (.l 243) (.l 8) (.ifeq (.a 0) (.l 244) (.l 8) (.ifeq (.a 0) (.l 245) (.l 8) (.ifeq (.a 0) (.l 246) (.l 8) (.ifeq (.a 0) (.l 247) (.l 8) (.ifeq (.a 0) (.l 248) (.l 8) (.ifeq (.a 0) (.l 249) (.l 8) (.ifeq (.a 0) (.l 250) (.l 8) (.ifeq (.a 0) (.l 251) (.l 8) (.ifeq (.a 0) (.l 252) (.l 8) (.ifeq (.a 0) (.l 253) (.l 8) (.ifeq (.a 0) (.l 254) (.l 8) (.ifeq (.a 0) (.l 255) (.l 8) (.l 0)))))))))))))))))))))))))))))))))))))))))))))))))))))))))))))))))))))))))))))))))))))))))))))))))))))))))))))))))))))))))))))))))))))))))))))))))))))))))))))))))))))))))))))))))))))))))))))))))))))))))))))))))))))))))))))))))))))))))))))))))))))))))))))))))) (.le (.ifeq (.a 0) (.l 0) (.l 0) (.ifeq (.a 0) (.l 1) (.l 1) (.ifeq (.a 0) (.l 2) (.l 2) (.ifeq (.a 0) (.l 3) (.l 2) (.ifeq (.a 0) (.l 4) (.l 3) (.ifeq (.a 0) (.l 5) (.l 3) (.ifeq (.a 0) (.l 6) (.l 3) (.ifeq (.a 0) (.l 7) (.l 3) (.ifeq (.a 0) (.l 8) (.l 4) (.ifeq (.a 0) (.l 9) (.l 4) (.ifeq (.a 0) (.l 10) (.l 4) (.ifeq (.a 0) (.l 11) (.l 4) (.ifeq (.a 0) (.l 12) (.l 4) (.ifeq (.a 0) (.l 13) (.l 4) (.ifeq (.a 0) (.l 14) (.l 4) (.ifeq (.a 0) (.l 15) (.l 4) (.ifeq (.a 0) (.l 16) (.l 5) (.ifeq (.a 0) (.l 17) (.l 5) (.ifeq (.a 0) (.l 18) (.l 5) (.ifeq (.a 0) (.l 19) (.l 5) (.ifeq (.a 0) (.l 20) (.l 5) (.ifeq (.a 0) (.l 21) (.l 5) (.ifeq (.a 0) (.l 22) (.l 5) (.ifeq (.a 0) (.l 23) (.l 5) (.ifeq (.a 0) (.l 24) (.l 5) (.ifeq (.a 0) (.l 25) (.l 5) (.ifeq (.a 0) (.l 26) (.l 5) (.ifeq (.a 0) (.l 27) (.l 5) (.ifeq (.a 0) (.l 28) (.l 5) (.ifeq (.a 0) (.l 29) (.l 5) (.ifeq (.a 0) (.l 30) (.l 5) (.ifeq (.a 0) (.l 31) (.l 5) (.ifeq (.a 0) (.l 32) (.l 6) (.ifeq (.a 0) (.l 33) (.l 6) (.ifeq (.a 0) (.l 34) (.l 6) (.ifeq (.a 0) (.l 35) (.l 6) (.ifeq (.a 0) (.l 36) (.l 6) (.ifeq (.a 0) (.l 37) (.l 6) (.ifeq (.a 0) (.l 38) (.l 6) (.ifeq (.a 0) (.l 39) (.l 6) (.ifeq (.a 0) (.l 40) (.l 6) (.ifeq (.a 0) (.l 41) (.l 6) (.ifeq (.a 0) (.l 42) (.l 6) (.ifeq (.a 0) (.l 43) (.l 6) (.ifeq (.a 0) (.l 44) (.l 6) (.ifeq (.a 0) (.l 45) (.l 6) (.ifeq (.a 0) (.l 46) (.l 6) (.ifeq (.a 0) (.l 47) (.l 6) (.ifeq (.a 0) (.l 48) (.l 6) (.ifeq (.a 0) (.l 49) (.l 6) (.ifeq (.a 0) (.l 50) (.l 6) (.ifeq (.a 0) (.l 51) (.l 6) (.ifeq (.a 0) (.l 52) (.l 6) (.ifeq (.a 0) (.l 53) (.l 6) (.ifeq (.a 0) (.l 54) (.l 6) (.ifeq (.a 0) (.l 55) (.l 6) (.ifeq (.a 0) (.l 56) (.l 6) (.ifeq (.a 0) (.l 57) (.l 6) (.ifeq (.a 0) (.l 58) (.l 6) (.ifeq (.a 0) (.l 59) (.l 6) (.ifeq (.a 0) (.l 60) (.l 6) (.ifeq (.a 0) (.l 61) (.l 6) (.ifeq (.a 0) (.l 62) (.l 6) (.ifeq (.a 0) (.l 63) (.l 6) (.ifeq (.a 0) (.l 64) (.l 7) (.ifeq (.a 0) (.l 65) (.l 7) (.ifeq (.a 0) (.l 66) (.l 7) (.ifeq (.a 0) (.l 67) (.l 7) (.ifeq (.a 0) (.l 68) (.l 7) (.ifeq (.a 0) (.l 69) (.l 7) (.ifeq (.a 0) (.l 70) (.l 7) (.ifeq (.a 0) (.l 71) (.l 7) (.ifeq (.a 0) (.l 72) (.l 7) (.ifeq (.a 0) (.l 73) (.l 7) (.ifeq (.a 0) (.l 74) (.l 7) (.ifeq (.a 0) (.l 75) (.l 7) (.ifeq (.a 0) (.l 76) (.l 7) (.ifeq (.a 0) (.l 77) (.l 7) (.ifeq (.a 0) (.l 78) (.l 7) (.ifeq (.a 0) (.l 79) (.l 7) (.ifeq (.a 0) (.l 80) (.l 7) (.ifeq (.a 0) (.l 81) (.l 7) (.ifeq (.a 0) (.l 82) (.l 7) (.ifeq (.a 0) (.l 83) (.l 7) (.ifeq (.a 0) (.l 84) (.l 7) (.ifeq (.a 0) (.l 85) (.l 7) (.ifeq (.a 0) (.l 86) (.l 7) (.ifeq (.a 0) (.l 87) (.l 7) (.ifeq (.a 0) (.l 88) (.l 7) (.ifeq (.a 0) (.l 89) (.l 7) (.ifeq (.a 0) (.l 90) (.l 7) (.ifeq (.a 0) (.l 91) (.l 7) (.ifeq (.a 0) (.l 92) (.l 7) (.ifeq (.a 0) (.l 93) (.l 7) (.ifeq (.a 0) (.l 94) (.l 7) (.ifeq (.a 0) (.l 95) (.l 7) (.ifeq (.a 0) (.l 96) (.l 7) (.ifeq (.a 0) (.l 97) (.l 7) (.ifeq (.a 0) (.l 98) (.l 7) (.ifeq (.a 0) (.l 99) (.l 7) (.ifeq (.a 0) (.l 100) (.l 7) (.ifeq (.a 0) (.l 101) (.l 7) (.ifeq (.a 0) (.l 102) (.l 7) (.ifeq (.a 0) (.l 103) (.l 7) (.ifeq (.a 0) (.l 104) (.l 7) (.ifeq (.a 0) (.l 105) (.l 7) (.ifeq (.a 0) (.l 106) (.l 7) (.ifeq (.a 0) (.l 107) (.l 7) (.ifeq (.a 0) (.l 108) (.l 7) (.ifeq (.a 0) (.l 109) (.l 7) (.ifeq (.a 0) (.l 110) (.l 7) (.ifeq (.a 0) (.l 111) (.l 7) (.ifeq (.a 0) (.l 112) (.l 7) (.ifeq (.a 0) (.l 113) (.l 7) (.ifeq (.a 0) (.l 114) (.l 7) (.ifeq (.a 0) (.l 115) (.l 7) (.ifeq (.a 0) (.l 116) (.l 7) (.ifeq (.a 0) (.l 117) (.l 7) (.ifeq (.a 0) (.l 118) (.l 7) (.ifeq (.a 0) (.l 119) (.l 7) (.ifeq (.a 0) (.l 120) (.l 7) (.ifeq (.a 0) (.l 121) (.l 7) (.ifeq (.a 0) (.l 122) (.l 7) (.ifeq (.a 0) (.l 123) (.l 7) (.ifeq (.a 0) (.l 124) (.l 7) (.ifeq (.a 0) (.l 125) (.l 7) (.ifeq (.a 0) (.l 126) (.l 7) (.ifeq (.a 0) (.l 127) (.l 7) (.ifeq (.a 0) (.l 128) (.l 8) (.ifeq (.a 0) (.l 129) (.l 8) (.ifeq (.a 0) (.l 130) (.l 8) (.ifeq (.a 0) (.l 131) (.l 8) (.ifeq (.a 0) (.l 132) (.l 8) (.ifeq (.a 0) (.l 133) (.l 8) (.ifeq (.a 0) (.l 134) (.l 8) (.ifeq (.a 0) (.l 135) (.l 8) (.ifeq (.a 0) (.l 136) (.l 8) (.ifeq (.a 0) (.l 137) (.l 8) (.ifeq (.a 0) (.l 138) (.l 8) (.ifeq (.a 0) (.l 139) (.l 8) (.ifeq (.a 0) (.l 140) (.l 8) (.ifeq (.a 0) (.l 141) (.l 8) (.ifeq (.a 0) (.l 142) (.l 8) (.ifeq (.a 0) (.l 143) (.l 8) (.ifeq (.a 0) (.l 144) (.l 8) (.ifeq (.a 0) (.l 145) (.l 8) (.ifeq (.a 0) (.l 146) (.l 8) (.ifeq (.a 0) (.l 147) (.l 8) (.ifeq (.a 0) (.l 148) (.l 8) (.ifeq (.a 0) (.l 149) (.l 8) (.ifeq (.a 0) (.l 150) (.l 8) (.ifeq (.a 0) (.l 151) (.l 8) (.ifeq (.a 0) (.l 152) (.l 8) (.ifeq (.a 0) (.l 153) (.l 8) (.ifeq (.a 0) (.l 154) (.l 8) (.ifeq (.a 0) (.l 155) (.l 8) (.ifeq (.a 0) (.l 156) (.l 8) (.ifeq (.a 0) (.l 157) (.l 8) (.ifeq (.a 0) (.l 158) (.l 8) (.ifeq (.a 0) (.l 159) (.l 8) (.ifeq (.a 0) (.l 160) (.l 8) (.ifeq (.a 0) (.l 161) (.l 8) (.ifeq (.a 0) (.l 162) (.l 8) (.ifeq (.a 0) (.l 163) (.l 8) (.ifeq (.a 0) (.l 164) (.l 8) (.ifeq (.a 0) (.l 165) (.l 8) (.ifeq (.a 0) (.l 166) (.l 8) (.ifeq (.a 0) (.l 167) (.l 8) (.ifeq (.a 0) (.l 168) (.l 8) (.ifeq (.a 0) (.l 169) (.l 8) (.ifeq (.a 0) (.l 170) (.l 8) (.ifeq (.a 0) (.l 171) (.l 8) (.ifeq (.a 0) (.l 172) (.l 8) (.ifeq (.a 0) (.l 173) (.l 8) (.ifeq (.a 0) (.l 174) (.l 8) (.ifeq (.a 0) (.l 175) (.l 8) (.ifeq (.a 0) (.l 176) (.l 8) (.ifeq (.a 0) (.l 177) (.l 8) (.ifeq (.a 0) (.l 178) (.l 8) (.ifeq (.a 0) (.l 179) (.l 8) (.ifeq (.a 0) (.l 180) (.l 8) (.ifeq (.a 0) (.l 181) (.l 8) (.ifeq (.a 0) (.l 182) (.l 8) (.ifeq (.a 0) (.l 183) (.l 8) (.ifeq (.a 0) (.l 184) (.l 8) (.ifeq (.a 0) (.l 185) (.l 8) (.ifeq (.a 0) (.l 186) (.l 8) (.ifeq (.a 0) (.l 187) (.l 8) (.ifeq (.a 0) (.l 188) (.l 8) (.ifeq (.a 0) (.l 189) (.l 8) (.ifeq (.a 0) (.l 190) (.l 8) (.ifeq (.a 0) (.l 191) (.l 8) (.ifeq (.a 0) (.l 192) (.l 8) (.ifeq (.a 0) (.l 193) (.l 8) (.ifeq (.a 0) (.l 194) (.l 8) (.ifeq (.a 0) (.l 195) (.l 8) (.ifeq (.a 0) (.l 196) (.l 8) (.ifeq (.a 0) (.l 197) (.l 8) (.ifeq (.a 0) (.l 198) (.l 8) (.ifeq (.a 0) (.l 199) (.l 8) (.ifeq (.a 0) (.l 200) (.l 8) (.ifeq (.a 0) (.l 201) (.l 8) (.ifeq (.a 0) (.l 202) (.l 8) (.ifeq (.a 0) (.l 203) (.l 8) (.ifeq (.a 0) (.l 204) (.l 8) (.ifeq (.a 0) (.l 205) (.l 8) (.ifeq (.a 0) (.l 206) (.l 8) (.ifeq (.a 0) (.l 207) (.l 8) (.ifeq (.a 0) (.l 208) (.l 8) (.ifeq (.a 0) (.l 209) (.l 8) (.ifeq (.a 0) (.l 210) (.l 8) (.ifeq (.a 0) (.l 211) (.l 8) (.ifeq (.a 0) (.l 212) (.l 8) (.ifeq (.a 0) (.l 213) (.l 8) (.ifeq (.a 0) (.l 214) (.l 8) (.ifeq (.a 0) (.l 215) (.l 8) (.ifeq (.a 0) (.l 216) (.l 8) (.ifeq (.a 0) (.l 217) (.l 8) (.ifeq (.a 0) (.l 218) (.l 8) (.ifeq (.a 0) (.l 219) (.l 8) (.ifeq (.a 0) (.l 220) (.l 8) (.ifeq (.a 0) (.l 221) (.l 8) (.ifeq (.a 0) (.l 222) (.l 8) (.ifeq (.a 0) (.l 223) (.l 8) (.ifeq (.a 0) (.l 224) (.l 8) (.ifeq (.a 0) (.l 225) (.l 8) (.ifeq (.a 0) (.l 226) (.l 8) (.ifeq (.a 0) (.l 227) (.l 8) (.ifeq (.a 0) (.l 228) (.l 8) (.ifeq (.a 0) (.l 229) (.l 8) (.ifeq (.a 0) (.l 230) (.l 8) (.ifeq (.a 0) (.l 231) (.l 8) (.ifeq (.a 0) (.l 232) (.l 8) (.ifeq (.a 0) (.l 233) (.l 8) (.ifeq (.a 0) (.l 234) (.l 8) (.ifeq (.a 0) (.l 235) (.l 8) (.ifeq (.a 0) (.l 236) (.l 8) (.ifeq (.a 0) (.l 237) (.l 8) (.ifeq (.a 0) (.l 238) (.l 8) (.ifeq (.a 0) (.l 239) (.l 8) (.ifeq (.a 0) (.l 240) (.l 8) (.ifeq (.a 0) (.l 241) (.l 8) (.ifeq (.a 0) (.l 242) (.l 8) (.ifeq (.a 0) (.l 243) (.l 8) (.ifeq (.a 0) (.l 244) (.l 8) (.ifeq (.a 0) (.l 245) (.l 8) (.ifeq (.a 0) (.l 246) (.l 8) (.ifeq (.a 0) (.l 247) (.l 8) (.ifeq (.a 0) (.l 248) (.l 8) (.ifeq (.a 0) (.l 249) (.l 8) (.ifeq (.a 0) (.l 250) (.l 8) (.ifeq (.a 0) (.l 251) (.l 8) (.ifeq (.a 0) (.l 252) (.l 8) (.ifeq (.a 0) (.l 253) (.l 8) (.ifeq (.a 0) (.l 254) (.l 8) (.ifeq (.a 0) (.l 255) (.l 8) (.l 0))))))))))))))))))))))))))))))))))))))))))))))))))))))))))))))))))))))))))))))))))))))))))))))))))))))))))))))))))))))))))))))))))))))))))))))))))))))))))))))))))))))))))))))))))))))))))))))))))))))))))))))))))))))))))))))))))))))))))))))))))))))))))))))))) (.l 9223372036854775807)))
   (.need (.and (.le (.l (-9223372036854775808)) (.ifeq (.a 0) (.l 0) (.l 0) (.ifeq (.a 0) (.l 1) (.l 1) (.ifeq (.a 0) (.l 2) (.l 2) (.ifeq (.a 0) (.l 3) (.l 2) (.ifeq (.a 0) (.l 4) (.l 3) (.ifeq (.a 0) (.l 5) (.l 3) (.ifeq (.a 0) (.l 6) (.l 3) (.ifeq (.a 0) (.l 7) (.l 3) (.ifeq (.a 0) (.l 8) (.l 4) (.ifeq (.a 0) (.l 9) (.l 4) (.ifeq (.a 0) (.l 10) (.l 4) (.ifeq (.a 0) (.l 11) (.l 4) (.ifeq (.a 0) (.l 12) (.l 4) (.ifeq (.a 0) (.l 13) (.l 4) (.ifeq (.a 0) (.l 14) (.l 4) (.ifeq (.a 0) (.l 15) (.l 4) (.ifeq (.a 0) (.l 16) (.l 5) (.ifeq (.a 0) (.l 17) (.l 5) (.ifeq (.a 0) (.l 18) (.l 5) (.ifeq (.a 0) (.l 19) (.l 5) (.ifeq (.a 0) (.l 20) (.l 5) (.ifeq (.a 0) (.l 21) (.l 5) (.ifeq (.a 0) (.l 22) (.l 5) (.ifeq (.a 0) (.l 23) (.l 5) (.ifeq (.a 0) (.l 24) (.l 5) (.ifeq (.a 0) (.l 25) (.l 5) (.ifeq (.a 0) (.l 26) (.l 5) (.ifeq (.a 0) (.l 27) (.l 5) (.ifeq (.a 0) (.l 28) (.l 5) (.ifeq (.a 0) (.l 29) (.l 5) (.ifeq (.a 0) (.l 30) (.l 5) (.ifeq (.a 0) (.l 31) (.l 5) (.ifeq (.a 0) (.l 32) (.l 6) (.ifeq (.a 0) (.l 33) (.l 6) (.ifeq (.a 0) (.l 34) (.l 6) (.ifeq (.a 0) (.l 35) (.l 6) (.ifeq (.a 0) (.l 36) (.l 6) (.ifeq (.a 0) (.l 37) (.l 6) (.ifeq (.a 0) (.l 38) (.l 6) (.ifeq (.a 0) (.l 39) (.l 6) (.ifeq (.a 0) (.l 40) (.l 6) (.ifeq (.a 0) (.l 41) (.l 6) (.ifeq (.a 0) (.l 42) (.l 6) (.ifeq (.a 0) (.l 43) (.l 6) (.ifeq (.a 0) (.l 44) (.l 6) (.ifeq (.a 0) (.l 45) (.l 6) (.ifeq (.a 0) (.l 46) (.l 6) (.ifeq (.a 0) (.l 47) (.l 6) (.ifeq (.a 0) (.l 48) (.l 6) (.ifeq (.a 0) (.l 49) (.l 6) (.ifeq (.a 0) (.l 50) (.l 6) (.ifeq (.a 0) (.l 51) (.l 6) (.ifeq (.a 0) (.l 52) (.l 6) (.ifeq (.a 0) (.l 53) (.l 6) (.ifeq (.a 0) (.l 54) (.l 6) (.ifeq (.a 0) (.l 55) (.l 6) (.ifeq (.a 0) (.l 56) (.l 6) (.ifeq (.a 0) (.l 57) (.l 6) (.ifeq (.a 0) (.l 58) (.l 6) (.ifeq (.a 0) (.l 59) (.l 6) (.ifeq (.a 0) (.l 60) (.l 6) (.ifeq (.a 0) (.l 61) (.l 6) (.ifeq (.a 0) (.l 62) (.l 6) (.ifeq (.a 0) (.l 63) (.l 6) (.ifeq (.a 0) (.l 64) (.l 7) (.ifeq (.a 0) (.l 65) (.l 7) (.ifeq (.a 0) (.l 66) (.l 7) (.ifeq (.a 0) (.l 67) (.l 7) (.ifeq (.a 0) (.l 68) (.l 7) (.ifeq (.a 0) (.l 69) (.l 7) (.ifeq (.a 0) (.l 70) (.l 7) (.ifeq (.a 0) (.l 71) (.l 7) (.ifeq (.a 0) (.l 72) (.l 7) (.ifeq (.a 0) (.l 73) (.l 7) (.ifeq (.a 0) (.l 74) (.l 7) (.ifeq (.a 0) (.l 75) (.l 7) (.ifeq (.a 0) (.l 76) (.l 7) (.ifeq (.a 0) (.l 77) (.l 7) (.ifeq (.a 0) (.l 78) (.l 7) (.ifeq (.a 0) (.l 79) (.l 7) (.ifeq (.a 0) (.l 80) (.l 7) (.ifeq (.a 0) (.l 81) (.l 7) (.ifeq (.a 0) (.l 82) (.l 7) (.ifeq (.a 0) (.l 83) (.l 7) (.ifeq (.a 0) (.l 84) (.l 7) (.ifeq (.a 0) (.l 85) (.l 7) (.ifeq (.a 0) (.l 86) (.l 7) (.ifeq (.a 0) (.l 87) (.l 7) (.ifeq (.a 0) (.l 88) (.l 7) (.ifeq (.a 0) (.l 89) (.l 7) (.ifeq (.a 0) (.l 90) (.l 7) (.ifeq (.a 0) (.l 91) (.l 7) (.ifeq (.a 0) (.l 92) (.l 7) (.ifeq (.a 0) (.l 93) (.l 7) (.ifeq (.a 0) (.l 94) (.l 7) (.ifeq (.a 0) (.l 95) (.l 7) (.ifeq (.a 0) (.l 96) (.l 7) (.ifeq (.a 0) (.l 97) (.l 7) (.ifeq (.a 0) (.l 98) (.l 7) (.ifeq (.a 0) (.l 99) (.l 7) (.ifeq (.a 0) (.l 100) (.l 7) (.ifeq (.a 0) (.l 101) (.l 7) (.ifeq (.a 0) (.l 102) (.l 7) (.ifeq (.a 0) (.l 103) (.l 7) (.ifeq (.a 0) (.l 104) (.l 7) (.ifeq (.a 0) (.l 105) (.l 7) (.ifeq (.a 0) (.l 106) (.l 7) (.ifeq (.a 0) (.l 107) (.l 7) (.ifeq (.a 0) (.l 108) (.l 7) (.ifeq (.a 0) (.l 109) (.l 7) (.ifeq (.a 0) (.l 110) (.l 7) (.ifeq (.a 0) (.l 111) (.l 7) (.ifeq (.a 0) (.l 112) (.l 7) (.ifeq (.a 0) (.l 113) (.l 7) (.ifeq (.a 0) (.l 114) (.l 7) (.ifeq (.a 0) (.l 115) (.l 7) (.ifeq (.a 0) (.l 116) (.l 7) (.ifeq (.a 0) (.l 117) (.l 7) (.ifeq (.a 0) (.l 118) (.l 7) (.ifeq (.a 0) (.l 119) (.l 7) (.ifeq (.a 0) (.l 120) (.l 7) (.ifeq (.a 0) (.l 121) (.l 7) (.ifeq (.a 0) (.l 122) (.l 7) (.ifeq (.a 0) (.l 123) (.l 7) (.ifeq (.a 0) (.l 124) (.l 7) (.ifeq (.a 0) (.l 125) (.l 7) (.ifeq (.a 0) (.l 126) (.l 7) (.ifeq (.a 0) (.l 127) (.l 7) (.ifeq (.a 0) (.l 128) (.l 8) (.ifeq (.a 0) (.l 129) (.l 8) (.ifeq (.a 0) (.l 130) (.l 8) (.ifeq (.a 0) (.l 131) (.l 8) (.ifeq (.a 0) (.l 132) (.l 8) (.ifeq (.a 0) (.l 133) (.l 8) (.ifeq (.a 0) (.l 134) (.l 8) (.ifeq (.a 0) (.l 135) (.l 8) (.ifeq (.a 0) (.l 136) (.l 8) (.ifeq (.a 0) (.l 137) (.l 8) (.ifeq (.a 0) (.l 138) (.l 8) (.ifeq (.a 0) (.l 139) (.l 8) (.ifeq (.a 0) (.l 140) (.l 8) (.ifeq (.a 0) (.l 141) (.l 8) (.ifeq (.a 0) (.l 142) (.l 8) (.ifeq (.a 0) (.l 143) (.l 8) (.ifeq (.a 0) (.l 144) (.l 8) (.ifeq (.a 0) (.l 145) (.l 8) (.ifeq (.a 0) (.l 146) (.l 8) (.ifeq (.a 0) (.l 147) (.l 8) (.ifeq (.a 0) (.l 148) (.l 8) (.ifeq (.a 0) (.l 149) (.l 8) (.ifeq (.a 0) (.l 150) (.l 8) (.ifeq (.a 0) (.l 151) (.l 8) (.ifeq (.a 0) (.l 152) (.l 8) (.ifeq (.a 0) (.l 153) (.l 8) (.ifeq (.a 0) (.l 154) (.l 8) (.ifeq (.a 0) (.l 155) (.l 8) (.ifeq (.a 0) (.l 156) (.l 8) (.ifeq (.a 0) (.l 157) (.l 8) (.ifeq (.a 0) (.l 158) (.l 8) (.ifeq (.a 0) (.l 159) (.l 8) (.ifeq (.a 0) (.l 160) (.l 8) (.ifeq (.a 0) (.l 161) (.l 8) (.ifeq (.a 0) (.l 162) (.l 8) (.ifeq (.a 0) (.l 163) (.l 8) (.ifeq (.a 0) (.l 164) (.l 8) (.ifeq (.a 0) (.l 165) (.l 8) (.ifeq (.a 0) (.l 166) (.l 8) (.ifeq (.a 0) (.l 167) (.l 8) (.ifeq (.a 0) (.l 168) (.l 8) (.ifeq (.a 0) (.l 169) (.l 8) (.ifeq (.a 0) (.l 170) (.l 8) (.ifeq (.a 0) (.l 171) (.l 8) (.ifeq (.a 0) (.l 172) (.l 8) (.ifeq (.a 0) (.l 173) (.l 8) (.ifeq (.a 0) (.l 174) (.l 8) (.ifeq (.a 0) (.l 175) (.l 8) (.ifeq (.a 0) (.l 176) (.l 8) (.ifeq (.a 0) (.l 177) (.l 8) (.ifeq (.a 0) (.l 178) (.l 8) (.ifeq (.a 0) (.l 179) (.l 8) (.ifeq (.a 0) (.l 180) (.l 8) (.ifeq (.a 0) (.l 181) (.l 8) (.ifeq (.a 0) (.l 182) (.l 8) (.ifeq (.a 0) (.l 183) (.l 8) (.ifeq (.a 0) (.l 184) (.l 8) (.ifeq (.a 0) (.l 185) (.l 8) (.ifeq (.a 0) (.l 186) (.l 8) (.ifeq (.a 0) (.l 187) (.l 8) (.ifeq (.a 0) (.l 188) (.l 8) (.ifeq (.a 0) (.l 189) (.l 8) (.ifeq (.a 0) (.l 190) (.l 8) (.ifeq (.a 0) (.l 191) (.l 8) (.ifeq (.a 0) (.l 192) (.l 8) (.ifeq (.a 0) (.l 193) (.l 8) (.ifeq (.a 0) (.l 194) (.l 8) (.ifeq (.a 0) (.l 195) (.l 8) (.ifeq (.a 0) (.l 196) (.l 8) (.ifeq (.a 0) (.l 197) (.l 8) (.ifeq (.a 0) (.l 198) (.l 8) (.ifeq (.a 0) (.l 199) (.l 8) (.ifeq (.a 0) (.l 200) (.l 8) (.ifeq (.a 0) (.l 201) (.l 8) (.ifeq (.a 0) (.l 202) (.l 8) (.ifeq (.a 0) (.l 203) (.l 8) (.ifeq (.a 0) (.l 204) (.l 8) (.ifeq (.a 0) (.l 205) (.l 8) (.ifeq (.a 0) (.l 206) (.l 8) (.ifeq (.a 0) (.l 207) (.l 8) (.ifeq (.a 0) (.l 208) (.l 8) (.ifeq (.a 0) (.l 209) (.l 8) (.ifeq (.a 0) (.l 210) (.l 8) (.ifeq (.a 0) (.l 211) (.l 8) (.ifeq (.a 0) (.l 212) (.l 8) (.ifeq (.a 0) (.l 213) (.l 8) (.ifeq (.a 0) (.l 214) (.l 8) (.ifeq (.a 0) (.l 215) (.l 8) (.ifeq (.a 0) (.l 216) (.l 8) (.ifeq (.a 0) (.l 217) (.l 8) (.ifeq (.a 0) (.l 218) (.l 8) (.ifeq (.a 0) (.l 219) (.l 8) (.ifeq (.a 0) (.l 220) (.l 8) (.ifeq (.a 0) (.l 221) (.l 8) (.ifeq (.a 0) (.l 222) (.l 8) (.ifeq (.a 0) (.l 223) (.l 8) (.ifeq (.a 0) (.l 224) (.l 8) (.ifeq (.a 0) (.l 225) (.l 8) (.ifeq (.a 0) (.l 226) (.l 8) (.ifeq (.a 0) (.l 227) (.l 8) (.ifeq (.a 0) (.l 228) (.l 8) (.ifeq (.a 0) (.l 229) (.l 8) (.ifeq (.a 0) (.l 230) (.l 8) (.ifeq (.a 0) (.l 231) (.l 8) (.ifeq (.a 0) (.l 232) (.l 8) (.ifeq (.a 0) (.l 233) (.l 8) (.ifeq (.a 0) (.l 234) (.l 8) (.ifeq (.a 0) (.l 235) (.l 8) (.ifeq (.a 0) (.l 236) (.l 8) (.ifeq (.a 0) (.l 237) (.l 8) (.ifeq (.a 0) (.l 238) (.l 8) (.ifeq (.a 0) (.l 239) (.l 8) (.ifeq (.a 0) (.l 240) (.l 8) (.ifeq (.a 0) (.l 241) (.l 8) (.ifeq (.a 0) (.l 242) (.l 8) (.ifeq (.a 0) (.l 243) (.l 8) (.ifeq (.a 0) (.l 244) (.l 8) (.ifeq (.a 0) (.l 245) (.l 8) (.ifeq (.a 0) (.l 246) (.l 8) (.ifeq (.a 0) (.l 247) (.l 8) (.ifeq (.a 0) (.l 248) (.l 8) (.ifeq (.a 0) (.l 249) (.l 8) (.ifeq (.a 0) (.l 250) (.l 8) (.ifeq (.a 0) (.l 251) (.l 8) (.ifeq (.a 0) (.l 252) (.l 8) (.ifeq (.a 0) (.l 253) (.l 8) (.ifeq (.a 0) (.l 254) (.l 8) (.ifeq (.a 0) (.l 255) (.l 8) (.l 0)))))))))))))))))))))))))))))))))))))))))))))))))))))))))))))))))))))))))))))))))))))))))))))))))))))))))))))))))))))))))))))))))))))))))))))))))))))))))))))))))))))))))))))))))))))))))))))))))))))))))))))))))))))))))))))))))))))))))))))))))))))))))))))))))) (.le (.ifeq (.a 0) (.l 0) (.l 0) (.ifeq (.a 0) (.l 1) (.l 1) (.ifeq (.a 0) (.l 2) (.l 2) (.ifeq (.a 0) (.l 3) (.l 2) (.ifeq (.a 0) (.l 4) (.l 3) (.ifeq (.a 0) (.l 5) (.l 3) (.ifeq (.a 0) (.l 6) (.l 3) (.ifeq (.a 0) (.l 7) (.l 3) (.ifeq (.a 0) (.l 8) (.l 4) (.ifeq (.a 0) (.l 9) (.l 4) (.ifeq (.a 0) (.l 10) (.l 4) (.ifeq (.a 0) (.l 11) (.l 4) (.ifeq (.a 0) (.l 12) (.l 4) (.ifeq (.a 0) (.l 13) (.l 4) (.ifeq (.a 0) (.l 14) (.l 4) (.ifeq (.a 0) (.l 15) (.l 4) (.ifeq (.a 0) (.l 16) (.l 5) (.ifeq (.a 0) (.l 17) (.l 5) (.ifeq (.a 0) (.l 18) (.l 5) (.ifeq (.a 0) (.l 19) (.l 5) (.ifeq (.a 0) (.l 20) (.l 5) (.ifeq (.a 0) (.l 21) (.l 5) (.ifeq (.a 0) (.l 22) (.l 5) (.ifeq (.a 0) (.l 23) (.l 5) (.ifeq (.a 0) (.l 24) (.l 5) (.ifeq (.a 0) (.l 25) (.l 5) (.ifeq (.a 0) (.l 26) (.l 5) (.ifeq (.a 0) (.l 27) (.l 5) (.ifeq (.a 0) (.l 28) (.l 5) (.ifeq (.a 0) (.l 29) (.l 5) (.ifeq (.a 0) (.l 30) (.l 5) (.ifeq (.a 0) (.l 31) (.l 5) (.ifeq (.a 0) (.l 32) (.l 6) (.ifeq (.a 0) (.l 33) (.l 6) (.ifeq (.a 0) (.l 34) (.l 6) (.ifeq (.a 0) (.l 35) (.l 6) (.ifeq (.a 0) (.l 36) (.l 6) (.ifeq (.a 0) (.l 37) (.l 6) (.ifeq (.a 0) (.l 38) (.l 6) (.ifeq (.a 0) (.l 39) (.l 6) (.ifeq (.a 0) (.l 40) (.l 6) (.ifeq (.a 0) (.l 41) (.l 6) (.ifeq (.a 0) (.l 42) (.l 6) (.ifeq (.a 0) (.l 43) (.l 6) (.ifeq (.a 0) (.l 44) (.l 6) (.ifeq (.a 0) (.l 45) (.l 6) (.ifeq (.a 0) (.l 46) (.l 6) (.ifeq (.a 0) (.l 47) (.l 6) (.ifeq (.a 0) (.l 48) (.l 6) (.ifeq (.a 0) (.l 49) (.l 6) (.ifeq (.a 0) (.l 50) (.l 6) (.ifeq (.a 0) (.l 51) (.l 6) (.ifeq (.a 0) (.l 52) (.l 6) (.ifeq (.a 0) (.l 53) (.l 6) (.ifeq (.a 0) (.l 54) (.l 6) (.ifeq (.a 0) (.l 55) (.l 6) (.ifeq (.a 0) (.l 56) (.l 6) (.ifeq (.a 0) (.l 57) (.l 6) (.ifeq (.a 0) (.l 58) (.l 6) (.ifeq (.a 0) (.l 59) (.l 6) (.ifeq (.a 0) (.l 60) (.l 6) (.ifeq (.a 0) (.l 61) (.l 6) (.ifeq (.a 0) (.l 62) (.l 6) (.ifeq (.a 0) (.l 63) (.l 6) (.ifeq (.a 0) (.l 64) (.l 7) (.ifeq (.a 0) (.l 65) (.l 7) (.ifeq (.a 0) (.l 66) (.l 7) (.ifeq (.a 0) (.l 67) (.l 7) (.ifeq (.a 0) (.l 68) (.l 7) (.ifeq (.a 0) (.l 69) (.l 7) (.ifeq (.a 0) (.l 70) (.l 7) (.ifeq (.a 0) (.l 71) (.l 7) (.ifeq (.a 0) (.l 72) (.l 7) (.ifeq (.a 0) (.l 73) (.l 7) (.ifeq (.a 0) (.l 74) (.l 7) (.ifeq (.a 0) (.l 75) (.l 7) (.ifeq (.a 0) (.l 76) (.l 7) (.ifeq (.a 0) (.l 77) (.l 7) (.ifeq (.a 0) (.l 78) (.l 7) (.ifeq (.a 0) (.l 79) (.l 7) (.ifeq (.a 0) (.l 80) (.l 7) (.ifeq (.a 0) (.l 81) (.l 7) (.ifeq (.a 0) (.l 82) (.l 7) (.ifeq (.a 0) (.l 83) (.l 7) (.ifeq (.a 0) (.l 84) (.l 7) (.ifeq (.a 0) (.l 85) (.l 7) (.ifeq (.a 0) (.l 86) (.l 7) (.ifeq (.a 0) (.l 87) (.l 7) (.ifeq (.a 0) (.l 88) (.l 7) (.ifeq (.a 0) (.l 89) (.l 7) (.ifeq (.a 0) (.l 90) (.l 7) (.ifeq (.a 0) (.l 91) (.l 7) (.ifeq (.a 0) (.l 92) (.l 7) (.ifeq (.a 0) (.l 93) (.l 7) (.ifeq (.a 0) (.l 94) (.l 7) (.ifeq (.a 0) (.l 95) (.l 7) (.ifeq (.a 0) (.l 96) (.l 7) (.ifeq (.a 0) (.l 97) (.l 7) (.ifeq (.a 0) (.l 98) (.l 7) (.ifeq (.a 0) (.l 99) (.l 7) (.ifeq (.a 0) (.l 100) (.l 7) (.ifeq (.a 0) (.l 101) (.l 7) (.ifeq (.a 0) (.l 102) (.l 7) (.ifeq (.a 0) (.l 103) (.l 7) (.ifeq (.a 0) (.l 104) (.l 7) (.ifeq (.a 0) (.l 105) (.l 7) (.ifeq (.a 0) (.l 106) (.l 7) (.ifeq (.a 0) (.l 107) (.l 7) (.ifeq (.a 0) (.l 108) (.l 7) (.ifeq (.a 0) (.l 109) (.l 7) (.ifeq (.a 0) (.l 110) (.l 7) (.ifeq (.a 0) (.l 111) (.l 7) (.ifeq (.a 0) (.l 112) (.l 7) (.ifeq (.a 0) (.l 113) (.l 7) (.ifeq (.a 0) (.l 114) (.l 7) (.ifeq (.a 0) (.l 115) (.l 7) (.ifeq (.a 0) (.l 116) (.l 7) (.ifeq (.a 0) (.l 117) (.l 7) (.ifeq (.a 0) (.l 118) (.l 7) (.ifeq (.a 0) (.l 119) (.l 7) (.ifeq (.a 0) (.l 120) (.l 7) (.ifeq (.a 0) (.l 121) (.l 7) (.ifeq (.a 0) (.l 122) (.l 7) (.ifeq (.a 0) (.l 123) (.l 7) (.ifeq (.a 0) (.l 124) (.l 7) (.ifeq (.a 0) (.l 125) (.l 7) (.ifeq (.a 0) (.l 126) (.l 7) (.ifeq (.a 0) (.l 127) (.l 7) (.ifeq (.a 0) (.l 128) (.l 8) (.ifeq (.a 0) (.l 129) (.l 8) (.ifeq (.a 0) (.l 130) (.l 8) (.ifeq (.a 0) (.l 131) (.l 8) (.ifeq (.a 0) (.l 132) (.l 8) (.ifeq (.a 0) (.l 133) (.l 8) (.ifeq (.a 0) (.l 134) (.l 8) (.ifeq (.a 0) (.l 135) (.l 8) (.ifeq (.a 0) (.l 136) (.l 8) (.ifeq (.a 0) (.l 137) (.l 8) (.ifeq (.a 0) (.l 138) (.l 8) (.ifeq (.a 0) (.l 139) (.l 8) (.ifeq (.a 0) (.l 140) (.l 8) (.ifeq (.a 0) (.l 141) (.l 8) (.ifeq (.a 0) (.l 142) (.l 8) (.ifeq (.a 0) (.l 143) (.l 8) (.ifeq (.a 0) (.l 144) (.l 8) (.ifeq (.a 0) (.l 145) (.l 8) (.ifeq (.a 0) (.l 146) (.l 8) (.ifeq (.a 0) (.l 147) (.l 8) (.ifeq (.a 0) (.l 148) (.l 8) (.ifeq (.a 0) (.l 149) (.l 8) (.ifeq (.a 0) (.l 150) (.l 8) (.ifeq (.a 0) (.l 151) (.l 8) (.ifeq (.a 0) (.l 152) (.l 8) (.ifeq (.a 0) (.l 153) (.l 8) (.ifeq (.a 0) (.l 154) (.l 8) (.ifeq (.a 0) (.l 155) (.l 8) (.ifeq (.a 0) (.l 156) (.l 8) (.ifeq (.a 0) (.l 157) (.l 8) (.ifeq (.a 0) (.l 158) (.l 8) (.ifeq (.a 0) (.l 159) (.l 8) (.ifeq (.a 0) (.l 160) (.l 8) (.ifeq (.a 0) (.l 161) (.l 8) (.ifeq (.a 0) (.l 162) (.l 8) (.ifeq (.a 0) (.l 163) (.l 8) (.ifeq (.a 0) (.l 164) (.l 8) (.ifeq (.a 0) (.l 165) (.l 8) (.ifeq (.a 0) (.l 166) (.l 8) (.ifeq (.a 0) (.l 167) (.l 8) (.ifeq (.a 0) (.l 168) (.l 8) (.ifeq (.a 0) (.l 169) (.l 8) (.ifeq (.a 0) (.l 170) (.l 8) (.ifeq (.a 0) (.l 171) (.l 8) (.ifeq (.a 0) (.l 172) (.l 8) (.ifeq (.a 0) (.l 173) (.l 8) (.ifeq (.a 0) (.l 174) (.l 8) (.ifeq (.a 0) (.l 175) (.l 8) (.ifeq (.a 0) (.l 176) (.l 8) (.ifeq (.a 0) (.l 177) (.l 8) (.ifeq (.a 0) (.l 178) (.l 8) (.ifeq (.a 0) (.l 179) (.l 8) (.ifeq (.a 0) (.l 180) (.l 8) (.ifeq (.a 0) (.l 181) (.l 8) (.ifeq (.a 0) (.l 182) (.l 8) (.ifeq (.a 0) (.l 183) (.l 8) (.ifeq (.a 0) (.l 184) (.l 8) (.ifeq (.a 0) (.l 185) (.l 8) (.ifeq (.a 0) (.l 186) (.l 8) (.ifeq (.a 0) (.l 187) (.l 8) (.ifeq (.a 0) (.l 188) (.l 8) (.ifeq (.a 0) (.l 189) (.l 8) (.ifeq (.a 0) (.l 190) (.l 8) (.ifeq (.a 0) (.l 191) (.l 8) (.ifeq (.a 0) (.l 192) (.l 8) (.ifeq (.a 0) (.l 193) (.l 8) (.ifeq (.a 0) (.l 194) (.l 8) (.ifeq (.a 0) (.l 195) (.l 8) (.ifeq (.a 0) (.l 196) (.l 8) (.ifeq (.a 0) (.l 197) (.l 8) (.ifeq (.a 0) (.l 198) (.l 8) (.ifeq (.a 0) (.l 199) (.l 8) (.ifeq (.a 0) (.l 200) (.l 8) (.ifeq (.a 0) (.l 201) (.l 8) (.ifeq (.a 0) (.l 202) (.l 8) (.ifeq (.a 0) (.l 203) (.l 8) (.ifeq (.a 0) (.l 204) (.l 8) (.ifeq (.a 0) (.l 205) (.l 8) (.ifeq (.a 0) (.l 206) (.l 8) (.ifeq (.a 0) (.l 207) (.l 8) (.ifeq (.a 0) (.l 208) (.l 8) (.ifeq (.a 0) (.l 209) (.l 8) (.ifeq (.a 0) (.l 210) (.l 8) (.ifeq (.a 0) (.l 211) (.l 8) (.ifeq (.a 0) (.l 212) (.l 8) (.ifeq (.a 0) (.l 213) (.l 8) (.ifeq (.a 0) (.l 214) (.l 8) (.ifeq (.a 0) (.l 215) (.l 8) (.ifeq (.a 0) (.l 216) (.l 8) (.ifeq (.a 0) (.l 217) (.l 8) (.ifeq (.a 0) (.l 218) (.l 8) (.ifeq (.a 0) (.l 219) (.l 8) (.ifeq (.a 0) (.l 220) (.l 8) (.ifeq (.a 0) (.l 221) (.l 8) (.ifeq (.a 0) (.l 222) (.l 8) (.ifeq (.a 0) (.l 223) (.l 8) (.ifeq (.a 0) (.l 224) (.l 8) (.ifeq (.a 0) (.l 225) (.l 8) (.ifeq (.a 0) (.l 226) (.l 8) (.ifeq (.a 0) (.l 227) (.l 8) (.ifeq (.a 0) (.l 228) (.l 8) (.ifeq (.a 0) (.l 229) (.l 8) (.ifeq (.a 0) (.l 230) (.l 8) (.ifeq (.a 0) (.l 231) (.l 8) (.ifeq (.a 0) (.l 232) (.l 8) (.ifeq (.a 0) (.l 233) (.l 8) (.ifeq (.a 0) (.l 234) (.l 8) (.ifeq (.a 0) (.l 235) (.l 8) (.ifeq (.a 0) (.l 236) (.l 8) (.ifeq (.a 0) (.l 237) (.l 8) (.ifeq (.a 0) (.l 238) (.l 8) (.ifeq (.a 0) (.l 239) (.l 8) (.ifeq (.a 0) (.l 240) (.l 8) (.ifeq (.a 0) (.l 241) (.l 8) (.ifeq (.a 0) (.l 242) (.l 8) (.ifeq (.a 0) (.l 243) (.l 8) (.ifeq (.a 0) (.l 244) (.l 8) (.ifeq (.a 0) (.l 245) (.l 8) (.ifeq (.a 0) (.l 246) (.l 8) (.ifeq (.a 0) (.l 247) (.l 8) (.ifeq (.a 0) (.l 248) (.l 8) (.ifeq (.a 0) (.l 249) (.l 8) (.ifeq (.a 0) (.l 250) (.l 8) (.ifeq (.a 0) (.l 251) (.l 8) (.ifeq (.a 0) (.l 252) (.l 8) (.ifeq (.a 0) (.l 253) (.l 8) (.ifeq (.a 0) (.l 254) (.l 8) (.ifeq (.a 0) (.l 255) (.l 8) (.l 0))))))))))))))))))))))))))))))))))))))))))))))))))))))))))))))))))))))))))))))))))))))))))))))))))))))))))))))))))))))))))))))))))))))))))))))))))))))))))))))))))))))))))))))))))))))))))))))))))))))))))))))))))))))))))))))))))))))))))))))))))))))))))))))))) (.l 9223372036854775807)))
   (.ret false (.int .i64 (.ifeq (.a 0) (.l 0) (.l 0) (.ifeq (.a 0) (.l 1) (.l 1) (.ifeq (.a 0) (.l 2) (.l 2) (.ifeq (.a 0) (.l 3) (.l 2) (.ifeq (.a 0) (.l 4) (.l 3) (.ifeq (.a 0) (.l 5) (.l 3) (.ifeq (.a 0) (.l 6) (.l 3) (.ifeq (.a 0) (.l 7) (.l 3) (.ifeq (.a 0) (.l 8) (.l 4) (.ifeq (.a 0) (.l 9) (.l 4) (.ifeq (.a 0) (.l 10) (.l 4) (.ifeq (.a 0) (.l 11) (.l 4) (.ifeq (.a 0) (.l 12) (.l 4) (.ifeq (.a 0) (.l 13) (.l 4) (.ifeq (.a 0) (.l 14) (.l 4) (.ifeq (.a 0) (.l 15) (.l 4) (.ifeq (.a 0) (.l 16) (.l 5) (.ifeq (.a 0) (.l 17) (.l 5) (.ifeq (.a 0) (.l 18) (.l 5) (.ifeq (.a 0) (.l 19) (.l 5) (.ifeq (.a 0) (.l 20) (.l 5) (.ifeq (.a 0) (.l 21) (.l 5) (.ifeq (.a 0) (.l 22) (.l 5) (.ifeq (.a 0) (.l 23) (.l 5) (.ifeq (.a 0) (.l 24) (.l 5) (.ifeq (.a 0) (.l 25) (.l 5) (.ifeq (.a 0) (.l 26) (.l 5) (.ifeq (.a 0) (.l 27) (.l 5) (.ifeq (.a 0) (.l 28) (.l 5) (.ifeq (.a 0) (.l 29) (.l 5) (.ifeq (.a 0) (.l 30) (.l 5) (.ifeq (.a 0) (.l 31) (.l 5) (.ifeq (.a 0) (.l 32) (.l 6) (.ifeq (.a 0) (.l 33) (.l 6) (.ifeq (.a 0) (.l 34) (.l 6) (.ifeq (.a 0) (.l 35) (.l 6) (.ifeq (.a 0) (.l 36) (.l 6) (.ifeq (.a 0) (.l 37) (.l 6) (.ifeq (.a 0) (.l 38) (.l 6) (.ifeq (.a 0) (.l 39) (.l 6) (.ifeq (.a 0) (.l 40) (.l 6) (.ifeq (.a 0) (.l 41) (.l 6) (.ifeq (.a 0) (.l 42) (.l 6) (.ifeq (.a 0) (.l 43) (.l 6) (.ifeq (.a 0) (.l 44) (.l 6) (.ifeq (.a 0) (.l 45) (.l 6) (.ifeq (.a 0) (.l 46) (.l 6) (.ifeq (.a 0) (.l 47) (.l 6) (.ifeq (.a 0) (.l 48) (.l 6) (.ifeq (.a 0) (.l 49) (.l 6) (.ifeq (.a 0) (.l 50) (.l 6) (.ifeq (.a 0) (.l 51) (.l 6) (.ifeq (.a 0) (.l 52) (.l 6) (.ifeq (.a 0) (.l 53) (.l 6) (.ifeq (.a 0) (.l 54) (.l 6) (.ifeq (.a 0) (.l 55) (.l 6) (.ifeq (.a 0) (.l 56) (.l 6) (.ifeq (.a 0) (.l 57) (.l 6) (.ifeq (.a 0) (.l 58) (.l 6) (.ifeq (.a 0) (.l 59) (.l 6) (.ifeq (.a 0) (.l 60) (.l 6) (.ifeq (.a 0) (.l 61) (.l 6) (.ifeq (.a 0) (.l 62) (.l 6) (.ifeq (.a 0) (.l 63) (.l 6) (.ifeq (.a 0) (.l 64) (.l 7) (.ifeq (.a 0) (.l 65) (.l 7) (.ifeq (.a 0) (.l 66) (.l 7) (.ifeq (.a 0) (.l 67) (.l 7) (.ifeq (.a 0) (.l 68) (.l 7) (.ifeq (.a 0) (.l 69) (.l 7) (.ifeq (.a 0) (.l 70) (.l 7) (.ifeq (.a 0) (.l 71) (.l 7) (.ifeq (.a 0) (.l 72) (.l 7) (.ifeq (.a 0) (.l 73) (.l 7) (.ifeq (.a 0) (.l 74) (.l 7) (.ifeq (.a 0) (.l 75) (.l 7) (.ifeq (.a 0) (.l 76) (.l 7) (.ifeq (.a 0) (.l 77) (.l 7) (.ifeq (.a 0) (.l 78) (.l 7) (.ifeq (.a 0) (.l 79) (.l 7) (.ifeq (.a 0) (.l 80) (.l 7) (.ifeq (.a 0) (.l 81) (.l 7) (.ifeq (.a 0) (.l 82) (.l 7) (.ifeq (.a 0) (.l 83) (.l 7) (.ifeq (.a 0) (.l 84) (.l 7) (.ifeq (.a 0) (.l 85) (.l 7) (.ifeq (.a 0) (.l 86) (.l 7) (.ifeq (.a 0) (.l 87) (.l 7) (.ifeq (.a 0) (.l 88) (.l 7) (.ifeq (.a 0) (.l 89) (.l 7) (.ifeq (.a 0) (.l 90) (.l 7) (.ifeq (.a 0) (.l 91) (.l 7) (.ifeq (.a 0) (.l 92) (.l 7) (.ifeq (.a 0) (.l 93) (.l 7) (.ifeq (.a 0) (.l 94) (.l 7) (.ifeq (.a 0) (.l 95) (.l 7) (.ifeq (.a 0) (.l 96) (.l 7) (.ifeq (.a 0) (.l 97) (.l 7) (.ifeq (.a 0) (.l 98) (.l 7) (.ifeq (.a 0) (.l 99) (.l 7) (.ifeq (.a 0) (.l 100) (.l 7) (.ifeq (.a 0) (.l 101) (.l 7) (.ifeq (.a 0) (.l 102) (.l 7) (.ifeq (.a 0) (.l 103) (.l 7) (.ifeq (.a 0) (.l 104) (.l 7) (.ifeq (.a 0) (.l 105) (.l 7) (.ifeq (.a 0) (.l 106) (.l 7) (.ifeq (.a 0) (.l 107) (.l 7) (.ifeq (.a 0) (.l 108) (.l 7) (.ifeq (.a 0) (.l 109) (.l 7) (.ifeq (.a 0) (.l 110) (.l 7) (.ifeq (.a 0) (.l 111) (.l 7) (.ifeq (.a 0) (.l 112) (.l 7) (.ifeq (.a 0) (.l 113) (.l 7) (.ifeq (.a 0) (.l 114) (.l 7) (.ifeq (.a 0) (.l 115) (.l 7) (.ifeq (.a 0) (.l 116) (.l 7) (.ifeq (.a 0) (.l 117) (.l 7) (.ifeq (.a 0) (.l 118) (.l 7) (.ifeq (.a 0) (.l 119) (.l 7) (.ifeq (.a 0) (.l 120) (.l 7) (.ifeq (.a 0) (.l 121) (.l 7) (.ifeq (.a 0) (.l 122) (.l 7) (.ifeq (.a 0) (.l 123) (.l 7) (.ifeq (.a 0) (.l 124) (.l 7) (.ifeq (.a 0) (.l 125) (.l 7) (.ifeq (.a 0) (.l 126) (.l 7) (.ifeq (.a 0) (.l 127) (.l 7) (.ifeq (.a 0) (.l 128) (.l 8) (.ifeq (.a 0) (.l 129) (.l 8) (.ifeq (.a 0) (.l 130) (.l 8) (.ifeq (.a 0) (.l 131) (.l 8) (.ifeq (.a 0) (.l 132) (.l 8) (.ifeq (.a 0) (.l 133) (.l 8) (.ifeq (.a 0) (.l 134) (.l 8) (.ifeq (.a 0) (.l 135) (.l 8) (.ifeq (.a 0) (.l 136) (.l 8) (.ifeq (.a 0) (.l 137) (.l 8) (.ifeq (.a 0) (.l 138) (.l 8) (.ifeq (.a 0) (.l 139) (.l 8) (.ifeq (.a 0) (.l 140) (.l 8) (.ifeq (.a 0) (.l 141) (.l 8) (.ifeq (.a 0) (.l 142) (.l 8) (.ifeq (.a 0) (.l 143) (.l 8) (.ifeq (.a 0) (.l 144) (.l 8) (.ifeq (.a 0) (.l 145) (.l 8) (.ifeq (.a 0) (.l 146) (.l 8) (.ifeq (.a 0) (.l 147) (.l 8) (.ifeq (.a 0) (.l 148) (.l 8) (.ifeq (.a 0) (.l 149) (.l 8) (.ifeq (.a 0) (.l 150) (.l 8) (.ifeq (.a 0) (.l 151) (.l 8) (.ifeq (.a 0) (.l 152) (.l 8) (.ifeq (.a 0) (.l 153) (.l 8) (.ifeq (.a 0) (.l 154) (.l 8) (.ifeq (.a 0) (.l 155) (.l 8) (.ifeq (.a 0) (.l 156) (.l 8) (.ifeq (.a 0) (.l 157) (.l 8) (.ifeq (.a 0) (.l 158) (.l 8) (.ifeq (.a 0) (.l 159) (.l 8) (.ifeq (.a 0) (.l 160) (.l 8) (.ifeq (.a 0) (.l 161) (.l 8) (.ifeq (.a 0) (.l 162) (.l 8) (.ifeq (.a 0) (.l 163) (.l 8) (.ifeq (.a 0) (.l 164) (.l 8) (.ifeq (.a 0) (.l 165) (.l 8) (.ifeq (.a 0) (.l 166) (.l 8) (.ifeq (.a 0) (.l 167) (.l 8) (.ifeq (.a 0) (.l 168) (.l 8) (.ifeq (.a 0) (.l 169) (.l 8) (.ifeq (.a 0) (.l 170) (.l 8) (.ifeq (.a 0) (.l 171) (.l 8) (.ifeq (.a 0) (.l 172) (.l 8) (.ifeq (.a 0) (.l 173) (.l 8) (.ifeq (.a 0) (.l 174) (.l 8) (.ifeq (.a 0) (.l 175) (.l 8) (.ifeq (.a 0) (.l 176) (.l 8) (.ifeq (.a 0) (.l 177) (.l 8) (.ifeq (.a 0) (.l 178) (.l 8) (.ifeq (.a 0) (.l 179) (.l 8) (.ifeq (.a 0) (.l 180) (.l 8) (.ifeq (.a 0) (.l 181) (.l 8) (.ifeq (.a 0) (.l 182) (.l 8) (.ifeq (.a 0) (.l 183) (.l 8) (.ifeq (.a 0) (.l 184) (.l 8) (.ifeq (.a 0) (.l 185) (.l 8) (.ifeq (.a 0) (.l 186) (.l 8) (.ifeq (.a 0) (.l 187) (.l 8) (.ifeq (.a 0) (.l 188) (.l 8) (.ifeq (.a 0) (.l 189) (.l 8) (.ifeq (.a 0) (.l 190) (.l 8) (.ifeq (.a 0) (.l 191) (.l 8) (.ifeq (.a 0) (.l 192) (.l 8) (.ifeq (.a 0) (.l 193) (.l 8) (.ifeq (.a 0) (.l 194) (.l 8) (.ifeq (.a 0) (.l 195) (.l 8) (.ifeq (.a 0) (.l 196) (.l 8) (.ifeq (.a 0) (.l 197) (.l 8) (.ifeq (.a 0) (.l 198) (.l 8) (.ifeq (.a 0) (.l 199) (.l 8) (.ifeq (.a 0) (.l 200) (.l 8) (.ifeq (.a 0) (.l 201) (.l 8) (.ifeq (.a 0) (.l 202) (.l 8) (.ifeq (.a 0) (.l 203) (.l 8) (.ifeq (.a 0) (.l 204) (.l 8) (.ifeq (.a 0) (.l 205) (.l 8) (.ifeq (.a 0) (.l 206) (.l 8) (.ifeq (.a 0) (.l 207) (.l 8) (.ifeq (.a 0) (.l 208) (.l 8) (.ifeq (.a 0) (.l 209) (.l 8) (.ifeq (.a 0) (.l 210) (.l 8) (.ifeq (.a 0) (.l 211) (.l 8) (.ifeq (.a 0) (.l 212) (.l 8) (.ifeq (.a 0) (.l 213) (.l 8) (.ifeq (.a 0) (.l 214) (.l 8) (.ifeq (.a 0) (.l 215) (.l 8) (.ifeq (.a 0) (.l 216) (.l 8) (.ifeq (.a 0) (.l 217) (.l 8) (.ifeq (.a 0) (.l 218) (.l 8) (.ifeq (.a 0) (.l 219) (.l 8) (.ifeq (.a 0) (.l 220) (.l 8) (.ifeq (.a 0) (.l 221) (.l 8) (.ifeq (.a 0) (.l 222) (.l 8) (.ifeq (.a 0) (.l 223) (.l 8) (.ifeq (.a 0) (.l 224) (.l 8) (.ifeq (.a 0) (.l 225) (.l 8) (.ifeq (.a 0) (.l 226) (.l 8) (.ifeq (.a 0) (.l 227) (.l 8) (.ifeq (.a 0) (.l 228) (.l 8) (.ifeq (.a 0) (.l 229) (.l 8) (.ifeq (.a 0) (.l 230) (.l 8) (.ifeq (.a 0) (.l 231) (.l 8) (.ifeq (.a 0) (.l 232) (.l 8) (.ifeq (.a 0) (.l 233) (.l 8) (.ifeq (.a 0) (.l 234) (.l 8) (.ifeq (.a 0) (.l 235) (.l 8) (.ifeq (.a 0) (.l 236) (.l 8) (.ifeq (.a 0) (.l 237) (.l 8) (.ifeq (.a 0) (.l 238) (.l 8) (.ifeq (.a 0) (.l 239) (.l 8) (.ifeq (.a 0) (.l 240) (.l 8) (.ifeq (.a 0) (.l 241) (.l 8) (.ifeq (.a 0) (.l 242) (.l 8) (.ifeq (.a 0) (.l 243) (.l 8) (.ifeq (.a 0) (.l 244) (.l 8) (.ifeq (.a 0) (.l 245) (.l 8) (.ifeq (.a 0) (.l 246) (.l 8) (.ifeq (.a 0) (.l 247) (.l 8) (.ifeq (.a 0) (.l 248) (.l 8) (.ifeq (.a 0) (.l 249) (.l 8) (.ifeq (.a 0) (.l 250) (.l 8) (.ifeq (.a 0) (.l 251) (.l 8) (.ifeq (.a 0) (.l 252) (.l 8) (.ifeq (.a 0) (.l 253) (.l 8) (.ifeq (.a 0) (.l 254) (.l 8) (.ifeq (.a 0) (.l 255) (.l 8) (.l 0)))))))))))))))))))))))))))))))))))))))))))))))))))))))))))))))))))))))))))))))))))))))))))))))))))))))))))))))))))))))))))))))))))))))))))))))))))))))))))))))))))))))))))))))))))))))))))))))))))))))))))))))))))))))))))))))))))))))))))))))))))))))))))))))))) [])))))))
def math_bits_Len32_S : Sx.Sys := ⟨[(.sh (.one (.int .u32)))], math_bits_Len32_s, [], none⟩
def math_bits_Len32_pats : List Cfg := []
theorem math_bits_Len32_ok : SysOk Try.prog 62 math_bits_Len32_S := sys_ok (c := (cg [] [] [] false false false true)) (progOkG _ _ _ _ _ _ _) Try.func62 Try.call62 (by kernel_rfl) math_bits_Len32_pats math_bits_Len32_S 5000 rfl (by kernel_rfl) (by kernel_rfl) rfl
end Go.Proofs.Ytggjcdnailppoaa
