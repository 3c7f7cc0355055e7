/- The trees of this seat's functions, part 3. Written by txgen.py. -/
import Derived.Test.YtggjcdnailppoaaHTab
set_option linter.unusedSimpArgs false
set_option linter.unusedVariables false
set_option maxRecDepth 100000
namespace Go.Proofs.Ytggjcdnailppoaa
open Go.Sx
def saleroomlaw40_RelcapChecks_s : PT :=
 (.need (.is 0 0)
 (.ite (.lt (.l 14) (.slen 0))
  (.call 9 [] [] [(.one .bool)]
  (.ret false (.bool (.a 0)) []))
  (.need (.is 0 1)
  (.ite (.lt (.l 14) (.slen 1))
   (.call 9 [] [] [(.one .bool)]
   (.ret false (.bool (.a 0)) []))
   (.call 15 [(.va 0), (.va 1)] [] [(.one (.int .i64)), (.one (.int .i64))]
   (.call 18 [(.va 0), (.va 1)] [] [(.one (.int .i64)), (.one (.int .i64))]
   (.ite (.eq (.a 0) (.a 2))
    (.ite (.eq (.a 1) (.a 3))
     (.call 19 [(.va 0), (.va 1)] [] [(.one .val)]
     (.call 20 [(.va 0), (.va 1)] [] [(.one .val)]
     (.call 10 [(.va 2), (.va 3)] [] [(.one .bool)]
     (.ite (.a 0)
      (.call 9 [] [] [(.one .bool)]
      (.ret false (.bool (.a 1)) []))
      (.ret false (.bool (.t false)) [])))))
     (.ret false (.bool (.t false)) []))
    (.ret false (.bool (.t false)) []))))))))
def saleroomlaw40_RelcapChecks_S : Sx.Sys := ⟨[(.sh (.one .val)), (.sh (.one .val))], saleroomlaw40_RelcapChecks_s, [], none⟩
def saleroomlaw40_RelcapChecks_pats : List Cfg := []
theorem saleroomlaw40_RelcapChecks_ok : SysOk Try.prog 6 saleroomlaw40_RelcapChecks_S := sys_ok (c := (cg [] [] [] false false false true)) (progOkG _ _ _ _ _ _ _ _) Try.func6 Try.call6 (by kernel_rfl) saleroomlaw40_RelcapChecks_pats saleroomlaw40_RelcapChecks_S 5000 rfl (by kernel_rfl) (by kernel_rfl) rfl
def saleroomref40_Most_s : PT :=
 (.call 21 [(.va 0)] [] [(.one .bool)]
 (.ite (.not (.a 0))
  (.ret false (.int .i64 (.l 0)) [])
  (.call 17 [(.agg [(.int .i64 (.a 0)), (.int .i64 (.a 1)), (.int .i64 (.a 2)), (.int .i64 (.a 3)), (.int .i64 (.a 4)), (.int .i64 (.a 5))])] [] [(.one (.int .i64))]
  (.ite (.not (.eq (.a 6) (.l 0)))
   (.ret false (.int .i64 (.l 0)) [])
   (.jump 0 [(.l 1000000), (.l 0), (.a 0), (.a 1), (.a 2), (.a 3), (.a 4), (.a 5)] [] [(.va 0), (.va 1)])))))
def saleroomref40_Most_t0 : PT :=
 (.need (.is 0 0)
 (.ite (.lt (.a 1) (.slen 0))
  (.need (.and (.le (.l 0) (.a 1)) (.lt (.a 1) (.slen 0)))
  (.load true (.ea 0 (.a 1) 12 6) [(.int .i64), (.int .i64), (.int .i64), (.int .i64), (.int .i64), (.int .i64)]
  (.ite (.not (.and (.eq (.a 8) (.a 2)) (.and (.eq (.a 9) (.a 3)) (.and (.eq (.a 10) (.a 4)) (.and (.eq (.a 11) (.a 5)) (.and (.eq (.a 12) (.a 6)) (.eq (.a 13) (.a 7))))))))
   (.need (.and (.le (.l 0) (.a 1)) (.lt (.a 1) (.slen 0)))
   (.need (.and (.le (.l 0) (.a 1)) (.lt (.a 1) (.slen 0)))
   (.need (.and (.le (.l 0) (.a 1)) (.lt (.a 1) (.slen 0)))
   (.need (.and (.le (.l 0) (.a 1)) (.lt (.a 1) (.slen 0)))
   (.load true (.ea 0 (.a 1) 12 6) [(.int .i64), (.int .i64), (.int .i64), (.int .i64), (.int .i64), (.int .i64)]
   (.load true (.ea 0 (.a 1) 12 0) [(.int .i64), (.int .i64), (.int .i64), (.int .i64), (.int .i64), (.int .i64), (.int .i64), (.int .i64), (.int .i64), (.int .i64), (.int .i64), (.int .i64)]
   (.load true (.ea 0 (.a 1) 12 0) [(.int .i64), (.int .i64), (.int .i64), (.int .i64), (.int .i64), (.int .i64), (.int .i64), (.int .i64), (.int .i64), (.int .i64), (.int .i64), (.int .i64)]
   (.load true (.ea 0 (.a 1) 12 6) [(.int .i64), (.int .i64), (.int .i64), (.int .i64), (.int .i64), (.int .i64)]
   (.call 22 [(.va 0), (.va 1), (.agg [(.int .i64 (.a 14)), (.int .i64 (.a 15)), (.int .i64 (.a 16)), (.int .i64 (.a 17)), (.int .i64 (.a 18)), (.int .i64 (.a 19))])] [] [(.one (.int .i64))]
   (.call 23 [(.agg [(.int .i64 (.a 20)), (.int .i64 (.a 21)), (.int .i64 (.a 22)), (.int .i64 (.a 23)), (.int .i64 (.a 24)), (.int .i64 (.a 25)), (.int .i64 (.a 26)), (.int .i64 (.a 27)), (.int .i64 (.a 28)), (.int .i64 (.a 29)), (.int .i64 (.a 30)), (.int .i64 (.a 31))]), (.agg [(.int .i64 (.a 2)), (.int .i64 (.a 3)), (.int .i64 (.a 4)), (.int .i64 (.a 5)), (.int .i64 (.a 6)), (.int .i64 (.a 7))])] [] [(.one (.int .i64))]
   (.need (.and (.le (.l (-9223372036854775808)) (.add (.a 50) (.a 51))) (.le (.add (.a 50) (.a 51)) (.l 9223372036854775807)))
   (.call 23 [(.agg [(.int .i64 (.a 32)), (.int .i64 (.a 33)), (.int .i64 (.a 34)), (.int .i64 (.a 35)), (.int .i64 (.a 36)), (.int .i64 (.a 37)), (.int .i64 (.a 38)), (.int .i64 (.a 39)), (.int .i64 (.a 40)), (.int .i64 (.a 41)), (.int .i64 (.a 42)), (.int .i64 (.a 43))]), (.agg [(.int .i64 (.a 44)), (.int .i64 (.a 45)), (.int .i64 (.a 46)), (.int .i64 (.a 47)), (.int .i64 (.a 48)), (.int .i64 (.a 49))])] [] [(.one (.int .i64))]
   (.need (.and (.le (.l (-9223372036854775808)) (.sub (.add (.a 50) (.a 51)) (.a 52))) (.le (.sub (.add (.a 50) (.a 51)) (.a 52)) (.l 9223372036854775807)))
   (.need (.and (.le (.l (-9223372036854775808)) (.add (.a 1) (.l 1))) (.le (.add (.a 1) (.l 1)) (.l 9223372036854775807)))
   (.jump 0 [(.mn (.a 0) (.sub (.add (.a 50) (.a 51)) (.a 52))), (.add (.a 1) (.l 1)), (.a 2), (.a 3), (.a 4), (.a 5), (.a 6), (.a 7)] [] [(.va 0), (.va 1)])))))))))))))))
   (.need (.and (.le (.l (-9223372036854775808)) (.add (.a 1) (.l 1))) (.le (.add (.a 1) (.l 1)) (.l 9223372036854775807)))
   (.jump 0 [(.a 0), (.add (.a 1) (.l 1)), (.a 2), (.a 3), (.a 4), (.a 5), (.a 6), (.a 7)] [] [(.va 0), (.va 1)])))))
  (.ret false (.int .i64 (.a 0)) [])))
def saleroomref40_Most_S : Sx.Sys := ⟨[(.sh (.one .val)), (.sh (.one .val)), (.sh (.agg [(.int .i64), (.int .i64), (.int .i64), (.int .i64), (.int .i64), (.int .i64)]))], saleroomref40_Most_s, [saleroomref40_Most_t0], none⟩
def saleroomref40_Most_pats : List Cfg := [{ todo := [(.code [false, false, true, false, true, true, true]), (.inLoop [false, false, true, false, true, true, true]), (.inBlock 0), (.code [true, true, true, true])], sl := [(.va 0), (.va 1), (.junk 0), .undef, .undef, (.ptr 0 0), (.junk 1), (.int .i64 (.a 0)), (.int .i64 (.a 1)), (.junk 2), (.junk 3), (.junk 4), (.junk 5), (.junk 6), (.junk 7), (.junk 8), (.junk 9), (.junk 10), (.junk 11), (.junk 12), (.junk 13), (.junk 14), (.junk 15), (.junk 16), (.junk 17), (.junk 18), (.junk 19), (.junk 20), (.junk 21), (.junk 22), (.junk 23), (.junk 24), (.junk 25), (.junk 26), (.junk 27), (.junk 28), (.junk 29), (.junk 30), (.junk 31), (.junk 32), (.junk 33), (.junk 34), (.junk 35), (.junk 36), (.junk 37), (.junk 38), (.junk 39), (.junk 40), (.junk 41), (.junk 42), (.junk 43), (.junk 44), (.junk 45), (.junk 46), (.junk 47), (.junk 48), (.junk 49), (.junk 50), .undef], H := [(.cells [(.int .i64 (.a 2)), (.int .i64 (.a 3)), (.int .i64 (.a 4)), (.int .i64 (.a 5)), (.int .i64 (.a 6)), (.int .i64 (.a 7))] 29 false)], ni := 8, nb := 0, nv := 2, nj := 51 }]
theorem saleroomref40_Most_ok : SysOk Try.prog 14 saleroomref40_Most_S := sys_ok (c := (cg [[false, false, true, false, true, true, true]] [] [] false false false true)) (progOkG _ _ _ _ _ _ _ _) Try.func14 Try.call14 (by kernel_rfl) saleroomref40_Most_pats saleroomref40_Most_S 5000 rfl (by kernel_rfl) (by kernel_rfl) rfl
def saleroomref40_Final_s : PT :=
 (.jump 0 [(.l 0), (.l 0), (.a 0), (.a 1), (.a 2), (.a 3), (.a 4), (.a 5)] [] [(.va 0), (.va 1)])
def saleroomref40_Final_t0 : PT :=
 (.need (.is 0 0)
 (.ite (.lt (.a 1) (.slen 0))
  (.need (.and (.le (.l 0) (.a 1)) (.lt (.a 1) (.slen 0)))
  (.load true (.ea 0 (.a 1) 12 6) [(.int .i64), (.int .i64), (.int .i64), (.int .i64), (.int .i64), (.int .i64)]
  (.ite (.and (.eq (.a 8) (.a 2)) (.and (.eq (.a 9) (.a 3)) (.and (.eq (.a 10) (.a 4)) (.and (.eq (.a 11) (.a 5)) (.and (.eq (.a 12) (.a 6)) (.eq (.a 13) (.a 7)))))))
   (.need (.and (.le (.l 0) (.a 1)) (.lt (.a 1) (.slen 0)))
   (.load true (.ea 0 (.a 1) 12 0) [(.int .i64), (.int .i64), (.int .i64), (.int .i64), (.int .i64), (.int .i64), (.int .i64), (.int .i64), (.int .i64), (.int .i64), (.int .i64), (.int .i64)]
   (.call 23 [(.agg [(.int .i64 (.a 14)), (.int .i64 (.a 15)), (.int .i64 (.a 16)), (.int .i64 (.a 17)), (.int .i64 (.a 18)), (.int .i64 (.a 19)), (.int .i64 (.a 20)), (.int .i64 (.a 21)), (.int .i64 (.a 22)), (.int .i64 (.a 23)), (.int .i64 (.a 24)), (.int .i64 (.a 25))]), (.agg [(.int .i64 (.a 2)), (.int .i64 (.a 3)), (.int .i64 (.a 4)), (.int .i64 (.a 5)), (.int .i64 (.a 6)), (.int .i64 (.a 7))])] [] [(.one (.int .i64))]
   (.need (.and (.le (.l (-9223372036854775808)) (.add (.a 1) (.l 1))) (.le (.add (.a 1) (.l 1)) (.l 9223372036854775807)))
   (.jump 0 [(.mx (.a 0) (.a 26)), (.add (.a 1) (.l 1)), (.a 2), (.a 3), (.a 4), (.a 5), (.a 6), (.a 7)] [] [(.va 0), (.va 1)])))))
   (.need (.and (.le (.l (-9223372036854775808)) (.add (.a 1) (.l 1))) (.le (.add (.a 1) (.l 1)) (.l 9223372036854775807)))
   (.jump 0 [(.a 0), (.add (.a 1) (.l 1)), (.a 2), (.a 3), (.a 4), (.a 5), (.a 6), (.a 7)] [] [(.va 0), (.va 1)])))))
  (.jump 1 [(.a 0), (.l 0), (.a 2), (.a 3), (.a 4), (.a 5), (.a 6), (.a 7)] [] [(.va 1)])))
def saleroomref40_Final_t1 : PT :=
 (.need (.is 0 0)
 (.ite (.lt (.a 1) (.slen 0))
  (.need (.and (.le (.l 0) (.a 1)) (.lt (.a 1) (.slen 0)))
  (.load true (.ea 0 (.a 1) 8 0) [(.int .i64), (.int .i64), (.int .i64), (.int .i64), (.int .i64), (.int .i64), (.int .i64), (.int .i64)]
  (.call 16 [(.agg [(.int .i64 (.a 8)), (.int .i64 (.a 9)), (.int .i64 (.a 10)), (.int .i64 (.a 11)), (.int .i64 (.a 12)), (.int .i64 (.a 13)), (.int .i64 (.a 14)), (.int .i64 (.a 15))])] [] [(.one .bool)]
  (.ite (.a 0)
   (.need (.and (.le (.l 0) (.a 1)) (.lt (.a 1) (.slen 0)))
   (.load true (.ea 0 (.a 1) 8 1) [(.int .i64), (.int .i64), (.int .i64), (.int .i64), (.int .i64), (.int .i64)]
   (.ite (.and (.eq (.a 16) (.a 2)) (.and (.eq (.a 17) (.a 3)) (.and (.eq (.a 18) (.a 4)) (.and (.eq (.a 19) (.a 5)) (.and (.eq (.a 20) (.a 6)) (.eq (.a 21) (.a 7)))))))
    (.need (.and (.le (.l 0) (.a 1)) (.lt (.a 1) (.slen 0)))
    (.load false (.ea 0 (.a 1) 8 7) [(.int .i64)]
    (.need (.and (.le (.l (-9223372036854775808)) (.add (.a 1) (.l 1))) (.le (.add (.a 1) (.l 1)) (.l 9223372036854775807)))
    (.jump 1 [(.mx (.a 0) (.a 22)), (.add (.a 1) (.l 1)), (.a 2), (.a 3), (.a 4), (.a 5), (.a 6), (.a 7)] [] [(.va 0)]))))
    (.need (.and (.le (.l (-9223372036854775808)) (.add (.a 1) (.l 1))) (.le (.add (.a 1) (.l 1)) (.l 9223372036854775807)))
    (.jump 1 [(.a 0), (.add (.a 1) (.l 1)), (.a 2), (.a 3), (.a 4), (.a 5), (.a 6), (.a 7)] [] [(.va 0)])))))
   (.need (.and (.le (.l (-9223372036854775808)) (.add (.a 1) (.l 1))) (.le (.add (.a 1) (.l 1)) (.l 9223372036854775807)))
   (.jump 1 [(.a 0), (.add (.a 1) (.l 1)), (.a 2), (.a 3), (.a 4), (.a 5), (.a 6), (.a 7)] [] [(.va 0)]))))))
  (.ret false (.int .i64 (.a 0)) [])))
def saleroomref40_Final_S : Sx.Sys := ⟨[(.sh (.one .val)), (.sh (.one .val)), (.sh (.agg [(.int .i64), (.int .i64), (.int .i64), (.int .i64), (.int .i64), (.int .i64)]))], saleroomref40_Final_s, [saleroomref40_Final_t0, saleroomref40_Final_t1], none⟩
def saleroomref40_Final_pats : List Cfg := [{ todo := [(.code [false, false, true, false, true, true]), (.inLoop [false, false, true, false, true, true]), (.inBlock 0), (.code [true, true, true])], sl := [(.va 0), (.va 1), (.junk 0), .undef, .undef, (.ptr 0 0), (.junk 1), (.int .i64 (.a 0)), (.int .i64 (.a 1)), .undef, (.junk 2), (.junk 3), (.junk 4), (.junk 5), (.junk 6), (.junk 7), (.junk 8), (.junk 9), (.junk 10), (.junk 11), (.junk 12), (.junk 13), (.junk 14), (.junk 15), (.junk 16), (.junk 17), (.junk 18), (.junk 19), (.junk 20), (.junk 21), (.junk 22), .undef, .undef, .undef, .undef, .undef, .undef, .undef, .undef, .undef, .undef, .undef, .undef, .undef, .undef, .undef, .undef, .undef, .undef, .undef, .undef, .undef, .undef, .undef, .undef, .undef, .undef, .undef, .undef], H := [(.cells [(.int .i64 (.a 2)), (.int .i64 (.a 3)), (.int .i64 (.a 4)), (.int .i64 (.a 5)), (.int .i64 (.a 6)), (.int .i64 (.a 7))] 29 false)], ni := 8, nb := 0, nv := 2, nj := 23 },
 { todo := [(.code [false, false, true, false, true, true, true]), (.inLoop [false, false, true, false, true, true, true]), (.inBlock 2), (.code [true, true, true, true])], sl := [(.junk 0), (.va 0), (.junk 1), .undef, .undef, (.ptr 0 0), (.junk 2), (.int .i64 (.a 0)), (.junk 3), (.int .i64 (.a 1)), (.junk 4), (.junk 5), (.junk 6), (.junk 7), (.junk 8), (.junk 9), (.junk 10), (.junk 11), (.junk 12), (.junk 13), (.junk 14), (.junk 15), (.junk 16), (.junk 17), (.junk 18), (.junk 19), (.junk 20), (.junk 21), (.junk 22), (.junk 23), (.junk 24), (.junk 25), (.junk 26), (.junk 27), (.junk 28), (.junk 29), (.junk 30), (.junk 31), (.junk 32), (.junk 33), (.junk 34), (.junk 35), (.junk 36), (.junk 37), (.junk 38), (.junk 39), (.junk 40), (.junk 41), (.junk 42), (.junk 43), (.junk 44), (.junk 45), (.junk 46), (.junk 47), (.junk 48), (.junk 49), (.junk 50), (.junk 51), .undef], H := [(.cells [(.int .i64 (.a 2)), (.int .i64 (.a 3)), (.int .i64 (.a 4)), (.int .i64 (.a 5)), (.int .i64 (.a 6)), (.int .i64 (.a 7))] 29 false)], ni := 8, nb := 0, nv := 1, nj := 52 }]
theorem saleroomref40_Final_ok : SysOk Try.prog 22 saleroomref40_Final_S := sys_ok (c := (cg [[false, false, true, false, true, true], [false, false, true, false, true, true, true]] [] [] false false false true)) (progOkG _ _ _ _ _ _ _ _) Try.func22 Try.call22 (by kernel_rfl) saleroomref40_Final_pats saleroomref40_Final_S 5000 rfl (by kernel_rfl) (by kernel_rfl) rfl
def slices_SortFunc_api_Offer_api_Offer_s : PT :=
 (.need (.is 0 0)
 (.need (.and (.le (.l 0) (.slen 0)) (.le (.slen 0) (.l 18446744073709551615)))
 (.call 49 [(.int .u64 (.slen 0))] [] [(.one (.int .i64))]
 (.call 48 [(.va 0), (.int .i64 (.l 0)), (.int .i64 (.slen 0)), (.int .i64 (.a 0)), (.va 1)] [] []
 (.ret false (.tup []) [])))))
def slices_SortFunc_api_Offer_api_Offer_S : Sx.Sys := ⟨[(.sh (.one .val)), (.sh (.one .val))], slices_SortFunc_api_Offer_api_Offer_s, [], none⟩
def slices_SortFunc_api_Offer_api_Offer_pats : List Cfg := []
theorem slices_SortFunc_api_Offer_api_Offer_ok : SysOk Try.prog 30 slices_SortFunc_api_Offer_api_Offer_S := sys_ok (c := (cg [] [] [] false false false true)) (progOkG _ _ _ _ _ _ _ _) Try.func30 Try.call30 (by kernel_rfl) slices_SortFunc_api_Offer_api_Offer_pats slices_SortFunc_api_Offer_api_Offer_S 5000 rfl (by kernel_rfl) (by kernel_rfl) rfl
def slices_Clone_api_Offer_api_Offer_s : PT :=
 (.need (.is 0 0)
 (.ite (.nil 0)
  (.ret false .nilS [])
  (.app none (.lit []) 8
  (.app (some 1) (.va 0) 8
  (.ret false (.va 2) [])))))
def slices_Clone_api_Offer_api_Offer_S : Sx.Sys := ⟨[(.sh (.one .val))], slices_Clone_api_Offer_api_Offer_s, [], none⟩
def slices_Clone_api_Offer_api_Offer_pats : List Cfg := []
theorem slices_Clone_api_Offer_api_Offer_ok : SysOk Try.prog 38 slices_Clone_api_Offer_api_Offer_S := sys_ok (c := (cg [] [] [] false false false true)) (progOkG _ _ _ _ _ _ _ _) Try.func38 Try.call38 (by kernel_rfl) slices_Clone_api_Offer_api_Offer_pats slices_Clone_api_Offer_api_Offer_S 5000 rfl (by kernel_rfl) (by kernel_rfl) rfl
def slices_IndexFunc_api_Offer_api_Offer_s : PT :=
 (.need (.is 0 0)
 (.jump 0 [(.slen 0), (.l 0)] [] [(.va 0), (.va 1)]))
def slices_IndexFunc_api_Offer_api_Offer_t0 : PT :=
 (.ite (.lt (.a 1) (.a 0))
  (.need (.and (.le (.l 0) (.a 1)) (.lt (.a 1) (.slen 0)))
  (.load false (.ea 0 (.a 1) 8 0) [(.int .i64), (.int .i64), (.int .i64), (.int .i64), (.int .i64), (.int .i64), (.int .i64), (.int .i64)]
  (.callv 1 [(.agg [(.int .i64 (.a 2)), (.int .i64 (.a 3)), (.int .i64 (.a 4)), (.int .i64 (.a 5)), (.int .i64 (.a 6)), (.int .i64 (.a 7)), (.int .i64 (.a 8)), (.int .i64 (.a 9))])] [(.one .bool)]
  (.ite (.a 0)
   (.ret false (.int .i64 (.a 1)) [])
   (.need (.and (.le (.l (-9223372036854775808)) (.add (.a 1) (.l 1))) (.le (.add (.a 1) (.l 1)) (.l 9223372036854775807)))
   (.jump 0 [(.a 0), (.add (.a 1) (.l 1))] [] [(.va 0), (.va 1)]))))))
  (.ret false (.int .i64 (.l (-1))) []))
def slices_IndexFunc_api_Offer_api_Offer_S : Sx.Sys := ⟨[(.sh (.one .val)), (.sh (.one .val))], slices_IndexFunc_api_Offer_api_Offer_s, [slices_IndexFunc_api_Offer_api_Offer_t0], none⟩
def slices_IndexFunc_api_Offer_api_Offer_pats : List Cfg := [{ todo := [(.code [false, false, true, false, true]), (.inLoop [false, false, true, false, true]), (.inBlock 0), (.code [true, true])], sl := [(.va 0), (.va 1), .undef, .undef, (.junk 0), (.junk 1), (.junk 2), (.int .i64 (.a 0)), (.int .i64 (.a 1)), (.junk 3), (.junk 4), (.junk 5), (.junk 6), (.junk 7), (.junk 8), (.junk 9), (.junk 10), .undef, (.junk 11)], H := [], ni := 2, nb := 0, nv := 2, nj := 12 }]
theorem slices_IndexFunc_api_Offer_api_Offer_ok : SysOk Try.prog 47 slices_IndexFunc_api_Offer_api_Offer_S := sys_ok (c := (cg [[false, false, true, false, true]] [] [(11, [4])] false false false true)) (progOkG _ _ _ _ _ _ _ _) Try.func47 Try.call47 (by kernel_rfl) slices_IndexFunc_api_Offer_api_Offer_pats slices_IndexFunc_api_Offer_api_Offer_S 5000 rfl (by kernel_rfl) (by kernel_rfl) rfl
def slices_breakPatternsCmpFunc_api_Offer_s : PT :=
 (.need (.and (.le (.l (-9223372036854775808)) (.sub (.a 1) (.a 0))) (.le (.sub (.a 1) (.a 0)) (.l 9223372036854775807)))
 (.ite (.le (.l 8) (.sub (.a 1) (.a 0)))
  (.need (.and (.le (.l 0) (.sub (.a 1) (.a 0))) (.le (.sub (.a 1) (.a 0)) (.l 18446744073709551615)))
  (.newM [(.int .u64 (.l 0))] 89
  (.storeM (.pa 2 0) [(.int .u64 (.sub (.a 1) (.a 0)))]
  (.call 65 [(.int .i64 (.sub (.a 1) (.a 0)))] [] [(.one (.int .u64))]
  (.need (.and (.le (.l (-9223372036854775808)) (.tdiv (.sub (.a 1) (.a 0)) (.l 4))) (.le (.tdiv (.sub (.a 1) (.a 0)) (.l 4)) (.l 9223372036854775807)))
  (.need (.and (.le (.l (-9223372036854775808)) (.mul (.tdiv (.sub (.a 1) (.a 0)) (.l 4)) (.l 2))) (.le (.mul (.tdiv (.sub (.a 1) (.a 0)) (.l 4)) (.l 2)) (.l 9223372036854775807)))
  (.need (.and (.le (.l (-9223372036854775808)) (.add (.a 0) (.mul (.tdiv (.sub (.a 1) (.a 0)) (.l 4)) (.l 2)))) (.le (.add (.a 0) (.mul (.tdiv (.sub (.a 1) (.a 0)) (.l 4)) (.l 2))) (.l 9223372036854775807)))
  (.need (.and (.le (.l (-9223372036854775808)) (.sub (.add (.a 0) (.mul (.tdiv (.sub (.a 1) (.a 0)) (.l 4)) (.l 2))) (.l 1))) (.le (.sub (.add (.a 0) (.mul (.tdiv (.sub (.a 1) (.a 0)) (.l 4)) (.l 2))) (.l 1)) (.l 9223372036854775807)))
  (.jump 0 [(.a 0), (.sub (.a 1) (.a 0)), (.a 2), (.sub (.add (.a 0) (.mul (.tdiv (.sub (.a 1) (.a 0)) (.l 4)) (.l 2))) (.l 1))] [] [(.va 0), (.va 2)])))))))))
  (.ret false (.tup []) [])))
def slices_breakPatternsCmpFunc_api_Offer_t0 : PT :=
 (.need (.and (.le (.l (-9223372036854775808)) (.tdiv (.a 1) (.l 4))) (.le (.tdiv (.a 1) (.l 4)) (.l 9223372036854775807)))
 (.need (.and (.le (.l (-9223372036854775808)) (.mul (.tdiv (.a 1) (.l 4)) (.l 2))) (.le (.mul (.tdiv (.a 1) (.l 4)) (.l 2)) (.l 9223372036854775807)))
 (.need (.and (.le (.l (-9223372036854775808)) (.add (.a 0) (.mul (.tdiv (.a 1) (.l 4)) (.l 2)))) (.le (.add (.a 0) (.mul (.tdiv (.a 1) (.l 4)) (.l 2))) (.l 9223372036854775807)))
 (.need (.and (.le (.l (-9223372036854775808)) (.add (.add (.a 0) (.mul (.tdiv (.a 1) (.l 4)) (.l 2))) (.l 1))) (.le (.add (.add (.a 0) (.mul (.tdiv (.a 1) (.l 4)) (.l 2))) (.l 1)) (.l 9223372036854775807)))
 (.ite (.le (.a 3) (.add (.add (.a 0) (.mul (.tdiv (.a 1) (.l 4)) (.l 2))) (.l 1)))
  .stuck
  (.ret false (.tup []) []))))))
def slices_breakPatternsCmpFunc_api_Offer_S : Sx.Sys := ⟨[(.sh (.one .val)), (.sh (.one (.int .i64))), (.sh (.one (.int .i64))), (.sh (.one .val))], slices_breakPatternsCmpFunc_api_Offer_s, [slices_breakPatternsCmpFunc_api_Offer_t0], none⟩
def slices_breakPatternsCmpFunc_api_Offer_pats : List Cfg := [{ todo := [(.code [false, false, true, true, true, false, true, true]), (.inLoop [false, false, true, true, true, false, true, true]), (.inBlock 0)], sl := [(.va 0), (.int .i64 (.a 0)), (.junk 0), (.junk 1), .undef, .undef, .undef, .undef, (.int .i64 (.a 1)), (.pa 1 0), (.int .u64 (.a 2)), (.int .i64 (.a 3)), .undef, (.junk 2), (.junk 3), (.junk 4), (.junk 5), (.junk 6), (.junk 7), (.junk 8), (.junk 9), (.junk 10), (.junk 11), (.junk 12), (.junk 13), (.junk 14), (.junk 15), (.junk 16), .undef, .undef, .undef, .undef, .undef, .undef, .undef, .undef, .undef, .undef, .undef, .undef, .undef, .undef, .undef, .undef, .undef, .undef, .undef, .undef, .undef, .undef, .undef, .undef, .undef, .undef, .undef, .undef, .undef, .undef, .undef, .undef, .undef, .undef, .undef, .undef, .undef, .undef, .undef], H := [], ni := 4, nb := 0, nv := 2, nj := 17 }]
theorem slices_breakPatternsCmpFunc_api_Offer_ok : SysOk Try.prog 56 slices_breakPatternsCmpFunc_api_Offer_S := sys_ok (c := (cg [[false, false, true, true, true, false, true, true]] [9] [] true false false true)) (progOkG _ _ _ _ _ _ _ _) Try.func56 Try.call56 (by kernel_rfl) slices_breakPatternsCmpFunc_api_Offer_pats slices_breakPatternsCmpFunc_api_Offer_S 5000 rfl (by kernel_rfl) (by kernel_rfl) rfl
def slices_order2CmpFunc_api_Offer_s : PT :=
 (.need (.and (.le (.l 0) (.a 1)) (.lt (.a 1) (.slen 0)))
 (.need (.and (.le (.l 0) (.a 0)) (.lt (.a 0) (.slen 0)))
 (.load true (.ea 0 (.a 1) 8 0) [(.int .i64), (.int .i64), (.int .i64), (.int .i64), (.int .i64), (.int .i64), (.int .i64), (.int .i64)]
 (.load true (.ea 0 (.a 0) 8 0) [(.int .i64), (.int .i64), (.int .i64), (.int .i64), (.int .i64), (.int .i64), (.int .i64), (.int .i64)]
 (.callv 2 [(.agg [(.int .i64 (.a 2)), (.int .i64 (.a 3)), (.int .i64 (.a 4)), (.int .i64 (.a 5)), (.int .i64 (.a 6)), (.int .i64 (.a 7)), (.int .i64 (.a 8)), (.int .i64 (.a 9))]), (.agg [(.int .i64 (.a 10)), (.int .i64 (.a 11)), (.int .i64 (.a 12)), (.int .i64 (.a 13)), (.int .i64 (.a 14)), (.int .i64 (.a 15)), (.int .i64 (.a 16)), (.int .i64 (.a 17))])] [(.one (.int .i64))]
 (.ite (.lt (.a 18) (.l 0))
  (.need (.is 1 1)
  (.load false (.pa 1 0) [(.int .i64)]
  (.need (.and (.le (.l (-9223372036854775808)) (.add (.a 19) (.l 1))) (.le (.add (.a 19) (.l 1)) (.l 9223372036854775807)))
  (.need (.is 1 1)
  (.storeM (.pa 1 0) [(.int .i64 (.add (.a 19) (.l 1)))]
  (.ret false (.tup [(.int .i64 (.a 1)), (.int .i64 (.a 0))]) []))))))
  (.ret false (.tup [(.int .i64 (.a 0)), (.int .i64 (.a 1))]) [])))))))
def slices_order2CmpFunc_api_Offer_S : Sx.Sys := ⟨[(.sh (.one .val)), (.sh (.one (.int .i64))), (.sh (.one (.int .i64))), (.sh (.one .val)), (.sh (.one .val))], slices_order2CmpFunc_api_Offer_s, [], none⟩
def slices_order2CmpFunc_api_Offer_pats : List Cfg := []
theorem slices_order2CmpFunc_api_Offer_ok : SysOk Try.prog 69 slices_order2CmpFunc_api_Offer_S := sys_ok (c := (cg [] [] [(12, [3])] false false false true)) (progOkG _ _ _ _ _ _ _ _) Try.func69 Try.call69 (by kernel_rfl) slices_order2CmpFunc_api_Offer_pats slices_order2CmpFunc_api_Offer_S 5000 rfl (by kernel_rfl) (by kernel_rfl) rfl
end Go.Proofs.Ytggjcdnailppoaa
set_option maxRecDepth 100000
namespace Go.Proofs.Ytggjcdnailppoaa
open Go.Sx
def saleroomlaw40_RelcapTrims_s : PT :=
 (.need (.is 0 0)
 (.ite (.lt (.l 14) (.slen 0))
  (.call 9 [] [] [(.one .bool)]
  (.ret false (.bool (.a 0)) []))
  (.need (.is 0 1)
  (.ite (.lt (.l 14) (.slen 1))
   (.call 9 [] [] [(.one .bool)]
   (.ret false (.bool (.a 0)) []))
   (.call 21 [(.va 0)] [] [(.one .bool)]
   (.ite (.not (.a 0))
    (.call 9 [] [] [(.one .bool)]
    (.ret false (.bool (.a 1)) []))
    (.call 19 [(.va 0), (.va 1)] [] [(.one .val)]
    (.call 15 [(.va 0), (.va 2)] [] [(.one (.int .i64)), (.one (.int .i64))]
    (.ite (.not (.eq (.a 1) (.l 0)))
     (.ret false (.bool (.t false)) [])
     (.jump 0 [(.l 0), (.l 0)] [] [(.va 0), (.va 1), (.va 2)]))))))))))
def saleroomlaw40_RelcapTrims_t0 : PT :=
 (.need (.is 0 2)
 (.ite (.lt (.a 1) (.slen 2))
  (.jump 1 [(.a 0), (.a 1)] [] [(.va 0), (.va 1), (.va 2)])
  (.call 15 [(.va 0), (.va 1)] [] [(.one (.int .i64)), (.one (.int .i64))]
  (.ite (.not (.eq (.a 3) (.l 0)))
   (.call 9 [] [] [(.one .bool)]
   (.ret false (.bool (.a 0)) []))
   (.call 10 [(.va 2), (.va 1)] [] [(.one .bool)]
   (.ite (.a 0)
    (.call 9 [] [] [(.one .bool)]
    (.ret false (.bool (.a 1)) []))
    (.ret false (.bool (.t false)) [])))))))
def saleroomlaw40_RelcapTrims_t1 : PT :=
 (.need (.is 0 1)
 (.ite (.lt (.a 0) (.slen 1))
  (.need (.and (.le (.l 0) (.a 0)) (.lt (.a 0) (.slen 1)))
  (.need (.and (.le (.l 0) (.a 1)) (.lt (.a 1) (.slen 2)))
  (.load true (.ea 1 (.a 0) 8 0) [(.int .i64), (.int .i64), (.int .i64), (.int .i64), (.int .i64), (.int .i64), (.int .i64), (.int .i64)]
  (.load true (.ea 2 (.a 1) 8 0) [(.int .i64), (.int .i64), (.int .i64), (.int .i64), (.int .i64), (.int .i64), (.int .i64), (.int .i64)]
  (.ite (.not (.and (.eq (.a 2) (.a 10)) (.and (.eq (.a 3) (.a 11)) (.and (.eq (.a 4) (.a 12)) (.and (.eq (.a 5) (.a 13)) (.and (.eq (.a 6) (.a 14)) (.and (.eq (.a 7) (.a 15)) (.and (.eq (.a 8) (.a 16)) (.eq (.a 9) (.a 17))))))))))
   (.need (.and (.le (.l (-9223372036854775808)) (.add (.a 0) (.l 1))) (.le (.add (.a 0) (.l 1)) (.l 9223372036854775807)))
   (.jump 1 [(.add (.a 0) (.l 1)), (.a 1)] [] [(.va 0), (.va 1), (.va 2)]))
   (.need (.is 0 1)
   (.ite (.eq (.a 0) (.slen 1))
    (.ret false (.bool (.t false)) [])
    (.need (.and (.le (.l (-9223372036854775808)) (.add (.a 0) (.l 1))) (.le (.add (.a 0) (.l 1)) (.l 9223372036854775807)))
    (.need (.and (.le (.l (-9223372036854775808)) (.add (.a 1) (.l 1))) (.le (.add (.a 1) (.l 1)) (.l 9223372036854775807)))
    (.jump 0 [(.add (.a 0) (.l 1)), (.add (.a 1) (.l 1))] [] [(.va 0), (.va 1), (.va 2)]))))))))))
  (.need (.is 0 1)
  (.ite (.eq (.a 0) (.slen 1))
   (.ret false (.bool (.t false)) [])
   (.need (.and (.le (.l (-9223372036854775808)) (.add (.a 0) (.l 1))) (.le (.add (.a 0) (.l 1)) (.l 9223372036854775807)))
   (.need (.and (.le (.l (-9223372036854775808)) (.add (.a 1) (.l 1))) (.le (.add (.a 1) (.l 1)) (.l 9223372036854775807)))
   (.jump 0 [(.add (.a 0) (.l 1)), (.add (.a 1) (.l 1))] [] [(.va 0), (.va 1), (.va 2)])))))))
def saleroomlaw40_RelcapTrims_S : Sx.Sys := ⟨[(.sh (.one .val)), (.sh (.one .val))], saleroomlaw40_RelcapTrims_s, [saleroomlaw40_RelcapTrims_t0, saleroomlaw40_RelcapTrims_t1], none⟩
def saleroomlaw40_RelcapTrims_pats : List Cfg := [{ todo := [(.code [false, false, true, false, true, true, true, true, true]), (.inLoop [false, false, true, false, true, true, true, true, true]), (.inBlock 0), (.code [true, true, true, true, true, true])], sl := [(.va 0), (.va 1), .undef, .undef, (.junk 0), (.va 2), (.junk 1), (.junk 2), (.int .i64 (.a 0)), (.int .i64 (.a 1)), .undef, .undef, (.junk 3), (.junk 4), (.junk 5), (.junk 6), (.junk 7), (.junk 8), (.junk 9), (.junk 10), (.junk 11), (.junk 12), (.junk 13), (.junk 14), (.junk 15), .undef, (.junk 16), (.junk 17), (.junk 18), (.junk 19), (.junk 20), (.junk 21), (.junk 22), (.junk 23), (.junk 24), (.junk 25), (.junk 26), (.junk 27), (.junk 28), (.junk 29), (.junk 30), (.junk 31), (.junk 32), (.junk 33), (.junk 34), (.junk 35), (.junk 36), (.junk 37), (.junk 38), (.junk 39), (.junk 40), (.junk 41), (.junk 42), (.junk 43), (.junk 44), (.junk 45), (.junk 46), (.junk 47), (.junk 48), (.junk 49), (.junk 50), (.junk 51), (.junk 52), (.junk 53), (.junk 54), (.junk 55), .undef, .undef, .undef, .undef, .undef, .undef, .undef, .undef, .undef, .undef, .undef, .undef, .undef, .undef, .undef, .undef], H := [], ni := 2, nb := 0, nv := 3, nj := 56 },
 { todo := [(.code [false, false, false, false, false, true, false, false, true, false, true, true, true, true, true]), (.inLoop [false, false, false, false, false, true, false, false, true, false, true, true, true, true, true]), (.inBlock 2), (.code [true, false, false, true, false, false, true, false, true, true, true, true, true]), (.inBlock 1), (.code [true, true, false, false, true, false, true, true, true, true, true]), (.inLoop [false, false, true, false, true, true, true, true, true]), (.inBlock 0), (.code [true, true, true, true, true, true])], sl := [(.va 0), (.va 1), .undef, .undef, (.junk 0), (.va 2), (.junk 1), (.junk 2), (.int .i64 (.a 0)), (.int .i64 (.a 1)), .undef, .undef, (.junk 3), (.junk 4), (.junk 5), (.junk 6), (.junk 7), (.junk 8), (.junk 9), (.junk 10), (.junk 11), (.junk 12), (.junk 13), (.junk 14), (.junk 15), .undef, (.junk 16), (.junk 17), (.junk 18), (.junk 19), (.junk 20), (.junk 21), (.junk 22), (.junk 23), (.junk 24), (.junk 25), (.junk 26), (.junk 27), (.junk 28), (.junk 29), (.junk 30), (.junk 31), (.junk 32), (.junk 33), (.junk 34), (.junk 35), (.junk 36), (.junk 37), (.junk 38), (.junk 39), (.junk 40), (.junk 41), (.junk 42), (.junk 43), (.junk 44), (.junk 45), (.junk 46), (.junk 47), (.junk 48), (.junk 49), (.junk 50), (.junk 51), (.junk 52), (.junk 53), (.junk 54), (.junk 55), .undef, .undef, .undef, .undef, .undef, .undef, .undef, .undef, .undef, .undef, .undef, .undef, .undef, .undef, .undef, .undef], H := [], ni := 2, nb := 0, nv := 3, nj := 56 }]
theorem saleroomlaw40_RelcapTrims_ok : SysOk Try.prog 7 saleroomlaw40_RelcapTrims_S := sys_ok (c := (cg [[false, false, true, false, true, true, true, true, true], [false, false, false, false, false, true, false, false, true, false, true, true, true, true, true]] [] [] false false false true)) (progOkG _ _ _ _ _ _ _ _) Try.func7 Try.call7 (by kernel_rfl) saleroomlaw40_RelcapTrims_pats saleroomlaw40_RelcapTrims_S 5000 rfl (by kernel_rfl) (by kernel_rfl) rfl
def relcap_Check_s : PT :=
 (.call 26 [(.va 0)] [] [(.one .bool)]
 (.ite (.not (.a 0))
  (.ret false (.tup [(.int .i64 (.l 0)), (.int .i64 (.l 4))]) [])
  (.need (.is 0 1)
  (.jump 0 [(.slen 1), (.l 0)] [] [(.va 0), (.va 1)]))))
def relcap_Check_t0 : PT :=
 (.ite (.lt (.a 1) (.a 0))
  (.need (.and (.le (.l 0) (.a 1)) (.lt (.a 1) (.slen 1)))
  (.load false (.ea 1 (.a 1) 8 0) [(.int .i64), (.int .i64), (.int .i64), (.int .i64), (.int .i64), (.int .i64), (.int .i64), (.int .i64)]
  (.call 35 [(.agg [(.int .i64 (.a 2)), (.int .i64 (.a 3)), (.int .i64 (.a 4)), (.int .i64 (.a 5)), (.int .i64 (.a 6)), (.int .i64 (.a 7)), (.int .i64 (.a 8)), (.int .i64 (.a 9))])] [] [(.one .bool)]
  (.ite (.not (.a 0))
   (.ret false (.tup [(.int .i64 (.a 1)), (.int .i64 (.l 4))]) [])
   (.need (.and (.le (.l (-9223372036854775808)) (.add (.a 1) (.l 1))) (.le (.add (.a 1) (.l 1)) (.l 9223372036854775807)))
   (.jump 0 [(.a 0), (.add (.a 1) (.l 1))] [] [(.va 0), (.va 1)]))))))
  (.call 37 [(.va 0), (.va 1)] [] [(.one .val)]
  (.need (.is 0 1)
  (.jump 1 [(.slen 1), (.l 0)] [] [(.va 0), (.va 2), (.va 1)]))))
def relcap_Check_t1 : PT :=
 (.ite (.lt (.a 1) (.a 0))
  (.need (.and (.le (.l 0) (.a 1)) (.lt (.a 1) (.slen 2)))
  (.load false (.ea 2 (.a 1) 8 0) [(.int .i64), (.int .i64), (.int .i64), (.int .i64), (.int .i64), (.int .i64), (.int .i64), (.int .i64)]
  (.call 36 [(.va 0), (.va 1), (.agg [(.int .i64 (.a 3)), (.int .i64 (.a 4)), (.int .i64 (.a 5)), (.int .i64 (.a 6)), (.int .i64 (.a 7)), (.int .i64 (.a 8))])] [] [(.one (.int .i64))]
  (.ite (.lt (.a 10) (.a 9))
   (.ret false (.tup [(.int .i64 (.a 1)), (.int .i64 (.l 16))]) [])
   (.need (.and (.le (.l (-9223372036854775808)) (.add (.a 1) (.l 1))) (.le (.add (.a 1) (.l 1)) (.l 9223372036854775807)))
   (.jump 1 [(.a 0), (.add (.a 1) (.l 1))] [] [(.va 0), (.va 1), (.va 2)]))))))
  (.ret false (.tup [(.int .i64 (.l 0)), (.int .i64 (.l 0))]) []))
def relcap_Check_S : Sx.Sys := ⟨[(.sh (.one .val)), (.sh (.one .val))], relcap_Check_s, [relcap_Check_t0, relcap_Check_t1], none⟩
def relcap_Check_pats : List Cfg := [{ todo := [(.code [false, false, true, false, true, true]), (.inLoop [false, false, true, false, true, true]), (.inBlock 0), (.code [true, true, true])], sl := [(.va 0), (.va 1), .undef, .undef, (.junk 0), (.junk 1), (.junk 2), (.junk 3), .undef, .undef, .undef, (.junk 4), (.junk 5), (.junk 6), (.va 1), (.int .i64 (.a 0)), (.int .i64 (.a 1)), (.junk 7), (.junk 8), (.junk 9), (.junk 10), (.junk 11), (.junk 12), (.junk 13), .undef, (.junk 14), .undef, .undef, .undef, .undef, .undef, .undef, .undef, .undef, .undef, .undef, .undef, .undef, .undef, .undef, .undef, .undef, .undef, .undef, .undef, .undef], H := [], ni := 2, nb := 0, nv := 2, nj := 15 },
 { todo := [(.code [false, false, true, false, true, true, true, true]), (.inLoop [false, false, true, false, true, true, true, true]), (.inBlock 2), (.code [true, true, true, true, true])], sl := [(.va 0), (.junk 0), .undef, .undef, (.junk 1), (.junk 2), (.junk 3), (.junk 4), (.va 1), (.junk 5), (.junk 6), (.junk 7), (.junk 8), (.junk 9), (.junk 10), (.junk 11), (.junk 12), (.junk 13), (.junk 14), (.junk 15), (.junk 16), (.junk 17), (.junk 18), (.junk 19), .undef, (.junk 20), (.junk 21), (.junk 22), (.junk 23), (.va 2), (.int .i64 (.a 0)), (.int .i64 (.a 1)), (.junk 24), (.junk 25), (.junk 26), (.junk 27), (.junk 28), (.junk 29), (.junk 30), (.junk 31), (.junk 32), (.junk 33), (.junk 34), (.junk 35), .undef, (.junk 36)], H := [], ni := 2, nb := 0, nv := 3, nj := 37 }]
theorem relcap_Check_ok : SysOk Try.prog 15 relcap_Check_S := sys_ok (c := (cg [[false, false, true, false, true, true], [false, false, true, false, true, true, true, true]] [] [] false false false true)) (progOkG _ _ _ _ _ _ _ _) Try.func15 Try.call15 (by kernel_rfl) relcap_Check_pats relcap_Check_S 5000 rfl (by kernel_rfl) (by kernel_rfl) rfl
def saleroomref36_Cost_s : PT :=
 (.call 41 [(.agg [(.int .i64 (.a 0)), (.int .i64 (.a 1)), (.int .i64 (.a 2)), (.int .i64 (.a 3)), (.int .i64 (.a 4)), (.int .i64 (.a 5))]), (.agg [(.int .i64 (.a 12)), (.int .i64 (.a 13)), (.int .i64 (.a 14)), (.int .i64 (.a 15)), (.int .i64 (.a 16)), (.int .i64 (.a 17))])] [] [(.one (.int .i64))]
 (.ret false (.int .i64 (.a 18)) []))
def saleroomref36_Cost_S : Sx.Sys := ⟨[(.sh (.agg [(.int .i64), (.int .i64), (.int .i64), (.int .i64), (.int .i64), (.int .i64), (.int .i64), (.int .i64), (.int .i64), (.int .i64), (.int .i64), (.int .i64)])), (.sh (.agg [(.int .i64), (.int .i64), (.int .i64), (.int .i64), (.int .i64), (.int .i64)]))], saleroomref36_Cost_s, [], none⟩
def saleroomref36_Cost_pats : List Cfg := []
theorem saleroomref36_Cost_ok : SysOk Try.prog 23 saleroomref36_Cost_S := sys_ok (c := (cg [] [] [] false false false true)) (progOkG _ _ _ _ _ _ _ _) Try.func23 Try.call23 (by kernel_rfl) saleroomref36_Cost_pats saleroomref36_Cost_S 5000 rfl (by kernel_rfl) (by kernel_rfl) rfl
def relcap_Clockbids_2_s : PT :=
 (.call 32 [(.agg [(.int .i64 (.a 1)), (.int .i64 (.a 2)), (.int .i64 (.a 3)), (.int .i64 (.a 4)), (.int .i64 (.a 5)), (.int .i64 (.a 6))]), (.agg [(.int .i64 (.a 9)), (.int .i64 (.a 10)), (.int .i64 (.a 11)), (.int .i64 (.a 12)), (.int .i64 (.a 13)), (.int .i64 (.a 14))])] [] [(.one (.int .i64))]
 (.ret false (.int .i64 (.a 16)) []))
def relcap_Clockbids_2_S : Sx.Sys := ⟨[(.sh (.agg [(.int .i64), (.int .i64), (.int .i64), (.int .i64), (.int .i64), (.int .i64), (.int .i64), (.int .i64)])), (.sh (.agg [(.int .i64), (.int .i64), (.int .i64), (.int .i64), (.int .i64), (.int .i64), (.int .i64), (.int .i64)]))], relcap_Clockbids_2_s, [], none⟩
def relcap_Clockbids_2_pats : List Cfg := []
theorem relcap_Clockbids_2_ok : SysOk Try.prog 31 relcap_Clockbids_2_S := sys_ok (c := (cg [] [] [] false false false true)) (progOkG _ _ _ _ _ _ _ _) Try.func31 Try.call31 (by kernel_rfl) relcap_Clockbids_2_pats relcap_Clockbids_2_S 5000 rfl (by kernel_rfl) (by kernel_rfl) rfl
def saleroomref36_Valid_s : PT :=
 (.call 17 [(.agg [(.int .i64 (.a 6)), (.int .i64 (.a 7)), (.int .i64 (.a 8)), (.int .i64 (.a 9)), (.int .i64 (.a 10)), (.int .i64 (.a 11))])] [] [(.one (.int .i64))]
 (.ite (.eq (.a 12) (.l 0))
  (.call 51 [(.agg [(.int .i64 (.a 0)), (.int .i64 (.a 1)), (.int .i64 (.a 2)), (.int .i64 (.a 3)), (.int .i64 (.a 4)), (.int .i64 (.a 5))])] [] [(.one .bool)]
  (.ret false (.bool (.a 0)) []))
  (.ret false (.bool (.t false)) [])))
def saleroomref36_Valid_S : Sx.Sys := ⟨[(.sh (.agg [(.int .i64), (.int .i64), (.int .i64), (.int .i64), (.int .i64), (.int .i64), (.int .i64), (.int .i64), (.int .i64), (.int .i64), (.int .i64), (.int .i64)]))], saleroomref36_Valid_s, [], none⟩
def saleroomref36_Valid_pats : List Cfg := []
theorem saleroomref36_Valid_ok : SysOk Try.prog 40 saleroomref36_Valid_S := sys_ok (c := (cg [] [] [] false false false true)) (progOkG _ _ _ _ _ _ _ _) Try.func40 Try.call40 (by kernel_rfl) saleroomref36_Valid_pats saleroomref36_Valid_S 5000 rfl (by kernel_rfl) (by kernel_rfl) rfl
def slices_pdqsortCmpFunc_api_Offer_s : PT :=
 (.jump 0 [(.a 0), (.a 1), (.a 2)] [] [(.va 0), (.va 1)])
def slices_pdqsortCmpFunc_api_Offer_t0 : PT :=
 (.need (.and (.le (.l (-9223372036854775808)) (.sub (.a 1) (.a 0))) (.le (.sub (.a 1) (.a 0)) (.l 9223372036854775807)))
 (.ite (.le (.sub (.a 1) (.a 0)) (.l 12))
  (.call 54 [(.va 0), (.int .i64 (.a 0)), (.int .i64 (.a 1)), (.va 1)] [] []
  (.ret false (.tup []) []))
  (.ite (.eq (.a 2) (.l 0))
   (.call 55 [(.va 0), (.int .i64 (.a 0)), (.int .i64 (.a 1)), (.va 1)] [] []
   (.ret false (.tup []) []))
   .stuck)))
def slices_pdqsortCmpFunc_api_Offer_S : Sx.Sys := ⟨[(.sh (.one .val)), (.sh (.one (.int .i64))), (.sh (.one (.int .i64))), (.sh (.one (.int .i64))), (.sh (.one .val))], slices_pdqsortCmpFunc_api_Offer_s, [slices_pdqsortCmpFunc_api_Offer_t0], none⟩
def slices_pdqsortCmpFunc_api_Offer_pats : List Cfg := [{ todo := [(.code [false, false, true, true]), (.inLoop [false, false, true, true]), (.inBlock 0)], sl := [(.va 0), (.int .i64 (.a 0)), (.int .i64 (.a 1)), (.int .i64 (.a 2)), (.va 1), .undef, .undef, .undef, .undef, .undef, (.bool (.t true)), (.bool (.t true)), .undef, .undef, .undef, .undef, .undef, .undef, .undef, .undef, .undef, .undef, .undef, .undef, .undef, .undef, .undef, .undef, .undef, .undef, .undef, .undef, .undef, .undef, .undef, .undef, .undef, .undef, .undef, .undef, .undef, .undef, .undef, .undef, .undef, .undef, .undef, .undef, .undef, .undef, .undef, .undef, .undef, .undef, .undef, .undef, .undef, .undef, .undef, .undef, .undef, .undef, .undef, .undef, .undef, .undef, .undef, .undef, .undef, .undef, .undef, .undef, .undef, .undef, .undef, .undef, .undef, .undef, .undef, .undef, .undef, .undef, .undef, .undef, .undef, .undef, .undef, .undef, .undef, .undef, .undef, .undef, .undef, .undef, .undef, .undef, .undef, .undef, .undef, .undef, .undef, .undef, .undef, .undef, .undef, .undef, .undef, .undef, .undef, .undef, .undef, .undef, .undef, .undef, .undef, .undef, .undef, .undef, .undef, .undef, .undef, .undef, .undef, .undef, .undef, .undef, .undef, .undef, .undef, .undef, .undef, .undef, .undef, .undef, .undef, .undef, .undef, .undef, .undef, .undef, .undef, .undef, .undef, .undef, .undef, .undef, .undef, .undef], H := [], ni := 3, nb := 0, nv := 2, nj := 0 }]
theorem slices_pdqsortCmpFunc_api_Offer_ok : SysOk Try.prog 48 slices_pdqsortCmpFunc_api_Offer_S := sys_ok (c := (cg [[false, false, true, true]] [] [(84, [3])] false false false true)) (progOkG _ _ _ _ _ _ _ _) Try.func48 Try.call48 (by kernel_rfl) slices_pdqsortCmpFunc_api_Offer_pats slices_pdqsortCmpFunc_api_Offer_S 60 rfl (by kernel_rfl) (by kernel_rfl) rfl
def slices_choosePivotCmpFunc_api_Offer_s : PT :=
 (.need (.and (.le (.l (-9223372036854775808)) (.sub (.a 1) (.a 0))) (.le (.sub (.a 1) (.a 0)) (.l 9223372036854775807)))
 (.newM [(.int .i64 (.l 0))] 3
 (.need (.and (.le (.l (-9223372036854775808)) (.tdiv (.sub (.a 1) (.a 0)) (.l 4))) (.le (.tdiv (.sub (.a 1) (.a 0)) (.l 4)) (.l 9223372036854775807)))
 (.need (.and (.le (.l (-9223372036854775808)) (.mul (.tdiv (.sub (.a 1) (.a 0)) (.l 4)) (.l 1))) (.le (.mul (.tdiv (.sub (.a 1) (.a 0)) (.l 4)) (.l 1)) (.l 9223372036854775807)))
 (.need (.and (.le (.l (-9223372036854775808)) (.add (.a 0) (.mul (.tdiv (.sub (.a 1) (.a 0)) (.l 4)) (.l 1)))) (.le (.add (.a 0) (.mul (.tdiv (.sub (.a 1) (.a 0)) (.l 4)) (.l 1))) (.l 9223372036854775807)))
 (.need (.and (.le (.l (-9223372036854775808)) (.tdiv (.sub (.a 1) (.a 0)) (.l 4))) (.le (.tdiv (.sub (.a 1) (.a 0)) (.l 4)) (.l 9223372036854775807)))
 (.need (.and (.le (.l (-9223372036854775808)) (.mul (.tdiv (.sub (.a 1) (.a 0)) (.l 4)) (.l 2))) (.le (.mul (.tdiv (.sub (.a 1) (.a 0)) (.l 4)) (.l 2)) (.l 9223372036854775807)))
 (.need (.and (.le (.l (-9223372036854775808)) (.add (.a 0) (.mul (.tdiv (.sub (.a 1) (.a 0)) (.l 4)) (.l 2)))) (.le (.add (.a 0) (.mul (.tdiv (.sub (.a 1) (.a 0)) (.l 4)) (.l 2))) (.l 9223372036854775807)))
 (.need (.and (.le (.l (-9223372036854775808)) (.tdiv (.sub (.a 1) (.a 0)) (.l 4))) (.le (.tdiv (.sub (.a 1) (.a 0)) (.l 4)) (.l 9223372036854775807)))
 (.need (.and (.le (.l (-9223372036854775808)) (.mul (.tdiv (.sub (.a 1) (.a 0)) (.l 4)) (.l 3))) (.le (.mul (.tdiv (.sub (.a 1) (.a 0)) (.l 4)) (.l 3)) (.l 9223372036854775807)))
 (.need (.and (.le (.l (-9223372036854775808)) (.add (.a 0) (.mul (.tdiv (.sub (.a 1) (.a 0)) (.l 4)) (.l 3)))) (.le (.add (.a 0) (.mul (.tdiv (.sub (.a 1) (.a 0)) (.l 4)) (.l 3))) (.l 9223372036854775807)))
 (.ite (.le (.l 8) (.sub (.a 1) (.a 0)))
  (.ite (.le (.l 50) (.sub (.a 1) (.a 0)))
   (.call 67 [(.va 0), (.int .i64 (.add (.a 0) (.mul (.tdiv (.sub (.a 1) (.a 0)) (.l 4)) (.l 1)))), (.pa 2 0), (.va 1)] [] [(.one (.int .i64))]
   (.call 67 [(.va 0), (.int .i64 (.add (.a 0) (.mul (.tdiv (.sub (.a 1) (.a 0)) (.l 4)) (.l 2)))), (.pa 2 0), (.va 1)] [] [(.one (.int .i64))]
   (.call 67 [(.va 0), (.int .i64 (.add (.a 0) (.mul (.tdiv (.sub (.a 1) (.a 0)) (.l 4)) (.l 3)))), (.pa 2 0), (.va 1)] [] [(.one (.int .i64))]
   (.call 68 [(.va 0), (.int .i64 (.a 2)), (.int .i64 (.a 3)), (.int .i64 (.a 4)), (.pa 2 0), (.va 1)] [] [(.one (.int .i64))]
   (.load false (.pa 2 0) [(.int .i64)]
   (.ite (.eq (.a 6) (.l 0))
    (.ret false (.tup [(.int .i64 (.a 5)), (.int .i64 (.l 1))]) [])
    (.ite (.eq (.a 6) (.l 12))
     (.ret false (.tup [(.int .i64 (.a 5)), (.int .i64 (.l 2))]) [])
     (.ret false (.tup [(.int .i64 (.a 5)), (.int .i64 (.l 0))]) []))))))))
   (.call 68 [(.va 0), (.int .i64 (.add (.a 0) (.mul (.tdiv (.sub (.a 1) (.a 0)) (.l 4)) (.l 1)))), (.int .i64 (.add (.a 0) (.mul (.tdiv (.sub (.a 1) (.a 0)) (.l 4)) (.l 2)))), (.int .i64 (.add (.a 0) (.mul (.tdiv (.sub (.a 1) (.a 0)) (.l 4)) (.l 3)))), (.pa 2 0), (.va 1)] [] [(.one (.int .i64))]
   (.load false (.pa 2 0) [(.int .i64)]
   (.ite (.eq (.a 3) (.l 0))
    (.ret false (.tup [(.int .i64 (.a 2)), (.int .i64 (.l 1))]) [])
    (.ite (.eq (.a 3) (.l 12))
     (.ret false (.tup [(.int .i64 (.a 2)), (.int .i64 (.l 2))]) [])
     (.ret false (.tup [(.int .i64 (.a 2)), (.int .i64 (.l 0))]) []))))))
  (.load false (.pa 2 0) [(.int .i64)]
  (.ite (.eq (.a 2) (.l 0))
   (.ret false (.tup [(.int .i64 (.add (.a 0) (.mul (.tdiv (.sub (.a 1) (.a 0)) (.l 4)) (.l 2)))), (.int .i64 (.l 1))]) [])
   (.ite (.eq (.a 2) (.l 12))
    (.ret false (.tup [(.int .i64 (.add (.a 0) (.mul (.tdiv (.sub (.a 1) (.a 0)) (.l 4)) (.l 2)))), (.int .i64 (.l 2))]) [])
    (.ret false (.tup [(.int .i64 (.add (.a 0) (.mul (.tdiv (.sub (.a 1) (.a 0)) (.l 4)) (.l 2)))), (.int .i64 (.l 0))]) []))))))))))))))))
def slices_choosePivotCmpFunc_api_Offer_S : Sx.Sys := ⟨[(.sh (.one .val)), (.sh (.one (.int .i64))), (.sh (.one (.int .i64))), (.sh (.one .val))], slices_choosePivotCmpFunc_api_Offer_s, [], none⟩
def slices_choosePivotCmpFunc_api_Offer_pats : List Cfg := []
theorem slices_choosePivotCmpFunc_api_Offer_ok : SysOk Try.prog 57 slices_choosePivotCmpFunc_api_Offer_S := sys_ok (c := (cg [] [11] [] true false false true)) (progOkG _ _ _ _ _ _ _ _) Try.func57 Try.call57 (by kernel_rfl) slices_choosePivotCmpFunc_api_Offer_pats slices_choosePivotCmpFunc_api_Offer_S 5000 rfl (by kernel_rfl) (by kernel_rfl) rfl
end Go.Proofs.Ytggjcdnailppoaa
set_option maxRecDepth 100000
namespace Go.Proofs.Ytggjcdnailppoaa
open Go.Sx
def saleroomlaw40_RelcapConsistent_s : PT :=
 (.need (.is 0 0)
 (.ite (.lt (.l 14) (.slen 0))
  (.call 9 [] [] [(.one .bool)]
  (.ret false (.bool (.a 0)) []))
  (.need (.is 0 1)
  (.ite (.lt (.l 14) (.slen 1))
   (.call 9 [] [] [(.one .bool)]
   (.ret false (.bool (.a 0)) []))
   (.call 15 [(.va 0), (.va 1)] [] [(.one (.int .i64)), (.one (.int .i64))]
   (.ite (.not (.eq (.a 1) (.l 0)))
    (.call 9 [] [] [(.one .bool)]
    (.ret false (.bool (.a 0)) []))
    (.jump 0 [(.l 0)] [(.t true)] [(.va 0), (.va 1), .nilS])))))))
def saleroomlaw40_RelcapConsistent_t0 : PT :=
 (.need (.is 0 0)
 (.ite (.lt (.a 0) (.slen 0))
  (.need (.and (.le (.l 0) (.a 0)) (.lt (.a 0) (.slen 0)))
  (.load false (.ea 0 (.a 0) 12 6) [(.int .i64), (.int .i64), (.int .i64), (.int .i64), (.int .i64), (.int .i64)]
  (.call 22 [(.va 0), (.va 1), (.agg [(.int .i64 (.a 1)), (.int .i64 (.a 2)), (.int .i64 (.a 3)), (.int .i64 (.a 4)), (.int .i64 (.a 5)), (.int .i64 (.a 6))])] [] [(.one (.int .i64))]
  (.need (.and (.le (.l 0) (.a 0)) (.lt (.a 0) (.slen 0)))
  (.need (.and (.le (.l 0) (.a 0)) (.lt (.a 0) (.slen 0)))
  (.load true (.ea 0 (.a 0) 12 0) [(.int .i64), (.int .i64), (.int .i64), (.int .i64), (.int .i64), (.int .i64), (.int .i64), (.int .i64), (.int .i64), (.int .i64), (.int .i64), (.int .i64)]
  (.load true (.ea 0 (.a 0) 12 6) [(.int .i64), (.int .i64), (.int .i64), (.int .i64), (.int .i64), (.int .i64)]
  (.call 23 [(.agg [(.int .i64 (.a 8)), (.int .i64 (.a 9)), (.int .i64 (.a 10)), (.int .i64 (.a 11)), (.int .i64 (.a 12)), (.int .i64 (.a 13)), (.int .i64 (.a 14)), (.int .i64 (.a 15)), (.int .i64 (.a 16)), (.int .i64 (.a 17)), (.int .i64 (.a 18)), (.int .i64 (.a 19))]), (.agg [(.int .i64 (.a 20)), (.int .i64 (.a 21)), (.int .i64 (.a 22)), (.int .i64 (.a 23)), (.int .i64 (.a 24)), (.int .i64 (.a 25))])] [] [(.one (.int .i64))]
  (.need (.and (.le (.l 0) (.a 0)) (.lt (.a 0) (.slen 0)))
  (.load false (.ea 0 (.a 0) 12 6) [(.int .i64), (.int .i64), (.int .i64), (.int .i64), (.int .i64), (.int .i64)]
  (.jump 1 [(.a 0), (.a 7), (.a 26), (.l 0)] [(.a 0), (.and (.eq (.a 27) (.l 0)) (.and (.eq (.a 28) (.l 0)) (.and (.eq (.a 29) (.l 0)) (.and (.eq (.a 30) (.l 0)) (.and (.eq (.a 31) (.l 0)) (.eq (.a 32) (.l 0)))))))] [(.va 0), (.va 1), (.va 2)])))))))))))
  (.ite (.not (.a 0))
   (.call 9 [] [] [(.one .bool)]
   (.ret false (.bool (.a 1)) []))
   (.call 24 [(.va 0)] [] [(.agg [.val, .val]), (.one .bool)]
   (.ite (.a 1)
    (.call 25 [(.va 0), (.agg [.nilS, (.va 2)])] [] [(.one (.int .i64))]
    (.ite (.eq (.a 1) (.l 0))
     (.call 9 [] [] [(.one .bool)]
     (.ret false (.bool (.a 2)) []))
     (.ret false (.bool (.t false)) [])))
    (.ret false (.bool (.t false)) []))))))
def saleroomlaw40_RelcapConsistent_t1 : PT :=
 (.need (.is 0 1)
 (.ite (.lt (.a 3) (.slen 1))
  (.need (.and (.le (.l 0) (.a 3)) (.lt (.a 3) (.slen 1)))
  (.need (.and (.le (.l 0) (.a 0)) (.lt (.a 0) (.slen 0)))
  (.load true (.ea 1 (.a 3) 8 1) [(.int .i64), (.int .i64), (.int .i64), (.int .i64), (.int .i64), (.int .i64)]
  (.load true (.ea 0 (.a 0) 12 6) [(.int .i64), (.int .i64), (.int .i64), (.int .i64), (.int .i64), (.int .i64)]
  (.ite (.not (.and (.eq (.a 4) (.a 10)) (.and (.eq (.a 5) (.a 11)) (.and (.eq (.a 6) (.a 12)) (.and (.eq (.a 7) (.a 13)) (.and (.eq (.a 8) (.a 14)) (.eq (.a 9) (.a 15))))))))
   (.need (.and (.le (.l (-9223372036854775808)) (.sub (.a 1) (.a 2))) (.le (.sub (.a 1) (.a 2)) (.l 9223372036854775807)))
   (.need (.and (.le (.l 0) (.a 3)) (.lt (.a 3) (.slen 1)))
   (.need (.and (.le (.l 0) (.a 0)) (.lt (.a 0) (.slen 0)))
   (.need (.and (.le (.l 0) (.a 3)) (.lt (.a 3) (.slen 1)))
   (.load true (.ea 1 (.a 3) 8 7) [(.int .i64)]
   (.load true (.ea 0 (.a 0) 12 0) [(.int .i64), (.int .i64), (.int .i64), (.int .i64), (.int .i64), (.int .i64), (.int .i64), (.int .i64), (.int .i64), (.int .i64), (.int .i64), (.int .i64)]
   (.load true (.ea 1 (.a 3) 8 1) [(.int .i64), (.int .i64), (.int .i64), (.int .i64), (.int .i64), (.int .i64)]
   (.call 23 [(.agg [(.int .i64 (.a 17)), (.int .i64 (.a 18)), (.int .i64 (.a 19)), (.int .i64 (.a 20)), (.int .i64 (.a 21)), (.int .i64 (.a 22)), (.int .i64 (.a 23)), (.int .i64 (.a 24)), (.int .i64 (.a 25)), (.int .i64 (.a 26)), (.int .i64 (.a 27)), (.int .i64 (.a 28))]), (.agg [(.int .i64 (.a 29)), (.int .i64 (.a 30)), (.int .i64 (.a 31)), (.int .i64 (.a 32)), (.int .i64 (.a 33)), (.int .i64 (.a 34))])] [] [(.one (.int .i64))]
   (.need (.and (.le (.l (-9223372036854775808)) (.sub (.a 16) (.a 35))) (.le (.sub (.a 16) (.a 35)) (.l 9223372036854775807)))
   (.ite (.lt (.sub (.a 1) (.a 2)) (.sub (.a 16) (.a 35)))
    (.ret false (.bool (.t false)) [])
    (.ite (.a 1)
     (.need (.and (.le (.l (-9223372036854775808)) (.add (.a 3) (.l 1))) (.le (.add (.a 3) (.l 1)) (.l 9223372036854775807)))
     (.jump 1 [(.a 0), (.a 1), (.a 2), (.add (.a 3) (.l 1))] [(.a 0), (.t true)] [(.va 0), (.va 1), (.va 2)]))
     (.need (.and (.le (.l 0) (.a 3)) (.lt (.a 3) (.slen 1)))
     (.need (.and (.le (.l 0) (.a 0)) (.lt (.a 0) (.slen 0)))
     (.load true (.ea 1 (.a 3) 8 1) [(.int .i64), (.int .i64), (.int .i64), (.int .i64), (.int .i64), (.int .i64)]
     (.load true (.ea 0 (.a 0) 12 6) [(.int .i64), (.int .i64), (.int .i64), (.int .i64), (.int .i64), (.int .i64)]
     (.ite (.and (.eq (.a 36) (.a 42)) (.and (.eq (.a 37) (.a 43)) (.and (.eq (.a 38) (.a 44)) (.and (.eq (.a 39) (.a 45)) (.and (.eq (.a 40) (.a 46)) (.eq (.a 41) (.a 47)))))))
      (.need (.and (.le (.l 0) (.a 3)) (.lt (.a 3) (.slen 1)))
      (.load true (.ea 1 (.a 3) 8 7) [(.int .i64)]
      (.need (.and (.le (.l (-9223372036854775808)) (.add (.a 3) (.l 1))) (.le (.add (.a 3) (.l 1)) (.l 9223372036854775807)))
      (.jump 1 [(.a 0), (.a 1), (.a 2), (.add (.a 3) (.l 1))] [(.a 0), (.le (.a 1) (.a 48))] [(.va 0), (.va 1), (.va 2)]))))
      (.need (.and (.le (.l (-9223372036854775808)) (.add (.a 3) (.l 1))) (.le (.add (.a 3) (.l 1)) (.l 9223372036854775807)))
      (.jump 1 [(.a 0), (.a 1), (.a 2), (.add (.a 3) (.l 1))] [(.a 0), (.t false)] [(.va 0), (.va 1), (.va 2)]))))))))))))))))))
   (.ite (.a 1)
    (.need (.and (.le (.l (-9223372036854775808)) (.add (.a 3) (.l 1))) (.le (.add (.a 3) (.l 1)) (.l 9223372036854775807)))
    (.jump 1 [(.a 0), (.a 1), (.a 2), (.add (.a 3) (.l 1))] [(.a 0), (.t true)] [(.va 0), (.va 1), (.va 2)]))
    (.need (.and (.le (.l 0) (.a 3)) (.lt (.a 3) (.slen 1)))
    (.need (.and (.le (.l 0) (.a 0)) (.lt (.a 0) (.slen 0)))
    (.load true (.ea 1 (.a 3) 8 1) [(.int .i64), (.int .i64), (.int .i64), (.int .i64), (.int .i64), (.int .i64)]
    (.load true (.ea 0 (.a 0) 12 6) [(.int .i64), (.int .i64), (.int .i64), (.int .i64), (.int .i64), (.int .i64)]
    (.ite (.and (.eq (.a 16) (.a 22)) (.and (.eq (.a 17) (.a 23)) (.and (.eq (.a 18) (.a 24)) (.and (.eq (.a 19) (.a 25)) (.and (.eq (.a 20) (.a 26)) (.eq (.a 21) (.a 27)))))))
     (.need (.and (.le (.l 0) (.a 3)) (.lt (.a 3) (.slen 1)))
     (.load true (.ea 1 (.a 3) 8 7) [(.int .i64)]
     (.need (.and (.le (.l (-9223372036854775808)) (.add (.a 3) (.l 1))) (.le (.add (.a 3) (.l 1)) (.l 9223372036854775807)))
     (.jump 1 [(.a 0), (.a 1), (.a 2), (.add (.a 3) (.l 1))] [(.a 0), (.le (.a 1) (.a 28))] [(.va 0), (.va 1), (.va 2)]))))
     (.need (.and (.le (.l (-9223372036854775808)) (.add (.a 3) (.l 1))) (.le (.add (.a 3) (.l 1)) (.l 9223372036854775807)))
     (.jump 1 [(.a 0), (.a 1), (.a 2), (.add (.a 3) (.l 1))] [(.a 0), (.t false)] [(.va 0), (.va 1), (.va 2)])))))))))))))
  (.ite (.a 0)
   (.app none (.lit [[(.int .i64 (.a 1))]]) 1
   (.app (some 2) (.va 3) 1
   (.need (.and (.le (.l (-9223372036854775808)) (.add (.a 0) (.l 1))) (.le (.add (.a 0) (.l 1)) (.l 9223372036854775807)))
   (.jump 0 [(.add (.a 0) (.l 1))] [(.a 1)] [(.va 0), (.va 1), (.va 4)]))))
   (.app none (.lit [[(.int .i64 (.a 1))]]) 1
   (.app (some 2) (.va 3) 1
   (.need (.and (.le (.l (-9223372036854775808)) (.add (.a 0) (.l 1))) (.le (.add (.a 0) (.l 1)) (.l 9223372036854775807)))
   (.jump 0 [(.add (.a 0) (.l 1))] [(.t false)] [(.va 0), (.va 1), (.va 4)])))))))
def saleroomlaw40_RelcapConsistent_S : Sx.Sys := ⟨[(.sh (.one .val)), (.sh (.one .val))], saleroomlaw40_RelcapConsistent_s, [saleroomlaw40_RelcapConsistent_t0, saleroomlaw40_RelcapConsistent_t1], none⟩
def saleroomlaw40_RelcapConsistent_pats : List Cfg := [{ todo := [(.code [false, false, true, false, true, true, true, true, true]), (.inLoop [false, false, true, false, true, true, true, true, true]), (.inBlock 0), (.code [true, true, true, true, true, true])], sl := [(.va 0), (.va 1), .undef, .undef, (.junk 0), (.junk 1), (.junk 2), (.va 2), (.bool (.a 0)), (.int .i64 (.a 0)), (.junk 3), (.junk 4), (.junk 5), (.junk 6), .undef, .undef, (.junk 7), (.junk 8), (.junk 9), (.junk 10), (.junk 11), (.junk 12), (.junk 13), (.junk 14), .undef, (.junk 15), (.junk 16), (.junk 17), (.junk 18), (.junk 19), (.junk 20), (.junk 21), (.junk 22), .undef, (.junk 23), (.junk 24), (.junk 25), (.junk 26), (.junk 27), (.junk 28), (.junk 29), (.junk 30), (.junk 31), (.junk 32), (.junk 33), (.junk 34), (.junk 35), (.junk 36), (.junk 37), (.junk 38), (.junk 39), (.junk 40), (.junk 41), (.junk 42), (.junk 43), (.junk 44), (.junk 45), (.junk 46), (.junk 47), (.junk 48), (.junk 49), (.junk 50), (.junk 51), (.junk 52), (.junk 53), (.junk 54), (.junk 55), (.junk 56), (.junk 57), (.junk 58), (.junk 59), (.junk 60), (.junk 61), (.junk 62), (.junk 63), (.junk 64), (.junk 65), (.junk 66), (.junk 67), (.junk 68), (.junk 69), (.junk 70), (.junk 71), (.junk 72), (.junk 73), (.junk 74), (.junk 75), (.junk 76), (.junk 77), (.junk 78), (.junk 79), (.junk 80), (.junk 81), (.junk 82), (.junk 83), (.junk 84), (.junk 85), (.junk 86), (.junk 87), (.junk 88), (.junk 89), (.junk 90), (.junk 91), (.junk 92), (.junk 93), (.junk 94), (.junk 95), (.junk 96), (.junk 97), (.junk 98), (.junk 99), (.junk 100), (.junk 101), (.junk 102), (.junk 103), (.junk 104), (.junk 105), (.junk 106), (.junk 107), (.junk 108), (.junk 109), (.junk 110), (.junk 111), (.junk 112), (.junk 113), (.junk 114), (.junk 115), (.junk 116), (.junk 117), (.junk 118), (.junk 119), (.junk 120), (.junk 121), (.junk 122), (.junk 123), .undef, .undef, .undef, .undef, .undef, .undef, .undef, .undef, .undef, .undef, .undef, .undef, .undef, .undef, .undef, .undef, .undef, .undef, .undef], H := [(.row 2 2 1)], ni := 1, nb := 1, nv := 3, nj := 124 },
 { todo := [(.code [false, false, true, false, true, true, true, false, false, true, false, false, true, false, true, true, true, true, true]), (.inLoop [false, false, true, false, true, true, true, false, false, true, false, false, true, false, true, true, true, true, true]), (.inBlock 2), (.code [true, true, true, true, false, false, true, false, false, true, false, true, true, true, true, true]), (.inBlock 1), (.code [true, true, false, false, true, false, true, true, true, true, true]), (.inLoop [false, false, true, false, true, true, true, true, true]), (.inBlock 0), (.code [true, true, true, true, true, true])], sl := [(.va 0), (.va 1), .undef, .undef, (.junk 0), (.junk 1), (.junk 2), (.va 2), (.bool (.a 0)), (.int .i64 (.a 0)), (.int .i64 (.a 1)), (.int .i64 (.a 2)), (.bool (.a 1)), (.int .i64 (.a 3)), .undef, .undef, (.junk 3), (.junk 4), (.junk 5), (.junk 6), (.junk 7), (.junk 8), (.junk 9), (.junk 10), .undef, (.junk 11), (.junk 12), (.junk 13), (.junk 14), (.junk 15), (.junk 16), (.junk 17), (.junk 18), .undef, (.junk 19), (.junk 20), (.junk 21), (.junk 22), (.junk 23), (.junk 24), (.junk 25), (.junk 26), (.junk 27), (.junk 28), (.junk 29), (.junk 30), (.junk 31), (.junk 32), (.junk 33), (.junk 34), (.junk 35), (.junk 36), (.junk 37), (.junk 38), (.junk 39), (.junk 40), (.junk 41), (.junk 42), (.junk 43), (.junk 44), (.junk 45), (.junk 46), (.junk 47), (.junk 48), (.junk 49), (.junk 50), (.junk 51), (.junk 52), (.junk 53), (.junk 54), (.junk 55), (.junk 56), (.junk 57), (.junk 58), (.junk 59), (.junk 60), (.junk 61), (.junk 62), (.junk 63), (.junk 64), (.junk 65), (.junk 66), (.junk 67), (.junk 68), (.junk 69), (.junk 70), (.junk 71), (.junk 72), (.junk 73), (.junk 74), (.junk 75), (.junk 76), (.junk 77), (.junk 78), (.junk 79), (.junk 80), (.junk 81), (.junk 82), (.junk 83), (.junk 84), (.junk 85), (.junk 86), (.junk 87), (.junk 88), (.junk 89), (.junk 90), (.junk 91), (.junk 92), (.junk 93), (.junk 94), (.junk 95), (.junk 96), (.junk 97), (.junk 98), (.junk 99), (.junk 100), (.junk 101), (.junk 102), (.junk 103), (.junk 104), (.junk 105), (.junk 106), (.junk 107), (.junk 108), (.junk 109), (.junk 110), (.junk 111), (.junk 112), (.junk 113), (.junk 114), (.junk 115), (.junk 116), (.junk 117), (.junk 118), (.junk 119), .undef, .undef, .undef, .undef, .undef, .undef, .undef, .undef, .undef, .undef, .undef, .undef, .undef, .undef, .undef, .undef, .undef, .undef, .undef], H := [(.row 2 2 1)], ni := 4, nb := 2, nv := 3, nj := 120 }]
theorem saleroomlaw40_RelcapConsistent_ok : SysOk Try.prog 8 saleroomlaw40_RelcapConsistent_S := sys_ok (c := (cg [[false, false, true, false, true, true, true, true, true], [false, false, true, false, true, true, true, false, false, true, false, false, true, false, true, true, true, true, true]] [] [] false false false true)) (progOkG _ _ _ _ _ _ _ _) Try.func8 Try.call8 (by kernel_rfl) saleroomlaw40_RelcapConsistent_pats saleroomlaw40_RelcapConsistent_S 5000 rfl (by kernel_rfl) (by kernel_rfl) rfl
def saleroomref40_Right_s : PT :=
 (.call 17 [(.agg [(.int .i64 (.a 1)), (.int .i64 (.a 2)), (.int .i64 (.a 3)), (.int .i64 (.a 4)), (.int .i64 (.a 5)), (.int .i64 (.a 6))])] [] [(.one (.int .i64))]
 (.ite (.eq (.a 8) (.l 0))
  (.ite (.not (.and (.eq (.a 1) (.l 0)) (.and (.eq (.a 2) (.l 0)) (.and (.eq (.a 3) (.l 0)) (.and (.eq (.a 4) (.l 0)) (.and (.eq (.a 5) (.l 0)) (.eq (.a 6) (.l 0))))))))
   (.ite (.le (.l 1) (.a 7))
    (.ret false (.bool (.le (.a 7) (.l 1000000))) [])
    (.ret false (.bool (.t false)) []))
   (.ret false (.bool (.t false)) []))
  (.ret false (.bool (.t false)) [])))
def saleroomref40_Right_S : Sx.Sys := ⟨[(.sh (.agg [(.int .i64), (.int .i64), (.int .i64), (.int .i64), (.int .i64), (.int .i64), (.int .i64), (.int .i64)]))], saleroomref40_Right_s, [], none⟩
def saleroomref40_Right_pats : List Cfg := []
theorem saleroomref40_Right_ok : SysOk Try.prog 16 saleroomref40_Right_S := sys_ok (c := (cg [] [] [] false false false true)) (progOkG _ _ _ _ _ _ _ _) Try.func16 Try.call16 (by kernel_rfl) saleroomref40_Right_pats saleroomref40_Right_S 5000 rfl (by kernel_rfl) (by kernel_rfl) rfl
def revealed_Check_s : PT :=
 (.call 42 [(.va 0)] [] [(.one .bool)]
 (.ite (.not (.a 0))
  (.ret false (.tup [(.agg [.nilS, .nilS]), (.bool (.t false))]) [])
  (.call 43 [(.va 0)] [] [(.one .val), (.one .val)]
  (.need (.is 0 2)
  (.ite (.not (.nil 2))
   (.ret false (.tup [(.agg [(.va 2), .nilS]), (.bool (.t false))]) [])
   (.need (.is 0 0)
   (.jump 0 [(.l 0), (.slen 0), (.l 0)] [] [(.va 0), (.va 1)])))))))
def revealed_Check_t0_b1 : PT :=
 (.call 27 [(.agg [(.int .i64 (.a 3)), (.int .i64 (.a 4)), (.int .i64 (.a 5)), (.int .i64 (.a 6)), (.int .i64 (.a 7)), (.int .i64 (.a 8))]), (.agg [(.int .i64 (.a 9)), (.int .i64 (.a 10)), (.int .i64 (.a 11)), (.int .i64 (.a 12)), (.int .i64 (.a 13)), (.int .i64 (.a 14))])] [] [(.one (.int .i64))]
   (.load false (.ea 1 (.a 2) 1 0) [(.int .i64)]
   (.need (.and (.le (.l (-9223372036854775808)) (.sub (.a 15) (.a 16))) (.le (.sub (.a 15) (.a 16)) (.l 9223372036854775807)))
   (.need (.and (.le (.l (-9223372036854775808)) (.add (.a 2) (.l 1))) (.le (.add (.a 2) (.l 1)) (.l 9223372036854775807)))
   (.jump 0 [(.mx (.a 0) (.sub (.a 15) (.a 16))), (.a 1), (.add (.a 2) (.l 1))] [] [(.va 0), (.va 1)])))))
def revealed_Check_t0_b2 : PT :=
 (.load false (.ea 1 (.a 2) 1 0) [(.int .i64)]
   (.call 27 [(.agg [(.int .i64 (.a 3)), (.int .i64 (.a 4)), (.int .i64 (.a 5)), (.int .i64 (.a 6)), (.int .i64 (.a 7)), (.int .i64 (.a 8))]), (.agg [(.int .i64 (.a 9)), (.int .i64 (.a 10)), (.int .i64 (.a 11)), (.int .i64 (.a 12)), (.int .i64 (.a 13)), (.int .i64 (.a 14))])] [] [(.one (.int .i64))]
   (.need (.and (.le (.l (-9223372036854775808)) (.sub (.a 16) (.a 15))) (.le (.sub (.a 16) (.a 15)) (.l 9223372036854775807)))
   (.need (.and (.le (.l (-9223372036854775808)) (.add (.a 2) (.l 1))) (.le (.add (.a 2) (.l 1)) (.l 9223372036854775807)))
   (.jump 0 [(.mx (.a 0) (.sub (.a 16) (.a 15))), (.a 1), (.add (.a 2) (.l 1))] [] [(.va 0), (.va 1)])))))
def revealed_Check_t0 : PT :=
 (.ite (.lt (.a 2) (.a 1))
  (.need (.and (.le (.l 0) (.a 2)) (.lt (.a 2) (.slen 0)))
  (.load false (.ea 0 (.a 2) 12 0) [(.int .i64), (.int .i64), (.int .i64), (.int .i64), (.int .i64), (.int .i64), (.int .i64), (.int .i64), (.int .i64), (.int .i64), (.int .i64), (.int .i64)]
  (.need (.and (.le (.l 0) (.a 2)) (.lt (.a 2) (.slen 1)))
  (.both revealed_Check_t0_b1 revealed_Check_t0_b2))))
  (.need (.is 0 0)
  (.jump 1 [(.a 0), (.slen 0), (.l 0)] [] [(.va 1), (.va 0)])))
def revealed_Check_t1 : PT :=
 (.ite (.lt (.a 2) (.a 1))
  (.need (.and (.le (.l 0) (.a 2)) (.lt (.a 2) (.slen 1)))
  (.load false (.ea 1 (.a 2) 12 0) [(.int .i64), (.int .i64), (.int .i64), (.int .i64), (.int .i64), (.int .i64), (.int .i64), (.int .i64), (.int .i64), (.int .i64), (.int .i64), (.int .i64)]
  (.ite (.and (.eq (.a 9) (.l 0)) (.and (.eq (.a 10) (.l 0)) (.and (.eq (.a 11) (.l 0)) (.and (.eq (.a 12) (.l 0)) (.and (.eq (.a 13) (.l 0)) (.eq (.a 14) (.l 0)))))))
   (.need (.and (.le (.l 0) (.a 2)) (.lt (.a 2) (.slen 0)))
   (.load false (.ea 0 (.a 2) 1 0) [(.int .i64)]
   (.need (.and (.le (.l (-9223372036854775808)) (.sub (.l 0) (.a 15))) (.le (.sub (.l 0) (.a 15)) (.l 9223372036854775807)))
   (.need (.and (.le (.l (-9223372036854775808)) (.add (.a 2) (.l 1))) (.le (.add (.a 2) (.l 1)) (.l 9223372036854775807)))
   (.jump 1 [(.sub (.l 0) (.a 15)), (.a 1), (.add (.a 2) (.l 1))] [] [(.va 0), (.va 1)])))))
   (.need (.and (.le (.l (-9223372036854775808)) (.add (.a 2) (.l 1))) (.le (.add (.a 2) (.l 1)) (.l 9223372036854775807)))
   (.jump 1 [(.a 0), (.a 1), (.add (.a 2) (.l 1))] [] [(.va 0), (.va 1)])))))
  (.need (.is 0 0)
  (.jump 2 [(.a 0), (.slen 0), (.l 0)] [] [(.va 0)])))
def revealed_Check_t2 : PT :=
 (.ite (.lt (.a 2) (.a 1))
  (.need (.and (.le (.l 0) (.a 2)) (.lt (.a 2) (.slen 0)))
  (.load false (.ea 0 (.a 2) 1 0) [(.int .i64)]
  (.need (.and (.le (.l (-9223372036854775808)) (.add (.a 3) (.a 0))) (.le (.add (.a 3) (.a 0)) (.l 9223372036854775807)))
  (.need (.and (.le (.l 0) (.a 2)) (.lt (.a 2) (.slen 0)))
  (.storeM (.ea 0 (.a 2) 1 0) [(.int .i64 (.add (.a 3) (.a 0)))]
  (.need (.and (.le (.l (-9223372036854775808)) (.add (.a 2) (.l 1))) (.le (.add (.a 2) (.l 1)) (.l 9223372036854775807)))
  (.jump 2 [(.a 0), (.a 1), (.add (.a 2) (.l 1))] [] [(.va 0)])))))))
  (.ret false (.tup [(.agg [.nilS, (.va 0)]), (.bool (.t true))]) []))
def revealed_Check_S : Sx.Sys := ⟨[(.sh (.one .val))], revealed_Check_s, [revealed_Check_t0, revealed_Check_t1, revealed_Check_t2], none⟩
def revealed_Check_pats : List Cfg := [{ todo := [(.code [false, false, true, false, true, true, true, true, true]), (.inLoop [false, false, true, false, true, true, true, true, true]), (.inBlock 0), (.code [true, true, true, true, true, true])], sl := [(.va 0), .undef, (.ptr 0 0), (.junk 0), (.va 1), (.junk 1), (.int .i64 (.a 0)), (.junk 2), (.junk 3), .undef, .undef, .undef, (.junk 4), (.junk 5), (.junk 6), .undef, (.junk 7), (.junk 8), (.junk 9), (.junk 10), (.junk 11), (.junk 12), (.junk 13), .undef, .undef, (.va 0), (.int .i64 (.a 1)), (.int .i64 (.a 2)), (.junk 14), (.junk 15), (.junk 16), (.junk 17), (.junk 18), (.junk 19), (.junk 20), (.junk 21), (.junk 22), (.junk 23), (.junk 24), (.junk 25), (.junk 26), (.junk 27), (.junk 28), (.junk 29), (.junk 30), .undef, .undef, .undef, .undef, .undef, .undef, .undef, .undef, .undef, .undef, .undef, .undef, .undef, .undef, .undef, .undef, .undef, .undef, .undef, .undef, .undef, .undef, .undef, .undef, .undef, .undef, .undef, .undef, .undef, .undef, .undef, .undef], H := [(.cells [.nilS, .nilS] 50 false)], ni := 3, nb := 0, nv := 2, nj := 31 },
 { todo := [(.code [false, false, true, false, true, true, true, true, true, true]), (.inLoop [false, false, true, false, true, true, true, true, true, true]), (.inBlock 2), (.code [true, true, true, true, true, true, true])], sl := [(.junk 0), .undef, (.ptr 0 0), (.junk 1), (.va 0), (.junk 2), (.int .i64 (.a 0)), (.junk 3), (.junk 4), (.junk 5), (.junk 6), .undef, (.junk 7), (.junk 8), (.junk 9), .undef, (.junk 10), (.junk 11), (.junk 12), (.junk 13), (.junk 14), (.junk 15), (.junk 16), .undef, .undef, (.junk 17), (.junk 18), (.junk 19), (.junk 20), (.junk 21), (.junk 22), (.junk 23), (.junk 24), (.junk 25), (.junk 26), (.junk 27), (.junk 28), (.junk 29), (.junk 30), (.junk 31), (.junk 32), (.junk 33), (.junk 34), (.junk 35), (.junk 36), (.va 1), (.int .i64 (.a 1)), (.int .i64 (.a 2)), (.junk 37), (.junk 38), (.junk 39), (.junk 40), (.junk 41), (.junk 42), (.junk 43), (.junk 44), (.junk 45), (.junk 46), (.junk 47), (.junk 48), (.junk 49), (.junk 50), .undef, .undef, .undef, .undef, .undef, .undef, .undef, .undef, .undef, .undef, .undef, .undef, .undef, .undef, .undef], H := [(.cells [.nilS, .nilS] 50 false)], ni := 3, nb := 0, nv := 2, nj := 51 },
 { todo := [(.code [false, false, true, false, true, true, true, true, true, true, true]), (.inLoop [false, false, true, false, true, true, true, true, true, true, true]), (.inBlock 4), (.code [true, true, true, true, true, true, true, true])], sl := [(.junk 0), .undef, (.ptr 0 0), (.junk 1), (.va 0), (.junk 2), (.int .i64 (.a 0)), (.junk 3), (.junk 4), (.junk 5), (.junk 6), (.junk 7), (.junk 8), (.junk 9), (.junk 10), .undef, (.junk 11), (.junk 12), (.junk 13), (.junk 14), (.junk 15), (.junk 16), (.junk 17), .undef, .undef, (.junk 18), (.junk 19), (.junk 20), (.junk 21), (.junk 22), (.junk 23), (.junk 24), (.junk 25), (.junk 26), (.junk 27), (.junk 28), (.junk 29), (.junk 30), (.junk 31), (.junk 32), (.junk 33), (.junk 34), (.junk 35), (.junk 36), (.junk 37), (.junk 38), (.junk 39), (.junk 40), (.junk 41), (.junk 42), (.junk 43), (.junk 44), (.junk 45), (.junk 46), (.junk 47), (.junk 48), (.junk 49), (.junk 50), (.junk 51), (.junk 52), (.junk 53), (.junk 54), (.junk 55), (.int .i64 (.a 1)), (.int .i64 (.a 2)), (.junk 56), (.junk 57), (.junk 58), (.junk 59), (.junk 60), (.junk 61), (.junk 62), (.junk 63), (.junk 64), (.junk 65), .undef, .undef], H := [(.cells [.nilS, .nilS] 50 false)], ni := 3, nb := 0, nv := 1, nj := 66 }]
theorem revealed_Check_ok : SysOk Try.prog 24 revealed_Check_S := sys_ok (c := (cg [[false, false, true, false, true, true, true, true, true], [false, false, true, false, true, true, true, true, true, true], [false, false, true, false, true, true, true, true, true, true, true]] [] [] true false false true)) (progOkG _ _ _ _ _ _ _ _) Try.func24 Try.call24 (by kernel_rfl) revealed_Check_pats revealed_Check_S 5000 rfl (by kernel_rfl) (by kernel_rfl) rfl
def bundle_Compare_s : PT :=
 (.ite (.lt (.a 0) (.a 6))
  (.ret false (.int .i64 (.l (-1))) [])
  (.ite (.lt (.a 6) (.a 0))
   (.ret false (.int .i64 (.l 1)) [])
   (.ite (.lt (.a 1) (.a 7))
    (.ret false (.int .i64 (.l (-1))) [])
    (.ite (.lt (.a 7) (.a 1))
     (.ret false (.int .i64 (.l 1)) [])
     (.ite (.lt (.a 2) (.a 8))
      (.ret false (.int .i64 (.l (-1))) [])
      (.ite (.lt (.a 8) (.a 2))
       (.ret false (.int .i64 (.l 1)) [])
       (.ite (.lt (.a 3) (.a 9))
        (.ret false (.int .i64 (.l (-1))) [])
        (.ite (.lt (.a 9) (.a 3))
         (.ret false (.int .i64 (.l 1)) [])
         (.ite (.lt (.a 4) (.a 10))
          (.ret false (.int .i64 (.l (-1))) [])
          (.ite (.lt (.a 10) (.a 4))
           (.ret false (.int .i64 (.l 1)) [])
           (.ite (.lt (.a 5) (.a 11))
            (.ret false (.int .i64 (.l (-1))) [])
            (.ite (.lt (.a 11) (.a 5))
             (.ret false (.int .i64 (.l 1)) [])
             (.ret false (.int .i64 (.l 0)) [])))))))))))))
def bundle_Compare_S : Sx.Sys := ⟨[(.sh (.agg [(.int .i64), (.int .i64), (.int .i64), (.int .i64), (.int .i64), (.int .i64)])), (.sh (.agg [(.int .i64), (.int .i64), (.int .i64), (.int .i64), (.int .i64), (.int .i64)]))], bundle_Compare_s, [], none⟩
def bundle_Compare_pats : List Cfg := []
theorem bundle_Compare_ok : SysOk Try.prog 32 bundle_Compare_S := sys_ok (c := (cg [] [] [] false false false true)) (progOkG _ _ _ _ _ _ _ _) Try.func32 Try.call32 (by kernel_rfl) bundle_Compare_pats bundle_Compare_S 5000 rfl (by kernel_rfl) (by kernel_rfl) rfl
def saleroomref07_Cost_s : PT :=
 (.need (.and (.le (.l (-9223372036854775808)) (.mul (.a 0) (.a 6))) (.le (.mul (.a 0) (.a 6)) (.l 9223372036854775807)))
 (.need (.and (.le (.l (-9223372036854775808)) (.mul (.a 0) (.a 6))) (.le (.mul (.a 0) (.a 6)) (.l 9223372036854775807)))
 (.need (.and (.le (.l (-9223372036854775808)) (.mul (.a 1) (.a 7))) (.le (.mul (.a 1) (.a 7)) (.l 9223372036854775807)))
 (.need (.and (.le (.l (-9223372036854775808)) (.add (.mul (.a 0) (.a 6)) (.mul (.a 1) (.a 7)))) (.le (.add (.mul (.a 0) (.a 6)) (.mul (.a 1) (.a 7))) (.l 9223372036854775807)))
 (.need (.and (.le (.l (-9223372036854775808)) (.mul (.a 2) (.a 8))) (.le (.mul (.a 2) (.a 8)) (.l 9223372036854775807)))
 (.need (.and (.le (.l (-9223372036854775808)) (.add (.add (.mul (.a 0) (.a 6)) (.mul (.a 1) (.a 7))) (.mul (.a 2) (.a 8)))) (.le (.add (.add (.mul (.a 0) (.a 6)) (.mul (.a 1) (.a 7))) (.mul (.a 2) (.a 8))) (.l 9223372036854775807)))
 (.need (.and (.le (.l (-9223372036854775808)) (.mul (.a 3) (.a 9))) (.le (.mul (.a 3) (.a 9)) (.l 9223372036854775807)))
 (.need (.and (.le (.l (-9223372036854775808)) (.add (.add (.add (.mul (.a 0) (.a 6)) (.mul (.a 1) (.a 7))) (.mul (.a 2) (.a 8))) (.mul (.a 3) (.a 9)))) (.le (.add (.add (.add (.mul (.a 0) (.a 6)) (.mul (.a 1) (.a 7))) (.mul (.a 2) (.a 8))) (.mul (.a 3) (.a 9))) (.l 9223372036854775807)))
 (.need (.and (.le (.l (-9223372036854775808)) (.mul (.a 4) (.a 10))) (.le (.mul (.a 4) (.a 10)) (.l 9223372036854775807)))
 (.need (.and (.le (.l (-9223372036854775808)) (.add (.add (.add (.add (.mul (.a 0) (.a 6)) (.mul (.a 1) (.a 7))) (.mul (.a 2) (.a 8))) (.mul (.a 3) (.a 9))) (.mul (.a 4) (.a 10)))) (.le (.add (.add (.add (.add (.mul (.a 0) (.a 6)) (.mul (.a 1) (.a 7))) (.mul (.a 2) (.a 8))) (.mul (.a 3) (.a 9))) (.mul (.a 4) (.a 10))) (.l 9223372036854775807)))
 (.need (.and (.le (.l (-9223372036854775808)) (.mul (.a 5) (.a 11))) (.le (.mul (.a 5) (.a 11)) (.l 9223372036854775807)))
 (.need (.and (.le (.l (-9223372036854775808)) (.add (.add (.add (.add (.add (.mul (.a 0) (.a 6)) (.mul (.a 1) (.a 7))) (.mul (.a 2) (.a 8))) (.mul (.a 3) (.a 9))) (.mul (.a 4) (.a 10))) (.mul (.a 5) (.a 11)))) (.le (.add (.add (.add (.add (.add (.mul (.a 0) (.a 6)) (.mul (.a 1) (.a 7))) (.mul (.a 2) (.a 8))) (.mul (.a 3) (.a 9))) (.mul (.a 4) (.a 10))) (.mul (.a 5) (.a 11))) (.l 9223372036854775807)))
 (.ret false (.int .i64 (.add (.add (.add (.add (.add (.mul (.a 0) (.a 6)) (.mul (.a 1) (.a 7))) (.mul (.a 2) (.a 8))) (.mul (.a 3) (.a 9))) (.mul (.a 4) (.a 10))) (.mul (.a 5) (.a 11)))) [])))))))))))))
def saleroomref07_Cost_S : Sx.Sys := ⟨[(.sh (.agg [(.int .i64), (.int .i64), (.int .i64), (.int .i64), (.int .i64), (.int .i64)])), (.sh (.agg [(.int .i64), (.int .i64), (.int .i64), (.int .i64), (.int .i64), (.int .i64)]))], saleroomref07_Cost_s, [], none⟩
def saleroomref07_Cost_pats : List Cfg := []
theorem saleroomref07_Cost_ok : SysOk Try.prog 41 saleroomref07_Cost_S := sys_ok (c := (cg [] [] [] false false false true)) (progOkG _ _ _ _ _ _ _ _) Try.func41 Try.call41 (by kernel_rfl) saleroomref07_Cost_pats saleroomref07_Cost_S 5000 rfl (by kernel_rfl) (by kernel_rfl) rfl
def math_bits_Len_s : PT :=
 (.call 63 [(.int .u64 (.a 0))] [] [(.one (.int .i64))]
 (.ret false (.int .i64 (.a 1)) []))
def math_bits_Len_S : Sx.Sys := ⟨[(.sh (.one (.int .u64)))], math_bits_Len_s, [], none⟩
def math_bits_Len_pats : List Cfg := []
theorem math_bits_Len_ok : SysOk Try.prog 49 math_bits_Len_S := sys_ok (c := (cg [] [] [] false false false true)) (progOkG _ _ _ _ _ _ _ _) Try.func49 Try.call49 (by kernel_rfl) math_bits_Len_pats math_bits_Len_S 5000 rfl (by kernel_rfl) (by kernel_rfl) rfl
def slices_reverseRangeCmpFunc_api_Offer_s : PT :=
 (.need (.and (.le (.l (-9223372036854775808)) (.sub (.a 1) (.l 1))) (.le (.sub (.a 1) (.l 1)) (.l 9223372036854775807)))
 (.jump 0 [(.a 0), (.sub (.a 1) (.l 1))] [] [(.va 0)]))
def slices_reverseRangeCmpFunc_api_Offer_t0 : PT :=
 (.ite (.lt (.a 0) (.a 1))
  (.need (.and (.le (.l 0) (.a 1)) (.lt (.a 1) (.slen 0)))
  (.need (.and (.le (.l 0) (.a 0)) (.lt (.a 0) (.slen 0)))
  (.load true (.ea 0 (.a 1) 8 0) [(.int .i64), (.int .i64), (.int .i64), (.int .i64), (.int .i64), (.int .i64), (.int .i64), (.int .i64)]
  (.load true (.ea 0 (.a 0) 8 0) [(.int .i64), (.int .i64), (.int .i64), (.int .i64), (.int .i64), (.int .i64), (.int .i64), (.int .i64)]
  (.need (.and (.le (.l 0) (.a 0)) (.lt (.a 0) (.slen 0)))
  (.storeM (.ea 0 (.a 0) 8 0) [(.int .i64 (.a 2)), (.int .i64 (.a 3)), (.int .i64 (.a 4)), (.int .i64 (.a 5)), (.int .i64 (.a 6)), (.int .i64 (.a 7)), (.int .i64 (.a 8)), (.int .i64 (.a 9))]
  (.need (.and (.le (.l 0) (.a 1)) (.lt (.a 1) (.slen 0)))
  (.storeM (.ea 0 (.a 1) 8 0) [(.int .i64 (.a 10)), (.int .i64 (.a 11)), (.int .i64 (.a 12)), (.int .i64 (.a 13)), (.int .i64 (.a 14)), (.int .i64 (.a 15)), (.int .i64 (.a 16)), (.int .i64 (.a 17))]
  (.need (.and (.le (.l (-9223372036854775808)) (.add (.a 0) (.l 1))) (.le (.add (.a 0) (.l 1)) (.l 9223372036854775807)))
  (.need (.and (.le (.l (-9223372036854775808)) (.sub (.a 1) (.l 1))) (.le (.sub (.a 1) (.l 1)) (.l 9223372036854775807)))
  (.jump 0 [(.add (.a 0) (.l 1)), (.sub (.a 1) (.l 1))] [] [(.va 0)])))))))))))
  (.ret false (.tup []) []))
def slices_reverseRangeCmpFunc_api_Offer_S : Sx.Sys := ⟨[(.sh (.one .val)), (.sh (.one (.int .i64))), (.sh (.one (.int .i64))), (.sh (.one .val))], slices_reverseRangeCmpFunc_api_Offer_s, [slices_reverseRangeCmpFunc_api_Offer_t0], none⟩
def slices_reverseRangeCmpFunc_api_Offer_pats : List Cfg := [{ todo := [(.code [false, false, true, true]), (.inLoop [false, false, true, true]), (.inBlock 0)], sl := [(.va 0), (.junk 0), (.junk 1), (.junk 2), .undef, .undef, .undef, .undef, (.int .i64 (.a 0)), (.int .i64 (.a 1)), (.junk 3), (.junk 4), (.junk 5), (.junk 6), (.junk 7), (.junk 8), (.junk 9), (.junk 10), (.junk 11), (.junk 12), (.junk 13), (.junk 14), (.junk 15), (.junk 16), (.junk 17), (.junk 18), (.junk 19), (.junk 20), (.junk 21), (.junk 22), (.junk 23), (.junk 24), (.junk 25), (.junk 26)], H := [], ni := 2, nb := 0, nv := 1, nj := 27 }]
theorem slices_reverseRangeCmpFunc_api_Offer_ok : SysOk Try.prog 58 slices_reverseRangeCmpFunc_api_Offer_S := sys_ok (c := (cg [[false, false, true, true]] [] [] false false false true)) (progOkG _ _ _ _ _ _ _ _) Try.func58 Try.call58 (by kernel_rfl) slices_reverseRangeCmpFunc_api_Offer_pats slices_reverseRangeCmpFunc_api_Offer_S 5000 rfl (by kernel_rfl) (by kernel_rfl) rfl
end Go.Proofs.Ytggjcdnailppoaa
