/- The trees of this seat's functions, part 0. Written by txgen.py. -/
import Derived.Test.YtggjcdnailppoaaHTab
set_option linter.unusedSimpArgs false
set_option linter.unusedVariables false
set_option maxRecDepth 100000
namespace Go.Proofs.Ytggjcdnailppoaa
open Go.Sx
def saleroomlaw40_RelcapClockbids_s : PT :=
 (.need (.is 0 0)
 (.ite (.lt (.l 20) (.slen 0))
  (.call 9 [] [] [(.one .bool)]
  (.ret false (.bool (.a 0)) []))
  (.call 11 [(.va 0)] [] [(.one .val)]
  (.call 12 [(.va 0)] [] [(.one .val)]
  (.call 10 [(.va 1), (.va 2)] [] [(.one .bool)]
  (.ite (.a 0)
   (.call 9 [] [] [(.one .bool)]
   (.ret false (.bool (.a 1)) []))
   (.ret false (.bool (.t false)) [])))))))
def saleroomlaw40_RelcapClockbids_S : Sx.Sys := ⟨[(.sh (.one .val))], saleroomlaw40_RelcapClockbids_s, [], none⟩
def saleroomlaw40_RelcapClockbids_pats : List Cfg := []
theorem saleroomlaw40_RelcapClockbids_ok : SysOk Try.prog 3 saleroomlaw40_RelcapClockbids_S := sys_ok (c := (cg [] [] [] false false false true)) (progOkG _ _ _ _ _ _ _ _) Try.func3 Try.call3 (by kernel_rfl) saleroomlaw40_RelcapClockbids_pats saleroomlaw40_RelcapClockbids_S 5000 rfl (by kernel_rfl) (by kernel_rfl) rfl
def relcap_Clockbids_s : PT :=
 (.call 26 [(.va 0)] [] [(.one .bool)]
 (.ite (.not (.a 0))
  (.ret false .nilS [])
  (.need (.is 0 0)
  (.jump 0 [(.slen 0), (.l 0)] [] [.nilS, (.va 0)]))))
def relcap_Clockbids_t0 : PT :=
 (.ite (.lt (.a 1) (.a 0))
  (.need (.and (.le (.l 0) (.a 1)) (.lt (.a 1) (.slen 1)))
  (.load false (.ea 1 (.a 1) 12 0) [(.int .i64), (.int .i64), (.int .i64), (.int .i64), (.int .i64), (.int .i64), (.int .i64), (.int .i64), (.int .i64), (.int .i64), (.int .i64), (.int .i64)]
  (.call 27 [(.agg [(.int .i64 (.a 2)), (.int .i64 (.a 3)), (.int .i64 (.a 4)), (.int .i64 (.a 5)), (.int .i64 (.a 6)), (.int .i64 (.a 7))]), (.agg [(.int .i64 (.a 8)), (.int .i64 (.a 9)), (.int .i64 (.a 10)), (.int .i64 (.a 11)), (.int .i64 (.a 12)), (.int .i64 (.a 13))])] [] [(.one (.int .i64))]
  (.need (.is 0 0)
  (.jump 1 [(.a 14), (.a 0), (.a 1), (.slen 0), (.l 0), (.a 2), (.a 3), (.a 4), (.a 5), (.a 6), (.a 7), (.a 8), (.a 9), (.a 10), (.a 11), (.a 12), (.a 13)] [] [(.va 0), (.va 1)])))))
  (.call 28 [(.va 0), (.fn 29 0 [])] [] [(.one .val)]
  (.call 30 [(.va 2), (.fn 31 0 [])] [] []
  (.ret false (.va 2) []))))
def relcap_Clockbids_t1 : PT :=
 (.ite (.lt (.a 4) (.a 3))
  (.need (.and (.le (.l 0) (.a 4)) (.lt (.a 4) (.slen 0)))
  (.load false (.ea 0 (.a 4) 8 1) [(.int .i64), (.int .i64), (.int .i64), (.int .i64), (.int .i64), (.int .i64)]
  (.ite (.and (.eq (.a 17) (.a 11)) (.and (.eq (.a 18) (.a 12)) (.and (.eq (.a 19) (.a 13)) (.and (.eq (.a 20) (.a 14)) (.and (.eq (.a 21) (.a 15)) (.eq (.a 22) (.a 16)))))))
   (.need (.and (.le (.l 0) (.a 4)) (.lt (.a 4) (.slen 0)))
   (.load false (.ea 0 (.a 4) 8 7) [(.int .i64)]
   (.need (.and (.le (.l 0) (.a 4)) (.lt (.a 4) (.slen 0)))
   (.storeM (.ea 0 (.a 4) 8 7) [(.int .i64 (.mx (.a 23) (.a 0)))]
   (.need (.and (.le (.l (-9223372036854775808)) (.add (.a 2) (.l 1))) (.le (.add (.a 2) (.l 1)) (.l 9223372036854775807)))
   (.jump 0 [(.a 1), (.add (.a 2) (.l 1))] [] [(.va 0), (.va 1)]))))))
   (.need (.and (.le (.l (-9223372036854775808)) (.add (.a 4) (.l 1))) (.le (.add (.a 4) (.l 1)) (.l 9223372036854775807)))
   (.jump 1 [(.a 0), (.a 1), (.a 2), (.a 3), (.add (.a 4) (.l 1)), (.a 5), (.a 6), (.a 7), (.a 8), (.a 9), (.a 10), (.a 11), (.a 12), (.a 13), (.a 14), (.a 15), (.a 16)] [] [(.va 0), (.va 1)])))))
  (.app none (.lit [[(.int .i64 (.l 0)), (.int .i64 (.a 11)), (.int .i64 (.a 12)), (.int .i64 (.a 13)), (.int .i64 (.a 14)), (.int .i64 (.a 15)), (.int .i64 (.a 16)), (.int .i64 (.a 0))]]) 8
  (.appM (.va 0) (.va 2) 8 33
  (.need (.and (.le (.l (-9223372036854775808)) (.add (.a 2) (.l 1))) (.le (.add (.a 2) (.l 1)) (.l 9223372036854775807)))
  (.jump 0 [(.a 1), (.add (.a 2) (.l 1))] [] [(.va 3), (.va 1)])))))
def relcap_Clockbids_S : Sx.Sys := ⟨[(.sh (.one .val))], relcap_Clockbids_s, [relcap_Clockbids_t0, relcap_Clockbids_t1], none⟩
def relcap_Clockbids_pats : List Cfg := [{ todo := [(.code [false, false, true, false, true, true, true, false, true]), (.inLoop [false, false, true, false, true, true, true, false, true]), (.inBlock 0), (.code [true, true, true, true, false, true]), (.inScope [false, true])], sl := [(.junk 0), .undef, (.junk 1), (.va 0), .undef, (.junk 2), (.junk 3), (.junk 4), (.junk 5), (.junk 6), (.junk 7), (.va 1), (.int .i64 (.a 0)), (.int .i64 (.a 1)), (.junk 8), (.junk 9), (.junk 10), (.junk 11), (.junk 12), (.junk 13), (.junk 14), (.junk 15), (.junk 16), (.junk 17), (.junk 18), (.junk 19), (.junk 20), (.junk 21), (.junk 22), (.junk 23), (.junk 24), (.junk 25), (.junk 26), (.junk 27), (.junk 28), (.junk 29), (.junk 30), (.junk 31), (.junk 32), (.junk 33), (.junk 34), (.junk 35), (.junk 36), (.junk 37), (.junk 38), (.junk 39), (.junk 40), (.junk 41), (.junk 42), (.junk 43), (.junk 44), (.junk 45), (.junk 46), (.junk 47), (.junk 48), .undef, .undef, .undef, .undef, .undef], H := [], ni := 2, nb := 0, nv := 2, nj := 49 },
 { todo := [(.code [false, false, true, false, true, true, false, false, true, true, false, false, true, false, true, true, true, false, true]), (.inLoop [false, false, true, false, true, true, false, false, true, true, false, false, true, false, true, true, true, false, true]), (.inBlock 2), (.code [true, true, true, false, false, true, true, false, false, true, false, true, true, true, false, true]), (.inBlock 1), (.code [true, true, true, false, false, true, false, true, true, true, false, true]), (.inLoop [false, false, true, false, true, true, true, false, true]), (.inBlock 0), (.code [true, true, true, true, false, true]), (.inScope [false, true])], sl := [(.junk 0), .undef, (.junk 1), (.va 0), .undef, (.ptr 0 0), (.int .i64 (.a 0)), (.junk 2), (.junk 3), (.junk 4), (.junk 5), (.va 1), (.int .i64 (.a 1)), (.int .i64 (.a 2)), (.junk 6), (.junk 7), (.junk 8), (.junk 9), (.junk 10), (.junk 11), (.junk 12), (.junk 13), (.junk 14), (.int .i64 (.a 3)), (.int .i64 (.a 4)), (.junk 15), (.junk 16), (.junk 17), (.junk 18), (.junk 19), (.junk 20), (.junk 21), (.junk 22), (.junk 23), (.junk 24), (.junk 25), (.junk 26), (.junk 27), (.junk 28), (.junk 29), (.junk 30), (.junk 31), (.junk 32), (.junk 33), (.junk 34), (.junk 35), (.junk 36), (.junk 37), (.junk 38), (.junk 39), (.junk 40), (.junk 41), (.junk 42), (.junk 43), (.junk 44), .undef, .undef, .undef, .undef, .undef], H := [(.cells [(.int .i64 (.a 5)), (.int .i64 (.a 6)), (.int .i64 (.a 7)), (.int .i64 (.a 8)), (.int .i64 (.a 9)), (.int .i64 (.a 10)), (.int .i64 (.a 11)), (.int .i64 (.a 12)), (.int .i64 (.a 13)), (.int .i64 (.a 14)), (.int .i64 (.a 15)), (.int .i64 (.a 16))] 46 false)], ni := 17, nb := 0, nv := 2, nj := 45 }]
theorem relcap_Clockbids_ok : SysOk Try.prog 11 relcap_Clockbids_S := sys_ok (c := (cg [[false, false, true, false, true, true, true, false, true], [false, false, true, false, true, true, false, false, true, true, false, false, true, false, true, true, true, false, true]] [] [] true false true true)) (progOkG _ _ _ _ _ _ _ _) Try.func11 Try.call11 (by kernel_rfl) relcap_Clockbids_pats relcap_Clockbids_S 5000 rfl (by kernel_rfl) (by kernel_rfl) rfl
def relcap_Trim_s : PT :=
 (.call 26 [(.va 0)] [] [(.one .bool)]
 (.ite (.not (.a 0))
  (.ret false .nilS [])
  (.call 38 [(.va 1)] [] [(.one .val)]
  (.jump 0 [] [] [(.va 0), (.va 2)]))))
def relcap_Trim_t0 : PT :=
 (.call 15 [(.va 0), (.va 1)] [] [(.one (.int .i64)), (.one (.int .i64))]
 (.ite (.eq (.a 1) (.l 0))
  (.ret false (.va 1) [])
  (.need (.and (.le (.l (-9223372036854775808)) (.add (.a 0) (.l 1))) (.le (.add (.a 0) (.l 1)) (.l 9223372036854775807)))
  (.call 39 [(.va 1), (.int .i64 (.a 0)), (.int .i64 (.add (.a 0) (.l 1)))] [] [(.one .val)]
  (.jump 0 [] [] [(.va 0), (.va 2)])))))
def relcap_Trim_S : Sx.Sys := ⟨[(.sh (.one .val)), (.sh (.one .val))], relcap_Trim_s, [relcap_Trim_t0], none⟩
def relcap_Trim_pats : List Cfg := [{ todo := [(.code [false, false, true, true, true]), (.inLoop [false, false, true, true, true]), (.inBlock 0)], sl := [(.va 0), (.junk 0), .undef, .undef, (.junk 1), (.va 1), (.junk 2), (.junk 3), (.junk 4), (.junk 5), (.junk 6), (.junk 7), (.junk 8), (.junk 9), (.junk 10), (.junk 11), (.junk 12), (.junk 13), (.junk 14), (.junk 15), (.junk 16), .undef, (.junk 17), (.junk 18), (.junk 19), (.junk 20), (.junk 21)], H := [], ni := 0, nb := 0, nv := 2, nj := 22 }]
theorem relcap_Trim_ok : SysOk Try.prog 19 relcap_Trim_S := sys_ok (c := (cg [[false, false, true, true, true]] [] [] false false false true)) (progOkG _ _ _ _ _ _ _ _) Try.func19 Try.call19 (by kernel_rfl) relcap_Trim_pats relcap_Trim_S 5000 rfl (by kernel_rfl) (by kernel_rfl) rfl
def bundle_Cost_s : PT :=
 (.need (.and (.le (.l (-9223372036854775808)) (.mul (.a 0) (.a 6))) (.le (.mul (.a 0) (.a 6)) (.l 9223372036854775807)))
 (.need (.and (.le (.l (-9223372036854775808)) (.mul (.a 0) (.a 6))) (.le (.mul (.a 0) (.a 6)) (.l 9223372036854775807)))
 (.need (.and (.le (.l (-9223372036854775808)) (.mul (.a 1) (.a 7))) (.le (.mul (.a 1) (.a 7)) (.l 9223372036854775807)))
 (.need (.and (.le (.l (-9223372036854775808)) (.add (.mul (.a 0) (.a 6)) (.mul (.a 1) (.a 7)))) (.le (.add (.mul (.a 0) (.a 6)) (.mul (.a 1) (.a 7))) (.l 9223372036854775807)))
 (.need (.and (.le (.l (-9223372036854775808)) (.mul (.a 2) (.a 8))) (.le (.mul (.a 2) (.a 8)) (.l 9223372036854775807)))
 (.need (.and (.le (.l (-9223372036854775808)) (.add (.add (.mul (.a 0) (.a 6)) (.mul (.a 1) (.a 7))) (.mul (.a 2) (.a 8)))) (.le (.add (.add (.mul (.a 0) (.a 6)) (.mul (.a 1) (.a 7))) (.mul (.a 2) (.a 8))) (.l 9223372036854775807)))
 (.need (.and (.le (.l (-9223372036854775808)) (.mul (.a 3) (.a 9))) (.le (.mul (.a 3) (.a 9)) (.l 9223372036854775807)))
 (.need (.and (.le (.l (-9223372036854775808)) (.add (.add (.add (.mul (.a 0) (.a 6)) (.mul (.a 1) (.a 7))) (.mul (.a 2) (.a 8))) (.mul (.a 3) (.a 9)))) (.le (.add (.add (.add (.mul (.a 0) (.a 6)) (.mul (.a 1) (.a 7))) (.mul (.a 2) (.a 8))) (.mul (.a 3) (.a 9))) (.l 9223372036854775807)))
 (.need (.and (.le (.l (-9223372036854775808)) (.mul (.a 4) (.a 10))) (.le (.mul (.a 4) (.a 10)) (.l 9223372036854775807)))
 (.need (.and (.le (.l (-9223372036854775808)) (.add (.add (.add (.add (.mul (.a 0) (.a 6)) (.mul (.a 1) (.a 7))) (.mul (.a 2) (.a 8))) (.mul (.a 3) (.a 9))) (.mul (.a 4) (.a 10)))) (.le (.add (.add (.add (.add (.mul (.a 0) (.a 6)) (.mul (.a 1) (.a 7))) (.mul (.a 2) (.a 8))) (.mul (.a 3) (.a 9))) (.mul (.a 4) (.a 10))) (.l 9223372036854775807)))
 (.need (.and (.le (.l (-9223372036854775808)) (.mul (.a 5) (.a 11))) (.le (.mul (.a 5) (.a 11)) (.l 9223372036854775807)))
 (.need (.and (.le (.l (-9223372036854775808)) (.add (.add (.add (.add (.add (.mul (.a 0) (.a 6)) (.mul (.a 1) (.a 7))) (.mul (.a 2) (.a 8))) (.mul (.a 3) (.a 9))) (.mul (.a 4) (.a 10))) (.mul (.a 5) (.a 11)))) (.le (.add (.add (.add (.add (.add (.mul (.a 0) (.a 6)) (.mul (.a 1) (.a 7))) (.mul (.a 2) (.a 8))) (.mul (.a 3) (.a 9))) (.mul (.a 4) (.a 10))) (.mul (.a 5) (.a 11))) (.l 9223372036854775807)))
 (.ret false (.int .i64 (.add (.add (.add (.add (.add (.mul (.a 0) (.a 6)) (.mul (.a 1) (.a 7))) (.mul (.a 2) (.a 8))) (.mul (.a 3) (.a 9))) (.mul (.a 4) (.a 10))) (.mul (.a 5) (.a 11)))) [])))))))))))))
def bundle_Cost_S : Sx.Sys := ⟨[(.sh (.agg [(.int .i64), (.int .i64), (.int .i64), (.int .i64), (.int .i64), (.int .i64)])), (.sh (.agg [(.int .i64), (.int .i64), (.int .i64), (.int .i64), (.int .i64), (.int .i64)]))], bundle_Cost_s, [], none⟩
def bundle_Cost_pats : List Cfg := []
theorem bundle_Cost_ok : SysOk Try.prog 27 bundle_Cost_S := sys_ok (c := (cg [] [] [] false false false true)) (progOkG _ _ _ _ _ _ _ _) Try.func27 Try.call27 (by kernel_rfl) bundle_Cost_pats bundle_Cost_S 5000 rfl (by kernel_rfl) (by kernel_rfl) rfl
def relcap_valid_s : PT :=
 (.call 34 [(.agg [(.int .i64 (.a 1)), (.int .i64 (.a 2)), (.int .i64 (.a 3)), (.int .i64 (.a 4)), (.int .i64 (.a 5)), (.int .i64 (.a 6))])] [] [(.one (.int .i64))]
 (.ite (.eq (.a 8) (.l 0))
  (.ite (.not (.and (.eq (.a 1) (.l 0)) (.and (.eq (.a 2) (.l 0)) (.and (.eq (.a 3) (.l 0)) (.and (.eq (.a 4) (.l 0)) (.and (.eq (.a 5) (.l 0)) (.eq (.a 6) (.l 0))))))))
   (.ite (.le (.l 1) (.a 7))
    (.ret false (.bool (.le (.a 7) (.l 1000000))) [])
    (.ret false (.bool (.t false)) []))
   (.ret false (.bool (.t false)) []))
  (.ret false (.bool (.t false)) [])))
def relcap_valid_S : Sx.Sys := ⟨[(.sh (.agg [(.int .i64), (.int .i64), (.int .i64), (.int .i64), (.int .i64), (.int .i64), (.int .i64), (.int .i64)]))], relcap_valid_s, [], none⟩
def relcap_valid_pats : List Cfg := []
theorem relcap_valid_ok : SysOk Try.prog 35 relcap_valid_S := sys_ok (c := (cg [] [] [] false false false true)) (progOkG _ _ _ _ _ _ _ _) Try.func35 Try.call35 (by kernel_rfl) relcap_valid_pats relcap_valid_S 5000 rfl (by kernel_rfl) (by kernel_rfl) rfl
def revealed_formed_s : PT :=
 (.need (.is 0 1)
 (.ite (.lt (.l 0) (.slen 1))
  (.need (.is 0 2)
  (.ite (.lt (.l 0) (.slen 2))
   (.ret false (.bool (.t false)) [])
   (.need (.is 0 1)
   (.ite (.lt (.l 1000) (.slen 1))
    (.ret false (.bool (.t false)) [])
    (.need (.is 0 1)
    (.jump 0 [(.slen 1), (.l 0)] [] [(.va 0), (.va 1), (.va 2)]))))))
  (.need (.is 0 1)
  (.ite (.lt (.l 1000) (.slen 1))
   (.ret false (.bool (.t false)) [])
   (.need (.is 0 1)
   (.jump 0 [(.slen 1), (.l 0)] [] [(.va 0), (.va 1), (.va 2)]))))))
def revealed_formed_t0 : PT :=
 (.ite (.lt (.a 1) (.a 0))
  (.need (.and (.le (.l 0) (.a 1)) (.lt (.a 1) (.slen 1)))
  (.load false (.ea 1 (.a 1) 1 0) [(.int .i64)]
  (.ite (.lt (.a 2) (.l 0))
   (.ret false (.bool (.t false)) [])
   (.need (.is 0 0)
   (.ite (.le (.slen 0) (.a 2))
    (.ret false (.bool (.t false)) [])
    (.need (.and (.le (.l (-9223372036854775808)) (.add (.a 1) (.l 1))) (.le (.add (.a 1) (.l 1)) (.l 9223372036854775807)))
    (.jump 0 [(.a 0), (.add (.a 1) (.l 1))] [] [(.va 0), (.va 1), (.va 2)])))))))
  (.need (.is 0 2)
  (.jump 1 [(.slen 2), (.l 0)] [] [(.va 2)])))
def revealed_formed_t1 : PT :=
 (.ite (.lt (.a 1) (.a 0))
  (.need (.and (.le (.l 0) (.a 1)) (.lt (.a 1) (.slen 0)))
  (.load false (.ea 0 (.a 1) 1 0) [(.int .i64)]
  (.ite (.lt (.a 2) (.l (-1099511627776)))
   (.ret false (.bool (.t false)) [])
   (.ite (.lt (.l 1099511627776) (.a 2))
    (.ret false (.bool (.t false)) [])
    (.need (.and (.le (.l (-9223372036854775808)) (.add (.a 1) (.l 1))) (.le (.add (.a 1) (.l 1)) (.l 9223372036854775807)))
    (.jump 1 [(.a 0), (.add (.a 1) (.l 1))] [] [(.va 0)]))))))
  (.ret false (.bool (.t true)) []))
def revealed_formed_S : Sx.Sys := ⟨[(.sh (.one .val)), (.sh (.agg [.val, .val]))], revealed_formed_s, [revealed_formed_t0, revealed_formed_t1], none⟩
def revealed_formed_pats : List Cfg := [{ todo := [(.code [false, false, true, false, true, true]), (.inLoop [false, false, true, false, true, true]), (.inBlock 0), (.code [true, true, true])], sl := [(.va 0), (.junk 0), .undef, (.ptr 0 0), (.junk 1), .undef, (.junk 2), .undef, .undef, (.junk 3), (.junk 4), (.junk 5), (.junk 6), (.junk 7), (.junk 8), (.junk 9), (.junk 10), (.junk 11), (.junk 12), (.junk 13), (.junk 14), (.junk 15), (.junk 16), (.junk 17), (.junk 18), (.junk 19), (.va 1), (.int .i64 (.a 0)), (.int .i64 (.a 1)), (.junk 20), (.junk 21), (.junk 22), (.junk 23), (.junk 24), (.junk 25), (.junk 26), (.junk 27), (.junk 28), (.junk 29), (.junk 30), (.junk 31), .undef, .undef, .undef, .undef, .undef, .undef, .undef, .undef, .undef, .undef, .undef, .undef, .undef, .undef], H := [(.cells [(.va 1), (.va 2)] 50 false)], ni := 2, nb := 0, nv := 3, nj := 32 },
 { todo := [(.code [false, false, true, false, true, true, true]), (.inLoop [false, false, true, false, true, true, true]), (.inBlock 2), (.code [true, true, true, true])], sl := [(.junk 0), (.junk 1), .undef, (.junk 2), (.junk 3), .undef, (.junk 4), .undef, (.junk 5), (.junk 6), (.junk 7), (.junk 8), (.junk 9), (.junk 10), (.junk 11), (.junk 12), (.junk 13), (.junk 14), (.junk 15), (.junk 16), (.junk 17), (.junk 18), (.junk 19), (.junk 20), (.junk 21), (.junk 22), (.junk 23), (.junk 24), (.junk 25), (.junk 26), (.junk 27), (.junk 28), (.junk 29), (.junk 30), (.junk 31), (.junk 32), (.junk 33), (.junk 34), (.junk 35), (.junk 36), (.junk 37), (.junk 38), (.va 0), (.int .i64 (.a 0)), (.int .i64 (.a 1)), (.junk 39), (.junk 40), (.junk 41), (.junk 42), (.junk 43), (.junk 44), (.junk 45), (.junk 46), (.junk 47), (.junk 48)], H := [], ni := 2, nb := 0, nv := 1, nj := 49 }]
theorem revealed_formed_ok : SysOk Try.prog 44 revealed_formed_S := sys_ok (c := (cg [[false, false, true, false, true, true], [false, false, true, false, true, true, true]] [] [] false false false true)) (progOkG _ _ _ _ _ _ _ _) Try.func44 Try.call44 (by kernel_rfl) revealed_formed_pats revealed_formed_S 5000 rfl (by kernel_rfl) (by kernel_rfl) rfl
def revealed_valid_s : PT :=
 (.ite (.lt (.a 0) (.l 0))
  (.ret false (.bool (.t false)) [])
  (.ite (.lt (.l 1000000) (.a 0))
   (.ret false (.bool (.t false)) [])
   (.ite (.lt (.a 1) (.l 0))
    (.ret false (.bool (.t false)) [])
    (.ite (.lt (.l 1000000) (.a 1))
     (.ret false (.bool (.t false)) [])
     (.ite (.lt (.a 2) (.l 0))
      (.ret false (.bool (.t false)) [])
      (.ite (.lt (.l 1000000) (.a 2))
       (.ret false (.bool (.t false)) [])
       (.ite (.lt (.a 3) (.l 0))
        (.ret false (.bool (.t false)) [])
        (.ite (.lt (.l 1000000) (.a 3))
         (.ret false (.bool (.t false)) [])
         (.ite (.lt (.a 4) (.l 0))
          (.ret false (.bool (.t false)) [])
          (.ite (.lt (.l 1000000) (.a 4))
           (.ret false (.bool (.t false)) [])
           (.ite (.lt (.a 5) (.l 0))
            (.ret false (.bool (.t false)) [])
            (.ite (.lt (.l 1000000) (.a 5))
             (.ret false (.bool (.t false)) [])
             (.call 34 [(.agg [(.int .i64 (.a 6)), (.int .i64 (.a 7)), (.int .i64 (.a 8)), (.int .i64 (.a 9)), (.int .i64 (.a 10)), (.int .i64 (.a 11))])] [] [(.one (.int .i64))]
             (.ret false (.bool (.eq (.a 12) (.l 0))) []))))))))))))))
def revealed_valid_S : Sx.Sys := ⟨[(.sh (.agg [(.int .i64), (.int .i64), (.int .i64), (.int .i64), (.int .i64), (.int .i64), (.int .i64), (.int .i64), (.int .i64), (.int .i64), (.int .i64), (.int .i64)]))], revealed_valid_s, [], none⟩
def revealed_valid_pats : List Cfg := []
theorem revealed_valid_ok : SysOk Try.prog 52 revealed_valid_S := sys_ok (c := (cg [] [] [] false false false true)) (progOkG _ _ _ _ _ _ _ _) Try.func52 Try.call52 (by kernel_rfl) revealed_valid_pats revealed_valid_S 5000 rfl (by kernel_rfl) (by kernel_rfl) rfl
def slices_siftDownCmpFunc_api_Offer_s : PT :=
 (.jump 0 [(.a 1), (.a 2), (.a 0)] [] [(.va 0), (.va 1)])
def slices_siftDownCmpFunc_api_Offer_t0 : PT :=
 (.need (.and (.le (.l (-9223372036854775808)) (.mul (.l 2) (.a 2))) (.le (.mul (.l 2) (.a 2)) (.l 9223372036854775807)))
 (.need (.and (.le (.l (-9223372036854775808)) (.add (.mul (.l 2) (.a 2)) (.l 1))) (.le (.add (.mul (.l 2) (.a 2)) (.l 1)) (.l 9223372036854775807)))
 (.ite (.le (.a 0) (.add (.mul (.l 2) (.a 2)) (.l 1)))
  (.ret false (.tup []) [])
  (.need (.and (.le (.l (-9223372036854775808)) (.add (.add (.mul (.l 2) (.a 2)) (.l 1)) (.l 1))) (.le (.add (.add (.mul (.l 2) (.a 2)) (.l 1)) (.l 1)) (.l 9223372036854775807)))
  (.ite (.lt (.add (.add (.mul (.l 2) (.a 2)) (.l 1)) (.l 1)) (.a 0))
   (.need (.and (.le (.l (-9223372036854775808)) (.add (.a 1) (.add (.mul (.l 2) (.a 2)) (.l 1)))) (.le (.add (.a 1) (.add (.mul (.l 2) (.a 2)) (.l 1))) (.l 9223372036854775807)))
   (.need (.and (.le (.l 0) (.add (.a 1) (.add (.mul (.l 2) (.a 2)) (.l 1)))) (.lt (.add (.a 1) (.add (.mul (.l 2) (.a 2)) (.l 1))) (.slen 0)))
   (.need (.and (.le (.l (-9223372036854775808)) (.add (.a 1) (.add (.mul (.l 2) (.a 2)) (.l 1)))) (.le (.add (.a 1) (.add (.mul (.l 2) (.a 2)) (.l 1))) (.l 9223372036854775807)))
   (.need (.and (.le (.l (-9223372036854775808)) (.add (.add (.a 1) (.add (.mul (.l 2) (.a 2)) (.l 1))) (.l 1))) (.le (.add (.add (.a 1) (.add (.mul (.l 2) (.a 2)) (.l 1))) (.l 1)) (.l 9223372036854775807)))
   (.need (.and (.le (.l 0) (.add (.add (.a 1) (.add (.mul (.l 2) (.a 2)) (.l 1))) (.l 1))) (.lt (.add (.add (.a 1) (.add (.mul (.l 2) (.a 2)) (.l 1))) (.l 1)) (.slen 0)))
   (.load true (.ea 0 (.add (.a 1) (.add (.mul (.l 2) (.a 2)) (.l 1))) 8 0) [(.int .i64), (.int .i64), (.int .i64), (.int .i64), (.int .i64), (.int .i64), (.int .i64), (.int .i64)]
   (.load true (.ea 0 (.add (.add (.a 1) (.add (.mul (.l 2) (.a 2)) (.l 1))) (.l 1)) 8 0) [(.int .i64), (.int .i64), (.int .i64), (.int .i64), (.int .i64), (.int .i64), (.int .i64), (.int .i64)]
   (.callv 1 [(.agg [(.int .i64 (.a 3)), (.int .i64 (.a 4)), (.int .i64 (.a 5)), (.int .i64 (.a 6)), (.int .i64 (.a 7)), (.int .i64 (.a 8)), (.int .i64 (.a 9)), (.int .i64 (.a 10))]), (.agg [(.int .i64 (.a 11)), (.int .i64 (.a 12)), (.int .i64 (.a 13)), (.int .i64 (.a 14)), (.int .i64 (.a 15)), (.int .i64 (.a 16)), (.int .i64 (.a 17)), (.int .i64 (.a 18))])] [(.one (.int .i64))]
   (.ite (.lt (.a 19) (.l 0))
    (.need (.and (.le (.l (-9223372036854775808)) (.add (.add (.mul (.l 2) (.a 2)) (.l 1)) (.l 1))) (.le (.add (.add (.mul (.l 2) (.a 2)) (.l 1)) (.l 1)) (.l 9223372036854775807)))
    (.need (.and (.le (.l (-9223372036854775808)) (.add (.a 1) (.a 2))) (.le (.add (.a 1) (.a 2)) (.l 9223372036854775807)))
    (.need (.and (.le (.l 0) (.add (.a 1) (.a 2))) (.lt (.add (.a 1) (.a 2)) (.slen 0)))
    (.need (.and (.le (.l (-9223372036854775808)) (.add (.a 1) (.add (.add (.mul (.l 2) (.a 2)) (.l 1)) (.l 1)))) (.le (.add (.a 1) (.add (.add (.mul (.l 2) (.a 2)) (.l 1)) (.l 1))) (.l 9223372036854775807)))
    (.need (.and (.le (.l 0) (.add (.a 1) (.add (.add (.mul (.l 2) (.a 2)) (.l 1)) (.l 1)))) (.lt (.add (.a 1) (.add (.add (.mul (.l 2) (.a 2)) (.l 1)) (.l 1))) (.slen 0)))
    (.load true (.ea 0 (.add (.a 1) (.a 2)) 8 0) [(.int .i64), (.int .i64), (.int .i64), (.int .i64), (.int .i64), (.int .i64), (.int .i64), (.int .i64)]
    (.load true (.ea 0 (.add (.a 1) (.add (.add (.mul (.l 2) (.a 2)) (.l 1)) (.l 1))) 8 0) [(.int .i64), (.int .i64), (.int .i64), (.int .i64), (.int .i64), (.int .i64), (.int .i64), (.int .i64)]
    (.callv 1 [(.agg [(.int .i64 (.a 20)), (.int .i64 (.a 21)), (.int .i64 (.a 22)), (.int .i64 (.a 23)), (.int .i64 (.a 24)), (.int .i64 (.a 25)), (.int .i64 (.a 26)), (.int .i64 (.a 27))]), (.agg [(.int .i64 (.a 28)), (.int .i64 (.a 29)), (.int .i64 (.a 30)), (.int .i64 (.a 31)), (.int .i64 (.a 32)), (.int .i64 (.a 33)), (.int .i64 (.a 34)), (.int .i64 (.a 35))])] [(.one (.int .i64))]
    (.ite (.not (.lt (.a 36) (.l 0)))
     (.ret false (.tup []) [])
     (.need (.and (.le (.l (-9223372036854775808)) (.add (.a 1) (.a 2))) (.le (.add (.a 1) (.a 2)) (.l 9223372036854775807)))
     (.need (.and (.le (.l (-9223372036854775808)) (.add (.a 1) (.add (.add (.mul (.l 2) (.a 2)) (.l 1)) (.l 1)))) (.le (.add (.a 1) (.add (.add (.mul (.l 2) (.a 2)) (.l 1)) (.l 1))) (.l 9223372036854775807)))
     (.need (.and (.le (.l (-9223372036854775808)) (.add (.a 1) (.add (.add (.mul (.l 2) (.a 2)) (.l 1)) (.l 1)))) (.le (.add (.a 1) (.add (.add (.mul (.l 2) (.a 2)) (.l 1)) (.l 1))) (.l 9223372036854775807)))
     (.need (.and (.le (.l 0) (.add (.a 1) (.add (.add (.mul (.l 2) (.a 2)) (.l 1)) (.l 1)))) (.lt (.add (.a 1) (.add (.add (.mul (.l 2) (.a 2)) (.l 1)) (.l 1))) (.slen 0)))
     (.need (.and (.le (.l (-9223372036854775808)) (.add (.a 1) (.a 2))) (.le (.add (.a 1) (.a 2)) (.l 9223372036854775807)))
     (.need (.and (.le (.l 0) (.add (.a 1) (.a 2))) (.lt (.add (.a 1) (.a 2)) (.slen 0)))
     (.load true (.ea 0 (.add (.a 1) (.add (.add (.mul (.l 2) (.a 2)) (.l 1)) (.l 1))) 8 0) [(.int .i64), (.int .i64), (.int .i64), (.int .i64), (.int .i64), (.int .i64), (.int .i64), (.int .i64)]
     (.load true (.ea 0 (.add (.a 1) (.a 2)) 8 0) [(.int .i64), (.int .i64), (.int .i64), (.int .i64), (.int .i64), (.int .i64), (.int .i64), (.int .i64)]
     (.need (.and (.le (.l 0) (.add (.a 1) (.a 2))) (.lt (.add (.a 1) (.a 2)) (.slen 0)))
     (.storeM (.ea 0 (.add (.a 1) (.a 2)) 8 0) [(.int .i64 (.a 37)), (.int .i64 (.a 38)), (.int .i64 (.a 39)), (.int .i64 (.a 40)), (.int .i64 (.a 41)), (.int .i64 (.a 42)), (.int .i64 (.a 43)), (.int .i64 (.a 44))]
     (.need (.and (.le (.l 0) (.add (.a 1) (.add (.add (.mul (.l 2) (.a 2)) (.l 1)) (.l 1)))) (.lt (.add (.a 1) (.add (.add (.mul (.l 2) (.a 2)) (.l 1)) (.l 1))) (.slen 0)))
     (.storeM (.ea 0 (.add (.a 1) (.add (.add (.mul (.l 2) (.a 2)) (.l 1)) (.l 1))) 8 0) [(.int .i64 (.a 45)), (.int .i64 (.a 46)), (.int .i64 (.a 47)), (.int .i64 (.a 48)), (.int .i64 (.a 49)), (.int .i64 (.a 50)), (.int .i64 (.a 51)), (.int .i64 (.a 52))]
     (.jump 0 [(.a 0), (.a 1), (.add (.add (.mul (.l 2) (.a 2)) (.l 1)) (.l 1))] [] [(.va 0), (.va 1)]))))))))))))))))))))))
    (.need (.and (.le (.l (-9223372036854775808)) (.add (.a 1) (.a 2))) (.le (.add (.a 1) (.a 2)) (.l 9223372036854775807)))
    (.need (.and (.le (.l 0) (.add (.a 1) (.a 2))) (.lt (.add (.a 1) (.a 2)) (.slen 0)))
    (.need (.and (.le (.l (-9223372036854775808)) (.add (.a 1) (.add (.mul (.l 2) (.a 2)) (.l 1)))) (.le (.add (.a 1) (.add (.mul (.l 2) (.a 2)) (.l 1))) (.l 9223372036854775807)))
    (.need (.and (.le (.l 0) (.add (.a 1) (.add (.mul (.l 2) (.a 2)) (.l 1)))) (.lt (.add (.a 1) (.add (.mul (.l 2) (.a 2)) (.l 1))) (.slen 0)))
    (.load true (.ea 0 (.add (.a 1) (.a 2)) 8 0) [(.int .i64), (.int .i64), (.int .i64), (.int .i64), (.int .i64), (.int .i64), (.int .i64), (.int .i64)]
    (.load true (.ea 0 (.add (.a 1) (.add (.mul (.l 2) (.a 2)) (.l 1))) 8 0) [(.int .i64), (.int .i64), (.int .i64), (.int .i64), (.int .i64), (.int .i64), (.int .i64), (.int .i64)]
    (.callv 1 [(.agg [(.int .i64 (.a 20)), (.int .i64 (.a 21)), (.int .i64 (.a 22)), (.int .i64 (.a 23)), (.int .i64 (.a 24)), (.int .i64 (.a 25)), (.int .i64 (.a 26)), (.int .i64 (.a 27))]), (.agg [(.int .i64 (.a 28)), (.int .i64 (.a 29)), (.int .i64 (.a 30)), (.int .i64 (.a 31)), (.int .i64 (.a 32)), (.int .i64 (.a 33)), (.int .i64 (.a 34)), (.int .i64 (.a 35))])] [(.one (.int .i64))]
    (.ite (.not (.lt (.a 36) (.l 0)))
     (.ret false (.tup []) [])
     (.need (.and (.le (.l (-9223372036854775808)) (.add (.a 1) (.a 2))) (.le (.add (.a 1) (.a 2)) (.l 9223372036854775807)))
     (.need (.and (.le (.l (-9223372036854775808)) (.add (.a 1) (.add (.mul (.l 2) (.a 2)) (.l 1)))) (.le (.add (.a 1) (.add (.mul (.l 2) (.a 2)) (.l 1))) (.l 9223372036854775807)))
     (.need (.and (.le (.l (-9223372036854775808)) (.add (.a 1) (.add (.mul (.l 2) (.a 2)) (.l 1)))) (.le (.add (.a 1) (.add (.mul (.l 2) (.a 2)) (.l 1))) (.l 9223372036854775807)))
     (.need (.and (.le (.l 0) (.add (.a 1) (.add (.mul (.l 2) (.a 2)) (.l 1)))) (.lt (.add (.a 1) (.add (.mul (.l 2) (.a 2)) (.l 1))) (.slen 0)))
     (.need (.and (.le (.l (-9223372036854775808)) (.add (.a 1) (.a 2))) (.le (.add (.a 1) (.a 2)) (.l 9223372036854775807)))
     (.need (.and (.le (.l 0) (.add (.a 1) (.a 2))) (.lt (.add (.a 1) (.a 2)) (.slen 0)))
     (.load true (.ea 0 (.add (.a 1) (.add (.mul (.l 2) (.a 2)) (.l 1))) 8 0) [(.int .i64), (.int .i64), (.int .i64), (.int .i64), (.int .i64), (.int .i64), (.int .i64), (.int .i64)]
     (.load true (.ea 0 (.add (.a 1) (.a 2)) 8 0) [(.int .i64), (.int .i64), (.int .i64), (.int .i64), (.int .i64), (.int .i64), (.int .i64), (.int .i64)]
     (.need (.and (.le (.l 0) (.add (.a 1) (.a 2))) (.lt (.add (.a 1) (.a 2)) (.slen 0)))
     (.storeM (.ea 0 (.add (.a 1) (.a 2)) 8 0) [(.int .i64 (.a 37)), (.int .i64 (.a 38)), (.int .i64 (.a 39)), (.int .i64 (.a 40)), (.int .i64 (.a 41)), (.int .i64 (.a 42)), (.int .i64 (.a 43)), (.int .i64 (.a 44))]
     (.need (.and (.le (.l 0) (.add (.a 1) (.add (.mul (.l 2) (.a 2)) (.l 1)))) (.lt (.add (.a 1) (.add (.mul (.l 2) (.a 2)) (.l 1))) (.slen 0)))
     (.storeM (.ea 0 (.add (.a 1) (.add (.mul (.l 2) (.a 2)) (.l 1))) 8 0) [(.int .i64 (.a 45)), (.int .i64 (.a 46)), (.int .i64 (.a 47)), (.int .i64 (.a 48)), (.int .i64 (.a 49)), (.int .i64 (.a 50)), (.int .i64 (.a 51)), (.int .i64 (.a 52))]
     (.jump 0 [(.a 0), (.a 1), (.add (.mul (.l 2) (.a 2)) (.l 1))] [] [(.va 0), (.va 1)]))))))))))))))))))))))))))))))
   (.need (.and (.le (.l (-9223372036854775808)) (.add (.a 1) (.a 2))) (.le (.add (.a 1) (.a 2)) (.l 9223372036854775807)))
   (.need (.and (.le (.l 0) (.add (.a 1) (.a 2))) (.lt (.add (.a 1) (.a 2)) (.slen 0)))
   (.need (.and (.le (.l (-9223372036854775808)) (.add (.a 1) (.add (.mul (.l 2) (.a 2)) (.l 1)))) (.le (.add (.a 1) (.add (.mul (.l 2) (.a 2)) (.l 1))) (.l 9223372036854775807)))
   (.need (.and (.le (.l 0) (.add (.a 1) (.add (.mul (.l 2) (.a 2)) (.l 1)))) (.lt (.add (.a 1) (.add (.mul (.l 2) (.a 2)) (.l 1))) (.slen 0)))
   (.load true (.ea 0 (.add (.a 1) (.a 2)) 8 0) [(.int .i64), (.int .i64), (.int .i64), (.int .i64), (.int .i64), (.int .i64), (.int .i64), (.int .i64)]
   (.load true (.ea 0 (.add (.a 1) (.add (.mul (.l 2) (.a 2)) (.l 1))) 8 0) [(.int .i64), (.int .i64), (.int .i64), (.int .i64), (.int .i64), (.int .i64), (.int .i64), (.int .i64)]
   (.callv 1 [(.agg [(.int .i64 (.a 3)), (.int .i64 (.a 4)), (.int .i64 (.a 5)), (.int .i64 (.a 6)), (.int .i64 (.a 7)), (.int .i64 (.a 8)), (.int .i64 (.a 9)), (.int .i64 (.a 10))]), (.agg [(.int .i64 (.a 11)), (.int .i64 (.a 12)), (.int .i64 (.a 13)), (.int .i64 (.a 14)), (.int .i64 (.a 15)), (.int .i64 (.a 16)), (.int .i64 (.a 17)), (.int .i64 (.a 18))])] [(.one (.int .i64))]
   (.ite (.not (.lt (.a 19) (.l 0)))
    (.ret false (.tup []) [])
    (.need (.and (.le (.l (-9223372036854775808)) (.add (.a 1) (.a 2))) (.le (.add (.a 1) (.a 2)) (.l 9223372036854775807)))
    (.need (.and (.le (.l (-9223372036854775808)) (.add (.a 1) (.add (.mul (.l 2) (.a 2)) (.l 1)))) (.le (.add (.a 1) (.add (.mul (.l 2) (.a 2)) (.l 1))) (.l 9223372036854775807)))
    (.need (.and (.le (.l (-9223372036854775808)) (.add (.a 1) (.add (.mul (.l 2) (.a 2)) (.l 1)))) (.le (.add (.a 1) (.add (.mul (.l 2) (.a 2)) (.l 1))) (.l 9223372036854775807)))
    (.need (.and (.le (.l 0) (.add (.a 1) (.add (.mul (.l 2) (.a 2)) (.l 1)))) (.lt (.add (.a 1) (.add (.mul (.l 2) (.a 2)) (.l 1))) (.slen 0)))
    (.need (.and (.le (.l (-9223372036854775808)) (.add (.a 1) (.a 2))) (.le (.add (.a 1) (.a 2)) (.l 9223372036854775807)))
    (.need (.and (.le (.l 0) (.add (.a 1) (.a 2))) (.lt (.add (.a 1) (.a 2)) (.slen 0)))
    (.load true (.ea 0 (.add (.a 1) (.add (.mul (.l 2) (.a 2)) (.l 1))) 8 0) [(.int .i64), (.int .i64), (.int .i64), (.int .i64), (.int .i64), (.int .i64), (.int .i64), (.int .i64)]
    (.load true (.ea 0 (.add (.a 1) (.a 2)) 8 0) [(.int .i64), (.int .i64), (.int .i64), (.int .i64), (.int .i64), (.int .i64), (.int .i64), (.int .i64)]
    (.need (.and (.le (.l 0) (.add (.a 1) (.a 2))) (.lt (.add (.a 1) (.a 2)) (.slen 0)))
    (.storeM (.ea 0 (.add (.a 1) (.a 2)) 8 0) [(.int .i64 (.a 20)), (.int .i64 (.a 21)), (.int .i64 (.a 22)), (.int .i64 (.a 23)), (.int .i64 (.a 24)), (.int .i64 (.a 25)), (.int .i64 (.a 26)), (.int .i64 (.a 27))]
    (.need (.and (.le (.l 0) (.add (.a 1) (.add (.mul (.l 2) (.a 2)) (.l 1)))) (.lt (.add (.a 1) (.add (.mul (.l 2) (.a 2)) (.l 1))) (.slen 0)))
    (.storeM (.ea 0 (.add (.a 1) (.add (.mul (.l 2) (.a 2)) (.l 1))) 8 0) [(.int .i64 (.a 28)), (.int .i64 (.a 29)), (.int .i64 (.a 30)), (.int .i64 (.a 31)), (.int .i64 (.a 32)), (.int .i64 (.a 33)), (.int .i64 (.a 34)), (.int .i64 (.a 35))]
    (.jump 0 [(.a 0), (.a 1), (.add (.mul (.l 2) (.a 2)) (.l 1))] [] [(.va 0), (.va 1)]))))))))))))))))))))))))))
def slices_siftDownCmpFunc_api_Offer_S : Sx.Sys := ⟨[(.sh (.one .val)), (.sh (.one (.int .i64))), (.sh (.one (.int .i64))), (.sh (.one (.int .i64))), (.sh (.one .val))], slices_siftDownCmpFunc_api_Offer_s, [slices_siftDownCmpFunc_api_Offer_t0], none⟩
def slices_siftDownCmpFunc_api_Offer_pats : List Cfg := [{ todo := [(.code [false, false, true]), (.inLoop [false, false, true]), (.inBlock 0)], sl := [(.va 0), (.junk 0), (.int .i64 (.a 0)), (.int .i64 (.a 1)), (.va 1), .undef, .undef, .undef, .undef, .undef, (.int .i64 (.a 2)), (.junk 1), (.junk 2), (.junk 3), (.junk 4), (.junk 5), (.junk 6), (.junk 7), (.junk 8), (.junk 9), (.junk 10), (.junk 11), (.junk 12), (.junk 13), (.junk 14), (.junk 15), (.junk 16), (.junk 17), (.junk 18), (.junk 19), (.junk 20), (.junk 21), (.junk 22), (.junk 23), (.junk 24), (.junk 25), (.junk 26), (.junk 27), (.junk 28), (.junk 29), (.junk 30), (.junk 31), (.junk 32), (.junk 33), (.junk 34), (.junk 35), (.junk 36), (.junk 37), (.junk 38), (.junk 39), (.junk 40), (.junk 41), (.junk 42), (.junk 43), (.junk 44), (.junk 45), (.junk 46), (.junk 47), (.junk 48), (.junk 49), (.junk 50), (.junk 51), (.junk 52), (.junk 53), (.junk 54), (.junk 55), (.junk 56), (.junk 57), (.junk 58), (.junk 59), (.junk 60), (.junk 61), (.junk 62), (.junk 63), (.junk 64), (.junk 65), (.junk 66), (.junk 67), (.junk 68), (.junk 69), (.junk 70), (.junk 71)], H := [], ni := 3, nb := 0, nv := 2, nj := 72 }]
theorem slices_siftDownCmpFunc_api_Offer_ok : SysOk Try.prog 64 slices_siftDownCmpFunc_api_Offer_S := sys_ok (c := (cg [[false, false, true]] [] [(24, [3]), (43, [3])] false false false true)) (progOkG _ _ _ _ _ _ _ _) Try.func64 Try.call64 (by kernel_rfl) slices_siftDownCmpFunc_api_Offer_pats slices_siftDownCmpFunc_api_Offer_S 5000 rfl (by kernel_rfl) (by kernel_rfl) rfl
end Go.Proofs.Ytggjcdnailppoaa
set_option maxRecDepth 100000
namespace Go.Proofs.Ytggjcdnailppoaa
open Go.Sx
def saleroomlaw40_RelcapMost_s : PT :=
 (.need (.is 0 0)
 (.ite (.lt (.l 20) (.slen 0))
  (.call 9 [] [] [(.one .bool)]
  (.ret false (.bool (.a 0)) []))
  (.need (.is 0 1)
  (.ite (.lt (.l 20) (.slen 1))
   (.call 9 [] [] [(.one .bool)]
   (.ret false (.bool (.a 0)) []))
   (.call 13 [(.va 0), (.va 1), (.agg [(.int .i64 (.a 0)), (.int .i64 (.a 1)), (.int .i64 (.a 2)), (.int .i64 (.a 3)), (.int .i64 (.a 4)), (.int .i64 (.a 5))])] [] [(.one (.int .i64))]
   (.call 14 [(.va 0), (.va 1), (.agg [(.int .i64 (.a 0)), (.int .i64 (.a 1)), (.int .i64 (.a 2)), (.int .i64 (.a 3)), (.int .i64 (.a 4)), (.int .i64 (.a 5))])] [] [(.one (.int .i64))]
   (.ite (.eq (.a 6) (.a 7))
    (.call 9 [] [] [(.one .bool)]
    (.ret false (.bool (.a 0)) []))
    (.ret false (.bool (.t false)) []))))))))
def saleroomlaw40_RelcapMost_S : Sx.Sys := ⟨[(.sh (.one .val)), (.sh (.one .val)), (.sh (.agg [(.int .i64), (.int .i64), (.int .i64), (.int .i64), (.int .i64), (.int .i64)]))], saleroomlaw40_RelcapMost_s, [], none⟩
def saleroomlaw40_RelcapMost_pats : List Cfg := []
theorem saleroomlaw40_RelcapMost_ok : SysOk Try.prog 4 saleroomlaw40_RelcapMost_S := sys_ok (c := (cg [] [] [] false false false true)) (progOkG _ _ _ _ _ _ _ _) Try.func4 Try.call4 (by kernel_rfl) saleroomlaw40_RelcapMost_pats saleroomlaw40_RelcapMost_S 5000 rfl (by kernel_rfl) (by kernel_rfl) rfl
def saleroomref40_Clockbids_s : PT :=
 (.call 21 [(.va 0)] [] [(.one .bool)]
 (.ite (.not (.a 0))
  (.ret false .nilS [])
  (.jump 0 [(.l 0)] [] [(.va 0)])))
def saleroomref40_Clockbids_t0_b1 : PT :=
 (.call 22 [(.va 0), .nilS, (.agg [(.int .i64 (.a 7)), (.int .i64 (.a 8)), (.int .i64 (.a 9)), (.int .i64 (.a 10)), (.int .i64 (.a 11)), (.int .i64 (.a 12))])] [] [(.one (.int .i64))]
   (.ite (.and (.eq (.a 1) (.l 0)) (.and (.eq (.a 2) (.l 0)) (.and (.eq (.a 3) (.l 0)) (.and (.eq (.a 4) (.l 0)) (.and (.eq (.a 5) (.l 0)) (.eq (.a 6) (.l 0)))))))
    (.need (.and (.le (.l (-9223372036854775808)) (.add (.a 0) (.l 1))) (.le (.add (.a 0) (.l 1)) (.l 9223372036854775807)))
    (.jump 0 [(.add (.a 0) (.l 1))] [] [(.va 0)]))
    (.ite (.eq (.a 13) (.l 0))
     (.need (.and (.le (.l (-9223372036854775808)) (.add (.a 0) (.l 1))) (.le (.add (.a 0) (.l 1)) (.l 9223372036854775807)))
     (.jump 0 [(.add (.a 0) (.l 1))] [] [(.va 0)]))
     .stuck)))
def saleroomref40_Clockbids_t0 : PT :=
 (.need (.is 0 0)
 (.ite (.lt (.a 0) (.slen 0))
  (.need (.and (.le (.l 0) (.a 0)) (.lt (.a 0) (.slen 0)))
  (.need (.and (.le (.l 0) (.a 0)) (.lt (.a 0) (.slen 0)))
  (.load true (.ea 0 (.a 0) 12 6) [(.int .i64), (.int .i64), (.int .i64), (.int .i64), (.int .i64), (.int .i64)]
  (.load true (.ea 0 (.a 0) 12 6) [(.int .i64), (.int .i64), (.int .i64), (.int .i64), (.int .i64), (.int .i64)]
  (.both saleroomref40_Clockbids_t0_b1 saleroomref40_Clockbids_t0_b1)))))
  (.ret false .nilS [])))
def saleroomref40_Clockbids_S : Sx.Sys := ⟨[(.sh (.one .val))], saleroomref40_Clockbids_s, [saleroomref40_Clockbids_t0], none⟩
def saleroomref40_Clockbids_pats : List Cfg := [{ todo := [(.code [false, false, true, false, true, true, true]), (.inLoop [false, false, true, false, true, true, true]), (.inBlock 0), (.code [true, true, true, true])], sl := [(.va 0), .undef, (.junk 0), .nilS, (.int .i64 (.a 0)), (.junk 1), .undef, (.junk 2), (.junk 3), (.junk 4), (.junk 5), (.junk 6), (.junk 7), (.junk 8), (.junk 9), (.junk 10), (.junk 11), (.junk 12), (.junk 13), (.junk 14), (.junk 15), (.junk 16), (.junk 17), (.junk 18), (.junk 19), (.junk 20), (.junk 21), (.junk 22), (.junk 23), (.junk 24), (.junk 25), (.junk 26), (.junk 27), (.junk 28), (.junk 29), (.junk 30), (.junk 31), (.junk 32), .undef, .undef, .undef, .undef, .undef, .undef, .undef, .undef, .undef, .undef, .undef, .undef, .undef, .undef, .undef, .undef, .undef, .undef, .undef, .undef, .undef, .undef, .undef, .undef, .undef, .undef, .undef, .undef, .undef, .undef, .undef, .undef, .undef, .undef, .undef, .undef, .undef, .undef, .undef, .undef, .undef, .undef, .undef, .undef], H := [], ni := 1, nb := 0, nv := 1, nj := 33 }]
theorem saleroomref40_Clockbids_ok : SysOk Try.prog 12 saleroomref40_Clockbids_S := sys_ok (c := (cg [[false, false, true, false, true, true, true]] [] [] false false false true)) (progOkG _ _ _ _ _ _ _ _) Try.func12 Try.call12 (by kernel_rfl) saleroomref40_Clockbids_pats saleroomref40_Clockbids_S 5000 rfl (by kernel_rfl) (by kernel_rfl) rfl
def saleroomref40_Trim_s : PT :=
 (.call 21 [(.va 0)] [] [(.one .bool)]
 (.ite (.not (.a 0))
  (.ret false .nilS [])
  (.app none (.lit []) 8
  (.app (some 2) (.va 1) 8
  (.jump 0 [] [] [(.va 0), (.va 3)])))))
def saleroomref40_Trim_t0 : PT :=
 (.call 18 [(.va 0), (.va 1)] [] [(.one (.int .i64)), (.one (.int .i64))]
 (.ite (.eq (.a 1) (.l 0))
  (.ret false (.va 1) [])
  (.need (.and (.le (.l (-9223372036854775808)) (.add (.a 0) (.l 1))) (.le (.add (.a 0) (.l 1)) (.l 9223372036854775807)))
  (.cut 1 none (some (.a 0)) 8
  (.cut 1 (some (.add (.a 0) (.l 1))) none 8
  (.app none (.lit []) 8
  (.app (some 4) (.va 2) 8
  (.app (some 5) (.va 3) 8
  (.jump 0 [] [] [(.va 0), (.va 6)])))))))))
def saleroomref40_Trim_S : Sx.Sys := ⟨[(.sh (.one .val)), (.sh (.one .val))], saleroomref40_Trim_s, [saleroomref40_Trim_t0], none⟩
def saleroomref40_Trim_pats : List Cfg := [{ todo := [(.code [false, false, true, true, true]), (.inLoop [false, false, true, true, true]), (.inBlock 0)], sl := [(.va 0), (.junk 0), .undef, .undef, (.junk 1), (.va 1), (.junk 2), (.junk 3), (.junk 4), (.junk 5), (.junk 6), (.junk 7), (.junk 8), (.junk 9), (.junk 10), (.junk 11), (.junk 12), (.junk 13), (.junk 14), (.junk 15), (.junk 16), (.junk 17), .undef, (.junk 18), (.junk 19), (.junk 20), (.junk 21), (.junk 22), (.junk 23), (.junk 24), (.junk 25), (.junk 26), (.junk 27)], H := [], ni := 0, nb := 0, nv := 2, nj := 28 }]
theorem saleroomref40_Trim_ok : SysOk Try.prog 20 saleroomref40_Trim_S := sys_ok (c := (cg [[false, false, true, true, true]] [] [] false false false true)) (progOkG _ _ _ _ _ _ _ _) Try.func20 Try.call20 (by kernel_rfl) saleroomref40_Trim_pats saleroomref40_Trim_S 5000 rfl (by kernel_rfl) (by kernel_rfl) rfl
def slices_DeleteFunc_api_Offer_api_Offer_s : PT :=
 (.call 47 [(.va 0), (.va 1)] [] [(.one (.int .i64))]
 (.ite (.eq (.a 0) (.l (-1)))
  (.ret false (.va 0) [])
  (.need (.and (.le (.l (-9223372036854775808)) (.add (.a 0) (.l 1))) (.le (.add (.a 0) (.l 1)) (.l 9223372036854775807)))
  (.jump 0 [(.a 0), (.add (.a 0) (.l 1))] [] [(.va 0), (.va 1)]))))
def slices_DeleteFunc_api_Offer_api_Offer_t0 : PT :=
 (.need (.is 0 0)
 (.ite (.lt (.a 1) (.slen 0))
  (.need (.and (.le (.l 0) (.a 1)) (.lt (.a 1) (.slen 0)))
  (.load false (.ea 0 (.a 1) 8 0) [(.int .i64), (.int .i64), (.int .i64), (.int .i64), (.int .i64), (.int .i64), (.int .i64), (.int .i64)]
  (.callv 1 [(.agg [(.int .i64 (.a 2)), (.int .i64 (.a 3)), (.int .i64 (.a 4)), (.int .i64 (.a 5)), (.int .i64 (.a 6)), (.int .i64 (.a 7)), (.int .i64 (.a 8)), (.int .i64 (.a 9))])] [(.one .bool)]
  (.ite (.not (.a 0))
   (.need (.and (.le (.l 0) (.a 0)) (.lt (.a 0) (.slen 0)))
   (.storeM (.ea 0 (.a 0) 8 0) [(.int .i64 (.a 2)), (.int .i64 (.a 3)), (.int .i64 (.a 4)), (.int .i64 (.a 5)), (.int .i64 (.a 6)), (.int .i64 (.a 7)), (.int .i64 (.a 8)), (.int .i64 (.a 9))]
   (.need (.and (.le (.l (-9223372036854775808)) (.add (.a 0) (.l 1))) (.le (.add (.a 0) (.l 1)) (.l 9223372036854775807)))
   (.need (.and (.le (.l (-9223372036854775808)) (.add (.a 1) (.l 1))) (.le (.add (.a 1) (.l 1)) (.l 9223372036854775807)))
   (.jump 0 [(.add (.a 0) (.l 1)), (.add (.a 1) (.l 1))] [] [(.va 0), (.va 1)])))))
   (.need (.and (.le (.l (-9223372036854775808)) (.add (.a 1) (.l 1))) (.le (.add (.a 1) (.l 1)) (.l 9223372036854775807)))
   (.jump 0 [(.a 0), (.add (.a 1) (.l 1))] [] [(.va 0), (.va 1)]))))))
  .stuck))
def slices_DeleteFunc_api_Offer_api_Offer_S : Sx.Sys := ⟨[(.sh (.one .val)), (.sh (.one .val))], slices_DeleteFunc_api_Offer_api_Offer_s, [slices_DeleteFunc_api_Offer_api_Offer_t0], none⟩
def slices_DeleteFunc_api_Offer_api_Offer_pats : List Cfg := [{ todo := [(.code [false, false, true, false, true, true, true]), (.inLoop [false, false, true, false, true, true, true]), (.inBlock 0), (.code [true, true, true, true])], sl := [(.va 0), (.va 1), .undef, .undef, (.junk 0), (.int .i64 (.a 0)), (.int .i64 (.a 1)), (.junk 1), (.junk 2), (.junk 3), (.junk 4), (.junk 5), (.junk 6), .undef, (.junk 7), (.junk 8), (.junk 9), (.junk 10), (.junk 11), (.junk 12), (.junk 13), (.junk 14), (.junk 15), (.junk 16), (.junk 17), (.junk 18), (.junk 19), (.junk 20), (.junk 21), (.junk 22), (.junk 23), (.junk 24), (.junk 25), (.junk 26), (.junk 27), (.junk 28), .undef, .undef, .undef, .undef, .undef, .undef], H := [], ni := 2, nb := 0, nv := 2, nj := 29 }]
theorem slices_DeleteFunc_api_Offer_api_Offer_ok : SysOk Try.prog 28 slices_DeleteFunc_api_Offer_api_Offer_S := sys_ok (c := (cg [[false, false, true, false, true, true, true]] [] [(26, [4])] false false false true)) (progOkG _ _ _ _ _ _ _ _) Try.func28 Try.call28 (by kernel_rfl) slices_DeleteFunc_api_Offer_api_Offer_pats slices_DeleteFunc_api_Offer_api_Offer_S 5000 rfl (by kernel_rfl) (by kernel_rfl) rfl
def relcap_most_s : PT :=
 (.need (.is 0 0)
 (.jump 0 [(.l 1000000), (.slen 0), (.l 0), (.a 0), (.a 1), (.a 2), (.a 3), (.a 4), (.a 5)] [] [(.va 1), (.va 0)]))
def relcap_most_t0 : PT :=
 (.ite (.lt (.a 2) (.a 1))
  (.need (.and (.le (.l 0) (.a 2)) (.lt (.a 2) (.slen 1)))
  (.load false (.ea 1 (.a 2) 12 0) [(.int .i64), (.int .i64), (.int .i64), (.int .i64), (.int .i64), (.int .i64), (.int .i64), (.int .i64), (.int .i64), (.int .i64), (.int .i64), (.int .i64)]
  (.ite (.not (.and (.eq (.a 15) (.a 3)) (.and (.eq (.a 16) (.a 4)) (.and (.eq (.a 17) (.a 5)) (.and (.eq (.a 18) (.a 6)) (.and (.eq (.a 19) (.a 7)) (.eq (.a 20) (.a 8))))))))
   (.callv 0 [(.agg [(.int .i64 (.a 15)), (.int .i64 (.a 16)), (.int .i64 (.a 17)), (.int .i64 (.a 18)), (.int .i64 (.a 19)), (.int .i64 (.a 20))])] [(.one (.int .i64))]
   (.call 27 [(.agg [(.int .i64 (.a 9)), (.int .i64 (.a 10)), (.int .i64 (.a 11)), (.int .i64 (.a 12)), (.int .i64 (.a 13)), (.int .i64 (.a 14))]), (.agg [(.int .i64 (.a 3)), (.int .i64 (.a 4)), (.int .i64 (.a 5)), (.int .i64 (.a 6)), (.int .i64 (.a 7)), (.int .i64 (.a 8))])] [] [(.one (.int .i64))]
   (.need (.and (.le (.l (-9223372036854775808)) (.add (.a 21) (.a 22))) (.le (.add (.a 21) (.a 22)) (.l 9223372036854775807)))
   (.call 27 [(.agg [(.int .i64 (.a 9)), (.int .i64 (.a 10)), (.int .i64 (.a 11)), (.int .i64 (.a 12)), (.int .i64 (.a 13)), (.int .i64 (.a 14))]), (.agg [(.int .i64 (.a 15)), (.int .i64 (.a 16)), (.int .i64 (.a 17)), (.int .i64 (.a 18)), (.int .i64 (.a 19)), (.int .i64 (.a 20))])] [] [(.one (.int .i64))]
   (.need (.and (.le (.l (-9223372036854775808)) (.sub (.add (.a 21) (.a 22)) (.a 23))) (.le (.sub (.add (.a 21) (.a 22)) (.a 23)) (.l 9223372036854775807)))
   (.need (.and (.le (.l (-9223372036854775808)) (.add (.a 2) (.l 1))) (.le (.add (.a 2) (.l 1)) (.l 9223372036854775807)))
   (.jump 0 [(.mn (.a 0) (.sub (.add (.a 21) (.a 22)) (.a 23))), (.a 1), (.add (.a 2) (.l 1)), (.a 3), (.a 4), (.a 5), (.a 6), (.a 7), (.a 8)] [] [(.va 0), (.va 1)])))))))
   (.need (.and (.le (.l (-9223372036854775808)) (.add (.a 2) (.l 1))) (.le (.add (.a 2) (.l 1)) (.l 9223372036854775807)))
   (.jump 0 [(.a 0), (.a 1), (.add (.a 2) (.l 1)), (.a 3), (.a 4), (.a 5), (.a 6), (.a 7), (.a 8)] [] [(.va 0), (.va 1)])))))
  (.ret false (.int .i64 (.a 0)) []))
def relcap_most_S : Sx.Sys := ⟨[(.sh (.one .val)), (.sh (.one .val)), (.sh (.agg [(.int .i64), (.int .i64), (.int .i64), (.int .i64), (.int .i64), (.int .i64)]))], relcap_most_s, [relcap_most_t0], none⟩
def relcap_most_pats : List Cfg := [{ todo := [(.code [false, false, true, false, true, true]), (.inLoop [false, false, true, false, true, true]), (.inBlock 0), (.code [true, true, true])], sl := [(.junk 0), (.va 0), (.junk 1), .undef, .undef, (.ptr 0 0), (.junk 2), (.int .i64 (.a 0)), .undef, (.junk 3), (.va 1), (.int .i64 (.a 1)), (.int .i64 (.a 2)), (.junk 4), (.junk 5), (.junk 6), (.junk 7), (.junk 8), (.junk 9), (.junk 10), (.junk 11), (.junk 12), (.junk 13), (.junk 14), (.junk 15), (.junk 16), (.junk 17), (.junk 18), (.junk 19), (.junk 20), (.junk 21), (.junk 22), (.junk 23), (.junk 24), (.junk 25), (.junk 26), (.junk 27), (.junk 28), .undef], H := [(.cells [(.int .i64 (.a 3)), (.int .i64 (.a 4)), (.int .i64 (.a 5)), (.int .i64 (.a 6)), (.int .i64 (.a 7)), (.int .i64 (.a 8))] 29 false)], ni := 9, nb := 0, nv := 2, nj := 29 }]
theorem relcap_most_ok : SysOk Try.prog 36 relcap_most_S := sys_ok (c := (cg [[false, false, true, false, true, true]] [] [(21, [2])] false false false true)) (progOkG _ _ _ _ _ _ _ _) Try.func36 Try.call36 (by kernel_rfl) relcap_most_pats relcap_most_S 5000 rfl (by kernel_rfl) (by kernel_rfl) rfl
def revealed_explains_s : PT :=
 (.need (.is 0 1)
 (.need (.is 0 0)
 (.ite (.not (.eq (.slen 1) (.slen 0)))
  (.ret false (.bool (.t false)) [])
  (.need (.is 0 0)
  (.jump 0 [(.slen 0), (.l 0)] [] [(.va 0), (.va 1)])))))
def revealed_explains_t0 : PT :=
 (.ite (.lt (.a 1) (.a 0))
  (.need (.and (.le (.l 0) (.a 1)) (.lt (.a 1) (.slen 0)))
  (.load false (.ea 0 (.a 1) 12 0) [(.int .i64), (.int .i64), (.int .i64), (.int .i64), (.int .i64), (.int .i64), (.int .i64), (.int .i64), (.int .i64), (.int .i64), (.int .i64), (.int .i64)]
  (.need (.and (.le (.l 0) (.a 1)) (.lt (.a 1) (.slen 1)))
  (.load true (.ea 1 (.a 1) 1 0) [(.int .i64)]
  (.call 27 [(.agg [(.int .i64 (.a 2)), (.int .i64 (.a 3)), (.int .i64 (.a 4)), (.int .i64 (.a 5)), (.int .i64 (.a 6)), (.int .i64 (.a 7))]), (.agg [(.int .i64 (.a 8)), (.int .i64 (.a 9)), (.int .i64 (.a 10)), (.int .i64 (.a 11)), (.int .i64 (.a 12)), (.int .i64 (.a 13))])] [] [(.one (.int .i64))]
  (.ite (.lt (.a 14) (.a 15))
   (.ret false (.bool (.t false)) [])
   (.ite (.and (.eq (.a 8) (.l 0)) (.and (.eq (.a 9) (.l 0)) (.and (.eq (.a 10) (.l 0)) (.and (.eq (.a 11) (.l 0)) (.and (.eq (.a 12) (.l 0)) (.eq (.a 13) (.l 0)))))))
    (.need (.and (.le (.l 0) (.a 1)) (.lt (.a 1) (.slen 1)))
    (.load true (.ea 1 (.a 1) 1 0) [(.int .i64)]
    (.ite (.not (.eq (.a 16) (.l 0)))
     (.ret false (.bool (.t false)) [])
     (.need (.is 0 0)
     (.jump 1 [(.a 1), (.a 0), (.a 8), (.a 9), (.a 10), (.a 11), (.a 12), (.a 13), (.slen 0), (.l 0), (.a 2), (.a 3), (.a 4), (.a 5), (.a 6), (.a 7)] [(.and (.eq (.a 8) (.l 0)) (.and (.eq (.a 9) (.l 0)) (.and (.eq (.a 10) (.l 0)) (.and (.eq (.a 11) (.l 0)) (.and (.eq (.a 12) (.l 0)) (.eq (.a 13) (.l 0))))))), (.t true), (.not (.eq (.a 16) (.l 0)))] [(.va 0), (.va 1)])))))
    (.need (.is 0 0)
    (.jump 1 [(.a 1), (.a 0), (.a 8), (.a 9), (.a 10), (.a 11), (.a 12), (.a 13), (.slen 0), (.l 0), (.a 2), (.a 3), (.a 4), (.a 5), (.a 6), (.a 7)] [(.and (.eq (.a 8) (.l 0)) (.and (.eq (.a 9) (.l 0)) (.and (.eq (.a 10) (.l 0)) (.and (.eq (.a 11) (.l 0)) (.and (.eq (.a 12) (.l 0)) (.eq (.a 13) (.l 0))))))), (.t false), (.t false)] [(.va 0), (.va 1)])))))))))
  (.ret false (.bool (.t true)) []))
def revealed_explains_t1 : PT :=
 (.ite (.lt (.a 9) (.a 8))
  (.need (.and (.le (.l 0) (.a 9)) (.lt (.a 9) (.slen 0)))
  (.load false (.ea 0 (.a 9) 12 0) [(.int .i64), (.int .i64), (.int .i64), (.int .i64), (.int .i64), (.int .i64), (.int .i64), (.int .i64), (.int .i64), (.int .i64), (.int .i64), (.int .i64)]
  (.need (.and (.le (.l 0) (.a 9)) (.lt (.a 9) (.slen 1)))
  (.need (.and (.le (.l 0) (.a 0)) (.lt (.a 0) (.slen 1)))
  (.load true (.ea 1 (.a 9) 1 0) [(.int .i64)]
  (.load true (.ea 1 (.a 0) 1 0) [(.int .i64)]
  (.need (.and (.le (.l (-9223372036854775808)) (.sub (.a 28) (.a 29))) (.le (.sub (.a 28) (.a 29)) (.l 9223372036854775807)))
  (.call 46 [(.agg [(.int .i64 (.a 10)), (.int .i64 (.a 11)), (.int .i64 (.a 12)), (.int .i64 (.a 13)), (.int .i64 (.a 14)), (.int .i64 (.a 15)), (.int .i64 (.a 2)), (.int .i64 (.a 3)), (.int .i64 (.a 4)), (.int .i64 (.a 5)), (.int .i64 (.a 6)), (.int .i64 (.a 7))]), (.agg [(.int .i64 (.a 16)), (.int .i64 (.a 17)), (.int .i64 (.a 18)), (.int .i64 (.a 19)), (.int .i64 (.a 20)), (.int .i64 (.a 21)), (.int .i64 (.a 22)), (.int .i64 (.a 23)), (.int .i64 (.a 24)), (.int .i64 (.a 25)), (.int .i64 (.a 26)), (.int .i64 (.a 27))])] [] [(.one (.int .i64))]
  (.ite (.lt (.a 30) (.sub (.a 28) (.a 29)))
   (.ret false (.bool (.t false)) [])
   (.need (.and (.le (.l (-9223372036854775808)) (.add (.a 9) (.l 1))) (.le (.add (.a 9) (.l 1)) (.l 9223372036854775807)))
   (.jump 1 [(.a 0), (.a 1), (.a 2), (.a 3), (.a 4), (.a 5), (.a 6), (.a 7), (.a 8), (.add (.a 9) (.l 1)), (.a 10), (.a 11), (.a 12), (.a 13), (.a 14), (.a 15)] [(.a 0), (.a 1), (.a 2)] [(.va 0), (.va 1)])))))))))))
  (.need (.and (.le (.l (-9223372036854775808)) (.add (.a 0) (.l 1))) (.le (.add (.a 0) (.l 1)) (.l 9223372036854775807)))
  (.jump 0 [(.a 1), (.add (.a 0) (.l 1))] [] [(.va 0), (.va 1)])))
def revealed_explains_S : Sx.Sys := ⟨[(.sh (.one .val)), (.sh (.one .val))], revealed_explains_s, [revealed_explains_t0, revealed_explains_t1], none⟩
def revealed_explains_pats : List Cfg := [{ todo := [(.code [false, false, true, false, true, true]), (.inLoop [false, false, true, false, true, true]), (.inBlock 0), (.code [true, true, true])], sl := [(.va 0), (.va 1), .undef, .undef, (.junk 0), (.junk 1), (.junk 2), (.junk 3), (.junk 4), (.junk 5), (.junk 6), (.junk 7), (.junk 8), (.junk 9), (.va 0), (.int .i64 (.a 0)), (.int .i64 (.a 1)), (.junk 10), (.junk 11), (.junk 12), (.junk 13), (.junk 14), (.junk 15), (.junk 16), (.junk 17), (.junk 18), (.junk 19), (.junk 20), (.junk 21), (.junk 22), (.junk 23), (.junk 24), (.junk 25), (.junk 26), (.junk 27), (.junk 28), (.junk 29), (.junk 30), (.junk 31), (.junk 32), (.junk 33), (.junk 34), (.junk 35), (.junk 36), (.junk 37), (.junk 38), (.junk 39), (.junk 40), (.junk 41), (.junk 42), (.junk 43), (.junk 44), (.junk 45), (.junk 46), (.junk 47), (.junk 48), (.junk 49), (.junk 50), (.junk 51), (.junk 52), (.junk 53), (.junk 54), (.junk 55), (.junk 56), (.junk 57), (.junk 58)], H := [], ni := 2, nb := 0, nv := 2, nj := 59 },
 { todo := [(.code [false, false, true, true, true, false, false, true, true, false, false, true, false, true, true]), (.inLoop [false, false, true, true, true, false, false, true, true, false, false, true, false, true, true]), (.inBlock 2), (.inBlock 1), (.code [true, true, true, false, false, true, false, true, true]), (.inLoop [false, false, true, false, true, true]), (.inBlock 0), (.code [true, true, true])], sl := [(.va 0), (.va 1), .undef, .undef, (.junk 0), (.int .i64 (.a 0)), (.ptr 0 0), (.junk 1), (.junk 2), (.junk 3), (.junk 4), (.junk 5), (.junk 6), (.junk 7), (.va 0), (.int .i64 (.a 1)), (.int .i64 (.a 0)), (.junk 8), (.junk 9), (.junk 10), (.junk 11), (.junk 12), (.junk 13), (.junk 14), (.junk 15), (.junk 16), (.junk 17), (.junk 18), (.junk 19), (.junk 20), (.junk 21), (.junk 22), (.ptr 0 6), (.agg [(.int .i64 (.a 2)), (.int .i64 (.a 3)), (.int .i64 (.a 4)), (.int .i64 (.a 5)), (.int .i64 (.a 6)), (.int .i64 (.a 7))]), (.agg [(.int .i64 (.l 0)), (.int .i64 (.l 0)), (.int .i64 (.l 0)), (.int .i64 (.l 0)), (.int .i64 (.l 0)), (.int .i64 (.l 0))]), (.bool (.a 0)), (.bool (.a 1)), (.junk 23), (.junk 24), (.junk 25), (.junk 26), (.junk 27), (.bool (.a 2)), (.junk 28), (.va 0), (.int .i64 (.a 8)), (.int .i64 (.a 9)), (.junk 29), (.junk 30), (.junk 31), (.junk 32), (.junk 33), (.junk 34), (.junk 35), (.junk 36), (.junk 37), (.junk 38), (.junk 39), (.junk 40), (.junk 41), (.junk 42), (.junk 43), (.junk 44), (.junk 45), (.junk 46), (.junk 47)], H := [(.cells [(.int .i64 (.a 10)), (.int .i64 (.a 11)), (.int .i64 (.a 12)), (.int .i64 (.a 13)), (.int .i64 (.a 14)), (.int .i64 (.a 15)), (.int .i64 (.a 2)), (.int .i64 (.a 3)), (.int .i64 (.a 4)), (.int .i64 (.a 5)), (.int .i64 (.a 6)), (.int .i64 (.a 7))] 46 false)], ni := 16, nb := 3, nv := 2, nj := 48 }]
theorem revealed_explains_ok : SysOk Try.prog 45 revealed_explains_S := sys_ok (c := (cg [[false, false, true, false, true, true], [false, false, true, true, true, false, false, true, true, false, false, true, false, true, true]] [] [] false false false true)) (progOkG _ _ _ _ _ _ _ _) Try.func45 Try.call45 (by kernel_rfl) revealed_explains_pats revealed_explains_S 5000 rfl (by kernel_rfl) (by kernel_rfl) rfl
def revealed_cycle_s : PT :=
 (.mkMap .i64
 (.jump 0 [(.a 0)] [] [(.va 0), (.va 1)]))
def revealed_cycle_t0 : PT :=
 (.mapGet 1 .i64 (.a 0) (.bool (.t false)) false [(.one .bool)]
 (.ite (.not (.a 0))
  (.mapSet 1 .i64 (.a 0) (.bool (.t true))
  (.need (.and (.le (.l 0) (.a 0)) (.lt (.a 0) (.slen 0)))
  (.load false (.ea 0 (.a 0) 1 0) [(.int .i64)]
  (.jump 0 [(.a 1)] [] [(.va 0), (.va 1)]))))
  (.mapClr 1
  (.jump 1 [(.a 0)] [] [(.va 0), (.va 1), .nilS]))))
def revealed_cycle_t1 : PT :=
 (.mapGet 1 .i64 (.a 0) (.bool (.t false)) false [(.one .bool)]
 (.ite (.not (.a 0))
  (.mapSet 1 .i64 (.a 0) (.bool (.t true))
  (.app none (.lit [[(.int .i64 (.a 0))]]) 1
  (.appM (.va 2) (.va 3) 1 3
  (.need (.and (.le (.l 0) (.a 0)) (.lt (.a 0) (.slen 0)))
  (.load false (.ea 0 (.a 0) 1 0) [(.int .i64)]
  (.jump 1 [(.a 1)] [] [(.va 0), (.va 1), (.va 4)]))))))
  (.need (.is 0 2)
  (.mkM (.slen 2) [(.int .i64 (.l 0))] 3 1 8
  (.need (.is 0 2)
  (.jump 2 [(.slen 2), (.l 0)] [] [(.va 2), (.va 3)]))))))
def revealed_cycle_t2 : PT :=
 (.ite (.lt (.a 1) (.a 0))
  (.need (.and (.le (.l 0) (.a 1)) (.lt (.a 1) (.slen 0)))
  (.load false (.ea 0 (.a 1) 1 0) [(.int .i64)]
  (.need (.is 0 0)
  (.need (.and (.le (.l (-9223372036854775808)) (.sub (.slen 0) (.l 1))) (.le (.sub (.slen 0) (.l 1)) (.l 9223372036854775807)))
  (.need (.and (.le (.l (-9223372036854775808)) (.sub (.sub (.slen 0) (.l 1)) (.a 1))) (.le (.sub (.sub (.slen 0) (.l 1)) (.a 1)) (.l 9223372036854775807)))
  (.need (.and (.le (.l 0) (.sub (.sub (.slen 0) (.l 1)) (.a 1))) (.lt (.sub (.sub (.slen 0) (.l 1)) (.a 1)) (.slen 1)))
  (.storeM (.ea 1 (.sub (.sub (.slen 0) (.l 1)) (.a 1)) 1 0) [(.int .i64 (.a 2))]
  (.need (.and (.le (.l (-9223372036854775808)) (.add (.a 1) (.l 1))) (.le (.add (.a 1) (.l 1)) (.l 9223372036854775807)))
  (.jump 2 [(.a 0), (.add (.a 1) (.l 1))] [] [(.va 0), (.va 1)])))))))))
  (.ret false (.va 1) []))
def revealed_cycle_S : Sx.Sys := ⟨[(.sh (.one .val)), (.sh (.one (.int .i64)))], revealed_cycle_s, [revealed_cycle_t0, revealed_cycle_t1, revealed_cycle_t2], none⟩
def revealed_cycle_pats : List Cfg := [{ todo := [(.code [false, false, false, true, true]), (.inLoop [false, false, false, true, true]), (.inBlock 0), (.code [true, true, true])], sl := [(.va 0), (.int .i64 (.a 0)), .undef, .undef, (.junk 0), (.va 1), .undef, .undef, .undef, .undef, (.junk 1), (.junk 2), (.junk 3), (.junk 4), (.junk 5), (.junk 6), (.junk 7), (.junk 8), (.junk 9), (.junk 10), (.junk 11), .undef, .undef, .undef, .undef, .undef, .undef, .undef, .undef, .undef, .undef, .undef, .undef, .undef, .undef, .undef, .undef, .undef, .undef, .undef, .undef, .undef, .undef, .undef, .undef, .undef, .undef, .undef, .undef, .undef, .undef, .undef, .undef, .undef, .undef, .undef], H := [], ni := 1, nb := 0, nv := 2, nj := 12 },
 { todo := [(.code [false, false, false, true, true, true, true, true]), (.inLoop [false, false, false, true, true, true, true, true]), (.inBlock 2), (.code [true, true, true, true, true, true])], sl := [(.va 0), (.int .i64 (.a 0)), .undef, .undef, (.junk 0), (.va 1), (.va 2), .undef, .undef, .undef, (.junk 1), (.junk 2), (.junk 3), (.junk 4), (.junk 5), (.junk 6), (.junk 7), (.junk 8), (.junk 9), (.junk 10), (.junk 11), (.junk 12), (.junk 13), (.junk 14), (.junk 15), (.junk 16), (.junk 17), (.junk 18), (.junk 19), (.junk 20), (.junk 21), (.junk 22), (.junk 23), (.junk 24), (.junk 25), (.junk 26), .undef, .undef, .undef, .undef, .undef, .undef, .undef, .undef, .undef, .undef, .undef, .undef, .undef, .undef, .undef, .undef, .undef, .undef, .undef, .undef], H := [], ni := 1, nb := 0, nv := 3, nj := 27 },
 { todo := [(.code [false, false, true, false, true, true, true, true, true, true, true]), (.inLoop [false, false, true, false, true, true, true, true, true, true, true]), (.inBlock 4), (.code [true, true, true, true, true, true, true, true])], sl := [(.junk 0), (.junk 1), .undef, .undef, (.junk 2), (.junk 3), (.va 0), (.va 1), (.junk 4), (.junk 5), (.junk 6), (.junk 7), (.junk 8), (.junk 9), (.junk 10), (.junk 11), (.junk 12), (.junk 13), (.junk 14), (.junk 15), (.junk 16), (.junk 17), (.junk 18), (.junk 19), (.junk 20), (.junk 21), (.junk 22), (.junk 23), (.junk 24), (.junk 25), (.junk 26), (.junk 27), (.junk 28), (.junk 29), (.junk 30), (.junk 31), (.junk 32), (.junk 33), (.junk 34), (.va 0), (.int .i64 (.a 0)), (.int .i64 (.a 1)), (.junk 35), (.junk 36), (.junk 37), (.junk 38), (.junk 39), (.junk 40), (.junk 41), (.junk 42), (.junk 43), (.junk 44), (.junk 45), (.junk 46), (.junk 47), .undef], H := [], ni := 2, nb := 0, nv := 2, nj := 48 }]
theorem revealed_cycle_ok : SysOk Try.prog 53 revealed_cycle_S := sys_ok (c := (cg [[false, false, false, true, true], [false, false, false, true, true, true, true, true], [false, false, true, false, true, true, true, true, true, true, true]] [] [] true false true true)) (progOkG _ _ _ _ _ _ _ _) Try.func53 Try.call53 (by kernel_rfl) revealed_cycle_pats revealed_cycle_S 5000 rfl (by kernel_rfl) (by kernel_rfl) rfl
def slices_medianAdjacentCmpFunc_api_Offer_s : PT :=
 (.need (.and (.le (.l (-9223372036854775808)) (.sub (.a 0) (.l 1))) (.le (.sub (.a 0) (.l 1)) (.l 9223372036854775807)))
 (.need (.and (.le (.l (-9223372036854775808)) (.add (.a 0) (.l 1))) (.le (.add (.a 0) (.l 1)) (.l 9223372036854775807)))
 (.call 68 [(.va 0), (.int .i64 (.sub (.a 0) (.l 1))), (.int .i64 (.a 0)), (.int .i64 (.add (.a 0) (.l 1))), (.va 1), (.va 2)] [] [(.one (.int .i64))]
 (.ret false (.int .i64 (.a 1)) []))))
def slices_medianAdjacentCmpFunc_api_Offer_S : Sx.Sys := ⟨[(.sh (.one .val)), (.sh (.one (.int .i64))), (.sh (.one .val)), (.sh (.one .val))], slices_medianAdjacentCmpFunc_api_Offer_s, [], none⟩
def slices_medianAdjacentCmpFunc_api_Offer_pats : List Cfg := []
theorem slices_medianAdjacentCmpFunc_api_Offer_ok : SysOk Try.prog 67 slices_medianAdjacentCmpFunc_api_Offer_S := sys_ok (c := (cg [] [] [] false false false true)) (progOkG _ _ _ _ _ _ _ _) Try.func67 Try.call67 (by kernel_rfl) slices_medianAdjacentCmpFunc_api_Offer_pats slices_medianAdjacentCmpFunc_api_Offer_S 5000 rfl (by kernel_rfl) (by kernel_rfl) rfl
end Go.Proofs.Ytggjcdnailppoaa
set_option maxRecDepth 100000
namespace Go.Proofs.Ytggjcdnailppoaa
open Go.Sx
def saleroomlaw40_RelcapRaises_s_b1 : PT :=
 (.app (some 2) (.va 1) 8
      (.app none (.lit [[(.int .i64 (.a 0)), (.int .i64 (.a 1)), (.int .i64 (.a 2)), (.int .i64 (.a 3)), (.int .i64 (.a 4)), (.int .i64 (.a 5)), (.int .i64 (.a 6)), (.int .i64 (.a 7))]]) 8
      (.app (some 3) (.va 4) 8
      (.call 13 [(.va 0), (.va 5), (.agg [(.int .i64 (.a 8)), (.int .i64 (.a 9)), (.int .i64 (.a 10)), (.int .i64 (.a 11)), (.int .i64 (.a 12)), (.int .i64 (.a 13))])] [] [(.one (.int .i64))]
      (.call 13 [(.va 0), (.va 1), (.agg [(.int .i64 (.a 8)), (.int .i64 (.a 9)), (.int .i64 (.a 10)), (.int .i64 (.a 11)), (.int .i64 (.a 12)), (.int .i64 (.a 13))])] [] [(.one (.int .i64))]
      (.ite (.lt (.a 14) (.a 15))
       (.ret false (.bool (.t false)) [])
       (.app none (.lit [[(.int .i64 (.a 0)), (.int .i64 (.a 1)), (.int .i64 (.a 2)), (.int .i64 (.a 3)), (.int .i64 (.a 4)), (.int .i64 (.a 5)), (.int .i64 (.a 6)), (.int .i64 (.a 7))]]) 8
       (.call 15 [.nilS, (.va 6)] [] [(.one (.int .i64)), (.one (.int .i64))]
       (.call 16 [(.agg [(.int .i64 (.a 0)), (.int .i64 (.a 1)), (.int .i64 (.a 2)), (.int .i64 (.a 3)), (.int .i64 (.a 4)), (.int .i64 (.a 5)), (.int .i64 (.a 6)), (.int .i64 (.a 7))])] [] [(.one .bool)]
       (.ite (.or (.and (.eq (.a 17) (.l 0)) (.a 0)) (.and (.not (.eq (.a 17) (.l 0))) (.not (.a 0))))
        (.call 17 [(.agg [(.int .i64 (.a 8)), (.int .i64 (.a 9)), (.int .i64 (.a 10)), (.int .i64 (.a 11)), (.int .i64 (.a 12)), (.int .i64 (.a 13))])] [] [(.one (.int .i64))]
        (.ite (.not (.eq (.a 18) (.l 0)))
         (.call 9 [] [] [(.one .bool)]
         (.ret false (.bool (.a 1)) []))
         (.call 13 [.nilS, (.va 1), (.agg [(.int .i64 (.a 8)), (.int .i64 (.a 9)), (.int .i64 (.a 10)), (.int .i64 (.a 11)), (.int .i64 (.a 12)), (.int .i64 (.a 13))])] [] [(.one (.int .i64))]
         (.ite (.eq (.a 19) (.l 1000000))
          (.call 9 [] [] [(.one .bool)]
          (.ret false (.bool (.a 1)) []))
          (.ret false (.bool (.t false)) [])))))
        (.ret false (.bool (.t false)) [])))))))))))
def saleroomlaw40_RelcapRaises_s_b2 : PT :=
 (.app none (.lit [[(.int .i64 (.a 0)), (.int .i64 (.a 1)), (.int .i64 (.a 2)), (.int .i64 (.a 3)), (.int .i64 (.a 4)), (.int .i64 (.a 5)), (.int .i64 (.a 6)), (.int .i64 (.a 7))]]) 8
      (.app (some 2) (.va 1) 8
      (.app (some 4) (.va 3) 8
      (.call 13 [(.va 0), (.va 5), (.agg [(.int .i64 (.a 8)), (.int .i64 (.a 9)), (.int .i64 (.a 10)), (.int .i64 (.a 11)), (.int .i64 (.a 12)), (.int .i64 (.a 13))])] [] [(.one (.int .i64))]
      (.call 13 [(.va 0), (.va 1), (.agg [(.int .i64 (.a 8)), (.int .i64 (.a 9)), (.int .i64 (.a 10)), (.int .i64 (.a 11)), (.int .i64 (.a 12)), (.int .i64 (.a 13))])] [] [(.one (.int .i64))]
      (.ite (.lt (.a 14) (.a 15))
       (.ret false (.bool (.t false)) [])
       (.app none (.lit [[(.int .i64 (.a 0)), (.int .i64 (.a 1)), (.int .i64 (.a 2)), (.int .i64 (.a 3)), (.int .i64 (.a 4)), (.int .i64 (.a 5)), (.int .i64 (.a 6)), (.int .i64 (.a 7))]]) 8
       (.call 15 [.nilS, (.va 6)] [] [(.one (.int .i64)), (.one (.int .i64))]
       (.call 16 [(.agg [(.int .i64 (.a 0)), (.int .i64 (.a 1)), (.int .i64 (.a 2)), (.int .i64 (.a 3)), (.int .i64 (.a 4)), (.int .i64 (.a 5)), (.int .i64 (.a 6)), (.int .i64 (.a 7))])] [] [(.one .bool)]
       (.ite (.or (.and (.eq (.a 17) (.l 0)) (.a 0)) (.and (.not (.eq (.a 17) (.l 0))) (.not (.a 0))))
        (.call 17 [(.agg [(.int .i64 (.a 8)), (.int .i64 (.a 9)), (.int .i64 (.a 10)), (.int .i64 (.a 11)), (.int .i64 (.a 12)), (.int .i64 (.a 13))])] [] [(.one (.int .i64))]
        (.ite (.not (.eq (.a 18) (.l 0)))
         (.call 9 [] [] [(.one .bool)]
         (.ret false (.bool (.a 1)) []))
         (.call 13 [.nilS, (.va 1), (.agg [(.int .i64 (.a 8)), (.int .i64 (.a 9)), (.int .i64 (.a 10)), (.int .i64 (.a 11)), (.int .i64 (.a 12)), (.int .i64 (.a 13))])] [] [(.one (.int .i64))]
         (.ite (.eq (.a 19) (.l 1000000))
          (.call 9 [] [] [(.one .bool)]
          (.ret false (.bool (.a 1)) []))
          (.ret false (.bool (.t false)) [])))))
        (.ret false (.bool (.t false)) [])))))))))))
def saleroomlaw40_RelcapRaises_s_b3 : PT :=
 (.app none (.lit []) 8
     (.both saleroomlaw40_RelcapRaises_s_b1 saleroomlaw40_RelcapRaises_s_b2))
def saleroomlaw40_RelcapRaises_s_b4 : PT :=
 (.app none (.lit [[(.int .i64 (.a 0)), (.int .i64 (.a 1)), (.int .i64 (.a 2)), (.int .i64 (.a 3)), (.int .i64 (.a 4)), (.int .i64 (.a 5)), (.int .i64 (.a 6)), (.int .i64 (.a 7))]]) 8
     (.app none (.lit []) 8
     (.app (some 3) (.va 1) 8
     (.app (some 4) (.va 2) 8
     (.call 13 [(.va 0), (.va 5), (.agg [(.int .i64 (.a 8)), (.int .i64 (.a 9)), (.int .i64 (.a 10)), (.int .i64 (.a 11)), (.int .i64 (.a 12)), (.int .i64 (.a 13))])] [] [(.one (.int .i64))]
     (.call 13 [(.va 0), (.va 1), (.agg [(.int .i64 (.a 8)), (.int .i64 (.a 9)), (.int .i64 (.a 10)), (.int .i64 (.a 11)), (.int .i64 (.a 12)), (.int .i64 (.a 13))])] [] [(.one (.int .i64))]
     (.ite (.lt (.a 14) (.a 15))
      (.ret false (.bool (.t false)) [])
      (.app none (.lit [[(.int .i64 (.a 0)), (.int .i64 (.a 1)), (.int .i64 (.a 2)), (.int .i64 (.a 3)), (.int .i64 (.a 4)), (.int .i64 (.a 5)), (.int .i64 (.a 6)), (.int .i64 (.a 7))]]) 8
      (.call 15 [.nilS, (.va 6)] [] [(.one (.int .i64)), (.one (.int .i64))]
      (.call 16 [(.agg [(.int .i64 (.a 0)), (.int .i64 (.a 1)), (.int .i64 (.a 2)), (.int .i64 (.a 3)), (.int .i64 (.a 4)), (.int .i64 (.a 5)), (.int .i64 (.a 6)), (.int .i64 (.a 7))])] [] [(.one .bool)]
      (.ite (.or (.and (.eq (.a 17) (.l 0)) (.a 0)) (.and (.not (.eq (.a 17) (.l 0))) (.not (.a 0))))
       (.call 17 [(.agg [(.int .i64 (.a 8)), (.int .i64 (.a 9)), (.int .i64 (.a 10)), (.int .i64 (.a 11)), (.int .i64 (.a 12)), (.int .i64 (.a 13))])] [] [(.one (.int .i64))]
       (.ite (.not (.eq (.a 18) (.l 0)))
        (.call 9 [] [] [(.one .bool)]
        (.ret false (.bool (.a 1)) []))
        (.call 13 [.nilS, (.va 1), (.agg [(.int .i64 (.a 8)), (.int .i64 (.a 9)), (.int .i64 (.a 10)), (.int .i64 (.a 11)), (.int .i64 (.a 12)), (.int .i64 (.a 13))])] [] [(.one (.int .i64))]
        (.ite (.eq (.a 19) (.l 1000000))
         (.call 9 [] [] [(.one .bool)]
         (.ret false (.bool (.a 1)) []))
         (.ret false (.bool (.t false)) [])))))
       (.ret false (.bool (.t false)) []))))))))))))
def saleroomlaw40_RelcapRaises_s : PT :=
 (.need (.is 0 0)
 (.ite (.lt (.l 14) (.slen 0))
  (.call 9 [] [] [(.one .bool)]
  (.ret false (.bool (.a 0)) []))
  (.need (.is 0 1)
  (.ite (.lt (.l 14) (.slen 1))
   (.call 9 [] [] [(.one .bool)]
   (.ret false (.bool (.a 0)) []))
   (.ite (.not (.and (.eq (.a 1) (.a 8)) (.and (.eq (.a 2) (.a 9)) (.and (.eq (.a 3) (.a 10)) (.and (.eq (.a 4) (.a 11)) (.and (.eq (.a 5) (.a 12)) (.eq (.a 6) (.a 13))))))))
    (.both saleroomlaw40_RelcapRaises_s_b3 saleroomlaw40_RelcapRaises_s_b4)
    (.app none (.lit [[(.int .i64 (.a 0)), (.int .i64 (.a 1)), (.int .i64 (.a 2)), (.int .i64 (.a 3)), (.int .i64 (.a 4)), (.int .i64 (.a 5)), (.int .i64 (.a 6)), (.int .i64 (.a 7))]]) 8
    (.call 15 [.nilS, (.va 2)] [] [(.one (.int .i64)), (.one (.int .i64))]
    (.call 16 [(.agg [(.int .i64 (.a 0)), (.int .i64 (.a 1)), (.int .i64 (.a 2)), (.int .i64 (.a 3)), (.int .i64 (.a 4)), (.int .i64 (.a 5)), (.int .i64 (.a 6)), (.int .i64 (.a 7))])] [] [(.one .bool)]
    (.ite (.or (.and (.eq (.a 15) (.l 0)) (.a 0)) (.and (.not (.eq (.a 15) (.l 0))) (.not (.a 0))))
     (.call 17 [(.agg [(.int .i64 (.a 8)), (.int .i64 (.a 9)), (.int .i64 (.a 10)), (.int .i64 (.a 11)), (.int .i64 (.a 12)), (.int .i64 (.a 13))])] [] [(.one (.int .i64))]
     (.ite (.not (.eq (.a 16) (.l 0)))
      (.call 9 [] [] [(.one .bool)]
      (.ret false (.bool (.a 1)) []))
      (.call 13 [.nilS, (.va 1), (.agg [(.int .i64 (.a 8)), (.int .i64 (.a 9)), (.int .i64 (.a 10)), (.int .i64 (.a 11)), (.int .i64 (.a 12)), (.int .i64 (.a 13))])] [] [(.one (.int .i64))]
      (.ite (.eq (.a 17) (.l 1000000))
       (.call 9 [] [] [(.one .bool)]
       (.ret false (.bool (.a 1)) []))
       (.ret false (.bool (.t false)) [])))))
     (.ret false (.bool (.t false)) []))))))))))
def saleroomlaw40_RelcapRaises_S : Sx.Sys := ⟨[(.sh (.one .val)), (.sh (.one .val)), (.sh (.agg [(.int .i64), (.int .i64), (.int .i64), (.int .i64), (.int .i64), (.int .i64), (.int .i64), (.int .i64)])), (.sh (.agg [(.int .i64), (.int .i64), (.int .i64), (.int .i64), (.int .i64), (.int .i64)]))], saleroomlaw40_RelcapRaises_s, [], none⟩
def saleroomlaw40_RelcapRaises_pats : List Cfg := []
theorem saleroomlaw40_RelcapRaises_ok : SysOk Try.prog 5 saleroomlaw40_RelcapRaises_S := sys_ok (c := (cg [] [] [] false false false true)) (progOkG _ _ _ _ _ _ _ _) Try.func5 Try.call5 (by kernel_rfl) saleroomlaw40_RelcapRaises_pats saleroomlaw40_RelcapRaises_S 5000 rfl (by kernel_rfl) (by kernel_rfl) rfl
def relcap_Most_s : PT :=
 (.call 26 [(.va 0)] [] [(.one .bool)]
 (.ite (.not (.a 0))
  (.ret false (.int .i64 (.l 0)) [])
  (.call 34 [(.agg [(.int .i64 (.a 0)), (.int .i64 (.a 1)), (.int .i64 (.a 2)), (.int .i64 (.a 3)), (.int .i64 (.a 4)), (.int .i64 (.a 5))])] [] [(.one (.int .i64))]
  (.ite (.not (.eq (.a 6) (.l 0)))
   (.ret false (.int .i64 (.l 0)) [])
   (.need (.is 0 1)
   (.jump 0 [(.slen 1), (.l 0), (.a 0), (.a 1), (.a 2), (.a 3), (.a 4), (.a 5)] [] [(.va 0), .nilS, (.va 1)]))))))
def relcap_Most_t0 : PT :=
 (.ite (.lt (.a 1) (.a 0))
  (.need (.and (.le (.l 0) (.a 1)) (.lt (.a 1) (.slen 2)))
  (.load false (.ea 2 (.a 1) 8 0) [(.int .i64), (.int .i64), (.int .i64), (.int .i64), (.int .i64), (.int .i64), (.int .i64), (.int .i64)]
  (.call 35 [(.agg [(.int .i64 (.a 8)), (.int .i64 (.a 9)), (.int .i64 (.a 10)), (.int .i64 (.a 11)), (.int .i64 (.a 12)), (.int .i64 (.a 13)), (.int .i64 (.a 14)), (.int .i64 (.a 15))])] [] [(.one .bool)]
  (.ite (.a 0)
   (.app none (.lit [[(.int .i64 (.a 8)), (.int .i64 (.a 9)), (.int .i64 (.a 10)), (.int .i64 (.a 11)), (.int .i64 (.a 12)), (.int .i64 (.a 13)), (.int .i64 (.a 14)), (.int .i64 (.a 15))]]) 8
   (.app (some 1) (.va 3) 8
   (.need (.and (.le (.l (-9223372036854775808)) (.add (.a 1) (.l 1))) (.le (.add (.a 1) (.l 1)) (.l 9223372036854775807)))
   (.jump 0 [(.a 0), (.add (.a 1) (.l 1)), (.a 2), (.a 3), (.a 4), (.a 5), (.a 6), (.a 7)] [] [(.va 0), (.va 4), (.va 2)]))))
   (.need (.and (.le (.l (-9223372036854775808)) (.add (.a 1) (.l 1))) (.le (.add (.a 1) (.l 1)) (.l 9223372036854775807)))
   (.jump 0 [(.a 0), (.add (.a 1) (.l 1)), (.a 2), (.a 3), (.a 4), (.a 5), (.a 6), (.a 7)] [] [(.va 0), (.va 1), (.va 2)]))))))
  (.call 37 [(.va 0), (.va 1)] [] [(.one .val)]
  (.call 36 [(.va 0), (.va 3), (.agg [(.int .i64 (.a 2)), (.int .i64 (.a 3)), (.int .i64 (.a 4)), (.int .i64 (.a 5)), (.int .i64 (.a 6)), (.int .i64 (.a 7))])] [] [(.one (.int .i64))]
  (.ret false (.int .i64 (.a 8)) []))))
def relcap_Most_S : Sx.Sys := ⟨[(.sh (.one .val)), (.sh (.one .val)), (.sh (.agg [(.int .i64), (.int .i64), (.int .i64), (.int .i64), (.int .i64), (.int .i64)]))], relcap_Most_s, [relcap_Most_t0], none⟩
def relcap_Most_pats : List Cfg := [{ todo := [(.code [false, false, true, false, true, true, true]), (.inLoop [false, false, true, false, true, true, true]), (.inBlock 0), (.code [true, true, true, true])], sl := [(.va 0), (.junk 0), (.junk 1), .undef, .undef, (.ptr 0 0), (.junk 2), (.va 1), .undef, (.junk 3), (.junk 4), (.junk 5), (.junk 6), (.junk 7), (.junk 8), (.junk 9), (.junk 10), (.junk 11), (.va 2), (.int .i64 (.a 0)), (.int .i64 (.a 1)), (.junk 12), (.junk 13), (.junk 14), (.junk 15), (.junk 16), (.junk 17), (.junk 18), (.junk 19), (.junk 20), (.junk 21), .undef, .undef, .undef, .undef, .undef, .undef], H := [(.cells [(.int .i64 (.a 2)), (.int .i64 (.a 3)), (.int .i64 (.a 4)), (.int .i64 (.a 5)), (.int .i64 (.a 6)), (.int .i64 (.a 7))] 29 false), (.row 1 33 8)], ni := 8, nb := 0, nv := 3, nj := 22 }]
theorem relcap_Most_ok : SysOk Try.prog 13 relcap_Most_S := sys_ok (c := (cg [[false, false, true, false, true, true, true]] [] [] false false false true)) (progOkG _ _ _ _ _ _ _ _) Try.func13 Try.call13 (by kernel_rfl) relcap_Most_pats relcap_Most_S 5000 rfl (by kernel_rfl) (by kernel_rfl) rfl
def saleroomref36_All_s : PT :=
 (.jump 0 [(.l 0)] [] [(.va 0)])
def saleroomref36_All_t0 : PT :=
 (.need (.is 0 0)
 (.ite (.lt (.a 0) (.slen 0))
  (.need (.and (.le (.l 0) (.a 0)) (.lt (.a 0) (.slen 0)))
  (.load false (.ea 0 (.a 0) 12 0) [(.int .i64), (.int .i64), (.int .i64), (.int .i64), (.int .i64), (.int .i64), (.int .i64), (.int .i64), (.int .i64), (.int .i64), (.int .i64), (.int .i64)]
  (.call 40 [(.agg [(.int .i64 (.a 1)), (.int .i64 (.a 2)), (.int .i64 (.a 3)), (.int .i64 (.a 4)), (.int .i64 (.a 5)), (.int .i64 (.a 6)), (.int .i64 (.a 7)), (.int .i64 (.a 8)), (.int .i64 (.a 9)), (.int .i64 (.a 10)), (.int .i64 (.a 11)), (.int .i64 (.a 12))])] [] [(.one .bool)]
  (.ite (.not (.a 0))
   (.ret false (.bool (.t false)) [])
   (.need (.and (.le (.l (-9223372036854775808)) (.add (.a 0) (.l 1))) (.le (.add (.a 0) (.l 1)) (.l 9223372036854775807)))
   (.jump 0 [(.add (.a 0) (.l 1))] [] [(.va 0)]))))))
  (.ret false (.bool (.t true)) [])))
def saleroomref36_All_S : Sx.Sys := ⟨[(.sh (.one .val))], saleroomref36_All_s, [saleroomref36_All_t0], none⟩
def saleroomref36_All_pats : List Cfg := [{ todo := [(.code [false, false, true, false, true]), (.inLoop [false, false, true, false, true]), (.inBlock 0), (.code [true, true])], sl := [(.va 0), .undef, (.junk 0), (.int .i64 (.a 0)), (.junk 1), (.junk 2), (.junk 3), (.junk 4), (.junk 5), (.junk 6), (.junk 7), (.junk 8), (.junk 9), (.junk 10), (.junk 11), (.junk 12)], H := [], ni := 1, nb := 0, nv := 1, nj := 13 }]
theorem saleroomref36_All_ok : SysOk Try.prog 21 saleroomref36_All_S := sys_ok (c := (cg [[false, false, true, false, true]] [] [] false false false true)) (progOkG _ _ _ _ _ _ _ _) Try.func21 Try.call21 (by kernel_rfl) saleroomref36_All_pats saleroomref36_All_S 5000 rfl (by kernel_rfl) (by kernel_rfl) rfl
def relcap_Clockbids_1_s : PT :=
 (.ret false (.bool (.eq (.a 7) (.l 0))) [])
def relcap_Clockbids_1_S : Sx.Sys := ⟨[(.sh (.agg [(.int .i64), (.int .i64), (.int .i64), (.int .i64), (.int .i64), (.int .i64), (.int .i64), (.int .i64)]))], relcap_Clockbids_1_s, [], none⟩
def relcap_Clockbids_1_pats : List Cfg := []
theorem relcap_Clockbids_1_ok : SysOk Try.prog 29 relcap_Clockbids_1_S := sys_ok (c := (cg [] [] [] false false false true)) (progOkG _ _ _ _ _ _ _ _) Try.func29 Try.call29 (by kernel_rfl) relcap_Clockbids_1_pats relcap_Clockbids_1_S 5000 rfl (by kernel_rfl) (by kernel_rfl) rfl
def relcap_finals_s : PT :=
 (.newM [(.va 0)] 22
 (.newM [(.va 1)] 25
 (.ret false (.fn 50 0 [(.pa 2 0), (.pa 3 0)]) [])))
def relcap_finals_S : Sx.Sys := ⟨[(.sh (.one .val)), (.sh (.one .val))], relcap_finals_s, [], none⟩
def relcap_finals_pats : List Cfg := []
theorem relcap_finals_ok : SysOk Try.prog 37 relcap_finals_S := sys_ok (c := (cg [] [2, 3] [] true false false true)) (progOkG _ _ _ _ _ _ _ _) Try.func37 Try.call37 (by kernel_rfl) relcap_finals_pats relcap_finals_S 5000 rfl (by kernel_rfl) (by kernel_rfl) rfl
def revealed_gain_s : PT :=
 (.call 27 [(.agg [(.int .i64 (.a 0)), (.int .i64 (.a 1)), (.int .i64 (.a 2)), (.int .i64 (.a 3)), (.int .i64 (.a 4)), (.int .i64 (.a 5))]), (.agg [(.int .i64 (.a 18)), (.int .i64 (.a 19)), (.int .i64 (.a 20)), (.int .i64 (.a 21)), (.int .i64 (.a 22)), (.int .i64 (.a 23))])] [] [(.one (.int .i64))]
 (.call 27 [(.agg [(.int .i64 (.a 0)), (.int .i64 (.a 1)), (.int .i64 (.a 2)), (.int .i64 (.a 3)), (.int .i64 (.a 4)), (.int .i64 (.a 5))]), (.agg [(.int .i64 (.a 6)), (.int .i64 (.a 7)), (.int .i64 (.a 8)), (.int .i64 (.a 9)), (.int .i64 (.a 10)), (.int .i64 (.a 11))])] [] [(.one (.int .i64))]
 (.need (.and (.le (.l (-9223372036854775808)) (.sub (.a 24) (.a 25))) (.le (.sub (.a 24) (.a 25)) (.l 9223372036854775807)))
 (.ret false (.int .i64 (.sub (.a 24) (.a 25))) []))))
def revealed_gain_S : Sx.Sys := ⟨[(.sh (.agg [(.int .i64), (.int .i64), (.int .i64), (.int .i64), (.int .i64), (.int .i64), (.int .i64), (.int .i64), (.int .i64), (.int .i64), (.int .i64), (.int .i64)])), (.sh (.agg [(.int .i64), (.int .i64), (.int .i64), (.int .i64), (.int .i64), (.int .i64), (.int .i64), (.int .i64), (.int .i64), (.int .i64), (.int .i64), (.int .i64)]))], revealed_gain_s, [], none⟩
def revealed_gain_pats : List Cfg := []
theorem revealed_gain_ok : SysOk Try.prog 46 revealed_gain_S := sys_ok (c := (cg [] [] [] false false false true)) (progOkG _ _ _ _ _ _ _ _) Try.func46 Try.call46 (by kernel_rfl) revealed_gain_pats revealed_gain_S 5000 rfl (by kernel_rfl) (by kernel_rfl) rfl
def slices_insertionSortCmpFunc_api_Offer_s : PT :=
 (.need (.and (.le (.l (-9223372036854775808)) (.add (.a 0) (.l 1))) (.le (.add (.a 0) (.l 1)) (.l 9223372036854775807)))
 (.jump 0 [(.a 0), (.a 1), (.add (.a 0) (.l 1))] [] [(.va 0), (.va 1)]))
def slices_insertionSortCmpFunc_api_Offer_t0 : PT :=
 (.ite (.lt (.a 2) (.a 1))
  .stuck
  (.ret false (.tup []) []))
def slices_insertionSortCmpFunc_api_Offer_S : Sx.Sys := ⟨[(.sh (.one .val)), (.sh (.one (.int .i64))), (.sh (.one (.int .i64))), (.sh (.one .val))], slices_insertionSortCmpFunc_api_Offer_s, [slices_insertionSortCmpFunc_api_Offer_t0], none⟩
def slices_insertionSortCmpFunc_api_Offer_pats : List Cfg := [{ todo := [(.code [false, false, true]), (.inLoop [false, false, true]), (.inBlock 0)], sl := [(.va 0), (.int .i64 (.a 0)), (.int .i64 (.a 1)), (.va 1), .undef, .undef, .undef, .undef, (.int .i64 (.a 2)), .undef, (.junk 0), (.junk 1), .undef, .undef, .undef, .undef, .undef, .undef, .undef, .undef, .undef, .undef, .undef, .undef, .undef, .undef, .undef, .undef, .undef, .undef, .undef, .undef, .undef, .undef, .undef, .undef, .undef, .undef, .undef, .undef, .undef, .undef, .undef, .undef, .undef, .undef, .undef, .undef, .undef, .undef, .undef, .undef, .undef], H := [], ni := 3, nb := 0, nv := 2, nj := 2 }]
theorem slices_insertionSortCmpFunc_api_Offer_ok : SysOk Try.prog 54 slices_insertionSortCmpFunc_api_Offer_S := sys_ok (c := (cg [[false, false, true]] [] [(22, [3])] false false false true)) (progOkG _ _ _ _ _ _ _ _) Try.func54 Try.call54 (by kernel_rfl) slices_insertionSortCmpFunc_api_Offer_pats slices_insertionSortCmpFunc_api_Offer_S 40 rfl (by kernel_rfl) (by kernel_rfl) rfl
def slices_medianCmpFunc_api_Offer_s : PT :=
 (.call 69 [(.va 0), (.int .i64 (.a 0)), (.int .i64 (.a 1)), (.va 1), (.va 2)] [] [(.one (.int .i64)), (.one (.int .i64))]
 (.call 69 [(.va 0), (.int .i64 (.a 4)), (.int .i64 (.a 2)), (.va 1), (.va 2)] [] [(.one (.int .i64)), (.one (.int .i64))]
 (.call 69 [(.va 0), (.int .i64 (.a 3)), (.int .i64 (.a 5)), (.va 1), (.va 2)] [] [(.one (.int .i64)), (.one (.int .i64))]
 (.ret false (.int .i64 (.a 8)) []))))
def slices_medianCmpFunc_api_Offer_S : Sx.Sys := ⟨[(.sh (.one .val)), (.sh (.one (.int .i64))), (.sh (.one (.int .i64))), (.sh (.one (.int .i64))), (.sh (.one .val)), (.sh (.one .val))], slices_medianCmpFunc_api_Offer_s, [], none⟩
def slices_medianCmpFunc_api_Offer_pats : List Cfg := []
theorem slices_medianCmpFunc_api_Offer_ok : SysOk Try.prog 68 slices_medianCmpFunc_api_Offer_S := sys_ok (c := (cg [] [] [] false false false true)) (progOkG _ _ _ _ _ _ _ _) Try.func68 Try.call68 (by kernel_rfl) slices_medianCmpFunc_api_Offer_pats slices_medianCmpFunc_api_Offer_S 5000 rfl (by kernel_rfl) (by kernel_rfl) rfl
end Go.Proofs.Ytggjcdnailppoaa
