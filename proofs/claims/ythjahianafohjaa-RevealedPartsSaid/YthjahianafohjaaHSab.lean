/- The trees of this seat's functions, part 3. Written by txgen.py. -/
import Derived.Test.YthjahianafohjaaHTab
set_option linter.unusedSimpArgs false
set_option linter.unusedVariables false
set_option maxRecDepth 100000
namespace Go.Proofs.Ythjahianafohjaa
open Go.Sx
def saleroomlaw36_RevealedGains_s : PT :=
 (.call 20 [(.agg [(.int .i64 (.a 0)), (.int .i64 (.a 1)), (.int .i64 (.a 2)), (.int .i64 (.a 3)), (.int .i64 (.a 4)), (.int .i64 (.a 5)), (.int .i64 (.a 6)), (.int .i64 (.a 7)), (.int .i64 (.a 8)), (.int .i64 (.a 9)), (.int .i64 (.a 10)), (.int .i64 (.a 11))]), (.agg [(.int .i64 (.a 12)), (.int .i64 (.a 13)), (.int .i64 (.a 14)), (.int .i64 (.a 15)), (.int .i64 (.a 16)), (.int .i64 (.a 17)), (.int .i64 (.a 18)), (.int .i64 (.a 19)), (.int .i64 (.a 20)), (.int .i64 (.a 21)), (.int .i64 (.a 22)), (.int .i64 (.a 23))])] [] [(.one (.int .i64))]
 (.call 21 [(.agg [(.int .i64 (.a 0)), (.int .i64 (.a 1)), (.int .i64 (.a 2)), (.int .i64 (.a 3)), (.int .i64 (.a 4)), (.int .i64 (.a 5)), (.int .i64 (.a 6)), (.int .i64 (.a 7)), (.int .i64 (.a 8)), (.int .i64 (.a 9)), (.int .i64 (.a 10)), (.int .i64 (.a 11))]), (.agg [(.int .i64 (.a 12)), (.int .i64 (.a 13)), (.int .i64 (.a 14)), (.int .i64 (.a 15)), (.int .i64 (.a 16)), (.int .i64 (.a 17)), (.int .i64 (.a 18)), (.int .i64 (.a 19)), (.int .i64 (.a 20)), (.int .i64 (.a 21)), (.int .i64 (.a 22)), (.int .i64 (.a 23))])] [] [(.one (.int .i64))]
 (.ite (.eq (.a 24) (.a 25))
  (.call 14 [] [] [(.one .bool)]
  (.ret false (.bool (.a 0)) []))
  (.ret false (.bool (.t false)) []))))
def saleroomlaw36_RevealedGains_S : Sx.Sys := ⟨[(.sh (.agg [(.int .i64), (.int .i64), (.int .i64), (.int .i64), (.int .i64), (.int .i64), (.int .i64), (.int .i64), (.int .i64), (.int .i64), (.int .i64), (.int .i64)])), (.sh (.agg [(.int .i64), (.int .i64), (.int .i64), (.int .i64), (.int .i64), (.int .i64), (.int .i64), (.int .i64), (.int .i64), (.int .i64), (.int .i64), (.int .i64)]))], saleroomlaw36_RevealedGains_s, [], none⟩
def saleroomlaw36_RevealedGains_pats : List Cfg := []
theorem saleroomlaw36_RevealedGains_ok : SysOk Try.prog 6 saleroomlaw36_RevealedGains_S := sys_ok (c := (cg [] [] [] false false false true)) (progOkG _ _ _ _ _ _ _ _) Try.func6 Try.call6 (by kernel_rfl) saleroomlaw36_RevealedGains_pats saleroomlaw36_RevealedGains_S 5000 rfl (by kernel_rfl) (by kernel_rfl) rfl
def saleroomlaw36_lives_s : PT :=
 (.call 38 [] [] [(.one .val)]
 (.call 15 [(.va 0)] [] [(.agg [.val, .val]), (.one .bool)]
 (.need (.lt (.l 0) (.slen 0))
 (.load false (.ea 0 (.l 0) 12 0) [(.int .i64), (.int .i64), (.int .i64), (.int .i64), (.int .i64), (.int .i64), (.int .i64), (.int .i64), (.int .i64), (.int .i64), (.int .i64), (.int .i64)]
 (.app none (.lit [[(.int .i64 (.a 0)), (.int .i64 (.a 1)), (.int .i64 (.a 2)), (.int .i64 (.a 3)), (.int .i64 (.a 4)), (.int .i64 (.a 5)), (.int .i64 (.a 6)), (.int .i64 (.a 7)), (.int .i64 (.a 8)), (.int .i64 (.a 9)), (.int .i64 (.a 10)), (.int .i64 (.a 11))], [(.int .i64 (.l 2)), (.int .i64 (.l 1)), (.int .i64 (.l 0)), (.int .i64 (.l 0)), (.int .i64 (.l 0)), (.int .i64 (.l 0)), (.int .i64 (.l 0)), (.int .i64 (.l 1)), (.int .i64 (.l 0)), (.int .i64 (.l 0)), (.int .i64 (.l 0)), (.int .i64 (.l 0))]]) 12
 (.call 15 [(.va 3)] [] [(.agg [.val, .val]), (.one .bool)]
 (.ite (.not (.a 0))
  (.need (.is 0 1)
  (.ite (.lt (.l 0) (.slen 1))
   (.call 19 [(.va 0), (.agg [(.va 1), (.va 2)])] [] [(.one (.int .i64))]
   (.ite (.eq (.a 12) (.l 0))
    (.ite (.a 1)
     (.call 19 [(.va 3), (.agg [(.va 4), (.va 5)])] [] [(.one (.int .i64))]
     (.ite (.eq (.a 13) (.l 0))
      (.need (.lt (.l 0) (.slen 0))
      (.need (.lt (.l 1) (.slen 0))
      (.load true (.ea 0 (.l 0) 12 0) [(.int .i64), (.int .i64), (.int .i64), (.int .i64), (.int .i64), (.int .i64), (.int .i64), (.int .i64), (.int .i64), (.int .i64), (.int .i64), (.int .i64)]
      (.load true (.ea 0 (.l 1) 12 0) [(.int .i64), (.int .i64), (.int .i64), (.int .i64), (.int .i64), (.int .i64), (.int .i64), (.int .i64), (.int .i64), (.int .i64), (.int .i64), (.int .i64)]
      (.call 20 [(.agg [(.int .i64 (.a 14)), (.int .i64 (.a 15)), (.int .i64 (.a 16)), (.int .i64 (.a 17)), (.int .i64 (.a 18)), (.int .i64 (.a 19)), (.int .i64 (.a 20)), (.int .i64 (.a 21)), (.int .i64 (.a 22)), (.int .i64 (.a 23)), (.int .i64 (.a 24)), (.int .i64 (.a 25))]), (.agg [(.int .i64 (.a 26)), (.int .i64 (.a 27)), (.int .i64 (.a 28)), (.int .i64 (.a 29)), (.int .i64 (.a 30)), (.int .i64 (.a 31)), (.int .i64 (.a 32)), (.int .i64 (.a 33)), (.int .i64 (.a 34)), (.int .i64 (.a 35)), (.int .i64 (.a 36)), (.int .i64 (.a 37))])] [] [(.one (.int .i64))]
      (.ite (.eq (.a 38) (.l 0))
       (.need (.lt (.l 1) (.slen 0))
       (.need (.lt (.l 0) (.slen 0))
       (.load true (.ea 0 (.l 1) 12 0) [(.int .i64), (.int .i64), (.int .i64), (.int .i64), (.int .i64), (.int .i64), (.int .i64), (.int .i64), (.int .i64), (.int .i64), (.int .i64), (.int .i64)]
       (.load true (.ea 0 (.l 0) 12 0) [(.int .i64), (.int .i64), (.int .i64), (.int .i64), (.int .i64), (.int .i64), (.int .i64), (.int .i64), (.int .i64), (.int .i64), (.int .i64), (.int .i64)]
       (.call 20 [(.agg [(.int .i64 (.a 39)), (.int .i64 (.a 40)), (.int .i64 (.a 41)), (.int .i64 (.a 42)), (.int .i64 (.a 43)), (.int .i64 (.a 44)), (.int .i64 (.a 45)), (.int .i64 (.a 46)), (.int .i64 (.a 47)), (.int .i64 (.a 48)), (.int .i64 (.a 49)), (.int .i64 (.a 50))]), (.agg [(.int .i64 (.a 51)), (.int .i64 (.a 52)), (.int .i64 (.a 53)), (.int .i64 (.a 54)), (.int .i64 (.a 55)), (.int .i64 (.a 56)), (.int .i64 (.a 57)), (.int .i64 (.a 58)), (.int .i64 (.a 59)), (.int .i64 (.a 60)), (.int .i64 (.a 61)), (.int .i64 (.a 62))])] [] [(.one (.int .i64))]
       (.ite (.eq (.a 63) (.l (-1)))
        (.app none (.lit [[(.int .i64 (.l 3))], [(.int .i64 (.l 3))]]) 1
        (.call 19 [(.va 3), (.agg [.nilS, (.va 6)])] [] [(.one (.int .i64))]
        (.ite (.eq (.a 64) (.l 0))
         (.app none (.lit [[(.int .i64 (.l 3))]]) 1
         (.call 19 [(.va 3), (.agg [.nilS, (.va 7)])] [] [(.one (.int .i64))]
         (.ret false (.bool (.eq (.a 65) (.l 13))) [])))
         (.ret false (.bool (.t false)) []))))
        (.ret false (.bool (.t false)) [])))))))
       (.ret false (.bool (.t false)) [])))))))
      (.ret false (.bool (.t false)) [])))
     (.ret false (.bool (.t false)) []))
    (.ret false (.bool (.t false)) [])))
   (.ret false (.bool (.t false)) [])))
  (.ret false (.bool (.t false)) []))))))))
def saleroomlaw36_lives_S : Sx.Sys := ⟨[], saleroomlaw36_lives_s, [], none⟩
def saleroomlaw36_lives_pats : List Cfg := []
theorem saleroomlaw36_lives_ok : SysOk Try.prog 14 saleroomlaw36_lives_S := sys_ok (c := (cg [] [] [] false false false true)) (progOkG _ _ _ _ _ _ _ _) Try.func14 Try.call14 (by kernel_rfl) saleroomlaw36_lives_pats saleroomlaw36_lives_S 5000 rfl (by kernel_rfl) (by kernel_rfl) rfl
def saleroomlaw37_few_s : PT :=
 (.need (.is 0 0)
 (.ite (.le (.slen 0) (.l 8))
  (.need (.is 0 1)
  (.ret false (.bool (.le (.slen 1) (.l 10))) []))
  (.ret false (.bool (.t false)) [])))
def saleroomlaw37_few_S : Sx.Sys := ⟨[(.sh (.agg [.val, .val, .val, .val]))], saleroomlaw37_few_s, [], none⟩
def saleroomlaw37_few_pats : List Cfg := []
theorem saleroomlaw37_few_ok : SysOk Try.prog 22 saleroomlaw37_few_S := sys_ok (c := (cg [] [] [] false false false true)) (progOkG _ _ _ _ _ _ _ _) Try.func22 Try.call22 (by kernel_rfl) saleroomlaw37_few_pats saleroomlaw37_few_S 5000 rfl (by kernel_rfl) (by kernel_rfl) rfl
def saleroomref37_Exited_s : PT :=
 (.need (.is 0 0)
 (.ite (.lt (.l 0) (.slen 0))
  (.need (.is 0 0)
  (.need (.and (.le (.l (-9223372036854775808)) (.sub (.slen 0) (.l 1))) (.le (.sub (.slen 0) (.l 1)) (.l 9223372036854775807)))
  (.need (.and (.le (.l 0) (.sub (.slen 0) (.l 1))) (.lt (.sub (.slen 0) (.l 1)) (.slen 0)))
  (.load false (.ea 0 (.sub (.slen 0) (.l 1)) 12 6) [(.int .i64), (.int .i64), (.int .i64), (.int .i64), (.int .i64), (.int .i64)]
  (.ret false (.bool (.and (.eq (.a 0) (.l 0)) (.and (.eq (.a 1) (.l 0)) (.and (.eq (.a 2) (.l 0)) (.and (.eq (.a 3) (.l 0)) (.and (.eq (.a 4) (.l 0)) (.eq (.a 5) (.l 0)))))))) [])))))
  (.ret false (.bool (.t false)) [])))
def saleroomref37_Exited_S : Sx.Sys := ⟨[(.sh (.one .val))], saleroomref37_Exited_s, [], none⟩
def saleroomref37_Exited_pats : List Cfg := []
theorem saleroomref37_Exited_ok : SysOk Try.prog 30 saleroomref37_Exited_S := sys_ok (c := (cg [] [] [] false false false true)) (progOkG _ _ _ _ _ _ _ _) Try.func30 Try.call30 (by kernel_rfl) saleroomref37_Exited_pats saleroomref37_Exited_S 5000 rfl (by kernel_rfl) (by kernel_rfl) rfl
def saleroomlaw36_contrary_s : PT :=
 (.app none (.lit [[(.int .i64 (.l 1)), (.int .i64 (.l 1)), (.int .i64 (.l 0)), (.int .i64 (.l 0)), (.int .i64 (.l 0)), (.int .i64 (.l 0)), (.int .i64 (.l 1)), (.int .i64 (.l 0)), (.int .i64 (.l 0)), (.int .i64 (.l 0)), (.int .i64 (.l 0)), (.int .i64 (.l 0))], [(.int .i64 (.l 1)), (.int .i64 (.l 2)), (.int .i64 (.l 0)), (.int .i64 (.l 0)), (.int .i64 (.l 0)), (.int .i64 (.l 0)), (.int .i64 (.l 0)), (.int .i64 (.l 1)), (.int .i64 (.l 0)), (.int .i64 (.l 0)), (.int .i64 (.l 0)), (.int .i64 (.l 0))]]) 12
 (.ret false (.va 0) []))
def saleroomlaw36_contrary_S : Sx.Sys := ⟨[], saleroomlaw36_contrary_s, [], none⟩
def saleroomlaw36_contrary_pats : List Cfg := []
theorem saleroomlaw36_contrary_ok : SysOk Try.prog 38 saleroomlaw36_contrary_S := sys_ok (c := (cg [] [] [] false false false true)) (progOkG _ _ _ _ _ _ _ _) Try.func38 Try.call38 (by kernel_rfl) saleroomlaw36_contrary_pats saleroomlaw36_contrary_S 5000 rfl (by kernel_rfl) (by kernel_rfl) rfl
def revealed_formed_s : PT :=
 (.need (.is 0 1)
 (.ite (.lt (.l 0) (.slen 1))
  (.need (.is 0 2)
  (.ite (.lt (.l 0) (.slen 2))
   (.ret false (.bool (.t false)) [])
   (.need (.is 0 1)
   (.ite (.lt (.l 1000) (.slen 1))
    (.ret false (.bool (.t false)) [])
    (.need (.is 0 1)
    (.jump 0 [(.slen 1), (.l 0)] [] [(.va 0), (.va 1), (.va 2)]))))))
  (.need (.is 0 1)
  (.ite (.lt (.l 1000) (.slen 1))
   (.ret false (.bool (.t false)) [])
   (.need (.is 0 1)
   (.jump 0 [(.slen 1), (.l 0)] [] [(.va 0), (.va 1), (.va 2)]))))))
def revealed_formed_t0 : PT :=
 (.ite (.lt (.a 1) (.a 0))
  (.need (.and (.le (.l 0) (.a 1)) (.lt (.a 1) (.slen 1)))
  (.load false (.ea 1 (.a 1) 1 0) [(.int .i64)]
  (.ite (.lt (.a 2) (.l 0))
   (.ret false (.bool (.t false)) [])
   (.need (.is 0 0)
   (.ite (.le (.slen 0) (.a 2))
    (.ret false (.bool (.t false)) [])
    (.need (.and (.le (.l (-9223372036854775808)) (.add (.a 1) (.l 1))) (.le (.add (.a 1) (.l 1)) (.l 9223372036854775807)))
    (.jump 0 [(.a 0), (.add (.a 1) (.l 1))] [] [(.va 0), (.va 1), (.va 2)])))))))
  (.need (.is 0 2)
  (.jump 1 [(.slen 2), (.l 0)] [] [(.va 2)])))
def revealed_formed_t1 : PT :=
 (.ite (.lt (.a 1) (.a 0))
  (.need (.and (.le (.l 0) (.a 1)) (.lt (.a 1) (.slen 0)))
  (.load false (.ea 0 (.a 1) 1 0) [(.int .i64)]
  (.ite (.lt (.a 2) (.l (-1099511627776)))
   (.ret false (.bool (.t false)) [])
   (.ite (.lt (.l 1099511627776) (.a 2))
    (.ret false (.bool (.t false)) [])
    (.need (.and (.le (.l (-9223372036854775808)) (.add (.a 1) (.l 1))) (.le (.add (.a 1) (.l 1)) (.l 9223372036854775807)))
    (.jump 1 [(.a 0), (.add (.a 1) (.l 1))] [] [(.va 0)]))))))
  (.ret false (.bool (.t true)) []))
def revealed_formed_S : Sx.Sys := ⟨[(.sh (.one .val)), (.sh (.agg [.val, .val]))], revealed_formed_s, [revealed_formed_t0, revealed_formed_t1], none⟩
def revealed_formed_pats : List Cfg := [{ todo := [(.code [false, false, true, false, true, true]), (.inLoop [false, false, true, false, true, true]), (.inBlock 0), (.code [true, true, true])], sl := [(.va 0), (.junk 0), .undef, (.ptr 0 0), (.junk 1), .undef, (.junk 2), .undef, .undef, (.junk 3), (.junk 4), (.junk 5), (.junk 6), (.junk 7), (.junk 8), (.junk 9), (.junk 10), (.junk 11), (.junk 12), (.junk 13), (.junk 14), (.junk 15), (.junk 16), (.junk 17), (.junk 18), (.junk 19), (.va 1), (.int .i64 (.a 0)), (.int .i64 (.a 1)), (.junk 20), (.junk 21), (.junk 22), (.junk 23), (.junk 24), (.junk 25), (.junk 26), (.junk 27), (.junk 28), (.junk 29), (.junk 30), (.junk 31), .undef, .undef, .undef, .undef, .undef, .undef, .undef, .undef, .undef, .undef, .undef, .undef, .undef, .undef], H := [(.cells [(.va 1), (.va 2)] 27 false)], ni := 2, nb := 0, nv := 3, nj := 32 },
 { todo := [(.code [false, false, true, false, true, true, true]), (.inLoop [false, false, true, false, true, true, true]), (.inBlock 2), (.code [true, true, true, true])], sl := [(.junk 0), (.junk 1), .undef, (.junk 2), (.junk 3), .undef, (.junk 4), .undef, (.junk 5), (.junk 6), (.junk 7), (.junk 8), (.junk 9), (.junk 10), (.junk 11), (.junk 12), (.junk 13), (.junk 14), (.junk 15), (.junk 16), (.junk 17), (.junk 18), (.junk 19), (.junk 20), (.junk 21), (.junk 22), (.junk 23), (.junk 24), (.junk 25), (.junk 26), (.junk 27), (.junk 28), (.junk 29), (.junk 30), (.junk 31), (.junk 32), (.junk 33), (.junk 34), (.junk 35), (.junk 36), (.junk 37), (.junk 38), (.va 0), (.int .i64 (.a 0)), (.int .i64 (.a 1)), (.junk 39), (.junk 40), (.junk 41), (.junk 42), (.junk 43), (.junk 44), (.junk 45), (.junk 46), (.junk 47), (.junk 48)], H := [], ni := 2, nb := 0, nv := 1, nj := 49 }]
theorem revealed_formed_ok : SysOk Try.prog 46 revealed_formed_S := sys_ok (c := (cg [[false, false, true, false, true, true], [false, false, true, false, true, true, true]] [] [] false false false true)) (progOkG _ _ _ _ _ _ _ _) Try.func46 Try.call46 (by kernel_rfl) revealed_formed_pats revealed_formed_S 5000 rfl (by kernel_rfl) (by kernel_rfl) rfl
def activity_has_s : PT :=
 (.ite (.le (.l 0) (.a 0))
  (.need (.is 0 1)
  (.ret false (.bool (.lt (.a 0) (.slen 1))) []))
  (.ret false (.bool (.t false)) []))
def activity_has_S : Sx.Sys := ⟨[(.sh (.agg [.val, .val, .val, .val])), (.sh (.one (.int .i64)))], activity_has_s, [], none⟩
def activity_has_pats : List Cfg := []
theorem activity_has_ok : SysOk Try.prog 54 activity_has_S := sys_ok (c := (cg [] [] [] false false false true)) (progOkG _ _ _ _ _ _ _ _) Try.func54 Try.call54 (by kernel_rfl) activity_has_pats activity_has_S 5000 rfl (by kernel_rfl) (by kernel_rfl) rfl
def revealed_cycle_s : PT :=
 (.mkMap .i64
 (.jump 0 [(.a 0)] [] [(.va 0), (.va 1)]))
def revealed_cycle_t0 : PT :=
 (.mapGet 1 .i64 (.a 0) (.bool (.t false)) false [(.one .bool)]
 (.ite (.not (.a 0))
  (.mapSet 1 .i64 (.a 0) (.bool (.t true))
  (.need (.and (.le (.l 0) (.a 0)) (.lt (.a 0) (.slen 0)))
  (.load false (.ea 0 (.a 0) 1 0) [(.int .i64)]
  (.jump 0 [(.a 1)] [] [(.va 0), (.va 1)]))))
  (.mapClr 1
  (.jump 1 [(.a 0)] [] [(.va 0), (.va 1), .nilS]))))
def revealed_cycle_t1 : PT :=
 (.mapGet 1 .i64 (.a 0) (.bool (.t false)) false [(.one .bool)]
 (.ite (.not (.a 0))
  (.mapSet 1 .i64 (.a 0) (.bool (.t true))
  (.app none (.lit [[(.int .i64 (.a 0))]]) 1
  (.appM (.va 2) (.va 3) 1 3
  (.need (.and (.le (.l 0) (.a 0)) (.lt (.a 0) (.slen 0)))
  (.load false (.ea 0 (.a 0) 1 0) [(.int .i64)]
  (.jump 1 [(.a 1)] [] [(.va 0), (.va 1), (.va 4)]))))))
  (.need (.is 0 2)
  (.mkM (.slen 2) [(.int .i64 (.l 0))] 3 1 8
  (.need (.is 0 2)
  (.jump 2 [(.slen 2), (.l 0)] [] [(.va 2), (.va 3)]))))))
def revealed_cycle_t2 : PT :=
 (.ite (.lt (.a 1) (.a 0))
  (.need (.and (.le (.l 0) (.a 1)) (.lt (.a 1) (.slen 0)))
  (.load false (.ea 0 (.a 1) 1 0) [(.int .i64)]
  (.need (.is 0 0)
  (.need (.and (.le (.l (-9223372036854775808)) (.sub (.slen 0) (.l 1))) (.le (.sub (.slen 0) (.l 1)) (.l 9223372036854775807)))
  (.need (.and (.le (.l (-9223372036854775808)) (.sub (.sub (.slen 0) (.l 1)) (.a 1))) (.le (.sub (.sub (.slen 0) (.l 1)) (.a 1)) (.l 9223372036854775807)))
  (.need (.and (.le (.l 0) (.sub (.sub (.slen 0) (.l 1)) (.a 1))) (.lt (.sub (.sub (.slen 0) (.l 1)) (.a 1)) (.slen 1)))
  (.storeM (.ea 1 (.sub (.sub (.slen 0) (.l 1)) (.a 1)) 1 0) [(.int .i64 (.a 2))]
  (.need (.and (.le (.l (-9223372036854775808)) (.add (.a 1) (.l 1))) (.le (.add (.a 1) (.l 1)) (.l 9223372036854775807)))
  (.jump 2 [(.a 0), (.add (.a 1) (.l 1))] [] [(.va 0), (.va 1)])))))))))
  (.ret false (.va 1) []))
def revealed_cycle_S : Sx.Sys := ⟨[(.sh (.one .val)), (.sh (.one (.int .i64)))], revealed_cycle_s, [revealed_cycle_t0, revealed_cycle_t1, revealed_cycle_t2], none⟩
def revealed_cycle_pats : List Cfg := [{ todo := [(.code [false, false, false, true, true]), (.inLoop [false, false, false, true, true]), (.inBlock 0), (.code [true, true, true])], sl := [(.va 0), (.int .i64 (.a 0)), .undef, .undef, (.junk 0), (.va 1), .undef, .undef, .undef, .undef, (.junk 1), (.junk 2), (.junk 3), (.junk 4), (.junk 5), (.junk 6), (.junk 7), (.junk 8), (.junk 9), (.junk 10), (.junk 11), .undef, .undef, .undef, .undef, .undef, .undef, .undef, .undef, .undef, .undef, .undef, .undef, .undef, .undef, .undef, .undef, .undef, .undef, .undef, .undef, .undef, .undef, .undef, .undef, .undef, .undef, .undef, .undef, .undef, .undef, .undef, .undef, .undef, .undef, .undef], H := [], ni := 1, nb := 0, nv := 2, nj := 12 },
 { todo := [(.code [false, false, false, true, true, true, true, true]), (.inLoop [false, false, false, true, true, true, true, true]), (.inBlock 2), (.code [true, true, true, true, true, true])], sl := [(.va 0), (.int .i64 (.a 0)), .undef, .undef, (.junk 0), (.va 1), (.va 2), .undef, .undef, .undef, (.junk 1), (.junk 2), (.junk 3), (.junk 4), (.junk 5), (.junk 6), (.junk 7), (.junk 8), (.junk 9), (.junk 10), (.junk 11), (.junk 12), (.junk 13), (.junk 14), (.junk 15), (.junk 16), (.junk 17), (.junk 18), (.junk 19), (.junk 20), (.junk 21), (.junk 22), (.junk 23), (.junk 24), (.junk 25), (.junk 26), .undef, .undef, .undef, .undef, .undef, .undef, .undef, .undef, .undef, .undef, .undef, .undef, .undef, .undef, .undef, .undef, .undef, .undef, .undef, .undef], H := [], ni := 1, nb := 0, nv := 3, nj := 27 },
 { todo := [(.code [false, false, true, false, true, true, true, true, true, true, true]), (.inLoop [false, false, true, false, true, true, true, true, true, true, true]), (.inBlock 4), (.code [true, true, true, true, true, true, true, true])], sl := [(.junk 0), (.junk 1), .undef, .undef, (.junk 2), (.junk 3), (.va 0), (.va 1), (.junk 4), (.junk 5), (.junk 6), (.junk 7), (.junk 8), (.junk 9), (.junk 10), (.junk 11), (.junk 12), (.junk 13), (.junk 14), (.junk 15), (.junk 16), (.junk 17), (.junk 18), (.junk 19), (.junk 20), (.junk 21), (.junk 22), (.junk 23), (.junk 24), (.junk 25), (.junk 26), (.junk 27), (.junk 28), (.junk 29), (.junk 30), (.junk 31), (.junk 32), (.junk 33), (.junk 34), (.va 0), (.int .i64 (.a 0)), (.int .i64 (.a 1)), (.junk 35), (.junk 36), (.junk 37), (.junk 38), (.junk 39), (.junk 40), (.junk 41), (.junk 42), (.junk 43), (.junk 44), (.junk 45), (.junk 46), (.junk 47), .undef], H := [], ni := 2, nb := 0, nv := 2, nj := 48 }]
theorem revealed_cycle_ok : SysOk Try.prog 63 revealed_cycle_S := sys_ok (c := (cg [[false, false, false, true, true], [false, false, false, true, true, true, true, true], [false, false, true, false, true, true, true, true, true, true, true]] [] [] true false true true)) (progOkG _ _ _ _ _ _ _ _) Try.func63 Try.call63 (by kernel_rfl) revealed_cycle_pats revealed_cycle_S 5000 rfl (by kernel_rfl) (by kernel_rfl) rfl
def bundle_All_s : PT :=
 (.call 76 [(.agg [(.int .i64 (.a 0)), (.int .i64 (.a 1)), (.int .i64 (.a 2)), (.int .i64 (.a 3)), (.int .i64 (.a 4)), (.int .i64 (.a 5))])] [] [(.one (.int .i64))]
 (.ite (.eq (.a 6) (.l 0))
  (.ret false (.fn 77 0 []) [])
  (.call 78 [(.agg [(.int .i64 (.a 0)), (.int .i64 (.a 1)), (.int .i64 (.a 2)), (.int .i64 (.a 3)), (.int .i64 (.a 4)), (.int .i64 (.a 5))])] [] [(.one .val)]
  (.ret false (.va 0) []))))
def bundle_All_S : Sx.Sys := ⟨[(.sh (.agg [(.int .i64), (.int .i64), (.int .i64), (.int .i64), (.int .i64), (.int .i64)]))], bundle_All_s, [], none⟩
def bundle_All_pats : List Cfg := []
theorem bundle_All_ok : SysOk Try.prog 71 bundle_All_S := sys_ok (c := (cg [] [] [] false false false true)) (progOkG _ _ _ _ _ _ _ _) Try.func71 Try.call71 (by kernel_rfl) bundle_All_pats bundle_All_S 5000 rfl (by kernel_rfl) (by kernel_rfl) rfl
def catalog_Check_s : PT :=
 (.need (.is 0 0)
 (.ite (.eq (.slen 0) (.l 0))
  (.ret false (.int .i64 (.l 1)) [])
  (.need (.is 0 0)
  (.ite (.lt (.l 6) (.slen 0))
   (.ret false (.int .i64 (.l 3)) [])
   (.need (.is 0 0)
   (.jump 0 [(.slen 0), (.l 0)] [] [(.va 0)]))))))
def catalog_Check_t0 : PT :=
 (.ite (.lt (.a 1) (.a 0))
  (.need (.and (.le (.l 0) (.a 1)) (.lt (.a 1) (.slen 0)))
  (.load false (.ea 0 (.a 1) 5 0) [.val, (.int .i64), (.int .i64), (.int .i64), (.int .i64)]
  (.call 83 [(.va 1)] [] [(.one .bool)]
  (.ite (.not (.a 0))
   (.ret false (.int .i64 (.l 5)) [])
   (.cut 0 none (some (.a 1)) 5
   (.call 84 [(.va 2), (.va 1)] [] [(.one (.int .i64)), (.one .bool)]
   (.ite (.a 1)
    (.ret false (.int .i64 (.l 7)) [])
    (.call 85 [(.int .i64 (.a 2)), (.int .i64 (.l 1)), (.int .i64 (.l 4))] [] [(.one .bool)]
    (.ite (.not (.a 2))
     (.ret false (.int .i64 (.l 4)) [])
     (.call 85 [(.int .i64 (.a 3)), (.int .i64 (.l 0)), (.int .i64 (.l 1000000))] [] [(.one .bool)]
     (.ite (.not (.a 3))
      (.ret false (.int .i64 (.l 4)) [])
      (.call 85 [(.int .i64 (.a 4)), (.int .i64 (.l 0)), (.int .i64 (.l 1000))] [] [(.one .bool)]
      (.ite (.not (.a 4))
       (.ret false (.int .i64 (.l 4)) [])
       (.call 85 [(.int .i64 (.a 5)), (.int .i64 (.l 0)), (.int .i64 (.l 4))] [] [(.one .bool)]
       (.ite (.not (.a 5))
        (.ret false (.int .i64 (.l 4)) [])
        (.need (.and (.le (.l (-9223372036854775808)) (.add (.a 1) (.l 1))) (.le (.add (.a 1) (.l 1)) (.l 9223372036854775807)))
        (.jump 0 [(.a 0), (.add (.a 1) (.l 1))] [] [(.va 0)])))))))))))))))))
  (.call 86 [(.va 0)] [] [(.agg [(.int .i64), (.int .i64), (.int .i64), (.int .i64), (.int .i64), (.int .i64)])]
  (.call 76 [(.agg [(.int .i64 (.a 2)), (.int .i64 (.a 3)), (.int .i64 (.a 4)), (.int .i64 (.a 5)), (.int .i64 (.a 6)), (.int .i64 (.a 7))])] [] [(.one (.int .i64))]
  (.ite (.eq (.a 8) (.l 0))
   (.ret false (.int .i64 (.l 12)) [])
   (.ret false (.int .i64 (.l 0)) [])))))
def catalog_Check_S : Sx.Sys := ⟨[(.sh (.one .val))], catalog_Check_s, [catalog_Check_t0], none⟩
def catalog_Check_pats : List Cfg := [{ todo := [(.code [false, false, true, false, true, true]), (.inLoop [false, false, true, false, true, true]), (.inBlock 1), (.code [true, true, true])], sl := [(.va 0), .undef, (.junk 0), (.junk 1), (.junk 2), (.junk 3), (.junk 4), (.junk 5), (.junk 6), (.junk 7), (.junk 8), (.junk 9), (.junk 10), (.junk 11), (.junk 12), (.va 0), (.int .i64 (.a 0)), (.int .i64 (.a 1)), (.junk 13), (.junk 14), (.junk 15), (.junk 16), (.junk 17), (.junk 18), (.junk 19), (.junk 20), (.junk 21), (.junk 22), (.junk 23), (.junk 24), (.junk 25), (.junk 26), (.junk 27), (.junk 28), (.junk 29), (.junk 30), (.junk 31), (.junk 32), (.junk 33), (.junk 34), (.junk 35), (.junk 36), (.junk 37), (.junk 38), (.junk 39), (.junk 40), (.junk 41), (.junk 42), (.junk 43), (.junk 44), (.junk 45), (.junk 46), (.junk 47), (.junk 48), (.junk 49), (.junk 50), (.junk 51), (.junk 52), (.junk 53), .undef, .undef, .undef, .undef], H := [], ni := 2, nb := 0, nv := 1, nj := 54 }]
theorem catalog_Check_ok : SysOk Try.prog 79 catalog_Check_S := sys_ok (c := (cg [[false, false, true, false, true, true]] [] [] false false false true)) (progOkG _ _ _ _ _ _ _ _) Try.func79 Try.call79 (by kernel_rfl) catalog_Check_pats catalog_Check_S 5000 rfl (by kernel_rfl) (by kernel_rfl) rfl
def bundle_Meet_s : PT :=
 (.ret false (.agg [(.int .i64 (.mn (.a 0) (.a 6))), (.int .i64 (.mn (.a 1) (.a 7))), (.int .i64 (.mn (.a 2) (.a 8))), (.int .i64 (.mn (.a 3) (.a 9))), (.int .i64 (.mn (.a 4) (.a 10))), (.int .i64 (.mn (.a 5) (.a 11)))]) [])
def bundle_Meet_S : Sx.Sys := ⟨[(.sh (.agg [(.int .i64), (.int .i64), (.int .i64), (.int .i64), (.int .i64), (.int .i64)])), (.sh (.agg [(.int .i64), (.int .i64), (.int .i64), (.int .i64), (.int .i64), (.int .i64)]))], bundle_Meet_s, [], none⟩
def bundle_Meet_pats : List Cfg := []
theorem bundle_Meet_ok : SysOk Try.prog 87 bundle_Meet_S := sys_ok (c := (cg [] [] [] false false false true)) (progOkG _ _ _ _ _ _ _ _) Try.func87 Try.call87 (by kernel_rfl) bundle_Meet_pats bundle_Meet_S 5000 rfl (by kernel_rfl) (by kernel_rfl) rfl
end Go.Proofs.Ythjahianafohjaa
set_option maxRecDepth 100000
namespace Go.Proofs.Ythjahianafohjaa
open Go.Sx
def saleroomlaw36_RevealedParts_s_b1 : PT :=
 (.call 15 [(.va 7)] [] [(.agg [.val, .val]), (.one .bool)]
       (.jump 0 [(.tmod (.a 0) (.slen 0))] [(.a 0), (.a 1)] [(.va 0)]))
def saleroomlaw36_RevealedParts_s_b2 : PT :=
 (.app (some 6) (.va 4) 12
      (.both saleroomlaw36_RevealedParts_s_b1 saleroomlaw36_RevealedParts_s_b1))
def saleroomlaw36_RevealedParts_s_b3 : PT :=
 (.app (some 6) (.va 4) 12
      (.call 15 [(.va 7)] [] [(.agg [.val, .val]), (.one .bool)]
      (.jump 0 [(.tmod (.a 0) (.slen 0))] [(.a 0), (.a 1)] [(.va 0)])))
def saleroomlaw36_RevealedParts_s_b4 : PT :=
 (.app (some 5) (.va 3) 12
     (.both saleroomlaw36_RevealedParts_s_b2 saleroomlaw36_RevealedParts_s_b3))
def saleroomlaw36_RevealedParts_s_b5 : PT :=
 (.app (some 5) (.va 3) 12
     (.app (some 6) (.va 4) 12
     (.call 15 [(.va 7)] [] [(.agg [.val, .val]), (.one .bool)]
     (.jump 0 [(.tmod (.a 0) (.slen 0))] [(.a 0), (.a 1)] [(.va 0)]))))
def saleroomlaw36_RevealedParts_s_b6 : PT :=
 (.app none (.lit []) 12
    (.both saleroomlaw36_RevealedParts_s_b4 saleroomlaw36_RevealedParts_s_b5))
def saleroomlaw36_RevealedParts_s_b7 : PT :=
 (.app none (.lit []) 12
    (.app (some 5) (.va 3) 12
    (.app (some 6) (.va 4) 12
    (.call 15 [(.va 7)] [] [(.agg [.val, .val]), (.one .bool)]
    (.jump 0 [(.tmod (.a 0) (.slen 0))] [(.a 0), (.a 1)] [(.va 0)])))))
def saleroomlaw36_RevealedParts_s : PT :=
 (.need (.is 0 0)
 (.ite (.lt (.l 12) (.slen 0))
  (.call 14 [] [] [(.one .bool)]
  (.ret false (.bool (.a 0)) []))
  (.need (.is 0 0)
  (.ite (.eq (.slen 0) (.l 0))
   (.call 14 [] [] [(.one .bool)]
   (.ret false (.bool (.a 0)) []))
   (.need (.and (.le (.l (-9223372036854775808)) (.a 0)) (.le (.a 0) (.l 9223372036854775807)))
   (.need (.is 0 0)
   (.need (.not (.eq (.slen 0) (.l 0)))
   (.call 15 [(.va 0)] [] [(.agg [.val, .val]), (.one .bool)]
   (.need (.and (.le (.l (-9223372036854775808)) (.add (.tmod (.a 0) (.slen 0)) (.l 1))) (.le (.add (.tmod (.a 0) (.slen 0)) (.l 1)) (.l 9223372036854775807)))
   (.cut 0 none (some (.tmod (.a 0) (.slen 0))) 12
   (.cut 0 (some (.add (.tmod (.a 0) (.slen 0)) (.l 1))) none 12
   (.both saleroomlaw36_RevealedParts_s_b6 saleroomlaw36_RevealedParts_s_b7))))))))))))
def saleroomlaw36_RevealedParts_t0_b1 : PT :=
 (.call 15 [(.va 4)] [] [(.agg [.val, .val]), (.one .bool)]
      (.jump 1 [] [(.a 0), (.a 1), (.a 2)] [(.va 0)]))
def saleroomlaw36_RevealedParts_t0_b2 : PT :=
 (.app (some 2) (.va 3) 12
     (.both saleroomlaw36_RevealedParts_t0_b1 saleroomlaw36_RevealedParts_t0_b1))
def saleroomlaw36_RevealedParts_t0_b3 : PT :=
 (.app (some 2) (.va 3) 12
     (.call 15 [(.va 4)] [] [(.agg [.val, .val]), (.one .bool)]
     (.jump 1 [] [(.a 0), (.a 1), (.a 2)] [(.va 0)])))
def saleroomlaw36_RevealedParts_t0_b4 : PT :=
 (.app none (.lit [[(.int .i64 (.a 1)), (.int .i64 (.a 2)), (.int .i64 (.a 3)), (.int .i64 (.a 4)), (.int .i64 (.a 5)), (.int .i64 (.a 6)), (.int .i64 (.a 7)), (.int .i64 (.a 8)), (.int .i64 (.a 9)), (.int .i64 (.a 10)), (.int .i64 (.a 11)), (.int .i64 (.a 12))]]) 12
    (.both saleroomlaw36_RevealedParts_t0_b2 saleroomlaw36_RevealedParts_t0_b3))
def saleroomlaw36_RevealedParts_t0_b5 : PT :=
 (.app none (.lit [[(.int .i64 (.a 1)), (.int .i64 (.a 2)), (.int .i64 (.a 3)), (.int .i64 (.a 4)), (.int .i64 (.a 5)), (.int .i64 (.a 6)), (.int .i64 (.a 7)), (.int .i64 (.a 8)), (.int .i64 (.a 9)), (.int .i64 (.a 10)), (.int .i64 (.a 11)), (.int .i64 (.a 12))]]) 12
    (.app (some 2) (.va 3) 12
    (.call 15 [(.va 4)] [] [(.agg [.val, .val]), (.one .bool)]
    (.jump 1 [] [(.a 0), (.a 1), (.a 2)] [(.va 0)]))))
def saleroomlaw36_RevealedParts_t0_b6 : PT :=
 (.app (some 1) (.va 0) 12
   (.both saleroomlaw36_RevealedParts_t0_b4 saleroomlaw36_RevealedParts_t0_b5))
def saleroomlaw36_RevealedParts_t0_b7 : PT :=
 (.call 15 [(.va 4)] [] [(.agg [.val, .val]), (.one .bool)]
       (.jump 1 [] [(.a 0), (.a 1), (.a 2)] [(.va 0)]))
def saleroomlaw36_RevealedParts_t0_b8 : PT :=
 (.app (some 3) (.va 2) 12
      (.both saleroomlaw36_RevealedParts_t0_b7 saleroomlaw36_RevealedParts_t0_b7))
def saleroomlaw36_RevealedParts_t0_b9 : PT :=
 (.app (some 3) (.va 2) 12
      (.call 15 [(.va 4)] [] [(.agg [.val, .val]), (.one .bool)]
      (.jump 1 [] [(.a 0), (.a 1), (.a 2)] [(.va 0)])))
def saleroomlaw36_RevealedParts_t0_b10 : PT :=
 (.app (some 1) (.va 0) 12
     (.both saleroomlaw36_RevealedParts_t0_b8 saleroomlaw36_RevealedParts_t0_b9))
def saleroomlaw36_RevealedParts_t0_b11 : PT :=
 (.app (some 1) (.va 0) 12
     (.app (some 3) (.va 2) 12
     (.call 15 [(.va 4)] [] [(.agg [.val, .val]), (.one .bool)]
     (.jump 1 [] [(.a 0), (.a 1), (.a 2)] [(.va 0)]))))
def saleroomlaw36_RevealedParts_t0_b12 : PT :=
 (.app none (.lit [[(.int .i64 (.a 1)), (.int .i64 (.a 2)), (.int .i64 (.a 3)), (.int .i64 (.a 4)), (.int .i64 (.a 5)), (.int .i64 (.a 6)), (.int .i64 (.a 7)), (.int .i64 (.a 8)), (.int .i64 (.a 9)), (.int .i64 (.a 10)), (.int .i64 (.a 11)), (.int .i64 (.a 12))]]) 12
    (.both saleroomlaw36_RevealedParts_t0_b10 saleroomlaw36_RevealedParts_t0_b11))
def saleroomlaw36_RevealedParts_t0_b13 : PT :=
 (.app (some 1) (.va 0) 12
     (.app none (.lit [[(.int .i64 (.a 1)), (.int .i64 (.a 2)), (.int .i64 (.a 3)), (.int .i64 (.a 4)), (.int .i64 (.a 5)), (.int .i64 (.a 6)), (.int .i64 (.a 7)), (.int .i64 (.a 8)), (.int .i64 (.a 9)), (.int .i64 (.a 10)), (.int .i64 (.a 11)), (.int .i64 (.a 12))]]) 12
     (.app (some 2) (.va 3) 12
     (.call 15 [(.va 4)] [] [(.agg [.val, .val]), (.one .bool)]
     (.jump 1 [] [(.a 0), (.a 1), (.a 2)] [(.va 0)])))))
def saleroomlaw36_RevealedParts_t0_b14 : PT :=
 (.app none (.lit [[(.int .i64 (.a 1)), (.int .i64 (.a 2)), (.int .i64 (.a 3)), (.int .i64 (.a 4)), (.int .i64 (.a 5)), (.int .i64 (.a 6)), (.int .i64 (.a 7)), (.int .i64 (.a 8)), (.int .i64 (.a 9)), (.int .i64 (.a 10)), (.int .i64 (.a 11)), (.int .i64 (.a 12))]]) 12
     (.app (some 1) (.va 0) 12
     (.app (some 3) (.va 2) 12
     (.call 15 [(.va 4)] [] [(.agg [.val, .val]), (.one .bool)]
     (.jump 1 [] [(.a 0), (.a 1), (.a 2)] [(.va 0)])))))
def saleroomlaw36_RevealedParts_t0_b15 : PT :=
 (.both saleroomlaw36_RevealedParts_t0_b13 saleroomlaw36_RevealedParts_t0_b14)
def saleroomlaw36_RevealedParts_t0_b16 : PT :=
 (.both saleroomlaw36_RevealedParts_t0_b12 saleroomlaw36_RevealedParts_t0_b15)
def saleroomlaw36_RevealedParts_t0_b17 : PT :=
 (.app none (.lit []) 12
  (.both saleroomlaw36_RevealedParts_t0_b6 saleroomlaw36_RevealedParts_t0_b16))
def saleroomlaw36_RevealedParts_t0_b18 : PT :=
 (.app (some 3) (.va 1) 12
      (.both saleroomlaw36_RevealedParts_t0_b7 saleroomlaw36_RevealedParts_t0_b7))
def saleroomlaw36_RevealedParts_t0_b19 : PT :=
 (.app (some 3) (.va 1) 12
      (.call 15 [(.va 4)] [] [(.agg [.val, .val]), (.one .bool)]
      (.jump 1 [] [(.a 0), (.a 1), (.a 2)] [(.va 0)])))
def saleroomlaw36_RevealedParts_t0_b20 : PT :=
 (.app (some 2) (.va 0) 12
     (.both saleroomlaw36_RevealedParts_t0_b18 saleroomlaw36_RevealedParts_t0_b19))
def saleroomlaw36_RevealedParts_t0_b21 : PT :=
 (.app (some 2) (.va 0) 12
     (.app (some 3) (.va 1) 12
     (.call 15 [(.va 4)] [] [(.agg [.val, .val]), (.one .bool)]
     (.jump 1 [] [(.a 0), (.a 1), (.a 2)] [(.va 0)]))))
def saleroomlaw36_RevealedParts_t0_b22 : PT :=
 (.app none (.lit []) 12
    (.both saleroomlaw36_RevealedParts_t0_b20 saleroomlaw36_RevealedParts_t0_b21))
def saleroomlaw36_RevealedParts_t0_b23 : PT :=
 (.app none (.lit []) 12
    (.app (some 2) (.va 0) 12
    (.app (some 3) (.va 1) 12
    (.call 15 [(.va 4)] [] [(.agg [.val, .val]), (.one .bool)]
    (.jump 1 [] [(.a 0), (.a 1), (.a 2)] [(.va 0)])))))
def saleroomlaw36_RevealedParts_t0_b24 : PT :=
 (.app none (.lit [[(.int .i64 (.a 1)), (.int .i64 (.a 2)), (.int .i64 (.a 3)), (.int .i64 (.a 4)), (.int .i64 (.a 5)), (.int .i64 (.a 6)), (.int .i64 (.a 7)), (.int .i64 (.a 8)), (.int .i64 (.a 9)), (.int .i64 (.a 10)), (.int .i64 (.a 11)), (.int .i64 (.a 12))]]) 12
   (.both saleroomlaw36_RevealedParts_t0_b22 saleroomlaw36_RevealedParts_t0_b23))
def saleroomlaw36_RevealedParts_t0_b25 : PT :=
 (.app none (.lit []) 12
    (.both saleroomlaw36_RevealedParts_t0_b13 saleroomlaw36_RevealedParts_t0_b14))
def saleroomlaw36_RevealedParts_t0_b26 : PT :=
 (.app none (.lit [[(.int .i64 (.a 1)), (.int .i64 (.a 2)), (.int .i64 (.a 3)), (.int .i64 (.a 4)), (.int .i64 (.a 5)), (.int .i64 (.a 6)), (.int .i64 (.a 7)), (.int .i64 (.a 8)), (.int .i64 (.a 9)), (.int .i64 (.a 10)), (.int .i64 (.a 11)), (.int .i64 (.a 12))]]) 12
    (.app none (.lit []) 12
    (.app (some 2) (.va 0) 12
    (.app (some 3) (.va 1) 12
    (.call 15 [(.va 4)] [] [(.agg [.val, .val]), (.one .bool)]
    (.jump 1 [] [(.a 0), (.a 1), (.a 2)] [(.va 0)]))))))
def saleroomlaw36_RevealedParts_t0_b27 : PT :=
 (.both saleroomlaw36_RevealedParts_t0_b25 saleroomlaw36_RevealedParts_t0_b26)
def saleroomlaw36_RevealedParts_t0_b28 : PT :=
 (.both saleroomlaw36_RevealedParts_t0_b24 saleroomlaw36_RevealedParts_t0_b27)
def saleroomlaw36_RevealedParts_t0 : PT :=
 (.need (.and (.le (.l 0) (.a 0)) (.lt (.a 0) (.slen 0)))
 (.load true (.ea 0 (.a 0) 12 0) [(.int .i64), (.int .i64), (.int .i64), (.int .i64), (.int .i64), (.int .i64), (.int .i64), (.int .i64), (.int .i64), (.int .i64), (.int .i64), (.int .i64)]
 (.both saleroomlaw36_RevealedParts_t0_b17 saleroomlaw36_RevealedParts_t0_b28)))
def saleroomlaw36_RevealedParts_t1 : PT :=
 (.need (.is 0 0)
 (.need (.and (.le (.l (-9223372036854775808)) (.sub (.slen 0) (.l 1))) (.le (.sub (.slen 0) (.l 1)) (.l 9223372036854775807)))
 (.jump 2 [(.sub (.slen 0) (.l 1))] [(.a 0), (.a 1), (.a 2)] [(.va 0), .nilS])))
def saleroomlaw36_RevealedParts_t2 : PT :=
 (.ite (.le (.l 0) (.a 0))
  (.need (.and (.le (.l 0) (.a 0)) (.lt (.a 0) (.slen 0)))
  (.load false (.ea 0 (.a 0) 12 0) [(.int .i64), (.int .i64), (.int .i64), (.int .i64), (.int .i64), (.int .i64), (.int .i64), (.int .i64), (.int .i64), (.int .i64), (.int .i64), (.int .i64)]
  (.app none (.lit [[(.int .i64 (.a 1)), (.int .i64 (.a 2)), (.int .i64 (.a 3)), (.int .i64 (.a 4)), (.int .i64 (.a 5)), (.int .i64 (.a 6)), (.int .i64 (.a 7)), (.int .i64 (.a 8)), (.int .i64 (.a 9)), (.int .i64 (.a 10)), (.int .i64 (.a 11)), (.int .i64 (.a 12))]]) 12
  (.app (some 1) (.va 2) 12
  (.need (.and (.le (.l (-9223372036854775808)) (.sub (.a 0) (.l 1))) (.le (.sub (.a 0) (.l 1)) (.l 9223372036854775807)))
  (.jump 2 [(.sub (.a 0) (.l 1))] [(.a 0), (.a 1), (.a 2)] [(.va 0), (.va 3)]))))))
  (.call 15 [(.va 1)] [] [(.agg [.val, .val]), (.one .bool)]
  (.ite (.not (.a 0))
   (.ite (.or (.and (.a 2) (.a 0)) (.and (.not (.a 2)) (.not (.a 0))))
    (.ite (.or (.and (.a 3) (.a 0)) (.and (.not (.a 3)) (.not (.a 0))))
     (.call 14 [] [] [(.one .bool)]
     (.ret false (.bool (.a 4)) []))
     (.ret false (.bool (.t false)) []))
    (.ret false (.bool (.t false)) []))
   (.ite (.a 1)
    (.ite (.or (.and (.a 2) (.a 0)) (.and (.not (.a 2)) (.not (.a 0))))
     (.ite (.or (.and (.a 3) (.a 0)) (.and (.not (.a 3)) (.not (.a 0))))
      (.call 14 [] [] [(.one .bool)]
      (.ret false (.bool (.a 4)) []))
      (.ret false (.bool (.t false)) []))
     (.ret false (.bool (.t false)) []))
    (.ret false (.bool (.t false)) [])))))
def saleroomlaw36_RevealedParts_S : Sx.Sys := ⟨[(.sh (.one .val)), (.sh (.one (.int .u8)))], saleroomlaw36_RevealedParts_s, [saleroomlaw36_RevealedParts_t0, saleroomlaw36_RevealedParts_t1, saleroomlaw36_RevealedParts_t2], none⟩
def saleroomlaw36_RevealedParts_pats : List Cfg := [{ todo := [(.code [false, true, true, true, true, true]), (.code [true, true, true, true, true, true])], sl := [(.va 0), (.junk 0), .undef, .undef, (.junk 1), (.int .i64 (.a 0)), (.junk 2), (.bool (.a 0)), (.junk 3), (.bool (.a 1)), .undef, .undef, .undef, .undef, .undef, .undef, (.junk 4), (.junk 5), (.junk 6), (.junk 7), (.junk 8), (.junk 9), (.junk 10), (.junk 11), .undef, (.junk 12), (.junk 13), (.junk 14), (.junk 15), (.junk 16), (.junk 17), (.junk 18), (.junk 19), (.junk 20), (.junk 21), (.junk 22), (.junk 23), (.junk 24), (.junk 25), (.junk 26), (.junk 27), (.junk 28), (.junk 29), (.junk 30), (.junk 31), (.junk 32), (.junk 33), (.junk 34), (.junk 35), .undef, .undef, .undef, .undef, .undef, .undef, .undef, .undef, .undef, .undef, .undef, .undef, .undef, .undef, .undef, .undef, .undef, .undef, .undef, .undef, .undef, .undef, .undef, .undef, .undef, .undef, .undef, .undef, .undef, .undef, .undef, .undef, .undef, .undef, .undef, .undef, .undef, .undef, .undef, .undef, .undef, .undef, .undef, .undef, .undef, .undef, .undef, .undef, .undef, .undef], H := [], ni := 1, nb := 2, nv := 1, nj := 36 },
 { todo := [(.code [false, true, true, true, true, true, true]), (.code [true, true, true, true, true, true, true])], sl := [(.va 0), (.junk 0), .undef, .undef, (.junk 1), (.junk 2), (.junk 3), (.bool (.a 0)), (.junk 4), (.bool (.a 1)), (.junk 5), (.bool (.a 2)), .undef, .undef, .undef, .undef, (.junk 6), (.junk 7), (.junk 8), (.junk 9), (.junk 10), (.junk 11), (.junk 12), (.junk 13), .undef, (.junk 14), (.junk 15), (.junk 16), (.junk 17), (.junk 18), (.junk 19), (.junk 20), (.junk 21), (.junk 22), (.junk 23), (.junk 24), (.junk 25), (.junk 26), (.junk 27), (.junk 28), (.junk 29), (.junk 30), (.junk 31), (.junk 32), (.junk 33), (.junk 34), (.junk 35), (.junk 36), (.junk 37), (.junk 38), (.junk 39), (.junk 40), (.junk 41), (.junk 42), (.junk 43), (.junk 44), (.junk 45), (.junk 46), (.junk 47), (.junk 48), (.junk 49), (.junk 50), .undef, .undef, .undef, .undef, .undef, .undef, .undef, .undef, .undef, .undef, .undef, .undef, .undef, .undef, .undef, .undef, .undef, .undef, .undef, .undef, .undef, .undef, .undef, .undef, .undef, .undef, .undef, .undef, .undef, .undef, .undef, .undef, .undef, .undef, .undef, .undef, .undef], H := [], ni := 0, nb := 3, nv := 1, nj := 51 },
 { todo := [(.code [false, false, true, false, true, true, true, true, true, true, true]), (.inLoop [false, false, true, false, true, true, true, true, true, true, true]), (.inBlock 0), (.code [true, true, true, true, true, true, true, true])], sl := [(.va 0), (.junk 0), .undef, .undef, (.junk 1), (.junk 2), (.junk 3), (.bool (.a 0)), (.junk 4), (.bool (.a 1)), (.junk 5), (.bool (.a 2)), (.va 1), (.int .i64 (.a 0)), .undef, .undef, (.junk 6), (.junk 7), (.junk 8), (.junk 9), (.junk 10), (.junk 11), (.junk 12), (.junk 13), .undef, (.junk 14), (.junk 15), (.junk 16), (.junk 17), (.junk 18), (.junk 19), (.junk 20), (.junk 21), (.junk 22), (.junk 23), (.junk 24), (.junk 25), (.junk 26), (.junk 27), (.junk 28), (.junk 29), (.junk 30), (.junk 31), (.junk 32), (.junk 33), (.junk 34), (.junk 35), (.junk 36), (.junk 37), (.junk 38), (.junk 39), (.junk 40), (.junk 41), (.junk 42), (.junk 43), (.junk 44), (.junk 45), (.junk 46), (.junk 47), (.junk 48), (.junk 49), (.junk 50), (.junk 51), (.junk 52), (.junk 53), (.junk 54), (.junk 55), (.junk 56), (.junk 57), (.junk 58), (.junk 59), (.junk 60), (.junk 61), (.junk 62), (.junk 63), (.junk 64), .undef, .undef, .undef, .undef, .undef, .undef, .undef, .undef, .undef, .undef, .undef, .undef, .undef, .undef, .undef, .undef, .undef, .undef, .undef, .undef, .undef, .undef, .undef], H := [(.row 1 44 12)], ni := 1, nb := 3, nv := 2, nj := 65 }]
theorem saleroomlaw36_RevealedParts_ok : SysOk Try.prog 7 saleroomlaw36_RevealedParts_S := sys_ok (c := (cg [[false, false, true, false, true, true, true, true, true, true, true]] [] [] false false false true [[true, true, true, true, true], [true, true, true, true, true, true]])) (progOkG _ _ _ _ _ _ _ _) Try.func7 Try.call7 (by kernel_rfl) saleroomlaw36_RevealedParts_pats saleroomlaw36_RevealedParts_S 5000 rfl (by kernel_rfl) (by kernel_rfl) rfl
def revealed_Check_s : PT :=
 (.call 39 [(.va 0)] [] [(.one .bool)]
 (.ite (.not (.a 0))
  (.ret false (.tup [(.agg [.nilS, .nilS]), (.bool (.t false))]) [])
  (.call 40 [(.va 0)] [] [(.one .val), (.one .val)]
  (.need (.is 0 2)
  (.ite (.not (.nil 2))
   (.ret false (.tup [(.agg [(.va 2), .nilS]), (.bool (.t false))]) [])
   (.need (.is 0 0)
   (.jump 0 [(.l 0), (.slen 0), (.l 0)] [] [(.va 0), (.va 1)])))))))
def revealed_Check_t0_b1 : PT :=
 (.call 41 [(.agg [(.int .i64 (.a 3)), (.int .i64 (.a 4)), (.int .i64 (.a 5)), (.int .i64 (.a 6)), (.int .i64 (.a 7)), (.int .i64 (.a 8))]), (.agg [(.int .i64 (.a 9)), (.int .i64 (.a 10)), (.int .i64 (.a 11)), (.int .i64 (.a 12)), (.int .i64 (.a 13)), (.int .i64 (.a 14))])] [] [(.one (.int .i64))]
   (.load false (.ea 1 (.a 2) 1 0) [(.int .i64)]
   (.need (.and (.le (.l (-9223372036854775808)) (.sub (.a 15) (.a 16))) (.le (.sub (.a 15) (.a 16)) (.l 9223372036854775807)))
   (.need (.and (.le (.l (-9223372036854775808)) (.add (.a 2) (.l 1))) (.le (.add (.a 2) (.l 1)) (.l 9223372036854775807)))
   (.jump 0 [(.mx (.a 0) (.sub (.a 15) (.a 16))), (.a 1), (.add (.a 2) (.l 1))] [] [(.va 0), (.va 1)])))))
def revealed_Check_t0_b2 : PT :=
 (.load false (.ea 1 (.a 2) 1 0) [(.int .i64)]
   (.call 41 [(.agg [(.int .i64 (.a 3)), (.int .i64 (.a 4)), (.int .i64 (.a 5)), (.int .i64 (.a 6)), (.int .i64 (.a 7)), (.int .i64 (.a 8))]), (.agg [(.int .i64 (.a 9)), (.int .i64 (.a 10)), (.int .i64 (.a 11)), (.int .i64 (.a 12)), (.int .i64 (.a 13)), (.int .i64 (.a 14))])] [] [(.one (.int .i64))]
   (.need (.and (.le (.l (-9223372036854775808)) (.sub (.a 16) (.a 15))) (.le (.sub (.a 16) (.a 15)) (.l 9223372036854775807)))
   (.need (.and (.le (.l (-9223372036854775808)) (.add (.a 2) (.l 1))) (.le (.add (.a 2) (.l 1)) (.l 9223372036854775807)))
   (.jump 0 [(.mx (.a 0) (.sub (.a 16) (.a 15))), (.a 1), (.add (.a 2) (.l 1))] [] [(.va 0), (.va 1)])))))
def revealed_Check_t0 : PT :=
 (.ite (.lt (.a 2) (.a 1))
  (.need (.and (.le (.l 0) (.a 2)) (.lt (.a 2) (.slen 0)))
  (.load false (.ea 0 (.a 2) 12 0) [(.int .i64), (.int .i64), (.int .i64), (.int .i64), (.int .i64), (.int .i64), (.int .i64), (.int .i64), (.int .i64), (.int .i64), (.int .i64), (.int .i64)]
  (.need (.and (.le (.l 0) (.a 2)) (.lt (.a 2) (.slen 1)))
  (.both revealed_Check_t0_b1 revealed_Check_t0_b2))))
  (.need (.is 0 0)
  (.jump 1 [(.a 0), (.slen 0), (.l 0)] [] [(.va 1), (.va 0)])))
def revealed_Check_t1 : PT :=
 (.ite (.lt (.a 2) (.a 1))
  (.need (.and (.le (.l 0) (.a 2)) (.lt (.a 2) (.slen 1)))
  (.load false (.ea 1 (.a 2) 12 0) [(.int .i64), (.int .i64), (.int .i64), (.int .i64), (.int .i64), (.int .i64), (.int .i64), (.int .i64), (.int .i64), (.int .i64), (.int .i64), (.int .i64)]
  (.ite (.and (.eq (.a 9) (.l 0)) (.and (.eq (.a 10) (.l 0)) (.and (.eq (.a 11) (.l 0)) (.and (.eq (.a 12) (.l 0)) (.and (.eq (.a 13) (.l 0)) (.eq (.a 14) (.l 0)))))))
   (.need (.and (.le (.l 0) (.a 2)) (.lt (.a 2) (.slen 0)))
   (.load false (.ea 0 (.a 2) 1 0) [(.int .i64)]
   (.need (.and (.le (.l (-9223372036854775808)) (.sub (.l 0) (.a 15))) (.le (.sub (.l 0) (.a 15)) (.l 9223372036854775807)))
   (.need (.and (.le (.l (-9223372036854775808)) (.add (.a 2) (.l 1))) (.le (.add (.a 2) (.l 1)) (.l 9223372036854775807)))
   (.jump 1 [(.sub (.l 0) (.a 15)), (.a 1), (.add (.a 2) (.l 1))] [] [(.va 0), (.va 1)])))))
   (.need (.and (.le (.l (-9223372036854775808)) (.add (.a 2) (.l 1))) (.le (.add (.a 2) (.l 1)) (.l 9223372036854775807)))
   (.jump 1 [(.a 0), (.a 1), (.add (.a 2) (.l 1))] [] [(.va 0), (.va 1)])))))
  (.need (.is 0 0)
  (.jump 2 [(.a 0), (.slen 0), (.l 0)] [] [(.va 0)])))
def revealed_Check_t2 : PT :=
 (.ite (.lt (.a 2) (.a 1))
  (.need (.and (.le (.l 0) (.a 2)) (.lt (.a 2) (.slen 0)))
  (.load false (.ea 0 (.a 2) 1 0) [(.int .i64)]
  (.need (.and (.le (.l (-9223372036854775808)) (.add (.a 3) (.a 0))) (.le (.add (.a 3) (.a 0)) (.l 9223372036854775807)))
  (.need (.and (.le (.l 0) (.a 2)) (.lt (.a 2) (.slen 0)))
  (.storeM (.ea 0 (.a 2) 1 0) [(.int .i64 (.add (.a 3) (.a 0)))]
  (.need (.and (.le (.l (-9223372036854775808)) (.add (.a 2) (.l 1))) (.le (.add (.a 2) (.l 1)) (.l 9223372036854775807)))
  (.jump 2 [(.a 0), (.a 1), (.add (.a 2) (.l 1))] [] [(.va 0)])))))))
  (.ret false (.tup [(.agg [.nilS, (.va 0)]), (.bool (.t true))]) []))
def revealed_Check_S : Sx.Sys := ⟨[(.sh (.one .val))], revealed_Check_s, [revealed_Check_t0, revealed_Check_t1, revealed_Check_t2], none⟩
def revealed_Check_pats : List Cfg := [{ todo := [(.code [false, false, true, false, true, true, true, true, true]), (.inLoop [false, false, true, false, true, true, true, true, true]), (.inBlock 0), (.code [true, true, true, true, true, true])], sl := [(.va 0), .undef, (.ptr 0 0), (.junk 0), (.va 1), (.junk 1), (.int .i64 (.a 0)), (.junk 2), (.junk 3), .undef, .undef, .undef, (.junk 4), (.junk 5), (.junk 6), .undef, (.junk 7), (.junk 8), (.junk 9), (.junk 10), (.junk 11), (.junk 12), (.junk 13), .undef, .undef, (.va 0), (.int .i64 (.a 1)), (.int .i64 (.a 2)), (.junk 14), (.junk 15), (.junk 16), (.junk 17), (.junk 18), (.junk 19), (.junk 20), (.junk 21), (.junk 22), (.junk 23), (.junk 24), (.junk 25), (.junk 26), (.junk 27), (.junk 28), (.junk 29), (.junk 30), .undef, .undef, .undef, .undef, .undef, .undef, .undef, .undef, .undef, .undef, .undef, .undef, .undef, .undef, .undef, .undef, .undef, .undef, .undef, .undef, .undef, .undef, .undef, .undef, .undef, .undef, .undef, .undef, .undef, .undef, .undef, .undef], H := [(.cells [.nilS, .nilS] 27 false)], ni := 3, nb := 0, nv := 2, nj := 31 },
 { todo := [(.code [false, false, true, false, true, true, true, true, true, true]), (.inLoop [false, false, true, false, true, true, true, true, true, true]), (.inBlock 2), (.code [true, true, true, true, true, true, true])], sl := [(.junk 0), .undef, (.ptr 0 0), (.junk 1), (.va 0), (.junk 2), (.int .i64 (.a 0)), (.junk 3), (.junk 4), (.junk 5), (.junk 6), .undef, (.junk 7), (.junk 8), (.junk 9), .undef, (.junk 10), (.junk 11), (.junk 12), (.junk 13), (.junk 14), (.junk 15), (.junk 16), .undef, .undef, (.junk 17), (.junk 18), (.junk 19), (.junk 20), (.junk 21), (.junk 22), (.junk 23), (.junk 24), (.junk 25), (.junk 26), (.junk 27), (.junk 28), (.junk 29), (.junk 30), (.junk 31), (.junk 32), (.junk 33), (.junk 34), (.junk 35), (.junk 36), (.va 1), (.int .i64 (.a 1)), (.int .i64 (.a 2)), (.junk 37), (.junk 38), (.junk 39), (.junk 40), (.junk 41), (.junk 42), (.junk 43), (.junk 44), (.junk 45), (.junk 46), (.junk 47), (.junk 48), (.junk 49), (.junk 50), .undef, .undef, .undef, .undef, .undef, .undef, .undef, .undef, .undef, .undef, .undef, .undef, .undef, .undef, .undef], H := [(.cells [.nilS, .nilS] 27 false)], ni := 3, nb := 0, nv := 2, nj := 51 },
 { todo := [(.code [false, false, true, false, true, true, true, true, true, true, true]), (.inLoop [false, false, true, false, true, true, true, true, true, true, true]), (.inBlock 4), (.code [true, true, true, true, true, true, true, true])], sl := [(.junk 0), .undef, (.ptr 0 0), (.junk 1), (.va 0), (.junk 2), (.int .i64 (.a 0)), (.junk 3), (.junk 4), (.junk 5), (.junk 6), (.junk 7), (.junk 8), (.junk 9), (.junk 10), .undef, (.junk 11), (.junk 12), (.junk 13), (.junk 14), (.junk 15), (.junk 16), (.junk 17), .undef, .undef, (.junk 18), (.junk 19), (.junk 20), (.junk 21), (.junk 22), (.junk 23), (.junk 24), (.junk 25), (.junk 26), (.junk 27), (.junk 28), (.junk 29), (.junk 30), (.junk 31), (.junk 32), (.junk 33), (.junk 34), (.junk 35), (.junk 36), (.junk 37), (.junk 38), (.junk 39), (.junk 40), (.junk 41), (.junk 42), (.junk 43), (.junk 44), (.junk 45), (.junk 46), (.junk 47), (.junk 48), (.junk 49), (.junk 50), (.junk 51), (.junk 52), (.junk 53), (.junk 54), (.junk 55), (.int .i64 (.a 1)), (.int .i64 (.a 2)), (.junk 56), (.junk 57), (.junk 58), (.junk 59), (.junk 60), (.junk 61), (.junk 62), (.junk 63), (.junk 64), (.junk 65), .undef, .undef], H := [(.cells [.nilS, .nilS] 27 false)], ni := 3, nb := 0, nv := 1, nj := 66 }]
theorem revealed_Check_ok : SysOk Try.prog 15 revealed_Check_S := sys_ok (c := (cg [[false, false, true, false, true, true, true, true, true], [false, false, true, false, true, true, true, true, true, true], [false, false, true, false, true, true, true, true, true, true, true]] [] [] true false false true)) (progOkG _ _ _ _ _ _ _ _) Try.func15 Try.call15 (by kernel_rfl) revealed_Check_pats revealed_Check_S 5000 rfl (by kernel_rfl) (by kernel_rfl) rfl
def saleroomref37_Moderate_s : PT :=
 (.need (.is 0 0)
 (.ite (.lt (.l 30) (.slen 0))
  (.ret false (.bool (.t false)) [])
  (.jump 0 [(.l 0)] [] [(.va 0)])))
def saleroomref37_Moderate_t0 : PT :=
 (.need (.is 0 0)
 (.ite (.lt (.a 0) (.slen 0))
  (.need (.and (.le (.l 0) (.a 0)) (.lt (.a 0) (.slen 0)))
  (.load false (.ea 0 (.a 0) 12 6) [(.int .i64), (.int .i64), (.int .i64), (.int .i64), (.int .i64), (.int .i64)]
  (.call 35 [(.agg [(.int .i64 (.a 1)), (.int .i64 (.a 2)), (.int .i64 (.a 3)), (.int .i64 (.a 4)), (.int .i64 (.a 5)), (.int .i64 (.a 6))])] [] [(.one (.int .i64))]
  (.ite (.not (.eq (.a 7) (.l 0)))
   (.ret false (.bool (.t false)) [])
   (.need (.and (.le (.l 0) (.a 0)) (.lt (.a 0) (.slen 0)))
   (.load false (.ea 0 (.a 0) 12 0) [(.int .i64)]
   (.ite (.lt (.a 8) (.l 0))
    (.ret false (.bool (.t false)) [])
    (.need (.and (.le (.l 0) (.a 0)) (.lt (.a 0) (.slen 0)))
    (.load false (.ea 0 (.a 0) 12 0) [(.int .i64)]
    (.ite (.lt (.l 1000000) (.a 9))
     (.ret false (.bool (.t false)) [])
     (.need (.and (.le (.l 0) (.a 0)) (.lt (.a 0) (.slen 0)))
     (.load false (.ea 0 (.a 0) 12 1) [(.int .i64)]
     (.ite (.lt (.a 10) (.l 0))
      (.ret false (.bool (.t false)) [])
      (.need (.and (.le (.l 0) (.a 0)) (.lt (.a 0) (.slen 0)))
      (.load false (.ea 0 (.a 0) 12 1) [(.int .i64)]
      (.ite (.lt (.l 1000000) (.a 11))
       (.ret false (.bool (.t false)) [])
       (.need (.and (.le (.l 0) (.a 0)) (.lt (.a 0) (.slen 0)))
       (.load false (.ea 0 (.a 0) 12 2) [(.int .i64)]
       (.ite (.lt (.a 12) (.l 0))
        (.ret false (.bool (.t false)) [])
        (.need (.and (.le (.l 0) (.a 0)) (.lt (.a 0) (.slen 0)))
        (.load false (.ea 0 (.a 0) 12 2) [(.int .i64)]
        (.ite (.lt (.l 1000000) (.a 13))
         (.ret false (.bool (.t false)) [])
         (.need (.and (.le (.l 0) (.a 0)) (.lt (.a 0) (.slen 0)))
         (.load false (.ea 0 (.a 0) 12 3) [(.int .i64)]
         (.ite (.lt (.a 14) (.l 0))
          (.ret false (.bool (.t false)) [])
          (.need (.and (.le (.l 0) (.a 0)) (.lt (.a 0) (.slen 0)))
          (.load false (.ea 0 (.a 0) 12 3) [(.int .i64)]
          (.ite (.lt (.l 1000000) (.a 15))
           (.ret false (.bool (.t false)) [])
           (.need (.and (.le (.l 0) (.a 0)) (.lt (.a 0) (.slen 0)))
           (.load false (.ea 0 (.a 0) 12 4) [(.int .i64)]
           (.ite (.lt (.a 16) (.l 0))
            (.ret false (.bool (.t false)) [])
            (.need (.and (.le (.l 0) (.a 0)) (.lt (.a 0) (.slen 0)))
            (.load false (.ea 0 (.a 0) 12 4) [(.int .i64)]
            (.ite (.lt (.l 1000000) (.a 17))
             (.ret false (.bool (.t false)) [])
             (.need (.and (.le (.l 0) (.a 0)) (.lt (.a 0) (.slen 0)))
             (.load false (.ea 0 (.a 0) 12 5) [(.int .i64)]
             (.ite (.lt (.a 18) (.l 0))
              (.ret false (.bool (.t false)) [])
              (.need (.and (.le (.l 0) (.a 0)) (.lt (.a 0) (.slen 0)))
              (.load false (.ea 0 (.a 0) 12 5) [(.int .i64)]
              (.ite (.lt (.l 1000000) (.a 19))
               (.ret false (.bool (.t false)) [])
               (.need (.and (.le (.l (-9223372036854775808)) (.add (.a 0) (.l 1))) (.le (.add (.a 0) (.l 1)) (.l 9223372036854775807)))
               (.jump 0 [(.add (.a 0) (.l 1))] [] [(.va 0)]))))))))))))))))))))))))))))))))))))))))))
  (.ret false (.bool (.t true)) [])))
def saleroomref37_Moderate_S : Sx.Sys := ⟨[(.sh (.one .val))], saleroomref37_Moderate_s, [saleroomref37_Moderate_t0], none⟩
def saleroomref37_Moderate_pats : List Cfg := [{ todo := [(.code [false, false, true, false, true, true]), (.inLoop [false, false, true, false, true, true]), (.inBlock 0), (.code [true, true, true])], sl := [(.va 0), .undef, (.junk 0), (.int .i64 (.a 0)), (.junk 1), (.junk 2), (.junk 3), (.junk 4), (.junk 5), (.junk 6), (.junk 7), (.junk 8), (.junk 9), (.junk 10), (.junk 11), (.junk 12), (.junk 13), (.junk 14), (.junk 15), (.junk 16), (.junk 17), (.junk 18), (.junk 19), (.junk 20), (.junk 21), (.junk 22), (.junk 23), (.junk 24), (.junk 25), (.junk 26), (.junk 27), (.junk 28), (.junk 29), (.junk 30), (.junk 31), (.junk 32), (.junk 33), (.junk 34), (.junk 35), (.junk 36), (.junk 37), (.junk 38), (.junk 39)], H := [], ni := 1, nb := 0, nv := 1, nj := 40 }]
theorem saleroomref37_Moderate_ok : SysOk Try.prog 23 saleroomref37_Moderate_S := sys_ok (c := (cg [[false, false, true, false, true, true]] [] [] false false false true)) (progOkG _ _ _ _ _ _ _ _) Try.func23 Try.call23 (by kernel_rfl) saleroomref37_Moderate_pats saleroomref37_Moderate_S 5000 rfl (by kernel_rfl) (by kernel_rfl) rfl
def activity_Affordable_s : PT :=
 (.call 54 [(.agg [(.va 0), (.va 1), (.va 2), (.va 3)]), (.int .i64 (.a 0))] [] [(.one .bool)]
 (.ite (.not (.a 0))
  (.ret false (.int .i64 (.l 6)) [])
  (.need (.and (.le (.l 0) (.a 0)) (.lt (.a 0) (.slen 1)))
  (.load false (.ea 1 (.a 0) 4 2) [(.int .i64)]
  (.ite (.not (.eq (.a 13) (.l 0)))
   (.call 41 [(.agg [(.int .i64 (.a 1)), (.int .i64 (.a 2)), (.int .i64 (.a 3)), (.int .i64 (.a 4)), (.int .i64 (.a 5)), (.int .i64 (.a 6))]), (.agg [(.int .i64 (.a 7)), (.int .i64 (.a 8)), (.int .i64 (.a 9)), (.int .i64 (.a 10)), (.int .i64 (.a 11)), (.int .i64 (.a 12))])] [] [(.one (.int .i64))]
   (.ite (.lt (.a 13) (.a 14))
    (.ret false (.int .i64 (.l 17)) [])
    (.ret false (.int .i64 (.l 0)) [])))
   (.ret false (.int .i64 (.l 0)) []))))))
def activity_Affordable_S : Sx.Sys := ⟨[(.sh (.agg [.val, .val, .val, .val])), (.sh (.one (.int .i64))), (.sh (.agg [(.int .i64), (.int .i64), (.int .i64), (.int .i64), (.int .i64), (.int .i64), (.int .i64), (.int .i64), (.int .i64), (.int .i64), (.int .i64), (.int .i64)]))], activity_Affordable_s, [], none⟩
def activity_Affordable_pats : List Cfg := []
theorem activity_Affordable_ok : SysOk Try.prog 31 activity_Affordable_S := sys_ok (c := (cg [] [] [] false false false true)) (progOkG _ _ _ _ _ _ _ _) Try.func31 Try.call31 (by kernel_rfl) activity_Affordable_pats activity_Affordable_S 5000 rfl (by kernel_rfl) (by kernel_rfl) rfl
def revealed_allValid_s : PT :=
 (.need (.is 0 0)
 (.jump 0 [(.slen 0), (.l 0)] [] [(.va 0)]))
def revealed_allValid_t0 : PT :=
 (.ite (.lt (.a 1) (.a 0))
  (.need (.and (.le (.l 0) (.a 1)) (.lt (.a 1) (.slen 0)))
  (.load false (.ea 0 (.a 1) 12 0) [(.int .i64), (.int .i64), (.int .i64), (.int .i64), (.int .i64), (.int .i64), (.int .i64), (.int .i64), (.int .i64), (.int .i64), (.int .i64), (.int .i64)]
  (.call 49 [(.agg [(.int .i64 (.a 2)), (.int .i64 (.a 3)), (.int .i64 (.a 4)), (.int .i64 (.a 5)), (.int .i64 (.a 6)), (.int .i64 (.a 7)), (.int .i64 (.a 8)), (.int .i64 (.a 9)), (.int .i64 (.a 10)), (.int .i64 (.a 11)), (.int .i64 (.a 12)), (.int .i64 (.a 13))])] [] [(.one .bool)]
  (.ite (.not (.a 0))
   (.ret false (.bool (.t false)) [])
   (.need (.and (.le (.l (-9223372036854775808)) (.add (.a 1) (.l 1))) (.le (.add (.a 1) (.l 1)) (.l 9223372036854775807)))
   (.jump 0 [(.a 0), (.add (.a 1) (.l 1))] [] [(.va 0)]))))))
  (.ret false (.bool (.t true)) []))
def revealed_allValid_S : Sx.Sys := ⟨[(.sh (.one .val))], revealed_allValid_s, [revealed_allValid_t0], none⟩
def revealed_allValid_pats : List Cfg := [{ todo := [(.code [false, false, true, false, true]), (.inLoop [false, false, true, false, true]), (.inBlock 0), (.code [true, true])], sl := [(.junk 0), .undef, (.junk 1), .undef, (.junk 2), (.va 0), (.int .i64 (.a 0)), (.int .i64 (.a 1)), (.junk 3), (.junk 4), (.junk 5), (.junk 6), (.junk 7), (.junk 8), (.junk 9)], H := [], ni := 2, nb := 0, nv := 1, nj := 10 }]
theorem revealed_allValid_ok : SysOk Try.prog 39 revealed_allValid_S := sys_ok (c := (cg [[false, false, true, false, true]] [] [] false false false true)) (progOkG _ _ _ _ _ _ _ _) Try.func39 Try.call39 (by kernel_rfl) revealed_allValid_pats revealed_allValid_S 5000 rfl (by kernel_rfl) (by kernel_rfl) rfl
def revealed_explains_s : PT :=
 (.need (.is 0 1)
 (.need (.is 0 0)
 (.ite (.not (.eq (.slen 1) (.slen 0)))
  (.ret false (.bool (.t false)) [])
  (.need (.is 0 0)
  (.jump 0 [(.slen 0), (.l 0)] [] [(.va 0), (.va 1)])))))
def revealed_explains_t0 : PT :=
 (.ite (.lt (.a 1) (.a 0))
  (.need (.and (.le (.l 0) (.a 1)) (.lt (.a 1) (.slen 0)))
  (.load false (.ea 0 (.a 1) 12 0) [(.int .i64), (.int .i64), (.int .i64), (.int .i64), (.int .i64), (.int .i64), (.int .i64), (.int .i64), (.int .i64), (.int .i64), (.int .i64), (.int .i64)]
  (.need (.and (.le (.l 0) (.a 1)) (.lt (.a 1) (.slen 1)))
  (.load true (.ea 1 (.a 1) 1 0) [(.int .i64)]
  (.call 41 [(.agg [(.int .i64 (.a 2)), (.int .i64 (.a 3)), (.int .i64 (.a 4)), (.int .i64 (.a 5)), (.int .i64 (.a 6)), (.int .i64 (.a 7))]), (.agg [(.int .i64 (.a 8)), (.int .i64 (.a 9)), (.int .i64 (.a 10)), (.int .i64 (.a 11)), (.int .i64 (.a 12)), (.int .i64 (.a 13))])] [] [(.one (.int .i64))]
  (.ite (.lt (.a 14) (.a 15))
   (.ret false (.bool (.t false)) [])
   (.ite (.and (.eq (.a 8) (.l 0)) (.and (.eq (.a 9) (.l 0)) (.and (.eq (.a 10) (.l 0)) (.and (.eq (.a 11) (.l 0)) (.and (.eq (.a 12) (.l 0)) (.eq (.a 13) (.l 0)))))))
    (.need (.and (.le (.l 0) (.a 1)) (.lt (.a 1) (.slen 1)))
    (.load true (.ea 1 (.a 1) 1 0) [(.int .i64)]
    (.ite (.not (.eq (.a 16) (.l 0)))
     (.ret false (.bool (.t false)) [])
     (.need (.is 0 0)
     (.jump 1 [(.a 1), (.a 0), (.a 8), (.a 9), (.a 10), (.a 11), (.a 12), (.a 13), (.slen 0), (.l 0), (.a 2), (.a 3), (.a 4), (.a 5), (.a 6), (.a 7)] [(.and (.eq (.a 8) (.l 0)) (.and (.eq (.a 9) (.l 0)) (.and (.eq (.a 10) (.l 0)) (.and (.eq (.a 11) (.l 0)) (.and (.eq (.a 12) (.l 0)) (.eq (.a 13) (.l 0))))))), (.t true), (.not (.eq (.a 16) (.l 0)))] [(.va 0), (.va 1)])))))
    (.need (.is 0 0)
    (.jump 1 [(.a 1), (.a 0), (.a 8), (.a 9), (.a 10), (.a 11), (.a 12), (.a 13), (.slen 0), (.l 0), (.a 2), (.a 3), (.a 4), (.a 5), (.a 6), (.a 7)] [(.and (.eq (.a 8) (.l 0)) (.and (.eq (.a 9) (.l 0)) (.and (.eq (.a 10) (.l 0)) (.and (.eq (.a 11) (.l 0)) (.and (.eq (.a 12) (.l 0)) (.eq (.a 13) (.l 0))))))), (.t false), (.t false)] [(.va 0), (.va 1)])))))))))
  (.ret false (.bool (.t true)) []))
def revealed_explains_t1 : PT :=
 (.ite (.lt (.a 9) (.a 8))
  (.need (.and (.le (.l 0) (.a 9)) (.lt (.a 9) (.slen 0)))
  (.load false (.ea 0 (.a 9) 12 0) [(.int .i64), (.int .i64), (.int .i64), (.int .i64), (.int .i64), (.int .i64), (.int .i64), (.int .i64), (.int .i64), (.int .i64), (.int .i64), (.int .i64)]
  (.need (.and (.le (.l 0) (.a 9)) (.lt (.a 9) (.slen 1)))
  (.need (.and (.le (.l 0) (.a 0)) (.lt (.a 0) (.slen 1)))
  (.load true (.ea 1 (.a 9) 1 0) [(.int .i64)]
  (.load true (.ea 1 (.a 0) 1 0) [(.int .i64)]
  (.need (.and (.le (.l (-9223372036854775808)) (.sub (.a 28) (.a 29))) (.le (.sub (.a 28) (.a 29)) (.l 9223372036854775807)))
  (.call 48 [(.agg [(.int .i64 (.a 10)), (.int .i64 (.a 11)), (.int .i64 (.a 12)), (.int .i64 (.a 13)), (.int .i64 (.a 14)), (.int .i64 (.a 15)), (.int .i64 (.a 2)), (.int .i64 (.a 3)), (.int .i64 (.a 4)), (.int .i64 (.a 5)), (.int .i64 (.a 6)), (.int .i64 (.a 7))]), (.agg [(.int .i64 (.a 16)), (.int .i64 (.a 17)), (.int .i64 (.a 18)), (.int .i64 (.a 19)), (.int .i64 (.a 20)), (.int .i64 (.a 21)), (.int .i64 (.a 22)), (.int .i64 (.a 23)), (.int .i64 (.a 24)), (.int .i64 (.a 25)), (.int .i64 (.a 26)), (.int .i64 (.a 27))])] [] [(.one (.int .i64))]
  (.ite (.lt (.a 30) (.sub (.a 28) (.a 29)))
   (.ret false (.bool (.t false)) [])
   (.need (.and (.le (.l (-9223372036854775808)) (.add (.a 9) (.l 1))) (.le (.add (.a 9) (.l 1)) (.l 9223372036854775807)))
   (.jump 1 [(.a 0), (.a 1), (.a 2), (.a 3), (.a 4), (.a 5), (.a 6), (.a 7), (.a 8), (.add (.a 9) (.l 1)), (.a 10), (.a 11), (.a 12), (.a 13), (.a 14), (.a 15)] [(.a 0), (.a 1), (.a 2)] [(.va 0), (.va 1)])))))))))))
  (.need (.and (.le (.l (-9223372036854775808)) (.add (.a 0) (.l 1))) (.le (.add (.a 0) (.l 1)) (.l 9223372036854775807)))
  (.jump 0 [(.a 1), (.add (.a 0) (.l 1))] [] [(.va 0), (.va 1)])))
def revealed_explains_S : Sx.Sys := ⟨[(.sh (.one .val)), (.sh (.one .val))], revealed_explains_s, [revealed_explains_t0, revealed_explains_t1], none⟩
def revealed_explains_pats : List Cfg := [{ todo := [(.code [false, false, true, false, true, true]), (.inLoop [false, false, true, false, true, true]), (.inBlock 0), (.code [true, true, true])], sl := [(.va 0), (.va 1), .undef, .undef, (.junk 0), (.junk 1), (.junk 2), (.junk 3), (.junk 4), (.junk 5), (.junk 6), (.junk 7), (.junk 8), (.junk 9), (.va 0), (.int .i64 (.a 0)), (.int .i64 (.a 1)), (.junk 10), (.junk 11), (.junk 12), (.junk 13), (.junk 14), (.junk 15), (.junk 16), (.junk 17), (.junk 18), (.junk 19), (.junk 20), (.junk 21), (.junk 22), (.junk 23), (.junk 24), (.junk 25), (.junk 26), (.junk 27), (.junk 28), (.junk 29), (.junk 30), (.junk 31), (.junk 32), (.junk 33), (.junk 34), (.junk 35), (.junk 36), (.junk 37), (.junk 38), (.junk 39), (.junk 40), (.junk 41), (.junk 42), (.junk 43), (.junk 44), (.junk 45), (.junk 46), (.junk 47), (.junk 48), (.junk 49), (.junk 50), (.junk 51), (.junk 52), (.junk 53), (.junk 54), (.junk 55), (.junk 56), (.junk 57), (.junk 58)], H := [], ni := 2, nb := 0, nv := 2, nj := 59 },
 { todo := [(.code [false, false, true, true, true, false, false, true, true, false, false, true, false, true, true]), (.inLoop [false, false, true, true, true, false, false, true, true, false, false, true, false, true, true]), (.inBlock 2), (.inBlock 1), (.code [true, true, true, false, false, true, false, true, true]), (.inLoop [false, false, true, false, true, true]), (.inBlock 0), (.code [true, true, true])], sl := [(.va 0), (.va 1), .undef, .undef, (.junk 0), (.int .i64 (.a 0)), (.ptr 0 0), (.junk 1), (.junk 2), (.junk 3), (.junk 4), (.junk 5), (.junk 6), (.junk 7), (.va 0), (.int .i64 (.a 1)), (.int .i64 (.a 0)), (.junk 8), (.junk 9), (.junk 10), (.junk 11), (.junk 12), (.junk 13), (.junk 14), (.junk 15), (.junk 16), (.junk 17), (.junk 18), (.junk 19), (.junk 20), (.junk 21), (.junk 22), (.ptr 0 6), (.agg [(.int .i64 (.a 2)), (.int .i64 (.a 3)), (.int .i64 (.a 4)), (.int .i64 (.a 5)), (.int .i64 (.a 6)), (.int .i64 (.a 7))]), (.agg [(.int .i64 (.l 0)), (.int .i64 (.l 0)), (.int .i64 (.l 0)), (.int .i64 (.l 0)), (.int .i64 (.l 0)), (.int .i64 (.l 0))]), (.bool (.a 0)), (.bool (.a 1)), (.junk 23), (.junk 24), (.junk 25), (.junk 26), (.junk 27), (.bool (.a 2)), (.junk 28), (.va 0), (.int .i64 (.a 8)), (.int .i64 (.a 9)), (.junk 29), (.junk 30), (.junk 31), (.junk 32), (.junk 33), (.junk 34), (.junk 35), (.junk 36), (.junk 37), (.junk 38), (.junk 39), (.junk 40), (.junk 41), (.junk 42), (.junk 43), (.junk 44), (.junk 45), (.junk 46), (.junk 47)], H := [(.cells [(.int .i64 (.a 10)), (.int .i64 (.a 11)), (.int .i64 (.a 12)), (.int .i64 (.a 13)), (.int .i64 (.a 14)), (.int .i64 (.a 15)), (.int .i64 (.a 2)), (.int .i64 (.a 3)), (.int .i64 (.a 4)), (.int .i64 (.a 5)), (.int .i64 (.a 6)), (.int .i64 (.a 7))] 44 false)], ni := 16, nb := 3, nv := 2, nj := 48 }]
theorem revealed_explains_ok : SysOk Try.prog 47 revealed_explains_S := sys_ok (c := (cg [[false, false, true, false, true, true], [false, false, true, true, true, false, false, true, true, false, false, true, false, true, true]] [] [] false false false true)) (progOkG _ _ _ _ _ _ _ _) Try.func47 Try.call47 (by kernel_rfl) revealed_explains_pats revealed_explains_S 5000 rfl (by kernel_rfl) (by kernel_rfl) rfl
def bundle_Check_s : PT :=
 (.ite (.lt (.a 0) (.l 0))
  (.ret false (.int .i64 (.l 4)) [])
  (.ite (.lt (.l 4) (.a 0))
   (.ret false (.int .i64 (.l 4)) [])
   (.ite (.lt (.a 1) (.l 0))
    (.ret false (.int .i64 (.l 4)) [])
    (.ite (.lt (.l 4) (.a 1))
     (.ret false (.int .i64 (.l 4)) [])
     (.ite (.lt (.a 2) (.l 0))
      (.ret false (.int .i64 (.l 4)) [])
      (.ite (.lt (.l 4) (.a 2))
       (.ret false (.int .i64 (.l 4)) [])
       (.ite (.lt (.a 3) (.l 0))
        (.ret false (.int .i64 (.l 4)) [])
        (.ite (.lt (.l 4) (.a 3))
         (.ret false (.int .i64 (.l 4)) [])
         (.ite (.lt (.a 4) (.l 0))
          (.ret false (.int .i64 (.l 4)) [])
          (.ite (.lt (.l 4) (.a 4))
           (.ret false (.int .i64 (.l 4)) [])
           (.ite (.lt (.a 5) (.l 0))
            (.ret false (.int .i64 (.l 4)) [])
            (.ite (.lt (.l 4) (.a 5))
             (.ret false (.int .i64 (.l 4)) [])
             (.ret false (.int .i64 (.l 0)) [])))))))))))))
def bundle_Check_S : Sx.Sys := ⟨[(.sh (.agg [(.int .i64), (.int .i64), (.int .i64), (.int .i64), (.int .i64), (.int .i64)]))], bundle_Check_s, [], none⟩
def bundle_Check_pats : List Cfg := []
theorem bundle_Check_ok : SysOk Try.prog 55 bundle_Check_S := sys_ok (c := (cg [] [] [] false false false true)) (progOkG _ _ _ _ _ _ _ _) Try.func55 Try.call55 (by kernel_rfl) bundle_Check_pats bundle_Check_S 5000 rfl (by kernel_rfl) (by kernel_rfl) rfl
def saleroomref07_Cost_s : PT :=
 (.need (.and (.le (.l (-9223372036854775808)) (.mul (.a 0) (.a 6))) (.le (.mul (.a 0) (.a 6)) (.l 9223372036854775807)))
 (.need (.and (.le (.l (-9223372036854775808)) (.mul (.a 0) (.a 6))) (.le (.mul (.a 0) (.a 6)) (.l 9223372036854775807)))
 (.need (.and (.le (.l (-9223372036854775808)) (.mul (.a 1) (.a 7))) (.le (.mul (.a 1) (.a 7)) (.l 9223372036854775807)))
 (.need (.and (.le (.l (-9223372036854775808)) (.add (.mul (.a 0) (.a 6)) (.mul (.a 1) (.a 7)))) (.le (.add (.mul (.a 0) (.a 6)) (.mul (.a 1) (.a 7))) (.l 9223372036854775807)))
 (.need (.and (.le (.l (-9223372036854775808)) (.mul (.a 2) (.a 8))) (.le (.mul (.a 2) (.a 8)) (.l 9223372036854775807)))
 (.need (.and (.le (.l (-9223372036854775808)) (.add (.add (.mul (.a 0) (.a 6)) (.mul (.a 1) (.a 7))) (.mul (.a 2) (.a 8)))) (.le (.add (.add (.mul (.a 0) (.a 6)) (.mul (.a 1) (.a 7))) (.mul (.a 2) (.a 8))) (.l 9223372036854775807)))
 (.need (.and (.le (.l (-9223372036854775808)) (.mul (.a 3) (.a 9))) (.le (.mul (.a 3) (.a 9)) (.l 9223372036854775807)))
 (.need (.and (.le (.l (-9223372036854775808)) (.add (.add (.add (.mul (.a 0) (.a 6)) (.mul (.a 1) (.a 7))) (.mul (.a 2) (.a 8))) (.mul (.a 3) (.a 9)))) (.le (.add (.add (.add (.mul (.a 0) (.a 6)) (.mul (.a 1) (.a 7))) (.mul (.a 2) (.a 8))) (.mul (.a 3) (.a 9))) (.l 9223372036854775807)))
 (.need (.and (.le (.l (-9223372036854775808)) (.mul (.a 4) (.a 10))) (.le (.mul (.a 4) (.a 10)) (.l 9223372036854775807)))
 (.need (.and (.le (.l (-9223372036854775808)) (.add (.add (.add (.add (.mul (.a 0) (.a 6)) (.mul (.a 1) (.a 7))) (.mul (.a 2) (.a 8))) (.mul (.a 3) (.a 9))) (.mul (.a 4) (.a 10)))) (.le (.add (.add (.add (.add (.mul (.a 0) (.a 6)) (.mul (.a 1) (.a 7))) (.mul (.a 2) (.a 8))) (.mul (.a 3) (.a 9))) (.mul (.a 4) (.a 10))) (.l 9223372036854775807)))
 (.need (.and (.le (.l (-9223372036854775808)) (.mul (.a 5) (.a 11))) (.le (.mul (.a 5) (.a 11)) (.l 9223372036854775807)))
 (.need (.and (.le (.l (-9223372036854775808)) (.add (.add (.add (.add (.add (.mul (.a 0) (.a 6)) (.mul (.a 1) (.a 7))) (.mul (.a 2) (.a 8))) (.mul (.a 3) (.a 9))) (.mul (.a 4) (.a 10))) (.mul (.a 5) (.a 11)))) (.le (.add (.add (.add (.add (.add (.mul (.a 0) (.a 6)) (.mul (.a 1) (.a 7))) (.mul (.a 2) (.a 8))) (.mul (.a 3) (.a 9))) (.mul (.a 4) (.a 10))) (.mul (.a 5) (.a 11))) (.l 9223372036854775807)))
 (.ret false (.int .i64 (.add (.add (.add (.add (.add (.mul (.a 0) (.a 6)) (.mul (.a 1) (.a 7))) (.mul (.a 2) (.a 8))) (.mul (.a 3) (.a 9))) (.mul (.a 4) (.a 10))) (.mul (.a 5) (.a 11)))) [])))))))))))))
def saleroomref07_Cost_S : Sx.Sys := ⟨[(.sh (.agg [(.int .i64), (.int .i64), (.int .i64), (.int .i64), (.int .i64), (.int .i64)])), (.sh (.agg [(.int .i64), (.int .i64), (.int .i64), (.int .i64), (.int .i64), (.int .i64)]))], saleroomref07_Cost_s, [], none⟩
def saleroomref07_Cost_pats : List Cfg := []
theorem saleroomref07_Cost_ok : SysOk Try.prog 64 saleroomref07_Cost_S := sys_ok (c := (cg [] [] [] false false false true)) (progOkG _ _ _ _ _ _ _ _) Try.func64 Try.call64 (by kernel_rfl) saleroomref07_Cost_pats saleroomref07_Cost_S 5000 rfl (by kernel_rfl) (by kernel_rfl) rfl
def saleroomref08_Valid_s : PT :=
 (.ite (.lt (.a 0) (.l 0))
  (.ret false (.bool (.t false)) [])
  (.ite (.lt (.l 4) (.a 0))
   (.ret false (.bool (.t false)) [])
   (.ite (.lt (.a 1) (.l 0))
    (.ret false (.bool (.t false)) [])
    (.ite (.lt (.l 4) (.a 1))
     (.ret false (.bool (.t false)) [])
     (.ite (.lt (.a 2) (.l 0))
      (.ret false (.bool (.t false)) [])
      (.ite (.lt (.l 4) (.a 2))
       (.ret false (.bool (.t false)) [])
       (.ite (.lt (.a 3) (.l 0))
        (.ret false (.bool (.t false)) [])
        (.ite (.lt (.l 4) (.a 3))
         (.ret false (.bool (.t false)) [])
         (.ite (.lt (.a 4) (.l 0))
          (.ret false (.bool (.t false)) [])
          (.ite (.lt (.l 4) (.a 4))
           (.ret false (.bool (.t false)) [])
           (.ite (.lt (.a 5) (.l 0))
            (.ret false (.bool (.t false)) [])
            (.ite (.lt (.l 4) (.a 5))
             (.ret false (.bool (.t false)) [])
             (.ret false (.bool (.t true)) [])))))))))))))
def saleroomref08_Valid_S : Sx.Sys := ⟨[(.sh (.agg [(.int .i64), (.int .i64), (.int .i64), (.int .i64), (.int .i64), (.int .i64)]))], saleroomref08_Valid_s, [], none⟩
def saleroomref08_Valid_pats : List Cfg := []
theorem saleroomref08_Valid_ok : SysOk Try.prog 72 saleroomref08_Valid_S := sys_ok (c := (cg [] [] [] false false false true)) (progOkG _ _ _ _ _ _ _ _) Try.func72 Try.call72 (by kernel_rfl) saleroomref08_Valid_pats saleroomref08_Valid_S 5000 rfl (by kernel_rfl) (by kernel_rfl) rfl
def bundle_Within_s : PT :=
 (.call 87 [(.agg [(.int .i64 (.a 0)), (.int .i64 (.a 1)), (.int .i64 (.a 2)), (.int .i64 (.a 3)), (.int .i64 (.a 4)), (.int .i64 (.a 5))]), (.agg [(.int .i64 (.a 6)), (.int .i64 (.a 7)), (.int .i64 (.a 8)), (.int .i64 (.a 9)), (.int .i64 (.a 10)), (.int .i64 (.a 11))])] [] [(.agg [(.int .i64), (.int .i64), (.int .i64), (.int .i64), (.int .i64), (.int .i64)])]
 (.ret false (.bool (.and (.eq (.a 12) (.a 0)) (.and (.eq (.a 13) (.a 1)) (.and (.eq (.a 14) (.a 2)) (.and (.eq (.a 15) (.a 3)) (.and (.eq (.a 16) (.a 4)) (.eq (.a 17) (.a 5)))))))) []))
def bundle_Within_S : Sx.Sys := ⟨[(.sh (.agg [(.int .i64), (.int .i64), (.int .i64), (.int .i64), (.int .i64), (.int .i64)])), (.sh (.agg [(.int .i64), (.int .i64), (.int .i64), (.int .i64), (.int .i64), (.int .i64)]))], bundle_Within_s, [], none⟩
def bundle_Within_pats : List Cfg := []
theorem bundle_Within_ok : SysOk Try.prog 80 bundle_Within_S := sys_ok (c := (cg [] [] [] false false false true)) (progOkG _ _ _ _ _ _ _ _) Try.func80 Try.call80 (by kernel_rfl) bundle_Within_pats bundle_Within_S 5000 rfl (by kernel_rfl) (by kernel_rfl) rfl
def lexer_letter_s : PT :=
 (.ite (.le (.l 97) (.a 0))
  (.ret false (.bool (.le (.a 0) (.l 122))) [])
  (.ret false (.bool (.t false)) []))
def lexer_letter_S : Sx.Sys := ⟨[(.sh (.one (.int .i32)))], lexer_letter_s, [], none⟩
def lexer_letter_pats : List Cfg := []
theorem lexer_letter_ok : SysOk Try.prog 88 lexer_letter_S := sys_ok (c := (cg [] [] [] false false false true)) (progOkG _ _ _ _ _ _ _ _) Try.func88 Try.call88 (by kernel_rfl) lexer_letter_pats lexer_letter_S 5000 rfl (by kernel_rfl) (by kernel_rfl) rfl
end Go.Proofs.Ythjahianafohjaa
set_option maxRecDepth 100000
namespace Go.Proofs.Ythjahianafohjaa
open Go.Sx
def saleroomlaw37_ActivityExact_s : PT :=
 (.call 22 [(.agg [(.va 0), (.va 1), (.va 2), (.va 3)])] [] [(.one .bool)]
 (.ite (.not (.a 0))
  (.call 24 [] [] [(.one .bool)]
  (.ret false (.bool (.a 1)) []))
  (.need (.is 0 4)
  (.ite (.lt (.l 29) (.slen 4))
   (.call 24 [] [] [(.one .bool)]
   (.ret false (.bool (.a 1)) []))
   (.call 23 [(.va 4)] [] [(.one .bool)]
   (.ite (.not (.a 1))
    (.call 24 [] [] [(.one .bool)]
    (.ret false (.bool (.a 2)) []))
    (.app none (.lit [[(.int .i64 (.a 2)), (.int .i64 (.a 3)), (.int .i64 (.a 4)), (.int .i64 (.a 5)), (.int .i64 (.a 6)), (.int .i64 (.a 7)), (.int .i64 (.l 0)), (.int .i64 (.l 0)), (.int .i64 (.l 0)), (.int .i64 (.l 0)), (.int .i64 (.l 0)), (.int .i64 (.l 0))]]) 12
    (.call 23 [(.va 5)] [] [(.one .bool)]
    (.ite (.not (.a 2))
     (.call 24 [] [] [(.one .bool)]
     (.ret false (.bool (.a 3)) []))
     (.call 25 [(.agg [(.va 0), (.va 1), (.va 2), (.va 3)]), (.int .i64 (.a 0)), (.int .i64 (.a 1)), (.va 4), (.agg [(.int .i64 (.a 2)), (.int .i64 (.a 3)), (.int .i64 (.a 4)), (.int .i64 (.a 5)), (.int .i64 (.a 6)), (.int .i64 (.a 7)), (.int .i64 (.a 8)), (.int .i64 (.a 9)), (.int .i64 (.a 10)), (.int .i64 (.a 11)), (.int .i64 (.a 12)), (.int .i64 (.a 13))])] [] [(.one (.int .i64))]
     (.call 26 [(.agg [(.va 0), (.va 1), (.va 2), (.va 3)]), (.int .i64 (.a 0)), (.int .i64 (.a 1)), (.va 4), (.agg [(.int .i64 (.a 2)), (.int .i64 (.a 3)), (.int .i64 (.a 4)), (.int .i64 (.a 5)), (.int .i64 (.a 6)), (.int .i64 (.a 7)), (.int .i64 (.a 8)), (.int .i64 (.a 9)), (.int .i64 (.a 10)), (.int .i64 (.a 11)), (.int .i64 (.a 12)), (.int .i64 (.a 13))])] [] [(.one (.int .i64))]
     (.ite (.eq (.a 14) (.a 15))
      (.call 24 [] [] [(.one .bool)]
      (.ret false (.bool (.a 3)) []))
      (.ret false (.bool (.t false)) [])))))))))))))
def saleroomlaw37_ActivityExact_S : Sx.Sys := ⟨[(.sh (.agg [.val, .val, .val, .val])), (.sh (.one (.int .i64))), (.sh (.one (.int .i64))), (.sh (.one .val)), (.sh (.agg [(.int .i64), (.int .i64), (.int .i64), (.int .i64), (.int .i64), (.int .i64), (.int .i64), (.int .i64), (.int .i64), (.int .i64), (.int .i64), (.int .i64)]))], saleroomlaw37_ActivityExact_s, [], none⟩
def saleroomlaw37_ActivityExact_pats : List Cfg := []
theorem saleroomlaw37_ActivityExact_ok : SysOk Try.prog 8 saleroomlaw37_ActivityExact_S := sys_ok (c := (cg [] [] [] false false false true)) (progOkG _ _ _ _ _ _ _ _) Try.func8 Try.call8 (by kernel_rfl) saleroomlaw37_ActivityExact_pats saleroomlaw37_ActivityExact_S 5000 rfl (by kernel_rfl) (by kernel_rfl) rfl
def saleroomref36_Check_s : PT :=
 (.call 17 [(.va 0)] [] [(.one .bool)]
 (.ite (.not (.a 0))
  (.ret false (.tup [(.agg [.nilS, .nilS]), (.bool (.t false))]) [])
  (.call 42 [(.va 0)] [] [(.one .val), (.one .bool)]
  (.ite (.not (.a 1))
   (.ret false (.tup [(.agg [.nilS, .nilS]), (.bool (.t false))]) [])
   (.need (.is 0 0)
   (.mkM (.slen 0) [(.int .i64 (.l 0))] 2 1 8
   (.jump 0 [(.l 0)] [] [(.va 0), (.va 1), (.va 2)])))))))
def saleroomref36_Check_t0 : PT :=
 (.need (.is 0 0)
 (.ite (.lt (.a 0) (.slen 0))
  (.jump 1 [(.a 0), (.l 0)] [] [(.va 0), (.va 1), (.va 2)])
  (.jump 2 [(.l 0), (.l 0)] [(.t false)] [(.va 0), (.va 2)])))
def saleroomref36_Check_t1_b1 : PT :=
 (.need (.and (.le (.l 0) (.a 0)) (.lt (.a 0) (.slen 2)))
   (.load true (.ea 2 (.a 0) 1 0) [(.int .i64)]
   (.need (.and (.le (.l 0) (.a 0)) (.lt (.a 0) (.slen 2)))
   (.storeM (.ea 2 (.a 0) 1 0) [(.int .i64 (.mn (.a 3) (.a 2)))]
   (.need (.and (.le (.l (-9223372036854775808)) (.add (.a 1) (.l 1))) (.le (.add (.a 1) (.l 1)) (.l 9223372036854775807)))
   (.jump 1 [(.a 0), (.add (.a 1) (.l 1))] [] [(.va 0), (.va 1), (.va 2)]))))))
def saleroomref36_Check_t1 : PT :=
 (.need (.is 0 0)
 (.ite (.lt (.a 1) (.slen 0))
  (.need (.and (.le (.l 0) (.a 1)) (.lt (.a 1) (.slen 1)))
  (.load true (.ea 1 (.a 1) 1 0) [.val]
  (.need (.and (.le (.l 0) (.a 0)) (.lt (.a 0) (.slen 3)))
  (.load true (.ea 3 (.a 0) 1 0) [(.int .i64)]
  (.both saleroomref36_Check_t1_b1 saleroomref36_Check_t1_b1)))))
  (.need (.and (.le (.l (-9223372036854775808)) (.add (.a 0) (.l 1))) (.le (.add (.a 0) (.l 1)) (.l 9223372036854775807)))
  (.jump 0 [(.add (.a 0) (.l 1))] [] [(.va 0), (.va 1), (.va 2)]))))
def saleroomref36_Check_t2 : PT :=
 (.need (.is 0 0)
 (.ite (.lt (.a 1) (.slen 0))
  (.need (.and (.le (.l 0) (.a 1)) (.lt (.a 1) (.slen 0)))
  (.load false (.ea 0 (.a 1) 12 6) [(.int .i64), (.int .i64), (.int .i64), (.int .i64), (.int .i64), (.int .i64)]
  (.ite (.and (.eq (.a 2) (.l 0)) (.and (.eq (.a 3) (.l 0)) (.and (.eq (.a 4) (.l 0)) (.and (.eq (.a 5) (.l 0)) (.and (.eq (.a 6) (.l 0)) (.eq (.a 7) (.l 0)))))))
   (.need (.and (.le (.l 0) (.a 1)) (.lt (.a 1) (.slen 1)))
   (.load false (.ea 1 (.a 1) 1 0) [(.int .i64)]
   (.need (.and (.le (.l (-9223372036854775808)) (.sub (.l 0) (.a 8))) (.le (.sub (.l 0) (.a 8)) (.l 9223372036854775807)))
   (.need (.and (.le (.l (-9223372036854775808)) (.add (.a 1) (.l 1))) (.le (.add (.a 1) (.l 1)) (.l 9223372036854775807)))
   (.jump 2 [(.sub (.l 0) (.a 8)), (.add (.a 1) (.l 1))] [(.t true)] [(.va 0), (.va 1)])))))
   (.need (.and (.le (.l (-9223372036854775808)) (.add (.a 1) (.l 1))) (.le (.add (.a 1) (.l 1)) (.l 9223372036854775807)))
   (.jump 2 [(.a 0), (.add (.a 1) (.l 1))] [(.a 0)] [(.va 0), (.va 1)])))))
  (.jump 3 [(.a 0), (.l 0)] [(.a 0)] [(.va 0), (.va 1)])))
def saleroomref36_Check_t3 : PT :=
 (.need (.is 0 0)
 (.ite (.lt (.a 1) (.slen 0))
  (.ite (.not (.a 0))
   (.need (.and (.le (.l 0) (.a 1)) (.lt (.a 1) (.slen 0)))
   (.need (.and (.le (.l 0) (.a 1)) (.lt (.a 1) (.slen 0)))
   (.need (.and (.le (.l 0) (.a 1)) (.lt (.a 1) (.slen 1)))
   (.load true (.ea 0 (.a 1) 12 0) [(.int .i64), (.int .i64), (.int .i64), (.int .i64), (.int .i64), (.int .i64), (.int .i64), (.int .i64), (.int .i64), (.int .i64), (.int .i64), (.int .i64)]
   (.load true (.ea 0 (.a 1) 12 6) [(.int .i64), (.int .i64), (.int .i64), (.int .i64), (.int .i64), (.int .i64)]
   (.load true (.ea 1 (.a 1) 1 0) [(.int .i64)]
   (.call 43 [(.agg [(.int .i64 (.a 2)), (.int .i64 (.a 3)), (.int .i64 (.a 4)), (.int .i64 (.a 5)), (.int .i64 (.a 6)), (.int .i64 (.a 7)), (.int .i64 (.a 8)), (.int .i64 (.a 9)), (.int .i64 (.a 10)), (.int .i64 (.a 11)), (.int .i64 (.a 12)), (.int .i64 (.a 13))]), (.agg [(.int .i64 (.a 14)), (.int .i64 (.a 15)), (.int .i64 (.a 16)), (.int .i64 (.a 17)), (.int .i64 (.a 18)), (.int .i64 (.a 19))])] [] [(.one (.int .i64))]
   (.need (.and (.le (.l (-9223372036854775808)) (.sub (.a 21) (.a 20))) (.le (.sub (.a 21) (.a 20)) (.l 9223372036854775807)))
   (.need (.and (.le (.l (-9223372036854775808)) (.add (.a 1) (.l 1))) (.le (.add (.a 1) (.l 1)) (.l 9223372036854775807)))
   (.jump 3 [(.mx (.a 0) (.sub (.a 21) (.a 20))), (.add (.a 1) (.l 1))] [(.a 0)] [(.va 0), (.va 1)]))))))))))
   (.jump 4 [(.a 0), (.l 0)] [] [(.va 0), (.va 1)]))
  (.jump 4 [(.a 0), (.l 0)] [] [(.va 0), (.va 1)])))
def saleroomref36_Check_t4_b1 : PT :=
 (.need (.and (.le (.l 0) (.a 1)) (.lt (.a 1) (.slen 1)))
   (.load true (.ea 1 (.a 1) 1 0) [(.int .i64)]
   (.need (.and (.le (.l (-9223372036854775808)) (.add (.a 2) (.a 0))) (.le (.add (.a 2) (.a 0)) (.l 9223372036854775807)))
   (.need (.and (.le (.l 0) (.a 1)) (.lt (.a 1) (.slen 1)))
   (.storeM (.ea 1 (.a 1) 1 0) [(.int .i64 (.add (.a 2) (.a 0)))]
   (.need (.and (.le (.l (-9223372036854775808)) (.add (.a 1) (.l 1))) (.le (.add (.a 1) (.l 1)) (.l 9223372036854775807)))
   (.jump 4 [(.a 0), (.add (.a 1) (.l 1))] [] [(.va 0), (.va 1)])))))))
def saleroomref36_Check_t4 : PT :=
 (.need (.is 0 0)
 (.ite (.lt (.a 1) (.slen 0))
  (.both saleroomref36_Check_t4_b1 saleroomref36_Check_t4_b1)
  (.ret false (.tup [(.agg [.nilS, (.va 1)]), (.bool (.t true))]) [])))
def saleroomref36_Check_S : Sx.Sys := ⟨[(.sh (.one .val))], saleroomref36_Check_s, [saleroomref36_Check_t0, saleroomref36_Check_t1, saleroomref36_Check_t2, saleroomref36_Check_t3, saleroomref36_Check_t4], none⟩
def saleroomref36_Check_pats : List Cfg := [{ todo := [(.code [false, false, true, false, true, true, true, true, true, true, true]), (.inLoop [false, false, true, false, true, true, true, true, true, true, true]), (.inBlock 0), (.code [true, true, true, true, true, true, true, true])], sl := [(.va 0), .undef, (.ptr 0 0), (.junk 0), (.va 1), (.junk 1), (.ptr 1 0), (.int .i64 (.l 0)), (.bool (.t false)), (.int .i64 (.a 0)), (.junk 2), .undef, .undef, .undef, (.junk 3), (.junk 4), (.junk 5), .undef, (.junk 6), (.junk 7), (.junk 8), (.junk 9), (.junk 10), (.junk 11), (.junk 12), .undef, (.junk 13), (.junk 14), (.junk 15), (.junk 16), (.junk 17), (.junk 18), (.junk 19), (.junk 20), (.junk 21), (.junk 22), (.junk 23), (.junk 24), (.junk 25), (.junk 26), (.junk 27), (.junk 28), (.junk 29), (.junk 30), (.junk 31), (.junk 32), (.junk 33), (.junk 34), (.junk 35), (.junk 36), (.junk 37), (.junk 38), (.junk 39), (.junk 40), (.junk 41), (.junk 42), (.junk 43), (.junk 44), (.junk 45), .undef, .undef, .undef, .undef, .undef, .undef, .undef, .undef, .undef, .undef, .undef, .undef, .undef, .undef, .undef, .undef, .undef, .undef, .undef, .undef, .undef, .undef, .undef, .undef, .undef, .undef, .undef, .undef, .undef, .undef, .undef, .undef, .undef, .undef, .undef, .undef, .undef, .undef, .undef, .undef, .undef, .undef, .undef, .undef, .undef, .undef, .undef, .undef, .undef, .undef, .undef, .undef, .undef, .undef, .undef, .undef, .undef, .undef, .undef, .undef, .undef, .undef, .undef, .undef, .undef], H := [(.cells [.nilS, .nilS] 30 false), (.cells [.nilS, (.va 2)] 30 false)], ni := 1, nb := 0, nv := 3, nj := 46 },
 { todo := [(.code [false, false, true, false, false, true, false, false, true, false, true, true, true, true, true, true, true]), (.inLoop [false, false, true, false, false, true, false, false, true, false, true, true, true, true, true, true, true]), (.inBlock 2), (.inBlock 1), (.code [true, true, false, false, true, false, true, true, true, true, true, true, true]), (.inLoop [false, false, true, false, true, true, true, true, true, true, true]), (.inBlock 0), (.code [true, true, true, true, true, true, true, true])], sl := [(.va 0), .undef, (.ptr 0 0), (.junk 0), (.va 1), (.junk 1), (.ptr 1 0), (.int .i64 (.l 0)), (.bool (.t false)), (.int .i64 (.a 0)), (.int .i64 (.a 1)), .undef, .undef, .undef, (.junk 2), (.junk 3), (.junk 4), .undef, (.junk 5), (.junk 6), (.junk 7), (.junk 8), (.junk 9), (.junk 10), (.junk 11), .undef, (.junk 12), (.junk 13), (.junk 14), (.junk 15), (.junk 16), (.junk 17), (.junk 18), (.junk 19), (.junk 20), (.junk 21), (.junk 22), (.junk 23), (.junk 24), (.junk 25), (.junk 26), (.junk 27), (.junk 28), (.junk 29), (.junk 30), (.junk 31), (.junk 32), (.junk 33), (.junk 34), (.junk 35), (.junk 36), (.junk 37), (.junk 38), (.junk 39), (.junk 40), (.junk 41), (.junk 42), (.junk 43), (.junk 44), .undef, .undef, .undef, .undef, .undef, .undef, .undef, .undef, .undef, .undef, .undef, .undef, .undef, .undef, .undef, .undef, .undef, .undef, .undef, .undef, .undef, .undef, .undef, .undef, .undef, .undef, .undef, .undef, .undef, .undef, .undef, .undef, .undef, .undef, .undef, .undef, .undef, .undef, .undef, .undef, .undef, .undef, .undef, .undef, .undef, .undef, .undef, .undef, .undef, .undef, .undef, .undef, .undef, .undef, .undef, .undef, .undef, .undef, .undef, .undef, .undef, .undef, .undef, .undef, .undef], H := [(.cells [.nilS, .nilS] 30 false), (.cells [.nilS, (.va 2)] 30 false)], ni := 2, nb := 0, nv := 3, nj := 45 },
 { todo := [(.code [false, false, true, false, true, true, true, true, true, true, true, true]), (.inLoop [false, false, true, false, true, true, true, true, true, true, true, true]), (.inBlock 4), (.code [true, true, true, true, true, true, true, true, true])], sl := [(.va 0), .undef, (.ptr 0 0), (.junk 0), (.junk 1), (.junk 2), (.ptr 1 0), (.int .i64 (.a 0)), (.bool (.a 0)), (.junk 3), (.junk 4), (.int .i64 (.a 1)), .undef, .undef, (.junk 5), (.junk 6), (.junk 7), .undef, (.junk 8), (.junk 9), (.junk 10), (.junk 11), (.junk 12), (.junk 13), (.junk 14), .undef, (.junk 15), (.junk 16), (.junk 17), (.junk 18), (.junk 19), (.junk 20), (.junk 21), (.junk 22), (.junk 23), (.junk 24), (.junk 25), (.junk 26), (.junk 27), (.junk 28), (.junk 29), (.junk 30), (.junk 31), (.junk 32), (.junk 33), (.junk 34), (.junk 35), (.junk 36), (.junk 37), (.junk 38), (.junk 39), (.junk 40), (.junk 41), (.junk 42), (.junk 43), (.junk 44), (.junk 45), (.junk 46), (.junk 47), (.junk 48), (.junk 49), (.junk 50), (.junk 51), (.junk 52), (.junk 53), (.junk 54), (.junk 55), (.junk 56), (.junk 57), (.junk 58), (.junk 59), (.junk 60), (.junk 61), (.junk 62), (.junk 63), (.junk 64), (.junk 65), (.junk 66), .undef, .undef, .undef, .undef, .undef, .undef, .undef, .undef, .undef, .undef, .undef, .undef, .undef, .undef, .undef, .undef, .undef, .undef, .undef, .undef, .undef, .undef, .undef, .undef, .undef, .undef, .undef, .undef, .undef, .undef, .undef, .undef, .undef, .undef, .undef, .undef, .undef, .undef, .undef, .undef, .undef, .undef, .undef, .undef, .undef, .undef], H := [(.cells [.nilS, .nilS] 30 false), (.cells [.nilS, (.va 1)] 30 false)], ni := 2, nb := 1, nv := 2, nj := 67 },
 { todo := [(.code [false, false, true, false, true, true, true, true, true, true, true, true, true]), (.inLoop [false, false, true, false, true, true, true, true, true, true, true, true, true]), (.inBlock 6), (.code [true, true, true, true, true, true, true, true, true, true])], sl := [(.va 0), .undef, (.ptr 0 0), (.junk 0), (.junk 1), (.junk 2), (.ptr 1 0), (.int .i64 (.a 0)), (.bool (.a 0)), (.junk 3), (.junk 4), (.junk 5), (.int .i64 (.a 1)), .undef, (.junk 6), (.junk 7), (.junk 8), .undef, (.junk 9), (.junk 10), (.junk 11), (.junk 12), (.junk 13), (.junk 14), (.junk 15), .undef, (.junk 16), (.junk 17), (.junk 18), (.junk 19), (.junk 20), (.junk 21), (.junk 22), (.junk 23), (.junk 24), (.junk 25), (.junk 26), (.junk 27), (.junk 28), (.junk 29), (.junk 30), (.junk 31), (.junk 32), (.junk 33), (.junk 34), (.junk 35), (.junk 36), (.junk 37), (.junk 38), (.junk 39), (.junk 40), (.junk 41), (.junk 42), (.junk 43), (.junk 44), (.junk 45), (.junk 46), (.junk 47), (.junk 48), (.junk 49), (.junk 50), (.junk 51), (.junk 52), (.junk 53), (.junk 54), (.junk 55), (.junk 56), (.junk 57), (.junk 58), (.junk 59), (.junk 60), (.junk 61), (.junk 62), (.junk 63), (.junk 64), (.junk 65), (.junk 66), (.junk 67), (.junk 68), (.junk 69), (.junk 70), (.junk 71), (.junk 72), (.junk 73), (.junk 74), (.junk 75), (.junk 76), (.junk 77), (.junk 78), (.junk 79), (.junk 80), (.junk 81), (.junk 82), (.junk 83), (.junk 84), (.junk 85), (.junk 86), (.junk 87), (.junk 88), (.junk 89), (.junk 90), (.junk 91), (.junk 92), (.junk 93), (.junk 94), (.junk 95), .undef, .undef, .undef, .undef, .undef, .undef, .undef, .undef, .undef, .undef, .undef, .undef, .undef, .undef, .undef, .undef, .undef, .undef], H := [(.cells [.nilS, .nilS] 30 false), (.cells [.nilS, (.va 1)] 30 false)], ni := 2, nb := 1, nv := 2, nj := 96 },
 { todo := [(.code [false, false, true, false, true, true, true, true, true, true, true, true, true, true]), (.inLoop [false, false, true, false, true, true, true, true, true, true, true, true, true, true]), (.inBlock 8), (.code [true, true, true, true, true, true, true, true, true, true, true])], sl := [(.va 0), .undef, (.ptr 0 0), (.junk 0), (.junk 1), (.junk 2), (.ptr 1 0), (.int .i64 (.a 0)), (.junk 3), (.junk 4), (.junk 5), (.junk 6), (.junk 7), (.int .i64 (.a 1)), (.junk 8), (.junk 9), (.junk 10), .undef, (.junk 11), (.junk 12), (.junk 13), (.junk 14), (.junk 15), (.junk 16), (.junk 17), .undef, (.junk 18), (.junk 19), (.junk 20), (.junk 21), (.junk 22), (.junk 23), (.junk 24), (.junk 25), (.junk 26), (.junk 27), (.junk 28), (.junk 29), (.junk 30), (.junk 31), (.junk 32), (.junk 33), (.junk 34), (.junk 35), (.junk 36), (.junk 37), (.junk 38), (.junk 39), (.junk 40), (.junk 41), (.junk 42), (.junk 43), (.junk 44), (.junk 45), (.junk 46), (.junk 47), (.junk 48), (.junk 49), (.junk 50), (.junk 51), (.junk 52), (.junk 53), (.junk 54), (.junk 55), (.junk 56), (.junk 57), (.junk 58), (.junk 59), (.junk 60), (.junk 61), (.junk 62), (.junk 63), (.junk 64), (.junk 65), (.junk 66), (.junk 67), (.junk 68), (.junk 69), (.junk 70), (.junk 71), (.junk 72), (.junk 73), (.junk 74), (.junk 75), (.junk 76), (.junk 77), (.junk 78), (.junk 79), (.junk 80), (.junk 81), (.junk 82), (.junk 83), (.junk 84), (.junk 85), (.junk 86), (.junk 87), (.junk 88), (.junk 89), (.junk 90), (.junk 91), (.junk 92), (.junk 93), (.junk 94), (.junk 95), (.junk 96), (.junk 97), (.junk 98), (.junk 99), (.junk 100), (.junk 101), (.junk 102), (.junk 103), (.junk 104), (.junk 105), (.junk 106), (.junk 107), (.junk 108), (.junk 109), (.junk 110), (.junk 111), (.junk 112), (.junk 113), (.junk 114), .undef], H := [(.cells [.nilS, .nilS] 30 false), (.cells [.nilS, (.va 1)] 30 false)], ni := 2, nb := 0, nv := 2, nj := 115 }]
theorem saleroomref36_Check_ok : SysOk Try.prog 16 saleroomref36_Check_S := sys_ok (c := (cg [[false, false, true, false, true, true, true, true, true, true, true], [false, false, true, false, false, true, false, false, true, false, true, true, true, true, true, true, true], [false, false, true, false, true, true, true, true, true, true, true, true], [false, false, true, false, true, true, true, true, true, true, true, true, true], [false, false, true, false, true, true, true, true, true, true, true, true, true, true]] [] [] false false false true)) (progOkG _ _ _ _ _ _ _ _) Try.func16 Try.call16 (by kernel_rfl) saleroomref36_Check_pats saleroomref36_Check_S 5000 rfl (by kernel_rfl) (by kernel_rfl) rfl
def saleroomlaw37_awake_s : PT :=
 (.call 50 [] [] [(.agg [.val, .val, .val, .val])]
 (.app none (.lit [[(.int .i64 (.l 1)), (.int .i64 (.l 1)), (.int .i64 (.l 0)), (.int .i64 (.l 0)), (.int .i64 (.l 0)), (.int .i64 (.l 0)), (.int .i64 (.l 1)), (.int .i64 (.l 0)), (.int .i64 (.l 0)), (.int .i64 (.l 0)), (.int .i64 (.l 0)), (.int .i64 (.l 0))]]) 12
 (.app none (.lit [[(.int .i64 (.l 1)), (.int .i64 (.l 1)), (.int .i64 (.l 0)), (.int .i64 (.l 0)), (.int .i64 (.l 0)), (.int .i64 (.l 0)), (.int .i64 (.l 0)), (.int .i64 (.l 0)), (.int .i64 (.l 0)), (.int .i64 (.l 0)), (.int .i64 (.l 0)), (.int .i64 (.l 0))]]) 12
 (.call 25 [(.agg [(.va 0), (.va 1), (.va 2), (.va 3)]), (.int .i64 (.l 2)), (.int .i64 (.l 0)), (.va 4), (.agg [(.int .i64 (.l 1)), (.int .i64 (.l 2)), (.int .i64 (.l 0)), (.int .i64 (.l 0)), (.int .i64 (.l 0)), (.int .i64 (.l 0)), (.int .i64 (.l 0)), (.int .i64 (.l 1)), (.int .i64 (.l 0)), (.int .i64 (.l 0)), (.int .i64 (.l 0)), (.int .i64 (.l 0))])] [] [(.one (.int .i64))]
 (.ite (.not (.eq (.a 0) (.l 15)))
  (.ret false (.bool (.t false)) [])
  (.call 25 [(.agg [(.va 0), (.va 1), (.va 2), (.va 3)]), (.int .i64 (.l 1)), (.int .i64 (.l 0)), (.va 4), (.agg [(.int .i64 (.l 1)), (.int .i64 (.l 2)), (.int .i64 (.l 0)), (.int .i64 (.l 0)), (.int .i64 (.l 0)), (.int .i64 (.l 0)), (.int .i64 (.l 0)), (.int .i64 (.l 1)), (.int .i64 (.l 0)), (.int .i64 (.l 0)), (.int .i64 (.l 0)), (.int .i64 (.l 0))])] [] [(.one (.int .i64))]
  (.ite (.not (.eq (.a 1) (.l 0)))
   (.ret false (.bool (.t false)) [])
   (.call 25 [(.agg [(.va 0), (.va 1), (.va 2), (.va 3)]), (.int .i64 (.l 3)), (.int .i64 (.l 0)), (.va 4), (.agg [(.int .i64 (.l 1)), (.int .i64 (.l 2)), (.int .i64 (.l 0)), (.int .i64 (.l 0)), (.int .i64 (.l 0)), (.int .i64 (.l 0)), (.int .i64 (.l 0)), (.int .i64 (.l 1)), (.int .i64 (.l 0)), (.int .i64 (.l 0)), (.int .i64 (.l 0)), (.int .i64 (.l 0))])] [] [(.one (.int .i64))]
   (.ite (.not (.eq (.a 2) (.l 0)))
    (.ret false (.bool (.t false)) [])
    (.call 25 [(.agg [(.va 0), (.va 1), (.va 2), (.va 3)]), (.int .i64 (.l 1)), (.int .i64 (.l 0)), .nilS, (.agg [(.int .i64 (.l 0)), (.int .i64 (.l 0)), (.int .i64 (.l 0)), (.int .i64 (.l 0)), (.int .i64 (.l 0)), (.int .i64 (.l 0)), (.int .i64 (.l 1)), (.int .i64 (.l 0)), (.int .i64 (.l 0)), (.int .i64 (.l 0)), (.int .i64 (.l 0)), (.int .i64 (.l 0))])] [] [(.one (.int .i64))]
    (.ite (.not (.eq (.a 3) (.l 0)))
     (.ret false (.bool (.t false)) [])
     (.call 25 [(.agg [(.va 0), (.va 1), (.va 2), (.va 3)]), (.int .i64 (.l 1)), (.int .i64 (.l 0)), .nilS, (.agg [(.int .i64 (.l 0)), (.int .i64 (.l 0)), (.int .i64 (.l 0)), (.int .i64 (.l 0)), (.int .i64 (.l 0)), (.int .i64 (.l 0)), (.int .i64 (.l 2)), (.int .i64 (.l 0)), (.int .i64 (.l 0)), (.int .i64 (.l 0)), (.int .i64 (.l 0)), (.int .i64 (.l 0))])] [] [(.one (.int .i64))]
     (.ite (.not (.eq (.a 4) (.l 15)))
      (.ret false (.bool (.t false)) [])
      (.call 25 [(.agg [(.va 0), (.va 1), (.va 2), (.va 3)]), (.int .i64 (.l 4)), (.int .i64 (.l 0)), .nilS, (.agg [(.int .i64 (.l 1)), (.int .i64 (.l 2)), (.int .i64 (.l 0)), (.int .i64 (.l 0)), (.int .i64 (.l 0)), (.int .i64 (.l 0)), (.int .i64 (.l 0)), (.int .i64 (.l 1)), (.int .i64 (.l 0)), (.int .i64 (.l 0)), (.int .i64 (.l 0)), (.int .i64 (.l 0))])] [] [(.one (.int .i64))]
      (.ite (.not (.eq (.a 5) (.l 4)))
       (.ret false (.bool (.t false)) [])
       (.call 25 [(.agg [(.va 0), (.va 1), (.va 2), (.va 3)]), (.int .i64 (.l 1)), (.int .i64 (.l 1)), .nilS, (.agg [(.int .i64 (.l 1)), (.int .i64 (.l 2)), (.int .i64 (.l 0)), (.int .i64 (.l 0)), (.int .i64 (.l 0)), (.int .i64 (.l 0)), (.int .i64 (.l 0)), (.int .i64 (.l 1)), (.int .i64 (.l 0)), (.int .i64 (.l 0)), (.int .i64 (.l 0)), (.int .i64 (.l 0))])] [] [(.one (.int .i64))]
       (.ite (.not (.eq (.a 6) (.l 6)))
        (.ret false (.bool (.t false)) [])
        (.call 29 [(.va 5)] [] [(.one .bool)]
        (.ite (.not (.a 0))
         (.ret false (.bool (.t false)) [])
         (.call 29 [(.va 4)] [] [(.one .bool)]
         (.ite (.a 1)
          (.ret false (.bool (.t false)) [])
          (.call 29 [.nilS] [] [(.one .bool)]
          (.ite (.a 2)
           (.ret false (.bool (.t false)) [])
           (.call 25 [(.agg [(.va 0), (.va 1), (.va 2), (.va 3)]), (.int .i64 (.l 2)), (.int .i64 (.l 0)), (.va 5), (.agg [(.int .i64 (.l 1)), (.int .i64 (.l 2)), (.int .i64 (.l 0)), (.int .i64 (.l 0)), (.int .i64 (.l 0)), (.int .i64 (.l 0)), (.int .i64 (.l 0)), (.int .i64 (.l 1)), (.int .i64 (.l 0)), (.int .i64 (.l 0)), (.int .i64 (.l 0)), (.int .i64 (.l 0))])] [] [(.one (.int .i64))]
           (.ite (.not (.eq (.a 7) (.l 15)))
            (.ret false (.bool (.t false)) [])
            (.call 25 [(.agg [(.va 0), (.va 1), (.va 2), (.va 3)]), (.int .i64 (.l 2)), (.int .i64 (.l 0)), (.va 5), (.agg [(.int .i64 (.l 1)), (.int .i64 (.l 2)), (.int .i64 (.l 0)), (.int .i64 (.l 0)), (.int .i64 (.l 0)), (.int .i64 (.l 0)), (.int .i64 (.l 0)), (.int .i64 (.l 0)), (.int .i64 (.l 0)), (.int .i64 (.l 0)), (.int .i64 (.l 0)), (.int .i64 (.l 0))])] [] [(.one (.int .i64))]
            (.ite (.not (.eq (.a 8) (.l 0)))
             (.ret false (.bool (.t false)) [])
             (.call 27 [(.agg [(.va 0), (.va 1), (.va 2), (.va 3)]), (.int .i64 (.l 0)), (.va 4)] [] [(.one (.int .i64))]
             (.ite (.eq (.a 9) (.l 2))
              (.call 27 [(.agg [(.va 0), (.va 1), (.va 2), (.va 3)]), (.int .i64 (.l 0)), .nilS] [] [(.one (.int .i64))]
              (.ite (.eq (.a 10) (.l 3))
               (.call 27 [(.agg [(.va 0), (.va 1), (.va 2), (.va 3)]), (.int .i64 (.l 1)), .nilS] [] [(.one (.int .i64))]
               (.ite (.eq (.a 11) (.l 0))
                (.call 31 [(.agg [(.va 0), (.va 1), (.va 2), (.va 3)]), (.int .i64 (.l 0)), (.agg [(.int .i64 (.l 5)), (.int .i64 (.l 0)), (.int .i64 (.l 0)), (.int .i64 (.l 0)), (.int .i64 (.l 0)), (.int .i64 (.l 0)), (.int .i64 (.l 2)), (.int .i64 (.l 0)), (.int .i64 (.l 0)), (.int .i64 (.l 0)), (.int .i64 (.l 0)), (.int .i64 (.l 0))])] [] [(.one (.int .i64))]
                (.ite (.eq (.a 12) (.l 17))
                 (.call 31 [(.agg [(.va 0), (.va 1), (.va 2), (.va 3)]), (.int .i64 (.l 0)), (.agg [(.int .i64 (.l 4)), (.int .i64 (.l 0)), (.int .i64 (.l 0)), (.int .i64 (.l 0)), (.int .i64 (.l 0)), (.int .i64 (.l 0)), (.int .i64 (.l 2)), (.int .i64 (.l 0)), (.int .i64 (.l 0)), (.int .i64 (.l 0)), (.int .i64 (.l 0)), (.int .i64 (.l 0))])] [] [(.one (.int .i64))]
                 (.ret false (.bool (.eq (.a 13) (.l 0))) []))
                 (.ret false (.bool (.t false)) [])))
                (.ret false (.bool (.t false)) [])))
               (.ret false (.bool (.t false)) [])))
              (.ret false (.bool (.t false)) []))))))))))))))))))))))))))))))
def saleroomlaw37_awake_S : Sx.Sys := ⟨[], saleroomlaw37_awake_s, [], none⟩
def saleroomlaw37_awake_pats : List Cfg := []
theorem saleroomlaw37_awake_ok : SysOk Try.prog 24 saleroomlaw37_awake_S := sys_ok (c := (cg [] [] [] false false false true)) (progOkG _ _ _ _ _ _ _ _) Try.func24 Try.call24 (by kernel_rfl) saleroomlaw37_awake_pats saleroomlaw37_awake_S 5000 rfl (by kernel_rfl) (by kernel_rfl) rfl
def saleroomref37_Affordable_s : PT :=
 (.call 57 [(.agg [(.va 0), (.va 1), (.va 2), (.va 3)]), (.int .i64 (.a 0))] [] [(.one .bool)]
 (.ite (.not (.a 0))
  (.ret false (.int .i64 (.l 6)) [])
  (.need (.and (.le (.l 0) (.a 0)) (.lt (.a 0) (.slen 1)))
  (.load true (.ea 1 (.a 0) 4 2) [(.int .i64)]
  (.ite (.not (.eq (.a 13) (.l 0)))
   (.need (.and (.le (.l 0) (.a 0)) (.lt (.a 0) (.slen 1)))
   (.load true (.ea 1 (.a 0) 4 2) [(.int .i64)]
   (.call 60 [(.agg [(.int .i64 (.a 1)), (.int .i64 (.a 2)), (.int .i64 (.a 3)), (.int .i64 (.a 4)), (.int .i64 (.a 5)), (.int .i64 (.a 6))]), (.agg [(.int .i64 (.a 7)), (.int .i64 (.a 8)), (.int .i64 (.a 9)), (.int .i64 (.a 10)), (.int .i64 (.a 11)), (.int .i64 (.a 12))])] [] [(.one (.int .i64))]
   (.ite (.lt (.a 14) (.a 15))
    (.ret false (.int .i64 (.l 17)) [])
    (.ret false (.int .i64 (.l 0)) [])))))
   (.ret false (.int .i64 (.l 0)) []))))))
def saleroomref37_Affordable_S : Sx.Sys := ⟨[(.sh (.agg [.val, .val, .val, .val])), (.sh (.one (.int .i64))), (.sh (.agg [(.int .i64), (.int .i64), (.int .i64), (.int .i64), (.int .i64), (.int .i64), (.int .i64), (.int .i64), (.int .i64), (.int .i64), (.int .i64), (.int .i64)]))], saleroomref37_Affordable_s, [], none⟩
def saleroomref37_Affordable_pats : List Cfg := []
theorem saleroomref37_Affordable_ok : SysOk Try.prog 32 saleroomref37_Affordable_S := sys_ok (c := (cg [] [] [] false false false true)) (progOkG _ _ _ _ _ _ _ _) Try.func32 Try.call32 (by kernel_rfl) saleroomref37_Affordable_pats saleroomref37_Affordable_S 5000 rfl (by kernel_rfl) (by kernel_rfl) rfl
def revealed_lowered_s : PT :=
 (.need (.is 0 0)
 (.mkM (.slen 0) [(.int .i64 (.l 0))] 2 1 8
 (.need (.is 0 0)
 (.mkM (.slen 0) [(.int .i64 (.l 0))] 3 1 8
 (.need (.is 0 2)
 (.jump 0 [(.slen 2), (.l 0)] [] [(.va 0), (.va 1), (.va 2)]))))))
def revealed_lowered_t0 : PT :=
 (.ite (.lt (.a 1) (.a 0))
  (.need (.and (.le (.l 0) (.a 1)) (.lt (.a 1) (.slen 2)))
  (.storeM (.ea 2 (.a 1) 1 0) [(.int .i64 (.l (-1)))]
  (.need (.and (.le (.l (-9223372036854775808)) (.add (.a 1) (.l 1))) (.le (.add (.a 1) (.l 1)) (.l 9223372036854775807)))
  (.jump 0 [(.a 0), (.add (.a 1) (.l 1))] [] [(.va 0), (.va 1), (.va 2)]))))
  (.need (.is 0 0)
  (.jump 1 [(.l (-1)), (.slen 0), (.l 0)] [] [(.va 0), (.va 1), (.va 2)])))
def revealed_lowered_t1 : PT :=
 (.ite (.lt (.a 2) (.a 1))
  (.need (.is 0 0)
  (.jump 2 [(.l (-1)), (.a 1), (.a 2), (.slen 0), (.l 0)] [] [(.va 0), (.va 1), (.va 2)]))
  (.ite (.lt (.a 0) (.l 0))
   (.ret true (.tup [(.va 1), .nilS]) [])
   (.call 63 [(.va 2), (.int .i64 (.a 0))] [] [(.one .val)]
   (.ret true (.tup [.nilS, (.va 3)]) []))))
def revealed_lowered_t2 : PT :=
 (.ite (.lt (.a 4) (.a 3))
  (.need (.is 0 0)
  (.jump 3 [(.a 0), (.a 4), (.a 1), (.a 2), (.a 3), (.slen 0), (.l 0)] [] [(.va 0), (.va 1), (.va 2)]))
  (.ite (.lt (.a 0) (.l 0))
   (.ite (.lt (.a 0) (.l 0))
    (.ret true (.tup [(.va 1), .nilS]) [])
    (.call 63 [(.va 2), (.int .i64 (.a 0))] [] [(.one .val)]
    (.ret true (.tup [.nilS, (.va 3)]) [])))
   (.need (.and (.le (.l (-9223372036854775808)) (.add (.a 2) (.l 1))) (.le (.add (.a 2) (.l 1)) (.l 9223372036854775807)))
   (.jump 1 [(.a 0), (.a 1), (.add (.a 2) (.l 1))] [] [(.va 0), (.va 1), (.va 2)]))))
def revealed_lowered_t3_b1 : PT :=
 (.load false (.ea 0 (.a 1) 12 0) [(.int .i64), (.int .i64), (.int .i64), (.int .i64), (.int .i64), (.int .i64), (.int .i64), (.int .i64), (.int .i64), (.int .i64), (.int .i64), (.int .i64)]
    (.load false (.ea 0 (.a 6) 12 0) [(.int .i64), (.int .i64), (.int .i64), (.int .i64), (.int .i64), (.int .i64), (.int .i64), (.int .i64), (.int .i64), (.int .i64), (.int .i64), (.int .i64)]
    (.call 48 [(.agg [(.int .i64 (.a 8)), (.int .i64 (.a 9)), (.int .i64 (.a 10)), (.int .i64 (.a 11)), (.int .i64 (.a 12)), (.int .i64 (.a 13)), (.int .i64 (.a 14)), (.int .i64 (.a 15)), (.int .i64 (.a 16)), (.int .i64 (.a 17)), (.int .i64 (.a 18)), (.int .i64 (.a 19))]), (.agg [(.int .i64 (.a 20)), (.int .i64 (.a 21)), (.int .i64 (.a 22)), (.int .i64 (.a 23)), (.int .i64 (.a 24)), (.int .i64 (.a 25)), (.int .i64 (.a 26)), (.int .i64 (.a 27)), (.int .i64 (.a 28)), (.int .i64 (.a 29)), (.int .i64 (.a 30)), (.int .i64 (.a 31))])] [] [(.one (.int .i64))]
    (.need (.and (.le (.l (-9223372036854775808)) (.add (.a 7) (.a 32))) (.le (.add (.a 7) (.a 32)) (.l 9223372036854775807)))
    (.need (.and (.le (.l 0) (.a 6)) (.lt (.a 6) (.slen 1)))
    (.load false (.ea 1 (.a 6) 1 0) [(.int .i64)]
    (.ite (.lt (.add (.a 7) (.a 32)) (.a 33))
     (.need (.and (.le (.l 0) (.a 6)) (.lt (.a 6) (.slen 1)))
     (.storeM (.ea 1 (.a 6) 1 0) [(.int .i64 (.add (.a 7) (.a 32)))]
     (.need (.and (.le (.l 0) (.a 6)) (.lt (.a 6) (.slen 2)))
     (.storeM (.ea 2 (.a 6) 1 0) [(.int .i64 (.a 1))]
     (.need (.and (.le (.l (-9223372036854775808)) (.add (.a 6) (.l 1))) (.le (.add (.a 6) (.l 1)) (.l 9223372036854775807)))
     (.jump 3 [(.a 6), (.a 1), (.a 2), (.a 3), (.a 4), (.a 5), (.add (.a 6) (.l 1))] [] [(.va 0), (.va 1), (.va 2)]))))))
     (.need (.and (.le (.l (-9223372036854775808)) (.add (.a 6) (.l 1))) (.le (.add (.a 6) (.l 1)) (.l 9223372036854775807)))
     (.jump 3 [(.a 0), (.a 1), (.a 2), (.a 3), (.a 4), (.a 5), (.add (.a 6) (.l 1))] [] [(.va 0), (.va 1), (.va 2)])))))))))
def revealed_lowered_t3_b2 : PT :=
 (.load false (.ea 0 (.a 6) 12 0) [(.int .i64), (.int .i64), (.int .i64), (.int .i64), (.int .i64), (.int .i64), (.int .i64), (.int .i64), (.int .i64), (.int .i64), (.int .i64), (.int .i64)]
    (.load false (.ea 0 (.a 1) 12 0) [(.int .i64), (.int .i64), (.int .i64), (.int .i64), (.int .i64), (.int .i64), (.int .i64), (.int .i64), (.int .i64), (.int .i64), (.int .i64), (.int .i64)]
    (.call 48 [(.agg [(.int .i64 (.a 20)), (.int .i64 (.a 21)), (.int .i64 (.a 22)), (.int .i64 (.a 23)), (.int .i64 (.a 24)), (.int .i64 (.a 25)), (.int .i64 (.a 26)), (.int .i64 (.a 27)), (.int .i64 (.a 28)), (.int .i64 (.a 29)), (.int .i64 (.a 30)), (.int .i64 (.a 31))]), (.agg [(.int .i64 (.a 8)), (.int .i64 (.a 9)), (.int .i64 (.a 10)), (.int .i64 (.a 11)), (.int .i64 (.a 12)), (.int .i64 (.a 13)), (.int .i64 (.a 14)), (.int .i64 (.a 15)), (.int .i64 (.a 16)), (.int .i64 (.a 17)), (.int .i64 (.a 18)), (.int .i64 (.a 19))])] [] [(.one (.int .i64))]
    (.need (.and (.le (.l (-9223372036854775808)) (.add (.a 7) (.a 32))) (.le (.add (.a 7) (.a 32)) (.l 9223372036854775807)))
    (.need (.and (.le (.l 0) (.a 6)) (.lt (.a 6) (.slen 1)))
    (.load false (.ea 1 (.a 6) 1 0) [(.int .i64)]
    (.ite (.lt (.add (.a 7) (.a 32)) (.a 33))
     (.need (.and (.le (.l 0) (.a 6)) (.lt (.a 6) (.slen 1)))
     (.storeM (.ea 1 (.a 6) 1 0) [(.int .i64 (.add (.a 7) (.a 32)))]
     (.need (.and (.le (.l 0) (.a 6)) (.lt (.a 6) (.slen 2)))
     (.storeM (.ea 2 (.a 6) 1 0) [(.int .i64 (.a 1))]
     (.need (.and (.le (.l (-9223372036854775808)) (.add (.a 6) (.l 1))) (.le (.add (.a 6) (.l 1)) (.l 9223372036854775807)))
     (.jump 3 [(.a 6), (.a 1), (.a 2), (.a 3), (.a 4), (.a 5), (.add (.a 6) (.l 1))] [] [(.va 0), (.va 1), (.va 2)]))))))
     (.need (.and (.le (.l (-9223372036854775808)) (.add (.a 6) (.l 1))) (.le (.add (.a 6) (.l 1)) (.l 9223372036854775807)))
     (.jump 3 [(.a 0), (.a 1), (.a 2), (.a 3), (.a 4), (.a 5), (.add (.a 6) (.l 1))] [] [(.va 0), (.va 1), (.va 2)])))))))))
def revealed_lowered_t3_b3 : PT :=
 (.load false (.ea 1 (.a 1) 1 0) [(.int .i64)]
   (.both revealed_lowered_t3_b1 revealed_lowered_t3_b2))
def revealed_lowered_t3_b4 : PT :=
 (.load false (.ea 1 (.a 1) 1 0) [(.int .i64)]
     (.load false (.ea 0 (.a 6) 12 0) [(.int .i64), (.int .i64), (.int .i64), (.int .i64), (.int .i64), (.int .i64), (.int .i64), (.int .i64), (.int .i64), (.int .i64), (.int .i64), (.int .i64)]
     (.call 48 [(.agg [(.int .i64 (.a 7)), (.int .i64 (.a 8)), (.int .i64 (.a 9)), (.int .i64 (.a 10)), (.int .i64 (.a 11)), (.int .i64 (.a 12)), (.int .i64 (.a 13)), (.int .i64 (.a 14)), (.int .i64 (.a 15)), (.int .i64 (.a 16)), (.int .i64 (.a 17)), (.int .i64 (.a 18))]), (.agg [(.int .i64 (.a 20)), (.int .i64 (.a 21)), (.int .i64 (.a 22)), (.int .i64 (.a 23)), (.int .i64 (.a 24)), (.int .i64 (.a 25)), (.int .i64 (.a 26)), (.int .i64 (.a 27)), (.int .i64 (.a 28)), (.int .i64 (.a 29)), (.int .i64 (.a 30)), (.int .i64 (.a 31))])] [] [(.one (.int .i64))]
     (.need (.and (.le (.l (-9223372036854775808)) (.add (.a 19) (.a 32))) (.le (.add (.a 19) (.a 32)) (.l 9223372036854775807)))
     (.need (.and (.le (.l 0) (.a 6)) (.lt (.a 6) (.slen 1)))
     (.load false (.ea 1 (.a 6) 1 0) [(.int .i64)]
     (.ite (.lt (.add (.a 19) (.a 32)) (.a 33))
      (.need (.and (.le (.l 0) (.a 6)) (.lt (.a 6) (.slen 1)))
      (.storeM (.ea 1 (.a 6) 1 0) [(.int .i64 (.add (.a 19) (.a 32)))]
      (.need (.and (.le (.l 0) (.a 6)) (.lt (.a 6) (.slen 2)))
      (.storeM (.ea 2 (.a 6) 1 0) [(.int .i64 (.a 1))]
      (.need (.and (.le (.l (-9223372036854775808)) (.add (.a 6) (.l 1))) (.le (.add (.a 6) (.l 1)) (.l 9223372036854775807)))
      (.jump 3 [(.a 6), (.a 1), (.a 2), (.a 3), (.a 4), (.a 5), (.add (.a 6) (.l 1))] [] [(.va 0), (.va 1), (.va 2)]))))))
      (.need (.and (.le (.l (-9223372036854775808)) (.add (.a 6) (.l 1))) (.le (.add (.a 6) (.l 1)) (.l 9223372036854775807)))
      (.jump 3 [(.a 0), (.a 1), (.a 2), (.a 3), (.a 4), (.a 5), (.add (.a 6) (.l 1))] [] [(.va 0), (.va 1), (.va 2)])))))))))
def revealed_lowered_t3_b5 : PT :=
 (.load false (.ea 1 (.a 1) 1 0) [(.int .i64)]
      (.call 48 [(.agg [(.int .i64 (.a 7)), (.int .i64 (.a 8)), (.int .i64 (.a 9)), (.int .i64 (.a 10)), (.int .i64 (.a 11)), (.int .i64 (.a 12)), (.int .i64 (.a 13)), (.int .i64 (.a 14)), (.int .i64 (.a 15)), (.int .i64 (.a 16)), (.int .i64 (.a 17)), (.int .i64 (.a 18))]), (.agg [(.int .i64 (.a 19)), (.int .i64 (.a 20)), (.int .i64 (.a 21)), (.int .i64 (.a 22)), (.int .i64 (.a 23)), (.int .i64 (.a 24)), (.int .i64 (.a 25)), (.int .i64 (.a 26)), (.int .i64 (.a 27)), (.int .i64 (.a 28)), (.int .i64 (.a 29)), (.int .i64 (.a 30))])] [] [(.one (.int .i64))]
      (.need (.and (.le (.l (-9223372036854775808)) (.add (.a 31) (.a 32))) (.le (.add (.a 31) (.a 32)) (.l 9223372036854775807)))
      (.need (.and (.le (.l 0) (.a 6)) (.lt (.a 6) (.slen 1)))
      (.load false (.ea 1 (.a 6) 1 0) [(.int .i64)]
      (.ite (.lt (.add (.a 31) (.a 32)) (.a 33))
       (.need (.and (.le (.l 0) (.a 6)) (.lt (.a 6) (.slen 1)))
       (.storeM (.ea 1 (.a 6) 1 0) [(.int .i64 (.add (.a 31) (.a 32)))]
       (.need (.and (.le (.l 0) (.a 6)) (.lt (.a 6) (.slen 2)))
       (.storeM (.ea 2 (.a 6) 1 0) [(.int .i64 (.a 1))]
       (.need (.and (.le (.l (-9223372036854775808)) (.add (.a 6) (.l 1))) (.le (.add (.a 6) (.l 1)) (.l 9223372036854775807)))
       (.jump 3 [(.a 6), (.a 1), (.a 2), (.a 3), (.a 4), (.a 5), (.add (.a 6) (.l 1))] [] [(.va 0), (.va 1), (.va 2)]))))))
       (.need (.and (.le (.l (-9223372036854775808)) (.add (.a 6) (.l 1))) (.le (.add (.a 6) (.l 1)) (.l 9223372036854775807)))
       (.jump 3 [(.a 0), (.a 1), (.a 2), (.a 3), (.a 4), (.a 5), (.add (.a 6) (.l 1))] [] [(.va 0), (.va 1), (.va 2)]))))))))
def revealed_lowered_t3_b6 : PT :=
 (.call 48 [(.agg [(.int .i64 (.a 7)), (.int .i64 (.a 8)), (.int .i64 (.a 9)), (.int .i64 (.a 10)), (.int .i64 (.a 11)), (.int .i64 (.a 12)), (.int .i64 (.a 13)), (.int .i64 (.a 14)), (.int .i64 (.a 15)), (.int .i64 (.a 16)), (.int .i64 (.a 17)), (.int .i64 (.a 18))]), (.agg [(.int .i64 (.a 19)), (.int .i64 (.a 20)), (.int .i64 (.a 21)), (.int .i64 (.a 22)), (.int .i64 (.a 23)), (.int .i64 (.a 24)), (.int .i64 (.a 25)), (.int .i64 (.a 26)), (.int .i64 (.a 27)), (.int .i64 (.a 28)), (.int .i64 (.a 29)), (.int .i64 (.a 30))])] [] [(.one (.int .i64))]
      (.load false (.ea 1 (.a 1) 1 0) [(.int .i64)]
      (.need (.and (.le (.l (-9223372036854775808)) (.add (.a 32) (.a 31))) (.le (.add (.a 32) (.a 31)) (.l 9223372036854775807)))
      (.need (.and (.le (.l 0) (.a 6)) (.lt (.a 6) (.slen 1)))
      (.load false (.ea 1 (.a 6) 1 0) [(.int .i64)]
      (.ite (.lt (.add (.a 32) (.a 31)) (.a 33))
       (.need (.and (.le (.l 0) (.a 6)) (.lt (.a 6) (.slen 1)))
       (.storeM (.ea 1 (.a 6) 1 0) [(.int .i64 (.add (.a 32) (.a 31)))]
       (.need (.and (.le (.l 0) (.a 6)) (.lt (.a 6) (.slen 2)))
       (.storeM (.ea 2 (.a 6) 1 0) [(.int .i64 (.a 1))]
       (.need (.and (.le (.l (-9223372036854775808)) (.add (.a 6) (.l 1))) (.le (.add (.a 6) (.l 1)) (.l 9223372036854775807)))
       (.jump 3 [(.a 6), (.a 1), (.a 2), (.a 3), (.a 4), (.a 5), (.add (.a 6) (.l 1))] [] [(.va 0), (.va 1), (.va 2)]))))))
       (.need (.and (.le (.l (-9223372036854775808)) (.add (.a 6) (.l 1))) (.le (.add (.a 6) (.l 1)) (.l 9223372036854775807)))
       (.jump 3 [(.a 0), (.a 1), (.a 2), (.a 3), (.a 4), (.a 5), (.add (.a 6) (.l 1))] [] [(.va 0), (.va 1), (.va 2)]))))))))
def revealed_lowered_t3_b7 : PT :=
 (.load false (.ea 0 (.a 6) 12 0) [(.int .i64), (.int .i64), (.int .i64), (.int .i64), (.int .i64), (.int .i64), (.int .i64), (.int .i64), (.int .i64), (.int .i64), (.int .i64), (.int .i64)]
     (.both revealed_lowered_t3_b5 revealed_lowered_t3_b6))
def revealed_lowered_t3_b8 : PT :=
 (.load false (.ea 0 (.a 1) 12 0) [(.int .i64), (.int .i64), (.int .i64), (.int .i64), (.int .i64), (.int .i64), (.int .i64), (.int .i64), (.int .i64), (.int .i64), (.int .i64), (.int .i64)]
    (.both revealed_lowered_t3_b4 revealed_lowered_t3_b7))
def revealed_lowered_t3_b9 : PT :=
 (.load false (.ea 1 (.a 1) 1 0) [(.int .i64)]
     (.load false (.ea 0 (.a 1) 12 0) [(.int .i64), (.int .i64), (.int .i64), (.int .i64), (.int .i64), (.int .i64), (.int .i64), (.int .i64), (.int .i64), (.int .i64), (.int .i64), (.int .i64)]
     (.call 48 [(.agg [(.int .i64 (.a 20)), (.int .i64 (.a 21)), (.int .i64 (.a 22)), (.int .i64 (.a 23)), (.int .i64 (.a 24)), (.int .i64 (.a 25)), (.int .i64 (.a 26)), (.int .i64 (.a 27)), (.int .i64 (.a 28)), (.int .i64 (.a 29)), (.int .i64 (.a 30)), (.int .i64 (.a 31))]), (.agg [(.int .i64 (.a 7)), (.int .i64 (.a 8)), (.int .i64 (.a 9)), (.int .i64 (.a 10)), (.int .i64 (.a 11)), (.int .i64 (.a 12)), (.int .i64 (.a 13)), (.int .i64 (.a 14)), (.int .i64 (.a 15)), (.int .i64 (.a 16)), (.int .i64 (.a 17)), (.int .i64 (.a 18))])] [] [(.one (.int .i64))]
     (.need (.and (.le (.l (-9223372036854775808)) (.add (.a 19) (.a 32))) (.le (.add (.a 19) (.a 32)) (.l 9223372036854775807)))
     (.need (.and (.le (.l 0) (.a 6)) (.lt (.a 6) (.slen 1)))
     (.load false (.ea 1 (.a 6) 1 0) [(.int .i64)]
     (.ite (.lt (.add (.a 19) (.a 32)) (.a 33))
      (.need (.and (.le (.l 0) (.a 6)) (.lt (.a 6) (.slen 1)))
      (.storeM (.ea 1 (.a 6) 1 0) [(.int .i64 (.add (.a 19) (.a 32)))]
      (.need (.and (.le (.l 0) (.a 6)) (.lt (.a 6) (.slen 2)))
      (.storeM (.ea 2 (.a 6) 1 0) [(.int .i64 (.a 1))]
      (.need (.and (.le (.l (-9223372036854775808)) (.add (.a 6) (.l 1))) (.le (.add (.a 6) (.l 1)) (.l 9223372036854775807)))
      (.jump 3 [(.a 6), (.a 1), (.a 2), (.a 3), (.a 4), (.a 5), (.add (.a 6) (.l 1))] [] [(.va 0), (.va 1), (.va 2)]))))))
      (.need (.and (.le (.l (-9223372036854775808)) (.add (.a 6) (.l 1))) (.le (.add (.a 6) (.l 1)) (.l 9223372036854775807)))
      (.jump 3 [(.a 0), (.a 1), (.a 2), (.a 3), (.a 4), (.a 5), (.add (.a 6) (.l 1))] [] [(.va 0), (.va 1), (.va 2)])))))))))
def revealed_lowered_t3_b10 : PT :=
 (.load false (.ea 1 (.a 1) 1 0) [(.int .i64)]
      (.call 48 [(.agg [(.int .i64 (.a 19)), (.int .i64 (.a 20)), (.int .i64 (.a 21)), (.int .i64 (.a 22)), (.int .i64 (.a 23)), (.int .i64 (.a 24)), (.int .i64 (.a 25)), (.int .i64 (.a 26)), (.int .i64 (.a 27)), (.int .i64 (.a 28)), (.int .i64 (.a 29)), (.int .i64 (.a 30))]), (.agg [(.int .i64 (.a 7)), (.int .i64 (.a 8)), (.int .i64 (.a 9)), (.int .i64 (.a 10)), (.int .i64 (.a 11)), (.int .i64 (.a 12)), (.int .i64 (.a 13)), (.int .i64 (.a 14)), (.int .i64 (.a 15)), (.int .i64 (.a 16)), (.int .i64 (.a 17)), (.int .i64 (.a 18))])] [] [(.one (.int .i64))]
      (.need (.and (.le (.l (-9223372036854775808)) (.add (.a 31) (.a 32))) (.le (.add (.a 31) (.a 32)) (.l 9223372036854775807)))
      (.need (.and (.le (.l 0) (.a 6)) (.lt (.a 6) (.slen 1)))
      (.load false (.ea 1 (.a 6) 1 0) [(.int .i64)]
      (.ite (.lt (.add (.a 31) (.a 32)) (.a 33))
       (.need (.and (.le (.l 0) (.a 6)) (.lt (.a 6) (.slen 1)))
       (.storeM (.ea 1 (.a 6) 1 0) [(.int .i64 (.add (.a 31) (.a 32)))]
       (.need (.and (.le (.l 0) (.a 6)) (.lt (.a 6) (.slen 2)))
       (.storeM (.ea 2 (.a 6) 1 0) [(.int .i64 (.a 1))]
       (.need (.and (.le (.l (-9223372036854775808)) (.add (.a 6) (.l 1))) (.le (.add (.a 6) (.l 1)) (.l 9223372036854775807)))
       (.jump 3 [(.a 6), (.a 1), (.a 2), (.a 3), (.a 4), (.a 5), (.add (.a 6) (.l 1))] [] [(.va 0), (.va 1), (.va 2)]))))))
       (.need (.and (.le (.l (-9223372036854775808)) (.add (.a 6) (.l 1))) (.le (.add (.a 6) (.l 1)) (.l 9223372036854775807)))
       (.jump 3 [(.a 0), (.a 1), (.a 2), (.a 3), (.a 4), (.a 5), (.add (.a 6) (.l 1))] [] [(.va 0), (.va 1), (.va 2)]))))))))
def revealed_lowered_t3_b11 : PT :=
 (.call 48 [(.agg [(.int .i64 (.a 19)), (.int .i64 (.a 20)), (.int .i64 (.a 21)), (.int .i64 (.a 22)), (.int .i64 (.a 23)), (.int .i64 (.a 24)), (.int .i64 (.a 25)), (.int .i64 (.a 26)), (.int .i64 (.a 27)), (.int .i64 (.a 28)), (.int .i64 (.a 29)), (.int .i64 (.a 30))]), (.agg [(.int .i64 (.a 7)), (.int .i64 (.a 8)), (.int .i64 (.a 9)), (.int .i64 (.a 10)), (.int .i64 (.a 11)), (.int .i64 (.a 12)), (.int .i64 (.a 13)), (.int .i64 (.a 14)), (.int .i64 (.a 15)), (.int .i64 (.a 16)), (.int .i64 (.a 17)), (.int .i64 (.a 18))])] [] [(.one (.int .i64))]
      (.load false (.ea 1 (.a 1) 1 0) [(.int .i64)]
      (.need (.and (.le (.l (-9223372036854775808)) (.add (.a 32) (.a 31))) (.le (.add (.a 32) (.a 31)) (.l 9223372036854775807)))
      (.need (.and (.le (.l 0) (.a 6)) (.lt (.a 6) (.slen 1)))
      (.load false (.ea 1 (.a 6) 1 0) [(.int .i64)]
      (.ite (.lt (.add (.a 32) (.a 31)) (.a 33))
       (.need (.and (.le (.l 0) (.a 6)) (.lt (.a 6) (.slen 1)))
       (.storeM (.ea 1 (.a 6) 1 0) [(.int .i64 (.add (.a 32) (.a 31)))]
       (.need (.and (.le (.l 0) (.a 6)) (.lt (.a 6) (.slen 2)))
       (.storeM (.ea 2 (.a 6) 1 0) [(.int .i64 (.a 1))]
       (.need (.and (.le (.l (-9223372036854775808)) (.add (.a 6) (.l 1))) (.le (.add (.a 6) (.l 1)) (.l 9223372036854775807)))
       (.jump 3 [(.a 6), (.a 1), (.a 2), (.a 3), (.a 4), (.a 5), (.add (.a 6) (.l 1))] [] [(.va 0), (.va 1), (.va 2)]))))))
       (.need (.and (.le (.l (-9223372036854775808)) (.add (.a 6) (.l 1))) (.le (.add (.a 6) (.l 1)) (.l 9223372036854775807)))
       (.jump 3 [(.a 0), (.a 1), (.a 2), (.a 3), (.a 4), (.a 5), (.add (.a 6) (.l 1))] [] [(.va 0), (.va 1), (.va 2)]))))))))
def revealed_lowered_t3_b12 : PT :=
 (.load false (.ea 0 (.a 1) 12 0) [(.int .i64), (.int .i64), (.int .i64), (.int .i64), (.int .i64), (.int .i64), (.int .i64), (.int .i64), (.int .i64), (.int .i64), (.int .i64), (.int .i64)]
     (.both revealed_lowered_t3_b10 revealed_lowered_t3_b11))
def revealed_lowered_t3_b13 : PT :=
 (.load false (.ea 0 (.a 6) 12 0) [(.int .i64), (.int .i64), (.int .i64), (.int .i64), (.int .i64), (.int .i64), (.int .i64), (.int .i64), (.int .i64), (.int .i64), (.int .i64), (.int .i64)]
    (.both revealed_lowered_t3_b9 revealed_lowered_t3_b12))
def revealed_lowered_t3_b14 : PT :=
 (.both revealed_lowered_t3_b8 revealed_lowered_t3_b13)
def revealed_lowered_t3 : PT :=
 (.ite (.lt (.a 6) (.a 5))
  (.need (.and (.le (.l 0) (.a 1)) (.lt (.a 1) (.slen 1)))
  (.need (.and (.le (.l 0) (.a 1)) (.lt (.a 1) (.slen 0)))
  (.need (.and (.le (.l 0) (.a 6)) (.lt (.a 6) (.slen 0)))
  (.both revealed_lowered_t3_b3 revealed_lowered_t3_b14))))
  (.need (.and (.le (.l (-9223372036854775808)) (.add (.a 1) (.l 1))) (.le (.add (.a 1) (.l 1)) (.l 9223372036854775807)))
  (.jump 2 [(.a 0), (.a 2), (.a 3), (.a 4), (.add (.a 1) (.l 1))] [] [(.va 0), (.va 1), (.va 2)])))
def revealed_lowered_S : Sx.Sys := ⟨[(.sh (.one .val))], revealed_lowered_s, [revealed_lowered_t0, revealed_lowered_t1, revealed_lowered_t2, revealed_lowered_t3], none⟩
def revealed_lowered_pats : List Cfg := [{ todo := [(.code [false, false, true, false, true, true, false, true]), (.inLoop [false, false, true, false, true, true, false, true]), (.inBlock 0), (.code [true, true, true, false, true]), (.inScope [false, true])], sl := [(.va 0), .undef, (.junk 0), (.junk 1), (.va 1), (.va 2), (.junk 2), .undef, .undef, .undef, .undef, (.junk 3), (.junk 4), (.junk 5), (.junk 6), (.junk 7), (.junk 8), (.junk 9), (.int .i64 (.a 0)), (.int .i64 (.a 1)), (.junk 10), (.junk 11), (.junk 12), (.junk 13), (.junk 14), (.junk 15), .undef, .undef, .undef, .undef, .undef, .undef, .undef, .undef, .undef, .undef, .undef, .undef, .undef, .undef, .undef, .undef, .undef, .undef, .undef, .undef, .undef, .undef, .undef, .undef, .undef, .undef, .undef, .undef, .undef, .undef, .undef, .undef, .undef, .undef, .undef, .undef, .undef, .undef, .undef, .undef, .undef, .undef, .undef, .undef, .undef, .undef, .undef, .undef, .undef, .undef, .undef, .undef, .undef, .undef], H := [], ni := 2, nb := 0, nv := 3, nj := 16 },
 { todo := [(.code [false, false, true, false, true, true, true, true, true, false, true]), (.inLoop [false, false, true, false, true, true, true, true, true, false, true]), (.inBlock 2), (.code [true, true, true, true, true, true, false, true]), (.inScope [false, true])], sl := [(.va 0), .undef, (.junk 0), (.junk 1), (.va 1), (.va 2), (.junk 2), (.int .i64 (.a 0)), (.junk 3), (.junk 4), (.junk 5), (.junk 6), (.junk 7), (.junk 8), (.junk 9), (.junk 10), (.junk 11), (.junk 12), (.junk 13), (.junk 14), (.junk 15), (.junk 16), (.junk 17), (.junk 18), (.junk 19), (.junk 20), (.junk 21), (.int .i64 (.a 1)), (.int .i64 (.a 2)), (.junk 22), (.junk 23), (.junk 24), (.junk 25), (.junk 26), (.junk 27), (.junk 28), (.junk 29), (.junk 30), (.junk 31), (.junk 32), (.junk 33), (.junk 34), (.junk 35), (.junk 36), (.junk 37), (.junk 38), (.junk 39), (.junk 40), (.junk 41), (.junk 42), (.junk 43), (.junk 44), (.junk 45), (.junk 46), (.junk 47), (.junk 48), (.junk 49), (.junk 50), (.junk 51), (.junk 52), (.junk 53), (.junk 54), (.junk 55), (.junk 56), (.junk 57), (.junk 58), (.junk 59), (.junk 60), (.junk 61), (.junk 62), (.junk 63), (.junk 64), (.junk 65), (.junk 66), .undef, .undef, .undef, .undef, .undef, .undef], H := [], ni := 3, nb := 0, nv := 3, nj := 67 },
 { todo := [(.code [false, false, true, false, true, false, false, true, true, false, false, true, false, true, true, true, true, true, false, true]), (.inLoop [false, false, true, false, true, false, false, true, true, false, false, true, false, true, true, true, true, true, false, true]), (.inBlock 4), (.code [true, true, false, false, true, true, false, false, true, false, true, true, true, true, true, false, true]), (.inBlock 3), (.code [true, true, true, false, false, true, false, true, true, true, true, true, false, true]), (.inLoop [false, false, true, false, true, true, true, true, true, false, true]), (.inBlock 2), (.code [true, true, true, true, true, true, false, true]), (.inScope [false, true])], sl := [(.va 0), .undef, (.junk 0), (.junk 1), (.va 1), (.va 2), (.junk 2), (.int .i64 (.a 0)), (.junk 3), (.junk 4), (.junk 5), (.junk 6), (.junk 7), (.junk 8), (.junk 9), (.junk 10), (.junk 11), (.junk 12), (.junk 13), (.junk 14), (.junk 15), (.junk 16), (.junk 17), (.junk 18), (.junk 19), (.junk 20), (.junk 21), (.int .i64 (.a 1)), (.int .i64 (.a 2)), (.junk 22), (.junk 23), (.int .i64 (.a 3)), (.int .i64 (.a 4)), (.junk 24), (.junk 25), (.junk 26), (.junk 27), (.junk 28), (.junk 29), (.junk 30), (.junk 31), (.junk 32), (.junk 33), (.junk 34), (.junk 35), (.junk 36), (.junk 37), (.junk 38), (.junk 39), (.junk 40), (.junk 41), (.junk 42), (.junk 43), (.junk 44), (.junk 45), (.junk 46), (.junk 47), (.junk 48), (.junk 49), (.junk 50), (.junk 51), (.junk 52), (.junk 53), (.junk 54), (.junk 55), (.junk 56), (.junk 57), (.junk 58), (.junk 59), (.junk 60), (.junk 61), (.junk 62), (.junk 63), (.junk 64), .undef, .undef, .undef, .undef, .undef, .undef], H := [], ni := 5, nb := 0, nv := 3, nj := 65 },
 { todo := [(.code [false, false, true, true, false, false, true, true, false, false, true, false, true, false, false, true, true, false, false, true, false, true, true, true, true, true, false, true]), (.inLoop [false, false, true, true, false, false, true, true, false, false, true, false, true, false, false, true, true, false, false, true, false, true, true, true, true, true, false, true]), (.inBlock 6), (.inBlock 5), (.code [true, true, true, false, false, true, false, true, false, false, true, true, false, false, true, false, true, true, true, true, true, false, true]), (.inLoop [false, false, true, false, true, false, false, true, true, false, false, true, false, true, true, true, true, true, false, true]), (.inBlock 4), (.code [true, true, false, false, true, true, false, false, true, false, true, true, true, true, true, false, true]), (.inBlock 3), (.code [true, true, true, false, false, true, false, true, true, true, true, true, false, true]), (.inLoop [false, false, true, false, true, true, true, true, true, false, true]), (.inBlock 2), (.code [true, true, true, true, true, true, false, true]), (.inScope [false, true])], sl := [(.va 0), .undef, (.junk 0), (.junk 1), (.va 1), (.va 2), (.junk 2), (.int .i64 (.a 0)), (.int .i64 (.a 1)), (.junk 3), (.junk 4), (.junk 5), (.junk 6), (.junk 7), (.junk 8), (.junk 9), (.junk 10), (.junk 11), (.junk 12), (.junk 13), (.junk 14), (.junk 15), (.junk 16), (.junk 17), (.junk 18), (.junk 19), (.junk 20), (.int .i64 (.a 2)), (.int .i64 (.a 3)), (.junk 21), (.junk 22), (.int .i64 (.a 4)), (.int .i64 (.a 1)), (.junk 23), (.junk 24), (.junk 25), (.int .i64 (.a 5)), (.int .i64 (.a 6)), (.junk 26), (.junk 27), (.junk 28), (.junk 29), (.junk 30), (.junk 31), (.junk 32), (.junk 33), (.junk 34), (.junk 35), (.junk 36), (.junk 37), (.junk 38), (.junk 39), (.junk 40), (.junk 41), (.junk 42), (.junk 43), (.junk 44), (.junk 45), (.junk 46), (.junk 47), (.junk 48), (.junk 49), (.junk 50), (.junk 51), (.junk 52), (.junk 53), (.junk 54), (.junk 55), (.junk 56), (.junk 57), (.junk 58), (.junk 59), (.junk 60), (.junk 61), .undef, .undef, .undef, .undef, .undef, .undef], H := [], ni := 7, nb := 0, nv := 3, nj := 62 }]
theorem revealed_lowered_ok : SysOk Try.prog 40 revealed_lowered_S := sys_ok (c := (cg [[false, false, true, false, true, true, false, true], [false, false, true, false, true, true, true, true, true, false, true], [false, false, true, false, true, false, false, true, true, false, false, true, false, true, true, true, true, true, false, true], [false, false, true, true, false, false, true, true, false, false, true, false, true, false, false, true, true, false, false, true, false, true, true, true, true, true, false, true]] [] [] true true false true)) (progOkG _ _ _ _ _ _ _ _) Try.func40 Try.call40 (by kernel_rfl) revealed_lowered_pats revealed_lowered_S 5000 rfl (by kernel_rfl) (by kernel_rfl) rfl
def revealed_gain_s : PT :=
 (.call 41 [(.agg [(.int .i64 (.a 0)), (.int .i64 (.a 1)), (.int .i64 (.a 2)), (.int .i64 (.a 3)), (.int .i64 (.a 4)), (.int .i64 (.a 5))]), (.agg [(.int .i64 (.a 18)), (.int .i64 (.a 19)), (.int .i64 (.a 20)), (.int .i64 (.a 21)), (.int .i64 (.a 22)), (.int .i64 (.a 23))])] [] [(.one (.int .i64))]
 (.call 41 [(.agg [(.int .i64 (.a 0)), (.int .i64 (.a 1)), (.int .i64 (.a 2)), (.int .i64 (.a 3)), (.int .i64 (.a 4)), (.int .i64 (.a 5))]), (.agg [(.int .i64 (.a 6)), (.int .i64 (.a 7)), (.int .i64 (.a 8)), (.int .i64 (.a 9)), (.int .i64 (.a 10)), (.int .i64 (.a 11))])] [] [(.one (.int .i64))]
 (.need (.and (.le (.l (-9223372036854775808)) (.sub (.a 24) (.a 25))) (.le (.sub (.a 24) (.a 25)) (.l 9223372036854775807)))
 (.ret false (.int .i64 (.sub (.a 24) (.a 25))) []))))
def revealed_gain_S : Sx.Sys := ⟨[(.sh (.agg [(.int .i64), (.int .i64), (.int .i64), (.int .i64), (.int .i64), (.int .i64), (.int .i64), (.int .i64), (.int .i64), (.int .i64), (.int .i64), (.int .i64)])), (.sh (.agg [(.int .i64), (.int .i64), (.int .i64), (.int .i64), (.int .i64), (.int .i64), (.int .i64), (.int .i64), (.int .i64), (.int .i64), (.int .i64), (.int .i64)]))], revealed_gain_s, [], none⟩
def revealed_gain_pats : List Cfg := []
theorem revealed_gain_ok : SysOk Try.prog 48 revealed_gain_S := sys_ok (c := (cg [] [] [] false false false true)) (progOkG _ _ _ _ _ _ _ _) Try.func48 Try.call48 (by kernel_rfl) revealed_gain_pats revealed_gain_S 5000 rfl (by kernel_rfl) (by kernel_rfl) rfl
def activity_Accept_1_s : PT :=
 (.ret false (.bool (.and (.eq (.a 6) (.l 0)) (.and (.eq (.a 7) (.l 0)) (.and (.eq (.a 8) (.l 0)) (.and (.eq (.a 9) (.l 0)) (.and (.eq (.a 10) (.l 0)) (.eq (.a 11) (.l 0)))))))) [])
def activity_Accept_1_S : Sx.Sys := ⟨[(.sh (.agg [(.int .i64), (.int .i64), (.int .i64), (.int .i64), (.int .i64), (.int .i64), (.int .i64), (.int .i64), (.int .i64), (.int .i64), (.int .i64), (.int .i64)]))], activity_Accept_1_s, [], none⟩
def activity_Accept_1_pats : List Cfg := []
theorem activity_Accept_1_ok : SysOk Try.prog 56 activity_Accept_1_S := sys_ok (c := (cg [] [] [] false false false true)) (progOkG _ _ _ _ _ _ _ _) Try.func56 Try.call56 (by kernel_rfl) activity_Accept_1_pats activity_Accept_1_S 5000 rfl (by kernel_rfl) (by kernel_rfl) rfl
def saleroomref07_Prices_s : PT :=
 (.ite (.lt (.a 0) (.l 0))
  (.ret false (.bool (.t false)) [])
  (.ite (.lt (.l 1000000) (.a 0))
   (.ret false (.bool (.t false)) [])
   (.ite (.lt (.a 1) (.l 0))
    (.ret false (.bool (.t false)) [])
    (.ite (.lt (.l 1000000) (.a 1))
     (.ret false (.bool (.t false)) [])
     (.ite (.lt (.a 2) (.l 0))
      (.ret false (.bool (.t false)) [])
      (.ite (.lt (.l 1000000) (.a 2))
       (.ret false (.bool (.t false)) [])
       (.ite (.lt (.a 3) (.l 0))
        (.ret false (.bool (.t false)) [])
        (.ite (.lt (.l 1000000) (.a 3))
         (.ret false (.bool (.t false)) [])
         (.ite (.lt (.a 4) (.l 0))
          (.ret false (.bool (.t false)) [])
          (.ite (.lt (.l 1000000) (.a 4))
           (.ret false (.bool (.t false)) [])
           (.ite (.lt (.a 5) (.l 0))
            (.ret false (.bool (.t false)) [])
            (.ite (.lt (.l 1000000) (.a 5))
             (.ret false (.bool (.t false)) [])
             (.ret false (.bool (.t true)) [])))))))))))))
def saleroomref07_Prices_S : Sx.Sys := ⟨[(.sh (.agg [(.int .i64), (.int .i64), (.int .i64), (.int .i64), (.int .i64), (.int .i64)]))], saleroomref07_Prices_s, [], none⟩
def saleroomref07_Prices_pats : List Cfg := []
theorem saleroomref07_Prices_ok : SysOk Try.prog 65 saleroomref07_Prices_S := sys_ok (c := (cg [] [] [] false false false true)) (progOkG _ _ _ _ _ _ _ _) Try.func65 Try.call65 (by kernel_rfl) saleroomref07_Prices_pats saleroomref07_Prices_S 5000 rfl (by kernel_rfl) (by kernel_rfl) rfl
def catalog_units_sum_s : PT :=
 (.call 79 [(.va 0)] [] [(.one (.int .i64))]
 (.ite (.not (.eq (.a 6) (.l 0)))
  (.ret false (.int .i64 (.l 0)) [])
  (.call 55 [(.agg [(.int .i64 (.a 0)), (.int .i64 (.a 1)), (.int .i64 (.a 2)), (.int .i64 (.a 3)), (.int .i64 (.a 4)), (.int .i64 (.a 5))])] [] [(.one (.int .i64))]
  (.ite (.not (.eq (.a 7) (.l 0)))
   (.ret false (.int .i64 (.l 0)) [])
   (.need (.is 0 0)
   (.jump 0 [(.l 0), (.slen 0), (.l 0), (.a 0), (.a 1), (.a 2), (.a 3), (.a 4), (.a 5)] [] [(.va 1), (.va 0)]))))))
def catalog_units_sum_t0 : PT :=
 (.ite (.lt (.a 2) (.a 1))
  (.need (.and (.le (.l 0) (.a 2)) (.lt (.a 2) (.slen 1)))
  (.load false (.ea 1 (.a 2) 5 0) [.val, (.int .i64), (.int .i64), (.int .i64), (.int .i64)]
  (.ite (.eq (.a 2) (.l 5))
   (.callv 0 [(.agg [(.va 2), (.int .i64 (.a 9)), (.int .i64 (.a 10)), (.int .i64 (.a 11)), (.int .i64 (.a 12))])] [(.one (.int .i64))]
   (.need (.and (.le (.l (-9223372036854775808)) (.mul (.a 8) (.a 13))) (.le (.mul (.a 8) (.a 13)) (.l 9223372036854775807)))
   (.need (.and (.le (.l (-9223372036854775808)) (.add (.a 0) (.mul (.a 8) (.a 13)))) (.le (.add (.a 0) (.mul (.a 8) (.a 13))) (.l 9223372036854775807)))
   (.jump 0 [(.add (.a 0) (.mul (.a 8) (.a 13))), (.a 1), (.l 6), (.a 3), (.a 4), (.a 5), (.a 6), (.a 7), (.a 8)] [] [(.va 0), (.va 1)]))))
   (.ite (.eq (.a 2) (.l 4))
    (.callv 0 [(.agg [(.va 2), (.int .i64 (.a 9)), (.int .i64 (.a 10)), (.int .i64 (.a 11)), (.int .i64 (.a 12))])] [(.one (.int .i64))]
    (.need (.and (.le (.l (-9223372036854775808)) (.mul (.a 7) (.a 13))) (.le (.mul (.a 7) (.a 13)) (.l 9223372036854775807)))
    (.need (.and (.le (.l (-9223372036854775808)) (.add (.a 0) (.mul (.a 7) (.a 13)))) (.le (.add (.a 0) (.mul (.a 7) (.a 13))) (.l 9223372036854775807)))
    (.jump 0 [(.add (.a 0) (.mul (.a 7) (.a 13))), (.a 1), (.l 5), (.a 3), (.a 4), (.a 5), (.a 6), (.a 7), (.a 8)] [] [(.va 0), (.va 1)]))))
    (.ite (.eq (.a 2) (.l 3))
     (.callv 0 [(.agg [(.va 2), (.int .i64 (.a 9)), (.int .i64 (.a 10)), (.int .i64 (.a 11)), (.int .i64 (.a 12))])] [(.one (.int .i64))]
     (.need (.and (.le (.l (-9223372036854775808)) (.mul (.a 6) (.a 13))) (.le (.mul (.a 6) (.a 13)) (.l 9223372036854775807)))
     (.need (.and (.le (.l (-9223372036854775808)) (.add (.a 0) (.mul (.a 6) (.a 13)))) (.le (.add (.a 0) (.mul (.a 6) (.a 13))) (.l 9223372036854775807)))
     (.jump 0 [(.add (.a 0) (.mul (.a 6) (.a 13))), (.a 1), (.l 4), (.a 3), (.a 4), (.a 5), (.a 6), (.a 7), (.a 8)] [] [(.va 0), (.va 1)]))))
     (.ite (.eq (.a 2) (.l 2))
      (.callv 0 [(.agg [(.va 2), (.int .i64 (.a 9)), (.int .i64 (.a 10)), (.int .i64 (.a 11)), (.int .i64 (.a 12))])] [(.one (.int .i64))]
      (.need (.and (.le (.l (-9223372036854775808)) (.mul (.a 5) (.a 13))) (.le (.mul (.a 5) (.a 13)) (.l 9223372036854775807)))
      (.need (.and (.le (.l (-9223372036854775808)) (.add (.a 0) (.mul (.a 5) (.a 13)))) (.le (.add (.a 0) (.mul (.a 5) (.a 13))) (.l 9223372036854775807)))
      (.jump 0 [(.add (.a 0) (.mul (.a 5) (.a 13))), (.a 1), (.l 3), (.a 3), (.a 4), (.a 5), (.a 6), (.a 7), (.a 8)] [] [(.va 0), (.va 1)]))))
      (.ite (.eq (.a 2) (.l 1))
       (.callv 0 [(.agg [(.va 2), (.int .i64 (.a 9)), (.int .i64 (.a 10)), (.int .i64 (.a 11)), (.int .i64 (.a 12))])] [(.one (.int .i64))]
       (.need (.and (.le (.l (-9223372036854775808)) (.mul (.a 4) (.a 13))) (.le (.mul (.a 4) (.a 13)) (.l 9223372036854775807)))
       (.need (.and (.le (.l (-9223372036854775808)) (.add (.a 0) (.mul (.a 4) (.a 13)))) (.le (.add (.a 0) (.mul (.a 4) (.a 13))) (.l 9223372036854775807)))
       (.jump 0 [(.add (.a 0) (.mul (.a 4) (.a 13))), (.a 1), (.l 2), (.a 3), (.a 4), (.a 5), (.a 6), (.a 7), (.a 8)] [] [(.va 0), (.va 1)]))))
       (.ite (.eq (.a 2) (.l 0))
        (.callv 0 [(.agg [(.va 2), (.int .i64 (.a 9)), (.int .i64 (.a 10)), (.int .i64 (.a 11)), (.int .i64 (.a 12))])] [(.one (.int .i64))]
        (.need (.and (.le (.l (-9223372036854775808)) (.mul (.a 3) (.a 13))) (.le (.mul (.a 3) (.a 13)) (.l 9223372036854775807)))
        (.need (.and (.le (.l (-9223372036854775808)) (.add (.a 0) (.mul (.a 3) (.a 13)))) (.le (.add (.a 0) (.mul (.a 3) (.a 13))) (.l 9223372036854775807)))
        (.jump 0 [(.add (.a 0) (.mul (.a 3) (.a 13))), (.a 1), (.l 1), (.a 3), (.a 4), (.a 5), (.a 6), (.a 7), (.a 8)] [] [(.va 0), (.va 1)]))))
        .stuck))))))))
  (.ret false (.int .i64 (.a 0)) []))
def catalog_units_sum_S : Sx.Sys := ⟨[(.sh (.agg [.val, (.int .i64), (.int .i64), (.int .i64), (.int .i64), (.int .i64), (.int .i64)])), (.sh (.one .val))], catalog_units_sum_s, [catalog_units_sum_t0], none⟩
def catalog_units_sum_pats : List Cfg := [{ todo := [(.code [false, false, true, false, true, true, true]), (.inLoop [false, false, true, false, true, true, true]), (.inBlock 0), (.code [true, true, true, true])], sl := [(.junk 0), (.va 0), (.ptr 0 0), .undef, (.junk 1), (.int .i64 (.a 0)), (.junk 2), (.junk 3), (.junk 4), (.junk 5), (.junk 6), (.junk 7), (.junk 8), (.junk 9), (.junk 10), (.junk 11), (.junk 12), (.junk 13), (.junk 14), (.va 1), (.int .i64 (.a 1)), (.int .i64 (.a 2)), (.junk 15), (.junk 16), (.junk 17), (.junk 18), (.junk 19), (.junk 20), (.junk 21), (.junk 22), (.junk 23), (.junk 24), (.junk 25), (.junk 26), (.junk 27), (.junk 28), (.junk 29), .undef], H := [(.cells [(.va 1), (.int .i64 (.a 3)), (.int .i64 (.a 4)), (.int .i64 (.a 5)), (.int .i64 (.a 6)), (.int .i64 (.a 7)), (.int .i64 (.a 8))] 109 false)], ni := 9, nb := 0, nv := 2, nj := 30 }]
theorem catalog_units_sum_ok : SysOk Try.prog 73 catalog_units_sum_S := sys_ok (c := (cg [[false, false, true, false, true, true, true]] [] [(31, [2])] false false false true)) (progOkG _ _ _ _ _ _ _ _) Try.func73 Try.call73 (by kernel_rfl) catalog_units_sum_pats catalog_units_sum_S 5000 rfl (by kernel_rfl) (by kernel_rfl) rfl
def bundle_each_1_s : PT :=
 (.jump 0 [(.l 0), (.l 0), (.l 0), (.l 0), (.l 0), (.l 0)] [] [(.va 0), (.va 1)])
def bundle_each_1_t0 : PT :=
 (.callv 0 [(.agg [(.int .i64 (.a 0)), (.int .i64 (.a 1)), (.int .i64 (.a 2)), (.int .i64 (.a 3)), (.int .i64 (.a 4)), (.int .i64 (.a 5))])] [(.one .bool)]
 (.ite (.a 0)
  (.load false (.pa 1 0) [(.int .i64), (.int .i64), (.int .i64), (.int .i64), (.int .i64), (.int .i64)]
  (.call 82 [(.agg [(.int .i64 (.a 0)), (.int .i64 (.a 1)), (.int .i64 (.a 2)), (.int .i64 (.a 3)), (.int .i64 (.a 4)), (.int .i64 (.a 5))]), (.agg [(.int .i64 (.a 6)), (.int .i64 (.a 7)), (.int .i64 (.a 8)), (.int .i64 (.a 9)), (.int .i64 (.a 10)), (.int .i64 (.a 11))])] [] [(.agg [(.int .i64), (.int .i64), (.int .i64), (.int .i64), (.int .i64), (.int .i64)])]
  (.ite (.and (.eq (.a 12) (.l 0)) (.and (.eq (.a 13) (.l 0)) (.and (.eq (.a 14) (.l 0)) (.and (.eq (.a 15) (.l 0)) (.and (.eq (.a 16) (.l 0)) (.eq (.a 17) (.l 0)))))))
   (.ret true (.tup []) [])
   (.jump 0 [(.a 12), (.a 13), (.a 14), (.a 15), (.a 16), (.a 17)] [] [(.va 0), (.va 1)]))))
  (.ret true (.tup []) [])))
def bundle_each_1_S : Sx.Sys := ⟨[(.sh (.one .val)), .ptr], bundle_each_1_s, [bundle_each_1_t0], none⟩
def bundle_each_1_pats : List Cfg := [{ todo := [(.code [false, false, true]), (.inLoop [false, false, true]), (.inBlock 0)], sl := [(.va 0), (.pa 1 0), .undef, (.ptr 0 0), (.junk 0), (.junk 1), (.junk 2), (.junk 3), (.junk 4), (.junk 5), (.junk 6), (.junk 7), (.junk 8), (.junk 9)], H := [(.cells [(.int .i64 (.a 0)), (.int .i64 (.a 1)), (.int .i64 (.a 2)), (.int .i64 (.a 3)), (.int .i64 (.a 4)), (.int .i64 (.a 5))] 42 false)], ni := 6, nb := 0, nv := 2, nj := 10 }]
theorem bundle_each_1_ok : SysOk Try.prog 81 bundle_each_1_S := sys_ok (c := (cg [[false, false, true]] [] [(5, [4])] true true false true)) (progOkG _ _ _ _ _ _ _ _) Try.func81 Try.call81 (by kernel_rfl) bundle_each_1_pats bundle_each_1_S 5000 rfl (by kernel_rfl) (by kernel_rfl) rfl
def lexer_run_s : PT :=
 (.jump 0 [(.a 0), (.a 0)] [] [(.va 0), (.va 1)])
def lexer_run_t0 : PT :=
 (.need (.is 3 0)
 (.ite (.lt (.a 1) (.stl 0))
  (.need (.is 3 0)
  (.need (.and (.le (.l 0) (.a 1)) (.lt (.a 1) (.stl 0)))
  (.need (.and (.le (.l (-2147483648)) (.sat 0 (.a 1))) (.le (.sat 0 (.a 1)) (.l 2147483647)))
  (.callv 1 [(.int .i32 (.sat 0 (.a 1)))] [(.one .bool)]
  (.ite (.a 0)
   (.need (.and (.le (.l (-9223372036854775808)) (.add (.a 1) (.l 1))) (.le (.add (.a 1) (.l 1)) (.l 9223372036854775807)))
   (.jump 0 [(.a 0), (.add (.a 1) (.l 1))] [] [(.va 0), (.va 1)]))
   .stuck)))))
  .stuck))
def lexer_run_S : Sx.Sys := ⟨[(.sh (.one .val)), (.sh (.one (.int .i64))), (.sh (.one .val))], lexer_run_s, [lexer_run_t0], none⟩
def lexer_run_pats : List Cfg := [{ todo := [(.code [false, false, false, true, true]), (.inLoop [false, false, false, true, true]), (.inBlock 0), (.code [true, true, true])], sl := [(.va 0), (.int .i64 (.a 0)), (.va 1), .undef, .undef, .undef, (.junk 0), (.int .i64 (.a 1)), (.junk 1), (.junk 2), (.junk 3), (.junk 4), (.junk 5), (.junk 6), (.junk 7), (.junk 8), (.junk 9), (.junk 10), (.junk 11), (.junk 12), (.junk 13), (.junk 14), (.junk 15), .undef, .undef, .undef, .undef], H := [], ni := 2, nb := 0, nv := 2, nj := 16 }]
theorem lexer_run_ok : SysOk Try.prog 89 lexer_run_S := sys_ok (c := (cg [[false, false, false, true, true]] [] [(14, [4])] false false false true)) (progOkG _ _ _ _ _ _ _ _) Try.func89 Try.call89 (by kernel_rfl) lexer_run_pats lexer_run_S 5000 rfl (by kernel_rfl) (by kernel_rfl) rfl
end Go.Proofs.Ythjahianafohjaa
