/- The trees of this seat's functions, part 3. Written by txgen.py. -/
import Derived.Test.YthjahianafohjaaHTab
set_option linter.unusedSimpArgs false
set_option linter.unusedVariables false
set_option maxRecDepth 100000
namespace Go.Proofs.Ythjahianafohjaa
open Go.Sx
def saleroomlaw36_RevealedGains_s : PT :=
 (.call 20 [(.agg [(.int .i64 (.a 0)), (.int .i64 (.a 1)), (.int .i64 (.a 2)), (.int .i64 (.a 3)), (.int .i64 (.a 4)), (.int .i64 (.a 5)), (.int .i64 (.a 6)), (.int .i64 (.a 7)), (.int .i64 (.a 8)), (.int .i64 (.a 9)), (.int .i64 (.a 10)), (.int .i64 (.a 11))]), (.agg [(.int .i64 (.a 12)), (.int .i64 (.a 13)), (.int .i64 (.a 14)), (.int .i64 (.a 15)), (.int .i64 (.a 16)), (.int .i64 (.a 17)), (.int .i64 (.a 18)), (.int .i64 (.a 19)), (.int .i64 (.a 20)), (.int .i64 (.a 21)), (.int .i64 (.a 22)), (.int .i64 (.a 23))])] [] [(.one (.int .i64))]
 (.call 21 [(.agg [(.int .i64 (.a 0)), (.int .i64 (.a 1)), (.int .i64 (.a 2)), (.int .i64 (.a 3)), (.int .i64 (.a 4)), (.int .i64 (.a 5)), (.int .i64 (.a 6)), (.int .i64 (.a 7)), (.int .i64 (.a 8)), (.int .i64 (.a 9)), (.int .i64 (.a 10)), (.int .i64 (.a 11))]), (.agg [(.int .i64 (.a 12)), (.int .i64 (.a 13)), (.int .i64 (.a 14)), (.int .i64 (.a 15)), (.int .i64 (.a 16)), (.int .i64 (.a 17)), (.int .i64 (.a 18)), (.int .i64 (.a 19)), (.int .i64 (.a 20)), (.int .i64 (.a 21)), (.int .i64 (.a 22)), (.int .i64 (.a 23))])] [] [(.one (.int .i64))]
 (.ite (.eq (.a 24) (.a 25))
  (.call 14 [] [] [(.one .bool)]
  (.ret false (.bool (.a 0)) []))
  (.ret false (.bool (.t false)) []))))
def saleroomlaw36_RevealedGains_S : Sx.Sys := ⟨[(.sh (.agg [(.int .i64), (.int .i64), (.int .i64), (.int .i64), (.int .i64), (.int .i64), (.int .i64), (.int .i64), (.int .i64), (.int .i64), (.int .i64), (.int .i64)])), (.sh (.agg [(.int .i64), (.int .i64), (.int .i64), (.int .i64), (.int .i64), (.int .i64), (.int .i64), (.int .i64), (.int .i64), (.int .i64), (.int .i64), (.int .i64)]))], saleroomlaw36_RevealedGains_s, [], none⟩
def saleroomlaw36_RevealedGains_pats : List Cfg := []
theorem saleroomlaw36_RevealedGains_ok : SysOk Try.prog 6 saleroomlaw36_RevealedGains_S := sys_ok (c := (cg [] [] [] false false false true)) (progOkG _ _ _ _ _ _ _ _ _) Try.func6 Try.call6 (by kernel_rfl) saleroomlaw36_RevealedGains_pats saleroomlaw36_RevealedGains_S 5000 rfl (by kernel_rfl) (by kernel_rfl) rfl
def saleroomlaw36_lives_s : PT :=
 (.call 38 [] [] [(.one .val)]
 (.call 15 [(.va 0)] [] [(.agg [.val, .val]), (.one .bool)]
 (.need (.lt (.l 0) (.slen 0))
 (.load false (.ea 0 (.l 0) 12 0) [(.int .i64), (.int .i64), (.int .i64), (.int .i64), (.int .i64), (.int .i64), (.int .i64), (.int .i64), (.int .i64), (.int .i64), (.int .i64), (.int .i64)]
 (.app none (.lit [[(.int .i64 (.a 0)), (.int .i64 (.a 1)), (.int .i64 (.a 2)), (.int .i64 (.a 3)), (.int .i64 (.a 4)), (.int .i64 (.a 5)), (.int .i64 (.a 6)), (.int .i64 (.a 7)), (.int .i64 (.a 8)), (.int .i64 (.a 9)), (.int .i64 (.a 10)), (.int .i64 (.a 11))], [(.int .i64 (.l 2)), (.int .i64 (.l 1)), (.int .i64 (.l 0)), (.int .i64 (.l 0)), (.int .i64 (.l 0)), (.int .i64 (.l 0)), (.int .i64 (.l 0)), (.int .i64 (.l 1)), (.int .i64 (.l 0)), (.int .i64 (.l 0)), (.int .i64 (.l 0)), (.int .i64 (.l 0))]]) 12
 (.call 15 [(.va 3)] [] [(.agg [.val, .val]), (.one .bool)]
 (.ite (.not (.a 0))
  (.need (.is 0 1)
  (.ite (.lt (.l 0) (.slen 1))
   (.call 19 [(.va 0), (.agg [(.va 1), (.va 2)])] [] [(.one (.int .i64))]
   (.ite (.eq (.a 12) (.l 0))
    (.ite (.a 1)
     (.call 19 [(.va 3), (.agg [(.va 4), (.va 5)])] [] [(.one (.int .i64))]
     (.ite (.eq (.a 13) (.l 0))
      (.need (.lt (.l 0) (.slen 0))
      (.need (.lt (.l 1) (.slen 0))
      (.load true (.ea 0 (.l 0) 12 0) [(.int .i64), (.int .i64), (.int .i64), (.int .i64), (.int .i64), (.int .i64), (.int .i64), (.int .i64), (.int .i64), (.int .i64), (.int .i64), (.int .i64)]
      (.load true (.ea 0 (.l 1) 12 0) [(.int .i64), (.int .i64), (.int .i64), (.int .i64), (.int .i64), (.int .i64), (.int .i64), (.int .i64), (.int .i64), (.int .i64), (.int .i64), (.int .i64)]
      (.call 20 [(.agg [(.int .i64 (.a 14)), (.int .i64 (.a 15)), (.int .i64 (.a 16)), (.int .i64 (.a 17)), (.int .i64 (.a 18)), (.int .i64 (.a 19)), (.int .i64 (.a 20)), (.int .i64 (.a 21)), (.int .i64 (.a 22)), (.int .i64 (.a 23)), (.int .i64 (.a 24)), (.int .i64 (.a 25))]), (.agg [(.int .i64 (.a 26)), (.int .i64 (.a 27)), (.int .i64 (.a 28)), (.int .i64 (.a 29)), (.int .i64 (.a 30)), (.int .i64 (.a 31)), (.int .i64 (.a 32)), (.int .i64 (.a 33)), (.int .i64 (.a 34)), (.int .i64 (.a 35)), (.int .i64 (.a 36)), (.int .i64 (.a 37))])] [] [(.one (.int .i64))]
      (.ite (.eq (.a 38) (.l 0))
       (.need (.lt (.l 1) (.slen 0))
       (.need (.lt (.l 0) (.slen 0))
       (.load true (.ea 0 (.l 1) 12 0) [(.int .i64), (.int .i64), (.int .i64), (.int .i64), (.int .i64), (.int .i64), (.int .i64), (.int .i64), (.int .i64), (.int .i64), (.int .i64), (.int .i64)]
       (.load true (.ea 0 (.l 0) 12 0) [(.int .i64), (.int .i64), (.int .i64), (.int .i64), (.int .i64), (.int .i64), (.int .i64), (.int .i64), (.int .i64), (.int .i64), (.int .i64), (.int .i64)]
       (.call 20 [(.agg [(.int .i64 (.a 39)), (.int .i64 (.a 40)), (.int .i64 (.a 41)), (.int .i64 (.a 42)), (.int .i64 (.a 43)), (.int .i64 (.a 44)), (.int .i64 (.a 45)), (.int .i64 (.a 46)), (.int .i64 (.a 47)), (.int .i64 (.a 48)), (.int .i64 (.a 49)), (.int .i64 (.a 50))]), (.agg [(.int .i64 (.a 51)), (.int .i64 (.a 52)), (.int .i64 (.a 53)), (.int .i64 (.a 54)), (.int .i64 (.a 55)), (.int .i64 (.a 56)), (.int .i64 (.a 57)), (.int .i64 (.a 58)), (.int .i64 (.a 59)), (.int .i64 (.a 60)), (.int .i64 (.a 61)), (.int .i64 (.a 62))])] [] [(.one (.int .i64))]
       (.ite (.eq (.a 63) (.l (-1)))
        (.app none (.lit [[(.int .i64 (.l 3))], [(.int .i64 (.l 3))]]) 1
        (.call 19 [(.va 3), (.agg [.nilS, (.va 6)])] [] [(.one (.int .i64))]
        (.ite (.eq (.a 64) (.l 0))
         (.app none (.lit [[(.int .i64 (.l 3))]]) 1
         (.call 19 [(.va 3), (.agg [.nilS, (.va 7)])] [] [(.one (.int .i64))]
         (.ret false (.bool (.eq (.a 65) (.l 13))) [])))
         (.ret false (.bool (.t false)) []))))
        (.ret false (.bool (.t false)) [])))))))
       (.ret false (.bool (.t false)) [])))))))
      (.ret false (.bool (.t false)) [])))
     (.ret false (.bool (.t false)) []))
    (.ret false (.bool (.t false)) [])))
   (.ret false (.bool (.t false)) [])))
  (.ret false (.bool (.t false)) []))))))))
def saleroomlaw36_lives_S : Sx.Sys := ⟨[], saleroomlaw36_lives_s, [], none⟩
def saleroomlaw36_lives_pats : List Cfg := []
theorem saleroomlaw36_lives_ok : SysOk Try.prog 14 saleroomlaw36_lives_S := sys_ok (c := (cg [] [] [] false false false true)) (progOkG _ _ _ _ _ _ _ _ _) Try.func14 Try.call14 (by kernel_rfl) saleroomlaw36_lives_pats saleroomlaw36_lives_S 5000 rfl (by kernel_rfl) (by kernel_rfl) rfl
def saleroomlaw36_contrary_s : PT :=
 (.app none (.lit [[(.int .i64 (.l 1)), (.int .i64 (.l 1)), (.int .i64 (.l 0)), (.int .i64 (.l 0)), (.int .i64 (.l 0)), (.int .i64 (.l 0)), (.int .i64 (.l 1)), (.int .i64 (.l 0)), (.int .i64 (.l 0)), (.int .i64 (.l 0)), (.int .i64 (.l 0)), (.int .i64 (.l 0))], [(.int .i64 (.l 1)), (.int .i64 (.l 2)), (.int .i64 (.l 0)), (.int .i64 (.l 0)), (.int .i64 (.l 0)), (.int .i64 (.l 0)), (.int .i64 (.l 0)), (.int .i64 (.l 1)), (.int .i64 (.l 0)), (.int .i64 (.l 0)), (.int .i64 (.l 0)), (.int .i64 (.l 0))]]) 12
 (.ret false (.va 0) []))
def saleroomlaw36_contrary_S : Sx.Sys := ⟨[], saleroomlaw36_contrary_s, [], none⟩
def saleroomlaw36_contrary_pats : List Cfg := []
theorem saleroomlaw36_contrary_ok : SysOk Try.prog 38 saleroomlaw36_contrary_S := sys_ok (c := (cg [] [] [] false false false true)) (progOkG _ _ _ _ _ _ _ _ _) Try.func38 Try.call38 (by kernel_rfl) saleroomlaw36_contrary_pats saleroomlaw36_contrary_S 5000 rfl (by kernel_rfl) (by kernel_rfl) rfl
def revealed_formed_s : PT :=
 (.need (.is 0 1)
 (.ite (.lt (.l 0) (.slen 1))
  (.need (.is 0 2)
  (.ite (.lt (.l 0) (.slen 2))
   (.ret false (.bool (.t false)) [])
   (.need (.is 0 1)
   (.ite (.lt (.l 1000) (.slen 1))
    (.ret false (.bool (.t false)) [])
    (.need (.is 0 1)
    (.jump 0 [(.slen 1), (.l 0)] [] [(.va 0), (.va 1), (.va 2)]))))))
  (.need (.is 0 1)
  (.ite (.lt (.l 1000) (.slen 1))
   (.ret false (.bool (.t false)) [])
   (.need (.is 0 1)
   (.jump 0 [(.slen 1), (.l 0)] [] [(.va 0), (.va 1), (.va 2)]))))))
def revealed_formed_t0 : PT :=
 (.ite (.lt (.a 1) (.a 0))
  (.need (.and (.le (.l 0) (.a 1)) (.lt (.a 1) (.slen 1)))
  (.load false (.ea 1 (.a 1) 1 0) [(.int .i64)]
  (.ite (.lt (.a 2) (.l 0))
   (.ret false (.bool (.t false)) [])
   (.need (.is 0 0)
   (.ite (.le (.slen 0) (.a 2))
    (.ret false (.bool (.t false)) [])
    (.need (.and (.le (.l (-9223372036854775808)) (.add (.a 1) (.l 1))) (.le (.add (.a 1) (.l 1)) (.l 9223372036854775807)))
    (.jump 0 [(.a 0), (.add (.a 1) (.l 1))] [] [(.va 0), (.va 1), (.va 2)])))))))
  (.need (.is 0 2)
  (.jump 1 [(.slen 2), (.l 0)] [] [(.va 2)])))
def revealed_formed_t1 : PT :=
 (.ite (.lt (.a 1) (.a 0))
  (.need (.and (.le (.l 0) (.a 1)) (.lt (.a 1) (.slen 0)))
  (.load false (.ea 0 (.a 1) 1 0) [(.int .i64)]
  (.ite (.lt (.a 2) (.l (-1099511627776)))
   (.ret false (.bool (.t false)) [])
   (.ite (.lt (.l 1099511627776) (.a 2))
    (.ret false (.bool (.t false)) [])
    (.need (.and (.le (.l (-9223372036854775808)) (.add (.a 1) (.l 1))) (.le (.add (.a 1) (.l 1)) (.l 9223372036854775807)))
    (.jump 1 [(.a 0), (.add (.a 1) (.l 1))] [] [(.va 0)]))))))
  (.ret false (.bool (.t true)) []))
def revealed_formed_S : Sx.Sys := ⟨[(.sh (.one .val)), (.sh (.agg [.val, .val]))], revealed_formed_s, [revealed_formed_t0, revealed_formed_t1], none⟩
def revealed_formed_pats : List Cfg := [{ todo := [(.code [false, false, true, false, true, true]), (.inLoop [false, false, true, false, true, true]), (.inBlock 0), (.code [true, true, true])], sl := [(.va 0), (.junk 0), .undef, (.ptr 0 0), (.junk 1), .undef, (.junk 2), .undef, .undef, (.junk 3), (.junk 4), (.junk 5), (.junk 6), (.junk 7), (.junk 8), (.junk 9), (.junk 10), (.junk 11), (.junk 12), (.junk 13), (.junk 14), (.junk 15), (.junk 16), (.junk 17), (.junk 18), (.junk 19), (.va 1), (.int .i64 (.a 0)), (.int .i64 (.a 1)), (.junk 20), (.junk 21), (.junk 22), (.junk 23), (.junk 24), (.junk 25), (.junk 26), (.junk 27), (.junk 28), (.junk 29), (.junk 30), (.junk 31), .undef, .undef, .undef, .undef, .undef, .undef, .undef, .undef, .undef, .undef, .undef, .undef, .undef, .undef], H := [(.cells [(.va 1), (.va 2)] 27 false)], ni := 2, nb := 0, nv := 3, nj := 32 },
 { todo := [(.code [false, false, true, false, true, true, true]), (.inLoop [false, false, true, false, true, true, true]), (.inBlock 2), (.code [true, true, true, true])], sl := [(.junk 0), (.junk 1), .undef, (.junk 2), (.junk 3), .undef, (.junk 4), .undef, (.junk 5), (.junk 6), (.junk 7), (.junk 8), (.junk 9), (.junk 10), (.junk 11), (.junk 12), (.junk 13), (.junk 14), (.junk 15), (.junk 16), (.junk 17), (.junk 18), (.junk 19), (.junk 20), (.junk 21), (.junk 22), (.junk 23), (.junk 24), (.junk 25), (.junk 26), (.junk 27), (.junk 28), (.junk 29), (.junk 30), (.junk 31), (.junk 32), (.junk 33), (.junk 34), (.junk 35), (.junk 36), (.junk 37), (.junk 38), (.va 0), (.int .i64 (.a 0)), (.int .i64 (.a 1)), (.junk 39), (.junk 40), (.junk 41), (.junk 42), (.junk 43), (.junk 44), (.junk 45), (.junk 46), (.junk 47), (.junk 48)], H := [], ni := 2, nb := 0, nv := 1, nj := 49 }]
theorem revealed_formed_ok : SysOk Try.prog 46 revealed_formed_S := sys_ok (c := (cg [[false, false, true, false, true, true], [false, false, true, false, true, true, true]] [] [] false false false true)) (progOkG _ _ _ _ _ _ _ _ _) Try.func46 Try.call46 (by kernel_rfl) revealed_formed_pats revealed_formed_S 5000 rfl (by kernel_rfl) (by kernel_rfl) rfl
def revealed_cycle_s : PT :=
 (.mkMap .i64
 (.jump 0 [(.a 0)] [] [(.va 0), (.va 1)]))
def revealed_cycle_t0 : PT :=
 (.mapGet 1 .i64 (.a 0) (.bool (.t false)) false [(.one .bool)]
 (.ite (.not (.a 0))
  (.mapSet 1 .i64 (.a 0) (.bool (.t true))
  (.need (.and (.le (.l 0) (.a 0)) (.lt (.a 0) (.slen 0)))
  (.load false (.ea 0 (.a 0) 1 0) [(.int .i64)]
  (.jump 0 [(.a 1)] [] [(.va 0), (.va 1)]))))
  (.mapClr 1
  (.jump 1 [(.a 0)] [] [(.va 0), (.va 1), .nilS]))))
def revealed_cycle_t1 : PT :=
 (.mapGet 1 .i64 (.a 0) (.bool (.t false)) false [(.one .bool)]
 (.ite (.not (.a 0))
  (.mapSet 1 .i64 (.a 0) (.bool (.t true))
  (.app none (.lit [[(.int .i64 (.a 0))]]) 1
  (.appM (.va 2) (.va 3) 1 3
  (.need (.and (.le (.l 0) (.a 0)) (.lt (.a 0) (.slen 0)))
  (.load false (.ea 0 (.a 0) 1 0) [(.int .i64)]
  (.jump 1 [(.a 1)] [] [(.va 0), (.va 1), (.va 4)]))))))
  (.need (.is 0 2)
  (.mkM (.slen 2) [(.int .i64 (.l 0))] 3 1 8
  (.need (.is 0 2)
  (.jump 2 [(.slen 2), (.l 0)] [] [(.va 2), (.va 3)]))))))
def revealed_cycle_t2 : PT :=
 (.ite (.lt (.a 1) (.a 0))
  (.need (.and (.le (.l 0) (.a 1)) (.lt (.a 1) (.slen 0)))
  (.load false (.ea 0 (.a 1) 1 0) [(.int .i64)]
  (.need (.is 0 0)
  (.need (.and (.le (.l (-9223372036854775808)) (.sub (.slen 0) (.l 1))) (.le (.sub (.slen 0) (.l 1)) (.l 9223372036854775807)))
  (.need (.and (.le (.l (-9223372036854775808)) (.sub (.sub (.slen 0) (.l 1)) (.a 1))) (.le (.sub (.sub (.slen 0) (.l 1)) (.a 1)) (.l 9223372036854775807)))
  (.need (.and (.le (.l 0) (.sub (.sub (.slen 0) (.l 1)) (.a 1))) (.lt (.sub (.sub (.slen 0) (.l 1)) (.a 1)) (.slen 1)))
  (.storeM (.ea 1 (.sub (.sub (.slen 0) (.l 1)) (.a 1)) 1 0) [(.int .i64 (.a 2))]
  (.need (.and (.le (.l (-9223372036854775808)) (.add (.a 1) (.l 1))) (.le (.add (.a 1) (.l 1)) (.l 9223372036854775807)))
  (.jump 2 [(.a 0), (.add (.a 1) (.l 1))] [] [(.va 0), (.va 1)])))))))))
  (.ret false (.va 1) []))
def revealed_cycle_S : Sx.Sys := ⟨[(.sh (.one .val)), (.sh (.one (.int .i64)))], revealed_cycle_s, [revealed_cycle_t0, revealed_cycle_t1, revealed_cycle_t2], none⟩
def revealed_cycle_pats : List Cfg := [{ todo := [(.code [false, false, false, true, true]), (.inLoop [false, false, false, true, true]), (.inBlock 0), (.code [true, true, true])], sl := [(.va 0), (.int .i64 (.a 0)), .undef, .undef, (.junk 0), (.va 1), .undef, .undef, .undef, .undef, (.junk 1), (.junk 2), (.junk 3), (.junk 4), (.junk 5), (.junk 6), (.junk 7), (.junk 8), (.junk 9), (.junk 10), (.junk 11), .undef, .undef, .undef, .undef, .undef, .undef, .undef, .undef, .undef, .undef, .undef, .undef, .undef, .undef, .undef, .undef, .undef, .undef, .undef, .undef, .undef, .undef, .undef, .undef, .undef, .undef, .undef, .undef, .undef, .undef, .undef, .undef, .undef, .undef, .undef], H := [], ni := 1, nb := 0, nv := 2, nj := 12 },
 { todo := [(.code [false, false, false, true, true, true, true, true]), (.inLoop [false, false, false, true, true, true, true, true]), (.inBlock 2), (.code [true, true, true, true, true, true])], sl := [(.va 0), (.int .i64 (.a 0)), .undef, .undef, (.junk 0), (.va 1), (.va 2), .undef, .undef, .undef, (.junk 1), (.junk 2), (.junk 3), (.junk 4), (.junk 5), (.junk 6), (.junk 7), (.junk 8), (.junk 9), (.junk 10), (.junk 11), (.junk 12), (.junk 13), (.junk 14), (.junk 15), (.junk 16), (.junk 17), (.junk 18), (.junk 19), (.junk 20), (.junk 21), (.junk 22), (.junk 23), (.junk 24), (.junk 25), (.junk 26), .undef, .undef, .undef, .undef, .undef, .undef, .undef, .undef, .undef, .undef, .undef, .undef, .undef, .undef, .undef, .undef, .undef, .undef, .undef, .undef], H := [], ni := 1, nb := 0, nv := 3, nj := 27 },
 { todo := [(.code [false, false, true, false, true, true, true, true, true, true, true]), (.inLoop [false, false, true, false, true, true, true, true, true, true, true]), (.inBlock 4), (.code [true, true, true, true, true, true, true, true])], sl := [(.junk 0), (.junk 1), .undef, .undef, (.junk 2), (.junk 3), (.va 0), (.va 1), (.junk 4), (.junk 5), (.junk 6), (.junk 7), (.junk 8), (.junk 9), (.junk 10), (.junk 11), (.junk 12), (.junk 13), (.junk 14), (.junk 15), (.junk 16), (.junk 17), (.junk 18), (.junk 19), (.junk 20), (.junk 21), (.junk 22), (.junk 23), (.junk 24), (.junk 25), (.junk 26), (.junk 27), (.junk 28), (.junk 29), (.junk 30), (.junk 31), (.junk 32), (.junk 33), (.junk 34), (.va 0), (.int .i64 (.a 0)), (.int .i64 (.a 1)), (.junk 35), (.junk 36), (.junk 37), (.junk 38), (.junk 39), (.junk 40), (.junk 41), (.junk 42), (.junk 43), (.junk 44), (.junk 45), (.junk 46), (.junk 47), .undef], H := [], ni := 2, nb := 0, nv := 2, nj := 48 }]
theorem revealed_cycle_ok : SysOk Try.prog 63 revealed_cycle_S := sys_ok (c := (cg [[false, false, false, true, true], [false, false, false, true, true, true, true, true], [false, false, true, false, true, true, true, true, true, true, true]] [] [] true false true true)) (progOkG _ _ _ _ _ _ _ _ _) Try.func63 Try.call63 (by kernel_rfl) revealed_cycle_pats revealed_cycle_S 5000 rfl (by kernel_rfl) (by kernel_rfl) rfl
end Go.Proofs.Ythjahianafohjaa
set_option maxRecDepth 100000
namespace Go.Proofs.Ythjahianafohjaa
open Go.Sx
def revealed_Check_s : PT :=
 (.call 39 [(.va 0)] [] [(.one .bool)]
 (.ite (.not (.a 0))
  (.ret false (.tup [(.agg [.nilS, .nilS]), (.bool (.t false))]) [])
  (.call 40 [(.va 0)] [] [(.one .val), (.one .val)]
  (.need (.is 0 2)
  (.ite (.not (.nil 2))
   (.ret false (.tup [(.agg [(.va 2), .nilS]), (.bool (.t false))]) [])
   (.need (.is 0 0)
   (.jump 0 [(.l 0), (.slen 0), (.l 0)] [] [(.va 0), (.va 1)])))))))
def revealed_Check_t0_b1 : PT :=
 (.call 41 [(.agg [(.int .i64 (.a 3)), (.int .i64 (.a 4)), (.int .i64 (.a 5)), (.int .i64 (.a 6)), (.int .i64 (.a 7)), (.int .i64 (.a 8))]), (.agg [(.int .i64 (.a 9)), (.int .i64 (.a 10)), (.int .i64 (.a 11)), (.int .i64 (.a 12)), (.int .i64 (.a 13)), (.int .i64 (.a 14))])] [] [(.one (.int .i64))]
   (.load false (.ea 1 (.a 2) 1 0) [(.int .i64)]
   (.need (.and (.le (.l (-9223372036854775808)) (.sub (.a 15) (.a 16))) (.le (.sub (.a 15) (.a 16)) (.l 9223372036854775807)))
   (.need (.and (.le (.l (-9223372036854775808)) (.add (.a 2) (.l 1))) (.le (.add (.a 2) (.l 1)) (.l 9223372036854775807)))
   (.jump 0 [(.mx (.a 0) (.sub (.a 15) (.a 16))), (.a 1), (.add (.a 2) (.l 1))] [] [(.va 0), (.va 1)])))))
def revealed_Check_t0_b2 : PT :=
 (.load false (.ea 1 (.a 2) 1 0) [(.int .i64)]
   (.call 41 [(.agg [(.int .i64 (.a 3)), (.int .i64 (.a 4)), (.int .i64 (.a 5)), (.int .i64 (.a 6)), (.int .i64 (.a 7)), (.int .i64 (.a 8))]), (.agg [(.int .i64 (.a 9)), (.int .i64 (.a 10)), (.int .i64 (.a 11)), (.int .i64 (.a 12)), (.int .i64 (.a 13)), (.int .i64 (.a 14))])] [] [(.one (.int .i64))]
   (.need (.and (.le (.l (-9223372036854775808)) (.sub (.a 16) (.a 15))) (.le (.sub (.a 16) (.a 15)) (.l 9223372036854775807)))
   (.need (.and (.le (.l (-9223372036854775808)) (.add (.a 2) (.l 1))) (.le (.add (.a 2) (.l 1)) (.l 9223372036854775807)))
   (.jump 0 [(.mx (.a 0) (.sub (.a 16) (.a 15))), (.a 1), (.add (.a 2) (.l 1))] [] [(.va 0), (.va 1)])))))
def revealed_Check_t0 : PT :=
 (.ite (.lt (.a 2) (.a 1))
  (.need (.and (.le (.l 0) (.a 2)) (.lt (.a 2) (.slen 0)))
  (.load false (.ea 0 (.a 2) 12 0) [(.int .i64), (.int .i64), (.int .i64), (.int .i64), (.int .i64), (.int .i64), (.int .i64), (.int .i64), (.int .i64), (.int .i64), (.int .i64), (.int .i64)]
  (.need (.and (.le (.l 0) (.a 2)) (.lt (.a 2) (.slen 1)))
  (.both revealed_Check_t0_b1 revealed_Check_t0_b2))))
  (.need (.is 0 0)
  (.jump 1 [(.a 0), (.slen 0), (.l 0)] [] [(.va 1), (.va 0)])))
def revealed_Check_t1 : PT :=
 (.ite (.lt (.a 2) (.a 1))
  (.need (.and (.le (.l 0) (.a 2)) (.lt (.a 2) (.slen 1)))
  (.load false (.ea 1 (.a 2) 12 0) [(.int .i64), (.int .i64), (.int .i64), (.int .i64), (.int .i64), (.int .i64), (.int .i64), (.int .i64), (.int .i64), (.int .i64), (.int .i64), (.int .i64)]
  (.ite (.and (.eq (.a 9) (.l 0)) (.and (.eq (.a 10) (.l 0)) (.and (.eq (.a 11) (.l 0)) (.and (.eq (.a 12) (.l 0)) (.and (.eq (.a 13) (.l 0)) (.eq (.a 14) (.l 0)))))))
   (.need (.and (.le (.l 0) (.a 2)) (.lt (.a 2) (.slen 0)))
   (.load false (.ea 0 (.a 2) 1 0) [(.int .i64)]
   (.need (.and (.le (.l (-9223372036854775808)) (.sub (.l 0) (.a 15))) (.le (.sub (.l 0) (.a 15)) (.l 9223372036854775807)))
   (.need (.and (.le (.l (-9223372036854775808)) (.add (.a 2) (.l 1))) (.le (.add (.a 2) (.l 1)) (.l 9223372036854775807)))
   (.jump 1 [(.sub (.l 0) (.a 15)), (.a 1), (.add (.a 2) (.l 1))] [] [(.va 0), (.va 1)])))))
   (.need (.and (.le (.l (-9223372036854775808)) (.add (.a 2) (.l 1))) (.le (.add (.a 2) (.l 1)) (.l 9223372036854775807)))
   (.jump 1 [(.a 0), (.a 1), (.add (.a 2) (.l 1))] [] [(.va 0), (.va 1)])))))
  (.need (.is 0 0)
  (.jump 2 [(.a 0), (.slen 0), (.l 0)] [] [(.va 0)])))
def revealed_Check_t2 : PT :=
 (.ite (.lt (.a 2) (.a 1))
  (.need (.and (.le (.l 0) (.a 2)) (.lt (.a 2) (.slen 0)))
  (.load false (.ea 0 (.a 2) 1 0) [(.int .i64)]
  (.need (.and (.le (.l (-9223372036854775808)) (.add (.a 3) (.a 0))) (.le (.add (.a 3) (.a 0)) (.l 9223372036854775807)))
  (.need (.and (.le (.l 0) (.a 2)) (.lt (.a 2) (.slen 0)))
  (.storeM (.ea 0 (.a 2) 1 0) [(.int .i64 (.add (.a 3) (.a 0)))]
  (.need (.and (.le (.l (-9223372036854775808)) (.add (.a 2) (.l 1))) (.le (.add (.a 2) (.l 1)) (.l 9223372036854775807)))
  (.jump 2 [(.a 0), (.a 1), (.add (.a 2) (.l 1))] [] [(.va 0)])))))))
  (.ret false (.tup [(.agg [.nilS, (.va 0)]), (.bool (.t true))]) []))
def revealed_Check_S : Sx.Sys := ⟨[(.sh (.one .val))], revealed_Check_s, [revealed_Check_t0, revealed_Check_t1, revealed_Check_t2], none⟩
def revealed_Check_pats : List Cfg := [{ todo := [(.code [false, false, true, false, true, true, true, true, true]), (.inLoop [false, false, true, false, true, true, true, true, true]), (.inBlock 0), (.code [true, true, true, true, true, true])], sl := [(.va 0), .undef, (.ptr 0 0), (.junk 0), (.va 1), (.junk 1), (.int .i64 (.a 0)), (.junk 2), (.junk 3), .undef, .undef, .undef, (.junk 4), (.junk 5), (.junk 6), .undef, (.junk 7), (.junk 8), (.junk 9), (.junk 10), (.junk 11), (.junk 12), (.junk 13), .undef, .undef, (.va 0), (.int .i64 (.a 1)), (.int .i64 (.a 2)), (.junk 14), (.junk 15), (.junk 16), (.junk 17), (.junk 18), (.junk 19), (.junk 20), (.junk 21), (.junk 22), (.junk 23), (.junk 24), (.junk 25), (.junk 26), (.junk 27), (.junk 28), (.junk 29), (.junk 30), .undef, .undef, .undef, .undef, .undef, .undef, .undef, .undef, .undef, .undef, .undef, .undef, .undef, .undef, .undef, .undef, .undef, .undef, .undef, .undef, .undef, .undef, .undef, .undef, .undef, .undef, .undef, .undef, .undef, .undef, .undef, .undef], H := [(.cells [.nilS, .nilS] 27 false)], ni := 3, nb := 0, nv := 2, nj := 31 },
 { todo := [(.code [false, false, true, false, true, true, true, true, true, true]), (.inLoop [false, false, true, false, true, true, true, true, true, true]), (.inBlock 2), (.code [true, true, true, true, true, true, true])], sl := [(.junk 0), .undef, (.ptr 0 0), (.junk 1), (.va 0), (.junk 2), (.int .i64 (.a 0)), (.junk 3), (.junk 4), (.junk 5), (.junk 6), .undef, (.junk 7), (.junk 8), (.junk 9), .undef, (.junk 10), (.junk 11), (.junk 12), (.junk 13), (.junk 14), (.junk 15), (.junk 16), .undef, .undef, (.junk 17), (.junk 18), (.junk 19), (.junk 20), (.junk 21), (.junk 22), (.junk 23), (.junk 24), (.junk 25), (.junk 26), (.junk 27), (.junk 28), (.junk 29), (.junk 30), (.junk 31), (.junk 32), (.junk 33), (.junk 34), (.junk 35), (.junk 36), (.va 1), (.int .i64 (.a 1)), (.int .i64 (.a 2)), (.junk 37), (.junk 38), (.junk 39), (.junk 40), (.junk 41), (.junk 42), (.junk 43), (.junk 44), (.junk 45), (.junk 46), (.junk 47), (.junk 48), (.junk 49), (.junk 50), .undef, .undef, .undef, .undef, .undef, .undef, .undef, .undef, .undef, .undef, .undef, .undef, .undef, .undef, .undef], H := [(.cells [.nilS, .nilS] 27 false)], ni := 3, nb := 0, nv := 2, nj := 51 },
 { todo := [(.code [false, false, true, false, true, true, true, true, true, true, true]), (.inLoop [false, false, true, false, true, true, true, true, true, true, true]), (.inBlock 4), (.code [true, true, true, true, true, true, true, true])], sl := [(.junk 0), .undef, (.ptr 0 0), (.junk 1), (.va 0), (.junk 2), (.int .i64 (.a 0)), (.junk 3), (.junk 4), (.junk 5), (.junk 6), (.junk 7), (.junk 8), (.junk 9), (.junk 10), .undef, (.junk 11), (.junk 12), (.junk 13), (.junk 14), (.junk 15), (.junk 16), (.junk 17), .undef, .undef, (.junk 18), (.junk 19), (.junk 20), (.junk 21), (.junk 22), (.junk 23), (.junk 24), (.junk 25), (.junk 26), (.junk 27), (.junk 28), (.junk 29), (.junk 30), (.junk 31), (.junk 32), (.junk 33), (.junk 34), (.junk 35), (.junk 36), (.junk 37), (.junk 38), (.junk 39), (.junk 40), (.junk 41), (.junk 42), (.junk 43), (.junk 44), (.junk 45), (.junk 46), (.junk 47), (.junk 48), (.junk 49), (.junk 50), (.junk 51), (.junk 52), (.junk 53), (.junk 54), (.junk 55), (.int .i64 (.a 1)), (.int .i64 (.a 2)), (.junk 56), (.junk 57), (.junk 58), (.junk 59), (.junk 60), (.junk 61), (.junk 62), (.junk 63), (.junk 64), (.junk 65), .undef, .undef], H := [(.cells [.nilS, .nilS] 27 false)], ni := 3, nb := 0, nv := 1, nj := 66 }]
theorem revealed_Check_ok : SysOk Try.prog 15 revealed_Check_S := sys_ok (c := (cg [[false, false, true, false, true, true, true, true, true], [false, false, true, false, true, true, true, true, true, true], [false, false, true, false, true, true, true, true, true, true, true]] [] [] true false false true)) (progOkG _ _ _ _ _ _ _ _ _) Try.func15 Try.call15 (by kernel_rfl) revealed_Check_pats revealed_Check_S 5000 rfl (by kernel_rfl) (by kernel_rfl) rfl
def revealed_allValid_s : PT :=
 (.need (.is 0 0)
 (.jump 0 [(.slen 0), (.l 0)] [] [(.va 0)]))
def revealed_allValid_t0 : PT :=
 (.ite (.lt (.a 1) (.a 0))
  (.need (.and (.le (.l 0) (.a 1)) (.lt (.a 1) (.slen 0)))
  (.load false (.ea 0 (.a 1) 12 0) [(.int .i64), (.int .i64), (.int .i64), (.int .i64), (.int .i64), (.int .i64), (.int .i64), (.int .i64), (.int .i64), (.int .i64), (.int .i64), (.int .i64)]
  (.call 49 [(.agg [(.int .i64 (.a 2)), (.int .i64 (.a 3)), (.int .i64 (.a 4)), (.int .i64 (.a 5)), (.int .i64 (.a 6)), (.int .i64 (.a 7)), (.int .i64 (.a 8)), (.int .i64 (.a 9)), (.int .i64 (.a 10)), (.int .i64 (.a 11)), (.int .i64 (.a 12)), (.int .i64 (.a 13))])] [] [(.one .bool)]
  (.ite (.not (.a 0))
   (.ret false (.bool (.t false)) [])
   (.need (.and (.le (.l (-9223372036854775808)) (.add (.a 1) (.l 1))) (.le (.add (.a 1) (.l 1)) (.l 9223372036854775807)))
   (.jump 0 [(.a 0), (.add (.a 1) (.l 1))] [] [(.va 0)]))))))
  (.ret false (.bool (.t true)) []))
def revealed_allValid_S : Sx.Sys := ⟨[(.sh (.one .val))], revealed_allValid_s, [revealed_allValid_t0], none⟩
def revealed_allValid_pats : List Cfg := [{ todo := [(.code [false, false, true, false, true]), (.inLoop [false, false, true, false, true]), (.inBlock 0), (.code [true, true])], sl := [(.junk 0), .undef, (.junk 1), .undef, (.junk 2), (.va 0), (.int .i64 (.a 0)), (.int .i64 (.a 1)), (.junk 3), (.junk 4), (.junk 5), (.junk 6), (.junk 7), (.junk 8), (.junk 9)], H := [], ni := 2, nb := 0, nv := 1, nj := 10 }]
theorem revealed_allValid_ok : SysOk Try.prog 39 revealed_allValid_S := sys_ok (c := (cg [[false, false, true, false, true]] [] [] false false false true)) (progOkG _ _ _ _ _ _ _ _ _) Try.func39 Try.call39 (by kernel_rfl) revealed_allValid_pats revealed_allValid_S 5000 rfl (by kernel_rfl) (by kernel_rfl) rfl
def revealed_explains_s : PT :=
 (.need (.is 0 1)
 (.need (.is 0 0)
 (.ite (.not (.eq (.slen 1) (.slen 0)))
  (.ret false (.bool (.t false)) [])
  (.need (.is 0 0)
  (.jump 0 [(.slen 0), (.l 0)] [] [(.va 0), (.va 1)])))))
def revealed_explains_t0 : PT :=
 (.ite (.lt (.a 1) (.a 0))
  (.need (.and (.le (.l 0) (.a 1)) (.lt (.a 1) (.slen 0)))
  (.load false (.ea 0 (.a 1) 12 0) [(.int .i64), (.int .i64), (.int .i64), (.int .i64), (.int .i64), (.int .i64), (.int .i64), (.int .i64), (.int .i64), (.int .i64), (.int .i64), (.int .i64)]
  (.need (.and (.le (.l 0) (.a 1)) (.lt (.a 1) (.slen 1)))
  (.load true (.ea 1 (.a 1) 1 0) [(.int .i64)]
  (.call 41 [(.agg [(.int .i64 (.a 2)), (.int .i64 (.a 3)), (.int .i64 (.a 4)), (.int .i64 (.a 5)), (.int .i64 (.a 6)), (.int .i64 (.a 7))]), (.agg [(.int .i64 (.a 8)), (.int .i64 (.a 9)), (.int .i64 (.a 10)), (.int .i64 (.a 11)), (.int .i64 (.a 12)), (.int .i64 (.a 13))])] [] [(.one (.int .i64))]
  (.ite (.lt (.a 14) (.a 15))
   (.ret false (.bool (.t false)) [])
   (.ite (.and (.eq (.a 8) (.l 0)) (.and (.eq (.a 9) (.l 0)) (.and (.eq (.a 10) (.l 0)) (.and (.eq (.a 11) (.l 0)) (.and (.eq (.a 12) (.l 0)) (.eq (.a 13) (.l 0)))))))
    (.need (.and (.le (.l 0) (.a 1)) (.lt (.a 1) (.slen 1)))
    (.load true (.ea 1 (.a 1) 1 0) [(.int .i64)]
    (.ite (.not (.eq (.a 16) (.l 0)))
     (.ret false (.bool (.t false)) [])
     (.need (.is 0 0)
     (.jump 1 [(.a 1), (.a 0), (.a 8), (.a 9), (.a 10), (.a 11), (.a 12), (.a 13), (.slen 0), (.l 0), (.a 2), (.a 3), (.a 4), (.a 5), (.a 6), (.a 7)] [(.and (.eq (.a 8) (.l 0)) (.and (.eq (.a 9) (.l 0)) (.and (.eq (.a 10) (.l 0)) (.and (.eq (.a 11) (.l 0)) (.and (.eq (.a 12) (.l 0)) (.eq (.a 13) (.l 0))))))), (.t true), (.not (.eq (.a 16) (.l 0)))] [(.va 0), (.va 1)])))))
    (.need (.is 0 0)
    (.jump 1 [(.a 1), (.a 0), (.a 8), (.a 9), (.a 10), (.a 11), (.a 12), (.a 13), (.slen 0), (.l 0), (.a 2), (.a 3), (.a 4), (.a 5), (.a 6), (.a 7)] [(.and (.eq (.a 8) (.l 0)) (.and (.eq (.a 9) (.l 0)) (.and (.eq (.a 10) (.l 0)) (.and (.eq (.a 11) (.l 0)) (.and (.eq (.a 12) (.l 0)) (.eq (.a 13) (.l 0))))))), (.t false), (.t false)] [(.va 0), (.va 1)])))))))))
  (.ret false (.bool (.t true)) []))
def revealed_explains_t1 : PT :=
 (.ite (.lt (.a 9) (.a 8))
  (.need (.and (.le (.l 0) (.a 9)) (.lt (.a 9) (.slen 0)))
  (.load false (.ea 0 (.a 9) 12 0) [(.int .i64), (.int .i64), (.int .i64), (.int .i64), (.int .i64), (.int .i64), (.int .i64), (.int .i64), (.int .i64), (.int .i64), (.int .i64), (.int .i64)]
  (.need (.and (.le (.l 0) (.a 9)) (.lt (.a 9) (.slen 1)))
  (.need (.and (.le (.l 0) (.a 0)) (.lt (.a 0) (.slen 1)))
  (.load true (.ea 1 (.a 9) 1 0) [(.int .i64)]
  (.load true (.ea 1 (.a 0) 1 0) [(.int .i64)]
  (.need (.and (.le (.l (-9223372036854775808)) (.sub (.a 28) (.a 29))) (.le (.sub (.a 28) (.a 29)) (.l 9223372036854775807)))
  (.call 48 [(.agg [(.int .i64 (.a 10)), (.int .i64 (.a 11)), (.int .i64 (.a 12)), (.int .i64 (.a 13)), (.int .i64 (.a 14)), (.int .i64 (.a 15)), (.int .i64 (.a 2)), (.int .i64 (.a 3)), (.int .i64 (.a 4)), (.int .i64 (.a 5)), (.int .i64 (.a 6)), (.int .i64 (.a 7))]), (.agg [(.int .i64 (.a 16)), (.int .i64 (.a 17)), (.int .i64 (.a 18)), (.int .i64 (.a 19)), (.int .i64 (.a 20)), (.int .i64 (.a 21)), (.int .i64 (.a 22)), (.int .i64 (.a 23)), (.int .i64 (.a 24)), (.int .i64 (.a 25)), (.int .i64 (.a 26)), (.int .i64 (.a 27))])] [] [(.one (.int .i64))]
  (.ite (.lt (.a 30) (.sub (.a 28) (.a 29)))
   (.ret false (.bool (.t false)) [])
   (.need (.and (.le (.l (-9223372036854775808)) (.add (.a 9) (.l 1))) (.le (.add (.a 9) (.l 1)) (.l 9223372036854775807)))
   (.jump 1 [(.a 0), (.a 1), (.a 2), (.a 3), (.a 4), (.a 5), (.a 6), (.a 7), (.a 8), (.add (.a 9) (.l 1)), (.a 10), (.a 11), (.a 12), (.a 13), (.a 14), (.a 15)] [(.a 0), (.a 1), (.a 2)] [(.va 0), (.va 1)])))))))))))
  (.need (.and (.le (.l (-9223372036854775808)) (.add (.a 0) (.l 1))) (.le (.add (.a 0) (.l 1)) (.l 9223372036854775807)))
  (.jump 0 [(.a 1), (.add (.a 0) (.l 1))] [] [(.va 0), (.va 1)])))
def revealed_explains_S : Sx.Sys := ⟨[(.sh (.one .val)), (.sh (.one .val))], revealed_explains_s, [revealed_explains_t0, revealed_explains_t1], none⟩
def revealed_explains_pats : List Cfg := [{ todo := [(.code [false, false, true, false, true, true]), (.inLoop [false, false, true, false, true, true]), (.inBlock 0), (.code [true, true, true])], sl := [(.va 0), (.va 1), .undef, .undef, (.junk 0), (.junk 1), (.junk 2), (.junk 3), (.junk 4), (.junk 5), (.junk 6), (.junk 7), (.junk 8), (.junk 9), (.va 0), (.int .i64 (.a 0)), (.int .i64 (.a 1)), (.junk 10), (.junk 11), (.junk 12), (.junk 13), (.junk 14), (.junk 15), (.junk 16), (.junk 17), (.junk 18), (.junk 19), (.junk 20), (.junk 21), (.junk 22), (.junk 23), (.junk 24), (.junk 25), (.junk 26), (.junk 27), (.junk 28), (.junk 29), (.junk 30), (.junk 31), (.junk 32), (.junk 33), (.junk 34), (.junk 35), (.junk 36), (.junk 37), (.junk 38), (.junk 39), (.junk 40), (.junk 41), (.junk 42), (.junk 43), (.junk 44), (.junk 45), (.junk 46), (.junk 47), (.junk 48), (.junk 49), (.junk 50), (.junk 51), (.junk 52), (.junk 53), (.junk 54), (.junk 55), (.junk 56), (.junk 57), (.junk 58)], H := [], ni := 2, nb := 0, nv := 2, nj := 59 },
 { todo := [(.code [false, false, true, true, true, false, false, true, true, false, false, true, false, true, true]), (.inLoop [false, false, true, true, true, false, false, true, true, false, false, true, false, true, true]), (.inBlock 2), (.inBlock 1), (.code [true, true, true, false, false, true, false, true, true]), (.inLoop [false, false, true, false, true, true]), (.inBlock 0), (.code [true, true, true])], sl := [(.va 0), (.va 1), .undef, .undef, (.junk 0), (.int .i64 (.a 0)), (.ptr 0 0), (.junk 1), (.junk 2), (.junk 3), (.junk 4), (.junk 5), (.junk 6), (.junk 7), (.va 0), (.int .i64 (.a 1)), (.int .i64 (.a 0)), (.junk 8), (.junk 9), (.junk 10), (.junk 11), (.junk 12), (.junk 13), (.junk 14), (.junk 15), (.junk 16), (.junk 17), (.junk 18), (.junk 19), (.junk 20), (.junk 21), (.junk 22), (.ptr 0 6), (.agg [(.int .i64 (.a 2)), (.int .i64 (.a 3)), (.int .i64 (.a 4)), (.int .i64 (.a 5)), (.int .i64 (.a 6)), (.int .i64 (.a 7))]), (.agg [(.int .i64 (.l 0)), (.int .i64 (.l 0)), (.int .i64 (.l 0)), (.int .i64 (.l 0)), (.int .i64 (.l 0)), (.int .i64 (.l 0))]), (.bool (.a 0)), (.bool (.a 1)), (.junk 23), (.junk 24), (.junk 25), (.junk 26), (.junk 27), (.bool (.a 2)), (.junk 28), (.va 0), (.int .i64 (.a 8)), (.int .i64 (.a 9)), (.junk 29), (.junk 30), (.junk 31), (.junk 32), (.junk 33), (.junk 34), (.junk 35), (.junk 36), (.junk 37), (.junk 38), (.junk 39), (.junk 40), (.junk 41), (.junk 42), (.junk 43), (.junk 44), (.junk 45), (.junk 46), (.junk 47)], H := [(.cells [(.int .i64 (.a 10)), (.int .i64 (.a 11)), (.int .i64 (.a 12)), (.int .i64 (.a 13)), (.int .i64 (.a 14)), (.int .i64 (.a 15)), (.int .i64 (.a 2)), (.int .i64 (.a 3)), (.int .i64 (.a 4)), (.int .i64 (.a 5)), (.int .i64 (.a 6)), (.int .i64 (.a 7))] 44 false)], ni := 16, nb := 3, nv := 2, nj := 48 }]
theorem revealed_explains_ok : SysOk Try.prog 47 revealed_explains_S := sys_ok (c := (cg [[false, false, true, false, true, true], [false, false, true, true, true, false, false, true, true, false, false, true, false, true, true]] [] [] false false false true)) (progOkG _ _ _ _ _ _ _ _ _) Try.func47 Try.call47 (by kernel_rfl) revealed_explains_pats revealed_explains_S 5000 rfl (by kernel_rfl) (by kernel_rfl) rfl
def bundle_Check_s : PT :=
 (.ite (.lt (.a 0) (.l 0))
  (.ret false (.int .i64 (.l 4)) [])
  (.ite (.lt (.l 4) (.a 0))
   (.ret false (.int .i64 (.l 4)) [])
   (.ite (.lt (.a 1) (.l 0))
    (.ret false (.int .i64 (.l 4)) [])
    (.ite (.lt (.l 4) (.a 1))
     (.ret false (.int .i64 (.l 4)) [])
     (.ite (.lt (.a 2) (.l 0))
      (.ret false (.int .i64 (.l 4)) [])
      (.ite (.lt (.l 4) (.a 2))
       (.ret false (.int .i64 (.l 4)) [])
       (.ite (.lt (.a 3) (.l 0))
        (.ret false (.int .i64 (.l 4)) [])
        (.ite (.lt (.l 4) (.a 3))
         (.ret false (.int .i64 (.l 4)) [])
         (.ite (.lt (.a 4) (.l 0))
          (.ret false (.int .i64 (.l 4)) [])
          (.ite (.lt (.l 4) (.a 4))
           (.ret false (.int .i64 (.l 4)) [])
           (.ite (.lt (.a 5) (.l 0))
            (.ret false (.int .i64 (.l 4)) [])
            (.ite (.lt (.l 4) (.a 5))
             (.ret false (.int .i64 (.l 4)) [])
             (.ret false (.int .i64 (.l 0)) [])))))))))))))
def bundle_Check_S : Sx.Sys := ⟨[(.sh (.agg [(.int .i64), (.int .i64), (.int .i64), (.int .i64), (.int .i64), (.int .i64)]))], bundle_Check_s, [], none⟩
def bundle_Check_pats : List Cfg := []
theorem bundle_Check_ok : SysOk Try.prog 55 bundle_Check_S := sys_ok (c := (cg [] [] [] false false false true)) (progOkG _ _ _ _ _ _ _ _ _) Try.func55 Try.call55 (by kernel_rfl) bundle_Check_pats bundle_Check_S 5000 rfl (by kernel_rfl) (by kernel_rfl) rfl
def saleroomref07_Cost_s : PT :=
 (.need (.and (.le (.l (-9223372036854775808)) (.mul (.a 0) (.a 6))) (.le (.mul (.a 0) (.a 6)) (.l 9223372036854775807)))
 (.need (.and (.le (.l (-9223372036854775808)) (.mul (.a 0) (.a 6))) (.le (.mul (.a 0) (.a 6)) (.l 9223372036854775807)))
 (.need (.and (.le (.l (-9223372036854775808)) (.mul (.a 1) (.a 7))) (.le (.mul (.a 1) (.a 7)) (.l 9223372036854775807)))
 (.need (.and (.le (.l (-9223372036854775808)) (.add (.mul (.a 0) (.a 6)) (.mul (.a 1) (.a 7)))) (.le (.add (.mul (.a 0) (.a 6)) (.mul (.a 1) (.a 7))) (.l 9223372036854775807)))
 (.need (.and (.le (.l (-9223372036854775808)) (.mul (.a 2) (.a 8))) (.le (.mul (.a 2) (.a 8)) (.l 9223372036854775807)))
 (.need (.and (.le (.l (-9223372036854775808)) (.add (.add (.mul (.a 0) (.a 6)) (.mul (.a 1) (.a 7))) (.mul (.a 2) (.a 8)))) (.le (.add (.add (.mul (.a 0) (.a 6)) (.mul (.a 1) (.a 7))) (.mul (.a 2) (.a 8))) (.l 9223372036854775807)))
 (.need (.and (.le (.l (-9223372036854775808)) (.mul (.a 3) (.a 9))) (.le (.mul (.a 3) (.a 9)) (.l 9223372036854775807)))
 (.need (.and (.le (.l (-9223372036854775808)) (.add (.add (.add (.mul (.a 0) (.a 6)) (.mul (.a 1) (.a 7))) (.mul (.a 2) (.a 8))) (.mul (.a 3) (.a 9)))) (.le (.add (.add (.add (.mul (.a 0) (.a 6)) (.mul (.a 1) (.a 7))) (.mul (.a 2) (.a 8))) (.mul (.a 3) (.a 9))) (.l 9223372036854775807)))
 (.need (.and (.le (.l (-9223372036854775808)) (.mul (.a 4) (.a 10))) (.le (.mul (.a 4) (.a 10)) (.l 9223372036854775807)))
 (.need (.and (.le (.l (-9223372036854775808)) (.add (.add (.add (.add (.mul (.a 0) (.a 6)) (.mul (.a 1) (.a 7))) (.mul (.a 2) (.a 8))) (.mul (.a 3) (.a 9))) (.mul (.a 4) (.a 10)))) (.le (.add (.add (.add (.add (.mul (.a 0) (.a 6)) (.mul (.a 1) (.a 7))) (.mul (.a 2) (.a 8))) (.mul (.a 3) (.a 9))) (.mul (.a 4) (.a 10))) (.l 9223372036854775807)))
 (.need (.and (.le (.l (-9223372036854775808)) (.mul (.a 5) (.a 11))) (.le (.mul (.a 5) (.a 11)) (.l 9223372036854775807)))
 (.need (.and (.le (.l (-9223372036854775808)) (.add (.add (.add (.add (.add (.mul (.a 0) (.a 6)) (.mul (.a 1) (.a 7))) (.mul (.a 2) (.a 8))) (.mul (.a 3) (.a 9))) (.mul (.a 4) (.a 10))) (.mul (.a 5) (.a 11)))) (.le (.add (.add (.add (.add (.add (.mul (.a 0) (.a 6)) (.mul (.a 1) (.a 7))) (.mul (.a 2) (.a 8))) (.mul (.a 3) (.a 9))) (.mul (.a 4) (.a 10))) (.mul (.a 5) (.a 11))) (.l 9223372036854775807)))
 (.ret false (.int .i64 (.add (.add (.add (.add (.add (.mul (.a 0) (.a 6)) (.mul (.a 1) (.a 7))) (.mul (.a 2) (.a 8))) (.mul (.a 3) (.a 9))) (.mul (.a 4) (.a 10))) (.mul (.a 5) (.a 11)))) [])))))))))))))
def saleroomref07_Cost_S : Sx.Sys := ⟨[(.sh (.agg [(.int .i64), (.int .i64), (.int .i64), (.int .i64), (.int .i64), (.int .i64)])), (.sh (.agg [(.int .i64), (.int .i64), (.int .i64), (.int .i64), (.int .i64), (.int .i64)]))], saleroomref07_Cost_s, [], none⟩
def saleroomref07_Cost_pats : List Cfg := []
theorem saleroomref07_Cost_ok : SysOk Try.prog 64 saleroomref07_Cost_S := sys_ok (c := (cg [] [] [] false false false true)) (progOkG _ _ _ _ _ _ _ _ _) Try.func64 Try.call64 (by kernel_rfl) saleroomref07_Cost_pats saleroomref07_Cost_S 5000 rfl (by kernel_rfl) (by kernel_rfl) rfl
end Go.Proofs.Ythjahianafohjaa
set_option maxRecDepth 100000
namespace Go.Proofs.Ythjahianafohjaa
open Go.Sx
def saleroomref36_Check_s : PT :=
 (.call 17 [(.va 0)] [] [(.one .bool)]
 (.ite (.not (.a 0))
  (.ret false (.tup [(.agg [.nilS, .nilS]), (.bool (.t false))]) [])
  (.call 42 [(.va 0)] [] [(.one .val), (.one .bool)]
  (.ite (.not (.a 1))
   (.ret false (.tup [(.agg [.nilS, .nilS]), (.bool (.t false))]) [])
   (.need (.is 0 0)
   (.mkM (.slen 0) [(.int .i64 (.l 0))] 2 1 8
   (.jump 0 [(.l 0)] [] [(.va 0), (.va 1), (.va 2)])))))))
def saleroomref36_Check_t0 : PT :=
 (.need (.is 0 0)
 (.ite (.lt (.a 0) (.slen 0))
  (.jump 1 [(.a 0), (.l 0)] [] [(.va 0), (.va 1), (.va 2)])
  (.jump 2 [(.l 0), (.l 0)] [(.t false)] [(.va 0), (.va 2)])))
def saleroomref36_Check_t1_b1 : PT :=
 (.load false (.ea 2 (.a 0) 1 0) [(.int .i64)]
     (.load false (.ea 3 (.a 0) 1 0) [(.int .i64)]
     (.need (.and (.le (.l 0) (.a 0)) (.lt (.a 0) (.slen 2)))
     (.storeM (.ea 2 (.a 0) 1 0) [(.int .i64 (.mn (.a 2) (.a 3)))]
     (.need (.and (.le (.l (-9223372036854775808)) (.add (.a 1) (.l 1))) (.le (.add (.a 1) (.l 1)) (.l 9223372036854775807)))
     (.jump 1 [(.a 0), (.add (.a 1) (.l 1))] [] [(.va 0), (.va 1), (.va 2)]))))))
def saleroomref36_Check_t1_b2 : PT :=
 (.load false (.ea 3 (.a 0) 1 0) [(.int .i64)]
     (.load false (.ea 2 (.a 0) 1 0) [(.int .i64)]
     (.need (.and (.le (.l 0) (.a 0)) (.lt (.a 0) (.slen 2)))
     (.storeM (.ea 2 (.a 0) 1 0) [(.int .i64 (.mn (.a 3) (.a 2)))]
     (.need (.and (.le (.l (-9223372036854775808)) (.add (.a 1) (.l 1))) (.le (.add (.a 1) (.l 1)) (.l 9223372036854775807)))
     (.jump 1 [(.a 0), (.add (.a 1) (.l 1))] [] [(.va 0), (.va 1), (.va 2)]))))))
def saleroomref36_Check_t1_b3 : PT :=
 (.need (.and (.le (.l 0) (.a 0)) (.lt (.a 0) (.slen 2)))
    (.both saleroomref36_Check_t1_b1 saleroomref36_Check_t1_b2))
def saleroomref36_Check_t1_b4 : PT :=
 (.load false (.ea 3 (.a 0) 1 0) [(.int .i64)]
    (.need (.and (.le (.l 0) (.a 0)) (.lt (.a 0) (.slen 2)))
    (.load false (.ea 2 (.a 0) 1 0) [(.int .i64)]
    (.need (.and (.le (.l 0) (.a 0)) (.lt (.a 0) (.slen 2)))
    (.storeM (.ea 2 (.a 0) 1 0) [(.int .i64 (.mn (.a 3) (.a 2)))]
    (.need (.and (.le (.l (-9223372036854775808)) (.add (.a 1) (.l 1))) (.le (.add (.a 1) (.l 1)) (.l 9223372036854775807)))
    (.jump 1 [(.a 0), (.add (.a 1) (.l 1))] [] [(.va 0), (.va 1), (.va 2)])))))))
def saleroomref36_Check_t1_b5 : PT :=
 (.both saleroomref36_Check_t1_b3 saleroomref36_Check_t1_b4)
def saleroomref36_Check_t1_b6 : PT :=
 (.load false (.ea 2 (.a 0) 1 0) [(.int .i64)]
      (.load false (.ea 3 (.a 0) 1 0) [(.int .i64)]
      (.need (.and (.le (.l 0) (.a 0)) (.lt (.a 0) (.slen 2)))
      (.storeM (.ea 2 (.a 0) 1 0) [(.int .i64 (.mn (.a 2) (.a 3)))]
      (.need (.and (.le (.l (-9223372036854775808)) (.add (.a 1) (.l 1))) (.le (.add (.a 1) (.l 1)) (.l 9223372036854775807)))
      (.jump 1 [(.a 0), (.add (.a 1) (.l 1))] [] [(.va 0), (.va 1), (.va 2)]))))))
def saleroomref36_Check_t1_b7 : PT :=
 (.load false (.ea 3 (.a 0) 1 0) [(.int .i64)]
      (.load false (.ea 2 (.a 0) 1 0) [(.int .i64)]
      (.need (.and (.le (.l 0) (.a 0)) (.lt (.a 0) (.slen 2)))
      (.storeM (.ea 2 (.a 0) 1 0) [(.int .i64 (.mn (.a 3) (.a 2)))]
      (.need (.and (.le (.l (-9223372036854775808)) (.add (.a 1) (.l 1))) (.le (.add (.a 1) (.l 1)) (.l 9223372036854775807)))
      (.jump 1 [(.a 0), (.add (.a 1) (.l 1))] [] [(.va 0), (.va 1), (.va 2)]))))))
def saleroomref36_Check_t1_b8 : PT :=
 (.both saleroomref36_Check_t1_b6 saleroomref36_Check_t1_b7)
def saleroomref36_Check_t1_b9 : PT :=
 (.load false (.ea 3 (.a 0) 1 0) [(.int .i64)]
       (.need (.and (.le (.l 0) (.a 0)) (.lt (.a 0) (.slen 2)))
       (.storeM (.ea 2 (.a 0) 1 0) [(.int .i64 (.mn (.a 2) (.a 3)))]
       (.need (.and (.le (.l (-9223372036854775808)) (.add (.a 1) (.l 1))) (.le (.add (.a 1) (.l 1)) (.l 9223372036854775807)))
       (.jump 1 [(.a 0), (.add (.a 1) (.l 1))] [] [(.va 0), (.va 1), (.va 2)])))))
def saleroomref36_Check_t1_b10 : PT :=
 (.load false (.ea 2 (.a 0) 1 0) [(.int .i64)]
      (.both saleroomref36_Check_t1_b9 saleroomref36_Check_t1_b9))
def saleroomref36_Check_t1_b11 : PT :=
 (.load false (.ea 2 (.a 0) 1 0) [(.int .i64)]
       (.need (.and (.le (.l 0) (.a 0)) (.lt (.a 0) (.slen 2)))
       (.storeM (.ea 2 (.a 0) 1 0) [(.int .i64 (.mn (.a 3) (.a 2)))]
       (.need (.and (.le (.l (-9223372036854775808)) (.add (.a 1) (.l 1))) (.le (.add (.a 1) (.l 1)) (.l 9223372036854775807)))
       (.jump 1 [(.a 0), (.add (.a 1) (.l 1))] [] [(.va 0), (.va 1), (.va 2)])))))
def saleroomref36_Check_t1_b12 : PT :=
 (.load false (.ea 3 (.a 0) 1 0) [(.int .i64)]
      (.both saleroomref36_Check_t1_b11 saleroomref36_Check_t1_b11))
def saleroomref36_Check_t1_b13 : PT :=
 (.both saleroomref36_Check_t1_b10 saleroomref36_Check_t1_b12)
def saleroomref36_Check_t1_b14 : PT :=
 (.need (.and (.le (.l 0) (.a 0)) (.lt (.a 0) (.slen 2)))
    (.both saleroomref36_Check_t1_b8 saleroomref36_Check_t1_b13))
def saleroomref36_Check_t1_b15 : PT :=
 (.need (.and (.le (.l 0) (.a 0)) (.lt (.a 0) (.slen 2)))
     (.load false (.ea 2 (.a 0) 1 0) [(.int .i64)]
     (.need (.and (.le (.l 0) (.a 0)) (.lt (.a 0) (.slen 2)))
     (.storeM (.ea 2 (.a 0) 1 0) [(.int .i64 (.mn (.a 3) (.a 2)))]
     (.need (.and (.le (.l (-9223372036854775808)) (.add (.a 1) (.l 1))) (.le (.add (.a 1) (.l 1)) (.l 9223372036854775807)))
     (.jump 1 [(.a 0), (.add (.a 1) (.l 1))] [] [(.va 0), (.va 1), (.va 2)]))))))
def saleroomref36_Check_t1_b16 : PT :=
 (.load false (.ea 2 (.a 0) 1 0) [(.int .i64)]
      (.need (.and (.le (.l 0) (.a 0)) (.lt (.a 0) (.slen 2)))
      (.storeM (.ea 2 (.a 0) 1 0) [(.int .i64 (.mn (.a 3) (.a 2)))]
      (.need (.and (.le (.l (-9223372036854775808)) (.add (.a 1) (.l 1))) (.le (.add (.a 1) (.l 1)) (.l 9223372036854775807)))
      (.jump 1 [(.a 0), (.add (.a 1) (.l 1))] [] [(.va 0), (.va 1), (.va 2)])))))
def saleroomref36_Check_t1_b17 : PT :=
 (.need (.and (.le (.l 0) (.a 0)) (.lt (.a 0) (.slen 2)))
     (.both saleroomref36_Check_t1_b16 saleroomref36_Check_t1_b16))
def saleroomref36_Check_t1_b18 : PT :=
 (.load false (.ea 3 (.a 0) 1 0) [(.int .i64)]
    (.both saleroomref36_Check_t1_b15 saleroomref36_Check_t1_b17))
def saleroomref36_Check_t1_b19 : PT :=
 (.both saleroomref36_Check_t1_b14 saleroomref36_Check_t1_b18)
def saleroomref36_Check_t1 : PT :=
 (.need (.is 0 0)
 (.ite (.lt (.a 1) (.slen 0))
  (.need (.and (.le (.l 0) (.a 1)) (.lt (.a 1) (.slen 1)))
  (.load true (.ea 1 (.a 1) 1 0) [.val]
  (.need (.and (.le (.l 0) (.a 0)) (.lt (.a 0) (.slen 3)))
  (.both saleroomref36_Check_t1_b5 saleroomref36_Check_t1_b19))))
  (.need (.and (.le (.l (-9223372036854775808)) (.add (.a 0) (.l 1))) (.le (.add (.a 0) (.l 1)) (.l 9223372036854775807)))
  (.jump 0 [(.add (.a 0) (.l 1))] [] [(.va 0), (.va 1), (.va 2)]))))
def saleroomref36_Check_t2 : PT :=
 (.need (.is 0 0)
 (.ite (.lt (.a 1) (.slen 0))
  (.need (.and (.le (.l 0) (.a 1)) (.lt (.a 1) (.slen 0)))
  (.load false (.ea 0 (.a 1) 12 6) [(.int .i64), (.int .i64), (.int .i64), (.int .i64), (.int .i64), (.int .i64)]
  (.ite (.and (.eq (.a 2) (.l 0)) (.and (.eq (.a 3) (.l 0)) (.and (.eq (.a 4) (.l 0)) (.and (.eq (.a 5) (.l 0)) (.and (.eq (.a 6) (.l 0)) (.eq (.a 7) (.l 0)))))))
   (.need (.and (.le (.l 0) (.a 1)) (.lt (.a 1) (.slen 1)))
   (.load false (.ea 1 (.a 1) 1 0) [(.int .i64)]
   (.need (.and (.le (.l (-9223372036854775808)) (.sub (.l 0) (.a 8))) (.le (.sub (.l 0) (.a 8)) (.l 9223372036854775807)))
   (.need (.and (.le (.l (-9223372036854775808)) (.add (.a 1) (.l 1))) (.le (.add (.a 1) (.l 1)) (.l 9223372036854775807)))
   (.jump 2 [(.sub (.l 0) (.a 8)), (.add (.a 1) (.l 1))] [(.t true)] [(.va 0), (.va 1)])))))
   (.need (.and (.le (.l (-9223372036854775808)) (.add (.a 1) (.l 1))) (.le (.add (.a 1) (.l 1)) (.l 9223372036854775807)))
   (.jump 2 [(.a 0), (.add (.a 1) (.l 1))] [(.a 0)] [(.va 0), (.va 1)])))))
  (.jump 3 [(.a 0), (.l 0)] [(.a 0)] [(.va 0), (.va 1)])))
def saleroomref36_Check_t3_b1 : PT :=
 (.call 43 [(.agg [(.int .i64 (.a 2)), (.int .i64 (.a 3)), (.int .i64 (.a 4)), (.int .i64 (.a 5)), (.int .i64 (.a 6)), (.int .i64 (.a 7)), (.int .i64 (.a 8)), (.int .i64 (.a 9)), (.int .i64 (.a 10)), (.int .i64 (.a 11)), (.int .i64 (.a 12)), (.int .i64 (.a 13))]), (.agg [(.int .i64 (.a 14)), (.int .i64 (.a 15)), (.int .i64 (.a 16)), (.int .i64 (.a 17)), (.int .i64 (.a 18)), (.int .i64 (.a 19))])] [] [(.one (.int .i64))]
    (.load false (.ea 1 (.a 1) 1 0) [(.int .i64)]
    (.need (.and (.le (.l (-9223372036854775808)) (.sub (.a 20) (.a 21))) (.le (.sub (.a 20) (.a 21)) (.l 9223372036854775807)))
    (.need (.and (.le (.l (-9223372036854775808)) (.add (.a 1) (.l 1))) (.le (.add (.a 1) (.l 1)) (.l 9223372036854775807)))
    (.jump 3 [(.mx (.a 0) (.sub (.a 20) (.a 21))), (.add (.a 1) (.l 1))] [(.a 0)] [(.va 0), (.va 1)])))))
def saleroomref36_Check_t3_b2 : PT :=
 (.load false (.ea 1 (.a 1) 1 0) [(.int .i64)]
    (.call 43 [(.agg [(.int .i64 (.a 2)), (.int .i64 (.a 3)), (.int .i64 (.a 4)), (.int .i64 (.a 5)), (.int .i64 (.a 6)), (.int .i64 (.a 7)), (.int .i64 (.a 8)), (.int .i64 (.a 9)), (.int .i64 (.a 10)), (.int .i64 (.a 11)), (.int .i64 (.a 12)), (.int .i64 (.a 13))]), (.agg [(.int .i64 (.a 14)), (.int .i64 (.a 15)), (.int .i64 (.a 16)), (.int .i64 (.a 17)), (.int .i64 (.a 18)), (.int .i64 (.a 19))])] [] [(.one (.int .i64))]
    (.need (.and (.le (.l (-9223372036854775808)) (.sub (.a 21) (.a 20))) (.le (.sub (.a 21) (.a 20)) (.l 9223372036854775807)))
    (.need (.and (.le (.l (-9223372036854775808)) (.add (.a 1) (.l 1))) (.le (.add (.a 1) (.l 1)) (.l 9223372036854775807)))
    (.jump 3 [(.mx (.a 0) (.sub (.a 21) (.a 20))), (.add (.a 1) (.l 1))] [(.a 0)] [(.va 0), (.va 1)])))))
def saleroomref36_Check_t3 : PT :=
 (.need (.is 0 0)
 (.ite (.lt (.a 1) (.slen 0))
  (.ite (.not (.a 0))
   (.need (.and (.le (.l 0) (.a 1)) (.lt (.a 1) (.slen 0)))
   (.need (.and (.le (.l 0) (.a 1)) (.lt (.a 1) (.slen 0)))
   (.need (.and (.le (.l 0) (.a 1)) (.lt (.a 1) (.slen 1)))
   (.load true (.ea 0 (.a 1) 12 0) [(.int .i64), (.int .i64), (.int .i64), (.int .i64), (.int .i64), (.int .i64), (.int .i64), (.int .i64), (.int .i64), (.int .i64), (.int .i64), (.int .i64)]
   (.load true (.ea 0 (.a 1) 12 6) [(.int .i64), (.int .i64), (.int .i64), (.int .i64), (.int .i64), (.int .i64)]
   (.both saleroomref36_Check_t3_b1 saleroomref36_Check_t3_b2))))))
   (.jump 4 [(.a 0), (.l 0)] [] [(.va 0), (.va 1)]))
  (.jump 4 [(.a 0), (.l 0)] [] [(.va 0), (.va 1)])))
def saleroomref36_Check_t4_b1 : PT :=
 (.need (.and (.le (.l 0) (.a 1)) (.lt (.a 1) (.slen 1)))
   (.load false (.ea 1 (.a 1) 1 0) [(.int .i64)]
   (.need (.and (.le (.l (-9223372036854775808)) (.add (.a 2) (.a 0))) (.le (.add (.a 2) (.a 0)) (.l 9223372036854775807)))
   (.need (.and (.le (.l 0) (.a 1)) (.lt (.a 1) (.slen 1)))
   (.storeM (.ea 1 (.a 1) 1 0) [(.int .i64 (.add (.a 2) (.a 0)))]
   (.need (.and (.le (.l (-9223372036854775808)) (.add (.a 1) (.l 1))) (.le (.add (.a 1) (.l 1)) (.l 9223372036854775807)))
   (.jump 4 [(.a 0), (.add (.a 1) (.l 1))] [] [(.va 0), (.va 1)])))))))
def saleroomref36_Check_t4_b2 : PT :=
 (.load false (.ea 1 (.a 1) 1 0) [(.int .i64)]
    (.need (.and (.le (.l (-9223372036854775808)) (.add (.a 2) (.a 0))) (.le (.add (.a 2) (.a 0)) (.l 9223372036854775807)))
    (.need (.and (.le (.l 0) (.a 1)) (.lt (.a 1) (.slen 1)))
    (.storeM (.ea 1 (.a 1) 1 0) [(.int .i64 (.add (.a 2) (.a 0)))]
    (.need (.and (.le (.l (-9223372036854775808)) (.add (.a 1) (.l 1))) (.le (.add (.a 1) (.l 1)) (.l 9223372036854775807)))
    (.jump 4 [(.a 0), (.add (.a 1) (.l 1))] [] [(.va 0), (.va 1)]))))))
def saleroomref36_Check_t4_b3 : PT :=
 (.need (.and (.le (.l 0) (.a 1)) (.lt (.a 1) (.slen 1)))
   (.both saleroomref36_Check_t4_b2 saleroomref36_Check_t4_b2))
def saleroomref36_Check_t4 : PT :=
 (.need (.is 0 0)
 (.ite (.lt (.a 1) (.slen 0))
  (.both saleroomref36_Check_t4_b1 saleroomref36_Check_t4_b3)
  (.ret false (.tup [(.agg [.nilS, (.va 1)]), (.bool (.t true))]) [])))
def saleroomref36_Check_S : Sx.Sys := ⟨[(.sh (.one .val))], saleroomref36_Check_s, [saleroomref36_Check_t0, saleroomref36_Check_t1, saleroomref36_Check_t2, saleroomref36_Check_t3, saleroomref36_Check_t4], none⟩
def saleroomref36_Check_pats : List Cfg := [{ todo := [(.code [false, false, true, false, true, true, true, true, true, true, true]), (.inLoop [false, false, true, false, true, true, true, true, true, true, true]), (.inBlock 0), (.code [true, true, true, true, true, true, true, true])], sl := [(.va 0), .undef, (.ptr 0 0), (.junk 0), (.va 1), (.junk 1), (.ptr 1 0), (.int .i64 (.l 0)), (.bool (.t false)), (.int .i64 (.a 0)), (.junk 2), .undef, .undef, .undef, (.junk 3), (.junk 4), (.junk 5), .undef, (.junk 6), (.junk 7), (.junk 8), (.junk 9), (.junk 10), (.junk 11), (.junk 12), .undef, (.junk 13), (.junk 14), (.junk 15), (.junk 16), (.junk 17), (.junk 18), (.junk 19), (.junk 20), (.junk 21), (.junk 22), (.junk 23), (.junk 24), (.junk 25), (.junk 26), (.junk 27), (.junk 28), (.junk 29), (.junk 30), (.junk 31), (.junk 32), (.junk 33), (.junk 34), (.junk 35), (.junk 36), (.junk 37), (.junk 38), (.junk 39), (.junk 40), (.junk 41), (.junk 42), (.junk 43), (.junk 44), (.junk 45), .undef, .undef, .undef, .undef, .undef, .undef, .undef, .undef, .undef, .undef, .undef, .undef, .undef, .undef, .undef, .undef, .undef, .undef, .undef, .undef, .undef, .undef, .undef, .undef, .undef, .undef, .undef, .undef, .undef, .undef, .undef, .undef, .undef, .undef, .undef, .undef, .undef, .undef, .undef, .undef, .undef, .undef, .undef, .undef, .undef, .undef, .undef, .undef, .undef, .undef, .undef, .undef, .undef, .undef, .undef, .undef, .undef, .undef, .undef, .undef, .undef, .undef, .undef, .undef, .undef], H := [(.cells [.nilS, .nilS] 30 false), (.cells [.nilS, (.va 2)] 30 false)], ni := 1, nb := 0, nv := 3, nj := 46 },
 { todo := [(.code [false, false, true, false, false, true, false, false, true, false, true, true, true, true, true, true, true]), (.inLoop [false, false, true, false, false, true, false, false, true, false, true, true, true, true, true, true, true]), (.inBlock 2), (.inBlock 1), (.code [true, true, false, false, true, false, true, true, true, true, true, true, true]), (.inLoop [false, false, true, false, true, true, true, true, true, true, true]), (.inBlock 0), (.code [true, true, true, true, true, true, true, true])], sl := [(.va 0), .undef, (.ptr 0 0), (.junk 0), (.va 1), (.junk 1), (.ptr 1 0), (.int .i64 (.l 0)), (.bool (.t false)), (.int .i64 (.a 0)), (.int .i64 (.a 1)), .undef, .undef, .undef, (.junk 2), (.junk 3), (.junk 4), .undef, (.junk 5), (.junk 6), (.junk 7), (.junk 8), (.junk 9), (.junk 10), (.junk 11), .undef, (.junk 12), (.junk 13), (.junk 14), (.junk 15), (.junk 16), (.junk 17), (.junk 18), (.junk 19), (.junk 20), (.junk 21), (.junk 22), (.junk 23), (.junk 24), (.junk 25), (.junk 26), (.junk 27), (.junk 28), (.junk 29), (.junk 30), (.junk 31), (.junk 32), (.junk 33), (.junk 34), (.junk 35), (.junk 36), (.junk 37), (.junk 38), (.junk 39), (.junk 40), (.junk 41), (.junk 42), (.junk 43), (.junk 44), .undef, .undef, .undef, .undef, .undef, .undef, .undef, .undef, .undef, .undef, .undef, .undef, .undef, .undef, .undef, .undef, .undef, .undef, .undef, .undef, .undef, .undef, .undef, .undef, .undef, .undef, .undef, .undef, .undef, .undef, .undef, .undef, .undef, .undef, .undef, .undef, .undef, .undef, .undef, .undef, .undef, .undef, .undef, .undef, .undef, .undef, .undef, .undef, .undef, .undef, .undef, .undef, .undef, .undef, .undef, .undef, .undef, .undef, .undef, .undef, .undef, .undef, .undef, .undef, .undef], H := [(.cells [.nilS, .nilS] 30 false), (.cells [.nilS, (.va 2)] 30 false)], ni := 2, nb := 0, nv := 3, nj := 45 },
 { todo := [(.code [false, false, true, false, true, true, true, true, true, true, true, true]), (.inLoop [false, false, true, false, true, true, true, true, true, true, true, true]), (.inBlock 4), (.code [true, true, true, true, true, true, true, true, true])], sl := [(.va 0), .undef, (.ptr 0 0), (.junk 0), (.junk 1), (.junk 2), (.ptr 1 0), (.int .i64 (.a 0)), (.bool (.a 0)), (.junk 3), (.junk 4), (.int .i64 (.a 1)), .undef, .undef, (.junk 5), (.junk 6), (.junk 7), .undef, (.junk 8), (.junk 9), (.junk 10), (.junk 11), (.junk 12), (.junk 13), (.junk 14), .undef, (.junk 15), (.junk 16), (.junk 17), (.junk 18), (.junk 19), (.junk 20), (.junk 21), (.junk 22), (.junk 23), (.junk 24), (.junk 25), (.junk 26), (.junk 27), (.junk 28), (.junk 29), (.junk 30), (.junk 31), (.junk 32), (.junk 33), (.junk 34), (.junk 35), (.junk 36), (.junk 37), (.junk 38), (.junk 39), (.junk 40), (.junk 41), (.junk 42), (.junk 43), (.junk 44), (.junk 45), (.junk 46), (.junk 47), (.junk 48), (.junk 49), (.junk 50), (.junk 51), (.junk 52), (.junk 53), (.junk 54), (.junk 55), (.junk 56), (.junk 57), (.junk 58), (.junk 59), (.junk 60), (.junk 61), (.junk 62), (.junk 63), (.junk 64), (.junk 65), (.junk 66), .undef, .undef, .undef, .undef, .undef, .undef, .undef, .undef, .undef, .undef, .undef, .undef, .undef, .undef, .undef, .undef, .undef, .undef, .undef, .undef, .undef, .undef, .undef, .undef, .undef, .undef, .undef, .undef, .undef, .undef, .undef, .undef, .undef, .undef, .undef, .undef, .undef, .undef, .undef, .undef, .undef, .undef, .undef, .undef, .undef, .undef], H := [(.cells [.nilS, .nilS] 30 false), (.cells [.nilS, (.va 1)] 30 false)], ni := 2, nb := 1, nv := 2, nj := 67 },
 { todo := [(.code [false, false, true, false, true, true, true, true, true, true, true, true, true]), (.inLoop [false, false, true, false, true, true, true, true, true, true, true, true, true]), (.inBlock 6), (.code [true, true, true, true, true, true, true, true, true, true])], sl := [(.va 0), .undef, (.ptr 0 0), (.junk 0), (.junk 1), (.junk 2), (.ptr 1 0), (.int .i64 (.a 0)), (.bool (.a 0)), (.junk 3), (.junk 4), (.junk 5), (.int .i64 (.a 1)), .undef, (.junk 6), (.junk 7), (.junk 8), .undef, (.junk 9), (.junk 10), (.junk 11), (.junk 12), (.junk 13), (.junk 14), (.junk 15), .undef, (.junk 16), (.junk 17), (.junk 18), (.junk 19), (.junk 20), (.junk 21), (.junk 22), (.junk 23), (.junk 24), (.junk 25), (.junk 26), (.junk 27), (.junk 28), (.junk 29), (.junk 30), (.junk 31), (.junk 32), (.junk 33), (.junk 34), (.junk 35), (.junk 36), (.junk 37), (.junk 38), (.junk 39), (.junk 40), (.junk 41), (.junk 42), (.junk 43), (.junk 44), (.junk 45), (.junk 46), (.junk 47), (.junk 48), (.junk 49), (.junk 50), (.junk 51), (.junk 52), (.junk 53), (.junk 54), (.junk 55), (.junk 56), (.junk 57), (.junk 58), (.junk 59), (.junk 60), (.junk 61), (.junk 62), (.junk 63), (.junk 64), (.junk 65), (.junk 66), (.junk 67), (.junk 68), (.junk 69), (.junk 70), (.junk 71), (.junk 72), (.junk 73), (.junk 74), (.junk 75), (.junk 76), (.junk 77), (.junk 78), (.junk 79), (.junk 80), (.junk 81), (.junk 82), (.junk 83), (.junk 84), (.junk 85), (.junk 86), (.junk 87), (.junk 88), (.junk 89), (.junk 90), (.junk 91), (.junk 92), (.junk 93), (.junk 94), (.junk 95), .undef, .undef, .undef, .undef, .undef, .undef, .undef, .undef, .undef, .undef, .undef, .undef, .undef, .undef, .undef, .undef, .undef, .undef], H := [(.cells [.nilS, .nilS] 30 false), (.cells [.nilS, (.va 1)] 30 false)], ni := 2, nb := 1, nv := 2, nj := 96 },
 { todo := [(.code [false, false, true, false, true, true, true, true, true, true, true, true, true, true]), (.inLoop [false, false, true, false, true, true, true, true, true, true, true, true, true, true]), (.inBlock 8), (.code [true, true, true, true, true, true, true, true, true, true, true])], sl := [(.va 0), .undef, (.ptr 0 0), (.junk 0), (.junk 1), (.junk 2), (.ptr 1 0), (.int .i64 (.a 0)), (.junk 3), (.junk 4), (.junk 5), (.junk 6), (.junk 7), (.int .i64 (.a 1)), (.junk 8), (.junk 9), (.junk 10), .undef, (.junk 11), (.junk 12), (.junk 13), (.junk 14), (.junk 15), (.junk 16), (.junk 17), .undef, (.junk 18), (.junk 19), (.junk 20), (.junk 21), (.junk 22), (.junk 23), (.junk 24), (.junk 25), (.junk 26), (.junk 27), (.junk 28), (.junk 29), (.junk 30), (.junk 31), (.junk 32), (.junk 33), (.junk 34), (.junk 35), (.junk 36), (.junk 37), (.junk 38), (.junk 39), (.junk 40), (.junk 41), (.junk 42), (.junk 43), (.junk 44), (.junk 45), (.junk 46), (.junk 47), (.junk 48), (.junk 49), (.junk 50), (.junk 51), (.junk 52), (.junk 53), (.junk 54), (.junk 55), (.junk 56), (.junk 57), (.junk 58), (.junk 59), (.junk 60), (.junk 61), (.junk 62), (.junk 63), (.junk 64), (.junk 65), (.junk 66), (.junk 67), (.junk 68), (.junk 69), (.junk 70), (.junk 71), (.junk 72), (.junk 73), (.junk 74), (.junk 75), (.junk 76), (.junk 77), (.junk 78), (.junk 79), (.junk 80), (.junk 81), (.junk 82), (.junk 83), (.junk 84), (.junk 85), (.junk 86), (.junk 87), (.junk 88), (.junk 89), (.junk 90), (.junk 91), (.junk 92), (.junk 93), (.junk 94), (.junk 95), (.junk 96), (.junk 97), (.junk 98), (.junk 99), (.junk 100), (.junk 101), (.junk 102), (.junk 103), (.junk 104), (.junk 105), (.junk 106), (.junk 107), (.junk 108), (.junk 109), (.junk 110), (.junk 111), (.junk 112), (.junk 113), (.junk 114), .undef], H := [(.cells [.nilS, .nilS] 30 false), (.cells [.nilS, (.va 1)] 30 false)], ni := 2, nb := 0, nv := 2, nj := 115 }]
theorem saleroomref36_Check_ok : SysOk Try.prog 16 saleroomref36_Check_S := sys_ok (c := (cg [[false, false, true, false, true, true, true, true, true, true, true], [false, false, true, false, false, true, false, false, true, false, true, true, true, true, true, true, true], [false, false, true, false, true, true, true, true, true, true, true, true], [false, false, true, false, true, true, true, true, true, true, true, true, true], [false, false, true, false, true, true, true, true, true, true, true, true, true, true]] [] [] false false false true [] [2])) (progOkG _ _ _ _ _ _ _ _ _) Try.func16 Try.call16 (by kernel_rfl) saleroomref36_Check_pats saleroomref36_Check_S 5000 rfl (by kernel_rfl) (by kernel_rfl) rfl
def revealed_lowered_s : PT :=
 (.need (.is 0 0)
 (.mkM (.slen 0) [(.int .i64 (.l 0))] 2 1 8
 (.need (.is 0 0)
 (.mkM (.slen 0) [(.int .i64 (.l 0))] 3 1 8
 (.need (.is 0 2)
 (.jump 0 [(.slen 2), (.l 0)] [] [(.va 0), (.va 1), (.va 2)]))))))
def revealed_lowered_t0 : PT :=
 (.ite (.lt (.a 1) (.a 0))
  (.need (.and (.le (.l 0) (.a 1)) (.lt (.a 1) (.slen 2)))
  (.storeM (.ea 2 (.a 1) 1 0) [(.int .i64 (.l (-1)))]
  (.need (.and (.le (.l (-9223372036854775808)) (.add (.a 1) (.l 1))) (.le (.add (.a 1) (.l 1)) (.l 9223372036854775807)))
  (.jump 0 [(.a 0), (.add (.a 1) (.l 1))] [] [(.va 0), (.va 1), (.va 2)]))))
  (.need (.is 0 0)
  (.jump 1 [(.l (-1)), (.slen 0), (.l 0)] [] [(.va 0), (.va 1), (.va 2)])))
def revealed_lowered_t1 : PT :=
 (.ite (.lt (.a 2) (.a 1))
  (.need (.is 0 0)
  (.jump 2 [(.l (-1)), (.a 1), (.a 2), (.slen 0), (.l 0)] [] [(.va 0), (.va 1), (.va 2)]))
  (.ite (.lt (.a 0) (.l 0))
   (.ret true (.tup [(.va 1), .nilS]) [])
   (.call 63 [(.va 2), (.int .i64 (.a 0))] [] [(.one .val)]
   (.ret true (.tup [.nilS, (.va 3)]) []))))
def revealed_lowered_t2 : PT :=
 (.ite (.lt (.a 4) (.a 3))
  (.need (.is 0 0)
  (.jump 3 [(.a 0), (.a 4), (.a 1), (.a 2), (.a 3), (.slen 0), (.l 0)] [] [(.va 0), (.va 1), (.va 2)]))
  (.ite (.lt (.a 0) (.l 0))
   (.ite (.lt (.a 0) (.l 0))
    (.ret true (.tup [(.va 1), .nilS]) [])
    (.call 63 [(.va 2), (.int .i64 (.a 0))] [] [(.one .val)]
    (.ret true (.tup [.nilS, (.va 3)]) [])))
   (.need (.and (.le (.l (-9223372036854775808)) (.add (.a 2) (.l 1))) (.le (.add (.a 2) (.l 1)) (.l 9223372036854775807)))
   (.jump 1 [(.a 0), (.a 1), (.add (.a 2) (.l 1))] [] [(.va 0), (.va 1), (.va 2)]))))
def revealed_lowered_t3_b1 : PT :=
 (.load false (.ea 0 (.a 1) 12 0) [(.int .i64), (.int .i64), (.int .i64), (.int .i64), (.int .i64), (.int .i64), (.int .i64), (.int .i64), (.int .i64), (.int .i64), (.int .i64), (.int .i64)]
    (.load false (.ea 0 (.a 6) 12 0) [(.int .i64), (.int .i64), (.int .i64), (.int .i64), (.int .i64), (.int .i64), (.int .i64), (.int .i64), (.int .i64), (.int .i64), (.int .i64), (.int .i64)]
    (.call 48 [(.agg [(.int .i64 (.a 8)), (.int .i64 (.a 9)), (.int .i64 (.a 10)), (.int .i64 (.a 11)), (.int .i64 (.a 12)), (.int .i64 (.a 13)), (.int .i64 (.a 14)), (.int .i64 (.a 15)), (.int .i64 (.a 16)), (.int .i64 (.a 17)), (.int .i64 (.a 18)), (.int .i64 (.a 19))]), (.agg [(.int .i64 (.a 20)), (.int .i64 (.a 21)), (.int .i64 (.a 22)), (.int .i64 (.a 23)), (.int .i64 (.a 24)), (.int .i64 (.a 25)), (.int .i64 (.a 26)), (.int .i64 (.a 27)), (.int .i64 (.a 28)), (.int .i64 (.a 29)), (.int .i64 (.a 30)), (.int .i64 (.a 31))])] [] [(.one (.int .i64))]
    (.need (.and (.le (.l (-9223372036854775808)) (.add (.a 7) (.a 32))) (.le (.add (.a 7) (.a 32)) (.l 9223372036854775807)))
    (.need (.and (.le (.l 0) (.a 6)) (.lt (.a 6) (.slen 1)))
    (.load false (.ea 1 (.a 6) 1 0) [(.int .i64)]
    (.ite (.lt (.add (.a 7) (.a 32)) (.a 33))
     (.need (.and (.le (.l 0) (.a 6)) (.lt (.a 6) (.slen 1)))
     (.storeM (.ea 1 (.a 6) 1 0) [(.int .i64 (.add (.a 7) (.a 32)))]
     (.need (.and (.le (.l 0) (.a 6)) (.lt (.a 6) (.slen 2)))
     (.storeM (.ea 2 (.a 6) 1 0) [(.int .i64 (.a 1))]
     (.need (.and (.le (.l (-9223372036854775808)) (.add (.a 6) (.l 1))) (.le (.add (.a 6) (.l 1)) (.l 9223372036854775807)))
     (.jump 3 [(.a 6), (.a 1), (.a 2), (.a 3), (.a 4), (.a 5), (.add (.a 6) (.l 1))] [] [(.va 0), (.va 1), (.va 2)]))))))
     (.need (.and (.le (.l (-9223372036854775808)) (.add (.a 6) (.l 1))) (.le (.add (.a 6) (.l 1)) (.l 9223372036854775807)))
     (.jump 3 [(.a 0), (.a 1), (.a 2), (.a 3), (.a 4), (.a 5), (.add (.a 6) (.l 1))] [] [(.va 0), (.va 1), (.va 2)])))))))))
def revealed_lowered_t3_b2 : PT :=
 (.load false (.ea 0 (.a 6) 12 0) [(.int .i64), (.int .i64), (.int .i64), (.int .i64), (.int .i64), (.int .i64), (.int .i64), (.int .i64), (.int .i64), (.int .i64), (.int .i64), (.int .i64)]
    (.load false (.ea 0 (.a 1) 12 0) [(.int .i64), (.int .i64), (.int .i64), (.int .i64), (.int .i64), (.int .i64), (.int .i64), (.int .i64), (.int .i64), (.int .i64), (.int .i64), (.int .i64)]
    (.call 48 [(.agg [(.int .i64 (.a 20)), (.int .i64 (.a 21)), (.int .i64 (.a 22)), (.int .i64 (.a 23)), (.int .i64 (.a 24)), (.int .i64 (.a 25)), (.int .i64 (.a 26)), (.int .i64 (.a 27)), (.int .i64 (.a 28)), (.int .i64 (.a 29)), (.int .i64 (.a 30)), (.int .i64 (.a 31))]), (.agg [(.int .i64 (.a 8)), (.int .i64 (.a 9)), (.int .i64 (.a 10)), (.int .i64 (.a 11)), (.int .i64 (.a 12)), (.int .i64 (.a 13)), (.int .i64 (.a 14)), (.int .i64 (.a 15)), (.int .i64 (.a 16)), (.int .i64 (.a 17)), (.int .i64 (.a 18)), (.int .i64 (.a 19))])] [] [(.one (.int .i64))]
    (.need (.and (.le (.l (-9223372036854775808)) (.add (.a 7) (.a 32))) (.le (.add (.a 7) (.a 32)) (.l 9223372036854775807)))
    (.need (.and (.le (.l 0) (.a 6)) (.lt (.a 6) (.slen 1)))
    (.load false (.ea 1 (.a 6) 1 0) [(.int .i64)]
    (.ite (.lt (.add (.a 7) (.a 32)) (.a 33))
     (.need (.and (.le (.l 0) (.a 6)) (.lt (.a 6) (.slen 1)))
     (.storeM (.ea 1 (.a 6) 1 0) [(.int .i64 (.add (.a 7) (.a 32)))]
     (.need (.and (.le (.l 0) (.a 6)) (.lt (.a 6) (.slen 2)))
     (.storeM (.ea 2 (.a 6) 1 0) [(.int .i64 (.a 1))]
     (.need (.and (.le (.l (-9223372036854775808)) (.add (.a 6) (.l 1))) (.le (.add (.a 6) (.l 1)) (.l 9223372036854775807)))
     (.jump 3 [(.a 6), (.a 1), (.a 2), (.a 3), (.a 4), (.a 5), (.add (.a 6) (.l 1))] [] [(.va 0), (.va 1), (.va 2)]))))))
     (.need (.and (.le (.l (-9223372036854775808)) (.add (.a 6) (.l 1))) (.le (.add (.a 6) (.l 1)) (.l 9223372036854775807)))
     (.jump 3 [(.a 0), (.a 1), (.a 2), (.a 3), (.a 4), (.a 5), (.add (.a 6) (.l 1))] [] [(.va 0), (.va 1), (.va 2)])))))))))
def revealed_lowered_t3_b3 : PT :=
 (.load false (.ea 1 (.a 1) 1 0) [(.int .i64)]
   (.both revealed_lowered_t3_b1 revealed_lowered_t3_b2))
def revealed_lowered_t3_b4 : PT :=
 (.load false (.ea 1 (.a 1) 1 0) [(.int .i64)]
     (.load false (.ea 0 (.a 6) 12 0) [(.int .i64), (.int .i64), (.int .i64), (.int .i64), (.int .i64), (.int .i64), (.int .i64), (.int .i64), (.int .i64), (.int .i64), (.int .i64), (.int .i64)]
     (.call 48 [(.agg [(.int .i64 (.a 7)), (.int .i64 (.a 8)), (.int .i64 (.a 9)), (.int .i64 (.a 10)), (.int .i64 (.a 11)), (.int .i64 (.a 12)), (.int .i64 (.a 13)), (.int .i64 (.a 14)), (.int .i64 (.a 15)), (.int .i64 (.a 16)), (.int .i64 (.a 17)), (.int .i64 (.a 18))]), (.agg [(.int .i64 (.a 20)), (.int .i64 (.a 21)), (.int .i64 (.a 22)), (.int .i64 (.a 23)), (.int .i64 (.a 24)), (.int .i64 (.a 25)), (.int .i64 (.a 26)), (.int .i64 (.a 27)), (.int .i64 (.a 28)), (.int .i64 (.a 29)), (.int .i64 (.a 30)), (.int .i64 (.a 31))])] [] [(.one (.int .i64))]
     (.need (.and (.le (.l (-9223372036854775808)) (.add (.a 19) (.a 32))) (.le (.add (.a 19) (.a 32)) (.l 9223372036854775807)))
     (.need (.and (.le (.l 0) (.a 6)) (.lt (.a 6) (.slen 1)))
     (.load false (.ea 1 (.a 6) 1 0) [(.int .i64)]
     (.ite (.lt (.add (.a 19) (.a 32)) (.a 33))
      (.need (.and (.le (.l 0) (.a 6)) (.lt (.a 6) (.slen 1)))
      (.storeM (.ea 1 (.a 6) 1 0) [(.int .i64 (.add (.a 19) (.a 32)))]
      (.need (.and (.le (.l 0) (.a 6)) (.lt (.a 6) (.slen 2)))
      (.storeM (.ea 2 (.a 6) 1 0) [(.int .i64 (.a 1))]
      (.need (.and (.le (.l (-9223372036854775808)) (.add (.a 6) (.l 1))) (.le (.add (.a 6) (.l 1)) (.l 9223372036854775807)))
      (.jump 3 [(.a 6), (.a 1), (.a 2), (.a 3), (.a 4), (.a 5), (.add (.a 6) (.l 1))] [] [(.va 0), (.va 1), (.va 2)]))))))
      (.need (.and (.le (.l (-9223372036854775808)) (.add (.a 6) (.l 1))) (.le (.add (.a 6) (.l 1)) (.l 9223372036854775807)))
      (.jump 3 [(.a 0), (.a 1), (.a 2), (.a 3), (.a 4), (.a 5), (.add (.a 6) (.l 1))] [] [(.va 0), (.va 1), (.va 2)])))))))))
def revealed_lowered_t3_b5 : PT :=
 (.load false (.ea 1 (.a 1) 1 0) [(.int .i64)]
      (.call 48 [(.agg [(.int .i64 (.a 7)), (.int .i64 (.a 8)), (.int .i64 (.a 9)), (.int .i64 (.a 10)), (.int .i64 (.a 11)), (.int .i64 (.a 12)), (.int .i64 (.a 13)), (.int .i64 (.a 14)), (.int .i64 (.a 15)), (.int .i64 (.a 16)), (.int .i64 (.a 17)), (.int .i64 (.a 18))]), (.agg [(.int .i64 (.a 19)), (.int .i64 (.a 20)), (.int .i64 (.a 21)), (.int .i64 (.a 22)), (.int .i64 (.a 23)), (.int .i64 (.a 24)), (.int .i64 (.a 25)), (.int .i64 (.a 26)), (.int .i64 (.a 27)), (.int .i64 (.a 28)), (.int .i64 (.a 29)), (.int .i64 (.a 30))])] [] [(.one (.int .i64))]
      (.need (.and (.le (.l (-9223372036854775808)) (.add (.a 31) (.a 32))) (.le (.add (.a 31) (.a 32)) (.l 9223372036854775807)))
      (.need (.and (.le (.l 0) (.a 6)) (.lt (.a 6) (.slen 1)))
      (.load false (.ea 1 (.a 6) 1 0) [(.int .i64)]
      (.ite (.lt (.add (.a 31) (.a 32)) (.a 33))
       (.need (.and (.le (.l 0) (.a 6)) (.lt (.a 6) (.slen 1)))
       (.storeM (.ea 1 (.a 6) 1 0) [(.int .i64 (.add (.a 31) (.a 32)))]
       (.need (.and (.le (.l 0) (.a 6)) (.lt (.a 6) (.slen 2)))
       (.storeM (.ea 2 (.a 6) 1 0) [(.int .i64 (.a 1))]
       (.need (.and (.le (.l (-9223372036854775808)) (.add (.a 6) (.l 1))) (.le (.add (.a 6) (.l 1)) (.l 9223372036854775807)))
       (.jump 3 [(.a 6), (.a 1), (.a 2), (.a 3), (.a 4), (.a 5), (.add (.a 6) (.l 1))] [] [(.va 0), (.va 1), (.va 2)]))))))
       (.need (.and (.le (.l (-9223372036854775808)) (.add (.a 6) (.l 1))) (.le (.add (.a 6) (.l 1)) (.l 9223372036854775807)))
       (.jump 3 [(.a 0), (.a 1), (.a 2), (.a 3), (.a 4), (.a 5), (.add (.a 6) (.l 1))] [] [(.va 0), (.va 1), (.va 2)]))))))))
def revealed_lowered_t3_b6 : PT :=
 (.call 48 [(.agg [(.int .i64 (.a 7)), (.int .i64 (.a 8)), (.int .i64 (.a 9)), (.int .i64 (.a 10)), (.int .i64 (.a 11)), (.int .i64 (.a 12)), (.int .i64 (.a 13)), (.int .i64 (.a 14)), (.int .i64 (.a 15)), (.int .i64 (.a 16)), (.int .i64 (.a 17)), (.int .i64 (.a 18))]), (.agg [(.int .i64 (.a 19)), (.int .i64 (.a 20)), (.int .i64 (.a 21)), (.int .i64 (.a 22)), (.int .i64 (.a 23)), (.int .i64 (.a 24)), (.int .i64 (.a 25)), (.int .i64 (.a 26)), (.int .i64 (.a 27)), (.int .i64 (.a 28)), (.int .i64 (.a 29)), (.int .i64 (.a 30))])] [] [(.one (.int .i64))]
      (.load false (.ea 1 (.a 1) 1 0) [(.int .i64)]
      (.need (.and (.le (.l (-9223372036854775808)) (.add (.a 32) (.a 31))) (.le (.add (.a 32) (.a 31)) (.l 9223372036854775807)))
      (.need (.and (.le (.l 0) (.a 6)) (.lt (.a 6) (.slen 1)))
      (.load false (.ea 1 (.a 6) 1 0) [(.int .i64)]
      (.ite (.lt (.add (.a 32) (.a 31)) (.a 33))
       (.need (.and (.le (.l 0) (.a 6)) (.lt (.a 6) (.slen 1)))
       (.storeM (.ea 1 (.a 6) 1 0) [(.int .i64 (.add (.a 32) (.a 31)))]
       (.need (.and (.le (.l 0) (.a 6)) (.lt (.a 6) (.slen 2)))
       (.storeM (.ea 2 (.a 6) 1 0) [(.int .i64 (.a 1))]
       (.need (.and (.le (.l (-9223372036854775808)) (.add (.a 6) (.l 1))) (.le (.add (.a 6) (.l 1)) (.l 9223372036854775807)))
       (.jump 3 [(.a 6), (.a 1), (.a 2), (.a 3), (.a 4), (.a 5), (.add (.a 6) (.l 1))] [] [(.va 0), (.va 1), (.va 2)]))))))
       (.need (.and (.le (.l (-9223372036854775808)) (.add (.a 6) (.l 1))) (.le (.add (.a 6) (.l 1)) (.l 9223372036854775807)))
       (.jump 3 [(.a 0), (.a 1), (.a 2), (.a 3), (.a 4), (.a 5), (.add (.a 6) (.l 1))] [] [(.va 0), (.va 1), (.va 2)]))))))))
def revealed_lowered_t3_b7 : PT :=
 (.load false (.ea 0 (.a 6) 12 0) [(.int .i64), (.int .i64), (.int .i64), (.int .i64), (.int .i64), (.int .i64), (.int .i64), (.int .i64), (.int .i64), (.int .i64), (.int .i64), (.int .i64)]
     (.both revealed_lowered_t3_b5 revealed_lowered_t3_b6))
def revealed_lowered_t3_b8 : PT :=
 (.load false (.ea 0 (.a 1) 12 0) [(.int .i64), (.int .i64), (.int .i64), (.int .i64), (.int .i64), (.int .i64), (.int .i64), (.int .i64), (.int .i64), (.int .i64), (.int .i64), (.int .i64)]
    (.both revealed_lowered_t3_b4 revealed_lowered_t3_b7))
def revealed_lowered_t3_b9 : PT :=
 (.load false (.ea 1 (.a 1) 1 0) [(.int .i64)]
     (.load false (.ea 0 (.a 1) 12 0) [(.int .i64), (.int .i64), (.int .i64), (.int .i64), (.int .i64), (.int .i64), (.int .i64), (.int .i64), (.int .i64), (.int .i64), (.int .i64), (.int .i64)]
     (.call 48 [(.agg [(.int .i64 (.a 20)), (.int .i64 (.a 21)), (.int .i64 (.a 22)), (.int .i64 (.a 23)), (.int .i64 (.a 24)), (.int .i64 (.a 25)), (.int .i64 (.a 26)), (.int .i64 (.a 27)), (.int .i64 (.a 28)), (.int .i64 (.a 29)), (.int .i64 (.a 30)), (.int .i64 (.a 31))]), (.agg [(.int .i64 (.a 7)), (.int .i64 (.a 8)), (.int .i64 (.a 9)), (.int .i64 (.a 10)), (.int .i64 (.a 11)), (.int .i64 (.a 12)), (.int .i64 (.a 13)), (.int .i64 (.a 14)), (.int .i64 (.a 15)), (.int .i64 (.a 16)), (.int .i64 (.a 17)), (.int .i64 (.a 18))])] [] [(.one (.int .i64))]
     (.need (.and (.le (.l (-9223372036854775808)) (.add (.a 19) (.a 32))) (.le (.add (.a 19) (.a 32)) (.l 9223372036854775807)))
     (.need (.and (.le (.l 0) (.a 6)) (.lt (.a 6) (.slen 1)))
     (.load false (.ea 1 (.a 6) 1 0) [(.int .i64)]
     (.ite (.lt (.add (.a 19) (.a 32)) (.a 33))
      (.need (.and (.le (.l 0) (.a 6)) (.lt (.a 6) (.slen 1)))
      (.storeM (.ea 1 (.a 6) 1 0) [(.int .i64 (.add (.a 19) (.a 32)))]
      (.need (.and (.le (.l 0) (.a 6)) (.lt (.a 6) (.slen 2)))
      (.storeM (.ea 2 (.a 6) 1 0) [(.int .i64 (.a 1))]
      (.need (.and (.le (.l (-9223372036854775808)) (.add (.a 6) (.l 1))) (.le (.add (.a 6) (.l 1)) (.l 9223372036854775807)))
      (.jump 3 [(.a 6), (.a 1), (.a 2), (.a 3), (.a 4), (.a 5), (.add (.a 6) (.l 1))] [] [(.va 0), (.va 1), (.va 2)]))))))
      (.need (.and (.le (.l (-9223372036854775808)) (.add (.a 6) (.l 1))) (.le (.add (.a 6) (.l 1)) (.l 9223372036854775807)))
      (.jump 3 [(.a 0), (.a 1), (.a 2), (.a 3), (.a 4), (.a 5), (.add (.a 6) (.l 1))] [] [(.va 0), (.va 1), (.va 2)])))))))))
def revealed_lowered_t3_b10 : PT :=
 (.load false (.ea 1 (.a 1) 1 0) [(.int .i64)]
      (.call 48 [(.agg [(.int .i64 (.a 19)), (.int .i64 (.a 20)), (.int .i64 (.a 21)), (.int .i64 (.a 22)), (.int .i64 (.a 23)), (.int .i64 (.a 24)), (.int .i64 (.a 25)), (.int .i64 (.a 26)), (.int .i64 (.a 27)), (.int .i64 (.a 28)), (.int .i64 (.a 29)), (.int .i64 (.a 30))]), (.agg [(.int .i64 (.a 7)), (.int .i64 (.a 8)), (.int .i64 (.a 9)), (.int .i64 (.a 10)), (.int .i64 (.a 11)), (.int .i64 (.a 12)), (.int .i64 (.a 13)), (.int .i64 (.a 14)), (.int .i64 (.a 15)), (.int .i64 (.a 16)), (.int .i64 (.a 17)), (.int .i64 (.a 18))])] [] [(.one (.int .i64))]
      (.need (.and (.le (.l (-9223372036854775808)) (.add (.a 31) (.a 32))) (.le (.add (.a 31) (.a 32)) (.l 9223372036854775807)))
      (.need (.and (.le (.l 0) (.a 6)) (.lt (.a 6) (.slen 1)))
      (.load false (.ea 1 (.a 6) 1 0) [(.int .i64)]
      (.ite (.lt (.add (.a 31) (.a 32)) (.a 33))
       (.need (.and (.le (.l 0) (.a 6)) (.lt (.a 6) (.slen 1)))
       (.storeM (.ea 1 (.a 6) 1 0) [(.int .i64 (.add (.a 31) (.a 32)))]
       (.need (.and (.le (.l 0) (.a 6)) (.lt (.a 6) (.slen 2)))
       (.storeM (.ea 2 (.a 6) 1 0) [(.int .i64 (.a 1))]
       (.need (.and (.le (.l (-9223372036854775808)) (.add (.a 6) (.l 1))) (.le (.add (.a 6) (.l 1)) (.l 9223372036854775807)))
       (.jump 3 [(.a 6), (.a 1), (.a 2), (.a 3), (.a 4), (.a 5), (.add (.a 6) (.l 1))] [] [(.va 0), (.va 1), (.va 2)]))))))
       (.need (.and (.le (.l (-9223372036854775808)) (.add (.a 6) (.l 1))) (.le (.add (.a 6) (.l 1)) (.l 9223372036854775807)))
       (.jump 3 [(.a 0), (.a 1), (.a 2), (.a 3), (.a 4), (.a 5), (.add (.a 6) (.l 1))] [] [(.va 0), (.va 1), (.va 2)]))))))))
def revealed_lowered_t3_b11 : PT :=
 (.call 48 [(.agg [(.int .i64 (.a 19)), (.int .i64 (.a 20)), (.int .i64 (.a 21)), (.int .i64 (.a 22)), (.int .i64 (.a 23)), (.int .i64 (.a 24)), (.int .i64 (.a 25)), (.int .i64 (.a 26)), (.int .i64 (.a 27)), (.int .i64 (.a 28)), (.int .i64 (.a 29)), (.int .i64 (.a 30))]), (.agg [(.int .i64 (.a 7)), (.int .i64 (.a 8)), (.int .i64 (.a 9)), (.int .i64 (.a 10)), (.int .i64 (.a 11)), (.int .i64 (.a 12)), (.int .i64 (.a 13)), (.int .i64 (.a 14)), (.int .i64 (.a 15)), (.int .i64 (.a 16)), (.int .i64 (.a 17)), (.int .i64 (.a 18))])] [] [(.one (.int .i64))]
      (.load false (.ea 1 (.a 1) 1 0) [(.int .i64)]
      (.need (.and (.le (.l (-9223372036854775808)) (.add (.a 32) (.a 31))) (.le (.add (.a 32) (.a 31)) (.l 9223372036854775807)))
      (.need (.and (.le (.l 0) (.a 6)) (.lt (.a 6) (.slen 1)))
      (.load false (.ea 1 (.a 6) 1 0) [(.int .i64)]
      (.ite (.lt (.add (.a 32) (.a 31)) (.a 33))
       (.need (.and (.le (.l 0) (.a 6)) (.lt (.a 6) (.slen 1)))
       (.storeM (.ea 1 (.a 6) 1 0) [(.int .i64 (.add (.a 32) (.a 31)))]
       (.need (.and (.le (.l 0) (.a 6)) (.lt (.a 6) (.slen 2)))
       (.storeM (.ea 2 (.a 6) 1 0) [(.int .i64 (.a 1))]
       (.need (.and (.le (.l (-9223372036854775808)) (.add (.a 6) (.l 1))) (.le (.add (.a 6) (.l 1)) (.l 9223372036854775807)))
       (.jump 3 [(.a 6), (.a 1), (.a 2), (.a 3), (.a 4), (.a 5), (.add (.a 6) (.l 1))] [] [(.va 0), (.va 1), (.va 2)]))))))
       (.need (.and (.le (.l (-9223372036854775808)) (.add (.a 6) (.l 1))) (.le (.add (.a 6) (.l 1)) (.l 9223372036854775807)))
       (.jump 3 [(.a 0), (.a 1), (.a 2), (.a 3), (.a 4), (.a 5), (.add (.a 6) (.l 1))] [] [(.va 0), (.va 1), (.va 2)]))))))))
def revealed_lowered_t3_b12 : PT :=
 (.load false (.ea 0 (.a 1) 12 0) [(.int .i64), (.int .i64), (.int .i64), (.int .i64), (.int .i64), (.int .i64), (.int .i64), (.int .i64), (.int .i64), (.int .i64), (.int .i64), (.int .i64)]
     (.both revealed_lowered_t3_b10 revealed_lowered_t3_b11))
def revealed_lowered_t3_b13 : PT :=
 (.load false (.ea 0 (.a 6) 12 0) [(.int .i64), (.int .i64), (.int .i64), (.int .i64), (.int .i64), (.int .i64), (.int .i64), (.int .i64), (.int .i64), (.int .i64), (.int .i64), (.int .i64)]
    (.both revealed_lowered_t3_b9 revealed_lowered_t3_b12))
def revealed_lowered_t3_b14 : PT :=
 (.both revealed_lowered_t3_b8 revealed_lowered_t3_b13)
def revealed_lowered_t3 : PT :=
 (.ite (.lt (.a 6) (.a 5))
  (.need (.and (.le (.l 0) (.a 1)) (.lt (.a 1) (.slen 1)))
  (.need (.and (.le (.l 0) (.a 1)) (.lt (.a 1) (.slen 0)))
  (.need (.and (.le (.l 0) (.a 6)) (.lt (.a 6) (.slen 0)))
  (.both revealed_lowered_t3_b3 revealed_lowered_t3_b14))))
  (.need (.and (.le (.l (-9223372036854775808)) (.add (.a 1) (.l 1))) (.le (.add (.a 1) (.l 1)) (.l 9223372036854775807)))
  (.jump 2 [(.a 0), (.a 2), (.a 3), (.a 4), (.add (.a 1) (.l 1))] [] [(.va 0), (.va 1), (.va 2)])))
def revealed_lowered_S : Sx.Sys := ⟨[(.sh (.one .val))], revealed_lowered_s, [revealed_lowered_t0, revealed_lowered_t1, revealed_lowered_t2, revealed_lowered_t3], none⟩
def revealed_lowered_pats : List Cfg := [{ todo := [(.code [false, false, true, false, true, true, false, true]), (.inLoop [false, false, true, false, true, true, false, true]), (.inBlock 0), (.code [true, true, true, false, true]), (.inScope [false, true])], sl := [(.va 0), .undef, (.junk 0), (.junk 1), (.va 1), (.va 2), (.junk 2), .undef, .undef, .undef, .undef, (.junk 3), (.junk 4), (.junk 5), (.junk 6), (.junk 7), (.junk 8), (.junk 9), (.int .i64 (.a 0)), (.int .i64 (.a 1)), (.junk 10), (.junk 11), (.junk 12), (.junk 13), (.junk 14), (.junk 15), .undef, .undef, .undef, .undef, .undef, .undef, .undef, .undef, .undef, .undef, .undef, .undef, .undef, .undef, .undef, .undef, .undef, .undef, .undef, .undef, .undef, .undef, .undef, .undef, .undef, .undef, .undef, .undef, .undef, .undef, .undef, .undef, .undef, .undef, .undef, .undef, .undef, .undef, .undef, .undef, .undef, .undef, .undef, .undef, .undef, .undef, .undef, .undef, .undef, .undef, .undef, .undef, .undef, .undef], H := [], ni := 2, nb := 0, nv := 3, nj := 16 },
 { todo := [(.code [false, false, true, false, true, true, true, true, true, false, true]), (.inLoop [false, false, true, false, true, true, true, true, true, false, true]), (.inBlock 2), (.code [true, true, true, true, true, true, false, true]), (.inScope [false, true])], sl := [(.va 0), .undef, (.junk 0), (.junk 1), (.va 1), (.va 2), (.junk 2), (.int .i64 (.a 0)), (.junk 3), (.junk 4), (.junk 5), (.junk 6), (.junk 7), (.junk 8), (.junk 9), (.junk 10), (.junk 11), (.junk 12), (.junk 13), (.junk 14), (.junk 15), (.junk 16), (.junk 17), (.junk 18), (.junk 19), (.junk 20), (.junk 21), (.int .i64 (.a 1)), (.int .i64 (.a 2)), (.junk 22), (.junk 23), (.junk 24), (.junk 25), (.junk 26), (.junk 27), (.junk 28), (.junk 29), (.junk 30), (.junk 31), (.junk 32), (.junk 33), (.junk 34), (.junk 35), (.junk 36), (.junk 37), (.junk 38), (.junk 39), (.junk 40), (.junk 41), (.junk 42), (.junk 43), (.junk 44), (.junk 45), (.junk 46), (.junk 47), (.junk 48), (.junk 49), (.junk 50), (.junk 51), (.junk 52), (.junk 53), (.junk 54), (.junk 55), (.junk 56), (.junk 57), (.junk 58), (.junk 59), (.junk 60), (.junk 61), (.junk 62), (.junk 63), (.junk 64), (.junk 65), (.junk 66), .undef, .undef, .undef, .undef, .undef, .undef], H := [], ni := 3, nb := 0, nv := 3, nj := 67 },
 { todo := [(.code [false, false, true, false, true, false, false, true, true, false, false, true, false, true, true, true, true, true, false, true]), (.inLoop [false, false, true, false, true, false, false, true, true, false, false, true, false, true, true, true, true, true, false, true]), (.inBlock 4), (.code [true, true, false, false, true, true, false, false, true, false, true, true, true, true, true, false, true]), (.inBlock 3), (.code [true, true, true, false, false, true, false, true, true, true, true, true, false, true]), (.inLoop [false, false, true, false, true, true, true, true, true, false, true]), (.inBlock 2), (.code [true, true, true, true, true, true, false, true]), (.inScope [false, true])], sl := [(.va 0), .undef, (.junk 0), (.junk 1), (.va 1), (.va 2), (.junk 2), (.int .i64 (.a 0)), (.junk 3), (.junk 4), (.junk 5), (.junk 6), (.junk 7), (.junk 8), (.junk 9), (.junk 10), (.junk 11), (.junk 12), (.junk 13), (.junk 14), (.junk 15), (.junk 16), (.junk 17), (.junk 18), (.junk 19), (.junk 20), (.junk 21), (.int .i64 (.a 1)), (.int .i64 (.a 2)), (.junk 22), (.junk 23), (.int .i64 (.a 3)), (.int .i64 (.a 4)), (.junk 24), (.junk 25), (.junk 26), (.junk 27), (.junk 28), (.junk 29), (.junk 30), (.junk 31), (.junk 32), (.junk 33), (.junk 34), (.junk 35), (.junk 36), (.junk 37), (.junk 38), (.junk 39), (.junk 40), (.junk 41), (.junk 42), (.junk 43), (.junk 44), (.junk 45), (.junk 46), (.junk 47), (.junk 48), (.junk 49), (.junk 50), (.junk 51), (.junk 52), (.junk 53), (.junk 54), (.junk 55), (.junk 56), (.junk 57), (.junk 58), (.junk 59), (.junk 60), (.junk 61), (.junk 62), (.junk 63), (.junk 64), .undef, .undef, .undef, .undef, .undef, .undef], H := [], ni := 5, nb := 0, nv := 3, nj := 65 },
 { todo := [(.code [false, false, true, true, false, false, true, true, false, false, true, false, true, false, false, true, true, false, false, true, false, true, true, true, true, true, false, true]), (.inLoop [false, false, true, true, false, false, true, true, false, false, true, false, true, false, false, true, true, false, false, true, false, true, true, true, true, true, false, true]), (.inBlock 6), (.inBlock 5), (.code [true, true, true, false, false, true, false, true, false, false, true, true, false, false, true, false, true, true, true, true, true, false, true]), (.inLoop [false, false, true, false, true, false, false, true, true, false, false, true, false, true, true, true, true, true, false, true]), (.inBlock 4), (.code [true, true, false, false, true, true, false, false, true, false, true, true, true, true, true, false, true]), (.inBlock 3), (.code [true, true, true, false, false, true, false, true, true, true, true, true, false, true]), (.inLoop [false, false, true, false, true, true, true, true, true, false, true]), (.inBlock 2), (.code [true, true, true, true, true, true, false, true]), (.inScope [false, true])], sl := [(.va 0), .undef, (.junk 0), (.junk 1), (.va 1), (.va 2), (.junk 2), (.int .i64 (.a 0)), (.int .i64 (.a 1)), (.junk 3), (.junk 4), (.junk 5), (.junk 6), (.junk 7), (.junk 8), (.junk 9), (.junk 10), (.junk 11), (.junk 12), (.junk 13), (.junk 14), (.junk 15), (.junk 16), (.junk 17), (.junk 18), (.junk 19), (.junk 20), (.int .i64 (.a 2)), (.int .i64 (.a 3)), (.junk 21), (.junk 22), (.int .i64 (.a 4)), (.int .i64 (.a 1)), (.junk 23), (.junk 24), (.junk 25), (.int .i64 (.a 5)), (.int .i64 (.a 6)), (.junk 26), (.junk 27), (.junk 28), (.junk 29), (.junk 30), (.junk 31), (.junk 32), (.junk 33), (.junk 34), (.junk 35), (.junk 36), (.junk 37), (.junk 38), (.junk 39), (.junk 40), (.junk 41), (.junk 42), (.junk 43), (.junk 44), (.junk 45), (.junk 46), (.junk 47), (.junk 48), (.junk 49), (.junk 50), (.junk 51), (.junk 52), (.junk 53), (.junk 54), (.junk 55), (.junk 56), (.junk 57), (.junk 58), (.junk 59), (.junk 60), (.junk 61), .undef, .undef, .undef, .undef, .undef, .undef], H := [], ni := 7, nb := 0, nv := 3, nj := 62 }]
theorem revealed_lowered_ok : SysOk Try.prog 40 revealed_lowered_S := sys_ok (c := (cg [[false, false, true, false, true, true, false, true], [false, false, true, false, true, true, true, true, true, false, true], [false, false, true, false, true, false, false, true, true, false, false, true, false, true, true, true, true, true, false, true], [false, false, true, true, false, false, true, true, false, false, true, false, true, false, false, true, true, false, false, true, false, true, true, true, true, true, false, true]] [] [] true true false true)) (progOkG _ _ _ _ _ _ _ _ _) Try.func40 Try.call40 (by kernel_rfl) revealed_lowered_pats revealed_lowered_S 5000 rfl (by kernel_rfl) (by kernel_rfl) rfl
def revealed_gain_s : PT :=
 (.call 41 [(.agg [(.int .i64 (.a 0)), (.int .i64 (.a 1)), (.int .i64 (.a 2)), (.int .i64 (.a 3)), (.int .i64 (.a 4)), (.int .i64 (.a 5))]), (.agg [(.int .i64 (.a 18)), (.int .i64 (.a 19)), (.int .i64 (.a 20)), (.int .i64 (.a 21)), (.int .i64 (.a 22)), (.int .i64 (.a 23))])] [] [(.one (.int .i64))]
 (.call 41 [(.agg [(.int .i64 (.a 0)), (.int .i64 (.a 1)), (.int .i64 (.a 2)), (.int .i64 (.a 3)), (.int .i64 (.a 4)), (.int .i64 (.a 5))]), (.agg [(.int .i64 (.a 6)), (.int .i64 (.a 7)), (.int .i64 (.a 8)), (.int .i64 (.a 9)), (.int .i64 (.a 10)), (.int .i64 (.a 11))])] [] [(.one (.int .i64))]
 (.need (.and (.le (.l (-9223372036854775808)) (.sub (.a 24) (.a 25))) (.le (.sub (.a 24) (.a 25)) (.l 9223372036854775807)))
 (.ret false (.int .i64 (.sub (.a 24) (.a 25))) []))))
def revealed_gain_S : Sx.Sys := ⟨[(.sh (.agg [(.int .i64), (.int .i64), (.int .i64), (.int .i64), (.int .i64), (.int .i64), (.int .i64), (.int .i64), (.int .i64), (.int .i64), (.int .i64), (.int .i64)])), (.sh (.agg [(.int .i64), (.int .i64), (.int .i64), (.int .i64), (.int .i64), (.int .i64), (.int .i64), (.int .i64), (.int .i64), (.int .i64), (.int .i64), (.int .i64)]))], revealed_gain_s, [], none⟩
def revealed_gain_pats : List Cfg := []
theorem revealed_gain_ok : SysOk Try.prog 48 revealed_gain_S := sys_ok (c := (cg [] [] [] false false false true)) (progOkG _ _ _ _ _ _ _ _ _) Try.func48 Try.call48 (by kernel_rfl) revealed_gain_pats revealed_gain_S 5000 rfl (by kernel_rfl) (by kernel_rfl) rfl
def saleroomref07_Prices_s : PT :=
 (.ite (.lt (.a 0) (.l 0))
  (.ret false (.bool (.t false)) [])
  (.ite (.lt (.l 1000000) (.a 0))
   (.ret false (.bool (.t false)) [])
   (.ite (.lt (.a 1) (.l 0))
    (.ret false (.bool (.t false)) [])
    (.ite (.lt (.l 1000000) (.a 1))
     (.ret false (.bool (.t false)) [])
     (.ite (.lt (.a 2) (.l 0))
      (.ret false (.bool (.t false)) [])
      (.ite (.lt (.l 1000000) (.a 2))
       (.ret false (.bool (.t false)) [])
       (.ite (.lt (.a 3) (.l 0))
        (.ret false (.bool (.t false)) [])
        (.ite (.lt (.l 1000000) (.a 3))
         (.ret false (.bool (.t false)) [])
         (.ite (.lt (.a 4) (.l 0))
          (.ret false (.bool (.t false)) [])
          (.ite (.lt (.l 1000000) (.a 4))
           (.ret false (.bool (.t false)) [])
           (.ite (.lt (.a 5) (.l 0))
            (.ret false (.bool (.t false)) [])
            (.ite (.lt (.l 1000000) (.a 5))
             (.ret false (.bool (.t false)) [])
             (.ret false (.bool (.t true)) [])))))))))))))
def saleroomref07_Prices_S : Sx.Sys := ⟨[(.sh (.agg [(.int .i64), (.int .i64), (.int .i64), (.int .i64), (.int .i64), (.int .i64)]))], saleroomref07_Prices_s, [], none⟩
def saleroomref07_Prices_pats : List Cfg := []
theorem saleroomref07_Prices_ok : SysOk Try.prog 65 saleroomref07_Prices_S := sys_ok (c := (cg [] [] [] false false false true)) (progOkG _ _ _ _ _ _ _ _ _) Try.func65 Try.call65 (by kernel_rfl) saleroomref07_Prices_pats saleroomref07_Prices_S 5000 rfl (by kernel_rfl) (by kernel_rfl) rfl
end Go.Proofs.Ythjahianafohjaa
