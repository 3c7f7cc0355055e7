/- The trees of this seat's functions, part 4. Written by txgen.py. -/
import Derived.Test.YthjahianafohjaaHTab
set_option linter.unusedSimpArgs false
set_option linter.unusedVariables false
set_option maxRecDepth 100000
namespace Go.Proofs.Ythjahianafohjaa
open Go.Sx
def saleroomlaw37_ActivityExact_s : PT :=
 (.call 22 [(.agg [(.va 0), (.va 1), (.va 2), (.va 3)])] [] [(.one .bool)]
 (.ite (.not (.a 0))
  (.call 24 [] [] [(.one .bool)]
  (.ret false (.bool (.a 1)) []))
  (.need (.is 0 4)
  (.ite (.lt (.l 29) (.slen 4))
   (.call 24 [] [] [(.one .bool)]
   (.ret false (.bool (.a 1)) []))
   (.call 23 [(.va 4)] [] [(.one .bool)]
   (.ite (.not (.a 1))
    (.call 24 [] [] [(.one .bool)]
    (.ret false (.bool (.a 2)) []))
    (.app none (.lit [[(.int .i64 (.a 2)), (.int .i64 (.a 3)), (.int .i64 (.a 4)), (.int .i64 (.a 5)), (.int .i64 (.a 6)), (.int .i64 (.a 7)), (.int .i64 (.l 0)), (.int .i64 (.l 0)), (.int .i64 (.l 0)), (.int .i64 (.l 0)), (.int .i64 (.l 0)), (.int .i64 (.l 0))]]) 12
    (.call 23 [(.va 5)] [] [(.one .bool)]
    (.ite (.not (.a 2))
     (.call 24 [] [] [(.one .bool)]
     (.ret false (.bool (.a 3)) []))
     (.call 25 [(.agg [(.va 0), (.va 1), (.va 2), (.va 3)]), (.int .i64 (.a 0)), (.int .i64 (.a 1)), (.va 4), (.agg [(.int .i64 (.a 2)), (.int .i64 (.a 3)), (.int .i64 (.a 4)), (.int .i64 (.a 5)), (.int .i64 (.a 6)), (.int .i64 (.a 7)), (.int .i64 (.a 8)), (.int .i64 (.a 9)), (.int .i64 (.a 10)), (.int .i64 (.a 11)), (.int .i64 (.a 12)), (.int .i64 (.a 13))])] [] [(.one (.int .i64))]
     (.call 26 [(.agg [(.va 0), (.va 1), (.va 2), (.va 3)]), (.int .i64 (.a 0)), (.int .i64 (.a 1)), (.va 4), (.agg [(.int .i64 (.a 2)), (.int .i64 (.a 3)), (.int .i64 (.a 4)), (.int .i64 (.a 5)), (.int .i64 (.a 6)), (.int .i64 (.a 7)), (.int .i64 (.a 8)), (.int .i64 (.a 9)), (.int .i64 (.a 10)), (.int .i64 (.a 11)), (.int .i64 (.a 12)), (.int .i64 (.a 13))])] [] [(.one (.int .i64))]
     (.ite (.eq (.a 14) (.a 15))
      (.call 24 [] [] [(.one .bool)]
      (.ret false (.bool (.a 3)) []))
      (.ret false (.bool (.t false)) [])))))))))))))
def saleroomlaw37_ActivityExact_S : Sx.Sys := ⟨[(.sh (.agg [.val, .val, .val, .val])), (.sh (.one (.int .i64))), (.sh (.one (.int .i64))), (.sh (.one .val)), (.sh (.agg [(.int .i64), (.int .i64), (.int .i64), (.int .i64), (.int .i64), (.int .i64), (.int .i64), (.int .i64), (.int .i64), (.int .i64), (.int .i64), (.int .i64)]))], saleroomlaw37_ActivityExact_s, []⟩
def saleroomlaw37_ActivityExact_pats : List Cfg := []
theorem saleroomlaw37_ActivityExact_ok : SysOk Try.prog 8 saleroomlaw37_ActivityExact_S := sys_ok (c := (cg [] [] [] false false false true)) (progOkG _ _ _ _ _ _ _) Try.func8 Try.call8 (by kernel_rfl) saleroomlaw37_ActivityExact_pats saleroomlaw37_ActivityExact_S 5000 rfl (by kernel_rfl) (by kernel_rfl)
def saleroomref36_Verify_s : PT :=
 (.call 17 [(.va 0)] [] [(.one .bool)]
 (.ite (.not (.a 0))
  (.ret false (.int .i64 (.l 4)) [])
  (.need (.is 0 1)
  (.ite (.lt (.l 0) (.slen 1))
   (.need (.is 0 2)
   (.ite (.lt (.l 0) (.slen 2))
    (.ret false (.int .i64 (.l 2)) [])
    (.need (.is 0 1)
    (.ite (.lt (.l 1000) (.slen 1))
     (.ret false (.int .i64 (.l 2)) [])
     (.jump 0 [(.l 0)] [] [(.va 0), (.va 1), (.va 2)])))))
   (.need (.is 0 1)
   (.ite (.lt (.l 1000) (.slen 1))
    (.ret false (.int .i64 (.l 2)) [])
    (.jump 0 [(.l 0)] [] [(.va 0), (.va 1), (.va 2)])))))))
def saleroomref36_Verify_t0 : PT :=
 (.need (.is 0 1)
 (.ite (.lt (.a 0) (.slen 1))
  (.need (.and (.le (.l 0) (.a 0)) (.lt (.a 0) (.slen 1)))
  (.load false (.ea 1 (.a 0) 1 0) [(.int .i64)]
  (.ite (.lt (.a 1) (.l 0))
   (.ret false (.int .i64 (.l 2)) [])
   (.need (.and (.le (.l 0) (.a 0)) (.lt (.a 0) (.slen 1)))
   (.load false (.ea 1 (.a 0) 1 0) [(.int .i64)]
   (.need (.is 0 0)
   (.ite (.le (.slen 0) (.a 2))
    (.ret false (.int .i64 (.l 2)) [])
    (.need (.and (.le (.l (-9223372036854775808)) (.add (.a 0) (.l 1))) (.le (.add (.a 0) (.l 1)) (.l 9223372036854775807)))
    (.jump 0 [(.add (.a 0) (.l 1))] [] [(.va 0), (.va 1), (.va 2)])))))))))
  (.jump 1 [(.l 0)] [] [(.va 0), (.va 1), (.va 2)])))
def saleroomref36_Verify_t1 : PT :=
 (.need (.is 0 2)
 (.ite (.lt (.a 0) (.slen 2))
  (.need (.and (.le (.l 0) (.a 0)) (.lt (.a 0) (.slen 2)))
  (.load false (.ea 2 (.a 0) 1 0) [(.int .i64)]
  (.ite (.lt (.a 1) (.l (-1099511627776)))
   (.ret false (.int .i64 (.l 2)) [])
   (.need (.and (.le (.l 0) (.a 0)) (.lt (.a 0) (.slen 2)))
   (.load false (.ea 2 (.a 0) 1 0) [(.int .i64)]
   (.ite (.lt (.l 1099511627776) (.a 2))
    (.ret false (.int .i64 (.l 2)) [])
    (.need (.and (.le (.l (-9223372036854775808)) (.add (.a 0) (.l 1))) (.le (.add (.a 0) (.l 1)) (.l 9223372036854775807)))
    (.jump 1 [(.add (.a 0) (.l 1))] [] [(.va 0), (.va 1), (.va 2)]))))))))
  (.need (.is 0 1)
  (.ite (.lt (.l 0) (.slen 1))
   (.jump 2 [(.l 0), (.l 0)] [] [(.va 0), (.va 1), (.va 2)])
   (.call 45 [(.va 0), (.va 2)] [] [(.one .bool)]
   (.ite (.not (.a 0))
    (.ret false (.int .i64 (.l 13)) [])
    (.ret false (.int .i64 (.l 0)) [])))))))
def saleroomref36_Verify_t2 : PT :=
 (.need (.is 0 1)
 (.ite (.lt (.a 1) (.slen 1))
  (.need (.and (.le (.l 0) (.a 1)) (.lt (.a 1) (.slen 1)))
  (.need (.and (.le (.l (-9223372036854775808)) (.add (.a 1) (.l 1))) (.le (.add (.a 1) (.l 1)) (.l 9223372036854775807)))
  (.need (.is 0 1)
  (.need (.not (.eq (.slen 1) (.l 0)))
  (.need (.and (.le (.l 0) (.tmod (.add (.a 1) (.l 1)) (.slen 1))) (.lt (.tmod (.add (.a 1) (.l 1)) (.slen 1)) (.slen 1)))
  (.load true (.ea 1 (.a 1) 1 0) [(.int .i64)]
  (.need (.and (.le (.l 0) (.a 2)) (.lt (.a 2) (.slen 0)))
  (.load true (.ea 0 (.a 2) 12 0) [(.int .i64), (.int .i64), (.int .i64), (.int .i64), (.int .i64), (.int .i64), (.int .i64), (.int .i64), (.int .i64), (.int .i64), (.int .i64), (.int .i64)]
  (.load true (.ea 1 (.tmod (.add (.a 1) (.l 1)) (.slen 1)) 1 0) [(.int .i64)]
  (.need (.and (.le (.l 0) (.a 15)) (.lt (.a 15) (.slen 0)))
  (.load true (.ea 0 (.a 15) 12 0) [(.int .i64), (.int .i64), (.int .i64), (.int .i64), (.int .i64), (.int .i64), (.int .i64), (.int .i64), (.int .i64), (.int .i64), (.int .i64), (.int .i64)]
  (.call 21 [(.agg [(.int .i64 (.a 3)), (.int .i64 (.a 4)), (.int .i64 (.a 5)), (.int .i64 (.a 6)), (.int .i64 (.a 7)), (.int .i64 (.a 8)), (.int .i64 (.a 9)), (.int .i64 (.a 10)), (.int .i64 (.a 11)), (.int .i64 (.a 12)), (.int .i64 (.a 13)), (.int .i64 (.a 14))]), (.agg [(.int .i64 (.a 16)), (.int .i64 (.a 17)), (.int .i64 (.a 18)), (.int .i64 (.a 19)), (.int .i64 (.a 20)), (.int .i64 (.a 21)), (.int .i64 (.a 22)), (.int .i64 (.a 23)), (.int .i64 (.a 24)), (.int .i64 (.a 25)), (.int .i64 (.a 26)), (.int .i64 (.a 27))])] [] [(.one (.int .i64))]
  (.need (.and (.le (.l (-9223372036854775808)) (.add (.a 0) (.a 28))) (.le (.add (.a 0) (.a 28)) (.l 9223372036854775807)))
  (.need (.and (.le (.l (-9223372036854775808)) (.add (.a 1) (.l 1))) (.le (.add (.a 1) (.l 1)) (.l 9223372036854775807)))
  (.jump 2 [(.add (.a 0) (.a 28)), (.add (.a 1) (.l 1))] [] [(.va 0), (.va 1), (.va 2)])))))))))))))))
  (.ite (.le (.l 0) (.a 0))
   (.ret false (.int .i64 (.l 13)) [])
   (.ret false (.int .i64 (.l 0)) []))))
def saleroomref36_Verify_S : Sx.Sys := ⟨[(.sh (.one .val)), (.sh (.agg [.val, .val]))], saleroomref36_Verify_s, [saleroomref36_Verify_t0, saleroomref36_Verify_t1, saleroomref36_Verify_t2]⟩
def saleroomref36_Verify_pats : List Cfg := [{ todo := [(.code [false, false, true, false, true, true, true]), (.inLoop [false, false, true, false, true, true, true]), (.inBlock 0), (.code [true, true, true, true])], sl := [(.va 0), (.junk 0), .undef, (.ptr 0 0), (.junk 1), (.int .i64 (.a 0)), .undef, .undef, .undef, (.junk 2), (.junk 3), (.junk 4), (.junk 5), (.junk 6), (.junk 7), (.junk 8), (.junk 9), (.junk 10), (.junk 11), (.junk 12), (.junk 13), (.junk 14), (.junk 15), (.junk 16), (.junk 17), (.junk 18), (.junk 19), (.junk 20), (.junk 21), (.junk 22), (.junk 23), (.junk 24), (.junk 25), (.junk 26), (.junk 27), (.junk 28), (.junk 29), (.junk 30), (.junk 31), (.junk 32), (.junk 33), (.junk 34), (.junk 35), (.junk 36), (.junk 37), (.junk 38), (.junk 39), (.junk 40), (.junk 41), (.junk 42), (.junk 43), .undef, .undef, .undef, .undef, .undef, .undef, .undef, .undef, .undef, .undef, .undef, .undef, .undef, .undef, .undef, .undef, .undef, .undef, .undef, .undef, .undef, .undef, .undef, .undef, .undef, .undef, .undef, .undef, .undef, .undef, .undef, .undef, .undef, .undef, .undef, .undef, .undef, .undef, .undef, .undef, .undef, .undef, .undef, .undef, .undef, .undef, .undef, .undef, .undef, .undef, .undef, .undef, .undef, .undef, .undef, .undef, .undef, .undef, .undef, .undef, .undef, .undef, .undef], H := [(.cells [(.va 1), (.va 2)] 30 false)], ni := 1, nb := 0, nv := 3, nj := 44 },
 { todo := [(.code [false, false, true, false, true, true, true, true]), (.inLoop [false, false, true, false, true, true, true, true]), (.inBlock 2), (.code [true, true, true, true, true])], sl := [(.va 0), (.junk 0), .undef, (.ptr 0 0), (.junk 1), (.junk 2), (.int .i64 (.a 0)), .undef, .undef, (.junk 3), (.junk 4), (.junk 5), (.junk 6), (.junk 7), (.junk 8), (.junk 9), (.junk 10), (.junk 11), (.junk 12), (.junk 13), (.junk 14), (.junk 15), (.junk 16), (.junk 17), (.junk 18), (.junk 19), (.junk 20), (.junk 21), (.junk 22), (.junk 23), (.junk 24), (.junk 25), (.junk 26), (.junk 27), (.junk 28), (.junk 29), (.junk 30), (.junk 31), (.junk 32), (.junk 33), (.junk 34), (.junk 35), (.junk 36), (.junk 37), (.junk 38), (.junk 39), (.junk 40), (.junk 41), (.junk 42), (.junk 43), (.junk 44), (.junk 45), (.junk 46), (.junk 47), (.junk 48), (.junk 49), (.junk 50), (.junk 51), (.junk 52), (.junk 53), (.junk 54), (.junk 55), (.junk 56), (.junk 57), (.junk 58), (.junk 59), (.junk 60), (.junk 61), (.junk 62), (.junk 63), (.junk 64), (.junk 65), .undef, .undef, .undef, .undef, .undef, .undef, .undef, .undef, .undef, .undef, .undef, .undef, .undef, .undef, .undef, .undef, .undef, .undef, .undef, .undef, .undef, .undef, .undef, .undef, .undef, .undef, .undef, .undef, .undef, .undef, .undef, .undef, .undef, .undef, .undef, .undef, .undef, .undef, .undef, .undef, .undef, .undef], H := [(.cells [(.va 1), (.va 2)] 30 false)], ni := 1, nb := 0, nv := 3, nj := 66 },
 { todo := [(.code [false, false, true, false, true, false, true, false, true, true, true, true, true]), (.inLoop [false, false, true, false, true, false, true, false, true, true, true, true, true]), (.inBlock 4), (.code [true, true, false, true, false, true, true, true, true, true]), (.code [true, true, true, true, true, true])], sl := [(.va 0), (.junk 0), .undef, (.ptr 0 0), (.junk 1), (.junk 2), (.junk 3), (.int .i64 (.a 0)), (.int .i64 (.a 1)), (.junk 4), (.junk 5), (.junk 6), (.junk 7), (.junk 8), (.junk 9), (.junk 10), (.junk 11), (.junk 12), (.junk 13), (.junk 14), (.junk 15), (.junk 16), (.junk 17), (.junk 18), (.junk 19), (.junk 20), (.junk 21), (.junk 22), (.junk 23), (.junk 24), (.junk 25), (.junk 26), (.junk 27), (.junk 28), (.junk 29), (.junk 30), (.junk 31), (.junk 32), (.junk 33), (.junk 34), (.junk 35), (.junk 36), (.junk 37), (.junk 38), (.junk 39), (.junk 40), (.junk 41), (.junk 42), (.junk 43), (.junk 44), (.junk 45), (.junk 46), (.junk 47), (.junk 48), (.junk 49), (.junk 50), (.junk 51), (.junk 52), (.junk 53), (.junk 54), (.junk 55), (.junk 56), (.junk 57), (.junk 58), (.junk 59), (.junk 60), (.junk 61), (.junk 62), (.junk 63), (.junk 64), (.junk 65), (.junk 66), (.junk 67), (.junk 68), (.junk 69), (.junk 70), (.junk 71), (.junk 72), (.junk 73), (.junk 74), (.junk 75), (.junk 76), (.junk 77), (.junk 78), (.junk 79), (.junk 80), (.junk 81), (.junk 82), (.junk 83), (.junk 84), (.junk 85), (.junk 86), (.junk 87), (.junk 88), (.junk 89), (.junk 90), (.junk 91), (.junk 92), (.junk 93), (.junk 94), (.junk 95), (.junk 96), (.junk 97), (.junk 98), (.junk 99), (.junk 100), (.junk 101), .undef, .undef, .undef, .undef, .undef, .undef, .undef], H := [(.cells [(.va 1), (.va 2)] 30 false)], ni := 2, nb := 0, nv := 3, nj := 102 }]
theorem saleroomref36_Verify_ok : SysOk Try.prog 18 saleroomref36_Verify_S := sys_ok (c := (cg [[false, false, true, false, true, true, true], [false, false, true, false, true, true, true, true], [false, false, true, false, true, false, true, false, true, true, true, true, true]] [] [] false false false true)) (progOkG _ _ _ _ _ _ _) Try.func18 Try.call18 (by kernel_rfl) saleroomref36_Verify_pats saleroomref36_Verify_S 5000 rfl (by kernel_rfl) (by kernel_rfl)
def activity_Exited_s : PT :=
 (.need (.is 0 0)
 (.ite (.lt (.l 0) (.slen 0))
  (.need (.is 0 0)
  (.need (.and (.le (.l (-9223372036854775808)) (.sub (.slen 0) (.l 1))) (.le (.sub (.slen 0) (.l 1)) (.l 9223372036854775807)))
  (.need (.and (.le (.l 0) (.sub (.slen 0) (.l 1))) (.lt (.sub (.slen 0) (.l 1)) (.slen 0)))
  (.load false (.ea 0 (.sub (.slen 0) (.l 1)) 12 6) [(.int .i64), (.int .i64), (.int .i64), (.int .i64), (.int .i64), (.int .i64)]
  (.ret false (.bool (.and (.eq (.a 0) (.l 0)) (.and (.eq (.a 1) (.l 0)) (.and (.eq (.a 2) (.l 0)) (.and (.eq (.a 3) (.l 0)) (.and (.eq (.a 4) (.l 0)) (.eq (.a 5) (.l 0)))))))) [])))))
  (.ret false (.bool (.t false)) [])))
def activity_Exited_S : Sx.Sys := ⟨[(.sh (.one .val))], activity_Exited_s, []⟩
def activity_Exited_pats : List Cfg := []
theorem activity_Exited_ok : SysOk Try.prog 29 activity_Exited_S := sys_ok (c := (cg [] [] [] false false false true)) (progOkG _ _ _ _ _ _ _) Try.func29 Try.call29 (by kernel_rfl) activity_Exited_pats activity_Exited_S 5000 rfl (by kernel_rfl) (by kernel_rfl)
def revealed_lowered_s : PT :=
 (.need (.is 0 0)
 (.mkM (.slen 0) [(.int .i64 (.l 0))] 2 1 8
 (.need (.is 0 0)
 (.mkM (.slen 0) [(.int .i64 (.l 0))] 3 1 8
 (.need (.is 0 2)
 (.jump 0 [(.slen 2), (.l 0)] [] [(.va 0), (.va 1), (.va 2)]))))))
def revealed_lowered_t0 : PT :=
 (.ite (.lt (.a 1) (.a 0))
  (.need (.and (.le (.l 0) (.a 1)) (.lt (.a 1) (.slen 2)))
  (.storeM (.ea 2 (.a 1) 1 0) [(.int .i64 (.l (-1)))]
  (.need (.and (.le (.l (-9223372036854775808)) (.add (.a 1) (.l 1))) (.le (.add (.a 1) (.l 1)) (.l 9223372036854775807)))
  (.jump 0 [(.a 0), (.add (.a 1) (.l 1))] [] [(.va 0), (.va 1), (.va 2)]))))
  (.need (.is 0 0)
  (.jump 1 [(.l (-1)), (.slen 0), (.l 0)] [] [(.va 0), (.va 1), (.va 2)])))
def revealed_lowered_t1 : PT :=
 (.ite (.lt (.a 2) (.a 1))
  (.need (.is 0 0)
  (.jump 2 [(.l (-1)), (.a 1), (.a 2), (.slen 0), (.l 0)] [] [(.va 0), (.va 1), (.va 2)]))
  (.ite (.lt (.a 0) (.l 0))
   (.ret true (.tup [(.va 1), .nilS]) [])
   (.call 63 [(.va 2), (.int .i64 (.a 0))] [] [(.one .val)]
   (.ret true (.tup [.nilS, (.va 3)]) []))))
def revealed_lowered_t2 : PT :=
 (.ite (.lt (.a 4) (.a 3))
  (.need (.is 0 0)
  (.jump 3 [(.a 0), (.a 4), (.a 1), (.a 2), (.a 3), (.slen 0), (.l 0)] [] [(.va 0), (.va 1), (.va 2)]))
  (.ite (.lt (.a 0) (.l 0))
   (.ite (.lt (.a 0) (.l 0))
    (.ret true (.tup [(.va 1), .nilS]) [])
    (.call 63 [(.va 2), (.int .i64 (.a 0))] [] [(.one .val)]
    (.ret true (.tup [.nilS, (.va 3)]) [])))
   (.need (.and (.le (.l (-9223372036854775808)) (.add (.a 2) (.l 1))) (.le (.add (.a 2) (.l 1)) (.l 9223372036854775807)))
   (.jump 1 [(.a 0), (.a 1), (.add (.a 2) (.l 1))] [] [(.va 0), (.va 1), (.va 2)]))))
def revealed_lowered_t3_b1 : PT :=
 (.load false (.ea 0 (.a 1) 12 0) [(.int .i64), (.int .i64), (.int .i64), (.int .i64), (.int .i64), (.int .i64), (.int .i64), (.int .i64), (.int .i64), (.int .i64), (.int .i64), (.int .i64)]
    (.load false (.ea 0 (.a 6) 12 0) [(.int .i64), (.int .i64), (.int .i64), (.int .i64), (.int .i64), (.int .i64), (.int .i64), (.int .i64), (.int .i64), (.int .i64), (.int .i64), (.int .i64)]
    (.call 48 [(.agg [(.int .i64 (.a 8)), (.int .i64 (.a 9)), (.int .i64 (.a 10)), (.int .i64 (.a 11)), (.int .i64 (.a 12)), (.int .i64 (.a 13)), (.int .i64 (.a 14)), (.int .i64 (.a 15)), (.int .i64 (.a 16)), (.int .i64 (.a 17)), (.int .i64 (.a 18)), (.int .i64 (.a 19))]), (.agg [(.int .i64 (.a 20)), (.int .i64 (.a 21)), (.int .i64 (.a 22)), (.int .i64 (.a 23)), (.int .i64 (.a 24)), (.int .i64 (.a 25)), (.int .i64 (.a 26)), (.int .i64 (.a 27)), (.int .i64 (.a 28)), (.int .i64 (.a 29)), (.int .i64 (.a 30)), (.int .i64 (.a 31))])] [] [(.one (.int .i64))]
    (.need (.and (.le (.l (-9223372036854775808)) (.add (.a 7) (.a 32))) (.le (.add (.a 7) (.a 32)) (.l 9223372036854775807)))
    (.need (.and (.le (.l 0) (.a 6)) (.lt (.a 6) (.slen 1)))
    (.load false (.ea 1 (.a 6) 1 0) [(.int .i64)]
    (.ite (.lt (.add (.a 7) (.a 32)) (.a 33))
     (.need (.and (.le (.l 0) (.a 6)) (.lt (.a 6) (.slen 1)))
     (.storeM (.ea 1 (.a 6) 1 0) [(.int .i64 (.add (.a 7) (.a 32)))]
     (.need (.and (.le (.l 0) (.a 6)) (.lt (.a 6) (.slen 2)))
     (.storeM (.ea 2 (.a 6) 1 0) [(.int .i64 (.a 1))]
     (.need (.and (.le (.l (-9223372036854775808)) (.add (.a 6) (.l 1))) (.le (.add (.a 6) (.l 1)) (.l 9223372036854775807)))
     (.jump 3 [(.a 6), (.a 1), (.a 2), (.a 3), (.a 4), (.a 5), (.add (.a 6) (.l 1))] [] [(.va 0), (.va 1), (.va 2)]))))))
     (.need (.and (.le (.l (-9223372036854775808)) (.add (.a 6) (.l 1))) (.le (.add (.a 6) (.l 1)) (.l 9223372036854775807)))
     (.jump 3 [(.a 0), (.a 1), (.a 2), (.a 3), (.a 4), (.a 5), (.add (.a 6) (.l 1))] [] [(.va 0), (.va 1), (.va 2)])))))))))
def revealed_lowered_t3_b2 : PT :=
 (.load false (.ea 0 (.a 6) 12 0) [(.int .i64), (.int .i64), (.int .i64), (.int .i64), (.int .i64), (.int .i64), (.int .i64), (.int .i64), (.int .i64), (.int .i64), (.int .i64), (.int .i64)]
    (.load false (.ea 0 (.a 1) 12 0) [(.int .i64), (.int .i64), (.int .i64), (.int .i64), (.int .i64), (.int .i64), (.int .i64), (.int .i64), (.int .i64), (.int .i64), (.int .i64), (.int .i64)]
    (.call 48 [(.agg [(.int .i64 (.a 20)), (.int .i64 (.a 21)), (.int .i64 (.a 22)), (.int .i64 (.a 23)), (.int .i64 (.a 24)), (.int .i64 (.a 25)), (.int .i64 (.a 26)), (.int .i64 (.a 27)), (.int .i64 (.a 28)), (.int .i64 (.a 29)), (.int .i64 (.a 30)), (.int .i64 (.a 31))]), (.agg [(.int .i64 (.a 8)), (.int .i64 (.a 9)), (.int .i64 (.a 10)), (.int .i64 (.a 11)), (.int .i64 (.a 12)), (.int .i64 (.a 13)), (.int .i64 (.a 14)), (.int .i64 (.a 15)), (.int .i64 (.a 16)), (.int .i64 (.a 17)), (.int .i64 (.a 18)), (.int .i64 (.a 19))])] [] [(.one (.int .i64))]
    (.need (.and (.le (.l (-9223372036854775808)) (.add (.a 7) (.a 32))) (.le (.add (.a 7) (.a 32)) (.l 9223372036854775807)))
    (.need (.and (.le (.l 0) (.a 6)) (.lt (.a 6) (.slen 1)))
    (.load false (.ea 1 (.a 6) 1 0) [(.int .i64)]
    (.ite (.lt (.add (.a 7) (.a 32)) (.a 33))
     (.need (.and (.le (.l 0) (.a 6)) (.lt (.a 6) (.slen 1)))
     (.storeM (.ea 1 (.a 6) 1 0) [(.int .i64 (.add (.a 7) (.a 32)))]
     (.need (.and (.le (.l 0) (.a 6)) (.lt (.a 6) (.slen 2)))
     (.storeM (.ea 2 (.a 6) 1 0) [(.int .i64 (.a 1))]
     (.need (.and (.le (.l (-9223372036854775808)) (.add (.a 6) (.l 1))) (.le (.add (.a 6) (.l 1)) (.l 9223372036854775807)))
     (.jump 3 [(.a 6), (.a 1), (.a 2), (.a 3), (.a 4), (.a 5), (.add (.a 6) (.l 1))] [] [(.va 0), (.va 1), (.va 2)]))))))
     (.need (.and (.le (.l (-9223372036854775808)) (.add (.a 6) (.l 1))) (.le (.add (.a 6) (.l 1)) (.l 9223372036854775807)))
     (.jump 3 [(.a 0), (.a 1), (.a 2), (.a 3), (.a 4), (.a 5), (.add (.a 6) (.l 1))] [] [(.va 0), (.va 1), (.va 2)])))))))))
def revealed_lowered_t3_b3 : PT :=
 (.load false (.ea 1 (.a 1) 1 0) [(.int .i64)]
   (.both revealed_lowered_t3_b1 revealed_lowered_t3_b2))
def revealed_lowered_t3_b4 : PT :=
 (.load false (.ea 1 (.a 1) 1 0) [(.int .i64)]
     (.load false (.ea 0 (.a 6) 12 0) [(.int .i64), (.int .i64), (.int .i64), (.int .i64), (.int .i64), (.int .i64), (.int .i64), (.int .i64), (.int .i64), (.int .i64), (.int .i64), (.int .i64)]
     (.call 48 [(.agg [(.int .i64 (.a 7)), (.int .i64 (.a 8)), (.int .i64 (.a 9)), (.int .i64 (.a 10)), (.int .i64 (.a 11)), (.int .i64 (.a 12)), (.int .i64 (.a 13)), (.int .i64 (.a 14)), (.int .i64 (.a 15)), (.int .i64 (.a 16)), (.int .i64 (.a 17)), (.int .i64 (.a 18))]), (.agg [(.int .i64 (.a 20)), (.int .i64 (.a 21)), (.int .i64 (.a 22)), (.int .i64 (.a 23)), (.int .i64 (.a 24)), (.int .i64 (.a 25)), (.int .i64 (.a 26)), (.int .i64 (.a 27)), (.int .i64 (.a 28)), (.int .i64 (.a 29)), (.int .i64 (.a 30)), (.int .i64 (.a 31))])] [] [(.one (.int .i64))]
     (.need (.and (.le (.l (-9223372036854775808)) (.add (.a 19) (.a 32))) (.le (.add (.a 19) (.a 32)) (.l 9223372036854775807)))
     (.need (.and (.le (.l 0) (.a 6)) (.lt (.a 6) (.slen 1)))
     (.load false (.ea 1 (.a 6) 1 0) [(.int .i64)]
     (.ite (.lt (.add (.a 19) (.a 32)) (.a 33))
      (.need (.and (.le (.l 0) (.a 6)) (.lt (.a 6) (.slen 1)))
      (.storeM (.ea 1 (.a 6) 1 0) [(.int .i64 (.add (.a 19) (.a 32)))]
      (.need (.and (.le (.l 0) (.a 6)) (.lt (.a 6) (.slen 2)))
      (.storeM (.ea 2 (.a 6) 1 0) [(.int .i64 (.a 1))]
      (.need (.and (.le (.l (-9223372036854775808)) (.add (.a 6) (.l 1))) (.le (.add (.a 6) (.l 1)) (.l 9223372036854775807)))
      (.jump 3 [(.a 6), (.a 1), (.a 2), (.a 3), (.a 4), (.a 5), (.add (.a 6) (.l 1))] [] [(.va 0), (.va 1), (.va 2)]))))))
      (.need (.and (.le (.l (-9223372036854775808)) (.add (.a 6) (.l 1))) (.le (.add (.a 6) (.l 1)) (.l 9223372036854775807)))
      (.jump 3 [(.a 0), (.a 1), (.a 2), (.a 3), (.a 4), (.a 5), (.add (.a 6) (.l 1))] [] [(.va 0), (.va 1), (.va 2)])))))))))
def revealed_lowered_t3_b5 : PT :=
 (.load false (.ea 1 (.a 1) 1 0) [(.int .i64)]
      (.call 48 [(.agg [(.int .i64 (.a 7)), (.int .i64 (.a 8)), (.int .i64 (.a 9)), (.int .i64 (.a 10)), (.int .i64 (.a 11)), (.int .i64 (.a 12)), (.int .i64 (.a 13)), (.int .i64 (.a 14)), (.int .i64 (.a 15)), (.int .i64 (.a 16)), (.int .i64 (.a 17)), (.int .i64 (.a 18))]), (.agg [(.int .i64 (.a 19)), (.int .i64 (.a 20)), (.int .i64 (.a 21)), (.int .i64 (.a 22)), (.int .i64 (.a 23)), (.int .i64 (.a 24)), (.int .i64 (.a 25)), (.int .i64 (.a 26)), (.int .i64 (.a 27)), (.int .i64 (.a 28)), (.int .i64 (.a 29)), (.int .i64 (.a 30))])] [] [(.one (.int .i64))]
      (.need (.and (.le (.l (-9223372036854775808)) (.add (.a 31) (.a 32))) (.le (.add (.a 31) (.a 32)) (.l 9223372036854775807)))
      (.need (.and (.le (.l 0) (.a 6)) (.lt (.a 6) (.slen 1)))
      (.load false (.ea 1 (.a 6) 1 0) [(.int .i64)]
      (.ite (.lt (.add (.a 31) (.a 32)) (.a 33))
       (.need (.and (.le (.l 0) (.a 6)) (.lt (.a 6) (.slen 1)))
       (.storeM (.ea 1 (.a 6) 1 0) [(.int .i64 (.add (.a 31) (.a 32)))]
       (.need (.and (.le (.l 0) (.a 6)) (.lt (.a 6) (.slen 2)))
       (.storeM (.ea 2 (.a 6) 1 0) [(.int .i64 (.a 1))]
       (.need (.and (.le (.l (-9223372036854775808)) (.add (.a 6) (.l 1))) (.le (.add (.a 6) (.l 1)) (.l 9223372036854775807)))
       (.jump 3 [(.a 6), (.a 1), (.a 2), (.a 3), (.a 4), (.a 5), (.add (.a 6) (.l 1))] [] [(.va 0), (.va 1), (.va 2)]))))))
       (.need (.and (.le (.l (-9223372036854775808)) (.add (.a 6) (.l 1))) (.le (.add (.a 6) (.l 1)) (.l 9223372036854775807)))
       (.jump 3 [(.a 0), (.a 1), (.a 2), (.a 3), (.a 4), (.a 5), (.add (.a 6) (.l 1))] [] [(.va 0), (.va 1), (.va 2)]))))))))
def revealed_lowered_t3_b6 : PT :=
 (.call 48 [(.agg [(.int .i64 (.a 7)), (.int .i64 (.a 8)), (.int .i64 (.a 9)), (.int .i64 (.a 10)), (.int .i64 (.a 11)), (.int .i64 (.a 12)), (.int .i64 (.a 13)), (.int .i64 (.a 14)), (.int .i64 (.a 15)), (.int .i64 (.a 16)), (.int .i64 (.a 17)), (.int .i64 (.a 18))]), (.agg [(.int .i64 (.a 19)), (.int .i64 (.a 20)), (.int .i64 (.a 21)), (.int .i64 (.a 22)), (.int .i64 (.a 23)), (.int .i64 (.a 24)), (.int .i64 (.a 25)), (.int .i64 (.a 26)), (.int .i64 (.a 27)), (.int .i64 (.a 28)), (.int .i64 (.a 29)), (.int .i64 (.a 30))])] [] [(.one (.int .i64))]
      (.load false (.ea 1 (.a 1) 1 0) [(.int .i64)]
      (.need (.and (.le (.l (-9223372036854775808)) (.add (.a 32) (.a 31))) (.le (.add (.a 32) (.a 31)) (.l 9223372036854775807)))
      (.need (.and (.le (.l 0) (.a 6)) (.lt (.a 6) (.slen 1)))
      (.load false (.ea 1 (.a 6) 1 0) [(.int .i64)]
      (.ite (.lt (.add (.a 32) (.a 31)) (.a 33))
       (.need (.and (.le (.l 0) (.a 6)) (.lt (.a 6) (.slen 1)))
       (.storeM (.ea 1 (.a 6) 1 0) [(.int .i64 (.add (.a 32) (.a 31)))]
       (.need (.and (.le (.l 0) (.a 6)) (.lt (.a 6) (.slen 2)))
       (.storeM (.ea 2 (.a 6) 1 0) [(.int .i64 (.a 1))]
       (.need (.and (.le (.l (-9223372036854775808)) (.add (.a 6) (.l 1))) (.le (.add (.a 6) (.l 1)) (.l 9223372036854775807)))
       (.jump 3 [(.a 6), (.a 1), (.a 2), (.a 3), (.a 4), (.a 5), (.add (.a 6) (.l 1))] [] [(.va 0), (.va 1), (.va 2)]))))))
       (.need (.and (.le (.l (-9223372036854775808)) (.add (.a 6) (.l 1))) (.le (.add (.a 6) (.l 1)) (.l 9223372036854775807)))
       (.jump 3 [(.a 0), (.a 1), (.a 2), (.a 3), (.a 4), (.a 5), (.add (.a 6) (.l 1))] [] [(.va 0), (.va 1), (.va 2)]))))))))
def revealed_lowered_t3_b7 : PT :=
 (.load false (.ea 0 (.a 6) 12 0) [(.int .i64), (.int .i64), (.int .i64), (.int .i64), (.int .i64), (.int .i64), (.int .i64), (.int .i64), (.int .i64), (.int .i64), (.int .i64), (.int .i64)]
     (.both revealed_lowered_t3_b5 revealed_lowered_t3_b6))
def revealed_lowered_t3_b8 : PT :=
 (.load false (.ea 0 (.a 1) 12 0) [(.int .i64), (.int .i64), (.int .i64), (.int .i64), (.int .i64), (.int .i64), (.int .i64), (.int .i64), (.int .i64), (.int .i64), (.int .i64), (.int .i64)]
    (.both revealed_lowered_t3_b4 revealed_lowered_t3_b7))
def revealed_lowered_t3_b9 : PT :=
 (.load false (.ea 1 (.a 1) 1 0) [(.int .i64)]
     (.load false (.ea 0 (.a 1) 12 0) [(.int .i64), (.int .i64), (.int .i64), (.int .i64), (.int .i64), (.int .i64), (.int .i64), (.int .i64), (.int .i64), (.int .i64), (.int .i64), (.int .i64)]
     (.call 48 [(.agg [(.int .i64 (.a 20)), (.int .i64 (.a 21)), (.int .i64 (.a 22)), (.int .i64 (.a 23)), (.int .i64 (.a 24)), (.int .i64 (.a 25)), (.int .i64 (.a 26)), (.int .i64 (.a 27)), (.int .i64 (.a 28)), (.int .i64 (.a 29)), (.int .i64 (.a 30)), (.int .i64 (.a 31))]), (.agg [(.int .i64 (.a 7)), (.int .i64 (.a 8)), (.int .i64 (.a 9)), (.int .i64 (.a 10)), (.int .i64 (.a 11)), (.int .i64 (.a 12)), (.int .i64 (.a 13)), (.int .i64 (.a 14)), (.int .i64 (.a 15)), (.int .i64 (.a 16)), (.int .i64 (.a 17)), (.int .i64 (.a 18))])] [] [(.one (.int .i64))]
     (.need (.and (.le (.l (-9223372036854775808)) (.add (.a 19) (.a 32))) (.le (.add (.a 19) (.a 32)) (.l 9223372036854775807)))
     (.need (.and (.le (.l 0) (.a 6)) (.lt (.a 6) (.slen 1)))
     (.load false (.ea 1 (.a 6) 1 0) [(.int .i64)]
     (.ite (.lt (.add (.a 19) (.a 32)) (.a 33))
      (.need (.and (.le (.l 0) (.a 6)) (.lt (.a 6) (.slen 1)))
      (.storeM (.ea 1 (.a 6) 1 0) [(.int .i64 (.add (.a 19) (.a 32)))]
      (.need (.and (.le (.l 0) (.a 6)) (.lt (.a 6) (.slen 2)))
      (.storeM (.ea 2 (.a 6) 1 0) [(.int .i64 (.a 1))]
      (.need (.and (.le (.l (-9223372036854775808)) (.add (.a 6) (.l 1))) (.le (.add (.a 6) (.l 1)) (.l 9223372036854775807)))
      (.jump 3 [(.a 6), (.a 1), (.a 2), (.a 3), (.a 4), (.a 5), (.add (.a 6) (.l 1))] [] [(.va 0), (.va 1), (.va 2)]))))))
      (.need (.and (.le (.l (-9223372036854775808)) (.add (.a 6) (.l 1))) (.le (.add (.a 6) (.l 1)) (.l 9223372036854775807)))
      (.jump 3 [(.a 0), (.a 1), (.a 2), (.a 3), (.a 4), (.a 5), (.add (.a 6) (.l 1))] [] [(.va 0), (.va 1), (.va 2)])))))))))
def revealed_lowered_t3_b10 : PT :=
 (.load false (.ea 1 (.a 1) 1 0) [(.int .i64)]
      (.call 48 [(.agg [(.int .i64 (.a 19)), (.int .i64 (.a 20)), (.int .i64 (.a 21)), (.int .i64 (.a 22)), (.int .i64 (.a 23)), (.int .i64 (.a 24)), (.int .i64 (.a 25)), (.int .i64 (.a 26)), (.int .i64 (.a 27)), (.int .i64 (.a 28)), (.int .i64 (.a 29)), (.int .i64 (.a 30))]), (.agg [(.int .i64 (.a 7)), (.int .i64 (.a 8)), (.int .i64 (.a 9)), (.int .i64 (.a 10)), (.int .i64 (.a 11)), (.int .i64 (.a 12)), (.int .i64 (.a 13)), (.int .i64 (.a 14)), (.int .i64 (.a 15)), (.int .i64 (.a 16)), (.int .i64 (.a 17)), (.int .i64 (.a 18))])] [] [(.one (.int .i64))]
      (.need (.and (.le (.l (-9223372036854775808)) (.add (.a 31) (.a 32))) (.le (.add (.a 31) (.a 32)) (.l 9223372036854775807)))
      (.need (.and (.le (.l 0) (.a 6)) (.lt (.a 6) (.slen 1)))
      (.load false (.ea 1 (.a 6) 1 0) [(.int .i64)]
      (.ite (.lt (.add (.a 31) (.a 32)) (.a 33))
       (.need (.and (.le (.l 0) (.a 6)) (.lt (.a 6) (.slen 1)))
       (.storeM (.ea 1 (.a 6) 1 0) [(.int .i64 (.add (.a 31) (.a 32)))]
       (.need (.and (.le (.l 0) (.a 6)) (.lt (.a 6) (.slen 2)))
       (.storeM (.ea 2 (.a 6) 1 0) [(.int .i64 (.a 1))]
       (.need (.and (.le (.l (-9223372036854775808)) (.add (.a 6) (.l 1))) (.le (.add (.a 6) (.l 1)) (.l 9223372036854775807)))
       (.jump 3 [(.a 6), (.a 1), (.a 2), (.a 3), (.a 4), (.a 5), (.add (.a 6) (.l 1))] [] [(.va 0), (.va 1), (.va 2)]))))))
       (.need (.and (.le (.l (-9223372036854775808)) (.add (.a 6) (.l 1))) (.le (.add (.a 6) (.l 1)) (.l 9223372036854775807)))
       (.jump 3 [(.a 0), (.a 1), (.a 2), (.a 3), (.a 4), (.a 5), (.add (.a 6) (.l 1))] [] [(.va 0), (.va 1), (.va 2)]))))))))
def revealed_lowered_t3_b11 : PT :=
 (.call 48 [(.agg [(.int .i64 (.a 19)), (.int .i64 (.a 20)), (.int .i64 (.a 21)), (.int .i64 (.a 22)), (.int .i64 (.a 23)), (.int .i64 (.a 24)), (.int .i64 (.a 25)), (.int .i64 (.a 26)), (.int .i64 (.a 27)), (.int .i64 (.a 28)), (.int .i64 (.a 29)), (.int .i64 (.a 30))]), (.agg [(.int .i64 (.a 7)), (.int .i64 (.a 8)), (.int .i64 (.a 9)), (.int .i64 (.a 10)), (.int .i64 (.a 11)), (.int .i64 (.a 12)), (.int .i64 (.a 13)), (.int .i64 (.a 14)), (.int .i64 (.a 15)), (.int .i64 (.a 16)), (.int .i64 (.a 17)), (.int .i64 (.a 18))])] [] [(.one (.int .i64))]
      (.load false (.ea 1 (.a 1) 1 0) [(.int .i64)]
      (.need (.and (.le (.l (-9223372036854775808)) (.add (.a 32) (.a 31))) (.le (.add (.a 32) (.a 31)) (.l 9223372036854775807)))
      (.need (.and (.le (.l 0) (.a 6)) (.lt (.a 6) (.slen 1)))
      (.load false (.ea 1 (.a 6) 1 0) [(.int .i64)]
      (.ite (.lt (.add (.a 32) (.a 31)) (.a 33))
       (.need (.and (.le (.l 0) (.a 6)) (.lt (.a 6) (.slen 1)))
       (.storeM (.ea 1 (.a 6) 1 0) [(.int .i64 (.add (.a 32) (.a 31)))]
       (.need (.and (.le (.l 0) (.a 6)) (.lt (.a 6) (.slen 2)))
       (.storeM (.ea 2 (.a 6) 1 0) [(.int .i64 (.a 1))]
       (.need (.and (.le (.l (-9223372036854775808)) (.add (.a 6) (.l 1))) (.le (.add (.a 6) (.l 1)) (.l 9223372036854775807)))
       (.jump 3 [(.a 6), (.a 1), (.a 2), (.a 3), (.a 4), (.a 5), (.add (.a 6) (.l 1))] [] [(.va 0), (.va 1), (.va 2)]))))))
       (.need (.and (.le (.l (-9223372036854775808)) (.add (.a 6) (.l 1))) (.le (.add (.a 6) (.l 1)) (.l 9223372036854775807)))
       (.jump 3 [(.a 0), (.a 1), (.a 2), (.a 3), (.a 4), (.a 5), (.add (.a 6) (.l 1))] [] [(.va 0), (.va 1), (.va 2)]))))))))
def revealed_lowered_t3_b12 : PT :=
 (.load false (.ea 0 (.a 1) 12 0) [(.int .i64), (.int .i64), (.int .i64), (.int .i64), (.int .i64), (.int .i64), (.int .i64), (.int .i64), (.int .i64), (.int .i64), (.int .i64), (.int .i64)]
     (.both revealed_lowered_t3_b10 revealed_lowered_t3_b11))
def revealed_lowered_t3_b13 : PT :=
 (.load false (.ea 0 (.a 6) 12 0) [(.int .i64), (.int .i64), (.int .i64), (.int .i64), (.int .i64), (.int .i64), (.int .i64), (.int .i64), (.int .i64), (.int .i64), (.int .i64), (.int .i64)]
    (.both revealed_lowered_t3_b9 revealed_lowered_t3_b12))
def revealed_lowered_t3_b14 : PT :=
 (.both revealed_lowered_t3_b8 revealed_lowered_t3_b13)
def revealed_lowered_t3 : PT :=
 (.ite (.lt (.a 6) (.a 5))
  (.need (.and (.le (.l 0) (.a 1)) (.lt (.a 1) (.slen 1)))
  (.need (.and (.le (.l 0) (.a 1)) (.lt (.a 1) (.slen 0)))
  (.need (.and (.le (.l 0) (.a 6)) (.lt (.a 6) (.slen 0)))
  (.both revealed_lowered_t3_b3 revealed_lowered_t3_b14))))
  (.need (.and (.le (.l (-9223372036854775808)) (.add (.a 1) (.l 1))) (.le (.add (.a 1) (.l 1)) (.l 9223372036854775807)))
  (.jump 2 [(.a 0), (.a 2), (.a 3), (.a 4), (.add (.a 1) (.l 1))] [] [(.va 0), (.va 1), (.va 2)])))
def revealed_lowered_S : Sx.Sys := ⟨[(.sh (.one .val))], revealed_lowered_s, [revealed_lowered_t0, revealed_lowered_t1, revealed_lowered_t2, revealed_lowered_t3]⟩
def revealed_lowered_pats : List Cfg := [{ todo := [(.code [false, false, true, false, true, true, false, true]), (.inLoop [false, false, true, false, true, true, false, true]), (.inBlock 0), (.code [true, true, true, false, true]), (.inScope [false, true])], sl := [(.va 0), .undef, (.junk 0), (.junk 1), (.va 1), (.va 2), (.junk 2), .undef, .undef, .undef, .undef, (.junk 3), (.junk 4), (.junk 5), (.junk 6), (.junk 7), (.junk 8), (.junk 9), (.int .i64 (.a 0)), (.int .i64 (.a 1)), (.junk 10), (.junk 11), (.junk 12), (.junk 13), (.junk 14), (.junk 15), .undef, .undef, .undef, .undef, .undef, .undef, .undef, .undef, .undef, .undef, .undef, .undef, .undef, .undef, .undef, .undef, .undef, .undef, .undef, .undef, .undef, .undef, .undef, .undef, .undef, .undef, .undef, .undef, .undef, .undef, .undef, .undef, .undef, .undef, .undef, .undef, .undef, .undef, .undef, .undef, .undef, .undef, .undef, .undef, .undef, .undef, .undef, .undef, .undef, .undef, .undef, .undef, .undef, .undef], H := [], ni := 2, nb := 0, nv := 3, nj := 16 },
 { todo := [(.code [false, false, true, false, true, true, true, true, true, false, true]), (.inLoop [false, false, true, false, true, true, true, true, true, false, true]), (.inBlock 2), (.code [true, true, true, true, true, true, false, true]), (.inScope [false, true])], sl := [(.va 0), .undef, (.junk 0), (.junk 1), (.va 1), (.va 2), (.junk 2), (.int .i64 (.a 0)), (.junk 3), (.junk 4), (.junk 5), (.junk 6), (.junk 7), (.junk 8), (.junk 9), (.junk 10), (.junk 11), (.junk 12), (.junk 13), (.junk 14), (.junk 15), (.junk 16), (.junk 17), (.junk 18), (.junk 19), (.junk 20), (.junk 21), (.int .i64 (.a 1)), (.int .i64 (.a 2)), (.junk 22), (.junk 23), (.junk 24), (.junk 25), (.junk 26), (.junk 27), (.junk 28), (.junk 29), (.junk 30), (.junk 31), (.junk 32), (.junk 33), (.junk 34), (.junk 35), (.junk 36), (.junk 37), (.junk 38), (.junk 39), (.junk 40), (.junk 41), (.junk 42), (.junk 43), (.junk 44), (.junk 45), (.junk 46), (.junk 47), (.junk 48), (.junk 49), (.junk 50), (.junk 51), (.junk 52), (.junk 53), (.junk 54), (.junk 55), (.junk 56), (.junk 57), (.junk 58), (.junk 59), (.junk 60), (.junk 61), (.junk 62), (.junk 63), (.junk 64), (.junk 65), (.junk 66), .undef, .undef, .undef, .undef, .undef, .undef], H := [], ni := 3, nb := 0, nv := 3, nj := 67 },
 { todo := [(.code [false, false, true, false, true, false, false, true, true, false, false, true, false, true, true, true, true, true, false, true]), (.inLoop [false, false, true, false, true, false, false, true, true, false, false, true, false, true, true, true, true, true, false, true]), (.inBlock 4), (.code [true, true, false, false, true, true, false, false, true, false, true, true, true, true, true, false, true]), (.inBlock 3), (.code [true, true, true, false, false, true, false, true, true, true, true, true, false, true]), (.inLoop [false, false, true, false, true, true, true, true, true, false, true]), (.inBlock 2), (.code [true, true, true, true, true, true, false, true]), (.inScope [false, true])], sl := [(.va 0), .undef, (.junk 0), (.junk 1), (.va 1), (.va 2), (.junk 2), (.int .i64 (.a 0)), (.junk 3), (.junk 4), (.junk 5), (.junk 6), (.junk 7), (.junk 8), (.junk 9), (.junk 10), (.junk 11), (.junk 12), (.junk 13), (.junk 14), (.junk 15), (.junk 16), (.junk 17), (.junk 18), (.junk 19), (.junk 20), (.junk 21), (.int .i64 (.a 1)), (.int .i64 (.a 2)), (.junk 22), (.junk 23), (.int .i64 (.a 3)), (.int .i64 (.a 4)), (.junk 24), (.junk 25), (.junk 26), (.junk 27), (.junk 28), (.junk 29), (.junk 30), (.junk 31), (.junk 32), (.junk 33), (.junk 34), (.junk 35), (.junk 36), (.junk 37), (.junk 38), (.junk 39), (.junk 40), (.junk 41), (.junk 42), (.junk 43), (.junk 44), (.junk 45), (.junk 46), (.junk 47), (.junk 48), (.junk 49), (.junk 50), (.junk 51), (.junk 52), (.junk 53), (.junk 54), (.junk 55), (.junk 56), (.junk 57), (.junk 58), (.junk 59), (.junk 60), (.junk 61), (.junk 62), (.junk 63), (.junk 64), .undef, .undef, .undef, .undef, .undef, .undef], H := [], ni := 5, nb := 0, nv := 3, nj := 65 },
 { todo := [(.code [false, false, true, true, false, false, true, true, false, false, true, false, true, false, false, true, true, false, false, true, false, true, true, true, true, true, false, true]), (.inLoop [false, false, true, true, false, false, true, true, false, false, true, false, true, false, false, true, true, false, false, true, false, true, true, true, true, true, false, true]), (.inBlock 6), (.inBlock 5), (.code [true, true, true, false, false, true, false, true, false, false, true, true, false, false, true, false, true, true, true, true, true, false, true]), (.inLoop [false, false, true, false, true, false, false, true, true, false, false, true, false, true, true, true, true, true, false, true]), (.inBlock 4), (.code [true, true, false, false, true, true, false, false, true, false, true, true, true, true, true, false, true]), (.inBlock 3), (.code [true, true, true, false, false, true, false, true, true, true, true, true, false, true]), (.inLoop [false, false, true, false, true, true, true, true, true, false, true]), (.inBlock 2), (.code [true, true, true, true, true, true, false, true]), (.inScope [false, true])], sl := [(.va 0), .undef, (.junk 0), (.junk 1), (.va 1), (.va 2), (.junk 2), (.int .i64 (.a 0)), (.int .i64 (.a 1)), (.junk 3), (.junk 4), (.junk 5), (.junk 6), (.junk 7), (.junk 8), (.junk 9), (.junk 10), (.junk 11), (.junk 12), (.junk 13), (.junk 14), (.junk 15), (.junk 16), (.junk 17), (.junk 18), (.junk 19), (.junk 20), (.int .i64 (.a 2)), (.int .i64 (.a 3)), (.junk 21), (.junk 22), (.int .i64 (.a 4)), (.int .i64 (.a 1)), (.junk 23), (.junk 24), (.junk 25), (.int .i64 (.a 5)), (.int .i64 (.a 6)), (.junk 26), (.junk 27), (.junk 28), (.junk 29), (.junk 30), (.junk 31), (.junk 32), (.junk 33), (.junk 34), (.junk 35), (.junk 36), (.junk 37), (.junk 38), (.junk 39), (.junk 40), (.junk 41), (.junk 42), (.junk 43), (.junk 44), (.junk 45), (.junk 46), (.junk 47), (.junk 48), (.junk 49), (.junk 50), (.junk 51), (.junk 52), (.junk 53), (.junk 54), (.junk 55), (.junk 56), (.junk 57), (.junk 58), (.junk 59), (.junk 60), (.junk 61), .undef, .undef, .undef, .undef, .undef, .undef], H := [], ni := 7, nb := 0, nv := 3, nj := 62 }]
theorem revealed_lowered_ok : SysOk Try.prog 40 revealed_lowered_S := sys_ok (c := (cg [[false, false, true, false, true, true, false, true], [false, false, true, false, true, true, true, true, true, false, true], [false, false, true, false, true, false, false, true, true, false, false, true, false, true, true, true, true, true, false, true], [false, false, true, true, false, false, true, true, false, false, true, false, true, false, false, true, true, false, false, true, false, true, true, true, true, true, false, true]] [] [] true true false true)) (progOkG _ _ _ _ _ _ _) Try.func40 Try.call40 (by kernel_rfl) revealed_lowered_pats revealed_lowered_S 5000 rfl (by kernel_rfl) (by kernel_rfl)
def revealed_valid_s : PT :=
 (.ite (.lt (.a 0) (.l 0))
  (.ret false (.bool (.t false)) [])
  (.ite (.lt (.l 1000000) (.a 0))
   (.ret false (.bool (.t false)) [])
   (.ite (.lt (.a 1) (.l 0))
    (.ret false (.bool (.t false)) [])
    (.ite (.lt (.l 1000000) (.a 1))
     (.ret false (.bool (.t false)) [])
     (.ite (.lt (.a 2) (.l 0))
      (.ret false (.bool (.t false)) [])
      (.ite (.lt (.l 1000000) (.a 2))
       (.ret false (.bool (.t false)) [])
       (.ite (.lt (.a 3) (.l 0))
        (.ret false (.bool (.t false)) [])
        (.ite (.lt (.l 1000000) (.a 3))
         (.ret false (.bool (.t false)) [])
         (.ite (.lt (.a 4) (.l 0))
          (.ret false (.bool (.t false)) [])
          (.ite (.lt (.l 1000000) (.a 4))
           (.ret false (.bool (.t false)) [])
           (.ite (.lt (.a 5) (.l 0))
            (.ret false (.bool (.t false)) [])
            (.ite (.lt (.l 1000000) (.a 5))
             (.ret false (.bool (.t false)) [])
             (.call 55 [(.agg [(.int .i64 (.a 6)), (.int .i64 (.a 7)), (.int .i64 (.a 8)), (.int .i64 (.a 9)), (.int .i64 (.a 10)), (.int .i64 (.a 11))])] [] [(.one (.int .i64))]
             (.ret false (.bool (.eq (.a 12) (.l 0))) []))))))))))))))
def revealed_valid_S : Sx.Sys := ⟨[(.sh (.agg [(.int .i64), (.int .i64), (.int .i64), (.int .i64), (.int .i64), (.int .i64), (.int .i64), (.int .i64), (.int .i64), (.int .i64), (.int .i64), (.int .i64)]))], revealed_valid_s, []⟩
def revealed_valid_pats : List Cfg := []
theorem revealed_valid_ok : SysOk Try.prog 49 revealed_valid_S := sys_ok (c := (cg [] [] [] false false false true)) (progOkG _ _ _ _ _ _ _) Try.func49 Try.call49 (by kernel_rfl) revealed_valid_pats revealed_valid_S 5000 rfl (by kernel_rfl) (by kernel_rfl)
def saleroomref37_points_s : PT :=
 (.call 66 [(.va 0), (.int .i64 (.l 0)), (.agg [(.int .i64 (.a 0)), (.int .i64 (.a 1)), (.int .i64 (.a 2)), (.int .i64 (.a 3)), (.int .i64 (.a 4)), (.int .i64 (.a 5))])] [] [(.one (.int .i64)), (.one (.int .i64)), (.one (.int .i64))]
 (.ret false (.int .i64 (.a 6)) []))
def saleroomref37_points_S : Sx.Sys := ⟨[(.sh (.agg [.val, .val, .val, .val])), (.sh (.agg [(.int .i64), (.int .i64), (.int .i64), (.int .i64), (.int .i64), (.int .i64)]))], saleroomref37_points_s, []⟩
def saleroomref37_points_pats : List Cfg := []
theorem saleroomref37_points_ok : SysOk Try.prog 58 saleroomref37_points_S := sys_ok (c := (cg [] [] [] false false false true)) (progOkG _ _ _ _ _ _ _) Try.func58 Try.call58 (by kernel_rfl) saleroomref37_points_pats saleroomref37_points_S 5000 rfl (by kernel_rfl) (by kernel_rfl)
def demandset_counting_s : PT :=
 (.need (.is 0 0)
 (.jump 0 [(.slen 0), (.l 0)] [] [.nilS, (.va 0)]))
def demandset_counting_t0 : PT :=
 (.ite (.lt (.a 1) (.a 0))
  (.need (.and (.le (.l 0) (.a 1)) (.lt (.a 1) (.slen 1)))
  (.load false (.ea 1 (.a 1) 8 0) [(.int .i64), (.int .i64), (.int .i64), (.int .i64), (.int .i64), (.int .i64), (.int .i64), (.int .i64)]
  (.call 55 [(.agg [(.int .i64 (.a 3)), (.int .i64 (.a 4)), (.int .i64 (.a 5)), (.int .i64 (.a 6)), (.int .i64 (.a 7)), (.int .i64 (.a 8))])] [] [(.one (.int .i64))]
  (.ite (.eq (.a 10) (.l 0))
   (.ite (.le (.l 1) (.a 9))
    (.ite (.le (.a 9) (.l 1000000))
     (.app none (.lit [[(.int .i64 (.a 2)), (.int .i64 (.a 3)), (.int .i64 (.a 4)), (.int .i64 (.a 5)), (.int .i64 (.a 6)), (.int .i64 (.a 7)), (.int .i64 (.a 8)), (.int .i64 (.a 9))]]) 8
     (.app (some 0) (.va 2) 8
     (.need (.and (.le (.l (-9223372036854775808)) (.add (.a 1) (.l 1))) (.le (.add (.a 1) (.l 1)) (.l 9223372036854775807)))
     (.jump 0 [(.a 0), (.add (.a 1) (.l 1))] [] [(.va 3), (.va 1)]))))
     (.need (.and (.le (.l (-9223372036854775808)) (.add (.a 1) (.l 1))) (.le (.add (.a 1) (.l 1)) (.l 9223372036854775807)))
     (.jump 0 [(.a 0), (.add (.a 1) (.l 1))] [] [(.va 0), (.va 1)])))
    (.need (.and (.le (.l (-9223372036854775808)) (.add (.a 1) (.l 1))) (.le (.add (.a 1) (.l 1)) (.l 9223372036854775807)))
    (.jump 0 [(.a 0), (.add (.a 1) (.l 1))] [] [(.va 0), (.va 1)])))
   (.need (.and (.le (.l (-9223372036854775808)) (.add (.a 1) (.l 1))) (.le (.add (.a 1) (.l 1)) (.l 9223372036854775807)))
   (.jump 0 [(.a 0), (.add (.a 1) (.l 1))] [] [(.va 0), (.va 1)]))))))
  (.ret false (.va 0) []))
def demandset_counting_S : Sx.Sys := ⟨[(.sh (.one .val))], demandset_counting_s, [demandset_counting_t0]⟩
def demandset_counting_pats : List Cfg := [{ todo := [(.code [false, false, true, false, true, true]), (.inLoop [false, false, true, false, true, true]), (.inBlock 0), (.code [true, true, true])], sl := [(.junk 0), .undef, (.junk 1), (.va 0), .undef, (.junk 2), (.va 1), (.int .i64 (.a 0)), (.int .i64 (.a 1)), (.junk 3), (.junk 4), (.junk 5), (.junk 6), (.junk 7), (.junk 8), (.junk 9), (.junk 10), (.junk 11), (.junk 12), (.junk 13), (.junk 14), (.junk 15), (.junk 16), (.junk 17), (.junk 18), (.junk 19), (.junk 20), (.junk 21), (.junk 22), (.junk 23), (.junk 24), .undef], H := [(.row 0 113 8)], ni := 2, nb := 0, nv := 2, nj := 25 }]
theorem demandset_counting_ok : SysOk Try.prog 70 demandset_counting_S := sys_ok (c := (cg [[false, false, true, false, true, true]] [] [] false false false true)) (progOkG _ _ _ _ _ _ _) Try.func70 Try.call70 (by kernel_rfl) demandset_counting_pats demandset_counting_S 5000 rfl (by kernel_rfl) (by kernel_rfl)
def catalog_Check_s : PT :=
 (.need (.is 0 0)
 (.ite (.eq (.slen 0) (.l 0))
  (.ret false (.int .i64 (.l 1)) [])
  (.need (.is 0 0)
  (.ite (.lt (.l 6) (.slen 0))
   (.ret false (.int .i64 (.l 3)) [])
   (.need (.is 0 0)
   (.jump 0 [(.slen 0), (.l 0)] [] [(.va 0)]))))))
def catalog_Check_t0 : PT :=
 (.ite (.lt (.a 1) (.a 0))
  (.need (.and (.le (.l 0) (.a 1)) (.lt (.a 1) (.slen 0)))
  (.load false (.ea 0 (.a 1) 5 0) [.val, (.int .i64), (.int .i64), (.int .i64), (.int .i64)]
  (.call 83 [(.va 1)] [] [(.one .bool)]
  (.ite (.not (.a 0))
   (.ret false (.int .i64 (.l 5)) [])
   (.cut 0 none (some (.a 1)) 5
   (.call 84 [(.va 2), (.va 1)] [] [(.one (.int .i64)), (.one .bool)]
   (.ite (.a 1)
    (.ret false (.int .i64 (.l 7)) [])
    (.call 85 [(.int .i64 (.a 2)), (.int .i64 (.l 1)), (.int .i64 (.l 4))] [] [(.one .bool)]
    (.ite (.not (.a 2))
     (.ret false (.int .i64 (.l 4)) [])
     (.call 85 [(.int .i64 (.a 3)), (.int .i64 (.l 0)), (.int .i64 (.l 1000000))] [] [(.one .bool)]
     (.ite (.not (.a 3))
      (.ret false (.int .i64 (.l 4)) [])
      (.call 85 [(.int .i64 (.a 4)), (.int .i64 (.l 0)), (.int .i64 (.l 1000))] [] [(.one .bool)]
      (.ite (.not (.a 4))
       (.ret false (.int .i64 (.l 4)) [])
       (.call 85 [(.int .i64 (.a 5)), (.int .i64 (.l 0)), (.int .i64 (.l 4))] [] [(.one .bool)]
       (.ite (.not (.a 5))
        (.ret false (.int .i64 (.l 4)) [])
        (.need (.and (.le (.l (-9223372036854775808)) (.add (.a 1) (.l 1))) (.le (.add (.a 1) (.l 1)) (.l 9223372036854775807)))
        (.jump 0 [(.a 0), (.add (.a 1) (.l 1))] [] [(.va 0)])))))))))))))))))
  (.call 86 [(.va 0)] [] [(.agg [(.int .i64), (.int .i64), (.int .i64), (.int .i64), (.int .i64), (.int .i64)])]
  (.call 76 [(.agg [(.int .i64 (.a 2)), (.int .i64 (.a 3)), (.int .i64 (.a 4)), (.int .i64 (.a 5)), (.int .i64 (.a 6)), (.int .i64 (.a 7))])] [] [(.one (.int .i64))]
  (.ite (.eq (.a 8) (.l 0))
   (.ret false (.int .i64 (.l 12)) [])
   (.ret false (.int .i64 (.l 0)) [])))))
def catalog_Check_S : Sx.Sys := ⟨[(.sh (.one .val))], catalog_Check_s, [catalog_Check_t0]⟩
def catalog_Check_pats : List Cfg := [{ todo := [(.code [false, false, true, false, true, true]), (.inLoop [false, false, true, false, true, true]), (.inBlock 1), (.code [true, true, true])], sl := [(.va 0), .undef, (.junk 0), (.junk 1), (.junk 2), (.junk 3), (.junk 4), (.junk 5), (.junk 6), (.junk 7), (.junk 8), (.junk 9), (.junk 10), (.junk 11), (.junk 12), (.va 0), (.int .i64 (.a 0)), (.int .i64 (.a 1)), (.junk 13), (.junk 14), (.junk 15), (.junk 16), (.junk 17), (.junk 18), (.junk 19), (.junk 20), (.junk 21), (.junk 22), (.junk 23), (.junk 24), (.junk 25), (.junk 26), (.junk 27), (.junk 28), (.junk 29), (.junk 30), (.junk 31), (.junk 32), (.junk 33), (.junk 34), (.junk 35), (.junk 36), (.junk 37), (.junk 38), (.junk 39), (.junk 40), (.junk 41), (.junk 42), (.junk 43), (.junk 44), (.junk 45), (.junk 46), (.junk 47), (.junk 48), (.junk 49), (.junk 50), (.junk 51), (.junk 52), (.junk 53), .undef, .undef, .undef, .undef], H := [], ni := 2, nb := 0, nv := 1, nj := 54 }]
theorem catalog_Check_ok : SysOk Try.prog 79 catalog_Check_S := sys_ok (c := (cg [[false, false, true, false, true, true]] [] [] false false false true)) (progOkG _ _ _ _ _ _ _) Try.func79 Try.call79 (by kernel_rfl) catalog_Check_pats catalog_Check_S 5000 rfl (by kernel_rfl) (by kernel_rfl)
def lexer_digit_s : PT :=
 (.ite (.le (.l 48) (.a 0))
  (.ret false (.bool (.le (.a 0) (.l 57))) [])
  (.ret false (.bool (.t false)) []))
def lexer_digit_S : Sx.Sys := ⟨[(.sh (.one (.int .i32)))], lexer_digit_s, []⟩
def lexer_digit_pats : List Cfg := []
theorem lexer_digit_ok : SysOk Try.prog 91 lexer_digit_S := sys_ok (c := (cg [] [] [] false false false true)) (progOkG _ _ _ _ _ _ _) Try.func91 Try.call91 (by kernel_rfl) lexer_digit_pats lexer_digit_S 5000 rfl (by kernel_rfl) (by kernel_rfl)
end Go.Proofs.Ythjahianafohjaa
