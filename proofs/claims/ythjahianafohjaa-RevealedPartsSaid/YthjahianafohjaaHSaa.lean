/- The trees of this seat's functions, part 0. Written by txgen.py. -/
import Derived.Test.YthjahianafohjaaHTab
set_option linter.unusedSimpArgs false
set_option linter.unusedVariables false
set_option maxRecDepth 100000
namespace Go.Proofs.Ythjahianafohjaa
open Go.Sx
def saleroomlaw36_RevealedExact_s : PT :=
 (.need (.is 0 0)
 (.ite (.lt (.l 14) (.slen 0))
  (.call 14 [] [] [(.one .bool)]
  (.ret false (.bool (.a 0)) []))
  (.call 15 [(.va 0)] [] [(.agg [.val, .val]), (.one .bool)]
  (.call 16 [(.va 0)] [] [(.agg [.val, .val]), (.one .bool)]
  (.ite (.not (.or (.and (.a 0) (.a 1)) (.and (.not (.a 0)) (.not (.a 1)))))
   (.ret false (.bool (.t false)) [])
   (.call 17 [(.va 0)] [] [(.one .bool)]
   (.ite (.not (.a 2))
    (.need (.is 0 1)
    (.need (.is 0 2)
    (.need (.and (.le (.l (-9223372036854775808)) (.add (.slen 1) (.slen 2))) (.le (.add (.slen 1) (.slen 2)) (.l 9223372036854775807)))
    (.ite (.eq (.add (.slen 1) (.slen 2)) (.l 0))
     (.call 14 [] [] [(.one .bool)]
     (.ret false (.bool (.a 3)) []))
     (.ret false (.bool (.t false)) [])))))
    (.need (.is 0 1)
    (.ite (.not (.or (.and (.a 0) (.eq (.slen 1) (.l 0))) (.and (.not (.a 0)) (.not (.eq (.slen 1) (.l 0))))))
     (.ret false (.bool (.t false)) [])
     (.call 18 [(.va 0), (.agg [(.va 1), (.va 2)])] [] [(.one (.int .i64))]
     (.ite (.eq (.a 0) (.l 0))
      (.call 14 [] [] [(.one .bool)]
      (.ret false (.bool (.a 3)) []))
      (.ret false (.bool (.t false)) []))))))))))))
def saleroomlaw36_RevealedExact_S : Sx.Sys := ⟨[(.sh (.one .val))], saleroomlaw36_RevealedExact_s, [], none⟩
def saleroomlaw36_RevealedExact_pats : List Cfg := []
theorem saleroomlaw36_RevealedExact_ok : SysOk Try.prog 3 saleroomlaw36_RevealedExact_S := sys_ok (c := (cg [] [] [] false false false true)) (progOkG _ _ _ _ _ _ _ _) Try.func3 Try.call3 (by kernel_rfl) saleroomlaw36_RevealedExact_pats saleroomlaw36_RevealedExact_S 5000 rfl (by kernel_rfl) (by kernel_rfl) rfl
def saleroomlaw37_ActivityStraight_s : PT :=
 (.call 22 [(.agg [(.va 0), (.va 1), (.va 2), (.va 3)])] [] [(.one .bool)]
 (.ite (.not (.a 0))
  (.call 24 [] [] [(.one .bool)]
  (.ret false (.bool (.a 1)) []))
  (.need (.is 0 1)
  (.ite (.eq (.slen 1) (.l 0))
   (.call 24 [] [] [(.one .bool)]
   (.ret false (.bool (.a 1)) []))
   (.need (.is 0 4)
   (.ite (.lt (.l 20) (.slen 4))
    (.call 24 [] [] [(.one .bool)]
    (.ret false (.bool (.a 1)) []))
    (.need (.is 0 5)
    (.ite (.lt (.l 30) (.slen 5))
     (.call 24 [] [] [(.one .bool)]
     (.ret false (.bool (.a 1)) []))
     (.call 33 [(.va 0)] [] [(.one (.int .i64))]
     (.ite (.not (.eq (.a 0) (.l 0)))
      (.call 24 [] [] [(.one .bool)]
      (.ret false (.bool (.a 1)) []))
      (.jump 0 [(.l 0), (.l 0), (.l 0)] [] [(.va 4), (.va 5), .nilS, (.va 0), (.va 1), (.va 2), (.va 3)])))))))))))
def saleroomlaw37_ActivityStraight_t0_b1 : PT :=
 (.call 34 [(.va 0), (.agg [(.int .i64 (.mx (.a 1) (.a 5))), (.int .i64 (.mx (.a 2) (.a 8))), (.int .i64 (.l 0)), (.int .i64 (.l 0)), (.int .i64 (.l 0)), (.int .i64 (.l 0))])] [] [(.agg [(.int .i64), (.int .i64), (.int .i64), (.int .i64), (.int .i64), (.int .i64)])]
         (.jump 1 [(.a 0), (.a 7), (.mx (.a 1) (.a 5)), (.mx (.a 2) (.a 8)), (.a 9), (.a 10), (.a 11), (.a 12), (.a 13), (.a 14)] [(.lt (.l 1000) (.a 7))] [(.va 0), (.va 1), (.va 2), (.va 3), (.va 4), (.va 5), (.va 6)]))
def saleroomlaw37_ActivityStraight_t0_b2 : PT :=
 (.load false (.ea 1 (.a 0) 6 1) [(.int .i64)]
        (.both saleroomlaw37_ActivityStraight_t0_b1 saleroomlaw37_ActivityStraight_t0_b1))
def saleroomlaw37_ActivityStraight_t0_b3 : PT :=
 (.load false (.ea 1 (.a 0) 6 0) [(.int .i64)]
     (.need (.and (.le (.l 0) (.a 0)) (.lt (.a 0) (.slen 1)))
     (.load false (.ea 1 (.a 0) 6 1) [(.int .i64)]
     (.ite (.lt (.a 6) (.l 0))
      (.call 24 [] [] [(.one .bool)]
      (.ret false (.bool (.a 0)) []))
      (.need (.and (.le (.l 0) (.a 0)) (.lt (.a 0) (.slen 1)))
      (.load false (.ea 1 (.a 0) 6 1) [(.int .i64)]
      (.ite (.lt (.l 1000) (.a 7))
       (.call 24 [] [] [(.one .bool)]
       (.ret false (.bool (.a 0)) []))
       (.need (.and (.le (.l 0) (.a 0)) (.lt (.a 0) (.slen 1)))
       (.both saleroomlaw37_ActivityStraight_t0_b2 saleroomlaw37_ActivityStraight_t0_b2)))))))))
def saleroomlaw37_ActivityStraight_t0 : PT :=
 (.need (.is 0 1)
 (.ite (.lt (.a 0) (.slen 1))
  (.need (.and (.le (.l 0) (.a 0)) (.lt (.a 0) (.slen 1)))
  (.load false (.ea 1 (.a 0) 6 0) [(.int .i64)]
  (.ite (.lt (.a 3) (.l 0))
   (.call 24 [] [] [(.one .bool)]
   (.ret false (.bool (.a 0)) []))
   (.need (.and (.le (.l 0) (.a 0)) (.lt (.a 0) (.slen 1)))
   (.load false (.ea 1 (.a 0) 6 0) [(.int .i64)]
   (.ite (.lt (.l 1000) (.a 4))
    (.call 24 [] [] [(.one .bool)]
    (.ret false (.bool (.a 0)) []))
    (.need (.and (.le (.l 0) (.a 0)) (.lt (.a 0) (.slen 1)))
    (.both saleroomlaw37_ActivityStraight_t0_b3 saleroomlaw37_ActivityStraight_t0_b3))))))))
  (.call 24 [] [] [(.one .bool)]
  (.ret false (.bool (.a 0)) []))))
def saleroomlaw37_ActivityStraight_t1 : PT :=
 (.call 25 [(.agg [(.va 3), (.va 4), (.va 5), (.va 6)]), (.int .i64 (.l 2)), (.int .i64 (.l 0)), (.va 2), (.agg [(.int .i64 (.a 2)), (.int .i64 (.a 3)), (.int .i64 (.l 0)), (.int .i64 (.l 0)), (.int .i64 (.l 0)), (.int .i64 (.l 0)), (.int .i64 (.a 4)), (.int .i64 (.a 5)), (.int .i64 (.a 6)), (.int .i64 (.a 7)), (.int .i64 (.a 8)), (.int .i64 (.a 9))])] [] [(.one (.int .i64))]
 (.ite (.not (.eq (.a 10) (.l 0)))
  (.ret false (.bool (.t false)) [])
  (.call 25 [(.agg [(.va 3), (.va 4), (.va 5), (.va 6)]), (.int .i64 (.l 3)), (.int .i64 (.l 0)), (.va 2), (.agg [(.int .i64 (.a 2)), (.int .i64 (.a 3)), (.int .i64 (.l 0)), (.int .i64 (.l 0)), (.int .i64 (.l 0)), (.int .i64 (.l 0)), (.int .i64 (.a 4)), (.int .i64 (.a 5)), (.int .i64 (.a 6)), (.int .i64 (.a 7)), (.int .i64 (.a 8)), (.int .i64 (.a 9))])] [] [(.one (.int .i64))]
  (.ite (.not (.eq (.a 11) (.l 0)))
   (.ret false (.bool (.t false)) [])
   (.app none (.lit [[(.int .i64 (.a 2)), (.int .i64 (.a 3)), (.int .i64 (.l 0)), (.int .i64 (.l 0)), (.int .i64 (.l 0)), (.int .i64 (.l 0)), (.int .i64 (.a 4)), (.int .i64 (.a 5)), (.int .i64 (.a 6)), (.int .i64 (.a 7)), (.int .i64 (.a 8)), (.int .i64 (.a 9))]]) 12
   (.appM (.va 2) (.va 7) 12 44
   (.need (.and (.le (.l (-9223372036854775808)) (.add (.a 0) (.l 1))) (.le (.add (.a 0) (.l 1)) (.l 9223372036854775807)))
   (.jump 0 [(.add (.a 0) (.l 1)), (.a 2), (.a 3)] [] [(.va 0), (.va 1), (.va 8), (.va 3), (.va 4), (.va 5), (.va 6)]))))))))
def saleroomlaw37_ActivityStraight_S : Sx.Sys := ⟨[(.sh (.agg [.val, .val, .val, .val])), (.sh (.one .val)), (.sh (.one .val))], saleroomlaw37_ActivityStraight_s, [saleroomlaw37_ActivityStraight_t0, saleroomlaw37_ActivityStraight_t1], none⟩
def saleroomlaw37_ActivityStraight_pats : List Cfg := [{ todo := [(.code [false, false, true, false, true, true, true, true]), (.inLoop [false, false, true, false, true, true, true, true]), (.inBlock 0), (.code [true, true, true, true, true])], sl := [(.junk 0), (.va 0), (.va 1), (.ptr 0 0), .undef, .undef, (.junk 1), (.va 2), (.ptr 1 0), (.int .i64 (.a 0)), (.junk 2), (.junk 3), (.junk 4), (.junk 5), (.junk 6), (.junk 7), (.junk 8), (.junk 9), (.junk 10), (.junk 11), (.junk 12), (.junk 13), (.junk 14), (.junk 15), (.junk 16), (.junk 17), (.junk 18), (.junk 19), (.junk 20), (.junk 21), (.junk 22), (.junk 23), (.junk 24), (.junk 25), (.junk 26), (.junk 27), (.junk 28), .undef, (.junk 29), (.junk 30), (.junk 31), (.junk 32), (.junk 33), (.junk 34), (.junk 35), (.junk 36), (.junk 37), (.junk 38), (.junk 39), (.junk 40), (.junk 41), (.junk 42), (.junk 43), (.junk 44), (.junk 45), (.junk 46), (.junk 47), (.junk 48), (.junk 49), (.junk 50), (.junk 51), (.junk 52), (.junk 53), (.junk 54), .undef, (.junk 55), (.junk 56), (.junk 57), (.junk 58), (.junk 59), (.junk 60), (.junk 61), (.junk 62), (.junk 63), (.junk 64), (.junk 65), (.junk 66), (.junk 67), (.junk 68), (.junk 69), (.junk 70), (.junk 71), (.junk 72), (.junk 73), (.junk 74), (.junk 75), (.junk 76), (.junk 77), (.junk 78), (.junk 79), (.junk 80), (.junk 81), (.junk 82), (.junk 83), (.junk 84), (.junk 85), (.junk 86), (.junk 87), .undef], H := [(.cells [(.va 3), (.va 4), (.va 5), (.va 6)] 53 false), (.cells [(.int .i64 (.a 1)), (.int .i64 (.a 2)), (.int .i64 (.l 0)), (.int .i64 (.l 0)), (.int .i64 (.l 0)), (.int .i64 (.l 0))] 40 false)], ni := 3, nb := 0, nv := 7, nj := 88 },
 { todo := [(.code [false, true, true, false, false, true, false, false, true, false, true, true, true, true]), (.code [true, true, true, false, false, true, false, false, true, false, true, true, true, true]), (.inBlock 1), (.code [true, true, false, false, true, false, true, true, true, true]), (.inLoop [false, false, true, false, true, true, true, true]), (.inBlock 0), (.code [true, true, true, true, true])], sl := [(.junk 0), (.va 0), (.va 1), (.ptr 0 0), .undef, .undef, (.junk 1), (.va 2), (.ptr 1 0), (.int .i64 (.a 0)), (.junk 2), (.ptr 2 0), (.junk 3), (.junk 4), (.junk 5), (.junk 6), (.junk 7), (.junk 8), (.junk 9), (.junk 10), (.junk 11), (.junk 12), (.junk 13), (.junk 14), (.junk 15), (.junk 16), (.junk 17), (.junk 18), (.junk 19), (.junk 20), (.junk 21), (.junk 22), (.junk 23), (.junk 24), (.junk 25), (.junk 26), (.junk 27), .undef, (.junk 28), (.junk 29), (.junk 30), (.junk 31), (.junk 32), (.junk 33), (.junk 34), (.junk 35), (.junk 36), (.junk 37), (.junk 38), (.junk 39), (.junk 40), (.junk 41), (.junk 42), (.junk 43), (.junk 44), (.junk 45), (.va 1), (.int .i64 (.a 0)), (.int .i64 (.l 1)), (.ea 1 (.a 0) 6 0), (.ea 1 (.a 0) 6 1), (.int .i64 (.a 1)), (.bool (.a 0)), (.junk 46), .undef, (.junk 47), (.junk 48), (.junk 49), (.junk 50), (.junk 51), (.junk 52), (.junk 53), (.junk 54), (.junk 55), (.junk 56), (.junk 57), (.junk 58), (.junk 59), (.junk 60), (.junk 61), (.junk 62), (.junk 63), (.junk 64), (.junk 65), (.junk 66), (.junk 67), (.junk 68), (.junk 69), (.junk 70), (.junk 71), (.junk 72), (.junk 73), (.junk 74), (.junk 75), (.junk 76), (.junk 77), (.junk 78), (.junk 79), .undef], H := [(.cells [(.va 3), (.va 4), (.va 5), (.va 6)] 53 false), (.cells [(.int .i64 (.a 2)), (.int .i64 (.a 3)), (.int .i64 (.l 0)), (.int .i64 (.l 0)), (.int .i64 (.l 0)), (.int .i64 (.l 0))] 40 false), (.cells [(.int .i64 (.a 2)), (.int .i64 (.a 3)), (.int .i64 (.l 0)), (.int .i64 (.l 0)), (.int .i64 (.l 0)), (.int .i64 (.l 0)), (.int .i64 (.a 4)), (.int .i64 (.a 5)), (.int .i64 (.a 6)), (.int .i64 (.a 7)), (.int .i64 (.a 8)), (.int .i64 (.a 9))] 44 false)], ni := 10, nb := 1, nv := 7, nj := 80 }]
theorem saleroomlaw37_ActivityStraight_ok : SysOk Try.prog 11 saleroomlaw37_ActivityStraight_S := sys_ok (c := (cg [[false, false, true, false, true, true, true, true]] [] [] true false true true [[true, true, false, false, true, false, false, true, false, true, true, true, true]])) (progOkG _ _ _ _ _ _ _ _) Try.func11 Try.call11 (by kernel_rfl) saleroomlaw37_ActivityStraight_pats saleroomlaw37_ActivityStraight_S 5000 rfl (by kernel_rfl) (by kernel_rfl) rfl
def revealed_Verify_s : PT :=
 (.call 39 [(.va 0)] [] [(.one .bool)]
 (.ite (.not (.a 0))
  (.ret false (.int .i64 (.l 4)) [])
  (.call 46 [(.va 0), (.agg [(.va 1), (.va 2)])] [] [(.one .bool)]
  (.ite (.not (.a 1))
   (.ret false (.int .i64 (.l 2)) [])
   (.need (.is 0 1)
   (.ite (.eq (.slen 1) (.l 0))
    (.call 47 [(.va 0), (.va 2)] [] [(.one .bool)]
    (.ite (.not (.a 2))
     (.ret false (.int .i64 (.l 13)) [])
     (.ret false (.int .i64 (.l 0)) [])))
    (.need (.is 0 1)
    (.jump 0 [(.l 0), (.slen 1), (.l 0)] [] [(.va 0), (.va 1), (.va 2)]))))))))
def revealed_Verify_t0 : PT :=
 (.ite (.lt (.a 2) (.a 1))
  (.need (.and (.le (.l 0) (.a 2)) (.lt (.a 2) (.slen 1)))
  (.load false (.ea 1 (.a 2) 1 0) [(.int .i64)]
  (.need (.and (.le (.l 0) (.a 3)) (.lt (.a 3) (.slen 0)))
  (.need (.and (.le (.l (-9223372036854775808)) (.add (.a 2) (.l 1))) (.le (.add (.a 2) (.l 1)) (.l 9223372036854775807)))
  (.need (.is 0 1)
  (.need (.not (.eq (.slen 1) (.l 0)))
  (.need (.and (.le (.l 0) (.tmod (.add (.a 2) (.l 1)) (.slen 1))) (.lt (.tmod (.add (.a 2) (.l 1)) (.slen 1)) (.slen 1)))
  (.load true (.ea 0 (.a 3) 12 0) [(.int .i64), (.int .i64), (.int .i64), (.int .i64), (.int .i64), (.int .i64), (.int .i64), (.int .i64), (.int .i64), (.int .i64), (.int .i64), (.int .i64)]
  (.load true (.ea 1 (.tmod (.add (.a 2) (.l 1)) (.slen 1)) 1 0) [(.int .i64)]
  (.need (.and (.le (.l 0) (.a 16)) (.lt (.a 16) (.slen 0)))
  (.load true (.ea 0 (.a 16) 12 0) [(.int .i64), (.int .i64), (.int .i64), (.int .i64), (.int .i64), (.int .i64), (.int .i64), (.int .i64), (.int .i64), (.int .i64), (.int .i64), (.int .i64)]
  (.call 48 [(.agg [(.int .i64 (.a 4)), (.int .i64 (.a 5)), (.int .i64 (.a 6)), (.int .i64 (.a 7)), (.int .i64 (.a 8)), (.int .i64 (.a 9)), (.int .i64 (.a 10)), (.int .i64 (.a 11)), (.int .i64 (.a 12)), (.int .i64 (.a 13)), (.int .i64 (.a 14)), (.int .i64 (.a 15))]), (.agg [(.int .i64 (.a 17)), (.int .i64 (.a 18)), (.int .i64 (.a 19)), (.int .i64 (.a 20)), (.int .i64 (.a 21)), (.int .i64 (.a 22)), (.int .i64 (.a 23)), (.int .i64 (.a 24)), (.int .i64 (.a 25)), (.int .i64 (.a 26)), (.int .i64 (.a 27)), (.int .i64 (.a 28))])] [] [(.one (.int .i64))]
  (.need (.and (.le (.l (-9223372036854775808)) (.add (.a 0) (.a 29))) (.le (.add (.a 0) (.a 29)) (.l 9223372036854775807)))
  (.need (.and (.le (.l (-9223372036854775808)) (.add (.a 2) (.l 1))) (.le (.add (.a 2) (.l 1)) (.l 9223372036854775807)))
  (.jump 0 [(.add (.a 0) (.a 29)), (.a 1), (.add (.a 2) (.l 1))] [] [(.va 0), (.va 1), (.va 2)])))))))))))))))
  (.ite (.le (.l 0) (.a 0))
   (.ret false (.int .i64 (.l 13)) [])
   (.ret false (.int .i64 (.l 0)) [])))
def revealed_Verify_S : Sx.Sys := ⟨[(.sh (.one .val)), (.sh (.agg [.val, .val]))], revealed_Verify_s, [revealed_Verify_t0], none⟩
def revealed_Verify_pats : List Cfg := [{ todo := [(.code [false, false, true, false, true, true, true, true, true]), (.inLoop [false, false, true, false, true, true, true, true, true]), (.inBlock 0), (.code [true, true, true, true, true, true])], sl := [(.va 0), (.junk 0), .undef, (.ptr 0 0), (.junk 1), (.int .i64 (.a 0)), (.junk 2), (.junk 3), (.junk 4), (.junk 5), (.junk 6), (.junk 7), (.junk 8), (.junk 9), (.junk 10), (.junk 11), (.junk 12), (.junk 13), (.junk 14), .undef, .undef, .undef, .undef, .undef, (.junk 15), (.va 1), (.int .i64 (.a 1)), (.int .i64 (.a 2)), (.junk 16), (.junk 17), (.junk 18), (.junk 19), (.junk 20), (.junk 21), (.junk 22), (.junk 23), (.junk 24), (.junk 25), (.junk 26), (.junk 27), (.junk 28), (.junk 29), (.junk 30), (.junk 31), (.junk 32), (.junk 33), (.junk 34), (.junk 35), (.junk 36), (.junk 37), (.junk 38), (.junk 39), (.junk 40), .undef, .undef], H := [(.cells [(.va 1), (.va 2)] 27 false)], ni := 3, nb := 0, nv := 3, nj := 41 }]
theorem revealed_Verify_ok : SysOk Try.prog 19 revealed_Verify_S := sys_ok (c := (cg [[false, false, true, false, true, true, true, true, true]] [] [] false false false true)) (progOkG _ _ _ _ _ _ _ _) Try.func19 Try.call19 (by kernel_rfl) revealed_Verify_pats revealed_Verify_S 5000 rfl (by kernel_rfl) (by kernel_rfl) rfl
def activity_Eligibility_s : PT :=
 (.call 54 [(.agg [(.va 0), (.va 1), (.va 2), (.va 3)]), (.int .i64 (.a 0))] [] [(.one .bool)]
 (.ite (.not (.a 0))
  (.ret false (.int .i64 (.l 0)) [])
  (.need (.and (.le (.l 0) (.a 0)) (.lt (.a 0) (.slen 1)))
  (.load true (.ea 1 (.a 0) 4 3) [(.int .i64)]
  (.need (.is 0 4)
  (.jump 0 [(.a 0), (.a 1), (.slen 4), (.l 0)] [] [(.va 0), (.va 1), (.va 2), (.va 3), (.va 4)]))))))
def activity_Eligibility_t0 : PT :=
 (.ite (.lt (.a 3) (.a 2))
  (.need (.and (.le (.l 0) (.a 3)) (.lt (.a 3) (.slen 4)))
  (.load false (.ea 4 (.a 3) 12 0) [(.int .i64), (.int .i64), (.int .i64), (.int .i64), (.int .i64), (.int .i64), (.int .i64), (.int .i64), (.int .i64), (.int .i64), (.int .i64), (.int .i64)]
  (.call 59 [(.agg [(.va 0), (.va 1), (.va 2), (.va 3), (.int .i64 (.a 0)), (.va 4)]), (.agg [(.int .i64 (.a 4)), (.int .i64 (.a 5)), (.int .i64 (.a 6)), (.int .i64 (.a 7)), (.int .i64 (.a 8)), (.int .i64 (.a 9)), (.int .i64 (.a 10)), (.int .i64 (.a 11)), (.int .i64 (.a 12)), (.int .i64 (.a 13)), (.int .i64 (.a 14)), (.int .i64 (.a 15))])] [] [(.one (.int .i64))]
  (.need (.and (.le (.l (-9223372036854775808)) (.add (.a 3) (.l 1))) (.le (.add (.a 3) (.l 1)) (.l 9223372036854775807)))
  (.jump 0 [(.a 0), (.mn (.a 1) (.a 16)), (.a 2), (.add (.a 3) (.l 1))] [] [(.va 0), (.va 1), (.va 2), (.va 3), (.va 4)])))))
  (.ret false (.int .i64 (.a 1)) []))
def activity_Eligibility_S : Sx.Sys := ⟨[(.sh (.agg [.val, .val, .val, .val])), (.sh (.one (.int .i64))), (.sh (.one .val))], activity_Eligibility_s, [activity_Eligibility_t0], none⟩
def activity_Eligibility_pats : List Cfg := [{ todo := [(.code [false, false, true, false, true, true, true]), (.inLoop [false, false, true, false, true, true, true]), (.inBlock 0), (.code [true, true, true, true])], sl := [(.junk 0), (.junk 1), (.junk 2), (.junk 3), .undef, .undef, (.junk 4), (.fn 59 1 [(.agg [(.va 0), (.va 1), (.va 2), (.va 3), (.int .i64 (.a 0)), (.va 4)])]), (.int .i64 (.a 1)), .undef, (.junk 5), (.junk 6), (.junk 7), (.junk 8), (.junk 9), (.junk 10), (.junk 11), (.junk 12), (.junk 13), (.junk 14), (.junk 15), (.junk 16), (.junk 17), (.junk 18), (.junk 19), (.junk 20), (.va 4), (.int .i64 (.a 2)), (.int .i64 (.a 3)), (.junk 21), (.junk 22), (.junk 23), (.junk 24), (.junk 25), (.junk 26), (.junk 27), (.junk 28), (.junk 29), .undef], H := [], ni := 4, nb := 0, nv := 5, nj := 30 }]
theorem activity_Eligibility_ok : SysOk Try.prog 27 activity_Eligibility_S := sys_ok (c := (cg [[false, false, true, false, true, true, true]] [] [(33, [3])] false false false true)) (progOkG _ _ _ _ _ _ _ _) Try.func27 Try.call27 (by kernel_rfl) activity_Eligibility_pats activity_Eligibility_S 5000 rfl (by kernel_rfl) (by kernel_rfl) rfl
def saleroomref07_Check_s : PT :=
 (.ite (.lt (.a 0) (.l 0))
  (.ret false (.int .i64 (.l 4)) [])
  (.ite (.lt (.l 4) (.a 0))
   (.ret false (.int .i64 (.l 4)) [])
   (.ite (.lt (.a 1) (.l 0))
    (.ret false (.int .i64 (.l 4)) [])
    (.ite (.lt (.l 4) (.a 1))
     (.ret false (.int .i64 (.l 4)) [])
     (.ite (.lt (.a 2) (.l 0))
      (.ret false (.int .i64 (.l 4)) [])
      (.ite (.lt (.l 4) (.a 2))
       (.ret false (.int .i64 (.l 4)) [])
       (.ite (.lt (.a 3) (.l 0))
        (.ret false (.int .i64 (.l 4)) [])
        (.ite (.lt (.l 4) (.a 3))
         (.ret false (.int .i64 (.l 4)) [])
         (.ite (.lt (.a 4) (.l 0))
          (.ret false (.int .i64 (.l 4)) [])
          (.ite (.lt (.l 4) (.a 4))
           (.ret false (.int .i64 (.l 4)) [])
           (.ite (.lt (.a 5) (.l 0))
            (.ret false (.int .i64 (.l 4)) [])
            (.ite (.lt (.l 4) (.a 5))
             (.ret false (.int .i64 (.l 4)) [])
             (.ret false (.int .i64 (.l 0)) [])))))))))))))
def saleroomref07_Check_S : Sx.Sys := ⟨[(.sh (.agg [(.int .i64), (.int .i64), (.int .i64), (.int .i64), (.int .i64), (.int .i64)]))], saleroomref07_Check_s, [], none⟩
def saleroomref07_Check_pats : List Cfg := []
theorem saleroomref07_Check_ok : SysOk Try.prog 35 saleroomref07_Check_S := sys_ok (c := (cg [] [] [] false false false true)) (progOkG _ _ _ _ _ _ _ _) Try.func35 Try.call35 (by kernel_rfl) saleroomref07_Check_pats saleroomref07_Check_S 5000 rfl (by kernel_rfl) (by kernel_rfl) rfl
def saleroomref36_Cost_s : PT :=
 (.call 64 [(.agg [(.int .i64 (.a 0)), (.int .i64 (.a 1)), (.int .i64 (.a 2)), (.int .i64 (.a 3)), (.int .i64 (.a 4)), (.int .i64 (.a 5))]), (.agg [(.int .i64 (.a 12)), (.int .i64 (.a 13)), (.int .i64 (.a 14)), (.int .i64 (.a 15)), (.int .i64 (.a 16)), (.int .i64 (.a 17))])] [] [(.one (.int .i64))]
 (.ret false (.int .i64 (.a 18)) []))
def saleroomref36_Cost_S : Sx.Sys := ⟨[(.sh (.agg [(.int .i64), (.int .i64), (.int .i64), (.int .i64), (.int .i64), (.int .i64), (.int .i64), (.int .i64), (.int .i64), (.int .i64), (.int .i64), (.int .i64)])), (.sh (.agg [(.int .i64), (.int .i64), (.int .i64), (.int .i64), (.int .i64), (.int .i64)]))], saleroomref36_Cost_s, [], none⟩
def saleroomref36_Cost_pats : List Cfg := []
theorem saleroomref36_Cost_ok : SysOk Try.prog 43 saleroomref36_Cost_S := sys_ok (c := (cg [] [] [] false false false true)) (progOkG _ _ _ _ _ _ _ _) Try.func43 Try.call43 (by kernel_rfl) saleroomref36_Cost_pats saleroomref36_Cost_S 5000 rfl (by kernel_rfl) (by kernel_rfl) rfl
def activity_history_fits_s : PT :=
 (.call 59 [(.agg [(.va 0), (.va 1), (.va 2), (.va 3), (.int .i64 (.a 0)), (.va 4)]), (.agg [(.int .i64 (.a 1)), (.int .i64 (.a 2)), (.int .i64 (.a 3)), (.int .i64 (.a 4)), (.int .i64 (.a 5)), (.int .i64 (.a 6)), (.int .i64 (.a 7)), (.int .i64 (.a 8)), (.int .i64 (.a 9)), (.int .i64 (.a 10)), (.int .i64 (.a 11)), (.int .i64 (.a 12))])] [] [(.one (.int .i64))]
 (.call 27 [(.agg [(.va 0), (.va 1), (.va 2), (.va 3)]), (.int .i64 (.a 0)), (.va 4)] [] [(.one (.int .i64))]
 (.ret false (.bool (.le (.a 13) (.a 14))) [])))
def activity_history_fits_S : Sx.Sys := ⟨[(.sh (.agg [.val, .val, .val, .val, (.int .i64), .val])), (.sh (.agg [(.int .i64), (.int .i64), (.int .i64), (.int .i64), (.int .i64), (.int .i64), (.int .i64), (.int .i64), (.int .i64), (.int .i64), (.int .i64), (.int .i64)]))], activity_history_fits_s, [], none⟩
def activity_history_fits_pats : List Cfg := []
theorem activity_history_fits_ok : SysOk Try.prog 51 activity_history_fits_S := sys_ok (c := (cg [] [] [] false false false true)) (progOkG _ _ _ _ _ _ _ _) Try.func51 Try.call51 (by kernel_rfl) activity_history_fits_pats activity_history_fits_S 5000 rfl (by kernel_rfl) (by kernel_rfl) rfl
def activity_history_points_s : PT :=
 (.call 67 [(.va 0), (.agg [(.int .i64 (.a 7)), (.int .i64 (.a 8)), (.int .i64 (.a 9)), (.int .i64 (.a 10)), (.int .i64 (.a 11)), (.int .i64 (.a 12))])] [] [(.one (.int .i64))]
 (.ret false (.int .i64 (.a 13)) []))
def activity_history_points_S : Sx.Sys := ⟨[(.sh (.agg [.val, .val, .val, .val, (.int .i64), .val])), (.sh (.agg [(.int .i64), (.int .i64), (.int .i64), (.int .i64), (.int .i64), (.int .i64), (.int .i64), (.int .i64), (.int .i64), (.int .i64), (.int .i64), (.int .i64)]))], activity_history_points_s, [], none⟩
def activity_history_points_pats : List Cfg := []
theorem activity_history_points_ok : SysOk Try.prog 59 activity_history_points_S := sys_ok (c := (cg [] [] [] false false false true)) (progOkG _ _ _ _ _ _ _ _) Try.func59 Try.call59 (by kernel_rfl) activity_history_points_pats activity_history_points_S 5000 rfl (by kernel_rfl) (by kernel_rfl) rfl
def demandset_valid_s : PT :=
 (.ite (.lt (.a 0) (.l 0))
  (.ret false (.bool (.t false)) [])
  (.ite (.lt (.l 1000000) (.a 0))
   (.ret false (.bool (.t false)) [])
   (.ite (.lt (.a 1) (.l 0))
    (.ret false (.bool (.t false)) [])
    (.ite (.lt (.l 1000000) (.a 1))
     (.ret false (.bool (.t false)) [])
     (.ite (.lt (.a 2) (.l 0))
      (.ret false (.bool (.t false)) [])
      (.ite (.lt (.l 1000000) (.a 2))
       (.ret false (.bool (.t false)) [])
       (.ite (.lt (.a 3) (.l 0))
        (.ret false (.bool (.t false)) [])
        (.ite (.lt (.l 1000000) (.a 3))
         (.ret false (.bool (.t false)) [])
         (.ite (.lt (.a 4) (.l 0))
          (.ret false (.bool (.t false)) [])
          (.ite (.lt (.l 1000000) (.a 4))
           (.ret false (.bool (.t false)) [])
           (.ite (.lt (.a 5) (.l 0))
            (.ret false (.bool (.t false)) [])
            (.ite (.lt (.l 1000000) (.a 5))
             (.ret false (.bool (.t false)) [])
             (.ret false (.bool (.t true)) [])))))))))))))
def demandset_valid_S : Sx.Sys := ⟨[(.sh (.agg [(.int .i64), (.int .i64), (.int .i64), (.int .i64), (.int .i64), (.int .i64)]))], demandset_valid_s, [], none⟩
def demandset_valid_pats : List Cfg := []
theorem demandset_valid_ok : SysOk Try.prog 68 demandset_valid_S := sys_ok (c := (cg [] [] [] false false false true)) (progOkG _ _ _ _ _ _ _ _) Try.func68 Try.call68 (by kernel_rfl) demandset_valid_pats demandset_valid_S 5000 rfl (by kernel_rfl) (by kernel_rfl) rfl
def bundle_Count_s : PT :=
 (.call 55 [(.agg [(.int .i64 (.a 0)), (.int .i64 (.a 1)), (.int .i64 (.a 2)), (.int .i64 (.a 3)), (.int .i64 (.a 4)), (.int .i64 (.a 5))])] [] [(.one (.int .i64))]
 (.ite (.not (.eq (.a 6) (.l 0)))
  (.ret false (.int .i64 (.l 0)) [])
  (.need (.and (.le (.l (-9223372036854775808)) (.add (.a 0) (.l 1))) (.le (.add (.a 0) (.l 1)) (.l 9223372036854775807)))
  (.need (.and (.le (.l (-9223372036854775808)) (.mul (.l 1) (.add (.a 0) (.l 1)))) (.le (.mul (.l 1) (.add (.a 0) (.l 1))) (.l 9223372036854775807)))
  (.need (.and (.le (.l (-9223372036854775808)) (.add (.a 1) (.l 1))) (.le (.add (.a 1) (.l 1)) (.l 9223372036854775807)))
  (.need (.and (.le (.l (-9223372036854775808)) (.mul (.mul (.l 1) (.add (.a 0) (.l 1))) (.add (.a 1) (.l 1)))) (.le (.mul (.mul (.l 1) (.add (.a 0) (.l 1))) (.add (.a 1) (.l 1))) (.l 9223372036854775807)))
  (.need (.and (.le (.l (-9223372036854775808)) (.add (.a 2) (.l 1))) (.le (.add (.a 2) (.l 1)) (.l 9223372036854775807)))
  (.need (.and (.le (.l (-9223372036854775808)) (.mul (.mul (.mul (.l 1) (.add (.a 0) (.l 1))) (.add (.a 1) (.l 1))) (.add (.a 2) (.l 1)))) (.le (.mul (.mul (.mul (.l 1) (.add (.a 0) (.l 1))) (.add (.a 1) (.l 1))) (.add (.a 2) (.l 1))) (.l 9223372036854775807)))
  (.need (.and (.le (.l (-9223372036854775808)) (.add (.a 3) (.l 1))) (.le (.add (.a 3) (.l 1)) (.l 9223372036854775807)))
  (.need (.and (.le (.l (-9223372036854775808)) (.mul (.mul (.mul (.mul (.l 1) (.add (.a 0) (.l 1))) (.add (.a 1) (.l 1))) (.add (.a 2) (.l 1))) (.add (.a 3) (.l 1)))) (.le (.mul (.mul (.mul (.mul (.l 1) (.add (.a 0) (.l 1))) (.add (.a 1) (.l 1))) (.add (.a 2) (.l 1))) (.add (.a 3) (.l 1))) (.l 9223372036854775807)))
  (.need (.and (.le (.l (-9223372036854775808)) (.add (.a 4) (.l 1))) (.le (.add (.a 4) (.l 1)) (.l 9223372036854775807)))
  (.need (.and (.le (.l (-9223372036854775808)) (.mul (.mul (.mul (.mul (.mul (.l 1) (.add (.a 0) (.l 1))) (.add (.a 1) (.l 1))) (.add (.a 2) (.l 1))) (.add (.a 3) (.l 1))) (.add (.a 4) (.l 1)))) (.le (.mul (.mul (.mul (.mul (.mul (.l 1) (.add (.a 0) (.l 1))) (.add (.a 1) (.l 1))) (.add (.a 2) (.l 1))) (.add (.a 3) (.l 1))) (.add (.a 4) (.l 1))) (.l 9223372036854775807)))
  (.need (.and (.le (.l (-9223372036854775808)) (.add (.a 5) (.l 1))) (.le (.add (.a 5) (.l 1)) (.l 9223372036854775807)))
  (.need (.and (.le (.l (-9223372036854775808)) (.mul (.mul (.mul (.mul (.mul (.mul (.l 1) (.add (.a 0) (.l 1))) (.add (.a 1) (.l 1))) (.add (.a 2) (.l 1))) (.add (.a 3) (.l 1))) (.add (.a 4) (.l 1))) (.add (.a 5) (.l 1)))) (.le (.mul (.mul (.mul (.mul (.mul (.mul (.l 1) (.add (.a 0) (.l 1))) (.add (.a 1) (.l 1))) (.add (.a 2) (.l 1))) (.add (.a 3) (.l 1))) (.add (.a 4) (.l 1))) (.add (.a 5) (.l 1))) (.l 9223372036854775807)))
  (.ite (.lt (.l 1024) (.mul (.mul (.mul (.mul (.mul (.mul (.l 1) (.add (.a 0) (.l 1))) (.add (.a 1) (.l 1))) (.add (.a 2) (.l 1))) (.add (.a 3) (.l 1))) (.add (.a 4) (.l 1))) (.add (.a 5) (.l 1))))
   (.ret false (.int .i64 (.l 0)) [])
   (.ret false (.int .i64 (.mul (.mul (.mul (.mul (.mul (.mul (.l 1) (.add (.a 0) (.l 1))) (.add (.a 1) (.l 1))) (.add (.a 2) (.l 1))) (.add (.a 3) (.l 1))) (.add (.a 4) (.l 1))) (.add (.a 5) (.l 1)))) []))))))))))))))))
def bundle_Count_S : Sx.Sys := ⟨[(.sh (.agg [(.int .i64), (.int .i64), (.int .i64), (.int .i64), (.int .i64), (.int .i64)]))], bundle_Count_s, [], none⟩
def bundle_Count_pats : List Cfg := []
theorem bundle_Count_ok : SysOk Try.prog 76 bundle_Count_S := sys_ok (c := (cg [] [] [] false false false true)) (progOkG _ _ _ _ _ _ _ _) Try.func76 Try.call76 (by kernel_rfl) bundle_Count_pats bundle_Count_S 5000 rfl (by kernel_rfl) (by kernel_rfl) rfl
def catalog_Find_s : PT :=
 (.need (.is 0 0)
 (.jump 0 [(.slen 0), (.l 0)] [] [(.va 1), (.va 0)]))
def catalog_Find_t0 : PT :=
 (.ite (.lt (.a 1) (.a 0))
  (.need (.and (.le (.l 0) (.a 1)) (.lt (.a 1) (.slen 1)))
  (.load false (.ea 1 (.a 1) 5 0) [.val, (.int .i64), (.int .i64), (.int .i64), (.int .i64)]
  (.need (.is 3 2)
  (.need (.is 3 0)
  (.ite (.seq 2 0)
   (.ret false (.tup [(.int .i64 (.a 1)), (.bool (.t true))]) [])
   (.need (.and (.le (.l (-9223372036854775808)) (.add (.a 1) (.l 1))) (.le (.add (.a 1) (.l 1)) (.l 9223372036854775807)))
   (.jump 0 [(.a 0), (.add (.a 1) (.l 1))] [] [(.va 0), (.va 1)])))))))
  (.ret false (.tup [(.int .i64 (.l 0)), (.bool (.t false))]) []))
def catalog_Find_S : Sx.Sys := ⟨[(.sh (.one .val)), (.sh (.one .val))], catalog_Find_s, [catalog_Find_t0], none⟩
def catalog_Find_pats : List Cfg := [{ todo := [(.code [false, false, true, false, true]), (.inLoop [false, false, true, false, true]), (.inBlock 0), (.code [true, true])], sl := [(.junk 0), (.va 0), .undef, .undef, (.junk 1), (.junk 2), (.junk 3), (.junk 4), (.va 1), (.int .i64 (.a 0)), (.int .i64 (.a 1)), (.junk 5), (.junk 6), (.junk 7), (.junk 8), (.junk 9), (.junk 10), (.junk 11), (.junk 12), .undef, (.junk 13)], H := [], ni := 2, nb := 0, nv := 2, nj := 14 }]
theorem catalog_Find_ok : SysOk Try.prog 84 catalog_Find_S := sys_ok (c := (cg [[false, false, true, false, true]] [] [] false false false true)) (progOkG _ _ _ _ _ _ _ _) Try.func84 Try.call84 (by kernel_rfl) catalog_Find_pats catalog_Find_S 5000 rfl (by kernel_rfl) (by kernel_rfl) rfl
end Go.Proofs.Ythjahianafohjaa
set_option maxRecDepth 100000
namespace Go.Proofs.Ythjahianafohjaa
open Go.Sx
def saleroomlaw36_RevealedVerifies_s : PT :=
 (.need (.is 0 0)
 (.ite (.lt (.l 14) (.slen 0))
  (.call 14 [] [] [(.one .bool)]
  (.ret false (.bool (.a 0)) []))
  (.need (.is 0 1)
  (.ite (.lt (.l 1100) (.slen 1))
   (.call 14 [] [] [(.one .bool)]
   (.ret false (.bool (.a 0)) []))
   (.need (.is 0 2)
   (.ite (.lt (.l 40) (.slen 2))
    (.call 14 [] [] [(.one .bool)]
    (.ret false (.bool (.a 0)) []))
    (.call 19 [(.va 0), (.agg [(.va 1), (.va 2)])] [] [(.one (.int .i64))]
    (.call 18 [(.va 0), (.agg [(.va 1), (.va 2)])] [] [(.one (.int .i64))]
    (.ite (.eq (.a 0) (.a 1))
     (.call 14 [] [] [(.one .bool)]
     (.ret false (.bool (.a 0)) []))
     (.ret false (.bool (.t false)) []))))))))))
def saleroomlaw36_RevealedVerifies_S : Sx.Sys := ⟨[(.sh (.one .val)), (.sh (.agg [.val, .val]))], saleroomlaw36_RevealedVerifies_s, [], none⟩
def saleroomlaw36_RevealedVerifies_pats : List Cfg := []
theorem saleroomlaw36_RevealedVerifies_ok : SysOk Try.prog 4 saleroomlaw36_RevealedVerifies_S := sys_ok (c := (cg [] [] [] false false false true)) (progOkG _ _ _ _ _ _ _ _) Try.func4 Try.call4 (by kernel_rfl) saleroomlaw36_RevealedVerifies_pats saleroomlaw36_RevealedVerifies_S 5000 rfl (by kernel_rfl) (by kernel_rfl) rfl
def saleroomlaw37_ActivityLeaves_s : PT :=
 (.call 22 [(.agg [(.va 0), (.va 1), (.va 2), (.va 3)])] [] [(.one .bool)]
 (.ite (.not (.a 0))
  (.call 24 [] [] [(.one .bool)]
  (.ret false (.bool (.a 1)) []))
  (.need (.is 0 4)
  (.ite (.lt (.l 29) (.slen 4))
   (.call 24 [] [] [(.one .bool)]
   (.ret false (.bool (.a 1)) []))
   (.call 23 [(.va 4)] [] [(.one .bool)]
   (.ite (.not (.a 1))
    (.call 24 [] [] [(.one .bool)]
    (.ret false (.bool (.a 2)) []))
    (.app none (.lit [[(.int .i64 (.a 1)), (.int .i64 (.a 2)), (.int .i64 (.a 3)), (.int .i64 (.a 4)), (.int .i64 (.a 5)), (.int .i64 (.a 6)), (.int .i64 (.l 0)), (.int .i64 (.l 0)), (.int .i64 (.l 0)), (.int .i64 (.l 0)), (.int .i64 (.l 0)), (.int .i64 (.l 0))]]) 12
    (.call 23 [(.va 5)] [] [(.one .bool)]
    (.ite (.not (.a 2))
     (.call 24 [] [] [(.one .bool)]
     (.ret false (.bool (.a 3)) []))
     (.ite (.lt (.a 0) (.l 0))
      (.call 24 [] [] [(.one .bool)]
      (.ret false (.bool (.a 3)) []))
      (.need (.is 0 1)
      (.ite (.le (.slen 1) (.a 0))
       (.call 24 [] [] [(.one .bool)]
       (.ret false (.bool (.a 3)) []))
       (.need (.and (.le (.l 0) (.a 0)) (.lt (.a 0) (.slen 1)))
       (.load false (.ea 1 (.a 0) 4 3) [(.int .i64)]
       (.ite (.lt (.a 7) (.l 0))
        (.call 24 [] [] [(.one .bool)]
        (.ret false (.bool (.a 3)) []))
        (.call 35 [(.agg [(.int .i64 (.l 0)), (.int .i64 (.l 0)), (.int .i64 (.l 0)), (.int .i64 (.l 0)), (.int .i64 (.l 0)), (.int .i64 (.l 0))])] [] [(.one (.int .i64))]
        (.ite (.not (.eq (.a 8) (.l 0)))
         (.call 24 [] [] [(.one .bool)]
         (.ret false (.bool (.a 3)) []))
         (.call 25 [(.agg [(.va 0), (.va 1), (.va 2), (.va 3)]), (.int .i64 (.l 1)), (.int .i64 (.a 0)), (.va 4), (.agg [(.int .i64 (.a 1)), (.int .i64 (.a 2)), (.int .i64 (.a 3)), (.int .i64 (.a 4)), (.int .i64 (.a 5)), (.int .i64 (.a 6)), (.int .i64 (.l 0)), (.int .i64 (.l 0)), (.int .i64 (.l 0)), (.int .i64 (.l 0)), (.int .i64 (.l 0)), (.int .i64 (.l 0))])] [] [(.one (.int .i64))]
         (.ite (.not (.eq (.a 9) (.l 0)))
          (.ret false (.bool (.t false)) [])
          (.jump 0 [(.a 0), (.l 0), (.a 1), (.a 2), (.a 3), (.a 4), (.a 5), (.a 6)] [] [(.va 4), (.va 0), (.va 1), (.va 2), (.va 3)]))))))))))))))))))))
def saleroomlaw37_ActivityLeaves_t0 : PT :=
 (.need (.is 0 0)
 (.ite (.lt (.a 1) (.slen 0))
  (.need (.and (.le (.l 0) (.a 1)) (.lt (.a 1) (.slen 0)))
  (.load true (.ea 0 (.a 1) 12 0) [(.int .i64)]
  (.ite (.lt (.a 2) (.a 8))
   (.call 24 [] [] [(.one .bool)]
   (.ret false (.bool (.a 0)) []))
   (.need (.and (.le (.l 0) (.a 1)) (.lt (.a 1) (.slen 0)))
   (.load true (.ea 0 (.a 1) 12 1) [(.int .i64)]
   (.ite (.lt (.a 3) (.a 9))
    (.call 24 [] [] [(.one .bool)]
    (.ret false (.bool (.a 0)) []))
    (.need (.and (.le (.l 0) (.a 1)) (.lt (.a 1) (.slen 0)))
    (.load true (.ea 0 (.a 1) 12 2) [(.int .i64)]
    (.ite (.lt (.a 4) (.a 10))
     (.call 24 [] [] [(.one .bool)]
     (.ret false (.bool (.a 0)) []))
     (.need (.and (.le (.l 0) (.a 1)) (.lt (.a 1) (.slen 0)))
     (.load true (.ea 0 (.a 1) 12 3) [(.int .i64)]
     (.ite (.lt (.a 5) (.a 11))
      (.call 24 [] [] [(.one .bool)]
      (.ret false (.bool (.a 0)) []))
      (.need (.and (.le (.l 0) (.a 1)) (.lt (.a 1) (.slen 0)))
      (.load true (.ea 0 (.a 1) 12 4) [(.int .i64)]
      (.ite (.lt (.a 6) (.a 12))
       (.call 24 [] [] [(.one .bool)]
       (.ret false (.bool (.a 0)) []))
       (.need (.and (.le (.l 0) (.a 1)) (.lt (.a 1) (.slen 0)))
       (.load true (.ea 0 (.a 1) 12 5) [(.int .i64)]
       (.ite (.lt (.a 7) (.a 13))
        (.call 24 [] [] [(.one .bool)]
        (.ret false (.bool (.a 0)) []))
        (.need (.and (.le (.l (-9223372036854775808)) (.add (.a 1) (.l 1))) (.le (.add (.a 1) (.l 1)) (.l 9223372036854775807)))
        (.jump 0 [(.a 0), (.add (.a 1) (.l 1)), (.a 2), (.a 3), (.a 4), (.a 5), (.a 6), (.a 7)] [] [(.va 0), (.va 1), (.va 2), (.va 3), (.va 4)]))))))))))))))))))))
  (.call 36 [(.va 0)] [] [(.one .bool)]
  (.ite (.not (.a 0))
   (.call 24 [] [] [(.one .bool)]
   (.ret false (.bool (.a 1)) []))
   (.call 25 [(.agg [(.va 1), (.va 2), (.va 3), (.va 4)]), (.int .i64 (.l 2)), (.int .i64 (.a 0)), (.va 0), (.agg [(.int .i64 (.a 2)), (.int .i64 (.a 3)), (.int .i64 (.a 4)), (.int .i64 (.a 5)), (.int .i64 (.a 6)), (.int .i64 (.a 7)), (.int .i64 (.l 0)), (.int .i64 (.l 0)), (.int .i64 (.l 0)), (.int .i64 (.l 0)), (.int .i64 (.l 0)), (.int .i64 (.l 0))])] [] [(.one (.int .i64))]
   (.ite (.eq (.a 8) (.l 0))
    (.call 24 [] [] [(.one .bool)]
    (.ret false (.bool (.a 1)) []))
    (.ret false (.bool (.t false)) [])))))))
def saleroomlaw37_ActivityLeaves_S : Sx.Sys := ⟨[(.sh (.agg [.val, .val, .val, .val])), (.sh (.one (.int .i64))), (.sh (.one .val)), (.sh (.agg [(.int .i64), (.int .i64), (.int .i64), (.int .i64), (.int .i64), (.int .i64)]))], saleroomlaw37_ActivityLeaves_s, [saleroomlaw37_ActivityLeaves_t0], none⟩
def saleroomlaw37_ActivityLeaves_pats : List Cfg := [{ todo := [(.code [false, false, true, false, true, true, true, true]), (.inLoop [false, false, true, false, true, true, true, true]), (.inBlock 0), (.code [true, true, true, true, true])], sl := [(.junk 0), (.int .i64 (.a 0)), (.va 0), (.junk 1), (.ptr 0 0), .undef, .undef, (.ptr 1 0), (.junk 2), (.ptr 2 0), (.int .i64 (.a 1)), (.junk 3), (.junk 4), (.junk 5), (.junk 6), (.junk 7), (.junk 8), (.junk 9), (.junk 10), (.junk 11), (.junk 12), (.junk 13), (.junk 14), (.junk 15), (.junk 16), (.junk 17), (.junk 18), (.junk 19), (.junk 20), (.junk 21), (.junk 22), (.junk 23), (.junk 24), (.junk 25), (.junk 26), (.junk 27), (.junk 28), (.junk 29), (.junk 30), (.junk 31), (.junk 32), (.junk 33), (.junk 34), (.junk 35), (.junk 36), (.junk 37), (.junk 38), (.junk 39), (.junk 40), (.junk 41), (.junk 42), (.junk 43), (.junk 44), (.junk 45), (.junk 46), (.junk 47), (.junk 48), (.junk 49), (.junk 50), .undef, (.junk 51), (.junk 52), (.junk 53), (.junk 54), (.junk 55), (.junk 56), (.junk 57), (.junk 58), (.junk 59), (.junk 60), (.junk 61), (.junk 62), (.junk 63), (.junk 64), (.junk 65), (.junk 66), (.junk 67), (.junk 68), (.junk 69), (.junk 70), (.junk 71), (.junk 72), (.junk 73), (.junk 74), (.junk 75), (.junk 76), (.junk 77), .undef, .undef, .undef, .undef, .undef, .undef, .undef, .undef, .undef, .undef, .undef, .undef, .undef, .undef, .undef], H := [(.cells [(.va 1), (.va 2), (.va 3), (.va 4)] 53 false), (.cells [(.int .i64 (.a 2)), (.int .i64 (.a 3)), (.int .i64 (.a 4)), (.int .i64 (.a 5)), (.int .i64 (.a 6)), (.int .i64 (.a 7))] 40 false), (.cells [(.int .i64 (.a 2)), (.int .i64 (.a 3)), (.int .i64 (.a 4)), (.int .i64 (.a 5)), (.int .i64 (.a 6)), (.int .i64 (.a 7)), (.int .i64 (.l 0)), (.int .i64 (.l 0)), (.int .i64 (.l 0)), (.int .i64 (.l 0)), (.int .i64 (.l 0)), (.int .i64 (.l 0))] 44 false)], ni := 8, nb := 0, nv := 5, nj := 78 }]
theorem saleroomlaw37_ActivityLeaves_ok : SysOk Try.prog 12 saleroomlaw37_ActivityLeaves_S := sys_ok (c := (cg [[false, false, true, false, true, true, true, true]] [] [] false false false true)) (progOkG _ _ _ _ _ _ _ _) Try.func12 Try.call12 (by kernel_rfl) saleroomlaw37_ActivityLeaves_pats saleroomlaw37_ActivityLeaves_S 5000 rfl (by kernel_rfl) (by kernel_rfl) rfl
def revealed_Gain_s : PT :=
 (.call 49 [(.agg [(.int .i64 (.a 0)), (.int .i64 (.a 1)), (.int .i64 (.a 2)), (.int .i64 (.a 3)), (.int .i64 (.a 4)), (.int .i64 (.a 5)), (.int .i64 (.a 6)), (.int .i64 (.a 7)), (.int .i64 (.a 8)), (.int .i64 (.a 9)), (.int .i64 (.a 10)), (.int .i64 (.a 11))])] [] [(.one .bool)]
 (.ite (.not (.a 0))
  (.ret false (.int .i64 (.l 0)) [])
  (.call 49 [(.agg [(.int .i64 (.a 12)), (.int .i64 (.a 13)), (.int .i64 (.a 14)), (.int .i64 (.a 15)), (.int .i64 (.a 16)), (.int .i64 (.a 17)), (.int .i64 (.a 18)), (.int .i64 (.a 19)), (.int .i64 (.a 20)), (.int .i64 (.a 21)), (.int .i64 (.a 22)), (.int .i64 (.a 23))])] [] [(.one .bool)]
  (.ite (.not (.a 1))
   (.ret false (.int .i64 (.l 0)) [])
   (.call 48 [(.agg [(.int .i64 (.a 0)), (.int .i64 (.a 1)), (.int .i64 (.a 2)), (.int .i64 (.a 3)), (.int .i64 (.a 4)), (.int .i64 (.a 5)), (.int .i64 (.a 6)), (.int .i64 (.a 7)), (.int .i64 (.a 8)), (.int .i64 (.a 9)), (.int .i64 (.a 10)), (.int .i64 (.a 11))]), (.agg [(.int .i64 (.a 12)), (.int .i64 (.a 13)), (.int .i64 (.a 14)), (.int .i64 (.a 15)), (.int .i64 (.a 16)), (.int .i64 (.a 17)), (.int .i64 (.a 18)), (.int .i64 (.a 19)), (.int .i64 (.a 20)), (.int .i64 (.a 21)), (.int .i64 (.a 22)), (.int .i64 (.a 23))])] [] [(.one (.int .i64))]
   (.ret false (.int .i64 (.a 24)) []))))))
def revealed_Gain_S : Sx.Sys := ⟨[(.sh (.agg [(.int .i64), (.int .i64), (.int .i64), (.int .i64), (.int .i64), (.int .i64), (.int .i64), (.int .i64), (.int .i64), (.int .i64), (.int .i64), (.int .i64)])), (.sh (.agg [(.int .i64), (.int .i64), (.int .i64), (.int .i64), (.int .i64), (.int .i64), (.int .i64), (.int .i64), (.int .i64), (.int .i64), (.int .i64), (.int .i64)]))], revealed_Gain_s, [], none⟩
def revealed_Gain_pats : List Cfg := []
theorem revealed_Gain_ok : SysOk Try.prog 20 revealed_Gain_S := sys_ok (c := (cg [] [] [] false false false true)) (progOkG _ _ _ _ _ _ _ _) Try.func20 Try.call20 (by kernel_rfl) revealed_Gain_pats revealed_Gain_S 5000 rfl (by kernel_rfl) (by kernel_rfl) rfl
def saleroomref37_Eligibility_s : PT :=
 (.call 57 [(.agg [(.va 0), (.va 1), (.va 2), (.va 3)]), (.int .i64 (.a 0))] [] [(.one .bool)]
 (.ite (.not (.a 0))
  (.ret false (.int .i64 (.l 0)) [])
  (.need (.and (.le (.l 0) (.a 0)) (.lt (.a 0) (.slen 1)))
  (.load false (.ea 1 (.a 0) 4 3) [(.int .i64)]
  (.jump 0 [(.a 1), (.l 0)] [] [(.va 4), (.va 0), (.va 1), (.va 2), (.va 3)])))))
def saleroomref37_Eligibility_t0 : PT :=
 (.need (.is 0 0)
 (.ite (.lt (.a 1) (.slen 0))
  (.need (.and (.le (.l 0) (.a 1)) (.lt (.a 1) (.slen 0)))
  (.load true (.ea 0 (.a 1) 12 6) [(.int .i64), (.int .i64), (.int .i64), (.int .i64), (.int .i64), (.int .i64)]
  (.call 58 [(.agg [(.va 1), (.va 2), (.va 3), (.va 4)]), (.agg [(.int .i64 (.a 2)), (.int .i64 (.a 3)), (.int .i64 (.a 4)), (.int .i64 (.a 5)), (.int .i64 (.a 6)), (.int .i64 (.a 7))])] [] [(.one (.int .i64))]
  (.need (.and (.le (.l (-9223372036854775808)) (.add (.a 1) (.l 1))) (.le (.add (.a 1) (.l 1)) (.l 9223372036854775807)))
  (.jump 0 [(.mn (.a 0) (.a 8)), (.add (.a 1) (.l 1))] [] [(.va 0), (.va 1), (.va 2), (.va 3), (.va 4)])))))
  (.ret false (.int .i64 (.a 0)) [])))
def saleroomref37_Eligibility_S : Sx.Sys := ⟨[(.sh (.agg [.val, .val, .val, .val])), (.sh (.one (.int .i64))), (.sh (.one .val))], saleroomref37_Eligibility_s, [saleroomref37_Eligibility_t0], none⟩
def saleroomref37_Eligibility_pats : List Cfg := [{ todo := [(.code [false, false, true, false, true, true, true]), (.inLoop [false, false, true, false, true, true, true]), (.inBlock 0), (.code [true, true, true, true])], sl := [(.junk 0), (.junk 1), (.va 0), (.ptr 0 0), .undef, .undef, (.junk 2), (.int .i64 (.a 0)), (.int .i64 (.a 1)), (.junk 3), (.junk 4), (.junk 5), (.junk 6), (.junk 7), (.junk 8), (.junk 9), (.junk 10), (.junk 11), (.junk 12), (.junk 13), (.junk 14), (.junk 15), (.junk 16), (.junk 17), (.junk 18), (.junk 19), (.junk 20), (.junk 21), (.junk 22), (.junk 23), (.junk 24), (.junk 25), (.junk 26), (.junk 27), .undef], H := [(.cells [(.va 1), (.va 2), (.va 3), (.va 4)] 53 false)], ni := 2, nb := 0, nv := 5, nj := 28 }]
theorem saleroomref37_Eligibility_ok : SysOk Try.prog 28 saleroomref37_Eligibility_S := sys_ok (c := (cg [[false, false, true, false, true, true, true]] [] [] false false false true)) (progOkG _ _ _ _ _ _ _ _) Try.func28 Try.call28 (by kernel_rfl) saleroomref37_Eligibility_pats saleroomref37_Eligibility_S 5000 rfl (by kernel_rfl) (by kernel_rfl) rfl
def saleroomref37_Consistent_s : PT :=
 (.app none (.lit [[(.int .i64 (.l 0)), (.int .i64 (.l 0)), (.int .i64 (.l 0)), (.int .i64 (.l 0)), (.int .i64 (.l 0)), (.int .i64 (.l 0))]]) 6
 (.jump 0 [(.l 0)] [] [(.va 0), (.va 1)]))
def saleroomref37_Consistent_t0 : PT :=
 (.need (.is 0 0)
 (.ite (.lt (.a 0) (.slen 0))
  (.need (.and (.le (.l 0) (.a 0)) (.lt (.a 0) (.slen 0)))
  (.load false (.ea 0 (.a 0) 12 6) [(.int .i64), (.int .i64), (.int .i64), (.int .i64), (.int .i64), (.int .i64)]
  (.app none (.lit [[(.int .i64 (.a 1)), (.int .i64 (.a 2)), (.int .i64 (.a 3)), (.int .i64 (.a 4)), (.int .i64 (.a 5)), (.int .i64 (.a 6))]]) 6
  (.app (some 1) (.va 2) 6
  (.need (.and (.le (.l (-9223372036854775808)) (.add (.a 0) (.l 1))) (.le (.add (.a 0) (.l 1)) (.l 9223372036854775807)))
  (.jump 0 [(.add (.a 0) (.l 1))] [] [(.va 0), (.va 3)]))))))
  (.need (.is 0 1)
  (.mkM (.slen 1) [(.int .i64 (.l 0))] 2 1 8
  (.jump 1 [(.l 0)] [] [(.va 0), (.va 1), (.va 2)])))))
def saleroomref37_Consistent_t1 : PT :=
 (.need (.is 0 1)
 (.ite (.le (.a 0) (.slen 1))
  (.jump 2 [(.a 0), (.l 0)] [(.t true)] [(.va 0), (.va 1), (.va 2)])
  (.ret false (.bool (.t false)) [])))
def saleroomref37_Consistent_t2 : PT :=
 (.need (.is 0 0)
 (.ite (.lt (.a 1) (.slen 0))
  (.jump 3 [(.a 0), (.a 1), (.l 0)] [(.a 0)] [(.va 0), (.va 1), (.va 2)])
  (.ite (.a 0)
   (.ret false (.bool (.t true)) [])
   (.need (.and (.le (.l (-9223372036854775808)) (.add (.a 0) (.l 1))) (.le (.add (.a 0) (.l 1)) (.l 9223372036854775807)))
   (.jump 1 [(.add (.a 0) (.l 1))] [] [(.va 0), (.va 1), (.va 2)])))))
def saleroomref37_Consistent_t3 : PT :=
 (.need (.is 0 1)
 (.ite (.lt (.a 2) (.slen 1))
  (.need (.and (.le (.l 0) (.a 2)) (.lt (.a 2) (.slen 2)))
  (.need (.and (.le (.l 0) (.a 1)) (.lt (.a 1) (.slen 0)))
  (.need (.and (.le (.l 0) (.a 1)) (.lt (.a 1) (.slen 0)))
  (.need (.and (.le (.l 0) (.a 1)) (.lt (.a 1) (.slen 0)))
  (.need (.and (.le (.l 0) (.a 2)) (.lt (.a 2) (.slen 1)))
  (.load true (.ea 2 (.a 2) 1 0) [(.int .i64)]
  (.load true (.ea 0 (.a 1) 12 0) [(.int .i64), (.int .i64), (.int .i64), (.int .i64), (.int .i64), (.int .i64)]
  (.load true (.ea 0 (.a 1) 12 6) [(.int .i64), (.int .i64), (.int .i64), (.int .i64), (.int .i64), (.int .i64)]
  (.load true (.ea 0 (.a 1) 12 0) [(.int .i64), (.int .i64), (.int .i64), (.int .i64), (.int .i64), (.int .i64)]
  (.load true (.ea 1 (.a 2) 6 0) [(.int .i64), (.int .i64), (.int .i64), (.int .i64), (.int .i64), (.int .i64)]
  (.call 60 [(.agg [(.int .i64 (.a 4)), (.int .i64 (.a 5)), (.int .i64 (.a 6)), (.int .i64 (.a 7)), (.int .i64 (.a 8)), (.int .i64 (.a 9))]), (.agg [(.int .i64 (.a 10)), (.int .i64 (.a 11)), (.int .i64 (.a 12)), (.int .i64 (.a 13)), (.int .i64 (.a 14)), (.int .i64 (.a 15))])] [] [(.one (.int .i64))]
  (.need (.and (.le (.l (-9223372036854775808)) (.add (.a 3) (.a 28))) (.le (.add (.a 3) (.a 28)) (.l 9223372036854775807)))
  (.call 60 [(.agg [(.int .i64 (.a 16)), (.int .i64 (.a 17)), (.int .i64 (.a 18)), (.int .i64 (.a 19)), (.int .i64 (.a 20)), (.int .i64 (.a 21))]), (.agg [(.int .i64 (.a 22)), (.int .i64 (.a 23)), (.int .i64 (.a 24)), (.int .i64 (.a 25)), (.int .i64 (.a 26)), (.int .i64 (.a 27))])] [] [(.one (.int .i64))]
  (.need (.and (.le (.l (-9223372036854775808)) (.sub (.add (.a 3) (.a 28)) (.a 29))) (.le (.sub (.add (.a 3) (.a 28)) (.a 29)) (.l 9223372036854775807)))
  (.jump 4 [(.a 0), (.a 1), (.a 2), (.sub (.add (.a 3) (.a 28)) (.a 29)), (.l 0)] [(.a 0)] [(.va 0), (.va 1), (.va 2)])))))))))))))))
  (.need (.and (.le (.l (-9223372036854775808)) (.add (.a 1) (.l 1))) (.le (.add (.a 1) (.l 1)) (.l 9223372036854775807)))
  (.jump 2 [(.a 0), (.add (.a 1) (.l 1))] [(.a 0)] [(.va 0), (.va 1), (.va 2)]))))
def saleroomref37_Consistent_t4 : PT :=
 (.need (.is 0 1)
 (.ite (.lt (.a 4) (.slen 1))
  (.need (.and (.le (.l 0) (.a 4)) (.lt (.a 4) (.slen 1)))
  (.need (.and (.le (.l 0) (.a 1)) (.lt (.a 1) (.slen 0)))
  (.load true (.ea 1 (.a 4) 6 0) [(.int .i64), (.int .i64), (.int .i64), (.int .i64), (.int .i64), (.int .i64)]
  (.load true (.ea 0 (.a 1) 12 6) [(.int .i64), (.int .i64), (.int .i64), (.int .i64), (.int .i64), (.int .i64)]
  (.ite (.and (.eq (.a 5) (.a 11)) (.and (.eq (.a 6) (.a 12)) (.and (.eq (.a 7) (.a 13)) (.and (.eq (.a 8) (.a 14)) (.and (.eq (.a 9) (.a 15)) (.eq (.a 10) (.a 16)))))))
   (.need (.and (.le (.l 0) (.a 4)) (.lt (.a 4) (.slen 2)))
   (.load true (.ea 2 (.a 4) 1 0) [(.int .i64)]
   (.ite (.lt (.a 17) (.a 3))
    (.need (.and (.le (.l 0) (.a 4)) (.lt (.a 4) (.slen 2)))
    (.storeM (.ea 2 (.a 4) 1 0) [(.int .i64 (.a 3))]
    (.need (.and (.le (.l (-9223372036854775808)) (.add (.a 4) (.l 1))) (.le (.add (.a 4) (.l 1)) (.l 9223372036854775807)))
    (.jump 4 [(.a 0), (.a 1), (.a 2), (.a 3), (.add (.a 4) (.l 1))] [(.t false)] [(.va 0), (.va 1), (.va 2)]))))
    (.need (.and (.le (.l (-9223372036854775808)) (.add (.a 4) (.l 1))) (.le (.add (.a 4) (.l 1)) (.l 9223372036854775807)))
    (.jump 4 [(.a 0), (.a 1), (.a 2), (.a 3), (.add (.a 4) (.l 1))] [(.a 0)] [(.va 0), (.va 1), (.va 2)])))))
   (.need (.and (.le (.l (-9223372036854775808)) (.add (.a 4) (.l 1))) (.le (.add (.a 4) (.l 1)) (.l 9223372036854775807)))
   (.jump 4 [(.a 0), (.a 1), (.a 2), (.a 3), (.add (.a 4) (.l 1))] [(.a 0)] [(.va 0), (.va 1), (.va 2)])))))))
  (.need (.and (.le (.l (-9223372036854775808)) (.add (.a 2) (.l 1))) (.le (.add (.a 2) (.l 1)) (.l 9223372036854775807)))
  (.jump 3 [(.a 0), (.a 1), (.add (.a 2) (.l 1))] [(.a 0)] [(.va 0), (.va 1), (.va 2)]))))
def saleroomref37_Consistent_S : Sx.Sys := ⟨[(.sh (.one .val))], saleroomref37_Consistent_s, [saleroomref37_Consistent_t0, saleroomref37_Consistent_t1, saleroomref37_Consistent_t2, saleroomref37_Consistent_t3, saleroomref37_Consistent_t4], none⟩
def saleroomref37_Consistent_pats : List Cfg := [{ todo := [(.code [false, false, true, false, true, true]), (.inLoop [false, false, true, false, true, true]), (.inBlock 0), (.code [true, true, true])], sl := [(.va 0), .undef, (.junk 0), (.va 1), (.int .i64 (.a 0)), .undef, .undef, .undef, .undef, .undef, .undef, .undef, (.junk 1), (.junk 2), (.junk 3), (.junk 4), (.junk 5), (.junk 6), (.junk 7), (.junk 8), (.junk 9), (.junk 10), (.junk 11), (.junk 12), (.junk 13), (.junk 14), (.junk 15), (.junk 16), .undef, .undef, .undef, .undef, .undef, .undef, .undef, .undef, .undef, .undef, .undef, .undef, .undef, .undef, .undef, .undef, .undef, .undef, .undef, .undef, .undef, .undef, .undef, .undef, .undef, .undef, .undef, .undef, .undef, .undef, .undef, .undef, .undef, .undef, .undef, .undef, .undef, .undef, .undef, .undef, .undef, .undef, .undef, .undef, .undef, .undef, .undef, .undef, .undef, .undef, .undef, .undef, .undef, .undef, .undef, .undef, .undef, .undef, .undef, .undef, .undef, .undef, .undef, .undef, .undef, .undef, .undef, .undef, .undef, .undef, .undef, .undef, .undef, .undef, .undef, .undef, .undef], H := [(.row 1 42 6)], ni := 1, nb := 0, nv := 2, nj := 17 },
 { todo := [(.code [false, false, true, false, true, true, true, true]), (.inLoop [false, false, true, false, true, true, true, true]), (.inBlock 2), (.code [true, true, true, true, true])], sl := [(.va 0), .undef, (.junk 0), (.va 1), (.junk 1), (.va 2), (.int .i64 (.a 0)), (.junk 2), (.junk 3), (.junk 4), (.junk 5), (.junk 6), (.junk 7), (.junk 8), (.junk 9), (.junk 10), (.junk 11), (.junk 12), (.junk 13), (.junk 14), (.junk 15), (.junk 16), (.junk 17), (.junk 18), (.junk 19), (.junk 20), (.junk 21), (.junk 22), (.junk 23), (.junk 24), (.junk 25), (.junk 26), (.junk 27), (.junk 28), (.junk 29), (.junk 30), (.junk 31), (.junk 32), (.junk 33), (.junk 34), (.junk 35), (.junk 36), (.junk 37), (.junk 38), (.junk 39), (.junk 40), (.junk 41), (.junk 42), (.junk 43), (.junk 44), (.junk 45), (.junk 46), (.junk 47), (.junk 48), (.junk 49), (.junk 50), (.junk 51), (.junk 52), (.junk 53), (.junk 54), (.junk 55), (.junk 56), (.junk 57), (.junk 58), (.junk 59), (.junk 60), (.junk 61), (.junk 62), (.junk 63), (.junk 64), (.junk 65), (.junk 66), (.junk 67), (.junk 68), (.junk 69), (.junk 70), (.junk 71), (.junk 72), (.junk 73), (.junk 74), (.junk 75), (.junk 76), (.junk 77), (.junk 78), (.junk 79), (.junk 80), (.junk 81), (.junk 82), (.junk 83), (.junk 84), (.junk 85), (.junk 86), (.junk 87), (.junk 88), (.junk 89), (.junk 90), (.junk 91), (.junk 92), (.junk 93), (.junk 94), (.junk 95), (.junk 96), (.junk 97), (.junk 98), (.junk 99)], H := [(.row 1 42 6)], ni := 1, nb := 0, nv := 3, nj := 100 },
 { todo := [(.code [false, false, true, false, true, false, false, true, false, false, true, false, true, true, true, true]), (.inLoop [false, false, true, false, true, false, false, true, false, false, true, false, true, true, true, true]), (.inBlock 4), (.code [true, true, false, false, true, false, false, true, false, true, true, true, true]), (.inBlock 3), (.code [true, true, false, false, true, false, true, true, true, true]), (.inLoop [false, false, true, false, true, true, true, true]), (.inBlock 2), (.code [true, true, true, true, true])], sl := [(.va 0), .undef, (.junk 0), (.va 1), (.junk 1), (.va 2), (.int .i64 (.a 0)), (.bool (.a 0)), (.int .i64 (.a 1)), (.junk 2), (.junk 3), (.junk 4), (.junk 5), (.junk 6), (.junk 7), (.junk 8), (.junk 9), (.junk 10), (.junk 11), (.junk 12), (.junk 13), (.junk 14), (.junk 15), (.junk 16), (.junk 17), (.junk 18), (.junk 19), (.junk 20), (.junk 21), (.junk 22), (.junk 23), (.junk 24), (.junk 25), (.junk 26), (.junk 27), (.junk 28), (.junk 29), (.junk 30), (.junk 31), (.junk 32), (.junk 33), (.junk 34), (.junk 35), (.junk 36), (.junk 37), (.junk 38), (.junk 39), (.junk 40), (.junk 41), (.junk 42), (.junk 43), (.junk 44), (.junk 45), (.junk 46), (.junk 47), (.junk 48), (.junk 49), (.junk 50), (.junk 51), (.junk 52), (.junk 53), (.junk 54), (.junk 55), (.junk 56), (.junk 57), (.junk 58), (.junk 59), (.junk 60), (.junk 61), (.junk 62), (.junk 63), (.junk 64), (.junk 65), (.junk 66), (.junk 67), (.junk 68), (.junk 69), (.junk 70), (.junk 71), (.junk 72), (.junk 73), (.junk 74), (.junk 75), (.junk 76), (.junk 77), (.junk 78), (.junk 79), (.junk 80), (.junk 81), (.junk 82), (.junk 83), (.junk 84), (.junk 85), (.junk 86), (.junk 87), (.junk 88), (.junk 89), (.junk 90), (.junk 91), (.junk 92), (.junk 93), (.junk 94), (.junk 95), (.junk 96), (.junk 97)], H := [(.row 1 42 6)], ni := 2, nb := 1, nv := 3, nj := 98 },
 { todo := [(.code [false, false, true, false, false, true, false, false, true, false, true, false, false, true, false, false, true, false, true, true, true, true]), (.inLoop [false, false, true, false, false, true, false, false, true, false, true, false, false, true, false, false, true, false, true, true, true, true]), (.inBlock 6), (.inBlock 5), (.code [true, true, false, false, true, false, true, false, false, true, false, false, true, false, true, true, true, true]), (.inLoop [false, false, true, false, true, false, false, true, false, false, true, false, true, true, true, true]), (.inBlock 4), (.code [true, true, false, false, true, false, false, true, false, true, true, true, true]), (.inBlock 3), (.code [true, true, false, false, true, false, true, true, true, true]), (.inLoop [false, false, true, false, true, true, true, true]), (.inBlock 2), (.code [true, true, true, true, true])], sl := [(.va 0), .undef, (.junk 0), (.va 1), (.junk 1), (.va 2), (.int .i64 (.a 0)), (.bool (.a 0)), (.int .i64 (.a 1)), (.int .i64 (.a 2)), (.junk 2), (.junk 3), (.junk 4), (.junk 5), (.junk 6), (.junk 7), (.junk 8), (.junk 9), (.junk 10), (.junk 11), (.junk 12), (.junk 13), (.junk 14), (.junk 15), (.junk 16), (.junk 17), (.junk 18), (.junk 19), (.junk 20), (.junk 21), (.junk 22), (.junk 23), (.junk 24), (.junk 25), (.junk 26), (.junk 27), (.junk 28), (.junk 29), (.junk 30), (.junk 31), (.junk 32), (.junk 33), (.junk 34), (.junk 35), (.junk 36), (.junk 37), (.junk 38), (.junk 39), (.junk 40), (.junk 41), (.junk 42), (.junk 43), (.junk 44), (.junk 45), (.junk 46), (.junk 47), (.junk 48), (.junk 49), (.junk 50), (.junk 51), (.junk 52), (.junk 53), (.junk 54), (.junk 55), (.junk 56), (.junk 57), (.junk 58), (.junk 59), (.junk 60), (.junk 61), (.junk 62), (.junk 63), (.junk 64), (.junk 65), (.junk 66), (.junk 67), (.junk 68), (.junk 69), (.junk 70), (.junk 71), (.junk 72), (.junk 73), (.junk 74), (.junk 75), (.junk 76), (.junk 77), (.junk 78), (.junk 79), (.junk 80), (.junk 81), (.junk 82), (.junk 83), (.junk 84), (.junk 85), (.junk 86), (.junk 87), (.junk 88), (.junk 89), (.junk 90), (.junk 91), (.junk 92), (.junk 93), (.junk 94), (.junk 95), (.junk 96)], H := [(.row 1 42 6)], ni := 3, nb := 1, nv := 3, nj := 97 },
 { todo := [(.code [false, false, true, true, false, false, true, false, false, true, false, false, true, false, false, true, false, true, false, false, true, false, false, true, false, true, true, true, true]), (.inLoop [false, false, true, true, false, false, true, false, false, true, false, false, true, false, false, true, false, true, false, false, true, false, false, true, false, true, true, true, true]), (.inBlock 8), (.inBlock 7), (.code [true, true, false, false, true, false, false, true, false, false, true, false, true, false, false, true, false, false, true, false, true, true, true, true]), (.inLoop [false, false, true, false, false, true, false, false, true, false, true, false, false, true, false, false, true, false, true, true, true, true]), (.inBlock 6), (.inBlock 5), (.code [true, true, false, false, true, false, true, false, false, true, false, false, true, false, true, true, true, true]), (.inLoop [false, false, true, false, true, false, false, true, false, false, true, false, true, true, true, true]), (.inBlock 4), (.code [true, true, false, false, true, false, false, true, false, true, true, true, true]), (.inBlock 3), (.code [true, true, false, false, true, false, true, true, true, true]), (.inLoop [false, false, true, false, true, true, true, true]), (.inBlock 2), (.code [true, true, true, true, true])], sl := [(.va 0), .undef, (.junk 0), (.va 1), (.junk 1), (.va 2), (.int .i64 (.a 0)), (.bool (.a 0)), (.int .i64 (.a 1)), (.int .i64 (.a 2)), (.int .i64 (.a 3)), (.int .i64 (.a 4)), (.junk 2), (.junk 3), (.junk 4), (.junk 5), (.junk 6), (.junk 7), (.junk 8), (.junk 9), (.junk 10), (.junk 11), (.junk 12), (.junk 13), (.junk 14), (.junk 15), (.junk 16), (.junk 17), (.junk 18), (.junk 19), (.junk 20), (.junk 21), (.junk 22), (.junk 23), (.junk 24), (.junk 25), (.junk 26), (.junk 27), (.junk 28), (.junk 29), (.junk 30), (.junk 31), (.junk 32), (.junk 33), (.junk 34), (.junk 35), (.junk 36), (.junk 37), (.junk 38), (.junk 39), (.junk 40), (.junk 41), (.junk 42), (.junk 43), (.junk 44), (.junk 45), (.junk 46), (.junk 47), (.junk 48), (.junk 49), (.junk 50), (.junk 51), (.junk 52), (.junk 53), (.junk 54), (.junk 55), (.junk 56), (.junk 57), (.junk 58), (.junk 59), (.junk 60), (.junk 61), (.junk 62), (.junk 63), (.junk 64), (.junk 65), (.junk 66), (.junk 67), (.junk 68), (.junk 69), (.junk 70), (.junk 71), (.junk 72), (.junk 73), (.junk 74), (.junk 75), (.junk 76), (.junk 77), (.junk 78), (.junk 79), (.junk 80), (.junk 81), (.junk 82), (.junk 83), (.junk 84), (.junk 85), (.junk 86), (.junk 87), (.junk 88), (.junk 89), (.junk 90), (.junk 91), (.junk 92), (.junk 93), (.junk 94)], H := [(.row 1 42 6)], ni := 5, nb := 1, nv := 3, nj := 95 }]
theorem saleroomref37_Consistent_ok : SysOk Try.prog 36 saleroomref37_Consistent_S := sys_ok (c := (cg [[false, false, true, false, true, true], [false, false, true, false, true, true, true, true], [false, false, true, false, true, false, false, true, false, false, true, false, true, true, true, true], [false, false, true, false, false, true, false, false, true, false, true, false, false, true, false, false, true, false, true, true, true, true], [false, false, true, true, false, false, true, false, false, true, false, false, true, false, false, true, false, true, false, false, true, false, false, true, false, true, true, true, true]] [] [] false false false true)) (progOkG _ _ _ _ _ _ _ _) Try.func36 Try.call36 (by kernel_rfl) saleroomref37_Consistent_pats saleroomref37_Consistent_S 5000 rfl (by kernel_rfl) (by kernel_rfl) rfl
def saleroomref36_Valid_s : PT :=
 (.call 35 [(.agg [(.int .i64 (.a 6)), (.int .i64 (.a 7)), (.int .i64 (.a 8)), (.int .i64 (.a 9)), (.int .i64 (.a 10)), (.int .i64 (.a 11))])] [] [(.one (.int .i64))]
 (.ite (.eq (.a 12) (.l 0))
  (.call 65 [(.agg [(.int .i64 (.a 0)), (.int .i64 (.a 1)), (.int .i64 (.a 2)), (.int .i64 (.a 3)), (.int .i64 (.a 4)), (.int .i64 (.a 5))])] [] [(.one .bool)]
  (.ret false (.bool (.a 0)) []))
  (.ret false (.bool (.t false)) [])))
def saleroomref36_Valid_S : Sx.Sys := ⟨[(.sh (.agg [(.int .i64), (.int .i64), (.int .i64), (.int .i64), (.int .i64), (.int .i64), (.int .i64), (.int .i64), (.int .i64), (.int .i64), (.int .i64), (.int .i64)]))], saleroomref36_Valid_s, [], none⟩
def saleroomref36_Valid_pats : List Cfg := []
theorem saleroomref36_Valid_ok : SysOk Try.prog 44 saleroomref36_Valid_S := sys_ok (c := (cg [] [] [] false false false true)) (progOkG _ _ _ _ _ _ _ _) Try.func44 Try.call44 (by kernel_rfl) saleroomref36_Valid_pats saleroomref36_Valid_S 5000 rfl (by kernel_rfl) (by kernel_rfl) rfl
def activity_history_agrees_s_b1 : PT :=
 (.call 15 [(.va 6)] [] [(.agg [.val, .val]), (.one .bool)]
    (.ret false (.bool (.a 0)) []))
def activity_history_agrees_s_b2 : PT :=
 (.appF 4 (.va 5) 12
   (.both activity_history_agrees_s_b1 activity_history_agrees_s_b1))
def activity_history_agrees_s_b3 : PT :=
 (.appF 4 (.va 5) 12
   (.call 15 [(.va 6)] [] [(.agg [.val, .val]), (.one .bool)]
   (.ret false (.bool (.a 0)) [])))
def activity_history_agrees_s_b4 : PT :=
 (.app none (.lit [[(.int .i64 (.a 1)), (.int .i64 (.a 2)), (.int .i64 (.a 3)), (.int .i64 (.a 4)), (.int .i64 (.a 5)), (.int .i64 (.a 6)), (.int .i64 (.a 7)), (.int .i64 (.a 8)), (.int .i64 (.a 9)), (.int .i64 (.a 10)), (.int .i64 (.a 11)), (.int .i64 (.a 12))]]) 12
  (.both activity_history_agrees_s_b2 activity_history_agrees_s_b3))
def activity_history_agrees_s_b5 : PT :=
 (.app none (.lit [[(.int .i64 (.a 1)), (.int .i64 (.a 2)), (.int .i64 (.a 3)), (.int .i64 (.a 4)), (.int .i64 (.a 5)), (.int .i64 (.a 6)), (.int .i64 (.a 7)), (.int .i64 (.a 8)), (.int .i64 (.a 9)), (.int .i64 (.a 10)), (.int .i64 (.a 11)), (.int .i64 (.a 12))]]) 12
  (.appF 4 (.va 5) 12
  (.call 15 [(.va 6)] [] [(.agg [.val, .val]), (.one .bool)]
  (.ret false (.bool (.a 0)) []))))
def activity_history_agrees_s : PT :=
 (.need (.is 0 4)
 (.need (.is 0 4)
 (.chk 4 12
 (.both activity_history_agrees_s_b4 activity_history_agrees_s_b5))))
def activity_history_agrees_S : Sx.Sys := ⟨[(.sh (.agg [.val, .val, .val, .val, (.int .i64), .val])), (.sh (.agg [(.int .i64), (.int .i64), (.int .i64), (.int .i64), (.int .i64), (.int .i64), (.int .i64), (.int .i64), (.int .i64), (.int .i64), (.int .i64), (.int .i64)]))], activity_history_agrees_s, [], none⟩
def activity_history_agrees_pats : List Cfg := []
theorem activity_history_agrees_ok : SysOk Try.prog 52 activity_history_agrees_S := sys_ok (c := (cg [] [] [] false false false true)) (progOkG _ _ _ _ _ _ _ _) Try.func52 Try.call52 (by kernel_rfl) activity_history_agrees_pats activity_history_agrees_S 5000 rfl (by kernel_rfl) (by kernel_rfl) rfl
def saleroomref37_cost_s : PT :=
 (.need (.and (.le (.l (-9223372036854775808)) (.mul (.a 0) (.a 6))) (.le (.mul (.a 0) (.a 6)) (.l 9223372036854775807)))
 (.need (.and (.le (.l (-9223372036854775808)) (.mul (.a 0) (.a 6))) (.le (.mul (.a 0) (.a 6)) (.l 9223372036854775807)))
 (.need (.and (.le (.l (-9223372036854775808)) (.mul (.a 1) (.a 7))) (.le (.mul (.a 1) (.a 7)) (.l 9223372036854775807)))
 (.need (.and (.le (.l (-9223372036854775808)) (.add (.mul (.a 0) (.a 6)) (.mul (.a 1) (.a 7)))) (.le (.add (.mul (.a 0) (.a 6)) (.mul (.a 1) (.a 7))) (.l 9223372036854775807)))
 (.need (.and (.le (.l (-9223372036854775808)) (.mul (.a 2) (.a 8))) (.le (.mul (.a 2) (.a 8)) (.l 9223372036854775807)))
 (.need (.and (.le (.l (-9223372036854775808)) (.add (.add (.mul (.a 0) (.a 6)) (.mul (.a 1) (.a 7))) (.mul (.a 2) (.a 8)))) (.le (.add (.add (.mul (.a 0) (.a 6)) (.mul (.a 1) (.a 7))) (.mul (.a 2) (.a 8))) (.l 9223372036854775807)))
 (.need (.and (.le (.l (-9223372036854775808)) (.mul (.a 3) (.a 9))) (.le (.mul (.a 3) (.a 9)) (.l 9223372036854775807)))
 (.need (.and (.le (.l (-9223372036854775808)) (.add (.add (.add (.mul (.a 0) (.a 6)) (.mul (.a 1) (.a 7))) (.mul (.a 2) (.a 8))) (.mul (.a 3) (.a 9)))) (.le (.add (.add (.add (.mul (.a 0) (.a 6)) (.mul (.a 1) (.a 7))) (.mul (.a 2) (.a 8))) (.mul (.a 3) (.a 9))) (.l 9223372036854775807)))
 (.need (.and (.le (.l (-9223372036854775808)) (.mul (.a 4) (.a 10))) (.le (.mul (.a 4) (.a 10)) (.l 9223372036854775807)))
 (.need (.and (.le (.l (-9223372036854775808)) (.add (.add (.add (.add (.mul (.a 0) (.a 6)) (.mul (.a 1) (.a 7))) (.mul (.a 2) (.a 8))) (.mul (.a 3) (.a 9))) (.mul (.a 4) (.a 10)))) (.le (.add (.add (.add (.add (.mul (.a 0) (.a 6)) (.mul (.a 1) (.a 7))) (.mul (.a 2) (.a 8))) (.mul (.a 3) (.a 9))) (.mul (.a 4) (.a 10))) (.l 9223372036854775807)))
 (.need (.and (.le (.l (-9223372036854775808)) (.mul (.a 5) (.a 11))) (.le (.mul (.a 5) (.a 11)) (.l 9223372036854775807)))
 (.need (.and (.le (.l (-9223372036854775808)) (.add (.add (.add (.add (.add (.mul (.a 0) (.a 6)) (.mul (.a 1) (.a 7))) (.mul (.a 2) (.a 8))) (.mul (.a 3) (.a 9))) (.mul (.a 4) (.a 10))) (.mul (.a 5) (.a 11)))) (.le (.add (.add (.add (.add (.add (.mul (.a 0) (.a 6)) (.mul (.a 1) (.a 7))) (.mul (.a 2) (.a 8))) (.mul (.a 3) (.a 9))) (.mul (.a 4) (.a 10))) (.mul (.a 5) (.a 11))) (.l 9223372036854775807)))
 (.ret false (.int .i64 (.add (.add (.add (.add (.add (.mul (.a 0) (.a 6)) (.mul (.a 1) (.a 7))) (.mul (.a 2) (.a 8))) (.mul (.a 3) (.a 9))) (.mul (.a 4) (.a 10))) (.mul (.a 5) (.a 11)))) [])))))))))))))
def saleroomref37_cost_S : Sx.Sys := ⟨[(.sh (.agg [(.int .i64), (.int .i64), (.int .i64), (.int .i64), (.int .i64), (.int .i64)])), (.sh (.agg [(.int .i64), (.int .i64), (.int .i64), (.int .i64), (.int .i64), (.int .i64)]))], saleroomref37_cost_s, [], none⟩
def saleroomref37_cost_pats : List Cfg := []
theorem saleroomref37_cost_ok : SysOk Try.prog 60 saleroomref37_cost_S := sys_ok (c := (cg [] [] [] false false false true)) (progOkG _ _ _ _ _ _ _ _) Try.func60 Try.call60 (by kernel_rfl) saleroomref37_cost_pats saleroomref37_cost_S 5000 rfl (by kernel_rfl) (by kernel_rfl) rfl
def demandset_offers_utility_s : PT :=
 (.call 75 [(.va 0), (.agg [(.int .i64 (.a 6)), (.int .i64 (.a 7)), (.int .i64 (.a 8)), (.int .i64 (.a 9)), (.int .i64 (.a 10)), (.int .i64 (.a 11))])] [] [(.one (.int .i64))]
 (.call 41 [(.agg [(.int .i64 (.a 0)), (.int .i64 (.a 1)), (.int .i64 (.a 2)), (.int .i64 (.a 3)), (.int .i64 (.a 4)), (.int .i64 (.a 5))]), (.agg [(.int .i64 (.a 6)), (.int .i64 (.a 7)), (.int .i64 (.a 8)), (.int .i64 (.a 9)), (.int .i64 (.a 10)), (.int .i64 (.a 11))])] [] [(.one (.int .i64))]
 (.need (.and (.le (.l (-9223372036854775808)) (.sub (.a 12) (.a 13))) (.le (.sub (.a 12) (.a 13)) (.l 9223372036854775807)))
 (.ret false (.int .i64 (.sub (.a 12) (.a 13))) []))))
def demandset_offers_utility_S : Sx.Sys := ⟨[(.sh (.one .val)), (.sh (.agg [(.int .i64), (.int .i64), (.int .i64), (.int .i64), (.int .i64), (.int .i64)])), (.sh (.agg [(.int .i64), (.int .i64), (.int .i64), (.int .i64), (.int .i64), (.int .i64)]))], demandset_offers_utility_s, [], none⟩
def demandset_offers_utility_pats : List Cfg := []
theorem demandset_offers_utility_ok : SysOk Try.prog 69 demandset_offers_utility_S := sys_ok (c := (cg [] [] [] false false false true)) (progOkG _ _ _ _ _ _ _ _) Try.func69 Try.call69 (by kernel_rfl) demandset_offers_utility_pats demandset_offers_utility_S 5000 rfl (by kernel_rfl) (by kernel_rfl) rfl
def bundle_All_1_s : PT :=
 (.ret false (.tup []) [])
def bundle_All_1_S : Sx.Sys := ⟨[(.sh (.one .val))], bundle_All_1_s, [], none⟩
def bundle_All_1_pats : List Cfg := []
theorem bundle_All_1_ok : SysOk Try.prog 77 bundle_All_1_S := sys_ok (c := (cg [] [] [] false false false true)) (progOkG _ _ _ _ _ _ _ _) Try.func77 Try.call77 (by kernel_rfl) bundle_All_1_pats bundle_All_1_S 5000 rfl (by kernel_rfl) (by kernel_rfl) rfl
def catalog_between_s : PT :=
 (.ite (.le (.a 1) (.a 0))
  (.ret false (.bool (.le (.a 0) (.a 2))) [])
  (.ret false (.bool (.t false)) []))
def catalog_between_S : Sx.Sys := ⟨[(.sh (.one (.int .i64))), (.sh (.one (.int .i64))), (.sh (.one (.int .i64)))], catalog_between_s, [], none⟩
def catalog_between_pats : List Cfg := []
theorem catalog_between_ok : SysOk Try.prog 85 catalog_between_S := sys_ok (c := (cg [] [] [] false false false true)) (progOkG _ _ _ _ _ _ _ _) Try.func85 Try.call85 (by kernel_rfl) catalog_between_pats catalog_between_S 5000 rfl (by kernel_rfl) (by kernel_rfl) rfl
end Go.Proofs.Ythjahianafohjaa
set_option maxRecDepth 100000
namespace Go.Proofs.Ythjahianafohjaa
open Go.Sx
def saleroomlaw36_RevealedSound_s : PT :=
 (.need (.is 0 0)
 (.ite (.lt (.l 14) (.slen 0))
  (.call 14 [] [] [(.one .bool)]
  (.ret false (.bool (.a 0)) []))
  (.need (.is 0 1)
  (.ite (.lt (.l 40) (.slen 1))
   (.call 14 [] [] [(.one .bool)]
   (.ret false (.bool (.a 0)) []))
   (.need (.is 0 2)
   (.ite (.lt (.l 1000) (.slen 2))
    (.call 14 [] [] [(.one .bool)]
    (.ret false (.bool (.a 0)) []))
    (.need (.is 0 2)
    (.ite (.eq (.slen 2) (.l 0))
     (.call 14 [] [] [(.one .bool)]
     (.ret false (.bool (.a 0)) []))
     (.call 15 [(.va 0)] [] [(.agg [.val, .val]), (.one .bool)]
     (.call 19 [(.va 0), (.agg [.nilS, (.va 1)])] [] [(.one (.int .i64))]
     (.ite (.eq (.a 0) (.l 0))
      (.ite (.not (.a 0))
       (.ret false (.bool (.t false)) [])
       (.call 19 [(.va 0), (.agg [(.va 2), .nilS])] [] [(.one (.int .i64))]
       (.ite (.not (.eq (.a 1) (.l 0)))
        (.call 14 [] [] [(.one .bool)]
        (.ret false (.bool (.a 1)) []))
        (.ite (.not (.a 0))
         (.call 14 [] [] [(.one .bool)]
         (.ret false (.bool (.a 1)) []))
         (.ret false (.bool (.t false)) [])))))
      (.call 19 [(.va 0), (.agg [(.va 2), .nilS])] [] [(.one (.int .i64))]
      (.ite (.not (.eq (.a 1) (.l 0)))
       (.call 14 [] [] [(.one .bool)]
       (.ret false (.bool (.a 1)) []))
       (.ite (.not (.a 0))
        (.call 14 [] [] [(.one .bool)]
        (.ret false (.bool (.a 1)) []))
        (.ret false (.bool (.t false)) [])))))))))))))))
def saleroomlaw36_RevealedSound_S : Sx.Sys := ⟨[(.sh (.one .val)), (.sh (.one .val)), (.sh (.one .val))], saleroomlaw36_RevealedSound_s, [], none⟩
def saleroomlaw36_RevealedSound_pats : List Cfg := []
theorem saleroomlaw36_RevealedSound_ok : SysOk Try.prog 5 saleroomlaw36_RevealedSound_S := sys_ok (c := (cg [] [] [] false false false true)) (progOkG _ _ _ _ _ _ _ _) Try.func5 Try.call5 (by kernel_rfl) saleroomlaw36_RevealedSound_pats saleroomlaw36_RevealedSound_S 5000 rfl (by kernel_rfl) (by kernel_rfl) rfl
def saleroomlaw36_RevealedTruthful_s : PT :=
 (.need (.is 0 0)
 (.ite (.lt (.l 20) (.slen 0))
  (.call 14 [] [] [(.one .bool)]
  (.ret false (.bool (.a 0)) []))
  (.need (.is 0 1)
  (.ite (.lt (.l 8) (.slen 1))
   (.call 14 [] [] [(.one .bool)]
   (.ret false (.bool (.a 0)) []))
   (.call 37 [(.va 0), (.agg [(.int .i64 (.a 0)), (.int .i64 (.a 1)), (.int .i64 (.a 2)), (.int .i64 (.a 3)), (.int .i64 (.a 4)), (.int .i64 (.a 5))]), (.va 1)] [] [(.one .val)]
   (.need (.is 0 2)
   (.need (.is 0 1)
   (.ite (.not (.eq (.slen 2) (.slen 1)))
    (.ret false (.bool (.t false)) [])
    (.call 17 [(.va 2)] [] [(.one .bool)]
    (.ite (.not (.a 0))
     (.call 14 [] [] [(.one .bool)]
     (.ret false (.bool (.a 1)) []))
     (.call 15 [(.va 2)] [] [(.agg [.val, .val]), (.one .bool)]
     (.ite (.a 1)
      (.call 14 [] [] [(.one .bool)]
      (.ret false (.bool (.a 2)) []))
      (.ret false (.bool (.t false)) [])))))))))))))
def saleroomlaw36_RevealedTruthful_S : Sx.Sys := ⟨[(.sh (.one .val)), (.sh (.agg [(.int .i64), (.int .i64), (.int .i64), (.int .i64), (.int .i64), (.int .i64)])), (.sh (.one .val))], saleroomlaw36_RevealedTruthful_s, [], none⟩
def saleroomlaw36_RevealedTruthful_pats : List Cfg := []
theorem saleroomlaw36_RevealedTruthful_ok : SysOk Try.prog 13 saleroomlaw36_RevealedTruthful_S := sys_ok (c := (cg [] [] [] false false false true)) (progOkG _ _ _ _ _ _ _ _) Try.func13 Try.call13 (by kernel_rfl) saleroomlaw36_RevealedTruthful_pats saleroomlaw36_RevealedTruthful_S 5000 rfl (by kernel_rfl) (by kernel_rfl) rfl
def saleroomref36_Gain_s : PT :=
 (.call 44 [(.agg [(.int .i64 (.a 0)), (.int .i64 (.a 1)), (.int .i64 (.a 2)), (.int .i64 (.a 3)), (.int .i64 (.a 4)), (.int .i64 (.a 5)), (.int .i64 (.a 6)), (.int .i64 (.a 7)), (.int .i64 (.a 8)), (.int .i64 (.a 9)), (.int .i64 (.a 10)), (.int .i64 (.a 11))])] [] [(.one .bool)]
 (.ite (.not (.a 0))
  (.ret false (.int .i64 (.l 0)) [])
  (.call 44 [(.agg [(.int .i64 (.a 12)), (.int .i64 (.a 13)), (.int .i64 (.a 14)), (.int .i64 (.a 15)), (.int .i64 (.a 16)), (.int .i64 (.a 17)), (.int .i64 (.a 18)), (.int .i64 (.a 19)), (.int .i64 (.a 20)), (.int .i64 (.a 21)), (.int .i64 (.a 22)), (.int .i64 (.a 23))])] [] [(.one .bool)]
  (.ite (.not (.a 1))
   (.ret false (.int .i64 (.l 0)) [])
   (.call 43 [(.agg [(.int .i64 (.a 0)), (.int .i64 (.a 1)), (.int .i64 (.a 2)), (.int .i64 (.a 3)), (.int .i64 (.a 4)), (.int .i64 (.a 5)), (.int .i64 (.a 6)), (.int .i64 (.a 7)), (.int .i64 (.a 8)), (.int .i64 (.a 9)), (.int .i64 (.a 10)), (.int .i64 (.a 11))]), (.agg [(.int .i64 (.a 18)), (.int .i64 (.a 19)), (.int .i64 (.a 20)), (.int .i64 (.a 21)), (.int .i64 (.a 22)), (.int .i64 (.a 23))])] [] [(.one (.int .i64))]
   (.call 43 [(.agg [(.int .i64 (.a 0)), (.int .i64 (.a 1)), (.int .i64 (.a 2)), (.int .i64 (.a 3)), (.int .i64 (.a 4)), (.int .i64 (.a 5)), (.int .i64 (.a 6)), (.int .i64 (.a 7)), (.int .i64 (.a 8)), (.int .i64 (.a 9)), (.int .i64 (.a 10)), (.int .i64 (.a 11))]), (.agg [(.int .i64 (.a 6)), (.int .i64 (.a 7)), (.int .i64 (.a 8)), (.int .i64 (.a 9)), (.int .i64 (.a 10)), (.int .i64 (.a 11))])] [] [(.one (.int .i64))]
   (.need (.and (.le (.l (-9223372036854775808)) (.sub (.a 24) (.a 25))) (.le (.sub (.a 24) (.a 25)) (.l 9223372036854775807)))
   (.ret false (.int .i64 (.sub (.a 24) (.a 25))) []))))))))
def saleroomref36_Gain_S : Sx.Sys := ⟨[(.sh (.agg [(.int .i64), (.int .i64), (.int .i64), (.int .i64), (.int .i64), (.int .i64), (.int .i64), (.int .i64), (.int .i64), (.int .i64), (.int .i64), (.int .i64)])), (.sh (.agg [(.int .i64), (.int .i64), (.int .i64), (.int .i64), (.int .i64), (.int .i64), (.int .i64), (.int .i64), (.int .i64), (.int .i64), (.int .i64), (.int .i64)]))], saleroomref36_Gain_s, [], none⟩
def saleroomref36_Gain_pats : List Cfg := []
theorem saleroomref36_Gain_ok : SysOk Try.prog 21 saleroomref36_Gain_S := sys_ok (c := (cg [] [] [] false false false true)) (progOkG _ _ _ _ _ _ _ _) Try.func21 Try.call21 (by kernel_rfl) saleroomref36_Gain_pats saleroomref36_Gain_S 5000 rfl (by kernel_rfl) (by kernel_rfl) rfl
def activity_Exited_s : PT :=
 (.need (.is 0 0)
 (.ite (.lt (.l 0) (.slen 0))
  (.need (.is 0 0)
  (.need (.and (.le (.l (-9223372036854775808)) (.sub (.slen 0) (.l 1))) (.le (.sub (.slen 0) (.l 1)) (.l 9223372036854775807)))
  (.need (.and (.le (.l 0) (.sub (.slen 0) (.l 1))) (.lt (.sub (.slen 0) (.l 1)) (.slen 0)))
  (.load false (.ea 0 (.sub (.slen 0) (.l 1)) 12 6) [(.int .i64), (.int .i64), (.int .i64), (.int .i64), (.int .i64), (.int .i64)]
  (.ret false (.bool (.and (.eq (.a 0) (.l 0)) (.and (.eq (.a 1) (.l 0)) (.and (.eq (.a 2) (.l 0)) (.and (.eq (.a 3) (.l 0)) (.and (.eq (.a 4) (.l 0)) (.eq (.a 5) (.l 0)))))))) [])))))
  (.ret false (.bool (.t false)) [])))
def activity_Exited_S : Sx.Sys := ⟨[(.sh (.one .val))], activity_Exited_s, [], none⟩
def activity_Exited_pats : List Cfg := []
theorem activity_Exited_ok : SysOk Try.prog 29 activity_Exited_S := sys_ok (c := (cg [] [] [] false false false true)) (progOkG _ _ _ _ _ _ _ _) Try.func29 Try.call29 (by kernel_rfl) activity_Exited_pats activity_Exited_S 5000 rfl (by kernel_rfl) (by kernel_rfl) rfl
def demandset_Path_s : PT :=
 (.need (.is 0 1)
 (.jump 0 [(.slen 1), (.l 0), (.a 0), (.a 1), (.a 2), (.a 3), (.a 4), (.a 5)] [] [(.va 0), .nilS, (.va 1)]))
def demandset_Path_t0 : PT :=
 (.ite (.lt (.a 1) (.a 0))
  (.need (.and (.le (.l 0) (.a 1)) (.lt (.a 1) (.slen 2)))
  (.load false (.ea 2 (.a 1) 6 0) [(.int .i64), (.int .i64), (.int .i64), (.int .i64), (.int .i64), (.int .i64)]
  (.call 62 [(.va 0), (.agg [(.int .i64 (.a 2)), (.int .i64 (.a 3)), (.int .i64 (.a 4)), (.int .i64 (.a 5)), (.int .i64 (.a 6)), (.int .i64 (.a 7))]), (.agg [(.int .i64 (.a 8)), (.int .i64 (.a 9)), (.int .i64 (.a 10)), (.int .i64 (.a 11)), (.int .i64 (.a 12)), (.int .i64 (.a 13))])] [] [(.agg [(.int .i64), (.int .i64), (.int .i64), (.int .i64), (.int .i64), (.int .i64)]), (.one (.int .i64))]
  (.app none (.lit [[(.int .i64 (.a 8)), (.int .i64 (.a 9)), (.int .i64 (.a 10)), (.int .i64 (.a 11)), (.int .i64 (.a 12)), (.int .i64 (.a 13)), (.int .i64 (.a 14)), (.int .i64 (.a 15)), (.int .i64 (.a 16)), (.int .i64 (.a 17)), (.int .i64 (.a 18)), (.int .i64 (.a 19))]]) 12
  (.app (some 1) (.va 3) 12
  (.need (.and (.le (.l (-9223372036854775808)) (.add (.a 1) (.l 1))) (.le (.add (.a 1) (.l 1)) (.l 9223372036854775807)))
  (.jump 0 [(.a 0), (.add (.a 1) (.l 1)), (.a 2), (.a 3), (.a 4), (.a 5), (.a 6), (.a 7)] [] [(.va 0), (.va 4), (.va 2)])))))))
  (.ret false (.va 1) []))
def demandset_Path_S : Sx.Sys := ⟨[(.sh (.one .val)), (.sh (.agg [(.int .i64), (.int .i64), (.int .i64), (.int .i64), (.int .i64), (.int .i64)])), (.sh (.one .val))], demandset_Path_s, [demandset_Path_t0], none⟩
def demandset_Path_pats : List Cfg := [{ todo := [(.code [false, false, true, false, true, true]), (.inLoop [false, false, true, false, true, true]), (.inBlock 0), (.code [true, true, true])], sl := [(.va 0), (.junk 0), (.junk 1), .undef, (.ptr 0 0), .undef, (.junk 2), (.va 1), .undef, (.junk 3), (.junk 4), (.junk 5), (.va 2), (.int .i64 (.a 0)), (.int .i64 (.a 1)), (.junk 6), (.junk 7), (.junk 8), (.junk 9), (.junk 10), (.junk 11), (.junk 12), (.junk 13), (.junk 14), (.junk 15), (.junk 16), (.junk 17), (.junk 18), (.junk 19), (.junk 20), (.junk 21), (.junk 22), .undef], H := [(.cells [(.int .i64 (.a 2)), (.int .i64 (.a 3)), (.int .i64 (.a 4)), (.int .i64 (.a 5)), (.int .i64 (.a 6)), (.int .i64 (.a 7))] 42 false), (.row 1 44 12)], ni := 8, nb := 0, nv := 3, nj := 23 }]
theorem demandset_Path_ok : SysOk Try.prog 37 demandset_Path_S := sys_ok (c := (cg [[false, false, true, false, true, true]] [] [] false false false true)) (progOkG _ _ _ _ _ _ _ _) Try.func37 Try.call37 (by kernel_rfl) demandset_Path_pats demandset_Path_S 5000 rfl (by kernel_rfl) (by kernel_rfl) rfl
def saleroomref36_explains_s : PT :=
 (.need (.is 0 1)
 (.need (.is 0 0)
 (.ite (.not (.eq (.slen 1) (.slen 0)))
  (.ret false (.bool (.t false)) [])
  (.jump 0 [(.l 0)] [] [(.va 0), (.va 1)]))))
def saleroomref36_explains_t0 : PT :=
 (.need (.is 0 0)
 (.ite (.lt (.a 0) (.slen 0))
  (.need (.and (.le (.l 0) (.a 0)) (.lt (.a 0) (.slen 0)))
  (.need (.and (.le (.l 0) (.a 0)) (.lt (.a 0) (.slen 0)))
  (.load true (.ea 0 (.a 0) 12 0) [(.int .i64), (.int .i64), (.int .i64), (.int .i64), (.int .i64), (.int .i64), (.int .i64), (.int .i64), (.int .i64), (.int .i64), (.int .i64), (.int .i64)]
  (.load true (.ea 0 (.a 0) 12 6) [(.int .i64), (.int .i64), (.int .i64), (.int .i64), (.int .i64), (.int .i64)]
  (.call 43 [(.agg [(.int .i64 (.a 1)), (.int .i64 (.a 2)), (.int .i64 (.a 3)), (.int .i64 (.a 4)), (.int .i64 (.a 5)), (.int .i64 (.a 6)), (.int .i64 (.a 7)), (.int .i64 (.a 8)), (.int .i64 (.a 9)), (.int .i64 (.a 10)), (.int .i64 (.a 11)), (.int .i64 (.a 12))]), (.agg [(.int .i64 (.a 13)), (.int .i64 (.a 14)), (.int .i64 (.a 15)), (.int .i64 (.a 16)), (.int .i64 (.a 17)), (.int .i64 (.a 18))])] [] [(.one (.int .i64))]
  (.need (.and (.le (.l 0) (.a 0)) (.lt (.a 0) (.slen 1)))
  (.load false (.ea 1 (.a 0) 1 0) [(.int .i64)]
  (.ite (.lt (.a 20) (.a 19))
   (.ret false (.bool (.t false)) [])
   (.need (.and (.le (.l 0) (.a 0)) (.lt (.a 0) (.slen 0)))
   (.load false (.ea 0 (.a 0) 12 6) [(.int .i64), (.int .i64), (.int .i64), (.int .i64), (.int .i64), (.int .i64)]
   (.ite (.and (.eq (.a 21) (.l 0)) (.and (.eq (.a 22) (.l 0)) (.and (.eq (.a 23) (.l 0)) (.and (.eq (.a 24) (.l 0)) (.and (.eq (.a 25) (.l 0)) (.eq (.a 26) (.l 0)))))))
    (.need (.and (.le (.l 0) (.a 0)) (.lt (.a 0) (.slen 1)))
    (.load false (.ea 1 (.a 0) 1 0) [(.int .i64)]
    (.ite (.not (.eq (.a 27) (.l 0)))
     (.ret false (.bool (.t false)) [])
     (.jump 1 [(.a 0), (.a 19), (.l 0), (.a 0), (.a 21), (.a 22), (.a 23), (.a 24), (.a 25), (.a 26)] [(.and (.eq (.a 21) (.l 0)) (.and (.eq (.a 22) (.l 0)) (.and (.eq (.a 23) (.l 0)) (.and (.eq (.a 24) (.l 0)) (.and (.eq (.a 25) (.l 0)) (.eq (.a 26) (.l 0))))))), (.t true), (.not (.eq (.a 27) (.l 0)))] [(.va 0), (.va 1)]))))
    (.jump 1 [(.a 0), (.a 19), (.l 0), (.a 0), (.a 21), (.a 22), (.a 23), (.a 24), (.a 25), (.a 26)] [(.and (.eq (.a 21) (.l 0)) (.and (.eq (.a 22) (.l 0)) (.and (.eq (.a 23) (.l 0)) (.and (.eq (.a 24) (.l 0)) (.and (.eq (.a 25) (.l 0)) (.eq (.a 26) (.l 0))))))), (.t false), (.t false)] [(.va 0), (.va 1)]))))))))))))
  (.ret false (.bool (.t true)) [])))
def saleroomref36_explains_t1 : PT :=
 (.need (.is 0 0)
 (.ite (.lt (.a 2) (.slen 0))
  (.need (.and (.le (.l 0) (.a 0)) (.lt (.a 0) (.slen 0)))
  (.need (.and (.le (.l 0) (.a 2)) (.lt (.a 2) (.slen 0)))
  (.load true (.ea 0 (.a 0) 12 6) [(.int .i64), (.int .i64), (.int .i64), (.int .i64), (.int .i64), (.int .i64)]
  (.load true (.ea 0 (.a 2) 12 6) [(.int .i64), (.int .i64), (.int .i64), (.int .i64), (.int .i64), (.int .i64)]
  (.ite (.and (.eq (.a 10) (.a 16)) (.and (.eq (.a 11) (.a 17)) (.and (.eq (.a 12) (.a 18)) (.and (.eq (.a 13) (.a 19)) (.and (.eq (.a 14) (.a 20)) (.eq (.a 15) (.a 21)))))))
   (.need (.and (.le (.l 0) (.a 0)) (.lt (.a 0) (.slen 1)))
   (.need (.and (.le (.l 0) (.a 2)) (.lt (.a 2) (.slen 1)))
   (.load true (.ea 1 (.a 0) 1 0) [(.int .i64)]
   (.load true (.ea 1 (.a 2) 1 0) [(.int .i64)]
   (.ite (.not (.eq (.a 22) (.a 23)))
    (.ret false (.bool (.t false)) [])
    (.need (.and (.le (.l 0) (.a 0)) (.lt (.a 0) (.slen 1)))
    (.need (.and (.le (.l 0) (.a 2)) (.lt (.a 2) (.slen 1)))
    (.need (.and (.le (.l 0) (.a 0)) (.lt (.a 0) (.slen 0)))
    (.need (.and (.le (.l 0) (.a 2)) (.lt (.a 2) (.slen 0)))
    (.load true (.ea 1 (.a 0) 1 0) [(.int .i64)]
    (.need (.and (.le (.l (-9223372036854775808)) (.sub (.a 24) (.a 1))) (.le (.sub (.a 24) (.a 1)) (.l 9223372036854775807)))
    (.load true (.ea 1 (.a 2) 1 0) [(.int .i64)]
    (.load true (.ea 0 (.a 0) 12 0) [(.int .i64), (.int .i64), (.int .i64), (.int .i64), (.int .i64), (.int .i64), (.int .i64), (.int .i64), (.int .i64), (.int .i64), (.int .i64), (.int .i64)]
    (.load true (.ea 0 (.a 2) 12 6) [(.int .i64), (.int .i64), (.int .i64), (.int .i64), (.int .i64), (.int .i64)]
    (.call 43 [(.agg [(.int .i64 (.a 26)), (.int .i64 (.a 27)), (.int .i64 (.a 28)), (.int .i64 (.a 29)), (.int .i64 (.a 30)), (.int .i64 (.a 31)), (.int .i64 (.a 32)), (.int .i64 (.a 33)), (.int .i64 (.a 34)), (.int .i64 (.a 35)), (.int .i64 (.a 36)), (.int .i64 (.a 37))]), (.agg [(.int .i64 (.a 38)), (.int .i64 (.a 39)), (.int .i64 (.a 40)), (.int .i64 (.a 41)), (.int .i64 (.a 42)), (.int .i64 (.a 43))])] [] [(.one (.int .i64))]
    (.need (.and (.le (.l (-9223372036854775808)) (.sub (.a 25) (.a 44))) (.le (.sub (.a 25) (.a 44)) (.l 9223372036854775807)))
    (.ite (.lt (.sub (.a 24) (.a 1)) (.sub (.a 25) (.a 44)))
     (.ret false (.bool (.t false)) [])
     (.need (.and (.le (.l (-9223372036854775808)) (.add (.a 2) (.l 1))) (.le (.add (.a 2) (.l 1)) (.l 9223372036854775807)))
     (.jump 1 [(.a 0), (.a 1), (.add (.a 2) (.l 1)), (.a 3), (.a 4), (.a 5), (.a 6), (.a 7), (.a 8), (.a 9)] [(.a 0), (.a 1), (.a 2)] [(.va 0), (.va 1)])))))))))))))))))))
   (.need (.and (.le (.l 0) (.a 0)) (.lt (.a 0) (.slen 1)))
   (.need (.and (.le (.l 0) (.a 2)) (.lt (.a 2) (.slen 1)))
   (.need (.and (.le (.l 0) (.a 0)) (.lt (.a 0) (.slen 0)))
   (.need (.and (.le (.l 0) (.a 2)) (.lt (.a 2) (.slen 0)))
   (.load true (.ea 1 (.a 0) 1 0) [(.int .i64)]
   (.need (.and (.le (.l (-9223372036854775808)) (.sub (.a 22) (.a 1))) (.le (.sub (.a 22) (.a 1)) (.l 9223372036854775807)))
   (.load true (.ea 1 (.a 2) 1 0) [(.int .i64)]
   (.load true (.ea 0 (.a 0) 12 0) [(.int .i64), (.int .i64), (.int .i64), (.int .i64), (.int .i64), (.int .i64), (.int .i64), (.int .i64), (.int .i64), (.int .i64), (.int .i64), (.int .i64)]
   (.load true (.ea 0 (.a 2) 12 6) [(.int .i64), (.int .i64), (.int .i64), (.int .i64), (.int .i64), (.int .i64)]
   (.call 43 [(.agg [(.int .i64 (.a 24)), (.int .i64 (.a 25)), (.int .i64 (.a 26)), (.int .i64 (.a 27)), (.int .i64 (.a 28)), (.int .i64 (.a 29)), (.int .i64 (.a 30)), (.int .i64 (.a 31)), (.int .i64 (.a 32)), (.int .i64 (.a 33)), (.int .i64 (.a 34)), (.int .i64 (.a 35))]), (.agg [(.int .i64 (.a 36)), (.int .i64 (.a 37)), (.int .i64 (.a 38)), (.int .i64 (.a 39)), (.int .i64 (.a 40)), (.int .i64 (.a 41))])] [] [(.one (.int .i64))]
   (.need (.and (.le (.l (-9223372036854775808)) (.sub (.a 23) (.a 42))) (.le (.sub (.a 23) (.a 42)) (.l 9223372036854775807)))
   (.ite (.lt (.sub (.a 22) (.a 1)) (.sub (.a 23) (.a 42)))
    (.ret false (.bool (.t false)) [])
    (.need (.and (.le (.l (-9223372036854775808)) (.add (.a 2) (.l 1))) (.le (.add (.a 2) (.l 1)) (.l 9223372036854775807)))
    (.jump 1 [(.a 0), (.a 1), (.add (.a 2) (.l 1)), (.a 3), (.a 4), (.a 5), (.a 6), (.a 7), (.a 8), (.a 9)] [(.a 0), (.a 1), (.a 2)] [(.va 0), (.va 1)])))))))))))))))))))
  (.need (.and (.le (.l (-9223372036854775808)) (.add (.a 0) (.l 1))) (.le (.add (.a 0) (.l 1)) (.l 9223372036854775807)))
  (.jump 0 [(.add (.a 0) (.l 1))] [] [(.va 0), (.va 1)]))))
def saleroomref36_explains_S : Sx.Sys := ⟨[(.sh (.one .val)), (.sh (.one .val))], saleroomref36_explains_s, [saleroomref36_explains_t0, saleroomref36_explains_t1], none⟩
def saleroomref36_explains_pats : List Cfg := [{ todo := [(.code [false, false, true, false, true, true]), (.inLoop [false, false, true, false, true, true]), (.inBlock 0), (.code [true, true, true])], sl := [(.va 0), (.va 1), .undef, .undef, (.junk 0), (.int .i64 (.a 0)), (.junk 1), (.junk 2), (.junk 3), (.junk 4), (.junk 5), (.junk 6), (.junk 7), (.junk 8), (.junk 9), (.junk 10), (.junk 11), (.junk 12), (.junk 13), (.junk 14), (.junk 15), (.junk 16), (.junk 17), (.junk 18), (.junk 19), (.junk 20), (.junk 21), (.junk 22), (.junk 23), (.junk 24), (.junk 25), (.junk 26), (.junk 27), (.junk 28), (.junk 29), (.junk 30), (.junk 31), (.junk 32), (.junk 33), (.junk 34), (.junk 35), (.junk 36), (.junk 37), (.junk 38), (.junk 39), (.junk 40), (.junk 41), (.junk 42), (.junk 43), (.junk 44), (.junk 45), (.junk 46), (.junk 47), (.junk 48), (.junk 49), (.junk 50), (.junk 51), (.junk 52), (.junk 53), (.junk 54), (.junk 55), (.junk 56), (.junk 57), (.junk 58), (.junk 59), (.junk 60), (.junk 61), (.junk 62), (.junk 63), (.junk 64), (.junk 65), (.junk 66), (.junk 67), (.junk 68), (.junk 69), (.junk 70), (.junk 71), (.junk 72), (.junk 73), (.junk 74), (.junk 75), (.junk 76), (.junk 77), (.junk 78), (.junk 79), (.junk 80), (.junk 81), (.junk 82), (.junk 83), (.junk 84), (.junk 85), (.junk 86), (.junk 87), (.junk 88), (.junk 89), (.junk 90), (.junk 91), (.junk 92), (.junk 93), (.junk 94), (.junk 95), (.junk 96), (.junk 97)], H := [], ni := 1, nb := 0, nv := 2, nj := 98 },
 { todo := [(.code [false, false, true, true, true, false, false, true, false, false, true, false, true, true]), (.inLoop [false, false, true, true, true, false, false, true, false, false, true, false, true, true]), (.inBlock 2), (.inBlock 1), (.code [true, true, false, false, true, false, true, true]), (.inLoop [false, false, true, false, true, true]), (.inBlock 0), (.code [true, true, true])], sl := [(.va 0), (.va 1), .undef, .undef, (.junk 0), (.int .i64 (.a 0)), (.int .i64 (.a 1)), (.int .i64 (.a 2)), (.junk 1), (.junk 2), (.junk 3), (.junk 4), (.junk 5), (.junk 6), (.junk 7), (.junk 8), (.junk 9), (.junk 10), (.junk 11), (.junk 12), (.junk 13), (.junk 14), (.junk 15), (.junk 16), (.junk 17), (.junk 18), (.junk 19), (.junk 20), (.junk 21), (.junk 22), (.junk 23), (.junk 24), (.junk 25), (.junk 26), (.junk 27), (.junk 28), (.va 0), (.int .i64 (.a 0)), (.ea 0 (.a 3) 12 0), (.ea 0 (.a 3) 12 6), (.agg [(.int .i64 (.a 4)), (.int .i64 (.a 5)), (.int .i64 (.a 6)), (.int .i64 (.a 7)), (.int .i64 (.a 8)), (.int .i64 (.a 9))]), (.agg [(.int .i64 (.l 0)), (.int .i64 (.l 0)), (.int .i64 (.l 0)), (.int .i64 (.l 0)), (.int .i64 (.l 0)), (.int .i64 (.l 0))]), (.bool (.a 0)), (.bool (.a 1)), (.junk 29), (.junk 30), (.junk 31), (.junk 32), (.junk 33), (.bool (.a 2)), (.junk 34), (.junk 35), (.junk 36), (.junk 37), (.junk 38), (.junk 39), (.junk 40), (.junk 41), (.junk 42), (.junk 43), (.junk 44), (.junk 45), (.junk 46), (.junk 47), (.junk 48), (.junk 49), (.junk 50), (.junk 51), (.junk 52), (.junk 53), (.junk 54), (.junk 55), (.junk 56), (.junk 57), (.junk 58), (.junk 59), (.junk 60), (.junk 61), (.junk 62), (.junk 63), (.junk 64), (.junk 65), (.junk 66), (.junk 67), (.junk 68), (.junk 69), (.junk 70), (.junk 71), (.junk 72), (.junk 73), (.junk 74), (.junk 75), (.junk 76), (.junk 77), (.junk 78), (.junk 79), (.junk 80), (.junk 81), (.junk 82), (.junk 83), (.junk 84), (.junk 85), (.junk 86)], H := [], ni := 10, nb := 3, nv := 2, nj := 87 }]
theorem saleroomref36_explains_ok : SysOk Try.prog 45 saleroomref36_explains_S := sys_ok (c := (cg [[false, false, true, false, true, true], [false, false, true, true, true, false, false, true, false, false, true, false, true, true]] [] [] false false false true)) (progOkG _ _ _ _ _ _ _ _) Try.func45 Try.call45 (by kernel_rfl) saleroomref36_explains_pats saleroomref36_explains_S 5000 rfl (by kernel_rfl) (by kernel_rfl) rfl
def activity_history_either_s : PT :=
 (.call 51 [(.agg [(.va 0), (.va 1), (.va 2), (.va 3), (.int .i64 (.a 0)), (.va 4)]), (.agg [(.int .i64 (.a 1)), (.int .i64 (.a 2)), (.int .i64 (.a 3)), (.int .i64 (.a 4)), (.int .i64 (.a 5)), (.int .i64 (.a 6)), (.int .i64 (.a 7)), (.int .i64 (.a 8)), (.int .i64 (.a 9)), (.int .i64 (.a 10)), (.int .i64 (.a 11)), (.int .i64 (.a 12))])] [] [(.one .bool)]
 (.ite (.a 0)
  (.ret false (.bool (.t true)) [])
  (.call 52 [(.agg [(.va 0), (.va 1), (.va 2), (.va 3), (.int .i64 (.a 0)), (.va 4)]), (.agg [(.int .i64 (.a 1)), (.int .i64 (.a 2)), (.int .i64 (.a 3)), (.int .i64 (.a 4)), (.int .i64 (.a 5)), (.int .i64 (.a 6)), (.int .i64 (.a 7)), (.int .i64 (.a 8)), (.int .i64 (.a 9)), (.int .i64 (.a 10)), (.int .i64 (.a 11)), (.int .i64 (.a 12))])] [] [(.one .bool)]
  (.ret false (.bool (.a 1)) []))))
def activity_history_either_S : Sx.Sys := ⟨[(.sh (.agg [.val, .val, .val, .val, (.int .i64), .val])), (.sh (.agg [(.int .i64), (.int .i64), (.int .i64), (.int .i64), (.int .i64), (.int .i64), (.int .i64), (.int .i64), (.int .i64), (.int .i64), (.int .i64), (.int .i64)]))], activity_history_either_s, [], none⟩
def activity_history_either_pats : List Cfg := []
theorem activity_history_either_ok : SysOk Try.prog 53 activity_history_either_S := sys_ok (c := (cg [] [] [] false false false true)) (progOkG _ _ _ _ _ _ _ _) Try.func53 Try.call53 (by kernel_rfl) activity_history_either_pats activity_history_either_S 5000 rfl (by kernel_rfl) (by kernel_rfl) rfl
def saleroomref08_IsName_s : PT :=
 (.need (.is 3 0)
 (.ite (.lt (.stl 0) (.l 1))
  (.ret false (.bool (.t false)) [])
  (.need (.is 3 0)
  (.ite (.lt (.l 12) (.stl 0))
   (.ret false (.bool (.t false)) [])
   (.jump 0 [(.l 0)] [] [(.va 0)])))))
def saleroomref08_IsName_t0 : PT :=
 (.need (.is 3 0)
 (.ite (.lt (.a 0) (.stl 0))
  (.need (.is 3 0)
  (.need (.and (.le (.l 0) (.a 0)) (.lt (.a 0) (.stl 0)))
  (.ite (.le (.l 97) (.sat 0 (.a 0)))
   (.need (.is 3 0)
   (.need (.and (.le (.l 0) (.a 0)) (.lt (.a 0) (.stl 0)))
   (.ite (.not (.le (.sat 0 (.a 0)) (.l 122)))
    (.ite (.eq (.a 0) (.l 0))
     (.ret false (.bool (.t false)) [])
     (.need (.is 3 0)
     (.need (.and (.le (.l 0) (.a 0)) (.lt (.a 0) (.stl 0)))
     (.ite (.not (.eq (.sat 0 (.a 0)) (.l 95)))
      (.need (.is 3 0)
      (.need (.and (.le (.l 0) (.a 0)) (.lt (.a 0) (.stl 0)))
      (.ite (.lt (.sat 0 (.a 0)) (.l 48))
       (.ret false (.bool (.t false)) [])
       (.need (.is 3 0)
       (.need (.and (.le (.l 0) (.a 0)) (.lt (.a 0) (.stl 0)))
       (.ite (.lt (.l 57) (.sat 0 (.a 0)))
        (.ret false (.bool (.t false)) [])
        (.need (.and (.le (.l (-9223372036854775808)) (.add (.a 0) (.l 1))) (.le (.add (.a 0) (.l 1)) (.l 9223372036854775807)))
        (.jump 0 [(.add (.a 0) (.l 1))] [] [(.va 0)]))))))))
      (.need (.and (.le (.l (-9223372036854775808)) (.add (.a 0) (.l 1))) (.le (.add (.a 0) (.l 1)) (.l 9223372036854775807)))
      (.jump 0 [(.add (.a 0) (.l 1))] [] [(.va 0)]))))))
    (.need (.and (.le (.l (-9223372036854775808)) (.add (.a 0) (.l 1))) (.le (.add (.a 0) (.l 1)) (.l 9223372036854775807)))
    (.jump 0 [(.add (.a 0) (.l 1))] [] [(.va 0)])))))
   (.ite (.eq (.a 0) (.l 0))
    (.ret false (.bool (.t false)) [])
    (.need (.is 3 0)
    (.need (.and (.le (.l 0) (.a 0)) (.lt (.a 0) (.stl 0)))
    (.ite (.not (.eq (.sat 0 (.a 0)) (.l 95)))
     (.need (.is 3 0)
     (.need (.and (.le (.l 0) (.a 0)) (.lt (.a 0) (.stl 0)))
     (.ite (.lt (.sat 0 (.a 0)) (.l 48))
      (.ret false (.bool (.t false)) [])
      (.need (.is 3 0)
      (.need (.and (.le (.l 0) (.a 0)) (.lt (.a 0) (.stl 0)))
      (.ite (.lt (.l 57) (.sat 0 (.a 0)))
       (.ret false (.bool (.t false)) [])
       (.need (.and (.le (.l (-9223372036854775808)) (.add (.a 0) (.l 1))) (.le (.add (.a 0) (.l 1)) (.l 9223372036854775807)))
       (.jump 0 [(.add (.a 0) (.l 1))] [] [(.va 0)]))))))))
     (.need (.and (.le (.l (-9223372036854775808)) (.add (.a 0) (.l 1))) (.le (.add (.a 0) (.l 1)) (.l 9223372036854775807)))
     (.jump 0 [(.add (.a 0) (.l 1))] [] [(.va 0)])))))))))
  (.ret false (.bool (.t true)) [])))
def saleroomref08_IsName_S : Sx.Sys := ⟨[(.sh (.one .val))], saleroomref08_IsName_s, [saleroomref08_IsName_t0], none⟩
def saleroomref08_IsName_pats : List Cfg := [{ todo := [(.code [false, false, true, false, true, true]), (.inLoop [false, false, true, false, true, true]), (.inBlock 0), (.code [true, true, true])], sl := [(.va 0), .undef, (.junk 0), (.int .i64 (.a 0)), (.junk 1), (.junk 2), (.junk 3), (.junk 4), (.junk 5), (.junk 6), (.junk 7), (.junk 8), (.junk 9), (.junk 10), (.junk 11), (.junk 12), (.junk 13), (.junk 14), (.junk 15), (.junk 16), (.junk 17), (.junk 18), (.junk 19), (.junk 20), (.junk 21), (.junk 22), (.junk 23), (.junk 24), (.junk 25), (.junk 26), (.junk 27), (.junk 28), (.junk 29), (.junk 30), (.junk 31), (.junk 32), (.junk 33), (.junk 34), (.junk 35), (.junk 36), (.junk 37), (.junk 38), (.junk 39), (.junk 40), (.junk 41), (.junk 42), (.junk 43), (.junk 44), (.junk 45), (.junk 46), (.junk 47), (.junk 48), (.junk 49)], H := [], ni := 1, nb := 0, nv := 1, nj := 50 }]
theorem saleroomref08_IsName_ok : SysOk Try.prog 61 saleroomref08_IsName_S := sys_ok (c := (cg [[false, false, true, false, true, true]] [] [] false false false true)) (progOkG _ _ _ _ _ _ _ _) Try.func61 Try.call61 (by kernel_rfl) saleroomref08_IsName_pats saleroomref08_IsName_S 5000 rfl (by kernel_rfl) (by kernel_rfl) rfl
def demandset_counting_s : PT :=
 (.need (.is 0 0)
 (.jump 0 [(.slen 0), (.l 0)] [] [.nilS, (.va 0)]))
def demandset_counting_t0 : PT :=
 (.ite (.lt (.a 1) (.a 0))
  (.need (.and (.le (.l 0) (.a 1)) (.lt (.a 1) (.slen 1)))
  (.load false (.ea 1 (.a 1) 8 0) [(.int .i64), (.int .i64), (.int .i64), (.int .i64), (.int .i64), (.int .i64), (.int .i64), (.int .i64)]
  (.call 55 [(.agg [(.int .i64 (.a 3)), (.int .i64 (.a 4)), (.int .i64 (.a 5)), (.int .i64 (.a 6)), (.int .i64 (.a 7)), (.int .i64 (.a 8))])] [] [(.one (.int .i64))]
  (.ite (.eq (.a 10) (.l 0))
   (.ite (.le (.l 1) (.a 9))
    (.ite (.le (.a 9) (.l 1000000))
     (.app none (.lit [[(.int .i64 (.a 2)), (.int .i64 (.a 3)), (.int .i64 (.a 4)), (.int .i64 (.a 5)), (.int .i64 (.a 6)), (.int .i64 (.a 7)), (.int .i64 (.a 8)), (.int .i64 (.a 9))]]) 8
     (.app (some 0) (.va 2) 8
     (.need (.and (.le (.l (-9223372036854775808)) (.add (.a 1) (.l 1))) (.le (.add (.a 1) (.l 1)) (.l 9223372036854775807)))
     (.jump 0 [(.a 0), (.add (.a 1) (.l 1))] [] [(.va 3), (.va 1)]))))
     (.need (.and (.le (.l (-9223372036854775808)) (.add (.a 1) (.l 1))) (.le (.add (.a 1) (.l 1)) (.l 9223372036854775807)))
     (.jump 0 [(.a 0), (.add (.a 1) (.l 1))] [] [(.va 0), (.va 1)])))
    (.need (.and (.le (.l (-9223372036854775808)) (.add (.a 1) (.l 1))) (.le (.add (.a 1) (.l 1)) (.l 9223372036854775807)))
    (.jump 0 [(.a 0), (.add (.a 1) (.l 1))] [] [(.va 0), (.va 1)])))
   (.need (.and (.le (.l (-9223372036854775808)) (.add (.a 1) (.l 1))) (.le (.add (.a 1) (.l 1)) (.l 9223372036854775807)))
   (.jump 0 [(.a 0), (.add (.a 1) (.l 1))] [] [(.va 0), (.va 1)]))))))
  (.ret false (.va 0) []))
def demandset_counting_S : Sx.Sys := ⟨[(.sh (.one .val))], demandset_counting_s, [demandset_counting_t0], none⟩
def demandset_counting_pats : List Cfg := [{ todo := [(.code [false, false, true, false, true, true]), (.inLoop [false, false, true, false, true, true]), (.inBlock 0), (.code [true, true, true])], sl := [(.junk 0), .undef, (.junk 1), (.va 0), .undef, (.junk 2), (.va 1), (.int .i64 (.a 0)), (.int .i64 (.a 1)), (.junk 3), (.junk 4), (.junk 5), (.junk 6), (.junk 7), (.junk 8), (.junk 9), (.junk 10), (.junk 11), (.junk 12), (.junk 13), (.junk 14), (.junk 15), (.junk 16), (.junk 17), (.junk 18), (.junk 19), (.junk 20), (.junk 21), (.junk 22), (.junk 23), (.junk 24), .undef], H := [(.row 0 113 8)], ni := 2, nb := 0, nv := 2, nj := 25 }]
theorem demandset_counting_ok : SysOk Try.prog 70 demandset_counting_S := sys_ok (c := (cg [[false, false, true, false, true, true]] [] [] false false false true)) (progOkG _ _ _ _ _ _ _ _) Try.func70 Try.call70 (by kernel_rfl) demandset_counting_pats demandset_counting_S 5000 rfl (by kernel_rfl) (by kernel_rfl) rfl
def bundle_each_s : PT :=
 (.newM [(.int .i64 (.a 0)), (.int .i64 (.a 1)), (.int .i64 (.a 2)), (.int .i64 (.a 3)), (.int .i64 (.a 4)), (.int .i64 (.a 5))] 42
 (.ret false (.fn 81 0 [(.pa 0 0)]) []))
def bundle_each_S : Sx.Sys := ⟨[(.sh (.agg [(.int .i64), (.int .i64), (.int .i64), (.int .i64), (.int .i64), (.int .i64)]))], bundle_each_s, [], none⟩
def bundle_each_pats : List Cfg := []
theorem bundle_each_ok : SysOk Try.prog 78 bundle_each_S := sys_ok (c := (cg [] [1] [] true false false true)) (progOkG _ _ _ _ _ _ _ _) Try.func78 Try.call78 (by kernel_rfl) bundle_each_pats bundle_each_S 5000 rfl (by kernel_rfl) (by kernel_rfl) rfl
def catalog_Supply_s : PT :=
 (.need (.is 0 0)
 (.jump 0 [(.slen 0), (.l 0), (.l 0), (.l 0), (.l 0), (.l 0), (.l 0), (.l 0)] [] [(.va 0)]))
def catalog_Supply_t0 : PT :=
 (.ite (.lt (.a 1) (.a 0))
  (.need (.and (.le (.l 0) (.a 1)) (.lt (.a 1) (.slen 0)))
  (.load false (.ea 0 (.a 1) 5 0) [.val, (.int .i64), (.int .i64), (.int .i64), (.int .i64)]
  (.ite (.lt (.a 1) (.l 6))
   (.ite (.eq (.a 1) (.l 5))
    (.jump 0 [(.a 0), (.l 6), (.a 2), (.a 3), (.a 4), (.a 5), (.a 6), (.a 8)] [] [(.va 0)])
    (.ite (.eq (.a 1) (.l 4))
     (.jump 0 [(.a 0), (.l 5), (.a 2), (.a 3), (.a 4), (.a 5), (.a 8), (.a 7)] [] [(.va 0)])
     (.ite (.eq (.a 1) (.l 3))
      (.jump 0 [(.a 0), (.l 4), (.a 2), (.a 3), (.a 4), (.a 8), (.a 6), (.a 7)] [] [(.va 0)])
      (.ite (.eq (.a 1) (.l 2))
       (.jump 0 [(.a 0), (.l 3), (.a 2), (.a 3), (.a 8), (.a 5), (.a 6), (.a 7)] [] [(.va 0)])
       (.ite (.eq (.a 1) (.l 1))
        (.jump 0 [(.a 0), (.l 2), (.a 2), (.a 8), (.a 4), (.a 5), (.a 6), (.a 7)] [] [(.va 0)])
        (.ite (.eq (.a 1) (.l 0))
         (.jump 0 [(.a 0), (.l 1), (.a 8), (.a 3), (.a 4), (.a 5), (.a 6), (.a 7)] [] [(.va 0)])
         .stuck))))))
   (.need (.and (.le (.l (-9223372036854775808)) (.add (.a 1) (.l 1))) (.le (.add (.a 1) (.l 1)) (.l 9223372036854775807)))
   (.jump 0 [(.a 0), (.add (.a 1) (.l 1)), (.a 2), (.a 3), (.a 4), (.a 5), (.a 6), (.a 7)] [] [(.va 0)])))))
  (.ret false (.agg [(.int .i64 (.a 2)), (.int .i64 (.a 3)), (.int .i64 (.a 4)), (.int .i64 (.a 5)), (.int .i64 (.a 6)), (.int .i64 (.a 7))]) []))
def catalog_Supply_S : Sx.Sys := ⟨[(.sh (.one .val))], catalog_Supply_s, [catalog_Supply_t0], none⟩
def catalog_Supply_pats : List Cfg := [{ todo := [(.code [false, false, true, false, true, true]), (.inLoop [false, false, true, false, true, true]), (.inBlock 0), (.code [true, true, true])], sl := [(.junk 0), .undef, (.ptr 0 0), (.ptr 1 0), (.junk 1), (.junk 2), (.va 0), (.int .i64 (.a 0)), (.int .i64 (.a 1)), (.junk 3), (.junk 4), (.junk 5), (.junk 6), (.junk 7), (.junk 8), (.junk 9), (.junk 10), (.junk 11), (.junk 12), (.junk 13), .undef], H := [(.cells [(.int .i64 (.l 0)), (.int .i64 (.l 0)), (.int .i64 (.l 0)), (.int .i64 (.l 0)), (.int .i64 (.l 0)), (.int .i64 (.l 0))] 42 false), (.cells [(.int .i64 (.a 2)), (.int .i64 (.a 3)), (.int .i64 (.a 4)), (.int .i64 (.a 5)), (.int .i64 (.a 6)), (.int .i64 (.a 7))] 42 false)], ni := 8, nb := 0, nv := 1, nj := 14 }]
theorem catalog_Supply_ok : SysOk Try.prog 86 catalog_Supply_S := sys_ok (c := (cg [[false, false, true, false, true, true]] [] [] false false false true)) (progOkG _ _ _ _ _ _ _ _) Try.func86 Try.call86 (by kernel_rfl) catalog_Supply_pats catalog_Supply_S 5000 rfl (by kernel_rfl) (by kernel_rfl) rfl
end Go.Proofs.Ythjahianafohjaa
