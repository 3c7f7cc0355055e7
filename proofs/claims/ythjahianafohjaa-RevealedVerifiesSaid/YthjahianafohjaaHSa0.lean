/- The trees of this seat's functions, part 0. Written by txgen.py. -/
import Derived.Test.YthjahianafohjaaHTab
set_option linter.unusedSimpArgs false
set_option linter.unusedVariables false
set_option maxRecDepth 100000
namespace Go.Proofs.Ythjahianafohjaa
open Go.Sx
def saleroomlaw36_RevealedExact_s : PT :=
 (.need (.is 0 0)
 (.ite (.lt (.l 14) (.slen 0))
  (.call 14 [] [] [(.one .bool)]
  (.ret false (.bool (.a 0)) []))
  (.call 15 [(.va 0)] [] [(.agg [.val, .val]), (.one .bool)]
  (.call 16 [(.va 0)] [] [(.agg [.val, .val]), (.one .bool)]
  (.ite (.not (.or (.and (.a 0) (.a 1)) (.and (.not (.a 0)) (.not (.a 1)))))
   (.ret false (.bool (.t false)) [])
   (.call 17 [(.va 0)] [] [(.one .bool)]
   (.ite (.not (.a 2))
    (.need (.is 0 1)
    (.need (.is 0 2)
    (.need (.and (.le (.l (-9223372036854775808)) (.add (.slen 1) (.slen 2))) (.le (.add (.slen 1) (.slen 2)) (.l 9223372036854775807)))
    (.ite (.eq (.add (.slen 1) (.slen 2)) (.l 0))
     (.call 14 [] [] [(.one .bool)]
     (.ret false (.bool (.a 3)) []))
     (.ret false (.bool (.t false)) [])))))
    (.need (.is 0 1)
    (.ite (.not (.or (.and (.a 0) (.eq (.slen 1) (.l 0))) (.and (.not (.a 0)) (.not (.eq (.slen 1) (.l 0))))))
     (.ret false (.bool (.t false)) [])
     (.call 18 [(.va 0), (.agg [(.va 1), (.va 2)])] [] [(.one (.int .i64))]
     (.ite (.eq (.a 0) (.l 0))
      (.call 14 [] [] [(.one .bool)]
      (.ret false (.bool (.a 3)) []))
      (.ret false (.bool (.t false)) []))))))))))))
def saleroomlaw36_RevealedExact_S : Sx.Sys := ⟨[(.sh (.one .val))], saleroomlaw36_RevealedExact_s, []⟩
def saleroomlaw36_RevealedExact_pats : List Cfg := []
theorem saleroomlaw36_RevealedExact_ok : SysOk Try.prog 3 saleroomlaw36_RevealedExact_S := sys_ok (c := (cg [] [] [] false false false true)) (progOkG _ _ _ _ _ _ _) Try.func3 Try.call3 (by kernel_rfl) saleroomlaw36_RevealedExact_pats saleroomlaw36_RevealedExact_S 5000 rfl (by kernel_rfl) (by kernel_rfl)
def saleroomlaw36_lives_s : PT :=
 (.call 38 [] [] [(.one .val)]
 (.call 15 [(.va 0)] [] [(.agg [.val, .val]), (.one .bool)]
 (.need (.lt (.l 0) (.slen 0))
 (.load false (.ea 0 (.l 0) 12 0) [(.int .i64), (.int .i64), (.int .i64), (.int .i64), (.int .i64), (.int .i64), (.int .i64), (.int .i64), (.int .i64), (.int .i64), (.int .i64), (.int .i64)]
 (.app none (.lit [[(.int .i64 (.a 0)), (.int .i64 (.a 1)), (.int .i64 (.a 2)), (.int .i64 (.a 3)), (.int .i64 (.a 4)), (.int .i64 (.a 5)), (.int .i64 (.a 6)), (.int .i64 (.a 7)), (.int .i64 (.a 8)), (.int .i64 (.a 9)), (.int .i64 (.a 10)), (.int .i64 (.a 11))], [(.int .i64 (.l 2)), (.int .i64 (.l 1)), (.int .i64 (.l 0)), (.int .i64 (.l 0)), (.int .i64 (.l 0)), (.int .i64 (.l 0)), (.int .i64 (.l 0)), (.int .i64 (.l 1)), (.int .i64 (.l 0)), (.int .i64 (.l 0)), (.int .i64 (.l 0)), (.int .i64 (.l 0))]]) 12
 (.call 15 [(.va 3)] [] [(.agg [.val, .val]), (.one .bool)]
 (.ite (.not (.a 0))
  (.need (.is 0 1)
  (.ite (.lt (.l 0) (.slen 1))
   (.call 19 [(.va 0), (.agg [(.va 1), (.va 2)])] [] [(.one (.int .i64))]
   (.ite (.eq (.a 12) (.l 0))
    (.ite (.a 1)
     (.call 19 [(.va 3), (.agg [(.va 4), (.va 5)])] [] [(.one (.int .i64))]
     (.ite (.eq (.a 13) (.l 0))
      (.need (.lt (.l 0) (.slen 0))
      (.need (.lt (.l 1) (.slen 0))
      (.load true (.ea 0 (.l 0) 12 0) [(.int .i64), (.int .i64), (.int .i64), (.int .i64), (.int .i64), (.int .i64), (.int .i64), (.int .i64), (.int .i64), (.int .i64), (.int .i64), (.int .i64)]
      (.load true (.ea 0 (.l 1) 12 0) [(.int .i64), (.int .i64), (.int .i64), (.int .i64), (.int .i64), (.int .i64), (.int .i64), (.int .i64), (.int .i64), (.int .i64), (.int .i64), (.int .i64)]
      (.call 20 [(.agg [(.int .i64 (.a 14)), (.int .i64 (.a 15)), (.int .i64 (.a 16)), (.int .i64 (.a 17)), (.int .i64 (.a 18)), (.int .i64 (.a 19)), (.int .i64 (.a 20)), (.int .i64 (.a 21)), (.int .i64 (.a 22)), (.int .i64 (.a 23)), (.int .i64 (.a 24)), (.int .i64 (.a 25))]), (.agg [(.int .i64 (.a 26)), (.int .i64 (.a 27)), (.int .i64 (.a 28)), (.int .i64 (.a 29)), (.int .i64 (.a 30)), (.int .i64 (.a 31)), (.int .i64 (.a 32)), (.int .i64 (.a 33)), (.int .i64 (.a 34)), (.int .i64 (.a 35)), (.int .i64 (.a 36)), (.int .i64 (.a 37))])] [] [(.one (.int .i64))]
      (.ite (.eq (.a 38) (.l 0))
       (.need (.lt (.l 1) (.slen 0))
       (.need (.lt (.l 0) (.slen 0))
       (.load true (.ea 0 (.l 1) 12 0) [(.int .i64), (.int .i64), (.int .i64), (.int .i64), (.int .i64), (.int .i64), (.int .i64), (.int .i64), (.int .i64), (.int .i64), (.int .i64), (.int .i64)]
       (.load true (.ea 0 (.l 0) 12 0) [(.int .i64), (.int .i64), (.int .i64), (.int .i64), (.int .i64), (.int .i64), (.int .i64), (.int .i64), (.int .i64), (.int .i64), (.int .i64), (.int .i64)]
       (.call 20 [(.agg [(.int .i64 (.a 39)), (.int .i64 (.a 40)), (.int .i64 (.a 41)), (.int .i64 (.a 42)), (.int .i64 (.a 43)), (.int .i64 (.a 44)), (.int .i64 (.a 45)), (.int .i64 (.a 46)), (.int .i64 (.a 47)), (.int .i64 (.a 48)), (.int .i64 (.a 49)), (.int .i64 (.a 50))]), (.agg [(.int .i64 (.a 51)), (.int .i64 (.a 52)), (.int .i64 (.a 53)), (.int .i64 (.a 54)), (.int .i64 (.a 55)), (.int .i64 (.a 56)), (.int .i64 (.a 57)), (.int .i64 (.a 58)), (.int .i64 (.a 59)), (.int .i64 (.a 60)), (.int .i64 (.a 61)), (.int .i64 (.a 62))])] [] [(.one (.int .i64))]
       (.ite (.eq (.a 63) (.l (-1)))
        (.app none (.lit [[(.int .i64 (.l 3))], [(.int .i64 (.l 3))]]) 1
        (.call 19 [(.va 3), (.agg [.nilS, (.va 6)])] [] [(.one (.int .i64))]
        (.ite (.eq (.a 64) (.l 0))
         (.app none (.lit [[(.int .i64 (.l 3))]]) 1
         (.call 19 [(.va 3), (.agg [.nilS, (.va 7)])] [] [(.one (.int .i64))]
         (.ret false (.bool (.eq (.a 65) (.l 13))) [])))
         (.ret false (.bool (.t false)) []))))
        (.ret false (.bool (.t false)) [])))))))
       (.ret false (.bool (.t false)) [])))))))
      (.ret false (.bool (.t false)) [])))
     (.ret false (.bool (.t false)) []))
    (.ret false (.bool (.t false)) [])))
   (.ret false (.bool (.t false)) [])))
  (.ret false (.bool (.t false)) []))))))))
def saleroomlaw36_lives_S : Sx.Sys := ⟨[], saleroomlaw36_lives_s, []⟩
def saleroomlaw36_lives_pats : List Cfg := []
theorem saleroomlaw36_lives_ok : SysOk Try.prog 14 saleroomlaw36_lives_S := sys_ok (c := (cg [] [] [] false false false true)) (progOkG _ _ _ _ _ _ _) Try.func14 Try.call14 (by kernel_rfl) saleroomlaw36_lives_pats saleroomlaw36_lives_S 5000 rfl (by kernel_rfl) (by kernel_rfl)
def saleroomlaw37_few_s : PT :=
 (.need (.is 0 0)
 (.ite (.le (.slen 0) (.l 8))
  (.need (.is 0 1)
  (.ret false (.bool (.le (.slen 1) (.l 10))) []))
  (.ret false (.bool (.t false)) [])))
def saleroomlaw37_few_S : Sx.Sys := ⟨[(.sh (.agg [.val, .val, .val, .val]))], saleroomlaw37_few_s, []⟩
def saleroomlaw37_few_pats : List Cfg := []
theorem saleroomlaw37_few_ok : SysOk Try.prog 22 saleroomlaw37_few_S := sys_ok (c := (cg [] [] [] false false false true)) (progOkG _ _ _ _ _ _ _) Try.func22 Try.call22 (by kernel_rfl) saleroomlaw37_few_pats saleroomlaw37_few_S 5000 rfl (by kernel_rfl) (by kernel_rfl)
def saleroomref07_Check_s : PT :=
 (.ite (.lt (.a 0) (.l 0))
  (.ret false (.int .i64 (.l 4)) [])
  (.ite (.lt (.l 4) (.a 0))
   (.ret false (.int .i64 (.l 4)) [])
   (.ite (.lt (.a 1) (.l 0))
    (.ret false (.int .i64 (.l 4)) [])
    (.ite (.lt (.l 4) (.a 1))
     (.ret false (.int .i64 (.l 4)) [])
     (.ite (.lt (.a 2) (.l 0))
      (.ret false (.int .i64 (.l 4)) [])
      (.ite (.lt (.l 4) (.a 2))
       (.ret false (.int .i64 (.l 4)) [])
       (.ite (.lt (.a 3) (.l 0))
        (.ret false (.int .i64 (.l 4)) [])
        (.ite (.lt (.l 4) (.a 3))
         (.ret false (.int .i64 (.l 4)) [])
         (.ite (.lt (.a 4) (.l 0))
          (.ret false (.int .i64 (.l 4)) [])
          (.ite (.lt (.l 4) (.a 4))
           (.ret false (.int .i64 (.l 4)) [])
           (.ite (.lt (.a 5) (.l 0))
            (.ret false (.int .i64 (.l 4)) [])
            (.ite (.lt (.l 4) (.a 5))
             (.ret false (.int .i64 (.l 4)) [])
             (.ret false (.int .i64 (.l 0)) [])))))))))))))
def saleroomref07_Check_S : Sx.Sys := ⟨[(.sh (.agg [(.int .i64), (.int .i64), (.int .i64), (.int .i64), (.int .i64), (.int .i64)]))], saleroomref07_Check_s, []⟩
def saleroomref07_Check_pats : List Cfg := []
theorem saleroomref07_Check_ok : SysOk Try.prog 35 saleroomref07_Check_S := sys_ok (c := (cg [] [] [] false false false true)) (progOkG _ _ _ _ _ _ _) Try.func35 Try.call35 (by kernel_rfl) saleroomref07_Check_pats saleroomref07_Check_S 5000 rfl (by kernel_rfl) (by kernel_rfl)
def saleroomref36_explains_s : PT :=
 (.need (.is 0 1)
 (.need (.is 0 0)
 (.ite (.not (.eq (.slen 1) (.slen 0)))
  (.ret false (.bool (.t false)) [])
  (.jump 0 [(.l 0)] [] [(.va 0), (.va 1)]))))
def saleroomref36_explains_t0 : PT :=
 (.need (.is 0 0)
 (.ite (.lt (.a 0) (.slen 0))
  (.need (.and (.le (.l 0) (.a 0)) (.lt (.a 0) (.slen 0)))
  (.need (.and (.le (.l 0) (.a 0)) (.lt (.a 0) (.slen 0)))
  (.load true (.ea 0 (.a 0) 12 0) [(.int .i64), (.int .i64), (.int .i64), (.int .i64), (.int .i64), (.int .i64), (.int .i64), (.int .i64), (.int .i64), (.int .i64), (.int .i64), (.int .i64)]
  (.load true (.ea 0 (.a 0) 12 6) [(.int .i64), (.int .i64), (.int .i64), (.int .i64), (.int .i64), (.int .i64)]
  (.call 43 [(.agg [(.int .i64 (.a 1)), (.int .i64 (.a 2)), (.int .i64 (.a 3)), (.int .i64 (.a 4)), (.int .i64 (.a 5)), (.int .i64 (.a 6)), (.int .i64 (.a 7)), (.int .i64 (.a 8)), (.int .i64 (.a 9)), (.int .i64 (.a 10)), (.int .i64 (.a 11)), (.int .i64 (.a 12))]), (.agg [(.int .i64 (.a 13)), (.int .i64 (.a 14)), (.int .i64 (.a 15)), (.int .i64 (.a 16)), (.int .i64 (.a 17)), (.int .i64 (.a 18))])] [] [(.one (.int .i64))]
  (.need (.and (.le (.l 0) (.a 0)) (.lt (.a 0) (.slen 1)))
  (.load false (.ea 1 (.a 0) 1 0) [(.int .i64)]
  (.ite (.lt (.a 20) (.a 19))
   (.ret false (.bool (.t false)) [])
   (.need (.and (.le (.l 0) (.a 0)) (.lt (.a 0) (.slen 0)))
   (.load false (.ea 0 (.a 0) 12 6) [(.int .i64), (.int .i64), (.int .i64), (.int .i64), (.int .i64), (.int .i64)]
   (.ite (.and (.eq (.a 21) (.l 0)) (.and (.eq (.a 22) (.l 0)) (.and (.eq (.a 23) (.l 0)) (.and (.eq (.a 24) (.l 0)) (.and (.eq (.a 25) (.l 0)) (.eq (.a 26) (.l 0)))))))
    (.need (.and (.le (.l 0) (.a 0)) (.lt (.a 0) (.slen 1)))
    (.load false (.ea 1 (.a 0) 1 0) [(.int .i64)]
    (.ite (.not (.eq (.a 27) (.l 0)))
     (.ret false (.bool (.t false)) [])
     (.jump 1 [(.a 0), (.a 19), (.l 0), (.a 0), (.a 21), (.a 22), (.a 23), (.a 24), (.a 25), (.a 26)] [(.and (.eq (.a 21) (.l 0)) (.and (.eq (.a 22) (.l 0)) (.and (.eq (.a 23) (.l 0)) (.and (.eq (.a 24) (.l 0)) (.and (.eq (.a 25) (.l 0)) (.eq (.a 26) (.l 0))))))), (.t true), (.not (.eq (.a 27) (.l 0)))] [(.va 0), (.va 1)]))))
    (.jump 1 [(.a 0), (.a 19), (.l 0), (.a 0), (.a 21), (.a 22), (.a 23), (.a 24), (.a 25), (.a 26)] [(.and (.eq (.a 21) (.l 0)) (.and (.eq (.a 22) (.l 0)) (.and (.eq (.a 23) (.l 0)) (.and (.eq (.a 24) (.l 0)) (.and (.eq (.a 25) (.l 0)) (.eq (.a 26) (.l 0))))))), (.t false), (.t false)] [(.va 0), (.va 1)]))))))))))))
  (.ret false (.bool (.t true)) [])))
def saleroomref36_explains_t1 : PT :=
 (.need (.is 0 0)
 (.ite (.lt (.a 2) (.slen 0))
  (.need (.and (.le (.l 0) (.a 0)) (.lt (.a 0) (.slen 0)))
  (.need (.and (.le (.l 0) (.a 2)) (.lt (.a 2) (.slen 0)))
  (.load true (.ea 0 (.a 0) 12 6) [(.int .i64), (.int .i64), (.int .i64), (.int .i64), (.int .i64), (.int .i64)]
  (.load true (.ea 0 (.a 2) 12 6) [(.int .i64), (.int .i64), (.int .i64), (.int .i64), (.int .i64), (.int .i64)]
  (.ite (.and (.eq (.a 10) (.a 16)) (.and (.eq (.a 11) (.a 17)) (.and (.eq (.a 12) (.a 18)) (.and (.eq (.a 13) (.a 19)) (.and (.eq (.a 14) (.a 20)) (.eq (.a 15) (.a 21)))))))
   (.need (.and (.le (.l 0) (.a 0)) (.lt (.a 0) (.slen 1)))
   (.need (.and (.le (.l 0) (.a 2)) (.lt (.a 2) (.slen 1)))
   (.load true (.ea 1 (.a 0) 1 0) [(.int .i64)]
   (.load true (.ea 1 (.a 2) 1 0) [(.int .i64)]
   (.ite (.not (.eq (.a 22) (.a 23)))
    (.ret false (.bool (.t false)) [])
    (.need (.and (.le (.l 0) (.a 0)) (.lt (.a 0) (.slen 1)))
    (.need (.and (.le (.l 0) (.a 2)) (.lt (.a 2) (.slen 1)))
    (.need (.and (.le (.l 0) (.a 0)) (.lt (.a 0) (.slen 0)))
    (.need (.and (.le (.l 0) (.a 2)) (.lt (.a 2) (.slen 0)))
    (.load true (.ea 1 (.a 0) 1 0) [(.int .i64)]
    (.need (.and (.le (.l (-9223372036854775808)) (.sub (.a 24) (.a 1))) (.le (.sub (.a 24) (.a 1)) (.l 9223372036854775807)))
    (.load true (.ea 1 (.a 2) 1 0) [(.int .i64)]
    (.load true (.ea 0 (.a 0) 12 0) [(.int .i64), (.int .i64), (.int .i64), (.int .i64), (.int .i64), (.int .i64), (.int .i64), (.int .i64), (.int .i64), (.int .i64), (.int .i64), (.int .i64)]
    (.load true (.ea 0 (.a 2) 12 6) [(.int .i64), (.int .i64), (.int .i64), (.int .i64), (.int .i64), (.int .i64)]
    (.call 43 [(.agg [(.int .i64 (.a 26)), (.int .i64 (.a 27)), (.int .i64 (.a 28)), (.int .i64 (.a 29)), (.int .i64 (.a 30)), (.int .i64 (.a 31)), (.int .i64 (.a 32)), (.int .i64 (.a 33)), (.int .i64 (.a 34)), (.int .i64 (.a 35)), (.int .i64 (.a 36)), (.int .i64 (.a 37))]), (.agg [(.int .i64 (.a 38)), (.int .i64 (.a 39)), (.int .i64 (.a 40)), (.int .i64 (.a 41)), (.int .i64 (.a 42)), (.int .i64 (.a 43))])] [] [(.one (.int .i64))]
    (.need (.and (.le (.l (-9223372036854775808)) (.sub (.a 25) (.a 44))) (.le (.sub (.a 25) (.a 44)) (.l 9223372036854775807)))
    (.ite (.lt (.sub (.a 24) (.a 1)) (.sub (.a 25) (.a 44)))
     (.ret false (.bool (.t false)) [])
     (.need (.and (.le (.l (-9223372036854775808)) (.add (.a 2) (.l 1))) (.le (.add (.a 2) (.l 1)) (.l 9223372036854775807)))
     (.jump 1 [(.a 0), (.a 1), (.add (.a 2) (.l 1)), (.a 3), (.a 4), (.a 5), (.a 6), (.a 7), (.a 8), (.a 9)] [(.a 0), (.a 1), (.a 2)] [(.va 0), (.va 1)])))))))))))))))))))
   (.need (.and (.le (.l 0) (.a 0)) (.lt (.a 0) (.slen 1)))
   (.need (.and (.le (.l 0) (.a 2)) (.lt (.a 2) (.slen 1)))
   (.need (.and (.le (.l 0) (.a 0)) (.lt (.a 0) (.slen 0)))
   (.need (.and (.le (.l 0) (.a 2)) (.lt (.a 2) (.slen 0)))
   (.load true (.ea 1 (.a 0) 1 0) [(.int .i64)]
   (.need (.and (.le (.l (-9223372036854775808)) (.sub (.a 22) (.a 1))) (.le (.sub (.a 22) (.a 1)) (.l 9223372036854775807)))
   (.load true (.ea 1 (.a 2) 1 0) [(.int .i64)]
   (.load true (.ea 0 (.a 0) 12 0) [(.int .i64), (.int .i64), (.int .i64), (.int .i64), (.int .i64), (.int .i64), (.int .i64), (.int .i64), (.int .i64), (.int .i64), (.int .i64), (.int .i64)]
   (.load true (.ea 0 (.a 2) 12 6) [(.int .i64), (.int .i64), (.int .i64), (.int .i64), (.int .i64), (.int .i64)]
   (.call 43 [(.agg [(.int .i64 (.a 24)), (.int .i64 (.a 25)), (.int .i64 (.a 26)), (.int .i64 (.a 27)), (.int .i64 (.a 28)), (.int .i64 (.a 29)), (.int .i64 (.a 30)), (.int .i64 (.a 31)), (.int .i64 (.a 32)), (.int .i64 (.a 33)), (.int .i64 (.a 34)), (.int .i64 (.a 35))]), (.agg [(.int .i64 (.a 36)), (.int .i64 (.a 37)), (.int .i64 (.a 38)), (.int .i64 (.a 39)), (.int .i64 (.a 40)), (.int .i64 (.a 41))])] [] [(.one (.int .i64))]
   (.need (.and (.le (.l (-9223372036854775808)) (.sub (.a 23) (.a 42))) (.le (.sub (.a 23) (.a 42)) (.l 9223372036854775807)))
   (.ite (.lt (.sub (.a 22) (.a 1)) (.sub (.a 23) (.a 42)))
    (.ret false (.bool (.t false)) [])
    (.need (.and (.le (.l (-9223372036854775808)) (.add (.a 2) (.l 1))) (.le (.add (.a 2) (.l 1)) (.l 9223372036854775807)))
    (.jump 1 [(.a 0), (.a 1), (.add (.a 2) (.l 1)), (.a 3), (.a 4), (.a 5), (.a 6), (.a 7), (.a 8), (.a 9)] [(.a 0), (.a 1), (.a 2)] [(.va 0), (.va 1)])))))))))))))))))))
  (.need (.and (.le (.l (-9223372036854775808)) (.add (.a 0) (.l 1))) (.le (.add (.a 0) (.l 1)) (.l 9223372036854775807)))
  (.jump 0 [(.add (.a 0) (.l 1))] [] [(.va 0), (.va 1)]))))
def saleroomref36_explains_S : Sx.Sys := ⟨[(.sh (.one .val)), (.sh (.one .val))], saleroomref36_explains_s, [saleroomref36_explains_t0, saleroomref36_explains_t1]⟩
def saleroomref36_explains_pats : List Cfg := [{ todo := [(.code [false, false, true, false, true, true]), (.inLoop [false, false, true, false, true, true]), (.inBlock 0), (.code [true, true, true])], sl := [(.va 0), (.va 1), .undef, .undef, (.junk 0), (.int .i64 (.a 0)), (.junk 1), (.junk 2), (.junk 3), (.junk 4), (.junk 5), (.junk 6), (.junk 7), (.junk 8), (.junk 9), (.junk 10), (.junk 11), (.junk 12), (.junk 13), (.junk 14), (.junk 15), (.junk 16), (.junk 17), (.junk 18), (.junk 19), (.junk 20), (.junk 21), (.junk 22), (.junk 23), (.junk 24), (.junk 25), (.junk 26), (.junk 27), (.junk 28), (.junk 29), (.junk 30), (.junk 31), (.junk 32), (.junk 33), (.junk 34), (.junk 35), (.junk 36), (.junk 37), (.junk 38), (.junk 39), (.junk 40), (.junk 41), (.junk 42), (.junk 43), (.junk 44), (.junk 45), (.junk 46), (.junk 47), (.junk 48), (.junk 49), (.junk 50), (.junk 51), (.junk 52), (.junk 53), (.junk 54), (.junk 55), (.junk 56), (.junk 57), (.junk 58), (.junk 59), (.junk 60), (.junk 61), (.junk 62), (.junk 63), (.junk 64), (.junk 65), (.junk 66), (.junk 67), (.junk 68), (.junk 69), (.junk 70), (.junk 71), (.junk 72), (.junk 73), (.junk 74), (.junk 75), (.junk 76), (.junk 77), (.junk 78), (.junk 79), (.junk 80), (.junk 81), (.junk 82), (.junk 83), (.junk 84), (.junk 85), (.junk 86), (.junk 87), (.junk 88), (.junk 89), (.junk 90), (.junk 91), (.junk 92), (.junk 93), (.junk 94), (.junk 95), (.junk 96), (.junk 97)], H := [], ni := 1, nb := 0, nv := 2, nj := 98 },
 { todo := [(.code [false, false, true, true, true, false, false, true, false, false, true, false, true, true]), (.inLoop [false, false, true, true, true, false, false, true, false, false, true, false, true, true]), (.inBlock 2), (.inBlock 1), (.code [true, true, false, false, true, false, true, true]), (.inLoop [false, false, true, false, true, true]), (.inBlock 0), (.code [true, true, true])], sl := [(.va 0), (.va 1), .undef, .undef, (.junk 0), (.int .i64 (.a 0)), (.int .i64 (.a 1)), (.int .i64 (.a 2)), (.junk 1), (.junk 2), (.junk 3), (.junk 4), (.junk 5), (.junk 6), (.junk 7), (.junk 8), (.junk 9), (.junk 10), (.junk 11), (.junk 12), (.junk 13), (.junk 14), (.junk 15), (.junk 16), (.junk 17), (.junk 18), (.junk 19), (.junk 20), (.junk 21), (.junk 22), (.junk 23), (.junk 24), (.junk 25), (.junk 26), (.junk 27), (.junk 28), (.va 0), (.int .i64 (.a 0)), (.ea 0 (.a 3) 12 0), (.ea 0 (.a 3) 12 6), (.agg [(.int .i64 (.a 4)), (.int .i64 (.a 5)), (.int .i64 (.a 6)), (.int .i64 (.a 7)), (.int .i64 (.a 8)), (.int .i64 (.a 9))]), (.agg [(.int .i64 (.l 0)), (.int .i64 (.l 0)), (.int .i64 (.l 0)), (.int .i64 (.l 0)), (.int .i64 (.l 0)), (.int .i64 (.l 0))]), (.bool (.a 0)), (.bool (.a 1)), (.junk 29), (.junk 30), (.junk 31), (.junk 32), (.junk 33), (.bool (.a 2)), (.junk 34), (.junk 35), (.junk 36), (.junk 37), (.junk 38), (.junk 39), (.junk 40), (.junk 41), (.junk 42), (.junk 43), (.junk 44), (.junk 45), (.junk 46), (.junk 47), (.junk 48), (.junk 49), (.junk 50), (.junk 51), (.junk 52), (.junk 53), (.junk 54), (.junk 55), (.junk 56), (.junk 57), (.junk 58), (.junk 59), (.junk 60), (.junk 61), (.junk 62), (.junk 63), (.junk 64), (.junk 65), (.junk 66), (.junk 67), (.junk 68), (.junk 69), (.junk 70), (.junk 71), (.junk 72), (.junk 73), (.junk 74), (.junk 75), (.junk 76), (.junk 77), (.junk 78), (.junk 79), (.junk 80), (.junk 81), (.junk 82), (.junk 83), (.junk 84), (.junk 85), (.junk 86)], H := [], ni := 10, nb := 3, nv := 2, nj := 87 }]
theorem saleroomref36_explains_ok : SysOk Try.prog 45 saleroomref36_explains_S := sys_ok (c := (cg [[false, false, true, false, true, true], [false, false, true, true, true, false, false, true, false, false, true, false, true, true]] [] [] false false false true)) (progOkG _ _ _ _ _ _ _) Try.func45 Try.call45 (by kernel_rfl) saleroomref36_explains_pats saleroomref36_explains_S 5000 rfl (by kernel_rfl) (by kernel_rfl)
def activity_has_s : PT :=
 (.ite (.le (.l 0) (.a 0))
  (.need (.is 0 1)
  (.ret false (.bool (.lt (.a 0) (.slen 1))) []))
  (.ret false (.bool (.t false)) []))
def activity_has_S : Sx.Sys := ⟨[(.sh (.agg [.val, .val, .val, .val])), (.sh (.one (.int .i64)))], activity_has_s, []⟩
def activity_has_pats : List Cfg := []
theorem activity_has_ok : SysOk Try.prog 54 activity_has_S := sys_ok (c := (cg [] [] [] false false false true)) (progOkG _ _ _ _ _ _ _) Try.func54 Try.call54 (by kernel_rfl) activity_has_pats activity_has_S 5000 rfl (by kernel_rfl) (by kernel_rfl)
def saleroomref07_Cost_s : PT :=
 (.need (.and (.le (.l (-9223372036854775808)) (.mul (.a 0) (.a 6))) (.le (.mul (.a 0) (.a 6)) (.l 9223372036854775807)))
 (.need (.and (.le (.l (-9223372036854775808)) (.mul (.a 0) (.a 6))) (.le (.mul (.a 0) (.a 6)) (.l 9223372036854775807)))
 (.need (.and (.le (.l (-9223372036854775808)) (.mul (.a 1) (.a 7))) (.le (.mul (.a 1) (.a 7)) (.l 9223372036854775807)))
 (.need (.and (.le (.l (-9223372036854775808)) (.add (.mul (.a 0) (.a 6)) (.mul (.a 1) (.a 7)))) (.le (.add (.mul (.a 0) (.a 6)) (.mul (.a 1) (.a 7))) (.l 9223372036854775807)))
 (.need (.and (.le (.l (-9223372036854775808)) (.mul (.a 2) (.a 8))) (.le (.mul (.a 2) (.a 8)) (.l 9223372036854775807)))
 (.need (.and (.le (.l (-9223372036854775808)) (.add (.add (.mul (.a 0) (.a 6)) (.mul (.a 1) (.a 7))) (.mul (.a 2) (.a 8)))) (.le (.add (.add (.mul (.a 0) (.a 6)) (.mul (.a 1) (.a 7))) (.mul (.a 2) (.a 8))) (.l 9223372036854775807)))
 (.need (.and (.le (.l (-9223372036854775808)) (.mul (.a 3) (.a 9))) (.le (.mul (.a 3) (.a 9)) (.l 9223372036854775807)))
 (.need (.and (.le (.l (-9223372036854775808)) (.add (.add (.add (.mul (.a 0) (.a 6)) (.mul (.a 1) (.a 7))) (.mul (.a 2) (.a 8))) (.mul (.a 3) (.a 9)))) (.le (.add (.add (.add (.mul (.a 0) (.a 6)) (.mul (.a 1) (.a 7))) (.mul (.a 2) (.a 8))) (.mul (.a 3) (.a 9))) (.l 9223372036854775807)))
 (.need (.and (.le (.l (-9223372036854775808)) (.mul (.a 4) (.a 10))) (.le (.mul (.a 4) (.a 10)) (.l 9223372036854775807)))
 (.need (.and (.le (.l (-9223372036854775808)) (.add (.add (.add (.add (.mul (.a 0) (.a 6)) (.mul (.a 1) (.a 7))) (.mul (.a 2) (.a 8))) (.mul (.a 3) (.a 9))) (.mul (.a 4) (.a 10)))) (.le (.add (.add (.add (.add (.mul (.a 0) (.a 6)) (.mul (.a 1) (.a 7))) (.mul (.a 2) (.a 8))) (.mul (.a 3) (.a 9))) (.mul (.a 4) (.a 10))) (.l 9223372036854775807)))
 (.need (.and (.le (.l (-9223372036854775808)) (.mul (.a 5) (.a 11))) (.le (.mul (.a 5) (.a 11)) (.l 9223372036854775807)))
 (.need (.and (.le (.l (-9223372036854775808)) (.add (.add (.add (.add (.add (.mul (.a 0) (.a 6)) (.mul (.a 1) (.a 7))) (.mul (.a 2) (.a 8))) (.mul (.a 3) (.a 9))) (.mul (.a 4) (.a 10))) (.mul (.a 5) (.a 11)))) (.le (.add (.add (.add (.add (.add (.mul (.a 0) (.a 6)) (.mul (.a 1) (.a 7))) (.mul (.a 2) (.a 8))) (.mul (.a 3) (.a 9))) (.mul (.a 4) (.a 10))) (.mul (.a 5) (.a 11))) (.l 9223372036854775807)))
 (.ret false (.int .i64 (.add (.add (.add (.add (.add (.mul (.a 0) (.a 6)) (.mul (.a 1) (.a 7))) (.mul (.a 2) (.a 8))) (.mul (.a 3) (.a 9))) (.mul (.a 4) (.a 10))) (.mul (.a 5) (.a 11)))) [])))))))))))))
def saleroomref07_Cost_S : Sx.Sys := ⟨[(.sh (.agg [(.int .i64), (.int .i64), (.int .i64), (.int .i64), (.int .i64), (.int .i64)])), (.sh (.agg [(.int .i64), (.int .i64), (.int .i64), (.int .i64), (.int .i64), (.int .i64)]))], saleroomref07_Cost_s, []⟩
def saleroomref07_Cost_pats : List Cfg := []
theorem saleroomref07_Cost_ok : SysOk Try.prog 64 saleroomref07_Cost_S := sys_ok (c := (cg [] [] [] false false false true)) (progOkG _ _ _ _ _ _ _) Try.func64 Try.call64 (by kernel_rfl) saleroomref07_Cost_pats saleroomref07_Cost_S 5000 rfl (by kernel_rfl) (by kernel_rfl)
def flatten_Value_s : PT :=
 (.need (.is 0 0)
 (.jump 0 [(.l 0), (.slen 0), (.l 0), (.a 0), (.a 1), (.a 2), (.a 3), (.a 4), (.a 5)] [] [(.va 0)]))
def flatten_Value_t0 : PT :=
 (.ite (.lt (.a 2) (.a 1))
  (.need (.and (.le (.l 0) (.a 2)) (.lt (.a 2) (.slen 0)))
  (.load false (.ea 0 (.a 2) 8 0) [(.int .i64), (.int .i64), (.int .i64), (.int .i64), (.int .i64), (.int .i64), (.int .i64), (.int .i64)]
  (.ite (.lt (.a 0) (.a 16))
   (.call 80 [(.agg [(.int .i64 (.a 10)), (.int .i64 (.a 11)), (.int .i64 (.a 12)), (.int .i64 (.a 13)), (.int .i64 (.a 14)), (.int .i64 (.a 15))]), (.agg [(.int .i64 (.a 3)), (.int .i64 (.a 4)), (.int .i64 (.a 5)), (.int .i64 (.a 6)), (.int .i64 (.a 7)), (.int .i64 (.a 8))])] [] [(.one .bool)]
   (.ite (.a 0)
    (.need (.and (.le (.l (-9223372036854775808)) (.add (.a 2) (.l 1))) (.le (.add (.a 2) (.l 1)) (.l 9223372036854775807)))
    (.jump 0 [(.a 16), (.a 1), (.add (.a 2) (.l 1)), (.a 3), (.a 4), (.a 5), (.a 6), (.a 7), (.a 8)] [] [(.va 0)]))
    (.need (.and (.le (.l (-9223372036854775808)) (.add (.a 2) (.l 1))) (.le (.add (.a 2) (.l 1)) (.l 9223372036854775807)))
    (.jump 0 [(.a 0), (.a 1), (.add (.a 2) (.l 1)), (.a 3), (.a 4), (.a 5), (.a 6), (.a 7), (.a 8)] [] [(.va 0)]))))
   (.need (.and (.le (.l (-9223372036854775808)) (.add (.a 2) (.l 1))) (.le (.add (.a 2) (.l 1)) (.l 9223372036854775807)))
   (.jump 0 [(.a 0), (.a 1), (.add (.a 2) (.l 1)), (.a 3), (.a 4), (.a 5), (.a 6), (.a 7), (.a 8)] [] [(.va 0)])))))
  (.ret false (.int .i64 (.a 0)) []))
def flatten_Value_S : Sx.Sys := ⟨[(.sh (.one .val)), (.sh (.agg [(.int .i64), (.int .i64), (.int .i64), (.int .i64), (.int .i64), (.int .i64)]))], flatten_Value_s, [flatten_Value_t0]⟩
def flatten_Value_pats : List Cfg := [{ todo := [(.code [false, false, true, false, true, true]), (.inLoop [false, false, true, false, true, true]), (.inBlock 0), (.code [true, true, true])], sl := [(.junk 0), (.junk 1), .undef, (.ptr 0 0), (.junk 2), (.int .i64 (.a 0)), .undef, (.junk 3), (.va 0), (.int .i64 (.a 1)), (.int .i64 (.a 2)), (.junk 4), (.junk 5), (.junk 6), (.junk 7), (.junk 8), (.junk 9), (.junk 10), (.junk 11), (.junk 12), (.junk 13), (.junk 14), (.junk 15), (.junk 16), (.junk 17), (.junk 18), (.junk 19), .undef], H := [(.cells [(.int .i64 (.a 3)), (.int .i64 (.a 4)), (.int .i64 (.a 5)), (.int .i64 (.a 6)), (.int .i64 (.a 7)), (.int .i64 (.a 8))] 42 false)], ni := 9, nb := 0, nv := 1, nj := 20 }]
theorem flatten_Value_ok : SysOk Try.prog 75 flatten_Value_S := sys_ok (c := (cg [[false, false, true, false, true, true]] [] [] false false false true)) (progOkG _ _ _ _ _ _ _) Try.func75 Try.call75 (by kernel_rfl) flatten_Value_pats flatten_Value_S 5000 rfl (by kernel_rfl) (by kernel_rfl)
def catalog_between_s : PT :=
 (.ite (.le (.a 1) (.a 0))
  (.ret false (.bool (.le (.a 0) (.a 2))) [])
  (.ret false (.bool (.t false)) []))
def catalog_between_S : Sx.Sys := ⟨[(.sh (.one (.int .i64))), (.sh (.one (.int .i64))), (.sh (.one (.int .i64)))], catalog_between_s, []⟩
def catalog_between_pats : List Cfg := []
theorem catalog_between_ok : SysOk Try.prog 85 catalog_between_S := sys_ok (c := (cg [] [] [] false false false true)) (progOkG _ _ _ _ _ _ _) Try.func85 Try.call85 (by kernel_rfl) catalog_between_pats catalog_between_S 5000 rfl (by kernel_rfl) (by kernel_rfl)
end Go.Proofs.Ythjahianafohjaa
