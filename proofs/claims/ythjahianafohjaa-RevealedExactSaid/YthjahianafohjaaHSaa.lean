/- The trees of this seat's functions, part 0. Written by txgen.py. -/
import Derived.Test.YthjahianafohjaaHTab
set_option linter.unusedSimpArgs false
set_option linter.unusedVariables false
set_option maxRecDepth 100000
namespace Go.Proofs.Ythjahianafohjaa
open Go.Sx
def saleroomlaw36_RevealedExact_s : PT :=
 (.need (.is 0 0)
 (.ite (.lt (.l 14) (.slen 0))
  (.call 14 [] [] [(.one .bool)]
  (.ret false (.bool (.a 0)) []))
  (.call 15 [(.va 0)] [] [(.agg [.val, .val]), (.one .bool)]
  (.call 16 [(.va 0)] [] [(.agg [.val, .val]), (.one .bool)]
  (.ite (.not (.or (.and (.a 0) (.a 1)) (.and (.not (.a 0)) (.not (.a 1)))))
   (.ret false (.bool (.t false)) [])
   (.call 17 [(.va 0)] [] [(.one .bool)]
   (.ite (.not (.a 2))
    (.need (.is 0 1)
    (.need (.is 0 2)
    (.need (.and (.le (.l (-9223372036854775808)) (.add (.slen 1) (.slen 2))) (.le (.add (.slen 1) (.slen 2)) (.l 9223372036854775807)))
    (.ite (.eq (.add (.slen 1) (.slen 2)) (.l 0))
     (.call 14 [] [] [(.one .bool)]
     (.ret false (.bool (.a 3)) []))
     (.ret false (.bool (.t false)) [])))))
    (.need (.is 0 1)
    (.ite (.not (.or (.and (.a 0) (.eq (.slen 1) (.l 0))) (.and (.not (.a 0)) (.not (.eq (.slen 1) (.l 0))))))
     (.ret false (.bool (.t false)) [])
     (.call 18 [(.va 0), (.agg [(.va 1), (.va 2)])] [] [(.one (.int .i64))]
     (.ite (.eq (.a 0) (.l 0))
      (.call 14 [] [] [(.one .bool)]
      (.ret false (.bool (.a 3)) []))
      (.ret false (.bool (.t false)) []))))))))))))
def saleroomlaw36_RevealedExact_S : Sx.Sys := ⟨[(.sh (.one .val))], saleroomlaw36_RevealedExact_s, [], none⟩
def saleroomlaw36_RevealedExact_pats : List Cfg := []
theorem saleroomlaw36_RevealedExact_ok : SysOk Try.prog 3 saleroomlaw36_RevealedExact_S := sys_ok (c := (cg [] [] [] false false false true)) (progOkG _ _ _ _ _ _ _ _ _) Try.func3 Try.call3 (by kernel_rfl) saleroomlaw36_RevealedExact_pats saleroomlaw36_RevealedExact_S 5000 rfl (by kernel_rfl) (by kernel_rfl) rfl
def revealed_Verify_s : PT :=
 (.call 39 [(.va 0)] [] [(.one .bool)]
 (.ite (.not (.a 0))
  (.ret false (.int .i64 (.l 4)) [])
  (.call 46 [(.va 0), (.agg [(.va 1), (.va 2)])] [] [(.one .bool)]
  (.ite (.not (.a 1))
   (.ret false (.int .i64 (.l 2)) [])
   (.need (.is 0 1)
   (.ite (.eq (.slen 1) (.l 0))
    (.call 47 [(.va 0), (.va 2)] [] [(.one .bool)]
    (.ite (.not (.a 2))
     (.ret false (.int .i64 (.l 13)) [])
     (.ret false (.int .i64 (.l 0)) [])))
    (.need (.is 0 1)
    (.jump 0 [(.l 0), (.slen 1), (.l 0)] [] [(.va 0), (.va 1), (.va 2)]))))))))
def revealed_Verify_t0 : PT :=
 (.ite (.lt (.a 2) (.a 1))
  (.need (.and (.le (.l 0) (.a 2)) (.lt (.a 2) (.slen 1)))
  (.load false (.ea 1 (.a 2) 1 0) [(.int .i64)]
  (.need (.and (.le (.l 0) (.a 3)) (.lt (.a 3) (.slen 0)))
  (.need (.and (.le (.l (-9223372036854775808)) (.add (.a 2) (.l 1))) (.le (.add (.a 2) (.l 1)) (.l 9223372036854775807)))
  (.need (.is 0 1)
  (.need (.not (.eq (.slen 1) (.l 0)))
  (.need (.and (.le (.l 0) (.tmod (.add (.a 2) (.l 1)) (.slen 1))) (.lt (.tmod (.add (.a 2) (.l 1)) (.slen 1)) (.slen 1)))
  (.load true (.ea 0 (.a 3) 12 0) [(.int .i64), (.int .i64), (.int .i64), (.int .i64), (.int .i64), (.int .i64), (.int .i64), (.int .i64), (.int .i64), (.int .i64), (.int .i64), (.int .i64)]
  (.load true (.ea 1 (.tmod (.add (.a 2) (.l 1)) (.slen 1)) 1 0) [(.int .i64)]
  (.need (.and (.le (.l 0) (.a 16)) (.lt (.a 16) (.slen 0)))
  (.load true (.ea 0 (.a 16) 12 0) [(.int .i64), (.int .i64), (.int .i64), (.int .i64), (.int .i64), (.int .i64), (.int .i64), (.int .i64), (.int .i64), (.int .i64), (.int .i64), (.int .i64)]
  (.call 48 [(.agg [(.int .i64 (.a 4)), (.int .i64 (.a 5)), (.int .i64 (.a 6)), (.int .i64 (.a 7)), (.int .i64 (.a 8)), (.int .i64 (.a 9)), (.int .i64 (.a 10)), (.int .i64 (.a 11)), (.int .i64 (.a 12)), (.int .i64 (.a 13)), (.int .i64 (.a 14)), (.int .i64 (.a 15))]), (.agg [(.int .i64 (.a 17)), (.int .i64 (.a 18)), (.int .i64 (.a 19)), (.int .i64 (.a 20)), (.int .i64 (.a 21)), (.int .i64 (.a 22)), (.int .i64 (.a 23)), (.int .i64 (.a 24)), (.int .i64 (.a 25)), (.int .i64 (.a 26)), (.int .i64 (.a 27)), (.int .i64 (.a 28))])] [] [(.one (.int .i64))]
  (.need (.and (.le (.l (-9223372036854775808)) (.add (.a 0) (.a 29))) (.le (.add (.a 0) (.a 29)) (.l 9223372036854775807)))
  (.need (.and (.le (.l (-9223372036854775808)) (.add (.a 2) (.l 1))) (.le (.add (.a 2) (.l 1)) (.l 9223372036854775807)))
  (.jump 0 [(.add (.a 0) (.a 29)), (.a 1), (.add (.a 2) (.l 1))] [] [(.va 0), (.va 1), (.va 2)])))))))))))))))
  (.ite (.le (.l 0) (.a 0))
   (.ret false (.int .i64 (.l 13)) [])
   (.ret false (.int .i64 (.l 0)) [])))
def revealed_Verify_S : Sx.Sys := ⟨[(.sh (.one .val)), (.sh (.agg [.val, .val]))], revealed_Verify_s, [revealed_Verify_t0], none⟩
def revealed_Verify_pats : List Cfg := [{ todo := [(.code [false, false, true, false, true, true, true, true, true]), (.inLoop [false, false, true, false, true, true, true, true, true]), (.inBlock 0), (.code [true, true, true, true, true, true])], sl := [(.va 0), (.junk 0), .undef, (.ptr 0 0), (.junk 1), (.int .i64 (.a 0)), (.junk 2), (.junk 3), (.junk 4), (.junk 5), (.junk 6), (.junk 7), (.junk 8), (.junk 9), (.junk 10), (.junk 11), (.junk 12), (.junk 13), (.junk 14), .undef, .undef, .undef, .undef, .undef, (.junk 15), (.va 1), (.int .i64 (.a 1)), (.int .i64 (.a 2)), (.junk 16), (.junk 17), (.junk 18), (.junk 19), (.junk 20), (.junk 21), (.junk 22), (.junk 23), (.junk 24), (.junk 25), (.junk 26), (.junk 27), (.junk 28), (.junk 29), (.junk 30), (.junk 31), (.junk 32), (.junk 33), (.junk 34), (.junk 35), (.junk 36), (.junk 37), (.junk 38), (.junk 39), (.junk 40), .undef, .undef], H := [(.cells [(.va 1), (.va 2)] 27 false)], ni := 3, nb := 0, nv := 3, nj := 41 }]
theorem revealed_Verify_ok : SysOk Try.prog 19 revealed_Verify_S := sys_ok (c := (cg [[false, false, true, false, true, true, true, true, true]] [] [] false false false true)) (progOkG _ _ _ _ _ _ _ _ _) Try.func19 Try.call19 (by kernel_rfl) revealed_Verify_pats revealed_Verify_S 5000 rfl (by kernel_rfl) (by kernel_rfl) rfl
def saleroomref07_Check_s : PT :=
 (.ite (.lt (.a 0) (.l 0))
  (.ret false (.int .i64 (.l 4)) [])
  (.ite (.lt (.l 4) (.a 0))
   (.ret false (.int .i64 (.l 4)) [])
   (.ite (.lt (.a 1) (.l 0))
    (.ret false (.int .i64 (.l 4)) [])
    (.ite (.lt (.l 4) (.a 1))
     (.ret false (.int .i64 (.l 4)) [])
     (.ite (.lt (.a 2) (.l 0))
      (.ret false (.int .i64 (.l 4)) [])
      (.ite (.lt (.l 4) (.a 2))
       (.ret false (.int .i64 (.l 4)) [])
       (.ite (.lt (.a 3) (.l 0))
        (.ret false (.int .i64 (.l 4)) [])
        (.ite (.lt (.l 4) (.a 3))
         (.ret false (.int .i64 (.l 4)) [])
         (.ite (.lt (.a 4) (.l 0))
          (.ret false (.int .i64 (.l 4)) [])
          (.ite (.lt (.l 4) (.a 4))
           (.ret false (.int .i64 (.l 4)) [])
           (.ite (.lt (.a 5) (.l 0))
            (.ret false (.int .i64 (.l 4)) [])
            (.ite (.lt (.l 4) (.a 5))
             (.ret false (.int .i64 (.l 4)) [])
             (.ret false (.int .i64 (.l 0)) [])))))))))))))
def saleroomref07_Check_S : Sx.Sys := ⟨[(.sh (.agg [(.int .i64), (.int .i64), (.int .i64), (.int .i64), (.int .i64), (.int .i64)]))], saleroomref07_Check_s, [], none⟩
def saleroomref07_Check_pats : List Cfg := []
theorem saleroomref07_Check_ok : SysOk Try.prog 35 saleroomref07_Check_S := sys_ok (c := (cg [] [] [] false false false true)) (progOkG _ _ _ _ _ _ _ _ _) Try.func35 Try.call35 (by kernel_rfl) saleroomref07_Check_pats saleroomref07_Check_S 5000 rfl (by kernel_rfl) (by kernel_rfl) rfl
def saleroomref36_Cost_s : PT :=
 (.call 64 [(.agg [(.int .i64 (.a 0)), (.int .i64 (.a 1)), (.int .i64 (.a 2)), (.int .i64 (.a 3)), (.int .i64 (.a 4)), (.int .i64 (.a 5))]), (.agg [(.int .i64 (.a 12)), (.int .i64 (.a 13)), (.int .i64 (.a 14)), (.int .i64 (.a 15)), (.int .i64 (.a 16)), (.int .i64 (.a 17))])] [] [(.one (.int .i64))]
 (.ret false (.int .i64 (.a 18)) []))
def saleroomref36_Cost_S : Sx.Sys := ⟨[(.sh (.agg [(.int .i64), (.int .i64), (.int .i64), (.int .i64), (.int .i64), (.int .i64), (.int .i64), (.int .i64), (.int .i64), (.int .i64), (.int .i64), (.int .i64)])), (.sh (.agg [(.int .i64), (.int .i64), (.int .i64), (.int .i64), (.int .i64), (.int .i64)]))], saleroomref36_Cost_s, [], none⟩
def saleroomref36_Cost_pats : List Cfg := []
theorem saleroomref36_Cost_ok : SysOk Try.prog 43 saleroomref36_Cost_S := sys_ok (c := (cg [] [] [] false false false true)) (progOkG _ _ _ _ _ _ _ _ _) Try.func43 Try.call43 (by kernel_rfl) saleroomref36_Cost_pats saleroomref36_Cost_S 5000 rfl (by kernel_rfl) (by kernel_rfl) rfl
end Go.Proofs.Ythjahianafohjaa
set_option maxRecDepth 100000
namespace Go.Proofs.Ythjahianafohjaa
open Go.Sx
def revealed_Gain_s : PT :=
 (.call 49 [(.agg [(.int .i64 (.a 0)), (.int .i64 (.a 1)), (.int .i64 (.a 2)), (.int .i64 (.a 3)), (.int .i64 (.a 4)), (.int .i64 (.a 5)), (.int .i64 (.a 6)), (.int .i64 (.a 7)), (.int .i64 (.a 8)), (.int .i64 (.a 9)), (.int .i64 (.a 10)), (.int .i64 (.a 11))])] [] [(.one .bool)]
 (.ite (.not (.a 0))
  (.ret false (.int .i64 (.l 0)) [])
  (.call 49 [(.agg [(.int .i64 (.a 12)), (.int .i64 (.a 13)), (.int .i64 (.a 14)), (.int .i64 (.a 15)), (.int .i64 (.a 16)), (.int .i64 (.a 17)), (.int .i64 (.a 18)), (.int .i64 (.a 19)), (.int .i64 (.a 20)), (.int .i64 (.a 21)), (.int .i64 (.a 22)), (.int .i64 (.a 23))])] [] [(.one .bool)]
  (.ite (.not (.a 1))
   (.ret false (.int .i64 (.l 0)) [])
   (.call 48 [(.agg [(.int .i64 (.a 0)), (.int .i64 (.a 1)), (.int .i64 (.a 2)), (.int .i64 (.a 3)), (.int .i64 (.a 4)), (.int .i64 (.a 5)), (.int .i64 (.a 6)), (.int .i64 (.a 7)), (.int .i64 (.a 8)), (.int .i64 (.a 9)), (.int .i64 (.a 10)), (.int .i64 (.a 11))]), (.agg [(.int .i64 (.a 12)), (.int .i64 (.a 13)), (.int .i64 (.a 14)), (.int .i64 (.a 15)), (.int .i64 (.a 16)), (.int .i64 (.a 17)), (.int .i64 (.a 18)), (.int .i64 (.a 19)), (.int .i64 (.a 20)), (.int .i64 (.a 21)), (.int .i64 (.a 22)), (.int .i64 (.a 23))])] [] [(.one (.int .i64))]
   (.ret false (.int .i64 (.a 24)) []))))))
def revealed_Gain_S : Sx.Sys := ⟨[(.sh (.agg [(.int .i64), (.int .i64), (.int .i64), (.int .i64), (.int .i64), (.int .i64), (.int .i64), (.int .i64), (.int .i64), (.int .i64), (.int .i64), (.int .i64)])), (.sh (.agg [(.int .i64), (.int .i64), (.int .i64), (.int .i64), (.int .i64), (.int .i64), (.int .i64), (.int .i64), (.int .i64), (.int .i64), (.int .i64), (.int .i64)]))], revealed_Gain_s, [], none⟩
def revealed_Gain_pats : List Cfg := []
theorem revealed_Gain_ok : SysOk Try.prog 20 revealed_Gain_S := sys_ok (c := (cg [] [] [] false false false true)) (progOkG _ _ _ _ _ _ _ _ _) Try.func20 Try.call20 (by kernel_rfl) revealed_Gain_pats revealed_Gain_S 5000 rfl (by kernel_rfl) (by kernel_rfl) rfl
def saleroomref36_Valid_s : PT :=
 (.call 35 [(.agg [(.int .i64 (.a 6)), (.int .i64 (.a 7)), (.int .i64 (.a 8)), (.int .i64 (.a 9)), (.int .i64 (.a 10)), (.int .i64 (.a 11))])] [] [(.one (.int .i64))]
 (.ite (.eq (.a 12) (.l 0))
  (.call 65 [(.agg [(.int .i64 (.a 0)), (.int .i64 (.a 1)), (.int .i64 (.a 2)), (.int .i64 (.a 3)), (.int .i64 (.a 4)), (.int .i64 (.a 5))])] [] [(.one .bool)]
  (.ret false (.bool (.a 0)) []))
  (.ret false (.bool (.t false)) [])))
def saleroomref36_Valid_S : Sx.Sys := ⟨[(.sh (.agg [(.int .i64), (.int .i64), (.int .i64), (.int .i64), (.int .i64), (.int .i64), (.int .i64), (.int .i64), (.int .i64), (.int .i64), (.int .i64), (.int .i64)]))], saleroomref36_Valid_s, [], none⟩
def saleroomref36_Valid_pats : List Cfg := []
theorem saleroomref36_Valid_ok : SysOk Try.prog 44 saleroomref36_Valid_S := sys_ok (c := (cg [] [] [] false false false true)) (progOkG _ _ _ _ _ _ _ _ _) Try.func44 Try.call44 (by kernel_rfl) saleroomref36_Valid_pats saleroomref36_Valid_S 5000 rfl (by kernel_rfl) (by kernel_rfl) rfl
end Go.Proofs.Ythjahianafohjaa
set_option maxRecDepth 100000
namespace Go.Proofs.Ythjahianafohjaa
open Go.Sx
def saleroomref36_Gain_s : PT :=
 (.call 44 [(.agg [(.int .i64 (.a 0)), (.int .i64 (.a 1)), (.int .i64 (.a 2)), (.int .i64 (.a 3)), (.int .i64 (.a 4)), (.int .i64 (.a 5)), (.int .i64 (.a 6)), (.int .i64 (.a 7)), (.int .i64 (.a 8)), (.int .i64 (.a 9)), (.int .i64 (.a 10)), (.int .i64 (.a 11))])] [] [(.one .bool)]
 (.ite (.not (.a 0))
  (.ret false (.int .i64 (.l 0)) [])
  (.call 44 [(.agg [(.int .i64 (.a 12)), (.int .i64 (.a 13)), (.int .i64 (.a 14)), (.int .i64 (.a 15)), (.int .i64 (.a 16)), (.int .i64 (.a 17)), (.int .i64 (.a 18)), (.int .i64 (.a 19)), (.int .i64 (.a 20)), (.int .i64 (.a 21)), (.int .i64 (.a 22)), (.int .i64 (.a 23))])] [] [(.one .bool)]
  (.ite (.not (.a 1))
   (.ret false (.int .i64 (.l 0)) [])
   (.call 43 [(.agg [(.int .i64 (.a 0)), (.int .i64 (.a 1)), (.int .i64 (.a 2)), (.int .i64 (.a 3)), (.int .i64 (.a 4)), (.int .i64 (.a 5)), (.int .i64 (.a 6)), (.int .i64 (.a 7)), (.int .i64 (.a 8)), (.int .i64 (.a 9)), (.int .i64 (.a 10)), (.int .i64 (.a 11))]), (.agg [(.int .i64 (.a 18)), (.int .i64 (.a 19)), (.int .i64 (.a 20)), (.int .i64 (.a 21)), (.int .i64 (.a 22)), (.int .i64 (.a 23))])] [] [(.one (.int .i64))]
   (.call 43 [(.agg [(.int .i64 (.a 0)), (.int .i64 (.a 1)), (.int .i64 (.a 2)), (.int .i64 (.a 3)), (.int .i64 (.a 4)), (.int .i64 (.a 5)), (.int .i64 (.a 6)), (.int .i64 (.a 7)), (.int .i64 (.a 8)), (.int .i64 (.a 9)), (.int .i64 (.a 10)), (.int .i64 (.a 11))]), (.agg [(.int .i64 (.a 6)), (.int .i64 (.a 7)), (.int .i64 (.a 8)), (.int .i64 (.a 9)), (.int .i64 (.a 10)), (.int .i64 (.a 11))])] [] [(.one (.int .i64))]
   (.need (.and (.le (.l (-9223372036854775808)) (.sub (.a 24) (.a 25))) (.le (.sub (.a 24) (.a 25)) (.l 9223372036854775807)))
   (.ret false (.int .i64 (.sub (.a 24) (.a 25))) []))))))))
def saleroomref36_Gain_S : Sx.Sys := ⟨[(.sh (.agg [(.int .i64), (.int .i64), (.int .i64), (.int .i64), (.int .i64), (.int .i64), (.int .i64), (.int .i64), (.int .i64), (.int .i64), (.int .i64), (.int .i64)])), (.sh (.agg [(.int .i64), (.int .i64), (.int .i64), (.int .i64), (.int .i64), (.int .i64), (.int .i64), (.int .i64), (.int .i64), (.int .i64), (.int .i64), (.int .i64)]))], saleroomref36_Gain_s, [], none⟩
def saleroomref36_Gain_pats : List Cfg := []
theorem saleroomref36_Gain_ok : SysOk Try.prog 21 saleroomref36_Gain_S := sys_ok (c := (cg [] [] [] false false false true)) (progOkG _ _ _ _ _ _ _ _ _) Try.func21 Try.call21 (by kernel_rfl) saleroomref36_Gain_pats saleroomref36_Gain_S 5000 rfl (by kernel_rfl) (by kernel_rfl) rfl
def saleroomref36_explains_s : PT :=
 (.need (.is 0 1)
 (.need (.is 0 0)
 (.ite (.not (.eq (.slen 1) (.slen 0)))
  (.ret false (.bool (.t false)) [])
  (.jump 0 [(.l 0)] [] [(.va 0), (.va 1)]))))
def saleroomref36_explains_t0 : PT :=
 (.need (.is 0 0)
 (.ite (.lt (.a 0) (.slen 0))
  (.need (.and (.le (.l 0) (.a 0)) (.lt (.a 0) (.slen 0)))
  (.need (.and (.le (.l 0) (.a 0)) (.lt (.a 0) (.slen 0)))
  (.load true (.ea 0 (.a 0) 12 0) [(.int .i64), (.int .i64), (.int .i64), (.int .i64), (.int .i64), (.int .i64), (.int .i64), (.int .i64), (.int .i64), (.int .i64), (.int .i64), (.int .i64)]
  (.load true (.ea 0 (.a 0) 12 6) [(.int .i64), (.int .i64), (.int .i64), (.int .i64), (.int .i64), (.int .i64)]
  (.call 43 [(.agg [(.int .i64 (.a 1)), (.int .i64 (.a 2)), (.int .i64 (.a 3)), (.int .i64 (.a 4)), (.int .i64 (.a 5)), (.int .i64 (.a 6)), (.int .i64 (.a 7)), (.int .i64 (.a 8)), (.int .i64 (.a 9)), (.int .i64 (.a 10)), (.int .i64 (.a 11)), (.int .i64 (.a 12))]), (.agg [(.int .i64 (.a 13)), (.int .i64 (.a 14)), (.int .i64 (.a 15)), (.int .i64 (.a 16)), (.int .i64 (.a 17)), (.int .i64 (.a 18))])] [] [(.one (.int .i64))]
  (.need (.and (.le (.l 0) (.a 0)) (.lt (.a 0) (.slen 1)))
  (.load false (.ea 1 (.a 0) 1 0) [(.int .i64)]
  (.ite (.lt (.a 20) (.a 19))
   (.ret false (.bool (.t false)) [])
   (.need (.and (.le (.l 0) (.a 0)) (.lt (.a 0) (.slen 0)))
   (.load false (.ea 0 (.a 0) 12 6) [(.int .i64), (.int .i64), (.int .i64), (.int .i64), (.int .i64), (.int .i64)]
   (.ite (.and (.eq (.a 21) (.l 0)) (.and (.eq (.a 22) (.l 0)) (.and (.eq (.a 23) (.l 0)) (.and (.eq (.a 24) (.l 0)) (.and (.eq (.a 25) (.l 0)) (.eq (.a 26) (.l 0)))))))
    (.need (.and (.le (.l 0) (.a 0)) (.lt (.a 0) (.slen 1)))
    (.load false (.ea 1 (.a 0) 1 0) [(.int .i64)]
    (.ite (.not (.eq (.a 27) (.l 0)))
     (.ret false (.bool (.t false)) [])
     (.jump 1 [(.a 0), (.a 19), (.l 0), (.a 0), (.a 21), (.a 22), (.a 23), (.a 24), (.a 25), (.a 26)] [(.and (.eq (.a 21) (.l 0)) (.and (.eq (.a 22) (.l 0)) (.and (.eq (.a 23) (.l 0)) (.and (.eq (.a 24) (.l 0)) (.and (.eq (.a 25) (.l 0)) (.eq (.a 26) (.l 0))))))), (.t true), (.not (.eq (.a 27) (.l 0)))] [(.va 0), (.va 1)]))))
    (.jump 1 [(.a 0), (.a 19), (.l 0), (.a 0), (.a 21), (.a 22), (.a 23), (.a 24), (.a 25), (.a 26)] [(.and (.eq (.a 21) (.l 0)) (.and (.eq (.a 22) (.l 0)) (.and (.eq (.a 23) (.l 0)) (.and (.eq (.a 24) (.l 0)) (.and (.eq (.a 25) (.l 0)) (.eq (.a 26) (.l 0))))))), (.t false), (.t false)] [(.va 0), (.va 1)]))))))))))))
  (.ret false (.bool (.t true)) [])))
def saleroomref36_explains_t1 : PT :=
 (.need (.is 0 0)
 (.ite (.lt (.a 2) (.slen 0))
  (.need (.and (.le (.l 0) (.a 0)) (.lt (.a 0) (.slen 0)))
  (.need (.and (.le (.l 0) (.a 2)) (.lt (.a 2) (.slen 0)))
  (.load true (.ea 0 (.a 0) 12 6) [(.int .i64), (.int .i64), (.int .i64), (.int .i64), (.int .i64), (.int .i64)]
  (.load true (.ea 0 (.a 2) 12 6) [(.int .i64), (.int .i64), (.int .i64), (.int .i64), (.int .i64), (.int .i64)]
  (.ite (.and (.eq (.a 10) (.a 16)) (.and (.eq (.a 11) (.a 17)) (.and (.eq (.a 12) (.a 18)) (.and (.eq (.a 13) (.a 19)) (.and (.eq (.a 14) (.a 20)) (.eq (.a 15) (.a 21)))))))
   (.need (.and (.le (.l 0) (.a 0)) (.lt (.a 0) (.slen 1)))
   (.need (.and (.le (.l 0) (.a 2)) (.lt (.a 2) (.slen 1)))
   (.load true (.ea 1 (.a 0) 1 0) [(.int .i64)]
   (.load true (.ea 1 (.a 2) 1 0) [(.int .i64)]
   (.ite (.not (.eq (.a 22) (.a 23)))
    (.ret false (.bool (.t false)) [])
    (.need (.and (.le (.l 0) (.a 0)) (.lt (.a 0) (.slen 1)))
    (.need (.and (.le (.l 0) (.a 2)) (.lt (.a 2) (.slen 1)))
    (.need (.and (.le (.l 0) (.a 0)) (.lt (.a 0) (.slen 0)))
    (.need (.and (.le (.l 0) (.a 2)) (.lt (.a 2) (.slen 0)))
    (.load true (.ea 1 (.a 0) 1 0) [(.int .i64)]
    (.need (.and (.le (.l (-9223372036854775808)) (.sub (.a 24) (.a 1))) (.le (.sub (.a 24) (.a 1)) (.l 9223372036854775807)))
    (.load true (.ea 1 (.a 2) 1 0) [(.int .i64)]
    (.load true (.ea 0 (.a 0) 12 0) [(.int .i64), (.int .i64), (.int .i64), (.int .i64), (.int .i64), (.int .i64), (.int .i64), (.int .i64), (.int .i64), (.int .i64), (.int .i64), (.int .i64)]
    (.load true (.ea 0 (.a 2) 12 6) [(.int .i64), (.int .i64), (.int .i64), (.int .i64), (.int .i64), (.int .i64)]
    (.call 43 [(.agg [(.int .i64 (.a 26)), (.int .i64 (.a 27)), (.int .i64 (.a 28)), (.int .i64 (.a 29)), (.int .i64 (.a 30)), (.int .i64 (.a 31)), (.int .i64 (.a 32)), (.int .i64 (.a 33)), (.int .i64 (.a 34)), (.int .i64 (.a 35)), (.int .i64 (.a 36)), (.int .i64 (.a 37))]), (.agg [(.int .i64 (.a 38)), (.int .i64 (.a 39)), (.int .i64 (.a 40)), (.int .i64 (.a 41)), (.int .i64 (.a 42)), (.int .i64 (.a 43))])] [] [(.one (.int .i64))]
    (.need (.and (.le (.l (-9223372036854775808)) (.sub (.a 25) (.a 44))) (.le (.sub (.a 25) (.a 44)) (.l 9223372036854775807)))
    (.ite (.lt (.sub (.a 24) (.a 1)) (.sub (.a 25) (.a 44)))
     (.ret false (.bool (.t false)) [])
     (.need (.and (.le (.l (-9223372036854775808)) (.add (.a 2) (.l 1))) (.le (.add (.a 2) (.l 1)) (.l 9223372036854775807)))
     (.jump 1 [(.a 0), (.a 1), (.add (.a 2) (.l 1)), (.a 3), (.a 4), (.a 5), (.a 6), (.a 7), (.a 8), (.a 9)] [(.a 0), (.a 1), (.a 2)] [(.va 0), (.va 1)])))))))))))))))))))
   (.need (.and (.le (.l 0) (.a 0)) (.lt (.a 0) (.slen 1)))
   (.need (.and (.le (.l 0) (.a 2)) (.lt (.a 2) (.slen 1)))
   (.need (.and (.le (.l 0) (.a 0)) (.lt (.a 0) (.slen 0)))
   (.need (.and (.le (.l 0) (.a 2)) (.lt (.a 2) (.slen 0)))
   (.load true (.ea 1 (.a 0) 1 0) [(.int .i64)]
   (.need (.and (.le (.l (-9223372036854775808)) (.sub (.a 22) (.a 1))) (.le (.sub (.a 22) (.a 1)) (.l 9223372036854775807)))
   (.load true (.ea 1 (.a 2) 1 0) [(.int .i64)]
   (.load true (.ea 0 (.a 0) 12 0) [(.int .i64), (.int .i64), (.int .i64), (.int .i64), (.int .i64), (.int .i64), (.int .i64), (.int .i64), (.int .i64), (.int .i64), (.int .i64), (.int .i64)]
   (.load true (.ea 0 (.a 2) 12 6) [(.int .i64), (.int .i64), (.int .i64), (.int .i64), (.int .i64), (.int .i64)]
   (.call 43 [(.agg [(.int .i64 (.a 24)), (.int .i64 (.a 25)), (.int .i64 (.a 26)), (.int .i64 (.a 27)), (.int .i64 (.a 28)), (.int .i64 (.a 29)), (.int .i64 (.a 30)), (.int .i64 (.a 31)), (.int .i64 (.a 32)), (.int .i64 (.a 33)), (.int .i64 (.a 34)), (.int .i64 (.a 35))]), (.agg [(.int .i64 (.a 36)), (.int .i64 (.a 37)), (.int .i64 (.a 38)), (.int .i64 (.a 39)), (.int .i64 (.a 40)), (.int .i64 (.a 41))])] [] [(.one (.int .i64))]
   (.need (.and (.le (.l (-9223372036854775808)) (.sub (.a 23) (.a 42))) (.le (.sub (.a 23) (.a 42)) (.l 9223372036854775807)))
   (.ite (.lt (.sub (.a 22) (.a 1)) (.sub (.a 23) (.a 42)))
    (.ret false (.bool (.t false)) [])
    (.need (.and (.le (.l (-9223372036854775808)) (.add (.a 2) (.l 1))) (.le (.add (.a 2) (.l 1)) (.l 9223372036854775807)))
    (.jump 1 [(.a 0), (.a 1), (.add (.a 2) (.l 1)), (.a 3), (.a 4), (.a 5), (.a 6), (.a 7), (.a 8), (.a 9)] [(.a 0), (.a 1), (.a 2)] [(.va 0), (.va 1)])))))))))))))))))))
  (.need (.and (.le (.l (-9223372036854775808)) (.add (.a 0) (.l 1))) (.le (.add (.a 0) (.l 1)) (.l 9223372036854775807)))
  (.jump 0 [(.add (.a 0) (.l 1))] [] [(.va 0), (.va 1)]))))
def saleroomref36_explains_S : Sx.Sys := ⟨[(.sh (.one .val)), (.sh (.one .val))], saleroomref36_explains_s, [saleroomref36_explains_t0, saleroomref36_explains_t1], none⟩
def saleroomref36_explains_pats : List Cfg := [{ todo := [(.code [false, false, true, false, true, true]), (.inLoop [false, false, true, false, true, true]), (.inBlock 0), (.code [true, true, true])], sl := [(.va 0), (.va 1), .undef, .undef, (.junk 0), (.int .i64 (.a 0)), (.junk 1), (.junk 2), (.junk 3), (.junk 4), (.junk 5), (.junk 6), (.junk 7), (.junk 8), (.junk 9), (.junk 10), (.junk 11), (.junk 12), (.junk 13), (.junk 14), (.junk 15), (.junk 16), (.junk 17), (.junk 18), (.junk 19), (.junk 20), (.junk 21), (.junk 22), (.junk 23), (.junk 24), (.junk 25), (.junk 26), (.junk 27), (.junk 28), (.junk 29), (.junk 30), (.junk 31), (.junk 32), (.junk 33), (.junk 34), (.junk 35), (.junk 36), (.junk 37), (.junk 38), (.junk 39), (.junk 40), (.junk 41), (.junk 42), (.junk 43), (.junk 44), (.junk 45), (.junk 46), (.junk 47), (.junk 48), (.junk 49), (.junk 50), (.junk 51), (.junk 52), (.junk 53), (.junk 54), (.junk 55), (.junk 56), (.junk 57), (.junk 58), (.junk 59), (.junk 60), (.junk 61), (.junk 62), (.junk 63), (.junk 64), (.junk 65), (.junk 66), (.junk 67), (.junk 68), (.junk 69), (.junk 70), (.junk 71), (.junk 72), (.junk 73), (.junk 74), (.junk 75), (.junk 76), (.junk 77), (.junk 78), (.junk 79), (.junk 80), (.junk 81), (.junk 82), (.junk 83), (.junk 84), (.junk 85), (.junk 86), (.junk 87), (.junk 88), (.junk 89), (.junk 90), (.junk 91), (.junk 92), (.junk 93), (.junk 94), (.junk 95), (.junk 96), (.junk 97)], H := [], ni := 1, nb := 0, nv := 2, nj := 98 },
 { todo := [(.code [false, false, true, true, true, false, false, true, false, false, true, false, true, true]), (.inLoop [false, false, true, true, true, false, false, true, false, false, true, false, true, true]), (.inBlock 2), (.inBlock 1), (.code [true, true, false, false, true, false, true, true]), (.inLoop [false, false, true, false, true, true]), (.inBlock 0), (.code [true, true, true])], sl := [(.va 0), (.va 1), .undef, .undef, (.junk 0), (.int .i64 (.a 0)), (.int .i64 (.a 1)), (.int .i64 (.a 2)), (.junk 1), (.junk 2), (.junk 3), (.junk 4), (.junk 5), (.junk 6), (.junk 7), (.junk 8), (.junk 9), (.junk 10), (.junk 11), (.junk 12), (.junk 13), (.junk 14), (.junk 15), (.junk 16), (.junk 17), (.junk 18), (.junk 19), (.junk 20), (.junk 21), (.junk 22), (.junk 23), (.junk 24), (.junk 25), (.junk 26), (.junk 27), (.junk 28), (.va 0), (.int .i64 (.a 0)), (.ea 0 (.a 3) 12 0), (.ea 0 (.a 3) 12 6), (.agg [(.int .i64 (.a 4)), (.int .i64 (.a 5)), (.int .i64 (.a 6)), (.int .i64 (.a 7)), (.int .i64 (.a 8)), (.int .i64 (.a 9))]), (.agg [(.int .i64 (.l 0)), (.int .i64 (.l 0)), (.int .i64 (.l 0)), (.int .i64 (.l 0)), (.int .i64 (.l 0)), (.int .i64 (.l 0))]), (.bool (.a 0)), (.bool (.a 1)), (.junk 29), (.junk 30), (.junk 31), (.junk 32), (.junk 33), (.bool (.a 2)), (.junk 34), (.junk 35), (.junk 36), (.junk 37), (.junk 38), (.junk 39), (.junk 40), (.junk 41), (.junk 42), (.junk 43), (.junk 44), (.junk 45), (.junk 46), (.junk 47), (.junk 48), (.junk 49), (.junk 50), (.junk 51), (.junk 52), (.junk 53), (.junk 54), (.junk 55), (.junk 56), (.junk 57), (.junk 58), (.junk 59), (.junk 60), (.junk 61), (.junk 62), (.junk 63), (.junk 64), (.junk 65), (.junk 66), (.junk 67), (.junk 68), (.junk 69), (.junk 70), (.junk 71), (.junk 72), (.junk 73), (.junk 74), (.junk 75), (.junk 76), (.junk 77), (.junk 78), (.junk 79), (.junk 80), (.junk 81), (.junk 82), (.junk 83), (.junk 84), (.junk 85), (.junk 86)], H := [], ni := 10, nb := 3, nv := 2, nj := 87 }]
theorem saleroomref36_explains_ok : SysOk Try.prog 45 saleroomref36_explains_S := sys_ok (c := (cg [[false, false, true, false, true, true], [false, false, true, true, true, false, false, true, false, false, true, false, true, true]] [] [] false false false true)) (progOkG _ _ _ _ _ _ _ _ _) Try.func45 Try.call45 (by kernel_rfl) saleroomref36_explains_pats saleroomref36_explains_S 5000 rfl (by kernel_rfl) (by kernel_rfl) rfl
end Go.Proofs.Ythjahianafohjaa
