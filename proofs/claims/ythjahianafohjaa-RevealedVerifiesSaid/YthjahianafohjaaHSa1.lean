/- The trees of this seat's functions, part 1. Written by txgen.py. -/
import Derived.Test.YthjahianafohjaaHTab
set_option linter.unusedSimpArgs false
set_option linter.unusedVariables false
set_option maxRecDepth 100000
namespace Go.Proofs.Ythjahianafohjaa
open Go.Sx
def saleroomlaw36_RevealedVerifies_s : PT :=
 (.need (.is 0 0)
 (.ite (.lt (.l 14) (.slen 0))
  (.call 14 [] [] [(.one .bool)]
  (.ret false (.bool (.a 0)) []))
  (.need (.is 0 1)
  (.ite (.lt (.l 1100) (.slen 1))
   (.call 14 [] [] [(.one .bool)]
   (.ret false (.bool (.a 0)) []))
   (.need (.is 0 2)
   (.ite (.lt (.l 40) (.slen 2))
    (.call 14 [] [] [(.one .bool)]
    (.ret false (.bool (.a 0)) []))
    (.call 19 [(.va 0), (.agg [(.va 1), (.va 2)])] [] [(.one (.int .i64))]
    (.call 18 [(.va 0), (.agg [(.va 1), (.va 2)])] [] [(.one (.int .i64))]
    (.ite (.eq (.a 0) (.a 1))
     (.call 14 [] [] [(.one .bool)]
     (.ret false (.bool (.a 0)) []))
     (.ret false (.bool (.t false)) []))))))))))
def saleroomlaw36_RevealedVerifies_S : Sx.Sys := ⟨[(.sh (.one .val)), (.sh (.agg [.val, .val]))], saleroomlaw36_RevealedVerifies_s, []⟩
def saleroomlaw36_RevealedVerifies_pats : List Cfg := []
theorem saleroomlaw36_RevealedVerifies_ok : SysOk Try.prog 4 saleroomlaw36_RevealedVerifies_S := sys_ok (c := (cg [] [] [] false false false true)) (progOkG _ _ _ _ _ _ _) Try.func4 Try.call4 (by kernel_rfl) saleroomlaw36_RevealedVerifies_pats saleroomlaw36_RevealedVerifies_S 5000 rfl (by kernel_rfl) (by kernel_rfl)
def revealed_Check_s : PT :=
 (.call 39 [(.va 0)] [] [(.one .bool)]
 (.ite (.not (.a 0))
  (.ret false (.tup [(.agg [.nilS, .nilS]), (.bool (.t false))]) [])
  (.call 40 [(.va 0)] [] [(.one .val), (.one .val)]
  (.need (.is 0 2)
  (.ite (.not (.nil 2))
   (.ret false (.tup [(.agg [(.va 2), .nilS]), (.bool (.t false))]) [])
   (.need (.is 0 0)
   (.jump 0 [(.l 0), (.slen 0), (.l 0)] [] [(.va 0), (.va 1)])))))))
def revealed_Check_t0_b1 : PT :=
 (.call 41 [(.agg [(.int .i64 (.a 3)), (.int .i64 (.a 4)), (.int .i64 (.a 5)), (.int .i64 (.a 6)), (.int .i64 (.a 7)), (.int .i64 (.a 8))]), (.agg [(.int .i64 (.a 9)), (.int .i64 (.a 10)), (.int .i64 (.a 11)), (.int .i64 (.a 12)), (.int .i64 (.a 13)), (.int .i64 (.a 14))])] [] [(.one (.int .i64))]
   (.load false (.ea 1 (.a 2) 1 0) [(.int .i64)]
   (.need (.and (.le (.l (-9223372036854775808)) (.sub (.a 15) (.a 16))) (.le (.sub (.a 15) (.a 16)) (.l 9223372036854775807)))
   (.need (.and (.le (.l (-9223372036854775808)) (.add (.a 2) (.l 1))) (.le (.add (.a 2) (.l 1)) (.l 9223372036854775807)))
   (.jump 0 [(.mx (.a 0) (.sub (.a 15) (.a 16))), (.a 1), (.add (.a 2) (.l 1))] [] [(.va 0), (.va 1)])))))
def revealed_Check_t0_b2 : PT :=
 (.load false (.ea 1 (.a 2) 1 0) [(.int .i64)]
   (.call 41 [(.agg [(.int .i64 (.a 3)), (.int .i64 (.a 4)), (.int .i64 (.a 5)), (.int .i64 (.a 6)), (.int .i64 (.a 7)), (.int .i64 (.a 8))]), (.agg [(.int .i64 (.a 9)), (.int .i64 (.a 10)), (.int .i64 (.a 11)), (.int .i64 (.a 12)), (.int .i64 (.a 13)), (.int .i64 (.a 14))])] [] [(.one (.int .i64))]
   (.need (.and (.le (.l (-9223372036854775808)) (.sub (.a 16) (.a 15))) (.le (.sub (.a 16) (.a 15)) (.l 9223372036854775807)))
   (.need (.and (.le (.l (-9223372036854775808)) (.add (.a 2) (.l 1))) (.le (.add (.a 2) (.l 1)) (.l 9223372036854775807)))
   (.jump 0 [(.mx (.a 0) (.sub (.a 16) (.a 15))), (.a 1), (.add (.a 2) (.l 1))] [] [(.va 0), (.va 1)])))))
def revealed_Check_t0 : PT :=
 (.ite (.lt (.a 2) (.a 1))
  (.need (.and (.le (.l 0) (.a 2)) (.lt (.a 2) (.slen 0)))
  (.load false (.ea 0 (.a 2) 12 0) [(.int .i64), (.int .i64), (.int .i64), (.int .i64), (.int .i64), (.int .i64), (.int .i64), (.int .i64), (.int .i64), (.int .i64), (.int .i64), (.int .i64)]
  (.need (.and (.le (.l 0) (.a 2)) (.lt (.a 2) (.slen 1)))
  (.both revealed_Check_t0_b1 revealed_Check_t0_b2))))
  (.need (.is 0 0)
  (.jump 1 [(.a 0), (.slen 0), (.l 0)] [] [(.va 1), (.va 0)])))
def revealed_Check_t1 : PT :=
 (.ite (.lt (.a 2) (.a 1))
  (.need (.and (.le (.l 0) (.a 2)) (.lt (.a 2) (.slen 1)))
  (.load false (.ea 1 (.a 2) 12 0) [(.int .i64), (.int .i64), (.int .i64), (.int .i64), (.int .i64), (.int .i64), (.int .i64), (.int .i64), (.int .i64), (.int .i64), (.int .i64), (.int .i64)]
  (.ite (.and (.eq (.a 9) (.l 0)) (.and (.eq (.a 10) (.l 0)) (.and (.eq (.a 11) (.l 0)) (.and (.eq (.a 12) (.l 0)) (.and (.eq (.a 13) (.l 0)) (.eq (.a 14) (.l 0)))))))
   (.need (.and (.le (.l 0) (.a 2)) (.lt (.a 2) (.slen 0)))
   (.load false (.ea 0 (.a 2) 1 0) [(.int .i64)]
   (.need (.and (.le (.l (-9223372036854775808)) (.sub (.l 0) (.a 15))) (.le (.sub (.l 0) (.a 15)) (.l 9223372036854775807)))
   (.need (.and (.le (.l (-9223372036854775808)) (.add (.a 2) (.l 1))) (.le (.add (.a 2) (.l 1)) (.l 9223372036854775807)))
   (.jump 1 [(.sub (.l 0) (.a 15)), (.a 1), (.add (.a 2) (.l 1))] [] [(.va 0), (.va 1)])))))
   (.need (.and (.le (.l (-9223372036854775808)) (.add (.a 2) (.l 1))) (.le (.add (.a 2) (.l 1)) (.l 9223372036854775807)))
   (.jump 1 [(.a 0), (.a 1), (.add (.a 2) (.l 1))] [] [(.va 0), (.va 1)])))))
  (.need (.is 0 0)
  (.jump 2 [(.a 0), (.slen 0), (.l 0)] [] [(.va 0)])))
def revealed_Check_t2 : PT :=
 (.ite (.lt (.a 2) (.a 1))
  (.need (.and (.le (.l 0) (.a 2)) (.lt (.a 2) (.slen 0)))
  (.load false (.ea 0 (.a 2) 1 0) [(.int .i64)]
  (.need (.and (.le (.l (-9223372036854775808)) (.add (.a 3) (.a 0))) (.le (.add (.a 3) (.a 0)) (.l 9223372036854775807)))
  (.need (.and (.le (.l 0) (.a 2)) (.lt (.a 2) (.slen 0)))
  (.storeM (.ea 0 (.a 2) 1 0) [(.int .i64 (.add (.a 3) (.a 0)))]
  (.need (.and (.le (.l (-9223372036854775808)) (.add (.a 2) (.l 1))) (.le (.add (.a 2) (.l 1)) (.l 9223372036854775807)))
  (.jump 2 [(.a 0), (.a 1), (.add (.a 2) (.l 1))] [] [(.va 0)])))))))
  (.ret false (.tup [(.agg [.nilS, (.va 0)]), (.bool (.t true))]) []))
def revealed_Check_S : Sx.Sys := ⟨[(.sh (.one .val))], revealed_Check_s, [revealed_Check_t0, revealed_Check_t1, revealed_Check_t2]⟩
def revealed_Check_pats : List Cfg := [{ todo := [(.code [false, false, true, false, true, true, true, true, true]), (.inLoop [false, false, true, false, true, true, true, true, true]), (.inBlock 0), (.code [true, true, true, true, true, true])], sl := [(.va 0), .undef, (.ptr 0 0), (.junk 0), (.va 1), (.junk 1), (.int .i64 (.a 0)), (.junk 2), (.junk 3), .undef, .undef, .undef, (.junk 4), (.junk 5), (.junk 6), .undef, (.junk 7), (.junk 8), (.junk 9), (.junk 10), (.junk 11), (.junk 12), (.junk 13), .undef, .undef, (.va 0), (.int .i64 (.a 1)), (.int .i64 (.a 2)), (.junk 14), (.junk 15), (.junk 16), (.junk 17), (.junk 18), (.junk 19), (.junk 20), (.junk 21), (.junk 22), (.junk 23), (.junk 24), (.junk 25), (.junk 26), (.junk 27), (.junk 28), (.junk 29), (.junk 30), .undef, .undef, .undef, .undef, .undef, .undef, .undef, .undef, .undef, .undef, .undef, .undef, .undef, .undef, .undef, .undef, .undef, .undef, .undef, .undef, .undef, .undef, .undef, .undef, .undef, .undef, .undef, .undef, .undef, .undef, .undef, .undef], H := [(.cells [.nilS, .nilS] 27 false)], ni := 3, nb := 0, nv := 2, nj := 31 },
 { todo := [(.code [false, false, true, false, true, true, true, true, true, true]), (.inLoop [false, false, true, false, true, true, true, true, true, true]), (.inBlock 2), (.code [true, true, true, true, true, true, true])], sl := [(.junk 0), .undef, (.ptr 0 0), (.junk 1), (.va 0), (.junk 2), (.int .i64 (.a 0)), (.junk 3), (.junk 4), (.junk 5), (.junk 6), .undef, (.junk 7), (.junk 8), (.junk 9), .undef, (.junk 10), (.junk 11), (.junk 12), (.junk 13), (.junk 14), (.junk 15), (.junk 16), .undef, .undef, (.junk 17), (.junk 18), (.junk 19), (.junk 20), (.junk 21), (.junk 22), (.junk 23), (.junk 24), (.junk 25), (.junk 26), (.junk 27), (.junk 28), (.junk 29), (.junk 30), (.junk 31), (.junk 32), (.junk 33), (.junk 34), (.junk 35), (.junk 36), (.va 1), (.int .i64 (.a 1)), (.int .i64 (.a 2)), (.junk 37), (.junk 38), (.junk 39), (.junk 40), (.junk 41), (.junk 42), (.junk 43), (.junk 44), (.junk 45), (.junk 46), (.junk 47), (.junk 48), (.junk 49), (.junk 50), .undef, .undef, .undef, .undef, .undef, .undef, .undef, .undef, .undef, .undef, .undef, .undef, .undef, .undef, .undef], H := [(.cells [.nilS, .nilS] 27 false)], ni := 3, nb := 0, nv := 2, nj := 51 },
 { todo := [(.code [false, false, true, false, true, true, true, true, true, true, true]), (.inLoop [false, false, true, false, true, true, true, true, true, true, true]), (.inBlock 4), (.code [true, true, true, true, true, true, true, true])], sl := [(.junk 0), .undef, (.ptr 0 0), (.junk 1), (.va 0), (.junk 2), (.int .i64 (.a 0)), (.junk 3), (.junk 4), (.junk 5), (.junk 6), (.junk 7), (.junk 8), (.junk 9), (.junk 10), .undef, (.junk 11), (.junk 12), (.junk 13), (.junk 14), (.junk 15), (.junk 16), (.junk 17), .undef, .undef, (.junk 18), (.junk 19), (.junk 20), (.junk 21), (.junk 22), (.junk 23), (.junk 24), (.junk 25), (.junk 26), (.junk 27), (.junk 28), (.junk 29), (.junk 30), (.junk 31), (.junk 32), (.junk 33), (.junk 34), (.junk 35), (.junk 36), (.junk 37), (.junk 38), (.junk 39), (.junk 40), (.junk 41), (.junk 42), (.junk 43), (.junk 44), (.junk 45), (.junk 46), (.junk 47), (.junk 48), (.junk 49), (.junk 50), (.junk 51), (.junk 52), (.junk 53), (.junk 54), (.junk 55), (.int .i64 (.a 1)), (.int .i64 (.a 2)), (.junk 56), (.junk 57), (.junk 58), (.junk 59), (.junk 60), (.junk 61), (.junk 62), (.junk 63), (.junk 64), (.junk 65), .undef, .undef], H := [(.cells [.nilS, .nilS] 27 false)], ni := 3, nb := 0, nv := 1, nj := 66 }]
theorem revealed_Check_ok : SysOk Try.prog 15 revealed_Check_S := sys_ok (c := (cg [[false, false, true, false, true, true, true, true, true], [false, false, true, false, true, true, true, true, true, true], [false, false, true, false, true, true, true, true, true, true, true]] [] [] true false false true)) (progOkG _ _ _ _ _ _ _) Try.func15 Try.call15 (by kernel_rfl) revealed_Check_pats revealed_Check_S 5000 rfl (by kernel_rfl) (by kernel_rfl)
def saleroomref37_Moderate_s : PT :=
 (.need (.is 0 0)
 (.ite (.lt (.l 30) (.slen 0))
  (.ret false (.bool (.t false)) [])
  (.jump 0 [(.l 0)] [] [(.va 0)])))
def saleroomref37_Moderate_t0 : PT :=
 (.need (.is 0 0)
 (.ite (.lt (.a 0) (.slen 0))
  (.need (.and (.le (.l 0) (.a 0)) (.lt (.a 0) (.slen 0)))
  (.load false (.ea 0 (.a 0) 12 6) [(.int .i64), (.int .i64), (.int .i64), (.int .i64), (.int .i64), (.int .i64)]
  (.call 35 [(.agg [(.int .i64 (.a 1)), (.int .i64 (.a 2)), (.int .i64 (.a 3)), (.int .i64 (.a 4)), (.int .i64 (.a 5)), (.int .i64 (.a 6))])] [] [(.one (.int .i64))]
  (.ite (.not (.eq (.a 7) (.l 0)))
   (.ret false (.bool (.t false)) [])
   (.need (.and (.le (.l 0) (.a 0)) (.lt (.a 0) (.slen 0)))
   (.load false (.ea 0 (.a 0) 12 0) [(.int .i64)]
   (.ite (.lt (.a 8) (.l 0))
    (.ret false (.bool (.t false)) [])
    (.need (.and (.le (.l 0) (.a 0)) (.lt (.a 0) (.slen 0)))
    (.load false (.ea 0 (.a 0) 12 0) [(.int .i64)]
    (.ite (.lt (.l 1000000) (.a 9))
     (.ret false (.bool (.t false)) [])
     (.need (.and (.le (.l 0) (.a 0)) (.lt (.a 0) (.slen 0)))
     (.load false (.ea 0 (.a 0) 12 1) [(.int .i64)]
     (.ite (.lt (.a 10) (.l 0))
      (.ret false (.bool (.t false)) [])
      (.need (.and (.le (.l 0) (.a 0)) (.lt (.a 0) (.slen 0)))
      (.load false (.ea 0 (.a 0) 12 1) [(.int .i64)]
      (.ite (.lt (.l 1000000) (.a 11))
       (.ret false (.bool (.t false)) [])
       (.need (.and (.le (.l 0) (.a 0)) (.lt (.a 0) (.slen 0)))
       (.load false (.ea 0 (.a 0) 12 2) [(.int .i64)]
       (.ite (.lt (.a 12) (.l 0))
        (.ret false (.bool (.t false)) [])
        (.need (.and (.le (.l 0) (.a 0)) (.lt (.a 0) (.slen 0)))
        (.load false (.ea 0 (.a 0) 12 2) [(.int .i64)]
        (.ite (.lt (.l 1000000) (.a 13))
         (.ret false (.bool (.t false)) [])
         (.need (.and (.le (.l 0) (.a 0)) (.lt (.a 0) (.slen 0)))
         (.load false (.ea 0 (.a 0) 12 3) [(.int .i64)]
         (.ite (.lt (.a 14) (.l 0))
          (.ret false (.bool (.t false)) [])
          (.need (.and (.le (.l 0) (.a 0)) (.lt (.a 0) (.slen 0)))
          (.load false (.ea 0 (.a 0) 12 3) [(.int .i64)]
          (.ite (.lt (.l 1000000) (.a 15))
           (.ret false (.bool (.t false)) [])
           (.need (.and (.le (.l 0) (.a 0)) (.lt (.a 0) (.slen 0)))
           (.load false (.ea 0 (.a 0) 12 4) [(.int .i64)]
           (.ite (.lt (.a 16) (.l 0))
            (.ret false (.bool (.t false)) [])
            (.need (.and (.le (.l 0) (.a 0)) (.lt (.a 0) (.slen 0)))
            (.load false (.ea 0 (.a 0) 12 4) [(.int .i64)]
            (.ite (.lt (.l 1000000) (.a 17))
             (.ret false (.bool (.t false)) [])
             (.need (.and (.le (.l 0) (.a 0)) (.lt (.a 0) (.slen 0)))
             (.load false (.ea 0 (.a 0) 12 5) [(.int .i64)]
             (.ite (.lt (.a 18) (.l 0))
              (.ret false (.bool (.t false)) [])
              (.need (.and (.le (.l 0) (.a 0)) (.lt (.a 0) (.slen 0)))
              (.load false (.ea 0 (.a 0) 12 5) [(.int .i64)]
              (.ite (.lt (.l 1000000) (.a 19))
               (.ret false (.bool (.t false)) [])
               (.need (.and (.le (.l (-9223372036854775808)) (.add (.a 0) (.l 1))) (.le (.add (.a 0) (.l 1)) (.l 9223372036854775807)))
               (.jump 0 [(.add (.a 0) (.l 1))] [] [(.va 0)]))))))))))))))))))))))))))))))))))))))))))
  (.ret false (.bool (.t true)) [])))
def saleroomref37_Moderate_S : Sx.Sys := ⟨[(.sh (.one .val))], saleroomref37_Moderate_s, [saleroomref37_Moderate_t0]⟩
def saleroomref37_Moderate_pats : List Cfg := [{ todo := [(.code [false, false, true, false, true, true]), (.inLoop [false, false, true, false, true, true]), (.inBlock 0), (.code [true, true, true])], sl := [(.va 0), .undef, (.junk 0), (.int .i64 (.a 0)), (.junk 1), (.junk 2), (.junk 3), (.junk 4), (.junk 5), (.junk 6), (.junk 7), (.junk 8), (.junk 9), (.junk 10), (.junk 11), (.junk 12), (.junk 13), (.junk 14), (.junk 15), (.junk 16), (.junk 17), (.junk 18), (.junk 19), (.junk 20), (.junk 21), (.junk 22), (.junk 23), (.junk 24), (.junk 25), (.junk 26), (.junk 27), (.junk 28), (.junk 29), (.junk 30), (.junk 31), (.junk 32), (.junk 33), (.junk 34), (.junk 35), (.junk 36), (.junk 37), (.junk 38), (.junk 39)], H := [], ni := 1, nb := 0, nv := 1, nj := 40 }]
theorem saleroomref37_Moderate_ok : SysOk Try.prog 23 saleroomref37_Moderate_S := sys_ok (c := (cg [[false, false, true, false, true, true]] [] [] false false false true)) (progOkG _ _ _ _ _ _ _) Try.func23 Try.call23 (by kernel_rfl) saleroomref37_Moderate_pats saleroomref37_Moderate_S 5000 rfl (by kernel_rfl) (by kernel_rfl)
def demandset_Path_s : PT :=
 (.need (.is 0 1)
 (.jump 0 [(.slen 1), (.l 0), (.a 0), (.a 1), (.a 2), (.a 3), (.a 4), (.a 5)] [] [(.va 0), .nilS, (.va 1)]))
def demandset_Path_t0 : PT :=
 (.ite (.lt (.a 1) (.a 0))
  (.need (.and (.le (.l 0) (.a 1)) (.lt (.a 1) (.slen 2)))
  (.load false (.ea 2 (.a 1) 6 0) [(.int .i64), (.int .i64), (.int .i64), (.int .i64), (.int .i64), (.int .i64)]
  (.call 62 [(.va 0), (.agg [(.int .i64 (.a 2)), (.int .i64 (.a 3)), (.int .i64 (.a 4)), (.int .i64 (.a 5)), (.int .i64 (.a 6)), (.int .i64 (.a 7))]), (.agg [(.int .i64 (.a 8)), (.int .i64 (.a 9)), (.int .i64 (.a 10)), (.int .i64 (.a 11)), (.int .i64 (.a 12)), (.int .i64 (.a 13))])] [] [(.agg [(.int .i64), (.int .i64), (.int .i64), (.int .i64), (.int .i64), (.int .i64)]), (.one (.int .i64))]
  (.app none (.lit [[(.int .i64 (.a 8)), (.int .i64 (.a 9)), (.int .i64 (.a 10)), (.int .i64 (.a 11)), (.int .i64 (.a 12)), (.int .i64 (.a 13)), (.int .i64 (.a 14)), (.int .i64 (.a 15)), (.int .i64 (.a 16)), (.int .i64 (.a 17)), (.int .i64 (.a 18)), (.int .i64 (.a 19))]]) 12
  (.app (some 1) (.va 3) 12
  (.need (.and (.le (.l (-9223372036854775808)) (.add (.a 1) (.l 1))) (.le (.add (.a 1) (.l 1)) (.l 9223372036854775807)))
  (.jump 0 [(.a 0), (.add (.a 1) (.l 1)), (.a 2), (.a 3), (.a 4), (.a 5), (.a 6), (.a 7)] [] [(.va 0), (.va 4), (.va 2)])))))))
  (.ret false (.va 1) []))
def demandset_Path_S : Sx.Sys := ⟨[(.sh (.one .val)), (.sh (.agg [(.int .i64), (.int .i64), (.int .i64), (.int .i64), (.int .i64), (.int .i64)])), (.sh (.one .val))], demandset_Path_s, [demandset_Path_t0]⟩
def demandset_Path_pats : List Cfg := [{ todo := [(.code [false, false, true, false, true, true]), (.inLoop [false, false, true, false, true, true]), (.inBlock 0), (.code [true, true, true])], sl := [(.va 0), (.junk 0), (.junk 1), .undef, (.ptr 0 0), .undef, (.junk 2), (.va 1), .undef, (.junk 3), (.junk 4), (.junk 5), (.va 2), (.int .i64 (.a 0)), (.int .i64 (.a 1)), (.junk 6), (.junk 7), (.junk 8), (.junk 9), (.junk 10), (.junk 11), (.junk 12), (.junk 13), (.junk 14), (.junk 15), (.junk 16), (.junk 17), (.junk 18), (.junk 19), (.junk 20), (.junk 21), (.junk 22), .undef], H := [(.cells [(.int .i64 (.a 2)), (.int .i64 (.a 3)), (.int .i64 (.a 4)), (.int .i64 (.a 5)), (.int .i64 (.a 6)), (.int .i64 (.a 7))] 42 false), (.row 1 44 12)], ni := 8, nb := 0, nv := 3, nj := 23 }]
theorem demandset_Path_ok : SysOk Try.prog 37 demandset_Path_S := sys_ok (c := (cg [[false, false, true, false, true, true]] [] [] false false false true)) (progOkG _ _ _ _ _ _ _) Try.func37 Try.call37 (by kernel_rfl) demandset_Path_pats demandset_Path_S 5000 rfl (by kernel_rfl) (by kernel_rfl)
def revealed_formed_s : PT :=
 (.need (.is 0 1)
 (.ite (.lt (.l 0) (.slen 1))
  (.need (.is 0 2)
  (.ite (.lt (.l 0) (.slen 2))
   (.ret false (.bool (.t false)) [])
   (.need (.is 0 1)
   (.ite (.lt (.l 1000) (.slen 1))
    (.ret false (.bool (.t false)) [])
    (.need (.is 0 1)
    (.jump 0 [(.slen 1), (.l 0)] [] [(.va 0), (.va 1), (.va 2)]))))))
  (.need (.is 0 1)
  (.ite (.lt (.l 1000) (.slen 1))
   (.ret false (.bool (.t false)) [])
   (.need (.is 0 1)
   (.jump 0 [(.slen 1), (.l 0)] [] [(.va 0), (.va 1), (.va 2)]))))))
def revealed_formed_t0 : PT :=
 (.ite (.lt (.a 1) (.a 0))
  (.need (.and (.le (.l 0) (.a 1)) (.lt (.a 1) (.slen 1)))
  (.load false (.ea 1 (.a 1) 1 0) [(.int .i64)]
  (.ite (.lt (.a 2) (.l 0))
   (.ret false (.bool (.t false)) [])
   (.need (.is 0 0)
   (.ite (.le (.slen 0) (.a 2))
    (.ret false (.bool (.t false)) [])
    (.need (.and (.le (.l (-9223372036854775808)) (.add (.a 1) (.l 1))) (.le (.add (.a 1) (.l 1)) (.l 9223372036854775807)))
    (.jump 0 [(.a 0), (.add (.a 1) (.l 1))] [] [(.va 0), (.va 1), (.va 2)])))))))
  (.need (.is 0 2)
  (.jump 1 [(.slen 2), (.l 0)] [] [(.va 2)])))
def revealed_formed_t1 : PT :=
 (.ite (.lt (.a 1) (.a 0))
  (.need (.and (.le (.l 0) (.a 1)) (.lt (.a 1) (.slen 0)))
  (.load false (.ea 0 (.a 1) 1 0) [(.int .i64)]
  (.ite (.lt (.a 2) (.l (-1099511627776)))
   (.ret false (.bool (.t false)) [])
   (.ite (.lt (.l 1099511627776) (.a 2))
    (.ret false (.bool (.t false)) [])
    (.need (.and (.le (.l (-9223372036854775808)) (.add (.a 1) (.l 1))) (.le (.add (.a 1) (.l 1)) (.l 9223372036854775807)))
    (.jump 1 [(.a 0), (.add (.a 1) (.l 1))] [] [(.va 0)]))))))
  (.ret false (.bool (.t true)) []))
def revealed_formed_S : Sx.Sys := ⟨[(.sh (.one .val)), (.sh (.agg [.val, .val]))], revealed_formed_s, [revealed_formed_t0, revealed_formed_t1]⟩
def revealed_formed_pats : List Cfg := [{ todo := [(.code [false, false, true, false, true, true]), (.inLoop [false, false, true, false, true, true]), (.inBlock 0), (.code [true, true, true])], sl := [(.va 0), (.junk 0), .undef, (.ptr 0 0), (.junk 1), .undef, (.junk 2), .undef, .undef, (.junk 3), (.junk 4), (.junk 5), (.junk 6), (.junk 7), (.junk 8), (.junk 9), (.junk 10), (.junk 11), (.junk 12), (.junk 13), (.junk 14), (.junk 15), (.junk 16), (.junk 17), (.junk 18), (.junk 19), (.va 1), (.int .i64 (.a 0)), (.int .i64 (.a 1)), (.junk 20), (.junk 21), (.junk 22), (.junk 23), (.junk 24), (.junk 25), (.junk 26), (.junk 27), (.junk 28), (.junk 29), (.junk 30), (.junk 31), .undef, .undef, .undef, .undef, .undef, .undef, .undef, .undef, .undef, .undef, .undef, .undef, .undef, .undef], H := [(.cells [(.va 1), (.va 2)] 27 false)], ni := 2, nb := 0, nv := 3, nj := 32 },
 { todo := [(.code [false, false, true, false, true, true, true]), (.inLoop [false, false, true, false, true, true, true]), (.inBlock 2), (.code [true, true, true, true])], sl := [(.junk 0), (.junk 1), .undef, (.junk 2), (.junk 3), .undef, (.junk 4), .undef, (.junk 5), (.junk 6), (.junk 7), (.junk 8), (.junk 9), (.junk 10), (.junk 11), (.junk 12), (.junk 13), (.junk 14), (.junk 15), (.junk 16), (.junk 17), (.junk 18), (.junk 19), (.junk 20), (.junk 21), (.junk 22), (.junk 23), (.junk 24), (.junk 25), (.junk 26), (.junk 27), (.junk 28), (.junk 29), (.junk 30), (.junk 31), (.junk 32), (.junk 33), (.junk 34), (.junk 35), (.junk 36), (.junk 37), (.junk 38), (.va 0), (.int .i64 (.a 0)), (.int .i64 (.a 1)), (.junk 39), (.junk 40), (.junk 41), (.junk 42), (.junk 43), (.junk 44), (.junk 45), (.junk 46), (.junk 47), (.junk 48)], H := [], ni := 2, nb := 0, nv := 1, nj := 49 }]
theorem revealed_formed_ok : SysOk Try.prog 46 revealed_formed_S := sys_ok (c := (cg [[false, false, true, false, true, true], [false, false, true, false, true, true, true]] [] [] false false false true)) (progOkG _ _ _ _ _ _ _) Try.func46 Try.call46 (by kernel_rfl) revealed_formed_pats revealed_formed_S 5000 rfl (by kernel_rfl) (by kernel_rfl)
def bundle_Check_s : PT :=
 (.ite (.lt (.a 0) (.l 0))
  (.ret false (.int .i64 (.l 4)) [])
  (.ite (.lt (.l 4) (.a 0))
   (.ret false (.int .i64 (.l 4)) [])
   (.ite (.lt (.a 1) (.l 0))
    (.ret false (.int .i64 (.l 4)) [])
    (.ite (.lt (.l 4) (.a 1))
     (.ret false (.int .i64 (.l 4)) [])
     (.ite (.lt (.a 2) (.l 0))
      (.ret false (.int .i64 (.l 4)) [])
      (.ite (.lt (.l 4) (.a 2))
       (.ret false (.int .i64 (.l 4)) [])
       (.ite (.lt (.a 3) (.l 0))
        (.ret false (.int .i64 (.l 4)) [])
        (.ite (.lt (.l 4) (.a 3))
         (.ret false (.int .i64 (.l 4)) [])
         (.ite (.lt (.a 4) (.l 0))
          (.ret false (.int .i64 (.l 4)) [])
          (.ite (.lt (.l 4) (.a 4))
           (.ret false (.int .i64 (.l 4)) [])
           (.ite (.lt (.a 5) (.l 0))
            (.ret false (.int .i64 (.l 4)) [])
            (.ite (.lt (.l 4) (.a 5))
             (.ret false (.int .i64 (.l 4)) [])
             (.ret false (.int .i64 (.l 0)) [])))))))))))))
def bundle_Check_S : Sx.Sys := ⟨[(.sh (.agg [(.int .i64), (.int .i64), (.int .i64), (.int .i64), (.int .i64), (.int .i64)]))], bundle_Check_s, []⟩
def bundle_Check_pats : List Cfg := []
theorem bundle_Check_ok : SysOk Try.prog 55 bundle_Check_S := sys_ok (c := (cg [] [] [] false false false true)) (progOkG _ _ _ _ _ _ _) Try.func55 Try.call55 (by kernel_rfl) bundle_Check_pats bundle_Check_S 5000 rfl (by kernel_rfl) (by kernel_rfl)
def saleroomref07_Prices_s : PT :=
 (.ite (.lt (.a 0) (.l 0))
  (.ret false (.bool (.t false)) [])
  (.ite (.lt (.l 1000000) (.a 0))
   (.ret false (.bool (.t false)) [])
   (.ite (.lt (.a 1) (.l 0))
    (.ret false (.bool (.t false)) [])
    (.ite (.lt (.l 1000000) (.a 1))
     (.ret false (.bool (.t false)) [])
     (.ite (.lt (.a 2) (.l 0))
      (.ret false (.bool (.t false)) [])
      (.ite (.lt (.l 1000000) (.a 2))
       (.ret false (.bool (.t false)) [])
       (.ite (.lt (.a 3) (.l 0))
        (.ret false (.bool (.t false)) [])
        (.ite (.lt (.l 1000000) (.a 3))
         (.ret false (.bool (.t false)) [])
         (.ite (.lt (.a 4) (.l 0))
          (.ret false (.bool (.t false)) [])
          (.ite (.lt (.l 1000000) (.a 4))
           (.ret false (.bool (.t false)) [])
           (.ite (.lt (.a 5) (.l 0))
            (.ret false (.bool (.t false)) [])
            (.ite (.lt (.l 1000000) (.a 5))
             (.ret false (.bool (.t false)) [])
             (.ret false (.bool (.t true)) [])))))))))))))
def saleroomref07_Prices_S : Sx.Sys := ⟨[(.sh (.agg [(.int .i64), (.int .i64), (.int .i64), (.int .i64), (.int .i64), (.int .i64)]))], saleroomref07_Prices_s, []⟩
def saleroomref07_Prices_pats : List Cfg := []
theorem saleroomref07_Prices_ok : SysOk Try.prog 65 saleroomref07_Prices_S := sys_ok (c := (cg [] [] [] false false false true)) (progOkG _ _ _ _ _ _ _) Try.func65 Try.call65 (by kernel_rfl) saleroomref07_Prices_pats saleroomref07_Prices_S 5000 rfl (by kernel_rfl) (by kernel_rfl)
def bundle_Count_s : PT :=
 (.call 55 [(.agg [(.int .i64 (.a 0)), (.int .i64 (.a 1)), (.int .i64 (.a 2)), (.int .i64 (.a 3)), (.int .i64 (.a 4)), (.int .i64 (.a 5))])] [] [(.one (.int .i64))]
 (.ite (.not (.eq (.a 6) (.l 0)))
  (.ret false (.int .i64 (.l 0)) [])
  (.need (.and (.le (.l (-9223372036854775808)) (.add (.a 0) (.l 1))) (.le (.add (.a 0) (.l 1)) (.l 9223372036854775807)))
  (.need (.and (.le (.l (-9223372036854775808)) (.mul (.l 1) (.add (.a 0) (.l 1)))) (.le (.mul (.l 1) (.add (.a 0) (.l 1))) (.l 9223372036854775807)))
  (.need (.and (.le (.l (-9223372036854775808)) (.add (.a 1) (.l 1))) (.le (.add (.a 1) (.l 1)) (.l 9223372036854775807)))
  (.need (.and (.le (.l (-9223372036854775808)) (.mul (.mul (.l 1) (.add (.a 0) (.l 1))) (.add (.a 1) (.l 1)))) (.le (.mul (.mul (.l 1) (.add (.a 0) (.l 1))) (.add (.a 1) (.l 1))) (.l 9223372036854775807)))
  (.need (.and (.le (.l (-9223372036854775808)) (.add (.a 2) (.l 1))) (.le (.add (.a 2) (.l 1)) (.l 9223372036854775807)))
  (.need (.and (.le (.l (-9223372036854775808)) (.mul (.mul (.mul (.l 1) (.add (.a 0) (.l 1))) (.add (.a 1) (.l 1))) (.add (.a 2) (.l 1)))) (.le (.mul (.mul (.mul (.l 1) (.add (.a 0) (.l 1))) (.add (.a 1) (.l 1))) (.add (.a 2) (.l 1))) (.l 9223372036854775807)))
  (.need (.and (.le (.l (-9223372036854775808)) (.add (.a 3) (.l 1))) (.le (.add (.a 3) (.l 1)) (.l 9223372036854775807)))
  (.need (.and (.le (.l (-9223372036854775808)) (.mul (.mul (.mul (.mul (.l 1) (.add (.a 0) (.l 1))) (.add (.a 1) (.l 1))) (.add (.a 2) (.l 1))) (.add (.a 3) (.l 1)))) (.le (.mul (.mul (.mul (.mul (.l 1) (.add (.a 0) (.l 1))) (.add (.a 1) (.l 1))) (.add (.a 2) (.l 1))) (.add (.a 3) (.l 1))) (.l 9223372036854775807)))
  (.need (.and (.le (.l (-9223372036854775808)) (.add (.a 4) (.l 1))) (.le (.add (.a 4) (.l 1)) (.l 9223372036854775807)))
  (.need (.and (.le (.l (-9223372036854775808)) (.mul (.mul (.mul (.mul (.mul (.l 1) (.add (.a 0) (.l 1))) (.add (.a 1) (.l 1))) (.add (.a 2) (.l 1))) (.add (.a 3) (.l 1))) (.add (.a 4) (.l 1)))) (.le (.mul (.mul (.mul (.mul (.mul (.l 1) (.add (.a 0) (.l 1))) (.add (.a 1) (.l 1))) (.add (.a 2) (.l 1))) (.add (.a 3) (.l 1))) (.add (.a 4) (.l 1))) (.l 9223372036854775807)))
  (.need (.and (.le (.l (-9223372036854775808)) (.add (.a 5) (.l 1))) (.le (.add (.a 5) (.l 1)) (.l 9223372036854775807)))
  (.need (.and (.le (.l (-9223372036854775808)) (.mul (.mul (.mul (.mul (.mul (.mul (.l 1) (.add (.a 0) (.l 1))) (.add (.a 1) (.l 1))) (.add (.a 2) (.l 1))) (.add (.a 3) (.l 1))) (.add (.a 4) (.l 1))) (.add (.a 5) (.l 1)))) (.le (.mul (.mul (.mul (.mul (.mul (.mul (.l 1) (.add (.a 0) (.l 1))) (.add (.a 1) (.l 1))) (.add (.a 2) (.l 1))) (.add (.a 3) (.l 1))) (.add (.a 4) (.l 1))) (.add (.a 5) (.l 1))) (.l 9223372036854775807)))
  (.ite (.lt (.l 1024) (.mul (.mul (.mul (.mul (.mul (.mul (.l 1) (.add (.a 0) (.l 1))) (.add (.a 1) (.l 1))) (.add (.a 2) (.l 1))) (.add (.a 3) (.l 1))) (.add (.a 4) (.l 1))) (.add (.a 5) (.l 1))))
   (.ret false (.int .i64 (.l 0)) [])
   (.ret false (.int .i64 (.mul (.mul (.mul (.mul (.mul (.mul (.l 1) (.add (.a 0) (.l 1))) (.add (.a 1) (.l 1))) (.add (.a 2) (.l 1))) (.add (.a 3) (.l 1))) (.add (.a 4) (.l 1))) (.add (.a 5) (.l 1)))) []))))))))))))))))
def bundle_Count_S : Sx.Sys := ⟨[(.sh (.agg [(.int .i64), (.int .i64), (.int .i64), (.int .i64), (.int .i64), (.int .i64)]))], bundle_Count_s, []⟩
def bundle_Count_pats : List Cfg := []
theorem bundle_Count_ok : SysOk Try.prog 76 bundle_Count_S := sys_ok (c := (cg [] [] [] false false false true)) (progOkG _ _ _ _ _ _ _) Try.func76 Try.call76 (by kernel_rfl) bundle_Count_pats bundle_Count_S 5000 rfl (by kernel_rfl) (by kernel_rfl)
def bundle_Meet_s : PT :=
 (.ret false (.agg [(.int .i64 (.mn (.a 0) (.a 6))), (.int .i64 (.mn (.a 1) (.a 7))), (.int .i64 (.mn (.a 2) (.a 8))), (.int .i64 (.mn (.a 3) (.a 9))), (.int .i64 (.mn (.a 4) (.a 10))), (.int .i64 (.mn (.a 5) (.a 11)))]) [])
def bundle_Meet_S : Sx.Sys := ⟨[(.sh (.agg [(.int .i64), (.int .i64), (.int .i64), (.int .i64), (.int .i64), (.int .i64)])), (.sh (.agg [(.int .i64), (.int .i64), (.int .i64), (.int .i64), (.int .i64), (.int .i64)]))], bundle_Meet_s, []⟩
def bundle_Meet_pats : List Cfg := []
theorem bundle_Meet_ok : SysOk Try.prog 87 bundle_Meet_S := sys_ok (c := (cg [] [] [] false false false true)) (progOkG _ _ _ _ _ _ _) Try.func87 Try.call87 (by kernel_rfl) bundle_Meet_pats bundle_Meet_S 5000 rfl (by kernel_rfl) (by kernel_rfl)
end Go.Proofs.Ythjahianafohjaa
