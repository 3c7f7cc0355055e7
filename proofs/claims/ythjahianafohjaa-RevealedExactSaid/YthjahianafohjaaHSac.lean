/- The trees of this seat's functions, part 6. Written by txgen.py. -/
import Derived.Test.YthjahianafohjaaHTab
import Derived.Test.YthjahianafohjaaHSaa
import Derived.Test.YthjahianafohjaaHSab
set_option linter.unusedSimpArgs false
set_option linter.unusedVariables false
set_option maxRecDepth 100000
namespace Go.Proofs.Ythjahianafohjaa
open Go.Sx
def saleroomref36_All_s : PT :=
 (.jump 0 [(.l 0)] [] [(.va 0)])
def saleroomref36_All_t0 : PT :=
 (.need (.is 0 0)
 (.ite (.lt (.a 0) (.slen 0))
  (.need (.and (.le (.l 0) (.a 0)) (.lt (.a 0) (.slen 0)))
  (.load false (.ea 0 (.a 0) 12 0) [(.int .i64), (.int .i64), (.int .i64), (.int .i64), (.int .i64), (.int .i64), (.int .i64), (.int .i64), (.int .i64), (.int .i64), (.int .i64), (.int .i64)]
  (.call 44 [(.agg [(.int .i64 (.a 1)), (.int .i64 (.a 2)), (.int .i64 (.a 3)), (.int .i64 (.a 4)), (.int .i64 (.a 5)), (.int .i64 (.a 6)), (.int .i64 (.a 7)), (.int .i64 (.a 8)), (.int .i64 (.a 9)), (.int .i64 (.a 10)), (.int .i64 (.a 11)), (.int .i64 (.a 12))])] [] [(.one .bool)]
  (.ite (.not (.a 0))
   (.ret false (.bool (.t false)) [])
   (.need (.and (.le (.l (-9223372036854775808)) (.add (.a 0) (.l 1))) (.le (.add (.a 0) (.l 1)) (.l 9223372036854775807)))
   (.jump 0 [(.add (.a 0) (.l 1))] [] [(.va 0)]))))))
  (.ret false (.bool (.t true)) [])))
def saleroomref36_All_S : Sx.Sys := ⟨[(.sh (.one .val))], saleroomref36_All_s, [saleroomref36_All_t0], none⟩
def saleroomref36_All_pats : List Cfg := [{ todo := [(.code [false, false, true, false, true]), (.inLoop [false, false, true, false, true]), (.inBlock 0), (.code [true, true])], sl := [(.va 0), .undef, (.junk 0), (.int .i64 (.a 0)), (.junk 1), (.junk 2), (.junk 3), (.junk 4), (.junk 5), (.junk 6), (.junk 7), (.junk 8), (.junk 9), (.junk 10), (.junk 11), (.junk 12)], H := [], ni := 1, nb := 0, nv := 1, nj := 13 }]
theorem saleroomref36_All_ok : SysOk Try.prog 17 saleroomref36_All_S := sys_ok (c := (cg [[false, false, true, false, true]] [] [] false false false true)) (progOkG _ _ _ _ _ _ _ _ _) Try.func17 Try.call17 (by kernel_rfl) saleroomref36_All_pats saleroomref36_All_S 5000 rfl (by kernel_rfl) (by kernel_rfl) rfl
def bundle_Cost_s : PT :=
 (.need (.and (.le (.l (-9223372036854775808)) (.mul (.a 0) (.a 6))) (.le (.mul (.a 0) (.a 6)) (.l 9223372036854775807)))
 (.need (.and (.le (.l (-9223372036854775808)) (.mul (.a 0) (.a 6))) (.le (.mul (.a 0) (.a 6)) (.l 9223372036854775807)))
 (.need (.and (.le (.l (-9223372036854775808)) (.mul (.a 1) (.a 7))) (.le (.mul (.a 1) (.a 7)) (.l 9223372036854775807)))
 (.need (.and (.le (.l (-9223372036854775808)) (.add (.mul (.a 0) (.a 6)) (.mul (.a 1) (.a 7)))) (.le (.add (.mul (.a 0) (.a 6)) (.mul (.a 1) (.a 7))) (.l 9223372036854775807)))
 (.need (.and (.le (.l (-9223372036854775808)) (.mul (.a 2) (.a 8))) (.le (.mul (.a 2) (.a 8)) (.l 9223372036854775807)))
 (.need (.and (.le (.l (-9223372036854775808)) (.add (.add (.mul (.a 0) (.a 6)) (.mul (.a 1) (.a 7))) (.mul (.a 2) (.a 8)))) (.le (.add (.add (.mul (.a 0) (.a 6)) (.mul (.a 1) (.a 7))) (.mul (.a 2) (.a 8))) (.l 9223372036854775807)))
 (.need (.and (.le (.l (-9223372036854775808)) (.mul (.a 3) (.a 9))) (.le (.mul (.a 3) (.a 9)) (.l 9223372036854775807)))
 (.need (.and (.le (.l (-9223372036854775808)) (.add (.add (.add (.mul (.a 0) (.a 6)) (.mul (.a 1) (.a 7))) (.mul (.a 2) (.a 8))) (.mul (.a 3) (.a 9)))) (.le (.add (.add (.add (.mul (.a 0) (.a 6)) (.mul (.a 1) (.a 7))) (.mul (.a 2) (.a 8))) (.mul (.a 3) (.a 9))) (.l 9223372036854775807)))
 (.need (.and (.le (.l (-9223372036854775808)) (.mul (.a 4) (.a 10))) (.le (.mul (.a 4) (.a 10)) (.l 9223372036854775807)))
 (.need (.and (.le (.l (-9223372036854775808)) (.add (.add (.add (.add (.mul (.a 0) (.a 6)) (.mul (.a 1) (.a 7))) (.mul (.a 2) (.a 8))) (.mul (.a 3) (.a 9))) (.mul (.a 4) (.a 10)))) (.le (.add (.add (.add (.add (.mul (.a 0) (.a 6)) (.mul (.a 1) (.a 7))) (.mul (.a 2) (.a 8))) (.mul (.a 3) (.a 9))) (.mul (.a 4) (.a 10))) (.l 9223372036854775807)))
 (.need (.and (.le (.l (-9223372036854775808)) (.mul (.a 5) (.a 11))) (.le (.mul (.a 5) (.a 11)) (.l 9223372036854775807)))
 (.need (.and (.le (.l (-9223372036854775808)) (.add (.add (.add (.add (.add (.mul (.a 0) (.a 6)) (.mul (.a 1) (.a 7))) (.mul (.a 2) (.a 8))) (.mul (.a 3) (.a 9))) (.mul (.a 4) (.a 10))) (.mul (.a 5) (.a 11)))) (.le (.add (.add (.add (.add (.add (.mul (.a 0) (.a 6)) (.mul (.a 1) (.a 7))) (.mul (.a 2) (.a 8))) (.mul (.a 3) (.a 9))) (.mul (.a 4) (.a 10))) (.mul (.a 5) (.a 11))) (.l 9223372036854775807)))
 (.ret false (.int .i64 (.add (.add (.add (.add (.add (.mul (.a 0) (.a 6)) (.mul (.a 1) (.a 7))) (.mul (.a 2) (.a 8))) (.mul (.a 3) (.a 9))) (.mul (.a 4) (.a 10))) (.mul (.a 5) (.a 11)))) [])))))))))))))
def bundle_Cost_S : Sx.Sys := ⟨[(.sh (.agg [(.int .i64), (.int .i64), (.int .i64), (.int .i64), (.int .i64), (.int .i64)])), (.sh (.agg [(.int .i64), (.int .i64), (.int .i64), (.int .i64), (.int .i64), (.int .i64)]))], bundle_Cost_s, [], none⟩
def bundle_Cost_pats : List Cfg := []
theorem bundle_Cost_ok : SysOk Try.prog 41 bundle_Cost_S := sys_ok (c := (cg [] [] [] false false false true)) (progOkG _ _ _ _ _ _ _ _ _) Try.func41 Try.call41 (by kernel_rfl) bundle_Cost_pats bundle_Cost_S 5000 rfl (by kernel_rfl) (by kernel_rfl) rfl
def revealed_valid_s : PT :=
 (.ite (.lt (.a 0) (.l 0))
  (.ret false (.bool (.t false)) [])
  (.ite (.lt (.l 1000000) (.a 0))
   (.ret false (.bool (.t false)) [])
   (.ite (.lt (.a 1) (.l 0))
    (.ret false (.bool (.t false)) [])
    (.ite (.lt (.l 1000000) (.a 1))
     (.ret false (.bool (.t false)) [])
     (.ite (.lt (.a 2) (.l 0))
      (.ret false (.bool (.t false)) [])
      (.ite (.lt (.l 1000000) (.a 2))
       (.ret false (.bool (.t false)) [])
       (.ite (.lt (.a 3) (.l 0))
        (.ret false (.bool (.t false)) [])
        (.ite (.lt (.l 1000000) (.a 3))
         (.ret false (.bool (.t false)) [])
         (.ite (.lt (.a 4) (.l 0))
          (.ret false (.bool (.t false)) [])
          (.ite (.lt (.l 1000000) (.a 4))
           (.ret false (.bool (.t false)) [])
           (.ite (.lt (.a 5) (.l 0))
            (.ret false (.bool (.t false)) [])
            (.ite (.lt (.l 1000000) (.a 5))
             (.ret false (.bool (.t false)) [])
             (.call 55 [(.agg [(.int .i64 (.a 6)), (.int .i64 (.a 7)), (.int .i64 (.a 8)), (.int .i64 (.a 9)), (.int .i64 (.a 10)), (.int .i64 (.a 11))])] [] [(.one (.int .i64))]
             (.ret false (.bool (.eq (.a 12) (.l 0))) []))))))))))))))
def revealed_valid_S : Sx.Sys := ⟨[(.sh (.agg [(.int .i64), (.int .i64), (.int .i64), (.int .i64), (.int .i64), (.int .i64), (.int .i64), (.int .i64), (.int .i64), (.int .i64), (.int .i64), (.int .i64)]))], revealed_valid_s, [], none⟩
def revealed_valid_pats : List Cfg := []
theorem revealed_valid_ok : SysOk Try.prog 49 revealed_valid_S := sys_ok (c := (cg [] [] [] false false false true)) (progOkG _ _ _ _ _ _ _ _ _) Try.func49 Try.call49 (by kernel_rfl) revealed_valid_pats revealed_valid_S 5000 rfl (by kernel_rfl) (by kernel_rfl) rfl
end Go.Proofs.Ythjahianafohjaa
set_option maxRecDepth 100000
namespace Go.Proofs.Ythjahianafohjaa
open Go.Sx
def saleroomref36_Verify_s : PT :=
 (.call 17 [(.va 0)] [] [(.one .bool)]
 (.ite (.not (.a 0))
  (.ret false (.int .i64 (.l 4)) [])
  (.need (.is 0 1)
  (.ite (.lt (.l 0) (.slen 1))
   (.need (.is 0 2)
   (.ite (.lt (.l 0) (.slen 2))
    (.ret false (.int .i64 (.l 2)) [])
    (.need (.is 0 1)
    (.ite (.lt (.l 1000) (.slen 1))
     (.ret false (.int .i64 (.l 2)) [])
     (.jump 0 [(.l 0)] [] [(.va 0), (.va 1), (.va 2)])))))
   (.need (.is 0 1)
   (.ite (.lt (.l 1000) (.slen 1))
    (.ret false (.int .i64 (.l 2)) [])
    (.jump 0 [(.l 0)] [] [(.va 0), (.va 1), (.va 2)])))))))
def saleroomref36_Verify_t0 : PT :=
 (.need (.is 0 1)
 (.ite (.lt (.a 0) (.slen 1))
  (.need (.and (.le (.l 0) (.a 0)) (.lt (.a 0) (.slen 1)))
  (.load false (.ea 1 (.a 0) 1 0) [(.int .i64)]
  (.ite (.lt (.a 1) (.l 0))
   (.ret false (.int .i64 (.l 2)) [])
   (.need (.and (.le (.l 0) (.a 0)) (.lt (.a 0) (.slen 1)))
   (.load false (.ea 1 (.a 0) 1 0) [(.int .i64)]
   (.need (.is 0 0)
   (.ite (.le (.slen 0) (.a 2))
    (.ret false (.int .i64 (.l 2)) [])
    (.need (.and (.le (.l (-9223372036854775808)) (.add (.a 0) (.l 1))) (.le (.add (.a 0) (.l 1)) (.l 9223372036854775807)))
    (.jump 0 [(.add (.a 0) (.l 1))] [] [(.va 0), (.va 1), (.va 2)])))))))))
  (.jump 1 [(.l 0)] [] [(.va 0), (.va 1), (.va 2)])))
def saleroomref36_Verify_t1 : PT :=
 (.need (.is 0 2)
 (.ite (.lt (.a 0) (.slen 2))
  (.need (.and (.le (.l 0) (.a 0)) (.lt (.a 0) (.slen 2)))
  (.load false (.ea 2 (.a 0) 1 0) [(.int .i64)]
  (.ite (.lt (.a 1) (.l (-1099511627776)))
   (.ret false (.int .i64 (.l 2)) [])
   (.need (.and (.le (.l 0) (.a 0)) (.lt (.a 0) (.slen 2)))
   (.load false (.ea 2 (.a 0) 1 0) [(.int .i64)]
   (.ite (.lt (.l 1099511627776) (.a 2))
    (.ret false (.int .i64 (.l 2)) [])
    (.need (.and (.le (.l (-9223372036854775808)) (.add (.a 0) (.l 1))) (.le (.add (.a 0) (.l 1)) (.l 9223372036854775807)))
    (.jump 1 [(.add (.a 0) (.l 1))] [] [(.va 0), (.va 1), (.va 2)]))))))))
  (.need (.is 0 1)
  (.ite (.lt (.l 0) (.slen 1))
   (.jump 2 [(.l 0), (.l 0)] [] [(.va 0), (.va 1), (.va 2)])
   (.call 45 [(.va 0), (.va 2)] [] [(.one .bool)]
   (.ite (.not (.a 0))
    (.ret false (.int .i64 (.l 13)) [])
    (.ret false (.int .i64 (.l 0)) [])))))))
def saleroomref36_Verify_t2 : PT :=
 (.need (.is 0 1)
 (.ite (.lt (.a 1) (.slen 1))
  (.need (.and (.le (.l 0) (.a 1)) (.lt (.a 1) (.slen 1)))
  (.need (.and (.le (.l (-9223372036854775808)) (.add (.a 1) (.l 1))) (.le (.add (.a 1) (.l 1)) (.l 9223372036854775807)))
  (.need (.is 0 1)
  (.need (.not (.eq (.slen 1) (.l 0)))
  (.need (.and (.le (.l 0) (.tmod (.add (.a 1) (.l 1)) (.slen 1))) (.lt (.tmod (.add (.a 1) (.l 1)) (.slen 1)) (.slen 1)))
  (.load true (.ea 1 (.a 1) 1 0) [(.int .i64)]
  (.need (.and (.le (.l 0) (.a 2)) (.lt (.a 2) (.slen 0)))
  (.load true (.ea 0 (.a 2) 12 0) [(.int .i64), (.int .i64), (.int .i64), (.int .i64), (.int .i64), (.int .i64), (.int .i64), (.int .i64), (.int .i64), (.int .i64), (.int .i64), (.int .i64)]
  (.load true (.ea 1 (.tmod (.add (.a 1) (.l 1)) (.slen 1)) 1 0) [(.int .i64)]
  (.need (.and (.le (.l 0) (.a 15)) (.lt (.a 15) (.slen 0)))
  (.load true (.ea 0 (.a 15) 12 0) [(.int .i64), (.int .i64), (.int .i64), (.int .i64), (.int .i64), (.int .i64), (.int .i64), (.int .i64), (.int .i64), (.int .i64), (.int .i64), (.int .i64)]
  (.call 21 [(.agg [(.int .i64 (.a 3)), (.int .i64 (.a 4)), (.int .i64 (.a 5)), (.int .i64 (.a 6)), (.int .i64 (.a 7)), (.int .i64 (.a 8)), (.int .i64 (.a 9)), (.int .i64 (.a 10)), (.int .i64 (.a 11)), (.int .i64 (.a 12)), (.int .i64 (.a 13)), (.int .i64 (.a 14))]), (.agg [(.int .i64 (.a 16)), (.int .i64 (.a 17)), (.int .i64 (.a 18)), (.int .i64 (.a 19)), (.int .i64 (.a 20)), (.int .i64 (.a 21)), (.int .i64 (.a 22)), (.int .i64 (.a 23)), (.int .i64 (.a 24)), (.int .i64 (.a 25)), (.int .i64 (.a 26)), (.int .i64 (.a 27))])] [] [(.one (.int .i64))]
  (.need (.and (.le (.l (-9223372036854775808)) (.add (.a 0) (.a 28))) (.le (.add (.a 0) (.a 28)) (.l 9223372036854775807)))
  (.need (.and (.le (.l (-9223372036854775808)) (.add (.a 1) (.l 1))) (.le (.add (.a 1) (.l 1)) (.l 9223372036854775807)))
  (.jump 2 [(.add (.a 0) (.a 28)), (.add (.a 1) (.l 1))] [] [(.va 0), (.va 1), (.va 2)])))))))))))))))
  (.ite (.le (.l 0) (.a 0))
   (.ret false (.int .i64 (.l 13)) [])
   (.ret false (.int .i64 (.l 0)) []))))
def saleroomref36_Verify_S : Sx.Sys := ⟨[(.sh (.one .val)), (.sh (.agg [.val, .val]))], saleroomref36_Verify_s, [saleroomref36_Verify_t0, saleroomref36_Verify_t1, saleroomref36_Verify_t2], none⟩
def saleroomref36_Verify_pats : List Cfg := [{ todo := [(.code [false, false, true, false, true, true, true]), (.inLoop [false, false, true, false, true, true, true]), (.inBlock 0), (.code [true, true, true, true])], sl := [(.va 0), (.junk 0), .undef, (.ptr 0 0), (.junk 1), (.int .i64 (.a 0)), .undef, .undef, .undef, (.junk 2), (.junk 3), (.junk 4), (.junk 5), (.junk 6), (.junk 7), (.junk 8), (.junk 9), (.junk 10), (.junk 11), (.junk 12), (.junk 13), (.junk 14), (.junk 15), (.junk 16), (.junk 17), (.junk 18), (.junk 19), (.junk 20), (.junk 21), (.junk 22), (.junk 23), (.junk 24), (.junk 25), (.junk 26), (.junk 27), (.junk 28), (.junk 29), (.junk 30), (.junk 31), (.junk 32), (.junk 33), (.junk 34), (.junk 35), (.junk 36), (.junk 37), (.junk 38), (.junk 39), (.junk 40), (.junk 41), (.junk 42), (.junk 43), .undef, .undef, .undef, .undef, .undef, .undef, .undef, .undef, .undef, .undef, .undef, .undef, .undef, .undef, .undef, .undef, .undef, .undef, .undef, .undef, .undef, .undef, .undef, .undef, .undef, .undef, .undef, .undef, .undef, .undef, .undef, .undef, .undef, .undef, .undef, .undef, .undef, .undef, .undef, .undef, .undef, .undef, .undef, .undef, .undef, .undef, .undef, .undef, .undef, .undef, .undef, .undef, .undef, .undef, .undef, .undef, .undef, .undef, .undef, .undef, .undef, .undef, .undef], H := [(.cells [(.va 1), (.va 2)] 30 false)], ni := 1, nb := 0, nv := 3, nj := 44 },
 { todo := [(.code [false, false, true, false, true, true, true, true]), (.inLoop [false, false, true, false, true, true, true, true]), (.inBlock 2), (.code [true, true, true, true, true])], sl := [(.va 0), (.junk 0), .undef, (.ptr 0 0), (.junk 1), (.junk 2), (.int .i64 (.a 0)), .undef, .undef, (.junk 3), (.junk 4), (.junk 5), (.junk 6), (.junk 7), (.junk 8), (.junk 9), (.junk 10), (.junk 11), (.junk 12), (.junk 13), (.junk 14), (.junk 15), (.junk 16), (.junk 17), (.junk 18), (.junk 19), (.junk 20), (.junk 21), (.junk 22), (.junk 23), (.junk 24), (.junk 25), (.junk 26), (.junk 27), (.junk 28), (.junk 29), (.junk 30), (.junk 31), (.junk 32), (.junk 33), (.junk 34), (.junk 35), (.junk 36), (.junk 37), (.junk 38), (.junk 39), (.junk 40), (.junk 41), (.junk 42), (.junk 43), (.junk 44), (.junk 45), (.junk 46), (.junk 47), (.junk 48), (.junk 49), (.junk 50), (.junk 51), (.junk 52), (.junk 53), (.junk 54), (.junk 55), (.junk 56), (.junk 57), (.junk 58), (.junk 59), (.junk 60), (.junk 61), (.junk 62), (.junk 63), (.junk 64), (.junk 65), .undef, .undef, .undef, .undef, .undef, .undef, .undef, .undef, .undef, .undef, .undef, .undef, .undef, .undef, .undef, .undef, .undef, .undef, .undef, .undef, .undef, .undef, .undef, .undef, .undef, .undef, .undef, .undef, .undef, .undef, .undef, .undef, .undef, .undef, .undef, .undef, .undef, .undef, .undef, .undef, .undef, .undef], H := [(.cells [(.va 1), (.va 2)] 30 false)], ni := 1, nb := 0, nv := 3, nj := 66 },
 { todo := [(.code [false, false, true, false, true, false, true, false, true, true, true, true, true]), (.inLoop [false, false, true, false, true, false, true, false, true, true, true, true, true]), (.inBlock 4), (.code [true, true, false, true, false, true, true, true, true, true]), (.code [true, true, true, true, true, true])], sl := [(.va 0), (.junk 0), .undef, (.ptr 0 0), (.junk 1), (.junk 2), (.junk 3), (.int .i64 (.a 0)), (.int .i64 (.a 1)), (.junk 4), (.junk 5), (.junk 6), (.junk 7), (.junk 8), (.junk 9), (.junk 10), (.junk 11), (.junk 12), (.junk 13), (.junk 14), (.junk 15), (.junk 16), (.junk 17), (.junk 18), (.junk 19), (.junk 20), (.junk 21), (.junk 22), (.junk 23), (.junk 24), (.junk 25), (.junk 26), (.junk 27), (.junk 28), (.junk 29), (.junk 30), (.junk 31), (.junk 32), (.junk 33), (.junk 34), (.junk 35), (.junk 36), (.junk 37), (.junk 38), (.junk 39), (.junk 40), (.junk 41), (.junk 42), (.junk 43), (.junk 44), (.junk 45), (.junk 46), (.junk 47), (.junk 48), (.junk 49), (.junk 50), (.junk 51), (.junk 52), (.junk 53), (.junk 54), (.junk 55), (.junk 56), (.junk 57), (.junk 58), (.junk 59), (.junk 60), (.junk 61), (.junk 62), (.junk 63), (.junk 64), (.junk 65), (.junk 66), (.junk 67), (.junk 68), (.junk 69), (.junk 70), (.junk 71), (.junk 72), (.junk 73), (.junk 74), (.junk 75), (.junk 76), (.junk 77), (.junk 78), (.junk 79), (.junk 80), (.junk 81), (.junk 82), (.junk 83), (.junk 84), (.junk 85), (.junk 86), (.junk 87), (.junk 88), (.junk 89), (.junk 90), (.junk 91), (.junk 92), (.junk 93), (.junk 94), (.junk 95), (.junk 96), (.junk 97), (.junk 98), (.junk 99), (.junk 100), (.junk 101), .undef, .undef, .undef, .undef, .undef, .undef, .undef], H := [(.cells [(.va 1), (.va 2)] 30 false)], ni := 2, nb := 0, nv := 3, nj := 102 }]
theorem saleroomref36_Verify_ok : SysOk Try.prog 18 saleroomref36_Verify_S := sys_ok (c := (cg [[false, false, true, false, true, true, true], [false, false, true, false, true, true, true, true], [false, false, true, false, true, false, true, false, true, true, true, true, true]] [] [] false false false true)) (progOkG _ _ _ _ _ _ _ _ _) Try.func18 Try.call18 (by kernel_rfl) saleroomref36_Verify_pats saleroomref36_Verify_S 5000 rfl (by kernel_rfl) (by kernel_rfl) rfl
def saleroomref36_Shortest_s : PT :=
 (.need (.is 0 0)
 (.jump 0 [(.slen 0), (.l 0)] [] [(.va 0), .nilS]))
def saleroomref36_Shortest_t0 : PT :=
 (.ite (.lt (.a 1) (.a 0))
  (.mkM (.a 0) [(.int .i64 (.l 0))] 2 1 8
  (.jump 1 [(.a 0), (.a 1), (.l 0)] [] [(.va 0), (.va 1), (.va 2)]))
  (.jump 2 [(.a 0), (.l 0)] [] [(.va 1)]))
def saleroomref36_Shortest_t1 : PT :=
 (.ite (.lt (.a 2) (.a 0))
  (.need (.and (.le (.l 0) (.a 1)) (.lt (.a 1) (.slen 0)))
  (.need (.and (.le (.l 0) (.a 2)) (.lt (.a 2) (.slen 0)))
  (.load true (.ea 0 (.a 1) 12 0) [(.int .i64), (.int .i64), (.int .i64), (.int .i64), (.int .i64), (.int .i64), (.int .i64), (.int .i64), (.int .i64), (.int .i64), (.int .i64), (.int .i64)]
  (.load true (.ea 0 (.a 2) 12 0) [(.int .i64), (.int .i64), (.int .i64), (.int .i64), (.int .i64), (.int .i64), (.int .i64), (.int .i64), (.int .i64), (.int .i64), (.int .i64), (.int .i64)]
  (.call 21 [(.agg [(.int .i64 (.a 3)), (.int .i64 (.a 4)), (.int .i64 (.a 5)), (.int .i64 (.a 6)), (.int .i64 (.a 7)), (.int .i64 (.a 8)), (.int .i64 (.a 9)), (.int .i64 (.a 10)), (.int .i64 (.a 11)), (.int .i64 (.a 12)), (.int .i64 (.a 13)), (.int .i64 (.a 14))]), (.agg [(.int .i64 (.a 15)), (.int .i64 (.a 16)), (.int .i64 (.a 17)), (.int .i64 (.a 18)), (.int .i64 (.a 19)), (.int .i64 (.a 20)), (.int .i64 (.a 21)), (.int .i64 (.a 22)), (.int .i64 (.a 23)), (.int .i64 (.a 24)), (.int .i64 (.a 25)), (.int .i64 (.a 26))])] [] [(.one (.int .i64))]
  (.need (.and (.le (.l 0) (.a 2)) (.lt (.a 2) (.slen 2)))
  (.storeM (.ea 2 (.a 2) 1 0) [(.int .i64 (.a 27))]
  (.need (.and (.le (.l (-9223372036854775808)) (.add (.a 2) (.l 1))) (.le (.add (.a 2) (.l 1)) (.l 9223372036854775807)))
  (.jump 1 [(.a 0), (.a 1), (.add (.a 2) (.l 1))] [] [(.va 0), (.va 1), (.va 2)])))))))))
  (.app none (.lit [[(.va 2)]]) 1
  (.app (some 1) (.va 3) 1
  (.need (.and (.le (.l (-9223372036854775808)) (.add (.a 1) (.l 1))) (.le (.add (.a 1) (.l 1)) (.l 9223372036854775807)))
  (.jump 0 [(.a 0), (.add (.a 1) (.l 1))] [] [(.va 0), (.va 4)])))))
def saleroomref36_Shortest_t2 : PT :=
 (.ite (.lt (.a 1) (.a 0))
  (.jump 3 [(.a 0), (.a 1), (.l 0)] [] [(.va 0)])
  (.ret true (.tup [(.va 0), (.bool (.t true))]) []))
def saleroomref36_Shortest_t3 : PT :=
 (.ite (.lt (.a 2) (.a 0))
  (.jump 4 [(.a 0), (.a 1), (.a 2), (.l 0)] [] [(.va 0)])
  (.jump 5 [(.a 0), (.a 1), (.l 0)] [] [(.va 0)]))
def saleroomref36_Shortest_t4_b1 : PT :=
 (.load false (.ea 3 (.a 1) 1 0) [(.int .i64)]
    (.load false (.ea 4 (.a 3) 1 0) [(.int .i64)]
    (.need (.and (.le (.l (-9223372036854775808)) (.add (.a 5) (.a 6))) (.le (.add (.a 5) (.a 6)) (.l 9223372036854775807)))
    (.need (.and (.le (.l 0) (.a 3)) (.lt (.a 3) (.slen 1)))
    (.storeM (.ea 1 (.a 3) 1 0) [(.int .i64 (.mn (.a 4) (.add (.a 5) (.a 6))))]
    (.need (.and (.le (.l (-9223372036854775808)) (.add (.a 3) (.l 1))) (.le (.add (.a 3) (.l 1)) (.l 9223372036854775807)))
    (.jump 4 [(.a 0), (.a 1), (.a 2), (.add (.a 3) (.l 1))] [] [(.va 0)])))))))
def saleroomref36_Shortest_t4_b2 : PT :=
 (.load false (.ea 4 (.a 3) 1 0) [(.int .i64)]
    (.load false (.ea 3 (.a 1) 1 0) [(.int .i64)]
    (.need (.and (.le (.l (-9223372036854775808)) (.add (.a 6) (.a 5))) (.le (.add (.a 6) (.a 5)) (.l 9223372036854775807)))
    (.need (.and (.le (.l 0) (.a 3)) (.lt (.a 3) (.slen 1)))
    (.storeM (.ea 1 (.a 3) 1 0) [(.int .i64 (.mn (.a 4) (.add (.a 6) (.a 5))))]
    (.need (.and (.le (.l (-9223372036854775808)) (.add (.a 3) (.l 1))) (.le (.add (.a 3) (.l 1)) (.l 9223372036854775807)))
    (.jump 4 [(.a 0), (.a 1), (.a 2), (.add (.a 3) (.l 1))] [] [(.va 0)])))))))
def saleroomref36_Shortest_t4_b3 : PT :=
 (.load false (.ea 2 (.a 3) 1 0) [(.int .i64)]
   (.both saleroomref36_Shortest_t4_b1 saleroomref36_Shortest_t4_b2))
def saleroomref36_Shortest_t4_b4 : PT :=
 (.load false (.ea 2 (.a 3) 1 0) [(.int .i64)]
     (.load false (.ea 4 (.a 3) 1 0) [(.int .i64)]
     (.need (.and (.le (.l (-9223372036854775808)) (.add (.a 4) (.a 6))) (.le (.add (.a 4) (.a 6)) (.l 9223372036854775807)))
     (.need (.and (.le (.l 0) (.a 3)) (.lt (.a 3) (.slen 1)))
     (.storeM (.ea 1 (.a 3) 1 0) [(.int .i64 (.mn (.a 5) (.add (.a 4) (.a 6))))]
     (.need (.and (.le (.l (-9223372036854775808)) (.add (.a 3) (.l 1))) (.le (.add (.a 3) (.l 1)) (.l 9223372036854775807)))
     (.jump 4 [(.a 0), (.a 1), (.a 2), (.add (.a 3) (.l 1))] [] [(.va 0)])))))))
def saleroomref36_Shortest_t4_b5 : PT :=
 (.load false (.ea 4 (.a 3) 1 0) [(.int .i64)]
     (.need (.and (.le (.l (-9223372036854775808)) (.add (.a 4) (.a 5))) (.le (.add (.a 4) (.a 5)) (.l 9223372036854775807)))
     (.load false (.ea 2 (.a 3) 1 0) [(.int .i64)]
     (.need (.and (.le (.l 0) (.a 3)) (.lt (.a 3) (.slen 1)))
     (.storeM (.ea 1 (.a 3) 1 0) [(.int .i64 (.mn (.a 6) (.add (.a 4) (.a 5))))]
     (.need (.and (.le (.l (-9223372036854775808)) (.add (.a 3) (.l 1))) (.le (.add (.a 3) (.l 1)) (.l 9223372036854775807)))
     (.jump 4 [(.a 0), (.a 1), (.a 2), (.add (.a 3) (.l 1))] [] [(.va 0)])))))))
def saleroomref36_Shortest_t4_b6 : PT :=
 (.load false (.ea 3 (.a 1) 1 0) [(.int .i64)]
    (.both saleroomref36_Shortest_t4_b4 saleroomref36_Shortest_t4_b5))
def saleroomref36_Shortest_t4_b7 : PT :=
 (.load false (.ea 2 (.a 3) 1 0) [(.int .i64)]
     (.load false (.ea 3 (.a 1) 1 0) [(.int .i64)]
     (.need (.and (.le (.l (-9223372036854775808)) (.add (.a 6) (.a 4))) (.le (.add (.a 6) (.a 4)) (.l 9223372036854775807)))
     (.need (.and (.le (.l 0) (.a 3)) (.lt (.a 3) (.slen 1)))
     (.storeM (.ea 1 (.a 3) 1 0) [(.int .i64 (.mn (.a 5) (.add (.a 6) (.a 4))))]
     (.need (.and (.le (.l (-9223372036854775808)) (.add (.a 3) (.l 1))) (.le (.add (.a 3) (.l 1)) (.l 9223372036854775807)))
     (.jump 4 [(.a 0), (.a 1), (.a 2), (.add (.a 3) (.l 1))] [] [(.va 0)])))))))
def saleroomref36_Shortest_t4_b8 : PT :=
 (.load false (.ea 3 (.a 1) 1 0) [(.int .i64)]
     (.need (.and (.le (.l (-9223372036854775808)) (.add (.a 5) (.a 4))) (.le (.add (.a 5) (.a 4)) (.l 9223372036854775807)))
     (.load false (.ea 2 (.a 3) 1 0) [(.int .i64)]
     (.need (.and (.le (.l 0) (.a 3)) (.lt (.a 3) (.slen 1)))
     (.storeM (.ea 1 (.a 3) 1 0) [(.int .i64 (.mn (.a 6) (.add (.a 5) (.a 4))))]
     (.need (.and (.le (.l (-9223372036854775808)) (.add (.a 3) (.l 1))) (.le (.add (.a 3) (.l 1)) (.l 9223372036854775807)))
     (.jump 4 [(.a 0), (.a 1), (.a 2), (.add (.a 3) (.l 1))] [] [(.va 0)])))))))
def saleroomref36_Shortest_t4_b9 : PT :=
 (.load false (.ea 4 (.a 3) 1 0) [(.int .i64)]
    (.both saleroomref36_Shortest_t4_b7 saleroomref36_Shortest_t4_b8))
def saleroomref36_Shortest_t4_b10 : PT :=
 (.both saleroomref36_Shortest_t4_b6 saleroomref36_Shortest_t4_b9)
def saleroomref36_Shortest_t4 : PT :=
 (.ite (.lt (.a 3) (.a 0))
  (.need (.and (.le (.l 0) (.a 2)) (.lt (.a 2) (.slen 0)))
  (.need (.and (.le (.l 0) (.a 2)) (.lt (.a 2) (.slen 0)))
  (.need (.and (.le (.l 0) (.a 2)) (.lt (.a 2) (.slen 0)))
  (.need (.and (.le (.l 0) (.a 1)) (.lt (.a 1) (.slen 0)))
  (.load true (.ea 0 (.a 2) 1 0) [.val]
  (.load true (.ea 0 (.a 2) 1 0) [.val]
  (.need (.and (.le (.l 0) (.a 3)) (.lt (.a 3) (.slen 2)))
  (.load true (.ea 0 (.a 2) 1 0) [.val]
  (.need (.and (.le (.l 0) (.a 1)) (.lt (.a 1) (.slen 3)))
  (.load true (.ea 0 (.a 1) 1 0) [.val]
  (.need (.and (.le (.l 0) (.a 3)) (.lt (.a 3) (.slen 4)))
  (.both saleroomref36_Shortest_t4_b3 saleroomref36_Shortest_t4_b10))))))))))))
  (.need (.and (.le (.l (-9223372036854775808)) (.add (.a 2) (.l 1))) (.le (.add (.a 2) (.l 1)) (.l 9223372036854775807)))
  (.jump 3 [(.a 0), (.a 1), (.add (.a 2) (.l 1))] [] [(.va 0)])))
def saleroomref36_Shortest_t5 : PT :=
 (.ite (.lt (.a 2) (.a 0))
  (.need (.and (.le (.l 0) (.a 2)) (.lt (.a 2) (.slen 0)))
  (.load false (.ea 0 (.a 2) 1 0) [.val]
  (.need (.and (.le (.l 0) (.a 2)) (.lt (.a 2) (.slen 1)))
  (.load false (.ea 1 (.a 2) 1 0) [(.int .i64)]
  (.ite (.lt (.a 3) (.l 0))
   (.ret true (.tup [.nilS, (.bool (.t false))]) [])
   (.need (.and (.le (.l (-9223372036854775808)) (.add (.a 2) (.l 1))) (.le (.add (.a 2) (.l 1)) (.l 9223372036854775807)))
   (.jump 5 [(.a 0), (.a 1), (.add (.a 2) (.l 1))] [] [(.va 0)])))))))
  (.need (.and (.le (.l (-9223372036854775808)) (.add (.a 1) (.l 1))) (.le (.add (.a 1) (.l 1)) (.l 9223372036854775807)))
  (.jump 2 [(.a 0), (.add (.a 1) (.l 1))] [] [(.va 0)])))
def saleroomref36_Shortest_S : Sx.Sys := ⟨[(.sh (.one .val))], saleroomref36_Shortest_s, [saleroomref36_Shortest_t0, saleroomref36_Shortest_t1, saleroomref36_Shortest_t2, saleroomref36_Shortest_t3, saleroomref36_Shortest_t4, saleroomref36_Shortest_t5], none⟩
def saleroomref36_Shortest_pats : List Cfg := [{ todo := [(.code [false, false, true, false, true, true, true]), (.inLoop [false, false, true, false, true, true, true]), (.inBlock 0), (.code [true, true, true, true])], sl := [(.va 0), .undef, (.junk 0), (.junk 1), (.int .i64 (.a 0)), (.va 1), (.int .i64 (.a 1)), (.junk 2), (.junk 3), .undef, .undef, .undef, .undef, (.junk 4), (.junk 5), (.junk 6), (.junk 7), (.junk 8), (.junk 9), (.junk 10), (.junk 11), (.junk 12), (.junk 13), (.junk 14), (.junk 15), (.junk 16), (.junk 17), (.junk 18), (.junk 19), (.junk 20), (.junk 21), (.junk 22), (.junk 23), (.junk 24), (.junk 25), (.junk 26), (.junk 27), (.junk 28), (.junk 29), (.junk 30), (.junk 31), (.junk 32), (.junk 33), .undef, .undef, .undef, .undef, .undef, .undef, .undef, .undef, .undef, .undef, .undef, .undef, .undef, .undef, .undef, .undef, .undef, .undef, .undef, .undef, .undef, .undef, .undef, .undef, .undef, .undef, .undef, .undef, .undef, .undef, .undef, .undef, .undef, .undef, .undef, .undef, .undef, .undef, .undef, .undef, .undef, .undef, .undef, .undef, .undef, .undef, .undef, .undef, .undef, .undef, .undef, .undef, .undef, .undef, .undef, .undef, .undef, .undef], H := [(.row 1 25 1)], ni := 2, nb := 0, nv := 2, nj := 34 },
 { todo := [(.code [false, false, true, false, true, false, false, true, false, false, true, false, true, true, true]), (.inLoop [false, false, true, false, true, false, false, true, false, false, true, false, true, true, true]), (.inBlock 2), (.code [true, true, false, false, true, false, false, true, false, true, true, true]), (.inBlock 1), (.code [true, true, false, false, true, false, true, true, true]), (.inLoop [false, false, true, false, true, true, true]), (.inBlock 0), (.code [true, true, true, true])], sl := [(.va 0), .undef, (.junk 0), (.junk 1), (.int .i64 (.a 0)), (.va 1), (.int .i64 (.a 1)), (.va 2), (.int .i64 (.a 2)), .undef, .undef, .undef, .undef, (.junk 2), (.junk 3), (.junk 4), (.junk 5), (.junk 6), (.junk 7), (.junk 8), (.junk 9), (.junk 10), (.junk 11), (.junk 12), (.junk 13), (.junk 14), (.junk 15), (.junk 16), (.junk 17), (.junk 18), (.junk 19), (.junk 20), (.junk 21), (.junk 22), (.junk 23), (.junk 24), (.junk 25), (.junk 26), (.junk 27), (.junk 28), (.junk 29), (.junk 30), (.junk 31), .undef, .undef, .undef, .undef, .undef, .undef, .undef, .undef, .undef, .undef, .undef, .undef, .undef, .undef, .undef, .undef, .undef, .undef, .undef, .undef, .undef, .undef, .undef, .undef, .undef, .undef, .undef, .undef, .undef, .undef, .undef, .undef, .undef, .undef, .undef, .undef, .undef, .undef, .undef, .undef, .undef, .undef, .undef, .undef, .undef, .undef, .undef, .undef, .undef, .undef, .undef, .undef, .undef, .undef, .undef, .undef, .undef, .undef], H := [(.row 1 25 1)], ni := 3, nb := 0, nv := 3, nj := 32 },
 { todo := [(.code [false, false, true, false, true, true, true, true]), (.inLoop [false, false, true, false, true, true, true, true]), (.inBlock 4), (.code [true, true, true, true, true])], sl := [(.junk 0), .undef, (.junk 1), (.junk 2), (.int .i64 (.a 0)), (.va 0), (.junk 3), (.junk 4), (.junk 5), (.int .i64 (.a 1)), (.junk 6), (.junk 7), (.junk 8), (.junk 9), (.junk 10), (.junk 11), (.junk 12), (.junk 13), (.junk 14), (.junk 15), (.junk 16), (.junk 17), (.junk 18), (.junk 19), (.junk 20), (.junk 21), (.junk 22), (.junk 23), (.junk 24), (.junk 25), (.junk 26), (.junk 27), (.junk 28), (.junk 29), (.junk 30), (.junk 31), (.junk 32), (.junk 33), (.junk 34), (.junk 35), (.junk 36), (.junk 37), (.junk 38), (.junk 39), (.junk 40), (.junk 41), (.junk 42), (.junk 43), (.junk 44), (.junk 45), (.junk 46), (.junk 47), (.junk 48), (.junk 49), (.junk 50), (.junk 51), (.junk 52), (.junk 53), (.junk 54), (.junk 55), (.junk 56), (.junk 57), (.junk 58), (.junk 59), (.junk 60), (.junk 61), (.junk 62), (.junk 63), (.junk 64), (.junk 65), (.junk 66), (.junk 67), (.junk 68), (.junk 69), (.junk 70), (.junk 71), (.junk 72), (.junk 73), (.junk 74), (.junk 75), (.junk 76), (.junk 77), (.junk 78), (.junk 79), (.junk 80), (.junk 81), (.junk 82), (.junk 83), (.junk 84), (.junk 85), (.junk 86), (.junk 87), (.junk 88), (.junk 89), (.junk 90), (.junk 91), (.junk 92), (.junk 93), (.junk 94), (.junk 95), .undef], H := [(.row 0 25 1)], ni := 2, nb := 0, nv := 1, nj := 96 },
 { todo := [(.code [false, false, true, false, false, false, true, false, false, true, false, true, true, true, true]), (.inLoop [false, false, true, false, false, false, true, false, false, true, false, true, true, true, true]), (.inBlock 6), (.code [true, false, false, true, false, false, true, false, true, true, true, true]), (.inBlock 5), (.code [true, true, false, false, true, false, true, true, true, true]), (.inLoop [false, false, true, false, true, true, true, true]), (.inBlock 4), (.code [true, true, true, true, true])], sl := [(.junk 0), .undef, (.junk 1), (.junk 2), (.int .i64 (.a 0)), (.va 0), (.junk 3), (.junk 4), (.junk 5), (.int .i64 (.a 1)), (.int .i64 (.a 2)), (.junk 6), (.junk 7), (.junk 8), (.junk 9), (.junk 10), (.junk 11), (.junk 12), (.junk 13), (.junk 14), (.junk 15), (.junk 16), (.junk 17), (.junk 18), (.junk 19), (.junk 20), (.junk 21), (.junk 22), (.junk 23), (.junk 24), (.junk 25), (.junk 26), (.junk 27), (.junk 28), (.junk 29), (.junk 30), (.junk 31), (.junk 32), (.junk 33), (.junk 34), (.junk 35), (.junk 36), (.junk 37), (.junk 38), (.junk 39), (.junk 40), (.junk 41), (.junk 42), (.junk 43), (.junk 44), (.junk 45), (.junk 46), (.junk 47), (.junk 48), (.junk 49), (.junk 50), (.junk 51), (.junk 52), (.junk 53), (.junk 54), (.junk 55), (.junk 56), (.junk 57), (.junk 58), (.junk 59), (.junk 60), (.junk 61), (.junk 62), (.junk 63), (.junk 64), (.junk 65), (.junk 66), (.junk 67), (.junk 68), (.junk 69), (.junk 70), (.junk 71), (.junk 72), (.junk 73), (.junk 74), (.junk 75), (.junk 76), (.junk 77), (.junk 78), (.junk 79), (.junk 80), (.junk 81), (.junk 82), (.junk 83), (.junk 84), (.junk 85), (.junk 86), (.junk 87), (.junk 88), (.junk 89), (.junk 90), (.junk 91), (.junk 92), (.junk 93), (.junk 94), .undef], H := [(.row 0 25 1)], ni := 3, nb := 0, nv := 1, nj := 95 },
 { todo := [(.code [false, false, true, false, false, true, false, false, true, false, false, false, true, false, false, true, false, true, true, true, true]), (.inLoop [false, false, true, false, false, true, false, false, true, false, false, false, true, false, false, true, false, true, true, true, true]), (.inBlock 8), (.inBlock 7), (.code [true, true, false, false, true, false, false, false, true, false, false, true, false, true, true, true, true]), (.inLoop [false, false, true, false, false, false, true, false, false, true, false, true, true, true, true]), (.inBlock 6), (.code [true, false, false, true, false, false, true, false, true, true, true, true]), (.inBlock 5), (.code [true, true, false, false, true, false, true, true, true, true]), (.inLoop [false, false, true, false, true, true, true, true]), (.inBlock 4), (.code [true, true, true, true, true])], sl := [(.junk 0), .undef, (.junk 1), (.junk 2), (.int .i64 (.a 0)), (.va 0), (.junk 3), (.junk 4), (.junk 5), (.int .i64 (.a 1)), (.int .i64 (.a 2)), (.int .i64 (.a 3)), (.junk 6), (.junk 7), (.junk 8), (.junk 9), (.junk 10), (.junk 11), (.junk 12), (.junk 13), (.junk 14), (.junk 15), (.junk 16), (.junk 17), (.junk 18), (.junk 19), (.junk 20), (.junk 21), (.junk 22), (.junk 23), (.junk 24), (.junk 25), (.junk 26), (.junk 27), (.junk 28), (.junk 29), (.junk 30), (.junk 31), (.junk 32), (.junk 33), (.junk 34), (.junk 35), (.junk 36), (.junk 37), (.junk 38), (.junk 39), (.junk 40), (.junk 41), (.junk 42), (.junk 43), (.junk 44), (.junk 45), (.junk 46), (.junk 47), (.junk 48), (.junk 49), (.junk 50), (.junk 51), (.junk 52), (.junk 53), (.junk 54), (.junk 55), (.junk 56), (.junk 57), (.junk 58), (.junk 59), (.junk 60), (.junk 61), (.junk 62), (.junk 63), (.junk 64), (.junk 65), (.junk 66), (.junk 67), (.junk 68), (.junk 69), (.junk 70), (.junk 71), (.junk 72), (.junk 73), (.junk 74), (.junk 75), (.junk 76), (.junk 77), (.junk 78), (.junk 79), (.junk 80), (.junk 81), (.junk 82), (.junk 83), (.junk 84), (.junk 85), (.junk 86), (.junk 87), (.junk 88), (.junk 89), (.junk 90), (.junk 91), (.junk 92), (.junk 93), .undef], H := [(.row 0 25 1)], ni := 4, nb := 0, nv := 1, nj := 94 },
 { todo := [(.code [false, false, true, true, false, false, true, false, false, true, false, true, true, true, true]), (.inLoop [false, false, true, true, false, false, true, false, false, true, false, true, true, true, true]), (.inBlock 10), (.inBlock 5), (.code [true, true, false, false, true, false, true, true, true, true]), (.inLoop [false, false, true, false, true, true, true, true]), (.inBlock 4), (.code [true, true, true, true, true])], sl := [(.junk 0), .undef, (.junk 1), (.junk 2), (.int .i64 (.a 0)), (.va 0), (.junk 3), (.junk 4), (.junk 5), (.int .i64 (.a 1)), (.junk 6), (.junk 7), (.int .i64 (.a 2)), (.junk 8), (.junk 9), (.junk 10), (.junk 11), (.junk 12), (.junk 13), (.junk 14), (.junk 15), (.junk 16), (.junk 17), (.junk 18), (.junk 19), (.junk 20), (.junk 21), (.junk 22), (.junk 23), (.junk 24), (.junk 25), (.junk 26), (.junk 27), (.junk 28), (.junk 29), (.junk 30), (.junk 31), (.junk 32), (.junk 33), (.junk 34), (.junk 35), (.junk 36), (.junk 37), (.junk 38), (.junk 39), (.junk 40), (.junk 41), (.junk 42), (.junk 43), (.junk 44), (.junk 45), (.junk 46), (.junk 47), (.junk 48), (.junk 49), (.junk 50), (.junk 51), (.junk 52), (.junk 53), (.junk 54), (.junk 55), (.junk 56), (.junk 57), (.junk 58), (.junk 59), (.junk 60), (.junk 61), (.junk 62), (.junk 63), (.junk 64), (.junk 65), (.junk 66), (.junk 67), (.junk 68), (.junk 69), (.junk 70), (.junk 71), (.junk 72), (.junk 73), (.junk 74), (.junk 75), (.junk 76), (.junk 77), (.junk 78), (.junk 79), (.junk 80), (.junk 81), (.junk 82), (.junk 83), (.junk 84), (.junk 85), (.junk 86), (.junk 87), (.junk 88), (.junk 89), (.junk 90), (.junk 91), (.junk 92), (.junk 93), (.junk 94), .undef], H := [(.row 0 25 1)], ni := 3, nb := 0, nv := 1, nj := 95 }]
theorem saleroomref36_Shortest_ok : SysOk Try.prog 42 saleroomref36_Shortest_S := sys_ok (c := (cg [[false, false, true, false, true, true, true], [false, false, true, false, true, false, false, true, false, false, true, false, true, true, true], [false, false, true, false, true, true, true, true], [false, false, true, false, false, false, true, false, false, true, false, true, true, true, true], [false, false, true, false, false, true, false, false, true, false, false, false, true, false, false, true, false, true, true, true, true], [false, false, true, true, false, false, true, false, false, true, false, true, true, true, true]] [] [] false true false true [] [2])) (progOkG _ _ _ _ _ _ _ _ _) Try.func42 Try.call42 (by kernel_rfl) saleroomref36_Shortest_pats saleroomref36_Shortest_S 5000 rfl (by kernel_rfl) (by kernel_rfl) rfl
end Go.Proofs.Ythjahianafohjaa
namespace Go.Proofs.Ythjahianafohjaa
open Go.Sx
def tabS : List (Nat × Sx.Sys) := [(3, saleroomlaw36_RevealedExact_S), (6, saleroomlaw36_RevealedGains_S), (14, saleroomlaw36_lives_S), (15, revealed_Check_S), (16, saleroomref36_Check_S), (17, saleroomref36_All_S), (18, saleroomref36_Verify_S), (19, revealed_Verify_S), (20, revealed_Gain_S), (21, saleroomref36_Gain_S), (35, saleroomref07_Check_S), (38, saleroomlaw36_contrary_S), (39, revealed_allValid_S), (40, revealed_lowered_S), (41, bundle_Cost_S), (42, saleroomref36_Shortest_S), (43, saleroomref36_Cost_S), (44, saleroomref36_Valid_S), (45, saleroomref36_explains_S), (46, revealed_formed_S), (47, revealed_explains_S), (48, revealed_gain_S), (49, revealed_valid_S), (55, bundle_Check_S), (63, revealed_cycle_S), (64, saleroomref07_Cost_S), (65, saleroomref07_Prices_S)]
def Tab (f : Nat) : Option Sx.Sys := lookN f tabS
theorem tab_ok : ∀ f S, Tab f = some S → SysOk Try.prog f S := by
  intro f S h
  have h := look_mem h
  simp only [tabS, List.mem_cons, Prod.mk.injEq, List.not_mem_nil, or_false] at h
  rcases h with ⟨rfl, rfl⟩ | ⟨rfl, rfl⟩ | ⟨rfl, rfl⟩ | ⟨rfl, rfl⟩ | ⟨rfl, rfl⟩ | ⟨rfl, rfl⟩ | ⟨rfl, rfl⟩ | ⟨rfl, rfl⟩ | ⟨rfl, rfl⟩ | ⟨rfl, rfl⟩ | ⟨rfl, rfl⟩ | ⟨rfl, rfl⟩ | ⟨rfl, rfl⟩ | ⟨rfl, rfl⟩ | ⟨rfl, rfl⟩ | ⟨rfl, rfl⟩ | ⟨rfl, rfl⟩ | ⟨rfl, rfl⟩ | ⟨rfl, rfl⟩ | ⟨rfl, rfl⟩ | ⟨rfl, rfl⟩ | ⟨rfl, rfl⟩ | ⟨rfl, rfl⟩ | ⟨rfl, rfl⟩ | ⟨rfl, rfl⟩ | ⟨rfl, rfl⟩ | ⟨rfl, rfl⟩
  · exact saleroomlaw36_RevealedExact_ok
  · exact saleroomlaw36_RevealedGains_ok
  · exact saleroomlaw36_lives_ok
  · exact revealed_Check_ok
  · exact saleroomref36_Check_ok
  · exact saleroomref36_All_ok
  · exact saleroomref36_Verify_ok
  · exact revealed_Verify_ok
  · exact revealed_Gain_ok
  · exact saleroomref36_Gain_ok
  · exact saleroomref07_Check_ok
  · exact saleroomlaw36_contrary_ok
  · exact revealed_allValid_ok
  · exact revealed_lowered_ok
  · exact bundle_Cost_ok
  · exact saleroomref36_Shortest_ok
  · exact saleroomref36_Cost_ok
  · exact saleroomref36_Valid_ok
  · exact saleroomref36_explains_ok
  · exact revealed_formed_ok
  · exact revealed_explains_ok
  · exact revealed_gain_ok
  · exact revealed_valid_ok
  · exact bundle_Check_ok
  · exact revealed_cycle_ok
  · exact saleroomref07_Cost_ok
  · exact saleroomref07_Prices_ok
abbrev n_saleroomlaw36_RevealedExact : Nat := 3
abbrev n_saleroomlaw36_RevealedGains : Nat := 6
abbrev n_saleroomlaw36_lives : Nat := 14
abbrev n_revealed_Check : Nat := 15
abbrev n_saleroomref36_Check : Nat := 16
abbrev n_saleroomref36_All : Nat := 17
abbrev n_saleroomref36_Verify : Nat := 18
abbrev n_revealed_Verify : Nat := 19
abbrev n_revealed_Gain : Nat := 20
abbrev n_saleroomref36_Gain : Nat := 21
abbrev n_saleroomref07_Check : Nat := 35
abbrev n_saleroomlaw36_contrary : Nat := 38
abbrev n_revealed_allValid : Nat := 39
abbrev n_revealed_lowered : Nat := 40
abbrev n_bundle_Cost : Nat := 41
abbrev n_saleroomref36_Shortest : Nat := 42
abbrev n_saleroomref36_Cost : Nat := 43
abbrev n_saleroomref36_Valid : Nat := 44
abbrev n_saleroomref36_explains : Nat := 45
abbrev n_revealed_formed : Nat := 46
abbrev n_revealed_explains : Nat := 47
abbrev n_revealed_gain : Nat := 48
abbrev n_revealed_valid : Nat := 49
abbrev n_bundle_Check : Nat := 55
abbrev n_revealed_cycle : Nat := 63
abbrev n_saleroomref07_Cost : Nat := 64
abbrev n_saleroomref07_Prices : Nat := 65
theorem tab_saleroomlaw36_RevealedExact : Tab 3 = some saleroomlaw36_RevealedExact_S := by kernel_rfl
theorem tab_saleroomlaw36_RevealedGains : Tab 6 = some saleroomlaw36_RevealedGains_S := by kernel_rfl
theorem tab_saleroomlaw36_lives : Tab 14 = some saleroomlaw36_lives_S := by kernel_rfl
theorem tab_revealed_Check : Tab 15 = some revealed_Check_S := by kernel_rfl
theorem tab_saleroomref36_Check : Tab 16 = some saleroomref36_Check_S := by kernel_rfl
theorem tab_saleroomref36_All : Tab 17 = some saleroomref36_All_S := by kernel_rfl
theorem tab_saleroomref36_Verify : Tab 18 = some saleroomref36_Verify_S := by kernel_rfl
theorem tab_revealed_Verify : Tab 19 = some revealed_Verify_S := by kernel_rfl
theorem tab_revealed_Gain : Tab 20 = some revealed_Gain_S := by kernel_rfl
theorem tab_saleroomref36_Gain : Tab 21 = some saleroomref36_Gain_S := by kernel_rfl
theorem tab_saleroomref07_Check : Tab 35 = some saleroomref07_Check_S := by kernel_rfl
theorem tab_saleroomlaw36_contrary : Tab 38 = some saleroomlaw36_contrary_S := by kernel_rfl
theorem tab_revealed_allValid : Tab 39 = some revealed_allValid_S := by kernel_rfl
theorem tab_revealed_lowered : Tab 40 = some revealed_lowered_S := by kernel_rfl
theorem tab_bundle_Cost : Tab 41 = some bundle_Cost_S := by kernel_rfl
theorem tab_saleroomref36_Shortest : Tab 42 = some saleroomref36_Shortest_S := by kernel_rfl
theorem tab_saleroomref36_Cost : Tab 43 = some saleroomref36_Cost_S := by kernel_rfl
theorem tab_saleroomref36_Valid : Tab 44 = some saleroomref36_Valid_S := by kernel_rfl
theorem tab_saleroomref36_explains : Tab 45 = some saleroomref36_explains_S := by kernel_rfl
theorem tab_revealed_formed : Tab 46 = some revealed_formed_S := by kernel_rfl
theorem tab_revealed_explains : Tab 47 = some revealed_explains_S := by kernel_rfl
theorem tab_revealed_gain : Tab 48 = some revealed_gain_S := by kernel_rfl
theorem tab_revealed_valid : Tab 49 = some revealed_valid_S := by kernel_rfl
theorem tab_bundle_Check : Tab 55 = some bundle_Check_S := by kernel_rfl
theorem tab_revealed_cycle : Tab 63 = some revealed_cycle_S := by kernel_rfl
theorem tab_saleroomref07_Cost : Tab 64 = some saleroomref07_Cost_S := by kernel_rfl
theorem tab_saleroomref07_Prices : Tab 65 = some saleroomref07_Prices_S := by kernel_rfl
end Go.Proofs.Ythjahianafohjaa
