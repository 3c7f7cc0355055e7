/- The trees of this seat's functions, part 6. Written by txgen.py. -/
import Derived.Test.YthjahianafohjaaHTab
import Derived.Test.YthjahianafohjaaHSaa
import Derived.Test.YthjahianafohjaaHSab
set_option linter.unusedSimpArgs false
set_option linter.unusedVariables false
set_option maxRecDepth 100000
namespace Go.Proofs.Ythjahianafohjaa
open Go.Sx
def saleroomlaw37_ActivityPoints_s_b1 : PT :=
 (.app (some 6) (.va 4) 12
      (.app none (.lit [[(.int .i64 (.a 1)), (.int .i64 (.a 2)), (.int .i64 (.a 3)), (.int .i64 (.a 4)), (.int .i64 (.a 5)), (.int .i64 (.a 6)), (.int .i64 (.a 7)), (.int .i64 (.a 8)), (.int .i64 (.a 9)), (.int .i64 (.a 10)), (.int .i64 (.a 11)), (.int .i64 (.a 12))]]) 12
      (.app (some 7) (.va 8) 12
      (.call 27 [(.agg [(.va 0), (.va 1), (.va 2), (.va 3)]), (.int .i64 (.a 0)), (.va 9)] [] [(.one (.int .i64))]
      (.call 28 [(.agg [(.va 0), (.va 1), (.va 2), (.va 3)]), (.int .i64 (.a 0)), (.va 4)] [] [(.one (.int .i64))]
      (.ite (.eq (.a 13) (.a 15))
       (.ite (.le (.a 14) (.a 13))
        (.call 29 [(.va 4)] [] [(.one .bool)]
        (.call 30 [(.va 4)] [] [(.one .bool)]
        (.ite (.or (.and (.a 3) (.a 4)) (.and (.not (.a 3)) (.not (.a 4))))
         (.call 24 [] [] [(.one .bool)]
         (.ret false (.bool (.a 5)) []))
         (.ret false (.bool (.t false)) []))))
        (.ret false (.bool (.t false)) []))
       (.ret false (.bool (.t false)) [])))))))
def saleroomlaw37_ActivityPoints_s_b2 : PT :=
 (.app none (.lit [[(.int .i64 (.a 1)), (.int .i64 (.a 2)), (.int .i64 (.a 3)), (.int .i64 (.a 4)), (.int .i64 (.a 5)), (.int .i64 (.a 6)), (.int .i64 (.a 7)), (.int .i64 (.a 8)), (.int .i64 (.a 9)), (.int .i64 (.a 10)), (.int .i64 (.a 11)), (.int .i64 (.a 12))]]) 12
      (.app (some 6) (.va 4) 12
      (.app (some 8) (.va 7) 12
      (.call 27 [(.agg [(.va 0), (.va 1), (.va 2), (.va 3)]), (.int .i64 (.a 0)), (.va 9)] [] [(.one (.int .i64))]
      (.call 28 [(.agg [(.va 0), (.va 1), (.va 2), (.va 3)]), (.int .i64 (.a 0)), (.va 4)] [] [(.one (.int .i64))]
      (.ite (.eq (.a 13) (.a 15))
       (.ite (.le (.a 14) (.a 13))
        (.call 29 [(.va 4)] [] [(.one .bool)]
        (.call 30 [(.va 4)] [] [(.one .bool)]
        (.ite (.or (.and (.a 3) (.a 4)) (.and (.not (.a 3)) (.not (.a 4))))
         (.call 24 [] [] [(.one .bool)]
         (.ret false (.bool (.a 5)) []))
         (.ret false (.bool (.t false)) []))))
        (.ret false (.bool (.t false)) []))
       (.ret false (.bool (.t false)) [])))))))
def saleroomlaw37_ActivityPoints_s_b3 : PT :=
 (.app none (.lit []) 12
     (.both saleroomlaw37_ActivityPoints_s_b1 saleroomlaw37_ActivityPoints_s_b2))
def saleroomlaw37_ActivityPoints_s_b4 : PT :=
 (.app none (.lit [[(.int .i64 (.a 1)), (.int .i64 (.a 2)), (.int .i64 (.a 3)), (.int .i64 (.a 4)), (.int .i64 (.a 5)), (.int .i64 (.a 6)), (.int .i64 (.a 7)), (.int .i64 (.a 8)), (.int .i64 (.a 9)), (.int .i64 (.a 10)), (.int .i64 (.a 11)), (.int .i64 (.a 12))]]) 12
     (.app none (.lit []) 12
     (.app (some 7) (.va 4) 12
     (.app (some 8) (.va 6) 12
     (.call 27 [(.agg [(.va 0), (.va 1), (.va 2), (.va 3)]), (.int .i64 (.a 0)), (.va 9)] [] [(.one (.int .i64))]
     (.call 28 [(.agg [(.va 0), (.va 1), (.va 2), (.va 3)]), (.int .i64 (.a 0)), (.va 4)] [] [(.one (.int .i64))]
     (.ite (.eq (.a 13) (.a 15))
      (.ite (.le (.a 14) (.a 13))
       (.call 29 [(.va 4)] [] [(.one .bool)]
       (.call 30 [(.va 4)] [] [(.one .bool)]
       (.ite (.or (.and (.a 3) (.a 4)) (.and (.not (.a 3)) (.not (.a 4))))
        (.call 24 [] [] [(.one .bool)]
        (.ret false (.bool (.a 5)) []))
        (.ret false (.bool (.t false)) []))))
       (.ret false (.bool (.t false)) []))
      (.ret false (.bool (.t false)) []))))))))
def saleroomlaw37_ActivityPoints_s : PT :=
 (.call 22 [(.agg [(.va 0), (.va 1), (.va 2), (.va 3)])] [] [(.one .bool)]
 (.ite (.not (.a 0))
  (.call 24 [] [] [(.one .bool)]
  (.ret false (.bool (.a 1)) []))
  (.call 23 [(.va 4)] [] [(.one .bool)]
  (.ite (.not (.a 1))
   (.call 24 [] [] [(.one .bool)]
   (.ret false (.bool (.a 2)) []))
   (.app none (.lit [[(.int .i64 (.a 1)), (.int .i64 (.a 2)), (.int .i64 (.a 3)), (.int .i64 (.a 4)), (.int .i64 (.a 5)), (.int .i64 (.a 6)), (.int .i64 (.a 7)), (.int .i64 (.a 8)), (.int .i64 (.a 9)), (.int .i64 (.a 10)), (.int .i64 (.a 11)), (.int .i64 (.a 12))]]) 12
   (.call 23 [(.va 5)] [] [(.one .bool)]
   (.ite (.not (.a 2))
    (.call 24 [] [] [(.one .bool)]
    (.ret false (.bool (.a 3)) []))
    (.call 27 [(.agg [(.va 0), (.va 1), (.va 2), (.va 3)]), (.int .i64 (.a 0)), (.va 4)] [] [(.one (.int .i64))]
    (.both saleroomlaw37_ActivityPoints_s_b3 saleroomlaw37_ActivityPoints_s_b4)))))))))
def saleroomlaw37_ActivityPoints_S : Sx.Sys := ⟨[(.sh (.agg [.val, .val, .val, .val])), (.sh (.one (.int .i64))), (.sh (.one .val)), (.sh (.agg [(.int .i64), (.int .i64), (.int .i64), (.int .i64), (.int .i64), (.int .i64), (.int .i64), (.int .i64), (.int .i64), (.int .i64), (.int .i64), (.int .i64)]))], saleroomlaw37_ActivityPoints_s, [], none⟩
def saleroomlaw37_ActivityPoints_pats : List Cfg := []
theorem saleroomlaw37_ActivityPoints_ok : SysOk Try.prog 9 saleroomlaw37_ActivityPoints_S := sys_ok (c := (cg [] [] [] false false false true)) (progOkG _ _ _ _ _ _ _ _) Try.func9 Try.call9 (by kernel_rfl) saleroomlaw37_ActivityPoints_pats saleroomlaw37_ActivityPoints_S 5000 rfl (by kernel_rfl) (by kernel_rfl) rfl
def saleroomref36_All_s : PT :=
 (.jump 0 [(.l 0)] [] [(.va 0)])
def saleroomref36_All_t0 : PT :=
 (.need (.is 0 0)
 (.ite (.lt (.a 0) (.slen 0))
  (.need (.and (.le (.l 0) (.a 0)) (.lt (.a 0) (.slen 0)))
  (.load false (.ea 0 (.a 0) 12 0) [(.int .i64), (.int .i64), (.int .i64), (.int .i64), (.int .i64), (.int .i64), (.int .i64), (.int .i64), (.int .i64), (.int .i64), (.int .i64), (.int .i64)]
  (.call 44 [(.agg [(.int .i64 (.a 1)), (.int .i64 (.a 2)), (.int .i64 (.a 3)), (.int .i64 (.a 4)), (.int .i64 (.a 5)), (.int .i64 (.a 6)), (.int .i64 (.a 7)), (.int .i64 (.a 8)), (.int .i64 (.a 9)), (.int .i64 (.a 10)), (.int .i64 (.a 11)), (.int .i64 (.a 12))])] [] [(.one .bool)]
  (.ite (.not (.a 0))
   (.ret false (.bool (.t false)) [])
   (.need (.and (.le (.l (-9223372036854775808)) (.add (.a 0) (.l 1))) (.le (.add (.a 0) (.l 1)) (.l 9223372036854775807)))
   (.jump 0 [(.add (.a 0) (.l 1))] [] [(.va 0)]))))))
  (.ret false (.bool (.t true)) [])))
def saleroomref36_All_S : Sx.Sys := ⟨[(.sh (.one .val))], saleroomref36_All_s, [saleroomref36_All_t0], none⟩
def saleroomref36_All_pats : List Cfg := [{ todo := [(.code [false, false, true, false, true]), (.inLoop [false, false, true, false, true]), (.inBlock 0), (.code [true, true])], sl := [(.va 0), .undef, (.junk 0), (.int .i64 (.a 0)), (.junk 1), (.junk 2), (.junk 3), (.junk 4), (.junk 5), (.junk 6), (.junk 7), (.junk 8), (.junk 9), (.junk 10), (.junk 11), (.junk 12)], H := [], ni := 1, nb := 0, nv := 1, nj := 13 }]
theorem saleroomref36_All_ok : SysOk Try.prog 17 saleroomref36_All_S := sys_ok (c := (cg [[false, false, true, false, true]] [] [] false false false true)) (progOkG _ _ _ _ _ _ _ _) Try.func17 Try.call17 (by kernel_rfl) saleroomref36_All_pats saleroomref36_All_S 5000 rfl (by kernel_rfl) (by kernel_rfl) rfl
def activity_Accept_s : PT :=
 (.ite (.eq (.a 0) (.l 1))
  (.call 54 [(.agg [(.va 0), (.va 1), (.va 2), (.va 3)]), (.int .i64 (.a 1))] [] [(.one .bool)]
  (.ite (.not (.a 0))
   (.ret false (.int .i64 (.l 6)) [])
   (.call 55 [(.agg [(.int .i64 (.a 8)), (.int .i64 (.a 9)), (.int .i64 (.a 10)), (.int .i64 (.a 11)), (.int .i64 (.a 12)), (.int .i64 (.a 13))])] [] [(.one (.int .i64))]
   (.ite (.not (.eq (.a 14) (.l 0)))
    (.ret false (.int .i64 (.a 14)) [])
    (.call 29 [(.va 4)] [] [(.one .bool)]
    (.ite (.a 1)
     (.call 56 [(.agg [(.int .i64 (.a 2)), (.int .i64 (.a 3)), (.int .i64 (.a 4)), (.int .i64 (.a 5)), (.int .i64 (.a 6)), (.int .i64 (.a 7)), (.int .i64 (.a 8)), (.int .i64 (.a 9)), (.int .i64 (.a 10)), (.int .i64 (.a 11)), (.int .i64 (.a 12)), (.int .i64 (.a 13))])] [] [(.one .bool)]
     (.ite (.not (.a 2))
      (.ret false (.int .i64 (.l 15)) [])
      (.ret false (.int .i64 (.l 0)) [])))
     (.call 51 [(.agg [(.va 0), (.va 1), (.va 2), (.va 3), (.int .i64 (.a 1)), (.va 4)]), (.agg [(.int .i64 (.a 2)), (.int .i64 (.a 3)), (.int .i64 (.a 4)), (.int .i64 (.a 5)), (.int .i64 (.a 6)), (.int .i64 (.a 7)), (.int .i64 (.a 8)), (.int .i64 (.a 9)), (.int .i64 (.a 10)), (.int .i64 (.a 11)), (.int .i64 (.a 12)), (.int .i64 (.a 13))])] [] [(.one .bool)]
     (.ite (.not (.a 2))
      (.ret false (.int .i64 (.l 15)) [])
      (.ret false (.int .i64 (.l 0)) [])))))))))
  (.ite (.eq (.a 0) (.l 2))
   (.call 54 [(.agg [(.va 0), (.va 1), (.va 2), (.va 3)]), (.int .i64 (.a 1))] [] [(.one .bool)]
   (.ite (.not (.a 0))
    (.ret false (.int .i64 (.l 6)) [])
    (.call 55 [(.agg [(.int .i64 (.a 8)), (.int .i64 (.a 9)), (.int .i64 (.a 10)), (.int .i64 (.a 11)), (.int .i64 (.a 12)), (.int .i64 (.a 13))])] [] [(.one (.int .i64))]
    (.ite (.not (.eq (.a 14) (.l 0)))
     (.ret false (.int .i64 (.a 14)) [])
     (.call 29 [(.va 4)] [] [(.one .bool)]
     (.ite (.a 1)
      (.call 56 [(.agg [(.int .i64 (.a 2)), (.int .i64 (.a 3)), (.int .i64 (.a 4)), (.int .i64 (.a 5)), (.int .i64 (.a 6)), (.int .i64 (.a 7)), (.int .i64 (.a 8)), (.int .i64 (.a 9)), (.int .i64 (.a 10)), (.int .i64 (.a 11)), (.int .i64 (.a 12)), (.int .i64 (.a 13))])] [] [(.one .bool)]
      (.ite (.not (.a 2))
       (.ret false (.int .i64 (.l 15)) [])
       (.ret false (.int .i64 (.l 0)) [])))
      (.call 52 [(.agg [(.va 0), (.va 1), (.va 2), (.va 3), (.int .i64 (.a 1)), (.va 4)]), (.agg [(.int .i64 (.a 2)), (.int .i64 (.a 3)), (.int .i64 (.a 4)), (.int .i64 (.a 5)), (.int .i64 (.a 6)), (.int .i64 (.a 7)), (.int .i64 (.a 8)), (.int .i64 (.a 9)), (.int .i64 (.a 10)), (.int .i64 (.a 11)), (.int .i64 (.a 12)), (.int .i64 (.a 13))])] [] [(.one .bool)]
      (.ite (.not (.a 2))
       (.ret false (.int .i64 (.l 15)) [])
       (.ret false (.int .i64 (.l 0)) [])))))))))
   (.ite (.eq (.a 0) (.l 3))
    (.call 54 [(.agg [(.va 0), (.va 1), (.va 2), (.va 3)]), (.int .i64 (.a 1))] [] [(.one .bool)]
    (.ite (.not (.a 0))
     (.ret false (.int .i64 (.l 6)) [])
     (.call 55 [(.agg [(.int .i64 (.a 8)), (.int .i64 (.a 9)), (.int .i64 (.a 10)), (.int .i64 (.a 11)), (.int .i64 (.a 12)), (.int .i64 (.a 13))])] [] [(.one (.int .i64))]
     (.ite (.not (.eq (.a 14) (.l 0)))
      (.ret false (.int .i64 (.a 14)) [])
      (.call 29 [(.va 4)] [] [(.one .bool)]
      (.ite (.a 1)
       (.call 56 [(.agg [(.int .i64 (.a 2)), (.int .i64 (.a 3)), (.int .i64 (.a 4)), (.int .i64 (.a 5)), (.int .i64 (.a 6)), (.int .i64 (.a 7)), (.int .i64 (.a 8)), (.int .i64 (.a 9)), (.int .i64 (.a 10)), (.int .i64 (.a 11)), (.int .i64 (.a 12)), (.int .i64 (.a 13))])] [] [(.one .bool)]
       (.ite (.not (.a 2))
        (.ret false (.int .i64 (.l 15)) [])
        (.ret false (.int .i64 (.l 0)) [])))
       (.call 53 [(.agg [(.va 0), (.va 1), (.va 2), (.va 3), (.int .i64 (.a 1)), (.va 4)]), (.agg [(.int .i64 (.a 2)), (.int .i64 (.a 3)), (.int .i64 (.a 4)), (.int .i64 (.a 5)), (.int .i64 (.a 6)), (.int .i64 (.a 7)), (.int .i64 (.a 8)), (.int .i64 (.a 9)), (.int .i64 (.a 10)), (.int .i64 (.a 11)), (.int .i64 (.a 12)), (.int .i64 (.a 13))])] [] [(.one .bool)]
       (.ite (.not (.a 2))
        (.ret false (.int .i64 (.l 15)) [])
        (.ret false (.int .i64 (.l 0)) [])))))))))
    (.ret false (.int .i64 (.l 4)) []))))
def activity_Accept_S : Sx.Sys := ⟨[(.sh (.agg [.val, .val, .val, .val])), (.sh (.one (.int .i64))), (.sh (.one (.int .i64))), (.sh (.one .val)), (.sh (.agg [(.int .i64), (.int .i64), (.int .i64), (.int .i64), (.int .i64), (.int .i64), (.int .i64), (.int .i64), (.int .i64), (.int .i64), (.int .i64), (.int .i64)]))], activity_Accept_s, [], none⟩
def activity_Accept_pats : List Cfg := []
theorem activity_Accept_ok : SysOk Try.prog 25 activity_Accept_S := sys_ok (c := (cg [] [] [(43, [4])] false false false true)) (progOkG _ _ _ _ _ _ _ _) Try.func25 Try.call25 (by kernel_rfl) activity_Accept_pats activity_Accept_S 5000 rfl (by kernel_rfl) (by kernel_rfl) rfl
def saleroomref08_Check_s : PT :=
 (.need (.is 0 0)
 (.ite (.eq (.slen 0) (.l 0))
  (.ret false (.int .i64 (.l 1)) [])
  (.need (.is 0 0)
  (.ite (.lt (.l 6) (.slen 0))
   (.ret false (.int .i64 (.l 3)) [])
   (.jump 0 [(.l 0)] [] [(.va 0)])))))
def saleroomref08_Check_t0 : PT :=
 (.need (.is 0 0)
 (.ite (.lt (.a 0) (.slen 0))
  (.need (.and (.le (.l 0) (.a 0)) (.lt (.a 0) (.slen 0)))
  (.load false (.ea 0 (.a 0) 5 0) [.val]
  (.call 61 [(.va 1)] [] [(.one .bool)]
  (.ite (.not (.a 0))
   (.ret false (.int .i64 (.l 5)) [])
   (.jump 1 [(.a 0), (.l 0)] [] [(.va 0)])))))
  (.jump 2 [(.l 1), (.l 0)] [] [(.va 0)])))
def saleroomref08_Check_t1 : PT :=
 (.ite (.lt (.a 1) (.a 0))
  (.need (.and (.le (.l 0) (.a 1)) (.lt (.a 1) (.slen 0)))
  (.need (.and (.le (.l 0) (.a 0)) (.lt (.a 0) (.slen 0)))
  (.load true (.ea 0 (.a 1) 5 0) [.val]
  (.load true (.ea 0 (.a 0) 5 0) [.val]
  (.need (.is 3 1)
  (.need (.is 3 2)
  (.ite (.seq 1 2)
   (.ret false (.int .i64 (.l 7)) [])
   (.need (.and (.le (.l (-9223372036854775808)) (.add (.a 1) (.l 1))) (.le (.add (.a 1) (.l 1)) (.l 9223372036854775807)))
   (.jump 1 [(.a 0), (.add (.a 1) (.l 1))] [] [(.va 0)])))))))))
  (.need (.and (.le (.l 0) (.a 0)) (.lt (.a 0) (.slen 0)))
  (.load false (.ea 0 (.a 0) 5 0) [.val, (.int .i64), (.int .i64), (.int .i64), (.int .i64)]
  (.ite (.lt (.a 2) (.l 1))
   (.ret false (.int .i64 (.l 4)) [])
   (.ite (.lt (.l 4) (.a 2))
    (.ret false (.int .i64 (.l 4)) [])
    (.ite (.lt (.a 3) (.l 0))
     (.ret false (.int .i64 (.l 4)) [])
     (.ite (.lt (.l 1000000) (.a 3))
      (.ret false (.int .i64 (.l 4)) [])
      (.ite (.lt (.a 4) (.l 0))
       (.ret false (.int .i64 (.l 4)) [])
       (.ite (.lt (.l 1000) (.a 4))
        (.ret false (.int .i64 (.l 4)) [])
        (.ite (.lt (.a 5) (.l 0))
         (.ret false (.int .i64 (.l 4)) [])
         (.ite (.lt (.l 4) (.a 5))
          (.ret false (.int .i64 (.l 4)) [])
          (.need (.and (.le (.l (-9223372036854775808)) (.add (.a 0) (.l 1))) (.le (.add (.a 0) (.l 1)) (.l 9223372036854775807)))
          (.jump 0 [(.add (.a 0) (.l 1))] [] [(.va 0)])))))))))))))
def saleroomref08_Check_t2 : PT :=
 (.need (.is 0 0)
 (.ite (.lt (.a 1) (.slen 0))
  (.need (.and (.le (.l 0) (.a 1)) (.lt (.a 1) (.slen 0)))
  (.load false (.ea 0 (.a 1) 5 1) [(.int .i64)]
  (.need (.and (.le (.l (-9223372036854775808)) (.add (.a 2) (.l 1))) (.le (.add (.a 2) (.l 1)) (.l 9223372036854775807)))
  (.need (.and (.le (.l (-9223372036854775808)) (.mul (.a 0) (.add (.a 2) (.l 1)))) (.le (.mul (.a 0) (.add (.a 2) (.l 1))) (.l 9223372036854775807)))
  (.need (.and (.le (.l (-9223372036854775808)) (.add (.a 1) (.l 1))) (.le (.add (.a 1) (.l 1)) (.l 9223372036854775807)))
  (.jump 2 [(.mul (.a 0) (.add (.a 2) (.l 1))), (.add (.a 1) (.l 1))] [] [(.va 0)]))))))
  (.ite (.lt (.l 1024) (.a 0))
   (.ret false (.int .i64 (.l 12)) [])
   (.ret false (.int .i64 (.l 0)) []))))
def saleroomref08_Check_S : Sx.Sys := ⟨[(.sh (.one .val))], saleroomref08_Check_s, [saleroomref08_Check_t0, saleroomref08_Check_t1, saleroomref08_Check_t2], none⟩
def saleroomref08_Check_pats : List Cfg := [{ todo := [(.code [false, false, true, false, true, true, true]), (.inLoop [false, false, true, false, true, true, true]), (.inBlock 0), (.code [true, true, true, true])], sl := [(.va 0), .undef, (.junk 0), (.int .i64 (.a 0)), (.junk 1), (.junk 2), .undef, .undef, (.junk 3), (.junk 4), (.junk 5), (.junk 6), (.junk 7), (.junk 8), (.junk 9), (.junk 10), (.junk 11), (.junk 12), (.junk 13), (.junk 14), (.junk 15), (.junk 16), (.junk 17), (.junk 18), (.junk 19), (.junk 20), (.junk 21), (.junk 22), (.junk 23), (.junk 24), (.junk 25), (.junk 26), (.junk 27), (.junk 28), (.junk 29), (.junk 30), (.junk 31), (.junk 32), (.junk 33), (.junk 34), (.junk 35), (.junk 36), (.junk 37), (.junk 38), (.junk 39), (.junk 40), (.junk 41), (.junk 42), (.junk 43), (.junk 44), (.junk 45), (.junk 46), (.junk 47), (.junk 48), (.junk 49), (.junk 50), (.junk 51), (.junk 52), (.junk 53), (.junk 54), (.junk 55), (.junk 56), (.junk 57), (.junk 58), (.junk 59), (.junk 60), (.junk 61), (.junk 62), (.junk 63), (.junk 64), (.junk 65), (.junk 66), (.junk 67), (.junk 68), (.junk 69), (.junk 70), (.junk 71), (.junk 72), (.junk 73), (.junk 74), (.junk 75), (.junk 76), (.junk 77), (.junk 78), (.junk 79), .undef, .undef, .undef, .undef, .undef, .undef, .undef, .undef, .undef, .undef, .undef, .undef, .undef, .undef, .undef, .undef], H := [], ni := 1, nb := 0, nv := 1, nj := 80 },
 { todo := [(.code [false, false, true, false, true, false, false, true, false, false, true, false, true, true, true]), (.inLoop [false, false, true, false, true, false, false, true, false, false, true, false, true, true, true]), (.inBlock 2), (.code [true, true, false, false, true, false, false, true, false, true, true, true]), (.inBlock 1), (.code [true, true, false, false, true, false, true, true, true]), (.inLoop [false, false, true, false, true, true, true]), (.inBlock 0), (.code [true, true, true, true])], sl := [(.va 0), .undef, (.junk 0), (.int .i64 (.a 0)), (.int .i64 (.a 1)), (.junk 1), .undef, .undef, (.junk 2), (.junk 3), (.junk 4), (.junk 5), (.junk 6), (.junk 7), (.junk 8), (.junk 9), (.junk 10), (.junk 11), (.junk 12), (.junk 13), (.junk 14), (.junk 15), (.junk 16), (.junk 17), (.junk 18), (.junk 19), (.junk 20), (.junk 21), (.junk 22), (.junk 23), (.junk 24), (.junk 25), (.junk 26), (.junk 27), (.junk 28), (.junk 29), (.junk 30), (.junk 31), (.junk 32), (.junk 33), (.junk 34), (.junk 35), (.junk 36), (.junk 37), (.junk 38), (.junk 39), (.junk 40), (.junk 41), (.junk 42), (.junk 43), (.junk 44), (.junk 45), (.junk 46), (.junk 47), (.junk 48), (.junk 49), (.junk 50), (.junk 51), (.junk 52), (.junk 53), (.junk 54), (.junk 55), (.junk 56), (.junk 57), (.junk 58), (.junk 59), (.junk 60), (.junk 61), (.junk 62), (.junk 63), (.junk 64), (.junk 65), (.junk 66), (.junk 67), (.junk 68), (.junk 69), (.junk 70), (.junk 71), (.junk 72), (.junk 73), (.junk 74), (.junk 75), (.junk 76), (.junk 77), (.junk 78), .undef, .undef, .undef, .undef, .undef, .undef, .undef, .undef, .undef, .undef, .undef, .undef, .undef, .undef, .undef, .undef], H := [], ni := 2, nb := 0, nv := 1, nj := 79 },
 { todo := [(.code [false, false, true, false, true, true, true, true, true]), (.inLoop [false, false, true, false, true, true, true, true, true]), (.inBlock 4), (.code [true, true, true, true, true, true])], sl := [(.va 0), .undef, (.junk 0), (.junk 1), (.junk 2), (.junk 3), (.int .i64 (.a 0)), (.int .i64 (.a 1)), (.junk 4), (.junk 5), (.junk 6), (.junk 7), (.junk 8), (.junk 9), (.junk 10), (.junk 11), (.junk 12), (.junk 13), (.junk 14), (.junk 15), (.junk 16), (.junk 17), (.junk 18), (.junk 19), (.junk 20), (.junk 21), (.junk 22), (.junk 23), (.junk 24), (.junk 25), (.junk 26), (.junk 27), (.junk 28), (.junk 29), (.junk 30), (.junk 31), (.junk 32), (.junk 33), (.junk 34), (.junk 35), (.junk 36), (.junk 37), (.junk 38), (.junk 39), (.junk 40), (.junk 41), (.junk 42), (.junk 43), (.junk 44), (.junk 45), (.junk 46), (.junk 47), (.junk 48), (.junk 49), (.junk 50), (.junk 51), (.junk 52), (.junk 53), (.junk 54), (.junk 55), (.junk 56), (.junk 57), (.junk 58), (.junk 59), (.junk 60), (.junk 61), (.junk 62), (.junk 63), (.junk 64), (.junk 65), (.junk 66), (.junk 67), (.junk 68), (.junk 69), (.junk 70), (.junk 71), (.junk 72), (.junk 73), (.junk 74), (.junk 75), (.junk 76), (.junk 77), (.junk 78), (.junk 79), (.junk 80), (.junk 81), (.junk 82), (.junk 83), (.junk 84), (.junk 85), (.junk 86), (.junk 87), (.junk 88), (.junk 89), (.junk 90), (.junk 91), (.junk 92), (.junk 93), (.junk 94), .undef, .undef], H := [], ni := 2, nb := 0, nv := 1, nj := 95 }]
theorem saleroomref08_Check_ok : SysOk Try.prog 33 saleroomref08_Check_S := sys_ok (c := (cg [[false, false, true, false, true, true, true], [false, false, true, false, true, false, false, true, false, false, true, false, true, true, true], [false, false, true, false, true, true, true, true, true]] [] [] false false false true)) (progOkG _ _ _ _ _ _ _ _) Try.func33 Try.call33 (by kernel_rfl) saleroomref08_Check_pats saleroomref08_Check_S 5000 rfl (by kernel_rfl) (by kernel_rfl) rfl
def bundle_Cost_s : PT :=
 (.need (.and (.le (.l (-9223372036854775808)) (.mul (.a 0) (.a 6))) (.le (.mul (.a 0) (.a 6)) (.l 9223372036854775807)))
 (.need (.and (.le (.l (-9223372036854775808)) (.mul (.a 0) (.a 6))) (.le (.mul (.a 0) (.a 6)) (.l 9223372036854775807)))
 (.need (.and (.le (.l (-9223372036854775808)) (.mul (.a 1) (.a 7))) (.le (.mul (.a 1) (.a 7)) (.l 9223372036854775807)))
 (.need (.and (.le (.l (-9223372036854775808)) (.add (.mul (.a 0) (.a 6)) (.mul (.a 1) (.a 7)))) (.le (.add (.mul (.a 0) (.a 6)) (.mul (.a 1) (.a 7))) (.l 9223372036854775807)))
 (.need (.and (.le (.l (-9223372036854775808)) (.mul (.a 2) (.a 8))) (.le (.mul (.a 2) (.a 8)) (.l 9223372036854775807)))
 (.need (.and (.le (.l (-9223372036854775808)) (.add (.add (.mul (.a 0) (.a 6)) (.mul (.a 1) (.a 7))) (.mul (.a 2) (.a 8)))) (.le (.add (.add (.mul (.a 0) (.a 6)) (.mul (.a 1) (.a 7))) (.mul (.a 2) (.a 8))) (.l 9223372036854775807)))
 (.need (.and (.le (.l (-9223372036854775808)) (.mul (.a 3) (.a 9))) (.le (.mul (.a 3) (.a 9)) (.l 9223372036854775807)))
 (.need (.and (.le (.l (-9223372036854775808)) (.add (.add (.add (.mul (.a 0) (.a 6)) (.mul (.a 1) (.a 7))) (.mul (.a 2) (.a 8))) (.mul (.a 3) (.a 9)))) (.le (.add (.add (.add (.mul (.a 0) (.a 6)) (.mul (.a 1) (.a 7))) (.mul (.a 2) (.a 8))) (.mul (.a 3) (.a 9))) (.l 9223372036854775807)))
 (.need (.and (.le (.l (-9223372036854775808)) (.mul (.a 4) (.a 10))) (.le (.mul (.a 4) (.a 10)) (.l 9223372036854775807)))
 (.need (.and (.le (.l (-9223372036854775808)) (.add (.add (.add (.add (.mul (.a 0) (.a 6)) (.mul (.a 1) (.a 7))) (.mul (.a 2) (.a 8))) (.mul (.a 3) (.a 9))) (.mul (.a 4) (.a 10)))) (.le (.add (.add (.add (.add (.mul (.a 0) (.a 6)) (.mul (.a 1) (.a 7))) (.mul (.a 2) (.a 8))) (.mul (.a 3) (.a 9))) (.mul (.a 4) (.a 10))) (.l 9223372036854775807)))
 (.need (.and (.le (.l (-9223372036854775808)) (.mul (.a 5) (.a 11))) (.le (.mul (.a 5) (.a 11)) (.l 9223372036854775807)))
 (.need (.and (.le (.l (-9223372036854775808)) (.add (.add (.add (.add (.add (.mul (.a 0) (.a 6)) (.mul (.a 1) (.a 7))) (.mul (.a 2) (.a 8))) (.mul (.a 3) (.a 9))) (.mul (.a 4) (.a 10))) (.mul (.a 5) (.a 11)))) (.le (.add (.add (.add (.add (.add (.mul (.a 0) (.a 6)) (.mul (.a 1) (.a 7))) (.mul (.a 2) (.a 8))) (.mul (.a 3) (.a 9))) (.mul (.a 4) (.a 10))) (.mul (.a 5) (.a 11))) (.l 9223372036854775807)))
 (.ret false (.int .i64 (.add (.add (.add (.add (.add (.mul (.a 0) (.a 6)) (.mul (.a 1) (.a 7))) (.mul (.a 2) (.a 8))) (.mul (.a 3) (.a 9))) (.mul (.a 4) (.a 10))) (.mul (.a 5) (.a 11)))) [])))))))))))))
def bundle_Cost_S : Sx.Sys := ⟨[(.sh (.agg [(.int .i64), (.int .i64), (.int .i64), (.int .i64), (.int .i64), (.int .i64)])), (.sh (.agg [(.int .i64), (.int .i64), (.int .i64), (.int .i64), (.int .i64), (.int .i64)]))], bundle_Cost_s, [], none⟩
def bundle_Cost_pats : List Cfg := []
theorem bundle_Cost_ok : SysOk Try.prog 41 bundle_Cost_S := sys_ok (c := (cg [] [] [] false false false true)) (progOkG _ _ _ _ _ _ _ _) Try.func41 Try.call41 (by kernel_rfl) bundle_Cost_pats bundle_Cost_S 5000 rfl (by kernel_rfl) (by kernel_rfl) rfl
def revealed_valid_s : PT :=
 (.ite (.lt (.a 0) (.l 0))
  (.ret false (.bool (.t false)) [])
  (.ite (.lt (.l 1000000) (.a 0))
   (.ret false (.bool (.t false)) [])
   (.ite (.lt (.a 1) (.l 0))
    (.ret false (.bool (.t false)) [])
    (.ite (.lt (.l 1000000) (.a 1))
     (.ret false (.bool (.t false)) [])
     (.ite (.lt (.a 2) (.l 0))
      (.ret false (.bool (.t false)) [])
      (.ite (.lt (.l 1000000) (.a 2))
       (.ret false (.bool (.t false)) [])
       (.ite (.lt (.a 3) (.l 0))
        (.ret false (.bool (.t false)) [])
        (.ite (.lt (.l 1000000) (.a 3))
         (.ret false (.bool (.t false)) [])
         (.ite (.lt (.a 4) (.l 0))
          (.ret false (.bool (.t false)) [])
          (.ite (.lt (.l 1000000) (.a 4))
           (.ret false (.bool (.t false)) [])
           (.ite (.lt (.a 5) (.l 0))
            (.ret false (.bool (.t false)) [])
            (.ite (.lt (.l 1000000) (.a 5))
             (.ret false (.bool (.t false)) [])
             (.call 55 [(.agg [(.int .i64 (.a 6)), (.int .i64 (.a 7)), (.int .i64 (.a 8)), (.int .i64 (.a 9)), (.int .i64 (.a 10)), (.int .i64 (.a 11))])] [] [(.one (.int .i64))]
             (.ret false (.bool (.eq (.a 12) (.l 0))) []))))))))))))))
def revealed_valid_S : Sx.Sys := ⟨[(.sh (.agg [(.int .i64), (.int .i64), (.int .i64), (.int .i64), (.int .i64), (.int .i64), (.int .i64), (.int .i64), (.int .i64), (.int .i64), (.int .i64), (.int .i64)]))], revealed_valid_s, [], none⟩
def revealed_valid_pats : List Cfg := []
theorem revealed_valid_ok : SysOk Try.prog 49 revealed_valid_S := sys_ok (c := (cg [] [] [] false false false true)) (progOkG _ _ _ _ _ _ _ _) Try.func49 Try.call49 (by kernel_rfl) revealed_valid_pats revealed_valid_S 5000 rfl (by kernel_rfl) (by kernel_rfl) rfl
def saleroomref37_bidder_s : PT :=
 (.ite (.le (.l 0) (.a 0))
  (.need (.is 0 1)
  (.ret false (.bool (.lt (.a 0) (.slen 1))) []))
  (.ret false (.bool (.t false)) []))
def saleroomref37_bidder_S : Sx.Sys := ⟨[(.sh (.agg [.val, .val, .val, .val])), (.sh (.one (.int .i64)))], saleroomref37_bidder_s, [], none⟩
def saleroomref37_bidder_pats : List Cfg := []
theorem saleroomref37_bidder_ok : SysOk Try.prog 57 saleroomref37_bidder_S := sys_ok (c := (cg [] [] [] false false false true)) (progOkG _ _ _ _ _ _ _ _) Try.func57 Try.call57 (by kernel_rfl) saleroomref37_bidder_pats saleroomref37_bidder_S 5000 rfl (by kernel_rfl) (by kernel_rfl) rfl
def saleroomref08_Sums_s : PT :=
 (.call 33 [(.va 0)] [] [(.one (.int .i64))]
 (.ite (.not (.eq (.a 7) (.l 0)))
  (.ret false (.tup [(.int .i64 (.l 0)), (.int .i64 (.l 0)), (.int .i64 (.l 0))]) [])
  (.call 72 [(.agg [(.int .i64 (.a 1)), (.int .i64 (.a 2)), (.int .i64 (.a 3)), (.int .i64 (.a 4)), (.int .i64 (.a 5)), (.int .i64 (.a 6))])] [] [(.one .bool)]
  (.ite (.not (.a 0))
   (.ret false (.tup [(.int .i64 (.l 0)), (.int .i64 (.l 0)), (.int .i64 (.l 0))]) [])
   (.jump 0 [(.a 0), (.l 0), (.l 0), (.l 0), (.l 0), (.a 1), (.a 2), (.a 3), (.a 4), (.a 5), (.a 6)] [] [(.va 0)])))))
def saleroomref08_Sums_t0 : PT :=
 (.need (.is 0 0)
 (.ite (.lt (.a 4) (.slen 0))
  (.jump 1 [(.a 0), (.a 1), (.a 2), (.a 3), (.a 4), (.l 0), (.a 5), (.a 6), (.a 7), (.a 8), (.a 9), (.a 10)] [] [(.va 0)])
  (.ret false (.tup [(.int .i64 (.a 1)), (.int .i64 (.a 2)), (.int .i64 (.a 3))]) [])))
def saleroomref08_Sums_t1 : PT :=
 (.ite (.eq (.a 4) (.l 5))
  (.ite (.lt (.a 5) (.a 11))
   (.need (.lt (.l 5) (.slen 0))
   (.load false (.ea 0 (.l 5) 5 3) [(.int .i64)]
   (.need (.and (.le (.l (-9223372036854775808)) (.add (.a 1) (.a 12))) (.le (.add (.a 1) (.a 12)) (.l 9223372036854775807)))
   (.need (.lt (.l 5) (.slen 0))
   (.load false (.ea 0 (.l 5) 5 2) [(.int .i64)]
   (.need (.and (.le (.l (-9223372036854775808)) (.add (.a 2) (.a 13))) (.le (.add (.a 2) (.a 13)) (.l 9223372036854775807)))
   (.need (.lt (.l 5) (.slen 0))
   (.load false (.ea 0 (.l 5) 5 4) [(.int .i64)]
   (.ite (.eq (.a 14) (.a 0))
    (.need (.and (.le (.l (-9223372036854775808)) (.add (.a 3) (.l 1))) (.le (.add (.a 3) (.l 1)) (.l 9223372036854775807)))
    (.need (.and (.le (.l (-9223372036854775808)) (.add (.a 5) (.l 1))) (.le (.add (.a 5) (.l 1)) (.l 9223372036854775807)))
    (.jump 1 [(.a 0), (.add (.a 1) (.a 12)), (.add (.a 2) (.a 13)), (.add (.a 3) (.l 1)), (.l 5), (.add (.a 5) (.l 1)), (.a 6), (.a 7), (.a 8), (.a 9), (.a 10), (.a 11)] [] [(.va 0)])))
    (.need (.and (.le (.l (-9223372036854775808)) (.add (.a 5) (.l 1))) (.le (.add (.a 5) (.l 1)) (.l 9223372036854775807)))
    (.jump 1 [(.a 0), (.add (.a 1) (.a 12)), (.add (.a 2) (.a 13)), (.a 3), (.l 5), (.add (.a 5) (.l 1)), (.a 6), (.a 7), (.a 8), (.a 9), (.a 10), (.a 11)] [] [(.va 0)])))))))))))
   (.jump 0 [(.a 0), (.a 1), (.a 2), (.a 3), (.l 6), (.a 6), (.a 7), (.a 8), (.a 9), (.a 10), (.a 11)] [] [(.va 0)]))
  (.ite (.eq (.a 4) (.l 4))
   (.ite (.lt (.a 5) (.a 10))
    (.need (.lt (.l 4) (.slen 0))
    (.load false (.ea 0 (.l 4) 5 3) [(.int .i64)]
    (.need (.and (.le (.l (-9223372036854775808)) (.add (.a 1) (.a 12))) (.le (.add (.a 1) (.a 12)) (.l 9223372036854775807)))
    (.need (.lt (.l 4) (.slen 0))
    (.load false (.ea 0 (.l 4) 5 2) [(.int .i64)]
    (.need (.and (.le (.l (-9223372036854775808)) (.add (.a 2) (.a 13))) (.le (.add (.a 2) (.a 13)) (.l 9223372036854775807)))
    (.need (.lt (.l 4) (.slen 0))
    (.load false (.ea 0 (.l 4) 5 4) [(.int .i64)]
    (.ite (.eq (.a 14) (.a 0))
     (.need (.and (.le (.l (-9223372036854775808)) (.add (.a 3) (.l 1))) (.le (.add (.a 3) (.l 1)) (.l 9223372036854775807)))
     (.need (.and (.le (.l (-9223372036854775808)) (.add (.a 5) (.l 1))) (.le (.add (.a 5) (.l 1)) (.l 9223372036854775807)))
     (.jump 1 [(.a 0), (.add (.a 1) (.a 12)), (.add (.a 2) (.a 13)), (.add (.a 3) (.l 1)), (.l 4), (.add (.a 5) (.l 1)), (.a 6), (.a 7), (.a 8), (.a 9), (.a 10), (.a 11)] [] [(.va 0)])))
     (.need (.and (.le (.l (-9223372036854775808)) (.add (.a 5) (.l 1))) (.le (.add (.a 5) (.l 1)) (.l 9223372036854775807)))
     (.jump 1 [(.a 0), (.add (.a 1) (.a 12)), (.add (.a 2) (.a 13)), (.a 3), (.l 4), (.add (.a 5) (.l 1)), (.a 6), (.a 7), (.a 8), (.a 9), (.a 10), (.a 11)] [] [(.va 0)])))))))))))
    (.jump 0 [(.a 0), (.a 1), (.a 2), (.a 3), (.l 5), (.a 6), (.a 7), (.a 8), (.a 9), (.a 10), (.a 11)] [] [(.va 0)]))
   (.ite (.eq (.a 4) (.l 3))
    (.ite (.lt (.a 5) (.a 9))
     (.need (.lt (.l 3) (.slen 0))
     (.load false (.ea 0 (.l 3) 5 3) [(.int .i64)]
     (.need (.and (.le (.l (-9223372036854775808)) (.add (.a 1) (.a 12))) (.le (.add (.a 1) (.a 12)) (.l 9223372036854775807)))
     (.need (.lt (.l 3) (.slen 0))
     (.load false (.ea 0 (.l 3) 5 2) [(.int .i64)]
     (.need (.and (.le (.l (-9223372036854775808)) (.add (.a 2) (.a 13))) (.le (.add (.a 2) (.a 13)) (.l 9223372036854775807)))
     (.need (.lt (.l 3) (.slen 0))
     (.load false (.ea 0 (.l 3) 5 4) [(.int .i64)]
     (.ite (.eq (.a 14) (.a 0))
      (.need (.and (.le (.l (-9223372036854775808)) (.add (.a 3) (.l 1))) (.le (.add (.a 3) (.l 1)) (.l 9223372036854775807)))
      (.need (.and (.le (.l (-9223372036854775808)) (.add (.a 5) (.l 1))) (.le (.add (.a 5) (.l 1)) (.l 9223372036854775807)))
      (.jump 1 [(.a 0), (.add (.a 1) (.a 12)), (.add (.a 2) (.a 13)), (.add (.a 3) (.l 1)), (.l 3), (.add (.a 5) (.l 1)), (.a 6), (.a 7), (.a 8), (.a 9), (.a 10), (.a 11)] [] [(.va 0)])))
      (.need (.and (.le (.l (-9223372036854775808)) (.add (.a 5) (.l 1))) (.le (.add (.a 5) (.l 1)) (.l 9223372036854775807)))
      (.jump 1 [(.a 0), (.add (.a 1) (.a 12)), (.add (.a 2) (.a 13)), (.a 3), (.l 3), (.add (.a 5) (.l 1)), (.a 6), (.a 7), (.a 8), (.a 9), (.a 10), (.a 11)] [] [(.va 0)])))))))))))
     (.jump 0 [(.a 0), (.a 1), (.a 2), (.a 3), (.l 4), (.a 6), (.a 7), (.a 8), (.a 9), (.a 10), (.a 11)] [] [(.va 0)]))
    (.ite (.eq (.a 4) (.l 2))
     (.ite (.lt (.a 5) (.a 8))
      (.need (.lt (.l 2) (.slen 0))
      (.load false (.ea 0 (.l 2) 5 3) [(.int .i64)]
      (.need (.and (.le (.l (-9223372036854775808)) (.add (.a 1) (.a 12))) (.le (.add (.a 1) (.a 12)) (.l 9223372036854775807)))
      (.need (.lt (.l 2) (.slen 0))
      (.load false (.ea 0 (.l 2) 5 2) [(.int .i64)]
      (.need (.and (.le (.l (-9223372036854775808)) (.add (.a 2) (.a 13))) (.le (.add (.a 2) (.a 13)) (.l 9223372036854775807)))
      (.need (.lt (.l 2) (.slen 0))
      (.load false (.ea 0 (.l 2) 5 4) [(.int .i64)]
      (.ite (.eq (.a 14) (.a 0))
       (.need (.and (.le (.l (-9223372036854775808)) (.add (.a 3) (.l 1))) (.le (.add (.a 3) (.l 1)) (.l 9223372036854775807)))
       (.need (.and (.le (.l (-9223372036854775808)) (.add (.a 5) (.l 1))) (.le (.add (.a 5) (.l 1)) (.l 9223372036854775807)))
       (.jump 1 [(.a 0), (.add (.a 1) (.a 12)), (.add (.a 2) (.a 13)), (.add (.a 3) (.l 1)), (.l 2), (.add (.a 5) (.l 1)), (.a 6), (.a 7), (.a 8), (.a 9), (.a 10), (.a 11)] [] [(.va 0)])))
       (.need (.and (.le (.l (-9223372036854775808)) (.add (.a 5) (.l 1))) (.le (.add (.a 5) (.l 1)) (.l 9223372036854775807)))
       (.jump 1 [(.a 0), (.add (.a 1) (.a 12)), (.add (.a 2) (.a 13)), (.a 3), (.l 2), (.add (.a 5) (.l 1)), (.a 6), (.a 7), (.a 8), (.a 9), (.a 10), (.a 11)] [] [(.va 0)])))))))))))
      (.jump 0 [(.a 0), (.a 1), (.a 2), (.a 3), (.l 3), (.a 6), (.a 7), (.a 8), (.a 9), (.a 10), (.a 11)] [] [(.va 0)]))
     (.ite (.eq (.a 4) (.l 1))
      (.ite (.lt (.a 5) (.a 7))
       (.need (.lt (.l 1) (.slen 0))
       (.load false (.ea 0 (.l 1) 5 3) [(.int .i64)]
       (.need (.and (.le (.l (-9223372036854775808)) (.add (.a 1) (.a 12))) (.le (.add (.a 1) (.a 12)) (.l 9223372036854775807)))
       (.need (.lt (.l 1) (.slen 0))
       (.load false (.ea 0 (.l 1) 5 2) [(.int .i64)]
       (.need (.and (.le (.l (-9223372036854775808)) (.add (.a 2) (.a 13))) (.le (.add (.a 2) (.a 13)) (.l 9223372036854775807)))
       (.need (.lt (.l 1) (.slen 0))
       (.load false (.ea 0 (.l 1) 5 4) [(.int .i64)]
       (.ite (.eq (.a 14) (.a 0))
        (.need (.and (.le (.l (-9223372036854775808)) (.add (.a 3) (.l 1))) (.le (.add (.a 3) (.l 1)) (.l 9223372036854775807)))
        (.need (.and (.le (.l (-9223372036854775808)) (.add (.a 5) (.l 1))) (.le (.add (.a 5) (.l 1)) (.l 9223372036854775807)))
        (.jump 1 [(.a 0), (.add (.a 1) (.a 12)), (.add (.a 2) (.a 13)), (.add (.a 3) (.l 1)), (.l 1), (.add (.a 5) (.l 1)), (.a 6), (.a 7), (.a 8), (.a 9), (.a 10), (.a 11)] [] [(.va 0)])))
        (.need (.and (.le (.l (-9223372036854775808)) (.add (.a 5) (.l 1))) (.le (.add (.a 5) (.l 1)) (.l 9223372036854775807)))
        (.jump 1 [(.a 0), (.add (.a 1) (.a 12)), (.add (.a 2) (.a 13)), (.a 3), (.l 1), (.add (.a 5) (.l 1)), (.a 6), (.a 7), (.a 8), (.a 9), (.a 10), (.a 11)] [] [(.va 0)])))))))))))
       (.jump 0 [(.a 0), (.a 1), (.a 2), (.a 3), (.l 2), (.a 6), (.a 7), (.a 8), (.a 9), (.a 10), (.a 11)] [] [(.va 0)]))
      (.ite (.eq (.a 4) (.l 0))
       (.ite (.lt (.a 5) (.a 6))
        (.need (.lt (.l 0) (.slen 0))
        (.load false (.ea 0 (.l 0) 5 3) [(.int .i64)]
        (.need (.and (.le (.l (-9223372036854775808)) (.add (.a 1) (.a 12))) (.le (.add (.a 1) (.a 12)) (.l 9223372036854775807)))
        (.need (.lt (.l 0) (.slen 0))
        (.load false (.ea 0 (.l 0) 5 2) [(.int .i64)]
        (.need (.and (.le (.l (-9223372036854775808)) (.add (.a 2) (.a 13))) (.le (.add (.a 2) (.a 13)) (.l 9223372036854775807)))
        (.need (.lt (.l 0) (.slen 0))
        (.load false (.ea 0 (.l 0) 5 4) [(.int .i64)]
        (.ite (.eq (.a 14) (.a 0))
         (.need (.and (.le (.l (-9223372036854775808)) (.add (.a 3) (.l 1))) (.le (.add (.a 3) (.l 1)) (.l 9223372036854775807)))
         (.need (.and (.le (.l (-9223372036854775808)) (.add (.a 5) (.l 1))) (.le (.add (.a 5) (.l 1)) (.l 9223372036854775807)))
         (.jump 1 [(.a 0), (.add (.a 1) (.a 12)), (.add (.a 2) (.a 13)), (.add (.a 3) (.l 1)), (.l 0), (.add (.a 5) (.l 1)), (.a 6), (.a 7), (.a 8), (.a 9), (.a 10), (.a 11)] [] [(.va 0)])))
         (.need (.and (.le (.l (-9223372036854775808)) (.add (.a 5) (.l 1))) (.le (.add (.a 5) (.l 1)) (.l 9223372036854775807)))
         (.jump 1 [(.a 0), (.add (.a 1) (.a 12)), (.add (.a 2) (.a 13)), (.a 3), (.l 0), (.add (.a 5) (.l 1)), (.a 6), (.a 7), (.a 8), (.a 9), (.a 10), (.a 11)] [] [(.va 0)])))))))))))
        (.jump 0 [(.a 0), (.a 1), (.a 2), (.a 3), (.l 1), (.a 6), (.a 7), (.a 8), (.a 9), (.a 10), (.a 11)] [] [(.va 0)]))
       .stuck))))))
def saleroomref08_Sums_S : Sx.Sys := ⟨[(.sh (.one .val)), (.sh (.one (.int .i64))), (.sh (.agg [(.int .i64), (.int .i64), (.int .i64), (.int .i64), (.int .i64), (.int .i64)]))], saleroomref08_Sums_s, [saleroomref08_Sums_t0, saleroomref08_Sums_t1], none⟩
def saleroomref08_Sums_pats : List Cfg := [{ todo := [(.code [false, false, true, false, true, true, true]), (.inLoop [false, false, true, false, true, true, true]), (.inBlock 0), (.code [true, true, true, true])], sl := [(.va 0), (.int .i64 (.a 0)), (.junk 0), .undef, .undef, (.ptr 0 0), (.junk 1), (.junk 2), (.junk 3), (.int .i64 (.a 1)), (.int .i64 (.a 2)), (.int .i64 (.a 3)), (.int .i64 (.a 4)), (.junk 4), (.junk 5), (.junk 6), (.junk 7), (.junk 8), (.junk 9), (.junk 10), (.junk 11), (.junk 12), (.junk 13), (.junk 14), (.junk 15), (.junk 16), (.junk 17), (.junk 18), (.junk 19), (.junk 20), (.junk 21), (.junk 22), (.junk 23), (.junk 24), (.junk 25), (.junk 26), (.junk 27), (.junk 28), (.junk 29), (.junk 30), (.junk 31), (.junk 32), (.junk 33), (.junk 34), (.junk 35), (.junk 36), (.junk 37), (.junk 38), (.junk 39), (.junk 40), (.junk 41), (.junk 42), (.junk 43), (.junk 44), (.junk 45), (.junk 46), (.junk 47), (.junk 48), .undef, .undef, .undef], H := [(.cells [(.int .i64 (.a 5)), (.int .i64 (.a 6)), (.int .i64 (.a 7)), (.int .i64 (.a 8)), (.int .i64 (.a 9)), (.int .i64 (.a 10))] 42 false)], ni := 11, nb := 0, nv := 1, nj := 49 },
 { todo := [(.code [false, false, true, false, false, true, false, false, true, false, true, true, true]), (.inLoop [false, false, true, false, false, true, false, false, true, false, true, true, true]), (.inBlock 2), (.inBlock 1), (.code [true, true, false, false, true, false, true, true, true]), (.inLoop [false, false, true, false, true, true, true]), (.inBlock 0), (.code [true, true, true, true])], sl := [(.va 0), (.int .i64 (.a 0)), (.junk 0), .undef, .undef, (.ptr 0 0), (.junk 1), (.junk 2), (.junk 3), (.int .i64 (.a 1)), (.int .i64 (.a 2)), (.int .i64 (.a 3)), (.int .i64 (.a 4)), (.int .i64 (.a 5)), (.junk 4), (.junk 5), (.junk 6), (.junk 7), (.junk 8), (.junk 9), (.junk 10), (.junk 11), (.junk 12), (.junk 13), (.junk 14), (.junk 15), (.junk 16), (.junk 17), (.junk 18), (.junk 19), (.junk 20), (.junk 21), (.junk 22), (.junk 23), (.junk 24), (.junk 25), (.junk 26), (.junk 27), (.junk 28), (.junk 29), (.junk 30), (.junk 31), (.junk 32), (.junk 33), (.junk 34), (.junk 35), (.junk 36), (.junk 37), (.junk 38), (.junk 39), (.junk 40), (.junk 41), (.junk 42), (.junk 43), (.junk 44), (.junk 45), (.junk 46), (.junk 47), .undef, .undef, .undef], H := [(.cells [(.int .i64 (.a 6)), (.int .i64 (.a 7)), (.int .i64 (.a 8)), (.int .i64 (.a 9)), (.int .i64 (.a 10)), (.int .i64 (.a 11))] 42 false)], ni := 12, nb := 0, nv := 1, nj := 48 }]
theorem saleroomref08_Sums_ok : SysOk Try.prog 66 saleroomref08_Sums_S := sys_ok (c := (cg [[false, false, true, false, true, true, true], [false, false, true, false, false, true, false, false, true, false, true, true, true]] [] [] false false false true)) (progOkG _ _ _ _ _ _ _ _) Try.func66 Try.call66 (by kernel_rfl) saleroomref08_Sums_pats saleroomref08_Sums_S 5000 rfl (by kernel_rfl) (by kernel_rfl) rfl
def catalog_Points_1_s : PT :=
 (.ret false (.int .i64 (.a 2)) [])
def catalog_Points_1_S : Sx.Sys := ⟨[(.sh (.agg [.val, (.int .i64), (.int .i64), (.int .i64), (.int .i64)]))], catalog_Points_1_s, [], none⟩
def catalog_Points_1_pats : List Cfg := []
theorem catalog_Points_1_ok : SysOk Try.prog 74 catalog_Points_1_S := sys_ok (c := (cg [] [] [] false false false true)) (progOkG _ _ _ _ _ _ _ _) Try.func74 Try.call74 (by kernel_rfl) catalog_Points_1_pats catalog_Points_1_S 5000 rfl (by kernel_rfl) (by kernel_rfl) rfl
def bundle_following_s : PT :=
 (.ite (.lt (.a 5) (.a 11))
  (.need (.and (.le (.l (-9223372036854775808)) (.add (.a 5) (.l 1))) (.le (.add (.a 5) (.l 1)) (.l 9223372036854775807)))
  (.ret false (.agg [(.int .i64 (.a 0)), (.int .i64 (.a 1)), (.int .i64 (.a 2)), (.int .i64 (.a 3)), (.int .i64 (.a 4)), (.int .i64 (.add (.a 5) (.l 1)))]) []))
  (.ite (.lt (.a 4) (.a 10))
   (.need (.and (.le (.l (-9223372036854775808)) (.add (.a 4) (.l 1))) (.le (.add (.a 4) (.l 1)) (.l 9223372036854775807)))
   (.ret false (.agg [(.int .i64 (.a 0)), (.int .i64 (.a 1)), (.int .i64 (.a 2)), (.int .i64 (.a 3)), (.int .i64 (.add (.a 4) (.l 1))), (.int .i64 (.l 0))]) []))
   (.ite (.lt (.a 3) (.a 9))
    (.need (.and (.le (.l (-9223372036854775808)) (.add (.a 3) (.l 1))) (.le (.add (.a 3) (.l 1)) (.l 9223372036854775807)))
    (.ret false (.agg [(.int .i64 (.a 0)), (.int .i64 (.a 1)), (.int .i64 (.a 2)), (.int .i64 (.add (.a 3) (.l 1))), (.int .i64 (.l 0)), (.int .i64 (.l 0))]) []))
    (.ite (.lt (.a 2) (.a 8))
     (.need (.and (.le (.l (-9223372036854775808)) (.add (.a 2) (.l 1))) (.le (.add (.a 2) (.l 1)) (.l 9223372036854775807)))
     (.ret false (.agg [(.int .i64 (.a 0)), (.int .i64 (.a 1)), (.int .i64 (.add (.a 2) (.l 1))), (.int .i64 (.l 0)), (.int .i64 (.l 0)), (.int .i64 (.l 0))]) []))
     (.ite (.lt (.a 1) (.a 7))
      (.need (.and (.le (.l (-9223372036854775808)) (.add (.a 1) (.l 1))) (.le (.add (.a 1) (.l 1)) (.l 9223372036854775807)))
      (.ret false (.agg [(.int .i64 (.a 0)), (.int .i64 (.add (.a 1) (.l 1))), (.int .i64 (.l 0)), (.int .i64 (.l 0)), (.int .i64 (.l 0)), (.int .i64 (.l 0))]) []))
      (.ite (.lt (.a 0) (.a 6))
       (.need (.and (.le (.l (-9223372036854775808)) (.add (.a 0) (.l 1))) (.le (.add (.a 0) (.l 1)) (.l 9223372036854775807)))
       (.ret false (.agg [(.int .i64 (.add (.a 0) (.l 1))), (.int .i64 (.l 0)), (.int .i64 (.l 0)), (.int .i64 (.l 0)), (.int .i64 (.l 0)), (.int .i64 (.l 0))]) []))
       (.ret false (.agg [(.int .i64 (.l 0)), (.int .i64 (.l 0)), (.int .i64 (.l 0)), (.int .i64 (.l 0)), (.int .i64 (.l 0)), (.int .i64 (.l 0))]) [])))))))
def bundle_following_S : Sx.Sys := ⟨[(.sh (.agg [(.int .i64), (.int .i64), (.int .i64), (.int .i64), (.int .i64), (.int .i64)])), (.sh (.agg [(.int .i64), (.int .i64), (.int .i64), (.int .i64), (.int .i64), (.int .i64)]))], bundle_following_s, [], none⟩
def bundle_following_pats : List Cfg := []
theorem bundle_following_ok : SysOk Try.prog 82 bundle_following_S := sys_ok (c := (cg [] [] [] false false false true)) (progOkG _ _ _ _ _ _ _ _) Try.func82 Try.call82 (by kernel_rfl) bundle_following_pats bundle_following_S 5000 rfl (by kernel_rfl) (by kernel_rfl) rfl
def lexer_inner_s : PT :=
 (.call 88 [(.int .i32 (.a 0))] [] [(.one .bool)]
 (.ite (.a 0)
  (.ret false (.bool (.t true)) [])
  (.call 91 [(.int .i32 (.a 0))] [] [(.one .bool)]
  (.ite (.a 1)
   (.ret false (.bool (.t true)) [])
   (.ret false (.bool (.eq (.a 0) (.l 95))) [])))))
def lexer_inner_S : Sx.Sys := ⟨[(.sh (.one (.int .i32)))], lexer_inner_s, [], none⟩
def lexer_inner_pats : List Cfg := []
theorem lexer_inner_ok : SysOk Try.prog 90 lexer_inner_S := sys_ok (c := (cg [] [] [] false false false true)) (progOkG _ _ _ _ _ _ _ _) Try.func90 Try.call90 (by kernel_rfl) lexer_inner_pats lexer_inner_S 5000 rfl (by kernel_rfl) (by kernel_rfl) rfl
end Go.Proofs.Ythjahianafohjaa
set_option maxRecDepth 100000
namespace Go.Proofs.Ythjahianafohjaa
open Go.Sx
def saleroomlaw37_ActivityFunds_s : PT :=
 (.call 22 [(.agg [(.va 0), (.va 1), (.va 2), (.va 3)])] [] [(.one .bool)]
 (.ite (.not (.a 0))
  (.call 24 [] [] [(.one .bool)]
  (.ret false (.bool (.a 1)) []))
  (.app none (.lit [[(.int .i64 (.a 1)), (.int .i64 (.a 2)), (.int .i64 (.a 3)), (.int .i64 (.a 4)), (.int .i64 (.a 5)), (.int .i64 (.a 6)), (.int .i64 (.a 7)), (.int .i64 (.a 8)), (.int .i64 (.a 9)), (.int .i64 (.a 10)), (.int .i64 (.a 11)), (.int .i64 (.a 12))]]) 12
  (.call 23 [(.va 4)] [] [(.one .bool)]
  (.ite (.not (.a 1))
   (.call 24 [] [] [(.one .bool)]
   (.ret false (.bool (.a 2)) []))
   (.call 31 [(.agg [(.va 0), (.va 1), (.va 2), (.va 3)]), (.int .i64 (.a 0)), (.agg [(.int .i64 (.a 1)), (.int .i64 (.a 2)), (.int .i64 (.a 3)), (.int .i64 (.a 4)), (.int .i64 (.a 5)), (.int .i64 (.a 6)), (.int .i64 (.a 7)), (.int .i64 (.a 8)), (.int .i64 (.a 9)), (.int .i64 (.a 10)), (.int .i64 (.a 11)), (.int .i64 (.a 12))])] [] [(.one (.int .i64))]
   (.call 32 [(.agg [(.va 0), (.va 1), (.va 2), (.va 3)]), (.int .i64 (.a 0)), (.agg [(.int .i64 (.a 1)), (.int .i64 (.a 2)), (.int .i64 (.a 3)), (.int .i64 (.a 4)), (.int .i64 (.a 5)), (.int .i64 (.a 6)), (.int .i64 (.a 7)), (.int .i64 (.a 8)), (.int .i64 (.a 9)), (.int .i64 (.a 10)), (.int .i64 (.a 11)), (.int .i64 (.a 12))])] [] [(.one (.int .i64))]
   (.ite (.eq (.a 13) (.a 14))
    (.call 24 [] [] [(.one .bool)]
    (.ret false (.bool (.a 2)) []))
    (.ret false (.bool (.t false)) [])))))))))
def saleroomlaw37_ActivityFunds_S : Sx.Sys := ⟨[(.sh (.agg [.val, .val, .val, .val])), (.sh (.one (.int .i64))), (.sh (.agg [(.int .i64), (.int .i64), (.int .i64), (.int .i64), (.int .i64), (.int .i64), (.int .i64), (.int .i64), (.int .i64), (.int .i64), (.int .i64), (.int .i64)]))], saleroomlaw37_ActivityFunds_s, [], none⟩
def saleroomlaw37_ActivityFunds_pats : List Cfg := []
theorem saleroomlaw37_ActivityFunds_ok : SysOk Try.prog 10 saleroomlaw37_ActivityFunds_S := sys_ok (c := (cg [] [] [] false false false true)) (progOkG _ _ _ _ _ _ _ _) Try.func10 Try.call10 (by kernel_rfl) saleroomlaw37_ActivityFunds_pats saleroomlaw37_ActivityFunds_S 5000 rfl (by kernel_rfl) (by kernel_rfl) rfl
def saleroomref36_Verify_s : PT :=
 (.call 17 [(.va 0)] [] [(.one .bool)]
 (.ite (.not (.a 0))
  (.ret false (.int .i64 (.l 4)) [])
  (.need (.is 0 1)
  (.ite (.lt (.l 0) (.slen 1))
   (.need (.is 0 2)
   (.ite (.lt (.l 0) (.slen 2))
    (.ret false (.int .i64 (.l 2)) [])
    (.need (.is 0 1)
    (.ite (.lt (.l 1000) (.slen 1))
     (.ret false (.int .i64 (.l 2)) [])
     (.jump 0 [(.l 0)] [] [(.va 0), (.va 1), (.va 2)])))))
   (.need (.is 0 1)
   (.ite (.lt (.l 1000) (.slen 1))
    (.ret false (.int .i64 (.l 2)) [])
    (.jump 0 [(.l 0)] [] [(.va 0), (.va 1), (.va 2)])))))))
def saleroomref36_Verify_t0 : PT :=
 (.need (.is 0 1)
 (.ite (.lt (.a 0) (.slen 1))
  (.need (.and (.le (.l 0) (.a 0)) (.lt (.a 0) (.slen 1)))
  (.load false (.ea 1 (.a 0) 1 0) [(.int .i64)]
  (.ite (.lt (.a 1) (.l 0))
   (.ret false (.int .i64 (.l 2)) [])
   (.need (.and (.le (.l 0) (.a 0)) (.lt (.a 0) (.slen 1)))
   (.load false (.ea 1 (.a 0) 1 0) [(.int .i64)]
   (.need (.is 0 0)
   (.ite (.le (.slen 0) (.a 2))
    (.ret false (.int .i64 (.l 2)) [])
    (.need (.and (.le (.l (-9223372036854775808)) (.add (.a 0) (.l 1))) (.le (.add (.a 0) (.l 1)) (.l 9223372036854775807)))
    (.jump 0 [(.add (.a 0) (.l 1))] [] [(.va 0), (.va 1), (.va 2)])))))))))
  (.jump 1 [(.l 0)] [] [(.va 0), (.va 1), (.va 2)])))
def saleroomref36_Verify_t1 : PT :=
 (.need (.is 0 2)
 (.ite (.lt (.a 0) (.slen 2))
  (.need (.and (.le (.l 0) (.a 0)) (.lt (.a 0) (.slen 2)))
  (.load false (.ea 2 (.a 0) 1 0) [(.int .i64)]
  (.ite (.lt (.a 1) (.l (-1099511627776)))
   (.ret false (.int .i64 (.l 2)) [])
   (.need (.and (.le (.l 0) (.a 0)) (.lt (.a 0) (.slen 2)))
   (.load false (.ea 2 (.a 0) 1 0) [(.int .i64)]
   (.ite (.lt (.l 1099511627776) (.a 2))
    (.ret false (.int .i64 (.l 2)) [])
    (.need (.and (.le (.l (-9223372036854775808)) (.add (.a 0) (.l 1))) (.le (.add (.a 0) (.l 1)) (.l 9223372036854775807)))
    (.jump 1 [(.add (.a 0) (.l 1))] [] [(.va 0), (.va 1), (.va 2)]))))))))
  (.need (.is 0 1)
  (.ite (.lt (.l 0) (.slen 1))
   (.jump 2 [(.l 0), (.l 0)] [] [(.va 0), (.va 1), (.va 2)])
   (.call 45 [(.va 0), (.va 2)] [] [(.one .bool)]
   (.ite (.not (.a 0))
    (.ret false (.int .i64 (.l 13)) [])
    (.ret false (.int .i64 (.l 0)) [])))))))
def saleroomref36_Verify_t2 : PT :=
 (.need (.is 0 1)
 (.ite (.lt (.a 1) (.slen 1))
  (.need (.and (.le (.l 0) (.a 1)) (.lt (.a 1) (.slen 1)))
  (.need (.and (.le (.l (-9223372036854775808)) (.add (.a 1) (.l 1))) (.le (.add (.a 1) (.l 1)) (.l 9223372036854775807)))
  (.need (.is 0 1)
  (.need (.not (.eq (.slen 1) (.l 0)))
  (.need (.and (.le (.l 0) (.tmod (.add (.a 1) (.l 1)) (.slen 1))) (.lt (.tmod (.add (.a 1) (.l 1)) (.slen 1)) (.slen 1)))
  (.load true (.ea 1 (.a 1) 1 0) [(.int .i64)]
  (.need (.and (.le (.l 0) (.a 2)) (.lt (.a 2) (.slen 0)))
  (.load true (.ea 0 (.a 2) 12 0) [(.int .i64), (.int .i64), (.int .i64), (.int .i64), (.int .i64), (.int .i64), (.int .i64), (.int .i64), (.int .i64), (.int .i64), (.int .i64), (.int .i64)]
  (.load true (.ea 1 (.tmod (.add (.a 1) (.l 1)) (.slen 1)) 1 0) [(.int .i64)]
  (.need (.and (.le (.l 0) (.a 15)) (.lt (.a 15) (.slen 0)))
  (.load true (.ea 0 (.a 15) 12 0) [(.int .i64), (.int .i64), (.int .i64), (.int .i64), (.int .i64), (.int .i64), (.int .i64), (.int .i64), (.int .i64), (.int .i64), (.int .i64), (.int .i64)]
  (.call 21 [(.agg [(.int .i64 (.a 3)), (.int .i64 (.a 4)), (.int .i64 (.a 5)), (.int .i64 (.a 6)), (.int .i64 (.a 7)), (.int .i64 (.a 8)), (.int .i64 (.a 9)), (.int .i64 (.a 10)), (.int .i64 (.a 11)), (.int .i64 (.a 12)), (.int .i64 (.a 13)), (.int .i64 (.a 14))]), (.agg [(.int .i64 (.a 16)), (.int .i64 (.a 17)), (.int .i64 (.a 18)), (.int .i64 (.a 19)), (.int .i64 (.a 20)), (.int .i64 (.a 21)), (.int .i64 (.a 22)), (.int .i64 (.a 23)), (.int .i64 (.a 24)), (.int .i64 (.a 25)), (.int .i64 (.a 26)), (.int .i64 (.a 27))])] [] [(.one (.int .i64))]
  (.need (.and (.le (.l (-9223372036854775808)) (.add (.a 0) (.a 28))) (.le (.add (.a 0) (.a 28)) (.l 9223372036854775807)))
  (.need (.and (.le (.l (-9223372036854775808)) (.add (.a 1) (.l 1))) (.le (.add (.a 1) (.l 1)) (.l 9223372036854775807)))
  (.jump 2 [(.add (.a 0) (.a 28)), (.add (.a 1) (.l 1))] [] [(.va 0), (.va 1), (.va 2)])))))))))))))))
  (.ite (.le (.l 0) (.a 0))
   (.ret false (.int .i64 (.l 13)) [])
   (.ret false (.int .i64 (.l 0)) []))))
def saleroomref36_Verify_S : Sx.Sys := ⟨[(.sh (.one .val)), (.sh (.agg [.val, .val]))], saleroomref36_Verify_s, [saleroomref36_Verify_t0, saleroomref36_Verify_t1, saleroomref36_Verify_t2], none⟩
def saleroomref36_Verify_pats : List Cfg := [{ todo := [(.code [false, false, true, false, true, true, true]), (.inLoop [false, false, true, false, true, true, true]), (.inBlock 0), (.code [true, true, true, true])], sl := [(.va 0), (.junk 0), .undef, (.ptr 0 0), (.junk 1), (.int .i64 (.a 0)), .undef, .undef, .undef, (.junk 2), (.junk 3), (.junk 4), (.junk 5), (.junk 6), (.junk 7), (.junk 8), (.junk 9), (.junk 10), (.junk 11), (.junk 12), (.junk 13), (.junk 14), (.junk 15), (.junk 16), (.junk 17), (.junk 18), (.junk 19), (.junk 20), (.junk 21), (.junk 22), (.junk 23), (.junk 24), (.junk 25), (.junk 26), (.junk 27), (.junk 28), (.junk 29), (.junk 30), (.junk 31), (.junk 32), (.junk 33), (.junk 34), (.junk 35), (.junk 36), (.junk 37), (.junk 38), (.junk 39), (.junk 40), (.junk 41), (.junk 42), (.junk 43), .undef, .undef, .undef, .undef, .undef, .undef, .undef, .undef, .undef, .undef, .undef, .undef, .undef, .undef, .undef, .undef, .undef, .undef, .undef, .undef, .undef, .undef, .undef, .undef, .undef, .undef, .undef, .undef, .undef, .undef, .undef, .undef, .undef, .undef, .undef, .undef, .undef, .undef, .undef, .undef, .undef, .undef, .undef, .undef, .undef, .undef, .undef, .undef, .undef, .undef, .undef, .undef, .undef, .undef, .undef, .undef, .undef, .undef, .undef, .undef, .undef, .undef, .undef], H := [(.cells [(.va 1), (.va 2)] 30 false)], ni := 1, nb := 0, nv := 3, nj := 44 },
 { todo := [(.code [false, false, true, false, true, true, true, true]), (.inLoop [false, false, true, false, true, true, true, true]), (.inBlock 2), (.code [true, true, true, true, true])], sl := [(.va 0), (.junk 0), .undef, (.ptr 0 0), (.junk 1), (.junk 2), (.int .i64 (.a 0)), .undef, .undef, (.junk 3), (.junk 4), (.junk 5), (.junk 6), (.junk 7), (.junk 8), (.junk 9), (.junk 10), (.junk 11), (.junk 12), (.junk 13), (.junk 14), (.junk 15), (.junk 16), (.junk 17), (.junk 18), (.junk 19), (.junk 20), (.junk 21), (.junk 22), (.junk 23), (.junk 24), (.junk 25), (.junk 26), (.junk 27), (.junk 28), (.junk 29), (.junk 30), (.junk 31), (.junk 32), (.junk 33), (.junk 34), (.junk 35), (.junk 36), (.junk 37), (.junk 38), (.junk 39), (.junk 40), (.junk 41), (.junk 42), (.junk 43), (.junk 44), (.junk 45), (.junk 46), (.junk 47), (.junk 48), (.junk 49), (.junk 50), (.junk 51), (.junk 52), (.junk 53), (.junk 54), (.junk 55), (.junk 56), (.junk 57), (.junk 58), (.junk 59), (.junk 60), (.junk 61), (.junk 62), (.junk 63), (.junk 64), (.junk 65), .undef, .undef, .undef, .undef, .undef, .undef, .undef, .undef, .undef, .undef, .undef, .undef, .undef, .undef, .undef, .undef, .undef, .undef, .undef, .undef, .undef, .undef, .undef, .undef, .undef, .undef, .undef, .undef, .undef, .undef, .undef, .undef, .undef, .undef, .undef, .undef, .undef, .undef, .undef, .undef, .undef, .undef], H := [(.cells [(.va 1), (.va 2)] 30 false)], ni := 1, nb := 0, nv := 3, nj := 66 },
 { todo := [(.code [false, false, true, false, true, false, true, false, true, true, true, true, true]), (.inLoop [false, false, true, false, true, false, true, false, true, true, true, true, true]), (.inBlock 4), (.code [true, true, false, true, false, true, true, true, true, true]), (.code [true, true, true, true, true, true])], sl := [(.va 0), (.junk 0), .undef, (.ptr 0 0), (.junk 1), (.junk 2), (.junk 3), (.int .i64 (.a 0)), (.int .i64 (.a 1)), (.junk 4), (.junk 5), (.junk 6), (.junk 7), (.junk 8), (.junk 9), (.junk 10), (.junk 11), (.junk 12), (.junk 13), (.junk 14), (.junk 15), (.junk 16), (.junk 17), (.junk 18), (.junk 19), (.junk 20), (.junk 21), (.junk 22), (.junk 23), (.junk 24), (.junk 25), (.junk 26), (.junk 27), (.junk 28), (.junk 29), (.junk 30), (.junk 31), (.junk 32), (.junk 33), (.junk 34), (.junk 35), (.junk 36), (.junk 37), (.junk 38), (.junk 39), (.junk 40), (.junk 41), (.junk 42), (.junk 43), (.junk 44), (.junk 45), (.junk 46), (.junk 47), (.junk 48), (.junk 49), (.junk 50), (.junk 51), (.junk 52), (.junk 53), (.junk 54), (.junk 55), (.junk 56), (.junk 57), (.junk 58), (.junk 59), (.junk 60), (.junk 61), (.junk 62), (.junk 63), (.junk 64), (.junk 65), (.junk 66), (.junk 67), (.junk 68), (.junk 69), (.junk 70), (.junk 71), (.junk 72), (.junk 73), (.junk 74), (.junk 75), (.junk 76), (.junk 77), (.junk 78), (.junk 79), (.junk 80), (.junk 81), (.junk 82), (.junk 83), (.junk 84), (.junk 85), (.junk 86), (.junk 87), (.junk 88), (.junk 89), (.junk 90), (.junk 91), (.junk 92), (.junk 93), (.junk 94), (.junk 95), (.junk 96), (.junk 97), (.junk 98), (.junk 99), (.junk 100), (.junk 101), .undef, .undef, .undef, .undef, .undef, .undef, .undef], H := [(.cells [(.va 1), (.va 2)] 30 false)], ni := 2, nb := 0, nv := 3, nj := 102 }]
theorem saleroomref36_Verify_ok : SysOk Try.prog 18 saleroomref36_Verify_S := sys_ok (c := (cg [[false, false, true, false, true, true, true], [false, false, true, false, true, true, true, true], [false, false, true, false, true, false, true, false, true, true, true, true, true]] [] [] false false false true)) (progOkG _ _ _ _ _ _ _ _) Try.func18 Try.call18 (by kernel_rfl) saleroomref36_Verify_pats saleroomref36_Verify_S 5000 rfl (by kernel_rfl) (by kernel_rfl) rfl
def saleroomref37_Accept_s_b1 : PT :=
 (.app (some 5) (.va 4) 12
           (.app none (.lit [[(.int .i64 (.a 2)), (.int .i64 (.a 3)), (.int .i64 (.a 4)), (.int .i64 (.a 5)), (.int .i64 (.a 6)), (.int .i64 (.a 7)), (.int .i64 (.a 8)), (.int .i64 (.a 9)), (.int .i64 (.a 10)), (.int .i64 (.a 11)), (.int .i64 (.a 12)), (.int .i64 (.a 13))]]) 12
           (.app (some 6) (.va 7) 12
           (.call 36 [(.va 8)] [] [(.one .bool)]
           (.ite (.a 2)
            (.ret false (.int .i64 (.l 0)) [])
            (.ret false (.int .i64 (.l 15)) []))))))
def saleroomref37_Accept_s_b2 : PT :=
 (.app none (.lit [[(.int .i64 (.a 2)), (.int .i64 (.a 3)), (.int .i64 (.a 4)), (.int .i64 (.a 5)), (.int .i64 (.a 6)), (.int .i64 (.a 7)), (.int .i64 (.a 8)), (.int .i64 (.a 9)), (.int .i64 (.a 10)), (.int .i64 (.a 11)), (.int .i64 (.a 12)), (.int .i64 (.a 13))]]) 12
           (.app (some 5) (.va 4) 12
           (.app (some 7) (.va 6) 12
           (.call 36 [(.va 8)] [] [(.one .bool)]
           (.ite (.a 2)
            (.ret false (.int .i64 (.l 0)) [])
            (.ret false (.int .i64 (.l 15)) []))))))
def saleroomref37_Accept_s_b3 : PT :=
 (.app none (.lit []) 12
          (.both saleroomref37_Accept_s_b1 saleroomref37_Accept_s_b2))
def saleroomref37_Accept_s_b4 : PT :=
 (.app none (.lit [[(.int .i64 (.a 2)), (.int .i64 (.a 3)), (.int .i64 (.a 4)), (.int .i64 (.a 5)), (.int .i64 (.a 6)), (.int .i64 (.a 7)), (.int .i64 (.a 8)), (.int .i64 (.a 9)), (.int .i64 (.a 10)), (.int .i64 (.a 11)), (.int .i64 (.a 12)), (.int .i64 (.a 13))]]) 12
          (.app none (.lit []) 12
          (.app (some 6) (.va 4) 12
          (.app (some 7) (.va 5) 12
          (.call 36 [(.va 8)] [] [(.one .bool)]
          (.ite (.a 2)
           (.ret false (.int .i64 (.l 0)) [])
           (.ret false (.int .i64 (.l 15)) [])))))))
def saleroomref37_Accept_s_b5 : PT :=
 (.app (some 5) (.va 4) 12
          (.app none (.lit [[(.int .i64 (.a 2)), (.int .i64 (.a 3)), (.int .i64 (.a 4)), (.int .i64 (.a 5)), (.int .i64 (.a 6)), (.int .i64 (.a 7)), (.int .i64 (.a 8)), (.int .i64 (.a 9)), (.int .i64 (.a 10)), (.int .i64 (.a 11)), (.int .i64 (.a 12)), (.int .i64 (.a 13))]]) 12
          (.app (some 6) (.va 7) 12
          (.call 36 [(.va 8)] [] [(.one .bool)]
          (.ite (.a 2)
           (.ret false (.int .i64 (.l 0)) [])
           (.ret false (.int .i64 (.l 15)) []))))))
def saleroomref37_Accept_s_b6 : PT :=
 (.app none (.lit [[(.int .i64 (.a 2)), (.int .i64 (.a 3)), (.int .i64 (.a 4)), (.int .i64 (.a 5)), (.int .i64 (.a 6)), (.int .i64 (.a 7)), (.int .i64 (.a 8)), (.int .i64 (.a 9)), (.int .i64 (.a 10)), (.int .i64 (.a 11)), (.int .i64 (.a 12)), (.int .i64 (.a 13))]]) 12
          (.app (some 5) (.va 4) 12
          (.app (some 7) (.va 6) 12
          (.call 36 [(.va 8)] [] [(.one .bool)]
          (.ite (.a 2)
           (.ret false (.int .i64 (.l 0)) [])
           (.ret false (.int .i64 (.l 15)) []))))))
def saleroomref37_Accept_s_b7 : PT :=
 (.app none (.lit []) 12
         (.both saleroomref37_Accept_s_b5 saleroomref37_Accept_s_b6))
def saleroomref37_Accept_s_b8 : PT :=
 (.app none (.lit [[(.int .i64 (.a 2)), (.int .i64 (.a 3)), (.int .i64 (.a 4)), (.int .i64 (.a 5)), (.int .i64 (.a 6)), (.int .i64 (.a 7)), (.int .i64 (.a 8)), (.int .i64 (.a 9)), (.int .i64 (.a 10)), (.int .i64 (.a 11)), (.int .i64 (.a 12)), (.int .i64 (.a 13))]]) 12
         (.app none (.lit []) 12
         (.app (some 6) (.va 4) 12
         (.app (some 7) (.va 5) 12
         (.call 36 [(.va 8)] [] [(.one .bool)]
         (.ite (.a 2)
          (.ret false (.int .i64 (.l 0)) [])
          (.ret false (.int .i64 (.l 15)) [])))))))
def saleroomref37_Accept_s : PT :=
 (.ite (.lt (.a 0) (.l 1))
  (.ret false (.int .i64 (.l 4)) [])
  (.ite (.lt (.l 3) (.a 0))
   (.ret false (.int .i64 (.l 4)) [])
   (.call 57 [(.agg [(.va 0), (.va 1), (.va 2), (.va 3)]), (.int .i64 (.a 1))] [] [(.one .bool)]
   (.ite (.not (.a 0))
    (.ret false (.int .i64 (.l 6)) [])
    (.call 35 [(.agg [(.int .i64 (.a 8)), (.int .i64 (.a 9)), (.int .i64 (.a 10)), (.int .i64 (.a 11)), (.int .i64 (.a 12)), (.int .i64 (.a 13))])] [] [(.one (.int .i64))]
    (.ite (.not (.eq (.a 14) (.l 0)))
     (.ret false (.int .i64 (.a 14)) [])
     (.call 30 [(.va 4)] [] [(.one .bool)]
     (.ite (.a 1)
      (.ite (.and (.eq (.a 8) (.l 0)) (.and (.eq (.a 9) (.l 0)) (.and (.eq (.a 10) (.l 0)) (.and (.eq (.a 11) (.l 0)) (.and (.eq (.a 12) (.l 0)) (.eq (.a 13) (.l 0)))))))
       (.ret false (.int .i64 (.l 0)) [])
       (.ret false (.int .i64 (.l 15)) []))
      (.ite (.not (.eq (.a 0) (.l 2)))
       (.call 58 [(.agg [(.va 0), (.va 1), (.va 2), (.va 3)]), (.agg [(.int .i64 (.a 8)), (.int .i64 (.a 9)), (.int .i64 (.a 10)), (.int .i64 (.a 11)), (.int .i64 (.a 12)), (.int .i64 (.a 13))])] [] [(.one (.int .i64))]
       (.call 28 [(.agg [(.va 0), (.va 1), (.va 2), (.va 3)]), (.int .i64 (.a 1)), (.va 4)] [] [(.one (.int .i64))]
       (.ite (.le (.a 15) (.a 16))
        (.ret false (.int .i64 (.l 0)) [])
        (.ite (.not (.eq (.a 0) (.l 1)))
         (.both saleroomref37_Accept_s_b3 saleroomref37_Accept_s_b4)
         (.ret false (.int .i64 (.l 15)) [])))))
       (.ite (.not (.eq (.a 0) (.l 1)))
        (.both saleroomref37_Accept_s_b7 saleroomref37_Accept_s_b8)
        (.ret false (.int .i64 (.l 15)) [])))))))))))
def saleroomref37_Accept_S : Sx.Sys := ⟨[(.sh (.agg [.val, .val, .val, .val])), (.sh (.one (.int .i64))), (.sh (.one (.int .i64))), (.sh (.one .val)), (.sh (.agg [(.int .i64), (.int .i64), (.int .i64), (.int .i64), (.int .i64), (.int .i64), (.int .i64), (.int .i64), (.int .i64), (.int .i64), (.int .i64), (.int .i64)]))], saleroomref37_Accept_s, [], none⟩
def saleroomref37_Accept_pats : List Cfg := []
theorem saleroomref37_Accept_ok : SysOk Try.prog 26 saleroomref37_Accept_S := sys_ok (c := (cg [] [] [] false false false true)) (progOkG _ _ _ _ _ _ _ _) Try.func26 Try.call26 (by kernel_rfl) saleroomref37_Accept_pats saleroomref37_Accept_S 5000 rfl (by kernel_rfl) (by kernel_rfl) rfl
def saleroomlaw37_demand_s : PT :=
 (.jump 0 [(.l 0), (.l 0), (.a 0), (.a 1), (.a 2), (.a 3), (.a 4), (.a 5), (.l 0), (.l 0)] [] [(.va 0)])
def saleroomlaw37_demand_t0 : PT :=
 (.ite (.lt (.a 1) (.l 4))
  (.jump 1 [(.a 0), (.a 1), (.l 0), (.a 2), (.a 3), (.a 4), (.a 5), (.a 6), (.a 7), (.a 8), (.a 9)] [] [(.va 0)])
  (.ret false (.agg [(.int .i64 (.a 8)), (.int .i64 (.a 9)), (.int .i64 (.l 0)), (.int .i64 (.l 0)), (.int .i64 (.l 0)), (.int .i64 (.l 0))]) []))
def saleroomlaw37_demand_t1 : PT :=
 (.ite (.lt (.a 2) (.l 4))
  (.need (.and (.le (.l (-9223372036854775808)) (.add (.a 1) (.a 2))) (.le (.add (.a 1) (.a 2)) (.l 9223372036854775807)))
  (.ite (.eq (.add (.a 1) (.a 2)) (.l 0))
   (.need (.and (.le (.l (-9223372036854775808)) (.add (.a 2) (.l 1))) (.le (.add (.a 2) (.l 1)) (.l 9223372036854775807)))
   (.jump 1 [(.a 0), (.a 1), (.add (.a 2) (.l 1)), (.a 3), (.a 4), (.a 5), (.a 6), (.a 7), (.a 8), (.a 9), (.a 10)] [] [(.va 0)]))
   (.need (.and (.le (.l (-9223372036854775808)) (.mul (.l 4) (.a 1))) (.le (.mul (.l 4) (.a 1)) (.l 9223372036854775807)))
   (.need (.and (.le (.l (-9223372036854775808)) (.add (.mul (.l 4) (.a 1)) (.a 2))) (.le (.add (.mul (.l 4) (.a 1)) (.a 2)) (.l 9223372036854775807)))
   (.need (.is 0 0)
   (.ite (.le (.slen 0) (.add (.mul (.l 4) (.a 1)) (.a 2)))
    (.need (.and (.le (.l (-9223372036854775808)) (.add (.a 2) (.l 1))) (.le (.add (.a 2) (.l 1)) (.l 9223372036854775807)))
    (.jump 1 [(.a 0), (.a 1), (.add (.a 2) (.l 1)), (.a 3), (.a 4), (.a 5), (.a 6), (.a 7), (.a 8), (.a 9), (.a 10)] [] [(.va 0)]))
    (.need (.and (.le (.l (-9223372036854775808)) (.mul (.l 4) (.a 1))) (.le (.mul (.l 4) (.a 1)) (.l 9223372036854775807)))
    (.need (.and (.le (.l (-9223372036854775808)) (.add (.mul (.l 4) (.a 1)) (.a 2))) (.le (.add (.mul (.l 4) (.a 1)) (.a 2)) (.l 9223372036854775807)))
    (.need (.and (.le (.l 0) (.add (.mul (.l 4) (.a 1)) (.a 2))) (.lt (.add (.mul (.l 4) (.a 1)) (.a 2)) (.slen 0)))
    (.load false (.ea 0 (.add (.mul (.l 4) (.a 1)) (.a 2)) 1 0) [(.int .i64)]
    (.ite (.lt (.l 1000000) (.a 11))
     (.need (.and (.le (.l (-9223372036854775808)) (.add (.a 2) (.l 1))) (.le (.add (.a 2) (.l 1)) (.l 9223372036854775807)))
     (.jump 1 [(.a 0), (.a 1), (.add (.a 2) (.l 1)), (.a 3), (.a 4), (.a 5), (.a 6), (.a 7), (.a 8), (.a 9), (.a 10)] [] [(.va 0)]))
     (.need (.and (.le (.l (-9223372036854775808)) (.mul (.l 4) (.a 1))) (.le (.mul (.l 4) (.a 1)) (.l 9223372036854775807)))
     (.need (.and (.le (.l (-9223372036854775808)) (.add (.mul (.l 4) (.a 1)) (.a 2))) (.le (.add (.mul (.l 4) (.a 1)) (.a 2)) (.l 9223372036854775807)))
     (.need (.and (.le (.l 0) (.add (.mul (.l 4) (.a 1)) (.a 2))) (.lt (.add (.mul (.l 4) (.a 1)) (.a 2)) (.slen 0)))
     (.load false (.ea 0 (.add (.mul (.l 4) (.a 1)) (.a 2)) 1 0) [(.int .i64)]
     (.ite (.lt (.a 12) (.l 0))
      (.need (.and (.le (.l (-9223372036854775808)) (.add (.a 2) (.l 1))) (.le (.add (.a 2) (.l 1)) (.l 9223372036854775807)))
      (.jump 1 [(.a 0), (.a 1), (.add (.a 2) (.l 1)), (.a 3), (.a 4), (.a 5), (.a 6), (.a 7), (.a 8), (.a 9), (.a 10)] [] [(.va 0)]))
      (.need (.and (.le (.l (-9223372036854775808)) (.mul (.l 4) (.a 1))) (.le (.mul (.l 4) (.a 1)) (.l 9223372036854775807)))
      (.need (.and (.le (.l (-9223372036854775808)) (.add (.mul (.l 4) (.a 1)) (.a 2))) (.le (.add (.mul (.l 4) (.a 1)) (.a 2)) (.l 9223372036854775807)))
      (.need (.and (.le (.l 0) (.add (.mul (.l 4) (.a 1)) (.a 2))) (.lt (.add (.mul (.l 4) (.a 1)) (.a 2)) (.slen 0)))
      (.need (.and (.le (.l (-9223372036854775808)) (.mul (.a 1) (.a 3))) (.le (.mul (.a 1) (.a 3)) (.l 9223372036854775807)))
      (.need (.and (.le (.l (-9223372036854775808)) (.mul (.a 2) (.a 4))) (.le (.mul (.a 2) (.a 4)) (.l 9223372036854775807)))
      (.load true (.ea 0 (.add (.mul (.l 4) (.a 1)) (.a 2)) 1 0) [(.int .i64)]
      (.need (.and (.le (.l (-9223372036854775808)) (.sub (.a 13) (.mul (.a 1) (.a 3)))) (.le (.sub (.a 13) (.mul (.a 1) (.a 3))) (.l 9223372036854775807)))
      (.need (.and (.le (.l (-9223372036854775808)) (.sub (.sub (.a 13) (.mul (.a 1) (.a 3))) (.mul (.a 2) (.a 4)))) (.le (.sub (.sub (.a 13) (.mul (.a 1) (.a 3))) (.mul (.a 2) (.a 4))) (.l 9223372036854775807)))
      (.ite (.lt (.a 0) (.sub (.sub (.a 13) (.mul (.a 1) (.a 3))) (.mul (.a 2) (.a 4))))
       (.need (.and (.le (.l (-9223372036854775808)) (.add (.a 2) (.l 1))) (.le (.add (.a 2) (.l 1)) (.l 9223372036854775807)))
       (.jump 1 [(.sub (.sub (.a 13) (.mul (.a 1) (.a 3))) (.mul (.a 2) (.a 4))), (.a 1), (.add (.a 2) (.l 1)), (.a 3), (.a 4), (.a 5), (.a 6), (.a 7), (.a 8), (.a 1), (.a 2)] [] [(.va 0)]))
       (.need (.and (.le (.l (-9223372036854775808)) (.add (.a 2) (.l 1))) (.le (.add (.a 2) (.l 1)) (.l 9223372036854775807)))
       (.jump 1 [(.a 0), (.a 1), (.add (.a 2) (.l 1)), (.a 3), (.a 4), (.a 5), (.a 6), (.a 7), (.a 8), (.a 9), (.a 10)] [] [(.va 0)])))))))))))))))))))))))))))
  (.need (.and (.le (.l (-9223372036854775808)) (.add (.a 1) (.l 1))) (.le (.add (.a 1) (.l 1)) (.l 9223372036854775807)))
  (.jump 0 [(.a 0), (.add (.a 1) (.l 1)), (.a 3), (.a 4), (.a 5), (.a 6), (.a 7), (.a 8), (.a 9), (.a 10)] [] [(.va 0)])))
def saleroomlaw37_demand_S : Sx.Sys := ⟨[(.sh (.one .val)), (.sh (.agg [(.int .i64), (.int .i64), (.int .i64), (.int .i64), (.int .i64), (.int .i64)]))], saleroomlaw37_demand_s, [saleroomlaw37_demand_t0, saleroomlaw37_demand_t1], none⟩
def saleroomlaw37_demand_pats : List Cfg := [{ todo := [(.code [false, false, true, false, true, true, true]), (.inLoop [false, false, true, false, true, true, true]), (.inBlock 0), (.code [true, true, true, true])], sl := [(.va 0), (.junk 0), .undef, (.ptr 0 0), (.ptr 1 0), (.ptr 2 0), (.int .i64 (.a 0)), (.int .i64 (.a 1)), (.junk 1), (.junk 2), (.junk 3), (.junk 4), (.junk 5), (.junk 6), (.junk 7), (.junk 8), (.junk 9), (.junk 10), (.junk 11), (.junk 12), (.junk 13), (.junk 14), (.junk 15), (.junk 16), (.junk 17), (.junk 18), (.junk 19), (.junk 20), (.junk 21), (.junk 22), (.junk 23), (.junk 24), (.junk 25), (.junk 26), (.junk 27), (.junk 28), (.junk 29), (.junk 30), (.junk 31), (.junk 32), (.junk 33), (.junk 34), (.junk 35), (.junk 36), (.junk 37), (.junk 38), (.junk 39), (.junk 40), (.junk 41), (.junk 42), (.junk 43), (.junk 44), (.junk 45), (.junk 46), (.junk 47), (.junk 48), (.junk 49), (.junk 50), (.junk 51), (.junk 52), (.junk 53), (.junk 54), (.junk 55), (.junk 56), (.junk 57), (.junk 58), (.junk 59), (.junk 60), (.junk 61), (.junk 62), (.junk 63), (.junk 64), (.junk 65), (.junk 66), (.junk 67), .undef], H := [(.cells [(.int .i64 (.a 2)), (.int .i64 (.a 3)), (.int .i64 (.a 4)), (.int .i64 (.a 5)), (.int .i64 (.a 6)), (.int .i64 (.a 7))] 40 false), (.cells [(.int .i64 (.l 0)), (.int .i64 (.l 0)), (.int .i64 (.l 0)), (.int .i64 (.l 0)), (.int .i64 (.l 0)), (.int .i64 (.l 0))] 42 false), (.cells [(.int .i64 (.a 8)), (.int .i64 (.a 9)), (.int .i64 (.l 0)), (.int .i64 (.l 0)), (.int .i64 (.l 0)), (.int .i64 (.l 0))] 42 false)], ni := 10, nb := 0, nv := 1, nj := 68 },
 { todo := [(.code [false, false, true, false, false, true, false, false, true, false, true, true, true]), (.inLoop [false, false, true, false, false, true, false, false, true, false, true, true, true]), (.inBlock 2), (.inBlock 1), (.code [true, true, false, false, true, false, true, true, true]), (.inLoop [false, false, true, false, true, true, true]), (.inBlock 0), (.code [true, true, true, true])], sl := [(.va 0), (.junk 0), .undef, (.ptr 0 0), (.ptr 1 0), (.ptr 2 0), (.int .i64 (.a 0)), (.int .i64 (.a 1)), (.int .i64 (.a 2)), (.junk 1), (.junk 2), (.junk 3), (.junk 4), (.junk 5), (.junk 6), (.junk 7), (.junk 8), (.junk 9), (.junk 10), (.junk 11), (.junk 12), (.junk 13), (.junk 14), (.junk 15), (.junk 16), (.junk 17), (.junk 18), (.junk 19), (.junk 20), (.junk 21), (.junk 22), (.junk 23), (.junk 24), (.junk 25), (.junk 26), (.junk 27), (.junk 28), (.junk 29), (.junk 30), (.junk 31), (.junk 32), (.junk 33), (.junk 34), (.junk 35), (.junk 36), (.junk 37), (.junk 38), (.junk 39), (.junk 40), (.junk 41), (.junk 42), (.junk 43), (.junk 44), (.junk 45), (.junk 46), (.junk 47), (.junk 48), (.junk 49), (.junk 50), (.junk 51), (.junk 52), (.junk 53), (.junk 54), (.junk 55), (.junk 56), (.junk 57), (.junk 58), (.junk 59), (.junk 60), (.junk 61), (.junk 62), (.junk 63), (.junk 64), (.junk 65), (.junk 66), .undef], H := [(.cells [(.int .i64 (.a 3)), (.int .i64 (.a 4)), (.int .i64 (.a 5)), (.int .i64 (.a 6)), (.int .i64 (.a 7)), (.int .i64 (.a 8))] 40 false), (.cells [(.int .i64 (.l 0)), (.int .i64 (.l 0)), (.int .i64 (.l 0)), (.int .i64 (.l 0)), (.int .i64 (.l 0)), (.int .i64 (.l 0))] 42 false), (.cells [(.int .i64 (.a 9)), (.int .i64 (.a 10)), (.int .i64 (.l 0)), (.int .i64 (.l 0)), (.int .i64 (.l 0)), (.int .i64 (.l 0))] 42 false)], ni := 11, nb := 0, nv := 1, nj := 67 }]
theorem saleroomlaw37_demand_ok : SysOk Try.prog 34 saleroomlaw37_demand_S := sys_ok (c := (cg [[false, false, true, false, true, true, true], [false, false, true, false, false, true, false, false, true, false, true, true, true]] [] [] false false false true)) (progOkG _ _ _ _ _ _ _ _) Try.func34 Try.call34 (by kernel_rfl) saleroomlaw37_demand_pats saleroomlaw37_demand_S 5000 rfl (by kernel_rfl) (by kernel_rfl) rfl
def saleroomref36_Shortest_s : PT :=
 (.need (.is 0 0)
 (.jump 0 [(.slen 0), (.l 0)] [] [(.va 0), .nilS]))
def saleroomref36_Shortest_t0 : PT :=
 (.ite (.lt (.a 1) (.a 0))
  (.mkM (.a 0) [(.int .i64 (.l 0))] 2 1 8
  (.jump 1 [(.a 0), (.a 1), (.l 0)] [] [(.va 0), (.va 1), (.va 2)]))
  (.jump 2 [(.a 0), (.l 0)] [] [(.va 1)]))
def saleroomref36_Shortest_t1 : PT :=
 (.ite (.lt (.a 2) (.a 0))
  (.need (.and (.le (.l 0) (.a 1)) (.lt (.a 1) (.slen 0)))
  (.need (.and (.le (.l 0) (.a 2)) (.lt (.a 2) (.slen 0)))
  (.load true (.ea 0 (.a 1) 12 0) [(.int .i64), (.int .i64), (.int .i64), (.int .i64), (.int .i64), (.int .i64), (.int .i64), (.int .i64), (.int .i64), (.int .i64), (.int .i64), (.int .i64)]
  (.load true (.ea 0 (.a 2) 12 0) [(.int .i64), (.int .i64), (.int .i64), (.int .i64), (.int .i64), (.int .i64), (.int .i64), (.int .i64), (.int .i64), (.int .i64), (.int .i64), (.int .i64)]
  (.call 21 [(.agg [(.int .i64 (.a 3)), (.int .i64 (.a 4)), (.int .i64 (.a 5)), (.int .i64 (.a 6)), (.int .i64 (.a 7)), (.int .i64 (.a 8)), (.int .i64 (.a 9)), (.int .i64 (.a 10)), (.int .i64 (.a 11)), (.int .i64 (.a 12)), (.int .i64 (.a 13)), (.int .i64 (.a 14))]), (.agg [(.int .i64 (.a 15)), (.int .i64 (.a 16)), (.int .i64 (.a 17)), (.int .i64 (.a 18)), (.int .i64 (.a 19)), (.int .i64 (.a 20)), (.int .i64 (.a 21)), (.int .i64 (.a 22)), (.int .i64 (.a 23)), (.int .i64 (.a 24)), (.int .i64 (.a 25)), (.int .i64 (.a 26))])] [] [(.one (.int .i64))]
  (.need (.and (.le (.l 0) (.a 2)) (.lt (.a 2) (.slen 2)))
  (.storeM (.ea 2 (.a 2) 1 0) [(.int .i64 (.a 27))]
  (.need (.and (.le (.l (-9223372036854775808)) (.add (.a 2) (.l 1))) (.le (.add (.a 2) (.l 1)) (.l 9223372036854775807)))
  (.jump 1 [(.a 0), (.a 1), (.add (.a 2) (.l 1))] [] [(.va 0), (.va 1), (.va 2)])))))))))
  (.app none (.lit [[(.va 2)]]) 1
  (.app (some 1) (.va 3) 1
  (.need (.and (.le (.l (-9223372036854775808)) (.add (.a 1) (.l 1))) (.le (.add (.a 1) (.l 1)) (.l 9223372036854775807)))
  (.jump 0 [(.a 0), (.add (.a 1) (.l 1))] [] [(.va 0), (.va 4)])))))
def saleroomref36_Shortest_t2 : PT :=
 (.ite (.lt (.a 1) (.a 0))
  (.jump 3 [(.a 0), (.a 1), (.l 0)] [] [(.va 0)])
  (.ret false (.tup [(.va 0), (.bool (.t true))]) []))
def saleroomref36_Shortest_t3 : PT :=
 (.ite (.lt (.a 2) (.a 0))
  (.jump 4 [(.a 0), (.a 1), (.a 2), (.l 0)] [] [(.va 0)])
  (.jump 5 [(.a 0), (.a 1), (.l 0)] [] [(.va 0)]))
def saleroomref36_Shortest_t4 : PT :=
 (.ite (.lt (.a 3) (.a 0))
  (.need (.and (.le (.l 0) (.a 2)) (.lt (.a 2) (.slen 0)))
  (.need (.and (.le (.l 0) (.a 2)) (.lt (.a 2) (.slen 0)))
  (.need (.and (.le (.l 0) (.a 2)) (.lt (.a 2) (.slen 0)))
  (.need (.and (.le (.l 0) (.a 1)) (.lt (.a 1) (.slen 0)))
  (.load true (.ea 0 (.a 2) 1 0) [.val]
  (.load true (.ea 0 (.a 2) 1 0) [.val]
  (.need (.and (.le (.l 0) (.a 3)) (.lt (.a 3) (.slen 2)))
  (.load true (.ea 2 (.a 3) 1 0) [(.int .i64)]
  (.load true (.ea 0 (.a 2) 1 0) [.val]
  (.need (.and (.le (.l 0) (.a 1)) (.lt (.a 1) (.slen 3)))
  (.load true (.ea 3 (.a 1) 1 0) [(.int .i64)]
  (.load true (.ea 0 (.a 1) 1 0) [.val]
  (.need (.and (.le (.l 0) (.a 3)) (.lt (.a 3) (.slen 4)))
  (.load true (.ea 4 (.a 3) 1 0) [(.int .i64)]
  (.need (.and (.le (.l (-9223372036854775808)) (.add (.a 5) (.a 6))) (.le (.add (.a 5) (.a 6)) (.l 9223372036854775807)))
  (.need (.and (.le (.l 0) (.a 3)) (.lt (.a 3) (.slen 1)))
  (.storeM (.ea 1 (.a 3) 1 0) [(.int .i64 (.mn (.a 4) (.add (.a 5) (.a 6))))]
  (.need (.and (.le (.l (-9223372036854775808)) (.add (.a 3) (.l 1))) (.le (.add (.a 3) (.l 1)) (.l 9223372036854775807)))
  (.jump 4 [(.a 0), (.a 1), (.a 2), (.add (.a 3) (.l 1))] [] [(.va 0)])))))))))))))))))))
  (.need (.and (.le (.l (-9223372036854775808)) (.add (.a 2) (.l 1))) (.le (.add (.a 2) (.l 1)) (.l 9223372036854775807)))
  (.jump 3 [(.a 0), (.a 1), (.add (.a 2) (.l 1))] [] [(.va 0)])))
def saleroomref36_Shortest_t5 : PT :=
 (.ite (.lt (.a 2) (.a 0))
  (.need (.and (.le (.l 0) (.a 2)) (.lt (.a 2) (.slen 0)))
  (.load false (.ea 0 (.a 2) 1 0) [.val]
  (.need (.and (.le (.l 0) (.a 2)) (.lt (.a 2) (.slen 1)))
  (.load false (.ea 1 (.a 2) 1 0) [(.int .i64)]
  (.ite (.lt (.a 3) (.l 0))
   (.ret false (.tup [.nilS, (.bool (.t false))]) [])
   (.need (.and (.le (.l (-9223372036854775808)) (.add (.a 2) (.l 1))) (.le (.add (.a 2) (.l 1)) (.l 9223372036854775807)))
   (.jump 5 [(.a 0), (.a 1), (.add (.a 2) (.l 1))] [] [(.va 0)])))))))
  (.need (.and (.le (.l (-9223372036854775808)) (.add (.a 1) (.l 1))) (.le (.add (.a 1) (.l 1)) (.l 9223372036854775807)))
  (.jump 2 [(.a 0), (.add (.a 1) (.l 1))] [] [(.va 0)])))
def saleroomref36_Shortest_S : Sx.Sys := ⟨[(.sh (.one .val))], saleroomref36_Shortest_s, [saleroomref36_Shortest_t0, saleroomref36_Shortest_t1, saleroomref36_Shortest_t2, saleroomref36_Shortest_t3, saleroomref36_Shortest_t4, saleroomref36_Shortest_t5], none⟩
def saleroomref36_Shortest_pats : List Cfg := [{ todo := [(.code [false, false, true, false, true, true, true]), (.inLoop [false, false, true, false, true, true, true]), (.inBlock 0), (.code [true, true, true, true])], sl := [(.va 0), .undef, (.junk 0), (.junk 1), (.int .i64 (.a 0)), (.va 1), (.int .i64 (.a 1)), (.junk 2), (.junk 3), .undef, .undef, .undef, .undef, (.junk 4), (.junk 5), (.junk 6), (.junk 7), (.junk 8), (.junk 9), (.junk 10), (.junk 11), (.junk 12), (.junk 13), (.junk 14), (.junk 15), (.junk 16), (.junk 17), (.junk 18), (.junk 19), (.junk 20), (.junk 21), (.junk 22), (.junk 23), (.junk 24), (.junk 25), (.junk 26), (.junk 27), (.junk 28), (.junk 29), (.junk 30), (.junk 31), (.junk 32), (.junk 33), .undef, .undef, .undef, .undef, .undef, .undef, .undef, .undef, .undef, .undef, .undef, .undef, .undef, .undef, .undef, .undef, .undef, .undef, .undef, .undef, .undef, .undef, .undef, .undef, .undef, .undef, .undef, .undef, .undef, .undef, .undef, .undef, .undef, .undef, .undef, .undef, .undef, .undef, .undef, .undef, .undef, .undef, .undef, .undef, .undef, .undef, .undef, .undef, .undef, .undef, .undef, .undef, .undef, .undef, .undef, .undef, .undef, .undef], H := [(.row 1 25 1)], ni := 2, nb := 0, nv := 2, nj := 34 },
 { todo := [(.code [false, false, true, false, true, false, false, true, false, false, true, false, true, true, true]), (.inLoop [false, false, true, false, true, false, false, true, false, false, true, false, true, true, true]), (.inBlock 2), (.code [true, true, false, false, true, false, false, true, false, true, true, true]), (.inBlock 1), (.code [true, true, false, false, true, false, true, true, true]), (.inLoop [false, false, true, false, true, true, true]), (.inBlock 0), (.code [true, true, true, true])], sl := [(.va 0), .undef, (.junk 0), (.junk 1), (.int .i64 (.a 0)), (.va 1), (.int .i64 (.a 1)), (.va 2), (.int .i64 (.a 2)), .undef, .undef, .undef, .undef, (.junk 2), (.junk 3), (.junk 4), (.junk 5), (.junk 6), (.junk 7), (.junk 8), (.junk 9), (.junk 10), (.junk 11), (.junk 12), (.junk 13), (.junk 14), (.junk 15), (.junk 16), (.junk 17), (.junk 18), (.junk 19), (.junk 20), (.junk 21), (.junk 22), (.junk 23), (.junk 24), (.junk 25), (.junk 26), (.junk 27), (.junk 28), (.junk 29), (.junk 30), (.junk 31), .undef, .undef, .undef, .undef, .undef, .undef, .undef, .undef, .undef, .undef, .undef, .undef, .undef, .undef, .undef, .undef, .undef, .undef, .undef, .undef, .undef, .undef, .undef, .undef, .undef, .undef, .undef, .undef, .undef, .undef, .undef, .undef, .undef, .undef, .undef, .undef, .undef, .undef, .undef, .undef, .undef, .undef, .undef, .undef, .undef, .undef, .undef, .undef, .undef, .undef, .undef, .undef, .undef, .undef, .undef, .undef, .undef, .undef], H := [(.row 1 25 1)], ni := 3, nb := 0, nv := 3, nj := 32 },
 { todo := [(.code [false, false, true, false, true, true, true, true]), (.inLoop [false, false, true, false, true, true, true, true]), (.inBlock 4), (.code [true, true, true, true, true])], sl := [(.junk 0), .undef, (.junk 1), (.junk 2), (.int .i64 (.a 0)), (.va 0), (.junk 3), (.junk 4), (.junk 5), (.int .i64 (.a 1)), (.junk 6), (.junk 7), (.junk 8), (.junk 9), (.junk 10), (.junk 11), (.junk 12), (.junk 13), (.junk 14), (.junk 15), (.junk 16), (.junk 17), (.junk 18), (.junk 19), (.junk 20), (.junk 21), (.junk 22), (.junk 23), (.junk 24), (.junk 25), (.junk 26), (.junk 27), (.junk 28), (.junk 29), (.junk 30), (.junk 31), (.junk 32), (.junk 33), (.junk 34), (.junk 35), (.junk 36), (.junk 37), (.junk 38), (.junk 39), (.junk 40), (.junk 41), (.junk 42), (.junk 43), (.junk 44), (.junk 45), (.junk 46), (.junk 47), (.junk 48), (.junk 49), (.junk 50), (.junk 51), (.junk 52), (.junk 53), (.junk 54), (.junk 55), (.junk 56), (.junk 57), (.junk 58), (.junk 59), (.junk 60), (.junk 61), (.junk 62), (.junk 63), (.junk 64), (.junk 65), (.junk 66), (.junk 67), (.junk 68), (.junk 69), (.junk 70), (.junk 71), (.junk 72), (.junk 73), (.junk 74), (.junk 75), (.junk 76), (.junk 77), (.junk 78), (.junk 79), (.junk 80), (.junk 81), (.junk 82), (.junk 83), (.junk 84), (.junk 85), (.junk 86), (.junk 87), (.junk 88), (.junk 89), (.junk 90), (.junk 91), (.junk 92), (.junk 93), (.junk 94), (.junk 95), .undef], H := [(.row 0 25 1)], ni := 2, nb := 0, nv := 1, nj := 96 },
 { todo := [(.code [false, false, true, false, false, false, true, false, false, true, false, true, true, true, true]), (.inLoop [false, false, true, false, false, false, true, false, false, true, false, true, true, true, true]), (.inBlock 6), (.code [true, false, false, true, false, false, true, false, true, true, true, true]), (.inBlock 5), (.code [true, true, false, false, true, false, true, true, true, true]), (.inLoop [false, false, true, false, true, true, true, true]), (.inBlock 4), (.code [true, true, true, true, true])], sl := [(.junk 0), .undef, (.junk 1), (.junk 2), (.int .i64 (.a 0)), (.va 0), (.junk 3), (.junk 4), (.junk 5), (.int .i64 (.a 1)), (.int .i64 (.a 2)), (.junk 6), (.junk 7), (.junk 8), (.junk 9), (.junk 10), (.junk 11), (.junk 12), (.junk 13), (.junk 14), (.junk 15), (.junk 16), (.junk 17), (.junk 18), (.junk 19), (.junk 20), (.junk 21), (.junk 22), (.junk 23), (.junk 24), (.junk 25), (.junk 26), (.junk 27), (.junk 28), (.junk 29), (.junk 30), (.junk 31), (.junk 32), (.junk 33), (.junk 34), (.junk 35), (.junk 36), (.junk 37), (.junk 38), (.junk 39), (.junk 40), (.junk 41), (.junk 42), (.junk 43), (.junk 44), (.junk 45), (.junk 46), (.junk 47), (.junk 48), (.junk 49), (.junk 50), (.junk 51), (.junk 52), (.junk 53), (.junk 54), (.junk 55), (.junk 56), (.junk 57), (.junk 58), (.junk 59), (.junk 60), (.junk 61), (.junk 62), (.junk 63), (.junk 64), (.junk 65), (.junk 66), (.junk 67), (.junk 68), (.junk 69), (.junk 70), (.junk 71), (.junk 72), (.junk 73), (.junk 74), (.junk 75), (.junk 76), (.junk 77), (.junk 78), (.junk 79), (.junk 80), (.junk 81), (.junk 82), (.junk 83), (.junk 84), (.junk 85), (.junk 86), (.junk 87), (.junk 88), (.junk 89), (.junk 90), (.junk 91), (.junk 92), (.junk 93), (.junk 94), .undef], H := [(.row 0 25 1)], ni := 3, nb := 0, nv := 1, nj := 95 },
 { todo := [(.code [false, false, true, false, false, true, false, false, true, false, false, false, true, false, false, true, false, true, true, true, true]), (.inLoop [false, false, true, false, false, true, false, false, true, false, false, false, true, false, false, true, false, true, true, true, true]), (.inBlock 8), (.inBlock 7), (.code [true, true, false, false, true, false, false, false, true, false, false, true, false, true, true, true, true]), (.inLoop [false, false, true, false, false, false, true, false, false, true, false, true, true, true, true]), (.inBlock 6), (.code [true, false, false, true, false, false, true, false, true, true, true, true]), (.inBlock 5), (.code [true, true, false, false, true, false, true, true, true, true]), (.inLoop [false, false, true, false, true, true, true, true]), (.inBlock 4), (.code [true, true, true, true, true])], sl := [(.junk 0), .undef, (.junk 1), (.junk 2), (.int .i64 (.a 0)), (.va 0), (.junk 3), (.junk 4), (.junk 5), (.int .i64 (.a 1)), (.int .i64 (.a 2)), (.int .i64 (.a 3)), (.junk 6), (.junk 7), (.junk 8), (.junk 9), (.junk 10), (.junk 11), (.junk 12), (.junk 13), (.junk 14), (.junk 15), (.junk 16), (.junk 17), (.junk 18), (.junk 19), (.junk 20), (.junk 21), (.junk 22), (.junk 23), (.junk 24), (.junk 25), (.junk 26), (.junk 27), (.junk 28), (.junk 29), (.junk 30), (.junk 31), (.junk 32), (.junk 33), (.junk 34), (.junk 35), (.junk 36), (.junk 37), (.junk 38), (.junk 39), (.junk 40), (.junk 41), (.junk 42), (.junk 43), (.junk 44), (.junk 45), (.junk 46), (.junk 47), (.junk 48), (.junk 49), (.junk 50), (.junk 51), (.junk 52), (.junk 53), (.junk 54), (.junk 55), (.junk 56), (.junk 57), (.junk 58), (.junk 59), (.junk 60), (.junk 61), (.junk 62), (.junk 63), (.junk 64), (.junk 65), (.junk 66), (.junk 67), (.junk 68), (.junk 69), (.junk 70), (.junk 71), (.junk 72), (.junk 73), (.junk 74), (.junk 75), (.junk 76), (.junk 77), (.junk 78), (.junk 79), (.junk 80), (.junk 81), (.junk 82), (.junk 83), (.junk 84), (.junk 85), (.junk 86), (.junk 87), (.junk 88), (.junk 89), (.junk 90), (.junk 91), (.junk 92), (.junk 93), .undef], H := [(.row 0 25 1)], ni := 4, nb := 0, nv := 1, nj := 94 },
 { todo := [(.code [false, false, true, true, false, false, true, false, false, true, false, true, true, true, true]), (.inLoop [false, false, true, true, false, false, true, false, false, true, false, true, true, true, true]), (.inBlock 10), (.inBlock 5), (.code [true, true, false, false, true, false, true, true, true, true]), (.inLoop [false, false, true, false, true, true, true, true]), (.inBlock 4), (.code [true, true, true, true, true])], sl := [(.junk 0), .undef, (.junk 1), (.junk 2), (.int .i64 (.a 0)), (.va 0), (.junk 3), (.junk 4), (.junk 5), (.int .i64 (.a 1)), (.junk 6), (.junk 7), (.int .i64 (.a 2)), (.junk 8), (.junk 9), (.junk 10), (.junk 11), (.junk 12), (.junk 13), (.junk 14), (.junk 15), (.junk 16), (.junk 17), (.junk 18), (.junk 19), (.junk 20), (.junk 21), (.junk 22), (.junk 23), (.junk 24), (.junk 25), (.junk 26), (.junk 27), (.junk 28), (.junk 29), (.junk 30), (.junk 31), (.junk 32), (.junk 33), (.junk 34), (.junk 35), (.junk 36), (.junk 37), (.junk 38), (.junk 39), (.junk 40), (.junk 41), (.junk 42), (.junk 43), (.junk 44), (.junk 45), (.junk 46), (.junk 47), (.junk 48), (.junk 49), (.junk 50), (.junk 51), (.junk 52), (.junk 53), (.junk 54), (.junk 55), (.junk 56), (.junk 57), (.junk 58), (.junk 59), (.junk 60), (.junk 61), (.junk 62), (.junk 63), (.junk 64), (.junk 65), (.junk 66), (.junk 67), (.junk 68), (.junk 69), (.junk 70), (.junk 71), (.junk 72), (.junk 73), (.junk 74), (.junk 75), (.junk 76), (.junk 77), (.junk 78), (.junk 79), (.junk 80), (.junk 81), (.junk 82), (.junk 83), (.junk 84), (.junk 85), (.junk 86), (.junk 87), (.junk 88), (.junk 89), (.junk 90), (.junk 91), (.junk 92), (.junk 93), (.junk 94), .undef], H := [(.row 0 25 1)], ni := 3, nb := 0, nv := 1, nj := 95 }]
theorem saleroomref36_Shortest_ok : SysOk Try.prog 42 saleroomref36_Shortest_S := sys_ok (c := (cg [[false, false, true, false, true, true, true], [false, false, true, false, true, false, false, true, false, false, true, false, true, true, true], [false, false, true, false, true, true, true, true], [false, false, true, false, false, false, true, false, false, true, false, true, true, true, true], [false, false, true, false, false, true, false, false, true, false, false, false, true, false, false, true, false, true, true, true, true], [false, false, true, true, false, false, true, false, false, true, false, true, true, true, true]] [] [] false false false true)) (progOkG _ _ _ _ _ _ _ _) Try.func42 Try.call42 (by kernel_rfl) saleroomref36_Shortest_pats saleroomref36_Shortest_S 5000 rfl (by kernel_rfl) (by kernel_rfl) rfl
def saleroomlaw37_sale_s : PT :=
 (.app none (.lit [[(.str [97]), (.int .i64 (.l 2)), (.int .i64 (.l 0)), (.int .i64 (.l 2)), (.int .i64 (.l 0))], [(.str [98]), (.int .i64 (.l 2)), (.int .i64 (.l 0)), (.int .i64 (.l 2)), (.int .i64 (.l 0))]]) 5
 (.app none (.lit [[(.str [120]), (.int .i64 (.l 0)), (.int .i64 (.l 9)), (.int .i64 (.l 3))]]) 4
 (.ret false (.agg [(.va 0), (.va 1), .nilS, .nilS]) [])))
def saleroomlaw37_sale_S : Sx.Sys := ⟨[], saleroomlaw37_sale_s, [], none⟩
def saleroomlaw37_sale_pats : List Cfg := []
theorem saleroomlaw37_sale_ok : SysOk Try.prog 50 saleroomlaw37_sale_S := sys_ok (c := (cg [] [] [] false false false true)) (progOkG _ _ _ _ _ _ _ _) Try.func50 Try.call50 (by kernel_rfl) saleroomlaw37_sale_pats saleroomlaw37_sale_S 5000 rfl (by kernel_rfl) (by kernel_rfl) rfl
def saleroomref37_points_s : PT :=
 (.call 66 [(.va 0), (.int .i64 (.l 0)), (.agg [(.int .i64 (.a 0)), (.int .i64 (.a 1)), (.int .i64 (.a 2)), (.int .i64 (.a 3)), (.int .i64 (.a 4)), (.int .i64 (.a 5))])] [] [(.one (.int .i64)), (.one (.int .i64)), (.one (.int .i64))]
 (.ret false (.int .i64 (.a 6)) []))
def saleroomref37_points_S : Sx.Sys := ⟨[(.sh (.agg [.val, .val, .val, .val])), (.sh (.agg [(.int .i64), (.int .i64), (.int .i64), (.int .i64), (.int .i64), (.int .i64)]))], saleroomref37_points_s, [], none⟩
def saleroomref37_points_pats : List Cfg := []
theorem saleroomref37_points_ok : SysOk Try.prog 58 saleroomref37_points_S := sys_ok (c := (cg [] [] [] false false false true)) (progOkG _ _ _ _ _ _ _ _) Try.func58 Try.call58 (by kernel_rfl) saleroomref37_points_pats saleroomref37_points_S 5000 rfl (by kernel_rfl) (by kernel_rfl) rfl
def catalog_Points_s : PT :=
 (.call 73 [(.agg [(.va 0), (.int .i64 (.a 0)), (.int .i64 (.a 1)), (.int .i64 (.a 2)), (.int .i64 (.a 3)), (.int .i64 (.a 4)), (.int .i64 (.a 5))]), (.fn 74 0 [])] [] [(.one (.int .i64))]
 (.ret false (.int .i64 (.a 6)) []))
def catalog_Points_S : Sx.Sys := ⟨[(.sh (.one .val)), (.sh (.agg [(.int .i64), (.int .i64), (.int .i64), (.int .i64), (.int .i64), (.int .i64)]))], catalog_Points_s, [], none⟩
def catalog_Points_pats : List Cfg := []
theorem catalog_Points_ok : SysOk Try.prog 67 catalog_Points_S := sys_ok (c := (cg [] [] [(10, [2])] false false false true)) (progOkG _ _ _ _ _ _ _ _) Try.func67 Try.call67 (by kernel_rfl) catalog_Points_pats catalog_Points_S 5000 rfl (by kernel_rfl) (by kernel_rfl) rfl
def flatten_Value_s : PT :=
 (.need (.is 0 0)
 (.jump 0 [(.l 0), (.slen 0), (.l 0), (.a 0), (.a 1), (.a 2), (.a 3), (.a 4), (.a 5)] [] [(.va 0)]))
def flatten_Value_t0 : PT :=
 (.ite (.lt (.a 2) (.a 1))
  (.need (.and (.le (.l 0) (.a 2)) (.lt (.a 2) (.slen 0)))
  (.load false (.ea 0 (.a 2) 8 0) [(.int .i64), (.int .i64), (.int .i64), (.int .i64), (.int .i64), (.int .i64), (.int .i64), (.int .i64)]
  (.ite (.lt (.a 0) (.a 16))
   (.call 80 [(.agg [(.int .i64 (.a 10)), (.int .i64 (.a 11)), (.int .i64 (.a 12)), (.int .i64 (.a 13)), (.int .i64 (.a 14)), (.int .i64 (.a 15))]), (.agg [(.int .i64 (.a 3)), (.int .i64 (.a 4)), (.int .i64 (.a 5)), (.int .i64 (.a 6)), (.int .i64 (.a 7)), (.int .i64 (.a 8))])] [] [(.one .bool)]
   (.ite (.a 0)
    (.need (.and (.le (.l (-9223372036854775808)) (.add (.a 2) (.l 1))) (.le (.add (.a 2) (.l 1)) (.l 9223372036854775807)))
    (.jump 0 [(.a 16), (.a 1), (.add (.a 2) (.l 1)), (.a 3), (.a 4), (.a 5), (.a 6), (.a 7), (.a 8)] [] [(.va 0)]))
    (.need (.and (.le (.l (-9223372036854775808)) (.add (.a 2) (.l 1))) (.le (.add (.a 2) (.l 1)) (.l 9223372036854775807)))
    (.jump 0 [(.a 0), (.a 1), (.add (.a 2) (.l 1)), (.a 3), (.a 4), (.a 5), (.a 6), (.a 7), (.a 8)] [] [(.va 0)]))))
   (.need (.and (.le (.l (-9223372036854775808)) (.add (.a 2) (.l 1))) (.le (.add (.a 2) (.l 1)) (.l 9223372036854775807)))
   (.jump 0 [(.a 0), (.a 1), (.add (.a 2) (.l 1)), (.a 3), (.a 4), (.a 5), (.a 6), (.a 7), (.a 8)] [] [(.va 0)])))))
  (.ret false (.int .i64 (.a 0)) []))
def flatten_Value_S : Sx.Sys := ⟨[(.sh (.one .val)), (.sh (.agg [(.int .i64), (.int .i64), (.int .i64), (.int .i64), (.int .i64), (.int .i64)]))], flatten_Value_s, [flatten_Value_t0], none⟩
def flatten_Value_pats : List Cfg := [{ todo := [(.code [false, false, true, false, true, true]), (.inLoop [false, false, true, false, true, true]), (.inBlock 0), (.code [true, true, true])], sl := [(.junk 0), (.junk 1), .undef, (.ptr 0 0), (.junk 2), (.int .i64 (.a 0)), .undef, (.junk 3), (.va 0), (.int .i64 (.a 1)), (.int .i64 (.a 2)), (.junk 4), (.junk 5), (.junk 6), (.junk 7), (.junk 8), (.junk 9), (.junk 10), (.junk 11), (.junk 12), (.junk 13), (.junk 14), (.junk 15), (.junk 16), (.junk 17), (.junk 18), (.junk 19), .undef], H := [(.cells [(.int .i64 (.a 3)), (.int .i64 (.a 4)), (.int .i64 (.a 5)), (.int .i64 (.a 6)), (.int .i64 (.a 7)), (.int .i64 (.a 8))] 42 false)], ni := 9, nb := 0, nv := 1, nj := 20 }]
theorem flatten_Value_ok : SysOk Try.prog 75 flatten_Value_S := sys_ok (c := (cg [[false, false, true, false, true, true]] [] [] false false false true)) (progOkG _ _ _ _ _ _ _ _) Try.func75 Try.call75 (by kernel_rfl) flatten_Value_pats flatten_Value_S 5000 rfl (by kernel_rfl) (by kernel_rfl) rfl
def lexer_IsName_s : PT :=
 (.need (.is 3 0)
 (.ite (.not (.sis 0 []))
  (.need (.is 3 0)
  (.ite (.le (.stl 0) (.l 12))
   (.need (.is 3 0)
   (.need (.lt (.l 0) (.stl 0))
   (.need (.and (.le (.l (-2147483648)) (.sat 0 (.l 0))) (.le (.sat 0 (.l 0)) (.l 2147483647)))
   (.call 88 [(.int .i32 (.sat 0 (.l 0)))] [] [(.one .bool)]
   (.ite (.a 0)
    (.call 89 [(.va 0), (.int .i64 (.l 0)), (.fn 90 0 [])] [] [(.one .val)]
    (.need (.is 3 1)
    (.need (.is 3 0)
    (.ret false (.bool (.seq 1 0)) []))))
    (.ret false (.bool (.t false)) []))))))
   (.ret false (.bool (.t false)) [])))
  (.ret false (.bool (.t false)) [])))
def lexer_IsName_S : Sx.Sys := ⟨[(.sh (.one .val))], lexer_IsName_s, [], none⟩
def lexer_IsName_pats : List Cfg := []
theorem lexer_IsName_ok : SysOk Try.prog 83 lexer_IsName_S := sys_ok (c := (cg [] [] [] false false false true)) (progOkG _ _ _ _ _ _ _ _) Try.func83 Try.call83 (by kernel_rfl) lexer_IsName_pats lexer_IsName_S 5000 rfl (by kernel_rfl) (by kernel_rfl) rfl
def lexer_digit_s : PT :=
 (.ite (.le (.l 48) (.a 0))
  (.ret false (.bool (.le (.a 0) (.l 57))) [])
  (.ret false (.bool (.t false)) []))
def lexer_digit_S : Sx.Sys := ⟨[(.sh (.one (.int .i32)))], lexer_digit_s, [], none⟩
def lexer_digit_pats : List Cfg := []
theorem lexer_digit_ok : SysOk Try.prog 91 lexer_digit_S := sys_ok (c := (cg [] [] [] false false false true)) (progOkG _ _ _ _ _ _ _ _) Try.func91 Try.call91 (by kernel_rfl) lexer_digit_pats lexer_digit_S 5000 rfl (by kernel_rfl) (by kernel_rfl) rfl
end Go.Proofs.Ythjahianafohjaa
namespace Go.Proofs.Ythjahianafohjaa
open Go.Sx
def tabS : List (Nat × Sx.Sys) := [(3, saleroomlaw36_RevealedExact_S), (4, saleroomlaw36_RevealedVerifies_S), (5, saleroomlaw36_RevealedSound_S), (6, saleroomlaw36_RevealedGains_S), (7, saleroomlaw36_RevealedParts_S), (8, saleroomlaw37_ActivityExact_S), (9, saleroomlaw37_ActivityPoints_S), (10, saleroomlaw37_ActivityFunds_S), (11, saleroomlaw37_ActivityStraight_S), (12, saleroomlaw37_ActivityLeaves_S), (13, saleroomlaw36_RevealedTruthful_S), (14, saleroomlaw36_lives_S), (15, revealed_Check_S), (16, saleroomref36_Check_S), (17, saleroomref36_All_S), (18, saleroomref36_Verify_S), (19, revealed_Verify_S), (20, revealed_Gain_S), (21, saleroomref36_Gain_S), (22, saleroomlaw37_few_S), (23, saleroomref37_Moderate_S), (24, saleroomlaw37_awake_S), (25, activity_Accept_S), (26, saleroomref37_Accept_S), (27, activity_Eligibility_S), (28, saleroomref37_Eligibility_S), (29, activity_Exited_S), (30, saleroomref37_Exited_S), (31, activity_Affordable_S), (32, saleroomref37_Affordable_S), (33, saleroomref08_Check_S), (34, saleroomlaw37_demand_S), (35, saleroomref07_Check_S), (36, saleroomref37_Consistent_S), (37, demandset_Path_S), (38, saleroomlaw36_contrary_S), (39, revealed_allValid_S), (40, revealed_lowered_S), (41, bundle_Cost_S), (42, saleroomref36_Shortest_S), (43, saleroomref36_Cost_S), (44, saleroomref36_Valid_S), (45, saleroomref36_explains_S), (46, revealed_formed_S), (47, revealed_explains_S), (48, revealed_gain_S), (49, revealed_valid_S), (50, saleroomlaw37_sale_S), (51, activity_history_fits_S), (52, activity_history_agrees_S), (53, activity_history_either_S), (54, activity_has_S), (55, bundle_Check_S), (56, activity_Accept_1_S), (57, saleroomref37_bidder_S), (58, saleroomref37_points_S), (59, activity_history_points_S), (60, saleroomref37_cost_S), (61, saleroomref08_IsName_S), (63, revealed_cycle_S), (64, saleroomref07_Cost_S), (65, saleroomref07_Prices_S), (66, saleroomref08_Sums_S), (67, catalog_Points_S), (68, demandset_valid_S), (69, demandset_offers_utility_S), (70, demandset_counting_S), (71, bundle_All_S), (72, saleroomref08_Valid_S), (73, catalog_units_sum_S), (74, catalog_Points_1_S), (75, flatten_Value_S), (76, bundle_Count_S), (77, bundle_All_1_S), (78, bundle_each_S), (79, catalog_Check_S), (80, bundle_Within_S), (81, bundle_each_1_S), (82, bundle_following_S), (83, lexer_IsName_S), (84, catalog_Find_S), (85, catalog_between_S), (86, catalog_Supply_S), (87, bundle_Meet_S), (88, lexer_letter_S), (89, lexer_run_S), (90, lexer_inner_S), (91, lexer_digit_S)]
def Tab (f : Nat) : Option Sx.Sys := lookN f tabS
theorem tab_ok : ∀ f S, Tab f = some S → SysOk Try.prog f S := by
  intro f S h
  have h := look_mem h
  simp only [tabS, List.mem_cons, Prod.mk.injEq, List.not_mem_nil, or_false] at h
  rcases h with ⟨rfl, rfl⟩ | ⟨rfl, rfl⟩ | ⟨rfl, rfl⟩ | ⟨rfl, rfl⟩ | ⟨rfl, rfl⟩ | ⟨rfl, rfl⟩ | ⟨rfl, rfl⟩ | ⟨rfl, rfl⟩ | ⟨rfl, rfl⟩ | ⟨rfl, rfl⟩ | ⟨rfl, rfl⟩ | ⟨rfl, rfl⟩ | ⟨rfl, rfl⟩ | ⟨rfl, rfl⟩ | ⟨rfl, rfl⟩ | ⟨rfl, rfl⟩ | ⟨rfl, rfl⟩ | ⟨rfl, rfl⟩ | ⟨rfl, rfl⟩ | ⟨rfl, rfl⟩ | ⟨rfl, rfl⟩ | ⟨rfl, rfl⟩ | ⟨rfl, rfl⟩ | ⟨rfl, rfl⟩ | ⟨rfl, rfl⟩ | ⟨rfl, rfl⟩ | ⟨rfl, rfl⟩ | ⟨rfl, rfl⟩ | ⟨rfl, rfl⟩ | ⟨rfl, rfl⟩ | ⟨rfl, rfl⟩ | ⟨rfl, rfl⟩ | ⟨rfl, rfl⟩ | ⟨rfl, rfl⟩ | ⟨rfl, rfl⟩ | ⟨rfl, rfl⟩ | ⟨rfl, rfl⟩ | ⟨rfl, rfl⟩ | ⟨rfl, rfl⟩ | ⟨rfl, rfl⟩ | ⟨rfl, rfl⟩ | ⟨rfl, rfl⟩ | ⟨rfl, rfl⟩ | ⟨rfl, rfl⟩ | ⟨rfl, rfl⟩ | ⟨rfl, rfl⟩ | ⟨rfl, rfl⟩ | ⟨rfl, rfl⟩ | ⟨rfl, rfl⟩ | ⟨rfl, rfl⟩ | ⟨rfl, rfl⟩ | ⟨rfl, rfl⟩ | ⟨rfl, rfl⟩ | ⟨rfl, rfl⟩ | ⟨rfl, rfl⟩ | ⟨rfl, rfl⟩ | ⟨rfl, rfl⟩ | ⟨rfl, rfl⟩ | ⟨rfl, rfl⟩ | ⟨rfl, rfl⟩ | ⟨rfl, rfl⟩ | ⟨rfl, rfl⟩ | ⟨rfl, rfl⟩ | ⟨rfl, rfl⟩ | ⟨rfl, rfl⟩ | ⟨rfl, rfl⟩ | ⟨rfl, rfl⟩ | ⟨rfl, rfl⟩ | ⟨rfl, rfl⟩ | ⟨rfl, rfl⟩ | ⟨rfl, rfl⟩ | ⟨rfl, rfl⟩ | ⟨rfl, rfl⟩ | ⟨rfl, rfl⟩ | ⟨rfl, rfl⟩ | ⟨rfl, rfl⟩ | ⟨rfl, rfl⟩ | ⟨rfl, rfl⟩ | ⟨rfl, rfl⟩ | ⟨rfl, rfl⟩ | ⟨rfl, rfl⟩ | ⟨rfl, rfl⟩ | ⟨rfl, rfl⟩ | ⟨rfl, rfl⟩ | ⟨rfl, rfl⟩ | ⟨rfl, rfl⟩ | ⟨rfl, rfl⟩ | ⟨rfl, rfl⟩
  · exact saleroomlaw36_RevealedExact_ok
  · exact saleroomlaw36_RevealedVerifies_ok
  · exact saleroomlaw36_RevealedSound_ok
  · exact saleroomlaw36_RevealedGains_ok
  · exact saleroomlaw36_RevealedParts_ok
  · exact saleroomlaw37_ActivityExact_ok
  · exact saleroomlaw37_ActivityPoints_ok
  · exact saleroomlaw37_ActivityFunds_ok
  · exact saleroomlaw37_ActivityStraight_ok
  · exact saleroomlaw37_ActivityLeaves_ok
  · exact saleroomlaw36_RevealedTruthful_ok
  · exact saleroomlaw36_lives_ok
  · exact revealed_Check_ok
  · exact saleroomref36_Check_ok
  · exact saleroomref36_All_ok
  · exact saleroomref36_Verify_ok
  · exact revealed_Verify_ok
  · exact revealed_Gain_ok
  · exact saleroomref36_Gain_ok
  · exact saleroomlaw37_few_ok
  · exact saleroomref37_Moderate_ok
  · exact saleroomlaw37_awake_ok
  · exact activity_Accept_ok
  · exact saleroomref37_Accept_ok
  · exact activity_Eligibility_ok
  · exact saleroomref37_Eligibility_ok
  · exact activity_Exited_ok
  · exact saleroomref37_Exited_ok
  · exact activity_Affordable_ok
  · exact saleroomref37_Affordable_ok
  · exact saleroomref08_Check_ok
  · exact saleroomlaw37_demand_ok
  · exact saleroomref07_Check_ok
  · exact saleroomref37_Consistent_ok
  · exact demandset_Path_ok
  · exact saleroomlaw36_contrary_ok
  · exact revealed_allValid_ok
  · exact revealed_lowered_ok
  · exact bundle_Cost_ok
  · exact saleroomref36_Shortest_ok
  · exact saleroomref36_Cost_ok
  · exact saleroomref36_Valid_ok
  · exact saleroomref36_explains_ok
  · exact revealed_formed_ok
  · exact revealed_explains_ok
  · exact revealed_gain_ok
  · exact revealed_valid_ok
  · exact saleroomlaw37_sale_ok
  · exact activity_history_fits_ok
  · exact activity_history_agrees_ok
  · exact activity_history_either_ok
  · exact activity_has_ok
  · exact bundle_Check_ok
  · exact activity_Accept_1_ok
  · exact saleroomref37_bidder_ok
  · exact saleroomref37_points_ok
  · exact activity_history_points_ok
  · exact saleroomref37_cost_ok
  · exact saleroomref08_IsName_ok
  · exact revealed_cycle_ok
  · exact saleroomref07_Cost_ok
  · exact saleroomref07_Prices_ok
  · exact saleroomref08_Sums_ok
  · exact catalog_Points_ok
  · exact demandset_valid_ok
  · exact demandset_offers_utility_ok
  · exact demandset_counting_ok
  · exact bundle_All_ok
  · exact saleroomref08_Valid_ok
  · exact catalog_units_sum_ok
  · exact catalog_Points_1_ok
  · exact flatten_Value_ok
  · exact bundle_Count_ok
  · exact bundle_All_1_ok
  · exact bundle_each_ok
  · exact catalog_Check_ok
  · exact bundle_Within_ok
  · exact bundle_each_1_ok
  · exact bundle_following_ok
  · exact lexer_IsName_ok
  · exact catalog_Find_ok
  · exact catalog_between_ok
  · exact catalog_Supply_ok
  · exact bundle_Meet_ok
  · exact lexer_letter_ok
  · exact lexer_run_ok
  · exact lexer_inner_ok
  · exact lexer_digit_ok
abbrev n_saleroomlaw36_RevealedExact : Nat := 3
abbrev n_saleroomlaw36_RevealedVerifies : Nat := 4
abbrev n_saleroomlaw36_RevealedSound : Nat := 5
abbrev n_saleroomlaw36_RevealedGains : Nat := 6
abbrev n_saleroomlaw36_RevealedParts : Nat := 7
abbrev n_saleroomlaw37_ActivityExact : Nat := 8
abbrev n_saleroomlaw37_ActivityPoints : Nat := 9
abbrev n_saleroomlaw37_ActivityFunds : Nat := 10
abbrev n_saleroomlaw37_ActivityStraight : Nat := 11
abbrev n_saleroomlaw37_ActivityLeaves : Nat := 12
abbrev n_saleroomlaw36_RevealedTruthful : Nat := 13
abbrev n_saleroomlaw36_lives : Nat := 14
abbrev n_revealed_Check : Nat := 15
abbrev n_saleroomref36_Check : Nat := 16
abbrev n_saleroomref36_All : Nat := 17
abbrev n_saleroomref36_Verify : Nat := 18
abbrev n_revealed_Verify : Nat := 19
abbrev n_revealed_Gain : Nat := 20
abbrev n_saleroomref36_Gain : Nat := 21
abbrev n_saleroomlaw37_few : Nat := 22
abbrev n_saleroomref37_Moderate : Nat := 23
abbrev n_saleroomlaw37_awake : Nat := 24
abbrev n_activity_Accept : Nat := 25
abbrev n_saleroomref37_Accept : Nat := 26
abbrev n_activity_Eligibility : Nat := 27
abbrev n_saleroomref37_Eligibility : Nat := 28
abbrev n_activity_Exited : Nat := 29
abbrev n_saleroomref37_Exited : Nat := 30
abbrev n_activity_Affordable : Nat := 31
abbrev n_saleroomref37_Affordable : Nat := 32
abbrev n_saleroomref08_Check : Nat := 33
abbrev n_saleroomlaw37_demand : Nat := 34
abbrev n_saleroomref07_Check : Nat := 35
abbrev n_saleroomref37_Consistent : Nat := 36
abbrev n_demandset_Path : Nat := 37
abbrev n_saleroomlaw36_contrary : Nat := 38
abbrev n_revealed_allValid : Nat := 39
abbrev n_revealed_lowered : Nat := 40
abbrev n_bundle_Cost : Nat := 41
abbrev n_saleroomref36_Shortest : Nat := 42
abbrev n_saleroomref36_Cost : Nat := 43
abbrev n_saleroomref36_Valid : Nat := 44
abbrev n_saleroomref36_explains : Nat := 45
abbrev n_revealed_formed : Nat := 46
abbrev n_revealed_explains : Nat := 47
abbrev n_revealed_gain : Nat := 48
abbrev n_revealed_valid : Nat := 49
abbrev n_saleroomlaw37_sale : Nat := 50
abbrev n_activity_history_fits : Nat := 51
abbrev n_activity_history_agrees : Nat := 52
abbrev n_activity_history_either : Nat := 53
abbrev n_activity_has : Nat := 54
abbrev n_bundle_Check : Nat := 55
abbrev n_activity_Accept_1 : Nat := 56
abbrev n_saleroomref37_bidder : Nat := 57
abbrev n_saleroomref37_points : Nat := 58
abbrev n_activity_history_points : Nat := 59
abbrev n_saleroomref37_cost : Nat := 60
abbrev n_saleroomref08_IsName : Nat := 61
abbrev n_revealed_cycle : Nat := 63
abbrev n_saleroomref07_Cost : Nat := 64
abbrev n_saleroomref07_Prices : Nat := 65
abbrev n_saleroomref08_Sums : Nat := 66
abbrev n_catalog_Points : Nat := 67
abbrev n_demandset_valid : Nat := 68
abbrev n_demandset_offers_utility : Nat := 69
abbrev n_demandset_counting : Nat := 70
abbrev n_bundle_All : Nat := 71
abbrev n_saleroomref08_Valid : Nat := 72
abbrev n_catalog_units_sum : Nat := 73
abbrev n_catalog_Points_1 : Nat := 74
abbrev n_flatten_Value : Nat := 75
abbrev n_bundle_Count : Nat := 76
abbrev n_bundle_All_1 : Nat := 77
abbrev n_bundle_each : Nat := 78
abbrev n_catalog_Check : Nat := 79
abbrev n_bundle_Within : Nat := 80
abbrev n_bundle_each_1 : Nat := 81
abbrev n_bundle_following : Nat := 82
abbrev n_lexer_IsName : Nat := 83
abbrev n_catalog_Find : Nat := 84
abbrev n_catalog_between : Nat := 85
abbrev n_catalog_Supply : Nat := 86
abbrev n_bundle_Meet : Nat := 87
abbrev n_lexer_letter : Nat := 88
abbrev n_lexer_run : Nat := 89
abbrev n_lexer_inner : Nat := 90
abbrev n_lexer_digit : Nat := 91
theorem tab_saleroomlaw36_RevealedExact : Tab 3 = some saleroomlaw36_RevealedExact_S := by kernel_rfl
theorem tab_saleroomlaw36_RevealedVerifies : Tab 4 = some saleroomlaw36_RevealedVerifies_S := by kernel_rfl
theorem tab_saleroomlaw36_RevealedSound : Tab 5 = some saleroomlaw36_RevealedSound_S := by kernel_rfl
theorem tab_saleroomlaw36_RevealedGains : Tab 6 = some saleroomlaw36_RevealedGains_S := by kernel_rfl
theorem tab_saleroomlaw36_RevealedParts : Tab 7 = some saleroomlaw36_RevealedParts_S := by kernel_rfl
theorem tab_saleroomlaw37_ActivityExact : Tab 8 = some saleroomlaw37_ActivityExact_S := by kernel_rfl
theorem tab_saleroomlaw37_ActivityPoints : Tab 9 = some saleroomlaw37_ActivityPoints_S := by kernel_rfl
theorem tab_saleroomlaw37_ActivityFunds : Tab 10 = some saleroomlaw37_ActivityFunds_S := by kernel_rfl
theorem tab_saleroomlaw37_ActivityStraight : Tab 11 = some saleroomlaw37_ActivityStraight_S := by kernel_rfl
theorem tab_saleroomlaw37_ActivityLeaves : Tab 12 = some saleroomlaw37_ActivityLeaves_S := by kernel_rfl
theorem tab_saleroomlaw36_RevealedTruthful : Tab 13 = some saleroomlaw36_RevealedTruthful_S := by kernel_rfl
theorem tab_saleroomlaw36_lives : Tab 14 = some saleroomlaw36_lives_S := by kernel_rfl
theorem tab_revealed_Check : Tab 15 = some revealed_Check_S := by kernel_rfl
theorem tab_saleroomref36_Check : Tab 16 = some saleroomref36_Check_S := by kernel_rfl
theorem tab_saleroomref36_All : Tab 17 = some saleroomref36_All_S := by kernel_rfl
theorem tab_saleroomref36_Verify : Tab 18 = some saleroomref36_Verify_S := by kernel_rfl
theorem tab_revealed_Verify : Tab 19 = some revealed_Verify_S := by kernel_rfl
theorem tab_revealed_Gain : Tab 20 = some revealed_Gain_S := by kernel_rfl
theorem tab_saleroomref36_Gain : Tab 21 = some saleroomref36_Gain_S := by kernel_rfl
theorem tab_saleroomlaw37_few : Tab 22 = some saleroomlaw37_few_S := by kernel_rfl
theorem tab_saleroomref37_Moderate : Tab 23 = some saleroomref37_Moderate_S := by kernel_rfl
theorem tab_saleroomlaw37_awake : Tab 24 = some saleroomlaw37_awake_S := by kernel_rfl
theorem tab_activity_Accept : Tab 25 = some activity_Accept_S := by kernel_rfl
theorem tab_saleroomref37_Accept : Tab 26 = some saleroomref37_Accept_S := by kernel_rfl
theorem tab_activity_Eligibility : Tab 27 = some activity_Eligibility_S := by kernel_rfl
theorem tab_saleroomref37_Eligibility : Tab 28 = some saleroomref37_Eligibility_S := by kernel_rfl
theorem tab_activity_Exited : Tab 29 = some activity_Exited_S := by kernel_rfl
theorem tab_saleroomref37_Exited : Tab 30 = some saleroomref37_Exited_S := by kernel_rfl
theorem tab_activity_Affordable : Tab 31 = some activity_Affordable_S := by kernel_rfl
theorem tab_saleroomref37_Affordable : Tab 32 = some saleroomref37_Affordable_S := by kernel_rfl
theorem tab_saleroomref08_Check : Tab 33 = some saleroomref08_Check_S := by kernel_rfl
theorem tab_saleroomlaw37_demand : Tab 34 = some saleroomlaw37_demand_S := by kernel_rfl
theorem tab_saleroomref07_Check : Tab 35 = some saleroomref07_Check_S := by kernel_rfl
theorem tab_saleroomref37_Consistent : Tab 36 = some saleroomref37_Consistent_S := by kernel_rfl
theorem tab_demandset_Path : Tab 37 = some demandset_Path_S := by kernel_rfl
theorem tab_saleroomlaw36_contrary : Tab 38 = some saleroomlaw36_contrary_S := by kernel_rfl
theorem tab_revealed_allValid : Tab 39 = some revealed_allValid_S := by kernel_rfl
theorem tab_revealed_lowered : Tab 40 = some revealed_lowered_S := by kernel_rfl
theorem tab_bundle_Cost : Tab 41 = some bundle_Cost_S := by kernel_rfl
theorem tab_saleroomref36_Shortest : Tab 42 = some saleroomref36_Shortest_S := by kernel_rfl
theorem tab_saleroomref36_Cost : Tab 43 = some saleroomref36_Cost_S := by kernel_rfl
theorem tab_saleroomref36_Valid : Tab 44 = some saleroomref36_Valid_S := by kernel_rfl
theorem tab_saleroomref36_explains : Tab 45 = some saleroomref36_explains_S := by kernel_rfl
theorem tab_revealed_formed : Tab 46 = some revealed_formed_S := by kernel_rfl
theorem tab_revealed_explains : Tab 47 = some revealed_explains_S := by kernel_rfl
theorem tab_revealed_gain : Tab 48 = some revealed_gain_S := by kernel_rfl
theorem tab_revealed_valid : Tab 49 = some revealed_valid_S := by kernel_rfl
theorem tab_saleroomlaw37_sale : Tab 50 = some saleroomlaw37_sale_S := by kernel_rfl
theorem tab_activity_history_fits : Tab 51 = some activity_history_fits_S := by kernel_rfl
theorem tab_activity_history_agrees : Tab 52 = some activity_history_agrees_S := by kernel_rfl
theorem tab_activity_history_either : Tab 53 = some activity_history_either_S := by kernel_rfl
theorem tab_activity_has : Tab 54 = some activity_has_S := by kernel_rfl
theorem tab_bundle_Check : Tab 55 = some bundle_Check_S := by kernel_rfl
theorem tab_activity_Accept_1 : Tab 56 = some activity_Accept_1_S := by kernel_rfl
theorem tab_saleroomref37_bidder : Tab 57 = some saleroomref37_bidder_S := by kernel_rfl
theorem tab_saleroomref37_points : Tab 58 = some saleroomref37_points_S := by kernel_rfl
theorem tab_activity_history_points : Tab 59 = some activity_history_points_S := by kernel_rfl
theorem tab_saleroomref37_cost : Tab 60 = some saleroomref37_cost_S := by kernel_rfl
theorem tab_saleroomref08_IsName : Tab 61 = some saleroomref08_IsName_S := by kernel_rfl
theorem tab_revealed_cycle : Tab 63 = some revealed_cycle_S := by kernel_rfl
theorem tab_saleroomref07_Cost : Tab 64 = some saleroomref07_Cost_S := by kernel_rfl
theorem tab_saleroomref07_Prices : Tab 65 = some saleroomref07_Prices_S := by kernel_rfl
theorem tab_saleroomref08_Sums : Tab 66 = some saleroomref08_Sums_S := by kernel_rfl
theorem tab_catalog_Points : Tab 67 = some catalog_Points_S := by kernel_rfl
theorem tab_demandset_valid : Tab 68 = some demandset_valid_S := by kernel_rfl
theorem tab_demandset_offers_utility : Tab 69 = some demandset_offers_utility_S := by kernel_rfl
theorem tab_demandset_counting : Tab 70 = some demandset_counting_S := by kernel_rfl
theorem tab_bundle_All : Tab 71 = some bundle_All_S := by kernel_rfl
theorem tab_saleroomref08_Valid : Tab 72 = some saleroomref08_Valid_S := by kernel_rfl
theorem tab_catalog_units_sum : Tab 73 = some catalog_units_sum_S := by kernel_rfl
theorem tab_catalog_Points_1 : Tab 74 = some catalog_Points_1_S := by kernel_rfl
theorem tab_flatten_Value : Tab 75 = some flatten_Value_S := by kernel_rfl
theorem tab_bundle_Count : Tab 76 = some bundle_Count_S := by kernel_rfl
theorem tab_bundle_All_1 : Tab 77 = some bundle_All_1_S := by kernel_rfl
theorem tab_bundle_each : Tab 78 = some bundle_each_S := by kernel_rfl
theorem tab_catalog_Check : Tab 79 = some catalog_Check_S := by kernel_rfl
theorem tab_bundle_Within : Tab 80 = some bundle_Within_S := by kernel_rfl
theorem tab_bundle_each_1 : Tab 81 = some bundle_each_1_S := by kernel_rfl
theorem tab_bundle_following : Tab 82 = some bundle_following_S := by kernel_rfl
theorem tab_lexer_IsName : Tab 83 = some lexer_IsName_S := by kernel_rfl
theorem tab_catalog_Find : Tab 84 = some catalog_Find_S := by kernel_rfl
theorem tab_catalog_between : Tab 85 = some catalog_between_S := by kernel_rfl
theorem tab_catalog_Supply : Tab 86 = some catalog_Supply_S := by kernel_rfl
theorem tab_bundle_Meet : Tab 87 = some bundle_Meet_S := by kernel_rfl
theorem tab_lexer_letter : Tab 88 = some lexer_letter_S := by kernel_rfl
theorem tab_lexer_run : Tab 89 = some lexer_run_S := by kernel_rfl
theorem tab_lexer_inner : Tab 90 = some lexer_inner_S := by kernel_rfl
theorem tab_lexer_digit : Tab 91 = some lexer_digit_S := by kernel_rfl
end Go.Proofs.Ythjahianafohjaa
