/- The trees of this seat's functions, part 2. Written by txgen.py. -/
import Derived.Test.YthjahianafohjaaHTab
set_option linter.unusedSimpArgs false
set_option linter.unusedVariables false
set_option maxRecDepth 100000
namespace Go.Proofs.Ythjahianafohjaa
open Go.Sx
def saleroomlaw36_RevealedSound_s : PT :=
 (.need (.is 0 0)
 (.ite (.lt (.l 14) (.slen 0))
  (.call 14 [] [] [(.one .bool)]
  (.ret false (.bool (.a 0)) []))
  (.need (.is 0 1)
  (.ite (.lt (.l 40) (.slen 1))
   (.call 14 [] [] [(.one .bool)]
   (.ret false (.bool (.a 0)) []))
   (.need (.is 0 2)
   (.ite (.lt (.l 1000) (.slen 2))
    (.call 14 [] [] [(.one .bool)]
    (.ret false (.bool (.a 0)) []))
    (.need (.is 0 2)
    (.ite (.eq (.slen 2) (.l 0))
     (.call 14 [] [] [(.one .bool)]
     (.ret false (.bool (.a 0)) []))
     (.call 15 [(.va 0)] [] [(.agg [.val, .val]), (.one .bool)]
     (.call 19 [(.va 0), (.agg [.nilS, (.va 1)])] [] [(.one (.int .i64))]
     (.ite (.eq (.a 0) (.l 0))
      (.ite (.not (.a 0))
       (.ret false (.bool (.t false)) [])
       (.call 19 [(.va 0), (.agg [(.va 2), .nilS])] [] [(.one (.int .i64))]
       (.ite (.not (.eq (.a 1) (.l 0)))
        (.call 14 [] [] [(.one .bool)]
        (.ret false (.bool (.a 1)) []))
        (.ite (.not (.a 0))
         (.call 14 [] [] [(.one .bool)]
         (.ret false (.bool (.a 1)) []))
         (.ret false (.bool (.t false)) [])))))
      (.call 19 [(.va 0), (.agg [(.va 2), .nilS])] [] [(.one (.int .i64))]
      (.ite (.not (.eq (.a 1) (.l 0)))
       (.call 14 [] [] [(.one .bool)]
       (.ret false (.bool (.a 1)) []))
       (.ite (.not (.a 0))
        (.call 14 [] [] [(.one .bool)]
        (.ret false (.bool (.a 1)) []))
        (.ret false (.bool (.t false)) [])))))))))))))))
def saleroomlaw36_RevealedSound_S : Sx.Sys := ⟨[(.sh (.one .val)), (.sh (.one .val)), (.sh (.one .val))], saleroomlaw36_RevealedSound_s, []⟩
def saleroomlaw36_RevealedSound_pats : List Cfg := []
theorem saleroomlaw36_RevealedSound_ok : SysOk Try.prog 5 saleroomlaw36_RevealedSound_S := sys_ok (c := (cg [] [] [] false false false true)) (progOkG _ _ _ _ _ _ _) Try.func5 Try.call5 (by kernel_rfl) saleroomlaw36_RevealedSound_pats saleroomlaw36_RevealedSound_S 5000 rfl (by kernel_rfl) (by kernel_rfl)
def saleroomref36_Check_s : PT :=
 (.call 17 [(.va 0)] [] [(.one .bool)]
 (.ite (.not (.a 0))
  (.ret false (.tup [(.agg [.nilS, .nilS]), (.bool (.t false))]) [])
  (.call 42 [(.va 0)] [] [(.one .val), (.one .bool)]
  (.ite (.not (.a 1))
   (.ret false (.tup [(.agg [.nilS, .nilS]), (.bool (.t false))]) [])
   (.need (.is 0 0)
   (.mkM (.slen 0) [(.int .i64 (.l 0))] 2 1 8
   (.jump 0 [(.l 0)] [] [(.va 0), (.va 1), (.va 2)])))))))
def saleroomref36_Check_t0 : PT :=
 (.need (.is 0 0)
 (.ite (.lt (.a 0) (.slen 0))
  (.jump 1 [(.a 0), (.l 0)] [] [(.va 0), (.va 1), (.va 2)])
  (.jump 2 [(.l 0), (.l 0)] [(.t false)] [(.va 0), (.va 2)])))
def saleroomref36_Check_t1_b1 : PT :=
 (.need (.and (.le (.l 0) (.a 0)) (.lt (.a 0) (.slen 2)))
   (.load true (.ea 2 (.a 0) 1 0) [(.int .i64)]
   (.need (.and (.le (.l 0) (.a 0)) (.lt (.a 0) (.slen 2)))
   (.storeM (.ea 2 (.a 0) 1 0) [(.int .i64 (.mn (.a 3) (.a 2)))]
   (.need (.and (.le (.l (-9223372036854775808)) (.add (.a 1) (.l 1))) (.le (.add (.a 1) (.l 1)) (.l 9223372036854775807)))
   (.jump 1 [(.a 0), (.add (.a 1) (.l 1))] [] [(.va 0), (.va 1), (.va 2)]))))))
def saleroomref36_Check_t1 : PT :=
 (.need (.is 0 0)
 (.ite (.lt (.a 1) (.slen 0))
  (.need (.and (.le (.l 0) (.a 1)) (.lt (.a 1) (.slen 1)))
  (.load true (.ea 1 (.a 1) 1 0) [.val]
  (.need (.and (.le (.l 0) (.a 0)) (.lt (.a 0) (.slen 3)))
  (.load true (.ea 3 (.a 0) 1 0) [(.int .i64)]
  (.both saleroomref36_Check_t1_b1 saleroomref36_Check_t1_b1)))))
  (.need (.and (.le (.l (-9223372036854775808)) (.add (.a 0) (.l 1))) (.le (.add (.a 0) (.l 1)) (.l 9223372036854775807)))
  (.jump 0 [(.add (.a 0) (.l 1))] [] [(.va 0), (.va 1), (.va 2)]))))
def saleroomref36_Check_t2 : PT :=
 (.need (.is 0 0)
 (.ite (.lt (.a 1) (.slen 0))
  (.need (.and (.le (.l 0) (.a 1)) (.lt (.a 1) (.slen 0)))
  (.load false (.ea 0 (.a 1) 12 6) [(.int .i64), (.int .i64), (.int .i64), (.int .i64), (.int .i64), (.int .i64)]
  (.ite (.and (.eq (.a 2) (.l 0)) (.and (.eq (.a 3) (.l 0)) (.and (.eq (.a 4) (.l 0)) (.and (.eq (.a 5) (.l 0)) (.and (.eq (.a 6) (.l 0)) (.eq (.a 7) (.l 0)))))))
   (.need (.and (.le (.l 0) (.a 1)) (.lt (.a 1) (.slen 1)))
   (.load false (.ea 1 (.a 1) 1 0) [(.int .i64)]
   (.need (.and (.le (.l (-9223372036854775808)) (.sub (.l 0) (.a 8))) (.le (.sub (.l 0) (.a 8)) (.l 9223372036854775807)))
   (.need (.and (.le (.l (-9223372036854775808)) (.add (.a 1) (.l 1))) (.le (.add (.a 1) (.l 1)) (.l 9223372036854775807)))
   (.jump 2 [(.sub (.l 0) (.a 8)), (.add (.a 1) (.l 1))] [(.t true)] [(.va 0), (.va 1)])))))
   (.need (.and (.le (.l (-9223372036854775808)) (.add (.a 1) (.l 1))) (.le (.add (.a 1) (.l 1)) (.l 9223372036854775807)))
   (.jump 2 [(.a 0), (.add (.a 1) (.l 1))] [(.a 0)] [(.va 0), (.va 1)])))))
  (.jump 3 [(.a 0), (.l 0)] [(.a 0)] [(.va 0), (.va 1)])))
def saleroomref36_Check_t3 : PT :=
 (.need (.is 0 0)
 (.ite (.lt (.a 1) (.slen 0))
  (.ite (.not (.a 0))
   (.need (.and (.le (.l 0) (.a 1)) (.lt (.a 1) (.slen 0)))
   (.need (.and (.le (.l 0) (.a 1)) (.lt (.a 1) (.slen 0)))
   (.need (.and (.le (.l 0) (.a 1)) (.lt (.a 1) (.slen 1)))
   (.load true (.ea 0 (.a 1) 12 0) [(.int .i64), (.int .i64), (.int .i64), (.int .i64), (.int .i64), (.int .i64), (.int .i64), (.int .i64), (.int .i64), (.int .i64), (.int .i64), (.int .i64)]
   (.load true (.ea 0 (.a 1) 12 6) [(.int .i64), (.int .i64), (.int .i64), (.int .i64), (.int .i64), (.int .i64)]
   (.load true (.ea 1 (.a 1) 1 0) [(.int .i64)]
   (.call 43 [(.agg [(.int .i64 (.a 2)), (.int .i64 (.a 3)), (.int .i64 (.a 4)), (.int .i64 (.a 5)), (.int .i64 (.a 6)), (.int .i64 (.a 7)), (.int .i64 (.a 8)), (.int .i64 (.a 9)), (.int .i64 (.a 10)), (.int .i64 (.a 11)), (.int .i64 (.a 12)), (.int .i64 (.a 13))]), (.agg [(.int .i64 (.a 14)), (.int .i64 (.a 15)), (.int .i64 (.a 16)), (.int .i64 (.a 17)), (.int .i64 (.a 18)), (.int .i64 (.a 19))])] [] [(.one (.int .i64))]
   (.need (.and (.le (.l (-9223372036854775808)) (.sub (.a 21) (.a 20))) (.le (.sub (.a 21) (.a 20)) (.l 9223372036854775807)))
   (.need (.and (.le (.l (-9223372036854775808)) (.add (.a 1) (.l 1))) (.le (.add (.a 1) (.l 1)) (.l 9223372036854775807)))
   (.jump 3 [(.mx (.a 0) (.sub (.a 21) (.a 20))), (.add (.a 1) (.l 1))] [(.a 0)] [(.va 0), (.va 1)]))))))))))
   (.jump 4 [(.a 0), (.l 0)] [] [(.va 0), (.va 1)]))
  (.jump 4 [(.a 0), (.l 0)] [] [(.va 0), (.va 1)])))
def saleroomref36_Check_t4_b1 : PT :=
 (.need (.and (.le (.l 0) (.a 1)) (.lt (.a 1) (.slen 1)))
   (.load true (.ea 1 (.a 1) 1 0) [(.int .i64)]
   (.need (.and (.le (.l (-9223372036854775808)) (.add (.a 2) (.a 0))) (.le (.add (.a 2) (.a 0)) (.l 9223372036854775807)))
   (.need (.and (.le (.l 0) (.a 1)) (.lt (.a 1) (.slen 1)))
   (.storeM (.ea 1 (.a 1) 1 0) [(.int .i64 (.add (.a 2) (.a 0)))]
   (.need (.and (.le (.l (-9223372036854775808)) (.add (.a 1) (.l 1))) (.le (.add (.a 1) (.l 1)) (.l 9223372036854775807)))
   (.jump 4 [(.a 0), (.add (.a 1) (.l 1))] [] [(.va 0), (.va 1)])))))))
def saleroomref36_Check_t4 : PT :=
 (.need (.is 0 0)
 (.ite (.lt (.a 1) (.slen 0))
  (.both saleroomref36_Check_t4_b1 saleroomref36_Check_t4_b1)
  (.ret false (.tup [(.agg [.nilS, (.va 1)]), (.bool (.t true))]) [])))
def saleroomref36_Check_S : Sx.Sys := ⟨[(.sh (.one .val))], saleroomref36_Check_s, [saleroomref36_Check_t0, saleroomref36_Check_t1, saleroomref36_Check_t2, saleroomref36_Check_t3, saleroomref36_Check_t4]⟩
def saleroomref36_Check_pats : List Cfg := [{ todo := [(.code [false, false, true, false, true, true, true, true, true, true, true]), (.inLoop [false, false, true, false, true, true, true, true, true, true, true]), (.inBlock 0), (.code [true, true, true, true, true, true, true, true])], sl := [(.va 0), .undef, (.ptr 0 0), (.junk 0), (.va 1), (.junk 1), (.ptr 1 0), (.int .i64 (.l 0)), (.bool (.t false)), (.int .i64 (.a 0)), (.junk 2), .undef, .undef, .undef, (.junk 3), (.junk 4), (.junk 5), .undef, (.junk 6), (.junk 7), (.junk 8), (.junk 9), (.junk 10), (.junk 11), (.junk 12), .undef, (.junk 13), (.junk 14), (.junk 15), (.junk 16), (.junk 17), (.junk 18), (.junk 19), (.junk 20), (.junk 21), (.junk 22), (.junk 23), (.junk 24), (.junk 25), (.junk 26), (.junk 27), (.junk 28), (.junk 29), (.junk 30), (.junk 31), (.junk 32), (.junk 33), (.junk 34), (.junk 35), (.junk 36), (.junk 37), (.junk 38), (.junk 39), (.junk 40), (.junk 41), (.junk 42), (.junk 43), (.junk 44), (.junk 45), .undef, .undef, .undef, .undef, .undef, .undef, .undef, .undef, .undef, .undef, .undef, .undef, .undef, .undef, .undef, .undef, .undef, .undef, .undef, .undef, .undef, .undef, .undef, .undef, .undef, .undef, .undef, .undef, .undef, .undef, .undef, .undef, .undef, .undef, .undef, .undef, .undef, .undef, .undef, .undef, .undef, .undef, .undef, .undef, .undef, .undef, .undef, .undef, .undef, .undef, .undef, .undef, .undef, .undef, .undef, .undef, .undef, .undef, .undef, .undef, .undef, .undef, .undef, .undef, .undef], H := [(.cells [.nilS, .nilS] 30 false), (.cells [.nilS, (.va 2)] 30 false)], ni := 1, nb := 0, nv := 3, nj := 46 },
 { todo := [(.code [false, false, true, false, false, true, false, false, true, false, true, true, true, true, true, true, true]), (.inLoop [false, false, true, false, false, true, false, false, true, false, true, true, true, true, true, true, true]), (.inBlock 2), (.inBlock 1), (.code [true, true, false, false, true, false, true, true, true, true, true, true, true]), (.inLoop [false, false, true, false, true, true, true, true, true, true, true]), (.inBlock 0), (.code [true, true, true, true, true, true, true, true])], sl := [(.va 0), .undef, (.ptr 0 0), (.junk 0), (.va 1), (.junk 1), (.ptr 1 0), (.int .i64 (.l 0)), (.bool (.t false)), (.int .i64 (.a 0)), (.int .i64 (.a 1)), .undef, .undef, .undef, (.junk 2), (.junk 3), (.junk 4), .undef, (.junk 5), (.junk 6), (.junk 7), (.junk 8), (.junk 9), (.junk 10), (.junk 11), .undef, (.junk 12), (.junk 13), (.junk 14), (.junk 15), (.junk 16), (.junk 17), (.junk 18), (.junk 19), (.junk 20), (.junk 21), (.junk 22), (.junk 23), (.junk 24), (.junk 25), (.junk 26), (.junk 27), (.junk 28), (.junk 29), (.junk 30), (.junk 31), (.junk 32), (.junk 33), (.junk 34), (.junk 35), (.junk 36), (.junk 37), (.junk 38), (.junk 39), (.junk 40), (.junk 41), (.junk 42), (.junk 43), (.junk 44), .undef, .undef, .undef, .undef, .undef, .undef, .undef, .undef, .undef, .undef, .undef, .undef, .undef, .undef, .undef, .undef, .undef, .undef, .undef, .undef, .undef, .undef, .undef, .undef, .undef, .undef, .undef, .undef, .undef, .undef, .undef, .undef, .undef, .undef, .undef, .undef, .undef, .undef, .undef, .undef, .undef, .undef, .undef, .undef, .undef, .undef, .undef, .undef, .undef, .undef, .undef, .undef, .undef, .undef, .undef, .undef, .undef, .undef, .undef, .undef, .undef, .undef, .undef, .undef, .undef], H := [(.cells [.nilS, .nilS] 30 false), (.cells [.nilS, (.va 2)] 30 false)], ni := 2, nb := 0, nv := 3, nj := 45 },
 { todo := [(.code [false, false, true, false, true, true, true, true, true, true, true, true]), (.inLoop [false, false, true, false, true, true, true, true, true, true, true, true]), (.inBlock 4), (.code [true, true, true, true, true, true, true, true, true])], sl := [(.va 0), .undef, (.ptr 0 0), (.junk 0), (.junk 1), (.junk 2), (.ptr 1 0), (.int .i64 (.a 0)), (.bool (.a 0)), (.junk 3), (.junk 4), (.int .i64 (.a 1)), .undef, .undef, (.junk 5), (.junk 6), (.junk 7), .undef, (.junk 8), (.junk 9), (.junk 10), (.junk 11), (.junk 12), (.junk 13), (.junk 14), .undef, (.junk 15), (.junk 16), (.junk 17), (.junk 18), (.junk 19), (.junk 20), (.junk 21), (.junk 22), (.junk 23), (.junk 24), (.junk 25), (.junk 26), (.junk 27), (.junk 28), (.junk 29), (.junk 30), (.junk 31), (.junk 32), (.junk 33), (.junk 34), (.junk 35), (.junk 36), (.junk 37), (.junk 38), (.junk 39), (.junk 40), (.junk 41), (.junk 42), (.junk 43), (.junk 44), (.junk 45), (.junk 46), (.junk 47), (.junk 48), (.junk 49), (.junk 50), (.junk 51), (.junk 52), (.junk 53), (.junk 54), (.junk 55), (.junk 56), (.junk 57), (.junk 58), (.junk 59), (.junk 60), (.junk 61), (.junk 62), (.junk 63), (.junk 64), (.junk 65), (.junk 66), .undef, .undef, .undef, .undef, .undef, .undef, .undef, .undef, .undef, .undef, .undef, .undef, .undef, .undef, .undef, .undef, .undef, .undef, .undef, .undef, .undef, .undef, .undef, .undef, .undef, .undef, .undef, .undef, .undef, .undef, .undef, .undef, .undef, .undef, .undef, .undef, .undef, .undef, .undef, .undef, .undef, .undef, .undef, .undef, .undef, .undef], H := [(.cells [.nilS, .nilS] 30 false), (.cells [.nilS, (.va 1)] 30 false)], ni := 2, nb := 1, nv := 2, nj := 67 },
 { todo := [(.code [false, false, true, false, true, true, true, true, true, true, true, true, true]), (.inLoop [false, false, true, false, true, true, true, true, true, true, true, true, true]), (.inBlock 6), (.code [true, true, true, true, true, true, true, true, true, true])], sl := [(.va 0), .undef, (.ptr 0 0), (.junk 0), (.junk 1), (.junk 2), (.ptr 1 0), (.int .i64 (.a 0)), (.bool (.a 0)), (.junk 3), (.junk 4), (.junk 5), (.int .i64 (.a 1)), .undef, (.junk 6), (.junk 7), (.junk 8), .undef, (.junk 9), (.junk 10), (.junk 11), (.junk 12), (.junk 13), (.junk 14), (.junk 15), .undef, (.junk 16), (.junk 17), (.junk 18), (.junk 19), (.junk 20), (.junk 21), (.junk 22), (.junk 23), (.junk 24), (.junk 25), (.junk 26), (.junk 27), (.junk 28), (.junk 29), (.junk 30), (.junk 31), (.junk 32), (.junk 33), (.junk 34), (.junk 35), (.junk 36), (.junk 37), (.junk 38), (.junk 39), (.junk 40), (.junk 41), (.junk 42), (.junk 43), (.junk 44), (.junk 45), (.junk 46), (.junk 47), (.junk 48), (.junk 49), (.junk 50), (.junk 51), (.junk 52), (.junk 53), (.junk 54), (.junk 55), (.junk 56), (.junk 57), (.junk 58), (.junk 59), (.junk 60), (.junk 61), (.junk 62), (.junk 63), (.junk 64), (.junk 65), (.junk 66), (.junk 67), (.junk 68), (.junk 69), (.junk 70), (.junk 71), (.junk 72), (.junk 73), (.junk 74), (.junk 75), (.junk 76), (.junk 77), (.junk 78), (.junk 79), (.junk 80), (.junk 81), (.junk 82), (.junk 83), (.junk 84), (.junk 85), (.junk 86), (.junk 87), (.junk 88), (.junk 89), (.junk 90), (.junk 91), (.junk 92), (.junk 93), (.junk 94), (.junk 95), .undef, .undef, .undef, .undef, .undef, .undef, .undef, .undef, .undef, .undef, .undef, .undef, .undef, .undef, .undef, .undef, .undef, .undef], H := [(.cells [.nilS, .nilS] 30 false), (.cells [.nilS, (.va 1)] 30 false)], ni := 2, nb := 1, nv := 2, nj := 96 },
 { todo := [(.code [false, false, true, false, true, true, true, true, true, true, true, true, true, true]), (.inLoop [false, false, true, false, true, true, true, true, true, true, true, true, true, true]), (.inBlock 8), (.code [true, true, true, true, true, true, true, true, true, true, true])], sl := [(.va 0), .undef, (.ptr 0 0), (.junk 0), (.junk 1), (.junk 2), (.ptr 1 0), (.int .i64 (.a 0)), (.junk 3), (.junk 4), (.junk 5), (.junk 6), (.junk 7), (.int .i64 (.a 1)), (.junk 8), (.junk 9), (.junk 10), .undef, (.junk 11), (.junk 12), (.junk 13), (.junk 14), (.junk 15), (.junk 16), (.junk 17), .undef, (.junk 18), (.junk 19), (.junk 20), (.junk 21), (.junk 22), (.junk 23), (.junk 24), (.junk 25), (.junk 26), (.junk 27), (.junk 28), (.junk 29), (.junk 30), (.junk 31), (.junk 32), (.junk 33), (.junk 34), (.junk 35), (.junk 36), (.junk 37), (.junk 38), (.junk 39), (.junk 40), (.junk 41), (.junk 42), (.junk 43), (.junk 44), (.junk 45), (.junk 46), (.junk 47), (.junk 48), (.junk 49), (.junk 50), (.junk 51), (.junk 52), (.junk 53), (.junk 54), (.junk 55), (.junk 56), (.junk 57), (.junk 58), (.junk 59), (.junk 60), (.junk 61), (.junk 62), (.junk 63), (.junk 64), (.junk 65), (.junk 66), (.junk 67), (.junk 68), (.junk 69), (.junk 70), (.junk 71), (.junk 72), (.junk 73), (.junk 74), (.junk 75), (.junk 76), (.junk 77), (.junk 78), (.junk 79), (.junk 80), (.junk 81), (.junk 82), (.junk 83), (.junk 84), (.junk 85), (.junk 86), (.junk 87), (.junk 88), (.junk 89), (.junk 90), (.junk 91), (.junk 92), (.junk 93), (.junk 94), (.junk 95), (.junk 96), (.junk 97), (.junk 98), (.junk 99), (.junk 100), (.junk 101), (.junk 102), (.junk 103), (.junk 104), (.junk 105), (.junk 106), (.junk 107), (.junk 108), (.junk 109), (.junk 110), (.junk 111), (.junk 112), (.junk 113), (.junk 114), .undef], H := [(.cells [.nilS, .nilS] 30 false), (.cells [.nilS, (.va 1)] 30 false)], ni := 2, nb := 0, nv := 2, nj := 115 }]
theorem saleroomref36_Check_ok : SysOk Try.prog 16 saleroomref36_Check_S := sys_ok (c := (cg [[false, false, true, false, true, true, true, true, true, true, true], [false, false, true, false, false, true, false, false, true, false, true, true, true, true, true, true, true], [false, false, true, false, true, true, true, true, true, true, true, true], [false, false, true, false, true, true, true, true, true, true, true, true, true], [false, false, true, false, true, true, true, true, true, true, true, true, true, true]] [] [] false false false true)) (progOkG _ _ _ _ _ _ _) Try.func16 Try.call16 (by kernel_rfl) saleroomref36_Check_pats saleroomref36_Check_S 5000 rfl (by kernel_rfl) (by kernel_rfl)
def saleroomlaw37_awake_s : PT :=
 (.call 50 [] [] [(.agg [.val, .val, .val, .val])]
 (.app none (.lit [[(.int .i64 (.l 1)), (.int .i64 (.l 1)), (.int .i64 (.l 0)), (.int .i64 (.l 0)), (.int .i64 (.l 0)), (.int .i64 (.l 0)), (.int .i64 (.l 1)), (.int .i64 (.l 0)), (.int .i64 (.l 0)), (.int .i64 (.l 0)), (.int .i64 (.l 0)), (.int .i64 (.l 0))]]) 12
 (.app none (.lit [[(.int .i64 (.l 1)), (.int .i64 (.l 1)), (.int .i64 (.l 0)), (.int .i64 (.l 0)), (.int .i64 (.l 0)), (.int .i64 (.l 0)), (.int .i64 (.l 0)), (.int .i64 (.l 0)), (.int .i64 (.l 0)), (.int .i64 (.l 0)), (.int .i64 (.l 0)), (.int .i64 (.l 0))]]) 12
 (.call 25 [(.agg [(.va 0), (.va 1), (.va 2), (.va 3)]), (.int .i64 (.l 2)), (.int .i64 (.l 0)), (.va 4), (.agg [(.int .i64 (.l 1)), (.int .i64 (.l 2)), (.int .i64 (.l 0)), (.int .i64 (.l 0)), (.int .i64 (.l 0)), (.int .i64 (.l 0)), (.int .i64 (.l 0)), (.int .i64 (.l 1)), (.int .i64 (.l 0)), (.int .i64 (.l 0)), (.int .i64 (.l 0)), (.int .i64 (.l 0))])] [] [(.one (.int .i64))]
 (.ite (.not (.eq (.a 0) (.l 15)))
  (.ret false (.bool (.t false)) [])
  (.call 25 [(.agg [(.va 0), (.va 1), (.va 2), (.va 3)]), (.int .i64 (.l 1)), (.int .i64 (.l 0)), (.va 4), (.agg [(.int .i64 (.l 1)), (.int .i64 (.l 2)), (.int .i64 (.l 0)), (.int .i64 (.l 0)), (.int .i64 (.l 0)), (.int .i64 (.l 0)), (.int .i64 (.l 0)), (.int .i64 (.l 1)), (.int .i64 (.l 0)), (.int .i64 (.l 0)), (.int .i64 (.l 0)), (.int .i64 (.l 0))])] [] [(.one (.int .i64))]
  (.ite (.not (.eq (.a 1) (.l 0)))
   (.ret false (.bool (.t false)) [])
   (.call 25 [(.agg [(.va 0), (.va 1), (.va 2), (.va 3)]), (.int .i64 (.l 3)), (.int .i64 (.l 0)), (.va 4), (.agg [(.int .i64 (.l 1)), (.int .i64 (.l 2)), (.int .i64 (.l 0)), (.int .i64 (.l 0)), (.int .i64 (.l 0)), (.int .i64 (.l 0)), (.int .i64 (.l 0)), (.int .i64 (.l 1)), (.int .i64 (.l 0)), (.int .i64 (.l 0)), (.int .i64 (.l 0)), (.int .i64 (.l 0))])] [] [(.one (.int .i64))]
   (.ite (.not (.eq (.a 2) (.l 0)))
    (.ret false (.bool (.t false)) [])
    (.call 25 [(.agg [(.va 0), (.va 1), (.va 2), (.va 3)]), (.int .i64 (.l 1)), (.int .i64 (.l 0)), .nilS, (.agg [(.int .i64 (.l 0)), (.int .i64 (.l 0)), (.int .i64 (.l 0)), (.int .i64 (.l 0)), (.int .i64 (.l 0)), (.int .i64 (.l 0)), (.int .i64 (.l 1)), (.int .i64 (.l 0)), (.int .i64 (.l 0)), (.int .i64 (.l 0)), (.int .i64 (.l 0)), (.int .i64 (.l 0))])] [] [(.one (.int .i64))]
    (.ite (.not (.eq (.a 3) (.l 0)))
     (.ret false (.bool (.t false)) [])
     (.call 25 [(.agg [(.va 0), (.va 1), (.va 2), (.va 3)]), (.int .i64 (.l 1)), (.int .i64 (.l 0)), .nilS, (.agg [(.int .i64 (.l 0)), (.int .i64 (.l 0)), (.int .i64 (.l 0)), (.int .i64 (.l 0)), (.int .i64 (.l 0)), (.int .i64 (.l 0)), (.int .i64 (.l 2)), (.int .i64 (.l 0)), (.int .i64 (.l 0)), (.int .i64 (.l 0)), (.int .i64 (.l 0)), (.int .i64 (.l 0))])] [] [(.one (.int .i64))]
     (.ite (.not (.eq (.a 4) (.l 15)))
      (.ret false (.bool (.t false)) [])
      (.call 25 [(.agg [(.va 0), (.va 1), (.va 2), (.va 3)]), (.int .i64 (.l 4)), (.int .i64 (.l 0)), .nilS, (.agg [(.int .i64 (.l 1)), (.int .i64 (.l 2)), (.int .i64 (.l 0)), (.int .i64 (.l 0)), (.int .i64 (.l 0)), (.int .i64 (.l 0)), (.int .i64 (.l 0)), (.int .i64 (.l 1)), (.int .i64 (.l 0)), (.int .i64 (.l 0)), (.int .i64 (.l 0)), (.int .i64 (.l 0))])] [] [(.one (.int .i64))]
      (.ite (.not (.eq (.a 5) (.l 4)))
       (.ret false (.bool (.t false)) [])
       (.call 25 [(.agg [(.va 0), (.va 1), (.va 2), (.va 3)]), (.int .i64 (.l 1)), (.int .i64 (.l 1)), .nilS, (.agg [(.int .i64 (.l 1)), (.int .i64 (.l 2)), (.int .i64 (.l 0)), (.int .i64 (.l 0)), (.int .i64 (.l 0)), (.int .i64 (.l 0)), (.int .i64 (.l 0)), (.int .i64 (.l 1)), (.int .i64 (.l 0)), (.int .i64 (.l 0)), (.int .i64 (.l 0)), (.int .i64 (.l 0))])] [] [(.one (.int .i64))]
       (.ite (.not (.eq (.a 6) (.l 6)))
        (.ret false (.bool (.t false)) [])
        (.call 29 [(.va 5)] [] [(.one .bool)]
        (.ite (.not (.a 0))
         (.ret false (.bool (.t false)) [])
         (.call 29 [(.va 4)] [] [(.one .bool)]
         (.ite (.a 1)
          (.ret false (.bool (.t false)) [])
          (.call 29 [.nilS] [] [(.one .bool)]
          (.ite (.a 2)
           (.ret false (.bool (.t false)) [])
           (.call 25 [(.agg [(.va 0), (.va 1), (.va 2), (.va 3)]), (.int .i64 (.l 2)), (.int .i64 (.l 0)), (.va 5), (.agg [(.int .i64 (.l 1)), (.int .i64 (.l 2)), (.int .i64 (.l 0)), (.int .i64 (.l 0)), (.int .i64 (.l 0)), (.int .i64 (.l 0)), (.int .i64 (.l 0)), (.int .i64 (.l 1)), (.int .i64 (.l 0)), (.int .i64 (.l 0)), (.int .i64 (.l 0)), (.int .i64 (.l 0))])] [] [(.one (.int .i64))]
           (.ite (.not (.eq (.a 7) (.l 15)))
            (.ret false (.bool (.t false)) [])
            (.call 25 [(.agg [(.va 0), (.va 1), (.va 2), (.va 3)]), (.int .i64 (.l 2)), (.int .i64 (.l 0)), (.va 5), (.agg [(.int .i64 (.l 1)), (.int .i64 (.l 2)), (.int .i64 (.l 0)), (.int .i64 (.l 0)), (.int .i64 (.l 0)), (.int .i64 (.l 0)), (.int .i64 (.l 0)), (.int .i64 (.l 0)), (.int .i64 (.l 0)), (.int .i64 (.l 0)), (.int .i64 (.l 0)), (.int .i64 (.l 0))])] [] [(.one (.int .i64))]
            (.ite (.not (.eq (.a 8) (.l 0)))
             (.ret false (.bool (.t false)) [])
             (.call 27 [(.agg [(.va 0), (.va 1), (.va 2), (.va 3)]), (.int .i64 (.l 0)), (.va 4)] [] [(.one (.int .i64))]
             (.ite (.eq (.a 9) (.l 2))
              (.call 27 [(.agg [(.va 0), (.va 1), (.va 2), (.va 3)]), (.int .i64 (.l 0)), .nilS] [] [(.one (.int .i64))]
              (.ite (.eq (.a 10) (.l 3))
               (.call 27 [(.agg [(.va 0), (.va 1), (.va 2), (.va 3)]), (.int .i64 (.l 1)), .nilS] [] [(.one (.int .i64))]
               (.ite (.eq (.a 11) (.l 0))
                (.call 31 [(.agg [(.va 0), (.va 1), (.va 2), (.va 3)]), (.int .i64 (.l 0)), (.agg [(.int .i64 (.l 5)), (.int .i64 (.l 0)), (.int .i64 (.l 0)), (.int .i64 (.l 0)), (.int .i64 (.l 0)), (.int .i64 (.l 0)), (.int .i64 (.l 2)), (.int .i64 (.l 0)), (.int .i64 (.l 0)), (.int .i64 (.l 0)), (.int .i64 (.l 0)), (.int .i64 (.l 0))])] [] [(.one (.int .i64))]
                (.ite (.eq (.a 12) (.l 17))
                 (.call 31 [(.agg [(.va 0), (.va 1), (.va 2), (.va 3)]), (.int .i64 (.l 0)), (.agg [(.int .i64 (.l 4)), (.int .i64 (.l 0)), (.int .i64 (.l 0)), (.int .i64 (.l 0)), (.int .i64 (.l 0)), (.int .i64 (.l 0)), (.int .i64 (.l 2)), (.int .i64 (.l 0)), (.int .i64 (.l 0)), (.int .i64 (.l 0)), (.int .i64 (.l 0)), (.int .i64 (.l 0))])] [] [(.one (.int .i64))]
                 (.ret false (.bool (.eq (.a 13) (.l 0))) []))
                 (.ret false (.bool (.t false)) [])))
                (.ret false (.bool (.t false)) [])))
               (.ret false (.bool (.t false)) [])))
              (.ret false (.bool (.t false)) []))))))))))))))))))))))))))))))
def saleroomlaw37_awake_S : Sx.Sys := ⟨[], saleroomlaw37_awake_s, []⟩
def saleroomlaw37_awake_pats : List Cfg := []
theorem saleroomlaw37_awake_ok : SysOk Try.prog 24 saleroomlaw37_awake_S := sys_ok (c := (cg [] [] [] false false false true)) (progOkG _ _ _ _ _ _ _) Try.func24 Try.call24 (by kernel_rfl) saleroomlaw37_awake_pats saleroomlaw37_awake_S 5000 rfl (by kernel_rfl) (by kernel_rfl)
def saleroomlaw36_contrary_s : PT :=
 (.app none (.lit [[(.int .i64 (.l 1)), (.int .i64 (.l 1)), (.int .i64 (.l 0)), (.int .i64 (.l 0)), (.int .i64 (.l 0)), (.int .i64 (.l 0)), (.int .i64 (.l 1)), (.int .i64 (.l 0)), (.int .i64 (.l 0)), (.int .i64 (.l 0)), (.int .i64 (.l 0)), (.int .i64 (.l 0))], [(.int .i64 (.l 1)), (.int .i64 (.l 2)), (.int .i64 (.l 0)), (.int .i64 (.l 0)), (.int .i64 (.l 0)), (.int .i64 (.l 0)), (.int .i64 (.l 0)), (.int .i64 (.l 1)), (.int .i64 (.l 0)), (.int .i64 (.l 0)), (.int .i64 (.l 0)), (.int .i64 (.l 0))]]) 12
 (.ret false (.va 0) []))
def saleroomlaw36_contrary_S : Sx.Sys := ⟨[], saleroomlaw36_contrary_s, []⟩
def saleroomlaw36_contrary_pats : List Cfg := []
theorem saleroomlaw36_contrary_ok : SysOk Try.prog 38 saleroomlaw36_contrary_S := sys_ok (c := (cg [] [] [] false false false true)) (progOkG _ _ _ _ _ _ _) Try.func38 Try.call38 (by kernel_rfl) saleroomlaw36_contrary_pats saleroomlaw36_contrary_S 5000 rfl (by kernel_rfl) (by kernel_rfl)
def revealed_explains_s : PT :=
 (.need (.is 0 1)
 (.need (.is 0 0)
 (.ite (.not (.eq (.slen 1) (.slen 0)))
  (.ret false (.bool (.t false)) [])
  (.need (.is 0 0)
  (.jump 0 [(.slen 0), (.l 0)] [] [(.va 0), (.va 1)])))))
def revealed_explains_t0 : PT :=
 (.ite (.lt (.a 1) (.a 0))
  (.need (.and (.le (.l 0) (.a 1)) (.lt (.a 1) (.slen 0)))
  (.load false (.ea 0 (.a 1) 12 0) [(.int .i64), (.int .i64), (.int .i64), (.int .i64), (.int .i64), (.int .i64), (.int .i64), (.int .i64), (.int .i64), (.int .i64), (.int .i64), (.int .i64)]
  (.need (.and (.le (.l 0) (.a 1)) (.lt (.a 1) (.slen 1)))
  (.load true (.ea 1 (.a 1) 1 0) [(.int .i64)]
  (.call 41 [(.agg [(.int .i64 (.a 2)), (.int .i64 (.a 3)), (.int .i64 (.a 4)), (.int .i64 (.a 5)), (.int .i64 (.a 6)), (.int .i64 (.a 7))]), (.agg [(.int .i64 (.a 8)), (.int .i64 (.a 9)), (.int .i64 (.a 10)), (.int .i64 (.a 11)), (.int .i64 (.a 12)), (.int .i64 (.a 13))])] [] [(.one (.int .i64))]
  (.ite (.lt (.a 14) (.a 15))
   (.ret false (.bool (.t false)) [])
   (.ite (.and (.eq (.a 8) (.l 0)) (.and (.eq (.a 9) (.l 0)) (.and (.eq (.a 10) (.l 0)) (.and (.eq (.a 11) (.l 0)) (.and (.eq (.a 12) (.l 0)) (.eq (.a 13) (.l 0)))))))
    (.need (.and (.le (.l 0) (.a 1)) (.lt (.a 1) (.slen 1)))
    (.load true (.ea 1 (.a 1) 1 0) [(.int .i64)]
    (.ite (.not (.eq (.a 16) (.l 0)))
     (.ret false (.bool (.t false)) [])
     (.need (.is 0 0)
     (.jump 1 [(.a 1), (.a 0), (.a 8), (.a 9), (.a 10), (.a 11), (.a 12), (.a 13), (.slen 0), (.l 0), (.a 2), (.a 3), (.a 4), (.a 5), (.a 6), (.a 7)] [(.and (.eq (.a 8) (.l 0)) (.and (.eq (.a 9) (.l 0)) (.and (.eq (.a 10) (.l 0)) (.and (.eq (.a 11) (.l 0)) (.and (.eq (.a 12) (.l 0)) (.eq (.a 13) (.l 0))))))), (.t true), (.not (.eq (.a 16) (.l 0)))] [(.va 0), (.va 1)])))))
    (.need (.is 0 0)
    (.jump 1 [(.a 1), (.a 0), (.a 8), (.a 9), (.a 10), (.a 11), (.a 12), (.a 13), (.slen 0), (.l 0), (.a 2), (.a 3), (.a 4), (.a 5), (.a 6), (.a 7)] [(.and (.eq (.a 8) (.l 0)) (.and (.eq (.a 9) (.l 0)) (.and (.eq (.a 10) (.l 0)) (.and (.eq (.a 11) (.l 0)) (.and (.eq (.a 12) (.l 0)) (.eq (.a 13) (.l 0))))))), (.t false), (.t false)] [(.va 0), (.va 1)])))))))))
  (.ret false (.bool (.t true)) []))
def revealed_explains_t1 : PT :=
 (.ite (.lt (.a 9) (.a 8))
  (.need (.and (.le (.l 0) (.a 9)) (.lt (.a 9) (.slen 0)))
  (.load false (.ea 0 (.a 9) 12 0) [(.int .i64), (.int .i64), (.int .i64), (.int .i64), (.int .i64), (.int .i64), (.int .i64), (.int .i64), (.int .i64), (.int .i64), (.int .i64), (.int .i64)]
  (.need (.and (.le (.l 0) (.a 9)) (.lt (.a 9) (.slen 1)))
  (.need (.and (.le (.l 0) (.a 0)) (.lt (.a 0) (.slen 1)))
  (.load true (.ea 1 (.a 9) 1 0) [(.int .i64)]
  (.load true (.ea 1 (.a 0) 1 0) [(.int .i64)]
  (.need (.and (.le (.l (-9223372036854775808)) (.sub (.a 28) (.a 29))) (.le (.sub (.a 28) (.a 29)) (.l 9223372036854775807)))
  (.call 48 [(.agg [(.int .i64 (.a 10)), (.int .i64 (.a 11)), (.int .i64 (.a 12)), (.int .i64 (.a 13)), (.int .i64 (.a 14)), (.int .i64 (.a 15)), (.int .i64 (.a 2)), (.int .i64 (.a 3)), (.int .i64 (.a 4)), (.int .i64 (.a 5)), (.int .i64 (.a 6)), (.int .i64 (.a 7))]), (.agg [(.int .i64 (.a 16)), (.int .i64 (.a 17)), (.int .i64 (.a 18)), (.int .i64 (.a 19)), (.int .i64 (.a 20)), (.int .i64 (.a 21)), (.int .i64 (.a 22)), (.int .i64 (.a 23)), (.int .i64 (.a 24)), (.int .i64 (.a 25)), (.int .i64 (.a 26)), (.int .i64 (.a 27))])] [] [(.one (.int .i64))]
  (.ite (.lt (.a 30) (.sub (.a 28) (.a 29)))
   (.ret false (.bool (.t false)) [])
   (.need (.and (.le (.l (-9223372036854775808)) (.add (.a 9) (.l 1))) (.le (.add (.a 9) (.l 1)) (.l 9223372036854775807)))
   (.jump 1 [(.a 0), (.a 1), (.a 2), (.a 3), (.a 4), (.a 5), (.a 6), (.a 7), (.a 8), (.add (.a 9) (.l 1)), (.a 10), (.a 11), (.a 12), (.a 13), (.a 14), (.a 15)] [(.a 0), (.a 1), (.a 2)] [(.va 0), (.va 1)])))))))))))
  (.need (.and (.le (.l (-9223372036854775808)) (.add (.a 0) (.l 1))) (.le (.add (.a 0) (.l 1)) (.l 9223372036854775807)))
  (.jump 0 [(.a 1), (.add (.a 0) (.l 1))] [] [(.va 0), (.va 1)])))
def revealed_explains_S : Sx.Sys := ⟨[(.sh (.one .val)), (.sh (.one .val))], revealed_explains_s, [revealed_explains_t0, revealed_explains_t1]⟩
def revealed_explains_pats : List Cfg := [{ todo := [(.code [false, false, true, false, true, true]), (.inLoop [false, false, true, false, true, true]), (.inBlock 0), (.code [true, true, true])], sl := [(.va 0), (.va 1), .undef, .undef, (.junk 0), (.junk 1), (.junk 2), (.junk 3), (.junk 4), (.junk 5), (.junk 6), (.junk 7), (.junk 8), (.junk 9), (.va 0), (.int .i64 (.a 0)), (.int .i64 (.a 1)), (.junk 10), (.junk 11), (.junk 12), (.junk 13), (.junk 14), (.junk 15), (.junk 16), (.junk 17), (.junk 18), (.junk 19), (.junk 20), (.junk 21), (.junk 22), (.junk 23), (.junk 24), (.junk 25), (.junk 26), (.junk 27), (.junk 28), (.junk 29), (.junk 30), (.junk 31), (.junk 32), (.junk 33), (.junk 34), (.junk 35), (.junk 36), (.junk 37), (.junk 38), (.junk 39), (.junk 40), (.junk 41), (.junk 42), (.junk 43), (.junk 44), (.junk 45), (.junk 46), (.junk 47), (.junk 48), (.junk 49), (.junk 50), (.junk 51), (.junk 52), (.junk 53), (.junk 54), (.junk 55), (.junk 56), (.junk 57), (.junk 58)], H := [], ni := 2, nb := 0, nv := 2, nj := 59 },
 { todo := [(.code [false, false, true, true, true, false, false, true, true, false, false, true, false, true, true]), (.inLoop [false, false, true, true, true, false, false, true, true, false, false, true, false, true, true]), (.inBlock 2), (.inBlock 1), (.code [true, true, true, false, false, true, false, true, true]), (.inLoop [false, false, true, false, true, true]), (.inBlock 0), (.code [true, true, true])], sl := [(.va 0), (.va 1), .undef, .undef, (.junk 0), (.int .i64 (.a 0)), (.ptr 0 0), (.junk 1), (.junk 2), (.junk 3), (.junk 4), (.junk 5), (.junk 6), (.junk 7), (.va 0), (.int .i64 (.a 1)), (.int .i64 (.a 0)), (.junk 8), (.junk 9), (.junk 10), (.junk 11), (.junk 12), (.junk 13), (.junk 14), (.junk 15), (.junk 16), (.junk 17), (.junk 18), (.junk 19), (.junk 20), (.junk 21), (.junk 22), (.ptr 0 6), (.agg [(.int .i64 (.a 2)), (.int .i64 (.a 3)), (.int .i64 (.a 4)), (.int .i64 (.a 5)), (.int .i64 (.a 6)), (.int .i64 (.a 7))]), (.agg [(.int .i64 (.l 0)), (.int .i64 (.l 0)), (.int .i64 (.l 0)), (.int .i64 (.l 0)), (.int .i64 (.l 0)), (.int .i64 (.l 0))]), (.bool (.a 0)), (.bool (.a 1)), (.junk 23), (.junk 24), (.junk 25), (.junk 26), (.junk 27), (.bool (.a 2)), (.junk 28), (.va 0), (.int .i64 (.a 8)), (.int .i64 (.a 9)), (.junk 29), (.junk 30), (.junk 31), (.junk 32), (.junk 33), (.junk 34), (.junk 35), (.junk 36), (.junk 37), (.junk 38), (.junk 39), (.junk 40), (.junk 41), (.junk 42), (.junk 43), (.junk 44), (.junk 45), (.junk 46), (.junk 47)], H := [(.cells [(.int .i64 (.a 10)), (.int .i64 (.a 11)), (.int .i64 (.a 12)), (.int .i64 (.a 13)), (.int .i64 (.a 14)), (.int .i64 (.a 15)), (.int .i64 (.a 2)), (.int .i64 (.a 3)), (.int .i64 (.a 4)), (.int .i64 (.a 5)), (.int .i64 (.a 6)), (.int .i64 (.a 7))] 44 false)], ni := 16, nb := 3, nv := 2, nj := 48 }]
theorem revealed_explains_ok : SysOk Try.prog 47 revealed_explains_S := sys_ok (c := (cg [[false, false, true, false, true, true], [false, false, true, true, true, false, false, true, true, false, false, true, false, true, true]] [] [] false false false true)) (progOkG _ _ _ _ _ _ _) Try.func47 Try.call47 (by kernel_rfl) revealed_explains_pats revealed_explains_S 5000 rfl (by kernel_rfl) (by kernel_rfl)
def activity_Accept_1_s : PT :=
 (.ret false (.bool (.and (.eq (.a 6) (.l 0)) (.and (.eq (.a 7) (.l 0)) (.and (.eq (.a 8) (.l 0)) (.and (.eq (.a 9) (.l 0)) (.and (.eq (.a 10) (.l 0)) (.eq (.a 11) (.l 0)))))))) [])
def activity_Accept_1_S : Sx.Sys := ⟨[(.sh (.agg [(.int .i64), (.int .i64), (.int .i64), (.int .i64), (.int .i64), (.int .i64), (.int .i64), (.int .i64), (.int .i64), (.int .i64), (.int .i64), (.int .i64)]))], activity_Accept_1_s, []⟩
def activity_Accept_1_pats : List Cfg := []
theorem activity_Accept_1_ok : SysOk Try.prog 56 activity_Accept_1_S := sys_ok (c := (cg [] [] [] false false false true)) (progOkG _ _ _ _ _ _ _) Try.func56 Try.call56 (by kernel_rfl) activity_Accept_1_pats activity_Accept_1_S 5000 rfl (by kernel_rfl) (by kernel_rfl)
def demandset_valid_s : PT :=
 (.ite (.lt (.a 0) (.l 0))
  (.ret false (.bool (.t false)) [])
  (.ite (.lt (.l 1000000) (.a 0))
   (.ret false (.bool (.t false)) [])
   (.ite (.lt (.a 1) (.l 0))
    (.ret false (.bool (.t false)) [])
    (.ite (.lt (.l 1000000) (.a 1))
     (.ret false (.bool (.t false)) [])
     (.ite (.lt (.a 2) (.l 0))
      (.ret false (.bool (.t false)) [])
      (.ite (.lt (.l 1000000) (.a 2))
       (.ret false (.bool (.t false)) [])
       (.ite (.lt (.a 3) (.l 0))
        (.ret false (.bool (.t false)) [])
        (.ite (.lt (.l 1000000) (.a 3))
         (.ret false (.bool (.t false)) [])
         (.ite (.lt (.a 4) (.l 0))
          (.ret false (.bool (.t false)) [])
          (.ite (.lt (.l 1000000) (.a 4))
           (.ret false (.bool (.t false)) [])
           (.ite (.lt (.a 5) (.l 0))
            (.ret false (.bool (.t false)) [])
            (.ite (.lt (.l 1000000) (.a 5))
             (.ret false (.bool (.t false)) [])
             (.ret false (.bool (.t true)) [])))))))))))))
def demandset_valid_S : Sx.Sys := ⟨[(.sh (.agg [(.int .i64), (.int .i64), (.int .i64), (.int .i64), (.int .i64), (.int .i64)]))], demandset_valid_s, []⟩
def demandset_valid_pats : List Cfg := []
theorem demandset_valid_ok : SysOk Try.prog 68 demandset_valid_S := sys_ok (c := (cg [] [] [] false false false true)) (progOkG _ _ _ _ _ _ _) Try.func68 Try.call68 (by kernel_rfl) demandset_valid_pats demandset_valid_S 5000 rfl (by kernel_rfl) (by kernel_rfl)
def bundle_All_1_s : PT :=
 (.ret false (.tup []) [])
def bundle_All_1_S : Sx.Sys := ⟨[(.sh (.one .val))], bundle_All_1_s, []⟩
def bundle_All_1_pats : List Cfg := []
theorem bundle_All_1_ok : SysOk Try.prog 77 bundle_All_1_S := sys_ok (c := (cg [] [] [] false false false true)) (progOkG _ _ _ _ _ _ _) Try.func77 Try.call77 (by kernel_rfl) bundle_All_1_pats bundle_All_1_S 5000 rfl (by kernel_rfl) (by kernel_rfl)
def lexer_letter_s : PT :=
 (.ite (.le (.l 97) (.a 0))
  (.ret false (.bool (.le (.a 0) (.l 122))) [])
  (.ret false (.bool (.t false)) []))
def lexer_letter_S : Sx.Sys := ⟨[(.sh (.one (.int .i32)))], lexer_letter_s, []⟩
def lexer_letter_pats : List Cfg := []
theorem lexer_letter_ok : SysOk Try.prog 88 lexer_letter_S := sys_ok (c := (cg [] [] [] false false false true)) (progOkG _ _ _ _ _ _ _) Try.func88 Try.call88 (by kernel_rfl) lexer_letter_pats lexer_letter_S 5000 rfl (by kernel_rfl) (by kernel_rfl)
end Go.Proofs.Ythjahianafohjaa
