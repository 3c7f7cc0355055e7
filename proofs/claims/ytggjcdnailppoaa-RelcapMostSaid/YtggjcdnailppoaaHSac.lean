/- The trees of this seat's functions, part 6. Written by txgen.py. -/
import Derived.Test.YtggjcdnailppoaaHTab
import Derived.Test.YtggjcdnailppoaaHSaa
import Derived.Test.YtggjcdnailppoaaHSab
set_option linter.unusedSimpArgs false
set_option linter.unusedVariables false
set_option maxRecDepth 100000
namespace Go.Proofs.Ytggjcdnailppoaa
open Go.Sx
def saleroomlaw40_lives_s_b1 : PT :=
 (.cut 0 (some (.l 1)) none 12
   (.app none (.lit [[(.int .i64 (.l 0)), (.int .i64 (.l 1)), (.int .i64 (.l 1)), (.int .i64 (.l 0)), (.int .i64 (.l 0)), (.int .i64 (.l 0)), (.int .i64 (.l 0)), (.int .i64 (.l 6))], [(.int .i64 (.l 0)), (.int .i64 (.l 1)), (.int .i64 (.l 0)), (.int .i64 (.l 0)), (.int .i64 (.l 0)), (.int .i64 (.l 0)), (.int .i64 (.l 0)), (.int .i64 (.l 5))]]) 8
   (.call 15 [(.va 4), (.va 5)] [] [(.one (.int .i64)), (.one (.int .i64))]
   (.need (.is 0 1)
   (.ite (.eq (.slen 1) (.l 1))
    (.need (.lt (.l 0) (.slen 1))
    (.load true (.ea 1 (.l 0) 8 0) [(.int .i64), (.int .i64), (.int .i64), (.int .i64), (.int .i64), (.int .i64), (.int .i64), (.int .i64)]
    (.ite (.and (.eq (.a 4) (.l 0)) (.and (.eq (.a 5) (.l 1)) (.and (.eq (.a 6) (.l 0)) (.and (.eq (.a 7) (.l 0)) (.and (.eq (.a 8) (.l 0)) (.and (.eq (.a 9) (.l 0)) (.and (.eq (.a 10) (.l 0)) (.eq (.a 11) (.l 4)))))))))
     (.cut 0 (some (.l 1)) none 12
     (.call 13 [(.va 6), .nilS, (.agg [(.int .i64 (.l 1)), (.int .i64 (.l 1)), (.int .i64 (.l 0)), (.int .i64 (.l 0)), (.int .i64 (.l 0)), (.int .i64 (.l 0))])] [] [(.one (.int .i64))]
     (.ite (.eq (.a 12) (.l 5))
      (.ite (.eq (.a 0) (.l 0))
       (.ite (.eq (.a 1) (.l 16))
        (.ret false (.bool (.eq (.a 3) (.l 0))) [])
        (.ret false (.bool (.t false)) []))
       (.ret false (.bool (.t false)) []))
      (.ret false (.bool (.t false)) []))))
     (.ret false (.bool (.t false)) []))))
    (.ret false (.bool (.t false)) []))))))
def saleroomlaw40_lives_s_b2 : PT :=
 (.app none (.lit [[(.int .i64 (.l 0)), (.int .i64 (.l 1)), (.int .i64 (.l 1)), (.int .i64 (.l 0)), (.int .i64 (.l 0)), (.int .i64 (.l 0)), (.int .i64 (.l 0)), (.int .i64 (.l 6))], [(.int .i64 (.l 0)), (.int .i64 (.l 1)), (.int .i64 (.l 0)), (.int .i64 (.l 0)), (.int .i64 (.l 0)), (.int .i64 (.l 0)), (.int .i64 (.l 0)), (.int .i64 (.l 5))]]) 8
   (.cut 0 (some (.l 1)) none 12
   (.call 15 [(.va 5), (.va 4)] [] [(.one (.int .i64)), (.one (.int .i64))]
   (.need (.is 0 1)
   (.ite (.eq (.slen 1) (.l 1))
    (.need (.lt (.l 0) (.slen 1))
    (.load true (.ea 1 (.l 0) 8 0) [(.int .i64), (.int .i64), (.int .i64), (.int .i64), (.int .i64), (.int .i64), (.int .i64), (.int .i64)]
    (.ite (.and (.eq (.a 4) (.l 0)) (.and (.eq (.a 5) (.l 1)) (.and (.eq (.a 6) (.l 0)) (.and (.eq (.a 7) (.l 0)) (.and (.eq (.a 8) (.l 0)) (.and (.eq (.a 9) (.l 0)) (.and (.eq (.a 10) (.l 0)) (.eq (.a 11) (.l 4)))))))))
     (.cut 0 (some (.l 1)) none 12
     (.call 13 [(.va 6), .nilS, (.agg [(.int .i64 (.l 1)), (.int .i64 (.l 1)), (.int .i64 (.l 0)), (.int .i64 (.l 0)), (.int .i64 (.l 0)), (.int .i64 (.l 0))])] [] [(.one (.int .i64))]
     (.ite (.eq (.a 12) (.l 5))
      (.ite (.eq (.a 0) (.l 0))
       (.ite (.eq (.a 1) (.l 16))
        (.ret false (.bool (.eq (.a 3) (.l 0))) [])
        (.ret false (.bool (.t false)) []))
       (.ret false (.bool (.t false)) []))
      (.ret false (.bool (.t false)) []))))
     (.ret false (.bool (.t false)) []))))
    (.ret false (.bool (.t false)) []))))))
def saleroomlaw40_lives_s_b3 : PT :=
 (.cut 0 (some (.l 1)) none 12
  (.app none (.lit [[(.int .i64 (.l 0)), (.int .i64 (.l 1)), (.int .i64 (.l 1)), (.int .i64 (.l 0)), (.int .i64 (.l 0)), (.int .i64 (.l 0)), (.int .i64 (.l 0)), (.int .i64 (.l 6))]]) 8
  (.call 15 [(.va 2), (.va 3)] [] [(.one (.int .i64)), (.one (.int .i64))]
  (.both saleroomlaw40_lives_s_b1 saleroomlaw40_lives_s_b2))))
def saleroomlaw40_lives_s_b4 : PT :=
 (.app none (.lit [[(.int .i64 (.l 0)), (.int .i64 (.l 1)), (.int .i64 (.l 1)), (.int .i64 (.l 0)), (.int .i64 (.l 0)), (.int .i64 (.l 0)), (.int .i64 (.l 0)), (.int .i64 (.l 6))]]) 8
  (.cut 0 (some (.l 1)) none 12
  (.call 15 [(.va 3), (.va 2)] [] [(.one (.int .i64)), (.one (.int .i64))]
  (.both saleroomlaw40_lives_s_b1 saleroomlaw40_lives_s_b2))))
def saleroomlaw40_lives_s : PT :=
 (.app none (.lit [[(.int .i64 (.l 3)), (.int .i64 (.l 1)), (.int .i64 (.l 0)), (.int .i64 (.l 0)), (.int .i64 (.l 0)), (.int .i64 (.l 0)), (.int .i64 (.l 1)), (.int .i64 (.l 0)), (.int .i64 (.l 0)), (.int .i64 (.l 0)), (.int .i64 (.l 0)), (.int .i64 (.l 0))], [(.int .i64 (.l 4)), (.int .i64 (.l 1)), (.int .i64 (.l 0)), (.int .i64 (.l 0)), (.int .i64 (.l 0)), (.int .i64 (.l 0)), (.int .i64 (.l 1)), (.int .i64 (.l 0)), (.int .i64 (.l 0)), (.int .i64 (.l 0)), (.int .i64 (.l 0)), (.int .i64 (.l 0))]]) 12
 (.call 11 [(.va 0)] [] [(.one .val)]
 (.both saleroomlaw40_lives_s_b3 saleroomlaw40_lives_s_b4)))
def saleroomlaw40_lives_S : Sx.Sys := ⟨[], saleroomlaw40_lives_s, [], none⟩
def saleroomlaw40_lives_pats : List Cfg := []
theorem saleroomlaw40_lives_ok : SysOk Try.prog 9 saleroomlaw40_lives_S := sys_ok (c := (cg [] [] [] false false false true)) (progOkG _ _ _ _ _ _ _) Try.func9 Try.call9 (by kernel_rfl) saleroomlaw40_lives_pats saleroomlaw40_lives_S 5000 rfl (by kernel_rfl) (by kernel_rfl) rfl
def saleroomref07_Check_s : PT :=
 (.ite (.lt (.a 0) (.l 0))
  (.ret false (.int .i64 (.l 4)) [])
  (.ite (.lt (.l 4) (.a 0))
   (.ret false (.int .i64 (.l 4)) [])
   (.ite (.lt (.a 1) (.l 0))
    (.ret false (.int .i64 (.l 4)) [])
    (.ite (.lt (.l 4) (.a 1))
     (.ret false (.int .i64 (.l 4)) [])
     (.ite (.lt (.a 2) (.l 0))
      (.ret false (.int .i64 (.l 4)) [])
      (.ite (.lt (.l 4) (.a 2))
       (.ret false (.int .i64 (.l 4)) [])
       (.ite (.lt (.a 3) (.l 0))
        (.ret false (.int .i64 (.l 4)) [])
        (.ite (.lt (.l 4) (.a 3))
         (.ret false (.int .i64 (.l 4)) [])
         (.ite (.lt (.a 4) (.l 0))
          (.ret false (.int .i64 (.l 4)) [])
          (.ite (.lt (.l 4) (.a 4))
           (.ret false (.int .i64 (.l 4)) [])
           (.ite (.lt (.a 5) (.l 0))
            (.ret false (.int .i64 (.l 4)) [])
            (.ite (.lt (.l 4) (.a 5))
             (.ret false (.int .i64 (.l 4)) [])
             (.ret false (.int .i64 (.l 0)) [])))))))))))))
def saleroomref07_Check_S : Sx.Sys := ⟨[(.sh (.agg [(.int .i64), (.int .i64), (.int .i64), (.int .i64), (.int .i64), (.int .i64)]))], saleroomref07_Check_s, [], none⟩
def saleroomref07_Check_pats : List Cfg := []
theorem saleroomref07_Check_ok : SysOk Try.prog 17 saleroomref07_Check_S := sys_ok (c := (cg [] [] [] false false false true)) (progOkG _ _ _ _ _ _ _) Try.func17 Try.call17 (by kernel_rfl) saleroomref07_Check_pats saleroomref07_Check_S 5000 rfl (by kernel_rfl) (by kernel_rfl) rfl
def relcap_sound_s : PT :=
 (.need (.is 0 0)
 (.jump 0 [(.slen 0), (.l 0)] [] [(.va 0)]))
def relcap_sound_t0 : PT :=
 (.ite (.lt (.a 1) (.a 0))
  (.need (.and (.le (.l 0) (.a 1)) (.lt (.a 1) (.slen 0)))
  (.load false (.ea 0 (.a 1) 12 0) [(.int .i64), (.int .i64), (.int .i64), (.int .i64), (.int .i64), (.int .i64), (.int .i64), (.int .i64), (.int .i64), (.int .i64), (.int .i64), (.int .i64)]
  (.app none (.lit [[(.int .i64 (.a 2)), (.int .i64 (.a 3)), (.int .i64 (.a 4)), (.int .i64 (.a 5)), (.int .i64 (.a 6)), (.int .i64 (.a 7)), (.int .i64 (.a 8)), (.int .i64 (.a 9)), (.int .i64 (.a 10)), (.int .i64 (.a 11)), (.int .i64 (.a 12)), (.int .i64 (.a 13))]]) 12
  (.call 25 [(.va 1), (.agg [.nilS, .nilS])] [] [(.one (.int .i64))]
  (.ite (.eq (.a 14) (.l 4))
   (.ret false (.bool (.t false)) [])
   (.need (.and (.le (.l (-9223372036854775808)) (.add (.a 1) (.l 1))) (.le (.add (.a 1) (.l 1)) (.l 9223372036854775807)))
   (.jump 0 [(.a 0), (.add (.a 1) (.l 1))] [] [(.va 0)])))))))
  (.ret false (.bool (.t true)) []))
def relcap_sound_S : Sx.Sys := ⟨[(.sh (.one .val))], relcap_sound_s, [relcap_sound_t0], none⟩
def relcap_sound_pats : List Cfg := [{ todo := [(.code [false, false, true, false, true]), (.inLoop [false, false, true, false, true]), (.inBlock 0), (.code [true, true])], sl := [(.junk 0), .undef, (.junk 1), .undef, (.junk 2), (.va 0), (.int .i64 (.a 0)), (.int .i64 (.a 1)), (.junk 3), (.junk 4), (.junk 5), (.junk 6), (.junk 7), (.junk 8), (.junk 9), (.junk 10), (.junk 11)], H := [], ni := 2, nb := 0, nv := 1, nj := 12 }]
theorem relcap_sound_ok : SysOk Try.prog 26 relcap_sound_S := sys_ok (c := (cg [[false, false, true, false, true]] [] [] false false false true)) (progOkG _ _ _ _ _ _ _) Try.func26 Try.call26 (by kernel_rfl) relcap_sound_pats relcap_sound_S 5000 rfl (by kernel_rfl) (by kernel_rfl) rfl
def bundle_Check_s : PT :=
 (.ite (.lt (.a 0) (.l 0))
  (.ret false (.int .i64 (.l 4)) [])
  (.ite (.lt (.l 4) (.a 0))
   (.ret false (.int .i64 (.l 4)) [])
   (.ite (.lt (.a 1) (.l 0))
    (.ret false (.int .i64 (.l 4)) [])
    (.ite (.lt (.l 4) (.a 1))
     (.ret false (.int .i64 (.l 4)) [])
     (.ite (.lt (.a 2) (.l 0))
      (.ret false (.int .i64 (.l 4)) [])
      (.ite (.lt (.l 4) (.a 2))
       (.ret false (.int .i64 (.l 4)) [])
       (.ite (.lt (.a 3) (.l 0))
        (.ret false (.int .i64 (.l 4)) [])
        (.ite (.lt (.l 4) (.a 3))
         (.ret false (.int .i64 (.l 4)) [])
         (.ite (.lt (.a 4) (.l 0))
          (.ret false (.int .i64 (.l 4)) [])
          (.ite (.lt (.l 4) (.a 4))
           (.ret false (.int .i64 (.l 4)) [])
           (.ite (.lt (.a 5) (.l 0))
            (.ret false (.int .i64 (.l 4)) [])
            (.ite (.lt (.l 4) (.a 5))
             (.ret false (.int .i64 (.l 4)) [])
             (.ret false (.int .i64 (.l 0)) [])))))))))))))
def bundle_Check_S : Sx.Sys := ⟨[(.sh (.agg [(.int .i64), (.int .i64), (.int .i64), (.int .i64), (.int .i64), (.int .i64)]))], bundle_Check_s, [], none⟩
def bundle_Check_pats : List Cfg := []
theorem bundle_Check_ok : SysOk Try.prog 34 bundle_Check_S := sys_ok (c := (cg [] [] [] false false false true)) (progOkG _ _ _ _ _ _ _) Try.func34 Try.call34 (by kernel_rfl) bundle_Check_pats bundle_Check_S 5000 rfl (by kernel_rfl) (by kernel_rfl) rfl
def revealed_lowered_s : PT :=
 (.need (.is 0 0)
 (.mkM (.slen 0) [(.int .i64 (.l 0))] 2 1 8
 (.need (.is 0 0)
 (.mkM (.slen 0) [(.int .i64 (.l 0))] 3 1 8
 (.need (.is 0 2)
 (.jump 0 [(.slen 2), (.l 0)] [] [(.va 0), (.va 1), (.va 2)]))))))
def revealed_lowered_t0 : PT :=
 (.ite (.lt (.a 1) (.a 0))
  (.need (.and (.le (.l 0) (.a 1)) (.lt (.a 1) (.slen 2)))
  (.storeM (.ea 2 (.a 1) 1 0) [(.int .i64 (.l (-1)))]
  (.need (.and (.le (.l (-9223372036854775808)) (.add (.a 1) (.l 1))) (.le (.add (.a 1) (.l 1)) (.l 9223372036854775807)))
  (.jump 0 [(.a 0), (.add (.a 1) (.l 1))] [] [(.va 0), (.va 1), (.va 2)]))))
  (.need (.is 0 0)
  (.jump 1 [(.l (-1)), (.slen 0), (.l 0)] [] [(.va 0), (.va 1), (.va 2)])))
def revealed_lowered_t1 : PT :=
 (.ite (.lt (.a 2) (.a 1))
  (.need (.is 0 0)
  (.jump 2 [(.l (-1)), (.a 1), (.a 2), (.slen 0), (.l 0)] [] [(.va 0), (.va 1), (.va 2)]))
  (.ite (.lt (.a 0) (.l 0))
   (.ret true (.tup [(.va 1), .nilS]) [])
   (.call 53 [(.va 2), (.int .i64 (.a 0))] [] [(.one .val)]
   (.ret true (.tup [.nilS, (.va 3)]) []))))
def revealed_lowered_t2 : PT :=
 (.ite (.lt (.a 4) (.a 3))
  (.need (.is 0 0)
  (.jump 3 [(.a 0), (.a 4), (.a 1), (.a 2), (.a 3), (.slen 0), (.l 0)] [] [(.va 0), (.va 1), (.va 2)]))
  (.ite (.lt (.a 0) (.l 0))
   (.ite (.lt (.a 0) (.l 0))
    (.ret true (.tup [(.va 1), .nilS]) [])
    (.call 53 [(.va 2), (.int .i64 (.a 0))] [] [(.one .val)]
    (.ret true (.tup [.nilS, (.va 3)]) [])))
   (.need (.and (.le (.l (-9223372036854775808)) (.add (.a 2) (.l 1))) (.le (.add (.a 2) (.l 1)) (.l 9223372036854775807)))
   (.jump 1 [(.a 0), (.a 1), (.add (.a 2) (.l 1))] [] [(.va 0), (.va 1), (.va 2)]))))
def revealed_lowered_t3_b1 : PT :=
 (.load false (.ea 0 (.a 1) 12 0) [(.int .i64), (.int .i64), (.int .i64), (.int .i64), (.int .i64), (.int .i64), (.int .i64), (.int .i64), (.int .i64), (.int .i64), (.int .i64), (.int .i64)]
    (.load false (.ea 0 (.a 6) 12 0) [(.int .i64), (.int .i64), (.int .i64), (.int .i64), (.int .i64), (.int .i64), (.int .i64), (.int .i64), (.int .i64), (.int .i64), (.int .i64), (.int .i64)]
    (.call 46 [(.agg [(.int .i64 (.a 8)), (.int .i64 (.a 9)), (.int .i64 (.a 10)), (.int .i64 (.a 11)), (.int .i64 (.a 12)), (.int .i64 (.a 13)), (.int .i64 (.a 14)), (.int .i64 (.a 15)), (.int .i64 (.a 16)), (.int .i64 (.a 17)), (.int .i64 (.a 18)), (.int .i64 (.a 19))]), (.agg [(.int .i64 (.a 20)), (.int .i64 (.a 21)), (.int .i64 (.a 22)), (.int .i64 (.a 23)), (.int .i64 (.a 24)), (.int .i64 (.a 25)), (.int .i64 (.a 26)), (.int .i64 (.a 27)), (.int .i64 (.a 28)), (.int .i64 (.a 29)), (.int .i64 (.a 30)), (.int .i64 (.a 31))])] [] [(.one (.int .i64))]
    (.need (.and (.le (.l (-9223372036854775808)) (.add (.a 7) (.a 32))) (.le (.add (.a 7) (.a 32)) (.l 9223372036854775807)))
    (.need (.and (.le (.l 0) (.a 6)) (.lt (.a 6) (.slen 1)))
    (.load false (.ea 1 (.a 6) 1 0) [(.int .i64)]
    (.ite (.lt (.add (.a 7) (.a 32)) (.a 33))
     (.need (.and (.le (.l 0) (.a 6)) (.lt (.a 6) (.slen 1)))
     (.storeM (.ea 1 (.a 6) 1 0) [(.int .i64 (.add (.a 7) (.a 32)))]
     (.need (.and (.le (.l 0) (.a 6)) (.lt (.a 6) (.slen 2)))
     (.storeM (.ea 2 (.a 6) 1 0) [(.int .i64 (.a 1))]
     (.need (.and (.le (.l (-9223372036854775808)) (.add (.a 6) (.l 1))) (.le (.add (.a 6) (.l 1)) (.l 9223372036854775807)))
     (.jump 3 [(.a 6), (.a 1), (.a 2), (.a 3), (.a 4), (.a 5), (.add (.a 6) (.l 1))] [] [(.va 0), (.va 1), (.va 2)]))))))
     (.need (.and (.le (.l (-9223372036854775808)) (.add (.a 6) (.l 1))) (.le (.add (.a 6) (.l 1)) (.l 9223372036854775807)))
     (.jump 3 [(.a 0), (.a 1), (.a 2), (.a 3), (.a 4), (.a 5), (.add (.a 6) (.l 1))] [] [(.va 0), (.va 1), (.va 2)])))))))))
def revealed_lowered_t3_b2 : PT :=
 (.load false (.ea 0 (.a 6) 12 0) [(.int .i64), (.int .i64), (.int .i64), (.int .i64), (.int .i64), (.int .i64), (.int .i64), (.int .i64), (.int .i64), (.int .i64), (.int .i64), (.int .i64)]
    (.load false (.ea 0 (.a 1) 12 0) [(.int .i64), (.int .i64), (.int .i64), (.int .i64), (.int .i64), (.int .i64), (.int .i64), (.int .i64), (.int .i64), (.int .i64), (.int .i64), (.int .i64)]
    (.call 46 [(.agg [(.int .i64 (.a 20)), (.int .i64 (.a 21)), (.int .i64 (.a 22)), (.int .i64 (.a 23)), (.int .i64 (.a 24)), (.int .i64 (.a 25)), (.int .i64 (.a 26)), (.int .i64 (.a 27)), (.int .i64 (.a 28)), (.int .i64 (.a 29)), (.int .i64 (.a 30)), (.int .i64 (.a 31))]), (.agg [(.int .i64 (.a 8)), (.int .i64 (.a 9)), (.int .i64 (.a 10)), (.int .i64 (.a 11)), (.int .i64 (.a 12)), (.int .i64 (.a 13)), (.int .i64 (.a 14)), (.int .i64 (.a 15)), (.int .i64 (.a 16)), (.int .i64 (.a 17)), (.int .i64 (.a 18)), (.int .i64 (.a 19))])] [] [(.one (.int .i64))]
    (.need (.and (.le (.l (-9223372036854775808)) (.add (.a 7) (.a 32))) (.le (.add (.a 7) (.a 32)) (.l 9223372036854775807)))
    (.need (.and (.le (.l 0) (.a 6)) (.lt (.a 6) (.slen 1)))
    (.load false (.ea 1 (.a 6) 1 0) [(.int .i64)]
    (.ite (.lt (.add (.a 7) (.a 32)) (.a 33))
     (.need (.and (.le (.l 0) (.a 6)) (.lt (.a 6) (.slen 1)))
     (.storeM (.ea 1 (.a 6) 1 0) [(.int .i64 (.add (.a 7) (.a 32)))]
     (.need (.and (.le (.l 0) (.a 6)) (.lt (.a 6) (.slen 2)))
     (.storeM (.ea 2 (.a 6) 1 0) [(.int .i64 (.a 1))]
     (.need (.and (.le (.l (-9223372036854775808)) (.add (.a 6) (.l 1))) (.le (.add (.a 6) (.l 1)) (.l 9223372036854775807)))
     (.jump 3 [(.a 6), (.a 1), (.a 2), (.a 3), (.a 4), (.a 5), (.add (.a 6) (.l 1))] [] [(.va 0), (.va 1), (.va 2)]))))))
     (.need (.and (.le (.l (-9223372036854775808)) (.add (.a 6) (.l 1))) (.le (.add (.a 6) (.l 1)) (.l 9223372036854775807)))
     (.jump 3 [(.a 0), (.a 1), (.a 2), (.a 3), (.a 4), (.a 5), (.add (.a 6) (.l 1))] [] [(.va 0), (.va 1), (.va 2)])))))))))
def revealed_lowered_t3_b3 : PT :=
 (.load false (.ea 1 (.a 1) 1 0) [(.int .i64)]
   (.both revealed_lowered_t3_b1 revealed_lowered_t3_b2))
def revealed_lowered_t3_b4 : PT :=
 (.load false (.ea 1 (.a 1) 1 0) [(.int .i64)]
     (.load false (.ea 0 (.a 6) 12 0) [(.int .i64), (.int .i64), (.int .i64), (.int .i64), (.int .i64), (.int .i64), (.int .i64), (.int .i64), (.int .i64), (.int .i64), (.int .i64), (.int .i64)]
     (.call 46 [(.agg [(.int .i64 (.a 7)), (.int .i64 (.a 8)), (.int .i64 (.a 9)), (.int .i64 (.a 10)), (.int .i64 (.a 11)), (.int .i64 (.a 12)), (.int .i64 (.a 13)), (.int .i64 (.a 14)), (.int .i64 (.a 15)), (.int .i64 (.a 16)), (.int .i64 (.a 17)), (.int .i64 (.a 18))]), (.agg [(.int .i64 (.a 20)), (.int .i64 (.a 21)), (.int .i64 (.a 22)), (.int .i64 (.a 23)), (.int .i64 (.a 24)), (.int .i64 (.a 25)), (.int .i64 (.a 26)), (.int .i64 (.a 27)), (.int .i64 (.a 28)), (.int .i64 (.a 29)), (.int .i64 (.a 30)), (.int .i64 (.a 31))])] [] [(.one (.int .i64))]
     (.need (.and (.le (.l (-9223372036854775808)) (.add (.a 19) (.a 32))) (.le (.add (.a 19) (.a 32)) (.l 9223372036854775807)))
     (.need (.and (.le (.l 0) (.a 6)) (.lt (.a 6) (.slen 1)))
     (.load false (.ea 1 (.a 6) 1 0) [(.int .i64)]
     (.ite (.lt (.add (.a 19) (.a 32)) (.a 33))
      (.need (.and (.le (.l 0) (.a 6)) (.lt (.a 6) (.slen 1)))
      (.storeM (.ea 1 (.a 6) 1 0) [(.int .i64 (.add (.a 19) (.a 32)))]
      (.need (.and (.le (.l 0) (.a 6)) (.lt (.a 6) (.slen 2)))
      (.storeM (.ea 2 (.a 6) 1 0) [(.int .i64 (.a 1))]
      (.need (.and (.le (.l (-9223372036854775808)) (.add (.a 6) (.l 1))) (.le (.add (.a 6) (.l 1)) (.l 9223372036854775807)))
      (.jump 3 [(.a 6), (.a 1), (.a 2), (.a 3), (.a 4), (.a 5), (.add (.a 6) (.l 1))] [] [(.va 0), (.va 1), (.va 2)]))))))
      (.need (.and (.le (.l (-9223372036854775808)) (.add (.a 6) (.l 1))) (.le (.add (.a 6) (.l 1)) (.l 9223372036854775807)))
      (.jump 3 [(.a 0), (.a 1), (.a 2), (.a 3), (.a 4), (.a 5), (.add (.a 6) (.l 1))] [] [(.va 0), (.va 1), (.va 2)])))))))))
def revealed_lowered_t3_b5 : PT :=
 (.load false (.ea 1 (.a 1) 1 0) [(.int .i64)]
      (.call 46 [(.agg [(.int .i64 (.a 7)), (.int .i64 (.a 8)), (.int .i64 (.a 9)), (.int .i64 (.a 10)), (.int .i64 (.a 11)), (.int .i64 (.a 12)), (.int .i64 (.a 13)), (.int .i64 (.a 14)), (.int .i64 (.a 15)), (.int .i64 (.a 16)), (.int .i64 (.a 17)), (.int .i64 (.a 18))]), (.agg [(.int .i64 (.a 19)), (.int .i64 (.a 20)), (.int .i64 (.a 21)), (.int .i64 (.a 22)), (.int .i64 (.a 23)), (.int .i64 (.a 24)), (.int .i64 (.a 25)), (.int .i64 (.a 26)), (.int .i64 (.a 27)), (.int .i64 (.a 28)), (.int .i64 (.a 29)), (.int .i64 (.a 30))])] [] [(.one (.int .i64))]
      (.need (.and (.le (.l (-9223372036854775808)) (.add (.a 31) (.a 32))) (.le (.add (.a 31) (.a 32)) (.l 9223372036854775807)))
      (.need (.and (.le (.l 0) (.a 6)) (.lt (.a 6) (.slen 1)))
      (.load false (.ea 1 (.a 6) 1 0) [(.int .i64)]
      (.ite (.lt (.add (.a 31) (.a 32)) (.a 33))
       (.need (.and (.le (.l 0) (.a 6)) (.lt (.a 6) (.slen 1)))
       (.storeM (.ea 1 (.a 6) 1 0) [(.int .i64 (.add (.a 31) (.a 32)))]
       (.need (.and (.le (.l 0) (.a 6)) (.lt (.a 6) (.slen 2)))
       (.storeM (.ea 2 (.a 6) 1 0) [(.int .i64 (.a 1))]
       (.need (.and (.le (.l (-9223372036854775808)) (.add (.a 6) (.l 1))) (.le (.add (.a 6) (.l 1)) (.l 9223372036854775807)))
       (.jump 3 [(.a 6), (.a 1), (.a 2), (.a 3), (.a 4), (.a 5), (.add (.a 6) (.l 1))] [] [(.va 0), (.va 1), (.va 2)]))))))
       (.need (.and (.le (.l (-9223372036854775808)) (.add (.a 6) (.l 1))) (.le (.add (.a 6) (.l 1)) (.l 9223372036854775807)))
       (.jump 3 [(.a 0), (.a 1), (.a 2), (.a 3), (.a 4), (.a 5), (.add (.a 6) (.l 1))] [] [(.va 0), (.va 1), (.va 2)]))))))))
def revealed_lowered_t3_b6 : PT :=
 (.call 46 [(.agg [(.int .i64 (.a 7)), (.int .i64 (.a 8)), (.int .i64 (.a 9)), (.int .i64 (.a 10)), (.int .i64 (.a 11)), (.int .i64 (.a 12)), (.int .i64 (.a 13)), (.int .i64 (.a 14)), (.int .i64 (.a 15)), (.int .i64 (.a 16)), (.int .i64 (.a 17)), (.int .i64 (.a 18))]), (.agg [(.int .i64 (.a 19)), (.int .i64 (.a 20)), (.int .i64 (.a 21)), (.int .i64 (.a 22)), (.int .i64 (.a 23)), (.int .i64 (.a 24)), (.int .i64 (.a 25)), (.int .i64 (.a 26)), (.int .i64 (.a 27)), (.int .i64 (.a 28)), (.int .i64 (.a 29)), (.int .i64 (.a 30))])] [] [(.one (.int .i64))]
      (.load false (.ea 1 (.a 1) 1 0) [(.int .i64)]
      (.need (.and (.le (.l (-9223372036854775808)) (.add (.a 32) (.a 31))) (.le (.add (.a 32) (.a 31)) (.l 9223372036854775807)))
      (.need (.and (.le (.l 0) (.a 6)) (.lt (.a 6) (.slen 1)))
      (.load false (.ea 1 (.a 6) 1 0) [(.int .i64)]
      (.ite (.lt (.add (.a 32) (.a 31)) (.a 33))
       (.need (.and (.le (.l 0) (.a 6)) (.lt (.a 6) (.slen 1)))
       (.storeM (.ea 1 (.a 6) 1 0) [(.int .i64 (.add (.a 32) (.a 31)))]
       (.need (.and (.le (.l 0) (.a 6)) (.lt (.a 6) (.slen 2)))
       (.storeM (.ea 2 (.a 6) 1 0) [(.int .i64 (.a 1))]
       (.need (.and (.le (.l (-9223372036854775808)) (.add (.a 6) (.l 1))) (.le (.add (.a 6) (.l 1)) (.l 9223372036854775807)))
       (.jump 3 [(.a 6), (.a 1), (.a 2), (.a 3), (.a 4), (.a 5), (.add (.a 6) (.l 1))] [] [(.va 0), (.va 1), (.va 2)]))))))
       (.need (.and (.le (.l (-9223372036854775808)) (.add (.a 6) (.l 1))) (.le (.add (.a 6) (.l 1)) (.l 9223372036854775807)))
       (.jump 3 [(.a 0), (.a 1), (.a 2), (.a 3), (.a 4), (.a 5), (.add (.a 6) (.l 1))] [] [(.va 0), (.va 1), (.va 2)]))))))))
def revealed_lowered_t3_b7 : PT :=
 (.load false (.ea 0 (.a 6) 12 0) [(.int .i64), (.int .i64), (.int .i64), (.int .i64), (.int .i64), (.int .i64), (.int .i64), (.int .i64), (.int .i64), (.int .i64), (.int .i64), (.int .i64)]
     (.both revealed_lowered_t3_b5 revealed_lowered_t3_b6))
def revealed_lowered_t3_b8 : PT :=
 (.load false (.ea 0 (.a 1) 12 0) [(.int .i64), (.int .i64), (.int .i64), (.int .i64), (.int .i64), (.int .i64), (.int .i64), (.int .i64), (.int .i64), (.int .i64), (.int .i64), (.int .i64)]
    (.both revealed_lowered_t3_b4 revealed_lowered_t3_b7))
def revealed_lowered_t3_b9 : PT :=
 (.load false (.ea 1 (.a 1) 1 0) [(.int .i64)]
     (.load false (.ea 0 (.a 1) 12 0) [(.int .i64), (.int .i64), (.int .i64), (.int .i64), (.int .i64), (.int .i64), (.int .i64), (.int .i64), (.int .i64), (.int .i64), (.int .i64), (.int .i64)]
     (.call 46 [(.agg [(.int .i64 (.a 20)), (.int .i64 (.a 21)), (.int .i64 (.a 22)), (.int .i64 (.a 23)), (.int .i64 (.a 24)), (.int .i64 (.a 25)), (.int .i64 (.a 26)), (.int .i64 (.a 27)), (.int .i64 (.a 28)), (.int .i64 (.a 29)), (.int .i64 (.a 30)), (.int .i64 (.a 31))]), (.agg [(.int .i64 (.a 7)), (.int .i64 (.a 8)), (.int .i64 (.a 9)), (.int .i64 (.a 10)), (.int .i64 (.a 11)), (.int .i64 (.a 12)), (.int .i64 (.a 13)), (.int .i64 (.a 14)), (.int .i64 (.a 15)), (.int .i64 (.a 16)), (.int .i64 (.a 17)), (.int .i64 (.a 18))])] [] [(.one (.int .i64))]
     (.need (.and (.le (.l (-9223372036854775808)) (.add (.a 19) (.a 32))) (.le (.add (.a 19) (.a 32)) (.l 9223372036854775807)))
     (.need (.and (.le (.l 0) (.a 6)) (.lt (.a 6) (.slen 1)))
     (.load false (.ea 1 (.a 6) 1 0) [(.int .i64)]
     (.ite (.lt (.add (.a 19) (.a 32)) (.a 33))
      (.need (.and (.le (.l 0) (.a 6)) (.lt (.a 6) (.slen 1)))
      (.storeM (.ea 1 (.a 6) 1 0) [(.int .i64 (.add (.a 19) (.a 32)))]
      (.need (.and (.le (.l 0) (.a 6)) (.lt (.a 6) (.slen 2)))
      (.storeM (.ea 2 (.a 6) 1 0) [(.int .i64 (.a 1))]
      (.need (.and (.le (.l (-9223372036854775808)) (.add (.a 6) (.l 1))) (.le (.add (.a 6) (.l 1)) (.l 9223372036854775807)))
      (.jump 3 [(.a 6), (.a 1), (.a 2), (.a 3), (.a 4), (.a 5), (.add (.a 6) (.l 1))] [] [(.va 0), (.va 1), (.va 2)]))))))
      (.need (.and (.le (.l (-9223372036854775808)) (.add (.a 6) (.l 1))) (.le (.add (.a 6) (.l 1)) (.l 9223372036854775807)))
      (.jump 3 [(.a 0), (.a 1), (.a 2), (.a 3), (.a 4), (.a 5), (.add (.a 6) (.l 1))] [] [(.va 0), (.va 1), (.va 2)])))))))))
def revealed_lowered_t3_b10 : PT :=
 (.load false (.ea 1 (.a 1) 1 0) [(.int .i64)]
      (.call 46 [(.agg [(.int .i64 (.a 19)), (.int .i64 (.a 20)), (.int .i64 (.a 21)), (.int .i64 (.a 22)), (.int .i64 (.a 23)), (.int .i64 (.a 24)), (.int .i64 (.a 25)), (.int .i64 (.a 26)), (.int .i64 (.a 27)), (.int .i64 (.a 28)), (.int .i64 (.a 29)), (.int .i64 (.a 30))]), (.agg [(.int .i64 (.a 7)), (.int .i64 (.a 8)), (.int .i64 (.a 9)), (.int .i64 (.a 10)), (.int .i64 (.a 11)), (.int .i64 (.a 12)), (.int .i64 (.a 13)), (.int .i64 (.a 14)), (.int .i64 (.a 15)), (.int .i64 (.a 16)), (.int .i64 (.a 17)), (.int .i64 (.a 18))])] [] [(.one (.int .i64))]
      (.need (.and (.le (.l (-9223372036854775808)) (.add (.a 31) (.a 32))) (.le (.add (.a 31) (.a 32)) (.l 9223372036854775807)))
      (.need (.and (.le (.l 0) (.a 6)) (.lt (.a 6) (.slen 1)))
      (.load false (.ea 1 (.a 6) 1 0) [(.int .i64)]
      (.ite (.lt (.add (.a 31) (.a 32)) (.a 33))
       (.need (.and (.le (.l 0) (.a 6)) (.lt (.a 6) (.slen 1)))
       (.storeM (.ea 1 (.a 6) 1 0) [(.int .i64 (.add (.a 31) (.a 32)))]
       (.need (.and (.le (.l 0) (.a 6)) (.lt (.a 6) (.slen 2)))
       (.storeM (.ea 2 (.a 6) 1 0) [(.int .i64 (.a 1))]
       (.need (.and (.le (.l (-9223372036854775808)) (.add (.a 6) (.l 1))) (.le (.add (.a 6) (.l 1)) (.l 9223372036854775807)))
       (.jump 3 [(.a 6), (.a 1), (.a 2), (.a 3), (.a 4), (.a 5), (.add (.a 6) (.l 1))] [] [(.va 0), (.va 1), (.va 2)]))))))
       (.need (.and (.le (.l (-9223372036854775808)) (.add (.a 6) (.l 1))) (.le (.add (.a 6) (.l 1)) (.l 9223372036854775807)))
       (.jump 3 [(.a 0), (.a 1), (.a 2), (.a 3), (.a 4), (.a 5), (.add (.a 6) (.l 1))] [] [(.va 0), (.va 1), (.va 2)]))))))))
def revealed_lowered_t3_b11 : PT :=
 (.call 46 [(.agg [(.int .i64 (.a 19)), (.int .i64 (.a 20)), (.int .i64 (.a 21)), (.int .i64 (.a 22)), (.int .i64 (.a 23)), (.int .i64 (.a 24)), (.int .i64 (.a 25)), (.int .i64 (.a 26)), (.int .i64 (.a 27)), (.int .i64 (.a 28)), (.int .i64 (.a 29)), (.int .i64 (.a 30))]), (.agg [(.int .i64 (.a 7)), (.int .i64 (.a 8)), (.int .i64 (.a 9)), (.int .i64 (.a 10)), (.int .i64 (.a 11)), (.int .i64 (.a 12)), (.int .i64 (.a 13)), (.int .i64 (.a 14)), (.int .i64 (.a 15)), (.int .i64 (.a 16)), (.int .i64 (.a 17)), (.int .i64 (.a 18))])] [] [(.one (.int .i64))]
      (.load false (.ea 1 (.a 1) 1 0) [(.int .i64)]
      (.need (.and (.le (.l (-9223372036854775808)) (.add (.a 32) (.a 31))) (.le (.add (.a 32) (.a 31)) (.l 9223372036854775807)))
      (.need (.and (.le (.l 0) (.a 6)) (.lt (.a 6) (.slen 1)))
      (.load false (.ea 1 (.a 6) 1 0) [(.int .i64)]
      (.ite (.lt (.add (.a 32) (.a 31)) (.a 33))
       (.need (.and (.le (.l 0) (.a 6)) (.lt (.a 6) (.slen 1)))
       (.storeM (.ea 1 (.a 6) 1 0) [(.int .i64 (.add (.a 32) (.a 31)))]
       (.need (.and (.le (.l 0) (.a 6)) (.lt (.a 6) (.slen 2)))
       (.storeM (.ea 2 (.a 6) 1 0) [(.int .i64 (.a 1))]
       (.need (.and (.le (.l (-9223372036854775808)) (.add (.a 6) (.l 1))) (.le (.add (.a 6) (.l 1)) (.l 9223372036854775807)))
       (.jump 3 [(.a 6), (.a 1), (.a 2), (.a 3), (.a 4), (.a 5), (.add (.a 6) (.l 1))] [] [(.va 0), (.va 1), (.va 2)]))))))
       (.need (.and (.le (.l (-9223372036854775808)) (.add (.a 6) (.l 1))) (.le (.add (.a 6) (.l 1)) (.l 9223372036854775807)))
       (.jump 3 [(.a 0), (.a 1), (.a 2), (.a 3), (.a 4), (.a 5), (.add (.a 6) (.l 1))] [] [(.va 0), (.va 1), (.va 2)]))))))))
def revealed_lowered_t3_b12 : PT :=
 (.load false (.ea 0 (.a 1) 12 0) [(.int .i64), (.int .i64), (.int .i64), (.int .i64), (.int .i64), (.int .i64), (.int .i64), (.int .i64), (.int .i64), (.int .i64), (.int .i64), (.int .i64)]
     (.both revealed_lowered_t3_b10 revealed_lowered_t3_b11))
def revealed_lowered_t3_b13 : PT :=
 (.load false (.ea 0 (.a 6) 12 0) [(.int .i64), (.int .i64), (.int .i64), (.int .i64), (.int .i64), (.int .i64), (.int .i64), (.int .i64), (.int .i64), (.int .i64), (.int .i64), (.int .i64)]
    (.both revealed_lowered_t3_b9 revealed_lowered_t3_b12))
def revealed_lowered_t3_b14 : PT :=
 (.both revealed_lowered_t3_b8 revealed_lowered_t3_b13)
def revealed_lowered_t3 : PT :=
 (.ite (.lt (.a 6) (.a 5))
  (.need (.and (.le (.l 0) (.a 1)) (.lt (.a 1) (.slen 1)))
  (.need (.and (.le (.l 0) (.a 1)) (.lt (.a 1) (.slen 0)))
  (.need (.and (.le (.l 0) (.a 6)) (.lt (.a 6) (.slen 0)))
  (.both revealed_lowered_t3_b3 revealed_lowered_t3_b14))))
  (.need (.and (.le (.l (-9223372036854775808)) (.add (.a 1) (.l 1))) (.le (.add (.a 1) (.l 1)) (.l 9223372036854775807)))
  (.jump 2 [(.a 0), (.a 2), (.a 3), (.a 4), (.add (.a 1) (.l 1))] [] [(.va 0), (.va 1), (.va 2)])))
def revealed_lowered_S : Sx.Sys := ⟨[(.sh (.one .val))], revealed_lowered_s, [revealed_lowered_t0, revealed_lowered_t1, revealed_lowered_t2, revealed_lowered_t3], none⟩
def revealed_lowered_pats : List Cfg := [{ todo := [(.code [false, false, true, false, true, true, false, true]), (.inLoop [false, false, true, false, true, true, false, true]), (.inBlock 0), (.code [true, true, true, false, true]), (.inScope [false, true])], sl := [(.va 0), .undef, (.junk 0), (.junk 1), (.va 1), (.va 2), (.junk 2), .undef, .undef, .undef, .undef, (.junk 3), (.junk 4), (.junk 5), (.junk 6), (.junk 7), (.junk 8), (.junk 9), (.int .i64 (.a 0)), (.int .i64 (.a 1)), (.junk 10), (.junk 11), (.junk 12), (.junk 13), (.junk 14), (.junk 15), .undef, .undef, .undef, .undef, .undef, .undef, .undef, .undef, .undef, .undef, .undef, .undef, .undef, .undef, .undef, .undef, .undef, .undef, .undef, .undef, .undef, .undef, .undef, .undef, .undef, .undef, .undef, .undef, .undef, .undef, .undef, .undef, .undef, .undef, .undef, .undef, .undef, .undef, .undef, .undef, .undef, .undef, .undef, .undef, .undef, .undef, .undef, .undef, .undef, .undef, .undef, .undef, .undef, .undef], H := [], ni := 2, nb := 0, nv := 3, nj := 16 },
 { todo := [(.code [false, false, true, false, true, true, true, true, true, false, true]), (.inLoop [false, false, true, false, true, true, true, true, true, false, true]), (.inBlock 2), (.code [true, true, true, true, true, true, false, true]), (.inScope [false, true])], sl := [(.va 0), .undef, (.junk 0), (.junk 1), (.va 1), (.va 2), (.junk 2), (.int .i64 (.a 0)), (.junk 3), (.junk 4), (.junk 5), (.junk 6), (.junk 7), (.junk 8), (.junk 9), (.junk 10), (.junk 11), (.junk 12), (.junk 13), (.junk 14), (.junk 15), (.junk 16), (.junk 17), (.junk 18), (.junk 19), (.junk 20), (.junk 21), (.int .i64 (.a 1)), (.int .i64 (.a 2)), (.junk 22), (.junk 23), (.junk 24), (.junk 25), (.junk 26), (.junk 27), (.junk 28), (.junk 29), (.junk 30), (.junk 31), (.junk 32), (.junk 33), (.junk 34), (.junk 35), (.junk 36), (.junk 37), (.junk 38), (.junk 39), (.junk 40), (.junk 41), (.junk 42), (.junk 43), (.junk 44), (.junk 45), (.junk 46), (.junk 47), (.junk 48), (.junk 49), (.junk 50), (.junk 51), (.junk 52), (.junk 53), (.junk 54), (.junk 55), (.junk 56), (.junk 57), (.junk 58), (.junk 59), (.junk 60), (.junk 61), (.junk 62), (.junk 63), (.junk 64), (.junk 65), (.junk 66), .undef, .undef, .undef, .undef, .undef, .undef], H := [], ni := 3, nb := 0, nv := 3, nj := 67 },
 { todo := [(.code [false, false, true, false, true, false, false, true, true, false, false, true, false, true, true, true, true, true, false, true]), (.inLoop [false, false, true, false, true, false, false, true, true, false, false, true, false, true, true, true, true, true, false, true]), (.inBlock 4), (.code [true, true, false, false, true, true, false, false, true, false, true, true, true, true, true, false, true]), (.inBlock 3), (.code [true, true, true, false, false, true, false, true, true, true, true, true, false, true]), (.inLoop [false, false, true, false, true, true, true, true, true, false, true]), (.inBlock 2), (.code [true, true, true, true, true, true, false, true]), (.inScope [false, true])], sl := [(.va 0), .undef, (.junk 0), (.junk 1), (.va 1), (.va 2), (.junk 2), (.int .i64 (.a 0)), (.junk 3), (.junk 4), (.junk 5), (.junk 6), (.junk 7), (.junk 8), (.junk 9), (.junk 10), (.junk 11), (.junk 12), (.junk 13), (.junk 14), (.junk 15), (.junk 16), (.junk 17), (.junk 18), (.junk 19), (.junk 20), (.junk 21), (.int .i64 (.a 1)), (.int .i64 (.a 2)), (.junk 22), (.junk 23), (.int .i64 (.a 3)), (.int .i64 (.a 4)), (.junk 24), (.junk 25), (.junk 26), (.junk 27), (.junk 28), (.junk 29), (.junk 30), (.junk 31), (.junk 32), (.junk 33), (.junk 34), (.junk 35), (.junk 36), (.junk 37), (.junk 38), (.junk 39), (.junk 40), (.junk 41), (.junk 42), (.junk 43), (.junk 44), (.junk 45), (.junk 46), (.junk 47), (.junk 48), (.junk 49), (.junk 50), (.junk 51), (.junk 52), (.junk 53), (.junk 54), (.junk 55), (.junk 56), (.junk 57), (.junk 58), (.junk 59), (.junk 60), (.junk 61), (.junk 62), (.junk 63), (.junk 64), .undef, .undef, .undef, .undef, .undef, .undef], H := [], ni := 5, nb := 0, nv := 3, nj := 65 },
 { todo := [(.code [false, false, true, true, false, false, true, true, false, false, true, false, true, false, false, true, true, false, false, true, false, true, true, true, true, true, false, true]), (.inLoop [false, false, true, true, false, false, true, true, false, false, true, false, true, false, false, true, true, false, false, true, false, true, true, true, true, true, false, true]), (.inBlock 6), (.inBlock 5), (.code [true, true, true, false, false, true, false, true, false, false, true, true, false, false, true, false, true, true, true, true, true, false, true]), (.inLoop [false, false, true, false, true, false, false, true, true, false, false, true, false, true, true, true, true, true, false, true]), (.inBlock 4), (.code [true, true, false, false, true, true, false, false, true, false, true, true, true, true, true, false, true]), (.inBlock 3), (.code [true, true, true, false, false, true, false, true, true, true, true, true, false, true]), (.inLoop [false, false, true, false, true, true, true, true, true, false, true]), (.inBlock 2), (.code [true, true, true, true, true, true, false, true]), (.inScope [false, true])], sl := [(.va 0), .undef, (.junk 0), (.junk 1), (.va 1), (.va 2), (.junk 2), (.int .i64 (.a 0)), (.int .i64 (.a 1)), (.junk 3), (.junk 4), (.junk 5), (.junk 6), (.junk 7), (.junk 8), (.junk 9), (.junk 10), (.junk 11), (.junk 12), (.junk 13), (.junk 14), (.junk 15), (.junk 16), (.junk 17), (.junk 18), (.junk 19), (.junk 20), (.int .i64 (.a 2)), (.int .i64 (.a 3)), (.junk 21), (.junk 22), (.int .i64 (.a 4)), (.int .i64 (.a 1)), (.junk 23), (.junk 24), (.junk 25), (.int .i64 (.a 5)), (.int .i64 (.a 6)), (.junk 26), (.junk 27), (.junk 28), (.junk 29), (.junk 30), (.junk 31), (.junk 32), (.junk 33), (.junk 34), (.junk 35), (.junk 36), (.junk 37), (.junk 38), (.junk 39), (.junk 40), (.junk 41), (.junk 42), (.junk 43), (.junk 44), (.junk 45), (.junk 46), (.junk 47), (.junk 48), (.junk 49), (.junk 50), (.junk 51), (.junk 52), (.junk 53), (.junk 54), (.junk 55), (.junk 56), (.junk 57), (.junk 58), (.junk 59), (.junk 60), (.junk 61), .undef, .undef, .undef, .undef, .undef, .undef], H := [], ni := 7, nb := 0, nv := 3, nj := 62 }]
theorem revealed_lowered_ok : SysOk Try.prog 43 revealed_lowered_S := sys_ok (c := (cg [[false, false, true, false, true, true, false, true], [false, false, true, false, true, true, true, true, true, false, true], [false, false, true, false, true, false, false, true, true, false, false, true, false, true, true, true, true, true, false, true], [false, false, true, true, false, false, true, true, false, false, true, false, true, false, false, true, true, false, false, true, false, true, true, true, true, true, false, true]] [] [] true true false true)) (progOkG _ _ _ _ _ _ _) Try.func43 Try.call43 (by kernel_rfl) revealed_lowered_pats revealed_lowered_S 5000 rfl (by kernel_rfl) (by kernel_rfl) rfl
def saleroomref07_Prices_s : PT :=
 (.ite (.lt (.a 0) (.l 0))
  (.ret false (.bool (.t false)) [])
  (.ite (.lt (.l 1000000) (.a 0))
   (.ret false (.bool (.t false)) [])
   (.ite (.lt (.a 1) (.l 0))
    (.ret false (.bool (.t false)) [])
    (.ite (.lt (.l 1000000) (.a 1))
     (.ret false (.bool (.t false)) [])
     (.ite (.lt (.a 2) (.l 0))
      (.ret false (.bool (.t false)) [])
      (.ite (.lt (.l 1000000) (.a 2))
       (.ret false (.bool (.t false)) [])
       (.ite (.lt (.a 3) (.l 0))
        (.ret false (.bool (.t false)) [])
        (.ite (.lt (.l 1000000) (.a 3))
         (.ret false (.bool (.t false)) [])
         (.ite (.lt (.a 4) (.l 0))
          (.ret false (.bool (.t false)) [])
          (.ite (.lt (.l 1000000) (.a 4))
           (.ret false (.bool (.t false)) [])
           (.ite (.lt (.a 5) (.l 0))
            (.ret false (.bool (.t false)) [])
            (.ite (.lt (.l 1000000) (.a 5))
             (.ret false (.bool (.t false)) [])
             (.ret false (.bool (.t true)) [])))))))))))))
def saleroomref07_Prices_S : Sx.Sys := ⟨[(.sh (.agg [(.int .i64), (.int .i64), (.int .i64), (.int .i64), (.int .i64), (.int .i64)]))], saleroomref07_Prices_s, [], none⟩
def saleroomref07_Prices_pats : List Cfg := []
theorem saleroomref07_Prices_ok : SysOk Try.prog 51 saleroomref07_Prices_S := sys_ok (c := (cg [] [] [] false false false true)) (progOkG _ _ _ _ _ _ _) Try.func51 Try.call51 (by kernel_rfl) saleroomref07_Prices_pats saleroomref07_Prices_S 5000 rfl (by kernel_rfl) (by kernel_rfl) rfl
def math_bits_Len64_s : PT :=
 (.ite (.le (.l 4294967296) (.a 0))
  .stuck
  (.ite (.le (.l 65536) (.a 0))
   .stuck
   (.ite (.le (.l 256) (.a 0))
    .stuck
    (.need (.and (.le (.l 0) (.a 0)) (.le (.a 0) (.l 255)))
    (.need (.and (.le (.l 0) (.a 0)) (.lt (.a 0) (.l 256)))
    (.need (.and (.le (.l (-9223372036854775808)) (.ifeq (.a 0) (.l 0) (.l 0) (.ifeq (.a 0) (.l 1) (.l 1) (.ifeq (.a 0) (.l 2) (.l 2) (.ifeq (.a 0) (.l 3) (.l 2) (.ifeq (.a 0) (.l 4) (.l 3) (.ifeq (.a 0) (.l 5) (.l 3) (.ifeq (.a 0) (.l 6) (.l 3) (.ifeq (.a 0) (.l 7) (.l 3) (.ifeq (.a 0) (.l 8) (.l 4) (.ifeq (.a 0) (.l 9) (.l 4) (.ifeq (.a 0) (.l 10) (.l 4) (.ifeq (.a 0) (.l 11) (.l 4) (.ifeq (.a 0) (.l 12) (.l 4) (.ifeq (.a 0) (.l 13) (.l 4) (.ifeq (.a 0) (.l 14) (.l 4) (.ifeq (.a 0) (.l 15) (.l 4) (.ifeq (.a 0) (.l 16) (.l 5) (.ifeq (.a 0) (.l 17) (.l 5) (.ifeq (.a 0) (.l 18) (.l 5) (.ifeq (.a 0) (.l 19) (.l 5) (.ifeq (.a 0) (.l 20) (.l 5) (.ifeq (.a 0) (.l 21) (.l 5) (.ifeq (.a 0) (.l 22) (.l 5) (.ifeq (.a 0) (.l 23) (.l 5) (.ifeq (.a 0) (.l 24) (.l 5) (.ifeq (.a 0) (.l 25) (.l 5) (.ifeq (.a 0) (.l 26) (.l 5) (.ifeq (.a 0) (.l 27) (.l 5) (.ifeq (.a 0) (.l 28) (.l 5) (.ifeq (.a 0) (.l 29) (.l 5) (.ifeq (.a 0) (.l 30) (.l 5) (.ifeq (.a 0) (.l 31) (.l 5) (.ifeq (.a 0) (.l 32) (.l 6) (.ifeq (.a 0) (.l 33) (.l 6) (.ifeq (.a 0) (.l 34) (.l 6) (.ifeq (.a 0) (.l 35) (.l 6) (.ifeq (.a 0) (.l 36) (.l 6) (.ifeq (.a 0) (.l 37) (.l 6) (.ifeq (.a 0) (.l 38) (.l 6) (.ifeq (.a 0) (.l 39) (.l 6) (.ifeq (.a 0) (.l 40) (.l 6) (.ifeq (.a 0) (.l 41) (.l 6) (.ifeq (.a 0) (.l 42) (.l 6) (.ifeq (.a 0) (.l 43) (.l 6) (.ifeq (.a 0) (.l 44) (.l 6) (.ifeq (.a 0) (.l 45) (.l 6) (.ifeq (.a 0) (.l 46) (.l 6) (.ifeq (.a 0) (.l 47) (.l 6) (.ifeq (.a 0) (.l 48) (.l 6) (.ifeq (.a 0) (.l 49) (.l 6) (.ifeq (.a 0) (.l 50) (.l 6) (.ifeq (.a 0) (.l 51) (.l 6) (.ifeq (.a 0) (.l 52) (.l 6) (.ifeq (.a 0) (.l 53) (.l 6) (.ifeq (.a 0) (.l 54) (.l 6) (.ifeq (.a 0) (.l 55) (.l 6) (.ifeq (.a 0) (.l 56) (.l 6) (.ifeq (.a 0) (.l 57) (.l 6) (.ifeq (.a 0) (.l 58) (.l 6) (.ifeq (.a 0) (.l 59) (.l 6) (.ifeq (.a 0) (.l 60) (.l 6) (.ifeq (.a 0) (.l 61) (.l 6) (.ifeq (.a 0) (.l 62) (.l 6) (.ifeq (.a 0) (.l 63) (.l 6) (.ifeq (.a 0) (.l 64) (.l 7) (.ifeq (.a 0) (.l 65) (.l 7) (.ifeq (.a 0) (.l 66) (.l 7) (.ifeq (.a 0) (.l 67) (.l 7) (.ifeq (.a 0) (.l 68) (.l 7) (.ifeq (.a 0) (.l 69) (.l 7) (.ifeq (.a 0) (.l 70) (.l 7) (.ifeq (.a 0) (.l 71) (.l 7) (.ifeq (.a 0) (.l 72) (.l 7) (.ifeq (.a 0) (.l 73) (.l 7) (.ifeq (.a 0) (.l 74) (.l 7) (.ifeq (.a 0) (.l 75) (.l 7) (.ifeq (.a 0) (.l 76) (.l 7) (.ifeq (.a 0) (.l 77) (.l 7) (.ifeq (.a 0) (.l 78) (.l 7) (.ifeq (.a 0) (.l 79) (.l 7) (.ifeq (.a 0) (.l 80) (.l 7) (.ifeq (.a 0) (.l 81) (.l 7) (.ifeq (.a 0) (.l 82) (.l 7) (.ifeq (.a 0) (.l 83) (.l 7) (.ifeq (.a 0) (.l 84) (.l 7) (.ifeq (.a 0) (.l 85) (.l 7) (.ifeq (.a 0) (.l 86) (.l 7) (.ifeq (.a 0) (.l 87) (.l 7) (.ifeq (.a 0) (.l 88) (.l 7) (.ifeq (.a 0) (.l 89) (.l 7) (.ifeq (.a 0) (.l 90) (.l 7) (.ifeq (.a 0) (.l 91) (.l 7) (.ifeq (.a 0) (.l 92) (.l 7) (.ifeq (.a 0) (.l 93) (.l 7) (.ifeq (.a 0) (.l 94) (.l 7) (.ifeq (.a 0) (.l 95) (.l 7) (.ifeq (.a 0) (.l 96) (.l 7) (.ifeq (.a 0) (.l 97) (.l 7) (.ifeq (.a 0) (.l 98) (.l 7) (.ifeq (.a 0) (.l 99) (.l 7) (.ifeq (.a 0) (.l 100) (.l 7) (.ifeq (.a 0) (.l 101) (.l 7) (.ifeq (.a 0) (.l 102) (.l 7) (.ifeq (.a 0) (.l 103) (.l 7) (.ifeq (.a 0) (.l 104) (.l 7) (.ifeq (.a 0) (.l 105) (.l 7) (.ifeq (.a 0) (.l 106) (.l 7) (.ifeq (.a 0) (.l 107) (.l 7) (.ifeq (.a 0) (.l 108) (.l 7) (.ifeq (.a 0) (.l 109) (.l 7) (.ifeq (.a 0) (.l 110) (.l 7) (.ifeq (.a 0) (.l 111) (.l 7) (.ifeq (.a 0) (.l 112) (.l 7) (.ifeq (.a 0) (.l 113) (.l 7) (.ifeq (.a 0) (.l 114) (.l 7) (.ifeq (.a 0) (.l 115) (.l 7) (.ifeq (.a 0) (.l 116) (.l 7) (.ifeq (.a 0) (.l 117) (.l 7) (.ifeq (.a 0) (.l 118) (.l 7) (.ifeq (.a 0) (.l 119) (.l 7) (.ifeq (.a 0) (.l 120) (.l 7) (.ifeq (.a 0) (.l 121) (.l 7) (.ifeq (.a 0) (.l 122) (.l 7) (.ifeq (.a 0) (.l 123) (.l 7) (.ifeq (.a 0) (.l 124) (.l 7) (.ifeq (.a 0) (.l 125) (.l 7) (.ifeq (.a 0) (.l 126) (.l 7) (.ifeq (.a 0) (.l 127) (.l 7) (.ifeq (.a 0) (.l 128) (.l 8) (.ifeq (.a 0) (.l 129) (.l 8) (.ifeq (.a 0) (.l 130) (.l 8) (.ifeq (.a 0) (.l 131) (.l 8) (.ifeq (.a 0) (.l 132) (.l 8) (.ifeq (.a 0) (.l 133) (.l 8) (.ifeq (.a 0) (.l 134) (.l 8) (.ifeq (.a 0) (.l 135) (.l 8) (.ifeq (.a 0) (.l 136) (.l 8) (.ifeq (.a 0) (.l 137) (.l 8) (.ifeq (.a 0) (.l 138) (.l 8) (.ifeq (.a 0) (.l 139) (.l 8) (.ifeq (.a 0) (.l 140) (.l 8) (.ifeq (.a 0) (.l 141) (.l 8) (.ifeq (.a 0) (.l 142) (.l 8) (.ifeq (.a 0) (.l 143) (.l 8) (.ifeq (.a 0) (.l 144) (.l 8) (.ifeq (.a 0) (.l 145) (.l 8) (.ifeq (.a 0) (.l 146) (.l 8) (.ifeq (.a 0) (.l 147) (.l 8) (.ifeq (.a 0) (.l 148) (.l 8) (.ifeq (.a 0) (.l 149) (.l 8) (.ifeq (.a 0) (.l 150) (.l 8) (.ifeq (.a 0) (.l 151) (.l 8) (.ifeq (.a 0) (.l 152) (.l 8) (.ifeq (.a 0) (.l 153) (.l 8) (.ifeq (.a 0) (.l 154) (.l 8) (.ifeq (.a 0) (.l 155) (.l 8) (.ifeq (.a 0) (.l 156) (.l 8) (.ifeq (.a 0) (.l 157) (.l 8) (.ifeq (.a 0) (.l 158) (.l 8) (.ifeq (.a 0) (.l 159) (.l 8) (.ifeq (.a 0) (.l 160) (.l 8) (.ifeq (.a 0) (.l 161) (.l 8) (.ifeq (.a 0) (.l 162) (.l 8) (.ifeq (.a 0) (.l 163) (.l 8) (.ifeq (.a 0) (.l 164) (.l 8) (.ifeq (.a 0) (.l 165) (.l 8) (.ifeq (.a 0) (.l 166) (.l 8) (.ifeq (.a 0) (.l 167) (.l 8) (.ifeq (.a 0) (.l 168) (.l 8) (.ifeq (.a 0) (.l 169) (.l 8) (.ifeq (.a 0) (.l 170) (.l 8) (.ifeq (.a 0) (.l 171) (.l 8) (.ifeq (.a 0) (.l 172) (.l 8) (.ifeq (.a 0) (.l 173) (.l 8) (.ifeq (.a 0) (.l 174) (.l 8) (.ifeq (.a 0) (.l 175) (.l 8) (.ifeq (.a 0) (.l 176) (.l 8) (.ifeq (.a 0) (.l 177) (.l 8) (.ifeq (.a 0) (.l 178) (.l 8) (.ifeq (.a 0) (.l 179) (.l 8) (.ifeq (.a 0) (.l 180) (.l 8) (.ifeq (.a 0) (.l 181) (.l 8) (.ifeq (.a 0) (.l 182) (.l 8) (.ifeq (.a 0) (.l 183) (.l 8) (.ifeq (.a 0) (.l 184) (.l 8) (.ifeq (.a 0) (.l 185) (.l 8) (.ifeq (.a 0) (.l 186) (.l 8) (.ifeq (.a 0) (.l 187) (.l 8) (.ifeq (.a 0) (.l 188) (.l 8) (.ifeq (.a 0) (.l 189) (.l 8) (.ifeq (.a 0) (.l 190) (.l 8) (.ifeq (.a 0) (.l 191) (.l 8) (.ifeq (.a 0) (.l 192) (.l 8) (.ifeq (.a 0) (.l 193) (.l 8) (.ifeq (.a 0) (.l 194) (.l 8) (.ifeq (.a 0) (.l 195) (.l 8) (.ifeq (.a 0) (.l 196) (.l 8) (.ifeq (.a 0) (.l 197) (.l 8) (.ifeq (.a 0) (.l 198) (.l 8) (.ifeq (.a 0) (.l 199) (.l 8) (.ifeq (.a 0) (.l 200) (.l 8) (.ifeq (.a 0) (.l 201) (.l 8) (.ifeq (.a 0) (.l 202) (.l 8) (.ifeq (.a 0) (.l 203) (.l 8) (.ifeq (.a 0) (.l 204) (.l 8) (.ifeq (.a 0) (.l 205) (.l 8) (.ifeq (.a 0) (.l 206) (.l 8) (.ifeq (.a 0) (.l 207) (.l 8) (.ifeq (.a 0) (.l 208) (.l 8) (.ifeq (.a 0) (.l 209) (.l 8) (.ifeq (.a 0) (.l 210) (.l 8) (.ifeq (.a 0) (.l 211) (.l 8) (.ifeq (.a 0) (.l 212) (.l 8) (.ifeq (.a 0) (.l 213) (.l 8) (.ifeq (.a 0) (.l 214) (.l 8) (.ifeq (.a 0) (.l 215) (.l 8) (.ifeq (.a 0) (.l 216) (.l 8) (.ifeq (.a 0) (.l 217) (.l 8) (.ifeq (.a 0) (.l 218) (.l 8) (.ifeq (.a 0) (.l 219) (.l 8) (.ifeq (.a 0) (.l 220) (.l 8) (.ifeq (.a 0) (.l 221) (.l 8) (.ifeq (.a 0) (.l 222) (.l 8) (.ifeq (.a 0) (.l 223) (.l 8) (.ifeq (.a 0) (.l 224) (.l 8) (.ifeq (.a 0) (.l 225) (.l 8) (.ifeq (.a 0) (.l 226) (.l 8) (.ifeq (.a 0) (.l 227) (.l 8) (.ifeq (.a 0) (.l 228) (.l 8) (.ifeq (.a 0) (.l 229) (.l 8) (.ifeq (.a 0) (.l 230) (.l 8) (.ifeq (.a 0) (.l 231) (.l 8) (.ifeq (.a 0) (.l 232) (.l 8) (.ifeq (.a 0) (.l 233) (.l 8) (.ifeq (.a 0) (.l 234) (.l 8) (.ifeq (.a 0) (.l 235) (.l 8) (.ifeq (.a 0) (.l 236) (.l 8) (.ifeq (.a 0) (.l 237) (.l 8) (.ifeq (.a 0) (.l 238) (.l 8) (.ifeq (.a 0) (.l 239) (.l 8) (.ifeq (.a 0) (.l 240) (.l 8) (.ifeq (.a 0) (.l 241) (.l 8) (.ifeq (.a 0) (.l 242) (.l 8) (.ifeq (.a 0) (.l 243) (.l 8) (.ifeq (.a 0) (.l 244) (.l 8) (.ifeq (.a 0) (.l 245) (.l 8) (.ifeq (.a 0) (.l 246) (.l 8) (.ifeq (.a 0) (.l 247) (.l 8) (.ifeq (.a 0) (.l 248) (.l 8) (.ifeq (.a 0) (.l 249) (.l 8) (.ifeq (.a 0) (.l 250) (.l 8) (.ifeq (.a 0) (.l 251) (.l 8) (.ifeq (.a 0) (.l 252) (.l 8) (.ifeq (.a 0) (.l 253) (.l 8) (.ifeq (.a 0) (.l 254) (.l 8) (.ifeq (.a 0) (.l 255) (.l 8) (.l 0)))))))))))))))))))))))))))))))))))))))))))))))))))))))))))))))))))))))))))))))))))))))))))))))))))))))))))))))))))))))))))))))))))))))))))))))))))))))))))))))))))))))))))))))))))))))))))))))))))))))))))))))))))))))))))))))))))))))))))))))))))))))))))))))))) (.le (.ifeq (.a 0) (.l 0) (.l 0) (.ifeq (.a 0) (.l 1) (.l 1) (.ifeq (.a 0) (.l 2) (.l 2) (.ifeq (.a 0) (.l 3) (.l 2) (.ifeq (.a 0) (.l 4) (.l 3) (.ifeq (.a 0) (.l 5) (.l 3) (.ifeq (.a 0) (.l 6) (.l 3) (.ifeq (.a 0) (.l 7) (.l 3) (.ifeq (.a 0) (.l 8) (.l 4) (.ifeq (.a 0) (.l 9) (.l 4) (.ifeq (.a 0) (.l 10) (.l 4) (.ifeq (.a 0) (.l 11) (.l 4) (.ifeq (.a 0) (.l 12) (.l 4) (.ifeq (.a 0) (.l 13) (.l 4) (.ifeq (.a 0) (.l 14) (.l 4) (.ifeq (.a 0) (.l 15) (.l 4) (.ifeq (.a 0) (.l 16) (.l 5) (.ifeq (.a 0) (.l 17) (.l 5) (.ifeq (.a 0) (.l 18) (.l 5) (.ifeq (.a 0) (.l 19) (.l 5) (.ifeq (.a 0) (.l 20) (.l 5) (.ifeq (.a 0) (.l 21) (.l 5) (.ifeq (.a 0) (.l 22) (.l 5) (.ifeq (.a 0) (.l 23) (.l 5) (.ifeq (.a 0) (.l 24) (.l 5) (.ifeq (.a 0) (.l 25) (.l 5) (.ifeq (.a 0) (.l 26) (.l 5) (.ifeq (.a 0) (.l 27) (.l 5) (.ifeq (.a 0) (.l 28) (.l 5) (.ifeq (.a 0) (.l 29) (.l 5) (.ifeq (.a 0) (.l 30) (.l 5) (.ifeq (.a 0) (.l 31) (.l 5) (.ifeq (.a 0) (.l 32) (.l 6) (.ifeq (.a 0) (.l 33) (.l 6) (.ifeq (.a 0) (.l 34) (.l 6) (.ifeq (.a 0) (.l 35) (.l 6) (.ifeq (.a 0) (.l 36) (.l 6) (.ifeq (.a 0) (.l 37) (.l 6) (.ifeq (.a 0) (.l 38) (.l 6) (.ifeq (.a 0) (.l 39) (.l 6) (.ifeq (.a 0) (.l 40) (.l 6) (.ifeq (.a 0) (.l 41) (.l 6) (.ifeq (.a 0) (.l 42) (.l 6) (.ifeq (.a 0) (.l 43) (.l 6) (.ifeq (.a 0) (.l 44) (.l 6) (.ifeq (.a 0) (.l 45) (.l 6) (.ifeq (.a 0) (.l 46) (.l 6) (.ifeq (.a 0) (.l 47) (.l 6) (.ifeq (.a 0) (.l 48) (.l 6) (.ifeq (.a 0) (.l 49) (.l 6) (.ifeq (.a 0) (.l 50) (.l 6) (.ifeq (.a 0) (.l 51) (.l 6) (.ifeq (.a 0) (.l 52) (.l 6) (.ifeq (.a 0) (.l 53) (.l 6) (.ifeq (.a 0) (.l 54) (.l 6) (.ifeq (.a 0) (.l 55) (.l 6) (.ifeq (.a 0) (.l 56) (.l 6) (.ifeq (.a 0) (.l 57) (.l 6) (.ifeq (.a 0) (.l 58) (.l 6) (.ifeq (.a 0) (.l 59) (.l 6) (.ifeq (.a 0) (.l 60) (.l 6) (.ifeq (.a 0) (.l 61) (.l 6) (.ifeq (.a 0) (.l 62) (.l 6) (.ifeq (.a 0) (.l 63) (.l 6) (.ifeq (.a 0) (.l 64) (.l 7) (.ifeq (.a 0) (.l 65) (.l 7) (.ifeq (.a 0) (.l 66) (.l 7) (.ifeq (.a 0) (.l 67) (.l 7) (.ifeq (.a 0) (.l 68) (.l 7) (.ifeq (.a 0) (.l 69) (.l 7) (.ifeq (.a 0) (.l 70) (.l 7) (.ifeq (.a 0) (.l 71) (.l 7) (.ifeq (.a 0) (.l 72) (.l 7) (.ifeq (.a 0) (.l 73) (.l 7) (.ifeq (.a 0) (.l 74) (.l 7) (.ifeq (.a 0) (.l 75) (.l 7) (.ifeq (.a 0) (.l 76) (.l 7) (.ifeq (.a 0) (.l 77) (.l 7) (.ifeq (.a 0) (.l 78) (.l 7) (.ifeq (.a 0) (.l 79) (.l 7) (.ifeq (.a 0) (.l 80) (.l 7) (.ifeq (.a 0) (.l 81) (.l 7) (.ifeq (.a 0) (.l 82) (.l 7) (.ifeq (.a 0) (.l 83) (.l 7) (.ifeq (.a 0) (.l 84) (.l 7) (.ifeq (.a 0) (.l 85) (.l 7) (.ifeq (.a 0) (.l 86) (.l 7) (.ifeq (.a 0) (.l 87) (.l 7) (.ifeq (.a 0) (.l 88) (.l 7) (.ifeq (.a 0) (.l 89) (.l 7) (.ifeq (.a 0) (.l 90) (.l 7) (.ifeq (.a 0) (.l 91) (.l 7) (.ifeq (.a 0) (.l 92) (.l 7) (.ifeq (.a 0) (.l 93) (.l 7) (.ifeq (.a 0) (.l 94) (.l 7) (.ifeq (.a 0) (.l 95) (.l 7) (.ifeq (.a 0) (.l 96) (.l 7) (.ifeq (.a 0) (.l 97) (.l 7) (.ifeq (.a 0) (.l 98) (.l 7) (.ifeq (.a 0) (.l 99) (.l 7) (.ifeq (.a 0) (.l 100) (.l 7) (.ifeq (.a 0) (.l 101) (.l 7) (.ifeq (.a 0) (.l 102) (.l 7) (.ifeq (.a 0) (.l 103) (.l 7) (.ifeq (.a 0) (.l 104) (.l 7) (.ifeq (.a 0) (.l 105) (.l 7) (.ifeq (.a 0) (.l 106) (.l 7) (.ifeq (.a 0) (.l 107) (.l 7) (.ifeq (.a 0) (.l 108) (.l 7) (.ifeq (.a 0) (.l 109) (.l 7) (.ifeq (.a 0) (.l 110) (.l 7) (.ifeq (.a 0) (.l 111) (.l 7) (.ifeq (.a 0) (.l 112) (.l 7) (.ifeq (.a 0) (.l 113) (.l 7) (.ifeq (.a 0) (.l 114) (.l 7) (.ifeq (.a 0) (.l 115) (.l 7) (.ifeq (.a 0) (.l 116) (.l 7) (.ifeq (.a 0) (.l 117) (.l 7) (.ifeq (.a 0) (.l 118) (.l 7) (.ifeq (.a 0) (.l 119) (.l 7) (.ifeq (.a 0) (.l 120) (.l 7) (.ifeq (.a 0) (.l 121) (.l 7) (.ifeq (.a 0) (.l 122) (.l 7) (.ifeq (.a 0) (.l 123) (.l 7) (.ifeq (.a 0) (.l 124) (.l 7) (.ifeq (.a 0) (.l 125) (.l 7) (.ifeq (.a 0) (.l 126) (.l 7) (.ifeq (.a 0) (.l 127) (.l 7) (.ifeq (.a 0) (.l 128) (.l 8) (.ifeq (.a 0) (.l 129) (.l 8) (.ifeq (.a 0) (.l 130) (.l 8) (.ifeq (.a 0) (.l 131) (.l 8) (.ifeq (.a 0) (.l 132) (.l 8) (.ifeq (.a 0) (.l 133) (.l 8) (.ifeq (.a 0) (.l 134) (.l 8) (.ifeq (.a 0) (.l 135) (.l 8) (.ifeq (.a 0) (.l 136) (.l 8) (.ifeq (.a 0) (.l 137) (.l 8) (.ifeq (.a 0) (.l 138) (.l 8) (.ifeq (.a 0) (.l 139) (.l 8) (.ifeq (.a 0) (.l 140) (.l 8) (.ifeq (.a 0) (.l 141) (.l 8) (.ifeq (.a 0) (.l 142) (.l 8) (.ifeq (.a 0) (.l 143) (.l 8) (.ifeq (.a 0) (.l 144) (.l 8) (.ifeq (.a 0) (.l 145) (.l 8) (.ifeq (.a 0) (.l 146) (.l 8) (.ifeq (.a 0) (.l 147) (.l 8) (.ifeq (.a 0) (.l 148) (.l 8) (.ifeq (.a 0) (.l 149) (.l 8) (.ifeq (.a 0) (.l 150) (.l 8) (.ifeq (.a 0) (.l 151) (.l 8) (.ifeq (.a 0) (.l 152) (.l 8) (.ifeq (.a 0) (.l 153) (.l 8) (.ifeq (.a 0) (.l 154) (.l 8) (.ifeq (.a 0) (.l 155) (.l 8) (.ifeq (.a 0) (.l 156) (.l 8) (.ifeq (.a 0) (.l 157) (.l 8) (.ifeq (.a 0) (.l 158) (.l 8) (.ifeq (.a 0) (.l 159) (.l 8) (.ifeq (.a 0) (.l 160) (.l 8) (.ifeq (.a 0) (.l 161) (.l 8) (.ifeq (.a 0) (.l 162) (.l 8) (.ifeq (.a 0) (.l 163) (.l 8) (.ifeq (.a 0) (.l 164) (.l 8) (.ifeq (.a 0) (.l 165) (.l 8) (.ifeq (.a 0) (.l 166) (.l 8) (.ifeq (.a 0) (.l 167) (.l 8) (.ifeq (.a 0) (.l 168) (.l 8) (.ifeq (.a 0) (.l 169) (.l 8) (.ifeq (.a 0) (.l 170) (.l 8) (.ifeq (.a 0) (.l 171) (.l 8) (.ifeq (.a 0) (.l 172) (.l 8) (.ifeq (.a 0) (.l 173) (.l 8) (.ifeq (.a 0) (.l 174) (.l 8) (.ifeq (.a 0) (.l 175) (.l 8) (.ifeq (.a 0) (.l 176) (.l 8) (.ifeq (.a 0) (.l 177) (.l 8) (.ifeq (.a 0) (.l 178) (.l 8) (.ifeq (.a 0) (.l 179) (.l 8) (.ifeq (.a 0) (.l 180) (.l 8) (.ifeq (.a 0) (.l 181) (.l 8) (.ifeq (.a 0) (.l 182) (.l 8) (.ifeq (.a 0) (.l 183) (.l 8) (.ifeq (.a 0) (.l 184) (.l 8) (.ifeq (.a 0) (.l 185) (.l 8) (.ifeq (.a 0) (.l 186) (.l 8) (.ifeq (.a 0) (.l 187) (.l 8) (.ifeq (.a 0) (.l 188) (.l 8) (.ifeq (.a 0) (.l 189) (.l 8) (.ifeq (.a 0) (.l 190) (.l 8) (.ifeq (.a 0) (.l 191) (.l 8) (.ifeq (.a 0) (.l 192) (.l 8) (.ifeq (.a 0) (.l 193) (.l 8) (.ifeq (.a 0) (.l 194) (.l 8) (.ifeq (.a 0) (.l 195) (.l 8) (.ifeq (.a 0) (.l 196) (.l 8) (.ifeq (.a 0) (.l 197) (.l 8) (.ifeq (.a 0) (.l 198) (.l 8) (.ifeq (.a 0) (.l 199) (.l 8) (.ifeq (.a 0) (.l 200) (.l 8) (.ifeq (.a 0) (.l 201) (.l 8) (.ifeq (.a 0) (.l 202) (.l 8) (.ifeq (.a 0) (.l 203) (.l 8) (.ifeq (.a 0) (.l 204) (.l 8) (.ifeq (.a 0) (.l 205) (.l 8) (.ifeq (.a 0) (.l 206) (.l 8) (.ifeq (.a 0) (.l 207) (.l 8) (.ifeq (.a 0) (.l 208) (.l 8) (.ifeq (.a 0) (.l 209) (.l 8) (.ifeq (.a 0) (.l 210) (.l 8) (.ifeq (.a 0) (.l 211) (.l 8) (.ifeq (.a 0) (.l 212) (.l 8) (.ifeq (.a 0) (.l 213) (.l 8) (.ifeq (.a 0) (.l 214) (.l 8) (.ifeq (.a 0) (.l 215) (.l 8) (.ifeq (.a 0) (.l 216) (.l 8) (.ifeq (.a 0) (.l 217) (.l 8) (.ifeq (.a 0) (.l 218) (.l 8) (.ifeq (.a 0) (.l 219) (.l 8) (.ifeq (.a 0) (.l 220) (.l 8) (.ifeq (.a 0) (.l 221) (.l 8) (.ifeq (.a 0) (.l 222) (.l 8) (.ifeq (.a 0) (.l 223) (.l 8) (.ifeq (.a 0) (.l 224) (.l 8) (.ifeq (.a 0) (.l 225) (.l 8) (.ifeq (.a 0) (.l 226) (.l 8) (.ifeq (.a 0) (.l 227) (.l 8) (.ifeq (.a 0) (.l 228) (.l 8) (.ifeq (.a 0) (.l 229) (.l 8) (.ifeq (.a 0) (.l 230) (.l 8) (.ifeq (.a 0) (.l 231) (.l 8) (.ifeq (.a 0) (.l 232) (.l 8) (.ifeq (.a 0) (.l 233) (.l 8) (.ifeq (.a 0) (.l 234) (.l 8) (.ifeq (.a 0) (.l 235) (.l 8) (.ifeq (.a 0) (.l 236) (.l 8) (.ifeq (.a 0) (.l 237) (.l 8) (.ifeq (.a 0) (.l 238) (.l 8) (.ifeq (.a 0) (.l 239) (.l 8) (.ifeq (.a 0) (.l 240) (.l 8) (.ifeq (.a 0) (.l 241) (.l 8) (.ifeq (.a 0) (.l 242) (.l 8) (.ifeq (.a 0) (.l 243) (.l 8) (.ifeq (.a 0) (.l 244) (.l 8) (.ifeq (.a 0) (.l 245) (.l 8) (.ifeq (.a 0) (.l 246) (.l 8) (.ifeq (.a 0) (.l 247) (.l 8) (.ifeq (.a 0) (.l 248) (.l 8) (.ifeq (.a 0) (.l 249) (.l 8) (.ifeq (.a 0) (.l 250) (.l 8) (.ifeq (.a 0) (.l 251) (.l 8) (.ifeq (.a 0) (.l 252) (.l 8) (.ifeq (.a 0) (.l 253) (.l 8) (.ifeq (.a 0) (.l 254) (.l 8) (.ifeq (.a 0) (.l 255) (.l 8) (.l 0))))))))))))))))))))))))))))))))))))))))))))))))))))))))))))))))))))))))))))))))))))))))))))))))))))))))))))))))))))))))))))))))))))))))))))))))))))))))))))))))))))))))))))))))))))))))))))))))))))))))))))))))))))))))))))))))))))))))))))))))))))))))))))))))) (.l 9223372036854775807)))
    (.need (.and (.le (.l (-9223372036854775808)) (.ifeq (.a 0) (.l 0) (.l 0) (.ifeq (.a 0) (.l 1) (.l 1) (.ifeq (.a 0) (.l 2) (.l 2) (.ifeq (.a 0) (.l 3) (.l 2) (.ifeq (.a 0) (.l 4) (.l 3) (.ifeq (.a 0) (.l 5) (.l 3) (.ifeq (.a 0) (.l 6) (.l 3) (.ifeq (.a 0) (.l 7) (.l 3) (.ifeq (.a 0) (.l 8) (.l 4) (.ifeq (.a 0) (.l 9) (.l 4) (.ifeq (.a 0) (.l 10) (.l 4) (.ifeq (.a 0) (.l 11) (.l 4) (.ifeq (.a 0) (.l 12) (.l 4) (.ifeq (.a 0) (.l 13) (.l 4) (.ifeq (.a 0) (.l 14) (.l 4) (.ifeq (.a 0) (.l 15) (.l 4) (.ifeq (.a 0) (.l 16) (.l 5) (.ifeq (.a 0) (.l 17) (.l 5) (.ifeq (.a 0) (.l 18) (.l 5) (.ifeq (.a 0) (.l 19) (.l 5) (.ifeq (.a 0) (.l 20) (.l 5) (.ifeq (.a 0) (.l 21) (.l 5) (.ifeq (.a 0) (.l 22) (.l 5) (.ifeq (.a 0) (.l 23) (.l 5) (.ifeq (.a 0) (.l 24) (.l 5) (.ifeq (.a 0) (.l 25) (.l 5) (.ifeq (.a 0) (.l 26) (.l 5) (.ifeq (.a 0) (.l 27) (.l 5) (.ifeq (.a 0) (.l 28) (.l 5) (.ifeq (.a 0) (.l 29) (.l 5) (.ifeq (.a 0) (.l 30) (.l 5) (.ifeq (.a 0) (.l 31) (.l 5) (.ifeq (.a 0) (.l 32) (.l 6) (.ifeq (.a 0) (.l 33) (.l 6) (.ifeq (.a 0) (.l 34) (.l 6) (.ifeq (.a 0) (.l 35) (.l 6) (.ifeq (.a 0) (.l 36) (.l 6) (.ifeq (.a 0) (.l 37) (.l 6) (.ifeq (.a 0) (.l 38) (.l 6) (.ifeq (.a 0) (.l 39) (.l 6) (.ifeq (.a 0) (.l 40) (.l 6) (.ifeq (.a 0) (.l 41) (.l 6) (.ifeq (.a 0) (.l 42) (.l 6) (.ifeq (.a 0) (.l 43) (.l 6) (.ifeq (.a 0) (.l 44) (.l 6) (.ifeq (.a 0) (.l 45) (.l 6) (.ifeq (.a 0) (.l 46) (.l 6) (.ifeq (.a 0) (.l 47) (.l 6) (.ifeq (.a 0) (.l 48) (.l 6) (.ifeq (.a 0) (.l 49) (.l 6) (.ifeq (.a 0) (.l 50) (.l 6) (.ifeq (.a 0) (.l 51) (.l 6) (.ifeq (.a 0) (.l 52) (.l 6) (.ifeq (.a 0) (.l 53) (.l 6) (.ifeq (.a 0) (.l 54) (.l 6) (.ifeq (.a 0) (.l 55) (.l 6) (.ifeq (.a 0) (.l 56) (.l 6) (.ifeq (.a 0) (.l 57) (.l 6) (.ifeq (.a 0) (.l 58) (.l 6) (.ifeq (.a 0) (.l 59) (.l 6) (.ifeq (.a 0) (.l 60) (.l 6) (.ifeq (.a 0) (.l 61) (.l 6) (.ifeq (.a 0) (.l 62) (.l 6) (.ifeq (.a 0) (.l 63) (.l 6) (.ifeq (.a 0) (.l 64) (.l 7) (.ifeq (.a 0) (.l 65) (.l 7) (.ifeq (.a 0) (.l 66) (.l 7) (.ifeq (.a 0) (.l 67) (.l 7) (.ifeq (.a 0) (.l 68) (.l 7) (.ifeq (.a 0) (.l 69) (.l 7) (.ifeq (.a 0) (.l 70) (.l 7) (.ifeq (.a 0) (.l 71) (.l 7) (.ifeq (.a 0) (.l 72) (.l 7) (.ifeq (.a 0) (.l 73) (.l 7) (.ifeq (.a 0) (.l 74) (.l 7) (.ifeq (.a 0) (.l 75) (.l 7) (.ifeq (.a 0) (.l 76) (.l 7) (.ifeq (.a 0) (.l 77) (.l 7) (.ifeq (.a 0) (.l 78) (.l 7) (.ifeq (.a 0) (.l 79) (.l 7) (.ifeq (.a 0) (.l 80) (.l 7) (.ifeq (.a 0) (.l 81) (.l 7) (.ifeq (.a 0) (.l 82) (.l 7) (.ifeq (.a 0) (.l 83) (.l 7) (.ifeq (.a 0) (.l 84) (.l 7) (.ifeq (.a 0) (.l 85) (.l 7) (.ifeq (.a 0) (.l 86) (.l 7) (.ifeq (.a 0) (.l 87) (.l 7) (.ifeq (.a 0) (.l 88) (.l 7) (.ifeq (.a 0) (.l 89) (.l 7) (.ifeq (.a 0) (.l 90) (.l 7) (.ifeq (.a 0) (.l 91) (.l 7) (.ifeq (.a 0) (.l 92) (.l 7) (.ifeq (.a 0) (.l 93) (.l 7) (.ifeq (.a 0) (.l 94) (.l 7) (.ifeq (.a 0) (.l 95) (.l 7) (.ifeq (.a 0) (.l 96) (.l 7) (.ifeq (.a 0) (.l 97) (.l 7) (.ifeq (.a 0) (.l 98) (.l 7) (.ifeq (.a 0) (.l 99) (.l 7) (.ifeq (.a 0) (.l 100) (.l 7) (.ifeq (.a 0) (.l 101) (.l 7) (.ifeq (.a 0) (.l 102) (.l 7) (.ifeq (.a 0) (.l 103) (.l 7) (.ifeq (.a 0) (.l 104) (.l 7) (.ifeq (.a 0) (.l 105) (.l 7) (.ifeq (.a 0) (.l 106) (.l 7) (.ifeq (.a 0) (.l 107) (.l 7) (.ifeq (.a 0) (.l 108) (.l 7) (.ifeq (.a 0) (.l 109) (.l 7) (.ifeq (.a 0) (.l 110) (.l 7) (.ifeq (.a 0) (.l 111) (.l 7) (.ifeq (.a 0) (.l 112) (.l 7) (.ifeq (.a 0) (.l 113) (.l 7) (.ifeq (.a 0) (.l 114) (.l 7) (.ifeq (.a 0) (.l 115) (.l 7) (.ifeq (.a 0) (.l 116) (.l 7) (.ifeq (.a 0) (.l 117) (.l 7) (.ifeq (.a 0) (.l 118) (.l 7) (.ifeq (.a 0) (.l 119) (.l 7) (.ifeq (.a 0) (.l 120) (.l 7) (.ifeq (.a 0) (.l 121) (.l 7) (.ifeq (.a 0) (.l 122) (.l 7) (.ifeq (.a 0) (.l 123) (.l 7) (.ifeq (.a 0) (.l 124) (.l 7) (.ifeq (.a 0) (.l 125) (.l 7) (.ifeq (.a 0) (.l 126) (.l 7) (.ifeq (.a 0) (.l 127) (.l 7) (.ifeq (.a 0) (.l 128) (.l 8) (.ifeq (.a 0) (.l 129) (.l 8) (.ifeq (.a 0) (.l 130) (.l 8) (.ifeq (.a 0) (.l 131) (.l 8) (.ifeq (.a 0) (.l 132) (.l 8) (.ifeq (.a 0) (.l 133) (.l 8) (.ifeq (.a 0) (.l 134) (.l 8) (.ifeq (.a 0) (.l 135) (.l 8) (.ifeq (.a 0) (.l 136) (.l 8) (.ifeq (.a 0) (.l 137) (.l 8) (.ifeq (.a 0) (.l 138) (.l 8) (.ifeq (.a 0) (.l 139) (.l 8) (.ifeq (.a 0) (.l 140) (.l 8) (.ifeq (.a 0) (.l 141) (.l 8) (.ifeq (.a 0) (.l 142) (.l 8) (.ifeq (.a 0) (.l 143) (.l 8) (.ifeq (.a 0) (.l 144) (.l 8) (.ifeq (.a 0) (.l 145) (.l 8) (.ifeq (.a 0) (.l 146) (.l 8) (.ifeq (.a 0) (.l 147) (.l 8) (.ifeq (.a 0) (.l 148) (.l 8) (.ifeq (.a 0) (.l 149) (.l 8) (.ifeq (.a 0) (.l 150) (.l 8) (.ifeq (.a 0) (.l 151) (.l 8) (.ifeq (.a 0) (.l 152) (.l 8) (.ifeq (.a 0) (.l 153) (.l 8) (.ifeq (.a 0) (.l 154) (.l 8) (.ifeq (.a 0) (.l 155) (.l 8) (.ifeq (.a 0) (.l 156) (.l 8) (.ifeq (.a 0) (.l 157) (.l 8) (.ifeq (.a 0) (.l 158) (.l 8) (.ifeq (.a 0) (.l 159) (.l 8) (.ifeq (.a 0) (.l 160) (.l 8) (.ifeq (.a 0) (.l 161) (.l 8) (.ifeq (.a 0) (.l 162) (.l 8) (.ifeq (.a 0) (.l 163) (.l 8) (.ifeq (.a 0) (.l 164) (.l 8) (.ifeq (.a 0) (.l 165) (.l 8) (.ifeq (.a 0) (.l 166) (.l 8) (.ifeq (.a 0) (.l 167) (.l 8) (.ifeq (.a 0) (.l 168) (.l 8) (.ifeq (.a 0) (.l 169) (.l 8) (.ifeq (.a 0) (.l 170) (.l 8) (.ifeq (.a 0) (.l 171) (.l 8) (.ifeq (.a 0) (.l 172) (.l 8) (.ifeq (.a 0) (.l 173) (.l 8) (.ifeq (.a 0) (.l 174) (.l 8) (.ifeq (.a 0) (.l 175) (.l 8) (.ifeq (.a 0) (.l 176) (.l 8) (.ifeq (.a 0) (.l 177) (.l 8) (.ifeq (.a 0) (.l 178) (.l 8) (.ifeq (.a 0) (.l 179) (.l 8) (.ifeq (.a 0) (.l 180) (.l 8) (.ifeq (.a 0) (.l 181) (.l 8) (.ifeq (.a 0) (.l 182) (.l 8) (.ifeq (.a 0) (.l 183) (.l 8) (.ifeq (.a 0) (.l 184) (.l 8) (.ifeq (.a 0) (.l 185) (.l 8) (.ifeq (.a 0) (.l 186) (.l 8) (.ifeq (.a 0) (.l 187) (.l 8) (.ifeq (.a 0) (.l 188) (.l 8) (.ifeq (.a 0) (.l 189) (.l 8) (.ifeq (.a 0) (.l 190) (.l 8) (.ifeq (.a 0) (.l 191) (.l 8) (.ifeq (.a 0) (.l 192) (.l 8) (.ifeq (.a 0) (.l 193) (.l 8) (.ifeq (.a 0) (.l 194) (.l 8) (.ifeq (.a 0) (.l 195) (.l 8) (.ifeq (.a 0) (.l 196) (.l 8) (.ifeq (.a 0) (.l 197) (.l 8) (.ifeq (.a 0) (.l 198) (.l 8) (.ifeq (.a 0) (.l 199) (.l 8) (.ifeq (.a 0) (.l 200) (.l 8) (.ifeq (.a 0) (.l 201) (.l 8) (.ifeq (.a 0) (.l 202) (.l 8) (.ifeq (.a 0) (.l 203) (.l 8) (.ifeq (.a 0) (.l 204) (.l 8) (.ifeq (.a 0) (.l 205) (.l 8) (.ifeq (.a 0) (.l 206) (.l 8) (.ifeq (.a 0) (.l 207) (.l 8) (.ifeq (.a 0) (.l 208) (.l 8) (.ifeq (.a 0) (.l 209) (.l 8) (.ifeq (.a 0) (.l 210) (.l 8) (.ifeq (.a 0) (.l 211) (.l 8) (.ifeq (.a 0) (.l 212) (.l 8) (.ifeq (.a 0) (.l 213) (.l 8) (.ifeq (.a 0) (.l 214) (.l 8) (.ifeq (.a 0) (.l 215) (.l 8) (.ifeq (.a 0) (.l 216) (.l 8) (.ifeq (.a 0) (.l 217) (.l 8) (.ifeq (.a 0) (.l 218) (.l 8) (.ifeq (.a 0) (.l 219) (.l 8) (.ifeq (.a 0) (.l 220) (.l 8) (.ifeq (.a 0) (.l 221) (.l 8) (.ifeq (.a 0) (.l 222) (.l 8) (.ifeq (.a 0) (.l 223) (.l 8) (.ifeq (.a 0) (.l 224) (.l 8) (.ifeq (.a 0) (.l 225) (.l 8) (.ifeq (.a 0) (.l 226) (.l 8) (.ifeq (.a 0) (.l 227) (.l 8) (.ifeq (.a 0) (.l 228) (.l 8) (.ifeq (.a 0) (.l 229) (.l 8) (.ifeq (.a 0) (.l 230) (.l 8) (.ifeq (.a 0) (.l 231) (.l 8) (.ifeq (.a 0) (.l 232) (.l 8) (.ifeq (.a 0) (.l 233) (.l 8) (.ifeq (.a 0) (.l 234) (.l 8) (.ifeq (.a 0) (.l 235) (.l 8) (.ifeq (.a 0) (.l 236) (.l 8) (.ifeq (.a 0) (.l 237) (.l 8) (.ifeq (.a 0) (.l 238) (.l 8) (.ifeq (.a 0) (.l 239) (.l 8) (.ifeq (.a 0) (.l 240) (.l 8) (.ifeq (.a 0) (.l 241) (.l 8) (.ifeq (.a 0) (.l 242) (.l 8) (.ifeq (.a 0) (.l 243) (.l 8) (.ifeq (.a 0) (.l 244) (.l 8) (.ifeq (.a 0) (.l 245) (.l 8) (.ifeq (.a 0) (.l 246) (.l 8) (.ifeq (.a 0) (.l 247) (.l 8) (.ifeq (.a 0) (.l 248) (.l 8) (.ifeq (.a 0) (.l 249) (.l 8) (.ifeq (.a 0) (.l 250) (.l 8) (.ifeq (.a 0) (.l 251) (.l 8) (.ifeq (.a 0) (.l 252) (.l 8) (.ifeq (.a 0) (.l 253) (.l 8) (.ifeq (.a 0) (.l 254) (.l 8) (.ifeq (.a 0) (.l 255) (.l 8) (.l 0)))))))))))))))))))))))))))))))))))))))))))))))))))))))))))))))))))))))))))))))))))))))))))))))))))))))))))))))))))))))))))))))))))))))))))))))))))))))))))))))))))))))))))))))))))))))))))))))))))))))))))))))))))))))))))))))))))))))))))))))))))))))))))))))))) (.le (.ifeq (.a 0) (.l 0) (.l 0) (.ifeq (.a 0) (.l 1) (.l 1) (.ifeq (.a 0) (.l 2) (.l 2) (.ifeq (.a 0) (.l 3) (.l 2) (.ifeq (.a 0) (.l 4) (.l 3) (.ifeq (.a 0) (.l 5) (.l 3) (.ifeq (.a 0) (.l 6) (.l 3) (.ifeq (.a 0) (.l 7) (.l 3) (.ifeq (.a 0) (.l 8) (.l 4) (.ifeq (.a 0) (.l 9) (.l 4) (.ifeq (.a 0) (.l 10) (.l 4) (.ifeq (.a 0) (.l 11) (.l 4) (.ifeq (.a 0) (.l 12) (.l 4) (.ifeq (.a 0) (.l 13) (.l 4) (.ifeq (.a 0) (.l 14) (.l 4) (.ifeq (.a 0) (.l 15) (.l 4) (.ifeq (.a 0) (.l 16) (.l 5) (.ifeq (.a 0) (.l 17) (.l 5) (.ifeq (.a 0) (.l 18) (.l 5) (.ifeq (.a 0) (.l 19) (.l 5) (.ifeq (.a 0) (.l 20) (.l 5) (.ifeq (.a 0) (.l 21) (.l 5) (.ifeq (.a 0) (.l 22) (.l 5) (.ifeq (.a 0) (.l 23) (.l 5) (.ifeq (.a 0) (.l 24) (.l 5) (.ifeq (.a 0) (.l 25) (.l 5) (.ifeq (.a 0) (.l 26) (.l 5) (.ifeq (.a 0) (.l 27) (.l 5) (.ifeq (.a 0) (.l 28) (.l 5) (.ifeq (.a 0) (.l 29) (.l 5) (.ifeq (.a 0) (.l 30) (.l 5) (.ifeq (.a 0) (.l 31) (.l 5) (.ifeq (.a 0) (.l 32) (.l 6) (.ifeq (.a 0) (.l 33) (.l 6) (.ifeq (.a 0) (.l 34) (.l 6) (.ifeq (.a 0) (.l 35) (.l 6) (.ifeq (.a 0) (.l 36) (.l 6) (.ifeq (.a 0) (.l 37) (.l 6) (.ifeq (.a 0) (.l 38) (.l 6) (.ifeq (.a 0) (.l 39) (.l 6) (.ifeq (.a 0) (.l 40) (.l 6) (.ifeq (.a 0) (.l 41) (.l 6) (.ifeq (.a 0) (.l 42) (.l 6) (.ifeq (.a 0) (.l 43) (.l 6) (.ifeq (.a 0) (.l 44) (.l 6) (.ifeq (.a 0) (.l 45) (.l 6) (.ifeq (.a 0) (.l 46) (.l 6) (.ifeq (.a 0) (.l 47) (.l 6) (.ifeq (.a 0) (.l 48) (.l 6) (.ifeq (.a 0) (.l 49) (.l 6) (.ifeq (.a 0) (.l 50) (.l 6) (.ifeq (.a 0) (.l 51) (.l 6) (.ifeq (.a 0) (.l 52) (.l 6) (.ifeq (.a 0) (.l 53) (.l 6) (.ifeq (.a 0) (.l 54) (.l 6) (.ifeq (.a 0) (.l 55) (.l 6) (.ifeq (.a 0) (.l 56) (.l 6) (.ifeq (.a 0) (.l 57) (.l 6) (.ifeq (.a 0) (.l 58) (.l 6) (.ifeq (.a 0) (.l 59) (.l 6) (.ifeq (.a 0) (.l 60) (.l 6) (.ifeq (.a 0) (.l 61) (.l 6) (.ifeq (.a 0) (.l 62) (.l 6) (.ifeq (.a 0) (.l 63) (.l 6) (.ifeq (.a 0) (.l 64) (.l 7) (.ifeq (.a 0) (.l 65) (.l 7) (.ifeq (.a 0) (.l 66) (.l 7) (.ifeq (.a 0) (.l 67) (.l 7) (.ifeq (.a 0) (.l 68) (.l 7) (.ifeq (.a 0) (.l 69) (.l 7) (.ifeq (.a 0) (.l 70) (.l 7) (.ifeq (.a 0) (.l 71) (.l 7) (.ifeq (.a 0) (.l 72) (.l 7) (.ifeq (.a 0) (.l 73) (.l 7) (.ifeq (.a 0) (.l 74) (.l 7) (.ifeq (.a 0) (.l 75) (.l 7) (.ifeq (.a 0) (.l 76) (.l 7) (.ifeq (.a 0) (.l 77) (.l 7) (.ifeq (.a 0) (.l 78) (.l 7) (.ifeq (.a 0) (.l 79) (.l 7) (.ifeq (.a 0) (.l 80) (.l 7) (.ifeq (.a 0) (.l 81) (.l 7) (.ifeq (.a 0) (.l 82) (.l 7) (.ifeq (.a 0) (.l 83) (.l 7) (.ifeq (.a 0) (.l 84) (.l 7) (.ifeq (.a 0) (.l 85) (.l 7) (.ifeq (.a 0) (.l 86) (.l 7) (.ifeq (.a 0) (.l 87) (.l 7) (.ifeq (.a 0) (.l 88) (.l 7) (.ifeq (.a 0) (.l 89) (.l 7) (.ifeq (.a 0) (.l 90) (.l 7) (.ifeq (.a 0) (.l 91) (.l 7) (.ifeq (.a 0) (.l 92) (.l 7) (.ifeq (.a 0) (.l 93) (.l 7) (.ifeq (.a 0) (.l 94) (.l 7) (.ifeq (.a 0) (.l 95) (.l 7) (.ifeq (.a 0) (.l 96) (.l 7) (.ifeq (.a 0) (.l 97) (.l 7) (.ifeq (.a 0) (.l 98) (.l 7) (.ifeq (.a 0) (.l 99) (.l 7) (.ifeq (.a 0) (.l 100) (.l 7) (.ifeq (.a 0) (.l 101) (.l 7) (.ifeq (.a 0) (.l 102) (.l 7) (.ifeq (.a 0) (.l 103) (.l 7) (.ifeq (.a 0) (.l 104) (.l 7) (.ifeq (.a 0) (.l 105) (.l 7) (.ifeq (.a 0) (.l 106) (.l 7) (.ifeq (.a 0) (.l 107) (.l 7) (.ifeq (.a 0) (.l 108) (.l 7) (.ifeq (.a 0) (.l 109) (.l 7) (.ifeq (.a 0) (.l 110) (.l 7) (.ifeq (.a 0) (.l 111) (.l 7) (.ifeq (.a 0) (.l 112) (.l 7) (.ifeq (.a 0) (.l 113) (.l 7) (.ifeq (.a 0) (.l 114) (.l 7) (.ifeq (.a 0) (.l 115) (.l 7) (.ifeq (.a 0) (.l 116) (.l 7) (.ifeq (.a 0) (.l 117) (.l 7) (.ifeq (.a 0) (.l 118) (.l 7) (.ifeq (.a 0) (.l 119) (.l 7) (.ifeq (.a 0) (.l 120) (.l 7) (.ifeq (.a 0) (.l 121) (.l 7) (.ifeq (.a 0) (.l 122) (.l 7) (.ifeq (.a 0) (.l 123) (.l 7) (.ifeq (.a 0) (.l 124) (.l 7) (.ifeq (.a 0) (.l 125) (.l 7) (.ifeq (.a 0) (.l 126) (.l 7) (.ifeq (.a 0) (.l 127) (.l 7) (.ifeq (.a 0) (.l 128) (.l 8) (.ifeq (.a 0) (.l 129) (.l 8) (.ifeq (.a 0) (.l 130) (.l 8) (.ifeq (.a 0) (.l 131) (.l 8) (.ifeq (.a 0) (.l 132) (.l 8) (.ifeq (.a 0) (.l 133) (.l 8) (.ifeq (.a 0) (.l 134) (.l 8) (.ifeq (.a 0) (.l 135) (.l 8) (.ifeq (.a 0) (.l 136) (.l 8) (.ifeq (.a 0) (.l 137) (.l 8) (.ifeq (.a 0) (.l 138) (.l 8) (.ifeq (.a 0) (.l 139) (.l 8) (.ifeq (.a 0) (.l 140) (.l 8) (.ifeq (.a 0) (.l 141) (.l 8) (.ifeq (.a 0) (.l 142) (.l 8) (.ifeq (.a 0) (.l 143) (.l 8) (.ifeq (.a 0) (.l 144) (.l 8) (.ifeq (.a 0) (.l 145) (.l 8) (.ifeq (.a 0) (.l 146) (.l 8) (.ifeq (.a 0) (.l 147) (.l 8) (.ifeq (.a 0) (.l 148) (.l 8) (.ifeq (.a 0) (.l 149) (.l 8) (.ifeq (.a 0) (.l 150) (.l 8) (.ifeq (.a 0) (.l 151) (.l 8) (.ifeq (.a 0) (.l 152) (.l 8) (.ifeq (.a 0) (.l 153) (.l 8) (.ifeq (.a 0) (.l 154) (.l 8) (.ifeq (.a 0) (.l 155) (.l 8) (.ifeq (.a 0) (.l 156) (.l 8) (.ifeq (.a 0) (.l 157) (.l 8) (.ifeq (.a 0) (.l 158) (.l 8) (.ifeq (.a 0) (.l 159) (.l 8) (.ifeq (.a 0) (.l 160) (.l 8) (.ifeq (.a 0) (.l 161) (.l 8) (.ifeq (.a 0) (.l 162) (.l 8) (.ifeq (.a 0) (.l 163) (.l 8) (.ifeq (.a 0) (.l 164) (.l 8) (.ifeq (.a 0) (.l 165) (.l 8) (.ifeq (.a 0) (.l 166) (.l 8) (.ifeq (.a 0) (.l 167) (.l 8) (.ifeq (.a 0) (.l 168) (.l 8) (.ifeq (.a 0) (.l 169) (.l 8) (.ifeq (.a 0) (.l 170) (.l 8) (.ifeq (.a 0) (.l 171) (.l 8) (.ifeq (.a 0) (.l 172) (.l 8) (.ifeq (.a 0) (.l 173) (.l 8) (.ifeq (.a 0) (.l 174) (.l 8) (.ifeq (.a 0) (.l 175) (.l 8) (.ifeq (.a 0) (.l 176) (.l 8) (.ifeq (.a 0) (.l 177) (.l 8) (.ifeq (.a 0) (.l 178) (.l 8) (.ifeq (.a 0) (.l 179) (.l 8) (.ifeq (.a 0) (.l 180) (.l 8) (.ifeq (.a 0) (.l 181) (.l 8) (.ifeq (.a 0) (.l 182) (.l 8) (.ifeq (.a 0) (.l 183) (.l 8) (.ifeq (.a 0) (.l 184) (.l 8) (.ifeq (.a 0) (.l 185) (.l 8) (.ifeq (.a 0) (.l 186) (.l 8) (.ifeq (.a 0) (.l 187) (.l 8) (.ifeq (.a 0) (.l 188) (.l 8) (.ifeq (.a 0) (.l 189) (.l 8) (.ifeq (.a 0) (.l 190) (.l 8) (.ifeq (.a 0) (.l 191) (.l 8) (.ifeq (.a 0) (.l 192) (.l 8) (.ifeq (.a 0) (.l 193) (.l 8) (.ifeq (.a 0) (.l 194) (.l 8) (.ifeq (.a 0) (.l 195) (.l 8) (.ifeq (.a 0) (.l 196) (.l 8) (.ifeq (.a 0) (.l 197) (.l 8) (.ifeq (.a 0) (.l 198) (.l 8) (.ifeq (.a 0) (.l 199) (.l 8) (.ifeq (.a 0) (.l 200) (.l 8) (.ifeq (.a 0) (.l 201) (.l 8) (.ifeq (.a 0) (.l 202) (.l 8) (.ifeq (.a 0) (.l 203) (.l 8) (.ifeq (.a 0) (.l 204) (.l 8) (.ifeq (.a 0) (.l 205) (.l 8) (.ifeq (.a 0) (.l 206) (.l 8) (.ifeq (.a 0) (.l 207) (.l 8) (.ifeq (.a 0) (.l 208) (.l 8) (.ifeq (.a 0) (.l 209) (.l 8) (.ifeq (.a 0) (.l 210) (.l 8) (.ifeq (.a 0) (.l 211) (.l 8) (.ifeq (.a 0) (.l 212) (.l 8) (.ifeq (.a 0) (.l 213) (.l 8) (.ifeq (.a 0) (.l 214) (.l 8) (.ifeq (.a 0) (.l 215) (.l 8) (.ifeq (.a 0) (.l 216) (.l 8) (.ifeq (.a 0) (.l 217) (.l 8) (.ifeq (.a 0) (.l 218) (.l 8) (.ifeq (.a 0) (.l 219) (.l 8) (.ifeq (.a 0) (.l 220) (.l 8) (.ifeq (.a 0) (.l 221) (.l 8) (.ifeq (.a 0) (.l 222) (.l 8) (.ifeq (.a 0) (.l 223) (.l 8) (.ifeq (.a 0) (.l 224) (.l 8) (.ifeq (.a 0) (.l 225) (.l 8) (.ifeq (.a 0) (.l 226) (.l 8) (.ifeq (.a 0) (.l 227) (.l 8) (.ifeq (.a 0) (.l 228) (.l 8) (.ifeq (.a 0) (.l 229) (.l 8) (.ifeq (.a 0) (.l 230) (.l 8) (.ifeq (.a 0) (.l 231) (.l 8) (.ifeq (.a 0) (.l 232) (.l 8) (.ifeq (.a 0) (.l 233) (.l 8) (.ifeq (.a 0) (.l 234) (.l 8) (.ifeq (.a 0) (.l 235) (.l 8) (.ifeq (.a 0) (.l 236) (.l 8) (.ifeq (.a 0) (.l 237) (.l 8) (.ifeq (.a 0) (.l 238) (.l 8) (.ifeq (.a 0) (.l 239) (.l 8) (.ifeq (.a 0) (.l 240) (.l 8) (.ifeq (.a 0) (.l 241) (.l 8) (.ifeq (.a 0) (.l 242) (.l 8) (.ifeq (.a 0) (.l 243) (.l 8) (.ifeq (.a 0) (.l 244) (.l 8) (.ifeq (.a 0) (.l 245) (.l 8) (.ifeq (.a 0) (.l 246) (.l 8) (.ifeq (.a 0) (.l 247) (.l 8) (.ifeq (.a 0) (.l 248) (.l 8) (.ifeq (.a 0) (.l 249) (.l 8) (.ifeq (.a 0) (.l 250) (.l 8) (.ifeq (.a 0) (.l 251) (.l 8) (.ifeq (.a 0) (.l 252) (.l 8) (.ifeq (.a 0) (.l 253) (.l 8) (.ifeq (.a 0) (.l 254) (.l 8) (.ifeq (.a 0) (.l 255) (.l 8) (.l 0))))))))))))))))))))))))))))))))))))))))))))))))))))))))))))))))))))))))))))))))))))))))))))))))))))))))))))))))))))))))))))))))))))))))))))))))))))))))))))))))))))))))))))))))))))))))))))))))))))))))))))))))))))))))))))))))))))))))))))))))))))))))))))))))) (.l 9223372036854775807)))
    (.ret false (.int .i64 (.ifeq (.a 0) (.l 0) (.l 0) (.ifeq (.a 0) (.l 1) (.l 1) (.ifeq (.a 0) (.l 2) (.l 2) (.ifeq (.a 0) (.l 3) (.l 2) (.ifeq (.a 0) (.l 4) (.l 3) (.ifeq (.a 0) (.l 5) (.l 3) (.ifeq (.a 0) (.l 6) (.l 3) (.ifeq (.a 0) (.l 7) (.l 3) (.ifeq (.a 0) (.l 8) (.l 4) (.ifeq (.a 0) (.l 9) (.l 4) (.ifeq (.a 0) (.l 10) (.l 4) (.ifeq (.a 0) (.l 11) (.l 4) (.ifeq (.a 0) (.l 12) (.l 4) (.ifeq (.a 0) (.l 13) (.l 4) (.ifeq (.a 0) (.l 14) (.l 4) (.ifeq (.a 0) (.l 15) (.l 4) (.ifeq (.a 0) (.l 16) (.l 5) (.ifeq (.a 0) (.l 17) (.l 5) (.ifeq (.a 0) (.l 18) (.l 5) (.ifeq (.a 0) (.l 19) (.l 5) (.ifeq (.a 0) (.l 20) (.l 5) (.ifeq (.a 0) (.l 21) (.l 5) (.ifeq (.a 0) (.l 22) (.l 5) (.ifeq (.a 0) (.l 23) (.l 5) (.ifeq (.a 0) (.l 24) (.l 5) (.ifeq (.a 0) (.l 25) (.l 5) (.ifeq (.a 0) (.l 26) (.l 5) (.ifeq (.a 0) (.l 27) (.l 5) (.ifeq (.a 0) (.l 28) (.l 5) (.ifeq (.a 0) (.l 29) (.l 5) (.ifeq (.a 0) (.l 30) (.l 5) (.ifeq (.a 0) (.l 31) (.l 5) (.ifeq (.a 0) (.l 32) (.l 6) (.ifeq (.a 0) (.l 33) (.l 6) (.ifeq (.a 0) (.l 34) (.l 6) (.ifeq (.a 0) (.l 35) (.l 6) (.ifeq (.a 0) (.l 36) (.l 6) (.ifeq (.a 0) (.l 37) (.l 6) (.ifeq (.a 0) (.l 38) (.l 6) (.ifeq (.a 0) (.l 39) (.l 6) (.ifeq (.a 0) (.l 40) (.l 6) (.ifeq (.a 0) (.l 41) (.l 6) (.ifeq (.a 0) (.l 42) (.l 6) (.ifeq (.a 0) (.l 43) (.l 6) (.ifeq (.a 0) (.l 44) (.l 6) (.ifeq (.a 0) (.l 45) (.l 6) (.ifeq (.a 0) (.l 46) (.l 6) (.ifeq (.a 0) (.l 47) (.l 6) (.ifeq (.a 0) (.l 48) (.l 6) (.ifeq (.a 0) (.l 49) (.l 6) (.ifeq (.a 0) (.l 50) (.l 6) (.ifeq (.a 0) (.l 51) (.l 6) (.ifeq (.a 0) (.l 52) (.l 6) (.ifeq (.a 0) (.l 53) (.l 6) (.ifeq (.a 0) (.l 54) (.l 6) (.ifeq (.a 0) (.l 55) (.l 6) (.ifeq (.a 0) (.l 56) (.l 6) (.ifeq (.a 0) (.l 57) (.l 6) (.ifeq (.a 0) (.l 58) (.l 6) (.ifeq (.a 0) (.l 59) (.l 6) (.ifeq (.a 0) (.l 60) (.l 6) (.ifeq (.a 0) (.l 61) (.l 6) (.ifeq (.a 0) (.l 62) (.l 6) (.ifeq (.a 0) (.l 63) (.l 6) (.ifeq (.a 0) (.l 64) (.l 7) (.ifeq (.a 0) (.l 65) (.l 7) (.ifeq (.a 0) (.l 66) (.l 7) (.ifeq (.a 0) (.l 67) (.l 7) (.ifeq (.a 0) (.l 68) (.l 7) (.ifeq (.a 0) (.l 69) (.l 7) (.ifeq (.a 0) (.l 70) (.l 7) (.ifeq (.a 0) (.l 71) (.l 7) (.ifeq (.a 0) (.l 72) (.l 7) (.ifeq (.a 0) (.l 73) (.l 7) (.ifeq (.a 0) (.l 74) (.l 7) (.ifeq (.a 0) (.l 75) (.l 7) (.ifeq (.a 0) (.l 76) (.l 7) (.ifeq (.a 0) (.l 77) (.l 7) (.ifeq (.a 0) (.l 78) (.l 7) (.ifeq (.a 0) (.l 79) (.l 7) (.ifeq (.a 0) (.l 80) (.l 7) (.ifeq (.a 0) (.l 81) (.l 7) (.ifeq (.a 0) (.l 82) (.l 7) (.ifeq (.a 0) (.l 83) (.l 7) (.ifeq (.a 0) (.l 84) (.l 7) (.ifeq (.a 0) (.l 85) (.l 7) (.ifeq (.a 0) (.l 86) (.l 7) (.ifeq (.a 0) (.l 87) (.l 7) (.ifeq (.a 0) (.l 88) (.l 7) (.ifeq (.a 0) (.l 89) (.l 7) (.ifeq (.a 0) (.l 90) (.l 7) (.ifeq (.a 0) (.l 91) (.l 7) (.ifeq (.a 0) (.l 92) (.l 7) (.ifeq (.a 0) (.l 93) (.l 7) (.ifeq (.a 0) (.l 94) (.l 7) (.ifeq (.a 0) (.l 95) (.l 7) (.ifeq (.a 0) (.l 96) (.l 7) (.ifeq (.a 0) (.l 97) (.l 7) (.ifeq (.a 0) (.l 98) (.l 7) (.ifeq (.a 0) (.l 99) (.l 7) (.ifeq (.a 0) (.l 100) (.l 7) (.ifeq (.a 0) (.l 101) (.l 7) (.ifeq (.a 0) (.l 102) (.l 7) (.ifeq (.a 0) (.l 103) (.l 7) (.ifeq (.a 0) (.l 104) (.l 7) (.ifeq (.a 0) (.l 105) (.l 7) (.ifeq (.a 0) (.l 106) (.l 7) (.ifeq (.a 0) (.l 107) (.l 7) (.ifeq (.a 0) (.l 108) (.l 7) (.ifeq (.a 0) (.l 109) (.l 7) (.ifeq (.a 0) (.l 110) (.l 7) (.ifeq (.a 0) (.l 111) (.l 7) (.ifeq (.a 0) (.l 112) (.l 7) (.ifeq (.a 0) (.l 113) (.l 7) (.ifeq (.a 0) (.l 114) (.l 7) (.ifeq (.a 0) (.l 115) (.l 7) (.ifeq (.a 0) (.l 116) (.l 7) (.ifeq (.a 0) (.l 117) (.l 7) (.ifeq (.a 0) (.l 118) (.l 7) (.ifeq (.a 0) (.l 119) (.l 7) (.ifeq (.a 0) (.l 120) (.l 7) (.ifeq (.a 0) (.l 121) (.l 7) (.ifeq (.a 0) (.l 122) (.l 7) (.ifeq (.a 0) (.l 123) (.l 7) (.ifeq (.a 0) (.l 124) (.l 7) (.ifeq (.a 0) (.l 125) (.l 7) (.ifeq (.a 0) (.l 126) (.l 7) (.ifeq (.a 0) (.l 127) (.l 7) (.ifeq (.a 0) (.l 128) (.l 8) (.ifeq (.a 0) (.l 129) (.l 8) (.ifeq (.a 0) (.l 130) (.l 8) (.ifeq (.a 0) (.l 131) (.l 8) (.ifeq (.a 0) (.l 132) (.l 8) (.ifeq (.a 0) (.l 133) (.l 8) (.ifeq (.a 0) (.l 134) (.l 8) (.ifeq (.a 0) (.l 135) (.l 8) (.ifeq (.a 0) (.l 136) (.l 8) (.ifeq (.a 0) (.l 137) (.l 8) (.ifeq (.a 0) (.l 138) (.l 8) (.ifeq (.a 0) (.l 139) (.l 8) (.ifeq (.a 0) (.l 140) (.l 8) (.ifeq (.a 0) (.l 141) (.l 8) (.ifeq (.a 0) (.l 142) (.l 8) (.ifeq (.a 0) (.l 143) (.l 8) (.ifeq (.a 0) (.l 144) (.l 8) (.ifeq (.a 0) (.l 145) (.l 8) (.ifeq (.a 0) (.l 146) (.l 8) (.ifeq (.a 0) (.l 147) (.l 8) (.ifeq (.a 0) (.l 148) (.l 8) (.ifeq (.a 0) (.l 149) (.l 8) (.ifeq (.a 0) (.l 150) (.l 8) (.ifeq (.a 0) (.l 151) (.l 8) (.ifeq (.a 0) (.l 152) (.l 8) (.ifeq (.a 0) (.l 153) (.l 8) (.ifeq (.a 0) (.l 154) (.l 8) (.ifeq (.a 0) (.l 155) (.l 8) (.ifeq (.a 0) (.l 156) (.l 8) (.ifeq (.a 0) (.l 157) (.l 8) (.ifeq (.a 0) (.l 158) (.l 8) (.ifeq (.a 0) (.l 159) (.l 8) (.ifeq (.a 0) (.l 160) (.l 8) (.ifeq (.a 0) (.l 161) (.l 8) (.ifeq (.a 0) (.l 162) (.l 8) (.ifeq (.a 0) (.l 163) (.l 8) (.ifeq (.a 0) (.l 164) (.l 8) (.ifeq (.a 0) (.l 165) (.l 8) (.ifeq (.a 0) (.l 166) (.l 8) (.ifeq (.a 0) (.l 167) (.l 8) (.ifeq (.a 0) (.l 168) (.l 8) (.ifeq (.a 0) (.l 169) (.l 8) (.ifeq (.a 0) (.l 170) (.l 8) (.ifeq (.a 0) (.l 171) (.l 8) (.ifeq (.a 0) (.l 172) (.l 8) (.ifeq (.a 0) (.l 173) (.l 8) (.ifeq (.a 0) (.l 174) (.l 8) (.ifeq (.a 0) (.l 175) (.l 8) (.ifeq (.a 0) (.l 176) (.l 8) (.ifeq (.a 0) (.l 177) (.l 8) (.ifeq (.a 0) (.l 178) (.l 8) (.ifeq (.a 0) (.l 179) (.l 8) (.ifeq (.a 0) (.l 180) (.l 8) (.ifeq (.a 0) (.l 181) (.l 8) (.ifeq (.a 0) (.l 182) (.l 8) (.ifeq (.a 0) (.l 183) (.l 8) (.ifeq (.a 0) (.l 184) (.l 8) (.ifeq (.a 0) (.l 185) (.l 8) (.ifeq (.a 0) (.l 186) (.l 8) (.ifeq (.a 0) (.l 187) (.l 8) (.ifeq (.a 0) (.l 188) (.l 8) (.ifeq (.a 0) (.l 189) (.l 8) (.ifeq (.a 0) (.l 190) (.l 8) (.ifeq (.a 0) (.l 191) (.l 8) (.ifeq (.a 0) (.l 192) (.l 8) (.ifeq (.a 0) (.l 193) (.l 8) (.ifeq (.a 0) (.l 194) (.l 8) (.ifeq (.a 0) (.l 195) (.l 8) (.ifeq (.a 0) (.l 196) (.l 8) (.ifeq (.a 0) (.l 197) (.l 8) (.ifeq (.a 0) (.l 198) (.l 8) (.ifeq (.a 0) (.l 199) (.l 8) (.ifeq (.a 0) (.l 200) (.l 8) (.ifeq (.a 0) (.l 201) (.l 8) (.ifeq (.a 0) (.l 202) (.l 8) (.ifeq (.a 0) (.l 203) (.l 8) (.ifeq (.a 0) (.l 204) (.l 8) (.ifeq (.a 0) (.l 205) (.l 8) (.ifeq (.a 0) (.l 206) (.l 8) (.ifeq (.a 0) (.l 207) (.l 8) (.ifeq (.a 0) (.l 208) (.l 8) (.ifeq (.a 0) (.l 209) (.l 8) (.ifeq (.a 0) (.l 210) (.l 8) (.ifeq (.a 0) (.l 211) (.l 8) (.ifeq (.a 0) (.l 212) (.l 8) (.ifeq (.a 0) (.l 213) (.l 8) (.ifeq (.a 0) (.l 214) (.l 8) (.ifeq (.a 0) (.l 215) (.l 8) (.ifeq (.a 0) (.l 216) (.l 8) (.ifeq (.a 0) (.l 217) (.l 8) (.ifeq (.a 0) (.l 218) (.l 8) (.ifeq (.a 0) (.l 219) (.l 8) (.ifeq (.a 0) (.l 220) (.l 8) (.ifeq (.a 0) (.l 221) (.l 8) (.ifeq (.a 0) (.l 222) (.l 8) (.ifeq (.a 0) (.l 223) (.l 8) (.ifeq (.a 0) (.l 224) (.l 8) (.ifeq (.a 0) (.l 225) (.l 8) (.ifeq (.a 0) (.l 226) (.l 8) (.ifeq (.a 0) (.l 227) (.l 8) (.ifeq (.a 0) (.l 228) (.l 8) (.ifeq (.a 0) (.l 229) (.l 8) (.ifeq (.a 0) (.l 230) (.l 8) (.ifeq (.a 0) (.l 231) (.l 8) (.ifeq (.a 0) (.l 232) (.l 8) (.ifeq (.a 0) (.l 233) (.l 8) (.ifeq (.a 0) (.l 234) (.l 8) (.ifeq (.a 0) (.l 235) (.l 8) (.ifeq (.a 0) (.l 236) (.l 8) (.ifeq (.a 0) (.l 237) (.l 8) (.ifeq (.a 0) (.l 238) (.l 8) (.ifeq (.a 0) (.l 239) (.l 8) (.ifeq (.a 0) (.l 240) (.l 8) (.ifeq (.a 0) (.l 241) (.l 8) (.ifeq (.a 0) (.l 242) (.l 8) (.ifeq (.a 0) (.l 243) (.l 8) (.ifeq (.a 0) (.l 244) (.l 8) (.ifeq (.a 0) (.l 245) (.l 8) (.ifeq (.a 0) (.l 246) (.l 8) (.ifeq (.a 0) (.l 247) (.l 8) (.ifeq (.a 0) (.l 248) (.l 8) (.ifeq (.a 0) (.l 249) (.l 8) (.ifeq (.a 0) (.l 250) (.l 8) (.ifeq (.a 0) (.l 251) (.l 8) (.ifeq (.a 0) (.l 252) (.l 8) (.ifeq (.a 0) (.l 253) (.l 8) (.ifeq (.a 0) (.l 254) (.l 8) (.ifeq (.a 0) (.l 255) (.l 8) (.l 0)))))))))))))))))))))))))))))))))))))))))))))))))))))))))))))))))))))))))))))))))))))))))))))))))))))))))))))))))))))))))))))))))))))))))))))))))))))))))))))))))))))))))))))))))))))))))))))))))))))))))))))))))))))))))))))))))))))))))))))))))))))))))))))))))) []))))))))
def math_bits_Len64_S : Sx.Sys := ⟨[(.sh (.one (.int .u64)))], math_bits_Len64_s, [], none⟩
def math_bits_Len64_pats : List Cfg := []
theorem math_bits_Len64_ok : SysOk Try.prog 63 math_bits_Len64_S := sys_ok (c := (cg [] [] [] false false false true)) (progOkG _ _ _ _ _ _ _) Try.func63 Try.call63 (by kernel_rfl) math_bits_Len64_pats math_bits_Len64_S 5000 rfl (by kernel_rfl) (by kernel_rfl) rfl
end Go.Proofs.Ytggjcdnailppoaa
set_option maxRecDepth 100000
namespace Go.Proofs.Ytggjcdnailppoaa
open Go.Sx
def saleroomlaw40_same_s : PT :=
 (.need (.is 0 0)
 (.need (.is 0 1)
 (.ite (.not (.eq (.slen 0) (.slen 1)))
  (.ret false (.bool (.t false)) [])
  (.jump 0 [(.l 0)] [] [(.va 0), (.va 1)]))))
def saleroomlaw40_same_t0 : PT :=
 (.need (.is 0 0)
 (.ite (.lt (.a 0) (.slen 0))
  (.need (.and (.le (.l 0) (.a 0)) (.lt (.a 0) (.slen 0)))
  (.need (.and (.le (.l 0) (.a 0)) (.lt (.a 0) (.slen 1)))
  (.load true (.ea 0 (.a 0) 8 0) [(.int .i64), (.int .i64), (.int .i64), (.int .i64), (.int .i64), (.int .i64), (.int .i64), (.int .i64)]
  (.load true (.ea 1 (.a 0) 8 0) [(.int .i64), (.int .i64), (.int .i64), (.int .i64), (.int .i64), (.int .i64), (.int .i64), (.int .i64)]
  (.ite (.not (.and (.eq (.a 1) (.a 9)) (.and (.eq (.a 2) (.a 10)) (.and (.eq (.a 3) (.a 11)) (.and (.eq (.a 4) (.a 12)) (.and (.eq (.a 5) (.a 13)) (.and (.eq (.a 6) (.a 14)) (.and (.eq (.a 7) (.a 15)) (.eq (.a 8) (.a 16))))))))))
   (.ret false (.bool (.t false)) [])
   (.need (.and (.le (.l (-9223372036854775808)) (.add (.a 0) (.l 1))) (.le (.add (.a 0) (.l 1)) (.l 9223372036854775807)))
   (.jump 0 [(.add (.a 0) (.l 1))] [] [(.va 0), (.va 1)])))))))
  (.ret false (.bool (.t true)) [])))
def saleroomlaw40_same_S : Sx.Sys := ⟨[(.sh (.one .val)), (.sh (.one .val))], saleroomlaw40_same_s, [saleroomlaw40_same_t0], none⟩
def saleroomlaw40_same_pats : List Cfg := [{ todo := [(.code [false, false, true, false, true, true]), (.inLoop [false, false, true, false, true, true]), (.inBlock 0), (.code [true, true, true])], sl := [(.va 0), (.va 1), .undef, .undef, (.junk 0), (.int .i64 (.a 0)), (.junk 1), (.junk 2), (.junk 3), (.junk 4), (.junk 5), (.junk 6), (.junk 7), (.junk 8), (.junk 9), (.junk 10), (.junk 11), (.junk 12), (.junk 13), (.junk 14), (.junk 15), (.junk 16), (.junk 17), (.junk 18), (.junk 19), (.junk 20)], H := [], ni := 1, nb := 0, nv := 2, nj := 21 }]
theorem saleroomlaw40_same_ok : SysOk Try.prog 10 saleroomlaw40_same_S := sys_ok (c := (cg [[false, false, true, false, true, true]] [] [] false false false true)) (progOkG _ _ _ _ _ _ _) Try.func10 Try.call10 (by kernel_rfl) saleroomlaw40_same_pats saleroomlaw40_same_S 5000 rfl (by kernel_rfl) (by kernel_rfl) rfl
def saleroomref40_Check_s : PT :=
 (.call 21 [(.va 0)] [] [(.one .bool)]
 (.ite (.not (.a 0))
  (.ret false (.tup [(.int .i64 (.l 0)), (.int .i64 (.l 4))]) [])
  (.jump 0 [(.l 0)] [] [(.va 0), (.va 1)])))
def saleroomref40_Check_t0 : PT :=
 (.need (.is 0 1)
 (.ite (.lt (.a 0) (.slen 1))
  (.need (.and (.le (.l 0) (.a 0)) (.lt (.a 0) (.slen 1)))
  (.load false (.ea 1 (.a 0) 8 0) [(.int .i64), (.int .i64), (.int .i64), (.int .i64), (.int .i64), (.int .i64), (.int .i64), (.int .i64)]
  (.call 16 [(.agg [(.int .i64 (.a 1)), (.int .i64 (.a 2)), (.int .i64 (.a 3)), (.int .i64 (.a 4)), (.int .i64 (.a 5)), (.int .i64 (.a 6)), (.int .i64 (.a 7)), (.int .i64 (.a 8))])] [] [(.one .bool)]
  (.ite (.not (.a 0))
   (.ret false (.tup [(.int .i64 (.a 0)), (.int .i64 (.l 4))]) [])
   (.need (.and (.le (.l (-9223372036854775808)) (.add (.a 0) (.l 1))) (.le (.add (.a 0) (.l 1)) (.l 9223372036854775807)))
   (.jump 0 [(.add (.a 0) (.l 1))] [] [(.va 0), (.va 1)]))))))
  (.jump 1 [(.l 0)] [] [(.va 0), (.va 1)])))
def saleroomref40_Check_t1 : PT :=
 (.need (.is 0 1)
 (.ite (.lt (.a 0) (.slen 1))
  (.need (.and (.le (.l 0) (.a 0)) (.lt (.a 0) (.slen 1)))
  (.need (.and (.le (.l 0) (.a 0)) (.lt (.a 0) (.slen 1)))
  (.load true (.ea 1 (.a 0) 8 7) [(.int .i64)]
  (.load true (.ea 1 (.a 0) 8 1) [(.int .i64), (.int .i64), (.int .i64), (.int .i64), (.int .i64), (.int .i64)]
  (.call 14 [(.va 0), (.va 1), (.agg [(.int .i64 (.a 2)), (.int .i64 (.a 3)), (.int .i64 (.a 4)), (.int .i64 (.a 5)), (.int .i64 (.a 6)), (.int .i64 (.a 7))])] [] [(.one (.int .i64))]
  (.ite (.lt (.a 8) (.a 1))
   (.ret false (.tup [(.int .i64 (.a 0)), (.int .i64 (.l 16))]) [])
   (.need (.and (.le (.l (-9223372036854775808)) (.add (.a 0) (.l 1))) (.le (.add (.a 0) (.l 1)) (.l 9223372036854775807)))
   (.jump 1 [(.add (.a 0) (.l 1))] [] [(.va 0), (.va 1)]))))))))
  (.ret false (.tup [(.int .i64 (.l 0)), (.int .i64 (.l 0))]) [])))
def saleroomref40_Check_S : Sx.Sys := ⟨[(.sh (.one .val)), (.sh (.one .val))], saleroomref40_Check_s, [saleroomref40_Check_t0, saleroomref40_Check_t1], none⟩
def saleroomref40_Check_pats : List Cfg := [{ todo := [(.code [false, false, true, false, true, true]), (.inLoop [false, false, true, false, true, true]), (.inBlock 0), (.code [true, true, true])], sl := [(.va 0), (.va 1), .undef, .undef, (.junk 0), (.junk 1), (.int .i64 (.a 0)), .undef, (.junk 2), (.junk 3), (.junk 4), (.junk 5), (.junk 6), (.junk 7), (.junk 8), (.junk 9), (.junk 10), (.junk 11), (.junk 12), (.junk 13), (.junk 14), (.junk 15), (.junk 16), .undef, .undef, .undef, .undef, .undef, .undef, .undef, .undef, .undef, .undef, .undef, .undef, .undef, .undef, .undef, .undef, .undef, .undef, .undef, .undef, .undef, .undef], H := [], ni := 1, nb := 0, nv := 2, nj := 17 },
 { todo := [(.code [false, false, true, false, true, true, true]), (.inLoop [false, false, true, false, true, true, true]), (.inBlock 2), (.code [true, true, true, true])], sl := [(.va 0), (.va 1), .undef, .undef, (.junk 0), (.junk 1), (.junk 2), (.int .i64 (.a 0)), (.junk 3), (.junk 4), (.junk 5), (.junk 6), (.junk 7), (.junk 8), (.junk 9), (.junk 10), (.junk 11), (.junk 12), (.junk 13), (.junk 14), (.junk 15), (.junk 16), (.junk 17), .undef, (.junk 18), (.junk 19), (.junk 20), (.junk 21), (.junk 22), (.junk 23), (.junk 24), (.junk 25), (.junk 26), (.junk 27), (.junk 28), (.junk 29), (.junk 30), (.junk 31), (.junk 32), (.junk 33), (.junk 34), (.junk 35), (.junk 36), (.junk 37), .undef], H := [], ni := 1, nb := 0, nv := 2, nj := 38 }]
theorem saleroomref40_Check_ok : SysOk Try.prog 18 saleroomref40_Check_S := sys_ok (c := (cg [[false, false, true, false, true, true], [false, false, true, false, true, true, true]] [] [] false false false true)) (progOkG _ _ _ _ _ _ _) Try.func18 Try.call18 (by kernel_rfl) saleroomref40_Check_pats saleroomref40_Check_S 5000 rfl (by kernel_rfl) (by kernel_rfl) rfl
def bundle_Cost_s : PT :=
 (.need (.and (.le (.l (-9223372036854775808)) (.mul (.a 0) (.a 6))) (.le (.mul (.a 0) (.a 6)) (.l 9223372036854775807)))
 (.need (.and (.le (.l (-9223372036854775808)) (.mul (.a 0) (.a 6))) (.le (.mul (.a 0) (.a 6)) (.l 9223372036854775807)))
 (.need (.and (.le (.l (-9223372036854775808)) (.mul (.a 1) (.a 7))) (.le (.mul (.a 1) (.a 7)) (.l 9223372036854775807)))
 (.need (.and (.le (.l (-9223372036854775808)) (.add (.mul (.a 0) (.a 6)) (.mul (.a 1) (.a 7)))) (.le (.add (.mul (.a 0) (.a 6)) (.mul (.a 1) (.a 7))) (.l 9223372036854775807)))
 (.need (.and (.le (.l (-9223372036854775808)) (.mul (.a 2) (.a 8))) (.le (.mul (.a 2) (.a 8)) (.l 9223372036854775807)))
 (.need (.and (.le (.l (-9223372036854775808)) (.add (.add (.mul (.a 0) (.a 6)) (.mul (.a 1) (.a 7))) (.mul (.a 2) (.a 8)))) (.le (.add (.add (.mul (.a 0) (.a 6)) (.mul (.a 1) (.a 7))) (.mul (.a 2) (.a 8))) (.l 9223372036854775807)))
 (.need (.and (.le (.l (-9223372036854775808)) (.mul (.a 3) (.a 9))) (.le (.mul (.a 3) (.a 9)) (.l 9223372036854775807)))
 (.need (.and (.le (.l (-9223372036854775808)) (.add (.add (.add (.mul (.a 0) (.a 6)) (.mul (.a 1) (.a 7))) (.mul (.a 2) (.a 8))) (.mul (.a 3) (.a 9)))) (.le (.add (.add (.add (.mul (.a 0) (.a 6)) (.mul (.a 1) (.a 7))) (.mul (.a 2) (.a 8))) (.mul (.a 3) (.a 9))) (.l 9223372036854775807)))
 (.need (.and (.le (.l (-9223372036854775808)) (.mul (.a 4) (.a 10))) (.le (.mul (.a 4) (.a 10)) (.l 9223372036854775807)))
 (.need (.and (.le (.l (-9223372036854775808)) (.add (.add (.add (.add (.mul (.a 0) (.a 6)) (.mul (.a 1) (.a 7))) (.mul (.a 2) (.a 8))) (.mul (.a 3) (.a 9))) (.mul (.a 4) (.a 10)))) (.le (.add (.add (.add (.add (.mul (.a 0) (.a 6)) (.mul (.a 1) (.a 7))) (.mul (.a 2) (.a 8))) (.mul (.a 3) (.a 9))) (.mul (.a 4) (.a 10))) (.l 9223372036854775807)))
 (.need (.and (.le (.l (-9223372036854775808)) (.mul (.a 5) (.a 11))) (.le (.mul (.a 5) (.a 11)) (.l 9223372036854775807)))
 (.need (.and (.le (.l (-9223372036854775808)) (.add (.add (.add (.add (.add (.mul (.a 0) (.a 6)) (.mul (.a 1) (.a 7))) (.mul (.a 2) (.a 8))) (.mul (.a 3) (.a 9))) (.mul (.a 4) (.a 10))) (.mul (.a 5) (.a 11)))) (.le (.add (.add (.add (.add (.add (.mul (.a 0) (.a 6)) (.mul (.a 1) (.a 7))) (.mul (.a 2) (.a 8))) (.mul (.a 3) (.a 9))) (.mul (.a 4) (.a 10))) (.mul (.a 5) (.a 11))) (.l 9223372036854775807)))
 (.ret false (.int .i64 (.add (.add (.add (.add (.add (.mul (.a 0) (.a 6)) (.mul (.a 1) (.a 7))) (.mul (.a 2) (.a 8))) (.mul (.a 3) (.a 9))) (.mul (.a 4) (.a 10))) (.mul (.a 5) (.a 11)))) [])))))))))))))
def bundle_Cost_S : Sx.Sys := ⟨[(.sh (.agg [(.int .i64), (.int .i64), (.int .i64), (.int .i64), (.int .i64), (.int .i64)])), (.sh (.agg [(.int .i64), (.int .i64), (.int .i64), (.int .i64), (.int .i64), (.int .i64)]))], bundle_Cost_s, [], none⟩
def bundle_Cost_pats : List Cfg := []
theorem bundle_Cost_ok : SysOk Try.prog 27 bundle_Cost_S := sys_ok (c := (cg [] [] [] false false false true)) (progOkG _ _ _ _ _ _ _) Try.func27 Try.call27 (by kernel_rfl) bundle_Cost_pats bundle_Cost_S 5000 rfl (by kernel_rfl) (by kernel_rfl) rfl
def relcap_valid_s : PT :=
 (.call 34 [(.agg [(.int .i64 (.a 1)), (.int .i64 (.a 2)), (.int .i64 (.a 3)), (.int .i64 (.a 4)), (.int .i64 (.a 5)), (.int .i64 (.a 6))])] [] [(.one (.int .i64))]
 (.ite (.eq (.a 8) (.l 0))
  (.ite (.not (.and (.eq (.a 1) (.l 0)) (.and (.eq (.a 2) (.l 0)) (.and (.eq (.a 3) (.l 0)) (.and (.eq (.a 4) (.l 0)) (.and (.eq (.a 5) (.l 0)) (.eq (.a 6) (.l 0))))))))
   (.ite (.le (.l 1) (.a 7))
    (.ret false (.bool (.le (.a 7) (.l 1000000))) [])
    (.ret false (.bool (.t false)) []))
   (.ret false (.bool (.t false)) []))
  (.ret false (.bool (.t false)) [])))
def relcap_valid_S : Sx.Sys := ⟨[(.sh (.agg [(.int .i64), (.int .i64), (.int .i64), (.int .i64), (.int .i64), (.int .i64), (.int .i64), (.int .i64)]))], relcap_valid_s, [], none⟩
def relcap_valid_pats : List Cfg := []
theorem relcap_valid_ok : SysOk Try.prog 35 relcap_valid_S := sys_ok (c := (cg [] [] [] false false false true)) (progOkG _ _ _ _ _ _ _) Try.func35 Try.call35 (by kernel_rfl) relcap_valid_pats relcap_valid_S 5000 rfl (by kernel_rfl) (by kernel_rfl) rfl
def revealed_formed_s : PT :=
 (.need (.is 0 1)
 (.ite (.lt (.l 0) (.slen 1))
  (.need (.is 0 2)
  (.ite (.lt (.l 0) (.slen 2))
   (.ret false (.bool (.t false)) [])
   (.need (.is 0 1)
   (.ite (.lt (.l 1000) (.slen 1))
    (.ret false (.bool (.t false)) [])
    (.need (.is 0 1)
    (.jump 0 [(.slen 1), (.l 0)] [] [(.va 0), (.va 1), (.va 2)]))))))
  (.need (.is 0 1)
  (.ite (.lt (.l 1000) (.slen 1))
   (.ret false (.bool (.t false)) [])
   (.need (.is 0 1)
   (.jump 0 [(.slen 1), (.l 0)] [] [(.va 0), (.va 1), (.va 2)]))))))
def revealed_formed_t0 : PT :=
 (.ite (.lt (.a 1) (.a 0))
  (.need (.and (.le (.l 0) (.a 1)) (.lt (.a 1) (.slen 1)))
  (.load false (.ea 1 (.a 1) 1 0) [(.int .i64)]
  (.ite (.lt (.a 2) (.l 0))
   (.ret false (.bool (.t false)) [])
   (.need (.is 0 0)
   (.ite (.le (.slen 0) (.a 2))
    (.ret false (.bool (.t false)) [])
    (.need (.and (.le (.l (-9223372036854775808)) (.add (.a 1) (.l 1))) (.le (.add (.a 1) (.l 1)) (.l 9223372036854775807)))
    (.jump 0 [(.a 0), (.add (.a 1) (.l 1))] [] [(.va 0), (.va 1), (.va 2)])))))))
  (.need (.is 0 2)
  (.jump 1 [(.slen 2), (.l 0)] [] [(.va 2)])))
def revealed_formed_t1 : PT :=
 (.ite (.lt (.a 1) (.a 0))
  (.need (.and (.le (.l 0) (.a 1)) (.lt (.a 1) (.slen 0)))
  (.load false (.ea 0 (.a 1) 1 0) [(.int .i64)]
  (.ite (.lt (.a 2) (.l (-1099511627776)))
   (.ret false (.bool (.t false)) [])
   (.ite (.lt (.l 1099511627776) (.a 2))
    (.ret false (.bool (.t false)) [])
    (.need (.and (.le (.l (-9223372036854775808)) (.add (.a 1) (.l 1))) (.le (.add (.a 1) (.l 1)) (.l 9223372036854775807)))
    (.jump 1 [(.a 0), (.add (.a 1) (.l 1))] [] [(.va 0)]))))))
  (.ret false (.bool (.t true)) []))
def revealed_formed_S : Sx.Sys := ⟨[(.sh (.one .val)), (.sh (.agg [.val, .val]))], revealed_formed_s, [revealed_formed_t0, revealed_formed_t1], none⟩
def revealed_formed_pats : List Cfg := [{ todo := [(.code [false, false, true, false, true, true]), (.inLoop [false, false, true, false, true, true]), (.inBlock 0), (.code [true, true, true])], sl := [(.va 0), (.junk 0), .undef, (.ptr 0 0), (.junk 1), .undef, (.junk 2), .undef, .undef, (.junk 3), (.junk 4), (.junk 5), (.junk 6), (.junk 7), (.junk 8), (.junk 9), (.junk 10), (.junk 11), (.junk 12), (.junk 13), (.junk 14), (.junk 15), (.junk 16), (.junk 17), (.junk 18), (.junk 19), (.va 1), (.int .i64 (.a 0)), (.int .i64 (.a 1)), (.junk 20), (.junk 21), (.junk 22), (.junk 23), (.junk 24), (.junk 25), (.junk 26), (.junk 27), (.junk 28), (.junk 29), (.junk 30), (.junk 31), .undef, .undef, .undef, .undef, .undef, .undef, .undef, .undef, .undef, .undef, .undef, .undef, .undef, .undef], H := [(.cells [(.va 1), (.va 2)] 50 false)], ni := 2, nb := 0, nv := 3, nj := 32 },
 { todo := [(.code [false, false, true, false, true, true, true]), (.inLoop [false, false, true, false, true, true, true]), (.inBlock 2), (.code [true, true, true, true])], sl := [(.junk 0), (.junk 1), .undef, (.junk 2), (.junk 3), .undef, (.junk 4), .undef, (.junk 5), (.junk 6), (.junk 7), (.junk 8), (.junk 9), (.junk 10), (.junk 11), (.junk 12), (.junk 13), (.junk 14), (.junk 15), (.junk 16), (.junk 17), (.junk 18), (.junk 19), (.junk 20), (.junk 21), (.junk 22), (.junk 23), (.junk 24), (.junk 25), (.junk 26), (.junk 27), (.junk 28), (.junk 29), (.junk 30), (.junk 31), (.junk 32), (.junk 33), (.junk 34), (.junk 35), (.junk 36), (.junk 37), (.junk 38), (.va 0), (.int .i64 (.a 0)), (.int .i64 (.a 1)), (.junk 39), (.junk 40), (.junk 41), (.junk 42), (.junk 43), (.junk 44), (.junk 45), (.junk 46), (.junk 47), (.junk 48)], H := [], ni := 2, nb := 0, nv := 1, nj := 49 }]
theorem revealed_formed_ok : SysOk Try.prog 44 revealed_formed_S := sys_ok (c := (cg [[false, false, true, false, true, true], [false, false, true, false, true, true, true]] [] [] false false false true)) (progOkG _ _ _ _ _ _ _) Try.func44 Try.call44 (by kernel_rfl) revealed_formed_pats revealed_formed_S 5000 rfl (by kernel_rfl) (by kernel_rfl) rfl
def revealed_valid_s : PT :=
 (.ite (.lt (.a 0) (.l 0))
  (.ret false (.bool (.t false)) [])
  (.ite (.lt (.l 1000000) (.a 0))
   (.ret false (.bool (.t false)) [])
   (.ite (.lt (.a 1) (.l 0))
    (.ret false (.bool (.t false)) [])
    (.ite (.lt (.l 1000000) (.a 1))
     (.ret false (.bool (.t false)) [])
     (.ite (.lt (.a 2) (.l 0))
      (.ret false (.bool (.t false)) [])
      (.ite (.lt (.l 1000000) (.a 2))
       (.ret false (.bool (.t false)) [])
       (.ite (.lt (.a 3) (.l 0))
        (.ret false (.bool (.t false)) [])
        (.ite (.lt (.l 1000000) (.a 3))
         (.ret false (.bool (.t false)) [])
         (.ite (.lt (.a 4) (.l 0))
          (.ret false (.bool (.t false)) [])
          (.ite (.lt (.l 1000000) (.a 4))
           (.ret false (.bool (.t false)) [])
           (.ite (.lt (.a 5) (.l 0))
            (.ret false (.bool (.t false)) [])
            (.ite (.lt (.l 1000000) (.a 5))
             (.ret false (.bool (.t false)) [])
             (.call 34 [(.agg [(.int .i64 (.a 6)), (.int .i64 (.a 7)), (.int .i64 (.a 8)), (.int .i64 (.a 9)), (.int .i64 (.a 10)), (.int .i64 (.a 11))])] [] [(.one (.int .i64))]
             (.ret false (.bool (.eq (.a 12) (.l 0))) []))))))))))))))
def revealed_valid_S : Sx.Sys := ⟨[(.sh (.agg [(.int .i64), (.int .i64), (.int .i64), (.int .i64), (.int .i64), (.int .i64), (.int .i64), (.int .i64), (.int .i64), (.int .i64), (.int .i64), (.int .i64)]))], revealed_valid_s, [], none⟩
def revealed_valid_pats : List Cfg := []
theorem revealed_valid_ok : SysOk Try.prog 52 revealed_valid_S := sys_ok (c := (cg [] [] [] false false false true)) (progOkG _ _ _ _ _ _ _) Try.func52 Try.call52 (by kernel_rfl) revealed_valid_pats revealed_valid_S 5000 rfl (by kernel_rfl) (by kernel_rfl) rfl
def slices_siftDownCmpFunc_api_Offer_s : PT :=
 (.jump 0 [(.a 1), (.a 2), (.a 0)] [] [(.va 0), (.va 1)])
def slices_siftDownCmpFunc_api_Offer_t0 : PT :=
 (.need (.and (.le (.l (-9223372036854775808)) (.mul (.l 2) (.a 2))) (.le (.mul (.l 2) (.a 2)) (.l 9223372036854775807)))
 (.need (.and (.le (.l (-9223372036854775808)) (.add (.mul (.l 2) (.a 2)) (.l 1))) (.le (.add (.mul (.l 2) (.a 2)) (.l 1)) (.l 9223372036854775807)))
 (.ite (.le (.a 0) (.add (.mul (.l 2) (.a 2)) (.l 1)))
  (.ret false (.tup []) [])
  (.need (.and (.le (.l (-9223372036854775808)) (.add (.add (.mul (.l 2) (.a 2)) (.l 1)) (.l 1))) (.le (.add (.add (.mul (.l 2) (.a 2)) (.l 1)) (.l 1)) (.l 9223372036854775807)))
  (.ite (.lt (.add (.add (.mul (.l 2) (.a 2)) (.l 1)) (.l 1)) (.a 0))
   (.need (.and (.le (.l (-9223372036854775808)) (.add (.a 1) (.add (.mul (.l 2) (.a 2)) (.l 1)))) (.le (.add (.a 1) (.add (.mul (.l 2) (.a 2)) (.l 1))) (.l 9223372036854775807)))
   (.need (.and (.le (.l 0) (.add (.a 1) (.add (.mul (.l 2) (.a 2)) (.l 1)))) (.lt (.add (.a 1) (.add (.mul (.l 2) (.a 2)) (.l 1))) (.slen 0)))
   (.need (.and (.le (.l (-9223372036854775808)) (.add (.a 1) (.add (.mul (.l 2) (.a 2)) (.l 1)))) (.le (.add (.a 1) (.add (.mul (.l 2) (.a 2)) (.l 1))) (.l 9223372036854775807)))
   (.need (.and (.le (.l (-9223372036854775808)) (.add (.add (.a 1) (.add (.mul (.l 2) (.a 2)) (.l 1))) (.l 1))) (.le (.add (.add (.a 1) (.add (.mul (.l 2) (.a 2)) (.l 1))) (.l 1)) (.l 9223372036854775807)))
   (.need (.and (.le (.l 0) (.add (.add (.a 1) (.add (.mul (.l 2) (.a 2)) (.l 1))) (.l 1))) (.lt (.add (.add (.a 1) (.add (.mul (.l 2) (.a 2)) (.l 1))) (.l 1)) (.slen 0)))
   (.load true (.ea 0 (.add (.a 1) (.add (.mul (.l 2) (.a 2)) (.l 1))) 8 0) [(.int .i64), (.int .i64), (.int .i64), (.int .i64), (.int .i64), (.int .i64), (.int .i64), (.int .i64)]
   (.load true (.ea 0 (.add (.add (.a 1) (.add (.mul (.l 2) (.a 2)) (.l 1))) (.l 1)) 8 0) [(.int .i64), (.int .i64), (.int .i64), (.int .i64), (.int .i64), (.int .i64), (.int .i64), (.int .i64)]
   (.callv 1 [(.agg [(.int .i64 (.a 3)), (.int .i64 (.a 4)), (.int .i64 (.a 5)), (.int .i64 (.a 6)), (.int .i64 (.a 7)), (.int .i64 (.a 8)), (.int .i64 (.a 9)), (.int .i64 (.a 10))]), (.agg [(.int .i64 (.a 11)), (.int .i64 (.a 12)), (.int .i64 (.a 13)), (.int .i64 (.a 14)), (.int .i64 (.a 15)), (.int .i64 (.a 16)), (.int .i64 (.a 17)), (.int .i64 (.a 18))])] [(.one (.int .i64))]
   (.ite (.lt (.a 19) (.l 0))
    (.need (.and (.le (.l (-9223372036854775808)) (.add (.add (.mul (.l 2) (.a 2)) (.l 1)) (.l 1))) (.le (.add (.add (.mul (.l 2) (.a 2)) (.l 1)) (.l 1)) (.l 9223372036854775807)))
    (.need (.and (.le (.l (-9223372036854775808)) (.add (.a 1) (.a 2))) (.le (.add (.a 1) (.a 2)) (.l 9223372036854775807)))
    (.need (.and (.le (.l 0) (.add (.a 1) (.a 2))) (.lt (.add (.a 1) (.a 2)) (.slen 0)))
    (.need (.and (.le (.l (-9223372036854775808)) (.add (.a 1) (.add (.add (.mul (.l 2) (.a 2)) (.l 1)) (.l 1)))) (.le (.add (.a 1) (.add (.add (.mul (.l 2) (.a 2)) (.l 1)) (.l 1))) (.l 9223372036854775807)))
    (.need (.and (.le (.l 0) (.add (.a 1) (.add (.add (.mul (.l 2) (.a 2)) (.l 1)) (.l 1)))) (.lt (.add (.a 1) (.add (.add (.mul (.l 2) (.a 2)) (.l 1)) (.l 1))) (.slen 0)))
    (.load true (.ea 0 (.add (.a 1) (.a 2)) 8 0) [(.int .i64), (.int .i64), (.int .i64), (.int .i64), (.int .i64), (.int .i64), (.int .i64), (.int .i64)]
    (.load true (.ea 0 (.add (.a 1) (.add (.add (.mul (.l 2) (.a 2)) (.l 1)) (.l 1))) 8 0) [(.int .i64), (.int .i64), (.int .i64), (.int .i64), (.int .i64), (.int .i64), (.int .i64), (.int .i64)]
    (.callv 1 [(.agg [(.int .i64 (.a 20)), (.int .i64 (.a 21)), (.int .i64 (.a 22)), (.int .i64 (.a 23)), (.int .i64 (.a 24)), (.int .i64 (.a 25)), (.int .i64 (.a 26)), (.int .i64 (.a 27))]), (.agg [(.int .i64 (.a 28)), (.int .i64 (.a 29)), (.int .i64 (.a 30)), (.int .i64 (.a 31)), (.int .i64 (.a 32)), (.int .i64 (.a 33)), (.int .i64 (.a 34)), (.int .i64 (.a 35))])] [(.one (.int .i64))]
    (.ite (.not (.lt (.a 36) (.l 0)))
     (.ret false (.tup []) [])
     (.need (.and (.le (.l (-9223372036854775808)) (.add (.a 1) (.a 2))) (.le (.add (.a 1) (.a 2)) (.l 9223372036854775807)))
     (.need (.and (.le (.l (-9223372036854775808)) (.add (.a 1) (.add (.add (.mul (.l 2) (.a 2)) (.l 1)) (.l 1)))) (.le (.add (.a 1) (.add (.add (.mul (.l 2) (.a 2)) (.l 1)) (.l 1))) (.l 9223372036854775807)))
     (.need (.and (.le (.l (-9223372036854775808)) (.add (.a 1) (.add (.add (.mul (.l 2) (.a 2)) (.l 1)) (.l 1)))) (.le (.add (.a 1) (.add (.add (.mul (.l 2) (.a 2)) (.l 1)) (.l 1))) (.l 9223372036854775807)))
     (.need (.and (.le (.l 0) (.add (.a 1) (.add (.add (.mul (.l 2) (.a 2)) (.l 1)) (.l 1)))) (.lt (.add (.a 1) (.add (.add (.mul (.l 2) (.a 2)) (.l 1)) (.l 1))) (.slen 0)))
     (.need (.and (.le (.l (-9223372036854775808)) (.add (.a 1) (.a 2))) (.le (.add (.a 1) (.a 2)) (.l 9223372036854775807)))
     (.need (.and (.le (.l 0) (.add (.a 1) (.a 2))) (.lt (.add (.a 1) (.a 2)) (.slen 0)))
     (.load true (.ea 0 (.add (.a 1) (.add (.add (.mul (.l 2) (.a 2)) (.l 1)) (.l 1))) 8 0) [(.int .i64), (.int .i64), (.int .i64), (.int .i64), (.int .i64), (.int .i64), (.int .i64), (.int .i64)]
     (.load true (.ea 0 (.add (.a 1) (.a 2)) 8 0) [(.int .i64), (.int .i64), (.int .i64), (.int .i64), (.int .i64), (.int .i64), (.int .i64), (.int .i64)]
     (.need (.and (.le (.l 0) (.add (.a 1) (.a 2))) (.lt (.add (.a 1) (.a 2)) (.slen 0)))
     (.storeM (.ea 0 (.add (.a 1) (.a 2)) 8 0) [(.int .i64 (.a 37)), (.int .i64 (.a 38)), (.int .i64 (.a 39)), (.int .i64 (.a 40)), (.int .i64 (.a 41)), (.int .i64 (.a 42)), (.int .i64 (.a 43)), (.int .i64 (.a 44))]
     (.need (.and (.le (.l 0) (.add (.a 1) (.add (.add (.mul (.l 2) (.a 2)) (.l 1)) (.l 1)))) (.lt (.add (.a 1) (.add (.add (.mul (.l 2) (.a 2)) (.l 1)) (.l 1))) (.slen 0)))
     (.storeM (.ea 0 (.add (.a 1) (.add (.add (.mul (.l 2) (.a 2)) (.l 1)) (.l 1))) 8 0) [(.int .i64 (.a 45)), (.int .i64 (.a 46)), (.int .i64 (.a 47)), (.int .i64 (.a 48)), (.int .i64 (.a 49)), (.int .i64 (.a 50)), (.int .i64 (.a 51)), (.int .i64 (.a 52))]
     (.jump 0 [(.a 0), (.a 1), (.add (.add (.mul (.l 2) (.a 2)) (.l 1)) (.l 1))] [] [(.va 0), (.va 1)]))))))))))))))))))))))
    (.need (.and (.le (.l (-9223372036854775808)) (.add (.a 1) (.a 2))) (.le (.add (.a 1) (.a 2)) (.l 9223372036854775807)))
    (.need (.and (.le (.l 0) (.add (.a 1) (.a 2))) (.lt (.add (.a 1) (.a 2)) (.slen 0)))
    (.need (.and (.le (.l (-9223372036854775808)) (.add (.a 1) (.add (.mul (.l 2) (.a 2)) (.l 1)))) (.le (.add (.a 1) (.add (.mul (.l 2) (.a 2)) (.l 1))) (.l 9223372036854775807)))
    (.need (.and (.le (.l 0) (.add (.a 1) (.add (.mul (.l 2) (.a 2)) (.l 1)))) (.lt (.add (.a 1) (.add (.mul (.l 2) (.a 2)) (.l 1))) (.slen 0)))
    (.load true (.ea 0 (.add (.a 1) (.a 2)) 8 0) [(.int .i64), (.int .i64), (.int .i64), (.int .i64), (.int .i64), (.int .i64), (.int .i64), (.int .i64)]
    (.load true (.ea 0 (.add (.a 1) (.add (.mul (.l 2) (.a 2)) (.l 1))) 8 0) [(.int .i64), (.int .i64), (.int .i64), (.int .i64), (.int .i64), (.int .i64), (.int .i64), (.int .i64)]
    (.callv 1 [(.agg [(.int .i64 (.a 20)), (.int .i64 (.a 21)), (.int .i64 (.a 22)), (.int .i64 (.a 23)), (.int .i64 (.a 24)), (.int .i64 (.a 25)), (.int .i64 (.a 26)), (.int .i64 (.a 27))]), (.agg [(.int .i64 (.a 28)), (.int .i64 (.a 29)), (.int .i64 (.a 30)), (.int .i64 (.a 31)), (.int .i64 (.a 32)), (.int .i64 (.a 33)), (.int .i64 (.a 34)), (.int .i64 (.a 35))])] [(.one (.int .i64))]
    (.ite (.not (.lt (.a 36) (.l 0)))
     (.ret false (.tup []) [])
     (.need (.and (.le (.l (-9223372036854775808)) (.add (.a 1) (.a 2))) (.le (.add (.a 1) (.a 2)) (.l 9223372036854775807)))
     (.need (.and (.le (.l (-9223372036854775808)) (.add (.a 1) (.add (.mul (.l 2) (.a 2)) (.l 1)))) (.le (.add (.a 1) (.add (.mul (.l 2) (.a 2)) (.l 1))) (.l 9223372036854775807)))
     (.need (.and (.le (.l (-9223372036854775808)) (.add (.a 1) (.add (.mul (.l 2) (.a 2)) (.l 1)))) (.le (.add (.a 1) (.add (.mul (.l 2) (.a 2)) (.l 1))) (.l 9223372036854775807)))
     (.need (.and (.le (.l 0) (.add (.a 1) (.add (.mul (.l 2) (.a 2)) (.l 1)))) (.lt (.add (.a 1) (.add (.mul (.l 2) (.a 2)) (.l 1))) (.slen 0)))
     (.need (.and (.le (.l (-9223372036854775808)) (.add (.a 1) (.a 2))) (.le (.add (.a 1) (.a 2)) (.l 9223372036854775807)))
     (.need (.and (.le (.l 0) (.add (.a 1) (.a 2))) (.lt (.add (.a 1) (.a 2)) (.slen 0)))
     (.load true (.ea 0 (.add (.a 1) (.add (.mul (.l 2) (.a 2)) (.l 1))) 8 0) [(.int .i64), (.int .i64), (.int .i64), (.int .i64), (.int .i64), (.int .i64), (.int .i64), (.int .i64)]
     (.load true (.ea 0 (.add (.a 1) (.a 2)) 8 0) [(.int .i64), (.int .i64), (.int .i64), (.int .i64), (.int .i64), (.int .i64), (.int .i64), (.int .i64)]
     (.need (.and (.le (.l 0) (.add (.a 1) (.a 2))) (.lt (.add (.a 1) (.a 2)) (.slen 0)))
     (.storeM (.ea 0 (.add (.a 1) (.a 2)) 8 0) [(.int .i64 (.a 37)), (.int .i64 (.a 38)), (.int .i64 (.a 39)), (.int .i64 (.a 40)), (.int .i64 (.a 41)), (.int .i64 (.a 42)), (.int .i64 (.a 43)), (.int .i64 (.a 44))]
     (.need (.and (.le (.l 0) (.add (.a 1) (.add (.mul (.l 2) (.a 2)) (.l 1)))) (.lt (.add (.a 1) (.add (.mul (.l 2) (.a 2)) (.l 1))) (.slen 0)))
     (.storeM (.ea 0 (.add (.a 1) (.add (.mul (.l 2) (.a 2)) (.l 1))) 8 0) [(.int .i64 (.a 45)), (.int .i64 (.a 46)), (.int .i64 (.a 47)), (.int .i64 (.a 48)), (.int .i64 (.a 49)), (.int .i64 (.a 50)), (.int .i64 (.a 51)), (.int .i64 (.a 52))]
     (.jump 0 [(.a 0), (.a 1), (.add (.mul (.l 2) (.a 2)) (.l 1))] [] [(.va 0), (.va 1)]))))))))))))))))))))))))))))))
   (.need (.and (.le (.l (-9223372036854775808)) (.add (.a 1) (.a 2))) (.le (.add (.a 1) (.a 2)) (.l 9223372036854775807)))
   (.need (.and (.le (.l 0) (.add (.a 1) (.a 2))) (.lt (.add (.a 1) (.a 2)) (.slen 0)))
   (.need (.and (.le (.l (-9223372036854775808)) (.add (.a 1) (.add (.mul (.l 2) (.a 2)) (.l 1)))) (.le (.add (.a 1) (.add (.mul (.l 2) (.a 2)) (.l 1))) (.l 9223372036854775807)))
   (.need (.and (.le (.l 0) (.add (.a 1) (.add (.mul (.l 2) (.a 2)) (.l 1)))) (.lt (.add (.a 1) (.add (.mul (.l 2) (.a 2)) (.l 1))) (.slen 0)))
   (.load true (.ea 0 (.add (.a 1) (.a 2)) 8 0) [(.int .i64), (.int .i64), (.int .i64), (.int .i64), (.int .i64), (.int .i64), (.int .i64), (.int .i64)]
   (.load true (.ea 0 (.add (.a 1) (.add (.mul (.l 2) (.a 2)) (.l 1))) 8 0) [(.int .i64), (.int .i64), (.int .i64), (.int .i64), (.int .i64), (.int .i64), (.int .i64), (.int .i64)]
   (.callv 1 [(.agg [(.int .i64 (.a 3)), (.int .i64 (.a 4)), (.int .i64 (.a 5)), (.int .i64 (.a 6)), (.int .i64 (.a 7)), (.int .i64 (.a 8)), (.int .i64 (.a 9)), (.int .i64 (.a 10))]), (.agg [(.int .i64 (.a 11)), (.int .i64 (.a 12)), (.int .i64 (.a 13)), (.int .i64 (.a 14)), (.int .i64 (.a 15)), (.int .i64 (.a 16)), (.int .i64 (.a 17)), (.int .i64 (.a 18))])] [(.one (.int .i64))]
   (.ite (.not (.lt (.a 19) (.l 0)))
    (.ret false (.tup []) [])
    (.need (.and (.le (.l (-9223372036854775808)) (.add (.a 1) (.a 2))) (.le (.add (.a 1) (.a 2)) (.l 9223372036854775807)))
    (.need (.and (.le (.l (-9223372036854775808)) (.add (.a 1) (.add (.mul (.l 2) (.a 2)) (.l 1)))) (.le (.add (.a 1) (.add (.mul (.l 2) (.a 2)) (.l 1))) (.l 9223372036854775807)))
    (.need (.and (.le (.l (-9223372036854775808)) (.add (.a 1) (.add (.mul (.l 2) (.a 2)) (.l 1)))) (.le (.add (.a 1) (.add (.mul (.l 2) (.a 2)) (.l 1))) (.l 9223372036854775807)))
    (.need (.and (.le (.l 0) (.add (.a 1) (.add (.mul (.l 2) (.a 2)) (.l 1)))) (.lt (.add (.a 1) (.add (.mul (.l 2) (.a 2)) (.l 1))) (.slen 0)))
    (.need (.and (.le (.l (-9223372036854775808)) (.add (.a 1) (.a 2))) (.le (.add (.a 1) (.a 2)) (.l 9223372036854775807)))
    (.need (.and (.le (.l 0) (.add (.a 1) (.a 2))) (.lt (.add (.a 1) (.a 2)) (.slen 0)))
    (.load true (.ea 0 (.add (.a 1) (.add (.mul (.l 2) (.a 2)) (.l 1))) 8 0) [(.int .i64), (.int .i64), (.int .i64), (.int .i64), (.int .i64), (.int .i64), (.int .i64), (.int .i64)]
    (.load true (.ea 0 (.add (.a 1) (.a 2)) 8 0) [(.int .i64), (.int .i64), (.int .i64), (.int .i64), (.int .i64), (.int .i64), (.int .i64), (.int .i64)]
    (.need (.and (.le (.l 0) (.add (.a 1) (.a 2))) (.lt (.add (.a 1) (.a 2)) (.slen 0)))
    (.storeM (.ea 0 (.add (.a 1) (.a 2)) 8 0) [(.int .i64 (.a 20)), (.int .i64 (.a 21)), (.int .i64 (.a 22)), (.int .i64 (.a 23)), (.int .i64 (.a 24)), (.int .i64 (.a 25)), (.int .i64 (.a 26)), (.int .i64 (.a 27))]
    (.need (.and (.le (.l 0) (.add (.a 1) (.add (.mul (.l 2) (.a 2)) (.l 1)))) (.lt (.add (.a 1) (.add (.mul (.l 2) (.a 2)) (.l 1))) (.slen 0)))
    (.storeM (.ea 0 (.add (.a 1) (.add (.mul (.l 2) (.a 2)) (.l 1))) 8 0) [(.int .i64 (.a 28)), (.int .i64 (.a 29)), (.int .i64 (.a 30)), (.int .i64 (.a 31)), (.int .i64 (.a 32)), (.int .i64 (.a 33)), (.int .i64 (.a 34)), (.int .i64 (.a 35))]
    (.jump 0 [(.a 0), (.a 1), (.add (.mul (.l 2) (.a 2)) (.l 1))] [] [(.va 0), (.va 1)]))))))))))))))))))))))))))
def slices_siftDownCmpFunc_api_Offer_S : Sx.Sys := ⟨[(.sh (.one .val)), (.sh (.one (.int .i64))), (.sh (.one (.int .i64))), (.sh (.one (.int .i64))), (.sh (.one .val))], slices_siftDownCmpFunc_api_Offer_s, [slices_siftDownCmpFunc_api_Offer_t0], none⟩
def slices_siftDownCmpFunc_api_Offer_pats : List Cfg := [{ todo := [(.code [false, false, true]), (.inLoop [false, false, true]), (.inBlock 0)], sl := [(.va 0), (.junk 0), (.int .i64 (.a 0)), (.int .i64 (.a 1)), (.va 1), .undef, .undef, .undef, .undef, .undef, (.int .i64 (.a 2)), (.junk 1), (.junk 2), (.junk 3), (.junk 4), (.junk 5), (.junk 6), (.junk 7), (.junk 8), (.junk 9), (.junk 10), (.junk 11), (.junk 12), (.junk 13), (.junk 14), (.junk 15), (.junk 16), (.junk 17), (.junk 18), (.junk 19), (.junk 20), (.junk 21), (.junk 22), (.junk 23), (.junk 24), (.junk 25), (.junk 26), (.junk 27), (.junk 28), (.junk 29), (.junk 30), (.junk 31), (.junk 32), (.junk 33), (.junk 34), (.junk 35), (.junk 36), (.junk 37), (.junk 38), (.junk 39), (.junk 40), (.junk 41), (.junk 42), (.junk 43), (.junk 44), (.junk 45), (.junk 46), (.junk 47), (.junk 48), (.junk 49), (.junk 50), (.junk 51), (.junk 52), (.junk 53), (.junk 54), (.junk 55), (.junk 56), (.junk 57), (.junk 58), (.junk 59), (.junk 60), (.junk 61), (.junk 62), (.junk 63), (.junk 64), (.junk 65), (.junk 66), (.junk 67), (.junk 68), (.junk 69), (.junk 70), (.junk 71)], H := [], ni := 3, nb := 0, nv := 2, nj := 72 }]
theorem slices_siftDownCmpFunc_api_Offer_ok : SysOk Try.prog 64 slices_siftDownCmpFunc_api_Offer_S := sys_ok (c := (cg [[false, false, true]] [] [(24, [3]), (43, [3])] false false false true)) (progOkG _ _ _ _ _ _ _) Try.func64 Try.call64 (by kernel_rfl) slices_siftDownCmpFunc_api_Offer_pats slices_siftDownCmpFunc_api_Offer_S 5000 rfl (by kernel_rfl) (by kernel_rfl) rfl
end Go.Proofs.Ytggjcdnailppoaa
namespace Go.Proofs.Ytggjcdnailppoaa
open Go.Sx
def tabS : List (Nat × Sx.Sys) := [(3, saleroomlaw40_RelcapClockbids_S), (4, saleroomlaw40_RelcapMost_S), (5, saleroomlaw40_RelcapRaises_S), (6, saleroomlaw40_RelcapChecks_S), (7, saleroomlaw40_RelcapTrims_S), (8, saleroomlaw40_RelcapConsistent_S), (9, saleroomlaw40_lives_S), (10, saleroomlaw40_same_S), (11, relcap_Clockbids_S), (12, saleroomref40_Clockbids_S), (13, relcap_Most_S), (14, saleroomref40_Most_S), (15, relcap_Check_S), (16, saleroomref40_Right_S), (17, saleroomref07_Check_S), (18, saleroomref40_Check_S), (19, relcap_Trim_S), (21, saleroomref36_All_S), (22, saleroomref40_Final_S), (23, saleroomref36_Cost_S), (24, revealed_Check_S), (25, revealed_Verify_S), (26, relcap_sound_S), (27, bundle_Cost_S), (28, slices_DeleteFunc_api_Offer_api_Offer_S), (29, relcap_Clockbids_1_S), (30, slices_SortFunc_api_Offer_api_Offer_S), (31, relcap_Clockbids_2_S), (32, bundle_Compare_S), (33, saleroomref07_Compare_S), (34, bundle_Check_S), (35, relcap_valid_S), (36, relcap_most_S), (37, relcap_finals_S), (38, slices_Clone_api_Offer_api_Offer_S), (40, saleroomref36_Valid_S), (41, saleroomref07_Cost_S), (42, revealed_allValid_S), (43, revealed_lowered_S), (44, revealed_formed_S), (45, revealed_explains_S), (46, revealed_gain_S), (47, slices_IndexFunc_api_Offer_api_Offer_S), (48, slices_pdqsortCmpFunc_api_Offer_S), (49, math_bits_Len_S), (50, relcap_finals_1_S), (51, saleroomref07_Prices_S), (52, revealed_valid_S), (53, revealed_cycle_S), (54, slices_insertionSortCmpFunc_api_Offer_S), (56, slices_breakPatternsCmpFunc_api_Offer_S), (57, slices_choosePivotCmpFunc_api_Offer_S), (58, slices_reverseRangeCmpFunc_api_Offer_S), (62, math_bits_Len32_S), (63, math_bits_Len64_S), (64, slices_siftDownCmpFunc_api_Offer_S), (67, slices_medianAdjacentCmpFunc_api_Offer_S), (68, slices_medianCmpFunc_api_Offer_S), (69, slices_order2CmpFunc_api_Offer_S)]
def Tab (f : Nat) : Option Sx.Sys := lookN f tabS
theorem tab_ok : ∀ f S, Tab f = some S → SysOk Try.prog f S := by
  intro f S h
  have h := look_mem h
  simp only [tabS, List.mem_cons, Prod.mk.injEq, List.not_mem_nil, or_false] at h
  rcases h with ⟨rfl, rfl⟩ | ⟨rfl, rfl⟩ | ⟨rfl, rfl⟩ | ⟨rfl, rfl⟩ | ⟨rfl, rfl⟩ | ⟨rfl, rfl⟩ | ⟨rfl, rfl⟩ | ⟨rfl, rfl⟩ | ⟨rfl, rfl⟩ | ⟨rfl, rfl⟩ | ⟨rfl, rfl⟩ | ⟨rfl, rfl⟩ | ⟨rfl, rfl⟩ | ⟨rfl, rfl⟩ | ⟨rfl, rfl⟩ | ⟨rfl, rfl⟩ | ⟨rfl, rfl⟩ | ⟨rfl, rfl⟩ | ⟨rfl, rfl⟩ | ⟨rfl, rfl⟩ | ⟨rfl, rfl⟩ | ⟨rfl, rfl⟩ | ⟨rfl, rfl⟩ | ⟨rfl, rfl⟩ | ⟨rfl, rfl⟩ | ⟨rfl, rfl⟩ | ⟨rfl, rfl⟩ | ⟨rfl, rfl⟩ | ⟨rfl, rfl⟩ | ⟨rfl, rfl⟩ | ⟨rfl, rfl⟩ | ⟨rfl, rfl⟩ | ⟨rfl, rfl⟩ | ⟨rfl, rfl⟩ | ⟨rfl, rfl⟩ | ⟨rfl, rfl⟩ | ⟨rfl, rfl⟩ | ⟨rfl, rfl⟩ | ⟨rfl, rfl⟩ | ⟨rfl, rfl⟩ | ⟨rfl, rfl⟩ | ⟨rfl, rfl⟩ | ⟨rfl, rfl⟩ | ⟨rfl, rfl⟩ | ⟨rfl, rfl⟩ | ⟨rfl, rfl⟩ | ⟨rfl, rfl⟩ | ⟨rfl, rfl⟩ | ⟨rfl, rfl⟩ | ⟨rfl, rfl⟩ | ⟨rfl, rfl⟩ | ⟨rfl, rfl⟩ | ⟨rfl, rfl⟩ | ⟨rfl, rfl⟩ | ⟨rfl, rfl⟩ | ⟨rfl, rfl⟩ | ⟨rfl, rfl⟩ | ⟨rfl, rfl⟩ | ⟨rfl, rfl⟩
  · exact saleroomlaw40_RelcapClockbids_ok
  · exact saleroomlaw40_RelcapMost_ok
  · exact saleroomlaw40_RelcapRaises_ok
  · exact saleroomlaw40_RelcapChecks_ok
  · exact saleroomlaw40_RelcapTrims_ok
  · exact saleroomlaw40_RelcapConsistent_ok
  · exact saleroomlaw40_lives_ok
  · exact saleroomlaw40_same_ok
  · exact relcap_Clockbids_ok
  · exact saleroomref40_Clockbids_ok
  · exact relcap_Most_ok
  · exact saleroomref40_Most_ok
  · exact relcap_Check_ok
  · exact saleroomref40_Right_ok
  · exact saleroomref07_Check_ok
  · exact saleroomref40_Check_ok
  · exact relcap_Trim_ok
  · exact saleroomref36_All_ok
  · exact saleroomref40_Final_ok
  · exact saleroomref36_Cost_ok
  · exact revealed_Check_ok
  · exact revealed_Verify_ok
  · exact relcap_sound_ok
  · exact bundle_Cost_ok
  · exact slices_DeleteFunc_api_Offer_api_Offer_ok
  · exact relcap_Clockbids_1_ok
  · exact slices_SortFunc_api_Offer_api_Offer_ok
  · exact relcap_Clockbids_2_ok
  · exact bundle_Compare_ok
  · exact saleroomref07_Compare_ok
  · exact bundle_Check_ok
  · exact relcap_valid_ok
  · exact relcap_most_ok
  · exact relcap_finals_ok
  · exact slices_Clone_api_Offer_api_Offer_ok
  · exact saleroomref36_Valid_ok
  · exact saleroomref07_Cost_ok
  · exact revealed_allValid_ok
  · exact revealed_lowered_ok
  · exact revealed_formed_ok
  · exact revealed_explains_ok
  · exact revealed_gain_ok
  · exact slices_IndexFunc_api_Offer_api_Offer_ok
  · exact slices_pdqsortCmpFunc_api_Offer_ok
  · exact math_bits_Len_ok
  · exact relcap_finals_1_ok
  · exact saleroomref07_Prices_ok
  · exact revealed_valid_ok
  · exact revealed_cycle_ok
  · exact slices_insertionSortCmpFunc_api_Offer_ok
  · exact slices_breakPatternsCmpFunc_api_Offer_ok
  · exact slices_choosePivotCmpFunc_api_Offer_ok
  · exact slices_reverseRangeCmpFunc_api_Offer_ok
  · exact math_bits_Len32_ok
  · exact math_bits_Len64_ok
  · exact slices_siftDownCmpFunc_api_Offer_ok
  · exact slices_medianAdjacentCmpFunc_api_Offer_ok
  · exact slices_medianCmpFunc_api_Offer_ok
  · exact slices_order2CmpFunc_api_Offer_ok
abbrev n_saleroomlaw40_RelcapClockbids : Nat := 3
abbrev n_saleroomlaw40_RelcapMost : Nat := 4
abbrev n_saleroomlaw40_RelcapRaises : Nat := 5
abbrev n_saleroomlaw40_RelcapChecks : Nat := 6
abbrev n_saleroomlaw40_RelcapTrims : Nat := 7
abbrev n_saleroomlaw40_RelcapConsistent : Nat := 8
abbrev n_saleroomlaw40_lives : Nat := 9
abbrev n_saleroomlaw40_same : Nat := 10
abbrev n_relcap_Clockbids : Nat := 11
abbrev n_saleroomref40_Clockbids : Nat := 12
abbrev n_relcap_Most : Nat := 13
abbrev n_saleroomref40_Most : Nat := 14
abbrev n_relcap_Check : Nat := 15
abbrev n_saleroomref40_Right : Nat := 16
abbrev n_saleroomref07_Check : Nat := 17
abbrev n_saleroomref40_Check : Nat := 18
abbrev n_relcap_Trim : Nat := 19
abbrev n_saleroomref36_All : Nat := 21
abbrev n_saleroomref40_Final : Nat := 22
abbrev n_saleroomref36_Cost : Nat := 23
abbrev n_revealed_Check : Nat := 24
abbrev n_revealed_Verify : Nat := 25
abbrev n_relcap_sound : Nat := 26
abbrev n_bundle_Cost : Nat := 27
abbrev n_slices_DeleteFunc_api_Offer_api_Offer : Nat := 28
abbrev n_relcap_Clockbids_1 : Nat := 29
abbrev n_slices_SortFunc_api_Offer_api_Offer : Nat := 30
abbrev n_relcap_Clockbids_2 : Nat := 31
abbrev n_bundle_Compare : Nat := 32
abbrev n_saleroomref07_Compare : Nat := 33
abbrev n_bundle_Check : Nat := 34
abbrev n_relcap_valid : Nat := 35
abbrev n_relcap_most : Nat := 36
abbrev n_relcap_finals : Nat := 37
abbrev n_slices_Clone_api_Offer_api_Offer : Nat := 38
abbrev n_saleroomref36_Valid : Nat := 40
abbrev n_saleroomref07_Cost : Nat := 41
abbrev n_revealed_allValid : Nat := 42
abbrev n_revealed_lowered : Nat := 43
abbrev n_revealed_formed : Nat := 44
abbrev n_revealed_explains : Nat := 45
abbrev n_revealed_gain : Nat := 46
abbrev n_slices_IndexFunc_api_Offer_api_Offer : Nat := 47
abbrev n_slices_pdqsortCmpFunc_api_Offer : Nat := 48
abbrev n_math_bits_Len : Nat := 49
abbrev n_relcap_finals_1 : Nat := 50
abbrev n_saleroomref07_Prices : Nat := 51
abbrev n_revealed_valid : Nat := 52
abbrev n_revealed_cycle : Nat := 53
abbrev n_slices_insertionSortCmpFunc_api_Offer : Nat := 54
abbrev n_slices_breakPatternsCmpFunc_api_Offer : Nat := 56
abbrev n_slices_choosePivotCmpFunc_api_Offer : Nat := 57
abbrev n_slices_reverseRangeCmpFunc_api_Offer : Nat := 58
abbrev n_math_bits_Len32 : Nat := 62
abbrev n_math_bits_Len64 : Nat := 63
abbrev n_slices_siftDownCmpFunc_api_Offer : Nat := 64
abbrev n_slices_medianAdjacentCmpFunc_api_Offer : Nat := 67
abbrev n_slices_medianCmpFunc_api_Offer : Nat := 68
abbrev n_slices_order2CmpFunc_api_Offer : Nat := 69
theorem tab_saleroomlaw40_RelcapClockbids : Tab 3 = some saleroomlaw40_RelcapClockbids_S := by kernel_rfl
theorem tab_saleroomlaw40_RelcapMost : Tab 4 = some saleroomlaw40_RelcapMost_S := by kernel_rfl
theorem tab_saleroomlaw40_RelcapRaises : Tab 5 = some saleroomlaw40_RelcapRaises_S := by kernel_rfl
theorem tab_saleroomlaw40_RelcapChecks : Tab 6 = some saleroomlaw40_RelcapChecks_S := by kernel_rfl
theorem tab_saleroomlaw40_RelcapTrims : Tab 7 = some saleroomlaw40_RelcapTrims_S := by kernel_rfl
theorem tab_saleroomlaw40_RelcapConsistent : Tab 8 = some saleroomlaw40_RelcapConsistent_S := by kernel_rfl
theorem tab_saleroomlaw40_lives : Tab 9 = some saleroomlaw40_lives_S := by kernel_rfl
theorem tab_saleroomlaw40_same : Tab 10 = some saleroomlaw40_same_S := by kernel_rfl
theorem tab_relcap_Clockbids : Tab 11 = some relcap_Clockbids_S := by kernel_rfl
theorem tab_saleroomref40_Clockbids : Tab 12 = some saleroomref40_Clockbids_S := by kernel_rfl
theorem tab_relcap_Most : Tab 13 = some relcap_Most_S := by kernel_rfl
theorem tab_saleroomref40_Most : Tab 14 = some saleroomref40_Most_S := by kernel_rfl
theorem tab_relcap_Check : Tab 15 = some relcap_Check_S := by kernel_rfl
theorem tab_saleroomref40_Right : Tab 16 = some saleroomref40_Right_S := by kernel_rfl
theorem tab_saleroomref07_Check : Tab 17 = some saleroomref07_Check_S := by kernel_rfl
theorem tab_saleroomref40_Check : Tab 18 = some saleroomref40_Check_S := by kernel_rfl
theorem tab_relcap_Trim : Tab 19 = some relcap_Trim_S := by kernel_rfl
theorem tab_saleroomref36_All : Tab 21 = some saleroomref36_All_S := by kernel_rfl
theorem tab_saleroomref40_Final : Tab 22 = some saleroomref40_Final_S := by kernel_rfl
theorem tab_saleroomref36_Cost : Tab 23 = some saleroomref36_Cost_S := by kernel_rfl
theorem tab_revealed_Check : Tab 24 = some revealed_Check_S := by kernel_rfl
theorem tab_revealed_Verify : Tab 25 = some revealed_Verify_S := by kernel_rfl
theorem tab_relcap_sound : Tab 26 = some relcap_sound_S := by kernel_rfl
theorem tab_bundle_Cost : Tab 27 = some bundle_Cost_S := by kernel_rfl
theorem tab_slices_DeleteFunc_api_Offer_api_Offer : Tab 28 = some slices_DeleteFunc_api_Offer_api_Offer_S := by kernel_rfl
theorem tab_relcap_Clockbids_1 : Tab 29 = some relcap_Clockbids_1_S := by kernel_rfl
theorem tab_slices_SortFunc_api_Offer_api_Offer : Tab 30 = some slices_SortFunc_api_Offer_api_Offer_S := by kernel_rfl
theorem tab_relcap_Clockbids_2 : Tab 31 = some relcap_Clockbids_2_S := by kernel_rfl
theorem tab_bundle_Compare : Tab 32 = some bundle_Compare_S := by kernel_rfl
theorem tab_saleroomref07_Compare : Tab 33 = some saleroomref07_Compare_S := by kernel_rfl
theorem tab_bundle_Check : Tab 34 = some bundle_Check_S := by kernel_rfl
theorem tab_relcap_valid : Tab 35 = some relcap_valid_S := by kernel_rfl
theorem tab_relcap_most : Tab 36 = some relcap_most_S := by kernel_rfl
theorem tab_relcap_finals : Tab 37 = some relcap_finals_S := by kernel_rfl
theorem tab_slices_Clone_api_Offer_api_Offer : Tab 38 = some slices_Clone_api_Offer_api_Offer_S := by kernel_rfl
theorem tab_saleroomref36_Valid : Tab 40 = some saleroomref36_Valid_S := by kernel_rfl
theorem tab_saleroomref07_Cost : Tab 41 = some saleroomref07_Cost_S := by kernel_rfl
theorem tab_revealed_allValid : Tab 42 = some revealed_allValid_S := by kernel_rfl
theorem tab_revealed_lowered : Tab 43 = some revealed_lowered_S := by kernel_rfl
theorem tab_revealed_formed : Tab 44 = some revealed_formed_S := by kernel_rfl
theorem tab_revealed_explains : Tab 45 = some revealed_explains_S := by kernel_rfl
theorem tab_revealed_gain : Tab 46 = some revealed_gain_S := by kernel_rfl
theorem tab_slices_IndexFunc_api_Offer_api_Offer : Tab 47 = some slices_IndexFunc_api_Offer_api_Offer_S := by kernel_rfl
theorem tab_slices_pdqsortCmpFunc_api_Offer : Tab 48 = some slices_pdqsortCmpFunc_api_Offer_S := by kernel_rfl
theorem tab_math_bits_Len : Tab 49 = some math_bits_Len_S := by kernel_rfl
theorem tab_relcap_finals_1 : Tab 50 = some relcap_finals_1_S := by kernel_rfl
theorem tab_saleroomref07_Prices : Tab 51 = some saleroomref07_Prices_S := by kernel_rfl
theorem tab_revealed_valid : Tab 52 = some revealed_valid_S := by kernel_rfl
theorem tab_revealed_cycle : Tab 53 = some revealed_cycle_S := by kernel_rfl
theorem tab_slices_insertionSortCmpFunc_api_Offer : Tab 54 = some slices_insertionSortCmpFunc_api_Offer_S := by kernel_rfl
theorem tab_slices_breakPatternsCmpFunc_api_Offer : Tab 56 = some slices_breakPatternsCmpFunc_api_Offer_S := by kernel_rfl
theorem tab_slices_choosePivotCmpFunc_api_Offer : Tab 57 = some slices_choosePivotCmpFunc_api_Offer_S := by kernel_rfl
theorem tab_slices_reverseRangeCmpFunc_api_Offer : Tab 58 = some slices_reverseRangeCmpFunc_api_Offer_S := by kernel_rfl
theorem tab_math_bits_Len32 : Tab 62 = some math_bits_Len32_S := by kernel_rfl
theorem tab_math_bits_Len64 : Tab 63 = some math_bits_Len64_S := by kernel_rfl
theorem tab_slices_siftDownCmpFunc_api_Offer : Tab 64 = some slices_siftDownCmpFunc_api_Offer_S := by kernel_rfl
theorem tab_slices_medianAdjacentCmpFunc_api_Offer : Tab 67 = some slices_medianAdjacentCmpFunc_api_Offer_S := by kernel_rfl
theorem tab_slices_medianCmpFunc_api_Offer : Tab 68 = some slices_medianCmpFunc_api_Offer_S := by kernel_rfl
theorem tab_slices_order2CmpFunc_api_Offer : Tab 69 = some slices_order2CmpFunc_api_Offer_S := by kernel_rfl
end Go.Proofs.Ytggjcdnailppoaa
