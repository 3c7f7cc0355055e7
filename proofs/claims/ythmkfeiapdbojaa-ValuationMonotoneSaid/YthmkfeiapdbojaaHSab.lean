/- The trees of this seat's functions, part 3. Written by txgen.py. -/
import Derived.Test.YthmkfeiapdbojaaHTab
set_option linter.unusedSimpArgs false
set_option linter.unusedVariables false
set_option maxRecDepth 100000
namespace Go.Proofs.Ythmkfeiapdbojaa
open Go.Sx
def a5B : PT :=
 (.ite (.lt (.a 0) (.l 0))
 (.ret false (.int .i64 (.l 4)) [])
 (.ite (.lt (.l 4) (.a 0))
  (.ret false (.int .i64 (.l 4)) [])
  (.ite (.lt (.a 1) (.l 0))
  (.ret false (.int .i64 (.l 4)) [])
  (.ite (.lt (.l 4) (.a 1))
   (.ret false (.int .i64 (.l 4)) [])
   (.ite (.lt (.a 2) (.l 0))
   (.ret false (.int .i64 (.l 4)) [])
   (.ite (.lt (.l 4) (.a 2))
    (.ret false (.int .i64 (.l 4)) [])
    (.ite (.lt (.a 3) (.l 0))
    (.ret false (.int .i64 (.l 4)) [])
    (.ite (.lt (.l 4) (.a 3))
     (.ret false (.int .i64 (.l 4)) [])
     (.ite (.lt (.a 4) (.l 0))
     (.ret false (.int .i64 (.l 4)) [])
     (.ite (.lt (.l 4) (.a 4))
      (.ret false (.int .i64 (.l 4)) [])
      (.ite (.lt (.a 5) (.l 0))
      (.ret false (.int .i64 (.l 4)) [])
      (.ite (.lt (.l 4) (.a 5))
       (.ret false (.int .i64 (.l 4)) [])
       (.ret false (.int .i64 (.l 0)) [])))))))))))))
def bundle_Check_S : Sx.Sys := ⟨[(.sh (.agg [(.int .i64), (.int .i64), (.int .i64), (.int .i64), (.int .i64), (.int .i64)]))], a5B, [], none, none⟩
def b2N : List Cfg := []
theorem b4y : SysOk Try.prog 48 bundle_Check_S := a0D (c := (cg [] [] [] false false false true)) (a0w _ _ _ _ _ _ _ _ _) Try.func48 Try.call48 (by kernel_rfl) b2N bundle_Check_S 5000 rfl (by kernel_rfl) (by kernel_rfl) rfl
def a8f : PT :=
 (.load false (.pa 0 0) [.bool]
 (.ite (.a 0)
 (.load false (.pa 1 0) [.val]
 (.need (.and (.le (.l 0) (.a 0)) (.lt (.a 0) (.slen 3)))
 (.load false (.ea 3 (.a 0) 1 0) [(.int .i64)]
 (.load false (.pa 1 0) [.val]
 (.load false (.pa 2 0) [(.int .i64)]
 (.need (.and (.le (.l 0) (.a 2)) (.lt (.a 2) (.slen 4)))
 (.load false (.ea 4 (.a 2) 1 0) [(.int .i64)]
 (.storeM (.pa 0 0) [(.bool (.le (.a 1) (.a 3)))]
 (.ret true (.tup []) [])))))))))
 (.storeM (.pa 0 0) [(.bool (.t false))]
 (.ret true (.tup []) []))))
def valuation_Monotone_1_S : Sx.Sys := ⟨[(.sh (.one (.int .i64))), .ptr, .ptr, .ptr], a8f, [], none, none⟩
def a6z : List Cfg := []
theorem a7J : SysOk Try.prog 56 valuation_Monotone_1_S := a0D (c := (cg [] [] [] true true false true)) (a0w _ _ _ _ _ _ _ _ _) Try.func56 Try.call56 (by kernel_rfl) a6z valuation_Monotone_1_S 5000 rfl (by kernel_rfl) (by kernel_rfl) rfl
def b7F : PT :=
 (.need (.is 0 0)
 (.jump 0 [(.l 0), (.slen 0), (.l 0)] [] [(.va 0)]))
def b0U : PT :=
 (.ite (.lt (.a 2) (.a 1))
 (.need (.and (.le (.l 0) (.a 2)) (.lt (.a 2) (.slen 0)))
 (.load false (.ea 0 (.a 2) 9 0) [(.int .i64), (.int .i64), (.int .i64), (.int .i64), (.int .i64), (.int .i64), (.int .i64), (.int .i64), .val]
 (.call 65 [(.agg [(.int .i64 (.a 3)), (.int .i64 (.a 4)), (.int .i64 (.a 5)), (.int .i64 (.a 6)), (.int .i64 (.a 7)), (.int .i64 (.a 8)), (.int .i64 (.a 9)), (.int .i64 (.a 10)), (.va 1)])] [] [(.one (.int .i64))]
 (.need (.and (.le (.l (-9223372036854775808)) (.add (.a 2) (.l 1))) (.le (.add (.a 2) (.l 1)) (.l 9223372036854775807)))
 (.jump 0 [(.mx (.a 0) (.a 11)), (.a 1), (.add (.a 2) (.l 1))] [] [(.va 0)])))))
 (.need (.and (.le (.l (-9223372036854775808)) (.add (.a 0) (.l 1))) (.le (.add (.a 0) (.l 1)) (.l 9223372036854775807)))
 (.ret false (.int .i64 (.add (.a 0) (.l 1))) [])))
def expr_Depth_S : Sx.Sys := ⟨[(.sh (.agg [(.int .i64), (.int .i64), (.int .i64), (.int .i64), (.int .i64), (.int .i64), (.int .i64), (.int .i64), .val]))], b7F, [b0U], none, none⟩
def b4M : List Cfg := [{ todo := [(.code [false, false, true, false, true, true]), (.inLoop [false, false, true, false, true, true]), (.inBlock 0), (.code [true, true, true])], sl := [(.junk 0), (.junk 1), (.junk 2), (.int .i64 (.a 0)), .undef, (.junk 3), (.junk 4), (.va 0), (.int .i64 (.a 1)), (.int .i64 (.a 2)), (.junk 5), (.junk 6), (.junk 7), (.junk 8), (.junk 9), (.junk 10), (.junk 11), (.junk 12), .undef, .undef], H := [], ni := 3, nb := 0, nv := 1, nj := 13 }]
theorem b6R : SysOk Try.prog 65 expr_Depth_S := a0D (c := (cg [[false, false, true, false, true, true]] [] [] false false false true)) (a0w _ _ _ _ _ _ _ _ _) Try.func65 Try.call65 (by kernel_rfl) b4M expr_Depth_S 5000 rfl (by kernel_rfl) (by kernel_rfl) rfl
def a6p : PT :=
 (.ret false (.agg [(.int .i64 (.mn (.a 0) (.a 6))), (.int .i64 (.mn (.a 1) (.a 7))), (.int .i64 (.mn (.a 2) (.a 8))), (.int .i64 (.mn (.a 3) (.a 9))), (.int .i64 (.mn (.a 4) (.a 10))), (.int .i64 (.mn (.a 5) (.a 11)))]) [])
def bundle_Meet_S : Sx.Sys := ⟨[(.sh (.agg [(.int .i64), (.int .i64), (.int .i64), (.int .i64), (.int .i64), (.int .i64)])), (.sh (.agg [(.int .i64), (.int .i64), (.int .i64), (.int .i64), (.int .i64), (.int .i64)]))], a6p, [], none, none⟩
def b3I : List Cfg := []
theorem a9f : SysOk Try.prog 89 bundle_Meet_S := a0D (c := (cg [] [] [] false false false true)) (a0w _ _ _ _ _ _ _ _ _) Try.func89 Try.call89 (by kernel_rfl) b3I bundle_Meet_S 5000 rfl (by kernel_rfl) (by kernel_rfl) rfl
end Go.Proofs.Ythmkfeiapdbojaa
set_option maxRecDepth 100000
namespace Go.Proofs.Ythmkfeiapdbojaa
open Go.Sx
def a5s : PT :=
 (.jump 0 [(.l 0), (.l 0), (.a 0), (.a 1), (.a 2), (.a 3), (.a 4), (.a 5), (.a 6), (.a 7)] [] [(.va 0)])
def a1e : PT :=
 (.ite (.lt (.a 1) (.l 6))
 (.call 45 [(.agg [(.int .i64 (.a 2)), (.int .i64 (.a 3)), (.int .i64 (.a 4)), (.int .i64 (.a 5)), (.int .i64 (.a 6)), (.int .i64 (.a 7)), (.int .i64 (.a 8)), (.int .i64 (.a 9)), (.va 0)]), (.int .i64 (.a 1))] [] [(.one .bool)]
 (.ite (.a 0)
  (.need (.and (.le (.l (-9223372036854775808)) (.add (.a 0) (.l 1))) (.le (.add (.a 0) (.l 1)) (.l 9223372036854775807)))
  (.need (.and (.le (.l (-9223372036854775808)) (.add (.a 1) (.l 1))) (.le (.add (.a 1) (.l 1)) (.l 9223372036854775807)))
  (.jump 0 [(.add (.a 0) (.l 1)), (.add (.a 1) (.l 1)), (.a 2), (.a 3), (.a 4), (.a 5), (.a 6), (.a 7), (.a 8), (.a 9)] [] [(.va 0)])))
  (.need (.and (.le (.l (-9223372036854775808)) (.add (.a 1) (.l 1))) (.le (.add (.a 1) (.l 1)) (.l 9223372036854775807)))
  (.jump 0 [(.a 0), (.add (.a 1) (.l 1)), (.a 2), (.a 3), (.a 4), (.a 5), (.a 6), (.a 7), (.a 8), (.a 9)] [] [(.va 0)]))))
 (.ite (.le (.a 0) (.l 2))
  (.call 46 [(.agg [(.int .i64 (.a 2)), (.int .i64 (.a 3)), (.int .i64 (.a 4)), (.int .i64 (.a 5)), (.int .i64 (.a 6)), (.int .i64 (.a 7)), (.int .i64 (.a 8)), (.int .i64 (.a 9)), (.va 0)]), (.int .i64 (.l 0))] [] [(.one (.int .i64))]
  (.ret false (.bool (.le (.a 10) (.l 14))) []))
  (.ret false (.bool (.t false)) [])))
def saleroomref13_Few_S : Sx.Sys := ⟨[(.sh (.agg [(.int .i64), (.int .i64), (.int .i64), (.int .i64), (.int .i64), (.int .i64), (.int .i64), (.int .i64), .val]))], a5s, [a1e], none, none⟩
def a8e : List Cfg := [{ todo := [(.code [false, false, true, false, true, true]), (.inLoop [false, false, true, false, true, true]), (.inBlock 0), (.code [true, true, true])], sl := [(.junk 0), (.ptr 0 0), (.junk 1), (.int .i64 (.a 0)), (.int .i64 (.a 1)), (.junk 2), (.junk 3), (.junk 4), (.junk 5), (.junk 6), (.junk 7), (.junk 8), (.junk 9), (.junk 10), .undef, .undef, .undef, .undef, .undef, .undef, .undef], H := [(.cells [(.int .i64 (.a 2)), (.int .i64 (.a 3)), (.int .i64 (.a 4)), (.int .i64 (.a 5)), (.int .i64 (.a 6)), (.int .i64 (.a 7)), (.int .i64 (.a 8)), (.int .i64 (.a 9)), (.va 0)] 26 false)], ni := 10, nb := 0, nv := 1, nj := 11 }]
theorem b0D : SysOk Try.prog 15 saleroomref13_Few_S := a0D (c := (cg [[false, false, true, false, true, true]] [] [] false false false true)) (a0w _ _ _ _ _ _ _ _ _) Try.func15 Try.call15 (by kernel_rfl) a8e saleroomref13_Few_S 5000 rfl (by kernel_rfl) (by kernel_rfl) rfl
def a5x : PT :=
 (.newM [(.int .i64 (.a 0)), (.int .i64 (.a 1)), (.int .i64 (.a 2)), (.int .i64 (.a 3)), (.int .i64 (.a 4)), (.int .i64 (.a 5)), (.int .i64 (.a 6)), (.int .i64 (.a 7)), (.va 0)] 26
 (.newM [(.int .i64 (.a 8)), (.int .i64 (.a 9)), (.int .i64 (.a 10)), (.int .i64 (.a 11)), (.int .i64 (.a 12)), (.int .i64 (.a 13))] 23
 (.mkQ
 (.load false (.pa 1 0) [(.int .i64)]
 (.ite (.eq (.a 14) (.l 1))
 (.load false (.pa 2 0) [(.int .i64), (.int .i64), (.int .i64), (.int .i64), (.int .i64), (.int .i64)]
 (.load false (.pa 1 1) [(.int .i64), (.int .i64), (.int .i64), (.int .i64), (.int .i64), (.int .i64)]
 (.load false (.pa 1 7) [(.int .i64)]
 (.call 75 [(.va 3), (.agg [(.int .i64 (.a 15)), (.int .i64 (.a 16)), (.int .i64 (.a 17)), (.int .i64 (.a 18)), (.int .i64 (.a 19)), (.int .i64 (.a 20))]), (.agg [(.int .i64 (.a 21)), (.int .i64 (.a 22)), (.int .i64 (.a 23)), (.int .i64 (.a 24)), (.int .i64 (.a 25)), (.int .i64 (.a 26))]), (.int .i64 (.a 27))] [] []
 (.ret true (.va 3) [])))))
 (.ite (.eq (.a 14) (.l 2))
  (.load false (.pa 1 8) [.val]
  (.need (.is 0 4)
  (.jump 0 [(.slen 4), (.l 0)] [] [(.va 2), (.va 3), (.va 1)])))
  (.ite (.eq (.a 14) (.l 3))
  (.load false (.pa 1 8) [.val]
  (.need (.is 0 4)
  (.jump 1 [(.slen 4), (.l 0)] [] [(.va 2), (.va 3), (.va 1)])))
  (.ite (.eq (.a 14) (.l 4))
   (.call 74 [(.int .i64 (.l 0)), (.pa 1 0), (.pa 2 0)] [] [(.one .val)]
   (.load false (.pa 2 0) [(.int .i64), (.int .i64), (.int .i64), (.int .i64), (.int .i64), (.int .i64)]
   (.call 76 [(.va 3), (.agg [(.int .i64 (.a 15)), (.int .i64 (.a 16)), (.int .i64 (.a 17)), (.int .i64 (.a 18)), (.int .i64 (.a 19)), (.int .i64 (.a 20))]), (.va 4)] [] []
   (.load false (.pa 2 0) [(.int .i64), (.int .i64), (.int .i64), (.int .i64), (.int .i64), (.int .i64)]
   (.load false (.pa 1 1) [(.int .i64), (.int .i64), (.int .i64), (.int .i64), (.int .i64), (.int .i64)]
   (.load false (.pa 1 7) [(.int .i64)]
   (.call 75 [(.va 3), (.agg [(.int .i64 (.a 21)), (.int .i64 (.a 22)), (.int .i64 (.a 23)), (.int .i64 (.a 24)), (.int .i64 (.a 25)), (.int .i64 (.a 26))]), (.agg [(.int .i64 (.a 27)), (.int .i64 (.a 28)), (.int .i64 (.a 29)), (.int .i64 (.a 30)), (.int .i64 (.a 31)), (.int .i64 (.a 32))]), (.int .i64 (.a 33))] [] []
   (.rng 4
   (.jump 2 [] [] [(.va 1), (.va 2), (.va 3), (.va 5)])))))))))
   (.ite (.eq (.a 14) (.l 5))
   (.call 74 [(.int .i64 (.l 0)), (.pa 1 0), (.pa 2 0)] [] [(.one .val)]
   (.rng 4
   (.jump 3 [] [] [(.va 1), (.va 2), (.va 3), (.va 5)])))
   (.ret true (.va 3) []))))))))))
def b1y : PT :=
 (.load false (.pa 0 0) [(.int .i64), (.int .i64), (.int .i64), (.int .i64), (.int .i64), (.int .i64)]
  (.call 74 [(.int .i64 (.a 1)), (.pa 2 0), (.pa 0 0)] [] [(.one .val)]
  (.call 76 [(.va 1), (.agg [(.int .i64 (.a 2)), (.int .i64 (.a 3)), (.int .i64 (.a 4)), (.int .i64 (.a 5)), (.int .i64 (.a 6)), (.int .i64 (.a 7))]), (.va 3)] [] []
  (.need (.and (.le (.l (-9223372036854775808)) (.add (.a 1) (.l 1))) (.le (.add (.a 1) (.l 1)) (.l 9223372036854775807)))
  (.jump 0 [(.a 0), (.add (.a 1) (.l 1))] [] [(.va 0), (.va 1), (.va 2)])))))
def b1X : PT :=
 (.call 74 [(.int .i64 (.a 1)), (.pa 2 0), (.pa 0 0)] [] [(.one .val)]
  (.load false (.pa 0 0) [(.int .i64), (.int .i64), (.int .i64), (.int .i64), (.int .i64), (.int .i64)]
  (.call 76 [(.va 1), (.agg [(.int .i64 (.a 2)), (.int .i64 (.a 3)), (.int .i64 (.a 4)), (.int .i64 (.a 5)), (.int .i64 (.a 6)), (.int .i64 (.a 7))]), (.va 3)] [] []
  (.need (.and (.le (.l (-9223372036854775808)) (.add (.a 1) (.l 1))) (.le (.add (.a 1) (.l 1)) (.l 9223372036854775807)))
  (.jump 0 [(.a 0), (.add (.a 1) (.l 1))] [] [(.va 0), (.va 1), (.va 2)])))))
def a7S : PT :=
 (.ite (.lt (.a 1) (.a 0))
 (.both b1y b1X)
 (.ret true (.va 1) []))
def b1q : PT :=
 (.load false (.pa 0 0) [(.int .i64), (.int .i64), (.int .i64), (.int .i64), (.int .i64), (.int .i64)]
  (.call 74 [(.int .i64 (.a 1)), (.pa 2 0), (.pa 0 0)] [] [(.one .val)]
  (.call 77 [(.agg [(.int .i64 (.a 2)), (.int .i64 (.a 3)), (.int .i64 (.a 4)), (.int .i64 (.a 5)), (.int .i64 (.a 6)), (.int .i64 (.a 7))]), (.va 1), (.va 3)] [] [(.one .val)]
  (.need (.and (.le (.l (-9223372036854775808)) (.add (.a 1) (.l 1))) (.le (.add (.a 1) (.l 1)) (.l 9223372036854775807)))
  (.jump 1 [(.a 0), (.add (.a 1) (.l 1))] [] [(.va 0), (.va 4), (.va 2)])))))
def b1L : PT :=
 (.call 74 [(.int .i64 (.a 1)), (.pa 2 0), (.pa 0 0)] [] [(.one .val)]
  (.load false (.pa 0 0) [(.int .i64), (.int .i64), (.int .i64), (.int .i64), (.int .i64), (.int .i64)]
  (.call 77 [(.agg [(.int .i64 (.a 2)), (.int .i64 (.a 3)), (.int .i64 (.a 4)), (.int .i64 (.a 5)), (.int .i64 (.a 6)), (.int .i64 (.a 7))]), (.va 1), (.va 3)] [] [(.one .val)]
  (.need (.and (.le (.l (-9223372036854775808)) (.add (.a 1) (.l 1))) (.le (.add (.a 1) (.l 1)) (.l 9223372036854775807)))
  (.jump 1 [(.a 0), (.add (.a 1) (.l 1))] [] [(.va 0), (.va 4), (.va 2)])))))
def a7Z : PT :=
 (.ite (.lt (.a 1) (.a 0))
 (.both b1q b1L)
 (.ret true (.va 1) []))
def b1s : PT :=
 (.call 78 [(.agg [(.int .i64 (.a 7)), (.int .i64 (.a 8)), (.int .i64 (.a 9)), (.int .i64 (.a 10)), (.int .i64 (.a 11)), (.int .i64 (.a 12))]), (.agg [(.int .i64 (.a 20)), (.int .i64 (.a 21)), (.int .i64 (.a 22)), (.int .i64 (.a 23)), (.int .i64 (.a 24)), (.int .i64 (.a 25))])] [] [(.agg [(.int .i64), (.int .i64), (.int .i64), (.int .i64), (.int .i64), (.int .i64)])]
   (.load false (.pa 0 7) [(.int .i64)]
   (.need (.and (.le (.l (-9223372036854775808)) (.add (.a 13) (.a 32))) (.le (.add (.a 13) (.a 32)) (.l 9223372036854775807)))
   (.call 75 [(.va 2), (.agg [(.int .i64 (.a 14)), (.int .i64 (.a 15)), (.int .i64 (.a 16)), (.int .i64 (.a 17)), (.int .i64 (.a 18)), (.int .i64 (.a 19))]), (.agg [(.int .i64 (.a 26)), (.int .i64 (.a 27)), (.int .i64 (.a 28)), (.int .i64 (.a 29)), (.int .i64 (.a 30)), (.int .i64 (.a 31))]), (.int .i64 (.add (.a 13) (.a 32)))] [] []
   (.jump 2 [] [] [(.va 0), (.va 1), (.va 2), (.va 3)])))))
def b1v : PT :=
 (.load false (.pa 0 7) [(.int .i64)]
   (.need (.and (.le (.l (-9223372036854775808)) (.add (.a 13) (.a 26))) (.le (.add (.a 13) (.a 26)) (.l 9223372036854775807)))
   (.call 78 [(.agg [(.int .i64 (.a 7)), (.int .i64 (.a 8)), (.int .i64 (.a 9)), (.int .i64 (.a 10)), (.int .i64 (.a 11)), (.int .i64 (.a 12))]), (.agg [(.int .i64 (.a 20)), (.int .i64 (.a 21)), (.int .i64 (.a 22)), (.int .i64 (.a 23)), (.int .i64 (.a 24)), (.int .i64 (.a 25))])] [] [(.agg [(.int .i64), (.int .i64), (.int .i64), (.int .i64), (.int .i64), (.int .i64)])]
   (.call 75 [(.va 2), (.agg [(.int .i64 (.a 14)), (.int .i64 (.a 15)), (.int .i64 (.a 16)), (.int .i64 (.a 17)), (.int .i64 (.a 18)), (.int .i64 (.a 19))]), (.agg [(.int .i64 (.a 27)), (.int .i64 (.a 28)), (.int .i64 (.a 29)), (.int .i64 (.a 30)), (.int .i64 (.a 31)), (.int .i64 (.a 32))]), (.int .i64 (.add (.a 13) (.a 26)))] [] []
   (.jump 2 [] [] [(.va 0), (.va 1), (.va 2), (.va 3)])))))
def b1P : PT :=
 (.load false (.pa 0 1) [(.int .i64), (.int .i64), (.int .i64), (.int .i64), (.int .i64), (.int .i64)]
  (.both b1s b1v))
def b2k : PT :=
 (.load false (.pa 0 7) [(.int .i64)]
  (.need (.and (.le (.l (-9223372036854775808)) (.add (.a 13) (.a 20))) (.le (.add (.a 13) (.a 20)) (.l 9223372036854775807)))
  (.load false (.pa 0 1) [(.int .i64), (.int .i64), (.int .i64), (.int .i64), (.int .i64), (.int .i64)]
  (.call 78 [(.agg [(.int .i64 (.a 7)), (.int .i64 (.a 8)), (.int .i64 (.a 9)), (.int .i64 (.a 10)), (.int .i64 (.a 11)), (.int .i64 (.a 12))]), (.agg [(.int .i64 (.a 21)), (.int .i64 (.a 22)), (.int .i64 (.a 23)), (.int .i64 (.a 24)), (.int .i64 (.a 25)), (.int .i64 (.a 26))])] [] [(.agg [(.int .i64), (.int .i64), (.int .i64), (.int .i64), (.int .i64), (.int .i64)])]
  (.call 75 [(.va 2), (.agg [(.int .i64 (.a 14)), (.int .i64 (.a 15)), (.int .i64 (.a 16)), (.int .i64 (.a 17)), (.int .i64 (.a 18)), (.int .i64 (.a 19))]), (.agg [(.int .i64 (.a 27)), (.int .i64 (.a 28)), (.int .i64 (.a 29)), (.int .i64 (.a 30)), (.int .i64 (.a 31)), (.int .i64 (.a 32))]), (.int .i64 (.add (.a 13) (.a 20)))] [] []
  (.jump 2 [] [] [(.va 0), (.va 1), (.va 2), (.va 3)]))))))
def b1N : PT :=
 (.load false (.pa 1 0) [(.int .i64), (.int .i64), (.int .i64), (.int .i64), (.int .i64), (.int .i64)]
  (.both b1P b2k))
def b1E : PT :=
 (.call 78 [(.agg [(.int .i64 (.a 7)), (.int .i64 (.a 8)), (.int .i64 (.a 9)), (.int .i64 (.a 10)), (.int .i64 (.a 11)), (.int .i64 (.a 12))]), (.agg [(.int .i64 (.a 14)), (.int .i64 (.a 15)), (.int .i64 (.a 16)), (.int .i64 (.a 17)), (.int .i64 (.a 18)), (.int .i64 (.a 19))])] [] [(.agg [(.int .i64), (.int .i64), (.int .i64), (.int .i64), (.int .i64), (.int .i64)])]
   (.load false (.pa 0 7) [(.int .i64)]
   (.need (.and (.le (.l (-9223372036854775808)) (.add (.a 13) (.a 32))) (.le (.add (.a 13) (.a 32)) (.l 9223372036854775807)))
   (.call 75 [(.va 2), (.agg [(.int .i64 (.a 20)), (.int .i64 (.a 21)), (.int .i64 (.a 22)), (.int .i64 (.a 23)), (.int .i64 (.a 24)), (.int .i64 (.a 25))]), (.agg [(.int .i64 (.a 26)), (.int .i64 (.a 27)), (.int .i64 (.a 28)), (.int .i64 (.a 29)), (.int .i64 (.a 30)), (.int .i64 (.a 31))]), (.int .i64 (.add (.a 13) (.a 32)))] [] []
   (.jump 2 [] [] [(.va 0), (.va 1), (.va 2), (.va 3)])))))
def b1k : PT :=
 (.load false (.pa 0 7) [(.int .i64)]
   (.need (.and (.le (.l (-9223372036854775808)) (.add (.a 13) (.a 26))) (.le (.add (.a 13) (.a 26)) (.l 9223372036854775807)))
   (.call 78 [(.agg [(.int .i64 (.a 7)), (.int .i64 (.a 8)), (.int .i64 (.a 9)), (.int .i64 (.a 10)), (.int .i64 (.a 11)), (.int .i64 (.a 12))]), (.agg [(.int .i64 (.a 14)), (.int .i64 (.a 15)), (.int .i64 (.a 16)), (.int .i64 (.a 17)), (.int .i64 (.a 18)), (.int .i64 (.a 19))])] [] [(.agg [(.int .i64), (.int .i64), (.int .i64), (.int .i64), (.int .i64), (.int .i64)])]
   (.call 75 [(.va 2), (.agg [(.int .i64 (.a 20)), (.int .i64 (.a 21)), (.int .i64 (.a 22)), (.int .i64 (.a 23)), (.int .i64 (.a 24)), (.int .i64 (.a 25))]), (.agg [(.int .i64 (.a 27)), (.int .i64 (.a 28)), (.int .i64 (.a 29)), (.int .i64 (.a 30)), (.int .i64 (.a 31)), (.int .i64 (.a 32))]), (.int .i64 (.add (.a 13) (.a 26)))] [] []
   (.jump 2 [] [] [(.va 0), (.va 1), (.va 2), (.va 3)])))))
def b1Y : PT :=
 (.load false (.pa 1 0) [(.int .i64), (.int .i64), (.int .i64), (.int .i64), (.int .i64), (.int .i64)]
   (.both b1E b1k))
def b2b : PT :=
 (.call 78 [(.agg [(.int .i64 (.a 7)), (.int .i64 (.a 8)), (.int .i64 (.a 9)), (.int .i64 (.a 10)), (.int .i64 (.a 11)), (.int .i64 (.a 12))]), (.agg [(.int .i64 (.a 14)), (.int .i64 (.a 15)), (.int .i64 (.a 16)), (.int .i64 (.a 17)), (.int .i64 (.a 18)), (.int .i64 (.a 19))])] [] [(.agg [(.int .i64), (.int .i64), (.int .i64), (.int .i64), (.int .i64), (.int .i64)])]
   (.load false (.pa 0 7) [(.int .i64)]
   (.need (.and (.le (.l (-9223372036854775808)) (.add (.a 13) (.a 26))) (.le (.add (.a 13) (.a 26)) (.l 9223372036854775807)))
   (.load false (.pa 1 0) [(.int .i64), (.int .i64), (.int .i64), (.int .i64), (.int .i64), (.int .i64)]
   (.call 75 [(.va 2), (.agg [(.int .i64 (.a 27)), (.int .i64 (.a 28)), (.int .i64 (.a 29)), (.int .i64 (.a 30)), (.int .i64 (.a 31)), (.int .i64 (.a 32))]), (.agg [(.int .i64 (.a 20)), (.int .i64 (.a 21)), (.int .i64 (.a 22)), (.int .i64 (.a 23)), (.int .i64 (.a 24)), (.int .i64 (.a 25))]), (.int .i64 (.add (.a 13) (.a 26)))] [] []
   (.jump 2 [] [] [(.va 0), (.va 1), (.va 2), (.va 3)]))))))
def b0Z : PT :=
 (.load false (.pa 1 0) [(.int .i64), (.int .i64), (.int .i64), (.int .i64), (.int .i64), (.int .i64)]
    (.call 78 [(.agg [(.int .i64 (.a 7)), (.int .i64 (.a 8)), (.int .i64 (.a 9)), (.int .i64 (.a 10)), (.int .i64 (.a 11)), (.int .i64 (.a 12))]), (.agg [(.int .i64 (.a 14)), (.int .i64 (.a 15)), (.int .i64 (.a 16)), (.int .i64 (.a 17)), (.int .i64 (.a 18)), (.int .i64 (.a 19))])] [] [(.agg [(.int .i64), (.int .i64), (.int .i64), (.int .i64), (.int .i64), (.int .i64)])]
    (.call 75 [(.va 2), (.agg [(.int .i64 (.a 21)), (.int .i64 (.a 22)), (.int .i64 (.a 23)), (.int .i64 (.a 24)), (.int .i64 (.a 25)), (.int .i64 (.a 26))]), (.agg [(.int .i64 (.a 27)), (.int .i64 (.a 28)), (.int .i64 (.a 29)), (.int .i64 (.a 30)), (.int .i64 (.a 31)), (.int .i64 (.a 32))]), (.int .i64 (.add (.a 13) (.a 20)))] [] []
    (.jump 2 [] [] [(.va 0), (.va 1), (.va 2), (.va 3)]))))
def b1b : PT :=
 (.call 78 [(.agg [(.int .i64 (.a 7)), (.int .i64 (.a 8)), (.int .i64 (.a 9)), (.int .i64 (.a 10)), (.int .i64 (.a 11)), (.int .i64 (.a 12))]), (.agg [(.int .i64 (.a 14)), (.int .i64 (.a 15)), (.int .i64 (.a 16)), (.int .i64 (.a 17)), (.int .i64 (.a 18)), (.int .i64 (.a 19))])] [] [(.agg [(.int .i64), (.int .i64), (.int .i64), (.int .i64), (.int .i64), (.int .i64)])]
    (.load false (.pa 1 0) [(.int .i64), (.int .i64), (.int .i64), (.int .i64), (.int .i64), (.int .i64)]
    (.call 75 [(.va 2), (.agg [(.int .i64 (.a 27)), (.int .i64 (.a 28)), (.int .i64 (.a 29)), (.int .i64 (.a 30)), (.int .i64 (.a 31)), (.int .i64 (.a 32))]), (.agg [(.int .i64 (.a 21)), (.int .i64 (.a 22)), (.int .i64 (.a 23)), (.int .i64 (.a 24)), (.int .i64 (.a 25)), (.int .i64 (.a 26))]), (.int .i64 (.add (.a 13) (.a 20)))] [] []
    (.jump 2 [] [] [(.va 0), (.va 1), (.va 2), (.va 3)]))))
def b0X : PT :=
 (.load false (.pa 0 7) [(.int .i64)]
   (.need (.and (.le (.l (-9223372036854775808)) (.add (.a 13) (.a 20))) (.le (.add (.a 13) (.a 20)) (.l 9223372036854775807)))
   (.both b0Z b1b)))
def b0W : PT :=
 (.both b2b b0X)
def b1d : PT :=
 (.load false (.pa 0 1) [(.int .i64), (.int .i64), (.int .i64), (.int .i64), (.int .i64), (.int .i64)]
  (.both b1Y b0W))
def b1g : PT :=
 (.load false (.pa 1 0) [(.int .i64), (.int .i64), (.int .i64), (.int .i64), (.int .i64), (.int .i64)]
   (.call 78 [(.agg [(.int .i64 (.a 7)), (.int .i64 (.a 8)), (.int .i64 (.a 9)), (.int .i64 (.a 10)), (.int .i64 (.a 11)), (.int .i64 (.a 12))]), (.agg [(.int .i64 (.a 15)), (.int .i64 (.a 16)), (.int .i64 (.a 17)), (.int .i64 (.a 18)), (.int .i64 (.a 19)), (.int .i64 (.a 20))])] [] [(.agg [(.int .i64), (.int .i64), (.int .i64), (.int .i64), (.int .i64), (.int .i64)])]
   (.call 75 [(.va 2), (.agg [(.int .i64 (.a 21)), (.int .i64 (.a 22)), (.int .i64 (.a 23)), (.int .i64 (.a 24)), (.int .i64 (.a 25)), (.int .i64 (.a 26))]), (.agg [(.int .i64 (.a 27)), (.int .i64 (.a 28)), (.int .i64 (.a 29)), (.int .i64 (.a 30)), (.int .i64 (.a 31)), (.int .i64 (.a 32))]), (.int .i64 (.add (.a 13) (.a 14)))] [] []
   (.jump 2 [] [] [(.va 0), (.va 1), (.va 2), (.va 3)]))))
def b1a : PT :=
 (.call 78 [(.agg [(.int .i64 (.a 7)), (.int .i64 (.a 8)), (.int .i64 (.a 9)), (.int .i64 (.a 10)), (.int .i64 (.a 11)), (.int .i64 (.a 12))]), (.agg [(.int .i64 (.a 15)), (.int .i64 (.a 16)), (.int .i64 (.a 17)), (.int .i64 (.a 18)), (.int .i64 (.a 19)), (.int .i64 (.a 20))])] [] [(.agg [(.int .i64), (.int .i64), (.int .i64), (.int .i64), (.int .i64), (.int .i64)])]
   (.load false (.pa 1 0) [(.int .i64), (.int .i64), (.int .i64), (.int .i64), (.int .i64), (.int .i64)]
   (.call 75 [(.va 2), (.agg [(.int .i64 (.a 27)), (.int .i64 (.a 28)), (.int .i64 (.a 29)), (.int .i64 (.a 30)), (.int .i64 (.a 31)), (.int .i64 (.a 32))]), (.agg [(.int .i64 (.a 21)), (.int .i64 (.a 22)), (.int .i64 (.a 23)), (.int .i64 (.a 24)), (.int .i64 (.a 25)), (.int .i64 (.a 26))]), (.int .i64 (.add (.a 13) (.a 14)))] [] []
   (.jump 2 [] [] [(.va 0), (.va 1), (.va 2), (.va 3)]))))
def b1c : PT :=
 (.load false (.pa 0 7) [(.int .i64)]
  (.need (.and (.le (.l (-9223372036854775808)) (.add (.a 13) (.a 14))) (.le (.add (.a 13) (.a 14)) (.l 9223372036854775807)))
  (.load false (.pa 0 1) [(.int .i64), (.int .i64), (.int .i64), (.int .i64), (.int .i64), (.int .i64)]
  (.both b1g b1a))))
def b1f : PT :=
 (.both b1d b1c)
def a7W : PT :=
 (.next 3 6
 (.ret true (.va 2) [])
 (.entry 3 6
 (.both b1N b1f)))
def a7V : PT :=
 (.next 3 6
 (.ret true (.va 2) [])
 (.entry 3 6
 (.load false (.pa 1 0) [(.int .i64), (.int .i64), (.int .i64), (.int .i64), (.int .i64), (.int .i64)]
 (.load false (.pa 0 7) [(.int .i64)]
 (.call 75 [(.va 2), (.agg [(.int .i64 (.a 14)), (.int .i64 (.a 15)), (.int .i64 (.a 16)), (.int .i64 (.a 17)), (.int .i64 (.a 18)), (.int .i64 (.a 19))]), (.agg [(.int .i64 (.a 7)), (.int .i64 (.a 8)), (.int .i64 (.a 9)), (.int .i64 (.a 10)), (.int .i64 (.a 11)), (.int .i64 (.a 12))]), (.int .i64 (.mn (.a 13) (.a 20)))] [] []
 (.jump 3 [] [] [(.va 0), (.va 1), (.va 2), (.va 3)]))))))
def valuation_of_S : Sx.Sys := ⟨[(.sh (.agg [(.int .i64), (.int .i64), (.int .i64), (.int .i64), (.int .i64), (.int .i64), (.int .i64), (.int .i64), .val])), (.sh (.agg [(.int .i64), (.int .i64), (.int .i64), (.int .i64), (.int .i64), (.int .i64)]))], a5x, [a7S, a7Z, a7W, a7V], none, none⟩
def b2P : List Cfg := [{ todo := [(.code [false, false, true, false, true, true, true, false, true, false, true, true, true]), (.inLoop [false, false, true, false, true, true, true, false, true, false, true, true, true]), (.inBlock 1), (.inBlock 0), (.code [true, true, true, true])], sl := [(.junk 0), (.junk 1), (.junk 2), (.pa 0 0), (.junk 3), (.va 1), (.fn 74 0 [(.pa 2 0), (.pa 0 0)]), (.junk 4), .undef, .undef, .undef, .undef, .undef, .undef, (.junk 5), (.junk 6), (.junk 7), (.junk 8), (.junk 9), (.junk 10), .undef, .undef, .undef, .undef, .undef, .undef, .undef, (.junk 11), (.junk 12), (.junk 13), (.junk 14), (.int .i64 (.a 0)), (.int .i64 (.a 1)), (.junk 15), (.junk 16), (.junk 17), (.junk 18), (.junk 19), (.junk 20), (.junk 21), (.junk 22), (.junk 23), .undef, .undef, .undef, .undef, .undef, .undef, .undef, .undef, .undef, .undef, .undef, .undef, .undef, .undef, .undef, .undef, .undef, .undef, .undef, .undef, .undef, .undef, .undef, .undef, .undef, .undef, .undef, .undef, .undef, .undef, .undef, .undef, .undef, .undef, .undef, .undef, .undef, .undef, .undef, .undef, .undef, .undef, .undef, .undef, .undef, .undef, .undef, .undef, .undef, .undef, .undef, .undef, .undef, .undef, .undef, .undef, .undef, .undef, .undef, .undef, .undef, .undef, .undef, .undef, .undef, .undef, .undef], H := [], ni := 2, nb := 0, nv := 3, nj := 24 },
 { todo := [(.code [false, false, true, false, true, true, true, true, true, false, true, false, true, true, true]), (.inLoop [false, false, true, false, true, true, true, true, true, false, true, false, true, true, true]), (.inBlock 3), (.inBlock 0), (.code [true, true, true, true])], sl := [(.junk 0), (.junk 1), (.junk 2), (.pa 0 0), (.junk 3), (.va 1), (.fn 74 0 [(.pa 2 0), (.pa 0 0)]), .undef, (.junk 4), .undef, .undef, .undef, .undef, .undef, (.junk 5), (.junk 6), (.junk 7), (.junk 8), (.junk 9), (.junk 10), .undef, .undef, .undef, .undef, .undef, .undef, .undef, (.junk 11), (.junk 12), .undef, .undef, .undef, .undef, .undef, .undef, .undef, .undef, .undef, .undef, .undef, .undef, .undef, (.junk 13), (.junk 14), (.junk 15), (.junk 16), (.int .i64 (.a 0)), (.int .i64 (.a 1)), (.junk 17), (.junk 18), (.junk 19), (.junk 20), (.junk 21), (.junk 22), (.junk 23), (.junk 24), (.junk 25), .undef, .undef, .undef, .undef, .undef, .undef, .undef, .undef, .undef, .undef, .undef, .undef, .undef, .undef, .undef, .undef, .undef, .undef, .undef, .undef, .undef, .undef, .undef, .undef, .undef, .undef, .undef, .undef, .undef, .undef, .undef, .undef, .undef, .undef, .undef, .undef, .undef, .undef, .undef, .undef, .undef, .undef, .undef, .undef, .undef, .undef, .undef, .undef, .undef, .undef, .undef, .undef], H := [], ni := 2, nb := 0, nv := 3, nj := 26 },
 { todo := [(.code [false, false, true, true, true, true, false, true, true, true, true, true, true, true, false, true, false, true, true, true]), (.inLoop [false, false, true, true, true, true, false, true, true, true, true, true, true, true, false, true, false, true, true, true]), (.inBlock 5), (.inBlock 0), (.code [true, true, true, true])], sl := [(.junk 0), (.junk 1), (.pa 0 0), (.pa 1 0), (.junk 2), (.va 2), (.junk 3), .undef, .undef, (.junk 4), (.junk 5), (.junk 6), .undef, .undef, (.junk 7), (.junk 8), (.junk 9), (.junk 10), (.junk 11), (.junk 12), .undef, .undef, .undef, .undef, .undef, .undef, .undef, (.junk 13), (.junk 14), .undef, .undef, .undef, .undef, .undef, .undef, .undef, .undef, .undef, .undef, .undef, .undef, .undef, (.junk 15), (.junk 16), .undef, .undef, .undef, .undef, .undef, .undef, .undef, .undef, .undef, .undef, .undef, .undef, .undef, (.junk 17), (.junk 18), (.junk 19), (.junk 20), (.junk 21), (.junk 22), (.junk 23), (.junk 24), (.junk 25), (.junk 26), (.junk 27), (.junk 28), (.junk 29), (.junk 30), (.junk 31), (.junk 32), (.va 3), (.junk 33), (.junk 34), (.junk 35), (.junk 36), (.junk 37), (.junk 38), (.junk 39), (.junk 40), (.junk 41), (.junk 42), (.junk 43), (.junk 44), (.junk 45), (.junk 46), (.junk 47), (.junk 48), .undef, .undef, .undef, .undef, .undef, .undef, .undef, .undef, .undef, .undef, .undef, .undef, .undef, .undef, .undef, .undef, .undef, .undef, .undef], H := [], ni := 0, nb := 0, nv := 4, nj := 49 },
 { todo := [(.code [false, false, true, false, true, true, true, true, true, true, true, true, true, false, true, false, true, true, true]), (.inLoop [false, false, true, false, true, true, true, true, true, true, true, true, true, false, true, false, true, true, true]), (.inBlock 7), (.inBlock 0), (.code [true, true, true, true])], sl := [(.junk 0), (.junk 1), (.pa 0 0), (.pa 1 0), (.junk 2), (.va 2), (.junk 3), .undef, .undef, .undef, .undef, .undef, (.junk 4), (.junk 5), (.junk 6), (.junk 7), (.junk 8), (.junk 9), (.junk 10), (.junk 11), .undef, .undef, .undef, .undef, .undef, .undef, .undef, (.junk 12), (.junk 13), .undef, .undef, .undef, .undef, .undef, .undef, .undef, .undef, .undef, .undef, .undef, .undef, .undef, (.junk 14), (.junk 15), .undef, .undef, .undef, .undef, .undef, .undef, .undef, .undef, .undef, .undef, .undef, .undef, .undef, (.junk 16), (.junk 17), .undef, .undef, .undef, .undef, .undef, .undef, .undef, .undef, .undef, .undef, .undef, .undef, .undef, .undef, .undef, .undef, .undef, .undef, .undef, .undef, .undef, .undef, .undef, .undef, .undef, .undef, .undef, .undef, .undef, .undef, .undef, (.junk 18), (.junk 19), (.junk 20), (.junk 21), (.va 3), (.junk 22), (.junk 23), (.junk 24), (.junk 25), (.junk 26), (.junk 27), (.junk 28), (.junk 29), (.junk 30), (.junk 31), (.junk 32), (.junk 33), (.junk 34), .undef], H := [], ni := 0, nb := 0, nv := 4, nj := 35 }]
theorem b4n : SysIs Try.prog 49 valuation_of_S := b2i (c := (cg [[false, false, true, false, true, true, true, false, true, false, true, true, true], [false, false, true, false, true, true, true, true, true, false, true, false, true, true, true], [false, false, true, true, true, true, false, true, true, true, true, true, true, true, false, true, false, true, true, true], [false, false, true, false, true, true, true, true, true, true, true, true, true, false, true, false, true, true, true]] [2, 3] [(37, [65]), (52, [65]), (59, [65]), (92, [65])] true true false true)) (a0w _ _ _ _ _ _ _ _ _) Try.func49 Try.call49 (by kernel_rfl) b2P valuation_of_S 5000 rfl (by kernel_rfl) (by kernel_rfl)
def a5E : PT :=
 (.need (.is 0 0)
 (.ret false (.bool (.le (.slen 0) (.l 8))) []))
def expr_Check_1_S : Sx.Sys := ⟨[(.sh (.agg [(.int .i64), (.int .i64), (.int .i64), (.int .i64), (.int .i64), (.int .i64), (.int .i64), (.int .i64), .val]))], a5E, [], none, none⟩
def b2K : List Cfg := []
theorem b4O : SysOk Try.prog 66 expr_Check_1_S := a0D (c := (cg [] [] [] false false false true)) (a0w _ _ _ _ _ _ _ _ _) Try.func66 Try.call66 (by kernel_rfl) b2K expr_Check_1_S 5000 rfl (by kernel_rfl) (by kernel_rfl) rfl
def a4D : PT :=
 (.load false (.pa 0 8) [.val]
 (.need (.and (.le (.l 0) (.a 0)) (.lt (.a 0) (.slen 2)))
 (.load false (.ea 2 (.a 0) 9 0) [(.int .i64), (.int .i64), (.int .i64), (.int .i64), (.int .i64), (.int .i64), (.int .i64), (.int .i64), .val]
 (.load false (.pa 1 0) [(.int .i64), (.int .i64), (.int .i64), (.int .i64), (.int .i64), (.int .i64)]
 (.call 49 [(.agg [(.int .i64 (.a 1)), (.int .i64 (.a 2)), (.int .i64 (.a 3)), (.int .i64 (.a 4)), (.int .i64 (.a 5)), (.int .i64 (.a 6)), (.int .i64 (.a 7)), (.int .i64 (.a 8)), (.va 3)]), (.agg [(.int .i64 (.a 9)), (.int .i64 (.a 10)), (.int .i64 (.a 11)), (.int .i64 (.a 12)), (.int .i64 (.a 13)), (.int .i64 (.a 14))])] [] [(.one .val)]
 (.ret true (.va 4) []))))))
def valuation_of_1_S : Sx.Sys := ⟨[(.sh (.one (.int .i64))), .ptr, .ptr], a4D, [], none, none⟩
def b0Y : List Cfg := []
theorem a6t : SysOk Try.prog 74 valuation_of_1_S := a0D (c := (cg [] [] [] true true false true)) (a0w _ _ _ _ _ _ _ _ _) Try.func74 Try.call74 (by kernel_rfl) b0Y valuation_of_1_S 5000 rfl (by kernel_rfl) (by kernel_rfl) rfl
def expr_Size_1_s : PT :=
 (.load false (.pa 1 0) [(.int .i64)]
 (.need (.and (.le (.l (-9223372036854775808)) (.add (.a 8) (.l 1))) (.le (.add (.a 8) (.l 1)) (.l 9223372036854775807)))
 (.storeM (.pa 1 0) [(.int .i64 (.add (.a 8) (.l 1)))]
 (.ret true (.bool (.t true)) []))))
def expr_Size_1_S : Sx.Sys := ⟨[(.sh (.agg [(.int .i64), (.int .i64), (.int .i64), (.int .i64), (.int .i64), (.int .i64), (.int .i64), (.int .i64), .val])), .ptr], expr_Size_1_s, [], none, none⟩
def b3L : List Cfg := []
theorem b5h : SysOk Try.prog 90 expr_Size_1_S := a0D (c := (cg [] [] [] true true false true)) (a0w _ _ _ _ _ _ _ _ _) Try.func90 Try.call90 (by kernel_rfl) b3L expr_Size_1_S 5000 rfl (by kernel_rfl) (by kernel_rfl) rfl
end Go.Proofs.Ythmkfeiapdbojaa
set_option maxRecDepth 100000
namespace Go.Proofs.Ythmkfeiapdbojaa
open Go.Sx
def a2X : PT :=
 (.ite (.lt (.a 0) (.l 0))
 (.ret false (.int .i64 (.l 4)) [])
 (.ite (.lt (.l 4) (.a 0))
  (.ret false (.int .i64 (.l 4)) [])
  (.ite (.lt (.a 1) (.l 0))
  (.ret false (.int .i64 (.l 4)) [])
  (.ite (.lt (.l 4) (.a 1))
   (.ret false (.int .i64 (.l 4)) [])
   (.ite (.lt (.a 2) (.l 0))
   (.ret false (.int .i64 (.l 4)) [])
   (.ite (.lt (.l 4) (.a 2))
    (.ret false (.int .i64 (.l 4)) [])
    (.ite (.lt (.a 3) (.l 0))
    (.ret false (.int .i64 (.l 4)) [])
    (.ite (.lt (.l 4) (.a 3))
     (.ret false (.int .i64 (.l 4)) [])
     (.ite (.lt (.a 4) (.l 0))
     (.ret false (.int .i64 (.l 4)) [])
     (.ite (.lt (.l 4) (.a 4))
      (.ret false (.int .i64 (.l 4)) [])
      (.ite (.lt (.a 5) (.l 0))
      (.ret false (.int .i64 (.l 4)) [])
      (.ite (.lt (.l 4) (.a 5))
       (.ret false (.int .i64 (.l 4)) [])
       (.ret false (.int .i64 (.l 0)) [])))))))))))))
def saleroomref07_Check_S : Sx.Sys := ⟨[(.sh (.agg [(.int .i64), (.int .i64), (.int .i64), (.int .i64), (.int .i64), (.int .i64)]))], a2X, [], none, none⟩
def a7h : List Cfg := []
theorem a8p : SysOk Try.prog 16 saleroomref07_Check_S := a0D (c := (cg [] [] [] false false false true)) (a0w _ _ _ _ _ _ _ _ _) Try.func16 Try.call16 (by kernel_rfl) a7h saleroomref07_Check_S 5000 rfl (by kernel_rfl) (by kernel_rfl) rfl
def a7a : PT :=
 (.call 65 [(.agg [(.int .i64 (.a 0)), (.int .i64 (.a 1)), (.int .i64 (.a 2)), (.int .i64 (.a 3)), (.int .i64 (.a 4)), (.int .i64 (.a 5)), (.int .i64 (.a 6)), (.int .i64 (.a 7)), (.va 0)])] [] [(.one (.int .i64))]
 (.ite (.lt (.l 6) (.a 8))
 (.ret false (.int .i64 (.l 9)) [])
 (.call 67 [(.agg [(.fn 66 0 [])]), (.agg [(.int .i64 (.a 0)), (.int .i64 (.a 1)), (.int .i64 (.a 2)), (.int .i64 (.a 3)), (.int .i64 (.a 4)), (.int .i64 (.a 5)), (.int .i64 (.a 6)), (.int .i64 (.a 7)), (.va 0)])] [] [(.one .bool)]
 (.ite (.not (.a 0))
  (.ret false (.int .i64 (.l 3)) [])
  (.call 68 [(.agg [(.int .i64 (.a 0)), (.int .i64 (.a 1)), (.int .i64 (.a 2)), (.int .i64 (.a 3)), (.int .i64 (.a 4)), (.int .i64 (.a 5)), (.int .i64 (.a 6)), (.int .i64 (.a 7)), (.va 0)])] [] [(.one (.int .i64))]
  (.ite (.lt (.l 40) (.a 9))
  (.ret false (.int .i64 (.l 3)) [])
  (.newM [(.int .i64 (.l 0))] 28
  (.storeM (.pa 1 0) [(.int .i64 (.l 0))]
  (.call 67 [(.agg [(.fn 69 0 [(.pa 1 0)])]), (.agg [(.int .i64 (.a 0)), (.int .i64 (.a 1)), (.int .i64 (.a 2)), (.int .i64 (.a 3)), (.int .i64 (.a 4)), (.int .i64 (.a 5)), (.int .i64 (.a 6)), (.int .i64 (.a 7)), (.va 0)])] [] [(.one .bool)]
  (.load false (.pa 1 0) [(.int .i64)]
  (.ret false (.int .i64 (.a 10)) [])))))))))))
def expr_Check_S : Sx.Sys := ⟨[(.sh (.agg [(.int .i64), (.int .i64), (.int .i64), (.int .i64), (.int .i64), (.int .i64), (.int .i64), (.int .i64), .val]))], a7a, [], none, none⟩
def b4H : List Cfg := []
theorem b6Q : SysOk Try.prog 42 expr_Check_S := a0D (c := (cg [] [4] [] true false false true)) (a0w _ _ _ _ _ _ _ _ _) Try.func42 Try.call42 (by kernel_rfl) b4H expr_Check_S 5000 rfl (by kernel_rfl) (by kernel_rfl) rfl
def a3K : PT :=
 (.callv 0 [(.agg [(.int .i64 (.a 0)), (.int .i64 (.a 1)), (.int .i64 (.a 2)), (.int .i64 (.a 3)), (.int .i64 (.a 4)), (.int .i64 (.a 5)), (.int .i64 (.a 6)), (.int .i64 (.a 7)), (.va 1)])] [(.one .bool)]
 (.ite (.not (.a 0))
 (.ret true (.bool (.t false)) [])
 (.need (.is 0 1)
 (.jump 0 [(.slen 1), (.l 0)] [] [(.va 1), (.va 0)]))))
def a3E : PT :=
 (.ite (.lt (.a 1) (.a 0))
 (.need (.and (.le (.l 0) (.a 1)) (.lt (.a 1) (.slen 0)))
 (.load false (.ea 0 (.a 1) 9 0) [(.int .i64), (.int .i64), (.int .i64), (.int .i64), (.int .i64), (.int .i64), (.int .i64), (.int .i64), .val]
 (.call 67 [(.agg [(.va 1)]), (.agg [(.int .i64 (.a 2)), (.int .i64 (.a 3)), (.int .i64 (.a 4)), (.int .i64 (.a 5)), (.int .i64 (.a 6)), (.int .i64 (.a 7)), (.int .i64 (.a 8)), (.int .i64 (.a 9)), (.va 2)])] [] [(.one .bool)]
 (.ite (.not (.a 0))
  (.ret true (.bool (.t false)) [])
  (.need (.and (.le (.l (-9223372036854775808)) (.add (.a 1) (.l 1))) (.le (.add (.a 1) (.l 1)) (.l 9223372036854775807)))
  (.jump 0 [(.a 0), (.add (.a 1) (.l 1))] [] [(.va 0), (.va 1)]))))))
 (.ret true (.bool (.t true)) []))
def expr_walker_walk_S : Sx.Sys := ⟨[(.sh (.agg [.val])), (.sh (.agg [(.int .i64), (.int .i64), (.int .i64), (.int .i64), (.int .i64), (.int .i64), (.int .i64), (.int .i64), .val]))], a3K, [a3E], none, none⟩
def a9i : List Cfg := [{ todo := [(.code [false, false, true, false, true, true]), (.inLoop [false, false, true, false, true, true]), (.inBlock 0), (.code [true, true, true])], sl := [(.junk 0), (.junk 1), (.ptr 0 0), (.junk 2), (.junk 3), .undef, (.junk 4), (.junk 5), (.junk 6), (.junk 7), (.junk 8), (.junk 9), (.junk 10), (.va 0), (.int .i64 (.a 0)), (.int .i64 (.a 1)), (.junk 11), (.junk 12), (.junk 13), (.junk 14), (.junk 15), (.junk 16), (.junk 17), (.junk 18)], H := [(.cells [(.va 1)] 79 false)], ni := 2, nb := 0, nv := 2, nj := 19 }]
theorem b1h : SysOk Try.prog 67 expr_walker_walk_S := a0D (c := (cg [[false, false, true, false, true, true]] [] [(8, [4])] false true false true)) (a0w _ _ _ _ _ _ _ _ _) Try.func67 Try.call67 (by kernel_rfl) a9i expr_walker_walk_S 5000 rfl (by kernel_rfl) (by kernel_rfl) rfl
def a2v : PT :=
 (.qGet 0 [(.a 6), (.a 7), (.a 8), (.a 9), (.a 10), (.a 11)] false
 (.ite (.lt (.a 13) (.mn (.a 12) (.l 1000000)))
 (.call 62 [(.agg [(.int .i64 (.a 6)), (.int .i64 (.a 7)), (.int .i64 (.a 8)), (.int .i64 (.a 9)), (.int .i64 (.a 10)), (.int .i64 (.a 11))]), (.agg [(.int .i64 (.a 0)), (.int .i64 (.a 1)), (.int .i64 (.a 2)), (.int .i64 (.a 3)), (.int .i64 (.a 4)), (.int .i64 (.a 5))])] [] [(.one .bool)]
 (.ite (.a 0)
  (.qSet 0 [(.a 6), (.a 7), (.a 8), (.a 9), (.a 10), (.a 11)] (.mn (.a 12) (.l 1000000))
  (.ret false (.tup []) []))
  (.ret false (.tup []) [])))
 (.ret false (.tup []) [])))
def valuation_worths_raise_S : Sx.Sys := ⟨[(.sh (.one .val)), (.sh (.agg [(.int .i64), (.int .i64), (.int .i64), (.int .i64), (.int .i64), (.int .i64)])), (.sh (.agg [(.int .i64), (.int .i64), (.int .i64), (.int .i64), (.int .i64), (.int .i64)])), (.sh (.one (.int .i64)))], a2v, [], none, none⟩
def a5X : List Cfg := []
theorem a3G : SysOk Try.prog 75 valuation_worths_raise_S := a0D (c := (cg [] [] [] false false false true)) (a0w _ _ _ _ _ _ _ _ _) Try.func75 Try.call75 (by kernel_rfl) a5X valuation_worths_raise_S 5000 rfl (by kernel_rfl) (by kernel_rfl) rfl
def a5z : PT :=
 (.need (.and (.le (.l (-9223372036854775808)) (.a 0)) (.le (.a 0) (.l 9223372036854775807)))
 (.need (.and (.le (.l (-9223372036854775808)) (.add (.a 0) (.a 1))) (.le (.add (.a 0) (.a 1)) (.l 9223372036854775807)))
 (.need (.and (.le (.l (-9223372036854775808)) (.add (.add (.a 0) (.a 1)) (.a 2))) (.le (.add (.add (.a 0) (.a 1)) (.a 2)) (.l 9223372036854775807)))
 (.need (.and (.le (.l (-9223372036854775808)) (.add (.add (.add (.a 0) (.a 1)) (.a 2)) (.a 3))) (.le (.add (.add (.add (.a 0) (.a 1)) (.a 2)) (.a 3)) (.l 9223372036854775807)))
 (.need (.and (.le (.l (-9223372036854775808)) (.add (.add (.add (.add (.a 0) (.a 1)) (.a 2)) (.a 3)) (.a 4))) (.le (.add (.add (.add (.add (.a 0) (.a 1)) (.a 2)) (.a 3)) (.a 4)) (.l 9223372036854775807)))
 (.need (.and (.le (.l (-9223372036854775808)) (.add (.add (.add (.add (.add (.a 0) (.a 1)) (.a 2)) (.a 3)) (.a 4)) (.a 5))) (.le (.add (.add (.add (.add (.add (.a 0) (.a 1)) (.a 2)) (.a 3)) (.a 4)) (.a 5)) (.l 9223372036854775807)))
 (.ret false (.int .i64 (.add (.add (.add (.add (.add (.a 0) (.a 1)) (.a 2)) (.a 3)) (.a 4)) (.a 5))) [])))))))
def bundle_Total_S : Sx.Sys := ⟨[(.sh (.agg [(.int .i64), (.int .i64), (.int .i64), (.int .i64), (.int .i64), (.int .i64)]))], a5z, [], none, none⟩
def b2I : List Cfg := []
theorem b4Y : SysOk Try.prog 91 bundle_Total_S := a0D (c := (cg [] [] [] false false false true)) (a0w _ _ _ _ _ _ _ _ _) Try.func91 Try.call91 (by kernel_rfl) b2I bundle_Total_S 5000 rfl (by kernel_rfl) (by kernel_rfl) rfl
end Go.Proofs.Ythmkfeiapdbojaa
