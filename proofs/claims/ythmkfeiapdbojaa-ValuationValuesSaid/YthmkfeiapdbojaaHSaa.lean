/- The trees of this seat's functions, part 0. Written by txgen.py. -/
import Derived.Test.YthmkfeiapdbojaaHTab
set_option linter.unusedSimpArgs false
set_option linter.unusedVariables false
set_option maxRecDepth 100000
namespace Go.Proofs.Ythmkfeiapdbojaa
open Go.Sx
def a4q : PT :=
 (.ite (.eq (.a 8) (.l 5))
 (.ite (.lt (.l 0) (.a 6))
  (.ret false (.bool (.t true)) [])
  (.jump 0 [(.l 5), (.l 0), (.a 0), (.a 1), (.a 2), (.a 3), (.a 4), (.a 5), (.a 6), (.a 7)] [] [(.va 0)]))
 (.ite (.eq (.a 8) (.l 4))
  (.ite (.lt (.l 0) (.a 5))
  (.ret false (.bool (.t true)) [])
  (.jump 0 [(.l 4), (.l 0), (.a 0), (.a 1), (.a 2), (.a 3), (.a 4), (.a 5), (.a 6), (.a 7)] [] [(.va 0)]))
  (.ite (.eq (.a 8) (.l 3))
  (.ite (.lt (.l 0) (.a 4))
   (.ret false (.bool (.t true)) [])
   (.jump 0 [(.l 3), (.l 0), (.a 0), (.a 1), (.a 2), (.a 3), (.a 4), (.a 5), (.a 6), (.a 7)] [] [(.va 0)]))
  (.ite (.eq (.a 8) (.l 2))
   (.ite (.lt (.l 0) (.a 3))
   (.ret false (.bool (.t true)) [])
   (.jump 0 [(.l 2), (.l 0), (.a 0), (.a 1), (.a 2), (.a 3), (.a 4), (.a 5), (.a 6), (.a 7)] [] [(.va 0)]))
   (.ite (.eq (.a 8) (.l 1))
   (.ite (.lt (.l 0) (.a 2))
    (.ret false (.bool (.t true)) [])
    (.jump 0 [(.l 1), (.l 0), (.a 0), (.a 1), (.a 2), (.a 3), (.a 4), (.a 5), (.a 6), (.a 7)] [] [(.va 0)]))
   (.ite (.eq (.a 8) (.l 0))
    (.ite (.lt (.l 0) (.a 1))
    (.ret false (.bool (.t true)) [])
    (.jump 0 [(.l 0), (.l 0), (.a 0), (.a 1), (.a 2), (.a 3), (.a 4), (.a 5), (.a 6), (.a 7)] [] [(.va 0)]))
    .stuck))))))
def a1I : PT :=
 (.need (.is 0 0)
 (.ite (.lt (.a 1) (.slen 0))
 (.need (.and (.le (.l 0) (.a 1)) (.lt (.a 1) (.slen 0)))
 (.load false (.ea 0 (.a 1) 9 0) [(.int .i64), (.int .i64), (.int .i64), (.int .i64), (.int .i64), (.int .i64), (.int .i64), (.int .i64), .val]
 (.call 45 [(.agg [(.int .i64 (.a 10)), (.int .i64 (.a 11)), (.int .i64 (.a 12)), (.int .i64 (.a 13)), (.int .i64 (.a 14)), (.int .i64 (.a 15)), (.int .i64 (.a 16)), (.int .i64 (.a 17)), (.va 1)]), (.int .i64 (.a 0))] [] [(.one .bool)]
 (.ite (.a 0)
  (.ret false (.bool (.t true)) [])
  (.need (.and (.le (.l (-9223372036854775808)) (.add (.a 1) (.l 1))) (.le (.add (.a 1) (.l 1)) (.l 9223372036854775807)))
  (.jump 0 [(.a 0), (.add (.a 1) (.l 1)), (.a 2), (.a 3), (.a 4), (.a 5), (.a 6), (.a 7), (.a 8), (.a 9)] [] [(.va 0)]))))))
 (.ret false (.bool (.t false)) [])))
def saleroomref13_Uses_S : Sx.Sys := ⟨[(.sh (.agg [(.int .i64), (.int .i64), (.int .i64), (.int .i64), (.int .i64), (.int .i64), (.int .i64), (.int .i64), .val])), (.sh (.one (.int .i64)))], a4q, [a1I], none, none⟩
def a9p : List Cfg := [{ todo := [(.code [false, false, true, false, true, true]), (.inLoop [false, false, true, false, true, true]), (.inBlock 0), (.code [true, true, true])], sl := [(.junk 0), (.int .i64 (.a 0)), (.ptr 0 0), .undef, (.junk 1), (.int .i64 (.a 1)), (.junk 2), (.junk 3), (.junk 4), (.junk 5), (.junk 6), (.junk 7), (.junk 8), (.junk 9), (.junk 10), (.junk 11), (.junk 12), (.junk 13), (.junk 14), (.junk 15), (.junk 16), (.junk 17), (.junk 18), (.junk 19), (.junk 20)], H := [(.cells [(.int .i64 (.a 2)), (.int .i64 (.a 3)), (.int .i64 (.a 4)), (.int .i64 (.a 5)), (.int .i64 (.a 6)), (.int .i64 (.a 7)), (.int .i64 (.a 8)), (.int .i64 (.a 9)), (.va 0)] 26 false)], ni := 10, nb := 0, nv := 1, nj := 21 }]
theorem b1d : SysOk Try.prog 45 saleroomref13_Uses_S := a0C (c := (cg [[false, false, true, false, true, true]] [] [] false false false true)) (a0l _ _ _ _ _ _ _ _ _) Try.func45 Try.call45 (by kernel_rfl) a9p saleroomref13_Uses_S 5000 rfl (by kernel_rfl) (by kernel_rfl) rfl
def a8w : PT :=
 (.call 52 [(.agg [(.int .i64 (.a 0)), (.int .i64 (.a 1)), (.int .i64 (.a 2)), (.int .i64 (.a 3)), (.int .i64 (.a 4)), (.int .i64 (.a 5))])] [] [(.one (.int .i64))]
 (.ite (.eq (.a 6) (.l 0))
 (.ret false (.fn 86 0 []) [])
 (.call 87 [(.agg [(.int .i64 (.a 0)), (.int .i64 (.a 1)), (.int .i64 (.a 2)), (.int .i64 (.a 3)), (.int .i64 (.a 4)), (.int .i64 (.a 5))])] [] [(.one .val)]
 (.ret false (.va 0) []))))
def bundle_All_S : Sx.Sys := ⟨[(.sh (.agg [(.int .i64), (.int .i64), (.int .i64), (.int .i64), (.int .i64), (.int .i64)]))], a8w, [], none, none⟩
def b7t : List Cfg := []
theorem b9b : SysOk Try.prog 53 bundle_All_S := a0C (c := (cg [] [] [] false false false true)) (a0l _ _ _ _ _ _ _ _ _) Try.func53 Try.call53 (by kernel_rfl) b7t bundle_All_S 5000 rfl (by kernel_rfl) (by kernel_rfl) rfl
def a6D : PT :=
 (.call 89 [(.agg [(.int .i64 (.a 0)), (.int .i64 (.a 1)), (.int .i64 (.a 2)), (.int .i64 (.a 3)), (.int .i64 (.a 4)), (.int .i64 (.a 5))]), (.agg [(.int .i64 (.a 6)), (.int .i64 (.a 7)), (.int .i64 (.a 8)), (.int .i64 (.a 9)), (.int .i64 (.a 10)), (.int .i64 (.a 11))])] [] [(.agg [(.int .i64), (.int .i64), (.int .i64), (.int .i64), (.int .i64), (.int .i64)])]
 (.ret false (.bool (.and (.eq (.a 12) (.a 0)) (.and (.eq (.a 13) (.a 1)) (.and (.eq (.a 14) (.a 2)) (.and (.eq (.a 15) (.a 3)) (.and (.eq (.a 16) (.a 4)) (.eq (.a 17) (.a 5)))))))) []))
def bundle_Within_S : Sx.Sys := ⟨[(.sh (.agg [(.int .i64), (.int .i64), (.int .i64), (.int .i64), (.int .i64), (.int .i64)])), (.sh (.agg [(.int .i64), (.int .i64), (.int .i64), (.int .i64), (.int .i64), (.int .i64)]))], a6D, [], none, none⟩
def b3M : List Cfg := []
theorem a8V : SysOk Try.prog 62 bundle_Within_S := a0C (c := (cg [] [] [] false false false true)) (a0l _ _ _ _ _ _ _ _ _) Try.func62 Try.call62 (by kernel_rfl) b3M bundle_Within_S 5000 rfl (by kernel_rfl) (by kernel_rfl) rfl
def b0t : PT :=
 (.need (.is 0 0)
 (.ite (.eq (.a 0) (.l 1))
 (.ret false (.bool (.eq (.slen 0) (.l 0))) [])
 (.ite (.eq (.a 0) (.l 2))
  (.ite (.eq (.a 0) (.l 2))
  (.ite (.le (.l 1) (.slen 0))
   (.ite (.le (.slen 0) (.l 8))
   (.ite (.and (.eq (.a 1) (.l 0)) (.and (.eq (.a 2) (.l 0)) (.and (.eq (.a 3) (.l 0)) (.and (.eq (.a 4) (.l 0)) (.and (.eq (.a 5) (.l 0)) (.eq (.a 6) (.l 0)))))))
    (.ret false (.bool (.eq (.a 7) (.l 0))) [])
    (.ret false (.bool (.t false)) []))
   (.ret false (.bool (.t false)) []))
   (.ret false (.bool (.t false)) []))
  (.ite (.eq (.a 0) (.l 4))
   (.ret false (.bool (.eq (.slen 0) (.l 1))) [])
   (.ite (.eq (.a 0) (.l 5))
   (.ite (.eq (.slen 0) (.l 1))
    (.ret false (.bool (.and (.eq (.a 1) (.l 0)) (.and (.eq (.a 2) (.l 0)) (.and (.eq (.a 3) (.l 0)) (.and (.eq (.a 4) (.l 0)) (.and (.eq (.a 5) (.l 0)) (.eq (.a 6) (.l 0)))))))) [])
    (.ret false (.bool (.t false)) []))
   (.ret false (.bool (.t false)) []))))
  (.ite (.eq (.a 0) (.l 3))
  (.ite (.le (.l 1) (.slen 0))
   (.ite (.le (.slen 0) (.l 8))
   (.ite (.and (.eq (.a 1) (.l 0)) (.and (.eq (.a 2) (.l 0)) (.and (.eq (.a 3) (.l 0)) (.and (.eq (.a 4) (.l 0)) (.and (.eq (.a 5) (.l 0)) (.eq (.a 6) (.l 0)))))))
    (.ret false (.bool (.eq (.a 7) (.l 0))) [])
    (.ret false (.bool (.t false)) []))
   (.ret false (.bool (.t false)) []))
   (.ret false (.bool (.t false)) []))
  (.ite (.eq (.a 0) (.l 4))
   (.ret false (.bool (.eq (.slen 0) (.l 1))) [])
   (.ite (.eq (.a 0) (.l 5))
   (.ite (.eq (.slen 0) (.l 1))
    (.ret false (.bool (.and (.eq (.a 1) (.l 0)) (.and (.eq (.a 2) (.l 0)) (.and (.eq (.a 3) (.l 0)) (.and (.eq (.a 4) (.l 0)) (.and (.eq (.a 5) (.l 0)) (.eq (.a 6) (.l 0)))))))) [])
    (.ret false (.bool (.t false)) []))
   (.ret false (.bool (.t false)) [])))))))
def expr_form_S : Sx.Sys := ⟨[(.sh (.agg [(.int .i64), (.int .i64), (.int .i64), (.int .i64), (.int .i64), (.int .i64), (.int .i64), (.int .i64), .val]))], b0t, [], none, none⟩
def b8d : List Cfg := []
theorem c0S : SysOk Try.prog 70 expr_form_S := a0C (c := (cg [] [] [] false false false true)) (a0l _ _ _ _ _ _ _ _ _) Try.func70 Try.call70 (by kernel_rfl) b8d expr_form_S 5000 rfl (by kernel_rfl) (by kernel_rfl) rfl
def a7C : PT :=
 (.ret false (.agg [(.int .i64 (.mx (.a 0) (.a 6))), (.int .i64 (.mx (.a 1) (.a 7))), (.int .i64 (.mx (.a 2) (.a 8))), (.int .i64 (.mx (.a 3) (.a 9))), (.int .i64 (.mx (.a 4) (.a 10))), (.int .i64 (.mx (.a 5) (.a 11)))]) [])
def bundle_Join_S : Sx.Sys := ⟨[(.sh (.agg [(.int .i64), (.int .i64), (.int .i64), (.int .i64), (.int .i64), (.int .i64)])), (.sh (.agg [(.int .i64), (.int .i64), (.int .i64), (.int .i64), (.int .i64), (.int .i64)]))], a7C, [], none, none⟩
def b6x : List Cfg := []
theorem b0Z : SysOk Try.prog 78 bundle_Join_S := a0C (c := (cg [] [] [] false false false true)) (a0l _ _ _ _ _ _ _ _ _) Try.func78 Try.call78 (by kernel_rfl) b6x bundle_Join_S 5000 rfl (by kernel_rfl) (by kernel_rfl) rfl
def b7J : PT :=
 (.ret false (.tup []) [])
def bundle_All_1_S : Sx.Sys := ⟨[(.sh (.one .val))], b7J, [], none, none⟩
def b5h : List Cfg := []
theorem b7r : SysOk Try.prog 86 bundle_All_1_S := a0C (c := (cg [] [] [] false false false true)) (a0l _ _ _ _ _ _ _ _ _) Try.func86 Try.call86 (by kernel_rfl) b5h bundle_All_1_S 5000 rfl (by kernel_rfl) (by kernel_rfl) rfl
def a3S : PT :=
 (.need (.and (.le (.l (-9223372036854775808)) (.add (.a 0) (.l 1))) (.le (.add (.a 0) (.l 1)) (.l 9223372036854775807)))
 (.need (.and (.le (.l (-9223372036854775808)) (.mul (.l 0) (.add (.a 0) (.l 1)))) (.le (.mul (.l 0) (.add (.a 0) (.l 1))) (.l 9223372036854775807)))
 (.need (.and (.le (.l (-9223372036854775808)) (.add (.mul (.l 0) (.add (.a 0) (.l 1))) (.a 6))) (.le (.add (.mul (.l 0) (.add (.a 0) (.l 1))) (.a 6)) (.l 9223372036854775807)))
 (.need (.and (.le (.l (-9223372036854775808)) (.add (.a 1) (.l 1))) (.le (.add (.a 1) (.l 1)) (.l 9223372036854775807)))
 (.need (.and (.le (.l (-9223372036854775808)) (.mul (.add (.mul (.l 0) (.add (.a 0) (.l 1))) (.a 6)) (.add (.a 1) (.l 1)))) (.le (.mul (.add (.mul (.l 0) (.add (.a 0) (.l 1))) (.a 6)) (.add (.a 1) (.l 1))) (.l 9223372036854775807)))
 (.need (.and (.le (.l (-9223372036854775808)) (.add (.mul (.add (.mul (.l 0) (.add (.a 0) (.l 1))) (.a 6)) (.add (.a 1) (.l 1))) (.a 7))) (.le (.add (.mul (.add (.mul (.l 0) (.add (.a 0) (.l 1))) (.a 6)) (.add (.a 1) (.l 1))) (.a 7)) (.l 9223372036854775807)))
 (.need (.and (.le (.l (-9223372036854775808)) (.add (.a 2) (.l 1))) (.le (.add (.a 2) (.l 1)) (.l 9223372036854775807)))
 (.need (.and (.le (.l (-9223372036854775808)) (.mul (.add (.mul (.add (.mul (.l 0) (.add (.a 0) (.l 1))) (.a 6)) (.add (.a 1) (.l 1))) (.a 7)) (.add (.a 2) (.l 1)))) (.le (.mul (.add (.mul (.add (.mul (.l 0) (.add (.a 0) (.l 1))) (.a 6)) (.add (.a 1) (.l 1))) (.a 7)) (.add (.a 2) (.l 1))) (.l 9223372036854775807)))
 (.need (.and (.le (.l (-9223372036854775808)) (.add (.mul (.add (.mul (.add (.mul (.l 0) (.add (.a 0) (.l 1))) (.a 6)) (.add (.a 1) (.l 1))) (.a 7)) (.add (.a 2) (.l 1))) (.a 8))) (.le (.add (.mul (.add (.mul (.add (.mul (.l 0) (.add (.a 0) (.l 1))) (.a 6)) (.add (.a 1) (.l 1))) (.a 7)) (.add (.a 2) (.l 1))) (.a 8)) (.l 9223372036854775807)))
 (.need (.and (.le (.l (-9223372036854775808)) (.add (.a 3) (.l 1))) (.le (.add (.a 3) (.l 1)) (.l 9223372036854775807)))
 (.need (.and (.le (.l (-9223372036854775808)) (.mul (.add (.mul (.add (.mul (.add (.mul (.l 0) (.add (.a 0) (.l 1))) (.a 6)) (.add (.a 1) (.l 1))) (.a 7)) (.add (.a 2) (.l 1))) (.a 8)) (.add (.a 3) (.l 1)))) (.le (.mul (.add (.mul (.add (.mul (.add (.mul (.l 0) (.add (.a 0) (.l 1))) (.a 6)) (.add (.a 1) (.l 1))) (.a 7)) (.add (.a 2) (.l 1))) (.a 8)) (.add (.a 3) (.l 1))) (.l 9223372036854775807)))
 (.need (.and (.le (.l (-9223372036854775808)) (.add (.mul (.add (.mul (.add (.mul (.add (.mul (.l 0) (.add (.a 0) (.l 1))) (.a 6)) (.add (.a 1) (.l 1))) (.a 7)) (.add (.a 2) (.l 1))) (.a 8)) (.add (.a 3) (.l 1))) (.a 9))) (.le (.add (.mul (.add (.mul (.add (.mul (.add (.mul (.l 0) (.add (.a 0) (.l 1))) (.a 6)) (.add (.a 1) (.l 1))) (.a 7)) (.add (.a 2) (.l 1))) (.a 8)) (.add (.a 3) (.l 1))) (.a 9)) (.l 9223372036854775807)))
 (.need (.and (.le (.l (-9223372036854775808)) (.add (.a 4) (.l 1))) (.le (.add (.a 4) (.l 1)) (.l 9223372036854775807)))
 (.need (.and (.le (.l (-9223372036854775808)) (.mul (.add (.mul (.add (.mul (.add (.mul (.add (.mul (.l 0) (.add (.a 0) (.l 1))) (.a 6)) (.add (.a 1) (.l 1))) (.a 7)) (.add (.a 2) (.l 1))) (.a 8)) (.add (.a 3) (.l 1))) (.a 9)) (.add (.a 4) (.l 1)))) (.le (.mul (.add (.mul (.add (.mul (.add (.mul (.add (.mul (.l 0) (.add (.a 0) (.l 1))) (.a 6)) (.add (.a 1) (.l 1))) (.a 7)) (.add (.a 2) (.l 1))) (.a 8)) (.add (.a 3) (.l 1))) (.a 9)) (.add (.a 4) (.l 1))) (.l 9223372036854775807)))
 (.need (.and (.le (.l (-9223372036854775808)) (.add (.mul (.add (.mul (.add (.mul (.add (.mul (.add (.mul (.l 0) (.add (.a 0) (.l 1))) (.a 6)) (.add (.a 1) (.l 1))) (.a 7)) (.add (.a 2) (.l 1))) (.a 8)) (.add (.a 3) (.l 1))) (.a 9)) (.add (.a 4) (.l 1))) (.a 10))) (.le (.add (.mul (.add (.mul (.add (.mul (.add (.mul (.add (.mul (.l 0) (.add (.a 0) (.l 1))) (.a 6)) (.add (.a 1) (.l 1))) (.a 7)) (.add (.a 2) (.l 1))) (.a 8)) (.add (.a 3) (.l 1))) (.a 9)) (.add (.a 4) (.l 1))) (.a 10)) (.l 9223372036854775807)))
 (.need (.and (.le (.l (-9223372036854775808)) (.add (.a 5) (.l 1))) (.le (.add (.a 5) (.l 1)) (.l 9223372036854775807)))
 (.need (.and (.le (.l (-9223372036854775808)) (.mul (.add (.mul (.add (.mul (.add (.mul (.add (.mul (.add (.mul (.l 0) (.add (.a 0) (.l 1))) (.a 6)) (.add (.a 1) (.l 1))) (.a 7)) (.add (.a 2) (.l 1))) (.a 8)) (.add (.a 3) (.l 1))) (.a 9)) (.add (.a 4) (.l 1))) (.a 10)) (.add (.a 5) (.l 1)))) (.le (.mul (.add (.mul (.add (.mul (.add (.mul (.add (.mul (.add (.mul (.l 0) (.add (.a 0) (.l 1))) (.a 6)) (.add (.a 1) (.l 1))) (.a 7)) (.add (.a 2) (.l 1))) (.a 8)) (.add (.a 3) (.l 1))) (.a 9)) (.add (.a 4) (.l 1))) (.a 10)) (.add (.a 5) (.l 1))) (.l 9223372036854775807)))
 (.need (.and (.le (.l (-9223372036854775808)) (.add (.mul (.add (.mul (.add (.mul (.add (.mul (.add (.mul (.add (.mul (.l 0) (.add (.a 0) (.l 1))) (.a 6)) (.add (.a 1) (.l 1))) (.a 7)) (.add (.a 2) (.l 1))) (.a 8)) (.add (.a 3) (.l 1))) (.a 9)) (.add (.a 4) (.l 1))) (.a 10)) (.add (.a 5) (.l 1))) (.a 11))) (.le (.add (.mul (.add (.mul (.add (.mul (.add (.mul (.add (.mul (.add (.mul (.l 0) (.add (.a 0) (.l 1))) (.a 6)) (.add (.a 1) (.l 1))) (.a 7)) (.add (.a 2) (.l 1))) (.a 8)) (.add (.a 3) (.l 1))) (.a 9)) (.add (.a 4) (.l 1))) (.a 10)) (.add (.a 5) (.l 1))) (.a 11)) (.l 9223372036854775807)))
 (.ret false (.int .i64 (.add (.mul (.add (.mul (.add (.mul (.add (.mul (.add (.mul (.add (.mul (.l 0) (.add (.a 0) (.l 1))) (.a 6)) (.add (.a 1) (.l 1))) (.a 7)) (.add (.a 2) (.l 1))) (.a 8)) (.add (.a 3) (.l 1))) (.a 9)) (.add (.a 4) (.l 1))) (.a 10)) (.add (.a 5) (.l 1))) (.a 11))) [])))))))))))))))))))
def saleroomref13_index_S : Sx.Sys := ⟨[(.sh (.agg [(.int .i64), (.int .i64), (.int .i64), (.int .i64), (.int .i64), (.int .i64)])), (.sh (.agg [(.int .i64), (.int .i64), (.int .i64), (.int .i64), (.int .i64), (.int .i64)]))], a3S, [], none, none⟩
def a9l : List Cfg := []
theorem b0s : SysOk Try.prog 94 saleroomref13_index_S := a0C (c := (cg [] [] [] false false false true)) (a0l _ _ _ _ _ _ _ _ _) Try.func94 Try.call94 (by kernel_rfl) a9l saleroomref13_index_S 5000 rfl (by kernel_rfl) (by kernel_rfl) rfl
end Go.Proofs.Ythmkfeiapdbojaa
set_option maxRecDepth 100000
namespace Go.Proofs.Ythmkfeiapdbojaa
open Go.Sx
def a1D : PT :=
 (.call 15 [(.agg [(.int .i64 (.a 0)), (.int .i64 (.a 1)), (.int .i64 (.a 2)), (.int .i64 (.a 3)), (.int .i64 (.a 4)), (.int .i64 (.a 5)), (.int .i64 (.a 6)), (.int .i64 (.a 7)), (.va 0)])] [] [(.one .bool)]
 (.ite (.not (.a 0))
 (.call 17 [] [] [(.one .bool)]
 (.ret false (.bool (.a 1)) []))
 (.call 18 [(.agg [(.int .i64 (.a 0)), (.int .i64 (.a 1)), (.int .i64 (.a 2)), (.int .i64 (.a 3)), (.int .i64 (.a 4)), (.int .i64 (.a 5)), (.int .i64 (.a 6)), (.int .i64 (.a 7)), (.va 0)]), (.agg [(.int .i64 (.a 8)), (.int .i64 (.a 9)), (.int .i64 (.a 10)), (.int .i64 (.a 11)), (.int .i64 (.a 12)), (.int .i64 (.a 13))])] [] [(.one (.int .i64))]
 (.call 21 [(.agg [(.int .i64 (.a 0)), (.int .i64 (.a 1)), (.int .i64 (.a 2)), (.int .i64 (.a 3)), (.int .i64 (.a 4)), (.int .i64 (.a 5)), (.int .i64 (.a 6)), (.int .i64 (.a 7)), (.va 0)]), (.agg [(.int .i64 (.a 8)), (.int .i64 (.a 9)), (.int .i64 (.a 10)), (.int .i64 (.a 11)), (.int .i64 (.a 12)), (.int .i64 (.a 13))])] [] [(.one (.int .i64))]
 (.ite (.eq (.a 14) (.a 15))
  (.call 20 [(.agg [(.int .i64 (.a 0)), (.int .i64 (.a 1)), (.int .i64 (.a 2)), (.int .i64 (.a 3)), (.int .i64 (.a 4)), (.int .i64 (.a 5)), (.int .i64 (.a 6)), (.int .i64 (.a 7)), (.va 0)])] [] [(.one (.int .i64))]
  (.call 22 [(.agg [(.int .i64 (.a 0)), (.int .i64 (.a 1)), (.int .i64 (.a 2)), (.int .i64 (.a 3)), (.int .i64 (.a 4)), (.int .i64 (.a 5)), (.int .i64 (.a 6)), (.int .i64 (.a 7)), (.va 0)])] [] [(.one (.int .i64))]
  (.ite (.eq (.a 16) (.a 17))
  (.call 17 [] [] [(.one .bool)]
  (.ret false (.bool (.a 1)) []))
  (.ret false (.bool (.t false)) []))))
  (.ret false (.bool (.t false)) []))))))
def saleroomlaw13_ValuationValues_S : Sx.Sys := ⟨[(.sh (.agg [(.int .i64), (.int .i64), (.int .i64), (.int .i64), (.int .i64), (.int .i64), (.int .i64), (.int .i64), .val])), (.sh (.agg [(.int .i64), (.int .i64), (.int .i64), (.int .i64), (.int .i64), (.int .i64)]))], a1D, [], none, none⟩
def a5v : List Cfg := []
theorem a5J : SysOk Try.prog 4 saleroomlaw13_ValuationValues_S := a0C (c := (cg [] [] [] false false false true)) (a0l _ _ _ _ _ _ _ _ _) Try.func4 Try.call4 (by kernel_rfl) a5v saleroomlaw13_ValuationValues_S 5000 rfl (by kernel_rfl) (by kernel_rfl) rfl
def a5M : PT :=
 (.call 18 [(.agg [(.int .i64 (.a 0)), (.int .i64 (.a 1)), (.int .i64 (.a 2)), (.int .i64 (.a 3)), (.int .i64 (.a 4)), (.int .i64 (.a 5)), (.int .i64 (.a 6)), (.int .i64 (.a 7)), (.va 0)]), (.agg [(.int .i64 (.l 4)), (.int .i64 (.l 4)), (.int .i64 (.l 4)), (.int .i64 (.l 4)), (.int .i64 (.l 4)), (.int .i64 (.l 4))])] [] [(.one (.int .i64))]
 (.ret false (.int .i64 (.a 8)) []))
def valuation_Most_S : Sx.Sys := ⟨[(.sh (.agg [(.int .i64), (.int .i64), (.int .i64), (.int .i64), (.int .i64), (.int .i64), (.int .i64), (.int .i64), .val]))], a5M, [], none, none⟩
def b3v : List Cfg := []
theorem b5e : SysOk Try.prog 20 valuation_Most_S := a0C (c := (cg [] [] [] false false false true)) (a0l _ _ _ _ _ _ _ _ _) Try.func20 Try.call20 (by kernel_rfl) b3v valuation_Most_S 5000 rfl (by kernel_rfl) (by kernel_rfl) rfl
def a2k : PT :=
 (.ite (.lt (.l 10) (.a 8))
 (.ret false (.int .i64 (.l 1000)) [])
 (.need (.is 0 0)
 (.ite (.lt (.l 20) (.slen 0))
  (.ret false (.int .i64 (.l 1000)) [])
  (.jump 0 [(.a 8), (.l 1), (.l 0), (.a 0), (.a 1), (.a 2), (.a 3), (.a 4), (.a 5), (.a 6), (.a 7)] [] [(.va 0)]))))
def a1Z : PT :=
 (.need (.is 0 0)
 (.ite (.lt (.a 2) (.slen 0))
 (.need (.and (.le (.l 0) (.a 2)) (.lt (.a 2) (.slen 0)))
 (.load false (.ea 0 (.a 2) 9 0) [(.int .i64), (.int .i64), (.int .i64), (.int .i64), (.int .i64), (.int .i64), (.int .i64), (.int .i64), .val]
 (.need (.and (.le (.l (-9223372036854775808)) (.add (.a 0) (.l 1))) (.le (.add (.a 0) (.l 1)) (.l 9223372036854775807)))
 (.call 46 [(.agg [(.int .i64 (.a 11)), (.int .i64 (.a 12)), (.int .i64 (.a 13)), (.int .i64 (.a 14)), (.int .i64 (.a 15)), (.int .i64 (.a 16)), (.int .i64 (.a 17)), (.int .i64 (.a 18)), (.va 1)]), (.int .i64 (.add (.a 0) (.l 1)))] [] [(.one (.int .i64))]
 (.need (.and (.le (.l (-9223372036854775808)) (.add (.a 1) (.a 19))) (.le (.add (.a 1) (.a 19)) (.l 9223372036854775807)))
 (.need (.and (.le (.l (-9223372036854775808)) (.add (.a 2) (.l 1))) (.le (.add (.a 2) (.l 1)) (.l 9223372036854775807)))
 (.jump 0 [(.a 0), (.add (.a 1) (.a 19)), (.add (.a 2) (.l 1)), (.a 3), (.a 4), (.a 5), (.a 6), (.a 7), (.a 8), (.a 9), (.a 10)] [] [(.va 0)])))))))
 (.ret false (.int .i64 (.a 1)) [])))
def saleroomref13_nodes_S : Sx.Sys := ⟨[(.sh (.agg [(.int .i64), (.int .i64), (.int .i64), (.int .i64), (.int .i64), (.int .i64), (.int .i64), (.int .i64), .val])), (.sh (.one (.int .i64)))], a2k, [a1Z], none, none⟩
def a8r : List Cfg := [{ todo := [(.code [false, false, true, false, true, true, true]), (.inLoop [false, false, true, false, true, true, true]), (.inBlock 0), (.code [true, true, true, true])], sl := [(.junk 0), (.int .i64 (.a 0)), (.ptr 0 0), .undef, (.junk 1), (.int .i64 (.a 1)), (.int .i64 (.a 2)), (.junk 2), (.junk 3), (.junk 4), (.junk 5), (.junk 6), (.junk 7), (.junk 8), (.junk 9), (.junk 10), (.junk 11), (.junk 12), (.junk 13), (.junk 14), (.junk 15), (.junk 16), (.junk 17), (.junk 18), (.junk 19), (.junk 20), (.junk 21), (.junk 22), (.junk 23), (.junk 24), (.junk 25), (.junk 26), .undef], H := [(.cells [(.int .i64 (.a 3)), (.int .i64 (.a 4)), (.int .i64 (.a 5)), (.int .i64 (.a 6)), (.int .i64 (.a 7)), (.int .i64 (.a 8)), (.int .i64 (.a 9)), (.int .i64 (.a 10)), (.va 0)] 26 false)], ni := 11, nb := 0, nv := 1, nj := 27 }]
theorem b0g : SysOk Try.prog 46 saleroomref13_nodes_S := a0C (c := (cg [[false, false, true, false, true, true, true]] [] [] false false false true)) (a0l _ _ _ _ _ _ _ _ _) Try.func46 Try.call46 (by kernel_rfl) a8r saleroomref13_nodes_S 5000 rfl (by kernel_rfl) (by kernel_rfl) rfl
def a5t : PT :=
 (.jump 0 [(.a 12), (.l 1), (.l 5), (.a 0), (.a 1), (.a 2), (.a 3), (.a 4), (.a 5), (.a 6), (.a 7), (.a 8), (.a 9), (.a 10), (.a 11)] [] [(.va 0)])
def a0S : PT :=
 (.ite (.le (.l 0) (.a 2))
 (.ite (.eq (.a 2) (.l 5))
  (.ite (.lt (.l 0) (.a 14))
  (.need (.and (.le (.l (-9223372036854775808)) (.sub (.a 0) (.a 1))) (.le (.sub (.a 0) (.a 1)) (.l 9223372036854775807)))
  (.callv 0 [(.int .i64 (.sub (.a 0) (.a 1)))] []
  (.need (.and (.le (.l (-9223372036854775808)) (.add (.a 8) (.l 1))) (.le (.add (.a 8) (.l 1)) (.l 9223372036854775807)))
  (.need (.and (.le (.l (-9223372036854775808)) (.mul (.a 1) (.add (.a 8) (.l 1)))) (.le (.mul (.a 1) (.add (.a 8) (.l 1))) (.l 9223372036854775807)))
  (.jump 0 [(.a 0), (.mul (.a 1) (.add (.a 8) (.l 1))), (.l 4), (.a 3), (.a 4), (.a 5), (.a 6), (.a 7), (.a 8), (.a 9), (.a 10), (.a 11), (.a 12), (.a 13), (.a 14)] [] [(.va 0)])))))
  (.need (.and (.le (.l (-9223372036854775808)) (.add (.a 8) (.l 1))) (.le (.add (.a 8) (.l 1)) (.l 9223372036854775807)))
  (.need (.and (.le (.l (-9223372036854775808)) (.mul (.a 1) (.add (.a 8) (.l 1)))) (.le (.mul (.a 1) (.add (.a 8) (.l 1))) (.l 9223372036854775807)))
  (.jump 0 [(.a 0), (.mul (.a 1) (.add (.a 8) (.l 1))), (.l 4), (.a 3), (.a 4), (.a 5), (.a 6), (.a 7), (.a 8), (.a 9), (.a 10), (.a 11), (.a 12), (.a 13), (.a 14)] [] [(.va 0)]))))
  (.ite (.eq (.a 2) (.l 4))
  (.ite (.lt (.l 0) (.a 13))
   (.need (.and (.le (.l (-9223372036854775808)) (.sub (.a 0) (.a 1))) (.le (.sub (.a 0) (.a 1)) (.l 9223372036854775807)))
   (.callv 0 [(.int .i64 (.sub (.a 0) (.a 1)))] []
   (.need (.and (.le (.l (-9223372036854775808)) (.add (.a 7) (.l 1))) (.le (.add (.a 7) (.l 1)) (.l 9223372036854775807)))
   (.need (.and (.le (.l (-9223372036854775808)) (.mul (.a 1) (.add (.a 7) (.l 1)))) (.le (.mul (.a 1) (.add (.a 7) (.l 1))) (.l 9223372036854775807)))
   (.jump 0 [(.a 0), (.mul (.a 1) (.add (.a 7) (.l 1))), (.l 3), (.a 3), (.a 4), (.a 5), (.a 6), (.a 7), (.a 8), (.a 9), (.a 10), (.a 11), (.a 12), (.a 13), (.a 14)] [] [(.va 0)])))))
   (.need (.and (.le (.l (-9223372036854775808)) (.add (.a 7) (.l 1))) (.le (.add (.a 7) (.l 1)) (.l 9223372036854775807)))
   (.need (.and (.le (.l (-9223372036854775808)) (.mul (.a 1) (.add (.a 7) (.l 1)))) (.le (.mul (.a 1) (.add (.a 7) (.l 1))) (.l 9223372036854775807)))
   (.jump 0 [(.a 0), (.mul (.a 1) (.add (.a 7) (.l 1))), (.l 3), (.a 3), (.a 4), (.a 5), (.a 6), (.a 7), (.a 8), (.a 9), (.a 10), (.a 11), (.a 12), (.a 13), (.a 14)] [] [(.va 0)]))))
  (.ite (.eq (.a 2) (.l 3))
   (.ite (.lt (.l 0) (.a 12))
   (.need (.and (.le (.l (-9223372036854775808)) (.sub (.a 0) (.a 1))) (.le (.sub (.a 0) (.a 1)) (.l 9223372036854775807)))
   (.callv 0 [(.int .i64 (.sub (.a 0) (.a 1)))] []
   (.need (.and (.le (.l (-9223372036854775808)) (.add (.a 6) (.l 1))) (.le (.add (.a 6) (.l 1)) (.l 9223372036854775807)))
   (.need (.and (.le (.l (-9223372036854775808)) (.mul (.a 1) (.add (.a 6) (.l 1)))) (.le (.mul (.a 1) (.add (.a 6) (.l 1))) (.l 9223372036854775807)))
   (.jump 0 [(.a 0), (.mul (.a 1) (.add (.a 6) (.l 1))), (.l 2), (.a 3), (.a 4), (.a 5), (.a 6), (.a 7), (.a 8), (.a 9), (.a 10), (.a 11), (.a 12), (.a 13), (.a 14)] [] [(.va 0)])))))
   (.need (.and (.le (.l (-9223372036854775808)) (.add (.a 6) (.l 1))) (.le (.add (.a 6) (.l 1)) (.l 9223372036854775807)))
   (.need (.and (.le (.l (-9223372036854775808)) (.mul (.a 1) (.add (.a 6) (.l 1)))) (.le (.mul (.a 1) (.add (.a 6) (.l 1))) (.l 9223372036854775807)))
   (.jump 0 [(.a 0), (.mul (.a 1) (.add (.a 6) (.l 1))), (.l 2), (.a 3), (.a 4), (.a 5), (.a 6), (.a 7), (.a 8), (.a 9), (.a 10), (.a 11), (.a 12), (.a 13), (.a 14)] [] [(.va 0)]))))
   (.ite (.eq (.a 2) (.l 2))
   (.ite (.lt (.l 0) (.a 11))
    (.need (.and (.le (.l (-9223372036854775808)) (.sub (.a 0) (.a 1))) (.le (.sub (.a 0) (.a 1)) (.l 9223372036854775807)))
    (.callv 0 [(.int .i64 (.sub (.a 0) (.a 1)))] []
    (.need (.and (.le (.l (-9223372036854775808)) (.add (.a 5) (.l 1))) (.le (.add (.a 5) (.l 1)) (.l 9223372036854775807)))
    (.need (.and (.le (.l (-9223372036854775808)) (.mul (.a 1) (.add (.a 5) (.l 1)))) (.le (.mul (.a 1) (.add (.a 5) (.l 1))) (.l 9223372036854775807)))
    (.jump 0 [(.a 0), (.mul (.a 1) (.add (.a 5) (.l 1))), (.l 1), (.a 3), (.a 4), (.a 5), (.a 6), (.a 7), (.a 8), (.a 9), (.a 10), (.a 11), (.a 12), (.a 13), (.a 14)] [] [(.va 0)])))))
    (.need (.and (.le (.l (-9223372036854775808)) (.add (.a 5) (.l 1))) (.le (.add (.a 5) (.l 1)) (.l 9223372036854775807)))
    (.need (.and (.le (.l (-9223372036854775808)) (.mul (.a 1) (.add (.a 5) (.l 1)))) (.le (.mul (.a 1) (.add (.a 5) (.l 1))) (.l 9223372036854775807)))
    (.jump 0 [(.a 0), (.mul (.a 1) (.add (.a 5) (.l 1))), (.l 1), (.a 3), (.a 4), (.a 5), (.a 6), (.a 7), (.a 8), (.a 9), (.a 10), (.a 11), (.a 12), (.a 13), (.a 14)] [] [(.va 0)]))))
   (.ite (.eq (.a 2) (.l 1))
    (.ite (.lt (.l 0) (.a 10))
    (.need (.and (.le (.l (-9223372036854775808)) (.sub (.a 0) (.a 1))) (.le (.sub (.a 0) (.a 1)) (.l 9223372036854775807)))
    (.callv 0 [(.int .i64 (.sub (.a 0) (.a 1)))] []
    (.need (.and (.le (.l (-9223372036854775808)) (.add (.a 4) (.l 1))) (.le (.add (.a 4) (.l 1)) (.l 9223372036854775807)))
    (.need (.and (.le (.l (-9223372036854775808)) (.mul (.a 1) (.add (.a 4) (.l 1)))) (.le (.mul (.a 1) (.add (.a 4) (.l 1))) (.l 9223372036854775807)))
    (.jump 0 [(.a 0), (.mul (.a 1) (.add (.a 4) (.l 1))), (.l 0), (.a 3), (.a 4), (.a 5), (.a 6), (.a 7), (.a 8), (.a 9), (.a 10), (.a 11), (.a 12), (.a 13), (.a 14)] [] [(.va 0)])))))
    (.need (.and (.le (.l (-9223372036854775808)) (.add (.a 4) (.l 1))) (.le (.add (.a 4) (.l 1)) (.l 9223372036854775807)))
    (.need (.and (.le (.l (-9223372036854775808)) (.mul (.a 1) (.add (.a 4) (.l 1)))) (.le (.mul (.a 1) (.add (.a 4) (.l 1))) (.l 9223372036854775807)))
    (.jump 0 [(.a 0), (.mul (.a 1) (.add (.a 4) (.l 1))), (.l 0), (.a 3), (.a 4), (.a 5), (.a 6), (.a 7), (.a 8), (.a 9), (.a 10), (.a 11), (.a 12), (.a 13), (.a 14)] [] [(.va 0)]))))
    (.ite (.eq (.a 2) (.l 0))
    (.ite (.lt (.l 0) (.a 9))
     (.need (.and (.le (.l (-9223372036854775808)) (.sub (.a 0) (.a 1))) (.le (.sub (.a 0) (.a 1)) (.l 9223372036854775807)))
     (.callv 0 [(.int .i64 (.sub (.a 0) (.a 1)))] []
     (.need (.and (.le (.l (-9223372036854775808)) (.add (.a 3) (.l 1))) (.le (.add (.a 3) (.l 1)) (.l 9223372036854775807)))
     (.need (.and (.le (.l (-9223372036854775808)) (.mul (.a 1) (.add (.a 3) (.l 1)))) (.le (.mul (.a 1) (.add (.a 3) (.l 1))) (.l 9223372036854775807)))
     (.jump 0 [(.a 0), (.mul (.a 1) (.add (.a 3) (.l 1))), (.l (-1)), (.a 3), (.a 4), (.a 5), (.a 6), (.a 7), (.a 8), (.a 9), (.a 10), (.a 11), (.a 12), (.a 13), (.a 14)] [] [(.va 0)])))))
     (.need (.and (.le (.l (-9223372036854775808)) (.add (.a 3) (.l 1))) (.le (.add (.a 3) (.l 1)) (.l 9223372036854775807)))
     (.need (.and (.le (.l (-9223372036854775808)) (.mul (.a 1) (.add (.a 3) (.l 1)))) (.le (.mul (.a 1) (.add (.a 3) (.l 1))) (.l 9223372036854775807)))
     (.jump 0 [(.a 0), (.mul (.a 1) (.add (.a 3) (.l 1))), (.l (-1)), (.a 3), (.a 4), (.a 5), (.a 6), (.a 7), (.a 8), (.a 9), (.a 10), (.a 11), (.a 12), (.a 13), (.a 14)] [] [(.va 0)]))))
    .stuck))))))
 (.ret false (.tup []) []))
def valuation_below_S : Sx.Sys := ⟨[(.sh (.agg [(.int .i64), (.int .i64), (.int .i64), (.int .i64), (.int .i64), (.int .i64)])), (.sh (.agg [(.int .i64), (.int .i64), (.int .i64), (.int .i64), (.int .i64), (.int .i64)])), (.sh (.one (.int .i64))), (.sh (.one .val))], a5t, [a0S], none, none⟩
def b2D : List Cfg := [{ todo := [(.code [false, false, true, true, true]), (.inLoop [false, false, true, true, true]), (.inBlock 0)], sl := [(.junk 0), (.junk 1), (.int .i64 (.a 0)), (.va 0), (.ptr 0 0), (.ptr 1 0), .undef, .undef, (.int .i64 (.a 1)), (.int .i64 (.a 2)), (.junk 2), (.junk 3), (.junk 4), (.junk 5), (.junk 6), (.junk 7), (.junk 8), (.junk 9), (.junk 10), (.junk 11), (.junk 12), (.junk 13), (.junk 14), (.junk 15), (.junk 16), (.junk 17), (.junk 18), (.junk 19), (.junk 20)], H := [(.cells [(.int .i64 (.a 3)), (.int .i64 (.a 4)), (.int .i64 (.a 5)), (.int .i64 (.a 6)), (.int .i64 (.a 7)), (.int .i64 (.a 8))] 23 false), (.cells [(.int .i64 (.a 9)), (.int .i64 (.a 10)), (.int .i64 (.a 11)), (.int .i64 (.a 12)), (.int .i64 (.a 13)), (.int .i64 (.a 14))] 23 false)], ni := 15, nb := 0, nv := 1, nj := 21 }]
theorem b3E : SysOk Try.prog 54 valuation_below_S := a0C (c := (cg [[false, false, true, true, true]] [] [(18, [])] false false false true)) (a0l _ _ _ _ _ _ _ _ _) Try.func54 Try.call54 (by kernel_rfl) b2D valuation_below_S 5000 rfl (by kernel_rfl) (by kernel_rfl) rfl
def a7H : PT :=
 (.ite (.eq (.a 0) (.l 2))
 (.ite (.eq (.a 0) (.l 2))
  (.ret false (.bool (.t true)) [])
  (.ite (.lt (.a 7) (.l 1))
  (.ret false (.bool (.t false)) [])
  (.ite (.lt (.l 1000000) (.a 7))
   (.ret false (.bool (.t false)) [])
   (.ite (.eq (.a 0) (.l 5))
   (.ret false (.bool (.t true)) [])
   (.call 48 [(.agg [(.int .i64 (.a 1)), (.int .i64 (.a 2)), (.int .i64 (.a 3)), (.int .i64 (.a 4)), (.int .i64 (.a 5)), (.int .i64 (.a 6))])] [] [(.one (.int .i64))]
   (.ite (.eq (.a 8) (.l 0))
    (.call 91 [(.agg [(.int .i64 (.a 1)), (.int .i64 (.a 2)), (.int .i64 (.a 3)), (.int .i64 (.a 4)), (.int .i64 (.a 5)), (.int .i64 (.a 6))])] [] [(.one (.int .i64))]
    (.ret false (.bool (.lt (.l 0) (.a 9))) []))
    (.ret false (.bool (.t false)) [])))))))
 (.ite (.eq (.a 0) (.l 3))
  (.ret false (.bool (.t true)) [])
  (.ite (.lt (.a 7) (.l 1))
  (.ret false (.bool (.t false)) [])
  (.ite (.lt (.l 1000000) (.a 7))
   (.ret false (.bool (.t false)) [])
   (.ite (.eq (.a 0) (.l 5))
   (.ret false (.bool (.t true)) [])
   (.call 48 [(.agg [(.int .i64 (.a 1)), (.int .i64 (.a 2)), (.int .i64 (.a 3)), (.int .i64 (.a 4)), (.int .i64 (.a 5)), (.int .i64 (.a 6))])] [] [(.one (.int .i64))]
   (.ite (.eq (.a 8) (.l 0))
    (.call 91 [(.agg [(.int .i64 (.a 1)), (.int .i64 (.a 2)), (.int .i64 (.a 3)), (.int .i64 (.a 4)), (.int .i64 (.a 5)), (.int .i64 (.a 6))])] [] [(.one (.int .i64))]
    (.ret false (.bool (.lt (.l 0) (.a 9))) []))
    (.ret false (.bool (.t false)) []))))))))
def expr_ranged_S : Sx.Sys := ⟨[(.sh (.agg [(.int .i64), (.int .i64), (.int .i64), (.int .i64), (.int .i64), (.int .i64), (.int .i64), (.int .i64), .val]))], a7H, [], none, none⟩
def b5T : List Cfg := []
theorem b7U : SysOk Try.prog 71 expr_ranged_S := a0C (c := (cg [] [] [] false false false true)) (a0l _ _ _ _ _ _ _ _ _) Try.func71 Try.call71 (by kernel_rfl) b5T expr_ranged_S 5000 rfl (by kernel_rfl) (by kernel_rfl) rfl
def a3Y : PT :=
 (.jump 0 [(.l 0), (.l 0), (.a 0), (.a 1), (.a 2), (.a 3), (.a 4), (.a 5), (.a 6), (.a 7)] [] [(.va 0)])
def a3x : PT :=
 (.need (.is 0 0)
 (.ite (.lt (.a 1) (.slen 0))
 (.need (.and (.le (.l 0) (.a 1)) (.lt (.a 1) (.slen 0)))
 (.load false (.ea 0 (.a 1) 9 0) [(.int .i64), (.int .i64), (.int .i64), (.int .i64), (.int .i64), (.int .i64), (.int .i64), (.int .i64), .val]
 (.call 79 [(.agg [(.int .i64 (.a 10)), (.int .i64 (.a 11)), (.int .i64 (.a 12)), (.int .i64 (.a 13)), (.int .i64 (.a 14)), (.int .i64 (.a 15)), (.int .i64 (.a 16)), (.int .i64 (.a 17)), (.va 1)])] [] [(.one (.int .i64))]
 (.need (.and (.le (.l (-9223372036854775808)) (.add (.a 1) (.l 1))) (.le (.add (.a 1) (.l 1)) (.l 9223372036854775807)))
 (.jump 0 [(.mx (.a 0) (.a 18)), (.add (.a 1) (.l 1)), (.a 2), (.a 3), (.a 4), (.a 5), (.a 6), (.a 7), (.a 8), (.a 9)] [] [(.va 0)])))))
 (.need (.and (.le (.l (-9223372036854775808)) (.add (.a 0) (.l 1))) (.le (.add (.a 0) (.l 1)) (.l 9223372036854775807)))
 (.ret false (.int .i64 (.add (.a 0) (.l 1))) []))))
def saleroomref11_Depth_S : Sx.Sys := ⟨[(.sh (.agg [(.int .i64), (.int .i64), (.int .i64), (.int .i64), (.int .i64), (.int .i64), (.int .i64), (.int .i64), .val]))], a3Y, [a3x], none, none⟩
def a9b : List Cfg := [{ todo := [(.code [false, false, true, false, true, true]), (.inLoop [false, false, true, false, true, true]), (.inBlock 0), (.code [true, true, true])], sl := [(.junk 0), (.ptr 0 0), (.junk 1), (.int .i64 (.a 0)), (.int .i64 (.a 1)), (.junk 2), (.junk 3), (.junk 4), (.junk 5), (.junk 6), (.junk 7), (.junk 8), (.junk 9), (.junk 10), (.junk 11), (.junk 12), (.junk 13), (.junk 14), (.junk 15), (.junk 16), .undef, .undef], H := [(.cells [(.int .i64 (.a 2)), (.int .i64 (.a 3)), (.int .i64 (.a 4)), (.int .i64 (.a 5)), (.int .i64 (.a 6)), (.int .i64 (.a 7)), (.int .i64 (.a 8)), (.int .i64 (.a 9)), (.va 0)] 26 false)], ni := 10, nb := 0, nv := 1, nj := 17 }]
theorem b0u : SysOk Try.prog 79 saleroomref11_Depth_S := a0C (c := (cg [[false, false, true, false, true, true]] [] [] false false false true)) (a0l _ _ _ _ _ _ _ _ _) Try.func79 Try.call79 (by kernel_rfl) a9b saleroomref11_Depth_S 5000 rfl (by kernel_rfl) (by kernel_rfl) rfl
def a7D : PT :=
 (.newM [(.int .i64 (.a 0)), (.int .i64 (.a 1)), (.int .i64 (.a 2)), (.int .i64 (.a 3)), (.int .i64 (.a 4)), (.int .i64 (.a 5))] 23
 (.ret false (.fn 95 0 [(.pa 0 0)]) []))
def bundle_each_S : Sx.Sys := ⟨[(.sh (.agg [(.int .i64), (.int .i64), (.int .i64), (.int .i64), (.int .i64), (.int .i64)]))], a7D, [], none, none⟩
def b5H : List Cfg := []
theorem b7H : SysOk Try.prog 87 bundle_each_S := a0C (c := (cg [] [1] [] true false false true)) (a0l _ _ _ _ _ _ _ _ _) Try.func87 Try.call87 (by kernel_rfl) b5H bundle_each_S 5000 rfl (by kernel_rfl) (by kernel_rfl) rfl
def b6C : PT :=
 (.jump 0 [(.l 0), (.l 0), (.l 0), (.l 0), (.l 0), (.l 0)] [] [(.va 0), (.va 1)])
def b6k : PT :=
 (.callv 0 [(.agg [(.int .i64 (.a 0)), (.int .i64 (.a 1)), (.int .i64 (.a 2)), (.int .i64 (.a 3)), (.int .i64 (.a 4)), (.int .i64 (.a 5))])] [(.one .bool)]
 (.ite (.a 0)
 (.load false (.pa 1 0) [(.int .i64), (.int .i64), (.int .i64), (.int .i64), (.int .i64), (.int .i64)]
 (.call 96 [(.agg [(.int .i64 (.a 0)), (.int .i64 (.a 1)), (.int .i64 (.a 2)), (.int .i64 (.a 3)), (.int .i64 (.a 4)), (.int .i64 (.a 5))]), (.agg [(.int .i64 (.a 6)), (.int .i64 (.a 7)), (.int .i64 (.a 8)), (.int .i64 (.a 9)), (.int .i64 (.a 10)), (.int .i64 (.a 11))])] [] [(.agg [(.int .i64), (.int .i64), (.int .i64), (.int .i64), (.int .i64), (.int .i64)])]
 (.ite (.and (.eq (.a 12) (.l 0)) (.and (.eq (.a 13) (.l 0)) (.and (.eq (.a 14) (.l 0)) (.and (.eq (.a 15) (.l 0)) (.and (.eq (.a 16) (.l 0)) (.eq (.a 17) (.l 0)))))))
  (.ret true (.tup []) [])
  (.jump 0 [(.a 12), (.a 13), (.a 14), (.a 15), (.a 16), (.a 17)] [] [(.va 0), (.va 1)]))))
 (.ret true (.tup []) [])))
def bundle_each_1_S : Sx.Sys := ⟨[(.sh (.one .val)), .ptr], b6C, [b6k], none, none⟩
def b3O : List Cfg := [{ todo := [(.code [false, false, true]), (.inLoop [false, false, true]), (.inBlock 0)], sl := [(.va 0), (.pa 1 0), .undef, (.ptr 0 0), (.junk 0), (.junk 1), (.junk 2), (.junk 3), (.junk 4), (.junk 5), (.junk 6), (.junk 7), (.junk 8), (.junk 9)], H := [(.cells [(.int .i64 (.a 0)), (.int .i64 (.a 1)), (.int .i64 (.a 2)), (.int .i64 (.a 3)), (.int .i64 (.a 4)), (.int .i64 (.a 5))] 23 false)], ni := 6, nb := 0, nv := 2, nj := 10 }]
theorem b5K : SysOk Try.prog 95 bundle_each_1_S := a0C (c := (cg [[false, false, true]] [] [(5, [4])] true true false true)) (a0l _ _ _ _ _ _ _ _ _) Try.func95 Try.call95 (by kernel_rfl) b3O bundle_each_1_S 5000 rfl (by kernel_rfl) (by kernel_rfl) rfl
end Go.Proofs.Ythmkfeiapdbojaa
set_option maxRecDepth 100000
namespace Go.Proofs.Ythmkfeiapdbojaa
open Go.Sx
def a2f : PT :=
 (.call 50 [(.agg [(.int .i64 (.a 0)), (.int .i64 (.a 1)), (.int .i64 (.a 2)), (.int .i64 (.a 3)), (.int .i64 (.a 4)), (.int .i64 (.a 5)), (.int .i64 (.a 6)), (.int .i64 (.a 7)), (.va 0)])] [] [(.one (.int .i64))]
 (.ite (.not (.eq (.a 14) (.l 0)))
 (.ret false (.int .i64 (.l 0)) [])
 (.call 16 [(.agg [(.int .i64 (.a 8)), (.int .i64 (.a 9)), (.int .i64 (.a 10)), (.int .i64 (.a 11)), (.int .i64 (.a 12)), (.int .i64 (.a 13))])] [] [(.one (.int .i64))]
 (.ite (.not (.eq (.a 15) (.l 0)))
  (.ret false (.int .i64 (.l 0)) [])
  (.jump 0 [(.l 0), (.a 0), (.a 1), (.a 2), (.a 3), (.a 4), (.a 5), (.a 6), (.a 7), (.a 8), (.a 9), (.a 10), (.a 11), (.a 12), (.a 13)] [] [(.va 0)])))))
def a1E : PT :=
 (.ite (.lt (.a 0) (.l 6))
 (.call 45 [(.agg [(.int .i64 (.a 1)), (.int .i64 (.a 2)), (.int .i64 (.a 3)), (.int .i64 (.a 4)), (.int .i64 (.a 5)), (.int .i64 (.a 6)), (.int .i64 (.a 7)), (.int .i64 (.a 8)), (.va 0)]), (.int .i64 (.a 0))] [] [(.one .bool)]
 (.ite (.not (.a 0))
  (.ite (.eq (.a 0) (.l 5))
  (.jump 0 [(.l 6), (.a 1), (.a 2), (.a 3), (.a 4), (.a 5), (.a 6), (.a 7), (.a 8), (.a 9), (.a 10), (.a 11), (.a 12), (.a 13), (.l 0)] [] [(.va 0)])
  (.ite (.eq (.a 0) (.l 4))
   (.jump 0 [(.l 5), (.a 1), (.a 2), (.a 3), (.a 4), (.a 5), (.a 6), (.a 7), (.a 8), (.a 9), (.a 10), (.a 11), (.a 12), (.l 0), (.a 14)] [] [(.va 0)])
   (.ite (.eq (.a 0) (.l 3))
   (.jump 0 [(.l 4), (.a 1), (.a 2), (.a 3), (.a 4), (.a 5), (.a 6), (.a 7), (.a 8), (.a 9), (.a 10), (.a 11), (.l 0), (.a 13), (.a 14)] [] [(.va 0)])
   (.ite (.eq (.a 0) (.l 2))
    (.jump 0 [(.l 3), (.a 1), (.a 2), (.a 3), (.a 4), (.a 5), (.a 6), (.a 7), (.a 8), (.a 9), (.a 10), (.l 0), (.a 12), (.a 13), (.a 14)] [] [(.va 0)])
    (.ite (.eq (.a 0) (.l 1))
    (.jump 0 [(.l 2), (.a 1), (.a 2), (.a 3), (.a 4), (.a 5), (.a 6), (.a 7), (.a 8), (.a 9), (.l 0), (.a 11), (.a 12), (.a 13), (.a 14)] [] [(.va 0)])
    (.ite (.eq (.a 0) (.l 0))
     (.jump 0 [(.l 1), (.a 1), (.a 2), (.a 3), (.a 4), (.a 5), (.a 6), (.a 7), (.a 8), (.l 0), (.a 10), (.a 11), (.a 12), (.a 13), (.a 14)] [] [(.va 0)])
     .stuck))))))
  (.need (.and (.le (.l (-9223372036854775808)) (.add (.a 0) (.l 1))) (.le (.add (.a 0) (.l 1)) (.l 9223372036854775807)))
  (.jump 0 [(.add (.a 0) (.l 1)), (.a 1), (.a 2), (.a 3), (.a 4), (.a 5), (.a 6), (.a 7), (.a 8), (.a 9), (.a 10), (.a 11), (.a 12), (.a 13), (.a 14)] [] [(.va 0)]))))
 (.call 51 [(.agg [(.int .i64 (.a 1)), (.int .i64 (.a 2)), (.int .i64 (.a 3)), (.int .i64 (.a 4)), (.int .i64 (.a 5)), (.int .i64 (.a 6)), (.int .i64 (.a 7)), (.int .i64 (.a 8)), (.va 0)]), (.agg [(.int .i64 (.a 9)), (.int .i64 (.a 10)), (.int .i64 (.a 11)), (.int .i64 (.a 12)), (.int .i64 (.a 13)), (.int .i64 (.a 14))])] [] [(.one .val)]
 (.need (.is 0 1)
 (.need (.and (.le (.l (-9223372036854775808)) (.sub (.slen 1) (.l 1))) (.le (.sub (.slen 1) (.l 1)) (.l 9223372036854775807)))
 (.need (.and (.le (.l 0) (.sub (.slen 1) (.l 1))) (.lt (.sub (.slen 1) (.l 1)) (.slen 1)))
 (.load false (.ea 1 (.sub (.slen 1) (.l 1)) 1 0) [(.int .i64)]
 (.ret false (.int .i64 (.a 15)) [])))))))
def saleroomref13_Value_S : Sx.Sys := ⟨[(.sh (.agg [(.int .i64), (.int .i64), (.int .i64), (.int .i64), (.int .i64), (.int .i64), (.int .i64), (.int .i64), .val])), (.sh (.agg [(.int .i64), (.int .i64), (.int .i64), (.int .i64), (.int .i64), (.int .i64)]))], a2f, [a1E], none, none⟩
def a8v : List Cfg := [{ todo := [(.code [false, false, true, false, true, true]), (.inLoop [false, false, true, false, true, true]), (.inBlock 0), (.code [true, true, true])], sl := [(.junk 0), (.junk 1), (.ptr 0 0), (.ptr 1 0), (.junk 2), (.int .i64 (.a 0)), .undef, (.junk 3), (.junk 4), (.junk 5), (.junk 6), (.junk 7), (.junk 8), (.junk 9), (.junk 10), (.junk 11), (.junk 12), (.junk 13), (.junk 14), (.junk 15), (.junk 16), (.junk 17), (.junk 18), (.junk 19), (.junk 20), .undef, .undef, .undef, .undef, .undef, .undef, .undef, .undef, .undef], H := [(.cells [(.int .i64 (.a 1)), (.int .i64 (.a 2)), (.int .i64 (.a 3)), (.int .i64 (.a 4)), (.int .i64 (.a 5)), (.int .i64 (.a 6)), (.int .i64 (.a 7)), (.int .i64 (.a 8)), (.va 0)] 26 false), (.cells [(.int .i64 (.a 9)), (.int .i64 (.a 10)), (.int .i64 (.a 11)), (.int .i64 (.a 12)), (.int .i64 (.a 13)), (.int .i64 (.a 14))] 23 false)], ni := 15, nb := 0, nv := 1, nj := 21 }]
theorem b0k : SysOk Try.prog 21 saleroomref13_Value_S := a0C (c := (cg [[false, false, true, false, true, true]] [] [] false false false true)) (a0l _ _ _ _ _ _ _ _ _) Try.func21 Try.call21 (by kernel_rfl) a8v saleroomref13_Value_S 5000 rfl (by kernel_rfl) (by kernel_rfl) rfl
def b1L : PT :=
 (.jump 0 [(.a 0), (.l 0), (.l 0), (.l 0), (.l 0), (.l 0), (.l 0), (.l 0)] [] [(.va 0)])
def b0E : PT :=
 (.need (.is 0 0)
 (.ite (.lt (.a 1) (.slen 0))
 (.need (.and (.le (.l 0) (.a 1)) (.lt (.a 1) (.slen 0)))
 (.load false (.ea 0 (.a 1) 1 0) [(.int .i64)]
 (.ite (.eq (.a 1) (.l 5))
  (.jump 0 [(.a 0), (.l 6), (.a 2), (.a 3), (.a 4), (.a 5), (.a 6), (.a 8)] [] [(.va 0)])
  (.ite (.eq (.a 1) (.l 4))
  (.jump 0 [(.a 0), (.l 5), (.a 2), (.a 3), (.a 4), (.a 5), (.a 8), (.a 7)] [] [(.va 0)])
  (.ite (.eq (.a 1) (.l 3))
   (.jump 0 [(.a 0), (.l 4), (.a 2), (.a 3), (.a 4), (.a 8), (.a 6), (.a 7)] [] [(.va 0)])
   (.ite (.eq (.a 1) (.l 2))
   (.jump 0 [(.a 0), (.l 3), (.a 2), (.a 3), (.a 8), (.a 5), (.a 6), (.a 7)] [] [(.va 0)])
   (.ite (.eq (.a 1) (.l 1))
    (.jump 0 [(.a 0), (.l 2), (.a 2), (.a 8), (.a 4), (.a 5), (.a 6), (.a 7)] [] [(.va 0)])
    (.ite (.eq (.a 1) (.l 0))
    (.jump 0 [(.a 0), (.l 1), (.a 8), (.a 3), (.a 4), (.a 5), (.a 6), (.a 7)] [] [(.va 0)])
    .stuck))))))))
 (.ret false (.agg [(.int .i64 (.l 1)), (.int .i64 (.a 2)), (.int .i64 (.a 3)), (.int .i64 (.a 4)), (.int .i64 (.a 5)), (.int .i64 (.a 6)), (.int .i64 (.a 7)), (.int .i64 (.a 0)), .nilS]) [])))
def saleroomlaw13_atom_S : Sx.Sys := ⟨[(.sh (.one (.int .i64))), (.sh (.one .val))], b1L, [b0E], none, none⟩
def a9t : List Cfg := [{ todo := [(.code [false, false, true, false, true, true]), (.inLoop [false, false, true, false, true, true]), (.inBlock 0), (.code [true, true, true])], sl := [(.int .i64 (.a 0)), (.va 0), .undef, .undef, (.ptr 0 0), (.ptr 1 0), (.int .i64 (.a 1)), (.junk 0), (.junk 1), (.junk 2), (.junk 3), (.junk 4), (.junk 5), (.junk 6), (.junk 7), (.junk 8), (.junk 9), (.junk 10), (.junk 11), .undef, .undef, .undef], H := [(.cells [(.int .i64 (.l 0)), (.int .i64 (.l 0)), (.int .i64 (.l 0)), (.int .i64 (.l 0)), (.int .i64 (.l 0)), (.int .i64 (.l 0)), (.int .i64 (.l 0)), (.int .i64 (.l 0)), .nilS] 26 false), (.cells [(.int .i64 (.a 2)), (.int .i64 (.a 3)), (.int .i64 (.a 4)), (.int .i64 (.a 5)), (.int .i64 (.a 6)), (.int .i64 (.a 7))] 23 false)], ni := 8, nb := 0, nv := 1, nj := 12 }]
theorem b0L : SysOk Try.prog 47 saleroomlaw13_atom_S := a0C (c := (cg [[false, false, true, false, true, true]] [] [] false false false true)) (a0l _ _ _ _ _ _ _ _ _) Try.func47 Try.call47 (by kernel_rfl) a9t saleroomlaw13_atom_S 5000 rfl (by kernel_rfl) (by kernel_rfl) rfl
def a4z : PT :=
 (.load false (.pa 0 0) [.val]
 (.load false (.pa 1 0) [(.int .i64)]
 (.need (.and (.le (.l 0) (.a 1)) (.lt (.a 1) (.slen 2)))
 (.load false (.ea 2 (.a 1) 1 0) [(.int .i64)]
 (.load false (.pa 0 0) [.val]
 (.need (.and (.le (.l 0) (.a 0)) (.lt (.a 0) (.slen 3)))
 (.load false (.ea 3 (.a 0) 1 0) [(.int .i64)]
 (.load false (.pa 0 0) [.val]
 (.load false (.pa 1 0) [(.int .i64)]
 (.need (.and (.le (.l 0) (.a 4)) (.lt (.a 4) (.slen 4)))
 (.storeM (.ea 4 (.a 4) 1 0) [(.int .i64 (.mx (.a 2) (.a 3)))]
 (.ret true (.tup []) []))))))))))))
def valuation_Table_1_S : Sx.Sys := ⟨[(.sh (.one (.int .i64))), .ptr, .ptr], a4z, [], none, none⟩
def b0e : List Cfg := []
theorem b2k : SysOk Try.prog 55 valuation_Table_1_S := a0C (c := (cg [] [] [] true true false true)) (a0l _ _ _ _ _ _ _ _ _) Try.func55 Try.call55 (by kernel_rfl) b0e valuation_Table_1_S 5000 rfl (by kernel_rfl) (by kernel_rfl) rfl
def a3b : PT :=
 (.app none (.lit [[(.int .i64 (.a 0)), (.int .i64 (.a 1)), (.int .i64 (.a 2)), (.int .i64 (.a 3)), (.int .i64 (.a 4)), (.int .i64 (.a 5)), (.int .i64 (.a 6)), (.int .i64 (.a 7)), (.va 0)]]) 9
 (.jump 0 [(.l 0), (.a 0), (.a 1), (.a 2), (.a 3), (.a 4), (.a 5), (.a 6), (.a 7)] [] [(.va 1), (.va 0)]))
def a2N : PT :=
 (.need (.is 0 1)
 (.ite (.lt (.a 0) (.slen 1))
 (.need (.and (.le (.l 0) (.a 0)) (.lt (.a 0) (.slen 1)))
 (.load false (.ea 1 (.a 0) 9 0) [(.int .i64), (.int .i64), (.int .i64), (.int .i64), (.int .i64), (.int .i64), (.int .i64), (.int .i64), .val]
 (.call 80 [(.agg [(.int .i64 (.a 9)), (.int .i64 (.a 10)), (.int .i64 (.a 11)), (.int .i64 (.a 12)), (.int .i64 (.a 13)), (.int .i64 (.a 14)), (.int .i64 (.a 15)), (.int .i64 (.a 16)), (.va 2)])] [] [(.one .val)]
 (.app (some 0) (.va 3) 9
 (.need (.and (.le (.l (-9223372036854775808)) (.add (.a 0) (.l 1))) (.le (.add (.a 0) (.l 1)) (.l 9223372036854775807)))
 (.jump 0 [(.add (.a 0) (.l 1)), (.a 1), (.a 2), (.a 3), (.a 4), (.a 5), (.a 6), (.a 7), (.a 8)] [] [(.va 4), (.va 1)]))))))
 (.ret false (.va 0) [])))
def saleroomref11_Preorder_S : Sx.Sys := ⟨[(.sh (.agg [(.int .i64), (.int .i64), (.int .i64), (.int .i64), (.int .i64), (.int .i64), (.int .i64), (.int .i64), .val]))], a3b, [a2N], none, none⟩
def a7x : List Cfg := [{ todo := [(.code [false, false, true, false, true, true]), (.inLoop [false, false, true, false, true, true]), (.inBlock 0), (.code [true, true, true])], sl := [(.junk 0), (.ptr 0 0), (.junk 1), (.va 0), (.int .i64 (.a 0)), (.junk 2), (.junk 3), (.junk 4), (.junk 5), (.junk 6), (.junk 7), (.junk 8), (.junk 9), (.junk 10), (.junk 11), (.junk 12), (.junk 13), (.junk 14), (.junk 15), (.junk 16), (.junk 17), (.junk 18), .undef], H := [(.cells [(.int .i64 (.a 1)), (.int .i64 (.a 2)), (.int .i64 (.a 3)), (.int .i64 (.a 4)), (.int .i64 (.a 5)), (.int .i64 (.a 6)), (.int .i64 (.a 7)), (.int .i64 (.a 8)), (.va 1)] 26 false), (.row 0 26 9)], ni := 9, nb := 0, nv := 2, nj := 19 }]
theorem a7V : SysOk Try.prog 80 saleroomref11_Preorder_S := a0C (c := (cg [[false, false, true, false, true, true]] [] [] false false false true)) (a0l _ _ _ _ _ _ _ _ _) Try.func80 Try.call80 (by kernel_rfl) a7x saleroomref11_Preorder_S 5000 rfl (by kernel_rfl) (by kernel_rfl) rfl
def a4W : PT :=
 (.ite (.lt (.a 5) (.a 11))
 (.need (.and (.le (.l (-9223372036854775808)) (.add (.a 5) (.l 1))) (.le (.add (.a 5) (.l 1)) (.l 9223372036854775807)))
 (.ret false (.agg [(.int .i64 (.a 0)), (.int .i64 (.a 1)), (.int .i64 (.a 2)), (.int .i64 (.a 3)), (.int .i64 (.a 4)), (.int .i64 (.add (.a 5) (.l 1)))]) []))
 (.ite (.lt (.a 4) (.a 10))
  (.need (.and (.le (.l (-9223372036854775808)) (.add (.a 4) (.l 1))) (.le (.add (.a 4) (.l 1)) (.l 9223372036854775807)))
  (.ret false (.agg [(.int .i64 (.a 0)), (.int .i64 (.a 1)), (.int .i64 (.a 2)), (.int .i64 (.a 3)), (.int .i64 (.add (.a 4) (.l 1))), (.int .i64 (.l 0))]) []))
  (.ite (.lt (.a 3) (.a 9))
  (.need (.and (.le (.l (-9223372036854775808)) (.add (.a 3) (.l 1))) (.le (.add (.a 3) (.l 1)) (.l 9223372036854775807)))
  (.ret false (.agg [(.int .i64 (.a 0)), (.int .i64 (.a 1)), (.int .i64 (.a 2)), (.int .i64 (.add (.a 3) (.l 1))), (.int .i64 (.l 0)), (.int .i64 (.l 0))]) []))
  (.ite (.lt (.a 2) (.a 8))
   (.need (.and (.le (.l (-9223372036854775808)) (.add (.a 2) (.l 1))) (.le (.add (.a 2) (.l 1)) (.l 9223372036854775807)))
   (.ret false (.agg [(.int .i64 (.a 0)), (.int .i64 (.a 1)), (.int .i64 (.add (.a 2) (.l 1))), (.int .i64 (.l 0)), (.int .i64 (.l 0)), (.int .i64 (.l 0))]) []))
   (.ite (.lt (.a 1) (.a 7))
   (.need (.and (.le (.l (-9223372036854775808)) (.add (.a 1) (.l 1))) (.le (.add (.a 1) (.l 1)) (.l 9223372036854775807)))
   (.ret false (.agg [(.int .i64 (.a 0)), (.int .i64 (.add (.a 1) (.l 1))), (.int .i64 (.l 0)), (.int .i64 (.l 0)), (.int .i64 (.l 0)), (.int .i64 (.l 0))]) []))
   (.ite (.lt (.a 0) (.a 6))
    (.need (.and (.le (.l (-9223372036854775808)) (.add (.a 0) (.l 1))) (.le (.add (.a 0) (.l 1)) (.l 9223372036854775807)))
    (.ret false (.agg [(.int .i64 (.add (.a 0) (.l 1))), (.int .i64 (.l 0)), (.int .i64 (.l 0)), (.int .i64 (.l 0)), (.int .i64 (.l 0)), (.int .i64 (.l 0))]) []))
    (.ret false (.agg [(.int .i64 (.l 0)), (.int .i64 (.l 0)), (.int .i64 (.l 0)), (.int .i64 (.l 0)), (.int .i64 (.l 0)), (.int .i64 (.l 0))]) [])))))))
def bundle_following_S : Sx.Sys := ⟨[(.sh (.agg [(.int .i64), (.int .i64), (.int .i64), (.int .i64), (.int .i64), (.int .i64)])), (.sh (.agg [(.int .i64), (.int .i64), (.int .i64), (.int .i64), (.int .i64), (.int .i64)]))], a4W, [], none, none⟩
def b0W : List Cfg := []
theorem a6F : SysOk Try.prog 96 bundle_following_S := a0C (c := (cg [] [] [] false false false true)) (a0l _ _ _ _ _ _ _ _ _) Try.func96 Try.call96 (by kernel_rfl) b0W bundle_following_S 5000 rfl (by kernel_rfl) (by kernel_rfl) rfl
end Go.Proofs.Ythmkfeiapdbojaa
