/- The trees of this seat's functions, part 0. Written by txgen.py. -/
import Derived.Test.YthmkfeiapdbojaaHTab
set_option linter.unusedSimpArgs false
set_option linter.unusedVariables false
set_option maxRecDepth 100000
namespace Go.Proofs.Ythmkfeiapdbojaa
open Go.Sx
def a0B : PT :=
 (.call 15 [(.agg [(.int .i64 (.a 0)), (.int .i64 (.a 1)), (.int .i64 (.a 2)), (.int .i64 (.a 3)), (.int .i64 (.a 4)), (.int .i64 (.a 5)), (.int .i64 (.a 6)), (.int .i64 (.a 7)), (.va 0)])] [] [(.one .bool)]
 (.ite (.not (.a 0))
 (.call 17 [] [] [(.one .bool)]
 (.ret false (.bool (.a 1)) []))
 (.call 16 [(.agg [(.int .i64 (.a 8)), (.int .i64 (.a 9)), (.int .i64 (.a 10)), (.int .i64 (.a 11)), (.int .i64 (.a 12)), (.int .i64 (.a 13))])] [] [(.one (.int .i64))]
 (.ite (.not (.eq (.a 20) (.l 0)))
  (.call 17 [] [] [(.one .bool)]
  (.ret false (.bool (.a 1)) []))
  (.call 16 [(.agg [(.int .i64 (.a 14)), (.int .i64 (.a 15)), (.int .i64 (.a 16)), (.int .i64 (.a 17)), (.int .i64 (.a 18)), (.int .i64 (.a 19))])] [] [(.one (.int .i64))]
  (.ite (.not (.eq (.a 21) (.l 0)))
  (.call 17 [] [] [(.one .bool)]
  (.ret false (.bool (.a 1)) []))
  (.call 18 [(.agg [(.int .i64 (.a 0)), (.int .i64 (.a 1)), (.int .i64 (.a 2)), (.int .i64 (.a 3)), (.int .i64 (.a 4)), (.int .i64 (.a 5)), (.int .i64 (.a 6)), (.int .i64 (.a 7)), (.va 0)]), (.agg [(.int .i64 (.a 8)), (.int .i64 (.a 9)), (.int .i64 (.a 10)), (.int .i64 (.a 11)), (.int .i64 (.a 12)), (.int .i64 (.a 13))])] [] [(.one (.int .i64))]
  (.call 18 [(.agg [(.int .i64 (.a 0)), (.int .i64 (.a 1)), (.int .i64 (.a 2)), (.int .i64 (.a 3)), (.int .i64 (.a 4)), (.int .i64 (.a 5)), (.int .i64 (.a 6)), (.int .i64 (.a 7)), (.va 0)]), (.agg [(.int .i64 (.a 14)), (.int .i64 (.a 15)), (.int .i64 (.a 16)), (.int .i64 (.a 17)), (.int .i64 (.a 18)), (.int .i64 (.a 19))])] [] [(.one (.int .i64))]
  (.call 19 [(.agg [(.int .i64 (.a 8)), (.int .i64 (.a 9)), (.int .i64 (.a 10)), (.int .i64 (.a 11)), (.int .i64 (.a 12)), (.int .i64 (.a 13))]), (.agg [(.int .i64 (.a 14)), (.int .i64 (.a 15)), (.int .i64 (.a 16)), (.int .i64 (.a 17)), (.int .i64 (.a 18)), (.int .i64 (.a 19))])] [] [(.agg [(.int .i64), (.int .i64), (.int .i64), (.int .i64), (.int .i64), (.int .i64)])]
  (.call 18 [(.agg [(.int .i64 (.a 0)), (.int .i64 (.a 1)), (.int .i64 (.a 2)), (.int .i64 (.a 3)), (.int .i64 (.a 4)), (.int .i64 (.a 5)), (.int .i64 (.a 6)), (.int .i64 (.a 7)), (.va 0)]), (.agg [(.int .i64 (.a 24)), (.int .i64 (.a 25)), (.int .i64 (.a 26)), (.int .i64 (.a 27)), (.int .i64 (.a 28)), (.int .i64 (.a 29))])] [] [(.one (.int .i64))]
  (.ite (.le (.a 30) (.a 22))
   (.ite (.le (.a 30) (.a 23))
   (.ite (.le (.l 0) (.a 22))
    (.call 20 [(.agg [(.int .i64 (.a 0)), (.int .i64 (.a 1)), (.int .i64 (.a 2)), (.int .i64 (.a 3)), (.int .i64 (.a 4)), (.int .i64 (.a 5)), (.int .i64 (.a 6)), (.int .i64 (.a 7)), (.va 0)])] [] [(.one (.int .i64))]
    (.ite (.le (.a 22) (.a 31))
    (.call 20 [(.agg [(.int .i64 (.a 0)), (.int .i64 (.a 1)), (.int .i64 (.a 2)), (.int .i64 (.a 3)), (.int .i64 (.a 4)), (.int .i64 (.a 5)), (.int .i64 (.a 6)), (.int .i64 (.a 7)), (.va 0)])] [] [(.one (.int .i64))]
    (.ite (.le (.a 23) (.a 32))
     (.call 18 [(.agg [(.int .i64 (.a 0)), (.int .i64 (.a 1)), (.int .i64 (.a 2)), (.int .i64 (.a 3)), (.int .i64 (.a 4)), (.int .i64 (.a 5)), (.int .i64 (.a 6)), (.int .i64 (.a 7)), (.va 0)]), (.agg [(.int .i64 (.l 0)), (.int .i64 (.l 0)), (.int .i64 (.l 0)), (.int .i64 (.l 0)), (.int .i64 (.l 0)), (.int .i64 (.l 0))])] [] [(.one (.int .i64))]
     (.ite (.eq (.a 33) (.l 0))
     (.call 17 [] [] [(.one .bool)]
     (.ret false (.bool (.a 1)) []))
     (.ret false (.bool (.t false)) [])))
     (.ret false (.bool (.t false)) [])))
    (.ret false (.bool (.t false)) [])))
    (.ret false (.bool (.t false)) []))
   (.ret false (.bool (.t false)) []))
   (.ret false (.bool (.t false)) []))))))))))))
def saleroomlaw13_ValuationMonotone_S : Sx.Sys := ⟨[(.sh (.agg [(.int .i64), (.int .i64), (.int .i64), (.int .i64), (.int .i64), (.int .i64), (.int .i64), (.int .i64), .val])), (.sh (.agg [(.int .i64), (.int .i64), (.int .i64), (.int .i64), (.int .i64), (.int .i64)])), (.sh (.agg [(.int .i64), (.int .i64), (.int .i64), (.int .i64), (.int .i64), (.int .i64)]))], a0B, [], none, none⟩
def a3N : List Cfg := []
theorem a4q : SysOk Try.prog 3 saleroomlaw13_ValuationMonotone_S := a0D (c := (cg [] [] [] false false false true)) (a0w _ _ _ _ _ _ _ _ _) Try.func3 Try.call3 (by kernel_rfl) a3N saleroomlaw13_ValuationMonotone_S 5000 rfl (by kernel_rfl) (by kernel_rfl) rfl
def a3t : PT :=
 (.ite (.lt (.a 6) (.a 0))
 (.ite (.lt (.a 7) (.a 1))
  (.ite (.lt (.a 8) (.a 2))
  (.ite (.lt (.a 9) (.a 3))
   (.ite (.lt (.a 10) (.a 4))
   (.ite (.lt (.a 11) (.a 5))
    (.ret false (.agg [(.int .i64 (.a 6)), (.int .i64 (.a 7)), (.int .i64 (.a 8)), (.int .i64 (.a 9)), (.int .i64 (.a 10)), (.int .i64 (.a 11))]) [])
    (.ret false (.agg [(.int .i64 (.a 6)), (.int .i64 (.a 7)), (.int .i64 (.a 8)), (.int .i64 (.a 9)), (.int .i64 (.a 10)), (.int .i64 (.a 5))]) []))
   (.ite (.lt (.a 11) (.a 5))
    (.ret false (.agg [(.int .i64 (.a 6)), (.int .i64 (.a 7)), (.int .i64 (.a 8)), (.int .i64 (.a 9)), (.int .i64 (.a 4)), (.int .i64 (.a 11))]) [])
    (.ret false (.agg [(.int .i64 (.a 6)), (.int .i64 (.a 7)), (.int .i64 (.a 8)), (.int .i64 (.a 9)), (.int .i64 (.a 4)), (.int .i64 (.a 5))]) [])))
   (.ite (.lt (.a 10) (.a 4))
   (.ite (.lt (.a 11) (.a 5))
    (.ret false (.agg [(.int .i64 (.a 6)), (.int .i64 (.a 7)), (.int .i64 (.a 8)), (.int .i64 (.a 3)), (.int .i64 (.a 10)), (.int .i64 (.a 11))]) [])
    (.ret false (.agg [(.int .i64 (.a 6)), (.int .i64 (.a 7)), (.int .i64 (.a 8)), (.int .i64 (.a 3)), (.int .i64 (.a 10)), (.int .i64 (.a 5))]) []))
   (.ite (.lt (.a 11) (.a 5))
    (.ret false (.agg [(.int .i64 (.a 6)), (.int .i64 (.a 7)), (.int .i64 (.a 8)), (.int .i64 (.a 3)), (.int .i64 (.a 4)), (.int .i64 (.a 11))]) [])
    (.ret false (.agg [(.int .i64 (.a 6)), (.int .i64 (.a 7)), (.int .i64 (.a 8)), (.int .i64 (.a 3)), (.int .i64 (.a 4)), (.int .i64 (.a 5))]) []))))
  (.ite (.lt (.a 9) (.a 3))
   (.ite (.lt (.a 10) (.a 4))
   (.ite (.lt (.a 11) (.a 5))
    (.ret false (.agg [(.int .i64 (.a 6)), (.int .i64 (.a 7)), (.int .i64 (.a 2)), (.int .i64 (.a 9)), (.int .i64 (.a 10)), (.int .i64 (.a 11))]) [])
    (.ret false (.agg [(.int .i64 (.a 6)), (.int .i64 (.a 7)), (.int .i64 (.a 2)), (.int .i64 (.a 9)), (.int .i64 (.a 10)), (.int .i64 (.a 5))]) []))
   (.ite (.lt (.a 11) (.a 5))
    (.ret false (.agg [(.int .i64 (.a 6)), (.int .i64 (.a 7)), (.int .i64 (.a 2)), (.int .i64 (.a 9)), (.int .i64 (.a 4)), (.int .i64 (.a 11))]) [])
    (.ret false (.agg [(.int .i64 (.a 6)), (.int .i64 (.a 7)), (.int .i64 (.a 2)), (.int .i64 (.a 9)), (.int .i64 (.a 4)), (.int .i64 (.a 5))]) [])))
   (.ite (.lt (.a 10) (.a 4))
   (.ite (.lt (.a 11) (.a 5))
    (.ret false (.agg [(.int .i64 (.a 6)), (.int .i64 (.a 7)), (.int .i64 (.a 2)), (.int .i64 (.a 3)), (.int .i64 (.a 10)), (.int .i64 (.a 11))]) [])
    (.ret false (.agg [(.int .i64 (.a 6)), (.int .i64 (.a 7)), (.int .i64 (.a 2)), (.int .i64 (.a 3)), (.int .i64 (.a 10)), (.int .i64 (.a 5))]) []))
   (.ite (.lt (.a 11) (.a 5))
    (.ret false (.agg [(.int .i64 (.a 6)), (.int .i64 (.a 7)), (.int .i64 (.a 2)), (.int .i64 (.a 3)), (.int .i64 (.a 4)), (.int .i64 (.a 11))]) [])
    (.ret false (.agg [(.int .i64 (.a 6)), (.int .i64 (.a 7)), (.int .i64 (.a 2)), (.int .i64 (.a 3)), (.int .i64 (.a 4)), (.int .i64 (.a 5))]) [])))))
  (.ite (.lt (.a 8) (.a 2))
  (.ite (.lt (.a 9) (.a 3))
   (.ite (.lt (.a 10) (.a 4))
   (.ite (.lt (.a 11) (.a 5))
    (.ret false (.agg [(.int .i64 (.a 6)), (.int .i64 (.a 1)), (.int .i64 (.a 8)), (.int .i64 (.a 9)), (.int .i64 (.a 10)), (.int .i64 (.a 11))]) [])
    (.ret false (.agg [(.int .i64 (.a 6)), (.int .i64 (.a 1)), (.int .i64 (.a 8)), (.int .i64 (.a 9)), (.int .i64 (.a 10)), (.int .i64 (.a 5))]) []))
   (.ite (.lt (.a 11) (.a 5))
    (.ret false (.agg [(.int .i64 (.a 6)), (.int .i64 (.a 1)), (.int .i64 (.a 8)), (.int .i64 (.a 9)), (.int .i64 (.a 4)), (.int .i64 (.a 11))]) [])
    (.ret false (.agg [(.int .i64 (.a 6)), (.int .i64 (.a 1)), (.int .i64 (.a 8)), (.int .i64 (.a 9)), (.int .i64 (.a 4)), (.int .i64 (.a 5))]) [])))
   (.ite (.lt (.a 10) (.a 4))
   (.ite (.lt (.a 11) (.a 5))
    (.ret false (.agg [(.int .i64 (.a 6)), (.int .i64 (.a 1)), (.int .i64 (.a 8)), (.int .i64 (.a 3)), (.int .i64 (.a 10)), (.int .i64 (.a 11))]) [])
    (.ret false (.agg [(.int .i64 (.a 6)), (.int .i64 (.a 1)), (.int .i64 (.a 8)), (.int .i64 (.a 3)), (.int .i64 (.a 10)), (.int .i64 (.a 5))]) []))
   (.ite (.lt (.a 11) (.a 5))
    (.ret false (.agg [(.int .i64 (.a 6)), (.int .i64 (.a 1)), (.int .i64 (.a 8)), (.int .i64 (.a 3)), (.int .i64 (.a 4)), (.int .i64 (.a 11))]) [])
    (.ret false (.agg [(.int .i64 (.a 6)), (.int .i64 (.a 1)), (.int .i64 (.a 8)), (.int .i64 (.a 3)), (.int .i64 (.a 4)), (.int .i64 (.a 5))]) []))))
  (.ite (.lt (.a 9) (.a 3))
   (.ite (.lt (.a 10) (.a 4))
   (.ite (.lt (.a 11) (.a 5))
    (.ret false (.agg [(.int .i64 (.a 6)), (.int .i64 (.a 1)), (.int .i64 (.a 2)), (.int .i64 (.a 9)), (.int .i64 (.a 10)), (.int .i64 (.a 11))]) [])
    (.ret false (.agg [(.int .i64 (.a 6)), (.int .i64 (.a 1)), (.int .i64 (.a 2)), (.int .i64 (.a 9)), (.int .i64 (.a 10)), (.int .i64 (.a 5))]) []))
   (.ite (.lt (.a 11) (.a 5))
    (.ret false (.agg [(.int .i64 (.a 6)), (.int .i64 (.a 1)), (.int .i64 (.a 2)), (.int .i64 (.a 9)), (.int .i64 (.a 4)), (.int .i64 (.a 11))]) [])
    (.ret false (.agg [(.int .i64 (.a 6)), (.int .i64 (.a 1)), (.int .i64 (.a 2)), (.int .i64 (.a 9)), (.int .i64 (.a 4)), (.int .i64 (.a 5))]) [])))
   (.ite (.lt (.a 10) (.a 4))
   (.ite (.lt (.a 11) (.a 5))
    (.ret false (.agg [(.int .i64 (.a 6)), (.int .i64 (.a 1)), (.int .i64 (.a 2)), (.int .i64 (.a 3)), (.int .i64 (.a 10)), (.int .i64 (.a 11))]) [])
    (.ret false (.agg [(.int .i64 (.a 6)), (.int .i64 (.a 1)), (.int .i64 (.a 2)), (.int .i64 (.a 3)), (.int .i64 (.a 10)), (.int .i64 (.a 5))]) []))
   (.ite (.lt (.a 11) (.a 5))
    (.ret false (.agg [(.int .i64 (.a 6)), (.int .i64 (.a 1)), (.int .i64 (.a 2)), (.int .i64 (.a 3)), (.int .i64 (.a 4)), (.int .i64 (.a 11))]) [])
    (.ret false (.agg [(.int .i64 (.a 6)), (.int .i64 (.a 1)), (.int .i64 (.a 2)), (.int .i64 (.a 3)), (.int .i64 (.a 4)), (.int .i64 (.a 5))]) []))))))
 (.ite (.lt (.a 7) (.a 1))
  (.ite (.lt (.a 8) (.a 2))
  (.ite (.lt (.a 9) (.a 3))
   (.ite (.lt (.a 10) (.a 4))
   (.ite (.lt (.a 11) (.a 5))
    (.ret false (.agg [(.int .i64 (.a 0)), (.int .i64 (.a 7)), (.int .i64 (.a 8)), (.int .i64 (.a 9)), (.int .i64 (.a 10)), (.int .i64 (.a 11))]) [])
    (.ret false (.agg [(.int .i64 (.a 0)), (.int .i64 (.a 7)), (.int .i64 (.a 8)), (.int .i64 (.a 9)), (.int .i64 (.a 10)), (.int .i64 (.a 5))]) []))
   (.ite (.lt (.a 11) (.a 5))
    (.ret false (.agg [(.int .i64 (.a 0)), (.int .i64 (.a 7)), (.int .i64 (.a 8)), (.int .i64 (.a 9)), (.int .i64 (.a 4)), (.int .i64 (.a 11))]) [])
    (.ret false (.agg [(.int .i64 (.a 0)), (.int .i64 (.a 7)), (.int .i64 (.a 8)), (.int .i64 (.a 9)), (.int .i64 (.a 4)), (.int .i64 (.a 5))]) [])))
   (.ite (.lt (.a 10) (.a 4))
   (.ite (.lt (.a 11) (.a 5))
    (.ret false (.agg [(.int .i64 (.a 0)), (.int .i64 (.a 7)), (.int .i64 (.a 8)), (.int .i64 (.a 3)), (.int .i64 (.a 10)), (.int .i64 (.a 11))]) [])
    (.ret false (.agg [(.int .i64 (.a 0)), (.int .i64 (.a 7)), (.int .i64 (.a 8)), (.int .i64 (.a 3)), (.int .i64 (.a 10)), (.int .i64 (.a 5))]) []))
   (.ite (.lt (.a 11) (.a 5))
    (.ret false (.agg [(.int .i64 (.a 0)), (.int .i64 (.a 7)), (.int .i64 (.a 8)), (.int .i64 (.a 3)), (.int .i64 (.a 4)), (.int .i64 (.a 11))]) [])
    (.ret false (.agg [(.int .i64 (.a 0)), (.int .i64 (.a 7)), (.int .i64 (.a 8)), (.int .i64 (.a 3)), (.int .i64 (.a 4)), (.int .i64 (.a 5))]) []))))
  (.ite (.lt (.a 9) (.a 3))
   (.ite (.lt (.a 10) (.a 4))
   (.ite (.lt (.a 11) (.a 5))
    (.ret false (.agg [(.int .i64 (.a 0)), (.int .i64 (.a 7)), (.int .i64 (.a 2)), (.int .i64 (.a 9)), (.int .i64 (.a 10)), (.int .i64 (.a 11))]) [])
    (.ret false (.agg [(.int .i64 (.a 0)), (.int .i64 (.a 7)), (.int .i64 (.a 2)), (.int .i64 (.a 9)), (.int .i64 (.a 10)), (.int .i64 (.a 5))]) []))
   (.ite (.lt (.a 11) (.a 5))
    (.ret false (.agg [(.int .i64 (.a 0)), (.int .i64 (.a 7)), (.int .i64 (.a 2)), (.int .i64 (.a 9)), (.int .i64 (.a 4)), (.int .i64 (.a 11))]) [])
    (.ret false (.agg [(.int .i64 (.a 0)), (.int .i64 (.a 7)), (.int .i64 (.a 2)), (.int .i64 (.a 9)), (.int .i64 (.a 4)), (.int .i64 (.a 5))]) [])))
   (.ite (.lt (.a 10) (.a 4))
   (.ite (.lt (.a 11) (.a 5))
    (.ret false (.agg [(.int .i64 (.a 0)), (.int .i64 (.a 7)), (.int .i64 (.a 2)), (.int .i64 (.a 3)), (.int .i64 (.a 10)), (.int .i64 (.a 11))]) [])
    (.ret false (.agg [(.int .i64 (.a 0)), (.int .i64 (.a 7)), (.int .i64 (.a 2)), (.int .i64 (.a 3)), (.int .i64 (.a 10)), (.int .i64 (.a 5))]) []))
   (.ite (.lt (.a 11) (.a 5))
    (.ret false (.agg [(.int .i64 (.a 0)), (.int .i64 (.a 7)), (.int .i64 (.a 2)), (.int .i64 (.a 3)), (.int .i64 (.a 4)), (.int .i64 (.a 11))]) [])
    (.ret false (.agg [(.int .i64 (.a 0)), (.int .i64 (.a 7)), (.int .i64 (.a 2)), (.int .i64 (.a 3)), (.int .i64 (.a 4)), (.int .i64 (.a 5))]) [])))))
  (.ite (.lt (.a 8) (.a 2))
  (.ite (.lt (.a 9) (.a 3))
   (.ite (.lt (.a 10) (.a 4))
   (.ite (.lt (.a 11) (.a 5))
    (.ret false (.agg [(.int .i64 (.a 0)), (.int .i64 (.a 1)), (.int .i64 (.a 8)), (.int .i64 (.a 9)), (.int .i64 (.a 10)), (.int .i64 (.a 11))]) [])
    (.ret false (.agg [(.int .i64 (.a 0)), (.int .i64 (.a 1)), (.int .i64 (.a 8)), (.int .i64 (.a 9)), (.int .i64 (.a 10)), (.int .i64 (.a 5))]) []))
   (.ite (.lt (.a 11) (.a 5))
    (.ret false (.agg [(.int .i64 (.a 0)), (.int .i64 (.a 1)), (.int .i64 (.a 8)), (.int .i64 (.a 9)), (.int .i64 (.a 4)), (.int .i64 (.a 11))]) [])
    (.ret false (.agg [(.int .i64 (.a 0)), (.int .i64 (.a 1)), (.int .i64 (.a 8)), (.int .i64 (.a 9)), (.int .i64 (.a 4)), (.int .i64 (.a 5))]) [])))
   (.ite (.lt (.a 10) (.a 4))
   (.ite (.lt (.a 11) (.a 5))
    (.ret false (.agg [(.int .i64 (.a 0)), (.int .i64 (.a 1)), (.int .i64 (.a 8)), (.int .i64 (.a 3)), (.int .i64 (.a 10)), (.int .i64 (.a 11))]) [])
    (.ret false (.agg [(.int .i64 (.a 0)), (.int .i64 (.a 1)), (.int .i64 (.a 8)), (.int .i64 (.a 3)), (.int .i64 (.a 10)), (.int .i64 (.a 5))]) []))
   (.ite (.lt (.a 11) (.a 5))
    (.ret false (.agg [(.int .i64 (.a 0)), (.int .i64 (.a 1)), (.int .i64 (.a 8)), (.int .i64 (.a 3)), (.int .i64 (.a 4)), (.int .i64 (.a 11))]) [])
    (.ret false (.agg [(.int .i64 (.a 0)), (.int .i64 (.a 1)), (.int .i64 (.a 8)), (.int .i64 (.a 3)), (.int .i64 (.a 4)), (.int .i64 (.a 5))]) []))))
  (.ite (.lt (.a 9) (.a 3))
   (.ite (.lt (.a 10) (.a 4))
   (.ite (.lt (.a 11) (.a 5))
    (.ret false (.agg [(.int .i64 (.a 0)), (.int .i64 (.a 1)), (.int .i64 (.a 2)), (.int .i64 (.a 9)), (.int .i64 (.a 10)), (.int .i64 (.a 11))]) [])
    (.ret false (.agg [(.int .i64 (.a 0)), (.int .i64 (.a 1)), (.int .i64 (.a 2)), (.int .i64 (.a 9)), (.int .i64 (.a 10)), (.int .i64 (.a 5))]) []))
   (.ite (.lt (.a 11) (.a 5))
    (.ret false (.agg [(.int .i64 (.a 0)), (.int .i64 (.a 1)), (.int .i64 (.a 2)), (.int .i64 (.a 9)), (.int .i64 (.a 4)), (.int .i64 (.a 11))]) [])
    (.ret false (.agg [(.int .i64 (.a 0)), (.int .i64 (.a 1)), (.int .i64 (.a 2)), (.int .i64 (.a 9)), (.int .i64 (.a 4)), (.int .i64 (.a 5))]) [])))
   (.ite (.lt (.a 10) (.a 4))
   (.ite (.lt (.a 11) (.a 5))
    (.ret false (.agg [(.int .i64 (.a 0)), (.int .i64 (.a 1)), (.int .i64 (.a 2)), (.int .i64 (.a 3)), (.int .i64 (.a 10)), (.int .i64 (.a 11))]) [])
    (.ret false (.agg [(.int .i64 (.a 0)), (.int .i64 (.a 1)), (.int .i64 (.a 2)), (.int .i64 (.a 3)), (.int .i64 (.a 10)), (.int .i64 (.a 5))]) []))
   (.ite (.lt (.a 11) (.a 5))
    (.ret false (.agg [(.int .i64 (.a 0)), (.int .i64 (.a 1)), (.int .i64 (.a 2)), (.int .i64 (.a 3)), (.int .i64 (.a 4)), (.int .i64 (.a 11))]) [])
    (.ret false (.agg [(.int .i64 (.a 0)), (.int .i64 (.a 1)), (.int .i64 (.a 2)), (.int .i64 (.a 3)), (.int .i64 (.a 4)), (.int .i64 (.a 5))]) [])))))))
def saleroomref07_Meet_S : Sx.Sys := ⟨[(.sh (.agg [(.int .i64), (.int .i64), (.int .i64), (.int .i64), (.int .i64), (.int .i64)])), (.sh (.agg [(.int .i64), (.int .i64), (.int .i64), (.int .i64), (.int .i64), (.int .i64)]))], a3t, [], none, none⟩
def a7F : List Cfg := []
theorem a8J : SysOk Try.prog 19 saleroomref07_Meet_S := a0D (c := (cg [] [] [] false false false true)) (a0w _ _ _ _ _ _ _ _ _) Try.func19 Try.call19 (by kernel_rfl) a7F saleroomref07_Meet_S 5000 rfl (by kernel_rfl) (by kernel_rfl) rfl
def a3u : PT :=
 (.ite (.eq (.a 8) (.l 5))
 (.ite (.lt (.l 0) (.a 6))
  (.ret false (.bool (.t true)) [])
  (.jump 0 [(.l 5), (.l 0), (.a 0), (.a 1), (.a 2), (.a 3), (.a 4), (.a 5), (.a 6), (.a 7)] [] [(.va 0)]))
 (.ite (.eq (.a 8) (.l 4))
  (.ite (.lt (.l 0) (.a 5))
  (.ret false (.bool (.t true)) [])
  (.jump 0 [(.l 4), (.l 0), (.a 0), (.a 1), (.a 2), (.a 3), (.a 4), (.a 5), (.a 6), (.a 7)] [] [(.va 0)]))
  (.ite (.eq (.a 8) (.l 3))
  (.ite (.lt (.l 0) (.a 4))
   (.ret false (.bool (.t true)) [])
   (.jump 0 [(.l 3), (.l 0), (.a 0), (.a 1), (.a 2), (.a 3), (.a 4), (.a 5), (.a 6), (.a 7)] [] [(.va 0)]))
  (.ite (.eq (.a 8) (.l 2))
   (.ite (.lt (.l 0) (.a 3))
   (.ret false (.bool (.t true)) [])
   (.jump 0 [(.l 2), (.l 0), (.a 0), (.a 1), (.a 2), (.a 3), (.a 4), (.a 5), (.a 6), (.a 7)] [] [(.va 0)]))
   (.ite (.eq (.a 8) (.l 1))
   (.ite (.lt (.l 0) (.a 2))
    (.ret false (.bool (.t true)) [])
    (.jump 0 [(.l 1), (.l 0), (.a 0), (.a 1), (.a 2), (.a 3), (.a 4), (.a 5), (.a 6), (.a 7)] [] [(.va 0)]))
   (.ite (.eq (.a 8) (.l 0))
    (.ite (.lt (.l 0) (.a 1))
    (.ret false (.bool (.t true)) [])
    (.jump 0 [(.l 0), (.l 0), (.a 0), (.a 1), (.a 2), (.a 3), (.a 4), (.a 5), (.a 6), (.a 7)] [] [(.va 0)]))
    .stuck))))))
def a1h : PT :=
 (.need (.is 0 0)
 (.ite (.lt (.a 1) (.slen 0))
 (.need (.and (.le (.l 0) (.a 1)) (.lt (.a 1) (.slen 0)))
 (.load false (.ea 0 (.a 1) 9 0) [(.int .i64), (.int .i64), (.int .i64), (.int .i64), (.int .i64), (.int .i64), (.int .i64), (.int .i64), .val]
 (.call 45 [(.agg [(.int .i64 (.a 10)), (.int .i64 (.a 11)), (.int .i64 (.a 12)), (.int .i64 (.a 13)), (.int .i64 (.a 14)), (.int .i64 (.a 15)), (.int .i64 (.a 16)), (.int .i64 (.a 17)), (.va 1)]), (.int .i64 (.a 0))] [] [(.one .bool)]
 (.ite (.a 0)
  (.ret false (.bool (.t true)) [])
  (.need (.and (.le (.l (-9223372036854775808)) (.add (.a 1) (.l 1))) (.le (.add (.a 1) (.l 1)) (.l 9223372036854775807)))
  (.jump 0 [(.a 0), (.add (.a 1) (.l 1)), (.a 2), (.a 3), (.a 4), (.a 5), (.a 6), (.a 7), (.a 8), (.a 9)] [] [(.va 0)]))))))
 (.ret false (.bool (.t false)) [])))
def saleroomref13_Uses_S : Sx.Sys := ⟨[(.sh (.agg [(.int .i64), (.int .i64), (.int .i64), (.int .i64), (.int .i64), (.int .i64), (.int .i64), (.int .i64), .val])), (.sh (.one (.int .i64)))], a3u, [a1h], none, none⟩
def a7E : List Cfg := [{ todo := [(.code [false, false, true, false, true, true]), (.inLoop [false, false, true, false, true, true]), (.inBlock 0), (.code [true, true, true])], sl := [(.junk 0), (.int .i64 (.a 0)), (.ptr 0 0), .undef, (.junk 1), (.int .i64 (.a 1)), (.junk 2), (.junk 3), (.junk 4), (.junk 5), (.junk 6), (.junk 7), (.junk 8), (.junk 9), (.junk 10), (.junk 11), (.junk 12), (.junk 13), (.junk 14), (.junk 15), (.junk 16), (.junk 17), (.junk 18), (.junk 19), (.junk 20)], H := [(.cells [(.int .i64 (.a 2)), (.int .i64 (.a 3)), (.int .i64 (.a 4)), (.int .i64 (.a 5)), (.int .i64 (.a 6)), (.int .i64 (.a 7)), (.int .i64 (.a 8)), (.int .i64 (.a 9)), (.va 0)] 26 false)], ni := 10, nb := 0, nv := 1, nj := 21 }]
theorem a8Y : SysOk Try.prog 45 saleroomref13_Uses_S := a0D (c := (cg [[false, false, true, false, true, true]] [] [] false false false true)) (a0w _ _ _ _ _ _ _ _ _) Try.func45 Try.call45 (by kernel_rfl) a7E saleroomref13_Uses_S 5000 rfl (by kernel_rfl) (by kernel_rfl) rfl
def a7p : PT :=
 (.call 52 [(.agg [(.int .i64 (.a 0)), (.int .i64 (.a 1)), (.int .i64 (.a 2)), (.int .i64 (.a 3)), (.int .i64 (.a 4)), (.int .i64 (.a 5))])] [] [(.one (.int .i64))]
 (.ite (.eq (.a 6) (.l 0))
 (.ret false (.fn 86 0 []) [])
 (.call 87 [(.agg [(.int .i64 (.a 0)), (.int .i64 (.a 1)), (.int .i64 (.a 2)), (.int .i64 (.a 3)), (.int .i64 (.a 4)), (.int .i64 (.a 5))])] [] [(.one .val)]
 (.ret false (.va 0) []))))
def bundle_All_S : Sx.Sys := ⟨[(.sh (.agg [(.int .i64), (.int .i64), (.int .i64), (.int .i64), (.int .i64), (.int .i64)]))], a7p, [], none, none⟩
def b4g : List Cfg := []
theorem b6V : SysOk Try.prog 53 bundle_All_S := a0D (c := (cg [] [] [] false false false true)) (a0w _ _ _ _ _ _ _ _ _) Try.func53 Try.call53 (by kernel_rfl) b4g bundle_All_S 5000 rfl (by kernel_rfl) (by kernel_rfl) rfl
def a5d : PT :=
 (.call 89 [(.agg [(.int .i64 (.a 0)), (.int .i64 (.a 1)), (.int .i64 (.a 2)), (.int .i64 (.a 3)), (.int .i64 (.a 4)), (.int .i64 (.a 5))]), (.agg [(.int .i64 (.a 6)), (.int .i64 (.a 7)), (.int .i64 (.a 8)), (.int .i64 (.a 9)), (.int .i64 (.a 10)), (.int .i64 (.a 11))])] [] [(.agg [(.int .i64), (.int .i64), (.int .i64), (.int .i64), (.int .i64), (.int .i64)])]
 (.ret false (.bool (.and (.eq (.a 12) (.a 0)) (.and (.eq (.a 13) (.a 1)) (.and (.eq (.a 14) (.a 2)) (.and (.eq (.a 15) (.a 3)) (.and (.eq (.a 16) (.a 4)) (.eq (.a 17) (.a 5)))))))) []))
def bundle_Within_S : Sx.Sys := ⟨[(.sh (.agg [(.int .i64), (.int .i64), (.int .i64), (.int .i64), (.int .i64), (.int .i64)])), (.sh (.agg [(.int .i64), (.int .i64), (.int .i64), (.int .i64), (.int .i64), (.int .i64)]))], a5d, [], none, none⟩
def b1S : List Cfg := []
theorem a7z : SysOk Try.prog 62 bundle_Within_S := a0D (c := (cg [] [] [] false false false true)) (a0w _ _ _ _ _ _ _ _ _) Try.func62 Try.call62 (by kernel_rfl) b1S bundle_Within_S 5000 rfl (by kernel_rfl) (by kernel_rfl) rfl
def a8j : PT :=
 (.need (.is 0 0)
 (.ite (.eq (.a 0) (.l 1))
 (.ret false (.bool (.eq (.slen 0) (.l 0))) [])
 (.ite (.eq (.a 0) (.l 2))
  (.ite (.eq (.a 0) (.l 2))
  (.ite (.le (.l 1) (.slen 0))
   (.ite (.le (.slen 0) (.l 8))
   (.ite (.and (.eq (.a 1) (.l 0)) (.and (.eq (.a 2) (.l 0)) (.and (.eq (.a 3) (.l 0)) (.and (.eq (.a 4) (.l 0)) (.and (.eq (.a 5) (.l 0)) (.eq (.a 6) (.l 0)))))))
    (.ret false (.bool (.eq (.a 7) (.l 0))) [])
    (.ret false (.bool (.t false)) []))
   (.ret false (.bool (.t false)) []))
   (.ret false (.bool (.t false)) []))
  (.ite (.eq (.a 0) (.l 4))
   (.ret false (.bool (.eq (.slen 0) (.l 1))) [])
   (.ite (.eq (.a 0) (.l 5))
   (.ite (.eq (.slen 0) (.l 1))
    (.ret false (.bool (.and (.eq (.a 1) (.l 0)) (.and (.eq (.a 2) (.l 0)) (.and (.eq (.a 3) (.l 0)) (.and (.eq (.a 4) (.l 0)) (.and (.eq (.a 5) (.l 0)) (.eq (.a 6) (.l 0)))))))) [])
    (.ret false (.bool (.t false)) []))
   (.ret false (.bool (.t false)) []))))
  (.ite (.eq (.a 0) (.l 3))
  (.ite (.le (.l 1) (.slen 0))
   (.ite (.le (.slen 0) (.l 8))
   (.ite (.and (.eq (.a 1) (.l 0)) (.and (.eq (.a 2) (.l 0)) (.and (.eq (.a 3) (.l 0)) (.and (.eq (.a 4) (.l 0)) (.and (.eq (.a 5) (.l 0)) (.eq (.a 6) (.l 0)))))))
    (.ret false (.bool (.eq (.a 7) (.l 0))) [])
    (.ret false (.bool (.t false)) []))
   (.ret false (.bool (.t false)) []))
   (.ret false (.bool (.t false)) []))
  (.ite (.eq (.a 0) (.l 4))
   (.ret false (.bool (.eq (.slen 0) (.l 1))) [])
   (.ite (.eq (.a 0) (.l 5))
   (.ite (.eq (.slen 0) (.l 1))
    (.ret false (.bool (.and (.eq (.a 1) (.l 0)) (.and (.eq (.a 2) (.l 0)) (.and (.eq (.a 3) (.l 0)) (.and (.eq (.a 4) (.l 0)) (.and (.eq (.a 5) (.l 0)) (.eq (.a 6) (.l 0)))))))) [])
    (.ret false (.bool (.t false)) []))
   (.ret false (.bool (.t false)) [])))))))
def expr_form_S : Sx.Sys := ⟨[(.sh (.agg [(.int .i64), (.int .i64), (.int .i64), (.int .i64), (.int .i64), (.int .i64), (.int .i64), (.int .i64), .val]))], a8j, [], none, none⟩
def b5t : List Cfg := []
theorem b8c : SysOk Try.prog 70 expr_form_S := a0D (c := (cg [] [] [] false false false true)) (a0w _ _ _ _ _ _ _ _ _) Try.func70 Try.call70 (by kernel_rfl) b5t expr_form_S 5000 rfl (by kernel_rfl) (by kernel_rfl) rfl
def a6g : PT :=
 (.ret false (.agg [(.int .i64 (.mx (.a 0) (.a 6))), (.int .i64 (.mx (.a 1) (.a 7))), (.int .i64 (.mx (.a 2) (.a 8))), (.int .i64 (.mx (.a 3) (.a 9))), (.int .i64 (.mx (.a 4) (.a 10))), (.int .i64 (.mx (.a 5) (.a 11)))]) [])
def bundle_Join_S : Sx.Sys := ⟨[(.sh (.agg [(.int .i64), (.int .i64), (.int .i64), (.int .i64), (.int .i64), (.int .i64)])), (.sh (.agg [(.int .i64), (.int .i64), (.int .i64), (.int .i64), (.int .i64), (.int .i64)]))], a6g, [], none, none⟩
def b3l : List Cfg := []
theorem a8D : SysOk Try.prog 78 bundle_Join_S := a0D (c := (cg [] [] [] false false false true)) (a0w _ _ _ _ _ _ _ _ _) Try.func78 Try.call78 (by kernel_rfl) b3l bundle_Join_S 5000 rfl (by kernel_rfl) (by kernel_rfl) rfl
def b5o : PT :=
 (.ret false (.tup []) [])
def bundle_All_1_S : Sx.Sys := ⟨[(.sh (.one .val))], b5o, [], none, none⟩
def b2M : List Cfg := []
theorem b4i : SysOk Try.prog 86 bundle_All_1_S := a0D (c := (cg [] [] [] false false false true)) (a0w _ _ _ _ _ _ _ _ _) Try.func86 Try.call86 (by kernel_rfl) b2M bundle_All_1_S 5000 rfl (by kernel_rfl) (by kernel_rfl) rfl
end Go.Proofs.Ythmkfeiapdbojaa
set_option maxRecDepth 100000
namespace Go.Proofs.Ythmkfeiapdbojaa
open Go.Sx
def a4I : PT :=
 (.call 18 [(.agg [(.int .i64 (.a 0)), (.int .i64 (.a 1)), (.int .i64 (.a 2)), (.int .i64 (.a 3)), (.int .i64 (.a 4)), (.int .i64 (.a 5)), (.int .i64 (.a 6)), (.int .i64 (.a 7)), (.va 0)]), (.agg [(.int .i64 (.l 4)), (.int .i64 (.l 4)), (.int .i64 (.l 4)), (.int .i64 (.l 4)), (.int .i64 (.l 4)), (.int .i64 (.l 4))])] [] [(.one (.int .i64))]
 (.ret false (.int .i64 (.a 8)) []))
def valuation_Most_S : Sx.Sys := ⟨[(.sh (.agg [(.int .i64), (.int .i64), (.int .i64), (.int .i64), (.int .i64), (.int .i64), (.int .i64), (.int .i64), .val]))], a4I, [], none, none⟩
def b1e : List Cfg := []
theorem b2O : SysOk Try.prog 20 valuation_Most_S := a0D (c := (cg [] [] [] false false false true)) (a0w _ _ _ _ _ _ _ _ _) Try.func20 Try.call20 (by kernel_rfl) b1e valuation_Most_S 5000 rfl (by kernel_rfl) (by kernel_rfl) rfl
def a1L : PT :=
 (.ite (.lt (.l 10) (.a 8))
 (.ret false (.int .i64 (.l 1000)) [])
 (.need (.is 0 0)
 (.ite (.lt (.l 20) (.slen 0))
  (.ret false (.int .i64 (.l 1000)) [])
  (.jump 0 [(.a 8), (.l 1), (.l 0), (.a 0), (.a 1), (.a 2), (.a 3), (.a 4), (.a 5), (.a 6), (.a 7)] [] [(.va 0)]))))
def a1E : PT :=
 (.need (.is 0 0)
 (.ite (.lt (.a 2) (.slen 0))
 (.need (.and (.le (.l 0) (.a 2)) (.lt (.a 2) (.slen 0)))
 (.load false (.ea 0 (.a 2) 9 0) [(.int .i64), (.int .i64), (.int .i64), (.int .i64), (.int .i64), (.int .i64), (.int .i64), (.int .i64), .val]
 (.need (.and (.le (.l (-9223372036854775808)) (.add (.a 0) (.l 1))) (.le (.add (.a 0) (.l 1)) (.l 9223372036854775807)))
 (.call 46 [(.agg [(.int .i64 (.a 11)), (.int .i64 (.a 12)), (.int .i64 (.a 13)), (.int .i64 (.a 14)), (.int .i64 (.a 15)), (.int .i64 (.a 16)), (.int .i64 (.a 17)), (.int .i64 (.a 18)), (.va 1)]), (.int .i64 (.add (.a 0) (.l 1)))] [] [(.one (.int .i64))]
 (.need (.and (.le (.l (-9223372036854775808)) (.add (.a 1) (.a 19))) (.le (.add (.a 1) (.a 19)) (.l 9223372036854775807)))
 (.need (.and (.le (.l (-9223372036854775808)) (.add (.a 2) (.l 1))) (.le (.add (.a 2) (.l 1)) (.l 9223372036854775807)))
 (.jump 0 [(.a 0), (.add (.a 1) (.a 19)), (.add (.a 2) (.l 1)), (.a 3), (.a 4), (.a 5), (.a 6), (.a 7), (.a 8), (.a 9), (.a 10)] [] [(.va 0)])))))))
 (.ret false (.int .i64 (.a 1)) [])))
def saleroomref13_nodes_S : Sx.Sys := ⟨[(.sh (.agg [(.int .i64), (.int .i64), (.int .i64), (.int .i64), (.int .i64), (.int .i64), (.int .i64), (.int .i64), .val])), (.sh (.one (.int .i64)))], a1L, [a1E], none, none⟩
def a7c : List Cfg := [{ todo := [(.code [false, false, true, false, true, true, true]), (.inLoop [false, false, true, false, true, true, true]), (.inBlock 0), (.code [true, true, true, true])], sl := [(.junk 0), (.int .i64 (.a 0)), (.ptr 0 0), .undef, (.junk 1), (.int .i64 (.a 1)), (.int .i64 (.a 2)), (.junk 2), (.junk 3), (.junk 4), (.junk 5), (.junk 6), (.junk 7), (.junk 8), (.junk 9), (.junk 10), (.junk 11), (.junk 12), (.junk 13), (.junk 14), (.junk 15), (.junk 16), (.junk 17), (.junk 18), (.junk 19), (.junk 20), (.junk 21), (.junk 22), (.junk 23), (.junk 24), (.junk 25), (.junk 26), .undef], H := [(.cells [(.int .i64 (.a 3)), (.int .i64 (.a 4)), (.int .i64 (.a 5)), (.int .i64 (.a 6)), (.int .i64 (.a 7)), (.int .i64 (.a 8)), (.int .i64 (.a 9)), (.int .i64 (.a 10)), (.va 0)] 26 false)], ni := 11, nb := 0, nv := 1, nj := 27 }]
theorem a8l : SysOk Try.prog 46 saleroomref13_nodes_S := a0D (c := (cg [[false, false, true, false, true, true, true]] [] [] false false false true)) (a0w _ _ _ _ _ _ _ _ _) Try.func46 Try.call46 (by kernel_rfl) a7c saleroomref13_nodes_S 5000 rfl (by kernel_rfl) (by kernel_rfl) rfl
def a4s : PT :=
 (.jump 0 [(.a 12), (.l 1), (.l 5), (.a 0), (.a 1), (.a 2), (.a 3), (.a 4), (.a 5), (.a 6), (.a 7), (.a 8), (.a 9), (.a 10), (.a 11)] [] [(.va 0)])
def a0A : PT :=
 (.ite (.le (.l 0) (.a 2))
 (.ite (.eq (.a 2) (.l 5))
  (.ite (.lt (.l 0) (.a 14))
  (.need (.and (.le (.l (-9223372036854775808)) (.sub (.a 0) (.a 1))) (.le (.sub (.a 0) (.a 1)) (.l 9223372036854775807)))
  (.callv 0 [(.int .i64 (.sub (.a 0) (.a 1)))] []
  (.need (.and (.le (.l (-9223372036854775808)) (.add (.a 8) (.l 1))) (.le (.add (.a 8) (.l 1)) (.l 9223372036854775807)))
  (.need (.and (.le (.l (-9223372036854775808)) (.mul (.a 1) (.add (.a 8) (.l 1)))) (.le (.mul (.a 1) (.add (.a 8) (.l 1))) (.l 9223372036854775807)))
  (.jump 0 [(.a 0), (.mul (.a 1) (.add (.a 8) (.l 1))), (.l 4), (.a 3), (.a 4), (.a 5), (.a 6), (.a 7), (.a 8), (.a 9), (.a 10), (.a 11), (.a 12), (.a 13), (.a 14)] [] [(.va 0)])))))
  (.need (.and (.le (.l (-9223372036854775808)) (.add (.a 8) (.l 1))) (.le (.add (.a 8) (.l 1)) (.l 9223372036854775807)))
  (.need (.and (.le (.l (-9223372036854775808)) (.mul (.a 1) (.add (.a 8) (.l 1)))) (.le (.mul (.a 1) (.add (.a 8) (.l 1))) (.l 9223372036854775807)))
  (.jump 0 [(.a 0), (.mul (.a 1) (.add (.a 8) (.l 1))), (.l 4), (.a 3), (.a 4), (.a 5), (.a 6), (.a 7), (.a 8), (.a 9), (.a 10), (.a 11), (.a 12), (.a 13), (.a 14)] [] [(.va 0)]))))
  (.ite (.eq (.a 2) (.l 4))
  (.ite (.lt (.l 0) (.a 13))
   (.need (.and (.le (.l (-9223372036854775808)) (.sub (.a 0) (.a 1))) (.le (.sub (.a 0) (.a 1)) (.l 9223372036854775807)))
   (.callv 0 [(.int .i64 (.sub (.a 0) (.a 1)))] []
   (.need (.and (.le (.l (-9223372036854775808)) (.add (.a 7) (.l 1))) (.le (.add (.a 7) (.l 1)) (.l 9223372036854775807)))
   (.need (.and (.le (.l (-9223372036854775808)) (.mul (.a 1) (.add (.a 7) (.l 1)))) (.le (.mul (.a 1) (.add (.a 7) (.l 1))) (.l 9223372036854775807)))
   (.jump 0 [(.a 0), (.mul (.a 1) (.add (.a 7) (.l 1))), (.l 3), (.a 3), (.a 4), (.a 5), (.a 6), (.a 7), (.a 8), (.a 9), (.a 10), (.a 11), (.a 12), (.a 13), (.a 14)] [] [(.va 0)])))))
   (.need (.and (.le (.l (-9223372036854775808)) (.add (.a 7) (.l 1))) (.le (.add (.a 7) (.l 1)) (.l 9223372036854775807)))
   (.need (.and (.le (.l (-9223372036854775808)) (.mul (.a 1) (.add (.a 7) (.l 1)))) (.le (.mul (.a 1) (.add (.a 7) (.l 1))) (.l 9223372036854775807)))
   (.jump 0 [(.a 0), (.mul (.a 1) (.add (.a 7) (.l 1))), (.l 3), (.a 3), (.a 4), (.a 5), (.a 6), (.a 7), (.a 8), (.a 9), (.a 10), (.a 11), (.a 12), (.a 13), (.a 14)] [] [(.va 0)]))))
  (.ite (.eq (.a 2) (.l 3))
   (.ite (.lt (.l 0) (.a 12))
   (.need (.and (.le (.l (-9223372036854775808)) (.sub (.a 0) (.a 1))) (.le (.sub (.a 0) (.a 1)) (.l 9223372036854775807)))
   (.callv 0 [(.int .i64 (.sub (.a 0) (.a 1)))] []
   (.need (.and (.le (.l (-9223372036854775808)) (.add (.a 6) (.l 1))) (.le (.add (.a 6) (.l 1)) (.l 9223372036854775807)))
   (.need (.and (.le (.l (-9223372036854775808)) (.mul (.a 1) (.add (.a 6) (.l 1)))) (.le (.mul (.a 1) (.add (.a 6) (.l 1))) (.l 9223372036854775807)))
   (.jump 0 [(.a 0), (.mul (.a 1) (.add (.a 6) (.l 1))), (.l 2), (.a 3), (.a 4), (.a 5), (.a 6), (.a 7), (.a 8), (.a 9), (.a 10), (.a 11), (.a 12), (.a 13), (.a 14)] [] [(.va 0)])))))
   (.need (.and (.le (.l (-9223372036854775808)) (.add (.a 6) (.l 1))) (.le (.add (.a 6) (.l 1)) (.l 9223372036854775807)))
   (.need (.and (.le (.l (-9223372036854775808)) (.mul (.a 1) (.add (.a 6) (.l 1)))) (.le (.mul (.a 1) (.add (.a 6) (.l 1))) (.l 9223372036854775807)))
   (.jump 0 [(.a 0), (.mul (.a 1) (.add (.a 6) (.l 1))), (.l 2), (.a 3), (.a 4), (.a 5), (.a 6), (.a 7), (.a 8), (.a 9), (.a 10), (.a 11), (.a 12), (.a 13), (.a 14)] [] [(.va 0)]))))
   (.ite (.eq (.a 2) (.l 2))
   (.ite (.lt (.l 0) (.a 11))
    (.need (.and (.le (.l (-9223372036854775808)) (.sub (.a 0) (.a 1))) (.le (.sub (.a 0) (.a 1)) (.l 9223372036854775807)))
    (.callv 0 [(.int .i64 (.sub (.a 0) (.a 1)))] []
    (.need (.and (.le (.l (-9223372036854775808)) (.add (.a 5) (.l 1))) (.le (.add (.a 5) (.l 1)) (.l 9223372036854775807)))
    (.need (.and (.le (.l (-9223372036854775808)) (.mul (.a 1) (.add (.a 5) (.l 1)))) (.le (.mul (.a 1) (.add (.a 5) (.l 1))) (.l 9223372036854775807)))
    (.jump 0 [(.a 0), (.mul (.a 1) (.add (.a 5) (.l 1))), (.l 1), (.a 3), (.a 4), (.a 5), (.a 6), (.a 7), (.a 8), (.a 9), (.a 10), (.a 11), (.a 12), (.a 13), (.a 14)] [] [(.va 0)])))))
    (.need (.and (.le (.l (-9223372036854775808)) (.add (.a 5) (.l 1))) (.le (.add (.a 5) (.l 1)) (.l 9223372036854775807)))
    (.need (.and (.le (.l (-9223372036854775808)) (.mul (.a 1) (.add (.a 5) (.l 1)))) (.le (.mul (.a 1) (.add (.a 5) (.l 1))) (.l 9223372036854775807)))
    (.jump 0 [(.a 0), (.mul (.a 1) (.add (.a 5) (.l 1))), (.l 1), (.a 3), (.a 4), (.a 5), (.a 6), (.a 7), (.a 8), (.a 9), (.a 10), (.a 11), (.a 12), (.a 13), (.a 14)] [] [(.va 0)]))))
   (.ite (.eq (.a 2) (.l 1))
    (.ite (.lt (.l 0) (.a 10))
    (.need (.and (.le (.l (-9223372036854775808)) (.sub (.a 0) (.a 1))) (.le (.sub (.a 0) (.a 1)) (.l 9223372036854775807)))
    (.callv 0 [(.int .i64 (.sub (.a 0) (.a 1)))] []
    (.need (.and (.le (.l (-9223372036854775808)) (.add (.a 4) (.l 1))) (.le (.add (.a 4) (.l 1)) (.l 9223372036854775807)))
    (.need (.and (.le (.l (-9223372036854775808)) (.mul (.a 1) (.add (.a 4) (.l 1)))) (.le (.mul (.a 1) (.add (.a 4) (.l 1))) (.l 9223372036854775807)))
    (.jump 0 [(.a 0), (.mul (.a 1) (.add (.a 4) (.l 1))), (.l 0), (.a 3), (.a 4), (.a 5), (.a 6), (.a 7), (.a 8), (.a 9), (.a 10), (.a 11), (.a 12), (.a 13), (.a 14)] [] [(.va 0)])))))
    (.need (.and (.le (.l (-9223372036854775808)) (.add (.a 4) (.l 1))) (.le (.add (.a 4) (.l 1)) (.l 9223372036854775807)))
    (.need (.and (.le (.l (-9223372036854775808)) (.mul (.a 1) (.add (.a 4) (.l 1)))) (.le (.mul (.a 1) (.add (.a 4) (.l 1))) (.l 9223372036854775807)))
    (.jump 0 [(.a 0), (.mul (.a 1) (.add (.a 4) (.l 1))), (.l 0), (.a 3), (.a 4), (.a 5), (.a 6), (.a 7), (.a 8), (.a 9), (.a 10), (.a 11), (.a 12), (.a 13), (.a 14)] [] [(.va 0)]))))
    (.ite (.eq (.a 2) (.l 0))
    (.ite (.lt (.l 0) (.a 9))
     (.need (.and (.le (.l (-9223372036854775808)) (.sub (.a 0) (.a 1))) (.le (.sub (.a 0) (.a 1)) (.l 9223372036854775807)))
     (.callv 0 [(.int .i64 (.sub (.a 0) (.a 1)))] []
     (.need (.and (.le (.l (-9223372036854775808)) (.add (.a 3) (.l 1))) (.le (.add (.a 3) (.l 1)) (.l 9223372036854775807)))
     (.need (.and (.le (.l (-9223372036854775808)) (.mul (.a 1) (.add (.a 3) (.l 1)))) (.le (.mul (.a 1) (.add (.a 3) (.l 1))) (.l 9223372036854775807)))
     (.jump 0 [(.a 0), (.mul (.a 1) (.add (.a 3) (.l 1))), (.l (-1)), (.a 3), (.a 4), (.a 5), (.a 6), (.a 7), (.a 8), (.a 9), (.a 10), (.a 11), (.a 12), (.a 13), (.a 14)] [] [(.va 0)])))))
     (.need (.and (.le (.l (-9223372036854775808)) (.add (.a 3) (.l 1))) (.le (.add (.a 3) (.l 1)) (.l 9223372036854775807)))
     (.need (.and (.le (.l (-9223372036854775808)) (.mul (.a 1) (.add (.a 3) (.l 1)))) (.le (.mul (.a 1) (.add (.a 3) (.l 1))) (.l 9223372036854775807)))
     (.jump 0 [(.a 0), (.mul (.a 1) (.add (.a 3) (.l 1))), (.l (-1)), (.a 3), (.a 4), (.a 5), (.a 6), (.a 7), (.a 8), (.a 9), (.a 10), (.a 11), (.a 12), (.a 13), (.a 14)] [] [(.va 0)]))))
    .stuck))))))
 (.ret false (.tup []) []))
def valuation_below_S : Sx.Sys := ⟨[(.sh (.agg [(.int .i64), (.int .i64), (.int .i64), (.int .i64), (.int .i64), (.int .i64)])), (.sh (.agg [(.int .i64), (.int .i64), (.int .i64), (.int .i64), (.int .i64), (.int .i64)])), (.sh (.one (.int .i64))), (.sh (.one .val))], a4s, [a0A], none, none⟩
def a9D : List Cfg := [{ todo := [(.code [false, false, true, true, true]), (.inLoop [false, false, true, true, true]), (.inBlock 0)], sl := [(.junk 0), (.junk 1), (.int .i64 (.a 0)), (.va 0), (.ptr 0 0), (.ptr 1 0), .undef, .undef, (.int .i64 (.a 1)), (.int .i64 (.a 2)), (.junk 2), (.junk 3), (.junk 4), (.junk 5), (.junk 6), (.junk 7), (.junk 8), (.junk 9), (.junk 10), (.junk 11), (.junk 12), (.junk 13), (.junk 14), (.junk 15), (.junk 16), (.junk 17), (.junk 18), (.junk 19), (.junk 20)], H := [(.cells [(.int .i64 (.a 3)), (.int .i64 (.a 4)), (.int .i64 (.a 5)), (.int .i64 (.a 6)), (.int .i64 (.a 7)), (.int .i64 (.a 8))] 23 false), (.cells [(.int .i64 (.a 9)), (.int .i64 (.a 10)), (.int .i64 (.a 11)), (.int .i64 (.a 12)), (.int .i64 (.a 13)), (.int .i64 (.a 14))] 23 false)], ni := 15, nb := 0, nv := 1, nj := 21 }]
theorem b1p : SysOk Try.prog 54 valuation_below_S := a0D (c := (cg [[false, false, true, true, true]] [] [(18, [])] false false false true)) (a0w _ _ _ _ _ _ _ _ _) Try.func54 Try.call54 (by kernel_rfl) a9D valuation_below_S 5000 rfl (by kernel_rfl) (by kernel_rfl) rfl
def a6j : PT :=
 (.ite (.eq (.a 0) (.l 2))
 (.ite (.eq (.a 0) (.l 2))
  (.ret false (.bool (.t true)) [])
  (.ite (.lt (.a 7) (.l 1))
  (.ret false (.bool (.t false)) [])
  (.ite (.lt (.l 1000000) (.a 7))
   (.ret false (.bool (.t false)) [])
   (.ite (.eq (.a 0) (.l 5))
   (.ret false (.bool (.t true)) [])
   (.call 48 [(.agg [(.int .i64 (.a 1)), (.int .i64 (.a 2)), (.int .i64 (.a 3)), (.int .i64 (.a 4)), (.int .i64 (.a 5)), (.int .i64 (.a 6))])] [] [(.one (.int .i64))]
   (.ite (.eq (.a 8) (.l 0))
    (.call 91 [(.agg [(.int .i64 (.a 1)), (.int .i64 (.a 2)), (.int .i64 (.a 3)), (.int .i64 (.a 4)), (.int .i64 (.a 5)), (.int .i64 (.a 6))])] [] [(.one (.int .i64))]
    (.ret false (.bool (.lt (.l 0) (.a 9))) []))
    (.ret false (.bool (.t false)) [])))))))
 (.ite (.eq (.a 0) (.l 3))
  (.ret false (.bool (.t true)) [])
  (.ite (.lt (.a 7) (.l 1))
  (.ret false (.bool (.t false)) [])
  (.ite (.lt (.l 1000000) (.a 7))
   (.ret false (.bool (.t false)) [])
   (.ite (.eq (.a 0) (.l 5))
   (.ret false (.bool (.t true)) [])
   (.call 48 [(.agg [(.int .i64 (.a 1)), (.int .i64 (.a 2)), (.int .i64 (.a 3)), (.int .i64 (.a 4)), (.int .i64 (.a 5)), (.int .i64 (.a 6))])] [] [(.one (.int .i64))]
   (.ite (.eq (.a 8) (.l 0))
    (.call 91 [(.agg [(.int .i64 (.a 1)), (.int .i64 (.a 2)), (.int .i64 (.a 3)), (.int .i64 (.a 4)), (.int .i64 (.a 5)), (.int .i64 (.a 6))])] [] [(.one (.int .i64))]
    (.ret false (.bool (.lt (.l 0) (.a 9))) []))
    (.ret false (.bool (.t false)) []))))))))
def expr_ranged_S : Sx.Sys := ⟨[(.sh (.agg [(.int .i64), (.int .i64), (.int .i64), (.int .i64), (.int .i64), (.int .i64), (.int .i64), (.int .i64), .val]))], a6j, [], none, none⟩
def b3i : List Cfg := []
theorem b5I : SysOk Try.prog 71 expr_ranged_S := a0D (c := (cg [] [] [] false false false true)) (a0w _ _ _ _ _ _ _ _ _) Try.func71 Try.call71 (by kernel_rfl) b3i expr_ranged_S 5000 rfl (by kernel_rfl) (by kernel_rfl) rfl
def a6h : PT :=
 (.newM [(.int .i64 (.a 0)), (.int .i64 (.a 1)), (.int .i64 (.a 2)), (.int .i64 (.a 3)), (.int .i64 (.a 4)), (.int .i64 (.a 5))] 23
 (.ret false (.fn 95 0 [(.pa 0 0)]) []))
def bundle_each_S : Sx.Sys := ⟨[(.sh (.agg [(.int .i64), (.int .i64), (.int .i64), (.int .i64), (.int .i64), (.int .i64)]))], a6h, [], none, none⟩
def b3h : List Cfg := []
theorem b5D : SysOk Try.prog 87 bundle_each_S := a0D (c := (cg [] [1] [] true false false true)) (a0w _ _ _ _ _ _ _ _ _) Try.func87 Try.call87 (by kernel_rfl) b3h bundle_each_S 5000 rfl (by kernel_rfl) (by kernel_rfl) rfl
def b4B : PT :=
 (.jump 0 [(.l 0), (.l 0), (.l 0), (.l 0), (.l 0), (.l 0)] [] [(.va 0), (.va 1)])
def b3z : PT :=
 (.callv 0 [(.agg [(.int .i64 (.a 0)), (.int .i64 (.a 1)), (.int .i64 (.a 2)), (.int .i64 (.a 3)), (.int .i64 (.a 4)), (.int .i64 (.a 5))])] [(.one .bool)]
 (.ite (.a 0)
 (.load false (.pa 1 0) [(.int .i64), (.int .i64), (.int .i64), (.int .i64), (.int .i64), (.int .i64)]
 (.call 96 [(.agg [(.int .i64 (.a 0)), (.int .i64 (.a 1)), (.int .i64 (.a 2)), (.int .i64 (.a 3)), (.int .i64 (.a 4)), (.int .i64 (.a 5))]), (.agg [(.int .i64 (.a 6)), (.int .i64 (.a 7)), (.int .i64 (.a 8)), (.int .i64 (.a 9)), (.int .i64 (.a 10)), (.int .i64 (.a 11))])] [] [(.agg [(.int .i64), (.int .i64), (.int .i64), (.int .i64), (.int .i64), (.int .i64)])]
 (.ite (.and (.eq (.a 12) (.l 0)) (.and (.eq (.a 13) (.l 0)) (.and (.eq (.a 14) (.l 0)) (.and (.eq (.a 15) (.l 0)) (.and (.eq (.a 16) (.l 0)) (.eq (.a 17) (.l 0)))))))
  (.ret true (.tup []) [])
  (.jump 0 [(.a 12), (.a 13), (.a 14), (.a 15), (.a 16), (.a 17)] [] [(.va 0), (.va 1)]))))
 (.ret true (.tup []) [])))
def bundle_each_1_S : Sx.Sys := ⟨[(.sh (.one .val)), .ptr], b4B, [b3z], none, none⟩
def b2d : List Cfg := [{ todo := [(.code [false, false, true]), (.inLoop [false, false, true]), (.inBlock 0)], sl := [(.va 0), (.pa 1 0), .undef, (.ptr 0 0), (.junk 0), (.junk 1), (.junk 2), (.junk 3), (.junk 4), (.junk 5), (.junk 6), (.junk 7), (.junk 8), (.junk 9)], H := [(.cells [(.int .i64 (.a 0)), (.int .i64 (.a 1)), (.int .i64 (.a 2)), (.int .i64 (.a 3)), (.int .i64 (.a 4)), (.int .i64 (.a 5))] 23 false)], ni := 6, nb := 0, nv := 2, nj := 10 }]
theorem b3t : SysOk Try.prog 95 bundle_each_1_S := a0D (c := (cg [[false, false, true]] [] [(5, [4])] true true false true)) (a0w _ _ _ _ _ _ _ _ _) Try.func95 Try.call95 (by kernel_rfl) b2d bundle_each_1_S 5000 rfl (by kernel_rfl) (by kernel_rfl) rfl
end Go.Proofs.Ythmkfeiapdbojaa
set_option maxRecDepth 100000
namespace Go.Proofs.Ythmkfeiapdbojaa
open Go.Sx
def a9N : PT :=
 (.jump 0 [(.a 0), (.l 0), (.l 0), (.l 0), (.l 0), (.l 0), (.l 0), (.l 0)] [] [(.va 0)])
def a9e : PT :=
 (.need (.is 0 0)
 (.ite (.lt (.a 1) (.slen 0))
 (.need (.and (.le (.l 0) (.a 1)) (.lt (.a 1) (.slen 0)))
 (.load false (.ea 0 (.a 1) 1 0) [(.int .i64)]
 (.ite (.eq (.a 1) (.l 5))
  (.jump 0 [(.a 0), (.l 6), (.a 2), (.a 3), (.a 4), (.a 5), (.a 6), (.a 8)] [] [(.va 0)])
  (.ite (.eq (.a 1) (.l 4))
  (.jump 0 [(.a 0), (.l 5), (.a 2), (.a 3), (.a 4), (.a 5), (.a 8), (.a 7)] [] [(.va 0)])
  (.ite (.eq (.a 1) (.l 3))
   (.jump 0 [(.a 0), (.l 4), (.a 2), (.a 3), (.a 4), (.a 8), (.a 6), (.a 7)] [] [(.va 0)])
   (.ite (.eq (.a 1) (.l 2))
   (.jump 0 [(.a 0), (.l 3), (.a 2), (.a 3), (.a 8), (.a 5), (.a 6), (.a 7)] [] [(.va 0)])
   (.ite (.eq (.a 1) (.l 1))
    (.jump 0 [(.a 0), (.l 2), (.a 2), (.a 8), (.a 4), (.a 5), (.a 6), (.a 7)] [] [(.va 0)])
    (.ite (.eq (.a 1) (.l 0))
    (.jump 0 [(.a 0), (.l 1), (.a 8), (.a 3), (.a 4), (.a 5), (.a 6), (.a 7)] [] [(.va 0)])
    .stuck))))))))
 (.ret false (.agg [(.int .i64 (.l 1)), (.int .i64 (.a 2)), (.int .i64 (.a 3)), (.int .i64 (.a 4)), (.int .i64 (.a 5)), (.int .i64 (.a 6)), (.int .i64 (.a 7)), (.int .i64 (.a 0)), .nilS]) [])))
def saleroomlaw13_atom_S : Sx.Sys := ⟨[(.sh (.one (.int .i64))), (.sh (.one .val))], a9N, [a9e], none, none⟩
def a7G : List Cfg := [{ todo := [(.code [false, false, true, false, true, true]), (.inLoop [false, false, true, false, true, true]), (.inBlock 0), (.code [true, true, true])], sl := [(.int .i64 (.a 0)), (.va 0), .undef, .undef, (.ptr 0 0), (.ptr 1 0), (.int .i64 (.a 1)), (.junk 0), (.junk 1), (.junk 2), (.junk 3), (.junk 4), (.junk 5), (.junk 6), (.junk 7), (.junk 8), (.junk 9), (.junk 10), (.junk 11), .undef, .undef, .undef], H := [(.cells [(.int .i64 (.l 0)), (.int .i64 (.l 0)), (.int .i64 (.l 0)), (.int .i64 (.l 0)), (.int .i64 (.l 0)), (.int .i64 (.l 0)), (.int .i64 (.l 0)), (.int .i64 (.l 0)), .nilS] 26 false), (.cells [(.int .i64 (.a 2)), (.int .i64 (.a 3)), (.int .i64 (.a 4)), (.int .i64 (.a 5)), (.int .i64 (.a 6)), (.int .i64 (.a 7))] 23 false)], ni := 8, nb := 0, nv := 1, nj := 12 }]
theorem a9g : SysOk Try.prog 47 saleroomlaw13_atom_S := a0D (c := (cg [[false, false, true, false, true, true]] [] [] false false false true)) (a0w _ _ _ _ _ _ _ _ _) Try.func47 Try.call47 (by kernel_rfl) a7G saleroomlaw13_atom_S 5000 rfl (by kernel_rfl) (by kernel_rfl) rfl
def a3C : PT :=
 (.load false (.pa 0 0) [.val]
 (.load false (.pa 1 0) [(.int .i64)]
 (.need (.and (.le (.l 0) (.a 1)) (.lt (.a 1) (.slen 2)))
 (.load false (.ea 2 (.a 1) 1 0) [(.int .i64)]
 (.load false (.pa 0 0) [.val]
 (.need (.and (.le (.l 0) (.a 0)) (.lt (.a 0) (.slen 3)))
 (.load false (.ea 3 (.a 0) 1 0) [(.int .i64)]
 (.load false (.pa 0 0) [.val]
 (.load false (.pa 1 0) [(.int .i64)]
 (.need (.and (.le (.l 0) (.a 4)) (.lt (.a 4) (.slen 4)))
 (.storeM (.ea 4 (.a 4) 1 0) [(.int .i64 (.mx (.a 2) (.a 3)))]
 (.ret true (.tup []) []))))))))))))
def valuation_Table_1_S : Sx.Sys := ⟨[(.sh (.one (.int .i64))), .ptr, .ptr], a3C, [], none, none⟩
def a8n : List Cfg := []
theorem b0m : SysOk Try.prog 55 valuation_Table_1_S := a0D (c := (cg [] [] [] true true false true)) (a0w _ _ _ _ _ _ _ _ _) Try.func55 Try.call55 (by kernel_rfl) a8n valuation_Table_1_S 5000 rfl (by kernel_rfl) (by kernel_rfl) rfl
def a3P : PT :=
 (.ite (.lt (.a 5) (.a 11))
 (.need (.and (.le (.l (-9223372036854775808)) (.add (.a 5) (.l 1))) (.le (.add (.a 5) (.l 1)) (.l 9223372036854775807)))
 (.ret false (.agg [(.int .i64 (.a 0)), (.int .i64 (.a 1)), (.int .i64 (.a 2)), (.int .i64 (.a 3)), (.int .i64 (.a 4)), (.int .i64 (.add (.a 5) (.l 1)))]) []))
 (.ite (.lt (.a 4) (.a 10))
  (.need (.and (.le (.l (-9223372036854775808)) (.add (.a 4) (.l 1))) (.le (.add (.a 4) (.l 1)) (.l 9223372036854775807)))
  (.ret false (.agg [(.int .i64 (.a 0)), (.int .i64 (.a 1)), (.int .i64 (.a 2)), (.int .i64 (.a 3)), (.int .i64 (.add (.a 4) (.l 1))), (.int .i64 (.l 0))]) []))
  (.ite (.lt (.a 3) (.a 9))
  (.need (.and (.le (.l (-9223372036854775808)) (.add (.a 3) (.l 1))) (.le (.add (.a 3) (.l 1)) (.l 9223372036854775807)))
  (.ret false (.agg [(.int .i64 (.a 0)), (.int .i64 (.a 1)), (.int .i64 (.a 2)), (.int .i64 (.add (.a 3) (.l 1))), (.int .i64 (.l 0)), (.int .i64 (.l 0))]) []))
  (.ite (.lt (.a 2) (.a 8))
   (.need (.and (.le (.l (-9223372036854775808)) (.add (.a 2) (.l 1))) (.le (.add (.a 2) (.l 1)) (.l 9223372036854775807)))
   (.ret false (.agg [(.int .i64 (.a 0)), (.int .i64 (.a 1)), (.int .i64 (.add (.a 2) (.l 1))), (.int .i64 (.l 0)), (.int .i64 (.l 0)), (.int .i64 (.l 0))]) []))
   (.ite (.lt (.a 1) (.a 7))
   (.need (.and (.le (.l (-9223372036854775808)) (.add (.a 1) (.l 1))) (.le (.add (.a 1) (.l 1)) (.l 9223372036854775807)))
   (.ret false (.agg [(.int .i64 (.a 0)), (.int .i64 (.add (.a 1) (.l 1))), (.int .i64 (.l 0)), (.int .i64 (.l 0)), (.int .i64 (.l 0)), (.int .i64 (.l 0))]) []))
   (.ite (.lt (.a 0) (.a 6))
    (.need (.and (.le (.l (-9223372036854775808)) (.add (.a 0) (.l 1))) (.le (.add (.a 0) (.l 1)) (.l 9223372036854775807)))
    (.ret false (.agg [(.int .i64 (.add (.a 0) (.l 1))), (.int .i64 (.l 0)), (.int .i64 (.l 0)), (.int .i64 (.l 0)), (.int .i64 (.l 0)), (.int .i64 (.l 0))]) []))
    (.ret false (.agg [(.int .i64 (.l 0)), (.int .i64 (.l 0)), (.int .i64 (.l 0)), (.int .i64 (.l 0)), (.int .i64 (.l 0)), (.int .i64 (.l 0))]) [])))))))
def bundle_following_S : Sx.Sys := ⟨[(.sh (.agg [(.int .i64), (.int .i64), (.int .i64), (.int .i64), (.int .i64), (.int .i64)])), (.sh (.agg [(.int .i64), (.int .i64), (.int .i64), (.int .i64), (.int .i64), (.int .i64)]))], a3P, [], none, none⟩
def a8V : List Cfg := []
theorem a5t : SysOk Try.prog 96 bundle_following_S := a0D (c := (cg [] [] [] false false false true)) (a0w _ _ _ _ _ _ _ _ _) Try.func96 Try.call96 (by kernel_rfl) a8V bundle_following_S 5000 rfl (by kernel_rfl) (by kernel_rfl) rfl
end Go.Proofs.Ythmkfeiapdbojaa
