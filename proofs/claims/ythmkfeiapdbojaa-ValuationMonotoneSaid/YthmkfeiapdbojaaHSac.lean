/- The trees of this seat's functions, part 6. Written by txgen.py. -/
import Derived.Test.YthmkfeiapdbojaaHTab
set_option linter.unusedSimpArgs false
set_option linter.unusedVariables false
set_option maxRecDepth 100000
namespace Go.Proofs.Ythmkfeiapdbojaa
open Go.Sx
def a3L : PT :=
 (.app none (.lit [[(.int .i64 (.a 0)), (.int .i64 (.a 1)), (.int .i64 (.a 2)), (.int .i64 (.a 3)), (.int .i64 (.a 4)), (.int .i64 (.a 5)), (.int .i64 (.a 6)), (.int .i64 (.a 7)), (.va 1)], [(.int .i64 (.a 16)), (.int .i64 (.a 17)), (.int .i64 (.a 18)), (.int .i64 (.a 19)), (.int .i64 (.a 20)), (.int .i64 (.a 21)), (.int .i64 (.a 22)), (.int .i64 (.a 23)), (.va 6)]]) 9
  (.app none (.lit [[(.int .i64 (.l 3)), (.int .i64 (.l 0)), (.int .i64 (.l 0)), (.int .i64 (.l 0)), (.int .i64 (.l 0)), (.int .i64 (.l 0)), (.int .i64 (.l 0)), (.int .i64 (.l 0)), (.va 4)]]) 9
  (.call 24 [(.agg [(.int .i64 (.a 0)), (.int .i64 (.a 1)), (.int .i64 (.a 2)), (.int .i64 (.a 3)), (.int .i64 (.a 4)), (.int .i64 (.a 5)), (.int .i64 (.a 6)), (.int .i64 (.a 7)), (.va 1)]), (.agg [(.int .i64 (.l 2)), (.int .i64 (.l 0)), (.int .i64 (.l 0)), (.int .i64 (.l 0)), (.int .i64 (.l 0)), (.int .i64 (.l 0))])] [] [(.one .val), (.one (.int .i64))]
  (.call 24 [(.agg [(.int .i64 (.a 0)), (.int .i64 (.a 1)), (.int .i64 (.a 2)), (.int .i64 (.a 3)), (.int .i64 (.a 4)), (.int .i64 (.a 5)), (.int .i64 (.a 6)), (.int .i64 (.a 7)), (.va 1)]), (.agg [(.int .i64 (.l 5)), (.int .i64 (.l 0)), (.int .i64 (.l 0)), (.int .i64 (.l 0)), (.int .i64 (.l 0)), (.int .i64 (.l 0))])] [] [(.one .val), (.one (.int .i64))]
  (.ite (.not (.eq (.a 24) (.l 0)))
   (.ret false (.bool (.t false)) [])
   (.need (.is 0 9)
   (.ite (.not (.eq (.slen 9) (.l 3)))
   (.ret false (.bool (.t false)) [])
   (.need (.lt (.l 0) (.slen 9))
   (.load false (.ea 9 (.l 0) 1 0) [(.int .i64)]
   (.ite (.not (.eq (.a 26) (.l 0)))
    (.ret false (.bool (.t false)) [])
    (.need (.lt (.l 1) (.slen 9))
    (.load false (.ea 9 (.l 1) 1 0) [(.int .i64)]
    (.ite (.not (.eq (.a 27) (.l 5)))
    (.ret false (.bool (.t false)) [])
    (.need (.lt (.l 2) (.slen 9))
    (.load false (.ea 9 (.l 2) 1 0) [(.int .i64)]
    (.ite (.not (.eq (.a 28) (.l 5)))
     (.ret false (.bool (.t false)) [])
     (.ite (.not (.eq (.a 25) (.l 4)))
     (.ret false (.bool (.t false)) [])
     (.app none (.lit [[(.int .i64 (.a 0)), (.int .i64 (.a 1)), (.int .i64 (.a 2)), (.int .i64 (.a 3)), (.int .i64 (.a 4)), (.int .i64 (.a 5)), (.int .i64 (.a 6)), (.int .i64 (.a 7)), (.va 1)], [(.int .i64 (.a 8)), (.int .i64 (.a 9)), (.int .i64 (.a 10)), (.int .i64 (.a 11)), (.int .i64 (.a 12)), (.int .i64 (.a 13)), (.int .i64 (.a 14)), (.int .i64 (.a 15)), (.va 3)]]) 9
     (.call 18 [(.agg [(.int .i64 (.l 2)), (.int .i64 (.l 0)), (.int .i64 (.l 0)), (.int .i64 (.l 0)), (.int .i64 (.l 0)), (.int .i64 (.l 0)), (.int .i64 (.l 0)), (.int .i64 (.l 0)), (.va 11)]), (.agg [(.int .i64 (.l 1)), (.int .i64 (.l 1)), (.int .i64 (.l 0)), (.int .i64 (.l 0)), (.int .i64 (.l 0)), (.int .i64 (.l 0))])] [] [(.one (.int .i64))]
     (.ite (.not (.eq (.a 29) (.l 7)))
      (.ret false (.bool (.t false)) [])
      (.call 18 [(.agg [(.int .i64 (.l 3)), (.int .i64 (.l 0)), (.int .i64 (.l 0)), (.int .i64 (.l 0)), (.int .i64 (.l 0)), (.int .i64 (.l 0)), (.int .i64 (.l 0)), (.int .i64 (.l 0)), (.va 4)]), (.agg [(.int .i64 (.l 1)), (.int .i64 (.l 1)), (.int .i64 (.l 0)), (.int .i64 (.l 0)), (.int .i64 (.l 0)), (.int .i64 (.l 0))])] [] [(.one (.int .i64))]
      (.ite (.not (.eq (.a 30) (.l 12)))
      (.ret false (.bool (.t false)) [])
      (.call 18 [(.agg [(.int .i64 (.l 3)), (.int .i64 (.l 0)), (.int .i64 (.l 0)), (.int .i64 (.l 0)), (.int .i64 (.l 0)), (.int .i64 (.l 0)), (.int .i64 (.l 0)), (.int .i64 (.l 0)), (.va 7)]), (.agg [(.int .i64 (.l 1)), (.int .i64 (.l 0)), (.int .i64 (.l 0)), (.int .i64 (.l 0)), (.int .i64 (.l 0)), (.int .i64 (.l 0))])] [] [(.one (.int .i64))]
      (.ite (.not (.eq (.a 31) (.l 7)))
       (.ret false (.bool (.t false)) [])
       (.call 18 [(.agg [(.int .i64 (.l 3)), (.int .i64 (.l 0)), (.int .i64 (.l 0)), (.int .i64 (.l 0)), (.int .i64 (.l 0)), (.int .i64 (.l 0)), (.int .i64 (.l 0)), (.int .i64 (.l 0)), (.va 7)]), (.agg [(.int .i64 (.l 2)), (.int .i64 (.l 0)), (.int .i64 (.l 0)), (.int .i64 (.l 0)), (.int .i64 (.l 0)), (.int .i64 (.l 0))])] [] [(.one (.int .i64))]
       (.ite (.not (.eq (.a 32) (.l 12)))
       (.ret false (.bool (.t false)) [])
       (.call 18 [(.agg [(.int .i64 (.l 4)), (.int .i64 (.l 1)), (.int .i64 (.l 1)), (.int .i64 (.l 0)), (.int .i64 (.l 0)), (.int .i64 (.l 0)), (.int .i64 (.l 0)), (.int .i64 (.l 3)), (.va 8)]), (.agg [(.int .i64 (.l 1)), (.int .i64 (.l 1)), (.int .i64 (.l 0)), (.int .i64 (.l 0)), (.int .i64 (.l 0)), (.int .i64 (.l 0))])] [] [(.one (.int .i64))]
       (.ite (.eq (.a 33) (.l 15))
        (.call 18 [(.agg [(.int .i64 (.l 4)), (.int .i64 (.l 1)), (.int .i64 (.l 1)), (.int .i64 (.l 0)), (.int .i64 (.l 0)), (.int .i64 (.l 0)), (.int .i64 (.l 0)), (.int .i64 (.l 3)), (.va 8)]), (.agg [(.int .i64 (.l 0)), (.int .i64 (.l 1)), (.int .i64 (.l 0)), (.int .i64 (.l 0)), (.int .i64 (.l 0)), (.int .i64 (.l 0))])] [] [(.one (.int .i64))]
        (.ite (.eq (.a 34) (.l 7))
        (.app none (.lit [[(.int .i64 (.l 3)), (.int .i64 (.l 0)), (.int .i64 (.l 0)), (.int .i64 (.l 0)), (.int .i64 (.l 0)), (.int .i64 (.l 0)), (.int .i64 (.l 0)), (.int .i64 (.l 0)), (.va 4)]]) 9
        (.call 18 [(.agg [(.int .i64 (.l 5)), (.int .i64 (.l 0)), (.int .i64 (.l 0)), (.int .i64 (.l 0)), (.int .i64 (.l 0)), (.int .i64 (.l 0)), (.int .i64 (.l 0)), (.int .i64 (.l 10)), (.va 12)]), (.agg [(.int .i64 (.l 1)), (.int .i64 (.l 1)), (.int .i64 (.l 0)), (.int .i64 (.l 0)), (.int .i64 (.l 0)), (.int .i64 (.l 0))])] [] [(.one (.int .i64))]
        (.ite (.eq (.a 35) (.l 10))
         (.call 20 [(.agg [(.int .i64 (.a 0)), (.int .i64 (.a 1)), (.int .i64 (.a 2)), (.int .i64 (.a 3)), (.int .i64 (.a 4)), (.int .i64 (.a 5)), (.int .i64 (.a 6)), (.int .i64 (.a 7)), (.va 1)])] [] [(.one (.int .i64))]
         (.ite (.eq (.a 36) (.l 5))
         (.app none (.lit [[(.int .i64 (.l 0))], [(.int .i64 (.l 5))], [(.int .i64 (.l 4))]]) 1
         (.call 27 [(.va 13), (.agg [(.int .i64 (.l 2)), (.int .i64 (.l 0)), (.int .i64 (.l 0)), (.int .i64 (.l 0)), (.int .i64 (.l 0)), (.int .i64 (.l 0))])] [] [(.one .bool)]
         (.ite (.not (.a 0))
          (.call 27 [(.va 9), (.agg [(.int .i64 (.l 2)), (.int .i64 (.l 0)), (.int .i64 (.l 0)), (.int .i64 (.l 0)), (.int .i64 (.l 0)), (.int .i64 (.l 0))])] [] [(.one .bool)]
          (.ret false (.bool (.a 1)) []))
          (.ret false (.bool (.t false)) []))))
         (.ret false (.bool (.t false)) [])))
         (.ret false (.bool (.t false)) []))))
        (.ret false (.bool (.t false)) [])))
        (.ret false (.bool (.t false)) [])))))))))))))))))))))))))))))
def a7i : PT :=
 (.call 47 [(.int .i64 (.l 7)), (.va 5)] [] [(.agg [(.int .i64), (.int .i64), (.int .i64), (.int .i64), (.int .i64), (.int .i64), (.int .i64), (.int .i64), .val])]
  (.both a3L a3L))
def a7k : PT :=
 (.call 47 [(.int .i64 (.l 7)), (.va 5)] [] [(.agg [(.int .i64), (.int .i64), (.int .i64), (.int .i64), (.int .i64), (.int .i64), (.int .i64), (.int .i64), .val])]
  (.app none (.lit [[(.int .i64 (.a 0)), (.int .i64 (.a 1)), (.int .i64 (.a 2)), (.int .i64 (.a 3)), (.int .i64 (.a 4)), (.int .i64 (.a 5)), (.int .i64 (.a 6)), (.int .i64 (.a 7)), (.va 1)], [(.int .i64 (.a 16)), (.int .i64 (.a 17)), (.int .i64 (.a 18)), (.int .i64 (.a 19)), (.int .i64 (.a 20)), (.int .i64 (.a 21)), (.int .i64 (.a 22)), (.int .i64 (.a 23)), (.va 6)]]) 9
  (.app none (.lit [[(.int .i64 (.l 3)), (.int .i64 (.l 0)), (.int .i64 (.l 0)), (.int .i64 (.l 0)), (.int .i64 (.l 0)), (.int .i64 (.l 0)), (.int .i64 (.l 0)), (.int .i64 (.l 0)), (.va 4)]]) 9
  (.call 24 [(.agg [(.int .i64 (.a 0)), (.int .i64 (.a 1)), (.int .i64 (.a 2)), (.int .i64 (.a 3)), (.int .i64 (.a 4)), (.int .i64 (.a 5)), (.int .i64 (.a 6)), (.int .i64 (.a 7)), (.va 1)]), (.agg [(.int .i64 (.l 2)), (.int .i64 (.l 0)), (.int .i64 (.l 0)), (.int .i64 (.l 0)), (.int .i64 (.l 0)), (.int .i64 (.l 0))])] [] [(.one .val), (.one (.int .i64))]
  (.call 24 [(.agg [(.int .i64 (.a 0)), (.int .i64 (.a 1)), (.int .i64 (.a 2)), (.int .i64 (.a 3)), (.int .i64 (.a 4)), (.int .i64 (.a 5)), (.int .i64 (.a 6)), (.int .i64 (.a 7)), (.va 1)]), (.agg [(.int .i64 (.l 5)), (.int .i64 (.l 0)), (.int .i64 (.l 0)), (.int .i64 (.l 0)), (.int .i64 (.l 0)), (.int .i64 (.l 0))])] [] [(.one .val), (.one (.int .i64))]
  (.ite (.not (.eq (.a 24) (.l 0)))
  (.ret false (.bool (.t false)) [])
  (.need (.is 0 9)
  (.ite (.not (.eq (.slen 9) (.l 3)))
   (.ret false (.bool (.t false)) [])
   (.need (.lt (.l 0) (.slen 9))
   (.load false (.ea 9 (.l 0) 1 0) [(.int .i64)]
   (.ite (.not (.eq (.a 26) (.l 0)))
   (.ret false (.bool (.t false)) [])
   (.need (.lt (.l 1) (.slen 9))
   (.load false (.ea 9 (.l 1) 1 0) [(.int .i64)]
   (.ite (.not (.eq (.a 27) (.l 5)))
    (.ret false (.bool (.t false)) [])
    (.need (.lt (.l 2) (.slen 9))
    (.load false (.ea 9 (.l 2) 1 0) [(.int .i64)]
    (.ite (.not (.eq (.a 28) (.l 5)))
    (.ret false (.bool (.t false)) [])
    (.ite (.not (.eq (.a 25) (.l 4)))
     (.ret false (.bool (.t false)) [])
     (.app none (.lit [[(.int .i64 (.a 0)), (.int .i64 (.a 1)), (.int .i64 (.a 2)), (.int .i64 (.a 3)), (.int .i64 (.a 4)), (.int .i64 (.a 5)), (.int .i64 (.a 6)), (.int .i64 (.a 7)), (.va 1)], [(.int .i64 (.a 8)), (.int .i64 (.a 9)), (.int .i64 (.a 10)), (.int .i64 (.a 11)), (.int .i64 (.a 12)), (.int .i64 (.a 13)), (.int .i64 (.a 14)), (.int .i64 (.a 15)), (.va 3)]]) 9
     (.call 18 [(.agg [(.int .i64 (.l 2)), (.int .i64 (.l 0)), (.int .i64 (.l 0)), (.int .i64 (.l 0)), (.int .i64 (.l 0)), (.int .i64 (.l 0)), (.int .i64 (.l 0)), (.int .i64 (.l 0)), (.va 11)]), (.agg [(.int .i64 (.l 1)), (.int .i64 (.l 1)), (.int .i64 (.l 0)), (.int .i64 (.l 0)), (.int .i64 (.l 0)), (.int .i64 (.l 0))])] [] [(.one (.int .i64))]
     (.ite (.not (.eq (.a 29) (.l 7)))
     (.ret false (.bool (.t false)) [])
     (.call 18 [(.agg [(.int .i64 (.l 3)), (.int .i64 (.l 0)), (.int .i64 (.l 0)), (.int .i64 (.l 0)), (.int .i64 (.l 0)), (.int .i64 (.l 0)), (.int .i64 (.l 0)), (.int .i64 (.l 0)), (.va 4)]), (.agg [(.int .i64 (.l 1)), (.int .i64 (.l 1)), (.int .i64 (.l 0)), (.int .i64 (.l 0)), (.int .i64 (.l 0)), (.int .i64 (.l 0))])] [] [(.one (.int .i64))]
     (.ite (.not (.eq (.a 30) (.l 12)))
      (.ret false (.bool (.t false)) [])
      (.call 18 [(.agg [(.int .i64 (.l 3)), (.int .i64 (.l 0)), (.int .i64 (.l 0)), (.int .i64 (.l 0)), (.int .i64 (.l 0)), (.int .i64 (.l 0)), (.int .i64 (.l 0)), (.int .i64 (.l 0)), (.va 7)]), (.agg [(.int .i64 (.l 1)), (.int .i64 (.l 0)), (.int .i64 (.l 0)), (.int .i64 (.l 0)), (.int .i64 (.l 0)), (.int .i64 (.l 0))])] [] [(.one (.int .i64))]
      (.ite (.not (.eq (.a 31) (.l 7)))
      (.ret false (.bool (.t false)) [])
      (.call 18 [(.agg [(.int .i64 (.l 3)), (.int .i64 (.l 0)), (.int .i64 (.l 0)), (.int .i64 (.l 0)), (.int .i64 (.l 0)), (.int .i64 (.l 0)), (.int .i64 (.l 0)), (.int .i64 (.l 0)), (.va 7)]), (.agg [(.int .i64 (.l 2)), (.int .i64 (.l 0)), (.int .i64 (.l 0)), (.int .i64 (.l 0)), (.int .i64 (.l 0)), (.int .i64 (.l 0))])] [] [(.one (.int .i64))]
      (.ite (.not (.eq (.a 32) (.l 12)))
       (.ret false (.bool (.t false)) [])
       (.call 18 [(.agg [(.int .i64 (.l 4)), (.int .i64 (.l 1)), (.int .i64 (.l 1)), (.int .i64 (.l 0)), (.int .i64 (.l 0)), (.int .i64 (.l 0)), (.int .i64 (.l 0)), (.int .i64 (.l 3)), (.va 8)]), (.agg [(.int .i64 (.l 1)), (.int .i64 (.l 1)), (.int .i64 (.l 0)), (.int .i64 (.l 0)), (.int .i64 (.l 0)), (.int .i64 (.l 0))])] [] [(.one (.int .i64))]
       (.ite (.eq (.a 33) (.l 15))
       (.call 18 [(.agg [(.int .i64 (.l 4)), (.int .i64 (.l 1)), (.int .i64 (.l 1)), (.int .i64 (.l 0)), (.int .i64 (.l 0)), (.int .i64 (.l 0)), (.int .i64 (.l 0)), (.int .i64 (.l 3)), (.va 8)]), (.agg [(.int .i64 (.l 0)), (.int .i64 (.l 1)), (.int .i64 (.l 0)), (.int .i64 (.l 0)), (.int .i64 (.l 0)), (.int .i64 (.l 0))])] [] [(.one (.int .i64))]
       (.ite (.eq (.a 34) (.l 7))
        (.app none (.lit [[(.int .i64 (.l 3)), (.int .i64 (.l 0)), (.int .i64 (.l 0)), (.int .i64 (.l 0)), (.int .i64 (.l 0)), (.int .i64 (.l 0)), (.int .i64 (.l 0)), (.int .i64 (.l 0)), (.va 4)]]) 9
        (.call 18 [(.agg [(.int .i64 (.l 5)), (.int .i64 (.l 0)), (.int .i64 (.l 0)), (.int .i64 (.l 0)), (.int .i64 (.l 0)), (.int .i64 (.l 0)), (.int .i64 (.l 0)), (.int .i64 (.l 10)), (.va 12)]), (.agg [(.int .i64 (.l 1)), (.int .i64 (.l 1)), (.int .i64 (.l 0)), (.int .i64 (.l 0)), (.int .i64 (.l 0)), (.int .i64 (.l 0))])] [] [(.one (.int .i64))]
        (.ite (.eq (.a 35) (.l 10))
        (.call 20 [(.agg [(.int .i64 (.a 0)), (.int .i64 (.a 1)), (.int .i64 (.a 2)), (.int .i64 (.a 3)), (.int .i64 (.a 4)), (.int .i64 (.a 5)), (.int .i64 (.a 6)), (.int .i64 (.a 7)), (.va 1)])] [] [(.one (.int .i64))]
        (.ite (.eq (.a 36) (.l 5))
         (.app none (.lit [[(.int .i64 (.l 0))], [(.int .i64 (.l 5))], [(.int .i64 (.l 4))]]) 1
         (.call 27 [(.va 13), (.agg [(.int .i64 (.l 2)), (.int .i64 (.l 0)), (.int .i64 (.l 0)), (.int .i64 (.l 0)), (.int .i64 (.l 0)), (.int .i64 (.l 0))])] [] [(.one .bool)]
         (.ite (.not (.a 0))
         (.call 27 [(.va 9), (.agg [(.int .i64 (.l 2)), (.int .i64 (.l 0)), (.int .i64 (.l 0)), (.int .i64 (.l 0)), (.int .i64 (.l 0)), (.int .i64 (.l 0))])] [] [(.one .bool)]
         (.ret false (.bool (.a 1)) []))
         (.ret false (.bool (.t false)) []))))
         (.ret false (.bool (.t false)) [])))
        (.ret false (.bool (.t false)) []))))
        (.ret false (.bool (.t false)) [])))
       (.ret false (.bool (.t false)) []))))))))))))))))))))))))))))))
def a7n : PT :=
 (.app none (.lit [[(.int .i64 (.l 1))]]) 1
 (.both a7i a7k))
def a6U : PT :=
 (.app none (.lit [[(.int .i64 (.l 1))]]) 1
 (.call 47 [(.int .i64 (.l 7)), (.va 5)] [] [(.agg [(.int .i64), (.int .i64), (.int .i64), (.int .i64), (.int .i64), (.int .i64), (.int .i64), (.int .i64), .val])]
 (.app none (.lit [[(.int .i64 (.a 0)), (.int .i64 (.a 1)), (.int .i64 (.a 2)), (.int .i64 (.a 3)), (.int .i64 (.a 4)), (.int .i64 (.a 5)), (.int .i64 (.a 6)), (.int .i64 (.a 7)), (.va 1)], [(.int .i64 (.a 16)), (.int .i64 (.a 17)), (.int .i64 (.a 18)), (.int .i64 (.a 19)), (.int .i64 (.a 20)), (.int .i64 (.a 21)), (.int .i64 (.a 22)), (.int .i64 (.a 23)), (.va 6)]]) 9
 (.app none (.lit [[(.int .i64 (.l 3)), (.int .i64 (.l 0)), (.int .i64 (.l 0)), (.int .i64 (.l 0)), (.int .i64 (.l 0)), (.int .i64 (.l 0)), (.int .i64 (.l 0)), (.int .i64 (.l 0)), (.va 4)]]) 9
 (.call 24 [(.agg [(.int .i64 (.a 0)), (.int .i64 (.a 1)), (.int .i64 (.a 2)), (.int .i64 (.a 3)), (.int .i64 (.a 4)), (.int .i64 (.a 5)), (.int .i64 (.a 6)), (.int .i64 (.a 7)), (.va 1)]), (.agg [(.int .i64 (.l 2)), (.int .i64 (.l 0)), (.int .i64 (.l 0)), (.int .i64 (.l 0)), (.int .i64 (.l 0)), (.int .i64 (.l 0))])] [] [(.one .val), (.one (.int .i64))]
 (.call 24 [(.agg [(.int .i64 (.a 0)), (.int .i64 (.a 1)), (.int .i64 (.a 2)), (.int .i64 (.a 3)), (.int .i64 (.a 4)), (.int .i64 (.a 5)), (.int .i64 (.a 6)), (.int .i64 (.a 7)), (.va 1)]), (.agg [(.int .i64 (.l 5)), (.int .i64 (.l 0)), (.int .i64 (.l 0)), (.int .i64 (.l 0)), (.int .i64 (.l 0)), (.int .i64 (.l 0))])] [] [(.one .val), (.one (.int .i64))]
 (.ite (.not (.eq (.a 24) (.l 0)))
  (.ret false (.bool (.t false)) [])
  (.need (.is 0 9)
  (.ite (.not (.eq (.slen 9) (.l 3)))
  (.ret false (.bool (.t false)) [])
  (.need (.lt (.l 0) (.slen 9))
  (.load false (.ea 9 (.l 0) 1 0) [(.int .i64)]
  (.ite (.not (.eq (.a 26) (.l 0)))
   (.ret false (.bool (.t false)) [])
   (.need (.lt (.l 1) (.slen 9))
   (.load false (.ea 9 (.l 1) 1 0) [(.int .i64)]
   (.ite (.not (.eq (.a 27) (.l 5)))
   (.ret false (.bool (.t false)) [])
   (.need (.lt (.l 2) (.slen 9))
   (.load false (.ea 9 (.l 2) 1 0) [(.int .i64)]
   (.ite (.not (.eq (.a 28) (.l 5)))
    (.ret false (.bool (.t false)) [])
    (.ite (.not (.eq (.a 25) (.l 4)))
    (.ret false (.bool (.t false)) [])
    (.app none (.lit [[(.int .i64 (.a 0)), (.int .i64 (.a 1)), (.int .i64 (.a 2)), (.int .i64 (.a 3)), (.int .i64 (.a 4)), (.int .i64 (.a 5)), (.int .i64 (.a 6)), (.int .i64 (.a 7)), (.va 1)], [(.int .i64 (.a 8)), (.int .i64 (.a 9)), (.int .i64 (.a 10)), (.int .i64 (.a 11)), (.int .i64 (.a 12)), (.int .i64 (.a 13)), (.int .i64 (.a 14)), (.int .i64 (.a 15)), (.va 3)]]) 9
    (.call 18 [(.agg [(.int .i64 (.l 2)), (.int .i64 (.l 0)), (.int .i64 (.l 0)), (.int .i64 (.l 0)), (.int .i64 (.l 0)), (.int .i64 (.l 0)), (.int .i64 (.l 0)), (.int .i64 (.l 0)), (.va 11)]), (.agg [(.int .i64 (.l 1)), (.int .i64 (.l 1)), (.int .i64 (.l 0)), (.int .i64 (.l 0)), (.int .i64 (.l 0)), (.int .i64 (.l 0))])] [] [(.one (.int .i64))]
    (.ite (.not (.eq (.a 29) (.l 7)))
     (.ret false (.bool (.t false)) [])
     (.call 18 [(.agg [(.int .i64 (.l 3)), (.int .i64 (.l 0)), (.int .i64 (.l 0)), (.int .i64 (.l 0)), (.int .i64 (.l 0)), (.int .i64 (.l 0)), (.int .i64 (.l 0)), (.int .i64 (.l 0)), (.va 4)]), (.agg [(.int .i64 (.l 1)), (.int .i64 (.l 1)), (.int .i64 (.l 0)), (.int .i64 (.l 0)), (.int .i64 (.l 0)), (.int .i64 (.l 0))])] [] [(.one (.int .i64))]
     (.ite (.not (.eq (.a 30) (.l 12)))
     (.ret false (.bool (.t false)) [])
     (.call 18 [(.agg [(.int .i64 (.l 3)), (.int .i64 (.l 0)), (.int .i64 (.l 0)), (.int .i64 (.l 0)), (.int .i64 (.l 0)), (.int .i64 (.l 0)), (.int .i64 (.l 0)), (.int .i64 (.l 0)), (.va 7)]), (.agg [(.int .i64 (.l 1)), (.int .i64 (.l 0)), (.int .i64 (.l 0)), (.int .i64 (.l 0)), (.int .i64 (.l 0)), (.int .i64 (.l 0))])] [] [(.one (.int .i64))]
     (.ite (.not (.eq (.a 31) (.l 7)))
      (.ret false (.bool (.t false)) [])
      (.call 18 [(.agg [(.int .i64 (.l 3)), (.int .i64 (.l 0)), (.int .i64 (.l 0)), (.int .i64 (.l 0)), (.int .i64 (.l 0)), (.int .i64 (.l 0)), (.int .i64 (.l 0)), (.int .i64 (.l 0)), (.va 7)]), (.agg [(.int .i64 (.l 2)), (.int .i64 (.l 0)), (.int .i64 (.l 0)), (.int .i64 (.l 0)), (.int .i64 (.l 0)), (.int .i64 (.l 0))])] [] [(.one (.int .i64))]
      (.ite (.not (.eq (.a 32) (.l 12)))
      (.ret false (.bool (.t false)) [])
      (.call 18 [(.agg [(.int .i64 (.l 4)), (.int .i64 (.l 1)), (.int .i64 (.l 1)), (.int .i64 (.l 0)), (.int .i64 (.l 0)), (.int .i64 (.l 0)), (.int .i64 (.l 0)), (.int .i64 (.l 3)), (.va 8)]), (.agg [(.int .i64 (.l 1)), (.int .i64 (.l 1)), (.int .i64 (.l 0)), (.int .i64 (.l 0)), (.int .i64 (.l 0)), (.int .i64 (.l 0))])] [] [(.one (.int .i64))]
      (.ite (.eq (.a 33) (.l 15))
       (.call 18 [(.agg [(.int .i64 (.l 4)), (.int .i64 (.l 1)), (.int .i64 (.l 1)), (.int .i64 (.l 0)), (.int .i64 (.l 0)), (.int .i64 (.l 0)), (.int .i64 (.l 0)), (.int .i64 (.l 3)), (.va 8)]), (.agg [(.int .i64 (.l 0)), (.int .i64 (.l 1)), (.int .i64 (.l 0)), (.int .i64 (.l 0)), (.int .i64 (.l 0)), (.int .i64 (.l 0))])] [] [(.one (.int .i64))]
       (.ite (.eq (.a 34) (.l 7))
       (.app none (.lit [[(.int .i64 (.l 3)), (.int .i64 (.l 0)), (.int .i64 (.l 0)), (.int .i64 (.l 0)), (.int .i64 (.l 0)), (.int .i64 (.l 0)), (.int .i64 (.l 0)), (.int .i64 (.l 0)), (.va 4)]]) 9
       (.call 18 [(.agg [(.int .i64 (.l 5)), (.int .i64 (.l 0)), (.int .i64 (.l 0)), (.int .i64 (.l 0)), (.int .i64 (.l 0)), (.int .i64 (.l 0)), (.int .i64 (.l 0)), (.int .i64 (.l 10)), (.va 12)]), (.agg [(.int .i64 (.l 1)), (.int .i64 (.l 1)), (.int .i64 (.l 0)), (.int .i64 (.l 0)), (.int .i64 (.l 0)), (.int .i64 (.l 0))])] [] [(.one (.int .i64))]
       (.ite (.eq (.a 35) (.l 10))
        (.call 20 [(.agg [(.int .i64 (.a 0)), (.int .i64 (.a 1)), (.int .i64 (.a 2)), (.int .i64 (.a 3)), (.int .i64 (.a 4)), (.int .i64 (.a 5)), (.int .i64 (.a 6)), (.int .i64 (.a 7)), (.va 1)])] [] [(.one (.int .i64))]
        (.ite (.eq (.a 36) (.l 5))
        (.app none (.lit [[(.int .i64 (.l 0))], [(.int .i64 (.l 5))], [(.int .i64 (.l 4))]]) 1
        (.call 27 [(.va 13), (.agg [(.int .i64 (.l 2)), (.int .i64 (.l 0)), (.int .i64 (.l 0)), (.int .i64 (.l 0)), (.int .i64 (.l 0)), (.int .i64 (.l 0))])] [] [(.one .bool)]
        (.ite (.not (.a 0))
         (.call 27 [(.va 9), (.agg [(.int .i64 (.l 2)), (.int .i64 (.l 0)), (.int .i64 (.l 0)), (.int .i64 (.l 0)), (.int .i64 (.l 0)), (.int .i64 (.l 0))])] [] [(.one .bool)]
         (.ret false (.bool (.a 1)) []))
         (.ret false (.bool (.t false)) []))))
        (.ret false (.bool (.t false)) [])))
        (.ret false (.bool (.t false)) []))))
       (.ret false (.bool (.t false)) [])))
       (.ret false (.bool (.t false)) [])))))))))))))))))))))))))))))))
def a9k : PT :=
 (.app none (.lit [[(.int .i64 (.l 1))]]) 1
 (.call 47 [(.int .i64 (.l 5)), (.va 0)] [] [(.agg [(.int .i64), (.int .i64), (.int .i64), (.int .i64), (.int .i64), (.int .i64), (.int .i64), (.int .i64), .val])]
 (.app none (.lit [[(.int .i64 (.l 0))], [(.int .i64 (.l 1))]]) 1
 (.call 47 [(.int .i64 (.l 7)), (.va 2)] [] [(.agg [(.int .i64), (.int .i64), (.int .i64), (.int .i64), (.int .i64), (.int .i64), (.int .i64), (.int .i64), .val])]
 (.app none (.lit [[(.int .i64 (.a 0)), (.int .i64 (.a 1)), (.int .i64 (.a 2)), (.int .i64 (.a 3)), (.int .i64 (.a 4)), (.int .i64 (.a 5)), (.int .i64 (.a 6)), (.int .i64 (.a 7)), (.va 1)], [(.int .i64 (.a 8)), (.int .i64 (.a 9)), (.int .i64 (.a 10)), (.int .i64 (.a 11)), (.int .i64 (.a 12)), (.int .i64 (.a 13)), (.int .i64 (.a 14)), (.int .i64 (.a 15)), (.va 3)]]) 9
 (.both a7n a6U))))))
def saleroomlaw13_awake_S : Sx.Sys := ⟨[], a9k, [], none, none⟩
def a7q : List Cfg := []
theorem a8g : SysOk Try.prog 17 saleroomlaw13_awake_S := a0D (c := (cg [] [] [] false false false true)) (a0w _ _ _ _ _ _ _ _ _) Try.func17 Try.call17 (by kernel_rfl) a7q saleroomlaw13_awake_S 5000 rfl (by kernel_rfl) (by kernel_rfl) rfl
def a8q : PT :=
 (.newM [(.int .i64 (.l 0))] 3
 (.storeM (.pa 1 0) [(.int .i64 (.l 0))]
 (.call 67 [(.agg [(.fn 90 0 [(.pa 1 0)])]), (.agg [(.int .i64 (.a 0)), (.int .i64 (.a 1)), (.int .i64 (.a 2)), (.int .i64 (.a 3)), (.int .i64 (.a 4)), (.int .i64 (.a 5)), (.int .i64 (.a 6)), (.int .i64 (.a 7)), (.va 0)])] [] [(.one .bool)]
 (.load false (.pa 1 0) [(.int .i64)]
 (.ret false (.int .i64 (.a 8)) [])))))
def expr_Size_S : Sx.Sys := ⟨[(.sh (.agg [(.int .i64), (.int .i64), (.int .i64), (.int .i64), (.int .i64), (.int .i64), (.int .i64), (.int .i64), .val]))], a8q, [], none, none⟩
def b5N : List Cfg := []
theorem b8l : SysOk Try.prog 68 expr_Size_S := a0D (c := (cg [] [3] [] true false false true)) (a0w _ _ _ _ _ _ _ _ _) Try.func68 Try.call68 (by kernel_rfl) b5N expr_Size_S 5000 rfl (by kernel_rfl) (by kernel_rfl) rfl
def a2w : PT :=
 (.rng 1
 (.jump 0 [(.a 0), (.a 1), (.a 2), (.a 3), (.a 4), (.a 5)] [] [(.va 0), (.va 2)]))
def a2m : PT :=
 (.next 1 6
 (.ret false (.tup []) [])
 (.entry 1 6
 (.call 75 [(.va 0), (.agg [(.int .i64 (.a 0)), (.int .i64 (.a 1)), (.int .i64 (.a 2)), (.int .i64 (.a 3)), (.int .i64 (.a 4)), (.int .i64 (.a 5))]), (.agg [(.int .i64 (.a 13)), (.int .i64 (.a 14)), (.int .i64 (.a 15)), (.int .i64 (.a 16)), (.int .i64 (.a 17)), (.int .i64 (.a 18))]), (.int .i64 (.a 19))] [] []
 (.jump 0 [(.a 0), (.a 1), (.a 2), (.a 3), (.a 4), (.a 5)] [] [(.va 0), (.va 1)]))))
def valuation_worths_merge_S : Sx.Sys := ⟨[(.sh (.one .val)), (.sh (.agg [(.int .i64), (.int .i64), (.int .i64), (.int .i64), (.int .i64), (.int .i64)])), (.sh (.one .val))], a2w, [a2m], none, none⟩
def a6d : List Cfg := [{ todo := [(.code [false, false, true, true]), (.inLoop [false, false, true, true]), (.inBlock 0)], sl := [(.va 0), (.junk 0), (.junk 1), .undef, (.ptr 0 0), .undef, (.junk 2), (.junk 3), (.junk 4), (.va 1), (.junk 5), (.junk 6), (.junk 7), (.junk 8), (.junk 9), (.junk 10), (.junk 11), (.junk 12), (.junk 13), (.junk 14)], H := [(.cells [(.int .i64 (.a 0)), (.int .i64 (.a 1)), (.int .i64 (.a 2)), (.int .i64 (.a 3)), (.int .i64 (.a 4)), (.int .i64 (.a 5))] 23 false)], ni := 6, nb := 0, nv := 2, nj := 15 }]
theorem a6x : SysIs Try.prog 76 valuation_worths_merge_S := b2i (c := (cg [[false, false, true, true]] [] [] false false false true)) (a0w _ _ _ _ _ _ _ _ _) Try.func76 Try.call76 (by kernel_rfl) a6d valuation_worths_merge_S 5000 rfl (by kernel_rfl) (by kernel_rfl)
def a6X : PT :=
 (.need (.and (.le (.l (-9223372036854775808)) (.add (.a 0) (.a 6))) (.le (.add (.a 0) (.a 6)) (.l 9223372036854775807)))
 (.need (.and (.le (.l (-9223372036854775808)) (.add (.a 1) (.a 7))) (.le (.add (.a 1) (.a 7)) (.l 9223372036854775807)))
 (.need (.and (.le (.l (-9223372036854775808)) (.add (.a 2) (.a 8))) (.le (.add (.a 2) (.a 8)) (.l 9223372036854775807)))
 (.need (.and (.le (.l (-9223372036854775808)) (.add (.a 3) (.a 9))) (.le (.add (.a 3) (.a 9)) (.l 9223372036854775807)))
 (.need (.and (.le (.l (-9223372036854775808)) (.add (.a 4) (.a 10))) (.le (.add (.a 4) (.a 10)) (.l 9223372036854775807)))
 (.need (.and (.le (.l (-9223372036854775808)) (.add (.a 5) (.a 11))) (.le (.add (.a 5) (.a 11)) (.l 9223372036854775807)))
 (.ret false (.agg [(.int .i64 (.add (.a 0) (.a 6))), (.int .i64 (.add (.a 1) (.a 7))), (.int .i64 (.add (.a 2) (.a 8))), (.int .i64 (.add (.a 3) (.a 9))), (.int .i64 (.add (.a 4) (.a 10))), (.int .i64 (.add (.a 5) (.a 11)))]) [])))))))
def bundle_Add_S : Sx.Sys := ⟨[(.sh (.agg [(.int .i64), (.int .i64), (.int .i64), (.int .i64), (.int .i64), (.int .i64)])), (.sh (.agg [(.int .i64), (.int .i64), (.int .i64), (.int .i64), (.int .i64), (.int .i64)]))], a6X, [], none, none⟩
def b4h : List Cfg := []
theorem b0N : SysOk Try.prog 92 bundle_Add_S := a0D (c := (cg [] [] [] false false false true)) (a0w _ _ _ _ _ _ _ _ _) Try.func92 Try.call92 (by kernel_rfl) b4h bundle_Add_S 5000 rfl (by kernel_rfl) (by kernel_rfl) rfl
end Go.Proofs.Ythmkfeiapdbojaa
set_option maxRecDepth 100000
namespace Go.Proofs.Ythmkfeiapdbojaa
open Go.Sx
def a6r : PT :=
 (.call 42 [(.agg [(.int .i64 (.a 0)), (.int .i64 (.a 1)), (.int .i64 (.a 2)), (.int .i64 (.a 3)), (.int .i64 (.a 4)), (.int .i64 (.a 5)), (.int .i64 (.a 6)), (.int .i64 (.a 7)), (.va 0)])] [] [(.one (.int .i64))]
 (.ite (.not (.eq (.a 14) (.l 0)))
 (.ret false (.int .i64 (.l 0)) [])
 (.call 48 [(.agg [(.int .i64 (.a 8)), (.int .i64 (.a 9)), (.int .i64 (.a 10)), (.int .i64 (.a 11)), (.int .i64 (.a 12)), (.int .i64 (.a 13))])] [] [(.one (.int .i64))]
 (.ite (.not (.eq (.a 15) (.l 0)))
  (.ret false (.int .i64 (.l 0)) [])
  (.call 49 [(.agg [(.int .i64 (.a 0)), (.int .i64 (.a 1)), (.int .i64 (.a 2)), (.int .i64 (.a 3)), (.int .i64 (.a 4)), (.int .i64 (.a 5)), (.int .i64 (.a 6)), (.int .i64 (.a 7)), (.va 0)]), (.agg [(.int .i64 (.a 8)), (.int .i64 (.a 9)), (.int .i64 (.a 10)), (.int .i64 (.a 11)), (.int .i64 (.a 12)), (.int .i64 (.a 13))])] [] [(.one .val)]
  (.rng 1
  (.jump 0 [(.l 0)] [] [(.va 2)])))))))
def a5W : PT :=
 (.next 0 6
 (.ret false (.int .i64 (.a 0)) [])
 (.entry 0 6
 (.jump 0 [(.mx (.a 0) (.a 14))] [] [(.va 0)])))
def valuation_Value_S : Sx.Sys := ⟨[(.sh (.agg [(.int .i64), (.int .i64), (.int .i64), (.int .i64), (.int .i64), (.int .i64), (.int .i64), (.int .i64), .val])), (.sh (.agg [(.int .i64), (.int .i64), (.int .i64), (.int .i64), (.int .i64), (.int .i64)]))], a6r, [a5W], none, none⟩
def a9Q : List Cfg := [{ todo := [(.code [false, false, true, false, true, true, true]), (.inLoop [false, false, true, false, true, true, true]), (.inBlock 0), (.code [true, true, true, true])], sl := [(.junk 0), (.junk 1), (.junk 2), (.junk 3), (.junk 4), (.int .i64 (.a 0)), .undef, (.junk 5), (.junk 6), (.junk 7), (.junk 8), (.junk 9), (.junk 10), (.junk 11), (.junk 12), (.junk 13), (.junk 14), (.junk 15), (.junk 16), (.va 0), (.junk 17), (.junk 18), (.junk 19), (.junk 20), (.junk 21), (.junk 22), (.junk 23), .undef], H := [], ni := 1, nb := 0, nv := 1, nj := 24 }]
theorem b1u : SysIs Try.prog 18 valuation_Value_S := b2i (c := (cg [[false, false, true, false, true, true, true]] [] [] false false false true)) (a0w _ _ _ _ _ _ _ _ _) Try.func18 Try.call18 (by kernel_rfl) a9Q valuation_Value_S 5000 rfl (by kernel_rfl) (by kernel_rfl)
def a2Z : PT :=
 (.call 48 [(.agg [(.int .i64 (.a 0)), (.int .i64 (.a 1)), (.int .i64 (.a 2)), (.int .i64 (.a 3)), (.int .i64 (.a 4)), (.int .i64 (.a 5))])] [] [(.one (.int .i64))]
 (.ite (.not (.eq (.a 6) (.l 0)))
 (.ret false (.int .i64 (.l 0)) [])
 (.need (.and (.le (.l (-9223372036854775808)) (.add (.a 0) (.l 1))) (.le (.add (.a 0) (.l 1)) (.l 9223372036854775807)))
 (.need (.and (.le (.l (-9223372036854775808)) (.mul (.l 1) (.add (.a 0) (.l 1)))) (.le (.mul (.l 1) (.add (.a 0) (.l 1))) (.l 9223372036854775807)))
 (.need (.and (.le (.l (-9223372036854775808)) (.add (.a 1) (.l 1))) (.le (.add (.a 1) (.l 1)) (.l 9223372036854775807)))
 (.need (.and (.le (.l (-9223372036854775808)) (.mul (.mul (.l 1) (.add (.a 0) (.l 1))) (.add (.a 1) (.l 1)))) (.le (.mul (.mul (.l 1) (.add (.a 0) (.l 1))) (.add (.a 1) (.l 1))) (.l 9223372036854775807)))
 (.need (.and (.le (.l (-9223372036854775808)) (.add (.a 2) (.l 1))) (.le (.add (.a 2) (.l 1)) (.l 9223372036854775807)))
 (.need (.and (.le (.l (-9223372036854775808)) (.mul (.mul (.mul (.l 1) (.add (.a 0) (.l 1))) (.add (.a 1) (.l 1))) (.add (.a 2) (.l 1)))) (.le (.mul (.mul (.mul (.l 1) (.add (.a 0) (.l 1))) (.add (.a 1) (.l 1))) (.add (.a 2) (.l 1))) (.l 9223372036854775807)))
 (.need (.and (.le (.l (-9223372036854775808)) (.add (.a 3) (.l 1))) (.le (.add (.a 3) (.l 1)) (.l 9223372036854775807)))
 (.need (.and (.le (.l (-9223372036854775808)) (.mul (.mul (.mul (.mul (.l 1) (.add (.a 0) (.l 1))) (.add (.a 1) (.l 1))) (.add (.a 2) (.l 1))) (.add (.a 3) (.l 1)))) (.le (.mul (.mul (.mul (.mul (.l 1) (.add (.a 0) (.l 1))) (.add (.a 1) (.l 1))) (.add (.a 2) (.l 1))) (.add (.a 3) (.l 1))) (.l 9223372036854775807)))
 (.need (.and (.le (.l (-9223372036854775808)) (.add (.a 4) (.l 1))) (.le (.add (.a 4) (.l 1)) (.l 9223372036854775807)))
 (.need (.and (.le (.l (-9223372036854775808)) (.mul (.mul (.mul (.mul (.mul (.l 1) (.add (.a 0) (.l 1))) (.add (.a 1) (.l 1))) (.add (.a 2) (.l 1))) (.add (.a 3) (.l 1))) (.add (.a 4) (.l 1)))) (.le (.mul (.mul (.mul (.mul (.mul (.l 1) (.add (.a 0) (.l 1))) (.add (.a 1) (.l 1))) (.add (.a 2) (.l 1))) (.add (.a 3) (.l 1))) (.add (.a 4) (.l 1))) (.l 9223372036854775807)))
 (.need (.and (.le (.l (-9223372036854775808)) (.add (.a 5) (.l 1))) (.le (.add (.a 5) (.l 1)) (.l 9223372036854775807)))
 (.need (.and (.le (.l (-9223372036854775808)) (.mul (.mul (.mul (.mul (.mul (.mul (.l 1) (.add (.a 0) (.l 1))) (.add (.a 1) (.l 1))) (.add (.a 2) (.l 1))) (.add (.a 3) (.l 1))) (.add (.a 4) (.l 1))) (.add (.a 5) (.l 1)))) (.le (.mul (.mul (.mul (.mul (.mul (.mul (.l 1) (.add (.a 0) (.l 1))) (.add (.a 1) (.l 1))) (.add (.a 2) (.l 1))) (.add (.a 3) (.l 1))) (.add (.a 4) (.l 1))) (.add (.a 5) (.l 1))) (.l 9223372036854775807)))
 (.ite (.lt (.l 1024) (.mul (.mul (.mul (.mul (.mul (.mul (.l 1) (.add (.a 0) (.l 1))) (.add (.a 1) (.l 1))) (.add (.a 2) (.l 1))) (.add (.a 3) (.l 1))) (.add (.a 4) (.l 1))) (.add (.a 5) (.l 1))))
  (.ret false (.int .i64 (.l 0)) [])
  (.ret false (.int .i64 (.mul (.mul (.mul (.mul (.mul (.mul (.l 1) (.add (.a 0) (.l 1))) (.add (.a 1) (.l 1))) (.add (.a 2) (.l 1))) (.add (.a 3) (.l 1))) (.add (.a 4) (.l 1))) (.add (.a 5) (.l 1)))) []))))))))))))))))
def bundle_Count_S : Sx.Sys := ⟨[(.sh (.agg [(.int .i64), (.int .i64), (.int .i64), (.int .i64), (.int .i64), (.int .i64)]))], a2Z, [], none, none⟩
def b2J : List Cfg := []
theorem b4F : SysOk Try.prog 52 bundle_Count_S := a0D (c := (cg [] [] [] false false false true)) (a0w _ _ _ _ _ _ _ _ _) Try.func52 Try.call52 (by kernel_rfl) b2J bundle_Count_S 5000 rfl (by kernel_rfl) (by kernel_rfl) rfl
def a3c : PT :=
 (.call 70 [(.agg [(.int .i64 (.a 0)), (.int .i64 (.a 1)), (.int .i64 (.a 2)), (.int .i64 (.a 3)), (.int .i64 (.a 4)), (.int .i64 (.a 5)), (.int .i64 (.a 6)), (.int .i64 (.a 7)), (.va 0)])] [] [(.one .bool)]
 (.ite (.not (.a 0))
 (.storeM (.pa 1 0) [(.int .i64 (.l 2))]
 (.load false (.pa 1 0) [(.int .i64)]
 (.ret true (.bool (.eq (.a 8) (.l 0))) [])))
 (.call 71 [(.agg [(.int .i64 (.a 0)), (.int .i64 (.a 1)), (.int .i64 (.a 2)), (.int .i64 (.a 3)), (.int .i64 (.a 4)), (.int .i64 (.a 5)), (.int .i64 (.a 6)), (.int .i64 (.a 7)), (.va 0)])] [] [(.one .bool)]
 (.ite (.not (.a 1))
  (.storeM (.pa 1 0) [(.int .i64 (.l 4))]
  (.load false (.pa 1 0) [(.int .i64)]
  (.ret true (.bool (.eq (.a 8) (.l 0))) [])))
  (.load false (.pa 1 0) [(.int .i64)]
  (.ret true (.bool (.eq (.a 8) (.l 0))) []))))))
def expr_Check_2_S : Sx.Sys := ⟨[(.sh (.agg [(.int .i64), (.int .i64), (.int .i64), (.int .i64), (.int .i64), (.int .i64), (.int .i64), (.int .i64), .val])), .ptr], a3c, [], none, none⟩
def b2H : List Cfg := []
theorem b5f : SysOk Try.prog 69 expr_Check_2_S := a0D (c := (cg [] [] [] true true false true)) (a0w _ _ _ _ _ _ _ _ _) Try.func69 Try.call69 (by kernel_rfl) b2H expr_Check_2_S 5000 rfl (by kernel_rfl) (by kernel_rfl) rfl
def a5h : PT :=
 (.mkQ
 (.call 76 [(.va 2), (.agg [(.int .i64 (.a 0)), (.int .i64 (.a 1)), (.int .i64 (.a 2)), (.int .i64 (.a 3)), (.int .i64 (.a 4)), (.int .i64 (.a 5))]), (.va 0)] [] []
 (.call 76 [(.va 2), (.agg [(.int .i64 (.a 0)), (.int .i64 (.a 1)), (.int .i64 (.a 2)), (.int .i64 (.a 3)), (.int .i64 (.a 4)), (.int .i64 (.a 5))]), (.va 1)] [] []
 (.rng 0
 (.jump 0 [(.a 0), (.a 1), (.a 2), (.a 3), (.a 4), (.a 5)] [] [(.va 1), (.va 2), (.va 3)])))))
def a2C : PT :=
 (.next 2 6
 (.ret true (.va 1) [])
 (.entry 2 6
 (.rng 0
 (.jump 1 [(.a 19), (.a 0), (.a 1), (.a 2), (.a 3), (.a 4), (.a 5), (.a 13), (.a 14), (.a 15), (.a 16), (.a 17), (.a 18)] [] [(.va 0), (.va 1), (.va 2), (.va 3)]))))
def a2u : PT :=
 (.next 3 6
 (.jump 0 [(.a 1), (.a 2), (.a 3), (.a 4), (.a 5), (.a 6)] [] [(.va 0), (.va 1), (.va 2)])
 (.entry 3 6
 (.need (.and (.le (.l (-9223372036854775808)) (.add (.a 0) (.a 26))) (.le (.add (.a 0) (.a 26)) (.l 9223372036854775807)))
 (.call 92 [(.agg [(.int .i64 (.a 7)), (.int .i64 (.a 8)), (.int .i64 (.a 9)), (.int .i64 (.a 10)), (.int .i64 (.a 11)), (.int .i64 (.a 12))]), (.agg [(.int .i64 (.a 20)), (.int .i64 (.a 21)), (.int .i64 (.a 22)), (.int .i64 (.a 23)), (.int .i64 (.a 24)), (.int .i64 (.a 25))])] [] [(.agg [(.int .i64), (.int .i64), (.int .i64), (.int .i64), (.int .i64), (.int .i64)])]
 (.call 75 [(.va 1), (.agg [(.int .i64 (.a 1)), (.int .i64 (.a 2)), (.int .i64 (.a 3)), (.int .i64 (.a 4)), (.int .i64 (.a 5)), (.int .i64 (.a 6))]), (.agg [(.int .i64 (.a 27)), (.int .i64 (.a 28)), (.int .i64 (.a 29)), (.int .i64 (.a 30)), (.int .i64 (.a 31)), (.int .i64 (.a 32))]), (.int .i64 (.add (.a 0) (.a 26)))] [] []
 (.jump 1 [(.a 0), (.a 1), (.a 2), (.a 3), (.a 4), (.a 5), (.a 6), (.a 7), (.a 8), (.a 9), (.a 10), (.a 11), (.a 12)] [] [(.va 0), (.va 1), (.va 2), (.va 3)]))))))
def valuation_sum_S : Sx.Sys := ⟨[(.sh (.agg [(.int .i64), (.int .i64), (.int .i64), (.int .i64), (.int .i64), (.int .i64)])), (.sh (.one .val)), (.sh (.one .val))], a5h, [a2C, a2u], none, none⟩
def b1w : List Cfg := [{ todo := [(.code [false, false, true, false, true, true, true, true]), (.inLoop [false, false, true, false, true, true, true, true]), (.inBlock 0), (.code [true, true, true, true, true])], sl := [(.junk 0), (.junk 1), (.va 0), (.ptr 0 0), .undef, .undef, (.junk 2), (.va 1), (.junk 3), (.junk 4), (.junk 5), (.junk 6), (.junk 7), (.junk 8), (.junk 9), (.junk 10), (.junk 11), (.junk 12), (.junk 13), (.junk 14), (.junk 15), (.junk 16), (.va 2), (.junk 17), (.junk 18), (.junk 19), (.junk 20), (.junk 21), (.junk 22), (.junk 23), (.junk 24), (.junk 25), (.junk 26), (.junk 27), (.junk 28), (.junk 29), (.junk 30), (.junk 31), (.junk 32), (.junk 33), (.junk 34), (.junk 35), (.junk 36), (.junk 37), .undef], H := [(.cells [(.int .i64 (.a 0)), (.int .i64 (.a 1)), (.int .i64 (.a 2)), (.int .i64 (.a 3)), (.int .i64 (.a 4)), (.int .i64 (.a 5))] 23 false)], ni := 6, nb := 0, nv := 3, nj := 38 },
 { todo := [(.code [false, false, true, true, false, true, true, false, false, true, false, true, true, true, true]), (.inLoop [false, false, true, true, false, true, true, false, false, true, false, true, true, true, true]), (.inBlock 2), (.inBlock 1), (.inLoop [false, false, true, false, true, true, true, true]), (.inBlock 0), (.code [true, true, true, true, true])], sl := [(.junk 0), (.junk 1), (.va 0), (.ptr 0 0), .undef, .undef, (.junk 2), (.va 1), (.ptr 1 0), (.int .i64 (.a 0)), (.junk 3), (.junk 4), (.junk 5), (.junk 6), (.junk 7), (.junk 8), (.junk 9), (.junk 10), (.junk 11), (.junk 12), (.junk 13), (.junk 14), (.va 2), (.junk 15), (.junk 16), (.junk 17), (.junk 18), (.junk 19), (.junk 20), (.va 3), (.junk 21), (.junk 22), (.junk 23), (.junk 24), (.junk 25), (.junk 26), (.junk 27), (.junk 28), (.junk 29), (.junk 30), (.junk 31), (.junk 32), (.junk 33), (.junk 34), .undef], H := [(.cells [(.int .i64 (.a 1)), (.int .i64 (.a 2)), (.int .i64 (.a 3)), (.int .i64 (.a 4)), (.int .i64 (.a 5)), (.int .i64 (.a 6))] 23 false), (.cells [(.int .i64 (.a 7)), (.int .i64 (.a 8)), (.int .i64 (.a 9)), (.int .i64 (.a 10)), (.int .i64 (.a 11)), (.int .i64 (.a 12))] 23 false)], ni := 13, nb := 0, nv := 4, nj := 35 }]
theorem b3s : SysIs Try.prog 77 valuation_sum_S := b2i (c := (cg [[false, false, true, false, true, true, true, true], [false, false, true, true, false, true, true, false, false, true, false, true, true, true, true]] [] [] false true false true)) (a0w _ _ _ _ _ _ _ _ _) Try.func77 Try.call77 (by kernel_rfl) b1w valuation_sum_S 5000 rfl (by kernel_rfl) (by kernel_rfl)
end Go.Proofs.Ythmkfeiapdbojaa
