/- The trees of this seat's functions, part 6. Written by txgen.py. -/
import Derived.Test.YthmkfeiapdbojaaHTab
set_option linter.unusedSimpArgs false
set_option linter.unusedVariables false
set_option maxRecDepth 100000
namespace Go.Proofs.Ythmkfeiapdbojaa
open Go.Sx
def a5a : PT :=
 (.app none (.lit [[(.int .i64 (.a 0)), (.int .i64 (.a 1)), (.int .i64 (.a 2)), (.int .i64 (.a 3)), (.int .i64 (.a 4)), (.int .i64 (.a 5)), (.int .i64 (.a 6)), (.int .i64 (.a 7)), (.va 1)], [(.int .i64 (.a 16)), (.int .i64 (.a 17)), (.int .i64 (.a 18)), (.int .i64 (.a 19)), (.int .i64 (.a 20)), (.int .i64 (.a 21)), (.int .i64 (.a 22)), (.int .i64 (.a 23)), (.va 6)]]) 9
  (.app none (.lit [[(.int .i64 (.l 3)), (.int .i64 (.l 0)), (.int .i64 (.l 0)), (.int .i64 (.l 0)), (.int .i64 (.l 0)), (.int .i64 (.l 0)), (.int .i64 (.l 0)), (.int .i64 (.l 0)), (.va 4)]]) 9
  (.call 24 [(.agg [(.int .i64 (.a 0)), (.int .i64 (.a 1)), (.int .i64 (.a 2)), (.int .i64 (.a 3)), (.int .i64 (.a 4)), (.int .i64 (.a 5)), (.int .i64 (.a 6)), (.int .i64 (.a 7)), (.va 1)]), (.agg [(.int .i64 (.l 2)), (.int .i64 (.l 0)), (.int .i64 (.l 0)), (.int .i64 (.l 0)), (.int .i64 (.l 0)), (.int .i64 (.l 0))])] [] [(.one .val), (.one (.int .i64))]
  (.call 24 [(.agg [(.int .i64 (.a 0)), (.int .i64 (.a 1)), (.int .i64 (.a 2)), (.int .i64 (.a 3)), (.int .i64 (.a 4)), (.int .i64 (.a 5)), (.int .i64 (.a 6)), (.int .i64 (.a 7)), (.va 1)]), (.agg [(.int .i64 (.l 5)), (.int .i64 (.l 0)), (.int .i64 (.l 0)), (.int .i64 (.l 0)), (.int .i64 (.l 0)), (.int .i64 (.l 0))])] [] [(.one .val), (.one (.int .i64))]
  (.ite (.not (.eq (.a 24) (.l 0)))
   (.ret false (.bool (.t false)) [])
   (.need (.is 0 9)
   (.ite (.not (.eq (.slen 9) (.l 3)))
   (.ret false (.bool (.t false)) [])
   (.need (.lt (.l 0) (.slen 9))
   (.load false (.ea 9 (.l 0) 1 0) [(.int .i64)]
   (.ite (.not (.eq (.a 26) (.l 0)))
    (.ret false (.bool (.t false)) [])
    (.need (.lt (.l 1) (.slen 9))
    (.load false (.ea 9 (.l 1) 1 0) [(.int .i64)]
    (.ite (.not (.eq (.a 27) (.l 5)))
    (.ret false (.bool (.t false)) [])
    (.need (.lt (.l 2) (.slen 9))
    (.load false (.ea 9 (.l 2) 1 0) [(.int .i64)]
    (.ite (.not (.eq (.a 28) (.l 5)))
     (.ret false (.bool (.t false)) [])
     (.ite (.not (.eq (.a 25) (.l 4)))
     (.ret false (.bool (.t false)) [])
     (.app none (.lit [[(.int .i64 (.a 0)), (.int .i64 (.a 1)), (.int .i64 (.a 2)), (.int .i64 (.a 3)), (.int .i64 (.a 4)), (.int .i64 (.a 5)), (.int .i64 (.a 6)), (.int .i64 (.a 7)), (.va 1)], [(.int .i64 (.a 8)), (.int .i64 (.a 9)), (.int .i64 (.a 10)), (.int .i64 (.a 11)), (.int .i64 (.a 12)), (.int .i64 (.a 13)), (.int .i64 (.a 14)), (.int .i64 (.a 15)), (.va 3)]]) 9
     (.call 18 [(.agg [(.int .i64 (.l 2)), (.int .i64 (.l 0)), (.int .i64 (.l 0)), (.int .i64 (.l 0)), (.int .i64 (.l 0)), (.int .i64 (.l 0)), (.int .i64 (.l 0)), (.int .i64 (.l 0)), (.va 11)]), (.agg [(.int .i64 (.l 1)), (.int .i64 (.l 1)), (.int .i64 (.l 0)), (.int .i64 (.l 0)), (.int .i64 (.l 0)), (.int .i64 (.l 0))])] [] [(.one (.int .i64))]
     (.ite (.not (.eq (.a 29) (.l 7)))
      (.ret false (.bool (.t false)) [])
      (.call 18 [(.agg [(.int .i64 (.l 3)), (.int .i64 (.l 0)), (.int .i64 (.l 0)), (.int .i64 (.l 0)), (.int .i64 (.l 0)), (.int .i64 (.l 0)), (.int .i64 (.l 0)), (.int .i64 (.l 0)), (.va 4)]), (.agg [(.int .i64 (.l 1)), (.int .i64 (.l 1)), (.int .i64 (.l 0)), (.int .i64 (.l 0)), (.int .i64 (.l 0)), (.int .i64 (.l 0))])] [] [(.one (.int .i64))]
      (.ite (.not (.eq (.a 30) (.l 12)))
      (.ret false (.bool (.t false)) [])
      (.call 18 [(.agg [(.int .i64 (.l 3)), (.int .i64 (.l 0)), (.int .i64 (.l 0)), (.int .i64 (.l 0)), (.int .i64 (.l 0)), (.int .i64 (.l 0)), (.int .i64 (.l 0)), (.int .i64 (.l 0)), (.va 7)]), (.agg [(.int .i64 (.l 1)), (.int .i64 (.l 0)), (.int .i64 (.l 0)), (.int .i64 (.l 0)), (.int .i64 (.l 0)), (.int .i64 (.l 0))])] [] [(.one (.int .i64))]
      (.ite (.not (.eq (.a 31) (.l 7)))
       (.ret false (.bool (.t false)) [])
       (.call 18 [(.agg [(.int .i64 (.l 3)), (.int .i64 (.l 0)), (.int .i64 (.l 0)), (.int .i64 (.l 0)), (.int .i64 (.l 0)), (.int .i64 (.l 0)), (.int .i64 (.l 0)), (.int .i64 (.l 0)), (.va 7)]), (.agg [(.int .i64 (.l 2)), (.int .i64 (.l 0)), (.int .i64 (.l 0)), (.int .i64 (.l 0)), (.int .i64 (.l 0)), (.int .i64 (.l 0))])] [] [(.one (.int .i64))]
       (.ite (.not (.eq (.a 32) (.l 12)))
       (.ret false (.bool (.t false)) [])
       (.call 18 [(.agg [(.int .i64 (.l 4)), (.int .i64 (.l 1)), (.int .i64 (.l 1)), (.int .i64 (.l 0)), (.int .i64 (.l 0)), (.int .i64 (.l 0)), (.int .i64 (.l 0)), (.int .i64 (.l 3)), (.va 8)]), (.agg [(.int .i64 (.l 1)), (.int .i64 (.l 1)), (.int .i64 (.l 0)), (.int .i64 (.l 0)), (.int .i64 (.l 0)), (.int .i64 (.l 0))])] [] [(.one (.int .i64))]
       (.ite (.eq (.a 33) (.l 15))
        (.call 18 [(.agg [(.int .i64 (.l 4)), (.int .i64 (.l 1)), (.int .i64 (.l 1)), (.int .i64 (.l 0)), (.int .i64 (.l 0)), (.int .i64 (.l 0)), (.int .i64 (.l 0)), (.int .i64 (.l 3)), (.va 8)]), (.agg [(.int .i64 (.l 0)), (.int .i64 (.l 1)), (.int .i64 (.l 0)), (.int .i64 (.l 0)), (.int .i64 (.l 0)), (.int .i64 (.l 0))])] [] [(.one (.int .i64))]
        (.ite (.eq (.a 34) (.l 7))
        (.app none (.lit [[(.int .i64 (.l 3)), (.int .i64 (.l 0)), (.int .i64 (.l 0)), (.int .i64 (.l 0)), (.int .i64 (.l 0)), (.int .i64 (.l 0)), (.int .i64 (.l 0)), (.int .i64 (.l 0)), (.va 4)]]) 9
        (.call 18 [(.agg [(.int .i64 (.l 5)), (.int .i64 (.l 0)), (.int .i64 (.l 0)), (.int .i64 (.l 0)), (.int .i64 (.l 0)), (.int .i64 (.l 0)), (.int .i64 (.l 0)), (.int .i64 (.l 10)), (.va 12)]), (.agg [(.int .i64 (.l 1)), (.int .i64 (.l 1)), (.int .i64 (.l 0)), (.int .i64 (.l 0)), (.int .i64 (.l 0)), (.int .i64 (.l 0))])] [] [(.one (.int .i64))]
        (.ite (.eq (.a 35) (.l 10))
         (.call 20 [(.agg [(.int .i64 (.a 0)), (.int .i64 (.a 1)), (.int .i64 (.a 2)), (.int .i64 (.a 3)), (.int .i64 (.a 4)), (.int .i64 (.a 5)), (.int .i64 (.a 6)), (.int .i64 (.a 7)), (.va 1)])] [] [(.one (.int .i64))]
         (.ite (.eq (.a 36) (.l 5))
         (.app none (.lit [[(.int .i64 (.l 0))], [(.int .i64 (.l 5))], [(.int .i64 (.l 4))]]) 1
         (.call 27 [(.va 13), (.agg [(.int .i64 (.l 2)), (.int .i64 (.l 0)), (.int .i64 (.l 0)), (.int .i64 (.l 0)), (.int .i64 (.l 0)), (.int .i64 (.l 0))])] [] [(.one .bool)]
         (.ite (.not (.a 0))
          (.call 27 [(.va 9), (.agg [(.int .i64 (.l 2)), (.int .i64 (.l 0)), (.int .i64 (.l 0)), (.int .i64 (.l 0)), (.int .i64 (.l 0)), (.int .i64 (.l 0))])] [] [(.one .bool)]
          (.ret false (.bool (.a 1)) []))
          (.ret false (.bool (.t false)) []))))
         (.ret false (.bool (.t false)) [])))
         (.ret false (.bool (.t false)) []))))
        (.ret false (.bool (.t false)) [])))
        (.ret false (.bool (.t false)) [])))))))))))))))))))))))))))))
def a8p : PT :=
 (.call 47 [(.int .i64 (.l 7)), (.va 5)] [] [(.agg [(.int .i64), (.int .i64), (.int .i64), (.int .i64), (.int .i64), (.int .i64), (.int .i64), (.int .i64), .val])]
  (.both a5a a5a))
def a8M : PT :=
 (.call 47 [(.int .i64 (.l 7)), (.va 5)] [] [(.agg [(.int .i64), (.int .i64), (.int .i64), (.int .i64), (.int .i64), (.int .i64), (.int .i64), (.int .i64), .val])]
  (.app none (.lit [[(.int .i64 (.a 0)), (.int .i64 (.a 1)), (.int .i64 (.a 2)), (.int .i64 (.a 3)), (.int .i64 (.a 4)), (.int .i64 (.a 5)), (.int .i64 (.a 6)), (.int .i64 (.a 7)), (.va 1)], [(.int .i64 (.a 16)), (.int .i64 (.a 17)), (.int .i64 (.a 18)), (.int .i64 (.a 19)), (.int .i64 (.a 20)), (.int .i64 (.a 21)), (.int .i64 (.a 22)), (.int .i64 (.a 23)), (.va 6)]]) 9
  (.app none (.lit [[(.int .i64 (.l 3)), (.int .i64 (.l 0)), (.int .i64 (.l 0)), (.int .i64 (.l 0)), (.int .i64 (.l 0)), (.int .i64 (.l 0)), (.int .i64 (.l 0)), (.int .i64 (.l 0)), (.va 4)]]) 9
  (.call 24 [(.agg [(.int .i64 (.a 0)), (.int .i64 (.a 1)), (.int .i64 (.a 2)), (.int .i64 (.a 3)), (.int .i64 (.a 4)), (.int .i64 (.a 5)), (.int .i64 (.a 6)), (.int .i64 (.a 7)), (.va 1)]), (.agg [(.int .i64 (.l 2)), (.int .i64 (.l 0)), (.int .i64 (.l 0)), (.int .i64 (.l 0)), (.int .i64 (.l 0)), (.int .i64 (.l 0))])] [] [(.one .val), (.one (.int .i64))]
  (.call 24 [(.agg [(.int .i64 (.a 0)), (.int .i64 (.a 1)), (.int .i64 (.a 2)), (.int .i64 (.a 3)), (.int .i64 (.a 4)), (.int .i64 (.a 5)), (.int .i64 (.a 6)), (.int .i64 (.a 7)), (.va 1)]), (.agg [(.int .i64 (.l 5)), (.int .i64 (.l 0)), (.int .i64 (.l 0)), (.int .i64 (.l 0)), (.int .i64 (.l 0)), (.int .i64 (.l 0))])] [] [(.one .val), (.one (.int .i64))]
  (.ite (.not (.eq (.a 24) (.l 0)))
  (.ret false (.bool (.t false)) [])
  (.need (.is 0 9)
  (.ite (.not (.eq (.slen 9) (.l 3)))
   (.ret false (.bool (.t false)) [])
   (.need (.lt (.l 0) (.slen 9))
   (.load false (.ea 9 (.l 0) 1 0) [(.int .i64)]
   (.ite (.not (.eq (.a 26) (.l 0)))
   (.ret false (.bool (.t false)) [])
   (.need (.lt (.l 1) (.slen 9))
   (.load false (.ea 9 (.l 1) 1 0) [(.int .i64)]
   (.ite (.not (.eq (.a 27) (.l 5)))
    (.ret false (.bool (.t false)) [])
    (.need (.lt (.l 2) (.slen 9))
    (.load false (.ea 9 (.l 2) 1 0) [(.int .i64)]
    (.ite (.not (.eq (.a 28) (.l 5)))
    (.ret false (.bool (.t false)) [])
    (.ite (.not (.eq (.a 25) (.l 4)))
     (.ret false (.bool (.t false)) [])
     (.app none (.lit [[(.int .i64 (.a 0)), (.int .i64 (.a 1)), (.int .i64 (.a 2)), (.int .i64 (.a 3)), (.int .i64 (.a 4)), (.int .i64 (.a 5)), (.int .i64 (.a 6)), (.int .i64 (.a 7)), (.va 1)], [(.int .i64 (.a 8)), (.int .i64 (.a 9)), (.int .i64 (.a 10)), (.int .i64 (.a 11)), (.int .i64 (.a 12)), (.int .i64 (.a 13)), (.int .i64 (.a 14)), (.int .i64 (.a 15)), (.va 3)]]) 9
     (.call 18 [(.agg [(.int .i64 (.l 2)), (.int .i64 (.l 0)), (.int .i64 (.l 0)), (.int .i64 (.l 0)), (.int .i64 (.l 0)), (.int .i64 (.l 0)), (.int .i64 (.l 0)), (.int .i64 (.l 0)), (.va 11)]), (.agg [(.int .i64 (.l 1)), (.int .i64 (.l 1)), (.int .i64 (.l 0)), (.int .i64 (.l 0)), (.int .i64 (.l 0)), (.int .i64 (.l 0))])] [] [(.one (.int .i64))]
     (.ite (.not (.eq (.a 29) (.l 7)))
     (.ret false (.bool (.t false)) [])
     (.call 18 [(.agg [(.int .i64 (.l 3)), (.int .i64 (.l 0)), (.int .i64 (.l 0)), (.int .i64 (.l 0)), (.int .i64 (.l 0)), (.int .i64 (.l 0)), (.int .i64 (.l 0)), (.int .i64 (.l 0)), (.va 4)]), (.agg [(.int .i64 (.l 1)), (.int .i64 (.l 1)), (.int .i64 (.l 0)), (.int .i64 (.l 0)), (.int .i64 (.l 0)), (.int .i64 (.l 0))])] [] [(.one (.int .i64))]
     (.ite (.not (.eq (.a 30) (.l 12)))
      (.ret false (.bool (.t false)) [])
      (.call 18 [(.agg [(.int .i64 (.l 3)), (.int .i64 (.l 0)), (.int .i64 (.l 0)), (.int .i64 (.l 0)), (.int .i64 (.l 0)), (.int .i64 (.l 0)), (.int .i64 (.l 0)), (.int .i64 (.l 0)), (.va 7)]), (.agg [(.int .i64 (.l 1)), (.int .i64 (.l 0)), (.int .i64 (.l 0)), (.int .i64 (.l 0)), (.int .i64 (.l 0)), (.int .i64 (.l 0))])] [] [(.one (.int .i64))]
      (.ite (.not (.eq (.a 31) (.l 7)))
      (.ret false (.bool (.t false)) [])
      (.call 18 [(.agg [(.int .i64 (.l 3)), (.int .i64 (.l 0)), (.int .i64 (.l 0)), (.int .i64 (.l 0)), (.int .i64 (.l 0)), (.int .i64 (.l 0)), (.int .i64 (.l 0)), (.int .i64 (.l 0)), (.va 7)]), (.agg [(.int .i64 (.l 2)), (.int .i64 (.l 0)), (.int .i64 (.l 0)), (.int .i64 (.l 0)), (.int .i64 (.l 0)), (.int .i64 (.l 0))])] [] [(.one (.int .i64))]
      (.ite (.not (.eq (.a 32) (.l 12)))
       (.ret false (.bool (.t false)) [])
       (.call 18 [(.agg [(.int .i64 (.l 4)), (.int .i64 (.l 1)), (.int .i64 (.l 1)), (.int .i64 (.l 0)), (.int .i64 (.l 0)), (.int .i64 (.l 0)), (.int .i64 (.l 0)), (.int .i64 (.l 3)), (.va 8)]), (.agg [(.int .i64 (.l 1)), (.int .i64 (.l 1)), (.int .i64 (.l 0)), (.int .i64 (.l 0)), (.int .i64 (.l 0)), (.int .i64 (.l 0))])] [] [(.one (.int .i64))]
       (.ite (.eq (.a 33) (.l 15))
       (.call 18 [(.agg [(.int .i64 (.l 4)), (.int .i64 (.l 1)), (.int .i64 (.l 1)), (.int .i64 (.l 0)), (.int .i64 (.l 0)), (.int .i64 (.l 0)), (.int .i64 (.l 0)), (.int .i64 (.l 3)), (.va 8)]), (.agg [(.int .i64 (.l 0)), (.int .i64 (.l 1)), (.int .i64 (.l 0)), (.int .i64 (.l 0)), (.int .i64 (.l 0)), (.int .i64 (.l 0))])] [] [(.one (.int .i64))]
       (.ite (.eq (.a 34) (.l 7))
        (.app none (.lit [[(.int .i64 (.l 3)), (.int .i64 (.l 0)), (.int .i64 (.l 0)), (.int .i64 (.l 0)), (.int .i64 (.l 0)), (.int .i64 (.l 0)), (.int .i64 (.l 0)), (.int .i64 (.l 0)), (.va 4)]]) 9
        (.call 18 [(.agg [(.int .i64 (.l 5)), (.int .i64 (.l 0)), (.int .i64 (.l 0)), (.int .i64 (.l 0)), (.int .i64 (.l 0)), (.int .i64 (.l 0)), (.int .i64 (.l 0)), (.int .i64 (.l 10)), (.va 12)]), (.agg [(.int .i64 (.l 1)), (.int .i64 (.l 1)), (.int .i64 (.l 0)), (.int .i64 (.l 0)), (.int .i64 (.l 0)), (.int .i64 (.l 0))])] [] [(.one (.int .i64))]
        (.ite (.eq (.a 35) (.l 10))
        (.call 20 [(.agg [(.int .i64 (.a 0)), (.int .i64 (.a 1)), (.int .i64 (.a 2)), (.int .i64 (.a 3)), (.int .i64 (.a 4)), (.int .i64 (.a 5)), (.int .i64 (.a 6)), (.int .i64 (.a 7)), (.va 1)])] [] [(.one (.int .i64))]
        (.ite (.eq (.a 36) (.l 5))
         (.app none (.lit [[(.int .i64 (.l 0))], [(.int .i64 (.l 5))], [(.int .i64 (.l 4))]]) 1
         (.call 27 [(.va 13), (.agg [(.int .i64 (.l 2)), (.int .i64 (.l 0)), (.int .i64 (.l 0)), (.int .i64 (.l 0)), (.int .i64 (.l 0)), (.int .i64 (.l 0))])] [] [(.one .bool)]
         (.ite (.not (.a 0))
         (.call 27 [(.va 9), (.agg [(.int .i64 (.l 2)), (.int .i64 (.l 0)), (.int .i64 (.l 0)), (.int .i64 (.l 0)), (.int .i64 (.l 0)), (.int .i64 (.l 0))])] [] [(.one .bool)]
         (.ret false (.bool (.a 1)) []))
         (.ret false (.bool (.t false)) []))))
         (.ret false (.bool (.t false)) [])))
        (.ret false (.bool (.t false)) []))))
        (.ret false (.bool (.t false)) [])))
       (.ret false (.bool (.t false)) []))))))))))))))))))))))))))))))
def a9c : PT :=
 (.app none (.lit [[(.int .i64 (.l 1))]]) 1
 (.both a8p a8M))
def a9h : PT :=
 (.app none (.lit [[(.int .i64 (.l 1))]]) 1
 (.call 47 [(.int .i64 (.l 7)), (.va 5)] [] [(.agg [(.int .i64), (.int .i64), (.int .i64), (.int .i64), (.int .i64), (.int .i64), (.int .i64), (.int .i64), .val])]
 (.app none (.lit [[(.int .i64 (.a 0)), (.int .i64 (.a 1)), (.int .i64 (.a 2)), (.int .i64 (.a 3)), (.int .i64 (.a 4)), (.int .i64 (.a 5)), (.int .i64 (.a 6)), (.int .i64 (.a 7)), (.va 1)], [(.int .i64 (.a 16)), (.int .i64 (.a 17)), (.int .i64 (.a 18)), (.int .i64 (.a 19)), (.int .i64 (.a 20)), (.int .i64 (.a 21)), (.int .i64 (.a 22)), (.int .i64 (.a 23)), (.va 6)]]) 9
 (.app none (.lit [[(.int .i64 (.l 3)), (.int .i64 (.l 0)), (.int .i64 (.l 0)), (.int .i64 (.l 0)), (.int .i64 (.l 0)), (.int .i64 (.l 0)), (.int .i64 (.l 0)), (.int .i64 (.l 0)), (.va 4)]]) 9
 (.call 24 [(.agg [(.int .i64 (.a 0)), (.int .i64 (.a 1)), (.int .i64 (.a 2)), (.int .i64 (.a 3)), (.int .i64 (.a 4)), (.int .i64 (.a 5)), (.int .i64 (.a 6)), (.int .i64 (.a 7)), (.va 1)]), (.agg [(.int .i64 (.l 2)), (.int .i64 (.l 0)), (.int .i64 (.l 0)), (.int .i64 (.l 0)), (.int .i64 (.l 0)), (.int .i64 (.l 0))])] [] [(.one .val), (.one (.int .i64))]
 (.call 24 [(.agg [(.int .i64 (.a 0)), (.int .i64 (.a 1)), (.int .i64 (.a 2)), (.int .i64 (.a 3)), (.int .i64 (.a 4)), (.int .i64 (.a 5)), (.int .i64 (.a 6)), (.int .i64 (.a 7)), (.va 1)]), (.agg [(.int .i64 (.l 5)), (.int .i64 (.l 0)), (.int .i64 (.l 0)), (.int .i64 (.l 0)), (.int .i64 (.l 0)), (.int .i64 (.l 0))])] [] [(.one .val), (.one (.int .i64))]
 (.ite (.not (.eq (.a 24) (.l 0)))
  (.ret false (.bool (.t false)) [])
  (.need (.is 0 9)
  (.ite (.not (.eq (.slen 9) (.l 3)))
  (.ret false (.bool (.t false)) [])
  (.need (.lt (.l 0) (.slen 9))
  (.load false (.ea 9 (.l 0) 1 0) [(.int .i64)]
  (.ite (.not (.eq (.a 26) (.l 0)))
   (.ret false (.bool (.t false)) [])
   (.need (.lt (.l 1) (.slen 9))
   (.load false (.ea 9 (.l 1) 1 0) [(.int .i64)]
   (.ite (.not (.eq (.a 27) (.l 5)))
   (.ret false (.bool (.t false)) [])
   (.need (.lt (.l 2) (.slen 9))
   (.load false (.ea 9 (.l 2) 1 0) [(.int .i64)]
   (.ite (.not (.eq (.a 28) (.l 5)))
    (.ret false (.bool (.t false)) [])
    (.ite (.not (.eq (.a 25) (.l 4)))
    (.ret false (.bool (.t false)) [])
    (.app none (.lit [[(.int .i64 (.a 0)), (.int .i64 (.a 1)), (.int .i64 (.a 2)), (.int .i64 (.a 3)), (.int .i64 (.a 4)), (.int .i64 (.a 5)), (.int .i64 (.a 6)), (.int .i64 (.a 7)), (.va 1)], [(.int .i64 (.a 8)), (.int .i64 (.a 9)), (.int .i64 (.a 10)), (.int .i64 (.a 11)), (.int .i64 (.a 12)), (.int .i64 (.a 13)), (.int .i64 (.a 14)), (.int .i64 (.a 15)), (.va 3)]]) 9
    (.call 18 [(.agg [(.int .i64 (.l 2)), (.int .i64 (.l 0)), (.int .i64 (.l 0)), (.int .i64 (.l 0)), (.int .i64 (.l 0)), (.int .i64 (.l 0)), (.int .i64 (.l 0)), (.int .i64 (.l 0)), (.va 11)]), (.agg [(.int .i64 (.l 1)), (.int .i64 (.l 1)), (.int .i64 (.l 0)), (.int .i64 (.l 0)), (.int .i64 (.l 0)), (.int .i64 (.l 0))])] [] [(.one (.int .i64))]
    (.ite (.not (.eq (.a 29) (.l 7)))
     (.ret false (.bool (.t false)) [])
     (.call 18 [(.agg [(.int .i64 (.l 3)), (.int .i64 (.l 0)), (.int .i64 (.l 0)), (.int .i64 (.l 0)), (.int .i64 (.l 0)), (.int .i64 (.l 0)), (.int .i64 (.l 0)), (.int .i64 (.l 0)), (.va 4)]), (.agg [(.int .i64 (.l 1)), (.int .i64 (.l 1)), (.int .i64 (.l 0)), (.int .i64 (.l 0)), (.int .i64 (.l 0)), (.int .i64 (.l 0))])] [] [(.one (.int .i64))]
     (.ite (.not (.eq (.a 30) (.l 12)))
     (.ret false (.bool (.t false)) [])
     (.call 18 [(.agg [(.int .i64 (.l 3)), (.int .i64 (.l 0)), (.int .i64 (.l 0)), (.int .i64 (.l 0)), (.int .i64 (.l 0)), (.int .i64 (.l 0)), (.int .i64 (.l 0)), (.int .i64 (.l 0)), (.va 7)]), (.agg [(.int .i64 (.l 1)), (.int .i64 (.l 0)), (.int .i64 (.l 0)), (.int .i64 (.l 0)), (.int .i64 (.l 0)), (.int .i64 (.l 0))])] [] [(.one (.int .i64))]
     (.ite (.not (.eq (.a 31) (.l 7)))
      (.ret false (.bool (.t false)) [])
      (.call 18 [(.agg [(.int .i64 (.l 3)), (.int .i64 (.l 0)), (.int .i64 (.l 0)), (.int .i64 (.l 0)), (.int .i64 (.l 0)), (.int .i64 (.l 0)), (.int .i64 (.l 0)), (.int .i64 (.l 0)), (.va 7)]), (.agg [(.int .i64 (.l 2)), (.int .i64 (.l 0)), (.int .i64 (.l 0)), (.int .i64 (.l 0)), (.int .i64 (.l 0)), (.int .i64 (.l 0))])] [] [(.one (.int .i64))]
      (.ite (.not (.eq (.a 32) (.l 12)))
      (.ret false (.bool (.t false)) [])
      (.call 18 [(.agg [(.int .i64 (.l 4)), (.int .i64 (.l 1)), (.int .i64 (.l 1)), (.int .i64 (.l 0)), (.int .i64 (.l 0)), (.int .i64 (.l 0)), (.int .i64 (.l 0)), (.int .i64 (.l 3)), (.va 8)]), (.agg [(.int .i64 (.l 1)), (.int .i64 (.l 1)), (.int .i64 (.l 0)), (.int .i64 (.l 0)), (.int .i64 (.l 0)), (.int .i64 (.l 0))])] [] [(.one (.int .i64))]
      (.ite (.eq (.a 33) (.l 15))
       (.call 18 [(.agg [(.int .i64 (.l 4)), (.int .i64 (.l 1)), (.int .i64 (.l 1)), (.int .i64 (.l 0)), (.int .i64 (.l 0)), (.int .i64 (.l 0)), (.int .i64 (.l 0)), (.int .i64 (.l 3)), (.va 8)]), (.agg [(.int .i64 (.l 0)), (.int .i64 (.l 1)), (.int .i64 (.l 0)), (.int .i64 (.l 0)), (.int .i64 (.l 0)), (.int .i64 (.l 0))])] [] [(.one (.int .i64))]
       (.ite (.eq (.a 34) (.l 7))
       (.app none (.lit [[(.int .i64 (.l 3)), (.int .i64 (.l 0)), (.int .i64 (.l 0)), (.int .i64 (.l 0)), (.int .i64 (.l 0)), (.int .i64 (.l 0)), (.int .i64 (.l 0)), (.int .i64 (.l 0)), (.va 4)]]) 9
       (.call 18 [(.agg [(.int .i64 (.l 5)), (.int .i64 (.l 0)), (.int .i64 (.l 0)), (.int .i64 (.l 0)), (.int .i64 (.l 0)), (.int .i64 (.l 0)), (.int .i64 (.l 0)), (.int .i64 (.l 10)), (.va 12)]), (.agg [(.int .i64 (.l 1)), (.int .i64 (.l 1)), (.int .i64 (.l 0)), (.int .i64 (.l 0)), (.int .i64 (.l 0)), (.int .i64 (.l 0))])] [] [(.one (.int .i64))]
       (.ite (.eq (.a 35) (.l 10))
        (.call 20 [(.agg [(.int .i64 (.a 0)), (.int .i64 (.a 1)), (.int .i64 (.a 2)), (.int .i64 (.a 3)), (.int .i64 (.a 4)), (.int .i64 (.a 5)), (.int .i64 (.a 6)), (.int .i64 (.a 7)), (.va 1)])] [] [(.one (.int .i64))]
        (.ite (.eq (.a 36) (.l 5))
        (.app none (.lit [[(.int .i64 (.l 0))], [(.int .i64 (.l 5))], [(.int .i64 (.l 4))]]) 1
        (.call 27 [(.va 13), (.agg [(.int .i64 (.l 2)), (.int .i64 (.l 0)), (.int .i64 (.l 0)), (.int .i64 (.l 0)), (.int .i64 (.l 0)), (.int .i64 (.l 0))])] [] [(.one .bool)]
        (.ite (.not (.a 0))
         (.call 27 [(.va 9), (.agg [(.int .i64 (.l 2)), (.int .i64 (.l 0)), (.int .i64 (.l 0)), (.int .i64 (.l 0)), (.int .i64 (.l 0)), (.int .i64 (.l 0))])] [] [(.one .bool)]
         (.ret false (.bool (.a 1)) []))
         (.ret false (.bool (.t false)) []))))
        (.ret false (.bool (.t false)) [])))
        (.ret false (.bool (.t false)) []))))
       (.ret false (.bool (.t false)) [])))
       (.ret false (.bool (.t false)) [])))))))))))))))))))))))))))))))
def b1l : PT :=
 (.app none (.lit [[(.int .i64 (.l 1))]]) 1
 (.call 47 [(.int .i64 (.l 5)), (.va 0)] [] [(.agg [(.int .i64), (.int .i64), (.int .i64), (.int .i64), (.int .i64), (.int .i64), (.int .i64), (.int .i64), .val])]
 (.app none (.lit [[(.int .i64 (.l 0))], [(.int .i64 (.l 1))]]) 1
 (.call 47 [(.int .i64 (.l 7)), (.va 2)] [] [(.agg [(.int .i64), (.int .i64), (.int .i64), (.int .i64), (.int .i64), (.int .i64), (.int .i64), (.int .i64), .val])]
 (.app none (.lit [[(.int .i64 (.a 0)), (.int .i64 (.a 1)), (.int .i64 (.a 2)), (.int .i64 (.a 3)), (.int .i64 (.a 4)), (.int .i64 (.a 5)), (.int .i64 (.a 6)), (.int .i64 (.a 7)), (.va 1)], [(.int .i64 (.a 8)), (.int .i64 (.a 9)), (.int .i64 (.a 10)), (.int .i64 (.a 11)), (.int .i64 (.a 12)), (.int .i64 (.a 13)), (.int .i64 (.a 14)), (.int .i64 (.a 15)), (.va 3)]]) 9
 (.both a9c a9h))))))
def saleroomlaw13_awake_S : Sx.Sys := ⟨[], b1l, [], none, none⟩
def a8K : List Cfg := []
theorem b0i : SysOk Try.prog 17 saleroomlaw13_awake_S := a0C (c := (cg [] [] [] false false false true)) (a0l _ _ _ _ _ _ _ _ _) Try.func17 Try.call17 (by kernel_rfl) a8K saleroomlaw13_awake_S 5000 rfl (by kernel_rfl) (by kernel_rfl) rfl
def a4D : PT :=
 (.call 83 [(.agg [(.int .i64 (.a 8)), (.int .i64 (.a 9)), (.int .i64 (.a 10)), (.int .i64 (.a 11)), (.int .i64 (.a 12)), (.int .i64 (.a 13))])] [] [(.one (.int .i64))]
 (.mkM (.a 14) [(.int .i64 (.l 0))] 2 1 8
 (.jump 0 [(.a 14), (.l 0), (.a 0), (.a 1), (.a 2), (.a 3), (.a 4), (.a 5), (.a 6), (.a 7), (.a 8), (.a 9), (.a 10), (.a 11), (.a 12), (.a 13)] [] [(.va 1), (.va 0)])))
def a1B : PT :=
 (.need (.is 0 1)
 (.ite (.lt (.a 1) (.slen 1))
 (.need (.and (.le (.l 0) (.a 1)) (.lt (.a 1) (.slen 1)))
 (.load true (.ea 1 (.a 1) 9 0) [(.int .i64), (.int .i64), (.int .i64), (.int .i64), (.int .i64), (.int .i64), (.int .i64), (.int .i64), .val]
 (.call 51 [(.agg [(.int .i64 (.a 16)), (.int .i64 (.a 17)), (.int .i64 (.a 18)), (.int .i64 (.a 19)), (.int .i64 (.a 20)), (.int .i64 (.a 21)), (.int .i64 (.a 22)), (.int .i64 (.a 23)), (.va 2)]), (.agg [(.int .i64 (.a 10)), (.int .i64 (.a 11)), (.int .i64 (.a 12)), (.int .i64 (.a 13)), (.int .i64 (.a 14)), (.int .i64 (.a 15))])] [] [(.one .val)]
 (.ite (.eq (.a 2) (.l 3))
  (.ite (.lt (.l 0) (.a 1))
  (.call 84 [(.agg [(.int .i64 (.a 10)), (.int .i64 (.a 11)), (.int .i64 (.a 12)), (.int .i64 (.a 13)), (.int .i64 (.a 14)), (.int .i64 (.a 15))]), (.va 0), (.va 3)] [] [(.one .val)]
  (.need (.and (.le (.l (-9223372036854775808)) (.add (.a 1) (.l 1))) (.le (.add (.a 1) (.l 1)) (.l 9223372036854775807)))
  (.jump 0 [(.a 0), (.add (.a 1) (.l 1)), (.a 2), (.a 3), (.a 4), (.a 5), (.a 6), (.a 7), (.a 8), (.a 9), (.a 10), (.a 11), (.a 12), (.a 13), (.a 14), (.a 15)] [] [(.va 4), (.va 1)])))
  (.jump 1 [(.a 0), (.a 1), (.l 0), (.a 2), (.a 3), (.a 4), (.a 5), (.a 6), (.a 7), (.a 8), (.a 9), (.a 10), (.a 11), (.a 12), (.a 13), (.a 14), (.a 15)] [] [(.va 0), (.va 3), (.va 1)]))
  (.jump 1 [(.a 0), (.a 1), (.l 0), (.a 2), (.a 3), (.a 4), (.a 5), (.a 6), (.a 7), (.a 8), (.a 9), (.a 10), (.a 11), (.a 12), (.a 13), (.a 14), (.a 15)] [] [(.va 0), (.va 3), (.va 1)])))))
 (.jump 2 [(.a 0), (.l 0), (.a 2), (.a 3), (.a 4), (.a 5), (.a 6), (.a 7), (.a 8), (.a 9), (.a 10), (.a 11), (.a 12), (.a 13), (.a 14), (.a 15)] [] [(.va 0), (.va 1)])))
def a2s : PT :=
 (.ite (.lt (.a 2) (.a 0))
 (.need (.and (.le (.l 0) (.a 2)) (.lt (.a 2) (.slen 0)))
 (.need (.and (.le (.l 0) (.a 2)) (.lt (.a 2) (.slen 1)))
 (.load false (.ea 0 (.a 2) 1 0) [(.int .i64)]
 (.load false (.ea 1 (.a 2) 1 0) [(.int .i64)]
 (.need (.and (.le (.l 0) (.a 2)) (.lt (.a 2) (.slen 0)))
 (.storeM (.ea 0 (.a 2) 1 0) [(.int .i64 (.mx (.a 17) (.a 18)))]
 (.need (.and (.le (.l (-9223372036854775808)) (.add (.a 2) (.l 1))) (.le (.add (.a 2) (.l 1)) (.l 9223372036854775807)))
 (.jump 1 [(.a 0), (.a 1), (.add (.a 2) (.l 1)), (.a 3), (.a 4), (.a 5), (.a 6), (.a 7), (.a 8), (.a 9), (.a 10), (.a 11), (.a 12), (.a 13), (.a 14), (.a 15), (.a 16)] [] [(.va 0), (.va 1), (.va 2)]))))))))
 (.need (.and (.le (.l (-9223372036854775808)) (.add (.a 1) (.l 1))) (.le (.add (.a 1) (.l 1)) (.l 9223372036854775807)))
 (.jump 0 [(.a 0), (.add (.a 1) (.l 1)), (.a 3), (.a 4), (.a 5), (.a 6), (.a 7), (.a 8), (.a 9), (.a 10), (.a 11), (.a 12), (.a 13), (.a 14), (.a 15), (.a 16)] [] [(.va 0), (.va 2)])))
def a1b : PT :=
 (.ite (.lt (.a 1) (.a 0))
 (.ite (.eq (.a 2) (.l 1))
  (.call 58 [(.agg [(.int .i64 (.a 10)), (.int .i64 (.a 11)), (.int .i64 (.a 12)), (.int .i64 (.a 13)), (.int .i64 (.a 14)), (.int .i64 (.a 15))]), (.int .i64 (.a 1))] [] [(.agg [(.int .i64), (.int .i64), (.int .i64), (.int .i64), (.int .i64), (.int .i64)])]
  (.call 57 [(.agg [(.int .i64 (.a 3)), (.int .i64 (.a 4)), (.int .i64 (.a 5)), (.int .i64 (.a 6)), (.int .i64 (.a 7)), (.int .i64 (.a 8))]), (.agg [(.int .i64 (.a 16)), (.int .i64 (.a 17)), (.int .i64 (.a 18)), (.int .i64 (.a 19)), (.int .i64 (.a 20)), (.int .i64 (.a 21))])] [] [(.one .bool)]
  (.ite (.a 0)
  (.need (.and (.le (.l 0) (.a 1)) (.lt (.a 1) (.slen 0)))
  (.load false (.ea 0 (.a 1) 1 0) [(.int .i64)]
  (.need (.and (.le (.l (-9223372036854775808)) (.add (.a 22) (.a 9))) (.le (.add (.a 22) (.a 9)) (.l 9223372036854775807)))
  (.need (.and (.le (.l 0) (.a 1)) (.lt (.a 1) (.slen 0)))
  (.storeM (.ea 0 (.a 1) 1 0) [(.int .i64 (.add (.a 22) (.a 9)))]
  (.ite (.eq (.a 2) (.l 5))
   (.need (.and (.le (.l 0) (.a 1)) (.lt (.a 1) (.slen 0)))
   (.load false (.ea 0 (.a 1) 1 0) [(.int .i64)]
   (.need (.and (.le (.l 0) (.a 1)) (.lt (.a 1) (.slen 0)))
   (.storeM (.ea 0 (.a 1) 1 0) [(.int .i64 (.mn (.a 23) (.a 9)))]
   (.need (.and (.le (.l 0) (.a 1)) (.lt (.a 1) (.slen 0)))
   (.load false (.ea 0 (.a 1) 1 0) [(.int .i64)]
   (.call 85 [(.int .i64 (.a 24))] [] [(.one (.int .i64))]
   (.need (.and (.le (.l 0) (.a 1)) (.lt (.a 1) (.slen 0)))
   (.storeM (.ea 0 (.a 1) 1 0) [(.int .i64 (.a 25))]
   (.need (.and (.le (.l (-9223372036854775808)) (.add (.a 1) (.l 1))) (.le (.add (.a 1) (.l 1)) (.l 9223372036854775807)))
   (.jump 2 [(.a 0), (.add (.a 1) (.l 1)), (.a 2), (.a 3), (.a 4), (.a 5), (.a 6), (.a 7), (.a 8), (.a 9), (.a 10), (.a 11), (.a 12), (.a 13), (.a 14), (.a 15)] [] [(.va 0), (.va 1)])))))))))))
   (.need (.and (.le (.l 0) (.a 1)) (.lt (.a 1) (.slen 0)))
   (.load false (.ea 0 (.a 1) 1 0) [(.int .i64)]
   (.call 85 [(.int .i64 (.a 23))] [] [(.one (.int .i64))]
   (.need (.and (.le (.l 0) (.a 1)) (.lt (.a 1) (.slen 0)))
   (.storeM (.ea 0 (.a 1) 1 0) [(.int .i64 (.a 24))]
   (.need (.and (.le (.l (-9223372036854775808)) (.add (.a 1) (.l 1))) (.le (.add (.a 1) (.l 1)) (.l 9223372036854775807)))
   (.jump 2 [(.a 0), (.add (.a 1) (.l 1)), (.a 2), (.a 3), (.a 4), (.a 5), (.a 6), (.a 7), (.a 8), (.a 9), (.a 10), (.a 11), (.a 12), (.a 13), (.a 14), (.a 15)] [] [(.va 0), (.va 1)])))))))))))))
  (.ite (.eq (.a 2) (.l 5))
   (.need (.and (.le (.l 0) (.a 1)) (.lt (.a 1) (.slen 0)))
   (.load false (.ea 0 (.a 1) 1 0) [(.int .i64)]
   (.need (.and (.le (.l 0) (.a 1)) (.lt (.a 1) (.slen 0)))
   (.storeM (.ea 0 (.a 1) 1 0) [(.int .i64 (.mn (.a 22) (.a 9)))]
   (.need (.and (.le (.l 0) (.a 1)) (.lt (.a 1) (.slen 0)))
   (.load false (.ea 0 (.a 1) 1 0) [(.int .i64)]
   (.call 85 [(.int .i64 (.a 23))] [] [(.one (.int .i64))]
   (.need (.and (.le (.l 0) (.a 1)) (.lt (.a 1) (.slen 0)))
   (.storeM (.ea 0 (.a 1) 1 0) [(.int .i64 (.a 24))]
   (.need (.and (.le (.l (-9223372036854775808)) (.add (.a 1) (.l 1))) (.le (.add (.a 1) (.l 1)) (.l 9223372036854775807)))
   (.jump 2 [(.a 0), (.add (.a 1) (.l 1)), (.a 2), (.a 3), (.a 4), (.a 5), (.a 6), (.a 7), (.a 8), (.a 9), (.a 10), (.a 11), (.a 12), (.a 13), (.a 14), (.a 15)] [] [(.va 0), (.va 1)])))))))))))
   (.need (.and (.le (.l 0) (.a 1)) (.lt (.a 1) (.slen 0)))
   (.load false (.ea 0 (.a 1) 1 0) [(.int .i64)]
   (.call 85 [(.int .i64 (.a 22))] [] [(.one (.int .i64))]
   (.need (.and (.le (.l 0) (.a 1)) (.lt (.a 1) (.slen 0)))
   (.storeM (.ea 0 (.a 1) 1 0) [(.int .i64 (.a 23))]
   (.need (.and (.le (.l (-9223372036854775808)) (.add (.a 1) (.l 1))) (.le (.add (.a 1) (.l 1)) (.l 9223372036854775807)))
   (.jump 2 [(.a 0), (.add (.a 1) (.l 1)), (.a 2), (.a 3), (.a 4), (.a 5), (.a 6), (.a 7), (.a 8), (.a 9), (.a 10), (.a 11), (.a 12), (.a 13), (.a 14), (.a 15)] [] [(.va 0), (.va 1)])))))))))))
  (.ite (.eq (.a 2) (.l 4))
  (.call 58 [(.agg [(.int .i64 (.a 10)), (.int .i64 (.a 11)), (.int .i64 (.a 12)), (.int .i64 (.a 13)), (.int .i64 (.a 14)), (.int .i64 (.a 15))]), (.int .i64 (.a 1))] [] [(.agg [(.int .i64), (.int .i64), (.int .i64), (.int .i64), (.int .i64), (.int .i64)])]
  (.call 57 [(.agg [(.int .i64 (.a 3)), (.int .i64 (.a 4)), (.int .i64 (.a 5)), (.int .i64 (.a 6)), (.int .i64 (.a 7)), (.int .i64 (.a 8))]), (.agg [(.int .i64 (.a 16)), (.int .i64 (.a 17)), (.int .i64 (.a 18)), (.int .i64 (.a 19)), (.int .i64 (.a 20)), (.int .i64 (.a 21))])] [] [(.one .bool)]
  (.ite (.a 0)
   (.need (.and (.le (.l 0) (.a 1)) (.lt (.a 1) (.slen 0)))
   (.load false (.ea 0 (.a 1) 1 0) [(.int .i64)]
   (.need (.and (.le (.l (-9223372036854775808)) (.add (.a 22) (.a 9))) (.le (.add (.a 22) (.a 9)) (.l 9223372036854775807)))
   (.need (.and (.le (.l 0) (.a 1)) (.lt (.a 1) (.slen 0)))
   (.storeM (.ea 0 (.a 1) 1 0) [(.int .i64 (.add (.a 22) (.a 9)))]
   (.ite (.eq (.a 2) (.l 5))
   (.need (.and (.le (.l 0) (.a 1)) (.lt (.a 1) (.slen 0)))
   (.load false (.ea 0 (.a 1) 1 0) [(.int .i64)]
   (.need (.and (.le (.l 0) (.a 1)) (.lt (.a 1) (.slen 0)))
   (.storeM (.ea 0 (.a 1) 1 0) [(.int .i64 (.mn (.a 23) (.a 9)))]
   (.need (.and (.le (.l 0) (.a 1)) (.lt (.a 1) (.slen 0)))
   (.load false (.ea 0 (.a 1) 1 0) [(.int .i64)]
   (.call 85 [(.int .i64 (.a 24))] [] [(.one (.int .i64))]
   (.need (.and (.le (.l 0) (.a 1)) (.lt (.a 1) (.slen 0)))
   (.storeM (.ea 0 (.a 1) 1 0) [(.int .i64 (.a 25))]
   (.need (.and (.le (.l (-9223372036854775808)) (.add (.a 1) (.l 1))) (.le (.add (.a 1) (.l 1)) (.l 9223372036854775807)))
   (.jump 2 [(.a 0), (.add (.a 1) (.l 1)), (.a 2), (.a 3), (.a 4), (.a 5), (.a 6), (.a 7), (.a 8), (.a 9), (.a 10), (.a 11), (.a 12), (.a 13), (.a 14), (.a 15)] [] [(.va 0), (.va 1)])))))))))))
   (.need (.and (.le (.l 0) (.a 1)) (.lt (.a 1) (.slen 0)))
   (.load false (.ea 0 (.a 1) 1 0) [(.int .i64)]
   (.call 85 [(.int .i64 (.a 23))] [] [(.one (.int .i64))]
   (.need (.and (.le (.l 0) (.a 1)) (.lt (.a 1) (.slen 0)))
   (.storeM (.ea 0 (.a 1) 1 0) [(.int .i64 (.a 24))]
   (.need (.and (.le (.l (-9223372036854775808)) (.add (.a 1) (.l 1))) (.le (.add (.a 1) (.l 1)) (.l 9223372036854775807)))
   (.jump 2 [(.a 0), (.add (.a 1) (.l 1)), (.a 2), (.a 3), (.a 4), (.a 5), (.a 6), (.a 7), (.a 8), (.a 9), (.a 10), (.a 11), (.a 12), (.a 13), (.a 14), (.a 15)] [] [(.va 0), (.va 1)])))))))))))))
   (.ite (.eq (.a 2) (.l 5))
   (.need (.and (.le (.l 0) (.a 1)) (.lt (.a 1) (.slen 0)))
   (.load false (.ea 0 (.a 1) 1 0) [(.int .i64)]
   (.need (.and (.le (.l 0) (.a 1)) (.lt (.a 1) (.slen 0)))
   (.storeM (.ea 0 (.a 1) 1 0) [(.int .i64 (.mn (.a 22) (.a 9)))]
   (.need (.and (.le (.l 0) (.a 1)) (.lt (.a 1) (.slen 0)))
   (.load false (.ea 0 (.a 1) 1 0) [(.int .i64)]
   (.call 85 [(.int .i64 (.a 23))] [] [(.one (.int .i64))]
   (.need (.and (.le (.l 0) (.a 1)) (.lt (.a 1) (.slen 0)))
   (.storeM (.ea 0 (.a 1) 1 0) [(.int .i64 (.a 24))]
   (.need (.and (.le (.l (-9223372036854775808)) (.add (.a 1) (.l 1))) (.le (.add (.a 1) (.l 1)) (.l 9223372036854775807)))
   (.jump 2 [(.a 0), (.add (.a 1) (.l 1)), (.a 2), (.a 3), (.a 4), (.a 5), (.a 6), (.a 7), (.a 8), (.a 9), (.a 10), (.a 11), (.a 12), (.a 13), (.a 14), (.a 15)] [] [(.va 0), (.va 1)])))))))))))
   (.need (.and (.le (.l 0) (.a 1)) (.lt (.a 1) (.slen 0)))
   (.load false (.ea 0 (.a 1) 1 0) [(.int .i64)]
   (.call 85 [(.int .i64 (.a 22))] [] [(.one (.int .i64))]
   (.need (.and (.le (.l 0) (.a 1)) (.lt (.a 1) (.slen 0)))
   (.storeM (.ea 0 (.a 1) 1 0) [(.int .i64 (.a 23))]
   (.need (.and (.le (.l (-9223372036854775808)) (.add (.a 1) (.l 1))) (.le (.add (.a 1) (.l 1)) (.l 9223372036854775807)))
   (.jump 2 [(.a 0), (.add (.a 1) (.l 1)), (.a 2), (.a 3), (.a 4), (.a 5), (.a 6), (.a 7), (.a 8), (.a 9), (.a 10), (.a 11), (.a 12), (.a 13), (.a 14), (.a 15)] [] [(.va 0), (.va 1)])))))))))))
  (.ite (.eq (.a 2) (.l 5))
   (.need (.and (.le (.l 0) (.a 1)) (.lt (.a 1) (.slen 0)))
   (.load false (.ea 0 (.a 1) 1 0) [(.int .i64)]
   (.need (.and (.le (.l 0) (.a 1)) (.lt (.a 1) (.slen 0)))
   (.storeM (.ea 0 (.a 1) 1 0) [(.int .i64 (.mn (.a 16) (.a 9)))]
   (.need (.and (.le (.l 0) (.a 1)) (.lt (.a 1) (.slen 0)))
   (.load false (.ea 0 (.a 1) 1 0) [(.int .i64)]
   (.call 85 [(.int .i64 (.a 17))] [] [(.one (.int .i64))]
   (.need (.and (.le (.l 0) (.a 1)) (.lt (.a 1) (.slen 0)))
   (.storeM (.ea 0 (.a 1) 1 0) [(.int .i64 (.a 18))]
   (.need (.and (.le (.l (-9223372036854775808)) (.add (.a 1) (.l 1))) (.le (.add (.a 1) (.l 1)) (.l 9223372036854775807)))
   (.jump 2 [(.a 0), (.add (.a 1) (.l 1)), (.a 2), (.a 3), (.a 4), (.a 5), (.a 6), (.a 7), (.a 8), (.a 9), (.a 10), (.a 11), (.a 12), (.a 13), (.a 14), (.a 15)] [] [(.va 0), (.va 1)])))))))))))
   (.need (.and (.le (.l 0) (.a 1)) (.lt (.a 1) (.slen 0)))
   (.load false (.ea 0 (.a 1) 1 0) [(.int .i64)]
   (.call 85 [(.int .i64 (.a 16))] [] [(.one (.int .i64))]
   (.need (.and (.le (.l 0) (.a 1)) (.lt (.a 1) (.slen 0)))
   (.storeM (.ea 0 (.a 1) 1 0) [(.int .i64 (.a 17))]
   (.need (.and (.le (.l (-9223372036854775808)) (.add (.a 1) (.l 1))) (.le (.add (.a 1) (.l 1)) (.l 9223372036854775807)))
   (.jump 2 [(.a 0), (.add (.a 1) (.l 1)), (.a 2), (.a 3), (.a 4), (.a 5), (.a 6), (.a 7), (.a 8), (.a 9), (.a 10), (.a 11), (.a 12), (.a 13), (.a 14), (.a 15)] [] [(.va 0), (.va 1)]))))))))))
 (.ret true (.va 0) []))
def saleroomref13_all_S : Sx.Sys := ⟨[(.sh (.agg [(.int .i64), (.int .i64), (.int .i64), (.int .i64), (.int .i64), (.int .i64), (.int .i64), (.int .i64), .val])), (.sh (.agg [(.int .i64), (.int .i64), (.int .i64), (.int .i64), (.int .i64), (.int .i64)]))], a4D, [a1B, a2s, a1b], none, none⟩
def b0p : List Cfg := [{ todo := [(.code [false, false, true, false, true, true, true]), (.inLoop [false, false, true, false, true, true, true]), (.inBlock 0), (.code [true, true, true, true])], sl := [(.junk 0), (.junk 1), (.ptr 0 0), (.ptr 1 0), (.junk 2), (.int .i64 (.a 0)), (.va 0), (.int .i64 (.a 1)), (.junk 3), (.junk 4), .undef, (.junk 5), (.junk 6), (.junk 7), (.junk 8), (.junk 9), (.junk 10), (.junk 11), (.junk 12), (.junk 13), (.junk 14), (.junk 15), (.junk 16), (.junk 17), (.junk 18), (.junk 19), (.junk 20), (.junk 21), (.junk 22), (.junk 23), (.junk 24), (.junk 25), (.junk 26), (.junk 27), (.junk 28), (.junk 29), (.junk 30), (.junk 31), (.junk 32), (.junk 33), (.junk 34), (.junk 35), (.junk 36), (.junk 37), (.junk 38), (.junk 39), (.junk 40), (.junk 41), (.junk 42), (.junk 43), (.junk 44), (.junk 45), (.junk 46), (.junk 47), (.junk 48), (.junk 49), (.junk 50), .undef, .undef, .undef, .undef, .undef, .undef, .undef, .undef, .undef, .undef, .undef, .undef, .undef, .undef, .undef, .undef, .undef, .undef, .undef, .undef, .undef, .undef, .undef, .undef, .undef, .undef, .undef, .undef, .undef, .undef, .undef, .undef, .undef, .undef, .undef, .undef, .undef, .undef, .undef, .undef, .undef, .undef, .undef, .undef, .undef, .undef, .undef, .undef, .undef, .undef, .undef, .undef, .undef], H := [(.cells [(.int .i64 (.a 2)), (.int .i64 (.a 3)), (.int .i64 (.a 4)), (.int .i64 (.a 5)), (.int .i64 (.a 6)), (.int .i64 (.a 7)), (.int .i64 (.a 8)), (.int .i64 (.a 9)), (.va 1)] 26 false), (.cells [(.int .i64 (.a 10)), (.int .i64 (.a 11)), (.int .i64 (.a 12)), (.int .i64 (.a 13)), (.int .i64 (.a 14)), (.int .i64 (.a 15))] 23 false)], ni := 16, nb := 0, nv := 2, nj := 51 },
 { todo := [(.code [false, false, true, true, true, false, false, true, false, false, true, false, true, true, true]), (.inLoop [false, false, true, true, true, false, false, true, false, false, true, false, true, true, true]), (.inBlock 2), (.inBlock 1), (.code [true, true, false, false, true, false, true, true, true]), (.inLoop [false, false, true, false, true, true, true]), (.inBlock 0), (.code [true, true, true, true])], sl := [(.junk 0), (.junk 1), (.ptr 0 0), (.ptr 1 0), (.junk 2), (.int .i64 (.a 0)), (.va 0), (.int .i64 (.a 1)), (.va 1), (.int .i64 (.a 2)), .undef, (.junk 3), (.junk 4), (.junk 5), (.junk 6), (.junk 7), (.junk 8), (.junk 9), (.junk 10), (.junk 11), (.junk 12), (.junk 13), (.junk 14), (.junk 15), (.junk 16), (.junk 17), (.junk 18), (.junk 19), (.junk 20), (.junk 21), (.junk 22), (.junk 23), (.junk 24), (.junk 25), (.junk 26), (.junk 27), (.junk 28), (.junk 29), (.junk 30), (.junk 31), (.junk 32), (.junk 33), (.junk 34), (.junk 35), (.junk 36), (.junk 37), (.junk 38), (.junk 39), (.junk 40), (.junk 41), (.junk 42), (.junk 43), (.junk 44), (.junk 45), (.junk 46), (.junk 47), (.junk 48), .undef, .undef, .undef, .undef, .undef, .undef, .undef, .undef, .undef, .undef, .undef, .undef, .undef, .undef, .undef, .undef, .undef, .undef, .undef, .undef, .undef, .undef, .undef, .undef, .undef, .undef, .undef, .undef, .undef, .undef, .undef, .undef, .undef, .undef, .undef, .undef, .undef, .undef, .undef, .undef, .undef, .undef, .undef, .undef, .undef, .undef, .undef, .undef, .undef, .undef, .undef, .undef, .undef], H := [(.cells [(.int .i64 (.a 3)), (.int .i64 (.a 4)), (.int .i64 (.a 5)), (.int .i64 (.a 6)), (.int .i64 (.a 7)), (.int .i64 (.a 8)), (.int .i64 (.a 9)), (.int .i64 (.a 10)), (.va 2)] 26 false), (.cells [(.int .i64 (.a 11)), (.int .i64 (.a 12)), (.int .i64 (.a 13)), (.int .i64 (.a 14)), (.int .i64 (.a 15)), (.int .i64 (.a 16))] 23 false)], ni := 17, nb := 0, nv := 3, nj := 49 },
 { todo := [(.code [false, false, true, false, true, true, true, true]), (.inLoop [false, false, true, false, true, true, true, true]), (.inBlock 4), (.code [true, true, true, true, true])], sl := [(.junk 0), (.junk 1), (.ptr 0 0), (.ptr 1 0), (.junk 2), (.int .i64 (.a 0)), (.va 0), (.junk 3), (.junk 4), (.junk 5), (.int .i64 (.a 1)), (.junk 6), (.junk 7), (.junk 8), (.junk 9), (.junk 10), (.junk 11), (.junk 12), (.junk 13), (.junk 14), (.junk 15), (.junk 16), (.junk 17), (.junk 18), (.junk 19), (.junk 20), (.junk 21), (.junk 22), (.junk 23), (.junk 24), (.junk 25), (.junk 26), (.junk 27), (.junk 28), (.junk 29), (.junk 30), (.junk 31), (.junk 32), (.junk 33), (.junk 34), (.junk 35), (.junk 36), (.junk 37), (.junk 38), (.junk 39), (.junk 40), (.junk 41), (.junk 42), (.junk 43), (.junk 44), (.junk 45), (.junk 46), (.junk 47), (.junk 48), (.junk 49), (.junk 50), (.junk 51), (.junk 52), (.junk 53), (.junk 54), (.junk 55), (.junk 56), (.junk 57), (.junk 58), (.junk 59), (.junk 60), (.junk 61), (.junk 62), (.junk 63), (.junk 64), (.junk 65), (.junk 66), (.junk 67), (.junk 68), (.junk 69), (.junk 70), (.junk 71), (.junk 72), (.junk 73), (.junk 74), (.junk 75), (.junk 76), (.junk 77), (.junk 78), (.junk 79), (.junk 80), (.junk 81), (.junk 82), (.junk 83), (.junk 84), (.junk 85), (.junk 86), (.junk 87), (.junk 88), (.junk 89), (.junk 90), (.junk 91), (.junk 92), (.junk 93), (.junk 94), (.junk 95), (.junk 96), (.junk 97), (.junk 98), (.junk 99), (.junk 100), (.junk 101), (.junk 102), (.junk 103), .undef], H := [(.cells [(.int .i64 (.a 2)), (.int .i64 (.a 3)), (.int .i64 (.a 4)), (.int .i64 (.a 5)), (.int .i64 (.a 6)), (.int .i64 (.a 7)), (.int .i64 (.a 8)), (.int .i64 (.a 9)), (.va 1)] 26 false), (.cells [(.int .i64 (.a 10)), (.int .i64 (.a 11)), (.int .i64 (.a 12)), (.int .i64 (.a 13)), (.int .i64 (.a 14)), (.int .i64 (.a 15))] 23 false)], ni := 16, nb := 0, nv := 2, nj := 104 }]
theorem b2l : SysOk Try.prog 51 saleroomref13_all_S := a0C (c := (cg [[false, false, true, false, true, true, true], [false, false, true, true, true, false, false, true, false, false, true, false, true, true, true], [false, false, true, false, true, true, true, true]] [] [] false true false true [] [2])) (a0l _ _ _ _ _ _ _ _ _) Try.func51 Try.call51 (by kernel_rfl) b0p saleroomref13_all_S 5000 rfl (by kernel_rfl) (by kernel_rfl) rfl
def b0m : PT :=
 (.newM [(.int .i64 (.l 0))] 3
 (.storeM (.pa 1 0) [(.int .i64 (.l 0))]
 (.call 67 [(.agg [(.fn 90 0 [(.pa 1 0)])]), (.agg [(.int .i64 (.a 0)), (.int .i64 (.a 1)), (.int .i64 (.a 2)), (.int .i64 (.a 3)), (.int .i64 (.a 4)), (.int .i64 (.a 5)), (.int .i64 (.a 6)), (.int .i64 (.a 7)), (.va 0)])] [] [(.one .bool)]
 (.load false (.pa 1 0) [(.int .i64)]
 (.ret false (.int .i64 (.a 8)) [])))))
def expr_Size_S : Sx.Sys := ⟨[(.sh (.agg [(.int .i64), (.int .i64), (.int .i64), (.int .i64), (.int .i64), (.int .i64), (.int .i64), (.int .i64), .val]))], b0m, [], none, none⟩
def b7P : List Cfg := []
theorem b9E : SysOk Try.prog 68 expr_Size_S := a0C (c := (cg [] [3] [] true false false true)) (a0l _ _ _ _ _ _ _ _ _) Try.func68 Try.call68 (by kernel_rfl) b7P expr_Size_S 5000 rfl (by kernel_rfl) (by kernel_rfl) rfl
def a3g : PT :=
 (.rng 1
 (.jump 0 [(.a 0), (.a 1), (.a 2), (.a 3), (.a 4), (.a 5)] [] [(.va 0), (.va 2)]))
def a2Q : PT :=
 (.next 1 6
 (.ret false (.tup []) [])
 (.entry 1 6
 (.call 75 [(.va 0), (.agg [(.int .i64 (.a 0)), (.int .i64 (.a 1)), (.int .i64 (.a 2)), (.int .i64 (.a 3)), (.int .i64 (.a 4)), (.int .i64 (.a 5))]), (.agg [(.int .i64 (.a 13)), (.int .i64 (.a 14)), (.int .i64 (.a 15)), (.int .i64 (.a 16)), (.int .i64 (.a 17)), (.int .i64 (.a 18))]), (.int .i64 (.a 19))] [] []
 (.jump 0 [(.a 0), (.a 1), (.a 2), (.a 3), (.a 4), (.a 5)] [] [(.va 0), (.va 1)]))))
def valuation_worths_merge_S : Sx.Sys := ⟨[(.sh (.one .val)), (.sh (.agg [(.int .i64), (.int .i64), (.int .i64), (.int .i64), (.int .i64), (.int .i64)])), (.sh (.one .val))], a3g, [a2Q], none, none⟩
def a7l : List Cfg := [{ todo := [(.code [false, false, true, true]), (.inLoop [false, false, true, true]), (.inBlock 0)], sl := [(.va 0), (.junk 0), (.junk 1), .undef, (.ptr 0 0), .undef, (.junk 2), (.junk 3), (.junk 4), (.va 1), (.junk 5), (.junk 6), (.junk 7), (.junk 8), (.junk 9), (.junk 10), (.junk 11), (.junk 12), (.junk 13), (.junk 14)], H := [(.cells [(.int .i64 (.a 0)), (.int .i64 (.a 1)), (.int .i64 (.a 2)), (.int .i64 (.a 3)), (.int .i64 (.a 4)), (.int .i64 (.a 5))] 23 false)], ni := 6, nb := 0, nv := 2, nj := 15 }]
theorem a8d : SysIs Try.prog 76 valuation_worths_merge_S := b4g (c := (cg [[false, false, true, true]] [] [] false false false true)) (a0l _ _ _ _ _ _ _ _ _) Try.func76 Try.call76 (by kernel_rfl) a7l valuation_worths_merge_S 5000 rfl (by kernel_rfl) (by kernel_rfl)
def a5c : PT :=
 (.call 83 [(.agg [(.int .i64 (.a 0)), (.int .i64 (.a 1)), (.int .i64 (.a 2)), (.int .i64 (.a 3)), (.int .i64 (.a 4)), (.int .i64 (.a 5))])] [] [(.one (.int .i64))]
 (.mkM (.a 6) [(.int .i64 (.l 0))] 2 1 8
 (.mkM (.a 6) [(.int .i64 (.l 0)), (.int .i64 (.l 0)), (.int .i64 (.l 0)), (.int .i64 (.l 0)), (.int .i64 (.l 0)), (.int .i64 (.l 0))] 23 6 48
 (.jump 0 [(.a 6), (.l 0), (.a 0), (.a 1), (.a 2), (.a 3), (.a 4), (.a 5)] [] [(.va 0), (.va 1), (.va 2), (.va 3)]))))
def a2v : PT :=
 (.ite (.lt (.a 1) (.a 0))
 (.call 58 [(.agg [(.int .i64 (.a 2)), (.int .i64 (.a 3)), (.int .i64 (.a 4)), (.int .i64 (.a 5)), (.int .i64 (.a 6)), (.int .i64 (.a 7))]), (.int .i64 (.a 1))] [] [(.agg [(.int .i64), (.int .i64), (.int .i64), (.int .i64), (.int .i64), (.int .i64)])]
 (.need (.and (.le (.l 0) (.a 1)) (.lt (.a 1) (.slen 3)))
 (.storeM (.ea 3 (.a 1) 6 0) [(.int .i64 (.a 8)), (.int .i64 (.a 9)), (.int .i64 (.a 10)), (.int .i64 (.a 11)), (.int .i64 (.a 12)), (.int .i64 (.a 13))]
 (.need (.and (.le (.l (-9223372036854775808)) (.add (.a 1) (.l 1))) (.le (.add (.a 1) (.l 1)) (.l 9223372036854775807)))
 (.jump 0 [(.a 0), (.add (.a 1) (.l 1)), (.a 2), (.a 3), (.a 4), (.a 5), (.a 6), (.a 7)] [] [(.va 0), (.va 1), (.va 2), (.va 3)])))))
 (.jump 1 [(.a 0), (.l 0), (.a 2), (.a 3), (.a 4), (.a 5), (.a 6), (.a 7)] [] [(.va 0), (.va 1), (.va 2), (.va 3)]))
def a2w : PT :=
 (.ite (.lt (.a 1) (.a 0))
 (.need (.and (.le (.l 0) (.a 1)) (.lt (.a 1) (.slen 3)))
 (.load false (.ea 3 (.a 1) 6 0) [(.int .i64), (.int .i64), (.int .i64), (.int .i64), (.int .i64), (.int .i64)]
 (.jump 2 [(.a 0), (.a 1), (.l 0), (.a 2), (.a 3), (.a 4), (.a 5), (.a 6), (.a 7), (.a 8), (.a 9), (.a 10), (.a 11), (.a 12), (.a 13)] [] [(.va 0), (.va 1), (.va 2), (.va 3)])))
 (.ret true (.va 2) []))
def a3I : PT :=
 (.load false (.ea 0 (.a 2) 1 0) [(.int .i64)]
   (.call 94 [(.agg [(.int .i64 (.a 3)), (.int .i64 (.a 4)), (.int .i64 (.a 5)), (.int .i64 (.a 6)), (.int .i64 (.a 7)), (.int .i64 (.a 8))]), (.agg [(.int .i64 (.sub (.a 9) (.a 15))), (.int .i64 (.sub (.a 10) (.a 16))), (.int .i64 (.sub (.a 11) (.a 17))), (.int .i64 (.sub (.a 12) (.a 18))), (.int .i64 (.sub (.a 13) (.a 19))), (.int .i64 (.sub (.a 14) (.a 20)))])] [] [(.one (.int .i64))]
   (.need (.and (.le (.l 0) (.a 23)) (.lt (.a 23) (.slen 1)))
   (.load false (.ea 1 (.a 23) 1 0) [(.int .i64)]
   (.need (.and (.le (.l (-9223372036854775808)) (.add (.a 22) (.a 24))) (.le (.add (.a 22) (.a 24)) (.l 9223372036854775807)))
   (.need (.and (.le (.l 0) (.a 1)) (.lt (.a 1) (.slen 2)))
   (.storeM (.ea 2 (.a 1) 1 0) [(.int .i64 (.mx (.a 21) (.add (.a 22) (.a 24))))]
   (.need (.and (.le (.l (-9223372036854775808)) (.add (.a 2) (.l 1))) (.le (.add (.a 2) (.l 1)) (.l 9223372036854775807)))
   (.jump 2 [(.a 0), (.a 1), (.add (.a 2) (.l 1)), (.a 3), (.a 4), (.a 5), (.a 6), (.a 7), (.a 8), (.a 9), (.a 10), (.a 11), (.a 12), (.a 13), (.a 14)] [] [(.va 0), (.va 1), (.va 2), (.va 3)])))))))))
def a3E : PT :=
 (.call 94 [(.agg [(.int .i64 (.a 3)), (.int .i64 (.a 4)), (.int .i64 (.a 5)), (.int .i64 (.a 6)), (.int .i64 (.a 7)), (.int .i64 (.a 8))]), (.agg [(.int .i64 (.sub (.a 9) (.a 15))), (.int .i64 (.sub (.a 10) (.a 16))), (.int .i64 (.sub (.a 11) (.a 17))), (.int .i64 (.sub (.a 12) (.a 18))), (.int .i64 (.sub (.a 13) (.a 19))), (.int .i64 (.sub (.a 14) (.a 20)))])] [] [(.one (.int .i64))]
   (.need (.and (.le (.l 0) (.a 22)) (.lt (.a 22) (.slen 1)))
   (.load false (.ea 0 (.a 2) 1 0) [(.int .i64)]
   (.load false (.ea 1 (.a 22) 1 0) [(.int .i64)]
   (.need (.and (.le (.l (-9223372036854775808)) (.add (.a 23) (.a 24))) (.le (.add (.a 23) (.a 24)) (.l 9223372036854775807)))
   (.need (.and (.le (.l 0) (.a 1)) (.lt (.a 1) (.slen 2)))
   (.storeM (.ea 2 (.a 1) 1 0) [(.int .i64 (.mx (.a 21) (.add (.a 23) (.a 24))))]
   (.need (.and (.le (.l (-9223372036854775808)) (.add (.a 2) (.l 1))) (.le (.add (.a 2) (.l 1)) (.l 9223372036854775807)))
   (.jump 2 [(.a 0), (.a 1), (.add (.a 2) (.l 1)), (.a 3), (.a 4), (.a 5), (.a 6), (.a 7), (.a 8), (.a 9), (.a 10), (.a 11), (.a 12), (.a 13), (.a 14)] [] [(.va 0), (.va 1), (.va 2), (.va 3)])))))))))
def a3J : PT :=
 (.load false (.ea 2 (.a 1) 1 0) [(.int .i64)]
  (.both a3I a3E))
def a3u : PT :=
 (.load false (.ea 2 (.a 1) 1 0) [(.int .i64)]
   (.call 94 [(.agg [(.int .i64 (.a 3)), (.int .i64 (.a 4)), (.int .i64 (.a 5)), (.int .i64 (.a 6)), (.int .i64 (.a 7)), (.int .i64 (.a 8))]), (.agg [(.int .i64 (.sub (.a 9) (.a 15))), (.int .i64 (.sub (.a 10) (.a 16))), (.int .i64 (.sub (.a 11) (.a 17))), (.int .i64 (.sub (.a 12) (.a 18))), (.int .i64 (.sub (.a 13) (.a 19))), (.int .i64 (.sub (.a 14) (.a 20)))])] [] [(.one (.int .i64))]
   (.need (.and (.le (.l 0) (.a 23)) (.lt (.a 23) (.slen 1)))
   (.load false (.ea 1 (.a 23) 1 0) [(.int .i64)]
   (.need (.and (.le (.l (-9223372036854775808)) (.add (.a 21) (.a 24))) (.le (.add (.a 21) (.a 24)) (.l 9223372036854775807)))
   (.need (.and (.le (.l 0) (.a 1)) (.lt (.a 1) (.slen 2)))
   (.storeM (.ea 2 (.a 1) 1 0) [(.int .i64 (.mx (.a 22) (.add (.a 21) (.a 24))))]
   (.need (.and (.le (.l (-9223372036854775808)) (.add (.a 2) (.l 1))) (.le (.add (.a 2) (.l 1)) (.l 9223372036854775807)))
   (.jump 2 [(.a 0), (.a 1), (.add (.a 2) (.l 1)), (.a 3), (.a 4), (.a 5), (.a 6), (.a 7), (.a 8), (.a 9), (.a 10), (.a 11), (.a 12), (.a 13), (.a 14)] [] [(.va 0), (.va 1), (.va 2), (.va 3)])))))))))
def a3G : PT :=
 (.call 94 [(.agg [(.int .i64 (.a 3)), (.int .i64 (.a 4)), (.int .i64 (.a 5)), (.int .i64 (.a 6)), (.int .i64 (.a 7)), (.int .i64 (.a 8))]), (.agg [(.int .i64 (.sub (.a 9) (.a 15))), (.int .i64 (.sub (.a 10) (.a 16))), (.int .i64 (.sub (.a 11) (.a 17))), (.int .i64 (.sub (.a 12) (.a 18))), (.int .i64 (.sub (.a 13) (.a 19))), (.int .i64 (.sub (.a 14) (.a 20)))])] [] [(.one (.int .i64))]
   (.need (.and (.le (.l 0) (.a 22)) (.lt (.a 22) (.slen 1)))
   (.load false (.ea 1 (.a 22) 1 0) [(.int .i64)]
   (.need (.and (.le (.l (-9223372036854775808)) (.add (.a 21) (.a 23))) (.le (.add (.a 21) (.a 23)) (.l 9223372036854775807)))
   (.load false (.ea 2 (.a 1) 1 0) [(.int .i64)]
   (.need (.and (.le (.l 0) (.a 1)) (.lt (.a 1) (.slen 2)))
   (.storeM (.ea 2 (.a 1) 1 0) [(.int .i64 (.mx (.a 24) (.add (.a 21) (.a 23))))]
   (.need (.and (.le (.l (-9223372036854775808)) (.add (.a 2) (.l 1))) (.le (.add (.a 2) (.l 1)) (.l 9223372036854775807)))
   (.jump 2 [(.a 0), (.a 1), (.add (.a 2) (.l 1)), (.a 3), (.a 4), (.a 5), (.a 6), (.a 7), (.a 8), (.a 9), (.a 10), (.a 11), (.a 12), (.a 13), (.a 14)] [] [(.va 0), (.va 1), (.va 2), (.va 3)])))))))))
def a3L : PT :=
 (.load false (.ea 0 (.a 2) 1 0) [(.int .i64)]
   (.both a3u a3G))
def a3w : PT :=
 (.call 94 [(.agg [(.int .i64 (.a 3)), (.int .i64 (.a 4)), (.int .i64 (.a 5)), (.int .i64 (.a 6)), (.int .i64 (.a 7)), (.int .i64 (.a 8))]), (.agg [(.int .i64 (.sub (.a 9) (.a 15))), (.int .i64 (.sub (.a 10) (.a 16))), (.int .i64 (.sub (.a 11) (.a 17))), (.int .i64 (.sub (.a 12) (.a 18))), (.int .i64 (.sub (.a 13) (.a 19))), (.int .i64 (.sub (.a 14) (.a 20)))])] [] [(.one (.int .i64))]
   (.need (.and (.le (.l 0) (.a 21)) (.lt (.a 21) (.slen 1)))
   (.load false (.ea 0 (.a 2) 1 0) [(.int .i64)]
   (.load false (.ea 1 (.a 21) 1 0) [(.int .i64)]
   (.need (.and (.le (.l (-9223372036854775808)) (.add (.a 22) (.a 23))) (.le (.add (.a 22) (.a 23)) (.l 9223372036854775807)))
   (.load false (.ea 2 (.a 1) 1 0) [(.int .i64)]
   (.need (.and (.le (.l 0) (.a 1)) (.lt (.a 1) (.slen 2)))
   (.storeM (.ea 2 (.a 1) 1 0) [(.int .i64 (.mx (.a 24) (.add (.a 22) (.a 23))))]
   (.need (.and (.le (.l (-9223372036854775808)) (.add (.a 2) (.l 1))) (.le (.add (.a 2) (.l 1)) (.l 9223372036854775807)))
   (.jump 2 [(.a 0), (.a 1), (.add (.a 2) (.l 1)), (.a 3), (.a 4), (.a 5), (.a 6), (.a 7), (.a 8), (.a 9), (.a 10), (.a 11), (.a 12), (.a 13), (.a 14)] [] [(.va 0), (.va 1), (.va 2), (.va 3)]))))))))))
def a3y : PT :=
 (.both a3L a3w)
def a1F : PT :=
 (.ite (.le (.a 2) (.a 1))
 (.need (.and (.le (.l 0) (.a 2)) (.lt (.a 2) (.slen 3)))
 (.load false (.ea 3 (.a 2) 6 0) [(.int .i64), (.int .i64), (.int .i64), (.int .i64), (.int .i64), (.int .i64)]
 (.call 57 [(.agg [(.int .i64 (.a 15)), (.int .i64 (.a 16)), (.int .i64 (.a 17)), (.int .i64 (.a 18)), (.int .i64 (.a 19)), (.int .i64 (.a 20))]), (.agg [(.int .i64 (.a 9)), (.int .i64 (.a 10)), (.int .i64 (.a 11)), (.int .i64 (.a 12)), (.int .i64 (.a 13)), (.int .i64 (.a 14))])] [] [(.one .bool)]
 (.ite (.not (.a 0))
  (.need (.and (.le (.l (-9223372036854775808)) (.add (.a 2) (.l 1))) (.le (.add (.a 2) (.l 1)) (.l 9223372036854775807)))
  (.jump 2 [(.a 0), (.a 1), (.add (.a 2) (.l 1)), (.a 3), (.a 4), (.a 5), (.a 6), (.a 7), (.a 8), (.a 9), (.a 10), (.a 11), (.a 12), (.a 13), (.a 14)] [] [(.va 0), (.va 1), (.va 2), (.va 3)]))
  (.need (.and (.le (.l (-9223372036854775808)) (.sub (.a 9) (.a 15))) (.le (.sub (.a 9) (.a 15)) (.l 9223372036854775807)))
  (.need (.and (.le (.l (-9223372036854775808)) (.sub (.a 10) (.a 16))) (.le (.sub (.a 10) (.a 16)) (.l 9223372036854775807)))
  (.need (.and (.le (.l (-9223372036854775808)) (.sub (.a 11) (.a 17))) (.le (.sub (.a 11) (.a 17)) (.l 9223372036854775807)))
  (.need (.and (.le (.l (-9223372036854775808)) (.sub (.a 12) (.a 18))) (.le (.sub (.a 12) (.a 18)) (.l 9223372036854775807)))
  (.need (.and (.le (.l (-9223372036854775808)) (.sub (.a 13) (.a 19))) (.le (.sub (.a 13) (.a 19)) (.l 9223372036854775807)))
  (.need (.and (.le (.l (-9223372036854775808)) (.sub (.a 14) (.a 20))) (.le (.sub (.a 14) (.a 20)) (.l 9223372036854775807)))
  (.need (.and (.le (.l 0) (.a 1)) (.lt (.a 1) (.slen 2)))
  (.need (.and (.le (.l 0) (.a 2)) (.lt (.a 2) (.slen 0)))
  (.both a3J a3y)))))))))))))
 (.need (.and (.le (.l (-9223372036854775808)) (.add (.a 1) (.l 1))) (.le (.add (.a 1) (.l 1)) (.l 9223372036854775807)))
 (.jump 1 [(.a 0), (.add (.a 1) (.l 1)), (.a 3), (.a 4), (.a 5), (.a 6), (.a 7), (.a 8)] [] [(.va 0), (.va 1), (.va 2), (.va 3)])))
def saleroomref13_or_S : Sx.Sys := ⟨[(.sh (.agg [(.int .i64), (.int .i64), (.int .i64), (.int .i64), (.int .i64), (.int .i64)])), (.sh (.one .val)), (.sh (.one .val))], a5c, [a2v, a2w, a1F], none, none⟩
def b1p : List Cfg := [{ todo := [(.code [false, false, true, false, true, true, true, true]), (.inLoop [false, false, true, false, true, true, true, true]), (.inBlock 0), (.code [true, true, true, true, true])], sl := [(.junk 0), (.va 0), (.va 1), (.ptr 0 0), .undef, .undef, (.junk 1), (.int .i64 (.a 0)), (.va 2), (.va 3), (.int .i64 (.a 1)), .undef, .undef, .undef, .undef, .undef, .undef, (.junk 2), (.junk 3), (.junk 4), (.junk 5), (.junk 6), (.junk 7), (.junk 8), (.junk 9), (.junk 10), (.junk 11), (.junk 12), (.junk 13), (.junk 14), (.junk 15), (.junk 16), (.junk 17), (.junk 18), .undef, .undef, .undef, .undef, .undef, .undef, .undef, .undef, .undef, .undef, .undef, .undef, .undef, .undef, .undef, .undef, .undef, .undef, .undef, .undef, .undef, .undef, .undef, .undef, .undef, .undef, .undef, .undef, .undef, .undef, .undef, .undef, .undef, .undef, .undef, .undef, .undef, .undef, .undef, .undef, .undef, .undef, .undef, .undef, .undef, .undef, .undef, .undef, .undef, .undef, .undef, .undef, .undef, .undef, .undef, .undef], H := [(.cells [(.int .i64 (.a 2)), (.int .i64 (.a 3)), (.int .i64 (.a 4)), (.int .i64 (.a 5)), (.int .i64 (.a 6)), (.int .i64 (.a 7))] 23 false)], ni := 8, nb := 0, nv := 4, nj := 19 },
 { todo := [(.code [false, false, true, false, true, true, true, true, true]), (.inLoop [false, false, true, false, true, true, true, true, true]), (.inBlock 2), (.code [true, true, true, true, true, true])], sl := [(.junk 0), (.va 0), (.va 1), (.ptr 0 0), .undef, .undef, (.junk 1), (.int .i64 (.a 0)), (.va 2), (.va 3), (.junk 2), (.int .i64 (.a 1)), (.junk 3), (.junk 4), (.junk 5), (.junk 6), (.junk 7), (.junk 8), (.junk 9), (.junk 10), (.junk 11), (.junk 12), (.junk 13), (.junk 14), (.junk 15), (.junk 16), (.junk 17), (.junk 18), (.junk 19), (.junk 20), (.junk 21), (.junk 22), (.junk 23), (.junk 24), (.junk 25), (.junk 26), (.junk 27), (.junk 28), (.junk 29), (.junk 30), (.junk 31), (.junk 32), (.junk 33), (.junk 34), (.junk 35), (.junk 36), (.junk 37), (.junk 38), (.junk 39), (.junk 40), (.junk 41), (.junk 42), (.junk 43), (.junk 44), (.junk 45), (.junk 46), (.junk 47), (.junk 48), (.junk 49), (.junk 50), (.junk 51), (.junk 52), (.junk 53), (.junk 54), (.junk 55), (.junk 56), (.junk 57), (.junk 58), (.junk 59), (.junk 60), (.junk 61), (.junk 62), (.junk 63), (.junk 64), (.junk 65), (.junk 66), (.junk 67), (.junk 68), (.junk 69), (.junk 70), (.junk 71), (.junk 72), (.junk 73), (.junk 74), (.junk 75), (.junk 76), (.junk 77), (.junk 78), (.junk 79), .undef], H := [(.cells [(.int .i64 (.a 2)), (.int .i64 (.a 3)), (.int .i64 (.a 4)), (.int .i64 (.a 5)), (.int .i64 (.a 6)), (.int .i64 (.a 7))] 23 false)], ni := 8, nb := 0, nv := 4, nj := 80 },
 { todo := [(.code [false, false, true, true, false, false, true, false, false, true, false, true, true, true, true, true]), (.inLoop [false, false, true, true, false, false, true, false, false, true, false, true, true, true, true, true]), (.inBlock 4), (.inBlock 3), (.code [true, true, false, false, true, false, true, true, true, true, true]), (.inLoop [false, false, true, false, true, true, true, true, true]), (.inBlock 2), (.code [true, true, true, true, true, true])], sl := [(.junk 0), (.va 0), (.va 1), (.ptr 0 0), .undef, .undef, (.junk 1), (.int .i64 (.a 0)), (.va 2), (.va 3), (.junk 2), (.int .i64 (.a 1)), (.ptr 1 0), (.int .i64 (.a 2)), (.junk 3), (.junk 4), (.junk 5), (.junk 6), (.junk 7), (.junk 8), (.junk 9), (.junk 10), (.junk 11), (.junk 12), (.junk 13), (.junk 14), (.junk 15), (.junk 16), (.junk 17), (.junk 18), (.junk 19), (.junk 20), (.junk 21), (.junk 22), (.junk 23), (.junk 24), (.junk 25), (.junk 26), (.junk 27), (.junk 28), (.junk 29), (.junk 30), (.junk 31), (.junk 32), (.junk 33), (.junk 34), (.junk 35), (.junk 36), (.junk 37), (.junk 38), (.junk 39), (.junk 40), (.junk 41), (.junk 42), (.junk 43), (.junk 44), (.junk 45), (.junk 46), (.junk 47), (.junk 48), (.junk 49), (.junk 50), (.junk 51), (.junk 52), (.junk 53), (.junk 54), (.junk 55), (.junk 56), (.junk 57), (.junk 58), (.junk 59), (.junk 60), (.junk 61), (.junk 62), (.junk 63), (.junk 64), (.junk 65), (.junk 66), (.junk 67), (.junk 68), (.junk 69), (.junk 70), (.junk 71), (.junk 72), (.junk 73), (.junk 74), (.junk 75), (.junk 76), (.junk 77), .undef], H := [(.cells [(.int .i64 (.a 3)), (.int .i64 (.a 4)), (.int .i64 (.a 5)), (.int .i64 (.a 6)), (.int .i64 (.a 7)), (.int .i64 (.a 8))] 23 false), (.cells [(.int .i64 (.a 9)), (.int .i64 (.a 10)), (.int .i64 (.a 11)), (.int .i64 (.a 12)), (.int .i64 (.a 13)), (.int .i64 (.a 14))] 23 false)], ni := 15, nb := 0, nv := 4, nj := 78 }]
theorem b3s : SysOk Try.prog 84 saleroomref13_or_S := a0C (c := (cg [[false, false, true, false, true, true, true, true], [false, false, true, false, true, true, true, true, true], [false, false, true, true, false, false, true, false, false, true, false, true, true, true, true, true]] [] [] false true false true [] [2])) (a0l _ _ _ _ _ _ _ _ _) Try.func84 Try.call84 (by kernel_rfl) b1p saleroomref13_or_S 5000 rfl (by kernel_rfl) (by kernel_rfl) rfl
def a8B : PT :=
 (.need (.and (.le (.l (-9223372036854775808)) (.add (.a 0) (.a 6))) (.le (.add (.a 0) (.a 6)) (.l 9223372036854775807)))
 (.need (.and (.le (.l (-9223372036854775808)) (.add (.a 1) (.a 7))) (.le (.add (.a 1) (.a 7)) (.l 9223372036854775807)))
 (.need (.and (.le (.l (-9223372036854775808)) (.add (.a 2) (.a 8))) (.le (.add (.a 2) (.a 8)) (.l 9223372036854775807)))
 (.need (.and (.le (.l (-9223372036854775808)) (.add (.a 3) (.a 9))) (.le (.add (.a 3) (.a 9)) (.l 9223372036854775807)))
 (.need (.and (.le (.l (-9223372036854775808)) (.add (.a 4) (.a 10))) (.le (.add (.a 4) (.a 10)) (.l 9223372036854775807)))
 (.need (.and (.le (.l (-9223372036854775808)) (.add (.a 5) (.a 11))) (.le (.add (.a 5) (.a 11)) (.l 9223372036854775807)))
 (.ret false (.agg [(.int .i64 (.add (.a 0) (.a 6))), (.int .i64 (.add (.a 1) (.a 7))), (.int .i64 (.add (.a 2) (.a 8))), (.int .i64 (.add (.a 3) (.a 9))), (.int .i64 (.add (.a 4) (.a 10))), (.int .i64 (.add (.a 5) (.a 11)))]) [])))))))
def bundle_Add_S : Sx.Sys := ⟨[(.sh (.agg [(.int .i64), (.int .i64), (.int .i64), (.int .i64), (.int .i64), (.int .i64)])), (.sh (.agg [(.int .i64), (.int .i64), (.int .i64), (.int .i64), (.int .i64), (.int .i64)]))], a8B, [], none, none⟩
def b6Q : List Cfg := []
theorem b3d : SysOk Try.prog 92 bundle_Add_S := a0C (c := (cg [] [] [] false false false true)) (a0l _ _ _ _ _ _ _ _ _) Try.func92 Try.call92 (by kernel_rfl) b6Q bundle_Add_S 5000 rfl (by kernel_rfl) (by kernel_rfl) rfl
end Go.Proofs.Ythmkfeiapdbojaa
set_option maxRecDepth 100000
namespace Go.Proofs.Ythmkfeiapdbojaa
open Go.Sx
def a7P : PT :=
 (.call 42 [(.agg [(.int .i64 (.a 0)), (.int .i64 (.a 1)), (.int .i64 (.a 2)), (.int .i64 (.a 3)), (.int .i64 (.a 4)), (.int .i64 (.a 5)), (.int .i64 (.a 6)), (.int .i64 (.a 7)), (.va 0)])] [] [(.one (.int .i64))]
 (.ite (.not (.eq (.a 14) (.l 0)))
 (.ret false (.int .i64 (.l 0)) [])
 (.call 48 [(.agg [(.int .i64 (.a 8)), (.int .i64 (.a 9)), (.int .i64 (.a 10)), (.int .i64 (.a 11)), (.int .i64 (.a 12)), (.int .i64 (.a 13))])] [] [(.one (.int .i64))]
 (.ite (.not (.eq (.a 15) (.l 0)))
  (.ret false (.int .i64 (.l 0)) [])
  (.call 49 [(.agg [(.int .i64 (.a 0)), (.int .i64 (.a 1)), (.int .i64 (.a 2)), (.int .i64 (.a 3)), (.int .i64 (.a 4)), (.int .i64 (.a 5)), (.int .i64 (.a 6)), (.int .i64 (.a 7)), (.va 0)]), (.agg [(.int .i64 (.a 8)), (.int .i64 (.a 9)), (.int .i64 (.a 10)), (.int .i64 (.a 11)), (.int .i64 (.a 12)), (.int .i64 (.a 13))])] [] [(.one .val)]
  (.rng 1
  (.jump 0 [(.l 0)] [] [(.va 2)])))))))
def a7y : PT :=
 (.next 0 6
 (.ret false (.int .i64 (.a 0)) [])
 (.entry 0 6
 (.jump 0 [(.mx (.a 0) (.a 14))] [] [(.va 0)])))
def valuation_Value_S : Sx.Sys := ⟨[(.sh (.agg [(.int .i64), (.int .i64), (.int .i64), (.int .i64), (.int .i64), (.int .i64), (.int .i64), (.int .i64), .val])), (.sh (.agg [(.int .i64), (.int .i64), (.int .i64), (.int .i64), (.int .i64), (.int .i64)]))], a7P, [a7y], none, none⟩
def b2n : List Cfg := [{ todo := [(.code [false, false, true, false, true, true, true]), (.inLoop [false, false, true, false, true, true, true]), (.inBlock 0), (.code [true, true, true, true])], sl := [(.junk 0), (.junk 1), (.junk 2), (.junk 3), (.junk 4), (.int .i64 (.a 0)), .undef, (.junk 5), (.junk 6), (.junk 7), (.junk 8), (.junk 9), (.junk 10), (.junk 11), (.junk 12), (.junk 13), (.junk 14), (.junk 15), (.junk 16), (.va 0), (.junk 17), (.junk 18), (.junk 19), (.junk 20), (.junk 21), (.junk 22), (.junk 23), .undef], H := [], ni := 1, nb := 0, nv := 1, nj := 24 }]
theorem b4C : SysIs Try.prog 18 valuation_Value_S := b4g (c := (cg [[false, false, true, false, true, true, true]] [] [] false false false true)) (a0l _ _ _ _ _ _ _ _ _) Try.func18 Try.call18 (by kernel_rfl) b2n valuation_Value_S 5000 rfl (by kernel_rfl) (by kernel_rfl)
def a4f : PT :=
 (.call 48 [(.agg [(.int .i64 (.a 0)), (.int .i64 (.a 1)), (.int .i64 (.a 2)), (.int .i64 (.a 3)), (.int .i64 (.a 4)), (.int .i64 (.a 5))])] [] [(.one (.int .i64))]
 (.ite (.not (.eq (.a 6) (.l 0)))
 (.ret false (.int .i64 (.l 0)) [])
 (.need (.and (.le (.l (-9223372036854775808)) (.add (.a 0) (.l 1))) (.le (.add (.a 0) (.l 1)) (.l 9223372036854775807)))
 (.need (.and (.le (.l (-9223372036854775808)) (.mul (.l 1) (.add (.a 0) (.l 1)))) (.le (.mul (.l 1) (.add (.a 0) (.l 1))) (.l 9223372036854775807)))
 (.need (.and (.le (.l (-9223372036854775808)) (.add (.a 1) (.l 1))) (.le (.add (.a 1) (.l 1)) (.l 9223372036854775807)))
 (.need (.and (.le (.l (-9223372036854775808)) (.mul (.mul (.l 1) (.add (.a 0) (.l 1))) (.add (.a 1) (.l 1)))) (.le (.mul (.mul (.l 1) (.add (.a 0) (.l 1))) (.add (.a 1) (.l 1))) (.l 9223372036854775807)))
 (.need (.and (.le (.l (-9223372036854775808)) (.add (.a 2) (.l 1))) (.le (.add (.a 2) (.l 1)) (.l 9223372036854775807)))
 (.need (.and (.le (.l (-9223372036854775808)) (.mul (.mul (.mul (.l 1) (.add (.a 0) (.l 1))) (.add (.a 1) (.l 1))) (.add (.a 2) (.l 1)))) (.le (.mul (.mul (.mul (.l 1) (.add (.a 0) (.l 1))) (.add (.a 1) (.l 1))) (.add (.a 2) (.l 1))) (.l 9223372036854775807)))
 (.need (.and (.le (.l (-9223372036854775808)) (.add (.a 3) (.l 1))) (.le (.add (.a 3) (.l 1)) (.l 9223372036854775807)))
 (.need (.and (.le (.l (-9223372036854775808)) (.mul (.mul (.mul (.mul (.l 1) (.add (.a 0) (.l 1))) (.add (.a 1) (.l 1))) (.add (.a 2) (.l 1))) (.add (.a 3) (.l 1)))) (.le (.mul (.mul (.mul (.mul (.l 1) (.add (.a 0) (.l 1))) (.add (.a 1) (.l 1))) (.add (.a 2) (.l 1))) (.add (.a 3) (.l 1))) (.l 9223372036854775807)))
 (.need (.and (.le (.l (-9223372036854775808)) (.add (.a 4) (.l 1))) (.le (.add (.a 4) (.l 1)) (.l 9223372036854775807)))
 (.need (.and (.le (.l (-9223372036854775808)) (.mul (.mul (.mul (.mul (.mul (.l 1) (.add (.a 0) (.l 1))) (.add (.a 1) (.l 1))) (.add (.a 2) (.l 1))) (.add (.a 3) (.l 1))) (.add (.a 4) (.l 1)))) (.le (.mul (.mul (.mul (.mul (.mul (.l 1) (.add (.a 0) (.l 1))) (.add (.a 1) (.l 1))) (.add (.a 2) (.l 1))) (.add (.a 3) (.l 1))) (.add (.a 4) (.l 1))) (.l 9223372036854775807)))
 (.need (.and (.le (.l (-9223372036854775808)) (.add (.a 5) (.l 1))) (.le (.add (.a 5) (.l 1)) (.l 9223372036854775807)))
 (.need (.and (.le (.l (-9223372036854775808)) (.mul (.mul (.mul (.mul (.mul (.mul (.l 1) (.add (.a 0) (.l 1))) (.add (.a 1) (.l 1))) (.add (.a 2) (.l 1))) (.add (.a 3) (.l 1))) (.add (.a 4) (.l 1))) (.add (.a 5) (.l 1)))) (.le (.mul (.mul (.mul (.mul (.mul (.mul (.l 1) (.add (.a 0) (.l 1))) (.add (.a 1) (.l 1))) (.add (.a 2) (.l 1))) (.add (.a 3) (.l 1))) (.add (.a 4) (.l 1))) (.add (.a 5) (.l 1))) (.l 9223372036854775807)))
 (.ite (.lt (.l 1024) (.mul (.mul (.mul (.mul (.mul (.mul (.l 1) (.add (.a 0) (.l 1))) (.add (.a 1) (.l 1))) (.add (.a 2) (.l 1))) (.add (.a 3) (.l 1))) (.add (.a 4) (.l 1))) (.add (.a 5) (.l 1))))
  (.ret false (.int .i64 (.l 0)) [])
  (.ret false (.int .i64 (.mul (.mul (.mul (.mul (.mul (.mul (.l 1) (.add (.a 0) (.l 1))) (.add (.a 1) (.l 1))) (.add (.a 2) (.l 1))) (.add (.a 3) (.l 1))) (.add (.a 4) (.l 1))) (.add (.a 5) (.l 1)))) []))))))))))))))))
def bundle_Count_S : Sx.Sys := ⟨[(.sh (.agg [(.int .i64), (.int .i64), (.int .i64), (.int .i64), (.int .i64), (.int .i64)]))], a4f, [], none, none⟩
def b5g : List Cfg := []
theorem b6P : SysOk Try.prog 52 bundle_Count_S := a0C (c := (cg [] [] [] false false false true)) (a0l _ _ _ _ _ _ _ _ _) Try.func52 Try.call52 (by kernel_rfl) b5g bundle_Count_S 5000 rfl (by kernel_rfl) (by kernel_rfl) rfl
def a4h : PT :=
 (.call 70 [(.agg [(.int .i64 (.a 0)), (.int .i64 (.a 1)), (.int .i64 (.a 2)), (.int .i64 (.a 3)), (.int .i64 (.a 4)), (.int .i64 (.a 5)), (.int .i64 (.a 6)), (.int .i64 (.a 7)), (.va 0)])] [] [(.one .bool)]
 (.ite (.not (.a 0))
 (.storeM (.pa 1 0) [(.int .i64 (.l 2))]
 (.load false (.pa 1 0) [(.int .i64)]
 (.ret true (.bool (.eq (.a 8) (.l 0))) [])))
 (.call 71 [(.agg [(.int .i64 (.a 0)), (.int .i64 (.a 1)), (.int .i64 (.a 2)), (.int .i64 (.a 3)), (.int .i64 (.a 4)), (.int .i64 (.a 5)), (.int .i64 (.a 6)), (.int .i64 (.a 7)), (.va 0)])] [] [(.one .bool)]
 (.ite (.not (.a 1))
  (.storeM (.pa 1 0) [(.int .i64 (.l 4))]
  (.load false (.pa 1 0) [(.int .i64)]
  (.ret true (.bool (.eq (.a 8) (.l 0))) [])))
  (.load false (.pa 1 0) [(.int .i64)]
  (.ret true (.bool (.eq (.a 8) (.l 0))) []))))))
def expr_Check_2_S : Sx.Sys := ⟨[(.sh (.agg [(.int .i64), (.int .i64), (.int .i64), (.int .i64), (.int .i64), (.int .i64), (.int .i64), (.int .i64), .val])), .ptr], a4h, [], none, none⟩
def b5i : List Cfg := []
theorem b6A : SysOk Try.prog 69 expr_Check_2_S := a0C (c := (cg [] [] [] true true false true)) (a0l _ _ _ _ _ _ _ _ _) Try.func69 Try.call69 (by kernel_rfl) b5i expr_Check_2_S 5000 rfl (by kernel_rfl) (by kernel_rfl) rfl
def a6s : PT :=
 (.mkQ
 (.call 76 [(.va 2), (.agg [(.int .i64 (.a 0)), (.int .i64 (.a 1)), (.int .i64 (.a 2)), (.int .i64 (.a 3)), (.int .i64 (.a 4)), (.int .i64 (.a 5))]), (.va 0)] [] []
 (.call 76 [(.va 2), (.agg [(.int .i64 (.a 0)), (.int .i64 (.a 1)), (.int .i64 (.a 2)), (.int .i64 (.a 3)), (.int .i64 (.a 4)), (.int .i64 (.a 5))]), (.va 1)] [] []
 (.rng 0
 (.jump 0 [(.a 0), (.a 1), (.a 2), (.a 3), (.a 4), (.a 5)] [] [(.va 1), (.va 2), (.va 3)])))))
def a3h : PT :=
 (.next 2 6
 (.ret true (.va 1) [])
 (.entry 2 6
 (.rng 0
 (.jump 1 [(.a 19), (.a 0), (.a 1), (.a 2), (.a 3), (.a 4), (.a 5), (.a 13), (.a 14), (.a 15), (.a 16), (.a 17), (.a 18)] [] [(.va 0), (.va 1), (.va 2), (.va 3)]))))
def a2Y : PT :=
 (.next 3 6
 (.jump 0 [(.a 1), (.a 2), (.a 3), (.a 4), (.a 5), (.a 6)] [] [(.va 0), (.va 1), (.va 2)])
 (.entry 3 6
 (.need (.and (.le (.l (-9223372036854775808)) (.add (.a 0) (.a 26))) (.le (.add (.a 0) (.a 26)) (.l 9223372036854775807)))
 (.call 92 [(.agg [(.int .i64 (.a 7)), (.int .i64 (.a 8)), (.int .i64 (.a 9)), (.int .i64 (.a 10)), (.int .i64 (.a 11)), (.int .i64 (.a 12))]), (.agg [(.int .i64 (.a 20)), (.int .i64 (.a 21)), (.int .i64 (.a 22)), (.int .i64 (.a 23)), (.int .i64 (.a 24)), (.int .i64 (.a 25))])] [] [(.agg [(.int .i64), (.int .i64), (.int .i64), (.int .i64), (.int .i64), (.int .i64)])]
 (.call 75 [(.va 1), (.agg [(.int .i64 (.a 1)), (.int .i64 (.a 2)), (.int .i64 (.a 3)), (.int .i64 (.a 4)), (.int .i64 (.a 5)), (.int .i64 (.a 6))]), (.agg [(.int .i64 (.a 27)), (.int .i64 (.a 28)), (.int .i64 (.a 29)), (.int .i64 (.a 30)), (.int .i64 (.a 31)), (.int .i64 (.a 32))]), (.int .i64 (.add (.a 0) (.a 26)))] [] []
 (.jump 1 [(.a 0), (.a 1), (.a 2), (.a 3), (.a 4), (.a 5), (.a 6), (.a 7), (.a 8), (.a 9), (.a 10), (.a 11), (.a 12)] [] [(.va 0), (.va 1), (.va 2), (.va 3)]))))))
def valuation_sum_S : Sx.Sys := ⟨[(.sh (.agg [(.int .i64), (.int .i64), (.int .i64), (.int .i64), (.int .i64), (.int .i64)])), (.sh (.one .val)), (.sh (.one .val))], a6s, [a3h, a2Y], none, none⟩
def b4l : List Cfg := [{ todo := [(.code [false, false, true, false, true, true, true, true]), (.inLoop [false, false, true, false, true, true, true, true]), (.inBlock 0), (.code [true, true, true, true, true])], sl := [(.junk 0), (.junk 1), (.va 0), (.ptr 0 0), .undef, .undef, (.junk 2), (.va 1), (.junk 3), (.junk 4), (.junk 5), (.junk 6), (.junk 7), (.junk 8), (.junk 9), (.junk 10), (.junk 11), (.junk 12), (.junk 13), (.junk 14), (.junk 15), (.junk 16), (.va 2), (.junk 17), (.junk 18), (.junk 19), (.junk 20), (.junk 21), (.junk 22), (.junk 23), (.junk 24), (.junk 25), (.junk 26), (.junk 27), (.junk 28), (.junk 29), (.junk 30), (.junk 31), (.junk 32), (.junk 33), (.junk 34), (.junk 35), (.junk 36), (.junk 37), .undef], H := [(.cells [(.int .i64 (.a 0)), (.int .i64 (.a 1)), (.int .i64 (.a 2)), (.int .i64 (.a 3)), (.int .i64 (.a 4)), (.int .i64 (.a 5))] 23 false)], ni := 6, nb := 0, nv := 3, nj := 38 },
 { todo := [(.code [false, false, true, true, false, true, true, false, false, true, false, true, true, true, true]), (.inLoop [false, false, true, true, false, true, true, false, false, true, false, true, true, true, true]), (.inBlock 2), (.inBlock 1), (.inLoop [false, false, true, false, true, true, true, true]), (.inBlock 0), (.code [true, true, true, true, true])], sl := [(.junk 0), (.junk 1), (.va 0), (.ptr 0 0), .undef, .undef, (.junk 2), (.va 1), (.ptr 1 0), (.int .i64 (.a 0)), (.junk 3), (.junk 4), (.junk 5), (.junk 6), (.junk 7), (.junk 8), (.junk 9), (.junk 10), (.junk 11), (.junk 12), (.junk 13), (.junk 14), (.va 2), (.junk 15), (.junk 16), (.junk 17), (.junk 18), (.junk 19), (.junk 20), (.va 3), (.junk 21), (.junk 22), (.junk 23), (.junk 24), (.junk 25), (.junk 26), (.junk 27), (.junk 28), (.junk 29), (.junk 30), (.junk 31), (.junk 32), (.junk 33), (.junk 34), .undef], H := [(.cells [(.int .i64 (.a 1)), (.int .i64 (.a 2)), (.int .i64 (.a 3)), (.int .i64 (.a 4)), (.int .i64 (.a 5)), (.int .i64 (.a 6))] 23 false), (.cells [(.int .i64 (.a 7)), (.int .i64 (.a 8)), (.int .i64 (.a 9)), (.int .i64 (.a 10)), (.int .i64 (.a 11)), (.int .i64 (.a 12))] 23 false)], ni := 13, nb := 0, nv := 4, nj := 35 }]
theorem b6l : SysIs Try.prog 77 valuation_sum_S := b4g (c := (cg [[false, false, true, false, true, true, true, true], [false, false, true, true, false, true, true, false, false, true, false, true, true, true, true]] [] [] false true false true)) (a0l _ _ _ _ _ _ _ _ _) Try.func77 Try.call77 (by kernel_rfl) b4l valuation_sum_S 5000 rfl (by kernel_rfl) (by kernel_rfl)
def a4r : PT :=
 (.ite (.lt (.l 1000000) (.a 0))
 (.ret false (.int .i64 (.l 1000000)) [])
 (.ret false (.int .i64 (.a 0)) []))
def saleroomref13_held_S : Sx.Sys := ⟨[(.sh (.one (.int .i64)))], a4r, [], none, none⟩
def a9C : List Cfg := []
theorem b1g : SysOk Try.prog 85 saleroomref13_held_S := a0C (c := (cg [] [] [] false false false true)) (a0l _ _ _ _ _ _ _ _ _) Try.func85 Try.call85 (by kernel_rfl) a9C saleroomref13_held_S 5000 rfl (by kernel_rfl) (by kernel_rfl) rfl
def a3P : PT :=
 (.need (.and (.le (.l (-9223372036854775808)) (.a 0)) (.le (.a 0) (.l 9223372036854775807)))
 (.need (.and (.le (.l (-9223372036854775808)) (.add (.a 0) (.a 1))) (.le (.add (.a 0) (.a 1)) (.l 9223372036854775807)))
 (.need (.and (.le (.l (-9223372036854775808)) (.add (.add (.a 0) (.a 1)) (.a 2))) (.le (.add (.add (.a 0) (.a 1)) (.a 2)) (.l 9223372036854775807)))
 (.need (.and (.le (.l (-9223372036854775808)) (.add (.add (.add (.a 0) (.a 1)) (.a 2)) (.a 3))) (.le (.add (.add (.add (.a 0) (.a 1)) (.a 2)) (.a 3)) (.l 9223372036854775807)))
 (.need (.and (.le (.l (-9223372036854775808)) (.add (.add (.add (.add (.a 0) (.a 1)) (.a 2)) (.a 3)) (.a 4))) (.le (.add (.add (.add (.add (.a 0) (.a 1)) (.a 2)) (.a 3)) (.a 4)) (.l 9223372036854775807)))
 (.need (.and (.le (.l (-9223372036854775808)) (.add (.add (.add (.add (.add (.a 0) (.a 1)) (.a 2)) (.a 3)) (.a 4)) (.a 5))) (.le (.add (.add (.add (.add (.add (.a 0) (.a 1)) (.a 2)) (.a 3)) (.a 4)) (.a 5)) (.l 9223372036854775807)))
 (.ret false (.int .i64 (.add (.add (.add (.add (.add (.a 0) (.a 1)) (.a 2)) (.a 3)) (.a 4)) (.a 5))) [])))))))
def saleroomref07_Total_S : Sx.Sys := ⟨[(.sh (.agg [(.int .i64), (.int .i64), (.int .i64), (.int .i64), (.int .i64), (.int .i64)]))], a3P, [], none, none⟩
def a8q : List Cfg := []
theorem b0o : SysOk Try.prog 93 saleroomref07_Total_S := a0C (c := (cg [] [] [] false false false true)) (a0l _ _ _ _ _ _ _ _ _) Try.func93 Try.call93 (by kernel_rfl) a8q saleroomref07_Total_S 5000 rfl (by kernel_rfl) (by kernel_rfl) rfl
end Go.Proofs.Ythmkfeiapdbojaa
