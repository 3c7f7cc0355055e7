/- The trees of functions with loops over functions. Written by txgen.py. -/
import Derived.Test.YthmkfeiapdbojaaHIt
import Derived.Test.YthmkfeiapdbojaaHSaa
import Derived.Test.YthmkfeiapdbojaaHSab
import Derived.Test.YthmkfeiapdbojaaHSac
set_option linter.unusedSimpArgs false
set_option linter.unusedVariables false
set_option maxRecDepth 100000
namespace Go.Proofs.Ythmkfeiapdbojaa
open Go.Sx
def a6u : PT :=
 (.newM [.nilS] 37
    (.storeM (.pa 3 0) [(.va 1)]
    (.newM [(.int .i64 (.l 0))] 3
    (.storeM (.pa 4 0) [(.int .i64 (.l 0))]
    (.call 53 [(.agg [(.int .i64 (.a 8)), (.int .i64 (.a 9)), (.int .i64 (.a 10)), (.int .i64 (.a 11)), (.int .i64 (.a 12)), (.int .i64 (.a 13))])] [] [(.one .val)]
    (.jump 0 [(.a 0), (.a 1), (.a 2), (.a 3), (.a 4), (.a 5), (.a 6), (.a 7), (.a 8), (.a 9), (.a 10), (.a 11), (.a 12), (.a 13)] [] [(.va 3), (.va 4), (.va 5), (.va 0), (.va 2)]))))))
def b2E : PT :=
 (.call 49 [(.agg [(.int .i64 (.a 0)), (.int .i64 (.a 1)), (.int .i64 (.a 2)), (.int .i64 (.a 3)), (.int .i64 (.a 4)), (.int .i64 (.a 5)), (.int .i64 (.a 6)), (.int .i64 (.a 7)), (.va 0)]), (.agg [(.int .i64 (.a 8)), (.int .i64 (.a 9)), (.int .i64 (.a 10)), (.int .i64 (.a 11)), (.int .i64 (.a 12)), (.int .i64 (.a 13))])] [] [(.one .val)]
   (.both a6u a6u))
def a6n : PT :=
 (.call 49 [(.agg [(.int .i64 (.a 0)), (.int .i64 (.a 1)), (.int .i64 (.a 2)), (.int .i64 (.a 3)), (.int .i64 (.a 4)), (.int .i64 (.a 5)), (.int .i64 (.a 6)), (.int .i64 (.a 7)), (.va 0)]), (.agg [(.int .i64 (.a 8)), (.int .i64 (.a 9)), (.int .i64 (.a 10)), (.int .i64 (.a 11)), (.int .i64 (.a 12)), (.int .i64 (.a 13))])] [] [(.one .val)]
    (.storeM (.pa 2 0) [(.va 1)]
    (.newM [(.int .i64 (.l 0))] 3
    (.storeM (.pa 4 0) [(.int .i64 (.l 0))]
    (.call 53 [(.agg [(.int .i64 (.a 8)), (.int .i64 (.a 9)), (.int .i64 (.a 10)), (.int .i64 (.a 11)), (.int .i64 (.a 12)), (.int .i64 (.a 13))])] [] [(.one .val)]
    (.jump 0 [(.a 0), (.a 1), (.a 2), (.a 3), (.a 4), (.a 5), (.a 6), (.a 7), (.a 8), (.a 9), (.a 10), (.a 11), (.a 12), (.a 13)] [] [(.va 2), (.va 4), (.va 5), (.va 0), (.va 3)]))))))
def b2v : PT :=
 (.newM [.nilS] 37
    (.both a6n a6n))
def b2l : PT :=
 (.call 49 [(.agg [(.int .i64 (.a 0)), (.int .i64 (.a 1)), (.int .i64 (.a 2)), (.int .i64 (.a 3)), (.int .i64 (.a 4)), (.int .i64 (.a 5)), (.int .i64 (.a 6)), (.int .i64 (.a 7)), (.va 0)]), (.agg [(.int .i64 (.a 8)), (.int .i64 (.a 9)), (.int .i64 (.a 10)), (.int .i64 (.a 11)), (.int .i64 (.a 12)), (.int .i64 (.a 13))])] [] [(.one .val)]
    (.newM [.nilS] 37
    (.storeM (.pa 3 0) [(.va 1)]
    (.newM [(.int .i64 (.l 0))] 3
    (.storeM (.pa 4 0) [(.int .i64 (.l 0))]
    (.call 53 [(.agg [(.int .i64 (.a 8)), (.int .i64 (.a 9)), (.int .i64 (.a 10)), (.int .i64 (.a 11)), (.int .i64 (.a 12)), (.int .i64 (.a 13))])] [] [(.one .val)]
    (.jump 0 [(.a 0), (.a 1), (.a 2), (.a 3), (.a 4), (.a 5), (.a 6), (.a 7), (.a 8), (.a 9), (.a 10), (.a 11), (.a 12), (.a 13)] [] [(.va 3), (.va 4), (.va 5), (.va 0), (.va 2)])))))))
def b2f : PT :=
 (.newM [.nilS] 37
    (.call 49 [(.agg [(.int .i64 (.a 0)), (.int .i64 (.a 1)), (.int .i64 (.a 2)), (.int .i64 (.a 3)), (.int .i64 (.a 4)), (.int .i64 (.a 5)), (.int .i64 (.a 6)), (.int .i64 (.a 7)), (.va 0)]), (.agg [(.int .i64 (.a 8)), (.int .i64 (.a 9)), (.int .i64 (.a 10)), (.int .i64 (.a 11)), (.int .i64 (.a 12)), (.int .i64 (.a 13))])] [] [(.one .val)]
    (.storeM (.pa 2 0) [(.va 1)]
    (.newM [(.int .i64 (.l 0))] 3
    (.storeM (.pa 4 0) [(.int .i64 (.l 0))]
    (.call 53 [(.agg [(.int .i64 (.a 8)), (.int .i64 (.a 9)), (.int .i64 (.a 10)), (.int .i64 (.a 11)), (.int .i64 (.a 12)), (.int .i64 (.a 13))])] [] [(.one .val)]
    (.jump 0 [(.a 0), (.a 1), (.a 2), (.a 3), (.a 4), (.a 5), (.a 6), (.a 7), (.a 8), (.a 9), (.a 10), (.a 11), (.a 12), (.a 13)] [] [(.va 2), (.va 4), (.va 5), (.va 0), (.va 3)])))))))
def b2I : PT :=
 (.both b2l b2f)
def b2g : PT :=
 (.both b2v b2I)
def b2u : PT :=
 (.mkM (.a 16) [(.int .i64 (.l 0))] 2 1 8
   (.both b2E b2g))
def a6e : PT :=
 (.newM [.nilS] 37
    (.storeM (.pa 3 0) [(.va 2)]
    (.newM [(.int .i64 (.l 0))] 3
    (.storeM (.pa 4 0) [(.int .i64 (.l 0))]
    (.call 53 [(.agg [(.int .i64 (.a 8)), (.int .i64 (.a 9)), (.int .i64 (.a 10)), (.int .i64 (.a 11)), (.int .i64 (.a 12)), (.int .i64 (.a 13))])] [] [(.one .val)]
    (.jump 0 [(.a 0), (.a 1), (.a 2), (.a 3), (.a 4), (.a 5), (.a 6), (.a 7), (.a 8), (.a 9), (.a 10), (.a 11), (.a 12), (.a 13)] [] [(.va 3), (.va 4), (.va 5), (.va 0), (.va 1)]))))))
def b0U : PT :=
 (.mkM (.a 16) [(.int .i64 (.l 0))] 2 1 8
    (.both a6e a6e))
def a6a : PT :=
 (.mkM (.a 16) [(.int .i64 (.l 0))] 2 1 8
     (.storeM (.pa 2 0) [(.va 3)]
     (.newM [(.int .i64 (.l 0))] 3
     (.storeM (.pa 4 0) [(.int .i64 (.l 0))]
     (.call 53 [(.agg [(.int .i64 (.a 8)), (.int .i64 (.a 9)), (.int .i64 (.a 10)), (.int .i64 (.a 11)), (.int .i64 (.a 12)), (.int .i64 (.a 13))])] [] [(.one .val)]
     (.jump 0 [(.a 0), (.a 1), (.a 2), (.a 3), (.a 4), (.a 5), (.a 6), (.a 7), (.a 8), (.a 9), (.a 10), (.a 11), (.a 12), (.a 13)] [] [(.va 2), (.va 4), (.va 5), (.va 0), (.va 1)]))))))
def b1D : PT :=
 (.newM [.nilS] 37
    (.both a6a a6a))
def b1x : PT :=
 (.mkM (.a 16) [(.int .i64 (.l 0))] 2 1 8
     (.newM [.nilS] 37
     (.storeM (.pa 3 0) [(.va 2)]
     (.newM [(.int .i64 (.l 0))] 3
     (.storeM (.pa 4 0) [(.int .i64 (.l 0))]
     (.call 53 [(.agg [(.int .i64 (.a 8)), (.int .i64 (.a 9)), (.int .i64 (.a 10)), (.int .i64 (.a 11)), (.int .i64 (.a 12)), (.int .i64 (.a 13))])] [] [(.one .val)]
     (.jump 0 [(.a 0), (.a 1), (.a 2), (.a 3), (.a 4), (.a 5), (.a 6), (.a 7), (.a 8), (.a 9), (.a 10), (.a 11), (.a 12), (.a 13)] [] [(.va 3), (.va 4), (.va 5), (.va 0), (.va 1)])))))))
def b1l : PT :=
 (.newM [.nilS] 37
     (.mkM (.a 16) [(.int .i64 (.l 0))] 2 1 8
     (.storeM (.pa 2 0) [(.va 3)]
     (.newM [(.int .i64 (.l 0))] 3
     (.storeM (.pa 4 0) [(.int .i64 (.l 0))]
     (.call 53 [(.agg [(.int .i64 (.a 8)), (.int .i64 (.a 9)), (.int .i64 (.a 10)), (.int .i64 (.a 11)), (.int .i64 (.a 12)), (.int .i64 (.a 13))])] [] [(.one .val)]
     (.jump 0 [(.a 0), (.a 1), (.a 2), (.a 3), (.a 4), (.a 5), (.a 6), (.a 7), (.a 8), (.a 9), (.a 10), (.a 11), (.a 12), (.a 13)] [] [(.va 2), (.va 4), (.va 5), (.va 0), (.va 1)])))))))
def b1c : PT :=
 (.both b1x b1l)
def b1k : PT :=
 (.both b1D b1c)
def b0M : PT :=
 (.call 49 [(.agg [(.int .i64 (.a 0)), (.int .i64 (.a 1)), (.int .i64 (.a 2)), (.int .i64 (.a 3)), (.int .i64 (.a 4)), (.int .i64 (.a 5)), (.int .i64 (.a 6)), (.int .i64 (.a 7)), (.va 0)]), (.agg [(.int .i64 (.a 8)), (.int .i64 (.a 9)), (.int .i64 (.a 10)), (.int .i64 (.a 11)), (.int .i64 (.a 12)), (.int .i64 (.a 13))])] [] [(.one .val)]
   (.both b0U b1k))
def a6b : PT :=
 (.call 49 [(.agg [(.int .i64 (.a 0)), (.int .i64 (.a 1)), (.int .i64 (.a 2)), (.int .i64 (.a 3)), (.int .i64 (.a 4)), (.int .i64 (.a 5)), (.int .i64 (.a 6)), (.int .i64 (.a 7)), (.va 0)]), (.agg [(.int .i64 (.a 8)), (.int .i64 (.a 9)), (.int .i64 (.a 10)), (.int .i64 (.a 11)), (.int .i64 (.a 12)), (.int .i64 (.a 13))])] [] [(.one .val)]
     (.storeM (.pa 1 0) [(.va 2)]
     (.newM [(.int .i64 (.l 0))] 3
     (.storeM (.pa 4 0) [(.int .i64 (.l 0))]
     (.call 53 [(.agg [(.int .i64 (.a 8)), (.int .i64 (.a 9)), (.int .i64 (.a 10)), (.int .i64 (.a 11)), (.int .i64 (.a 12)), (.int .i64 (.a 13))])] [] [(.one .val)]
     (.jump 0 [(.a 0), (.a 1), (.a 2), (.a 3), (.a 4), (.a 5), (.a 6), (.a 7), (.a 8), (.a 9), (.a 10), (.a 11), (.a 12), (.a 13)] [] [(.va 1), (.va 4), (.va 5), (.va 0), (.va 3)]))))))
def b1m : PT :=
 (.mkM (.a 16) [(.int .i64 (.l 0))] 2 1 8
    (.both a6b a6b))
def a5W : PT :=
 (.mkM (.a 16) [(.int .i64 (.l 0))] 2 1 8
     (.storeM (.pa 1 0) [(.va 3)]
     (.newM [(.int .i64 (.l 0))] 3
     (.storeM (.pa 4 0) [(.int .i64 (.l 0))]
     (.call 53 [(.agg [(.int .i64 (.a 8)), (.int .i64 (.a 9)), (.int .i64 (.a 10)), (.int .i64 (.a 11)), (.int .i64 (.a 12)), (.int .i64 (.a 13))])] [] [(.one .val)]
     (.jump 0 [(.a 0), (.a 1), (.a 2), (.a 3), (.a 4), (.a 5), (.a 6), (.a 7), (.a 8), (.a 9), (.a 10), (.a 11), (.a 12), (.a 13)] [] [(.va 1), (.va 4), (.va 5), (.va 0), (.va 2)]))))))
def b1C : PT :=
 (.call 49 [(.agg [(.int .i64 (.a 0)), (.int .i64 (.a 1)), (.int .i64 (.a 2)), (.int .i64 (.a 3)), (.int .i64 (.a 4)), (.int .i64 (.a 5)), (.int .i64 (.a 6)), (.int .i64 (.a 7)), (.va 0)]), (.agg [(.int .i64 (.a 8)), (.int .i64 (.a 9)), (.int .i64 (.a 10)), (.int .i64 (.a 11)), (.int .i64 (.a 12)), (.int .i64 (.a 13))])] [] [(.one .val)]
     (.both a5W a5W))
def a5V : PT :=
 (.mkM (.a 16) [(.int .i64 (.l 0))] 2 1 8
     (.call 49 [(.agg [(.int .i64 (.a 0)), (.int .i64 (.a 1)), (.int .i64 (.a 2)), (.int .i64 (.a 3)), (.int .i64 (.a 4)), (.int .i64 (.a 5)), (.int .i64 (.a 6)), (.int .i64 (.a 7)), (.va 0)]), (.agg [(.int .i64 (.a 8)), (.int .i64 (.a 9)), (.int .i64 (.a 10)), (.int .i64 (.a 11)), (.int .i64 (.a 12)), (.int .i64 (.a 13))])] [] [(.one .val)]
     (.storeM (.pa 1 0) [(.va 2)]
     (.newM [(.int .i64 (.l 0))] 3
     (.storeM (.pa 4 0) [(.int .i64 (.l 0))]
     (.call 53 [(.agg [(.int .i64 (.a 8)), (.int .i64 (.a 9)), (.int .i64 (.a 10)), (.int .i64 (.a 11)), (.int .i64 (.a 12)), (.int .i64 (.a 13))])] [] [(.one .val)]
     (.jump 0 [(.a 0), (.a 1), (.a 2), (.a 3), (.a 4), (.a 5), (.a 6), (.a 7), (.a 8), (.a 9), (.a 10), (.a 11), (.a 12), (.a 13)] [] [(.va 1), (.va 4), (.va 5), (.va 0), (.va 3)])))))))
def a6h : PT :=
 (.call 49 [(.agg [(.int .i64 (.a 0)), (.int .i64 (.a 1)), (.int .i64 (.a 2)), (.int .i64 (.a 3)), (.int .i64 (.a 4)), (.int .i64 (.a 5)), (.int .i64 (.a 6)), (.int .i64 (.a 7)), (.va 0)]), (.agg [(.int .i64 (.a 8)), (.int .i64 (.a 9)), (.int .i64 (.a 10)), (.int .i64 (.a 11)), (.int .i64 (.a 12)), (.int .i64 (.a 13))])] [] [(.one .val)]
     (.mkM (.a 16) [(.int .i64 (.l 0))] 2 1 8
     (.storeM (.pa 1 0) [(.va 3)]
     (.newM [(.int .i64 (.l 0))] 3
     (.storeM (.pa 4 0) [(.int .i64 (.l 0))]
     (.call 53 [(.agg [(.int .i64 (.a 8)), (.int .i64 (.a 9)), (.int .i64 (.a 10)), (.int .i64 (.a 11)), (.int .i64 (.a 12)), (.int .i64 (.a 13))])] [] [(.one .val)]
     (.jump 0 [(.a 0), (.a 1), (.a 2), (.a 3), (.a 4), (.a 5), (.a 6), (.a 7), (.a 8), (.a 9), (.a 10), (.a 11), (.a 12), (.a 13)] [] [(.va 1), (.va 4), (.va 5), (.va 0), (.va 2)])))))))
def b1b : PT :=
 (.both a5V a6h)
def b1I : PT :=
 (.both b1C b1b)
def b1w : PT :=
 (.newM [.nilS] 37
    (.both b1m b1I))
def b1v : PT :=
 (.call 49 [(.agg [(.int .i64 (.a 0)), (.int .i64 (.a 1)), (.int .i64 (.a 2)), (.int .i64 (.a 3)), (.int .i64 (.a 4)), (.int .i64 (.a 5)), (.int .i64 (.a 6)), (.int .i64 (.a 7)), (.va 0)]), (.agg [(.int .i64 (.a 8)), (.int .i64 (.a 9)), (.int .i64 (.a 10)), (.int .i64 (.a 11)), (.int .i64 (.a 12)), (.int .i64 (.a 13))])] [] [(.one .val)]
     (.newM [.nilS] 37
     (.storeM (.pa 3 0) [(.va 1)]
     (.newM [(.int .i64 (.l 0))] 3
     (.storeM (.pa 4 0) [(.int .i64 (.l 0))]
     (.call 53 [(.agg [(.int .i64 (.a 8)), (.int .i64 (.a 9)), (.int .i64 (.a 10)), (.int .i64 (.a 11)), (.int .i64 (.a 12)), (.int .i64 (.a 13))])] [] [(.one .val)]
     (.jump 0 [(.a 0), (.a 1), (.a 2), (.a 3), (.a 4), (.a 5), (.a 6), (.a 7), (.a 8), (.a 9), (.a 10), (.a 11), (.a 12), (.a 13)] [] [(.va 3), (.va 4), (.va 5), (.va 0), (.va 2)])))))))
def b1t : PT :=
 (.newM [.nilS] 37
     (.call 49 [(.agg [(.int .i64 (.a 0)), (.int .i64 (.a 1)), (.int .i64 (.a 2)), (.int .i64 (.a 3)), (.int .i64 (.a 4)), (.int .i64 (.a 5)), (.int .i64 (.a 6)), (.int .i64 (.a 7)), (.va 0)]), (.agg [(.int .i64 (.a 8)), (.int .i64 (.a 9)), (.int .i64 (.a 10)), (.int .i64 (.a 11)), (.int .i64 (.a 12)), (.int .i64 (.a 13))])] [] [(.one .val)]
     (.storeM (.pa 2 0) [(.va 1)]
     (.newM [(.int .i64 (.l 0))] 3
     (.storeM (.pa 4 0) [(.int .i64 (.l 0))]
     (.call 53 [(.agg [(.int .i64 (.a 8)), (.int .i64 (.a 9)), (.int .i64 (.a 10)), (.int .i64 (.a 11)), (.int .i64 (.a 12)), (.int .i64 (.a 13))])] [] [(.one .val)]
     (.jump 0 [(.a 0), (.a 1), (.a 2), (.a 3), (.a 4), (.a 5), (.a 6), (.a 7), (.a 8), (.a 9), (.a 10), (.a 11), (.a 12), (.a 13)] [] [(.va 2), (.va 4), (.va 5), (.va 0), (.va 3)])))))))
def b1p : PT :=
 (.mkM (.a 16) [(.int .i64 (.l 0))] 2 1 8
    (.both b1v b1t))
def b0Y : PT :=
 (.mkM (.a 16) [(.int .i64 (.l 0))] 2 1 8
     (.newM [.nilS] 37
     (.storeM (.pa 3 0) [(.va 2)]
     (.newM [(.int .i64 (.l 0))] 3
     (.storeM (.pa 4 0) [(.int .i64 (.l 0))]
     (.call 53 [(.agg [(.int .i64 (.a 8)), (.int .i64 (.a 9)), (.int .i64 (.a 10)), (.int .i64 (.a 11)), (.int .i64 (.a 12)), (.int .i64 (.a 13))])] [] [(.one .val)]
     (.jump 0 [(.a 0), (.a 1), (.a 2), (.a 3), (.a 4), (.a 5), (.a 6), (.a 7), (.a 8), (.a 9), (.a 10), (.a 11), (.a 12), (.a 13)] [] [(.va 3), (.va 4), (.va 5), (.va 0), (.va 1)])))))))
def b0H : PT :=
 (.newM [.nilS] 37
     (.mkM (.a 16) [(.int .i64 (.l 0))] 2 1 8
     (.storeM (.pa 2 0) [(.va 3)]
     (.newM [(.int .i64 (.l 0))] 3
     (.storeM (.pa 4 0) [(.int .i64 (.l 0))]
     (.call 53 [(.agg [(.int .i64 (.a 8)), (.int .i64 (.a 9)), (.int .i64 (.a 10)), (.int .i64 (.a 11)), (.int .i64 (.a 12)), (.int .i64 (.a 13))])] [] [(.one .val)]
     (.jump 0 [(.a 0), (.a 1), (.a 2), (.a 3), (.a 4), (.a 5), (.a 6), (.a 7), (.a 8), (.a 9), (.a 10), (.a 11), (.a 12), (.a 13)] [] [(.va 2), (.va 4), (.va 5), (.va 0), (.va 1)])))))))
def b0Z : PT :=
 (.call 49 [(.agg [(.int .i64 (.a 0)), (.int .i64 (.a 1)), (.int .i64 (.a 2)), (.int .i64 (.a 3)), (.int .i64 (.a 4)), (.int .i64 (.a 5)), (.int .i64 (.a 6)), (.int .i64 (.a 7)), (.va 0)]), (.agg [(.int .i64 (.a 8)), (.int .i64 (.a 9)), (.int .i64 (.a 10)), (.int .i64 (.a 11)), (.int .i64 (.a 12)), (.int .i64 (.a 13))])] [] [(.one .val)]
     (.both b0Y b0H))
def b0X : PT :=
 (.newM [.nilS] 37
     (.both a5V a6h))
def b0K : PT :=
 (.both b0Z b0X)
def b0N : PT :=
 (.both b1p b0K)
def b0C : PT :=
 (.both b1w b0N)
def b1z : PT :=
 (.both b0M b0C)
def a7Q : PT :=
 (.call 42 [(.agg [(.int .i64 (.a 0)), (.int .i64 (.a 1)), (.int .i64 (.a 2)), (.int .i64 (.a 3)), (.int .i64 (.a 4)), (.int .i64 (.a 5)), (.int .i64 (.a 6)), (.int .i64 (.a 7)), (.va 0)])] [] [(.one (.int .i64))]
 (.ite (.not (.eq (.a 14) (.l 0)))
 (.ret false (.tup [.nilS, (.int .i64 (.a 14))]) [])
 (.call 48 [(.agg [(.int .i64 (.a 8)), (.int .i64 (.a 9)), (.int .i64 (.a 10)), (.int .i64 (.a 11)), (.int .i64 (.a 12)), (.int .i64 (.a 13))])] [] [(.one (.int .i64))]
 (.ite (.not (.eq (.a 15) (.l 0)))
  (.ret false (.tup [.nilS, (.int .i64 (.a 15))]) [])
  (.call 52 [(.agg [(.int .i64 (.a 8)), (.int .i64 (.a 9)), (.int .i64 (.a 10)), (.int .i64 (.a 11)), (.int .i64 (.a 12)), (.int .i64 (.a 13))])] [] [(.one (.int .i64))]
  (.ite (.eq (.a 16) (.l 0))
  (.ret false (.tup [.nilS, (.int .i64 (.l 3))]) [])
  (.both b2u b1z)))))))
def a3Y : PT :=
 (.load false (.pa 1 0) [(.int .i64)]
  (.qGet 4 [(.a 14), (.a 15), (.a 16), (.a 17), (.a 18), (.a 19)] false
  (.need (.and (.le (.l 0) (.a 20)) (.lt (.a 20) (.slen 5)))
  (.storeM (.ea 5 (.a 20) 1 0) [(.int .i64 (.a 21))]
  (.load false (.pa 1 0) [(.int .i64)]
  (.call 54 [(.agg [(.int .i64 (.a 8)), (.int .i64 (.a 9)), (.int .i64 (.a 10)), (.int .i64 (.a 11)), (.int .i64 (.a 12)), (.int .i64 (.a 13))]), (.agg [(.int .i64 (.a 14)), (.int .i64 (.a 15)), (.int .i64 (.a 16)), (.int .i64 (.a 17)), (.int .i64 (.a 18)), (.int .i64 (.a 19))]), (.int .i64 (.a 22)), (.fn 55 0 [(.pa 0 0), (.pa 1 0)])] [] []
  (.load false (.pa 1 0) [(.int .i64)]
  (.need (.and (.le (.l (-9223372036854775808)) (.add (.a 23) (.l 1))) (.le (.add (.a 23) (.l 1)) (.l 9223372036854775807)))
  (.storeM (.pa 1 0) [(.int .i64 (.add (.a 23) (.l 1)))]
  (.jump 0 [(.a 0), (.a 1), (.a 2), (.a 3), (.a 4), (.a 5), (.a 6), (.a 7), (.a 8), (.a 9), (.a 10), (.a 11), (.a 12), (.a 13)] [] [(.va 0), (.va 1), (.va 2), (.va 3), (.va 4)]))))))))))
def a4e : PT :=
 (.qGet 4 [(.a 14), (.a 15), (.a 16), (.a 17), (.a 18), (.a 19)] false
  (.load false (.pa 1 0) [(.int .i64)]
  (.need (.and (.le (.l 0) (.a 21)) (.lt (.a 21) (.slen 5)))
  (.storeM (.ea 5 (.a 21) 1 0) [(.int .i64 (.a 20))]
  (.load false (.pa 1 0) [(.int .i64)]
  (.call 54 [(.agg [(.int .i64 (.a 8)), (.int .i64 (.a 9)), (.int .i64 (.a 10)), (.int .i64 (.a 11)), (.int .i64 (.a 12)), (.int .i64 (.a 13))]), (.agg [(.int .i64 (.a 14)), (.int .i64 (.a 15)), (.int .i64 (.a 16)), (.int .i64 (.a 17)), (.int .i64 (.a 18)), (.int .i64 (.a 19))]), (.int .i64 (.a 22)), (.fn 55 0 [(.pa 0 0), (.pa 1 0)])] [] []
  (.load false (.pa 1 0) [(.int .i64)]
  (.need (.and (.le (.l (-9223372036854775808)) (.add (.a 23) (.l 1))) (.le (.add (.a 23) (.l 1)) (.l 9223372036854775807)))
  (.storeM (.pa 1 0) [(.int .i64 (.add (.a 23) (.l 1)))]
  (.jump 0 [(.a 0), (.a 1), (.a 2), (.a 3), (.a 4), (.a 5), (.a 6), (.a 7), (.a 8), (.a 9), (.a 10), (.a 11), (.a 12), (.a 13)] [] [(.va 0), (.va 1), (.va 2), (.va 3), (.va 4)]))))))))))
def a4a : PT :=
 (.load false (.pa 0 0) [.val]
 (.both a3Y a4e))
def a3P : PT :=
 (.load false (.pa 0 0) [.val]
  (.qGet 4 [(.a 14), (.a 15), (.a 16), (.a 17), (.a 18), (.a 19)] false
  (.need (.and (.le (.l 0) (.a 20)) (.lt (.a 20) (.slen 5)))
  (.storeM (.ea 5 (.a 20) 1 0) [(.int .i64 (.a 21))]
  (.load false (.pa 1 0) [(.int .i64)]
  (.call 54 [(.agg [(.int .i64 (.a 8)), (.int .i64 (.a 9)), (.int .i64 (.a 10)), (.int .i64 (.a 11)), (.int .i64 (.a 12)), (.int .i64 (.a 13))]), (.agg [(.int .i64 (.a 14)), (.int .i64 (.a 15)), (.int .i64 (.a 16)), (.int .i64 (.a 17)), (.int .i64 (.a 18)), (.int .i64 (.a 19))]), (.int .i64 (.a 22)), (.fn 55 0 [(.pa 0 0), (.pa 1 0)])] [] []
  (.load false (.pa 1 0) [(.int .i64)]
  (.need (.and (.le (.l (-9223372036854775808)) (.add (.a 23) (.l 1))) (.le (.add (.a 23) (.l 1)) (.l 9223372036854775807)))
  (.storeM (.pa 1 0) [(.int .i64 (.add (.a 23) (.l 1)))]
  (.jump 0 [(.a 0), (.a 1), (.a 2), (.a 3), (.a 4), (.a 5), (.a 6), (.a 7), (.a 8), (.a 9), (.a 10), (.a 11), (.a 12), (.a 13)] [] [(.va 0), (.va 1), (.va 2), (.va 3), (.va 4)]))))))))))
def a4c : PT :=
 (.qGet 4 [(.a 14), (.a 15), (.a 16), (.a 17), (.a 18), (.a 19)] false
  (.load false (.pa 0 0) [.val]
  (.need (.and (.le (.l 0) (.a 20)) (.lt (.a 20) (.slen 5)))
  (.storeM (.ea 5 (.a 20) 1 0) [(.int .i64 (.a 21))]
  (.load false (.pa 1 0) [(.int .i64)]
  (.call 54 [(.agg [(.int .i64 (.a 8)), (.int .i64 (.a 9)), (.int .i64 (.a 10)), (.int .i64 (.a 11)), (.int .i64 (.a 12)), (.int .i64 (.a 13))]), (.agg [(.int .i64 (.a 14)), (.int .i64 (.a 15)), (.int .i64 (.a 16)), (.int .i64 (.a 17)), (.int .i64 (.a 18)), (.int .i64 (.a 19))]), (.int .i64 (.a 22)), (.fn 55 0 [(.pa 0 0), (.pa 1 0)])] [] []
  (.load false (.pa 1 0) [(.int .i64)]
  (.need (.and (.le (.l (-9223372036854775808)) (.add (.a 23) (.l 1))) (.le (.add (.a 23) (.l 1)) (.l 9223372036854775807)))
  (.storeM (.pa 1 0) [(.int .i64 (.add (.a 23) (.l 1)))]
  (.jump 0 [(.a 0), (.a 1), (.a 2), (.a 3), (.a 4), (.a 5), (.a 6), (.a 7), (.a 8), (.a 9), (.a 10), (.a 11), (.a 12), (.a 13)] [] [(.va 0), (.va 1), (.va 2), (.va 3), (.va 4)]))))))))))
def a4g : PT :=
 (.load false (.pa 1 0) [(.int .i64)]
  (.both a3P a4c))
def a3W : PT :=
 (.qGet 4 [(.a 14), (.a 15), (.a 16), (.a 17), (.a 18), (.a 19)] false
  (.load false (.pa 0 0) [.val]
  (.load false (.pa 1 0) [(.int .i64)]
  (.need (.and (.le (.l 0) (.a 21)) (.lt (.a 21) (.slen 5)))
  (.storeM (.ea 5 (.a 21) 1 0) [(.int .i64 (.a 20))]
  (.load false (.pa 1 0) [(.int .i64)]
  (.call 54 [(.agg [(.int .i64 (.a 8)), (.int .i64 (.a 9)), (.int .i64 (.a 10)), (.int .i64 (.a 11)), (.int .i64 (.a 12)), (.int .i64 (.a 13))]), (.agg [(.int .i64 (.a 14)), (.int .i64 (.a 15)), (.int .i64 (.a 16)), (.int .i64 (.a 17)), (.int .i64 (.a 18)), (.int .i64 (.a 19))]), (.int .i64 (.a 22)), (.fn 55 0 [(.pa 0 0), (.pa 1 0)])] [] []
  (.load false (.pa 1 0) [(.int .i64)]
  (.need (.and (.le (.l (-9223372036854775808)) (.add (.a 23) (.l 1))) (.le (.add (.a 23) (.l 1)) (.l 9223372036854775807)))
  (.storeM (.pa 1 0) [(.int .i64 (.add (.a 23) (.l 1)))]
  (.jump 0 [(.a 0), (.a 1), (.a 2), (.a 3), (.a 4), (.a 5), (.a 6), (.a 7), (.a 8), (.a 9), (.a 10), (.a 11), (.a 12), (.a 13)] [] [(.va 0), (.va 1), (.va 2), (.va 3), (.va 4)])))))))))))
def a4f : PT :=
 (.both a4g a3W)
def a5c : PT :=
 (.both a4a a4f)
def a4P : PT :=
 (.load false (.pa 0 0) [.val]
 (.ret false (.tup [(.va 5), (.int .i64 (.l 0))]) []))
def valuation_Table_G : Rg := ⟨2, [(.agg [(.int .i64), (.int .i64), (.int .i64), (.int .i64), (.int .i64), (.int .i64)])], itB, a5c, a4P⟩
def a5v : Sx.Sys := ⟨[(.sh (.agg [(.int .i64), (.int .i64), (.int .i64), (.int .i64), (.int .i64), (.int .i64), (.int .i64), (.int .i64), .val])), (.sh (.agg [(.int .i64), (.int .i64), (.int .i64), (.int .i64), (.int .i64), (.int .i64)]))], a7Q, [], none, some valuation_Table_G⟩
def a7N : Cfg := { todo := [(.code [false, true, false, true, true, true, true, true, true, true]), (.inBlock 0), (.code [true, true, true, true, true, true, true, true])], sl := [(.junk 0), (.junk 1), (.junk 2), (.ptr 1 0), (.junk 3), (.junk 4), (.junk 5), (.junk 6), (.junk 7), (.pa 0 0), (.ptr 2 0), (.pa 1 0), .undef, (.junk 8), (.junk 9), (.junk 10), (.junk 11), .undef, (.junk 12), (.junk 13), (.junk 14), (.junk 15), .undef, (.junk 16), (.junk 17), (.junk 18), (.junk 19), (.junk 20), (.junk 21), (.junk 22), (.junk 23), (.junk 24), (.junk 25), (.va 2), .undef, .undef, .undef, .undef, .undef, .undef, .undef, .undef, .undef, .undef, .undef, .undef, .undef, .undef, .undef], H := [(.cells [(.int .i64 (.a 0)), (.int .i64 (.a 1)), (.int .i64 (.a 2)), (.int .i64 (.a 3)), (.int .i64 (.a 4)), (.int .i64 (.a 5)), (.int .i64 (.a 6)), (.int .i64 (.a 7)), (.va 3)] 26 false), (.cells [(.int .i64 (.a 8)), (.int .i64 (.a 9)), (.int .i64 (.a 10)), (.int .i64 (.a 11)), (.int .i64 (.a 12)), (.int .i64 (.a 13))] 23 false), (.cells [(.va 4)] 65 false)], ni := 14, nb := 0, nv := 5, nj := 26 }
theorem b2y : RgIs Try.prog 24 a5v valuation_Table_G := c7c (c := (cg [] [9, 11] [] true false false true)) (G := valuation_Table_G) (a0l _ _ _ _ _ _ _ _ _) Try.func24 Try.call24 (by kernel_rfl) 5000 rfl rfl rfl c5h a7N [false, true, false, true, true, true, true, true, true, true] (a7N.todo.drop 1) (rf2 (sub (a1C Try.f24).body [false, true, false, true, true, true, true, true, true, true])) (gop := rf1 (sub (a1C Try.f24).body [false, true, false, true, true, true, true, true, true, true])) (assign := rf3 (sub (a1C Try.f24).body [false, true, false, true, true, true, true, true, true, true])) (bodyc := rf4 (sub (a1C Try.f24).body [false, true, false, true, true, true, true, true, true, true])) (by kernel_rfl) rfl (by kernel_rfl) rfl (by kernel_rfl) (by kernel_rfl) (by kernel_rfl) (by kernel_rfl) rfl (by kernel_rfl) (by kernel_rfl) (by kernel_rfl) (by kernel_rfl)
def b1S : PT :=
 (.newM [(.va 0)] 37
 (.call 52 [(.agg [(.int .i64 (.a 0)), (.int .i64 (.a 1)), (.int .i64 (.a 2)), (.int .i64 (.a 3)), (.int .i64 (.a 4)), (.int .i64 (.a 5))])] [] [(.one (.int .i64))]
 (.ite (.eq (.a 6) (.l 0))
 (.ret false (.bool (.t false)) [])
 (.load false (.pa 1 0) [.val]
 (.need (.is 0 2)
 (.ite (.not (.eq (.slen 2) (.a 6)))
  (.ret false (.bool (.t false)) [])
  (.newM [(.int .i64 (.l 0))] 3
  (.newM [(.bool (.t false))] 4
  (.storeM (.pa 3 0) [(.int .i64 (.l 0))]
  (.storeM (.pa 4 0) [(.bool (.t true))]
  (.call 53 [(.agg [(.int .i64 (.a 0)), (.int .i64 (.a 1)), (.int .i64 (.a 2)), (.int .i64 (.a 3)), (.int .i64 (.a 4)), (.int .i64 (.a 5))])] [] [(.one .val)]
  (.jump 0 [(.a 0), (.a 1), (.a 2), (.a 3), (.a 4), (.a 5)] [] [(.va 1), (.va 3), (.va 4), (.va 5)]))))))))))))
def b1e : PT :=
 (.load false (.pa 1 0) [(.int .i64)]
 (.call 54 [(.agg [(.int .i64 (.a 0)), (.int .i64 (.a 1)), (.int .i64 (.a 2)), (.int .i64 (.a 3)), (.int .i64 (.a 4)), (.int .i64 (.a 5))]), (.agg [(.int .i64 (.a 6)), (.int .i64 (.a 7)), (.int .i64 (.a 8)), (.int .i64 (.a 9)), (.int .i64 (.a 10)), (.int .i64 (.a 11))]), (.int .i64 (.a 12)), (.fn 56 0 [(.pa 2 0), (.pa 0 0), (.pa 1 0)])] [] []
 (.load false (.pa 1 0) [(.int .i64)]
 (.need (.and (.le (.l (-9223372036854775808)) (.add (.a 13) (.l 1))) (.le (.add (.a 13) (.l 1)) (.l 9223372036854775807)))
 (.storeM (.pa 1 0) [(.int .i64 (.add (.a 13) (.l 1)))]
 (.jump 0 [(.a 0), (.a 1), (.a 2), (.a 3), (.a 4), (.a 5)] [] [(.va 0), (.va 1), (.va 2), (.va 3)]))))))
def b1H : PT :=
 (.load false (.pa 2 0) [.bool]
 (.ret false (.bool (.a 0)) []))
def valuation_Monotone_G : Rg := ⟨3, [(.agg [(.int .i64), (.int .i64), (.int .i64), (.int .i64), (.int .i64), (.int .i64)])], itB, b1e, b1H⟩
def valuation_Monotone_S : Sx.Sys := ⟨[(.sh (.one .val)), (.sh (.agg [(.int .i64), (.int .i64), (.int .i64), (.int .i64), (.int .i64), (.int .i64)]))], b1S, [], none, some valuation_Monotone_G⟩
def a6w : Cfg := { todo := [(.code [false, true, false, true, true, true, true]), (.inBlock 0), (.code [true, true, true, true, true])], sl := [(.junk 0), (.junk 1), (.pa 0 0), (.ptr 0 0), (.junk 2), (.junk 3), (.pa 1 0), (.pa 2 0), .undef, (.junk 4), (.junk 5), (.junk 6), (.junk 7), (.junk 8), (.junk 9), (.junk 10), (.junk 11), (.junk 12), (.junk 13), (.junk 14), (.va 3), .undef, .undef, .undef, .undef, .undef, .undef, .undef, .undef, .undef], H := [(.cells [(.int .i64 (.a 0)), (.int .i64 (.a 1)), (.int .i64 (.a 2)), (.int .i64 (.a 3)), (.int .i64 (.a 4)), (.int .i64 (.a 5))] 23 false)], ni := 6, nb := 0, nv := 4, nj := 15 }
theorem a9A : RgIs Try.prog 27 valuation_Monotone_S valuation_Monotone_G := c7c (c := (cg [] [2, 6, 7] [] true false false true)) (G := valuation_Monotone_G) (a0l _ _ _ _ _ _ _ _ _) Try.func27 Try.call27 (by kernel_rfl) 5000 rfl rfl rfl c5h a6w [false, true, false, true, true, true, true] (a6w.todo.drop 1) (rf2 (sub (a1C Try.f27).body [false, true, false, true, true, true, true])) (gop := rf1 (sub (a1C Try.f27).body [false, true, false, true, true, true, true])) (assign := rf3 (sub (a1C Try.f27).body [false, true, false, true, true, true, true])) (bodyc := rf4 (sub (a1C Try.f27).body [false, true, false, true, true, true, true])) (by kernel_rfl) rfl (by kernel_rfl) rfl (by kernel_rfl) (by kernel_rfl) (by kernel_rfl) (by kernel_rfl) rfl (by kernel_rfl) (by kernel_rfl) (by kernel_rfl) (by kernel_rfl)
theorem b1A : SysOk Try.prog 27 valuation_Monotone_S := a9A.ok rfl rfl
end Go.Proofs.Ythmkfeiapdbojaa
