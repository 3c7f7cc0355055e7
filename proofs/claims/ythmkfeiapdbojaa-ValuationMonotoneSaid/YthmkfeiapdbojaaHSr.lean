/- The trees of functions with loops over functions. Written by txgen.py. -/
import Derived.Test.YthmkfeiapdbojaaHIt
import Derived.Test.YthmkfeiapdbojaaHSaa
import Derived.Test.YthmkfeiapdbojaaHSab
import Derived.Test.YthmkfeiapdbojaaHSac
set_option linter.unusedSimpArgs false
set_option linter.unusedVariables false
set_option maxRecDepth 100000
namespace Go.Proofs.Ythmkfeiapdbojaa
open Go.Sx
def a5q : PT :=
 (.newM [.nilS] 37
    (.storeM (.pa 3 0) [(.va 1)]
    (.newM [(.int .i64 (.l 0))] 3
    (.storeM (.pa 4 0) [(.int .i64 (.l 0))]
    (.call 53 [(.agg [(.int .i64 (.a 8)), (.int .i64 (.a 9)), (.int .i64 (.a 10)), (.int .i64 (.a 11)), (.int .i64 (.a 12)), (.int .i64 (.a 13))])] [] [(.one .val)]
    (.jump 0 [(.a 0), (.a 1), (.a 2), (.a 3), (.a 4), (.a 5), (.a 6), (.a 7), (.a 8), (.a 9), (.a 10), (.a 11), (.a 12), (.a 13)] [] [(.va 3), (.va 4), (.va 5), (.va 0), (.va 2)]))))))
def a9X : PT :=
 (.call 49 [(.agg [(.int .i64 (.a 0)), (.int .i64 (.a 1)), (.int .i64 (.a 2)), (.int .i64 (.a 3)), (.int .i64 (.a 4)), (.int .i64 (.a 5)), (.int .i64 (.a 6)), (.int .i64 (.a 7)), (.va 0)]), (.agg [(.int .i64 (.a 8)), (.int .i64 (.a 9)), (.int .i64 (.a 10)), (.int .i64 (.a 11)), (.int .i64 (.a 12)), (.int .i64 (.a 13))])] [] [(.one .val)]
   (.both a5q a5q))
def a5g : PT :=
 (.call 49 [(.agg [(.int .i64 (.a 0)), (.int .i64 (.a 1)), (.int .i64 (.a 2)), (.int .i64 (.a 3)), (.int .i64 (.a 4)), (.int .i64 (.a 5)), (.int .i64 (.a 6)), (.int .i64 (.a 7)), (.va 0)]), (.agg [(.int .i64 (.a 8)), (.int .i64 (.a 9)), (.int .i64 (.a 10)), (.int .i64 (.a 11)), (.int .i64 (.a 12)), (.int .i64 (.a 13))])] [] [(.one .val)]
    (.storeM (.pa 2 0) [(.va 1)]
    (.newM [(.int .i64 (.l 0))] 3
    (.storeM (.pa 4 0) [(.int .i64 (.l 0))]
    (.call 53 [(.agg [(.int .i64 (.a 8)), (.int .i64 (.a 9)), (.int .i64 (.a 10)), (.int .i64 (.a 11)), (.int .i64 (.a 12)), (.int .i64 (.a 13))])] [] [(.one .val)]
    (.jump 0 [(.a 0), (.a 1), (.a 2), (.a 3), (.a 4), (.a 5), (.a 6), (.a 7), (.a 8), (.a 9), (.a 10), (.a 11), (.a 12), (.a 13)] [] [(.va 2), (.va 4), (.va 5), (.va 0), (.va 3)]))))))
def a9K : PT :=
 (.newM [.nilS] 37
    (.both a5g a5g))
def b0e : PT :=
 (.call 49 [(.agg [(.int .i64 (.a 0)), (.int .i64 (.a 1)), (.int .i64 (.a 2)), (.int .i64 (.a 3)), (.int .i64 (.a 4)), (.int .i64 (.a 5)), (.int .i64 (.a 6)), (.int .i64 (.a 7)), (.va 0)]), (.agg [(.int .i64 (.a 8)), (.int .i64 (.a 9)), (.int .i64 (.a 10)), (.int .i64 (.a 11)), (.int .i64 (.a 12)), (.int .i64 (.a 13))])] [] [(.one .val)]
    (.newM [.nilS] 37
    (.storeM (.pa 3 0) [(.va 1)]
    (.newM [(.int .i64 (.l 0))] 3
    (.storeM (.pa 4 0) [(.int .i64 (.l 0))]
    (.call 53 [(.agg [(.int .i64 (.a 8)), (.int .i64 (.a 9)), (.int .i64 (.a 10)), (.int .i64 (.a 11)), (.int .i64 (.a 12)), (.int .i64 (.a 13))])] [] [(.one .val)]
    (.jump 0 [(.a 0), (.a 1), (.a 2), (.a 3), (.a 4), (.a 5), (.a 6), (.a 7), (.a 8), (.a 9), (.a 10), (.a 11), (.a 12), (.a 13)] [] [(.va 3), (.va 4), (.va 5), (.va 0), (.va 2)])))))))
def b0d : PT :=
 (.newM [.nilS] 37
    (.call 49 [(.agg [(.int .i64 (.a 0)), (.int .i64 (.a 1)), (.int .i64 (.a 2)), (.int .i64 (.a 3)), (.int .i64 (.a 4)), (.int .i64 (.a 5)), (.int .i64 (.a 6)), (.int .i64 (.a 7)), (.va 0)]), (.agg [(.int .i64 (.a 8)), (.int .i64 (.a 9)), (.int .i64 (.a 10)), (.int .i64 (.a 11)), (.int .i64 (.a 12)), (.int .i64 (.a 13))])] [] [(.one .val)]
    (.storeM (.pa 2 0) [(.va 1)]
    (.newM [(.int .i64 (.l 0))] 3
    (.storeM (.pa 4 0) [(.int .i64 (.l 0))]
    (.call 53 [(.agg [(.int .i64 (.a 8)), (.int .i64 (.a 9)), (.int .i64 (.a 10)), (.int .i64 (.a 11)), (.int .i64 (.a 12)), (.int .i64 (.a 13))])] [] [(.one .val)]
    (.jump 0 [(.a 0), (.a 1), (.a 2), (.a 3), (.a 4), (.a 5), (.a 6), (.a 7), (.a 8), (.a 9), (.a 10), (.a 11), (.a 12), (.a 13)] [] [(.va 2), (.va 4), (.va 5), (.va 0), (.va 3)])))))))
def a9I : PT :=
 (.both b0e b0d)
def b0z : PT :=
 (.both a9K a9I)
def a9H : PT :=
 (.mkM (.a 16) [(.int .i64 (.l 0))] 2 1 8
   (.both a9X b0z))
def a4Q : PT :=
 (.newM [.nilS] 37
    (.storeM (.pa 3 0) [(.va 2)]
    (.newM [(.int .i64 (.l 0))] 3
    (.storeM (.pa 4 0) [(.int .i64 (.l 0))]
    (.call 53 [(.agg [(.int .i64 (.a 8)), (.int .i64 (.a 9)), (.int .i64 (.a 10)), (.int .i64 (.a 11)), (.int .i64 (.a 12)), (.int .i64 (.a 13))])] [] [(.one .val)]
    (.jump 0 [(.a 0), (.a 1), (.a 2), (.a 3), (.a 4), (.a 5), (.a 6), (.a 7), (.a 8), (.a 9), (.a 10), (.a 11), (.a 12), (.a 13)] [] [(.va 3), (.va 4), (.va 5), (.va 0), (.va 1)]))))))
def a8w : PT :=
 (.mkM (.a 16) [(.int .i64 (.l 0))] 2 1 8
    (.both a4Q a4Q))
def a4T : PT :=
 (.mkM (.a 16) [(.int .i64 (.l 0))] 2 1 8
     (.storeM (.pa 2 0) [(.va 3)]
     (.newM [(.int .i64 (.l 0))] 3
     (.storeM (.pa 4 0) [(.int .i64 (.l 0))]
     (.call 53 [(.agg [(.int .i64 (.a 8)), (.int .i64 (.a 9)), (.int .i64 (.a 10)), (.int .i64 (.a 11)), (.int .i64 (.a 12)), (.int .i64 (.a 13))])] [] [(.one .val)]
     (.jump 0 [(.a 0), (.a 1), (.a 2), (.a 3), (.a 4), (.a 5), (.a 6), (.a 7), (.a 8), (.a 9), (.a 10), (.a 11), (.a 12), (.a 13)] [] [(.va 2), (.va 4), (.va 5), (.va 0), (.va 1)]))))))
def a8L : PT :=
 (.newM [.nilS] 37
    (.both a4T a4T))
def a9d : PT :=
 (.mkM (.a 16) [(.int .i64 (.l 0))] 2 1 8
     (.newM [.nilS] 37
     (.storeM (.pa 3 0) [(.va 2)]
     (.newM [(.int .i64 (.l 0))] 3
     (.storeM (.pa 4 0) [(.int .i64 (.l 0))]
     (.call 53 [(.agg [(.int .i64 (.a 8)), (.int .i64 (.a 9)), (.int .i64 (.a 10)), (.int .i64 (.a 11)), (.int .i64 (.a 12)), (.int .i64 (.a 13))])] [] [(.one .val)]
     (.jump 0 [(.a 0), (.a 1), (.a 2), (.a 3), (.a 4), (.a 5), (.a 6), (.a 7), (.a 8), (.a 9), (.a 10), (.a 11), (.a 12), (.a 13)] [] [(.va 3), (.va 4), (.va 5), (.va 0), (.va 1)])))))))
def a8B : PT :=
 (.newM [.nilS] 37
     (.mkM (.a 16) [(.int .i64 (.l 0))] 2 1 8
     (.storeM (.pa 2 0) [(.va 3)]
     (.newM [(.int .i64 (.l 0))] 3
     (.storeM (.pa 4 0) [(.int .i64 (.l 0))]
     (.call 53 [(.agg [(.int .i64 (.a 8)), (.int .i64 (.a 9)), (.int .i64 (.a 10)), (.int .i64 (.a 11)), (.int .i64 (.a 12)), (.int .i64 (.a 13))])] [] [(.one .val)]
     (.jump 0 [(.a 0), (.a 1), (.a 2), (.a 3), (.a 4), (.a 5), (.a 6), (.a 7), (.a 8), (.a 9), (.a 10), (.a 11), (.a 12), (.a 13)] [] [(.va 2), (.va 4), (.va 5), (.va 0), (.va 1)])))))))
def a9B : PT :=
 (.both a9d a8B)
def a8E : PT :=
 (.both a8L a9B)
def a9v : PT :=
 (.call 49 [(.agg [(.int .i64 (.a 0)), (.int .i64 (.a 1)), (.int .i64 (.a 2)), (.int .i64 (.a 3)), (.int .i64 (.a 4)), (.int .i64 (.a 5)), (.int .i64 (.a 6)), (.int .i64 (.a 7)), (.va 0)]), (.agg [(.int .i64 (.a 8)), (.int .i64 (.a 9)), (.int .i64 (.a 10)), (.int .i64 (.a 11)), (.int .i64 (.a 12)), (.int .i64 (.a 13))])] [] [(.one .val)]
   (.both a8w a8E))
def a5a : PT :=
 (.call 49 [(.agg [(.int .i64 (.a 0)), (.int .i64 (.a 1)), (.int .i64 (.a 2)), (.int .i64 (.a 3)), (.int .i64 (.a 4)), (.int .i64 (.a 5)), (.int .i64 (.a 6)), (.int .i64 (.a 7)), (.va 0)]), (.agg [(.int .i64 (.a 8)), (.int .i64 (.a 9)), (.int .i64 (.a 10)), (.int .i64 (.a 11)), (.int .i64 (.a 12)), (.int .i64 (.a 13))])] [] [(.one .val)]
     (.storeM (.pa 1 0) [(.va 2)]
     (.newM [(.int .i64 (.l 0))] 3
     (.storeM (.pa 4 0) [(.int .i64 (.l 0))]
     (.call 53 [(.agg [(.int .i64 (.a 8)), (.int .i64 (.a 9)), (.int .i64 (.a 10)), (.int .i64 (.a 11)), (.int .i64 (.a 12)), (.int .i64 (.a 13))])] [] [(.one .val)]
     (.jump 0 [(.a 0), (.a 1), (.a 2), (.a 3), (.a 4), (.a 5), (.a 6), (.a 7), (.a 8), (.a 9), (.a 10), (.a 11), (.a 12), (.a 13)] [] [(.va 1), (.va 4), (.va 5), (.va 0), (.va 3)]))))))
def a9u : PT :=
 (.mkM (.a 16) [(.int .i64 (.l 0))] 2 1 8
    (.both a5a a5a))
def a4P : PT :=
 (.mkM (.a 16) [(.int .i64 (.l 0))] 2 1 8
     (.storeM (.pa 1 0) [(.va 3)]
     (.newM [(.int .i64 (.l 0))] 3
     (.storeM (.pa 4 0) [(.int .i64 (.l 0))]
     (.call 53 [(.agg [(.int .i64 (.a 8)), (.int .i64 (.a 9)), (.int .i64 (.a 10)), (.int .i64 (.a 11)), (.int .i64 (.a 12)), (.int .i64 (.a 13))])] [] [(.one .val)]
     (.jump 0 [(.a 0), (.a 1), (.a 2), (.a 3), (.a 4), (.a 5), (.a 6), (.a 7), (.a 8), (.a 9), (.a 10), (.a 11), (.a 12), (.a 13)] [] [(.va 1), (.va 4), (.va 5), (.va 0), (.va 2)]))))))
def a8C : PT :=
 (.call 49 [(.agg [(.int .i64 (.a 0)), (.int .i64 (.a 1)), (.int .i64 (.a 2)), (.int .i64 (.a 3)), (.int .i64 (.a 4)), (.int .i64 (.a 5)), (.int .i64 (.a 6)), (.int .i64 (.a 7)), (.va 0)]), (.agg [(.int .i64 (.a 8)), (.int .i64 (.a 9)), (.int .i64 (.a 10)), (.int .i64 (.a 11)), (.int .i64 (.a 12)), (.int .i64 (.a 13))])] [] [(.one .val)]
     (.both a4P a4P))
def a4O : PT :=
 (.mkM (.a 16) [(.int .i64 (.l 0))] 2 1 8
     (.call 49 [(.agg [(.int .i64 (.a 0)), (.int .i64 (.a 1)), (.int .i64 (.a 2)), (.int .i64 (.a 3)), (.int .i64 (.a 4)), (.int .i64 (.a 5)), (.int .i64 (.a 6)), (.int .i64 (.a 7)), (.va 0)]), (.agg [(.int .i64 (.a 8)), (.int .i64 (.a 9)), (.int .i64 (.a 10)), (.int .i64 (.a 11)), (.int .i64 (.a 12)), (.int .i64 (.a 13))])] [] [(.one .val)]
     (.storeM (.pa 1 0) [(.va 2)]
     (.newM [(.int .i64 (.l 0))] 3
     (.storeM (.pa 4 0) [(.int .i64 (.l 0))]
     (.call 53 [(.agg [(.int .i64 (.a 8)), (.int .i64 (.a 9)), (.int .i64 (.a 10)), (.int .i64 (.a 11)), (.int .i64 (.a 12)), (.int .i64 (.a 13))])] [] [(.one .val)]
     (.jump 0 [(.a 0), (.a 1), (.a 2), (.a 3), (.a 4), (.a 5), (.a 6), (.a 7), (.a 8), (.a 9), (.a 10), (.a 11), (.a 12), (.a 13)] [] [(.va 1), (.va 4), (.va 5), (.va 0), (.va 3)])))))))
def a4X : PT :=
 (.call 49 [(.agg [(.int .i64 (.a 0)), (.int .i64 (.a 1)), (.int .i64 (.a 2)), (.int .i64 (.a 3)), (.int .i64 (.a 4)), (.int .i64 (.a 5)), (.int .i64 (.a 6)), (.int .i64 (.a 7)), (.va 0)]), (.agg [(.int .i64 (.a 8)), (.int .i64 (.a 9)), (.int .i64 (.a 10)), (.int .i64 (.a 11)), (.int .i64 (.a 12)), (.int .i64 (.a 13))])] [] [(.one .val)]
     (.mkM (.a 16) [(.int .i64 (.l 0))] 2 1 8
     (.storeM (.pa 1 0) [(.va 3)]
     (.newM [(.int .i64 (.l 0))] 3
     (.storeM (.pa 4 0) [(.int .i64 (.l 0))]
     (.call 53 [(.agg [(.int .i64 (.a 8)), (.int .i64 (.a 9)), (.int .i64 (.a 10)), (.int .i64 (.a 11)), (.int .i64 (.a 12)), (.int .i64 (.a 13))])] [] [(.one .val)]
     (.jump 0 [(.a 0), (.a 1), (.a 2), (.a 3), (.a 4), (.a 5), (.a 6), (.a 7), (.a 8), (.a 9), (.a 10), (.a 11), (.a 12), (.a 13)] [] [(.va 1), (.va 4), (.va 5), (.va 0), (.va 2)])))))))
def a9o : PT :=
 (.both a4O a4X)
def a9p : PT :=
 (.both a8C a9o)
def a8H : PT :=
 (.newM [.nilS] 37
    (.both a9u a9p))
def a9j : PT :=
 (.call 49 [(.agg [(.int .i64 (.a 0)), (.int .i64 (.a 1)), (.int .i64 (.a 2)), (.int .i64 (.a 3)), (.int .i64 (.a 4)), (.int .i64 (.a 5)), (.int .i64 (.a 6)), (.int .i64 (.a 7)), (.va 0)]), (.agg [(.int .i64 (.a 8)), (.int .i64 (.a 9)), (.int .i64 (.a 10)), (.int .i64 (.a 11)), (.int .i64 (.a 12)), (.int .i64 (.a 13))])] [] [(.one .val)]
     (.newM [.nilS] 37
     (.storeM (.pa 3 0) [(.va 1)]
     (.newM [(.int .i64 (.l 0))] 3
     (.storeM (.pa 4 0) [(.int .i64 (.l 0))]
     (.call 53 [(.agg [(.int .i64 (.a 8)), (.int .i64 (.a 9)), (.int .i64 (.a 10)), (.int .i64 (.a 11)), (.int .i64 (.a 12)), (.int .i64 (.a 13))])] [] [(.one .val)]
     (.jump 0 [(.a 0), (.a 1), (.a 2), (.a 3), (.a 4), (.a 5), (.a 6), (.a 7), (.a 8), (.a 9), (.a 10), (.a 11), (.a 12), (.a 13)] [] [(.va 3), (.va 4), (.va 5), (.va 0), (.va 2)])))))))
def a9m : PT :=
 (.newM [.nilS] 37
     (.call 49 [(.agg [(.int .i64 (.a 0)), (.int .i64 (.a 1)), (.int .i64 (.a 2)), (.int .i64 (.a 3)), (.int .i64 (.a 4)), (.int .i64 (.a 5)), (.int .i64 (.a 6)), (.int .i64 (.a 7)), (.va 0)]), (.agg [(.int .i64 (.a 8)), (.int .i64 (.a 9)), (.int .i64 (.a 10)), (.int .i64 (.a 11)), (.int .i64 (.a 12)), (.int .i64 (.a 13))])] [] [(.one .val)]
     (.storeM (.pa 2 0) [(.va 1)]
     (.newM [(.int .i64 (.l 0))] 3
     (.storeM (.pa 4 0) [(.int .i64 (.l 0))]
     (.call 53 [(.agg [(.int .i64 (.a 8)), (.int .i64 (.a 9)), (.int .i64 (.a 10)), (.int .i64 (.a 11)), (.int .i64 (.a 12)), (.int .i64 (.a 13))])] [] [(.one .val)]
     (.jump 0 [(.a 0), (.a 1), (.a 2), (.a 3), (.a 4), (.a 5), (.a 6), (.a 7), (.a 8), (.a 9), (.a 10), (.a 11), (.a 12), (.a 13)] [] [(.va 2), (.va 4), (.va 5), (.va 0), (.va 3)])))))))
def a8P : PT :=
 (.mkM (.a 16) [(.int .i64 (.l 0))] 2 1 8
    (.both a9j a9m))
def a9x : PT :=
 (.mkM (.a 16) [(.int .i64 (.l 0))] 2 1 8
     (.newM [.nilS] 37
     (.storeM (.pa 3 0) [(.va 2)]
     (.newM [(.int .i64 (.l 0))] 3
     (.storeM (.pa 4 0) [(.int .i64 (.l 0))]
     (.call 53 [(.agg [(.int .i64 (.a 8)), (.int .i64 (.a 9)), (.int .i64 (.a 10)), (.int .i64 (.a 11)), (.int .i64 (.a 12)), (.int .i64 (.a 13))])] [] [(.one .val)]
     (.jump 0 [(.a 0), (.a 1), (.a 2), (.a 3), (.a 4), (.a 5), (.a 6), (.a 7), (.a 8), (.a 9), (.a 10), (.a 11), (.a 12), (.a 13)] [] [(.va 3), (.va 4), (.va 5), (.va 0), (.va 1)])))))))
def a9C : PT :=
 (.newM [.nilS] 37
     (.mkM (.a 16) [(.int .i64 (.l 0))] 2 1 8
     (.storeM (.pa 2 0) [(.va 3)]
     (.newM [(.int .i64 (.l 0))] 3
     (.storeM (.pa 4 0) [(.int .i64 (.l 0))]
     (.call 53 [(.agg [(.int .i64 (.a 8)), (.int .i64 (.a 9)), (.int .i64 (.a 10)), (.int .i64 (.a 11)), (.int .i64 (.a 12)), (.int .i64 (.a 13))])] [] [(.one .val)]
     (.jump 0 [(.a 0), (.a 1), (.a 2), (.a 3), (.a 4), (.a 5), (.a 6), (.a 7), (.a 8), (.a 9), (.a 10), (.a 11), (.a 12), (.a 13)] [] [(.va 2), (.va 4), (.va 5), (.va 0), (.va 1)])))))))
def a8Z : PT :=
 (.call 49 [(.agg [(.int .i64 (.a 0)), (.int .i64 (.a 1)), (.int .i64 (.a 2)), (.int .i64 (.a 3)), (.int .i64 (.a 4)), (.int .i64 (.a 5)), (.int .i64 (.a 6)), (.int .i64 (.a 7)), (.va 0)]), (.agg [(.int .i64 (.a 8)), (.int .i64 (.a 9)), (.int .i64 (.a 10)), (.int .i64 (.a 11)), (.int .i64 (.a 12)), (.int .i64 (.a 13))])] [] [(.one .val)]
     (.both a9x a9C))
def a8W : PT :=
 (.newM [.nilS] 37
     (.both a4O a4X))
def a8R : PT :=
 (.both a8Z a8W)
def a8M : PT :=
 (.both a8P a8R)
def a9b : PT :=
 (.both a8H a8M)
def a9y : PT :=
 (.both a9v a9b)
def a6s : PT :=
 (.call 42 [(.agg [(.int .i64 (.a 0)), (.int .i64 (.a 1)), (.int .i64 (.a 2)), (.int .i64 (.a 3)), (.int .i64 (.a 4)), (.int .i64 (.a 5)), (.int .i64 (.a 6)), (.int .i64 (.a 7)), (.va 0)])] [] [(.one (.int .i64))]
 (.ite (.not (.eq (.a 14) (.l 0)))
 (.ret false (.tup [.nilS, (.int .i64 (.a 14))]) [])
 (.call 48 [(.agg [(.int .i64 (.a 8)), (.int .i64 (.a 9)), (.int .i64 (.a 10)), (.int .i64 (.a 11)), (.int .i64 (.a 12)), (.int .i64 (.a 13))])] [] [(.one (.int .i64))]
 (.ite (.not (.eq (.a 15) (.l 0)))
  (.ret false (.tup [.nilS, (.int .i64 (.a 15))]) [])
  (.call 52 [(.agg [(.int .i64 (.a 8)), (.int .i64 (.a 9)), (.int .i64 (.a 10)), (.int .i64 (.a 11)), (.int .i64 (.a 12)), (.int .i64 (.a 13))])] [] [(.one (.int .i64))]
  (.ite (.eq (.a 16) (.l 0))
  (.ret false (.tup [.nilS, (.int .i64 (.l 3))]) [])
  (.both a9H a9y)))))))
def a3j : PT :=
 (.load false (.pa 1 0) [(.int .i64)]
  (.qGet 4 [(.a 14), (.a 15), (.a 16), (.a 17), (.a 18), (.a 19)] false
  (.need (.and (.le (.l 0) (.a 20)) (.lt (.a 20) (.slen 5)))
  (.storeM (.ea 5 (.a 20) 1 0) [(.int .i64 (.a 21))]
  (.load false (.pa 1 0) [(.int .i64)]
  (.call 54 [(.agg [(.int .i64 (.a 8)), (.int .i64 (.a 9)), (.int .i64 (.a 10)), (.int .i64 (.a 11)), (.int .i64 (.a 12)), (.int .i64 (.a 13))]), (.agg [(.int .i64 (.a 14)), (.int .i64 (.a 15)), (.int .i64 (.a 16)), (.int .i64 (.a 17)), (.int .i64 (.a 18)), (.int .i64 (.a 19))]), (.int .i64 (.a 22)), (.fn 55 0 [(.pa 0 0), (.pa 1 0)])] [] []
  (.load false (.pa 1 0) [(.int .i64)]
  (.need (.and (.le (.l (-9223372036854775808)) (.add (.a 23) (.l 1))) (.le (.add (.a 23) (.l 1)) (.l 9223372036854775807)))
  (.storeM (.pa 1 0) [(.int .i64 (.add (.a 23) (.l 1)))]
  (.jump 0 [(.a 0), (.a 1), (.a 2), (.a 3), (.a 4), (.a 5), (.a 6), (.a 7), (.a 8), (.a 9), (.a 10), (.a 11), (.a 12), (.a 13)] [] [(.va 0), (.va 1), (.va 2), (.va 3), (.va 4)]))))))))))
def a3h : PT :=
 (.qGet 4 [(.a 14), (.a 15), (.a 16), (.a 17), (.a 18), (.a 19)] false
  (.load false (.pa 1 0) [(.int .i64)]
  (.need (.and (.le (.l 0) (.a 21)) (.lt (.a 21) (.slen 5)))
  (.storeM (.ea 5 (.a 21) 1 0) [(.int .i64 (.a 20))]
  (.load false (.pa 1 0) [(.int .i64)]
  (.call 54 [(.agg [(.int .i64 (.a 8)), (.int .i64 (.a 9)), (.int .i64 (.a 10)), (.int .i64 (.a 11)), (.int .i64 (.a 12)), (.int .i64 (.a 13))]), (.agg [(.int .i64 (.a 14)), (.int .i64 (.a 15)), (.int .i64 (.a 16)), (.int .i64 (.a 17)), (.int .i64 (.a 18)), (.int .i64 (.a 19))]), (.int .i64 (.a 22)), (.fn 55 0 [(.pa 0 0), (.pa 1 0)])] [] []
  (.load false (.pa 1 0) [(.int .i64)]
  (.need (.and (.le (.l (-9223372036854775808)) (.add (.a 23) (.l 1))) (.le (.add (.a 23) (.l 1)) (.l 9223372036854775807)))
  (.storeM (.pa 1 0) [(.int .i64 (.add (.a 23) (.l 1)))]
  (.jump 0 [(.a 0), (.a 1), (.a 2), (.a 3), (.a 4), (.a 5), (.a 6), (.a 7), (.a 8), (.a 9), (.a 10), (.a 11), (.a 12), (.a 13)] [] [(.va 0), (.va 1), (.va 2), (.va 3), (.va 4)]))))))))))
def a3d : PT :=
 (.load false (.pa 0 0) [.val]
 (.both a3j a3h))
def a3a : PT :=
 (.load false (.pa 0 0) [.val]
  (.qGet 4 [(.a 14), (.a 15), (.a 16), (.a 17), (.a 18), (.a 19)] false
  (.need (.and (.le (.l 0) (.a 20)) (.lt (.a 20) (.slen 5)))
  (.storeM (.ea 5 (.a 20) 1 0) [(.int .i64 (.a 21))]
  (.load false (.pa 1 0) [(.int .i64)]
  (.call 54 [(.agg [(.int .i64 (.a 8)), (.int .i64 (.a 9)), (.int .i64 (.a 10)), (.int .i64 (.a 11)), (.int .i64 (.a 12)), (.int .i64 (.a 13))]), (.agg [(.int .i64 (.a 14)), (.int .i64 (.a 15)), (.int .i64 (.a 16)), (.int .i64 (.a 17)), (.int .i64 (.a 18)), (.int .i64 (.a 19))]), (.int .i64 (.a 22)), (.fn 55 0 [(.pa 0 0), (.pa 1 0)])] [] []
  (.load false (.pa 1 0) [(.int .i64)]
  (.need (.and (.le (.l (-9223372036854775808)) (.add (.a 23) (.l 1))) (.le (.add (.a 23) (.l 1)) (.l 9223372036854775807)))
  (.storeM (.pa 1 0) [(.int .i64 (.add (.a 23) (.l 1)))]
  (.jump 0 [(.a 0), (.a 1), (.a 2), (.a 3), (.a 4), (.a 5), (.a 6), (.a 7), (.a 8), (.a 9), (.a 10), (.a 11), (.a 12), (.a 13)] [] [(.va 0), (.va 1), (.va 2), (.va 3), (.va 4)]))))))))))
def a3i : PT :=
 (.qGet 4 [(.a 14), (.a 15), (.a 16), (.a 17), (.a 18), (.a 19)] false
  (.load false (.pa 0 0) [.val]
  (.need (.and (.le (.l 0) (.a 20)) (.lt (.a 20) (.slen 5)))
  (.storeM (.ea 5 (.a 20) 1 0) [(.int .i64 (.a 21))]
  (.load false (.pa 1 0) [(.int .i64)]
  (.call 54 [(.agg [(.int .i64 (.a 8)), (.int .i64 (.a 9)), (.int .i64 (.a 10)), (.int .i64 (.a 11)), (.int .i64 (.a 12)), (.int .i64 (.a 13))]), (.agg [(.int .i64 (.a 14)), (.int .i64 (.a 15)), (.int .i64 (.a 16)), (.int .i64 (.a 17)), (.int .i64 (.a 18)), (.int .i64 (.a 19))]), (.int .i64 (.a 22)), (.fn 55 0 [(.pa 0 0), (.pa 1 0)])] [] []
  (.load false (.pa 1 0) [(.int .i64)]
  (.need (.and (.le (.l (-9223372036854775808)) (.add (.a 23) (.l 1))) (.le (.add (.a 23) (.l 1)) (.l 9223372036854775807)))
  (.storeM (.pa 1 0) [(.int .i64 (.add (.a 23) (.l 1)))]
  (.jump 0 [(.a 0), (.a 1), (.a 2), (.a 3), (.a 4), (.a 5), (.a 6), (.a 7), (.a 8), (.a 9), (.a 10), (.a 11), (.a 12), (.a 13)] [] [(.va 0), (.va 1), (.va 2), (.va 3), (.va 4)]))))))))))
def a3g : PT :=
 (.load false (.pa 1 0) [(.int .i64)]
  (.both a3a a3i))
def a2Y : PT :=
 (.qGet 4 [(.a 14), (.a 15), (.a 16), (.a 17), (.a 18), (.a 19)] false
  (.load false (.pa 0 0) [.val]
  (.load false (.pa 1 0) [(.int .i64)]
  (.need (.and (.le (.l 0) (.a 21)) (.lt (.a 21) (.slen 5)))
  (.storeM (.ea 5 (.a 21) 1 0) [(.int .i64 (.a 20))]
  (.load false (.pa 1 0) [(.int .i64)]
  (.call 54 [(.agg [(.int .i64 (.a 8)), (.int .i64 (.a 9)), (.int .i64 (.a 10)), (.int .i64 (.a 11)), (.int .i64 (.a 12)), (.int .i64 (.a 13))]), (.agg [(.int .i64 (.a 14)), (.int .i64 (.a 15)), (.int .i64 (.a 16)), (.int .i64 (.a 17)), (.int .i64 (.a 18)), (.int .i64 (.a 19))]), (.int .i64 (.a 22)), (.fn 55 0 [(.pa 0 0), (.pa 1 0)])] [] []
  (.load false (.pa 1 0) [(.int .i64)]
  (.need (.and (.le (.l (-9223372036854775808)) (.add (.a 23) (.l 1))) (.le (.add (.a 23) (.l 1)) (.l 9223372036854775807)))
  (.storeM (.pa 1 0) [(.int .i64 (.add (.a 23) (.l 1)))]
  (.jump 0 [(.a 0), (.a 1), (.a 2), (.a 3), (.a 4), (.a 5), (.a 6), (.a 7), (.a 8), (.a 9), (.a 10), (.a 11), (.a 12), (.a 13)] [] [(.va 0), (.va 1), (.va 2), (.va 3), (.va 4)])))))))))))
def a3b : PT :=
 (.both a3g a2Y)
def a3V : PT :=
 (.both a3d a3b)
def a3T : PT :=
 (.load false (.pa 0 0) [.val]
 (.ret false (.tup [(.va 5), (.int .i64 (.l 0))]) []))
def valuation_Table_G : Rg := ⟨2, [(.agg [(.int .i64), (.int .i64), (.int .i64), (.int .i64), (.int .i64), (.int .i64)])], itB, a3V, a3T⟩
def a4p : Sx.Sys := ⟨[(.sh (.agg [(.int .i64), (.int .i64), (.int .i64), (.int .i64), (.int .i64), (.int .i64), (.int .i64), (.int .i64), .val])), (.sh (.agg [(.int .i64), (.int .i64), (.int .i64), (.int .i64), (.int .i64), (.int .i64)]))], a6s, [], none, some valuation_Table_G⟩
def a6u : Cfg := { todo := [(.code [false, true, false, true, true, true, true, true, true, true]), (.inBlock 0), (.code [true, true, true, true, true, true, true, true])], sl := [(.junk 0), (.junk 1), (.junk 2), (.ptr 1 0), (.junk 3), (.junk 4), (.junk 5), (.junk 6), (.junk 7), (.pa 0 0), (.ptr 2 0), (.pa 1 0), .undef, (.junk 8), (.junk 9), (.junk 10), (.junk 11), .undef, (.junk 12), (.junk 13), (.junk 14), (.junk 15), .undef, (.junk 16), (.junk 17), (.junk 18), (.junk 19), (.junk 20), (.junk 21), (.junk 22), (.junk 23), (.junk 24), (.junk 25), (.va 2), .undef, .undef, .undef, .undef, .undef, .undef, .undef, .undef, .undef, .undef, .undef, .undef, .undef, .undef, .undef], H := [(.cells [(.int .i64 (.a 0)), (.int .i64 (.a 1)), (.int .i64 (.a 2)), (.int .i64 (.a 3)), (.int .i64 (.a 4)), (.int .i64 (.a 5)), (.int .i64 (.a 6)), (.int .i64 (.a 7)), (.va 3)] 26 false), (.cells [(.int .i64 (.a 8)), (.int .i64 (.a 9)), (.int .i64 (.a 10)), (.int .i64 (.a 11)), (.int .i64 (.a 12)), (.int .i64 (.a 13))] 23 false), (.cells [(.va 4)] 65 false)], ni := 14, nb := 0, nv := 5, nj := 26 }
theorem b0p : RgIs Try.prog 24 a4p valuation_Table_G := c3P (c := (cg [] [9, 11] [] true false false true)) (G := valuation_Table_G) (a0w _ _ _ _ _ _ _ _ _) Try.func24 Try.call24 (by kernel_rfl) 5000 rfl rfl rfl c1v a6u [false, true, false, true, true, true, true, true, true, true] (a6u.todo.drop 1) (rf2 (sub (a1a Try.f24).body [false, true, false, true, true, true, true, true, true, true])) (gop := rf1 (sub (a1a Try.f24).body [false, true, false, true, true, true, true, true, true, true])) (assign := rf3 (sub (a1a Try.f24).body [false, true, false, true, true, true, true, true, true, true])) (bodyc := rf4 (sub (a1a Try.f24).body [false, true, false, true, true, true, true, true, true, true])) (by kernel_rfl) rfl (by kernel_rfl) rfl (by kernel_rfl) (by kernel_rfl) (by kernel_rfl) (by kernel_rfl) rfl (by kernel_rfl) (by kernel_rfl) (by kernel_rfl) (by kernel_rfl)
def b0a : PT :=
 (.newM [(.va 0)] 37
 (.call 52 [(.agg [(.int .i64 (.a 0)), (.int .i64 (.a 1)), (.int .i64 (.a 2)), (.int .i64 (.a 3)), (.int .i64 (.a 4)), (.int .i64 (.a 5))])] [] [(.one (.int .i64))]
 (.ite (.eq (.a 6) (.l 0))
 (.ret false (.bool (.t false)) [])
 (.load false (.pa 1 0) [.val]
 (.need (.is 0 2)
 (.ite (.not (.eq (.slen 2) (.a 6)))
  (.ret false (.bool (.t false)) [])
  (.newM [(.int .i64 (.l 0))] 3
  (.newM [(.bool (.t false))] 4
  (.storeM (.pa 3 0) [(.int .i64 (.l 0))]
  (.storeM (.pa 4 0) [(.bool (.t true))]
  (.call 53 [(.agg [(.int .i64 (.a 0)), (.int .i64 (.a 1)), (.int .i64 (.a 2)), (.int .i64 (.a 3)), (.int .i64 (.a 4)), (.int .i64 (.a 5))])] [] [(.one .val)]
  (.jump 0 [(.a 0), (.a 1), (.a 2), (.a 3), (.a 4), (.a 5)] [] [(.va 1), (.va 3), (.va 4), (.va 5)]))))))))))))
def a9r : PT :=
 (.load false (.pa 1 0) [(.int .i64)]
 (.call 54 [(.agg [(.int .i64 (.a 0)), (.int .i64 (.a 1)), (.int .i64 (.a 2)), (.int .i64 (.a 3)), (.int .i64 (.a 4)), (.int .i64 (.a 5))]), (.agg [(.int .i64 (.a 6)), (.int .i64 (.a 7)), (.int .i64 (.a 8)), (.int .i64 (.a 9)), (.int .i64 (.a 10)), (.int .i64 (.a 11))]), (.int .i64 (.a 12)), (.fn 56 0 [(.pa 2 0), (.pa 0 0), (.pa 1 0)])] [] []
 (.load false (.pa 1 0) [(.int .i64)]
 (.need (.and (.le (.l (-9223372036854775808)) (.add (.a 13) (.l 1))) (.le (.add (.a 13) (.l 1)) (.l 9223372036854775807)))
 (.storeM (.pa 1 0) [(.int .i64 (.add (.a 13) (.l 1)))]
 (.jump 0 [(.a 0), (.a 1), (.a 2), (.a 3), (.a 4), (.a 5)] [] [(.va 0), (.va 1), (.va 2), (.va 3)]))))))
def a9q : PT :=
 (.load false (.pa 2 0) [.bool]
 (.ret false (.bool (.a 0)) []))
def valuation_Monotone_G : Rg := ⟨3, [(.agg [(.int .i64), (.int .i64), (.int .i64), (.int .i64), (.int .i64), (.int .i64)])], itB, a9r, a9q⟩
def valuation_Monotone_S : Sx.Sys := ⟨[(.sh (.one .val)), (.sh (.agg [(.int .i64), (.int .i64), (.int .i64), (.int .i64), (.int .i64), (.int .i64)]))], b0a, [], none, some valuation_Monotone_G⟩
def a5r : Cfg := { todo := [(.code [false, true, false, true, true, true, true]), (.inBlock 0), (.code [true, true, true, true, true])], sl := [(.junk 0), (.junk 1), (.pa 0 0), (.ptr 0 0), (.junk 2), (.junk 3), (.pa 1 0), (.pa 2 0), .undef, (.junk 4), (.junk 5), (.junk 6), (.junk 7), (.junk 8), (.junk 9), (.junk 10), (.junk 11), (.junk 12), (.junk 13), (.junk 14), (.va 3), .undef, .undef, .undef, .undef, .undef, .undef, .undef, .undef, .undef], H := [(.cells [(.int .i64 (.a 0)), (.int .i64 (.a 1)), (.int .i64 (.a 2)), (.int .i64 (.a 3)), (.int .i64 (.a 4)), (.int .i64 (.a 5))] 23 false)], ni := 6, nb := 0, nv := 4, nj := 15 }
theorem a7D : RgIs Try.prog 27 valuation_Monotone_S valuation_Monotone_G := c3P (c := (cg [] [2, 6, 7] [] true false false true)) (G := valuation_Monotone_G) (a0w _ _ _ _ _ _ _ _ _) Try.func27 Try.call27 (by kernel_rfl) 5000 rfl rfl rfl c1v a5r [false, true, false, true, true, true, true] (a5r.todo.drop 1) (rf2 (sub (a1a Try.f27).body [false, true, false, true, true, true, true])) (gop := rf1 (sub (a1a Try.f27).body [false, true, false, true, true, true, true])) (assign := rf3 (sub (a1a Try.f27).body [false, true, false, true, true, true, true])) (bodyc := rf4 (sub (a1a Try.f27).body [false, true, false, true, true, true, true])) (by kernel_rfl) rfl (by kernel_rfl) rfl (by kernel_rfl) (by kernel_rfl) (by kernel_rfl) (by kernel_rfl) rfl (by kernel_rfl) (by kernel_rfl) (by kernel_rfl) (by kernel_rfl)
theorem a8N : SysOk Try.prog 27 valuation_Monotone_S := a7D.ok rfl rfl
end Go.Proofs.Ythmkfeiapdbojaa
