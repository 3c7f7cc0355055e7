/- The trees of functions with loops over functions. Written by txgen.py. -/
import Derived.Test.YthmkfeiapdbojaaHIt
import Derived.Test.YthmkfeiapdbojaaHSaa
import Derived.Test.YthmkfeiapdbojaaHSab
import Derived.Test.YthmkfeiapdbojaaHSac
set_option linter.unusedSimpArgs false
set_option linter.unusedVariables false
set_option maxRecDepth 100000
namespace Go.Proofs.Ythmkfeiapdbojaa
open Go.Sx
def a6w : PT :=
 (.newM [.nilS] 37
    (.storeM (.pa 3 0) [(.va 1)]
    (.newM [(.int .i64 (.l 0))] 3
    (.storeM (.pa 4 0) [(.int .i64 (.l 0))]
    (.call 53 [(.agg [(.int .i64 (.a 8)), (.int .i64 (.a 9)), (.int .i64 (.a 10)), (.int .i64 (.a 11)), (.int .i64 (.a 12)), (.int .i64 (.a 13))])] [] [(.one .val)]
    (.jump 0 [(.a 0), (.a 1), (.a 2), (.a 3), (.a 4), (.a 5), (.a 6), (.a 7), (.a 8), (.a 9), (.a 10), (.a 11), (.a 12), (.a 13)] [] [(.va 3), (.va 4), (.va 5), (.va 0), (.va 2)]))))))
def b2b : PT :=
 (.call 49 [(.agg [(.int .i64 (.a 0)), (.int .i64 (.a 1)), (.int .i64 (.a 2)), (.int .i64 (.a 3)), (.int .i64 (.a 4)), (.int .i64 (.a 5)), (.int .i64 (.a 6)), (.int .i64 (.a 7)), (.va 0)]), (.agg [(.int .i64 (.a 8)), (.int .i64 (.a 9)), (.int .i64 (.a 10)), (.int .i64 (.a 11)), (.int .i64 (.a 12)), (.int .i64 (.a 13))])] [] [(.one .val)]
   (.both a6w a6w))
def a6u : PT :=
 (.call 49 [(.agg [(.int .i64 (.a 0)), (.int .i64 (.a 1)), (.int .i64 (.a 2)), (.int .i64 (.a 3)), (.int .i64 (.a 4)), (.int .i64 (.a 5)), (.int .i64 (.a 6)), (.int .i64 (.a 7)), (.va 0)]), (.agg [(.int .i64 (.a 8)), (.int .i64 (.a 9)), (.int .i64 (.a 10)), (.int .i64 (.a 11)), (.int .i64 (.a 12)), (.int .i64 (.a 13))])] [] [(.one .val)]
    (.storeM (.pa 2 0) [(.va 1)]
    (.newM [(.int .i64 (.l 0))] 3
    (.storeM (.pa 4 0) [(.int .i64 (.l 0))]
    (.call 53 [(.agg [(.int .i64 (.a 8)), (.int .i64 (.a 9)), (.int .i64 (.a 10)), (.int .i64 (.a 11)), (.int .i64 (.a 12)), (.int .i64 (.a 13))])] [] [(.one .val)]
    (.jump 0 [(.a 0), (.a 1), (.a 2), (.a 3), (.a 4), (.a 5), (.a 6), (.a 7), (.a 8), (.a 9), (.a 10), (.a 11), (.a 12), (.a 13)] [] [(.va 2), (.va 4), (.va 5), (.va 0), (.va 3)]))))))
def b2e : PT :=
 (.newM [.nilS] 37
    (.both a6u a6u))
def b2o : PT :=
 (.call 49 [(.agg [(.int .i64 (.a 0)), (.int .i64 (.a 1)), (.int .i64 (.a 2)), (.int .i64 (.a 3)), (.int .i64 (.a 4)), (.int .i64 (.a 5)), (.int .i64 (.a 6)), (.int .i64 (.a 7)), (.va 0)]), (.agg [(.int .i64 (.a 8)), (.int .i64 (.a 9)), (.int .i64 (.a 10)), (.int .i64 (.a 11)), (.int .i64 (.a 12)), (.int .i64 (.a 13))])] [] [(.one .val)]
    (.newM [.nilS] 37
    (.storeM (.pa 3 0) [(.va 1)]
    (.newM [(.int .i64 (.l 0))] 3
    (.storeM (.pa 4 0) [(.int .i64 (.l 0))]
    (.call 53 [(.agg [(.int .i64 (.a 8)), (.int .i64 (.a 9)), (.int .i64 (.a 10)), (.int .i64 (.a 11)), (.int .i64 (.a 12)), (.int .i64 (.a 13))])] [] [(.one .val)]
    (.jump 0 [(.a 0), (.a 1), (.a 2), (.a 3), (.a 4), (.a 5), (.a 6), (.a 7), (.a 8), (.a 9), (.a 10), (.a 11), (.a 12), (.a 13)] [] [(.va 3), (.va 4), (.va 5), (.va 0), (.va 2)])))))))
def b2W : PT :=
 (.newM [.nilS] 37
    (.call 49 [(.agg [(.int .i64 (.a 0)), (.int .i64 (.a 1)), (.int .i64 (.a 2)), (.int .i64 (.a 3)), (.int .i64 (.a 4)), (.int .i64 (.a 5)), (.int .i64 (.a 6)), (.int .i64 (.a 7)), (.va 0)]), (.agg [(.int .i64 (.a 8)), (.int .i64 (.a 9)), (.int .i64 (.a 10)), (.int .i64 (.a 11)), (.int .i64 (.a 12)), (.int .i64 (.a 13))])] [] [(.one .val)]
    (.storeM (.pa 2 0) [(.va 1)]
    (.newM [(.int .i64 (.l 0))] 3
    (.storeM (.pa 4 0) [(.int .i64 (.l 0))]
    (.call 53 [(.agg [(.int .i64 (.a 8)), (.int .i64 (.a 9)), (.int .i64 (.a 10)), (.int .i64 (.a 11)), (.int .i64 (.a 12)), (.int .i64 (.a 13))])] [] [(.one .val)]
    (.jump 0 [(.a 0), (.a 1), (.a 2), (.a 3), (.a 4), (.a 5), (.a 6), (.a 7), (.a 8), (.a 9), (.a 10), (.a 11), (.a 12), (.a 13)] [] [(.va 2), (.va 4), (.va 5), (.va 0), (.va 3)])))))))
def b1U : PT :=
 (.both b2o b2W)
def b2m : PT :=
 (.both b2e b1U)
def b2v : PT :=
 (.mkM (.a 16) [(.int .i64 (.l 0))] 2 1 8
   (.both b2b b2m))
def a6c : PT :=
 (.newM [.nilS] 37
    (.storeM (.pa 3 0) [(.va 2)]
    (.newM [(.int .i64 (.l 0))] 3
    (.storeM (.pa 4 0) [(.int .i64 (.l 0))]
    (.call 53 [(.agg [(.int .i64 (.a 8)), (.int .i64 (.a 9)), (.int .i64 (.a 10)), (.int .i64 (.a 11)), (.int .i64 (.a 12)), (.int .i64 (.a 13))])] [] [(.one .val)]
    (.jump 0 [(.a 0), (.a 1), (.a 2), (.a 3), (.a 4), (.a 5), (.a 6), (.a 7), (.a 8), (.a 9), (.a 10), (.a 11), (.a 12), (.a 13)] [] [(.va 3), (.va 4), (.va 5), (.va 0), (.va 1)]))))))
def b1w : PT :=
 (.mkM (.a 16) [(.int .i64 (.l 0))] 2 1 8
    (.both a6c a6c))
def a6l : PT :=
 (.mkM (.a 16) [(.int .i64 (.l 0))] 2 1 8
     (.storeM (.pa 2 0) [(.va 3)]
     (.newM [(.int .i64 (.l 0))] 3
     (.storeM (.pa 4 0) [(.int .i64 (.l 0))]
     (.call 53 [(.agg [(.int .i64 (.a 8)), (.int .i64 (.a 9)), (.int .i64 (.a 10)), (.int .i64 (.a 11)), (.int .i64 (.a 12)), (.int .i64 (.a 13))])] [] [(.one .val)]
     (.jump 0 [(.a 0), (.a 1), (.a 2), (.a 3), (.a 4), (.a 5), (.a 6), (.a 7), (.a 8), (.a 9), (.a 10), (.a 11), (.a 12), (.a 13)] [] [(.va 2), (.va 4), (.va 5), (.va 0), (.va 1)]))))))
def b1H : PT :=
 (.newM [.nilS] 37
    (.both a6l a6l))
def b1i : PT :=
 (.mkM (.a 16) [(.int .i64 (.l 0))] 2 1 8
     (.newM [.nilS] 37
     (.storeM (.pa 3 0) [(.va 2)]
     (.newM [(.int .i64 (.l 0))] 3
     (.storeM (.pa 4 0) [(.int .i64 (.l 0))]
     (.call 53 [(.agg [(.int .i64 (.a 8)), (.int .i64 (.a 9)), (.int .i64 (.a 10)), (.int .i64 (.a 11)), (.int .i64 (.a 12)), (.int .i64 (.a 13))])] [] [(.one .val)]
     (.jump 0 [(.a 0), (.a 1), (.a 2), (.a 3), (.a 4), (.a 5), (.a 6), (.a 7), (.a 8), (.a 9), (.a 10), (.a 11), (.a 12), (.a 13)] [] [(.va 3), (.va 4), (.va 5), (.va 0), (.va 1)])))))))
def b1x : PT :=
 (.newM [.nilS] 37
     (.mkM (.a 16) [(.int .i64 (.l 0))] 2 1 8
     (.storeM (.pa 2 0) [(.va 3)]
     (.newM [(.int .i64 (.l 0))] 3
     (.storeM (.pa 4 0) [(.int .i64 (.l 0))]
     (.call 53 [(.agg [(.int .i64 (.a 8)), (.int .i64 (.a 9)), (.int .i64 (.a 10)), (.int .i64 (.a 11)), (.int .i64 (.a 12)), (.int .i64 (.a 13))])] [] [(.one .val)]
     (.jump 0 [(.a 0), (.a 1), (.a 2), (.a 3), (.a 4), (.a 5), (.a 6), (.a 7), (.a 8), (.a 9), (.a 10), (.a 11), (.a 12), (.a 13)] [] [(.va 2), (.va 4), (.va 5), (.va 0), (.va 1)])))))))
def b0D : PT :=
 (.both b1i b1x)
def b0P : PT :=
 (.both b1H b0D)
def b0y : PT :=
 (.call 49 [(.agg [(.int .i64 (.a 0)), (.int .i64 (.a 1)), (.int .i64 (.a 2)), (.int .i64 (.a 3)), (.int .i64 (.a 4)), (.int .i64 (.a 5)), (.int .i64 (.a 6)), (.int .i64 (.a 7)), (.va 0)]), (.agg [(.int .i64 (.a 8)), (.int .i64 (.a 9)), (.int .i64 (.a 10)), (.int .i64 (.a 11)), (.int .i64 (.a 12)), (.int .i64 (.a 13))])] [] [(.one .val)]
   (.both b1w b0P))
def a5Y : PT :=
 (.call 49 [(.agg [(.int .i64 (.a 0)), (.int .i64 (.a 1)), (.int .i64 (.a 2)), (.int .i64 (.a 3)), (.int .i64 (.a 4)), (.int .i64 (.a 5)), (.int .i64 (.a 6)), (.int .i64 (.a 7)), (.va 0)]), (.agg [(.int .i64 (.a 8)), (.int .i64 (.a 9)), (.int .i64 (.a 10)), (.int .i64 (.a 11)), (.int .i64 (.a 12)), (.int .i64 (.a 13))])] [] [(.one .val)]
     (.storeM (.pa 1 0) [(.va 2)]
     (.newM [(.int .i64 (.l 0))] 3
     (.storeM (.pa 4 0) [(.int .i64 (.l 0))]
     (.call 53 [(.agg [(.int .i64 (.a 8)), (.int .i64 (.a 9)), (.int .i64 (.a 10)), (.int .i64 (.a 11)), (.int .i64 (.a 12)), (.int .i64 (.a 13))])] [] [(.one .val)]
     (.jump 0 [(.a 0), (.a 1), (.a 2), (.a 3), (.a 4), (.a 5), (.a 6), (.a 7), (.a 8), (.a 9), (.a 10), (.a 11), (.a 12), (.a 13)] [] [(.va 1), (.va 4), (.va 5), (.va 0), (.va 3)]))))))
def b0A : PT :=
 (.mkM (.a 16) [(.int .i64 (.l 0))] 2 1 8
    (.both a5Y a5Y))
def a6b : PT :=
 (.mkM (.a 16) [(.int .i64 (.l 0))] 2 1 8
     (.storeM (.pa 1 0) [(.va 3)]
     (.newM [(.int .i64 (.l 0))] 3
     (.storeM (.pa 4 0) [(.int .i64 (.l 0))]
     (.call 53 [(.agg [(.int .i64 (.a 8)), (.int .i64 (.a 9)), (.int .i64 (.a 10)), (.int .i64 (.a 11)), (.int .i64 (.a 12)), (.int .i64 (.a 13))])] [] [(.one .val)]
     (.jump 0 [(.a 0), (.a 1), (.a 2), (.a 3), (.a 4), (.a 5), (.a 6), (.a 7), (.a 8), (.a 9), (.a 10), (.a 11), (.a 12), (.a 13)] [] [(.va 1), (.va 4), (.va 5), (.va 0), (.va 2)]))))))
def b0T : PT :=
 (.call 49 [(.agg [(.int .i64 (.a 0)), (.int .i64 (.a 1)), (.int .i64 (.a 2)), (.int .i64 (.a 3)), (.int .i64 (.a 4)), (.int .i64 (.a 5)), (.int .i64 (.a 6)), (.int .i64 (.a 7)), (.va 0)]), (.agg [(.int .i64 (.a 8)), (.int .i64 (.a 9)), (.int .i64 (.a 10)), (.int .i64 (.a 11)), (.int .i64 (.a 12)), (.int .i64 (.a 13))])] [] [(.one .val)]
     (.both a6b a6b))
def a6f : PT :=
 (.mkM (.a 16) [(.int .i64 (.l 0))] 2 1 8
     (.call 49 [(.agg [(.int .i64 (.a 0)), (.int .i64 (.a 1)), (.int .i64 (.a 2)), (.int .i64 (.a 3)), (.int .i64 (.a 4)), (.int .i64 (.a 5)), (.int .i64 (.a 6)), (.int .i64 (.a 7)), (.va 0)]), (.agg [(.int .i64 (.a 8)), (.int .i64 (.a 9)), (.int .i64 (.a 10)), (.int .i64 (.a 11)), (.int .i64 (.a 12)), (.int .i64 (.a 13))])] [] [(.one .val)]
     (.storeM (.pa 1 0) [(.va 2)]
     (.newM [(.int .i64 (.l 0))] 3
     (.storeM (.pa 4 0) [(.int .i64 (.l 0))]
     (.call 53 [(.agg [(.int .i64 (.a 8)), (.int .i64 (.a 9)), (.int .i64 (.a 10)), (.int .i64 (.a 11)), (.int .i64 (.a 12)), (.int .i64 (.a 13))])] [] [(.one .val)]
     (.jump 0 [(.a 0), (.a 1), (.a 2), (.a 3), (.a 4), (.a 5), (.a 6), (.a 7), (.a 8), (.a 9), (.a 10), (.a 11), (.a 12), (.a 13)] [] [(.va 1), (.va 4), (.va 5), (.va 0), (.va 3)])))))))
def a6j : PT :=
 (.call 49 [(.agg [(.int .i64 (.a 0)), (.int .i64 (.a 1)), (.int .i64 (.a 2)), (.int .i64 (.a 3)), (.int .i64 (.a 4)), (.int .i64 (.a 5)), (.int .i64 (.a 6)), (.int .i64 (.a 7)), (.va 0)]), (.agg [(.int .i64 (.a 8)), (.int .i64 (.a 9)), (.int .i64 (.a 10)), (.int .i64 (.a 11)), (.int .i64 (.a 12)), (.int .i64 (.a 13))])] [] [(.one .val)]
     (.mkM (.a 16) [(.int .i64 (.l 0))] 2 1 8
     (.storeM (.pa 1 0) [(.va 3)]
     (.newM [(.int .i64 (.l 0))] 3
     (.storeM (.pa 4 0) [(.int .i64 (.l 0))]
     (.call 53 [(.agg [(.int .i64 (.a 8)), (.int .i64 (.a 9)), (.int .i64 (.a 10)), (.int .i64 (.a 11)), (.int .i64 (.a 12)), (.int .i64 (.a 13))])] [] [(.one .val)]
     (.jump 0 [(.a 0), (.a 1), (.a 2), (.a 3), (.a 4), (.a 5), (.a 6), (.a 7), (.a 8), (.a 9), (.a 10), (.a 11), (.a 12), (.a 13)] [] [(.va 1), (.va 4), (.va 5), (.va 0), (.va 2)])))))))
def b1v : PT :=
 (.both a6f a6j)
def b0N : PT :=
 (.both b0T b1v)
def b1h : PT :=
 (.newM [.nilS] 37
    (.both b0A b0N))
def b1e : PT :=
 (.call 49 [(.agg [(.int .i64 (.a 0)), (.int .i64 (.a 1)), (.int .i64 (.a 2)), (.int .i64 (.a 3)), (.int .i64 (.a 4)), (.int .i64 (.a 5)), (.int .i64 (.a 6)), (.int .i64 (.a 7)), (.va 0)]), (.agg [(.int .i64 (.a 8)), (.int .i64 (.a 9)), (.int .i64 (.a 10)), (.int .i64 (.a 11)), (.int .i64 (.a 12)), (.int .i64 (.a 13))])] [] [(.one .val)]
     (.newM [.nilS] 37
     (.storeM (.pa 3 0) [(.va 1)]
     (.newM [(.int .i64 (.l 0))] 3
     (.storeM (.pa 4 0) [(.int .i64 (.l 0))]
     (.call 53 [(.agg [(.int .i64 (.a 8)), (.int .i64 (.a 9)), (.int .i64 (.a 10)), (.int .i64 (.a 11)), (.int .i64 (.a 12)), (.int .i64 (.a 13))])] [] [(.one .val)]
     (.jump 0 [(.a 0), (.a 1), (.a 2), (.a 3), (.a 4), (.a 5), (.a 6), (.a 7), (.a 8), (.a 9), (.a 10), (.a 11), (.a 12), (.a 13)] [] [(.va 3), (.va 4), (.va 5), (.va 0), (.va 2)])))))))
def b0z : PT :=
 (.newM [.nilS] 37
     (.call 49 [(.agg [(.int .i64 (.a 0)), (.int .i64 (.a 1)), (.int .i64 (.a 2)), (.int .i64 (.a 3)), (.int .i64 (.a 4)), (.int .i64 (.a 5)), (.int .i64 (.a 6)), (.int .i64 (.a 7)), (.va 0)]), (.agg [(.int .i64 (.a 8)), (.int .i64 (.a 9)), (.int .i64 (.a 10)), (.int .i64 (.a 11)), (.int .i64 (.a 12)), (.int .i64 (.a 13))])] [] [(.one .val)]
     (.storeM (.pa 2 0) [(.va 1)]
     (.newM [(.int .i64 (.l 0))] 3
     (.storeM (.pa 4 0) [(.int .i64 (.l 0))]
     (.call 53 [(.agg [(.int .i64 (.a 8)), (.int .i64 (.a 9)), (.int .i64 (.a 10)), (.int .i64 (.a 11)), (.int .i64 (.a 12)), (.int .i64 (.a 13))])] [] [(.one .val)]
     (.jump 0 [(.a 0), (.a 1), (.a 2), (.a 3), (.a 4), (.a 5), (.a 6), (.a 7), (.a 8), (.a 9), (.a 10), (.a 11), (.a 12), (.a 13)] [] [(.va 2), (.va 4), (.va 5), (.va 0), (.va 3)])))))))
def b1m : PT :=
 (.mkM (.a 16) [(.int .i64 (.l 0))] 2 1 8
    (.both b1e b0z))
def b1I : PT :=
 (.mkM (.a 16) [(.int .i64 (.l 0))] 2 1 8
     (.newM [.nilS] 37
     (.storeM (.pa 3 0) [(.va 2)]
     (.newM [(.int .i64 (.l 0))] 3
     (.storeM (.pa 4 0) [(.int .i64 (.l 0))]
     (.call 53 [(.agg [(.int .i64 (.a 8)), (.int .i64 (.a 9)), (.int .i64 (.a 10)), (.int .i64 (.a 11)), (.int .i64 (.a 12)), (.int .i64 (.a 13))])] [] [(.one .val)]
     (.jump 0 [(.a 0), (.a 1), (.a 2), (.a 3), (.a 4), (.a 5), (.a 6), (.a 7), (.a 8), (.a 9), (.a 10), (.a 11), (.a 12), (.a 13)] [] [(.va 3), (.va 4), (.va 5), (.va 0), (.va 1)])))))))
def b0S : PT :=
 (.newM [.nilS] 37
     (.mkM (.a 16) [(.int .i64 (.l 0))] 2 1 8
     (.storeM (.pa 2 0) [(.va 3)]
     (.newM [(.int .i64 (.l 0))] 3
     (.storeM (.pa 4 0) [(.int .i64 (.l 0))]
     (.call 53 [(.agg [(.int .i64 (.a 8)), (.int .i64 (.a 9)), (.int .i64 (.a 10)), (.int .i64 (.a 11)), (.int .i64 (.a 12)), (.int .i64 (.a 13))])] [] [(.one .val)]
     (.jump 0 [(.a 0), (.a 1), (.a 2), (.a 3), (.a 4), (.a 5), (.a 6), (.a 7), (.a 8), (.a 9), (.a 10), (.a 11), (.a 12), (.a 13)] [] [(.va 2), (.va 4), (.va 5), (.va 0), (.va 1)])))))))
def b1a : PT :=
 (.call 49 [(.agg [(.int .i64 (.a 0)), (.int .i64 (.a 1)), (.int .i64 (.a 2)), (.int .i64 (.a 3)), (.int .i64 (.a 4)), (.int .i64 (.a 5)), (.int .i64 (.a 6)), (.int .i64 (.a 7)), (.va 0)]), (.agg [(.int .i64 (.a 8)), (.int .i64 (.a 9)), (.int .i64 (.a 10)), (.int .i64 (.a 11)), (.int .i64 (.a 12)), (.int .i64 (.a 13))])] [] [(.one .val)]
     (.both b1I b0S))
def b1F : PT :=
 (.newM [.nilS] 37
     (.both a6f a6j))
def b1j : PT :=
 (.both b1a b1F)
def b1D : PT :=
 (.both b1m b1j)
def b1z : PT :=
 (.both b1h b1D)
def b0I : PT :=
 (.both b0y b1z)
def a7N : PT :=
 (.call 42 [(.agg [(.int .i64 (.a 0)), (.int .i64 (.a 1)), (.int .i64 (.a 2)), (.int .i64 (.a 3)), (.int .i64 (.a 4)), (.int .i64 (.a 5)), (.int .i64 (.a 6)), (.int .i64 (.a 7)), (.va 0)])] [] [(.one (.int .i64))]
 (.ite (.not (.eq (.a 14) (.l 0)))
 (.ret false (.tup [.nilS, (.int .i64 (.a 14))]) [])
 (.call 48 [(.agg [(.int .i64 (.a 8)), (.int .i64 (.a 9)), (.int .i64 (.a 10)), (.int .i64 (.a 11)), (.int .i64 (.a 12)), (.int .i64 (.a 13))])] [] [(.one (.int .i64))]
 (.ite (.not (.eq (.a 15) (.l 0)))
  (.ret false (.tup [.nilS, (.int .i64 (.a 15))]) [])
  (.call 52 [(.agg [(.int .i64 (.a 8)), (.int .i64 (.a 9)), (.int .i64 (.a 10)), (.int .i64 (.a 11)), (.int .i64 (.a 12)), (.int .i64 (.a 13))])] [] [(.one (.int .i64))]
  (.ite (.eq (.a 16) (.l 0))
  (.ret false (.tup [.nilS, (.int .i64 (.l 3))]) [])
  (.both b2v b0I)))))))
def a3R : PT :=
 (.load false (.pa 1 0) [(.int .i64)]
  (.qGet 4 [(.a 14), (.a 15), (.a 16), (.a 17), (.a 18), (.a 19)] false
  (.need (.and (.le (.l 0) (.a 20)) (.lt (.a 20) (.slen 5)))
  (.storeM (.ea 5 (.a 20) 1 0) [(.int .i64 (.a 21))]
  (.load false (.pa 1 0) [(.int .i64)]
  (.call 54 [(.agg [(.int .i64 (.a 8)), (.int .i64 (.a 9)), (.int .i64 (.a 10)), (.int .i64 (.a 11)), (.int .i64 (.a 12)), (.int .i64 (.a 13))]), (.agg [(.int .i64 (.a 14)), (.int .i64 (.a 15)), (.int .i64 (.a 16)), (.int .i64 (.a 17)), (.int .i64 (.a 18)), (.int .i64 (.a 19))]), (.int .i64 (.a 22)), (.fn 55 0 [(.pa 0 0), (.pa 1 0)])] [] []
  (.load false (.pa 1 0) [(.int .i64)]
  (.need (.and (.le (.l (-9223372036854775808)) (.add (.a 23) (.l 1))) (.le (.add (.a 23) (.l 1)) (.l 9223372036854775807)))
  (.storeM (.pa 1 0) [(.int .i64 (.add (.a 23) (.l 1)))]
  (.jump 0 [(.a 0), (.a 1), (.a 2), (.a 3), (.a 4), (.a 5), (.a 6), (.a 7), (.a 8), (.a 9), (.a 10), (.a 11), (.a 12), (.a 13)] [] [(.va 0), (.va 1), (.va 2), (.va 3), (.va 4)]))))))))))
def a4a : PT :=
 (.qGet 4 [(.a 14), (.a 15), (.a 16), (.a 17), (.a 18), (.a 19)] false
  (.load false (.pa 1 0) [(.int .i64)]
  (.need (.and (.le (.l 0) (.a 21)) (.lt (.a 21) (.slen 5)))
  (.storeM (.ea 5 (.a 21) 1 0) [(.int .i64 (.a 20))]
  (.load false (.pa 1 0) [(.int .i64)]
  (.call 54 [(.agg [(.int .i64 (.a 8)), (.int .i64 (.a 9)), (.int .i64 (.a 10)), (.int .i64 (.a 11)), (.int .i64 (.a 12)), (.int .i64 (.a 13))]), (.agg [(.int .i64 (.a 14)), (.int .i64 (.a 15)), (.int .i64 (.a 16)), (.int .i64 (.a 17)), (.int .i64 (.a 18)), (.int .i64 (.a 19))]), (.int .i64 (.a 22)), (.fn 55 0 [(.pa 0 0), (.pa 1 0)])] [] []
  (.load false (.pa 1 0) [(.int .i64)]
  (.need (.and (.le (.l (-9223372036854775808)) (.add (.a 23) (.l 1))) (.le (.add (.a 23) (.l 1)) (.l 9223372036854775807)))
  (.storeM (.pa 1 0) [(.int .i64 (.add (.a 23) (.l 1)))]
  (.jump 0 [(.a 0), (.a 1), (.a 2), (.a 3), (.a 4), (.a 5), (.a 6), (.a 7), (.a 8), (.a 9), (.a 10), (.a 11), (.a 12), (.a 13)] [] [(.va 0), (.va 1), (.va 2), (.va 3), (.va 4)]))))))))))
def a3X : PT :=
 (.load false (.pa 0 0) [.val]
 (.both a3R a4a))
def a3T : PT :=
 (.load false (.pa 0 0) [.val]
  (.qGet 4 [(.a 14), (.a 15), (.a 16), (.a 17), (.a 18), (.a 19)] false
  (.need (.and (.le (.l 0) (.a 20)) (.lt (.a 20) (.slen 5)))
  (.storeM (.ea 5 (.a 20) 1 0) [(.int .i64 (.a 21))]
  (.load false (.pa 1 0) [(.int .i64)]
  (.call 54 [(.agg [(.int .i64 (.a 8)), (.int .i64 (.a 9)), (.int .i64 (.a 10)), (.int .i64 (.a 11)), (.int .i64 (.a 12)), (.int .i64 (.a 13))]), (.agg [(.int .i64 (.a 14)), (.int .i64 (.a 15)), (.int .i64 (.a 16)), (.int .i64 (.a 17)), (.int .i64 (.a 18)), (.int .i64 (.a 19))]), (.int .i64 (.a 22)), (.fn 55 0 [(.pa 0 0), (.pa 1 0)])] [] []
  (.load false (.pa 1 0) [(.int .i64)]
  (.need (.and (.le (.l (-9223372036854775808)) (.add (.a 23) (.l 1))) (.le (.add (.a 23) (.l 1)) (.l 9223372036854775807)))
  (.storeM (.pa 1 0) [(.int .i64 (.add (.a 23) (.l 1)))]
  (.jump 0 [(.a 0), (.a 1), (.a 2), (.a 3), (.a 4), (.a 5), (.a 6), (.a 7), (.a 8), (.a 9), (.a 10), (.a 11), (.a 12), (.a 13)] [] [(.va 0), (.va 1), (.va 2), (.va 3), (.va 4)]))))))))))
def a3V : PT :=
 (.qGet 4 [(.a 14), (.a 15), (.a 16), (.a 17), (.a 18), (.a 19)] false
  (.load false (.pa 0 0) [.val]
  (.need (.and (.le (.l 0) (.a 20)) (.lt (.a 20) (.slen 5)))
  (.storeM (.ea 5 (.a 20) 1 0) [(.int .i64 (.a 21))]
  (.load false (.pa 1 0) [(.int .i64)]
  (.call 54 [(.agg [(.int .i64 (.a 8)), (.int .i64 (.a 9)), (.int .i64 (.a 10)), (.int .i64 (.a 11)), (.int .i64 (.a 12)), (.int .i64 (.a 13))]), (.agg [(.int .i64 (.a 14)), (.int .i64 (.a 15)), (.int .i64 (.a 16)), (.int .i64 (.a 17)), (.int .i64 (.a 18)), (.int .i64 (.a 19))]), (.int .i64 (.a 22)), (.fn 55 0 [(.pa 0 0), (.pa 1 0)])] [] []
  (.load false (.pa 1 0) [(.int .i64)]
  (.need (.and (.le (.l (-9223372036854775808)) (.add (.a 23) (.l 1))) (.le (.add (.a 23) (.l 1)) (.l 9223372036854775807)))
  (.storeM (.pa 1 0) [(.int .i64 (.add (.a 23) (.l 1)))]
  (.jump 0 [(.a 0), (.a 1), (.a 2), (.a 3), (.a 4), (.a 5), (.a 6), (.a 7), (.a 8), (.a 9), (.a 10), (.a 11), (.a 12), (.a 13)] [] [(.va 0), (.va 1), (.va 2), (.va 3), (.va 4)]))))))))))
def a3Z : PT :=
 (.load false (.pa 1 0) [(.int .i64)]
  (.both a3T a3V))
def a3U : PT :=
 (.qGet 4 [(.a 14), (.a 15), (.a 16), (.a 17), (.a 18), (.a 19)] false
  (.load false (.pa 0 0) [.val]
  (.load false (.pa 1 0) [(.int .i64)]
  (.need (.and (.le (.l 0) (.a 21)) (.lt (.a 21) (.slen 5)))
  (.storeM (.ea 5 (.a 21) 1 0) [(.int .i64 (.a 20))]
  (.load false (.pa 1 0) [(.int .i64)]
  (.call 54 [(.agg [(.int .i64 (.a 8)), (.int .i64 (.a 9)), (.int .i64 (.a 10)), (.int .i64 (.a 11)), (.int .i64 (.a 12)), (.int .i64 (.a 13))]), (.agg [(.int .i64 (.a 14)), (.int .i64 (.a 15)), (.int .i64 (.a 16)), (.int .i64 (.a 17)), (.int .i64 (.a 18)), (.int .i64 (.a 19))]), (.int .i64 (.a 22)), (.fn 55 0 [(.pa 0 0), (.pa 1 0)])] [] []
  (.load false (.pa 1 0) [(.int .i64)]
  (.need (.and (.le (.l (-9223372036854775808)) (.add (.a 23) (.l 1))) (.le (.add (.a 23) (.l 1)) (.l 9223372036854775807)))
  (.storeM (.pa 1 0) [(.int .i64 (.add (.a 23) (.l 1)))]
  (.jump 0 [(.a 0), (.a 1), (.a 2), (.a 3), (.a 4), (.a 5), (.a 6), (.a 7), (.a 8), (.a 9), (.a 10), (.a 11), (.a 12), (.a 13)] [] [(.va 0), (.va 1), (.va 2), (.va 3), (.va 4)])))))))))))
def a4b : PT :=
 (.both a3Z a3U)
def a4V : PT :=
 (.both a3X a4b)
def a4U : PT :=
 (.load false (.pa 0 0) [.val]
 (.ret false (.tup [(.va 5), (.int .i64 (.l 0))]) []))
def valuation_Table_G : Rg := ⟨2, [(.agg [(.int .i64), (.int .i64), (.int .i64), (.int .i64), (.int .i64), (.int .i64)])], itB, a4V, a4U⟩
def a5s : Sx.Sys := ⟨[(.sh (.agg [(.int .i64), (.int .i64), (.int .i64), (.int .i64), (.int .i64), (.int .i64), (.int .i64), (.int .i64), .val])), (.sh (.agg [(.int .i64), (.int .i64), (.int .i64), (.int .i64), (.int .i64), (.int .i64)]))], a7N, [], none, some valuation_Table_G⟩
def a7O : Cfg := { todo := [(.code [false, true, false, true, true, true, true, true, true, true]), (.inBlock 0), (.code [true, true, true, true, true, true, true, true])], sl := [(.junk 0), (.junk 1), (.junk 2), (.ptr 1 0), (.junk 3), (.junk 4), (.junk 5), (.junk 6), (.junk 7), (.pa 0 0), (.ptr 2 0), (.pa 1 0), .undef, (.junk 8), (.junk 9), (.junk 10), (.junk 11), .undef, (.junk 12), (.junk 13), (.junk 14), (.junk 15), .undef, (.junk 16), (.junk 17), (.junk 18), (.junk 19), (.junk 20), (.junk 21), (.junk 22), (.junk 23), (.junk 24), (.junk 25), (.va 2), .undef, .undef, .undef, .undef, .undef, .undef, .undef, .undef, .undef, .undef, .undef, .undef, .undef, .undef, .undef], H := [(.cells [(.int .i64 (.a 0)), (.int .i64 (.a 1)), (.int .i64 (.a 2)), (.int .i64 (.a 3)), (.int .i64 (.a 4)), (.int .i64 (.a 5)), (.int .i64 (.a 6)), (.int .i64 (.a 7)), (.va 3)] 26 false), (.cells [(.int .i64 (.a 8)), (.int .i64 (.a 9)), (.int .i64 (.a 10)), (.int .i64 (.a 11)), (.int .i64 (.a 12)), (.int .i64 (.a 13))] 23 false), (.cells [(.va 4)] 65 false)], ni := 14, nb := 0, nv := 5, nj := 26 }
theorem b1P : RgIs Try.prog 24 a5s valuation_Table_G := c6Y (c := (cg [] [9, 11] [] true false false true)) (G := valuation_Table_G) (a0l _ _ _ _ _ _ _ _ _) Try.func24 Try.call24 (by kernel_rfl) 5000 rfl rfl rfl c4x a7O [false, true, false, true, true, true, true, true, true, true] (a7O.todo.drop 1) (rf2 (sub (a1x Try.f24).body [false, true, false, true, true, true, true, true, true, true])) (gop := rf1 (sub (a1x Try.f24).body [false, true, false, true, true, true, true, true, true, true])) (assign := rf3 (sub (a1x Try.f24).body [false, true, false, true, true, true, true, true, true, true])) (bodyc := rf4 (sub (a1x Try.f24).body [false, true, false, true, true, true, true, true, true, true])) (by kernel_rfl) rfl (by kernel_rfl) rfl (by kernel_rfl) (by kernel_rfl) (by kernel_rfl) (by kernel_rfl) rfl (by kernel_rfl) (by kernel_rfl) (by kernel_rfl) (by kernel_rfl)
def b2j : PT :=
 (.newM [(.va 0)] 37
 (.call 52 [(.agg [(.int .i64 (.a 0)), (.int .i64 (.a 1)), (.int .i64 (.a 2)), (.int .i64 (.a 3)), (.int .i64 (.a 4)), (.int .i64 (.a 5))])] [] [(.one (.int .i64))]
 (.ite (.eq (.a 6) (.l 0))
 (.ret false (.bool (.t false)) [])
 (.load false (.pa 1 0) [.val]
 (.need (.is 0 2)
 (.ite (.not (.eq (.slen 2) (.a 6)))
  (.ret false (.bool (.t false)) [])
  (.newM [(.int .i64 (.l 0))] 3
  (.newM [(.bool (.t false))] 4
  (.storeM (.pa 3 0) [(.int .i64 (.l 0))]
  (.storeM (.pa 4 0) [(.bool (.t true))]
  (.call 53 [(.agg [(.int .i64 (.a 0)), (.int .i64 (.a 1)), (.int .i64 (.a 2)), (.int .i64 (.a 3)), (.int .i64 (.a 4)), (.int .i64 (.a 5))])] [] [(.one .val)]
  (.jump 0 [(.a 0), (.a 1), (.a 2), (.a 3), (.a 4), (.a 5)] [] [(.va 1), (.va 3), (.va 4), (.va 5)]))))))))))))
def b0B : PT :=
 (.load false (.pa 1 0) [(.int .i64)]
 (.call 54 [(.agg [(.int .i64 (.a 0)), (.int .i64 (.a 1)), (.int .i64 (.a 2)), (.int .i64 (.a 3)), (.int .i64 (.a 4)), (.int .i64 (.a 5))]), (.agg [(.int .i64 (.a 6)), (.int .i64 (.a 7)), (.int .i64 (.a 8)), (.int .i64 (.a 9)), (.int .i64 (.a 10)), (.int .i64 (.a 11))]), (.int .i64 (.a 12)), (.fn 56 0 [(.pa 2 0), (.pa 0 0), (.pa 1 0)])] [] []
 (.load false (.pa 1 0) [(.int .i64)]
 (.need (.and (.le (.l (-9223372036854775808)) (.add (.a 13) (.l 1))) (.le (.add (.a 13) (.l 1)) (.l 9223372036854775807)))
 (.storeM (.pa 1 0) [(.int .i64 (.add (.a 13) (.l 1)))]
 (.jump 0 [(.a 0), (.a 1), (.a 2), (.a 3), (.a 4), (.a 5)] [] [(.va 0), (.va 1), (.va 2), (.va 3)]))))))
def b0K : PT :=
 (.load false (.pa 2 0) [.bool]
 (.ret false (.bool (.a 0)) []))
def valuation_Monotone_G : Rg := ⟨3, [(.agg [(.int .i64), (.int .i64), (.int .i64), (.int .i64), (.int .i64), (.int .i64)])], itB, b0B, b0K⟩
def valuation_Monotone_S : Sx.Sys := ⟨[(.sh (.one .val)), (.sh (.agg [(.int .i64), (.int .i64), (.int .i64), (.int .i64), (.int .i64), (.int .i64)]))], b2j, [], none, some valuation_Monotone_G⟩
def a6o : Cfg := { todo := [(.code [false, true, false, true, true, true, true]), (.inBlock 0), (.code [true, true, true, true, true])], sl := [(.junk 0), (.junk 1), (.pa 0 0), (.ptr 0 0), (.junk 2), (.junk 3), (.pa 1 0), (.pa 2 0), .undef, (.junk 4), (.junk 5), (.junk 6), (.junk 7), (.junk 8), (.junk 9), (.junk 10), (.junk 11), (.junk 12), (.junk 13), (.junk 14), (.va 3), .undef, .undef, .undef, .undef, .undef, .undef, .undef, .undef, .undef], H := [(.cells [(.int .i64 (.a 0)), (.int .i64 (.a 1)), (.int .i64 (.a 2)), (.int .i64 (.a 3)), (.int .i64 (.a 4)), (.int .i64 (.a 5))] 23 false)], ni := 6, nb := 0, nv := 4, nj := 15 }
theorem a9y : RgIs Try.prog 27 valuation_Monotone_S valuation_Monotone_G := c6Y (c := (cg [] [2, 6, 7] [] true false false true)) (G := valuation_Monotone_G) (a0l _ _ _ _ _ _ _ _ _) Try.func27 Try.call27 (by kernel_rfl) 5000 rfl rfl rfl c4x a6o [false, true, false, true, true, true, true] (a6o.todo.drop 1) (rf2 (sub (a1x Try.f27).body [false, true, false, true, true, true, true])) (gop := rf1 (sub (a1x Try.f27).body [false, true, false, true, true, true, true])) (assign := rf3 (sub (a1x Try.f27).body [false, true, false, true, true, true, true])) (bodyc := rf4 (sub (a1x Try.f27).body [false, true, false, true, true, true, true])) (by kernel_rfl) rfl (by kernel_rfl) rfl (by kernel_rfl) (by kernel_rfl) (by kernel_rfl) (by kernel_rfl) rfl (by kernel_rfl) (by kernel_rfl) (by kernel_rfl) (by kernel_rfl)
theorem b0C : SysOk Try.prog 27 valuation_Monotone_S := a9y.ok rfl rfl
end Go.Proofs.Ythmkfeiapdbojaa
