/- The trees of functions with loops over functions. Written by txgen.py. -/
import Derived.Test.YthmkfeiapdbojaaHIt
import Derived.Test.YthmkfeiapdbojaaHSaa
import Derived.Test.YthmkfeiapdbojaaHSab
import Derived.Test.YthmkfeiapdbojaaHSac
set_option linter.unusedSimpArgs false
set_option linter.unusedVariables false
open Go.Sx.SV renaming int → I
open Go.IntKind renaming i64 → L
open Go.Sx.IE renaming a → A, l → E
open Go.Sx.Kd renaming int → D
set_option maxRecDepth 100000
namespace Go.Proofs.Ythmkfeiapdbojaa
open Go.Sx
def a7f:PT :=
 (.newM [.nilS] 37
    (.storeM (.pa 3 0) [(.va 1)]
    (.newM [(I L (E 0))] 3
    (.storeM (.pa 4 0) [(I L (E 0))]
    (.call 53 [(.agg [(I L (A 8)),(I L (A 9)),(I L (A 10)),(I L (A 11)),(I L (A 12)),(I L (A 13))])] [] [(.one .val)]
    (.jump 0 [(.a 0),(.a 1),(.a 2),(.a 3),(.a 4),(.a 5),(.a 6),(.a 7),(.a 8),(.a 9),(.a 10),(.a 11),(.a 12),(.a 13)] [] [(.va 3),(.va 4),(.va 5),(.va 0),(.va 2)]))))))
def b2D:PT :=
 (.call 49 [(.agg [(I L (A 0)),(I L (A 1)),(I L (A 2)),(I L (A 3)),(I L (A 4)),(I L (A 5)),(I L (A 6)),(I L (A 7)),(.va 0)]),(.agg [(I L (A 8)),(I L (A 9)),(I L (A 10)),(I L (A 11)),(I L (A 12)),(I L (A 13))])] [] [(.one .val)]
   (.both a7f a7f))
def a7i:PT :=
 (.call 49 [(.agg [(I L (A 0)),(I L (A 1)),(I L (A 2)),(I L (A 3)),(I L (A 4)),(I L (A 5)),(I L (A 6)),(I L (A 7)),(.va 0)]),(.agg [(I L (A 8)),(I L (A 9)),(I L (A 10)),(I L (A 11)),(I L (A 12)),(I L (A 13))])] [] [(.one .val)]
    (.storeM (.pa 2 0) [(.va 1)]
    (.newM [(I L (E 0))] 3
    (.storeM (.pa 4 0) [(I L (E 0))]
    (.call 53 [(.agg [(I L (A 8)),(I L (A 9)),(I L (A 10)),(I L (A 11)),(I L (A 12)),(I L (A 13))])] [] [(.one .val)]
    (.jump 0 [(.a 0),(.a 1),(.a 2),(.a 3),(.a 4),(.a 5),(.a 6),(.a 7),(.a 8),(.a 9),(.a 10),(.a 11),(.a 12),(.a 13)] [] [(.va 2),(.va 4),(.va 5),(.va 0),(.va 3)]))))))
def b3P:PT :=
 (.newM [.nilS] 37
    (.both a7i a7i))
def b3D:PT :=
 (.call 49 [(.agg [(I L (A 0)),(I L (A 1)),(I L (A 2)),(I L (A 3)),(I L (A 4)),(I L (A 5)),(I L (A 6)),(I L (A 7)),(.va 0)]),(.agg [(I L (A 8)),(I L (A 9)),(I L (A 10)),(I L (A 11)),(I L (A 12)),(I L (A 13))])] [] [(.one .val)]
    (.newM [.nilS] 37
    (.storeM (.pa 3 0) [(.va 1)]
    (.newM [(I L (E 0))] 3
    (.storeM (.pa 4 0) [(I L (E 0))]
    (.call 53 [(.agg [(I L (A 8)),(I L (A 9)),(I L (A 10)),(I L (A 11)),(I L (A 12)),(I L (A 13))])] [] [(.one .val)]
    (.jump 0 [(.a 0),(.a 1),(.a 2),(.a 3),(.a 4),(.a 5),(.a 6),(.a 7),(.a 8),(.a 9),(.a 10),(.a 11),(.a 12),(.a 13)] [] [(.va 3),(.va 4),(.va 5),(.va 0),(.va 2)])))))))
def b3s:PT :=
 (.newM [.nilS] 37
    (.call 49 [(.agg [(I L (A 0)),(I L (A 1)),(I L (A 2)),(I L (A 3)),(I L (A 4)),(I L (A 5)),(I L (A 6)),(I L (A 7)),(.va 0)]),(.agg [(I L (A 8)),(I L (A 9)),(I L (A 10)),(I L (A 11)),(I L (A 12)),(I L (A 13))])] [] [(.one .val)]
    (.storeM (.pa 2 0) [(.va 1)]
    (.newM [(I L (E 0))] 3
    (.storeM (.pa 4 0) [(I L (E 0))]
    (.call 53 [(.agg [(I L (A 8)),(I L (A 9)),(I L (A 10)),(I L (A 11)),(I L (A 12)),(I L (A 13))])] [] [(.one .val)]
    (.jump 0 [(.a 0),(.a 1),(.a 2),(.a 3),(.a 4),(.a 5),(.a 6),(.a 7),(.a 8),(.a 9),(.a 10),(.a 11),(.a 12),(.a 13)] [] [(.va 2),(.va 4),(.va 5),(.va 0),(.va 3)])))))))
def b3O:PT :=
 (.both b3D b3s)
def b3t:PT :=
 (.both b3P b3O)
def b3y:PT :=
 (.mkM (.a 16) [(I L (E 0))] 2 1 8
   (.both b2D b3t))
def a6Y:PT :=
 (.newM [.nilS] 37
    (.storeM (.pa 3 0) [(.va 2)]
    (.newM [(I L (E 0))] 3
    (.storeM (.pa 4 0) [(I L (E 0))]
    (.call 53 [(.agg [(I L (A 8)),(I L (A 9)),(I L (A 10)),(I L (A 11)),(I L (A 12)),(I L (A 13))])] [] [(.one .val)]
    (.jump 0 [(.a 0),(.a 1),(.a 2),(.a 3),(.a 4),(.a 5),(.a 6),(.a 7),(.a 8),(.a 9),(.a 10),(.a 11),(.a 12),(.a 13)] [] [(.va 3),(.va 4),(.va 5),(.va 0),(.va 1)]))))))
def b1Q:PT :=
 (.mkM (.a 16) [(I L (E 0))] 2 1 8
    (.both a6Y a6Y))
def a6V:PT :=
 (.mkM (.a 16) [(I L (E 0))] 2 1 8
     (.storeM (.pa 2 0) [(.va 3)]
     (.newM [(I L (E 0))] 3
     (.storeM (.pa 4 0) [(I L (E 0))]
     (.call 53 [(.agg [(I L (A 8)),(I L (A 9)),(I L (A 10)),(I L (A 11)),(I L (A 12)),(I L (A 13))])] [] [(.one .val)]
     (.jump 0 [(.a 0),(.a 1),(.a 2),(.a 3),(.a 4),(.a 5),(.a 6),(.a 7),(.a 8),(.a 9),(.a 10),(.a 11),(.a 12),(.a 13)] [] [(.va 2),(.va 4),(.va 5),(.va 0),(.va 1)]))))))
def b1Y:PT :=
 (.newM [.nilS] 37
    (.both a6V a6V))
def b1G:PT :=
 (.mkM (.a 16) [(I L (E 0))] 2 1 8
     (.newM [.nilS] 37
     (.storeM (.pa 3 0) [(.va 2)]
     (.newM [(I L (E 0))] 3
     (.storeM (.pa 4 0) [(I L (E 0))]
     (.call 53 [(.agg [(I L (A 8)),(I L (A 9)),(I L (A 10)),(I L (A 11)),(I L (A 12)),(I L (A 13))])] [] [(.one .val)]
     (.jump 0 [(.a 0),(.a 1),(.a 2),(.a 3),(.a 4),(.a 5),(.a 6),(.a 7),(.a 8),(.a 9),(.a 10),(.a 11),(.a 12),(.a 13)] [] [(.va 3),(.va 4),(.va 5),(.va 0),(.va 1)])))))))
def b2o:PT :=
 (.newM [.nilS] 37
     (.mkM (.a 16) [(I L (E 0))] 2 1 8
     (.storeM (.pa 2 0) [(.va 3)]
     (.newM [(I L (E 0))] 3
     (.storeM (.pa 4 0) [(I L (E 0))]
     (.call 53 [(.agg [(I L (A 8)),(I L (A 9)),(I L (A 10)),(I L (A 11)),(I L (A 12)),(I L (A 13))])] [] [(.one .val)]
     (.jump 0 [(.a 0),(.a 1),(.a 2),(.a 3),(.a 4),(.a 5),(.a 6),(.a 7),(.a 8),(.a 9),(.a 10),(.a 11),(.a 12),(.a 13)] [] [(.va 2),(.va 4),(.va 5),(.va 0),(.va 1)])))))))
def b1C:PT :=
 (.both b1G b2o)
def b1B:PT :=
 (.both b1Y b1C)
def b2z:PT :=
 (.call 49 [(.agg [(I L (A 0)),(I L (A 1)),(I L (A 2)),(I L (A 3)),(I L (A 4)),(I L (A 5)),(I L (A 6)),(I L (A 7)),(.va 0)]),(.agg [(I L (A 8)),(I L (A 9)),(I L (A 10)),(I L (A 11)),(I L (A 12)),(I L (A 13))])] [] [(.one .val)]
   (.both b1Q b1B))
def a6Q:PT :=
 (.call 49 [(.agg [(I L (A 0)),(I L (A 1)),(I L (A 2)),(I L (A 3)),(I L (A 4)),(I L (A 5)),(I L (A 6)),(I L (A 7)),(.va 0)]),(.agg [(I L (A 8)),(I L (A 9)),(I L (A 10)),(I L (A 11)),(I L (A 12)),(I L (A 13))])] [] [(.one .val)]
     (.storeM (.pa 1 0) [(.va 2)]
     (.newM [(I L (E 0))] 3
     (.storeM (.pa 4 0) [(I L (E 0))]
     (.call 53 [(.agg [(I L (A 8)),(I L (A 9)),(I L (A 10)),(I L (A 11)),(I L (A 12)),(I L (A 13))])] [] [(.one .val)]
     (.jump 0 [(.a 0),(.a 1),(.a 2),(.a 3),(.a 4),(.a 5),(.a 6),(.a 7),(.a 8),(.a 9),(.a 10),(.a 11),(.a 12),(.a 13)] [] [(.va 1),(.va 4),(.va 5),(.va 0),(.va 3)]))))))
def b1O:PT :=
 (.mkM (.a 16) [(I L (E 0))] 2 1 8
    (.both a6Q a6Q))
def a6J:PT :=
 (.mkM (.a 16) [(I L (E 0))] 2 1 8
     (.storeM (.pa 1 0) [(.va 3)]
     (.newM [(I L (E 0))] 3
     (.storeM (.pa 4 0) [(I L (E 0))]
     (.call 53 [(.agg [(I L (A 8)),(I L (A 9)),(I L (A 10)),(I L (A 11)),(I L (A 12)),(I L (A 13))])] [] [(.one .val)]
     (.jump 0 [(.a 0),(.a 1),(.a 2),(.a 3),(.a 4),(.a 5),(.a 6),(.a 7),(.a 8),(.a 9),(.a 10),(.a 11),(.a 12),(.a 13)] [] [(.va 1),(.va 4),(.va 5),(.va 0),(.va 2)]))))))
def b1R:PT :=
 (.call 49 [(.agg [(I L (A 0)),(I L (A 1)),(I L (A 2)),(I L (A 3)),(I L (A 4)),(I L (A 5)),(I L (A 6)),(I L (A 7)),(.va 0)]),(.agg [(I L (A 8)),(I L (A 9)),(I L (A 10)),(I L (A 11)),(I L (A 12)),(I L (A 13))])] [] [(.one .val)]
     (.both a6J a6J))
def a6N:PT :=
 (.mkM (.a 16) [(I L (E 0))] 2 1 8
     (.call 49 [(.agg [(I L (A 0)),(I L (A 1)),(I L (A 2)),(I L (A 3)),(I L (A 4)),(I L (A 5)),(I L (A 6)),(I L (A 7)),(.va 0)]),(.agg [(I L (A 8)),(I L (A 9)),(I L (A 10)),(I L (A 11)),(I L (A 12)),(I L (A 13))])] [] [(.one .val)]
     (.storeM (.pa 1 0) [(.va 2)]
     (.newM [(I L (E 0))] 3
     (.storeM (.pa 4 0) [(I L (E 0))]
     (.call 53 [(.agg [(I L (A 8)),(I L (A 9)),(I L (A 10)),(I L (A 11)),(I L (A 12)),(I L (A 13))])] [] [(.one .val)]
     (.jump 0 [(.a 0),(.a 1),(.a 2),(.a 3),(.a 4),(.a 5),(.a 6),(.a 7),(.a 8),(.a 9),(.a 10),(.a 11),(.a 12),(.a 13)] [] [(.va 1),(.va 4),(.va 5),(.va 0),(.va 3)])))))))
def a6L:PT :=
 (.call 49 [(.agg [(I L (A 0)),(I L (A 1)),(I L (A 2)),(I L (A 3)),(I L (A 4)),(I L (A 5)),(I L (A 6)),(I L (A 7)),(.va 0)]),(.agg [(I L (A 8)),(I L (A 9)),(I L (A 10)),(I L (A 11)),(I L (A 12)),(I L (A 13))])] [] [(.one .val)]
     (.mkM (.a 16) [(I L (E 0))] 2 1 8
     (.storeM (.pa 1 0) [(.va 3)]
     (.newM [(I L (E 0))] 3
     (.storeM (.pa 4 0) [(I L (E 0))]
     (.call 53 [(.agg [(I L (A 8)),(I L (A 9)),(I L (A 10)),(I L (A 11)),(I L (A 12)),(I L (A 13))])] [] [(.one .val)]
     (.jump 0 [(.a 0),(.a 1),(.a 2),(.a 3),(.a 4),(.a 5),(.a 6),(.a 7),(.a 8),(.a 9),(.a 10),(.a 11),(.a 12),(.a 13)] [] [(.va 1),(.va 4),(.va 5),(.va 0),(.va 2)])))))))
def b1w:PT :=
 (.both a6N a6L)
def b2r:PT :=
 (.both b1R b1w)
def b1A:PT :=
 (.newM [.nilS] 37
    (.both b1O b2r))
def b2y:PT :=
 (.call 49 [(.agg [(I L (A 0)),(I L (A 1)),(I L (A 2)),(I L (A 3)),(I L (A 4)),(I L (A 5)),(I L (A 6)),(I L (A 7)),(.va 0)]),(.agg [(I L (A 8)),(I L (A 9)),(I L (A 10)),(I L (A 11)),(I L (A 12)),(I L (A 13))])] [] [(.one .val)]
     (.newM [.nilS] 37
     (.storeM (.pa 3 0) [(.va 1)]
     (.newM [(I L (E 0))] 3
     (.storeM (.pa 4 0) [(I L (E 0))]
     (.call 53 [(.agg [(I L (A 8)),(I L (A 9)),(I L (A 10)),(I L (A 11)),(I L (A 12)),(I L (A 13))])] [] [(.one .val)]
     (.jump 0 [(.a 0),(.a 1),(.a 2),(.a 3),(.a 4),(.a 5),(.a 6),(.a 7),(.a 8),(.a 9),(.a 10),(.a 11),(.a 12),(.a 13)] [] [(.va 3),(.va 4),(.va 5),(.va 0),(.va 2)])))))))
def b1Z:PT :=
 (.newM [.nilS] 37
     (.call 49 [(.agg [(I L (A 0)),(I L (A 1)),(I L (A 2)),(I L (A 3)),(I L (A 4)),(I L (A 5)),(I L (A 6)),(I L (A 7)),(.va 0)]),(.agg [(I L (A 8)),(I L (A 9)),(I L (A 10)),(I L (A 11)),(I L (A 12)),(I L (A 13))])] [] [(.one .val)]
     (.storeM (.pa 2 0) [(.va 1)]
     (.newM [(I L (E 0))] 3
     (.storeM (.pa 4 0) [(I L (E 0))]
     (.call 53 [(.agg [(I L (A 8)),(I L (A 9)),(I L (A 10)),(I L (A 11)),(I L (A 12)),(I L (A 13))])] [] [(.one .val)]
     (.jump 0 [(.a 0),(.a 1),(.a 2),(.a 3),(.a 4),(.a 5),(.a 6),(.a 7),(.a 8),(.a 9),(.a 10),(.a 11),(.a 12),(.a 13)] [] [(.va 2),(.va 4),(.va 5),(.va 0),(.va 3)])))))))
def b2c:PT :=
 (.mkM (.a 16) [(I L (E 0))] 2 1 8
    (.both b2y b1Z))
def b1T:PT :=
 (.mkM (.a 16) [(I L (E 0))] 2 1 8
     (.newM [.nilS] 37
     (.storeM (.pa 3 0) [(.va 2)]
     (.newM [(I L (E 0))] 3
     (.storeM (.pa 4 0) [(I L (E 0))]
     (.call 53 [(.agg [(I L (A 8)),(I L (A 9)),(I L (A 10)),(I L (A 11)),(I L (A 12)),(I L (A 13))])] [] [(.one .val)]
     (.jump 0 [(.a 0),(.a 1),(.a 2),(.a 3),(.a 4),(.a 5),(.a 6),(.a 7),(.a 8),(.a 9),(.a 10),(.a 11),(.a 12),(.a 13)] [] [(.va 3),(.va 4),(.va 5),(.va 0),(.va 1)])))))))
def b2u:PT :=
 (.newM [.nilS] 37
     (.mkM (.a 16) [(I L (E 0))] 2 1 8
     (.storeM (.pa 2 0) [(.va 3)]
     (.newM [(I L (E 0))] 3
     (.storeM (.pa 4 0) [(I L (E 0))]
     (.call 53 [(.agg [(I L (A 8)),(I L (A 9)),(I L (A 10)),(I L (A 11)),(I L (A 12)),(I L (A 13))])] [] [(.one .val)]
     (.jump 0 [(.a 0),(.a 1),(.a 2),(.a 3),(.a 4),(.a 5),(.a 6),(.a 7),(.a 8),(.a 9),(.a 10),(.a 11),(.a 12),(.a 13)] [] [(.va 2),(.va 4),(.va 5),(.va 0),(.va 1)])))))))
def b2v:PT :=
 (.call 49 [(.agg [(I L (A 0)),(I L (A 1)),(I L (A 2)),(I L (A 3)),(I L (A 4)),(I L (A 5)),(I L (A 6)),(I L (A 7)),(.va 0)]),(.agg [(I L (A 8)),(I L (A 9)),(I L (A 10)),(I L (A 11)),(I L (A 12)),(I L (A 13))])] [] [(.one .val)]
     (.both b1T b2u))
def b2s:PT :=
 (.newM [.nilS] 37
     (.both a6N a6L))
def b2w:PT :=
 (.both b2v b2s)
def b1K:PT :=
 (.both b2c b2w)
def b2i:PT :=
 (.both b1A b1K)
def b1v:PT :=
 (.both b2z b2i)
def a8M:PT :=
 (.call 42 [(.agg [(I L (A 0)),(I L (A 1)),(I L (A 2)),(I L (A 3)),(I L (A 4)),(I L (A 5)),(I L (A 6)),(I L (A 7)),(.va 0)])] [] [(.one (D L))]
 (.ite (.not (.eq (.a 14) (.l 0)))
 (.ret false (.tup [.nilS,(I L (A 14))]) [])
 (.call 48 [(.agg [(I L (A 8)),(I L (A 9)),(I L (A 10)),(I L (A 11)),(I L (A 12)),(I L (A 13))])] [] [(.one (D L))]
 (.ite (.not (.eq (.a 15) (.l 0)))
  (.ret false (.tup [.nilS,(I L (A 15))]) [])
  (.call 52 [(.agg [(I L (A 8)),(I L (A 9)),(I L (A 10)),(I L (A 11)),(I L (A 12)),(I L (A 13))])] [] [(.one (D L))]
  (.ite (.eq (.a 16) (.l 0))
  (.ret false (.tup [.nilS,(I L (E 3))]) [])
  (.both b3y b1v)))))))
def a4z:PT :=
 (.load false (.pa 1 0) [(D L)]
  (.qGet 4 [(.a 14),(.a 15),(.a 16),(.a 17),(.a 18),(.a 19)] false
  (.need (treeI (.a 20) (.slen 5))
  (.storeM (.ea 5 (.a 20) 1 0) [(I L (A 21))]
  (.load false (.pa 1 0) [(D L)]
  (.call 54 [(.agg [(I L (A 8)),(I L (A 9)),(I L (A 10)),(I L (A 11)),(I L (A 12)),(I L (A 13))]),(.agg [(I L (A 14)),(I L (A 15)),(I L (A 16)),(I L (A 17)),(I L (A 18)),(I L (A 19))]),(I L (A 22)),(.fn 55 0 [(.pa 0 0),(.pa 1 0)])] [] []
  (.load false (.pa 1 0) [(D L)]
  (.need (treeB (.add (.a 23) (.l 1)))
  (.storeM (.pa 1 0) [(.int .i64 (.add (.a 23) (.l 1)))]
  (.jump 0 [(.a 0),(.a 1),(.a 2),(.a 3),(.a 4),(.a 5),(.a 6),(.a 7),(.a 8),(.a 9),(.a 10),(.a 11),(.a 12),(.a 13)] [] [(.va 0),(.va 1),(.va 2),(.va 3),(.va 4)]))))))))))
def a4K:PT :=
 (.qGet 4 [(.a 14),(.a 15),(.a 16),(.a 17),(.a 18),(.a 19)] false
  (.load false (.pa 1 0) [(D L)]
  (.need (treeI (.a 21) (.slen 5))
  (.storeM (.ea 5 (.a 21) 1 0) [(I L (A 20))]
  (.load false (.pa 1 0) [(D L)]
  (.call 54 [(.agg [(I L (A 8)),(I L (A 9)),(I L (A 10)),(I L (A 11)),(I L (A 12)),(I L (A 13))]),(.agg [(I L (A 14)),(I L (A 15)),(I L (A 16)),(I L (A 17)),(I L (A 18)),(I L (A 19))]),(I L (A 22)),(.fn 55 0 [(.pa 0 0),(.pa 1 0)])] [] []
  (.load false (.pa 1 0) [(D L)]
  (.need (treeB (.add (.a 23) (.l 1)))
  (.storeM (.pa 1 0) [(.int .i64 (.add (.a 23) (.l 1)))]
  (.jump 0 [(.a 0),(.a 1),(.a 2),(.a 3),(.a 4),(.a 5),(.a 6),(.a 7),(.a 8),(.a 9),(.a 10),(.a 11),(.a 12),(.a 13)] [] [(.va 0),(.va 1),(.va 2),(.va 3),(.va 4)]))))))))))
def a4L:PT :=
 (.load false (.pa 0 0) [.val]
 (.both a4z a4K))
def a4O:PT :=
 (.load false (.pa 0 0) [.val]
  (.qGet 4 [(.a 14),(.a 15),(.a 16),(.a 17),(.a 18),(.a 19)] false
  (.need (treeI (.a 20) (.slen 5))
  (.storeM (.ea 5 (.a 20) 1 0) [(I L (A 21))]
  (.load false (.pa 1 0) [(D L)]
  (.call 54 [(.agg [(I L (A 8)),(I L (A 9)),(I L (A 10)),(I L (A 11)),(I L (A 12)),(I L (A 13))]),(.agg [(I L (A 14)),(I L (A 15)),(I L (A 16)),(I L (A 17)),(I L (A 18)),(I L (A 19))]),(I L (A 22)),(.fn 55 0 [(.pa 0 0),(.pa 1 0)])] [] []
  (.load false (.pa 1 0) [(D L)]
  (.need (treeB (.add (.a 23) (.l 1)))
  (.storeM (.pa 1 0) [(.int .i64 (.add (.a 23) (.l 1)))]
  (.jump 0 [(.a 0),(.a 1),(.a 2),(.a 3),(.a 4),(.a 5),(.a 6),(.a 7),(.a 8),(.a 9),(.a 10),(.a 11),(.a 12),(.a 13)] [] [(.va 0),(.va 1),(.va 2),(.va 3),(.va 4)]))))))))))
def a4D:PT :=
 (.qGet 4 [(.a 14),(.a 15),(.a 16),(.a 17),(.a 18),(.a 19)] false
  (.load false (.pa 0 0) [.val]
  (.need (treeI (.a 20) (.slen 5))
  (.storeM (.ea 5 (.a 20) 1 0) [(I L (A 21))]
  (.load false (.pa 1 0) [(D L)]
  (.call 54 [(.agg [(I L (A 8)),(I L (A 9)),(I L (A 10)),(I L (A 11)),(I L (A 12)),(I L (A 13))]),(.agg [(I L (A 14)),(I L (A 15)),(I L (A 16)),(I L (A 17)),(I L (A 18)),(I L (A 19))]),(I L (A 22)),(.fn 55 0 [(.pa 0 0),(.pa 1 0)])] [] []
  (.load false (.pa 1 0) [(D L)]
  (.need (treeB (.add (.a 23) (.l 1)))
  (.storeM (.pa 1 0) [(.int .i64 (.add (.a 23) (.l 1)))]
  (.jump 0 [(.a 0),(.a 1),(.a 2),(.a 3),(.a 4),(.a 5),(.a 6),(.a 7),(.a 8),(.a 9),(.a 10),(.a 11),(.a 12),(.a 13)] [] [(.va 0),(.va 1),(.va 2),(.va 3),(.va 4)]))))))))))
def a4J:PT :=
 (.load false (.pa 1 0) [(D L)]
  (.both a4O a4D))
def a4A:PT :=
 (.qGet 4 [(.a 14),(.a 15),(.a 16),(.a 17),(.a 18),(.a 19)] false
  (.load false (.pa 0 0) [.val]
  (.load false (.pa 1 0) [(D L)]
  (.need (treeI (.a 21) (.slen 5))
  (.storeM (.ea 5 (.a 21) 1 0) [(I L (A 20))]
  (.load false (.pa 1 0) [(D L)]
  (.call 54 [(.agg [(I L (A 8)),(I L (A 9)),(I L (A 10)),(I L (A 11)),(I L (A 12)),(I L (A 13))]),(.agg [(I L (A 14)),(I L (A 15)),(I L (A 16)),(I L (A 17)),(I L (A 18)),(I L (A 19))]),(I L (A 22)),(.fn 55 0 [(.pa 0 0),(.pa 1 0)])] [] []
  (.load false (.pa 1 0) [(D L)]
  (.need (treeB (.add (.a 23) (.l 1)))
  (.storeM (.pa 1 0) [(.int .i64 (.add (.a 23) (.l 1)))]
  (.jump 0 [(.a 0),(.a 1),(.a 2),(.a 3),(.a 4),(.a 5),(.a 6),(.a 7),(.a 8),(.a 9),(.a 10),(.a 11),(.a 12),(.a 13)] [] [(.va 0),(.va 1),(.va 2),(.va 3),(.va 4)])))))))))))
def a4N:PT :=
 (.both a4J a4A)
def a5v:PT :=
 (.both a4L a4N)
def a5s:PT :=
 (.load false (.pa 0 0) [.val]
 (.ret false (.tup [(.va 5),(I L (E 0))]) []))
def valuation_Table_G:Rg:=⟨2,[(.agg [(D L),(D L),(D L),(D L),(D L),(D L)])],itB,a5v,a5s⟩
def a6f:Sx.Sys:=⟨[(.sh (.agg [(D L),(D L),(D L),(D L),(D L),(D L),(D L),(D L),.val])),(.sh (.agg [(D L),(D L),(D L),(D L),(D L),(D L)]))],a8M,[],none,some valuation_Table_G⟩
def a8L:Cfg:={ todo:=[(.code [false,true,false,true,true,true,true,true,true,true]),(.inBlock 0),(.code [true,true,true,true,true,true,true,true])],sl:=[(.junk 0),(.junk 1),(.junk 2),(.ptr 1 0),(.junk 3),(.junk 4),(.junk 5),(.junk 6),(.junk 7),(.pa 0 0),(.ptr 2 0),(.pa 1 0),.undef,(.junk 8),(.junk 9),(.junk 10),(.junk 11),.undef,(.junk 12),(.junk 13),(.junk 14),(.junk 15),.undef,(.junk 16),(.junk 17),(.junk 18),(.junk 19),(.junk 20),(.junk 21),(.junk 22),(.junk 23),(.junk 24),(.junk 25),(.va 2),.undef,.undef,.undef,.undef,.undef,.undef,.undef,.undef,.undef,.undef,.undef,.undef,.undef,.undef,.undef],H:=[(.cells [(I L (A 0)),(I L (A 1)),(I L (A 2)),(I L (A 3)),(I L (A 4)),(I L (A 5)),(I L (A 6)),(I L (A 7)),(.va 3)] 26 false),(.cells [(I L (A 8)),(I L (A 9)),(I L (A 10)),(I L (A 11)),(I L (A 12)),(I L (A 13))] 23 false),(.cells [(.va 4)] 65 false)],ni:=14,nb:=0,nv:=5,nj:=26 }
theorem b3j:RgIs Try.prog 24 a6f valuation_Table_G:=c8x (c:=(cg [] [9,11] [] true false false true)) (G:=valuation_Table_G) (a0s _ _ _ _ _ _ _ _ _) Try.func24 Try.call24 (by kernel_rfl) 5000 rfl rfl rfl c6F a8L [false,true,false,true,true,true,true,true,true,true] (a8L.todo.drop 1) (rf2 (sub (a1J Try.f24).body [false,true,false,true,true,true,true,true,true,true])) (gop:=rf1 (sub (a1J Try.f24).body [false,true,false,true,true,true,true,true,true,true])) (assign:=rf3 (sub (a1J Try.f24).body [false,true,false,true,true,true,true,true,true,true])) (bodyc:=rf4 (sub (a1J Try.f24).body [false,true,false,true,true,true,true,true,true,true])) (by kernel_rfl) rfl (by kernel_rfl) rfl (by kernel_rfl) (by kernel_rfl) (by kernel_rfl) (by kernel_rfl) rfl (by kernel_rfl) (by kernel_rfl) (by kernel_rfl) (by kernel_rfl)
def d4Z:PT :=
 (.need (.is 0 0)
 (.mkM (.slen 0) [(I L (E 0))] 2 1 8
 (.copyM 1 0 1
 (.call 53 [(.agg [(I L (A 0)),(I L (A 1)),(I L (A 2)),(I L (A 3)),(I L (A 4)),(I L (A 5))])] [] [(.one .val)]
 (.jump 0 [(.a 0),(.a 1),(.a 2),(.a 3),(.a 4),(.a 5),(.l 0)] [] [(.va 2),(.va 0),(.va 1),.nilS])))))
def d3Y:PT :=
 (.app none (.lit [[(I L (E 0)),(I L (A 7)),(I L (A 8)),(I L (A 9)),(I L (A 10)),(I L (A 11)),(I L (A 12)),(I L (A 15))]]) 8
  (.appM (.va 3) (.va 4) 8 59
  (.need (treeI (.a 6) (.slen 2))
  (.load false (.ea 2 (.a 6) 1 0) [(D L)]
  (.need (treeI (.a 6) (.slen 2))
  (.storeM (.ea 2 (.a 6) 1 0) [(.int .i64 (.mx (.a 16) (.a 13)))]
  (.need (treeB (.add (.a 6) (.l 1)))
  (.jump 0 [(.a 0),(.a 1),(.a 2),(.a 3),(.a 4),(.a 5),(.add (.a 6) (.l 1))] [] [(.va 0),(.va 1),(.va 2),(.va 5)]))))))))
def d4P:PT :=
 (.call 88 [(.agg [(I L (A 0)),(I L (A 1)),(I L (A 2)),(I L (A 3)),(I L (A 4)),(I L (A 5))]),(.agg [(I L (A 7)),(I L (A 8)),(I L (A 9)),(I L (A 10)),(I L (A 11)),(I L (A 12))]),(.va 2)] [] [(.one (D L))]
 (.ite (.lt (.l 0) (.a 6))
 (.need (treeI (.a 6) (.slen 1))
 (.load false (.ea 1 (.a 6) 1 0) [(D L)]
 (.ite (.lt (.a 13) (.a 14))
  (.need (treeI (.a 6) (.slen 1))
  (.load false (.ea 1 (.a 6) 1 0) [(D L)]
  (.both d3Y d3Y)))
  (.need (treeI (.a 6) (.slen 2))
  (.load false (.ea 2 (.a 6) 1 0) [(D L)]
  (.need (treeI (.a 6) (.slen 2))
  (.storeM (.ea 2 (.a 6) 1 0) [(.int .i64 (.mx (.a 15) (.a 13)))]
  (.need (treeB (.add (.a 6) (.l 1)))
  (.jump 0 [(.a 0),(.a 1),(.a 2),(.a 3),(.a 4),(.a 5),(.add (.a 6) (.l 1))] [] [(.va 0),(.va 1),(.va 2),(.va 3)])))))))))
 (.need (treeI (.a 6) (.slen 2))
 (.load false (.ea 2 (.a 6) 1 0) [(D L)]
 (.need (treeI (.a 6) (.slen 2))
 (.storeM (.ea 2 (.a 6) 1 0) [(.int .i64 (.mx (.a 14) (.a 13)))]
 (.need (treeB (.add (.a 6) (.l 1)))
 (.jump 0 [(.a 0),(.a 1),(.a 2),(.a 3),(.a 4),(.a 5),(.add (.a 6) (.l 1))] [] [(.va 0),(.va 1),(.va 2),(.va 3)]))))))))
def d4U:PT :=
 (.need (.is 0 3)
 (.ite (.lt (.l 40) (.slen 3))
 (.ret false (.tup [.nilS,(I L (E 3))]) [])
 (.ret false (.tup [(.va 3),(I L (E 0))]) [])))
def flatten_minimal_G:Rg:=⟨0,[(.agg [(D L),(D L),(D L),(D L),(D L),(D L)])],itB,d4P,d4U⟩
def flatten_minimal_S:Sx.Sys:=⟨[(.sh (.one .val)),(.sh (.agg [(D L),(D L),(D L),(D L),(D L),(D L)]))],d4Z,[],none,some flatten_minimal_G⟩
def d4h:Cfg:={ todo:=[(.code [false,true,false,true,true,true,true,true]),(.inBlock 0),(.code [true,true,true,true,true,true])],sl:=[(.junk 0),(.junk 1),(.ptr 0 0),(.ptr 1 0),(.junk 2),(.junk 3),(.ptr 2 0),(.ptr 3 0),(.ptr 4 0),.undef,.undef,(.junk 4),(.junk 5),(.junk 6),(.junk 7),(.junk 8),(.junk 9),(.junk 10),(.va 0),.undef,.undef,.undef,.undef,.undef,.undef,.undef,.undef,.undef,.undef,.undef,.undef,.undef,.undef,.undef,.undef,.undef,.undef,.undef,.undef,.undef,.undef,.undef,.undef,.undef,.undef,.undef,.undef,.undef,.undef,.undef,.undef,.undef,.undef,.undef,.undef,.undef,.undef,.undef],H:=[(.cells [(.va 1)] 37 false),(.cells [(I L (A 0)),(I L (A 1)),(I L (A 2)),(I L (A 3)),(I L (A 4)),(I L (A 5))] 23 false),(.cells [(.va 2)] 37 false),(.cells [(.va 3)] 44 false),(.cells [(I L (A 6))] 3 false)],ni:=7,nb:=0,nv:=4,nj:=11 }
theorem d4J:RgIs Try.prog 60 flatten_minimal_S flatten_minimal_G:=c8x (c:=(cg [] [] [] true false true true)) (G:=flatten_minimal_G) (a0s _ _ _ _ _ _ _ _ _) Try.func60 Try.call60 (by kernel_rfl) 5000 rfl rfl rfl c6F d4h [false,true,false,true,true,true,true,true] (d4h.todo.drop 1) (rf2 (sub (a1J Try.f60).body [false,true,false,true,true,true,true,true])) (gop:=rf1 (sub (a1J Try.f60).body [false,true,false,true,true,true,true,true])) (assign:=rf3 (sub (a1J Try.f60).body [false,true,false,true,true,true,true,true])) (bodyc:=rf4 (sub (a1J Try.f60).body [false,true,false,true,true,true,true,true])) (by kernel_rfl) rfl (by kernel_rfl) rfl (by kernel_rfl) (by kernel_rfl) (by kernel_rfl) (by kernel_rfl) rfl (by kernel_rfl) (by kernel_rfl) (by kernel_rfl) (by kernel_rfl)
theorem d4V:SysOk Try.prog 60 flatten_minimal_S:=d4J.ok rfl rfl
end Go.Proofs.Ythmkfeiapdbojaa
