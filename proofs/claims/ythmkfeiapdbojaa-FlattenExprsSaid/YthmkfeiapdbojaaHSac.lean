/- The trees of this seat's functions, part 6. Written by txgen.py. -/
import Derived.Test.YthmkfeiapdbojaaHTab
set_option linter.unusedSimpArgs false
set_option linter.unusedVariables false
open Go.Sx.SV renaming int → I
open Go.IntKind renaming i64 → L
open Go.Sx.IE renaming a → A, l → E
open Go.Sx.Kd renaming int → D
set_option maxRecDepth 100000
namespace Go.Proofs.Ythmkfeiapdbojaa
open Go.Sx
def d5t:PT :=
 (.need (.is 0 0)
 (.jump 0 [(.slen 0),(.l 0)] [] [(.va 0),.nilS]))
def d5l:PT :=
 (.ite (.lt (.a 1) (.a 0))
 (.need (treeI (.a 1) (.slen 0))
 (.load false (.ea 0 (.a 1) 8 0) [(D L),(D L),(D L),(D L),(D L),(D L),(D L),(D L)]
 (.ite (.le (.l 1) (.a 9))
  (.call 72 [(.va 0),(I L (A 1))] [] [(.one .bool)]
  (.ite (.not (.a 0))
  (.app none (.lit [[(I L (A 2)),(I L (A 3)),(I L (A 4)),(I L (A 5)),(I L (A 6)),(I L (A 7)),(I L (A 8)),(I L (A 9))]]) 8
  (.app (some 1) (.va 2) 8
  (.need (treeB (.add (.a 1) (.l 1)))
  (.jump 0 [(.a 0),(.add (.a 1) (.l 1))] [] [(.va 0),(.va 3)]))))
  (.need (treeB (.add (.a 1) (.l 1)))
  (.jump 0 [(.a 0),(.add (.a 1) (.l 1))] [] [(.va 0),(.va 1)]))))
  (.need (treeB (.add (.a 1) (.l 1)))
  (.jump 0 [(.a 0),(.add (.a 1) (.l 1))] [] [(.va 0),(.va 1)])))))
 (.ret false (.va 1) []))
def flatten_Clean_S:Sx.Sys:=⟨[(.sh (.one .val))],d5t,[d5l],none,none⟩
def d4R:List Cfg:=[{ todo:=[(.code [false,false,true,false,true,true]),(.inLoop [false,false,true,false,true,true]),(.inBlock 0),(.code [true,true,true])],sl:=[(.va 0),.undef,(.junk 0),(.va 1),(.junk 1),(.junk 2),(.va 0),(I L (A 0)),(I L (A 1)),(.junk 3),(.junk 4),(.junk 5),(.junk 6),(.junk 7),(.junk 8),(.junk 9),(.junk 10),(.junk 11),(.junk 12),(.junk 13),(.junk 14),(.junk 15),(.junk 16),(.junk 17),(.junk 18),(.junk 19),(.junk 20),.undef],H:=[(.row 1 59 8)],ni:=2,nb:=0,nv:=2,nj:=21 }]
theorem d5m:SysOk Try.prog 43 flatten_Clean_S:=a0O (c:=(cg [[false,false,true,false,true,true]] [] [] false false false true)) (a0s _ _ _ _ _ _ _ _ _) Try.func43 Try.call43 (by kernel_rfl) d4R flatten_Clean_S 5000 rfl (by kernel_rfl) (by kernel_rfl) rfl
def a5k:PT :=
 (.call 83 [(.agg [(I L (A 8)),(I L (A 9)),(I L (A 10)),(I L (A 11)),(I L (A 12)),(I L (A 13))])] [] [(.one (D L))]
 (.mkM (.a 14) [(I L (E 0))] 2 1 8
 (.jump 0 [(.a 14),(.l 0),(.a 0),(.a 1),(.a 2),(.a 3),(.a 4),(.a 5),(.a 6),(.a 7),(.a 8),(.a 9),(.a 10),(.a 11),(.a 12),(.a 13)] [] [(.va 1),(.va 0)])))
def a1L:PT :=
 (.need (.is 0 1)
 (.ite (.lt (.a 1) (.slen 1))
 (.need (treeI (.a 1) (.slen 1))
 (.load true (.ea 1 (.a 1) 9 0) [(D L),(D L),(D L),(D L),(D L),(D L),(D L),(D L),.val]
 (.call 51 [(.agg [(I L (A 16)),(I L (A 17)),(I L (A 18)),(I L (A 19)),(I L (A 20)),(I L (A 21)),(I L (A 22)),(I L (A 23)),(.va 2)]),(.agg [(I L (A 10)),(I L (A 11)),(I L (A 12)),(I L (A 13)),(I L (A 14)),(I L (A 15))])] [] [(.one .val)]
 (.ite (.eq (.a 2) (.l 3))
  (.ite (.lt (.l 0) (.a 1))
  (.call 84 [(.agg [(I L (A 10)),(I L (A 11)),(I L (A 12)),(I L (A 13)),(I L (A 14)),(I L (A 15))]),(.va 0),(.va 3)] [] [(.one .val)]
  (.need (treeB (.add (.a 1) (.l 1)))
  (.jump 0 [(.a 0),(.add (.a 1) (.l 1)),(.a 2),(.a 3),(.a 4),(.a 5),(.a 6),(.a 7),(.a 8),(.a 9),(.a 10),(.a 11),(.a 12),(.a 13),(.a 14),(.a 15)] [] [(.va 4),(.va 1)])))
  (.jump 1 [(.a 0),(.a 1),(.l 0),(.a 2),(.a 3),(.a 4),(.a 5),(.a 6),(.a 7),(.a 8),(.a 9),(.a 10),(.a 11),(.a 12),(.a 13),(.a 14),(.a 15)] [] [(.va 0),(.va 3),(.va 1)]))
  (.jump 1 [(.a 0),(.a 1),(.l 0),(.a 2),(.a 3),(.a 4),(.a 5),(.a 6),(.a 7),(.a 8),(.a 9),(.a 10),(.a 11),(.a 12),(.a 13),(.a 14),(.a 15)] [] [(.va 0),(.va 3),(.va 1)])))))
 (.jump 2 [(.a 0),(.l 0),(.a 2),(.a 3),(.a 4),(.a 5),(.a 6),(.a 7),(.a 8),(.a 9),(.a 10),(.a 11),(.a 12),(.a 13),(.a 14),(.a 15)] [] [(.va 0),(.va 1)])))
def a2J:PT :=
 (.ite (.lt (.a 2) (.a 0))
 (.need (treeI (.a 2) (.slen 0))
 (.need (treeI (.a 2) (.slen 1))
 (.load false (.ea 0 (.a 2) 1 0) [(D L)]
 (.load false (.ea 1 (.a 2) 1 0) [(D L)]
 (.need (treeI (.a 2) (.slen 0))
 (.storeM (.ea 0 (.a 2) 1 0) [(.int .i64 (.mx (.a 17) (.a 18)))]
 (.need (treeB (.add (.a 2) (.l 1)))
 (.jump 1 [(.a 0),(.a 1),(.add (.a 2) (.l 1)),(.a 3),(.a 4),(.a 5),(.a 6),(.a 7),(.a 8),(.a 9),(.a 10),(.a 11),(.a 12),(.a 13),(.a 14),(.a 15),(.a 16)] [] [(.va 0),(.va 1),(.va 2)]))))))))
 (.need (treeB (.add (.a 1) (.l 1)))
 (.jump 0 [(.a 0),(.add (.a 1) (.l 1)),(.a 3),(.a 4),(.a 5),(.a 6),(.a 7),(.a 8),(.a 9),(.a 10),(.a 11),(.a 12),(.a 13),(.a 14),(.a 15),(.a 16)] [] [(.va 0),(.va 2)])))
def a1h:PT :=
 (.ite (.lt (.a 1) (.a 0))
 (.ite (.eq (.a 2) (.l 1))
  (.call 58 [(.agg [(I L (A 10)),(I L (A 11)),(I L (A 12)),(I L (A 13)),(I L (A 14)),(I L (A 15))]),(I L (A 1))] [] [(.agg [(D L),(D L),(D L),(D L),(D L),(D L)])]
  (.call 57 [(.agg [(I L (A 3)),(I L (A 4)),(I L (A 5)),(I L (A 6)),(I L (A 7)),(I L (A 8))]),(.agg [(I L (A 16)),(I L (A 17)),(I L (A 18)),(I L (A 19)),(I L (A 20)),(I L (A 21))])] [] [(.one .bool)]
  (.ite (.a 0)
  (.need (treeI (.a 1) (.slen 0))
  (.load false (.ea 0 (.a 1) 1 0) [(D L)]
  (.need (treeB (.add (.a 22) (.a 9)))
  (.need (treeI (.a 1) (.slen 0))
  (.storeM (.ea 0 (.a 1) 1 0) [(.int .i64 (.add (.a 22) (.a 9)))]
  (.ite (.eq (.a 2) (.l 5))
   (.need (treeI (.a 1) (.slen 0))
   (.load false (.ea 0 (.a 1) 1 0) [(D L)]
   (.need (treeI (.a 1) (.slen 0))
   (.storeM (.ea 0 (.a 1) 1 0) [(.int .i64 (.mn (.a 23) (.a 9)))]
   (.need (treeI (.a 1) (.slen 0))
   (.load false (.ea 0 (.a 1) 1 0) [(D L)]
   (.call 85 [(I L (A 24))] [] [(.one (D L))]
   (.need (treeI (.a 1) (.slen 0))
   (.storeM (.ea 0 (.a 1) 1 0) [(I L (A 25))]
   (.need (treeB (.add (.a 1) (.l 1)))
   (.jump 2 [(.a 0),(.add (.a 1) (.l 1)),(.a 2),(.a 3),(.a 4),(.a 5),(.a 6),(.a 7),(.a 8),(.a 9),(.a 10),(.a 11),(.a 12),(.a 13),(.a 14),(.a 15)] [] [(.va 0),(.va 1)])))))))))))
   (.need (treeI (.a 1) (.slen 0))
   (.load false (.ea 0 (.a 1) 1 0) [(D L)]
   (.call 85 [(I L (A 23))] [] [(.one (D L))]
   (.need (treeI (.a 1) (.slen 0))
   (.storeM (.ea 0 (.a 1) 1 0) [(I L (A 24))]
   (.need (treeB (.add (.a 1) (.l 1)))
   (.jump 2 [(.a 0),(.add (.a 1) (.l 1)),(.a 2),(.a 3),(.a 4),(.a 5),(.a 6),(.a 7),(.a 8),(.a 9),(.a 10),(.a 11),(.a 12),(.a 13),(.a 14),(.a 15)] [] [(.va 0),(.va 1)])))))))))))))
  (.ite (.eq (.a 2) (.l 5))
   (.need (treeI (.a 1) (.slen 0))
   (.load false (.ea 0 (.a 1) 1 0) [(D L)]
   (.need (treeI (.a 1) (.slen 0))
   (.storeM (.ea 0 (.a 1) 1 0) [(.int .i64 (.mn (.a 22) (.a 9)))]
   (.need (treeI (.a 1) (.slen 0))
   (.load false (.ea 0 (.a 1) 1 0) [(D L)]
   (.call 85 [(I L (A 23))] [] [(.one (D L))]
   (.need (treeI (.a 1) (.slen 0))
   (.storeM (.ea 0 (.a 1) 1 0) [(I L (A 24))]
   (.need (treeB (.add (.a 1) (.l 1)))
   (.jump 2 [(.a 0),(.add (.a 1) (.l 1)),(.a 2),(.a 3),(.a 4),(.a 5),(.a 6),(.a 7),(.a 8),(.a 9),(.a 10),(.a 11),(.a 12),(.a 13),(.a 14),(.a 15)] [] [(.va 0),(.va 1)])))))))))))
   (.need (treeI (.a 1) (.slen 0))
   (.load false (.ea 0 (.a 1) 1 0) [(D L)]
   (.call 85 [(I L (A 22))] [] [(.one (D L))]
   (.need (treeI (.a 1) (.slen 0))
   (.storeM (.ea 0 (.a 1) 1 0) [(I L (A 23))]
   (.need (treeB (.add (.a 1) (.l 1)))
   (.jump 2 [(.a 0),(.add (.a 1) (.l 1)),(.a 2),(.a 3),(.a 4),(.a 5),(.a 6),(.a 7),(.a 8),(.a 9),(.a 10),(.a 11),(.a 12),(.a 13),(.a 14),(.a 15)] [] [(.va 0),(.va 1)])))))))))))
  (.ite (.eq (.a 2) (.l 4))
  (.call 58 [(.agg [(I L (A 10)),(I L (A 11)),(I L (A 12)),(I L (A 13)),(I L (A 14)),(I L (A 15))]),(I L (A 1))] [] [(.agg [(D L),(D L),(D L),(D L),(D L),(D L)])]
  (.call 57 [(.agg [(I L (A 3)),(I L (A 4)),(I L (A 5)),(I L (A 6)),(I L (A 7)),(I L (A 8))]),(.agg [(I L (A 16)),(I L (A 17)),(I L (A 18)),(I L (A 19)),(I L (A 20)),(I L (A 21))])] [] [(.one .bool)]
  (.ite (.a 0)
   (.need (treeI (.a 1) (.slen 0))
   (.load false (.ea 0 (.a 1) 1 0) [(D L)]
   (.need (treeB (.add (.a 22) (.a 9)))
   (.need (treeI (.a 1) (.slen 0))
   (.storeM (.ea 0 (.a 1) 1 0) [(.int .i64 (.add (.a 22) (.a 9)))]
   (.ite (.eq (.a 2) (.l 5))
   (.need (treeI (.a 1) (.slen 0))
   (.load false (.ea 0 (.a 1) 1 0) [(D L)]
   (.need (treeI (.a 1) (.slen 0))
   (.storeM (.ea 0 (.a 1) 1 0) [(.int .i64 (.mn (.a 23) (.a 9)))]
   (.need (treeI (.a 1) (.slen 0))
   (.load false (.ea 0 (.a 1) 1 0) [(D L)]
   (.call 85 [(I L (A 24))] [] [(.one (D L))]
   (.need (treeI (.a 1) (.slen 0))
   (.storeM (.ea 0 (.a 1) 1 0) [(I L (A 25))]
   (.need (treeB (.add (.a 1) (.l 1)))
   (.jump 2 [(.a 0),(.add (.a 1) (.l 1)),(.a 2),(.a 3),(.a 4),(.a 5),(.a 6),(.a 7),(.a 8),(.a 9),(.a 10),(.a 11),(.a 12),(.a 13),(.a 14),(.a 15)] [] [(.va 0),(.va 1)])))))))))))
   (.need (treeI (.a 1) (.slen 0))
   (.load false (.ea 0 (.a 1) 1 0) [(D L)]
   (.call 85 [(I L (A 23))] [] [(.one (D L))]
   (.need (treeI (.a 1) (.slen 0))
   (.storeM (.ea 0 (.a 1) 1 0) [(I L (A 24))]
   (.need (treeB (.add (.a 1) (.l 1)))
   (.jump 2 [(.a 0),(.add (.a 1) (.l 1)),(.a 2),(.a 3),(.a 4),(.a 5),(.a 6),(.a 7),(.a 8),(.a 9),(.a 10),(.a 11),(.a 12),(.a 13),(.a 14),(.a 15)] [] [(.va 0),(.va 1)])))))))))))))
   (.ite (.eq (.a 2) (.l 5))
   (.need (treeI (.a 1) (.slen 0))
   (.load false (.ea 0 (.a 1) 1 0) [(D L)]
   (.need (treeI (.a 1) (.slen 0))
   (.storeM (.ea 0 (.a 1) 1 0) [(.int .i64 (.mn (.a 22) (.a 9)))]
   (.need (treeI (.a 1) (.slen 0))
   (.load false (.ea 0 (.a 1) 1 0) [(D L)]
   (.call 85 [(I L (A 23))] [] [(.one (D L))]
   (.need (treeI (.a 1) (.slen 0))
   (.storeM (.ea 0 (.a 1) 1 0) [(I L (A 24))]
   (.need (treeB (.add (.a 1) (.l 1)))
   (.jump 2 [(.a 0),(.add (.a 1) (.l 1)),(.a 2),(.a 3),(.a 4),(.a 5),(.a 6),(.a 7),(.a 8),(.a 9),(.a 10),(.a 11),(.a 12),(.a 13),(.a 14),(.a 15)] [] [(.va 0),(.va 1)])))))))))))
   (.need (treeI (.a 1) (.slen 0))
   (.load false (.ea 0 (.a 1) 1 0) [(D L)]
   (.call 85 [(I L (A 22))] [] [(.one (D L))]
   (.need (treeI (.a 1) (.slen 0))
   (.storeM (.ea 0 (.a 1) 1 0) [(I L (A 23))]
   (.need (treeB (.add (.a 1) (.l 1)))
   (.jump 2 [(.a 0),(.add (.a 1) (.l 1)),(.a 2),(.a 3),(.a 4),(.a 5),(.a 6),(.a 7),(.a 8),(.a 9),(.a 10),(.a 11),(.a 12),(.a 13),(.a 14),(.a 15)] [] [(.va 0),(.va 1)])))))))))))
  (.ite (.eq (.a 2) (.l 5))
   (.need (treeI (.a 1) (.slen 0))
   (.load false (.ea 0 (.a 1) 1 0) [(D L)]
   (.need (treeI (.a 1) (.slen 0))
   (.storeM (.ea 0 (.a 1) 1 0) [(.int .i64 (.mn (.a 16) (.a 9)))]
   (.need (treeI (.a 1) (.slen 0))
   (.load false (.ea 0 (.a 1) 1 0) [(D L)]
   (.call 85 [(I L (A 17))] [] [(.one (D L))]
   (.need (treeI (.a 1) (.slen 0))
   (.storeM (.ea 0 (.a 1) 1 0) [(I L (A 18))]
   (.need (treeB (.add (.a 1) (.l 1)))
   (.jump 2 [(.a 0),(.add (.a 1) (.l 1)),(.a 2),(.a 3),(.a 4),(.a 5),(.a 6),(.a 7),(.a 8),(.a 9),(.a 10),(.a 11),(.a 12),(.a 13),(.a 14),(.a 15)] [] [(.va 0),(.va 1)])))))))))))
   (.need (treeI (.a 1) (.slen 0))
   (.load false (.ea 0 (.a 1) 1 0) [(D L)]
   (.call 85 [(I L (A 16))] [] [(.one (D L))]
   (.need (treeI (.a 1) (.slen 0))
   (.storeM (.ea 0 (.a 1) 1 0) [(I L (A 17))]
   (.need (treeB (.add (.a 1) (.l 1)))
   (.jump 2 [(.a 0),(.add (.a 1) (.l 1)),(.a 2),(.a 3),(.a 4),(.a 5),(.a 6),(.a 7),(.a 8),(.a 9),(.a 10),(.a 11),(.a 12),(.a 13),(.a 14),(.a 15)] [] [(.va 0),(.va 1)]))))))))))
 (.ret true (.va 0) []))
def saleroomref13_all_S:Sx.Sys:=⟨[(.sh (.agg [(D L),(D L),(D L),(D L),(D L),(D L),(D L),(D L),.val])),(.sh (.agg [(D L),(D L),(D L),(D L),(D L),(D L)]))],a5k,[a1L,a2J,a1h],none,none⟩
def b0Z:List Cfg:=[{ todo:=[(.code [false,false,true,false,true,true,true]),(.inLoop [false,false,true,false,true,true,true]),(.inBlock 0),(.code [true,true,true,true])],sl:=[(.junk 0),(.junk 1),(.ptr 0 0),(.ptr 1 0),(.junk 2),(I L (A 0)),(.va 0),(I L (A 1)),(.junk 3),(.junk 4),.undef,(.junk 5),(.junk 6),(.junk 7),(.junk 8),(.junk 9),(.junk 10),(.junk 11),(.junk 12),(.junk 13),(.junk 14),(.junk 15),(.junk 16),(.junk 17),(.junk 18),(.junk 19),(.junk 20),(.junk 21),(.junk 22),(.junk 23),(.junk 24),(.junk 25),(.junk 26),(.junk 27),(.junk 28),(.junk 29),(.junk 30),(.junk 31),(.junk 32),(.junk 33),(.junk 34),(.junk 35),(.junk 36),(.junk 37),(.junk 38),(.junk 39),(.junk 40),(.junk 41),(.junk 42),(.junk 43),(.junk 44),(.junk 45),(.junk 46),(.junk 47),(.junk 48),(.junk 49),(.junk 50),.undef,.undef,.undef,.undef,.undef,.undef,.undef,.undef,.undef,.undef,.undef,.undef,.undef,.undef,.undef,.undef,.undef,.undef,.undef,.undef,.undef,.undef,.undef,.undef,.undef,.undef,.undef,.undef,.undef,.undef,.undef,.undef,.undef,.undef,.undef,.undef,.undef,.undef,.undef,.undef,.undef,.undef,.undef,.undef,.undef,.undef,.undef,.undef,.undef,.undef,.undef,.undef,.undef],H:=[(.cells [(I L (A 2)),(I L (A 3)),(I L (A 4)),(I L (A 5)),(I L (A 6)),(I L (A 7)),(I L (A 8)),(I L (A 9)),(.va 1)] 26 false),(.cells [(I L (A 10)),(I L (A 11)),(I L (A 12)),(I L (A 13)),(I L (A 14)),(I L (A 15))] 23 false)],ni:=16,nb:=0,nv:=2,nj:=51 },
 { todo:=[(.code [false,false,true,true,true,false,false,true,false,false,true,false,true,true,true]),(.inLoop [false,false,true,true,true,false,false,true,false,false,true,false,true,true,true]),(.inBlock 2),(.inBlock 1),(.code [true,true,false,false,true,false,true,true,true]),(.inLoop [false,false,true,false,true,true,true]),(.inBlock 0),(.code [true,true,true,true])],sl:=[(.junk 0),(.junk 1),(.ptr 0 0),(.ptr 1 0),(.junk 2),(I L (A 0)),(.va 0),(I L (A 1)),(.va 1),(I L (A 2)),.undef,(.junk 3),(.junk 4),(.junk 5),(.junk 6),(.junk 7),(.junk 8),(.junk 9),(.junk 10),(.junk 11),(.junk 12),(.junk 13),(.junk 14),(.junk 15),(.junk 16),(.junk 17),(.junk 18),(.junk 19),(.junk 20),(.junk 21),(.junk 22),(.junk 23),(.junk 24),(.junk 25),(.junk 26),(.junk 27),(.junk 28),(.junk 29),(.junk 30),(.junk 31),(.junk 32),(.junk 33),(.junk 34),(.junk 35),(.junk 36),(.junk 37),(.junk 38),(.junk 39),(.junk 40),(.junk 41),(.junk 42),(.junk 43),(.junk 44),(.junk 45),(.junk 46),(.junk 47),(.junk 48),.undef,.undef,.undef,.undef,.undef,.undef,.undef,.undef,.undef,.undef,.undef,.undef,.undef,.undef,.undef,.undef,.undef,.undef,.undef,.undef,.undef,.undef,.undef,.undef,.undef,.undef,.undef,.undef,.undef,.undef,.undef,.undef,.undef,.undef,.undef,.undef,.undef,.undef,.undef,.undef,.undef,.undef,.undef,.undef,.undef,.undef,.undef,.undef,.undef,.undef,.undef,.undef,.undef],H:=[(.cells [(I L (A 3)),(I L (A 4)),(I L (A 5)),(I L (A 6)),(I L (A 7)),(I L (A 8)),(I L (A 9)),(I L (A 10)),(.va 2)] 26 false),(.cells [(I L (A 11)),(I L (A 12)),(I L (A 13)),(I L (A 14)),(I L (A 15)),(I L (A 16))] 23 false)],ni:=17,nb:=0,nv:=3,nj:=49 },
 { todo:=[(.code [false,false,true,false,true,true,true,true]),(.inLoop [false,false,true,false,true,true,true,true]),(.inBlock 4),(.code [true,true,true,true,true])],sl:=[(.junk 0),(.junk 1),(.ptr 0 0),(.ptr 1 0),(.junk 2),(I L (A 0)),(.va 0),(.junk 3),(.junk 4),(.junk 5),(I L (A 1)),(.junk 6),(.junk 7),(.junk 8),(.junk 9),(.junk 10),(.junk 11),(.junk 12),(.junk 13),(.junk 14),(.junk 15),(.junk 16),(.junk 17),(.junk 18),(.junk 19),(.junk 20),(.junk 21),(.junk 22),(.junk 23),(.junk 24),(.junk 25),(.junk 26),(.junk 27),(.junk 28),(.junk 29),(.junk 30),(.junk 31),(.junk 32),(.junk 33),(.junk 34),(.junk 35),(.junk 36),(.junk 37),(.junk 38),(.junk 39),(.junk 40),(.junk 41),(.junk 42),(.junk 43),(.junk 44),(.junk 45),(.junk 46),(.junk 47),(.junk 48),(.junk 49),(.junk 50),(.junk 51),(.junk 52),(.junk 53),(.junk 54),(.junk 55),(.junk 56),(.junk 57),(.junk 58),(.junk 59),(.junk 60),(.junk 61),(.junk 62),(.junk 63),(.junk 64),(.junk 65),(.junk 66),(.junk 67),(.junk 68),(.junk 69),(.junk 70),(.junk 71),(.junk 72),(.junk 73),(.junk 74),(.junk 75),(.junk 76),(.junk 77),(.junk 78),(.junk 79),(.junk 80),(.junk 81),(.junk 82),(.junk 83),(.junk 84),(.junk 85),(.junk 86),(.junk 87),(.junk 88),(.junk 89),(.junk 90),(.junk 91),(.junk 92),(.junk 93),(.junk 94),(.junk 95),(.junk 96),(.junk 97),(.junk 98),(.junk 99),(.junk 100),(.junk 101),(.junk 102),(.junk 103),.undef],H:=[(.cells [(I L (A 2)),(I L (A 3)),(I L (A 4)),(I L (A 5)),(I L (A 6)),(I L (A 7)),(I L (A 8)),(I L (A 9)),(.va 1)] 26 false),(.cells [(I L (A 10)),(I L (A 11)),(I L (A 12)),(I L (A 13)),(I L (A 14)),(I L (A 15))] 23 false)],ni:=16,nb:=0,nv:=2,nj:=104 }]
theorem b2N:SysOk Try.prog 51 saleroomref13_all_S:=a0O (c:=(cg [[false,false,true,false,true,true,true],[false,false,true,true,true,false,false,true,false,false,true,false,true,true,true],[false,false,true,false,true,true,true,true]] [] [] false true false true [] [2])) (a0s _ _ _ _ _ _ _ _ _) Try.func51 Try.call51 (by kernel_rfl) b0Z saleroomref13_all_S 5000 rfl (by kernel_rfl) (by kernel_rfl) rfl
def b1p:PT :=
 (.newM [(I L (E 0))] 3
 (.storeM (.pa 1 0) [(I L (E 0))]
 (.call 67 [(.agg [(.fn 90 0 [(.pa 1 0)])]),(.agg [(I L (A 0)),(I L (A 1)),(I L (A 2)),(I L (A 3)),(I L (A 4)),(I L (A 5)),(I L (A 6)),(I L (A 7)),(.va 0)])] [] [(.one .bool)]
 (.load false (.pa 1 0) [(D L)]
 (.ret false (I L (A 8)) [])))))
def expr_Size_S:Sx.Sys:=⟨[(.sh (.agg [(D L),(D L),(D L),(D L),(D L),(D L),(D L),(D L),.val]))],b1p,[],none,none⟩
def b9o:List Cfg:=[]
theorem c1u:SysOk Try.prog 68 expr_Size_S:=a0O (c:=(cg [] [3] [] true false false true)) (a0s _ _ _ _ _ _ _ _ _) Try.func68 Try.call68 (by kernel_rfl) b9o expr_Size_S 5000 rfl (by kernel_rfl) (by kernel_rfl) rfl
def a3M:PT :=
 (.rng 1
 (.jump 0 [(.a 0),(.a 1),(.a 2),(.a 3),(.a 4),(.a 5)] [] [(.va 0),(.va 2)]))
def a3u:PT :=
 (.next 1 6
 (.ret false (.tup []) [])
 (.entry 1 6
 (.call 75 [(.va 0),(.agg [(I L (A 0)),(I L (A 1)),(I L (A 2)),(I L (A 3)),(I L (A 4)),(I L (A 5))]),(.agg [(I L (A 13)),(I L (A 14)),(I L (A 15)),(I L (A 16)),(I L (A 17)),(I L (A 18))]),(I L (A 19))] [] []
 (.jump 0 [(.a 0),(.a 1),(.a 2),(.a 3),(.a 4),(.a 5)] [] [(.va 0),(.va 1)]))))
def valuation_worths_merge_S:Sx.Sys:=⟨[(.sh (.one .val)),(.sh (.agg [(D L),(D L),(D L),(D L),(D L),(D L)])),(.sh (.one .val))],a3M,[a3u],none,none⟩
def a8h:List Cfg:=[{ todo:=[(.code [false,false,true,true]),(.inLoop [false,false,true,true]),(.inBlock 0)],sl:=[(.va 0),(.junk 0),(.junk 1),.undef,(.ptr 0 0),.undef,(.junk 2),(.junk 3),(.junk 4),(.va 1),(.junk 5),(.junk 6),(.junk 7),(.junk 8),(.junk 9),(.junk 10),(.junk 11),(.junk 12),(.junk 13),(.junk 14)],H:=[(.cells [(I L (A 0)),(I L (A 1)),(I L (A 2)),(I L (A 3)),(I L (A 4)),(I L (A 5))] 23 false)],ni:=6,nb:=0,nv:=2,nj:=15 }]
theorem a8R:SysIs Try.prog 76 valuation_worths_merge_S:=b4E (c:=(cg [[false,false,true,true]] [] [] false false false true)) (a0s _ _ _ _ _ _ _ _ _) Try.func76 Try.call76 (by kernel_rfl) a8h valuation_worths_merge_S 5000 rfl (by kernel_rfl) (by kernel_rfl)
def a5u:PT :=
 (.call 83 [(.agg [(I L (A 0)),(I L (A 1)),(I L (A 2)),(I L (A 3)),(I L (A 4)),(I L (A 5))])] [] [(.one (D L))]
 (.mkM (.a 6) [(I L (E 0))] 2 1 8
 (.mkM (.a 6) [(I L (E 0)),(I L (E 0)),(I L (E 0)),(I L (E 0)),(I L (E 0)),(I L (E 0))] 23 6 48
 (.jump 0 [(.a 6),(.l 0),(.a 0),(.a 1),(.a 2),(.a 3),(.a 4),(.a 5)] [] [(.va 0),(.va 1),(.va 2),(.va 3)]))))
def a2U:PT :=
 (.ite (.lt (.a 1) (.a 0))
 (.call 58 [(.agg [(I L (A 2)),(I L (A 3)),(I L (A 4)),(I L (A 5)),(I L (A 6)),(I L (A 7))]),(I L (A 1))] [] [(.agg [(D L),(D L),(D L),(D L),(D L),(D L)])]
 (.need (treeI (.a 1) (.slen 3))
 (.storeM (.ea 3 (.a 1) 6 0) [(I L (A 8)),(I L (A 9)),(I L (A 10)),(I L (A 11)),(I L (A 12)),(I L (A 13))]
 (.need (treeB (.add (.a 1) (.l 1)))
 (.jump 0 [(.a 0),(.add (.a 1) (.l 1)),(.a 2),(.a 3),(.a 4),(.a 5),(.a 6),(.a 7)] [] [(.va 0),(.va 1),(.va 2),(.va 3)])))))
 (.jump 1 [(.a 0),(.l 0),(.a 2),(.a 3),(.a 4),(.a 5),(.a 6),(.a 7)] [] [(.va 0),(.va 1),(.va 2),(.va 3)]))
def a2T:PT :=
 (.ite (.lt (.a 1) (.a 0))
 (.need (treeI (.a 1) (.slen 3))
 (.load false (.ea 3 (.a 1) 6 0) [(D L),(D L),(D L),(D L),(D L),(D L)]
 (.jump 2 [(.a 0),(.a 1),(.l 0),(.a 2),(.a 3),(.a 4),(.a 5),(.a 6),(.a 7),(.a 8),(.a 9),(.a 10),(.a 11),(.a 12),(.a 13)] [] [(.va 0),(.va 1),(.va 2),(.va 3)])))
 (.ret true (.va 2) []))
def a4h:PT :=
 (.load false (.ea 0 (.a 2) 1 0) [(D L)]
   (.call 94 [(.agg [(I L (A 3)),(I L (A 4)),(I L (A 5)),(I L (A 6)),(I L (A 7)),(I L (A 8))]),(.agg [(.int .i64 (.sub (.a 9) (.a 15))),(.int .i64 (.sub (.a 10) (.a 16))),(.int .i64 (.sub (.a 11) (.a 17))),(.int .i64 (.sub (.a 12) (.a 18))),(.int .i64 (.sub (.a 13) (.a 19))),(.int .i64 (.sub (.a 14) (.a 20)))])] [] [(.one (D L))]
   (.need (treeI (.a 23) (.slen 1))
   (.load false (.ea 1 (.a 23) 1 0) [(D L)]
   (.need (treeB (.add (.a 22) (.a 24)))
   (.need (treeI (.a 1) (.slen 2))
   (.storeM (.ea 2 (.a 1) 1 0) [(.int .i64 (.mx (.a 21) (.add (.a 22) (.a 24))))]
   (.need (treeB (.add (.a 2) (.l 1)))
   (.jump 2 [(.a 0),(.a 1),(.add (.a 2) (.l 1)),(.a 3),(.a 4),(.a 5),(.a 6),(.a 7),(.a 8),(.a 9),(.a 10),(.a 11),(.a 12),(.a 13),(.a 14)] [] [(.va 0),(.va 1),(.va 2),(.va 3)])))))))))
def a4f:PT :=
 (.call 94 [(.agg [(I L (A 3)),(I L (A 4)),(I L (A 5)),(I L (A 6)),(I L (A 7)),(I L (A 8))]),(.agg [(.int .i64 (.sub (.a 9) (.a 15))),(.int .i64 (.sub (.a 10) (.a 16))),(.int .i64 (.sub (.a 11) (.a 17))),(.int .i64 (.sub (.a 12) (.a 18))),(.int .i64 (.sub (.a 13) (.a 19))),(.int .i64 (.sub (.a 14) (.a 20)))])] [] [(.one (D L))]
   (.need (treeI (.a 22) (.slen 1))
   (.load false (.ea 0 (.a 2) 1 0) [(D L)]
   (.load false (.ea 1 (.a 22) 1 0) [(D L)]
   (.need (treeB (.add (.a 23) (.a 24)))
   (.need (treeI (.a 1) (.slen 2))
   (.storeM (.ea 2 (.a 1) 1 0) [(.int .i64 (.mx (.a 21) (.add (.a 23) (.a 24))))]
   (.need (treeB (.add (.a 2) (.l 1)))
   (.jump 2 [(.a 0),(.a 1),(.add (.a 2) (.l 1)),(.a 3),(.a 4),(.a 5),(.a 6),(.a 7),(.a 8),(.a 9),(.a 10),(.a 11),(.a 12),(.a 13),(.a 14)] [] [(.va 0),(.va 1),(.va 2),(.va 3)])))))))))
def a4j:PT :=
 (.load false (.ea 2 (.a 1) 1 0) [(D L)]
  (.both a4h a4f))
def a4e:PT :=
 (.load false (.ea 2 (.a 1) 1 0) [(D L)]
   (.call 94 [(.agg [(I L (A 3)),(I L (A 4)),(I L (A 5)),(I L (A 6)),(I L (A 7)),(I L (A 8))]),(.agg [(.int .i64 (.sub (.a 9) (.a 15))),(.int .i64 (.sub (.a 10) (.a 16))),(.int .i64 (.sub (.a 11) (.a 17))),(.int .i64 (.sub (.a 12) (.a 18))),(.int .i64 (.sub (.a 13) (.a 19))),(.int .i64 (.sub (.a 14) (.a 20)))])] [] [(.one (D L))]
   (.need (treeI (.a 23) (.slen 1))
   (.load false (.ea 1 (.a 23) 1 0) [(D L)]
   (.need (treeB (.add (.a 21) (.a 24)))
   (.need (treeI (.a 1) (.slen 2))
   (.storeM (.ea 2 (.a 1) 1 0) [(.int .i64 (.mx (.a 22) (.add (.a 21) (.a 24))))]
   (.need (treeB (.add (.a 2) (.l 1)))
   (.jump 2 [(.a 0),(.a 1),(.add (.a 2) (.l 1)),(.a 3),(.a 4),(.a 5),(.a 6),(.a 7),(.a 8),(.a 9),(.a 10),(.a 11),(.a 12),(.a 13),(.a 14)] [] [(.va 0),(.va 1),(.va 2),(.va 3)])))))))))
def a4l:PT :=
 (.call 94 [(.agg [(I L (A 3)),(I L (A 4)),(I L (A 5)),(I L (A 6)),(I L (A 7)),(I L (A 8))]),(.agg [(.int .i64 (.sub (.a 9) (.a 15))),(.int .i64 (.sub (.a 10) (.a 16))),(.int .i64 (.sub (.a 11) (.a 17))),(.int .i64 (.sub (.a 12) (.a 18))),(.int .i64 (.sub (.a 13) (.a 19))),(.int .i64 (.sub (.a 14) (.a 20)))])] [] [(.one (D L))]
   (.need (treeI (.a 22) (.slen 1))
   (.load false (.ea 1 (.a 22) 1 0) [(D L)]
   (.need (treeB (.add (.a 21) (.a 23)))
   (.load false (.ea 2 (.a 1) 1 0) [(D L)]
   (.need (treeI (.a 1) (.slen 2))
   (.storeM (.ea 2 (.a 1) 1 0) [(.int .i64 (.mx (.a 24) (.add (.a 21) (.a 23))))]
   (.need (treeB (.add (.a 2) (.l 1)))
   (.jump 2 [(.a 0),(.a 1),(.add (.a 2) (.l 1)),(.a 3),(.a 4),(.a 5),(.a 6),(.a 7),(.a 8),(.a 9),(.a 10),(.a 11),(.a 12),(.a 13),(.a 14)] [] [(.va 0),(.va 1),(.va 2),(.va 3)])))))))))
def a4q:PT :=
 (.load false (.ea 0 (.a 2) 1 0) [(D L)]
   (.both a4e a4l))
def a4n:PT :=
 (.call 94 [(.agg [(I L (A 3)),(I L (A 4)),(I L (A 5)),(I L (A 6)),(I L (A 7)),(I L (A 8))]),(.agg [(.int .i64 (.sub (.a 9) (.a 15))),(.int .i64 (.sub (.a 10) (.a 16))),(.int .i64 (.sub (.a 11) (.a 17))),(.int .i64 (.sub (.a 12) (.a 18))),(.int .i64 (.sub (.a 13) (.a 19))),(.int .i64 (.sub (.a 14) (.a 20)))])] [] [(.one (D L))]
   (.need (treeI (.a 21) (.slen 1))
   (.load false (.ea 0 (.a 2) 1 0) [(D L)]
   (.load false (.ea 1 (.a 21) 1 0) [(D L)]
   (.need (treeB (.add (.a 22) (.a 23)))
   (.load false (.ea 2 (.a 1) 1 0) [(D L)]
   (.need (treeI (.a 1) (.slen 2))
   (.storeM (.ea 2 (.a 1) 1 0) [(.int .i64 (.mx (.a 24) (.add (.a 22) (.a 23))))]
   (.need (treeB (.add (.a 2) (.l 1)))
   (.jump 2 [(.a 0),(.a 1),(.add (.a 2) (.l 1)),(.a 3),(.a 4),(.a 5),(.a 6),(.a 7),(.a 8),(.a 9),(.a 10),(.a 11),(.a 12),(.a 13),(.a 14)] [] [(.va 0),(.va 1),(.va 2),(.va 3)]))))))))))
def a4m:PT :=
 (.both a4q a4n)
def a1N:PT :=
 (.ite (.le (.a 2) (.a 1))
 (.need (treeI (.a 2) (.slen 3))
 (.load false (.ea 3 (.a 2) 6 0) [(D L),(D L),(D L),(D L),(D L),(D L)]
 (.call 57 [(.agg [(I L (A 15)),(I L (A 16)),(I L (A 17)),(I L (A 18)),(I L (A 19)),(I L (A 20))]),(.agg [(I L (A 9)),(I L (A 10)),(I L (A 11)),(I L (A 12)),(I L (A 13)),(I L (A 14))])] [] [(.one .bool)]
 (.ite (.not (.a 0))
  (.need (treeB (.add (.a 2) (.l 1)))
  (.jump 2 [(.a 0),(.a 1),(.add (.a 2) (.l 1)),(.a 3),(.a 4),(.a 5),(.a 6),(.a 7),(.a 8),(.a 9),(.a 10),(.a 11),(.a 12),(.a 13),(.a 14)] [] [(.va 0),(.va 1),(.va 2),(.va 3)]))
  (.need (treeB (.sub (.a 9) (.a 15)))
  (.need (treeB (.sub (.a 10) (.a 16)))
  (.need (treeB (.sub (.a 11) (.a 17)))
  (.need (treeB (.sub (.a 12) (.a 18)))
  (.need (treeB (.sub (.a 13) (.a 19)))
  (.need (treeB (.sub (.a 14) (.a 20)))
  (.need (treeI (.a 1) (.slen 2))
  (.need (treeI (.a 2) (.slen 0))
  (.both a4j a4m)))))))))))))
 (.need (treeB (.add (.a 1) (.l 1)))
 (.jump 1 [(.a 0),(.add (.a 1) (.l 1)),(.a 3),(.a 4),(.a 5),(.a 6),(.a 7),(.a 8)] [] [(.va 0),(.va 1),(.va 2),(.va 3)])))
def saleroomref13_or_S:Sx.Sys:=⟨[(.sh (.agg [(D L),(D L),(D L),(D L),(D L),(D L)])),(.sh (.one .val)),(.sh (.one .val))],a5u,[a2U,a2T,a1N],none,none⟩
def b2x:List Cfg:=[{ todo:=[(.code [false,false,true,false,true,true,true,true]),(.inLoop [false,false,true,false,true,true,true,true]),(.inBlock 0),(.code [true,true,true,true,true])],sl:=[(.junk 0),(.va 0),(.va 1),(.ptr 0 0),.undef,.undef,(.junk 1),(I L (A 0)),(.va 2),(.va 3),(I L (A 1)),.undef,.undef,.undef,.undef,.undef,.undef,(.junk 2),(.junk 3),(.junk 4),(.junk 5),(.junk 6),(.junk 7),(.junk 8),(.junk 9),(.junk 10),(.junk 11),(.junk 12),(.junk 13),(.junk 14),(.junk 15),(.junk 16),(.junk 17),(.junk 18),.undef,.undef,.undef,.undef,.undef,.undef,.undef,.undef,.undef,.undef,.undef,.undef,.undef,.undef,.undef,.undef,.undef,.undef,.undef,.undef,.undef,.undef,.undef,.undef,.undef,.undef,.undef,.undef,.undef,.undef,.undef,.undef,.undef,.undef,.undef,.undef,.undef,.undef,.undef,.undef,.undef,.undef,.undef,.undef,.undef,.undef,.undef,.undef,.undef,.undef,.undef,.undef,.undef,.undef,.undef,.undef],H:=[(.cells [(I L (A 2)),(I L (A 3)),(I L (A 4)),(I L (A 5)),(I L (A 6)),(I L (A 7))] 23 false)],ni:=8,nb:=0,nv:=4,nj:=19 },
 { todo:=[(.code [false,false,true,false,true,true,true,true,true]),(.inLoop [false,false,true,false,true,true,true,true,true]),(.inBlock 2),(.code [true,true,true,true,true,true])],sl:=[(.junk 0),(.va 0),(.va 1),(.ptr 0 0),.undef,.undef,(.junk 1),(I L (A 0)),(.va 2),(.va 3),(.junk 2),(I L (A 1)),(.junk 3),(.junk 4),(.junk 5),(.junk 6),(.junk 7),(.junk 8),(.junk 9),(.junk 10),(.junk 11),(.junk 12),(.junk 13),(.junk 14),(.junk 15),(.junk 16),(.junk 17),(.junk 18),(.junk 19),(.junk 20),(.junk 21),(.junk 22),(.junk 23),(.junk 24),(.junk 25),(.junk 26),(.junk 27),(.junk 28),(.junk 29),(.junk 30),(.junk 31),(.junk 32),(.junk 33),(.junk 34),(.junk 35),(.junk 36),(.junk 37),(.junk 38),(.junk 39),(.junk 40),(.junk 41),(.junk 42),(.junk 43),(.junk 44),(.junk 45),(.junk 46),(.junk 47),(.junk 48),(.junk 49),(.junk 50),(.junk 51),(.junk 52),(.junk 53),(.junk 54),(.junk 55),(.junk 56),(.junk 57),(.junk 58),(.junk 59),(.junk 60),(.junk 61),(.junk 62),(.junk 63),(.junk 64),(.junk 65),(.junk 66),(.junk 67),(.junk 68),(.junk 69),(.junk 70),(.junk 71),(.junk 72),(.junk 73),(.junk 74),(.junk 75),(.junk 76),(.junk 77),(.junk 78),(.junk 79),.undef],H:=[(.cells [(I L (A 2)),(I L (A 3)),(I L (A 4)),(I L (A 5)),(I L (A 6)),(I L (A 7))] 23 false)],ni:=8,nb:=0,nv:=4,nj:=80 },
 { todo:=[(.code [false,false,true,true,false,false,true,false,false,true,false,true,true,true,true,true]),(.inLoop [false,false,true,true,false,false,true,false,false,true,false,true,true,true,true,true]),(.inBlock 4),(.inBlock 3),(.code [true,true,false,false,true,false,true,true,true,true,true]),(.inLoop [false,false,true,false,true,true,true,true,true]),(.inBlock 2),(.code [true,true,true,true,true,true])],sl:=[(.junk 0),(.va 0),(.va 1),(.ptr 0 0),.undef,.undef,(.junk 1),(I L (A 0)),(.va 2),(.va 3),(.junk 2),(I L (A 1)),(.ptr 1 0),(I L (A 2)),(.junk 3),(.junk 4),(.junk 5),(.junk 6),(.junk 7),(.junk 8),(.junk 9),(.junk 10),(.junk 11),(.junk 12),(.junk 13),(.junk 14),(.junk 15),(.junk 16),(.junk 17),(.junk 18),(.junk 19),(.junk 20),(.junk 21),(.junk 22),(.junk 23),(.junk 24),(.junk 25),(.junk 26),(.junk 27),(.junk 28),(.junk 29),(.junk 30),(.junk 31),(.junk 32),(.junk 33),(.junk 34),(.junk 35),(.junk 36),(.junk 37),(.junk 38),(.junk 39),(.junk 40),(.junk 41),(.junk 42),(.junk 43),(.junk 44),(.junk 45),(.junk 46),(.junk 47),(.junk 48),(.junk 49),(.junk 50),(.junk 51),(.junk 52),(.junk 53),(.junk 54),(.junk 55),(.junk 56),(.junk 57),(.junk 58),(.junk 59),(.junk 60),(.junk 61),(.junk 62),(.junk 63),(.junk 64),(.junk 65),(.junk 66),(.junk 67),(.junk 68),(.junk 69),(.junk 70),(.junk 71),(.junk 72),(.junk 73),(.junk 74),(.junk 75),(.junk 76),(.junk 77),.undef],H:=[(.cells [(I L (A 3)),(I L (A 4)),(I L (A 5)),(I L (A 6)),(I L (A 7)),(I L (A 8))] 23 false),(.cells [(I L (A 9)),(I L (A 10)),(I L (A 11)),(I L (A 12)),(I L (A 13)),(I L (A 14))] 23 false)],ni:=15,nb:=0,nv:=4,nj:=78 }]
theorem b4a:SysOk Try.prog 84 saleroomref13_or_S:=a0O (c:=(cg [[false,false,true,false,true,true,true,true],[false,false,true,false,true,true,true,true,true],[false,false,true,true,false,false,true,false,false,true,false,true,true,true,true,true]] [] [] false true false true [] [2])) (a0s _ _ _ _ _ _ _ _ _) Try.func84 Try.call84 (by kernel_rfl) b2x saleroomref13_or_S 5000 rfl (by kernel_rfl) (by kernel_rfl) rfl
def a9I:PT :=
 (.need (treeB (.add (.a 0) (.a 6)))
 (.need (treeB (.add (.a 1) (.a 7)))
 (.need (treeB (.add (.a 2) (.a 8)))
 (.need (treeB (.add (.a 3) (.a 9)))
 (.need (treeB (.add (.a 4) (.a 10)))
 (.need (treeB (.add (.a 5) (.a 11)))
 (.ret false (.agg [(.int .i64 (.add (.a 0) (.a 6))),(.int .i64 (.add (.a 1) (.a 7))),(.int .i64 (.add (.a 2) (.a 8))),(.int .i64 (.add (.a 3) (.a 9))),(.int .i64 (.add (.a 4) (.a 10))),(.int .i64 (.add (.a 5) (.a 11)))]) [])))))))
def bundle_Add_S:Sx.Sys:=⟨[(.sh (.agg [(D L),(D L),(D L),(D L),(D L),(D L)])),(.sh (.agg [(D L),(D L),(D L),(D L),(D L),(D L)]))],a9I,[],none,none⟩
def b8c:List Cfg:=[]
theorem b3R:SysOk Try.prog 92 bundle_Add_S:=a0O (c:=(cg [] [] [] false false false true)) (a0s _ _ _ _ _ _ _ _ _) Try.func92 Try.call92 (by kernel_rfl) b8c bundle_Add_S 5000 rfl (by kernel_rfl) (by kernel_rfl) rfl
end Go.Proofs.Ythmkfeiapdbojaa
set_option maxRecDepth 100000
namespace Go.Proofs.Ythmkfeiapdbojaa
open Go.Sx
def a8J:PT :=
 (.call 42 [(.agg [(I L (A 0)),(I L (A 1)),(I L (A 2)),(I L (A 3)),(I L (A 4)),(I L (A 5)),(I L (A 6)),(I L (A 7)),(.va 0)])] [] [(.one (D L))]
 (.ite (.not (.eq (.a 14) (.l 0)))
 (.ret false (I L (E 0)) [])
 (.call 48 [(.agg [(I L (A 8)),(I L (A 9)),(I L (A 10)),(I L (A 11)),(I L (A 12)),(I L (A 13))])] [] [(.one (D L))]
 (.ite (.not (.eq (.a 15) (.l 0)))
  (.ret false (I L (E 0)) [])
  (.call 49 [(.agg [(I L (A 0)),(I L (A 1)),(I L (A 2)),(I L (A 3)),(I L (A 4)),(I L (A 5)),(I L (A 6)),(I L (A 7)),(.va 0)]),(.agg [(I L (A 8)),(I L (A 9)),(I L (A 10)),(I L (A 11)),(I L (A 12)),(I L (A 13))])] [] [(.one .val)]
  (.rng 1
  (.jump 0 [(.l 0)] [] [(.va 2)])))))))
def a8c:PT :=
 (.next 0 6
 (.ret false (I L (A 0)) [])
 (.entry 0 6
 (.jump 0 [(.mx (.a 0) (.a 14))] [] [(.va 0)])))
def valuation_Value_S:Sx.Sys:=⟨[(.sh (.agg [(D L),(D L),(D L),(D L),(D L),(D L),(D L),(D L),.val])),(.sh (.agg [(D L),(D L),(D L),(D L),(D L),(D L)]))],a8J,[a8c],none,none⟩
def b3p:List Cfg:=[{ todo:=[(.code [false,false,true,false,true,true,true]),(.inLoop [false,false,true,false,true,true,true]),(.inBlock 0),(.code [true,true,true,true])],sl:=[(.junk 0),(.junk 1),(.junk 2),(.junk 3),(.junk 4),(I L (A 0)),.undef,(.junk 5),(.junk 6),(.junk 7),(.junk 8),(.junk 9),(.junk 10),(.junk 11),(.junk 12),(.junk 13),(.junk 14),(.junk 15),(.junk 16),(.va 0),(.junk 17),(.junk 18),(.junk 19),(.junk 20),(.junk 21),(.junk 22),(.junk 23),.undef],H:=[],ni:=1,nb:=0,nv:=1,nj:=24 }]
theorem b5e:SysIs Try.prog 18 valuation_Value_S:=b4E (c:=(cg [[false,false,true,false,true,true,true]] [] [] false false false true)) (a0s _ _ _ _ _ _ _ _ _) Try.func18 Try.call18 (by kernel_rfl) b3p valuation_Value_S 5000 rfl (by kernel_rfl) (by kernel_rfl)
def a4F:PT :=
 (.call 48 [(.agg [(I L (A 0)),(I L (A 1)),(I L (A 2)),(I L (A 3)),(I L (A 4)),(I L (A 5))])] [] [(.one (D L))]
 (.ite (.not (.eq (.a 6) (.l 0)))
 (.ret false (I L (E 0)) [])
 (.need (treeB (.add (.a 0) (.l 1)))
 (.need (treeB (.mul (.l 1) (.add (.a 0) (.l 1))))
 (.need (treeB (.add (.a 1) (.l 1)))
 (.need (treeB (.mul (.mul (.l 1) (.add (.a 0) (.l 1))) (.add (.a 1) (.l 1))))
 (.need (treeB (.add (.a 2) (.l 1)))
 (.need (treeB (.mul (.mul (.mul (.l 1) (.add (.a 0) (.l 1))) (.add (.a 1) (.l 1))) (.add (.a 2) (.l 1))))
 (.need (treeB (.add (.a 3) (.l 1)))
 (.need (treeB (.mul (.mul (.mul (.mul (.l 1) (.add (.a 0) (.l 1))) (.add (.a 1) (.l 1))) (.add (.a 2) (.l 1))) (.add (.a 3) (.l 1))))
 (.need (treeB (.add (.a 4) (.l 1)))
 (.need (treeB (.mul (.mul (.mul (.mul (.mul (.l 1) (.add (.a 0) (.l 1))) (.add (.a 1) (.l 1))) (.add (.a 2) (.l 1))) (.add (.a 3) (.l 1))) (.add (.a 4) (.l 1))))
 (.need (treeB (.add (.a 5) (.l 1)))
 (.need (treeB (.mul (.mul (.mul (.mul (.mul (.mul (.l 1) (.add (.a 0) (.l 1))) (.add (.a 1) (.l 1))) (.add (.a 2) (.l 1))) (.add (.a 3) (.l 1))) (.add (.a 4) (.l 1))) (.add (.a 5) (.l 1))))
 (.ite (.lt (.l 1024) (.mul (.mul (.mul (.mul (.mul (.mul (.l 1) (.add (.a 0) (.l 1))) (.add (.a 1) (.l 1))) (.add (.a 2) (.l 1))) (.add (.a 3) (.l 1))) (.add (.a 4) (.l 1))) (.add (.a 5) (.l 1))))
  (.ret false (I L (E 0)) [])
  (.ret false (.int .i64 (.mul (.mul (.mul (.mul (.mul (.mul (.l 1) (.add (.a 0) (.l 1))) (.add (.a 1) (.l 1))) (.add (.a 2) (.l 1))) (.add (.a 3) (.l 1))) (.add (.a 4) (.l 1))) (.add (.a 5) (.l 1)))) []))))))))))))))))
def bundle_Count_S:Sx.Sys:=⟨[(.sh (.agg [(D L),(D L),(D L),(D L),(D L),(D L)]))],a4F,[],none,none⟩
def b5Z:List Cfg:=[]
theorem b8o:SysOk Try.prog 52 bundle_Count_S:=a0O (c:=(cg [] [] [] false false false true)) (a0s _ _ _ _ _ _ _ _ _) Try.func52 Try.call52 (by kernel_rfl) b5Z bundle_Count_S 5000 rfl (by kernel_rfl) (by kernel_rfl) rfl
def a4w:PT :=
 (.call 70 [(.agg [(I L (A 0)),(I L (A 1)),(I L (A 2)),(I L (A 3)),(I L (A 4)),(I L (A 5)),(I L (A 6)),(I L (A 7)),(.va 0)])] [] [(.one .bool)]
 (.ite (.not (.a 0))
 (.storeM (.pa 1 0) [(I L (E 2))]
 (.load false (.pa 1 0) [(D L)]
 (.ret true (.bool (.eq (.a 8) (.l 0))) [])))
 (.call 71 [(.agg [(I L (A 0)),(I L (A 1)),(I L (A 2)),(I L (A 3)),(I L (A 4)),(I L (A 5)),(I L (A 6)),(I L (A 7)),(.va 0)])] [] [(.one .bool)]
 (.ite (.not (.a 1))
  (.storeM (.pa 1 0) [(I L (E 4))]
  (.load false (.pa 1 0) [(D L)]
  (.ret true (.bool (.eq (.a 8) (.l 0))) [])))
  (.load false (.pa 1 0) [(D L)]
  (.ret true (.bool (.eq (.a 8) (.l 0))) []))))))
def expr_Check_2_S:Sx.Sys:=⟨[(.sh (.agg [(D L),(D L),(D L),(D L),(D L),(D L),(D L),(D L),.val])),.ptr],a4w,[],none,none⟩
def b5X:List Cfg:=[]
theorem b7L:SysOk Try.prog 69 expr_Check_2_S:=a0O (c:=(cg [] [] [] true true false true)) (a0s _ _ _ _ _ _ _ _ _) Try.func69 Try.call69 (by kernel_rfl) b5X expr_Check_2_S 5000 rfl (by kernel_rfl) (by kernel_rfl) rfl
def a7t:PT :=
 (.mkQ
 (.call 76 [(.va 2),(.agg [(I L (A 0)),(I L (A 1)),(I L (A 2)),(I L (A 3)),(I L (A 4)),(I L (A 5))]),(.va 0)] [] []
 (.call 76 [(.va 2),(.agg [(I L (A 0)),(I L (A 1)),(I L (A 2)),(I L (A 3)),(I L (A 4)),(I L (A 5))]),(.va 1)] [] []
 (.rng 0
 (.jump 0 [(.a 0),(.a 1),(.a 2),(.a 3),(.a 4),(.a 5)] [] [(.va 1),(.va 2),(.va 3)])))))
def a3F:PT :=
 (.next 2 6
 (.ret true (.va 1) [])
 (.entry 2 6
 (.rng 0
 (.jump 1 [(.a 19),(.a 0),(.a 1),(.a 2),(.a 3),(.a 4),(.a 5),(.a 13),(.a 14),(.a 15),(.a 16),(.a 17),(.a 18)] [] [(.va 0),(.va 1),(.va 2),(.va 3)]))))
def a3E:PT :=
 (.next 3 6
 (.jump 0 [(.a 1),(.a 2),(.a 3),(.a 4),(.a 5),(.a 6)] [] [(.va 0),(.va 1),(.va 2)])
 (.entry 3 6
 (.need (treeB (.add (.a 0) (.a 26)))
 (.call 92 [(.agg [(I L (A 7)),(I L (A 8)),(I L (A 9)),(I L (A 10)),(I L (A 11)),(I L (A 12))]),(.agg [(I L (A 20)),(I L (A 21)),(I L (A 22)),(I L (A 23)),(I L (A 24)),(I L (A 25))])] [] [(.agg [(D L),(D L),(D L),(D L),(D L),(D L)])]
 (.call 75 [(.va 1),(.agg [(I L (A 1)),(I L (A 2)),(I L (A 3)),(I L (A 4)),(I L (A 5)),(I L (A 6))]),(.agg [(I L (A 27)),(I L (A 28)),(I L (A 29)),(I L (A 30)),(I L (A 31)),(I L (A 32))]),(.int .i64 (.add (.a 0) (.a 26)))] [] []
 (.jump 1 [(.a 0),(.a 1),(.a 2),(.a 3),(.a 4),(.a 5),(.a 6),(.a 7),(.a 8),(.a 9),(.a 10),(.a 11),(.a 12)] [] [(.va 0),(.va 1),(.va 2),(.va 3)]))))))
def valuation_sum_S:Sx.Sys:=⟨[(.sh (.agg [(D L),(D L),(D L),(D L),(D L),(D L)])),(.sh (.one .val)),(.sh (.one .val))],a7t,[a3F,a3E],none,none⟩
def b5t:List Cfg:=[{ todo:=[(.code [false,false,true,false,true,true,true,true]),(.inLoop [false,false,true,false,true,true,true,true]),(.inBlock 0),(.code [true,true,true,true,true])],sl:=[(.junk 0),(.junk 1),(.va 0),(.ptr 0 0),.undef,.undef,(.junk 2),(.va 1),(.junk 3),(.junk 4),(.junk 5),(.junk 6),(.junk 7),(.junk 8),(.junk 9),(.junk 10),(.junk 11),(.junk 12),(.junk 13),(.junk 14),(.junk 15),(.junk 16),(.va 2),(.junk 17),(.junk 18),(.junk 19),(.junk 20),(.junk 21),(.junk 22),(.junk 23),(.junk 24),(.junk 25),(.junk 26),(.junk 27),(.junk 28),(.junk 29),(.junk 30),(.junk 31),(.junk 32),(.junk 33),(.junk 34),(.junk 35),(.junk 36),(.junk 37),.undef],H:=[(.cells [(I L (A 0)),(I L (A 1)),(I L (A 2)),(I L (A 3)),(I L (A 4)),(I L (A 5))] 23 false)],ni:=6,nb:=0,nv:=3,nj:=38 },
 { todo:=[(.code [false,false,true,true,false,true,true,false,false,true,false,true,true,true,true]),(.inLoop [false,false,true,true,false,true,true,false,false,true,false,true,true,true,true]),(.inBlock 2),(.inBlock 1),(.inLoop [false,false,true,false,true,true,true,true]),(.inBlock 0),(.code [true,true,true,true,true])],sl:=[(.junk 0),(.junk 1),(.va 0),(.ptr 0 0),.undef,.undef,(.junk 2),(.va 1),(.ptr 1 0),(I L (A 0)),(.junk 3),(.junk 4),(.junk 5),(.junk 6),(.junk 7),(.junk 8),(.junk 9),(.junk 10),(.junk 11),(.junk 12),(.junk 13),(.junk 14),(.va 2),(.junk 15),(.junk 16),(.junk 17),(.junk 18),(.junk 19),(.junk 20),(.va 3),(.junk 21),(.junk 22),(.junk 23),(.junk 24),(.junk 25),(.junk 26),(.junk 27),(.junk 28),(.junk 29),(.junk 30),(.junk 31),(.junk 32),(.junk 33),(.junk 34),.undef],H:=[(.cells [(I L (A 1)),(I L (A 2)),(I L (A 3)),(I L (A 4)),(I L (A 5)),(I L (A 6))] 23 false),(.cells [(I L (A 7)),(I L (A 8)),(I L (A 9)),(I L (A 10)),(I L (A 11)),(I L (A 12))] 23 false)],ni:=13,nb:=0,nv:=4,nj:=35 }]
theorem b6Q:SysIs Try.prog 77 valuation_sum_S:=b4E (c:=(cg [[false,false,true,false,true,true,true,true],[false,false,true,true,false,true,true,false,false,true,false,true,true,true,true]] [] [] false true false true)) (a0s _ _ _ _ _ _ _ _ _) Try.func77 Try.call77 (by kernel_rfl) b5t valuation_sum_S 5000 rfl (by kernel_rfl) (by kernel_rfl)
def a4W:PT :=
 (.ite (.lt (.l 1000000) (.a 0))
 (.ret false (I L (E 1000000)) [])
 (.ret false (I L (A 0)) []))
def saleroomref13_held_S:Sx.Sys:=⟨[(.sh (.one (D L)))],a4W,[],none,none⟩
def b0C:List Cfg:=[]
theorem b1J:SysOk Try.prog 85 saleroomref13_held_S:=a0O (c:=(cg [] [] [] false false false true)) (a0s _ _ _ _ _ _ _ _ _) Try.func85 Try.call85 (by kernel_rfl) b0C saleroomref13_held_S 5000 rfl (by kernel_rfl) (by kernel_rfl) rfl
def a4B:PT :=
 (.need (treeB (.a 0))
 (.need (treeB (.add (.a 0) (.a 1)))
 (.need (treeB (.add (.add (.a 0) (.a 1)) (.a 2)))
 (.need (treeB (.add (.add (.add (.a 0) (.a 1)) (.a 2)) (.a 3)))
 (.need (treeB (.add (.add (.add (.add (.a 0) (.a 1)) (.a 2)) (.a 3)) (.a 4)))
 (.need (treeB (.add (.add (.add (.add (.add (.a 0) (.a 1)) (.a 2)) (.a 3)) (.a 4)) (.a 5)))
 (.ret false (.int .i64 (.add (.add (.add (.add (.add (.a 0) (.a 1)) (.a 2)) (.a 3)) (.a 4)) (.a 5))) [])))))))
def saleroomref07_Total_S:Sx.Sys:=⟨[(.sh (.agg [(D L),(D L),(D L),(D L),(D L),(D L)]))],a4B,[],none,none⟩
def a9s:List Cfg:=[]
theorem b1a:SysOk Try.prog 93 saleroomref07_Total_S:=a0O (c:=(cg [] [] [] false false false true)) (a0s _ _ _ _ _ _ _ _ _) Try.func93 Try.call93 (by kernel_rfl) a9s saleroomref07_Total_S 5000 rfl (by kernel_rfl) (by kernel_rfl) rfl
end Go.Proofs.Ythmkfeiapdbojaa
