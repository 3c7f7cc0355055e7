/- The trees of this seat's functions, part 0. Written by txgen.py. -/
import Derived.Test.YtdadenjndpbppaaHTab
set_option linter.unusedSimpArgs false
set_option linter.unusedVariables false
open Go.Sx.SV renaming int → I
open Go.IntKind renaming i64 → L
open Go.Sx.IE renaming a → A, l → E
open Go.Sx.Kd renaming int → D
set_option maxRecDepth 100000
namespace Go.Proofs.Ytdadenjndpbppaa
open Go.Sx
def b1w:PT :=
 (.call 16 [(.agg [(I L (A 0)),(I L (A 1)),(I L (A 2)),(I L (A 3)),(I L (A 4)),(I L (A 5)),(I L (A 6)),(I L (A 7)),(.va 0)])] [] [(.one (D L))]
 (.ite (.lt (.l 6) (.a 8))
 (.ret false (I L (E 9)) [])
 (.call 33 [(.agg [(.fn 32 0 [])]),(.agg [(I L (A 0)),(I L (A 1)),(I L (A 2)),(I L (A 3)),(I L (A 4)),(I L (A 5)),(I L (A 6)),(I L (A 7)),(.va 0)])] [] [(.one .bool)]
 (.ite (.not (.a 0))
  (.ret false (I L (E 3)) [])
  (.call 14 [(.agg [(I L (A 0)),(I L (A 1)),(I L (A 2)),(I L (A 3)),(I L (A 4)),(I L (A 5)),(I L (A 6)),(I L (A 7)),(.va 0)])] [] [(.one (D L))]
  (.ite (.lt (.l 40) (.a 9))
  (.ret false (I L (E 3)) [])
  (.newM [(I L (E 0))] 28
  (.storeM (.pa 1 0) [(I L (E 0))]
  (.call 33 [(.agg [(.fn 34 0 [(.pa 1 0)])]),(.agg [(I L (A 0)),(I L (A 1)),(I L (A 2)),(I L (A 3)),(I L (A 4)),(I L (A 5)),(I L (A 6)),(I L (A 7)),(.va 0)])] [] [(.one .bool)]
  (.load false (.pa 1 0) [(D L)]
  (.ret false (I L (A 10)) [])))))))))))
def expr_Check_S:Sx.Sys:=⟨[(.sh (.agg [(D L),(D L),(D L),(D L),(D L),(D L),(D L),(D L),.val]))],b1w,[],none,none⟩
def a8S:List Cfg:=[]
theorem b1c:SysOk Try.prog 11 expr_Check_S:=a1f (c:=(cg [] [4] [] true false false true)) (a0W _ _ _ _ _ _ _ _ _) Try.func11 Try.call11 (by kernel_rfl) a8S expr_Check_S 5000 rfl (by kernel_rfl) (by kernel_rfl) rfl
def a6N:PT :=
 (.need (.is 2 1)
 (.ite (.nil 1)
 (.call 25 [(.agg [(I L (A 0)),(I L (A 1)),(I L (A 2)),(I L (A 3)),(I L (A 4)),(I L (A 5)),(I L (A 6)),(I L (A 7)),(.va 0)])] [] [(.agg [(D L),(D L),(D L),(D L),(D L),(D L),(D L),(D L),.val])]
 (.ret true (.agg [(I L (A 8)),(I L (A 9)),(I L (A 10)),(I L (A 11)),(I L (A 12)),(I L (A 13)),(I L (A 14)),(I L (A 15)),(.va 2)]) []))
 (.need (.is 0 0)
 (.jump 0 [(.slen 0),(.l 0),(.a 0),(.a 1),(.a 2),(.a 3),(.a 4),(.a 5),(.a 6),(.a 7)] [] [(.va 1),.nilS,(.va 0)]))))
def a5Z:PT :=
 (.ite (.lt (.a 1) (.a 0))
 (.need (treeI (.a 1) (.slen 2))
 (.load false (.ea 2 (.a 1) 9 0) [(D L),(D L),(D L),(D L),(D L),(D L),(D L),(D L),.val]
 (.call 27 [(.agg [(I L (A 10)),(I L (A 11)),(I L (A 12)),(I L (A 13)),(I L (A 14)),(I L (A 15)),(I L (A 16)),(I L (A 17)),(.va 3)]),(.va 0)] [] [(.agg [(D L),(D L),(D L),(D L),(D L),(D L),(D L),(D L),.val])]
 (.app none (.lit [[(I L (A 18)),(I L (A 19)),(I L (A 20)),(I L (A 21)),(I L (A 22)),(I L (A 23)),(I L (A 24)),(I L (A 25)),(.va 4)]]) 9
 (.appM (.va 1) (.va 5) 9 26
 (.need (treeB (.add (.a 1) (.l 1)))
 (.jump 0 [(.a 0),(.add (.a 1) (.l 1)),(.a 2),(.a 3),(.a 4),(.a 5),(.a 6),(.a 7),(.a 8),(.a 9)] [] [(.va 0),(.va 6),(.va 2)])))))))
 (.callv 0 [(.agg [(I L (A 2)),(I L (A 3)),(I L (A 4)),(I L (A 5)),(I L (A 6)),(I L (A 7)),(I L (A 8)),(I L (A 9)),(.va 1)])] [(.agg [(D L),(D L),(D L),(D L),(D L),(D L),(D L),(D L),.val])]
 (.ret true (.agg [(I L (A 10)),(I L (A 11)),(I L (A 12)),(I L (A 13)),(I L (A 14)),(I L (A 15)),(I L (A 16)),(I L (A 17)),(.va 3)]) [])))
def expr_Map_S:Sx.Sys:=⟨[(.sh (.agg [(D L),(D L),(D L),(D L),(D L),(D L),(D L),(D L),.val])),(.sh (.one .val))],a6N,[a5Z],none,none⟩
def b0W:List Cfg:=[{ todo:=[(.code [false,false,true,false,true,true,true]),(.inLoop [false,false,true,false,true,true,true]),(.inBlock 0),(.code [true,true,true,true])],sl:=[(.junk 0),(.va 0),(.ptr 0 0),.undef,(.ptr 1 0),(.va 1),.undef,(.junk 1),(.junk 2),(.junk 3),.undef,.undef,(.junk 4),(.va 2),(I L (A 0)),(I L (A 1))]++jkR 5 10++udR 5,H:=[(.cells [(I L (A 2)),(I L (A 3)),(I L (A 4)),(I L (A 5)),(I L (A 6)),(I L (A 7)),(I L (A 8)),(I L (A 9)),(.va 2)] 26 false),(.cells [(I L (E 0)),(I L (E 0)),(I L (E 0)),(I L (E 0)),(I L (E 0)),(I L (E 0)),(I L (E 0)),(I L (E 0)),.nilS] 26 false)],ni:=10,nb:=0,nv:=3,nj:=15 }]
theorem b2G:SysOk Try.prog 27 expr_Map_S:=a1f (c:=(cg [[false,false,true,false,true,true,true]] [] [(28,[26])] true true true true)) (a0W _ _ _ _ _ _ _ _ _) Try.func27 Try.call27 (by kernel_rfl) b0W expr_Map_S 5000 rfl (by kernel_rfl) (by kernel_rfl) rfl
def b2F:PT :=
 (.need (.is 0 0)
 (.ite (.eq (.a 0) (.l 1))
 (.ret false (.bool (.eq (.slen 0) (.l 0))) [])
 (.ite (.eq (.a 0) (.l 2))
  (.ite (.eq (.a 0) (.l 2))
  (.ite (.le (.l 1) (.slen 0))
   (.ite (.le (.slen 0) (.l 8))
   (.ite (.and (.eq (.a 1) (.l 0)) (.and (.eq (.a 2) (.l 0)) (.and (.eq (.a 3) (.l 0)) (.and (.eq (.a 4) (.l 0)) (.and (.eq (.a 5) (.l 0)) (.eq (.a 6) (.l 0)))))))
    (.ret false (.bool (.eq (.a 7) (.l 0))) [])
    (.ret false (.bool (.t false)) []))
   (.ret false (.bool (.t false)) []))
   (.ret false (.bool (.t false)) []))
  (.ite (.eq (.a 0) (.l 4))
   (.ret false (.bool (.eq (.slen 0) (.l 1))) [])
   (.ite (.eq (.a 0) (.l 5))
   (.ite (.eq (.slen 0) (.l 1))
    (.ret false (.bool (.and (.eq (.a 1) (.l 0)) (.and (.eq (.a 2) (.l 0)) (.and (.eq (.a 3) (.l 0)) (.and (.eq (.a 4) (.l 0)) (.and (.eq (.a 5) (.l 0)) (.eq (.a 6) (.l 0)))))))) [])
    (.ret false (.bool (.t false)) []))
   (.ret false (.bool (.t false)) []))))
  (.ite (.eq (.a 0) (.l 3))
  (.ite (.le (.l 1) (.slen 0))
   (.ite (.le (.slen 0) (.l 8))
   (.ite (.and (.eq (.a 1) (.l 0)) (.and (.eq (.a 2) (.l 0)) (.and (.eq (.a 3) (.l 0)) (.and (.eq (.a 4) (.l 0)) (.and (.eq (.a 5) (.l 0)) (.eq (.a 6) (.l 0)))))))
    (.ret false (.bool (.eq (.a 7) (.l 0))) [])
    (.ret false (.bool (.t false)) []))
   (.ret false (.bool (.t false)) []))
   (.ret false (.bool (.t false)) []))
  (.ite (.eq (.a 0) (.l 4))
   (.ret false (.bool (.eq (.slen 0) (.l 1))) [])
   (.ite (.eq (.a 0) (.l 5))
   (.ite (.eq (.slen 0) (.l 1))
    (.ret false (.bool (.and (.eq (.a 1) (.l 0)) (.and (.eq (.a 2) (.l 0)) (.and (.eq (.a 3) (.l 0)) (.and (.eq (.a 4) (.l 0)) (.and (.eq (.a 5) (.l 0)) (.eq (.a 6) (.l 0)))))))) [])
    (.ret false (.bool (.t false)) []))
   (.ret false (.bool (.t false)) [])))))))
def expr_form_S:Sx.Sys:=⟨[(.sh (.agg [(D L),(D L),(D L),(D L),(D L),(D L),(D L),(D L),.val]))],b2F,[],none,none⟩
def a9L:List Cfg:=[]
theorem b2a:SysOk Try.prog 35 expr_form_S:=a1f (c:=(cg [] [] [] false false false true)) (a0W _ _ _ _ _ _ _ _ _) Try.func35 Try.call35 (by kernel_rfl) a9L expr_form_S 5000 rfl (by kernel_rfl) (by kernel_rfl) rfl
def b1h:PT :=
 (.ret false (.agg [(.int .i64 (.mx (.a 0) (.a 6))),(.int .i64 (.mx (.a 1) (.a 7))),(.int .i64 (.mx (.a 2) (.a 8))),(.int .i64 (.mx (.a 3) (.a 9))),(.int .i64 (.mx (.a 4) (.a 10))),(.int .i64 (.mx (.a 5) (.a 11)))]) [])
def bundle_Join_S:Sx.Sys:=⟨[(.sh (.agg [(D L),(D L),(D L),(D L),(D L),(D L)])),(.sh (.agg [(D L),(D L),(D L),(D L),(D L),(D L)]))],b1h,[],none,none⟩
def a8O:List Cfg:=[]
theorem a9J:SysOk Try.prog 43 bundle_Join_S:=a1f (c:=(cg [] [] [] false false false true)) (a0W _ _ _ _ _ _ _ _ _) Try.func43 Try.call43 (by kernel_rfl) a8O bundle_Join_S 5000 rfl (by kernel_rfl) (by kernel_rfl) rfl
end Go.Proofs.Ytdadenjndpbppaa
set_option maxRecDepth 100000
namespace Go.Proofs.Ytdadenjndpbppaa
open Go.Sx
def b1M:PT :=
 (.ite (.not (.eq (.a 0) (.a 8)))
 (.ret false (.bool (.t false)) [])
 (.ite (.not (.and (.eq (.a 1) (.a 9)) (.and (.eq (.a 2) (.a 10)) (.and (.eq (.a 3) (.a 11)) (.and (.eq (.a 4) (.a 12)) (.and (.eq (.a 5) (.a 13)) (.eq (.a 6) (.a 14))))))))
  (.ret false (.bool (.t false)) [])
  (.ite (.not (.eq (.a 7) (.a 15)))
  (.ret false (.bool (.t false)) [])
  (.need (.is 0 0)
  (.need (.is 0 1)
  (.ite (.not (.eq (.slen 0) (.slen 1)))
   (.ret false (.bool (.t false)) [])
   (.need (.is 0 0)
   (.jump 0 [(.slen 0),(.l 0),(.a 0),(.a 1),(.a 2),(.a 3),(.a 4),(.a 5),(.a 6),(.a 7),(.a 8),(.a 9),(.a 10),(.a 11),(.a 12),(.a 13),(.a 14),(.a 15)] [] [(.va 0),(.va 1)]))))))))
def b0X:PT :=
 (.ite (.lt (.a 1) (.a 0))
 (.need (treeI (.a 1) (.slen 0))
 (.need (treeI (.a 1) (.slen 1))
 (.load false (.ea 0 (.a 1) 9 0) [(D L),(D L),(D L),(D L),(D L),(D L),(D L),(D L),.val]
 (.load false (.ea 1 (.a 1) 9 0) [(D L),(D L),(D L),(D L),(D L),(D L),(D L),(D L),.val]
 (.call 20 [(.agg [(I L (A 18)),(I L (A 19)),(I L (A 20)),(I L (A 21)),(I L (A 22)),(I L (A 23)),(I L (A 24)),(I L (A 25)),(.va 2)]),(.agg [(I L (A 26)),(I L (A 27)),(I L (A 28)),(I L (A 29)),(I L (A 30)),(I L (A 31)),(I L (A 32)),(I L (A 33)),(.va 3)])] [] [(.one .bool)]
 (.ite (.not (.a 0))
  (.ret false (.bool (.t false)) [])
  (.need (treeB (.add (.a 1) (.l 1)))
  (.jump 0 [(.a 0),(.add (.a 1) (.l 1)),(.a 2),(.a 3),(.a 4),(.a 5),(.a 6),(.a 7),(.a 8),(.a 9),(.a 10),(.a 11),(.a 12),(.a 13),(.a 14),(.a 15),(.a 16),(.a 17)] [] [(.va 0),(.va 1)]))))))))
 (.ret false (.bool (.t true)) []))
def expr_Equal_S:Sx.Sys:=⟨[(.sh (.agg [(D L),(D L),(D L),(D L),(D L),(D L),(D L),(D L),.val])),(.sh (.agg [(D L),(D L),(D L),(D L),(D L),(D L),(D L),(D L),.val]))],b1M,[b0X],none,none⟩
def a9D:List Cfg:=[{ todo:=[(.code [false,false,true,false,true,true]),(.inLoop [false,false,true,false,true,true]),(.inBlock 0),(.code [true,true,true])],sl:=[(.junk 0),(.junk 1),(.ptr 0 0),(.ptr 1 0)]++jkR 2 32++[(I L (A 0)),(I L (A 1))]++jkR 34 15,H:=[(.cells [(I L (A 2)),(I L (A 3)),(I L (A 4)),(I L (A 5)),(I L (A 6)),(I L (A 7)),(I L (A 8)),(I L (A 9)),(.va 0)] 26 false),(.cells [(I L (A 10)),(I L (A 11)),(I L (A 12)),(I L (A 13)),(I L (A 14)),(I L (A 15)),(I L (A 16)),(I L (A 17)),(.va 1)] 26 false)],ni:=18,nb:=0,nv:=2,nj:=49 }]
theorem b1d:SysOk Try.prog 20 expr_Equal_S:=a1f (c:=(cg [[false,false,true,false,true,true]] [] [] true false false true)) (a0W _ _ _ _ _ _ _ _ _) Try.func20 Try.call20 (by kernel_rfl) a9D expr_Equal_S 5000 rfl (by kernel_rfl) (by kernel_rfl) rfl
def b1f:PT :=
 (.ite (.eq (.a 0) (.l 2))
 (.ite (.eq (.a 0) (.l 2))
  (.ret false (.bool (.t true)) [])
  (.ite (.lt (.a 7) (.l 1))
  (.ret false (.bool (.t false)) [])
  (.ite (.lt (.l 1000000) (.a 7))
   (.ret false (.bool (.t false)) [])
   (.ite (.eq (.a 0) (.l 5))
   (.ret false (.bool (.t true)) [])
   (.call 46 [(.agg [(I L (A 1)),(I L (A 2)),(I L (A 3)),(I L (A 4)),(I L (A 5)),(I L (A 6))])] [] [(.one (D L))]
   (.ite (.eq (.a 8) (.l 0))
    (.call 47 [(.agg [(I L (A 1)),(I L (A 2)),(I L (A 3)),(I L (A 4)),(I L (A 5)),(I L (A 6))])] [] [(.one (D L))]
    (.ret false (.bool (.lt (.l 0) (.a 9))) []))
    (.ret false (.bool (.t false)) [])))))))
 (.ite (.eq (.a 0) (.l 3))
  (.ret false (.bool (.t true)) [])
  (.ite (.lt (.a 7) (.l 1))
  (.ret false (.bool (.t false)) [])
  (.ite (.lt (.l 1000000) (.a 7))
   (.ret false (.bool (.t false)) [])
   (.ite (.eq (.a 0) (.l 5))
   (.ret false (.bool (.t true)) [])
   (.call 46 [(.agg [(I L (A 1)),(I L (A 2)),(I L (A 3)),(I L (A 4)),(I L (A 5)),(I L (A 6))])] [] [(.one (D L))]
   (.ite (.eq (.a 8) (.l 0))
    (.call 47 [(.agg [(I L (A 1)),(I L (A 2)),(I L (A 3)),(I L (A 4)),(I L (A 5)),(I L (A 6))])] [] [(.one (D L))]
    (.ret false (.bool (.lt (.l 0) (.a 9))) []))
    (.ret false (.bool (.t false)) []))))))))
def expr_ranged_S:Sx.Sys:=⟨[(.sh (.agg [(D L),(D L),(D L),(D L),(D L),(D L),(D L),(D L),.val]))],b1f,[],none,none⟩
def a8R:List Cfg:=[]
theorem a9K:SysOk Try.prog 36 expr_ranged_S:=a1f (c:=(cg [] [] [] false false false true)) (a0W _ _ _ _ _ _ _ _ _) Try.func36 Try.call36 (by kernel_rfl) a8R expr_ranged_S 5000 rfl (by kernel_rfl) (by kernel_rfl) rfl
def a2F:PT :=
 (.storeM (.ea 5 (.slen 2) 9 0) [(I L (A 8)),(I L (A 9)),(I L (A 10)),(I L (A 11)),(I L (A 12)),(I L (A 13)),(I L (A 14)),(I L (A 15)),(.va 3)]
   (.storeM (.pa 1 0) [(.va 5)]
   (.ret true (.bool (.t true)) [])))
def a2I:PT :=
 (.storeM (.pa 1 0) [(.va 5)]
   (.storeM (.ea 5 (.slen 2) 9 0) [(I L (A 8)),(I L (A 9)),(I L (A 10)),(I L (A 11)),(I L (A 12)),(I L (A 13)),(I L (A 14)),(I L (A 15)),(.va 3)]
   (.ret true (.bool (.t true)) [])))
def a2C:PT :=
 (.call 25 [(.agg [(I L (A 0)),(I L (A 1)),(I L (A 2)),(I L (A 3)),(I L (A 4)),(I L (A 5)),(I L (A 6)),(I L (A 7)),(.va 0)])] [] [(.agg [(D L),(D L),(D L),(D L),(D L),(D L),(D L),(D L),.val])]
   (.app none (.lit [[(I L (E 0)),(I L (E 0)),(I L (E 0)),(I L (E 0)),(I L (E 0)),(I L (E 0)),(I L (E 0)),(I L (E 0)),.nilS]]) 9
   (.appM (.va 2) (.va 4) 9 26
   (.need (treeI (.slen 2) (.slen 5))
   (.both a2F a2I)))))
def a2E:PT :=
 (.storeM (.ea 5 (.slen 2) 9 0) [(I L (A 8)),(I L (A 9)),(I L (A 10)),(I L (A 11)),(I L (A 12)),(I L (A 13)),(I L (A 14)),(I L (A 15)),(.va 4)]
   (.storeM (.pa 1 0) [(.va 5)]
   (.ret true (.bool (.t true)) [])))
def a2K:PT :=
 (.storeM (.pa 1 0) [(.va 5)]
   (.storeM (.ea 5 (.slen 2) 9 0) [(I L (A 8)),(I L (A 9)),(I L (A 10)),(I L (A 11)),(I L (A 12)),(I L (A 13)),(I L (A 14)),(I L (A 15)),(.va 4)]
   (.ret true (.bool (.t true)) [])))
def a2D:PT :=
 (.app none (.lit [[(I L (E 0)),(I L (E 0)),(I L (E 0)),(I L (E 0)),(I L (E 0)),(I L (E 0)),(I L (E 0)),(I L (E 0)),.nilS]]) 9
   (.call 25 [(.agg [(I L (A 0)),(I L (A 1)),(I L (A 2)),(I L (A 3)),(I L (A 4)),(I L (A 5)),(I L (A 6)),(I L (A 7)),(.va 0)])] [] [(.agg [(D L),(D L),(D L),(D L),(D L),(D L),(D L),(D L),.val])]
   (.appM (.va 2) (.va 3) 9 26
   (.need (treeI (.slen 2) (.slen 5))
   (.both a2E a2K)))))
def a2J:PT :=
 (.both a2C a2D)
def a2H:PT :=
 (.storeM (.ea 5 (.slen 2) 9 0) [(I L (A 8)),(I L (A 9)),(I L (A 10)),(I L (A 11)),(I L (A 12)),(I L (A 13)),(I L (A 14)),(I L (A 15)),(.va 4)]
   (.storeM (.pa 1 0) [(.va 5)]
   (.ret true (.bool (.t true)) [])))
def a2G:PT :=
 (.storeM (.pa 1 0) [(.va 5)]
   (.storeM (.ea 5 (.slen 2) 9 0) [(I L (A 8)),(I L (A 9)),(I L (A 10)),(I L (A 11)),(I L (A 12)),(I L (A 13)),(I L (A 14)),(I L (A 15)),(.va 4)]
   (.ret true (.bool (.t true)) [])))
def a2a:PT :=
 (.app none (.lit [[(I L (E 0)),(I L (E 0)),(I L (E 0)),(I L (E 0)),(I L (E 0)),(I L (E 0)),(I L (E 0)),(I L (E 0)),.nilS]]) 9
  (.call 25 [(.agg [(I L (A 0)),(I L (A 1)),(I L (A 2)),(I L (A 3)),(I L (A 4)),(I L (A 5)),(I L (A 6)),(I L (A 7)),(.va 0)])] [] [(.agg [(D L),(D L),(D L),(D L),(D L),(D L),(D L),(D L),.val])]
  (.appM (.va 2) (.va 3) 9 26
  (.need (treeI (.slen 2) (.slen 5))
  (.both a2H a2G)))))
def a1L:PT :=
 (.load false (.pa 1 0) [.val]
  (.need (.is 0 2)
  (.both a2J a2a)))
def a2o:PT :=
 (.storeM (.ea 5 (.slen 2) 9 0) [(I L (A 8)),(I L (A 9)),(I L (A 10)),(I L (A 11)),(I L (A 12)),(I L (A 13)),(I L (A 14)),(I L (A 15)),(.va 3)]
    (.storeM (.pa 1 0) [(.va 5)]
    (.ret true (.bool (.t true)) [])))
def a2d:PT :=
 (.storeM (.pa 1 0) [(.va 5)]
    (.storeM (.ea 5 (.slen 2) 9 0) [(I L (A 8)),(I L (A 9)),(I L (A 10)),(I L (A 11)),(I L (A 12)),(I L (A 13)),(I L (A 14)),(I L (A 15)),(.va 3)]
    (.ret true (.bool (.t true)) [])))
def a2w:PT :=
 (.call 25 [(.agg [(I L (A 0)),(I L (A 1)),(I L (A 2)),(I L (A 3)),(I L (A 4)),(I L (A 5)),(I L (A 6)),(I L (A 7)),(.va 0)])] [] [(.agg [(D L),(D L),(D L),(D L),(D L),(D L),(D L),(D L),.val])]
   (.app none (.lit [[(I L (E 0)),(I L (E 0)),(I L (E 0)),(I L (E 0)),(I L (E 0)),(I L (E 0)),(I L (E 0)),(I L (E 0)),.nilS]]) 9
   (.appM (.va 2) (.va 4) 9 26
   (.need (treeI (.slen 2) (.slen 5))
   (.both a2o a2d)))))
def a2f:PT :=
 (.storeM (.ea 5 (.slen 2) 9 0) [(I L (A 8)),(I L (A 9)),(I L (A 10)),(I L (A 11)),(I L (A 12)),(I L (A 13)),(I L (A 14)),(I L (A 15)),(.va 4)]
    (.storeM (.pa 1 0) [(.va 5)]
    (.ret true (.bool (.t true)) [])))
def a2t:PT :=
 (.storeM (.pa 1 0) [(.va 5)]
    (.storeM (.ea 5 (.slen 2) 9 0) [(I L (A 8)),(I L (A 9)),(I L (A 10)),(I L (A 11)),(I L (A 12)),(I L (A 13)),(I L (A 14)),(I L (A 15)),(.va 4)]
    (.ret true (.bool (.t true)) [])))
def a1S:PT :=
 (.app none (.lit [[(I L (E 0)),(I L (E 0)),(I L (E 0)),(I L (E 0)),(I L (E 0)),(I L (E 0)),(I L (E 0)),(I L (E 0)),.nilS]]) 9
   (.call 25 [(.agg [(I L (A 0)),(I L (A 1)),(I L (A 2)),(I L (A 3)),(I L (A 4)),(I L (A 5)),(I L (A 6)),(I L (A 7)),(.va 0)])] [] [(.agg [(D L),(D L),(D L),(D L),(D L),(D L),(D L),(D L),.val])]
   (.appM (.va 2) (.va 3) 9 26
   (.need (treeI (.slen 2) (.slen 5))
   (.both a2f a2t)))))
def a2h:PT :=
 (.load false (.pa 1 0) [.val]
   (.need (.is 0 2)
   (.both a2w a1S)))
def a1R:PT :=
 (.storeM (.ea 5 (.slen 3) 9 0) [(I L (A 8)),(I L (A 9)),(I L (A 10)),(I L (A 11)),(I L (A 12)),(I L (A 13)),(I L (A 14)),(I L (A 15)),(.va 2)]
    (.storeM (.pa 1 0) [(.va 5)]
    (.ret true (.bool (.t true)) [])))
def a2n:PT :=
 (.storeM (.pa 1 0) [(.va 5)]
    (.storeM (.ea 5 (.slen 3) 9 0) [(I L (A 8)),(I L (A 9)),(I L (A 10)),(I L (A 11)),(I L (A 12)),(I L (A 13)),(I L (A 14)),(I L (A 15)),(.va 2)]
    (.ret true (.bool (.t true)) [])))
def a1N:PT :=
 (.load false (.pa 1 0) [.val]
    (.need (.is 0 3)
    (.app none (.lit [[(I L (E 0)),(I L (E 0)),(I L (E 0)),(I L (E 0)),(I L (E 0)),(I L (E 0)),(I L (E 0)),(I L (E 0)),.nilS]]) 9
    (.appM (.va 3) (.va 4) 9 26
    (.need (treeI (.slen 3) (.slen 5))
    (.both a1R a2n))))))
def a2r:PT :=
 (.storeM (.ea 5 (.slen 4) 9 0) [(I L (A 8)),(I L (A 9)),(I L (A 10)),(I L (A 11)),(I L (A 12)),(I L (A 13)),(I L (A 14)),(I L (A 15)),(.va 2)]
    (.storeM (.pa 1 0) [(.va 5)]
    (.ret true (.bool (.t true)) [])))
def a1P:PT :=
 (.storeM (.pa 1 0) [(.va 5)]
    (.storeM (.ea 5 (.slen 4) 9 0) [(I L (A 8)),(I L (A 9)),(I L (A 10)),(I L (A 11)),(I L (A 12)),(I L (A 13)),(I L (A 14)),(I L (A 15)),(.va 2)]
    (.ret true (.bool (.t true)) [])))
def a2k:PT :=
 (.app none (.lit [[(I L (E 0)),(I L (E 0)),(I L (E 0)),(I L (E 0)),(I L (E 0)),(I L (E 0)),(I L (E 0)),(I L (E 0)),.nilS]]) 9
    (.load false (.pa 1 0) [.val]
    (.need (.is 0 4)
    (.appM (.va 4) (.va 3) 9 26
    (.need (treeI (.slen 4) (.slen 5))
    (.both a2r a1P))))))
def a2v:PT :=
 (.call 25 [(.agg [(I L (A 0)),(I L (A 1)),(I L (A 2)),(I L (A 3)),(I L (A 4)),(I L (A 5)),(I L (A 6)),(I L (A 7)),(.va 0)])] [] [(.agg [(D L),(D L),(D L),(D L),(D L),(D L),(D L),(D L),.val])]
   (.both a1N a2k))
def a2b:PT :=
 (.storeM (.ea 5 (.slen 3) 9 0) [(I L (A 8)),(I L (A 9)),(I L (A 10)),(I L (A 11)),(I L (A 12)),(I L (A 13)),(I L (A 14)),(I L (A 15)),(.va 4)]
    (.storeM (.pa 1 0) [(.va 5)]
    (.ret true (.bool (.t true)) [])))
def a2m:PT :=
 (.storeM (.pa 1 0) [(.va 5)]
    (.storeM (.ea 5 (.slen 3) 9 0) [(I L (A 8)),(I L (A 9)),(I L (A 10)),(I L (A 11)),(I L (A 12)),(I L (A 13)),(I L (A 14)),(I L (A 15)),(.va 4)]
    (.ret true (.bool (.t true)) [])))
def a1W:PT :=
 (.load false (.pa 1 0) [.val]
    (.need (.is 0 3)
    (.call 25 [(.agg [(I L (A 0)),(I L (A 1)),(I L (A 2)),(I L (A 3)),(I L (A 4)),(I L (A 5)),(I L (A 6)),(I L (A 7)),(.va 0)])] [] [(.agg [(D L),(D L),(D L),(D L),(D L),(D L),(D L),(D L),.val])]
    (.appM (.va 3) (.va 2) 9 26
    (.need (treeI (.slen 3) (.slen 5))
    (.both a2b a2m))))))
def a2s:PT :=
 (.storeM (.ea 5 (.slen 4) 9 0) [(I L (A 8)),(I L (A 9)),(I L (A 10)),(I L (A 11)),(I L (A 12)),(I L (A 13)),(I L (A 14)),(I L (A 15)),(.va 3)]
    (.storeM (.pa 1 0) [(.va 5)]
    (.ret true (.bool (.t true)) [])))
def a2l:PT :=
 (.storeM (.pa 1 0) [(.va 5)]
    (.storeM (.ea 5 (.slen 4) 9 0) [(I L (A 8)),(I L (A 9)),(I L (A 10)),(I L (A 11)),(I L (A 12)),(I L (A 13)),(I L (A 14)),(I L (A 15)),(.va 3)]
    (.ret true (.bool (.t true)) [])))
def a2j:PT :=
 (.call 25 [(.agg [(I L (A 0)),(I L (A 1)),(I L (A 2)),(I L (A 3)),(I L (A 4)),(I L (A 5)),(I L (A 6)),(I L (A 7)),(.va 0)])] [] [(.agg [(D L),(D L),(D L),(D L),(D L),(D L),(D L),(D L),.val])]
    (.load false (.pa 1 0) [.val]
    (.need (.is 0 4)
    (.appM (.va 4) (.va 2) 9 26
    (.need (treeI (.slen 4) (.slen 5))
    (.both a2s a2l))))))
def a1T:PT :=
 (.app none (.lit [[(I L (E 0)),(I L (E 0)),(I L (E 0)),(I L (E 0)),(I L (E 0)),(I L (E 0)),(I L (E 0)),(I L (E 0)),.nilS]]) 9
   (.both a1W a2j))
def a1K:PT :=
 (.both a2v a1T)
def a1Q:PT :=
 (.both a2h a1K)
def a2p:PT :=
 (.storeM (.ea 5 (.slen 3) 9 0) [(I L (A 8)),(I L (A 9)),(I L (A 10)),(I L (A 11)),(I L (A 12)),(I L (A 13)),(I L (A 14)),(I L (A 15)),(.va 4)]
   (.storeM (.pa 1 0) [(.va 5)]
   (.ret true (.bool (.t true)) [])))
def a2q:PT :=
 (.storeM (.pa 1 0) [(.va 5)]
   (.storeM (.ea 5 (.slen 3) 9 0) [(I L (A 8)),(I L (A 9)),(I L (A 10)),(I L (A 11)),(I L (A 12)),(I L (A 13)),(I L (A 14)),(I L (A 15)),(.va 4)]
   (.ret true (.bool (.t true)) [])))
def a2u:PT :=
 (.load false (.pa 1 0) [.val]
   (.need (.is 0 3)
   (.call 25 [(.agg [(I L (A 0)),(I L (A 1)),(I L (A 2)),(I L (A 3)),(I L (A 4)),(I L (A 5)),(I L (A 6)),(I L (A 7)),(.va 0)])] [] [(.agg [(D L),(D L),(D L),(D L),(D L),(D L),(D L),(D L),.val])]
   (.appM (.va 3) (.va 2) 9 26
   (.need (treeI (.slen 3) (.slen 5))
   (.both a2p a2q))))))
def a1J:PT :=
 (.storeM (.ea 5 (.slen 3) 9 0) [(I L (A 8)),(I L (A 9)),(I L (A 10)),(I L (A 11)),(I L (A 12)),(I L (A 13)),(I L (A 14)),(I L (A 15)),(.va 4)]
    (.storeM (.pa 1 0) [(.va 5)]
    (.ret true (.bool (.t true)) [])))
def a2c:PT :=
 (.storeM (.pa 1 0) [(.va 5)]
    (.storeM (.ea 5 (.slen 3) 9 0) [(I L (A 8)),(I L (A 9)),(I L (A 10)),(I L (A 11)),(I L (A 12)),(I L (A 13)),(I L (A 14)),(I L (A 15)),(.va 4)]
    (.ret true (.bool (.t true)) [])))
def a1O:PT :=
 (.load false (.pa 1 0) [.val]
   (.need (.is 0 3)
   (.call 25 [(.agg [(I L (A 0)),(I L (A 1)),(I L (A 2)),(I L (A 3)),(I L (A 4)),(I L (A 5)),(I L (A 6)),(I L (A 7)),(.va 0)])] [] [(.agg [(D L),(D L),(D L),(D L),(D L),(D L),(D L),(D L),.val])]
   (.appM (.va 3) (.va 2) 9 26
   (.need (treeI (.slen 3) (.slen 5))
   (.both a1J a2c))))))
def a1U:PT :=
 (.storeM (.ea 5 (.slen 4) 9 0) [(I L (A 8)),(I L (A 9)),(I L (A 10)),(I L (A 11)),(I L (A 12)),(I L (A 13)),(I L (A 14)),(I L (A 15)),(.va 3)]
    (.storeM (.pa 1 0) [(.va 5)]
    (.ret true (.bool (.t true)) [])))
def a2g:PT :=
 (.storeM (.pa 1 0) [(.va 5)]
    (.storeM (.ea 5 (.slen 4) 9 0) [(I L (A 8)),(I L (A 9)),(I L (A 10)),(I L (A 11)),(I L (A 12)),(I L (A 13)),(I L (A 14)),(I L (A 15)),(.va 3)]
    (.ret true (.bool (.t true)) [])))
def a1V:PT :=
 (.call 25 [(.agg [(I L (A 0)),(I L (A 1)),(I L (A 2)),(I L (A 3)),(I L (A 4)),(I L (A 5)),(I L (A 6)),(I L (A 7)),(.va 0)])] [] [(.agg [(D L),(D L),(D L),(D L),(D L),(D L),(D L),(D L),.val])]
   (.load false (.pa 1 0) [.val]
   (.need (.is 0 4)
   (.appM (.va 4) (.va 2) 9 26
   (.need (treeI (.slen 4) (.slen 5))
   (.both a1U a2g))))))
def a2i:PT :=
 (.both a1O a1V)
def a1X:PT :=
 (.app none (.lit [[(I L (E 0)),(I L (E 0)),(I L (E 0)),(I L (E 0)),(I L (E 0)),(I L (E 0)),(I L (E 0)),(I L (E 0)),.nilS]]) 9
  (.both a2u a2i))
def a1Y:PT :=
 (.both a1Q a1X)
def a1F:PT :=
 (.ite (.eq (.a 0) (.l 1))
 (.both a1L a1Y)
 (.ret true (.bool (.t true)) []))
def expr_Atoms_1_S:Sx.Sys:=⟨[(.sh (.agg [(D L),(D L),(D L),(D L),(D L),(D L),(D L),(D L),.val])),.ptr],a1F,[],none,none⟩
def a8d:List Cfg:=[]
theorem a9o:SysOk Try.prog 44 expr_Atoms_1_S:=a1f (c:=(cg [] [] [] true true true true)) (a0W _ _ _ _ _ _ _ _ _) Try.func44 Try.call44 (by kernel_rfl) a8d expr_Atoms_1_S 5000 rfl (by kernel_rfl) (by kernel_rfl) rfl
end Go.Proofs.Ytdadenjndpbppaa
set_option maxRecDepth 100000
namespace Go.Proofs.Ytdadenjndpbppaa
open Go.Sx
def a6d:PT :=
 (.app none (.lit [[(I L (E 1)),(I L (E 1)),(I L (E 0)),(I L (E 0)),(I L (E 0)),(I L (E 0)),(I L (E 0)),(I L (E 5)),.nilS],[(I L (E 1)),(I L (E 0)),(I L (E 1)),(I L (E 0)),(I L (E 0)),(I L (E 0)),(I L (E 0)),(I L (E 7)),.nilS]]) 9
 (.app none (.lit [[(I L (E 3)),(I L (E 0)),(I L (E 0)),(I L (E 0)),(I L (E 0)),(I L (E 0)),(I L (E 0)),(I L (E 0)),(.va 0)]]) 9
 (.call 27 [(.agg [(I L (E 3)),(I L (E 0)),(I L (E 0)),(I L (E 0)),(I L (E 0)),(I L (E 0)),(I L (E 0)),(I L (E 0)),(.va 0)]),(.fn 40 0 [])] [] [(.agg [(D L),(D L),(D L),(D L),(D L),(D L),(D L),(D L),.val])]
 (.call 11 [(.agg [(I L (E 5)),(I L (E 0)),(I L (E 0)),(I L (E 0)),(I L (E 0)),(I L (E 0)),(I L (E 0)),(I L (E 10)),(.va 1)])] [] [(.one (D L))]
 (.ite (.eq (.a 8) (.l 0))
 (.call 11 [(.agg [(I L (E 1)),(I L (E 0)),(I L (E 0)),(I L (E 0)),(I L (E 0)),(I L (E 0)),(I L (E 0)),(I L (E 5)),.nilS])] [] [(.one (D L))]
 (.ite (.eq (.a 9) (.l 4))
  (.call 11 [(.agg [(I L (E 2)),(I L (E 0)),(I L (E 0)),(I L (E 0)),(I L (E 0)),(I L (E 0)),(I L (E 0)),(I L (E 0)),.nilS])] [] [(.one (D L))]
  (.ite (.eq (.a 10) (.l 2))
  (.call 14 [(.agg [(I L (E 5)),(I L (E 0)),(I L (E 0)),(I L (E 0)),(I L (E 0)),(I L (E 0)),(I L (E 0)),(I L (E 10)),(.va 1)])] [] [(.one (D L))]
  (.ite (.eq (.a 11) (.l 4))
   (.call 16 [(.agg [(I L (E 5)),(I L (E 0)),(I L (E 0)),(I L (E 0)),(I L (E 0)),(I L (E 0)),(I L (E 0)),(I L (E 10)),(.va 1)])] [] [(.one (D L))]
   (.ite (.eq (.a 12) (.l 3))
   (.call 18 [(.agg [(I L (E 5)),(I L (E 0)),(I L (E 0)),(I L (E 0)),(I L (E 0)),(I L (E 0)),(I L (E 0)),(I L (E 10)),(.va 1)])] [] [(.agg [(D L),(D L),(D L),(D L),(D L),(D L)])]
   (.ite (.and (.eq (.a 13) (.l 1)) (.and (.eq (.a 14) (.l 1)) (.and (.eq (.a 15) (.l 0)) (.and (.eq (.a 16) (.l 0)) (.and (.eq (.a 17) (.l 0)) (.eq (.a 18) (.l 0)))))))
    (.call 22 [(.agg [(I L (E 5)),(I L (E 0)),(I L (E 0)),(I L (E 0)),(I L (E 0)),(I L (E 0)),(I L (E 0)),(I L (E 10)),(.va 1)])] [] [(.one .val)]
    (.need (.is 0 3)
    (.ite (.eq (.slen 3) (.l 2))
    (.need (.is 0 2)
    (.ite (.eq (.slen 2) (.l 2))
     (.need (.lt (.l 0) (.slen 2))
     (.load false (.ea 2 (.l 0) 9 7) [(D L)]
     (.ite (.eq (.a 19) (.l 10))
     (.need (.lt (.l 1) (.slen 2))
     (.load false (.ea 2 (.l 1) 9 7) [(D L)]
     (.ite (.eq (.a 20) (.l 14))
      (.need (.lt (.l 0) (.slen 0))
      (.load false (.ea 0 (.l 0) 9 7) [(D L)]
      (.ite (.eq (.a 21) (.l 5))
      (.call 25 [(.agg [(I L (E 5)),(I L (E 0)),(I L (E 0)),(I L (E 0)),(I L (E 0)),(I L (E 0)),(I L (E 0)),(I L (E 10)),(.va 1)])] [] [(.agg [(D L),(D L),(D L),(D L),(D L),(D L),(D L),(D L),.val])]
      (.call 20 [(.agg [(I L (A 22)),(I L (A 23)),(I L (A 24)),(I L (A 25)),(I L (A 26)),(I L (A 27)),(I L (A 28)),(I L (A 29)),(.va 4)]),(.agg [(I L (E 5)),(I L (E 0)),(I L (E 0)),(I L (E 0)),(I L (E 0)),(I L (E 0)),(I L (E 0)),(I L (E 10)),(.va 1)])] [] [(.one .bool)]
      (.ite (.a 0)
       (.call 20 [(.agg [(I L (E 1)),(I L (E 1)),(I L (E 0)),(I L (E 0)),(I L (E 0)),(I L (E 0)),(I L (E 0)),(I L (E 5)),.nilS]),(.agg [(I L (E 1)),(I L (E 0)),(I L (E 1)),(I L (E 0)),(I L (E 0)),(I L (E 0)),(I L (E 0)),(I L (E 7)),.nilS])] [] [(.one .bool)]
       (.ite (.not (.a 1))
       (.call 27 [(.agg [(I L (E 5)),(I L (E 0)),(I L (E 0)),(I L (E 0)),(I L (E 0)),(I L (E 0)),(I L (E 0)),(I L (E 10)),(.va 1)]),.nilF] [] [(.agg [(D L),(D L),(D L),(D L),(D L),(D L),(D L),(D L),.val])]
       (.call 20 [(.agg [(I L (A 30)),(I L (A 31)),(I L (A 32)),(I L (A 33)),(I L (A 34)),(I L (A 35)),(I L (A 36)),(I L (A 37)),(.va 5)]),(.agg [(I L (E 5)),(I L (E 0)),(I L (E 0)),(I L (E 0)),(I L (E 0)),(I L (E 0)),(I L (E 0)),(I L (E 10)),(.va 1)])] [] [(.one .bool)]
       (.ret false (.bool (.a 2)) [])))
       (.ret false (.bool (.t false)) [])))
       (.ret false (.bool (.t false)) []))))
      (.ret false (.bool (.t false)) []))))
      (.ret false (.bool (.t false)) []))))
     (.ret false (.bool (.t false)) []))))
     (.ret false (.bool (.t false)) [])))
    (.ret false (.bool (.t false)) []))))
    (.ret false (.bool (.t false)) [])))
   (.ret false (.bool (.t false)) [])))
   (.ret false (.bool (.t false)) [])))
  (.ret false (.bool (.t false)) [])))
  (.ret false (.bool (.t false)) [])))
 (.ret false (.bool (.t false)) []))))))
def saleroomlaw11_awake_S:Sx.Sys:=⟨[],a6d,[],none,none⟩
def a5z:List Cfg:=[]
theorem a5V:SysOk Try.prog 13 saleroomlaw11_awake_S:=a1f (c:=(cg [] [] [] true false false true)) (a0W _ _ _ _ _ _ _ _ _) Try.func13 Try.call13 (by kernel_rfl) a5z saleroomlaw11_awake_S 5000 rfl (by kernel_rfl) (by kernel_rfl) rfl
def a3e:PT :=
 (.ite (.not (.eq (.a 0) (.a 8)))
 (.ret false (.bool (.t false)) [])
 (.ite (.not (.and (.eq (.a 1) (.a 9)) (.and (.eq (.a 2) (.a 10)) (.and (.eq (.a 3) (.a 11)) (.and (.eq (.a 4) (.a 12)) (.and (.eq (.a 5) (.a 13)) (.eq (.a 6) (.a 14))))))))
  (.ret false (.bool (.t false)) [])
  (.ite (.not (.eq (.a 7) (.a 15)))
  (.ret false (.bool (.t false)) [])
  (.need (.is 0 0)
  (.need (.is 0 1)
  (.ite (.not (.eq (.slen 0) (.slen 1)))
   (.ret false (.bool (.t false)) [])
   (.jump 0 [(.l 0),(.a 0),(.a 1),(.a 2),(.a 3),(.a 4),(.a 5),(.a 6),(.a 7),(.a 8),(.a 9),(.a 10),(.a 11),(.a 12),(.a 13),(.a 14),(.a 15)] [] [(.va 0),(.va 1)])))))))
def a2Y:PT :=
 (.need (.is 0 0)
 (.ite (.lt (.a 0) (.slen 0))
 (.need (treeI (.a 0) (.slen 0))
 (.need (treeI (.a 0) (.slen 1))
 (.load false (.ea 0 (.a 0) 9 0) [(D L),(D L),(D L),(D L),(D L),(D L),(D L),(D L),.val]
 (.load false (.ea 1 (.a 0) 9 0) [(D L),(D L),(D L),(D L),(D L),(D L),(D L),(D L),.val]
 (.call 21 [(.agg [(I L (A 17)),(I L (A 18)),(I L (A 19)),(I L (A 20)),(I L (A 21)),(I L (A 22)),(I L (A 23)),(I L (A 24)),(.va 2)]),(.agg [(I L (A 25)),(I L (A 26)),(I L (A 27)),(I L (A 28)),(I L (A 29)),(I L (A 30)),(I L (A 31)),(I L (A 32)),(.va 3)])] [] [(.one .bool)]
 (.ite (.not (.a 0))
  (.ret false (.bool (.t false)) [])
  (.need (treeB (.add (.a 0) (.l 1)))
  (.jump 0 [(.add (.a 0) (.l 1)),(.a 1),(.a 2),(.a 3),(.a 4),(.a 5),(.a 6),(.a 7),(.a 8),(.a 9),(.a 10),(.a 11),(.a 12),(.a 13),(.a 14),(.a 15),(.a 16)] [] [(.va 0),(.va 1)]))))))))
 (.ret false (.bool (.t true)) [])))
def saleroomref11_Equal_S:Sx.Sys:=⟨[(.sh (.agg [(D L),(D L),(D L),(D L),(D L),(D L),(D L),(D L),.val])),(.sh (.agg [(D L),(D L),(D L),(D L),(D L),(D L),(D L),(D L),.val]))],a3e,[a2Y],none,none⟩
def a5f:List Cfg:=[{ todo:=[(.code [false,false,true,false,true,true]),(.inLoop [false,false,true,false,true,true]),(.inBlock 0),(.code [true,true,true])],sl:=[(.junk 0),(.junk 1),(.ptr 0 0),(.ptr 1 0),(.junk 2),(I L (A 0))]++jkR 3 47,H:=[(.cells [(I L (A 1)),(I L (A 2)),(I L (A 3)),(I L (A 4)),(I L (A 5)),(I L (A 6)),(I L (A 7)),(I L (A 8)),(.va 0)] 26 false),(.cells [(I L (A 9)),(I L (A 10)),(I L (A 11)),(I L (A 12)),(I L (A 13)),(I L (A 14)),(I L (A 15)),(I L (A 16)),(.va 1)] 26 false)],ni:=17,nb:=0,nv:=2,nj:=50 }]
theorem a5Y:SysOk Try.prog 21 saleroomref11_Equal_S:=a1f (c:=(cg [[false,false,true,false,true,true]] [] [] true false false true)) (a0W _ _ _ _ _ _ _ _ _) Try.func21 Try.call21 (by kernel_rfl) a5f saleroomref11_Equal_S 5000 rfl (by kernel_rfl) (by kernel_rfl) rfl
def a2Q:PT :=
 (.app none (.lit [[(I L (A 0)),(I L (A 1)),(I L (A 2)),(I L (A 3)),(I L (A 4)),(I L (A 5)),(I L (A 6)),(I L (A 7)),(.va 0)]]) 9
 (.jump 0 [(.l 0),(.a 0),(.a 1),(.a 2),(.a 3),(.a 4),(.a 5),(.a 6),(.a 7)] [] [(.va 1),(.va 0)]))
def a2N:PT :=
 (.need (.is 0 1)
 (.ite (.lt (.a 0) (.slen 1))
 (.need (treeI (.a 0) (.slen 1))
 (.load false (.ea 1 (.a 0) 9 0) [(D L),(D L),(D L),(D L),(D L),(D L),(D L),(D L),.val]
 (.call 37 [(.agg [(I L (A 9)),(I L (A 10)),(I L (A 11)),(I L (A 12)),(I L (A 13)),(I L (A 14)),(I L (A 15)),(I L (A 16)),(.va 2)])] [] [(.one .val)]
 (.app (some 0) (.va 3) 9
 (.need (treeB (.add (.a 0) (.l 1)))
 (.jump 0 [(.add (.a 0) (.l 1)),(.a 1),(.a 2),(.a 3),(.a 4),(.a 5),(.a 6),(.a 7),(.a 8)] [] [(.va 4),(.va 1)]))))))
 (.ret false (.va 0) [])))
def saleroomref11_Preorder_S:Sx.Sys:=⟨[(.sh (.agg [(D L),(D L),(D L),(D L),(D L),(D L),(D L),(D L),.val]))],a2Q,[a2N],none,none⟩
def a4I:List Cfg:=[{ todo:=[(.code [false,false,true,false,true,true]),(.inLoop [false,false,true,false,true,true]),(.inBlock 0),(.code [true,true,true])],sl:=[(.junk 0),(.ptr 0 0),(.junk 1),(.va 0),(I L (A 0))]++jkR 2 17++[.undef],H:=[(.cells [(I L (A 1)),(I L (A 2)),(I L (A 3)),(I L (A 4)),(I L (A 5)),(I L (A 6)),(I L (A 7)),(I L (A 8)),(.va 1)] 26 false),(.row 0 26 9)],ni:=9,nb:=0,nv:=2,nj:=19 }]
theorem a4U:SysOk Try.prog 37 saleroomref11_Preorder_S:=a1f (c:=(cg [[false,false,true,false,true,true]] [] [] false false false true)) (a0W _ _ _ _ _ _ _ _ _) Try.func37 Try.call37 (by kernel_rfl) a4I saleroomref11_Preorder_S 5000 rfl (by kernel_rfl) (by kernel_rfl) rfl
def a4O:PT :=
 (.ret false (.agg [(I L (A 0)),(I L (A 1)),(I L (A 2)),(I L (A 3)),(I L (A 4)),(I L (A 5)),(I L (A 6)),(I L (A 7)),(.va 0)]) [])
def expr_Copy_1_S:Sx.Sys:=⟨[(.sh (.agg [(D L),(D L),(D L),(D L),(D L),(D L),(D L),(D L),.val]))],a4O,[],none,none⟩
def a8N:List Cfg:=[]
theorem a9X:SysOk Try.prog 45 expr_Copy_1_S:=a1f (c:=(cg [] [] [] false false false true)) (a0W _ _ _ _ _ _ _ _ _) Try.func45 Try.call45 (by kernel_rfl) a8N expr_Copy_1_S 5000 rfl (by kernel_rfl) (by kernel_rfl) rfl
end Go.Proofs.Ytdadenjndpbppaa
