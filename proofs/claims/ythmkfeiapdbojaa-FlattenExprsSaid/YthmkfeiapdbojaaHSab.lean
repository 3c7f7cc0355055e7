/- The trees of this seat's functions, part 3. Written by txgen.py. -/
import Derived.Test.YthmkfeiapdbojaaHTab
set_option linter.unusedSimpArgs false
set_option linter.unusedVariables false
open Go.Sx.SV renaming int → I
open Go.IntKind renaming i64 → L
open Go.Sx.IE renaming a → A, l → E
open Go.Sx.Kd renaming int → D
set_option maxRecDepth 100000
namespace Go.Proofs.Ythmkfeiapdbojaa
open Go.Sx
def e2k:PT :=
 (.need (.is 0 0)
 (.ite (.eq (.slen 0) (.l 0))
 (.ret false (.tup [(.agg [(I L (E 0)),(I L (E 0)),(I L (E 0)),(I L (E 0)),(I L (E 0)),(I L (E 0)),(I L (E 0)),(I L (E 0)),.nilS]),(I L (E 1))]) [])
 (.need (.is 0 0)
 (.ite (.lt (.l 64) (.slen 0))
  (.ret false (.tup [(.agg [(I L (E 0)),(I L (E 0)),(I L (E 0)),(I L (E 0)),(I L (E 0)),(I L (E 0)),(I L (E 0)),(I L (E 0)),.nilS]),(I L (E 3))]) [])
  (.jump 0 [(.l 0)] [] [(.va 0),.nilS])))))
def e2j:PT :=
 (.need (.is 0 0)
 (.ite (.lt (.a 0) (.slen 0))
 (.jump 1 [(.a 0),(.a 0)] [] [(.va 0),(.va 1),.nilS])
 (.call 64 [(.va 1)] [] [(.agg [(D L),(D L),(D L),(D L),(D L),(D L),(D L),(D L),.val])]
 (.call 50 [(.agg [(I L (A 1)),(I L (A 2)),(I L (A 3)),(I L (A 4)),(I L (A 5)),(I L (A 6)),(I L (A 7)),(I L (A 8)),(.va 2)])] [] [(.one (D L))]
 (.ite (.not (.eq (.a 9) (.l 0)))
  (.ret false (.tup [(.agg [(I L (E 0)),(I L (E 0)),(I L (E 0)),(I L (E 0)),(I L (E 0)),(I L (E 0)),(I L (E 0)),(I L (E 0)),.nilS]),(I L (A 9))]) [])
  (.ret false (.tup [(.agg [(I L (A 1)),(I L (A 2)),(I L (A 3)),(I L (A 4)),(I L (A 5)),(I L (A 6)),(I L (A 7)),(I L (A 8)),(.va 2)]),(I L (E 0))]) []))))))
def e2i:PT :=
 (.need (.is 0 0)
 (.ite (.lt (.a 1) (.slen 0))
 (.need (treeB (.add (.a 0) (.l 8)))
 (.ite (.lt (.a 1) (.add (.a 0) (.l 8)))
  (.need (treeI (.a 1) (.slen 0))
  (.need (treeI (.a 1) (.slen 0))
  (.load true (.ea 0 (.a 1) 8 1) [(D L),(D L),(D L),(D L),(D L),(D L)]
  (.load true (.ea 0 (.a 1) 8 7) [(D L)]
  (.app none (.lit [[(I L (E 1)),(I L (A 2)),(I L (A 3)),(I L (A 4)),(I L (A 5)),(I L (A 6)),(I L (A 7)),(I L (A 8)),.nilS]]) 9
  (.app (some 2) (.va 3) 9
  (.need (treeB (.add (.a 1) (.l 1)))
  (.jump 1 [(.a 0),(.add (.a 1) (.l 1))] [] [(.va 0),(.va 1),(.va 4)]))))))))
  (.call 64 [(.va 2)] [] [(.agg [(D L),(D L),(D L),(D L),(D L),(D L),(D L),(D L),.val])]
  (.app none (.lit [[(I L (A 2)),(I L (A 3)),(I L (A 4)),(I L (A 5)),(I L (A 6)),(I L (A 7)),(I L (A 8)),(I L (A 9)),(.va 3)]]) 9
  (.app (some 1) (.va 4) 9
  (.need (treeB (.add (.a 0) (.l 8)))
  (.jump 0 [(.add (.a 0) (.l 8))] [] [(.va 0),(.va 5)])))))))
 (.call 64 [(.va 2)] [] [(.agg [(D L),(D L),(D L),(D L),(D L),(D L),(D L),(D L),.val])]
 (.app none (.lit [[(I L (A 2)),(I L (A 3)),(I L (A 4)),(I L (A 5)),(I L (A 6)),(I L (A 7)),(I L (A 8)),(I L (A 9)),(.va 3)]]) 9
 (.app (some 1) (.va 4) 9
 (.need (treeB (.add (.a 0) (.l 8)))
 (.jump 0 [(.add (.a 0) (.l 8))] [] [(.va 0),(.va 5)])))))))
def saleroomref14_ToExpr_S:Sx.Sys:=⟨[(.sh (.one .val))],e2k,[e2j,e2i],none,none⟩
def e2x:List Cfg:=[{ todo:=[(.code [false,false,true,false,true,true,true,true]),(.inLoop [false,false,true,false,true,true,true,true]),(.inBlock 0),(.code [true,true,true,true,true])],sl:=[(.va 0),.undef,(.ptr 0 0),(.junk 0),(.va 1),(I L (A 0)),(.junk 1),(.junk 2),.undef,.undef,(.junk 3),(.junk 4),(.junk 5),.undef,(.junk 6),(.junk 7),(.junk 8),.undef,(.junk 9),(.junk 10),(.junk 11),(.junk 12),(.junk 13),(.junk 14),(.junk 15),(.junk 16),(.junk 17),(.junk 18),(.junk 19),(.junk 20),(.junk 21),(.junk 22),(.junk 23),(.junk 24),(.junk 25),(.junk 26),(.junk 27),(.junk 28),(.junk 29),(.junk 30),(.junk 31),(.junk 32),(.junk 33),(.junk 34),(.junk 35),(.junk 36),(.junk 37),(.junk 38),(.junk 39),(.junk 40),(.junk 41),(.junk 42),(.junk 43),(.junk 44),(.junk 45),(.junk 46),.undef,.undef,.undef,.undef,.undef,.undef,.undef,.undef,.undef],H:=[(.cells [(I L (E 0)),(I L (E 0)),(I L (E 0)),(I L (E 0)),(I L (E 0)),(I L (E 0)),(I L (E 0)),(I L (E 0)),.nilS] 26 false),(.row 1 26 9)],ni:=1,nb:=0,nv:=2,nj:=47 },
 { todo:=[(.code [false,false,true,false,true,false,false,true,false,false,true,false,true,true,true,true]),(.inLoop [false,false,true,false,true,false,false,true,false,false,true,false,true,true,true,true]),(.inBlock 2),(.code [true,true,false,false,true,false,false,true,false,true,true,true,true]),(.inBlock 1),(.code [true,true,false,false,true,false,true,true,true,true]),(.inLoop [false,false,true,false,true,true,true,true]),(.inBlock 0),(.code [true,true,true,true,true])],sl:=[(.va 0),.undef,(.ptr 0 0),(.junk 0),(.va 1),(I L (A 0)),(.va 2),(I L (A 1)),.undef,.undef,(.junk 1),(.junk 2),(.junk 3),.undef,(.junk 4),(.junk 5),(.junk 6),.undef,(.junk 7),(.junk 8),(.junk 9),(.junk 10),(.junk 11),(.junk 12),(.junk 13),(.junk 14),(.junk 15),(.junk 16),(.junk 17),(.junk 18),(.junk 19),(.junk 20),(.junk 21),(.junk 22),(.junk 23),(.junk 24),(.junk 25),(.junk 26),(.junk 27),(.junk 28),(.junk 29),(.junk 30),(.junk 31),(.junk 32),(.junk 33),(.junk 34),(.junk 35),(.junk 36),(.junk 37),(.junk 38),(.junk 39),(.junk 40),(.junk 41),(.junk 42),(.junk 43),(.junk 44),.undef,.undef,.undef,.undef,.undef,.undef,.undef,.undef,.undef],H:=[(.cells [(I L (E 0)),(I L (E 0)),(I L (E 0)),(I L (E 0)),(I L (E 0)),(I L (E 0)),(I L (E 0)),(I L (E 0)),.nilS] 26 false),(.row 1 26 9),(.row 2 26 9)],ni:=2,nb:=0,nv:=3,nj:=45 }]
theorem e2C:SysOk Try.prog 40 saleroomref14_ToExpr_S:=a0O (c:=(cg [[false,false,true,false,true,true,true,true],[false,false,true,false,true,false,false,true,false,false,true,false,true,true,true,true]] [] [] false false false true)) (a0s _ _ _ _ _ _ _ _ _) Try.func40 Try.call40 (by kernel_rfl) e2x saleroomref14_ToExpr_S 5000 rfl (by kernel_rfl) (by kernel_rfl) rfl
def a7D:PT :=
 (.ite (.lt (.a 0) (.l 0))
 (.ret false (I L (E 4)) [])
 (.ite (.lt (.l 4) (.a 0))
  (.ret false (I L (E 4)) [])
  (.ite (.lt (.a 1) (.l 0))
  (.ret false (I L (E 4)) [])
  (.ite (.lt (.l 4) (.a 1))
   (.ret false (I L (E 4)) [])
   (.ite (.lt (.a 2) (.l 0))
   (.ret false (I L (E 4)) [])
   (.ite (.lt (.l 4) (.a 2))
    (.ret false (I L (E 4)) [])
    (.ite (.lt (.a 3) (.l 0))
    (.ret false (I L (E 4)) [])
    (.ite (.lt (.l 4) (.a 3))
     (.ret false (I L (E 4)) [])
     (.ite (.lt (.a 4) (.l 0))
     (.ret false (I L (E 4)) [])
     (.ite (.lt (.l 4) (.a 4))
      (.ret false (I L (E 4)) [])
      (.ite (.lt (.a 5) (.l 0))
      (.ret false (I L (E 4)) [])
      (.ite (.lt (.l 4) (.a 5))
       (.ret false (I L (E 4)) [])
       (.ret false (I L (E 0)) [])))))))))))))
def bundle_Check_S:Sx.Sys:=⟨[(.sh (.agg [(D L),(D L),(D L),(D L),(D L),(D L)]))],a7D,[],none,none⟩
def b6d:List Cfg:=[]
theorem b8C:SysOk Try.prog 48 bundle_Check_S:=a0O (c:=(cg [] [] [] false false false true)) (a0s _ _ _ _ _ _ _ _ _) Try.func48 Try.call48 (by kernel_rfl) b6d bundle_Check_S 5000 rfl (by kernel_rfl) (by kernel_rfl) rfl
def c1o:PT :=
 (.need (.is 0 0)
 (.jump 0 [(.l 0),(.slen 0),(.l 0)] [] [(.va 0)]))
def b3Q:PT :=
 (.ite (.lt (.a 2) (.a 1))
 (.need (treeI (.a 2) (.slen 0))
 (.load false (.ea 0 (.a 2) 9 0) [(D L),(D L),(D L),(D L),(D L),(D L),(D L),(D L),.val]
 (.call 65 [(.agg [(I L (A 3)),(I L (A 4)),(I L (A 5)),(I L (A 6)),(I L (A 7)),(I L (A 8)),(I L (A 9)),(I L (A 10)),(.va 1)])] [] [(.one (D L))]
 (.need (treeB (.add (.a 2) (.l 1)))
 (.jump 0 [(.mx (.a 0) (.a 11)),(.a 1),(.add (.a 2) (.l 1))] [] [(.va 0)])))))
 (.need (treeB (.add (.a 0) (.l 1)))
 (.ret false (.int .i64 (.add (.a 0) (.l 1))) [])))
def expr_Depth_S:Sx.Sys:=⟨[(.sh (.agg [(D L),(D L),(D L),(D L),(D L),(D L),(D L),(D L),.val]))],c1o,[b3Q],none,none⟩
def b7M:List Cfg:=[{ todo:=[(.code [false,false,true,false,true,true]),(.inLoop [false,false,true,false,true,true]),(.inBlock 0),(.code [true,true,true])],sl:=[(.junk 0),(.junk 1),(.junk 2),(I L (A 0)),.undef,(.junk 3),(.junk 4),(.va 0),(I L (A 1)),(I L (A 2)),(.junk 5),(.junk 6),(.junk 7),(.junk 8),(.junk 9),(.junk 10),(.junk 11),(.junk 12),.undef,.undef],H:=[],ni:=3,nb:=0,nv:=1,nj:=13 }]
theorem c0t:SysOk Try.prog 65 expr_Depth_S:=a0O (c:=(cg [[false,false,true,false,true,true]] [] [] false false false true)) (a0s _ _ _ _ _ _ _ _ _) Try.func65 Try.call65 (by kernel_rfl) b7M expr_Depth_S 5000 rfl (by kernel_rfl) (by kernel_rfl) rfl
def a4b:PT :=
 (.need (.is 0 0)
 (.ite (.eq (.a 0) (.l 1))
 (.ret false (.bool (.eq (.slen 0) (.l 0))) [])
 (.ite (.eq (.a 0) (.l 2))
  (.ite (.eq (.a 0) (.l 2))
  (.ite (.le (.l 1) (.slen 0))
   (.ite (.le (.slen 0) (.l 8))
   (.ite (.and (.eq (.a 1) (.l 0)) (.and (.eq (.a 2) (.l 0)) (.and (.eq (.a 3) (.l 0)) (.and (.eq (.a 4) (.l 0)) (.and (.eq (.a 5) (.l 0)) (.eq (.a 6) (.l 0)))))))
    (.ret false (.bool (.eq (.a 7) (.l 0))) [])
    (.ret false (.bool (.t false)) []))
   (.ret false (.bool (.t false)) []))
   (.ret false (.bool (.t false)) []))
  (.ite (.eq (.a 0) (.l 4))
   (.ret false (.bool (.eq (.slen 0) (.l 1))) [])
   (.ite (.eq (.a 0) (.l 5))
   (.ite (.eq (.slen 0) (.l 1))
    (.ret false (.bool (.and (.eq (.a 1) (.l 0)) (.and (.eq (.a 2) (.l 0)) (.and (.eq (.a 3) (.l 0)) (.and (.eq (.a 4) (.l 0)) (.and (.eq (.a 5) (.l 0)) (.eq (.a 6) (.l 0)))))))) [])
    (.ret false (.bool (.t false)) []))
   (.ret false (.bool (.t false)) []))))
  (.ite (.eq (.a 0) (.l 3))
  (.ite (.le (.l 1) (.slen 0))
   (.ite (.le (.slen 0) (.l 8))
   (.ite (.and (.eq (.a 1) (.l 0)) (.and (.eq (.a 2) (.l 0)) (.and (.eq (.a 3) (.l 0)) (.and (.eq (.a 4) (.l 0)) (.and (.eq (.a 5) (.l 0)) (.eq (.a 6) (.l 0)))))))
    (.ret false (.bool (.eq (.a 7) (.l 0))) [])
    (.ret false (.bool (.t false)) []))
   (.ret false (.bool (.t false)) []))
   (.ret false (.bool (.t false)) []))
  (.ite (.eq (.a 0) (.l 4))
   (.ret false (.bool (.eq (.slen 0) (.l 1))) [])
   (.ite (.eq (.a 0) (.l 5))
   (.ite (.eq (.slen 0) (.l 1))
    (.ret false (.bool (.and (.eq (.a 1) (.l 0)) (.and (.eq (.a 2) (.l 0)) (.and (.eq (.a 3) (.l 0)) (.and (.eq (.a 4) (.l 0)) (.and (.eq (.a 5) (.l 0)) (.eq (.a 6) (.l 0)))))))) [])
    (.ret false (.bool (.t false)) []))
   (.ret false (.bool (.t false)) [])))))))
def saleroomref11_formed_S:Sx.Sys:=⟨[(.sh (.agg [(D L),(D L),(D L),(D L),(D L),(D L),(D L),(D L),.val]))],a4b,[],none,none⟩
def a8S:List Cfg:=[]
theorem b0q:SysOk Try.prog 81 saleroomref11_formed_S:=a0O (c:=(cg [] [] [] false false false true)) (a0s _ _ _ _ _ _ _ _ _) Try.func81 Try.call81 (by kernel_rfl) a8S saleroomref11_formed_S 5000 rfl (by kernel_rfl) (by kernel_rfl) rfl
def a8x:PT :=
 (.ret false (.agg [(.int .i64 (.mn (.a 0) (.a 6))),(.int .i64 (.mn (.a 1) (.a 7))),(.int .i64 (.mn (.a 2) (.a 8))),(.int .i64 (.mn (.a 3) (.a 9))),(.int .i64 (.mn (.a 4) (.a 10))),(.int .i64 (.mn (.a 5) (.a 11)))]) [])
def bundle_Meet_S:Sx.Sys:=⟨[(.sh (.agg [(D L),(D L),(D L),(D L),(D L),(D L)])),(.sh (.agg [(D L),(D L),(D L),(D L),(D L),(D L)]))],a8x,[],none,none⟩
def b6I:List Cfg:=[]
theorem b1x:SysOk Try.prog 89 bundle_Meet_S:=a0O (c:=(cg [] [] [] false false false true)) (a0s _ _ _ _ _ _ _ _ _) Try.func89 Try.call89 (by kernel_rfl) b6I bundle_Meet_S 5000 rfl (by kernel_rfl) (by kernel_rfl) rfl
def d5A:PT :=
 (.call 52 [(.agg [(I L (A 0)),(I L (A 1)),(I L (A 2)),(I L (A 3)),(I L (A 4)),(I L (A 5))])] [] [(.one (D L))]
 (.ite (.eq (.a 12) (.l 0))
 (.ret false (.tup [(I L (E 0)),(I L (E 4))]) [])
 (.call 48 [(.agg [(I L (A 6)),(I L (A 7)),(I L (A 8)),(I L (A 9)),(I L (A 10)),(I L (A 11))])] [] [(.one (D L))]
 (.ite (.not (.eq (.a 13) (.l 0)))
  (.ret false (.tup [(I L (E 0)),(I L (E 4))]) [])
  (.call 62 [(.agg [(I L (A 6)),(I L (A 7)),(I L (A 8)),(I L (A 9)),(I L (A 10)),(I L (A 11))]),(.agg [(I L (A 0)),(I L (A 1)),(I L (A 2)),(I L (A 3)),(I L (A 4)),(I L (A 5))])] [] [(.one .bool)]
  (.ite (.not (.a 0))
  (.ret false (.tup [(I L (E 0)),(I L (E 4))]) [])
  (.need (treeB (.add (.a 0) (.l 1)))
  (.need (treeB (.mul (.l 0) (.add (.a 0) (.l 1))))
  (.need (treeB (.add (.mul (.l 0) (.add (.a 0) (.l 1))) (.a 6)))
  (.need (treeB (.add (.a 1) (.l 1)))
  (.need (treeB (.mul (.add (.mul (.l 0) (.add (.a 0) (.l 1))) (.a 6)) (.add (.a 1) (.l 1))))
  (.need (treeB (.add (.mul (.add (.mul (.l 0) (.add (.a 0) (.l 1))) (.a 6)) (.add (.a 1) (.l 1))) (.a 7)))
  (.need (treeB (.add (.a 2) (.l 1)))
  (.need (treeB (.mul (.add (.mul (.add (.mul (.l 0) (.add (.a 0) (.l 1))) (.a 6)) (.add (.a 1) (.l 1))) (.a 7)) (.add (.a 2) (.l 1))))
  (.need (treeB (.add (.mul (.add (.mul (.add (.mul (.l 0) (.add (.a 0) (.l 1))) (.a 6)) (.add (.a 1) (.l 1))) (.a 7)) (.add (.a 2) (.l 1))) (.a 8)))
  (.need (treeB (.add (.a 3) (.l 1)))
  (.need (treeB (.mul (.add (.mul (.add (.mul (.add (.mul (.l 0) (.add (.a 0) (.l 1))) (.a 6)) (.add (.a 1) (.l 1))) (.a 7)) (.add (.a 2) (.l 1))) (.a 8)) (.add (.a 3) (.l 1))))
  (.need (treeB (.add (.mul (.add (.mul (.add (.mul (.add (.mul (.l 0) (.add (.a 0) (.l 1))) (.a 6)) (.add (.a 1) (.l 1))) (.a 7)) (.add (.a 2) (.l 1))) (.a 8)) (.add (.a 3) (.l 1))) (.a 9)))
  (.need (treeB (.add (.a 4) (.l 1)))
  (.need (treeB (.mul (.add (.mul (.add (.mul (.add (.mul (.add (.mul (.l 0) (.add (.a 0) (.l 1))) (.a 6)) (.add (.a 1) (.l 1))) (.a 7)) (.add (.a 2) (.l 1))) (.a 8)) (.add (.a 3) (.l 1))) (.a 9)) (.add (.a 4) (.l 1))))
  (.need (treeB (.add (.mul (.add (.mul (.add (.mul (.add (.mul (.add (.mul (.l 0) (.add (.a 0) (.l 1))) (.a 6)) (.add (.a 1) (.l 1))) (.a 7)) (.add (.a 2) (.l 1))) (.a 8)) (.add (.a 3) (.l 1))) (.a 9)) (.add (.a 4) (.l 1))) (.a 10)))
  (.need (treeB (.add (.a 5) (.l 1)))
  (.need (treeB (.mul (.add (.mul (.add (.mul (.add (.mul (.add (.mul (.add (.mul (.l 0) (.add (.a 0) (.l 1))) (.a 6)) (.add (.a 1) (.l 1))) (.a 7)) (.add (.a 2) (.l 1))) (.a 8)) (.add (.a 3) (.l 1))) (.a 9)) (.add (.a 4) (.l 1))) (.a 10)) (.add (.a 5) (.l 1))))
  (.need (treeB (.add (.mul (.add (.mul (.add (.mul (.add (.mul (.add (.mul (.add (.mul (.l 0) (.add (.a 0) (.l 1))) (.a 6)) (.add (.a 1) (.l 1))) (.a 7)) (.add (.a 2) (.l 1))) (.a 8)) (.add (.a 3) (.l 1))) (.a 9)) (.add (.a 4) (.l 1))) (.a 10)) (.add (.a 5) (.l 1))) (.a 11)))
  (.ret false (.tup [(.int .i64 (.add (.mul (.add (.mul (.add (.mul (.add (.mul (.add (.mul (.add (.mul (.l 0) (.add (.a 0) (.l 1))) (.a 6)) (.add (.a 1) (.l 1))) (.a 7)) (.add (.a 2) (.l 1))) (.a 8)) (.add (.a 3) (.l 1))) (.a 9)) (.add (.a 4) (.l 1))) (.a 10)) (.add (.a 5) (.l 1))) (.a 11))),(I L (E 0))]) [])))))))))))))))))))))))))
def bundle_Rank_S:Sx.Sys:=⟨[(.sh (.agg [(D L),(D L),(D L),(D L),(D L),(D L)])),(.sh (.agg [(D L),(D L),(D L),(D L),(D L),(D L)]))],d5A,[],none,none⟩
def d5g:List Cfg:=[]
theorem d5x:SysOk Try.prog 97 bundle_Rank_S:=a0O (c:=(cg [] [] [] false false false true)) (a0s _ _ _ _ _ _ _ _ _) Try.func97 Try.call97 (by kernel_rfl) d5g bundle_Rank_S 5000 rfl (by kernel_rfl) (by kernel_rfl) rfl
end Go.Proofs.Ythmkfeiapdbojaa
set_option maxRecDepth 100000
namespace Go.Proofs.Ythmkfeiapdbojaa
open Go.Sx
def d4F:PT :=
 (.need (.is 0 0)
 (.need (.is 0 1)
 (.ite (.not (.eq (.slen 0) (.slen 1)))
 (.ret false (.bool (.t false)) [])
 (.jump 0 [(.l 0)] [] [(.va 0),(.va 1)]))))
def d4B:PT :=
 (.need (.is 0 0)
 (.ite (.lt (.a 0) (.slen 0))
 (.need (treeI (.a 0) (.slen 0))
 (.need (treeI (.a 0) (.slen 1))
 (.load true (.ea 0 (.a 0) 8 0) [(D L),(D L),(D L),(D L),(D L),(D L),(D L),(D L)]
 (.load true (.ea 1 (.a 0) 8 0) [(D L),(D L),(D L),(D L),(D L),(D L),(D L),(D L)]
 (.ite (.not (.and (.eq (.a 1) (.a 9)) (.and (.eq (.a 2) (.a 10)) (.and (.eq (.a 3) (.a 11)) (.and (.eq (.a 4) (.a 12)) (.and (.eq (.a 5) (.a 13)) (.and (.eq (.a 6) (.a 14)) (.and (.eq (.a 7) (.a 15)) (.eq (.a 8) (.a 16))))))))))
  (.ret false (.bool (.t false)) [])
  (.need (treeB (.add (.a 0) (.l 1)))
  (.jump 0 [(.add (.a 0) (.l 1))] [] [(.va 0),(.va 1)])))))))
 (.ret false (.bool (.t true)) [])))
def saleroomref14_Same_S:Sx.Sys:=⟨[(.sh (.one .val)),(.sh (.one .val))],d4F,[d4B],none,none⟩
def d4q:List Cfg:=[{ todo:=[(.code [false,false,true,false,true,true]),(.inLoop [false,false,true,false,true,true]),(.inBlock 0),(.code [true,true,true])],sl:=[(.va 0),(.va 1),.undef,.undef,(.junk 0),(I L (A 0)),(.junk 1),(.junk 2),(.junk 3),(.junk 4),(.junk 5),(.junk 6),(.junk 7),(.junk 8),(.junk 9),(.junk 10),(.junk 11),(.junk 12),(.junk 13),(.junk 14),(.junk 15),(.junk 16),(.junk 17),(.junk 18),(.junk 19),(.junk 20)],H:=[],ni:=1,nb:=0,nv:=2,nj:=21 }]
theorem d4z:SysOk Try.prog 33 saleroomref14_Same_S:=a0O (c:=(cg [[false,false,true,false,true,true]] [] [] false false false true)) (a0s _ _ _ _ _ _ _ _ _) Try.func33 Try.call33 (by kernel_rfl) d4q saleroomref14_Same_S 5000 rfl (by kernel_rfl) (by kernel_rfl) rfl
def e2o:PT :=
 (.ite (.not (.eq (.a 0) (.a 8)))
 (.ret false (.bool (.t false)) [])
 (.ite (.not (.and (.eq (.a 1) (.a 9)) (.and (.eq (.a 2) (.a 10)) (.and (.eq (.a 3) (.a 11)) (.and (.eq (.a 4) (.a 12)) (.and (.eq (.a 5) (.a 13)) (.eq (.a 6) (.a 14))))))))
  (.ret false (.bool (.t false)) [])
  (.ite (.not (.eq (.a 7) (.a 15)))
  (.ret false (.bool (.t false)) [])
  (.need (.is 0 0)
  (.need (.is 0 1)
  (.ite (.not (.eq (.slen 0) (.slen 1)))
   (.ret false (.bool (.t false)) [])
   (.jump 0 [(.l 0),(.a 0),(.a 1),(.a 2),(.a 3),(.a 4),(.a 5),(.a 6),(.a 7),(.a 8),(.a 9),(.a 10),(.a 11),(.a 12),(.a 13),(.a 14),(.a 15)] [] [(.va 0),(.va 1)])))))))
def e2n:PT :=
 (.need (.is 0 0)
 (.ite (.lt (.a 0) (.slen 0))
 (.need (treeI (.a 0) (.slen 0))
 (.need (treeI (.a 0) (.slen 1))
 (.load true (.ea 0 (.a 0) 9 0) [(D L),(D L),(D L),(D L),(D L),(D L),(D L),(D L),.val]
 (.load true (.ea 1 (.a 0) 9 0) [(D L),(D L),(D L),(D L),(D L),(D L),(D L),(D L),.val]
 (.call 41 [(.agg [(I L (A 17)),(I L (A 18)),(I L (A 19)),(I L (A 20)),(I L (A 21)),(I L (A 22)),(I L (A 23)),(I L (A 24)),(.va 2)]),(.agg [(I L (A 25)),(I L (A 26)),(I L (A 27)),(I L (A 28)),(I L (A 29)),(I L (A 30)),(I L (A 31)),(I L (A 32)),(.va 3)])] [] [(.one .bool)]
 (.ite (.not (.a 0))
  (.ret false (.bool (.t false)) [])
  (.need (treeB (.add (.a 0) (.l 1)))
  (.jump 0 [(.add (.a 0) (.l 1)),(.a 1),(.a 2),(.a 3),(.a 4),(.a 5),(.a 6),(.a 7),(.a 8),(.a 9),(.a 10),(.a 11),(.a 12),(.a 13),(.a 14),(.a 15),(.a 16)] [] [(.va 0),(.va 1)]))))))))
 (.ret false (.bool (.t true)) [])))
def saleroomref11_Equal_S:Sx.Sys:=⟨[(.sh (.agg [(D L),(D L),(D L),(D L),(D L),(D L),(D L),(D L),.val])),(.sh (.agg [(D L),(D L),(D L),(D L),(D L),(D L),(D L),(D L),.val]))],e2o,[e2n],none,none⟩
def e2z:List Cfg:=[{ todo:=[(.code [false,false,true,false,true,true]),(.inLoop [false,false,true,false,true,true]),(.inBlock 0),(.code [true,true,true])],sl:=[(.junk 0),(.junk 1),(.ptr 0 0),(.ptr 1 0),(.junk 2),(I L (A 0)),(.junk 3),(.junk 4),(.junk 5),(.junk 6),(.junk 7),(.junk 8),(.junk 9),(.junk 10),(.junk 11),(.junk 12),(.junk 13),(.junk 14),(.junk 15),(.junk 16),(.junk 17),(.junk 18),(.junk 19),(.junk 20),(.junk 21),(.junk 22),(.junk 23),(.junk 24),(.junk 25),(.junk 26),(.junk 27),(.junk 28),(.junk 29),(.junk 30),(.junk 31),(.junk 32),(.junk 33),(.junk 34),(.junk 35),(.junk 36),(.junk 37),(.junk 38),(.junk 39),(.junk 40),(.junk 41),(.junk 42),(.junk 43),(.junk 44),(.junk 45),(.junk 46),(.junk 47),(.junk 48),(.junk 49)],H:=[(.cells [(I L (A 1)),(I L (A 2)),(I L (A 3)),(I L (A 4)),(I L (A 5)),(I L (A 6)),(I L (A 7)),(I L (A 8)),(.va 0)] 26 false),(.cells [(I L (A 9)),(I L (A 10)),(I L (A 11)),(I L (A 12)),(I L (A 13)),(I L (A 14)),(I L (A 15)),(I L (A 16)),(.va 1)] 26 false)],ni:=17,nb:=0,nv:=2,nj:=50 }]
theorem e2G:SysOk Try.prog 41 saleroomref11_Equal_S:=a0O (c:=(cg [[false,false,true,false,true,true]] [] [] false false false true)) (a0s _ _ _ _ _ _ _ _ _) Try.func41 Try.call41 (by kernel_rfl) e2z saleroomref11_Equal_S 5000 rfl (by kernel_rfl) (by kernel_rfl) rfl
def a7E:PT :=
 (.newM [(I L (A 0)),(I L (A 1)),(I L (A 2)),(I L (A 3)),(I L (A 4)),(I L (A 5)),(I L (A 6)),(I L (A 7)),(.va 0)] 26
 (.newM [(I L (A 8)),(I L (A 9)),(I L (A 10)),(I L (A 11)),(I L (A 12)),(I L (A 13))] 23
 (.mkQ
 (.load false (.pa 1 0) [(D L)]
 (.ite (.eq (.a 14) (.l 1))
 (.load false (.pa 2 0) [(D L),(D L),(D L),(D L),(D L),(D L)]
 (.load false (.pa 1 1) [(D L),(D L),(D L),(D L),(D L),(D L)]
 (.load false (.pa 1 7) [(D L)]
 (.call 75 [(.va 3),(.agg [(I L (A 15)),(I L (A 16)),(I L (A 17)),(I L (A 18)),(I L (A 19)),(I L (A 20))]),(.agg [(I L (A 21)),(I L (A 22)),(I L (A 23)),(I L (A 24)),(I L (A 25)),(I L (A 26))]),(I L (A 27))] [] []
 (.ret true (.va 3) [])))))
 (.ite (.eq (.a 14) (.l 2))
  (.load false (.pa 1 8) [.val]
  (.need (.is 0 4)
  (.jump 0 [(.slen 4),(.l 0)] [] [(.va 2),(.va 3),(.va 1)])))
  (.ite (.eq (.a 14) (.l 3))
  (.load false (.pa 1 8) [.val]
  (.need (.is 0 4)
  (.jump 1 [(.slen 4),(.l 0)] [] [(.va 2),(.va 3),(.va 1)])))
  (.ite (.eq (.a 14) (.l 4))
   (.call 74 [(I L (E 0)),(.pa 1 0),(.pa 2 0)] [] [(.one .val)]
   (.load false (.pa 2 0) [(D L),(D L),(D L),(D L),(D L),(D L)]
   (.call 76 [(.va 3),(.agg [(I L (A 15)),(I L (A 16)),(I L (A 17)),(I L (A 18)),(I L (A 19)),(I L (A 20))]),(.va 4)] [] []
   (.load false (.pa 2 0) [(D L),(D L),(D L),(D L),(D L),(D L)]
   (.load false (.pa 1 1) [(D L),(D L),(D L),(D L),(D L),(D L)]
   (.load false (.pa 1 7) [(D L)]
   (.call 75 [(.va 3),(.agg [(I L (A 21)),(I L (A 22)),(I L (A 23)),(I L (A 24)),(I L (A 25)),(I L (A 26))]),(.agg [(I L (A 27)),(I L (A 28)),(I L (A 29)),(I L (A 30)),(I L (A 31)),(I L (A 32))]),(I L (A 33))] [] []
   (.rng 4
   (.jump 2 [] [] [(.va 1),(.va 2),(.va 3),(.va 5)])))))))))
   (.ite (.eq (.a 14) (.l 5))
   (.call 74 [(I L (E 0)),(.pa 1 0),(.pa 2 0)] [] [(.one .val)]
   (.rng 4
   (.jump 3 [] [] [(.va 1),(.va 2),(.va 3),(.va 5)])))
   (.ret true (.va 3) []))))))))))
def b5h:PT :=
 (.load false (.pa 0 0) [(D L),(D L),(D L),(D L),(D L),(D L)]
  (.call 74 [(I L (A 1)),(.pa 2 0),(.pa 0 0)] [] [(.one .val)]
  (.call 76 [(.va 1),(.agg [(I L (A 2)),(I L (A 3)),(I L (A 4)),(I L (A 5)),(I L (A 6)),(I L (A 7))]),(.va 3)] [] []
  (.need (treeB (.add (.a 1) (.l 1)))
  (.jump 0 [(.a 0),(.add (.a 1) (.l 1))] [] [(.va 0),(.va 1),(.va 2)])))))
def b5d:PT :=
 (.call 74 [(I L (A 1)),(.pa 2 0),(.pa 0 0)] [] [(.one .val)]
  (.load false (.pa 0 0) [(D L),(D L),(D L),(D L),(D L),(D L)]
  (.call 76 [(.va 1),(.agg [(I L (A 2)),(I L (A 3)),(I L (A 4)),(I L (A 5)),(I L (A 6)),(I L (A 7))]),(.va 3)] [] []
  (.need (treeB (.add (.a 1) (.l 1)))
  (.jump 0 [(.a 0),(.add (.a 1) (.l 1))] [] [(.va 0),(.va 1),(.va 2)])))))
def b0R:PT :=
 (.ite (.lt (.a 1) (.a 0))
 (.both b5h b5d)
 (.ret true (.va 1) []))
def b4v:PT :=
 (.load false (.pa 0 0) [(D L),(D L),(D L),(D L),(D L),(D L)]
  (.call 74 [(I L (A 1)),(.pa 2 0),(.pa 0 0)] [] [(.one .val)]
  (.call 77 [(.agg [(I L (A 2)),(I L (A 3)),(I L (A 4)),(I L (A 5)),(I L (A 6)),(I L (A 7))]),(.va 1),(.va 3)] [] [(.one .val)]
  (.need (treeB (.add (.a 1) (.l 1)))
  (.jump 1 [(.a 0),(.add (.a 1) (.l 1))] [] [(.va 0),(.va 4),(.va 2)])))))
def b5o:PT :=
 (.call 74 [(I L (A 1)),(.pa 2 0),(.pa 0 0)] [] [(.one .val)]
  (.load false (.pa 0 0) [(D L),(D L),(D L),(D L),(D L),(D L)]
  (.call 77 [(.agg [(I L (A 2)),(I L (A 3)),(I L (A 4)),(I L (A 5)),(I L (A 6)),(I L (A 7))]),(.va 1),(.va 3)] [] [(.one .val)]
  (.need (treeB (.add (.a 1) (.l 1)))
  (.jump 1 [(.a 0),(.add (.a 1) (.l 1))] [] [(.va 0),(.va 4),(.va 2)])))))
def b0F:PT :=
 (.ite (.lt (.a 1) (.a 0))
 (.both b4v b5o)
 (.ret true (.va 1) []))
def b4Y:PT :=
 (.call 78 [(.agg [(I L (A 7)),(I L (A 8)),(I L (A 9)),(I L (A 10)),(I L (A 11)),(I L (A 12))]),(.agg [(I L (A 20)),(I L (A 21)),(I L (A 22)),(I L (A 23)),(I L (A 24)),(I L (A 25))])] [] [(.agg [(D L),(D L),(D L),(D L),(D L),(D L)])]
   (.load false (.pa 0 7) [(D L)]
   (.need (treeB (.add (.a 13) (.a 32)))
   (.call 75 [(.va 2),(.agg [(I L (A 14)),(I L (A 15)),(I L (A 16)),(I L (A 17)),(I L (A 18)),(I L (A 19))]),(.agg [(I L (A 26)),(I L (A 27)),(I L (A 28)),(I L (A 29)),(I L (A 30)),(I L (A 31))]),(.int .i64 (.add (.a 13) (.a 32)))] [] []
   (.jump 2 [] [] [(.va 0),(.va 1),(.va 2),(.va 3)])))))
def b5r:PT :=
 (.load false (.pa 0 7) [(D L)]
   (.need (treeB (.add (.a 13) (.a 26)))
   (.call 78 [(.agg [(I L (A 7)),(I L (A 8)),(I L (A 9)),(I L (A 10)),(I L (A 11)),(I L (A 12))]),(.agg [(I L (A 20)),(I L (A 21)),(I L (A 22)),(I L (A 23)),(I L (A 24)),(I L (A 25))])] [] [(.agg [(D L),(D L),(D L),(D L),(D L),(D L)])]
   (.call 75 [(.va 2),(.agg [(I L (A 14)),(I L (A 15)),(I L (A 16)),(I L (A 17)),(I L (A 18)),(I L (A 19))]),(.agg [(I L (A 27)),(I L (A 28)),(I L (A 29)),(I L (A 30)),(I L (A 31)),(I L (A 32))]),(.int .i64 (.add (.a 13) (.a 26)))] [] []
   (.jump 2 [] [] [(.va 0),(.va 1),(.va 2),(.va 3)])))))
def b5s:PT :=
 (.load false (.pa 0 1) [(D L),(D L),(D L),(D L),(D L),(D L)]
  (.both b4Y b5r))
def b4G:PT :=
 (.load false (.pa 0 7) [(D L)]
  (.need (treeB (.add (.a 13) (.a 20)))
  (.load false (.pa 0 1) [(D L),(D L),(D L),(D L),(D L),(D L)]
  (.call 78 [(.agg [(I L (A 7)),(I L (A 8)),(I L (A 9)),(I L (A 10)),(I L (A 11)),(I L (A 12))]),(.agg [(I L (A 21)),(I L (A 22)),(I L (A 23)),(I L (A 24)),(I L (A 25)),(I L (A 26))])] [] [(.agg [(D L),(D L),(D L),(D L),(D L),(D L)])]
  (.call 75 [(.va 2),(.agg [(I L (A 14)),(I L (A 15)),(I L (A 16)),(I L (A 17)),(I L (A 18)),(I L (A 19))]),(.agg [(I L (A 27)),(I L (A 28)),(I L (A 29)),(I L (A 30)),(I L (A 31)),(I L (A 32))]),(.int .i64 (.add (.a 13) (.a 20)))] [] []
  (.jump 2 [] [] [(.va 0),(.va 1),(.va 2),(.va 3)]))))))
def b5x:PT :=
 (.load false (.pa 1 0) [(D L),(D L),(D L),(D L),(D L),(D L)]
  (.both b5s b4G))
def b4J:PT :=
 (.call 78 [(.agg [(I L (A 7)),(I L (A 8)),(I L (A 9)),(I L (A 10)),(I L (A 11)),(I L (A 12))]),(.agg [(I L (A 14)),(I L (A 15)),(I L (A 16)),(I L (A 17)),(I L (A 18)),(I L (A 19))])] [] [(.agg [(D L),(D L),(D L),(D L),(D L),(D L)])]
   (.load false (.pa 0 7) [(D L)]
   (.need (treeB (.add (.a 13) (.a 32)))
   (.call 75 [(.va 2),(.agg [(I L (A 20)),(I L (A 21)),(I L (A 22)),(I L (A 23)),(I L (A 24)),(I L (A 25))]),(.agg [(I L (A 26)),(I L (A 27)),(I L (A 28)),(I L (A 29)),(I L (A 30)),(I L (A 31))]),(.int .i64 (.add (.a 13) (.a 32)))] [] []
   (.jump 2 [] [] [(.va 0),(.va 1),(.va 2),(.va 3)])))))
def b4C:PT :=
 (.load false (.pa 0 7) [(D L)]
   (.need (treeB (.add (.a 13) (.a 26)))
   (.call 78 [(.agg [(I L (A 7)),(I L (A 8)),(I L (A 9)),(I L (A 10)),(I L (A 11)),(I L (A 12))]),(.agg [(I L (A 14)),(I L (A 15)),(I L (A 16)),(I L (A 17)),(I L (A 18)),(I L (A 19))])] [] [(.agg [(D L),(D L),(D L),(D L),(D L),(D L)])]
   (.call 75 [(.va 2),(.agg [(I L (A 20)),(I L (A 21)),(I L (A 22)),(I L (A 23)),(I L (A 24)),(I L (A 25))]),(.agg [(I L (A 27)),(I L (A 28)),(I L (A 29)),(I L (A 30)),(I L (A 31)),(I L (A 32))]),(.int .i64 (.add (.a 13) (.a 26)))] [] []
   (.jump 2 [] [] [(.va 0),(.va 1),(.va 2),(.va 3)])))))
def b4X:PT :=
 (.load false (.pa 1 0) [(D L),(D L),(D L),(D L),(D L),(D L)]
   (.both b4J b4C))
def b5k:PT :=
 (.call 78 [(.agg [(I L (A 7)),(I L (A 8)),(I L (A 9)),(I L (A 10)),(I L (A 11)),(I L (A 12))]),(.agg [(I L (A 14)),(I L (A 15)),(I L (A 16)),(I L (A 17)),(I L (A 18)),(I L (A 19))])] [] [(.agg [(D L),(D L),(D L),(D L),(D L),(D L)])]
   (.load false (.pa 0 7) [(D L)]
   (.need (treeB (.add (.a 13) (.a 26)))
   (.load false (.pa 1 0) [(D L),(D L),(D L),(D L),(D L),(D L)]
   (.call 75 [(.va 2),(.agg [(I L (A 27)),(I L (A 28)),(I L (A 29)),(I L (A 30)),(I L (A 31)),(I L (A 32))]),(.agg [(I L (A 20)),(I L (A 21)),(I L (A 22)),(I L (A 23)),(I L (A 24)),(I L (A 25))]),(.int .i64 (.add (.a 13) (.a 26)))] [] []
   (.jump 2 [] [] [(.va 0),(.va 1),(.va 2),(.va 3)]))))))
def b4o:PT :=
 (.load false (.pa 1 0) [(D L),(D L),(D L),(D L),(D L),(D L)]
    (.call 78 [(.agg [(I L (A 7)),(I L (A 8)),(I L (A 9)),(I L (A 10)),(I L (A 11)),(I L (A 12))]),(.agg [(I L (A 14)),(I L (A 15)),(I L (A 16)),(I L (A 17)),(I L (A 18)),(I L (A 19))])] [] [(.agg [(D L),(D L),(D L),(D L),(D L),(D L)])]
    (.call 75 [(.va 2),(.agg [(I L (A 21)),(I L (A 22)),(I L (A 23)),(I L (A 24)),(I L (A 25)),(I L (A 26))]),(.agg [(I L (A 27)),(I L (A 28)),(I L (A 29)),(I L (A 30)),(I L (A 31)),(I L (A 32))]),(.int .i64 (.add (.a 13) (.a 20)))] [] []
    (.jump 2 [] [] [(.va 0),(.va 1),(.va 2),(.va 3)]))))
def b4i:PT :=
 (.call 78 [(.agg [(I L (A 7)),(I L (A 8)),(I L (A 9)),(I L (A 10)),(I L (A 11)),(I L (A 12))]),(.agg [(I L (A 14)),(I L (A 15)),(I L (A 16)),(I L (A 17)),(I L (A 18)),(I L (A 19))])] [] [(.agg [(D L),(D L),(D L),(D L),(D L),(D L)])]
    (.load false (.pa 1 0) [(D L),(D L),(D L),(D L),(D L),(D L)]
    (.call 75 [(.va 2),(.agg [(I L (A 27)),(I L (A 28)),(I L (A 29)),(I L (A 30)),(I L (A 31)),(I L (A 32))]),(.agg [(I L (A 21)),(I L (A 22)),(I L (A 23)),(I L (A 24)),(I L (A 25)),(I L (A 26))]),(.int .i64 (.add (.a 13) (.a 20)))] [] []
    (.jump 2 [] [] [(.va 0),(.va 1),(.va 2),(.va 3)]))))
def b4e:PT :=
 (.load false (.pa 0 7) [(D L)]
   (.need (treeB (.add (.a 13) (.a 20)))
   (.both b4o b4i)))
def b4c:PT :=
 (.both b5k b4e)
def b4k:PT :=
 (.load false (.pa 0 1) [(D L),(D L),(D L),(D L),(D L),(D L)]
  (.both b4X b4c))
def b4f:PT :=
 (.load false (.pa 1 0) [(D L),(D L),(D L),(D L),(D L),(D L)]
   (.call 78 [(.agg [(I L (A 7)),(I L (A 8)),(I L (A 9)),(I L (A 10)),(I L (A 11)),(I L (A 12))]),(.agg [(I L (A 15)),(I L (A 16)),(I L (A 17)),(I L (A 18)),(I L (A 19)),(I L (A 20))])] [] [(.agg [(D L),(D L),(D L),(D L),(D L),(D L)])]
   (.call 75 [(.va 2),(.agg [(I L (A 21)),(I L (A 22)),(I L (A 23)),(I L (A 24)),(I L (A 25)),(I L (A 26))]),(.agg [(I L (A 27)),(I L (A 28)),(I L (A 29)),(I L (A 30)),(I L (A 31)),(I L (A 32))]),(.int .i64 (.add (.a 13) (.a 14)))] [] []
   (.jump 2 [] [] [(.va 0),(.va 1),(.va 2),(.va 3)]))))
def b4j:PT :=
 (.call 78 [(.agg [(I L (A 7)),(I L (A 8)),(I L (A 9)),(I L (A 10)),(I L (A 11)),(I L (A 12))]),(.agg [(I L (A 15)),(I L (A 16)),(I L (A 17)),(I L (A 18)),(I L (A 19)),(I L (A 20))])] [] [(.agg [(D L),(D L),(D L),(D L),(D L),(D L)])]
   (.load false (.pa 1 0) [(D L),(D L),(D L),(D L),(D L),(D L)]
   (.call 75 [(.va 2),(.agg [(I L (A 27)),(I L (A 28)),(I L (A 29)),(I L (A 30)),(I L (A 31)),(I L (A 32))]),(.agg [(I L (A 21)),(I L (A 22)),(I L (A 23)),(I L (A 24)),(I L (A 25)),(I L (A 26))]),(.int .i64 (.add (.a 13) (.a 14)))] [] []
   (.jump 2 [] [] [(.va 0),(.va 1),(.va 2),(.va 3)]))))
def b4h:PT :=
 (.load false (.pa 0 7) [(D L)]
  (.need (treeB (.add (.a 13) (.a 14)))
  (.load false (.pa 0 1) [(D L),(D L),(D L),(D L),(D L),(D L)]
  (.both b4f b4j))))
def b4l:PT :=
 (.both b4k b4h)
def b0O:PT :=
 (.next 3 6
 (.ret true (.va 2) [])
 (.entry 3 6
 (.both b5x b4l)))
def b0J:PT :=
 (.next 3 6
 (.ret true (.va 2) [])
 (.entry 3 6
 (.load false (.pa 1 0) [(D L),(D L),(D L),(D L),(D L),(D L)]
 (.load false (.pa 0 7) [(D L)]
 (.call 75 [(.va 2),(.agg [(I L (A 14)),(I L (A 15)),(I L (A 16)),(I L (A 17)),(I L (A 18)),(I L (A 19))]),(.agg [(I L (A 7)),(I L (A 8)),(I L (A 9)),(I L (A 10)),(I L (A 11)),(I L (A 12))]),(.int .i64 (.mn (.a 13) (.a 20)))] [] []
 (.jump 3 [] [] [(.va 0),(.va 1),(.va 2),(.va 3)]))))))
def valuation_of_S:Sx.Sys:=⟨[(.sh (.agg [(D L),(D L),(D L),(D L),(D L),(D L),(D L),(D L),.val])),(.sh (.agg [(D L),(D L),(D L),(D L),(D L),(D L)]))],a7E,[b0R,b0F,b0O,b0J],none,none⟩
def b5W:List Cfg:=[{ todo:=[(.code [false,false,true,false,true,true,true,false,true,false,true,true,true]),(.inLoop [false,false,true,false,true,true,true,false,true,false,true,true,true]),(.inBlock 1),(.inBlock 0),(.code [true,true,true,true])],sl:=[(.junk 0),(.junk 1),(.junk 2),(.pa 0 0),(.junk 3),(.va 1),(.fn 74 0 [(.pa 2 0),(.pa 0 0)]),(.junk 4),.undef,.undef,.undef,.undef,.undef,.undef,(.junk 5),(.junk 6),(.junk 7),(.junk 8),(.junk 9),(.junk 10),.undef,.undef,.undef,.undef,.undef,.undef,.undef,(.junk 11),(.junk 12),(.junk 13),(.junk 14),(I L (A 0)),(I L (A 1)),(.junk 15),(.junk 16),(.junk 17),(.junk 18),(.junk 19),(.junk 20),(.junk 21),(.junk 22),(.junk 23),.undef,.undef,.undef,.undef,.undef,.undef,.undef,.undef,.undef,.undef,.undef,.undef,.undef,.undef,.undef,.undef,.undef,.undef,.undef,.undef,.undef,.undef,.undef,.undef,.undef,.undef,.undef,.undef,.undef,.undef,.undef,.undef,.undef,.undef,.undef,.undef,.undef,.undef,.undef,.undef,.undef,.undef,.undef,.undef,.undef,.undef,.undef,.undef,.undef,.undef,.undef,.undef,.undef,.undef,.undef,.undef,.undef,.undef,.undef,.undef,.undef,.undef,.undef,.undef,.undef,.undef,.undef],H:=[],ni:=2,nb:=0,nv:=3,nj:=24 },
 { todo:=[(.code [false,false,true,false,true,true,true,true,true,false,true,false,true,true,true]),(.inLoop [false,false,true,false,true,true,true,true,true,false,true,false,true,true,true]),(.inBlock 3),(.inBlock 0),(.code [true,true,true,true])],sl:=[(.junk 0),(.junk 1),(.junk 2),(.pa 0 0),(.junk 3),(.va 1),(.fn 74 0 [(.pa 2 0),(.pa 0 0)]),.undef,(.junk 4),.undef,.undef,.undef,.undef,.undef,(.junk 5),(.junk 6),(.junk 7),(.junk 8),(.junk 9),(.junk 10),.undef,.undef,.undef,.undef,.undef,.undef,.undef,(.junk 11),(.junk 12),.undef,.undef,.undef,.undef,.undef,.undef,.undef,.undef,.undef,.undef,.undef,.undef,.undef,(.junk 13),(.junk 14),(.junk 15),(.junk 16),(I L (A 0)),(I L (A 1)),(.junk 17),(.junk 18),(.junk 19),(.junk 20),(.junk 21),(.junk 22),(.junk 23),(.junk 24),(.junk 25),.undef,.undef,.undef,.undef,.undef,.undef,.undef,.undef,.undef,.undef,.undef,.undef,.undef,.undef,.undef,.undef,.undef,.undef,.undef,.undef,.undef,.undef,.undef,.undef,.undef,.undef,.undef,.undef,.undef,.undef,.undef,.undef,.undef,.undef,.undef,.undef,.undef,.undef,.undef,.undef,.undef,.undef,.undef,.undef,.undef,.undef,.undef,.undef,.undef,.undef,.undef,.undef],H:=[],ni:=2,nb:=0,nv:=3,nj:=26 },
 { todo:=[(.code [false,false,true,true,true,true,false,true,true,true,true,true,true,true,false,true,false,true,true,true]),(.inLoop [false,false,true,true,true,true,false,true,true,true,true,true,true,true,false,true,false,true,true,true]),(.inBlock 5),(.inBlock 0),(.code [true,true,true,true])],sl:=[(.junk 0),(.junk 1),(.pa 0 0),(.pa 1 0),(.junk 2),(.va 2),(.junk 3),.undef,.undef,(.junk 4),(.junk 5),(.junk 6),.undef,.undef,(.junk 7),(.junk 8),(.junk 9),(.junk 10),(.junk 11),(.junk 12),.undef,.undef,.undef,.undef,.undef,.undef,.undef,(.junk 13),(.junk 14),.undef,.undef,.undef,.undef,.undef,.undef,.undef,.undef,.undef,.undef,.undef,.undef,.undef,(.junk 15),(.junk 16),.undef,.undef,.undef,.undef,.undef,.undef,.undef,.undef,.undef,.undef,.undef,.undef,.undef,(.junk 17),(.junk 18),(.junk 19),(.junk 20),(.junk 21),(.junk 22),(.junk 23),(.junk 24),(.junk 25),(.junk 26),(.junk 27),(.junk 28),(.junk 29),(.junk 30),(.junk 31),(.junk 32),(.va 3),(.junk 33),(.junk 34),(.junk 35),(.junk 36),(.junk 37),(.junk 38),(.junk 39),(.junk 40),(.junk 41),(.junk 42),(.junk 43),(.junk 44),(.junk 45),(.junk 46),(.junk 47),(.junk 48),.undef,.undef,.undef,.undef,.undef,.undef,.undef,.undef,.undef,.undef,.undef,.undef,.undef,.undef,.undef,.undef,.undef,.undef,.undef],H:=[],ni:=0,nb:=0,nv:=4,nj:=49 },
 { todo:=[(.code [false,false,true,false,true,true,true,true,true,true,true,true,true,false,true,false,true,true,true]),(.inLoop [false,false,true,false,true,true,true,true,true,true,true,true,true,false,true,false,true,true,true]),(.inBlock 7),(.inBlock 0),(.code [true,true,true,true])],sl:=[(.junk 0),(.junk 1),(.pa 0 0),(.pa 1 0),(.junk 2),(.va 2),(.junk 3),.undef,.undef,.undef,.undef,.undef,(.junk 4),(.junk 5),(.junk 6),(.junk 7),(.junk 8),(.junk 9),(.junk 10),(.junk 11),.undef,.undef,.undef,.undef,.undef,.undef,.undef,(.junk 12),(.junk 13),.undef,.undef,.undef,.undef,.undef,.undef,.undef,.undef,.undef,.undef,.undef,.undef,.undef,(.junk 14),(.junk 15),.undef,.undef,.undef,.undef,.undef,.undef,.undef,.undef,.undef,.undef,.undef,.undef,.undef,(.junk 16),(.junk 17),.undef,.undef,.undef,.undef,.undef,.undef,.undef,.undef,.undef,.undef,.undef,.undef,.undef,.undef,.undef,.undef,.undef,.undef,.undef,.undef,.undef,.undef,.undef,.undef,.undef,.undef,.undef,.undef,.undef,.undef,.undef,(.junk 18),(.junk 19),(.junk 20),(.junk 21),(.va 3),(.junk 22),(.junk 23),(.junk 24),(.junk 25),(.junk 26),(.junk 27),(.junk 28),(.junk 29),(.junk 30),(.junk 31),(.junk 32),(.junk 33),(.junk 34),.undef],H:=[],ni:=0,nb:=0,nv:=4,nj:=35 }]
theorem b7B:SysIs Try.prog 49 valuation_of_S:=b4E (c:=(cg [[false,false,true,false,true,true,true,false,true,false,true,true,true],[false,false,true,false,true,true,true,true,true,false,true,false,true,true,true],[false,false,true,true,true,true,false,true,true,true,true,true,true,true,false,true,false,true,true,true],[false,false,true,false,true,true,true,true,true,true,true,true,true,false,true,false,true,true,true]] [2,3] [(37,[65]),(52,[65]),(59,[65]),(92,[65])] true true false true)) (a0s _ _ _ _ _ _ _ _ _) Try.func49 Try.call49 (by kernel_rfl) b5W valuation_of_S 5000 rfl (by kernel_rfl) (by kernel_rfl)
def a4v:PT :=
 (.ite (.lt (.a 6) (.a 0))
 (.ret false (.bool (.t false)) [])
 (.ite (.lt (.a 7) (.a 1))
  (.ret false (.bool (.t false)) [])
  (.ite (.lt (.a 8) (.a 2))
  (.ret false (.bool (.t false)) [])
  (.ite (.lt (.a 9) (.a 3))
   (.ret false (.bool (.t false)) [])
   (.ite (.lt (.a 10) (.a 4))
   (.ret false (.bool (.t false)) [])
   (.ite (.lt (.a 11) (.a 5))
    (.ret false (.bool (.t false)) [])
    (.ret false (.bool (.t true)) [])))))))
def saleroomref13_within_S:Sx.Sys:=⟨[(.sh (.agg [(D L),(D L),(D L),(D L),(D L),(D L)])),(.sh (.agg [(D L),(D L),(D L),(D L),(D L),(D L)]))],a4v,[],none,none⟩
def a9a:List Cfg:=[]
theorem b0n:SysOk Try.prog 57 saleroomref13_within_S:=a0O (c:=(cg [] [] [] false false false true)) (a0s _ _ _ _ _ _ _ _ _) Try.func57 Try.call57 (by kernel_rfl) a9a saleroomref13_within_S 5000 rfl (by kernel_rfl) (by kernel_rfl) rfl
def a7I:PT :=
 (.need (.is 0 0)
 (.ret false (.bool (.le (.slen 0) (.l 8))) []))
def expr_Check_1_S:Sx.Sys:=⟨[(.sh (.agg [(D L),(D L),(D L),(D L),(D L),(D L),(D L),(D L),.val]))],a7I,[],none,none⟩
def b6e:List Cfg:=[]
theorem b8s:SysOk Try.prog 66 expr_Check_1_S:=a0O (c:=(cg [] [] [] false false false true)) (a0s _ _ _ _ _ _ _ _ _) Try.func66 Try.call66 (by kernel_rfl) b6e expr_Check_1_S 5000 rfl (by kernel_rfl) (by kernel_rfl) rfl
def a6F:PT :=
 (.load false (.pa 0 8) [.val]
 (.need (treeI (.a 0) (.slen 2))
 (.load false (.ea 2 (.a 0) 9 0) [(D L),(D L),(D L),(D L),(D L),(D L),(D L),(D L),.val]
 (.load false (.pa 1 0) [(D L),(D L),(D L),(D L),(D L),(D L)]
 (.call 49 [(.agg [(I L (A 1)),(I L (A 2)),(I L (A 3)),(I L (A 4)),(I L (A 5)),(I L (A 6)),(I L (A 7)),(I L (A 8)),(.va 3)]),(.agg [(I L (A 9)),(I L (A 10)),(I L (A 11)),(I L (A 12)),(I L (A 13)),(I L (A 14))])] [] [(.one .val)]
 (.ret true (.va 4) []))))))
def valuation_of_1_S:Sx.Sys:=⟨[(.sh (.one (D L))),.ptr,.ptr],a6F,[],none,none⟩
def b4g:List Cfg:=[]
theorem a8I:SysOk Try.prog 74 valuation_of_1_S:=a0O (c:=(cg [] [] [] true true false true)) (a0s _ _ _ _ _ _ _ _ _) Try.func74 Try.call74 (by kernel_rfl) b4g valuation_of_1_S 5000 rfl (by kernel_rfl) (by kernel_rfl) rfl
def a4i:PT :=
 (.ite (.eq (.a 0) (.l 2))
 (.ret false (.bool (.t true)) [])
 (.ite (.eq (.a 0) (.l 3))
  (.ret false (.bool (.t true)) [])
  (.ite (.lt (.a 7) (.l 1))
  (.ret false (.bool (.t false)) [])
  (.ite (.lt (.l 1000000) (.a 7))
   (.ret false (.bool (.t false)) [])
   (.ite (.eq (.a 0) (.l 5))
   (.ret false (.bool (.t true)) [])
   (.call 16 [(.agg [(I L (A 1)),(I L (A 2)),(I L (A 3)),(I L (A 4)),(I L (A 5)),(I L (A 6))])] [] [(.one (D L))]
   (.ite (.eq (.a 8) (.l 0))
    (.call 93 [(.agg [(I L (A 1)),(I L (A 2)),(I L (A 3)),(I L (A 4)),(I L (A 5)),(I L (A 6))])] [] [(.one (D L))]
    (.ret false (.bool (.le (.l 1) (.a 9))) []))
    (.ret false (.bool (.t false)) []))))))))
def saleroomref11_ranged_S:Sx.Sys:=⟨[(.sh (.agg [(D L),(D L),(D L),(D L),(D L),(D L),(D L),(D L),.val]))],a4i,[],none,none⟩
def a8N:List Cfg:=[]
theorem b0m:SysOk Try.prog 82 saleroomref11_ranged_S:=a0O (c:=(cg [] [] [] false false false true)) (a0s _ _ _ _ _ _ _ _ _) Try.func82 Try.call82 (by kernel_rfl) a8N saleroomref11_ranged_S 5000 rfl (by kernel_rfl) (by kernel_rfl) rfl
def expr_Size_1_s:PT :=
 (.load false (.pa 1 0) [(D L)]
 (.need (treeB (.add (.a 8) (.l 1)))
 (.storeM (.pa 1 0) [(.int .i64 (.add (.a 8) (.l 1)))]
 (.ret true (.bool (.t true)) []))))
def expr_Size_1_S:Sx.Sys:=⟨[(.sh (.agg [(D L),(D L),(D L),(D L),(D L),(D L),(D L),(D L),.val])),.ptr],expr_Size_1_s,[],none,none⟩
def b6C:List Cfg:=[]
theorem b9q:SysOk Try.prog 90 expr_Size_1_S:=a0O (c:=(cg [] [] [] true true false true)) (a0s _ _ _ _ _ _ _ _ _) Try.func90 Try.call90 (by kernel_rfl) b6C expr_Size_1_S 5000 rfl (by kernel_rfl) (by kernel_rfl) rfl
end Go.Proofs.Ythmkfeiapdbojaa
set_option maxRecDepth 100000
namespace Go.Proofs.Ythmkfeiapdbojaa
open Go.Sx
def a4M:PT :=
 (.ite (.lt (.a 0) (.l 0))
 (.ret false (I L (E 4)) [])
 (.ite (.lt (.l 4) (.a 0))
  (.ret false (I L (E 4)) [])
  (.ite (.lt (.a 1) (.l 0))
  (.ret false (I L (E 4)) [])
  (.ite (.lt (.l 4) (.a 1))
   (.ret false (I L (E 4)) [])
   (.ite (.lt (.a 2) (.l 0))
   (.ret false (I L (E 4)) [])
   (.ite (.lt (.l 4) (.a 2))
    (.ret false (I L (E 4)) [])
    (.ite (.lt (.a 3) (.l 0))
    (.ret false (I L (E 4)) [])
    (.ite (.lt (.l 4) (.a 3))
     (.ret false (I L (E 4)) [])
     (.ite (.lt (.a 4) (.l 0))
     (.ret false (I L (E 4)) [])
     (.ite (.lt (.l 4) (.a 4))
      (.ret false (I L (E 4)) [])
      (.ite (.lt (.a 5) (.l 0))
      (.ret false (I L (E 4)) [])
      (.ite (.lt (.l 4) (.a 5))
       (.ret false (I L (E 4)) [])
       (.ret false (I L (E 0)) [])))))))))))))
def saleroomref07_Check_S:Sx.Sys:=⟨[(.sh (.agg [(D L),(D L),(D L),(D L),(D L),(D L)]))],a4M,[],none,none⟩
def a9x:List Cfg:=[]
theorem b1h:SysOk Try.prog 16 saleroomref07_Check_S:=a0O (c:=(cg [] [] [] false false false true)) (a0s _ _ _ _ _ _ _ _ _) Try.func16 Try.call16 (by kernel_rfl) a9x saleroomref07_Check_S 5000 rfl (by kernel_rfl) (by kernel_rfl) rfl
def d4O:PT :=
 (.call 52 [(.agg [(I L (A 0)),(I L (A 1)),(I L (A 2)),(I L (A 3)),(I L (A 4)),(I L (A 5))])] [] [(.one (D L))]
 (.ite (.eq (.a 6) (.l 0))
 (.ret false (.tup [.nilS,(I L (E 4))]) [])
 (.need (.is 0 0)
 (.ite (.lt (.slen 0) (.a 6))
  (.ret false (.tup [.nilS,(I L (E 1))]) [])
  (.need (.is 0 0)
  (.ite (.lt (.a 6) (.slen 0))
  (.ret false (.tup [.nilS,(I L (E 3))]) [])
  (.need (.lt (.l 0) (.slen 0))
  (.load false (.ea 0 (.l 0) 1 0) [(D L)]
  (.ite (.not (.eq (.a 7) (.l 0)))
   (.ret false (.tup [.nilS,(I L (E 4))]) [])
   (.need (.is 0 0)
   (.jump 0 [(.slen 0),(.l 0),(.a 0),(.a 1),(.a 2),(.a 3),(.a 4),(.a 5)] [] [(.va 0)])))))))))))
def d4D:PT :=
 (.ite (.lt (.a 1) (.a 0))
 (.need (treeI (.a 1) (.slen 0))
 (.load false (.ea 0 (.a 1) 1 0) [(D L)]
 (.ite (.lt (.a 8) (.l 0))
  (.ret false (.tup [.nilS,(I L (E 4))]) [])
  (.ite (.lt (.l 1000000) (.a 8))
  (.ret false (.tup [.nilS,(I L (E 4))]) [])
  (.need (treeB (.add (.a 1) (.l 1)))
  (.jump 0 [(.a 0),(.add (.a 1) (.l 1)),(.a 2),(.a 3),(.a 4),(.a 5),(.a 6),(.a 7)] [] [(.va 0)]))))))
 (.call 60 [(.va 0),(.agg [(I L (A 2)),(I L (A 3)),(I L (A 4)),(I L (A 5)),(I L (A 6)),(I L (A 7))])] [] [(.one .val),(.one (D L))]
 (.ret false (.tup [(.va 1),(I L (A 8))]) [])))
def flatten_FromTable_S:Sx.Sys:=⟨[(.sh (.one .val)),(.sh (.agg [(D L),(D L),(D L),(D L),(D L),(D L)]))],d4O,[d4D],none,none⟩
def d4w:List Cfg:=[{ todo:=[(.code [false,false,true,false,true,true,true]),(.inLoop [false,false,true,false,true,true,true]),(.inBlock 1),(.code [true,true,true,true])],sl:=[(.va 0),(.junk 0),.undef,(.ptr 0 0),(.junk 1),(.junk 2),(.junk 3),.undef,(.junk 4),(.junk 5),(.junk 6),(.junk 7),(.junk 8),(.junk 9),(.junk 10),(.junk 11),(.junk 12),(.junk 13),(.junk 14),(.junk 15),(.junk 16),(.junk 17),(.junk 18),(.junk 19),(.junk 20),(.junk 21),(.junk 22),(.junk 23),(.junk 24),(.va 0),(I L (A 0)),(I L (A 1)),(.junk 25),(.junk 26),(.junk 27),(.junk 28),(.junk 29),(.junk 30),(.junk 31),(.junk 32),(.junk 33),(.junk 34),.undef,.undef,.undef,.undef,.undef],H:=[(.cells [(I L (A 2)),(I L (A 3)),(I L (A 4)),(I L (A 5)),(I L (A 6)),(I L (A 7))] 23 false)],ni:=8,nb:=0,nv:=1,nj:=35 }]
theorem d4I:SysOk Try.prog 34 flatten_FromTable_S:=a0O (c:=(cg [[false,false,true,false,true,true,true]] [] [] false false false true)) (a0s _ _ _ _ _ _ _ _ _) Try.func34 Try.call34 (by kernel_rfl) d4w flatten_FromTable_S 5000 rfl (by kernel_rfl) (by kernel_rfl) rfl
def a9r:PT :=
 (.call 65 [(.agg [(I L (A 0)),(I L (A 1)),(I L (A 2)),(I L (A 3)),(I L (A 4)),(I L (A 5)),(I L (A 6)),(I L (A 7)),(.va 0)])] [] [(.one (D L))]
 (.ite (.lt (.l 6) (.a 8))
 (.ret false (I L (E 9)) [])
 (.call 67 [(.agg [(.fn 66 0 [])]),(.agg [(I L (A 0)),(I L (A 1)),(I L (A 2)),(I L (A 3)),(I L (A 4)),(I L (A 5)),(I L (A 6)),(I L (A 7)),(.va 0)])] [] [(.one .bool)]
 (.ite (.not (.a 0))
  (.ret false (I L (E 3)) [])
  (.call 68 [(.agg [(I L (A 0)),(I L (A 1)),(I L (A 2)),(I L (A 3)),(I L (A 4)),(I L (A 5)),(I L (A 6)),(I L (A 7)),(.va 0)])] [] [(.one (D L))]
  (.ite (.lt (.l 40) (.a 9))
  (.ret false (I L (E 3)) [])
  (.newM [(I L (E 0))] 28
  (.storeM (.pa 1 0) [(I L (E 0))]
  (.call 67 [(.agg [(.fn 69 0 [(.pa 1 0)])]),(.agg [(I L (A 0)),(I L (A 1)),(I L (A 2)),(I L (A 3)),(I L (A 4)),(I L (A 5)),(I L (A 6)),(I L (A 7)),(.va 0)])] [] [(.one .bool)]
  (.load false (.pa 1 0) [(D L)]
  (.ret false (I L (A 10)) [])))))))))))
def expr_Check_S:Sx.Sys:=⟨[(.sh (.agg [(D L),(D L),(D L),(D L),(D L),(D L),(D L),(D L),.val]))],a9r,[],none,none⟩
def b8f:List Cfg:=[]
theorem c0r:SysOk Try.prog 42 expr_Check_S:=a0O (c:=(cg [] [4] [] true false false true)) (a0s _ _ _ _ _ _ _ _ _) Try.func42 Try.call42 (by kernel_rfl) b8f expr_Check_S 5000 rfl (by kernel_rfl) (by kernel_rfl) rfl
def a4I:PT :=
 (.call 79 [(.agg [(I L (A 0)),(I L (A 1)),(I L (A 2)),(I L (A 3)),(I L (A 4)),(I L (A 5)),(I L (A 6)),(I L (A 7)),(.va 0)])] [] [(.one (D L))]
 (.ite (.lt (.l 6) (.a 8))
 (.ret false (I L (E 9)) [])
 (.call 80 [(.agg [(I L (A 0)),(I L (A 1)),(I L (A 2)),(I L (A 3)),(I L (A 4)),(I L (A 5)),(I L (A 6)),(I L (A 7)),(.va 0)])] [] [(.one .val)]
 (.need (.is 0 1)
 (.ite (.lt (.l 40) (.slen 1))
  (.ret false (I L (E 3)) [])
  (.jump 0 [(.l 0)] [] [(.va 1)]))))))
def a4t:PT :=
 (.need (.is 0 0)
 (.ite (.lt (.a 0) (.slen 0))
 (.need (treeI (.a 0) (.slen 0))
 (.load false (.ea 0 (.a 0) 9 8) [.val]
 (.need (.is 0 1)
 (.ite (.lt (.l 8) (.slen 1))
  (.ret false (I L (E 3)) [])
  (.need (treeB (.add (.a 0) (.l 1)))
  (.jump 0 [(.add (.a 0) (.l 1))] [] [(.va 0)]))))))
 (.jump 1 [(.l 0)] [] [(.va 0)])))
def a4c:PT :=
 (.need (.is 0 0)
 (.ite (.lt (.a 0) (.slen 0))
 (.need (treeI (.a 0) (.slen 0))
 (.load false (.ea 0 (.a 0) 9 0) [(D L),(D L),(D L),(D L),(D L),(D L),(D L),(D L),.val]
 (.call 81 [(.agg [(I L (A 1)),(I L (A 2)),(I L (A 3)),(I L (A 4)),(I L (A 5)),(I L (A 6)),(I L (A 7)),(I L (A 8)),(.va 1)])] [] [(.one .bool)]
 (.ite (.not (.a 0))
  (.ret false (I L (E 2)) [])
  (.need (treeI (.a 0) (.slen 0))
  (.load false (.ea 0 (.a 0) 9 0) [(D L),(D L),(D L),(D L),(D L),(D L),(D L),(D L),.val]
  (.call 82 [(.agg [(I L (A 9)),(I L (A 10)),(I L (A 11)),(I L (A 12)),(I L (A 13)),(I L (A 14)),(I L (A 15)),(I L (A 16)),(.va 2)])] [] [(.one .bool)]
  (.ite (.not (.a 1))
  (.ret false (I L (E 4)) [])
  (.need (treeB (.add (.a 0) (.l 1)))
  (.jump 1 [(.add (.a 0) (.l 1))] [] [(.va 0)]))))))))))
 (.ret false (I L (E 0)) [])))
def saleroomref11_Check_S:Sx.Sys:=⟨[(.sh (.agg [(D L),(D L),(D L),(D L),(D L),(D L),(D L),(D L),.val]))],a4I,[a4t,a4c],none,none⟩
def b0d:List Cfg:=[{ todo:=[(.code [false,false,true,false,true,true,true,true]),(.inLoop [false,false,true,false,true,true,true,true]),(.inBlock 0),(.code [true,true,true,true,true])],sl:=[(.junk 0),(.junk 1),(.junk 2),(.va 0),(I L (A 0)),.undef,(.junk 3),(.junk 4),(.junk 5),(.junk 6),(.junk 7),(.junk 8),(.junk 9),(.junk 10),(.junk 11),(.junk 12),(.junk 13),(.junk 14),(.junk 15),(.junk 16),(.junk 17),(.junk 18),(.junk 19),(.junk 20),(.junk 21),(.junk 22),(.junk 23),.undef,.undef,.undef,.undef,.undef,.undef,.undef,.undef,.undef,.undef,.undef,.undef,.undef,.undef,.undef,.undef,.undef,.undef],H:=[],ni:=1,nb:=0,nv:=1,nj:=24 },
 { todo:=[(.code [false,false,true,false,true,true,true,true,true]),(.inLoop [false,false,true,false,true,true,true,true,true]),(.inBlock 2),(.code [true,true,true,true,true,true])],sl:=[(.junk 0),(.junk 1),(.junk 2),(.va 0),(.junk 3),(I L (A 0)),(.junk 4),(.junk 5),(.junk 6),(.junk 7),(.junk 8),(.junk 9),(.junk 10),(.junk 11),(.junk 12),(.junk 13),(.junk 14),(.junk 15),(.junk 16),(.junk 17),(.junk 18),(.junk 19),(.junk 20),(.junk 21),(.junk 22),(.junk 23),(.junk 24),(.junk 25),(.junk 26),(.junk 27),(.junk 28),(.junk 29),(.junk 30),(.junk 31),(.junk 32),(.junk 33),(.junk 34),(.junk 35),(.junk 36),(.junk 37),(.junk 38),(.junk 39),(.junk 40),(.junk 41),(.junk 42)],H:=[],ni:=1,nb:=0,nv:=1,nj:=43 }]
theorem b0W:SysOk Try.prog 50 saleroomref11_Check_S:=a0O (c:=(cg [[false,false,true,false,true,true,true,true],[false,false,true,false,true,true,true,true,true]] [] [] false false false true)) (a0s _ _ _ _ _ _ _ _ _) Try.func50 Try.call50 (by kernel_rfl) b0d saleroomref11_Check_S 5000 rfl (by kernel_rfl) (by kernel_rfl) rfl
def a5y:PT :=
 (.need (treeB (.add (.a 5) (.l 1)))
 (.need (.not (.eq (.add (.a 5) (.l 1)) (.l 0)))
 (.need (treeB (.add (.a 5) (.l 1)))
 (.need (.not (.eq (.add (.a 5) (.l 1)) (.l 0)))
 (.need (treeB (.tdiv (.a 6) (.add (.a 5) (.l 1))))
 (.need (treeB (.add (.a 4) (.l 1)))
 (.need (.not (.eq (.add (.a 4) (.l 1)) (.l 0)))
 (.need (treeB (.add (.a 4) (.l 1)))
 (.need (.not (.eq (.add (.a 4) (.l 1)) (.l 0)))
 (.need (treeB (.tdiv (.tdiv (.a 6) (.add (.a 5) (.l 1))) (.add (.a 4) (.l 1))))
 (.need (treeB (.add (.a 3) (.l 1)))
 (.need (.not (.eq (.add (.a 3) (.l 1)) (.l 0)))
 (.need (treeB (.add (.a 3) (.l 1)))
 (.need (.not (.eq (.add (.a 3) (.l 1)) (.l 0)))
 (.need (treeB (.tdiv (.tdiv (.tdiv (.a 6) (.add (.a 5) (.l 1))) (.add (.a 4) (.l 1))) (.add (.a 3) (.l 1))))
 (.need (treeB (.add (.a 2) (.l 1)))
 (.need (.not (.eq (.add (.a 2) (.l 1)) (.l 0)))
 (.need (treeB (.add (.a 2) (.l 1)))
 (.need (.not (.eq (.add (.a 2) (.l 1)) (.l 0)))
 (.need (treeB (.tdiv (.tdiv (.tdiv (.tdiv (.a 6) (.add (.a 5) (.l 1))) (.add (.a 4) (.l 1))) (.add (.a 3) (.l 1))) (.add (.a 2) (.l 1))))
 (.need (treeB (.add (.a 1) (.l 1)))
 (.need (.not (.eq (.add (.a 1) (.l 1)) (.l 0)))
 (.need (treeB (.add (.a 1) (.l 1)))
 (.need (.not (.eq (.add (.a 1) (.l 1)) (.l 0)))
 (.need (treeB (.tdiv (.tdiv (.tdiv (.tdiv (.tdiv (.a 6) (.add (.a 5) (.l 1))) (.add (.a 4) (.l 1))) (.add (.a 3) (.l 1))) (.add (.a 2) (.l 1))) (.add (.a 1) (.l 1))))
 (.need (treeB (.add (.a 0) (.l 1)))
 (.need (.not (.eq (.add (.a 0) (.l 1)) (.l 0)))
 (.need (treeB (.add (.a 0) (.l 1)))
 (.need (.not (.eq (.add (.a 0) (.l 1)) (.l 0)))
 (.need (treeB (.tdiv (.tdiv (.tdiv (.tdiv (.tdiv (.tdiv (.a 6) (.add (.a 5) (.l 1))) (.add (.a 4) (.l 1))) (.add (.a 3) (.l 1))) (.add (.a 2) (.l 1))) (.add (.a 1) (.l 1))) (.add (.a 0) (.l 1))))
 (.ret false (.agg [(.int .i64 (.tmod (.tdiv (.tdiv (.tdiv (.tdiv (.tdiv (.a 6) (.add (.a 5) (.l 1))) (.add (.a 4) (.l 1))) (.add (.a 3) (.l 1))) (.add (.a 2) (.l 1))) (.add (.a 1) (.l 1))) (.add (.a 0) (.l 1)))),(.int .i64 (.tmod (.tdiv (.tdiv (.tdiv (.tdiv (.a 6) (.add (.a 5) (.l 1))) (.add (.a 4) (.l 1))) (.add (.a 3) (.l 1))) (.add (.a 2) (.l 1))) (.add (.a 1) (.l 1)))),(.int .i64 (.tmod (.tdiv (.tdiv (.tdiv (.a 6) (.add (.a 5) (.l 1))) (.add (.a 4) (.l 1))) (.add (.a 3) (.l 1))) (.add (.a 2) (.l 1)))),(.int .i64 (.tmod (.tdiv (.tdiv (.a 6) (.add (.a 5) (.l 1))) (.add (.a 4) (.l 1))) (.add (.a 3) (.l 1)))),(.int .i64 (.tmod (.tdiv (.a 6) (.add (.a 5) (.l 1))) (.add (.a 4) (.l 1)))),(.int .i64 (.tmod (.a 6) (.add (.a 5) (.l 1))))]) [])))))))))))))))))))))))))))))))
def saleroomref13_at_S:Sx.Sys:=⟨[(.sh (.agg [(D L),(D L),(D L),(D L),(D L),(D L)])),(.sh (.one (D L)))],a5y,[],none,none⟩
def b2h:List Cfg:=[]
theorem b4b:SysOk Try.prog 58 saleroomref13_at_S:=a0O (c:=(cg [] [] [] false false false true)) (a0s _ _ _ _ _ _ _ _ _) Try.func58 Try.call58 (by kernel_rfl) b2h saleroomref13_at_S 5000 rfl (by kernel_rfl) (by kernel_rfl) rfl
def a5D:PT :=
 (.callv 0 [(.agg [(I L (A 0)),(I L (A 1)),(I L (A 2)),(I L (A 3)),(I L (A 4)),(I L (A 5)),(I L (A 6)),(I L (A 7)),(.va 1)])] [(.one .bool)]
 (.ite (.not (.a 0))
 (.ret true (.bool (.t false)) [])
 (.need (.is 0 1)
 (.jump 0 [(.slen 1),(.l 0)] [] [(.va 1),(.va 0)]))))
def a5e:PT :=
 (.ite (.lt (.a 1) (.a 0))
 (.need (treeI (.a 1) (.slen 0))
 (.load false (.ea 0 (.a 1) 9 0) [(D L),(D L),(D L),(D L),(D L),(D L),(D L),(D L),.val]
 (.call 67 [(.agg [(.va 1)]),(.agg [(I L (A 2)),(I L (A 3)),(I L (A 4)),(I L (A 5)),(I L (A 6)),(I L (A 7)),(I L (A 8)),(I L (A 9)),(.va 2)])] [] [(.one .bool)]
 (.ite (.not (.a 0))
  (.ret true (.bool (.t false)) [])
  (.need (treeB (.add (.a 1) (.l 1)))
  (.jump 0 [(.a 0),(.add (.a 1) (.l 1))] [] [(.va 0),(.va 1)]))))))
 (.ret true (.bool (.t true)) []))
def expr_walker_walk_S:Sx.Sys:=⟨[(.sh (.agg [.val])),(.sh (.agg [(D L),(D L),(D L),(D L),(D L),(D L),(D L),(D L),.val]))],a5D,[a5e],none,none⟩
def b2A:List Cfg:=[{ todo:=[(.code [false,false,true,false,true,true]),(.inLoop [false,false,true,false,true,true]),(.inBlock 0),(.code [true,true,true])],sl:=[(.junk 0),(.junk 1),(.ptr 0 0),(.junk 2),(.junk 3),.undef,(.junk 4),(.junk 5),(.junk 6),(.junk 7),(.junk 8),(.junk 9),(.junk 10),(.va 0),(I L (A 0)),(I L (A 1)),(.junk 11),(.junk 12),(.junk 13),(.junk 14),(.junk 15),(.junk 16),(.junk 17),(.junk 18)],H:=[(.cells [(.va 1)] 79 false)],ni:=2,nb:=0,nv:=2,nj:=19 }]
theorem b4m:SysOk Try.prog 67 expr_walker_walk_S:=a0O (c:=(cg [[false,false,true,false,true,true]] [] [(8,[4])] false true false true)) (a0s _ _ _ _ _ _ _ _ _) Try.func67 Try.call67 (by kernel_rfl) b2A expr_walker_walk_S 5000 rfl (by kernel_rfl) (by kernel_rfl) rfl
def a3J:PT :=
 (.qGet 0 [(.a 6),(.a 7),(.a 8),(.a 9),(.a 10),(.a 11)] false
 (.ite (.lt (.a 13) (.mn (.a 12) (.l 1000000)))
 (.call 62 [(.agg [(I L (A 6)),(I L (A 7)),(I L (A 8)),(I L (A 9)),(I L (A 10)),(I L (A 11))]),(.agg [(I L (A 0)),(I L (A 1)),(I L (A 2)),(I L (A 3)),(I L (A 4)),(I L (A 5))])] [] [(.one .bool)]
 (.ite (.a 0)
  (.qSet 0 [(.a 6),(.a 7),(.a 8),(.a 9),(.a 10),(.a 11)] (.mn (.a 12) (.l 1000000))
  (.ret false (.tup []) []))
  (.ret false (.tup []) [])))
 (.ret false (.tup []) [])))
def valuation_worths_raise_S:Sx.Sys:=⟨[(.sh (.one .val)),(.sh (.agg [(D L),(D L),(D L),(D L),(D L),(D L)])),(.sh (.agg [(D L),(D L),(D L),(D L),(D L),(D L)])),(.sh (.one (D L)))],a3J,[],none,none⟩
def a8m:List Cfg:=[]
theorem a5l:SysOk Try.prog 75 valuation_worths_raise_S:=a0O (c:=(cg [] [] [] false false false true)) (a0s _ _ _ _ _ _ _ _ _) Try.func75 Try.call75 (by kernel_rfl) a8m valuation_worths_raise_S 5000 rfl (by kernel_rfl) (by kernel_rfl) rfl
def a4y:PT :=
 (.need (treeB (.add (.a 0) (.l 1)))
 (.need (treeB (.mul (.l 1) (.add (.a 0) (.l 1))))
 (.need (treeB (.add (.a 1) (.l 1)))
 (.need (treeB (.mul (.mul (.l 1) (.add (.a 0) (.l 1))) (.add (.a 1) (.l 1))))
 (.need (treeB (.add (.a 2) (.l 1)))
 (.need (treeB (.mul (.mul (.mul (.l 1) (.add (.a 0) (.l 1))) (.add (.a 1) (.l 1))) (.add (.a 2) (.l 1))))
 (.need (treeB (.add (.a 3) (.l 1)))
 (.need (treeB (.mul (.mul (.mul (.mul (.l 1) (.add (.a 0) (.l 1))) (.add (.a 1) (.l 1))) (.add (.a 2) (.l 1))) (.add (.a 3) (.l 1))))
 (.need (treeB (.add (.a 4) (.l 1)))
 (.need (treeB (.mul (.mul (.mul (.mul (.mul (.l 1) (.add (.a 0) (.l 1))) (.add (.a 1) (.l 1))) (.add (.a 2) (.l 1))) (.add (.a 3) (.l 1))) (.add (.a 4) (.l 1))))
 (.need (treeB (.add (.a 5) (.l 1)))
 (.need (treeB (.mul (.mul (.mul (.mul (.mul (.mul (.l 1) (.add (.a 0) (.l 1))) (.add (.a 1) (.l 1))) (.add (.a 2) (.l 1))) (.add (.a 3) (.l 1))) (.add (.a 4) (.l 1))) (.add (.a 5) (.l 1))))
 (.ret false (.int .i64 (.mul (.mul (.mul (.mul (.mul (.mul (.l 1) (.add (.a 0) (.l 1))) (.add (.a 1) (.l 1))) (.add (.a 2) (.l 1))) (.add (.a 3) (.l 1))) (.add (.a 4) (.l 1))) (.add (.a 5) (.l 1)))) [])))))))))))))
def saleroomref13_count_S:Sx.Sys:=⟨[(.sh (.agg [(D L),(D L),(D L),(D L),(D L),(D L)]))],a4y,[],none,none⟩
def a9W:List Cfg:=[]
theorem b1i:SysOk Try.prog 83 saleroomref13_count_S:=a0O (c:=(cg [] [] [] false false false true)) (a0s _ _ _ _ _ _ _ _ _) Try.func83 Try.call83 (by kernel_rfl) a9W saleroomref13_count_S 5000 rfl (by kernel_rfl) (by kernel_rfl) rfl
def a7O:PT :=
 (.need (treeB (.a 0))
 (.need (treeB (.add (.a 0) (.a 1)))
 (.need (treeB (.add (.add (.a 0) (.a 1)) (.a 2)))
 (.need (treeB (.add (.add (.add (.a 0) (.a 1)) (.a 2)) (.a 3)))
 (.need (treeB (.add (.add (.add (.add (.a 0) (.a 1)) (.a 2)) (.a 3)) (.a 4)))
 (.need (treeB (.add (.add (.add (.add (.add (.a 0) (.a 1)) (.a 2)) (.a 3)) (.a 4)) (.a 5)))
 (.ret false (.int .i64 (.add (.add (.add (.add (.add (.a 0) (.a 1)) (.a 2)) (.a 3)) (.a 4)) (.a 5))) [])))))))
def bundle_Total_S:Sx.Sys:=⟨[(.sh (.agg [(D L),(D L),(D L),(D L),(D L),(D L)]))],a7O,[],none,none⟩
def b6b:List Cfg:=[]
theorem b8r:SysOk Try.prog 91 bundle_Total_S:=a0O (c:=(cg [] [] [] false false false true)) (a0s _ _ _ _ _ _ _ _ _) Try.func91 Try.call91 (by kernel_rfl) b6b bundle_Total_S 5000 rfl (by kernel_rfl) (by kernel_rfl) rfl
end Go.Proofs.Ythmkfeiapdbojaa
