/- The trees of this seat's functions, part 0. Written by txgen.py. -/
import Derived.Test.YthmkfeiapdbojaaHTab
set_option linter.unusedSimpArgs false
set_option linter.unusedVariables false
open Go.Sx.SV renaming int → I
open Go.IntKind renaming i64 → L
open Go.Sx.IE renaming a → A, l → E
open Go.Sx.Kd renaming int → D
set_option maxRecDepth 100000
namespace Go.Proofs.Ythmkfeiapdbojaa
open Go.Sx
def a4U:PT :=
 (.ite (.eq (.a 8) (.l 5))
 (.ite (.lt (.l 0) (.a 6))
  (.ret false (.bool (.t true)) [])
  (.jump 0 [(.l 5),(.l 0),(.a 0),(.a 1),(.a 2),(.a 3),(.a 4),(.a 5),(.a 6),(.a 7)] [] [(.va 0)]))
 (.ite (.eq (.a 8) (.l 4))
  (.ite (.lt (.l 0) (.a 5))
  (.ret false (.bool (.t true)) [])
  (.jump 0 [(.l 4),(.l 0),(.a 0),(.a 1),(.a 2),(.a 3),(.a 4),(.a 5),(.a 6),(.a 7)] [] [(.va 0)]))
  (.ite (.eq (.a 8) (.l 3))
  (.ite (.lt (.l 0) (.a 4))
   (.ret false (.bool (.t true)) [])
   (.jump 0 [(.l 3),(.l 0),(.a 0),(.a 1),(.a 2),(.a 3),(.a 4),(.a 5),(.a 6),(.a 7)] [] [(.va 0)]))
  (.ite (.eq (.a 8) (.l 2))
   (.ite (.lt (.l 0) (.a 3))
   (.ret false (.bool (.t true)) [])
   (.jump 0 [(.l 2),(.l 0),(.a 0),(.a 1),(.a 2),(.a 3),(.a 4),(.a 5),(.a 6),(.a 7)] [] [(.va 0)]))
   (.ite (.eq (.a 8) (.l 1))
   (.ite (.lt (.l 0) (.a 2))
    (.ret false (.bool (.t true)) [])
    (.jump 0 [(.l 1),(.l 0),(.a 0),(.a 1),(.a 2),(.a 3),(.a 4),(.a 5),(.a 6),(.a 7)] [] [(.va 0)]))
   (.ite (.eq (.a 8) (.l 0))
    (.ite (.lt (.l 0) (.a 1))
    (.ret false (.bool (.t true)) [])
    (.jump 0 [(.l 0),(.l 0),(.a 0),(.a 1),(.a 2),(.a 3),(.a 4),(.a 5),(.a 6),(.a 7)] [] [(.va 0)]))
    .stuck))))))
def a1R:PT :=
 (.need (.is 0 0)
 (.ite (.lt (.a 1) (.slen 0))
 (.need (treeI (.a 1) (.slen 0))
 (.load false (.ea 0 (.a 1) 9 0) [(D L),(D L),(D L),(D L),(D L),(D L),(D L),(D L),.val]
 (.call 45 [(.agg [(I L (A 10)),(I L (A 11)),(I L (A 12)),(I L (A 13)),(I L (A 14)),(I L (A 15)),(I L (A 16)),(I L (A 17)),(.va 1)]),(I L (A 0))] [] [(.one .bool)]
 (.ite (.a 0)
  (.ret false (.bool (.t true)) [])
  (.need (treeB (.add (.a 1) (.l 1)))
  (.jump 0 [(.a 0),(.add (.a 1) (.l 1)),(.a 2),(.a 3),(.a 4),(.a 5),(.a 6),(.a 7),(.a 8),(.a 9)] [] [(.va 0)]))))))
 (.ret false (.bool (.t false)) [])))
def saleroomref13_Uses_S:Sx.Sys:=⟨[(.sh (.agg [(D L),(D L),(D L),(D L),(D L),(D L),(D L),(D L),.val])),(.sh (.one (D L)))],a4U,[a1R],none,none⟩
def b0A:List Cfg:=[{ todo:=[(.code [false,false,true,false,true,true]),(.inLoop [false,false,true,false,true,true]),(.inBlock 0),(.code [true,true,true])],sl:=[(.junk 0),(I L (A 0)),(.ptr 0 0),.undef,(.junk 1),(I L (A 1)),(.junk 2),(.junk 3),(.junk 4),(.junk 5),(.junk 6),(.junk 7),(.junk 8),(.junk 9),(.junk 10),(.junk 11),(.junk 12),(.junk 13),(.junk 14),(.junk 15),(.junk 16),(.junk 17),(.junk 18),(.junk 19),(.junk 20)],H:=[(.cells [(I L (A 2)),(I L (A 3)),(I L (A 4)),(I L (A 5)),(I L (A 6)),(I L (A 7)),(I L (A 8)),(I L (A 9)),(.va 0)] 26 false)],ni:=10,nb:=0,nv:=1,nj:=21 }]
theorem b1H:SysOk Try.prog 45 saleroomref13_Uses_S:=a0O (c:=(cg [[false,false,true,false,true,true]] [] [] false false false true)) (a0s _ _ _ _ _ _ _ _ _) Try.func45 Try.call45 (by kernel_rfl) b0A saleroomref13_Uses_S 5000 rfl (by kernel_rfl) (by kernel_rfl) rfl
def a9J:PT :=
 (.call 52 [(.agg [(I L (A 0)),(I L (A 1)),(I L (A 2)),(I L (A 3)),(I L (A 4)),(I L (A 5))])] [] [(.one (D L))]
 (.ite (.eq (.a 6) (.l 0))
 (.ret false (.fn 86 0 []) [])
 (.call 87 [(.agg [(I L (A 0)),(I L (A 1)),(I L (A 2)),(I L (A 3)),(I L (A 4)),(I L (A 5))])] [] [(.one .val)]
 (.ret false (.va 0) []))))
def bundle_All_S:Sx.Sys:=⟨[(.sh (.agg [(D L),(D L),(D L),(D L),(D L),(D L)]))],a9J,[],none,none⟩
def b8u:List Cfg:=[]
theorem c0o:SysOk Try.prog 53 bundle_All_S:=a0O (c:=(cg [] [] [] false false false true)) (a0s _ _ _ _ _ _ _ _ _) Try.func53 Try.call53 (by kernel_rfl) b8u bundle_All_S 5000 rfl (by kernel_rfl) (by kernel_rfl) rfl
def a7u:PT :=
 (.call 89 [(.agg [(I L (A 0)),(I L (A 1)),(I L (A 2)),(I L (A 3)),(I L (A 4)),(I L (A 5))]),(.agg [(I L (A 6)),(I L (A 7)),(I L (A 8)),(I L (A 9)),(I L (A 10)),(I L (A 11))])] [] [(.agg [(D L),(D L),(D L),(D L),(D L),(D L)])]
 (.ret false (.bool (.and (.eq (.a 12) (.a 0)) (.and (.eq (.a 13) (.a 1)) (.and (.eq (.a 14) (.a 2)) (.and (.eq (.a 15) (.a 3)) (.and (.eq (.a 16) (.a 4)) (.eq (.a 17) (.a 5)))))))) []))
def bundle_Within_S:Sx.Sys:=⟨[(.sh (.agg [(D L),(D L),(D L),(D L),(D L),(D L)])),(.sh (.agg [(D L),(D L),(D L),(D L),(D L),(D L)]))],a7u,[],none,none⟩
def b5b:List Cfg:=[]
theorem b0a:SysOk Try.prog 62 bundle_Within_S:=a0O (c:=(cg [] [] [] false false false true)) (a0s _ _ _ _ _ _ _ _ _) Try.func62 Try.call62 (by kernel_rfl) b5b bundle_Within_S 5000 rfl (by kernel_rfl) (by kernel_rfl) rfl
def b1l:PT :=
 (.need (.is 0 0)
 (.ite (.eq (.a 0) (.l 1))
 (.ret false (.bool (.eq (.slen 0) (.l 0))) [])
 (.ite (.eq (.a 0) (.l 2))
  (.ite (.eq (.a 0) (.l 2))
  (.ite (.le (.l 1) (.slen 0))
   (.ite (.le (.slen 0) (.l 8))
   (.ite (.and (.eq (.a 1) (.l 0)) (.and (.eq (.a 2) (.l 0)) (.and (.eq (.a 3) (.l 0)) (.and (.eq (.a 4) (.l 0)) (.and (.eq (.a 5) (.l 0)) (.eq (.a 6) (.l 0)))))))
    (.ret false (.bool (.eq (.a 7) (.l 0))) [])
    (.ret false (.bool (.t false)) []))
   (.ret false (.bool (.t false)) []))
   (.ret false (.bool (.t false)) []))
  (.ite (.eq (.a 0) (.l 4))
   (.ret false (.bool (.eq (.slen 0) (.l 1))) [])
   (.ite (.eq (.a 0) (.l 5))
   (.ite (.eq (.slen 0) (.l 1))
    (.ret false (.bool (.and (.eq (.a 1) (.l 0)) (.and (.eq (.a 2) (.l 0)) (.and (.eq (.a 3) (.l 0)) (.and (.eq (.a 4) (.l 0)) (.and (.eq (.a 5) (.l 0)) (.eq (.a 6) (.l 0)))))))) [])
    (.ret false (.bool (.t false)) []))
   (.ret false (.bool (.t false)) []))))
  (.ite (.eq (.a 0) (.l 3))
  (.ite (.le (.l 1) (.slen 0))
   (.ite (.le (.slen 0) (.l 8))
   (.ite (.and (.eq (.a 1) (.l 0)) (.and (.eq (.a 2) (.l 0)) (.and (.eq (.a 3) (.l 0)) (.and (.eq (.a 4) (.l 0)) (.and (.eq (.a 5) (.l 0)) (.eq (.a 6) (.l 0)))))))
    (.ret false (.bool (.eq (.a 7) (.l 0))) [])
    (.ret false (.bool (.t false)) []))
   (.ret false (.bool (.t false)) []))
   (.ret false (.bool (.t false)) []))
  (.ite (.eq (.a 0) (.l 4))
   (.ret false (.bool (.eq (.slen 0) (.l 1))) [])
   (.ite (.eq (.a 0) (.l 5))
   (.ite (.eq (.slen 0) (.l 1))
    (.ret false (.bool (.and (.eq (.a 1) (.l 0)) (.and (.eq (.a 2) (.l 0)) (.and (.eq (.a 3) (.l 0)) (.and (.eq (.a 4) (.l 0)) (.and (.eq (.a 5) (.l 0)) (.eq (.a 6) (.l 0)))))))) [])
    (.ret false (.bool (.t false)) []))
   (.ret false (.bool (.t false)) [])))))))
def expr_form_S:Sx.Sys:=⟨[(.sh (.agg [(D L),(D L),(D L),(D L),(D L),(D L),(D L),(D L),.val]))],b1l,[],none,none⟩
def b8L:List Cfg:=[]
theorem c1c:SysOk Try.prog 70 expr_form_S:=a0O (c:=(cg [] [] [] false false false true)) (a0s _ _ _ _ _ _ _ _ _) Try.func70 Try.call70 (by kernel_rfl) b8L expr_form_S 5000 rfl (by kernel_rfl) (by kernel_rfl) rfl
def a8C:PT :=
 (.ret false (.agg [(.int .i64 (.mx (.a 0) (.a 6))),(.int .i64 (.mx (.a 1) (.a 7))),(.int .i64 (.mx (.a 2) (.a 8))),(.int .i64 (.mx (.a 3) (.a 9))),(.int .i64 (.mx (.a 4) (.a 10))),(.int .i64 (.mx (.a 5) (.a 11)))]) [])
def bundle_Join_S:Sx.Sys:=⟨[(.sh (.agg [(D L),(D L),(D L),(D L),(D L),(D L)])),(.sh (.agg [(D L),(D L),(D L),(D L),(D L),(D L)]))],a8C,[],none,none⟩
def b7d:List Cfg:=[]
theorem b1P:SysOk Try.prog 78 bundle_Join_S:=a0O (c:=(cg [] [] [] false false false true)) (a0s _ _ _ _ _ _ _ _ _) Try.func78 Try.call78 (by kernel_rfl) b7d bundle_Join_S 5000 rfl (by kernel_rfl) (by kernel_rfl) rfl
def b8X:PT :=
 (.ret false (.tup []) [])
def bundle_All_1_S:Sx.Sys:=⟨[(.sh (.one .val))],b8X,[],none,none⟩
def b6c:List Cfg:=[]
theorem b8i:SysOk Try.prog 86 bundle_All_1_S:=a0O (c:=(cg [] [] [] false false false true)) (a0s _ _ _ _ _ _ _ _ _) Try.func86 Try.call86 (by kernel_rfl) b6c bundle_All_1_S 5000 rfl (by kernel_rfl) (by kernel_rfl) rfl
def a4E:PT :=
 (.need (treeB (.add (.a 0) (.l 1)))
 (.need (treeB (.mul (.l 0) (.add (.a 0) (.l 1))))
 (.need (treeB (.add (.mul (.l 0) (.add (.a 0) (.l 1))) (.a 6)))
 (.need (treeB (.add (.a 1) (.l 1)))
 (.need (treeB (.mul (.add (.mul (.l 0) (.add (.a 0) (.l 1))) (.a 6)) (.add (.a 1) (.l 1))))
 (.need (treeB (.add (.mul (.add (.mul (.l 0) (.add (.a 0) (.l 1))) (.a 6)) (.add (.a 1) (.l 1))) (.a 7)))
 (.need (treeB (.add (.a 2) (.l 1)))
 (.need (treeB (.mul (.add (.mul (.add (.mul (.l 0) (.add (.a 0) (.l 1))) (.a 6)) (.add (.a 1) (.l 1))) (.a 7)) (.add (.a 2) (.l 1))))
 (.need (treeB (.add (.mul (.add (.mul (.add (.mul (.l 0) (.add (.a 0) (.l 1))) (.a 6)) (.add (.a 1) (.l 1))) (.a 7)) (.add (.a 2) (.l 1))) (.a 8)))
 (.need (treeB (.add (.a 3) (.l 1)))
 (.need (treeB (.mul (.add (.mul (.add (.mul (.add (.mul (.l 0) (.add (.a 0) (.l 1))) (.a 6)) (.add (.a 1) (.l 1))) (.a 7)) (.add (.a 2) (.l 1))) (.a 8)) (.add (.a 3) (.l 1))))
 (.need (treeB (.add (.mul (.add (.mul (.add (.mul (.add (.mul (.l 0) (.add (.a 0) (.l 1))) (.a 6)) (.add (.a 1) (.l 1))) (.a 7)) (.add (.a 2) (.l 1))) (.a 8)) (.add (.a 3) (.l 1))) (.a 9)))
 (.need (treeB (.add (.a 4) (.l 1)))
 (.need (treeB (.mul (.add (.mul (.add (.mul (.add (.mul (.add (.mul (.l 0) (.add (.a 0) (.l 1))) (.a 6)) (.add (.a 1) (.l 1))) (.a 7)) (.add (.a 2) (.l 1))) (.a 8)) (.add (.a 3) (.l 1))) (.a 9)) (.add (.a 4) (.l 1))))
 (.need (treeB (.add (.mul (.add (.mul (.add (.mul (.add (.mul (.add (.mul (.l 0) (.add (.a 0) (.l 1))) (.a 6)) (.add (.a 1) (.l 1))) (.a 7)) (.add (.a 2) (.l 1))) (.a 8)) (.add (.a 3) (.l 1))) (.a 9)) (.add (.a 4) (.l 1))) (.a 10)))
 (.need (treeB (.add (.a 5) (.l 1)))
 (.need (treeB (.mul (.add (.mul (.add (.mul (.add (.mul (.add (.mul (.add (.mul (.l 0) (.add (.a 0) (.l 1))) (.a 6)) (.add (.a 1) (.l 1))) (.a 7)) (.add (.a 2) (.l 1))) (.a 8)) (.add (.a 3) (.l 1))) (.a 9)) (.add (.a 4) (.l 1))) (.a 10)) (.add (.a 5) (.l 1))))
 (.need (treeB (.add (.mul (.add (.mul (.add (.mul (.add (.mul (.add (.mul (.add (.mul (.l 0) (.add (.a 0) (.l 1))) (.a 6)) (.add (.a 1) (.l 1))) (.a 7)) (.add (.a 2) (.l 1))) (.a 8)) (.add (.a 3) (.l 1))) (.a 9)) (.add (.a 4) (.l 1))) (.a 10)) (.add (.a 5) (.l 1))) (.a 11)))
 (.ret false (.int .i64 (.add (.mul (.add (.mul (.add (.mul (.add (.mul (.add (.mul (.add (.mul (.l 0) (.add (.a 0) (.l 1))) (.a 6)) (.add (.a 1) (.l 1))) (.a 7)) (.add (.a 2) (.l 1))) (.a 8)) (.add (.a 3) (.l 1))) (.a 9)) (.add (.a 4) (.l 1))) (.a 10)) (.add (.a 5) (.l 1))) (.a 11))) [])))))))))))))))))))
def saleroomref13_index_S:Sx.Sys:=⟨[(.sh (.agg [(D L),(D L),(D L),(D L),(D L),(D L)])),(.sh (.agg [(D L),(D L),(D L),(D L),(D L),(D L)]))],a4E,[],none,none⟩
def b0b:List Cfg:=[]
theorem b1o:SysOk Try.prog 94 saleroomref13_index_S:=a0O (c:=(cg [] [] [] false false false true)) (a0s _ _ _ _ _ _ _ _ _) Try.func94 Try.call94 (by kernel_rfl) b0b saleroomref13_index_S 5000 rfl (by kernel_rfl) (by kernel_rfl) rfl
end Go.Proofs.Ythmkfeiapdbojaa
set_option maxRecDepth 100000
namespace Go.Proofs.Ythmkfeiapdbojaa
open Go.Sx
def b6W:PT :=
 (.call 18 [(.agg [(I L (A 0)),(I L (A 1)),(I L (A 2)),(I L (A 3)),(I L (A 4)),(I L (A 5)),(I L (A 6)),(I L (A 7)),(.va 0)]),(.agg [(I L (E 4)),(I L (E 4)),(I L (E 4)),(I L (E 4)),(I L (E 4)),(I L (E 4))])] [] [(.one (D L))]
 (.ret false (I L (A 8)) []))
def valuation_Most_S:Sx.Sys:=⟨[(.sh (.agg [(D L),(D L),(D L),(D L),(D L),(D L),(D L),(D L),.val]))],b6W,[],none,none⟩
def b4d:List Cfg:=[]
theorem b6a:SysOk Try.prog 20 valuation_Most_S:=a0O (c:=(cg [] [] [] false false false true)) (a0s _ _ _ _ _ _ _ _ _) Try.func20 Try.call20 (by kernel_rfl) b4d valuation_Most_S 5000 rfl (by kernel_rfl) (by kernel_rfl) rfl
def a2x:PT :=
 (.ite (.lt (.l 10) (.a 8))
 (.ret false (I L (E 1000)) [])
 (.need (.is 0 0)
 (.ite (.lt (.l 20) (.slen 0))
  (.ret false (I L (E 1000)) [])
  (.jump 0 [(.a 8),(.l 1),(.l 0),(.a 0),(.a 1),(.a 2),(.a 3),(.a 4),(.a 5),(.a 6),(.a 7)] [] [(.va 0)]))))
def a2k:PT :=
 (.need (.is 0 0)
 (.ite (.lt (.a 2) (.slen 0))
 (.need (treeI (.a 2) (.slen 0))
 (.load false (.ea 0 (.a 2) 9 0) [(D L),(D L),(D L),(D L),(D L),(D L),(D L),(D L),.val]
 (.need (treeB (.add (.a 0) (.l 1)))
 (.call 46 [(.agg [(I L (A 11)),(I L (A 12)),(I L (A 13)),(I L (A 14)),(I L (A 15)),(I L (A 16)),(I L (A 17)),(I L (A 18)),(.va 1)]),(.int .i64 (.add (.a 0) (.l 1)))] [] [(.one (D L))]
 (.need (treeB (.add (.a 1) (.a 19)))
 (.need (treeB (.add (.a 2) (.l 1)))
 (.jump 0 [(.a 0),(.add (.a 1) (.a 19)),(.add (.a 2) (.l 1)),(.a 3),(.a 4),(.a 5),(.a 6),(.a 7),(.a 8),(.a 9),(.a 10)] [] [(.va 0)])))))))
 (.ret false (I L (A 1)) [])))
def saleroomref13_nodes_S:Sx.Sys:=⟨[(.sh (.agg [(D L),(D L),(D L),(D L),(D L),(D L),(D L),(D L),.val])),(.sh (.one (D L)))],a2x,[a2k],none,none⟩
def a9t:List Cfg:=[{ todo:=[(.code [false,false,true,false,true,true,true]),(.inLoop [false,false,true,false,true,true,true]),(.inBlock 0),(.code [true,true,true,true])],sl:=[(.junk 0),(I L (A 0)),(.ptr 0 0),.undef,(.junk 1),(I L (A 1)),(I L (A 2)),(.junk 2),(.junk 3),(.junk 4),(.junk 5),(.junk 6),(.junk 7),(.junk 8),(.junk 9),(.junk 10),(.junk 11),(.junk 12),(.junk 13),(.junk 14),(.junk 15),(.junk 16),(.junk 17),(.junk 18),(.junk 19),(.junk 20),(.junk 21),(.junk 22),(.junk 23),(.junk 24),(.junk 25),(.junk 26),.undef],H:=[(.cells [(I L (A 3)),(I L (A 4)),(I L (A 5)),(I L (A 6)),(I L (A 7)),(I L (A 8)),(I L (A 9)),(I L (A 10)),(.va 0)] 26 false)],ni:=11,nb:=0,nv:=1,nj:=27 }]
theorem b1n:SysOk Try.prog 46 saleroomref13_nodes_S:=a0O (c:=(cg [[false,false,true,false,true,true,true]] [] [] false false false true)) (a0s _ _ _ _ _ _ _ _ _) Try.func46 Try.call46 (by kernel_rfl) a9t saleroomref13_nodes_S 5000 rfl (by kernel_rfl) (by kernel_rfl) rfl
def a6e:PT :=
 (.jump 0 [(.a 12),(.l 1),(.l 5),(.a 0),(.a 1),(.a 2),(.a 3),(.a 4),(.a 5),(.a 6),(.a 7),(.a 8),(.a 9),(.a 10),(.a 11)] [] [(.va 0)])
def a1b:PT :=
 (.ite (.le (.l 0) (.a 2))
 (.ite (.eq (.a 2) (.l 5))
  (.ite (.lt (.l 0) (.a 14))
  (.need (treeB (.sub (.a 0) (.a 1)))
  (.callv 0 [(.int .i64 (.sub (.a 0) (.a 1)))] []
  (.need (treeB (.add (.a 8) (.l 1)))
  (.need (treeB (.mul (.a 1) (.add (.a 8) (.l 1))))
  (.jump 0 [(.a 0),(.mul (.a 1) (.add (.a 8) (.l 1))),(.l 4),(.a 3),(.a 4),(.a 5),(.a 6),(.a 7),(.a 8),(.a 9),(.a 10),(.a 11),(.a 12),(.a 13),(.a 14)] [] [(.va 0)])))))
  (.need (treeB (.add (.a 8) (.l 1)))
  (.need (treeB (.mul (.a 1) (.add (.a 8) (.l 1))))
  (.jump 0 [(.a 0),(.mul (.a 1) (.add (.a 8) (.l 1))),(.l 4),(.a 3),(.a 4),(.a 5),(.a 6),(.a 7),(.a 8),(.a 9),(.a 10),(.a 11),(.a 12),(.a 13),(.a 14)] [] [(.va 0)]))))
  (.ite (.eq (.a 2) (.l 4))
  (.ite (.lt (.l 0) (.a 13))
   (.need (treeB (.sub (.a 0) (.a 1)))
   (.callv 0 [(.int .i64 (.sub (.a 0) (.a 1)))] []
   (.need (treeB (.add (.a 7) (.l 1)))
   (.need (treeB (.mul (.a 1) (.add (.a 7) (.l 1))))
   (.jump 0 [(.a 0),(.mul (.a 1) (.add (.a 7) (.l 1))),(.l 3),(.a 3),(.a 4),(.a 5),(.a 6),(.a 7),(.a 8),(.a 9),(.a 10),(.a 11),(.a 12),(.a 13),(.a 14)] [] [(.va 0)])))))
   (.need (treeB (.add (.a 7) (.l 1)))
   (.need (treeB (.mul (.a 1) (.add (.a 7) (.l 1))))
   (.jump 0 [(.a 0),(.mul (.a 1) (.add (.a 7) (.l 1))),(.l 3),(.a 3),(.a 4),(.a 5),(.a 6),(.a 7),(.a 8),(.a 9),(.a 10),(.a 11),(.a 12),(.a 13),(.a 14)] [] [(.va 0)]))))
  (.ite (.eq (.a 2) (.l 3))
   (.ite (.lt (.l 0) (.a 12))
   (.need (treeB (.sub (.a 0) (.a 1)))
   (.callv 0 [(.int .i64 (.sub (.a 0) (.a 1)))] []
   (.need (treeB (.add (.a 6) (.l 1)))
   (.need (treeB (.mul (.a 1) (.add (.a 6) (.l 1))))
   (.jump 0 [(.a 0),(.mul (.a 1) (.add (.a 6) (.l 1))),(.l 2),(.a 3),(.a 4),(.a 5),(.a 6),(.a 7),(.a 8),(.a 9),(.a 10),(.a 11),(.a 12),(.a 13),(.a 14)] [] [(.va 0)])))))
   (.need (treeB (.add (.a 6) (.l 1)))
   (.need (treeB (.mul (.a 1) (.add (.a 6) (.l 1))))
   (.jump 0 [(.a 0),(.mul (.a 1) (.add (.a 6) (.l 1))),(.l 2),(.a 3),(.a 4),(.a 5),(.a 6),(.a 7),(.a 8),(.a 9),(.a 10),(.a 11),(.a 12),(.a 13),(.a 14)] [] [(.va 0)]))))
   (.ite (.eq (.a 2) (.l 2))
   (.ite (.lt (.l 0) (.a 11))
    (.need (treeB (.sub (.a 0) (.a 1)))
    (.callv 0 [(.int .i64 (.sub (.a 0) (.a 1)))] []
    (.need (treeB (.add (.a 5) (.l 1)))
    (.need (treeB (.mul (.a 1) (.add (.a 5) (.l 1))))
    (.jump 0 [(.a 0),(.mul (.a 1) (.add (.a 5) (.l 1))),(.l 1),(.a 3),(.a 4),(.a 5),(.a 6),(.a 7),(.a 8),(.a 9),(.a 10),(.a 11),(.a 12),(.a 13),(.a 14)] [] [(.va 0)])))))
    (.need (treeB (.add (.a 5) (.l 1)))
    (.need (treeB (.mul (.a 1) (.add (.a 5) (.l 1))))
    (.jump 0 [(.a 0),(.mul (.a 1) (.add (.a 5) (.l 1))),(.l 1),(.a 3),(.a 4),(.a 5),(.a 6),(.a 7),(.a 8),(.a 9),(.a 10),(.a 11),(.a 12),(.a 13),(.a 14)] [] [(.va 0)]))))
   (.ite (.eq (.a 2) (.l 1))
    (.ite (.lt (.l 0) (.a 10))
    (.need (treeB (.sub (.a 0) (.a 1)))
    (.callv 0 [(.int .i64 (.sub (.a 0) (.a 1)))] []
    (.need (treeB (.add (.a 4) (.l 1)))
    (.need (treeB (.mul (.a 1) (.add (.a 4) (.l 1))))
    (.jump 0 [(.a 0),(.mul (.a 1) (.add (.a 4) (.l 1))),(.l 0),(.a 3),(.a 4),(.a 5),(.a 6),(.a 7),(.a 8),(.a 9),(.a 10),(.a 11),(.a 12),(.a 13),(.a 14)] [] [(.va 0)])))))
    (.need (treeB (.add (.a 4) (.l 1)))
    (.need (treeB (.mul (.a 1) (.add (.a 4) (.l 1))))
    (.jump 0 [(.a 0),(.mul (.a 1) (.add (.a 4) (.l 1))),(.l 0),(.a 3),(.a 4),(.a 5),(.a 6),(.a 7),(.a 8),(.a 9),(.a 10),(.a 11),(.a 12),(.a 13),(.a 14)] [] [(.va 0)]))))
    (.ite (.eq (.a 2) (.l 0))
    (.ite (.lt (.l 0) (.a 9))
     (.need (treeB (.sub (.a 0) (.a 1)))
     (.callv 0 [(.int .i64 (.sub (.a 0) (.a 1)))] []
     (.need (treeB (.add (.a 3) (.l 1)))
     (.need (treeB (.mul (.a 1) (.add (.a 3) (.l 1))))
     (.jump 0 [(.a 0),(.mul (.a 1) (.add (.a 3) (.l 1))),(.l (-1)),(.a 3),(.a 4),(.a 5),(.a 6),(.a 7),(.a 8),(.a 9),(.a 10),(.a 11),(.a 12),(.a 13),(.a 14)] [] [(.va 0)])))))
     (.need (treeB (.add (.a 3) (.l 1)))
     (.need (treeB (.mul (.a 1) (.add (.a 3) (.l 1))))
     (.jump 0 [(.a 0),(.mul (.a 1) (.add (.a 3) (.l 1))),(.l (-1)),(.a 3),(.a 4),(.a 5),(.a 6),(.a 7),(.a 8),(.a 9),(.a 10),(.a 11),(.a 12),(.a 13),(.a 14)] [] [(.va 0)]))))
    .stuck))))))
 (.ret false (.tup []) []))
def valuation_below_S:Sx.Sys:=⟨[(.sh (.agg [(D L),(D L),(D L),(D L),(D L),(D L)])),(.sh (.agg [(D L),(D L),(D L),(D L),(D L),(D L)])),(.sh (.one (D L))),(.sh (.one .val))],a6e,[a1b],none,none⟩
def b3e:List Cfg:=[{ todo:=[(.code [false,false,true,true,true]),(.inLoop [false,false,true,true,true]),(.inBlock 0)],sl:=[(.junk 0),(.junk 1),(I L (A 0)),(.va 0),(.ptr 0 0),(.ptr 1 0),.undef,.undef,(I L (A 1)),(I L (A 2)),(.junk 2),(.junk 3),(.junk 4),(.junk 5),(.junk 6),(.junk 7),(.junk 8),(.junk 9),(.junk 10),(.junk 11),(.junk 12),(.junk 13),(.junk 14),(.junk 15),(.junk 16),(.junk 17),(.junk 18),(.junk 19),(.junk 20)],H:=[(.cells [(I L (A 3)),(I L (A 4)),(I L (A 5)),(I L (A 6)),(I L (A 7)),(I L (A 8))] 23 false),(.cells [(I L (A 9)),(I L (A 10)),(I L (A 11)),(I L (A 12)),(I L (A 13)),(I L (A 14))] 23 false)],ni:=15,nb:=0,nv:=1,nj:=21 }]
theorem b4R:SysOk Try.prog 54 valuation_below_S:=a0O (c:=(cg [[false,false,true,true,true]] [] [(18,[])] false false false true)) (a0s _ _ _ _ _ _ _ _ _) Try.func54 Try.call54 (by kernel_rfl) b3e valuation_below_S 5000 rfl (by kernel_rfl) (by kernel_rfl) rfl
def a8F:PT :=
 (.ite (.eq (.a 0) (.l 2))
 (.ite (.eq (.a 0) (.l 2))
  (.ret false (.bool (.t true)) [])
  (.ite (.lt (.a 7) (.l 1))
  (.ret false (.bool (.t false)) [])
  (.ite (.lt (.l 1000000) (.a 7))
   (.ret false (.bool (.t false)) [])
   (.ite (.eq (.a 0) (.l 5))
   (.ret false (.bool (.t true)) [])
   (.call 48 [(.agg [(I L (A 1)),(I L (A 2)),(I L (A 3)),(I L (A 4)),(I L (A 5)),(I L (A 6))])] [] [(.one (D L))]
   (.ite (.eq (.a 8) (.l 0))
    (.call 91 [(.agg [(I L (A 1)),(I L (A 2)),(I L (A 3)),(I L (A 4)),(I L (A 5)),(I L (A 6))])] [] [(.one (D L))]
    (.ret false (.bool (.lt (.l 0) (.a 9))) []))
    (.ret false (.bool (.t false)) [])))))))
 (.ite (.eq (.a 0) (.l 3))
  (.ret false (.bool (.t true)) [])
  (.ite (.lt (.a 7) (.l 1))
  (.ret false (.bool (.t false)) [])
  (.ite (.lt (.l 1000000) (.a 7))
   (.ret false (.bool (.t false)) [])
   (.ite (.eq (.a 0) (.l 5))
   (.ret false (.bool (.t true)) [])
   (.call 48 [(.agg [(I L (A 1)),(I L (A 2)),(I L (A 3)),(I L (A 4)),(I L (A 5)),(I L (A 6))])] [] [(.one (D L))]
   (.ite (.eq (.a 8) (.l 0))
    (.call 91 [(.agg [(I L (A 1)),(I L (A 2)),(I L (A 3)),(I L (A 4)),(I L (A 5)),(I L (A 6))])] [] [(.one (D L))]
    (.ret false (.bool (.lt (.l 0) (.a 9))) []))
    (.ret false (.bool (.t false)) []))))))))
def expr_ranged_S:Sx.Sys:=⟨[(.sh (.agg [(D L),(D L),(D L),(D L),(D L),(D L),(D L),(D L),.val]))],a8F,[],none,none⟩
def b6N:List Cfg:=[]
theorem b8H:SysOk Try.prog 71 expr_ranged_S:=a0O (c:=(cg [] [] [] false false false true)) (a0s _ _ _ _ _ _ _ _ _) Try.func71 Try.call71 (by kernel_rfl) b6N expr_ranged_S 5000 rfl (by kernel_rfl) (by kernel_rfl) rfl
def a4C:PT :=
 (.jump 0 [(.l 0),(.l 0),(.a 0),(.a 1),(.a 2),(.a 3),(.a 4),(.a 5),(.a 6),(.a 7)] [] [(.va 0)])
def a4o:PT :=
 (.need (.is 0 0)
 (.ite (.lt (.a 1) (.slen 0))
 (.need (treeI (.a 1) (.slen 0))
 (.load false (.ea 0 (.a 1) 9 0) [(D L),(D L),(D L),(D L),(D L),(D L),(D L),(D L),.val]
 (.call 79 [(.agg [(I L (A 10)),(I L (A 11)),(I L (A 12)),(I L (A 13)),(I L (A 14)),(I L (A 15)),(I L (A 16)),(I L (A 17)),(.va 1)])] [] [(.one (D L))]
 (.need (treeB (.add (.a 1) (.l 1)))
 (.jump 0 [(.mx (.a 0) (.a 18)),(.add (.a 1) (.l 1)),(.a 2),(.a 3),(.a 4),(.a 5),(.a 6),(.a 7),(.a 8),(.a 9)] [] [(.va 0)])))))
 (.need (treeB (.add (.a 0) (.l 1)))
 (.ret false (.int .i64 (.add (.a 0) (.l 1))) []))))
def saleroomref11_Depth_S:Sx.Sys:=⟨[(.sh (.agg [(D L),(D L),(D L),(D L),(D L),(D L),(D L),(D L),.val]))],a4C,[a4o],none,none⟩
def a9y:List Cfg:=[{ todo:=[(.code [false,false,true,false,true,true]),(.inLoop [false,false,true,false,true,true]),(.inBlock 0),(.code [true,true,true])],sl:=[(.junk 0),(.ptr 0 0),(.junk 1),(I L (A 0)),(I L (A 1)),(.junk 2),(.junk 3),(.junk 4),(.junk 5),(.junk 6),(.junk 7),(.junk 8),(.junk 9),(.junk 10),(.junk 11),(.junk 12),(.junk 13),(.junk 14),(.junk 15),(.junk 16),.undef,.undef],H:=[(.cells [(I L (A 2)),(I L (A 3)),(I L (A 4)),(I L (A 5)),(I L (A 6)),(I L (A 7)),(I L (A 8)),(I L (A 9)),(.va 0)] 26 false)],ni:=10,nb:=0,nv:=1,nj:=17 }]
theorem b1c:SysOk Try.prog 79 saleroomref11_Depth_S:=a0O (c:=(cg [[false,false,true,false,true,true]] [] [] false false false true)) (a0s _ _ _ _ _ _ _ _ _) Try.func79 Try.call79 (by kernel_rfl) a9y saleroomref11_Depth_S 5000 rfl (by kernel_rfl) (by kernel_rfl) rfl
def a8G:PT :=
 (.newM [(I L (A 0)),(I L (A 1)),(I L (A 2)),(I L (A 3)),(I L (A 4)),(I L (A 5))] 23
 (.ret false (.fn 95 0 [(.pa 0 0)]) []))
def bundle_each_S:Sx.Sys:=⟨[(.sh (.agg [(D L),(D L),(D L),(D L),(D L),(D L)]))],a8G,[],none,none⟩
def b6L:List Cfg:=[]
theorem b9e:SysOk Try.prog 87 bundle_each_S:=a0O (c:=(cg [] [1] [] true false false true)) (a0s _ _ _ _ _ _ _ _ _) Try.func87 Try.call87 (by kernel_rfl) b6L bundle_each_S 5000 rfl (by kernel_rfl) (by kernel_rfl) rfl
def b8t:PT :=
 (.jump 0 [(.l 0),(.l 0),(.l 0),(.l 0),(.l 0),(.l 0)] [] [(.va 0),(.va 1)])
def b7o:PT :=
 (.callv 0 [(.agg [(I L (A 0)),(I L (A 1)),(I L (A 2)),(I L (A 3)),(I L (A 4)),(I L (A 5))])] [(.one .bool)]
 (.ite (.a 0)
 (.load false (.pa 1 0) [(D L),(D L),(D L),(D L),(D L),(D L)]
 (.call 96 [(.agg [(I L (A 0)),(I L (A 1)),(I L (A 2)),(I L (A 3)),(I L (A 4)),(I L (A 5))]),(.agg [(I L (A 6)),(I L (A 7)),(I L (A 8)),(I L (A 9)),(I L (A 10)),(I L (A 11))])] [] [(.agg [(D L),(D L),(D L),(D L),(D L),(D L)])]
 (.ite (.and (.eq (.a 12) (.l 0)) (.and (.eq (.a 13) (.l 0)) (.and (.eq (.a 14) (.l 0)) (.and (.eq (.a 15) (.l 0)) (.and (.eq (.a 16) (.l 0)) (.eq (.a 17) (.l 0)))))))
  (.ret true (.tup []) [])
  (.jump 0 [(.a 12),(.a 13),(.a 14),(.a 15),(.a 16),(.a 17)] [] [(.va 0),(.va 1)]))))
 (.ret true (.tup []) [])))
def bundle_each_1_S:Sx.Sys:=⟨[(.sh (.one .val)),.ptr],b8t,[b7o],none,none⟩
def b5w:List Cfg:=[{ todo:=[(.code [false,false,true]),(.inLoop [false,false,true]),(.inBlock 0)],sl:=[(.va 0),(.pa 1 0),.undef,(.ptr 0 0),(.junk 0),(.junk 1),(.junk 2),(.junk 3),(.junk 4),(.junk 5),(.junk 6),(.junk 7),(.junk 8),(.junk 9)],H:=[(.cells [(I L (A 0)),(I L (A 1)),(I L (A 2)),(I L (A 3)),(I L (A 4)),(I L (A 5))] 23 false)],ni:=6,nb:=0,nv:=2,nj:=10 }]
theorem b7s:SysOk Try.prog 95 bundle_each_1_S:=a0O (c:=(cg [[false,false,true]] [] [(5,[4])] true true false true)) (a0s _ _ _ _ _ _ _ _ _) Try.func95 Try.call95 (by kernel_rfl) b5w bundle_each_1_S 5000 rfl (by kernel_rfl) (by kernel_rfl) rfl
end Go.Proofs.Ythmkfeiapdbojaa
set_option maxRecDepth 100000
namespace Go.Proofs.Ythmkfeiapdbojaa
open Go.Sx
def d2M:PT :=
 (.call 50 [(.agg [(I L (A 0)),(I L (A 1)),(I L (A 2)),(I L (A 3)),(I L (A 4)),(I L (A 5)),(I L (A 6)),(I L (A 7)),(.va 0)])] [] [(.one (D L))]
 (.ite (.not (.eq (.a 14) (.l 0)))
 (.ret false (I L (E 0)) [])
 (.call 16 [(.agg [(I L (A 8)),(I L (A 9)),(I L (A 10)),(I L (A 11)),(I L (A 12)),(I L (A 13))])] [] [(.one (D L))]
 (.ite (.not (.eq (.a 15) (.l 0)))
  (.ret false (I L (E 0)) [])
  (.jump 0 [(.l 0),(.a 0),(.a 1),(.a 2),(.a 3),(.a 4),(.a 5),(.a 6),(.a 7),(.a 8),(.a 9),(.a 10),(.a 11),(.a 12),(.a 13)] [] [(.va 0)])))))
def d2K:PT :=
 (.ite (.lt (.a 0) (.l 6))
 (.call 45 [(.agg [(I L (A 1)),(I L (A 2)),(I L (A 3)),(I L (A 4)),(I L (A 5)),(I L (A 6)),(I L (A 7)),(I L (A 8)),(.va 0)]),(I L (A 0))] [] [(.one .bool)]
 (.ite (.not (.a 0))
  (.ite (.eq (.a 0) (.l 5))
  (.jump 0 [(.l 6),(.a 1),(.a 2),(.a 3),(.a 4),(.a 5),(.a 6),(.a 7),(.a 8),(.a 9),(.a 10),(.a 11),(.a 12),(.a 13),(.l 0)] [] [(.va 0)])
  (.ite (.eq (.a 0) (.l 4))
   (.jump 0 [(.l 5),(.a 1),(.a 2),(.a 3),(.a 4),(.a 5),(.a 6),(.a 7),(.a 8),(.a 9),(.a 10),(.a 11),(.a 12),(.l 0),(.a 14)] [] [(.va 0)])
   (.ite (.eq (.a 0) (.l 3))
   (.jump 0 [(.l 4),(.a 1),(.a 2),(.a 3),(.a 4),(.a 5),(.a 6),(.a 7),(.a 8),(.a 9),(.a 10),(.a 11),(.l 0),(.a 13),(.a 14)] [] [(.va 0)])
   (.ite (.eq (.a 0) (.l 2))
    (.jump 0 [(.l 3),(.a 1),(.a 2),(.a 3),(.a 4),(.a 5),(.a 6),(.a 7),(.a 8),(.a 9),(.a 10),(.l 0),(.a 12),(.a 13),(.a 14)] [] [(.va 0)])
    (.ite (.eq (.a 0) (.l 1))
    (.jump 0 [(.l 2),(.a 1),(.a 2),(.a 3),(.a 4),(.a 5),(.a 6),(.a 7),(.a 8),(.a 9),(.l 0),(.a 11),(.a 12),(.a 13),(.a 14)] [] [(.va 0)])
    (.ite (.eq (.a 0) (.l 0))
     (.jump 0 [(.l 1),(.a 1),(.a 2),(.a 3),(.a 4),(.a 5),(.a 6),(.a 7),(.a 8),(.l 0),(.a 10),(.a 11),(.a 12),(.a 13),(.a 14)] [] [(.va 0)])
     .stuck))))))
  (.need (treeB (.add (.a 0) (.l 1)))
  (.jump 0 [(.add (.a 0) (.l 1)),(.a 1),(.a 2),(.a 3),(.a 4),(.a 5),(.a 6),(.a 7),(.a 8),(.a 9),(.a 10),(.a 11),(.a 12),(.a 13),(.a 14)] [] [(.va 0)]))))
 (.call 51 [(.agg [(I L (A 1)),(I L (A 2)),(I L (A 3)),(I L (A 4)),(I L (A 5)),(I L (A 6)),(I L (A 7)),(I L (A 8)),(.va 0)]),(.agg [(I L (A 9)),(I L (A 10)),(I L (A 11)),(I L (A 12)),(I L (A 13)),(I L (A 14))])] [] [(.one .val)]
 (.need (.is 0 1)
 (.need (treeB (.sub (.slen 1) (.l 1)))
 (.need (treeI (.sub (.slen 1) (.l 1)) (.slen 1))
 (.load false (.ea 1 (.sub (.slen 1) (.l 1)) 1 0) [(D L)]
 (.ret false (I L (A 15)) [])))))))
def saleroomref13_Value_S:Sx.Sys:=⟨[(.sh (.agg [(D L),(D L),(D L),(D L),(D L),(D L),(D L),(D L),.val])),(.sh (.agg [(D L),(D L),(D L),(D L),(D L),(D L)]))],d2M,[d2K],none,none⟩
def d2U:List Cfg:=[{ todo:=[(.code [false,false,true,false,true,true]),(.inLoop [false,false,true,false,true,true]),(.inBlock 0),(.code [true,true,true])],sl:=[(.junk 0),(.junk 1),(.ptr 0 0),(.ptr 1 0),(.junk 2),(I L (A 0)),.undef,(.junk 3),(.junk 4),(.junk 5),(.junk 6),(.junk 7),(.junk 8),(.junk 9),(.junk 10),(.junk 11),(.junk 12),(.junk 13),(.junk 14),(.junk 15),(.junk 16),(.junk 17),(.junk 18),(.junk 19),(.junk 20),.undef,.undef,.undef,.undef,.undef,.undef,.undef,.undef,.undef],H:=[(.cells [(I L (A 1)),(I L (A 2)),(I L (A 3)),(I L (A 4)),(I L (A 5)),(I L (A 6)),(I L (A 7)),(I L (A 8)),(.va 0)] 26 false),(.cells [(I L (A 9)),(I L (A 10)),(I L (A 11)),(I L (A 12)),(I L (A 13)),(I L (A 14))] 23 false)],ni:=15,nb:=0,nv:=1,nj:=21 }]
theorem d2W:SysOk Try.prog 21 saleroomref13_Value_S:=a0O (c:=(cg [[false,false,true,false,true,true]] [] [] false false false true)) (a0s _ _ _ _ _ _ _ _ _) Try.func21 Try.call21 (by kernel_rfl) d2U saleroomref13_Value_S 5000 rfl (by kernel_rfl) (by kernel_rfl) rfl
def b3A:PT :=
 (.jump 0 [(.a 0),(.l 0),(.l 0),(.l 0),(.l 0),(.l 0),(.l 0),(.l 0)] [] [(.va 0)])
def b2n:PT :=
 (.need (.is 0 0)
 (.ite (.lt (.a 1) (.slen 0))
 (.need (treeI (.a 1) (.slen 0))
 (.load false (.ea 0 (.a 1) 1 0) [(D L)]
 (.ite (.eq (.a 1) (.l 5))
  (.jump 0 [(.a 0),(.l 6),(.a 2),(.a 3),(.a 4),(.a 5),(.a 6),(.a 8)] [] [(.va 0)])
  (.ite (.eq (.a 1) (.l 4))
  (.jump 0 [(.a 0),(.l 5),(.a 2),(.a 3),(.a 4),(.a 5),(.a 8),(.a 7)] [] [(.va 0)])
  (.ite (.eq (.a 1) (.l 3))
   (.jump 0 [(.a 0),(.l 4),(.a 2),(.a 3),(.a 4),(.a 8),(.a 6),(.a 7)] [] [(.va 0)])
   (.ite (.eq (.a 1) (.l 2))
   (.jump 0 [(.a 0),(.l 3),(.a 2),(.a 3),(.a 8),(.a 5),(.a 6),(.a 7)] [] [(.va 0)])
   (.ite (.eq (.a 1) (.l 1))
    (.jump 0 [(.a 0),(.l 2),(.a 2),(.a 8),(.a 4),(.a 5),(.a 6),(.a 7)] [] [(.va 0)])
    (.ite (.eq (.a 1) (.l 0))
    (.jump 0 [(.a 0),(.l 1),(.a 8),(.a 3),(.a 4),(.a 5),(.a 6),(.a 7)] [] [(.va 0)])
    .stuck))))))))
 (.ret false (.agg [(I L (E 1)),(I L (A 2)),(I L (A 3)),(I L (A 4)),(I L (A 5)),(I L (A 6)),(I L (A 7)),(I L (A 0)),.nilS]) [])))
def saleroomlaw13_atom_S:Sx.Sys:=⟨[(.sh (.one (D L))),(.sh (.one .val))],b3A,[b2n],none,none⟩
def b0u:List Cfg:=[{ todo:=[(.code [false,false,true,false,true,true]),(.inLoop [false,false,true,false,true,true]),(.inBlock 0),(.code [true,true,true])],sl:=[(I L (A 0)),(.va 0),.undef,.undef,(.ptr 0 0),(.ptr 1 0),(I L (A 1)),(.junk 0),(.junk 1),(.junk 2),(.junk 3),(.junk 4),(.junk 5),(.junk 6),(.junk 7),(.junk 8),(.junk 9),(.junk 10),(.junk 11),.undef,.undef,.undef],H:=[(.cells [(I L (E 0)),(I L (E 0)),(I L (E 0)),(I L (E 0)),(I L (E 0)),(I L (E 0)),(I L (E 0)),(I L (E 0)),.nilS] 26 false),(.cells [(I L (A 2)),(I L (A 3)),(I L (A 4)),(I L (A 5)),(I L (A 6)),(I L (A 7))] 23 false)],ni:=8,nb:=0,nv:=1,nj:=12 }]
theorem b1E:SysOk Try.prog 47 saleroomlaw13_atom_S:=a0O (c:=(cg [[false,false,true,false,true,true]] [] [] false false false true)) (a0s _ _ _ _ _ _ _ _ _) Try.func47 Try.call47 (by kernel_rfl) b0u saleroomlaw13_atom_S 5000 rfl (by kernel_rfl) (by kernel_rfl) rfl
def a5j:PT :=
 (.load false (.pa 0 0) [.val]
 (.load false (.pa 1 0) [(D L)]
 (.need (treeI (.a 1) (.slen 2))
 (.load false (.ea 2 (.a 1) 1 0) [(D L)]
 (.load false (.pa 0 0) [.val]
 (.need (treeI (.a 0) (.slen 3))
 (.load false (.ea 3 (.a 0) 1 0) [(D L)]
 (.load false (.pa 0 0) [.val]
 (.load false (.pa 1 0) [(D L)]
 (.need (treeI (.a 4) (.slen 4))
 (.storeM (.ea 4 (.a 4) 1 0) [(.int .i64 (.mx (.a 2) (.a 3)))]
 (.ret true (.tup []) []))))))))))))
def valuation_Table_1_S:Sx.Sys:=⟨[(.sh (.one (D L))),.ptr,.ptr],a5j,[],none,none⟩
def b1q:List Cfg:=[]
theorem b3q:SysOk Try.prog 55 valuation_Table_1_S:=a0O (c:=(cg [] [] [] true true false true)) (a0s _ _ _ _ _ _ _ _ _) Try.func55 Try.call55 (by kernel_rfl) b1q valuation_Table_1_S 5000 rfl (by kernel_rfl) (by kernel_rfl) rfl
def a3C:PT :=
 (.app none (.lit [[(I L (A 0)),(I L (A 1)),(I L (A 2)),(I L (A 3)),(I L (A 4)),(I L (A 5)),(I L (A 6)),(I L (A 7)),(.va 0)]]) 9
 (.jump 0 [(.l 0),(.a 0),(.a 1),(.a 2),(.a 3),(.a 4),(.a 5),(.a 6),(.a 7)] [] [(.va 1),(.va 0)]))
def a3v:PT :=
 (.need (.is 0 1)
 (.ite (.lt (.a 0) (.slen 1))
 (.need (treeI (.a 0) (.slen 1))
 (.load false (.ea 1 (.a 0) 9 0) [(D L),(D L),(D L),(D L),(D L),(D L),(D L),(D L),.val]
 (.call 80 [(.agg [(I L (A 9)),(I L (A 10)),(I L (A 11)),(I L (A 12)),(I L (A 13)),(I L (A 14)),(I L (A 15)),(I L (A 16)),(.va 2)])] [] [(.one .val)]
 (.app (some 0) (.va 3) 9
 (.need (treeB (.add (.a 0) (.l 1)))
 (.jump 0 [(.add (.a 0) (.l 1)),(.a 1),(.a 2),(.a 3),(.a 4),(.a 5),(.a 6),(.a 7),(.a 8)] [] [(.va 4),(.va 1)]))))))
 (.ret false (.va 0) [])))
def saleroomref11_Preorder_S:Sx.Sys:=⟨[(.sh (.agg [(D L),(D L),(D L),(D L),(D L),(D L),(D L),(D L),.val]))],a3C,[a3v],none,none⟩
def a8k:List Cfg:=[{ todo:=[(.code [false,false,true,false,true,true]),(.inLoop [false,false,true,false,true,true]),(.inBlock 0),(.code [true,true,true])],sl:=[(.junk 0),(.ptr 0 0),(.junk 1),(.va 0),(I L (A 0)),(.junk 2),(.junk 3),(.junk 4),(.junk 5),(.junk 6),(.junk 7),(.junk 8),(.junk 9),(.junk 10),(.junk 11),(.junk 12),(.junk 13),(.junk 14),(.junk 15),(.junk 16),(.junk 17),(.junk 18),.undef],H:=[(.cells [(I L (A 1)),(I L (A 2)),(I L (A 3)),(I L (A 4)),(I L (A 5)),(I L (A 6)),(I L (A 7)),(I L (A 8)),(.va 1)] 26 false),(.row 0 26 9)],ni:=9,nb:=0,nv:=2,nj:=19 }]
theorem a8T:SysOk Try.prog 80 saleroomref11_Preorder_S:=a0O (c:=(cg [[false,false,true,false,true,true]] [] [] false false false true)) (a0s _ _ _ _ _ _ _ _ _) Try.func80 Try.call80 (by kernel_rfl) a8k saleroomref11_Preorder_S 5000 rfl (by kernel_rfl) (by kernel_rfl) rfl
def a5G:PT :=
 (.ite (.lt (.a 5) (.a 11))
 (.need (treeB (.add (.a 5) (.l 1)))
 (.ret false (.agg [(I L (A 0)),(I L (A 1)),(I L (A 2)),(I L (A 3)),(I L (A 4)),(.int .i64 (.add (.a 5) (.l 1)))]) []))
 (.ite (.lt (.a 4) (.a 10))
  (.need (treeB (.add (.a 4) (.l 1)))
  (.ret false (.agg [(I L (A 0)),(I L (A 1)),(I L (A 2)),(I L (A 3)),(.int .i64 (.add (.a 4) (.l 1))),(I L (E 0))]) []))
  (.ite (.lt (.a 3) (.a 9))
  (.need (treeB (.add (.a 3) (.l 1)))
  (.ret false (.agg [(I L (A 0)),(I L (A 1)),(I L (A 2)),(.int .i64 (.add (.a 3) (.l 1))),(I L (E 0)),(I L (E 0))]) []))
  (.ite (.lt (.a 2) (.a 8))
   (.need (treeB (.add (.a 2) (.l 1)))
   (.ret false (.agg [(I L (A 0)),(I L (A 1)),(.int .i64 (.add (.a 2) (.l 1))),(I L (E 0)),(I L (E 0)),(I L (E 0))]) []))
   (.ite (.lt (.a 1) (.a 7))
   (.need (treeB (.add (.a 1) (.l 1)))
   (.ret false (.agg [(I L (A 0)),(.int .i64 (.add (.a 1) (.l 1))),(I L (E 0)),(I L (E 0)),(I L (E 0)),(I L (E 0))]) []))
   (.ite (.lt (.a 0) (.a 6))
    (.need (treeB (.add (.a 0) (.l 1)))
    (.ret false (.agg [(.int .i64 (.add (.a 0) (.l 1))),(I L (E 0)),(I L (E 0)),(I L (E 0)),(I L (E 0)),(I L (E 0))]) []))
    (.ret false (.agg [(I L (E 0)),(I L (E 0)),(I L (E 0)),(I L (E 0)),(I L (E 0)),(I L (E 0))]) [])))))))
def bundle_following_S:Sx.Sys:=⟨[(.sh (.agg [(D L),(D L),(D L),(D L),(D L),(D L)])),(.sh (.agg [(D L),(D L),(D L),(D L),(D L),(D L)]))],a5G,[],none,none⟩
def b2q:List Cfg:=[]
theorem a7w:SysOk Try.prog 96 bundle_following_S:=a0O (c:=(cg [] [] [] false false false true)) (a0s _ _ _ _ _ _ _ _ _) Try.func96 Try.call96 (by kernel_rfl) b2q bundle_following_S 5000 rfl (by kernel_rfl) (by kernel_rfl) rfl
end Go.Proofs.Ythmkfeiapdbojaa
