/- The trees of this seat's functions, part 3. Written by txgen.py. -/
import Derived.Test.YtflcopaopimlpaaHTab
set_option linter.unusedSimpArgs false
set_option linter.unusedVariables false
open Go.Sx.SV renaming int → I
open Go.IntKind renaming i64 → L
open Go.Sx.IE renaming a → A, l → E
open Go.Sx.Kd renaming int → D
set_option maxRecDepth 100000
namespace Go.Proofs.Ytflcopaopimlpaa
open Go.Sx
def a4x:PT :=
 (.call 32 [(.va 0)] [] [(.one (D L))]
 (.ite (.eq (.a 0) (.l 0))
 (.call 33 [(.va 1)] [] [(.one (D L))]
 (.ite (.not (.eq (.a 1) (.l 0)))
  (.ret false (I L (A 1)) [])
  (.need (.is 0 2)
  (.ite (.lt (.l 16) (.slen 2))
  (.ret false (I L (E 3)) [])
  (.jump 0 [(.l 0)] [] [(.va 0),(.va 1),(.va 2),(.va 3)])))))
 (.ite (.not (.eq (.a 0) (.l 0)))
  (.ret false (I L (A 0)) [])
  (.need (.is 0 2)
  (.ite (.lt (.l 16) (.slen 2))
  (.ret false (I L (E 3)) [])
  (.jump 0 [(.l 0)] [] [(.va 0),(.va 1),(.va 2),(.va 3)]))))))
def a2u:PT :=
 (.need (.is 0 2)
 (.ite (.lt (.a 0) (.slen 2))
 (.need (treeI (.a 0) (.slen 2))
 (.load false (.ea 2 (.a 0) 3 0) [(D L),(D L),(D L)]
 (.ite (.lt (.a 1) (.l (-1)))
  (.ret false (I L (E 6)) [])
  (.need (.is 0 1)
  (.ite (.le (.slen 1) (.a 1))
  (.ret false (I L (E 6)) [])
  (.ite (.lt (.a 2) (.l 0))
   (.ret false (I L (E 4)) [])
   (.ite (.lt (.l 4) (.a 2))
   (.ret false (I L (E 4)) [])
   (.ite (.lt (.a 3) (.l 0))
    (.ret false (I L (E 4)) [])
    (.ite (.lt (.l 24) (.a 3))
    (.ret false (I L (E 4)) [])
    (.jump 1 [(.a 0),(.l 0),(.a 1),(.slen 1),(.a 2),(.a 3)] [(.le (.slen 1) (.a 1)),(.lt (.l 4) (.a 2)),(.lt (.a 3) (.l 0)),(.lt (.l 24) (.a 3))] [(.va 1),(.va 0),(.va 2),(.va 3)]))))))))))
 (.need (.is 0 3)
 (.ite (.lt (.l 6) (.slen 3))
  (.ret false (I L (E 3)) [])
  (.jump 2 [(.l 0)] [] [(.va 0),(.va 1),(.va 2),(.va 3)])))))
def a2t:PT :=
 (.ite (.lt (.a 1) (.a 0))
 (.need (treeI (.a 1) (.slen 2))
 (.load true (.ea 2 (.a 1) 3 0) [(D L)]
 (.ite (.eq (.a 6) (.a 2))
  (.need (treeI (.a 1) (.slen 2))
  (.load true (.ea 2 (.a 1) 3 1) [(D L)]
  (.ite (.eq (.a 7) (.a 4))
  (.ret false (I L (E 7)) [])
  (.need (treeB (.add (.a 1) (.l 1)))
  (.jump 1 [(.a 0),(.add (.a 1) (.l 1)),(.a 2),(.a 3),(.a 4),(.a 5)] [(.a 0),(.a 1),(.a 2),(.a 3)] [(.va 0),(.va 1),(.va 2),(.va 3)])))))
  (.need (treeB (.add (.a 1) (.l 1)))
  (.jump 1 [(.a 0),(.add (.a 1) (.l 1)),(.a 2),(.a 3),(.a 4),(.a 5)] [(.a 0),(.a 1),(.a 2),(.a 3)] [(.va 0),(.va 1),(.va 2),(.va 3)])))))
 (.need (treeB (.add (.a 0) (.l 1)))
 (.jump 0 [(.add (.a 0) (.l 1))] [] [(.va 1),(.va 0),(.va 2),(.va 3)])))
def a2w:PT :=
 (.need (.is 0 3)
 (.ite (.lt (.a 0) (.slen 3))
 (.need (treeI (.a 0) (.slen 3))
 (.load false (.ea 3 (.a 0) 3 0) [(D L),(D L),(D L)]
 (.ite (.lt (.a 1) (.l 0))
  (.ret false (I L (E 6)) [])
  (.need (.is 0 0)
  (.ite (.le (.slen 0) (.a 1))
  (.ret false (I L (E 6)) [])
  (.ite (.lt (.a 2) (.l 1))
   (.ret false (I L (E 4)) [])
   (.ite (.lt (.l 4) (.a 2))
   (.ret false (I L (E 4)) [])
   (.ite (.lt (.a 3) (.l 1))
    (.ret false (I L (E 4)) [])
    (.need (treeI (.a 1) (.slen 0))
    (.load true (.ea 0 (.a 1) 5 1) [(D L)]
    (.ite (.lt (.a 4) (.a 3))
    (.ret false (I L (E 4)) [])
    (.jump 3 [(.a 0),(.l 0),(.a 1),(.slen 0),(.a 2),(.a 3),(.a 4)] [(.le (.slen 0) (.a 1)),(.lt (.l 4) (.a 2)),(.lt (.a 3) (.l 1)),(.lt (.a 4) (.a 3))] [(.va 0),(.va 1),(.va 2),(.va 3)]))))))))))))
 (.ret false (I L (E 0)) [])))
def a2x:PT :=
 (.ite (.lt (.a 1) (.a 0))
 (.need (treeI (.a 1) (.slen 3))
 (.load true (.ea 3 (.a 1) 3 0) [(D L)]
 (.ite (.eq (.a 7) (.a 2))
  (.ret false (I L (E 7)) [])
  (.need (treeB (.add (.a 1) (.l 1)))
  (.jump 3 [(.a 0),(.add (.a 1) (.l 1)),(.a 2),(.a 3),(.a 4),(.a 5),(.a 6)] [(.a 0),(.a 1),(.a 2),(.a 3)] [(.va 0),(.va 1),(.va 2),(.va 3)])))))
 (.need (treeB (.add (.a 0) (.l 1)))
 (.jump 2 [(.add (.a 0) (.l 1))] [] [(.va 0),(.va 1),(.va 2),(.va 3)])))
def saleroomref10_Check_S:Sx.Sys:=⟨[(.sh (.agg [.val,.val,.val,.val]))],a4x,[a2u,a2t,a2w,a2x],none,none⟩
def a8U:List Cfg:=[{ todo:=[(.code [false,false,true,false,true,true,true,true,true]),(.inLoop [false,false,true,false,true,true,true,true,true]),(.inBlock 0),(.code [true,true,true,true,true,true])],sl:=[(.junk 0),(.ptr 0 0),(.junk 1),(.junk 2),(I L (A 0)),(.junk 3),(.junk 4),.undef,.undef,.undef]++jkR 5 10++[.undef]++jkR 15 70++udR 66,H:=[(.cells [(.va 0),(.va 1),(.va 2),(.va 3)] 27 false)],ni:=1,nb:=0,nv:=4,nj:=85 },
 { todo:=[(.code [false,false,true,true,true,true,false,false,true,false,false,true,false,true,true,true,true,true]),(.inLoop [false,false,true,true,true,true,false,false,true,false,false,true,false,true,true,true,true,true]),(.inBlock 2),(.inBlock 1),(.code [true,true,false,false,true,false,true,true,true,true,true]),(.inLoop [false,false,true,false,true,true,true,true,true]),(.inBlock 0),(.code [true,true,true,true,true,true])],sl:=[(.junk 0),(.ptr 0 0),(.junk 1),(.junk 2),(I L (A 0)),(.ptr 1 0),(I L (A 1)),.undef,.undef,.undef]++jkR 3 10++[.undef]++jkR 13 20++[(.ptr 1 0),(I L (A 2)),(.ptr 0 1),(.va 0),(I L (A 3)),(.bool (.a 0))]++jkR 33 5++[(.ptr 1 1),(I L (A 4)),(.bool (.a 1)),(.junk 38),(.junk 39),(.ptr 1 2),(I L (A 5)),(.bool (.a 2)),(.junk 40),(.junk 41),(.ptr 1 2),(I L (A 5)),(.bool (.a 3))]++jkR 42 26++udR 66,H:=[(.cells [(.va 1),(.va 0),(.va 2),(.va 3)] 27 false),(.cells [(I L (A 2)),(I L (A 4)),(I L (A 5))] 76 false)],ni:=6,nb:=4,nv:=4,nj:=68 },
 { todo:=[(.code [false,false,true,false,true,true,true,true,true,true,true]),(.inLoop [false,false,true,false,true,true,true,true,true,true,true]),(.inBlock 4),(.code [true,true,true,true,true,true,true,true])],sl:=[(.junk 0),(.ptr 0 0)]++jkR 1 5++[(I L (A 0))]++jkR 6 12++[.undef]++jkR 18 136,H:=[(.cells [(.va 0),(.va 1),(.va 2),(.va 3)] 27 false)],ni:=1,nb:=0,nv:=4,nj:=154 },
 { todo:=[(.code [false,false,true,true,true,true,false,false,true,false,false,true,false,true,true,true,true,true,true,true]),(.inLoop [false,false,true,true,true,true,false,false,true,false,false,true,false,true,true,true,true,true,true,true]),(.inBlock 6),(.inBlock 5),(.code [true,true,false,false,true,false,true,true,true,true,true,true,true]),(.inLoop [false,false,true,false,true,true,true,true,true,true,true]),(.inBlock 4),(.code [true,true,true,true,true,true,true,true])],sl:=[(.junk 0),(.ptr 0 0)]++jkR 1 5++[(I L (A 0)),(.ptr 1 0),(I L (A 1))]++jkR 6 10++[.undef]++jkR 16 90++[(.ptr 1 0),(I L (A 2)),(.ptr 0 0),(.va 0),(I L (A 3)),(.bool (.a 0))]++jkR 106 5++[(.ptr 1 1),(I L (A 4)),(.bool (.a 1)),(.junk 111),(.junk 112),(.ptr 1 2),(I L (A 5)),(.bool (.a 2)),(.junk 113),(.junk 114),(.ptr 1 2),(I L (A 5)),(.ptr 0 0),(.va 0),(.ptr 1 0),(I L (A 2)),(.ea 0 (.a 2) 5 0),(.ea 0 (.a 2) 5 1),(I L (A 6)),(.bool (.a 3))]++jkR 115 15,H:=[(.cells [(.va 0),(.va 1),(.va 2),(.va 3)] 27 false),(.cells [(I L (A 2)),(I L (A 4)),(I L (A 5))] 78 false)],ni:=7,nb:=4,nv:=4,nj:=130 }]
theorem b0x:SysOk Try.prog 14 saleroomref10_Check_S:=a0N (c:=(cg [[false,false,true,false,true,true,true,true,true],[false,false,true,true,true,true,false,false,true,false,false,true,false,true,true,true,true,true],[false,false,true,false,true,true,true,true,true,true,true],[false,false,true,true,true,true,false,false,true,false,false,true,false,true,true,true,true,true,true,true]] [] [] false false false true)) (a0J _ _ _ _ _ _ _ _ _) Try.func14 Try.call14 (by kernel_rfl) a8U saleroomref10_Check_S 5000 rfl (by kernel_rfl) (by kernel_rfl) rfl
def b1v:PT :=
 (.call 37 [(.va 0),(I L (A 0))] [] [(.one .bool)]
 (.ite (.not (.a 0))
 (.ret false (.tup [(I L (E 0)),(I L (E 6))]) [])
 (.need (.is 1 0)
 (.load false (.pa 0 4) [.val]
 (.need (treeI (.a 0) (.slen 1))
 (.load false (.ea 1 (.a 0) 1 0) [.val]
 (.qLen 2
 (.call 25 [(.va 0),(I L (A 0))] [] [(.one .val)]
 (.need (.is 0 3)
 (.jump 0 [(.a 0),(.a 1),(.slen 3),(.l 0)] [] [(.va 0),(.va 3)]))))))))))
def b0l:PT :=
 (.ite (.lt (.a 3) (.a 2))
 (.need (treeI (.a 3) (.slen 1))
 (.load false (.ea 1 (.a 3) 8 0) [(D L),(D L),(D L),(D L),(D L),(D L),(D L),(D L)]
 (.need (.is 1 0)
 (.load false (.pa 0 4) [.val]
 (.need (treeI (.a 0) (.slen 2))
 (.load false (.ea 2 (.a 0) 1 0) [.val]
 (.qDel 3 [(.a 5),(.a 6),(.a 7),(.a 8),(.a 9),(.a 10)]
 (.need (treeB (.add (.a 3) (.l 1)))
 (.jump 0 [(.a 0),(.a 1),(.a 2),(.add (.a 3) (.l 1))] [] [(.va 0),(.va 1)])))))))))
 (.ret false (.tup [(I L (A 1)),(I L (E 0))]) []))
def bidbook_Book_Remove_S:Sx.Sys:=⟨[(.sh (.one .val)),(.sh (.one (D L)))],b1v,[b0l],none,none⟩
def a8G:List Cfg:=[{ todo:=[(.code [false,false,true,false,true,true,true]),(.inLoop [false,false,true,false,true,true,true]),(.inBlock 0),(.code [true,true,true,true])],sl:=[(.va 0),(I L (A 0)),.undef,.undef,(.junk 0),(.junk 1),(I L (A 1)),.undef]++jkR 2 15++[(.va 1),(I L (A 2)),(I L (A 3))]++jkR 17 13++[.undef],H:=[],ni:=4,nb:=0,nv:=2,nj:=30 }]
theorem b0N:SysOk Try.prog 22 bidbook_Book_Remove_S:=a0N (c:=(cg [[false,false,true,false,true,true,true]] [] [] true false false true)) (a0J _ _ _ _ _ _ _ _ _) Try.func22 Try.call22 (by kernel_rfl) a8G bidbook_Book_Remove_S 5000 rfl (by kernel_rfl) (by kernel_rfl) rfl
def c9R:PT :=
 (.ite (.lt (.a 0) (.l 0))
 (.ret false (.tup [(I L (E 0)),(I L (E 6))]) [])
 (.need (.is 1 0)
 (.load false (.pa 0 4) [.val]
 (.need (.is 0 1)
 (.ite (.le (.slen 1) (.a 0))
  (.ret false (.tup [(I L (E 0)),(I L (E 6))]) [])
  (.need (.is 1 0)
  (.load false (.pa 0 4) [.val]
  (.need (treeI (.a 0) (.slen 2))
  (.load false (.ea 2 (.a 0) 1 0) [.val]
  (.need (.is 0 3)
  (.need (.is 1 0)
  (.load false (.pa 0 4) [.val]
  (.need (treeI (.a 0) (.slen 4))
  (.storeM (.ea 4 (.a 0) 1 0) [.nilS]
  (.ret false (.tup [(.int .i64 (.slen 3)),(I L (E 0))]) [])))))))))))))))
def saleroomref16_Book_Remove_S:Sx.Sys:=⟨[(.sh (.one .val)),(.sh (.one (D L)))],c9R,[],none,none⟩
def d0P:List Cfg:=[]
theorem d0U:SysOk Try.prog 30 saleroomref16_Book_Remove_S:=a0N (c:=(cg [] [] [] false false false true)) (a0J _ _ _ _ _ _ _ _ _) Try.func30 Try.call30 (by kernel_rfl) d0P saleroomref16_Book_Remove_S 5000 rfl (by kernel_rfl) (by kernel_rfl) rfl
def a6J:PT :=
 (.call 27 [(.agg [(.va 0),(.va 1),(.va 2),(.va 3)])] [] [(.one (D L))]
 (.ite (.not (.eq (.a 7) (.l 0)))
 (.ret false (I L (A 7)) [])
 (.call 57 [(.agg [(.va 0),(.va 1),(.va 2),(.va 3)]),(I L (A 0)),(.agg [(I L (A 1)),(I L (A 2)),(I L (A 3)),(I L (A 4)),(I L (A 5)),(I L (A 6))])] [] [(.one (D L))]
 (.ret false (I L (A 8)) []))))
def setup_Allowed_S:Sx.Sys:=⟨[(.sh (.agg [.val,.val,.val,.val])),(.sh (.one (D L))),(.sh (.agg [(D L),(D L),(D L),(D L),(D L),(D L)]))],a6J,[],none,none⟩
def b3o:List Cfg:=[]
theorem b5j:SysOk Try.prog 38 setup_Allowed_S:=a0N (c:=(cg [] [] [] false false false true)) (a0J _ _ _ _ _ _ _ _ _) Try.func38 Try.call38 (by kernel_rfl) b3o setup_Allowed_S 5000 rfl (by kernel_rfl) (by kernel_rfl) rfl
def a1c:PT :=
 (.need (.is 0 0)
 (.ite (.nil 0)
 (.ret false .nilS [])
 (.app none (.lit []) 4
 (.app (some 1) (.va 0) 4
 (.ret false (.va 2) [])))))
def slices_Clone_api_Bidder_api_Bidder_S:Sx.Sys:=⟨[(.sh (.one .val))],a1c,[],none,none⟩
def a2U:List Cfg:=[]
theorem a5o:SysOk Try.prog 47 slices_Clone_api_Bidder_api_Bidder_S:=a0N (c:=(cg [] [] [] false false false true)) (a0J _ _ _ _ _ _ _ _ _) Try.func47 Try.call47 (by kernel_rfl) a2U slices_Clone_api_Bidder_api_Bidder_S 5000 rfl (by kernel_rfl) (by kernel_rfl) rfl
def a4f:PT :=
 (.need (.is 0 0)
 (.ite (.lt (.l 0) (.slen 0))
 (.need (.lt (.l 0) (.slen 0))
 (.load false (.ea 0 (.l 0) 5 1) [(D L)]
 (.need (.is 0 0)
 (.ite (.lt (.l 1) (.slen 0))
  (.need (.lt (.l 1) (.slen 0))
  (.load false (.ea 0 (.l 1) 5 1) [(D L)]
  (.need (.is 0 0)
  (.ite (.lt (.l 2) (.slen 0))
  (.need (.lt (.l 2) (.slen 0))
  (.load false (.ea 0 (.l 2) 5 1) [(D L)]
  (.need (.is 0 0)
  (.ite (.lt (.l 3) (.slen 0))
   (.need (.lt (.l 3) (.slen 0))
   (.load false (.ea 0 (.l 3) 5 1) [(D L)]
   (.need (.is 0 0)
   (.ite (.lt (.l 4) (.slen 0))
   (.need (.lt (.l 4) (.slen 0))
   (.load false (.ea 0 (.l 4) 5 1) [(D L)]
   (.need (.is 0 0)
   (.ite (.lt (.l 5) (.slen 0))
    (.need (.lt (.l 5) (.slen 0))
    (.load false (.ea 0 (.l 5) 5 1) [(D L)]
    (.need (.is 0 0)
    (.ite (.lt (.l 6) (.slen 0))
    (.ret false (.agg [(I L (A 0)),(I L (A 1)),(I L (A 2)),(I L (A 3)),(I L (A 4)),(I L (A 5))]) [])
    (.ret false (.agg [(I L (A 0)),(I L (A 1)),(I L (A 2)),(I L (A 3)),(I L (A 4)),(I L (A 5))]) [])))))
    (.ret false (.agg [(I L (A 0)),(I L (A 1)),(I L (A 2)),(I L (A 3)),(I L (A 4)),(I L (E 0))]) [])))))
   (.ret false (.agg [(I L (A 0)),(I L (A 1)),(I L (A 2)),(I L (A 3)),(I L (E 0)),(I L (E 0))]) [])))))
   (.ret false (.agg [(I L (A 0)),(I L (A 1)),(I L (A 2)),(I L (E 0)),(I L (E 0)),(I L (E 0))]) [])))))
  (.ret false (.agg [(I L (A 0)),(I L (A 1)),(I L (E 0)),(I L (E 0)),(I L (E 0)),(I L (E 0))]) [])))))
  (.ret false (.agg [(I L (A 0)),(I L (E 0)),(I L (E 0)),(I L (E 0)),(I L (E 0)),(I L (E 0))]) [])))))
 (.ret false (.agg [(I L (E 0)),(I L (E 0)),(I L (E 0)),(I L (E 0)),(I L (E 0)),(I L (E 0))]) [])))
def saleroomref08_Supply_S:Sx.Sys:=⟨[(.sh (.one .val))],a4f,[],none,none⟩
def a8k:List Cfg:=[]
theorem a9O:SysOk Try.prog 55 saleroomref08_Supply_S:=a0N (c:=(cg [] [] [] false false false true)) (a0J _ _ _ _ _ _ _ _ _) Try.func55 Try.call55 (by kernel_rfl) a8k saleroomref08_Supply_S 5000 rfl (by kernel_rfl) (by kernel_rfl) rfl
def a7q:PT :=
 (.call 68 [(.agg [(I L (A 0)),(I L (A 1)),(I L (A 2)),(I L (A 3)),(I L (A 4)),(I L (A 5))])] [] [(.one (D L))]
 (.ite (.not (.eq (.a 6) (.l 0)))
 (.ret false (I L (E 0)) [])
 (.need (treeB (.add (.a 0) (.l 1)))
 (.need (treeB (.mul (.l 1) (.add (.a 0) (.l 1))))
 (.need (treeB (.add (.a 1) (.l 1)))
 (.need (treeB (.mul (.mul (.l 1) (.add (.a 0) (.l 1))) (.add (.a 1) (.l 1))))
 (.need (treeB (.add (.a 2) (.l 1)))
 (.need (treeB (.mul (.mul (.mul (.l 1) (.add (.a 0) (.l 1))) (.add (.a 1) (.l 1))) (.add (.a 2) (.l 1))))
 (.need (treeB (.add (.a 3) (.l 1)))
 (.need (treeB (.mul (.mul (.mul (.mul (.l 1) (.add (.a 0) (.l 1))) (.add (.a 1) (.l 1))) (.add (.a 2) (.l 1))) (.add (.a 3) (.l 1))))
 (.need (treeB (.add (.a 4) (.l 1)))
 (.need (treeB (.mul (.mul (.mul (.mul (.mul (.l 1) (.add (.a 0) (.l 1))) (.add (.a 1) (.l 1))) (.add (.a 2) (.l 1))) (.add (.a 3) (.l 1))) (.add (.a 4) (.l 1))))
 (.need (treeB (.add (.a 5) (.l 1)))
 (.need (treeB (.mul (.mul (.mul (.mul (.mul (.mul (.l 1) (.add (.a 0) (.l 1))) (.add (.a 1) (.l 1))) (.add (.a 2) (.l 1))) (.add (.a 3) (.l 1))) (.add (.a 4) (.l 1))) (.add (.a 5) (.l 1))))
 (.ite (.lt (.l 1024) (.mul (.mul (.mul (.mul (.mul (.mul (.l 1) (.add (.a 0) (.l 1))) (.add (.a 1) (.l 1))) (.add (.a 2) (.l 1))) (.add (.a 3) (.l 1))) (.add (.a 4) (.l 1))) (.add (.a 5) (.l 1))))
  (.ret false (I L (E 0)) [])
  (.ret false (.int .i64 (.mul (.mul (.mul (.mul (.mul (.mul (.l 1) (.add (.a 0) (.l 1))) (.add (.a 1) (.l 1))) (.add (.a 2) (.l 1))) (.add (.a 3) (.l 1))) (.add (.a 4) (.l 1))) (.add (.a 5) (.l 1)))) []))))))))))))))))
def bundle_Count_S:Sx.Sys:=⟨[(.sh (.agg [(D L),(D L),(D L),(D L),(D L),(D L)]))],a7q,[],none,none⟩
def b4v:List Cfg:=[]
theorem b6r:SysOk Try.prog 63 bundle_Count_S:=a0N (c:=(cg [] [] [] false false false true)) (a0J _ _ _ _ _ _ _ _ _) Try.func63 Try.call63 (by kernel_rfl) b4v bundle_Count_S 5000 rfl (by kernel_rfl) (by kernel_rfl) rfl
def a6H:PT :=
 (.jump 0 [(.a 6),(.l 0),(.a 0),(.a 1),(.a 2),(.a 3),(.a 4),(.a 5),(.a 7),(.a 8),(.a 9),(.a 10),(.a 11),(.a 12)] [] [(.va 0),(.va 1),(.va 2),(.va 3)])
def a1i:PT :=
 (.ite (.lt (.a 1) (.l 6))
 (.ite (.eq (.a 1) (.l 5))
  (.ite (.eq (.a 7) (.l 0))
  (.jump 0 [(.a 0),(.l 6),(.a 2),(.a 3),(.a 4),(.a 5),(.a 6),(.a 7),(.a 8),(.a 9),(.a 10),(.a 11),(.a 12),(.l 0)] [] [(.va 0),(.va 1),(.va 2),(.va 3)])
  (.need (treeI (.a 0) (.slen 1))
  (.load true (.ea 1 (.a 0) 4 1) [(D L)]
  (.ite (.eq (.a 7) (.a 14))
   (.jump 0 [(.a 0),(.l 6),(.a 2),(.a 3),(.a 4),(.a 5),(.a 6),(.a 7),(.a 8),(.a 9),(.a 10),(.a 11),(.a 12),(.l 0)] [] [(.va 0),(.va 1),(.va 2),(.va 3)])
   (.jump 0 [(.a 0),(.l 6),(.a 2),(.a 3),(.a 4),(.a 5),(.a 6),(.a 7),(.a 8),(.a 9),(.a 10),(.a 11),(.a 12),(.a 13)] [] [(.va 0),(.va 1),(.va 2),(.va 3)])))))
  (.ite (.eq (.a 1) (.l 4))
  (.ite (.eq (.a 6) (.l 0))
   (.jump 0 [(.a 0),(.l 5),(.a 2),(.a 3),(.a 4),(.a 5),(.a 6),(.a 7),(.a 8),(.a 9),(.a 10),(.a 11),(.l 0),(.a 13)] [] [(.va 0),(.va 1),(.va 2),(.va 3)])
   (.need (treeI (.a 0) (.slen 1))
   (.load true (.ea 1 (.a 0) 4 1) [(D L)]
   (.ite (.eq (.a 6) (.a 14))
   (.jump 0 [(.a 0),(.l 5),(.a 2),(.a 3),(.a 4),(.a 5),(.a 6),(.a 7),(.a 8),(.a 9),(.a 10),(.a 11),(.l 0),(.a 13)] [] [(.va 0),(.va 1),(.va 2),(.va 3)])
   (.jump 0 [(.a 0),(.l 5),(.a 2),(.a 3),(.a 4),(.a 5),(.a 6),(.a 7),(.a 8),(.a 9),(.a 10),(.a 11),(.a 12),(.a 13)] [] [(.va 0),(.va 1),(.va 2),(.va 3)])))))
  (.ite (.eq (.a 1) (.l 3))
   (.ite (.eq (.a 5) (.l 0))
   (.jump 0 [(.a 0),(.l 4),(.a 2),(.a 3),(.a 4),(.a 5),(.a 6),(.a 7),(.a 8),(.a 9),(.a 10),(.l 0),(.a 12),(.a 13)] [] [(.va 0),(.va 1),(.va 2),(.va 3)])
   (.need (treeI (.a 0) (.slen 1))
   (.load true (.ea 1 (.a 0) 4 1) [(D L)]
   (.ite (.eq (.a 5) (.a 14))
    (.jump 0 [(.a 0),(.l 4),(.a 2),(.a 3),(.a 4),(.a 5),(.a 6),(.a 7),(.a 8),(.a 9),(.a 10),(.l 0),(.a 12),(.a 13)] [] [(.va 0),(.va 1),(.va 2),(.va 3)])
    (.jump 0 [(.a 0),(.l 4),(.a 2),(.a 3),(.a 4),(.a 5),(.a 6),(.a 7),(.a 8),(.a 9),(.a 10),(.a 11),(.a 12),(.a 13)] [] [(.va 0),(.va 1),(.va 2),(.va 3)])))))
   (.ite (.eq (.a 1) (.l 2))
   (.ite (.eq (.a 4) (.l 0))
    (.jump 0 [(.a 0),(.l 3),(.a 2),(.a 3),(.a 4),(.a 5),(.a 6),(.a 7),(.a 8),(.a 9),(.l 0),(.a 11),(.a 12),(.a 13)] [] [(.va 0),(.va 1),(.va 2),(.va 3)])
    (.need (treeI (.a 0) (.slen 1))
    (.load true (.ea 1 (.a 0) 4 1) [(D L)]
    (.ite (.eq (.a 4) (.a 14))
    (.jump 0 [(.a 0),(.l 3),(.a 2),(.a 3),(.a 4),(.a 5),(.a 6),(.a 7),(.a 8),(.a 9),(.l 0),(.a 11),(.a 12),(.a 13)] [] [(.va 0),(.va 1),(.va 2),(.va 3)])
    (.jump 0 [(.a 0),(.l 3),(.a 2),(.a 3),(.a 4),(.a 5),(.a 6),(.a 7),(.a 8),(.a 9),(.a 10),(.a 11),(.a 12),(.a 13)] [] [(.va 0),(.va 1),(.va 2),(.va 3)])))))
   (.ite (.eq (.a 1) (.l 1))
    (.ite (.eq (.a 3) (.l 0))
    (.jump 0 [(.a 0),(.l 2),(.a 2),(.a 3),(.a 4),(.a 5),(.a 6),(.a 7),(.a 8),(.l 0),(.a 10),(.a 11),(.a 12),(.a 13)] [] [(.va 0),(.va 1),(.va 2),(.va 3)])
    (.need (treeI (.a 0) (.slen 1))
    (.load true (.ea 1 (.a 0) 4 1) [(D L)]
    (.ite (.eq (.a 3) (.a 14))
     (.jump 0 [(.a 0),(.l 2),(.a 2),(.a 3),(.a 4),(.a 5),(.a 6),(.a 7),(.a 8),(.l 0),(.a 10),(.a 11),(.a 12),(.a 13)] [] [(.va 0),(.va 1),(.va 2),(.va 3)])
     (.jump 0 [(.a 0),(.l 2),(.a 2),(.a 3),(.a 4),(.a 5),(.a 6),(.a 7),(.a 8),(.a 9),(.a 10),(.a 11),(.a 12),(.a 13)] [] [(.va 0),(.va 1),(.va 2),(.va 3)])))))
    (.ite (.eq (.a 1) (.l 0))
    (.ite (.eq (.a 2) (.l 0))
     (.jump 0 [(.a 0),(.l 1),(.a 2),(.a 3),(.a 4),(.a 5),(.a 6),(.a 7),(.l 0),(.a 9),(.a 10),(.a 11),(.a 12),(.a 13)] [] [(.va 0),(.va 1),(.va 2),(.va 3)])
     (.need (treeI (.a 0) (.slen 1))
     (.load true (.ea 1 (.a 0) 4 1) [(D L)]
     (.ite (.eq (.a 2) (.a 14))
     (.jump 0 [(.a 0),(.l 1),(.a 2),(.a 3),(.a 4),(.a 5),(.a 6),(.a 7),(.l 0),(.a 9),(.a 10),(.a 11),(.a 12),(.a 13)] [] [(.va 0),(.va 1),(.va 2),(.va 3)])
     (.jump 0 [(.a 0),(.l 1),(.a 2),(.a 3),(.a 4),(.a 5),(.a 6),(.a 7),(.a 8),(.a 9),(.a 10),(.a 11),(.a 12),(.a 13)] [] [(.va 0),(.va 1),(.va 2),(.va 3)])))))
    .stuck))))))
 (.ret false (.agg [(I L (A 8)),(I L (A 9)),(I L (A 10)),(I L (A 11)),(I L (A 12)),(I L (A 13))]) []))
def setup_outside_S:Sx.Sys:=⟨[(.sh (.agg [.val,.val,.val,.val])),(.sh (.agg [(D L),(D L),(D L),(D L),(D L),(D L)])),(.sh (.one (D L))),(.sh (.agg [(D L),(D L),(D L),(D L),(D L),(D L)]))],a6H,[a1i],none,none⟩
def b3s:List Cfg:=[{ todo:=[(.code [false,false,true,false,true]),(.inLoop [false,false,true,false,true]),(.inBlock 0),(.code [true,true])],sl:=[(.junk 0),(.junk 1),(I L (A 0)),(.junk 2),(.ptr 0 0),(.ptr 1 0),.undef,(.ptr 2 0),(.ptr 3 0),(.junk 3),(I L (A 1))]++jkR 4 21++[.undef],H:=[(.cells [(.va 0),(.va 1),(.va 2),(.va 3)] 27 false),(.cells [(I L (A 2)),(I L (A 3)),(I L (A 4)),(I L (A 5)),(I L (A 6)),(I L (A 7))] 40 false),(.cells [(I L (A 8)),(I L (A 9)),(I L (A 10)),(I L (A 11)),(I L (A 12)),(I L (A 13))] 40 false),(.cells [(I L (E 0)),(I L (E 0)),(I L (E 0)),(I L (E 0)),(I L (E 0)),(I L (E 0))] 40 false)],ni:=14,nb:=0,nv:=4,nj:=25 }]
theorem b5E:SysOk Try.prog 71 setup_outside_S:=a0N (c:=(cg [[false,false,true,false,true]] [] [] false false false true)) (a0J _ _ _ _ _ _ _ _ _) Try.func71 Try.call71 (by kernel_rfl) b3s setup_outside_S 5000 rfl (by kernel_rfl) (by kernel_rfl) rfl
def a7v:PT :=
 (.ite (.le (.l 97) (.a 0))
 (.ret false (.bool (.le (.a 0) (.l 122))) [])
 (.ret false (.bool (.t false)) []))
def lexer_letter_S:Sx.Sys:=⟨[(.sh (.one (.int .i32)))],a7v,[],none,none⟩
def b4k:List Cfg:=[]
theorem b6G:SysOk Try.prog 83 lexer_letter_S:=a0N (c:=(cg [] [] [] false false false true)) (a0J _ _ _ _ _ _ _ _ _) Try.func83 Try.call83 (by kernel_rfl) b4k lexer_letter_S 5000 rfl (by kernel_rfl) (by kernel_rfl) rfl
end Go.Proofs.Ytflcopaopimlpaa
set_option maxRecDepth 100000
namespace Go.Proofs.Ytflcopaopimlpaa
open Go.Sx
def a2Z:PT :=
 (.need (.is 4 0)
 (.ite (.nil 0)
 (.ret true .nilP [])
 (.need (.is 1 0)
 (.load false (.pa 0 0) [.val,.val,.val,.val]
 (.call 28 [(.agg [(.va 1),(.va 2),(.va 3),(.va 4)])] [] [(.agg [.val,.val,.val,.val])]
 (.newM [(.va 5),(.va 6),(.va 7),(.va 8),.nilS] 68
 (.need (.is 1 0)
 (.load false (.pa 0 4) [.val]
 (.need (.is 0 10)
 (.jump 0 [(.slen 10),(.l 0)] [] [(.va 9),(.va 10)]))))))))))
def a2L:PT :=
 (.ite (.lt (.a 1) (.a 0))
 (.need (treeI (.a 1) (.slen 1))
 (.load false (.ea 1 (.a 1) 1 0) [.val]
 (.mkQ
 (.rng 2
 (.jump 1 [(.a 0),(.a 1)] [] [(.va 0),(.va 3),(.va 1),(.va 4)])))))
 (.ret true (.pa 0 0) []))
def a4P:PT :=
 (.next 3 6
 (.load false (.pa 0 4) [.val]
 (.app none (.lit [[(.va 1)]]) 1
 (.appM (.va 4) (.va 5) 1 69
 (.storeM (.pa 0 4) [(.va 6)]
 (.need (treeB (.add (.a 1) (.l 1)))
 (.jump 0 [(.a 0),(.add (.a 1) (.l 1))] [] [(.va 0),(.va 2)]))))))
 (.entry 3 6
 (.qSet 1 [(.a 9),(.a 10),(.a 11),(.a 12),(.a 13),(.a 14)] (.a 15)
 (.jump 1 [(.a 0),(.a 1)] [] [(.va 0),(.va 1),(.va 2),(.va 3)]))))
def bidbook_Book_Copy_S:Sx.Sys:=⟨[(.sh (.one .val))],a2Z,[a2L,a4P],none,none⟩
def b0y:List Cfg:=[{ todo:=[(.code [false,false,true,false,true,true,true]),(.inLoop [false,false,true,false,true,true,true]),(.inBlock 0),(.code [true,true,true,true])],sl:=[(.junk 0),.undef,(.junk 1),(.pa 0 0),.undef]++jkR 2 16++[(.va 1),(I L (A 0)),(I L (A 1))]++jkR 18 25++[.undef],H:=[],ni:=2,nb:=0,nv:=2,nj:=43 },
 { todo:=[(.code [false,false,true,false,true,true,false,false,true,true,false,false,true,false,true,true,true]),(.inLoop [false,false,true,false,true,true,false,false,true,true,false,false,true,false,true,true,true]),(.inBlock 2),(.code [true,true,true,false,false,true,true,false,false,true,false,true,true,true]),(.inBlock 1),(.code [true,true,true,false,false,true,false,true,true,true]),(.inLoop [false,false,true,false,true,true,true]),(.inBlock 0),(.code [true,true,true,true])],sl:=[(.junk 0),.undef,(.junk 1),(.pa 0 0),.undef,(.junk 2),(.va 1)]++jkR 3 14++[(.va 2),(I L (A 0)),(I L (A 1))]++jkR 17 5++[(.va 3)]++jkR 22 19++[.undef],H:=[],ni:=2,nb:=0,nv:=4,nj:=41 }]
theorem a6R:SysIs Try.prog 15 bidbook_Book_Copy_S:=a8F (c:=(cg [[false,false,true,false,true,true,true],[false,false,true,false,true,true,false,false,true,true,false,false,true,false,true,true,true]] [17] [] true true true true)) (a0J _ _ _ _ _ _ _ _ _) Try.func15 Try.call15 (by kernel_rfl) b0y bidbook_Book_Copy_S 5000 rfl (by kernel_rfl) (by kernel_rfl)
def b1K:PT :=
 (.call 37 [(.va 0),(I L (A 0))] [] [(.one .bool)]
 (.ite (.not (.a 0))
 (.ret false (.tup [(I L (E 0)),(.bool (.t false))]) [])
 (.need (.is 1 0)
 (.load false (.pa 0 4) [.val]
 (.need (treeI (.a 0) (.slen 1))
 (.load false (.ea 1 (.a 0) 1 0) [.val]
 (.qGet 2 [(.a 1),(.a 2),(.a 3),(.a 4),(.a 5),(.a 6)] true
 (.ret false (.tup [(I L (A 7)),(.bool (.a 1))]) []))))))))
def bidbook_Book_Value_S:Sx.Sys:=⟨[(.sh (.one .val)),(.sh (.one (D L))),(.sh (.agg [(D L),(D L),(D L),(D L),(D L),(D L)]))],b1K,[],none,none⟩
def a9B:List Cfg:=[]
theorem b1z:SysOk Try.prog 23 bidbook_Book_Value_S:=a0N (c:=(cg [] [] [] true false false true)) (a0J _ _ _ _ _ _ _ _ _) Try.func23 Try.call23 (by kernel_rfl) a9B bidbook_Book_Value_S 5000 rfl (by kernel_rfl) (by kernel_rfl) rfl
def d2x:PT :=
 (.ite (.lt (.a 0) (.l 0))
 (.ret false .nilS [])
 (.need (.is 1 0)
 (.load false (.pa 0 4) [.val]
 (.need (.is 0 1)
 (.ite (.le (.slen 1) (.a 0))
  (.ret false .nilS [])
  (.app none (.lit []) 8
  (.need (.is 1 0)
  (.load false (.pa 0 4) [.val]
  (.need (treeI (.a 0) (.slen 3))
  (.load false (.ea 3 (.a 0) 1 0) [.val]
  (.app (some 2) (.va 4) 8
  (.ret false (.va 5) []))))))))))))
def saleroomref16_Book_Offers_S:Sx.Sys:=⟨[(.sh (.one .val)),(.sh (.one (D L)))],d2x,[],none,none⟩
def d2I:List Cfg:=[]
theorem d2K:SysOk Try.prog 31 saleroomref16_Book_Offers_S:=a0N (c:=(cg [] [] [] false false false true)) (a0J _ _ _ _ _ _ _ _ _) Try.func31 Try.call31 (by kernel_rfl) d2I saleroomref16_Book_Offers_S 5000 rfl (by kernel_rfl) (by kernel_rfl) rfl
def a9M:PT :=
 (.call 41 [(.agg [(I L (A 1)),(I L (A 2)),(I L (A 3)),(I L (A 4)),(I L (A 5)),(I L (A 6))]),(.agg [(I L (A 9)),(I L (A 10)),(I L (A 11)),(I L (A 12)),(I L (A 13)),(I L (A 14))])] [] [(.one (D L))]
 (.ret false (I L (A 16)) []))
def bidbook_Book_Offers_1_S:Sx.Sys:=⟨[(.sh (.agg [(D L),(D L),(D L),(D L),(D L),(D L),(D L),(D L)])),(.sh (.agg [(D L),(D L),(D L),(D L),(D L),(D L),(D L),(D L)]))],a9M,[],none,none⟩
def a7U:List Cfg:=[]
theorem a9b:SysOk Try.prog 40 bidbook_Book_Offers_1_S:=a0N (c:=(cg [] [] [] false false false true)) (a0J _ _ _ _ _ _ _ _ _) Try.func40 Try.call40 (by kernel_rfl) a7U bidbook_Book_Offers_1_S 5000 rfl (by kernel_rfl) (by kernel_rfl) rfl
def a1n:PT :=
 (.need (.is 0 0)
 (.ite (.nil 0)
 (.ret false .nilS [])
 (.app none (.lit []) 3
 (.app (some 1) (.va 0) 3
 (.ret false (.va 2) [])))))
def slices_Clone_api_Cap_api_Cap_S:Sx.Sys:=⟨[(.sh (.one .val))],a1n,[],none,none⟩
def a3F:List Cfg:=[]
theorem a6C:SysOk Try.prog 48 slices_Clone_api_Cap_api_Cap_S:=a0N (c:=(cg [] [] [] false false false true)) (a0J _ _ _ _ _ _ _ _ _) Try.func48 Try.call48 (by kernel_rfl) a3F slices_Clone_api_Cap_api_Cap_S 5000 rfl (by kernel_rfl) (by kernel_rfl) rfl
def a4G:PT :=
 (.call 32 [(.va 0)] [] [(.one (D L))]
 (.ite (.not (.eq (.a 7) (.l 0)))
 (.ret false (.tup [(I L (E 0)),(I L (E 0)),(I L (E 0))]) [])
 (.call 53 [(.agg [(I L (A 1)),(I L (A 2)),(I L (A 3)),(I L (A 4)),(I L (A 5)),(I L (A 6))])] [] [(.one .bool)]
 (.ite (.not (.a 0))
  (.ret false (.tup [(I L (E 0)),(I L (E 0)),(I L (E 0))]) [])
  (.jump 0 [(.a 0),(.l 0),(.l 0),(.l 0),(.l 0),(.a 1),(.a 2),(.a 3),(.a 4),(.a 5),(.a 6)] [] [(.va 0)])))))
def a2G:PT :=
 (.need (.is 0 0)
 (.ite (.lt (.a 4) (.slen 0))
 (.jump 1 [(.a 0),(.a 1),(.a 2),(.a 3),(.a 4),(.l 0),(.a 5),(.a 6),(.a 7),(.a 8),(.a 9),(.a 10)] [] [(.va 0)])
 (.ret false (.tup [(I L (A 1)),(I L (A 2)),(I L (A 3))]) [])))
def a0H:PT :=
 (.ite (.eq (.a 4) (.l 5))
 (.ite (.lt (.a 5) (.a 11))
  (.need (.lt (.l 5) (.slen 0))
  (.load false (.ea 0 (.l 5) 5 3) [(D L)]
  (.need (treeB (.add (.a 1) (.a 12)))
  (.need (.lt (.l 5) (.slen 0))
  (.load false (.ea 0 (.l 5) 5 2) [(D L)]
  (.need (treeB (.add (.a 2) (.a 13)))
  (.need (.lt (.l 5) (.slen 0))
  (.load false (.ea 0 (.l 5) 5 4) [(D L)]
  (.ite (.eq (.a 14) (.a 0))
  (.need (treeB (.add (.a 3) (.l 1)))
  (.need (treeB (.add (.a 5) (.l 1)))
  (.jump 1 [(.a 0),(.add (.a 1) (.a 12)),(.add (.a 2) (.a 13)),(.add (.a 3) (.l 1)),(.l 5),(.add (.a 5) (.l 1)),(.a 6),(.a 7),(.a 8),(.a 9),(.a 10),(.a 11)] [] [(.va 0)])))
  (.need (treeB (.add (.a 5) (.l 1)))
  (.jump 1 [(.a 0),(.add (.a 1) (.a 12)),(.add (.a 2) (.a 13)),(.a 3),(.l 5),(.add (.a 5) (.l 1)),(.a 6),(.a 7),(.a 8),(.a 9),(.a 10),(.a 11)] [] [(.va 0)])))))))))))
  (.jump 0 [(.a 0),(.a 1),(.a 2),(.a 3),(.l 6),(.a 6),(.a 7),(.a 8),(.a 9),(.a 10),(.a 11)] [] [(.va 0)]))
 (.ite (.eq (.a 4) (.l 4))
  (.ite (.lt (.a 5) (.a 10))
  (.need (.lt (.l 4) (.slen 0))
  (.load false (.ea 0 (.l 4) 5 3) [(D L)]
  (.need (treeB (.add (.a 1) (.a 12)))
  (.need (.lt (.l 4) (.slen 0))
  (.load false (.ea 0 (.l 4) 5 2) [(D L)]
  (.need (treeB (.add (.a 2) (.a 13)))
  (.need (.lt (.l 4) (.slen 0))
  (.load false (.ea 0 (.l 4) 5 4) [(D L)]
  (.ite (.eq (.a 14) (.a 0))
   (.need (treeB (.add (.a 3) (.l 1)))
   (.need (treeB (.add (.a 5) (.l 1)))
   (.jump 1 [(.a 0),(.add (.a 1) (.a 12)),(.add (.a 2) (.a 13)),(.add (.a 3) (.l 1)),(.l 4),(.add (.a 5) (.l 1)),(.a 6),(.a 7),(.a 8),(.a 9),(.a 10),(.a 11)] [] [(.va 0)])))
   (.need (treeB (.add (.a 5) (.l 1)))
   (.jump 1 [(.a 0),(.add (.a 1) (.a 12)),(.add (.a 2) (.a 13)),(.a 3),(.l 4),(.add (.a 5) (.l 1)),(.a 6),(.a 7),(.a 8),(.a 9),(.a 10),(.a 11)] [] [(.va 0)])))))))))))
  (.jump 0 [(.a 0),(.a 1),(.a 2),(.a 3),(.l 5),(.a 6),(.a 7),(.a 8),(.a 9),(.a 10),(.a 11)] [] [(.va 0)]))
  (.ite (.eq (.a 4) (.l 3))
  (.ite (.lt (.a 5) (.a 9))
   (.need (.lt (.l 3) (.slen 0))
   (.load false (.ea 0 (.l 3) 5 3) [(D L)]
   (.need (treeB (.add (.a 1) (.a 12)))
   (.need (.lt (.l 3) (.slen 0))
   (.load false (.ea 0 (.l 3) 5 2) [(D L)]
   (.need (treeB (.add (.a 2) (.a 13)))
   (.need (.lt (.l 3) (.slen 0))
   (.load false (.ea 0 (.l 3) 5 4) [(D L)]
   (.ite (.eq (.a 14) (.a 0))
   (.need (treeB (.add (.a 3) (.l 1)))
   (.need (treeB (.add (.a 5) (.l 1)))
   (.jump 1 [(.a 0),(.add (.a 1) (.a 12)),(.add (.a 2) (.a 13)),(.add (.a 3) (.l 1)),(.l 3),(.add (.a 5) (.l 1)),(.a 6),(.a 7),(.a 8),(.a 9),(.a 10),(.a 11)] [] [(.va 0)])))
   (.need (treeB (.add (.a 5) (.l 1)))
   (.jump 1 [(.a 0),(.add (.a 1) (.a 12)),(.add (.a 2) (.a 13)),(.a 3),(.l 3),(.add (.a 5) (.l 1)),(.a 6),(.a 7),(.a 8),(.a 9),(.a 10),(.a 11)] [] [(.va 0)])))))))))))
   (.jump 0 [(.a 0),(.a 1),(.a 2),(.a 3),(.l 4),(.a 6),(.a 7),(.a 8),(.a 9),(.a 10),(.a 11)] [] [(.va 0)]))
  (.ite (.eq (.a 4) (.l 2))
   (.ite (.lt (.a 5) (.a 8))
   (.need (.lt (.l 2) (.slen 0))
   (.load false (.ea 0 (.l 2) 5 3) [(D L)]
   (.need (treeB (.add (.a 1) (.a 12)))
   (.need (.lt (.l 2) (.slen 0))
   (.load false (.ea 0 (.l 2) 5 2) [(D L)]
   (.need (treeB (.add (.a 2) (.a 13)))
   (.need (.lt (.l 2) (.slen 0))
   (.load false (.ea 0 (.l 2) 5 4) [(D L)]
   (.ite (.eq (.a 14) (.a 0))
    (.need (treeB (.add (.a 3) (.l 1)))
    (.need (treeB (.add (.a 5) (.l 1)))
    (.jump 1 [(.a 0),(.add (.a 1) (.a 12)),(.add (.a 2) (.a 13)),(.add (.a 3) (.l 1)),(.l 2),(.add (.a 5) (.l 1)),(.a 6),(.a 7),(.a 8),(.a 9),(.a 10),(.a 11)] [] [(.va 0)])))
    (.need (treeB (.add (.a 5) (.l 1)))
    (.jump 1 [(.a 0),(.add (.a 1) (.a 12)),(.add (.a 2) (.a 13)),(.a 3),(.l 2),(.add (.a 5) (.l 1)),(.a 6),(.a 7),(.a 8),(.a 9),(.a 10),(.a 11)] [] [(.va 0)])))))))))))
   (.jump 0 [(.a 0),(.a 1),(.a 2),(.a 3),(.l 3),(.a 6),(.a 7),(.a 8),(.a 9),(.a 10),(.a 11)] [] [(.va 0)]))
   (.ite (.eq (.a 4) (.l 1))
   (.ite (.lt (.a 5) (.a 7))
    (.need (.lt (.l 1) (.slen 0))
    (.load false (.ea 0 (.l 1) 5 3) [(D L)]
    (.need (treeB (.add (.a 1) (.a 12)))
    (.need (.lt (.l 1) (.slen 0))
    (.load false (.ea 0 (.l 1) 5 2) [(D L)]
    (.need (treeB (.add (.a 2) (.a 13)))
    (.need (.lt (.l 1) (.slen 0))
    (.load false (.ea 0 (.l 1) 5 4) [(D L)]
    (.ite (.eq (.a 14) (.a 0))
    (.need (treeB (.add (.a 3) (.l 1)))
    (.need (treeB (.add (.a 5) (.l 1)))
    (.jump 1 [(.a 0),(.add (.a 1) (.a 12)),(.add (.a 2) (.a 13)),(.add (.a 3) (.l 1)),(.l 1),(.add (.a 5) (.l 1)),(.a 6),(.a 7),(.a 8),(.a 9),(.a 10),(.a 11)] [] [(.va 0)])))
    (.need (treeB (.add (.a 5) (.l 1)))
    (.jump 1 [(.a 0),(.add (.a 1) (.a 12)),(.add (.a 2) (.a 13)),(.a 3),(.l 1),(.add (.a 5) (.l 1)),(.a 6),(.a 7),(.a 8),(.a 9),(.a 10),(.a 11)] [] [(.va 0)])))))))))))
    (.jump 0 [(.a 0),(.a 1),(.a 2),(.a 3),(.l 2),(.a 6),(.a 7),(.a 8),(.a 9),(.a 10),(.a 11)] [] [(.va 0)]))
   (.ite (.eq (.a 4) (.l 0))
    (.ite (.lt (.a 5) (.a 6))
    (.need (.lt (.l 0) (.slen 0))
    (.load false (.ea 0 (.l 0) 5 3) [(D L)]
    (.need (treeB (.add (.a 1) (.a 12)))
    (.need (.lt (.l 0) (.slen 0))
    (.load false (.ea 0 (.l 0) 5 2) [(D L)]
    (.need (treeB (.add (.a 2) (.a 13)))
    (.need (.lt (.l 0) (.slen 0))
    (.load false (.ea 0 (.l 0) 5 4) [(D L)]
    (.ite (.eq (.a 14) (.a 0))
     (.need (treeB (.add (.a 3) (.l 1)))
     (.need (treeB (.add (.a 5) (.l 1)))
     (.jump 1 [(.a 0),(.add (.a 1) (.a 12)),(.add (.a 2) (.a 13)),(.add (.a 3) (.l 1)),(.l 0),(.add (.a 5) (.l 1)),(.a 6),(.a 7),(.a 8),(.a 9),(.a 10),(.a 11)] [] [(.va 0)])))
     (.need (treeB (.add (.a 5) (.l 1)))
     (.jump 1 [(.a 0),(.add (.a 1) (.a 12)),(.add (.a 2) (.a 13)),(.a 3),(.l 0),(.add (.a 5) (.l 1)),(.a 6),(.a 7),(.a 8),(.a 9),(.a 10),(.a 11)] [] [(.va 0)])))))))))))
    (.jump 0 [(.a 0),(.a 1),(.a 2),(.a 3),(.l 1),(.a 6),(.a 7),(.a 8),(.a 9),(.a 10),(.a 11)] [] [(.va 0)]))
    .stuck))))))
def saleroomref08_Sums_S:Sx.Sys:=⟨[(.sh (.one .val)),(.sh (.one (D L))),(.sh (.agg [(D L),(D L),(D L),(D L),(D L),(D L)]))],a4G,[a2G,a0H],none,none⟩
def a9L:List Cfg:=[{ todo:=[(.code [false,false,true,false,true,true,true]),(.inLoop [false,false,true,false,true,true,true]),(.inBlock 0),(.code [true,true,true,true])],sl:=[(.va 0),(I L (A 0)),(.junk 0),.undef,.undef,(.ptr 0 0),(.junk 1),(.junk 2),(.junk 3),(I L (A 1)),(I L (A 2)),(I L (A 3)),(I L (A 4))]++jkR 4 45++[.undef,.undef,.undef],H:=[(.cells [(I L (A 5)),(I L (A 6)),(I L (A 7)),(I L (A 8)),(I L (A 9)),(I L (A 10))] 40 false)],ni:=11,nb:=0,nv:=1,nj:=49 },
 { todo:=[(.code [false,false,true,false,false,true,false,false,true,false,true,true,true]),(.inLoop [false,false,true,false,false,true,false,false,true,false,true,true,true]),(.inBlock 2),(.inBlock 1),(.code [true,true,false,false,true,false,true,true,true]),(.inLoop [false,false,true,false,true,true,true]),(.inBlock 0),(.code [true,true,true,true])],sl:=[(.va 0),(I L (A 0)),(.junk 0),.undef,.undef,(.ptr 0 0),(.junk 1),(.junk 2),(.junk 3),(I L (A 1)),(I L (A 2)),(I L (A 3)),(I L (A 4)),(I L (A 5))]++jkR 4 44++[.undef,.undef,.undef],H:=[(.cells [(I L (A 6)),(I L (A 7)),(I L (A 8)),(I L (A 9)),(I L (A 10)),(I L (A 11))] 40 false)],ni:=12,nb:=0,nv:=1,nj:=48 }]
theorem b1p:SysOk Try.prog 56 saleroomref08_Sums_S:=a0N (c:=(cg [[false,false,true,false,true,true,true],[false,false,true,false,false,true,false,false,true,false,true,true,true]] [] [] false false false true)) (a0J _ _ _ _ _ _ _ _ _) Try.func56 Try.call56 (by kernel_rfl) a9L saleroomref08_Sums_S 5000 rfl (by kernel_rfl) (by kernel_rfl) rfl
def a6r:PT :=
 (.need (.is 0 0)
 (.jump 0 [(.slen 0),(.l 0),(.l 0),(.l 0),(.l 0),(.l 0),(.l 0),(.l 0)] [] [(.va 0)]))
def a3C:PT :=
 (.ite (.lt (.a 1) (.a 0))
 (.need (treeI (.a 1) (.slen 0))
 (.load false (.ea 0 (.a 1) 5 0) [.val,(D L),(D L),(D L),(D L)]
 (.ite (.lt (.a 1) (.l 6))
  (.ite (.eq (.a 1) (.l 5))
  (.jump 0 [(.a 0),(.l 6),(.a 2),(.a 3),(.a 4),(.a 5),(.a 6),(.a 8)] [] [(.va 0)])
  (.ite (.eq (.a 1) (.l 4))
   (.jump 0 [(.a 0),(.l 5),(.a 2),(.a 3),(.a 4),(.a 5),(.a 8),(.a 7)] [] [(.va 0)])
   (.ite (.eq (.a 1) (.l 3))
   (.jump 0 [(.a 0),(.l 4),(.a 2),(.a 3),(.a 4),(.a 8),(.a 6),(.a 7)] [] [(.va 0)])
   (.ite (.eq (.a 1) (.l 2))
    (.jump 0 [(.a 0),(.l 3),(.a 2),(.a 3),(.a 8),(.a 5),(.a 6),(.a 7)] [] [(.va 0)])
    (.ite (.eq (.a 1) (.l 1))
    (.jump 0 [(.a 0),(.l 2),(.a 2),(.a 8),(.a 4),(.a 5),(.a 6),(.a 7)] [] [(.va 0)])
    (.ite (.eq (.a 1) (.l 0))
     (.jump 0 [(.a 0),(.l 1),(.a 8),(.a 3),(.a 4),(.a 5),(.a 6),(.a 7)] [] [(.va 0)])
     .stuck))))))
  (.need (treeB (.add (.a 1) (.l 1)))
  (.jump 0 [(.a 0),(.add (.a 1) (.l 1)),(.a 2),(.a 3),(.a 4),(.a 5),(.a 6),(.a 7)] [] [(.va 0)])))))
 (.ret false (.agg [(I L (A 2)),(I L (A 3)),(I L (A 4)),(I L (A 5)),(I L (A 6)),(I L (A 7))]) []))
def catalog_Supply_S:Sx.Sys:=⟨[(.sh (.one .val))],a6r,[a3C],none,none⟩
def b2M:List Cfg:=[{ todo:=[(.code [false,false,true,false,true,true]),(.inLoop [false,false,true,false,true,true]),(.inBlock 0),(.code [true,true,true])],sl:=[(.junk 0),.undef,(.ptr 0 0),(.ptr 1 0),(.junk 1),(.junk 2),(.va 0),(I L (A 0)),(I L (A 1))]++jkR 3 11++[.undef],H:=[(.cells [(I L (E 0)),(I L (E 0)),(I L (E 0)),(I L (E 0)),(I L (E 0)),(I L (E 0))] 40 false),(.cells [(I L (A 2)),(I L (A 3)),(I L (A 4)),(I L (A 5)),(I L (A 6)),(I L (A 7))] 40 false)],ni:=8,nb:=0,nv:=1,nj:=14 }]
theorem b4n:SysOk Try.prog 64 catalog_Supply_S:=a0N (c:=(cg [[false,false,true,false,true,true]] [] [] false false false true)) (a0J _ _ _ _ _ _ _ _ _) Try.func64 Try.call64 (by kernel_rfl) b2M catalog_Supply_S 5000 rfl (by kernel_rfl) (by kernel_rfl) rfl
def a6U:PT :=
 (.newM [(I L (A 0))] 3
 (.call 89 [(.agg [(.va 0),(I L (A 1)),(I L (A 2)),(I L (A 3)),(I L (A 4)),(I L (A 5)),(I L (A 6))]),(.fn 90 0 [(.pa 1 0)])] [] [(.one (D L))]
 (.ret false (I L (A 7)) [])))
def catalog_Units_S:Sx.Sys:=⟨[(.sh (.one .val)),(.sh (.one (D L))),(.sh (.agg [(D L),(D L),(D L),(D L),(D L),(D L)]))],a6U,[],none,none⟩
def b2X:List Cfg:=[]
theorem b5h:SysOk Try.prog 72 catalog_Units_S:=a0N (c:=(cg [] [4] [(12,[2])] true false false true)) (a0J _ _ _ _ _ _ _ _ _) Try.func72 Try.call72 (by kernel_rfl) b2X catalog_Units_S 5000 rfl (by kernel_rfl) (by kernel_rfl) rfl
def b0J:PT :=
 (.jump 0 [(.a 0),(.a 0)] [] [(.va 0),(.va 1)])
def a4s:PT :=
 (.need (.is 3 0)
 (.ite (.lt (.a 1) (.stl 0))
 (.need (.is 3 0)
 (.need (treeI (.a 1) (.stl 0))
 (.need (.and (.le (.l (-2147483648)) (.sat 0 (.a 1))) (.le (.sat 0 (.a 1)) (.l 2147483647)))
 (.callv 1 [(.int .i32 (.sat 0 (.a 1)))] [(.one .bool)]
 (.ite (.a 0)
  (.need (treeB (.add (.a 1) (.l 1)))
  (.jump 0 [(.a 0),(.add (.a 1) (.l 1))] [] [(.va 0),(.va 1)]))
  (.scut 0 (some (.a 0)) (some (.a 1))
  (.ret false (.va 2) [])))))))
 (.scut 0 (some (.a 0)) (some (.a 1))
 (.ret false (.va 2) []))))
def lexer_run_S:Sx.Sys:=⟨[(.sh (.one .val)),(.sh (.one (D L))),(.sh (.one .val))],b0J,[a4s],none,none⟩
def b7k:List Cfg:=[{ todo:=[(.code [false,false,false,true,true]),(.inLoop [false,false,false,true,true]),(.inBlock 0),(.code [true,true,true])],sl:=[(.va 0),(I L (A 0)),(.va 1),.undef,.undef,.undef,(.junk 0),(I L (A 1))]++jkR 1 15++udR 4,H:=[],ni:=2,nb:=0,nv:=2,nj:=16 }]
theorem b9g:SysOk Try.prog 84 lexer_run_S:=a0N (c:=(cg [[false,false,false,true,true]] [] [(14,[4])] false false false true)) (a0J _ _ _ _ _ _ _ _ _) Try.func84 Try.call84 (by kernel_rfl) b7k lexer_run_S 5000 rfl (by kernel_rfl) (by kernel_rfl) rfl
end Go.Proofs.Ytflcopaopimlpaa
set_option maxRecDepth 100000
namespace Go.Proofs.Ytflcopaopimlpaa
open Go.Sx
def d0D:PT :=
 (.need (.is 0 0)
 (.ite (.lt (.l 60) (.slen 0))
 (.ret false (.bool (.t false)) [])
 (.jump 0 [(.l 0)] [] [(.va 0)])))
def c9V:PT :=
 (.need (.is 0 0)
 (.ite (.lt (.a 0) (.slen 0))
 (.need (treeI (.a 0) (.slen 0))
 (.load false (.ea 0 (.a 0) 10 9) [.val]
 (.need (.is 0 1)
 (.ite (.lt (.l 60) (.slen 1))
  (.ret false (.bool (.t false)) [])
  (.need (treeB (.add (.a 0) (.l 1)))
  (.jump 0 [(.add (.a 0) (.l 1))] [] [(.va 0)]))))))
 (.ret false (.bool (.t true)) [])))
def saleroomlaw16_few_S:Sx.Sys:=⟨[(.sh (.one .val))],d0D,[c9V],none,none⟩
def d1c:List Cfg:=[{ todo:=[(.code [false,false,true,false,true,true]),(.inLoop [false,false,true,false,true,true]),(.inBlock 0),(.code [true,true,true])],sl:=[(.va 0),.undef,(.junk 0),(I L (A 0))]++jkR 1 16,H:=[],ni:=1,nb:=0,nv:=1,nj:=17 }]
theorem d1g:SysOk Try.prog 8 saleroomlaw16_few_S:=a0N (c:=(cg [[false,false,true,false,true,true]] [] [] false false false true)) (a0J _ _ _ _ _ _ _ _ _) Try.func8 Try.call8 (by kernel_rfl) d1c saleroomlaw16_few_S 5000 rfl (by kernel_rfl) (by kernel_rfl) rfl
def d0C:PT :=
 (.need (.is 1 0)
 (.load false (.pa 0 0) [.val,.val,.val,.val]
 (.newM [(.va 1),(.va 2),(.va 3),(.va 4),.nilS] 72
 (.jump 0 [(.l 0)] [] [(.va 0),(.va 5)]))))
def d0r:PT :=
 (.app none (.lit []) 8
  (.load false (.pa 0 4) [.val]
  (.need (treeI (.a 0) (.slen 5))
  (.load false (.ea 5 (.a 0) 1 0) [.val]
  (.app (some 4) (.va 6) 8
  (.app none (.lit [[(.va 7)]]) 1
  (.appM (.va 3) (.va 8) 1 41
  (.storeM (.pa 1 4) [(.va 9)]
  (.need (treeB (.add (.a 0) (.l 1)))
  (.jump 0 [(.add (.a 0) (.l 1))] [] [(.va 0),(.va 1)]))))))))))
def d0v:PT :=
 (.app none (.lit []) 8
   (.load false (.ea 4 (.a 0) 1 0) [.val]
   (.app (some 5) (.va 6) 8
   (.app none (.lit [[(.va 7)]]) 1
   (.appM (.va 3) (.va 8) 1 41
   (.storeM (.pa 1 4) [(.va 9)]
   (.need (treeB (.add (.a 0) (.l 1)))
   (.jump 0 [(.add (.a 0) (.l 1))] [] [(.va 0),(.va 1)]))))))))
def d0u:PT :=
 (.load false (.ea 4 (.a 0) 1 0) [.val]
   (.app none (.lit []) 8
   (.app (some 6) (.va 5) 8
   (.app none (.lit [[(.va 7)]]) 1
   (.appM (.va 3) (.va 8) 1 41
   (.storeM (.pa 1 4) [(.va 9)]
   (.need (treeB (.add (.a 0) (.l 1)))
   (.jump 0 [(.add (.a 0) (.l 1))] [] [(.va 0),(.va 1)]))))))))
def d0z:PT :=
 (.load false (.pa 0 4) [.val]
  (.need (treeI (.a 0) (.slen 4))
  (.both d0v d0u)))
def d0y:PT :=
 (.load false (.pa 1 4) [.val]
  (.both d0r d0z))
def d0x:PT :=
 (.load false (.pa 1 4) [.val]
   (.app (some 3) (.va 5) 8
   (.app none (.lit [[(.va 7)]]) 1
   (.appM (.va 6) (.va 8) 1 41
   (.storeM (.pa 1 4) [(.va 9)]
   (.need (treeB (.add (.a 0) (.l 1)))
   (.jump 0 [(.add (.a 0) (.l 1))] [] [(.va 0),(.va 1)])))))))
def d0s:PT :=
 (.load false (.pa 1 4) [.val]
   (.app none (.lit [[(.va 6)]]) 1
   (.appM (.va 7) (.va 8) 1 41
   (.storeM (.pa 1 4) [(.va 9)]
   (.need (treeB (.add (.a 0) (.l 1)))
   (.jump 0 [(.add (.a 0) (.l 1))] [] [(.va 0),(.va 1)]))))))
def d0t:PT :=
 (.app none (.lit [[(.va 6)]]) 1
   (.load false (.pa 1 4) [.val]
   (.appM (.va 8) (.va 7) 1 41
   (.storeM (.pa 1 4) [(.va 9)]
   (.need (treeB (.add (.a 0) (.l 1)))
   (.jump 0 [(.add (.a 0) (.l 1))] [] [(.va 0),(.va 1)]))))))
def d0w:PT :=
 (.app (some 3) (.va 5) 8
   (.both d0s d0t))
def d0f:PT :=
 (.app none (.lit []) 8
  (.load false (.pa 0 4) [.val]
  (.need (treeI (.a 0) (.slen 4))
  (.load false (.ea 4 (.a 0) 1 0) [.val]
  (.both d0x d0w)))))
def c9X:PT :=
 (.app none (.lit []) 8
   (.load false (.ea 3 (.a 0) 1 0) [.val]
   (.app (some 5) (.va 6) 8
   (.app none (.lit [[(.va 7)]]) 1
   (.appM (.va 4) (.va 8) 1 41
   (.storeM (.pa 1 4) [(.va 9)]
   (.need (treeB (.add (.a 0) (.l 1)))
   (.jump 0 [(.add (.a 0) (.l 1))] [] [(.va 0),(.va 1)]))))))))
def d0g:PT :=
 (.load false (.ea 3 (.a 0) 1 0) [.val]
   (.app none (.lit []) 8
   (.app (some 6) (.va 5) 8
   (.app none (.lit [[(.va 7)]]) 1
   (.appM (.va 4) (.va 8) 1 41
   (.storeM (.pa 1 4) [(.va 9)]
   (.need (treeB (.add (.a 0) (.l 1)))
   (.jump 0 [(.add (.a 0) (.l 1))] [] [(.va 0),(.va 1)]))))))))
def d0b:PT :=
 (.load false (.pa 1 4) [.val]
   (.both c9X d0g))
def d0l:PT :=
 (.load false (.pa 1 4) [.val]
    (.app (some 4) (.va 5) 8
    (.app none (.lit [[(.va 7)]]) 1
    (.appM (.va 6) (.va 8) 1 41
    (.storeM (.pa 1 4) [(.va 9)]
    (.need (treeB (.add (.a 0) (.l 1)))
    (.jump 0 [(.add (.a 0) (.l 1))] [] [(.va 0),(.va 1)])))))))
def d0h:PT :=
 (.load false (.pa 1 4) [.val]
    (.app none (.lit [[(.va 6)]]) 1
    (.appM (.va 7) (.va 8) 1 41
    (.storeM (.pa 1 4) [(.va 9)]
    (.need (treeB (.add (.a 0) (.l 1)))
    (.jump 0 [(.add (.a 0) (.l 1))] [] [(.va 0),(.va 1)]))))))
def d0e:PT :=
 (.app none (.lit [[(.va 6)]]) 1
    (.load false (.pa 1 4) [.val]
    (.appM (.va 8) (.va 7) 1 41
    (.storeM (.pa 1 4) [(.va 9)]
    (.need (treeB (.add (.a 0) (.l 1)))
    (.jump 0 [(.add (.a 0) (.l 1))] [] [(.va 0),(.va 1)]))))))
def d0j:PT :=
 (.app (some 4) (.va 5) 8
    (.both d0h d0e))
def d0i:PT :=
 (.app none (.lit []) 8
   (.load false (.ea 3 (.a 0) 1 0) [.val]
   (.both d0l d0j)))
def d0p:PT :=
 (.load false (.pa 1 4) [.val]
    (.app none (.lit []) 8
    (.app (some 6) (.va 4) 8
    (.app none (.lit [[(.va 7)]]) 1
    (.appM (.va 5) (.va 8) 1 41
    (.storeM (.pa 1 4) [(.va 9)]
    (.need (treeB (.add (.a 0) (.l 1)))
    (.jump 0 [(.add (.a 0) (.l 1))] [] [(.va 0),(.va 1)]))))))))
def d0a:PT :=
 (.load false (.pa 1 4) [.val]
    (.app (some 5) (.va 4) 8
    (.app none (.lit [[(.va 7)]]) 1
    (.appM (.va 6) (.va 8) 1 41
    (.storeM (.pa 1 4) [(.va 9)]
    (.need (treeB (.add (.a 0) (.l 1)))
    (.jump 0 [(.add (.a 0) (.l 1))] [] [(.va 0),(.va 1)])))))))
def d0c:PT :=
 (.load false (.pa 1 4) [.val]
     (.app none (.lit [[(.va 6)]]) 1
     (.appM (.va 7) (.va 8) 1 41
     (.storeM (.pa 1 4) [(.va 9)]
     (.need (treeB (.add (.a 0) (.l 1)))
     (.jump 0 [(.add (.a 0) (.l 1))] [] [(.va 0),(.va 1)]))))))
def d0m:PT :=
 (.app none (.lit [[(.va 6)]]) 1
     (.load false (.pa 1 4) [.val]
     (.appM (.va 8) (.va 7) 1 41
     (.storeM (.pa 1 4) [(.va 9)]
     (.need (treeB (.add (.a 0) (.l 1)))
     (.jump 0 [(.add (.a 0) (.l 1))] [] [(.va 0),(.va 1)]))))))
def c9Y:PT :=
 (.app (some 5) (.va 4) 8
    (.both d0c d0m))
def d0q:PT :=
 (.app none (.lit []) 8
    (.both d0a c9Y))
def d0k:PT :=
 (.load false (.ea 3 (.a 0) 1 0) [.val]
   (.both d0p d0q))
def d0n:PT :=
 (.both d0i d0k)
def d0d:PT :=
 (.load false (.pa 0 4) [.val]
  (.need (treeI (.a 0) (.slen 3))
  (.both d0b d0n)))
def d0o:PT :=
 (.both d0f d0d)
def c9S:PT :=
 (.need (.is 1 0)
 (.load false (.pa 0 4) [.val]
 (.need (.is 0 2)
 (.ite (.lt (.a 0) (.slen 2))
 (.need (.is 1 0)
 (.both d0y d0o))
 (.ret true (.pa 1 0) [])))))
def saleroomref16_Book_Copy_S:Sx.Sys:=⟨[(.sh (.one .val))],d0C,[c9S],none,none⟩
def d0V:List Cfg:=[{ todo:=[(.code [false,false,true,false,true,true]),(.inLoop [false,false,true,false,true,true]),(.inBlock 0),(.code [true,true,true])],sl:=[(.va 0),.undef,(.junk 0),(.pa 1 0),(I L (A 0))]++jkR 1 33++[.undef],H:=[],ni:=1,nb:=0,nv:=2,nj:=34 }]
theorem d0Y:SysOk Try.prog 16 saleroomref16_Book_Copy_S:=a0N (c:=(cg [[false,false,true,false,true,true]] [10] [] true true true true)) (a0J _ _ _ _ _ _ _ _ _) Try.func16 Try.call16 (by kernel_rfl) d0V saleroomref16_Book_Copy_S 5000 rfl (by kernel_rfl) (by kernel_rfl) rfl
def b0S:PT :=
 (.need (.is 4 0)
 (.ite (.nil 0)
 (.ret true (I L (E 6)) [])
 (.call 15 [(.va 0)] [] [(.one .val)]
 (.need (.is 0 1)
 (.jump 0 [(.a 0),(.slen 1),(.l 0)] [] [(.va 0),(.va 2),(.va 1)])))))
def b0A:PT :=
 (.ite (.lt (.a 2) (.a 1))
 (.need (treeI (.a 2) (.slen 2))
 (.load false (.ea 2 (.a 2) 8 0) [(D L),(D L),(D L),(D L),(D L),(D L),(D L),(D L)]
 (.call 18 [(.va 1),(I L (A 0)),(.agg [(I L (A 4)),(I L (A 5)),(I L (A 6)),(I L (A 7)),(I L (A 8)),(I L (A 9))]),(I L (A 10))] [] [(.one (D L))]
 (.ite (.not (.eq (.a 11) (.l 0)))
  (.ret true (I L (A 11)) [])
  (.need (treeB (.add (.a 2) (.l 1)))
  (.jump 0 [(.a 0),(.a 1),(.add (.a 2) (.l 1))] [] [(.va 0),(.va 1),(.va 2)]))))))
 (.need (.is 1 1)
 (.load false (.pa 1 4) [.val]
 (.need (.is 1 0)
 (.storeM (.pa 0 4) [(.va 3)]
 (.ret true (I L (E 0)) []))))))
def bidbook_Book_PutAll_S:Sx.Sys:=⟨[(.sh (.one .val)),(.sh (.one (D L))),(.sh (.one .val))],b0S,[b0A],none,none⟩
def a9u:List Cfg:=[{ todo:=[(.code [false,false,true,false,true,true,true]),(.inLoop [false,false,true,false,true,true,true]),(.inBlock 0),(.code [true,true,true,true])],sl:=[(.va 0),(I L (A 0)),(.junk 0),.undef,.undef,.undef,(.junk 1),(.va 1),.undef]++jkR 2 6++[(.va 2),(I L (A 1)),(I L (A 2))]++jkR 8 12++[.undef,(.junk 20)]++udR 7,H:=[],ni:=3,nb:=0,nv:=3,nj:=21 }]
theorem b0w:SysOk Try.prog 24 bidbook_Book_PutAll_S:=a0N (c:=(cg [[false,false,true,false,true,true,true]] [] [] false true false true)) (a0J _ _ _ _ _ _ _ _ _) Try.func24 Try.call24 (by kernel_rfl) a9u bidbook_Book_PutAll_S 5000 rfl (by kernel_rfl) (by kernel_rfl) rfl
def a4y:PT :=
 (.need (.is 0 0)
 (.ite (.eq (.slen 0) (.l 0))
 (.ret false (I L (E 1)) [])
 (.need (.is 0 0)
 (.ite (.lt (.l 6) (.slen 0))
  (.ret false (I L (E 3)) [])
  (.jump 0 [(.l 0)] [] [(.va 0)])))))
def a2y:PT :=
 (.need (.is 0 0)
 (.ite (.lt (.a 0) (.slen 0))
 (.need (treeI (.a 0) (.slen 0))
 (.load false (.ea 0 (.a 0) 5 0) [.val]
 (.call 50 [(.va 1)] [] [(.one .bool)]
 (.ite (.not (.a 0))
  (.ret false (I L (E 5)) [])
  (.jump 1 [(.a 0),(.l 0)] [] [(.va 0)])))))
 (.jump 2 [(.l 1),(.l 0)] [] [(.va 0)])))
def a1V:PT :=
 (.ite (.lt (.a 1) (.a 0))
 (.need (treeI (.a 1) (.slen 0))
 (.need (treeI (.a 0) (.slen 0))
 (.load true (.ea 0 (.a 1) 5 0) [.val]
 (.load true (.ea 0 (.a 0) 5 0) [.val]
 (.need (.is 3 1)
 (.need (.is 3 2)
 (.ite (.seq 1 2)
  (.ret false (I L (E 7)) [])
  (.need (treeB (.add (.a 1) (.l 1)))
  (.jump 1 [(.a 0),(.add (.a 1) (.l 1))] [] [(.va 0)])))))))))
 (.need (treeI (.a 0) (.slen 0))
 (.load false (.ea 0 (.a 0) 5 0) [.val,(D L),(D L),(D L),(D L)]
 (.ite (.lt (.a 2) (.l 1))
  (.ret false (I L (E 4)) [])
  (.ite (.lt (.l 4) (.a 2))
  (.ret false (I L (E 4)) [])
  (.ite (.lt (.a 3) (.l 0))
   (.ret false (I L (E 4)) [])
   (.ite (.lt (.l 1000000) (.a 3))
   (.ret false (I L (E 4)) [])
   (.ite (.lt (.a 4) (.l 0))
    (.ret false (I L (E 4)) [])
    (.ite (.lt (.l 1000) (.a 4))
    (.ret false (I L (E 4)) [])
    (.ite (.lt (.a 5) (.l 0))
     (.ret false (I L (E 4)) [])
     (.ite (.lt (.l 4) (.a 5))
     (.ret false (I L (E 4)) [])
     (.need (treeB (.add (.a 0) (.l 1)))
     (.jump 0 [(.add (.a 0) (.l 1))] [] [(.va 0)])))))))))))))
def a2z:PT :=
 (.need (.is 0 0)
 (.ite (.lt (.a 1) (.slen 0))
 (.need (treeI (.a 1) (.slen 0))
 (.load false (.ea 0 (.a 1) 5 1) [(D L)]
 (.need (treeB (.add (.a 2) (.l 1)))
 (.need (treeB (.mul (.a 0) (.add (.a 2) (.l 1))))
 (.need (treeB (.add (.a 1) (.l 1)))
 (.jump 2 [(.mul (.a 0) (.add (.a 2) (.l 1))),(.add (.a 1) (.l 1))] [] [(.va 0)]))))))
 (.ite (.lt (.l 1024) (.a 0))
  (.ret false (I L (E 12)) [])
  (.ret false (I L (E 0)) []))))
def saleroomref08_Check_S:Sx.Sys:=⟨[(.sh (.one .val))],a4y,[a2y,a1V,a2z],none,none⟩
def a8X:List Cfg:=[{ todo:=[(.code [false,false,true,false,true,true,true]),(.inLoop [false,false,true,false,true,true,true]),(.inBlock 0),(.code [true,true,true,true])],sl:=[(.va 0),.undef,(.junk 0),(I L (A 0)),(.junk 1),(.junk 2),.undef,.undef]++jkR 3 77++udR 16,H:=[],ni:=1,nb:=0,nv:=1,nj:=80 },
 { todo:=[(.code [false,false,true,false,true,false,false,true,false,false,true,false,true,true,true]),(.inLoop [false,false,true,false,true,false,false,true,false,false,true,false,true,true,true]),(.inBlock 2),(.code [true,true,false,false,true,false,false,true,false,true,true,true]),(.inBlock 1),(.code [true,true,false,false,true,false,true,true,true]),(.inLoop [false,false,true,false,true,true,true]),(.inBlock 0),(.code [true,true,true,true])],sl:=[(.va 0),.undef,(.junk 0),(I L (A 0)),(I L (A 1)),(.junk 1),.undef,.undef]++jkR 2 77++udR 16,H:=[],ni:=2,nb:=0,nv:=1,nj:=79 },
 { todo:=[(.code [false,false,true,false,true,true,true,true,true]),(.inLoop [false,false,true,false,true,true,true,true,true]),(.inBlock 4),(.code [true,true,true,true,true,true])],sl:=[(.va 0),.undef]++jkR 0 4++[(I L (A 0)),(I L (A 1))]++jkR 4 91++[.undef,.undef],H:=[],ni:=2,nb:=0,nv:=1,nj:=95 }]
theorem b0F:SysOk Try.prog 32 saleroomref08_Check_S:=a0N (c:=(cg [[false,false,true,false,true,true,true],[false,false,true,false,true,false,false,true,false,false,true,false,true,true,true],[false,false,true,false,true,true,true,true,true]] [] [] false false false true)) (a0J _ _ _ _ _ _ _ _ _) Try.func32 Try.call32 (by kernel_rfl) a8X saleroomref08_Check_S 5000 rfl (by kernel_rfl) (by kernel_rfl) rfl
def b5y:PT :=
 (.ite (.lt (.a 0) (.a 6))
 (.ret false (I L (E (-1))) [])
 (.ite (.lt (.a 6) (.a 0))
  (.ret false (I L (E 1)) [])
  (.ite (.lt (.a 1) (.a 7))
  (.ret false (I L (E (-1))) [])
  (.ite (.lt (.a 7) (.a 1))
   (.ret false (I L (E 1)) [])
   (.ite (.lt (.a 2) (.a 8))
   (.ret false (I L (E (-1))) [])
   (.ite (.lt (.a 8) (.a 2))
    (.ret false (I L (E 1)) [])
    (.ite (.lt (.a 3) (.a 9))
    (.ret false (I L (E (-1))) [])
    (.ite (.lt (.a 9) (.a 3))
     (.ret false (I L (E 1)) [])
     (.ite (.lt (.a 4) (.a 10))
     (.ret false (I L (E (-1))) [])
     (.ite (.lt (.a 10) (.a 4))
      (.ret false (I L (E 1)) [])
      (.ite (.lt (.a 5) (.a 11))
      (.ret false (I L (E (-1))) [])
      (.ite (.lt (.a 11) (.a 5))
       (.ret false (I L (E 1)) [])
       (.ret false (I L (E 0)) [])))))))))))))
def bundle_Compare_S:Sx.Sys:=⟨[(.sh (.agg [(D L),(D L),(D L),(D L),(D L),(D L)])),(.sh (.agg [(D L),(D L),(D L),(D L),(D L),(D L)]))],b5y,[],none,none⟩
def b2R:List Cfg:=[]
theorem b4s:SysOk Try.prog 41 bundle_Compare_S:=a0N (c:=(cg [] [] [] false false false true)) (a0J _ _ _ _ _ _ _ _ _) Try.func41 Try.call41 (by kernel_rfl) b2R bundle_Compare_S 5000 rfl (by kernel_rfl) (by kernel_rfl) rfl
def a1h:PT :=
 (.need (.is 0 0)
 (.ite (.nil 0)
 (.ret false .nilS [])
 (.app none (.lit []) 3
 (.app (some 1) (.va 0) 3
 (.ret false (.va 2) [])))))
def slices_Clone_api_Aside_api_Aside_S:Sx.Sys:=⟨[(.sh (.one .val))],a1h,[],none,none⟩
def a3j:List Cfg:=[]
theorem a5J:SysOk Try.prog 49 slices_Clone_api_Aside_api_Aside_S:=a0N (c:=(cg [] [] [] false false false true)) (a0J _ _ _ _ _ _ _ _ _) Try.func49 Try.call49 (by kernel_rfl) a3j slices_Clone_api_Aside_api_Aside_S 5000 rfl (by kernel_rfl) (by kernel_rfl) rfl
def a6T:PT :=
 (.ite (.lt (.a 0) (.l 0))
 (.ret false (I L (E 6)) [])
 (.need (.is 0 1)
 (.ite (.le (.slen 1) (.a 0))
  (.ret false (I L (E 6)) [])
  (.call 68 [(.agg [(I L (A 1)),(I L (A 2)),(I L (A 3)),(I L (A 4)),(I L (A 5)),(I L (A 6))])] [] [(.one (D L))]
  (.ite (.not (.eq (.a 7) (.l 0)))
  (.ret false (I L (A 7)) [])
  (.call 69 [(.agg [(.va 0),(.va 1),(.va 2),(.va 3)])] [] [(.agg [(D L),(D L),(D L),(D L),(D L),(D L)]),(.agg [(D L),(D L),(D L),(D L),(D L),(D L)])]
  (.call 64 [(.va 0)] [] [(.agg [(D L),(D L),(D L),(D L),(D L),(D L)])]
  (.call 70 [(.agg [(I L (A 1)),(I L (A 2)),(I L (A 3)),(I L (A 4)),(I L (A 5)),(I L (A 6))]),(.agg [(I L (A 20)),(I L (A 21)),(I L (A 22)),(I L (A 23)),(I L (A 24)),(I L (A 25))])] [] [(.one .bool)]
  (.ite (.not (.a 0))
   (.ret false (I L (E 14)) [])
   (.call 71 [(.agg [(.va 0),(.va 1),(.va 2),(.va 3)]),(.agg [(I L (A 14)),(I L (A 15)),(I L (A 16)),(I L (A 17)),(I L (A 18)),(I L (A 19))]),(I L (A 0)),(.agg [(I L (A 1)),(I L (A 2)),(I L (A 3)),(I L (A 4)),(I L (A 5)),(I L (A 6))])] [] [(.agg [(D L),(D L),(D L),(D L),(D L),(D L)])]
   (.call 70 [(.agg [(I L (A 26)),(I L (A 27)),(I L (A 28)),(I L (A 29)),(I L (A 30)),(I L (A 31))]),(.agg [(I L (A 8)),(I L (A 9)),(I L (A 10)),(I L (A 11)),(I L (A 12)),(I L (A 13))])] [] [(.one .bool)]
   (.ite (.not (.a 1))
   (.ret false (I L (E 14)) [])
   (.need (.is 0 2)
   (.jump 0 [(.a 0),(.slen 2),(.l 0),(.a 1),(.a 2),(.a 3),(.a 4),(.a 5),(.a 6)] [] [(.va 2),(.va 0),(.va 1),(.va 3)]))))))))))))))
def a3P:PT :=
 (.ite (.lt (.a 2) (.a 1))
 (.need (treeI (.a 2) (.slen 0))
 (.load false (.ea 0 (.a 2) 3 0) [(D L),(D L),(D L)]
 (.ite (.eq (.a 9) (.l (-1)))
  (.call 72 [(.va 1),(I L (A 10)),(.agg [(I L (A 3)),(I L (A 4)),(I L (A 5)),(I L (A 6)),(I L (A 7)),(I L (A 8))])] [] [(.one (D L))]
  (.ite (.lt (.a 11) (.a 12))
  (.ret false (I L (E 14)) [])
  (.need (treeB (.add (.a 2) (.l 1)))
  (.jump 0 [(.a 0),(.a 1),(.add (.a 2) (.l 1)),(.a 3),(.a 4),(.a 5),(.a 6),(.a 7),(.a 8)] [] [(.va 0),(.va 1),(.va 2),(.va 3)]))))
  (.ite (.eq (.a 9) (.a 0))
  (.call 72 [(.va 1),(I L (A 10)),(.agg [(I L (A 3)),(I L (A 4)),(I L (A 5)),(I L (A 6)),(I L (A 7)),(I L (A 8))])] [] [(.one (D L))]
  (.ite (.lt (.a 11) (.a 12))
   (.ret false (I L (E 14)) [])
   (.need (treeB (.add (.a 2) (.l 1)))
   (.jump 0 [(.a 0),(.a 1),(.add (.a 2) (.l 1)),(.a 3),(.a 4),(.a 5),(.a 6),(.a 7),(.a 8)] [] [(.va 0),(.va 1),(.va 2),(.va 3)]))))
  (.need (treeB (.add (.a 2) (.l 1)))
  (.jump 0 [(.a 0),(.a 1),(.add (.a 2) (.l 1)),(.a 3),(.a 4),(.a 5),(.a 6),(.a 7),(.a 8)] [] [(.va 0),(.va 1),(.va 2),(.va 3)]))))))
 (.ret false (I L (E 0)) []))
def setup_allowed_S:Sx.Sys:=⟨[(.sh (.agg [.val,.val,.val,.val])),(.sh (.one (D L))),(.sh (.agg [(D L),(D L),(D L),(D L),(D L),(D L)]))],a6T,[a3P],none,none⟩
def b3w:List Cfg:=[{ todo:=[(.code [false,false,true,false,true,true,true,true,true]),(.inLoop [false,false,true,false,true,true,true,true,true]),(.inBlock 0),(.code [true,true,true,true,true,true])],sl:=[(.junk 0),(I L (A 0)),(.junk 1),(.ptr 0 0),.undef,(.ptr 1 0)]++jkR 2 4++[.undef]++jkR 6 14++[.undef]++jkR 20 22++[(.va 0),(I L (A 1)),(I L (A 2))]++jkR 42 24,H:=[(.cells [(.va 1),(.va 2),(.va 0),(.va 3)] 27 false),(.cells [(I L (A 3)),(I L (A 4)),(I L (A 5)),(I L (A 6)),(I L (A 7)),(I L (A 8))] 40 false)],ni:=9,nb:=0,nv:=4,nj:=66 }]
theorem b5m:SysOk Try.prog 57 setup_allowed_S:=a0N (c:=(cg [[false,false,true,false,true,true,true,true,true]] [] [] false false false true)) (a0J _ _ _ _ _ _ _ _ _) Try.func57 Try.call57 (by kernel_rfl) b3w setup_allowed_S 5000 rfl (by kernel_rfl) (by kernel_rfl) rfl
def a7Q:PT :=
 (.need (.is 0 0)
 (.jump 0 [(.slen 0),(.l 0)] [] [(.va 1),(.va 0)]))
def a3e:PT :=
 (.ite (.lt (.a 1) (.a 0))
 (.need (treeI (.a 1) (.slen 1))
 (.load false (.ea 1 (.a 1) 4 0) [.val,(D L),(D L),(D L)]
 (.need (.is 3 2)
 (.need (.is 3 0)
 (.ite (.seq 2 0)
  (.ret false (.tup [(I L (A 1)),(.bool (.t true))]) [])
  (.need (treeB (.add (.a 1) (.l 1)))
  (.jump 0 [(.a 0),(.add (.a 1) (.l 1))] [] [(.va 0),(.va 1)])))))))
 (.ret false (.tup [(I L (E 0)),(.bool (.t false))]) []))
def roster_Find_S:Sx.Sys:=⟨[(.sh (.one .val)),(.sh (.one .val))],a7Q,[a3e],none,none⟩
def b4U:List Cfg:=[{ todo:=[(.code [false,false,true,false,true]),(.inLoop [false,false,true,false,true]),(.inBlock 0),(.code [true,true])],sl:=[(.junk 0),(.va 0),.undef,.undef]++jkR 1 4++[(.va 1),(I L (A 0)),(I L (A 1))]++jkR 5 8++[.undef,(.junk 13)],H:=[],ni:=2,nb:=0,nv:=2,nj:=14 }]
theorem b7g:SysOk Try.prog 65 roster_Find_S:=a0N (c:=(cg [[false,false,true,false,true]] [] [] false false false true)) (a0J _ _ _ _ _ _ _ _ _) Try.func65 Try.call65 (by kernel_rfl) b4U roster_Find_S 5000 rfl (by kernel_rfl) (by kernel_rfl) rfl
def a8c:PT :=
 (.call 83 [(.int .i32 (.a 0))] [] [(.one .bool)]
 (.ite (.a 0)
 (.ret false (.bool (.t true)) [])
 (.call 96 [(.int .i32 (.a 0))] [] [(.one .bool)]
 (.ite (.a 1)
  (.ret false (.bool (.t true)) [])
  (.ret false (.bool (.eq (.a 0) (.l 95))) [])))))
def lexer_inner_S:Sx.Sys:=⟨[(.sh (.one (.int .i32)))],a8c,[],none,none⟩
def b5b:List Cfg:=[]
theorem b7b:SysOk Try.prog 85 lexer_inner_S:=a0N (c:=(cg [] [] [] false false false true)) (a0J _ _ _ _ _ _ _ _ _) Try.func85 Try.call85 (by kernel_rfl) b5b lexer_inner_S 5000 rfl (by kernel_rfl) (by kernel_rfl) rfl
end Go.Proofs.Ytflcopaopimlpaa
