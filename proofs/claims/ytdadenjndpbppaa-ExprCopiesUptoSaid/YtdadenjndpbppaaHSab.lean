/- The trees of this seat's functions, part 3. Written by txgen.py. -/
import Derived.Test.YtdadenjndpbppaaHTab
set_option linter.unusedSimpArgs false
set_option linter.unusedVariables false
open Go.Sx.SV renaming int → I
open Go.IntKind renaming i64 → L
open Go.Sx.IE renaming a → A, l → E
open Go.Sx.Kd renaming int → D
set_option maxRecDepth 100000
namespace Go.Proofs.Ytdadenjndpbppaa
open Go.Sx
def b2A:PT :=
 (.newM [(I L (E 0))] 3
 (.storeM (.pa 1 0) [(I L (E 0))]
 (.call 33 [(.agg [(.fn 41 0 [(.pa 1 0)])]),(.agg [(I L (A 0)),(I L (A 1)),(I L (A 2)),(I L (A 3)),(I L (A 4)),(I L (A 5)),(I L (A 6)),(I L (A 7)),(.va 0)])] [] [(.one .bool)]
 (.load false (.pa 1 0) [(D L)]
 (.ret false (I L (A 8)) [])))))
def expr_Size_S:Sx.Sys:=⟨[(.sh (.agg [(D L),(D L),(D L),(D L),(D L),(D L),(D L),(D L),.val]))],b2A,[],none,none⟩
def a9N:List Cfg:=[]
theorem b2b:SysOk Try.prog 14 expr_Size_S:=a1f (c:=(cg [] [3] [] true false false true)) (a0W _ _ _ _ _ _ _ _ _) Try.func14 Try.call14 (by kernel_rfl) a9N expr_Size_S 5000 rfl (by kernel_rfl) (by kernel_rfl) rfl
def a5n:PT :=
 (.newM [.nilS] 24
 (.call 33 [(.agg [(.fn 44 0 [(.pa 1 0)])]),(.agg [(I L (A 0)),(I L (A 1)),(I L (A 2)),(I L (A 3)),(I L (A 4)),(I L (A 5)),(I L (A 6)),(I L (A 7)),(.va 0)])] [] [(.one .bool)]
 (.load false (.pa 1 0) [.val]
 (.ret true (.va 2) []))))
def expr_Atoms_S:Sx.Sys:=⟨[(.sh (.agg [(D L),(D L),(D L),(D L),(D L),(D L),(D L),(D L),.val]))],a5n,[],none,none⟩
def a9u:List Cfg:=[]
theorem b0Q:SysOk Try.prog 22 expr_Atoms_S:=a1f (c:=(cg [] [3] [] true true false true)) (a0W _ _ _ _ _ _ _ _ _) Try.func22 Try.call22 (by kernel_rfl) a9u expr_Atoms_S 5000 rfl (by kernel_rfl) (by kernel_rfl) rfl
def b0d:PT :=
 (.ite (.lt (.a 0) (.l 0))
 (.ret false (I L (E 4)) [])
 (.ite (.lt (.l 4) (.a 0))
  (.ret false (I L (E 4)) [])
  (.ite (.lt (.a 1) (.l 0))
  (.ret false (I L (E 4)) [])
  (.ite (.lt (.l 4) (.a 1))
   (.ret false (I L (E 4)) [])
   (.ite (.lt (.a 2) (.l 0))
   (.ret false (I L (E 4)) [])
   (.ite (.lt (.l 4) (.a 2))
    (.ret false (I L (E 4)) [])
    (.ite (.lt (.a 3) (.l 0))
    (.ret false (I L (E 4)) [])
    (.ite (.lt (.l 4) (.a 3))
     (.ret false (I L (E 4)) [])
     (.ite (.lt (.a 4) (.l 0))
     (.ret false (I L (E 4)) [])
     (.ite (.lt (.l 4) (.a 4))
      (.ret false (I L (E 4)) [])
      (.ite (.lt (.a 5) (.l 0))
      (.ret false (I L (E 4)) [])
      (.ite (.lt (.l 4) (.a 5))
       (.ret false (I L (E 4)) [])
       (.ret false (I L (E 0)) [])))))))))))))
def bundle_Check_S:Sx.Sys:=⟨[(.sh (.agg [(D L),(D L),(D L),(D L),(D L),(D L)]))],b0d,[],none,none⟩
def a8f:List Cfg:=[]
theorem a9a:SysOk Try.prog 46 bundle_Check_S:=a1f (c:=(cg [] [] [] false false false true)) (a0W _ _ _ _ _ _ _ _ _) Try.func46 Try.call46 (by kernel_rfl) a8f bundle_Check_S 5000 rfl (by kernel_rfl) (by kernel_rfl) rfl
end Go.Proofs.Ytdadenjndpbppaa
set_option maxRecDepth 100000
namespace Go.Proofs.Ytdadenjndpbppaa
open Go.Sx
def a3b:PT :=
 (.call 22 [(.agg [(I L (A 0)),(I L (A 1)),(I L (A 2)),(I L (A 3)),(I L (A 4)),(I L (A 5)),(I L (A 6)),(I L (A 7)),(.va 0)])] [] [(.one .val)]
   (.newM [(I L (E 0)),(I L (E 0)),(I L (E 0)),(I L (E 0)),(I L (E 0)),(I L (E 0)),(I L (E 0)),(I L (E 0)),.nilS] 26
   (.storeM (.pa 4 0) [(I L (A 16)),(I L (A 17)),(I L (A 18)),(I L (A 19)),(I L (A 20)),(I L (A 21)),(I L (A 22)),(I L (A 23)),(.va 2)]
   (.call 26 [(.pa 4 0)] [] []
   (.need (.is 0 3)
   (.jump 0 [(.slen 3),(.l 0),(.a 0),(.a 1),(.a 2),(.a 3),(.a 4),(.a 5),(.a 6),(.a 7),(.a 8),(.a 9),(.a 10),(.a 11),(.a 12),(.a 13),(.a 14),(.a 15)] [] [(.va 3),(.va 0),(.va 1)]))))))
def a3a:PT :=
 (.newM [(I L (E 0)),(I L (E 0)),(I L (E 0)),(I L (E 0)),(I L (E 0)),(I L (E 0)),(I L (E 0)),(I L (E 0)),.nilS] 26
   (.call 22 [(.agg [(I L (A 0)),(I L (A 1)),(I L (A 2)),(I L (A 3)),(I L (A 4)),(I L (A 5)),(I L (A 6)),(I L (A 7)),(.va 0)])] [] [(.one .val)]
   (.storeM (.pa 3 0) [(I L (A 16)),(I L (A 17)),(I L (A 18)),(I L (A 19)),(I L (A 20)),(I L (A 21)),(I L (A 22)),(I L (A 23)),(.va 2)]
   (.call 26 [(.pa 3 0)] [] []
   (.need (.is 0 4)
   (.jump 0 [(.slen 4),(.l 0),(.a 0),(.a 1),(.a 2),(.a 3),(.a 4),(.a 5),(.a 6),(.a 7),(.a 8),(.a 9),(.a 10),(.a 11),(.a 12),(.a 13),(.a 14),(.a 15)] [] [(.va 4),(.va 0),(.va 1)]))))))
def a3d:PT :=
 (.call 25 [(.agg [(I L (A 0)),(I L (A 1)),(I L (A 2)),(I L (A 3)),(I L (A 4)),(I L (A 5)),(I L (A 6)),(I L (A 7)),(.va 0)])] [] [(.agg [(D L),(D L),(D L),(D L),(D L),(D L),(D L),(D L),.val])]
  (.both a3b a3a))
def a3c:PT :=
 (.newM [(I L (E 0)),(I L (E 0)),(I L (E 0)),(I L (E 0)),(I L (E 0)),(I L (E 0)),(I L (E 0)),(I L (E 0)),.nilS] 26
  (.call 25 [(.agg [(I L (A 0)),(I L (A 1)),(I L (A 2)),(I L (A 3)),(I L (A 4)),(I L (A 5)),(I L (A 6)),(I L (A 7)),(.va 0)])] [] [(.agg [(D L),(D L),(D L),(D L),(D L),(D L),(D L),(D L),.val])]
  (.call 22 [(.agg [(I L (A 0)),(I L (A 1)),(I L (A 2)),(I L (A 3)),(I L (A 4)),(I L (A 5)),(I L (A 6)),(I L (A 7)),(.va 0)])] [] [(.one .val)]
  (.storeM (.pa 2 0) [(I L (A 16)),(I L (A 17)),(I L (A 18)),(I L (A 19)),(I L (A 20)),(I L (A 21)),(I L (A 22)),(I L (A 23)),(.va 3)]
  (.call 26 [(.pa 2 0)] [] []
  (.need (.is 0 4)
  (.jump 0 [(.slen 4),(.l 0),(.a 0),(.a 1),(.a 2),(.a 3),(.a 4),(.a 5),(.a 6),(.a 7),(.a 8),(.a 9),(.a 10),(.a 11),(.a 12),(.a 13),(.a 14),(.a 15)] [] [(.va 4),(.va 0),(.va 1)])))))))
def a2B:PT :=
 (.call 10 [(.agg [(I L (A 0)),(I L (A 1)),(I L (A 2)),(I L (A 3)),(I L (A 4)),(I L (A 5)),(I L (A 6)),(I L (A 7)),(.va 0)])] [] [(.one .bool)]
 (.ite (.not (.a 0))
 (.call 13 [] [] [(.one .bool)]
 (.ret false (.bool (.a 1)) []))
 (.call 25 [(.agg [(I L (A 0)),(I L (A 1)),(I L (A 2)),(I L (A 3)),(I L (A 4)),(I L (A 5)),(I L (A 6)),(I L (A 7)),(.va 0)])] [] [(.agg [(D L),(D L),(D L),(D L),(D L),(D L),(D L),(D L),.val])]
 (.call 21 [(.agg [(I L (A 8)),(I L (A 9)),(I L (A 10)),(I L (A 11)),(I L (A 12)),(I L (A 13)),(I L (A 14)),(I L (A 15)),(.va 1)]),(.agg [(I L (A 0)),(I L (A 1)),(I L (A 2)),(I L (A 3)),(I L (A 4)),(I L (A 5)),(I L (A 6)),(I L (A 7)),(.va 0)])] [] [(.one .bool)]
 (.ite (.not (.a 1))
  (.ret false (.bool (.t false)) [])
  (.both a3d a3c))))))
def a1M:PT :=
 (.ite (.lt (.a 1) (.a 0))
 (.need (treeI (.a 1) (.slen 0))
 (.call 26 [(.ea 0 (.a 1) 9 0)] [] []
 (.need (treeB (.add (.a 1) (.l 1)))
 (.jump 0 [(.a 0),(.add (.a 1) (.l 1)),(.a 2),(.a 3),(.a 4),(.a 5),(.a 6),(.a 7),(.a 8),(.a 9),(.a 10),(.a 11),(.a 12),(.a 13),(.a 14),(.a 15),(.a 16),(.a 17)] [] [(.va 0),(.va 1),(.va 2)]))))
 (.call 21 [(.agg [(I L (A 2)),(I L (A 3)),(I L (A 4)),(I L (A 5)),(I L (A 6)),(I L (A 7)),(I L (A 8)),(I L (A 9)),(.va 1)]),(.agg [(I L (A 10)),(I L (A 11)),(I L (A 12)),(I L (A 13)),(I L (A 14)),(I L (A 15)),(I L (A 16)),(I L (A 17)),(.va 2)])] [] [(.one .bool)]
 (.ite (.a 0)
  (.call 13 [] [] [(.one .bool)]
  (.ret false (.bool (.a 1)) []))
  (.ret false (.bool (.t false)) []))))
def saleroomlaw11_ExprCopies_S:Sx.Sys:=⟨[(.sh (.agg [(D L),(D L),(D L),(D L),(D L),(D L),(D L),(D L),.val]))],a2B,[a1M],none,none⟩
def a2Z:List Cfg:=[{ todo:=[(.code [false,false,true,false,true,true,true,true,true,true]),(.inLoop [false,false,true,false,true,true,true,true,true,true]),(.inBlock 0),(.code [true,true,true,true,true,true,true])],sl:=[(.junk 0),(.ptr 0 0),(.junk 1),(.ptr 1 0),(.junk 2),(.va 0)]++jkR 3 4++[.undef]++jkR 7 12++[(I L (A 0)),(I L (A 1))]++jkR 19 7++udR 6,H:=[(.cells [(I L (A 2)),(I L (A 3)),(I L (A 4)),(I L (A 5)),(I L (A 6)),(I L (A 7)),(I L (A 8)),(I L (A 9)),(.va 1)] 26 false),(.cells [(I L (A 10)),(I L (A 11)),(I L (A 12)),(I L (A 13)),(I L (A 14)),(I L (A 15)),(I L (A 16)),(I L (A 17)),(.va 2)] 26 false)],ni:=18,nb:=0,nv:=3,nj:=26 }]
theorem a4H:SysOk Try.prog 7 saleroomlaw11_ExprCopies_S:=a1f (c:=(cg [[false,false,true,false,true,true,true,true,true,true]] [4] [] true false false true)) (a0W _ _ _ _ _ _ _ _ _) Try.func7 Try.call7 (by kernel_rfl) a2Z saleroomlaw11_ExprCopies_S 5000 rfl (by kernel_rfl) (by kernel_rfl) rfl
def a3k:PT :=
 (.call 37 [(.agg [(I L (A 0)),(I L (A 1)),(I L (A 2)),(I L (A 3)),(I L (A 4)),(I L (A 5)),(I L (A 6)),(I L (A 7)),(.va 0)])] [] [(.one .val)]
 (.need (.is 0 1)
 (.ret false (.int .i64 (.slen 1)) [])))
def saleroomref11_Size_S:Sx.Sys:=⟨[(.sh (.agg [(D L),(D L),(D L),(D L),(D L),(D L),(D L),(D L),.val]))],a3k,[],none,none⟩
def a5B:List Cfg:=[]
theorem a6l:SysOk Try.prog 15 saleroomref11_Size_S:=a1f (c:=(cg [] [] [] false false false true)) (a0W _ _ _ _ _ _ _ _ _) Try.func15 Try.call15 (by kernel_rfl) a5B saleroomref11_Size_S 5000 rfl (by kernel_rfl) (by kernel_rfl) rfl
def a9Z:PT :=
 (.need (treeB (.a 0))
 (.need (treeB (.add (.a 0) (.a 1)))
 (.need (treeB (.add (.add (.a 0) (.a 1)) (.a 2)))
 (.need (treeB (.add (.add (.add (.a 0) (.a 1)) (.a 2)) (.a 3)))
 (.need (treeB (.add (.add (.add (.add (.a 0) (.a 1)) (.a 2)) (.a 3)) (.a 4)))
 (.need (treeB (.add (.add (.add (.add (.add (.a 0) (.a 1)) (.a 2)) (.a 3)) (.a 4)) (.a 5)))
 (.ret false (.int .i64 (.add (.add (.add (.add (.add (.a 0) (.a 1)) (.a 2)) (.a 3)) (.a 4)) (.a 5))) [])))))))
def bundle_Total_S:Sx.Sys:=⟨[(.sh (.agg [(D L),(D L),(D L),(D L),(D L),(D L)]))],a9Z,[],none,none⟩
def a8a:List Cfg:=[]
theorem a9y:SysOk Try.prog 47 bundle_Total_S:=a1f (c:=(cg [] [] [] false false false true)) (a0W _ _ _ _ _ _ _ _ _) Try.func47 Try.call47 (by kernel_rfl) a8a bundle_Total_S 5000 rfl (by kernel_rfl) (by kernel_rfl) rfl
end Go.Proofs.Ytdadenjndpbppaa
set_option maxRecDepth 100000
namespace Go.Proofs.Ytdadenjndpbppaa
open Go.Sx
def b1B:PT :=
 (.need (.is 0 0)
 (.jump 0 [(.l 0),(.slen 0),(.l 0)] [] [(.va 0)]))
def b0M:PT :=
 (.ite (.lt (.a 2) (.a 1))
 (.need (treeI (.a 2) (.slen 0))
 (.load false (.ea 0 (.a 2) 9 0) [(D L),(D L),(D L),(D L),(D L),(D L),(D L),(D L),.val]
 (.call 16 [(.agg [(I L (A 3)),(I L (A 4)),(I L (A 5)),(I L (A 6)),(I L (A 7)),(I L (A 8)),(I L (A 9)),(I L (A 10)),(.va 1)])] [] [(.one (D L))]
 (.need (treeB (.add (.a 2) (.l 1)))
 (.jump 0 [(.mx (.a 0) (.a 11)),(.a 1),(.add (.a 2) (.l 1))] [] [(.va 0)])))))
 (.need (treeB (.add (.a 0) (.l 1)))
 (.ret false (.int .i64 (.add (.a 0) (.l 1))) [])))
def expr_Depth_S:Sx.Sys:=⟨[(.sh (.agg [(D L),(D L),(D L),(D L),(D L),(D L),(D L),(D L),.val]))],b1B,[b0M],none,none⟩
def a9j:List Cfg:=[{ todo:=[(.code [false,false,true,false,true,true]),(.inLoop [false,false,true,false,true,true]),(.inBlock 0),(.code [true,true,true])],sl:=[(.junk 0),(.junk 1),(.junk 2),(I L (A 0)),.undef,(.junk 3),(.junk 4),(.va 0),(I L (A 1)),(I L (A 2))]++jkR 5 8++[.undef,.undef],H:=[],ni:=3,nb:=0,nv:=1,nj:=13 }]
theorem b0V:SysOk Try.prog 16 expr_Depth_S:=a1f (c:=(cg [[false,false,true,false,true,true]] [] [] false false false true)) (a0W _ _ _ _ _ _ _ _ _) Try.func16 Try.call16 (by kernel_rfl) a9j expr_Depth_S 5000 rfl (by kernel_rfl) (by kernel_rfl) rfl
def b0e:PT :=
 (.need (.is 0 0)
 (.ret false (.bool (.le (.slen 0) (.l 8))) []))
def expr_Check_1_S:Sx.Sys:=⟨[(.sh (.agg [(D L),(D L),(D L),(D L),(D L),(D L),(D L),(D L),.val]))],b0e,[],none,none⟩
def a8e:List Cfg:=[]
theorem a9l:SysOk Try.prog 32 expr_Check_1_S:=a1f (c:=(cg [] [] [] false false false true)) (a0W _ _ _ _ _ _ _ _ _) Try.func32 Try.call32 (by kernel_rfl) a8e expr_Check_1_S 5000 rfl (by kernel_rfl) (by kernel_rfl) rfl
def a5A:PT :=
 (.ret false (.agg [(I L (A 0)),(I L (A 1)),(I L (A 2)),(I L (A 3)),(I L (A 4)),(I L (A 5)),(I L (A 6)),(.int .i64 (.wr .i64 (.mul (.a 7) (.l 2)))),(.va 0)]) [])
def saleroomlaw11_awake_1_S:Sx.Sys:=⟨[(.sh (.agg [(D L),(D L),(D L),(D L),(D L),(D L),(D L),(D L),.val]))],a5A,[],none,none⟩
def a4Q:List Cfg:=[]
theorem a5s:SysOk Try.prog 40 saleroomlaw11_awake_1_S:=a1f (c:=(cg [] [] [] false false false false)) (a0W _ _ _ _ _ _ _ _ _) Try.func40 Try.call40 (by kernel_rfl) a4Q saleroomlaw11_awake_1_S 5000 rfl (by kernel_rfl) (by kernel_rfl) rfl
end Go.Proofs.Ytdadenjndpbppaa
