/- The trees of this seat's functions, part 3. Written by txgen.py. -/
import Derived.Test.YtggjcdnailppoaaHTab
set_option linter.unusedSimpArgs false
set_option linter.unusedVariables false
open Go.Sx.SV renaming int → I
open Go.IntKind renaming i64 → L
open Go.Sx.IE renaming a → A, l → E
open Go.Sx.Kd renaming int → D
set_option maxRecDepth 100000
namespace Go.Proofs.Ytggjcdnailppoaa
open Go.Sx
def a3b:PT :=
 (.jump 0 [(.l 0),(.l 0),(.a 0),(.a 1),(.a 2),(.a 3),(.a 4),(.a 5)] [] [(.va 0),(.va 1)])
def a1J:PT :=
 (.need (.is 0 0)
 (.ite (.lt (.a 1) (.slen 0))
 (.need (treeI (.a 1) (.slen 0))
 (.load true (.ea 0 (.a 1) 12 6) [(D L),(D L),(D L),(D L),(D L),(D L)]
 (.ite (.and (.eq (.a 8) (.a 2)) (.and (.eq (.a 9) (.a 3)) (.and (.eq (.a 10) (.a 4)) (.and (.eq (.a 11) (.a 5)) (.and (.eq (.a 12) (.a 6)) (.eq (.a 13) (.a 7)))))))
  (.need (treeI (.a 1) (.slen 0))
  (.load true (.ea 0 (.a 1) 12 0) [(D L),(D L),(D L),(D L),(D L),(D L),(D L),(D L),(D L),(D L),(D L),(D L)]
  (.call 23 [(.agg [(I L (A 14)),(I L (A 15)),(I L (A 16)),(I L (A 17)),(I L (A 18)),(I L (A 19)),(I L (A 20)),(I L (A 21)),(I L (A 22)),(I L (A 23)),(I L (A 24)),(I L (A 25))]),(.agg [(I L (A 2)),(I L (A 3)),(I L (A 4)),(I L (A 5)),(I L (A 6)),(I L (A 7))])] [] [(.one (D L))]
  (.need (treeB (.add (.a 1) (.l 1)))
  (.jump 0 [(.mx (.a 0) (.a 26)),(.add (.a 1) (.l 1)),(.a 2),(.a 3),(.a 4),(.a 5),(.a 6),(.a 7)] [] [(.va 0),(.va 1)])))))
  (.need (treeB (.add (.a 1) (.l 1)))
  (.jump 0 [(.a 0),(.add (.a 1) (.l 1)),(.a 2),(.a 3),(.a 4),(.a 5),(.a 6),(.a 7)] [] [(.va 0),(.va 1)])))))
 (.jump 1 [(.a 0),(.l 0),(.a 2),(.a 3),(.a 4),(.a 5),(.a 6),(.a 7)] [] [(.va 1)])))
def a1L:PT :=
 (.need (.is 0 0)
 (.ite (.lt (.a 1) (.slen 0))
 (.need (treeI (.a 1) (.slen 0))
 (.load true (.ea 0 (.a 1) 8 0) [(D L),(D L),(D L),(D L),(D L),(D L),(D L),(D L)]
 (.call 16 [(.agg [(I L (A 8)),(I L (A 9)),(I L (A 10)),(I L (A 11)),(I L (A 12)),(I L (A 13)),(I L (A 14)),(I L (A 15))])] [] [(.one .bool)]
 (.ite (.a 0)
  (.need (treeI (.a 1) (.slen 0))
  (.load true (.ea 0 (.a 1) 8 1) [(D L),(D L),(D L),(D L),(D L),(D L)]
  (.ite (.and (.eq (.a 16) (.a 2)) (.and (.eq (.a 17) (.a 3)) (.and (.eq (.a 18) (.a 4)) (.and (.eq (.a 19) (.a 5)) (.and (.eq (.a 20) (.a 6)) (.eq (.a 21) (.a 7)))))))
  (.need (treeI (.a 1) (.slen 0))
  (.load false (.ea 0 (.a 1) 8 7) [(D L)]
  (.need (treeB (.add (.a 1) (.l 1)))
  (.jump 1 [(.mx (.a 0) (.a 22)),(.add (.a 1) (.l 1)),(.a 2),(.a 3),(.a 4),(.a 5),(.a 6),(.a 7)] [] [(.va 0)]))))
  (.need (treeB (.add (.a 1) (.l 1)))
  (.jump 1 [(.a 0),(.add (.a 1) (.l 1)),(.a 2),(.a 3),(.a 4),(.a 5),(.a 6),(.a 7)] [] [(.va 0)])))))
  (.need (treeB (.add (.a 1) (.l 1)))
  (.jump 1 [(.a 0),(.add (.a 1) (.l 1)),(.a 2),(.a 3),(.a 4),(.a 5),(.a 6),(.a 7)] [] [(.va 0)]))))))
 (.ret false (I L (A 0)) [])))
def saleroomref40_Final_S:Sx.Sys:=⟨[(.sh (.one .val)),(.sh (.one .val)),(.sh (.agg [(D L),(D L),(D L),(D L),(D L),(D L)]))],a3b,[a1J,a1L],none,none⟩
def a6R:List Cfg:=[{ todo:=[(.code [false,false,true,false,true,true]),(.inLoop [false,false,true,false,true,true]),(.inBlock 0),(.code [true,true,true])],sl:=[(.va 0),(.va 1),(.junk 0),.undef,.undef,(.ptr 0 0),(.junk 1),(I L (A 0)),(I L (A 1)),.undef]++jkR 2 21++udR 28,H:=[(.cells [(I L (A 2)),(I L (A 3)),(I L (A 4)),(I L (A 5)),(I L (A 6)),(I L (A 7))] 29 false)],ni:=8,nb:=0,nv:=2,nj:=23 },
 { todo:=[(.code [false,false,true,false,true,true,true]),(.inLoop [false,false,true,false,true,true,true]),(.inBlock 2),(.code [true,true,true,true])],sl:=[(.junk 0),(.va 0),(.junk 1),.undef,.undef,(.ptr 0 0),(.junk 2),(I L (A 0)),(.junk 3),(I L (A 1))]++jkR 4 48++[.undef],H:=[(.cells [(I L (A 2)),(I L (A 3)),(I L (A 4)),(I L (A 5)),(I L (A 6)),(I L (A 7))] 29 false)],ni:=8,nb:=0,nv:=1,nj:=52 }]
theorem a7N:SysOk Try.prog 22 saleroomref40_Final_S:=a0V (c:=(cg [[false,false,true,false,true,true],[false,false,true,false,true,true,true]] [] [] false false false true)) (a0L _ _ _ _ _ _ _ _ _) Try.func22 Try.call22 (by kernel_rfl) a6R saleroomref40_Final_S 5000 rfl (by kernel_rfl) (by kernel_rfl) rfl
def a8U:PT :=
 (.call 32 [(.agg [(I L (A 1)),(I L (A 2)),(I L (A 3)),(I L (A 4)),(I L (A 5)),(I L (A 6))]),(.agg [(I L (A 9)),(I L (A 10)),(I L (A 11)),(I L (A 12)),(I L (A 13)),(I L (A 14))])] [] [(.one (D L))]
 (.ret false (I L (A 16)) []))
def relcap_Clockbids_2_S:Sx.Sys:=⟨[(.sh (.agg [(D L),(D L),(D L),(D L),(D L),(D L),(D L),(D L)])),(.sh (.agg [(D L),(D L),(D L),(D L),(D L),(D L),(D L),(D L)]))],a8U,[],none,none⟩
def a7c:List Cfg:=[]
theorem a8m:SysOk Try.prog 31 relcap_Clockbids_2_S:=a0V (c:=(cg [] [] [] false false false true)) (a0L _ _ _ _ _ _ _ _ _) Try.func31 Try.call31 (by kernel_rfl) a7c relcap_Clockbids_2_S 5000 rfl (by kernel_rfl) (by kernel_rfl) rfl
def a2s:PT :=
 (.call 17 [(.agg [(I L (A 6)),(I L (A 7)),(I L (A 8)),(I L (A 9)),(I L (A 10)),(I L (A 11))])] [] [(.one (D L))]
 (.ite (.eq (.a 12) (.l 0))
 (.call 51 [(.agg [(I L (A 0)),(I L (A 1)),(I L (A 2)),(I L (A 3)),(I L (A 4)),(I L (A 5))])] [] [(.one .bool)]
 (.ret false (.bool (.a 0)) []))
 (.ret false (.bool (.t false)) [])))
def saleroomref36_Valid_S:Sx.Sys:=⟨[(.sh (.agg [(D L),(D L),(D L),(D L),(D L),(D L),(D L),(D L),(D L),(D L),(D L),(D L)]))],a2s,[],none,none⟩
def a6C:List Cfg:=[]
theorem a7I:SysOk Try.prog 40 saleroomref36_Valid_S:=a0V (c:=(cg [] [] [] false false false true)) (a0L _ _ _ _ _ _ _ _ _) Try.func40 Try.call40 (by kernel_rfl) a6C saleroomref36_Valid_S 5000 rfl (by kernel_rfl) (by kernel_rfl) rfl
end Go.Proofs.Ytggjcdnailppoaa
set_option maxRecDepth 100000
namespace Go.Proofs.Ytggjcdnailppoaa
open Go.Sx
def a5B:PT :=
 (.call 26 [(.va 0)] [] [(.one .bool)]
 (.ite (.not (.a 0))
 (.ret false (.tup [(I L (E 0)),(I L (E 4))]) [])
 (.need (.is 0 1)
 (.jump 0 [(.slen 1),(.l 0)] [] [(.va 0),(.va 1)]))))
def a2O:PT :=
 (.ite (.lt (.a 1) (.a 0))
 (.need (treeI (.a 1) (.slen 1))
 (.load false (.ea 1 (.a 1) 8 0) [(D L),(D L),(D L),(D L),(D L),(D L),(D L),(D L)]
 (.call 35 [(.agg [(I L (A 2)),(I L (A 3)),(I L (A 4)),(I L (A 5)),(I L (A 6)),(I L (A 7)),(I L (A 8)),(I L (A 9))])] [] [(.one .bool)]
 (.ite (.not (.a 0))
  (.ret false (.tup [(I L (A 1)),(I L (E 4))]) [])
  (.need (treeB (.add (.a 1) (.l 1)))
  (.jump 0 [(.a 0),(.add (.a 1) (.l 1))] [] [(.va 0),(.va 1)]))))))
 (.call 37 [(.va 0),(.va 1)] [] [(.one .val)]
 (.need (.is 0 1)
 (.jump 1 [(.slen 1),(.l 0)] [] [(.va 0),(.va 2),(.va 1)]))))
def a2N:PT :=
 (.ite (.lt (.a 1) (.a 0))
 (.need (treeI (.a 1) (.slen 2))
 (.load false (.ea 2 (.a 1) 8 0) [(D L),(D L),(D L),(D L),(D L),(D L),(D L),(D L)]
 (.call 36 [(.va 0),(.va 1),(.agg [(I L (A 3)),(I L (A 4)),(I L (A 5)),(I L (A 6)),(I L (A 7)),(I L (A 8))])] [] [(.one (D L))]
 (.ite (.lt (.a 10) (.a 9))
  (.ret false (.tup [(I L (A 1)),(I L (E 16))]) [])
  (.need (treeB (.add (.a 1) (.l 1)))
  (.jump 1 [(.a 0),(.add (.a 1) (.l 1))] [] [(.va 0),(.va 1),(.va 2)]))))))
 (.ret false (.tup [(I L (E 0)),(I L (E 0))]) []))
def relcap_Check_S:Sx.Sys:=⟨[(.sh (.one .val)),(.sh (.one .val))],a5B,[a2O,a2N],none,none⟩
def b0X:List Cfg:=[{ todo:=[(.code [false,false,true,false,true,true]),(.inLoop [false,false,true,false,true,true]),(.inBlock 0),(.code [true,true,true])],sl:=[(.va 0),(.va 1),.undef,.undef]++jkR 0 4++[.undef,.undef,.undef,(.junk 4),(.junk 5),(.junk 6),(.va 1),(I L (A 0)),(I L (A 1))]++jkR 7 7++[.undef,(.junk 14)]++udR 20,H:=[],ni:=2,nb:=0,nv:=2,nj:=15 },
 { todo:=[(.code [false,false,true,false,true,true,true,true]),(.inLoop [false,false,true,false,true,true,true,true]),(.inBlock 2),(.code [true,true,true,true,true])],sl:=[(.va 0),(.junk 0),.undef,.undef]++jkR 1 4++[(.va 1)]++jkR 5 15++[.undef]++jkR 20 4++[(.va 2),(I L (A 0)),(I L (A 1))]++jkR 24 12++[.undef,(.junk 36)],H:=[],ni:=2,nb:=0,nv:=3,nj:=37 }]
theorem b2m:SysOk Try.prog 15 relcap_Check_S:=a0V (c:=(cg [[false,false,true,false,true,true],[false,false,true,false,true,true,true,true]] [] [] false false false true)) (a0L _ _ _ _ _ _ _ _ _) Try.func15 Try.call15 (by kernel_rfl) b0X relcap_Check_S 5000 rfl (by kernel_rfl) (by kernel_rfl) rfl
def a3x:PT :=
 (.call 41 [(.agg [(I L (A 0)),(I L (A 1)),(I L (A 2)),(I L (A 3)),(I L (A 4)),(I L (A 5))]),(.agg [(I L (A 12)),(I L (A 13)),(I L (A 14)),(I L (A 15)),(I L (A 16)),(I L (A 17))])] [] [(.one (D L))]
 (.ret false (I L (A 18)) []))
def saleroomref36_Cost_S:Sx.Sys:=⟨[(.sh (.agg [(D L),(D L),(D L),(D L),(D L),(D L),(D L),(D L),(D L),(D L),(D L),(D L)])),(.sh (.agg [(D L),(D L),(D L),(D L),(D L),(D L)]))],a3x,[],none,none⟩
def a7g:List Cfg:=[]
theorem a8d:SysOk Try.prog 23 saleroomref36_Cost_S:=a0V (c:=(cg [] [] [] false false false true)) (a0L _ _ _ _ _ _ _ _ _) Try.func23 Try.call23 (by kernel_rfl) a7g saleroomref36_Cost_S 5000 rfl (by kernel_rfl) (by kernel_rfl) rfl
def b1I:PT :=
 (.ite (.lt (.a 0) (.a 6))
 (.ret false (I L (E (-1))) [])
 (.ite (.lt (.a 6) (.a 0))
  (.ret false (I L (E 1)) [])
  (.ite (.lt (.a 1) (.a 7))
  (.ret false (I L (E (-1))) [])
  (.ite (.lt (.a 7) (.a 1))
   (.ret false (I L (E 1)) [])
   (.ite (.lt (.a 2) (.a 8))
   (.ret false (I L (E (-1))) [])
   (.ite (.lt (.a 8) (.a 2))
    (.ret false (I L (E 1)) [])
    (.ite (.lt (.a 3) (.a 9))
    (.ret false (I L (E (-1))) [])
    (.ite (.lt (.a 9) (.a 3))
     (.ret false (I L (E 1)) [])
     (.ite (.lt (.a 4) (.a 10))
     (.ret false (I L (E (-1))) [])
     (.ite (.lt (.a 10) (.a 4))
      (.ret false (I L (E 1)) [])
      (.ite (.lt (.a 5) (.a 11))
      (.ret false (I L (E (-1))) [])
      (.ite (.lt (.a 11) (.a 5))
       (.ret false (I L (E 1)) [])
       (.ret false (I L (E 0)) [])))))))))))))
def bundle_Compare_S:Sx.Sys:=⟨[(.sh (.agg [(D L),(D L),(D L),(D L),(D L),(D L)])),(.sh (.agg [(D L),(D L),(D L),(D L),(D L),(D L)]))],b1I,[],none,none⟩
def a9E:List Cfg:=[]
theorem b0U:SysOk Try.prog 32 bundle_Compare_S:=a0V (c:=(cg [] [] [] false false false true)) (a0L _ _ _ _ _ _ _ _ _) Try.func32 Try.call32 (by kernel_rfl) a9E bundle_Compare_S 5000 rfl (by kernel_rfl) (by kernel_rfl) rfl
def a3q:PT :=
 (.need (treeB (.mul (.a 0) (.a 6)))
 (.need (treeB (.mul (.a 0) (.a 6)))
 (.need (treeB (.mul (.a 1) (.a 7)))
 (.need (treeB (.add (.mul (.a 0) (.a 6)) (.mul (.a 1) (.a 7))))
 (.need (treeB (.mul (.a 2) (.a 8)))
 (.need (treeB (.add (.add (.mul (.a 0) (.a 6)) (.mul (.a 1) (.a 7))) (.mul (.a 2) (.a 8))))
 (.need (treeB (.mul (.a 3) (.a 9)))
 (.need (treeB (.add (.add (.add (.mul (.a 0) (.a 6)) (.mul (.a 1) (.a 7))) (.mul (.a 2) (.a 8))) (.mul (.a 3) (.a 9))))
 (.need (treeB (.mul (.a 4) (.a 10)))
 (.need (treeB (.add (.add (.add (.add (.mul (.a 0) (.a 6)) (.mul (.a 1) (.a 7))) (.mul (.a 2) (.a 8))) (.mul (.a 3) (.a 9))) (.mul (.a 4) (.a 10))))
 (.need (treeB (.mul (.a 5) (.a 11)))
 (.need (treeB (.add (.add (.add (.add (.add (.mul (.a 0) (.a 6)) (.mul (.a 1) (.a 7))) (.mul (.a 2) (.a 8))) (.mul (.a 3) (.a 9))) (.mul (.a 4) (.a 10))) (.mul (.a 5) (.a 11))))
 (.ret false (.int .i64 (.add (.add (.add (.add (.add (.mul (.a 0) (.a 6)) (.mul (.a 1) (.a 7))) (.mul (.a 2) (.a 8))) (.mul (.a 3) (.a 9))) (.mul (.a 4) (.a 10))) (.mul (.a 5) (.a 11)))) [])))))))))))))
def saleroomref07_Cost_S:Sx.Sys:=⟨[(.sh (.agg [(D L),(D L),(D L),(D L),(D L),(D L)])),(.sh (.agg [(D L),(D L),(D L),(D L),(D L),(D L)]))],a3q,[],none,none⟩
def a7f:List Cfg:=[]
theorem a8n:SysOk Try.prog 41 saleroomref07_Cost_S:=a0V (c:=(cg [] [] [] false false false true)) (a0L _ _ _ _ _ _ _ _ _) Try.func41 Try.call41 (by kernel_rfl) a7f saleroomref07_Cost_S 5000 rfl (by kernel_rfl) (by kernel_rfl) rfl
end Go.Proofs.Ytggjcdnailppoaa
set_option maxRecDepth 100000
namespace Go.Proofs.Ytggjcdnailppoaa
open Go.Sx
def a2X:PT :=
 (.call 17 [(.agg [(I L (A 1)),(I L (A 2)),(I L (A 3)),(I L (A 4)),(I L (A 5)),(I L (A 6))])] [] [(.one (D L))]
 (.ite (.eq (.a 8) (.l 0))
 (.ite (.not (.and (.eq (.a 1) (.l 0)) (.and (.eq (.a 2) (.l 0)) (.and (.eq (.a 3) (.l 0)) (.and (.eq (.a 4) (.l 0)) (.and (.eq (.a 5) (.l 0)) (.eq (.a 6) (.l 0))))))))
  (.ite (.le (.l 1) (.a 7))
  (.ret false (.bool (.le (.a 7) (.l 1000000))) [])
  (.ret false (.bool (.t false)) []))
  (.ret false (.bool (.t false)) []))
 (.ret false (.bool (.t false)) [])))
def saleroomref40_Right_S:Sx.Sys:=⟨[(.sh (.agg [(D L),(D L),(D L),(D L),(D L),(D L),(D L),(D L)]))],a2X,[],none,none⟩
def a6Y:List Cfg:=[]
theorem a7K:SysOk Try.prog 16 saleroomref40_Right_S:=a0V (c:=(cg [] [] [] false false false true)) (a0L _ _ _ _ _ _ _ _ _) Try.func16 Try.call16 (by kernel_rfl) a6Y saleroomref40_Right_S 5000 rfl (by kernel_rfl) (by kernel_rfl) rfl
def c2L:PT :=
 (.ite (.lt (.a 0) (.a 6))
 (.ret false (I L (E (-1))) [])
 (.ite (.lt (.a 6) (.a 0))
  (.ret false (I L (E 1)) [])
  (.ite (.lt (.a 1) (.a 7))
  (.ret false (I L (E (-1))) [])
  (.ite (.lt (.a 7) (.a 1))
   (.ret false (I L (E 1)) [])
   (.ite (.lt (.a 2) (.a 8))
   (.ret false (I L (E (-1))) [])
   (.ite (.lt (.a 8) (.a 2))
    (.ret false (I L (E 1)) [])
    (.ite (.lt (.a 3) (.a 9))
    (.ret false (I L (E (-1))) [])
    (.ite (.lt (.a 9) (.a 3))
     (.ret false (I L (E 1)) [])
     (.ite (.lt (.a 4) (.a 10))
     (.ret false (I L (E (-1))) [])
     (.ite (.lt (.a 10) (.a 4))
      (.ret false (I L (E 1)) [])
      (.ite (.lt (.a 5) (.a 11))
      (.ret false (I L (E (-1))) [])
      (.ite (.lt (.a 11) (.a 5))
       (.ret false (I L (E 1)) [])
       (.ret false (I L (E 0)) [])))))))))))))
def saleroomref07_Compare_S:Sx.Sys:=⟨[(.sh (.agg [(D L),(D L),(D L),(D L),(D L),(D L)])),(.sh (.agg [(D L),(D L),(D L),(D L),(D L),(D L)]))],c2L,[],none,none⟩
def c3b:List Cfg:=[]
theorem c3f:SysOk Try.prog 33 saleroomref07_Compare_S:=a0V (c:=(cg [] [] [] false false false true)) (a0L _ _ _ _ _ _ _ _ _) Try.func33 Try.call33 (by kernel_rfl) c3b saleroomref07_Compare_S 5000 rfl (by kernel_rfl) (by kernel_rfl) rfl
def a3P:PT :=
 (.need (.is 0 0)
 (.jump 0 [(.slen 0),(.l 0)] [] [(.va 0)]))
def a3j:PT :=
 (.ite (.lt (.a 1) (.a 0))
 (.need (treeI (.a 1) (.slen 0))
 (.load false (.ea 0 (.a 1) 12 0) [(D L),(D L),(D L),(D L),(D L),(D L),(D L),(D L),(D L),(D L),(D L),(D L)]
 (.call 52 [(.agg [(I L (A 2)),(I L (A 3)),(I L (A 4)),(I L (A 5)),(I L (A 6)),(I L (A 7)),(I L (A 8)),(I L (A 9)),(I L (A 10)),(I L (A 11)),(I L (A 12)),(I L (A 13))])] [] [(.one .bool)]
 (.ite (.not (.a 0))
  (.ret false (.bool (.t false)) [])
  (.need (treeB (.add (.a 1) (.l 1)))
  (.jump 0 [(.a 0),(.add (.a 1) (.l 1))] [] [(.va 0)]))))))
 (.ret false (.bool (.t true)) []))
def revealed_allValid_S:Sx.Sys:=⟨[(.sh (.one .val))],a3P,[a3j],none,none⟩
def a7R:List Cfg:=[{ todo:=[(.code [false,false,true,false,true]),(.inLoop [false,false,true,false,true]),(.inBlock 0),(.code [true,true])],sl:=[(.junk 0),.undef,(.junk 1),.undef,(.junk 2),(.va 0),(I L (A 0)),(I L (A 1))]++jkR 3 7,H:=[],ni:=2,nb:=0,nv:=1,nj:=10 }]
theorem a8R:SysOk Try.prog 42 revealed_allValid_S:=a0V (c:=(cg [[false,false,true,false,true]] [] [] false false false true)) (a0L _ _ _ _ _ _ _ _ _) Try.func42 Try.call42 (by kernel_rfl) a7R revealed_allValid_S 5000 rfl (by kernel_rfl) (by kernel_rfl) rfl
def a4B:PT :=
 (.load false (.pa 0 0) [.val]
 (.need (.is 0 2)
 (.jump 0 [(.l 0),(.slen 2),(.l 0),(.a 0),(.a 1),(.a 2),(.a 3),(.a 4),(.a 5)] [] [(.va 1),(.va 2)])))
def a2m:PT :=
 (.ite (.lt (.a 2) (.a 1))
 (.need (treeI (.a 2) (.slen 1))
 (.load false (.ea 1 (.a 2) 12 0) [(D L),(D L),(D L),(D L),(D L),(D L),(D L),(D L),(D L),(D L),(D L),(D L)]
 (.ite (.and (.eq (.a 15) (.a 3)) (.and (.eq (.a 16) (.a 4)) (.and (.eq (.a 17) (.a 5)) (.and (.eq (.a 18) (.a 6)) (.and (.eq (.a 19) (.a 7)) (.eq (.a 20) (.a 8)))))))
  (.call 27 [(.agg [(I L (A 9)),(I L (A 10)),(I L (A 11)),(I L (A 12)),(I L (A 13)),(I L (A 14))]),(.agg [(I L (A 3)),(I L (A 4)),(I L (A 5)),(I L (A 6)),(I L (A 7)),(I L (A 8))])] [] [(.one (D L))]
  (.need (treeB (.add (.a 2) (.l 1)))
  (.jump 0 [(.mx (.a 0) (.a 21)),(.a 1),(.add (.a 2) (.l 1)),(.a 3),(.a 4),(.a 5),(.a 6),(.a 7),(.a 8)] [] [(.va 0),(.va 1)])))
  (.need (treeB (.add (.a 2) (.l 1)))
  (.jump 0 [(.a 0),(.a 1),(.add (.a 2) (.l 1)),(.a 3),(.a 4),(.a 5),(.a 6),(.a 7),(.a 8)] [] [(.va 0),(.va 1)])))))
 (.load false (.pa 0 0) [.val]
 (.need (.is 0 2)
 (.jump 1 [(.a 0),(.slen 2),(.l 0),(.a 3),(.a 4),(.a 5),(.a 6),(.a 7),(.a 8)] [] [(.va 2)]))))
def a2l:PT :=
 (.ite (.lt (.a 2) (.a 1))
 (.need (treeI (.a 2) (.slen 0))
 (.load false (.ea 0 (.a 2) 8 0) [(D L),(D L),(D L),(D L),(D L),(D L),(D L),(D L)]
 (.ite (.and (.eq (.a 10) (.a 3)) (.and (.eq (.a 11) (.a 4)) (.and (.eq (.a 12) (.a 5)) (.and (.eq (.a 13) (.a 6)) (.and (.eq (.a 14) (.a 7)) (.eq (.a 15) (.a 8)))))))
  (.need (treeB (.add (.a 2) (.l 1)))
  (.jump 1 [(.mx (.a 0) (.a 16)),(.a 1),(.add (.a 2) (.l 1)),(.a 3),(.a 4),(.a 5),(.a 6),(.a 7),(.a 8)] [] [(.va 0)]))
  (.need (treeB (.add (.a 2) (.l 1)))
  (.jump 1 [(.a 0),(.a 1),(.add (.a 2) (.l 1)),(.a 3),(.a 4),(.a 5),(.a 6),(.a 7),(.a 8)] [] [(.va 0)])))))
 (.ret true (I L (A 0)) []))
def relcap_finals_1_S:Sx.Sys:=⟨[(.sh (.agg [(D L),(D L),(D L),(D L),(D L),(D L)])),.ptr,.ptr],a4B,[a2m,a2l],none,none⟩
def a9j:List Cfg:=[{ todo:=[(.code [false,false,true,false,true,true]),(.inLoop [false,false,true,false,true,true]),(.inBlock 0),(.code [true,true,true])],sl:=[(.junk 0),(.junk 1),(.pa 0 0),(.ptr 0 0),(.junk 2),(I L (A 0)),.undef,(.junk 3),.undef,.undef,(.va 1),(I L (A 1)),(I L (A 2))]++jkR 4 14++udR 16,H:=[(.cells [(I L (A 3)),(I L (A 4)),(I L (A 5)),(I L (A 6)),(I L (A 7)),(I L (A 8))] 29 false)],ni:=9,nb:=0,nv:=2,nj:=18 },
 { todo:=[(.code [false,false,true,false,true,true,true]),(.inLoop [false,false,true,false,true,true,true]),(.inBlock 2),(.code [true,true,true,true])],sl:=[(.junk 0),(.junk 1),(.junk 2),(.ptr 0 0),(.junk 3),(I L (A 0)),.undef,(.junk 4),.undef]++jkR 5 18++[(.va 0),(I L (A 1)),(I L (A 2))]++jkR 23 12++[.undef],H:=[(.cells [(I L (A 3)),(I L (A 4)),(I L (A 5)),(I L (A 6)),(I L (A 7)),(I L (A 8))] 29 false)],ni:=9,nb:=0,nv:=1,nj:=35 }]
theorem b0e:SysOk Try.prog 50 relcap_finals_1_S:=a0V (c:=(cg [[false,false,true,false,true,true],[false,false,true,false,true,true,true]] [] [] true true false true)) (a0L _ _ _ _ _ _ _ _ _) Try.func50 Try.call50 (by kernel_rfl) a9j relcap_finals_1_S 5000 rfl (by kernel_rfl) (by kernel_rfl) rfl
end Go.Proofs.Ytggjcdnailppoaa
