/- The trees of this seat's functions, part 0. Written by txgen.py. -/
import Derived.Test.YtflcopaopimlpaaHTab
set_option linter.unusedSimpArgs false
set_option linter.unusedVariables false
open Go.Sx.SV renaming int → I
open Go.IntKind renaming i64 → L
open Go.Sx.IE renaming a → A, l → E
open Go.Sx.Kd renaming int → D
set_option maxRecDepth 100000
namespace Go.Proofs.Ytflcopaopimlpaa
open Go.Sx
def d2w:PT :=
 (.call 8 [(.va 4)] [] [(.one .bool)]
 (.ite (.not (.a 0))
 (.call 9 [] [] [(.one .bool)]
 (.ret false (.bool (.a 1)) []))
 (.need (.is 0 1)
 (.ite (.lt (.l 10) (.slen 1))
  (.call 9 [] [] [(.one .bool)]
  (.ret false (.bool (.a 1)) []))
  (.need (.is 0 0)
  (.ite (.lt (.l 8) (.slen 0))
  (.call 9 [] [] [(.one .bool)]
  (.ret false (.bool (.a 1)) []))
  (.call 10 [(.agg [(.va 0),(.va 1),(.va 2),(.va 3)])] [] [(.one .val),(.one (D L))]
  (.call 11 [(.agg [(.va 0),(.va 1),(.va 2),(.va 3)])] [] [(.one .val),(.one (D L))]
  (.ite (.not (.eq (.a 0) (.a 1)))
   (.ret false (.bool (.t false)) [])
   (.ite (.not (.eq (.a 0) (.l 0)))
   (.need (.is 4 5)
   (.ite (.nil 5)
    (.call 9 [] [] [(.one .bool)]
    (.ret false (.bool (.a 1)) []))
    (.ret false (.bool (.t false)) [])))
   (.need (.is 4 5)
   (.ite (.nil 5)
    (.ret false (.bool (.t false)) [])
    (.jump 0 [(.l 0)] [] [(.va 4),(.va 5),(.va 6),(.va 0),(.va 1),(.va 2),(.va 3)])))))))))))))
def d2y:PT :=
 (.need (.is 0 0)
 (.ite (.lt (.a 0) (.slen 0))
 (.need (treeI (.a 0) (.slen 0))
 (.load false (.ea 0 (.a 0) 10 0) [(D L),(D L),(D L),(D L),(D L),(D L),(D L),(D L),(D L),.val]
 (.call 12 [(.va 1),(.va 2),(.agg [(I L (A 1)),(I L (A 2)),(I L (A 3)),(I L (A 4)),(I L (A 5)),(I L (A 6)),(I L (A 7)),(I L (A 8)),(I L (A 9)),(.va 7)])] [] [(.one .bool)]
 (.ite (.not (.a 0))
  (.ret false (.bool (.t false)) [])
  (.call 13 [(.va 1),(.va 2),(.agg [(.va 3),(.va 4),(.va 5),(.va 6)])] [] [(.one .bool)]
  (.ite (.not (.a 1))
  (.ret false (.bool (.t false)) [])
  (.need (treeB (.add (.a 0) (.l 1)))
  (.jump 0 [(.add (.a 0) (.l 1))] [] [(.va 0),(.va 1),(.va 2),(.va 3),(.va 4),(.va 5),(.va 6)]))))))))
 (.call 9 [] [] [(.one .bool)]
 (.ret false (.bool (.a 0)) []))))
def saleroomlaw16_BidbookRaises_S:Sx.Sys:=⟨[(.sh (.agg [.val,.val,.val,.val])),(.sh (.one .val))],d2w,[d2y],none,none⟩
def d2F:List Cfg:=[{ todo:=[(.code [false,false,true,false,true,true,true,true,true,true,true]),(.inLoop [false,false,true,false,true,true,true,true,true,true,true]),(.inBlock 0),(.code [true,true,true,true,true,true,true,true])],sl:=[(.junk 0),(.va 0),(.ptr 0 0),.undef,(.junk 1),(.va 1),(.junk 2),(.va 2),(.junk 3),(I L (A 0))]++jkR 4 15++[.undef]++jkR 19 15++udR 5++jkR 34 23++[.undef],H:=[(.cells [(.va 3),(.va 4),(.va 5),(.va 6)] 27 false)],ni:=1,nb:=0,nv:=7,nj:=57 }]
theorem d2H:SysOk Try.prog 3 saleroomlaw16_BidbookRaises_S:=a0N (c:=(cg [[false,false,true,false,true,true,true,true,true,true,true]] [] [] false false false true)) (a0J _ _ _ _ _ _ _ _ _) Try.func3 Try.call3 (by kernel_rfl) d2F saleroomlaw16_BidbookRaises_S 5000 rfl (by kernel_rfl) (by kernel_rfl) rfl
def a5e:PT :=
 (.call 14 [(.agg [(.va 0),(.va 1),(.va 2),(.va 3)])] [] [(.one (D L))]
 (.ite (.not (.eq (.a 0) (.l 0)))
 (.ret true (.tup [.nilP,(I L (A 0))]) [])
 (.need (.is 0 1)
 (.mkM (.slen 1) [.nilS] 41 1 24
 (.newM [(.va 0),(.va 1),(.va 2),(.va 3),(.va 4)] 72
 (.ret true (.tup [(.pa 5 0),(I L (E 0))]) []))))))
def saleroomref16_New_S:Sx.Sys:=⟨[(.sh (.agg [.val,.val,.val,.val]))],a5e,[],none,none⟩
def b0H:List Cfg:=[]
theorem b2r:SysOk Try.prog 11 saleroomref16_New_S:=a0N (c:=(cg [] [16] [] true true false true)) (a0J _ _ _ _ _ _ _ _ _) Try.func11 Try.call11 (by kernel_rfl) b0H saleroomref16_New_S 5000 rfl (by kernel_rfl) (by kernel_rfl) rfl
def a4K:PT :=
 (.need (.is 0 0)
 (.need (.is 0 1)
 (.ite (.not (.eq (.slen 0) (.slen 1)))
 (.ret false (.bool (.t false)) [])
 (.jump 0 [(.l 0)] [] [(.va 0),(.va 1)]))))
def a2F:PT :=
 (.need (.is 0 0)
 (.ite (.lt (.a 0) (.slen 0))
 (.need (treeI (.a 0) (.slen 0))
 (.need (treeI (.a 0) (.slen 1))
 (.load true (.ea 0 (.a 0) 8 0) [(D L),(D L),(D L),(D L),(D L),(D L),(D L),(D L)]
 (.load true (.ea 1 (.a 0) 8 0) [(D L),(D L),(D L),(D L),(D L),(D L),(D L),(D L)]
 (.ite (.not (.and (.eq (.a 1) (.a 9)) (.and (.eq (.a 2) (.a 10)) (.and (.eq (.a 3) (.a 11)) (.and (.eq (.a 4) (.a 12)) (.and (.eq (.a 5) (.a 13)) (.and (.eq (.a 6) (.a 14)) (.and (.eq (.a 7) (.a 15)) (.eq (.a 8) (.a 16))))))))))
  (.ret false (.bool (.t false)) [])
  (.need (treeB (.add (.a 0) (.l 1)))
  (.jump 0 [(.add (.a 0) (.l 1))] [] [(.va 0),(.va 1)])))))))
 (.ret false (.bool (.t true)) [])))
def saleroomref16_Same_S:Sx.Sys:=⟨[(.sh (.one .val)),(.sh (.one .val))],a4K,[a2F],none,none⟩
def a9E:List Cfg:=[{ todo:=[(.code [false,false,true,false,true,true]),(.inLoop [false,false,true,false,true,true]),(.inBlock 0),(.code [true,true,true])],sl:=[(.va 0),(.va 1),.undef,.undef,(.junk 0),(I L (A 0))]++jkR 1 20,H:=[],ni:=1,nb:=0,nv:=2,nj:=21 }]
theorem b1i:SysOk Try.prog 19 saleroomref16_Same_S:=a0N (c:=(cg [[false,false,true,false,true,true]] [] [] false false false true)) (a0J _ _ _ _ _ _ _ _ _) Try.func19 Try.call19 (by kernel_rfl) a9E saleroomref16_Same_S 5000 rfl (by kernel_rfl) (by kernel_rfl) rfl
def a7S:PT :=
 (.call 42 [(.va 0)] [] [(.one (D L))]
 (.ite (.not (.eq (.a 0) (.l 0)))
 (.ret false (I L (A 0)) [])
 (.call 43 [(.va 1)] [] [(.one (D L))]
 (.ite (.not (.eq (.a 1) (.l 0)))
  (.ret false (I L (A 1)) [])
  (.call 44 [(.agg [(.va 0),(.va 1),(.va 2),(.va 3)])] [] [(.one (D L))]
  (.ite (.not (.eq (.a 2) (.l 0)))
  (.ret false (I L (A 2)) [])
  (.call 45 [(.agg [(.va 0),(.va 1),(.va 2),(.va 3)])] [] [(.one (D L))]
  (.ret false (I L (A 3)) []))))))))
def setup_Check_S:Sx.Sys:=⟨[(.sh (.agg [.val,.val,.val,.val]))],a7S,[],none,none⟩
def b5w:List Cfg:=[]
theorem b7i:SysOk Try.prog 27 setup_Check_S:=a0N (c:=(cg [] [] [] false false false true)) (a0J _ _ _ _ _ _ _ _ _) Try.func27 Try.call27 (by kernel_rfl) b5w setup_Check_S 5000 rfl (by kernel_rfl) (by kernel_rfl) rfl
def a4q:PT :=
 (.jump 0 [(.l 0),(.a 0),(.a 1),(.a 2),(.a 3),(.a 4),(.a 5)] [] [(.va 0)])
def a2v:PT :=
 (.need (.is 0 0)
 (.ite (.lt (.a 0) (.slen 0))
 (.need (treeI (.a 0) (.slen 0))
 (.load true (.ea 0 (.a 0) 8 1) [(D L),(D L),(D L),(D L),(D L),(D L)]
 (.ite (.and (.eq (.a 7) (.a 1)) (.and (.eq (.a 8) (.a 2)) (.and (.eq (.a 9) (.a 3)) (.and (.eq (.a 10) (.a 4)) (.and (.eq (.a 11) (.a 5)) (.eq (.a 12) (.a 6)))))))
  (.ret false (I L (A 0)) [])
  (.need (treeB (.add (.a 0) (.l 1)))
  (.jump 0 [(.add (.a 0) (.l 1)),(.a 1),(.a 2),(.a 3),(.a 4),(.a 5),(.a 6)] [] [(.va 0)])))))
 (.ret false (I L (E (-1))) [])))
def saleroomref16_place_S:Sx.Sys:=⟨[(.sh (.one .val)),(.sh (.agg [(D L),(D L),(D L),(D L),(D L),(D L)]))],a4q,[a2v],none,none⟩
def a9p:List Cfg:=[{ todo:=[(.code [false,false,true,false,true]),(.inLoop [false,false,true,false,true]),(.inBlock 0),(.code [true,true])],sl:=[(.va 0),(.junk 0),.undef,(.ptr 0 0),(.junk 1),(I L (A 0))]++jkR 2 13++[.undef],H:=[(.cells [(I L (A 1)),(I L (A 2)),(I L (A 3)),(I L (A 4)),(I L (A 5)),(I L (A 6))] 40 false)],ni:=7,nb:=0,nv:=1,nj:=15 }]
theorem b0p:SysOk Try.prog 35 saleroomref16_place_S:=a0N (c:=(cg [[false,false,true,false,true]] [] [] false false false true)) (a0J _ _ _ _ _ _ _ _ _) Try.func35 Try.call35 (by kernel_rfl) a9p saleroomref16_place_S 5000 rfl (by kernel_rfl) (by kernel_rfl) rfl
def a5U:PT :=
 (.need (.is 0 2)
 (.ite (.lt (.l 16) (.slen 2))
 (.ret false (I L (E 3)) [])
 (.need (.is 0 2)
 (.jump 0 [(.slen 2),(.l 0)] [] [(.va 2),(.va 0),(.va 1),(.va 3)]))))
def a3s:PT :=
 (.ite (.lt (.a 1) (.a 0))
 (.need (treeI (.a 1) (.slen 0))
 (.load false (.ea 0 (.a 1) 3 0) [(D L),(D L),(D L)]
 (.ite (.lt (.a 2) (.l (-1)))
  (.ret false (I L (E 6)) [])
  (.need (.is 0 2)
  (.ite (.le (.slen 2) (.a 2))
  (.ret false (I L (E 6)) [])
  (.ite (.lt (.a 3) (.l 0))
   (.ret false (I L (E 4)) [])
   (.ite (.lt (.l 4) (.a 3))
   (.ret false (I L (E 4)) [])
   (.ite (.lt (.a 4) (.l 0))
    (.ret false (I L (E 4)) [])
    (.ite (.lt (.l 24) (.a 4))
    (.ret false (I L (E 4)) [])
    (.cut 0 none (some (.a 1)) 3
    (.need (.is 0 4)
    (.jump 1 [(.a 0),(.a 1),(.a 2),(.slen 2),(.a 3),(.a 4),(.slen 4),(.l 0)] [(.le (.slen 2) (.a 2)),(.lt (.l 4) (.a 3)),(.lt (.a 4) (.l 0)),(.lt (.l 24) (.a 4))] [(.va 0),(.va 2),(.va 4),(.va 1),(.va 3)]))))))))))))
 (.ret false (I L (E 0)) []))
def a3t:PT :=
 (.ite (.lt (.a 7) (.a 6))
 (.need (treeI (.a 7) (.slen 2))
 (.load false (.ea 2 (.a 7) 3 0) [(D L),(D L),(D L)]
 (.ite (.eq (.a 8) (.a 2))
  (.ite (.eq (.a 9) (.a 4))
  (.ret false (I L (E 7)) [])
  (.need (treeB (.add (.a 7) (.l 1)))
  (.jump 1 [(.a 0),(.a 1),(.a 2),(.a 3),(.a 4),(.a 5),(.a 6),(.add (.a 7) (.l 1))] [(.a 0),(.a 1),(.a 2),(.a 3)] [(.va 0),(.va 1),(.va 2),(.va 3),(.va 4)])))
  (.need (treeB (.add (.a 7) (.l 1)))
  (.jump 1 [(.a 0),(.a 1),(.a 2),(.a 3),(.a 4),(.a 5),(.a 6),(.add (.a 7) (.l 1))] [(.a 0),(.a 1),(.a 2),(.a 3)] [(.va 0),(.va 1),(.va 2),(.va 3),(.va 4)])))))
 (.need (treeB (.add (.a 1) (.l 1)))
 (.jump 0 [(.a 0),(.add (.a 1) (.l 1))] [] [(.va 0),(.va 3),(.va 1),(.va 4)])))
def setup_checkCaps_S:Sx.Sys:=⟨[(.sh (.agg [.val,.val,.val,.val]))],a5U,[a3s,a3t],none,none⟩
def b2k:List Cfg:=[{ todo:=[(.code [false,false,true,false,true,true]),(.inLoop [false,false,true,false,true,true]),(.inBlock 0),(.code [true,true,true])],sl:=[(.junk 0),(.ptr 0 0),(.junk 1),(.junk 2),(.junk 3),.undef]++jkR 4 6++[(.va 0),(I L (A 0)),(I L (A 1))]++jkR 10 56,H:=[(.cells [(.va 1),(.va 2),(.va 0),(.va 3)] 27 false)],ni:=2,nb:=0,nv:=4,nj:=66 },
 { todo:=[(.code [false,false,true,true,true,true,false,false,true,true,false,false,true,false,true,true]),(.inLoop [false,false,true,true,true,true,false,false,true,true,false,false,true,false,true,true]),(.inBlock 2),(.inBlock 1),(.code [true,true,true,false,false,true,false,true,true]),(.inLoop [false,false,true,false,true,true]),(.inBlock 0),(.code [true,true,true])],sl:=[(.junk 0),(.ptr 0 0),(.junk 1),(.junk 2),(.ptr 1 0),.undef]++jkR 3 6++[(.va 0),(I L (A 0)),(I L (A 1))]++jkR 9 8++[(.ptr 1 0),(I L (A 2)),(.ptr 0 1),(.va 1),(I L (A 3)),(.bool (.a 0))]++jkR 17 5++[(.ptr 1 1),(I L (A 4)),(.bool (.a 1)),(.junk 22),(.junk 23),(.ptr 1 2),(I L (A 5)),(.bool (.a 2)),(.junk 24),(.junk 25),(.ptr 1 2),(I L (A 5)),(.bool (.a 3))]++jkR 26 4++[(.va 2),(I L (A 6)),(I L (A 7))]++jkR 30 17,H:=[(.cells [(.va 3),(.va 1),(.va 0),(.va 4)] 27 false),(.cells [(I L (A 2)),(I L (A 4)),(I L (A 5))] 76 false)],ni:=8,nb:=4,nv:=5,nj:=47 }]
theorem b3n:SysOk Try.prog 44 setup_checkCaps_S:=a0N (c:=(cg [[false,false,true,false,true,true],[false,false,true,true,true,true,false,false,true,true,false,false,true,false,true,true]] [] [] false false false true)) (a0J _ _ _ _ _ _ _ _ _) Try.func44 Try.call44 (by kernel_rfl) b2k setup_checkCaps_S 5000 rfl (by kernel_rfl) (by kernel_rfl) rfl
def a4S:PT :=
 (.jump 0 [(.l 0)] [] [(.va 0),(.va 1)])
def a1S:PT :=
 (.need (.is 0 0)
 (.ite (.lt (.a 0) (.slen 0))
 (.need (treeI (.a 0) (.slen 0))
 (.load false (.ea 0 (.a 0) 4 0) [.val]
 (.need (.is 3 2)
 (.need (.is 3 1)
 (.ite (.seq 2 1)
  (.ret false (.tup [(I L (A 0)),(.bool (.t true))]) [])
  (.need (treeB (.add (.a 0) (.l 1)))
  (.jump 0 [(.add (.a 0) (.l 1))] [] [(.va 0),(.va 1)])))))))
 (.ret false (.tup [(I L (E 0)),(.bool (.t false))]) [])))
def saleroomref09_Find_S:Sx.Sys:=⟨[(.sh (.one .val)),(.sh (.one .val))],a4S,[a1S],none,none⟩
def a9I:List Cfg:=[{ todo:=[(.code [false,false,true,false,true]),(.inLoop [false,false,true,false,true]),(.inBlock 0),(.code [true,true])],sl:=[(.va 0),(.va 1),.undef,.undef,(.junk 0),(.junk 1),(I L (A 0))]++jkR 2 13++[.undef],H:=[],ni:=1,nb:=0,nv:=2,nj:=15 }]
theorem b1s:SysOk Try.prog 52 saleroomref09_Find_S:=a0N (c:=(cg [[false,false,true,false,true]] [] [] false false false true)) (a0J _ _ _ _ _ _ _ _ _) Try.func52 Try.call52 (by kernel_rfl) a9I saleroomref09_Find_S 5000 rfl (by kernel_rfl) (by kernel_rfl) rfl
def a7p:PT :=
 (.need (.is 3 0)
 (.ite (.not (.sis 0 []))
 (.need (.is 3 0)
 (.ite (.le (.stl 0) (.l 12))
  (.need (.is 3 0)
  (.need (.lt (.l 0) (.stl 0))
  (.need (.and (.le (.l (-2147483648)) (.sat 0 (.l 0))) (.le (.sat 0 (.l 0)) (.l 2147483647)))
  (.call 83 [(.int .i32 (.sat 0 (.l 0)))] [] [(.one .bool)]
  (.ite (.a 0)
  (.call 84 [(.va 0),(I L (E 0)),(.fn 85 0 [])] [] [(.one .val)]
  (.need (.is 3 1)
  (.need (.is 3 0)
  (.ret false (.bool (.seq 1 0)) []))))
  (.ret false (.bool (.t false)) []))))))
  (.ret false (.bool (.t false)) [])))
 (.ret false (.bool (.t false)) [])))
def lexer_IsName_S:Sx.Sys:=⟨[(.sh (.one .val))],a7p,[],none,none⟩
def b4l:List Cfg:=[]
theorem b5Y:SysOk Try.prog 60 lexer_IsName_S:=a0N (c:=(cg [] [] [] false false false true)) (a0J _ _ _ _ _ _ _ _ _) Try.func60 Try.call60 (by kernel_rfl) b4l lexer_IsName_S 5000 rfl (by kernel_rfl) (by kernel_rfl) rfl
def a7x:PT :=
 (.ite (.lt (.a 0) (.l 0))
 (.ret false (I L (E 4)) [])
 (.ite (.lt (.l 4) (.a 0))
  (.ret false (I L (E 4)) [])
  (.ite (.lt (.a 1) (.l 0))
  (.ret false (I L (E 4)) [])
  (.ite (.lt (.l 4) (.a 1))
   (.ret false (I L (E 4)) [])
   (.ite (.lt (.a 2) (.l 0))
   (.ret false (I L (E 4)) [])
   (.ite (.lt (.l 4) (.a 2))
    (.ret false (I L (E 4)) [])
    (.ite (.lt (.a 3) (.l 0))
    (.ret false (I L (E 4)) [])
    (.ite (.lt (.l 4) (.a 3))
     (.ret false (I L (E 4)) [])
     (.ite (.lt (.a 4) (.l 0))
     (.ret false (I L (E 4)) [])
     (.ite (.lt (.l 4) (.a 4))
      (.ret false (I L (E 4)) [])
      (.ite (.lt (.a 5) (.l 0))
      (.ret false (I L (E 4)) [])
      (.ite (.lt (.l 4) (.a 5))
       (.ret false (I L (E 4)) [])
       (.ret false (I L (E 0)) [])))))))))))))
def bundle_Check_S:Sx.Sys:=⟨[(.sh (.agg [(D L),(D L),(D L),(D L),(D L),(D L)]))],a7x,[],none,none⟩
def b4p:List Cfg:=[]
theorem b6y:SysOk Try.prog 68 bundle_Check_S:=a0N (c:=(cg [] [] [] false false false true)) (a0J _ _ _ _ _ _ _ _ _) Try.func68 Try.call68 (by kernel_rfl) b4p bundle_Check_S 5000 rfl (by kernel_rfl) (by kernel_rfl) rfl
def a7N:PT :=
 (.ret false (.agg [(.int .i64 (.mn (.a 0) (.a 6))),(.int .i64 (.mn (.a 1) (.a 7))),(.int .i64 (.mn (.a 2) (.a 8))),(.int .i64 (.mn (.a 3) (.a 9))),(.int .i64 (.mn (.a 4) (.a 10))),(.int .i64 (.mn (.a 5) (.a 11)))]) [])
def bundle_Meet_S:Sx.Sys:=⟨[(.sh (.agg [(D L),(D L),(D L),(D L),(D L),(D L)])),(.sh (.agg [(D L),(D L),(D L),(D L),(D L),(D L)]))],a7N,[],none,none⟩
def b5s:List Cfg:=[]
theorem b7f:SysOk Try.prog 88 bundle_Meet_S:=a0N (c:=(cg [] [] [] false false false true)) (a0J _ _ _ _ _ _ _ _ _) Try.func88 Try.call88 (by kernel_rfl) b5s bundle_Meet_S 5000 rfl (by kernel_rfl) (by kernel_rfl) rfl
end Go.Proofs.Ytflcopaopimlpaa
set_option maxRecDepth 100000
namespace Go.Proofs.Ytflcopaopimlpaa
open Go.Sx
def c9U:PT :=
 (.ite (.eq (.a 0) (.l 0))
 (.call 18 [(.va 0),(I L (A 1)),(.agg [(I L (A 2)),(I L (A 3)),(I L (A 4)),(I L (A 5)),(I L (A 6)),(I L (A 7))]),(I L (A 8))] [] [(.one (D L))]
 (.call 17 [(.va 1),(I L (A 1)),(.agg [(I L (A 2)),(I L (A 3)),(I L (A 4)),(I L (A 5)),(I L (A 6)),(I L (A 7))]),(I L (A 8))] [] [(.one (D L))]
 (.ret true (.bool (.eq (.a 9) (.a 10))) [])))
 (.ite (.eq (.a 0) (.l 1))
  (.call 24 [(.va 0),(I L (A 1)),(.va 2)] [] [(.one (D L))]
  (.call 29 [(.va 1),(I L (A 1)),(.va 2)] [] [(.one (D L))]
  (.ret true (.bool (.eq (.a 9) (.a 10))) [])))
  (.ite (.eq (.a 0) (.l 2))
  (.call 22 [(.va 0),(I L (A 1))] [] [(.one (D L)),(.one (D L))]
  (.call 30 [(.va 1),(I L (A 1))] [] [(.one (D L)),(.one (D L))]
  (.ite (.eq (.a 9) (.a 11))
   (.ret true (.bool (.eq (.a 10) (.a 12))) [])
   (.ret true (.bool (.t false)) []))))
  (.ret true (.bool (.t true)) []))))
def saleroomlaw16_do_S:Sx.Sys:=⟨[(.sh (.one .val)),(.sh (.one .val)),(.sh (.agg [(D L),(D L),(D L),(D L),(D L),(D L),(D L),(D L),(D L),.val]))],c9U,[],none,none⟩
def d1d:List Cfg:=[]
theorem d1j:SysOk Try.prog 12 saleroomlaw16_do_S:=a0N (c:=(cg [] [] [] false true false true)) (a0J _ _ _ _ _ _ _ _ _) Try.func12 Try.call12 (by kernel_rfl) d1d saleroomlaw16_do_S 5000 rfl (by kernel_rfl) (by kernel_rfl) rfl
def a5q:PT :=
 (.need (.is 4 0)
 (.ite (.nil 0)
 (.ret false .nilS [])
 (.need (.is 1 0)
 (.load false (.pa 0 4) [.val]
 (.need (.is 0 1)
 (.jump 0 [(.slen 1),(.l 0)] [] [(.va 0),.nilS]))))))
def a3a:PT :=
 (.ite (.lt (.a 1) (.a 0))
 (.call 25 [(.va 0),(I L (A 1))] [] [(.one .val)]
 (.app (some 1) (.va 2) 8
 (.need (treeB (.add (.a 1) (.l 1)))
 (.jump 0 [(.a 0),(.add (.a 1) (.l 1))] [] [(.va 0),(.va 3)]))))
 (.ret false (.va 1) []))
def bidbook_Book_All_S:Sx.Sys:=⟨[(.sh (.one .val))],a5q,[a3a],none,none⟩
def b0W:List Cfg:=[{ todo:=[(.code [false,false,true,false,true,true,true]),(.inLoop [false,false,true,false,true,true,true]),(.inBlock 0),(.code [true,true,true,true])],sl:=[(.va 0),.undef,(.junk 0),(.va 1)]++jkR 1 7++[(I L (A 0)),(I L (A 1))]++jkR 8 8++[.undef],H:=[(.row 1 52 8)],ni:=2,nb:=0,nv:=2,nj:=16 }]
theorem b2S:SysOk Try.prog 20 bidbook_Book_All_S:=a0N (c:=(cg [[false,false,true,false,true,true,true]] [] [] false false false true)) (a0J _ _ _ _ _ _ _ _ _) Try.func20 Try.call20 (by kernel_rfl) b0W bidbook_Book_All_S 5000 rfl (by kernel_rfl) (by kernel_rfl) rfl
def a3Z:PT :=
 (.call 46 [(.va 0)] [] [(.one .val)]
 (.call 47 [(.va 1)] [] [(.one .val)]
 (.call 48 [(.va 2)] [] [(.one .val)]
 (.call 49 [(.va 3)] [] [(.one .val)]
 (.ret false (.agg [(.va 4),(.va 5),(.va 6),(.va 7)]) [])))))
def bidbook_clone_S:Sx.Sys:=⟨[(.sh (.agg [.val,.val,.val,.val]))],a3Z,[],none,none⟩
def b3B:List Cfg:=[]
theorem a6t:SysOk Try.prog 28 bidbook_clone_S:=a0N (c:=(cg [] [] [] false false false true)) (a0J _ _ _ _ _ _ _ _ _) Try.func28 Try.call28 (by kernel_rfl) b3B bidbook_clone_S 5000 rfl (by kernel_rfl) (by kernel_rfl) rfl
def a3S:PT :=
 (.ite (.lt (.a 0) (.a 6))
 (.ret false (I L (E (-1))) [])
 (.ite (.lt (.a 6) (.a 0))
  (.ret false (I L (E 1)) [])
  (.ite (.lt (.a 1) (.a 7))
  (.ret false (I L (E (-1))) [])
  (.ite (.lt (.a 7) (.a 1))
   (.ret false (I L (E 1)) [])
   (.ite (.lt (.a 2) (.a 8))
   (.ret false (I L (E (-1))) [])
   (.ite (.lt (.a 8) (.a 2))
    (.ret false (I L (E 1)) [])
    (.ite (.lt (.a 3) (.a 9))
    (.ret false (I L (E (-1))) [])
    (.ite (.lt (.a 9) (.a 3))
     (.ret false (I L (E 1)) [])
     (.ite (.lt (.a 4) (.a 10))
     (.ret false (I L (E (-1))) [])
     (.ite (.lt (.a 10) (.a 4))
      (.ret false (I L (E 1)) [])
      (.ite (.lt (.a 5) (.a 11))
      (.ret false (I L (E (-1))) [])
      (.ite (.lt (.a 11) (.a 5))
       (.ret false (I L (E 1)) [])
       (.ret false (I L (E 0)) [])))))))))))))
def saleroomref07_Compare_S:Sx.Sys:=⟨[(.sh (.agg [(D L),(D L),(D L),(D L),(D L),(D L)])),(.sh (.agg [(D L),(D L),(D L),(D L),(D L),(D L)]))],a3S,[],none,none⟩
def a7X:List Cfg:=[]
theorem a9d:SysOk Try.prog 36 saleroomref07_Compare_S:=a0N (c:=(cg [] [] [] false false false true)) (a0J _ _ _ _ _ _ _ _ _) Try.func36 Try.call36 (by kernel_rfl) a7X saleroomref07_Compare_S 5000 rfl (by kernel_rfl) (by kernel_rfl) rfl
def a5d:PT :=
 (.need (.is 0 3)
 (.ite (.lt (.l 6) (.slen 3))
 (.ret false (I L (E 3)) [])
 (.need (.is 0 3)
 (.jump 0 [(.slen 3),(.l 0)] [] [(.va 3),(.va 0),(.va 1),(.va 2)]))))
def a2P:PT :=
 (.ite (.lt (.a 1) (.a 0))
 (.need (treeI (.a 1) (.slen 0))
 (.load false (.ea 0 (.a 1) 3 0) [(D L),(D L),(D L)]
 (.ite (.lt (.a 2) (.l 0))
  (.ret false (I L (E 6)) [])
  (.need (.is 0 1)
  (.ite (.le (.slen 1) (.a 2))
  (.ret false (I L (E 6)) [])
  (.ite (.lt (.a 3) (.l 1))
   (.ret false (I L (E 4)) [])
   (.ite (.lt (.l 4) (.a 3))
   (.ret false (I L (E 4)) [])
   (.ite (.lt (.a 4) (.l 1))
    (.ret false (I L (E 4)) [])
    (.need (treeI (.a 2) (.slen 1))
    (.load true (.ea 1 (.a 2) 5 1) [(D L)]
    (.ite (.lt (.a 5) (.a 4))
    (.ret false (I L (E 4)) [])
    (.cut 0 none (some (.a 1)) 3
    (.need (.is 0 4)
    (.jump 1 [(.a 0),(.a 1),(.a 2),(.slen 1),(.a 3),(.a 4),(.a 5),(.slen 4),(.l 0)] [(.le (.slen 1) (.a 2)),(.lt (.l 4) (.a 3)),(.lt (.a 4) (.l 1)),(.lt (.a 5) (.a 4))] [(.va 0),(.va 1),(.va 4),(.va 2),(.va 3)]))))))))))))))
 (.ret false (I L (E 0)) []))
def a2M:PT :=
 (.ite (.lt (.a 8) (.a 7))
 (.need (treeI (.a 8) (.slen 2))
 (.load false (.ea 2 (.a 8) 3 0) [(D L),(D L),(D L)]
 (.ite (.eq (.a 9) (.a 2))
  (.ret false (I L (E 7)) [])
  (.need (treeB (.add (.a 8) (.l 1)))
  (.jump 1 [(.a 0),(.a 1),(.a 2),(.a 3),(.a 4),(.a 5),(.a 6),(.a 7),(.add (.a 8) (.l 1))] [(.a 0),(.a 1),(.a 2),(.a 3)] [(.va 0),(.va 1),(.va 2),(.va 3),(.va 4)])))))
 (.need (treeB (.add (.a 1) (.l 1)))
 (.jump 0 [(.a 0),(.add (.a 1) (.l 1))] [] [(.va 0),(.va 1),(.va 3),(.va 4)])))
def setup_checkAsides_S:Sx.Sys:=⟨[(.sh (.agg [.val,.val,.val,.val]))],a5d,[a2P,a2M],none,none⟩
def b0B:List Cfg:=[{ todo:=[(.code [false,false,true,false,true,true]),(.inLoop [false,false,true,false,true,true]),(.inBlock 0),(.code [true,true,true])],sl:=[(.junk 0),(.ptr 0 0),(.junk 1),(.junk 2),(.junk 3),.undef]++jkR 4 6++[(.va 0),(I L (A 0)),(I L (A 1))]++jkR 10 56,H:=[(.cells [(.va 1),(.va 2),(.va 3),(.va 0)] 27 false)],ni:=2,nb:=0,nv:=4,nj:=66 },
 { todo:=[(.code [false,false,true,true,true,true,false,false,true,true,false,false,true,false,true,true]),(.inLoop [false,false,true,true,true,true,false,false,true,true,false,false,true,false,true,true]),(.inBlock 2),(.inBlock 1),(.code [true,true,true,false,false,true,false,true,true]),(.inLoop [false,false,true,false,true,true]),(.inBlock 0),(.code [true,true,true])],sl:=[(.junk 0),(.ptr 0 0),(.junk 1),(.junk 2),(.ptr 1 0),.undef]++jkR 3 6++[(.va 0),(I L (A 0)),(I L (A 1))]++jkR 9 8++[(.ptr 1 0),(I L (A 2)),(.ptr 0 0),(.va 1),(I L (A 3)),(.bool (.a 0))]++jkR 17 5++[(.ptr 1 1),(I L (A 4)),(.bool (.a 1)),(.junk 22),(.junk 23),(.ptr 1 2),(I L (A 5)),(.bool (.a 2)),(.junk 24),(.junk 25),(.ptr 1 2),(I L (A 5)),(.ptr 0 0),(.va 1),(.ptr 1 0),(I L (A 2)),(.ea 1 (.a 2) 5 0),(.ea 1 (.a 2) 5 1),(I L (A 6)),(.bool (.a 3))]++jkR 26 4++[(.va 2),(I L (A 7)),(I L (A 8))]++jkR 30 10,H:=[(.cells [(.va 1),(.va 3),(.va 4),(.va 0)] 27 false),(.cells [(I L (A 2)),(I L (A 4)),(I L (A 5))] 78 false)],ni:=9,nb:=4,nv:=5,nj:=40 }]
theorem b2i:SysOk Try.prog 45 setup_checkAsides_S:=a0N (c:=(cg [[false,false,true,false,true,true],[false,false,true,true,true,true,false,false,true,true,false,false,true,false,true,true]] [] [] false false false true)) (a0J _ _ _ _ _ _ _ _ _) Try.func45 Try.call45 (by kernel_rfl) b0B setup_checkAsides_S 5000 rfl (by kernel_rfl) (by kernel_rfl) rfl
def a4n:PT :=
 (.ite (.lt (.a 0) (.l 0))
 (.ret false (.bool (.t false)) [])
 (.ite (.lt (.l 4) (.a 0))
  (.ret false (.bool (.t false)) [])
  (.ite (.lt (.a 1) (.l 0))
  (.ret false (.bool (.t false)) [])
  (.ite (.lt (.l 4) (.a 1))
   (.ret false (.bool (.t false)) [])
   (.ite (.lt (.a 2) (.l 0))
   (.ret false (.bool (.t false)) [])
   (.ite (.lt (.l 4) (.a 2))
    (.ret false (.bool (.t false)) [])
    (.ite (.lt (.a 3) (.l 0))
    (.ret false (.bool (.t false)) [])
    (.ite (.lt (.l 4) (.a 3))
     (.ret false (.bool (.t false)) [])
     (.ite (.lt (.a 4) (.l 0))
     (.ret false (.bool (.t false)) [])
     (.ite (.lt (.l 4) (.a 4))
      (.ret false (.bool (.t false)) [])
      (.ite (.lt (.a 5) (.l 0))
      (.ret false (.bool (.t false)) [])
      (.ite (.lt (.l 4) (.a 5))
       (.ret false (.bool (.t false)) [])
       (.ret false (.bool (.t true)) [])))))))))))))
def saleroomref08_Valid_S:Sx.Sys:=⟨[(.sh (.agg [(D L),(D L),(D L),(D L),(D L),(D L)]))],a4n,[],none,none⟩
def a9t:List Cfg:=[]
theorem b0O:SysOk Try.prog 53 saleroomref08_Valid_S:=a0N (c:=(cg [] [] [] false false false true)) (a0J _ _ _ _ _ _ _ _ _) Try.func53 Try.call53 (by kernel_rfl) a9t saleroomref08_Valid_S 5000 rfl (by kernel_rfl) (by kernel_rfl) rfl
def a7w:PT :=
 (.need (.is 0 0)
 (.jump 0 [(.slen 0),(.l 0)] [] [(.va 1),(.va 0)]))
def a2N:PT :=
 (.ite (.lt (.a 1) (.a 0))
 (.need (treeI (.a 1) (.slen 1))
 (.load false (.ea 1 (.a 1) 5 0) [.val,(D L),(D L),(D L),(D L)]
 (.need (.is 3 2)
 (.need (.is 3 0)
 (.ite (.seq 2 0)
  (.ret false (.tup [(I L (A 1)),(.bool (.t true))]) [])
  (.need (treeB (.add (.a 1) (.l 1)))
  (.jump 0 [(.a 0),(.add (.a 1) (.l 1))] [] [(.va 0),(.va 1)])))))))
 (.ret false (.tup [(I L (E 0)),(.bool (.t false))]) []))
def catalog_Find_S:Sx.Sys:=⟨[(.sh (.one .val)),(.sh (.one .val))],a7w,[a2N],none,none⟩
def b4o:List Cfg:=[{ todo:=[(.code [false,false,true,false,true]),(.inLoop [false,false,true,false,true]),(.inBlock 0),(.code [true,true])],sl:=[(.junk 0),(.va 0),.undef,.undef]++jkR 1 4++[(.va 1),(I L (A 0)),(I L (A 1))]++jkR 5 8++[.undef,(.junk 13)],H:=[],ni:=2,nb:=0,nv:=2,nj:=14 }]
theorem b6K:SysOk Try.prog 61 catalog_Find_S:=a0N (c:=(cg [[false,false,true,false,true]] [] [] false false false true)) (a0J _ _ _ _ _ _ _ _ _) Try.func61 Try.call61 (by kernel_rfl) b4o catalog_Find_S 5000 rfl (by kernel_rfl) (by kernel_rfl) rfl
def a7t:PT :=
 (.call 64 [(.va 0)] [] [(.agg [(D L),(D L),(D L),(D L),(D L),(D L)])]
 (.need (.is 0 3)
 (.jump 0 [(.slen 3),(.l 0),(.a 0),(.a 1),(.a 2),(.a 3),(.a 4),(.a 5),(.l 0),(.l 0),(.l 0),(.l 0),(.l 0),(.l 0)] [] [(.va 3),(.va 0),(.va 1),(.va 2)])))
def a4a:PT :=
 (.ret false (.tup [(.agg [(I L (A 2)),(I L (A 3)),(I L (A 4)),(I L (A 5)),(I L (A 6)),(I L (A 7))]),(.agg [(I L (A 8)),(I L (A 9)),(I L (A 10)),(I L (A 11)),(I L (A 12)),(I L (A 13))])]) [])
def a4c:PT :=
 (.ite (.lt (.a 1) (.a 0))
 (.need (treeI (.a 1) (.slen 0))
 (.load false (.ea 0 (.a 1) 3 0) [(D L),(D L),(D L)]
 (.ite (.eq (.a 14) (.l 5))
  (.need (treeB (.sub (.a 7) (.a 16)))
  (.ite (.eq (.a 14) (.l 5))
  (.need (treeB (.add (.a 1) (.l 1)))
  (.jump 0 [(.a 0),(.add (.a 1) (.l 1)),(.a 2),(.a 3),(.a 4),(.a 5),(.a 6),(.sub (.a 7) (.a 16)),(.a 8),(.a 9),(.a 10),(.a 11),(.a 12),(.a 15)] [] [(.va 0),(.va 1),(.va 2),(.va 3)]))
  (.ite (.eq (.a 14) (.l 4))
   (.need (treeB (.add (.a 1) (.l 1)))
   (.jump 0 [(.a 0),(.add (.a 1) (.l 1)),(.a 2),(.a 3),(.a 4),(.a 5),(.a 6),(.sub (.a 7) (.a 16)),(.a 8),(.a 9),(.a 10),(.a 11),(.a 15),(.a 13)] [] [(.va 0),(.va 1),(.va 2),(.va 3)]))
   (.ite (.eq (.a 14) (.l 3))
   (.need (treeB (.add (.a 1) (.l 1)))
   (.jump 0 [(.a 0),(.add (.a 1) (.l 1)),(.a 2),(.a 3),(.a 4),(.a 5),(.a 6),(.sub (.a 7) (.a 16)),(.a 8),(.a 9),(.a 10),(.a 15),(.a 12),(.a 13)] [] [(.va 0),(.va 1),(.va 2),(.va 3)]))
   (.ite (.eq (.a 14) (.l 2))
    (.need (treeB (.add (.a 1) (.l 1)))
    (.jump 0 [(.a 0),(.add (.a 1) (.l 1)),(.a 2),(.a 3),(.a 4),(.a 5),(.a 6),(.sub (.a 7) (.a 16)),(.a 8),(.a 9),(.a 15),(.a 11),(.a 12),(.a 13)] [] [(.va 0),(.va 1),(.va 2),(.va 3)]))
    (.ite (.eq (.a 14) (.l 1))
    (.need (treeB (.add (.a 1) (.l 1)))
    (.jump 0 [(.a 0),(.add (.a 1) (.l 1)),(.a 2),(.a 3),(.a 4),(.a 5),(.a 6),(.sub (.a 7) (.a 16)),(.a 8),(.a 15),(.a 10),(.a 11),(.a 12),(.a 13)] [] [(.va 0),(.va 1),(.va 2),(.va 3)]))
    (.ite (.eq (.a 14) (.l 0))
     (.need (treeB (.add (.a 1) (.l 1)))
     (.jump 0 [(.a 0),(.add (.a 1) (.l 1)),(.a 2),(.a 3),(.a 4),(.a 5),(.a 6),(.sub (.a 7) (.a 16)),(.a 15),(.a 9),(.a 10),(.a 11),(.a 12),(.a 13)] [] [(.va 0),(.va 1),(.va 2),(.va 3)]))
     .stuck)))))))
  (.ite (.eq (.a 14) (.l 4))
  (.need (treeB (.sub (.a 6) (.a 16)))
  (.ite (.eq (.a 14) (.l 5))
   (.need (treeB (.add (.a 1) (.l 1)))
   (.jump 0 [(.a 0),(.add (.a 1) (.l 1)),(.a 2),(.a 3),(.a 4),(.a 5),(.sub (.a 6) (.a 16)),(.a 7),(.a 8),(.a 9),(.a 10),(.a 11),(.a 12),(.a 15)] [] [(.va 0),(.va 1),(.va 2),(.va 3)]))
   (.ite (.eq (.a 14) (.l 4))
   (.need (treeB (.add (.a 1) (.l 1)))
   (.jump 0 [(.a 0),(.add (.a 1) (.l 1)),(.a 2),(.a 3),(.a 4),(.a 5),(.sub (.a 6) (.a 16)),(.a 7),(.a 8),(.a 9),(.a 10),(.a 11),(.a 15),(.a 13)] [] [(.va 0),(.va 1),(.va 2),(.va 3)]))
   (.ite (.eq (.a 14) (.l 3))
    (.need (treeB (.add (.a 1) (.l 1)))
    (.jump 0 [(.a 0),(.add (.a 1) (.l 1)),(.a 2),(.a 3),(.a 4),(.a 5),(.sub (.a 6) (.a 16)),(.a 7),(.a 8),(.a 9),(.a 10),(.a 15),(.a 12),(.a 13)] [] [(.va 0),(.va 1),(.va 2),(.va 3)]))
    (.ite (.eq (.a 14) (.l 2))
    (.need (treeB (.add (.a 1) (.l 1)))
    (.jump 0 [(.a 0),(.add (.a 1) (.l 1)),(.a 2),(.a 3),(.a 4),(.a 5),(.sub (.a 6) (.a 16)),(.a 7),(.a 8),(.a 9),(.a 15),(.a 11),(.a 12),(.a 13)] [] [(.va 0),(.va 1),(.va 2),(.va 3)]))
    (.ite (.eq (.a 14) (.l 1))
     (.need (treeB (.add (.a 1) (.l 1)))
     (.jump 0 [(.a 0),(.add (.a 1) (.l 1)),(.a 2),(.a 3),(.a 4),(.a 5),(.sub (.a 6) (.a 16)),(.a 7),(.a 8),(.a 15),(.a 10),(.a 11),(.a 12),(.a 13)] [] [(.va 0),(.va 1),(.va 2),(.va 3)]))
     (.ite (.eq (.a 14) (.l 0))
     (.need (treeB (.add (.a 1) (.l 1)))
     (.jump 0 [(.a 0),(.add (.a 1) (.l 1)),(.a 2),(.a 3),(.a 4),(.a 5),(.sub (.a 6) (.a 16)),(.a 7),(.a 15),(.a 9),(.a 10),(.a 11),(.a 12),(.a 13)] [] [(.va 0),(.va 1),(.va 2),(.va 3)]))
     .stuck)))))))
  (.ite (.eq (.a 14) (.l 3))
   (.need (treeB (.sub (.a 5) (.a 16)))
   (.ite (.eq (.a 14) (.l 5))
   (.need (treeB (.add (.a 1) (.l 1)))
   (.jump 0 [(.a 0),(.add (.a 1) (.l 1)),(.a 2),(.a 3),(.a 4),(.sub (.a 5) (.a 16)),(.a 6),(.a 7),(.a 8),(.a 9),(.a 10),(.a 11),(.a 12),(.a 15)] [] [(.va 0),(.va 1),(.va 2),(.va 3)]))
   (.ite (.eq (.a 14) (.l 4))
    (.need (treeB (.add (.a 1) (.l 1)))
    (.jump 0 [(.a 0),(.add (.a 1) (.l 1)),(.a 2),(.a 3),(.a 4),(.sub (.a 5) (.a 16)),(.a 6),(.a 7),(.a 8),(.a 9),(.a 10),(.a 11),(.a 15),(.a 13)] [] [(.va 0),(.va 1),(.va 2),(.va 3)]))
    (.ite (.eq (.a 14) (.l 3))
    (.need (treeB (.add (.a 1) (.l 1)))
    (.jump 0 [(.a 0),(.add (.a 1) (.l 1)),(.a 2),(.a 3),(.a 4),(.sub (.a 5) (.a 16)),(.a 6),(.a 7),(.a 8),(.a 9),(.a 10),(.a 15),(.a 12),(.a 13)] [] [(.va 0),(.va 1),(.va 2),(.va 3)]))
    (.ite (.eq (.a 14) (.l 2))
     (.need (treeB (.add (.a 1) (.l 1)))
     (.jump 0 [(.a 0),(.add (.a 1) (.l 1)),(.a 2),(.a 3),(.a 4),(.sub (.a 5) (.a 16)),(.a 6),(.a 7),(.a 8),(.a 9),(.a 15),(.a 11),(.a 12),(.a 13)] [] [(.va 0),(.va 1),(.va 2),(.va 3)]))
     (.ite (.eq (.a 14) (.l 1))
     (.need (treeB (.add (.a 1) (.l 1)))
     (.jump 0 [(.a 0),(.add (.a 1) (.l 1)),(.a 2),(.a 3),(.a 4),(.sub (.a 5) (.a 16)),(.a 6),(.a 7),(.a 8),(.a 15),(.a 10),(.a 11),(.a 12),(.a 13)] [] [(.va 0),(.va 1),(.va 2),(.va 3)]))
     (.ite (.eq (.a 14) (.l 0))
      (.need (treeB (.add (.a 1) (.l 1)))
      (.jump 0 [(.a 0),(.add (.a 1) (.l 1)),(.a 2),(.a 3),(.a 4),(.sub (.a 5) (.a 16)),(.a 6),(.a 7),(.a 15),(.a 9),(.a 10),(.a 11),(.a 12),(.a 13)] [] [(.va 0),(.va 1),(.va 2),(.va 3)]))
      .stuck)))))))
   (.ite (.eq (.a 14) (.l 2))
   (.need (treeB (.sub (.a 4) (.a 16)))
   (.ite (.eq (.a 14) (.l 5))
    (.need (treeB (.add (.a 1) (.l 1)))
    (.jump 0 [(.a 0),(.add (.a 1) (.l 1)),(.a 2),(.a 3),(.sub (.a 4) (.a 16)),(.a 5),(.a 6),(.a 7),(.a 8),(.a 9),(.a 10),(.a 11),(.a 12),(.a 15)] [] [(.va 0),(.va 1),(.va 2),(.va 3)]))
    (.ite (.eq (.a 14) (.l 4))
    (.need (treeB (.add (.a 1) (.l 1)))
    (.jump 0 [(.a 0),(.add (.a 1) (.l 1)),(.a 2),(.a 3),(.sub (.a 4) (.a 16)),(.a 5),(.a 6),(.a 7),(.a 8),(.a 9),(.a 10),(.a 11),(.a 15),(.a 13)] [] [(.va 0),(.va 1),(.va 2),(.va 3)]))
    (.ite (.eq (.a 14) (.l 3))
     (.need (treeB (.add (.a 1) (.l 1)))
     (.jump 0 [(.a 0),(.add (.a 1) (.l 1)),(.a 2),(.a 3),(.sub (.a 4) (.a 16)),(.a 5),(.a 6),(.a 7),(.a 8),(.a 9),(.a 10),(.a 15),(.a 12),(.a 13)] [] [(.va 0),(.va 1),(.va 2),(.va 3)]))
     (.ite (.eq (.a 14) (.l 2))
     (.need (treeB (.add (.a 1) (.l 1)))
     (.jump 0 [(.a 0),(.add (.a 1) (.l 1)),(.a 2),(.a 3),(.sub (.a 4) (.a 16)),(.a 5),(.a 6),(.a 7),(.a 8),(.a 9),(.a 15),(.a 11),(.a 12),(.a 13)] [] [(.va 0),(.va 1),(.va 2),(.va 3)]))
     (.ite (.eq (.a 14) (.l 1))
      (.need (treeB (.add (.a 1) (.l 1)))
      (.jump 0 [(.a 0),(.add (.a 1) (.l 1)),(.a 2),(.a 3),(.sub (.a 4) (.a 16)),(.a 5),(.a 6),(.a 7),(.a 8),(.a 15),(.a 10),(.a 11),(.a 12),(.a 13)] [] [(.va 0),(.va 1),(.va 2),(.va 3)]))
      (.ite (.eq (.a 14) (.l 0))
      (.need (treeB (.add (.a 1) (.l 1)))
      (.jump 0 [(.a 0),(.add (.a 1) (.l 1)),(.a 2),(.a 3),(.sub (.a 4) (.a 16)),(.a 5),(.a 6),(.a 7),(.a 15),(.a 9),(.a 10),(.a 11),(.a 12),(.a 13)] [] [(.va 0),(.va 1),(.va 2),(.va 3)]))
      .stuck)))))))
   (.ite (.eq (.a 14) (.l 1))
    (.need (treeB (.sub (.a 3) (.a 16)))
    (.ite (.eq (.a 14) (.l 5))
    (.need (treeB (.add (.a 1) (.l 1)))
    (.jump 0 [(.a 0),(.add (.a 1) (.l 1)),(.a 2),(.sub (.a 3) (.a 16)),(.a 4),(.a 5),(.a 6),(.a 7),(.a 8),(.a 9),(.a 10),(.a 11),(.a 12),(.a 15)] [] [(.va 0),(.va 1),(.va 2),(.va 3)]))
    (.ite (.eq (.a 14) (.l 4))
     (.need (treeB (.add (.a 1) (.l 1)))
     (.jump 0 [(.a 0),(.add (.a 1) (.l 1)),(.a 2),(.sub (.a 3) (.a 16)),(.a 4),(.a 5),(.a 6),(.a 7),(.a 8),(.a 9),(.a 10),(.a 11),(.a 15),(.a 13)] [] [(.va 0),(.va 1),(.va 2),(.va 3)]))
     (.ite (.eq (.a 14) (.l 3))
     (.need (treeB (.add (.a 1) (.l 1)))
     (.jump 0 [(.a 0),(.add (.a 1) (.l 1)),(.a 2),(.sub (.a 3) (.a 16)),(.a 4),(.a 5),(.a 6),(.a 7),(.a 8),(.a 9),(.a 10),(.a 15),(.a 12),(.a 13)] [] [(.va 0),(.va 1),(.va 2),(.va 3)]))
     (.ite (.eq (.a 14) (.l 2))
      (.need (treeB (.add (.a 1) (.l 1)))
      (.jump 0 [(.a 0),(.add (.a 1) (.l 1)),(.a 2),(.sub (.a 3) (.a 16)),(.a 4),(.a 5),(.a 6),(.a 7),(.a 8),(.a 9),(.a 15),(.a 11),(.a 12),(.a 13)] [] [(.va 0),(.va 1),(.va 2),(.va 3)]))
      (.ite (.eq (.a 14) (.l 1))
      (.need (treeB (.add (.a 1) (.l 1)))
      (.jump 0 [(.a 0),(.add (.a 1) (.l 1)),(.a 2),(.sub (.a 3) (.a 16)),(.a 4),(.a 5),(.a 6),(.a 7),(.a 8),(.a 15),(.a 10),(.a 11),(.a 12),(.a 13)] [] [(.va 0),(.va 1),(.va 2),(.va 3)]))
      (.ite (.eq (.a 14) (.l 0))
       (.need (treeB (.add (.a 1) (.l 1)))
       (.jump 0 [(.a 0),(.add (.a 1) (.l 1)),(.a 2),(.sub (.a 3) (.a 16)),(.a 4),(.a 5),(.a 6),(.a 7),(.a 15),(.a 9),(.a 10),(.a 11),(.a 12),(.a 13)] [] [(.va 0),(.va 1),(.va 2),(.va 3)]))
       .stuck)))))))
    (.ite (.eq (.a 14) (.l 0))
    (.need (treeB (.sub (.a 2) (.a 16)))
    (.ite (.eq (.a 14) (.l 5))
     (.need (treeB (.add (.a 1) (.l 1)))
     (.jump 0 [(.a 0),(.add (.a 1) (.l 1)),(.sub (.a 2) (.a 16)),(.a 3),(.a 4),(.a 5),(.a 6),(.a 7),(.a 8),(.a 9),(.a 10),(.a 11),(.a 12),(.a 15)] [] [(.va 0),(.va 1),(.va 2),(.va 3)]))
     (.ite (.eq (.a 14) (.l 4))
     (.need (treeB (.add (.a 1) (.l 1)))
     (.jump 0 [(.a 0),(.add (.a 1) (.l 1)),(.sub (.a 2) (.a 16)),(.a 3),(.a 4),(.a 5),(.a 6),(.a 7),(.a 8),(.a 9),(.a 10),(.a 11),(.a 15),(.a 13)] [] [(.va 0),(.va 1),(.va 2),(.va 3)]))
     (.ite (.eq (.a 14) (.l 3))
      (.need (treeB (.add (.a 1) (.l 1)))
      (.jump 0 [(.a 0),(.add (.a 1) (.l 1)),(.sub (.a 2) (.a 16)),(.a 3),(.a 4),(.a 5),(.a 6),(.a 7),(.a 8),(.a 9),(.a 10),(.a 15),(.a 12),(.a 13)] [] [(.va 0),(.va 1),(.va 2),(.va 3)]))
      (.ite (.eq (.a 14) (.l 2))
      (.need (treeB (.add (.a 1) (.l 1)))
      (.jump 0 [(.a 0),(.add (.a 1) (.l 1)),(.sub (.a 2) (.a 16)),(.a 3),(.a 4),(.a 5),(.a 6),(.a 7),(.a 8),(.a 9),(.a 15),(.a 11),(.a 12),(.a 13)] [] [(.va 0),(.va 1),(.va 2),(.va 3)]))
      (.ite (.eq (.a 14) (.l 1))
       (.need (treeB (.add (.a 1) (.l 1)))
       (.jump 0 [(.a 0),(.add (.a 1) (.l 1)),(.sub (.a 2) (.a 16)),(.a 3),(.a 4),(.a 5),(.a 6),(.a 7),(.a 8),(.a 15),(.a 10),(.a 11),(.a 12),(.a 13)] [] [(.va 0),(.va 1),(.va 2),(.va 3)]))
       (.ite (.eq (.a 14) (.l 0))
       (.need (treeB (.add (.a 1) (.l 1)))
       (.jump 0 [(.a 0),(.add (.a 1) (.l 1)),(.sub (.a 2) (.a 16)),(.a 3),(.a 4),(.a 5),(.a 6),(.a 7),(.a 15),(.a 9),(.a 10),(.a 11),(.a 12),(.a 13)] [] [(.va 0),(.va 1),(.va 2),(.va 3)]))
       .stuck)))))))
    .stuck))))))))
 (.both a4a a4a))
def setup_shares_S:Sx.Sys:=⟨[(.sh (.agg [.val,.val,.val,.val]))],a7t,[a4c],none,none⟩
def b4q:List Cfg:=[{ todo:=[(.code [false,false,true,false,true,true]),(.inLoop [false,false,true,false,true,true]),(.inBlock 0),(.code [true,true,true])],sl:=[(.junk 0),(.junk 1),(.ptr 1 0),(.ptr 2 0),.undef]++jkR 2 5++[(.va 0),(I L (A 0)),(I L (A 1))]++jkR 7 17++[.undef,.undef],H:=[(.cells [(.va 1),(.va 2),(.va 3),(.va 0)] 27 false),(.cells [(I L (A 2)),(I L (A 3)),(I L (A 4)),(I L (A 5)),(I L (A 6)),(I L (A 7))] 40 false),(.cells [(I L (A 8)),(I L (A 9)),(I L (A 10)),(I L (A 11)),(I L (A 12)),(I L (A 13))] 40 false)],ni:=14,nb:=0,nv:=4,nj:=24 }]
theorem b5U:SysOk Try.prog 69 setup_shares_S:=a0N (c:=(cg [[false,false,true,false,true,true]] [] [] false false false true)) (a0J _ _ _ _ _ _ _ _ _) Try.func69 Try.call69 (by kernel_rfl) b4q setup_shares_S 5000 rfl (by kernel_rfl) (by kernel_rfl) rfl
def a5l:PT :=
 (.call 42 [(.va 0)] [] [(.one (D L))]
 (.ite (.not (.eq (.a 6) (.l 0)))
 (.ret false (I L (E 0)) [])
 (.call 68 [(.agg [(I L (A 0)),(I L (A 1)),(I L (A 2)),(I L (A 3)),(I L (A 4)),(I L (A 5))])] [] [(.one (D L))]
 (.ite (.not (.eq (.a 7) (.l 0)))
  (.ret false (I L (E 0)) [])
  (.need (.is 0 0)
  (.jump 0 [(.l 0),(.slen 0),(.l 0),(.a 0),(.a 1),(.a 2),(.a 3),(.a 4),(.a 5)] [] [(.va 1),(.va 0)]))))))
def a2O:PT :=
 (.ite (.lt (.a 2) (.a 1))
 (.need (treeI (.a 2) (.slen 1))
 (.load false (.ea 1 (.a 2) 5 0) [.val,(D L),(D L),(D L),(D L)]
 (.ite (.eq (.a 2) (.l 5))
  (.callv 0 [(.agg [(.va 2),(I L (A 9)),(I L (A 10)),(I L (A 11)),(I L (A 12))])] [(.one (D L))]
  (.need (treeB (.mul (.a 8) (.a 13)))
  (.need (treeB (.add (.a 0) (.mul (.a 8) (.a 13))))
  (.jump 0 [(.add (.a 0) (.mul (.a 8) (.a 13))),(.a 1),(.l 6),(.a 3),(.a 4),(.a 5),(.a 6),(.a 7),(.a 8)] [] [(.va 0),(.va 1)]))))
  (.ite (.eq (.a 2) (.l 4))
  (.callv 0 [(.agg [(.va 2),(I L (A 9)),(I L (A 10)),(I L (A 11)),(I L (A 12))])] [(.one (D L))]
  (.need (treeB (.mul (.a 7) (.a 13)))
  (.need (treeB (.add (.a 0) (.mul (.a 7) (.a 13))))
  (.jump 0 [(.add (.a 0) (.mul (.a 7) (.a 13))),(.a 1),(.l 5),(.a 3),(.a 4),(.a 5),(.a 6),(.a 7),(.a 8)] [] [(.va 0),(.va 1)]))))
  (.ite (.eq (.a 2) (.l 3))
   (.callv 0 [(.agg [(.va 2),(I L (A 9)),(I L (A 10)),(I L (A 11)),(I L (A 12))])] [(.one (D L))]
   (.need (treeB (.mul (.a 6) (.a 13)))
   (.need (treeB (.add (.a 0) (.mul (.a 6) (.a 13))))
   (.jump 0 [(.add (.a 0) (.mul (.a 6) (.a 13))),(.a 1),(.l 4),(.a 3),(.a 4),(.a 5),(.a 6),(.a 7),(.a 8)] [] [(.va 0),(.va 1)]))))
   (.ite (.eq (.a 2) (.l 2))
   (.callv 0 [(.agg [(.va 2),(I L (A 9)),(I L (A 10)),(I L (A 11)),(I L (A 12))])] [(.one (D L))]
   (.need (treeB (.mul (.a 5) (.a 13)))
   (.need (treeB (.add (.a 0) (.mul (.a 5) (.a 13))))
   (.jump 0 [(.add (.a 0) (.mul (.a 5) (.a 13))),(.a 1),(.l 3),(.a 3),(.a 4),(.a 5),(.a 6),(.a 7),(.a 8)] [] [(.va 0),(.va 1)]))))
   (.ite (.eq (.a 2) (.l 1))
    (.callv 0 [(.agg [(.va 2),(I L (A 9)),(I L (A 10)),(I L (A 11)),(I L (A 12))])] [(.one (D L))]
    (.need (treeB (.mul (.a 4) (.a 13)))
    (.need (treeB (.add (.a 0) (.mul (.a 4) (.a 13))))
    (.jump 0 [(.add (.a 0) (.mul (.a 4) (.a 13))),(.a 1),(.l 2),(.a 3),(.a 4),(.a 5),(.a 6),(.a 7),(.a 8)] [] [(.va 0),(.va 1)]))))
    (.ite (.eq (.a 2) (.l 0))
    (.callv 0 [(.agg [(.va 2),(I L (A 9)),(I L (A 10)),(I L (A 11)),(I L (A 12))])] [(.one (D L))]
    (.need (treeB (.mul (.a 3) (.a 13)))
    (.need (treeB (.add (.a 0) (.mul (.a 3) (.a 13))))
    (.jump 0 [(.add (.a 0) (.mul (.a 3) (.a 13))),(.a 1),(.l 1),(.a 3),(.a 4),(.a 5),(.a 6),(.a 7),(.a 8)] [] [(.va 0),(.va 1)]))))
    .stuck))))))))
 (.ret false (I L (A 0)) []))
def catalog_units_sum_S:Sx.Sys:=⟨[(.sh (.agg [.val,(D L),(D L),(D L),(D L),(D L),(D L)])),(.sh (.one .val))],a5l,[a2O],none,none⟩
def b0P:List Cfg:=[{ todo:=[(.code [false,false,true,false,true,true,true]),(.inLoop [false,false,true,false,true,true,true]),(.inBlock 0),(.code [true,true,true,true])],sl:=[(.junk 0),(.va 0),(.ptr 0 0),.undef,(.junk 1),(I L (A 0))]++jkR 2 13++[(.va 1),(I L (A 1)),(I L (A 2))]++jkR 15 15++[.undef],H:=[(.cells [(.va 1),(I L (A 3)),(I L (A 4)),(I L (A 5)),(I L (A 6)),(I L (A 7)),(I L (A 8))] 133 false)],ni:=9,nb:=0,nv:=2,nj:=30 }]
theorem b1N:SysOk Try.prog 89 catalog_units_sum_S:=a0N (c:=(cg [[false,false,true,false,true,true,true]] [] [(31,[2])] false false false true)) (a0J _ _ _ _ _ _ _ _ _) Try.func89 Try.call89 (by kernel_rfl) b0P catalog_units_sum_S 5000 rfl (by kernel_rfl) (by kernel_rfl) rfl
end Go.Proofs.Ytflcopaopimlpaa
set_option maxRecDepth 100000
namespace Go.Proofs.Ytflcopaopimlpaa
open Go.Sx
def d2E:PT :=
 (.call 20 [(.va 0)] [] [(.one .val)]
 (.call 21 [(.va 1)] [] [(.one .val)]
 (.call 19 [(.va 6),(.va 7)] [] [(.one .bool)]
 (.ite (.not (.a 0))
 (.ret false (.bool (.t false)) [])
 (.jump 0 [(.l (-1))] [] [(.va 0),(.va 1),(.va 2),(.va 3),(.va 4),(.va 5)])))))
def d2A:PT :=
 (.need (.is 0 3)
 (.ite (.le (.a 0) (.slen 3))
 (.call 31 [(.va 1),(I L (A 0))] [] [(.one .val)]
 (.call 25 [(.va 0),(I L (A 0))] [] [(.one .val)]
 (.call 19 [(.va 7),(.va 6)] [] [(.one .bool)]
 (.ite (.not (.a 0))
  (.ret false (.bool (.t false)) [])
  (.jump 1 [(.a 0),(.l 0)] [] [(.va 0),(.va 1),(.va 6),(.va 2),(.va 3),(.va 4),(.va 5)])))))
 (.ret false (.bool (.t true)) [])))
def d2B:PT :=
 (.need (.is 0 2)
 (.ite (.lt (.a 1) (.slen 2))
 (.need (treeI (.a 1) (.slen 2))
 (.load false (.ea 2 (.a 1) 8 1) [(D L),(D L),(D L),(D L),(D L),(D L)]
 (.call 23 [(.va 0),(I L (A 0)),(.agg [(I L (A 2)),(I L (A 3)),(I L (A 4)),(I L (A 5)),(I L (A 6)),(I L (A 7))])] [] [(.one (D L)),(.one .bool)]
 (.ite (.not (.a 0))
  (.ret false (.bool (.t false)) [])
  (.need (treeI (.a 1) (.slen 2))
  (.load false (.ea 2 (.a 1) 8 7) [(D L)]
  (.ite (.not (.eq (.a 8) (.a 9)))
  (.ret false (.bool (.t false)) [])
  (.need (treeB (.add (.a 1) (.l 1)))
  (.jump 1 [(.a 0),(.add (.a 1) (.l 1))] [] [(.va 0),(.va 1),(.va 2),(.va 3),(.va 4),(.va 5),(.va 6)])))))))))
 (.need (treeB (.add (.a 0) (.l 1)))
 (.jump 0 [(.add (.a 0) (.l 1))] [] [(.va 0),(.va 1),(.va 3),(.va 4),(.va 5),(.va 6)]))))
def saleroomlaw16_same_S:Sx.Sys:=⟨[(.sh (.one .val)),(.sh (.one .val)),(.sh (.agg [.val,.val,.val,.val]))],d2E,[d2A,d2B],none,none⟩
def d2M:List Cfg:=[{ todo:=[(.code [false,false,true,false,true,true]),(.inLoop [false,false,true,false,true,true]),(.inBlock 0),(.code [true,true,true])],sl:=[(.va 0),(.va 1),(.junk 0),.undef,.undef,(.ptr 0 0),(.junk 1),(I L (A 0))]++jkR 2 54,H:=[(.cells [(.va 2),(.va 3),(.va 4),(.va 5)] 27 false)],ni:=1,nb:=0,nv:=6,nj:=56 },
 { todo:=[(.code [false,false,true,true,true,false,false,true,false,false,true,false,true,true]),(.inLoop [false,false,true,true,true,false,false,true,false,false,true,false,true,true]),(.inBlock 2),(.inBlock 1),(.code [true,true,false,false,true,false,true,true]),(.inLoop [false,false,true,false,true,true]),(.inBlock 0),(.code [true,true,true])],sl:=[(.va 0),(.va 1),(.junk 0),.undef,.undef,(.ptr 0 0),(.junk 1),(I L (A 0)),(.va 2),(I L (A 1))]++jkR 2 52,H:=[(.cells [(.va 3),(.va 4),(.va 5),(.va 6)] 27 false)],ni:=2,nb:=0,nv:=7,nj:=54 }]
theorem d2P:SysOk Try.prog 13 saleroomlaw16_same_S:=a0N (c:=(cg [[false,false,true,false,true,true],[false,false,true,true,true,false,false,true,false,false,true,false,true,true]] [] [] false false false true)) (a0J _ _ _ _ _ _ _ _ _) Try.func13 Try.call13 (by kernel_rfl) d2M saleroomlaw16_same_S 5000 rfl (by kernel_rfl) (by kernel_rfl) rfl
def a3K:PT :=
 (.jump 0 [(.l 0)] [] [(.va 0),.nilS])
def a1Y:PT :=
 (.need (.is 1 0)
 (.load false (.pa 0 4) [.val]
 (.need (.is 0 2)
 (.ite (.lt (.a 0) (.slen 2))
 (.need (.is 1 0)
 (.load false (.pa 0 4) [.val]
 (.need (treeI (.a 0) (.slen 3))
 (.load false (.ea 3 (.a 0) 1 0) [.val]
 (.app (some 1) (.va 4) 8
 (.need (treeB (.add (.a 0) (.l 1)))
 (.jump 0 [(.add (.a 0) (.l 1))] [] [(.va 0),(.va 5)])))))))
 (.ret false (.va 1) [])))))
def saleroomref16_Book_All_S:Sx.Sys:=⟨[(.sh (.one .val))],a3K,[a1Y],none,none⟩
def a7J:List Cfg:=[{ todo:=[(.code [false,false,true,false,true,true]),(.inLoop [false,false,true,false,true,true]),(.inBlock 0),(.code [true,true,true])],sl:=[(.va 0),.undef,(.junk 0),(.va 1),(I L (A 0))]++jkR 1 18++[.undef],H:=[(.row 1 52 8)],ni:=1,nb:=0,nv:=2,nj:=19 }]
theorem a8s:SysOk Try.prog 21 saleroomref16_Book_All_S:=a0N (c:=(cg [[false,false,true,false,true,true]] [] [] false false false true)) (a0J _ _ _ _ _ _ _ _ _) Try.func21 Try.call21 (by kernel_rfl) a7J saleroomref16_Book_All_S 5000 rfl (by kernel_rfl) (by kernel_rfl) rfl
def d0A:PT :=
 (.call 16 [(.va 0)] [] [(.one .val)]
 (.jump 0 [(.a 0),(.l 0)] [] [(.va 0),(.va 1),(.va 2)]))
def c9Q:PT :=
 (.need (.is 0 1)
 (.ite (.lt (.a 1) (.slen 1))
 (.need (treeI (.a 1) (.slen 1))
 (.need (treeI (.a 1) (.slen 1))
 (.load false (.ea 1 (.a 1) 8 1) [(D L),(D L),(D L),(D L),(D L),(D L)]
 (.load false (.ea 1 (.a 1) 8 7) [(D L)]
 (.call 17 [(.va 2),(I L (A 0)),(.agg [(I L (A 2)),(I L (A 3)),(I L (A 4)),(I L (A 5)),(I L (A 6)),(I L (A 7))]),(I L (A 8))] [] [(.one (D L))]
 (.ite (.not (.eq (.a 9) (.l 0)))
  (.ret true (I L (A 9)) [])
  (.need (treeB (.add (.a 1) (.l 1)))
  (.jump 0 [(.a 0),(.add (.a 1) (.l 1))] [] [(.va 0),(.va 1),(.va 2)]))))))))
 (.need (.is 1 2)
 (.load false (.pa 2 4) [.val]
 (.need (.is 1 0)
 (.storeM (.pa 0 4) [(.va 3)]
 (.ret true (I L (E 0)) [])))))))
def saleroomref16_Book_PutAll_S:Sx.Sys:=⟨[(.sh (.one .val)),(.sh (.one (D L))),(.sh (.one .val))],d0A,[c9Q],none,none⟩
def d0Q:List Cfg:=[{ todo:=[(.code [false,false,true,false,true,true]),(.inLoop [false,false,true,false,true,true]),(.inBlock 0),(.code [true,true,true])],sl:=[(.va 0),(I L (A 0)),(.va 1),.undef,.undef,.undef,(.junk 0),(.va 2),(I L (A 1))]++jkR 1 24++udR 8,H:=[],ni:=2,nb:=0,nv:=3,nj:=25 }]
theorem d0T:SysOk Try.prog 29 saleroomref16_Book_PutAll_S:=a0N (c:=(cg [[false,false,true,false,true,true]] [] [] true true false true)) (a0J _ _ _ _ _ _ _ _ _) Try.func29 Try.call29 (by kernel_rfl) d0Q saleroomref16_Book_PutAll_S 5000 rfl (by kernel_rfl) (by kernel_rfl) rfl
def a3o:PT :=
 (.need (.is 4 0)
 (.ite (.not (.nil 0))
 (.ite (.le (.l 0) (.a 0))
  (.need (.is 1 0)
  (.load false (.pa 0 4) [.val]
  (.need (.is 0 1)
  (.ret false (.bool (.lt (.a 0) (.slen 1))) []))))
  (.ret false (.bool (.t false)) []))
 (.ret false (.bool (.t false)) [])))
def bidbook_Book_has_S:Sx.Sys:=⟨[(.sh (.one .val)),(.sh (.one (D L)))],a3o,[],none,none⟩
def b1d:List Cfg:=[]
theorem a7g:SysOk Try.prog 37 bidbook_Book_has_S:=a0N (c:=(cg [] [] [] false false false true)) (a0J _ _ _ _ _ _ _ _ _) Try.func37 Try.call37 (by kernel_rfl) b1d bidbook_Book_has_S 5000 rfl (by kernel_rfl) (by kernel_rfl) rfl
def a0Z:PT :=
 (.need (.is 0 0)
 (.ite (.nil 0)
 (.ret false .nilS [])
 (.app none (.lit []) 5
 (.app (some 1) (.va 0) 5
 (.ret false (.va 2) [])))))
def slices_Clone_api_Product_api_Product_S:Sx.Sys:=⟨[(.sh (.one .val))],a0Z,[],none,none⟩
def a2J:List Cfg:=[]
theorem a4W:SysOk Try.prog 46 slices_Clone_api_Product_api_Product_S:=a0N (c:=(cg [] [] [] false false false true)) (a0J _ _ _ _ _ _ _ _ _) Try.func46 Try.call46 (by kernel_rfl) a2J slices_Clone_api_Product_api_Product_S 5000 rfl (by kernel_rfl) (by kernel_rfl) rfl
def a4R:PT :=
 (.call 14 [(.agg [(.va 0),(.va 1),(.va 2),(.va 3)])] [] [(.one (D L))]
 (.ite (.not (.eq (.a 0) (.l 0)))
 (.ret false (.tup [(.agg [(I L (E 0)),(I L (E 0)),(I L (E 0)),(I L (E 0)),(I L (E 0)),(I L (E 0))]),(.agg [(I L (E 0)),(I L (E 0)),(I L (E 0)),(I L (E 0)),(I L (E 0)),(I L (E 0))])]) [])
 (.jump 0 [(.l 0),(.l 0),(.l 0),(.l 0),(.l 0),(.l 0),(.l 0)] [] [(.va 0),(.va 1),(.va 2),(.va 3)])))
def a2C:PT :=
 (.need (.is 0 0)
 (.ite (.lt (.a 0) (.slen 0))
 (.need (treeI (.a 0) (.slen 0))
 (.load false (.ea 0 (.a 0) 5 1) [(D L)]
 (.ite (.eq (.a 0) (.l 5))
  (.jump 0 [(.l 6),(.a 1),(.a 2),(.a 3),(.a 4),(.a 5),(.a 7)] [] [(.va 0),(.va 1),(.va 2),(.va 3)])
  (.ite (.eq (.a 0) (.l 4))
  (.jump 0 [(.l 5),(.a 1),(.a 2),(.a 3),(.a 4),(.a 7),(.a 6)] [] [(.va 0),(.va 1),(.va 2),(.va 3)])
  (.ite (.eq (.a 0) (.l 3))
   (.jump 0 [(.l 4),(.a 1),(.a 2),(.a 3),(.a 7),(.a 5),(.a 6)] [] [(.va 0),(.va 1),(.va 2),(.va 3)])
   (.ite (.eq (.a 0) (.l 2))
   (.jump 0 [(.l 3),(.a 1),(.a 2),(.a 7),(.a 4),(.a 5),(.a 6)] [] [(.va 0),(.va 1),(.va 2),(.va 3)])
   (.ite (.eq (.a 0) (.l 1))
    (.jump 0 [(.l 2),(.a 1),(.a 7),(.a 3),(.a 4),(.a 5),(.a 6)] [] [(.va 0),(.va 1),(.va 2),(.va 3)])
    (.ite (.eq (.a 0) (.l 0))
    (.jump 0 [(.l 1),(.a 7),(.a 2),(.a 3),(.a 4),(.a 5),(.a 6)] [] [(.va 0),(.va 1),(.va 2),(.va 3)])
    .stuck))))))))
 (.jump 1 [(.l 0),(.a 1),(.a 2),(.a 3),(.a 4),(.a 5),(.a 6),(.l 0),(.l 0),(.l 0),(.l 0),(.l 0),(.l 0)] [] [(.va 0),(.va 1),(.va 2),(.va 3)])))
def a2E:PT :=
 (.need (.is 0 3)
 (.ite (.lt (.a 0) (.slen 3))
 (.need (treeI (.a 0) (.slen 3))
 (.load false (.ea 3 (.a 0) 3 0) [(D L),(D L),(D L)]
 (.ite (.eq (.a 13) (.l 5))
  (.need (treeB (.sub (.a 6) (.a 15)))
  (.ite (.eq (.a 13) (.l 5))
  (.need (treeB (.add (.a 0) (.l 1)))
  (.jump 1 [(.add (.a 0) (.l 1)),(.a 1),(.a 2),(.a 3),(.a 4),(.a 5),(.sub (.a 6) (.a 15)),(.a 7),(.a 8),(.a 9),(.a 10),(.a 11),(.a 14)] [] [(.va 0),(.va 1),(.va 2),(.va 3)]))
  (.ite (.eq (.a 13) (.l 4))
   (.need (treeB (.add (.a 0) (.l 1)))
   (.jump 1 [(.add (.a 0) (.l 1)),(.a 1),(.a 2),(.a 3),(.a 4),(.a 5),(.sub (.a 6) (.a 15)),(.a 7),(.a 8),(.a 9),(.a 10),(.a 14),(.a 12)] [] [(.va 0),(.va 1),(.va 2),(.va 3)]))
   (.ite (.eq (.a 13) (.l 3))
   (.need (treeB (.add (.a 0) (.l 1)))
   (.jump 1 [(.add (.a 0) (.l 1)),(.a 1),(.a 2),(.a 3),(.a 4),(.a 5),(.sub (.a 6) (.a 15)),(.a 7),(.a 8),(.a 9),(.a 14),(.a 11),(.a 12)] [] [(.va 0),(.va 1),(.va 2),(.va 3)]))
   (.ite (.eq (.a 13) (.l 2))
    (.need (treeB (.add (.a 0) (.l 1)))
    (.jump 1 [(.add (.a 0) (.l 1)),(.a 1),(.a 2),(.a 3),(.a 4),(.a 5),(.sub (.a 6) (.a 15)),(.a 7),(.a 8),(.a 14),(.a 10),(.a 11),(.a 12)] [] [(.va 0),(.va 1),(.va 2),(.va 3)]))
    (.ite (.eq (.a 13) (.l 1))
    (.need (treeB (.add (.a 0) (.l 1)))
    (.jump 1 [(.add (.a 0) (.l 1)),(.a 1),(.a 2),(.a 3),(.a 4),(.a 5),(.sub (.a 6) (.a 15)),(.a 7),(.a 14),(.a 9),(.a 10),(.a 11),(.a 12)] [] [(.va 0),(.va 1),(.va 2),(.va 3)]))
    (.ite (.eq (.a 13) (.l 0))
     (.need (treeB (.add (.a 0) (.l 1)))
     (.jump 1 [(.add (.a 0) (.l 1)),(.a 1),(.a 2),(.a 3),(.a 4),(.a 5),(.sub (.a 6) (.a 15)),(.a 14),(.a 8),(.a 9),(.a 10),(.a 11),(.a 12)] [] [(.va 0),(.va 1),(.va 2),(.va 3)]))
     .stuck)))))))
  (.ite (.eq (.a 13) (.l 4))
  (.need (treeB (.sub (.a 5) (.a 15)))
  (.ite (.eq (.a 13) (.l 5))
   (.need (treeB (.add (.a 0) (.l 1)))
   (.jump 1 [(.add (.a 0) (.l 1)),(.a 1),(.a 2),(.a 3),(.a 4),(.sub (.a 5) (.a 15)),(.a 6),(.a 7),(.a 8),(.a 9),(.a 10),(.a 11),(.a 14)] [] [(.va 0),(.va 1),(.va 2),(.va 3)]))
   (.ite (.eq (.a 13) (.l 4))
   (.need (treeB (.add (.a 0) (.l 1)))
   (.jump 1 [(.add (.a 0) (.l 1)),(.a 1),(.a 2),(.a 3),(.a 4),(.sub (.a 5) (.a 15)),(.a 6),(.a 7),(.a 8),(.a 9),(.a 10),(.a 14),(.a 12)] [] [(.va 0),(.va 1),(.va 2),(.va 3)]))
   (.ite (.eq (.a 13) (.l 3))
    (.need (treeB (.add (.a 0) (.l 1)))
    (.jump 1 [(.add (.a 0) (.l 1)),(.a 1),(.a 2),(.a 3),(.a 4),(.sub (.a 5) (.a 15)),(.a 6),(.a 7),(.a 8),(.a 9),(.a 14),(.a 11),(.a 12)] [] [(.va 0),(.va 1),(.va 2),(.va 3)]))
    (.ite (.eq (.a 13) (.l 2))
    (.need (treeB (.add (.a 0) (.l 1)))
    (.jump 1 [(.add (.a 0) (.l 1)),(.a 1),(.a 2),(.a 3),(.a 4),(.sub (.a 5) (.a 15)),(.a 6),(.a 7),(.a 8),(.a 14),(.a 10),(.a 11),(.a 12)] [] [(.va 0),(.va 1),(.va 2),(.va 3)]))
    (.ite (.eq (.a 13) (.l 1))
     (.need (treeB (.add (.a 0) (.l 1)))
     (.jump 1 [(.add (.a 0) (.l 1)),(.a 1),(.a 2),(.a 3),(.a 4),(.sub (.a 5) (.a 15)),(.a 6),(.a 7),(.a 14),(.a 9),(.a 10),(.a 11),(.a 12)] [] [(.va 0),(.va 1),(.va 2),(.va 3)]))
     (.ite (.eq (.a 13) (.l 0))
     (.need (treeB (.add (.a 0) (.l 1)))
     (.jump 1 [(.add (.a 0) (.l 1)),(.a 1),(.a 2),(.a 3),(.a 4),(.sub (.a 5) (.a 15)),(.a 6),(.a 14),(.a 8),(.a 9),(.a 10),(.a 11),(.a 12)] [] [(.va 0),(.va 1),(.va 2),(.va 3)]))
     .stuck)))))))
  (.ite (.eq (.a 13) (.l 3))
   (.need (treeB (.sub (.a 4) (.a 15)))
   (.ite (.eq (.a 13) (.l 5))
   (.need (treeB (.add (.a 0) (.l 1)))
   (.jump 1 [(.add (.a 0) (.l 1)),(.a 1),(.a 2),(.a 3),(.sub (.a 4) (.a 15)),(.a 5),(.a 6),(.a 7),(.a 8),(.a 9),(.a 10),(.a 11),(.a 14)] [] [(.va 0),(.va 1),(.va 2),(.va 3)]))
   (.ite (.eq (.a 13) (.l 4))
    (.need (treeB (.add (.a 0) (.l 1)))
    (.jump 1 [(.add (.a 0) (.l 1)),(.a 1),(.a 2),(.a 3),(.sub (.a 4) (.a 15)),(.a 5),(.a 6),(.a 7),(.a 8),(.a 9),(.a 10),(.a 14),(.a 12)] [] [(.va 0),(.va 1),(.va 2),(.va 3)]))
    (.ite (.eq (.a 13) (.l 3))
    (.need (treeB (.add (.a 0) (.l 1)))
    (.jump 1 [(.add (.a 0) (.l 1)),(.a 1),(.a 2),(.a 3),(.sub (.a 4) (.a 15)),(.a 5),(.a 6),(.a 7),(.a 8),(.a 9),(.a 14),(.a 11),(.a 12)] [] [(.va 0),(.va 1),(.va 2),(.va 3)]))
    (.ite (.eq (.a 13) (.l 2))
     (.need (treeB (.add (.a 0) (.l 1)))
     (.jump 1 [(.add (.a 0) (.l 1)),(.a 1),(.a 2),(.a 3),(.sub (.a 4) (.a 15)),(.a 5),(.a 6),(.a 7),(.a 8),(.a 14),(.a 10),(.a 11),(.a 12)] [] [(.va 0),(.va 1),(.va 2),(.va 3)]))
     (.ite (.eq (.a 13) (.l 1))
     (.need (treeB (.add (.a 0) (.l 1)))
     (.jump 1 [(.add (.a 0) (.l 1)),(.a 1),(.a 2),(.a 3),(.sub (.a 4) (.a 15)),(.a 5),(.a 6),(.a 7),(.a 14),(.a 9),(.a 10),(.a 11),(.a 12)] [] [(.va 0),(.va 1),(.va 2),(.va 3)]))
     (.ite (.eq (.a 13) (.l 0))
      (.need (treeB (.add (.a 0) (.l 1)))
      (.jump 1 [(.add (.a 0) (.l 1)),(.a 1),(.a 2),(.a 3),(.sub (.a 4) (.a 15)),(.a 5),(.a 6),(.a 14),(.a 8),(.a 9),(.a 10),(.a 11),(.a 12)] [] [(.va 0),(.va 1),(.va 2),(.va 3)]))
      .stuck)))))))
   (.ite (.eq (.a 13) (.l 2))
   (.need (treeB (.sub (.a 3) (.a 15)))
   (.ite (.eq (.a 13) (.l 5))
    (.need (treeB (.add (.a 0) (.l 1)))
    (.jump 1 [(.add (.a 0) (.l 1)),(.a 1),(.a 2),(.sub (.a 3) (.a 15)),(.a 4),(.a 5),(.a 6),(.a 7),(.a 8),(.a 9),(.a 10),(.a 11),(.a 14)] [] [(.va 0),(.va 1),(.va 2),(.va 3)]))
    (.ite (.eq (.a 13) (.l 4))
    (.need (treeB (.add (.a 0) (.l 1)))
    (.jump 1 [(.add (.a 0) (.l 1)),(.a 1),(.a 2),(.sub (.a 3) (.a 15)),(.a 4),(.a 5),(.a 6),(.a 7),(.a 8),(.a 9),(.a 10),(.a 14),(.a 12)] [] [(.va 0),(.va 1),(.va 2),(.va 3)]))
    (.ite (.eq (.a 13) (.l 3))
     (.need (treeB (.add (.a 0) (.l 1)))
     (.jump 1 [(.add (.a 0) (.l 1)),(.a 1),(.a 2),(.sub (.a 3) (.a 15)),(.a 4),(.a 5),(.a 6),(.a 7),(.a 8),(.a 9),(.a 14),(.a 11),(.a 12)] [] [(.va 0),(.va 1),(.va 2),(.va 3)]))
     (.ite (.eq (.a 13) (.l 2))
     (.need (treeB (.add (.a 0) (.l 1)))
     (.jump 1 [(.add (.a 0) (.l 1)),(.a 1),(.a 2),(.sub (.a 3) (.a 15)),(.a 4),(.a 5),(.a 6),(.a 7),(.a 8),(.a 14),(.a 10),(.a 11),(.a 12)] [] [(.va 0),(.va 1),(.va 2),(.va 3)]))
     (.ite (.eq (.a 13) (.l 1))
      (.need (treeB (.add (.a 0) (.l 1)))
      (.jump 1 [(.add (.a 0) (.l 1)),(.a 1),(.a 2),(.sub (.a 3) (.a 15)),(.a 4),(.a 5),(.a 6),(.a 7),(.a 14),(.a 9),(.a 10),(.a 11),(.a 12)] [] [(.va 0),(.va 1),(.va 2),(.va 3)]))
      (.ite (.eq (.a 13) (.l 0))
      (.need (treeB (.add (.a 0) (.l 1)))
      (.jump 1 [(.add (.a 0) (.l 1)),(.a 1),(.a 2),(.sub (.a 3) (.a 15)),(.a 4),(.a 5),(.a 6),(.a 14),(.a 8),(.a 9),(.a 10),(.a 11),(.a 12)] [] [(.va 0),(.va 1),(.va 2),(.va 3)]))
      .stuck)))))))
   (.ite (.eq (.a 13) (.l 1))
    (.need (treeB (.sub (.a 2) (.a 15)))
    (.ite (.eq (.a 13) (.l 5))
    (.need (treeB (.add (.a 0) (.l 1)))
    (.jump 1 [(.add (.a 0) (.l 1)),(.a 1),(.sub (.a 2) (.a 15)),(.a 3),(.a 4),(.a 5),(.a 6),(.a 7),(.a 8),(.a 9),(.a 10),(.a 11),(.a 14)] [] [(.va 0),(.va 1),(.va 2),(.va 3)]))
    (.ite (.eq (.a 13) (.l 4))
     (.need (treeB (.add (.a 0) (.l 1)))
     (.jump 1 [(.add (.a 0) (.l 1)),(.a 1),(.sub (.a 2) (.a 15)),(.a 3),(.a 4),(.a 5),(.a 6),(.a 7),(.a 8),(.a 9),(.a 10),(.a 14),(.a 12)] [] [(.va 0),(.va 1),(.va 2),(.va 3)]))
     (.ite (.eq (.a 13) (.l 3))
     (.need (treeB (.add (.a 0) (.l 1)))
     (.jump 1 [(.add (.a 0) (.l 1)),(.a 1),(.sub (.a 2) (.a 15)),(.a 3),(.a 4),(.a 5),(.a 6),(.a 7),(.a 8),(.a 9),(.a 14),(.a 11),(.a 12)] [] [(.va 0),(.va 1),(.va 2),(.va 3)]))
     (.ite (.eq (.a 13) (.l 2))
      (.need (treeB (.add (.a 0) (.l 1)))
      (.jump 1 [(.add (.a 0) (.l 1)),(.a 1),(.sub (.a 2) (.a 15)),(.a 3),(.a 4),(.a 5),(.a 6),(.a 7),(.a 8),(.a 14),(.a 10),(.a 11),(.a 12)] [] [(.va 0),(.va 1),(.va 2),(.va 3)]))
      (.ite (.eq (.a 13) (.l 1))
      (.need (treeB (.add (.a 0) (.l 1)))
      (.jump 1 [(.add (.a 0) (.l 1)),(.a 1),(.sub (.a 2) (.a 15)),(.a 3),(.a 4),(.a 5),(.a 6),(.a 7),(.a 14),(.a 9),(.a 10),(.a 11),(.a 12)] [] [(.va 0),(.va 1),(.va 2),(.va 3)]))
      (.ite (.eq (.a 13) (.l 0))
       (.need (treeB (.add (.a 0) (.l 1)))
       (.jump 1 [(.add (.a 0) (.l 1)),(.a 1),(.sub (.a 2) (.a 15)),(.a 3),(.a 4),(.a 5),(.a 6),(.a 14),(.a 8),(.a 9),(.a 10),(.a 11),(.a 12)] [] [(.va 0),(.va 1),(.va 2),(.va 3)]))
       .stuck)))))))
    (.ite (.eq (.a 13) (.l 0))
    (.need (treeB (.sub (.a 1) (.a 15)))
    (.ite (.eq (.a 13) (.l 5))
     (.need (treeB (.add (.a 0) (.l 1)))
     (.jump 1 [(.add (.a 0) (.l 1)),(.sub (.a 1) (.a 15)),(.a 2),(.a 3),(.a 4),(.a 5),(.a 6),(.a 7),(.a 8),(.a 9),(.a 10),(.a 11),(.a 14)] [] [(.va 0),(.va 1),(.va 2),(.va 3)]))
     (.ite (.eq (.a 13) (.l 4))
     (.need (treeB (.add (.a 0) (.l 1)))
     (.jump 1 [(.add (.a 0) (.l 1)),(.sub (.a 1) (.a 15)),(.a 2),(.a 3),(.a 4),(.a 5),(.a 6),(.a 7),(.a 8),(.a 9),(.a 10),(.a 14),(.a 12)] [] [(.va 0),(.va 1),(.va 2),(.va 3)]))
     (.ite (.eq (.a 13) (.l 3))
      (.need (treeB (.add (.a 0) (.l 1)))
      (.jump 1 [(.add (.a 0) (.l 1)),(.sub (.a 1) (.a 15)),(.a 2),(.a 3),(.a 4),(.a 5),(.a 6),(.a 7),(.a 8),(.a 9),(.a 14),(.a 11),(.a 12)] [] [(.va 0),(.va 1),(.va 2),(.va 3)]))
      (.ite (.eq (.a 13) (.l 2))
      (.need (treeB (.add (.a 0) (.l 1)))
      (.jump 1 [(.add (.a 0) (.l 1)),(.sub (.a 1) (.a 15)),(.a 2),(.a 3),(.a 4),(.a 5),(.a 6),(.a 7),(.a 8),(.a 14),(.a 10),(.a 11),(.a 12)] [] [(.va 0),(.va 1),(.va 2),(.va 3)]))
      (.ite (.eq (.a 13) (.l 1))
       (.need (treeB (.add (.a 0) (.l 1)))
       (.jump 1 [(.add (.a 0) (.l 1)),(.sub (.a 1) (.a 15)),(.a 2),(.a 3),(.a 4),(.a 5),(.a 6),(.a 7),(.a 14),(.a 9),(.a 10),(.a 11),(.a 12)] [] [(.va 0),(.va 1),(.va 2),(.va 3)]))
       (.ite (.eq (.a 13) (.l 0))
       (.need (treeB (.add (.a 0) (.l 1)))
       (.jump 1 [(.add (.a 0) (.l 1)),(.sub (.a 1) (.a 15)),(.a 2),(.a 3),(.a 4),(.a 5),(.a 6),(.a 14),(.a 8),(.a 9),(.a 10),(.a 11),(.a 12)] [] [(.va 0),(.va 1),(.va 2),(.va 3)]))
       .stuck)))))))
    .stuck))))))))
 (.ret false (.tup [(.agg [(I L (A 1)),(I L (A 2)),(I L (A 3)),(I L (A 4)),(I L (A 5)),(I L (A 6))]),(.agg [(I L (A 7)),(I L (A 8)),(I L (A 9)),(I L (A 10)),(I L (A 11)),(I L (A 12))])]) [])))
def saleroomref10_Open_S:Sx.Sys:=⟨[(.sh (.agg [.val,.val,.val,.val]))],a4R,[a2C,a2E],none,none⟩
def a9F:List Cfg:=[{ todo:=[(.code [false,false,true,false,true,true,true]),(.inLoop [false,false,true,false,true,true,true]),(.inBlock 0),(.code [true,true,true,true])],sl:=[(.junk 0),(.ptr 0 0),(.ptr 1 0),(.ptr 2 0),(.ptr 3 0),(.ptr 4 0),(I L (A 0)),.undef,.undef,(.junk 1),(.junk 2),(.junk 3),.undef,.undef]++jkR 4 15++udR 29,H:=[(.cells [(.va 0),(.va 1),(.va 2),(.va 3)] 27 false),(.cells [(I L (E 0)),(I L (E 0)),(I L (E 0)),(I L (E 0)),(I L (E 0)),(I L (E 0))] 40 false),(.cells [(I L (E 0)),(I L (E 0)),(I L (E 0)),(I L (E 0)),(I L (E 0)),(I L (E 0))] 40 false),(.cells [(I L (A 1)),(I L (A 2)),(I L (A 3)),(I L (A 4)),(I L (A 5)),(I L (A 6))] 40 false),(.cells [(I L (E 0)),(I L (E 0)),(I L (E 0)),(I L (E 0)),(I L (E 0)),(I L (E 0))] 40 false)],ni:=7,nb:=0,nv:=4,nj:=19 },
 { todo:=[(.code [false,false,true,false,true,true,true,true]),(.inLoop [false,false,true,false,true,true,true,true]),(.inBlock 2),(.code [true,true,true,true,true])],sl:=[(.junk 0),(.ptr 0 0),(.ptr 1 0),(.ptr 2 0),(.ptr 3 0),(.ptr 4 0),(.junk 1),(I L (A 0))]++jkR 2 4++[.undef,.undef]++jkR 6 42++[.undef,.undef],H:=[(.cells [(.va 0),(.va 1),(.va 2),(.va 3)] 27 false),(.cells [(I L (E 0)),(I L (E 0)),(I L (E 0)),(I L (E 0)),(I L (E 0)),(I L (E 0))] 40 false),(.cells [(I L (E 0)),(I L (E 0)),(I L (E 0)),(I L (E 0)),(I L (E 0)),(I L (E 0))] 40 false),(.cells [(I L (A 1)),(I L (A 2)),(I L (A 3)),(I L (A 4)),(I L (A 5)),(I L (A 6))] 40 false),(.cells [(I L (A 7)),(I L (A 8)),(I L (A 9)),(I L (A 10)),(I L (A 11)),(I L (A 12))] 40 false)],ni:=13,nb:=0,nv:=4,nj:=48 }]
theorem b0R:SysOk Try.prog 54 saleroomref10_Open_S:=a0N (c:=(cg [[false,false,true,false,true,true,true],[false,false,true,false,true,true,true,true]] [] [] false false false true)) (a0J _ _ _ _ _ _ _ _ _) Try.func54 Try.call54 (by kernel_rfl) a9F saleroomref10_Open_S 5000 rfl (by kernel_rfl) (by kernel_rfl) rfl
def a5V:PT :=
 (.ite (.le (.a 1) (.a 0))
 (.ret false (.bool (.le (.a 0) (.a 2))) [])
 (.ret false (.bool (.t false)) []))
def catalog_between_S:Sx.Sys:=⟨[(.sh (.one (D L))),(.sh (.one (D L))),(.sh (.one (D L)))],a5V,[],none,none⟩
def b2t:List Cfg:=[]
theorem b3h:SysOk Try.prog 62 catalog_between_S:=a0N (c:=(cg [] [] [] false false false true)) (a0J _ _ _ _ _ _ _ _ _) Try.func62 Try.call62 (by kernel_rfl) b2t catalog_between_S 5000 rfl (by kernel_rfl) (by kernel_rfl) rfl
def a7b:PT :=
 (.call 88 [(.agg [(I L (A 0)),(I L (A 1)),(I L (A 2)),(I L (A 3)),(I L (A 4)),(I L (A 5))]),(.agg [(I L (A 6)),(I L (A 7)),(I L (A 8)),(I L (A 9)),(I L (A 10)),(I L (A 11))])] [] [(.agg [(D L),(D L),(D L),(D L),(D L),(D L)])]
 (.ret false (.bool (.and (.eq (.a 12) (.a 0)) (.and (.eq (.a 13) (.a 1)) (.and (.eq (.a 14) (.a 2)) (.and (.eq (.a 15) (.a 3)) (.and (.eq (.a 16) (.a 4)) (.eq (.a 17) (.a 5)))))))) []))
def bundle_Within_S:Sx.Sys:=⟨[(.sh (.agg [(D L),(D L),(D L),(D L),(D L),(D L)])),(.sh (.agg [(D L),(D L),(D L),(D L),(D L),(D L)]))],a7b,[],none,none⟩
def b3i:List Cfg:=[]
theorem b5x:SysOk Try.prog 70 bundle_Within_S:=a0N (c:=(cg [] [] [] false false false true)) (a0J _ _ _ _ _ _ _ _ _) Try.func70 Try.call70 (by kernel_rfl) b3i bundle_Within_S 5000 rfl (by kernel_rfl) (by kernel_rfl) rfl
def a5S:PT :=
 (.load false (.pa 1 0) [(D L)]
 (.ite (.eq (.a 3) (.a 4))
 (.ret true (I L (E 1)) [])
 (.ret true (I L (E 0)) [])))
def catalog_Units_1_S:Sx.Sys:=⟨[(.sh (.agg [.val,(D L),(D L),(D L),(D L)])),.ptr],a5S,[],none,none⟩
def b1Y:List Cfg:=[]
theorem b3I:SysOk Try.prog 90 catalog_Units_1_S:=a0N (c:=(cg [] [] [] true true false true)) (a0J _ _ _ _ _ _ _ _ _) Try.func90 Try.call90 (by kernel_rfl) b1Y catalog_Units_1_S 5000 rfl (by kernel_rfl) (by kernel_rfl) rfl
end Go.Proofs.Ytflcopaopimlpaa
