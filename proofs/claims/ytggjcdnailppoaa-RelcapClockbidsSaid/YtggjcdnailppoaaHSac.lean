/- The trees of this seat's functions, part 6. Written by txgen.py. -/
import Derived.Test.YtggjcdnailppoaaHTab
set_option linter.unusedSimpArgs false
set_option linter.unusedVariables false
open Go.Sx.SV renaming int → I
open Go.IntKind renaming i64 → L
open Go.Sx.IE renaming a → A, l → E
open Go.Sx.Kd renaming int → D
set_option maxRecDepth 100000
namespace Go.Proofs.Ytggjcdnailppoaa
open Go.Sx
def a8C:PT :=
 (.app none (.lit [[(I L (E 3)),(I L (E 1)),(I L (E 0)),(I L (E 0)),(I L (E 0)),(I L (E 0)),(I L (E 1)),(I L (E 0)),(I L (E 0)),(I L (E 0)),(I L (E 0)),(I L (E 0))],[(I L (E 4)),(I L (E 1)),(I L (E 0)),(I L (E 0)),(I L (E 0)),(I L (E 0)),(I L (E 1)),(I L (E 0)),(I L (E 0)),(I L (E 0)),(I L (E 0)),(I L (E 0))]]) 12
 (.call 11 [(.va 0)] [] [(.one .val)]
 (.cut 0 (some (.l 1)) none 12
 (.app none (.lit [[(I L (E 0)),(I L (E 1)),(I L (E 1)),(I L (E 0)),(I L (E 0)),(I L (E 0)),(I L (E 0)),(I L (E 6))]]) 8
 (.call 15 [(.va 2),(.va 3)] [] [(.one (D L)),(.one (D L))]
 (.cut 0 (some (.l 1)) none 12
 (.app none (.lit [[(I L (E 0)),(I L (E 1)),(I L (E 1)),(I L (E 0)),(I L (E 0)),(I L (E 0)),(I L (E 0)),(I L (E 6))],[(I L (E 0)),(I L (E 1)),(I L (E 0)),(I L (E 0)),(I L (E 0)),(I L (E 0)),(I L (E 0)),(I L (E 5))]]) 8
 (.call 15 [(.va 4),(.va 5)] [] [(.one (D L)),(.one (D L))]
 (.need (.is 0 1)
 (.ite (.eq (.slen 1) (.l 1))
 (.need (.lt (.l 0) (.slen 1))
 (.load true (.ea 1 (.l 0) 8 0) [(D L),(D L),(D L),(D L),(D L),(D L),(D L),(D L)]
 (.ite (.and (.eq (.a 4) (.l 0)) (.and (.eq (.a 5) (.l 1)) (.and (.eq (.a 6) (.l 0)) (.and (.eq (.a 7) (.l 0)) (.and (.eq (.a 8) (.l 0)) (.and (.eq (.a 9) (.l 0)) (.and (.eq (.a 10) (.l 0)) (.eq (.a 11) (.l 4)))))))))
  (.cut 0 (some (.l 1)) none 12
  (.call 13 [(.va 6),.nilS,(.agg [(I L (E 1)),(I L (E 1)),(I L (E 0)),(I L (E 0)),(I L (E 0)),(I L (E 0))])] [] [(.one (D L))]
  (.ite (.eq (.a 12) (.l 5))
  (.ite (.eq (.a 0) (.l 0))
   (.ite (.eq (.a 1) (.l 16))
   (.ret false (.bool (.eq (.a 3) (.l 0))) [])
   (.ret false (.bool (.t false)) []))
   (.ret false (.bool (.t false)) []))
  (.ret false (.bool (.t false)) []))))
  (.ret false (.bool (.t false)) []))))
 (.ret false (.bool (.t false)) [])))))))))))
def saleroomlaw40_lives_S:Sx.Sys:=⟨[],a8C,[],none,none⟩
def a6P:List Cfg:=[]
theorem a7H:SysOk Try.prog 9 saleroomlaw40_lives_S:=a0V (c:=(cg [] [] [] false false false true)) (a0L _ _ _ _ _ _ _ _ _) Try.func9 Try.call9 (by kernel_rfl) a6P saleroomlaw40_lives_S 5000 rfl (by kernel_rfl) (by kernel_rfl) rfl
def a3c:PT :=
 (.ite (.lt (.a 0) (.l 0))
 (.ret false (I L (E 4)) [])
 (.ite (.lt (.l 4) (.a 0))
  (.ret false (I L (E 4)) [])
  (.ite (.lt (.a 1) (.l 0))
  (.ret false (I L (E 4)) [])
  (.ite (.lt (.l 4) (.a 1))
   (.ret false (I L (E 4)) [])
   (.ite (.lt (.a 2) (.l 0))
   (.ret false (I L (E 4)) [])
   (.ite (.lt (.l 4) (.a 2))
    (.ret false (I L (E 4)) [])
    (.ite (.lt (.a 3) (.l 0))
    (.ret false (I L (E 4)) [])
    (.ite (.lt (.l 4) (.a 3))
     (.ret false (I L (E 4)) [])
     (.ite (.lt (.a 4) (.l 0))
     (.ret false (I L (E 4)) [])
     (.ite (.lt (.l 4) (.a 4))
      (.ret false (I L (E 4)) [])
      (.ite (.lt (.a 5) (.l 0))
      (.ret false (I L (E 4)) [])
      (.ite (.lt (.l 4) (.a 5))
       (.ret false (I L (E 4)) [])
       (.ret false (I L (E 0)) [])))))))))))))
def saleroomref07_Check_S:Sx.Sys:=⟨[(.sh (.agg [(D L),(D L),(D L),(D L),(D L),(D L)]))],a3c,[],none,none⟩
def a6S:List Cfg:=[]
theorem a7D:SysOk Try.prog 17 saleroomref07_Check_S:=a0V (c:=(cg [] [] [] false false false true)) (a0L _ _ _ _ _ _ _ _ _) Try.func17 Try.call17 (by kernel_rfl) a6S saleroomref07_Check_S 5000 rfl (by kernel_rfl) (by kernel_rfl) rfl
def a4F:PT :=
 (.call 42 [(.va 0)] [] [(.one .bool)]
 (.ite (.not (.a 0))
 (.ret false (I L (E 4)) [])
 (.call 44 [(.va 0),(.agg [(.va 1),(.va 2)])] [] [(.one .bool)]
 (.ite (.not (.a 1))
  (.ret false (I L (E 2)) [])
  (.need (.is 0 1)
  (.ite (.eq (.slen 1) (.l 0))
  (.call 45 [(.va 0),(.va 2)] [] [(.one .bool)]
  (.ite (.not (.a 2))
   (.ret false (I L (E 13)) [])
   (.ret false (I L (E 0)) [])))
  (.need (.is 0 1)
  (.jump 0 [(.l 0),(.slen 1),(.l 0)] [] [(.va 0),(.va 1),(.va 2)]))))))))
def a4b:PT :=
 (.ite (.lt (.a 2) (.a 1))
 (.need (treeI (.a 2) (.slen 1))
 (.load false (.ea 1 (.a 2) 1 0) [(D L)]
 (.need (treeI (.a 3) (.slen 0))
 (.need (treeB (.add (.a 2) (.l 1)))
 (.need (.is 0 1)
 (.need (.not (.eq (.slen 1) (.l 0)))
 (.need (treeI (.tmod (.add (.a 2) (.l 1)) (.slen 1)) (.slen 1))
 (.load true (.ea 0 (.a 3) 12 0) [(D L),(D L),(D L),(D L),(D L),(D L),(D L),(D L),(D L),(D L),(D L),(D L)]
 (.load true (.ea 1 (.tmod (.add (.a 2) (.l 1)) (.slen 1)) 1 0) [(D L)]
 (.need (treeI (.a 16) (.slen 0))
 (.load true (.ea 0 (.a 16) 12 0) [(D L),(D L),(D L),(D L),(D L),(D L),(D L),(D L),(D L),(D L),(D L),(D L)]
 (.call 46 [(.agg [(I L (A 4)),(I L (A 5)),(I L (A 6)),(I L (A 7)),(I L (A 8)),(I L (A 9)),(I L (A 10)),(I L (A 11)),(I L (A 12)),(I L (A 13)),(I L (A 14)),(I L (A 15))]),(.agg [(I L (A 17)),(I L (A 18)),(I L (A 19)),(I L (A 20)),(I L (A 21)),(I L (A 22)),(I L (A 23)),(I L (A 24)),(I L (A 25)),(I L (A 26)),(I L (A 27)),(I L (A 28))])] [] [(.one (D L))]
 (.need (treeB (.add (.a 0) (.a 29)))
 (.need (treeB (.add (.a 2) (.l 1)))
 (.jump 0 [(.add (.a 0) (.a 29)),(.a 1),(.add (.a 2) (.l 1))] [] [(.va 0),(.va 1),(.va 2)])))))))))))))))
 (.ite (.le (.l 0) (.a 0))
  (.ret false (I L (E 13)) [])
  (.ret false (I L (E 0)) [])))
def revealed_Verify_S:Sx.Sys:=⟨[(.sh (.one .val)),(.sh (.agg [.val,.val]))],a4F,[a4b],none,none⟩
def a9s:List Cfg:=[{ todo:=[(.code [false,false,true,false,true,true,true,true,true]),(.inLoop [false,false,true,false,true,true,true,true,true]),(.inBlock 0),(.code [true,true,true,true,true,true])],sl:=[(.va 0),(.junk 0),.undef,(.ptr 0 0),(.junk 1),(I L (A 0))]++jkR 2 13++udR 5++[(.junk 15),(.va 1),(I L (A 1)),(I L (A 2))]++jkR 16 25++[.undef,.undef],H:=[(.cells [(.va 1),(.va 2)] 50 false)],ni:=3,nb:=0,nv:=3,nj:=41 }]
theorem b0m:SysOk Try.prog 25 revealed_Verify_S:=a0V (c:=(cg [[false,false,true,false,true,true,true,true,true]] [] [] false false false true)) (a0L _ _ _ _ _ _ _ _ _) Try.func25 Try.call25 (by kernel_rfl) a9s revealed_Verify_S 5000 rfl (by kernel_rfl) (by kernel_rfl) rfl
def a5J:PT :=
 (.ite (.lt (.a 0) (.l 0))
 (.ret false (I L (E 4)) [])
 (.ite (.lt (.l 4) (.a 0))
  (.ret false (I L (E 4)) [])
  (.ite (.lt (.a 1) (.l 0))
  (.ret false (I L (E 4)) [])
  (.ite (.lt (.l 4) (.a 1))
   (.ret false (I L (E 4)) [])
   (.ite (.lt (.a 2) (.l 0))
   (.ret false (I L (E 4)) [])
   (.ite (.lt (.l 4) (.a 2))
    (.ret false (I L (E 4)) [])
    (.ite (.lt (.a 3) (.l 0))
    (.ret false (I L (E 4)) [])
    (.ite (.lt (.l 4) (.a 3))
     (.ret false (I L (E 4)) [])
     (.ite (.lt (.a 4) (.l 0))
     (.ret false (I L (E 4)) [])
     (.ite (.lt (.l 4) (.a 4))
      (.ret false (I L (E 4)) [])
      (.ite (.lt (.a 5) (.l 0))
      (.ret false (I L (E 4)) [])
      (.ite (.lt (.l 4) (.a 5))
       (.ret false (I L (E 4)) [])
       (.ret false (I L (E 0)) [])))))))))))))
def bundle_Check_S:Sx.Sys:=⟨[(.sh (.agg [(D L),(D L),(D L),(D L),(D L),(D L)]))],a5J,[],none,none⟩
def b0V:List Cfg:=[]
theorem b2r:SysOk Try.prog 34 bundle_Check_S:=a0V (c:=(cg [] [] [] false false false true)) (a0L _ _ _ _ _ _ _ _ _) Try.func34 Try.call34 (by kernel_rfl) b0V bundle_Check_S 5000 rfl (by kernel_rfl) (by kernel_rfl) rfl
def b0d:PT :=
 (.need (.is 0 0)
 (.mkM (.slen 0) [(I L (E 0))] 2 1 8
 (.need (.is 0 0)
 (.mkM (.slen 0) [(I L (E 0))] 3 1 8
 (.need (.is 0 2)
 (.jump 0 [(.slen 2),(.l 0)] [] [(.va 0),(.va 1),(.va 2)]))))))
def a2c:PT :=
 (.ite (.lt (.a 1) (.a 0))
 (.need (treeI (.a 1) (.slen 2))
 (.storeM (.ea 2 (.a 1) 1 0) [(I L (E (-1)))]
 (.need (treeB (.add (.a 1) (.l 1)))
 (.jump 0 [(.a 0),(.add (.a 1) (.l 1))] [] [(.va 0),(.va 1),(.va 2)]))))
 (.need (.is 0 0)
 (.jump 1 [(.l (-1)),(.slen 0),(.l 0)] [] [(.va 0),(.va 1),(.va 2)])))
def a1t:PT :=
 (.ite (.lt (.a 2) (.a 1))
 (.need (.is 0 0)
 (.jump 2 [(.l (-1)),(.a 1),(.a 2),(.slen 0),(.l 0)] [] [(.va 0),(.va 1),(.va 2)]))
 (.ite (.lt (.a 0) (.l 0))
  (.ret true (.tup [(.va 1),.nilS]) [])
  (.call 53 [(.va 2),(I L (A 0))] [] [(.one .val)]
  (.ret true (.tup [.nilS,(.va 3)]) []))))
def a1u:PT :=
 (.ite (.lt (.a 4) (.a 3))
 (.need (.is 0 0)
 (.jump 3 [(.a 0),(.a 4),(.a 1),(.a 2),(.a 3),(.slen 0),(.l 0)] [] [(.va 0),(.va 1),(.va 2)]))
 (.ite (.lt (.a 0) (.l 0))
  (.ite (.lt (.a 0) (.l 0))
  (.ret true (.tup [(.va 1),.nilS]) [])
  (.call 53 [(.va 2),(I L (A 0))] [] [(.one .val)]
  (.ret true (.tup [.nilS,(.va 3)]) [])))
  (.need (treeB (.add (.a 2) (.l 1)))
  (.jump 1 [(.a 0),(.a 1),(.add (.a 2) (.l 1))] [] [(.va 0),(.va 1),(.va 2)]))))
def a2R:PT :=
 (.load false (.ea 1 (.a 1) 1 0) [(D L)]
  (.call 46 [(.agg [(I L (A 7)),(I L (A 8)),(I L (A 9)),(I L (A 10)),(I L (A 11)),(I L (A 12)),(I L (A 13)),(I L (A 14)),(I L (A 15)),(I L (A 16)),(I L (A 17)),(I L (A 18))]),(.agg [(I L (A 19)),(I L (A 20)),(I L (A 21)),(I L (A 22)),(I L (A 23)),(I L (A 24)),(I L (A 25)),(I L (A 26)),(I L (A 27)),(I L (A 28)),(I L (A 29)),(I L (A 30))])] [] [(.one (D L))]
  (.need (treeB (.add (.a 31) (.a 32)))
  (.need (treeI (.a 6) (.slen 1))
  (.load false (.ea 1 (.a 6) 1 0) [(D L)]
  (.ite (.lt (.add (.a 31) (.a 32)) (.a 33))
  (.need (treeI (.a 6) (.slen 1))
  (.storeM (.ea 1 (.a 6) 1 0) [(.int .i64 (.add (.a 31) (.a 32)))]
  (.need (treeI (.a 6) (.slen 2))
  (.storeM (.ea 2 (.a 6) 1 0) [(I L (A 1))]
  (.need (treeB (.add (.a 6) (.l 1)))
  (.jump 3 [(.a 6),(.a 1),(.a 2),(.a 3),(.a 4),(.a 5),(.add (.a 6) (.l 1))] [] [(.va 0),(.va 1),(.va 2)]))))))
  (.need (treeB (.add (.a 6) (.l 1)))
  (.jump 3 [(.a 0),(.a 1),(.a 2),(.a 3),(.a 4),(.a 5),(.add (.a 6) (.l 1))] [] [(.va 0),(.va 1),(.va 2)]))))))))
def a2Q:PT :=
 (.call 46 [(.agg [(I L (A 7)),(I L (A 8)),(I L (A 9)),(I L (A 10)),(I L (A 11)),(I L (A 12)),(I L (A 13)),(I L (A 14)),(I L (A 15)),(I L (A 16)),(I L (A 17)),(I L (A 18))]),(.agg [(I L (A 19)),(I L (A 20)),(I L (A 21)),(I L (A 22)),(I L (A 23)),(I L (A 24)),(I L (A 25)),(I L (A 26)),(I L (A 27)),(I L (A 28)),(I L (A 29)),(I L (A 30))])] [] [(.one (D L))]
  (.load false (.ea 1 (.a 1) 1 0) [(D L)]
  (.need (treeB (.add (.a 32) (.a 31)))
  (.need (treeI (.a 6) (.slen 1))
  (.load false (.ea 1 (.a 6) 1 0) [(D L)]
  (.ite (.lt (.add (.a 32) (.a 31)) (.a 33))
  (.need (treeI (.a 6) (.slen 1))
  (.storeM (.ea 1 (.a 6) 1 0) [(.int .i64 (.add (.a 32) (.a 31)))]
  (.need (treeI (.a 6) (.slen 2))
  (.storeM (.ea 2 (.a 6) 1 0) [(I L (A 1))]
  (.need (treeB (.add (.a 6) (.l 1)))
  (.jump 3 [(.a 6),(.a 1),(.a 2),(.a 3),(.a 4),(.a 5),(.add (.a 6) (.l 1))] [] [(.va 0),(.va 1),(.va 2)]))))))
  (.need (treeB (.add (.a 6) (.l 1)))
  (.jump 3 [(.a 0),(.a 1),(.a 2),(.a 3),(.a 4),(.a 5),(.add (.a 6) (.l 1))] [] [(.va 0),(.va 1),(.va 2)]))))))))
def a1d:PT :=
 (.ite (.lt (.a 6) (.a 5))
 (.need (treeI (.a 1) (.slen 1))
 (.need (treeI (.a 1) (.slen 0))
 (.need (treeI (.a 6) (.slen 0))
 (.load false (.ea 0 (.a 1) 12 0) [(D L),(D L),(D L),(D L),(D L),(D L),(D L),(D L),(D L),(D L),(D L),(D L)]
 (.load false (.ea 0 (.a 6) 12 0) [(D L),(D L),(D L),(D L),(D L),(D L),(D L),(D L),(D L),(D L),(D L),(D L)]
 (.both a2R a2Q))))))
 (.need (treeB (.add (.a 1) (.l 1)))
 (.jump 2 [(.a 0),(.a 2),(.a 3),(.a 4),(.add (.a 1) (.l 1))] [] [(.va 0),(.va 1),(.va 2)])))
def revealed_lowered_S:Sx.Sys:=⟨[(.sh (.one .val))],b0d,[a2c,a1t,a1u,a1d],none,none⟩
def a8h:List Cfg:=[{ todo:=[(.code [false,false,true,false,true,true,false,true]),(.inLoop [false,false,true,false,true,true,false,true]),(.inBlock 0),(.code [true,true,true,false,true]),(.inScope [false,true])],sl:=[(.va 0),.undef,(.junk 0),(.junk 1),(.va 1),(.va 2),(.junk 2)]++udR 4++jkR 3 7++[(I L (A 0)),(I L (A 1))]++jkR 10 6++udR 54,H:=[],ni:=2,nb:=0,nv:=3,nj:=16 },
 { todo:=[(.code [false,false,true,false,true,true,true,true,true,false,true]),(.inLoop [false,false,true,false,true,true,true,true,true,false,true]),(.inBlock 2),(.code [true,true,true,true,true,true,false,true]),(.inScope [false,true])],sl:=[(.va 0),.undef,(.junk 0),(.junk 1),(.va 1),(.va 2),(.junk 2),(I L (A 0))]++jkR 3 19++[(I L (A 1)),(I L (A 2))]++jkR 22 45++udR 6,H:=[],ni:=3,nb:=0,nv:=3,nj:=67 },
 { todo:=[(.code [false,false,true,false,true,false,false,true,true,false,false,true,false,true,true,true,true,true,false,true]),(.inLoop [false,false,true,false,true,false,false,true,true,false,false,true,false,true,true,true,true,true,false,true]),(.inBlock 4),(.code [true,true,false,false,true,true,false,false,true,false,true,true,true,true,true,false,true]),(.inBlock 3),(.code [true,true,true,false,false,true,false,true,true,true,true,true,false,true]),(.inLoop [false,false,true,false,true,true,true,true,true,false,true]),(.inBlock 2),(.code [true,true,true,true,true,true,false,true]),(.inScope [false,true])],sl:=[(.va 0),.undef,(.junk 0),(.junk 1),(.va 1),(.va 2),(.junk 2),(I L (A 0))]++jkR 3 19++[(I L (A 1)),(I L (A 2)),(.junk 22),(.junk 23),(I L (A 3)),(I L (A 4))]++jkR 24 41++udR 6,H:=[],ni:=5,nb:=0,nv:=3,nj:=65 },
 { todo:=[(.code [false,false,true,true,false,false,true,true,false,false,true,false,true,false,false,true,true,false,false,true,false,true,true,true,true,true,false,true]),(.inLoop [false,false,true,true,false,false,true,true,false,false,true,false,true,false,false,true,true,false,false,true,false,true,true,true,true,true,false,true]),(.inBlock 6),(.inBlock 5),(.code [true,true,true,false,false,true,false,true,false,false,true,true,false,false,true,false,true,true,true,true,true,false,true]),(.inLoop [false,false,true,false,true,false,false,true,true,false,false,true,false,true,true,true,true,true,false,true]),(.inBlock 4),(.code [true,true,false,false,true,true,false,false,true,false,true,true,true,true,true,false,true]),(.inBlock 3),(.code [true,true,true,false,false,true,false,true,true,true,true,true,false,true]),(.inLoop [false,false,true,false,true,true,true,true,true,false,true]),(.inBlock 2),(.code [true,true,true,true,true,true,false,true]),(.inScope [false,true])],sl:=[(.va 0),.undef,(.junk 0),(.junk 1),(.va 1),(.va 2),(.junk 2),(I L (A 0)),(I L (A 1))]++jkR 3 18++[(I L (A 2)),(I L (A 3)),(.junk 21),(.junk 22),(I L (A 4)),(I L (A 1)),(.junk 23),(.junk 24),(.junk 25),(I L (A 5)),(I L (A 6))]++jkR 26 36++udR 6,H:=[],ni:=7,nb:=0,nv:=3,nj:=62 }]
theorem a9G:SysOk Try.prog 43 revealed_lowered_S:=a0V (c:=(cg [[false,false,true,false,true,true,false,true],[false,false,true,false,true,true,true,true,true,false,true],[false,false,true,false,true,false,false,true,true,false,false,true,false,true,true,true,true,true,false,true],[false,false,true,true,false,false,true,true,false,false,true,false,true,false,false,true,true,false,false,true,false,true,true,true,true,true,false,true]] [] [] true true false true)) (a0L _ _ _ _ _ _ _ _ _) Try.func43 Try.call43 (by kernel_rfl) a8h revealed_lowered_S 5000 rfl (by kernel_rfl) (by kernel_rfl) rfl
def a2P:PT :=
 (.ite (.lt (.a 0) (.l 0))
 (.ret false (.bool (.t false)) [])
 (.ite (.lt (.l 1000000) (.a 0))
  (.ret false (.bool (.t false)) [])
  (.ite (.lt (.a 1) (.l 0))
  (.ret false (.bool (.t false)) [])
  (.ite (.lt (.l 1000000) (.a 1))
   (.ret false (.bool (.t false)) [])
   (.ite (.lt (.a 2) (.l 0))
   (.ret false (.bool (.t false)) [])
   (.ite (.lt (.l 1000000) (.a 2))
    (.ret false (.bool (.t false)) [])
    (.ite (.lt (.a 3) (.l 0))
    (.ret false (.bool (.t false)) [])
    (.ite (.lt (.l 1000000) (.a 3))
     (.ret false (.bool (.t false)) [])
     (.ite (.lt (.a 4) (.l 0))
     (.ret false (.bool (.t false)) [])
     (.ite (.lt (.l 1000000) (.a 4))
      (.ret false (.bool (.t false)) [])
      (.ite (.lt (.a 5) (.l 0))
      (.ret false (.bool (.t false)) [])
      (.ite (.lt (.l 1000000) (.a 5))
       (.ret false (.bool (.t false)) [])
       (.ret false (.bool (.t true)) [])))))))))))))
def saleroomref07_Prices_S:Sx.Sys:=⟨[(.sh (.agg [(D L),(D L),(D L),(D L),(D L),(D L)]))],a2P,[],none,none⟩
def a6l:List Cfg:=[]
theorem a7h:SysOk Try.prog 51 saleroomref07_Prices_S:=a0V (c:=(cg [] [] [] false false false true)) (a0L _ _ _ _ _ _ _ _ _) Try.func51 Try.call51 (by kernel_rfl) a6l saleroomref07_Prices_S 5000 rfl (by kernel_rfl) (by kernel_rfl) rfl
end Go.Proofs.Ytggjcdnailppoaa
set_option maxRecDepth 100000
namespace Go.Proofs.Ytggjcdnailppoaa
open Go.Sx
def a3r:PT :=
 (.need (.is 0 0)
 (.need (.is 0 1)
 (.ite (.not (.eq (.slen 0) (.slen 1)))
 (.ret false (.bool (.t false)) [])
 (.jump 0 [(.l 0)] [] [(.va 0),(.va 1)]))))
def a1R:PT :=
 (.need (.is 0 0)
 (.ite (.lt (.a 0) (.slen 0))
 (.need (treeI (.a 0) (.slen 0))
 (.need (treeI (.a 0) (.slen 1))
 (.load true (.ea 0 (.a 0) 8 0) [(D L),(D L),(D L),(D L),(D L),(D L),(D L),(D L)]
 (.load true (.ea 1 (.a 0) 8 0) [(D L),(D L),(D L),(D L),(D L),(D L),(D L),(D L)]
 (.ite (.not (.and (.eq (.a 1) (.a 9)) (.and (.eq (.a 2) (.a 10)) (.and (.eq (.a 3) (.a 11)) (.and (.eq (.a 4) (.a 12)) (.and (.eq (.a 5) (.a 13)) (.and (.eq (.a 6) (.a 14)) (.and (.eq (.a 7) (.a 15)) (.eq (.a 8) (.a 16))))))))))
  (.ret false (.bool (.t false)) [])
  (.need (treeB (.add (.a 0) (.l 1)))
  (.jump 0 [(.add (.a 0) (.l 1))] [] [(.va 0),(.va 1)])))))))
 (.ret false (.bool (.t true)) [])))
def saleroomlaw40_same_S:Sx.Sys:=⟨[(.sh (.one .val)),(.sh (.one .val))],a3r,[a1R],none,none⟩
def a7i:List Cfg:=[{ todo:=[(.code [false,false,true,false,true,true]),(.inLoop [false,false,true,false,true,true]),(.inBlock 0),(.code [true,true,true])],sl:=[(.va 0),(.va 1),.undef,.undef,(.junk 0),(I L (A 0))]++jkR 1 20,H:=[],ni:=1,nb:=0,nv:=2,nj:=21 }]
theorem a8r:SysOk Try.prog 10 saleroomlaw40_same_S:=a0V (c:=(cg [[false,false,true,false,true,true]] [] [] false false false true)) (a0L _ _ _ _ _ _ _ _ _) Try.func10 Try.call10 (by kernel_rfl) a7i saleroomlaw40_same_S 5000 rfl (by kernel_rfl) (by kernel_rfl) rfl
def a5H:PT :=
 (.need (.is 0 0)
 (.jump 0 [(.slen 0),(.l 0)] [] [(.va 0)]))
def a5u:PT :=
 (.ite (.lt (.a 1) (.a 0))
 (.need (treeI (.a 1) (.slen 0))
 (.load false (.ea 0 (.a 1) 12 0) [(D L),(D L),(D L),(D L),(D L),(D L),(D L),(D L),(D L),(D L),(D L),(D L)]
 (.app none (.lit [[(I L (A 2)),(I L (A 3)),(I L (A 4)),(I L (A 5)),(I L (A 6)),(I L (A 7)),(I L (A 8)),(I L (A 9)),(I L (A 10)),(I L (A 11)),(I L (A 12)),(I L (A 13))]]) 12
 (.call 25 [(.va 1),(.agg [.nilS,.nilS])] [] [(.one (D L))]
 (.ite (.eq (.a 14) (.l 4))
  (.ret false (.bool (.t false)) [])
  (.need (treeB (.add (.a 1) (.l 1)))
  (.jump 0 [(.a 0),(.add (.a 1) (.l 1))] [] [(.va 0)])))))))
 (.ret false (.bool (.t true)) []))
def relcap_sound_S:Sx.Sys:=⟨[(.sh (.one .val))],a5H,[a5u],none,none⟩
def b0R:List Cfg:=[{ todo:=[(.code [false,false,true,false,true]),(.inLoop [false,false,true,false,true]),(.inBlock 0),(.code [true,true])],sl:=[(.junk 0),.undef,(.junk 1),.undef,(.junk 2),(.va 0),(I L (A 0)),(I L (A 1))]++jkR 3 9,H:=[],ni:=2,nb:=0,nv:=1,nj:=12 }]
theorem b2n:SysOk Try.prog 26 relcap_sound_S:=a0V (c:=(cg [[false,false,true,false,true]] [] [] false false false true)) (a0L _ _ _ _ _ _ _ _ _) Try.func26 Try.call26 (by kernel_rfl) b0R relcap_sound_S 5000 rfl (by kernel_rfl) (by kernel_rfl) rfl
def a5M:PT :=
 (.call 34 [(.agg [(I L (A 1)),(I L (A 2)),(I L (A 3)),(I L (A 4)),(I L (A 5)),(I L (A 6))])] [] [(.one (D L))]
 (.ite (.eq (.a 8) (.l 0))
 (.ite (.not (.and (.eq (.a 1) (.l 0)) (.and (.eq (.a 2) (.l 0)) (.and (.eq (.a 3) (.l 0)) (.and (.eq (.a 4) (.l 0)) (.and (.eq (.a 5) (.l 0)) (.eq (.a 6) (.l 0))))))))
  (.ite (.le (.l 1) (.a 7))
  (.ret false (.bool (.le (.a 7) (.l 1000000))) [])
  (.ret false (.bool (.t false)) []))
  (.ret false (.bool (.t false)) []))
 (.ret false (.bool (.t false)) [])))
def relcap_valid_S:Sx.Sys:=⟨[(.sh (.agg [(D L),(D L),(D L),(D L),(D L),(D L),(D L),(D L)]))],a5M,[],none,none⟩
def b0Z:List Cfg:=[]
theorem b2E:SysOk Try.prog 35 relcap_valid_S:=a0V (c:=(cg [] [] [] false false false true)) (a0L _ _ _ _ _ _ _ _ _) Try.func35 Try.call35 (by kernel_rfl) b0Z relcap_valid_S 5000 rfl (by kernel_rfl) (by kernel_rfl) rfl
def a4E:PT :=
 (.need (.is 0 1)
 (.ite (.lt (.l 0) (.slen 1))
 (.need (.is 0 2)
 (.ite (.lt (.l 0) (.slen 2))
  (.ret false (.bool (.t false)) [])
  (.need (.is 0 1)
  (.ite (.lt (.l 1000) (.slen 1))
  (.ret false (.bool (.t false)) [])
  (.need (.is 0 1)
  (.jump 0 [(.slen 1),(.l 0)] [] [(.va 0),(.va 1),(.va 2)]))))))
 (.need (.is 0 1)
 (.ite (.lt (.l 1000) (.slen 1))
  (.ret false (.bool (.t false)) [])
  (.need (.is 0 1)
  (.jump 0 [(.slen 1),(.l 0)] [] [(.va 0),(.va 1),(.va 2)]))))))
def a4j:PT :=
 (.ite (.lt (.a 1) (.a 0))
 (.need (treeI (.a 1) (.slen 1))
 (.load false (.ea 1 (.a 1) 1 0) [(D L)]
 (.ite (.lt (.a 2) (.l 0))
  (.ret false (.bool (.t false)) [])
  (.need (.is 0 0)
  (.ite (.le (.slen 0) (.a 2))
  (.ret false (.bool (.t false)) [])
  (.need (treeB (.add (.a 1) (.l 1)))
  (.jump 0 [(.a 0),(.add (.a 1) (.l 1))] [] [(.va 0),(.va 1),(.va 2)])))))))
 (.need (.is 0 2)
 (.jump 1 [(.slen 2),(.l 0)] [] [(.va 2)])))
def a4e:PT :=
 (.ite (.lt (.a 1) (.a 0))
 (.need (treeI (.a 1) (.slen 0))
 (.load false (.ea 0 (.a 1) 1 0) [(D L)]
 (.ite (.lt (.a 2) (.l (-1099511627776)))
  (.ret false (.bool (.t false)) [])
  (.ite (.lt (.l 1099511627776) (.a 2))
  (.ret false (.bool (.t false)) [])
  (.need (treeB (.add (.a 1) (.l 1)))
  (.jump 1 [(.a 0),(.add (.a 1) (.l 1))] [] [(.va 0)]))))))
 (.ret false (.bool (.t true)) []))
def revealed_formed_S:Sx.Sys:=⟨[(.sh (.one .val)),(.sh (.agg [.val,.val]))],a4E,[a4j,a4e],none,none⟩
def a8S:List Cfg:=[{ todo:=[(.code [false,false,true,false,true,true]),(.inLoop [false,false,true,false,true,true]),(.inBlock 0),(.code [true,true,true])],sl:=[(.va 0),(.junk 0),.undef,(.ptr 0 0),(.junk 1),.undef,(.junk 2),.undef,.undef]++jkR 3 17++[(.va 1),(I L (A 0)),(I L (A 1))]++jkR 20 12++udR 14,H:=[(.cells [(.va 1),(.va 2)] 50 false)],ni:=2,nb:=0,nv:=3,nj:=32 },
 { todo:=[(.code [false,false,true,false,true,true,true]),(.inLoop [false,false,true,false,true,true,true]),(.inBlock 2),(.code [true,true,true,true])],sl:=[(.junk 0),(.junk 1),.undef,(.junk 2),(.junk 3),.undef,(.junk 4),.undef]++jkR 5 34++[(.va 0),(I L (A 0)),(I L (A 1))]++jkR 39 10,H:=[],ni:=2,nb:=0,nv:=1,nj:=49 }]
theorem b0v:SysOk Try.prog 44 revealed_formed_S:=a0V (c:=(cg [[false,false,true,false,true,true],[false,false,true,false,true,true,true]] [] [] false false false true)) (a0L _ _ _ _ _ _ _ _ _) Try.func44 Try.call44 (by kernel_rfl) a8S revealed_formed_S 5000 rfl (by kernel_rfl) (by kernel_rfl) rfl
def a4Q:PT :=
 (.ite (.lt (.a 0) (.l 0))
 (.ret false (.bool (.t false)) [])
 (.ite (.lt (.l 1000000) (.a 0))
  (.ret false (.bool (.t false)) [])
  (.ite (.lt (.a 1) (.l 0))
  (.ret false (.bool (.t false)) [])
  (.ite (.lt (.l 1000000) (.a 1))
   (.ret false (.bool (.t false)) [])
   (.ite (.lt (.a 2) (.l 0))
   (.ret false (.bool (.t false)) [])
   (.ite (.lt (.l 1000000) (.a 2))
    (.ret false (.bool (.t false)) [])
    (.ite (.lt (.a 3) (.l 0))
    (.ret false (.bool (.t false)) [])
    (.ite (.lt (.l 1000000) (.a 3))
     (.ret false (.bool (.t false)) [])
     (.ite (.lt (.a 4) (.l 0))
     (.ret false (.bool (.t false)) [])
     (.ite (.lt (.l 1000000) (.a 4))
      (.ret false (.bool (.t false)) [])
      (.ite (.lt (.a 5) (.l 0))
      (.ret false (.bool (.t false)) [])
      (.ite (.lt (.l 1000000) (.a 5))
       (.ret false (.bool (.t false)) [])
       (.call 34 [(.agg [(I L (A 6)),(I L (A 7)),(I L (A 8)),(I L (A 9)),(I L (A 10)),(I L (A 11))])] [] [(.one (D L))]
       (.ret false (.bool (.eq (.a 12) (.l 0))) []))))))))))))))
def revealed_valid_S:Sx.Sys:=⟨[(.sh (.agg [(D L),(D L),(D L),(D L),(D L),(D L),(D L),(D L),(D L),(D L),(D L),(D L)]))],a4Q,[],none,none⟩
def a9J:List Cfg:=[]
theorem b0Y:SysOk Try.prog 52 revealed_valid_S:=a0V (c:=(cg [] [] [] false false false true)) (a0L _ _ _ _ _ _ _ _ _) Try.func52 Try.call52 (by kernel_rfl) a9J revealed_valid_S 5000 rfl (by kernel_rfl) (by kernel_rfl) rfl
end Go.Proofs.Ytggjcdnailppoaa
