/- The trees of this seat's functions, part 6. Written by txgen.py. -/
import Derived.Test.YtflcopaopimlpaaHTab
set_option linter.unusedSimpArgs false
set_option linter.unusedVariables false
open Go.Sx.SV renaming int → I
open Go.IntKind renaming i64 → L
open Go.Sx.IE renaming a → A, l → E
open Go.Sx.Kd renaming int → D
set_option maxRecDepth 100000
namespace Go.Proofs.Ytflcopaopimlpaa
open Go.Sx
def a8V:PT :=
 (.call 20 [(.va 4)] [] [(.one .val)]
           (.app none (.lit [[(I L (E 0)),(I L (E 1)),(I L (E 0)),(I L (E 0)),(I L (E 0)),(I L (E 0)),(I L (E 0)),(I L (E 5))]]) 8
           (.call 19 [(.va 9),(.va 10)] [] [(.one .bool)]
           (.ite (.a 2)
            (.call 25 [(.va 4),(I L (E 0))] [] [(.one .val)]
            (.call 20 [(.va 4)] [] [(.one .val)]
            (.call 19 [(.va 11),(.va 12)] [] [(.one .bool)]
            (.ret false (.bool (.a 3)) []))))
            (.ret false (.bool (.t false)) [])))))
def a8E:PT :=
 (.app none (.lit [[(I L (E 0)),(I L (E 1)),(I L (E 0)),(I L (E 0)),(I L (E 0)),(I L (E 0)),(I L (E 0)),(I L (E 5))]]) 8
           (.call 20 [(.va 4)] [] [(.one .val)]
           (.call 19 [(.va 10),(.va 9)] [] [(.one .bool)]
           (.ite (.a 2)
            (.call 25 [(.va 4),(I L (E 0))] [] [(.one .val)]
            (.call 20 [(.va 4)] [] [(.one .val)]
            (.call 19 [(.va 11),(.va 12)] [] [(.one .bool)]
            (.ret false (.bool (.a 3)) []))))
            (.ret false (.bool (.t false)) [])))))
def b0U:PT :=
 (.call 26 [] [] [(.agg [.val,.val,.val,.val])]
 (.call 10 [(.agg [(.va 0),(.va 1),(.va 2),(.va 3)])] [] [(.one .val),(.one (D L))]
 (.call 10 [(.agg [.nilS,.nilS,.nilS,.nilS])] [] [(.one .val),(.one (D L))]
 (.ite (.not (.eq (.a 0) (.l 0)))
 (.ret false (.bool (.t false)) [])
 (.ite (.not (.eq (.a 1) (.l 1)))
  (.ret false (.bool (.t false)) [])
  (.need (.is 4 4)
  (.ite (.nil 4)
  (.ret false (.bool (.t false)) [])
  (.call 18 [(.va 4),(I L (E 0)),(.agg [(I L (E 1)),(I L (E 0)),(I L (E 0)),(I L (E 0)),(I L (E 0)),(I L (E 0))]),(I L (E 11))] [] [(.one (D L))]
  (.ite (.not (.eq (.a 2) (.l 17)))
   (.ret false (.bool (.t false)) [])
   (.call 18 [(.va 4),(I L (E 0)),(.agg [(I L (E 1)),(I L (E 0)),(I L (E 0)),(I L (E 0)),(I L (E 0)),(I L (E 0))]),(I L (E 5))] [] [(.one (D L))]
   (.ite (.not (.eq (.a 3) (.l 0)))
   (.ret false (.bool (.t false)) [])
   (.call 18 [(.va 4),(I L (E 0)),(.agg [(I L (E 1)),(I L (E 0)),(I L (E 0)),(I L (E 0)),(I L (E 0)),(I L (E 0))]),(I L (E 3))] [] [(.one (D L))]
   (.ite (.not (.eq (.a 4) (.l 0)))
    (.ret false (.bool (.t false)) [])
    (.call 18 [(.va 4),(I L (E 0)),(.agg [(I L (E 2)),(I L (E 0)),(I L (E 0)),(I L (E 0)),(I L (E 0)),(I L (E 0))]),(I L (E 5))] [] [(.one (D L))]
    (.ite (.not (.eq (.a 5) (.l 14)))
    (.ret false (.bool (.t false)) [])
    (.call 18 [(.va 4),(I L (E 1)),(.agg [(I L (E 1)),(I L (E 0)),(I L (E 0)),(I L (E 0)),(I L (E 0)),(I L (E 0))]),(I L (E 5))] [] [(.one (D L))]
    (.ite (.not (.eq (.a 6) (.l 6)))
     (.ret false (.bool (.t false)) [])
     (.call 18 [(.va 4),(I L (E 0)),(.agg [(I L (E 0)),(I L (E 0)),(I L (E 0)),(I L (E 0)),(I L (E 0)),(I L (E 0))]),(I L (E 5))] [] [(.one (D L))]
     (.ite (.not (.eq (.a 7) (.l 4)))
     (.ret false (.bool (.t false)) [])
     (.call 18 [(.va 4),(I L (E 0)),(.agg [(I L (E 1)),(I L (E 0)),(I L (E 0)),(I L (E 0)),(I L (E 0)),(I L (E 0))]),(I L (E 0))] [] [(.one (D L))]
     (.ite (.not (.eq (.a 8) (.l 4)))
      (.ret false (.bool (.t false)) [])
      (.call 23 [(.va 4),(I L (E 0)),(.agg [(I L (E 1)),(I L (E 0)),(I L (E 0)),(I L (E 0)),(I L (E 0)),(I L (E 0))])] [] [(.one (D L)),(.one .bool)]
      (.call 15 [(.va 4)] [] [(.one .val)]
      (.need (.is 4 6)
      (.ite (.nil 6)
      (.ret false (.bool (.t false)) [])
      (.app none (.lit [[(I L (E 0)),(I L (E 1)),(I L (E 0)),(I L (E 0)),(I L (E 0)),(I L (E 0)),(I L (E 0)),(I L (E 10))],[(I L (E 0)),(I L (E 1)),(I L (E 0)),(I L (E 0)),(I L (E 0)),(I L (E 0)),(I L (E 0)),(I L (E 11))]]) 8
      (.call 24 [(.va 4),(I L (E 0)),(.va 7)] [] [(.one (D L))]
      (.ite (.not (.eq (.a 10) (.l 17)))
       (.ret false (.bool (.t false)) [])
       (.call 18 [(.va 6),(I L (E 0)),(.agg [(I L (E 1)),(I L (E 0)),(I L (E 0)),(I L (E 0)),(I L (E 0)),(I L (E 0))]),(I L (E 9))] [] [(.one (D L))]
       (.ite (.not (.eq (.a 11) (.l 0)))
       (.ret false (.bool (.t false)) [])
       (.call 23 [(.va 4),(I L (E 0)),(.agg [(I L (E 1)),(I L (E 0)),(I L (E 0)),(I L (E 0)),(I L (E 0)),(I L (E 0))])] [] [(.one (D L)),(.one .bool)]
       (.call 22 [(.va 6),(I L (E 0))] [] [(.one (D L)),(.one (D L))]
       (.ite (.eq (.a 9) (.l 5))
        (.ite (.a 0)
        (.ite (.eq (.a 12) (.l 5))
         (.ite (.a 1)
         (.ite (.eq (.a 13) (.l 1))
          (.ite (.eq (.a 14) (.l 0))
          (.call 20 [(.va 6)] [] [(.one .val)]
          (.need (.is 0 8)
          (.ite (.eq (.slen 8) (.l 0))
           (.both a8V a8E)
           (.ret false (.bool (.t false)) []))))
          (.ret false (.bool (.t false)) []))
          (.ret false (.bool (.t false)) []))
         (.ret false (.bool (.t false)) []))
         (.ret false (.bool (.t false)) []))
        (.ret false (.bool (.t false)) []))
        (.ret false (.bool (.t false)) []))))))))))))))))))))))))))))))))))
def saleroomlaw16_awake_S:Sx.Sys:=⟨[],b0U,[],none,none⟩
def a8H:List Cfg:=[]
theorem b0o:SysOk Try.prog 9 saleroomlaw16_awake_S:=a0N (c:=(cg [] [] [] false false false true)) (a0J _ _ _ _ _ _ _ _ _) Try.func9 Try.call9 (by kernel_rfl) a8H saleroomlaw16_awake_S 5000 rfl (by kernel_rfl) (by kernel_rfl) rfl
def a0L:PT :=
 (.ite (.lt (.a 0) (.l 0))
 (.ret false (I L (E 6)) [])
 (.need (.is 1 0)
 (.load false (.pa 0 4) [.val]
 (.need (.is 0 1)
 (.ite (.le (.slen 1) (.a 0))
  (.ret false (I L (E 6)) [])
  (.ite (.lt (.a 7) (.l 1))
  (.ret false (I L (E 4)) [])
  (.ite (.lt (.l 1000000) (.a 7))
   (.ret false (I L (E 4)) [])
   (.need (.is 1 0)
   (.load false (.pa 0 0) [.val,.val,.val,.val]
   (.call 34 [(.agg [(.va 2),(.va 3),(.va 4),(.va 5)]),(I L (A 0)),(.agg [(I L (A 1)),(I L (A 2)),(I L (A 3)),(I L (A 4)),(I L (A 5)),(I L (A 6))])] [] [(.one (D L))]
   (.ite (.not (.eq (.a 8) (.l 0)))
   (.ret false (I L (A 8)) [])
   (.ite (.and (.eq (.a 1) (.l 0)) (.and (.eq (.a 2) (.l 0)) (.and (.eq (.a 3) (.l 0)) (.and (.eq (.a 4) (.l 0)) (.and (.eq (.a 5) (.l 0)) (.eq (.a 6) (.l 0)))))))
    (.ret false (I L (E 4)) [])
    (.need (.is 1 0)
    (.load false (.pa 0 1) [.val]
    (.need (treeI (.a 0) (.slen 6))
    (.load false (.ea 6 (.a 0) 4 2) [(D L)]
    (.ite (.not (.eq (.a 9) (.l 0)))
    (.need (.is 1 0)
    (.load false (.pa 0 1) [.val]
    (.need (treeI (.a 0) (.slen 7))
    (.load false (.ea 7 (.a 0) 4 2) [(D L)]
    (.ite (.lt (.a 10) (.a 7))
     (.ret false (I L (E 17)) [])
     (.need (.is 1 0)
     (.load false (.pa 0 4) [.val]
     (.need (treeI (.a 0) (.slen 8))
     (.load false (.ea 8 (.a 0) 1 0) [.val]
     (.call 35 [(.va 9),(.agg [(I L (A 1)),(I L (A 2)),(I L (A 3)),(I L (A 4)),(I L (A 5)),(I L (A 6))])] [] [(.one (D L))]
     (.ite (.lt (.a 11) (.l 0))
     (.need (.is 0 9)
     (.ite (.le (.l 40) (.slen 9))
      (.ret false (I L (E 3)) [])
      (.jump 0 [(.a 0),(.a 7),(.a 11),(.l 0),(.a 1),(.a 2),(.a 3),(.a 4),(.a 5),(.a 6)] [(.t false)] [(.va 0),(.va 9),.nilS])))
     (.jump 0 [(.a 0),(.a 7),(.a 11),(.l 0),(.a 1),(.a 2),(.a 3),(.a 4),(.a 5),(.a 6)] [(.t false)] [(.va 0),(.va 9),.nilS]))))))))))))
    (.need (.is 1 0)
    (.load false (.pa 0 4) [.val]
    (.need (treeI (.a 0) (.slen 7))
    (.load false (.ea 7 (.a 0) 1 0) [.val]
    (.call 35 [(.va 8),(.agg [(I L (A 1)),(I L (A 2)),(I L (A 3)),(I L (A 4)),(I L (A 5)),(I L (A 6))])] [] [(.one (D L))]
    (.ite (.lt (.a 10) (.l 0))
     (.need (.is 0 8)
     (.ite (.le (.l 40) (.slen 8))
     (.ret false (I L (E 3)) [])
     (.jump 0 [(.a 0),(.a 7),(.a 10),(.l 0),(.a 1),(.a 2),(.a 3),(.a 4),(.a 5),(.a 6)] [(.t false)] [(.va 0),(.va 8),.nilS])))
     (.jump 0 [(.a 0),(.a 7),(.a 10),(.l 0),(.a 1),(.a 2),(.a 3),(.a 4),(.a 5),(.a 6)] [(.t false)] [(.va 0),(.va 8),.nilS]))))))))))))))))))))))))
def a1a:PT :=
 (.need (.is 0 1)
 (.ite (.lt (.a 3) (.slen 1))
 (.ite (.eq (.a 3) (.a 2))
  (.need (treeI (.a 3) (.slen 1))
  (.load false (.ea 1 (.a 3) 8 7) [(D L)]
  (.app none (.lit [[(I L (A 0)),(I L (A 4)),(I L (A 5)),(I L (A 6)),(I L (A 7)),(I L (A 8)),(I L (A 9)),(.int .i64 (.mx (.a 10) (.a 1)))]]) 8
  (.app (some 2) (.va 3) 8
  (.need (treeB (.add (.a 3) (.l 1)))
  (.jump 0 [(.a 0),(.a 1),(.a 2),(.add (.a 3) (.l 1)),(.a 4),(.a 5),(.a 6),(.a 7),(.a 8),(.a 9)] [(.t true)] [(.va 0),(.va 1),(.va 4)]))))))
  (.ite (.not (.a 0))
  (.ite (.lt (.a 2) (.l 0))
   (.need (treeI (.a 3) (.slen 1))
   (.load false (.ea 1 (.a 3) 8 1) [(D L),(D L),(D L),(D L),(D L),(D L)]
   (.call 36 [(.agg [(I L (A 4)),(I L (A 5)),(I L (A 6)),(I L (A 7)),(I L (A 8)),(I L (A 9))]),(.agg [(I L (A 10)),(I L (A 11)),(I L (A 12)),(I L (A 13)),(I L (A 14)),(I L (A 15))])] [] [(.one (D L))]
   (.ite (.lt (.a 16) (.l 0))
   (.app none (.lit [[(I L (A 0)),(I L (A 4)),(I L (A 5)),(I L (A 6)),(I L (A 7)),(I L (A 8)),(I L (A 9)),(I L (A 1))]]) 8
   (.app (some 2) (.va 3) 8
   (.need (treeI (.a 3) (.slen 1))
   (.load false (.ea 1 (.a 3) 8 0) [(D L),(D L),(D L),(D L),(D L),(D L),(D L),(D L)]
   (.app none (.lit [[(I L (A 17)),(I L (A 18)),(I L (A 19)),(I L (A 20)),(I L (A 21)),(I L (A 22)),(I L (A 23)),(I L (A 24))]]) 8
   (.app (some 4) (.va 5) 8
   (.need (treeB (.add (.a 3) (.l 1)))
   (.jump 0 [(.a 0),(.a 1),(.a 2),(.add (.a 3) (.l 1)),(.a 4),(.a 5),(.a 6),(.a 7),(.a 8),(.a 9)] [(.t true)] [(.va 0),(.va 1),(.va 6)]))))))))
   (.need (treeI (.a 3) (.slen 1))
   (.load false (.ea 1 (.a 3) 8 0) [(D L),(D L),(D L),(D L),(D L),(D L),(D L),(D L)]
   (.app none (.lit [[(I L (A 17)),(I L (A 18)),(I L (A 19)),(I L (A 20)),(I L (A 21)),(I L (A 22)),(I L (A 23)),(I L (A 24))]]) 8
   (.app (some 2) (.va 3) 8
   (.need (treeB (.add (.a 3) (.l 1)))
   (.jump 0 [(.a 0),(.a 1),(.a 2),(.add (.a 3) (.l 1)),(.a 4),(.a 5),(.a 6),(.a 7),(.a 8),(.a 9)] [(.a 0)] [(.va 0),(.va 1),(.va 4)]))))))))))
   (.need (treeI (.a 3) (.slen 1))
   (.load false (.ea 1 (.a 3) 8 0) [(D L),(D L),(D L),(D L),(D L),(D L),(D L),(D L)]
   (.app none (.lit [[(I L (A 10)),(I L (A 11)),(I L (A 12)),(I L (A 13)),(I L (A 14)),(I L (A 15)),(I L (A 16)),(I L (A 17))]]) 8
   (.app (some 2) (.va 3) 8
   (.need (treeB (.add (.a 3) (.l 1)))
   (.jump 0 [(.a 0),(.a 1),(.a 2),(.add (.a 3) (.l 1)),(.a 4),(.a 5),(.a 6),(.a 7),(.a 8),(.a 9)] [(.a 0)] [(.va 0),(.va 1),(.va 4)])))))))
  (.need (treeI (.a 3) (.slen 1))
  (.load false (.ea 1 (.a 3) 8 0) [(D L),(D L),(D L),(D L),(D L),(D L),(D L),(D L)]
  (.app none (.lit [[(I L (A 10)),(I L (A 11)),(I L (A 12)),(I L (A 13)),(I L (A 14)),(I L (A 15)),(I L (A 16)),(I L (A 17))]]) 8
  (.app (some 2) (.va 3) 8
  (.need (treeB (.add (.a 3) (.l 1)))
  (.jump 0 [(.a 0),(.a 1),(.a 2),(.add (.a 3) (.l 1)),(.a 4),(.a 5),(.a 6),(.a 7),(.a 8),(.a 9)] [(.a 0)] [(.va 0),(.va 1),(.va 4)]))))))))
 (.ite (.not (.a 0))
  (.app none (.lit [[(I L (A 0)),(I L (A 4)),(I L (A 5)),(I L (A 6)),(I L (A 7)),(I L (A 8)),(I L (A 9)),(I L (A 1))]]) 8
  (.app (some 2) (.va 3) 8
  (.need (.is 1 0)
  (.load false (.pa 0 4) [.val]
  (.need (treeI (.a 0) (.slen 5))
  (.storeM (.ea 5 (.a 0) 1 0) [(.va 4)]
  (.ret false (I L (E 0)) [])))))))
  (.need (.is 1 0)
  (.load false (.pa 0 4) [.val]
  (.need (treeI (.a 0) (.slen 3))
  (.storeM (.ea 3 (.a 0) 1 0) [(.va 2)]
  (.ret false (I L (E 0)) []))))))))
def saleroomref16_Book_Put_S:Sx.Sys:=⟨[(.sh (.one .val)),(.sh (.one (D L))),(.sh (.agg [(D L),(D L),(D L),(D L),(D L),(D L)])),(.sh (.one (D L)))],a0L,[a1a],none,none⟩
def a7I:List Cfg:=[{ todo:=[(.code [false,false,true,false,true,true,true,true,true,true,true,true,true,true,true]),(.inLoop [false,false,true,false,true,true,true,true,true,true,true,true,true,true,true]),(.inBlock 0),(.code [true,true,true,true,true,true,true,true,true,true,true,true])],sl:=[(.va 0),(I L (A 0)),(.junk 0),(I L (A 1)),.undef,.undef,(.ptr 0 0),.undef,(.junk 1),(.junk 2),(.va 1),(I L (A 2)),(.va 2),(.bool (.a 0)),(I L (A 3))]++jkR 3 26++[.undef]++jkR 29 95++udR 16,H:=[(.cells [(I L (A 4)),(I L (A 5)),(I L (A 6)),(I L (A 7)),(I L (A 8)),(I L (A 9))] 40 false),(.row 2 52 8)],ni:=10,nb:=1,nv:=3,nj:=124 }]
theorem a8v:SysOk Try.prog 17 saleroomref16_Book_Put_S:=a0N (c:=(cg [[false,false,true,false,true,true,true,true,true,true,true,true,true,true,true]] [] [] true false false true)) (a0J _ _ _ _ _ _ _ _ _) Try.func17 Try.call17 (by kernel_rfl) a7I saleroomref16_Book_Put_S 5000 rfl (by kernel_rfl) (by kernel_rfl) rfl
def a1Q:PT :=
 (.call 37 [(.va 0),(I L (A 0))] [] [(.one .bool)]
 (.ite (.not (.a 0))
 (.ret false .nilS [])
 (.need (.is 1 0)
 (.load false (.pa 0 4) [.val]
 (.need (treeI (.a 0) (.slen 1))
 (.load false (.ea 1 (.a 0) 1 0) [.val]
 (.rng 2
 (.jump 0 [(.a 0)] [] [.nilS,(.va 3)]))))))))
def a4d:PT :=
 (.next 1 6
 (.call 39 [(.va 0),(.fn 40 0 [])] [] []
 (.ret false (.va 0) []))
 (.entry 1 6
 (.app none (.lit [[(I L (A 0)),(I L (A 8)),(I L (A 9)),(I L (A 10)),(I L (A 11)),(I L (A 12)),(I L (A 13)),(I L (A 14))]]) 8
 (.appM (.va 0) (.va 2) 8 52
 (.jump 0 [(.a 0)] [] [(.va 3),(.va 1)])))))
def bidbook_Book_Offers_S:Sx.Sys:=⟨[(.sh (.one .val)),(.sh (.one (D L)))],a1Q,[a4d],none,none⟩
def a8K:List Cfg:=[{ todo:=[(.code [false,false,true,false,true,true,true]),(.inLoop [false,false,true,false,true,true,true]),(.inBlock 0),(.code [true,true,true,true])],sl:=[(.junk 0),(I L (A 0)),.undef,.undef,(.junk 1),(.va 0)]++jkR 2 13++[(.va 1)]++jkR 15 12++[.undef,.undef,.undef],H:=[],ni:=1,nb:=0,nv:=2,nj:=27 }]
theorem a4k:SysIs Try.prog 25 bidbook_Book_Offers_S:=a8F (c:=(cg [[false,false,true,false,true,true,true]] [] [] true false true true)) (a0J _ _ _ _ _ _ _ _ _) Try.func25 Try.call25 (by kernel_rfl) a8K bidbook_Book_Offers_S 5000 rfl (by kernel_rfl) (by kernel_rfl)
def a4C:PT :=
 (.need (.is 0 0)
 (.ite (.eq (.slen 0) (.l 0))
 (.ret false (I L (E 1)) [])
 (.need (.is 0 0)
 (.ite (.lt (.l 8) (.slen 0))
  (.ret false (I L (E 3)) [])
  (.jump 0 [(.l 0)] [] [(.va 0)])))))
def a2s:PT :=
 (.need (.is 0 0)
 (.ite (.lt (.a 0) (.slen 0))
 (.need (treeI (.a 0) (.slen 0))
 (.load false (.ea 0 (.a 0) 4 0) [.val]
 (.call 51 [(.va 1)] [] [(.one .bool)]
 (.ite (.not (.a 0))
  (.ret false (I L (E 5)) [])
  (.need (treeI (.a 0) (.slen 0))
  (.load false (.ea 0 (.a 0) 4 0) [.val]
  (.call 52 [(.va 0),(.va 2)] [] [(.one (D L)),(.one .bool)]
  (.ite (.not (.eq (.a 1) (.a 0)))
  (.ret false (I L (E 7)) [])
  (.need (treeI (.a 0) (.slen 0))
  (.load false (.ea 0 (.a 0) 4 1) [(D L)]
  (.ite (.lt (.a 2) (.l 0))
   (.ret false (I L (E 4)) [])
   (.need (treeI (.a 0) (.slen 0))
   (.load false (.ea 0 (.a 0) 4 1) [(D L)]
   (.ite (.lt (.l 4) (.a 3))
   (.ret false (I L (E 4)) [])
   (.need (treeI (.a 0) (.slen 0))
   (.load false (.ea 0 (.a 0) 4 2) [(D L)]
   (.ite (.lt (.a 4) (.l 0))
    (.ret false (I L (E 4)) [])
    (.need (treeI (.a 0) (.slen 0))
    (.load false (.ea 0 (.a 0) 4 2) [(D L)]
    (.ite (.lt (.l 1000000) (.a 5))
    (.ret false (I L (E 4)) [])
    (.need (treeI (.a 0) (.slen 0))
    (.load false (.ea 0 (.a 0) 4 3) [(D L)]
    (.ite (.lt (.a 6) (.l 0))
     (.ret false (I L (E 4)) [])
     (.need (treeI (.a 0) (.slen 0))
     (.load false (.ea 0 (.a 0) 4 3) [(D L)]
     (.ite (.lt (.l 24000) (.a 7))
     (.ret false (I L (E 4)) [])
     (.need (treeB (.add (.a 0) (.l 1)))
     (.jump 0 [(.add (.a 0) (.l 1))] [] [(.va 0)]))))))))))))))))))))))))))))
 (.ret false (I L (E 0)) [])))
def saleroomref09_Check_S:Sx.Sys:=⟨[(.sh (.one .val))],a4C,[a2s],none,none⟩
def a8W:List Cfg:=[{ todo:=[(.code [false,false,true,false,true,true,true]),(.inLoop [false,false,true,false,true,true,true]),(.inBlock 0),(.code [true,true,true,true])],sl:=[(.va 0),.undef,(.junk 0),(I L (A 0))]++jkR 1 80,H:=[],ni:=1,nb:=0,nv:=1,nj:=81 }]
theorem b0u:SysOk Try.prog 33 saleroomref09_Check_S:=a0N (c:=(cg [[false,false,true,false,true,true,true]] [] [] false false false true)) (a0J _ _ _ _ _ _ _ _ _) Try.func33 Try.call33 (by kernel_rfl) a8W saleroomref09_Check_S 5000 rfl (by kernel_rfl) (by kernel_rfl) rfl
def a6Y:PT :=
 (.need (.is 0 0)
 (.ite (.eq (.slen 0) (.l 0))
 (.ret false (I L (E 1)) [])
 (.need (.is 0 0)
 (.ite (.lt (.l 6) (.slen 0))
  (.ret false (I L (E 3)) [])
  (.need (.is 0 0)
  (.jump 0 [(.slen 0),(.l 0)] [] [(.va 0)]))))))
def a3O:PT :=
 (.ite (.lt (.a 1) (.a 0))
 (.need (treeI (.a 1) (.slen 0))
 (.load false (.ea 0 (.a 1) 5 0) [.val,(D L),(D L),(D L),(D L)]
 (.call 60 [(.va 1)] [] [(.one .bool)]
 (.ite (.not (.a 0))
  (.ret false (I L (E 5)) [])
  (.cut 0 none (some (.a 1)) 5
  (.call 61 [(.va 2),(.va 1)] [] [(.one (D L)),(.one .bool)]
  (.ite (.a 1)
  (.ret false (I L (E 7)) [])
  (.call 62 [(I L (A 2)),(I L (E 1)),(I L (E 4))] [] [(.one .bool)]
  (.ite (.not (.a 2))
   (.ret false (I L (E 4)) [])
   (.call 62 [(I L (A 3)),(I L (E 0)),(I L (E 1000000))] [] [(.one .bool)]
   (.ite (.not (.a 3))
   (.ret false (I L (E 4)) [])
   (.call 62 [(I L (A 4)),(I L (E 0)),(I L (E 1000))] [] [(.one .bool)]
   (.ite (.not (.a 4))
    (.ret false (I L (E 4)) [])
    (.call 62 [(I L (A 5)),(I L (E 0)),(I L (E 4))] [] [(.one .bool)]
    (.ite (.not (.a 5))
    (.ret false (I L (E 4)) [])
    (.need (treeB (.add (.a 1) (.l 1)))
    (.jump 0 [(.a 0),(.add (.a 1) (.l 1))] [] [(.va 0)])))))))))))))))))
 (.call 64 [(.va 0)] [] [(.agg [(D L),(D L),(D L),(D L),(D L),(D L)])]
 (.call 63 [(.agg [(I L (A 2)),(I L (A 3)),(I L (A 4)),(I L (A 5)),(I L (A 6)),(I L (A 7))])] [] [(.one (D L))]
 (.ite (.eq (.a 8) (.l 0))
  (.ret false (I L (E 12)) [])
  (.ret false (I L (E 0)) [])))))
def catalog_Check_S:Sx.Sys:=⟨[(.sh (.one .val))],a6Y,[a3O],none,none⟩
def b3z:List Cfg:=[{ todo:=[(.code [false,false,true,false,true,true]),(.inLoop [false,false,true,false,true,true]),(.inBlock 1),(.code [true,true,true])],sl:=[(.va 0),.undef]++jkR 0 13++[(.va 0),(I L (A 0)),(I L (A 1))]++jkR 13 41++udR 4,H:=[],ni:=2,nb:=0,nv:=1,nj:=54 }]
theorem b5c:SysOk Try.prog 42 catalog_Check_S:=a0N (c:=(cg [[false,false,true,false,true,true]] [] [] false false false true)) (a0J _ _ _ _ _ _ _ _ _) Try.func42 Try.call42 (by kernel_rfl) b3z catalog_Check_S 5000 rfl (by kernel_rfl) (by kernel_rfl) rfl
def a4j:PT :=
 (.need (.is 3 0)
 (.ite (.lt (.stl 0) (.l 1))
 (.ret false (.bool (.t false)) [])
 (.need (.is 3 0)
 (.ite (.lt (.l 12) (.stl 0))
  (.ret false (.bool (.t false)) [])
  (.jump 0 [(.l 0)] [] [(.va 0)])))))
def a2m:PT :=
 (.need (.is 3 0)
 (.ite (.lt (.a 0) (.stl 0))
 (.need (.is 3 0)
 (.need (treeI (.a 0) (.stl 0))
 (.ite (.le (.l 97) (.sat 0 (.a 0)))
  (.need (.is 3 0)
  (.need (treeI (.a 0) (.stl 0))
  (.ite (.not (.le (.sat 0 (.a 0)) (.l 122)))
  (.ite (.eq (.a 0) (.l 0))
   (.ret false (.bool (.t false)) [])
   (.need (.is 3 0)
   (.need (treeI (.a 0) (.stl 0))
   (.ite (.not (.eq (.sat 0 (.a 0)) (.l 95)))
   (.need (.is 3 0)
   (.need (treeI (.a 0) (.stl 0))
   (.ite (.lt (.sat 0 (.a 0)) (.l 48))
    (.ret false (.bool (.t false)) [])
    (.need (.is 3 0)
    (.need (treeI (.a 0) (.stl 0))
    (.ite (.lt (.l 57) (.sat 0 (.a 0)))
    (.ret false (.bool (.t false)) [])
    (.need (treeB (.add (.a 0) (.l 1)))
    (.jump 0 [(.add (.a 0) (.l 1))] [] [(.va 0)]))))))))
   (.need (treeB (.add (.a 0) (.l 1)))
   (.jump 0 [(.add (.a 0) (.l 1))] [] [(.va 0)]))))))
  (.need (treeB (.add (.a 0) (.l 1)))
  (.jump 0 [(.add (.a 0) (.l 1))] [] [(.va 0)])))))
  (.ite (.eq (.a 0) (.l 0))
  (.ret false (.bool (.t false)) [])
  (.need (.is 3 0)
  (.need (treeI (.a 0) (.stl 0))
  (.ite (.not (.eq (.sat 0 (.a 0)) (.l 95)))
   (.need (.is 3 0)
   (.need (treeI (.a 0) (.stl 0))
   (.ite (.lt (.sat 0 (.a 0)) (.l 48))
   (.ret false (.bool (.t false)) [])
   (.need (.is 3 0)
   (.need (treeI (.a 0) (.stl 0))
   (.ite (.lt (.l 57) (.sat 0 (.a 0)))
    (.ret false (.bool (.t false)) [])
    (.need (treeB (.add (.a 0) (.l 1)))
    (.jump 0 [(.add (.a 0) (.l 1))] [] [(.va 0)]))))))))
   (.need (treeB (.add (.a 0) (.l 1)))
   (.jump 0 [(.add (.a 0) (.l 1))] [] [(.va 0)])))))))))
 (.ret false (.bool (.t true)) [])))
def saleroomref08_IsName_S:Sx.Sys:=⟨[(.sh (.one .val))],a4j,[a2m],none,none⟩
def a8t:List Cfg:=[{ todo:=[(.code [false,false,true,false,true,true]),(.inLoop [false,false,true,false,true,true]),(.inBlock 0),(.code [true,true,true])],sl:=[(.va 0),.undef,(.junk 0),(I L (A 0))]++jkR 1 49,H:=[],ni:=1,nb:=0,nv:=1,nj:=50 }]
theorem a9y:SysOk Try.prog 50 saleroomref08_IsName_S:=a0N (c:=(cg [[false,false,true,false,true,true]] [] [] false false false true)) (a0J _ _ _ _ _ _ _ _ _) Try.func50 Try.call50 (by kernel_rfl) a8t saleroomref08_IsName_S 5000 rfl (by kernel_rfl) (by kernel_rfl) rfl
def a4l:PT :=
 (.ite (.le (.l 97) (.a 0))
 (.ret false (.bool (.le (.a 0) (.l 122))) [])
 (.ret false (.bool (.t false)) []))
def saleroomref06_letter_S:Sx.Sys:=⟨[(.sh (.one (.int .u8)))],a4l,[],none,none⟩
def a8j:List Cfg:=[]
theorem a9H:SysOk Try.prog 66 saleroomref06_letter_S:=a0N (c:=(cg [] [] [] false false false true)) (a0J _ _ _ _ _ _ _ _ _) Try.func66 Try.call66 (by kernel_rfl) a8j saleroomref06_letter_S 5000 rfl (by kernel_rfl) (by kernel_rfl) rfl
def a4r:PT :=
 (.ite (.le (.l 48) (.a 0))
 (.ret false (.bool (.le (.a 0) (.l 57))) [])
 (.ret false (.bool (.t false)) []))
def saleroomref06_digit_S:Sx.Sys:=⟨[(.sh (.one (.int .u8)))],a4r,[],none,none⟩
def a8M:List Cfg:=[]
theorem b0E:SysOk Try.prog 86 saleroomref06_digit_S:=a0N (c:=(cg [] [] [] false false false true)) (a0J _ _ _ _ _ _ _ _ _) Try.func86 Try.call86 (by kernel_rfl) a8M saleroomref06_digit_S 5000 rfl (by kernel_rfl) (by kernel_rfl) rfl
def a8a:PT :=
 (.ite (.le (.l 48) (.a 0))
 (.ret false (.bool (.le (.a 0) (.l 57))) [])
 (.ret false (.bool (.t false)) []))
def lexer_digit_S:Sx.Sys:=⟨[(.sh (.one (.int .i32)))],a8a,[],none,none⟩
def b5D:List Cfg:=[]
theorem b7d:SysOk Try.prog 96 lexer_digit_S:=a0N (c:=(cg [] [] [] false false false true)) (a0J _ _ _ _ _ _ _ _ _) Try.func96 Try.call96 (by kernel_rfl) b5D lexer_digit_S 5000 rfl (by kernel_rfl) (by kernel_rfl) rfl
end Go.Proofs.Ytflcopaopimlpaa
set_option maxRecDepth 100000
namespace Go.Proofs.Ytflcopaopimlpaa
open Go.Sx
def a7O:PT :=
 (.call 27 [(.agg [(.va 0),(.va 1),(.va 2),(.va 3)])] [] [(.one (D L))]
 (.ite (.not (.eq (.a 0) (.l 0)))
 (.ret true (.tup [.nilP,(I L (A 0))]) [])
 (.call 28 [(.agg [(.va 0),(.va 1),(.va 2),(.va 3)])] [] [(.agg [.val,.val,.val,.val])]
 (.newM [(.va 4),(.va 5),(.va 6),(.va 7),.nilS] 68
 (.need (.is 0 1)
 (.jump 0 [(.slen 1),(.l 0)] [] [(.va 8)]))))))
def a3I:PT :=
 (.ite (.lt (.a 1) (.a 0))
 (.load false (.pa 0 4) [.val]
 (.mkQ
 (.app none (.lit [[(.va 2)]]) 1
 (.appM (.va 1) (.va 3) 1 69
 (.storeM (.pa 0 4) [(.va 4)]
 (.need (treeB (.add (.a 1) (.l 1)))
 (.jump 0 [(.a 0),(.add (.a 1) (.l 1))] [] [(.va 0)])))))))
 (.ret true (.tup [(.pa 0 0),(I L (E 0))]) []))
def bidbook_New_S:Sx.Sys:=⟨[(.sh (.agg [.val,.val,.val,.val]))],a7O,[a3I],none,none⟩
def b5i:List Cfg:=[{ todo:=[(.code [false,false,true,false,true,true,true]),(.inLoop [false,false,true,false,true,true,true]),(.inBlock 0),(.code [true,true,true,true])],sl:=jkR 0 5++[(.pa 0 0)]++jkR 5 4++[.undef]++jkR 9 6++[(I L (A 0)),(I L (A 1))]++jkR 15 12++[.undef],H:=[],ni:=2,nb:=0,nv:=1,nj:=27 }]
theorem b6Y:SysOk Try.prog 10 bidbook_New_S:=a0N (c:=(cg [[false,false,true,false,true,true,true]] [14] [] true true true true)) (a0J _ _ _ _ _ _ _ _ _) Try.func10 Try.call10 (by kernel_rfl) b5i bidbook_New_S 5000 rfl (by kernel_rfl) (by kernel_rfl) rfl
def a5y:PT :=
 (.call 37 [(.va 0),(I L (A 0))] [] [(.one .bool)]
 (.ite (.not (.a 0))
 (.ret false (I L (E 6)) [])
 (.ite (.lt (.a 7) (.l 1))
  (.ret false (I L (E 4)) [])
  (.ite (.lt (.l 1000000) (.a 7))
  (.ret false (I L (E 4)) [])
  (.need (.is 1 0)
  (.load false (.pa 0 0) [.val,.val,.val,.val]
  (.call 38 [(.agg [(.va 1),(.va 2),(.va 3),(.va 4)]),(I L (A 0)),(.agg [(I L (A 1)),(I L (A 2)),(I L (A 3)),(I L (A 4)),(I L (A 5)),(I L (A 6))])] [] [(.one (D L))]
  (.ite (.not (.eq (.a 8) (.l 0)))
   (.ret false (I L (A 8)) [])
   (.need (.is 1 0)
   (.load false (.pa 0 4) [.val]
   (.need (treeI (.a 0) (.slen 5))
   (.load false (.ea 5 (.a 0) 1 0) [.val]
   (.qGet 6 [(.a 1),(.a 2),(.a 3),(.a 4),(.a 5),(.a 6)] true
   (.need (.is 1 0)
   (.load false (.pa 0 1) [.val]
   (.need (treeI (.a 0) (.slen 7))
   (.load false (.ea 7 (.a 0) 4 2) [(D L)]
   (.ite (.and (.eq (.a 1) (.l 0)) (.and (.eq (.a 2) (.l 0)) (.and (.eq (.a 3) (.l 0)) (.and (.eq (.a 4) (.l 0)) (.and (.eq (.a 5) (.l 0)) (.eq (.a 6) (.l 0)))))))
   (.ret false (I L (E 4)) [])
   (.ite (.not (.eq (.a 10) (.l 0)))
    (.ite (.lt (.a 10) (.a 7))
    (.ret false (I L (E 17)) [])
    (.ite (.not (.a 1))
     (.need (.is 1 0)
     (.load false (.pa 0 4) [.val]
     (.need (treeI (.a 0) (.slen 8))
     (.load false (.ea 8 (.a 0) 1 0) [.val]
     (.qLen 9
     (.ite (.le (.l 40) (.a 11))
     (.ret false (I L (E 3)) [])
     (.need (.is 1 0)
     (.load false (.pa 0 4) [.val]
     (.need (treeI (.a 0) (.slen 10))
     (.load false (.ea 10 (.a 0) 1 0) [.val]
     (.qSet 11 [(.a 1),(.a 2),(.a 3),(.a 4),(.a 5),(.a 6)] (.mx (.a 9) (.a 7))
     (.ret false (I L (E 0)) []))))))))))))
     (.need (.is 1 0)
     (.load false (.pa 0 4) [.val]
     (.need (treeI (.a 0) (.slen 8))
     (.load false (.ea 8 (.a 0) 1 0) [.val]
     (.qSet 9 [(.a 1),(.a 2),(.a 3),(.a 4),(.a 5),(.a 6)] (.mx (.a 9) (.a 7))
     (.ret false (I L (E 0)) []))))))))
    (.ite (.not (.a 1))
    (.need (.is 1 0)
    (.load false (.pa 0 4) [.val]
    (.need (treeI (.a 0) (.slen 8))
    (.load false (.ea 8 (.a 0) 1 0) [.val]
    (.qLen 9
    (.ite (.le (.l 40) (.a 11))
     (.ret false (I L (E 3)) [])
     (.need (.is 1 0)
     (.load false (.pa 0 4) [.val]
     (.need (treeI (.a 0) (.slen 10))
     (.load false (.ea 10 (.a 0) 1 0) [.val]
     (.qSet 11 [(.a 1),(.a 2),(.a 3),(.a 4),(.a 5),(.a 6)] (.mx (.a 9) (.a 7))
     (.ret false (I L (E 0)) []))))))))))))
    (.need (.is 1 0)
    (.load false (.pa 0 4) [.val]
    (.need (treeI (.a 0) (.slen 8))
    (.load false (.ea 8 (.a 0) 1 0) [.val]
    (.qSet 9 [(.a 1),(.a 2),(.a 3),(.a 4),(.a 5),(.a 6)] (.mx (.a 9) (.a 7))
    (.ret false (I L (E 0)) []))))))))))))))))))))))))))
def bidbook_Book_Put_S:Sx.Sys:=⟨[(.sh (.one .val)),(.sh (.one (D L))),(.sh (.agg [(D L),(D L),(D L),(D L),(D L),(D L)])),(.sh (.one (D L)))],a5y,[],none,none⟩
def b1y:List Cfg:=[]
theorem b2N:SysOk Try.prog 18 bidbook_Book_Put_S:=a0N (c:=(cg [] [] [] true false false true)) (a0J _ _ _ _ _ _ _ _ _) Try.func18 Try.call18 (by kernel_rfl) b1y bidbook_Book_Put_S 5000 rfl (by kernel_rfl) (by kernel_rfl) rfl
def b2d:PT :=
 (.app none (.lit [[(.str [97]),(I L (E 1)),(I L (E 0)),(I L (E 0)),(I L (E 0))]]) 5
 (.app none (.lit [[(.str [120]),(I L (E 0)),(I L (E 10)),(I L (E 0))]]) 4
 (.ret false (.agg [(.va 0),(.va 1),.nilS,.nilS]) [])))
def saleroomlaw16_sale_S:Sx.Sys:=⟨[],b2d,[],none,none⟩
def a9J:List Cfg:=[]
theorem b0X:SysOk Try.prog 26 saleroomlaw16_sale_S:=a0N (c:=(cg [] [] [] false false false true)) (a0J _ _ _ _ _ _ _ _ _) Try.func26 Try.call26 (by kernel_rfl) a9J saleroomlaw16_sale_S 5000 rfl (by kernel_rfl) (by kernel_rfl) rfl
def a3R:PT :=
 (.call 14 [(.agg [(.va 0),(.va 1),(.va 2),(.va 3)])] [] [(.one (D L))]
 (.ite (.not (.eq (.a 7) (.l 0)))
 (.ret false (I L (A 7)) [])
 (.ite (.lt (.a 0) (.l 0))
  (.ret false (I L (E 6)) [])
  (.need (.is 0 1)
  (.ite (.le (.slen 1) (.a 0))
  (.ret false (I L (E 6)) [])
  (.call 53 [(.agg [(I L (A 1)),(I L (A 2)),(I L (A 3)),(I L (A 4)),(I L (A 5)),(I L (A 6))])] [] [(.one .bool)]
  (.ite (.not (.a 0))
   (.ret false (I L (E 4)) [])
   (.call 54 [(.agg [(.va 0),(.va 1),(.va 2),(.va 3)])] [] [(.agg [(D L),(D L),(D L),(D L),(D L),(D L)]),(.agg [(D L),(D L),(D L),(D L),(D L),(D L)])]
   (.call 55 [(.va 0)] [] [(.agg [(D L),(D L),(D L),(D L),(D L),(D L)])]
   (.jump 0 [(.a 0),(.l 0),(.a 1),(.a 2),(.a 3),(.a 4),(.a 5),(.a 6),(.a 8),(.a 9),(.a 10),(.a 11),(.a 12),(.a 13),(.a 14),(.a 15),(.a 16),(.a 17),(.a 18),(.a 19),(.a 20),(.a 21),(.a 22),(.a 23),(.a 24),(.a 25)] [] [(.va 0),(.va 1),(.va 2),(.va 3)]))))))))))
def a0O:PT :=
 (.ite (.lt (.a 1) (.l 6))
 (.ite (.eq (.a 1) (.l 5))
  (.ite (.lt (.a 25) (.a 7))
  (.ret false (I L (E 14)) [])
  (.ite (.not (.eq (.a 19) (.l 0)))
   (.need (treeI (.a 0) (.slen 1))
   (.load true (.ea 1 (.a 0) 4 1) [(D L)]
   (.ite (.not (.eq (.a 19) (.a 26)))
   (.ite (.lt (.a 13) (.a 7))
    (.ret false (I L (E 14)) [])
    (.jump 0 [(.a 0),(.l 6),(.a 2),(.a 3),(.a 4),(.a 5),(.a 6),(.a 7),(.a 8),(.a 9),(.a 10),(.a 11),(.a 12),(.a 13),(.a 14),(.a 15),(.a 16),(.a 17),(.a 18),(.a 19),(.a 20),(.a 21),(.a 22),(.a 23),(.a 24),(.a 25)] [] [(.va 0),(.va 1),(.va 2),(.va 3)]))
   (.jump 0 [(.a 0),(.l 6),(.a 2),(.a 3),(.a 4),(.a 5),(.a 6),(.a 7),(.a 8),(.a 9),(.a 10),(.a 11),(.a 12),(.a 13),(.a 14),(.a 15),(.a 16),(.a 17),(.a 18),(.a 19),(.a 20),(.a 21),(.a 22),(.a 23),(.a 24),(.a 25)] [] [(.va 0),(.va 1),(.va 2),(.va 3)]))))
   (.jump 0 [(.a 0),(.l 6),(.a 2),(.a 3),(.a 4),(.a 5),(.a 6),(.a 7),(.a 8),(.a 9),(.a 10),(.a 11),(.a 12),(.a 13),(.a 14),(.a 15),(.a 16),(.a 17),(.a 18),(.a 19),(.a 20),(.a 21),(.a 22),(.a 23),(.a 24),(.a 25)] [] [(.va 0),(.va 1),(.va 2),(.va 3)])))
  (.ite (.eq (.a 1) (.l 4))
  (.ite (.lt (.a 24) (.a 6))
   (.ret false (I L (E 14)) [])
   (.ite (.not (.eq (.a 18) (.l 0)))
   (.need (treeI (.a 0) (.slen 1))
   (.load true (.ea 1 (.a 0) 4 1) [(D L)]
   (.ite (.not (.eq (.a 18) (.a 26)))
    (.ite (.lt (.a 12) (.a 6))
    (.ret false (I L (E 14)) [])
    (.jump 0 [(.a 0),(.l 5),(.a 2),(.a 3),(.a 4),(.a 5),(.a 6),(.a 7),(.a 8),(.a 9),(.a 10),(.a 11),(.a 12),(.a 13),(.a 14),(.a 15),(.a 16),(.a 17),(.a 18),(.a 19),(.a 20),(.a 21),(.a 22),(.a 23),(.a 24),(.a 25)] [] [(.va 0),(.va 1),(.va 2),(.va 3)]))
    (.jump 0 [(.a 0),(.l 5),(.a 2),(.a 3),(.a 4),(.a 5),(.a 6),(.a 7),(.a 8),(.a 9),(.a 10),(.a 11),(.a 12),(.a 13),(.a 14),(.a 15),(.a 16),(.a 17),(.a 18),(.a 19),(.a 20),(.a 21),(.a 22),(.a 23),(.a 24),(.a 25)] [] [(.va 0),(.va 1),(.va 2),(.va 3)]))))
   (.jump 0 [(.a 0),(.l 5),(.a 2),(.a 3),(.a 4),(.a 5),(.a 6),(.a 7),(.a 8),(.a 9),(.a 10),(.a 11),(.a 12),(.a 13),(.a 14),(.a 15),(.a 16),(.a 17),(.a 18),(.a 19),(.a 20),(.a 21),(.a 22),(.a 23),(.a 24),(.a 25)] [] [(.va 0),(.va 1),(.va 2),(.va 3)])))
  (.ite (.eq (.a 1) (.l 3))
   (.ite (.lt (.a 23) (.a 5))
   (.ret false (I L (E 14)) [])
   (.ite (.not (.eq (.a 17) (.l 0)))
    (.need (treeI (.a 0) (.slen 1))
    (.load true (.ea 1 (.a 0) 4 1) [(D L)]
    (.ite (.not (.eq (.a 17) (.a 26)))
    (.ite (.lt (.a 11) (.a 5))
     (.ret false (I L (E 14)) [])
     (.jump 0 [(.a 0),(.l 4),(.a 2),(.a 3),(.a 4),(.a 5),(.a 6),(.a 7),(.a 8),(.a 9),(.a 10),(.a 11),(.a 12),(.a 13),(.a 14),(.a 15),(.a 16),(.a 17),(.a 18),(.a 19),(.a 20),(.a 21),(.a 22),(.a 23),(.a 24),(.a 25)] [] [(.va 0),(.va 1),(.va 2),(.va 3)]))
    (.jump 0 [(.a 0),(.l 4),(.a 2),(.a 3),(.a 4),(.a 5),(.a 6),(.a 7),(.a 8),(.a 9),(.a 10),(.a 11),(.a 12),(.a 13),(.a 14),(.a 15),(.a 16),(.a 17),(.a 18),(.a 19),(.a 20),(.a 21),(.a 22),(.a 23),(.a 24),(.a 25)] [] [(.va 0),(.va 1),(.va 2),(.va 3)]))))
    (.jump 0 [(.a 0),(.l 4),(.a 2),(.a 3),(.a 4),(.a 5),(.a 6),(.a 7),(.a 8),(.a 9),(.a 10),(.a 11),(.a 12),(.a 13),(.a 14),(.a 15),(.a 16),(.a 17),(.a 18),(.a 19),(.a 20),(.a 21),(.a 22),(.a 23),(.a 24),(.a 25)] [] [(.va 0),(.va 1),(.va 2),(.va 3)])))
   (.ite (.eq (.a 1) (.l 2))
   (.ite (.lt (.a 22) (.a 4))
    (.ret false (I L (E 14)) [])
    (.ite (.not (.eq (.a 16) (.l 0)))
    (.need (treeI (.a 0) (.slen 1))
    (.load true (.ea 1 (.a 0) 4 1) [(D L)]
    (.ite (.not (.eq (.a 16) (.a 26)))
     (.ite (.lt (.a 10) (.a 4))
     (.ret false (I L (E 14)) [])
     (.jump 0 [(.a 0),(.l 3),(.a 2),(.a 3),(.a 4),(.a 5),(.a 6),(.a 7),(.a 8),(.a 9),(.a 10),(.a 11),(.a 12),(.a 13),(.a 14),(.a 15),(.a 16),(.a 17),(.a 18),(.a 19),(.a 20),(.a 21),(.a 22),(.a 23),(.a 24),(.a 25)] [] [(.va 0),(.va 1),(.va 2),(.va 3)]))
     (.jump 0 [(.a 0),(.l 3),(.a 2),(.a 3),(.a 4),(.a 5),(.a 6),(.a 7),(.a 8),(.a 9),(.a 10),(.a 11),(.a 12),(.a 13),(.a 14),(.a 15),(.a 16),(.a 17),(.a 18),(.a 19),(.a 20),(.a 21),(.a 22),(.a 23),(.a 24),(.a 25)] [] [(.va 0),(.va 1),(.va 2),(.va 3)]))))
    (.jump 0 [(.a 0),(.l 3),(.a 2),(.a 3),(.a 4),(.a 5),(.a 6),(.a 7),(.a 8),(.a 9),(.a 10),(.a 11),(.a 12),(.a 13),(.a 14),(.a 15),(.a 16),(.a 17),(.a 18),(.a 19),(.a 20),(.a 21),(.a 22),(.a 23),(.a 24),(.a 25)] [] [(.va 0),(.va 1),(.va 2),(.va 3)])))
   (.ite (.eq (.a 1) (.l 1))
    (.ite (.lt (.a 21) (.a 3))
    (.ret false (I L (E 14)) [])
    (.ite (.not (.eq (.a 15) (.l 0)))
     (.need (treeI (.a 0) (.slen 1))
     (.load true (.ea 1 (.a 0) 4 1) [(D L)]
     (.ite (.not (.eq (.a 15) (.a 26)))
     (.ite (.lt (.a 9) (.a 3))
      (.ret false (I L (E 14)) [])
      (.jump 0 [(.a 0),(.l 2),(.a 2),(.a 3),(.a 4),(.a 5),(.a 6),(.a 7),(.a 8),(.a 9),(.a 10),(.a 11),(.a 12),(.a 13),(.a 14),(.a 15),(.a 16),(.a 17),(.a 18),(.a 19),(.a 20),(.a 21),(.a 22),(.a 23),(.a 24),(.a 25)] [] [(.va 0),(.va 1),(.va 2),(.va 3)]))
     (.jump 0 [(.a 0),(.l 2),(.a 2),(.a 3),(.a 4),(.a 5),(.a 6),(.a 7),(.a 8),(.a 9),(.a 10),(.a 11),(.a 12),(.a 13),(.a 14),(.a 15),(.a 16),(.a 17),(.a 18),(.a 19),(.a 20),(.a 21),(.a 22),(.a 23),(.a 24),(.a 25)] [] [(.va 0),(.va 1),(.va 2),(.va 3)]))))
     (.jump 0 [(.a 0),(.l 2),(.a 2),(.a 3),(.a 4),(.a 5),(.a 6),(.a 7),(.a 8),(.a 9),(.a 10),(.a 11),(.a 12),(.a 13),(.a 14),(.a 15),(.a 16),(.a 17),(.a 18),(.a 19),(.a 20),(.a 21),(.a 22),(.a 23),(.a 24),(.a 25)] [] [(.va 0),(.va 1),(.va 2),(.va 3)])))
    (.ite (.eq (.a 1) (.l 0))
    (.ite (.lt (.a 20) (.a 2))
     (.ret false (I L (E 14)) [])
     (.ite (.not (.eq (.a 14) (.l 0)))
     (.need (treeI (.a 0) (.slen 1))
     (.load true (.ea 1 (.a 0) 4 1) [(D L)]
     (.ite (.not (.eq (.a 14) (.a 26)))
      (.ite (.lt (.a 8) (.a 2))
      (.ret false (I L (E 14)) [])
      (.jump 0 [(.a 0),(.l 1),(.a 2),(.a 3),(.a 4),(.a 5),(.a 6),(.a 7),(.a 8),(.a 9),(.a 10),(.a 11),(.a 12),(.a 13),(.a 14),(.a 15),(.a 16),(.a 17),(.a 18),(.a 19),(.a 20),(.a 21),(.a 22),(.a 23),(.a 24),(.a 25)] [] [(.va 0),(.va 1),(.va 2),(.va 3)]))
      (.jump 0 [(.a 0),(.l 1),(.a 2),(.a 3),(.a 4),(.a 5),(.a 6),(.a 7),(.a 8),(.a 9),(.a 10),(.a 11),(.a 12),(.a 13),(.a 14),(.a 15),(.a 16),(.a 17),(.a 18),(.a 19),(.a 20),(.a 21),(.a 22),(.a 23),(.a 24),(.a 25)] [] [(.va 0),(.va 1),(.va 2),(.va 3)]))))
     (.jump 0 [(.a 0),(.l 1),(.a 2),(.a 3),(.a 4),(.a 5),(.a 6),(.a 7),(.a 8),(.a 9),(.a 10),(.a 11),(.a 12),(.a 13),(.a 14),(.a 15),(.a 16),(.a 17),(.a 18),(.a 19),(.a 20),(.a 21),(.a 22),(.a 23),(.a 24),(.a 25)] [] [(.va 0),(.va 1),(.va 2),(.va 3)])))
    .stuck))))))
 (.jump 1 [(.a 0),(.l 0),(.a 2),(.a 3),(.a 4),(.a 5),(.a 6),(.a 7)] [] [(.va 0),(.va 1),(.va 2),(.va 3)]))
def a2e:PT :=
 (.need (.is 0 2)
 (.ite (.lt (.a 1) (.slen 2))
 (.need (treeI (.a 1) (.slen 2))
 (.load false (.ea 2 (.a 1) 3 0) [(D L),(D L),(D L)]
 (.call 56 [(.va 0),(I L (A 9)),(.agg [(I L (A 2)),(I L (A 3)),(I L (A 4)),(I L (A 5)),(I L (A 6)),(I L (A 7))])] [] [(.one (D L)),(.one (D L)),(.one (D L))]
 (.ite (.eq (.a 8) (.l (-1)))
  (.ite (.lt (.a 10) (.a 13))
  (.ret false (I L (E 14)) [])
  (.need (treeB (.add (.a 1) (.l 1)))
  (.jump 1 [(.a 0),(.add (.a 1) (.l 1)),(.a 2),(.a 3),(.a 4),(.a 5),(.a 6),(.a 7)] [] [(.va 0),(.va 1),(.va 2),(.va 3)])))
  (.ite (.eq (.a 8) (.a 0))
  (.ite (.lt (.a 10) (.a 13))
   (.ret false (I L (E 14)) [])
   (.need (treeB (.add (.a 1) (.l 1)))
   (.jump 1 [(.a 0),(.add (.a 1) (.l 1)),(.a 2),(.a 3),(.a 4),(.a 5),(.a 6),(.a 7)] [] [(.va 0),(.va 1),(.va 2),(.va 3)])))
  (.need (treeB (.add (.a 1) (.l 1)))
  (.jump 1 [(.a 0),(.add (.a 1) (.l 1)),(.a 2),(.a 3),(.a 4),(.a 5),(.a 6),(.a 7)] [] [(.va 0),(.va 1),(.va 2),(.va 3)])))))))
 (.ret false (I L (E 0)) [])))
def saleroomref10_Allowed_S:Sx.Sys:=⟨[(.sh (.agg [.val,.val,.val,.val])),(.sh (.one (D L))),(.sh (.agg [(D L),(D L),(D L),(D L),(D L),(D L)]))],a3R,[a0O,a2e],none,none⟩
def a7T:List Cfg:=[{ todo:=[(.code [false,false,true,false,true,true,true,true,true,true,true]),(.inLoop [false,false,true,false,true,true,true,true,true,true,true]),(.inBlock 0),(.code [true,true,true,true,true,true,true,true])],sl:=[(.junk 0),(I L (A 0)),(.junk 1),(.ptr 0 0),.undef,(.ptr 1 0),(.junk 2),(.junk 3),(.ptr 2 0),(.ptr 3 0),(.ptr 4 0),(I L (A 1))]++udR 5++jkR 4 4++[.undef]++jkR 8 58++udR 37,H:=[(.cells [(.va 0),(.va 1),(.va 2),(.va 3)] 27 false),(.cells [(I L (A 2)),(I L (A 3)),(I L (A 4)),(I L (A 5)),(I L (A 6)),(I L (A 7))] 40 false),(.cells [(I L (A 8)),(I L (A 9)),(I L (A 10)),(I L (A 11)),(I L (A 12)),(I L (A 13))] 40 false),(.cells [(I L (A 14)),(I L (A 15)),(I L (A 16)),(I L (A 17)),(I L (A 18)),(I L (A 19))] 40 false),(.cells [(I L (A 20)),(I L (A 21)),(I L (A 22)),(I L (A 23)),(I L (A 24)),(I L (A 25))] 40 false)],ni:=26,nb:=0,nv:=4,nj:=66 },
 { todo:=[(.code [false,false,true,false,true,true,true,true,true,true,true,true]),(.inLoop [false,false,true,false,true,true,true,true,true,true,true,true]),(.inBlock 2),(.code [true,true,true,true,true,true,true,true,true])],sl:=[(.junk 0),(I L (A 0)),(.junk 1),(.ptr 0 0),.undef,(.ptr 1 0)]++jkR 2 6++[(I L (A 1))]++jkR 8 8++[.undef]++jkR 16 95,H:=[(.cells [(.va 0),(.va 1),(.va 2),(.va 3)] 27 false),(.cells [(I L (A 2)),(I L (A 3)),(I L (A 4)),(I L (A 5)),(I L (A 6)),(I L (A 7))] 40 false)],ni:=8,nb:=0,nv:=4,nj:=111 }]
theorem a9l:SysOk Try.prog 34 saleroomref10_Allowed_S:=a0N (c:=(cg [[false,false,true,false,true,true,true,true,true,true,true],[false,false,true,false,true,true,true,true,true,true,true,true]] [] [] false false false true)) (a0J _ _ _ _ _ _ _ _ _) Try.func34 Try.call34 (by kernel_rfl) a7T saleroomref10_Allowed_S 5000 rfl (by kernel_rfl) (by kernel_rfl) rfl
def a7y:PT :=
 (.need (.is 0 0)
 (.ite (.eq (.slen 0) (.l 0))
 (.ret false (I L (E 1)) [])
 (.need (.is 0 0)
 (.ite (.lt (.l 8) (.slen 0))
  (.ret false (I L (E 3)) [])
  (.need (.is 0 0)
  (.jump 0 [(.slen 0),(.l 0)] [] [(.va 0)]))))))
def a3Y:PT :=
 (.ite (.lt (.a 1) (.a 0))
 (.need (treeI (.a 1) (.slen 0))
 (.load false (.ea 0 (.a 1) 4 0) [.val,(D L),(D L),(D L)]
 (.call 60 [(.va 1)] [] [(.one .bool)]
 (.ite (.not (.a 0))
  (.ret false (I L (E 5)) [])
  (.cut 0 none (some (.a 1)) 4
  (.call 65 [(.va 2),(.va 1)] [] [(.one (D L)),(.one .bool)]
  (.ite (.a 1)
  (.ret false (I L (E 7)) [])
  (.ite (.lt (.a 2) (.l 0))
   (.ret false (I L (E 4)) [])
   (.ite (.lt (.l 4) (.a 2))
   (.ret false (I L (E 4)) [])
   (.ite (.lt (.a 3) (.l 0))
    (.ret false (I L (E 4)) [])
    (.ite (.lt (.l 1000000) (.a 3))
    (.ret false (I L (E 4)) [])
    (.ite (.lt (.a 4) (.l 0))
     (.ret false (I L (E 4)) [])
     (.ite (.lt (.l 24000) (.a 4))
     (.ret false (I L (E 4)) [])
     (.need (treeB (.add (.a 1) (.l 1)))
     (.jump 0 [(.a 0),(.add (.a 1) (.l 1))] [] [(.va 0)])))))))))))))))
 (.ret false (I L (E 0)) []))
def roster_Check_S:Sx.Sys:=⟨[(.sh (.one .val))],a7y,[a3Y],none,none⟩
def b4i:List Cfg:=[{ todo:=[(.code [false,false,true,false,true,true]),(.inLoop [false,false,true,false,true,true]),(.inBlock 1),(.code [true,true,true])],sl:=[(.va 0),.undef]++jkR 0 13++[(.va 0),(I L (A 0)),(I L (A 1))]++jkR 13 47,H:=[],ni:=2,nb:=0,nv:=1,nj:=60 }]
theorem b6H:SysOk Try.prog 43 roster_Check_S:=a0N (c:=(cg [[false,false,true,false,true,true]] [] [] false false false true)) (a0J _ _ _ _ _ _ _ _ _) Try.func43 Try.call43 (by kernel_rfl) b4i roster_Check_S 5000 rfl (by kernel_rfl) (by kernel_rfl) rfl
def a4i:PT :=
 (.need (.is 3 0)
 (.ite (.sis 0 [])
 (.ret false (.bool (.t false)) [])
 (.need (.is 3 0)
 (.ite (.lt (.l 12) (.stl 0))
  (.ret false (.bool (.t false)) [])
  (.need (.is 3 0)
  (.need (.lt (.l 0) (.stl 0))
  (.call 66 [(.int .u8 (.sat 0 (.l 0)))] [] [(.one .bool)]
  (.ite (.not (.a 0))
  (.ret false (.bool (.t false)) [])
  (.call 67 [(.va 0)] [] [(.agg [(D L),.val,(D L),(D L)]),(.one (D L))]
  (.ite (.eq (.a 3) (.l 0))
   (.need (.is 3 1)
   (.need (.is 3 0)
   (.ret false (.bool (.seq 1 0)) [])))
   (.ret false (.bool (.t false)) [])))))))))))
def saleroomref06_IsName_S:Sx.Sys:=⟨[(.sh (.one .val))],a4i,[],none,none⟩
def a8i:List Cfg:=[]
theorem a9P:SysOk Try.prog 51 saleroomref06_IsName_S:=a0N (c:=(cg [] [] [] false false false true)) (a0J _ _ _ _ _ _ _ _ _) Try.func51 Try.call51 (by kernel_rfl) a8i saleroomref06_IsName_S 5000 rfl (by kernel_rfl) (by kernel_rfl) rfl
def a5g:PT :=
 (.need (.is 3 0)
 (.need (.lt (.l 0) (.stl 0))
 (.call 66 [(.int .u8 (.sat 0 (.l 0)))] [] [(.one .bool)]
 (.ite (.a 0)
 (.jump 0 [(.l 1)] [] [(.va 0)])
 (.need (.is 3 0)
 (.need (.lt (.l 0) (.stl 0))
 (.call 86 [(.int .u8 (.sat 0 (.l 0)))] [] [(.one .bool)]
 (.ite (.a 1)
  (.jump 1 [(.l 1)] [] [(.va 0)])
  (.need (.is 3 0)
  (.need (.lt (.l 0) (.stl 0))
  (.call 87 [(.int .u8 (.sat 0 (.l 0)))] [] [(.one .bool)]
  (.ite (.a 2)
  (.scut 0 none (some (.l 1))
  (.ret false (.tup [(.agg [(I L (E 3)),(.va 1),(I L (E 0)),(I L (E 0))]),(I L (E 0))]) []))
  (.ret false (.tup [(.agg [(I L (E 0)),(.str []),(I L (E 0)),(I L (E 0))]),(I L (E 2))]) [])))))))))))))
def a1I:PT :=
 (.need (.is 3 0)
 (.ite (.lt (.a 0) (.stl 0))
 (.need (.is 3 0)
 (.need (treeI (.a 0) (.stl 0))
 (.call 66 [(.int .u8 (.sat 0 (.a 0)))] [] [(.one .bool)]
 (.ite (.a 0)
  (.need (treeB (.add (.a 0) (.l 1)))
  (.jump 0 [(.add (.a 0) (.l 1))] [] [(.va 0)]))
  (.need (.is 3 0)
  (.need (treeI (.a 0) (.stl 0))
  (.call 86 [(.int .u8 (.sat 0 (.a 0)))] [] [(.one .bool)]
  (.ite (.a 1)
  (.need (treeB (.add (.a 0) (.l 1)))
  (.jump 0 [(.add (.a 0) (.l 1))] [] [(.va 0)]))
  (.need (.is 3 0)
  (.need (treeI (.a 0) (.stl 0))
  (.ite (.eq (.sat 0 (.a 0)) (.l 95))
   (.need (treeB (.add (.a 0) (.l 1)))
   (.jump 0 [(.add (.a 0) (.l 1))] [] [(.va 0)]))
   (.ite (.lt (.l 12) (.a 0))
   (.ret false (.tup [(.agg [(I L (E 0)),(.str []),(I L (E 0)),(I L (E 0))]),(I L (E 3))]) [])
   (.scut 0 none (some (.a 0))
   (.ret false (.tup [(.agg [(I L (E 1)),(.va 1),(I L (E 0)),(I L (E 0))]),(I L (E 0))]) []))))))))))))))
 (.ite (.lt (.l 12) (.a 0))
  (.ret false (.tup [(.agg [(I L (E 0)),(.str []),(I L (E 0)),(I L (E 0))]),(I L (E 3))]) [])
  (.scut 0 none (some (.a 0))
  (.ret false (.tup [(.agg [(I L (E 1)),(.va 1),(I L (E 0)),(I L (E 0))]),(I L (E 0))]) [])))))
def b1Q:PT :=
 (.need (.is 3 0)
 (.ite (.lt (.a 0) (.stl 0))
 (.need (.is 3 0)
 (.need (treeI (.a 0) (.stl 0))
 (.call 86 [(.int .u8 (.sat 0 (.a 0)))] [] [(.one .bool)]
 (.ite (.a 0)
  (.need (treeB (.add (.a 0) (.l 1)))
  (.jump 1 [(.add (.a 0) (.l 1))] [] [(.va 0)]))
  (.ite (.lt (.l 1) (.a 0))
  (.need (.is 3 0)
  (.need (.lt (.l 0) (.stl 0))
  (.ite (.eq (.sat 0 (.l 0)) (.l 48))
   (.ret false (.tup [(.agg [(I L (E 0)),(.str []),(I L (E 0)),(I L (E 0))]),(I L (E 2))]) [])
   (.ite (.lt (.l 9) (.a 0))
   (.ret false (.tup [(.agg [(I L (E 0)),(.str []),(I L (E 0)),(I L (E 0))]),(I L (E 4))]) [])
   (.jump 2 [(.a 0),(.l 0),(.l 0)] [] [(.va 0)])))))
  (.ite (.lt (.l 9) (.a 0))
   (.ret false (.tup [(.agg [(I L (E 0)),(.str []),(I L (E 0)),(I L (E 0))]),(I L (E 4))]) [])
   (.jump 2 [(.a 0),(.l 0),(.l 0)] [] [(.va 0)])))))))
 (.ite (.lt (.l 1) (.a 0))
  (.need (.is 3 0)
  (.need (.lt (.l 0) (.stl 0))
  (.ite (.eq (.sat 0 (.l 0)) (.l 48))
  (.ret false (.tup [(.agg [(I L (E 0)),(.str []),(I L (E 0)),(I L (E 0))]),(I L (E 2))]) [])
  (.ite (.lt (.l 9) (.a 0))
   (.ret false (.tup [(.agg [(I L (E 0)),(.str []),(I L (E 0)),(I L (E 0))]),(I L (E 4))]) [])
   (.jump 2 [(.a 0),(.l 0),(.l 0)] [] [(.va 0)])))))
  (.ite (.lt (.l 9) (.a 0))
  (.ret false (.tup [(.agg [(I L (E 0)),(.str []),(I L (E 0)),(I L (E 0))]),(I L (E 4))]) [])
  (.jump 2 [(.a 0),(.l 0),(.l 0)] [] [(.va 0)])))))
def b2a:PT :=
 (.ite (.lt (.a 2) (.a 0))
 (.need (treeB (.mul (.a 1) (.l 10)))
 (.need (.is 3 0)
 (.need (treeI (.a 2) (.stl 0))
 (.need (.and (.le (.l 0) (.sub (.sat 0 (.a 2)) (.l 48))) (.le (.sub (.sat 0 (.a 2)) (.l 48)) (.l 255)))
 (.need (treeB (.sub (.sat 0 (.a 2)) (.l 48)))
 (.need (treeB (.add (.mul (.a 1) (.l 10)) (.sub (.sat 0 (.a 2)) (.l 48))))
 (.need (treeB (.add (.a 2) (.l 1)))
 (.jump 2 [(.a 0),(.add (.mul (.a 1) (.l 10)) (.sub (.sat 0 (.a 2)) (.l 48))),(.add (.a 2) (.l 1))] [] [(.va 0)]))))))))
 (.scut 0 none (some (.a 0))
 (.ret false (.tup [(.agg [(I L (E 2)),(.va 1),(I L (A 1)),(I L (E 0))]),(I L (E 0))]) [])))
def saleroomref06_One_S:Sx.Sys:=⟨[(.sh (.one .val))],a5g,[a1I,b1Q,b2a],none,none⟩
def b0G:List Cfg:=[{ todo:=[(.code [false,false,false,false,true,false,false,true,true]),(.inLoop [false,false,false,false,true,false,false,true,true]),(.inBlock 1),(.code [true,false,true,false,false,true,true]),(.inBlock 0),(.code [true,true,true])],sl:=[(.va 0),.undef,(.ptr 0 0),(.junk 0),(I L (A 0)),.undef,.undef]++jkR 1 28++udR 60,H:=[(.cells [(I L (E 0)),(.str []),(I L (E 0)),(I L (E 0))] 110 false)],ni:=1,nb:=0,nv:=1,nj:=29 },
 { todo:=[(.code [false,false,false,false,true,true,true,false,false,true,true]),(.inLoop [false,false,false,false,true,true,true,false,false,true,true]),(.inBlock 3),(.code [true,false,true,true,true,false,false,true,true]),(.inBlock 0),(.code [true,true,true])],sl:=[(.va 0),.undef,(.ptr 0 0),(.junk 0),(I L (A 0)),.undef,.undef]++jkR 1 4++udR 31++jkR 5 16++udR 37,H:=[(.cells [(I L (E 0)),(.str []),(I L (E 0)),(I L (E 0))] 110 false)],ni:=1,nb:=0,nv:=1,nj:=21 },
 { todo:=[(.code [false,false,true,false,true,true,true,true,false,true,true,true,false,false,true,true]),(.inLoop [false,false,true,false,true,true,true,true,false,true,true,true,false,false,true,true]),(.inBlock 5),(.code [true,true,true,true,true,false,true,true,true,false,false,true,true]),(.inBlock 0),(.code [true,true,true])],sl:=[(.va 0),.undef,(.ptr 0 0),(.junk 0),(I L (A 0)),(I L (A 1)),(I L (A 2))]++jkR 1 4++udR 31++jkR 5 23++[.undef,(.junk 28),(.junk 29),.undef]++jkR 30 13++udR 13,H:=[(.cells [(I L (E 0)),(.str []),(I L (E 0)),(I L (E 0))] 110 false)],ni:=3,nb:=0,nv:=1,nj:=43 }]
theorem b2j:SysOk Try.prog 67 saleroomref06_One_S:=a0N (c:=(cg [[false,false,false,false,true,false,false,true,true],[false,false,false,false,true,true,true,false,false,true,true],[false,false,true,false,true,true,true,true,false,true,true,true,false,false,true,true]] [] [] false false false true)) (a0J _ _ _ _ _ _ _ _ _) Try.func67 Try.call67 (by kernel_rfl) b0G saleroomref06_One_S 5000 rfl (by kernel_rfl) (by kernel_rfl) rfl
def b2u:PT :=
 (.jump 0 [(.a 0)] [] [])
def b0Y:PT :=
 .stuck
def saleroomref06_mark_S:Sx.Sys:=⟨[(.sh (.one (.int .u8)))],b2u,[b0Y],none,none⟩
def a9N:List Cfg:=[{ todo:=[(.code [false,false,true,false,true,true]),(.inLoop [false,false,true,false,true,true]),(.inBlock 0),(.code [true,true,true])],sl:=[(.int .u8 (.a 0)),.undef,(.junk 0),(.str [123,125,40,41,58,44,64,43,45,61]),(I L (E 0))]++udR 11,H:=[],ni:=1,nb:=0,nv:=0,nj:=1 }]
theorem b1q:SysOk Try.prog 87 saleroomref06_mark_S:=a0N (c:=(cg [[false,false,true,false,true,true]] [] [] false false false true)) (a0J _ _ _ _ _ _ _ _ _) Try.func87 Try.call87 (by kernel_rfl) a9N saleroomref06_mark_S 5000 rfl (by kernel_rfl) (by kernel_rfl) rfl
end Go.Proofs.Ytflcopaopimlpaa
