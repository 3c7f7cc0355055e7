/- The trees of this seat's functions, part 6. Written by txgen.py. -/
import Derived.Test.YtflcopaopimlpaaHTab
set_option linter.unusedSimpArgs false
set_option linter.unusedVariables false
open Go.Sx.SV renaming int → I
open Go.IntKind renaming i64 → L
open Go.Sx.IE renaming a → A, l → E
open Go.Sx.Kd renaming int → D
set_option maxRecDepth 100000
namespace Go.Proofs.Ytflcopaopimlpaa
open Go.Sx
def a4v:PT :=
 (.call 20 [(.va 4)] [] [(.one .val)]
           (.app none (.lit [[(I L (E 0)),(I L (E 1)),(I L (E 0)),(I L (E 0)),(I L (E 0)),(I L (E 0)),(I L (E 0)),(I L (E 5))]]) 8
           (.call 19 [(.va 9),(.va 10)] [] [(.one .bool)]
           (.ite (.a 2)
            (.call 25 [(.va 4),(I L (E 0))] [] [(.one .val)]
            (.call 20 [(.va 4)] [] [(.one .val)]
            (.call 19 [(.va 11),(.va 12)] [] [(.one .bool)]
            (.ret false (.bool (.a 3)) []))))
            (.ret false (.bool (.t false)) [])))))
def a4G:PT :=
 (.app none (.lit [[(I L (E 0)),(I L (E 1)),(I L (E 0)),(I L (E 0)),(I L (E 0)),(I L (E 0)),(I L (E 0)),(I L (E 5))]]) 8
           (.call 20 [(.va 4)] [] [(.one .val)]
           (.call 19 [(.va 10),(.va 9)] [] [(.one .bool)]
           (.ite (.a 2)
            (.call 25 [(.va 4),(I L (E 0))] [] [(.one .val)]
            (.call 20 [(.va 4)] [] [(.one .val)]
            (.call 19 [(.va 11),(.va 12)] [] [(.one .bool)]
            (.ret false (.bool (.a 3)) []))))
            (.ret false (.bool (.t false)) [])))))
def a5m:PT :=
 (.call 26 [] [] [(.agg [.val,.val,.val,.val])]
 (.call 10 [(.agg [(.va 0),(.va 1),(.va 2),(.va 3)])] [] [(.one .val),(.one (D L))]
 (.call 10 [(.agg [.nilS,.nilS,.nilS,.nilS])] [] [(.one .val),(.one (D L))]
 (.ite (.not (.eq (.a 0) (.l 0)))
 (.ret false (.bool (.t false)) [])
 (.ite (.not (.eq (.a 1) (.l 1)))
  (.ret false (.bool (.t false)) [])
  (.need (.is 4 4)
  (.ite (.nil 4)
  (.ret false (.bool (.t false)) [])
  (.call 18 [(.va 4),(I L (E 0)),(.agg [(I L (E 1)),(I L (E 0)),(I L (E 0)),(I L (E 0)),(I L (E 0)),(I L (E 0))]),(I L (E 11))] [] [(.one (D L))]
  (.ite (.not (.eq (.a 2) (.l 17)))
   (.ret false (.bool (.t false)) [])
   (.call 18 [(.va 4),(I L (E 0)),(.agg [(I L (E 1)),(I L (E 0)),(I L (E 0)),(I L (E 0)),(I L (E 0)),(I L (E 0))]),(I L (E 5))] [] [(.one (D L))]
   (.ite (.not (.eq (.a 3) (.l 0)))
   (.ret false (.bool (.t false)) [])
   (.call 18 [(.va 4),(I L (E 0)),(.agg [(I L (E 1)),(I L (E 0)),(I L (E 0)),(I L (E 0)),(I L (E 0)),(I L (E 0))]),(I L (E 3))] [] [(.one (D L))]
   (.ite (.not (.eq (.a 4) (.l 0)))
    (.ret false (.bool (.t false)) [])
    (.call 18 [(.va 4),(I L (E 0)),(.agg [(I L (E 2)),(I L (E 0)),(I L (E 0)),(I L (E 0)),(I L (E 0)),(I L (E 0))]),(I L (E 5))] [] [(.one (D L))]
    (.ite (.not (.eq (.a 5) (.l 14)))
    (.ret false (.bool (.t false)) [])
    (.call 18 [(.va 4),(I L (E 1)),(.agg [(I L (E 1)),(I L (E 0)),(I L (E 0)),(I L (E 0)),(I L (E 0)),(I L (E 0))]),(I L (E 5))] [] [(.one (D L))]
    (.ite (.not (.eq (.a 6) (.l 6)))
     (.ret false (.bool (.t false)) [])
     (.call 18 [(.va 4),(I L (E 0)),(.agg [(I L (E 0)),(I L (E 0)),(I L (E 0)),(I L (E 0)),(I L (E 0)),(I L (E 0))]),(I L (E 5))] [] [(.one (D L))]
     (.ite (.not (.eq (.a 7) (.l 4)))
     (.ret false (.bool (.t false)) [])
     (.call 18 [(.va 4),(I L (E 0)),(.agg [(I L (E 1)),(I L (E 0)),(I L (E 0)),(I L (E 0)),(I L (E 0)),(I L (E 0))]),(I L (E 0))] [] [(.one (D L))]
     (.ite (.not (.eq (.a 8) (.l 4)))
      (.ret false (.bool (.t false)) [])
      (.call 23 [(.va 4),(I L (E 0)),(.agg [(I L (E 1)),(I L (E 0)),(I L (E 0)),(I L (E 0)),(I L (E 0)),(I L (E 0))])] [] [(.one (D L)),(.one .bool)]
      (.call 15 [(.va 4)] [] [(.one .val)]
      (.need (.is 4 6)
      (.ite (.nil 6)
      (.ret false (.bool (.t false)) [])
      (.app none (.lit [[(I L (E 0)),(I L (E 1)),(I L (E 0)),(I L (E 0)),(I L (E 0)),(I L (E 0)),(I L (E 0)),(I L (E 10))],[(I L (E 0)),(I L (E 1)),(I L (E 0)),(I L (E 0)),(I L (E 0)),(I L (E 0)),(I L (E 0)),(I L (E 11))]]) 8
      (.call 24 [(.va 4),(I L (E 0)),(.va 7)] [] [(.one (D L))]
      (.ite (.not (.eq (.a 10) (.l 17)))
       (.ret false (.bool (.t false)) [])
       (.call 18 [(.va 6),(I L (E 0)),(.agg [(I L (E 1)),(I L (E 0)),(I L (E 0)),(I L (E 0)),(I L (E 0)),(I L (E 0))]),(I L (E 9))] [] [(.one (D L))]
       (.ite (.not (.eq (.a 11) (.l 0)))
       (.ret false (.bool (.t false)) [])
       (.call 23 [(.va 4),(I L (E 0)),(.agg [(I L (E 1)),(I L (E 0)),(I L (E 0)),(I L (E 0)),(I L (E 0)),(I L (E 0))])] [] [(.one (D L)),(.one .bool)]
       (.call 22 [(.va 6),(I L (E 0))] [] [(.one (D L)),(.one (D L))]
       (.ite (.eq (.a 9) (.l 5))
        (.ite (.a 0)
        (.ite (.eq (.a 12) (.l 5))
         (.ite (.a 1)
         (.ite (.eq (.a 13) (.l 1))
          (.ite (.eq (.a 14) (.l 0))
          (.call 20 [(.va 6)] [] [(.one .val)]
          (.need (.is 0 8)
          (.ite (.eq (.slen 8) (.l 0))
           (.both a4v a4G)
           (.ret false (.bool (.t false)) []))))
          (.ret false (.bool (.t false)) []))
          (.ret false (.bool (.t false)) []))
         (.ret false (.bool (.t false)) []))
         (.ret false (.bool (.t false)) []))
        (.ret false (.bool (.t false)) []))
        (.ret false (.bool (.t false)) []))))))))))))))))))))))))))))))))))
def saleroomlaw16_awake_S:Sx.Sys:=⟨[],a5m,[],none,none⟩
def a4q:List Cfg:=[]
theorem a5j:SysOk Try.prog 9 saleroomlaw16_awake_S:=a0q (c:=(cg [] [] [] false false false true)) (a0e _ _ _ _ _ _ _ _ _) Try.func9 Try.call9 (by kernel_rfl) a4q saleroomlaw16_awake_S 5000 rfl (by kernel_rfl) (by kernel_rfl) rfl
def a0G:PT :=
 (.call 37 [(.va 0),(I L (A 0))] [] [(.one .bool)]
 (.ite (.not (.a 0))
 (.ret false .nilS [])
 (.need (.is 1 0)
 (.load false (.pa 0 4) [.val]
 (.need (treeI (.a 0) (.slen 1))
 (.load false (.ea 1 (.a 0) 1 0) [.val]
 (.rng 2
 (.jump 0 [(.a 0)] [] [.nilS,(.va 3)]))))))))
def a1O:PT :=
 (.next 1 6
 (.call 39 [(.va 0),(.fn 40 0 [])] [] []
 (.ret false (.va 0) []))
 (.entry 1 6
 (.app none (.lit [[(I L (A 0)),(I L (A 8)),(I L (A 9)),(I L (A 10)),(I L (A 11)),(I L (A 12)),(I L (A 13)),(I L (A 14))]]) 8
 (.appM (.va 0) (.va 2) 8 52
 (.jump 0 [(.a 0)] [] [(.va 3),(.va 1)])))))
def bidbook_Book_Offers_S:Sx.Sys:=⟨[(.sh (.one .val)),(.sh (.one (D L)))],a0G,[a1O],none,none⟩
def a4B:List Cfg:=[{ todo:=[(.code [false,false,true,false,true,true,true]),(.inLoop [false,false,true,false,true,true,true]),(.inBlock 0),(.code [true,true,true,true])],sl:=[(.junk 0),(I L (A 0)),.undef,.undef,(.junk 1),(.va 0),(.junk 2),(.junk 3),(.junk 4),(.junk 5),(.junk 6),(.junk 7),(.junk 8),(.junk 9),(.junk 10),(.junk 11),(.junk 12),(.junk 13),(.junk 14),(.va 1),(.junk 15),(.junk 16),(.junk 17),(.junk 18),(.junk 19),(.junk 20),(.junk 21),(.junk 22),(.junk 23),(.junk 24),(.junk 25),(.junk 26),.undef,.undef,.undef],H:=[],ni:=1,nb:=0,nv:=2,nj:=27 }]
theorem a1M:SysIs Try.prog 25 bidbook_Book_Offers_S:=a4p (c:=(cg [[false,false,true,false,true,true,true]] [] [] true false true true)) (a0e _ _ _ _ _ _ _ _ _) Try.func25 Try.call25 (by kernel_rfl) a4B bidbook_Book_Offers_S 5000 rfl (by kernel_rfl) (by kernel_rfl)
def a9P:PT :=
 (.need (.is 0 0)
 (.ite (.eq (.slen 0) (.l 0))
 (.ret false (I L (E 1)) [])
 (.need (.is 0 0)
 (.ite (.lt (.l 6) (.slen 0))
  (.ret false (I L (E 3)) [])
  (.need (.is 0 0)
  (.jump 0 [(.slen 0),(.l 0)] [] [(.va 0)]))))))
def a8z:PT :=
 (.ite (.lt (.a 1) (.a 0))
 (.need (treeI (.a 1) (.slen 0))
 (.load false (.ea 0 (.a 1) 5 0) [.val,(D L),(D L),(D L),(D L)]
 (.call 60 [(.va 1)] [] [(.one .bool)]
 (.ite (.not (.a 0))
  (.ret false (I L (E 5)) [])
  (.cut 0 none (some (.a 1)) 5
  (.call 61 [(.va 2),(.va 1)] [] [(.one (D L)),(.one .bool)]
  (.ite (.a 1)
  (.ret false (I L (E 7)) [])
  (.call 62 [(I L (A 2)),(I L (E 1)),(I L (E 4))] [] [(.one .bool)]
  (.ite (.not (.a 2))
   (.ret false (I L (E 4)) [])
   (.call 62 [(I L (A 3)),(I L (E 0)),(I L (E 1000000))] [] [(.one .bool)]
   (.ite (.not (.a 3))
   (.ret false (I L (E 4)) [])
   (.call 62 [(I L (A 4)),(I L (E 0)),(I L (E 1000))] [] [(.one .bool)]
   (.ite (.not (.a 4))
    (.ret false (I L (E 4)) [])
    (.call 62 [(I L (A 5)),(I L (E 0)),(I L (E 4))] [] [(.one .bool)]
    (.ite (.not (.a 5))
    (.ret false (I L (E 4)) [])
    (.need (treeB (.add (.a 1) (.l 1)))
    (.jump 0 [(.a 0),(.add (.a 1) (.l 1))] [] [(.va 0)])))))))))))))))))
 (.call 64 [(.va 0)] [] [(.agg [(D L),(D L),(D L),(D L),(D L),(D L)])]
 (.call 63 [(.agg [(I L (A 2)),(I L (A 3)),(I L (A 4)),(I L (A 5)),(I L (A 6)),(I L (A 7))])] [] [(.one (D L))]
 (.ite (.eq (.a 8) (.l 0))
  (.ret false (I L (E 12)) [])
  (.ret false (I L (E 0)) [])))))
def catalog_Check_S:Sx.Sys:=⟨[(.sh (.one .val))],a9P,[a8z],none,none⟩
def a6V:List Cfg:=[{ todo:=[(.code [false,false,true,false,true,true]),(.inLoop [false,false,true,false,true,true]),(.inBlock 1),(.code [true,true,true])],sl:=[(.va 0),.undef,(.junk 0),(.junk 1),(.junk 2),(.junk 3),(.junk 4),(.junk 5),(.junk 6),(.junk 7),(.junk 8),(.junk 9),(.junk 10),(.junk 11),(.junk 12),(.va 0),(I L (A 0)),(I L (A 1)),(.junk 13),(.junk 14),(.junk 15),(.junk 16),(.junk 17),(.junk 18),(.junk 19),(.junk 20),(.junk 21),(.junk 22),(.junk 23),(.junk 24),(.junk 25),(.junk 26),(.junk 27),(.junk 28),(.junk 29),(.junk 30),(.junk 31),(.junk 32),(.junk 33),(.junk 34),(.junk 35),(.junk 36),(.junk 37),(.junk 38),(.junk 39),(.junk 40),(.junk 41),(.junk 42),(.junk 43),(.junk 44),(.junk 45),(.junk 46),(.junk 47),(.junk 48),(.junk 49),(.junk 50),(.junk 51),(.junk 52),(.junk 53),.undef,.undef,.undef,.undef],H:=[],ni:=2,nb:=0,nv:=1,nj:=54 }]
theorem a8w:SysOk Try.prog 42 catalog_Check_S:=a0q (c:=(cg [[false,false,true,false,true,true]] [] [] false false false true)) (a0e _ _ _ _ _ _ _ _ _) Try.func42 Try.call42 (by kernel_rfl) a6V catalog_Check_S 5000 rfl (by kernel_rfl) (by kernel_rfl) rfl
def b1z:PT :=
 (.ite (.le (.l 48) (.a 0))
 (.ret false (.bool (.le (.a 0) (.l 57))) [])
 (.ret false (.bool (.t false)) []))
def lexer_digit_S:Sx.Sys:=⟨[(.sh (.one (.int .i32)))],b1z,[],none,none⟩
def a8Q:List Cfg:=[]
theorem b0y:SysOk Try.prog 96 lexer_digit_S:=a0q (c:=(cg [] [] [] false false false true)) (a0e _ _ _ _ _ _ _ _ _) Try.func96 Try.call96 (by kernel_rfl) a8Q lexer_digit_S 5000 rfl (by kernel_rfl) (by kernel_rfl) rfl
end Go.Proofs.Ytflcopaopimlpaa
set_option maxRecDepth 100000
namespace Go.Proofs.Ytflcopaopimlpaa
open Go.Sx
def b1C:PT :=
 (.call 27 [(.agg [(.va 0),(.va 1),(.va 2),(.va 3)])] [] [(.one (D L))]
 (.ite (.not (.eq (.a 0) (.l 0)))
 (.ret true (.tup [.nilP,(I L (A 0))]) [])
 (.call 28 [(.agg [(.va 0),(.va 1),(.va 2),(.va 3)])] [] [(.agg [.val,.val,.val,.val])]
 (.newM [(.va 4),(.va 5),(.va 6),(.va 7),.nilS] 68
 (.need (.is 0 1)
 (.jump 0 [(.slen 1),(.l 0)] [] [(.va 8)]))))))
def b0c:PT :=
 (.ite (.lt (.a 1) (.a 0))
 (.load false (.pa 0 4) [.val]
 (.mkQ
 (.app none (.lit [[(.va 2)]]) 1
 (.appM (.va 1) (.va 3) 1 69
 (.storeM (.pa 0 4) [(.va 4)]
 (.need (treeB (.add (.a 1) (.l 1)))
 (.jump 0 [(.a 0),(.add (.a 1) (.l 1))] [] [(.va 0)])))))))
 (.ret true (.tup [(.pa 0 0),(I L (E 0))]) []))
def bidbook_New_S:Sx.Sys:=⟨[(.sh (.agg [.val,.val,.val,.val]))],b1C,[b0c],none,none⟩
def a8M:List Cfg:=[{ todo:=[(.code [false,false,true,false,true,true,true]),(.inLoop [false,false,true,false,true,true,true]),(.inBlock 0),(.code [true,true,true,true])],sl:=[(.junk 0),(.junk 1),(.junk 2),(.junk 3),(.junk 4),(.pa 0 0),(.junk 5),(.junk 6),(.junk 7),(.junk 8),.undef,(.junk 9),(.junk 10),(.junk 11),(.junk 12),(.junk 13),(.junk 14),(I L (A 0)),(I L (A 1)),(.junk 15),(.junk 16),(.junk 17),(.junk 18),(.junk 19),(.junk 20),(.junk 21),(.junk 22),(.junk 23),(.junk 24),(.junk 25),(.junk 26),.undef],H:=[],ni:=2,nb:=0,nv:=1,nj:=27 }]
theorem b0e:SysOk Try.prog 10 bidbook_New_S:=a0q (c:=(cg [[false,false,true,false,true,true,true]] [14] [] true true true true)) (a0e _ _ _ _ _ _ _ _ _) Try.func10 Try.call10 (by kernel_rfl) a8M bidbook_New_S 5000 rfl (by kernel_rfl) (by kernel_rfl) rfl
def a7w:PT :=
 (.call 37 [(.va 0),(I L (A 0))] [] [(.one .bool)]
 (.ite (.not (.a 0))
 (.ret false (I L (E 6)) [])
 (.ite (.lt (.a 7) (.l 1))
  (.ret false (I L (E 4)) [])
  (.ite (.lt (.l 1000000) (.a 7))
  (.ret false (I L (E 4)) [])
  (.need (.is 1 0)
  (.load false (.pa 0 0) [.val,.val,.val,.val]
  (.call 38 [(.agg [(.va 1),(.va 2),(.va 3),(.va 4)]),(I L (A 0)),(.agg [(I L (A 1)),(I L (A 2)),(I L (A 3)),(I L (A 4)),(I L (A 5)),(I L (A 6))])] [] [(.one (D L))]
  (.ite (.not (.eq (.a 8) (.l 0)))
   (.ret false (I L (A 8)) [])
   (.need (.is 1 0)
   (.load false (.pa 0 4) [.val]
   (.need (treeI (.a 0) (.slen 5))
   (.load false (.ea 5 (.a 0) 1 0) [.val]
   (.qGet 6 [(.a 1),(.a 2),(.a 3),(.a 4),(.a 5),(.a 6)] true
   (.need (.is 1 0)
   (.load false (.pa 0 1) [.val]
   (.need (treeI (.a 0) (.slen 7))
   (.load false (.ea 7 (.a 0) 4 2) [(D L)]
   (.ite (.and (.eq (.a 1) (.l 0)) (.and (.eq (.a 2) (.l 0)) (.and (.eq (.a 3) (.l 0)) (.and (.eq (.a 4) (.l 0)) (.and (.eq (.a 5) (.l 0)) (.eq (.a 6) (.l 0)))))))
   (.ret false (I L (E 4)) [])
   (.ite (.not (.eq (.a 10) (.l 0)))
    (.ite (.lt (.a 10) (.a 7))
    (.ret false (I L (E 17)) [])
    (.ite (.not (.a 1))
     (.need (.is 1 0)
     (.load false (.pa 0 4) [.val]
     (.need (treeI (.a 0) (.slen 8))
     (.load false (.ea 8 (.a 0) 1 0) [.val]
     (.qLen 9
     (.ite (.le (.l 40) (.a 11))
     (.ret false (I L (E 3)) [])
     (.need (.is 1 0)
     (.load false (.pa 0 4) [.val]
     (.need (treeI (.a 0) (.slen 10))
     (.load false (.ea 10 (.a 0) 1 0) [.val]
     (.qSet 11 [(.a 1),(.a 2),(.a 3),(.a 4),(.a 5),(.a 6)] (.mx (.a 9) (.a 7))
     (.ret false (I L (E 0)) []))))))))))))
     (.need (.is 1 0)
     (.load false (.pa 0 4) [.val]
     (.need (treeI (.a 0) (.slen 8))
     (.load false (.ea 8 (.a 0) 1 0) [.val]
     (.qSet 9 [(.a 1),(.a 2),(.a 3),(.a 4),(.a 5),(.a 6)] (.mx (.a 9) (.a 7))
     (.ret false (I L (E 0)) []))))))))
    (.ite (.not (.a 1))
    (.need (.is 1 0)
    (.load false (.pa 0 4) [.val]
    (.need (treeI (.a 0) (.slen 8))
    (.load false (.ea 8 (.a 0) 1 0) [.val]
    (.qLen 9
    (.ite (.le (.l 40) (.a 11))
     (.ret false (I L (E 3)) [])
     (.need (.is 1 0)
     (.load false (.pa 0 4) [.val]
     (.need (treeI (.a 0) (.slen 10))
     (.load false (.ea 10 (.a 0) 1 0) [.val]
     (.qSet 11 [(.a 1),(.a 2),(.a 3),(.a 4),(.a 5),(.a 6)] (.mx (.a 9) (.a 7))
     (.ret false (I L (E 0)) []))))))))))))
    (.need (.is 1 0)
    (.load false (.pa 0 4) [.val]
    (.need (treeI (.a 0) (.slen 8))
    (.load false (.ea 8 (.a 0) 1 0) [.val]
    (.qSet 9 [(.a 1),(.a 2),(.a 3),(.a 4),(.a 5),(.a 6)] (.mx (.a 9) (.a 7))
    (.ret false (I L (E 0)) []))))))))))))))))))))))))))
def bidbook_Book_Put_S:Sx.Sys:=⟨[(.sh (.one .val)),(.sh (.one (D L))),(.sh (.agg [(D L),(D L),(D L),(D L),(D L),(D L)])),(.sh (.one (D L)))],a7w,[],none,none⟩
def a5A:List Cfg:=[]
theorem a6I:SysOk Try.prog 18 bidbook_Book_Put_S:=a0q (c:=(cg [] [] [] true false false true)) (a0e _ _ _ _ _ _ _ _ _) Try.func18 Try.call18 (by kernel_rfl) a5A bidbook_Book_Put_S 5000 rfl (by kernel_rfl) (by kernel_rfl) rfl
def a6a:PT :=
 (.app none (.lit [[(.str [97]),(I L (E 1)),(I L (E 0)),(I L (E 0)),(I L (E 0))]]) 5
 (.app none (.lit [[(.str [120]),(I L (E 0)),(I L (E 10)),(I L (E 0))]]) 4
 (.ret false (.agg [(.va 0),(.va 1),.nilS,.nilS]) [])))
def saleroomlaw16_sale_S:Sx.Sys:=⟨[],a6a,[],none,none⟩
def a4K:List Cfg:=[]
theorem a5C:SysOk Try.prog 26 saleroomlaw16_sale_S:=a0q (c:=(cg [] [] [] false false false true)) (a0e _ _ _ _ _ _ _ _ _) Try.func26 Try.call26 (by kernel_rfl) a4K saleroomlaw16_sale_S 5000 rfl (by kernel_rfl) (by kernel_rfl) rfl
def b0z:PT :=
 (.need (.is 0 0)
 (.ite (.eq (.slen 0) (.l 0))
 (.ret false (I L (E 1)) [])
 (.need (.is 0 0)
 (.ite (.lt (.l 8) (.slen 0))
  (.ret false (I L (E 3)) [])
  (.need (.is 0 0)
  (.jump 0 [(.slen 0),(.l 0)] [] [(.va 0)]))))))
def a9Q:PT :=
 (.ite (.lt (.a 1) (.a 0))
 (.need (treeI (.a 1) (.slen 0))
 (.load false (.ea 0 (.a 1) 4 0) [.val,(D L),(D L),(D L)]
 (.call 60 [(.va 1)] [] [(.one .bool)]
 (.ite (.not (.a 0))
  (.ret false (I L (E 5)) [])
  (.cut 0 none (some (.a 1)) 4
  (.call 65 [(.va 2),(.va 1)] [] [(.one (D L)),(.one .bool)]
  (.ite (.a 1)
  (.ret false (I L (E 7)) [])
  (.ite (.lt (.a 2) (.l 0))
   (.ret false (I L (E 4)) [])
   (.ite (.lt (.l 4) (.a 2))
   (.ret false (I L (E 4)) [])
   (.ite (.lt (.a 3) (.l 0))
    (.ret false (I L (E 4)) [])
    (.ite (.lt (.l 1000000) (.a 3))
    (.ret false (I L (E 4)) [])
    (.ite (.lt (.a 4) (.l 0))
     (.ret false (I L (E 4)) [])
     (.ite (.lt (.l 24000) (.a 4))
     (.ret false (I L (E 4)) [])
     (.need (treeB (.add (.a 1) (.l 1)))
     (.jump 0 [(.a 0),(.add (.a 1) (.l 1))] [] [(.va 0)])))))))))))))))
 (.ret false (I L (E 0)) []))
def roster_Check_S:Sx.Sys:=⟨[(.sh (.one .val))],b0z,[a9Q],none,none⟩
def a7T:List Cfg:=[{ todo:=[(.code [false,false,true,false,true,true]),(.inLoop [false,false,true,false,true,true]),(.inBlock 1),(.code [true,true,true])],sl:=[(.va 0),.undef,(.junk 0),(.junk 1),(.junk 2),(.junk 3),(.junk 4),(.junk 5),(.junk 6),(.junk 7),(.junk 8),(.junk 9),(.junk 10),(.junk 11),(.junk 12),(.va 0),(I L (A 0)),(I L (A 1)),(.junk 13),(.junk 14),(.junk 15),(.junk 16),(.junk 17),(.junk 18),(.junk 19),(.junk 20),(.junk 21),(.junk 22),(.junk 23),(.junk 24),(.junk 25),(.junk 26),(.junk 27),(.junk 28),(.junk 29),(.junk 30),(.junk 31),(.junk 32),(.junk 33),(.junk 34),(.junk 35),(.junk 36),(.junk 37),(.junk 38),(.junk 39),(.junk 40),(.junk 41),(.junk 42),(.junk 43),(.junk 44),(.junk 45),(.junk 46),(.junk 47),(.junk 48),(.junk 49),(.junk 50),(.junk 51),(.junk 52),(.junk 53),(.junk 54),(.junk 55),(.junk 56),(.junk 57),(.junk 58),(.junk 59)],H:=[],ni:=2,nb:=0,nv:=1,nj:=60 }]
theorem a9C:SysOk Try.prog 43 roster_Check_S:=a0q (c:=(cg [[false,false,true,false,true,true]] [] [] false false false true)) (a0e _ _ _ _ _ _ _ _ _) Try.func43 Try.call43 (by kernel_rfl) a7T roster_Check_S 5000 rfl (by kernel_rfl) (by kernel_rfl) rfl
end Go.Proofs.Ytflcopaopimlpaa
