/- The trees of this seat's functions, part 6. Written by txgen.py. -/
import Derived.Test.YthmkfeiapdbojaaHTab
set_option linter.unusedSimpArgs false
set_option linter.unusedVariables false
open Go.Sx.SV renaming int → I
open Go.IntKind renaming i64 → L
open Go.Sx.IE renaming a → A, l → E
open Go.Sx.Kd renaming int → D
set_option maxRecDepth 100000
namespace Go.Proofs.Ythmkfeiapdbojaa
open Go.Sx
def d5t:PT :=
 (.need (.is 0 0)
 (.jump 0 [(.slen 0),(.l 0)] [] [(.va 0),.nilS]))
def d5l:PT :=
 (.ite (.lt (.a 1) (.a 0))
 (.need (treeI (.a 1) (.slen 0))
 (.load false (.ea 0 (.a 1) 8 0) [(D L),(D L),(D L),(D L),(D L),(D L),(D L),(D L)]
 (.ite (.le (.l 1) (.a 9))
  (.call 72 [(.va 0),(I L (A 1))] [] [(.one .bool)]
  (.ite (.not (.a 0))
  (.app none (.lit [[(I L (A 2)),(I L (A 3)),(I L (A 4)),(I L (A 5)),(I L (A 6)),(I L (A 7)),(I L (A 8)),(I L (A 9))]]) 8
  (.app (some 1) (.va 2) 8
  (.need (treeB (.add (.a 1) (.l 1)))
  (.jump 0 [(.a 0),(.add (.a 1) (.l 1))] [] [(.va 0),(.va 3)]))))
  (.need (treeB (.add (.a 1) (.l 1)))
  (.jump 0 [(.a 0),(.add (.a 1) (.l 1))] [] [(.va 0),(.va 1)]))))
  (.need (treeB (.add (.a 1) (.l 1)))
  (.jump 0 [(.a 0),(.add (.a 1) (.l 1))] [] [(.va 0),(.va 1)])))))
 (.ret false (.va 1) []))
def flatten_Clean_S:Sx.Sys:=⟨[(.sh (.one .val))],d5t,[d5l],none,none⟩
def d4R:List Cfg:=[{ todo:=[(.code [false,false,true,false,true,true]),(.inLoop [false,false,true,false,true,true]),(.inBlock 0),(.code [true,true,true])],sl:=[(.va 0),.undef,(.junk 0),(.va 1),(.junk 1),(.junk 2),(.va 0),(I L (A 0)),(I L (A 1)),(.junk 3),(.junk 4),(.junk 5),(.junk 6),(.junk 7),(.junk 8),(.junk 9),(.junk 10),(.junk 11),(.junk 12),(.junk 13),(.junk 14),(.junk 15),(.junk 16),(.junk 17),(.junk 18),(.junk 19),(.junk 20),.undef],H:=[(.row 1 59 8)],ni:=2,nb:=0,nv:=2,nj:=21 }]
theorem d5m:SysOk Try.prog 43 flatten_Clean_S:=a0O (c:=(cg [[false,false,true,false,true,true]] [] [] false false false true)) (a0s _ _ _ _ _ _ _ _ _) Try.func43 Try.call43 (by kernel_rfl) d4R flatten_Clean_S 5000 rfl (by kernel_rfl) (by kernel_rfl) rfl
def d9c:PT :=
 (.call 80 [(.agg [(I L (A 0)),(I L (A 1)),(I L (A 2)),(I L (A 3)),(I L (A 4)),(I L (A 5)),(I L (A 6)),(I L (A 7)),(.va 0)])] [] [(.one .val)]
 (.need (.is 0 1)
 (.ret false (.int .i64 (.slen 1)) [])))
def saleroomref11_Size_S:Sx.Sys:=⟨[(.sh (.agg [(D L),(D L),(D L),(D L),(D L),(D L),(D L),(D L),.val]))],d9c,[],none,none⟩
def d9o:List Cfg:=[]
theorem d9s:SysOk Try.prog 59 saleroomref11_Size_S:=a0O (c:=(cg [] [] [] false false false true)) (a0s _ _ _ _ _ _ _ _ _) Try.func59 Try.call59 (by kernel_rfl) d9o saleroomref11_Size_S 5000 rfl (by kernel_rfl) (by kernel_rfl) rfl
def b1p:PT :=
 (.newM [(I L (E 0))] 3
 (.storeM (.pa 1 0) [(I L (E 0))]
 (.call 67 [(.agg [(.fn 90 0 [(.pa 1 0)])]),(.agg [(I L (A 0)),(I L (A 1)),(I L (A 2)),(I L (A 3)),(I L (A 4)),(I L (A 5)),(I L (A 6)),(I L (A 7)),(.va 0)])] [] [(.one .bool)]
 (.load false (.pa 1 0) [(D L)]
 (.ret false (I L (A 8)) [])))))
def expr_Size_S:Sx.Sys:=⟨[(.sh (.agg [(D L),(D L),(D L),(D L),(D L),(D L),(D L),(D L),.val]))],b1p,[],none,none⟩
def b9o:List Cfg:=[]
theorem c1u:SysOk Try.prog 68 expr_Size_S:=a0O (c:=(cg [] [3] [] true false false true)) (a0s _ _ _ _ _ _ _ _ _) Try.func68 Try.call68 (by kernel_rfl) b9o expr_Size_S 5000 rfl (by kernel_rfl) (by kernel_rfl) rfl
def a3M:PT :=
 (.rng 1
 (.jump 0 [(.a 0),(.a 1),(.a 2),(.a 3),(.a 4),(.a 5)] [] [(.va 0),(.va 2)]))
def a3u:PT :=
 (.next 1 6
 (.ret false (.tup []) [])
 (.entry 1 6
 (.call 75 [(.va 0),(.agg [(I L (A 0)),(I L (A 1)),(I L (A 2)),(I L (A 3)),(I L (A 4)),(I L (A 5))]),(.agg [(I L (A 13)),(I L (A 14)),(I L (A 15)),(I L (A 16)),(I L (A 17)),(I L (A 18))]),(I L (A 19))] [] []
 (.jump 0 [(.a 0),(.a 1),(.a 2),(.a 3),(.a 4),(.a 5)] [] [(.va 0),(.va 1)]))))
def valuation_worths_merge_S:Sx.Sys:=⟨[(.sh (.one .val)),(.sh (.agg [(D L),(D L),(D L),(D L),(D L),(D L)])),(.sh (.one .val))],a3M,[a3u],none,none⟩
def a8h:List Cfg:=[{ todo:=[(.code [false,false,true,true]),(.inLoop [false,false,true,true]),(.inBlock 0)],sl:=[(.va 0),(.junk 0),(.junk 1),.undef,(.ptr 0 0),.undef,(.junk 2),(.junk 3),(.junk 4),(.va 1),(.junk 5),(.junk 6),(.junk 7),(.junk 8),(.junk 9),(.junk 10),(.junk 11),(.junk 12),(.junk 13),(.junk 14)],H:=[(.cells [(I L (A 0)),(I L (A 1)),(I L (A 2)),(I L (A 3)),(I L (A 4)),(I L (A 5))] 23 false)],ni:=6,nb:=0,nv:=2,nj:=15 }]
theorem a8R:SysIs Try.prog 76 valuation_worths_merge_S:=b4E (c:=(cg [[false,false,true,true]] [] [] false false false true)) (a0s _ _ _ _ _ _ _ _ _) Try.func76 Try.call76 (by kernel_rfl) a8h valuation_worths_merge_S 5000 rfl (by kernel_rfl) (by kernel_rfl)
def a9I:PT :=
 (.need (treeB (.add (.a 0) (.a 6)))
 (.need (treeB (.add (.a 1) (.a 7)))
 (.need (treeB (.add (.a 2) (.a 8)))
 (.need (treeB (.add (.a 3) (.a 9)))
 (.need (treeB (.add (.a 4) (.a 10)))
 (.need (treeB (.add (.a 5) (.a 11)))
 (.ret false (.agg [(.int .i64 (.add (.a 0) (.a 6))),(.int .i64 (.add (.a 1) (.a 7))),(.int .i64 (.add (.a 2) (.a 8))),(.int .i64 (.add (.a 3) (.a 9))),(.int .i64 (.add (.a 4) (.a 10))),(.int .i64 (.add (.a 5) (.a 11)))]) [])))))))
def bundle_Add_S:Sx.Sys:=⟨[(.sh (.agg [(D L),(D L),(D L),(D L),(D L),(D L)])),(.sh (.agg [(D L),(D L),(D L),(D L),(D L),(D L)]))],a9I,[],none,none⟩
def b8c:List Cfg:=[]
theorem b3R:SysOk Try.prog 92 bundle_Add_S:=a0O (c:=(cg [] [] [] false false false true)) (a0s _ _ _ _ _ _ _ _ _) Try.func92 Try.call92 (by kernel_rfl) b8c bundle_Add_S 5000 rfl (by kernel_rfl) (by kernel_rfl) rfl
end Go.Proofs.Ythmkfeiapdbojaa
set_option maxRecDepth 100000
namespace Go.Proofs.Ythmkfeiapdbojaa
open Go.Sx
def a8J:PT :=
 (.call 42 [(.agg [(I L (A 0)),(I L (A 1)),(I L (A 2)),(I L (A 3)),(I L (A 4)),(I L (A 5)),(I L (A 6)),(I L (A 7)),(.va 0)])] [] [(.one (D L))]
 (.ite (.not (.eq (.a 14) (.l 0)))
 (.ret false (I L (E 0)) [])
 (.call 48 [(.agg [(I L (A 8)),(I L (A 9)),(I L (A 10)),(I L (A 11)),(I L (A 12)),(I L (A 13))])] [] [(.one (D L))]
 (.ite (.not (.eq (.a 15) (.l 0)))
  (.ret false (I L (E 0)) [])
  (.call 49 [(.agg [(I L (A 0)),(I L (A 1)),(I L (A 2)),(I L (A 3)),(I L (A 4)),(I L (A 5)),(I L (A 6)),(I L (A 7)),(.va 0)]),(.agg [(I L (A 8)),(I L (A 9)),(I L (A 10)),(I L (A 11)),(I L (A 12)),(I L (A 13))])] [] [(.one .val)]
  (.rng 1
  (.jump 0 [(.l 0)] [] [(.va 2)])))))))
def a8c:PT :=
 (.next 0 6
 (.ret false (I L (A 0)) [])
 (.entry 0 6
 (.jump 0 [(.mx (.a 0) (.a 14))] [] [(.va 0)])))
def valuation_Value_S:Sx.Sys:=⟨[(.sh (.agg [(D L),(D L),(D L),(D L),(D L),(D L),(D L),(D L),.val])),(.sh (.agg [(D L),(D L),(D L),(D L),(D L),(D L)]))],a8J,[a8c],none,none⟩
def b3p:List Cfg:=[{ todo:=[(.code [false,false,true,false,true,true,true]),(.inLoop [false,false,true,false,true,true,true]),(.inBlock 0),(.code [true,true,true,true])],sl:=[(.junk 0),(.junk 1),(.junk 2),(.junk 3),(.junk 4),(I L (A 0)),.undef,(.junk 5),(.junk 6),(.junk 7),(.junk 8),(.junk 9),(.junk 10),(.junk 11),(.junk 12),(.junk 13),(.junk 14),(.junk 15),(.junk 16),(.va 0),(.junk 17),(.junk 18),(.junk 19),(.junk 20),(.junk 21),(.junk 22),(.junk 23),.undef],H:=[],ni:=1,nb:=0,nv:=1,nj:=24 }]
theorem b5e:SysIs Try.prog 18 valuation_Value_S:=b4E (c:=(cg [[false,false,true,false,true,true,true]] [] [] false false false true)) (a0s _ _ _ _ _ _ _ _ _) Try.func18 Try.call18 (by kernel_rfl) b3p valuation_Value_S 5000 rfl (by kernel_rfl) (by kernel_rfl)
def a4F:PT :=
 (.call 48 [(.agg [(I L (A 0)),(I L (A 1)),(I L (A 2)),(I L (A 3)),(I L (A 4)),(I L (A 5))])] [] [(.one (D L))]
 (.ite (.not (.eq (.a 6) (.l 0)))
 (.ret false (I L (E 0)) [])
 (.need (treeB (.add (.a 0) (.l 1)))
 (.need (treeB (.mul (.l 1) (.add (.a 0) (.l 1))))
 (.need (treeB (.add (.a 1) (.l 1)))
 (.need (treeB (.mul (.mul (.l 1) (.add (.a 0) (.l 1))) (.add (.a 1) (.l 1))))
 (.need (treeB (.add (.a 2) (.l 1)))
 (.need (treeB (.mul (.mul (.mul (.l 1) (.add (.a 0) (.l 1))) (.add (.a 1) (.l 1))) (.add (.a 2) (.l 1))))
 (.need (treeB (.add (.a 3) (.l 1)))
 (.need (treeB (.mul (.mul (.mul (.mul (.l 1) (.add (.a 0) (.l 1))) (.add (.a 1) (.l 1))) (.add (.a 2) (.l 1))) (.add (.a 3) (.l 1))))
 (.need (treeB (.add (.a 4) (.l 1)))
 (.need (treeB (.mul (.mul (.mul (.mul (.mul (.l 1) (.add (.a 0) (.l 1))) (.add (.a 1) (.l 1))) (.add (.a 2) (.l 1))) (.add (.a 3) (.l 1))) (.add (.a 4) (.l 1))))
 (.need (treeB (.add (.a 5) (.l 1)))
 (.need (treeB (.mul (.mul (.mul (.mul (.mul (.mul (.l 1) (.add (.a 0) (.l 1))) (.add (.a 1) (.l 1))) (.add (.a 2) (.l 1))) (.add (.a 3) (.l 1))) (.add (.a 4) (.l 1))) (.add (.a 5) (.l 1))))
 (.ite (.lt (.l 1024) (.mul (.mul (.mul (.mul (.mul (.mul (.l 1) (.add (.a 0) (.l 1))) (.add (.a 1) (.l 1))) (.add (.a 2) (.l 1))) (.add (.a 3) (.l 1))) (.add (.a 4) (.l 1))) (.add (.a 5) (.l 1))))
  (.ret false (I L (E 0)) [])
  (.ret false (.int .i64 (.mul (.mul (.mul (.mul (.mul (.mul (.l 1) (.add (.a 0) (.l 1))) (.add (.a 1) (.l 1))) (.add (.a 2) (.l 1))) (.add (.a 3) (.l 1))) (.add (.a 4) (.l 1))) (.add (.a 5) (.l 1)))) []))))))))))))))))
def bundle_Count_S:Sx.Sys:=⟨[(.sh (.agg [(D L),(D L),(D L),(D L),(D L),(D L)]))],a4F,[],none,none⟩
def b5Z:List Cfg:=[]
theorem b8o:SysOk Try.prog 52 bundle_Count_S:=a0O (c:=(cg [] [] [] false false false true)) (a0s _ _ _ _ _ _ _ _ _) Try.func52 Try.call52 (by kernel_rfl) b5Z bundle_Count_S 5000 rfl (by kernel_rfl) (by kernel_rfl) rfl
def a4w:PT :=
 (.call 70 [(.agg [(I L (A 0)),(I L (A 1)),(I L (A 2)),(I L (A 3)),(I L (A 4)),(I L (A 5)),(I L (A 6)),(I L (A 7)),(.va 0)])] [] [(.one .bool)]
 (.ite (.not (.a 0))
 (.storeM (.pa 1 0) [(I L (E 2))]
 (.load false (.pa 1 0) [(D L)]
 (.ret true (.bool (.eq (.a 8) (.l 0))) [])))
 (.call 71 [(.agg [(I L (A 0)),(I L (A 1)),(I L (A 2)),(I L (A 3)),(I L (A 4)),(I L (A 5)),(I L (A 6)),(I L (A 7)),(.va 0)])] [] [(.one .bool)]
 (.ite (.not (.a 1))
  (.storeM (.pa 1 0) [(I L (E 4))]
  (.load false (.pa 1 0) [(D L)]
  (.ret true (.bool (.eq (.a 8) (.l 0))) [])))
  (.load false (.pa 1 0) [(D L)]
  (.ret true (.bool (.eq (.a 8) (.l 0))) []))))))
def expr_Check_2_S:Sx.Sys:=⟨[(.sh (.agg [(D L),(D L),(D L),(D L),(D L),(D L),(D L),(D L),.val])),.ptr],a4w,[],none,none⟩
def b5X:List Cfg:=[]
theorem b7L:SysOk Try.prog 69 expr_Check_2_S:=a0O (c:=(cg [] [] [] true true false true)) (a0s _ _ _ _ _ _ _ _ _) Try.func69 Try.call69 (by kernel_rfl) b5X expr_Check_2_S 5000 rfl (by kernel_rfl) (by kernel_rfl) rfl
def a7t:PT :=
 (.mkQ
 (.call 76 [(.va 2),(.agg [(I L (A 0)),(I L (A 1)),(I L (A 2)),(I L (A 3)),(I L (A 4)),(I L (A 5))]),(.va 0)] [] []
 (.call 76 [(.va 2),(.agg [(I L (A 0)),(I L (A 1)),(I L (A 2)),(I L (A 3)),(I L (A 4)),(I L (A 5))]),(.va 1)] [] []
 (.rng 0
 (.jump 0 [(.a 0),(.a 1),(.a 2),(.a 3),(.a 4),(.a 5)] [] [(.va 1),(.va 2),(.va 3)])))))
def a3F:PT :=
 (.next 2 6
 (.ret true (.va 1) [])
 (.entry 2 6
 (.rng 0
 (.jump 1 [(.a 19),(.a 0),(.a 1),(.a 2),(.a 3),(.a 4),(.a 5),(.a 13),(.a 14),(.a 15),(.a 16),(.a 17),(.a 18)] [] [(.va 0),(.va 1),(.va 2),(.va 3)]))))
def a3E:PT :=
 (.next 3 6
 (.jump 0 [(.a 1),(.a 2),(.a 3),(.a 4),(.a 5),(.a 6)] [] [(.va 0),(.va 1),(.va 2)])
 (.entry 3 6
 (.need (treeB (.add (.a 0) (.a 26)))
 (.call 92 [(.agg [(I L (A 7)),(I L (A 8)),(I L (A 9)),(I L (A 10)),(I L (A 11)),(I L (A 12))]),(.agg [(I L (A 20)),(I L (A 21)),(I L (A 22)),(I L (A 23)),(I L (A 24)),(I L (A 25))])] [] [(.agg [(D L),(D L),(D L),(D L),(D L),(D L)])]
 (.call 75 [(.va 1),(.agg [(I L (A 1)),(I L (A 2)),(I L (A 3)),(I L (A 4)),(I L (A 5)),(I L (A 6))]),(.agg [(I L (A 27)),(I L (A 28)),(I L (A 29)),(I L (A 30)),(I L (A 31)),(I L (A 32))]),(.int .i64 (.add (.a 0) (.a 26)))] [] []
 (.jump 1 [(.a 0),(.a 1),(.a 2),(.a 3),(.a 4),(.a 5),(.a 6),(.a 7),(.a 8),(.a 9),(.a 10),(.a 11),(.a 12)] [] [(.va 0),(.va 1),(.va 2),(.va 3)]))))))
def valuation_sum_S:Sx.Sys:=⟨[(.sh (.agg [(D L),(D L),(D L),(D L),(D L),(D L)])),(.sh (.one .val)),(.sh (.one .val))],a7t,[a3F,a3E],none,none⟩
def b5t:List Cfg:=[{ todo:=[(.code [false,false,true,false,true,true,true,true]),(.inLoop [false,false,true,false,true,true,true,true]),(.inBlock 0),(.code [true,true,true,true,true])],sl:=[(.junk 0),(.junk 1),(.va 0),(.ptr 0 0),.undef,.undef,(.junk 2),(.va 1),(.junk 3),(.junk 4),(.junk 5),(.junk 6),(.junk 7),(.junk 8),(.junk 9),(.junk 10),(.junk 11),(.junk 12),(.junk 13),(.junk 14),(.junk 15),(.junk 16),(.va 2),(.junk 17),(.junk 18),(.junk 19),(.junk 20),(.junk 21),(.junk 22),(.junk 23),(.junk 24),(.junk 25),(.junk 26),(.junk 27),(.junk 28),(.junk 29),(.junk 30),(.junk 31),(.junk 32),(.junk 33),(.junk 34),(.junk 35),(.junk 36),(.junk 37),.undef],H:=[(.cells [(I L (A 0)),(I L (A 1)),(I L (A 2)),(I L (A 3)),(I L (A 4)),(I L (A 5))] 23 false)],ni:=6,nb:=0,nv:=3,nj:=38 },
 { todo:=[(.code [false,false,true,true,false,true,true,false,false,true,false,true,true,true,true]),(.inLoop [false,false,true,true,false,true,true,false,false,true,false,true,true,true,true]),(.inBlock 2),(.inBlock 1),(.inLoop [false,false,true,false,true,true,true,true]),(.inBlock 0),(.code [true,true,true,true,true])],sl:=[(.junk 0),(.junk 1),(.va 0),(.ptr 0 0),.undef,.undef,(.junk 2),(.va 1),(.ptr 1 0),(I L (A 0)),(.junk 3),(.junk 4),(.junk 5),(.junk 6),(.junk 7),(.junk 8),(.junk 9),(.junk 10),(.junk 11),(.junk 12),(.junk 13),(.junk 14),(.va 2),(.junk 15),(.junk 16),(.junk 17),(.junk 18),(.junk 19),(.junk 20),(.va 3),(.junk 21),(.junk 22),(.junk 23),(.junk 24),(.junk 25),(.junk 26),(.junk 27),(.junk 28),(.junk 29),(.junk 30),(.junk 31),(.junk 32),(.junk 33),(.junk 34),.undef],H:=[(.cells [(I L (A 1)),(I L (A 2)),(I L (A 3)),(I L (A 4)),(I L (A 5)),(I L (A 6))] 23 false),(.cells [(I L (A 7)),(I L (A 8)),(I L (A 9)),(I L (A 10)),(I L (A 11)),(I L (A 12))] 23 false)],ni:=13,nb:=0,nv:=4,nj:=35 }]
theorem b6Q:SysIs Try.prog 77 valuation_sum_S:=b4E (c:=(cg [[false,false,true,false,true,true,true,true],[false,false,true,true,false,true,true,false,false,true,false,true,true,true,true]] [] [] false true false true)) (a0s _ _ _ _ _ _ _ _ _) Try.func77 Try.call77 (by kernel_rfl) b5t valuation_sum_S 5000 rfl (by kernel_rfl) (by kernel_rfl)
end Go.Proofs.Ythmkfeiapdbojaa
