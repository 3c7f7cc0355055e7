/- The trees of this seat's functions, part 0. Written by txgen.py. -/
import Derived.Test.YtggjcdnailppoaaHTab
set_option linter.unusedSimpArgs false
set_option linter.unusedVariables false
open Go.Sx.SV renaming int → I
open Go.IntKind renaming i64 → L
open Go.Sx.IE renaming a → A, l → E
open Go.Sx.Kd renaming int → D
set_option maxRecDepth 100000
namespace Go.Proofs.Ytggjcdnailppoaa
open Go.Sx
def c2t:PT :=
 (.need (.is 0 0)
 (.ite (.lt (.l 20) (.slen 0))
 (.call 9 [] [] [(.one .bool)]
 (.ret false (.bool (.a 0)) []))
 (.call 11 [(.va 0)] [] [(.one .val)]
 (.call 12 [(.va 0)] [] [(.one .val)]
 (.call 10 [(.va 1),(.va 2)] [] [(.one .bool)]
 (.ite (.a 0)
  (.call 9 [] [] [(.one .bool)]
  (.ret false (.bool (.a 1)) []))
  (.ret false (.bool (.t false)) [])))))))
def saleroomlaw40_RelcapClockbids_S:Sx.Sys:=⟨[(.sh (.one .val))],c2t,[],none,none⟩
def c2S:List Cfg:=[]
theorem c2K:SysOk Try.prog 3 saleroomlaw40_RelcapClockbids_S:=a0V (c:=(cg [] [] [] false false false true)) (a0L _ _ _ _ _ _ _ _ _) Try.func3 Try.call3 (by kernel_rfl) c2S saleroomlaw40_RelcapClockbids_S 5000 rfl (by kernel_rfl) (by kernel_rfl) rfl
def a9R:PT :=
 (.call 26 [(.va 0)] [] [(.one .bool)]
 (.ite (.not (.a 0))
 (.ret false .nilS [])
 (.need (.is 0 0)
 (.jump 0 [(.slen 0),(.l 0)] [] [.nilS,(.va 0)]))))
def a9L:PT :=
 (.ite (.lt (.a 1) (.a 0))
 (.need (treeI (.a 1) (.slen 1))
 (.load false (.ea 1 (.a 1) 12 0) [(D L),(D L),(D L),(D L),(D L),(D L),(D L),(D L),(D L),(D L),(D L),(D L)]
 (.call 27 [(.agg [(I L (A 2)),(I L (A 3)),(I L (A 4)),(I L (A 5)),(I L (A 6)),(I L (A 7))]),(.agg [(I L (A 8)),(I L (A 9)),(I L (A 10)),(I L (A 11)),(I L (A 12)),(I L (A 13))])] [] [(.one (D L))]
 (.need (.is 0 0)
 (.jump 1 [(.a 14),(.a 0),(.a 1),(.slen 0),(.l 0),(.a 2),(.a 3),(.a 4),(.a 5),(.a 6),(.a 7),(.a 8),(.a 9),(.a 10),(.a 11),(.a 12),(.a 13)] [] [(.va 0),(.va 1)])))))
 (.call 28 [(.va 0),(.fn 29 0 [])] [] [(.one .val)]
 (.call 30 [(.va 2),(.fn 31 0 [])] [] []
 (.ret false (.va 2) []))))
def a9M:PT :=
 (.ite (.lt (.a 4) (.a 3))
 (.need (treeI (.a 4) (.slen 0))
 (.load false (.ea 0 (.a 4) 8 1) [(D L),(D L),(D L),(D L),(D L),(D L)]
 (.ite (.and (.eq (.a 17) (.a 11)) (.and (.eq (.a 18) (.a 12)) (.and (.eq (.a 19) (.a 13)) (.and (.eq (.a 20) (.a 14)) (.and (.eq (.a 21) (.a 15)) (.eq (.a 22) (.a 16)))))))
  (.need (treeI (.a 4) (.slen 0))
  (.load false (.ea 0 (.a 4) 8 7) [(D L)]
  (.need (treeI (.a 4) (.slen 0))
  (.storeM (.ea 0 (.a 4) 8 7) [(.int .i64 (.mx (.a 23) (.a 0)))]
  (.need (treeB (.add (.a 2) (.l 1)))
  (.jump 0 [(.a 1),(.add (.a 2) (.l 1))] [] [(.va 0),(.va 1)]))))))
  (.need (treeB (.add (.a 4) (.l 1)))
  (.jump 1 [(.a 0),(.a 1),(.a 2),(.a 3),(.add (.a 4) (.l 1)),(.a 5),(.a 6),(.a 7),(.a 8),(.a 9),(.a 10),(.a 11),(.a 12),(.a 13),(.a 14),(.a 15),(.a 16)] [] [(.va 0),(.va 1)])))))
 (.app none (.lit [[(I L (E 0)),(I L (A 11)),(I L (A 12)),(I L (A 13)),(I L (A 14)),(I L (A 15)),(I L (A 16)),(I L (A 0))]]) 8
 (.appM (.va 0) (.va 2) 8 33
 (.need (treeB (.add (.a 2) (.l 1)))
 (.jump 0 [(.a 1),(.add (.a 2) (.l 1))] [] [(.va 3),(.va 1)])))))
def relcap_Clockbids_S:Sx.Sys:=⟨[(.sh (.one .val))],a9R,[a9L,a9M],none,none⟩
def a8f:List Cfg:=[{ todo:=[(.code [false,false,true,false,true,true,true,false,true]),(.inLoop [false,false,true,false,true,true,true,false,true]),(.inBlock 0),(.code [true,true,true,true,false,true]),(.inScope [false,true])],sl:=[(.junk 0),.undef,(.junk 1),(.va 0),.undef]++jkR 2 6++[(.va 1),(I L (A 0)),(I L (A 1))]++jkR 8 41++udR 5,H:=[],ni:=2,nb:=0,nv:=2,nj:=49 },
 { todo:=[(.code [false,false,true,false,true,true,false,false,true,true,false,false,true,false,true,true,true,false,true]),(.inLoop [false,false,true,false,true,true,false,false,true,true,false,false,true,false,true,true,true,false,true]),(.inBlock 2),(.code [true,true,true,false,false,true,true,false,false,true,false,true,true,true,false,true]),(.inBlock 1),(.code [true,true,true,false,false,true,false,true,true,true,false,true]),(.inLoop [false,false,true,false,true,true,true,false,true]),(.inBlock 0),(.code [true,true,true,true,false,true]),(.inScope [false,true])],sl:=[(.junk 0),.undef,(.junk 1),(.va 0),.undef,(.ptr 0 0),(I L (A 0))]++jkR 2 4++[(.va 1),(I L (A 1)),(I L (A 2))]++jkR 6 9++[(I L (A 3)),(I L (A 4))]++jkR 15 30++udR 5,H:=[(.cells [(I L (A 5)),(I L (A 6)),(I L (A 7)),(I L (A 8)),(I L (A 9)),(I L (A 10)),(I L (A 11)),(I L (A 12)),(I L (A 13)),(I L (A 14)),(I L (A 15)),(I L (A 16))] 46 false)],ni:=17,nb:=0,nv:=2,nj:=45 }]
theorem a9O:SysOk Try.prog 11 relcap_Clockbids_S:=a0V (c:=(cg [[false,false,true,false,true,true,true,false,true],[false,false,true,false,true,true,false,false,true,true,false,false,true,false,true,true,true,false,true]] [] [] true false true true)) (a0L _ _ _ _ _ _ _ _ _) Try.func11 Try.call11 (by kernel_rfl) a8f relcap_Clockbids_S 5000 rfl (by kernel_rfl) (by kernel_rfl) rfl
def a6a:PT :=
 (.need (treeB (.mul (.a 0) (.a 6)))
 (.need (treeB (.mul (.a 0) (.a 6)))
 (.need (treeB (.mul (.a 1) (.a 7)))
 (.need (treeB (.add (.mul (.a 0) (.a 6)) (.mul (.a 1) (.a 7))))
 (.need (treeB (.mul (.a 2) (.a 8)))
 (.need (treeB (.add (.add (.mul (.a 0) (.a 6)) (.mul (.a 1) (.a 7))) (.mul (.a 2) (.a 8))))
 (.need (treeB (.mul (.a 3) (.a 9)))
 (.need (treeB (.add (.add (.add (.mul (.a 0) (.a 6)) (.mul (.a 1) (.a 7))) (.mul (.a 2) (.a 8))) (.mul (.a 3) (.a 9))))
 (.need (treeB (.mul (.a 4) (.a 10)))
 (.need (treeB (.add (.add (.add (.add (.mul (.a 0) (.a 6)) (.mul (.a 1) (.a 7))) (.mul (.a 2) (.a 8))) (.mul (.a 3) (.a 9))) (.mul (.a 4) (.a 10))))
 (.need (treeB (.mul (.a 5) (.a 11)))
 (.need (treeB (.add (.add (.add (.add (.add (.mul (.a 0) (.a 6)) (.mul (.a 1) (.a 7))) (.mul (.a 2) (.a 8))) (.mul (.a 3) (.a 9))) (.mul (.a 4) (.a 10))) (.mul (.a 5) (.a 11))))
 (.ret false (.int .i64 (.add (.add (.add (.add (.add (.mul (.a 0) (.a 6)) (.mul (.a 1) (.a 7))) (.mul (.a 2) (.a 8))) (.mul (.a 3) (.a 9))) (.mul (.a 4) (.a 10))) (.mul (.a 5) (.a 11)))) [])))))))))))))
def bundle_Cost_S:Sx.Sys:=⟨[(.sh (.agg [(D L),(D L),(D L),(D L),(D L),(D L)])),(.sh (.agg [(D L),(D L),(D L),(D L),(D L),(D L)]))],a6a,[],none,none⟩
def b1r:List Cfg:=[]
theorem b2Y:SysOk Try.prog 27 bundle_Cost_S:=a0V (c:=(cg [] [] [] false false false true)) (a0L _ _ _ _ _ _ _ _ _) Try.func27 Try.call27 (by kernel_rfl) b1r bundle_Cost_S 5000 rfl (by kernel_rfl) (by kernel_rfl) rfl
def a6d:PT :=
 (.need (.is 0 0)
 (.jump 0 [(.l 1000000),(.slen 0),(.l 0),(.a 0),(.a 1),(.a 2),(.a 3),(.a 4),(.a 5)] [] [(.va 1),(.va 0)]))
def a2Z:PT :=
 (.ite (.lt (.a 2) (.a 1))
 (.need (treeI (.a 2) (.slen 1))
 (.load false (.ea 1 (.a 2) 12 0) [(D L),(D L),(D L),(D L),(D L),(D L),(D L),(D L),(D L),(D L),(D L),(D L)]
 (.ite (.not (.and (.eq (.a 15) (.a 3)) (.and (.eq (.a 16) (.a 4)) (.and (.eq (.a 17) (.a 5)) (.and (.eq (.a 18) (.a 6)) (.and (.eq (.a 19) (.a 7)) (.eq (.a 20) (.a 8))))))))
  (.callv 0 [(.agg [(I L (A 15)),(I L (A 16)),(I L (A 17)),(I L (A 18)),(I L (A 19)),(I L (A 20))])] [(.one (D L))]
  (.call 27 [(.agg [(I L (A 9)),(I L (A 10)),(I L (A 11)),(I L (A 12)),(I L (A 13)),(I L (A 14))]),(.agg [(I L (A 3)),(I L (A 4)),(I L (A 5)),(I L (A 6)),(I L (A 7)),(I L (A 8))])] [] [(.one (D L))]
  (.need (treeB (.add (.a 21) (.a 22)))
  (.call 27 [(.agg [(I L (A 9)),(I L (A 10)),(I L (A 11)),(I L (A 12)),(I L (A 13)),(I L (A 14))]),(.agg [(I L (A 15)),(I L (A 16)),(I L (A 17)),(I L (A 18)),(I L (A 19)),(I L (A 20))])] [] [(.one (D L))]
  (.need (treeB (.sub (.add (.a 21) (.a 22)) (.a 23)))
  (.need (treeB (.add (.a 2) (.l 1)))
  (.jump 0 [(.mn (.a 0) (.sub (.add (.a 21) (.a 22)) (.a 23))),(.a 1),(.add (.a 2) (.l 1)),(.a 3),(.a 4),(.a 5),(.a 6),(.a 7),(.a 8)] [] [(.va 0),(.va 1)])))))))
  (.need (treeB (.add (.a 2) (.l 1)))
  (.jump 0 [(.a 0),(.a 1),(.add (.a 2) (.l 1)),(.a 3),(.a 4),(.a 5),(.a 6),(.a 7),(.a 8)] [] [(.va 0),(.va 1)])))))
 (.ret false (I L (A 0)) []))
def relcap_most_S:Sx.Sys:=⟨[(.sh (.one .val)),(.sh (.one .val)),(.sh (.agg [(D L),(D L),(D L),(D L),(D L),(D L)]))],a6d,[a2Z],none,none⟩
def b1M:List Cfg:=[{ todo:=[(.code [false,false,true,false,true,true]),(.inLoop [false,false,true,false,true,true]),(.inBlock 0),(.code [true,true,true])],sl:=[(.junk 0),(.va 0),(.junk 1),.undef,.undef,(.ptr 0 0),(.junk 2),(I L (A 0)),.undef,(.junk 3),(.va 1),(I L (A 1)),(I L (A 2))]++jkR 4 25++[.undef],H:=[(.cells [(I L (A 3)),(I L (A 4)),(I L (A 5)),(I L (A 6)),(I L (A 7)),(I L (A 8))] 29 false)],ni:=9,nb:=0,nv:=2,nj:=29 }]
theorem b3b:SysOk Try.prog 36 relcap_most_S:=a0V (c:=(cg [[false,false,true,false,true,true]] [] [(21,[2])] false false false true)) (a0L _ _ _ _ _ _ _ _ _) Try.func36 Try.call36 (by kernel_rfl) b1M relcap_most_S 5000 rfl (by kernel_rfl) (by kernel_rfl) rfl
def a3R:PT :=
 (.need (.is 0 1)
 (.need (.is 0 0)
 (.ite (.not (.eq (.slen 1) (.slen 0)))
 (.ret false (.bool (.t false)) [])
 (.need (.is 0 0)
 (.jump 0 [(.slen 0),(.l 0)] [] [(.va 0),(.va 1)])))))
def a3w:PT :=
 (.ite (.lt (.a 1) (.a 0))
 (.need (treeI (.a 1) (.slen 0))
 (.load false (.ea 0 (.a 1) 12 0) [(D L),(D L),(D L),(D L),(D L),(D L),(D L),(D L),(D L),(D L),(D L),(D L)]
 (.need (treeI (.a 1) (.slen 1))
 (.load true (.ea 1 (.a 1) 1 0) [(D L)]
 (.call 27 [(.agg [(I L (A 2)),(I L (A 3)),(I L (A 4)),(I L (A 5)),(I L (A 6)),(I L (A 7))]),(.agg [(I L (A 8)),(I L (A 9)),(I L (A 10)),(I L (A 11)),(I L (A 12)),(I L (A 13))])] [] [(.one (D L))]
 (.ite (.lt (.a 14) (.a 15))
  (.ret false (.bool (.t false)) [])
  (.ite (.and (.eq (.a 8) (.l 0)) (.and (.eq (.a 9) (.l 0)) (.and (.eq (.a 10) (.l 0)) (.and (.eq (.a 11) (.l 0)) (.and (.eq (.a 12) (.l 0)) (.eq (.a 13) (.l 0)))))))
  (.need (treeI (.a 1) (.slen 1))
  (.load true (.ea 1 (.a 1) 1 0) [(D L)]
  (.ite (.not (.eq (.a 16) (.l 0)))
   (.ret false (.bool (.t false)) [])
   (.need (.is 0 0)
   (.jump 1 [(.a 1),(.a 0),(.a 8),(.a 9),(.a 10),(.a 11),(.a 12),(.a 13),(.slen 0),(.l 0),(.a 2),(.a 3),(.a 4),(.a 5),(.a 6),(.a 7)] [(.and (.eq (.a 8) (.l 0)) (.and (.eq (.a 9) (.l 0)) (.and (.eq (.a 10) (.l 0)) (.and (.eq (.a 11) (.l 0)) (.and (.eq (.a 12) (.l 0)) (.eq (.a 13) (.l 0))))))),(.t true),(.not (.eq (.a 16) (.l 0)))] [(.va 0),(.va 1)])))))
  (.need (.is 0 0)
  (.jump 1 [(.a 1),(.a 0),(.a 8),(.a 9),(.a 10),(.a 11),(.a 12),(.a 13),(.slen 0),(.l 0),(.a 2),(.a 3),(.a 4),(.a 5),(.a 6),(.a 7)] [(.and (.eq (.a 8) (.l 0)) (.and (.eq (.a 9) (.l 0)) (.and (.eq (.a 10) (.l 0)) (.and (.eq (.a 11) (.l 0)) (.and (.eq (.a 12) (.l 0)) (.eq (.a 13) (.l 0))))))),(.t false),(.t false)] [(.va 0),(.va 1)])))))))))
 (.ret false (.bool (.t true)) []))
def a3k:PT :=
 (.ite (.lt (.a 9) (.a 8))
 (.need (treeI (.a 9) (.slen 0))
 (.load false (.ea 0 (.a 9) 12 0) [(D L),(D L),(D L),(D L),(D L),(D L),(D L),(D L),(D L),(D L),(D L),(D L)]
 (.need (treeI (.a 9) (.slen 1))
 (.need (treeI (.a 0) (.slen 1))
 (.load true (.ea 1 (.a 9) 1 0) [(D L)]
 (.load true (.ea 1 (.a 0) 1 0) [(D L)]
 (.need (treeB (.sub (.a 28) (.a 29)))
 (.call 46 [(.agg [(I L (A 10)),(I L (A 11)),(I L (A 12)),(I L (A 13)),(I L (A 14)),(I L (A 15)),(I L (A 2)),(I L (A 3)),(I L (A 4)),(I L (A 5)),(I L (A 6)),(I L (A 7))]),(.agg [(I L (A 16)),(I L (A 17)),(I L (A 18)),(I L (A 19)),(I L (A 20)),(I L (A 21)),(I L (A 22)),(I L (A 23)),(I L (A 24)),(I L (A 25)),(I L (A 26)),(I L (A 27))])] [] [(.one (D L))]
 (.ite (.lt (.a 30) (.sub (.a 28) (.a 29)))
  (.ret false (.bool (.t false)) [])
  (.need (treeB (.add (.a 9) (.l 1)))
  (.jump 1 [(.a 0),(.a 1),(.a 2),(.a 3),(.a 4),(.a 5),(.a 6),(.a 7),(.a 8),(.add (.a 9) (.l 1)),(.a 10),(.a 11),(.a 12),(.a 13),(.a 14),(.a 15)] [(.a 0),(.a 1),(.a 2)] [(.va 0),(.va 1)])))))))))))
 (.need (treeB (.add (.a 0) (.l 1)))
 (.jump 0 [(.a 1),(.add (.a 0) (.l 1))] [] [(.va 0),(.va 1)])))
def revealed_explains_S:Sx.Sys:=⟨[(.sh (.one .val)),(.sh (.one .val))],a3R,[a3w,a3k],none,none⟩
def a7S:List Cfg:=[{ todo:=[(.code [false,false,true,false,true,true]),(.inLoop [false,false,true,false,true,true]),(.inBlock 0),(.code [true,true,true])],sl:=[(.va 0),(.va 1),.undef,.undef]++jkR 0 10++[(.va 0),(I L (A 0)),(I L (A 1))]++jkR 10 49,H:=[],ni:=2,nb:=0,nv:=2,nj:=59 },
 { todo:=[(.code [false,false,true,true,true,false,false,true,true,false,false,true,false,true,true]),(.inLoop [false,false,true,true,true,false,false,true,true,false,false,true,false,true,true]),(.inBlock 2),(.inBlock 1),(.code [true,true,true,false,false,true,false,true,true]),(.inLoop [false,false,true,false,true,true]),(.inBlock 0),(.code [true,true,true])],sl:=[(.va 0),(.va 1),.undef,.undef,(.junk 0),(I L (A 0)),(.ptr 0 0)]++jkR 1 7++[(.va 0),(I L (A 1)),(I L (A 0))]++jkR 8 15++[(.ptr 0 6),(.agg [(I L (A 2)),(I L (A 3)),(I L (A 4)),(I L (A 5)),(I L (A 6)),(I L (A 7))]),(.agg [(I L (E 0)),(I L (E 0)),(I L (E 0)),(I L (E 0)),(I L (E 0)),(I L (E 0))]),(.bool (.a 0)),(.bool (.a 1))]++jkR 23 5++[(.bool (.a 2)),(.junk 28),(.va 0),(I L (A 8)),(I L (A 9))]++jkR 29 19,H:=[(.cells [(I L (A 10)),(I L (A 11)),(I L (A 12)),(I L (A 13)),(I L (A 14)),(I L (A 15)),(I L (A 2)),(I L (A 3)),(I L (A 4)),(I L (A 5)),(I L (A 6)),(I L (A 7))] 46 false)],ni:=16,nb:=3,nv:=2,nj:=48 }]
theorem a8K:SysOk Try.prog 45 revealed_explains_S:=a0V (c:=(cg [[false,false,true,false,true,true],[false,false,true,true,true,false,false,true,true,false,false,true,false,true,true]] [] [] false false false true)) (a0L _ _ _ _ _ _ _ _ _) Try.func45 Try.call45 (by kernel_rfl) a7S revealed_explains_S 5000 rfl (by kernel_rfl) (by kernel_rfl) rfl
def a4P:PT :=
 (.mkMap .i64
 (.jump 0 [(.a 0)] [] [(.va 0),(.va 1)]))
def a2x:PT :=
 (.mapGet 1 .i64 (.a 0) (.bool (.t false)) false [(.one .bool)]
 (.ite (.not (.a 0))
 (.mapSet 1 .i64 (.a 0) (.bool (.t true))
 (.need (treeI (.a 0) (.slen 0))
 (.load false (.ea 0 (.a 0) 1 0) [(D L)]
 (.jump 0 [(.a 1)] [] [(.va 0),(.va 1)]))))
 (.mapClr 1
 (.jump 1 [(.a 0)] [] [(.va 0),(.va 1),.nilS]))))
def a1V:PT :=
 (.mapGet 1 .i64 (.a 0) (.bool (.t false)) false [(.one .bool)]
 (.ite (.not (.a 0))
 (.mapSet 1 .i64 (.a 0) (.bool (.t true))
 (.app none (.lit [[(I L (A 0))]]) 1
 (.appM (.va 2) (.va 3) 1 3
 (.need (treeI (.a 0) (.slen 0))
 (.load false (.ea 0 (.a 0) 1 0) [(D L)]
 (.jump 1 [(.a 1)] [] [(.va 0),(.va 1),(.va 4)]))))))
 (.need (.is 0 2)
 (.mkM (.slen 2) [(I L (E 0))] 3 1 8
 (.need (.is 0 2)
 (.jump 2 [(.slen 2),(.l 0)] [] [(.va 2),(.va 3)]))))))
def a2y:PT :=
 (.ite (.lt (.a 1) (.a 0))
 (.need (treeI (.a 1) (.slen 0))
 (.load false (.ea 0 (.a 1) 1 0) [(D L)]
 (.need (.is 0 0)
 (.need (treeB (.sub (.slen 0) (.l 1)))
 (.need (treeB (.sub (.sub (.slen 0) (.l 1)) (.a 1)))
 (.need (treeI (.sub (.sub (.slen 0) (.l 1)) (.a 1)) (.slen 1))
 (.storeM (.ea 1 (.sub (.sub (.slen 0) (.l 1)) (.a 1)) 1 0) [(I L (A 2))]
 (.need (treeB (.add (.a 1) (.l 1)))
 (.jump 2 [(.a 0),(.add (.a 1) (.l 1))] [] [(.va 0),(.va 1)])))))))))
 (.ret false (.va 1) []))
def revealed_cycle_S:Sx.Sys:=⟨[(.sh (.one .val)),(.sh (.one (D L)))],a4P,[a2x,a1V,a2y],none,none⟩
def a9N:List Cfg:=[{ todo:=[(.code [false,false,false,true,true]),(.inLoop [false,false,false,true,true]),(.inBlock 0),(.code [true,true,true])],sl:=[(.va 0),(I L (A 0)),.undef,.undef,(.junk 0),(.va 1)]++udR 4++jkR 1 11++udR 35,H:=[],ni:=1,nb:=0,nv:=2,nj:=12 },
 { todo:=[(.code [false,false,false,true,true,true,true,true]),(.inLoop [false,false,false,true,true,true,true,true]),(.inBlock 2),(.code [true,true,true,true,true,true])],sl:=[(.va 0),(I L (A 0)),.undef,.undef,(.junk 0),(.va 1),(.va 2),.undef,.undef,.undef]++jkR 1 26++udR 20,H:=[],ni:=1,nb:=0,nv:=3,nj:=27 },
 { todo:=[(.code [false,false,true,false,true,true,true,true,true,true,true]),(.inLoop [false,false,true,false,true,true,true,true,true,true,true]),(.inBlock 4),(.code [true,true,true,true,true,true,true,true])],sl:=[(.junk 0),(.junk 1),.undef,.undef,(.junk 2),(.junk 3),(.va 0),(.va 1)]++jkR 4 31++[(.va 0),(I L (A 0)),(I L (A 1))]++jkR 35 13++[.undef],H:=[],ni:=2,nb:=0,nv:=2,nj:=48 }]
theorem b0W:SysOk Try.prog 53 revealed_cycle_S:=a0V (c:=(cg [[false,false,false,true,true],[false,false,false,true,true,true,true,true],[false,false,true,false,true,true,true,true,true,true,true]] [] [] true false true true)) (a0L _ _ _ _ _ _ _ _ _) Try.func53 Try.call53 (by kernel_rfl) a9N revealed_cycle_S 5000 rfl (by kernel_rfl) (by kernel_rfl) rfl
end Go.Proofs.Ytggjcdnailppoaa
set_option maxRecDepth 100000
namespace Go.Proofs.Ytggjcdnailppoaa
open Go.Sx
def c2x:PT :=
 (.call 21 [(.va 0)] [] [(.one .bool)]
 (.ite (.not (.a 0))
 (.ret false .nilS [])
 (.jump 0 [(.l 0)] [] [(.va 0),.nilS])))
def c2s:PT :=
 (.call 22 [(.va 0),.nilS,(.agg [(I L (A 7)),(I L (A 8)),(I L (A 9)),(I L (A 10)),(I L (A 11)),(I L (A 12))])] [] [(.one (D L))]
  (.ite (.and (.eq (.a 1) (.l 0)) (.and (.eq (.a 2) (.l 0)) (.and (.eq (.a 3) (.l 0)) (.and (.eq (.a 4) (.l 0)) (.and (.eq (.a 5) (.l 0)) (.eq (.a 6) (.l 0)))))))
  (.need (treeB (.add (.a 0) (.l 1)))
  (.jump 0 [(.add (.a 0) (.l 1))] [] [(.va 0),(.va 1)]))
  (.ite (.eq (.a 13) (.l 0))
   (.need (treeB (.add (.a 0) (.l 1)))
   (.jump 0 [(.add (.a 0) (.l 1))] [] [(.va 0),(.va 1)]))
   (.jump 1 [(.a 0),(.l 0),(.a 13),(.a 1),(.a 2),(.a 3),(.a 4),(.a 5),(.a 6)] [(.eq (.a 13) (.l 0))] [(.va 0),(.va 1)]))))
def c2o:PT :=
 (.need (.is 0 0)
 (.ite (.lt (.a 0) (.slen 0))
 (.need (treeI (.a 0) (.slen 0))
 (.need (treeI (.a 0) (.slen 0))
 (.load true (.ea 0 (.a 0) 12 6) [(D L),(D L),(D L),(D L),(D L),(D L)]
 (.load true (.ea 0 (.a 0) 12 6) [(D L),(D L),(D L),(D L),(D L),(D L)]
 (.both c2s c2s)))))
 (.ret false (.va 1) [])))
def c2I:PT :=
 (.app (some 4) (.va 2) 8
    (.app none (.lit [[(I L (E 0)),(I L (A 3)),(I L (A 4)),(I L (A 5)),(I L (A 6)),(I L (A 7)),(I L (A 8)),(I L (A 2))]]) 8
    (.app (some 5) (.va 6) 8
    (.app (some 7) (.va 3) 8
    (.need (treeB (.add (.a 0) (.l 1)))
    (.jump 0 [(.add (.a 0) (.l 1))] [] [(.va 0),(.va 8)]))))))
def c2D:PT :=
 (.app none (.lit [[(I L (E 0)),(I L (A 3)),(I L (A 4)),(I L (A 5)),(I L (A 6)),(I L (A 7)),(I L (A 8)),(I L (A 2))]]) 8
    (.app (some 4) (.va 2) 8
    (.app (some 6) (.va 5) 8
    (.app (some 7) (.va 3) 8
    (.need (treeB (.add (.a 0) (.l 1)))
    (.jump 0 [(.add (.a 0) (.l 1))] [] [(.va 0),(.va 8)]))))))
def c2C:PT :=
 (.app none (.lit []) 8
   (.both c2I c2D))
def c2G:PT :=
 (.app none (.lit [[(I L (E 0)),(I L (A 3)),(I L (A 4)),(I L (A 5)),(I L (A 6)),(I L (A 7)),(I L (A 8)),(I L (A 2))]]) 8
   (.app none (.lit []) 8
   (.app (some 5) (.va 2) 8
   (.app (some 6) (.va 4) 8
   (.app (some 7) (.va 3) 8
   (.need (treeB (.add (.a 0) (.l 1)))
   (.jump 0 [(.add (.a 0) (.l 1))] [] [(.va 0),(.va 8)])))))))
def c2H:PT :=
 (.app (some 4) (.va 2) 8
   (.app none (.lit [[(I L (E 0)),(I L (A 3)),(I L (A 4)),(I L (A 5)),(I L (A 6)),(I L (A 7)),(I L (A 8)),(I L (A 2))]]) 8
   (.app (some 5) (.va 6) 8
   (.app (some 7) (.va 3) 8
   (.need (treeB (.add (.a 0) (.l 1)))
   (.jump 0 [(.add (.a 0) (.l 1))] [] [(.va 0),(.va 8)]))))))
def c2E:PT :=
 (.app none (.lit [[(I L (E 0)),(I L (A 3)),(I L (A 4)),(I L (A 5)),(I L (A 6)),(I L (A 7)),(I L (A 8)),(I L (A 2))]]) 8
   (.app (some 4) (.va 2) 8
   (.app (some 6) (.va 5) 8
   (.app (some 7) (.va 3) 8
   (.need (treeB (.add (.a 0) (.l 1)))
   (.jump 0 [(.add (.a 0) (.l 1))] [] [(.va 0),(.va 8)]))))))
def c2w:PT :=
 (.app none (.lit []) 8
   (.both c2H c2E))
def c2v:PT :=
 (.app none (.lit [[(I L (E 0)),(I L (A 3)),(I L (A 4)),(I L (A 5)),(I L (A 6)),(I L (A 7)),(I L (A 8)),(I L (A 2))]]) 8
   (.app none (.lit []) 8
   (.app (some 5) (.va 2) 8
   (.app (some 6) (.va 4) 8
   (.app (some 7) (.va 3) 8
   (.need (treeB (.add (.a 0) (.l 1)))
   (.jump 0 [(.add (.a 0) (.l 1))] [] [(.va 0),(.va 8)])))))))
def c2F:PT :=
 (.app (some 4) (.va 2) 8
   (.app none (.lit [[(I L (E 0)),(I L (A 3)),(I L (A 4)),(I L (A 5)),(I L (A 6)),(I L (A 7)),(I L (A 8)),(I L (A 2))]]) 8
   (.app (some 5) (.va 6) 8
   (.app (some 7) (.va 3) 8
   (.need (treeB (.add (.a 0) (.l 1)))
   (.jump 0 [(.add (.a 0) (.l 1))] [] [(.va 0),(.va 8)]))))))
def c2A:PT :=
 (.app none (.lit [[(I L (E 0)),(I L (A 3)),(I L (A 4)),(I L (A 5)),(I L (A 6)),(I L (A 7)),(I L (A 8)),(I L (A 2))]]) 8
   (.app (some 4) (.va 2) 8
   (.app (some 6) (.va 5) 8
   (.app (some 7) (.va 3) 8
   (.need (treeB (.add (.a 0) (.l 1)))
   (.jump 0 [(.add (.a 0) (.l 1))] [] [(.va 0),(.va 8)]))))))
def c2z:PT :=
 (.app none (.lit []) 8
  (.both c2F c2A))
def c2B:PT :=
 (.app none (.lit [[(I L (E 0)),(I L (A 3)),(I L (A 4)),(I L (A 5)),(I L (A 6)),(I L (A 7)),(I L (A 8)),(I L (A 2))]]) 8
  (.app none (.lit []) 8
  (.app (some 5) (.va 2) 8
  (.app (some 6) (.va 4) 8
  (.app (some 7) (.va 3) 8
  (.need (treeB (.add (.a 0) (.l 1)))
  (.jump 0 [(.add (.a 0) (.l 1))] [] [(.va 0),(.va 8)])))))))
def c2n:PT :=
 (.need (.is 0 1)
 (.ite (.lt (.a 1) (.slen 1))
 (.need (treeI (.a 1) (.slen 1))
 (.load true (.ea 1 (.a 1) 8 1) [(D L),(D L),(D L),(D L),(D L),(D L)]
 (.call 33 [(.agg [(I L (A 9)),(I L (A 10)),(I L (A 11)),(I L (A 12)),(I L (A 13)),(I L (A 14))]),(.agg [(I L (A 3)),(I L (A 4)),(I L (A 5)),(I L (A 6)),(I L (A 7)),(I L (A 8))])] [] [(.one (D L))]
 (.ite (.lt (.a 15) (.l 0))
  (.need (treeB (.add (.a 1) (.l 1)))
  (.jump 1 [(.a 0),(.add (.a 1) (.l 1)),(.a 2),(.a 3),(.a 4),(.a 5),(.a 6),(.a 7),(.a 8)] [(.a 0)] [(.va 0),(.va 1)]))
  (.need (.is 0 1)
  (.ite (.lt (.a 1) (.slen 1))
  (.need (treeI (.a 1) (.slen 1))
  (.load true (.ea 1 (.a 1) 8 1) [(D L),(D L),(D L),(D L),(D L),(D L)]
  (.ite (.and (.eq (.a 16) (.a 3)) (.and (.eq (.a 17) (.a 4)) (.and (.eq (.a 18) (.a 5)) (.and (.eq (.a 19) (.a 6)) (.and (.eq (.a 20) (.a 7)) (.eq (.a 21) (.a 8)))))))
   (.need (treeB (.add (.a 0) (.l 1)))
   (.jump 0 [(.add (.a 0) (.l 1))] [] [(.va 0),(.va 1)]))
   (.cut 1 none (some (.a 1)) 8
   (.cut 1 (some (.a 1)) none 8
   (.both c2C c2G))))))
  (.cut 1 none (some (.a 1)) 8
  (.cut 1 (some (.a 1)) none 8
  (.both c2w c2v)))))))))
 (.need (.is 0 1)
 (.ite (.lt (.a 1) (.slen 1))
  (.need (treeI (.a 1) (.slen 1))
  (.load true (.ea 1 (.a 1) 8 1) [(D L),(D L),(D L),(D L),(D L),(D L)]
  (.ite (.and (.eq (.a 9) (.a 3)) (.and (.eq (.a 10) (.a 4)) (.and (.eq (.a 11) (.a 5)) (.and (.eq (.a 12) (.a 6)) (.and (.eq (.a 13) (.a 7)) (.eq (.a 14) (.a 8)))))))
  (.need (treeB (.add (.a 0) (.l 1)))
  (.jump 0 [(.add (.a 0) (.l 1))] [] [(.va 0),(.va 1)]))
  (.cut 1 none (some (.a 1)) 8
  (.cut 1 (some (.a 1)) none 8
  (.both c2w c2v))))))
  (.cut 1 none (some (.a 1)) 8
  (.cut 1 (some (.a 1)) none 8
  (.both c2z c2B)))))))
def saleroomref40_Clockbids_S:Sx.Sys:=⟨[(.sh (.one .val))],c2x,[c2o,c2n],none,none⟩
def c2Y:List Cfg:=[{ todo:=[(.code [false,false,true,false,true,true,true]),(.inLoop [false,false,true,false,true,true,true]),(.inBlock 0),(.code [true,true,true,true])],sl:=[(.va 0),.undef,(.junk 0),(.va 1),(I L (A 0))]++jkR 1 76++[.undef],H:=[],ni:=1,nb:=0,nv:=2,nj:=77 },
 { todo:=[(.code [false,false,false,true,true,true,false,false,true,false,false,true,false,true,true,true]),(.inLoop [false,false,false,true,true,true,false,false,true,false,false,true,false,true,true,true]),(.inBlock 2),(.code [true,true,true,true,false,false,true,false,false,true,false,true,true,true]),(.inBlock 1),(.code [true,true,false,false,true,false,true,true,true]),(.inLoop [false,false,true,false,true,true,true]),(.inBlock 0),(.code [true,true,true,true])],sl:=[(.va 0),.undef,(.junk 0),(.va 1),(I L (A 0)),(.ptr 0 0),(I L (A 1))]++jkR 1 27++[(.ptr 0 7),(I L (A 2)),(.bool (.a 0))]++jkR 28 44++[.undef],H:=[(.cells [(I L (E 0)),(I L (A 3)),(I L (A 4)),(I L (A 5)),(I L (A 6)),(I L (A 7)),(I L (A 8)),(I L (A 2))] 33 false)],ni:=9,nb:=1,nv:=2,nj:=72 }]
theorem c3a:SysOk Try.prog 12 saleroomref40_Clockbids_S:=a0V (c:=(cg [[false,false,true,false,true,true,true],[false,false,false,true,true,true,false,false,true,false,false,true,false,true,true,true]] [] [] false false false true)) (a0L _ _ _ _ _ _ _ _ _) Try.func12 Try.call12 (by kernel_rfl) c2Y saleroomref40_Clockbids_S 5000 rfl (by kernel_rfl) (by kernel_rfl) rfl
def a3F:PT :=
 (.call 47 [(.va 0),(.va 1)] [] [(.one (D L))]
 (.ite (.eq (.a 0) (.l (-1)))
 (.ret false (.va 0) [])
 (.need (treeB (.add (.a 0) (.l 1)))
 (.jump 0 [(.a 0),(.add (.a 0) (.l 1))] [] [(.va 0),(.va 1)]))))
def a3m:PT :=
 (.need (.is 0 0)
 (.ite (.lt (.a 1) (.slen 0))
 (.need (treeI (.a 1) (.slen 0))
 (.load false (.ea 0 (.a 1) 8 0) [(D L),(D L),(D L),(D L),(D L),(D L),(D L),(D L)]
 (.callv 1 [(.agg [(I L (A 2)),(I L (A 3)),(I L (A 4)),(I L (A 5)),(I L (A 6)),(I L (A 7)),(I L (A 8)),(I L (A 9))])] [(.one .bool)]
 (.ite (.not (.a 0))
  (.need (treeI (.a 0) (.slen 0))
  (.storeM (.ea 0 (.a 0) 8 0) [(I L (A 2)),(I L (A 3)),(I L (A 4)),(I L (A 5)),(I L (A 6)),(I L (A 7)),(I L (A 8)),(I L (A 9))]
  (.need (treeB (.add (.a 0) (.l 1)))
  (.need (treeB (.add (.a 1) (.l 1)))
  (.jump 0 [(.add (.a 0) (.l 1)),(.add (.a 1) (.l 1))] [] [(.va 0),(.va 1)])))))
  (.need (treeB (.add (.a 1) (.l 1)))
  (.jump 0 [(.a 0),(.add (.a 1) (.l 1))] [] [(.va 0),(.va 1)]))))))
 .stuck))
def slices_DeleteFunc_api_Offer_api_Offer_S:Sx.Sys:=⟨[(.sh (.one .val)),(.sh (.one .val))],a3F,[a3m],none,none⟩
def a3f:List Cfg:=[{ todo:=[(.code [false,false,true,false,true,true,true]),(.inLoop [false,false,true,false,true,true,true]),(.inBlock 0),(.code [true,true,true,true])],sl:=[(.va 0),(.va 1),.undef,.undef,(.junk 0),(I L (A 0)),(I L (A 1))]++jkR 1 6++[.undef]++jkR 7 22++udR 6,H:=[],ni:=2,nb:=0,nv:=2,nj:=29 }]
theorem a3t:SysOk Try.prog 28 slices_DeleteFunc_api_Offer_api_Offer_S:=a0V (c:=(cg [[false,false,true,false,true,true,true]] [] [(26,[4])] false false false true)) (a0L _ _ _ _ _ _ _ _ _) Try.func28 Try.call28 (by kernel_rfl) a3f slices_DeleteFunc_api_Offer_api_Offer_S 5000 rfl (by kernel_rfl) (by kernel_rfl) rfl
def a5j:PT :=
 (.newM [(.va 0)] 22
 (.newM [(.va 1)] 25
 (.ret false (.fn 50 0 [(.pa 2 0),(.pa 3 0)]) [])))
def relcap_finals_S:Sx.Sys:=⟨[(.sh (.one .val)),(.sh (.one .val))],a5j,[],none,none⟩
def b0k:List Cfg:=[]
theorem b1X:SysOk Try.prog 37 relcap_finals_S:=a0V (c:=(cg [] [2,3] [] true false false true)) (a0L _ _ _ _ _ _ _ _ _) Try.func37 Try.call37 (by kernel_rfl) b0k relcap_finals_S 5000 rfl (by kernel_rfl) (by kernel_rfl) rfl
def a5i:PT :=
 (.call 27 [(.agg [(I L (A 0)),(I L (A 1)),(I L (A 2)),(I L (A 3)),(I L (A 4)),(I L (A 5))]),(.agg [(I L (A 18)),(I L (A 19)),(I L (A 20)),(I L (A 21)),(I L (A 22)),(I L (A 23))])] [] [(.one (D L))]
 (.call 27 [(.agg [(I L (A 0)),(I L (A 1)),(I L (A 2)),(I L (A 3)),(I L (A 4)),(I L (A 5))]),(.agg [(I L (A 6)),(I L (A 7)),(I L (A 8)),(I L (A 9)),(I L (A 10)),(I L (A 11))])] [] [(.one (D L))]
 (.need (treeB (.sub (.a 24) (.a 25)))
 (.ret false (.int .i64 (.sub (.a 24) (.a 25))) []))))
def revealed_gain_S:Sx.Sys:=⟨[(.sh (.agg [(D L),(D L),(D L),(D L),(D L),(D L),(D L),(D L),(D L),(D L),(D L),(D L)])),(.sh (.agg [(D L),(D L),(D L),(D L),(D L),(D L),(D L),(D L),(D L),(D L),(D L),(D L)]))],a5i,[],none,none⟩
def a9Z:List Cfg:=[]
theorem b1J:SysOk Try.prog 46 revealed_gain_S:=a0V (c:=(cg [] [] [] false false false true)) (a0L _ _ _ _ _ _ _ _ _) Try.func46 Try.call46 (by kernel_rfl) a9Z revealed_gain_S 5000 rfl (by kernel_rfl) (by kernel_rfl) rfl
end Go.Proofs.Ytggjcdnailppoaa
set_option maxRecDepth 100000
namespace Go.Proofs.Ytggjcdnailppoaa
open Go.Sx
def b4e:PT :=
 (.call 26 [(.va 0)] [] [(.one .bool)]
 (.ite (.not (.a 0))
 (.ret false (I L (E 0)) [])
 (.call 34 [(.agg [(I L (A 0)),(I L (A 1)),(I L (A 2)),(I L (A 3)),(I L (A 4)),(I L (A 5))])] [] [(.one (D L))]
 (.ite (.not (.eq (.a 6) (.l 0)))
  (.ret false (I L (E 0)) [])
  (.need (.is 0 1)
  (.jump 0 [(.slen 1),(.l 0),(.a 0),(.a 1),(.a 2),(.a 3),(.a 4),(.a 5)] [] [(.va 0),.nilS,(.va 1)]))))))
def b2U:PT :=
 (.ite (.lt (.a 1) (.a 0))
 (.need (treeI (.a 1) (.slen 2))
 (.load false (.ea 2 (.a 1) 8 0) [(D L),(D L),(D L),(D L),(D L),(D L),(D L),(D L)]
 (.call 35 [(.agg [(I L (A 8)),(I L (A 9)),(I L (A 10)),(I L (A 11)),(I L (A 12)),(I L (A 13)),(I L (A 14)),(I L (A 15))])] [] [(.one .bool)]
 (.ite (.a 0)
  (.app none (.lit [[(I L (A 8)),(I L (A 9)),(I L (A 10)),(I L (A 11)),(I L (A 12)),(I L (A 13)),(I L (A 14)),(I L (A 15))]]) 8
  (.app (some 1) (.va 3) 8
  (.need (treeB (.add (.a 1) (.l 1)))
  (.jump 0 [(.a 0),(.add (.a 1) (.l 1)),(.a 2),(.a 3),(.a 4),(.a 5),(.a 6),(.a 7)] [] [(.va 0),(.va 4),(.va 2)]))))
  (.need (treeB (.add (.a 1) (.l 1)))
  (.jump 0 [(.a 0),(.add (.a 1) (.l 1)),(.a 2),(.a 3),(.a 4),(.a 5),(.a 6),(.a 7)] [] [(.va 0),(.va 1),(.va 2)]))))))
 (.call 37 [(.va 0),(.va 1)] [] [(.one .val)]
 (.call 36 [(.va 0),(.va 3),(.agg [(I L (A 2)),(I L (A 3)),(I L (A 4)),(I L (A 5)),(I L (A 6)),(I L (A 7))])] [] [(.one (D L))]
 (.ret false (I L (A 8)) []))))
def relcap_Most_S:Sx.Sys:=⟨[(.sh (.one .val)),(.sh (.one .val)),(.sh (.agg [(D L),(D L),(D L),(D L),(D L),(D L)]))],b4e,[b2U],none,none⟩
def b1R:List Cfg:=[{ todo:=[(.code [false,false,true,false,true,true,true]),(.inLoop [false,false,true,false,true,true,true]),(.inBlock 0),(.code [true,true,true,true])],sl:=[(.va 0),(.junk 0),(.junk 1),.undef,.undef,(.ptr 0 0),(.junk 2),(.va 1),.undef]++jkR 3 9++[(.va 2),(I L (A 0)),(I L (A 1))]++jkR 12 10++udR 6,H:=[(.cells [(I L (A 2)),(I L (A 3)),(I L (A 4)),(I L (A 5)),(I L (A 6)),(I L (A 7))] 29 false),(.row 1 33 8)],ni:=8,nb:=0,nv:=3,nj:=22 }]
theorem b3e:SysOk Try.prog 13 relcap_Most_S:=a0V (c:=(cg [[false,false,true,false,true,true,true]] [] [] false false false true)) (a0L _ _ _ _ _ _ _ _ _) Try.func13 Try.call13 (by kernel_rfl) b1R relcap_Most_S 5000 rfl (by kernel_rfl) (by kernel_rfl) rfl
def a3Q:PT :=
 (.jump 0 [(.l 0)] [] [(.va 0)])
def a3o:PT :=
 (.need (.is 0 0)
 (.ite (.lt (.a 0) (.slen 0))
 (.need (treeI (.a 0) (.slen 0))
 (.load false (.ea 0 (.a 0) 12 0) [(D L),(D L),(D L),(D L),(D L),(D L),(D L),(D L),(D L),(D L),(D L),(D L)]
 (.call 40 [(.agg [(I L (A 1)),(I L (A 2)),(I L (A 3)),(I L (A 4)),(I L (A 5)),(I L (A 6)),(I L (A 7)),(I L (A 8)),(I L (A 9)),(I L (A 10)),(I L (A 11)),(I L (A 12))])] [] [(.one .bool)]
 (.ite (.not (.a 0))
  (.ret false (.bool (.t false)) [])
  (.need (treeB (.add (.a 0) (.l 1)))
  (.jump 0 [(.add (.a 0) (.l 1))] [] [(.va 0)]))))))
 (.ret false (.bool (.t true)) [])))
def saleroomref36_All_S:Sx.Sys:=⟨[(.sh (.one .val))],a3Q,[a3o],none,none⟩
def a7W:List Cfg:=[{ todo:=[(.code [false,false,true,false,true]),(.inLoop [false,false,true,false,true]),(.inBlock 0),(.code [true,true])],sl:=[(.va 0),.undef,(.junk 0),(I L (A 0))]++jkR 1 12,H:=[],ni:=1,nb:=0,nv:=1,nj:=13 }]
theorem a8J:SysOk Try.prog 21 saleroomref36_All_S:=a0V (c:=(cg [[false,false,true,false,true]] [] [] false false false true)) (a0L _ _ _ _ _ _ _ _ _) Try.func21 Try.call21 (by kernel_rfl) a7W saleroomref36_All_S 5000 rfl (by kernel_rfl) (by kernel_rfl) rfl
def a8V:PT :=
 (.ret false (.bool (.eq (.a 7) (.l 0))) [])
def relcap_Clockbids_1_S:Sx.Sys:=⟨[(.sh (.agg [(D L),(D L),(D L),(D L),(D L),(D L),(D L),(D L)]))],a8V,[],none,none⟩
def a7n:List Cfg:=[]
theorem a8w:SysOk Try.prog 29 relcap_Clockbids_1_S:=a0V (c:=(cg [] [] [] false false false true)) (a0L _ _ _ _ _ _ _ _ _) Try.func29 Try.call29 (by kernel_rfl) a7n relcap_Clockbids_1_S 5000 rfl (by kernel_rfl) (by kernel_rfl) rfl
def a3L:PT :=
 (.need (.is 0 0)
 (.jump 0 [(.slen 0),(.l 0)] [] [(.va 0),(.va 1)]))
def a3C:PT :=
 (.ite (.lt (.a 1) (.a 0))
 (.need (treeI (.a 1) (.slen 0))
 (.load false (.ea 0 (.a 1) 8 0) [(D L),(D L),(D L),(D L),(D L),(D L),(D L),(D L)]
 (.callv 1 [(.agg [(I L (A 2)),(I L (A 3)),(I L (A 4)),(I L (A 5)),(I L (A 6)),(I L (A 7)),(I L (A 8)),(I L (A 9))])] [(.one .bool)]
 (.ite (.a 0)
  (.ret false (I L (A 1)) [])
  (.need (treeB (.add (.a 1) (.l 1)))
  (.jump 0 [(.a 0),(.add (.a 1) (.l 1))] [] [(.va 0),(.va 1)]))))))
 (.ret false (I L (E (-1))) []))
def slices_IndexFunc_api_Offer_api_Offer_S:Sx.Sys:=⟨[(.sh (.one .val)),(.sh (.one .val))],a3L,[a3C],none,none⟩
def a3g:List Cfg:=[{ todo:=[(.code [false,false,true,false,true]),(.inLoop [false,false,true,false,true]),(.inBlock 0),(.code [true,true])],sl:=[(.va 0),(.va 1),.undef,.undef,(.junk 0),(.junk 1),(.junk 2),(I L (A 0)),(I L (A 1))]++jkR 3 8++[.undef,(.junk 11)],H:=[],ni:=2,nb:=0,nv:=2,nj:=12 }]
theorem a3E:SysOk Try.prog 47 slices_IndexFunc_api_Offer_api_Offer_S:=a0V (c:=(cg [[false,false,true,false,true]] [] [(11,[4])] false false false true)) (a0L _ _ _ _ _ _ _ _ _) Try.func47 Try.call47 (by kernel_rfl) a3g slices_IndexFunc_api_Offer_api_Offer_S 5000 rfl (by kernel_rfl) (by kernel_rfl) rfl
end Go.Proofs.Ytggjcdnailppoaa
