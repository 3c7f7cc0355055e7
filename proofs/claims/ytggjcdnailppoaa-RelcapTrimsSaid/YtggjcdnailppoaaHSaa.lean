/- The trees of this seat's functions, part 0. Written by txgen.py. -/
import Derived.Test.YtggjcdnailppoaaHTab
set_option linter.unusedSimpArgs false
set_option linter.unusedVariables false
open Go.Sx.SV renaming int → I
open Go.IntKind renaming i64 → L
open Go.Sx.IE renaming a → A, l → E
open Go.Sx.Kd renaming int → D
set_option maxRecDepth 100000
namespace Go.Proofs.Ytggjcdnailppoaa
open Go.Sx
def a9R:PT :=
 (.call 26 [(.va 0)] [] [(.one .bool)]
 (.ite (.not (.a 0))
 (.ret false .nilS [])
 (.need (.is 0 0)
 (.jump 0 [(.slen 0),(.l 0)] [] [.nilS,(.va 0)]))))
def a9L:PT :=
 (.ite (.lt (.a 1) (.a 0))
 (.need (treeI (.a 1) (.slen 1))
 (.load false (.ea 1 (.a 1) 12 0) [(D L),(D L),(D L),(D L),(D L),(D L),(D L),(D L),(D L),(D L),(D L),(D L)]
 (.call 27 [(.agg [(I L (A 2)),(I L (A 3)),(I L (A 4)),(I L (A 5)),(I L (A 6)),(I L (A 7))]),(.agg [(I L (A 8)),(I L (A 9)),(I L (A 10)),(I L (A 11)),(I L (A 12)),(I L (A 13))])] [] [(.one (D L))]
 (.need (.is 0 0)
 (.jump 1 [(.a 14),(.a 0),(.a 1),(.slen 0),(.l 0),(.a 2),(.a 3),(.a 4),(.a 5),(.a 6),(.a 7),(.a 8),(.a 9),(.a 10),(.a 11),(.a 12),(.a 13)] [] [(.va 0),(.va 1)])))))
 (.call 28 [(.va 0),(.fn 29 0 [])] [] [(.one .val)]
 (.call 30 [(.va 2),(.fn 31 0 [])] [] []
 (.ret false (.va 2) []))))
def a9M:PT :=
 (.ite (.lt (.a 4) (.a 3))
 (.need (treeI (.a 4) (.slen 0))
 (.load false (.ea 0 (.a 4) 8 1) [(D L),(D L),(D L),(D L),(D L),(D L)]
 (.ite (.and (.eq (.a 17) (.a 11)) (.and (.eq (.a 18) (.a 12)) (.and (.eq (.a 19) (.a 13)) (.and (.eq (.a 20) (.a 14)) (.and (.eq (.a 21) (.a 15)) (.eq (.a 22) (.a 16)))))))
  (.need (treeI (.a 4) (.slen 0))
  (.load false (.ea 0 (.a 4) 8 7) [(D L)]
  (.need (treeI (.a 4) (.slen 0))
  (.storeM (.ea 0 (.a 4) 8 7) [(.int .i64 (.mx (.a 23) (.a 0)))]
  (.need (treeB (.add (.a 2) (.l 1)))
  (.jump 0 [(.a 1),(.add (.a 2) (.l 1))] [] [(.va 0),(.va 1)]))))))
  (.need (treeB (.add (.a 4) (.l 1)))
  (.jump 1 [(.a 0),(.a 1),(.a 2),(.a 3),(.add (.a 4) (.l 1)),(.a 5),(.a 6),(.a 7),(.a 8),(.a 9),(.a 10),(.a 11),(.a 12),(.a 13),(.a 14),(.a 15),(.a 16)] [] [(.va 0),(.va 1)])))))
 (.app none (.lit [[(I L (E 0)),(I L (A 11)),(I L (A 12)),(I L (A 13)),(I L (A 14)),(I L (A 15)),(I L (A 16)),(I L (A 0))]]) 8
 (.appM (.va 0) (.va 2) 8 33
 (.need (treeB (.add (.a 2) (.l 1)))
 (.jump 0 [(.a 1),(.add (.a 2) (.l 1))] [] [(.va 3),(.va 1)])))))
def relcap_Clockbids_S:Sx.Sys:=⟨[(.sh (.one .val))],a9R,[a9L,a9M],none,none⟩
def a8f:List Cfg:=[{ todo:=[(.code [false,false,true,false,true,true,true,false,true]),(.inLoop [false,false,true,false,true,true,true,false,true]),(.inBlock 0),(.code [true,true,true,true,false,true]),(.inScope [false,true])],sl:=[(.junk 0),.undef,(.junk 1),(.va 0),.undef]++jkR 2 6++[(.va 1),(I L (A 0)),(I L (A 1))]++jkR 8 41++udR 5,H:=[],ni:=2,nb:=0,nv:=2,nj:=49 },
 { todo:=[(.code [false,false,true,false,true,true,false,false,true,true,false,false,true,false,true,true,true,false,true]),(.inLoop [false,false,true,false,true,true,false,false,true,true,false,false,true,false,true,true,true,false,true]),(.inBlock 2),(.code [true,true,true,false,false,true,true,false,false,true,false,true,true,true,false,true]),(.inBlock 1),(.code [true,true,true,false,false,true,false,true,true,true,false,true]),(.inLoop [false,false,true,false,true,true,true,false,true]),(.inBlock 0),(.code [true,true,true,true,false,true]),(.inScope [false,true])],sl:=[(.junk 0),.undef,(.junk 1),(.va 0),.undef,(.ptr 0 0),(I L (A 0))]++jkR 2 4++[(.va 1),(I L (A 1)),(I L (A 2))]++jkR 6 9++[(I L (A 3)),(I L (A 4))]++jkR 15 30++udR 5,H:=[(.cells [(I L (A 5)),(I L (A 6)),(I L (A 7)),(I L (A 8)),(I L (A 9)),(I L (A 10)),(I L (A 11)),(I L (A 12)),(I L (A 13)),(I L (A 14)),(I L (A 15)),(I L (A 16))] 46 false)],ni:=17,nb:=0,nv:=2,nj:=45 }]
theorem a9O:SysOk Try.prog 11 relcap_Clockbids_S:=a0V (c:=(cg [[false,false,true,false,true,true,true,false,true],[false,false,true,false,true,true,false,false,true,true,false,false,true,false,true,true,true,false,true]] [] [] true false true true)) (a0L _ _ _ _ _ _ _ _ _) Try.func11 Try.call11 (by kernel_rfl) a8f relcap_Clockbids_S 5000 rfl (by kernel_rfl) (by kernel_rfl) rfl
def a3H:PT :=
 (.call 26 [(.va 0)] [] [(.one .bool)]
 (.ite (.not (.a 0))
 (.ret false .nilS [])
 (.call 38 [(.va 1)] [] [(.one .val)]
 (.jump 0 [] [] [(.va 0),(.va 2)]))))
def a1r:PT :=
 (.call 15 [(.va 0),(.va 1)] [] [(.one (D L)),(.one (D L))]
 (.ite (.eq (.a 1) (.l 0))
 (.ret false (.va 1) [])
 (.need (treeB (.add (.a 0) (.l 1)))
 (.call 39 [(.va 1),(I L (A 0)),(.int .i64 (.add (.a 0) (.l 1)))] [] [(.one .val)]
 (.jump 0 [] [] [(.va 0),(.va 2)])))))
def relcap_Trim_S:Sx.Sys:=⟨[(.sh (.one .val)),(.sh (.one .val))],a3H,[a1r],none,none⟩
def b1C:List Cfg:=[{ todo:=[(.code [false,false,true,true,true]),(.inLoop [false,false,true,true,true]),(.inBlock 0)],sl:=[(.va 0),(.junk 0),.undef,.undef,(.junk 1),(.va 1)]++jkR 2 15++[.undef]++jkR 17 5,H:=[],ni:=0,nb:=0,nv:=2,nj:=22 }]
theorem b3k:SysOk Try.prog 19 relcap_Trim_S:=a0V (c:=(cg [[false,false,true,true,true]] [] [] false false false true)) (a0L _ _ _ _ _ _ _ _ _) Try.func19 Try.call19 (by kernel_rfl) b1C relcap_Trim_S 5000 rfl (by kernel_rfl) (by kernel_rfl) rfl
def a6a:PT :=
 (.need (treeB (.mul (.a 0) (.a 6)))
 (.need (treeB (.mul (.a 0) (.a 6)))
 (.need (treeB (.mul (.a 1) (.a 7)))
 (.need (treeB (.add (.mul (.a 0) (.a 6)) (.mul (.a 1) (.a 7))))
 (.need (treeB (.mul (.a 2) (.a 8)))
 (.need (treeB (.add (.add (.mul (.a 0) (.a 6)) (.mul (.a 1) (.a 7))) (.mul (.a 2) (.a 8))))
 (.need (treeB (.mul (.a 3) (.a 9)))
 (.need (treeB (.add (.add (.add (.mul (.a 0) (.a 6)) (.mul (.a 1) (.a 7))) (.mul (.a 2) (.a 8))) (.mul (.a 3) (.a 9))))
 (.need (treeB (.mul (.a 4) (.a 10)))
 (.need (treeB (.add (.add (.add (.add (.mul (.a 0) (.a 6)) (.mul (.a 1) (.a 7))) (.mul (.a 2) (.a 8))) (.mul (.a 3) (.a 9))) (.mul (.a 4) (.a 10))))
 (.need (treeB (.mul (.a 5) (.a 11)))
 (.need (treeB (.add (.add (.add (.add (.add (.mul (.a 0) (.a 6)) (.mul (.a 1) (.a 7))) (.mul (.a 2) (.a 8))) (.mul (.a 3) (.a 9))) (.mul (.a 4) (.a 10))) (.mul (.a 5) (.a 11))))
 (.ret false (.int .i64 (.add (.add (.add (.add (.add (.mul (.a 0) (.a 6)) (.mul (.a 1) (.a 7))) (.mul (.a 2) (.a 8))) (.mul (.a 3) (.a 9))) (.mul (.a 4) (.a 10))) (.mul (.a 5) (.a 11)))) [])))))))))))))
def bundle_Cost_S:Sx.Sys:=⟨[(.sh (.agg [(D L),(D L),(D L),(D L),(D L),(D L)])),(.sh (.agg [(D L),(D L),(D L),(D L),(D L),(D L)]))],a6a,[],none,none⟩
def b1r:List Cfg:=[]
theorem b2Y:SysOk Try.prog 27 bundle_Cost_S:=a0V (c:=(cg [] [] [] false false false true)) (a0L _ _ _ _ _ _ _ _ _) Try.func27 Try.call27 (by kernel_rfl) b1r bundle_Cost_S 5000 rfl (by kernel_rfl) (by kernel_rfl) rfl
def a5M:PT :=
 (.call 34 [(.agg [(I L (A 1)),(I L (A 2)),(I L (A 3)),(I L (A 4)),(I L (A 5)),(I L (A 6))])] [] [(.one (D L))]
 (.ite (.eq (.a 8) (.l 0))
 (.ite (.not (.and (.eq (.a 1) (.l 0)) (.and (.eq (.a 2) (.l 0)) (.and (.eq (.a 3) (.l 0)) (.and (.eq (.a 4) (.l 0)) (.and (.eq (.a 5) (.l 0)) (.eq (.a 6) (.l 0))))))))
  (.ite (.le (.l 1) (.a 7))
  (.ret false (.bool (.le (.a 7) (.l 1000000))) [])
  (.ret false (.bool (.t false)) []))
  (.ret false (.bool (.t false)) []))
 (.ret false (.bool (.t false)) [])))
def relcap_valid_S:Sx.Sys:=⟨[(.sh (.agg [(D L),(D L),(D L),(D L),(D L),(D L),(D L),(D L)]))],a5M,[],none,none⟩
def b0Z:List Cfg:=[]
theorem b2E:SysOk Try.prog 35 relcap_valid_S:=a0V (c:=(cg [] [] [] false false false true)) (a0L _ _ _ _ _ _ _ _ _) Try.func35 Try.call35 (by kernel_rfl) b0Z relcap_valid_S 5000 rfl (by kernel_rfl) (by kernel_rfl) rfl
def a4E:PT :=
 (.need (.is 0 1)
 (.ite (.lt (.l 0) (.slen 1))
 (.need (.is 0 2)
 (.ite (.lt (.l 0) (.slen 2))
  (.ret false (.bool (.t false)) [])
  (.need (.is 0 1)
  (.ite (.lt (.l 1000) (.slen 1))
  (.ret false (.bool (.t false)) [])
  (.need (.is 0 1)
  (.jump 0 [(.slen 1),(.l 0)] [] [(.va 0),(.va 1),(.va 2)]))))))
 (.need (.is 0 1)
 (.ite (.lt (.l 1000) (.slen 1))
  (.ret false (.bool (.t false)) [])
  (.need (.is 0 1)
  (.jump 0 [(.slen 1),(.l 0)] [] [(.va 0),(.va 1),(.va 2)]))))))
def a4j:PT :=
 (.ite (.lt (.a 1) (.a 0))
 (.need (treeI (.a 1) (.slen 1))
 (.load false (.ea 1 (.a 1) 1 0) [(D L)]
 (.ite (.lt (.a 2) (.l 0))
  (.ret false (.bool (.t false)) [])
  (.need (.is 0 0)
  (.ite (.le (.slen 0) (.a 2))
  (.ret false (.bool (.t false)) [])
  (.need (treeB (.add (.a 1) (.l 1)))
  (.jump 0 [(.a 0),(.add (.a 1) (.l 1))] [] [(.va 0),(.va 1),(.va 2)])))))))
 (.need (.is 0 2)
 (.jump 1 [(.slen 2),(.l 0)] [] [(.va 2)])))
def a4e:PT :=
 (.ite (.lt (.a 1) (.a 0))
 (.need (treeI (.a 1) (.slen 0))
 (.load false (.ea 0 (.a 1) 1 0) [(D L)]
 (.ite (.lt (.a 2) (.l (-1099511627776)))
  (.ret false (.bool (.t false)) [])
  (.ite (.lt (.l 1099511627776) (.a 2))
  (.ret false (.bool (.t false)) [])
  (.need (treeB (.add (.a 1) (.l 1)))
  (.jump 1 [(.a 0),(.add (.a 1) (.l 1))] [] [(.va 0)]))))))
 (.ret false (.bool (.t true)) []))
def revealed_formed_S:Sx.Sys:=⟨[(.sh (.one .val)),(.sh (.agg [.val,.val]))],a4E,[a4j,a4e],none,none⟩
def a8S:List Cfg:=[{ todo:=[(.code [false,false,true,false,true,true]),(.inLoop [false,false,true,false,true,true]),(.inBlock 0),(.code [true,true,true])],sl:=[(.va 0),(.junk 0),.undef,(.ptr 0 0),(.junk 1),.undef,(.junk 2),.undef,.undef]++jkR 3 17++[(.va 1),(I L (A 0)),(I L (A 1))]++jkR 20 12++udR 14,H:=[(.cells [(.va 1),(.va 2)] 50 false)],ni:=2,nb:=0,nv:=3,nj:=32 },
 { todo:=[(.code [false,false,true,false,true,true,true]),(.inLoop [false,false,true,false,true,true,true]),(.inBlock 2),(.code [true,true,true,true])],sl:=[(.junk 0),(.junk 1),.undef,(.junk 2),(.junk 3),.undef,(.junk 4),.undef]++jkR 5 34++[(.va 0),(I L (A 0)),(I L (A 1))]++jkR 39 10,H:=[],ni:=2,nb:=0,nv:=1,nj:=49 }]
theorem b0v:SysOk Try.prog 44 revealed_formed_S:=a0V (c:=(cg [[false,false,true,false,true,true],[false,false,true,false,true,true,true]] [] [] false false false true)) (a0L _ _ _ _ _ _ _ _ _) Try.func44 Try.call44 (by kernel_rfl) a8S revealed_formed_S 5000 rfl (by kernel_rfl) (by kernel_rfl) rfl
def a4Q:PT :=
 (.ite (.lt (.a 0) (.l 0))
 (.ret false (.bool (.t false)) [])
 (.ite (.lt (.l 1000000) (.a 0))
  (.ret false (.bool (.t false)) [])
  (.ite (.lt (.a 1) (.l 0))
  (.ret false (.bool (.t false)) [])
  (.ite (.lt (.l 1000000) (.a 1))
   (.ret false (.bool (.t false)) [])
   (.ite (.lt (.a 2) (.l 0))
   (.ret false (.bool (.t false)) [])
   (.ite (.lt (.l 1000000) (.a 2))
    (.ret false (.bool (.t false)) [])
    (.ite (.lt (.a 3) (.l 0))
    (.ret false (.bool (.t false)) [])
    (.ite (.lt (.l 1000000) (.a 3))
     (.ret false (.bool (.t false)) [])
     (.ite (.lt (.a 4) (.l 0))
     (.ret false (.bool (.t false)) [])
     (.ite (.lt (.l 1000000) (.a 4))
      (.ret false (.bool (.t false)) [])
      (.ite (.lt (.a 5) (.l 0))
      (.ret false (.bool (.t false)) [])
      (.ite (.lt (.l 1000000) (.a 5))
       (.ret false (.bool (.t false)) [])
       (.call 34 [(.agg [(I L (A 6)),(I L (A 7)),(I L (A 8)),(I L (A 9)),(I L (A 10)),(I L (A 11))])] [] [(.one (D L))]
       (.ret false (.bool (.eq (.a 12) (.l 0))) []))))))))))))))
def revealed_valid_S:Sx.Sys:=⟨[(.sh (.agg [(D L),(D L),(D L),(D L),(D L),(D L),(D L),(D L),(D L),(D L),(D L),(D L)]))],a4Q,[],none,none⟩
def a9J:List Cfg:=[]
theorem b0Y:SysOk Try.prog 52 revealed_valid_S:=a0V (c:=(cg [] [] [] false false false true)) (a0L _ _ _ _ _ _ _ _ _) Try.func52 Try.call52 (by kernel_rfl) a9J revealed_valid_S 5000 rfl (by kernel_rfl) (by kernel_rfl) rfl
end Go.Proofs.Ytggjcdnailppoaa
set_option maxRecDepth 100000
namespace Go.Proofs.Ytggjcdnailppoaa
open Go.Sx
def a3F:PT :=
 (.call 47 [(.va 0),(.va 1)] [] [(.one (D L))]
 (.ite (.eq (.a 0) (.l (-1)))
 (.ret false (.va 0) [])
 (.need (treeB (.add (.a 0) (.l 1)))
 (.jump 0 [(.a 0),(.add (.a 0) (.l 1))] [] [(.va 0),(.va 1)]))))
def a3m:PT :=
 (.need (.is 0 0)
 (.ite (.lt (.a 1) (.slen 0))
 (.need (treeI (.a 1) (.slen 0))
 (.load false (.ea 0 (.a 1) 8 0) [(D L),(D L),(D L),(D L),(D L),(D L),(D L),(D L)]
 (.callv 1 [(.agg [(I L (A 2)),(I L (A 3)),(I L (A 4)),(I L (A 5)),(I L (A 6)),(I L (A 7)),(I L (A 8)),(I L (A 9))])] [(.one .bool)]
 (.ite (.not (.a 0))
  (.need (treeI (.a 0) (.slen 0))
  (.storeM (.ea 0 (.a 0) 8 0) [(I L (A 2)),(I L (A 3)),(I L (A 4)),(I L (A 5)),(I L (A 6)),(I L (A 7)),(I L (A 8)),(I L (A 9))]
  (.need (treeB (.add (.a 0) (.l 1)))
  (.need (treeB (.add (.a 1) (.l 1)))
  (.jump 0 [(.add (.a 0) (.l 1)),(.add (.a 1) (.l 1))] [] [(.va 0),(.va 1)])))))
  (.need (treeB (.add (.a 1) (.l 1)))
  (.jump 0 [(.a 0),(.add (.a 1) (.l 1))] [] [(.va 0),(.va 1)]))))))
 .stuck))
def slices_DeleteFunc_api_Offer_api_Offer_S:Sx.Sys:=⟨[(.sh (.one .val)),(.sh (.one .val))],a3F,[a3m],none,none⟩
def a3f:List Cfg:=[{ todo:=[(.code [false,false,true,false,true,true,true]),(.inLoop [false,false,true,false,true,true,true]),(.inBlock 0),(.code [true,true,true,true])],sl:=[(.va 0),(.va 1),.undef,.undef,(.junk 0),(I L (A 0)),(I L (A 1))]++jkR 1 6++[.undef]++jkR 7 22++udR 6,H:=[],ni:=2,nb:=0,nv:=2,nj:=29 }]
theorem a3t:SysOk Try.prog 28 slices_DeleteFunc_api_Offer_api_Offer_S:=a0V (c:=(cg [[false,false,true,false,true,true,true]] [] [(26,[4])] false false false true)) (a0L _ _ _ _ _ _ _ _ _) Try.func28 Try.call28 (by kernel_rfl) a3f slices_DeleteFunc_api_Offer_api_Offer_S 5000 rfl (by kernel_rfl) (by kernel_rfl) rfl
def a6d:PT :=
 (.need (.is 0 0)
 (.jump 0 [(.l 1000000),(.slen 0),(.l 0),(.a 0),(.a 1),(.a 2),(.a 3),(.a 4),(.a 5)] [] [(.va 1),(.va 0)]))
def a2Z:PT :=
 (.ite (.lt (.a 2) (.a 1))
 (.need (treeI (.a 2) (.slen 1))
 (.load false (.ea 1 (.a 2) 12 0) [(D L),(D L),(D L),(D L),(D L),(D L),(D L),(D L),(D L),(D L),(D L),(D L)]
 (.ite (.not (.and (.eq (.a 15) (.a 3)) (.and (.eq (.a 16) (.a 4)) (.and (.eq (.a 17) (.a 5)) (.and (.eq (.a 18) (.a 6)) (.and (.eq (.a 19) (.a 7)) (.eq (.a 20) (.a 8))))))))
  (.callv 0 [(.agg [(I L (A 15)),(I L (A 16)),(I L (A 17)),(I L (A 18)),(I L (A 19)),(I L (A 20))])] [(.one (D L))]
  (.call 27 [(.agg [(I L (A 9)),(I L (A 10)),(I L (A 11)),(I L (A 12)),(I L (A 13)),(I L (A 14))]),(.agg [(I L (A 3)),(I L (A 4)),(I L (A 5)),(I L (A 6)),(I L (A 7)),(I L (A 8))])] [] [(.one (D L))]
  (.need (treeB (.add (.a 21) (.a 22)))
  (.call 27 [(.agg [(I L (A 9)),(I L (A 10)),(I L (A 11)),(I L (A 12)),(I L (A 13)),(I L (A 14))]),(.agg [(I L (A 15)),(I L (A 16)),(I L (A 17)),(I L (A 18)),(I L (A 19)),(I L (A 20))])] [] [(.one (D L))]
  (.need (treeB (.sub (.add (.a 21) (.a 22)) (.a 23)))
  (.need (treeB (.add (.a 2) (.l 1)))
  (.jump 0 [(.mn (.a 0) (.sub (.add (.a 21) (.a 22)) (.a 23))),(.a 1),(.add (.a 2) (.l 1)),(.a 3),(.a 4),(.a 5),(.a 6),(.a 7),(.a 8)] [] [(.va 0),(.va 1)])))))))
  (.need (treeB (.add (.a 2) (.l 1)))
  (.jump 0 [(.a 0),(.a 1),(.add (.a 2) (.l 1)),(.a 3),(.a 4),(.a 5),(.a 6),(.a 7),(.a 8)] [] [(.va 0),(.va 1)])))))
 (.ret false (I L (A 0)) []))
def relcap_most_S:Sx.Sys:=⟨[(.sh (.one .val)),(.sh (.one .val)),(.sh (.agg [(D L),(D L),(D L),(D L),(D L),(D L)]))],a6d,[a2Z],none,none⟩
def b1M:List Cfg:=[{ todo:=[(.code [false,false,true,false,true,true]),(.inLoop [false,false,true,false,true,true]),(.inBlock 0),(.code [true,true,true])],sl:=[(.junk 0),(.va 0),(.junk 1),.undef,.undef,(.ptr 0 0),(.junk 2),(I L (A 0)),.undef,(.junk 3),(.va 1),(I L (A 1)),(I L (A 2))]++jkR 4 25++[.undef],H:=[(.cells [(I L (A 3)),(I L (A 4)),(I L (A 5)),(I L (A 6)),(I L (A 7)),(I L (A 8))] 29 false)],ni:=9,nb:=0,nv:=2,nj:=29 }]
theorem b3b:SysOk Try.prog 36 relcap_most_S:=a0V (c:=(cg [[false,false,true,false,true,true]] [] [(21,[2])] false false false true)) (a0L _ _ _ _ _ _ _ _ _) Try.func36 Try.call36 (by kernel_rfl) b1M relcap_most_S 5000 rfl (by kernel_rfl) (by kernel_rfl) rfl
def a3R:PT :=
 (.need (.is 0 1)
 (.need (.is 0 0)
 (.ite (.not (.eq (.slen 1) (.slen 0)))
 (.ret false (.bool (.t false)) [])
 (.need (.is 0 0)
 (.jump 0 [(.slen 0),(.l 0)] [] [(.va 0),(.va 1)])))))
def a3w:PT :=
 (.ite (.lt (.a 1) (.a 0))
 (.need (treeI (.a 1) (.slen 0))
 (.load false (.ea 0 (.a 1) 12 0) [(D L),(D L),(D L),(D L),(D L),(D L),(D L),(D L),(D L),(D L),(D L),(D L)]
 (.need (treeI (.a 1) (.slen 1))
 (.load true (.ea 1 (.a 1) 1 0) [(D L)]
 (.call 27 [(.agg [(I L (A 2)),(I L (A 3)),(I L (A 4)),(I L (A 5)),(I L (A 6)),(I L (A 7))]),(.agg [(I L (A 8)),(I L (A 9)),(I L (A 10)),(I L (A 11)),(I L (A 12)),(I L (A 13))])] [] [(.one (D L))]
 (.ite (.lt (.a 14) (.a 15))
  (.ret false (.bool (.t false)) [])
  (.ite (.and (.eq (.a 8) (.l 0)) (.and (.eq (.a 9) (.l 0)) (.and (.eq (.a 10) (.l 0)) (.and (.eq (.a 11) (.l 0)) (.and (.eq (.a 12) (.l 0)) (.eq (.a 13) (.l 0)))))))
  (.need (treeI (.a 1) (.slen 1))
  (.load true (.ea 1 (.a 1) 1 0) [(D L)]
  (.ite (.not (.eq (.a 16) (.l 0)))
   (.ret false (.bool (.t false)) [])
   (.need (.is 0 0)
   (.jump 1 [(.a 1),(.a 0),(.a 8),(.a 9),(.a 10),(.a 11),(.a 12),(.a 13),(.slen 0),(.l 0),(.a 2),(.a 3),(.a 4),(.a 5),(.a 6),(.a 7)] [(.and (.eq (.a 8) (.l 0)) (.and (.eq (.a 9) (.l 0)) (.and (.eq (.a 10) (.l 0)) (.and (.eq (.a 11) (.l 0)) (.and (.eq (.a 12) (.l 0)) (.eq (.a 13) (.l 0))))))),(.t true),(.not (.eq (.a 16) (.l 0)))] [(.va 0),(.va 1)])))))
  (.need (.is 0 0)
  (.jump 1 [(.a 1),(.a 0),(.a 8),(.a 9),(.a 10),(.a 11),(.a 12),(.a 13),(.slen 0),(.l 0),(.a 2),(.a 3),(.a 4),(.a 5),(.a 6),(.a 7)] [(.and (.eq (.a 8) (.l 0)) (.and (.eq (.a 9) (.l 0)) (.and (.eq (.a 10) (.l 0)) (.and (.eq (.a 11) (.l 0)) (.and (.eq (.a 12) (.l 0)) (.eq (.a 13) (.l 0))))))),(.t false),(.t false)] [(.va 0),(.va 1)])))))))))
 (.ret false (.bool (.t true)) []))
def a3k:PT :=
 (.ite (.lt (.a 9) (.a 8))
 (.need (treeI (.a 9) (.slen 0))
 (.load false (.ea 0 (.a 9) 12 0) [(D L),(D L),(D L),(D L),(D L),(D L),(D L),(D L),(D L),(D L),(D L),(D L)]
 (.need (treeI (.a 9) (.slen 1))
 (.need (treeI (.a 0) (.slen 1))
 (.load true (.ea 1 (.a 9) 1 0) [(D L)]
 (.load true (.ea 1 (.a 0) 1 0) [(D L)]
 (.need (treeB (.sub (.a 28) (.a 29)))
 (.call 46 [(.agg [(I L (A 10)),(I L (A 11)),(I L (A 12)),(I L (A 13)),(I L (A 14)),(I L (A 15)),(I L (A 2)),(I L (A 3)),(I L (A 4)),(I L (A 5)),(I L (A 6)),(I L (A 7))]),(.agg [(I L (A 16)),(I L (A 17)),(I L (A 18)),(I L (A 19)),(I L (A 20)),(I L (A 21)),(I L (A 22)),(I L (A 23)),(I L (A 24)),(I L (A 25)),(I L (A 26)),(I L (A 27))])] [] [(.one (D L))]
 (.ite (.lt (.a 30) (.sub (.a 28) (.a 29)))
  (.ret false (.bool (.t false)) [])
  (.need (treeB (.add (.a 9) (.l 1)))
  (.jump 1 [(.a 0),(.a 1),(.a 2),(.a 3),(.a 4),(.a 5),(.a 6),(.a 7),(.a 8),(.add (.a 9) (.l 1)),(.a 10),(.a 11),(.a 12),(.a 13),(.a 14),(.a 15)] [(.a 0),(.a 1),(.a 2)] [(.va 0),(.va 1)])))))))))))
 (.need (treeB (.add (.a 0) (.l 1)))
 (.jump 0 [(.a 1),(.add (.a 0) (.l 1))] [] [(.va 0),(.va 1)])))
def revealed_explains_S:Sx.Sys:=⟨[(.sh (.one .val)),(.sh (.one .val))],a3R,[a3w,a3k],none,none⟩
def a7S:List Cfg:=[{ todo:=[(.code [false,false,true,false,true,true]),(.inLoop [false,false,true,false,true,true]),(.inBlock 0),(.code [true,true,true])],sl:=[(.va 0),(.va 1),.undef,.undef]++jkR 0 10++[(.va 0),(I L (A 0)),(I L (A 1))]++jkR 10 49,H:=[],ni:=2,nb:=0,nv:=2,nj:=59 },
 { todo:=[(.code [false,false,true,true,true,false,false,true,true,false,false,true,false,true,true]),(.inLoop [false,false,true,true,true,false,false,true,true,false,false,true,false,true,true]),(.inBlock 2),(.inBlock 1),(.code [true,true,true,false,false,true,false,true,true]),(.inLoop [false,false,true,false,true,true]),(.inBlock 0),(.code [true,true,true])],sl:=[(.va 0),(.va 1),.undef,.undef,(.junk 0),(I L (A 0)),(.ptr 0 0)]++jkR 1 7++[(.va 0),(I L (A 1)),(I L (A 0))]++jkR 8 15++[(.ptr 0 6),(.agg [(I L (A 2)),(I L (A 3)),(I L (A 4)),(I L (A 5)),(I L (A 6)),(I L (A 7))]),(.agg [(I L (E 0)),(I L (E 0)),(I L (E 0)),(I L (E 0)),(I L (E 0)),(I L (E 0))]),(.bool (.a 0)),(.bool (.a 1))]++jkR 23 5++[(.bool (.a 2)),(.junk 28),(.va 0),(I L (A 8)),(I L (A 9))]++jkR 29 19,H:=[(.cells [(I L (A 10)),(I L (A 11)),(I L (A 12)),(I L (A 13)),(I L (A 14)),(I L (A 15)),(I L (A 2)),(I L (A 3)),(I L (A 4)),(I L (A 5)),(I L (A 6)),(I L (A 7))] 46 false)],ni:=16,nb:=3,nv:=2,nj:=48 }]
theorem a8K:SysOk Try.prog 45 revealed_explains_S:=a0V (c:=(cg [[false,false,true,false,true,true],[false,false,true,true,true,false,false,true,true,false,false,true,false,true,true]] [] [] false false false true)) (a0L _ _ _ _ _ _ _ _ _) Try.func45 Try.call45 (by kernel_rfl) a7S revealed_explains_S 5000 rfl (by kernel_rfl) (by kernel_rfl) rfl
def a4P:PT :=
 (.mkMap .i64
 (.jump 0 [(.a 0)] [] [(.va 0),(.va 1)]))
def a2x:PT :=
 (.mapGet 1 .i64 (.a 0) (.bool (.t false)) false [(.one .bool)]
 (.ite (.not (.a 0))
 (.mapSet 1 .i64 (.a 0) (.bool (.t true))
 (.need (treeI (.a 0) (.slen 0))
 (.load false (.ea 0 (.a 0) 1 0) [(D L)]
 (.jump 0 [(.a 1)] [] [(.va 0),(.va 1)]))))
 (.mapClr 1
 (.jump 1 [(.a 0)] [] [(.va 0),(.va 1),.nilS]))))
def a1V:PT :=
 (.mapGet 1 .i64 (.a 0) (.bool (.t false)) false [(.one .bool)]
 (.ite (.not (.a 0))
 (.mapSet 1 .i64 (.a 0) (.bool (.t true))
 (.app none (.lit [[(I L (A 0))]]) 1
 (.appM (.va 2) (.va 3) 1 3
 (.need (treeI (.a 0) (.slen 0))
 (.load false (.ea 0 (.a 0) 1 0) [(D L)]
 (.jump 1 [(.a 1)] [] [(.va 0),(.va 1),(.va 4)]))))))
 (.need (.is 0 2)
 (.mkM (.slen 2) [(I L (E 0))] 3 1 8
 (.need (.is 0 2)
 (.jump 2 [(.slen 2),(.l 0)] [] [(.va 2),(.va 3)]))))))
def a2y:PT :=
 (.ite (.lt (.a 1) (.a 0))
 (.need (treeI (.a 1) (.slen 0))
 (.load false (.ea 0 (.a 1) 1 0) [(D L)]
 (.need (.is 0 0)
 (.need (treeB (.sub (.slen 0) (.l 1)))
 (.need (treeB (.sub (.sub (.slen 0) (.l 1)) (.a 1)))
 (.need (treeI (.sub (.sub (.slen 0) (.l 1)) (.a 1)) (.slen 1))
 (.storeM (.ea 1 (.sub (.sub (.slen 0) (.l 1)) (.a 1)) 1 0) [(I L (A 2))]
 (.need (treeB (.add (.a 1) (.l 1)))
 (.jump 2 [(.a 0),(.add (.a 1) (.l 1))] [] [(.va 0),(.va 1)])))))))))
 (.ret false (.va 1) []))
def revealed_cycle_S:Sx.Sys:=⟨[(.sh (.one .val)),(.sh (.one (D L)))],a4P,[a2x,a1V,a2y],none,none⟩
def a9N:List Cfg:=[{ todo:=[(.code [false,false,false,true,true]),(.inLoop [false,false,false,true,true]),(.inBlock 0),(.code [true,true,true])],sl:=[(.va 0),(I L (A 0)),.undef,.undef,(.junk 0),(.va 1)]++udR 4++jkR 1 11++udR 35,H:=[],ni:=1,nb:=0,nv:=2,nj:=12 },
 { todo:=[(.code [false,false,false,true,true,true,true,true]),(.inLoop [false,false,false,true,true,true,true,true]),(.inBlock 2),(.code [true,true,true,true,true,true])],sl:=[(.va 0),(I L (A 0)),.undef,.undef,(.junk 0),(.va 1),(.va 2),.undef,.undef,.undef]++jkR 1 26++udR 20,H:=[],ni:=1,nb:=0,nv:=3,nj:=27 },
 { todo:=[(.code [false,false,true,false,true,true,true,true,true,true,true]),(.inLoop [false,false,true,false,true,true,true,true,true,true,true]),(.inBlock 4),(.code [true,true,true,true,true,true,true,true])],sl:=[(.junk 0),(.junk 1),.undef,.undef,(.junk 2),(.junk 3),(.va 0),(.va 1)]++jkR 4 31++[(.va 0),(I L (A 0)),(I L (A 1))]++jkR 35 13++[.undef],H:=[],ni:=2,nb:=0,nv:=2,nj:=48 }]
theorem b0W:SysOk Try.prog 53 revealed_cycle_S:=a0V (c:=(cg [[false,false,false,true,true],[false,false,false,true,true,true,true,true],[false,false,true,false,true,true,true,true,true,true,true]] [] [] true false true true)) (a0L _ _ _ _ _ _ _ _ _) Try.func53 Try.call53 (by kernel_rfl) a9N revealed_cycle_S 5000 rfl (by kernel_rfl) (by kernel_rfl) rfl
end Go.Proofs.Ytggjcdnailppoaa
set_option maxRecDepth 100000
namespace Go.Proofs.Ytggjcdnailppoaa
open Go.Sx
def b4e:PT :=
 (.call 26 [(.va 0)] [] [(.one .bool)]
 (.ite (.not (.a 0))
 (.ret false (I L (E 0)) [])
 (.call 34 [(.agg [(I L (A 0)),(I L (A 1)),(I L (A 2)),(I L (A 3)),(I L (A 4)),(I L (A 5))])] [] [(.one (D L))]
 (.ite (.not (.eq (.a 6) (.l 0)))
  (.ret false (I L (E 0)) [])
  (.need (.is 0 1)
  (.jump 0 [(.slen 1),(.l 0),(.a 0),(.a 1),(.a 2),(.a 3),(.a 4),(.a 5)] [] [(.va 0),.nilS,(.va 1)]))))))
def b2U:PT :=
 (.ite (.lt (.a 1) (.a 0))
 (.need (treeI (.a 1) (.slen 2))
 (.load false (.ea 2 (.a 1) 8 0) [(D L),(D L),(D L),(D L),(D L),(D L),(D L),(D L)]
 (.call 35 [(.agg [(I L (A 8)),(I L (A 9)),(I L (A 10)),(I L (A 11)),(I L (A 12)),(I L (A 13)),(I L (A 14)),(I L (A 15))])] [] [(.one .bool)]
 (.ite (.a 0)
  (.app none (.lit [[(I L (A 8)),(I L (A 9)),(I L (A 10)),(I L (A 11)),(I L (A 12)),(I L (A 13)),(I L (A 14)),(I L (A 15))]]) 8
  (.app (some 1) (.va 3) 8
  (.need (treeB (.add (.a 1) (.l 1)))
  (.jump 0 [(.a 0),(.add (.a 1) (.l 1)),(.a 2),(.a 3),(.a 4),(.a 5),(.a 6),(.a 7)] [] [(.va 0),(.va 4),(.va 2)]))))
  (.need (treeB (.add (.a 1) (.l 1)))
  (.jump 0 [(.a 0),(.add (.a 1) (.l 1)),(.a 2),(.a 3),(.a 4),(.a 5),(.a 6),(.a 7)] [] [(.va 0),(.va 1),(.va 2)]))))))
 (.call 37 [(.va 0),(.va 1)] [] [(.one .val)]
 (.call 36 [(.va 0),(.va 3),(.agg [(I L (A 2)),(I L (A 3)),(I L (A 4)),(I L (A 5)),(I L (A 6)),(I L (A 7))])] [] [(.one (D L))]
 (.ret false (I L (A 8)) []))))
def relcap_Most_S:Sx.Sys:=⟨[(.sh (.one .val)),(.sh (.one .val)),(.sh (.agg [(D L),(D L),(D L),(D L),(D L),(D L)]))],b4e,[b2U],none,none⟩
def b1R:List Cfg:=[{ todo:=[(.code [false,false,true,false,true,true,true]),(.inLoop [false,false,true,false,true,true,true]),(.inBlock 0),(.code [true,true,true,true])],sl:=[(.va 0),(.junk 0),(.junk 1),.undef,.undef,(.ptr 0 0),(.junk 2),(.va 1),.undef]++jkR 3 9++[(.va 2),(I L (A 0)),(I L (A 1))]++jkR 12 10++udR 6,H:=[(.cells [(I L (A 2)),(I L (A 3)),(I L (A 4)),(I L (A 5)),(I L (A 6)),(I L (A 7))] 29 false),(.row 1 33 8)],ni:=8,nb:=0,nv:=3,nj:=22 }]
theorem b3e:SysOk Try.prog 13 relcap_Most_S:=a0V (c:=(cg [[false,false,true,false,true,true,true]] [] [] false false false true)) (a0L _ _ _ _ _ _ _ _ _) Try.func13 Try.call13 (by kernel_rfl) b1R relcap_Most_S 5000 rfl (by kernel_rfl) (by kernel_rfl) rfl
def a3Q:PT :=
 (.jump 0 [(.l 0)] [] [(.va 0)])
def a3o:PT :=
 (.need (.is 0 0)
 (.ite (.lt (.a 0) (.slen 0))
 (.need (treeI (.a 0) (.slen 0))
 (.load false (.ea 0 (.a 0) 12 0) [(D L),(D L),(D L),(D L),(D L),(D L),(D L),(D L),(D L),(D L),(D L),(D L)]
 (.call 40 [(.agg [(I L (A 1)),(I L (A 2)),(I L (A 3)),(I L (A 4)),(I L (A 5)),(I L (A 6)),(I L (A 7)),(I L (A 8)),(I L (A 9)),(I L (A 10)),(I L (A 11)),(I L (A 12))])] [] [(.one .bool)]
 (.ite (.not (.a 0))
  (.ret false (.bool (.t false)) [])
  (.need (treeB (.add (.a 0) (.l 1)))
  (.jump 0 [(.add (.a 0) (.l 1))] [] [(.va 0)]))))))
 (.ret false (.bool (.t true)) [])))
def saleroomref36_All_S:Sx.Sys:=⟨[(.sh (.one .val))],a3Q,[a3o],none,none⟩
def a7W:List Cfg:=[{ todo:=[(.code [false,false,true,false,true]),(.inLoop [false,false,true,false,true]),(.inBlock 0),(.code [true,true])],sl:=[(.va 0),.undef,(.junk 0),(I L (A 0))]++jkR 1 12,H:=[],ni:=1,nb:=0,nv:=1,nj:=13 }]
theorem a8J:SysOk Try.prog 21 saleroomref36_All_S:=a0V (c:=(cg [[false,false,true,false,true]] [] [] false false false true)) (a0L _ _ _ _ _ _ _ _ _) Try.func21 Try.call21 (by kernel_rfl) a7W saleroomref36_All_S 5000 rfl (by kernel_rfl) (by kernel_rfl) rfl
def a8V:PT :=
 (.ret false (.bool (.eq (.a 7) (.l 0))) [])
def relcap_Clockbids_1_S:Sx.Sys:=⟨[(.sh (.agg [(D L),(D L),(D L),(D L),(D L),(D L),(D L),(D L)]))],a8V,[],none,none⟩
def a7n:List Cfg:=[]
theorem a8w:SysOk Try.prog 29 relcap_Clockbids_1_S:=a0V (c:=(cg [] [] [] false false false true)) (a0L _ _ _ _ _ _ _ _ _) Try.func29 Try.call29 (by kernel_rfl) a7n relcap_Clockbids_1_S 5000 rfl (by kernel_rfl) (by kernel_rfl) rfl
def a5j:PT :=
 (.newM [(.va 0)] 22
 (.newM [(.va 1)] 25
 (.ret false (.fn 50 0 [(.pa 2 0),(.pa 3 0)]) [])))
def relcap_finals_S:Sx.Sys:=⟨[(.sh (.one .val)),(.sh (.one .val))],a5j,[],none,none⟩
def b0k:List Cfg:=[]
theorem b1X:SysOk Try.prog 37 relcap_finals_S:=a0V (c:=(cg [] [2,3] [] true false false true)) (a0L _ _ _ _ _ _ _ _ _) Try.func37 Try.call37 (by kernel_rfl) b0k relcap_finals_S 5000 rfl (by kernel_rfl) (by kernel_rfl) rfl
def a5i:PT :=
 (.call 27 [(.agg [(I L (A 0)),(I L (A 1)),(I L (A 2)),(I L (A 3)),(I L (A 4)),(I L (A 5))]),(.agg [(I L (A 18)),(I L (A 19)),(I L (A 20)),(I L (A 21)),(I L (A 22)),(I L (A 23))])] [] [(.one (D L))]
 (.call 27 [(.agg [(I L (A 0)),(I L (A 1)),(I L (A 2)),(I L (A 3)),(I L (A 4)),(I L (A 5))]),(.agg [(I L (A 6)),(I L (A 7)),(I L (A 8)),(I L (A 9)),(I L (A 10)),(I L (A 11))])] [] [(.one (D L))]
 (.need (treeB (.sub (.a 24) (.a 25)))
 (.ret false (.int .i64 (.sub (.a 24) (.a 25))) []))))
def revealed_gain_S:Sx.Sys:=⟨[(.sh (.agg [(D L),(D L),(D L),(D L),(D L),(D L),(D L),(D L),(D L),(D L),(D L),(D L)])),(.sh (.agg [(D L),(D L),(D L),(D L),(D L),(D L),(D L),(D L),(D L),(D L),(D L),(D L)]))],a5i,[],none,none⟩
def a9Z:List Cfg:=[]
theorem b1J:SysOk Try.prog 46 revealed_gain_S:=a0V (c:=(cg [] [] [] false false false true)) (a0L _ _ _ _ _ _ _ _ _) Try.func46 Try.call46 (by kernel_rfl) a9Z revealed_gain_S 5000 rfl (by kernel_rfl) (by kernel_rfl) rfl
def a3A:PT :=
 (.need (treeB (.add (.a 0) (.l 1)))
 (.jump 0 [(.a 0),(.a 1),(.add (.a 0) (.l 1))] [] [(.va 0),(.va 1)]))
def a3y:PT :=
 (.ite (.lt (.a 2) (.a 1))
 .stuck
 (.ret false (.tup []) []))
def slices_insertionSortCmpFunc_api_Offer_S:Sx.Sys:=⟨[(.sh (.one .val)),(.sh (.one (D L))),(.sh (.one (D L))),(.sh (.one .val))],a3A,[a3y],none,none⟩
def a2W:List Cfg:=[{ todo:=[(.code [false,false,true]),(.inLoop [false,false,true]),(.inBlock 0)],sl:=[(.va 0),(I L (A 0)),(I L (A 1)),(.va 1)]++udR 4++[(I L (A 2)),.undef,(.junk 0),(.junk 1)]++udR 41,H:=[],ni:=3,nb:=0,nv:=2,nj:=2 }]
theorem a3l:SysOk Try.prog 54 slices_insertionSortCmpFunc_api_Offer_S:=a0V (c:=(cg [[false,false,true]] [] [(22,[3])] false false false true)) (a0L _ _ _ _ _ _ _ _ _) Try.func54 Try.call54 (by kernel_rfl) a2W slices_insertionSortCmpFunc_api_Offer_S 40 rfl (by kernel_rfl) (by kernel_rfl) rfl
end Go.Proofs.Ytggjcdnailppoaa
