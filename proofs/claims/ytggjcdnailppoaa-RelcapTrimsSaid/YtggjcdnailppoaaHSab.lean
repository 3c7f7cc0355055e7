/- The trees of this seat's functions, part 3. Written by txgen.py. -/
import Derived.Test.YtggjcdnailppoaaHTab
set_option linter.unusedSimpArgs false
set_option linter.unusedVariables false
open Go.Sx.SV renaming int → I
open Go.IntKind renaming i64 → L
open Go.Sx.IE renaming a → A, l → E
open Go.Sx.Kd renaming int → D
set_option maxRecDepth 100000
namespace Go.Proofs.Ytggjcdnailppoaa
open Go.Sx
def a3V:PT :=
 (.need (.is 0 0)
 (.need (.and (.le (.l 0) (.slen 0)) (.le (.slen 0) (.l 18446744073709551615)))
 (.call 49 [(.int .u64 (.slen 0))] [] [(.one (D L))]
 (.call 48 [(.va 0),(I L (E 0)),(.int .i64 (.slen 0)),(I L (A 0)),(.va 1)] [] []
 (.ret false (.tup []) [])))))
def slices_SortFunc_api_Offer_api_Offer_S:Sx.Sys:=⟨[(.sh (.one .val)),(.sh (.one .val))],a3V,[],none,none⟩
def a3n:List Cfg:=[]
theorem a3O:SysOk Try.prog 30 slices_SortFunc_api_Offer_api_Offer_S:=a0V (c:=(cg [] [] [] false false false true)) (a0L _ _ _ _ _ _ _ _ _) Try.func30 Try.call30 (by kernel_rfl) a3n slices_SortFunc_api_Offer_api_Offer_S 5000 rfl (by kernel_rfl) (by kernel_rfl) rfl
def a1F:PT :=
 (.need (.is 0 0)
 (.ite (.nil 0)
 (.ret false .nilS [])
 (.app none (.lit []) 8
 (.app (some 1) (.va 0) 8
 (.ret false (.va 2) [])))))
def slices_Clone_api_Offer_api_Offer_S:Sx.Sys:=⟨[(.sh (.one .val))],a1F,[],none,none⟩
def a2f:List Cfg:=[]
theorem a4v:SysOk Try.prog 38 slices_Clone_api_Offer_api_Offer_S:=a0V (c:=(cg [] [] [] false false false true)) (a0L _ _ _ _ _ _ _ _ _) Try.func38 Try.call38 (by kernel_rfl) a2f slices_Clone_api_Offer_api_Offer_S 5000 rfl (by kernel_rfl) (by kernel_rfl) rfl
def a3L:PT :=
 (.need (.is 0 0)
 (.jump 0 [(.slen 0),(.l 0)] [] [(.va 0),(.va 1)]))
def a3C:PT :=
 (.ite (.lt (.a 1) (.a 0))
 (.need (treeI (.a 1) (.slen 0))
 (.load false (.ea 0 (.a 1) 8 0) [(D L),(D L),(D L),(D L),(D L),(D L),(D L),(D L)]
 (.callv 1 [(.agg [(I L (A 2)),(I L (A 3)),(I L (A 4)),(I L (A 5)),(I L (A 6)),(I L (A 7)),(I L (A 8)),(I L (A 9))])] [(.one .bool)]
 (.ite (.a 0)
  (.ret false (I L (A 1)) [])
  (.need (treeB (.add (.a 1) (.l 1)))
  (.jump 0 [(.a 0),(.add (.a 1) (.l 1))] [] [(.va 0),(.va 1)]))))))
 (.ret false (I L (E (-1))) []))
def slices_IndexFunc_api_Offer_api_Offer_S:Sx.Sys:=⟨[(.sh (.one .val)),(.sh (.one .val))],a3L,[a3C],none,none⟩
def a3g:List Cfg:=[{ todo:=[(.code [false,false,true,false,true]),(.inLoop [false,false,true,false,true]),(.inBlock 0),(.code [true,true])],sl:=[(.va 0),(.va 1),.undef,.undef,(.junk 0),(.junk 1),(.junk 2),(I L (A 0)),(I L (A 1))]++jkR 3 8++[.undef,(.junk 11)],H:=[],ni:=2,nb:=0,nv:=2,nj:=12 }]
theorem a3E:SysOk Try.prog 47 slices_IndexFunc_api_Offer_api_Offer_S:=a0V (c:=(cg [[false,false,true,false,true]] [] [(11,[4])] false false false true)) (a0L _ _ _ _ _ _ _ _ _) Try.func47 Try.call47 (by kernel_rfl) a3g slices_IndexFunc_api_Offer_api_Offer_S 5000 rfl (by kernel_rfl) (by kernel_rfl) rfl
end Go.Proofs.Ytggjcdnailppoaa
set_option maxRecDepth 100000
namespace Go.Proofs.Ytggjcdnailppoaa
open Go.Sx
def c1Y:PT :=
 (.need (.is 0 0)
 (.ite (.lt (.l 14) (.slen 0))
 (.call 9 [] [] [(.one .bool)]
 (.ret false (.bool (.a 0)) []))
 (.need (.is 0 1)
 (.ite (.lt (.l 14) (.slen 1))
  (.call 9 [] [] [(.one .bool)]
  (.ret false (.bool (.a 0)) []))
  (.call 21 [(.va 0)] [] [(.one .bool)]
  (.ite (.not (.a 0))
  (.call 9 [] [] [(.one .bool)]
  (.ret false (.bool (.a 1)) []))
  (.call 19 [(.va 0),(.va 1)] [] [(.one .val)]
  (.call 15 [(.va 0),(.va 2)] [] [(.one (D L)),(.one (D L))]
  (.ite (.not (.eq (.a 1) (.l 0)))
   (.ret false (.bool (.t false)) [])
   (.jump 0 [(.l 0),(.l 0)] [] [(.va 0),(.va 1),(.va 2)]))))))))))
def c1X:PT :=
 (.need (.is 0 2)
 (.ite (.lt (.a 1) (.slen 2))
 (.jump 1 [(.a 0),(.a 1)] [] [(.va 0),(.va 1),(.va 2)])
 (.call 15 [(.va 0),(.va 1)] [] [(.one (D L)),(.one (D L))]
 (.ite (.not (.eq (.a 3) (.l 0)))
  (.call 9 [] [] [(.one .bool)]
  (.ret false (.bool (.a 0)) []))
  (.call 10 [(.va 2),(.va 1)] [] [(.one .bool)]
  (.ite (.a 0)
  (.call 9 [] [] [(.one .bool)]
  (.ret false (.bool (.a 1)) []))
  (.ret false (.bool (.t false)) [])))))))
def c1Z:PT :=
 (.need (.is 0 1)
 (.ite (.lt (.a 0) (.slen 1))
 (.need (treeI (.a 0) (.slen 1))
 (.need (treeI (.a 1) (.slen 2))
 (.load true (.ea 1 (.a 0) 8 0) [(D L),(D L),(D L),(D L),(D L),(D L),(D L),(D L)]
 (.load true (.ea 2 (.a 1) 8 0) [(D L),(D L),(D L),(D L),(D L),(D L),(D L),(D L)]
 (.ite (.not (.and (.eq (.a 2) (.a 10)) (.and (.eq (.a 3) (.a 11)) (.and (.eq (.a 4) (.a 12)) (.and (.eq (.a 5) (.a 13)) (.and (.eq (.a 6) (.a 14)) (.and (.eq (.a 7) (.a 15)) (.and (.eq (.a 8) (.a 16)) (.eq (.a 9) (.a 17))))))))))
  (.need (treeB (.add (.a 0) (.l 1)))
  (.jump 1 [(.add (.a 0) (.l 1)),(.a 1)] [] [(.va 0),(.va 1),(.va 2)]))
  (.need (.is 0 1)
  (.ite (.eq (.a 0) (.slen 1))
  (.ret false (.bool (.t false)) [])
  (.need (treeB (.add (.a 0) (.l 1)))
  (.need (treeB (.add (.a 1) (.l 1)))
  (.jump 0 [(.add (.a 0) (.l 1)),(.add (.a 1) (.l 1))] [] [(.va 0),(.va 1),(.va 2)]))))))))))
 (.need (.is 0 1)
 (.ite (.eq (.a 0) (.slen 1))
  (.ret false (.bool (.t false)) [])
  (.need (treeB (.add (.a 0) (.l 1)))
  (.need (treeB (.add (.a 1) (.l 1)))
  (.jump 0 [(.add (.a 0) (.l 1)),(.add (.a 1) (.l 1))] [] [(.va 0),(.va 1),(.va 2)])))))))
def saleroomlaw40_RelcapTrims_S:Sx.Sys:=⟨[(.sh (.one .val)),(.sh (.one .val))],c1Y,[c1X,c1Z],none,none⟩
def c2b:List Cfg:=[{ todo:=[(.code [false,false,true,false,true,true,true,true,true]),(.inLoop [false,false,true,false,true,true,true,true,true]),(.inBlock 0),(.code [true,true,true,true,true,true])],sl:=[(.va 0),(.va 1),.undef,.undef,(.junk 0),(.va 2),(.junk 1),(.junk 2),(I L (A 0)),(I L (A 1)),.undef,.undef]++jkR 3 13++[.undef]++jkR 16 40++udR 16,H:=[],ni:=2,nb:=0,nv:=3,nj:=56 },
 { todo:=[(.code [false,false,false,false,false,true,false,false,true,false,true,true,true,true,true]),(.inLoop [false,false,false,false,false,true,false,false,true,false,true,true,true,true,true]),(.inBlock 2),(.code [true,false,false,true,false,false,true,false,true,true,true,true,true]),(.inBlock 1),(.code [true,true,false,false,true,false,true,true,true,true,true]),(.inLoop [false,false,true,false,true,true,true,true,true]),(.inBlock 0),(.code [true,true,true,true,true,true])],sl:=[(.va 0),(.va 1),.undef,.undef,(.junk 0),(.va 2),(.junk 1),(.junk 2),(I L (A 0)),(I L (A 1)),.undef,.undef]++jkR 3 13++[.undef]++jkR 16 40++udR 16,H:=[],ni:=2,nb:=0,nv:=3,nj:=56 }]
theorem c2c:SysOk Try.prog 7 saleroomlaw40_RelcapTrims_S:=a0V (c:=(cg [[false,false,true,false,true,true,true,true,true],[false,false,false,false,false,true,false,false,true,false,true,true,true,true,true]] [] [] false false false true)) (a0L _ _ _ _ _ _ _ _ _) Try.func7 Try.call7 (by kernel_rfl) c2b saleroomlaw40_RelcapTrims_S 5000 rfl (by kernel_rfl) (by kernel_rfl) rfl
def a5B:PT :=
 (.call 26 [(.va 0)] [] [(.one .bool)]
 (.ite (.not (.a 0))
 (.ret false (.tup [(I L (E 0)),(I L (E 4))]) [])
 (.need (.is 0 1)
 (.jump 0 [(.slen 1),(.l 0)] [] [(.va 0),(.va 1)]))))
def a2O:PT :=
 (.ite (.lt (.a 1) (.a 0))
 (.need (treeI (.a 1) (.slen 1))
 (.load false (.ea 1 (.a 1) 8 0) [(D L),(D L),(D L),(D L),(D L),(D L),(D L),(D L)]
 (.call 35 [(.agg [(I L (A 2)),(I L (A 3)),(I L (A 4)),(I L (A 5)),(I L (A 6)),(I L (A 7)),(I L (A 8)),(I L (A 9))])] [] [(.one .bool)]
 (.ite (.not (.a 0))
  (.ret false (.tup [(I L (A 1)),(I L (E 4))]) [])
  (.need (treeB (.add (.a 1) (.l 1)))
  (.jump 0 [(.a 0),(.add (.a 1) (.l 1))] [] [(.va 0),(.va 1)]))))))
 (.call 37 [(.va 0),(.va 1)] [] [(.one .val)]
 (.need (.is 0 1)
 (.jump 1 [(.slen 1),(.l 0)] [] [(.va 0),(.va 2),(.va 1)]))))
def a2N:PT :=
 (.ite (.lt (.a 1) (.a 0))
 (.need (treeI (.a 1) (.slen 2))
 (.load false (.ea 2 (.a 1) 8 0) [(D L),(D L),(D L),(D L),(D L),(D L),(D L),(D L)]
 (.call 36 [(.va 0),(.va 1),(.agg [(I L (A 3)),(I L (A 4)),(I L (A 5)),(I L (A 6)),(I L (A 7)),(I L (A 8))])] [] [(.one (D L))]
 (.ite (.lt (.a 10) (.a 9))
  (.ret false (.tup [(I L (A 1)),(I L (E 16))]) [])
  (.need (treeB (.add (.a 1) (.l 1)))
  (.jump 1 [(.a 0),(.add (.a 1) (.l 1))] [] [(.va 0),(.va 1),(.va 2)]))))))
 (.ret false (.tup [(I L (E 0)),(I L (E 0))]) []))
def relcap_Check_S:Sx.Sys:=⟨[(.sh (.one .val)),(.sh (.one .val))],a5B,[a2O,a2N],none,none⟩
def b0X:List Cfg:=[{ todo:=[(.code [false,false,true,false,true,true]),(.inLoop [false,false,true,false,true,true]),(.inBlock 0),(.code [true,true,true])],sl:=[(.va 0),(.va 1),.undef,.undef]++jkR 0 4++[.undef,.undef,.undef,(.junk 4),(.junk 5),(.junk 6),(.va 1),(I L (A 0)),(I L (A 1))]++jkR 7 7++[.undef,(.junk 14)]++udR 20,H:=[],ni:=2,nb:=0,nv:=2,nj:=15 },
 { todo:=[(.code [false,false,true,false,true,true,true,true]),(.inLoop [false,false,true,false,true,true,true,true]),(.inBlock 2),(.code [true,true,true,true,true])],sl:=[(.va 0),(.junk 0),.undef,.undef]++jkR 1 4++[(.va 1)]++jkR 5 15++[.undef]++jkR 20 4++[(.va 2),(I L (A 0)),(I L (A 1))]++jkR 24 12++[.undef,(.junk 36)],H:=[],ni:=2,nb:=0,nv:=3,nj:=37 }]
theorem b2m:SysOk Try.prog 15 relcap_Check_S:=a0V (c:=(cg [[false,false,true,false,true,true],[false,false,true,false,true,true,true,true]] [] [] false false false true)) (a0L _ _ _ _ _ _ _ _ _) Try.func15 Try.call15 (by kernel_rfl) b0X relcap_Check_S 5000 rfl (by kernel_rfl) (by kernel_rfl) rfl
def a8U:PT :=
 (.call 32 [(.agg [(I L (A 1)),(I L (A 2)),(I L (A 3)),(I L (A 4)),(I L (A 5)),(I L (A 6))]),(.agg [(I L (A 9)),(I L (A 10)),(I L (A 11)),(I L (A 12)),(I L (A 13)),(I L (A 14))])] [] [(.one (D L))]
 (.ret false (I L (A 16)) []))
def relcap_Clockbids_2_S:Sx.Sys:=⟨[(.sh (.agg [(D L),(D L),(D L),(D L),(D L),(D L),(D L),(D L)])),(.sh (.agg [(D L),(D L),(D L),(D L),(D L),(D L),(D L),(D L)]))],a8U,[],none,none⟩
def a7c:List Cfg:=[]
theorem a8m:SysOk Try.prog 31 relcap_Clockbids_2_S:=a0V (c:=(cg [] [] [] false false false true)) (a0L _ _ _ _ _ _ _ _ _) Try.func31 Try.call31 (by kernel_rfl) a7c relcap_Clockbids_2_S 5000 rfl (by kernel_rfl) (by kernel_rfl) rfl
def a2s:PT :=
 (.call 17 [(.agg [(I L (A 6)),(I L (A 7)),(I L (A 8)),(I L (A 9)),(I L (A 10)),(I L (A 11))])] [] [(.one (D L))]
 (.ite (.eq (.a 12) (.l 0))
 (.call 51 [(.agg [(I L (A 0)),(I L (A 1)),(I L (A 2)),(I L (A 3)),(I L (A 4)),(I L (A 5))])] [] [(.one .bool)]
 (.ret false (.bool (.a 0)) []))
 (.ret false (.bool (.t false)) [])))
def saleroomref36_Valid_S:Sx.Sys:=⟨[(.sh (.agg [(D L),(D L),(D L),(D L),(D L),(D L),(D L),(D L),(D L),(D L),(D L),(D L)]))],a2s,[],none,none⟩
def a6C:List Cfg:=[]
theorem a7I:SysOk Try.prog 40 saleroomref36_Valid_S:=a0V (c:=(cg [] [] [] false false false true)) (a0L _ _ _ _ _ _ _ _ _) Try.func40 Try.call40 (by kernel_rfl) a6C saleroomref36_Valid_S 5000 rfl (by kernel_rfl) (by kernel_rfl) rfl
def a4I:PT :=
 (.jump 0 [(.a 0),(.a 1),(.a 2)] [] [(.va 0),(.va 1)])
def a4D:PT :=
 (.need (treeB (.sub (.a 1) (.a 0)))
 (.ite (.le (.sub (.a 1) (.a 0)) (.l 12))
 (.call 54 [(.va 0),(I L (A 0)),(I L (A 1)),(.va 1)] [] []
 (.ret false (.tup []) []))
 (.ite (.eq (.a 2) (.l 0))
  (.call 55 [(.va 0),(I L (A 0)),(I L (A 1)),(.va 1)] [] []
  (.ret false (.tup []) []))
  .stuck)))
def slices_pdqsortCmpFunc_api_Offer_S:Sx.Sys:=⟨[(.sh (.one .val)),(.sh (.one (D L))),(.sh (.one (D L))),(.sh (.one (D L))),(.sh (.one .val))],a4I,[a4D],none,none⟩
def a3Z:List Cfg:=[{ todo:=[(.code [false,false,true,true]),(.inLoop [false,false,true,true]),(.inBlock 0)],sl:=[(.va 0),(I L (A 0)),(I L (A 1)),(I L (A 2)),(.va 1)]++udR 5++[(.bool (.t true)),(.bool (.t true))]++udR 136,H:=[],ni:=3,nb:=0,nv:=2,nj:=0 }]
theorem a4A:SysOk Try.prog 48 slices_pdqsortCmpFunc_api_Offer_S:=a0V (c:=(cg [[false,false,true,true]] [] [(84,[3])] false false false true)) (a0L _ _ _ _ _ _ _ _ _) Try.func48 Try.call48 (by kernel_rfl) a3Z slices_pdqsortCmpFunc_api_Offer_S 60 rfl (by kernel_rfl) (by kernel_rfl) rfl
end Go.Proofs.Ytggjcdnailppoaa
set_option maxRecDepth 100000
namespace Go.Proofs.Ytggjcdnailppoaa
open Go.Sx
def b1I:PT :=
 (.ite (.lt (.a 0) (.a 6))
 (.ret false (I L (E (-1))) [])
 (.ite (.lt (.a 6) (.a 0))
  (.ret false (I L (E 1)) [])
  (.ite (.lt (.a 1) (.a 7))
  (.ret false (I L (E (-1))) [])
  (.ite (.lt (.a 7) (.a 1))
   (.ret false (I L (E 1)) [])
   (.ite (.lt (.a 2) (.a 8))
   (.ret false (I L (E (-1))) [])
   (.ite (.lt (.a 8) (.a 2))
    (.ret false (I L (E 1)) [])
    (.ite (.lt (.a 3) (.a 9))
    (.ret false (I L (E (-1))) [])
    (.ite (.lt (.a 9) (.a 3))
     (.ret false (I L (E 1)) [])
     (.ite (.lt (.a 4) (.a 10))
     (.ret false (I L (E (-1))) [])
     (.ite (.lt (.a 10) (.a 4))
      (.ret false (I L (E 1)) [])
      (.ite (.lt (.a 5) (.a 11))
      (.ret false (I L (E (-1))) [])
      (.ite (.lt (.a 11) (.a 5))
       (.ret false (I L (E 1)) [])
       (.ret false (I L (E 0)) [])))))))))))))
def bundle_Compare_S:Sx.Sys:=⟨[(.sh (.agg [(D L),(D L),(D L),(D L),(D L),(D L)])),(.sh (.agg [(D L),(D L),(D L),(D L),(D L),(D L)]))],b1I,[],none,none⟩
def a9E:List Cfg:=[]
theorem b0U:SysOk Try.prog 32 bundle_Compare_S:=a0V (c:=(cg [] [] [] false false false true)) (a0L _ _ _ _ _ _ _ _ _) Try.func32 Try.call32 (by kernel_rfl) a9E bundle_Compare_S 5000 rfl (by kernel_rfl) (by kernel_rfl) rfl
def b2w:PT :=
 (.call 63 [(.int .u64 (.a 0))] [] [(.one (D L))]
 (.ret false (I L (A 1)) []))
def math_bits_Len_S:Sx.Sys:=⟨[(.sh (.one (.int .u64)))],b2w,[],none,none⟩
def b0A:List Cfg:=[]
theorem b1D:SysOk Try.prog 49 math_bits_Len_S:=a0V (c:=(cg [] [] [] false false false true)) (a0L _ _ _ _ _ _ _ _ _) Try.func49 Try.call49 (by kernel_rfl) b0A math_bits_Len_S 5000 rfl (by kernel_rfl) (by kernel_rfl) rfl
end Go.Proofs.Ytggjcdnailppoaa
