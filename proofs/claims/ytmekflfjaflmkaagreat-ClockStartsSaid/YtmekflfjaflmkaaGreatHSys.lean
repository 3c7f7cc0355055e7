/- The trees of this seat's functions, part 0. Written by txgen.py. -/
import Derived.Test.YtmekflfjaflmkaaGreatHTxd
import Derived.Shelf.RegionOpenPlain
import Derived.WalkKit
import Derived.Deep.LoopGhost
import Derived.Deep.RegionLaw
import Derived.Lib.Walk
import Derived.Sort.WalkB12
import Derived.Lib.SliceRun
set_option linter.unusedSimpArgs false
set_option linter.unusedVariables false
open Go.Sx.PT renaming need → nD, jump → jU, load → lO, call → cA
open Prod.mk renaming injEq → Q0
open Option.some renaming injEq → Q1
open Nat renaming zero_add → Q2, le_refl → Q4
open List renaming replicate → Q3, getElem?_append_left → Q6, set_append_left → Q7, cons_append → Q8, nil_append → Q9, append_nil → Qa, take → Qb, drop → Qd, length → Qe, length_set → Qf, length_append → Qg, length_cons → Qh, length_nil → Qj, replicate_succ → Qk, flatten_cons → Qm, getElem?_set_self → Qn, append_assoc → Qp
open Bool renaming and_eq_true → Q5
set_option maxRecDepth 100000
namespace Go.Proofs.YtmekflfjaflmkaaGreat
open Go.Sx
def a7O:PT :=
 (nD (.is 0 0)
 (.cut 0 none (some (.mn (.slen 0) (.l 6))) 5
 (nD (.is 0 1)
 (jU 0 [(.slen 1),(.l 0),(.l 0),(.l 0),(.l 0),(.l 0),(.l 0),(.l 0)] [] [(.va 1)]))))
def a3Y:PT :=
 (.ite (.lt (.a 1) (.a 0))
 (nD (treeI (.a 1) (.slen 0))
 (lO false (.ea 0 (.a 1) 5 0) [.val,jD,jD,jD,jD]
 (.ite (.eq (.a 1) (.l 5))
  (jU 0 [(.a 0),(.l 6),(.a 2),(.a 3),(.a 4),(.a 5),(.a 6),(.a 9)] [] [(.va 0)])
  (.ite (.eq (.a 1) (.l 4))
  (jU 0 [(.a 0),(.l 5),(.a 2),(.a 3),(.a 4),(.a 5),(.a 9),(.a 7)] [] [(.va 0)])
  (.ite (.eq (.a 1) (.l 3))
   (jU 0 [(.a 0),(.l 4),(.a 2),(.a 3),(.a 4),(.a 9),(.a 6),(.a 7)] [] [(.va 0)])
   (.ite (.eq (.a 1) (.l 2))
   (jU 0 [(.a 0),(.l 3),(.a 2),(.a 3),(.a 9),(.a 5),(.a 6),(.a 7)] [] [(.va 0)])
   (.ite (.eq (.a 1) (.l 1))
    (jU 0 [(.a 0),(.l 2),(.a 2),(.a 9),(.a 4),(.a 5),(.a 6),(.a 7)] [] [(.va 0)])
    (.ite (.eq (.a 1) (.l 0))
    (jU 0 [(.a 0),(.l 1),(.a 9),(.a 3),(.a 4),(.a 5),(.a 6),(.a 7)] [] [(.va 0)])
    .stuck))))))))
 (.ret false (.agg [(jA 2),(jA 3),(jA 4),(jA 5),(jA 6),(jA 7)]) []))
def d9a:Sx.Sys:=⟨[(.sh (.one .val))],a7O,[a3Y],none,none⟩
def b6r:List Cfg:=[{todo:=[(.code (tfR 6 52)),(.inLoop (tfR 6 52)),(.inBlock 0),(.code [true,true,true])],sl:=[(.junk 0),.undef,(.ptr 0 0),(.ptr 1 0)]++jkR 1 6++[(.va 0),(jA 0),(jA 1)]++jkR 7 9++[.undef],H:=[(.cells [(jE 0),(jE 0),(jE 0),(jE 0),(jE 0),(jE 0)] 38 false),(.cells [(jA 2),(jA 3),(jA 4),(jA 5),(jA 6),(jA 7)] 38 false)],ni:=8,nb:=0,nv:=1,nj:=16}]
theorem b8G:SysOk Tryz.prog 19 d9a:=a0K (c:=(cg [(tfR 6 52)] [] [] false false false true)) (a0H _ _ _ _ _ _ _ _ _) Tryz.func19 Tryz.call19 (by kernel_rfl) b6r d9a 5000 rfl (by kernel_rfl) (by kernel_rfl) rfl
def a2z:PT :=
 (nD (.is 4 0)
 (.ite (.nil 0)
 (.ret true (jE 6) [])
 (.ite (.lt (.a 0) (.l 0))
  (.ret true (jE 4) [])
  (nD (.is 1 0)
  (lO false (.pa 0 8) [.val]
  (nD (.is 0 1)
  (.ite (.lt (.slen 1) (.a 0))
  (.ret true (jE 4) [])
  (nD (.is 1 0)
  (lO false (.pa 0 8) [.val]
  (nD (.is 0 2)
  (.ite (.eq (.a 0) (.slen 2))
   (nD (.is 1 0)
   (lO false (.pa 0 18) [.bool]
   (.ite (.a 0)
   (.ret true (jE 4) [])
   (cA 31 [(.va 0)] [] []
   (nD (.is 1 0)
   (lO false (.pa 0 8) [.val]
   (nD (.is 0 3)
   (.ite (.lt (.a 0) (.slen 3))
    (nD (.is 1 0)
    (lO false (.pa 0 8) [.val]
    (nD (treeI (.a 0) (.slen 4))
    (lO false (.ea 4 (.a 0) 9 0) [jD,jD,jD,jD,jD,jD]
    (nD (.is 1 0)
    (.storeM (.pa 0 9) [(jA 1),(jA 2),(jA 3),(jA 4),(jA 5),(jA 6)]
    (nD (.is 1 0)
    (lO false (.pa 0 8) [.val]
    (.cut 5 none (some (.a 0)) 9
    (cA 62 [(.va 6)] [] [(.one .val)]
    (nD (.is 1 0)
    (.storeM (.pa 0 8) [(.va 7)]
    (nD (.is 1 0)
    (.storeM (.pa 0 18) [(.bool (.t false))]
    (.ret true (jE 0) [])))))))))))))))
    (nD (.is 1 0)
    (.storeM (.pa 0 18) [(.bool (.t false))]
    (.ret true (jE 0) [])))))))))))
   (cA 31 [(.va 0)] [] []
   (nD (.is 1 0)
   (lO false (.pa 0 8) [.val]
   (nD (.is 0 3)
   (.ite (.lt (.a 0) (.slen 3))
   (nD (.is 1 0)
   (lO false (.pa 0 8) [.val]
   (nD (treeI (.a 0) (.slen 4))
   (lO false (.ea 4 (.a 0) 9 0) [jD,jD,jD,jD,jD,jD]
   (nD (.is 1 0)
   (.storeM (.pa 0 9) [(jA 1),(jA 2),(jA 3),(jA 4),(jA 5),(jA 6)]
   (nD (.is 1 0)
   (lO false (.pa 0 8) [.val]
   (.cut 5 none (some (.a 0)) 9
   (cA 62 [(.va 6)] [] [(.one .val)]
   (nD (.is 1 0)
   (.storeM (.pa 0 8) [(.va 7)]
   (nD (.is 1 0)
   (.storeM (.pa 0 18) [(.bool (.t false))]
   (.ret true (jE 0) [])))))))))))))))
   (nD (.is 1 0)
   (.storeM (.pa 0 18) [(.bool (.t false))]
   (.ret true (jE 0) [])))))))))))))))))))
def d9B:Sx.Sys:=⟨[(.sh (.one .val)),(.sh (.one jD))],a2z,[],none,none⟩
def b5g:List Cfg:=[]
theorem b7T:SysOk Tryz.prog 27 d9B:=a0K (c:=(cg [] [] [(38,[])] true true false true)) (a0H _ _ _ _ _ _ _ _ _) Tryz.func27 Tryz.call27 (by kernel_rfl) b5g d9B 5000 rfl (by kernel_rfl) (by kernel_rfl) rfl
def a6n:PT :=
 (nD (.is 0 0)
 (.ite (.eq (.slen 0) (.l 0))
 (.ret false (jE 1) [])
 (nD (.is 0 0)
 (.ite (.lt (.l 6) (.slen 0))
  (.ret false (jE 3) [])
  (jU 0 [(.l 0)] [] [(.va 0)])))))
def a3c:PT :=
 (nD (.is 0 0)
 (.ite (.lt (.a 0) (.slen 0))
 (nD (treeI (.a 0) (.slen 0))
 (lO false (.ea 0 (.a 0) 5 0) [.val]
 (cA 76 [(.va 1)] [] [(.one .bool)]
 (.ite (.not (.a 0))
  (.ret false (jE 5) [])
  (jU 1 [(.a 0),(.l 0)] [] [(.va 0)])))))
 (jU 2 [(.l 1),(.l 0)] [] [(.va 0)])))
def a2t:PT :=
 (.ite (.lt (.a 1) (.a 0))
 (nD (treeI (.a 1) (.slen 0))
 (nD (treeI (.a 0) (.slen 0))
 (lO true (.ea 0 (.a 1) 5 0) [.val]
 (lO true (.ea 0 (.a 0) 5 0) [.val]
 (nD (.is 3 1)
 (nD (.is 3 2)
 (.ite (.seq 1 2)
  (.ret false (jE 7) [])
  (nD (treeB (jP 1))
  (jU 1 [(.a 0),(jP 1)] [] [(.va 0)])))))))))
 (nD (treeI (.a 0) (.slen 0))
 (lO false (.ea 0 (.a 0) 5 0) [.val,jD,jD,jD,jD]
 (.ite (.lt (.a 2) (.l 1))
  (.ret false (jE 4) [])
  (.ite (.lt (.l 4) (.a 2))
  (.ret false (jE 4) [])
  (.ite (.lt (.a 3) (.l 0))
   (.ret false (jE 4) [])
   (.ite (.lt (.l 1000000) (.a 3))
   (.ret false (jE 4) [])
   (.ite (.lt (.a 4) (.l 0))
    (.ret false (jE 4) [])
    (.ite (.lt (.l 1000) (.a 4))
    (.ret false (jE 4) [])
    (.ite (.lt (.a 5) (.l 0))
     (.ret false (jE 4) [])
     (.ite (.lt (.l 4) (.a 5))
     (.ret false (jE 4) [])
     (nD (treeB (jP 0))
     (jU 0 [(jP 0)] [] [(.va 0)])))))))))))))
def a3g:PT :=
 (nD (.is 0 0)
 (.ite (.lt (.a 1) (.slen 0))
 (nD (treeI (.a 1) (.slen 0))
 (lO false (.ea 0 (.a 1) 5 1) [jD]
 (nD (treeB (jP 2))
 (nD (treeB (.mul (.a 0) (jP 2)))
 (nD (treeB (jP 1))
 (jU 2 [(.mul (.a 0) (jP 2)),(jP 1)] [] [(.va 0)]))))))
 (.ite (.lt (.l 1024) (.a 0))
  (.ret false (jE 12) [])
  (.ret false (jE 0) []))))
def d8R:Sx.Sys:=⟨[(.sh (.one .val))],a6n,[a3c,a2t,a3g],none,none⟩
def b3d:List Cfg:=[{todo:=[(.code (tfR 7 116)),(.inLoop (tfR 7 116)),(.inBlock 0),(.code [true,true,true,true])],sl:=[(.va 0),.undef,(.junk 0),(jA 0),(.junk 1),(.junk 2),.undef,.undef]++jkR 3 77++udR 16,H:=[],ni:=1,nb:=0,nv:=1,nj:=80},
 {todo:=[(.code (tfR 15 29844)),(.inLoop (tfR 15 29844)),(.inBlock 2),(.code (tfR 12 3731)),(.inBlock 1),(.code (tfR 9 467)),(.inLoop (tfR 7 116)),(.inBlock 0),(.code [true,true,true,true])],sl:=[(.va 0),.undef,(.junk 0),(jA 0),(jA 1),(.junk 1),.undef,.undef]++jkR 2 77++udR 16,H:=[],ni:=2,nb:=0,nv:=1,nj:=79},
 {todo:=[(.code (tfR 9 500)),(.inLoop (tfR 9 500)),(.inBlock 4),(.code (tfR 6 63))],sl:=[(.va 0),.undef]++jkR 0 4++[(jA 0),(jA 1)]++jkR 4 91++[.undef,.undef],H:=[],ni:=2,nb:=0,nv:=1,nj:=95}]
theorem b5r:SysOk Tryz.prog 43 d8R:=a0K (c:=(cg [(tfR 7 116),(tfR 15 29844),(tfR 9 500)] [] [] false false false true)) (a0H _ _ _ _ _ _ _ _ _) Tryz.func43 Tryz.call43 (by kernel_rfl) b3d d8R 5000 rfl (by kernel_rfl) (by kernel_rfl) rfl
def a4P:PT :=
 (nD (.is 0 0)
 (.mkM (.slen 0) [(jE 0),(jE 0),(jE 0),(jE 0),(jE 0),(jE 0)] 51 6 48
 (.copyM 1 0 6
 (.ret true (.va 1) []))))
def d9s:Sx.Sys:=⟨[(.sh (.one .val))],a4P,[],none,none⟩
def b0R:List Cfg:=[]
theorem b1O:SysOk Tryz.prog 51 d9s:=a0K (c:=(cg [] [] [] true true false true)) (a0H _ _ _ _ _ _ _ _ _) Tryz.func51 Tryz.call51 (by kernel_rfl) b0R d9s 5000 rfl (by kernel_rfl) (by kernel_rfl) rfl
def a5F:PT :=
 (nD (.is 1 0)
 (nD (.is 1 0)
 (lO false (.pa 0 8) [.val]
 (nD (.is 0 1)
 (nD (treeB (.sub (.slen 1) (.l 1)))
 (lO false (.pa 0 8) [.val]
 (nD (treeI (.sub (.slen 1) (.l 1)) (.slen 2))
 (lO false (.ea 2 (.sub (.slen 1) (.l 1)) 9 7) [.val]
 (cA 51 [(.va 3)] [] [(.one .val)]
 (nD (.is 1 0)
 (lO false (.pa 0 17) [.val]
 (nD (.is 0 5)
 (jU 0 [(.slen 5),(.l 0)] [] [(.va 4),(.va 5)])))))))))))))
def a2p:PT :=
 (.ite (.lt (.a 1) (.a 0))
 (nD (treeI (.a 1) (.slen 1))
 (lO false (.ea 1 (.a 1) 1 0) [.bool]
 (.ite (.a 0)
  (nD (treeI (.a 1) (.slen 0))
  (.storeM (.ea 0 (.a 1) 6 0) [(jE 0),(jE 0),(jE 0),(jE 0),(jE 0),(jE 0)]
  (nD (treeB (jP 1))
  (jU 0 [(.a 0),(jP 1)] [] [(.va 0),(.va 1)]))))
  (nD (treeB (jP 1))
  (jU 0 [(.a 0),(jP 1)] [] [(.va 0),(.va 1)])))))
 (.ret true (.va 0) []))
def d9d:Sx.Sys:=⟨[(.sh (.one .val))],a5F,[a2p],none,none⟩
def b2j:List Cfg:=[{todo:=[(.code (tfR 6 52)),(.inLoop (tfR 6 52)),(.inBlock 0),(.code [true,true,true])],sl:=[(.junk 0),.undef,(.junk 1),(.va 0)]++jkR 2 19++[(.va 1),(jA 0),(jA 1)]++jkR 21 10++[.undef],H:=[],ni:=2,nb:=0,nv:=2,nj:=31}]
theorem b3P:SysOk Tryz.prog 59 d9d:=a0K (c:=(cg [(tfR 6 52)] [] [] true true false true)) (a0H _ _ _ _ _ _ _ _ _) Tryz.func59 Tryz.call59 (by kernel_rfl) b2j d9d 5000 rfl (by kernel_rfl) (by kernel_rfl) rfl
def a1e:PT :=
 (nD (.is 0 0)
 (.ite (.nil 0)
 (.ret false .nilS [])
 (.app none (.lit []) 5
 (.app (some 1) (.va 0) 5
 (.ret false (.va 2) [])))))
def d9C:Sx.Sys:=⟨[(.sh (.one .val))],a1e,[],none,none⟩
def a6u:List Cfg:=[]
def a2S:PT :=
 (cA 121 [(.va 6)] [] [(.agg [.val,.val]),(.one .bool)]
  (.ret false (.bool (.a 0)) []))
def a4h:PT :=
 (.appF 4 (.va 5) 12
  (.both a2S a2S))
def a4e:PT :=
 (.appF 4 (.va 5) 12
  (cA 121 [(.va 6)] [] [(.agg [.val,.val]),(.one .bool)]
  (.ret false (.bool (.a 0)) [])))
def a4b:PT :=
 (.app none (.lit [[(jA 1),(jA 2),(jA 3),(jA 4),(jA 5),(jA 6),(jA 7),(jA 8),(jA 9),(jA 10),(jA 11),(jA 12)]]) 12
 (.both a4h a4e))
def a4d:PT :=
 (.app none (.lit [[(jA 1),(jA 2),(jA 3),(jA 4),(jA 5),(jA 6),(jA 7),(jA 8),(jA 9),(jA 10),(jA 11),(jA 12)]]) 12
 (.appF 4 (.va 5) 12
 (cA 121 [(.va 6)] [] [(.agg [.val,.val]),(.one .bool)]
 (.ret false (.bool (.a 0)) []))))
def a3s:PT :=
 (nD (.is 0 4)
 (nD (.is 0 4)
 (.chk 4 12
 (.both a4b a4d))))
def d9v:Sx.Sys:=⟨[(.sh (.agg [.val,.val,.val,.val,jD,.val])),(.sh (.agg [jD,jD,jD,jD,jD,jD,jD,jD,jD,jD,jD,jD]))],a3s,[],none,none⟩
def b0U:List Cfg:=[]
theorem b1x:SysOk Tryz.prog 83 d9v:=a0K (c:=(cg [] [] [] false false false true)) (a0H _ _ _ _ _ _ _ _ _) Tryz.func83 Tryz.call83 (by kernel_rfl) b0U d9v 5000 rfl (by kernel_rfl) (by kernel_rfl) rfl
def a7l:PT :=
 (jU 0 [(.l 0),(.a 0),(.a 1),(.a 2),(.a 3),(.a 4),(.a 5),(.a 6),(.a 7),(.a 8),(.a 9),(.a 10),(.a 11),(.a 12),(.a 13),(.a 14),(.a 15),(.a 16),(.a 17),(.a 18),(.a 19),(.a 20),(.a 21),(.a 22),(.a 23)] [] [])
def a0Y:PT :=
 (.ite (.lt (.a 0) (.l 6))
 (.ite (.eq (.a 0) (.l 5))
  (.ite (.lt (.a 24) (.a 18))
  (nD (treeB (.sub (.a 12) (.a 18)))
  (nD (treeB (.add (.sub (.a 12) (.a 18)) (.a 24)))
  (.ite (.lt (.add (.sub (.a 12) (.a 18)) (.a 24)) (.a 6))
   (.ret false (.bool (.t true)) [])
   (jU 0 [(.l 6),(.a 1),(.a 2),(.a 3),(.a 4),(.a 5),(.a 6),(.a 7),(.a 8),(.a 9),(.a 10),(.a 11),(.a 12),(.a 13),(.a 14),(.a 15),(.a 16),(.a 17),(.a 18),(.a 19),(.a 20),(.a 21),(.a 22),(.a 23),(.a 24)] [] []))))
  (jU 0 [(.l 6),(.a 1),(.a 2),(.a 3),(.a 4),(.a 5),(.a 6),(.a 7),(.a 8),(.a 9),(.a 10),(.a 11),(.a 12),(.a 13),(.a 14),(.a 15),(.a 16),(.a 17),(.a 18),(.a 19),(.a 20),(.a 21),(.a 22),(.a 23),(.a 24)] [] []))
  (.ite (.eq (.a 0) (.l 4))
  (.ite (.lt (.a 23) (.a 17))
   (nD (treeB (.sub (.a 11) (.a 17)))
   (nD (treeB (.add (.sub (.a 11) (.a 17)) (.a 23)))
   (.ite (.lt (.add (.sub (.a 11) (.a 17)) (.a 23)) (.a 5))
   (.ret false (.bool (.t true)) [])
   (jU 0 [(.l 5),(.a 1),(.a 2),(.a 3),(.a 4),(.a 5),(.a 6),(.a 7),(.a 8),(.a 9),(.a 10),(.a 11),(.a 12),(.a 13),(.a 14),(.a 15),(.a 16),(.a 17),(.a 18),(.a 19),(.a 20),(.a 21),(.a 22),(.a 23),(.a 24)] [] []))))
   (jU 0 [(.l 5),(.a 1),(.a 2),(.a 3),(.a 4),(.a 5),(.a 6),(.a 7),(.a 8),(.a 9),(.a 10),(.a 11),(.a 12),(.a 13),(.a 14),(.a 15),(.a 16),(.a 17),(.a 18),(.a 19),(.a 20),(.a 21),(.a 22),(.a 23),(.a 24)] [] []))
  (.ite (.eq (.a 0) (.l 3))
   (.ite (.lt (.a 22) (.a 16))
   (nD (treeB (.sub (.a 10) (.a 16)))
   (nD (treeB (.add (.sub (.a 10) (.a 16)) (.a 22)))
   (.ite (.lt (.add (.sub (.a 10) (.a 16)) (.a 22)) (.a 4))
    (.ret false (.bool (.t true)) [])
    (jU 0 [(.l 4),(.a 1),(.a 2),(.a 3),(.a 4),(.a 5),(.a 6),(.a 7),(.a 8),(.a 9),(.a 10),(.a 11),(.a 12),(.a 13),(.a 14),(.a 15),(.a 16),(.a 17),(.a 18),(.a 19),(.a 20),(.a 21),(.a 22),(.a 23),(.a 24)] [] []))))
   (jU 0 [(.l 4),(.a 1),(.a 2),(.a 3),(.a 4),(.a 5),(.a 6),(.a 7),(.a 8),(.a 9),(.a 10),(.a 11),(.a 12),(.a 13),(.a 14),(.a 15),(.a 16),(.a 17),(.a 18),(.a 19),(.a 20),(.a 21),(.a 22),(.a 23),(.a 24)] [] []))
   (.ite (.eq (.a 0) (.l 2))
   (.ite (.lt (.a 21) (.a 15))
    (nD (treeB (.sub (.a 9) (.a 15)))
    (nD (treeB (.add (.sub (.a 9) (.a 15)) (.a 21)))
    (.ite (.lt (.add (.sub (.a 9) (.a 15)) (.a 21)) (.a 3))
    (.ret false (.bool (.t true)) [])
    (jU 0 [(.l 3),(.a 1),(.a 2),(.a 3),(.a 4),(.a 5),(.a 6),(.a 7),(.a 8),(.a 9),(.a 10),(.a 11),(.a 12),(.a 13),(.a 14),(.a 15),(.a 16),(.a 17),(.a 18),(.a 19),(.a 20),(.a 21),(.a 22),(.a 23),(.a 24)] [] []))))
    (jU 0 [(.l 3),(.a 1),(.a 2),(.a 3),(.a 4),(.a 5),(.a 6),(.a 7),(.a 8),(.a 9),(.a 10),(.a 11),(.a 12),(.a 13),(.a 14),(.a 15),(.a 16),(.a 17),(.a 18),(.a 19),(.a 20),(.a 21),(.a 22),(.a 23),(.a 24)] [] []))
   (.ite (.eq (.a 0) (.l 1))
    (.ite (.lt (.a 20) (.a 14))
    (nD (treeB (.sub (.a 8) (.a 14)))
    (nD (treeB (.add (.sub (.a 8) (.a 14)) (.a 20)))
    (.ite (.lt (.add (.sub (.a 8) (.a 14)) (.a 20)) (.a 2))
     (.ret false (.bool (.t true)) [])
     (jU 0 [(.l 2),(.a 1),(.a 2),(.a 3),(.a 4),(.a 5),(.a 6),(.a 7),(.a 8),(.a 9),(.a 10),(.a 11),(.a 12),(.a 13),(.a 14),(.a 15),(.a 16),(.a 17),(.a 18),(.a 19),(.a 20),(.a 21),(.a 22),(.a 23),(.a 24)] [] []))))
    (jU 0 [(.l 2),(.a 1),(.a 2),(.a 3),(.a 4),(.a 5),(.a 6),(.a 7),(.a 8),(.a 9),(.a 10),(.a 11),(.a 12),(.a 13),(.a 14),(.a 15),(.a 16),(.a 17),(.a 18),(.a 19),(.a 20),(.a 21),(.a 22),(.a 23),(.a 24)] [] []))
    (.ite (.eq (.a 0) (.l 0))
    (.ite (.lt (.a 19) (.a 13))
     (nD (treeB (.sub (.a 7) (.a 13)))
     (nD (treeB (.add (.sub (.a 7) (.a 13)) (.a 19)))
     (.ite (.lt (.add (.sub (.a 7) (.a 13)) (.a 19)) (.a 1))
     (.ret false (.bool (.t true)) [])
     (jU 0 [(.l 1),(.a 1),(.a 2),(.a 3),(.a 4),(.a 5),(.a 6),(.a 7),(.a 8),(.a 9),(.a 10),(.a 11),(.a 12),(.a 13),(.a 14),(.a 15),(.a 16),(.a 17),(.a 18),(.a 19),(.a 20),(.a 21),(.a 22),(.a 23),(.a 24)] [] []))))
     (jU 0 [(.l 1),(.a 1),(.a 2),(.a 3),(.a 4),(.a 5),(.a 6),(.a 7),(.a 8),(.a 9),(.a 10),(.a 11),(.a 12),(.a 13),(.a 14),(.a 15),(.a 16),(.a 17),(.a 18),(.a 19),(.a 20),(.a 21),(.a 22),(.a 23),(.a 24)] [] []))
    .stuck))))))
 rF)
def d8J:Sx.Sys:=⟨[(.sh (.agg [jD,jD,jD,jD,jD,jD])),(.sh (.agg [jD,jD,jD,jD,jD,jD])),(.sh (.agg [jD,jD,jD,jD,jD,jD])),(.sh (.agg [jD,jD,jD,jD,jD,jD]))],a7l,[a0Y],none,none⟩
def b5b:List Cfg:=[{todo:=[(.code (tfR 5 20)),(.inLoop (tfR 5 20)),(.inBlock 0),(.code [true,true])],sl:=jkR 0 4++[(.ptr 0 0),(.ptr 1 0),(.ptr 2 0),(.ptr 3 0),(.junk 4),(.junk 5),(jA 0)]++jkR 6 27,H:=[(.cells [(jA 1),(jA 2),(jA 3),(jA 4),(jA 5),(jA 6)] 51 false),(.cells [(jA 7),(jA 8),(jA 9),(jA 10),(jA 11),(jA 12)] 51 false),(.cells [(jA 13),(jA 14),(jA 15),(jA 16),(jA 17),(jA 18)] 51 false),(.cells [(jA 19),(jA 20),(jA 21),(jA 22),(jA 23),(jA 24)] 51 false)],ni:=25,nb:=0,nv:=0,nj:=33}]
theorem b7W:SysOk Tryz.prog 91 d8J:=a0K (c:=(cg [(tfR 5 20)] [] [] false false false true)) (a0H _ _ _ _ _ _ _ _ _) Tryz.func91 Tryz.call91 (by kernel_rfl) b5b d8J 5000 rfl (by kernel_rfl) (by kernel_rfl) rfl
def a8K:PT :=
 (.ite (.le (.a 1) (.a 0))
 (.ret false (.bool (.le (.a 0) (.a 2))) [])
 rF)
def e0f:Sx.Sys:=⟨[(.sh (.one jD)),(.sh (.one jD)),(.sh (.one jD))],a8K,[],none,none⟩
def b7V:List Cfg:=[]
theorem b9u:SysOk Tryz.prog 99 e0f:=a0K (c:=(cg [] [] [] false false false true)) (a0H _ _ _ _ _ _ _ _ _) Tryz.func99 Tryz.call99 (by kernel_rfl) b7V e0f 5000 rfl (by kernel_rfl) (by kernel_rfl) rfl
def b0P:PT :=
 (cA 57 [(.va 0)] [] [(.agg [jD,jD,jD,jD,jD,jD])]
 (nD (.is 0 3)
 (jU 0 [(.slen 3),(.l 0),(.a 0),(.a 1),(.a 2),(.a 3),(.a 4),(.a 5),(.l 0),(.l 0),(.l 0),(.l 0),(.l 0),(.l 0)] [] [(.va 3),(.va 0),(.va 1),(.va 2)])))
def a5z:PT :=
 (.ite (.lt (.a 1) (.a 0))
 (nD (treeI (.a 1) (.slen 0))
 (lO false (.ea 0 (.a 1) 3 0) [jD,jD,jD]
 (.ite (.eq (.a 14) (.l 5))
  (nD (treeB (.sub (.a 7) (.a 16)))
  (.ite (.eq (.a 14) (.l 5))
  (nD (treeB (jP 1))
  (jU 0 [(.a 0),(jP 1),(.a 2),(.a 3),(.a 4),(.a 5),(.a 6),(.sub (.a 7) (.a 16)),(.a 8),(.a 9),(.a 10),(.a 11),(.a 12),(.a 15)] [] [(.va 0),(.va 1),(.va 2),(.va 3)]))
  (.ite (.eq (.a 14) (.l 4))
   (nD (treeB (jP 1))
   (jU 0 [(.a 0),(jP 1),(.a 2),(.a 3),(.a 4),(.a 5),(.a 6),(.sub (.a 7) (.a 16)),(.a 8),(.a 9),(.a 10),(.a 11),(.a 15),(.a 13)] [] [(.va 0),(.va 1),(.va 2),(.va 3)]))
   (.ite (.eq (.a 14) (.l 3))
   (nD (treeB (jP 1))
   (jU 0 [(.a 0),(jP 1),(.a 2),(.a 3),(.a 4),(.a 5),(.a 6),(.sub (.a 7) (.a 16)),(.a 8),(.a 9),(.a 10),(.a 15),(.a 12),(.a 13)] [] [(.va 0),(.va 1),(.va 2),(.va 3)]))
   (.ite (.eq (.a 14) (.l 2))
    (nD (treeB (jP 1))
    (jU 0 [(.a 0),(jP 1),(.a 2),(.a 3),(.a 4),(.a 5),(.a 6),(.sub (.a 7) (.a 16)),(.a 8),(.a 9),(.a 15),(.a 11),(.a 12),(.a 13)] [] [(.va 0),(.va 1),(.va 2),(.va 3)]))
    (.ite (.eq (.a 14) (.l 1))
    (nD (treeB (jP 1))
    (jU 0 [(.a 0),(jP 1),(.a 2),(.a 3),(.a 4),(.a 5),(.a 6),(.sub (.a 7) (.a 16)),(.a 8),(.a 15),(.a 10),(.a 11),(.a 12),(.a 13)] [] [(.va 0),(.va 1),(.va 2),(.va 3)]))
    (.ite (.eq (.a 14) (.l 0))
     (nD (treeB (jP 1))
     (jU 0 [(.a 0),(jP 1),(.a 2),(.a 3),(.a 4),(.a 5),(.a 6),(.sub (.a 7) (.a 16)),(.a 15),(.a 9),(.a 10),(.a 11),(.a 12),(.a 13)] [] [(.va 0),(.va 1),(.va 2),(.va 3)]))
     .stuck)))))))
  (.ite (.eq (.a 14) (.l 4))
  (nD (treeB (.sub (.a 6) (.a 16)))
  (.ite (.eq (.a 14) (.l 5))
   (nD (treeB (jP 1))
   (jU 0 [(.a 0),(jP 1),(.a 2),(.a 3),(.a 4),(.a 5),(.sub (.a 6) (.a 16)),(.a 7),(.a 8),(.a 9),(.a 10),(.a 11),(.a 12),(.a 15)] [] [(.va 0),(.va 1),(.va 2),(.va 3)]))
   (.ite (.eq (.a 14) (.l 4))
   (nD (treeB (jP 1))
   (jU 0 [(.a 0),(jP 1),(.a 2),(.a 3),(.a 4),(.a 5),(.sub (.a 6) (.a 16)),(.a 7),(.a 8),(.a 9),(.a 10),(.a 11),(.a 15),(.a 13)] [] [(.va 0),(.va 1),(.va 2),(.va 3)]))
   (.ite (.eq (.a 14) (.l 3))
    (nD (treeB (jP 1))
    (jU 0 [(.a 0),(jP 1),(.a 2),(.a 3),(.a 4),(.a 5),(.sub (.a 6) (.a 16)),(.a 7),(.a 8),(.a 9),(.a 10),(.a 15),(.a 12),(.a 13)] [] [(.va 0),(.va 1),(.va 2),(.va 3)]))
    (.ite (.eq (.a 14) (.l 2))
    (nD (treeB (jP 1))
    (jU 0 [(.a 0),(jP 1),(.a 2),(.a 3),(.a 4),(.a 5),(.sub (.a 6) (.a 16)),(.a 7),(.a 8),(.a 9),(.a 15),(.a 11),(.a 12),(.a 13)] [] [(.va 0),(.va 1),(.va 2),(.va 3)]))
    (.ite (.eq (.a 14) (.l 1))
     (nD (treeB (jP 1))
     (jU 0 [(.a 0),(jP 1),(.a 2),(.a 3),(.a 4),(.a 5),(.sub (.a 6) (.a 16)),(.a 7),(.a 8),(.a 15),(.a 10),(.a 11),(.a 12),(.a 13)] [] [(.va 0),(.va 1),(.va 2),(.va 3)]))
     (.ite (.eq (.a 14) (.l 0))
     (nD (treeB (jP 1))
     (jU 0 [(.a 0),(jP 1),(.a 2),(.a 3),(.a 4),(.a 5),(.sub (.a 6) (.a 16)),(.a 7),(.a 15),(.a 9),(.a 10),(.a 11),(.a 12),(.a 13)] [] [(.va 0),(.va 1),(.va 2),(.va 3)]))
     .stuck)))))))
  (.ite (.eq (.a 14) (.l 3))
   (nD (treeB (.sub (.a 5) (.a 16)))
   (.ite (.eq (.a 14) (.l 5))
   (nD (treeB (jP 1))
   (jU 0 [(.a 0),(jP 1),(.a 2),(.a 3),(.a 4),(.sub (.a 5) (.a 16)),(.a 6),(.a 7),(.a 8),(.a 9),(.a 10),(.a 11),(.a 12),(.a 15)] [] [(.va 0),(.va 1),(.va 2),(.va 3)]))
   (.ite (.eq (.a 14) (.l 4))
    (nD (treeB (jP 1))
    (jU 0 [(.a 0),(jP 1),(.a 2),(.a 3),(.a 4),(.sub (.a 5) (.a 16)),(.a 6),(.a 7),(.a 8),(.a 9),(.a 10),(.a 11),(.a 15),(.a 13)] [] [(.va 0),(.va 1),(.va 2),(.va 3)]))
    (.ite (.eq (.a 14) (.l 3))
    (nD (treeB (jP 1))
    (jU 0 [(.a 0),(jP 1),(.a 2),(.a 3),(.a 4),(.sub (.a 5) (.a 16)),(.a 6),(.a 7),(.a 8),(.a 9),(.a 10),(.a 15),(.a 12),(.a 13)] [] [(.va 0),(.va 1),(.va 2),(.va 3)]))
    (.ite (.eq (.a 14) (.l 2))
     (nD (treeB (jP 1))
     (jU 0 [(.a 0),(jP 1),(.a 2),(.a 3),(.a 4),(.sub (.a 5) (.a 16)),(.a 6),(.a 7),(.a 8),(.a 9),(.a 15),(.a 11),(.a 12),(.a 13)] [] [(.va 0),(.va 1),(.va 2),(.va 3)]))
     (.ite (.eq (.a 14) (.l 1))
     (nD (treeB (jP 1))
     (jU 0 [(.a 0),(jP 1),(.a 2),(.a 3),(.a 4),(.sub (.a 5) (.a 16)),(.a 6),(.a 7),(.a 8),(.a 15),(.a 10),(.a 11),(.a 12),(.a 13)] [] [(.va 0),(.va 1),(.va 2),(.va 3)]))
     (.ite (.eq (.a 14) (.l 0))
      (nD (treeB (jP 1))
      (jU 0 [(.a 0),(jP 1),(.a 2),(.a 3),(.a 4),(.sub (.a 5) (.a 16)),(.a 6),(.a 7),(.a 15),(.a 9),(.a 10),(.a 11),(.a 12),(.a 13)] [] [(.va 0),(.va 1),(.va 2),(.va 3)]))
      .stuck)))))))
   (.ite (.eq (.a 14) (.l 2))
   (nD (treeB (.sub (.a 4) (.a 16)))
   (.ite (.eq (.a 14) (.l 5))
    (nD (treeB (jP 1))
    (jU 0 [(.a 0),(jP 1),(.a 2),(.a 3),(.sub (.a 4) (.a 16)),(.a 5),(.a 6),(.a 7),(.a 8),(.a 9),(.a 10),(.a 11),(.a 12),(.a 15)] [] [(.va 0),(.va 1),(.va 2),(.va 3)]))
    (.ite (.eq (.a 14) (.l 4))
    (nD (treeB (jP 1))
    (jU 0 [(.a 0),(jP 1),(.a 2),(.a 3),(.sub (.a 4) (.a 16)),(.a 5),(.a 6),(.a 7),(.a 8),(.a 9),(.a 10),(.a 11),(.a 15),(.a 13)] [] [(.va 0),(.va 1),(.va 2),(.va 3)]))
    (.ite (.eq (.a 14) (.l 3))
     (nD (treeB (jP 1))
     (jU 0 [(.a 0),(jP 1),(.a 2),(.a 3),(.sub (.a 4) (.a 16)),(.a 5),(.a 6),(.a 7),(.a 8),(.a 9),(.a 10),(.a 15),(.a 12),(.a 13)] [] [(.va 0),(.va 1),(.va 2),(.va 3)]))
     (.ite (.eq (.a 14) (.l 2))
     (nD (treeB (jP 1))
     (jU 0 [(.a 0),(jP 1),(.a 2),(.a 3),(.sub (.a 4) (.a 16)),(.a 5),(.a 6),(.a 7),(.a 8),(.a 9),(.a 15),(.a 11),(.a 12),(.a 13)] [] [(.va 0),(.va 1),(.va 2),(.va 3)]))
     (.ite (.eq (.a 14) (.l 1))
      (nD (treeB (jP 1))
      (jU 0 [(.a 0),(jP 1),(.a 2),(.a 3),(.sub (.a 4) (.a 16)),(.a 5),(.a 6),(.a 7),(.a 8),(.a 15),(.a 10),(.a 11),(.a 12),(.a 13)] [] [(.va 0),(.va 1),(.va 2),(.va 3)]))
      (.ite (.eq (.a 14) (.l 0))
      (nD (treeB (jP 1))
      (jU 0 [(.a 0),(jP 1),(.a 2),(.a 3),(.sub (.a 4) (.a 16)),(.a 5),(.a 6),(.a 7),(.a 15),(.a 9),(.a 10),(.a 11),(.a 12),(.a 13)] [] [(.va 0),(.va 1),(.va 2),(.va 3)]))
      .stuck)))))))
   (.ite (.eq (.a 14) (.l 1))
    (nD (treeB (.sub (.a 3) (.a 16)))
    (.ite (.eq (.a 14) (.l 5))
    (nD (treeB (jP 1))
    (jU 0 [(.a 0),(jP 1),(.a 2),(.sub (.a 3) (.a 16)),(.a 4),(.a 5),(.a 6),(.a 7),(.a 8),(.a 9),(.a 10),(.a 11),(.a 12),(.a 15)] [] [(.va 0),(.va 1),(.va 2),(.va 3)]))
    (.ite (.eq (.a 14) (.l 4))
     (nD (treeB (jP 1))
     (jU 0 [(.a 0),(jP 1),(.a 2),(.sub (.a 3) (.a 16)),(.a 4),(.a 5),(.a 6),(.a 7),(.a 8),(.a 9),(.a 10),(.a 11),(.a 15),(.a 13)] [] [(.va 0),(.va 1),(.va 2),(.va 3)]))
     (.ite (.eq (.a 14) (.l 3))
     (nD (treeB (jP 1))
     (jU 0 [(.a 0),(jP 1),(.a 2),(.sub (.a 3) (.a 16)),(.a 4),(.a 5),(.a 6),(.a 7),(.a 8),(.a 9),(.a 10),(.a 15),(.a 12),(.a 13)] [] [(.va 0),(.va 1),(.va 2),(.va 3)]))
     (.ite (.eq (.a 14) (.l 2))
      (nD (treeB (jP 1))
      (jU 0 [(.a 0),(jP 1),(.a 2),(.sub (.a 3) (.a 16)),(.a 4),(.a 5),(.a 6),(.a 7),(.a 8),(.a 9),(.a 15),(.a 11),(.a 12),(.a 13)] [] [(.va 0),(.va 1),(.va 2),(.va 3)]))
      (.ite (.eq (.a 14) (.l 1))
      (nD (treeB (jP 1))
      (jU 0 [(.a 0),(jP 1),(.a 2),(.sub (.a 3) (.a 16)),(.a 4),(.a 5),(.a 6),(.a 7),(.a 8),(.a 15),(.a 10),(.a 11),(.a 12),(.a 13)] [] [(.va 0),(.va 1),(.va 2),(.va 3)]))
      (.ite (.eq (.a 14) (.l 0))
       (nD (treeB (jP 1))
       (jU 0 [(.a 0),(jP 1),(.a 2),(.sub (.a 3) (.a 16)),(.a 4),(.a 5),(.a 6),(.a 7),(.a 15),(.a 9),(.a 10),(.a 11),(.a 12),(.a 13)] [] [(.va 0),(.va 1),(.va 2),(.va 3)]))
       .stuck)))))))
    (.ite (.eq (.a 14) (.l 0))
    (nD (treeB (.sub (.a 2) (.a 16)))
    (.ite (.eq (.a 14) (.l 5))
     (nD (treeB (jP 1))
     (jU 0 [(.a 0),(jP 1),(.sub (.a 2) (.a 16)),(.a 3),(.a 4),(.a 5),(.a 6),(.a 7),(.a 8),(.a 9),(.a 10),(.a 11),(.a 12),(.a 15)] [] [(.va 0),(.va 1),(.va 2),(.va 3)]))
     (.ite (.eq (.a 14) (.l 4))
     (nD (treeB (jP 1))
     (jU 0 [(.a 0),(jP 1),(.sub (.a 2) (.a 16)),(.a 3),(.a 4),(.a 5),(.a 6),(.a 7),(.a 8),(.a 9),(.a 10),(.a 11),(.a 15),(.a 13)] [] [(.va 0),(.va 1),(.va 2),(.va 3)]))
     (.ite (.eq (.a 14) (.l 3))
      (nD (treeB (jP 1))
      (jU 0 [(.a 0),(jP 1),(.sub (.a 2) (.a 16)),(.a 3),(.a 4),(.a 5),(.a 6),(.a 7),(.a 8),(.a 9),(.a 10),(.a 15),(.a 12),(.a 13)] [] [(.va 0),(.va 1),(.va 2),(.va 3)]))
      (.ite (.eq (.a 14) (.l 2))
      (nD (treeB (jP 1))
      (jU 0 [(.a 0),(jP 1),(.sub (.a 2) (.a 16)),(.a 3),(.a 4),(.a 5),(.a 6),(.a 7),(.a 8),(.a 9),(.a 15),(.a 11),(.a 12),(.a 13)] [] [(.va 0),(.va 1),(.va 2),(.va 3)]))
      (.ite (.eq (.a 14) (.l 1))
       (nD (treeB (jP 1))
       (jU 0 [(.a 0),(jP 1),(.sub (.a 2) (.a 16)),(.a 3),(.a 4),(.a 5),(.a 6),(.a 7),(.a 8),(.a 15),(.a 10),(.a 11),(.a 12),(.a 13)] [] [(.va 0),(.va 1),(.va 2),(.va 3)]))
       (.ite (.eq (.a 14) (.l 0))
       (nD (treeB (jP 1))
       (jU 0 [(.a 0),(jP 1),(.sub (.a 2) (.a 16)),(.a 3),(.a 4),(.a 5),(.a 6),(.a 7),(.a 15),(.a 9),(.a 10),(.a 11),(.a 12),(.a 13)] [] [(.va 0),(.va 1),(.va 2),(.va 3)]))
       .stuck)))))))
    .stuck))))))))
 (.ret false (.tup [(.agg [(jA 2),(jA 3),(jA 4),(jA 5),(jA 6),(jA 7)]),(.agg [(jA 8),(jA 9),(jA 10),(jA 11),(jA 12),(jA 13)])]) []))
def d9j:Sx.Sys:=⟨[(.sh (.agg [.val,.val,.val,.val]))],b0P,[a5z],none,none⟩
def c0E:List Cfg:=[{todo:=[(.code (tfR 6 52)),(.inLoop (tfR 6 52)),(.inBlock 0),(.code [true,true,true])],sl:=[(.junk 0),(.junk 1),(.ptr 1 0),(.ptr 2 0),.undef]++jkR 2 5++[(.va 0),(jA 0),(jA 1)]++jkR 7 17++[.undef,.undef],H:=[(.cells [(.va 1),(.va 2),(.va 3),(.va 0)] 27 false),(.cells [(jA 2),(jA 3),(jA 4),(jA 5),(jA 6),(jA 7)] 51 false),(.cells [(jA 8),(jA 9),(jA 10),(jA 11),(jA 12),(jA 13)] 51 false)],ni:=14,nb:=0,nv:=4,nj:=24}]
theorem c3D:SysOk Tryz.prog 115 d9j:=a0K (c:=(cg [(tfR 6 52)] [] [] false false false true)) (a0H _ _ _ _ _ _ _ _ _) Tryz.func115 Tryz.call115 (by kernel_rfl) c0E d9j 5000 rfl (by kernel_rfl) (by kernel_rfl) rfl
def b0V:PT :=
 (cA 136 [(jA 0)] [] [(.one .bool)]
 (.ite (.not (.a 0))
 (.ret false (jE 4) [])
 (.ret false (jE 0) [])))
def e0B:Sx.Sys:=⟨[(.sh (.one jD))],b0V,[],none,none⟩
def c0G:List Cfg:=[]
theorem c3w:SysOk Tryz.prog 123 e0B:=a0K (c:=(cg [] [] [] false false false true)) (a0H _ _ _ _ _ _ _ _ _) Tryz.func123 Tryz.call123 (by kernel_rfl) c0G e0B 5000 rfl (by kernel_rfl) (by kernel_rfl) rfl
def a3Z:PT :=
 (cA 63 [(.va 0)] [] [(.one jD)]
 (.ite (.not (.eq (.a 6) (.l 0)))
 (.ret false (jE 0) [])
 (cA 85 [(.agg [(jA 0),(jA 1),(jA 2),(jA 3),(jA 4),(jA 5)])] [] [(.one jD)]
 (.ite (.not (.eq (.a 7) (.l 0)))
  (.ret false (jE 0) [])
  (nD (.is 0 0)
  (jU 0 [(.l 0),(.slen 0),(.l 0),(.a 0),(.a 1),(.a 2),(.a 3),(.a 4),(.a 5)] [] [(.va 1),(.va 0)]))))))
def a1J:PT :=
 (.ite (.lt (.a 2) (.a 1))
 (nD (treeI (.a 2) (.slen 1))
 (lO false (.ea 1 (.a 2) 5 0) [.val,jD,jD,jD,jD]
 (.ite (.eq (.a 2) (.l 5))
  (.callv 0 [(.agg [(.va 2),(jA 9),(jA 10),(jA 11),(jA 12)])] [(.one jD)]
  (nD (treeB (.mul (.a 8) (.a 13)))
  (nD (treeB (.add (.a 0) (.mul (.a 8) (.a 13))))
  (jU 0 [(.add (.a 0) (.mul (.a 8) (.a 13))),(.a 1),(.l 6),(.a 3),(.a 4),(.a 5),(.a 6),(.a 7),(.a 8)] [] [(.va 0),(.va 1)]))))
  (.ite (.eq (.a 2) (.l 4))
  (.callv 0 [(.agg [(.va 2),(jA 9),(jA 10),(jA 11),(jA 12)])] [(.one jD)]
  (nD (treeB (.mul (.a 7) (.a 13)))
  (nD (treeB (.add (.a 0) (.mul (.a 7) (.a 13))))
  (jU 0 [(.add (.a 0) (.mul (.a 7) (.a 13))),(.a 1),(.l 5),(.a 3),(.a 4),(.a 5),(.a 6),(.a 7),(.a 8)] [] [(.va 0),(.va 1)]))))
  (.ite (.eq (.a 2) (.l 3))
   (.callv 0 [(.agg [(.va 2),(jA 9),(jA 10),(jA 11),(jA 12)])] [(.one jD)]
   (nD (treeB (.mul (.a 6) (.a 13)))
   (nD (treeB (.add (.a 0) (.mul (.a 6) (.a 13))))
   (jU 0 [(.add (.a 0) (.mul (.a 6) (.a 13))),(.a 1),(.l 4),(.a 3),(.a 4),(.a 5),(.a 6),(.a 7),(.a 8)] [] [(.va 0),(.va 1)]))))
   (.ite (.eq (.a 2) (.l 2))
   (.callv 0 [(.agg [(.va 2),(jA 9),(jA 10),(jA 11),(jA 12)])] [(.one jD)]
   (nD (treeB (.mul (.a 5) (.a 13)))
   (nD (treeB (.add (.a 0) (.mul (.a 5) (.a 13))))
   (jU 0 [(.add (.a 0) (.mul (.a 5) (.a 13))),(.a 1),(.l 3),(.a 3),(.a 4),(.a 5),(.a 6),(.a 7),(.a 8)] [] [(.va 0),(.va 1)]))))
   (.ite (.eq (.a 2) (.l 1))
    (.callv 0 [(.agg [(.va 2),(jA 9),(jA 10),(jA 11),(jA 12)])] [(.one jD)]
    (nD (treeB (.mul (.a 4) (.a 13)))
    (nD (treeB (.add (.a 0) (.mul (.a 4) (.a 13))))
    (jU 0 [(.add (.a 0) (.mul (.a 4) (.a 13))),(.a 1),(.l 2),(.a 3),(.a 4),(.a 5),(.a 6),(.a 7),(.a 8)] [] [(.va 0),(.va 1)]))))
    (.ite (.eq (.a 2) (.l 0))
    (.callv 0 [(.agg [(.va 2),(jA 9),(jA 10),(jA 11),(jA 12)])] [(.one jD)]
    (nD (treeB (.mul (.a 3) (.a 13)))
    (nD (treeB (.add (.a 0) (.mul (.a 3) (.a 13))))
    (jU 0 [(.add (.a 0) (.mul (.a 3) (.a 13))),(.a 1),(.l 1),(.a 3),(.a 4),(.a 5),(.a 6),(.a 7),(.a 8)] [] [(.va 0),(.va 1)]))))
    .stuck))))))))
 (.ret false (jA 0) []))
def d8Y:Sx.Sys:=⟨[(.sh (.agg [.val,jD,jD,jD,jD,jD,jD])),(.sh (.one .val))],a3Z,[a1J],none,none⟩
def b5y:List Cfg:=[{todo:=[(.code (tfR 7 116)),(.inLoop (tfR 7 116)),(.inBlock 0),(.code [true,true,true,true])],sl:=[(.junk 0),(.va 0),(.ptr 0 0),.undef,(.junk 1),(jA 0)]++jkR 2 13++[(.va 1),(jA 1),(jA 2)]++jkR 15 15++[.undef],H:=[(.cells [(.va 1),(jA 3),(jA 4),(jA 5),(jA 6),(jA 7),(jA 8)] 173 false)],ni:=9,nb:=0,nv:=2,nj:=30}]
theorem b6X:SysOk Tryz.prog 131 d8Y:=a0K (c:=(cg [(tfR 7 116)] [] [(31,[2])] false false false true)) (a0H _ _ _ _ _ _ _ _ _) Tryz.func131 Tryz.call131 (by kernel_rfl) b5y d8Y 5000 rfl (by kernel_rfl) (by kernel_rfl) rfl
def a9B:PT :=
 (.ite (.lt (.a 0) (.l 0))
 rF
 (.ite (.lt (.l 1000000) (.a 0))
  rF
  (.ite (.lt (.a 1) (.l 0))
  rF
  (.ite (.lt (.l 1000000) (.a 1))
   rF
   (.ite (.lt (.a 2) (.l 0))
   rF
   (.ite (.lt (.l 1000000) (.a 2))
    rF
    (.ite (.lt (.a 3) (.l 0))
    rF
    (.ite (.lt (.l 1000000) (.a 3))
     rF
     (.ite (.lt (.a 4) (.l 0))
     rF
     (.ite (.lt (.l 1000000) (.a 4))
      rF
      (.ite (.lt (.a 5) (.l 0))
      rF
      (.ite (.lt (.l 1000000) (.a 5))
       rF
       (cA 85 [(.agg [(jA 6),(jA 7),(jA 8),(jA 9),(jA 10),(jA 11)])] [] [(.one jD)]
       (.ret false (.bool (.eq (.a 12) (.l 0))) []))))))))))))))
def e0m:Sx.Sys:=⟨[(.sh (.agg [jD,jD,jD,jD,jD,jD,jD,jD,jD,jD,jD,jD]))],a9B,[],none,none⟩
def b8A:List Cfg:=[]
theorem c0J:SysOk Tryz.prog 139 e0m:=a0K (c:=(cg [] [] [] false false false true)) (a0H _ _ _ _ _ _ _ _ _) Tryz.func139 Tryz.call139 (by kernel_rfl) b8A e0m 5000 rfl (by kernel_rfl) (by kernel_rfl) rfl
def a2n:PT :=
 (.ite (.eq (.a 0) (.l 0))
 (cA 24 [(.va 0),(jA 1),(.agg [(jA 3),(jA 4),(jA 5),(jA 6),(jA 7),(jA 8)])] [] [(.one jD)]
 (.ret true (.tup [(.bool (.t false)),(jA 9)]) []))
 (.ite (.eq (.a 0) (.l 1))
  (cA 25 [(.va 0)] [] [(.one .bool),(.one jD)]
  (.ret true (.tup [(.bool (.a 0)),(jA 9)]) []))
  (.ite (.eq (.a 0) (.l 2))
  (cA 36 [(.va 0)] [] [(.one jD)]
  (.ret true (.tup [(.bool (.t false)),(jA 9)]) []))
  (.ite (.eq (.a 0) (.l 3))
   (cA 37 [(.va 0),(jA 1)] [] [(.one jD)]
   (.ret true (.tup [(.bool (.t false)),(jA 9)]) []))
   (cA 27 [(.va 0),(jA 2)] [] [(.one jD)]
   (.ret true (.tup [(.bool (.t false)),(jA 9)]) []))))))
def e0d:Sx.Sys:=⟨[(.sh (.one .val)),(.sh (.agg [jD,jD,jD,jD,jD,jD,jD,jD,jD]))],a2n,[],none,none⟩
def b5G:List Cfg:=[]
theorem b8R:SysOk Tryz.prog 12 e0d:=a0K (c:=(cg [] [] [] true true false true)) (a0H _ _ _ _ _ _ _ _ _) Tryz.func12 Tryz.call12 (by kernel_rfl) b5G e0d 5000 rfl (by kernel_rfl) (by kernel_rfl) rfl
def a6F:PT :=
 (nD (.is 4 0)
 (.ite (.nil 0)
 (.ret true .nilS [])
 (nD (.is 1 0)
 (lO false (.pa 0 8) [.val]
 (cA 45 [(.va 1),(.fn 46 0 [])] [] [(.one .val)]
 (.ret true (.va 2) []))))))
def d9U:Sx.Sys:=⟨[(.sh (.one .val))],a6F,[],none,none⟩
def b4h:List Cfg:=[]
theorem b6u:SysOk Tryz.prog 20 d9U:=a0K (c:=(cg [] [] [] true true false true)) (a0H _ _ _ _ _ _ _ _ _) Tryz.func20 Tryz.call20 (by kernel_rfl) b4h d9U 5000 rfl (by kernel_rfl) (by kernel_rfl) rfl
def b1K:PT :=
 (cA 63 [(.va 0)] [] [(.one jD)]
 (.ite (.not (.eq (.a 0) (.l 0)))
 (.ret false (jA 0) [])
 (cA 64 [(.va 1)] [] [(.one jD)]
 (.ite (.not (.eq (.a 1) (.l 0)))
  (.ret false (jA 1) [])
  (cA 65 [(.agg [(.va 0),(.va 1),(.va 2),(.va 3)])] [] [(.one jD)]
  (.ite (.not (.eq (.a 2) (.l 0)))
  (.ret false (jA 2) [])
  (cA 66 [(.agg [(.va 0),(.va 1),(.va 2),(.va 3)])] [] [(.one jD)]
  (.ret false (jA 3) []))))))))
def e0H:Sx.Sys:=⟨[(.sh (.agg [.val,.val,.val,.val]))],b1K,[],none,none⟩
def c1S:List Cfg:=[]
theorem c3P:SysOk Tryz.prog 28 e0H:=a0K (c:=(cg [] [] [] false false false true)) (a0H _ _ _ _ _ _ _ _ _) Tryz.func28 Tryz.call28 (by kernel_rfl) c1S e0H 5000 rfl (by kernel_rfl) (by kernel_rfl) rfl
def a5w:PT :=
 (nD (.is 4 0)
 (.ite (.nil 0)
 (.ret true (jE 6) [])
 (nD (.is 1 0)
 (lO false (.pa 0 18) [.bool]
 (.ite (.a 0)
  (.ret true (jE 10) [])
  (cA 31 [(.va 0)] [] []
  (nD (.is 1 0)
  (.storeM (.pa 0 18) [(.bool (.t true))]
  (.ret true (jE 0) [])))))))))
def d9J:Sx.Sys:=⟨[(.sh (.one .val))],a5w,[],none,none⟩
def b6t:List Cfg:=[]
theorem b8x:SysOk Tryz.prog 36 d9J:=a0K (c:=(cg [] [] [] true true false true)) (a0H _ _ _ _ _ _ _ _ _) Tryz.func36 Tryz.call36 (by kernel_rfl) b6t d9J 5000 rfl (by kernel_rfl) (by kernel_rfl) rfl
def a6g:PT :=
 (nD (.is 0 0)
 (.ite (.eq (.slen 0) (.l 0))
 (.ret false (jE 1) [])
 (nD (.is 0 0)
 (.ite (.lt (.l 8) (.slen 0))
  (.ret false (jE 3) [])
  (jU 0 [(.l 0)] [] [(.va 0)])))))
def a3f:PT :=
 (nD (.is 0 0)
 (.ite (.lt (.a 0) (.slen 0))
 (nD (treeI (.a 0) (.slen 0))
 (lO false (.ea 0 (.a 0) 4 0) [.val]
 (cA 77 [(.va 1)] [] [(.one .bool)]
 (.ite (.not (.a 0))
  (.ret false (jE 5) [])
  (nD (treeI (.a 0) (.slen 0))
  (lO false (.ea 0 (.a 0) 4 0) [.val]
  (cA 78 [(.va 0),(.va 2)] [] [(.one jD),(.one .bool)]
  (.ite (.not (.eq (.a 1) (.a 0)))
  (.ret false (jE 7) [])
  (nD (treeI (.a 0) (.slen 0))
  (lO false (.ea 0 (.a 0) 4 1) [jD]
  (.ite (.lt (.a 2) (.l 0))
   (.ret false (jE 4) [])
   (nD (treeI (.a 0) (.slen 0))
   (lO false (.ea 0 (.a 0) 4 1) [jD]
   (.ite (.lt (.l 4) (.a 3))
   (.ret false (jE 4) [])
   (nD (treeI (.a 0) (.slen 0))
   (lO false (.ea 0 (.a 0) 4 2) [jD]
   (.ite (.lt (.a 4) (.l 0))
    (.ret false (jE 4) [])
    (nD (treeI (.a 0) (.slen 0))
    (lO false (.ea 0 (.a 0) 4 2) [jD]
    (.ite (.lt (.l 1000000) (.a 5))
    (.ret false (jE 4) [])
    (nD (treeI (.a 0) (.slen 0))
    (lO false (.ea 0 (.a 0) 4 3) [jD]
    (.ite (.lt (.a 6) (.l 0))
     (.ret false (jE 4) [])
     (nD (treeI (.a 0) (.slen 0))
     (lO false (.ea 0 (.a 0) 4 3) [jD]
     (.ite (.lt (.l 24000) (.a 7))
     (.ret false (jE 4) [])
     (nD (treeB (jP 0))
     (jU 0 [(jP 0)] [] [(.va 0)]))))))))))))))))))))))))))))
 (.ret false (jE 0) [])))
def d9i:Sx.Sys:=⟨[(.sh (.one .val))],a6g,[a3f],none,none⟩
def b3A:List Cfg:=[{todo:=[(.code (tfR 7 116)),(.inLoop (tfR 7 116)),(.inBlock 0),(.code [true,true,true,true])],sl:=[(.va 0),.undef,(.junk 0),(jA 0)]++jkR 1 80,H:=[],ni:=1,nb:=0,nv:=1,nj:=81}]
theorem b4T:SysOk Tryz.prog 44 d9i:=a0K (c:=(cg [(tfR 7 116)] [] [] false false false true)) (a0H _ _ _ _ _ _ _ _ _) Tryz.func44 Tryz.call44 (by kernel_rfl) b3A d9i 5000 rfl (by kernel_rfl) (by kernel_rfl) rfl
def a7h:PT :=
 (nD (.is 0 0)
 (.mkM (.slen 0) [(.bool (.t false))] 4 1 1
 (.copyM 1 0 1
 (.ret true (.va 1) []))))
def d9W:Sx.Sys:=⟨[(.sh (.one .val))],a7h,[],none,none⟩
def b4L:List Cfg:=[]
theorem b7X:SysOk Tryz.prog 52 d9W:=a0K (c:=(cg [] [] [] true true false true)) (a0H _ _ _ _ _ _ _ _ _) Tryz.func52 Tryz.call52 (by kernel_rfl) b4L d9W 5000 rfl (by kernel_rfl) (by kernel_rfl) rfl
def b0Q:PT :=
 (cA 94 [(.va 0)] [] [(.agg [jD,jD,jD,jD,jD,jD])]
 (cA 93 [(.agg [(jA 6),(jA 7),(jA 8),(jA 9),(jA 10),(jA 11)]),(.agg [(jA 0),(jA 1),(jA 2),(jA 3),(jA 4),(jA 5)])] [] [(.agg [jD,jD,jD,jD,jD,jD])]
 (.ret false (.agg [(jA 12),(jA 13),(jA 14),(jA 15),(jA 16),(jA 17)]) [])))
def e0A:Sx.Sys:=⟨[(.sh (.agg [jD,jD,jD,jD,jD,jD])),(.sh (.one .val))],b0Q,[],none,none⟩
def c0B:List Cfg:=[]
theorem c2A:SysOk Tryz.prog 60 e0A:=a0K (c:=(cg [] [] [] true false false true)) (a0H _ _ _ _ _ _ _ _ _) Tryz.func60 Tryz.call60 (by kernel_rfl) c0B e0A 5000 rfl (by kernel_rfl) (by kernel_rfl) rfl
def a1k:PT :=
 (nD (.is 0 0)
 (.ite (.nil 0)
 (.ret false .nilS [])
 (.app none (.lit []) 4
 (.app (some 1) (.va 0) 4
 (.ret false (.va 2) [])))))
def d9H:Sx.Sys:=⟨[(.sh (.one .val))],a1k,[],none,none⟩
def a7a:List Cfg:=[]
def a5G:PT :=
 (nD (.is 3 0)
 (.ite (.lt (.stl 0) (.l 1))
 rF
 (nD (.is 3 0)
 (.ite (.lt (.l 12) (.stl 0))
  rF
  (jU 0 [(.l 0)] [] [(.va 0)])))))
def a2U:PT :=
 (nD (.is 3 0)
 (.ite (.lt (.a 0) (.stl 0))
 (nD (.is 3 0)
 (nD (treeI (.a 0) (.stl 0))
 (.ite (.le (.l 97) (.sat 0 (.a 0)))
  (nD (.is 3 0)
  (nD (treeI (.a 0) (.stl 0))
  (.ite (.not (.le (.sat 0 (.a 0)) (.l 122)))
  (.ite (.eq (.a 0) (.l 0))
   rF
   (nD (.is 3 0)
   (nD (treeI (.a 0) (.stl 0))
   (.ite (.not (.eq (.sat 0 (.a 0)) (.l 95)))
   (nD (.is 3 0)
   (nD (treeI (.a 0) (.stl 0))
   (.ite (.lt (.sat 0 (.a 0)) (.l 48))
    rF
    (nD (.is 3 0)
    (nD (treeI (.a 0) (.stl 0))
    (.ite (.lt (.l 57) (.sat 0 (.a 0)))
    rF
    (nD (treeB (jP 0))
    (jU 0 [(jP 0)] [] [(.va 0)]))))))))
   (nD (treeB (jP 0))
   (jU 0 [(jP 0)] [] [(.va 0)]))))))
  (nD (treeB (jP 0))
  (jU 0 [(jP 0)] [] [(.va 0)])))))
  (.ite (.eq (.a 0) (.l 0))
  rF
  (nD (.is 3 0)
  (nD (treeI (.a 0) (.stl 0))
  (.ite (.not (.eq (.sat 0 (.a 0)) (.l 95)))
   (nD (.is 3 0)
   (nD (treeI (.a 0) (.stl 0))
   (.ite (.lt (.sat 0 (.a 0)) (.l 48))
   rF
   (nD (.is 3 0)
   (nD (treeI (.a 0) (.stl 0))
   (.ite (.lt (.l 57) (.sat 0 (.a 0)))
    rF
    (nD (treeB (jP 0))
    (jU 0 [(jP 0)] [] [(.va 0)]))))))))
   (nD (treeB (jP 0))
   (jU 0 [(jP 0)] [] [(.va 0)])))))))))
 (.ret false (.bool (.t true)) [])))
def d9e:Sx.Sys:=⟨[(.sh (.one .val))],a5G,[a2U],none,none⟩
def b2q:List Cfg:=[{todo:=[(.code (tfR 6 52)),(.inLoop (tfR 6 52)),(.inBlock 0),(.code [true,true,true])],sl:=[(.va 0),.undef,(.junk 0),(jA 0)]++jkR 1 49,H:=[],ni:=1,nb:=0,nv:=1,nj:=50}]
theorem b3M:SysOk Tryz.prog 76 d9e:=a0K (c:=(cg [(tfR 6 52)] [] [] false false false true)) (a0H _ _ _ _ _ _ _ _ _) Tryz.func76 Tryz.call76 (by kernel_rfl) b2q d9e 5000 rfl (by kernel_rfl) (by kernel_rfl) rfl
def a4O:PT :=
 (cA 82 [(.agg [(.va 0),(.va 1),(.va 2),(.va 3),(jA 0),(.va 4)]),(.agg [(jA 1),(jA 2),(jA 3),(jA 4),(jA 5),(jA 6),(jA 7),(jA 8),(jA 9),(jA 10),(jA 11),(jA 12)])] [] [(.one .bool)]
 (.ite (.a 0)
 (.ret false (.bool (.t true)) [])
 (cA 83 [(.agg [(.va 0),(.va 1),(.va 2),(.va 3),(jA 0),(.va 4)]),(.agg [(jA 1),(jA 2),(jA 3),(jA 4),(jA 5),(jA 6),(jA 7),(jA 8),(jA 9),(jA 10),(jA 11),(jA 12)])] [] [(.one .bool)]
 (.ret false (.bool (.a 1)) []))))
def d9u:Sx.Sys:=⟨[(.sh (.agg [.val,.val,.val,.val,jD,.val])),(.sh (.agg [jD,jD,jD,jD,jD,jD,jD,jD,jD,jD,jD,jD]))],a4O,[],none,none⟩
def b0J:List Cfg:=[]
theorem b1J:SysOk Tryz.prog 84 d9u:=a0K (c:=(cg [] [] [] false false false true)) (a0H _ _ _ _ _ _ _ _ _) Tryz.func84 Tryz.call84 (by kernel_rfl) b0J d9u 5000 rfl (by kernel_rfl) (by kernel_rfl) rfl
def a7P:PT :=
 (jU 0 [(.l 0),(.a 0),(.a 1),(.a 2),(.a 3),(.a 4),(.a 5),(.a 6),(.a 7),(.a 8),(.a 9),(.a 10),(.a 11),(.a 12),(.a 13),(.a 14),(.a 15),(.a 16),(.a 17),(.a 18),(.a 19),(.a 20),(.a 21),(.a 22),(.a 23)] [] [])
def a1d:PT :=
 (.ite (.lt (.a 0) (.l 6))
 (.ite (.eq (.a 0) (.l 5))
  (.ite (.lt (.a 24) (.a 18))
  (nD (treeB (.sub (.a 18) (.a 24)))
  (nD (treeB (.sub (.a 12) (.a 6)))
  (nD (treeB (.sub (.a 18) (.mn (.sub (.a 18) (.a 24)) (.mx (.sub (.a 12) (.a 6)) (.l 0)))))
  (jU 0 [(.l 6),(.a 1),(.a 2),(.a 3),(.a 4),(.a 5),(.a 6),(.a 7),(.a 8),(.a 9),(.a 10),(.a 11),(.a 12),(.a 13),(.a 14),(.a 15),(.a 16),(.a 17),(.a 18),(.a 19),(.a 20),(.a 21),(.a 22),(.a 23),(.sub (.a 18) (.mn (.sub (.a 18) (.a 24)) (.mx (.sub (.a 12) (.a 6)) (.l 0))))] [] []))))
  (jU 0 [(.l 6),(.a 1),(.a 2),(.a 3),(.a 4),(.a 5),(.a 6),(.a 7),(.a 8),(.a 9),(.a 10),(.a 11),(.a 12),(.a 13),(.a 14),(.a 15),(.a 16),(.a 17),(.a 18),(.a 19),(.a 20),(.a 21),(.a 22),(.a 23),(.a 24)] [] []))
  (.ite (.eq (.a 0) (.l 4))
  (.ite (.lt (.a 23) (.a 17))
   (nD (treeB (.sub (.a 17) (.a 23)))
   (nD (treeB (.sub (.a 11) (.a 5)))
   (nD (treeB (.sub (.a 17) (.mn (.sub (.a 17) (.a 23)) (.mx (.sub (.a 11) (.a 5)) (.l 0)))))
   (jU 0 [(.l 5),(.a 1),(.a 2),(.a 3),(.a 4),(.a 5),(.a 6),(.a 7),(.a 8),(.a 9),(.a 10),(.a 11),(.a 12),(.a 13),(.a 14),(.a 15),(.a 16),(.a 17),(.a 18),(.a 19),(.a 20),(.a 21),(.a 22),(.sub (.a 17) (.mn (.sub (.a 17) (.a 23)) (.mx (.sub (.a 11) (.a 5)) (.l 0)))),(.a 24)] [] []))))
   (jU 0 [(.l 5),(.a 1),(.a 2),(.a 3),(.a 4),(.a 5),(.a 6),(.a 7),(.a 8),(.a 9),(.a 10),(.a 11),(.a 12),(.a 13),(.a 14),(.a 15),(.a 16),(.a 17),(.a 18),(.a 19),(.a 20),(.a 21),(.a 22),(.a 23),(.a 24)] [] []))
  (.ite (.eq (.a 0) (.l 3))
   (.ite (.lt (.a 22) (.a 16))
   (nD (treeB (.sub (.a 16) (.a 22)))
   (nD (treeB (.sub (.a 10) (.a 4)))
   (nD (treeB (.sub (.a 16) (.mn (.sub (.a 16) (.a 22)) (.mx (.sub (.a 10) (.a 4)) (.l 0)))))
   (jU 0 [(.l 4),(.a 1),(.a 2),(.a 3),(.a 4),(.a 5),(.a 6),(.a 7),(.a 8),(.a 9),(.a 10),(.a 11),(.a 12),(.a 13),(.a 14),(.a 15),(.a 16),(.a 17),(.a 18),(.a 19),(.a 20),(.a 21),(.sub (.a 16) (.mn (.sub (.a 16) (.a 22)) (.mx (.sub (.a 10) (.a 4)) (.l 0)))),(.a 23),(.a 24)] [] []))))
   (jU 0 [(.l 4),(.a 1),(.a 2),(.a 3),(.a 4),(.a 5),(.a 6),(.a 7),(.a 8),(.a 9),(.a 10),(.a 11),(.a 12),(.a 13),(.a 14),(.a 15),(.a 16),(.a 17),(.a 18),(.a 19),(.a 20),(.a 21),(.a 22),(.a 23),(.a 24)] [] []))
   (.ite (.eq (.a 0) (.l 2))
   (.ite (.lt (.a 21) (.a 15))
    (nD (treeB (.sub (.a 15) (.a 21)))
    (nD (treeB (.sub (.a 9) (.a 3)))
    (nD (treeB (.sub (.a 15) (.mn (.sub (.a 15) (.a 21)) (.mx (.sub (.a 9) (.a 3)) (.l 0)))))
    (jU 0 [(.l 3),(.a 1),(.a 2),(.a 3),(.a 4),(.a 5),(.a 6),(.a 7),(.a 8),(.a 9),(.a 10),(.a 11),(.a 12),(.a 13),(.a 14),(.a 15),(.a 16),(.a 17),(.a 18),(.a 19),(.a 20),(.sub (.a 15) (.mn (.sub (.a 15) (.a 21)) (.mx (.sub (.a 9) (.a 3)) (.l 0)))),(.a 22),(.a 23),(.a 24)] [] []))))
    (jU 0 [(.l 3),(.a 1),(.a 2),(.a 3),(.a 4),(.a 5),(.a 6),(.a 7),(.a 8),(.a 9),(.a 10),(.a 11),(.a 12),(.a 13),(.a 14),(.a 15),(.a 16),(.a 17),(.a 18),(.a 19),(.a 20),(.a 21),(.a 22),(.a 23),(.a 24)] [] []))
   (.ite (.eq (.a 0) (.l 1))
    (.ite (.lt (.a 20) (.a 14))
    (nD (treeB (.sub (.a 14) (.a 20)))
    (nD (treeB (.sub (.a 8) (.a 2)))
    (nD (treeB (.sub (.a 14) (.mn (.sub (.a 14) (.a 20)) (.mx (.sub (.a 8) (.a 2)) (.l 0)))))
    (jU 0 [(.l 2),(.a 1),(.a 2),(.a 3),(.a 4),(.a 5),(.a 6),(.a 7),(.a 8),(.a 9),(.a 10),(.a 11),(.a 12),(.a 13),(.a 14),(.a 15),(.a 16),(.a 17),(.a 18),(.a 19),(.sub (.a 14) (.mn (.sub (.a 14) (.a 20)) (.mx (.sub (.a 8) (.a 2)) (.l 0)))),(.a 21),(.a 22),(.a 23),(.a 24)] [] []))))
    (jU 0 [(.l 2),(.a 1),(.a 2),(.a 3),(.a 4),(.a 5),(.a 6),(.a 7),(.a 8),(.a 9),(.a 10),(.a 11),(.a 12),(.a 13),(.a 14),(.a 15),(.a 16),(.a 17),(.a 18),(.a 19),(.a 20),(.a 21),(.a 22),(.a 23),(.a 24)] [] []))
    (.ite (.eq (.a 0) (.l 0))
    (.ite (.lt (.a 19) (.a 13))
     (nD (treeB (.sub (.a 13) (.a 19)))
     (nD (treeB (.sub (.a 7) (.a 1)))
     (nD (treeB (.sub (.a 13) (.mn (.sub (.a 13) (.a 19)) (.mx (.sub (.a 7) (.a 1)) (.l 0)))))
     (jU 0 [(.l 1),(.a 1),(.a 2),(.a 3),(.a 4),(.a 5),(.a 6),(.a 7),(.a 8),(.a 9),(.a 10),(.a 11),(.a 12),(.a 13),(.a 14),(.a 15),(.a 16),(.a 17),(.a 18),(.sub (.a 13) (.mn (.sub (.a 13) (.a 19)) (.mx (.sub (.a 7) (.a 1)) (.l 0)))),(.a 20),(.a 21),(.a 22),(.a 23),(.a 24)] [] []))))
     (jU 0 [(.l 1),(.a 1),(.a 2),(.a 3),(.a 4),(.a 5),(.a 6),(.a 7),(.a 8),(.a 9),(.a 10),(.a 11),(.a 12),(.a 13),(.a 14),(.a 15),(.a 16),(.a 17),(.a 18),(.a 19),(.a 20),(.a 21),(.a 22),(.a 23),(.a 24)] [] []))
    .stuck))))))
 (.ret false (.agg [(jA 19),(jA 20),(jA 21),(jA 22),(jA 23),(jA 24)]) []))
def d8K:Sx.Sys:=⟨[(.sh (.agg [jD,jD,jD,jD,jD,jD])),(.sh (.agg [jD,jD,jD,jD,jD,jD])),(.sh (.agg [jD,jD,jD,jD,jD,jD])),(.sh (.agg [jD,jD,jD,jD,jD,jD]))],a7P,[a1d],none,none⟩
def b6z:List Cfg:=[{todo:=[(.code (tfR 5 20)),(.inLoop (tfR 5 20)),(.inBlock 0),(.code [true,true])],sl:=jkR 0 4++[(.ptr 0 0),(.ptr 1 0),(.ptr 2 0),(.ptr 3 0),(.ptr 4 0),(.junk 4),(jA 0)]++jkR 5 32++[.undef],H:=[(.cells [(jA 1),(jA 2),(jA 3),(jA 4),(jA 5),(jA 6)] 51 false),(.cells [(jA 7),(jA 8),(jA 9),(jA 10),(jA 11),(jA 12)] 51 false),(.cells [(jA 13),(jA 14),(jA 15),(jA 16),(jA 17),(jA 18)] 51 false),(.cells [(jA 19),(jA 20),(jA 21),(jA 22),(jA 23),(jA 24)] 51 false),(.cells [(jE 0),(jE 0),(jE 0),(jE 0),(jE 0),(jE 0)] 51 false)],ni:=25,nb:=0,nv:=0,nj:=37}]
theorem b8J:SysOk Tryz.prog 92 d8K:=a0K (c:=(cg [(tfR 5 20)] [] [] false false false true)) (a0H _ _ _ _ _ _ _ _ _) Tryz.func92 Tryz.call92 (by kernel_rfl) b6z d8K 5000 rfl (by kernel_rfl) (by kernel_rfl) rfl
def b0T:PT :=
 (cA 85 [(.agg [(jA 0),(jA 1),(jA 2),(jA 3),(jA 4),(jA 5)])] [] [(.one jD)]
 (.ite (.not (.eq (.a 6) (.l 0)))
 (.ret false (jE 0) [])
 (nD (treeB (jP 0))
 (nD (treeB (.mul (.l 1) (jP 0)))
 (nD (treeB (jP 1))
 (nD (treeB (.mul (.mul (.l 1) (jP 0)) (jP 1)))
 (nD (treeB (jP 2))
 (nD (treeB (.mul (.mul (.mul (.l 1) (jP 0)) (jP 1)) (jP 2)))
 (nD (treeB (jP 3))
 (nD (treeB (.mul (.mul (.mul (.mul (.l 1) (jP 0)) (jP 1)) (jP 2)) (jP 3)))
 (nD (treeB (jP 4))
 (nD (treeB (.mul (.mul (.mul (.mul (.mul (.l 1) (jP 0)) (jP 1)) (jP 2)) (jP 3)) (jP 4)))
 (nD (treeB (jP 5))
 (nD (treeB (.mul (.mul (.mul (.mul (.mul (.mul (.l 1) (jP 0)) (jP 1)) (jP 2)) (jP 3)) (jP 4)) (jP 5)))
 (.ite (.lt (.l 1024) (.mul (.mul (.mul (.mul (.mul (.mul (.l 1) (jP 0)) (jP 1)) (jP 2)) (jP 3)) (jP 4)) (jP 5)))
  (.ret false (jE 0) [])
  (.ret false (.int .i64 (.mul (.mul (.mul (.mul (.mul (.mul (.l 1) (jP 0)) (jP 1)) (jP 2)) (jP 3)) (jP 4)) (jP 5))) []))))))))))))))))
def e0v:Sx.Sys:=⟨[(.sh (.agg [jD,jD,jD,jD,jD,jD]))],b0T,[],none,none⟩
def c0z:List Cfg:=[]
theorem c2T:SysOk Tryz.prog 100 e0v:=a0K (c:=(cg [] [] [] false false false true)) (a0H _ _ _ _ _ _ _ _ _) Tryz.func100 Tryz.call100 (by kernel_rfl) c0z e0v 5000 rfl (by kernel_rfl) (by kernel_rfl) rfl
def a9M:PT :=
 (cA 130 [(.agg [(jA 0),(jA 1),(jA 2),(jA 3),(jA 4),(jA 5)]),(.agg [(jA 6),(jA 7),(jA 8),(jA 9),(jA 10),(jA 11)])] [] [(.agg [jD,jD,jD,jD,jD,jD])]
 (.ret false (.bool (.and (.eq (.a 12) (.a 0)) (.and (.eq (.a 13) (.a 1)) (.and (.eq (.a 14) (.a 2)) (.and (.eq (.a 15) (.a 3)) (.and (.eq (.a 16) (.a 4)) (.eq (.a 17) (.a 5)))))))) []))
def e0s:Sx.Sys:=⟨[(.sh (.agg [jD,jD,jD,jD,jD,jD])),(.sh (.agg [jD,jD,jD,jD,jD,jD]))],a9M,[],none,none⟩
def b9U:List Cfg:=[]
theorem c1E:SysOk Tryz.prog 116 e0s:=a0K (c:=(cg [] [] [] false false false true)) (a0H _ _ _ _ _ _ _ _ _) Tryz.func116 Tryz.call116 (by kernel_rfl) b9U e0s 5000 rfl (by kernel_rfl) (by kernel_rfl) rfl
def b0F:PT :=
 (.ite (.le (.l 97) (.a 0))
 (.ret false (.bool (.le (.a 0) (.l 122))) [])
 rF)
def e0z:Sx.Sys:=⟨[(.sh (.one (.int .i32)))],b0F,[],none,none⟩
def c0y:List Cfg:=[]
theorem c3k:SysOk Tryz.prog 124 e0z:=a0K (c:=(cg [] [] [] false false false true)) (a0H _ _ _ _ _ _ _ _ _) Tryz.func124 Tryz.call124 (by kernel_rfl) c0y e0z 5000 rfl (by kernel_rfl) (by kernel_rfl) rfl
def a8J:PT :=
 (lO false (.pa 1 0) [jD]
 (.ite (.eq (.a 3) (.a 4))
 (.ret true (jE 1) [])
 (.ret true (jE 0) [])))
def e0i:Sx.Sys:=⟨[(.sh (.agg [.val,jD,jD,jD,jD])),.ptr],a8J,[],none,none⟩
def b7k:List Cfg:=[]
theorem b9G:SysOk Tryz.prog 132 e0i:=a0K (c:=(cg [] [] [] true true false true)) (a0H _ _ _ _ _ _ _ _ _) Tryz.func132 Tryz.call132 (by kernel_rfl) b7k e0i 5000 rfl (by kernel_rfl) (by kernel_rfl) rfl
def a9Y:PT :=
 (cA 81 [(.agg [(jA 0),(jA 1),(jA 2),(jA 3),(jA 4),(jA 5)]),(.agg [(jA 18),(jA 19),(jA 20),(jA 21),(jA 22),(jA 23)])] [] [(.one jD)]
 (cA 81 [(.agg [(jA 0),(jA 1),(jA 2),(jA 3),(jA 4),(jA 5)]),(.agg [(jA 6),(jA 7),(jA 8),(jA 9),(jA 10),(jA 11)])] [] [(.one jD)]
 (nD (treeB (.sub (.a 24) (.a 25)))
 (.ret false (.int .i64 (.sub (.a 24) (.a 25))) []))))
def e0q:Sx.Sys:=⟨[(.sh (.agg [jD,jD,jD,jD,jD,jD,jD,jD,jD,jD,jD,jD])),(.sh (.agg [jD,jD,jD,jD,jD,jD,jD,jD,jD,jD,jD,jD]))],a9Y,[],none,none⟩
def b9v:List Cfg:=[]
theorem c1H:SysOk Tryz.prog 140 e0q:=a0K (c:=(cg [] [] [] false false false true)) (a0H _ _ _ _ _ _ _ _ _) Tryz.func140 Tryz.call140 (by kernel_rfl) b9v e0q 5000 rfl (by kernel_rfl) (by kernel_rfl) rfl
def a1Q:PT :=
 (cA 7 [(.agg [(.va 0),(.va 1),(.va 2),(.va 3)]),(.va 4)] [] [(.one .bool)]
 (.ite (.a 0)
 (cA 8 [] [] [(.one .bool)]
 (.ret false (.bool (.a 1)) []))
 (cA 17 [(.agg [(jA 0),(jA 1),(jA 2),(jA 3)])] [] [(.one jD)]
 (.ite (.not (.eq (.a 4) (.l 0)))
  (cA 8 [] [] [(.one .bool)]
  (.ret false (.bool (.a 1)) []))
  (cA 18 [(.agg [(.va 0),(.va 1),(.va 2),(.va 3)])] [] [(.one jD)]
  (.ite (.not (.eq (.a 5) (.l 0)))
  (cA 8 [] [] [(.one .bool)]
  (.ret false (.bool (.a 1)) []))
  (cA 9 [(.agg [(.va 0),(.va 1),(.va 2),(.va 3)]),(.agg [(jA 0),(jA 1),(jA 2),(jA 3)])] [] [(.one .val),(.one jD)]
  (.ite (.not (.eq (.a 6) (.l 0)))
   rF
   (cA 14 [(.va 5)] [] [(.agg [jD,jD,jD,jD,jD,jD])]
   (cA 19 [(.va 0)] [] [(.agg [jD,jD,jD,jD,jD,jD])]
   (.ite (.not (.and (.eq (.a 7) (.a 13)) (.and (.eq (.a 8) (.a 14)) (.and (.eq (.a 9) (.a 15)) (.and (.eq (.a 10) (.a 16)) (.and (.eq (.a 11) (.a 17)) (.eq (.a 12) (.a 18))))))))
   rF
   (jU 0 [(.l 0)] [] [(.va 4),(.va 5),(.va 0),(.va 1),(.va 2),(.va 3)]))))))))))))
def a2f:PT :=
 (nD (.is 0 0)
 (.ite (.lt (.a 0) (.slen 0))
 (nD (treeI (.a 0) (.slen 0))
 (lO false (.ea 0 (.a 0) 9 0) [jD,jD,jD,jD,jD,jD,jD,jD,jD]
 (cA 12 [(.va 1),(.agg [(jA 1),(jA 2),(jA 3),(jA 4),(jA 5),(jA 6),(jA 7),(jA 8),(jA 9)])] [] [(.one .bool),(.one jD)]
 (nD (treeB (jP 0))
 (jU 0 [(jP 0)] [] [(.va 0),(.va 1),(.va 2),(.va 3),(.va 4),(.va 5)])))))
 (cA 20 [(.va 1)] [] [(.one .val)]
 (jU 1 [(.l 0)] [] [(.va 6),(.va 2),(.va 3),(.va 4),(.va 5)]))))
def a2l:PT :=
 (nD (.is 0 0)
 (.ite (.lt (.a 0) (.slen 0))
 (jU 2 [(.a 0),(.l 0)] [] [(.va 0),(.va 1),(.va 2),(.va 3),(.va 4)])
 (cA 8 [] [] [(.one .bool)]
 (.ret false (.bool (.a 0)) []))))
def a2j:PT :=
 (nD (treeI (.a 0) (.slen 0))
 (lO false (.ea 0 (.a 0) 9 6) [.val]
 (nD (.is 0 5)
 (.ite (.lt (.a 1) (.slen 5))
 (nD (treeI (.a 0) (.slen 0))
 (lO false (.ea 0 (.a 0) 9 6) [.val]
 (nD (treeI (.a 1) (.slen 6))
 (lO false (.ea 6 (.a 1) 6 0) [jD,jD,jD,jD,jD,jD]
 (cA 21 [(.agg [(.va 1),(.va 2),(.va 3),(.va 4)]),(jA 1),(.agg [(jA 2),(jA 3),(jA 4),(jA 5),(jA 6),(jA 7)])] [] [(.one jD)]
 (.ite (.not (.eq (.a 8) (.l 0)))
  rF
  (nD (treeB (jP 1))
  (jU 2 [(.a 0),(jP 1)] [] [(.va 0),(.va 1),(.va 2),(.va 3),(.va 4)]))))))))
 (nD (treeB (jP 0))
 (jU 1 [(jP 0)] [] [(.va 0),(.va 1),(.va 2),(.va 3),(.va 4)]))))))
def d8H:Sx.Sys:=⟨[(.sh (.agg [.val,.val,.val,.val])),(.sh (.agg [jD,jD,jD,jD])),(.sh (.one .val))],a1Q,[a2f,a2l,a2j],none,none⟩
def a9W:List Cfg:=[{todo:=[(.code (tfR 8 244)),(.inLoop (tfR 8 244)),(.inBlock 0),(.code (tfR 5 31))],sl:=[(.junk 0),(.junk 1),(.va 0),(.ptr 0 0),(.junk 2),.undef,(.junk 3),(.va 1),(.junk 4),(jA 0),.undef,.undef,.undef]++jkR 5 13++[.undef]++jkR 18 28++udR 31,H:=[(.cells [(.va 2),(.va 3),(.va 4),(.va 5)] 27 false)],ni:=1,nb:=0,nv:=6,nj:=46},
 {todo:=[(.code (tfR 10 1012)),(.inLoop (tfR 10 1012)),(.inBlock 2),(.code (tfR 7 127))],sl:=[(.junk 0),(.junk 1),(.junk 2),(.ptr 0 0),(.junk 3),.undef]++jkR 4 4++[(.va 0),(jA 0)]++jkR 8 14++[.undef]++jkR 22 58++[.undef],H:=[(.cells [(.va 1),(.va 2),(.va 3),(.va 4)] 27 false)],ni:=1,nb:=0,nv:=5,nj:=80},
 {todo:=[(.code (tfR 16 64804)),(.inLoop (tfR 16 64804)),(.inBlock 4),(.inBlock 3),(.code (tfR 12 4051)),(.inLoop (tfR 10 1012)),(.inBlock 2),(.code (tfR 7 127))],sl:=[(.junk 0),(.junk 1),(.junk 2),(.ptr 0 0),(.junk 3),.undef]++jkR 4 4++[(.va 0),(jA 0),(jA 1)]++jkR 8 13++[.undef]++jkR 21 58++[.undef],H:=[(.cells [(.va 1),(.va 2),(.va 3),(.va 4)] 27 false)],ni:=2,nb:=0,nv:=5,nj:=79}]
theorem b0C:SysOk Tryz.prog 5 d8H:=a0K (c:=(cg [(tfR 8 244),(tfR 10 1012),(tfR 16 64804)] [] [] true false false true)) (a0H _ _ _ _ _ _ _ _ _) Tryz.func5 Tryz.call5 (by kernel_rfl) a9W d8H 5000 rfl (by kernel_rfl) (by kernel_rfl) rfl
def a5u:PT :=
 (cA 18 [(.agg [(.va 0),(.va 1),(.va 2),(.va 3)])] [] [(.one jD)]
 (.ite (.not (.eq (.a 7) (.l 0)))
 (.ret false (jA 7) [])
 (.ite (.lt (.a 0) (.l 0))
  (.ret false (jE 6) [])
  (nD (.is 0 1)
  (.ite (.le (.slen 1) (.a 0))
  (.ret false (jE 6) [])
  (cA 47 [(.agg [(jA 1),(jA 2),(jA 3),(jA 4),(jA 5),(jA 6)])] [] [(.one .bool)]
  (.ite (.not (.a 0))
   (.ret false (jE 4) [])
   (cA 48 [(.agg [(.va 0),(.va 1),(.va 2),(.va 3)])] [] [(.agg [jD,jD,jD,jD,jD,jD]),(.agg [jD,jD,jD,jD,jD,jD])]
   (cA 49 [(.va 0)] [] [(.agg [jD,jD,jD,jD,jD,jD])]
   (jU 0 [(.a 0),(.l 0),(.a 1),(.a 2),(.a 3),(.a 4),(.a 5),(.a 6),(.a 8),(.a 9),(.a 10),(.a 11),(.a 12),(.a 13),(.a 14),(.a 15),(.a 16),(.a 17),(.a 18),(.a 19),(.a 20),(.a 21),(.a 22),(.a 23),(.a 24),(.a 25)] [] [(.va 0),(.va 1),(.va 2),(.va 3)]))))))))))
def a0S:PT :=
 (.ite (.lt (.a 1) (.l 6))
 (.ite (.eq (.a 1) (.l 5))
  (.ite (.lt (.a 25) (.a 7))
  (.ret false (jE 14) [])
  (.ite (.not (.eq (.a 19) (.l 0)))
   (nD (treeI (.a 0) (.slen 1))
   (lO true (.ea 1 (.a 0) 4 1) [jD]
   (.ite (.not (.eq (.a 19) (.a 26)))
   (.ite (.lt (.a 13) (.a 7))
    (.ret false (jE 14) [])
    (jU 0 [(.a 0),(.l 6),(.a 2),(.a 3),(.a 4),(.a 5),(.a 6),(.a 7),(.a 8),(.a 9),(.a 10),(.a 11),(.a 12),(.a 13),(.a 14),(.a 15),(.a 16),(.a 17),(.a 18),(.a 19),(.a 20),(.a 21),(.a 22),(.a 23),(.a 24),(.a 25)] [] [(.va 0),(.va 1),(.va 2),(.va 3)]))
   (jU 0 [(.a 0),(.l 6),(.a 2),(.a 3),(.a 4),(.a 5),(.a 6),(.a 7),(.a 8),(.a 9),(.a 10),(.a 11),(.a 12),(.a 13),(.a 14),(.a 15),(.a 16),(.a 17),(.a 18),(.a 19),(.a 20),(.a 21),(.a 22),(.a 23),(.a 24),(.a 25)] [] [(.va 0),(.va 1),(.va 2),(.va 3)]))))
   (jU 0 [(.a 0),(.l 6),(.a 2),(.a 3),(.a 4),(.a 5),(.a 6),(.a 7),(.a 8),(.a 9),(.a 10),(.a 11),(.a 12),(.a 13),(.a 14),(.a 15),(.a 16),(.a 17),(.a 18),(.a 19),(.a 20),(.a 21),(.a 22),(.a 23),(.a 24),(.a 25)] [] [(.va 0),(.va 1),(.va 2),(.va 3)])))
  (.ite (.eq (.a 1) (.l 4))
  (.ite (.lt (.a 24) (.a 6))
   (.ret false (jE 14) [])
   (.ite (.not (.eq (.a 18) (.l 0)))
   (nD (treeI (.a 0) (.slen 1))
   (lO true (.ea 1 (.a 0) 4 1) [jD]
   (.ite (.not (.eq (.a 18) (.a 26)))
    (.ite (.lt (.a 12) (.a 6))
    (.ret false (jE 14) [])
    (jU 0 [(.a 0),(.l 5),(.a 2),(.a 3),(.a 4),(.a 5),(.a 6),(.a 7),(.a 8),(.a 9),(.a 10),(.a 11),(.a 12),(.a 13),(.a 14),(.a 15),(.a 16),(.a 17),(.a 18),(.a 19),(.a 20),(.a 21),(.a 22),(.a 23),(.a 24),(.a 25)] [] [(.va 0),(.va 1),(.va 2),(.va 3)]))
    (jU 0 [(.a 0),(.l 5),(.a 2),(.a 3),(.a 4),(.a 5),(.a 6),(.a 7),(.a 8),(.a 9),(.a 10),(.a 11),(.a 12),(.a 13),(.a 14),(.a 15),(.a 16),(.a 17),(.a 18),(.a 19),(.a 20),(.a 21),(.a 22),(.a 23),(.a 24),(.a 25)] [] [(.va 0),(.va 1),(.va 2),(.va 3)]))))
   (jU 0 [(.a 0),(.l 5),(.a 2),(.a 3),(.a 4),(.a 5),(.a 6),(.a 7),(.a 8),(.a 9),(.a 10),(.a 11),(.a 12),(.a 13),(.a 14),(.a 15),(.a 16),(.a 17),(.a 18),(.a 19),(.a 20),(.a 21),(.a 22),(.a 23),(.a 24),(.a 25)] [] [(.va 0),(.va 1),(.va 2),(.va 3)])))
  (.ite (.eq (.a 1) (.l 3))
   (.ite (.lt (.a 23) (.a 5))
   (.ret false (jE 14) [])
   (.ite (.not (.eq (.a 17) (.l 0)))
    (nD (treeI (.a 0) (.slen 1))
    (lO true (.ea 1 (.a 0) 4 1) [jD]
    (.ite (.not (.eq (.a 17) (.a 26)))
    (.ite (.lt (.a 11) (.a 5))
     (.ret false (jE 14) [])
     (jU 0 [(.a 0),(.l 4),(.a 2),(.a 3),(.a 4),(.a 5),(.a 6),(.a 7),(.a 8),(.a 9),(.a 10),(.a 11),(.a 12),(.a 13),(.a 14),(.a 15),(.a 16),(.a 17),(.a 18),(.a 19),(.a 20),(.a 21),(.a 22),(.a 23),(.a 24),(.a 25)] [] [(.va 0),(.va 1),(.va 2),(.va 3)]))
    (jU 0 [(.a 0),(.l 4),(.a 2),(.a 3),(.a 4),(.a 5),(.a 6),(.a 7),(.a 8),(.a 9),(.a 10),(.a 11),(.a 12),(.a 13),(.a 14),(.a 15),(.a 16),(.a 17),(.a 18),(.a 19),(.a 20),(.a 21),(.a 22),(.a 23),(.a 24),(.a 25)] [] [(.va 0),(.va 1),(.va 2),(.va 3)]))))
    (jU 0 [(.a 0),(.l 4),(.a 2),(.a 3),(.a 4),(.a 5),(.a 6),(.a 7),(.a 8),(.a 9),(.a 10),(.a 11),(.a 12),(.a 13),(.a 14),(.a 15),(.a 16),(.a 17),(.a 18),(.a 19),(.a 20),(.a 21),(.a 22),(.a 23),(.a 24),(.a 25)] [] [(.va 0),(.va 1),(.va 2),(.va 3)])))
   (.ite (.eq (.a 1) (.l 2))
   (.ite (.lt (.a 22) (.a 4))
    (.ret false (jE 14) [])
    (.ite (.not (.eq (.a 16) (.l 0)))
    (nD (treeI (.a 0) (.slen 1))
    (lO true (.ea 1 (.a 0) 4 1) [jD]
    (.ite (.not (.eq (.a 16) (.a 26)))
     (.ite (.lt (.a 10) (.a 4))
     (.ret false (jE 14) [])
     (jU 0 [(.a 0),(.l 3),(.a 2),(.a 3),(.a 4),(.a 5),(.a 6),(.a 7),(.a 8),(.a 9),(.a 10),(.a 11),(.a 12),(.a 13),(.a 14),(.a 15),(.a 16),(.a 17),(.a 18),(.a 19),(.a 20),(.a 21),(.a 22),(.a 23),(.a 24),(.a 25)] [] [(.va 0),(.va 1),(.va 2),(.va 3)]))
     (jU 0 [(.a 0),(.l 3),(.a 2),(.a 3),(.a 4),(.a 5),(.a 6),(.a 7),(.a 8),(.a 9),(.a 10),(.a 11),(.a 12),(.a 13),(.a 14),(.a 15),(.a 16),(.a 17),(.a 18),(.a 19),(.a 20),(.a 21),(.a 22),(.a 23),(.a 24),(.a 25)] [] [(.va 0),(.va 1),(.va 2),(.va 3)]))))
    (jU 0 [(.a 0),(.l 3),(.a 2),(.a 3),(.a 4),(.a 5),(.a 6),(.a 7),(.a 8),(.a 9),(.a 10),(.a 11),(.a 12),(.a 13),(.a 14),(.a 15),(.a 16),(.a 17),(.a 18),(.a 19),(.a 20),(.a 21),(.a 22),(.a 23),(.a 24),(.a 25)] [] [(.va 0),(.va 1),(.va 2),(.va 3)])))
   (.ite (.eq (.a 1) (.l 1))
    (.ite (.lt (.a 21) (.a 3))
    (.ret false (jE 14) [])
    (.ite (.not (.eq (.a 15) (.l 0)))
     (nD (treeI (.a 0) (.slen 1))
     (lO true (.ea 1 (.a 0) 4 1) [jD]
     (.ite (.not (.eq (.a 15) (.a 26)))
     (.ite (.lt (.a 9) (.a 3))
      (.ret false (jE 14) [])
      (jU 0 [(.a 0),(.l 2),(.a 2),(.a 3),(.a 4),(.a 5),(.a 6),(.a 7),(.a 8),(.a 9),(.a 10),(.a 11),(.a 12),(.a 13),(.a 14),(.a 15),(.a 16),(.a 17),(.a 18),(.a 19),(.a 20),(.a 21),(.a 22),(.a 23),(.a 24),(.a 25)] [] [(.va 0),(.va 1),(.va 2),(.va 3)]))
     (jU 0 [(.a 0),(.l 2),(.a 2),(.a 3),(.a 4),(.a 5),(.a 6),(.a 7),(.a 8),(.a 9),(.a 10),(.a 11),(.a 12),(.a 13),(.a 14),(.a 15),(.a 16),(.a 17),(.a 18),(.a 19),(.a 20),(.a 21),(.a 22),(.a 23),(.a 24),(.a 25)] [] [(.va 0),(.va 1),(.va 2),(.va 3)]))))
     (jU 0 [(.a 0),(.l 2),(.a 2),(.a 3),(.a 4),(.a 5),(.a 6),(.a 7),(.a 8),(.a 9),(.a 10),(.a 11),(.a 12),(.a 13),(.a 14),(.a 15),(.a 16),(.a 17),(.a 18),(.a 19),(.a 20),(.a 21),(.a 22),(.a 23),(.a 24),(.a 25)] [] [(.va 0),(.va 1),(.va 2),(.va 3)])))
    (.ite (.eq (.a 1) (.l 0))
    (.ite (.lt (.a 20) (.a 2))
     (.ret false (jE 14) [])
     (.ite (.not (.eq (.a 14) (.l 0)))
     (nD (treeI (.a 0) (.slen 1))
     (lO true (.ea 1 (.a 0) 4 1) [jD]
     (.ite (.not (.eq (.a 14) (.a 26)))
      (.ite (.lt (.a 8) (.a 2))
      (.ret false (jE 14) [])
      (jU 0 [(.a 0),(.l 1),(.a 2),(.a 3),(.a 4),(.a 5),(.a 6),(.a 7),(.a 8),(.a 9),(.a 10),(.a 11),(.a 12),(.a 13),(.a 14),(.a 15),(.a 16),(.a 17),(.a 18),(.a 19),(.a 20),(.a 21),(.a 22),(.a 23),(.a 24),(.a 25)] [] [(.va 0),(.va 1),(.va 2),(.va 3)]))
      (jU 0 [(.a 0),(.l 1),(.a 2),(.a 3),(.a 4),(.a 5),(.a 6),(.a 7),(.a 8),(.a 9),(.a 10),(.a 11),(.a 12),(.a 13),(.a 14),(.a 15),(.a 16),(.a 17),(.a 18),(.a 19),(.a 20),(.a 21),(.a 22),(.a 23),(.a 24),(.a 25)] [] [(.va 0),(.va 1),(.va 2),(.va 3)]))))
     (jU 0 [(.a 0),(.l 1),(.a 2),(.a 3),(.a 4),(.a 5),(.a 6),(.a 7),(.a 8),(.a 9),(.a 10),(.a 11),(.a 12),(.a 13),(.a 14),(.a 15),(.a 16),(.a 17),(.a 18),(.a 19),(.a 20),(.a 21),(.a 22),(.a 23),(.a 24),(.a 25)] [] [(.va 0),(.va 1),(.va 2),(.va 3)])))
    .stuck))))))
 (jU 1 [(.a 0),(.l 0),(.a 2),(.a 3),(.a 4),(.a 5),(.a 6),(.a 7)] [] [(.va 0),(.va 1),(.va 2),(.va 3)]))
def a2M:PT :=
 (nD (.is 0 2)
 (.ite (.lt (.a 1) (.slen 2))
 (nD (treeI (.a 1) (.slen 2))
 (lO false (.ea 2 (.a 1) 3 0) [jD,jD,jD]
 (cA 50 [(.va 0),(jA 9),(.agg [(jA 2),(jA 3),(jA 4),(jA 5),(jA 6),(jA 7)])] [] [(.one jD),(.one jD),(.one jD)]
 (.ite (.eq (.a 8) (.l (-1)))
  (.ite (.lt (.a 10) (.a 13))
  (.ret false (jE 14) [])
  (nD (treeB (jP 1))
  (jU 1 [(.a 0),(jP 1),(.a 2),(.a 3),(.a 4),(.a 5),(.a 6),(.a 7)] [] [(.va 0),(.va 1),(.va 2),(.va 3)])))
  (.ite (.eq (.a 8) (.a 0))
  (.ite (.lt (.a 10) (.a 13))
   (.ret false (jE 14) [])
   (nD (treeB (jP 1))
   (jU 1 [(.a 0),(jP 1),(.a 2),(.a 3),(.a 4),(.a 5),(.a 6),(.a 7)] [] [(.va 0),(.va 1),(.va 2),(.va 3)])))
  (nD (treeB (jP 1))
  (jU 1 [(.a 0),(jP 1),(.a 2),(.a 3),(.a 4),(.a 5),(.a 6),(.a 7)] [] [(.va 0),(.va 1),(.va 2),(.va 3)])))))))
 (.ret false (jE 0) [])))
def d8F:Sx.Sys:=⟨[(.sh (.agg [.val,.val,.val,.val])),(.sh (.one jD)),(.sh (.agg [jD,jD,jD,jD,jD,jD]))],a5u,[a0S,a2M],none,none⟩
def b1P:List Cfg:=[{todo:=[(.code (tfR 11 2036)),(.inLoop (tfR 11 2036)),(.inBlock 0),(.code (tfR 8 255))],sl:=[(.junk 0),(jA 0),(.junk 1),(.ptr 0 0),.undef,(.ptr 1 0),(.junk 2),(.junk 3),(.ptr 2 0),(.ptr 3 0),(.ptr 4 0),(jA 1)]++udR 5++jkR 4 4++[.undef]++jkR 8 58++udR 37,H:=[(.cells [(.va 0),(.va 1),(.va 2),(.va 3)] 27 false),(.cells [(jA 2),(jA 3),(jA 4),(jA 5),(jA 6),(jA 7)] 51 false),(.cells [(jA 8),(jA 9),(jA 10),(jA 11),(jA 12),(jA 13)] 51 false),(.cells [(jA 14),(jA 15),(jA 16),(jA 17),(jA 18),(jA 19)] 51 false),(.cells [(jA 20),(jA 21),(jA 22),(jA 23),(jA 24),(jA 25)] 51 false)],ni:=26,nb:=0,nv:=4,nj:=66},
 {todo:=[(.code (tfR 12 4084)),(.inLoop (tfR 12 4084)),(.inBlock 2),(.code (tfR 9 511))],sl:=[(.junk 0),(jA 0),(.junk 1),(.ptr 0 0),.undef,(.ptr 1 0)]++jkR 2 6++[(jA 1)]++jkR 8 8++[.undef]++jkR 16 95,H:=[(.cells [(.va 0),(.va 1),(.va 2),(.va 3)] 27 false),(.cells [(jA 2),(jA 3),(jA 4),(jA 5),(jA 6),(jA 7)] 51 false)],ni:=8,nb:=0,nv:=4,nj:=111}]
theorem b3q:SysOk Tryz.prog 21 d8F:=a0K (c:=(cg [(tfR 11 2036),(tfR 12 4084)] [] [] false false false true)) (a0H _ _ _ _ _ _ _ _ _) Tryz.func21 Tryz.call21 (by kernel_rfl) b1P d8F 5000 rfl (by kernel_rfl) (by kernel_rfl) rfl
def a7S:PT :=
 (.ite (.lt (.a 0) (.l 1))
 (.ret false (jE 4) [])
 (.ite (.lt (.l 1000000) (.a 0))
  (.ret false (jE 4) [])
  (.ite (.lt (.a 1) (.l 0))
  (.ret false (jE 4) [])
  (.ite (.lt (.l 100) (.a 1))
   (.ret false (jE 4) [])
   (.ite (.lt (.a 2) (.l 1))
   (.ret false (jE 4) [])
   (.ite (.lt (.l 3) (.a 2))
    (.ret false (jE 4) [])
    (.ite (.lt (.a 3) (.l 1))
    (.ret false (jE 4) [])
    (.ite (.lt (.l 3) (.a 3))
     (.ret false (jE 4) [])
     (.ret false (jE 0) [])))))))))
def e0b:Sx.Sys:=⟨[(.sh (.agg [jD,jD,jD,jD]))],a7S,[],none,none⟩
def b6w:List Cfg:=[]
theorem b8Q:SysOk Tryz.prog 29 e0b:=a0K (c:=(cg [] [] [] false false false true)) (a0H _ _ _ _ _ _ _ _ _) Tryz.func29 Tryz.call29 (by kernel_rfl) b6w e0b 5000 rfl (by kernel_rfl) (by kernel_rfl) rfl
def a4w:PT :=
 (nD (.is 4 0)
 (.ite (.nil 0)
 (.ret true (jE 6) [])
 (cA 53 [(.va 0),(jA 0)] [] [(.one .bool)]
 (.ite (.not (.a 0))
  (.ret true (jE 6) [])
  (nD (.is 1 0)
  (lO false (.pa 0 17) [.val]
  (nD (treeI (.a 0) (.slen 1))
  (lO false (.ea 1 (.a 0) 1 0) [.bool]
  (.ite (.a 1)
  (.ret true (jE 10) [])
  (nD (.is 1 0)
  (nD (.is 1 0)
  (nD (.is 1 0)
  (lO false (.pa 0 17) [.val]
  (lO false (.pa 0 15) [.val]
  (lO false (.pa 0 16) [.val]
  (nD (treeI (.a 0) (.slen 2))
  (.storeM (.ea 2 (.a 0) 1 0) [(.bool (.t true))]
  (nD (treeI (.a 0) (.slen 3))
  (.storeM (.ea 3 (.a 0) 6 0) [(jE 0),(jE 0),(jE 0),(jE 0),(jE 0),(jE 0)]
  (nD (treeI (.a 0) (.slen 4))
  (.storeM (.ea 4 (.a 0) 1 0) [(.bool (.t false))]
  (.ret true (jE 0) []))))))))))))))))))))))
def d9I:Sx.Sys:=⟨[(.sh (.one .val)),(.sh (.one jD))],a4w,[],none,none⟩
def b6D:List Cfg:=[]
theorem b8P:SysOk Tryz.prog 37 d9I:=a0K (c:=(cg [] [] [] true true false true)) (a0H _ _ _ _ _ _ _ _ _) Tryz.func37 Tryz.call37 (by kernel_rfl) b6D d9I 5000 rfl (by kernel_rfl) (by kernel_rfl) rfl
def a5k:PT :=
 (nD (.is 0 0)
 (jU 0 [(.slen 0),(.l 0)] [] [(.va 1),.nilS,(.va 0)]))
def a1I:PT :=
 (.ite (.lt (.a 1) (.a 0))
 (nD (treeI (.a 1) (.slen 2))
 (lO false (.ea 2 (.a 1) 9 0) [jD,jD,jD,jD,jD,jD,.val,.val,.val]
 (.callv 0 [(.agg [(jA 2),(jA 3),(jA 4),(jA 5),(jA 6),(jA 7),(.va 3),(.va 4),(.va 5)])] [(.agg [jD,jD,jD,jD,jD,jD,.val,.val,.val])]
 (.app none (.lit [[(jA 8),(jA 9),(jA 10),(jA 11),(jA 12),(jA 13),(.va 6),(.va 7),(.va 8)]]) 9
 (.appM (.va 1) (.va 9) 9 65
 (nD (treeB (jP 1))
 (jU 0 [(.a 0),(jP 1)] [] [(.va 0),(.va 10),(.va 2)])))))))
 (.ret true (.va 1) []))
def d8W:Sx.Sys:=⟨[(.sh (.one .val)),(.sh (.one .val))],a5k,[a1I],none,none⟩
def b1t:List Cfg:=[{todo:=[(.code (tfR 6 52)),(.inLoop (tfR 6 52)),(.inBlock 0),(.code [true,true,true])],sl:=[(.junk 0),(.va 0),.undef,.undef,(.junk 1),(.va 1),.undef,(.junk 2),(.va 2),(jA 0),(jA 1)]++jkR 3 10++[.undef],H:=[],ni:=2,nb:=0,nv:=3,nj:=13}]
theorem b2r:SysOk Tryz.prog 45 d8W:=a0K (c:=(cg [(tfR 6 52)] [] [(15,[65])] true true true true)) (a0H _ _ _ _ _ _ _ _ _) Tryz.func45 Tryz.call45 (by kernel_rfl) b1t d8W 5000 rfl (by kernel_rfl) (by kernel_rfl) rfl
def a8L:PT :=
 (.ite (.le (.l 0) (.a 0))
 (nD (.is 1 0)
 (lO false (.pa 0 17) [.val]
 (nD (.is 0 1)
 (.ret false (.bool (.lt (.a 0) (.slen 1))) []))))
 rF)
def e0g:Sx.Sys:=⟨[(.sh (.one .val)),(.sh (.one jD))],a8L,[],none,none⟩
def b7j:List Cfg:=[]
theorem c0f:SysOk Tryz.prog 53 e0g:=a0K (c:=(cg [] [] [] false false false true)) (a0H _ _ _ _ _ _ _ _ _) Tryz.func53 Tryz.call53 (by kernel_rfl) b7j e0g 5000 rfl (by kernel_rfl) (by kernel_rfl) rfl
def a6H:PT :=
 (cA 95 [(.agg [(jA 0),(jA 1),(jA 2),(jA 3)])] [] [(.one .val)]
  (jU 0 [(.a 10),(.a 11),(.a 12),(.a 13),(.a 14),(.a 15),(.l 0),(.a 0),(.a 1),(.a 2),(.a 3),(.a 4),(.a 5),(.a 6),(.a 7),(.a 8),(.a 9),(.a 4),(.a 5),(.a 6),(.a 7),(.a 8),(.a 9)] [] [(.va 0)]))
def a5Z:PT :=
 (cA 29 [(.agg [(jA 0),(jA 1),(jA 2),(jA 3)])] [] [(.one jD)]
 (.ite (.not (.eq (.a 16) (.l 0)))
 (.ret false (.tup [(.agg [(jE 0),(jE 0),(jE 0),(jE 0),(jE 0),(jE 0)]),(jA 16)]) [])
 (.both a6H a6H)))
def a1j:PT :=
 (.ite (.lt (.a 6) (.l 6))
 (.ite (.eq (.a 6) (.l 5))
  (.ite (.lt (.l 0) (.a 5))
  (cA 96 [(.agg [(jA 11),(jA 12),(jA 13),(jA 14),(jA 15),(jA 16)])] [] [(.one .bool)]
  (.ite (.a 0)
   (.callv 0 [(jA 16)] [(.one jD)]
   (jU 0 [(.a 0),(.a 1),(.a 2),(.a 3),(.a 4),(.a 5),(.l 6),(.a 7),(.a 8),(.a 9),(.a 10),(.a 11),(.a 12),(.a 13),(.a 14),(.a 15),(.a 16),(.a 17),(.a 18),(.a 19),(.a 20),(.a 21),(.a 23)] [] [(.va 0)]))
   (jU 0 [(.a 0),(.a 1),(.a 2),(.a 3),(.a 4),(.a 5),(.l 6),(.a 7),(.a 8),(.a 9),(.a 10),(.a 11),(.a 12),(.a 13),(.a 14),(.a 15),(.a 16),(.a 17),(.a 18),(.a 19),(.a 20),(.a 21),(.a 22)] [] [(.va 0)])))
  (jU 0 [(.a 0),(.a 1),(.a 2),(.a 3),(.a 4),(.a 5),(.l 6),(.a 7),(.a 8),(.a 9),(.a 10),(.a 11),(.a 12),(.a 13),(.a 14),(.a 15),(.a 16),(.a 17),(.a 18),(.a 19),(.a 20),(.a 21),(.a 22)] [] [(.va 0)]))
  (.ite (.eq (.a 6) (.l 4))
  (.ite (.lt (.l 0) (.a 4))
   (cA 96 [(.agg [(jA 11),(jA 12),(jA 13),(jA 14),(jA 15),(jA 16)])] [] [(.one .bool)]
   (.ite (.a 0)
   (.callv 0 [(jA 15)] [(.one jD)]
   (jU 0 [(.a 0),(.a 1),(.a 2),(.a 3),(.a 4),(.a 5),(.l 5),(.a 7),(.a 8),(.a 9),(.a 10),(.a 11),(.a 12),(.a 13),(.a 14),(.a 15),(.a 16),(.a 17),(.a 18),(.a 19),(.a 20),(.a 23),(.a 22)] [] [(.va 0)]))
   (jU 0 [(.a 0),(.a 1),(.a 2),(.a 3),(.a 4),(.a 5),(.l 5),(.a 7),(.a 8),(.a 9),(.a 10),(.a 11),(.a 12),(.a 13),(.a 14),(.a 15),(.a 16),(.a 17),(.a 18),(.a 19),(.a 20),(.a 21),(.a 22)] [] [(.va 0)])))
   (jU 0 [(.a 0),(.a 1),(.a 2),(.a 3),(.a 4),(.a 5),(.l 5),(.a 7),(.a 8),(.a 9),(.a 10),(.a 11),(.a 12),(.a 13),(.a 14),(.a 15),(.a 16),(.a 17),(.a 18),(.a 19),(.a 20),(.a 21),(.a 22)] [] [(.va 0)]))
  (.ite (.eq (.a 6) (.l 3))
   (.ite (.lt (.l 0) (.a 3))
   (cA 96 [(.agg [(jA 11),(jA 12),(jA 13),(jA 14),(jA 15),(jA 16)])] [] [(.one .bool)]
   (.ite (.a 0)
    (.callv 0 [(jA 14)] [(.one jD)]
    (jU 0 [(.a 0),(.a 1),(.a 2),(.a 3),(.a 4),(.a 5),(.l 4),(.a 7),(.a 8),(.a 9),(.a 10),(.a 11),(.a 12),(.a 13),(.a 14),(.a 15),(.a 16),(.a 17),(.a 18),(.a 19),(.a 23),(.a 21),(.a 22)] [] [(.va 0)]))
    (jU 0 [(.a 0),(.a 1),(.a 2),(.a 3),(.a 4),(.a 5),(.l 4),(.a 7),(.a 8),(.a 9),(.a 10),(.a 11),(.a 12),(.a 13),(.a 14),(.a 15),(.a 16),(.a 17),(.a 18),(.a 19),(.a 20),(.a 21),(.a 22)] [] [(.va 0)])))
   (jU 0 [(.a 0),(.a 1),(.a 2),(.a 3),(.a 4),(.a 5),(.l 4),(.a 7),(.a 8),(.a 9),(.a 10),(.a 11),(.a 12),(.a 13),(.a 14),(.a 15),(.a 16),(.a 17),(.a 18),(.a 19),(.a 20),(.a 21),(.a 22)] [] [(.va 0)]))
   (.ite (.eq (.a 6) (.l 2))
   (.ite (.lt (.l 0) (.a 2))
    (cA 96 [(.agg [(jA 11),(jA 12),(jA 13),(jA 14),(jA 15),(jA 16)])] [] [(.one .bool)]
    (.ite (.a 0)
    (.callv 0 [(jA 13)] [(.one jD)]
    (jU 0 [(.a 0),(.a 1),(.a 2),(.a 3),(.a 4),(.a 5),(.l 3),(.a 7),(.a 8),(.a 9),(.a 10),(.a 11),(.a 12),(.a 13),(.a 14),(.a 15),(.a 16),(.a 17),(.a 18),(.a 23),(.a 20),(.a 21),(.a 22)] [] [(.va 0)]))
    (jU 0 [(.a 0),(.a 1),(.a 2),(.a 3),(.a 4),(.a 5),(.l 3),(.a 7),(.a 8),(.a 9),(.a 10),(.a 11),(.a 12),(.a 13),(.a 14),(.a 15),(.a 16),(.a 17),(.a 18),(.a 19),(.a 20),(.a 21),(.a 22)] [] [(.va 0)])))
    (jU 0 [(.a 0),(.a 1),(.a 2),(.a 3),(.a 4),(.a 5),(.l 3),(.a 7),(.a 8),(.a 9),(.a 10),(.a 11),(.a 12),(.a 13),(.a 14),(.a 15),(.a 16),(.a 17),(.a 18),(.a 19),(.a 20),(.a 21),(.a 22)] [] [(.va 0)]))
   (.ite (.eq (.a 6) (.l 1))
    (.ite (.lt (.l 0) (.a 1))
    (cA 96 [(.agg [(jA 11),(jA 12),(jA 13),(jA 14),(jA 15),(jA 16)])] [] [(.one .bool)]
    (.ite (.a 0)
     (.callv 0 [(jA 12)] [(.one jD)]
     (jU 0 [(.a 0),(.a 1),(.a 2),(.a 3),(.a 4),(.a 5),(.l 2),(.a 7),(.a 8),(.a 9),(.a 10),(.a 11),(.a 12),(.a 13),(.a 14),(.a 15),(.a 16),(.a 17),(.a 23),(.a 19),(.a 20),(.a 21),(.a 22)] [] [(.va 0)]))
     (jU 0 [(.a 0),(.a 1),(.a 2),(.a 3),(.a 4),(.a 5),(.l 2),(.a 7),(.a 8),(.a 9),(.a 10),(.a 11),(.a 12),(.a 13),(.a 14),(.a 15),(.a 16),(.a 17),(.a 18),(.a 19),(.a 20),(.a 21),(.a 22)] [] [(.va 0)])))
    (jU 0 [(.a 0),(.a 1),(.a 2),(.a 3),(.a 4),(.a 5),(.l 2),(.a 7),(.a 8),(.a 9),(.a 10),(.a 11),(.a 12),(.a 13),(.a 14),(.a 15),(.a 16),(.a 17),(.a 18),(.a 19),(.a 20),(.a 21),(.a 22)] [] [(.va 0)]))
    (.ite (.eq (.a 6) (.l 0))
    (.ite (.lt (.l 0) (.a 0))
     (cA 96 [(.agg [(jA 11),(jA 12),(jA 13),(jA 14),(jA 15),(jA 16)])] [] [(.one .bool)]
     (.ite (.a 0)
     (.callv 0 [(jA 11)] [(.one jD)]
     (jU 0 [(.a 0),(.a 1),(.a 2),(.a 3),(.a 4),(.a 5),(.l 1),(.a 7),(.a 8),(.a 9),(.a 10),(.a 11),(.a 12),(.a 13),(.a 14),(.a 15),(.a 16),(.a 23),(.a 18),(.a 19),(.a 20),(.a 21),(.a 22)] [] [(.va 0)]))
     (jU 0 [(.a 0),(.a 1),(.a 2),(.a 3),(.a 4),(.a 5),(.l 1),(.a 7),(.a 8),(.a 9),(.a 10),(.a 11),(.a 12),(.a 13),(.a 14),(.a 15),(.a 16),(.a 17),(.a 18),(.a 19),(.a 20),(.a 21),(.a 22)] [] [(.va 0)])))
     (jU 0 [(.a 0),(.a 1),(.a 2),(.a 3),(.a 4),(.a 5),(.l 1),(.a 7),(.a 8),(.a 9),(.a 10),(.a 11),(.a 12),(.a 13),(.a 14),(.a 15),(.a 16),(.a 17),(.a 18),(.a 19),(.a 20),(.a 21),(.a 22)] [] [(.va 0)]))
    .stuck))))))
 (cA 96 [(.agg [(jA 11),(jA 12),(jA 13),(jA 14),(jA 15),(jA 16)])] [] [(.one .bool)]
 (.ite (.not (.a 0))
  (.ret false (.tup [(.agg [(jE 0),(jE 0),(jE 0),(jE 0),(jE 0),(jE 0)]),(jE 4)]) [])
  (.ite (.not (.and (.eq (.a 17) (.a 11)) (.and (.eq (.a 18) (.a 12)) (.and (.eq (.a 19) (.a 13)) (.and (.eq (.a 20) (.a 14)) (.and (.eq (.a 21) (.a 15)) (.eq (.a 22) (.a 16))))))))
  (cA 96 [(.agg [(jA 17),(jA 18),(jA 19),(jA 20),(jA 21),(jA 22)])] [] [(.one .bool)]
  (.ite (.not (.a 1))
   (.ret false (.tup [(.agg [(jE 0),(jE 0),(jE 0),(jE 0),(jE 0),(jE 0)]),(jE 4)]) [])
   (.ret false (.tup [(.agg [(jA 17),(jA 18),(jA 19),(jA 20),(jA 21),(jA 22)]),(jE 0)]) [])))
  (.ret false (.tup [(.agg [(jA 17),(jA 18),(jA 19),(jA 20),(jA 21),(jA 22)]),(jE 0)]) [])))))
def d8N:Sx.Sys:=⟨[(.sh (.agg [jD,jD,jD,jD])),(.sh (.agg [jD,jD,jD,jD,jD,jD])),(.sh (.agg [jD,jD,jD,jD,jD,jD]))],a5Z,[a1j],none,none⟩
def b8a:List Cfg:=[{todo:=[(.code (tfR 7 116)),(.inLoop (tfR 7 116)),(.inBlock 0),(.code [true,true,true,true])],sl:=jkR 0 4++[(.ptr 1 0),(.junk 4),(.ptr 3 0),(.junk 5),(.junk 6),(.va 0),(.ptr 4 0)]++jkR 7 6++[.undef,.undef,(.junk 13),(.junk 14),(.junk 15),(.agg [(jA 0),(jA 1),(jA 2),(jA 3),(jA 4),(jA 5)]),(jA 6)]++jkR 16 17++udR 15,H:=[(.cells [(jA 7),(jA 8),(jA 9),(jA 10)] 29 false),(.cells [(jA 11),(jA 12),(jA 13),(jA 14),(jA 15),(jA 16)] 38 false),(.cells [(jA 0),(jA 1),(jA 2),(jA 3),(jA 4),(jA 5)] 51 false),(.cells [(jE 0),(jE 0),(jE 0),(jE 0),(jE 0),(jE 0)] 38 false),(.cells [(jA 17),(jA 18),(jA 19),(jA 20),(jA 21),(jA 22)] 38 false)],ni:=23,nb:=0,nv:=1,nj:=33}]
theorem b9i:SysOk Tryz.prog 61 d8N:=a0K (c:=(cg [(tfR 7 116)] [] [(34,[2])] false false false true)) (a0H _ _ _ _ _ _ _ _ _) Tryz.func61 Tryz.call61 (by kernel_rfl) b8a d8N 5000 rfl (by kernel_rfl) (by kernel_rfl) rfl
def a1y:PT :=
 (nD (.is 0 0)
 (.ite (.nil 0)
 (.ret false .nilS [])
 (.app none (.lit []) 3
 (.app (some 1) (.va 0) 3
 (.ret false (.va 2) [])))))
def e0c:Sx.Sys:=⟨[(.sh (.one .val))],a1y,[],none,none⟩
def a8U:List Cfg:=[]
def a5C:PT :=
 (nD (.is 3 0)
 (.ite (.sis 0 [])
 rF
 (nD (.is 3 0)
 (.ite (.lt (.l 12) (.stl 0))
  rF
  (nD (.is 3 0)
  (nD (.lt (.l 0) (.stl 0))
  (cA 113 [(.int .u8 (.sat 0 (.l 0)))] [] [(.one .bool)]
  (.ite (.not (.a 0))
  rF
  (cA 114 [(.va 0)] [] [(.agg [jD,.val,jD,jD]),(.one jD)]
  (.ite (.eq (.a 3) (.l 0))
   (nD (.is 3 1)
   (nD (.is 3 0)
   (.ret false (.bool (.seq 1 0)) [])))
   rF))))))))))
def d9E:Sx.Sys:=⟨[(.sh (.one .val))],a5C,[],none,none⟩
def b1Z:List Cfg:=[]
theorem b3H:SysOk Tryz.prog 77 d9E:=a0K (c:=(cg [] [] [] false false false true)) (a0H _ _ _ _ _ _ _ _ _) Tryz.func77 Tryz.call77 (by kernel_rfl) b1Z d9E 5000 rfl (by kernel_rfl) (by kernel_rfl) rfl
def b0W:PT :=
 (.ite (.lt (.a 0) (.l 0))
 (.ret false (jE 4) [])
 (.ite (.lt (.l 4) (.a 0))
  (.ret false (jE 4) [])
  (.ite (.lt (.a 1) (.l 0))
  (.ret false (jE 4) [])
  (.ite (.lt (.l 4) (.a 1))
   (.ret false (jE 4) [])
   (.ite (.lt (.a 2) (.l 0))
   (.ret false (jE 4) [])
   (.ite (.lt (.l 4) (.a 2))
    (.ret false (jE 4) [])
    (.ite (.lt (.a 3) (.l 0))
    (.ret false (jE 4) [])
    (.ite (.lt (.l 4) (.a 3))
     (.ret false (jE 4) [])
     (.ite (.lt (.a 4) (.l 0))
     (.ret false (jE 4) [])
     (.ite (.lt (.l 4) (.a 4))
      (.ret false (jE 4) [])
      (.ite (.lt (.a 5) (.l 0))
      (.ret false (jE 4) [])
      (.ite (.lt (.l 4) (.a 5))
       (.ret false (jE 4) [])
       (.ret false (jE 0) [])))))))))))))
def e0y:Sx.Sys:=⟨[(.sh (.agg [jD,jD,jD,jD,jD,jD]))],b0W,[],none,none⟩
def c0C:List Cfg:=[]
theorem c3C:SysOk Tryz.prog 85 e0y:=a0K (c:=(cg [] [] [] false false false true)) (a0H _ _ _ _ _ _ _ _ _) Tryz.func85 Tryz.call85 (by kernel_rfl) c0C e0y 5000 rfl (by kernel_rfl) (by kernel_rfl) rfl
def b2O:PT :=
 (jU 0 [(.l 0),(.a 0),(.a 1),(.a 2),(.a 3),(.a 4),(.a 5),(.a 6),(.a 7),(.a 8),(.a 9),(.a 10),(.a 11),(.l 0),(.l 0),(.l 0),(.l 0),(.l 0),(.l 0)] [] [])
def a1E:PT :=
 (.ite (.lt (.a 0) (.l 6))
 (.ite (.eq (.a 0) (.l 5))
  (.ite (.lt (.a 12) (.a 6))
  (nD (treeB (.sub (.a 6) (.a 12)))
  (jU 0 [(.l 6),(.a 1),(.a 2),(.a 3),(.a 4),(.a 5),(.a 6),(.a 7),(.a 8),(.a 9),(.a 10),(.a 11),(.a 12),(.a 13),(.a 14),(.a 15),(.a 16),(.a 17),(.sub (.a 6) (.a 12))] [] []))
  (jU 0 [(.l 6),(.a 1),(.a 2),(.a 3),(.a 4),(.a 5),(.a 6),(.a 7),(.a 8),(.a 9),(.a 10),(.a 11),(.a 12),(.a 13),(.a 14),(.a 15),(.a 16),(.a 17),(.a 18)] [] []))
  (.ite (.eq (.a 0) (.l 4))
  (.ite (.lt (.a 11) (.a 5))
   (nD (treeB (.sub (.a 5) (.a 11)))
   (jU 0 [(.l 5),(.a 1),(.a 2),(.a 3),(.a 4),(.a 5),(.a 6),(.a 7),(.a 8),(.a 9),(.a 10),(.a 11),(.a 12),(.a 13),(.a 14),(.a 15),(.a 16),(.sub (.a 5) (.a 11)),(.a 18)] [] []))
   (jU 0 [(.l 5),(.a 1),(.a 2),(.a 3),(.a 4),(.a 5),(.a 6),(.a 7),(.a 8),(.a 9),(.a 10),(.a 11),(.a 12),(.a 13),(.a 14),(.a 15),(.a 16),(.a 17),(.a 18)] [] []))
  (.ite (.eq (.a 0) (.l 3))
   (.ite (.lt (.a 10) (.a 4))
   (nD (treeB (.sub (.a 4) (.a 10)))
   (jU 0 [(.l 4),(.a 1),(.a 2),(.a 3),(.a 4),(.a 5),(.a 6),(.a 7),(.a 8),(.a 9),(.a 10),(.a 11),(.a 12),(.a 13),(.a 14),(.a 15),(.sub (.a 4) (.a 10)),(.a 17),(.a 18)] [] []))
   (jU 0 [(.l 4),(.a 1),(.a 2),(.a 3),(.a 4),(.a 5),(.a 6),(.a 7),(.a 8),(.a 9),(.a 10),(.a 11),(.a 12),(.a 13),(.a 14),(.a 15),(.a 16),(.a 17),(.a 18)] [] []))
   (.ite (.eq (.a 0) (.l 2))
   (.ite (.lt (.a 9) (.a 3))
    (nD (treeB (.sub (.a 3) (.a 9)))
    (jU 0 [(.l 3),(.a 1),(.a 2),(.a 3),(.a 4),(.a 5),(.a 6),(.a 7),(.a 8),(.a 9),(.a 10),(.a 11),(.a 12),(.a 13),(.a 14),(.sub (.a 3) (.a 9)),(.a 16),(.a 17),(.a 18)] [] []))
    (jU 0 [(.l 3),(.a 1),(.a 2),(.a 3),(.a 4),(.a 5),(.a 6),(.a 7),(.a 8),(.a 9),(.a 10),(.a 11),(.a 12),(.a 13),(.a 14),(.a 15),(.a 16),(.a 17),(.a 18)] [] []))
   (.ite (.eq (.a 0) (.l 1))
    (.ite (.lt (.a 8) (.a 2))
    (nD (treeB (.sub (.a 2) (.a 8)))
    (jU 0 [(.l 2),(.a 1),(.a 2),(.a 3),(.a 4),(.a 5),(.a 6),(.a 7),(.a 8),(.a 9),(.a 10),(.a 11),(.a 12),(.a 13),(.sub (.a 2) (.a 8)),(.a 15),(.a 16),(.a 17),(.a 18)] [] []))
    (jU 0 [(.l 2),(.a 1),(.a 2),(.a 3),(.a 4),(.a 5),(.a 6),(.a 7),(.a 8),(.a 9),(.a 10),(.a 11),(.a 12),(.a 13),(.a 14),(.a 15),(.a 16),(.a 17),(.a 18)] [] []))
    (.ite (.eq (.a 0) (.l 0))
    (.ite (.lt (.a 7) (.a 1))
     (nD (treeB (.sub (.a 1) (.a 7)))
     (jU 0 [(.l 1),(.a 1),(.a 2),(.a 3),(.a 4),(.a 5),(.a 6),(.a 7),(.a 8),(.a 9),(.a 10),(.a 11),(.a 12),(.sub (.a 1) (.a 7)),(.a 14),(.a 15),(.a 16),(.a 17),(.a 18)] [] []))
     (jU 0 [(.l 1),(.a 1),(.a 2),(.a 3),(.a 4),(.a 5),(.a 6),(.a 7),(.a 8),(.a 9),(.a 10),(.a 11),(.a 12),(.a 13),(.a 14),(.a 15),(.a 16),(.a 17),(.a 18)] [] []))
    .stuck))))))
 (.ret false (.agg [(jA 13),(jA 14),(jA 15),(jA 16),(jA 17),(jA 18)]) []))
def d8S:Sx.Sys:=⟨[(.sh (.agg [jD,jD,jD,jD,jD,jD])),(.sh (.agg [jD,jD,jD,jD,jD,jD]))],b2O,[a1E],none,none⟩
def c2L:List Cfg:=[{todo:=[(.code (tfR 6 52)),(.inLoop (tfR 6 52)),(.inBlock 0),(.code [true,true,true])],sl:=[(.junk 0),(.junk 1),(.ptr 0 0),(.ptr 1 0),(.ptr 2 0),(.ptr 3 0),(.junk 2),(jA 0)]++jkR 3 19++[.undef],H:=[(.cells [(jA 1),(jA 2),(jA 3),(jA 4),(jA 5),(jA 6)] 138 false),(.cells [(jA 7),(jA 8),(jA 9),(jA 10),(jA 11),(jA 12)] 138 false),(.cells [(jE 0),(jE 0),(jE 0),(jE 0),(jE 0),(jE 0)] 51 false),(.cells [(jA 13),(jA 14),(jA 15),(jA 16),(jA 17),(jA 18)] 51 false)],ni:=19,nb:=0,nv:=0,nj:=22}]
theorem c5a:SysOk Tryz.prog 93 d8S:=a0K (c:=(cg [(tfR 6 52)] [] [] false false false true)) (a0H _ _ _ _ _ _ _ _ _) Tryz.func93 Tryz.call93 (by kernel_rfl) c2L d8S 5000 rfl (by kernel_rfl) (by kernel_rfl) rfl
def b1E:PT :=
 (nD (.is 0 0)
 (jU 0 [(.slen 0),(.l 0)] [] [(.va 1),(.va 0)]))
def a4i:PT :=
 (.ite (.lt (.a 1) (.a 0))
 (nD (treeI (.a 1) (.slen 1))
 (lO false (.ea 1 (.a 1) 4 0) [.val,jD,jD,jD]
 (nD (.is 3 2)
 (nD (.is 3 0)
 (.ite (.seq 2 0)
  (.ret false (.tup [(jA 1),(.bool (.t true))]) [])
  (nD (treeB (jP 1))
  (jU 0 [(.a 0),(jP 1)] [] [(.va 0),(.va 1)])))))))
 (.ret false (.tup [(jE 0),(.bool (.t false))]) []))
def d9z:Sx.Sys:=⟨[(.sh (.one .val)),(.sh (.one .val))],b1E,[a4i],none,none⟩
def c1Y:List Cfg:=[{todo:=[(.code (tfR 5 20)),(.inLoop (tfR 5 20)),(.inBlock 0),(.code [true,true])],sl:=[(.junk 0),(.va 0),.undef,.undef]++jkR 1 4++[(.va 1),(jA 0),(jA 1)]++jkR 5 8++[.undef,(.junk 13)],H:=[],ni:=2,nb:=0,nv:=2,nj:=14}]
theorem c3M:SysOk Tryz.prog 101 d9z:=a0K (c:=(cg [(tfR 5 20)] [] [] false false false true)) (a0H _ _ _ _ _ _ _ _ _) Tryz.func101 Tryz.call101 (by kernel_rfl) c1Y d9z 5000 rfl (by kernel_rfl) (by kernel_rfl) rfl
def b0q:PT :=
 (jU 0 [(.a 6),(.l 0),(.a 0),(.a 1),(.a 2),(.a 3),(.a 4),(.a 5),(.a 7),(.a 8),(.a 9),(.a 10),(.a 11),(.a 12)] [] [(.va 0),(.va 1),(.va 2),(.va 3)])
def a1t:PT :=
 (.ite (.lt (.a 1) (.l 6))
 (.ite (.eq (.a 1) (.l 5))
  (.ite (.eq (.a 7) (.l 0))
  (jU 0 [(.a 0),(.l 6),(.a 2),(.a 3),(.a 4),(.a 5),(.a 6),(.a 7),(.a 8),(.a 9),(.a 10),(.a 11),(.a 12),(.l 0)] [] [(.va 0),(.va 1),(.va 2),(.va 3)])
  (nD (treeI (.a 0) (.slen 1))
  (lO true (.ea 1 (.a 0) 4 1) [jD]
  (.ite (.eq (.a 7) (.a 14))
   (jU 0 [(.a 0),(.l 6),(.a 2),(.a 3),(.a 4),(.a 5),(.a 6),(.a 7),(.a 8),(.a 9),(.a 10),(.a 11),(.a 12),(.l 0)] [] [(.va 0),(.va 1),(.va 2),(.va 3)])
   (jU 0 [(.a 0),(.l 6),(.a 2),(.a 3),(.a 4),(.a 5),(.a 6),(.a 7),(.a 8),(.a 9),(.a 10),(.a 11),(.a 12),(.a 13)] [] [(.va 0),(.va 1),(.va 2),(.va 3)])))))
  (.ite (.eq (.a 1) (.l 4))
  (.ite (.eq (.a 6) (.l 0))
   (jU 0 [(.a 0),(.l 5),(.a 2),(.a 3),(.a 4),(.a 5),(.a 6),(.a 7),(.a 8),(.a 9),(.a 10),(.a 11),(.l 0),(.a 13)] [] [(.va 0),(.va 1),(.va 2),(.va 3)])
   (nD (treeI (.a 0) (.slen 1))
   (lO true (.ea 1 (.a 0) 4 1) [jD]
   (.ite (.eq (.a 6) (.a 14))
   (jU 0 [(.a 0),(.l 5),(.a 2),(.a 3),(.a 4),(.a 5),(.a 6),(.a 7),(.a 8),(.a 9),(.a 10),(.a 11),(.l 0),(.a 13)] [] [(.va 0),(.va 1),(.va 2),(.va 3)])
   (jU 0 [(.a 0),(.l 5),(.a 2),(.a 3),(.a 4),(.a 5),(.a 6),(.a 7),(.a 8),(.a 9),(.a 10),(.a 11),(.a 12),(.a 13)] [] [(.va 0),(.va 1),(.va 2),(.va 3)])))))
  (.ite (.eq (.a 1) (.l 3))
   (.ite (.eq (.a 5) (.l 0))
   (jU 0 [(.a 0),(.l 4),(.a 2),(.a 3),(.a 4),(.a 5),(.a 6),(.a 7),(.a 8),(.a 9),(.a 10),(.l 0),(.a 12),(.a 13)] [] [(.va 0),(.va 1),(.va 2),(.va 3)])
   (nD (treeI (.a 0) (.slen 1))
   (lO true (.ea 1 (.a 0) 4 1) [jD]
   (.ite (.eq (.a 5) (.a 14))
    (jU 0 [(.a 0),(.l 4),(.a 2),(.a 3),(.a 4),(.a 5),(.a 6),(.a 7),(.a 8),(.a 9),(.a 10),(.l 0),(.a 12),(.a 13)] [] [(.va 0),(.va 1),(.va 2),(.va 3)])
    (jU 0 [(.a 0),(.l 4),(.a 2),(.a 3),(.a 4),(.a 5),(.a 6),(.a 7),(.a 8),(.a 9),(.a 10),(.a 11),(.a 12),(.a 13)] [] [(.va 0),(.va 1),(.va 2),(.va 3)])))))
   (.ite (.eq (.a 1) (.l 2))
   (.ite (.eq (.a 4) (.l 0))
    (jU 0 [(.a 0),(.l 3),(.a 2),(.a 3),(.a 4),(.a 5),(.a 6),(.a 7),(.a 8),(.a 9),(.l 0),(.a 11),(.a 12),(.a 13)] [] [(.va 0),(.va 1),(.va 2),(.va 3)])
    (nD (treeI (.a 0) (.slen 1))
    (lO true (.ea 1 (.a 0) 4 1) [jD]
    (.ite (.eq (.a 4) (.a 14))
    (jU 0 [(.a 0),(.l 3),(.a 2),(.a 3),(.a 4),(.a 5),(.a 6),(.a 7),(.a 8),(.a 9),(.l 0),(.a 11),(.a 12),(.a 13)] [] [(.va 0),(.va 1),(.va 2),(.va 3)])
    (jU 0 [(.a 0),(.l 3),(.a 2),(.a 3),(.a 4),(.a 5),(.a 6),(.a 7),(.a 8),(.a 9),(.a 10),(.a 11),(.a 12),(.a 13)] [] [(.va 0),(.va 1),(.va 2),(.va 3)])))))
   (.ite (.eq (.a 1) (.l 1))
    (.ite (.eq (.a 3) (.l 0))
    (jU 0 [(.a 0),(.l 2),(.a 2),(.a 3),(.a 4),(.a 5),(.a 6),(.a 7),(.a 8),(.l 0),(.a 10),(.a 11),(.a 12),(.a 13)] [] [(.va 0),(.va 1),(.va 2),(.va 3)])
    (nD (treeI (.a 0) (.slen 1))
    (lO true (.ea 1 (.a 0) 4 1) [jD]
    (.ite (.eq (.a 3) (.a 14))
     (jU 0 [(.a 0),(.l 2),(.a 2),(.a 3),(.a 4),(.a 5),(.a 6),(.a 7),(.a 8),(.l 0),(.a 10),(.a 11),(.a 12),(.a 13)] [] [(.va 0),(.va 1),(.va 2),(.va 3)])
     (jU 0 [(.a 0),(.l 2),(.a 2),(.a 3),(.a 4),(.a 5),(.a 6),(.a 7),(.a 8),(.a 9),(.a 10),(.a 11),(.a 12),(.a 13)] [] [(.va 0),(.va 1),(.va 2),(.va 3)])))))
    (.ite (.eq (.a 1) (.l 0))
    (.ite (.eq (.a 2) (.l 0))
     (jU 0 [(.a 0),(.l 1),(.a 2),(.a 3),(.a 4),(.a 5),(.a 6),(.a 7),(.l 0),(.a 9),(.a 10),(.a 11),(.a 12),(.a 13)] [] [(.va 0),(.va 1),(.va 2),(.va 3)])
     (nD (treeI (.a 0) (.slen 1))
     (lO true (.ea 1 (.a 0) 4 1) [jD]
     (.ite (.eq (.a 2) (.a 14))
     (jU 0 [(.a 0),(.l 1),(.a 2),(.a 3),(.a 4),(.a 5),(.a 6),(.a 7),(.l 0),(.a 9),(.a 10),(.a 11),(.a 12),(.a 13)] [] [(.va 0),(.va 1),(.va 2),(.va 3)])
     (jU 0 [(.a 0),(.l 1),(.a 2),(.a 3),(.a 4),(.a 5),(.a 6),(.a 7),(.a 8),(.a 9),(.a 10),(.a 11),(.a 12),(.a 13)] [] [(.va 0),(.va 1),(.va 2),(.va 3)])))))
    .stuck))))))
 (.ret false (.agg [(jA 8),(jA 9),(jA 10),(jA 11),(jA 12),(jA 13)]) []))
def d8Q:Sx.Sys:=⟨[(.sh (.agg [.val,.val,.val,.val])),(.sh (.agg [jD,jD,jD,jD,jD,jD])),(.sh (.one jD)),(.sh (.agg [jD,jD,jD,jD,jD,jD]))],b0q,[a1t],none,none⟩
def b9k:List Cfg:=[{todo:=[(.code (tfR 5 20)),(.inLoop (tfR 5 20)),(.inBlock 0),(.code [true,true])],sl:=[(.junk 0),(.junk 1),(jA 0),(.junk 2),(.ptr 0 0),(.ptr 1 0),.undef,(.ptr 2 0),(.ptr 3 0),(.junk 3),(jA 1)]++jkR 4 21++[.undef],H:=[(.cells [(.va 0),(.va 1),(.va 2),(.va 3)] 27 false),(.cells [(jA 2),(jA 3),(jA 4),(jA 5),(jA 6),(jA 7)] 51 false),(.cells [(jA 8),(jA 9),(jA 10),(jA 11),(jA 12),(jA 13)] 51 false),(.cells [(jE 0),(jE 0),(jE 0),(jE 0),(jE 0),(jE 0)] 51 false)],ni:=14,nb:=0,nv:=4,nj:=25}]
theorem c1z:SysOk Tryz.prog 117 d8Q:=a0K (c:=(cg [(tfR 5 20)] [] [] false false false true)) (a0H _ _ _ _ _ _ _ _ _) Tryz.func117 Tryz.call117 (by kernel_rfl) b9k d8Q 5000 rfl (by kernel_rfl) (by kernel_rfl) rfl
def b4V:PT :=
 (jU 0 [(.a 0),(.a 0)] [] [(.va 0),(.va 1)])
def a6m:PT :=
 (nD (.is 3 0)
 (.ite (.lt (.a 1) (.stl 0))
 (nD (.is 3 0)
 (nD (treeI (.a 1) (.stl 0))
 (nD (.and (.le (.l (-2147483648)) (.sat 0 (.a 1))) (.le (.sat 0 (.a 1)) (.l 2147483647)))
 (.callv 1 [(.int .i32 (.sat 0 (.a 1)))] [(.one .bool)]
 (.ite (.a 0)
  (nD (treeB (jP 1))
  (jU 0 [(.a 0),(jP 1)] [] [(.va 0),(.va 1)]))
  (.scut 0 (some (.a 0)) (some (.a 1))
  (.ret false (.va 2) [])))))))
 (.scut 0 (some (.a 0)) (some (.a 1))
 (.ret false (.va 2) []))))
def e0e:Sx.Sys:=⟨[(.sh (.one .val)),(.sh (.one jD)),(.sh (.one .val))],b4V,[a6m],none,none⟩
def c4k:List Cfg:=[{todo:=[(.code (tfR 5 24)),(.inLoop (tfR 5 24)),(.inBlock 0),(.code [true,true,true])],sl:=[(.va 0),(jA 0),(.va 1),.undef,.undef,.undef,(.junk 0),(jA 1)]++jkR 1 15++udR 4,H:=[],ni:=2,nb:=0,nv:=2,nj:=16}]
theorem c6s:SysOk Tryz.prog 125 e0e:=a0K (c:=(cg [(tfR 5 24)] [] [(14,[4])] false false false true)) (a0H _ _ _ _ _ _ _ _ _) Tryz.func125 Tryz.call125 (by kernel_rfl) c4k e0e 5000 rfl (by kernel_rfl) (by kernel_rfl) rfl
def a9n:PT :=
 (cA 131 [(.agg [(.va 0),(jA 0),(jA 1),(jA 2),(jA 3),(jA 4),(jA 5)]),(.fn 138 0 [])] [] [(.one jD)]
 (.ret false (jA 6) []))
def e0l:Sx.Sys:=⟨[(.sh (.one .val)),(.sh (.agg [jD,jD,jD,jD,jD,jD]))],a9n,[],none,none⟩
def b8v:List Cfg:=[]
theorem c0Q:SysOk Tryz.prog 133 e0l:=a0K (c:=(cg [] [] [(10,[2])] false false false true)) (a0H _ _ _ _ _ _ _ _ _) Tryz.func133 Tryz.call133 (by kernel_rfl) b8v e0l 5000 rfl (by kernel_rfl) (by kernel_rfl) rfl
def a9z:PT :=
 (.mkMap .i64
 (jU 0 [(.a 0)] [] [(.va 0),(.va 1)]))
def a4K:PT :=
 (.mapGet 1 .i64 (.a 0) (.bool (.t false)) false [(.one .bool)]
 (.ite (.not (.a 0))
 (.mapSet 1 .i64 (.a 0) (.bool (.t true))
 (nD (treeI (.a 0) (.slen 0))
 (lO false (.ea 0 (.a 0) 1 0) [jD]
 (jU 0 [(.a 1)] [] [(.va 0),(.va 1)]))))
 (.mapClr 1
 (jU 1 [(.a 0)] [] [(.va 0),(.va 1),.nilS]))))
def a3M:PT :=
 (.mapGet 1 .i64 (.a 0) (.bool (.t false)) false [(.one .bool)]
 (.ite (.not (.a 0))
 (.mapSet 1 .i64 (.a 0) (.bool (.t true))
 (.app none (.lit [[(jA 0)]]) 1
 (.appM (.va 2) (.va 3) 1 3
 (nD (treeI (.a 0) (.slen 0))
 (lO false (.ea 0 (.a 0) 1 0) [jD]
 (jU 1 [(.a 1)] [] [(.va 0),(.va 1),(.va 4)]))))))
 (nD (.is 0 2)
 (.mkM (.slen 2) [(jE 0)] 3 1 8
 (nD (.is 0 2)
 (jU 2 [(.slen 2),(.l 0)] [] [(.va 2),(.va 3)]))))))
def a4H:PT :=
 (.ite (.lt (.a 1) (.a 0))
 (nD (treeI (.a 1) (.slen 0))
 (lO false (.ea 0 (.a 1) 1 0) [jD]
 (nD (.is 0 0)
 (nD (treeB (.sub (.slen 0) (.l 1)))
 (nD (treeB (.sub (.sub (.slen 0) (.l 1)) (.a 1)))
 (nD (treeI (.sub (.sub (.slen 0) (.l 1)) (.a 1)) (.slen 1))
 (.storeM (.ea 1 (.sub (.sub (.slen 0) (.l 1)) (.a 1)) 1 0) [(jA 2)]
 (nD (treeB (jP 1))
 (jU 2 [(.a 0),(jP 1)] [] [(.va 0),(.va 1)])))))))))
 (.ret false (.va 1) []))
def d8L:Sx.Sys:=⟨[(.sh (.one .val)),(.sh (.one jD))],a9z,[a4K,a3M,a4H],none,none⟩
def b8B:List Cfg:=[{todo:=[(.code (tfR 5 24)),(.inLoop (tfR 5 24)),(.inBlock 0),(.code [true,true,true])],sl:=[(.va 0),(jA 0),.undef,.undef,(.junk 0),(.va 1)]++udR 4++jkR 1 11++udR 35,H:=[],ni:=1,nb:=0,nv:=2,nj:=12},
 {todo:=[(.code (tfR 8 248)),(.inLoop (tfR 8 248)),(.inBlock 2),(.code (tfR 6 63))],sl:=[(.va 0),(jA 0),.undef,.undef,(.junk 0),(.va 1),(.va 2),.undef,.undef,.undef]++jkR 1 26++udR 20,H:=[],ni:=1,nb:=0,nv:=3,nj:=27},
 {todo:=[(.code (tfR 11 2036)),(.inLoop (tfR 11 2036)),(.inBlock 4),(.code (tfR 8 255))],sl:=[(.junk 0),(.junk 1),.undef,.undef,(.junk 2),(.junk 3),(.va 0),(.va 1)]++jkR 4 31++[(.va 0),(jA 0),(jA 1)]++jkR 35 13++[.undef],H:=[],ni:=2,nb:=0,nv:=2,nj:=48}]
theorem c0P:SysOk Tryz.prog 141 d8L:=a0K (c:=(cg [(tfR 5 24),(tfR 8 248),(tfR 11 2036)] [] [] true false true true)) (a0H _ _ _ _ _ _ _ _ _) Tryz.func141 Tryz.call141 (by kernel_rfl) b8B d8L 5000 rfl (by kernel_rfl) (by kernel_rfl) rfl
def a6w:PT :=
 (nD (.is 4 0)
 (.ite (.nil 0)
 (.ret false (.agg [(jE 0),(jE 0),(jE 0),(jE 0),(jE 0),(jE 0)]) [])
 (nD (.is 1 0)
 (lO false (.pa 0 9) [jD,jD,jD,jD,jD,jD]
 (.ret false (.agg [(jA 0),(jA 1),(jA 2),(jA 3),(jA 4),(jA 5)]) [])))))
def d9V:Sx.Sys:=⟨[(.sh (.one .val))],a6w,[],none,none⟩
def b3D:List Cfg:=[]
theorem b5W:SysOk Tryz.prog 14 d9V:=a0K (c:=(cg [] [] [] true false false true)) (a0H _ _ _ _ _ _ _ _ _) Tryz.func14 Tryz.call14 (by kernel_rfl) b3D d9V 5000 rfl (by kernel_rfl) (by kernel_rfl) rfl
def b1D:PT :=
 (cA 67 [(.va 0)] [] [(.one .val)]
 (cA 68 [(.va 1)] [] [(.one .val)]
 (cA 69 [(.va 2)] [] [(.one .val)]
 (cA 70 [(.va 3)] [] [(.one .val)]
 (.ret false (.agg [(.va 4),(.va 5),(.va 6),(.va 7)]) [])))))
def e0C:Sx.Sys:=⟨[(.sh (.agg [.val,.val,.val,.val]))],b1D,[],none,none⟩
def c1L:List Cfg:=[]
theorem c3H:SysOk Tryz.prog 30 e0C:=a0K (c:=(cg [] [] [] false false false true)) (a0H _ _ _ _ _ _ _ _ _) Tryz.func30 Tryz.call30 (by kernel_rfl) c1L e0C 5000 rfl (by kernel_rfl) (by kernel_rfl) rfl
def a5p:PT :=
 (cA 51 [(.va 1)] [] [(.one .val)]
  (cA 52 [(.va 2)] [] [(.one .val)]
  (.ret true (.agg [(jA 0),(jA 1),(jA 2),(jA 3),(jA 4),(jA 5),(.va 3),(.va 4),(.va 5)]) [])))
def a8E:PT :=
 (cA 51 [(.va 0)] [] [(.one .val)]
 (.both a5p a5p))
def a5s:PT :=
 (cA 51 [(.va 1)] [] [(.one .val)]
   (cA 52 [(.va 2)] [] [(.one .val)]
   (.ret true (.agg [(jA 0),(jA 1),(jA 2),(jA 3),(jA 4),(jA 5),(.va 3),(.va 4),(.va 5)]) [])))
def a8C:PT :=
 (cA 51 [(.va 0)] [] [(.one .val)]
  (.both a5s a5s))
def a3V:PT :=
 (cA 51 [(.va 0)] [] [(.one .val)]
  (cA 51 [(.va 1)] [] [(.one .val)]
  (cA 52 [(.va 2)] [] [(.one .val)]
  (.ret true (.agg [(jA 0),(jA 1),(jA 2),(jA 3),(jA 4),(jA 5),(.va 3),(.va 4),(.va 5)]) []))))
def a8F:PT :=
 (.both a8C a3V)
def a8s:PT :=
 (.both a3V a3V)
def a8y:PT :=
 (.both a8F a8s)
def a4T:PT :=
 (.both a8E a8y)
def d9T:Sx.Sys:=⟨[(.sh (.agg [jD,jD,jD,jD,jD,jD,.val,.val,.val]))],a4T,[],none,none⟩
def b3T:List Cfg:=[]
theorem b5R:SysOk Tryz.prog 46 d9T:=a0K (c:=(cg [] [] [] true true false true)) (a0H _ _ _ _ _ _ _ _ _) Tryz.func46 Tryz.call46 (by kernel_rfl) b3T d9T 5000 rfl (by kernel_rfl) (by kernel_rfl) rfl
def a9R:PT :=
 (cA 28 [(.agg [(.va 0),(.va 1),(.va 2),(.va 3)])] [] [(.one jD)]
 (.ite (.not (.eq (.a 7) (.l 0)))
 (.ret false (jA 7) [])
 (cA 79 [(.agg [(.va 0),(.va 1),(.va 2),(.va 3)]),(jA 0),(.agg [(jA 1),(jA 2),(jA 3),(jA 4),(jA 5),(jA 6)])] [] [(.one jD)]
 (.ret false (jA 8) []))))
def e0r:Sx.Sys:=⟨[(.sh (.agg [.val,.val,.val,.val])),(.sh (.one jD)),(.sh (.agg [jD,jD,jD,jD,jD,jD]))],a9R,[],none,none⟩
def b9H:List Cfg:=[]
theorem c1w:SysOk Tryz.prog 54 e0r:=a0K (c:=(cg [] [] [] false false false true)) (a0H _ _ _ _ _ _ _ _ _) Tryz.func54 Tryz.call54 (by kernel_rfl) b9H e0r 5000 rfl (by kernel_rfl) (by kernel_rfl) rfl
def a4C:PT :=
 (nD (.is 0 0)
 (.mkM (.slen 0) [(jE 0),(jE 0),(jE 0),(jE 0),(jE 0),(jE 0),.nilS,.nilS,.nilS] 65 9 120
 (.copyM 1 0 9
 (.ret true (.va 1) []))))
def d9q:Sx.Sys:=⟨[(.sh (.one .val))],a4C,[],none,none⟩
def b0s:List Cfg:=[]
theorem b1k:SysOk Tryz.prog 62 d9q:=a0K (c:=(cg [] [] [] true true false true)) (a0H _ _ _ _ _ _ _ _ _) Tryz.func62 Tryz.call62 (by kernel_rfl) b0s d9q 5000 rfl (by kernel_rfl) (by kernel_rfl) rfl
def a1o:PT :=
 (nD (.is 0 0)
 (.ite (.nil 0)
 (.ret false .nilS [])
 (.app none (.lit []) 3
 (.app (some 1) (.va 0) 3
 (.ret false (.va 2) [])))))
def d9R:Sx.Sys:=⟨[(.sh (.one .val))],a1o,[],none,none⟩
def a7C:List Cfg:=[]
def a6x:PT :=
 (jU 0 [(.l 0)] [] [(.va 0),(.va 1)])
def a2g:PT :=
 (nD (.is 0 0)
 (.ite (.lt (.a 0) (.slen 0))
 (nD (treeI (.a 0) (.slen 0))
 (lO false (.ea 0 (.a 0) 4 0) [.val]
 (nD (.is 3 2)
 (nD (.is 3 1)
 (.ite (.seq 2 1)
  (.ret false (.tup [(jA 0),(.bool (.t true))]) [])
  (nD (treeB (jP 0))
  (jU 0 [(jP 0)] [] [(.va 0),(.va 1)])))))))
 (.ret false (.tup [(jE 0),(.bool (.t false))]) [])))
def d9c:Sx.Sys:=⟨[(.sh (.one .val)),(.sh (.one .val))],a6x,[a2g],none,none⟩
def b3J:List Cfg:=[{todo:=[(.code (tfR 5 20)),(.inLoop (tfR 5 20)),(.inBlock 0),(.code [true,true])],sl:=[(.va 0),(.va 1),.undef,.undef,(.junk 0),(.junk 1),(jA 0)]++jkR 2 13++[.undef],H:=[],ni:=1,nb:=0,nv:=2,nj:=15}]
theorem b5M:SysOk Tryz.prog 78 d9c:=a0K (c:=(cg [(tfR 5 20)] [] [] false false false true)) (a0H _ _ _ _ _ _ _ _ _) Tryz.func78 Tryz.call78 (by kernel_rfl) b3J d9c 5000 rfl (by kernel_rfl) (by kernel_rfl) rfl
def a8M:PT :=
 (nD (.is 0 0)
 (.ite (.lt (.l 0) (.slen 0))
 (nD (.is 0 0)
 (nD (treeB (.sub (.slen 0) (.l 1)))
 (nD (treeI (.sub (.slen 0) (.l 1)) (.slen 0))
 (lO false (.ea 0 (.sub (.slen 0) (.l 1)) 12 6) [jD,jD,jD,jD,jD,jD]
 (.ret false (.bool (.and (.eq (.a 0) (.l 0)) (.and (.eq (.a 1) (.l 0)) (.and (.eq (.a 2) (.l 0)) (.and (.eq (.a 3) (.l 0)) (.and (.eq (.a 4) (.l 0)) (.eq (.a 5) (.l 0)))))))) [])))))
 rF))
def e0h:Sx.Sys:=⟨[(.sh (.one .val))],a8M,[],none,none⟩
def b8i:List Cfg:=[]
theorem b9K:SysOk Tryz.prog 86 e0h:=a0K (c:=(cg [] [] [] false false false true)) (a0H _ _ _ _ _ _ _ _ _) Tryz.func86 Tryz.call86 (by kernel_rfl) b8i e0h 5000 rfl (by kernel_rfl) (by kernel_rfl) rfl
def b1I:PT :=
 (nD (.is 0 0)
 (jU 0 [(.slen 0),(.l 0),(.l 0),(.l 0),(.l 0),(.l 0),(.l 0),(.l 0)] [] [(.va 0)]))
def a6p:PT :=
 (.ite (.lt (.a 1) (.a 0))
 (nD (treeI (.a 1) (.slen 0))
 (lO false (.ea 0 (.a 1) 6 0) [jD,jD,jD,jD,jD,jD]
 (nD (treeB (.add (.a 2) (.a 8)))
 (nD (treeB (.add (.a 3) (.a 9)))
 (nD (treeB (.add (.a 4) (.a 10)))
 (nD (treeB (.add (.a 5) (.a 11)))
 (nD (treeB (.add (.a 6) (.a 12)))
 (nD (treeB (.add (.a 7) (.a 13)))
 (nD (treeB (jP 1))
 (jU 0 [(.a 0),(jP 1),(.add (.a 2) (.a 8)),(.add (.a 3) (.a 9)),(.add (.a 4) (.a 10)),(.add (.a 5) (.a 11)),(.add (.a 6) (.a 12)),(.add (.a 7) (.a 13))] [] [(.va 0)]))))))))))
 (.ret false (.agg [(jA 2),(jA 3),(jA 4),(jA 5),(jA 6),(jA 7)]) []))
def d9Q:Sx.Sys:=⟨[(.sh (.one .val))],b1I,[a6p],none,none⟩
def c1r:List Cfg:=[{todo:=[(.code (tfR 6 52)),(.inLoop (tfR 6 52)),(.inBlock 0),(.code [true,true,true])],sl:=[(.junk 0),.undef,(.ptr 0 0),(.ptr 1 0),.undef,(.junk 1),(.junk 2),(.va 0),(jA 0),(jA 1)]++jkR 3 16++[.undef],H:=[(.cells [(jE 0),(jE 0),(jE 0),(jE 0),(jE 0),(jE 0)] 138 false),(.cells [(jA 2),(jA 3),(jA 4),(jA 5),(jA 6),(jA 7)] 138 false)],ni:=8,nb:=0,nv:=1,nj:=19}]
theorem c4s:SysOk Tryz.prog 94 d9Q:=a0K (c:=(cg [(tfR 6 52)] [] [] true false false true)) (a0H _ _ _ _ _ _ _ _ _) Tryz.func94 Tryz.call94 (by kernel_rfl) c1r d9Q 5000 rfl (by kernel_rfl) (by kernel_rfl) rfl
def b0j:PT :=
 (.newM [(jA 0)] 3
 (cA 131 [(.agg [(.va 0),(jA 1),(jA 2),(jA 3),(jA 4),(jA 5),(jA 6)]),(.fn 132 0 [(.pa 1 0)])] [] [(.one jD)]
 (.ret false (jA 7) [])))
def e0t:Sx.Sys:=⟨[(.sh (.one .val)),(.sh (.one jD)),(.sh (.agg [jD,jD,jD,jD,jD,jD]))],b0j,[],none,none⟩
def b9N:List Cfg:=[]
theorem c1F:SysOk Tryz.prog 118 e0t:=a0K (c:=(cg [] [4] [(12,[2])] true false false true)) (a0H _ _ _ _ _ _ _ _ _) Tryz.func118 Tryz.call118 (by kernel_rfl) b9N e0t 5000 rfl (by kernel_rfl) (by kernel_rfl) rfl
def b1y:PT :=
 (cA 124 [(.int .i32 (.a 0))] [] [(.one .bool)]
 (.ite (.a 0)
 (.ret false (.bool (.t true)) [])
 (cA 137 [(.int .i32 (.a 0))] [] [(.one .bool)]
 (.ite (.a 1)
  (.ret false (.bool (.t true)) [])
  (.ret false (.bool (.eq (.a 0) (.l 95))) [])))))
def e0F:Sx.Sys:=⟨[(.sh (.one (.int .i32)))],b1y,[],none,none⟩
def c1R:List Cfg:=[]
theorem c3X:SysOk Tryz.prog 126 e0F:=a0K (c:=(cg [] [] [] false false false true)) (a0H _ _ _ _ _ _ _ _ _) Tryz.func126 Tryz.call126 (by kernel_rfl) c1R e0F 5000 rfl (by kernel_rfl) (by kernel_rfl) rfl
def a7k:PT :=
 (nD (.is 0 0)
 (jU 0 [(.slen 0),(.l 0)] [] [(.va 0)]))
def a6R:PT :=
 (.ite (.lt (.a 1) (.a 0))
 (nD (treeI (.a 1) (.slen 0))
 (lO false (.ea 0 (.a 1) 12 0) [jD,jD,jD,jD,jD,jD,jD,jD,jD,jD,jD,jD]
 (cA 139 [(.agg [(jA 2),(jA 3),(jA 4),(jA 5),(jA 6),(jA 7),(jA 8),(jA 9),(jA 10),(jA 11),(jA 12),(jA 13)])] [] [(.one .bool)]
 (.ite (.not (.a 0))
  rF
  (nD (treeB (jP 1))
  (jU 0 [(.a 0),(jP 1)] [] [(.va 0)]))))))
 (.ret false (.bool (.t true)) []))
def d9p:Sx.Sys:=⟨[(.sh (.one .val))],a7k,[a6R],none,none⟩
def b5k:List Cfg:=[{todo:=[(.code (tfR 5 20)),(.inLoop (tfR 5 20)),(.inBlock 0),(.code [true,true])],sl:=[(.junk 0),.undef,(.junk 1),.undef,(.junk 2),(.va 0),(jA 0),(jA 1)]++jkR 3 7,H:=[],ni:=2,nb:=0,nv:=1,nj:=10}]
theorem b6T:SysOk Tryz.prog 134 d9p:=a0K (c:=(cg [(tfR 5 20)] [] [] false false false true)) (a0H _ _ _ _ _ _ _ _ _) Tryz.func134 Tryz.call134 (by kernel_rfl) b5k d9p 5000 rfl (by kernel_rfl) (by kernel_rfl) rfl
def a2e:PT :=
 (nD (.is 0 0)
 (.ite (.lt (.l 10) (.slen 0))
 (.ret false (.bool (.t true)) [])
 (nD (.is 0 1)
 (.ite (.lt (.l 10) (.slen 1))
  (.ret false (.bool (.t true)) [])
  (nD (.is 0 2)
  (.ite (.lt (.l 20) (.slen 2))
  (.ret false (.bool (.t true)) [])
  (nD (.is 0 3)
  (.ite (.lt (.l 10) (.slen 3))
   (.ret false (.bool (.t true)) [])
   (nD (.is 0 4)
   (.ret false (.bool (.lt (.l 200) (.slen 4))) []))))))))))
def d9P:Sx.Sys:=⟨[(.sh (.agg [.val,.val,.val,.val])),(.sh (.one .val))],a2e,[],none,none⟩
def b2H:List Cfg:=[]
theorem b4O:SysOk Tryz.prog 7 d9P:=a0K (c:=(cg [] [] [] false false false true)) (a0H _ _ _ _ _ _ _ _ _) Tryz.func7 Tryz.call7 (by kernel_rfl) b2H d9P 5000 rfl (by kernel_rfl) (by kernel_rfl) rfl
def b8D:PT :=
 (nD (.is 4 0)
 (.ite (.nil 0)
 (.ret false (jE 0) [])
 (nD (.is 1 0)
 (lO false (.pa 0 8) [.val]
 (nD (.is 0 1)
 (.ret false (.int .i64 (.slen 1)) []))))))
def e0p:Sx.Sys:=⟨[(.sh (.one .val))],b8D,[],none,none⟩
def b4G:List Cfg:=[]
theorem b7c:SysOk Tryz.prog 15 e0p:=a0K (c:=(cg [] [] [] true false false true)) (a0H _ _ _ _ _ _ _ _ _) Tryz.func15 Tryz.call15 (by kernel_rfl) b4G e0p 5000 rfl (by kernel_rfl) (by kernel_rfl) rfl
def b7i:PT :=
 (.app none (.lit [[(.str [97]),(jE 1),(jE 0),(jE 1),(jE 0)]]) 5
 (.app none (.lit [[(.str [120]),(jE 0),(jE 0),(jE 5)],[(.str [121]),(jE 0),(jE 0),(jE 5)]]) 4
 (.ret false (.agg [(.va 0),(.va 1),.nilS,.nilS]) [])))
def e0n:Sx.Sys:=⟨[],b7i,[],none,none⟩
def b3Z:List Cfg:=[]
theorem b6h:SysOk Tryz.prog 23 e0n:=a0K (c:=(cg [] [] [] false false false true)) (a0H _ _ _ _ _ _ _ _ _) Tryz.func23 Tryz.call23 (by kernel_rfl) b3Z e0n 5000 rfl (by kernel_rfl) (by kernel_rfl) rfl
def b5D:PT :=
 (.mkM (.slen 3) [(.bool (.t false))] 4 1 1
  (.storeM (.pa 0 15) [(.va 2)]
  (nD (.is 1 0)
  (.storeM (.pa 0 16) [(.va 4)]
  (.ret true (.tup []) [])))))
def b4M:PT :=
 (.storeM (.pa 0 15) [(.va 2)]
  (.mkM (.slen 3) [(.bool (.t false))] 4 1 1
  (nD (.is 1 0)
  (.storeM (.pa 0 16) [(.va 4)]
  (.ret true (.tup []) [])))))
def b4F:PT :=
 (.mkM (.slen 1) [(jE 0),(jE 0),(jE 0),(jE 0),(jE 0),(jE 0)] 51 6 48
  (lO false (.pa 0 17) [.val]
  (nD (.is 0 3)
  (nD (.is 1 0)
  (.both b5D b4M)))))
def b4R:PT :=
 (.mkM (.slen 2) [(.bool (.t false))] 4 1 1
   (.storeM (.pa 0 15) [(.va 3)]
   (nD (.is 1 0)
   (.storeM (.pa 0 16) [(.va 4)]
   (.ret true (.tup []) [])))))
def b4S:PT :=
 (.storeM (.pa 0 15) [(.va 3)]
   (.mkM (.slen 2) [(.bool (.t false))] 4 1 1
   (nD (.is 1 0)
   (.storeM (.pa 0 16) [(.va 4)]
   (.ret true (.tup []) [])))))
def b4D:PT :=
 (.mkM (.slen 1) [(jE 0),(jE 0),(jE 0),(jE 0),(jE 0),(jE 0)] 51 6 48
  (nD (.is 1 0)
  (.both b4R b4S)))
def b5i:PT :=
 (.mkM (.slen 2) [(.bool (.t false))] 4 1 1
  (.mkM (.slen 1) [(jE 0),(jE 0),(jE 0),(jE 0),(jE 0),(jE 0)] 51 6 48
  (nD (.is 1 0)
  (.storeM (.pa 0 15) [(.va 4)]
  (nD (.is 1 0)
  (.storeM (.pa 0 16) [(.va 3)]
  (.ret true (.tup []) [])))))))
def b5q:PT :=
 (lO false (.pa 0 17) [.val]
  (nD (.is 0 2)
  (.both b4D b5i)))
def b5B:PT :=
 (lO false (.pa 0 17) [.val]
 (nD (.is 0 1)
 (.both b4F b5q)))
def b3Y:PT :=
 (.mkM (.slen 1) [(.bool (.t false))] 4 1 1
   (.storeM (.pa 0 15) [(.va 3)]
   (nD (.is 1 0)
   (.storeM (.pa 0 16) [(.va 4)]
   (.ret true (.tup []) [])))))
def b3I:PT :=
 (.storeM (.pa 0 15) [(.va 3)]
   (.mkM (.slen 1) [(.bool (.t false))] 4 1 1
   (nD (.is 1 0)
   (.storeM (.pa 0 16) [(.va 4)]
   (.ret true (.tup []) [])))))
def b3V:PT :=
 (.mkM (.slen 2) [(jE 0),(jE 0),(jE 0),(jE 0),(jE 0),(jE 0)] 51 6 48
  (nD (.is 1 0)
  (.both b3Y b3I)))
def b4e:PT :=
 (.mkM (.slen 1) [(.bool (.t false))] 4 1 1
  (.mkM (.slen 2) [(jE 0),(jE 0),(jE 0),(jE 0),(jE 0),(jE 0)] 51 6 48
  (nD (.is 1 0)
  (.storeM (.pa 0 15) [(.va 4)]
  (nD (.is 1 0)
  (.storeM (.pa 0 16) [(.va 3)]
  (.ret true (.tup []) [])))))))
def b3R:PT :=
 (lO false (.pa 0 17) [.val]
  (nD (.is 0 2)
  (.both b3V b4e)))
def b3O:PT :=
 (.mkM (.slen 1) [(.bool (.t false))] 4 1 1
  (lO false (.pa 0 17) [.val]
  (nD (.is 0 3)
  (.mkM (.slen 3) [(jE 0),(jE 0),(jE 0),(jE 0),(jE 0),(jE 0)] 51 6 48
  (nD (.is 1 0)
  (.storeM (.pa 0 15) [(.va 4)]
  (nD (.is 1 0)
  (.storeM (.pa 0 16) [(.va 2)]
  (.ret true (.tup []) [])))))))))
def b4f:PT :=
 (lO false (.pa 0 17) [.val]
 (nD (.is 0 1)
 (.both b3R b3O)))
def a7t:PT :=
 (nD (.is 1 0)
 (nD (.is 1 0)
 (.both b5B b4f)))
def e0I:Sx.Sys:=⟨[(.sh (.one .val))],a7t,[],none,none⟩
def b4H:List Cfg:=[]
def a6h:PT :=
 (.ite (.lt (.a 0) (.l 0))
 rF
 (.ite (.lt (.l 4) (.a 0))
  rF
  (.ite (.lt (.a 1) (.l 0))
  rF
  (.ite (.lt (.l 4) (.a 1))
   rF
   (.ite (.lt (.a 2) (.l 0))
   rF
   (.ite (.lt (.l 4) (.a 2))
    rF
    (.ite (.lt (.a 3) (.l 0))
    rF
    (.ite (.lt (.l 4) (.a 3))
     rF
     (.ite (.lt (.a 4) (.l 0))
     rF
     (.ite (.lt (.l 4) (.a 4))
      rF
      (.ite (.lt (.a 5) (.l 0))
      rF
      (.ite (.lt (.l 4) (.a 5))
       rF
       (.ret false (.bool (.t true)) [])))))))))))))
def d9L:Sx.Sys:=⟨[(.sh (.agg [jD,jD,jD,jD,jD,jD]))],a6h,[],none,none⟩
def b2E:List Cfg:=[]
theorem b5x:SysOk Tryz.prog 47 d9L:=a0K (c:=(cg [] [] [] false false false true)) (a0H _ _ _ _ _ _ _ _ _) Tryz.func47 Tryz.call47 (by kernel_rfl) b2E d9L 5000 rfl (by kernel_rfl) (by kernel_rfl) rfl
def a6d:PT :=
 (cA 80 [(.agg [(.va 0),(.va 1),(.va 2),(.va 3)]),(jA 0)] [] [(.one .bool)]
 (.ite (.not (.a 0))
 (.ret false (jE 6) [])
 (nD (treeI (.a 0) (.slen 1))
 (lO false (.ea 1 (.a 0) 4 2) [jD]
 (.ite (.not (.eq (.a 13) (.l 0)))
  (cA 81 [(.agg [(jA 1),(jA 2),(jA 3),(jA 4),(jA 5),(jA 6)]),(.agg [(jA 7),(jA 8),(jA 9),(jA 10),(jA 11),(jA 12)])] [] [(.one jD)]
  (.ite (.lt (.a 13) (.a 14))
  (.ret false (jE 17) [])
  (.ret false (jE 0) [])))
  (.ret false (jE 0) []))))))
def d9O:Sx.Sys:=⟨[(.sh (.agg [.val,.val,.val,.val])),(.sh (.one jD)),(.sh (.agg [jD,jD,jD,jD,jD,jD,jD,jD,jD,jD,jD,jD]))],a6d,[],none,none⟩
def b3t:List Cfg:=[]
theorem b5E:SysOk Tryz.prog 55 d9O:=a0K (c:=(cg [] [] [] false false false true)) (a0H _ _ _ _ _ _ _ _ _) Tryz.func55 Tryz.call55 (by kernel_rfl) b3t d9O 5000 rfl (by kernel_rfl) (by kernel_rfl) rfl
def b0c:PT :=
 (nD (.is 0 0)
 (.ite (.eq (.slen 0) (.l 0))
 (.ret false (jE 1) [])
 (nD (.is 0 0)
 (.ite (.lt (.l 6) (.slen 0))
  (.ret false (jE 3) [])
  (nD (.is 0 0)
  (jU 0 [(.slen 0),(.l 0)] [] [(.va 0)]))))))
def a5j:PT :=
 (.ite (.lt (.a 1) (.a 0))
 (nD (treeI (.a 1) (.slen 0))
 (lO false (.ea 0 (.a 1) 5 0) [.val,jD,jD,jD,jD]
 (cA 97 [(.va 1)] [] [(.one .bool)]
 (.ite (.not (.a 0))
  (.ret false (jE 5) [])
  (.cut 0 none (some (.a 1)) 5
  (cA 98 [(.va 2),(.va 1)] [] [(.one jD),(.one .bool)]
  (.ite (.a 1)
  (.ret false (jE 7) [])
  (cA 99 [(jA 2),(jE 1),(jE 4)] [] [(.one .bool)]
  (.ite (.not (.a 2))
   (.ret false (jE 4) [])
   (cA 99 [(jA 3),(jE 0),(jE 1000000)] [] [(.one .bool)]
   (.ite (.not (.a 3))
   (.ret false (jE 4) [])
   (cA 99 [(jA 4),(jE 0),(jE 1000)] [] [(.one .bool)]
   (.ite (.not (.a 4))
    (.ret false (jE 4) [])
    (cA 99 [(jA 5),(jE 0),(jE 4)] [] [(.one .bool)]
    (.ite (.not (.a 5))
    (.ret false (jE 4) [])
    (nD (treeB (jP 1))
    (jU 0 [(.a 0),(jP 1)] [] [(.va 0)])))))))))))))))))
 (cA 57 [(.va 0)] [] [(.agg [jD,jD,jD,jD,jD,jD])]
 (cA 100 [(.agg [(jA 2),(jA 3),(jA 4),(jA 5),(jA 6),(jA 7)])] [] [(.one jD)]
 (.ite (.eq (.a 8) (.l 0))
  (.ret false (jE 12) [])
  (.ret false (jE 0) [])))))
def d9x:Sx.Sys:=⟨[(.sh (.one .val))],b0c,[a5j],none,none⟩
def b9w:List Cfg:=[{todo:=[(.code (tfR 6 52)),(.inLoop (tfR 6 52)),(.inBlock 1),(.code [true,true,true])],sl:=[(.va 0),.undef]++jkR 0 13++[(.va 0),(jA 0),(jA 1)]++jkR 13 41++udR 4,H:=[],ni:=2,nb:=0,nv:=1,nj:=54}]
theorem c2a:SysOk Tryz.prog 63 d9x:=a0K (c:=(cg [(tfR 6 52)] [] [] false false false true)) (a0H _ _ _ _ _ _ _ _ _) Tryz.func63 Tryz.call63 (by kernel_rfl) b9w d9x 5000 rfl (by kernel_rfl) (by kernel_rfl) rfl
def b0f:PT :=
 (.ite (.lt (.a 0) (.l 0))
 (.ret false (jE 6) [])
 (nD (.is 0 1)
 (.ite (.le (.slen 1) (.a 0))
  (.ret false (jE 6) [])
  (cA 85 [(.agg [(jA 1),(jA 2),(jA 3),(jA 4),(jA 5),(jA 6)])] [] [(.one jD)]
  (.ite (.not (.eq (.a 7) (.l 0)))
  (.ret false (jA 7) [])
  (cA 115 [(.agg [(.va 0),(.va 1),(.va 2),(.va 3)])] [] [(.agg [jD,jD,jD,jD,jD,jD]),(.agg [jD,jD,jD,jD,jD,jD])]
  (cA 57 [(.va 0)] [] [(.agg [jD,jD,jD,jD,jD,jD])]
  (cA 116 [(.agg [(jA 1),(jA 2),(jA 3),(jA 4),(jA 5),(jA 6)]),(.agg [(jA 20),(jA 21),(jA 22),(jA 23),(jA 24),(jA 25)])] [] [(.one .bool)]
  (.ite (.not (.a 0))
   (.ret false (jE 14) [])
   (cA 117 [(.agg [(.va 0),(.va 1),(.va 2),(.va 3)]),(.agg [(jA 14),(jA 15),(jA 16),(jA 17),(jA 18),(jA 19)]),(jA 0),(.agg [(jA 1),(jA 2),(jA 3),(jA 4),(jA 5),(jA 6)])] [] [(.agg [jD,jD,jD,jD,jD,jD])]
   (cA 116 [(.agg [(jA 26),(jA 27),(jA 28),(jA 29),(jA 30),(jA 31)]),(.agg [(jA 8),(jA 9),(jA 10),(jA 11),(jA 12),(jA 13)])] [] [(.one .bool)]
   (.ite (.not (.a 1))
   (.ret false (jE 14) [])
   (nD (.is 0 2)
   (jU 0 [(.a 0),(.slen 2),(.l 0),(.a 1),(.a 2),(.a 3),(.a 4),(.a 5),(.a 6)] [] [(.va 2),(.va 0),(.va 1),(.va 3)]))))))))))))))
def a5d:PT :=
 (.ite (.lt (.a 2) (.a 1))
 (nD (treeI (.a 2) (.slen 0))
 (lO false (.ea 0 (.a 2) 3 0) [jD,jD,jD]
 (.ite (.eq (.a 9) (.l (-1)))
  (cA 118 [(.va 1),(jA 10),(.agg [(jA 3),(jA 4),(jA 5),(jA 6),(jA 7),(jA 8)])] [] [(.one jD)]
  (.ite (.lt (.a 11) (.a 12))
  (.ret false (jE 14) [])
  (nD (treeB (jP 2))
  (jU 0 [(.a 0),(.a 1),(jP 2),(.a 3),(.a 4),(.a 5),(.a 6),(.a 7),(.a 8)] [] [(.va 0),(.va 1),(.va 2),(.va 3)]))))
  (.ite (.eq (.a 9) (.a 0))
  (cA 118 [(.va 1),(jA 10),(.agg [(jA 3),(jA 4),(jA 5),(jA 6),(jA 7),(jA 8)])] [] [(.one jD)]
  (.ite (.lt (.a 11) (.a 12))
   (.ret false (jE 14) [])
   (nD (treeB (jP 2))
   (jU 0 [(.a 0),(.a 1),(jP 2),(.a 3),(.a 4),(.a 5),(.a 6),(.a 7),(.a 8)] [] [(.va 0),(.va 1),(.va 2),(.va 3)]))))
  (nD (treeB (jP 2))
  (jU 0 [(.a 0),(.a 1),(jP 2),(.a 3),(.a 4),(.a 5),(.a 6),(.a 7),(.a 8)] [] [(.va 0),(.va 1),(.va 2),(.va 3)]))))))
 (.ret false (jE 0) []))
def d9y:Sx.Sys:=⟨[(.sh (.agg [.val,.val,.val,.val])),(.sh (.one jD)),(.sh (.agg [jD,jD,jD,jD,jD,jD]))],b0f,[a5d],none,none⟩
def b9A:List Cfg:=[{todo:=[(.code (tfR 9 500)),(.inLoop (tfR 9 500)),(.inBlock 0),(.code (tfR 6 63))],sl:=[(.junk 0),(jA 0),(.junk 1),(.ptr 0 0),.undef,(.ptr 1 0)]++jkR 2 4++[.undef]++jkR 6 14++[.undef]++jkR 20 22++[(.va 0),(jA 1),(jA 2)]++jkR 42 24,H:=[(.cells [(.va 1),(.va 2),(.va 0),(.va 3)] 27 false),(.cells [(jA 3),(jA 4),(jA 5),(jA 6),(jA 7),(jA 8)] 51 false)],ni:=9,nb:=0,nv:=4,nj:=66}]
theorem c1I:SysOk Tryz.prog 79 d9y:=a0K (c:=(cg [(tfR 9 500)] [] [] false false false true)) (a0H _ _ _ _ _ _ _ _ _) Tryz.func79 Tryz.call79 (by kernel_rfl) b9A d9y 5000 rfl (by kernel_rfl) (by kernel_rfl) rfl
def a7u:PT :=
 (.ret false (.bool (.and (.eq (.a 6) (.l 0)) (.and (.eq (.a 7) (.l 0)) (.and (.eq (.a 8) (.l 0)) (.and (.eq (.a 9) (.l 0)) (.and (.eq (.a 10) (.l 0)) (.eq (.a 11) (.l 0)))))))) [])
def d9X:Sx.Sys:=⟨[(.sh (.agg [jD,jD,jD,jD,jD,jD,jD,jD,jD,jD,jD,jD]))],a7u,[],none,none⟩
def b4K:List Cfg:=[]
theorem b6Z:SysOk Tryz.prog 87 d9X:=a0K (c:=(cg [] [] [] false false false true)) (a0H _ _ _ _ _ _ _ _ _) Tryz.func87 Tryz.call87 (by kernel_rfl) b4K d9X 5000 rfl (by kernel_rfl) (by kernel_rfl) rfl
def a7m:PT :=
 (.newM [(jA 0),(jA 1),(jA 2),(jA 3)] 29
 (.ret false (.fn 122 0 [(.pa 0 0)]) []))
def d9Y:Sx.Sys:=⟨[(.sh (.agg [jD,jD,jD,jD]))],a7m,[],none,none⟩
def b5c:List Cfg:=[]
theorem b7R:SysOk Tryz.prog 95 d9Y:=a0K (c:=(cg [] [1] [] true false false true)) (a0H _ _ _ _ _ _ _ _ _) Tryz.func95 Tryz.call95 (by kernel_rfl) b5c d9Y 5000 rfl (by kernel_rfl) (by kernel_rfl) rfl
def a4Q:PT :=
 (cA 133 [(.va 0),(.agg [(jA 7),(jA 8),(jA 9),(jA 10),(jA 11),(jA 12)])] [] [(.one jD)]
 (.ret false (jA 13) []))
def d9t:Sx.Sys:=⟨[(.sh (.agg [.val,.val,.val,.val,jD,.val])),(.sh (.agg [jD,jD,jD,jD,jD,jD,jD,jD,jD,jD,jD,jD]))],a4Q,[],none,none⟩
def b0G:List Cfg:=[]
theorem b1Q:SysOk Tryz.prog 119 d9t:=a0K (c:=(cg [] [] [] false false false true)) (a0H _ _ _ _ _ _ _ _ _) Tryz.func119 Tryz.call119 (by kernel_rfl) b0G d9t 5000 rfl (by kernel_rfl) (by kernel_rfl) rfl
def a8b:PT :=
 (nD (.is 0 0)
 (.mkM (.slen 0) [(jE 0)] 2 1 8
 (nD (.is 0 0)
 (.mkM (.slen 0) [(jE 0)] 3 1 8
 (nD (.is 0 2)
 (jU 0 [(.slen 2),(.l 0)] [] [(.va 0),(.va 1),(.va 2)]))))))
def a3X:PT :=
 (.ite (.lt (.a 1) (.a 0))
 (nD (treeI (.a 1) (.slen 2))
 (.storeM (.ea 2 (.a 1) 1 0) [(.int .i64 (.l (-1)))]
 (nD (treeB (jP 1))
 (jU 0 [(.a 0),(jP 1)] [] [(.va 0),(.va 1),(.va 2)]))))
 (nD (.is 0 0)
 (jU 1 [(.l (-1)),(.slen 0),(.l 0)] [] [(.va 0),(.va 1),(.va 2)])))
def a2x:PT :=
 (.ite (.lt (.a 2) (.a 1))
 (nD (.is 0 0)
 (jU 2 [(.l (-1)),(.a 1),(.a 2),(.slen 0),(.l 0)] [] [(.va 0),(.va 1),(.va 2)]))
 (.ite (.lt (.a 0) (.l 0))
  (.ret true (.tup [(.va 1),.nilS]) [])
  (cA 141 [(.va 2),(jA 0)] [] [(.one .val)]
  (.ret true (.tup [.nilS,(.va 3)]) []))))
def a2v:PT :=
 (.ite (.lt (.a 4) (.a 3))
 (nD (.is 0 0)
 (jU 3 [(.a 0),(.a 4),(.a 1),(.a 2),(.a 3),(.slen 0),(.l 0)] [] [(.va 0),(.va 1),(.va 2)]))
 (.ite (.lt (.a 0) (.l 0))
  (.ite (.lt (.a 0) (.l 0))
  (.ret true (.tup [(.va 1),.nilS]) [])
  (cA 141 [(.va 2),(jA 0)] [] [(.one .val)]
  (.ret true (.tup [.nilS,(.va 3)]) [])))
  (nD (treeB (jP 2))
  (jU 1 [(.a 0),(.a 1),(jP 2)] [] [(.va 0),(.va 1),(.va 2)]))))
def a5U:PT :=
 (lO false (.ea 1 (.a 1) 1 0) [jD]
  (cA 140 [(.agg [(jA 7),(jA 8),(jA 9),(jA 10),(jA 11),(jA 12),(jA 13),(jA 14),(jA 15),(jA 16),(jA 17),(jA 18)]),(.agg [(jA 19),(jA 20),(jA 21),(jA 22),(jA 23),(jA 24),(jA 25),(jA 26),(jA 27),(jA 28),(jA 29),(jA 30)])] [] [(.one jD)]
  (nD (treeB (.add (.a 31) (.a 32)))
  (nD (treeI (.a 6) (.slen 1))
  (lO false (.ea 1 (.a 6) 1 0) [jD]
  (.ite (.lt (.add (.a 31) (.a 32)) (.a 33))
  (nD (treeI (.a 6) (.slen 1))
  (.storeM (.ea 1 (.a 6) 1 0) [(.int .i64 (.add (.a 31) (.a 32)))]
  (nD (treeI (.a 6) (.slen 2))
  (.storeM (.ea 2 (.a 6) 1 0) [(jA 1)]
  (nD (treeB (jP 6))
  (jU 3 [(.a 6),(.a 1),(.a 2),(.a 3),(.a 4),(.a 5),(jP 6)] [] [(.va 0),(.va 1),(.va 2)]))))))
  (nD (treeB (jP 6))
  (jU 3 [(.a 0),(.a 1),(.a 2),(.a 3),(.a 4),(.a 5),(jP 6)] [] [(.va 0),(.va 1),(.va 2)]))))))))
def a5T:PT :=
 (cA 140 [(.agg [(jA 7),(jA 8),(jA 9),(jA 10),(jA 11),(jA 12),(jA 13),(jA 14),(jA 15),(jA 16),(jA 17),(jA 18)]),(.agg [(jA 19),(jA 20),(jA 21),(jA 22),(jA 23),(jA 24),(jA 25),(jA 26),(jA 27),(jA 28),(jA 29),(jA 30)])] [] [(.one jD)]
  (lO false (.ea 1 (.a 1) 1 0) [jD]
  (nD (treeB (.add (.a 32) (.a 31)))
  (nD (treeI (.a 6) (.slen 1))
  (lO false (.ea 1 (.a 6) 1 0) [jD]
  (.ite (.lt (.add (.a 32) (.a 31)) (.a 33))
  (nD (treeI (.a 6) (.slen 1))
  (.storeM (.ea 1 (.a 6) 1 0) [(.int .i64 (.add (.a 32) (.a 31)))]
  (nD (treeI (.a 6) (.slen 2))
  (.storeM (.ea 2 (.a 6) 1 0) [(jA 1)]
  (nD (treeB (jP 6))
  (jU 3 [(.a 6),(.a 1),(.a 2),(.a 3),(.a 4),(.a 5),(jP 6)] [] [(.va 0),(.va 1),(.va 2)]))))))
  (nD (treeB (jP 6))
  (jU 3 [(.a 0),(.a 1),(.a 2),(.a 3),(.a 4),(.a 5),(jP 6)] [] [(.va 0),(.va 1),(.va 2)]))))))))
def a1O:PT :=
 (.ite (.lt (.a 6) (.a 5))
 (nD (treeI (.a 1) (.slen 1))
 (nD (treeI (.a 1) (.slen 0))
 (nD (treeI (.a 6) (.slen 0))
 (lO false (.ea 0 (.a 1) 12 0) [jD,jD,jD,jD,jD,jD,jD,jD,jD,jD,jD,jD]
 (lO false (.ea 0 (.a 6) 12 0) [jD,jD,jD,jD,jD,jD,jD,jD,jD,jD,jD,jD]
 (.both a5U a5T))))))
 (nD (treeB (jP 1))
 (jU 2 [(.a 0),(.a 2),(.a 3),(.a 4),(jP 1)] [] [(.va 0),(.va 1),(.va 2)])))
def d8I:Sx.Sys:=⟨[(.sh (.one .val))],a8b,[a3X,a2x,a2v,a1O],none,none⟩
def b5J:List Cfg:=[{todo:=[(.code (tfR 8 180)),(.inLoop (tfR 8 180)),(.inBlock 0),(.code (tfR 5 23)),(.inScope [false,true])],sl:=[(.va 0),.undef,(.junk 0),(.junk 1),(.va 1),(.va 2),(.junk 2)]++udR 4++jkR 3 7++[(jA 0),(jA 1)]++jkR 10 6++udR 54,H:=[],ni:=2,nb:=0,nv:=3,nj:=16},
 {todo:=[(.code (tfR 11 1524)),(.inLoop (tfR 11 1524)),(.inBlock 2),(.code (tfR 8 191)),(.inScope [false,true])],sl:=[(.va 0),.undef,(.junk 0),(.junk 1),(.va 1),(.va 2),(.junk 2),(jA 0)]++jkR 3 19++[(jA 1),(jA 2)]++jkR 22 45++udR 6,H:=[],ni:=3,nb:=0,nv:=3,nj:=67},
 {todo:=[(.code (tfR 20 780692)),(.inLoop (tfR 20 780692)),(.inBlock 4),(.code (tfR 17 97587)),(.inBlock 3),(.code (tfR 14 12199)),(.inLoop (tfR 11 1524)),(.inBlock 2),(.code (tfR 8 191)),(.inScope [false,true])],sl:=[(.va 0),.undef,(.junk 0),(.junk 1),(.va 1),(.va 2),(.junk 2),(jA 0)]++jkR 3 19++[(jA 1),(jA 2),(.junk 22),(.junk 23),(jA 3),(jA 4)]++jkR 24 41++udR 6,H:=[],ni:=5,nb:=0,nv:=3,nj:=65},
 {todo:=[(.code (tfR 28 199857356)),(.inLoop (tfR 28 199857356)),(.inBlock 6),(.inBlock 5),(.code (tfR 23 6245543)),(.inLoop (tfR 20 780692)),(.inBlock 4),(.code (tfR 17 97587)),(.inBlock 3),(.code (tfR 14 12199)),(.inLoop (tfR 11 1524)),(.inBlock 2),(.code (tfR 8 191)),(.inScope [false,true])],sl:=[(.va 0),.undef,(.junk 0),(.junk 1),(.va 1),(.va 2),(.junk 2),(jA 0),(jA 1)]++jkR 3 18++[(jA 2),(jA 3),(.junk 21),(.junk 22),(jA 4),(jA 1),(.junk 23),(.junk 24),(.junk 25),(jA 5),(jA 6)]++jkR 26 36++udR 6,H:=[],ni:=7,nb:=0,nv:=3,nj:=62}]
theorem b8M:SysOk Tryz.prog 135 d8I:=a0K (c:=(cg [(tfR 8 180),(tfR 11 1524),(tfR 20 780692),(tfR 28 199857356)] [] [] true true false true)) (a0H _ _ _ _ _ _ _ _ _) Tryz.func135 Tryz.call135 (by kernel_rfl) b5J d8I 5000 rfl (by kernel_rfl) (by kernel_rfl) rfl
def b6d:PT :=
 (cA 23 [] [] [(.agg [.val,.val,.val,.val])]
 (cA 9 [(.agg [(.va 0),(.va 1),(.va 2),(.va 3)]),(.agg [(jE 1),(jE 0),(jE 1),(jE 2)])] [] [(.one .val),(.one jD)]
 (.ite (.not (.eq (.a 0) (.l 0)))
 rF
 (nD (.is 4 4)
 (.ite (.nil 4)
  rF
  (cA 24 [(.va 4),(jE 0),(.agg [(jE 1),(jE 0),(jE 0),(jE 0),(jE 0),(jE 0)])] [] [(.one jD)]
  (cA 24 [(.va 4),(jE 1),(.agg [(jE 1),(jE 0),(jE 0),(jE 0),(jE 0),(jE 0)])] [] [(.one jD)]
  (cA 25 [(.va 4)] [] [(.one .bool),(.one jD)]
  (cA 24 [(.va 4),(jE 0),(.agg [(jE 1),(jE 0),(jE 0),(jE 0),(jE 0),(jE 0)])] [] [(.one jD)]
  (cA 24 [(.va 4),(jE 1),(.agg [(jE 1),(jE 0),(jE 0),(jE 0),(jE 0),(jE 0)])] [] [(.one jD)]
  (cA 25 [(.va 4)] [] [(.one .bool),(.one jD)]
  (cA 24 [(.va 4),(jE 1),(.agg [(jE 1),(jE 0),(jE 0),(jE 0),(jE 0),(jE 0)])] [] [(.one jD)]
  (cA 25 [(.va 4)] [] [(.one .bool),(.one jD)]
  (cA 26 [(.va 4),(jE 1)] [] [(.one .val)]
  (.ite (.eq (.a 1) (.l 0))
  (.ite (.eq (.a 2) (.l 0))
   (.ite (.not (.a 0))
   (.ite (.eq (.a 3) (.l 0))
    (.ite (.not (.a 1))
    (.ite (.eq (.a 6) (.l 0))
     (.ite (.a 2)
     (.ite (.eq (.a 8) (.l 0))
      (cA 16 [(.va 4)] [] [(.one .bool)]
      (.ite (.a 3)
      (cA 15 [(.va 4)] [] [(.one jD)]
      (.ite (.eq (.a 9) (.l 3))
       (cA 14 [(.va 4)] [] [(.agg [jD,jD,jD,jD,jD,jD])]
       (.ite (.and (.eq (.a 10) (.l 2)) (.and (.eq (.a 11) (.l 0)) (.and (.eq (.a 12) (.l 0)) (.and (.eq (.a 13) (.l 0)) (.and (.eq (.a 14) (.l 0)) (.eq (.a 15) (.l 0)))))))
       (nD (.is 0 5)
       (.ite (.eq (.slen 5) (.l 3))
        (nD (.lt (.l 2) (.slen 5))
        (lO true (.ea 5 (.l 2) 12 6) [jD,jD,jD,jD,jD,jD]
        (.ite (.and (.eq (.a 16) (.l 1)) (.and (.eq (.a 17) (.l 0)) (.and (.eq (.a 18) (.l 0)) (.and (.eq (.a 19) (.l 0)) (.and (.eq (.a 20) (.l 0)) (.eq (.a 21) (.l 0)))))))
        (cA 24 [(.va 4),(jE 0),(.agg [(jE 1),(jE 0),(jE 0),(jE 0),(jE 0),(jE 0)])] [] [(.one jD)]
        (.ite (.eq (.a 22) (.l 10))
         (cA 27 [(.va 4),(jE 1)] [] [(.one jD)]
         (.ite (.eq (.a 23) (.l 0))
         (cA 14 [(.va 4)] [] [(.agg [jD,jD,jD,jD,jD,jD])]
         (.ite (.and (.eq (.a 24) (.l 1)) (.and (.eq (.a 25) (.l 0)) (.and (.eq (.a 26) (.l 0)) (.and (.eq (.a 27) (.l 0)) (.and (.eq (.a 28) (.l 0)) (.eq (.a 29) (.l 0)))))))
          (cA 16 [(.va 4)] [] [(.one .bool)]
          (.ret false (.bool (.not (.a 4))) []))
          rF))
         rF))
         rF))
        rF)))
        rF))
       rF))
       rF))
      rF))
      rF)
     rF)
     rF)
    rF)
    rF)
   rF)
   rF)
  rF)))))))))))))))
def e0k:Sx.Sys:=⟨[],b6d,[],none,none⟩
def b3a:List Cfg:=[]
theorem b5d:SysOk Tryz.prog 8 e0k:=a0K (c:=(cg [] [] [] false false false true)) (a0H _ _ _ _ _ _ _ _ _) Tryz.func8 Tryz.call8 (by kernel_rfl) b3a e0k 5000 rfl (by kernel_rfl) (by kernel_rfl) rfl
def b9f:PT :=
 (nD (.is 4 0)
 (.ite (.not (.nil 0))
 (nD (.is 1 0)
 (lO false (.pa 0 18) [.bool]
 (.ret false (.bool (.a 0)) [])))
 rF))
def e0u:Sx.Sys:=⟨[(.sh (.one .val))],b9f,[],none,none⟩
def b6q:List Cfg:=[]
theorem b8y:SysOk Tryz.prog 16 e0u:=a0K (c:=(cg [] [] [] true false false true)) (a0H _ _ _ _ _ _ _ _ _) Tryz.func16 Tryz.call16 (by kernel_rfl) b6q e0u 5000 rfl (by kernel_rfl) (by kernel_rfl) rfl
def a3B:PT :=
 (lO false (.pa 0 7) [jD]
     (cA 26 [(.va 0),(jA 0)] [] [(.one .val)]
     (cA 56 [(.agg [(.va 10),(.va 11),(.va 12),(.va 13)]),(jA 15),(jA 0),(.va 14),(.agg [(jA 7),(jA 8),(jA 9),(jA 10),(jA 11),(jA 12),(jA 1),(jA 2),(jA 3),(jA 4),(jA 5),(jA 6)])] [] [(.one jD)]
     (.ite (.not (.eq (.a 16) (.l 0)))
      (.ret true (jA 16) [])
      (nD (.is 1 0)
      (nD (.is 1 0)
      (lO false (.pa 0 15) [.val]
      (lO false (.pa 0 16) [.val]
      (nD (treeI (.a 0) (.slen 15))
      (.storeM (.ea 15 (.a 0) 6 0) [(jA 1),(jA 2),(jA 3),(jA 4),(jA 5),(jA 6)]
      (nD (treeI (.a 0) (.slen 16))
      (.storeM (.ea 16 (.a 0) 1 0) [(.bool (.t true))]
      (.ret true (jE 0) [])))))))))))))
def a3C:PT :=
 (cA 26 [(.va 0),(jA 0)] [] [(.one .val)]
     (lO false (.pa 0 7) [jD]
     (cA 56 [(.agg [(.va 10),(.va 11),(.va 12),(.va 13)]),(jA 15),(jA 0),(.va 14),(.agg [(jA 7),(jA 8),(jA 9),(jA 10),(jA 11),(jA 12),(jA 1),(jA 2),(jA 3),(jA 4),(jA 5),(jA 6)])] [] [(.one jD)]
     (.ite (.not (.eq (.a 16) (.l 0)))
      (.ret true (jA 16) [])
      (nD (.is 1 0)
      (nD (.is 1 0)
      (lO false (.pa 0 15) [.val]
      (lO false (.pa 0 16) [.val]
      (nD (treeI (.a 0) (.slen 15))
      (.storeM (.ea 15 (.a 0) 6 0) [(jA 1),(jA 2),(jA 3),(jA 4),(jA 5),(jA 6)]
      (nD (treeI (.a 0) (.slen 16))
      (.storeM (.ea 16 (.a 0) 1 0) [(.bool (.t true))]
      (.ret true (jE 0) [])))))))))))))
def a3E:PT :=
 (lO false (.pa 0 0) [.val,.val,.val,.val]
     (.both a3B a3C))
def a3G:PT :=
 (lO false (.pa 0 0) [.val,.val,.val,.val]
      (cA 26 [(.va 0),(jA 0)] [] [(.one .val)]
      (cA 56 [(.agg [(.va 10),(.va 11),(.va 12),(.va 13)]),(jA 15),(jA 0),(.va 14),(.agg [(jA 7),(jA 8),(jA 9),(jA 10),(jA 11),(jA 12),(jA 1),(jA 2),(jA 3),(jA 4),(jA 5),(jA 6)])] [] [(.one jD)]
      (.ite (.not (.eq (.a 16) (.l 0)))
      (.ret true (jA 16) [])
      (nD (.is 1 0)
      (nD (.is 1 0)
      (lO false (.pa 0 15) [.val]
      (lO false (.pa 0 16) [.val]
      (nD (treeI (.a 0) (.slen 15))
      (.storeM (.ea 15 (.a 0) 6 0) [(jA 1),(jA 2),(jA 3),(jA 4),(jA 5),(jA 6)]
      (nD (treeI (.a 0) (.slen 16))
      (.storeM (.ea 16 (.a 0) 1 0) [(.bool (.t true))]
      (.ret true (jE 0) [])))))))))))))
def a3I:PT :=
 (cA 26 [(.va 0),(jA 0)] [] [(.one .val)]
      (lO false (.pa 0 0) [.val,.val,.val,.val]
      (cA 56 [(.agg [(.va 11),(.va 12),(.va 13),(.va 14)]),(jA 15),(jA 0),(.va 10),(.agg [(jA 7),(jA 8),(jA 9),(jA 10),(jA 11),(jA 12),(jA 1),(jA 2),(jA 3),(jA 4),(jA 5),(jA 6)])] [] [(.one jD)]
      (.ite (.not (.eq (.a 16) (.l 0)))
      (.ret true (jA 16) [])
      (nD (.is 1 0)
      (nD (.is 1 0)
      (lO false (.pa 0 15) [.val]
      (lO false (.pa 0 16) [.val]
      (nD (treeI (.a 0) (.slen 15))
      (.storeM (.ea 15 (.a 0) 6 0) [(jA 1),(jA 2),(jA 3),(jA 4),(jA 5),(jA 6)]
      (nD (treeI (.a 0) (.slen 16))
      (.storeM (.ea 16 (.a 0) 1 0) [(.bool (.t true))]
      (.ret true (jE 0) [])))))))))))))
def a3A:PT :=
 (lO false (.pa 0 7) [jD]
     (.both a3G a3I))
def a3H:PT :=
 (cA 26 [(.va 0),(jA 0)] [] [(.one .val)]
     (lO false (.pa 0 0) [.val,.val,.val,.val]
     (lO false (.pa 0 7) [jD]
     (cA 56 [(.agg [(.va 11),(.va 12),(.va 13),(.va 14)]),(jA 15),(jA 0),(.va 10),(.agg [(jA 7),(jA 8),(jA 9),(jA 10),(jA 11),(jA 12),(jA 1),(jA 2),(jA 3),(jA 4),(jA 5),(jA 6)])] [] [(.one jD)]
     (.ite (.not (.eq (.a 16) (.l 0)))
      (.ret true (jA 16) [])
      (nD (.is 1 0)
      (nD (.is 1 0)
      (lO false (.pa 0 15) [.val]
      (lO false (.pa 0 16) [.val]
      (nD (treeI (.a 0) (.slen 15))
      (.storeM (.ea 15 (.a 0) 6 0) [(jA 1),(jA 2),(jA 3),(jA 4),(jA 5),(jA 6)]
      (nD (treeI (.a 0) (.slen 16))
      (.storeM (.ea 16 (.a 0) 1 0) [(.bool (.t true))]
      (.ret true (jE 0) []))))))))))))))
def a3F:PT :=
 (.both a3A a3H)
def a2P:PT :=
 (lO false (.pa 0 9) [jD,jD,jD,jD,jD,jD]
   (nD (.is 1 0)
   (lO false (.pa 0 0) [.val,.val,.val,.val]
   (cA 54 [(.agg [(.va 2),(.va 3),(.va 4),(.va 5)]),(jA 0),(.agg [(jA 1),(jA 2),(jA 3),(jA 4),(jA 5),(jA 6)])] [] [(.one jD)]
   (.ite (.not (.eq (.a 13) (.l 0)))
    (.ret true (jA 13) [])
    (nD (.is 1 0)
    (lO false (.pa 0 0) [.val,.val,.val,.val]
    (cA 55 [(.agg [(.va 6),(.va 7),(.va 8),(.va 9)]),(jA 0),(.agg [(jA 7),(jA 8),(jA 9),(jA 10),(jA 11),(jA 12),(jA 1),(jA 2),(jA 3),(jA 4),(jA 5),(jA 6)])] [] [(.one jD)]
    (.ite (.not (.eq (.a 14) (.l 0)))
    (.ret true (jA 14) [])
    (nD (.is 1 0)
    (nD (.is 1 0)
    (.both a3E a3F))))))))))))
def a1S:PT :=
 (nD (.is 4 0)
 (.ite (.nil 0)
 (.ret true (jE 6) [])
 (nD (.is 1 0)
 (lO false (.pa 0 18) [.bool]
 (.ite (.a 0)
  (.ret true (jE 10) [])
  (cA 53 [(.va 0),(jA 0)] [] [(.one .bool)]
  (.ite (.not (.a 1))
  (.ret true (jE 6) [])
  (nD (.is 1 0)
  (lO false (.pa 0 17) [.val]
  (nD (treeI (.a 0) (.slen 1))
  (lO false (.ea 1 (.a 0) 1 0) [.bool]
  (.ite (.a 2)
   (.ret true (jE 10) [])
   (nD (.is 1 0)
   (.both a2P a2P))))))))))))))
def d9S:Sx.Sys:=⟨[(.sh (.one .val)),(.sh (.one jD)),(.sh (.agg [jD,jD,jD,jD,jD,jD]))],a1S,[],none,none⟩
def b6R:List Cfg:=[]
theorem b9C:SysOk Tryz.prog 24 d9S:=a0K (c:=(cg [] [] [] true true false true)) (a0H _ _ _ _ _ _ _ _ _) Tryz.func24 Tryz.call24 (by kernel_rfl) b6R d9S 5000 rfl (by kernel_rfl) (by kernel_rfl) rfl
def a6Q:PT :=
 (cA 18 [(.agg [(.va 0),(.va 1),(.va 2),(.va 3)])] [] [(.one jD)]
 (.ite (.not (.eq (.a 0) (.l 0)))
 (.ret false (.tup [(.agg [(jE 0),(jE 0),(jE 0),(jE 0),(jE 0),(jE 0)]),(.agg [(jE 0),(jE 0),(jE 0),(jE 0),(jE 0),(jE 0)])]) [])
 (jU 0 [(.l 0),(.l 0),(.l 0),(.l 0),(.l 0),(.l 0),(.l 0)] [] [(.va 0),(.va 1),(.va 2),(.va 3)])))
def a3m:PT :=
 (nD (.is 0 0)
 (.ite (.lt (.a 0) (.slen 0))
 (nD (treeI (.a 0) (.slen 0))
 (lO false (.ea 0 (.a 0) 5 1) [jD]
 (.ite (.eq (.a 0) (.l 5))
  (jU 0 [(.l 6),(.a 1),(.a 2),(.a 3),(.a 4),(.a 5),(.a 7)] [] [(.va 0),(.va 1),(.va 2),(.va 3)])
  (.ite (.eq (.a 0) (.l 4))
  (jU 0 [(.l 5),(.a 1),(.a 2),(.a 3),(.a 4),(.a 7),(.a 6)] [] [(.va 0),(.va 1),(.va 2),(.va 3)])
  (.ite (.eq (.a 0) (.l 3))
   (jU 0 [(.l 4),(.a 1),(.a 2),(.a 3),(.a 7),(.a 5),(.a 6)] [] [(.va 0),(.va 1),(.va 2),(.va 3)])
   (.ite (.eq (.a 0) (.l 2))
   (jU 0 [(.l 3),(.a 1),(.a 2),(.a 7),(.a 4),(.a 5),(.a 6)] [] [(.va 0),(.va 1),(.va 2),(.va 3)])
   (.ite (.eq (.a 0) (.l 1))
    (jU 0 [(.l 2),(.a 1),(.a 7),(.a 3),(.a 4),(.a 5),(.a 6)] [] [(.va 0),(.va 1),(.va 2),(.va 3)])
    (.ite (.eq (.a 0) (.l 0))
    (jU 0 [(.l 1),(.a 7),(.a 2),(.a 3),(.a 4),(.a 5),(.a 6)] [] [(.va 0),(.va 1),(.va 2),(.va 3)])
    .stuck))))))))
 (jU 1 [(.l 0),(.a 1),(.a 2),(.a 3),(.a 4),(.a 5),(.a 6),(.l 0),(.l 0),(.l 0),(.l 0),(.l 0),(.l 0)] [] [(.va 0),(.va 1),(.va 2),(.va 3)])))
def a3o:PT :=
 (nD (.is 0 3)
 (.ite (.lt (.a 0) (.slen 3))
 (nD (treeI (.a 0) (.slen 3))
 (lO false (.ea 3 (.a 0) 3 0) [jD,jD,jD]
 (.ite (.eq (.a 13) (.l 5))
  (nD (treeB (.sub (.a 6) (.a 15)))
  (.ite (.eq (.a 13) (.l 5))
  (nD (treeB (jP 0))
  (jU 1 [(jP 0),(.a 1),(.a 2),(.a 3),(.a 4),(.a 5),(.sub (.a 6) (.a 15)),(.a 7),(.a 8),(.a 9),(.a 10),(.a 11),(.a 14)] [] [(.va 0),(.va 1),(.va 2),(.va 3)]))
  (.ite (.eq (.a 13) (.l 4))
   (nD (treeB (jP 0))
   (jU 1 [(jP 0),(.a 1),(.a 2),(.a 3),(.a 4),(.a 5),(.sub (.a 6) (.a 15)),(.a 7),(.a 8),(.a 9),(.a 10),(.a 14),(.a 12)] [] [(.va 0),(.va 1),(.va 2),(.va 3)]))
   (.ite (.eq (.a 13) (.l 3))
   (nD (treeB (jP 0))
   (jU 1 [(jP 0),(.a 1),(.a 2),(.a 3),(.a 4),(.a 5),(.sub (.a 6) (.a 15)),(.a 7),(.a 8),(.a 9),(.a 14),(.a 11),(.a 12)] [] [(.va 0),(.va 1),(.va 2),(.va 3)]))
   (.ite (.eq (.a 13) (.l 2))
    (nD (treeB (jP 0))
    (jU 1 [(jP 0),(.a 1),(.a 2),(.a 3),(.a 4),(.a 5),(.sub (.a 6) (.a 15)),(.a 7),(.a 8),(.a 14),(.a 10),(.a 11),(.a 12)] [] [(.va 0),(.va 1),(.va 2),(.va 3)]))
    (.ite (.eq (.a 13) (.l 1))
    (nD (treeB (jP 0))
    (jU 1 [(jP 0),(.a 1),(.a 2),(.a 3),(.a 4),(.a 5),(.sub (.a 6) (.a 15)),(.a 7),(.a 14),(.a 9),(.a 10),(.a 11),(.a 12)] [] [(.va 0),(.va 1),(.va 2),(.va 3)]))
    (.ite (.eq (.a 13) (.l 0))
     (nD (treeB (jP 0))
     (jU 1 [(jP 0),(.a 1),(.a 2),(.a 3),(.a 4),(.a 5),(.sub (.a 6) (.a 15)),(.a 14),(.a 8),(.a 9),(.a 10),(.a 11),(.a 12)] [] [(.va 0),(.va 1),(.va 2),(.va 3)]))
     .stuck)))))))
  (.ite (.eq (.a 13) (.l 4))
  (nD (treeB (.sub (.a 5) (.a 15)))
  (.ite (.eq (.a 13) (.l 5))
   (nD (treeB (jP 0))
   (jU 1 [(jP 0),(.a 1),(.a 2),(.a 3),(.a 4),(.sub (.a 5) (.a 15)),(.a 6),(.a 7),(.a 8),(.a 9),(.a 10),(.a 11),(.a 14)] [] [(.va 0),(.va 1),(.va 2),(.va 3)]))
   (.ite (.eq (.a 13) (.l 4))
   (nD (treeB (jP 0))
   (jU 1 [(jP 0),(.a 1),(.a 2),(.a 3),(.a 4),(.sub (.a 5) (.a 15)),(.a 6),(.a 7),(.a 8),(.a 9),(.a 10),(.a 14),(.a 12)] [] [(.va 0),(.va 1),(.va 2),(.va 3)]))
   (.ite (.eq (.a 13) (.l 3))
    (nD (treeB (jP 0))
    (jU 1 [(jP 0),(.a 1),(.a 2),(.a 3),(.a 4),(.sub (.a 5) (.a 15)),(.a 6),(.a 7),(.a 8),(.a 9),(.a 14),(.a 11),(.a 12)] [] [(.va 0),(.va 1),(.va 2),(.va 3)]))
    (.ite (.eq (.a 13) (.l 2))
    (nD (treeB (jP 0))
    (jU 1 [(jP 0),(.a 1),(.a 2),(.a 3),(.a 4),(.sub (.a 5) (.a 15)),(.a 6),(.a 7),(.a 8),(.a 14),(.a 10),(.a 11),(.a 12)] [] [(.va 0),(.va 1),(.va 2),(.va 3)]))
    (.ite (.eq (.a 13) (.l 1))
     (nD (treeB (jP 0))
     (jU 1 [(jP 0),(.a 1),(.a 2),(.a 3),(.a 4),(.sub (.a 5) (.a 15)),(.a 6),(.a 7),(.a 14),(.a 9),(.a 10),(.a 11),(.a 12)] [] [(.va 0),(.va 1),(.va 2),(.va 3)]))
     (.ite (.eq (.a 13) (.l 0))
     (nD (treeB (jP 0))
     (jU 1 [(jP 0),(.a 1),(.a 2),(.a 3),(.a 4),(.sub (.a 5) (.a 15)),(.a 6),(.a 14),(.a 8),(.a 9),(.a 10),(.a 11),(.a 12)] [] [(.va 0),(.va 1),(.va 2),(.va 3)]))
     .stuck)))))))
  (.ite (.eq (.a 13) (.l 3))
   (nD (treeB (.sub (.a 4) (.a 15)))
   (.ite (.eq (.a 13) (.l 5))
   (nD (treeB (jP 0))
   (jU 1 [(jP 0),(.a 1),(.a 2),(.a 3),(.sub (.a 4) (.a 15)),(.a 5),(.a 6),(.a 7),(.a 8),(.a 9),(.a 10),(.a 11),(.a 14)] [] [(.va 0),(.va 1),(.va 2),(.va 3)]))
   (.ite (.eq (.a 13) (.l 4))
    (nD (treeB (jP 0))
    (jU 1 [(jP 0),(.a 1),(.a 2),(.a 3),(.sub (.a 4) (.a 15)),(.a 5),(.a 6),(.a 7),(.a 8),(.a 9),(.a 10),(.a 14),(.a 12)] [] [(.va 0),(.va 1),(.va 2),(.va 3)]))
    (.ite (.eq (.a 13) (.l 3))
    (nD (treeB (jP 0))
    (jU 1 [(jP 0),(.a 1),(.a 2),(.a 3),(.sub (.a 4) (.a 15)),(.a 5),(.a 6),(.a 7),(.a 8),(.a 9),(.a 14),(.a 11),(.a 12)] [] [(.va 0),(.va 1),(.va 2),(.va 3)]))
    (.ite (.eq (.a 13) (.l 2))
     (nD (treeB (jP 0))
     (jU 1 [(jP 0),(.a 1),(.a 2),(.a 3),(.sub (.a 4) (.a 15)),(.a 5),(.a 6),(.a 7),(.a 8),(.a 14),(.a 10),(.a 11),(.a 12)] [] [(.va 0),(.va 1),(.va 2),(.va 3)]))
     (.ite (.eq (.a 13) (.l 1))
     (nD (treeB (jP 0))
     (jU 1 [(jP 0),(.a 1),(.a 2),(.a 3),(.sub (.a 4) (.a 15)),(.a 5),(.a 6),(.a 7),(.a 14),(.a 9),(.a 10),(.a 11),(.a 12)] [] [(.va 0),(.va 1),(.va 2),(.va 3)]))
     (.ite (.eq (.a 13) (.l 0))
      (nD (treeB (jP 0))
      (jU 1 [(jP 0),(.a 1),(.a 2),(.a 3),(.sub (.a 4) (.a 15)),(.a 5),(.a 6),(.a 14),(.a 8),(.a 9),(.a 10),(.a 11),(.a 12)] [] [(.va 0),(.va 1),(.va 2),(.va 3)]))
      .stuck)))))))
   (.ite (.eq (.a 13) (.l 2))
   (nD (treeB (.sub (.a 3) (.a 15)))
   (.ite (.eq (.a 13) (.l 5))
    (nD (treeB (jP 0))
    (jU 1 [(jP 0),(.a 1),(.a 2),(.sub (.a 3) (.a 15)),(.a 4),(.a 5),(.a 6),(.a 7),(.a 8),(.a 9),(.a 10),(.a 11),(.a 14)] [] [(.va 0),(.va 1),(.va 2),(.va 3)]))
    (.ite (.eq (.a 13) (.l 4))
    (nD (treeB (jP 0))
    (jU 1 [(jP 0),(.a 1),(.a 2),(.sub (.a 3) (.a 15)),(.a 4),(.a 5),(.a 6),(.a 7),(.a 8),(.a 9),(.a 10),(.a 14),(.a 12)] [] [(.va 0),(.va 1),(.va 2),(.va 3)]))
    (.ite (.eq (.a 13) (.l 3))
     (nD (treeB (jP 0))
     (jU 1 [(jP 0),(.a 1),(.a 2),(.sub (.a 3) (.a 15)),(.a 4),(.a 5),(.a 6),(.a 7),(.a 8),(.a 9),(.a 14),(.a 11),(.a 12)] [] [(.va 0),(.va 1),(.va 2),(.va 3)]))
     (.ite (.eq (.a 13) (.l 2))
     (nD (treeB (jP 0))
     (jU 1 [(jP 0),(.a 1),(.a 2),(.sub (.a 3) (.a 15)),(.a 4),(.a 5),(.a 6),(.a 7),(.a 8),(.a 14),(.a 10),(.a 11),(.a 12)] [] [(.va 0),(.va 1),(.va 2),(.va 3)]))
     (.ite (.eq (.a 13) (.l 1))
      (nD (treeB (jP 0))
      (jU 1 [(jP 0),(.a 1),(.a 2),(.sub (.a 3) (.a 15)),(.a 4),(.a 5),(.a 6),(.a 7),(.a 14),(.a 9),(.a 10),(.a 11),(.a 12)] [] [(.va 0),(.va 1),(.va 2),(.va 3)]))
      (.ite (.eq (.a 13) (.l 0))
      (nD (treeB (jP 0))
      (jU 1 [(jP 0),(.a 1),(.a 2),(.sub (.a 3) (.a 15)),(.a 4),(.a 5),(.a 6),(.a 14),(.a 8),(.a 9),(.a 10),(.a 11),(.a 12)] [] [(.va 0),(.va 1),(.va 2),(.va 3)]))
      .stuck)))))))
   (.ite (.eq (.a 13) (.l 1))
    (nD (treeB (.sub (.a 2) (.a 15)))
    (.ite (.eq (.a 13) (.l 5))
    (nD (treeB (jP 0))
    (jU 1 [(jP 0),(.a 1),(.sub (.a 2) (.a 15)),(.a 3),(.a 4),(.a 5),(.a 6),(.a 7),(.a 8),(.a 9),(.a 10),(.a 11),(.a 14)] [] [(.va 0),(.va 1),(.va 2),(.va 3)]))
    (.ite (.eq (.a 13) (.l 4))
     (nD (treeB (jP 0))
     (jU 1 [(jP 0),(.a 1),(.sub (.a 2) (.a 15)),(.a 3),(.a 4),(.a 5),(.a 6),(.a 7),(.a 8),(.a 9),(.a 10),(.a 14),(.a 12)] [] [(.va 0),(.va 1),(.va 2),(.va 3)]))
     (.ite (.eq (.a 13) (.l 3))
     (nD (treeB (jP 0))
     (jU 1 [(jP 0),(.a 1),(.sub (.a 2) (.a 15)),(.a 3),(.a 4),(.a 5),(.a 6),(.a 7),(.a 8),(.a 9),(.a 14),(.a 11),(.a 12)] [] [(.va 0),(.va 1),(.va 2),(.va 3)]))
     (.ite (.eq (.a 13) (.l 2))
      (nD (treeB (jP 0))
      (jU 1 [(jP 0),(.a 1),(.sub (.a 2) (.a 15)),(.a 3),(.a 4),(.a 5),(.a 6),(.a 7),(.a 8),(.a 14),(.a 10),(.a 11),(.a 12)] [] [(.va 0),(.va 1),(.va 2),(.va 3)]))
      (.ite (.eq (.a 13) (.l 1))
      (nD (treeB (jP 0))
      (jU 1 [(jP 0),(.a 1),(.sub (.a 2) (.a 15)),(.a 3),(.a 4),(.a 5),(.a 6),(.a 7),(.a 14),(.a 9),(.a 10),(.a 11),(.a 12)] [] [(.va 0),(.va 1),(.va 2),(.va 3)]))
      (.ite (.eq (.a 13) (.l 0))
       (nD (treeB (jP 0))
       (jU 1 [(jP 0),(.a 1),(.sub (.a 2) (.a 15)),(.a 3),(.a 4),(.a 5),(.a 6),(.a 14),(.a 8),(.a 9),(.a 10),(.a 11),(.a 12)] [] [(.va 0),(.va 1),(.va 2),(.va 3)]))
       .stuck)))))))
    (.ite (.eq (.a 13) (.l 0))
    (nD (treeB (.sub (.a 1) (.a 15)))
    (.ite (.eq (.a 13) (.l 5))
     (nD (treeB (jP 0))
     (jU 1 [(jP 0),(.sub (.a 1) (.a 15)),(.a 2),(.a 3),(.a 4),(.a 5),(.a 6),(.a 7),(.a 8),(.a 9),(.a 10),(.a 11),(.a 14)] [] [(.va 0),(.va 1),(.va 2),(.va 3)]))
     (.ite (.eq (.a 13) (.l 4))
     (nD (treeB (jP 0))
     (jU 1 [(jP 0),(.sub (.a 1) (.a 15)),(.a 2),(.a 3),(.a 4),(.a 5),(.a 6),(.a 7),(.a 8),(.a 9),(.a 10),(.a 14),(.a 12)] [] [(.va 0),(.va 1),(.va 2),(.va 3)]))
     (.ite (.eq (.a 13) (.l 3))
      (nD (treeB (jP 0))
      (jU 1 [(jP 0),(.sub (.a 1) (.a 15)),(.a 2),(.a 3),(.a 4),(.a 5),(.a 6),(.a 7),(.a 8),(.a 9),(.a 14),(.a 11),(.a 12)] [] [(.va 0),(.va 1),(.va 2),(.va 3)]))
      (.ite (.eq (.a 13) (.l 2))
      (nD (treeB (jP 0))
      (jU 1 [(jP 0),(.sub (.a 1) (.a 15)),(.a 2),(.a 3),(.a 4),(.a 5),(.a 6),(.a 7),(.a 8),(.a 14),(.a 10),(.a 11),(.a 12)] [] [(.va 0),(.va 1),(.va 2),(.va 3)]))
      (.ite (.eq (.a 13) (.l 1))
       (nD (treeB (jP 0))
       (jU 1 [(jP 0),(.sub (.a 1) (.a 15)),(.a 2),(.a 3),(.a 4),(.a 5),(.a 6),(.a 7),(.a 14),(.a 9),(.a 10),(.a 11),(.a 12)] [] [(.va 0),(.va 1),(.va 2),(.va 3)]))
       (.ite (.eq (.a 13) (.l 0))
       (nD (treeB (jP 0))
       (jU 1 [(jP 0),(.sub (.a 1) (.a 15)),(.a 2),(.a 3),(.a 4),(.a 5),(.a 6),(.a 14),(.a 8),(.a 9),(.a 10),(.a 11),(.a 12)] [] [(.va 0),(.va 1),(.va 2),(.va 3)]))
       .stuck)))))))
    .stuck))))))))
 (.ret false (.tup [(.agg [(jA 1),(jA 2),(jA 3),(jA 4),(jA 5),(jA 6)]),(.agg [(jA 7),(jA 8),(jA 9),(jA 10),(jA 11),(jA 12)])]) [])))
def d8O:Sx.Sys:=⟨[(.sh (.agg [.val,.val,.val,.val]))],a6Q,[a3m,a3o],none,none⟩
def b4i:List Cfg:=[{todo:=[(.code (tfR 7 116)),(.inLoop (tfR 7 116)),(.inBlock 0),(.code [true,true,true,true])],sl:=[(.junk 0),(.ptr 0 0),(.ptr 1 0),(.ptr 2 0),(.ptr 3 0),(.ptr 4 0),(jA 0),.undef,.undef,(.junk 1),(.junk 2),(.junk 3),.undef,.undef]++jkR 4 15++udR 29,H:=[(.cells [(.va 0),(.va 1),(.va 2),(.va 3)] 27 false),(.cells [(jE 0),(jE 0),(jE 0),(jE 0),(jE 0),(jE 0)] 51 false),(.cells [(jE 0),(jE 0),(jE 0),(jE 0),(jE 0),(jE 0)] 51 false),(.cells [(jA 1),(jA 2),(jA 3),(jA 4),(jA 5),(jA 6)] 51 false),(.cells [(jE 0),(jE 0),(jE 0),(jE 0),(jE 0),(jE 0)] 51 false)],ni:=7,nb:=0,nv:=4,nj:=19},
 {todo:=[(.code (tfR 8 244)),(.inLoop (tfR 8 244)),(.inBlock 2),(.code (tfR 5 31))],sl:=[(.junk 0),(.ptr 0 0),(.ptr 1 0),(.ptr 2 0),(.ptr 3 0),(.ptr 4 0),(.junk 1),(jA 0)]++jkR 2 4++[.undef,.undef]++jkR 6 42++[.undef,.undef],H:=[(.cells [(.va 0),(.va 1),(.va 2),(.va 3)] 27 false),(.cells [(jE 0),(jE 0),(jE 0),(jE 0),(jE 0),(jE 0)] 51 false),(.cells [(jE 0),(jE 0),(jE 0),(jE 0),(jE 0),(jE 0)] 51 false),(.cells [(jA 1),(jA 2),(jA 3),(jA 4),(jA 5),(jA 6)] 51 false),(.cells [(jA 7),(jA 8),(jA 9),(jA 10),(jA 11),(jA 12)] 51 false)],ni:=13,nb:=0,nv:=4,nj:=48}]
theorem b6c:SysOk Tryz.prog 48 d8O:=a0K (c:=(cg [(tfR 7 116),(tfR 8 244)] [] [] false false false true)) (a0H _ _ _ _ _ _ _ _ _) Tryz.func48 Tryz.call48 (by kernel_rfl) b4i d8O 5000 rfl (by kernel_rfl) (by kernel_rfl) rfl
def a8O:PT :=
 (.ite (.eq (.a 0) (.l 1))
 (cA 80 [(.agg [(.va 0),(.va 1),(.va 2),(.va 3)]),(jA 1)] [] [(.one .bool)]
 (.ite (.not (.a 0))
  (.ret false (jE 6) [])
  (cA 85 [(.agg [(jA 8),(jA 9),(jA 10),(jA 11),(jA 12),(jA 13)])] [] [(.one jD)]
  (.ite (.not (.eq (.a 14) (.l 0)))
  (.ret false (jA 14) [])
  (cA 86 [(.va 4)] [] [(.one .bool)]
  (.ite (.a 1)
   (cA 87 [(.agg [(jA 2),(jA 3),(jA 4),(jA 5),(jA 6),(jA 7),(jA 8),(jA 9),(jA 10),(jA 11),(jA 12),(jA 13)])] [] [(.one .bool)]
   (.ite (.not (.a 2))
   (.ret false (jE 15) [])
   (.ret false (jE 0) [])))
   (cA 82 [(.agg [(.va 0),(.va 1),(.va 2),(.va 3),(jA 1),(.va 4)]),(.agg [(jA 2),(jA 3),(jA 4),(jA 5),(jA 6),(jA 7),(jA 8),(jA 9),(jA 10),(jA 11),(jA 12),(jA 13)])] [] [(.one .bool)]
   (.ite (.not (.a 2))
   (.ret false (jE 15) [])
   (.ret false (jE 0) [])))))))))
 (.ite (.eq (.a 0) (.l 2))
  (cA 80 [(.agg [(.va 0),(.va 1),(.va 2),(.va 3)]),(jA 1)] [] [(.one .bool)]
  (.ite (.not (.a 0))
  (.ret false (jE 6) [])
  (cA 85 [(.agg [(jA 8),(jA 9),(jA 10),(jA 11),(jA 12),(jA 13)])] [] [(.one jD)]
  (.ite (.not (.eq (.a 14) (.l 0)))
   (.ret false (jA 14) [])
   (cA 86 [(.va 4)] [] [(.one .bool)]
   (.ite (.a 1)
   (cA 87 [(.agg [(jA 2),(jA 3),(jA 4),(jA 5),(jA 6),(jA 7),(jA 8),(jA 9),(jA 10),(jA 11),(jA 12),(jA 13)])] [] [(.one .bool)]
   (.ite (.not (.a 2))
    (.ret false (jE 15) [])
    (.ret false (jE 0) [])))
   (cA 83 [(.agg [(.va 0),(.va 1),(.va 2),(.va 3),(jA 1),(.va 4)]),(.agg [(jA 2),(jA 3),(jA 4),(jA 5),(jA 6),(jA 7),(jA 8),(jA 9),(jA 10),(jA 11),(jA 12),(jA 13)])] [] [(.one .bool)]
   (.ite (.not (.a 2))
    (.ret false (jE 15) [])
    (.ret false (jE 0) [])))))))))
  (.ite (.eq (.a 0) (.l 3))
  (cA 80 [(.agg [(.va 0),(.va 1),(.va 2),(.va 3)]),(jA 1)] [] [(.one .bool)]
  (.ite (.not (.a 0))
   (.ret false (jE 6) [])
   (cA 85 [(.agg [(jA 8),(jA 9),(jA 10),(jA 11),(jA 12),(jA 13)])] [] [(.one jD)]
   (.ite (.not (.eq (.a 14) (.l 0)))
   (.ret false (jA 14) [])
   (cA 86 [(.va 4)] [] [(.one .bool)]
   (.ite (.a 1)
    (cA 87 [(.agg [(jA 2),(jA 3),(jA 4),(jA 5),(jA 6),(jA 7),(jA 8),(jA 9),(jA 10),(jA 11),(jA 12),(jA 13)])] [] [(.one .bool)]
    (.ite (.not (.a 2))
    (.ret false (jE 15) [])
    (.ret false (jE 0) [])))
    (cA 84 [(.agg [(.va 0),(.va 1),(.va 2),(.va 3),(jA 1),(.va 4)]),(.agg [(jA 2),(jA 3),(jA 4),(jA 5),(jA 6),(jA 7),(jA 8),(jA 9),(jA 10),(jA 11),(jA 12),(jA 13)])] [] [(.one .bool)]
    (.ite (.not (.a 2))
    (.ret false (jE 15) [])
    (.ret false (jE 0) [])))))))))
  (.ret false (jE 4) []))))
def e0j:Sx.Sys:=⟨[(.sh (.agg [.val,.val,.val,.val])),(.sh (.one jD)),(.sh (.one jD)),(.sh (.one .val)),(.sh (.agg [jD,jD,jD,jD,jD,jD,jD,jD,jD,jD,jD,jD]))],a8O,[],none,none⟩
def b7E:List Cfg:=[]
theorem b9S:SysOk Tryz.prog 56 e0j:=a0K (c:=(cg [] [] [(43,[4])] false false false true)) (a0H _ _ _ _ _ _ _ _ _) Tryz.func56 Tryz.call56 (by kernel_rfl) b7E e0j 5000 rfl (by kernel_rfl) (by kernel_rfl) rfl
def b0I:PT :=
 (nD (.is 0 0)
 (.ite (.eq (.slen 0) (.l 0))
 (.ret false (jE 1) [])
 (nD (.is 0 0)
 (.ite (.lt (.l 8) (.slen 0))
  (.ret false (jE 3) [])
  (nD (.is 0 0)
  (jU 0 [(.slen 0),(.l 0)] [] [(.va 0)]))))))
def a5x:PT :=
 (.ite (.lt (.a 1) (.a 0))
 (nD (treeI (.a 1) (.slen 0))
 (lO false (.ea 0 (.a 1) 4 0) [.val,jD,jD,jD]
 (cA 97 [(.va 1)] [] [(.one .bool)]
 (.ite (.not (.a 0))
  (.ret false (jE 5) [])
  (.cut 0 none (some (.a 1)) 4
  (cA 101 [(.va 2),(.va 1)] [] [(.one jD),(.one .bool)]
  (.ite (.a 1)
  (.ret false (jE 7) [])
  (.ite (.lt (.a 2) (.l 0))
   (.ret false (jE 4) [])
   (.ite (.lt (.l 4) (.a 2))
   (.ret false (jE 4) [])
   (.ite (.lt (.a 3) (.l 0))
    (.ret false (jE 4) [])
    (.ite (.lt (.l 1000000) (.a 3))
    (.ret false (jE 4) [])
    (.ite (.lt (.a 4) (.l 0))
     (.ret false (jE 4) [])
     (.ite (.lt (.l 24000) (.a 4))
     (.ret false (jE 4) [])
     (nD (treeB (jP 1))
     (jU 0 [(.a 0),(jP 1)] [] [(.va 0)])))))))))))))))
 (.ret false (jE 0) []))
def d9D:Sx.Sys:=⟨[(.sh (.one .val))],b0I,[a5x],none,none⟩
def c0O:List Cfg:=[{todo:=[(.code (tfR 6 52)),(.inLoop (tfR 6 52)),(.inBlock 1),(.code [true,true,true])],sl:=[(.va 0),.undef]++jkR 0 13++[(.va 0),(jA 0),(jA 1)]++jkR 13 47,H:=[],ni:=2,nb:=0,nv:=1,nj:=60}]
theorem c2C:SysOk Tryz.prog 64 d9D:=a0K (c:=(cg [(tfR 6 52)] [] [] false false false true)) (a0H _ _ _ _ _ _ _ _ _) Tryz.func64 Tryz.call64 (by kernel_rfl) c0O d9D 5000 rfl (by kernel_rfl) (by kernel_rfl) rfl
def b0Y:PT :=
 (.ite (.le (.l 0) (.a 0))
 (nD (.is 0 1)
 (.ret false (.bool (.lt (.a 0) (.slen 1))) []))
 rF)
def e0x:Sx.Sys:=⟨[(.sh (.agg [.val,.val,.val,.val])),(.sh (.one jD))],b0Y,[],none,none⟩
def c0D:List Cfg:=[]
theorem c3r:SysOk Tryz.prog 80 e0x:=a0K (c:=(cg [] [] [] false false false true)) (a0H _ _ _ _ _ _ _ _ _) Tryz.func80 Tryz.call80 (by kernel_rfl) c0D e0x 5000 rfl (by kernel_rfl) (by kernel_rfl) rfl
def a8I:PT :=
 (.ite (.lt (.a 0) (.l 1))
 (.ret false (jE 4) [])
 (.ite (.lt (.l 3) (.a 0))
  (.ret false (jE 4) [])
  (nD (.is 0 0)
  (nD (.is 0 1)
  (.ite (.not (.eq (.slen 0) (.slen 1)))
  (.ret false (jE 3) [])
  (nD (.is 0 0)
  (.ite (.lt (.l 8) (.slen 0))
   (.ret false (jE 3) [])
   (cA 85 [(.agg [(jA 1),(jA 2),(jA 3),(jA 4),(jA 5),(jA 6)])] [] [(.one jD)]
   (.ite (.not (.eq (.a 7) (.l 0)))
   (.ret false (jE 4) [])
   (nD (.is 0 0)
   (jU 0 [(.l 0),(.slen 0),(.l 0)] [] [(.va 0),(.va 1),(.va 0)])))))))))))
def a2F:PT :=
 (.ite (.lt (.a 2) (.a 1))
 (nD (treeI (.a 2) (.slen 2))
 (lO false (.ea 2 (.a 2) 6 0) [jD,jD,jD,jD,jD,jD]
 (cA 85 [(.agg [(jA 3),(jA 4),(jA 5),(jA 6),(jA 7),(jA 8)])] [] [(.one jD)]
 (.ite (.not (.eq (.a 9) (.l 0)))
  (.ret false (jE 4) [])
  (nD (treeB (jP 2))
  (jU 0 [(.a 0),(.a 1),(jP 2)] [] [(.va 0),(.va 1),(.va 2)]))))))
 (nD (treeB (jP 0))
 (.ite (.lt (jP 0) (.l 2))
  (.ite (.eq (jP 0) (.l 1))
  (nD (.is 0 1)
  (jU 0 [(.l 1),(.slen 1),(.l 0)] [] [(.va 0),(.va 1),(.va 1)]))
  (.ite (.eq (jP 0) (.l 0))
   (nD (.is 0 0)
   (jU 0 [(.l 0),(.slen 0),(.l 0)] [] [(.va 0),(.va 1),(.va 0)]))
   .stuck))
  (.ret false (jE 0) []))))
def d8U:Sx.Sys:=⟨[(.sh (.one jD)),(.sh (.agg [jD,jD,jD,jD,jD,jD])),(.sh (.one .val)),(.sh (.one .val))],a8I,[a2F],none,none⟩
def b7n:List Cfg:=[{todo:=[(.code (tfR 14 13516)),(.inLoop (tfR 14 13516)),(.inBlock 3),(.inBlock 2),(.code (tfR 9 423)),(.inLoop (tfR 6 52)),(.inBlock 1),(.code [true,true,true])],sl:=jkR 0 4++[.undef,(.junk 4),.undef,.undef,(.junk 5),.undef,(.junk 6),.undef]++jkR 7 25++[(.agg [(.va 0),(.va 1)]),(jA 0),(.junk 32),(.junk 33),(.va 2),(jA 1),(jA 2)]++jkR 34 8,H:=[],ni:=3,nb:=0,nv:=3,nj:=42}]
theorem b8V:SysOk Tryz.prog 88 d8U:=a0K (c:=(cg [(tfR 14 13516)] [] [] true false false true)) (a0H _ _ _ _ _ _ _ _ _) Tryz.func88 Tryz.call88 (by kernel_rfl) b7n d8U 5000 rfl (by kernel_rfl) (by kernel_rfl) rfl
def a7H:PT :=
 (cA 123 [(jA 0)] [] [(.one jD)]
 (.ite (.not (.eq (.a 6) (.l 0)))
 rF
 (cA 123 [(jA 1)] [] [(.one jD)]
 (.ite (.not (.eq (.a 7) (.l 0)))
  rF
  (cA 123 [(jA 2)] [] [(.one jD)]
  (.ite (.not (.eq (.a 8) (.l 0)))
  rF
  (cA 123 [(jA 3)] [] [(.one jD)]
  (.ite (.not (.eq (.a 9) (.l 0)))
   rF
   (cA 123 [(jA 4)] [] [(.one jD)]
   (.ite (.not (.eq (.a 10) (.l 0)))
   rF
   (cA 123 [(jA 5)] [] [(.one jD)]
   (.ite (.not (.eq (.a 11) (.l 0)))
    rF
    (.ret false (.bool (.t true)) [])))))))))))))
def d9Z:Sx.Sys:=⟨[(.sh (.agg [jD,jD,jD,jD,jD,jD]))],a7H,[],none,none⟩
def b6J:List Cfg:=[]
theorem b8L:SysOk Tryz.prog 96 d9Z:=a0K (c:=(cg [] [] [] false false false true)) (a0H _ _ _ _ _ _ _ _ _) Tryz.func96 Tryz.call96 (by kernel_rfl) b6J d9Z 5000 rfl (by kernel_rfl) (by kernel_rfl) rfl
def a5R:PT :=
 (cA 80 [(.agg [(.va 0),(.va 1),(.va 2),(.va 3)]),(jA 0)] [] [(.one .bool)]
 (.ite (.not (.a 0))
 (.ret false (jE 0) [])
 (nD (treeI (.a 0) (.slen 1))
 (lO true (.ea 1 (.a 0) 4 3) [jD]
 (nD (.is 0 4)
 (jU 0 [(.a 0),(.a 1),(.slen 4),(.l 0)] [] [(.va 0),(.va 1),(.va 2),(.va 3),(.va 4)]))))))
def a2V:PT :=
 (.ite (.lt (.a 3) (.a 2))
 (nD (treeI (.a 3) (.slen 4))
 (lO false (.ea 4 (.a 3) 12 0) [jD,jD,jD,jD,jD,jD,jD,jD,jD,jD,jD,jD]
 (cA 119 [(.agg [(.va 0),(.va 1),(.va 2),(.va 3),(jA 0),(.va 4)]),(.agg [(jA 4),(jA 5),(jA 6),(jA 7),(jA 8),(jA 9),(jA 10),(jA 11),(jA 12),(jA 13),(jA 14),(jA 15)])] [] [(.one jD)]
 (nD (treeB (jP 3))
 (jU 0 [(.a 0),(.mn (.a 1) (.a 16)),(.a 2),(jP 3)] [] [(.va 0),(.va 1),(.va 2),(.va 3),(.va 4)])))))
 (.ret false (jA 1) []))
def d9g:Sx.Sys:=⟨[(.sh (.agg [.val,.val,.val,.val])),(.sh (.one jD)),(.sh (.one .val))],a5R,[a2V],none,none⟩
def b2s:List Cfg:=[{todo:=[(.code (tfR 7 116)),(.inLoop (tfR 7 116)),(.inBlock 0),(.code [true,true,true,true])],sl:=jkR 0 4++[.undef,.undef,(.junk 4),(.fn 119 1 [(.agg [(.va 0),(.va 1),(.va 2),(.va 3),(jA 0),(.va 4)])]),(jA 1),.undef]++jkR 5 16++[(.va 4),(jA 2),(jA 3)]++jkR 21 9++[.undef],H:=[],ni:=4,nb:=0,nv:=5,nj:=30}]
theorem b4c:SysOk Tryz.prog 120 d9g:=a0K (c:=(cg [(tfR 7 116)] [] [(33,[3])] false false false true)) (a0H _ _ _ _ _ _ _ _ _) Tryz.func120 Tryz.call120 (by kernel_rfl) b2s d9g 5000 rfl (by kernel_rfl) (by kernel_rfl) rfl
def a6l:PT :=
 (.ite (.le (.l 48) (.a 0))
 (.ret false (.bool (.le (.a 0) (.l 57))) [])
 rF)
def d9N:Sx.Sys:=⟨[(.sh (.one (.int .u8)))],a6l,[],none,none⟩
def b2X:List Cfg:=[]
theorem b5t:SysOk Tryz.prog 128 d9N:=a0K (c:=(cg [] [] [] false false false true)) (a0H _ _ _ _ _ _ _ _ _) Tryz.func128 Tryz.call128 (by kernel_rfl) b2X d9N 5000 rfl (by kernel_rfl) (by kernel_rfl) rfl
def b4Z:PT :=
 (.ite (.le (.l 0) (.a 0))
 (.ret false (.bool (.le (.a 0) (.l 1000000))) [])
 rF)
def e0L:Sx.Sys:=⟨[(.sh (.one jD))],b4Z,[],none,none⟩
def c3G:List Cfg:=[]
theorem c6k:SysOk Tryz.prog 136 e0L:=a0K (c:=(cg [] [] [] false false false true)) (a0H _ _ _ _ _ _ _ _ _) Tryz.func136 Tryz.call136 (by kernel_rfl) c3G e0L 5000 rfl (by kernel_rfl) (by kernel_rfl) rfl
def b5H:PT :=
 (cA 19 [(.va 0)] [] [(.agg [jD,jD,jD,jD,jD,jD])]
   (.mkM (.slen 1) [(.bool (.t false))] 4 1 1
   (.newM [(.va 4),(.va 5),(.va 6),(.va 7),(jA 0),(jA 1),(jA 2),(jA 3),.nilS,(jA 6),(jA 7),(jA 8),(jA 9),(jA 10),(jA 11),.nilS,.nilS,(.va 8),(.bool (.t false))] 79
   (cA 31 [(.pa 9 0)] [] []
   (.ret true (.tup [(.pa 9 0),(jE 0)]) [])))))
def b5O:PT :=
 (.mkM (.slen 1) [(.bool (.t false))] 4 1 1
   (cA 19 [(.va 0)] [] [(.agg [jD,jD,jD,jD,jD,jD])]
   (.newM [(.va 4),(.va 5),(.va 6),(.va 7),(jA 0),(jA 1),(jA 2),(jA 3),.nilS,(jA 6),(jA 7),(jA 8),(jA 9),(jA 10),(jA 11),.nilS,.nilS,(.va 8),(.bool (.t false))] 79
   (cA 31 [(.pa 9 0)] [] []
   (.ret true (.tup [(.pa 9 0),(jE 0)]) [])))))
def b6e:PT :=
 (cA 30 [(.agg [(.va 0),(.va 1),(.va 2),(.va 3)])] [] [(.agg [.val,.val,.val,.val])]
  (.both b5H b5O))
def b5S:PT :=
 (.mkM (.slen 1) [(.bool (.t false))] 4 1 1
  (cA 30 [(.agg [(.va 0),(.va 1),(.va 2),(.va 3)])] [] [(.agg [.val,.val,.val,.val])]
  (cA 19 [(.va 0)] [] [(.agg [jD,jD,jD,jD,jD,jD])]
  (.newM [(.va 5),(.va 6),(.va 7),(.va 8),(jA 0),(jA 1),(jA 2),(jA 3),.nilS,(jA 6),(jA 7),(jA 8),(jA 9),(jA 10),(jA 11),.nilS,.nilS,(.va 4),(.bool (.t false))] 79
  (cA 31 [(.pa 9 0)] [] []
  (.ret true (.tup [(.pa 9 0),(jE 0)]) []))))))
def b1h:PT :=
 (cA 28 [(.agg [(.va 0),(.va 1),(.va 2),(.va 3)])] [] [(.one jD)]
 (.ite (.not (.eq (.a 4) (.l 0)))
 (.ret true (.tup [.nilP,(jA 4)]) [])
 (cA 29 [(.agg [(jA 0),(jA 1),(jA 2),(jA 3)])] [] [(.one jD)]
 (.ite (.not (.eq (.a 5) (.l 0)))
  (.ret true (.tup [.nilP,(jA 5)]) [])
  (nD (.is 0 1)
  (.both b6e b5S))))))
def e0J:Sx.Sys:=⟨[(.sh (.agg [.val,.val,.val,.val])),(.sh (.agg [jD,jD,jD,jD]))],b1h,[],none,none⟩
def c4m:List Cfg:=[]
theorem c6G:SysOk Tryz.prog 9 e0J:=a0K (c:=(cg [] [30] [] true true false true)) (a0H _ _ _ _ _ _ _ _ _) Tryz.func9 Tryz.call9 (by kernel_rfl) c4m e0J 5000 rfl (by kernel_rfl) (by kernel_rfl) rfl
def a6f:PT :=
 (.ite (.lt (.a 0) (.l 1))
 (.ret false (jE 4) [])
 (.ite (.lt (.l 1000000) (.a 0))
  (.ret false (jE 4) [])
  (.ite (.lt (.a 1) (.l 0))
  (.ret false (jE 4) [])
  (.ite (.lt (.l 100) (.a 1))
   (.ret false (jE 4) [])
   (.ite (.lt (.a 2) (.l 1))
   (.ret false (jE 4) [])
   (.ite (.lt (.l 3) (.a 2))
    (.ret false (jE 4) [])
    (.ite (.lt (.a 3) (.l 1))
    (.ret false (jE 4) [])
    (.ite (.lt (.l 3) (.a 3))
     (.ret false (jE 4) [])
     (.ret false (jE 0) [])))))))))
def d9M:Sx.Sys:=⟨[(.sh (.agg [jD,jD,jD,jD]))],a6f,[],none,none⟩
def b2K:List Cfg:=[]
theorem b4N:SysOk Tryz.prog 17 d9M:=a0K (c:=(cg [] [] [] false false false true)) (a0H _ _ _ _ _ _ _ _ _) Tryz.func17 Tryz.call17 (by kernel_rfl) b2K d9M 5000 rfl (by kernel_rfl) (by kernel_rfl) rfl
def a5P:PT :=
 (cA 59 [(.va 0)] [] [(.one .val)]
   (lO false (.pa 0 15) [.val]
   (cA 58 [(jA 6),(.agg [(jA 0),(jA 1),(jA 2),(jA 3),(jA 4),(jA 5)]),(.va 5),(.va 6)] [] [(.one .val),(.one jD)]
   (jU 0 [(.a 7),(.a 0),(.a 1),(.a 2),(.a 3),(.a 4),(.a 5)] [] [(.va 0),(.va 7)]))))
def a5L:PT :=
 (lO false (.pa 0 15) [.val]
   (cA 59 [(.va 0)] [] [(.one .val)]
   (cA 58 [(jA 6),(.agg [(jA 0),(jA 1),(jA 2),(jA 3),(jA 4),(jA 5)]),(.va 6),(.va 5)] [] [(.one .val),(.one jD)]
   (jU 0 [(.a 7),(.a 0),(.a 1),(.a 2),(.a 3),(.a 4),(.a 5)] [] [(.va 0),(.va 7)]))))
def a5O:PT :=
 (lO false (.pa 0 6) [jD]
   (.both a5P a5L))
def a5H:PT :=
 (cA 59 [(.va 0)] [] [(.one .val)]
   (lO false (.pa 0 6) [jD]
   (lO false (.pa 0 15) [.val]
   (cA 58 [(jA 6),(.agg [(jA 0),(jA 1),(jA 2),(jA 3),(jA 4),(jA 5)]),(.va 5),(.va 6)] [] [(.one .val),(.one jD)]
   (jU 0 [(.a 7),(.a 0),(.a 1),(.a 2),(.a 3),(.a 4),(.a 5)] [] [(.va 0),(.va 7)])))))
def a5I:PT :=
 (lO false (.pa 0 6) [jD]
    (cA 59 [(.va 0)] [] [(.one .val)]
    (cA 58 [(jA 6),(.agg [(jA 0),(jA 1),(jA 2),(jA 3),(jA 4),(jA 5)]),(.va 6),(.va 5)] [] [(.one .val),(.one jD)]
    (jU 0 [(.a 7),(.a 0),(.a 1),(.a 2),(.a 3),(.a 4),(.a 5)] [] [(.va 0),(.va 7)]))))
def a5J:PT :=
 (cA 59 [(.va 0)] [] [(.one .val)]
    (lO false (.pa 0 6) [jD]
    (cA 58 [(jA 6),(.agg [(jA 0),(jA 1),(jA 2),(jA 3),(jA 4),(jA 5)]),(.va 6),(.va 5)] [] [(.one .val),(.one jD)]
    (jU 0 [(.a 7),(.a 0),(.a 1),(.a 2),(.a 3),(.a 4),(.a 5)] [] [(.va 0),(.va 7)]))))
def a5M:PT :=
 (lO false (.pa 0 15) [.val]
   (.both a5I a5J))
def a5E:PT :=
 (.both a5H a5M)
def a5N:PT :=
 (lO false (.pa 0 8) [.val]
   (.app none (.lit [[(jA 6),(jA 7),(jA 8),(jA 9),(jA 10),(jA 11),(.va 5),(.va 3),(.va 6)]]) 9
   (.appM (.va 7) (.va 8) 9 65
   (nD (.is 1 0)
   (.storeM (.pa 0 8) [(.va 9)]
   (jU 1 [(.a 0),(.a 1),(.a 2),(.a 3),(.a 4),(.a 5)] [] [(.va 0),(.va 3)]))))))
def a5t:PT :=
 (.app none (.lit [[(jA 6),(jA 7),(jA 8),(jA 9),(jA 10),(jA 11),(.va 5),(.va 3),(.va 6)]]) 9
   (lO false (.pa 0 8) [.val]
   (.appM (.va 8) (.va 7) 9 65
   (nD (.is 1 0)
   (.storeM (.pa 0 8) [(.va 9)]
   (jU 1 [(.a 0),(.a 1),(.a 2),(.a 3),(.a 4),(.a 5)] [] [(.va 0),(.va 3)]))))))
def a2w:PT :=
 (nD (.is 4 0)
 (.ite (.nil 0)
 (.ret true (.tup [(.bool (.t false)),(jE 6)]) [])
 (nD (.is 1 0)
 (lO false (.pa 0 18) [.bool]
 (.ite (.a 0)
  (.ret true (.tup [(.bool (.t false)),(jE 10)]) [])
  (nD (.is 1 0)
  (lO false (.pa 0 0) [.val]
  (cA 57 [(.va 1)] [] [(.agg [jD,jD,jD,jD,jD,jD])]
  (nD (.is 1 0)
  (lO false (.pa 0 15) [.val]
  (cA 51 [(.va 2)] [] [(.one .val)]
  (nD (.is 1 0)
  (lO false (.pa 0 8) [.val]
  (nD (.is 0 4)
  (.ite (.lt (.l 0) (.slen 4))
  (nD (.is 1 0)
  (nD (.is 1 0)
  (.both a5O a5E)))
  (nD (.is 1 0)
  (nD (.is 1 0)
  (nD (.is 1 0)
  (nD (.is 1 0)
  (lO false (.pa 0 9) [jD,jD,jD,jD,jD,jD]
  (lO false (.pa 0 15) [.val]
  (lO false (.pa 0 16) [.val]
  (.both a5N a5t)))))))))))))))))))))))
def a8t:PT :=
 (lO false (.pa 0 8) [.val]
  (.app none (.lit [[(jA 7),(jA 8),(jA 9),(jA 10),(jA 11),(jA 12),(.va 2),(.va 1),(.va 3)]]) 9
  (.appM (.va 4) (.va 5) 9 65
  (nD (.is 1 0)
  (.storeM (.pa 0 8) [(.va 6)]
  (jU 1 [(.a 1),(.a 2),(.a 3),(.a 4),(.a 5),(.a 6)] [] [(.va 0),(.va 1)]))))))
def a8v:PT :=
 (.app none (.lit [[(jA 7),(jA 8),(jA 9),(jA 10),(jA 11),(jA 12),(.va 2),(.va 1),(.va 3)]]) 9
  (lO false (.pa 0 8) [.val]
  (.appM (.va 5) (.va 4) 9 65
  (nD (.is 1 0)
  (.storeM (.pa 0 8) [(.va 6)]
  (jU 1 [(.a 1),(.a 2),(.a 3),(.a 4),(.a 5),(.a 6)] [] [(.va 0),(.va 1)]))))))
def a4U:PT :=
 (.ite (.not (.eq (.a 0) (.l 0)))
 (.ret true (.tup [(.bool (.t false)),(jA 0)]) [])
 (nD (.is 1 0)
 (nD (.is 1 0)
 (nD (.is 1 0)
 (nD (.is 1 0)
 (lO false (.pa 0 9) [jD,jD,jD,jD,jD,jD]
 (lO false (.pa 0 15) [.val]
 (lO false (.pa 0 16) [.val]
 (.both a8t a8v)))))))))
def a5n:PT :=
 (cA 61 [(.agg [(jA 12),(jA 13),(jA 14),(jA 15)]),(.agg [(jA 16),(jA 17),(jA 18),(jA 19),(jA 20),(jA 21)]),(.agg [(jA 6),(jA 7),(jA 8),(jA 9),(jA 10),(jA 11)])] [] [(.agg [jD,jD,jD,jD,jD,jD]),(.one jD)]
  (jU 2 [(.a 28),(.a 0),(.a 1),(.a 2),(.a 3),(.a 4),(.a 5),(.a 6),(.a 7),(.a 8),(.a 9),(.a 10),(.a 11),(.a 22),(.a 23),(.a 24),(.a 25),(.a 26),(.a 27)] [] [(.va 0)]))
def a8z:PT :=
 (lO false (.pa 0 9) [jD,jD,jD,jD,jD,jD]
  (.both a5n a5n))
def a8w:PT :=
 (lO false (.pa 0 9) [jD,jD,jD,jD,jD,jD]
  (cA 61 [(.agg [(jA 12),(jA 13),(jA 14),(jA 15)]),(.agg [(jA 16),(jA 17),(jA 18),(jA 19),(jA 20),(jA 21)]),(.agg [(jA 6),(jA 7),(jA 8),(jA 9),(jA 10),(jA 11)])] [] [(.agg [jD,jD,jD,jD,jD,jD]),(.one jD)]
  (jU 2 [(.a 28),(.a 0),(.a 1),(.a 2),(.a 3),(.a 4),(.a 5),(.a 6),(.a 7),(.a 8),(.a 9),(.a 10),(.a 11),(.a 22),(.a 23),(.a 24),(.a 25),(.a 26),(.a 27)] [] [(.va 0)])))
def a8x:PT :=
 (lO false (.pa 0 4) [jD,jD,jD,jD]
 (.both a8z a8w))
def a5m:PT :=
 (cA 61 [(.agg [(jA 18),(jA 19),(jA 20),(jA 21)]),(.agg [(jA 12),(jA 13),(jA 14),(jA 15),(jA 16),(jA 17)]),(.agg [(jA 6),(jA 7),(jA 8),(jA 9),(jA 10),(jA 11)])] [] [(.agg [jD,jD,jD,jD,jD,jD]),(.one jD)]
   (jU 2 [(.a 28),(.a 0),(.a 1),(.a 2),(.a 3),(.a 4),(.a 5),(.a 6),(.a 7),(.a 8),(.a 9),(.a 10),(.a 11),(.a 22),(.a 23),(.a 24),(.a 25),(.a 26),(.a 27)] [] [(.va 0)]))
def a8A:PT :=
 (lO false (.pa 0 4) [jD,jD,jD,jD]
  (.both a5m a5m))
def a8G:PT :=
 (lO false (.pa 0 4) [jD,jD,jD,jD]
  (cA 61 [(.agg [(jA 18),(jA 19),(jA 20),(jA 21)]),(.agg [(jA 12),(jA 13),(jA 14),(jA 15),(jA 16),(jA 17)]),(.agg [(jA 6),(jA 7),(jA 8),(jA 9),(jA 10),(jA 11)])] [] [(.agg [jD,jD,jD,jD,jD,jD]),(.one jD)]
  (jU 2 [(.a 28),(.a 0),(.a 1),(.a 2),(.a 3),(.a 4),(.a 5),(.a 6),(.a 7),(.a 8),(.a 9),(.a 10),(.a 11),(.a 22),(.a 23),(.a 24),(.a 25),(.a 26),(.a 27)] [] [(.va 0)])))
def a8D:PT :=
 (lO false (.pa 0 9) [jD,jD,jD,jD,jD,jD]
  (.both a8A a8G))
def a8u:PT :=
 (lO false (.pa 0 4) [jD,jD,jD,jD]
  (lO false (.pa 0 9) [jD,jD,jD,jD,jD,jD]
  (cA 61 [(.agg [(jA 12),(jA 13),(jA 14),(jA 15)]),(.agg [(jA 16),(jA 17),(jA 18),(jA 19),(jA 20),(jA 21)]),(.agg [(jA 6),(jA 7),(jA 8),(jA 9),(jA 10),(jA 11)])] [] [(.agg [jD,jD,jD,jD,jD,jD]),(.one jD)]
  (jU 2 [(.a 28),(.a 0),(.a 1),(.a 2),(.a 3),(.a 4),(.a 5),(.a 6),(.a 7),(.a 8),(.a 9),(.a 10),(.a 11),(.a 22),(.a 23),(.a 24),(.a 25),(.a 26),(.a 27)] [] [(.va 0)]))))
def a7K:PT :=
 (.both a8D a8u)
def a4N:PT :=
 (cA 31 [(.va 0)] [] []
 (cA 60 [(.agg [(jA 0),(jA 1),(jA 2),(jA 3),(jA 4),(jA 5)]),(.va 1)] [] [(.agg [jD,jD,jD,jD,jD,jD])]
 (nD (.is 1 0)
 (nD (.is 1 0)
 (.both a8x a7K)))))
def a2O:PT :=
 (.ite (.and (.eq (.a 7) (.l 0)) (.and (.eq (.a 8) (.l 0)) (.and (.eq (.a 9) (.l 0)) (.and (.eq (.a 10) (.l 0)) (.and (.eq (.a 11) (.l 0)) (.eq (.a 12) (.l 0)))))))
 (nD (.is 1 0)
 (.storeM (.pa 0 18) [(.bool (.t true))]
 (.ret true (.tup [(.bool (.t true)),(jE 0)]) [])))
 (nD (.is 1 0)
 (lO false (.pa 0 8) [.val]
 (nD (.is 0 1)
 (.ite (.le (.l 30) (.slen 1))
  (nD (.is 1 0)
  (.storeM (.pa 0 18) [(.bool (.t true))]
  (.ret true (.tup [(.bool (.t true)),(jE 0)]) [])))
  (.ite (.not (.eq (.a 0) (.l 0)))
  (nD (.is 1 0)
  (.storeM (.pa 0 18) [(.bool (.t true))]
  (.ret true (.tup [(.bool (.t true)),(jE 0)]) [])))
  (nD (.is 1 0)
  (.storeM (.pa 0 9) [(jA 13),(jA 14),(jA 15),(jA 16),(jA 17),(jA 18)]
  (.ret true (.tup [(.bool (.t false)),(jE 0)]) [])))))))))
def d8T:Sx.Sys:=⟨[(.sh (.one .val))],a2w,[a4U,a4N,a2O],none,none⟩
def b4Y:List Cfg:=[{todo:=[(.code (tfR 9 490)),(.code (tfR 9 491)),(.code (tfR 5 31))],sl:=[(.va 0),.undef,(.junk 0),(.junk 1),(.ptr 0 0),(.junk 2),(.va 1),(jA 0),.undef,.undef,.undef]++jkR 3 41++udR 67,H:=[(.cells [(jA 1),(jA 2),(jA 3),(jA 4),(jA 5),(jA 6)] 51 false)],ni:=7,nb:=0,nv:=2,nj:=44},
 {todo:=[(.code (tfR 7 126)),(.code (tfR 7 127))],sl:=[(.va 0),.undef,(.junk 0),(.junk 1),(.ptr 0 0),(.va 1),(.junk 2),(.junk 3),.undef,.undef,.undef]++jkR 4 43++[.undef]++jkR 47 24++udR 40,H:=[(.cells [(jA 0),(jA 1),(jA 2),(jA 3),(jA 4),(jA 5)] 51 false)],ni:=6,nb:=0,nv:=2,nj:=71},
 {todo:=[(.code (tfR 10 1022)),(.code (tfR 10 1023))],sl:=[(.va 0),.undef]++jkR 0 6++[(.ptr 1 0),(.ptr 2 0),(jA 0)]++jkR 6 43++[.undef]++jkR 49 42++udR 22,H:=[(.cells [(jA 1),(jA 2),(jA 3),(jA 4),(jA 5),(jA 6)] 51 false),(.cells [(jA 7),(jA 8),(jA 9),(jA 10),(jA 11),(jA 12)] 51 false),(.cells [(jA 13),(jA 14),(jA 15),(jA 16),(jA 17),(jA 18)] 38 false)],ni:=19,nb:=0,nv:=1,nj:=91}]
theorem b8j:SysOk Tryz.prog 25 d8T:=a0K (c:=(cg [] [] [] true true true true [(tfR 8 245),(tfR 6 63),(tfR 9 511)] [])) (a0H _ _ _ _ _ _ _ _ _) Tryz.func25 Tryz.call25 (by kernel_rfl) b4Y d8T 5000 rfl (by kernel_rfl) (by kernel_rfl) rfl
def a5W:PT :=
 (nD (.is 0 0)
 (.ite (.lt (.l 0) (.slen 0))
 (nD (.lt (.l 0) (.slen 0))
 (lO false (.ea 0 (.l 0) 5 1) [jD]
 (nD (.is 0 0)
 (.ite (.lt (.l 1) (.slen 0))
  (nD (.lt (.l 1) (.slen 0))
  (lO false (.ea 0 (.l 1) 5 1) [jD]
  (nD (.is 0 0)
  (.ite (.lt (.l 2) (.slen 0))
  (nD (.lt (.l 2) (.slen 0))
  (lO false (.ea 0 (.l 2) 5 1) [jD]
  (nD (.is 0 0)
  (.ite (.lt (.l 3) (.slen 0))
   (nD (.lt (.l 3) (.slen 0))
   (lO false (.ea 0 (.l 3) 5 1) [jD]
   (nD (.is 0 0)
   (.ite (.lt (.l 4) (.slen 0))
   (nD (.lt (.l 4) (.slen 0))
   (lO false (.ea 0 (.l 4) 5 1) [jD]
   (nD (.is 0 0)
   (.ite (.lt (.l 5) (.slen 0))
    (nD (.lt (.l 5) (.slen 0))
    (lO false (.ea 0 (.l 5) 5 1) [jD]
    (nD (.is 0 0)
    (.ite (.lt (.l 6) (.slen 0))
    (.ret false (.agg [(jA 0),(jA 1),(jA 2),(jA 3),(jA 4),(jA 5)]) [])
    (.ret false (.agg [(jA 0),(jA 1),(jA 2),(jA 3),(jA 4),(jA 5)]) [])))))
    (.ret false (.agg [(jA 0),(jA 1),(jA 2),(jA 3),(jA 4),(jE 0)]) [])))))
   (.ret false (.agg [(jA 0),(jA 1),(jA 2),(jA 3),(jE 0),(jE 0)]) [])))))
   (.ret false (.agg [(jA 0),(jA 1),(jA 2),(jE 0),(jE 0),(jE 0)]) [])))))
  (.ret false (.agg [(jA 0),(jA 1),(jE 0),(jE 0),(jE 0),(jE 0)]) [])))))
  (.ret false (.agg [(jA 0),(jE 0),(jE 0),(jE 0),(jE 0),(jE 0)]) [])))))
 (.ret false (.agg [(jE 0),(jE 0),(jE 0),(jE 0),(jE 0),(jE 0)]) [])))
def d9F:Sx.Sys:=⟨[(.sh (.one .val))],a5W,[],none,none⟩
def b2m:List Cfg:=[]
theorem b3E:SysOk Tryz.prog 49 d9F:=a0K (c:=(cg [] [] [] false false false true)) (a0H _ _ _ _ _ _ _ _ _) Tryz.func49 Tryz.call49 (by kernel_rfl) b2m d9F 5000 rfl (by kernel_rfl) (by kernel_rfl) rfl
def a9i:PT :=
 (nD (.is 0 0)
 (jU 0 [(.slen 0),(.l 0),(.l 0),(.l 0),(.l 0),(.l 0),(.l 0),(.l 0)] [] [(.va 0)]))
def a4M:PT :=
 (.ite (.lt (.a 1) (.a 0))
 (nD (treeI (.a 1) (.slen 0))
 (lO false (.ea 0 (.a 1) 5 0) [.val,jD,jD,jD,jD]
 (.ite (.lt (.a 1) (.l 6))
  (.ite (.eq (.a 1) (.l 5))
  (jU 0 [(.a 0),(.l 6),(.a 2),(.a 3),(.a 4),(.a 5),(.a 6),(.a 8)] [] [(.va 0)])
  (.ite (.eq (.a 1) (.l 4))
   (jU 0 [(.a 0),(.l 5),(.a 2),(.a 3),(.a 4),(.a 5),(.a 8),(.a 7)] [] [(.va 0)])
   (.ite (.eq (.a 1) (.l 3))
   (jU 0 [(.a 0),(.l 4),(.a 2),(.a 3),(.a 4),(.a 8),(.a 6),(.a 7)] [] [(.va 0)])
   (.ite (.eq (.a 1) (.l 2))
    (jU 0 [(.a 0),(.l 3),(.a 2),(.a 3),(.a 8),(.a 5),(.a 6),(.a 7)] [] [(.va 0)])
    (.ite (.eq (.a 1) (.l 1))
    (jU 0 [(.a 0),(.l 2),(.a 2),(.a 8),(.a 4),(.a 5),(.a 6),(.a 7)] [] [(.va 0)])
    (.ite (.eq (.a 1) (.l 0))
     (jU 0 [(.a 0),(.l 1),(.a 8),(.a 3),(.a 4),(.a 5),(.a 6),(.a 7)] [] [(.va 0)])
     .stuck))))))
  (nD (treeB (jP 1))
  (jU 0 [(.a 0),(jP 1),(.a 2),(.a 3),(.a 4),(.a 5),(.a 6),(.a 7)] [] [(.va 0)])))))
 (.ret false (.agg [(jA 2),(jA 3),(jA 4),(jA 5),(jA 6),(jA 7)]) []))
def d9f:Sx.Sys:=⟨[(.sh (.one .val))],a9i,[a4M],none,none⟩
def b8F:List Cfg:=[{todo:=[(.code (tfR 6 52)),(.inLoop (tfR 6 52)),(.inBlock 0),(.code [true,true,true])],sl:=[(.junk 0),.undef,(.ptr 0 0),(.ptr 1 0),(.junk 1),(.junk 2),(.va 0),(jA 0),(jA 1)]++jkR 3 11++[.undef],H:=[(.cells [(jE 0),(jE 0),(jE 0),(jE 0),(jE 0),(jE 0)] 51 false),(.cells [(jA 2),(jA 3),(jA 4),(jA 5),(jA 6),(jA 7)] 51 false)],ni:=8,nb:=0,nv:=1,nj:=14}]
theorem c0N:SysOk Tryz.prog 57 d9f:=a0K (c:=(cg [(tfR 6 52)] [] [] false false false true)) (a0H _ _ _ _ _ _ _ _ _) Tryz.func57 Tryz.call57 (by kernel_rfl) b8F d9f 5000 rfl (by kernel_rfl) (by kernel_rfl) rfl
def a8P:PT :=
 (nD (.is 0 2)
 (.ite (.lt (.l 16) (.slen 2))
 (.ret false (jE 3) [])
 (nD (.is 0 2)
 (jU 0 [(.slen 2),(.l 0)] [] [(.va 2),(.va 0),(.va 1),(.va 3)]))))
def a4o:PT :=
 (.ite (.lt (.a 1) (.a 0))
 (nD (treeI (.a 1) (.slen 0))
 (lO false (.ea 0 (.a 1) 3 0) [jD,jD,jD]
 (.ite (.lt (.a 2) (.l (-1)))
  (.ret false (jE 6) [])
  (nD (.is 0 2)
  (.ite (.le (.slen 2) (.a 2))
  (.ret false (jE 6) [])
  (.ite (.lt (.a 3) (.l 0))
   (.ret false (jE 4) [])
   (.ite (.lt (.l 4) (.a 3))
   (.ret false (jE 4) [])
   (.ite (.lt (.a 4) (.l 0))
    (.ret false (jE 4) [])
    (.ite (.lt (.l 24) (.a 4))
    (.ret false (jE 4) [])
    (.cut 0 none (some (.a 1)) 3
    (nD (.is 0 4)
    (jU 1 [(.a 0),(.a 1),(.a 2),(.slen 2),(.a 3),(.a 4),(.slen 4),(.l 0)] [(.le (.slen 2) (.a 2)),(.lt (.l 4) (.a 3)),(.lt (.a 4) (.l 0)),(.lt (.l 24) (.a 4))] [(.va 0),(.va 2),(.va 4),(.va 1),(.va 3)]))))))))))))
 (.ret false (jE 0) []))
def a4q:PT :=
 (.ite (.lt (.a 7) (.a 6))
 (nD (treeI (.a 7) (.slen 2))
 (lO false (.ea 2 (.a 7) 3 0) [jD,jD,jD]
 (.ite (.eq (.a 8) (.a 2))
  (.ite (.eq (.a 9) (.a 4))
  (.ret false (jE 7) [])
  (nD (treeB (jP 7))
  (jU 1 [(.a 0),(.a 1),(.a 2),(.a 3),(.a 4),(.a 5),(.a 6),(jP 7)] [(.a 0),(.a 1),(.a 2),(.a 3)] [(.va 0),(.va 1),(.va 2),(.va 3),(.va 4)])))
  (nD (treeB (jP 7))
  (jU 1 [(.a 0),(.a 1),(.a 2),(.a 3),(.a 4),(.a 5),(.a 6),(jP 7)] [(.a 0),(.a 1),(.a 2),(.a 3)] [(.va 0),(.va 1),(.va 2),(.va 3),(.va 4)])))))
 (nD (treeB (jP 1))
 (jU 0 [(.a 0),(jP 1)] [] [(.va 0),(.va 3),(.va 1),(.va 4)])))
def d8Z:Sx.Sys:=⟨[(.sh (.agg [.val,.val,.val,.val]))],a8P,[a4o,a4q],none,none⟩
def b7f:List Cfg:=[{todo:=[(.code (tfR 6 52)),(.inLoop (tfR 6 52)),(.inBlock 0),(.code [true,true,true])],sl:=[(.junk 0),(.ptr 0 0),(.junk 1),(.junk 2),(.junk 3),.undef]++jkR 4 6++[(.va 0),(jA 0),(jA 1)]++jkR 10 56,H:=[(.cells [(.va 1),(.va 2),(.va 0),(.va 3)] 27 false)],ni:=2,nb:=0,nv:=4,nj:=66},
 {todo:=[(.code (tfR 16 54076)),(.inLoop (tfR 16 54076)),(.inBlock 2),(.inBlock 1),(.code (tfR 9 423)),(.inLoop (tfR 6 52)),(.inBlock 0),(.code [true,true,true])],sl:=[(.junk 0),(.ptr 0 0),(.junk 1),(.junk 2),(.ptr 1 0),.undef]++jkR 3 6++[(.va 0),(jA 0),(jA 1)]++jkR 9 8++[(.ptr 1 0),(jA 2),(.ptr 0 1),(.va 1),(jA 3),(.bool (.a 0))]++jkR 17 5++[(.ptr 1 1),(jA 4),(.bool (.a 1)),(.junk 22),(.junk 23),(.ptr 1 2),(jA 5),(.bool (.a 2)),(.junk 24),(.junk 25),(.ptr 1 2),(jA 5),(.bool (.a 3))]++jkR 26 4++[(.va 2),(jA 6),(jA 7)]++jkR 30 17,H:=[(.cells [(.va 3),(.va 1),(.va 0),(.va 4)] 27 false),(.cells [(jA 2),(jA 4),(jA 5)] 89 false)],ni:=8,nb:=4,nv:=5,nj:=47}]
theorem b9z:SysOk Tryz.prog 65 d8Z:=a0K (c:=(cg [(tfR 6 52),(tfR 16 54076)] [] [] false false false true)) (a0H _ _ _ _ _ _ _ _ _) Tryz.func65 Tryz.call65 (by kernel_rfl) b7f d8Z 5000 rfl (by kernel_rfl) (by kernel_rfl) rfl
def b1N:PT :=
 (nD (treeB (.mul (.a 0) (.a 6)))
 (nD (treeB (.mul (.a 0) (.a 6)))
 (nD (treeB (.mul (.a 1) (.a 7)))
 (nD (treeB (.add (.mul (.a 0) (.a 6)) (.mul (.a 1) (.a 7))))
 (nD (treeB (.mul (.a 2) (.a 8)))
 (nD (treeB (.add (.add (.mul (.a 0) (.a 6)) (.mul (.a 1) (.a 7))) (.mul (.a 2) (.a 8))))
 (nD (treeB (.mul (.a 3) (.a 9)))
 (nD (treeB (.add (.add (.add (.mul (.a 0) (.a 6)) (.mul (.a 1) (.a 7))) (.mul (.a 2) (.a 8))) (.mul (.a 3) (.a 9))))
 (nD (treeB (.mul (.a 4) (.a 10)))
 (nD (treeB (.add (.add (.add (.add (.mul (.a 0) (.a 6)) (.mul (.a 1) (.a 7))) (.mul (.a 2) (.a 8))) (.mul (.a 3) (.a 9))) (.mul (.a 4) (.a 10))))
 (nD (treeB (.mul (.a 5) (.a 11)))
 (nD (treeB (.add (.add (.add (.add (.add (.mul (.a 0) (.a 6)) (.mul (.a 1) (.a 7))) (.mul (.a 2) (.a 8))) (.mul (.a 3) (.a 9))) (.mul (.a 4) (.a 10))) (.mul (.a 5) (.a 11))))
 (.ret false (.int .i64 (.add (.add (.add (.add (.add (.mul (.a 0) (.a 6)) (.mul (.a 1) (.a 7))) (.mul (.a 2) (.a 8))) (.mul (.a 3) (.a 9))) (.mul (.a 4) (.a 10))) (.mul (.a 5) (.a 11)))) [])))))))))))))
def e0G:Sx.Sys:=⟨[(.sh (.agg [jD,jD,jD,jD,jD,jD])),(.sh (.agg [jD,jD,jD,jD,jD,jD]))],b1N,[],none,none⟩
def c1O:List Cfg:=[]
theorem c4c:SysOk Tryz.prog 81 e0G:=a0K (c:=(cg [] [] [] false false false true)) (a0H _ _ _ _ _ _ _ _ _) Tryz.func81 Tryz.call81 (by kernel_rfl) c1O e0G 5000 rfl (by kernel_rfl) (by kernel_rfl) rfl
def b0N:PT :=
 (nD (.is 3 0)
 (.ite (.not (.sis 0 []))
 (nD (.is 3 0)
 (.ite (.le (.stl 0) (.l 12))
  (nD (.is 3 0)
  (nD (.lt (.l 0) (.stl 0))
  (nD (.and (.le (.l (-2147483648)) (.sat 0 (.l 0))) (.le (.sat 0 (.l 0)) (.l 2147483647)))
  (cA 124 [(.int .i32 (.sat 0 (.l 0)))] [] [(.one .bool)]
  (.ite (.a 0)
  (cA 125 [(.va 0),(jE 0),(.fn 126 0 [])] [] [(.one .val)]
  (nD (.is 3 1)
  (nD (.is 3 0)
  (.ret false (.bool (.seq 1 0)) []))))
  rF)))))
  rF))
 rF))
def e0w:Sx.Sys:=⟨[(.sh (.one .val))],b0N,[],none,none⟩
def c0w:List Cfg:=[]
theorem c3v:SysOk Tryz.prog 97 e0w:=a0K (c:=(cg [] [] [] false false false true)) (a0H _ _ _ _ _ _ _ _ _) Tryz.func97 Tryz.call97 (by kernel_rfl) c0w e0w 5000 rfl (by kernel_rfl) (by kernel_rfl) rfl
def a5D:PT :=
 (.ite (.le (.l 97) (.a 0))
 (.ret false (.bool (.le (.a 0) (.l 122))) [])
 rF)
def d9G:Sx.Sys:=⟨[(.sh (.one (.int .u8)))],a5D,[],none,none⟩
def b2n:List Cfg:=[]
theorem b3X:SysOk Tryz.prog 113 d9G:=a0K (c:=(cg [] [] [] false false false true)) (a0H _ _ _ _ _ _ _ _ _) Tryz.func113 Tryz.call113 (by kernel_rfl) b2n d9G 5000 rfl (by kernel_rfl) (by kernel_rfl) rfl
def a9u:PT :=
 (cA 134 [(.va 0)] [] [(.one .bool)]
 (.ite (.not (.a 0))
 (.ret false (.tup [(.agg [.nilS,.nilS]),(.bool (.t false))]) [])
 (cA 135 [(.va 0)] [] [(.one .val),(.one .val)]
 (nD (.is 0 2)
 (.ite (.not (.nil 2))
  (.ret false (.tup [(.agg [(.va 2),.nilS]),(.bool (.t false))]) [])
  (nD (.is 0 0)
  (jU 0 [(.l 0),(.slen 0),(.l 0)] [] [(.va 0),(.va 1)])))))))
def a6M:PT :=
 (cA 81 [(.agg [(jA 3),(jA 4),(jA 5),(jA 6),(jA 7),(jA 8)]),(.agg [(jA 9),(jA 10),(jA 11),(jA 12),(jA 13),(jA 14)])] [] [(.one jD)]
  (lO false (.ea 1 (.a 2) 1 0) [jD]
  (nD (treeB (.sub (.a 15) (.a 16)))
  (nD (treeB (jP 2))
  (jU 0 [(.mx (.a 0) (.sub (.a 15) (.a 16))),(.a 1),(jP 2)] [] [(.va 0),(.va 1)])))))
def a6A:PT :=
 (lO false (.ea 1 (.a 2) 1 0) [jD]
  (cA 81 [(.agg [(jA 3),(jA 4),(jA 5),(jA 6),(jA 7),(jA 8)]),(.agg [(jA 9),(jA 10),(jA 11),(jA 12),(jA 13),(jA 14)])] [] [(.one jD)]
  (nD (treeB (.sub (.a 16) (.a 15)))
  (nD (treeB (jP 2))
  (jU 0 [(.mx (.a 0) (.sub (.a 16) (.a 15))),(.a 1),(jP 2)] [] [(.va 0),(.va 1)])))))
def a3P:PT :=
 (.ite (.lt (.a 2) (.a 1))
 (nD (treeI (.a 2) (.slen 0))
 (lO false (.ea 0 (.a 2) 12 0) [jD,jD,jD,jD,jD,jD,jD,jD,jD,jD,jD,jD]
 (nD (treeI (.a 2) (.slen 1))
 (.both a6M a6A))))
 (nD (.is 0 0)
 (jU 1 [(.a 0),(.slen 0),(.l 0)] [] [(.va 1),(.va 0)])))
def a3O:PT :=
 (.ite (.lt (.a 2) (.a 1))
 (nD (treeI (.a 2) (.slen 1))
 (lO false (.ea 1 (.a 2) 12 0) [jD,jD,jD,jD,jD,jD,jD,jD,jD,jD,jD,jD]
 (.ite (.and (.eq (.a 9) (.l 0)) (.and (.eq (.a 10) (.l 0)) (.and (.eq (.a 11) (.l 0)) (.and (.eq (.a 12) (.l 0)) (.and (.eq (.a 13) (.l 0)) (.eq (.a 14) (.l 0)))))))
  (nD (treeI (.a 2) (.slen 0))
  (lO false (.ea 0 (.a 2) 1 0) [jD]
  (nD (treeB (.sub (.l 0) (.a 15)))
  (nD (treeB (jP 2))
  (jU 1 [(.sub (.l 0) (.a 15)),(.a 1),(jP 2)] [] [(.va 0),(.va 1)])))))
  (nD (treeB (jP 2))
  (jU 1 [(.a 0),(.a 1),(jP 2)] [] [(.va 0),(.va 1)])))))
 (nD (.is 0 0)
 (jU 2 [(.a 0),(.slen 0),(.l 0)] [] [(.va 0)])))
def a4J:PT :=
 (.ite (.lt (.a 2) (.a 1))
 (nD (treeI (.a 2) (.slen 0))
 (lO false (.ea 0 (.a 2) 1 0) [jD]
 (nD (treeB (.add (.a 3) (.a 0)))
 (nD (treeI (.a 2) (.slen 0))
 (.storeM (.ea 0 (.a 2) 1 0) [(.int .i64 (.add (.a 3) (.a 0)))]
 (nD (treeB (jP 2))
 (jU 2 [(.a 0),(.a 1),(jP 2)] [] [(.va 0)])))))))
 (.ret false (.tup [(.agg [.nilS,(.va 0)]),(.bool (.t true))]) []))
def d8M:Sx.Sys:=⟨[(.sh (.one .val))],a9u,[a3P,a3O,a4J],none,none⟩
def b8C:List Cfg:=[{todo:=[(.code (tfR 9 500)),(.inLoop (tfR 9 500)),(.inBlock 0),(.code (tfR 6 63))],sl:=[(.va 0),.undef,(.ptr 0 0),(.junk 0),(.va 1),(.junk 1),(jA 0),(.junk 2),(.junk 3),.undef,.undef,.undef,(.junk 4),(.junk 5),(.junk 6),.undef]++jkR 7 7++[.undef,.undef,(.va 0),(jA 1),(jA 2)]++jkR 14 17++udR 32,H:=[(.cells [.nilS,.nilS] 163 false)],ni:=3,nb:=0,nv:=2,nj:=31},
 {todo:=[(.code (tfR 10 1012)),(.inLoop (tfR 10 1012)),(.inBlock 2),(.code (tfR 7 127))],sl:=[(.junk 0),.undef,(.ptr 0 0),(.junk 1),(.va 0),(.junk 2),(jA 0)]++jkR 3 4++[.undef,(.junk 7),(.junk 8),(.junk 9),.undef]++jkR 10 7++[.undef,.undef]++jkR 17 20++[(.va 1),(jA 1),(jA 2)]++jkR 37 14++udR 15,H:=[(.cells [.nilS,.nilS] 163 false)],ni:=3,nb:=0,nv:=2,nj:=51},
 {todo:=[(.code (tfR 11 2036)),(.inLoop (tfR 11 2036)),(.inBlock 4),(.code (tfR 8 255))],sl:=[(.junk 0),.undef,(.ptr 0 0),(.junk 1),(.va 0),(.junk 2),(jA 0)]++jkR 3 8++[.undef]++jkR 11 7++[.undef,.undef]++jkR 18 38++[(jA 1),(jA 2)]++jkR 56 10++[.undef,.undef],H:=[(.cells [.nilS,.nilS] 163 false)],ni:=3,nb:=0,nv:=1,nj:=66}]
theorem c0F:SysOk Tryz.prog 121 d8M:=a0K (c:=(cg [(tfR 9 500),(tfR 10 1012),(tfR 11 2036)] [] [] true false false true)) (a0H _ _ _ _ _ _ _ _ _) Tryz.func121 Tryz.call121 (by kernel_rfl) b8C d8M 5000 rfl (by kernel_rfl) (by kernel_rfl) rfl
def b7x:PT :=
 (jU 0 [(.a 0)] [] [])
def b6F:PT :=
 .stuck
def e0o:Sx.Sys:=⟨[(.sh (.one (.int .u8)))],b7x,[b6F],none,none⟩
def b3G:List Cfg:=[{todo:=[(.code (tfR 6 52)),(.inLoop (tfR 6 52)),(.inBlock 0),(.code [true,true,true])],sl:=[(.int .u8 (.a 0)),.undef,(.junk 0),(.str [123,125,40,41,58,44,64,43,45,61]),(jE 0)]++udR 11,H:=[],ni:=1,nb:=0,nv:=0,nj:=1}]
theorem b6v:SysOk Tryz.prog 129 e0o:=a0K (c:=(cg [(tfR 6 52)] [] [] false false false true)) (a0H _ _ _ _ _ _ _ _ _) Tryz.func129 Tryz.call129 (by kernel_rfl) b3G e0o 5000 rfl (by kernel_rfl) (by kernel_rfl) rfl
def b1L:PT :=
 (.ite (.le (.l 48) (.a 0))
 (.ret false (.bool (.le (.a 0) (.l 57))) [])
 rF)
def e0E:Sx.Sys:=⟨[(.sh (.one (.int .i32)))],b1L,[],none,none⟩
def c1U:List Cfg:=[]
theorem c3L:SysOk Tryz.prog 137 e0E:=a0K (c:=(cg [] [] [] false false false true)) (a0H _ _ _ _ _ _ _ _ _) Tryz.func137 Tryz.call137 (by kernel_rfl) c1U e0E 5000 rfl (by kernel_rfl) (by kernel_rfl) rfl
def a6k:PT :=
 (cA 43 [(.va 0)] [] [(.one jD)]
 (.ite (.eq (.a 0) (.l 0))
 (cA 44 [(.va 1)] [] [(.one jD)]
 (.ite (.not (.eq (.a 1) (.l 0)))
  (.ret false (jA 1) [])
  (nD (.is 0 2)
  (.ite (.lt (.l 16) (.slen 2))
  (.ret false (jE 3) [])
  (jU 0 [(.l 0)] [] [(.va 0),(.va 1),(.va 2),(.va 3)])))))
 (.ite (.not (.eq (.a 0) (.l 0)))
  (.ret false (jA 0) [])
  (nD (.is 0 2)
  (.ite (.lt (.l 16) (.slen 2))
  (.ret false (jE 3) [])
  (jU 0 [(.l 0)] [] [(.va 0),(.va 1),(.va 2),(.va 3)]))))))
def a3i:PT :=
 (nD (.is 0 2)
 (.ite (.lt (.a 0) (.slen 2))
 (nD (treeI (.a 0) (.slen 2))
 (lO false (.ea 2 (.a 0) 3 0) [jD,jD,jD]
 (.ite (.lt (.a 1) (.l (-1)))
  (.ret false (jE 6) [])
  (nD (.is 0 1)
  (.ite (.le (.slen 1) (.a 1))
  (.ret false (jE 6) [])
  (.ite (.lt (.a 2) (.l 0))
   (.ret false (jE 4) [])
   (.ite (.lt (.l 4) (.a 2))
   (.ret false (jE 4) [])
   (.ite (.lt (.a 3) (.l 0))
    (.ret false (jE 4) [])
    (.ite (.lt (.l 24) (.a 3))
    (.ret false (jE 4) [])
    (jU 1 [(.a 0),(.l 0),(.a 1),(.slen 1),(.a 2),(.a 3)] [(.le (.slen 1) (.a 1)),(.lt (.l 4) (.a 2)),(.lt (.a 3) (.l 0)),(.lt (.l 24) (.a 3))] [(.va 1),(.va 0),(.va 2),(.va 3)]))))))))))
 (nD (.is 0 3)
 (.ite (.lt (.l 6) (.slen 3))
  (.ret false (jE 3) [])
  (jU 2 [(.l 0)] [] [(.va 0),(.va 1),(.va 2),(.va 3)])))))
def a3b:PT :=
 (.ite (.lt (.a 1) (.a 0))
 (nD (treeI (.a 1) (.slen 2))
 (lO true (.ea 2 (.a 1) 3 0) [jD]
 (.ite (.eq (.a 6) (.a 2))
  (nD (treeI (.a 1) (.slen 2))
  (lO true (.ea 2 (.a 1) 3 1) [jD]
  (.ite (.eq (.a 7) (.a 4))
  (.ret false (jE 7) [])
  (nD (treeB (jP 1))
  (jU 1 [(.a 0),(jP 1),(.a 2),(.a 3),(.a 4),(.a 5)] [(.a 0),(.a 1),(.a 2),(.a 3)] [(.va 0),(.va 1),(.va 2),(.va 3)])))))
  (nD (treeB (jP 1))
  (jU 1 [(.a 0),(jP 1),(.a 2),(.a 3),(.a 4),(.a 5)] [(.a 0),(.a 1),(.a 2),(.a 3)] [(.va 0),(.va 1),(.va 2),(.va 3)])))))
 (nD (treeB (jP 0))
 (jU 0 [(jP 0)] [] [(.va 1),(.va 0),(.va 2),(.va 3)])))
def a3d:PT :=
 (nD (.is 0 3)
 (.ite (.lt (.a 0) (.slen 3))
 (nD (treeI (.a 0) (.slen 3))
 (lO false (.ea 3 (.a 0) 3 0) [jD,jD,jD]
 (.ite (.lt (.a 1) (.l 0))
  (.ret false (jE 6) [])
  (nD (.is 0 0)
  (.ite (.le (.slen 0) (.a 1))
  (.ret false (jE 6) [])
  (.ite (.lt (.a 2) (.l 1))
   (.ret false (jE 4) [])
   (.ite (.lt (.l 4) (.a 2))
   (.ret false (jE 4) [])
   (.ite (.lt (.a 3) (.l 1))
    (.ret false (jE 4) [])
    (nD (treeI (.a 1) (.slen 0))
    (lO true (.ea 0 (.a 1) 5 1) [jD]
    (.ite (.lt (.a 4) (.a 3))
    (.ret false (jE 4) [])
    (jU 3 [(.a 0),(.l 0),(.a 1),(.slen 0),(.a 2),(.a 3),(.a 4)] [(.le (.slen 0) (.a 1)),(.lt (.l 4) (.a 2)),(.lt (.a 3) (.l 1)),(.lt (.a 4) (.a 3))] [(.va 0),(.va 1),(.va 2),(.va 3)]))))))))))))
 (.ret false (jE 0) [])))
def a3a:PT :=
 (.ite (.lt (.a 1) (.a 0))
 (nD (treeI (.a 1) (.slen 3))
 (lO true (.ea 3 (.a 1) 3 0) [jD]
 (.ite (.eq (.a 7) (.a 2))
  (.ret false (jE 7) [])
  (nD (treeB (jP 1))
  (jU 3 [(.a 0),(jP 1),(.a 2),(.a 3),(.a 4),(.a 5),(.a 6)] [(.a 0),(.a 1),(.a 2),(.a 3)] [(.va 0),(.va 1),(.va 2),(.va 3)])))))
 (nD (treeB (jP 0))
 (jU 2 [(jP 0)] [] [(.va 0),(.va 1),(.va 2),(.va 3)])))
def d8P:Sx.Sys:=⟨[(.sh (.agg [.val,.val,.val,.val]))],a6k,[a3i,a3b,a3d,a3a],none,none⟩
def b3g:List Cfg:=[{todo:=[(.code (tfR 9 500)),(.inLoop (tfR 9 500)),(.inBlock 0),(.code (tfR 6 63))],sl:=[(.junk 0),(.ptr 0 0),(.junk 1),(.junk 2),(jA 0),(.junk 3),(.junk 4),.undef,.undef,.undef]++jkR 5 10++[.undef]++jkR 15 70++udR 66,H:=[(.cells [(.va 0),(.va 1),(.va 2),(.va 3)] 27 false)],ni:=1,nb:=0,nv:=4,nj:=85},
 {todo:=[(.code (tfR 18 256316)),(.inLoop (tfR 18 256316)),(.inBlock 2),(.inBlock 1),(.code (tfR 11 2003)),(.inLoop (tfR 9 500)),(.inBlock 0),(.code (tfR 6 63))],sl:=[(.junk 0),(.ptr 0 0),(.junk 1),(.junk 2),(jA 0),(.ptr 1 0),(jA 1),.undef,.undef,.undef]++jkR 3 10++[.undef]++jkR 13 20++[(.ptr 1 0),(jA 2),(.ptr 0 1),(.va 0),(jA 3),(.bool (.a 0))]++jkR 33 5++[(.ptr 1 1),(jA 4),(.bool (.a 1)),(.junk 38),(.junk 39),(.ptr 1 2),(jA 5),(.bool (.a 2)),(.junk 40),(.junk 41),(.ptr 1 2),(jA 5),(.bool (.a 3))]++jkR 42 26++udR 66,H:=[(.cells [(.va 1),(.va 0),(.va 2),(.va 3)] 27 false),(.cells [(jA 2),(jA 4),(jA 5)] 89 false)],ni:=6,nb:=4,nv:=4,nj:=68},
 {todo:=[(.code (tfR 11 2036)),(.inLoop (tfR 11 2036)),(.inBlock 4),(.code (tfR 8 255))],sl:=[(.junk 0),(.ptr 0 0)]++jkR 1 5++[(jA 0)]++jkR 6 12++[.undef]++jkR 18 136,H:=[(.cells [(.va 0),(.va 1),(.va 2),(.va 3)] 27 false)],ni:=1,nb:=0,nv:=4,nj:=154},
 {todo:=[(.code (tfR 20 1042748)),(.inLoop (tfR 20 1042748)),(.inBlock 6),(.inBlock 5),(.code (tfR 13 8147)),(.inLoop (tfR 11 2036)),(.inBlock 4),(.code (tfR 8 255))],sl:=[(.junk 0),(.ptr 0 0)]++jkR 1 5++[(jA 0),(.ptr 1 0),(jA 1)]++jkR 6 10++[.undef]++jkR 16 90++[(.ptr 1 0),(jA 2),(.ptr 0 0),(.va 0),(jA 3),(.bool (.a 0))]++jkR 106 5++[(.ptr 1 1),(jA 4),(.bool (.a 1)),(.junk 111),(.junk 112),(.ptr 1 2),(jA 5),(.bool (.a 2)),(.junk 113),(.junk 114),(.ptr 1 2),(jA 5),(.ptr 0 0),(.va 0),(.ptr 1 0),(jA 2),(.ea 0 (.a 2) 5 0),(.ea 0 (.a 2) 5 1),(jA 6),(.bool (.a 3))]++jkR 115 15,H:=[(.cells [(.va 0),(.va 1),(.va 2),(.va 3)] 27 false),(.cells [(jA 2),(jA 4),(jA 5)] 91 false)],ni:=7,nb:=4,nv:=4,nj:=130}]
theorem b5a:SysOk Tryz.prog 18 d8P:=a0K (c:=(cg [(tfR 9 500),(tfR 18 256316),(tfR 11 2036),(tfR 20 1042748)] [] [] false false false true)) (a0H _ _ _ _ _ _ _ _ _) Tryz.func18 Tryz.call18 (by kernel_rfl) b3g d8P 5000 rfl (by kernel_rfl) (by kernel_rfl) rfl
def a4A:PT :=
 (nD (.is 4 0)
 (.ite (.nil 0)
 (.ret false .nilS [])
 (cA 53 [(.va 0),(jA 0)] [] [(.one .bool)]
 (.ite (.not (.a 0))
  (.ret false .nilS [])
  (nD (.is 1 0)
  (lO false (.pa 0 8) [.val]
  (nD (.is 0 1)
  (jU 0 [(.a 0),(.slen 1),(.l 0)] [] [.nilS,(.va 1)]))))))))
def a3h:PT :=
 (.ite (.lt (.a 2) (.a 1))
 (nD (treeI (.a 2) (.slen 1))
 (lO false (.ea 1 (.a 2) 9 0) [jD,jD,jD,jD,jD,jD,.val,.val,.val]
 (nD (treeI (.a 0) (.slen 2))
 (lO false (.ea 2 (.a 0) 6 0) [jD,jD,jD,jD,jD,jD]
 (.app none (.lit [[(jA 3),(jA 4),(jA 5),(jA 6),(jA 7),(jA 8),(jA 9),(jA 10),(jA 11),(jA 12),(jA 13),(jA 14)]]) 12
 (.app (some 0) (.va 5) 12
 (nD (treeB (jP 2))
 (jU 0 [(.a 0),(.a 1),(jP 2)] [] [(.va 6),(.va 1)]))))))))
 (.ret false (.va 0) []))
def d9b:Sx.Sys:=⟨[(.sh (.one .val)),(.sh (.one jD))],a4A,[a3h],none,none⟩
def b2D:List Cfg:=[{todo:=[(.code (tfR 7 116)),(.inLoop (tfR 7 116)),(.inBlock 0),(.code [true,true,true,true])],sl:=[(.junk 0),(jA 0),.undef,.undef,(.junk 1),(.va 0),.undef]++jkR 2 12++[(.va 1),(jA 1),(jA 2)]++jkR 14 15++[.undef],H:=[(.row 0 75 12)],ni:=3,nb:=0,nv:=2,nj:=29}]
theorem b4X:SysOk Tryz.prog 26 d9b:=a0K (c:=(cg [(tfR 7 116)] [] [] true false false true)) (a0H _ _ _ _ _ _ _ _ _) Tryz.func26 Tryz.call26 (by kernel_rfl) b2D d9b 5000 rfl (by kernel_rfl) (by kernel_rfl) rfl
def a6B:PT :=
 (cA 43 [(.va 0)] [] [(.one jD)]
 (.ite (.not (.eq (.a 7) (.l 0)))
 (.ret false (.tup [(jE 0),(jE 0),(jE 0)]) [])
 (cA 47 [(.agg [(jA 1),(jA 2),(jA 3),(jA 4),(jA 5),(jA 6)])] [] [(.one .bool)]
 (.ite (.not (.a 0))
  (.ret false (.tup [(jE 0),(jE 0),(jE 0)]) [])
  (jU 0 [(.a 0),(.l 0),(.l 0),(.l 0),(.l 0),(.a 1),(.a 2),(.a 3),(.a 4),(.a 5),(.a 6)] [] [(.va 0)])))))
def a3j:PT :=
 (nD (.is 0 0)
 (.ite (.lt (.a 4) (.slen 0))
 (jU 1 [(.a 0),(.a 1),(.a 2),(.a 3),(.a 4),(.l 0),(.a 5),(.a 6),(.a 7),(.a 8),(.a 9),(.a 10)] [] [(.va 0)])
 (.ret false (.tup [(jA 1),(jA 2),(jA 3)]) [])))
def a0L:PT :=
 (.ite (.eq (.a 4) (.l 5))
 (.ite (.lt (.a 5) (.a 11))
  (nD (.lt (.l 5) (.slen 0))
  (lO false (.ea 0 (.l 5) 5 3) [jD]
  (nD (treeB (.add (.a 1) (.a 12)))
  (nD (.lt (.l 5) (.slen 0))
  (lO false (.ea 0 (.l 5) 5 2) [jD]
  (nD (treeB (.add (.a 2) (.a 13)))
  (nD (.lt (.l 5) (.slen 0))
  (lO false (.ea 0 (.l 5) 5 4) [jD]
  (.ite (.eq (.a 14) (.a 0))
  (nD (treeB (jP 3))
  (nD (treeB (jP 5))
  (jU 1 [(.a 0),(.add (.a 1) (.a 12)),(.add (.a 2) (.a 13)),(jP 3),(.l 5),(jP 5),(.a 6),(.a 7),(.a 8),(.a 9),(.a 10),(.a 11)] [] [(.va 0)])))
  (nD (treeB (jP 5))
  (jU 1 [(.a 0),(.add (.a 1) (.a 12)),(.add (.a 2) (.a 13)),(.a 3),(.l 5),(jP 5),(.a 6),(.a 7),(.a 8),(.a 9),(.a 10),(.a 11)] [] [(.va 0)])))))))))))
  (jU 0 [(.a 0),(.a 1),(.a 2),(.a 3),(.l 6),(.a 6),(.a 7),(.a 8),(.a 9),(.a 10),(.a 11)] [] [(.va 0)]))
 (.ite (.eq (.a 4) (.l 4))
  (.ite (.lt (.a 5) (.a 10))
  (nD (.lt (.l 4) (.slen 0))
  (lO false (.ea 0 (.l 4) 5 3) [jD]
  (nD (treeB (.add (.a 1) (.a 12)))
  (nD (.lt (.l 4) (.slen 0))
  (lO false (.ea 0 (.l 4) 5 2) [jD]
  (nD (treeB (.add (.a 2) (.a 13)))
  (nD (.lt (.l 4) (.slen 0))
  (lO false (.ea 0 (.l 4) 5 4) [jD]
  (.ite (.eq (.a 14) (.a 0))
   (nD (treeB (jP 3))
   (nD (treeB (jP 5))
   (jU 1 [(.a 0),(.add (.a 1) (.a 12)),(.add (.a 2) (.a 13)),(jP 3),(.l 4),(jP 5),(.a 6),(.a 7),(.a 8),(.a 9),(.a 10),(.a 11)] [] [(.va 0)])))
   (nD (treeB (jP 5))
   (jU 1 [(.a 0),(.add (.a 1) (.a 12)),(.add (.a 2) (.a 13)),(.a 3),(.l 4),(jP 5),(.a 6),(.a 7),(.a 8),(.a 9),(.a 10),(.a 11)] [] [(.va 0)])))))))))))
  (jU 0 [(.a 0),(.a 1),(.a 2),(.a 3),(.l 5),(.a 6),(.a 7),(.a 8),(.a 9),(.a 10),(.a 11)] [] [(.va 0)]))
  (.ite (.eq (.a 4) (.l 3))
  (.ite (.lt (.a 5) (.a 9))
   (nD (.lt (.l 3) (.slen 0))
   (lO false (.ea 0 (.l 3) 5 3) [jD]
   (nD (treeB (.add (.a 1) (.a 12)))
   (nD (.lt (.l 3) (.slen 0))
   (lO false (.ea 0 (.l 3) 5 2) [jD]
   (nD (treeB (.add (.a 2) (.a 13)))
   (nD (.lt (.l 3) (.slen 0))
   (lO false (.ea 0 (.l 3) 5 4) [jD]
   (.ite (.eq (.a 14) (.a 0))
   (nD (treeB (jP 3))
   (nD (treeB (jP 5))
   (jU 1 [(.a 0),(.add (.a 1) (.a 12)),(.add (.a 2) (.a 13)),(jP 3),(.l 3),(jP 5),(.a 6),(.a 7),(.a 8),(.a 9),(.a 10),(.a 11)] [] [(.va 0)])))
   (nD (treeB (jP 5))
   (jU 1 [(.a 0),(.add (.a 1) (.a 12)),(.add (.a 2) (.a 13)),(.a 3),(.l 3),(jP 5),(.a 6),(.a 7),(.a 8),(.a 9),(.a 10),(.a 11)] [] [(.va 0)])))))))))))
   (jU 0 [(.a 0),(.a 1),(.a 2),(.a 3),(.l 4),(.a 6),(.a 7),(.a 8),(.a 9),(.a 10),(.a 11)] [] [(.va 0)]))
  (.ite (.eq (.a 4) (.l 2))
   (.ite (.lt (.a 5) (.a 8))
   (nD (.lt (.l 2) (.slen 0))
   (lO false (.ea 0 (.l 2) 5 3) [jD]
   (nD (treeB (.add (.a 1) (.a 12)))
   (nD (.lt (.l 2) (.slen 0))
   (lO false (.ea 0 (.l 2) 5 2) [jD]
   (nD (treeB (.add (.a 2) (.a 13)))
   (nD (.lt (.l 2) (.slen 0))
   (lO false (.ea 0 (.l 2) 5 4) [jD]
   (.ite (.eq (.a 14) (.a 0))
    (nD (treeB (jP 3))
    (nD (treeB (jP 5))
    (jU 1 [(.a 0),(.add (.a 1) (.a 12)),(.add (.a 2) (.a 13)),(jP 3),(.l 2),(jP 5),(.a 6),(.a 7),(.a 8),(.a 9),(.a 10),(.a 11)] [] [(.va 0)])))
    (nD (treeB (jP 5))
    (jU 1 [(.a 0),(.add (.a 1) (.a 12)),(.add (.a 2) (.a 13)),(.a 3),(.l 2),(jP 5),(.a 6),(.a 7),(.a 8),(.a 9),(.a 10),(.a 11)] [] [(.va 0)])))))))))))
   (jU 0 [(.a 0),(.a 1),(.a 2),(.a 3),(.l 3),(.a 6),(.a 7),(.a 8),(.a 9),(.a 10),(.a 11)] [] [(.va 0)]))
   (.ite (.eq (.a 4) (.l 1))
   (.ite (.lt (.a 5) (.a 7))
    (nD (.lt (.l 1) (.slen 0))
    (lO false (.ea 0 (.l 1) 5 3) [jD]
    (nD (treeB (.add (.a 1) (.a 12)))
    (nD (.lt (.l 1) (.slen 0))
    (lO false (.ea 0 (.l 1) 5 2) [jD]
    (nD (treeB (.add (.a 2) (.a 13)))
    (nD (.lt (.l 1) (.slen 0))
    (lO false (.ea 0 (.l 1) 5 4) [jD]
    (.ite (.eq (.a 14) (.a 0))
    (nD (treeB (jP 3))
    (nD (treeB (jP 5))
    (jU 1 [(.a 0),(.add (.a 1) (.a 12)),(.add (.a 2) (.a 13)),(jP 3),(.l 1),(jP 5),(.a 6),(.a 7),(.a 8),(.a 9),(.a 10),(.a 11)] [] [(.va 0)])))
    (nD (treeB (jP 5))
    (jU 1 [(.a 0),(.add (.a 1) (.a 12)),(.add (.a 2) (.a 13)),(.a 3),(.l 1),(jP 5),(.a 6),(.a 7),(.a 8),(.a 9),(.a 10),(.a 11)] [] [(.va 0)])))))))))))
    (jU 0 [(.a 0),(.a 1),(.a 2),(.a 3),(.l 2),(.a 6),(.a 7),(.a 8),(.a 9),(.a 10),(.a 11)] [] [(.va 0)]))
   (.ite (.eq (.a 4) (.l 0))
    (.ite (.lt (.a 5) (.a 6))
    (nD (.lt (.l 0) (.slen 0))
    (lO false (.ea 0 (.l 0) 5 3) [jD]
    (nD (treeB (.add (.a 1) (.a 12)))
    (nD (.lt (.l 0) (.slen 0))
    (lO false (.ea 0 (.l 0) 5 2) [jD]
    (nD (treeB (.add (.a 2) (.a 13)))
    (nD (.lt (.l 0) (.slen 0))
    (lO false (.ea 0 (.l 0) 5 4) [jD]
    (.ite (.eq (.a 14) (.a 0))
     (nD (treeB (jP 3))
     (nD (treeB (jP 5))
     (jU 1 [(.a 0),(.add (.a 1) (.a 12)),(.add (.a 2) (.a 13)),(jP 3),(.l 0),(jP 5),(.a 6),(.a 7),(.a 8),(.a 9),(.a 10),(.a 11)] [] [(.va 0)])))
     (nD (treeB (jP 5))
     (jU 1 [(.a 0),(.add (.a 1) (.a 12)),(.add (.a 2) (.a 13)),(.a 3),(.l 0),(jP 5),(.a 6),(.a 7),(.a 8),(.a 9),(.a 10),(.a 11)] [] [(.va 0)])))))))))))
    (jU 0 [(.a 0),(.a 1),(.a 2),(.a 3),(.l 1),(.a 6),(.a 7),(.a 8),(.a 9),(.a 10),(.a 11)] [] [(.va 0)]))
    .stuck))))))
def d8G:Sx.Sys:=⟨[(.sh (.one .val)),(.sh (.one jD)),(.sh (.agg [jD,jD,jD,jD,jD,jD]))],a6B,[a3j,a0L],none,none⟩
def b4d:List Cfg:=[{todo:=[(.code (tfR 7 116)),(.inLoop (tfR 7 116)),(.inBlock 0),(.code [true,true,true,true])],sl:=[(.va 0),(jA 0),(.junk 0),.undef,.undef,(.ptr 0 0),(.junk 1),(.junk 2),(.junk 3),(jA 1),(jA 2),(jA 3),(jA 4)]++jkR 4 45++[.undef,.undef,.undef],H:=[(.cells [(jA 5),(jA 6),(jA 7),(jA 8),(jA 9),(jA 10)] 51 false)],ni:=11,nb:=0,nv:=1,nj:=49},
 {todo:=[(.code (tfR 13 7460)),(.inLoop (tfR 13 7460)),(.inBlock 2),(.inBlock 1),(.code (tfR 9 467)),(.inLoop (tfR 7 116)),(.inBlock 0),(.code [true,true,true,true])],sl:=[(.va 0),(jA 0),(.junk 0),.undef,.undef,(.ptr 0 0),(.junk 1),(.junk 2),(.junk 3),(jA 1),(jA 2),(jA 3),(jA 4),(jA 5)]++jkR 4 44++[.undef,.undef,.undef],H:=[(.cells [(jA 6),(jA 7),(jA 8),(jA 9),(jA 10),(jA 11)] 51 false)],ni:=12,nb:=0,nv:=1,nj:=48}]
theorem b6N:SysOk Tryz.prog 50 d8G:=a0K (c:=(cg [(tfR 7 116),(tfR 13 7460)] [] [] false false false true)) (a0H _ _ _ _ _ _ _ _ _) Tryz.func50 Tryz.call50 (by kernel_rfl) b4d d8G 5000 rfl (by kernel_rfl) (by kernel_rfl) rfl
def a8Q:PT :=
 (cA 88 [(jA 0),(.agg [(jA 1),(jA 2),(jA 3),(jA 4),(jA 5),(jA 6)]),(.va 0),(.va 1)] [] [(.one jD)]
 (.ite (.not (.eq (.a 7) (.l 0)))
 (.ret true (.tup [.nilS,(jA 7)]) [])
 (cA 89 [(.va 0)] [] [(.one .val)]
 (nD (.is 0 1)
 (jU 0 [(.a 0),(.slen 1),(.l 0),(.a 1),(.a 2),(.a 3),(.a 4),(.a 5),(.a 6)] [] [(.va 2),(.va 1)])))))
def a4t:PT :=
 (.ite (.lt (.a 2) (.a 1))
 (nD (treeI (.a 2) (.slen 1))
 (lO false (.ea 1 (.a 2) 6 0) [jD,jD,jD,jD,jD,jD]
 (cA 90 [(.va 0)] [] [(.agg [jD,jD,jD,jD,jD,jD])]
 (.ite (.eq (.a 0) (.l 2))
  (nD (treeI (.a 2) (.slen 0))
  (lO false (.ea 0 (.a 2) 6 0) [jD,jD,jD,jD,jD,jD]
  (cA 91 [(.agg [(jA 3),(jA 4),(jA 5),(jA 6),(jA 7),(jA 8)]),(.agg [(jA 15),(jA 16),(jA 17),(jA 18),(jA 19),(jA 20)]),(.agg [(jA 21),(jA 22),(jA 23),(jA 24),(jA 25),(jA 26)]),(.agg [(jA 9),(jA 10),(jA 11),(jA 12),(jA 13),(jA 14)])] [] [(.one .bool)]
  (.ite (.a 0)
  (nD (treeB (jP 2))
  (jU 0 [(.a 0),(.a 1),(jP 2),(.a 3),(.a 4),(.a 5),(.a 6),(.a 7),(.a 8)] [] [(.va 0),(.va 1)]))
  (nD (treeI (.a 2) (.slen 0))
  (.storeM (.ea 0 (.a 2) 6 0) [(jA 9),(jA 10),(jA 11),(jA 12),(jA 13),(jA 14)]
  (nD (treeB (jP 2))
  (jU 0 [(.a 0),(.a 1),(jP 2),(.a 3),(.a 4),(.a 5),(.a 6),(.a 7),(.a 8)] [] [(.va 0),(.va 1)]))))))))
  (.ite (.eq (.a 0) (.l 3))
  (nD (treeI (.a 2) (.slen 0))
  (lO false (.ea 0 (.a 2) 6 0) [jD,jD,jD,jD,jD,jD]
  (cA 92 [(.agg [(jA 3),(jA 4),(jA 5),(jA 6),(jA 7),(jA 8)]),(.agg [(jA 15),(jA 16),(jA 17),(jA 18),(jA 19),(jA 20)]),(.agg [(jA 21),(jA 22),(jA 23),(jA 24),(jA 25),(jA 26)]),(.agg [(jA 9),(jA 10),(jA 11),(jA 12),(jA 13),(jA 14)])] [] [(.agg [jD,jD,jD,jD,jD,jD])]
  (nD (treeI (.a 2) (.slen 0))
  (.storeM (.ea 0 (.a 2) 6 0) [(jA 27),(jA 28),(jA 29),(jA 30),(jA 31),(jA 32)]
  (nD (treeB (jP 2))
  (jU 0 [(.a 0),(.a 1),(jP 2),(.a 3),(.a 4),(.a 5),(.a 6),(.a 7),(.a 8)] [] [(.va 0),(.va 1)])))))))
  (nD (treeI (.a 2) (.slen 0))
  (.storeM (.ea 0 (.a 2) 6 0) [(jA 9),(jA 10),(jA 11),(jA 12),(jA 13),(jA 14)]
  (nD (treeB (jP 2))
  (jU 0 [(.a 0),(.a 1),(jP 2),(.a 3),(.a 4),(.a 5),(.a 6),(.a 7),(.a 8)] [] [(.va 0),(.va 1)])))))))))
 (.ret true (.tup [(.va 0),(jE 0)]) []))
def d9h:Sx.Sys:=⟨[(.sh (.one jD)),(.sh (.agg [jD,jD,jD,jD,jD,jD])),(.sh (.one .val)),(.sh (.one .val))],a8Q,[a4t],none,none⟩
def b7y:List Cfg:=[{todo:=[(.code (tfR 7 116)),(.inLoop (tfR 7 116)),(.inBlock 0),(.code [true,true,true,true])],sl:=[(jA 0),(.junk 0),(.junk 1),(.junk 2),.undef,(.ptr 0 0),.undef,.undef,(.junk 3),(.junk 4),(.junk 5),(.va 0)]++jkR 6 10++[.undef,(.junk 16),(.junk 17),(.va 1),(jA 1),(jA 2)]++jkR 18 32++[.undef],H:=[(.cells [(jA 3),(jA 4),(jA 5),(jA 6),(jA 7),(jA 8)] 51 false)],ni:=9,nb:=0,nv:=2,nj:=50}]
theorem b8Y:SysOk Tryz.prog 58 d9h:=a0K (c:=(cg [(tfR 7 116)] [] [] true true false true)) (a0H _ _ _ _ _ _ _ _ _) Tryz.func58 Tryz.call58 (by kernel_rfl) b7y d9h 5000 rfl (by kernel_rfl) (by kernel_rfl) rfl
def a7w:PT :=
 (nD (.is 0 3)
 (.ite (.lt (.l 6) (.slen 3))
 (.ret false (jE 3) [])
 (nD (.is 0 3)
 (jU 0 [(.slen 3),(.l 0)] [] [(.va 3),(.va 0),(.va 1),(.va 2)]))))
def a3K:PT :=
 (.ite (.lt (.a 1) (.a 0))
 (nD (treeI (.a 1) (.slen 0))
 (lO false (.ea 0 (.a 1) 3 0) [jD,jD,jD]
 (.ite (.lt (.a 2) (.l 0))
  (.ret false (jE 6) [])
  (nD (.is 0 1)
  (.ite (.le (.slen 1) (.a 2))
  (.ret false (jE 6) [])
  (.ite (.lt (.a 3) (.l 1))
   (.ret false (jE 4) [])
   (.ite (.lt (.l 4) (.a 3))
   (.ret false (jE 4) [])
   (.ite (.lt (.a 4) (.l 1))
    (.ret false (jE 4) [])
    (nD (treeI (.a 2) (.slen 1))
    (lO true (.ea 1 (.a 2) 5 1) [jD]
    (.ite (.lt (.a 5) (.a 4))
    (.ret false (jE 4) [])
    (.cut 0 none (some (.a 1)) 3
    (nD (.is 0 4)
    (jU 1 [(.a 0),(.a 1),(.a 2),(.slen 1),(.a 3),(.a 4),(.a 5),(.slen 4),(.l 0)] [(.le (.slen 1) (.a 2)),(.lt (.l 4) (.a 3)),(.lt (.a 4) (.l 1)),(.lt (.a 5) (.a 4))] [(.va 0),(.va 1),(.va 4),(.va 2),(.va 3)]))))))))))))))
 (.ret false (jE 0) []))
def a3y:PT :=
 (.ite (.lt (.a 8) (.a 7))
 (nD (treeI (.a 8) (.slen 2))
 (lO false (.ea 2 (.a 8) 3 0) [jD,jD,jD]
 (.ite (.eq (.a 9) (.a 2))
  (.ret false (jE 7) [])
  (nD (treeB (jP 8))
  (jU 1 [(.a 0),(.a 1),(.a 2),(.a 3),(.a 4),(.a 5),(.a 6),(.a 7),(jP 8)] [(.a 0),(.a 1),(.a 2),(.a 3)] [(.va 0),(.va 1),(.va 2),(.va 3),(.va 4)])))))
 (nD (treeB (jP 1))
 (jU 0 [(.a 0),(jP 1)] [] [(.va 0),(.va 1),(.va 3),(.va 4)])))
def d8V:Sx.Sys:=⟨[(.sh (.agg [.val,.val,.val,.val]))],a7w,[a3K,a3y],none,none⟩
def b5s:List Cfg:=[{todo:=[(.code (tfR 6 52)),(.inLoop (tfR 6 52)),(.inBlock 0),(.code [true,true,true])],sl:=[(.junk 0),(.ptr 0 0),(.junk 1),(.junk 2),(.junk 3),.undef]++jkR 4 6++[(.va 0),(jA 0),(jA 1)]++jkR 10 56,H:=[(.cells [(.va 1),(.va 2),(.va 3),(.va 0)] 27 false)],ni:=2,nb:=0,nv:=4,nj:=66},
 {todo:=[(.code (tfR 16 54076)),(.inLoop (tfR 16 54076)),(.inBlock 2),(.inBlock 1),(.code (tfR 9 423)),(.inLoop (tfR 6 52)),(.inBlock 0),(.code [true,true,true])],sl:=[(.junk 0),(.ptr 0 0),(.junk 1),(.junk 2),(.ptr 1 0),.undef]++jkR 3 6++[(.va 0),(jA 0),(jA 1)]++jkR 9 8++[(.ptr 1 0),(jA 2),(.ptr 0 0),(.va 1),(jA 3),(.bool (.a 0))]++jkR 17 5++[(.ptr 1 1),(jA 4),(.bool (.a 1)),(.junk 22),(.junk 23),(.ptr 1 2),(jA 5),(.bool (.a 2)),(.junk 24),(.junk 25),(.ptr 1 2),(jA 5),(.ptr 0 0),(.va 1),(.ptr 1 0),(jA 2),(.ea 1 (.a 2) 5 0),(.ea 1 (.a 2) 5 1),(jA 6),(.bool (.a 3))]++jkR 26 4++[(.va 2),(jA 7),(jA 8)]++jkR 30 10,H:=[(.cells [(.va 1),(.va 3),(.va 4),(.va 0)] 27 false),(.cells [(jA 2),(jA 4),(jA 5)] 91 false)],ni:=9,nb:=4,nv:=5,nj:=40}]
theorem b7K:SysOk Tryz.prog 66 d8V:=a0K (c:=(cg [(tfR 6 52),(tfR 16 54076)] [] [] false false false true)) (a0H _ _ _ _ _ _ _ _ _) Tryz.func66 Tryz.call66 (by kernel_rfl) b5s d8V 5000 rfl (by kernel_rfl) (by kernel_rfl) rfl
def a5o:PT :=
 (cA 119 [(.agg [(.va 0),(.va 1),(.va 2),(.va 3),(jA 0),(.va 4)]),(.agg [(jA 1),(jA 2),(jA 3),(jA 4),(jA 5),(jA 6),(jA 7),(jA 8),(jA 9),(jA 10),(jA 11),(jA 12)])] [] [(.one jD)]
 (cA 120 [(.agg [(.va 0),(.va 1),(.va 2),(.va 3)]),(jA 0),(.va 4)] [] [(.one jD)]
 (.ret false (.bool (.le (.a 13) (.a 14))) [])))
def d9A:Sx.Sys:=⟨[(.sh (.agg [.val,.val,.val,.val,jD,.val])),(.sh (.agg [jD,jD,jD,jD,jD,jD,jD,jD,jD,jD,jD,jD]))],a5o,[],none,none⟩
def b1C:List Cfg:=[]
theorem b3w:SysOk Tryz.prog 82 d9A:=a0K (c:=(cg [] [] [] false false false true)) (a0H _ _ _ _ _ _ _ _ _) Tryz.func82 Tryz.call82 (by kernel_rfl) b1C d9A 5000 rfl (by kernel_rfl) (by kernel_rfl) rfl
def b5j:PT :=
 (cA 94 [(.va 0)] [] [(.agg [jD,jD,jD,jD,jD,jD])]
 (.ret false (.agg [(jA 0),(jA 1),(jA 2),(jA 3),(jA 4),(jA 5)]) []))
def e0K:Sx.Sys:=⟨[(.sh (.one .val))],b5j,[],none,none⟩
def c4a:List Cfg:=[]
theorem c5L:SysOk Tryz.prog 90 e0K:=a0K (c:=(cg [] [] [] true false false true)) (a0H _ _ _ _ _ _ _ _ _) Tryz.func90 Tryz.call90 (by kernel_rfl) c4a e0K 5000 rfl (by kernel_rfl) (by kernel_rfl) rfl
def b0O:PT :=
 (nD (.is 0 0)
 (jU 0 [(.slen 0),(.l 0)] [] [(.va 1),(.va 0)]))
def a3D:PT :=
 (.ite (.lt (.a 1) (.a 0))
 (nD (treeI (.a 1) (.slen 1))
 (lO false (.ea 1 (.a 1) 5 0) [.val,jD,jD,jD,jD]
 (nD (.is 3 2)
 (nD (.is 3 0)
 (.ite (.seq 2 0)
  (.ret false (.tup [(jA 1),(.bool (.t true))]) [])
  (nD (treeB (jP 1))
  (jU 0 [(.a 0),(jP 1)] [] [(.va 0),(.va 1)])))))))
 (.ret false (.tup [(jE 0),(.bool (.t false))]) []))
def d9r:Sx.Sys:=⟨[(.sh (.one .val)),(.sh (.one .val))],b0O,[a3D],none,none⟩
def c0M:List Cfg:=[{todo:=[(.code (tfR 5 20)),(.inLoop (tfR 5 20)),(.inBlock 0),(.code [true,true])],sl:=[(.junk 0),(.va 0),.undef,.undef]++jkR 1 4++[(.va 1),(jA 0),(jA 1)]++jkR 5 8++[.undef,(.junk 13)],H:=[],ni:=2,nb:=0,nv:=2,nj:=14}]
theorem c2K:SysOk Tryz.prog 98 d9r:=a0K (c:=(cg [(tfR 5 20)] [] [] false false false true)) (a0H _ _ _ _ _ _ _ _ _) Tryz.func98 Tryz.call98 (by kernel_rfl) c0M d9r 5000 rfl (by kernel_rfl) (by kernel_rfl) rfl
def a7q:PT :=
 (nD (.is 3 0)
 (nD (.lt (.l 0) (.stl 0))
 (cA 113 [(.int .u8 (.sat 0 (.l 0)))] [] [(.one .bool)]
 (.ite (.a 0)
 (jU 0 [(.l 1)] [] [(.va 0)])
 (nD (.is 3 0)
 (nD (.lt (.l 0) (.stl 0))
 (cA 128 [(.int .u8 (.sat 0 (.l 0)))] [] [(.one .bool)]
 (.ite (.a 1)
  (jU 1 [(.l 1)] [] [(.va 0)])
  (nD (.is 3 0)
  (nD (.lt (.l 0) (.stl 0))
  (cA 129 [(.int .u8 (.sat 0 (.l 0)))] [] [(.one .bool)]
  (.ite (.a 2)
  (.scut 0 none (some (.l 1))
  (.ret false (.tup [(.agg [(jE 3),(.va 1),(jE 0),(jE 0)]),(jE 0)]) []))
  (.ret false (.tup [(.agg [(jE 0),(.str []),(jE 0),(jE 0)]),(jE 2)]) [])))))))))))))
def a1V:PT :=
 (nD (.is 3 0)
 (.ite (.lt (.a 0) (.stl 0))
 (nD (.is 3 0)
 (nD (treeI (.a 0) (.stl 0))
 (cA 113 [(.int .u8 (.sat 0 (.a 0)))] [] [(.one .bool)]
 (.ite (.a 0)
  (nD (treeB (jP 0))
  (jU 0 [(jP 0)] [] [(.va 0)]))
  (nD (.is 3 0)
  (nD (treeI (.a 0) (.stl 0))
  (cA 128 [(.int .u8 (.sat 0 (.a 0)))] [] [(.one .bool)]
  (.ite (.a 1)
  (nD (treeB (jP 0))
  (jU 0 [(jP 0)] [] [(.va 0)]))
  (nD (.is 3 0)
  (nD (treeI (.a 0) (.stl 0))
  (.ite (.eq (.sat 0 (.a 0)) (.l 95))
   (nD (treeB (jP 0))
   (jU 0 [(jP 0)] [] [(.va 0)]))
   (.ite (.lt (.l 12) (.a 0))
   (.ret false (.tup [(.agg [(jE 0),(.str []),(jE 0),(jE 0)]),(jE 3)]) [])
   (.scut 0 none (some (.a 0))
   (.ret false (.tup [(.agg [(jE 1),(.va 1),(jE 0),(jE 0)]),(jE 0)]) []))))))))))))))
 (.ite (.lt (.l 12) (.a 0))
  (.ret false (.tup [(.agg [(jE 0),(.str []),(jE 0),(jE 0)]),(jE 3)]) [])
  (.scut 0 none (some (.a 0))
  (.ret false (.tup [(.agg [(jE 1),(.va 1),(jE 0),(jE 0)]),(jE 0)]) [])))))
def b7I:PT :=
 (nD (.is 3 0)
 (.ite (.lt (.a 0) (.stl 0))
 (nD (.is 3 0)
 (nD (treeI (.a 0) (.stl 0))
 (cA 128 [(.int .u8 (.sat 0 (.a 0)))] [] [(.one .bool)]
 (.ite (.a 0)
  (nD (treeB (jP 0))
  (jU 1 [(jP 0)] [] [(.va 0)]))
  (.ite (.lt (.l 1) (.a 0))
  (nD (.is 3 0)
  (nD (.lt (.l 0) (.stl 0))
  (.ite (.eq (.sat 0 (.l 0)) (.l 48))
   (.ret false (.tup [(.agg [(jE 0),(.str []),(jE 0),(jE 0)]),(jE 2)]) [])
   (.ite (.lt (.l 9) (.a 0))
   (.ret false (.tup [(.agg [(jE 0),(.str []),(jE 0),(jE 0)]),(jE 4)]) [])
   (jU 2 [(.a 0),(.l 0),(.l 0)] [] [(.va 0)])))))
  (.ite (.lt (.l 9) (.a 0))
   (.ret false (.tup [(.agg [(jE 0),(.str []),(jE 0),(jE 0)]),(jE 4)]) [])
   (jU 2 [(.a 0),(.l 0),(.l 0)] [] [(.va 0)])))))))
 (.ite (.lt (.l 1) (.a 0))
  (nD (.is 3 0)
  (nD (.lt (.l 0) (.stl 0))
  (.ite (.eq (.sat 0 (.l 0)) (.l 48))
  (.ret false (.tup [(.agg [(jE 0),(.str []),(jE 0),(jE 0)]),(jE 2)]) [])
  (.ite (.lt (.l 9) (.a 0))
   (.ret false (.tup [(.agg [(jE 0),(.str []),(jE 0),(jE 0)]),(jE 4)]) [])
   (jU 2 [(.a 0),(.l 0),(.l 0)] [] [(.va 0)])))))
  (.ite (.lt (.l 9) (.a 0))
  (.ret false (.tup [(.agg [(jE 0),(.str []),(jE 0),(jE 0)]),(jE 4)]) [])
  (jU 2 [(.a 0),(.l 0),(.l 0)] [] [(.va 0)])))))
def b7u:PT :=
 (.ite (.lt (.a 2) (.a 0))
 (nD (treeB (.mul (.a 1) (.l 10)))
 (nD (.is 3 0)
 (nD (treeI (.a 2) (.stl 0))
 (nD (.and (.le (.l 0) (.sub (.sat 0 (.a 2)) (.l 48))) (.le (.sub (.sat 0 (.a 2)) (.l 48)) (.l 255)))
 (nD (treeB (.sub (.sat 0 (.a 2)) (.l 48)))
 (nD (treeB (.add (.mul (.a 1) (.l 10)) (.sub (.sat 0 (.a 2)) (.l 48))))
 (nD (treeB (jP 2))
 (jU 2 [(.a 0),(.add (.mul (.a 1) (.l 10)) (.sub (.sat 0 (.a 2)) (.l 48))),(jP 2)] [] [(.va 0)]))))))))
 (.scut 0 none (some (.a 0))
 (.ret false (.tup [(.agg [(jE 2),(.va 1),(jA 1),(jE 0)]),(jE 0)]) [])))
def d9l:Sx.Sys:=⟨[(.sh (.one .val))],a7q,[a1V,b7I,b7u],none,none⟩
def b5o:List Cfg:=[{todo:=[(.code (tfR 9 400)),(.inLoop (tfR 9 400)),(.inBlock 1),(.code (tfR 7 101)),(.inBlock 0),(.code [true,true,true])],sl:=[(.va 0),.undef,(.ptr 0 0),(.junk 0),(jA 0),.undef,.undef]++jkR 1 28++udR 60,H:=[(.cells [(jE 0),(.str []),(jE 0),(jE 0)] 153 false)],ni:=1,nb:=0,nv:=1,nj:=29},
 {todo:=[(.code (tfR 11 1648)),(.inLoop (tfR 11 1648)),(.inBlock 3),(.code (tfR 9 413)),(.inBlock 0),(.code [true,true,true])],sl:=[(.va 0),.undef,(.ptr 0 0),(.junk 0),(jA 0),.undef,.undef]++jkR 1 4++udR 31++jkR 5 16++udR 37,H:=[(.cells [(jE 0),(.str []),(jE 0),(jE 0)] 153 false)],ni:=1,nb:=0,nv:=1,nj:=21},
 {todo:=[(.code (tfR 16 52980)),(.inLoop (tfR 16 52980)),(.inBlock 5),(.code (tfR 13 6623)),(.inBlock 0),(.code [true,true,true])],sl:=[(.va 0),.undef,(.ptr 0 0),(.junk 0),(jA 0),(jA 1),(jA 2)]++jkR 1 4++udR 31++jkR 5 23++[.undef,(.junk 28),(.junk 29),.undef]++jkR 30 13++udR 13,H:=[(.cells [(jE 0),(.str []),(jE 0),(jE 0)] 153 false)],ni:=3,nb:=0,nv:=1,nj:=43}]
theorem b7b:SysOk Tryz.prog 114 d9l:=a0K (c:=(cg [(tfR 9 400),(tfR 11 1648),(tfR 16 52980)] [] [] false false false true)) (a0H _ _ _ _ _ _ _ _ _) Tryz.func114 Tryz.call114 (by kernel_rfl) b5o d9l 5000 rfl (by kernel_rfl) (by kernel_rfl) rfl
def a6c:PT :=
 (lO false (.pa 0 0) [jD]
 (nD (treeB (.add (.a 0) (.a 1)))
 (lO false (.pa 0 1) [jD]
 (nD (treeB (.mul (.a 0) (.a 2)))
 (nD (treeB (.add (.mul (.a 0) (.a 2)) (.l 99)))
 (nD (treeB (.tdiv (.add (.mul (.a 0) (.a 2)) (.l 99)) (.l 100)))
 (nD (treeB (.add (.add (.a 0) (.a 1)) (.tdiv (.add (.mul (.a 0) (.a 2)) (.l 99)) (.l 100))))
 (.ret true (.int .i64 (.add (.add (.a 0) (.a 1)) (.tdiv (.add (.mul (.a 0) (.a 2)) (.l 99)) (.l 100)))) []))))))))
def d9K:Sx.Sys:=⟨[(.sh (.one jD)),.ptr],a6c,[],none,none⟩
def b3i:List Cfg:=[]
theorem b5l:SysOk Tryz.prog 122 d9K:=a0K (c:=(cg [] [] [] true true false true)) (a0H _ _ _ _ _ _ _ _ _) Tryz.func122 Tryz.call122 (by kernel_rfl) b3i d9K 5000 rfl (by kernel_rfl) (by kernel_rfl) rfl
def b1H:PT :=
 (.ret false (.agg [(.int .i64 (.mn (.a 0) (.a 6))),(.int .i64 (.mn (.a 1) (.a 7))),(.int .i64 (.mn (.a 2) (.a 8))),(.int .i64 (.mn (.a 3) (.a 9))),(.int .i64 (.mn (.a 4) (.a 10))),(.int .i64 (.mn (.a 5) (.a 11)))]) [])
def e0D:Sx.Sys:=⟨[(.sh (.agg [jD,jD,jD,jD,jD,jD])),(.sh (.agg [jD,jD,jD,jD,jD,jD]))],b1H,[],none,none⟩
def c2k:List Cfg:=[]
theorem c3O:SysOk Tryz.prog 130 e0D:=a0K (c:=(cg [] [] [] false false false true)) (a0H _ _ _ _ _ _ _ _ _) Tryz.func130 Tryz.call130 (by kernel_rfl) c2k e0D 5000 rfl (by kernel_rfl) (by kernel_rfl) rfl
def a7Y:PT :=
 (.ret false (jA 2) [])
def e0a:Sx.Sys:=⟨[(.sh (.agg [.val,jD,jD,jD,jD]))],a7Y,[],none,none⟩
def b6x:List Cfg:=[]
theorem b8t:SysOk Tryz.prog 138 e0a:=a0K (c:=(cg [] [] [] false false false true)) (a0H _ _ _ _ _ _ _ _ _) Tryz.func138 Tryz.call138 (by kernel_rfl) b6x e0a 5000 rfl (by kernel_rfl) (by kernel_rfl) rfl
def a4L(sz:Nat):List PV->List MO->Option (PV×List MO)
 | [.nilS],σ=>some (.nilS,σ)
 | [.sl n rows],σ=>if n=sz/\rows.length<=1000000 then some (.sl n rows,σ) else none
 | _,_=>none
theorem d4c{s:Hp}{B:Inf}{n:Nat}{v:Value}(h:Rep s B .nilS v):Rep s B (.sl n []) v:=by
 simp only[Rep] at h ⊢;subst h;exact⟨[],⟨by simp,none,0,rfl,Q4 _,by simp⟩,rfl,by simp⟩
theorem c0h{P:Program}{f:Nat}{aa:List PV}{σ:List MO}{n:Nat}(h:CtD P f aa σ (fun r σ'=>(r=.nilS\/r=.sl n [])/\σ'=σ)):CtD P f aa σ (fun r σ'=>r=.sl n []/\σ'=σ):=by
 refine⟨h.1,fun s m vs a b c w hs hm=>(h.2 s m vs a b c w hs hm).mono ?_⟩;rintro e w' ⟨v,s',m',e1,e2,e3,e4,e5,e6,e7,r',σ'',⟨hr,rfl⟩,hq⟩;refine⟨v,s',m',e1,e2,e3,e4,e5,e6,e7,.sl n [],_,⟨rfl,rfl⟩,hq.1,?_,hq.2.2⟩;rcases hr with rfl|rfl
 ·exact d4c hq.2.1
 ·exact hq.2.1
theorem a2r:SysIs Tryz.prog 67 d9C:=b6m (c:=(cg [] [] [] false false false true)) (a0H _ _ _ _ _ _ _ _ _) Tryz.func67 Tryz.call67 (by kernel_rfl) a6u d9C 5000 rfl (by kernel_rfl) (by kernel_rfl)
def a4a:Sx.Sys:=⟨[],.stuck,[],some (a4L 5),none⟩
theorem a6t:SysOk Tryz.prog 67 a4a where
 ct Φ hΦ n aa σ r σ' hh:=by
  change a4L 5 aa σ=some (r,σ') at hh;unfold a4L at hh;split at hh
  ·simp only[Q1,Q0] at hh
   obtain⟨rfl,rfl⟩:=hh;refine CtD.one (a2r.dm Φ hΦ 1 _ _ _ ⟨([],[],[.nilS]),rfl,?_⟩);show PT.wp _ a1e _ _;unfold a1e;refine a4Y rfl rfl (b2a rfl rfl ⟨.nilS,rfl,(.nilS,_),?_,rfl,rfl⟩);simp[a0C]
  ·rename_i σ0 n rows
   split at hh
   case isFalse=>cases hh
   rename_i hc;obtain⟨rfl,hc⟩:=hc;simp only[Q1,Q0] at hh;obtain⟨rfl,rfl⟩:=hh;cases rows with
   | nil =>
    refine CtD.one (c0h (a2r.dm Φ hΦ 1 _ _ _ ⟨([],[],[.sl 5 []]),rfl,?_⟩));show PT.wp _ a1e _ _;unfold a1e;refine a4Y rfl rfl ?_;simp only[PT.wp];rw[if_neg (by simp[BE.safe,PEnv.at,PV.nilOk])];refine⟨⟨.nilS,rfl,(.nilS,_),by simp[a0C],.inl rfl,rfl⟩,[],rfl,[],rfl,?_⟩;rw[if_pos (by simp)];refine⟨[],by simp[b5v,PV.rowsOf],[],by simp[a1h,PV.rowsOf],?_⟩;rw[if_pos (by simp)];exact⟨.sl 5 [],rfl,(.sl 5 [],_),by simp[a0C],.inr rfl,rfl⟩
   | cons x rows =>
    refine CtD.one (a2r.dm Φ hΦ 1 _ _ _ ⟨([],[],[.sl 5 (x::rows)]),rfl,?_⟩);show PT.wp _ a1e _ _;unfold a1e;refine a4Y rfl rfl (b2g rfl rfl ?_);simp only[PT.wp];refine⟨[],rfl,[],rfl,?_⟩;rw[if_pos (by simp)];refine⟨[],by simp[b5v,PV.rowsOf],x::rows,by simp[a1h,PV.rowsOf],?_⟩;rw[if_pos (by simpa using hc)];exact⟨.sl 5 (x::rows),rfl,(.sl 5 (x::rows),_),by simp[a0C],rfl,rfl⟩
  ·cases hh
theorem a2C:SysIs Tryz.prog 68 d9H:=b6m (c:=(cg [] [] [] false false false true)) (a0H _ _ _ _ _ _ _ _ _) Tryz.func68 Tryz.call68 (by kernel_rfl) a7a d9H 5000 rfl (by kernel_rfl) (by kernel_rfl)
def a4r:Sx.Sys:=⟨[],.stuck,[],some (a4L 4),none⟩
theorem a6X:SysOk Tryz.prog 68 a4r where
 ct Φ hΦ n aa σ r σ' hh:=by
  change a4L 4 aa σ=some (r,σ') at hh;unfold a4L at hh;split at hh
  ·simp only[Q1,Q0] at hh
   obtain⟨rfl,rfl⟩:=hh;refine CtD.one (a2C.dm Φ hΦ 1 _ _ _ ⟨([],[],[.nilS]),rfl,?_⟩);show PT.wp _ a1k _ _;unfold a1k;refine a4Y rfl rfl (b2a rfl rfl ⟨.nilS,rfl,(.nilS,_),?_,rfl,rfl⟩);simp[a0C]
  ·rename_i σ0 n rows
   split at hh
   case isFalse=>cases hh
   rename_i hc;obtain⟨rfl,hc⟩:=hc;simp only[Q1,Q0] at hh;obtain⟨rfl,rfl⟩:=hh;cases rows with
   | nil =>
    refine CtD.one (c0h (a2C.dm Φ hΦ 1 _ _ _ ⟨([],[],[.sl 4 []]),rfl,?_⟩));show PT.wp _ a1k _ _;unfold a1k;refine a4Y rfl rfl ?_;simp only[PT.wp];rw[if_neg (by simp[BE.safe,PEnv.at,PV.nilOk])];refine⟨⟨.nilS,rfl,(.nilS,_),by simp[a0C],.inl rfl,rfl⟩,[],rfl,[],rfl,?_⟩;rw[if_pos (by simp)];refine⟨[],by simp[b5v,PV.rowsOf],[],by simp[a1h,PV.rowsOf],?_⟩;rw[if_pos (by simp)];exact⟨.sl 4 [],rfl,(.sl 4 [],_),by simp[a0C],.inr rfl,rfl⟩
   | cons x rows =>
    refine CtD.one (a2C.dm Φ hΦ 1 _ _ _ ⟨([],[],[.sl 4 (x::rows)]),rfl,?_⟩);show PT.wp _ a1k _ _;unfold a1k;refine a4Y rfl rfl (b2g rfl rfl ?_);simp only[PT.wp];refine⟨[],rfl,[],rfl,?_⟩;rw[if_pos (by simp)];refine⟨[],by simp[b5v,PV.rowsOf],x::rows,by simp[a1h,PV.rowsOf],?_⟩;rw[if_pos (by simpa using hc)];exact⟨.sl 4 (x::rows),rfl,(.sl 4 (x::rows),_),by simp[a0C],rfl,rfl⟩
  ·cases hh
theorem a3u:SysIs Tryz.prog 69 e0c:=b6m (c:=(cg [] [] [] false false false true)) (a0H _ _ _ _ _ _ _ _ _) Tryz.func69 Tryz.call69 (by kernel_rfl) a8U e0c 5000 rfl (by kernel_rfl) (by kernel_rfl)
def a5y:Sx.Sys:=⟨[],.stuck,[],some (a4L 3),none⟩
theorem a8R:SysOk Tryz.prog 69 a5y where
 ct Φ hΦ n aa σ r σ' hh:=by
  change a4L 3 aa σ=some (r,σ') at hh;unfold a4L at hh;split at hh
  ·simp only[Q1,Q0] at hh
   obtain⟨rfl,rfl⟩:=hh;refine CtD.one (a3u.dm Φ hΦ 1 _ _ _ ⟨([],[],[.nilS]),rfl,?_⟩);show PT.wp _ a1y _ _;unfold a1y;refine a4Y rfl rfl (b2a rfl rfl ⟨.nilS,rfl,(.nilS,_),?_,rfl,rfl⟩);simp[a0C]
  ·rename_i σ0 n rows
   split at hh
   case isFalse=>cases hh
   rename_i hc;obtain⟨rfl,hc⟩:=hc;simp only[Q1,Q0] at hh;obtain⟨rfl,rfl⟩:=hh;cases rows with
   | nil =>
    refine CtD.one (c0h (a3u.dm Φ hΦ 1 _ _ _ ⟨([],[],[.sl 3 []]),rfl,?_⟩));show PT.wp _ a1y _ _;unfold a1y;refine a4Y rfl rfl ?_;simp only[PT.wp];rw[if_neg (by simp[BE.safe,PEnv.at,PV.nilOk])];refine⟨⟨.nilS,rfl,(.nilS,_),by simp[a0C],.inl rfl,rfl⟩,[],rfl,[],rfl,?_⟩;rw[if_pos (by simp)];refine⟨[],by simp[b5v,PV.rowsOf],[],by simp[a1h,PV.rowsOf],?_⟩;rw[if_pos (by simp)];exact⟨.sl 3 [],rfl,(.sl 3 [],_),by simp[a0C],.inr rfl,rfl⟩
   | cons x rows =>
    refine CtD.one (a3u.dm Φ hΦ 1 _ _ _ ⟨([],[],[.sl 3 (x::rows)]),rfl,?_⟩);show PT.wp _ a1y _ _;unfold a1y;refine a4Y rfl rfl (b2g rfl rfl ?_);simp only[PT.wp];refine⟨[],rfl,[],rfl,?_⟩;rw[if_pos (by simp)];refine⟨[],by simp[b5v,PV.rowsOf],x::rows,by simp[a1h,PV.rowsOf],?_⟩;rw[if_pos (by simpa using hc)];exact⟨.sl 3 (x::rows),rfl,(.sl 3 (x::rows),_),by simp[a0C],rfl,rfl⟩
  ·cases hh
theorem a2R:SysIs Tryz.prog 70 d9R:=b6m (c:=(cg [] [] [] false false false true)) (a0H _ _ _ _ _ _ _ _ _) Tryz.func70 Tryz.call70 (by kernel_rfl) a7C d9R 5000 rfl (by kernel_rfl) (by kernel_rfl)
def a4I:Sx.Sys:=⟨[],.stuck,[],some (a4L 3),none⟩
theorem a7D:SysOk Tryz.prog 70 a4I where
 ct Φ hΦ n aa σ r σ' hh:=by
  change a4L 3 aa σ=some (r,σ') at hh;unfold a4L at hh;split at hh
  ·simp only[Q1,Q0] at hh
   obtain⟨rfl,rfl⟩:=hh;refine CtD.one (a2R.dm Φ hΦ 1 _ _ _ ⟨([],[],[.nilS]),rfl,?_⟩);show PT.wp _ a1o _ _;unfold a1o;refine a4Y rfl rfl (b2a rfl rfl ⟨.nilS,rfl,(.nilS,_),?_,rfl,rfl⟩);simp[a0C]
  ·rename_i σ0 n rows
   split at hh
   case isFalse=>cases hh
   rename_i hc;obtain⟨rfl,hc⟩:=hc;simp only[Q1,Q0] at hh;obtain⟨rfl,rfl⟩:=hh;cases rows with
   | nil =>
    refine CtD.one (c0h (a2R.dm Φ hΦ 1 _ _ _ ⟨([],[],[.sl 3 []]),rfl,?_⟩));show PT.wp _ a1o _ _;unfold a1o;refine a4Y rfl rfl ?_;simp only[PT.wp];rw[if_neg (by simp[BE.safe,PEnv.at,PV.nilOk])];refine⟨⟨.nilS,rfl,(.nilS,_),by simp[a0C],.inl rfl,rfl⟩,[],rfl,[],rfl,?_⟩;rw[if_pos (by simp)];refine⟨[],by simp[b5v,PV.rowsOf],[],by simp[a1h,PV.rowsOf],?_⟩;rw[if_pos (by simp)];exact⟨.sl 3 [],rfl,(.sl 3 [],_),by simp[a0C],.inr rfl,rfl⟩
   | cons x rows =>
    refine CtD.one (a2R.dm Φ hΦ 1 _ _ _ ⟨([],[],[.sl 3 (x::rows)]),rfl,?_⟩);show PT.wp _ a1o _ _;unfold a1o;refine a4Y rfl rfl (b2g rfl rfl ?_);simp only[PT.wp];refine⟨[],rfl,[],rfl,?_⟩;rw[if_pos (by simp)];refine⟨[],by simp[b5v,PV.rowsOf],x::rows,by simp[a1h,PV.rowsOf],?_⟩;rw[if_pos (by simpa using hc)];exact⟨.sl 3 (x::rows),rfl,(.sl 3 (x::rows),_),by simp[a0C],rfl,rfl⟩
  ·cases hh
def d9m:Sx.Sys:=a4a
theorem a6C:SysOk Tryz.prog 67 d9m:=a6t
def d9n:Sx.Sys:=a4r
theorem a7j:SysOk Tryz.prog 68 d9n:=a6X
def d9w:Sx.Sys:=a5y
theorem a9h:SysOk Tryz.prog 69 d9w:=a8R
def d9o:Sx.Sys:=a4I
theorem a7M:SysOk Tryz.prog 70 d9o:=a7D
open Go.Shelf Go.RowKit Go.Lib Go.Sort Go.Sx Go.Proofs
def c8N:List Value:=[.int .i64 0,.int .i64 0,.int .i64 0,.int .i64 0,.int .i64 0,.int .i64 0]
theorem d5r:(Tryz.prog.info? 51).map (fun i=>(i.zero,i.size,i.bytes))=some (some (.agg c8N.toArray),6,48):=by kernel_rfl
set_option maxHeartbeats 4000000 in
set_option maxRecDepth 1000000 in
theorem c6r:c0V Tryz.prog 89 51 6:=by
 intro w b off n c news hpos hn6 hl hc h1;obtain⟨i0,hi0,hz0,hz1,hz2⟩:=info_parts d5r;have mixed:Tryz.prog.follows Departure.mixedOrders=true:=by kernel_rfl
 have hzs:(Value.agg c8N.toArray).cells.size=6:=by kernel_rfl
 have q22:∀(w:World) (a:Option Addr) (n c n' c':Nat),(binOp .eql 39 (.slice a n c) (.slice none n' c')).run Tryz.prog w=.ok (.bool a.isNone) w:=fun w a n c n' c'=>Lib.run_eql_slice_nil w _ _ a n c n' c' Tryz.underlying39
 have u22:∀w,Sem.run Tryz.prog (underlying 39) w=.ok (TypeDesc.slice 51) w:=run_underlying Tryz.underlying39;have A:Aside (∀j u,news[j]?=some u->w.cell? ⟨b,off+j,none⟩=some u):=hc;clear hc
 go_enter Tryz.func89,Tryz.ntmps89
 go_wp2_with (at_builtin;refine wpList_append_own _ rfl _ _ 39 rfl w.heap.size 51 i0 (Value.agg c8N.toArray) 6 48 Tryz.underlying39 hi0 hz0 hz1 hz2 hzs (by omega) _ _ _ rfl (World.ownsRow_made w #[] 0 (Q4 _) (Nat.zero_le _) (by simp)) ⟨b,off,none⟩ n c news rfl ?qc1 ?qc2 ?qc3 ?qc4 ?qc5 ?qc6 ?_)
 case qc1=>exact hl
 case qc2 =>
  intro j u hj;rw[Addr.add_lit];exact Lib.cell?_alloc_some _ (A.out j u hj)
 case qc3=>exact h1
 case qc4=>rw[Q2];show n<=9223372036854775807;omega
 case qc5=>rw[Q2];omega
 case qc6=>simp
 intro v' w1 hown hgrow hnil
 go_wp2
 go_ret
 refine⟨v',rfl,by simpa using hown,?_⟩;exact((Below.refl _ w).alloc (Q4 _) _).grown hgrow (by simp) (by intro k hk;simp[Value.ownBlock] at hk;omega)
def d8X:Sx.Sys:=⟨[],.stuck,[],some (c3s 51 6),none⟩
theorem a7r:SysOk Tryz.prog 89 d8X where
 ct _ _ _:=c9E c6r Tryz.call89
def z6:List PV:=[.int .i64 0,.int .i64 0,.int .i64 0,.int .i64 0,.int .i64 0,.int .i64 0]
def b9y:List PV->List MO->Option (PV×List MO)
 | [.ref h 0],σ=>match σ[h]? with
  | some (.cells [c0,c1,c2,c3,c4,c5,c6,c7,c8,c9,c10,c11,c12,c13,c14,_,_,.msl hd o n cp sz,c18] T) =>
   if n<=1000000/\σ.all (MO.low σ.length)=true then
    some (.tup [],σ.set h (.cells [c0,c1,c2,c3,c4,c5,c6,c7,c8,c9,c10,c11,c12,c13,c14,.msl σ.length 0 n n 6,.msl (σ.length+1) 0 n n 1,.msl hd o n cp sz,c18] T)++[.cells (Q3 n z6).flatten 51,.cells (Q3 n [PV.bool false]).flatten 4]) else none
  | _=>none
 | _,_=>none
theorem d1I:SysIs Tryz.prog 31 e0I:=b6m (c:=(cg [] [] [] true true false true)) (a0H _ _ _ _ _ _ _ _ _) Tryz.func31 Tryz.call31 (by kernel_rfl) b4H e0I 5000 rfl (by kernel_rfl) (by kernel_rfl)
theorem d4B(k n:Nat):PV.lows k (Q3 n z6).flatten=true:=by
 induction n with
 | zero=>rfl
 | succ n ih=>rw[Qk,Qm];simpa[z6,PV.lows,PV.low] using ih
theorem d4j(k n:Nat):PV.lows k (Q3 n [PV.bool false]).flatten=true:=by
 induction n with
 | zero=>rfl
 | succ n ih=>rw[Qk,Qm];simpa[PV.lows,PV.low] using ih
section
variable {Φ:Fns}{ρ:PEnv}{R:Res->Prop}{k:PT}
theorem d6w{n:IE}{zero:List SV}{T size bytes:Nat}{z:List PV}{m:Nat}(h1:SV.pvs ρ noOwn zero=some z)(h2:n.pe ρ=(m:Int))(h3:m<=1000000)(h4:bytes<=100000000)
  (hk:k.wp Φ {ρ with v:=ρ.v++[.msl ρ.m.length 0 m m size],m:=ρ.m++[.cells (Q3 m z).flatten T]} R):(PT.mkM n zero T size bytes k).wp Φ ρ R:=by
 refine⟨z,h1,?_⟩;rw[h2,if_pos ⟨by omega,by omega,h4⟩];exact hk
theorem d4Z{a:SV}{cs:List SV}{h off T:Nat}{l new:List PV}(h1:a0y ρ a=some (.obj h off))(h2:ρ.m[h]?=some (.cells l T))(h3:SV.pvs ρ noOwn cs=some new)(h4:off+new.length<=l.length)(hk:k.wp Φ {ρ with m:=ρ.m.set h (.cells (a2q l off new) T)} R):(PT.storeM a cs k).wp Φ ρ R:=by
 simp only[PT.wp,h1,h2];exact⟨new,h3,by rw[if_pos h4];exact hk⟩
end
theorem d0l{k n:Nat}{c0 c1 c2 c3 c4 c5 c6 c7 c8 c9 c10 c11 c12 c13 c14 d c18:PV}{s:Hp}{B B':Inf}{vs:List Value}(hl:PV.lows k [c0,c1,c2,c3,c4,c5,c6,c7,c8,c9,c10,c11,c12,c13,c14,d,c18]=true)(hp:B.take k <+: B')(e1:B'[k]?=B[k+1]?)(e2:B'[k+1]?=B[k]?)
  (h:Reps s B [c0,c1,c2,c3,c4,c5,c6,c7,c8,c9,c10,c11,c12,c13,c14,.msl (k+1) 0 n n 6,.msl k 0 n n 1,d,c18] vs):Reps s B' [c0,c1,c2,c3,c4,c5,c6,c7,c8,c9,c10,c11,c12,c13,c14,.msl k 0 n n 6,.msl (k+1) 0 n n 1,d,c18] vs:=by
 have up:∀{p:PV} {v:Value},Rep s B p v->p.low k=true->Rep s B' p v:=fun h1 h2=>Rep.mono (fun _ _ _ h=>h) (BLe.pre hp) _ _ (PV.low_rep _ _ h1 h2)
 simp only[PV.lows,Q5] at hl;obtain⟨a0,a1,a2,a3,a4,a5,a6,a7,a8,a9,a10,a11,a12,a13,a14,a15,a16,-⟩:=hl;rw[Reps] at h;obtain⟨v0,_,rfl,b0,h⟩:=h;rw[Reps] at h;obtain⟨v1,_,rfl,b1,h⟩:=h;rw[Reps] at h;obtain⟨v2,_,rfl,b2,h⟩:=h;rw[Reps] at h;obtain⟨v3,_,rfl,b3,h⟩:=h;rw[Reps] at h;obtain⟨v4,_,rfl,b4,h⟩:=h;rw[Reps] at h;obtain⟨v5,_,rfl,b5,h⟩:=h;rw[Reps] at h;obtain⟨v6,_,rfl,b6,h⟩:=h;rw[Reps] at h;obtain⟨v7,_,rfl,b7,h⟩:=h;rw[Reps] at h;obtain⟨v8,_,rfl,b8,h⟩:=h;rw[Reps] at h;obtain⟨v9,_,rfl,b9,h⟩:=h;rw[Reps] at h;obtain⟨v10,_,rfl,b10,h⟩:=h;rw[Reps] at h;obtain⟨v11,_,rfl,b11,h⟩:=h;rw[Reps] at h;obtain⟨v12,_,rfl,b12,h⟩:=h;rw[Reps] at h;obtain⟨v13,_,rfl,b13,h⟩:=h;rw[Reps] at h;obtain⟨v14,_,rfl,b14,h⟩:=h;rw[Reps] at h;obtain⟨v15,_,rfl,m1,h⟩:=h;rw[Reps] at h;obtain⟨v16,_,rfl,m2,h⟩:=h;rw[Reps] at h;obtain⟨v17,_,rfl,b15,h⟩:=h;rw[Reps] at h;obtain⟨v18,_,rfl,b16,h⟩:=h;simp only[Rep] at m1 m2;rw[<- e1] at m1;rw[<- e2] at m2;refine⟨_,_,rfl,up b0 a0,_,_,rfl,up b1 a1,_,_,rfl,up b2 a2,_,_,rfl,up b3 a3,_,_,rfl,up b4 a4,_,_,rfl,up b5 a5,_,_,rfl,up b6 a6,_,_,rfl,up b7 a7,_,_,rfl,up b8 a8,_,_,rfl,up b9 a9,_,_,rfl,up b10 a10,_,_,rfl,up b11 a11,_,_,rfl,up b12 a12,_,_,rfl,up b13 a13,_,_,rfl,up b14 a14,_,_,rfl,?_,_,_,rfl,?_,_,_,rfl,up b15 a15,_,_,rfl,up b16 a16,h⟩
 ·simp only[Rep];exact m1
 ·simp only[Rep];exact m2
def c2z:Sx.Sys:=⟨[],.stuck,[],some b9y,none⟩
set_option maxHeartbeats 4000000 in
theorem c8w:SysOk Tryz.prog 31 c2z where
 ct Φ hΦ nn aa σ r σ' hh:=by
  change b9y aa σ=some (r,σ') at hh;unfold b9y at hh;split at hh
  case h_2=>cases hh
  rename_i h;split at hh
  case h_2=>cases hh
  rename_i c0 c1 c2 c3 c4 c5 c6 c7 c8 c9 c10 c11 c12 c13 c14 c15 c16 hd o n cp sz c18 T g0;split at hh
  case isFalse=>cases hh
  rename_i hc;obtain⟨hn,hlow⟩:=hc;simp only[Q1,Q0] at hh;obtain⟨rfl,rfl⟩:=hh;have hlt:=(List.getElem?_eq_some_iff.1 g0).1;have hall:PV.lows σ.length [c0,c1,c2,c3,c4,c5,c6,c7,c8,c9,c10,c11,c12,c13,c14,c15,c16,.msl hd o n cp sz,c18]=true:=List.all_eq_true.1 hlow _ (List.mem_of_getElem? g0)
  have hall':PV.lows σ.length [c0,c1,c2,c3,c4,c5,c6,c7,c8,c9,c10,c11,c12,c13,c14,.msl hd o n cp sz,c18]=true:=by
   simp only[PV.lows,Q5] at hall ⊢;obtain⟨a0,a1,a2,a3,a4,a5,a6,a7,a8,a9,a10,a11,a12,a13,a14,a15,a16,a17,a18,-⟩:=hall;exact⟨a0,a1,a2,a3,a4,a5,a6,a7,a8,a9,a10,a11,a12,a13,a14,a17,a18,trivial⟩
  have g1:∀x:MO,(σ++[x])[h]?=some (.cells [c0,c1,c2,c3,c4,c5,c6,c7,c8,c9,c10,c11,c12,c13,c14,c15,c16,.msl hd o n cp sz,c18] T):=fun x=>by rw[Q6 hlt];exact g0
  have g2:∀x y:MO,(σ++[x]++[y])[h]?=some (.cells [c0,c1,c2,c3,c4,c5,c6,c7,c8,c9,c10,c11,c12,c13,c14,c15,c16,.msl hd o n cp sz,c18] T):=fun x y=>by rw[Q6 (by simp;omega)];exact g1 x
  have g3:∀(x c:MO),((σ++[x]).set h c)[h]?=some c:=fun x c=>Qn (by simp;omega)
  have g4:∀(x y c:MO),((σ++[x]++[y]).set h c)[h]?=some c:=fun x y c=>Qn (by simp;omega)
  have g5:∀(x y c:MO),((σ++[x]).set h c++[y])[h]?=some c:=fun x y c=>by rw[Q6 (by simp;omega)];exact g3 x c
  have s1:∀(x y c d:MO),((σ++[x]++[y]).set h c).set h d=σ.set h d++[x,y]:=fun x y c d=>by rw[List.set_set,Qp,Q7 _ _ hlt];rfl
  have s2:∀(x y c d:MO),((σ++[x]).set h c++[y]).set h d=σ.set h d++[x,y]:=fun x y c d=>by
   rw[Q7 _ _ hlt,Qp,Q7 _ _ (by simpa using hlt),List.set_set];rfl
  refine CtD.one (CtD.swap (l2:=[c0,c1,c2,c3,c4,c5,c6,c7,c8,c9,c10,c11,c12,c13,c14,.msl (σ.length+1) 0 n n 6,.msl σ.length 0 n n 1,.msl hd o n cp sz,c18]) (d1I.dm Φ hΦ 1 _ _ (fun r' σ'=>r'=.tup []/\(_\/_)) ⟨([],[],[.ref h 0]),rfl,?_⟩) g0 hlow (d4B _ _) (d4j _ _) rfl (fun s B B' vs q1 q2 q3 q4=>d0l hall' q1 q2 q3 q4) ?_ (fun _ _ hq=>hq))
  ·show PT.wp _ a7t _ _
   unfold a7t
   repeat' first
    | refine a4Y rfl rfl ?_
    | refine d3O ?_ ?_
    | ((refine d3e rfl (d4w (by dsimp only;first|exact g0|exact g1 _) rfl) rfl ?_);(dsimp only[PEnv.push,Q8,Q9,Qa,a2q,Qb,Qd,Qe,IE.pe,BE.pe,Nat.reduceAdd];try simp only[Qf,Qg,Qh,Qj,Q2]))
    | (refine d6w rfl rfl hn (by decide) ?_;(dsimp only[PEnv.push,Q8,Q9,Qa,a2q,Qb,Qd,Qe,IE.pe,BE.pe,Nat.reduceAdd];try simp only[Qf,Qg,Qh,Qj,Q2]))
    | ((refine d4Z rfl (by dsimp only;first|exact g0|exact g1 _|exact g2 _ _|exact g3 _ _|exact g4 _ _ _|exact g5 _ _ _) rfl (by simp[]) ?_);(dsimp only[PEnv.push,Q8,Q9,Qa,a2q,Qb,Qd,Qe,IE.pe,BE.pe,Nat.reduceAdd];try simp only[Qf,Qg,Qh,Qj,Q2]))
    | (refine d3C rfl ⟨rfl,?_⟩)
   all_goals simp only[s1,s2]
   all_goals first|exact .inl rfl|exact .inr rfl
  ·have:=PV.lows_mono (show σ.length<=σ.length+2 by omega) _ hall'
   simp only[PV.lows,Q5,PV.low,decide_eq_true_eq] at this ⊢;obtain⟨a0,a1,a2,a3,a4,a5,a6,a7,a8,a9,a10,a11,a12,a13,a14,a15,a16,-⟩:=this;exact⟨a0,a1,a2,a3,a4,a5,a6,a7,a8,a9,a10,a11,a12,a13,a14,by omega,by omega,a15,a16,trivial⟩
def d9k:Sx.Sys:=c2z
theorem b6C:SysOk Tryz.prog 31 d9k:=c8w
def d4q:List (Nat×Sx.Sys):=[(5,d8H),(7,d9P),(9,e0J),(12,e0d),(14,d9V),(15,e0p),(16,e0u),(17,d9M),(18,d8P),(19,d9a),(20,d9U),(21,d8F),(23,e0n),(24,d9S),(25,d8T),(26,d9b),(27,d9B),(28,e0H),(29,e0b),(30,e0C),(31,d9k),(36,d9J),(37,d9I),(43,d8R),(44,d9i),(45,d8W),(46,d9T),(47,d9L),(48,d8O),(49,d9F),(50,d8G),(51,d9s),(52,d9W),(53,e0g),(54,e0r),(55,d9O),(56,e0j),(57,d9f),(58,d9h),(59,d9d),(60,e0A),(61,d8N),(62,d9q),(63,d9x),(64,d9D),(65,d8Z),(66,d8V),(67,d9m),(68,d9n),(69,d9w),(70,d9o),(76,d9e),(77,d9E),(78,d9c),(79,d9y),(80,e0x),(81,e0G),(82,d9A),(83,d9v),(84,d9u),(85,e0y),(86,e0h),(87,d9X),(88,d8U),(89,d8X),(90,e0K),(91,d8J),(92,d8K),(93,d8S),(94,d9Q),(95,d9Y),(96,d9Z),(97,e0w),(98,d9r),(99,e0f),(100,e0v),(101,d9z),(113,d9G),(114,d9l),(115,d9j),(116,e0s),(117,d8Q),(118,e0t),(119,d9t),(120,d9g),(121,d8M),(122,d9K),(123,e0B),(124,e0z),(125,e0e),(126,e0F),(128,d9N),(129,e0o),(130,e0D),(131,d8Y),(132,e0i),(133,e0l),(134,d9p),(135,d8I),(136,e0L),(137,e0E),(138,e0a),(139,e0m),(140,e0q),(141,d8L)]
def Tab(f:Nat):Option Sx.Sys:=b0i f d4q
theorem c9y:∀f S,Tab f=some S->SysOk Tryz.prog f S:=by
 intro f S h;have h:=b3x h;simp only[d4q,List.mem_cons,Q0,List.not_mem_nil,or_false] at h;rcases h with h|h|h|h|h|h|h|h|h|h|h|h|h|h|h|h|h|h|h|h|h|h|h|h|h|h|h|h|h|h|h|h|h|h|h|h|h|h|h|h|h|h|h|h|h|h|h|h|h|h|h|h|h|h|h|h|h|h|h|h|h|h|h|h|h|h|h|h|h|h|h|h|h|h|h|h|h|h|h|h|h|h|h|h|h|h|h|h|h|h|h|h|h|h|h|h|h|h|h|h|h|h|h|h|h
 all_goals obtain⟨rfl,rfl⟩:=h
 ·exact b0C
 ·exact b4O
 ·exact c6G
 ·exact b8R
 ·exact b5W
 ·exact b7c
 ·exact b8y
 ·exact b4N
 ·exact b5a
 ·exact b8G
 ·exact b6u
 ·exact b3q
 ·exact b6h
 ·exact b9C
 ·exact b8j
 ·exact b4X
 ·exact b7T
 ·exact c3P
 ·exact b8Q
 ·exact c3H
 ·exact b6C
 ·exact b8x
 ·exact b8P
 ·exact b5r
 ·exact b4T
 ·exact b2r
 ·exact b5R
 ·exact b5x
 ·exact b6c
 ·exact b3E
 ·exact b6N
 ·exact b1O
 ·exact b7X
 ·exact c0f
 ·exact c1w
 ·exact b5E
 ·exact b9S
 ·exact c0N
 ·exact b8Y
 ·exact b3P
 ·exact c2A
 ·exact b9i
 ·exact b1k
 ·exact c2a
 ·exact c2C
 ·exact b9z
 ·exact b7K
 ·exact a6C
 ·exact a7j
 ·exact a9h
 ·exact a7M
 ·exact b3M
 ·exact b3H
 ·exact b5M
 ·exact c1I
 ·exact c3r
 ·exact c4c
 ·exact b3w
 ·exact b1x
 ·exact b1J
 ·exact c3C
 ·exact b9K
 ·exact b6Z
 ·exact b8V
 ·exact a7r
 ·exact c5L
 ·exact b7W
 ·exact b8J
 ·exact c5a
 ·exact c4s
 ·exact b7R
 ·exact b8L
 ·exact c3v
 ·exact c2K
 ·exact b9u
 ·exact c2T
 ·exact c3M
 ·exact b3X
 ·exact b7b
 ·exact c3D
 ·exact c1E
 ·exact c1z
 ·exact c1F
 ·exact b1Q
 ·exact b4c
 ·exact c0F
 ·exact b5l
 ·exact c3w
 ·exact c3k
 ·exact c6s
 ·exact c3X
 ·exact b5t
 ·exact b6v
 ·exact c3O
 ·exact b6X
 ·exact b9G
 ·exact c0Q
 ·exact b6T
 ·exact b8M
 ·exact c6k
 ·exact c3L
 ·exact b8t
 ·exact c0J
 ·exact c1H
 ·exact c0P
abbrev a4s:Nat:=5
abbrev a9G:Nat:=7
abbrev b4W:Nat:=9
abbrev a7N:Nat:=12
abbrev a6D:Nat:=14
abbrev c9r:Nat:=15
abbrev d0d:Nat:=16
abbrev a9C:Nat:=17
abbrev a4x:Nat:=18
abbrev a8f:Nat:=19
abbrev a6S:Nat:=20
abbrev a8B:Nat:=21
abbrev c9e:Nat:=23
abbrev a3N:Nat:=24
abbrev a7g:Nat:=25
abbrev a6j:Nat:=26
abbrev a7v:Nat:=27
abbrev b1z:Nat:=28
abbrev a7U:Nat:=29
abbrev b8p:Nat:=30
abbrev a2b:Nat:=31
abbrev a8d:Nat:=36
abbrev a8c:Nat:=37
abbrev a6q:Nat:=43
abbrev a9L:Nat:=44
abbrev a7I:Nat:=45
abbrev a2Q:Nat:=46
abbrev a6e:Nat:=47
abbrev a9V:Nat:=48
abbrev a9a:Nat:=49
abbrev a9N:Nat:=50
abbrev a3r:Nat:=51
abbrev b0x:Nat:=52
abbrev a6a:Nat:=53
abbrev b4y:Nat:=54
abbrev a9J:Nat:=55
abbrev b1R:Nat:=56
abbrev a5h:Nat:=57
abbrev b1U:Nat:=58
abbrev a8X:Nat:=59
abbrev b6a:Nat:=60
abbrev b1X:Nat:=61
abbrev a6Z:Nat:=62
abbrev a7z:Nat:=63
abbrev b5N:Nat:=64
abbrev b1W:Nat:=65
abbrev b0t:Nat:=66
abbrev b8E:Nat:=67
abbrev b9V:Nat:=68
abbrev c2B:Nat:=69
abbrev c0x:Nat:=70
abbrev a8Y:Nat:=76
abbrev a9b:Nat:=77
abbrev b0l:Nat:=78
abbrev b4r:Nat:=79
abbrev a8m:Nat:=80
abbrev a6Y:Nat:=81
abbrev a5r:Nat:=82
abbrev a1Z:Nat:=83
abbrev a7B:Nat:=84
abbrev a2T:Nat:=85
abbrev b1T:Nat:=86
abbrev b0w:Nat:=87
abbrev b1V:Nat:=88
abbrev a2G:Nat:=89
abbrev c1j:Nat:=90
abbrev b0y:Nat:=91
abbrev b1n:Nat:=92
abbrev b9q:Nat:=93
abbrev b1w:Nat:=94
abbrev b0u:Nat:=95
abbrev a2o:Nat:=96
abbrev b0B:Nat:=97
abbrev b5K:Nat:=98
abbrev b1Y:Nat:=99
abbrev b6i:Nat:=100
abbrev b8o:Nat:=101
abbrev a4l:Nat:=113
abbrev b0z:Nat:=114
abbrev b5X:Nat:=115
abbrev b0k:Nat:=116
abbrev b4k:Nat:=117
abbrev b4v:Nat:=118
abbrev a4R:Nat:=119
abbrev a8V:Nat:=120
abbrev a9k:Nat:=121
abbrev a4y:Nat:=122
abbrev b6k:Nat:=123
abbrev b0L:Nat:=124
abbrev c1g:Nat:=125
abbrev a4D:Nat:=126
abbrev a9E:Nat:=128
abbrev c8q:Nat:=129
abbrev b8q:Nat:=130
abbrev a5l:Nat:=131
abbrev a3L:Nat:=132
abbrev b2I:Nat:=133
abbrev b0v:Nat:=134
abbrev b1u:Nat:=135
abbrev c1o:Nat:=136
abbrev b8r:Nat:=137
abbrev a3l:Nat:=138
abbrev b2S:Nat:=139
abbrev b4C:Nat:=140
abbrev b3o:Nat:=141
abbrev a1i:Nat:=8
theorem b0r:Tab 5=some d8H:=by kernel_rfl
theorem b3U:Tab 7=some d9P:=by kernel_rfl
theorem c5m:Tab 9=some e0J:=by kernel_rfl
theorem b7J:Tab 12=some e0d:=by kernel_rfl
theorem b4I:Tab 14=some d9V:=by kernel_rfl
theorem b4g:Tab 17=some d9M:=by kernel_rfl
theorem b3W:Tab 18=some d8P:=by kernel_rfl
theorem b7U:Tab 19=some d9a:=by kernel_rfl
theorem b5C:Tab 20=some d9U:=by kernel_rfl
theorem b2i:Tab 21=some d8F:=by kernel_rfl
theorem b8T:Tab 24=some d9S:=by kernel_rfl
theorem b5F:Tab 25=some d8T:=by kernel_rfl
theorem b3K:Tab 26=some d9b:=by kernel_rfl
theorem b6O:Tab 27=some d9B:=by kernel_rfl
theorem c3d:Tab 28=some e0H:=by kernel_rfl
theorem b7o:Tab 29=some e0b:=by kernel_rfl
theorem c3z:Tab 30=some e0C:=by kernel_rfl
theorem a9I:Tab 31=some d9k:=by kernel_rfl
theorem b7Y:Tab 36=some d9J:=by kernel_rfl
theorem b7G:Tab 37=some d9I:=by kernel_rfl
theorem b4a:Tab 43=some d8R:=by kernel_rfl
theorem b3F:Tab 44=some d9i:=by kernel_rfl
theorem b1G:Tab 45=some d8W:=by kernel_rfl
theorem b4P:Tab 46=some d9T:=by kernel_rfl
theorem b3L:Tab 47=some d9L:=by kernel_rfl
theorem b5f:Tab 48=some d8O:=by kernel_rfl
theorem b3f:Tab 49=some d9F:=by kernel_rfl
theorem b5e:Tab 50=some d8G:=by kernel_rfl
theorem b1l:Tab 51=some d9s:=by kernel_rfl
theorem b5Q:Tab 52=some d9W:=by kernel_rfl
theorem b8S:Tab 53=some e0g:=by kernel_rfl
theorem c0A:Tab 54=some e0r:=by kernel_rfl
theorem b3B:Tab 55=some d9O:=by kernel_rfl
theorem b8I:Tab 56=some e0j:=by kernel_rfl
theorem b9X:Tab 57=some d9f:=by kernel_rfl
theorem b8O:Tab 58=some d9h:=by kernel_rfl
theorem b2G:Tab 59=some d9d:=by kernel_rfl
theorem c1D:Tab 60=some e0A:=by kernel_rfl
theorem b8s:Tab 61=some d8N:=by kernel_rfl
theorem b0D:Tab 62=some d9q:=by kernel_rfl
theorem c0H:Tab 63=some d9x:=by kernel_rfl
theorem c1u:Tab 64=some d9D:=by kernel_rfl
theorem b8z:Tab 65=some d8Z:=by kernel_rfl
theorem b6E:Tab 66=some d8V:=by kernel_rfl
theorem a6E:Tab 67=some d9m:=by kernel_rfl
theorem a7o:Tab 68=some d9n:=by kernel_rfl
theorem a9x:Tab 69=some d9w:=by kernel_rfl
theorem a7E:Tab 70=some d9o:=by kernel_rfl
theorem b2Y:Tab 76=some d9e:=by kernel_rfl
theorem b2Z:Tab 77=some d9E:=by kernel_rfl
theorem b4U:Tab 78=some d9c:=by kernel_rfl
theorem c0R:Tab 79=some d9y:=by kernel_rfl
theorem c2f:Tab 80=some e0x:=by kernel_rfl
theorem c2J:Tab 81=some e0G:=by kernel_rfl
theorem b2o:Tab 82=some d9A:=by kernel_rfl
theorem b1r:Tab 83=some d9v:=by kernel_rfl
theorem b1m:Tab 84=some d9u:=by kernel_rfl
theorem c1C:Tab 85=some e0y:=by kernel_rfl
theorem b8u:Tab 86=some e0h:=by kernel_rfl
theorem b6l:Tab 87=some d9X:=by kernel_rfl
theorem b8w:Tab 88=some d8U:=by kernel_rfl
theorem a7n:Tab 89=some d8X:=by kernel_rfl
theorem c5n:Tab 90=some e0K:=by kernel_rfl
theorem b5Z:Tab 91=some d8J:=by kernel_rfl
theorem b7D:Tab 92=some d8K:=by kernel_rfl
theorem c4j:Tab 93=some d8S:=by kernel_rfl
theorem c3f:Tab 94=some d9Q:=by kernel_rfl
theorem b5L:Tab 95=some d9Y:=by kernel_rfl
theorem b7d:Tab 96=some d9Z:=by kernel_rfl
theorem c1P:Tab 97=some e0w:=by kernel_rfl
theorem c1y:Tab 98=some d9r:=by kernel_rfl
theorem b8N:Tab 99=some e0f:=by kernel_rfl
theorem c2l:Tab 100=some e0v:=by kernel_rfl
theorem c2R:Tab 101=some d9z:=by kernel_rfl
theorem b2F:Tab 113=some d9G:=by kernel_rfl
theorem b5Y:Tab 114=some d9l:=by kernel_rfl
theorem c1K:Tab 115=some d9j:=by kernel_rfl
theorem c0S:Tab 116=some e0s:=by kernel_rfl
theorem c0L:Tab 117=some d8Q:=by kernel_rfl
theorem c0I:Tab 118=some e0t:=by kernel_rfl
theorem b1p:Tab 119=some d9t:=by kernel_rfl
theorem b2V:Tab 120=some d9g:=by kernel_rfl
theorem b9E:Tab 121=some d8M:=by kernel_rfl
theorem b3C:Tab 122=some d9K:=by kernel_rfl
theorem c1B:Tab 123=some e0B:=by kernel_rfl
theorem c1q:Tab 124=some e0z:=by kernel_rfl
theorem c5c:Tab 125=some e0e:=by kernel_rfl
theorem c3x:Tab 126=some e0F:=by kernel_rfl
theorem b3N:Tab 128=some d9N:=by kernel_rfl
theorem c3a:Tab 130=some e0D:=by kernel_rfl
theorem a9H:Tab 131=some d8Y:=by kernel_rfl
theorem b8K:Tab 132=some e0i:=by kernel_rfl
theorem b9x:Tab 133=some e0l:=by kernel_rfl
theorem b5I:Tab 134=some d9p:=by kernel_rfl
theorem b7O:Tab 135=some d8I:=by kernel_rfl
theorem c5f:Tab 136=some e0L:=by kernel_rfl
theorem c3q:Tab 137=some e0E:=by kernel_rfl
theorem b6V:Tab 138=some e0a:=by kernel_rfl
theorem b9l:Tab 139=some e0m:=by kernel_rfl
theorem c0K:Tab 140=some e0q:=by kernel_rfl
theorem b9R:Tab 141=some d8L:=by kernel_rfl
end Go.Proofs.YtmekflfjaflmkaaGreat
