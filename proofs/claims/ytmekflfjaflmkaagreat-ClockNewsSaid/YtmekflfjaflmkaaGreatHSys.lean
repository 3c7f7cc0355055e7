/- The trees of this seat's functions, part 0. Written by txgen.py. -/
import Derived.Test.YtmekflfjaflmkaaGreatHTxd
import Derived.Shelf.RegionOpenPlain
import Derived.WalkKit
import Derived.Deep.LoopGhost
import Derived.Deep.RegionLaw
import Derived.Lib.Walk
import Derived.Sort.WalkB12
import Derived.Lib.SliceRun
set_option linter.unusedSimpArgs false
set_option linter.unusedVariables false
set_option linter.unusedSectionVars false
open Go.Sx.PT renaming need → nD, jump → jU, load → lO, call → cA
open Prod.mk renaming injEq → Q0
open Option.some renaming injEq → Q1
open Nat renaming zero_add → Q2, le_refl → Q4
open List renaming replicate → Q3, getElem?_append_left → Q6, set_append_left → Q7, cons_append → Q8, nil_append → Q9, append_nil → Qa, take → Qb, drop → Qd, length → Qe, length_set → Qf, length_append → Qg, length_cons → Qh, length_nil → Qj, replicate_succ → Qk, flatten_cons → Qm, getElem?_set_self → Qn, append_assoc → Qp
open Bool renaming and_eq_true → Q5
set_option maxRecDepth 100000
namespace Go.Proofs.YtmekflfjaflmkaaGreat
open Go.Sx
def a1T:PT :=
 (cA 7 [(.agg [(.va 0),(.va 1),(.va 2),(.va 3)]),.nilS] [] [(.one .bool)]
 (.ite (.a 0)
 (cA 8 [] [] [(.one .bool)]
 (.ret false (.bool (.a 1)) []))
 (cA 9 [(.agg [(.va 0),(.va 1),(.va 2),(.va 3)]),(.agg [(jA 0),(jA 1),(jA 2),(jA 3)])] [] [(.one .val),(.one jD)]
 (cA 10 [(.agg [(.va 0),(.va 1),(.va 2),(.va 3)]),(.agg [(jA 0),(jA 1),(jA 2),(jA 3)])] [] [(.agg [.val,.val,.val,.val,jD,jD,jD,jD,.val,jD,jD,jD,jD,jD,jD,.val,.val,.val,.bool]),(.one jD)]
 (.ite (.not (.eq (.a 4) (.a 15)))
  rF
  (nD (.is 4 4)
  (.ite (.not (.or (.and (.not (.nil 4)) (.eq (.a 4) (.l 0))) (.and (.nil 4) (.not (.eq (.a 4) (.l 0))))))
  rF
  (nD (.is 4 4)
  (.ite (.nil 4)
   (cA 8 [] [] [(.one .bool)]
   (.ret false (.bool (.a 2)) []))
   (cA 11 [(.va 4),(.agg [(.va 5),(.va 6),(.va 7),(.va 8),(jA 5),(jA 6),(jA 7),(jA 8),(.va 9),(jA 9),(jA 10),(jA 11),(jA 12),(jA 13),(jA 14),(.va 10),(.va 11),(.va 12),(.bool (.a 1))])] [] [(.one .bool)]
   (.ite (.a 2)
   (cA 8 [] [] [(.one .bool)]
   (.ret false (.bool (.a 3)) []))
   rF)))))))))))
def a1U:Sx.Sys:=⟨[(.sh (.agg [.val,.val,.val,.val])),(.sh (.agg [jD,jD,jD,jD]))],a1T,[],none,none⟩
def b0U:List Cfg:=[]
theorem b1U:SysOk Tryz.prog 3 a1U:=a0k (c:=(cg [] [] [] true false false true)) (a0h _ _ _ _ _ _ _ _ _) Tryz.func3 Tryz.call3 (by kernel_rfl) b0U a1U 5000 rfl (by kernel_rfl) (by kernel_rfl) rfl
def a5e:PT :=
 (cA 14 [(.va 0)] [] [(.agg [jD,jD,jD,jD,jD,jD])]
 (.ite (.not (.and (.eq (.a 10) (.a 4)) (.and (.eq (.a 11) (.a 5)) (.and (.eq (.a 12) (.a 6)) (.and (.eq (.a 13) (.a 7)) (.and (.eq (.a 14) (.a 8)) (.eq (.a 15) (.a 9))))))))
 rF
 (nD (.is 0 5)
 (cA 15 [(.va 0)] [] [(.one jD)]
 (.ite (.not (.eq (.a 16) (.slen 5)))
  rF
  (cA 16 [(.va 0)] [] [(.one .bool)]
  (.ite (.not (.or (.and (.a 1) (.a 0)) (.and (.not (.a 1)) (.not (.a 0)))))
  rF
  (cA 34 [(.va 0)] [] [(.one .val)]
  (cA 33 [(.va 9),(.va 5)] [] [(.one .bool)]
  (.ite (.not (.a 2))
   rF
   (jU 0 [(.l (-1)),(.a 0),(.a 1),(.a 2),(.a 3),(.a 4),(.a 5),(.a 6),(.a 7),(.a 8),(.a 9)] [(.a 0)] [(.va 0),(.va 1),(.va 2),(.va 3),(.va 4),(.va 5),(.va 6),(.va 7),(.va 8)])))))))))))
def a2x:PT :=
 (nD (.is 0 8)
 (.ite (.le (.a 0) (.slen 8))
 (cA 26 [(.va 0),(jA 0)] [] [(.one .val)]
 (cA 35 [(.agg [(.va 1),(.va 2),(.va 3),(.va 4),(jA 1),(jA 2),(jA 3),(jA 4),(.va 5),(jA 5),(jA 6),(jA 7),(jA 8),(jA 9),(jA 10),(.va 6),(.va 7),(.va 8),(.bool (.a 0))]),(jA 0)] [] [(.one .val)]
 (nD (.is 0 9)
 (nD (.is 0 10)
 (.ite (.not (.eq (.slen 9) (.slen 10)))
  rF
  (jU 1 [(.a 0),(.l 0),(.a 1),(.a 2),(.a 3),(.a 4),(.a 5),(.a 6),(.a 7),(.a 8),(.a 9),(.a 10)] [(.a 0)] [(.va 0),(.va 9),(.va 10),(.va 1),(.va 2),(.va 3),(.va 4),(.va 5),(.va 6),(.va 7),(.va 8)]))))))
 (.ret false (.bool (.t true)) [])))
def a2w:PT :=
 (nD (.is 0 1)
 (.ite (.lt (.a 1) (.slen 1))
 (nD (treeI (.a 1) (.slen 1))
 (nD (treeI (.a 1) (.slen 2))
 (lO false (.ea 1 (.a 1) 12 0) [jD,jD,jD,jD,jD,jD,jD,jD,jD,jD,jD,jD]
 (lO false (.ea 2 (.a 1) 12 0) [jD,jD,jD,jD,jD,jD,jD,jD,jD,jD,jD,jD]
 (.ite (.not (.and (.eq (.a 12) (.a 24)) (.and (.eq (.a 13) (.a 25)) (.and (.eq (.a 14) (.a 26)) (.and (.eq (.a 15) (.a 27)) (.and (.eq (.a 16) (.a 28)) (.and (.eq (.a 17) (.a 29)) (.and (.eq (.a 18) (.a 30)) (.and (.eq (.a 19) (.a 31)) (.and (.eq (.a 20) (.a 32)) (.and (.eq (.a 21) (.a 33)) (.and (.eq (.a 22) (.a 34)) (.eq (.a 23) (.a 35))))))))))))))
  rF
  (nD (treeB (jP 1))
  (jU 1 [(.a 0),(jP 1),(.a 2),(.a 3),(.a 4),(.a 5),(.a 6),(.a 7),(.a 8),(.a 9),(.a 10),(.a 11)] [(.a 0)] [(.va 0),(.va 1),(.va 2),(.va 3),(.va 4),(.va 5),(.va 6),(.va 7),(.va 8),(.va 9),(.va 10)])))))))
 (nD (treeB (jP 0))
 (jU 0 [(jP 0),(.a 2),(.a 3),(.a 4),(.a 5),(.a 6),(.a 7),(.a 8),(.a 9),(.a 10),(.a 11)] [(.a 0)] [(.va 0),(.va 3),(.va 4),(.va 5),(.va 6),(.va 7),(.va 8),(.va 9),(.va 10)]))))
def a0P:Sx.Sys:=⟨[(.sh (.one .val)),(.sh (.agg [.val,.val,.val,.val,jD,jD,jD,jD,.val,jD,jD,jD,jD,jD,jD,.val,.val,.val,.bool]))],a5e,[a2x,a2w],none,none⟩
def b2P:List Cfg:=[{todo:=[(.code (tfR 6 52)),(.inLoop (tfR 6 52)),(.inBlock 0),(.code [true,true,true])],sl:=[(.va 0),(.junk 0),.undef,(.ptr 0 0),(.junk 1),(jA 0)]++jkR 2 64,H:=[(.cells [(.va 1),(.va 2),(.va 3),(.va 4),(jA 1),(jA 2),(jA 3),(jA 4),(.va 5),(jA 5),(jA 6),(jA 7),(jA 8),(jA 9),(jA 10),(.va 6),(.va 7),(.va 8),(.bool (.a 0))] 42 false)],ni:=11,nb:=1,nv:=9,nj:=66},
 {todo:=[(.code (tfR 14 13468)),(.inLoop (tfR 14 13468)),(.inBlock 2),(.inBlock 1),(.code (tfR 8 211)),(.inLoop (tfR 6 52)),(.inBlock 0),(.code [true,true,true])],sl:=[(.va 0),(.junk 0),.undef,(.ptr 0 0),(.junk 1),(jA 0),(.va 1),(.va 2),(jA 1)]++jkR 2 61,H:=[(.cells [(.va 3),(.va 4),(.va 5),(.va 6),(jA 2),(jA 3),(jA 4),(jA 5),(.va 7),(jA 6),(jA 7),(jA 8),(jA 9),(jA 10),(jA 11),(.va 8),(.va 9),(.va 10),(.bool (.a 0))] 42 false)],ni:=12,nb:=1,nv:=11,nj:=63}]
theorem b5i:SysOk Tryz.prog 11 a0P:=a0k (c:=(cg [(tfR 6 52),(tfR 14 13468)] [] [] true false false true)) (a0h _ _ _ _ _ _ _ _ _) Tryz.func11 Tryz.call11 (by kernel_rfl) b2P a0P 5000 rfl (by kernel_rfl) (by kernel_rfl) rfl
def a6K:PT :=
 (nD (.is 0 0)
 (.cut 0 none (some (.mn (.slen 0) (.l 6))) 5
 (nD (.is 0 1)
 (jU 0 [(.slen 1),(.l 0),(.l 0),(.l 0),(.l 0),(.l 0),(.l 0),(.l 0)] [] [(.va 1)]))))
def a2Y:PT :=
 (.ite (.lt (.a 1) (.a 0))
 (nD (treeI (.a 1) (.slen 0))
 (lO false (.ea 0 (.a 1) 5 0) [.val,jD,jD,jD,jD]
 (.ite (.eq (.a 1) (.l 5))
  (jU 0 [(.a 0),(.l 6),(.a 2),(.a 3),(.a 4),(.a 5),(.a 6),(.a 9)] [] [(.va 0)])
  (.ite (.eq (.a 1) (.l 4))
  (jU 0 [(.a 0),(.l 5),(.a 2),(.a 3),(.a 4),(.a 5),(.a 9),(.a 7)] [] [(.va 0)])
  (.ite (.eq (.a 1) (.l 3))
   (jU 0 [(.a 0),(.l 4),(.a 2),(.a 3),(.a 4),(.a 9),(.a 6),(.a 7)] [] [(.va 0)])
   (.ite (.eq (.a 1) (.l 2))
   (jU 0 [(.a 0),(.l 3),(.a 2),(.a 3),(.a 9),(.a 5),(.a 6),(.a 7)] [] [(.va 0)])
   (.ite (.eq (.a 1) (.l 1))
    (jU 0 [(.a 0),(.l 2),(.a 2),(.a 9),(.a 4),(.a 5),(.a 6),(.a 7)] [] [(.va 0)])
    (.ite (.eq (.a 1) (.l 0))
    (jU 0 [(.a 0),(.l 1),(.a 9),(.a 3),(.a 4),(.a 5),(.a 6),(.a 7)] [] [(.va 0)])
    .stuck))))))))
 (.ret false (.agg [(jA 2),(jA 3),(jA 4),(jA 5),(jA 6),(jA 7)]) []))
def a1n:Sx.Sys:=⟨[(.sh (.one .val))],a6K,[a2Y],none,none⟩
def b6G:List Cfg:=[{todo:=[(.code (tfR 6 52)),(.inLoop (tfR 6 52)),(.inBlock 0),(.code [true,true,true])],sl:=[(.junk 0),.undef,(.ptr 0 0),(.ptr 1 0)]++jkR 1 6++[(.va 0),(jA 0),(jA 1)]++jkR 7 9++[.undef],H:=[(.cells [(jE 0),(jE 0),(jE 0),(jE 0),(jE 0),(jE 0)] 38 false),(.cells [(jA 2),(jA 3),(jA 4),(jA 5),(jA 6),(jA 7)] 38 false)],ni:=8,nb:=0,nv:=1,nj:=16}]
theorem b8D:SysOk Tryz.prog 19 a1n:=a0k (c:=(cg [(tfR 6 52)] [] [] false false false true)) (a0h _ _ _ _ _ _ _ _ _) Tryz.func19 Tryz.call19 (by kernel_rfl) b6G a1n 5000 rfl (by kernel_rfl) (by kernel_rfl) rfl
def b8P:PT :=
 (nD (.is 4 0)
 (.ite (.nil 0)
 (.ret true (jE 6) [])
 (.ite (.lt (.a 0) (.l 0))
  (.ret true (jE 4) [])
  (nD (.is 1 0)
  (lO false (.pa 0 8) [.val]
  (nD (.is 0 1)
  (.ite (.lt (.slen 1) (.a 0))
  (.ret true (jE 4) [])
  (nD (.is 1 0)
  (lO false (.pa 0 8) [.val]
  (nD (.is 0 2)
  (.ite (.eq (.a 0) (.slen 2))
   (nD (.is 1 0)
   (lO false (.pa 0 18) [.bool]
   (.ite (.a 0)
   (.ret true (jE 4) [])
   (cA 31 [(.va 0)] [] []
   (nD (.is 1 0)
   (lO false (.pa 0 8) [.val]
   (nD (.is 0 3)
   (.ite (.lt (.a 0) (.slen 3))
    (nD (.is 1 0)
    (lO false (.pa 0 8) [.val]
    (nD (treeI (.a 0) (.slen 4))
    (lO false (.ea 4 (.a 0) 9 0) [jD,jD,jD,jD,jD,jD]
    (nD (.is 1 0)
    (.storeM (.pa 0 9) [(jA 1),(jA 2),(jA 3),(jA 4),(jA 5),(jA 6)]
    (nD (.is 1 0)
    (lO false (.pa 0 8) [.val]
    (.cut 5 none (some (.a 0)) 9
    (cA 62 [(.va 6)] [] [(.one .val)]
    (nD (.is 1 0)
    (.storeM (.pa 0 8) [(.va 7)]
    (nD (.is 1 0)
    (.storeM (.pa 0 18) [(.bool (.t false))]
    (.ret true (jE 0) [])))))))))))))))
    (nD (.is 1 0)
    (.storeM (.pa 0 18) [(.bool (.t false))]
    (.ret true (jE 0) [])))))))))))
   (cA 31 [(.va 0)] [] []
   (nD (.is 1 0)
   (lO false (.pa 0 8) [.val]
   (nD (.is 0 3)
   (.ite (.lt (.a 0) (.slen 3))
   (nD (.is 1 0)
   (lO false (.pa 0 8) [.val]
   (nD (treeI (.a 0) (.slen 4))
   (lO false (.ea 4 (.a 0) 9 0) [jD,jD,jD,jD,jD,jD]
   (nD (.is 1 0)
   (.storeM (.pa 0 9) [(jA 1),(jA 2),(jA 3),(jA 4),(jA 5),(jA 6)]
   (nD (.is 1 0)
   (lO false (.pa 0 8) [.val]
   (.cut 5 none (some (.a 0)) 9
   (cA 62 [(.va 6)] [] [(.one .val)]
   (nD (.is 1 0)
   (.storeM (.pa 0 8) [(.va 7)]
   (nD (.is 1 0)
   (.storeM (.pa 0 18) [(.bool (.t false))]
   (.ret true (jE 0) [])))))))))))))))
   (nD (.is 1 0)
   (.storeM (.pa 0 18) [(.bool (.t false))]
   (.ret true (jE 0) [])))))))))))))))))))
def a5H:Sx.Sys:=⟨[(.sh (.one .val)),(.sh (.one jD))],b8P,[],none,none⟩
def b4Z:List Cfg:=[]
theorem b7U:SysOk Tryz.prog 27 a5H:=a0k (c:=(cg [] [] [(38,[])] true true false true)) (a0h _ _ _ _ _ _ _ _ _) Tryz.func27 Tryz.call27 (by kernel_rfl) b4Z a5H 5000 rfl (by kernel_rfl) (by kernel_rfl) rfl
def a2U:PT :=
 (jU 0 [(.a 10),(.l 0),(.a 0),(.a 1),(.a 2),(.a 3),(.a 4),(.a 5),(.a 6),(.a 7),(.a 8),(.a 9)] [(.a 0)] [.nilS,(.va 0),(.va 1),(.va 2),(.va 3),(.va 4),(.va 5),(.va 6),(.va 7)])
def a0G:PT :=
 (nD (.is 0 5)
 (.ite (.lt (.a 1) (.slen 5))
 (.ite (.le (.l 0) (.a 0))
  (nD (.is 0 8)
  (.ite (.lt (.a 0) (.slen 8))
  (nD (treeI (.a 1) (.slen 5))
  (nD (treeI (.a 1) (.slen 5))
  (lO true (.ea 5 (.a 1) 9 0) [jD,jD,jD,jD,jD,jD]
  (lO true (.ea 5 (.a 1) 9 6) [.val]
  (nD (treeI (.a 0) (.slen 9))
  (lO true (.ea 9 (.a 0) 6 0) [jD,jD,jD,jD,jD,jD]
  (.app none (.lit [[(jA 12),(jA 13),(jA 14),(jA 15),(jA 16),(jA 17),(jA 18),(jA 19),(jA 20),(jA 21),(jA 22),(jA 23)]]) 12
  (.app (some 0) (.va 10) 12
  (nD (treeB (jP 1))
  (jU 0 [(.a 0),(jP 1),(.a 2),(.a 3),(.a 4),(.a 5),(.a 6),(.a 7),(.a 8),(.a 9),(.a 10),(.a 11)] [(.a 0)] [(.va 11),(.va 1),(.va 2),(.va 3),(.va 4),(.va 5),(.va 6),(.va 7),(.va 8)]))))))))))
  (.ret false (.va 0) [])))
  (.ret false (.va 0) []))
 (.ret false (.va 0) [])))
def a0J:Sx.Sys:=⟨[(.sh (.agg [.val,.val,.val,.val,jD,jD,jD,jD,.val,jD,jD,jD,jD,jD,jD,.val,.val,.val,.bool])),(.sh (.one jD))],a2U,[a0G],none,none⟩
def a9A:List Cfg:=[{todo:=[(.code (tfR 6 52)),(.inLoop (tfR 6 52)),(.inBlock 0),(.code [true,true,true])],sl:=[(.junk 0),(jA 0),(.ptr 0 0),.undef,(.junk 1),(.va 0),(jA 1)]++jkR 2 37++[.undef],H:=[(.cells [(.va 1),(.va 2),(.va 3),(.va 4),(jA 2),(jA 3),(jA 4),(jA 5),(.va 5),(jA 6),(jA 7),(jA 8),(jA 9),(jA 10),(jA 11),(.va 6),(.va 7),(.va 8),(.bool (.a 0))] 42 false),(.row 0 75 12)],ni:=12,nb:=1,nv:=9,nj:=39}]
theorem b0r:SysOk Tryz.prog 35 a0J:=a0k (c:=(cg [(tfR 6 52)] [] [] false false false true)) (a0h _ _ _ _ _ _ _ _ _) Tryz.func35 Tryz.call35 (by kernel_rfl) a9A a0J 5000 rfl (by kernel_rfl) (by kernel_rfl) rfl
def a5d:PT :=
 (nD (.is 0 0)
 (.ite (.eq (.slen 0) (.l 0))
 (.ret false (jE 1) [])
 (nD (.is 0 0)
 (.ite (.lt (.l 6) (.slen 0))
  (.ret false (jE 3) [])
  (jU 0 [(.l 0)] [] [(.va 0)])))))
def a2y:PT :=
 (nD (.is 0 0)
 (.ite (.lt (.a 0) (.slen 0))
 (nD (treeI (.a 0) (.slen 0))
 (lO false (.ea 0 (.a 0) 5 0) [.val]
 (cA 76 [(.va 1)] [] [(.one .bool)]
 (.ite (.not (.a 0))
  (.ret false (jE 5) [])
  (jU 1 [(.a 0),(.l 0)] [] [(.va 0)])))))
 (jU 2 [(.l 1),(.l 0)] [] [(.va 0)])))
def a1M:PT :=
 (.ite (.lt (.a 1) (.a 0))
 (nD (treeI (.a 1) (.slen 0))
 (nD (treeI (.a 0) (.slen 0))
 (lO true (.ea 0 (.a 1) 5 0) [.val]
 (lO true (.ea 0 (.a 0) 5 0) [.val]
 (nD (.is 3 1)
 (nD (.is 3 2)
 (.ite (.seq 1 2)
  (.ret false (jE 7) [])
  (nD (treeB (jP 1))
  (jU 1 [(.a 0),(jP 1)] [] [(.va 0)])))))))))
 (nD (treeI (.a 0) (.slen 0))
 (lO false (.ea 0 (.a 0) 5 0) [.val,jD,jD,jD,jD]
 (.ite (.lt (.a 2) (.l 1))
  (.ret false (jE 4) [])
  (.ite (.lt (.l 4) (.a 2))
  (.ret false (jE 4) [])
  (.ite (.lt (.a 3) (.l 0))
   (.ret false (jE 4) [])
   (.ite (.lt (.l 1000000) (.a 3))
   (.ret false (jE 4) [])
   (.ite (.lt (.a 4) (.l 0))
    (.ret false (jE 4) [])
    (.ite (.lt (.l 1000) (.a 4))
    (.ret false (jE 4) [])
    (.ite (.lt (.a 5) (.l 0))
     (.ret false (jE 4) [])
     (.ite (.lt (.l 4) (.a 5))
     (.ret false (jE 4) [])
     (nD (treeB (jP 0))
     (jU 0 [(jP 0)] [] [(.va 0)])))))))))))))
def a2q:PT :=
 (nD (.is 0 0)
 (.ite (.lt (.a 1) (.slen 0))
 (nD (treeI (.a 1) (.slen 0))
 (lO false (.ea 0 (.a 1) 5 1) [jD]
 (nD (treeB (jP 2))
 (nD (treeB (.mul (.a 0) (jP 2)))
 (nD (treeB (jP 1))
 (jU 2 [(.mul (.a 0) (jP 2)),(jP 1)] [] [(.va 0)]))))))
 (.ite (.lt (.l 1024) (.a 0))
  (.ret false (jE 12) [])
  (.ret false (jE 0) []))))
def a0A:Sx.Sys:=⟨[(.sh (.one .val))],a5d,[a2y,a1M,a2q],none,none⟩
def b3k:List Cfg:=[{todo:=[(.code (tfR 7 116)),(.inLoop (tfR 7 116)),(.inBlock 0),(.code [true,true,true,true])],sl:=[(.va 0),.undef,(.junk 0),(jA 0),(.junk 1),(.junk 2),.undef,.undef]++jkR 3 77++udR 16,H:=[],ni:=1,nb:=0,nv:=1,nj:=80},
 {todo:=[(.code (tfR 15 29844)),(.inLoop (tfR 15 29844)),(.inBlock 2),(.code (tfR 12 3731)),(.inBlock 1),(.code (tfR 9 467)),(.inLoop (tfR 7 116)),(.inBlock 0),(.code [true,true,true,true])],sl:=[(.va 0),.undef,(.junk 0),(jA 0),(jA 1),(.junk 1),.undef,.undef]++jkR 2 77++udR 16,H:=[],ni:=2,nb:=0,nv:=1,nj:=79},
 {todo:=[(.code (tfR 9 500)),(.inLoop (tfR 9 500)),(.inBlock 4),(.code (tfR 6 63))],sl:=[(.va 0),.undef]++jkR 0 4++[(jA 0),(jA 1)]++jkR 4 91++[.undef,.undef],H:=[],ni:=2,nb:=0,nv:=1,nj:=95}]
theorem b4V:SysOk Tryz.prog 43 a0A:=a0k (c:=(cg [(tfR 7 116),(tfR 15 29844),(tfR 9 500)] [] [] false false false true)) (a0h _ _ _ _ _ _ _ _ _) Tryz.func43 Tryz.call43 (by kernel_rfl) b3k a0A 5000 rfl (by kernel_rfl) (by kernel_rfl) rfl
def a3U:PT :=
 (nD (.is 0 0)
 (.mkM (.slen 0) [(jE 0),(jE 0),(jE 0),(jE 0),(jE 0),(jE 0)] 51 6 48
 (.copyM 1 0 6
 (.ret true (.va 1) []))))
def a2G:Sx.Sys:=⟨[(.sh (.one .val))],a3U,[],none,none⟩
def b0S:List Cfg:=[]
theorem b1T:SysOk Tryz.prog 51 a2G:=a0k (c:=(cg [] [] [] true true false true)) (a0h _ _ _ _ _ _ _ _ _) Tryz.func51 Tryz.call51 (by kernel_rfl) b0S a2G 5000 rfl (by kernel_rfl) (by kernel_rfl) rfl
def b5u:PT :=
 (nD (.is 1 0)
 (nD (.is 1 0)
 (lO false (.pa 0 8) [.val]
 (nD (.is 0 1)
 (nD (treeB (.sub (.slen 1) (.l 1)))
 (lO false (.pa 0 8) [.val]
 (nD (treeI (.sub (.slen 1) (.l 1)) (.slen 2))
 (lO false (.ea 2 (.sub (.slen 1) (.l 1)) 9 7) [.val]
 (cA 51 [(.va 3)] [] [(.one .val)]
 (nD (.is 1 0)
 (lO false (.pa 0 17) [.val]
 (nD (.is 0 5)
 (jU 0 [(.slen 5),(.l 0)] [] [(.va 4),(.va 5)])))))))))))))
def b3z:PT :=
 (.ite (.lt (.a 1) (.a 0))
 (nD (treeI (.a 1) (.slen 1))
 (lO false (.ea 1 (.a 1) 1 0) [.bool]
 (.ite (.a 0)
  (nD (treeI (.a 1) (.slen 0))
  (.storeM (.ea 0 (.a 1) 6 0) [(jE 0),(jE 0),(jE 0),(jE 0),(jE 0),(jE 0)]
  (nD (treeB (jP 1))
  (jU 0 [(.a 0),(jP 1)] [] [(.va 0),(.va 1)]))))
  (nD (treeB (jP 1))
  (jU 0 [(.a 0),(jP 1)] [] [(.va 0),(.va 1)])))))
 (.ret true (.va 0) []))
def a4x:Sx.Sys:=⟨[(.sh (.one .val))],b5u,[b3z],none,none⟩
def b2i:List Cfg:=[{todo:=[(.code (tfR 6 52)),(.inLoop (tfR 6 52)),(.inBlock 0),(.code [true,true,true])],sl:=[(.junk 0),.undef,(.junk 1),(.va 0)]++jkR 2 19++[(.va 1),(jA 0),(jA 1)]++jkR 21 10++[.undef],H:=[],ni:=2,nb:=0,nv:=2,nj:=31}]
theorem b3O:SysOk Tryz.prog 59 a4x:=a0k (c:=(cg [(tfR 6 52)] [] [] true true false true)) (a0h _ _ _ _ _ _ _ _ _) Tryz.func59 Tryz.call59 (by kernel_rfl) b2i a4x 5000 rfl (by kernel_rfl) (by kernel_rfl) rfl
def a0D:PT :=
 (nD (.is 0 0)
 (.ite (.nil 0)
 (.ret false .nilS [])
 (.app none (.lit []) 5
 (.app (some 1) (.va 0) 5
 (.ret false (.va 2) [])))))
def a2Z:Sx.Sys:=⟨[(.sh (.one .val))],a0D,[],none,none⟩
def a5g:List Cfg:=[]
def a4Y:PT :=
 (cA 121 [(.va 6)] [] [(.agg [.val,.val]),(.one .bool)]
  (.ret false (.bool (.a 0)) []))
def b0T:PT :=
 (.appF 4 (.va 5) 12
  (.both a4Y a4Y))
def b0R:PT :=
 (.appF 4 (.va 5) 12
  (cA 121 [(.va 6)] [] [(.agg [.val,.val]),(.one .bool)]
  (.ret false (.bool (.a 0)) [])))
def b0W:PT :=
 (.app none (.lit [[(jA 1),(jA 2),(jA 3),(jA 4),(jA 5),(jA 6),(jA 7),(jA 8),(jA 9),(jA 10),(jA 11),(jA 12)]]) 12
 (.both b0T b0R))
def b0N:PT :=
 (.app none (.lit [[(jA 1),(jA 2),(jA 3),(jA 4),(jA 5),(jA 6),(jA 7),(jA 8),(jA 9),(jA 10),(jA 11),(jA 12)]]) 12
 (.appF 4 (.va 5) 12
 (cA 121 [(.va 6)] [] [(.agg [.val,.val]),(.one .bool)]
 (.ret false (.bool (.a 0)) []))))
def b2q:PT :=
 (nD (.is 0 4)
 (nD (.is 0 4)
 (.chk 4 12
 (.both b0W b0N))))
def a3O:Sx.Sys:=⟨[(.sh (.agg [.val,.val,.val,.val,jD,.val])),(.sh (.agg [jD,jD,jD,jD,jD,jD,jD,jD,jD,jD,jD,jD]))],b2q,[],none,none⟩
def b1d:List Cfg:=[]
theorem b1D:SysOk Tryz.prog 83 a3O:=a0k (c:=(cg [] [] [] false false false true)) (a0h _ _ _ _ _ _ _ _ _) Tryz.func83 Tryz.call83 (by kernel_rfl) b1d a3O 5000 rfl (by kernel_rfl) (by kernel_rfl) rfl
def b8U:PT :=
 (jU 0 [(.l 0),(.a 0),(.a 1),(.a 2),(.a 3),(.a 4),(.a 5),(.a 6),(.a 7),(.a 8),(.a 9),(.a 10),(.a 11),(.a 12),(.a 13),(.a 14),(.a 15),(.a 16),(.a 17),(.a 18),(.a 19),(.a 20),(.a 21),(.a 22),(.a 23)] [] [])
def b7w:PT :=
 (.ite (.lt (.a 0) (.l 6))
 (.ite (.eq (.a 0) (.l 5))
  (.ite (.lt (.a 24) (.a 18))
  (nD (treeB (.sub (.a 12) (.a 18)))
  (nD (treeB (.add (.sub (.a 12) (.a 18)) (.a 24)))
  (.ite (.lt (.add (.sub (.a 12) (.a 18)) (.a 24)) (.a 6))
   (.ret false (.bool (.t true)) [])
   (jU 0 [(.l 6),(.a 1),(.a 2),(.a 3),(.a 4),(.a 5),(.a 6),(.a 7),(.a 8),(.a 9),(.a 10),(.a 11),(.a 12),(.a 13),(.a 14),(.a 15),(.a 16),(.a 17),(.a 18),(.a 19),(.a 20),(.a 21),(.a 22),(.a 23),(.a 24)] [] []))))
  (jU 0 [(.l 6),(.a 1),(.a 2),(.a 3),(.a 4),(.a 5),(.a 6),(.a 7),(.a 8),(.a 9),(.a 10),(.a 11),(.a 12),(.a 13),(.a 14),(.a 15),(.a 16),(.a 17),(.a 18),(.a 19),(.a 20),(.a 21),(.a 22),(.a 23),(.a 24)] [] []))
  (.ite (.eq (.a 0) (.l 4))
  (.ite (.lt (.a 23) (.a 17))
   (nD (treeB (.sub (.a 11) (.a 17)))
   (nD (treeB (.add (.sub (.a 11) (.a 17)) (.a 23)))
   (.ite (.lt (.add (.sub (.a 11) (.a 17)) (.a 23)) (.a 5))
   (.ret false (.bool (.t true)) [])
   (jU 0 [(.l 5),(.a 1),(.a 2),(.a 3),(.a 4),(.a 5),(.a 6),(.a 7),(.a 8),(.a 9),(.a 10),(.a 11),(.a 12),(.a 13),(.a 14),(.a 15),(.a 16),(.a 17),(.a 18),(.a 19),(.a 20),(.a 21),(.a 22),(.a 23),(.a 24)] [] []))))
   (jU 0 [(.l 5),(.a 1),(.a 2),(.a 3),(.a 4),(.a 5),(.a 6),(.a 7),(.a 8),(.a 9),(.a 10),(.a 11),(.a 12),(.a 13),(.a 14),(.a 15),(.a 16),(.a 17),(.a 18),(.a 19),(.a 20),(.a 21),(.a 22),(.a 23),(.a 24)] [] []))
  (.ite (.eq (.a 0) (.l 3))
   (.ite (.lt (.a 22) (.a 16))
   (nD (treeB (.sub (.a 10) (.a 16)))
   (nD (treeB (.add (.sub (.a 10) (.a 16)) (.a 22)))
   (.ite (.lt (.add (.sub (.a 10) (.a 16)) (.a 22)) (.a 4))
    (.ret false (.bool (.t true)) [])
    (jU 0 [(.l 4),(.a 1),(.a 2),(.a 3),(.a 4),(.a 5),(.a 6),(.a 7),(.a 8),(.a 9),(.a 10),(.a 11),(.a 12),(.a 13),(.a 14),(.a 15),(.a 16),(.a 17),(.a 18),(.a 19),(.a 20),(.a 21),(.a 22),(.a 23),(.a 24)] [] []))))
   (jU 0 [(.l 4),(.a 1),(.a 2),(.a 3),(.a 4),(.a 5),(.a 6),(.a 7),(.a 8),(.a 9),(.a 10),(.a 11),(.a 12),(.a 13),(.a 14),(.a 15),(.a 16),(.a 17),(.a 18),(.a 19),(.a 20),(.a 21),(.a 22),(.a 23),(.a 24)] [] []))
   (.ite (.eq (.a 0) (.l 2))
   (.ite (.lt (.a 21) (.a 15))
    (nD (treeB (.sub (.a 9) (.a 15)))
    (nD (treeB (.add (.sub (.a 9) (.a 15)) (.a 21)))
    (.ite (.lt (.add (.sub (.a 9) (.a 15)) (.a 21)) (.a 3))
    (.ret false (.bool (.t true)) [])
    (jU 0 [(.l 3),(.a 1),(.a 2),(.a 3),(.a 4),(.a 5),(.a 6),(.a 7),(.a 8),(.a 9),(.a 10),(.a 11),(.a 12),(.a 13),(.a 14),(.a 15),(.a 16),(.a 17),(.a 18),(.a 19),(.a 20),(.a 21),(.a 22),(.a 23),(.a 24)] [] []))))
    (jU 0 [(.l 3),(.a 1),(.a 2),(.a 3),(.a 4),(.a 5),(.a 6),(.a 7),(.a 8),(.a 9),(.a 10),(.a 11),(.a 12),(.a 13),(.a 14),(.a 15),(.a 16),(.a 17),(.a 18),(.a 19),(.a 20),(.a 21),(.a 22),(.a 23),(.a 24)] [] []))
   (.ite (.eq (.a 0) (.l 1))
    (.ite (.lt (.a 20) (.a 14))
    (nD (treeB (.sub (.a 8) (.a 14)))
    (nD (treeB (.add (.sub (.a 8) (.a 14)) (.a 20)))
    (.ite (.lt (.add (.sub (.a 8) (.a 14)) (.a 20)) (.a 2))
     (.ret false (.bool (.t true)) [])
     (jU 0 [(.l 2),(.a 1),(.a 2),(.a 3),(.a 4),(.a 5),(.a 6),(.a 7),(.a 8),(.a 9),(.a 10),(.a 11),(.a 12),(.a 13),(.a 14),(.a 15),(.a 16),(.a 17),(.a 18),(.a 19),(.a 20),(.a 21),(.a 22),(.a 23),(.a 24)] [] []))))
    (jU 0 [(.l 2),(.a 1),(.a 2),(.a 3),(.a 4),(.a 5),(.a 6),(.a 7),(.a 8),(.a 9),(.a 10),(.a 11),(.a 12),(.a 13),(.a 14),(.a 15),(.a 16),(.a 17),(.a 18),(.a 19),(.a 20),(.a 21),(.a 22),(.a 23),(.a 24)] [] []))
    (.ite (.eq (.a 0) (.l 0))
    (.ite (.lt (.a 19) (.a 13))
     (nD (treeB (.sub (.a 7) (.a 13)))
     (nD (treeB (.add (.sub (.a 7) (.a 13)) (.a 19)))
     (.ite (.lt (.add (.sub (.a 7) (.a 13)) (.a 19)) (.a 1))
     (.ret false (.bool (.t true)) [])
     (jU 0 [(.l 1),(.a 1),(.a 2),(.a 3),(.a 4),(.a 5),(.a 6),(.a 7),(.a 8),(.a 9),(.a 10),(.a 11),(.a 12),(.a 13),(.a 14),(.a 15),(.a 16),(.a 17),(.a 18),(.a 19),(.a 20),(.a 21),(.a 22),(.a 23),(.a 24)] [] []))))
     (jU 0 [(.l 1),(.a 1),(.a 2),(.a 3),(.a 4),(.a 5),(.a 6),(.a 7),(.a 8),(.a 9),(.a 10),(.a 11),(.a 12),(.a 13),(.a 14),(.a 15),(.a 16),(.a 17),(.a 18),(.a 19),(.a 20),(.a 21),(.a 22),(.a 23),(.a 24)] [] []))
    .stuck))))))
 rF)
def a5G:Sx.Sys:=⟨[(.sh (.agg [jD,jD,jD,jD,jD,jD])),(.sh (.agg [jD,jD,jD,jD,jD,jD])),(.sh (.agg [jD,jD,jD,jD,jD,jD])),(.sh (.agg [jD,jD,jD,jD,jD,jD]))],b8U,[b7w],none,none⟩
def b5e:List Cfg:=[{todo:=[(.code (tfR 5 20)),(.inLoop (tfR 5 20)),(.inBlock 0),(.code [true,true])],sl:=jkR 0 4++[(.ptr 0 0),(.ptr 1 0),(.ptr 2 0),(.ptr 3 0),(.junk 4),(.junk 5),(jA 0)]++jkR 6 27,H:=[(.cells [(jA 1),(jA 2),(jA 3),(jA 4),(jA 5),(jA 6)] 51 false),(.cells [(jA 7),(jA 8),(jA 9),(jA 10),(jA 11),(jA 12)] 51 false),(.cells [(jA 13),(jA 14),(jA 15),(jA 16),(jA 17),(jA 18)] 51 false),(.cells [(jA 19),(jA 20),(jA 21),(jA 22),(jA 23),(jA 24)] 51 false)],ni:=25,nb:=0,nv:=0,nj:=33}]
theorem b7K:SysOk Tryz.prog 91 a5G:=a0k (c:=(cg [(tfR 5 20)] [] [] false false false true)) (a0h _ _ _ _ _ _ _ _ _) Tryz.func91 Tryz.call91 (by kernel_rfl) b5e a5G 5000 rfl (by kernel_rfl) (by kernel_rfl) rfl
def a8U:PT :=
 (.ite (.le (.a 1) (.a 0))
 (.ret false (.bool (.le (.a 0) (.a 2))) [])
 rF)
def a4J:Sx.Sys:=⟨[(.sh (.one jD)),(.sh (.one jD)),(.sh (.one jD))],a8U,[],none,none⟩
def b7L:List Cfg:=[]
theorem b9U:SysOk Tryz.prog 99 a4J:=a0k (c:=(cg [] [] [] false false false true)) (a0h _ _ _ _ _ _ _ _ _) Tryz.func99 Tryz.call99 (by kernel_rfl) b7L a4J 5000 rfl (by kernel_rfl) (by kernel_rfl) rfl
def c3C:PT :=
 (cA 57 [(.va 0)] [] [(.agg [jD,jD,jD,jD,jD,jD])]
 (nD (.is 0 3)
 (jU 0 [(.slen 3),(.l 0),(.a 0),(.a 1),(.a 2),(.a 3),(.a 4),(.a 5),(.l 0),(.l 0),(.l 0),(.l 0),(.l 0),(.l 0)] [] [(.va 3),(.va 0),(.va 1),(.va 2)])))
def c2D:PT :=
 (.ite (.lt (.a 1) (.a 0))
 (nD (treeI (.a 1) (.slen 0))
 (lO false (.ea 0 (.a 1) 3 0) [jD,jD,jD]
 (.ite (.eq (.a 14) (.l 5))
  (nD (treeB (.sub (.a 7) (.a 16)))
  (.ite (.eq (.a 14) (.l 5))
  (nD (treeB (jP 1))
  (jU 0 [(.a 0),(jP 1),(.a 2),(.a 3),(.a 4),(.a 5),(.a 6),(.sub (.a 7) (.a 16)),(.a 8),(.a 9),(.a 10),(.a 11),(.a 12),(.a 15)] [] [(.va 0),(.va 1),(.va 2),(.va 3)]))
  (.ite (.eq (.a 14) (.l 4))
   (nD (treeB (jP 1))
   (jU 0 [(.a 0),(jP 1),(.a 2),(.a 3),(.a 4),(.a 5),(.a 6),(.sub (.a 7) (.a 16)),(.a 8),(.a 9),(.a 10),(.a 11),(.a 15),(.a 13)] [] [(.va 0),(.va 1),(.va 2),(.va 3)]))
   (.ite (.eq (.a 14) (.l 3))
   (nD (treeB (jP 1))
   (jU 0 [(.a 0),(jP 1),(.a 2),(.a 3),(.a 4),(.a 5),(.a 6),(.sub (.a 7) (.a 16)),(.a 8),(.a 9),(.a 10),(.a 15),(.a 12),(.a 13)] [] [(.va 0),(.va 1),(.va 2),(.va 3)]))
   (.ite (.eq (.a 14) (.l 2))
    (nD (treeB (jP 1))
    (jU 0 [(.a 0),(jP 1),(.a 2),(.a 3),(.a 4),(.a 5),(.a 6),(.sub (.a 7) (.a 16)),(.a 8),(.a 9),(.a 15),(.a 11),(.a 12),(.a 13)] [] [(.va 0),(.va 1),(.va 2),(.va 3)]))
    (.ite (.eq (.a 14) (.l 1))
    (nD (treeB (jP 1))
    (jU 0 [(.a 0),(jP 1),(.a 2),(.a 3),(.a 4),(.a 5),(.a 6),(.sub (.a 7) (.a 16)),(.a 8),(.a 15),(.a 10),(.a 11),(.a 12),(.a 13)] [] [(.va 0),(.va 1),(.va 2),(.va 3)]))
    (.ite (.eq (.a 14) (.l 0))
     (nD (treeB (jP 1))
     (jU 0 [(.a 0),(jP 1),(.a 2),(.a 3),(.a 4),(.a 5),(.a 6),(.sub (.a 7) (.a 16)),(.a 15),(.a 9),(.a 10),(.a 11),(.a 12),(.a 13)] [] [(.va 0),(.va 1),(.va 2),(.va 3)]))
     .stuck)))))))
  (.ite (.eq (.a 14) (.l 4))
  (nD (treeB (.sub (.a 6) (.a 16)))
  (.ite (.eq (.a 14) (.l 5))
   (nD (treeB (jP 1))
   (jU 0 [(.a 0),(jP 1),(.a 2),(.a 3),(.a 4),(.a 5),(.sub (.a 6) (.a 16)),(.a 7),(.a 8),(.a 9),(.a 10),(.a 11),(.a 12),(.a 15)] [] [(.va 0),(.va 1),(.va 2),(.va 3)]))
   (.ite (.eq (.a 14) (.l 4))
   (nD (treeB (jP 1))
   (jU 0 [(.a 0),(jP 1),(.a 2),(.a 3),(.a 4),(.a 5),(.sub (.a 6) (.a 16)),(.a 7),(.a 8),(.a 9),(.a 10),(.a 11),(.a 15),(.a 13)] [] [(.va 0),(.va 1),(.va 2),(.va 3)]))
   (.ite (.eq (.a 14) (.l 3))
    (nD (treeB (jP 1))
    (jU 0 [(.a 0),(jP 1),(.a 2),(.a 3),(.a 4),(.a 5),(.sub (.a 6) (.a 16)),(.a 7),(.a 8),(.a 9),(.a 10),(.a 15),(.a 12),(.a 13)] [] [(.va 0),(.va 1),(.va 2),(.va 3)]))
    (.ite (.eq (.a 14) (.l 2))
    (nD (treeB (jP 1))
    (jU 0 [(.a 0),(jP 1),(.a 2),(.a 3),(.a 4),(.a 5),(.sub (.a 6) (.a 16)),(.a 7),(.a 8),(.a 9),(.a 15),(.a 11),(.a 12),(.a 13)] [] [(.va 0),(.va 1),(.va 2),(.va 3)]))
    (.ite (.eq (.a 14) (.l 1))
     (nD (treeB (jP 1))
     (jU 0 [(.a 0),(jP 1),(.a 2),(.a 3),(.a 4),(.a 5),(.sub (.a 6) (.a 16)),(.a 7),(.a 8),(.a 15),(.a 10),(.a 11),(.a 12),(.a 13)] [] [(.va 0),(.va 1),(.va 2),(.va 3)]))
     (.ite (.eq (.a 14) (.l 0))
     (nD (treeB (jP 1))
     (jU 0 [(.a 0),(jP 1),(.a 2),(.a 3),(.a 4),(.a 5),(.sub (.a 6) (.a 16)),(.a 7),(.a 15),(.a 9),(.a 10),(.a 11),(.a 12),(.a 13)] [] [(.va 0),(.va 1),(.va 2),(.va 3)]))
     .stuck)))))))
  (.ite (.eq (.a 14) (.l 3))
   (nD (treeB (.sub (.a 5) (.a 16)))
   (.ite (.eq (.a 14) (.l 5))
   (nD (treeB (jP 1))
   (jU 0 [(.a 0),(jP 1),(.a 2),(.a 3),(.a 4),(.sub (.a 5) (.a 16)),(.a 6),(.a 7),(.a 8),(.a 9),(.a 10),(.a 11),(.a 12),(.a 15)] [] [(.va 0),(.va 1),(.va 2),(.va 3)]))
   (.ite (.eq (.a 14) (.l 4))
    (nD (treeB (jP 1))
    (jU 0 [(.a 0),(jP 1),(.a 2),(.a 3),(.a 4),(.sub (.a 5) (.a 16)),(.a 6),(.a 7),(.a 8),(.a 9),(.a 10),(.a 11),(.a 15),(.a 13)] [] [(.va 0),(.va 1),(.va 2),(.va 3)]))
    (.ite (.eq (.a 14) (.l 3))
    (nD (treeB (jP 1))
    (jU 0 [(.a 0),(jP 1),(.a 2),(.a 3),(.a 4),(.sub (.a 5) (.a 16)),(.a 6),(.a 7),(.a 8),(.a 9),(.a 10),(.a 15),(.a 12),(.a 13)] [] [(.va 0),(.va 1),(.va 2),(.va 3)]))
    (.ite (.eq (.a 14) (.l 2))
     (nD (treeB (jP 1))
     (jU 0 [(.a 0),(jP 1),(.a 2),(.a 3),(.a 4),(.sub (.a 5) (.a 16)),(.a 6),(.a 7),(.a 8),(.a 9),(.a 15),(.a 11),(.a 12),(.a 13)] [] [(.va 0),(.va 1),(.va 2),(.va 3)]))
     (.ite (.eq (.a 14) (.l 1))
     (nD (treeB (jP 1))
     (jU 0 [(.a 0),(jP 1),(.a 2),(.a 3),(.a 4),(.sub (.a 5) (.a 16)),(.a 6),(.a 7),(.a 8),(.a 15),(.a 10),(.a 11),(.a 12),(.a 13)] [] [(.va 0),(.va 1),(.va 2),(.va 3)]))
     (.ite (.eq (.a 14) (.l 0))
      (nD (treeB (jP 1))
      (jU 0 [(.a 0),(jP 1),(.a 2),(.a 3),(.a 4),(.sub (.a 5) (.a 16)),(.a 6),(.a 7),(.a 15),(.a 9),(.a 10),(.a 11),(.a 12),(.a 13)] [] [(.va 0),(.va 1),(.va 2),(.va 3)]))
      .stuck)))))))
   (.ite (.eq (.a 14) (.l 2))
   (nD (treeB (.sub (.a 4) (.a 16)))
   (.ite (.eq (.a 14) (.l 5))
    (nD (treeB (jP 1))
    (jU 0 [(.a 0),(jP 1),(.a 2),(.a 3),(.sub (.a 4) (.a 16)),(.a 5),(.a 6),(.a 7),(.a 8),(.a 9),(.a 10),(.a 11),(.a 12),(.a 15)] [] [(.va 0),(.va 1),(.va 2),(.va 3)]))
    (.ite (.eq (.a 14) (.l 4))
    (nD (treeB (jP 1))
    (jU 0 [(.a 0),(jP 1),(.a 2),(.a 3),(.sub (.a 4) (.a 16)),(.a 5),(.a 6),(.a 7),(.a 8),(.a 9),(.a 10),(.a 11),(.a 15),(.a 13)] [] [(.va 0),(.va 1),(.va 2),(.va 3)]))
    (.ite (.eq (.a 14) (.l 3))
     (nD (treeB (jP 1))
     (jU 0 [(.a 0),(jP 1),(.a 2),(.a 3),(.sub (.a 4) (.a 16)),(.a 5),(.a 6),(.a 7),(.a 8),(.a 9),(.a 10),(.a 15),(.a 12),(.a 13)] [] [(.va 0),(.va 1),(.va 2),(.va 3)]))
     (.ite (.eq (.a 14) (.l 2))
     (nD (treeB (jP 1))
     (jU 0 [(.a 0),(jP 1),(.a 2),(.a 3),(.sub (.a 4) (.a 16)),(.a 5),(.a 6),(.a 7),(.a 8),(.a 9),(.a 15),(.a 11),(.a 12),(.a 13)] [] [(.va 0),(.va 1),(.va 2),(.va 3)]))
     (.ite (.eq (.a 14) (.l 1))
      (nD (treeB (jP 1))
      (jU 0 [(.a 0),(jP 1),(.a 2),(.a 3),(.sub (.a 4) (.a 16)),(.a 5),(.a 6),(.a 7),(.a 8),(.a 15),(.a 10),(.a 11),(.a 12),(.a 13)] [] [(.va 0),(.va 1),(.va 2),(.va 3)]))
      (.ite (.eq (.a 14) (.l 0))
      (nD (treeB (jP 1))
      (jU 0 [(.a 0),(jP 1),(.a 2),(.a 3),(.sub (.a 4) (.a 16)),(.a 5),(.a 6),(.a 7),(.a 15),(.a 9),(.a 10),(.a 11),(.a 12),(.a 13)] [] [(.va 0),(.va 1),(.va 2),(.va 3)]))
      .stuck)))))))
   (.ite (.eq (.a 14) (.l 1))
    (nD (treeB (.sub (.a 3) (.a 16)))
    (.ite (.eq (.a 14) (.l 5))
    (nD (treeB (jP 1))
    (jU 0 [(.a 0),(jP 1),(.a 2),(.sub (.a 3) (.a 16)),(.a 4),(.a 5),(.a 6),(.a 7),(.a 8),(.a 9),(.a 10),(.a 11),(.a 12),(.a 15)] [] [(.va 0),(.va 1),(.va 2),(.va 3)]))
    (.ite (.eq (.a 14) (.l 4))
     (nD (treeB (jP 1))
     (jU 0 [(.a 0),(jP 1),(.a 2),(.sub (.a 3) (.a 16)),(.a 4),(.a 5),(.a 6),(.a 7),(.a 8),(.a 9),(.a 10),(.a 11),(.a 15),(.a 13)] [] [(.va 0),(.va 1),(.va 2),(.va 3)]))
     (.ite (.eq (.a 14) (.l 3))
     (nD (treeB (jP 1))
     (jU 0 [(.a 0),(jP 1),(.a 2),(.sub (.a 3) (.a 16)),(.a 4),(.a 5),(.a 6),(.a 7),(.a 8),(.a 9),(.a 10),(.a 15),(.a 12),(.a 13)] [] [(.va 0),(.va 1),(.va 2),(.va 3)]))
     (.ite (.eq (.a 14) (.l 2))
      (nD (treeB (jP 1))
      (jU 0 [(.a 0),(jP 1),(.a 2),(.sub (.a 3) (.a 16)),(.a 4),(.a 5),(.a 6),(.a 7),(.a 8),(.a 9),(.a 15),(.a 11),(.a 12),(.a 13)] [] [(.va 0),(.va 1),(.va 2),(.va 3)]))
      (.ite (.eq (.a 14) (.l 1))
      (nD (treeB (jP 1))
      (jU 0 [(.a 0),(jP 1),(.a 2),(.sub (.a 3) (.a 16)),(.a 4),(.a 5),(.a 6),(.a 7),(.a 8),(.a 15),(.a 10),(.a 11),(.a 12),(.a 13)] [] [(.va 0),(.va 1),(.va 2),(.va 3)]))
      (.ite (.eq (.a 14) (.l 0))
       (nD (treeB (jP 1))
       (jU 0 [(.a 0),(jP 1),(.a 2),(.sub (.a 3) (.a 16)),(.a 4),(.a 5),(.a 6),(.a 7),(.a 15),(.a 9),(.a 10),(.a 11),(.a 12),(.a 13)] [] [(.va 0),(.va 1),(.va 2),(.va 3)]))
       .stuck)))))))
    (.ite (.eq (.a 14) (.l 0))
    (nD (treeB (.sub (.a 2) (.a 16)))
    (.ite (.eq (.a 14) (.l 5))
     (nD (treeB (jP 1))
     (jU 0 [(.a 0),(jP 1),(.sub (.a 2) (.a 16)),(.a 3),(.a 4),(.a 5),(.a 6),(.a 7),(.a 8),(.a 9),(.a 10),(.a 11),(.a 12),(.a 15)] [] [(.va 0),(.va 1),(.va 2),(.va 3)]))
     (.ite (.eq (.a 14) (.l 4))
     (nD (treeB (jP 1))
     (jU 0 [(.a 0),(jP 1),(.sub (.a 2) (.a 16)),(.a 3),(.a 4),(.a 5),(.a 6),(.a 7),(.a 8),(.a 9),(.a 10),(.a 11),(.a 15),(.a 13)] [] [(.va 0),(.va 1),(.va 2),(.va 3)]))
     (.ite (.eq (.a 14) (.l 3))
      (nD (treeB (jP 1))
      (jU 0 [(.a 0),(jP 1),(.sub (.a 2) (.a 16)),(.a 3),(.a 4),(.a 5),(.a 6),(.a 7),(.a 8),(.a 9),(.a 10),(.a 15),(.a 12),(.a 13)] [] [(.va 0),(.va 1),(.va 2),(.va 3)]))
      (.ite (.eq (.a 14) (.l 2))
      (nD (treeB (jP 1))
      (jU 0 [(.a 0),(jP 1),(.sub (.a 2) (.a 16)),(.a 3),(.a 4),(.a 5),(.a 6),(.a 7),(.a 8),(.a 9),(.a 15),(.a 11),(.a 12),(.a 13)] [] [(.va 0),(.va 1),(.va 2),(.va 3)]))
      (.ite (.eq (.a 14) (.l 1))
       (nD (treeB (jP 1))
       (jU 0 [(.a 0),(jP 1),(.sub (.a 2) (.a 16)),(.a 3),(.a 4),(.a 5),(.a 6),(.a 7),(.a 8),(.a 15),(.a 10),(.a 11),(.a 12),(.a 13)] [] [(.va 0),(.va 1),(.va 2),(.va 3)]))
       (.ite (.eq (.a 14) (.l 0))
       (nD (treeB (jP 1))
       (jU 0 [(.a 0),(jP 1),(.sub (.a 2) (.a 16)),(.a 3),(.a 4),(.a 5),(.a 6),(.a 7),(.a 15),(.a 9),(.a 10),(.a 11),(.a 12),(.a 13)] [] [(.va 0),(.va 1),(.va 2),(.va 3)]))
       .stuck)))))))
    .stuck))))))))
 (.ret false (.tup [(.agg [(jA 2),(jA 3),(jA 4),(jA 5),(jA 6),(jA 7)]),(.agg [(jA 8),(jA 9),(jA 10),(jA 11),(jA 12),(jA 13)])]) []))
def b0L:Sx.Sys:=⟨[(.sh (.agg [.val,.val,.val,.val]))],c3C,[c2D],none,none⟩
def c0J:List Cfg:=[{todo:=[(.code (tfR 6 52)),(.inLoop (tfR 6 52)),(.inBlock 0),(.code [true,true,true])],sl:=[(.junk 0),(.junk 1),(.ptr 1 0),(.ptr 2 0),.undef]++jkR 2 5++[(.va 0),(jA 0),(jA 1)]++jkR 7 17++[.undef,.undef],H:=[(.cells [(.va 1),(.va 2),(.va 3),(.va 0)] 27 false),(.cells [(jA 2),(jA 3),(jA 4),(jA 5),(jA 6),(jA 7)] 51 false),(.cells [(jA 8),(jA 9),(jA 10),(jA 11),(jA 12),(jA 13)] 51 false)],ni:=14,nb:=0,nv:=4,nj:=24}]
theorem c3u:SysOk Tryz.prog 115 b0L:=a0k (c:=(cg [(tfR 6 52)] [] [] false false false true)) (a0h _ _ _ _ _ _ _ _ _) Tryz.func115 Tryz.call115 (by kernel_rfl) c0J b0L 5000 rfl (by kernel_rfl) (by kernel_rfl) rfl
def c3E:PT :=
 (cA 136 [(jA 0)] [] [(.one .bool)]
 (.ite (.not (.a 0))
 (.ret false (jE 4) [])
 (.ret false (jE 0) [])))
def b1j:Sx.Sys:=⟨[(.sh (.one jD))],c3E,[],none,none⟩
def c0O:List Cfg:=[]
theorem c2Q:SysOk Tryz.prog 123 b1j:=a0k (c:=(cg [] [] [] false false false true)) (a0h _ _ _ _ _ _ _ _ _) Tryz.func123 Tryz.call123 (by kernel_rfl) c0O b1j 5000 rfl (by kernel_rfl) (by kernel_rfl) rfl
def b8G:PT :=
 (cA 63 [(.va 0)] [] [(.one jD)]
 (.ite (.not (.eq (.a 6) (.l 0)))
 (.ret false (jE 0) [])
 (cA 85 [(.agg [(jA 0),(jA 1),(jA 2),(jA 3),(jA 4),(jA 5)])] [] [(.one jD)]
 (.ite (.not (.eq (.a 7) (.l 0)))
  (.ret false (jE 0) [])
  (nD (.is 0 0)
  (jU 0 [(.l 0),(.slen 0),(.l 0),(.a 0),(.a 1),(.a 2),(.a 3),(.a 4),(.a 5)] [] [(.va 1),(.va 0)]))))))
def b7r:PT :=
 (.ite (.lt (.a 2) (.a 1))
 (nD (treeI (.a 2) (.slen 1))
 (lO false (.ea 1 (.a 2) 5 0) [.val,jD,jD,jD,jD]
 (.ite (.eq (.a 2) (.l 5))
  (.callv 0 [(.agg [(.va 2),(jA 9),(jA 10),(jA 11),(jA 12)])] [(.one jD)]
  (nD (treeB (.mul (.a 8) (.a 13)))
  (nD (treeB (.add (.a 0) (.mul (.a 8) (.a 13))))
  (jU 0 [(.add (.a 0) (.mul (.a 8) (.a 13))),(.a 1),(.l 6),(.a 3),(.a 4),(.a 5),(.a 6),(.a 7),(.a 8)] [] [(.va 0),(.va 1)]))))
  (.ite (.eq (.a 2) (.l 4))
  (.callv 0 [(.agg [(.va 2),(jA 9),(jA 10),(jA 11),(jA 12)])] [(.one jD)]
  (nD (treeB (.mul (.a 7) (.a 13)))
  (nD (treeB (.add (.a 0) (.mul (.a 7) (.a 13))))
  (jU 0 [(.add (.a 0) (.mul (.a 7) (.a 13))),(.a 1),(.l 5),(.a 3),(.a 4),(.a 5),(.a 6),(.a 7),(.a 8)] [] [(.va 0),(.va 1)]))))
  (.ite (.eq (.a 2) (.l 3))
   (.callv 0 [(.agg [(.va 2),(jA 9),(jA 10),(jA 11),(jA 12)])] [(.one jD)]
   (nD (treeB (.mul (.a 6) (.a 13)))
   (nD (treeB (.add (.a 0) (.mul (.a 6) (.a 13))))
   (jU 0 [(.add (.a 0) (.mul (.a 6) (.a 13))),(.a 1),(.l 4),(.a 3),(.a 4),(.a 5),(.a 6),(.a 7),(.a 8)] [] [(.va 0),(.va 1)]))))
   (.ite (.eq (.a 2) (.l 2))
   (.callv 0 [(.agg [(.va 2),(jA 9),(jA 10),(jA 11),(jA 12)])] [(.one jD)]
   (nD (treeB (.mul (.a 5) (.a 13)))
   (nD (treeB (.add (.a 0) (.mul (.a 5) (.a 13))))
   (jU 0 [(.add (.a 0) (.mul (.a 5) (.a 13))),(.a 1),(.l 3),(.a 3),(.a 4),(.a 5),(.a 6),(.a 7),(.a 8)] [] [(.va 0),(.va 1)]))))
   (.ite (.eq (.a 2) (.l 1))
    (.callv 0 [(.agg [(.va 2),(jA 9),(jA 10),(jA 11),(jA 12)])] [(.one jD)]
    (nD (treeB (.mul (.a 4) (.a 13)))
    (nD (treeB (.add (.a 0) (.mul (.a 4) (.a 13))))
    (jU 0 [(.add (.a 0) (.mul (.a 4) (.a 13))),(.a 1),(.l 2),(.a 3),(.a 4),(.a 5),(.a 6),(.a 7),(.a 8)] [] [(.va 0),(.va 1)]))))
    (.ite (.eq (.a 2) (.l 0))
    (.callv 0 [(.agg [(.va 2),(jA 9),(jA 10),(jA 11),(jA 12)])] [(.one jD)]
    (nD (treeB (.mul (.a 3) (.a 13)))
    (nD (treeB (.add (.a 0) (.mul (.a 3) (.a 13))))
    (jU 0 [(.add (.a 0) (.mul (.a 3) (.a 13))),(.a 1),(.l 1),(.a 3),(.a 4),(.a 5),(.a 6),(.a 7),(.a 8)] [] [(.va 0),(.va 1)]))))
    .stuck))))))))
 (.ret false (jA 0) []))
def a5S:Sx.Sys:=⟨[(.sh (.agg [.val,jD,jD,jD,jD,jD,jD])),(.sh (.one .val))],b8G,[b7r],none,none⟩
def b4G:List Cfg:=[{todo:=[(.code (tfR 7 116)),(.inLoop (tfR 7 116)),(.inBlock 0),(.code [true,true,true,true])],sl:=[(.junk 0),(.va 0),(.ptr 0 0),.undef,(.junk 1),(jA 0)]++jkR 2 13++[(.va 1),(jA 1),(jA 2)]++jkR 15 15++[.undef],H:=[(.cells [(.va 1),(jA 3),(jA 4),(jA 5),(jA 6),(jA 7),(jA 8)] 173 false)],ni:=9,nb:=0,nv:=2,nj:=30}]
theorem b7m:SysOk Tryz.prog 131 a5S:=a0k (c:=(cg [(tfR 7 116)] [] [(31,[2])] false false false true)) (a0h _ _ _ _ _ _ _ _ _) Tryz.func131 Tryz.call131 (by kernel_rfl) b4G a5S 5000 rfl (by kernel_rfl) (by kernel_rfl) rfl
def c2b:PT :=
 (.ite (.lt (.a 0) (.l 0))
 rF
 (.ite (.lt (.l 1000000) (.a 0))
  rF
  (.ite (.lt (.a 1) (.l 0))
  rF
  (.ite (.lt (.l 1000000) (.a 1))
   rF
   (.ite (.lt (.a 2) (.l 0))
   rF
   (.ite (.lt (.l 1000000) (.a 2))
    rF
    (.ite (.lt (.a 3) (.l 0))
    rF
    (.ite (.lt (.l 1000000) (.a 3))
     rF
     (.ite (.lt (.a 4) (.l 0))
     rF
     (.ite (.lt (.l 1000000) (.a 4))
      rF
      (.ite (.lt (.a 5) (.l 0))
      rF
      (.ite (.lt (.l 1000000) (.a 5))
       rF
       (cA 85 [(.agg [(jA 6),(jA 7),(jA 8),(jA 9),(jA 10),(jA 11)])] [] [(.one jD)]
       (.ret false (.bool (.eq (.a 12) (.l 0))) []))))))))))))))
def a9G:Sx.Sys:=⟨[(.sh (.agg [jD,jD,jD,jD,jD,jD,jD,jD,jD,jD,jD,jD]))],c2b,[],none,none⟩
def b8y:List Cfg:=[]
theorem c0P:SysOk Tryz.prog 139 a9G:=a0k (c:=(cg [] [] [] false false false true)) (a0h _ _ _ _ _ _ _ _ _) Tryz.func139 Tryz.call139 (by kernel_rfl) b8y a9G 5000 rfl (by kernel_rfl) (by kernel_rfl) rfl
def a5m:PT :=
 (nD (.is 4 0)
 (.ite (.nil 0)
 (.ret true .nilS [])
 (nD (.is 1 0)
 (lO false (.pa 0 8) [.val]
 (cA 45 [(.va 1),(.fn 46 0 [])] [] [(.one .val)]
 (.ret true (.va 2) []))))))
def a3T:Sx.Sys:=⟨[(.sh (.one .val))],a5m,[],none,none⟩
def b3A:List Cfg:=[]
theorem b6K:SysOk Tryz.prog 20 a3T:=a0k (c:=(cg [] [] [] true true false true)) (a0h _ _ _ _ _ _ _ _ _) Tryz.func20 Tryz.call20 (by kernel_rfl) b3A a3T 5000 rfl (by kernel_rfl) (by kernel_rfl) rfl
def b1L:PT :=
 (cA 63 [(.va 0)] [] [(.one jD)]
 (.ite (.not (.eq (.a 0) (.l 0)))
 (.ret false (jA 0) [])
 (cA 64 [(.va 1)] [] [(.one jD)]
 (.ite (.not (.eq (.a 1) (.l 0)))
  (.ret false (jA 1) [])
  (cA 65 [(.agg [(.va 0),(.va 1),(.va 2),(.va 3)])] [] [(.one jD)]
  (.ite (.not (.eq (.a 2) (.l 0)))
  (.ret false (jA 2) [])
  (cA 66 [(.agg [(.va 0),(.va 1),(.va 2),(.va 3)])] [] [(.one jD)]
  (.ret false (jA 3) []))))))))
def a9z:Sx.Sys:=⟨[(.sh (.agg [.val,.val,.val,.val]))],b1L,[],none,none⟩
def c1R:List Cfg:=[]
theorem c4e:SysOk Tryz.prog 28 a9z:=a0k (c:=(cg [] [] [] false false false true)) (a0h _ _ _ _ _ _ _ _ _) Tryz.func28 Tryz.call28 (by kernel_rfl) c1R a9z 5000 rfl (by kernel_rfl) (by kernel_rfl) rfl
def a4M:PT :=
 (nD (.is 0 0)
 (.ite (.eq (.slen 0) (.l 0))
 (.ret false (jE 1) [])
 (nD (.is 0 0)
 (.ite (.lt (.l 8) (.slen 0))
  (.ret false (jE 3) [])
  (jU 0 [(.l 0)] [] [(.va 0)])))))
def a2o:PT :=
 (nD (.is 0 0)
 (.ite (.lt (.a 0) (.slen 0))
 (nD (treeI (.a 0) (.slen 0))
 (lO false (.ea 0 (.a 0) 4 0) [.val]
 (cA 77 [(.va 1)] [] [(.one .bool)]
 (.ite (.not (.a 0))
  (.ret false (jE 5) [])
  (nD (treeI (.a 0) (.slen 0))
  (lO false (.ea 0 (.a 0) 4 0) [.val]
  (cA 78 [(.va 0),(.va 2)] [] [(.one jD),(.one .bool)]
  (.ite (.not (.eq (.a 1) (.a 0)))
  (.ret false (jE 7) [])
  (nD (treeI (.a 0) (.slen 0))
  (lO false (.ea 0 (.a 0) 4 1) [jD]
  (.ite (.lt (.a 2) (.l 0))
   (.ret false (jE 4) [])
   (nD (treeI (.a 0) (.slen 0))
   (lO false (.ea 0 (.a 0) 4 1) [jD]
   (.ite (.lt (.l 4) (.a 3))
   (.ret false (jE 4) [])
   (nD (treeI (.a 0) (.slen 0))
   (lO false (.ea 0 (.a 0) 4 2) [jD]
   (.ite (.lt (.a 4) (.l 0))
    (.ret false (jE 4) [])
    (nD (treeI (.a 0) (.slen 0))
    (lO false (.ea 0 (.a 0) 4 2) [jD]
    (.ite (.lt (.l 1000000) (.a 5))
    (.ret false (jE 4) [])
    (nD (treeI (.a 0) (.slen 0))
    (lO false (.ea 0 (.a 0) 4 3) [jD]
    (.ite (.lt (.a 6) (.l 0))
     (.ret false (jE 4) [])
     (nD (treeI (.a 0) (.slen 0))
     (lO false (.ea 0 (.a 0) 4 3) [jD]
     (.ite (.lt (.l 24000) (.a 7))
     (.ret false (jE 4) [])
     (nD (treeB (jP 0))
     (jU 0 [(jP 0)] [] [(.va 0)]))))))))))))))))))))))))))))
 (.ret false (jE 0) [])))
def a1F:Sx.Sys:=⟨[(.sh (.one .val))],a4M,[a2o],none,none⟩
def b2J:List Cfg:=[{todo:=[(.code (tfR 7 116)),(.inLoop (tfR 7 116)),(.inBlock 0),(.code [true,true,true,true])],sl:=[(.va 0),.undef,(.junk 0),(jA 0)]++jkR 1 80,H:=[],ni:=1,nb:=0,nv:=1,nj:=81}]
theorem b4H:SysOk Tryz.prog 44 a1F:=a0k (c:=(cg [(tfR 7 116)] [] [] false false false true)) (a0h _ _ _ _ _ _ _ _ _) Tryz.func44 Tryz.call44 (by kernel_rfl) b2J a1F 5000 rfl (by kernel_rfl) (by kernel_rfl) rfl
def a5P:PT :=
 (nD (.is 0 0)
 (.mkM (.slen 0) [(.bool (.t false))] 4 1 1
 (.copyM 1 0 1
 (.ret true (.va 1) []))))
def a4e:Sx.Sys:=⟨[(.sh (.one .val))],a5P,[],none,none⟩
def b5N:List Cfg:=[]
theorem b8b:SysOk Tryz.prog 52 a4e:=a0k (c:=(cg [] [] [] true true false true)) (a0h _ _ _ _ _ _ _ _ _) Tryz.func52 Tryz.call52 (by kernel_rfl) b5N a4e 5000 rfl (by kernel_rfl) (by kernel_rfl) rfl
def c3N:PT :=
 (cA 94 [(.va 0)] [] [(.agg [jD,jD,jD,jD,jD,jD])]
 (cA 93 [(.agg [(jA 6),(jA 7),(jA 8),(jA 9),(jA 10),(jA 11)]),(.agg [(jA 0),(jA 1),(jA 2),(jA 3),(jA 4),(jA 5)])] [] [(.agg [jD,jD,jD,jD,jD,jD])]
 (.ret false (.agg [(jA 12),(jA 13),(jA 14),(jA 15),(jA 16),(jA 17)]) [])))
def b0Q:Sx.Sys:=⟨[(.sh (.agg [jD,jD,jD,jD,jD,jD])),(.sh (.one .val))],c3N,[],none,none⟩
def c0I:List Cfg:=[]
theorem c3i:SysOk Tryz.prog 60 b0Q:=a0k (c:=(cg [] [] [] true false false true)) (a0h _ _ _ _ _ _ _ _ _) Tryz.func60 Tryz.call60 (by kernel_rfl) c0I b0Q 5000 rfl (by kernel_rfl) (by kernel_rfl) rfl
def a0L:PT :=
 (nD (.is 0 0)
 (.ite (.nil 0)
 (.ret false .nilS [])
 (.app none (.lit []) 4
 (.app (some 1) (.va 0) 4
 (.ret false (.va 2) [])))))
def a3r:Sx.Sys:=⟨[(.sh (.one .val))],a0L,[],none,none⟩
def a5D:List Cfg:=[]
def a4E:PT :=
 (nD (.is 3 0)
 (.ite (.lt (.stl 0) (.l 1))
 rF
 (nD (.is 3 0)
 (.ite (.lt (.l 12) (.stl 0))
  rF
  (jU 0 [(.l 0)] [] [(.va 0)])))))
def a2f:PT :=
 (nD (.is 3 0)
 (.ite (.lt (.a 0) (.stl 0))
 (nD (.is 3 0)
 (nD (treeI (.a 0) (.stl 0))
 (.ite (.le (.l 97) (.sat 0 (.a 0)))
  (nD (.is 3 0)
  (nD (treeI (.a 0) (.stl 0))
  (.ite (.not (.le (.sat 0 (.a 0)) (.l 122)))
  (.ite (.eq (.a 0) (.l 0))
   rF
   (nD (.is 3 0)
   (nD (treeI (.a 0) (.stl 0))
   (.ite (.not (.eq (.sat 0 (.a 0)) (.l 95)))
   (nD (.is 3 0)
   (nD (treeI (.a 0) (.stl 0))
   (.ite (.lt (.sat 0 (.a 0)) (.l 48))
    rF
    (nD (.is 3 0)
    (nD (treeI (.a 0) (.stl 0))
    (.ite (.lt (.l 57) (.sat 0 (.a 0)))
    rF
    (nD (treeB (jP 0))
    (jU 0 [(jP 0)] [] [(.va 0)]))))))))
   (nD (treeB (jP 0))
   (jU 0 [(jP 0)] [] [(.va 0)]))))))
  (nD (treeB (jP 0))
  (jU 0 [(jP 0)] [] [(.va 0)])))))
  (.ite (.eq (.a 0) (.l 0))
  rF
  (nD (.is 3 0)
  (nD (treeI (.a 0) (.stl 0))
  (.ite (.not (.eq (.sat 0 (.a 0)) (.l 95)))
   (nD (.is 3 0)
   (nD (treeI (.a 0) (.stl 0))
   (.ite (.lt (.sat 0 (.a 0)) (.l 48))
   rF
   (nD (.is 3 0)
   (nD (treeI (.a 0) (.stl 0))
   (.ite (.lt (.l 57) (.sat 0 (.a 0)))
    rF
    (nD (treeB (jP 0))
    (jU 0 [(jP 0)] [] [(.va 0)]))))))))
   (nD (treeB (jP 0))
   (jU 0 [(jP 0)] [] [(.va 0)])))))))))
 (.ret false (.bool (.t true)) [])))
def a1x:Sx.Sys:=⟨[(.sh (.one .val))],a4E,[a2f],none,none⟩
def b2n:List Cfg:=[{todo:=[(.code (tfR 6 52)),(.inLoop (tfR 6 52)),(.inBlock 0),(.code [true,true,true])],sl:=[(.va 0),.undef,(.junk 0),(jA 0)]++jkR 1 49,H:=[],ni:=1,nb:=0,nv:=1,nj:=50}]
theorem b3y:SysOk Tryz.prog 76 a1x:=a0k (c:=(cg [(tfR 6 52)] [] [] false false false true)) (a0h _ _ _ _ _ _ _ _ _) Tryz.func76 Tryz.call76 (by kernel_rfl) b2n a1x 5000 rfl (by kernel_rfl) (by kernel_rfl) rfl
def b2f:PT :=
 (cA 82 [(.agg [(.va 0),(.va 1),(.va 2),(.va 3),(jA 0),(.va 4)]),(.agg [(jA 1),(jA 2),(jA 3),(jA 4),(jA 5),(jA 6),(jA 7),(jA 8),(jA 9),(jA 10),(jA 11),(jA 12)])] [] [(.one .bool)]
 (.ite (.a 0)
 (.ret false (.bool (.t true)) [])
 (cA 83 [(.agg [(.va 0),(.va 1),(.va 2),(.va 3),(jA 0),(.va 4)]),(.agg [(jA 1),(jA 2),(jA 3),(jA 4),(jA 5),(jA 6),(jA 7),(jA 8),(jA 9),(jA 10),(jA 11),(jA 12)])] [] [(.one .bool)]
 (.ret false (.bool (.a 1)) []))))
def a3S:Sx.Sys:=⟨[(.sh (.agg [.val,.val,.val,.val,jD,.val])),(.sh (.agg [jD,jD,jD,jD,jD,jD,jD,jD,jD,jD,jD,jD]))],b2f,[],none,none⟩
def b1b:List Cfg:=[]
theorem b1J:SysOk Tryz.prog 84 a3S:=a0k (c:=(cg [] [] [] false false false true)) (a0h _ _ _ _ _ _ _ _ _) Tryz.func84 Tryz.call84 (by kernel_rfl) b1b a3S 5000 rfl (by kernel_rfl) (by kernel_rfl) rfl
def b9e:PT :=
 (jU 0 [(.l 0),(.a 0),(.a 1),(.a 2),(.a 3),(.a 4),(.a 5),(.a 6),(.a 7),(.a 8),(.a 9),(.a 10),(.a 11),(.a 12),(.a 13),(.a 14),(.a 15),(.a 16),(.a 17),(.a 18),(.a 19),(.a 20),(.a 21),(.a 22),(.a 23)] [] [])
def b8A:PT :=
 (.ite (.lt (.a 0) (.l 6))
 (.ite (.eq (.a 0) (.l 5))
  (.ite (.lt (.a 24) (.a 18))
  (nD (treeB (.sub (.a 18) (.a 24)))
  (nD (treeB (.sub (.a 12) (.a 6)))
  (nD (treeB (.sub (.a 18) (.mn (.sub (.a 18) (.a 24)) (.mx (.sub (.a 12) (.a 6)) (.l 0)))))
  (jU 0 [(.l 6),(.a 1),(.a 2),(.a 3),(.a 4),(.a 5),(.a 6),(.a 7),(.a 8),(.a 9),(.a 10),(.a 11),(.a 12),(.a 13),(.a 14),(.a 15),(.a 16),(.a 17),(.a 18),(.a 19),(.a 20),(.a 21),(.a 22),(.a 23),(.sub (.a 18) (.mn (.sub (.a 18) (.a 24)) (.mx (.sub (.a 12) (.a 6)) (.l 0))))] [] []))))
  (jU 0 [(.l 6),(.a 1),(.a 2),(.a 3),(.a 4),(.a 5),(.a 6),(.a 7),(.a 8),(.a 9),(.a 10),(.a 11),(.a 12),(.a 13),(.a 14),(.a 15),(.a 16),(.a 17),(.a 18),(.a 19),(.a 20),(.a 21),(.a 22),(.a 23),(.a 24)] [] []))
  (.ite (.eq (.a 0) (.l 4))
  (.ite (.lt (.a 23) (.a 17))
   (nD (treeB (.sub (.a 17) (.a 23)))
   (nD (treeB (.sub (.a 11) (.a 5)))
   (nD (treeB (.sub (.a 17) (.mn (.sub (.a 17) (.a 23)) (.mx (.sub (.a 11) (.a 5)) (.l 0)))))
   (jU 0 [(.l 5),(.a 1),(.a 2),(.a 3),(.a 4),(.a 5),(.a 6),(.a 7),(.a 8),(.a 9),(.a 10),(.a 11),(.a 12),(.a 13),(.a 14),(.a 15),(.a 16),(.a 17),(.a 18),(.a 19),(.a 20),(.a 21),(.a 22),(.sub (.a 17) (.mn (.sub (.a 17) (.a 23)) (.mx (.sub (.a 11) (.a 5)) (.l 0)))),(.a 24)] [] []))))
   (jU 0 [(.l 5),(.a 1),(.a 2),(.a 3),(.a 4),(.a 5),(.a 6),(.a 7),(.a 8),(.a 9),(.a 10),(.a 11),(.a 12),(.a 13),(.a 14),(.a 15),(.a 16),(.a 17),(.a 18),(.a 19),(.a 20),(.a 21),(.a 22),(.a 23),(.a 24)] [] []))
  (.ite (.eq (.a 0) (.l 3))
   (.ite (.lt (.a 22) (.a 16))
   (nD (treeB (.sub (.a 16) (.a 22)))
   (nD (treeB (.sub (.a 10) (.a 4)))
   (nD (treeB (.sub (.a 16) (.mn (.sub (.a 16) (.a 22)) (.mx (.sub (.a 10) (.a 4)) (.l 0)))))
   (jU 0 [(.l 4),(.a 1),(.a 2),(.a 3),(.a 4),(.a 5),(.a 6),(.a 7),(.a 8),(.a 9),(.a 10),(.a 11),(.a 12),(.a 13),(.a 14),(.a 15),(.a 16),(.a 17),(.a 18),(.a 19),(.a 20),(.a 21),(.sub (.a 16) (.mn (.sub (.a 16) (.a 22)) (.mx (.sub (.a 10) (.a 4)) (.l 0)))),(.a 23),(.a 24)] [] []))))
   (jU 0 [(.l 4),(.a 1),(.a 2),(.a 3),(.a 4),(.a 5),(.a 6),(.a 7),(.a 8),(.a 9),(.a 10),(.a 11),(.a 12),(.a 13),(.a 14),(.a 15),(.a 16),(.a 17),(.a 18),(.a 19),(.a 20),(.a 21),(.a 22),(.a 23),(.a 24)] [] []))
   (.ite (.eq (.a 0) (.l 2))
   (.ite (.lt (.a 21) (.a 15))
    (nD (treeB (.sub (.a 15) (.a 21)))
    (nD (treeB (.sub (.a 9) (.a 3)))
    (nD (treeB (.sub (.a 15) (.mn (.sub (.a 15) (.a 21)) (.mx (.sub (.a 9) (.a 3)) (.l 0)))))
    (jU 0 [(.l 3),(.a 1),(.a 2),(.a 3),(.a 4),(.a 5),(.a 6),(.a 7),(.a 8),(.a 9),(.a 10),(.a 11),(.a 12),(.a 13),(.a 14),(.a 15),(.a 16),(.a 17),(.a 18),(.a 19),(.a 20),(.sub (.a 15) (.mn (.sub (.a 15) (.a 21)) (.mx (.sub (.a 9) (.a 3)) (.l 0)))),(.a 22),(.a 23),(.a 24)] [] []))))
    (jU 0 [(.l 3),(.a 1),(.a 2),(.a 3),(.a 4),(.a 5),(.a 6),(.a 7),(.a 8),(.a 9),(.a 10),(.a 11),(.a 12),(.a 13),(.a 14),(.a 15),(.a 16),(.a 17),(.a 18),(.a 19),(.a 20),(.a 21),(.a 22),(.a 23),(.a 24)] [] []))
   (.ite (.eq (.a 0) (.l 1))
    (.ite (.lt (.a 20) (.a 14))
    (nD (treeB (.sub (.a 14) (.a 20)))
    (nD (treeB (.sub (.a 8) (.a 2)))
    (nD (treeB (.sub (.a 14) (.mn (.sub (.a 14) (.a 20)) (.mx (.sub (.a 8) (.a 2)) (.l 0)))))
    (jU 0 [(.l 2),(.a 1),(.a 2),(.a 3),(.a 4),(.a 5),(.a 6),(.a 7),(.a 8),(.a 9),(.a 10),(.a 11),(.a 12),(.a 13),(.a 14),(.a 15),(.a 16),(.a 17),(.a 18),(.a 19),(.sub (.a 14) (.mn (.sub (.a 14) (.a 20)) (.mx (.sub (.a 8) (.a 2)) (.l 0)))),(.a 21),(.a 22),(.a 23),(.a 24)] [] []))))
    (jU 0 [(.l 2),(.a 1),(.a 2),(.a 3),(.a 4),(.a 5),(.a 6),(.a 7),(.a 8),(.a 9),(.a 10),(.a 11),(.a 12),(.a 13),(.a 14),(.a 15),(.a 16),(.a 17),(.a 18),(.a 19),(.a 20),(.a 21),(.a 22),(.a 23),(.a 24)] [] []))
    (.ite (.eq (.a 0) (.l 0))
    (.ite (.lt (.a 19) (.a 13))
     (nD (treeB (.sub (.a 13) (.a 19)))
     (nD (treeB (.sub (.a 7) (.a 1)))
     (nD (treeB (.sub (.a 13) (.mn (.sub (.a 13) (.a 19)) (.mx (.sub (.a 7) (.a 1)) (.l 0)))))
     (jU 0 [(.l 1),(.a 1),(.a 2),(.a 3),(.a 4),(.a 5),(.a 6),(.a 7),(.a 8),(.a 9),(.a 10),(.a 11),(.a 12),(.a 13),(.a 14),(.a 15),(.a 16),(.a 17),(.a 18),(.sub (.a 13) (.mn (.sub (.a 13) (.a 19)) (.mx (.sub (.a 7) (.a 1)) (.l 0)))),(.a 20),(.a 21),(.a 22),(.a 23),(.a 24)] [] []))))
     (jU 0 [(.l 1),(.a 1),(.a 2),(.a 3),(.a 4),(.a 5),(.a 6),(.a 7),(.a 8),(.a 9),(.a 10),(.a 11),(.a 12),(.a 13),(.a 14),(.a 15),(.a 16),(.a 17),(.a 18),(.a 19),(.a 20),(.a 21),(.a 22),(.a 23),(.a 24)] [] []))
    .stuck))))))
 (.ret false (.agg [(jA 19),(jA 20),(jA 21),(jA 22),(jA 23),(jA 24)]) []))
def a6F:Sx.Sys:=⟨[(.sh (.agg [jD,jD,jD,jD,jD,jD])),(.sh (.agg [jD,jD,jD,jD,jD,jD])),(.sh (.agg [jD,jD,jD,jD,jD,jD])),(.sh (.agg [jD,jD,jD,jD,jD,jD]))],b9e,[b8A],none,none⟩
def b6l:List Cfg:=[{todo:=[(.code (tfR 5 20)),(.inLoop (tfR 5 20)),(.inBlock 0),(.code [true,true])],sl:=jkR 0 4++[(.ptr 0 0),(.ptr 1 0),(.ptr 2 0),(.ptr 3 0),(.ptr 4 0),(.junk 4),(jA 0)]++jkR 5 32++[.undef],H:=[(.cells [(jA 1),(jA 2),(jA 3),(jA 4),(jA 5),(jA 6)] 51 false),(.cells [(jA 7),(jA 8),(jA 9),(jA 10),(jA 11),(jA 12)] 51 false),(.cells [(jA 13),(jA 14),(jA 15),(jA 16),(jA 17),(jA 18)] 51 false),(.cells [(jA 19),(jA 20),(jA 21),(jA 22),(jA 23),(jA 24)] 51 false),(.cells [(jE 0),(jE 0),(jE 0),(jE 0),(jE 0),(jE 0)] 51 false)],ni:=25,nb:=0,nv:=0,nj:=37}]
theorem b8F:SysOk Tryz.prog 92 a6F:=a0k (c:=(cg [(tfR 5 20)] [] [] false false false true)) (a0h _ _ _ _ _ _ _ _ _) Tryz.func92 Tryz.call92 (by kernel_rfl) b6l a6F 5000 rfl (by kernel_rfl) (by kernel_rfl) rfl
def b0X:PT :=
 (cA 85 [(.agg [(jA 0),(jA 1),(jA 2),(jA 3),(jA 4),(jA 5)])] [] [(.one jD)]
 (.ite (.not (.eq (.a 6) (.l 0)))
 (.ret false (jE 0) [])
 (nD (treeB (jP 0))
 (nD (treeB (.mul (.l 1) (jP 0)))
 (nD (treeB (jP 1))
 (nD (treeB (.mul (.mul (.l 1) (jP 0)) (jP 1)))
 (nD (treeB (jP 2))
 (nD (treeB (.mul (.mul (.mul (.l 1) (jP 0)) (jP 1)) (jP 2)))
 (nD (treeB (jP 3))
 (nD (treeB (.mul (.mul (.mul (.mul (.l 1) (jP 0)) (jP 1)) (jP 2)) (jP 3)))
 (nD (treeB (jP 4))
 (nD (treeB (.mul (.mul (.mul (.mul (.mul (.l 1) (jP 0)) (jP 1)) (jP 2)) (jP 3)) (jP 4)))
 (nD (treeB (jP 5))
 (nD (treeB (.mul (.mul (.mul (.mul (.mul (.mul (.l 1) (jP 0)) (jP 1)) (jP 2)) (jP 3)) (jP 4)) (jP 5)))
 (.ite (.lt (.l 1024) (.mul (.mul (.mul (.mul (.mul (.mul (.l 1) (jP 0)) (jP 1)) (jP 2)) (jP 3)) (jP 4)) (jP 5)))
  (.ret false (jE 0) [])
  (.ret false (.int .i64 (.mul (.mul (.mul (.mul (.mul (.mul (.l 1) (jP 0)) (jP 1)) (jP 2)) (jP 3)) (jP 4)) (jP 5))) []))))))))))))))))
def a6R:Sx.Sys:=⟨[(.sh (.agg [jD,jD,jD,jD,jD,jD]))],b0X,[],none,none⟩
def c0w:List Cfg:=[]
theorem c2N:SysOk Tryz.prog 100 a6R:=a0k (c:=(cg [] [] [] false false false true)) (a0h _ _ _ _ _ _ _ _ _) Tryz.func100 Tryz.call100 (by kernel_rfl) c0w a6R 5000 rfl (by kernel_rfl) (by kernel_rfl) rfl
def c2S:PT :=
 (cA 130 [(.agg [(jA 0),(jA 1),(jA 2),(jA 3),(jA 4),(jA 5)]),(.agg [(jA 6),(jA 7),(jA 8),(jA 9),(jA 10),(jA 11)])] [] [(.agg [jD,jD,jD,jD,jD,jD])]
 (.ret false (.bool (.and (.eq (.a 12) (.a 0)) (.and (.eq (.a 13) (.a 1)) (.and (.eq (.a 14) (.a 2)) (.and (.eq (.a 15) (.a 3)) (.and (.eq (.a 16) (.a 4)) (.eq (.a 17) (.a 5)))))))) []))
def b0D:Sx.Sys:=⟨[(.sh (.agg [jD,jD,jD,jD,jD,jD])),(.sh (.agg [jD,jD,jD,jD,jD,jD]))],c2S,[],none,none⟩
def b9q:List Cfg:=[]
theorem c1p:SysOk Tryz.prog 116 b0D:=a0k (c:=(cg [] [] [] false false false true)) (a0h _ _ _ _ _ _ _ _ _) Tryz.func116 Tryz.call116 (by kernel_rfl) b9q b0D 5000 rfl (by kernel_rfl) (by kernel_rfl) rfl
def b1c:PT :=
 (.ite (.le (.l 97) (.a 0))
 (.ret false (.bool (.le (.a 0) (.l 122))) [])
 rF)
def a6P:Sx.Sys:=⟨[(.sh (.one (.int .i32)))],b1c,[],none,none⟩
def c0H:List Cfg:=[]
theorem c3j:SysOk Tryz.prog 124 a6P:=a0k (c:=(cg [] [] [] false false false true)) (a0h _ _ _ _ _ _ _ _ _) Tryz.func124 Tryz.call124 (by kernel_rfl) c0H a6P 5000 rfl (by kernel_rfl) (by kernel_rfl) rfl
def c0M:PT :=
 (lO false (.pa 1 0) [jD]
 (.ite (.eq (.a 3) (.a 4))
 (.ret true (jE 1) [])
 (.ret true (jE 0) [])))
def a8V:Sx.Sys:=⟨[(.sh (.agg [.val,jD,jD,jD,jD])),.ptr],c0M,[],none,none⟩
def b8e:List Cfg:=[]
theorem b9I:SysOk Tryz.prog 132 a8V:=a0k (c:=(cg [] [] [] true true false true)) (a0h _ _ _ _ _ _ _ _ _) Tryz.func132 Tryz.call132 (by kernel_rfl) b8e a8V 5000 rfl (by kernel_rfl) (by kernel_rfl) rfl
def b0k:PT :=
 (cA 81 [(.agg [(jA 0),(jA 1),(jA 2),(jA 3),(jA 4),(jA 5)]),(.agg [(jA 18),(jA 19),(jA 20),(jA 21),(jA 22),(jA 23)])] [] [(.one jD)]
 (cA 81 [(.agg [(jA 0),(jA 1),(jA 2),(jA 3),(jA 4),(jA 5)]),(.agg [(jA 6),(jA 7),(jA 8),(jA 9),(jA 10),(jA 11)])] [] [(.one jD)]
 (nD (treeB (.sub (.a 24) (.a 25)))
 (.ret false (.int .i64 (.sub (.a 24) (.a 25))) []))))
def a6f:Sx.Sys:=⟨[(.sh (.agg [jD,jD,jD,jD,jD,jD,jD,jD,jD,jD,jD,jD])),(.sh (.agg [jD,jD,jD,jD,jD,jD,jD,jD,jD,jD,jD,jD]))],b0k,[],none,none⟩
def b9R:List Cfg:=[]
theorem c1A:SysOk Tryz.prog 140 a6f:=a0k (c:=(cg [] [] [] false false false true)) (a0h _ _ _ _ _ _ _ _ _) Tryz.func140 Tryz.call140 (by kernel_rfl) b9R a6f 5000 rfl (by kernel_rfl) (by kernel_rfl) rfl
def a6x:PT :=
 (.ite (.lt (.a 0) (.l 1))
 (.ret false (jE 4) [])
 (.ite (.lt (.l 1000000) (.a 0))
  (.ret false (jE 4) [])
  (.ite (.lt (.a 1) (.l 0))
  (.ret false (jE 4) [])
  (.ite (.lt (.l 100) (.a 1))
   (.ret false (jE 4) [])
   (.ite (.lt (.a 2) (.l 1))
   (.ret false (jE 4) [])
   (.ite (.lt (.l 3) (.a 2))
    (.ret false (jE 4) [])
    (.ite (.lt (.a 3) (.l 1))
    (.ret false (jE 4) [])
    (.ite (.lt (.l 3) (.a 3))
     (.ret false (jE 4) [])
     (.ret false (jE 0) [])))))))))
def a4p:Sx.Sys:=⟨[(.sh (.agg [jD,jD,jD,jD]))],a6x,[],none,none⟩
def b6N:List Cfg:=[]
theorem b8V:SysOk Tryz.prog 29 a4p:=a0k (c:=(cg [] [] [] false false false true)) (a0h _ _ _ _ _ _ _ _ _) Tryz.func29 Tryz.call29 (by kernel_rfl) b6N a4p 5000 rfl (by kernel_rfl) (by kernel_rfl) rfl
def a4b:PT :=
 (nD (.is 0 0)
 (jU 0 [(.slen 0),(.l 0)] [] [(.va 1),.nilS,(.va 0)]))
def a1m:PT :=
 (.ite (.lt (.a 1) (.a 0))
 (nD (treeI (.a 1) (.slen 2))
 (lO false (.ea 2 (.a 1) 9 0) [jD,jD,jD,jD,jD,jD,.val,.val,.val]
 (.callv 0 [(.agg [(jA 2),(jA 3),(jA 4),(jA 5),(jA 6),(jA 7),(.va 3),(.va 4),(.va 5)])] [(.agg [jD,jD,jD,jD,jD,jD,.val,.val,.val])]
 (.app none (.lit [[(jA 8),(jA 9),(jA 10),(jA 11),(jA 12),(jA 13),(.va 6),(.va 7),(.va 8)]]) 9
 (.appM (.va 1) (.va 9) 9 65
 (nD (treeB (jP 1))
 (jU 0 [(.a 0),(jP 1)] [] [(.va 0),(.va 10),(.va 2)])))))))
 (.ret true (.va 1) []))
def a1g:Sx.Sys:=⟨[(.sh (.one .val)),(.sh (.one .val))],a4b,[a1m],none,none⟩
def b1v:List Cfg:=[{todo:=[(.code (tfR 6 52)),(.inLoop (tfR 6 52)),(.inBlock 0),(.code [true,true,true])],sl:=[(.junk 0),(.va 0),.undef,.undef,(.junk 1),(.va 1),.undef,(.junk 2),(.va 2),(jA 0),(jA 1)]++jkR 3 10++[.undef],H:=[],ni:=2,nb:=0,nv:=3,nj:=13}]
theorem b2d:SysOk Tryz.prog 45 a1g:=a0k (c:=(cg [(tfR 6 52)] [] [(15,[65])] true true true true)) (a0h _ _ _ _ _ _ _ _ _) Tryz.func45 Tryz.call45 (by kernel_rfl) b1v a1g 5000 rfl (by kernel_rfl) (by kernel_rfl) rfl
def a8O:PT :=
 (.ite (.le (.l 0) (.a 0))
 (nD (.is 1 0)
 (lO false (.pa 0 17) [.val]
 (nD (.is 0 1)
 (.ret false (.bool (.lt (.a 0) (.slen 1))) []))))
 rF)
def a4H:Sx.Sys:=⟨[(.sh (.one .val)),(.sh (.one jD))],a8O,[],none,none⟩
def b7Q:List Cfg:=[]
theorem b9r:SysOk Tryz.prog 53 a4H:=a0k (c:=(cg [] [] [] false false false true)) (a0h _ _ _ _ _ _ _ _ _) Tryz.func53 Tryz.call53 (by kernel_rfl) b7Q a4H 5000 rfl (by kernel_rfl) (by kernel_rfl) rfl
def b0o:PT :=
 (cA 95 [(.agg [(jA 0),(jA 1),(jA 2),(jA 3)])] [] [(.one .val)]
  (jU 0 [(.a 10),(.a 11),(.a 12),(.a 13),(.a 14),(.a 15),(.l 0),(.a 0),(.a 1),(.a 2),(.a 3),(.a 4),(.a 5),(.a 6),(.a 7),(.a 8),(.a 9),(.a 4),(.a 5),(.a 6),(.a 7),(.a 8),(.a 9)] [] [(.va 0)]))
def c0v:PT :=
 (cA 29 [(.agg [(jA 0),(jA 1),(jA 2),(jA 3)])] [] [(.one jD)]
 (.ite (.not (.eq (.a 16) (.l 0)))
 (.ret false (.tup [(.agg [(jE 0),(jE 0),(jE 0),(jE 0),(jE 0),(jE 0)]),(jA 16)]) [])
 (.both b0o b0o)))
def b9m:PT :=
 (.ite (.lt (.a 6) (.l 6))
 (.ite (.eq (.a 6) (.l 5))
  (.ite (.lt (.l 0) (.a 5))
  (cA 96 [(.agg [(jA 11),(jA 12),(jA 13),(jA 14),(jA 15),(jA 16)])] [] [(.one .bool)]
  (.ite (.a 0)
   (.callv 0 [(jA 16)] [(.one jD)]
   (jU 0 [(.a 0),(.a 1),(.a 2),(.a 3),(.a 4),(.a 5),(.l 6),(.a 7),(.a 8),(.a 9),(.a 10),(.a 11),(.a 12),(.a 13),(.a 14),(.a 15),(.a 16),(.a 17),(.a 18),(.a 19),(.a 20),(.a 21),(.a 23)] [] [(.va 0)]))
   (jU 0 [(.a 0),(.a 1),(.a 2),(.a 3),(.a 4),(.a 5),(.l 6),(.a 7),(.a 8),(.a 9),(.a 10),(.a 11),(.a 12),(.a 13),(.a 14),(.a 15),(.a 16),(.a 17),(.a 18),(.a 19),(.a 20),(.a 21),(.a 22)] [] [(.va 0)])))
  (jU 0 [(.a 0),(.a 1),(.a 2),(.a 3),(.a 4),(.a 5),(.l 6),(.a 7),(.a 8),(.a 9),(.a 10),(.a 11),(.a 12),(.a 13),(.a 14),(.a 15),(.a 16),(.a 17),(.a 18),(.a 19),(.a 20),(.a 21),(.a 22)] [] [(.va 0)]))
  (.ite (.eq (.a 6) (.l 4))
  (.ite (.lt (.l 0) (.a 4))
   (cA 96 [(.agg [(jA 11),(jA 12),(jA 13),(jA 14),(jA 15),(jA 16)])] [] [(.one .bool)]
   (.ite (.a 0)
   (.callv 0 [(jA 15)] [(.one jD)]
   (jU 0 [(.a 0),(.a 1),(.a 2),(.a 3),(.a 4),(.a 5),(.l 5),(.a 7),(.a 8),(.a 9),(.a 10),(.a 11),(.a 12),(.a 13),(.a 14),(.a 15),(.a 16),(.a 17),(.a 18),(.a 19),(.a 20),(.a 23),(.a 22)] [] [(.va 0)]))
   (jU 0 [(.a 0),(.a 1),(.a 2),(.a 3),(.a 4),(.a 5),(.l 5),(.a 7),(.a 8),(.a 9),(.a 10),(.a 11),(.a 12),(.a 13),(.a 14),(.a 15),(.a 16),(.a 17),(.a 18),(.a 19),(.a 20),(.a 21),(.a 22)] [] [(.va 0)])))
   (jU 0 [(.a 0),(.a 1),(.a 2),(.a 3),(.a 4),(.a 5),(.l 5),(.a 7),(.a 8),(.a 9),(.a 10),(.a 11),(.a 12),(.a 13),(.a 14),(.a 15),(.a 16),(.a 17),(.a 18),(.a 19),(.a 20),(.a 21),(.a 22)] [] [(.va 0)]))
  (.ite (.eq (.a 6) (.l 3))
   (.ite (.lt (.l 0) (.a 3))
   (cA 96 [(.agg [(jA 11),(jA 12),(jA 13),(jA 14),(jA 15),(jA 16)])] [] [(.one .bool)]
   (.ite (.a 0)
    (.callv 0 [(jA 14)] [(.one jD)]
    (jU 0 [(.a 0),(.a 1),(.a 2),(.a 3),(.a 4),(.a 5),(.l 4),(.a 7),(.a 8),(.a 9),(.a 10),(.a 11),(.a 12),(.a 13),(.a 14),(.a 15),(.a 16),(.a 17),(.a 18),(.a 19),(.a 23),(.a 21),(.a 22)] [] [(.va 0)]))
    (jU 0 [(.a 0),(.a 1),(.a 2),(.a 3),(.a 4),(.a 5),(.l 4),(.a 7),(.a 8),(.a 9),(.a 10),(.a 11),(.a 12),(.a 13),(.a 14),(.a 15),(.a 16),(.a 17),(.a 18),(.a 19),(.a 20),(.a 21),(.a 22)] [] [(.va 0)])))
   (jU 0 [(.a 0),(.a 1),(.a 2),(.a 3),(.a 4),(.a 5),(.l 4),(.a 7),(.a 8),(.a 9),(.a 10),(.a 11),(.a 12),(.a 13),(.a 14),(.a 15),(.a 16),(.a 17),(.a 18),(.a 19),(.a 20),(.a 21),(.a 22)] [] [(.va 0)]))
   (.ite (.eq (.a 6) (.l 2))
   (.ite (.lt (.l 0) (.a 2))
    (cA 96 [(.agg [(jA 11),(jA 12),(jA 13),(jA 14),(jA 15),(jA 16)])] [] [(.one .bool)]
    (.ite (.a 0)
    (.callv 0 [(jA 13)] [(.one jD)]
    (jU 0 [(.a 0),(.a 1),(.a 2),(.a 3),(.a 4),(.a 5),(.l 3),(.a 7),(.a 8),(.a 9),(.a 10),(.a 11),(.a 12),(.a 13),(.a 14),(.a 15),(.a 16),(.a 17),(.a 18),(.a 23),(.a 20),(.a 21),(.a 22)] [] [(.va 0)]))
    (jU 0 [(.a 0),(.a 1),(.a 2),(.a 3),(.a 4),(.a 5),(.l 3),(.a 7),(.a 8),(.a 9),(.a 10),(.a 11),(.a 12),(.a 13),(.a 14),(.a 15),(.a 16),(.a 17),(.a 18),(.a 19),(.a 20),(.a 21),(.a 22)] [] [(.va 0)])))
    (jU 0 [(.a 0),(.a 1),(.a 2),(.a 3),(.a 4),(.a 5),(.l 3),(.a 7),(.a 8),(.a 9),(.a 10),(.a 11),(.a 12),(.a 13),(.a 14),(.a 15),(.a 16),(.a 17),(.a 18),(.a 19),(.a 20),(.a 21),(.a 22)] [] [(.va 0)]))
   (.ite (.eq (.a 6) (.l 1))
    (.ite (.lt (.l 0) (.a 1))
    (cA 96 [(.agg [(jA 11),(jA 12),(jA 13),(jA 14),(jA 15),(jA 16)])] [] [(.one .bool)]
    (.ite (.a 0)
     (.callv 0 [(jA 12)] [(.one jD)]
     (jU 0 [(.a 0),(.a 1),(.a 2),(.a 3),(.a 4),(.a 5),(.l 2),(.a 7),(.a 8),(.a 9),(.a 10),(.a 11),(.a 12),(.a 13),(.a 14),(.a 15),(.a 16),(.a 17),(.a 23),(.a 19),(.a 20),(.a 21),(.a 22)] [] [(.va 0)]))
     (jU 0 [(.a 0),(.a 1),(.a 2),(.a 3),(.a 4),(.a 5),(.l 2),(.a 7),(.a 8),(.a 9),(.a 10),(.a 11),(.a 12),(.a 13),(.a 14),(.a 15),(.a 16),(.a 17),(.a 18),(.a 19),(.a 20),(.a 21),(.a 22)] [] [(.va 0)])))
    (jU 0 [(.a 0),(.a 1),(.a 2),(.a 3),(.a 4),(.a 5),(.l 2),(.a 7),(.a 8),(.a 9),(.a 10),(.a 11),(.a 12),(.a 13),(.a 14),(.a 15),(.a 16),(.a 17),(.a 18),(.a 19),(.a 20),(.a 21),(.a 22)] [] [(.va 0)]))
    (.ite (.eq (.a 6) (.l 0))
    (.ite (.lt (.l 0) (.a 0))
     (cA 96 [(.agg [(jA 11),(jA 12),(jA 13),(jA 14),(jA 15),(jA 16)])] [] [(.one .bool)]
     (.ite (.a 0)
     (.callv 0 [(jA 11)] [(.one jD)]
     (jU 0 [(.a 0),(.a 1),(.a 2),(.a 3),(.a 4),(.a 5),(.l 1),(.a 7),(.a 8),(.a 9),(.a 10),(.a 11),(.a 12),(.a 13),(.a 14),(.a 15),(.a 16),(.a 23),(.a 18),(.a 19),(.a 20),(.a 21),(.a 22)] [] [(.va 0)]))
     (jU 0 [(.a 0),(.a 1),(.a 2),(.a 3),(.a 4),(.a 5),(.l 1),(.a 7),(.a 8),(.a 9),(.a 10),(.a 11),(.a 12),(.a 13),(.a 14),(.a 15),(.a 16),(.a 17),(.a 18),(.a 19),(.a 20),(.a 21),(.a 22)] [] [(.va 0)])))
     (jU 0 [(.a 0),(.a 1),(.a 2),(.a 3),(.a 4),(.a 5),(.l 1),(.a 7),(.a 8),(.a 9),(.a 10),(.a 11),(.a 12),(.a 13),(.a 14),(.a 15),(.a 16),(.a 17),(.a 18),(.a 19),(.a 20),(.a 21),(.a 22)] [] [(.va 0)]))
    .stuck))))))
 (cA 96 [(.agg [(jA 11),(jA 12),(jA 13),(jA 14),(jA 15),(jA 16)])] [] [(.one .bool)]
 (.ite (.not (.a 0))
  (.ret false (.tup [(.agg [(jE 0),(jE 0),(jE 0),(jE 0),(jE 0),(jE 0)]),(jE 4)]) [])
  (.ite (.not (.and (.eq (.a 17) (.a 11)) (.and (.eq (.a 18) (.a 12)) (.and (.eq (.a 19) (.a 13)) (.and (.eq (.a 20) (.a 14)) (.and (.eq (.a 21) (.a 15)) (.eq (.a 22) (.a 16))))))))
  (cA 96 [(.agg [(jA 17),(jA 18),(jA 19),(jA 20),(jA 21),(jA 22)])] [] [(.one .bool)]
  (.ite (.not (.a 1))
   (.ret false (.tup [(.agg [(jE 0),(jE 0),(jE 0),(jE 0),(jE 0),(jE 0)]),(jE 4)]) [])
   (.ret false (.tup [(.agg [(jA 17),(jA 18),(jA 19),(jA 20),(jA 21),(jA 22)]),(jE 0)]) [])))
  (.ret false (.tup [(.agg [(jA 17),(jA 18),(jA 19),(jA 20),(jA 21),(jA 22)]),(jE 0)]) [])))))
def a8X:Sx.Sys:=⟨[(.sh (.agg [jD,jD,jD,jD])),(.sh (.agg [jD,jD,jD,jD,jD,jD])),(.sh (.agg [jD,jD,jD,jD,jD,jD]))],c0v,[b9m],none,none⟩
def b7X:List Cfg:=[{todo:=[(.code (tfR 7 116)),(.inLoop (tfR 7 116)),(.inBlock 0),(.code [true,true,true,true])],sl:=jkR 0 4++[(.ptr 1 0),(.junk 4),(.ptr 3 0),(.junk 5),(.junk 6),(.va 0),(.ptr 4 0)]++jkR 7 6++[.undef,.undef,(.junk 13),(.junk 14),(.junk 15),(.agg [(jA 0),(jA 1),(jA 2),(jA 3),(jA 4),(jA 5)]),(jA 6)]++jkR 16 17++udR 15,H:=[(.cells [(jA 7),(jA 8),(jA 9),(jA 10)] 29 false),(.cells [(jA 11),(jA 12),(jA 13),(jA 14),(jA 15),(jA 16)] 38 false),(.cells [(jA 0),(jA 1),(jA 2),(jA 3),(jA 4),(jA 5)] 51 false),(.cells [(jE 0),(jE 0),(jE 0),(jE 0),(jE 0),(jE 0)] 38 false),(.cells [(jA 17),(jA 18),(jA 19),(jA 20),(jA 21),(jA 22)] 38 false)],ni:=23,nb:=0,nv:=1,nj:=33}]
theorem b9W:SysOk Tryz.prog 61 a8X:=a0k (c:=(cg [(tfR 7 116)] [] [(34,[2])] false false false true)) (a0h _ _ _ _ _ _ _ _ _) Tryz.func61 Tryz.call61 (by kernel_rfl) b7X a8X 5000 rfl (by kernel_rfl) (by kernel_rfl) rfl
def a0X:PT :=
 (nD (.is 0 0)
 (.ite (.nil 0)
 (.ret false .nilS [])
 (.app none (.lit []) 3
 (.app (some 1) (.va 0) 3
 (.ret false (.va 2) [])))))
def a4r:Sx.Sys:=⟨[(.sh (.one .val))],a0X,[],none,none⟩
def a8Z:List Cfg:=[]
def a4w:PT :=
 (nD (.is 3 0)
 (.ite (.sis 0 [])
 rF
 (nD (.is 3 0)
 (.ite (.lt (.l 12) (.stl 0))
  rF
  (nD (.is 3 0)
  (nD (.lt (.l 0) (.stl 0))
  (cA 113 [(.int .u8 (.sat 0 (.l 0)))] [] [(.one .bool)]
  (.ite (.not (.a 0))
  rF
  (cA 114 [(.va 0)] [] [(.agg [jD,.val,jD,jD]),(.one jD)]
  (.ite (.eq (.a 3) (.l 0))
   (nD (.is 3 1)
   (nD (.is 3 0)
   (.ret false (.bool (.seq 1 0)) [])))
   rF))))))))))
def a3i:Sx.Sys:=⟨[(.sh (.one .val))],a4w,[],none,none⟩
def b2b:List Cfg:=[]
theorem b3v:SysOk Tryz.prog 77 a3i:=a0k (c:=(cg [] [] [] false false false true)) (a0h _ _ _ _ _ _ _ _ _) Tryz.func77 Tryz.call77 (by kernel_rfl) b2b a3i 5000 rfl (by kernel_rfl) (by kernel_rfl) rfl
def b1h:PT :=
 (.ite (.lt (.a 0) (.l 0))
 (.ret false (jE 4) [])
 (.ite (.lt (.l 4) (.a 0))
  (.ret false (jE 4) [])
  (.ite (.lt (.a 1) (.l 0))
  (.ret false (jE 4) [])
  (.ite (.lt (.l 4) (.a 1))
   (.ret false (jE 4) [])
   (.ite (.lt (.a 2) (.l 0))
   (.ret false (jE 4) [])
   (.ite (.lt (.l 4) (.a 2))
    (.ret false (jE 4) [])
    (.ite (.lt (.a 3) (.l 0))
    (.ret false (jE 4) [])
    (.ite (.lt (.l 4) (.a 3))
     (.ret false (jE 4) [])
     (.ite (.lt (.a 4) (.l 0))
     (.ret false (jE 4) [])
     (.ite (.lt (.l 4) (.a 4))
      (.ret false (jE 4) [])
      (.ite (.lt (.a 5) (.l 0))
      (.ret false (jE 4) [])
      (.ite (.lt (.l 4) (.a 5))
       (.ret false (jE 4) [])
       (.ret false (jE 0) [])))))))))))))
def a6Y:Sx.Sys:=⟨[(.sh (.agg [jD,jD,jD,jD,jD,jD]))],b1h,[],none,none⟩
def c0A:List Cfg:=[]
theorem c3r:SysOk Tryz.prog 85 a6Y:=a0k (c:=(cg [] [] [] false false false true)) (a0h _ _ _ _ _ _ _ _ _) Tryz.func85 Tryz.call85 (by kernel_rfl) c0A a6Y 5000 rfl (by kernel_rfl) (by kernel_rfl) rfl
def c5t:PT :=
 (jU 0 [(.l 0),(.a 0),(.a 1),(.a 2),(.a 3),(.a 4),(.a 5),(.a 6),(.a 7),(.a 8),(.a 9),(.a 10),(.a 11),(.l 0),(.l 0),(.l 0),(.l 0),(.l 0),(.l 0)] [] [])
def c4T:PT :=
 (.ite (.lt (.a 0) (.l 6))
 (.ite (.eq (.a 0) (.l 5))
  (.ite (.lt (.a 12) (.a 6))
  (nD (treeB (.sub (.a 6) (.a 12)))
  (jU 0 [(.l 6),(.a 1),(.a 2),(.a 3),(.a 4),(.a 5),(.a 6),(.a 7),(.a 8),(.a 9),(.a 10),(.a 11),(.a 12),(.a 13),(.a 14),(.a 15),(.a 16),(.a 17),(.sub (.a 6) (.a 12))] [] []))
  (jU 0 [(.l 6),(.a 1),(.a 2),(.a 3),(.a 4),(.a 5),(.a 6),(.a 7),(.a 8),(.a 9),(.a 10),(.a 11),(.a 12),(.a 13),(.a 14),(.a 15),(.a 16),(.a 17),(.a 18)] [] []))
  (.ite (.eq (.a 0) (.l 4))
  (.ite (.lt (.a 11) (.a 5))
   (nD (treeB (.sub (.a 5) (.a 11)))
   (jU 0 [(.l 5),(.a 1),(.a 2),(.a 3),(.a 4),(.a 5),(.a 6),(.a 7),(.a 8),(.a 9),(.a 10),(.a 11),(.a 12),(.a 13),(.a 14),(.a 15),(.a 16),(.sub (.a 5) (.a 11)),(.a 18)] [] []))
   (jU 0 [(.l 5),(.a 1),(.a 2),(.a 3),(.a 4),(.a 5),(.a 6),(.a 7),(.a 8),(.a 9),(.a 10),(.a 11),(.a 12),(.a 13),(.a 14),(.a 15),(.a 16),(.a 17),(.a 18)] [] []))
  (.ite (.eq (.a 0) (.l 3))
   (.ite (.lt (.a 10) (.a 4))
   (nD (treeB (.sub (.a 4) (.a 10)))
   (jU 0 [(.l 4),(.a 1),(.a 2),(.a 3),(.a 4),(.a 5),(.a 6),(.a 7),(.a 8),(.a 9),(.a 10),(.a 11),(.a 12),(.a 13),(.a 14),(.a 15),(.sub (.a 4) (.a 10)),(.a 17),(.a 18)] [] []))
   (jU 0 [(.l 4),(.a 1),(.a 2),(.a 3),(.a 4),(.a 5),(.a 6),(.a 7),(.a 8),(.a 9),(.a 10),(.a 11),(.a 12),(.a 13),(.a 14),(.a 15),(.a 16),(.a 17),(.a 18)] [] []))
   (.ite (.eq (.a 0) (.l 2))
   (.ite (.lt (.a 9) (.a 3))
    (nD (treeB (.sub (.a 3) (.a 9)))
    (jU 0 [(.l 3),(.a 1),(.a 2),(.a 3),(.a 4),(.a 5),(.a 6),(.a 7),(.a 8),(.a 9),(.a 10),(.a 11),(.a 12),(.a 13),(.a 14),(.sub (.a 3) (.a 9)),(.a 16),(.a 17),(.a 18)] [] []))
    (jU 0 [(.l 3),(.a 1),(.a 2),(.a 3),(.a 4),(.a 5),(.a 6),(.a 7),(.a 8),(.a 9),(.a 10),(.a 11),(.a 12),(.a 13),(.a 14),(.a 15),(.a 16),(.a 17),(.a 18)] [] []))
   (.ite (.eq (.a 0) (.l 1))
    (.ite (.lt (.a 8) (.a 2))
    (nD (treeB (.sub (.a 2) (.a 8)))
    (jU 0 [(.l 2),(.a 1),(.a 2),(.a 3),(.a 4),(.a 5),(.a 6),(.a 7),(.a 8),(.a 9),(.a 10),(.a 11),(.a 12),(.a 13),(.sub (.a 2) (.a 8)),(.a 15),(.a 16),(.a 17),(.a 18)] [] []))
    (jU 0 [(.l 2),(.a 1),(.a 2),(.a 3),(.a 4),(.a 5),(.a 6),(.a 7),(.a 8),(.a 9),(.a 10),(.a 11),(.a 12),(.a 13),(.a 14),(.a 15),(.a 16),(.a 17),(.a 18)] [] []))
    (.ite (.eq (.a 0) (.l 0))
    (.ite (.lt (.a 7) (.a 1))
     (nD (treeB (.sub (.a 1) (.a 7)))
     (jU 0 [(.l 1),(.a 1),(.a 2),(.a 3),(.a 4),(.a 5),(.a 6),(.a 7),(.a 8),(.a 9),(.a 10),(.a 11),(.a 12),(.sub (.a 1) (.a 7)),(.a 14),(.a 15),(.a 16),(.a 17),(.a 18)] [] []))
     (jU 0 [(.l 1),(.a 1),(.a 2),(.a 3),(.a 4),(.a 5),(.a 6),(.a 7),(.a 8),(.a 9),(.a 10),(.a 11),(.a 12),(.a 13),(.a 14),(.a 15),(.a 16),(.a 17),(.a 18)] [] []))
    .stuck))))))
 (.ret false (.agg [(jA 13),(jA 14),(jA 15),(jA 16),(jA 17),(jA 18)]) []))
def b2W:Sx.Sys:=⟨[(.sh (.agg [jD,jD,jD,jD,jD,jD])),(.sh (.agg [jD,jD,jD,jD,jD,jD]))],c5t,[c4T],none,none⟩
def c3d:List Cfg:=[{todo:=[(.code (tfR 6 52)),(.inLoop (tfR 6 52)),(.inBlock 0),(.code [true,true,true])],sl:=[(.junk 0),(.junk 1),(.ptr 0 0),(.ptr 1 0),(.ptr 2 0),(.ptr 3 0),(.junk 2),(jA 0)]++jkR 3 19++[.undef],H:=[(.cells [(jA 1),(jA 2),(jA 3),(jA 4),(jA 5),(jA 6)] 138 false),(.cells [(jA 7),(jA 8),(jA 9),(jA 10),(jA 11),(jA 12)] 138 false),(.cells [(jE 0),(jE 0),(jE 0),(jE 0),(jE 0),(jE 0)] 51 false),(.cells [(jA 13),(jA 14),(jA 15),(jA 16),(jA 17),(jA 18)] 51 false)],ni:=19,nb:=0,nv:=0,nj:=22}]
theorem c4V:SysOk Tryz.prog 93 b2W:=a0k (c:=(cg [(tfR 6 52)] [] [] false false false true)) (a0h _ _ _ _ _ _ _ _ _) Tryz.func93 Tryz.call93 (by kernel_rfl) c3d b2W 5000 rfl (by kernel_rfl) (by kernel_rfl) rfl
def b1Q:PT :=
 (nD (.is 0 0)
 (jU 0 [(.slen 0),(.l 0)] [] [(.va 1),(.va 0)]))
def a3c:PT :=
 (.ite (.lt (.a 1) (.a 0))
 (nD (treeI (.a 1) (.slen 1))
 (lO false (.ea 1 (.a 1) 4 0) [.val,jD,jD,jD]
 (nD (.is 3 2)
 (nD (.is 3 0)
 (.ite (.seq 2 0)
  (.ret false (.tup [(jA 1),(.bool (.t true))]) [])
  (nD (treeB (jP 1))
  (jU 0 [(.a 0),(jP 1)] [] [(.va 0),(.va 1)])))))))
 (.ret false (.tup [(jE 0),(.bool (.t false))]) []))
def a2S:Sx.Sys:=⟨[(.sh (.one .val)),(.sh (.one .val))],b1Q,[a3c],none,none⟩
def c1T:List Cfg:=[{todo:=[(.code (tfR 5 20)),(.inLoop (tfR 5 20)),(.inBlock 0),(.code [true,true])],sl:=[(.junk 0),(.va 0),.undef,.undef]++jkR 1 4++[(.va 1),(jA 0),(jA 1)]++jkR 5 8++[.undef,(.junk 13)],H:=[],ni:=2,nb:=0,nv:=2,nj:=14}]
theorem c3H:SysOk Tryz.prog 101 a2S:=a0k (c:=(cg [(tfR 5 20)] [] [] false false false true)) (a0h _ _ _ _ _ _ _ _ _) Tryz.func101 Tryz.call101 (by kernel_rfl) c1T a2S 5000 rfl (by kernel_rfl) (by kernel_rfl) rfl
def c2T:PT :=
 (jU 0 [(.a 6),(.l 0),(.a 0),(.a 1),(.a 2),(.a 3),(.a 4),(.a 5),(.a 7),(.a 8),(.a 9),(.a 10),(.a 11),(.a 12)] [] [(.va 0),(.va 1),(.va 2),(.va 3)])
def c1D:PT :=
 (.ite (.lt (.a 1) (.l 6))
 (.ite (.eq (.a 1) (.l 5))
  (.ite (.eq (.a 7) (.l 0))
  (jU 0 [(.a 0),(.l 6),(.a 2),(.a 3),(.a 4),(.a 5),(.a 6),(.a 7),(.a 8),(.a 9),(.a 10),(.a 11),(.a 12),(.l 0)] [] [(.va 0),(.va 1),(.va 2),(.va 3)])
  (nD (treeI (.a 0) (.slen 1))
  (lO true (.ea 1 (.a 0) 4 1) [jD]
  (.ite (.eq (.a 7) (.a 14))
   (jU 0 [(.a 0),(.l 6),(.a 2),(.a 3),(.a 4),(.a 5),(.a 6),(.a 7),(.a 8),(.a 9),(.a 10),(.a 11),(.a 12),(.l 0)] [] [(.va 0),(.va 1),(.va 2),(.va 3)])
   (jU 0 [(.a 0),(.l 6),(.a 2),(.a 3),(.a 4),(.a 5),(.a 6),(.a 7),(.a 8),(.a 9),(.a 10),(.a 11),(.a 12),(.a 13)] [] [(.va 0),(.va 1),(.va 2),(.va 3)])))))
  (.ite (.eq (.a 1) (.l 4))
  (.ite (.eq (.a 6) (.l 0))
   (jU 0 [(.a 0),(.l 5),(.a 2),(.a 3),(.a 4),(.a 5),(.a 6),(.a 7),(.a 8),(.a 9),(.a 10),(.a 11),(.l 0),(.a 13)] [] [(.va 0),(.va 1),(.va 2),(.va 3)])
   (nD (treeI (.a 0) (.slen 1))
   (lO true (.ea 1 (.a 0) 4 1) [jD]
   (.ite (.eq (.a 6) (.a 14))
   (jU 0 [(.a 0),(.l 5),(.a 2),(.a 3),(.a 4),(.a 5),(.a 6),(.a 7),(.a 8),(.a 9),(.a 10),(.a 11),(.l 0),(.a 13)] [] [(.va 0),(.va 1),(.va 2),(.va 3)])
   (jU 0 [(.a 0),(.l 5),(.a 2),(.a 3),(.a 4),(.a 5),(.a 6),(.a 7),(.a 8),(.a 9),(.a 10),(.a 11),(.a 12),(.a 13)] [] [(.va 0),(.va 1),(.va 2),(.va 3)])))))
  (.ite (.eq (.a 1) (.l 3))
   (.ite (.eq (.a 5) (.l 0))
   (jU 0 [(.a 0),(.l 4),(.a 2),(.a 3),(.a 4),(.a 5),(.a 6),(.a 7),(.a 8),(.a 9),(.a 10),(.l 0),(.a 12),(.a 13)] [] [(.va 0),(.va 1),(.va 2),(.va 3)])
   (nD (treeI (.a 0) (.slen 1))
   (lO true (.ea 1 (.a 0) 4 1) [jD]
   (.ite (.eq (.a 5) (.a 14))
    (jU 0 [(.a 0),(.l 4),(.a 2),(.a 3),(.a 4),(.a 5),(.a 6),(.a 7),(.a 8),(.a 9),(.a 10),(.l 0),(.a 12),(.a 13)] [] [(.va 0),(.va 1),(.va 2),(.va 3)])
    (jU 0 [(.a 0),(.l 4),(.a 2),(.a 3),(.a 4),(.a 5),(.a 6),(.a 7),(.a 8),(.a 9),(.a 10),(.a 11),(.a 12),(.a 13)] [] [(.va 0),(.va 1),(.va 2),(.va 3)])))))
   (.ite (.eq (.a 1) (.l 2))
   (.ite (.eq (.a 4) (.l 0))
    (jU 0 [(.a 0),(.l 3),(.a 2),(.a 3),(.a 4),(.a 5),(.a 6),(.a 7),(.a 8),(.a 9),(.l 0),(.a 11),(.a 12),(.a 13)] [] [(.va 0),(.va 1),(.va 2),(.va 3)])
    (nD (treeI (.a 0) (.slen 1))
    (lO true (.ea 1 (.a 0) 4 1) [jD]
    (.ite (.eq (.a 4) (.a 14))
    (jU 0 [(.a 0),(.l 3),(.a 2),(.a 3),(.a 4),(.a 5),(.a 6),(.a 7),(.a 8),(.a 9),(.l 0),(.a 11),(.a 12),(.a 13)] [] [(.va 0),(.va 1),(.va 2),(.va 3)])
    (jU 0 [(.a 0),(.l 3),(.a 2),(.a 3),(.a 4),(.a 5),(.a 6),(.a 7),(.a 8),(.a 9),(.a 10),(.a 11),(.a 12),(.a 13)] [] [(.va 0),(.va 1),(.va 2),(.va 3)])))))
   (.ite (.eq (.a 1) (.l 1))
    (.ite (.eq (.a 3) (.l 0))
    (jU 0 [(.a 0),(.l 2),(.a 2),(.a 3),(.a 4),(.a 5),(.a 6),(.a 7),(.a 8),(.l 0),(.a 10),(.a 11),(.a 12),(.a 13)] [] [(.va 0),(.va 1),(.va 2),(.va 3)])
    (nD (treeI (.a 0) (.slen 1))
    (lO true (.ea 1 (.a 0) 4 1) [jD]
    (.ite (.eq (.a 3) (.a 14))
     (jU 0 [(.a 0),(.l 2),(.a 2),(.a 3),(.a 4),(.a 5),(.a 6),(.a 7),(.a 8),(.l 0),(.a 10),(.a 11),(.a 12),(.a 13)] [] [(.va 0),(.va 1),(.va 2),(.va 3)])
     (jU 0 [(.a 0),(.l 2),(.a 2),(.a 3),(.a 4),(.a 5),(.a 6),(.a 7),(.a 8),(.a 9),(.a 10),(.a 11),(.a 12),(.a 13)] [] [(.va 0),(.va 1),(.va 2),(.va 3)])))))
    (.ite (.eq (.a 1) (.l 0))
    (.ite (.eq (.a 2) (.l 0))
     (jU 0 [(.a 0),(.l 1),(.a 2),(.a 3),(.a 4),(.a 5),(.a 6),(.a 7),(.l 0),(.a 9),(.a 10),(.a 11),(.a 12),(.a 13)] [] [(.va 0),(.va 1),(.va 2),(.va 3)])
     (nD (treeI (.a 0) (.slen 1))
     (lO true (.ea 1 (.a 0) 4 1) [jD]
     (.ite (.eq (.a 2) (.a 14))
     (jU 0 [(.a 0),(.l 1),(.a 2),(.a 3),(.a 4),(.a 5),(.a 6),(.a 7),(.l 0),(.a 9),(.a 10),(.a 11),(.a 12),(.a 13)] [] [(.va 0),(.va 1),(.va 2),(.va 3)])
     (jU 0 [(.a 0),(.l 1),(.a 2),(.a 3),(.a 4),(.a 5),(.a 6),(.a 7),(.a 8),(.a 9),(.a 10),(.a 11),(.a 12),(.a 13)] [] [(.va 0),(.va 1),(.va 2),(.va 3)])))))
    .stuck))))))
 (.ret false (.agg [(jA 8),(jA 9),(jA 10),(jA 11),(jA 12),(jA 13)]) []))
def b0q:Sx.Sys:=⟨[(.sh (.agg [.val,.val,.val,.val])),(.sh (.agg [jD,jD,jD,jD,jD,jD])),(.sh (.one jD)),(.sh (.agg [jD,jD,jD,jD,jD,jD]))],c2T,[c1D],none,none⟩
def b9s:List Cfg:=[{todo:=[(.code (tfR 5 20)),(.inLoop (tfR 5 20)),(.inBlock 0),(.code [true,true])],sl:=[(.junk 0),(.junk 1),(jA 0),(.junk 2),(.ptr 0 0),(.ptr 1 0),.undef,(.ptr 2 0),(.ptr 3 0),(.junk 3),(jA 1)]++jkR 4 21++[.undef],H:=[(.cells [(.va 0),(.va 1),(.va 2),(.va 3)] 27 false),(.cells [(jA 2),(jA 3),(jA 4),(jA 5),(jA 6),(jA 7)] 51 false),(.cells [(jA 8),(jA 9),(jA 10),(jA 11),(jA 12),(jA 13)] 51 false),(.cells [(jE 0),(jE 0),(jE 0),(jE 0),(jE 0),(jE 0)] 51 false)],ni:=14,nb:=0,nv:=4,nj:=25}]
theorem c1Q:SysOk Tryz.prog 117 b0q:=a0k (c:=(cg [(tfR 5 20)] [] [] false false false true)) (a0h _ _ _ _ _ _ _ _ _) Tryz.func117 Tryz.call117 (by kernel_rfl) b9s b0q 5000 rfl (by kernel_rfl) (by kernel_rfl) rfl
def b5x:PT :=
 (jU 0 [(.a 0),(.a 0)] [] [(.va 0),(.va 1)])
def a5b:PT :=
 (nD (.is 3 0)
 (.ite (.lt (.a 1) (.stl 0))
 (nD (.is 3 0)
 (nD (treeI (.a 1) (.stl 0))
 (nD (.and (.le (.l (-2147483648)) (.sat 0 (.a 1))) (.le (.sat 0 (.a 1)) (.l 2147483647)))
 (.callv 1 [(.int .i32 (.sat 0 (.a 1)))] [(.one .bool)]
 (.ite (.a 0)
  (nD (treeB (jP 1))
  (jU 0 [(.a 0),(jP 1)] [] [(.va 0),(.va 1)]))
  (.scut 0 (some (.a 0)) (some (.a 1))
  (.ret false (.va 2) [])))))))
 (.scut 0 (some (.a 0)) (some (.a 1))
 (.ret false (.va 2) []))))
def a4y:Sx.Sys:=⟨[(.sh (.one .val)),(.sh (.one jD)),(.sh (.one .val))],b5x,[a5b],none,none⟩
def c3Y:List Cfg:=[{todo:=[(.code (tfR 5 24)),(.inLoop (tfR 5 24)),(.inBlock 0),(.code [true,true,true])],sl:=[(.va 0),(jA 0),(.va 1),.undef,.undef,.undef,(.junk 0),(jA 1)]++jkR 1 15++udR 4,H:=[],ni:=2,nb:=0,nv:=2,nj:=16}]
theorem c5L:SysOk Tryz.prog 125 a4y:=a0k (c:=(cg [(tfR 5 24)] [] [(14,[4])] false false false true)) (a0h _ _ _ _ _ _ _ _ _) Tryz.func125 Tryz.call125 (by kernel_rfl) c3Y a4y 5000 rfl (by kernel_rfl) (by kernel_rfl) rfl
def c1v:PT :=
 (cA 131 [(.agg [(.va 0),(jA 0),(jA 1),(jA 2),(jA 3),(jA 4),(jA 5)]),(.fn 138 0 [])] [] [(.one jD)]
 (.ret false (jA 6) []))
def a9L:Sx.Sys:=⟨[(.sh (.one .val)),(.sh (.agg [jD,jD,jD,jD,jD,jD]))],c1v,[],none,none⟩
def b8C:List Cfg:=[]
theorem c0U:SysOk Tryz.prog 133 a9L:=a0k (c:=(cg [] [] [(10,[2])] false false false true)) (a0h _ _ _ _ _ _ _ _ _) Tryz.func133 Tryz.call133 (by kernel_rfl) b8C a9L 5000 rfl (by kernel_rfl) (by kernel_rfl) rfl
def a9N:PT :=
 (.mkMap .i64
 (jU 0 [(.a 0)] [] [(.va 0),(.va 1)]))
def a3I:PT :=
 (.mapGet 1 .i64 (.a 0) (.bool (.t false)) false [(.one .bool)]
 (.ite (.not (.a 0))
 (.mapSet 1 .i64 (.a 0) (.bool (.t true))
 (nD (treeI (.a 0) (.slen 0))
 (lO false (.ea 0 (.a 0) 1 0) [jD]
 (jU 0 [(.a 1)] [] [(.va 0),(.va 1)]))))
 (.mapClr 1
 (jU 1 [(.a 0)] [] [(.va 0),(.va 1),.nilS]))))
def a2Q:PT :=
 (.mapGet 1 .i64 (.a 0) (.bool (.t false)) false [(.one .bool)]
 (.ite (.not (.a 0))
 (.mapSet 1 .i64 (.a 0) (.bool (.t true))
 (.app none (.lit [[(jA 0)]]) 1
 (.appM (.va 2) (.va 3) 1 3
 (nD (treeI (.a 0) (.slen 0))
 (lO false (.ea 0 (.a 0) 1 0) [jD]
 (jU 1 [(.a 1)] [] [(.va 0),(.va 1),(.va 4)]))))))
 (nD (.is 0 2)
 (.mkM (.slen 2) [(jE 0)] 3 1 8
 (nD (.is 0 2)
 (jU 2 [(.slen 2),(.l 0)] [] [(.va 2),(.va 3)]))))))
def a3K:PT :=
 (.ite (.lt (.a 1) (.a 0))
 (nD (treeI (.a 1) (.slen 0))
 (lO false (.ea 0 (.a 1) 1 0) [jD]
 (nD (.is 0 0)
 (nD (treeB (.sub (.slen 0) (.l 1)))
 (nD (treeB (.sub (.sub (.slen 0) (.l 1)) (.a 1)))
 (nD (treeI (.sub (.sub (.slen 0) (.l 1)) (.a 1)) (.slen 1))
 (.storeM (.ea 1 (.sub (.sub (.slen 0) (.l 1)) (.a 1)) 1 0) [(jA 2)]
 (nD (treeB (jP 1))
 (jU 2 [(.a 0),(jP 1)] [] [(.va 0),(.va 1)])))))))))
 (.ret false (.va 1) []))
def a0q:Sx.Sys:=⟨[(.sh (.one .val)),(.sh (.one jD))],a9N,[a3I,a2Q,a3K],none,none⟩
def b8K:List Cfg:=[{todo:=[(.code (tfR 5 24)),(.inLoop (tfR 5 24)),(.inBlock 0),(.code [true,true,true])],sl:=[(.va 0),(jA 0),.undef,.undef,(.junk 0),(.va 1)]++udR 4++jkR 1 11++udR 35,H:=[],ni:=1,nb:=0,nv:=2,nj:=12},
 {todo:=[(.code (tfR 8 248)),(.inLoop (tfR 8 248)),(.inBlock 2),(.code (tfR 6 63))],sl:=[(.va 0),(jA 0),.undef,.undef,(.junk 0),(.va 1),(.va 2),.undef,.undef,.undef]++jkR 1 26++udR 20,H:=[],ni:=1,nb:=0,nv:=3,nj:=27},
 {todo:=[(.code (tfR 11 2036)),(.inLoop (tfR 11 2036)),(.inBlock 4),(.code (tfR 8 255))],sl:=[(.junk 0),(.junk 1),.undef,.undef,(.junk 2),(.junk 3),(.va 0),(.va 1)]++jkR 4 31++[(.va 0),(jA 0),(jA 1)]++jkR 35 13++[.undef],H:=[],ni:=2,nb:=0,nv:=2,nj:=48}]
theorem c0G:SysOk Tryz.prog 141 a0q:=a0k (c:=(cg [(tfR 5 24),(tfR 8 248),(tfR 11 2036)] [] [] true false true true)) (a0h _ _ _ _ _ _ _ _ _) Tryz.func141 Tryz.call141 (by kernel_rfl) b8K a0q 5000 rfl (by kernel_rfl) (by kernel_rfl) rfl
def a5t:PT :=
 (nD (.is 4 0)
 (.ite (.nil 0)
 (.ret false (.agg [(jE 0),(jE 0),(jE 0),(jE 0),(jE 0),(jE 0)]) [])
 (nD (.is 1 0)
 (lO false (.pa 0 9) [jD,jD,jD,jD,jD,jD]
 (.ret false (.agg [(jA 0),(jA 1),(jA 2),(jA 3),(jA 4),(jA 5)]) [])))))
def a3Q:Sx.Sys:=⟨[(.sh (.one .val))],a5t,[],none,none⟩
def b3W:List Cfg:=[]
theorem b6B:SysOk Tryz.prog 14 a3Q:=a0k (c:=(cg [] [] [] true false false true)) (a0h _ _ _ _ _ _ _ _ _) Tryz.func14 Tryz.call14 (by kernel_rfl) b3W a3Q 5000 rfl (by kernel_rfl) (by kernel_rfl) rfl
def b1F:PT :=
 (cA 67 [(.va 0)] [] [(.one .val)]
 (cA 68 [(.va 1)] [] [(.one .val)]
 (cA 69 [(.va 2)] [] [(.one .val)]
 (cA 70 [(.va 3)] [] [(.one .val)]
 (.ret false (.agg [(.va 4),(.va 5),(.va 6),(.va 7)]) [])))))
def a9y:Sx.Sys:=⟨[(.sh (.agg [.val,.val,.val,.val]))],b1F,[],none,none⟩
def c1C:List Cfg:=[]
theorem c3x:SysOk Tryz.prog 30 a9y:=a0k (c:=(cg [] [] [] false false false true)) (a0h _ _ _ _ _ _ _ _ _) Tryz.func30 Tryz.call30 (by kernel_rfl) c1C a9y 5000 rfl (by kernel_rfl) (by kernel_rfl) rfl
def a4k:PT :=
 (cA 51 [(.va 1)] [] [(.one .val)]
  (cA 52 [(.va 2)] [] [(.one .val)]
  (.ret true (.agg [(jA 0),(jA 1),(jA 2),(jA 3),(jA 4),(jA 5),(.va 3),(.va 4),(.va 5)]) [])))
def a7L:PT :=
 (cA 51 [(.va 0)] [] [(.one .val)]
 (.both a4k a4k))
def a4l:PT :=
 (cA 51 [(.va 1)] [] [(.one .val)]
   (cA 52 [(.va 2)] [] [(.one .val)]
   (.ret true (.agg [(jA 0),(jA 1),(jA 2),(jA 3),(jA 4),(jA 5),(.va 3),(.va 4),(.va 5)]) [])))
def a8L:PT :=
 (cA 51 [(.va 0)] [] [(.one .val)]
  (.both a4l a4l))
def a2W:PT :=
 (cA 51 [(.va 0)] [] [(.one .val)]
  (cA 51 [(.va 1)] [] [(.one .val)]
  (cA 52 [(.va 2)] [] [(.one .val)]
  (.ret true (.agg [(jA 0),(jA 1),(jA 2),(jA 3),(jA 4),(jA 5),(.va 3),(.va 4),(.va 5)]) []))))
def a7a:PT :=
 (.both a8L a2W)
def a8m:PT :=
 (.both a2W a2W)
def a7Z:PT :=
 (.both a7a a8m)
def a3P:PT :=
 (.both a7L a7Z)
def a3N:Sx.Sys:=⟨[(.sh (.agg [jD,jD,jD,jD,jD,jD,.val,.val,.val]))],a3P,[],none,none⟩
def b3w:List Cfg:=[]
theorem b6b:SysOk Tryz.prog 46 a3N:=a0k (c:=(cg [] [] [] true true false true)) (a0h _ _ _ _ _ _ _ _ _) Tryz.func46 Tryz.call46 (by kernel_rfl) b3w a3N 5000 rfl (by kernel_rfl) (by kernel_rfl) rfl
def c2K:PT :=
 (cA 28 [(.agg [(.va 0),(.va 1),(.va 2),(.va 3)])] [] [(.one jD)]
 (.ite (.not (.eq (.a 7) (.l 0)))
 (.ret false (jA 7) [])
 (cA 79 [(.agg [(.va 0),(.va 1),(.va 2),(.va 3)]),(jA 0),(.agg [(jA 1),(jA 2),(jA 3),(jA 4),(jA 5),(jA 6)])] [] [(.one jD)]
 (.ret false (jA 8) []))))
def b0A:Sx.Sys:=⟨[(.sh (.agg [.val,.val,.val,.val])),(.sh (.one jD)),(.sh (.agg [jD,jD,jD,jD,jD,jD]))],c2K,[],none,none⟩
def b9M:List Cfg:=[]
theorem c1G:SysOk Tryz.prog 54 b0A:=a0k (c:=(cg [] [] [] false false false true)) (a0h _ _ _ _ _ _ _ _ _) Tryz.func54 Tryz.call54 (by kernel_rfl) b9M b0A 5000 rfl (by kernel_rfl) (by kernel_rfl) rfl
def b1R:PT :=
 (nD (.is 0 0)
 (.mkM (.slen 0) [(jE 0),(jE 0),(jE 0),(jE 0),(jE 0),(jE 0),.nilS,.nilS,.nilS] 65 9 120
 (.copyM 1 0 9
 (.ret true (.va 1) []))))
def a3C:Sx.Sys:=⟨[(.sh (.one .val))],b1R,[],none,none⟩
def b0E:List Cfg:=[]
theorem b1t:SysOk Tryz.prog 62 a3C:=a0k (c:=(cg [] [] [] true true false true)) (a0h _ _ _ _ _ _ _ _ _) Tryz.func62 Tryz.call62 (by kernel_rfl) b0E a3C 5000 rfl (by kernel_rfl) (by kernel_rfl) rfl
def a0Q:PT :=
 (nD (.is 0 0)
 (.ite (.nil 0)
 (.ret false .nilS [])
 (.app none (.lit []) 3
 (.app (some 1) (.va 0) 3
 (.ret false (.va 2) [])))))
def a3J:Sx.Sys:=⟨[(.sh (.one .val))],a0Q,[],none,none⟩
def a6i:List Cfg:=[]
def a5s:PT :=
 (jU 0 [(.l 0)] [] [(.va 0),(.va 1)])
def a1E:PT :=
 (nD (.is 0 0)
 (.ite (.lt (.a 0) (.slen 0))
 (nD (treeI (.a 0) (.slen 0))
 (lO false (.ea 0 (.a 0) 4 0) [.val]
 (nD (.is 3 2)
 (nD (.is 3 1)
 (.ite (.seq 2 1)
  (.ret false (.tup [(jA 0),(.bool (.t true))]) [])
  (nD (treeB (jP 0))
  (jU 0 [(jP 0)] [] [(.va 0),(.va 1)])))))))
 (.ret false (.tup [(jE 0),(.bool (.t false))]) [])))
def a1v:Sx.Sys:=⟨[(.sh (.one .val)),(.sh (.one .val))],a5s,[a1E],none,none⟩
def b4g:List Cfg:=[{todo:=[(.code (tfR 5 20)),(.inLoop (tfR 5 20)),(.inBlock 0),(.code [true,true])],sl:=[(.va 0),(.va 1),.undef,.undef,(.junk 0),(.junk 1),(jA 0)]++jkR 2 13++[.undef],H:=[],ni:=1,nb:=0,nv:=2,nj:=15}]
theorem b6q:SysOk Tryz.prog 78 a1v:=a0k (c:=(cg [(tfR 5 20)] [] [] false false false true)) (a0h _ _ _ _ _ _ _ _ _) Tryz.func78 Tryz.call78 (by kernel_rfl) b4g a1v 5000 rfl (by kernel_rfl) (by kernel_rfl) rfl
def c0S:PT :=
 (nD (.is 0 0)
 (.ite (.lt (.l 0) (.slen 0))
 (nD (.is 0 0)
 (nD (treeB (.sub (.slen 0) (.l 1)))
 (nD (treeI (.sub (.slen 0) (.l 1)) (.slen 0))
 (lO false (.ea 0 (.sub (.slen 0) (.l 1)) 12 6) [jD,jD,jD,jD,jD,jD]
 (.ret false (.bool (.and (.eq (.a 0) (.l 0)) (.and (.eq (.a 1) (.l 0)) (.and (.eq (.a 2) (.l 0)) (.and (.eq (.a 3) (.l 0)) (.and (.eq (.a 4) (.l 0)) (.eq (.a 5) (.l 0)))))))) [])))))
 rF))
def a8M:Sx.Sys:=⟨[(.sh (.one .val))],c0S,[],none,none⟩
def b7P:List Cfg:=[]
theorem b9V:SysOk Tryz.prog 86 a8M:=a0k (c:=(cg [] [] [] false false false true)) (a0h _ _ _ _ _ _ _ _ _) Tryz.func86 Tryz.call86 (by kernel_rfl) b7P a8M 5000 rfl (by kernel_rfl) (by kernel_rfl) rfl
def c5d:PT :=
 (nD (.is 0 0)
 (jU 0 [(.slen 0),(.l 0),(.l 0),(.l 0),(.l 0),(.l 0),(.l 0),(.l 0)] [] [(.va 0)]))
def c4f:PT :=
 (.ite (.lt (.a 1) (.a 0))
 (nD (treeI (.a 1) (.slen 0))
 (lO false (.ea 0 (.a 1) 6 0) [jD,jD,jD,jD,jD,jD]
 (nD (treeB (.add (.a 2) (.a 8)))
 (nD (treeB (.add (.a 3) (.a 9)))
 (nD (treeB (.add (.a 4) (.a 10)))
 (nD (treeB (.add (.a 5) (.a 11)))
 (nD (treeB (.add (.a 6) (.a 12)))
 (nD (treeB (.add (.a 7) (.a 13)))
 (nD (treeB (jP 1))
 (jU 0 [(.a 0),(jP 1),(.add (.a 2) (.a 8)),(.add (.a 3) (.a 9)),(.add (.a 4) (.a 10)),(.add (.a 5) (.a 11)),(.add (.a 6) (.a 12)),(.add (.a 7) (.a 13))] [] [(.va 0)]))))))))))
 (.ret false (.agg [(jA 2),(jA 3),(jA 4),(jA 5),(jA 6),(jA 7)]) []))
def b1C:Sx.Sys:=⟨[(.sh (.one .val))],c5d,[c4f],none,none⟩
def c1q:List Cfg:=[{todo:=[(.code (tfR 6 52)),(.inLoop (tfR 6 52)),(.inBlock 0),(.code [true,true,true])],sl:=[(.junk 0),.undef,(.ptr 0 0),(.ptr 1 0),.undef,(.junk 1),(.junk 2),(.va 0),(jA 0),(jA 1)]++jkR 3 16++[.undef],H:=[(.cells [(jE 0),(jE 0),(jE 0),(jE 0),(jE 0),(jE 0)] 138 false),(.cells [(jA 2),(jA 3),(jA 4),(jA 5),(jA 6),(jA 7)] 138 false)],ni:=8,nb:=0,nv:=1,nj:=19}]
theorem c3B:SysOk Tryz.prog 94 b1C:=a0k (c:=(cg [(tfR 6 52)] [] [] true false false true)) (a0h _ _ _ _ _ _ _ _ _) Tryz.func94 Tryz.call94 (by kernel_rfl) c1q b1C 5000 rfl (by kernel_rfl) (by kernel_rfl) rfl
def c2X:PT :=
 (.newM [(jA 0)] 3
 (cA 131 [(.agg [(.va 0),(jA 1),(jA 2),(jA 3),(jA 4),(jA 5),(jA 6)]),(.fn 132 0 [(.pa 1 0)])] [] [(.one jD)]
 (.ret false (jA 7) [])))
def b0j:Sx.Sys:=⟨[(.sh (.one .val)),(.sh (.one jD)),(.sh (.agg [jD,jD,jD,jD,jD,jD]))],c2X,[],none,none⟩
def b9o:List Cfg:=[]
theorem c1r:SysOk Tryz.prog 118 b0j:=a0k (c:=(cg [] [4] [(12,[2])] true false false true)) (a0h _ _ _ _ _ _ _ _ _) Tryz.func118 Tryz.call118 (by kernel_rfl) b9o b0j 5000 rfl (by kernel_rfl) (by kernel_rfl) rfl
def b1V:PT :=
 (cA 124 [(.int .i32 (.a 0))] [] [(.one .bool)]
 (.ite (.a 0)
 (.ret false (.bool (.t true)) [])
 (cA 137 [(.int .i32 (.a 0))] [] [(.one .bool)]
 (.ite (.a 1)
  (.ret false (.bool (.t true)) [])
  (.ret false (.bool (.eq (.a 0) (.l 95))) [])))))
def a9t:Sx.Sys:=⟨[(.sh (.one (.int .i32)))],b1V,[],none,none⟩
def c2f:List Cfg:=[]
theorem c3M:SysOk Tryz.prog 126 a9t:=a0k (c:=(cg [] [] [] false false false true)) (a0h _ _ _ _ _ _ _ _ _) Tryz.func126 Tryz.call126 (by kernel_rfl) c2f a9t 5000 rfl (by kernel_rfl) (by kernel_rfl) rfl
def b8L:PT :=
 (nD (.is 0 0)
 (jU 0 [(.slen 0),(.l 0)] [] [(.va 0)]))
def b7e:PT :=
 (.ite (.lt (.a 1) (.a 0))
 (nD (treeI (.a 1) (.slen 0))
 (lO false (.ea 0 (.a 1) 12 0) [jD,jD,jD,jD,jD,jD,jD,jD,jD,jD,jD,jD]
 (cA 139 [(.agg [(jA 2),(jA 3),(jA 4),(jA 5),(jA 6),(jA 7),(jA 8),(jA 9),(jA 10),(jA 11),(jA 12),(jA 13)])] [] [(.one .bool)]
 (.ite (.not (.a 0))
  rF
  (nD (treeB (jP 1))
  (jU 0 [(.a 0),(jP 1)] [] [(.va 0)]))))))
 (.ret false (.bool (.t true)) []))
def a5U:Sx.Sys:=⟨[(.sh (.one .val))],b8L,[b7e],none,none⟩
def b5A:List Cfg:=[{todo:=[(.code (tfR 5 20)),(.inLoop (tfR 5 20)),(.inBlock 0),(.code [true,true])],sl:=[(.junk 0),.undef,(.junk 1),.undef,(.junk 2),(.va 0),(jA 0),(jA 1)]++jkR 3 7,H:=[],ni:=2,nb:=0,nv:=1,nj:=10}]
theorem b7V:SysOk Tryz.prog 134 a5U:=a0k (c:=(cg [(tfR 5 20)] [] [] false false false true)) (a0h _ _ _ _ _ _ _ _ _) Tryz.func134 Tryz.call134 (by kernel_rfl) b5A a5U 5000 rfl (by kernel_rfl) (by kernel_rfl) rfl
def a1H:PT :=
 (nD (.is 0 0)
 (.ite (.lt (.l 10) (.slen 0))
 (.ret false (.bool (.t true)) [])
 (nD (.is 0 1)
 (.ite (.lt (.l 10) (.slen 1))
  (.ret false (.bool (.t true)) [])
  (nD (.is 0 2)
  (.ite (.lt (.l 20) (.slen 2))
  (.ret false (.bool (.t true)) [])
  (nD (.is 0 3)
  (.ite (.lt (.l 10) (.slen 3))
   (.ret false (.bool (.t true)) [])
   (nD (.is 0 4)
   (.ret false (.bool (.lt (.l 200) (.slen 4))) []))))))))))
def a3y:Sx.Sys:=⟨[(.sh (.agg [.val,.val,.val,.val])),(.sh (.one .val))],a1H,[],none,none⟩
def b2S:List Cfg:=[]
theorem b5D:SysOk Tryz.prog 7 a3y:=a0k (c:=(cg [] [] [] false false false true)) (a0h _ _ _ _ _ _ _ _ _) Tryz.func7 Tryz.call7 (by kernel_rfl) b2S a3y 5000 rfl (by kernel_rfl) (by kernel_rfl) rfl
def a5K:PT :=
 (nD (.is 4 0)
 (.ite (.nil 0)
 (.ret false (jE 0) [])
 (nD (.is 1 0)
 (lO false (.pa 0 8) [.val]
 (nD (.is 0 1)
 (.ret false (.int .i64 (.slen 1)) []))))))
def a4i:Sx.Sys:=⟨[(.sh (.one .val))],a5K,[],none,none⟩
def b5h:List Cfg:=[]
theorem b7E:SysOk Tryz.prog 15 a4i:=a0k (c:=(cg [] [] [] true false false true)) (a0h _ _ _ _ _ _ _ _ _) Tryz.func15 Tryz.call15 (by kernel_rfl) b5h a4i 5000 rfl (by kernel_rfl) (by kernel_rfl) rfl
def b6V:PT :=
 (.app none (.lit [[(.str [97]),(jE 1),(jE 0),(jE 1),(jE 0)]]) 5
 (.app none (.lit [[(.str [120]),(jE 0),(jE 0),(jE 5)],[(.str [121]),(jE 0),(jE 0),(jE 5)]]) 4
 (.ret false (.agg [(.va 0),(.va 1),.nilS,.nilS]) [])))
def a5l:Sx.Sys:=⟨[],b6V,[],none,none⟩
def b3P:List Cfg:=[]
theorem b6I:SysOk Tryz.prog 23 a5l:=a0k (c:=(cg [] [] [] false false false true)) (a0h _ _ _ _ _ _ _ _ _) Tryz.func23 Tryz.call23 (by kernel_rfl) b3P a5l 5000 rfl (by kernel_rfl) (by kernel_rfl) rfl
def b5I:PT :=
 (.mkM (.slen 3) [(.bool (.t false))] 4 1 1
  (.storeM (.pa 0 15) [(.va 2)]
  (nD (.is 1 0)
  (.storeM (.pa 0 16) [(.va 4)]
  (.ret true (.tup []) [])))))
def b5v:PT :=
 (.storeM (.pa 0 15) [(.va 2)]
  (.mkM (.slen 3) [(.bool (.t false))] 4 1 1
  (nD (.is 1 0)
  (.storeM (.pa 0 16) [(.va 4)]
  (.ret true (.tup []) [])))))
def b4O:PT :=
 (.mkM (.slen 1) [(jE 0),(jE 0),(jE 0),(jE 0),(jE 0),(jE 0)] 51 6 48
  (lO false (.pa 0 17) [.val]
  (nD (.is 0 3)
  (nD (.is 1 0)
  (.both b5I b5v)))))
def b5O:PT :=
 (.mkM (.slen 2) [(.bool (.t false))] 4 1 1
   (.storeM (.pa 0 15) [(.va 3)]
   (nD (.is 1 0)
   (.storeM (.pa 0 16) [(.va 4)]
   (.ret true (.tup []) [])))))
def b4R:PT :=
 (.storeM (.pa 0 15) [(.va 3)]
   (.mkM (.slen 2) [(.bool (.t false))] 4 1 1
   (nD (.is 1 0)
   (.storeM (.pa 0 16) [(.va 4)]
   (.ret true (.tup []) [])))))
def b5j:PT :=
 (.mkM (.slen 1) [(jE 0),(jE 0),(jE 0),(jE 0),(jE 0),(jE 0)] 51 6 48
  (nD (.is 1 0)
  (.both b5O b4R)))
def b5J:PT :=
 (.mkM (.slen 2) [(.bool (.t false))] 4 1 1
  (.mkM (.slen 1) [(jE 0),(jE 0),(jE 0),(jE 0),(jE 0),(jE 0)] 51 6 48
  (nD (.is 1 0)
  (.storeM (.pa 0 15) [(.va 4)]
  (nD (.is 1 0)
  (.storeM (.pa 0 16) [(.va 3)]
  (.ret true (.tup []) [])))))))
def b5K:PT :=
 (lO false (.pa 0 17) [.val]
  (nD (.is 0 2)
  (.both b5j b5J)))
def b4J:PT :=
 (lO false (.pa 0 17) [.val]
 (nD (.is 0 1)
 (.both b4O b5K)))
def b4l:PT :=
 (.mkM (.slen 1) [(.bool (.t false))] 4 1 1
   (.storeM (.pa 0 15) [(.va 3)]
   (nD (.is 1 0)
   (.storeM (.pa 0 16) [(.va 4)]
   (.ret true (.tup []) [])))))
def b3Q:PT :=
 (.storeM (.pa 0 15) [(.va 3)]
   (.mkM (.slen 1) [(.bool (.t false))] 4 1 1
   (nD (.is 1 0)
   (.storeM (.pa 0 16) [(.va 4)]
   (.ret true (.tup []) [])))))
def b3G:PT :=
 (.mkM (.slen 2) [(jE 0),(jE 0),(jE 0),(jE 0),(jE 0),(jE 0)] 51 6 48
  (nD (.is 1 0)
  (.both b4l b3Q)))
def b3K:PT :=
 (.mkM (.slen 1) [(.bool (.t false))] 4 1 1
  (.mkM (.slen 2) [(jE 0),(jE 0),(jE 0),(jE 0),(jE 0),(jE 0)] 51 6 48
  (nD (.is 1 0)
  (.storeM (.pa 0 15) [(.va 4)]
  (nD (.is 1 0)
  (.storeM (.pa 0 16) [(.va 3)]
  (.ret true (.tup []) [])))))))
def b4j:PT :=
 (lO false (.pa 0 17) [.val]
  (nD (.is 0 2)
  (.both b3G b3K)))
def b3M:PT :=
 (.mkM (.slen 1) [(.bool (.t false))] 4 1 1
  (lO false (.pa 0 17) [.val]
  (nD (.is 0 3)
  (.mkM (.slen 3) [(jE 0),(jE 0),(jE 0),(jE 0),(jE 0),(jE 0)] 51 6 48
  (nD (.is 1 0)
  (.storeM (.pa 0 15) [(.va 4)]
  (nD (.is 1 0)
  (.storeM (.pa 0 16) [(.va 2)]
  (.ret true (.tup []) [])))))))))
def b3X:PT :=
 (lO false (.pa 0 17) [.val]
 (nD (.is 0 1)
 (.both b4j b3M)))
def a5W:PT :=
 (nD (.is 1 0)
 (nD (.is 1 0)
 (.both b4J b3X)))
def b0F:Sx.Sys:=⟨[(.sh (.one .val))],a5W,[],none,none⟩
def b5k:List Cfg:=[]
def b6w:PT :=
 (cA 80 [(.agg [(.va 0),(.va 1),(.va 2),(.va 3)]),(jA 0)] [] [(.one .bool)]
 (.ite (.not (.a 0))
 (.ret false (jE 6) [])
 (nD (treeI (.a 0) (.slen 1))
 (lO false (.ea 1 (.a 0) 4 2) [jD]
 (.ite (.not (.eq (.a 13) (.l 0)))
  (cA 81 [(.agg [(jA 1),(jA 2),(jA 3),(jA 4),(jA 5),(jA 6)]),(.agg [(jA 7),(jA 8),(jA 9),(jA 10),(jA 11),(jA 12)])] [] [(.one jD)]
  (.ite (.lt (.a 13) (.a 14))
  (.ret false (jE 17) [])
  (.ret false (jE 0) [])))
  (.ret false (jE 0) []))))))
def a5a:Sx.Sys:=⟨[(.sh (.agg [.val,.val,.val,.val])),(.sh (.one jD)),(.sh (.agg [jD,jD,jD,jD,jD,jD,jD,jD,jD,jD,jD,jD]))],b6w,[],none,none⟩
def b2K:List Cfg:=[]
theorem b5d:SysOk Tryz.prog 55 a5a:=a0k (c:=(cg [] [] [] false false false true)) (a0h _ _ _ _ _ _ _ _ _) Tryz.func55 Tryz.call55 (by kernel_rfl) b2K a5a 5000 rfl (by kernel_rfl) (by kernel_rfl) rfl
def b0l:PT :=
 (nD (.is 0 0)
 (.ite (.eq (.slen 0) (.l 0))
 (.ret false (jE 1) [])
 (nD (.is 0 0)
 (.ite (.lt (.l 6) (.slen 0))
  (.ret false (jE 3) [])
  (nD (.is 0 0)
  (jU 0 [(.slen 0),(.l 0)] [] [(.va 0)]))))))
def a3X:PT :=
 (.ite (.lt (.a 1) (.a 0))
 (nD (treeI (.a 1) (.slen 0))
 (lO false (.ea 0 (.a 1) 5 0) [.val,jD,jD,jD,jD]
 (cA 97 [(.va 1)] [] [(.one .bool)]
 (.ite (.not (.a 0))
  (.ret false (jE 5) [])
  (.cut 0 none (some (.a 1)) 5
  (cA 98 [(.va 2),(.va 1)] [] [(.one jD),(.one .bool)]
  (.ite (.a 1)
  (.ret false (jE 7) [])
  (cA 99 [(jA 2),(jE 1),(jE 4)] [] [(.one .bool)]
  (.ite (.not (.a 2))
   (.ret false (jE 4) [])
   (cA 99 [(jA 3),(jE 0),(jE 1000000)] [] [(.one .bool)]
   (.ite (.not (.a 3))
   (.ret false (jE 4) [])
   (cA 99 [(jA 4),(jE 0),(jE 1000)] [] [(.one .bool)]
   (.ite (.not (.a 4))
    (.ret false (jE 4) [])
    (cA 99 [(jA 5),(jE 0),(jE 4)] [] [(.one .bool)]
    (.ite (.not (.a 5))
    (.ret false (jE 4) [])
    (nD (treeB (jP 1))
    (jU 0 [(.a 0),(jP 1)] [] [(.va 0)])))))))))))))))))
 (cA 57 [(.va 0)] [] [(.agg [jD,jD,jD,jD,jD,jD])]
 (cA 100 [(.agg [(jA 2),(jA 3),(jA 4),(jA 5),(jA 6),(jA 7)])] [] [(.one jD)]
 (.ite (.eq (.a 8) (.l 0))
  (.ret false (jE 12) [])
  (.ret false (jE 0) [])))))
def a2J:Sx.Sys:=⟨[(.sh (.one .val))],b0l,[a3X],none,none⟩
def b9a:List Cfg:=[{todo:=[(.code (tfR 6 52)),(.inLoop (tfR 6 52)),(.inBlock 1),(.code [true,true,true])],sl:=[(.va 0),.undef]++jkR 0 13++[(.va 0),(jA 0),(jA 1)]++jkR 13 41++udR 4,H:=[],ni:=2,nb:=0,nv:=1,nj:=54}]
theorem c1K:SysOk Tryz.prog 63 a2J:=a0k (c:=(cg [(tfR 6 52)] [] [] false false false true)) (a0h _ _ _ _ _ _ _ _ _) Tryz.func63 Tryz.call63 (by kernel_rfl) b9a a2J 5000 rfl (by kernel_rfl) (by kernel_rfl) rfl
def c2M:PT :=
 (.ite (.lt (.a 0) (.l 0))
 (.ret false (jE 6) [])
 (nD (.is 0 1)
 (.ite (.le (.slen 1) (.a 0))
  (.ret false (jE 6) [])
  (cA 85 [(.agg [(jA 1),(jA 2),(jA 3),(jA 4),(jA 5),(jA 6)])] [] [(.one jD)]
  (.ite (.not (.eq (.a 7) (.l 0)))
  (.ret false (jA 7) [])
  (cA 115 [(.agg [(.va 0),(.va 1),(.va 2),(.va 3)])] [] [(.agg [jD,jD,jD,jD,jD,jD]),(.agg [jD,jD,jD,jD,jD,jD])]
  (cA 57 [(.va 0)] [] [(.agg [jD,jD,jD,jD,jD,jD])]
  (cA 116 [(.agg [(jA 1),(jA 2),(jA 3),(jA 4),(jA 5),(jA 6)]),(.agg [(jA 20),(jA 21),(jA 22),(jA 23),(jA 24),(jA 25)])] [] [(.one .bool)]
  (.ite (.not (.a 0))
   (.ret false (jE 14) [])
   (cA 117 [(.agg [(.va 0),(.va 1),(.va 2),(.va 3)]),(.agg [(jA 14),(jA 15),(jA 16),(jA 17),(jA 18),(jA 19)]),(jA 0),(.agg [(jA 1),(jA 2),(jA 3),(jA 4),(jA 5),(jA 6)])] [] [(.agg [jD,jD,jD,jD,jD,jD])]
   (cA 116 [(.agg [(jA 26),(jA 27),(jA 28),(jA 29),(jA 30),(jA 31)]),(.agg [(jA 8),(jA 9),(jA 10),(jA 11),(jA 12),(jA 13)])] [] [(.one .bool)]
   (.ite (.not (.a 1))
   (.ret false (jE 14) [])
   (nD (.is 0 2)
   (jU 0 [(.a 0),(.slen 2),(.l 0),(.a 1),(.a 2),(.a 3),(.a 4),(.a 5),(.a 6)] [] [(.va 2),(.va 0),(.va 1),(.va 3)]))))))))))))))
def c1x:PT :=
 (.ite (.lt (.a 2) (.a 1))
 (nD (treeI (.a 2) (.slen 0))
 (lO false (.ea 0 (.a 2) 3 0) [jD,jD,jD]
 (.ite (.eq (.a 9) (.l (-1)))
  (cA 118 [(.va 1),(jA 10),(.agg [(jA 3),(jA 4),(jA 5),(jA 6),(jA 7),(jA 8)])] [] [(.one jD)]
  (.ite (.lt (.a 11) (.a 12))
  (.ret false (jE 14) [])
  (nD (treeB (jP 2))
  (jU 0 [(.a 0),(.a 1),(jP 2),(.a 3),(.a 4),(.a 5),(.a 6),(.a 7),(.a 8)] [] [(.va 0),(.va 1),(.va 2),(.va 3)]))))
  (.ite (.eq (.a 9) (.a 0))
  (cA 118 [(.va 1),(jA 10),(.agg [(jA 3),(jA 4),(jA 5),(jA 6),(jA 7),(jA 8)])] [] [(.one jD)]
  (.ite (.lt (.a 11) (.a 12))
   (.ret false (jE 14) [])
   (nD (treeB (jP 2))
   (jU 0 [(.a 0),(.a 1),(jP 2),(.a 3),(.a 4),(.a 5),(.a 6),(.a 7),(.a 8)] [] [(.va 0),(.va 1),(.va 2),(.va 3)]))))
  (nD (treeB (jP 2))
  (jU 0 [(.a 0),(.a 1),(jP 2),(.a 3),(.a 4),(.a 5),(.a 6),(.a 7),(.a 8)] [] [(.va 0),(.va 1),(.va 2),(.va 3)]))))))
 (.ret false (jE 0) []))
def b0d:Sx.Sys:=⟨[(.sh (.agg [.val,.val,.val,.val])),(.sh (.one jD)),(.sh (.agg [jD,jD,jD,jD,jD,jD]))],c2M,[c1x],none,none⟩
def b9S:List Cfg:=[{todo:=[(.code (tfR 9 500)),(.inLoop (tfR 9 500)),(.inBlock 0),(.code (tfR 6 63))],sl:=[(.junk 0),(jA 0),(.junk 1),(.ptr 0 0),.undef,(.ptr 1 0)]++jkR 2 4++[.undef]++jkR 6 14++[.undef]++jkR 20 22++[(.va 0),(jA 1),(jA 2)]++jkR 42 24,H:=[(.cells [(.va 1),(.va 2),(.va 0),(.va 3)] 27 false),(.cells [(jA 3),(jA 4),(jA 5),(jA 6),(jA 7),(jA 8)] 51 false)],ni:=9,nb:=0,nv:=4,nj:=66}]
theorem c1W:SysOk Tryz.prog 79 b0d:=a0k (c:=(cg [(tfR 9 500)] [] [] false false false true)) (a0h _ _ _ _ _ _ _ _ _) Tryz.func79 Tryz.call79 (by kernel_rfl) b9S b0d 5000 rfl (by kernel_rfl) (by kernel_rfl) rfl
def b8I:PT :=
 (.ret false (.bool (.and (.eq (.a 6) (.l 0)) (.and (.eq (.a 7) (.l 0)) (.and (.eq (.a 8) (.l 0)) (.and (.eq (.a 9) (.l 0)) (.and (.eq (.a 10) (.l 0)) (.eq (.a 11) (.l 0)))))))) [])
def a5T:Sx.Sys:=⟨[(.sh (.agg [jD,jD,jD,jD,jD,jD,jD,jD,jD,jD,jD,jD]))],b8I,[],none,none⟩
def b5B:List Cfg:=[]
theorem b7l:SysOk Tryz.prog 87 a5T:=a0k (c:=(cg [] [] [] false false false true)) (a0h _ _ _ _ _ _ _ _ _) Tryz.func87 Tryz.call87 (by kernel_rfl) b5B a5T 5000 rfl (by kernel_rfl) (by kernel_rfl) rfl
def b8R:PT :=
 (.newM [(jA 0),(jA 1),(jA 2),(jA 3)] 29
 (.ret false (.fn 122 0 [(.pa 0 0)]) []))
def a5Q:Sx.Sys:=⟨[(.sh (.agg [jD,jD,jD,jD]))],b8R,[],none,none⟩
def b5a:List Cfg:=[]
theorem b7I:SysOk Tryz.prog 95 a5Q:=a0k (c:=(cg [] [1] [] true false false true)) (a0h _ _ _ _ _ _ _ _ _) Tryz.func95 Tryz.call95 (by kernel_rfl) b5a a5Q 5000 rfl (by kernel_rfl) (by kernel_rfl) rfl
def b2r:PT :=
 (cA 133 [(.va 0),(.agg [(jA 7),(jA 8),(jA 9),(jA 10),(jA 11),(jA 12)])] [] [(.one jD)]
 (.ret false (jA 13) []))
def a3R:Sx.Sys:=⟨[(.sh (.agg [.val,.val,.val,.val,jD,.val])),(.sh (.agg [jD,jD,jD,jD,jD,jD,jD,jD,jD,jD,jD,jD]))],b2r,[],none,none⟩
def b1a:List Cfg:=[]
theorem b1O:SysOk Tryz.prog 119 a3R:=a0k (c:=(cg [] [] [] false false false true)) (a0h _ _ _ _ _ _ _ _ _) Tryz.func119 Tryz.call119 (by kernel_rfl) b1a a3R 5000 rfl (by kernel_rfl) (by kernel_rfl) rfl
def b9T:PT :=
 (nD (.is 0 0)
 (.mkM (.slen 0) [(jE 0)] 2 1 8
 (nD (.is 0 0)
 (.mkM (.slen 0) [(jE 0)] 3 1 8
 (nD (.is 0 2)
 (jU 0 [(.slen 2),(.l 0)] [] [(.va 0),(.va 1),(.va 2)]))))))
def a3b:PT :=
 (.ite (.lt (.a 1) (.a 0))
 (nD (treeI (.a 1) (.slen 2))
 (.storeM (.ea 2 (.a 1) 1 0) [(.int .i64 (.l (-1)))]
 (nD (treeB (jP 1))
 (jU 0 [(.a 0),(jP 1)] [] [(.va 0),(.va 1),(.va 2)]))))
 (nD (.is 0 0)
 (jU 1 [(.l (-1)),(.slen 0),(.l 0)] [] [(.va 0),(.va 1),(.va 2)])))
def a1S:PT :=
 (.ite (.lt (.a 2) (.a 1))
 (nD (.is 0 0)
 (jU 2 [(.l (-1)),(.a 1),(.a 2),(.slen 0),(.l 0)] [] [(.va 0),(.va 1),(.va 2)]))
 (.ite (.lt (.a 0) (.l 0))
  (.ret true (.tup [(.va 1),.nilS]) [])
  (cA 141 [(.va 2),(jA 0)] [] [(.one .val)]
  (.ret true (.tup [.nilS,(.va 3)]) []))))
def a1Q:PT :=
 (.ite (.lt (.a 4) (.a 3))
 (nD (.is 0 0)
 (jU 3 [(.a 0),(.a 4),(.a 1),(.a 2),(.a 3),(.slen 0),(.l 0)] [] [(.va 0),(.va 1),(.va 2)]))
 (.ite (.lt (.a 0) (.l 0))
  (.ite (.lt (.a 0) (.l 0))
  (.ret true (.tup [(.va 1),.nilS]) [])
  (cA 141 [(.va 2),(jA 0)] [] [(.one .val)]
  (.ret true (.tup [.nilS,(.va 3)]) [])))
  (nD (treeB (jP 2))
  (jU 1 [(.a 0),(.a 1),(jP 2)] [] [(.va 0),(.va 1),(.va 2)]))))
def a4C:PT :=
 (lO false (.ea 1 (.a 1) 1 0) [jD]
  (cA 140 [(.agg [(jA 7),(jA 8),(jA 9),(jA 10),(jA 11),(jA 12),(jA 13),(jA 14),(jA 15),(jA 16),(jA 17),(jA 18)]),(.agg [(jA 19),(jA 20),(jA 21),(jA 22),(jA 23),(jA 24),(jA 25),(jA 26),(jA 27),(jA 28),(jA 29),(jA 30)])] [] [(.one jD)]
  (nD (treeB (.add (.a 31) (.a 32)))
  (nD (treeI (.a 6) (.slen 1))
  (lO false (.ea 1 (.a 6) 1 0) [jD]
  (.ite (.lt (.add (.a 31) (.a 32)) (.a 33))
  (nD (treeI (.a 6) (.slen 1))
  (.storeM (.ea 1 (.a 6) 1 0) [(.int .i64 (.add (.a 31) (.a 32)))]
  (nD (treeI (.a 6) (.slen 2))
  (.storeM (.ea 2 (.a 6) 1 0) [(jA 1)]
  (nD (treeB (jP 6))
  (jU 3 [(.a 6),(.a 1),(.a 2),(.a 3),(.a 4),(.a 5),(jP 6)] [] [(.va 0),(.va 1),(.va 2)]))))))
  (nD (treeB (jP 6))
  (jU 3 [(.a 0),(.a 1),(.a 2),(.a 3),(.a 4),(.a 5),(jP 6)] [] [(.va 0),(.va 1),(.va 2)]))))))))
def a4D:PT :=
 (cA 140 [(.agg [(jA 7),(jA 8),(jA 9),(jA 10),(jA 11),(jA 12),(jA 13),(jA 14),(jA 15),(jA 16),(jA 17),(jA 18)]),(.agg [(jA 19),(jA 20),(jA 21),(jA 22),(jA 23),(jA 24),(jA 25),(jA 26),(jA 27),(jA 28),(jA 29),(jA 30)])] [] [(.one jD)]
  (lO false (.ea 1 (.a 1) 1 0) [jD]
  (nD (treeB (.add (.a 32) (.a 31)))
  (nD (treeI (.a 6) (.slen 1))
  (lO false (.ea 1 (.a 6) 1 0) [jD]
  (.ite (.lt (.add (.a 32) (.a 31)) (.a 33))
  (nD (treeI (.a 6) (.slen 1))
  (.storeM (.ea 1 (.a 6) 1 0) [(.int .i64 (.add (.a 32) (.a 31)))]
  (nD (treeI (.a 6) (.slen 2))
  (.storeM (.ea 2 (.a 6) 1 0) [(jA 1)]
  (nD (treeB (jP 6))
  (jU 3 [(.a 6),(.a 1),(.a 2),(.a 3),(.a 4),(.a 5),(jP 6)] [] [(.va 0),(.va 1),(.va 2)]))))))
  (nD (treeB (jP 6))
  (jU 3 [(.a 0),(.a 1),(.a 2),(.a 3),(.a 4),(.a 5),(jP 6)] [] [(.va 0),(.va 1),(.va 2)]))))))))
def a1p:PT :=
 (.ite (.lt (.a 6) (.a 5))
 (nD (treeI (.a 1) (.slen 1))
 (nD (treeI (.a 1) (.slen 0))
 (nD (treeI (.a 6) (.slen 0))
 (lO false (.ea 0 (.a 1) 12 0) [jD,jD,jD,jD,jD,jD,jD,jD,jD,jD,jD,jD]
 (lO false (.ea 0 (.a 6) 12 0) [jD,jD,jD,jD,jD,jD,jD,jD,jD,jD,jD,jD]
 (.both a4C a4D))))))
 (nD (treeB (jP 1))
 (jU 2 [(.a 0),(.a 2),(.a 3),(.a 4),(jP 1)] [] [(.va 0),(.va 1),(.va 2)])))
def a0n:Sx.Sys:=⟨[(.sh (.one .val))],b9T,[a3b,a1S,a1Q,a1p],none,none⟩
def b6h:List Cfg:=[{todo:=[(.code (tfR 8 180)),(.inLoop (tfR 8 180)),(.inBlock 0),(.code (tfR 5 23)),(.inScope [false,true])],sl:=[(.va 0),.undef,(.junk 0),(.junk 1),(.va 1),(.va 2),(.junk 2)]++udR 4++jkR 3 7++[(jA 0),(jA 1)]++jkR 10 6++udR 54,H:=[],ni:=2,nb:=0,nv:=3,nj:=16},
 {todo:=[(.code (tfR 11 1524)),(.inLoop (tfR 11 1524)),(.inBlock 2),(.code (tfR 8 191)),(.inScope [false,true])],sl:=[(.va 0),.undef,(.junk 0),(.junk 1),(.va 1),(.va 2),(.junk 2),(jA 0)]++jkR 3 19++[(jA 1),(jA 2)]++jkR 22 45++udR 6,H:=[],ni:=3,nb:=0,nv:=3,nj:=67},
 {todo:=[(.code (tfR 20 780692)),(.inLoop (tfR 20 780692)),(.inBlock 4),(.code (tfR 17 97587)),(.inBlock 3),(.code (tfR 14 12199)),(.inLoop (tfR 11 1524)),(.inBlock 2),(.code (tfR 8 191)),(.inScope [false,true])],sl:=[(.va 0),.undef,(.junk 0),(.junk 1),(.va 1),(.va 2),(.junk 2),(jA 0)]++jkR 3 19++[(jA 1),(jA 2),(.junk 22),(.junk 23),(jA 3),(jA 4)]++jkR 24 41++udR 6,H:=[],ni:=5,nb:=0,nv:=3,nj:=65},
 {todo:=[(.code (tfR 28 199857356)),(.inLoop (tfR 28 199857356)),(.inBlock 6),(.inBlock 5),(.code (tfR 23 6245543)),(.inLoop (tfR 20 780692)),(.inBlock 4),(.code (tfR 17 97587)),(.inBlock 3),(.code (tfR 14 12199)),(.inLoop (tfR 11 1524)),(.inBlock 2),(.code (tfR 8 191)),(.inScope [false,true])],sl:=[(.va 0),.undef,(.junk 0),(.junk 1),(.va 1),(.va 2),(.junk 2),(jA 0),(jA 1)]++jkR 3 18++[(jA 2),(jA 3),(.junk 21),(.junk 22),(jA 4),(jA 1),(.junk 23),(.junk 24),(.junk 25),(jA 5),(jA 6)]++jkR 26 36++udR 6,H:=[],ni:=7,nb:=0,nv:=3,nj:=62}]
theorem b8N:SysOk Tryz.prog 135 a0n:=a0k (c:=(cg [(tfR 8 180),(tfR 11 1524),(tfR 20 780692),(tfR 28 199857356)] [] [] true true false true)) (a0h _ _ _ _ _ _ _ _ _) Tryz.func135 Tryz.call135 (by kernel_rfl) b6h a0n 5000 rfl (by kernel_rfl) (by kernel_rfl) rfl
def b6f:PT :=
 (cA 23 [] [] [(.agg [.val,.val,.val,.val])]
 (cA 9 [(.agg [(.va 0),(.va 1),(.va 2),(.va 3)]),(.agg [(jE 1),(jE 0),(jE 1),(jE 2)])] [] [(.one .val),(.one jD)]
 (.ite (.not (.eq (.a 0) (.l 0)))
 rF
 (nD (.is 4 4)
 (.ite (.nil 4)
  rF
  (cA 24 [(.va 4),(jE 0),(.agg [(jE 1),(jE 0),(jE 0),(jE 0),(jE 0),(jE 0)])] [] [(.one jD)]
  (cA 24 [(.va 4),(jE 1),(.agg [(jE 1),(jE 0),(jE 0),(jE 0),(jE 0),(jE 0)])] [] [(.one jD)]
  (cA 25 [(.va 4)] [] [(.one .bool),(.one jD)]
  (cA 24 [(.va 4),(jE 0),(.agg [(jE 1),(jE 0),(jE 0),(jE 0),(jE 0),(jE 0)])] [] [(.one jD)]
  (cA 24 [(.va 4),(jE 1),(.agg [(jE 1),(jE 0),(jE 0),(jE 0),(jE 0),(jE 0)])] [] [(.one jD)]
  (cA 25 [(.va 4)] [] [(.one .bool),(.one jD)]
  (cA 24 [(.va 4),(jE 1),(.agg [(jE 1),(jE 0),(jE 0),(jE 0),(jE 0),(jE 0)])] [] [(.one jD)]
  (cA 25 [(.va 4)] [] [(.one .bool),(.one jD)]
  (cA 26 [(.va 4),(jE 1)] [] [(.one .val)]
  (.ite (.eq (.a 1) (.l 0))
  (.ite (.eq (.a 2) (.l 0))
   (.ite (.not (.a 0))
   (.ite (.eq (.a 3) (.l 0))
    (.ite (.not (.a 1))
    (.ite (.eq (.a 6) (.l 0))
     (.ite (.a 2)
     (.ite (.eq (.a 8) (.l 0))
      (cA 16 [(.va 4)] [] [(.one .bool)]
      (.ite (.a 3)
      (cA 15 [(.va 4)] [] [(.one jD)]
      (.ite (.eq (.a 9) (.l 3))
       (cA 14 [(.va 4)] [] [(.agg [jD,jD,jD,jD,jD,jD])]
       (.ite (.and (.eq (.a 10) (.l 2)) (.and (.eq (.a 11) (.l 0)) (.and (.eq (.a 12) (.l 0)) (.and (.eq (.a 13) (.l 0)) (.and (.eq (.a 14) (.l 0)) (.eq (.a 15) (.l 0)))))))
       (nD (.is 0 5)
       (.ite (.eq (.slen 5) (.l 3))
        (nD (.lt (.l 2) (.slen 5))
        (lO true (.ea 5 (.l 2) 12 6) [jD,jD,jD,jD,jD,jD]
        (.ite (.and (.eq (.a 16) (.l 1)) (.and (.eq (.a 17) (.l 0)) (.and (.eq (.a 18) (.l 0)) (.and (.eq (.a 19) (.l 0)) (.and (.eq (.a 20) (.l 0)) (.eq (.a 21) (.l 0)))))))
        (cA 24 [(.va 4),(jE 0),(.agg [(jE 1),(jE 0),(jE 0),(jE 0),(jE 0),(jE 0)])] [] [(.one jD)]
        (.ite (.eq (.a 22) (.l 10))
         (cA 27 [(.va 4),(jE 1)] [] [(.one jD)]
         (.ite (.eq (.a 23) (.l 0))
         (cA 14 [(.va 4)] [] [(.agg [jD,jD,jD,jD,jD,jD])]
         (.ite (.and (.eq (.a 24) (.l 1)) (.and (.eq (.a 25) (.l 0)) (.and (.eq (.a 26) (.l 0)) (.and (.eq (.a 27) (.l 0)) (.and (.eq (.a 28) (.l 0)) (.eq (.a 29) (.l 0)))))))
          (cA 16 [(.va 4)] [] [(.one .bool)]
          (.ret false (.bool (.not (.a 4))) []))
          rF))
         rF))
         rF))
        rF)))
        rF))
       rF))
       rF))
      rF))
      rF)
     rF)
     rF)
    rF)
    rF)
   rF)
   rF)
  rF)))))))))))))))
def a4O:Sx.Sys:=⟨[],b6f,[],none,none⟩
def b2I:List Cfg:=[]
theorem b5c:SysOk Tryz.prog 8 a4O:=a0k (c:=(cg [] [] [] false false false true)) (a0h _ _ _ _ _ _ _ _ _) Tryz.func8 Tryz.call8 (by kernel_rfl) b2I a4O 5000 rfl (by kernel_rfl) (by kernel_rfl) rfl
def a6J:PT :=
 (nD (.is 4 0)
 (.ite (.not (.nil 0))
 (nD (.is 1 0)
 (lO false (.pa 0 18) [.bool]
 (.ret false (.bool (.a 0)) [])))
 rF))
def a4t:Sx.Sys:=⟨[(.sh (.one .val))],a6J,[],none,none⟩
def b6u:List Cfg:=[]
theorem b8T:SysOk Tryz.prog 16 a4t:=a0k (c:=(cg [] [] [] true false false true)) (a0h _ _ _ _ _ _ _ _ _) Tryz.func16 Tryz.call16 (by kernel_rfl) b6u a4t 5000 rfl (by kernel_rfl) (by kernel_rfl) rfl
def b7A:PT :=
 (lO false (.pa 0 7) [jD]
     (cA 26 [(.va 0),(jA 0)] [] [(.one .val)]
     (cA 56 [(.agg [(.va 10),(.va 11),(.va 12),(.va 13)]),(jA 15),(jA 0),(.va 14),(.agg [(jA 7),(jA 8),(jA 9),(jA 10),(jA 11),(jA 12),(jA 1),(jA 2),(jA 3),(jA 4),(jA 5),(jA 6)])] [] [(.one jD)]
     (.ite (.not (.eq (.a 16) (.l 0)))
      (.ret true (jA 16) [])
      (nD (.is 1 0)
      (nD (.is 1 0)
      (lO false (.pa 0 15) [.val]
      (lO false (.pa 0 16) [.val]
      (nD (treeI (.a 0) (.slen 15))
      (.storeM (.ea 15 (.a 0) 6 0) [(jA 1),(jA 2),(jA 3),(jA 4),(jA 5),(jA 6)]
      (nD (treeI (.a 0) (.slen 16))
      (.storeM (.ea 16 (.a 0) 1 0) [(.bool (.t true))]
      (.ret true (jE 0) [])))))))))))))
def b6W:PT :=
 (cA 26 [(.va 0),(jA 0)] [] [(.one .val)]
     (lO false (.pa 0 7) [jD]
     (cA 56 [(.agg [(.va 10),(.va 11),(.va 12),(.va 13)]),(jA 15),(jA 0),(.va 14),(.agg [(jA 7),(jA 8),(jA 9),(jA 10),(jA 11),(jA 12),(jA 1),(jA 2),(jA 3),(jA 4),(jA 5),(jA 6)])] [] [(.one jD)]
     (.ite (.not (.eq (.a 16) (.l 0)))
      (.ret true (jA 16) [])
      (nD (.is 1 0)
      (nD (.is 1 0)
      (lO false (.pa 0 15) [.val]
      (lO false (.pa 0 16) [.val]
      (nD (treeI (.a 0) (.slen 15))
      (.storeM (.ea 15 (.a 0) 6 0) [(jA 1),(jA 2),(jA 3),(jA 4),(jA 5),(jA 6)]
      (nD (treeI (.a 0) (.slen 16))
      (.storeM (.ea 16 (.a 0) 1 0) [(.bool (.t true))]
      (.ret true (jE 0) [])))))))))))))
def b7Y:PT :=
 (lO false (.pa 0 0) [.val,.val,.val,.val]
     (.both b7A b6W))
def b7D:PT :=
 (lO false (.pa 0 0) [.val,.val,.val,.val]
      (cA 26 [(.va 0),(jA 0)] [] [(.one .val)]
      (cA 56 [(.agg [(.va 10),(.va 11),(.va 12),(.va 13)]),(jA 15),(jA 0),(.va 14),(.agg [(jA 7),(jA 8),(jA 9),(jA 10),(jA 11),(jA 12),(jA 1),(jA 2),(jA 3),(jA 4),(jA 5),(jA 6)])] [] [(.one jD)]
      (.ite (.not (.eq (.a 16) (.l 0)))
      (.ret true (jA 16) [])
      (nD (.is 1 0)
      (nD (.is 1 0)
      (lO false (.pa 0 15) [.val]
      (lO false (.pa 0 16) [.val]
      (nD (treeI (.a 0) (.slen 15))
      (.storeM (.ea 15 (.a 0) 6 0) [(jA 1),(jA 2),(jA 3),(jA 4),(jA 5),(jA 6)]
      (nD (treeI (.a 0) (.slen 16))
      (.storeM (.ea 16 (.a 0) 1 0) [(.bool (.t true))]
      (.ret true (jE 0) [])))))))))))))
def b7p:PT :=
 (cA 26 [(.va 0),(jA 0)] [] [(.one .val)]
      (lO false (.pa 0 0) [.val,.val,.val,.val]
      (cA 56 [(.agg [(.va 11),(.va 12),(.va 13),(.va 14)]),(jA 15),(jA 0),(.va 10),(.agg [(jA 7),(jA 8),(jA 9),(jA 10),(jA 11),(jA 12),(jA 1),(jA 2),(jA 3),(jA 4),(jA 5),(jA 6)])] [] [(.one jD)]
      (.ite (.not (.eq (.a 16) (.l 0)))
      (.ret true (jA 16) [])
      (nD (.is 1 0)
      (nD (.is 1 0)
      (lO false (.pa 0 15) [.val]
      (lO false (.pa 0 16) [.val]
      (nD (treeI (.a 0) (.slen 15))
      (.storeM (.ea 15 (.a 0) 6 0) [(jA 1),(jA 2),(jA 3),(jA 4),(jA 5),(jA 6)]
      (nD (treeI (.a 0) (.slen 16))
      (.storeM (.ea 16 (.a 0) 1 0) [(.bool (.t true))]
      (.ret true (jE 0) [])))))))))))))
def b8j:PT :=
 (lO false (.pa 0 7) [jD]
     (.both b7D b7p))
def b7J:PT :=
 (cA 26 [(.va 0),(jA 0)] [] [(.one .val)]
     (lO false (.pa 0 0) [.val,.val,.val,.val]
     (lO false (.pa 0 7) [jD]
     (cA 56 [(.agg [(.va 11),(.va 12),(.va 13),(.va 14)]),(jA 15),(jA 0),(.va 10),(.agg [(jA 7),(jA 8),(jA 9),(jA 10),(jA 11),(jA 12),(jA 1),(jA 2),(jA 3),(jA 4),(jA 5),(jA 6)])] [] [(.one jD)]
     (.ite (.not (.eq (.a 16) (.l 0)))
      (.ret true (jA 16) [])
      (nD (.is 1 0)
      (nD (.is 1 0)
      (lO false (.pa 0 15) [.val]
      (lO false (.pa 0 16) [.val]
      (nD (treeI (.a 0) (.slen 15))
      (.storeM (.ea 15 (.a 0) 6 0) [(jA 1),(jA 2),(jA 3),(jA 4),(jA 5),(jA 6)]
      (nD (treeI (.a 0) (.slen 16))
      (.storeM (.ea 16 (.a 0) 1 0) [(.bool (.t true))]
      (.ret true (jE 0) []))))))))))))))
def b7j:PT :=
 (.both b8j b7J)
def b0b:PT :=
 (lO false (.pa 0 9) [jD,jD,jD,jD,jD,jD]
   (nD (.is 1 0)
   (lO false (.pa 0 0) [.val,.val,.val,.val]
   (cA 54 [(.agg [(.va 2),(.va 3),(.va 4),(.va 5)]),(jA 0),(.agg [(jA 1),(jA 2),(jA 3),(jA 4),(jA 5),(jA 6)])] [] [(.one jD)]
   (.ite (.not (.eq (.a 13) (.l 0)))
    (.ret true (jA 13) [])
    (nD (.is 1 0)
    (lO false (.pa 0 0) [.val,.val,.val,.val]
    (cA 55 [(.agg [(.va 6),(.va 7),(.va 8),(.va 9)]),(jA 0),(.agg [(jA 7),(jA 8),(jA 9),(jA 10),(jA 11),(jA 12),(jA 1),(jA 2),(jA 3),(jA 4),(jA 5),(jA 6)])] [] [(.one jD)]
    (.ite (.not (.eq (.a 14) (.l 0)))
    (.ret true (jA 14) [])
    (nD (.is 1 0)
    (nD (.is 1 0)
    (.both b7Y b7j))))))))))))
def c0C:PT :=
 (nD (.is 4 0)
 (.ite (.nil 0)
 (.ret true (jE 6) [])
 (nD (.is 1 0)
 (lO false (.pa 0 18) [.bool]
 (.ite (.a 0)
  (.ret true (jE 10) [])
  (cA 53 [(.va 0),(jA 0)] [] [(.one .bool)]
  (.ite (.not (.a 1))
  (.ret true (jE 6) [])
  (nD (.is 1 0)
  (lO false (.pa 0 17) [.val]
  (nD (treeI (.a 0) (.slen 1))
  (lO false (.ea 1 (.a 0) 1 0) [.bool]
  (.ite (.a 2)
   (.ret true (jE 10) [])
   (nD (.is 1 0)
   (.both b0b b0b))))))))))))))
def a8S:Sx.Sys:=⟨[(.sh (.one .val)),(.sh (.one jD)),(.sh (.agg [jD,jD,jD,jD,jD,jD]))],c0C,[],none,none⟩
def b7d:List Cfg:=[]
theorem b9K:SysOk Tryz.prog 24 a8S:=a0k (c:=(cg [] [] [] true true false true)) (a0h _ _ _ _ _ _ _ _ _) Tryz.func24 Tryz.call24 (by kernel_rfl) b7d a8S 5000 rfl (by kernel_rfl) (by kernel_rfl) rfl
def a4Z:PT :=
 (nD (.is 0 0)
 (.ite (.lt (.l 0) (.slen 0))
 (nD (.lt (.l 0) (.slen 0))
 (lO false (.ea 0 (.l 0) 5 2) [jD]
 (nD (.is 0 0)
 (.ite (.lt (.l 1) (.slen 0))
  (nD (.lt (.l 1) (.slen 0))
  (lO false (.ea 0 (.l 1) 5 2) [jD]
  (nD (.is 0 0)
  (.ite (.lt (.l 2) (.slen 0))
  (nD (.lt (.l 2) (.slen 0))
  (lO false (.ea 0 (.l 2) 5 2) [jD]
  (nD (.is 0 0)
  (.ite (.lt (.l 3) (.slen 0))
   (nD (.lt (.l 3) (.slen 0))
   (lO false (.ea 0 (.l 3) 5 2) [jD]
   (nD (.is 0 0)
   (.ite (.lt (.l 4) (.slen 0))
   (nD (.lt (.l 4) (.slen 0))
   (lO false (.ea 0 (.l 4) 5 2) [jD]
   (nD (.is 0 0)
   (.ite (.lt (.l 5) (.slen 0))
    (nD (.lt (.l 5) (.slen 0))
    (lO false (.ea 0 (.l 5) 5 2) [jD]
    (nD (.is 0 0)
    (.ite (.lt (.l 6) (.slen 0))
    (.ret false (.agg [(jA 0),(jA 1),(jA 2),(jA 3),(jA 4),(jA 5)]) [])
    (.ret false (.agg [(jA 0),(jA 1),(jA 2),(jA 3),(jA 4),(jA 5)]) [])))))
    (.ret false (.agg [(jA 0),(jA 1),(jA 2),(jA 3),(jA 4),(jE 0)]) [])))))
   (.ret false (.agg [(jA 0),(jA 1),(jA 2),(jA 3),(jE 0),(jE 0)]) [])))))
   (.ret false (.agg [(jA 0),(jA 1),(jA 2),(jE 0),(jE 0),(jE 0)]) [])))))
  (.ret false (.agg [(jA 0),(jA 1),(jE 0),(jE 0),(jE 0),(jE 0)]) [])))))
  (.ret false (.agg [(jA 0),(jE 0),(jE 0),(jE 0),(jE 0),(jE 0)]) [])))))
 (.ret false (.agg [(jE 0),(jE 0),(jE 0),(jE 0),(jE 0),(jE 0)]) [])))
def a3v:Sx.Sys:=⟨[(.sh (.one .val))],a4Z,[],none,none⟩
def b3o:List Cfg:=[]
theorem b4Q:SysOk Tryz.prog 32 a3v:=a0k (c:=(cg [] [] [] false false false true)) (a0h _ _ _ _ _ _ _ _ _) Tryz.func32 Tryz.call32 (by kernel_rfl) b3o a3v 5000 rfl (by kernel_rfl) (by kernel_rfl) rfl
def c0y:PT :=
 (.ite (.eq (.a 0) (.l 1))
 (cA 80 [(.agg [(.va 0),(.va 1),(.va 2),(.va 3)]),(jA 1)] [] [(.one .bool)]
 (.ite (.not (.a 0))
  (.ret false (jE 6) [])
  (cA 85 [(.agg [(jA 8),(jA 9),(jA 10),(jA 11),(jA 12),(jA 13)])] [] [(.one jD)]
  (.ite (.not (.eq (.a 14) (.l 0)))
  (.ret false (jA 14) [])
  (cA 86 [(.va 4)] [] [(.one .bool)]
  (.ite (.a 1)
   (cA 87 [(.agg [(jA 2),(jA 3),(jA 4),(jA 5),(jA 6),(jA 7),(jA 8),(jA 9),(jA 10),(jA 11),(jA 12),(jA 13)])] [] [(.one .bool)]
   (.ite (.not (.a 2))
   (.ret false (jE 15) [])
   (.ret false (jE 0) [])))
   (cA 82 [(.agg [(.va 0),(.va 1),(.va 2),(.va 3),(jA 1),(.va 4)]),(.agg [(jA 2),(jA 3),(jA 4),(jA 5),(jA 6),(jA 7),(jA 8),(jA 9),(jA 10),(jA 11),(jA 12),(jA 13)])] [] [(.one .bool)]
   (.ite (.not (.a 2))
   (.ret false (jE 15) [])
   (.ret false (jE 0) [])))))))))
 (.ite (.eq (.a 0) (.l 2))
  (cA 80 [(.agg [(.va 0),(.va 1),(.va 2),(.va 3)]),(jA 1)] [] [(.one .bool)]
  (.ite (.not (.a 0))
  (.ret false (jE 6) [])
  (cA 85 [(.agg [(jA 8),(jA 9),(jA 10),(jA 11),(jA 12),(jA 13)])] [] [(.one jD)]
  (.ite (.not (.eq (.a 14) (.l 0)))
   (.ret false (jA 14) [])
   (cA 86 [(.va 4)] [] [(.one .bool)]
   (.ite (.a 1)
   (cA 87 [(.agg [(jA 2),(jA 3),(jA 4),(jA 5),(jA 6),(jA 7),(jA 8),(jA 9),(jA 10),(jA 11),(jA 12),(jA 13)])] [] [(.one .bool)]
   (.ite (.not (.a 2))
    (.ret false (jE 15) [])
    (.ret false (jE 0) [])))
   (cA 83 [(.agg [(.va 0),(.va 1),(.va 2),(.va 3),(jA 1),(.va 4)]),(.agg [(jA 2),(jA 3),(jA 4),(jA 5),(jA 6),(jA 7),(jA 8),(jA 9),(jA 10),(jA 11),(jA 12),(jA 13)])] [] [(.one .bool)]
   (.ite (.not (.a 2))
    (.ret false (jE 15) [])
    (.ret false (jE 0) [])))))))))
  (.ite (.eq (.a 0) (.l 3))
  (cA 80 [(.agg [(.va 0),(.va 1),(.va 2),(.va 3)]),(jA 1)] [] [(.one .bool)]
  (.ite (.not (.a 0))
   (.ret false (jE 6) [])
   (cA 85 [(.agg [(jA 8),(jA 9),(jA 10),(jA 11),(jA 12),(jA 13)])] [] [(.one jD)]
   (.ite (.not (.eq (.a 14) (.l 0)))
   (.ret false (jA 14) [])
   (cA 86 [(.va 4)] [] [(.one .bool)]
   (.ite (.a 1)
    (cA 87 [(.agg [(jA 2),(jA 3),(jA 4),(jA 5),(jA 6),(jA 7),(jA 8),(jA 9),(jA 10),(jA 11),(jA 12),(jA 13)])] [] [(.one .bool)]
    (.ite (.not (.a 2))
    (.ret false (jE 15) [])
    (.ret false (jE 0) [])))
    (cA 84 [(.agg [(.va 0),(.va 1),(.va 2),(.va 3),(jA 1),(.va 4)]),(.agg [(jA 2),(jA 3),(jA 4),(jA 5),(jA 6),(jA 7),(jA 8),(jA 9),(jA 10),(jA 11),(jA 12),(jA 13)])] [] [(.one .bool)]
    (.ite (.not (.a 2))
    (.ret false (jE 15) [])
    (.ret false (jE 0) [])))))))))
  (.ret false (jE 4) []))))
def a8W:Sx.Sys:=⟨[(.sh (.agg [.val,.val,.val,.val])),(.sh (.one jD)),(.sh (.one jD)),(.sh (.one .val)),(.sh (.agg [jD,jD,jD,jD,jD,jD,jD,jD,jD,jD,jD,jD]))],c0y,[],none,none⟩
def b8c:List Cfg:=[]
theorem b9C:SysOk Tryz.prog 56 a8W:=a0k (c:=(cg [] [] [(43,[4])] false false false true)) (a0h _ _ _ _ _ _ _ _ _) Tryz.func56 Tryz.call56 (by kernel_rfl) b8c a8W 5000 rfl (by kernel_rfl) (by kernel_rfl) rfl
def b1k:PT :=
 (nD (.is 0 0)
 (.ite (.eq (.slen 0) (.l 0))
 (.ret false (jE 1) [])
 (nD (.is 0 0)
 (.ite (.lt (.l 8) (.slen 0))
  (.ret false (jE 3) [])
  (nD (.is 0 0)
  (jU 0 [(.slen 0),(.l 0)] [] [(.va 0)]))))))
def a4s:PT :=
 (.ite (.lt (.a 1) (.a 0))
 (nD (treeI (.a 1) (.slen 0))
 (lO false (.ea 0 (.a 1) 4 0) [.val,jD,jD,jD]
 (cA 97 [(.va 1)] [] [(.one .bool)]
 (.ite (.not (.a 0))
  (.ret false (jE 5) [])
  (.cut 0 none (some (.a 1)) 4
  (cA 101 [(.va 2),(.va 1)] [] [(.one jD),(.one .bool)]
  (.ite (.a 1)
  (.ret false (jE 7) [])
  (.ite (.lt (.a 2) (.l 0))
   (.ret false (jE 4) [])
   (.ite (.lt (.l 4) (.a 2))
   (.ret false (jE 4) [])
   (.ite (.lt (.a 3) (.l 0))
    (.ret false (jE 4) [])
    (.ite (.lt (.l 1000000) (.a 3))
    (.ret false (jE 4) [])
    (.ite (.lt (.a 4) (.l 0))
     (.ret false (jE 4) [])
     (.ite (.lt (.l 24000) (.a 4))
     (.ret false (jE 4) [])
     (nD (treeB (jP 1))
     (jU 0 [(.a 0),(jP 1)] [] [(.va 0)])))))))))))))))
 (.ret false (jE 0) []))
def a3d:Sx.Sys:=⟨[(.sh (.one .val))],b1k,[a4s],none,none⟩
def c0B:List Cfg:=[{todo:=[(.code (tfR 6 52)),(.inLoop (tfR 6 52)),(.inBlock 1),(.code [true,true,true])],sl:=[(.va 0),.undef]++jkR 0 13++[(.va 0),(jA 0),(jA 1)]++jkR 13 47,H:=[],ni:=2,nb:=0,nv:=1,nj:=60}]
theorem c3m:SysOk Tryz.prog 64 a3d:=a0k (c:=(cg [(tfR 6 52)] [] [] false false false true)) (a0h _ _ _ _ _ _ _ _ _) Tryz.func64 Tryz.call64 (by kernel_rfl) c0B a3d 5000 rfl (by kernel_rfl) (by kernel_rfl) rfl
def c3X:PT :=
 (.ite (.le (.l 0) (.a 0))
 (nD (.is 0 1)
 (.ret false (.bool (.lt (.a 0) (.slen 1))) []))
 rF)
def b0Y:Sx.Sys:=⟨[(.sh (.agg [.val,.val,.val,.val])),(.sh (.one jD))],c3X,[],none,none⟩
def c0Q:List Cfg:=[]
theorem c2Z:SysOk Tryz.prog 80 b0Y:=a0k (c:=(cg [] [] [] false false false true)) (a0h _ _ _ _ _ _ _ _ _) Tryz.func80 Tryz.call80 (by kernel_rfl) c0Q b0Y 5000 rfl (by kernel_rfl) (by kernel_rfl) rfl
def c0R:PT :=
 (.ite (.lt (.a 0) (.l 1))
 (.ret false (jE 4) [])
 (.ite (.lt (.l 3) (.a 0))
  (.ret false (jE 4) [])
  (nD (.is 0 0)
  (nD (.is 0 1)
  (.ite (.not (.eq (.slen 0) (.slen 1)))
  (.ret false (jE 3) [])
  (nD (.is 0 0)
  (.ite (.lt (.l 8) (.slen 0))
   (.ret false (jE 3) [])
   (cA 85 [(.agg [(jA 1),(jA 2),(jA 3),(jA 4),(jA 5),(jA 6)])] [] [(.one jD)]
   (.ite (.not (.eq (.a 7) (.l 0)))
   (.ret false (jE 4) [])
   (nD (.is 0 0)
   (jU 0 [(.l 0),(.slen 0),(.l 0)] [] [(.va 0),(.va 1),(.va 0)])))))))))))
def b9J:PT :=
 (.ite (.lt (.a 2) (.a 1))
 (nD (treeI (.a 2) (.slen 2))
 (lO false (.ea 2 (.a 2) 6 0) [jD,jD,jD,jD,jD,jD]
 (cA 85 [(.agg [(jA 3),(jA 4),(jA 5),(jA 6),(jA 7),(jA 8)])] [] [(.one jD)]
 (.ite (.not (.eq (.a 9) (.l 0)))
  (.ret false (jE 4) [])
  (nD (treeB (jP 2))
  (jU 0 [(.a 0),(.a 1),(jP 2)] [] [(.va 0),(.va 1),(.va 2)]))))))
 (nD (treeB (jP 0))
 (.ite (.lt (jP 0) (.l 2))
  (.ite (.eq (jP 0) (.l 1))
  (nD (.is 0 1)
  (jU 0 [(.l 1),(.slen 1),(.l 0)] [] [(.va 0),(.va 1),(.va 1)]))
  (.ite (.eq (jP 0) (.l 0))
   (nD (.is 0 0)
   (jU 0 [(.l 0),(.slen 0),(.l 0)] [] [(.va 0),(.va 1),(.va 0)]))
   .stuck))
  (.ret false (jE 0) []))))
def a8Q:Sx.Sys:=⟨[(.sh (.one jD)),(.sh (.agg [jD,jD,jD,jD,jD,jD])),(.sh (.one .val)),(.sh (.one .val))],c0R,[b9J],none,none⟩
def b6Z:List Cfg:=[{todo:=[(.code (tfR 14 13516)),(.inLoop (tfR 14 13516)),(.inBlock 3),(.inBlock 2),(.code (tfR 9 423)),(.inLoop (tfR 6 52)),(.inBlock 1),(.code [true,true,true])],sl:=jkR 0 4++[.undef,(.junk 4),.undef,.undef,(.junk 5),.undef,(.junk 6),.undef]++jkR 7 25++[(.agg [(.va 0),(.va 1)]),(jA 0),(.junk 32),(.junk 33),(.va 2),(jA 1),(jA 2)]++jkR 34 8,H:=[],ni:=3,nb:=0,nv:=3,nj:=42}]
theorem b9X:SysOk Tryz.prog 88 a8Q:=a0k (c:=(cg [(tfR 14 13516)] [] [] true false false true)) (a0h _ _ _ _ _ _ _ _ _) Tryz.func88 Tryz.call88 (by kernel_rfl) b6Z a8Q 5000 rfl (by kernel_rfl) (by kernel_rfl) rfl
def b9c:PT :=
 (cA 123 [(jA 0)] [] [(.one jD)]
 (.ite (.not (.eq (.a 6) (.l 0)))
 rF
 (cA 123 [(jA 1)] [] [(.one jD)]
 (.ite (.not (.eq (.a 7) (.l 0)))
  rF
  (cA 123 [(jA 2)] [] [(.one jD)]
  (.ite (.not (.eq (.a 8) (.l 0)))
  rF
  (cA 123 [(jA 3)] [] [(.one jD)]
  (.ite (.not (.eq (.a 9) (.l 0)))
   rF
   (cA 123 [(jA 4)] [] [(.one jD)]
   (.ite (.not (.eq (.a 10) (.l 0)))
   rF
   (cA 123 [(jA 5)] [] [(.one jD)]
   (.ite (.not (.eq (.a 11) (.l 0)))
    rF
    (.ret false (.bool (.t true)) [])))))))))))))
def a6H:Sx.Sys:=⟨[(.sh (.agg [jD,jD,jD,jD,jD,jD]))],b9c,[],none,none⟩
def b6t:List Cfg:=[]
theorem b8J:SysOk Tryz.prog 96 a6H:=a0k (c:=(cg [] [] [] false false false true)) (a0h _ _ _ _ _ _ _ _ _) Tryz.func96 Tryz.call96 (by kernel_rfl) b6t a6H 5000 rfl (by kernel_rfl) (by kernel_rfl) rfl
def b5F:PT :=
 (cA 80 [(.agg [(.va 0),(.va 1),(.va 2),(.va 3)]),(jA 0)] [] [(.one .bool)]
 (.ite (.not (.a 0))
 (.ret false (jE 0) [])
 (nD (treeI (.a 0) (.slen 1))
 (lO true (.ea 1 (.a 0) 4 3) [jD]
 (nD (.is 0 4)
 (jU 0 [(.a 0),(.a 1),(.slen 4),(.l 0)] [] [(.va 0),(.va 1),(.va 2),(.va 3),(.va 4)]))))))
def b3B:PT :=
 (.ite (.lt (.a 3) (.a 2))
 (nD (treeI (.a 3) (.slen 4))
 (lO false (.ea 4 (.a 3) 12 0) [jD,jD,jD,jD,jD,jD,jD,jD,jD,jD,jD,jD]
 (cA 119 [(.agg [(.va 0),(.va 1),(.va 2),(.va 3),(jA 0),(.va 4)]),(.agg [(jA 4),(jA 5),(jA 6),(jA 7),(jA 8),(jA 9),(jA 10),(jA 11),(jA 12),(jA 13),(jA 14),(jA 15)])] [] [(.one jD)]
 (nD (treeB (jP 3))
 (jU 0 [(.a 0),(.mn (.a 1) (.a 16)),(.a 2),(jP 3)] [] [(.va 0),(.va 1),(.va 2),(.va 3),(.va 4)])))))
 (.ret false (jA 1) []))
def a4F:Sx.Sys:=⟨[(.sh (.agg [.val,.val,.val,.val])),(.sh (.one jD)),(.sh (.one .val))],b5F,[b3B],none,none⟩
def b2g:List Cfg:=[{todo:=[(.code (tfR 7 116)),(.inLoop (tfR 7 116)),(.inBlock 0),(.code [true,true,true,true])],sl:=jkR 0 4++[.undef,.undef,(.junk 4),(.fn 119 1 [(.agg [(.va 0),(.va 1),(.va 2),(.va 3),(jA 0),(.va 4)])]),(jA 1),.undef]++jkR 5 16++[(.va 4),(jA 2),(jA 3)]++jkR 21 9++[.undef],H:=[],ni:=4,nb:=0,nv:=5,nj:=30}]
theorem b3H:SysOk Tryz.prog 120 a4F:=a0k (c:=(cg [(tfR 7 116)] [] [(33,[3])] false false false true)) (a0h _ _ _ _ _ _ _ _ _) Tryz.func120 Tryz.call120 (by kernel_rfl) b2g a4F 5000 rfl (by kernel_rfl) (by kernel_rfl) rfl
def a4T:PT :=
 (.ite (.le (.l 48) (.a 0))
 (.ret false (.bool (.le (.a 0) (.l 57))) [])
 rF)
def a3A:Sx.Sys:=⟨[(.sh (.one (.int .u8)))],a4T,[],none,none⟩
def b2X:List Cfg:=[]
theorem b4S:SysOk Tryz.prog 128 a3A:=a0k (c:=(cg [] [] [] false false false true)) (a0h _ _ _ _ _ _ _ _ _) Tryz.func128 Tryz.call128 (by kernel_rfl) b2X a3A 5000 rfl (by kernel_rfl) (by kernel_rfl) rfl
def c7a:PT :=
 (.ite (.le (.l 0) (.a 0))
 (.ret false (.bool (.le (.a 0) (.l 1000000))) [])
 rF)
def b5q:Sx.Sys:=⟨[(.sh (.one jD))],c7a,[],none,none⟩
def c3L:List Cfg:=[]
theorem c6r:SysOk Tryz.prog 136 b5q:=a0k (c:=(cg [] [] [] false false false true)) (a0h _ _ _ _ _ _ _ _ _) Tryz.func136 Tryz.call136 (by kernel_rfl) c3L b5q 5000 rfl (by kernel_rfl) (by kernel_rfl) rfl
def b5V:PT :=
 (cA 19 [(.va 0)] [] [(.agg [jD,jD,jD,jD,jD,jD])]
   (.mkM (.slen 1) [(.bool (.t false))] 4 1 1
   (.newM [(.va 4),(.va 5),(.va 6),(.va 7),(jA 0),(jA 1),(jA 2),(jA 3),.nilS,(jA 6),(jA 7),(jA 8),(jA 9),(jA 10),(jA 11),.nilS,.nilS,(.va 8),(.bool (.t false))] 79
   (cA 31 [(.pa 9 0)] [] []
   (.ret true (.tup [(.pa 9 0),(jE 0)]) [])))))
def b5S:PT :=
 (.mkM (.slen 1) [(.bool (.t false))] 4 1 1
   (cA 19 [(.va 0)] [] [(.agg [jD,jD,jD,jD,jD,jD])]
   (.newM [(.va 4),(.va 5),(.va 6),(.va 7),(jA 0),(jA 1),(jA 2),(jA 3),.nilS,(jA 6),(jA 7),(jA 8),(jA 9),(jA 10),(jA 11),.nilS,.nilS,(.va 8),(.bool (.t false))] 79
   (cA 31 [(.pa 9 0)] [] []
   (.ret true (.tup [(.pa 9 0),(jE 0)]) [])))))
def b6m:PT :=
 (cA 30 [(.agg [(.va 0),(.va 1),(.va 2),(.va 3)])] [] [(.agg [.val,.val,.val,.val])]
  (.both b5V b5S))
def b6z:PT :=
 (.mkM (.slen 1) [(.bool (.t false))] 4 1 1
  (cA 30 [(.agg [(.va 0),(.va 1),(.va 2),(.va 3)])] [] [(.agg [.val,.val,.val,.val])]
  (cA 19 [(.va 0)] [] [(.agg [jD,jD,jD,jD,jD,jD])]
  (.newM [(.va 5),(.va 6),(.va 7),(.va 8),(jA 0),(jA 1),(jA 2),(jA 3),.nilS,(jA 6),(jA 7),(jA 8),(jA 9),(jA 10),(jA 11),.nilS,.nilS,(.va 4),(.bool (.t false))] 79
  (cA 31 [(.pa 9 0)] [] []
  (.ret true (.tup [(.pa 9 0),(jE 0)]) []))))))
def a4u:PT :=
 (cA 28 [(.agg [(.va 0),(.va 1),(.va 2),(.va 3)])] [] [(.one jD)]
 (.ite (.not (.eq (.a 4) (.l 0)))
 (.ret true (.tup [.nilP,(jA 4)]) [])
 (cA 29 [(.agg [(jA 0),(jA 1),(jA 2),(jA 3)])] [] [(.one jD)]
 (.ite (.not (.eq (.a 5) (.l 0)))
  (.ret true (.tup [.nilP,(jA 5)]) [])
  (nD (.is 0 1)
  (.both b6m b6z))))))
def b1m:Sx.Sys:=⟨[(.sh (.agg [.val,.val,.val,.val])),(.sh (.agg [jD,jD,jD,jD]))],a4u,[],none,none⟩
def c3G:List Cfg:=[]
theorem c6s:SysOk Tryz.prog 9 b1m:=a0k (c:=(cg [] [30] [] true true false true)) (a0h _ _ _ _ _ _ _ _ _) Tryz.func9 Tryz.call9 (by kernel_rfl) c3G b1m 5000 rfl (by kernel_rfl) (by kernel_rfl) rfl
def a4S:PT :=
 (.ite (.lt (.a 0) (.l 1))
 (.ret false (jE 4) [])
 (.ite (.lt (.l 1000000) (.a 0))
  (.ret false (jE 4) [])
  (.ite (.lt (.a 1) (.l 0))
  (.ret false (jE 4) [])
  (.ite (.lt (.l 100) (.a 1))
   (.ret false (jE 4) [])
   (.ite (.lt (.a 2) (.l 1))
   (.ret false (jE 4) [])
   (.ite (.lt (.l 3) (.a 2))
    (.ret false (jE 4) [])
    (.ite (.lt (.a 3) (.l 1))
    (.ret false (jE 4) [])
    (.ite (.lt (.l 3) (.a 3))
     (.ret false (jE 4) [])
     (.ret false (jE 0) [])))))))))
def a3u:Sx.Sys:=⟨[(.sh (.agg [jD,jD,jD,jD]))],a4S,[],none,none⟩
def b3u:List Cfg:=[]
theorem b5r:SysOk Tryz.prog 17 a3u:=a0k (c:=(cg [] [] [] false false false true)) (a0h _ _ _ _ _ _ _ _ _) Tryz.func17 Tryz.call17 (by kernel_rfl) b3u a3u 5000 rfl (by kernel_rfl) (by kernel_rfl) rfl
def b5y:PT :=
 (cA 59 [(.va 0)] [] [(.one .val)]
   (lO false (.pa 0 15) [.val]
   (cA 58 [(jA 6),(.agg [(jA 0),(jA 1),(jA 2),(jA 3),(jA 4),(jA 5)]),(.va 5),(.va 6)] [] [(.one .val),(.one jD)]
   (jU 0 [(.a 7),(.a 0),(.a 1),(.a 2),(.a 3),(.a 4),(.a 5)] [] [(.va 0),(.va 7)]))))
def b5H:PT :=
 (lO false (.pa 0 15) [.val]
   (cA 59 [(.va 0)] [] [(.one .val)]
   (cA 58 [(jA 6),(.agg [(jA 0),(jA 1),(jA 2),(jA 3),(jA 4),(jA 5)]),(.va 6),(.va 5)] [] [(.one .val),(.one jD)]
   (jU 0 [(.a 7),(.a 0),(.a 1),(.a 2),(.a 3),(.a 4),(.a 5)] [] [(.va 0),(.va 7)]))))
def b5g:PT :=
 (lO false (.pa 0 6) [jD]
   (.both b5y b5H))
def b4X:PT :=
 (cA 59 [(.va 0)] [] [(.one .val)]
   (lO false (.pa 0 6) [jD]
   (lO false (.pa 0 15) [.val]
   (cA 58 [(jA 6),(.agg [(jA 0),(jA 1),(jA 2),(jA 3),(jA 4),(jA 5)]),(.va 5),(.va 6)] [] [(.one .val),(.one jD)]
   (jU 0 [(.a 7),(.a 0),(.a 1),(.a 2),(.a 3),(.a 4),(.a 5)] [] [(.va 0),(.va 7)])))))
def b5L:PT :=
 (lO false (.pa 0 6) [jD]
    (cA 59 [(.va 0)] [] [(.one .val)]
    (cA 58 [(jA 6),(.agg [(jA 0),(jA 1),(jA 2),(jA 3),(jA 4),(jA 5)]),(.va 6),(.va 5)] [] [(.one .val),(.one jD)]
    (jU 0 [(.a 7),(.a 0),(.a 1),(.a 2),(.a 3),(.a 4),(.a 5)] [] [(.va 0),(.va 7)]))))
def b5E:PT :=
 (cA 59 [(.va 0)] [] [(.one .val)]
    (lO false (.pa 0 6) [jD]
    (cA 58 [(jA 6),(.agg [(jA 0),(jA 1),(jA 2),(jA 3),(jA 4),(jA 5)]),(.va 6),(.va 5)] [] [(.one .val),(.one jD)]
    (jU 0 [(.a 7),(.a 0),(.a 1),(.a 2),(.a 3),(.a 4),(.a 5)] [] [(.va 0),(.va 7)]))))
def b4N:PT :=
 (lO false (.pa 0 15) [.val]
   (.both b5L b5E))
def b5b:PT :=
 (.both b4X b4N)
def b4F:PT :=
 (lO false (.pa 0 8) [.val]
   (.app none (.lit [[(jA 6),(jA 7),(jA 8),(jA 9),(jA 10),(jA 11),(.va 5),(.va 3),(.va 6)]]) 9
   (.appM (.va 7) (.va 8) 9 65
   (nD (.is 1 0)
   (.storeM (.pa 0 8) [(.va 9)]
   (jU 1 [(.a 0),(.a 1),(.a 2),(.a 3),(.a 4),(.a 5)] [] [(.va 0),(.va 3)]))))))
def b3E:PT :=
 (.app none (.lit [[(jA 6),(jA 7),(jA 8),(jA 9),(jA 10),(jA 11),(.va 5),(.va 3),(.va 6)]]) 9
   (lO false (.pa 0 8) [.val]
   (.appM (.va 8) (.va 7) 9 65
   (nD (.is 1 0)
   (.storeM (.pa 0 8) [(.va 9)]
   (jU 1 [(.a 0),(.a 1),(.a 2),(.a 3),(.a 4),(.a 5)] [] [(.va 0),(.va 3)]))))))
def b8B:PT :=
 (nD (.is 4 0)
 (.ite (.nil 0)
 (.ret true (.tup [(.bool (.t false)),(jE 6)]) [])
 (nD (.is 1 0)
 (lO false (.pa 0 18) [.bool]
 (.ite (.a 0)
  (.ret true (.tup [(.bool (.t false)),(jE 10)]) [])
  (nD (.is 1 0)
  (lO false (.pa 0 0) [.val]
  (cA 57 [(.va 1)] [] [(.agg [jD,jD,jD,jD,jD,jD])]
  (nD (.is 1 0)
  (lO false (.pa 0 15) [.val]
  (cA 51 [(.va 2)] [] [(.one .val)]
  (nD (.is 1 0)
  (lO false (.pa 0 8) [.val]
  (nD (.is 0 4)
  (.ite (.lt (.l 0) (.slen 4))
  (nD (.is 1 0)
  (nD (.is 1 0)
  (.both b5g b5b)))
  (nD (.is 1 0)
  (nD (.is 1 0)
  (nD (.is 1 0)
  (nD (.is 1 0)
  (lO false (.pa 0 9) [jD,jD,jD,jD,jD,jD]
  (lO false (.pa 0 15) [.val]
  (lO false (.pa 0 16) [.val]
  (.both b4F b3E)))))))))))))))))))))))
def b4h:PT :=
 (lO false (.pa 0 8) [.val]
  (.app none (.lit [[(jA 7),(jA 8),(jA 9),(jA 10),(jA 11),(jA 12),(.va 2),(.va 1),(.va 3)]]) 9
  (.appM (.va 4) (.va 5) 9 65
  (nD (.is 1 0)
  (.storeM (.pa 0 8) [(.va 6)]
  (jU 1 [(.a 1),(.a 2),(.a 3),(.a 4),(.a 5),(.a 6)] [] [(.va 0),(.va 1)]))))))
def b3Y:PT :=
 (.app none (.lit [[(jA 7),(jA 8),(jA 9),(jA 10),(jA 11),(jA 12),(.va 2),(.va 1),(.va 3)]]) 9
  (lO false (.pa 0 8) [.val]
  (.appM (.va 5) (.va 4) 9 65
  (nD (.is 1 0)
  (.storeM (.pa 0 8) [(.va 6)]
  (jU 1 [(.a 1),(.a 2),(.a 3),(.a 4),(.a 5),(.a 6)] [] [(.va 0),(.va 1)]))))))
def b6S:PT :=
 (.ite (.not (.eq (.a 0) (.l 0)))
 (.ret true (.tup [(.bool (.t false)),(jA 0)]) [])
 (nD (.is 1 0)
 (nD (.is 1 0)
 (nD (.is 1 0)
 (nD (.is 1 0)
 (lO false (.pa 0 9) [jD,jD,jD,jD,jD,jD]
 (lO false (.pa 0 15) [.val]
 (lO false (.pa 0 16) [.val]
 (.both b4h b3Y)))))))))
def a8u:PT :=
 (cA 61 [(.agg [(jA 12),(jA 13),(jA 14),(jA 15)]),(.agg [(jA 16),(jA 17),(jA 18),(jA 19),(jA 20),(jA 21)]),(.agg [(jA 6),(jA 7),(jA 8),(jA 9),(jA 10),(jA 11)])] [] [(.agg [jD,jD,jD,jD,jD,jD]),(.one jD)]
  (jU 2 [(.a 28),(.a 0),(.a 1),(.a 2),(.a 3),(.a 4),(.a 5),(.a 6),(.a 7),(.a 8),(.a 9),(.a 10),(.a 11),(.a 22),(.a 23),(.a 24),(.a 25),(.a 26),(.a 27)] [] [(.va 0)]))
def b3I:PT :=
 (lO false (.pa 0 9) [jD,jD,jD,jD,jD,jD]
  (.both a8u a8u))
def b3L:PT :=
 (lO false (.pa 0 9) [jD,jD,jD,jD,jD,jD]
  (cA 61 [(.agg [(jA 12),(jA 13),(jA 14),(jA 15)]),(.agg [(jA 16),(jA 17),(jA 18),(jA 19),(jA 20),(jA 21)]),(.agg [(jA 6),(jA 7),(jA 8),(jA 9),(jA 10),(jA 11)])] [] [(.agg [jD,jD,jD,jD,jD,jD]),(.one jD)]
  (jU 2 [(.a 28),(.a 0),(.a 1),(.a 2),(.a 3),(.a 4),(.a 5),(.a 6),(.a 7),(.a 8),(.a 9),(.a 10),(.a 11),(.a 22),(.a 23),(.a 24),(.a 25),(.a 26),(.a 27)] [] [(.va 0)])))
def b4a:PT :=
 (lO false (.pa 0 4) [jD,jD,jD,jD]
 (.both b3I b3L))
def a7x:PT :=
 (cA 61 [(.agg [(jA 18),(jA 19),(jA 20),(jA 21)]),(.agg [(jA 12),(jA 13),(jA 14),(jA 15),(jA 16),(jA 17)]),(.agg [(jA 6),(jA 7),(jA 8),(jA 9),(jA 10),(jA 11)])] [] [(.agg [jD,jD,jD,jD,jD,jD]),(.one jD)]
   (jU 2 [(.a 28),(.a 0),(.a 1),(.a 2),(.a 3),(.a 4),(.a 5),(.a 6),(.a 7),(.a 8),(.a 9),(.a 10),(.a 11),(.a 22),(.a 23),(.a 24),(.a 25),(.a 26),(.a 27)] [] [(.va 0)]))
def b4i:PT :=
 (lO false (.pa 0 4) [jD,jD,jD,jD]
  (.both a7x a7x))
def b4b:PT :=
 (lO false (.pa 0 4) [jD,jD,jD,jD]
  (cA 61 [(.agg [(jA 18),(jA 19),(jA 20),(jA 21)]),(.agg [(jA 12),(jA 13),(jA 14),(jA 15),(jA 16),(jA 17)]),(.agg [(jA 6),(jA 7),(jA 8),(jA 9),(jA 10),(jA 11)])] [] [(.agg [jD,jD,jD,jD,jD,jD]),(.one jD)]
  (jU 2 [(.a 28),(.a 0),(.a 1),(.a 2),(.a 3),(.a 4),(.a 5),(.a 6),(.a 7),(.a 8),(.a 9),(.a 10),(.a 11),(.a 22),(.a 23),(.a 24),(.a 25),(.a 26),(.a 27)] [] [(.va 0)])))
def b3U:PT :=
 (lO false (.pa 0 9) [jD,jD,jD,jD,jD,jD]
  (.both b4i b4b))
def b3R:PT :=
 (lO false (.pa 0 4) [jD,jD,jD,jD]
  (lO false (.pa 0 9) [jD,jD,jD,jD,jD,jD]
  (cA 61 [(.agg [(jA 12),(jA 13),(jA 14),(jA 15)]),(.agg [(jA 16),(jA 17),(jA 18),(jA 19),(jA 20),(jA 21)]),(.agg [(jA 6),(jA 7),(jA 8),(jA 9),(jA 10),(jA 11)])] [] [(.agg [jD,jD,jD,jD,jD,jD]),(.one jD)]
  (jU 2 [(.a 28),(.a 0),(.a 1),(.a 2),(.a 3),(.a 4),(.a 5),(.a 6),(.a 7),(.a 8),(.a 9),(.a 10),(.a 11),(.a 22),(.a 23),(.a 24),(.a 25),(.a 26),(.a 27)] [] [(.va 0)]))))
def b3f:PT :=
 (.both b3U b3R)
def b7S:PT :=
 (cA 31 [(.va 0)] [] []
 (cA 60 [(.agg [(jA 0),(jA 1),(jA 2),(jA 3),(jA 4),(jA 5)]),(.va 1)] [] [(.agg [jD,jD,jD,jD,jD,jD])]
 (nD (.is 1 0)
 (nD (.is 1 0)
 (.both b4a b3f)))))
def b8p:PT :=
 (.ite (.and (.eq (.a 7) (.l 0)) (.and (.eq (.a 8) (.l 0)) (.and (.eq (.a 9) (.l 0)) (.and (.eq (.a 10) (.l 0)) (.and (.eq (.a 11) (.l 0)) (.eq (.a 12) (.l 0)))))))
 (nD (.is 1 0)
 (.storeM (.pa 0 18) [(.bool (.t true))]
 (.ret true (.tup [(.bool (.t true)),(jE 0)]) [])))
 (nD (.is 1 0)
 (lO false (.pa 0 8) [.val]
 (nD (.is 0 1)
 (.ite (.le (.l 30) (.slen 1))
  (nD (.is 1 0)
  (.storeM (.pa 0 18) [(.bool (.t true))]
  (.ret true (.tup [(.bool (.t true)),(jE 0)]) [])))
  (.ite (.not (.eq (.a 0) (.l 0)))
  (nD (.is 1 0)
  (.storeM (.pa 0 18) [(.bool (.t true))]
  (.ret true (.tup [(.bool (.t true)),(jE 0)]) [])))
  (nD (.is 1 0)
  (.storeM (.pa 0 9) [(jA 13),(jA 14),(jA 15),(jA 16),(jA 17),(jA 18)]
  (.ret true (.tup [(.bool (.t false)),(jE 0)]) [])))))))))
def a5X:Sx.Sys:=⟨[(.sh (.one .val))],b8B,[b6S,b7S,b8p],none,none⟩
def b4L:List Cfg:=[{todo:=[(.code (tfR 9 490)),(.code (tfR 9 491)),(.code (tfR 5 31))],sl:=[(.va 0),.undef,(.junk 0),(.junk 1),(.ptr 0 0),(.junk 2),(.va 1),(jA 0),.undef,.undef,.undef]++jkR 3 41++udR 67,H:=[(.cells [(jA 1),(jA 2),(jA 3),(jA 4),(jA 5),(jA 6)] 51 false)],ni:=7,nb:=0,nv:=2,nj:=44},
 {todo:=[(.code (tfR 7 126)),(.code (tfR 7 127))],sl:=[(.va 0),.undef,(.junk 0),(.junk 1),(.ptr 0 0),(.va 1),(.junk 2),(.junk 3),.undef,.undef,.undef]++jkR 4 43++[.undef]++jkR 47 24++udR 40,H:=[(.cells [(jA 0),(jA 1),(jA 2),(jA 3),(jA 4),(jA 5)] 51 false)],ni:=6,nb:=0,nv:=2,nj:=71},
 {todo:=[(.code (tfR 10 1022)),(.code (tfR 10 1023))],sl:=[(.va 0),.undef]++jkR 0 6++[(.ptr 1 0),(.ptr 2 0),(jA 0)]++jkR 6 43++[.undef]++jkR 49 42++udR 22,H:=[(.cells [(jA 1),(jA 2),(jA 3),(jA 4),(jA 5),(jA 6)] 51 false),(.cells [(jA 7),(jA 8),(jA 9),(jA 10),(jA 11),(jA 12)] 51 false),(.cells [(jA 13),(jA 14),(jA 15),(jA 16),(jA 17),(jA 18)] 38 false)],ni:=19,nb:=0,nv:=1,nj:=91}]
theorem b7B:SysOk Tryz.prog 25 a5X:=a0k (c:=(cg [] [] [] true true true true [(tfR 8 245),(tfR 6 63),(tfR 9 511)] [])) (a0h _ _ _ _ _ _ _ _ _) Tryz.func25 Tryz.call25 (by kernel_rfl) b4L a5X 5000 rfl (by kernel_rfl) (by kernel_rfl) rfl
def a5p:PT :=
 (nD (.is 0 0)
 (nD (.is 0 1)
 (.ite (.not (.eq (.slen 0) (.slen 1)))
 rF
 (jU 0 [(.l 0)] [] [(.va 0),(.va 1)]))))
def a6G:PT :=
 (lO false (.ea 0 (.a 0) 9 8) [.val]
    (nD (.is 0 6)
    (lO false (.ea 1 (.a 0) 9 8) [.val]
    (nD (.is 0 7)
    (.ite (.not (.eq (.slen 6) (.slen 7)))
     rF
     (jU 1 [(.a 0),(.l 0),(.a 0),(.slen 2),(.slen 3),(.slen 4),(.slen 5),(.slen 6),(.slen 7)] [(.not (.eq (.slen 2) (.slen 3))),(.not (.eq (.slen 4) (.slen 5))),(.not (.eq (.slen 6) (.slen 7)))] [(.va 0),(.va 1),(.va 2),(.va 3),(.va 4),(.va 5),(.va 6),(.va 7)]))))))
def a6p:PT :=
 (lO false (.ea 1 (.a 0) 9 8) [.val]
    (nD (.is 0 6)
    (lO false (.ea 0 (.a 0) 9 8) [.val]
    (nD (.is 0 7)
    (.ite (.not (.eq (.slen 7) (.slen 6)))
     rF
     (jU 1 [(.a 0),(.l 0),(.a 0),(.slen 2),(.slen 3),(.slen 4),(.slen 5),(.slen 7),(.slen 6)] [(.not (.eq (.slen 2) (.slen 3))),(.not (.eq (.slen 4) (.slen 5))),(.not (.eq (.slen 7) (.slen 6)))] [(.va 0),(.va 1),(.va 2),(.va 3),(.va 4),(.va 5),(.va 7),(.va 6)]))))))
def a6t:PT :=
 (lO false (.ea 0 (.a 0) 9 7) [.val]
   (nD (.is 0 4)
   (lO false (.ea 1 (.a 0) 9 7) [.val]
   (nD (.is 0 5)
   (.ite (.not (.eq (.slen 4) (.slen 5)))
    rF
    (nD (treeI (.a 0) (.slen 0))
    (nD (treeI (.a 0) (.slen 1))
    (.both a6G a6p))))))))
def a6k:PT :=
 (lO false (.ea 0 (.a 0) 9 8) [.val]
    (nD (.is 0 6)
    (lO false (.ea 1 (.a 0) 9 8) [.val]
    (nD (.is 0 7)
    (.ite (.not (.eq (.slen 6) (.slen 7)))
     rF
     (jU 1 [(.a 0),(.l 0),(.a 0),(.slen 2),(.slen 3),(.slen 5),(.slen 4),(.slen 6),(.slen 7)] [(.not (.eq (.slen 2) (.slen 3))),(.not (.eq (.slen 5) (.slen 4))),(.not (.eq (.slen 6) (.slen 7)))] [(.va 0),(.va 1),(.va 2),(.va 3),(.va 5),(.va 4),(.va 6),(.va 7)]))))))
def a6w:PT :=
 (lO false (.ea 1 (.a 0) 9 8) [.val]
    (nD (.is 0 6)
    (lO false (.ea 0 (.a 0) 9 8) [.val]
    (nD (.is 0 7)
    (.ite (.not (.eq (.slen 7) (.slen 6)))
     rF
     (jU 1 [(.a 0),(.l 0),(.a 0),(.slen 2),(.slen 3),(.slen 5),(.slen 4),(.slen 7),(.slen 6)] [(.not (.eq (.slen 2) (.slen 3))),(.not (.eq (.slen 5) (.slen 4))),(.not (.eq (.slen 7) (.slen 6)))] [(.va 0),(.va 1),(.va 2),(.va 3),(.va 5),(.va 4),(.va 7),(.va 6)]))))))
def a6n:PT :=
 (lO false (.ea 1 (.a 0) 9 7) [.val]
   (nD (.is 0 4)
   (lO false (.ea 0 (.a 0) 9 7) [.val]
   (nD (.is 0 5)
   (.ite (.not (.eq (.slen 5) (.slen 4)))
    rF
    (nD (treeI (.a 0) (.slen 0))
    (nD (treeI (.a 0) (.slen 1))
    (.both a6k a6w))))))))
def a6s:PT :=
 (lO false (.ea 0 (.a 0) 9 6) [.val]
  (nD (.is 0 2)
  (lO false (.ea 1 (.a 0) 9 6) [.val]
  (nD (.is 0 3)
  (.ite (.not (.eq (.slen 2) (.slen 3)))
   rF
   (nD (treeI (.a 0) (.slen 0))
   (nD (treeI (.a 0) (.slen 1))
   (.both a6t a6n))))))))
def a6C:PT :=
 (lO false (.ea 0 (.a 0) 9 8) [.val]
    (nD (.is 0 6)
    (lO false (.ea 1 (.a 0) 9 8) [.val]
    (nD (.is 0 7)
    (.ite (.not (.eq (.slen 6) (.slen 7)))
     rF
     (jU 1 [(.a 0),(.l 0),(.a 0),(.slen 3),(.slen 2),(.slen 4),(.slen 5),(.slen 6),(.slen 7)] [(.not (.eq (.slen 3) (.slen 2))),(.not (.eq (.slen 4) (.slen 5))),(.not (.eq (.slen 6) (.slen 7)))] [(.va 0),(.va 1),(.va 3),(.va 2),(.va 4),(.va 5),(.va 6),(.va 7)]))))))
def a6z:PT :=
 (lO false (.ea 1 (.a 0) 9 8) [.val]
    (nD (.is 0 6)
    (lO false (.ea 0 (.a 0) 9 8) [.val]
    (nD (.is 0 7)
    (.ite (.not (.eq (.slen 7) (.slen 6)))
     rF
     (jU 1 [(.a 0),(.l 0),(.a 0),(.slen 3),(.slen 2),(.slen 4),(.slen 5),(.slen 7),(.slen 6)] [(.not (.eq (.slen 3) (.slen 2))),(.not (.eq (.slen 4) (.slen 5))),(.not (.eq (.slen 7) (.slen 6)))] [(.va 0),(.va 1),(.va 3),(.va 2),(.va 4),(.va 5),(.va 7),(.va 6)]))))))
def a6e:PT :=
 (lO false (.ea 0 (.a 0) 9 7) [.val]
   (nD (.is 0 4)
   (lO false (.ea 1 (.a 0) 9 7) [.val]
   (nD (.is 0 5)
   (.ite (.not (.eq (.slen 4) (.slen 5)))
    rF
    (nD (treeI (.a 0) (.slen 0))
    (nD (treeI (.a 0) (.slen 1))
    (.both a6C a6z))))))))
def a6b:PT :=
 (lO false (.ea 0 (.a 0) 9 8) [.val]
    (nD (.is 0 6)
    (lO false (.ea 1 (.a 0) 9 8) [.val]
    (nD (.is 0 7)
    (.ite (.not (.eq (.slen 6) (.slen 7)))
     rF
     (jU 1 [(.a 0),(.l 0),(.a 0),(.slen 3),(.slen 2),(.slen 5),(.slen 4),(.slen 6),(.slen 7)] [(.not (.eq (.slen 3) (.slen 2))),(.not (.eq (.slen 5) (.slen 4))),(.not (.eq (.slen 6) (.slen 7)))] [(.va 0),(.va 1),(.va 3),(.va 2),(.va 5),(.va 4),(.va 6),(.va 7)]))))))
def a5Z:PT :=
 (lO false (.ea 1 (.a 0) 9 8) [.val]
    (nD (.is 0 6)
    (lO false (.ea 0 (.a 0) 9 8) [.val]
    (nD (.is 0 7)
    (.ite (.not (.eq (.slen 7) (.slen 6)))
     rF
     (jU 1 [(.a 0),(.l 0),(.a 0),(.slen 3),(.slen 2),(.slen 5),(.slen 4),(.slen 7),(.slen 6)] [(.not (.eq (.slen 3) (.slen 2))),(.not (.eq (.slen 5) (.slen 4))),(.not (.eq (.slen 7) (.slen 6)))] [(.va 0),(.va 1),(.va 3),(.va 2),(.va 5),(.va 4),(.va 7),(.va 6)]))))))
def a6g:PT :=
 (lO false (.ea 1 (.a 0) 9 7) [.val]
   (nD (.is 0 4)
   (lO false (.ea 0 (.a 0) 9 7) [.val]
   (nD (.is 0 5)
   (.ite (.not (.eq (.slen 5) (.slen 4)))
    rF
    (nD (treeI (.a 0) (.slen 0))
    (nD (treeI (.a 0) (.slen 1))
    (.both a6b a5Z))))))))
def a6c:PT :=
 (lO false (.ea 1 (.a 0) 9 6) [.val]
  (nD (.is 0 2)
  (lO false (.ea 0 (.a 0) 9 6) [.val]
  (nD (.is 0 3)
  (.ite (.not (.eq (.slen 3) (.slen 2)))
   rF
   (nD (treeI (.a 0) (.slen 0))
   (nD (treeI (.a 0) (.slen 1))
   (.both a6e a6g))))))))
def a2B:PT :=
 (nD (.is 0 0)
 (.ite (.lt (.a 0) (.slen 0))
 (nD (treeI (.a 0) (.slen 0))
 (nD (treeI (.a 0) (.slen 1))
 (lO false (.ea 0 (.a 0) 9 0) [jD,jD,jD,jD,jD,jD]
 (lO false (.ea 1 (.a 0) 9 0) [jD,jD,jD,jD,jD,jD]
 (.ite (.not (.and (.eq (.a 1) (.a 7)) (.and (.eq (.a 2) (.a 8)) (.and (.eq (.a 3) (.a 9)) (.and (.eq (.a 4) (.a 10)) (.and (.eq (.a 5) (.a 11)) (.eq (.a 6) (.a 12))))))))
  rF
  (nD (treeI (.a 0) (.slen 0))
  (nD (treeI (.a 0) (.slen 1))
  (.both a6s a6c))))))))
 (.ret false (.bool (.t true)) [])))
def a2D:PT :=
 (nD (treeI (.a 0) (.slen 0))
 (lO false (.ea 0 (.a 0) 9 6) [.val]
 (nD (.is 0 8)
 (.ite (.lt (.a 1) (.slen 8))
 (nD (treeI (.a 0) (.slen 0))
 (lO false (.ea 0 (.a 0) 9 7) [.val]
 (nD (.is 0 9)
 (.ite (.lt (.a 1) (.slen 9))
  (nD (treeI (.a 0) (.slen 0))
  (lO false (.ea 0 (.a 0) 9 8) [.val]
  (nD (.is 0 10)
  (.ite (.lt (.a 1) (.slen 10))
  (nD (treeI (.a 0) (.slen 0))
  (nD (treeI (.a 0) (.slen 1))
  (lO false (.ea 0 (.a 0) 9 6) [.val]
  (nD (treeI (.a 1) (.slen 11))
  (lO false (.ea 11 (.a 1) 6 0) [jD,jD,jD,jD,jD,jD]
  (lO false (.ea 1 (.a 0) 9 6) [.val]
  (nD (treeI (.a 1) (.slen 12))
  (lO false (.ea 12 (.a 1) 6 0) [jD,jD,jD,jD,jD,jD]
  (.ite (.not (.and (.eq (.a 9) (.a 15)) (.and (.eq (.a 10) (.a 16)) (.and (.eq (.a 11) (.a 17)) (.and (.eq (.a 12) (.a 18)) (.and (.eq (.a 13) (.a 19)) (.eq (.a 14) (.a 20))))))))
   rF
   (nD (treeI (.a 0) (.slen 0))
   (nD (treeI (.a 0) (.slen 1))
   (lO false (.ea 0 (.a 0) 9 7) [.val]
   (nD (treeI (.a 1) (.slen 13))
   (lO false (.ea 13 (.a 1) 6 0) [jD,jD,jD,jD,jD,jD]
   (lO false (.ea 1 (.a 0) 9 7) [.val]
   (nD (treeI (.a 1) (.slen 14))
   (lO false (.ea 14 (.a 1) 6 0) [jD,jD,jD,jD,jD,jD]
   (.ite (.not (.and (.eq (.a 21) (.a 27)) (.and (.eq (.a 22) (.a 28)) (.and (.eq (.a 23) (.a 29)) (.and (.eq (.a 24) (.a 30)) (.and (.eq (.a 25) (.a 31)) (.eq (.a 26) (.a 32))))))))
   rF
   (nD (treeI (.a 0) (.slen 0))
   (nD (treeI (.a 0) (.slen 1))
   (lO false (.ea 0 (.a 0) 9 8) [.val]
   (nD (treeI (.a 1) (.slen 15))
   (lO false (.ea 15 (.a 1) 1 0) [.bool]
   (lO false (.ea 1 (.a 0) 9 8) [.val]
   (nD (treeI (.a 1) (.slen 16))
   (lO false (.ea 16 (.a 1) 1 0) [.bool]
   (.ite (.not (.or (.and (.a 3) (.a 4)) (.and (.not (.a 3)) (.not (.a 4)))))
    rF
    (nD (treeB (jP 1))
    (jU 1 [(.a 0),(jP 1),(.a 2),(.a 3),(.a 4),(.a 5),(.a 6),(.a 7),(.a 8)] [(.a 0),(.a 1),(.a 2)] [(.va 0),(.va 1),(.va 2),(.va 3),(.va 4),(.va 5),(.va 6),(.va 7)])))))))))))))))))))))))))))))
  (nD (treeB (jP 0))
  (jU 0 [(jP 0)] [] [(.va 0),(.va 1)]))))))
  (nD (treeB (jP 0))
  (jU 0 [(jP 0)] [] [(.va 0),(.va 1)]))))))
 (nD (treeB (jP 0))
 (jU 0 [(jP 0)] [] [(.va 0),(.va 1)]))))))
def a1l:Sx.Sys:=⟨[(.sh (.one .val)),(.sh (.one .val))],a5p,[a2B,a2D],none,none⟩
def b4e:List Cfg:=[{todo:=[(.code (tfR 6 52)),(.inLoop (tfR 6 52)),(.inBlock 0),(.code [true,true,true])],sl:=[(.va 0),(.va 1),.undef,.undef,(.junk 0),(jA 0)]++jkR 1 153,H:=[],ni:=1,nb:=0,nv:=2,nj:=154},
 {todo:=[(.code (tfR 13 6732)),(.inLoop (tfR 13 6732)),(.inBlock 2),(.inBlock 1),(.code (tfR 8 211)),(.inLoop (tfR 6 52)),(.inBlock 0),(.code [true,true,true])],sl:=[(.va 0),(.va 1),.undef,.undef,(.junk 0),(jA 0),(jA 1)]++jkR 1 23++[(.va 0),(jA 0),(.ea 0 (.a 2) 9 0),(.ea 0 (.a 2) 9 6),(.va 2),(jA 3),(.va 1),(jA 0),(.ea 1 (.a 2) 9 0),(.ea 1 (.a 2) 9 6),(.va 3),(jA 4),(.bool (.a 0)),(.junk 24),(.junk 25),(.va 0),(jA 0),(.ea 0 (.a 2) 9 0),(.ea 0 (.a 2) 9 7),(.va 4),(jA 5),(.va 1),(jA 0),(.ea 1 (.a 2) 9 0),(.ea 1 (.a 2) 9 7),(.va 5),(jA 6),(.bool (.a 1)),(.junk 26),(.junk 27),(.va 0),(jA 0),(.ea 0 (.a 2) 9 0),(.ea 0 (.a 2) 9 8),(.va 6),(jA 7),(.va 1),(jA 0),(.ea 1 (.a 2) 9 0),(.ea 1 (.a 2) 9 8),(.va 7),(jA 8),(.bool (.a 2))]++jkR 28 86,H:=[],ni:=9,nb:=3,nv:=8,nj:=114}]
theorem b6o:SysOk Tryz.prog 33 a1l:=a0k (c:=(cg [(tfR 6 52),(tfR 13 6732)] [] [] true false false true)) (a0h _ _ _ _ _ _ _ _ _) Tryz.func33 Tryz.call33 (by kernel_rfl) b4e a1l 5000 rfl (by kernel_rfl) (by kernel_rfl) rfl
def a9E:PT :=
 (nD (.is 0 0)
 (jU 0 [(.slen 0),(.l 0),(.l 0),(.l 0),(.l 0),(.l 0),(.l 0),(.l 0)] [] [(.va 0)]))
def a3G:PT :=
 (.ite (.lt (.a 1) (.a 0))
 (nD (treeI (.a 1) (.slen 0))
 (lO false (.ea 0 (.a 1) 5 0) [.val,jD,jD,jD,jD]
 (.ite (.lt (.a 1) (.l 6))
  (.ite (.eq (.a 1) (.l 5))
  (jU 0 [(.a 0),(.l 6),(.a 2),(.a 3),(.a 4),(.a 5),(.a 6),(.a 8)] [] [(.va 0)])
  (.ite (.eq (.a 1) (.l 4))
   (jU 0 [(.a 0),(.l 5),(.a 2),(.a 3),(.a 4),(.a 5),(.a 8),(.a 7)] [] [(.va 0)])
   (.ite (.eq (.a 1) (.l 3))
   (jU 0 [(.a 0),(.l 4),(.a 2),(.a 3),(.a 4),(.a 8),(.a 6),(.a 7)] [] [(.va 0)])
   (.ite (.eq (.a 1) (.l 2))
    (jU 0 [(.a 0),(.l 3),(.a 2),(.a 3),(.a 8),(.a 5),(.a 6),(.a 7)] [] [(.va 0)])
    (.ite (.eq (.a 1) (.l 1))
    (jU 0 [(.a 0),(.l 2),(.a 2),(.a 8),(.a 4),(.a 5),(.a 6),(.a 7)] [] [(.va 0)])
    (.ite (.eq (.a 1) (.l 0))
     (jU 0 [(.a 0),(.l 1),(.a 8),(.a 3),(.a 4),(.a 5),(.a 6),(.a 7)] [] [(.va 0)])
     .stuck))))))
  (nD (treeB (jP 1))
  (jU 0 [(.a 0),(jP 1),(.a 2),(.a 3),(.a 4),(.a 5),(.a 6),(.a 7)] [] [(.va 0)])))))
 (.ret false (.agg [(jA 2),(jA 3),(jA 4),(jA 5),(jA 6),(jA 7)]) []))
def a1y:Sx.Sys:=⟨[(.sh (.one .val))],a9E,[a3G],none,none⟩
def b8E:List Cfg:=[{todo:=[(.code (tfR 6 52)),(.inLoop (tfR 6 52)),(.inBlock 0),(.code [true,true,true])],sl:=[(.junk 0),.undef,(.ptr 0 0),(.ptr 1 0),(.junk 1),(.junk 2),(.va 0),(jA 0),(jA 1)]++jkR 3 11++[.undef],H:=[(.cells [(jE 0),(jE 0),(jE 0),(jE 0),(jE 0),(jE 0)] 51 false),(.cells [(jA 2),(jA 3),(jA 4),(jA 5),(jA 6),(jA 7)] 51 false)],ni:=8,nb:=0,nv:=1,nj:=14}]
theorem c0L:SysOk Tryz.prog 57 a1y:=a0k (c:=(cg [(tfR 6 52)] [] [] false false false true)) (a0h _ _ _ _ _ _ _ _ _) Tryz.func57 Tryz.call57 (by kernel_rfl) b8E a1y 5000 rfl (by kernel_rfl) (by kernel_rfl) rfl
def a8T:PT :=
 (nD (.is 0 2)
 (.ite (.lt (.l 16) (.slen 2))
 (.ret false (jE 3) [])
 (nD (.is 0 2)
 (jU 0 [(.slen 2),(.l 0)] [] [(.va 2),(.va 0),(.va 1),(.va 3)]))))
def a3o:PT :=
 (.ite (.lt (.a 1) (.a 0))
 (nD (treeI (.a 1) (.slen 0))
 (lO false (.ea 0 (.a 1) 3 0) [jD,jD,jD]
 (.ite (.lt (.a 2) (.l (-1)))
  (.ret false (jE 6) [])
  (nD (.is 0 2)
  (.ite (.le (.slen 2) (.a 2))
  (.ret false (jE 6) [])
  (.ite (.lt (.a 3) (.l 0))
   (.ret false (jE 4) [])
   (.ite (.lt (.l 4) (.a 3))
   (.ret false (jE 4) [])
   (.ite (.lt (.a 4) (.l 0))
    (.ret false (jE 4) [])
    (.ite (.lt (.l 24) (.a 4))
    (.ret false (jE 4) [])
    (.cut 0 none (some (.a 1)) 3
    (nD (.is 0 4)
    (jU 1 [(.a 0),(.a 1),(.a 2),(.slen 2),(.a 3),(.a 4),(.slen 4),(.l 0)] [(.le (.slen 2) (.a 2)),(.lt (.l 4) (.a 3)),(.lt (.a 4) (.l 0)),(.lt (.l 24) (.a 4))] [(.va 0),(.va 2),(.va 4),(.va 1),(.va 3)]))))))))))))
 (.ret false (jE 0) []))
def a3p:PT :=
 (.ite (.lt (.a 7) (.a 6))
 (nD (treeI (.a 7) (.slen 2))
 (lO false (.ea 2 (.a 7) 3 0) [jD,jD,jD]
 (.ite (.eq (.a 8) (.a 2))
  (.ite (.eq (.a 9) (.a 4))
  (.ret false (jE 7) [])
  (nD (treeB (jP 7))
  (jU 1 [(.a 0),(.a 1),(.a 2),(.a 3),(.a 4),(.a 5),(.a 6),(jP 7)] [(.a 0),(.a 1),(.a 2),(.a 3)] [(.va 0),(.va 1),(.va 2),(.va 3),(.va 4)])))
  (nD (treeB (jP 7))
  (jU 1 [(.a 0),(.a 1),(.a 2),(.a 3),(.a 4),(.a 5),(.a 6),(jP 7)] [(.a 0),(.a 1),(.a 2),(.a 3)] [(.va 0),(.va 1),(.va 2),(.va 3),(.va 4)])))))
 (nD (treeB (jP 1))
 (jU 0 [(.a 0),(jP 1)] [] [(.va 0),(.va 3),(.va 1),(.va 4)])))
def a1k:Sx.Sys:=⟨[(.sh (.agg [.val,.val,.val,.val]))],a8T,[a3o,a3p],none,none⟩
def b8f:List Cfg:=[{todo:=[(.code (tfR 6 52)),(.inLoop (tfR 6 52)),(.inBlock 0),(.code [true,true,true])],sl:=[(.junk 0),(.ptr 0 0),(.junk 1),(.junk 2),(.junk 3),.undef]++jkR 4 6++[(.va 0),(jA 0),(jA 1)]++jkR 10 56,H:=[(.cells [(.va 1),(.va 2),(.va 0),(.va 3)] 27 false)],ni:=2,nb:=0,nv:=4,nj:=66},
 {todo:=[(.code (tfR 16 54076)),(.inLoop (tfR 16 54076)),(.inBlock 2),(.inBlock 1),(.code (tfR 9 423)),(.inLoop (tfR 6 52)),(.inBlock 0),(.code [true,true,true])],sl:=[(.junk 0),(.ptr 0 0),(.junk 1),(.junk 2),(.ptr 1 0),.undef]++jkR 3 6++[(.va 0),(jA 0),(jA 1)]++jkR 9 8++[(.ptr 1 0),(jA 2),(.ptr 0 1),(.va 1),(jA 3),(.bool (.a 0))]++jkR 17 5++[(.ptr 1 1),(jA 4),(.bool (.a 1)),(.junk 22),(.junk 23),(.ptr 1 2),(jA 5),(.bool (.a 2)),(.junk 24),(.junk 25),(.ptr 1 2),(jA 5),(.bool (.a 3))]++jkR 26 4++[(.va 2),(jA 6),(jA 7)]++jkR 30 17,H:=[(.cells [(.va 3),(.va 1),(.va 0),(.va 4)] 27 false),(.cells [(jA 2),(jA 4),(jA 5)] 89 false)],ni:=8,nb:=4,nv:=5,nj:=47}]
theorem b9k:SysOk Tryz.prog 65 a1k:=a0k (c:=(cg [(tfR 6 52),(tfR 16 54076)] [] [] false false false true)) (a0h _ _ _ _ _ _ _ _ _) Tryz.func65 Tryz.call65 (by kernel_rfl) b8f a1k 5000 rfl (by kernel_rfl) (by kernel_rfl) rfl
def b1E:PT :=
 (nD (treeB (.mul (.a 0) (.a 6)))
 (nD (treeB (.mul (.a 0) (.a 6)))
 (nD (treeB (.mul (.a 1) (.a 7)))
 (nD (treeB (.add (.mul (.a 0) (.a 6)) (.mul (.a 1) (.a 7))))
 (nD (treeB (.mul (.a 2) (.a 8)))
 (nD (treeB (.add (.add (.mul (.a 0) (.a 6)) (.mul (.a 1) (.a 7))) (.mul (.a 2) (.a 8))))
 (nD (treeB (.mul (.a 3) (.a 9)))
 (nD (treeB (.add (.add (.add (.mul (.a 0) (.a 6)) (.mul (.a 1) (.a 7))) (.mul (.a 2) (.a 8))) (.mul (.a 3) (.a 9))))
 (nD (treeB (.mul (.a 4) (.a 10)))
 (nD (treeB (.add (.add (.add (.add (.mul (.a 0) (.a 6)) (.mul (.a 1) (.a 7))) (.mul (.a 2) (.a 8))) (.mul (.a 3) (.a 9))) (.mul (.a 4) (.a 10))))
 (nD (treeB (.mul (.a 5) (.a 11)))
 (nD (treeB (.add (.add (.add (.add (.add (.mul (.a 0) (.a 6)) (.mul (.a 1) (.a 7))) (.mul (.a 2) (.a 8))) (.mul (.a 3) (.a 9))) (.mul (.a 4) (.a 10))) (.mul (.a 5) (.a 11))))
 (.ret false (.int .i64 (.add (.add (.add (.add (.add (.mul (.a 0) (.a 6)) (.mul (.a 1) (.a 7))) (.mul (.a 2) (.a 8))) (.mul (.a 3) (.a 9))) (.mul (.a 4) (.a 10))) (.mul (.a 5) (.a 11)))) [])))))))))))))
def a9v:Sx.Sys:=⟨[(.sh (.agg [jD,jD,jD,jD,jD,jD])),(.sh (.agg [jD,jD,jD,jD,jD,jD]))],b1E,[],none,none⟩
def c1N:List Cfg:=[]
theorem c3D:SysOk Tryz.prog 81 a9v:=a0k (c:=(cg [] [] [] false false false true)) (a0h _ _ _ _ _ _ _ _ _) Tryz.func81 Tryz.call81 (by kernel_rfl) c1N a9v 5000 rfl (by kernel_rfl) (by kernel_rfl) rfl
def b1i:PT :=
 (nD (.is 3 0)
 (.ite (.not (.sis 0 []))
 (nD (.is 3 0)
 (.ite (.le (.stl 0) (.l 12))
  (nD (.is 3 0)
  (nD (.lt (.l 0) (.stl 0))
  (nD (.and (.le (.l (-2147483648)) (.sat 0 (.l 0))) (.le (.sat 0 (.l 0)) (.l 2147483647)))
  (cA 124 [(.int .i32 (.sat 0 (.l 0)))] [] [(.one .bool)]
  (.ite (.a 0)
  (cA 125 [(.va 0),(jE 0),(.fn 126 0 [])] [] [(.one .val)]
  (nD (.is 3 1)
  (nD (.is 3 0)
  (.ret false (.bool (.seq 1 0)) []))))
  rF)))))
  rF))
 rF))
def a6W:Sx.Sys:=⟨[(.sh (.one .val))],b1i,[],none,none⟩
def c0E:List Cfg:=[]
theorem c2I:SysOk Tryz.prog 97 a6W:=a0k (c:=(cg [] [] [] false false false true)) (a0h _ _ _ _ _ _ _ _ _) Tryz.func97 Tryz.call97 (by kernel_rfl) c0E a6W 5000 rfl (by kernel_rfl) (by kernel_rfl) rfl
def a4v:PT :=
 (.ite (.le (.l 97) (.a 0))
 (.ret false (.bool (.le (.a 0) (.l 122))) [])
 rF)
def a3g:Sx.Sys:=⟨[(.sh (.one (.int .u8)))],a4v,[],none,none⟩
def b2e:List Cfg:=[]
theorem b3T:SysOk Tryz.prog 113 a3g:=a0k (c:=(cg [] [] [] false false false true)) (a0h _ _ _ _ _ _ _ _ _) Tryz.func113 Tryz.call113 (by kernel_rfl) b2e a3g 5000 rfl (by kernel_rfl) (by kernel_rfl) rfl
def c1S:PT :=
 (cA 134 [(.va 0)] [] [(.one .bool)]
 (.ite (.not (.a 0))
 (.ret false (.tup [(.agg [.nilS,.nilS]),(.bool (.t false))]) [])
 (cA 135 [(.va 0)] [] [(.one .val),(.one .val)]
 (nD (.is 0 2)
 (.ite (.not (.nil 2))
  (.ret false (.tup [(.agg [(.va 2),.nilS]),(.bool (.t false))]) [])
  (nD (.is 0 0)
  (jU 0 [(.l 0),(.slen 0),(.l 0)] [] [(.va 0),(.va 1)])))))))
def b7O:PT :=
 (cA 81 [(.agg [(jA 3),(jA 4),(jA 5),(jA 6),(jA 7),(jA 8)]),(.agg [(jA 9),(jA 10),(jA 11),(jA 12),(jA 13),(jA 14)])] [] [(.one jD)]
  (lO false (.ea 1 (.a 2) 1 0) [jD]
  (nD (treeB (.sub (.a 15) (.a 16)))
  (nD (treeB (jP 2))
  (jU 0 [(.mx (.a 0) (.sub (.a 15) (.a 16))),(.a 1),(jP 2)] [] [(.va 0),(.va 1)])))))
def b6X:PT :=
 (lO false (.ea 1 (.a 2) 1 0) [jD]
  (cA 81 [(.agg [(jA 3),(jA 4),(jA 5),(jA 6),(jA 7),(jA 8)]),(.agg [(jA 9),(jA 10),(jA 11),(jA 12),(jA 13),(jA 14)])] [] [(.one jD)]
  (nD (treeB (.sub (.a 16) (.a 15)))
  (nD (treeB (jP 2))
  (jU 0 [(.mx (.a 0) (.sub (.a 16) (.a 15))),(.a 1),(jP 2)] [] [(.va 0),(.va 1)])))))
def c0z:PT :=
 (.ite (.lt (.a 2) (.a 1))
 (nD (treeI (.a 2) (.slen 0))
 (lO false (.ea 0 (.a 2) 12 0) [jD,jD,jD,jD,jD,jD,jD,jD,jD,jD,jD,jD]
 (nD (treeI (.a 2) (.slen 1))
 (.both b7O b6X))))
 (nD (.is 0 0)
 (jU 1 [(.a 0),(.slen 0),(.l 0)] [] [(.va 1),(.va 0)])))
def c0T:PT :=
 (.ite (.lt (.a 2) (.a 1))
 (nD (treeI (.a 2) (.slen 1))
 (lO false (.ea 1 (.a 2) 12 0) [jD,jD,jD,jD,jD,jD,jD,jD,jD,jD,jD,jD]
 (.ite (.and (.eq (.a 9) (.l 0)) (.and (.eq (.a 10) (.l 0)) (.and (.eq (.a 11) (.l 0)) (.and (.eq (.a 12) (.l 0)) (.and (.eq (.a 13) (.l 0)) (.eq (.a 14) (.l 0)))))))
  (nD (treeI (.a 2) (.slen 0))
  (lO false (.ea 0 (.a 2) 1 0) [jD]
  (nD (treeB (.sub (.l 0) (.a 15)))
  (nD (treeB (jP 2))
  (jU 1 [(.sub (.l 0) (.a 15)),(.a 1),(jP 2)] [] [(.va 0),(.va 1)])))))
  (nD (treeB (jP 2))
  (jU 1 [(.a 0),(.a 1),(jP 2)] [] [(.va 0),(.va 1)])))))
 (nD (.is 0 0)
 (jU 2 [(.a 0),(.slen 0),(.l 0)] [] [(.va 0)])))
def c0F:PT :=
 (.ite (.lt (.a 2) (.a 1))
 (nD (treeI (.a 2) (.slen 0))
 (lO false (.ea 0 (.a 2) 1 0) [jD]
 (nD (treeB (.add (.a 3) (.a 0)))
 (nD (treeI (.a 2) (.slen 0))
 (.storeM (.ea 0 (.a 2) 1 0) [(.int .i64 (.add (.a 3) (.a 0)))]
 (nD (treeB (jP 2))
 (jU 2 [(.a 0),(.a 1),(jP 2)] [] [(.va 0)])))))))
 (.ret false (.tup [(.agg [.nilS,(.va 0)]),(.bool (.t true))]) []))
def a9B:Sx.Sys:=⟨[(.sh (.one .val))],c1S,[c0z,c0T,c0F],none,none⟩
def b8z:List Cfg:=[{todo:=[(.code (tfR 9 500)),(.inLoop (tfR 9 500)),(.inBlock 0),(.code (tfR 6 63))],sl:=[(.va 0),.undef,(.ptr 0 0),(.junk 0),(.va 1),(.junk 1),(jA 0),(.junk 2),(.junk 3),.undef,.undef,.undef,(.junk 4),(.junk 5),(.junk 6),.undef]++jkR 7 7++[.undef,.undef,(.va 0),(jA 1),(jA 2)]++jkR 14 17++udR 32,H:=[(.cells [.nilS,.nilS] 163 false)],ni:=3,nb:=0,nv:=2,nj:=31},
 {todo:=[(.code (tfR 10 1012)),(.inLoop (tfR 10 1012)),(.inBlock 2),(.code (tfR 7 127))],sl:=[(.junk 0),.undef,(.ptr 0 0),(.junk 1),(.va 0),(.junk 2),(jA 0)]++jkR 3 4++[.undef,(.junk 7),(.junk 8),(.junk 9),.undef]++jkR 10 7++[.undef,.undef]++jkR 17 20++[(.va 1),(jA 1),(jA 2)]++jkR 37 14++udR 15,H:=[(.cells [.nilS,.nilS] 163 false)],ni:=3,nb:=0,nv:=2,nj:=51},
 {todo:=[(.code (tfR 11 2036)),(.inLoop (tfR 11 2036)),(.inBlock 4),(.code (tfR 8 255))],sl:=[(.junk 0),.undef,(.ptr 0 0),(.junk 1),(.va 0),(.junk 2),(jA 0)]++jkR 3 8++[.undef]++jkR 11 7++[.undef,.undef]++jkR 18 38++[(jA 1),(jA 2)]++jkR 56 10++[.undef,.undef],H:=[(.cells [.nilS,.nilS] 163 false)],ni:=3,nb:=0,nv:=1,nj:=66}]
theorem c0D:SysOk Tryz.prog 121 a9B:=a0k (c:=(cg [(tfR 9 500),(tfR 10 1012),(tfR 11 2036)] [] [] true false false true)) (a0h _ _ _ _ _ _ _ _ _) Tryz.func121 Tryz.call121 (by kernel_rfl) b8z a9B 5000 rfl (by kernel_rfl) (by kernel_rfl) rfl
def b8d:PT :=
 (jU 0 [(.a 0)] [] [])
def b6C:PT :=
 .stuck
def a5n:Sx.Sys:=⟨[(.sh (.one (.int .u8)))],b8d,[b6C],none,none⟩
def b4k:List Cfg:=[{todo:=[(.code (tfR 6 52)),(.inLoop (tfR 6 52)),(.inBlock 0),(.code [true,true,true])],sl:=[(.int .u8 (.a 0)),.undef,(.junk 0),(.str [123,125,40,41,58,44,64,43,45,61]),(jE 0)]++udR 11,H:=[],ni:=1,nb:=0,nv:=0,nj:=1}]
theorem b6e:SysOk Tryz.prog 129 a5n:=a0k (c:=(cg [(tfR 6 52)] [] [] false false false true)) (a0h _ _ _ _ _ _ _ _ _) Tryz.func129 Tryz.call129 (by kernel_rfl) b4k a5n 5000 rfl (by kernel_rfl) (by kernel_rfl) rfl
def b1M:PT :=
 (.ite (.le (.l 48) (.a 0))
 (.ret false (.bool (.le (.a 0) (.l 57))) [])
 rF)
def a9x:Sx.Sys:=⟨[(.sh (.one (.int .i32)))],b1M,[],none,none⟩
def c1z:List Cfg:=[]
theorem c3W:SysOk Tryz.prog 137 a9x:=a0k (c:=(cg [] [] [] false false false true)) (a0h _ _ _ _ _ _ _ _ _) Tryz.func137 Tryz.call137 (by kernel_rfl) c1z a9x 5000 rfl (by kernel_rfl) (by kernel_rfl) rfl
def a9m:PT :=
 (.mkM (.slen 1) [(.bool (.t false))] 4 1 1
   (.mkM (.slen 1) [(.bool (.t false))] 4 1 1
   (.ret false (.tup [(.agg [(.va 0),(.va 1),(.va 2),(.va 3),(jA 0),(jA 1),(jA 2),(jA 3),.nilS,(jA 6),(jA 7),(jA 8),(jA 9),(jA 10),(jA 11),(.va 4),(.va 5),(.va 6),(.bool (.t false))]),(jE 0)]) [])))
def a9n:PT :=
 (.mkM (.slen 1) [(.bool (.t false))] 4 1 1
   (.mkM (.slen 1) [(.bool (.t false))] 4 1 1
   (.ret false (.tup [(.agg [(.va 0),(.va 1),(.va 2),(.va 3),(jA 0),(jA 1),(jA 2),(jA 3),.nilS,(jA 6),(jA 7),(jA 8),(jA 9),(jA 10),(jA 11),(.va 4),(.va 6),(.va 5),(.bool (.t false))]),(jE 0)]) [])))
def a9r:PT :=
 (.mkM (.slen 1) [(jE 0),(jE 0),(jE 0),(jE 0),(jE 0),(jE 0)] 51 6 48
   (.both a9m a9n))
def a9a:PT :=
 (.mkM (.slen 1) [(jE 0),(jE 0),(jE 0),(jE 0),(jE 0),(jE 0)] 51 6 48
    (.mkM (.slen 1) [(.bool (.t false))] 4 1 1
    (.ret false (.tup [(.agg [(.va 0),(.va 1),(.va 2),(.va 3),(jA 0),(jA 1),(jA 2),(jA 3),.nilS,(jA 6),(jA 7),(jA 8),(jA 9),(jA 10),(jA 11),(.va 5),(.va 4),(.va 6),(.bool (.t false))]),(jE 0)]) [])))
def a9c:PT :=
 (.mkM (.slen 1) [(.bool (.t false))] 4 1 1
    (.mkM (.slen 1) [(jE 0),(jE 0),(jE 0),(jE 0),(jE 0),(jE 0)] 51 6 48
    (.ret false (.tup [(.agg [(.va 0),(.va 1),(.va 2),(.va 3),(jA 0),(jA 1),(jA 2),(jA 3),.nilS,(jA 6),(jA 7),(jA 8),(jA 9),(jA 10),(jA 11),(.va 6),(.va 4),(.va 5),(.bool (.t false))]),(jE 0)]) [])))
def a9q:PT :=
 (.mkM (.slen 1) [(.bool (.t false))] 4 1 1
   (.both a9a a9c))
def a9f:PT :=
 (.mkM (.slen 1) [(jE 0),(jE 0),(jE 0),(jE 0),(jE 0),(jE 0)] 51 6 48
    (.mkM (.slen 1) [(.bool (.t false))] 4 1 1
    (.ret false (.tup [(.agg [(.va 0),(.va 1),(.va 2),(.va 3),(jA 0),(jA 1),(jA 2),(jA 3),.nilS,(jA 6),(jA 7),(jA 8),(jA 9),(jA 10),(jA 11),(.va 5),(.va 6),(.va 4),(.bool (.t false))]),(jE 0)]) [])))
def a9s:PT :=
 (.mkM (.slen 1) [(.bool (.t false))] 4 1 1
    (.mkM (.slen 1) [(jE 0),(jE 0),(jE 0),(jE 0),(jE 0),(jE 0)] 51 6 48
    (.ret false (.tup [(.agg [(.va 0),(.va 1),(.va 2),(.va 3),(jA 0),(jA 1),(jA 2),(jA 3),.nilS,(jA 6),(jA 7),(jA 8),(jA 9),(jA 10),(jA 11),(.va 6),(.va 5),(.va 4),(.bool (.t false))]),(jE 0)]) [])))
def a9j:PT :=
 (.mkM (.slen 1) [(.bool (.t false))] 4 1 1
   (.both a9f a9s))
def a7J:PT :=
 (.both a9q a9j)
def a8J:PT :=
 (cA 32 [(.va 0)] [] [(.agg [jD,jD,jD,jD,jD,jD])]
  (.both a9r a7J))
def a7p:PT :=
 (.mkM (.slen 1) [(.bool (.t false))] 4 1 1
    (.mkM (.slen 1) [(.bool (.t false))] 4 1 1
    (.ret false (.tup [(.agg [(.va 0),(.va 1),(.va 2),(.va 3),(jA 0),(jA 1),(jA 2),(jA 3),.nilS,(jA 6),(jA 7),(jA 8),(jA 9),(jA 10),(jA 11),(.va 4),(.va 5),(.va 6),(.bool (.t false))]),(jE 0)]) [])))
def a8D:PT :=
 (.mkM (.slen 1) [(.bool (.t false))] 4 1 1
    (.mkM (.slen 1) [(.bool (.t false))] 4 1 1
    (.ret false (.tup [(.agg [(.va 0),(.va 1),(.va 2),(.va 3),(jA 0),(jA 1),(jA 2),(jA 3),.nilS,(jA 6),(jA 7),(jA 8),(jA 9),(jA 10),(jA 11),(.va 4),(.va 6),(.va 5),(.bool (.t false))]),(jE 0)]) [])))
def a7P:PT :=
 (cA 32 [(.va 0)] [] [(.agg [jD,jD,jD,jD,jD,jD])]
   (.both a7p a8D))
def a8o:PT :=
 (cA 32 [(.va 0)] [] [(.agg [jD,jD,jD,jD,jD,jD])]
    (.mkM (.slen 1) [(.bool (.t false))] 4 1 1
    (.ret false (.tup [(.agg [(.va 0),(.va 1),(.va 2),(.va 3),(jA 0),(jA 1),(jA 2),(jA 3),.nilS,(jA 6),(jA 7),(jA 8),(jA 9),(jA 10),(jA 11),(.va 4),(.va 5),(.va 6),(.bool (.t false))]),(jE 0)]) [])))
def a7T:PT :=
 (.mkM (.slen 1) [(.bool (.t false))] 4 1 1
    (cA 32 [(.va 0)] [] [(.agg [jD,jD,jD,jD,jD,jD])]
    (.ret false (.tup [(.agg [(.va 0),(.va 1),(.va 2),(.va 3),(jA 0),(jA 1),(jA 2),(jA 3),.nilS,(jA 6),(jA 7),(jA 8),(jA 9),(jA 10),(jA 11),(.va 4),(.va 5),(.va 6),(.bool (.t false))]),(jE 0)]) [])))
def a8l:PT :=
 (.mkM (.slen 1) [(.bool (.t false))] 4 1 1
    (.both a8o a7T))
def a8b:PT :=
 (cA 32 [(.va 0)] [] [(.agg [jD,jD,jD,jD,jD,jD])]
    (.mkM (.slen 1) [(.bool (.t false))] 4 1 1
    (.ret false (.tup [(.agg [(.va 0),(.va 1),(.va 2),(.va 3),(jA 0),(jA 1),(jA 2),(jA 3),.nilS,(jA 6),(jA 7),(jA 8),(jA 9),(jA 10),(jA 11),(.va 4),(.va 6),(.va 5),(.bool (.t false))]),(jE 0)]) [])))
def a7V:PT :=
 (.mkM (.slen 1) [(.bool (.t false))] 4 1 1
    (cA 32 [(.va 0)] [] [(.agg [jD,jD,jD,jD,jD,jD])]
    (.ret false (.tup [(.agg [(.va 0),(.va 1),(.va 2),(.va 3),(jA 0),(jA 1),(jA 2),(jA 3),.nilS,(jA 6),(jA 7),(jA 8),(jA 9),(jA 10),(jA 11),(.va 4),(.va 6),(.va 5),(.bool (.t false))]),(jE 0)]) [])))
def a7D:PT :=
 (.mkM (.slen 1) [(.bool (.t false))] 4 1 1
    (.both a8b a7V))
def a8G:PT :=
 (.both a8l a7D)
def a7X:PT :=
 (.mkM (.slen 1) [(jE 0),(jE 0),(jE 0),(jE 0),(jE 0),(jE 0)] 51 6 48
   (.both a7P a8G))
def a8I:PT :=
 (.mkM (.slen 1) [(jE 0),(jE 0),(jE 0),(jE 0),(jE 0),(jE 0)] 51 6 48
    (.mkM (.slen 1) [(.bool (.t false))] 4 1 1
    (.ret false (.tup [(.agg [(.va 0),(.va 1),(.va 2),(.va 3),(jA 0),(jA 1),(jA 2),(jA 3),.nilS,(jA 6),(jA 7),(jA 8),(jA 9),(jA 10),(jA 11),(.va 5),(.va 4),(.va 6),(.bool (.t false))]),(jE 0)]) [])))
def a8j:PT :=
 (.mkM (.slen 1) [(.bool (.t false))] 4 1 1
    (.mkM (.slen 1) [(jE 0),(jE 0),(jE 0),(jE 0),(jE 0),(jE 0)] 51 6 48
    (.ret false (.tup [(.agg [(.va 0),(.va 1),(.va 2),(.va 3),(jA 0),(jA 1),(jA 2),(jA 3),.nilS,(jA 6),(jA 7),(jA 8),(jA 9),(jA 10),(jA 11),(.va 6),(.va 4),(.va 5),(.bool (.t false))]),(jE 0)]) [])))
def a7O:PT :=
 (cA 32 [(.va 0)] [] [(.agg [jD,jD,jD,jD,jD,jD])]
    (.both a8I a8j))
def a8d:PT :=
 (cA 32 [(.va 0)] [] [(.agg [jD,jD,jD,jD,jD,jD])]
     (.mkM (.slen 1) [(.bool (.t false))] 4 1 1
     (.ret false (.tup [(.agg [(.va 0),(.va 1),(.va 2),(.va 3),(jA 0),(jA 1),(jA 2),(jA 3),.nilS,(jA 6),(jA 7),(jA 8),(jA 9),(jA 10),(jA 11),(.va 5),(.va 4),(.va 6),(.bool (.t false))]),(jE 0)]) [])))
def a7y:PT :=
 (.mkM (.slen 1) [(.bool (.t false))] 4 1 1
     (cA 32 [(.va 0)] [] [(.agg [jD,jD,jD,jD,jD,jD])]
     (.ret false (.tup [(.agg [(.va 0),(.va 1),(.va 2),(.va 3),(jA 0),(jA 1),(jA 2),(jA 3),.nilS,(jA 6),(jA 7),(jA 8),(jA 9),(jA 10),(jA 11),(.va 5),(.va 4),(.va 6),(.bool (.t false))]),(jE 0)]) [])))
def a8s:PT :=
 (.mkM (.slen 1) [(jE 0),(jE 0),(jE 0),(jE 0),(jE 0),(jE 0)] 51 6 48
    (.both a8d a7y))
def a8t:PT :=
 (cA 32 [(.va 0)] [] [(.agg [jD,jD,jD,jD,jD,jD])]
     (.mkM (.slen 1) [(jE 0),(jE 0),(jE 0),(jE 0),(jE 0),(jE 0)] 51 6 48
     (.ret false (.tup [(.agg [(.va 0),(.va 1),(.va 2),(.va 3),(jA 0),(jA 1),(jA 2),(jA 3),.nilS,(jA 6),(jA 7),(jA 8),(jA 9),(jA 10),(jA 11),(.va 6),(.va 4),(.va 5),(.bool (.t false))]),(jE 0)]) [])))
def a7B:PT :=
 (.mkM (.slen 1) [(jE 0),(jE 0),(jE 0),(jE 0),(jE 0),(jE 0)] 51 6 48
     (cA 32 [(.va 0)] [] [(.agg [jD,jD,jD,jD,jD,jD])]
     (.ret false (.tup [(.agg [(.va 0),(.va 1),(.va 2),(.va 3),(jA 0),(jA 1),(jA 2),(jA 3),.nilS,(jA 6),(jA 7),(jA 8),(jA 9),(jA 10),(jA 11),(.va 6),(.va 4),(.va 5),(.bool (.t false))]),(jE 0)]) [])))
def a7i:PT :=
 (.mkM (.slen 1) [(.bool (.t false))] 4 1 1
    (.both a8t a7B))
def a8x:PT :=
 (.both a8s a7i)
def a7K:PT :=
 (.mkM (.slen 1) [(.bool (.t false))] 4 1 1
   (.both a7O a8x))
def a8i:PT :=
 (.mkM (.slen 1) [(jE 0),(jE 0),(jE 0),(jE 0),(jE 0),(jE 0)] 51 6 48
    (.mkM (.slen 1) [(.bool (.t false))] 4 1 1
    (.ret false (.tup [(.agg [(.va 0),(.va 1),(.va 2),(.va 3),(jA 0),(jA 1),(jA 2),(jA 3),.nilS,(jA 6),(jA 7),(jA 8),(jA 9),(jA 10),(jA 11),(.va 5),(.va 6),(.va 4),(.bool (.t false))]),(jE 0)]) [])))
def a8r:PT :=
 (.mkM (.slen 1) [(.bool (.t false))] 4 1 1
    (.mkM (.slen 1) [(jE 0),(jE 0),(jE 0),(jE 0),(jE 0),(jE 0)] 51 6 48
    (.ret false (.tup [(.agg [(.va 0),(.va 1),(.va 2),(.va 3),(jA 0),(jA 1),(jA 2),(jA 3),.nilS,(jA 6),(jA 7),(jA 8),(jA 9),(jA 10),(jA 11),(.va 6),(.va 5),(.va 4),(.bool (.t false))]),(jE 0)]) [])))
def a7Y:PT :=
 (cA 32 [(.va 0)] [] [(.agg [jD,jD,jD,jD,jD,jD])]
    (.both a8i a8r))
def a8f:PT :=
 (cA 32 [(.va 0)] [] [(.agg [jD,jD,jD,jD,jD,jD])]
     (.mkM (.slen 1) [(.bool (.t false))] 4 1 1
     (.ret false (.tup [(.agg [(.va 0),(.va 1),(.va 2),(.va 3),(jA 0),(jA 1),(jA 2),(jA 3),.nilS,(jA 6),(jA 7),(jA 8),(jA 9),(jA 10),(jA 11),(.va 5),(.va 6),(.va 4),(.bool (.t false))]),(jE 0)]) [])))
def a7q:PT :=
 (.mkM (.slen 1) [(.bool (.t false))] 4 1 1
     (cA 32 [(.va 0)] [] [(.agg [jD,jD,jD,jD,jD,jD])]
     (.ret false (.tup [(.agg [(.va 0),(.va 1),(.va 2),(.va 3),(jA 0),(jA 1),(jA 2),(jA 3),.nilS,(jA 6),(jA 7),(jA 8),(jA 9),(jA 10),(jA 11),(.va 5),(.va 6),(.va 4),(.bool (.t false))]),(jE 0)]) [])))
def a8K:PT :=
 (.mkM (.slen 1) [(jE 0),(jE 0),(jE 0),(jE 0),(jE 0),(jE 0)] 51 6 48
    (.both a8f a7q))
def a8C:PT :=
 (cA 32 [(.va 0)] [] [(.agg [jD,jD,jD,jD,jD,jD])]
     (.mkM (.slen 1) [(jE 0),(jE 0),(jE 0),(jE 0),(jE 0),(jE 0)] 51 6 48
     (.ret false (.tup [(.agg [(.va 0),(.va 1),(.va 2),(.va 3),(jA 0),(jA 1),(jA 2),(jA 3),.nilS,(jA 6),(jA 7),(jA 8),(jA 9),(jA 10),(jA 11),(.va 6),(.va 5),(.va 4),(.bool (.t false))]),(jE 0)]) [])))
def a8v:PT :=
 (.mkM (.slen 1) [(jE 0),(jE 0),(jE 0),(jE 0),(jE 0),(jE 0)] 51 6 48
     (cA 32 [(.va 0)] [] [(.agg [jD,jD,jD,jD,jD,jD])]
     (.ret false (.tup [(.agg [(.va 0),(.va 1),(.va 2),(.va 3),(jA 0),(jA 1),(jA 2),(jA 3),.nilS,(jA 6),(jA 7),(jA 8),(jA 9),(jA 10),(jA 11),(.va 6),(.va 5),(.va 4),(.bool (.t false))]),(jE 0)]) [])))
def a7c:PT :=
 (.mkM (.slen 1) [(.bool (.t false))] 4 1 1
    (.both a8C a8v))
def a8H:PT :=
 (.both a8K a7c)
def a7d:PT :=
 (.mkM (.slen 1) [(.bool (.t false))] 4 1 1
   (.both a7Y a8H))
def a7m:PT :=
 (.both a7K a7d)
def a7W:PT :=
 (.both a7X a7m)
def a8w:PT :=
 (.mkM (.slen 1) [(.bool (.t false))] 4 1 1
   (.mkM (.slen 1) [(.bool (.t false))] 4 1 1
   (.ret false (.tup [(.agg [(.va 0),(.va 1),(.va 2),(.va 3),(jA 0),(jA 1),(jA 2),(jA 3),.nilS,(jA 5),(jA 6),(jA 7),(jA 8),(jA 9),(jA 10),(.va 4),(.va 5),(.va 6),(.bool (.t false))]),(jE 0)]) [])))
def a7C:PT :=
 (.mkM (.slen 1) [(.bool (.t false))] 4 1 1
   (.mkM (.slen 1) [(.bool (.t false))] 4 1 1
   (.ret false (.tup [(.agg [(.va 0),(.va 1),(.va 2),(.va 3),(jA 0),(jA 1),(jA 2),(jA 3),.nilS,(jA 5),(jA 6),(jA 7),(jA 8),(jA 9),(jA 10),(.va 4),(.va 6),(.va 5),(.bool (.t false))]),(jE 0)]) [])))
def a7M:PT :=
 (.mkM (.slen 1) [(jE 0),(jE 0),(jE 0),(jE 0),(jE 0),(jE 0)] 51 6 48
   (.both a8w a7C))
def a7F:PT :=
 (.mkM (.slen 1) [(jE 0),(jE 0),(jE 0),(jE 0),(jE 0),(jE 0)] 51 6 48
    (.mkM (.slen 1) [(.bool (.t false))] 4 1 1
    (.ret false (.tup [(.agg [(.va 0),(.va 1),(.va 2),(.va 3),(jA 0),(jA 1),(jA 2),(jA 3),.nilS,(jA 5),(jA 6),(jA 7),(jA 8),(jA 9),(jA 10),(.va 5),(.va 4),(.va 6),(.bool (.t false))]),(jE 0)]) [])))
def a7I:PT :=
 (.mkM (.slen 1) [(.bool (.t false))] 4 1 1
    (.mkM (.slen 1) [(jE 0),(jE 0),(jE 0),(jE 0),(jE 0),(jE 0)] 51 6 48
    (.ret false (.tup [(.agg [(.va 0),(.va 1),(.va 2),(.va 3),(jA 0),(jA 1),(jA 2),(jA 3),.nilS,(jA 5),(jA 6),(jA 7),(jA 8),(jA 9),(jA 10),(.va 6),(.va 4),(.va 5),(.bool (.t false))]),(jE 0)]) [])))
def a7v:PT :=
 (.mkM (.slen 1) [(.bool (.t false))] 4 1 1
   (.both a7F a7I))
def a7N:PT :=
 (.mkM (.slen 1) [(jE 0),(jE 0),(jE 0),(jE 0),(jE 0),(jE 0)] 51 6 48
    (.mkM (.slen 1) [(.bool (.t false))] 4 1 1
    (.ret false (.tup [(.agg [(.va 0),(.va 1),(.va 2),(.va 3),(jA 0),(jA 1),(jA 2),(jA 3),.nilS,(jA 5),(jA 6),(jA 7),(jA 8),(jA 9),(jA 10),(.va 5),(.va 6),(.va 4),(.bool (.t false))]),(jE 0)]) [])))
def a7R:PT :=
 (.mkM (.slen 1) [(.bool (.t false))] 4 1 1
    (.mkM (.slen 1) [(jE 0),(jE 0),(jE 0),(jE 0),(jE 0),(jE 0)] 51 6 48
    (.ret false (.tup [(.agg [(.va 0),(.va 1),(.va 2),(.va 3),(jA 0),(jA 1),(jA 2),(jA 3),.nilS,(jA 5),(jA 6),(jA 7),(jA 8),(jA 9),(jA 10),(.va 6),(.va 5),(.va 4),(.bool (.t false))]),(jE 0)]) [])))
def a7S:PT :=
 (.mkM (.slen 1) [(.bool (.t false))] 4 1 1
   (.both a7N a7R))
def a7z:PT :=
 (.both a7v a7S)
def a8a:PT :=
 (cA 32 [(.va 0)] [] [(.agg [jD,jD,jD,jD,jD,jD])]
  (.both a7M a7z))
def a7e:PT :=
 (.mkM (.slen 1) [(.bool (.t false))] 4 1 1
    (.mkM (.slen 1) [(.bool (.t false))] 4 1 1
    (.ret false (.tup [(.agg [(.va 0),(.va 1),(.va 2),(.va 3),(jA 0),(jA 1),(jA 2),(jA 3),.nilS,(jA 5),(jA 6),(jA 7),(jA 8),(jA 9),(jA 10),(.va 4),(.va 5),(.va 6),(.bool (.t false))]),(jE 0)]) [])))
def a7w:PT :=
 (.mkM (.slen 1) [(.bool (.t false))] 4 1 1
    (.mkM (.slen 1) [(.bool (.t false))] 4 1 1
    (.ret false (.tup [(.agg [(.va 0),(.va 1),(.va 2),(.va 3),(jA 0),(jA 1),(jA 2),(jA 3),.nilS,(jA 5),(jA 6),(jA 7),(jA 8),(jA 9),(jA 10),(.va 4),(.va 6),(.va 5),(.bool (.t false))]),(jE 0)]) [])))
def a8E:PT :=
 (cA 32 [(.va 0)] [] [(.agg [jD,jD,jD,jD,jD,jD])]
   (.both a7e a7w))
def a7n:PT :=
 (cA 32 [(.va 0)] [] [(.agg [jD,jD,jD,jD,jD,jD])]
    (.mkM (.slen 1) [(.bool (.t false))] 4 1 1
    (.ret false (.tup [(.agg [(.va 0),(.va 1),(.va 2),(.va 3),(jA 0),(jA 1),(jA 2),(jA 3),.nilS,(jA 5),(jA 6),(jA 7),(jA 8),(jA 9),(jA 10),(.va 4),(.va 5),(.va 6),(.bool (.t false))]),(jE 0)]) [])))
def a7k:PT :=
 (.mkM (.slen 1) [(.bool (.t false))] 4 1 1
    (cA 32 [(.va 0)] [] [(.agg [jD,jD,jD,jD,jD,jD])]
    (.ret false (.tup [(.agg [(.va 0),(.va 1),(.va 2),(.va 3),(jA 0),(jA 1),(jA 2),(jA 3),.nilS,(jA 5),(jA 6),(jA 7),(jA 8),(jA 9),(jA 10),(.va 4),(.va 5),(.va 6),(.bool (.t false))]),(jE 0)]) [])))
def a7g:PT :=
 (.mkM (.slen 1) [(.bool (.t false))] 4 1 1
    (.both a7n a7k))
def a6Z:PT :=
 (cA 32 [(.va 0)] [] [(.agg [jD,jD,jD,jD,jD,jD])]
    (.mkM (.slen 1) [(.bool (.t false))] 4 1 1
    (.ret false (.tup [(.agg [(.va 0),(.va 1),(.va 2),(.va 3),(jA 0),(jA 1),(jA 2),(jA 3),.nilS,(jA 5),(jA 6),(jA 7),(jA 8),(jA 9),(jA 10),(.va 4),(.va 6),(.va 5),(.bool (.t false))]),(jE 0)]) [])))
def a8A:PT :=
 (.mkM (.slen 1) [(.bool (.t false))] 4 1 1
    (cA 32 [(.va 0)] [] [(.agg [jD,jD,jD,jD,jD,jD])]
    (.ret false (.tup [(.agg [(.va 0),(.va 1),(.va 2),(.va 3),(jA 0),(jA 1),(jA 2),(jA 3),.nilS,(jA 5),(jA 6),(jA 7),(jA 8),(jA 9),(jA 10),(.va 4),(.va 6),(.va 5),(.bool (.t false))]),(jE 0)]) [])))
def a8p:PT :=
 (.mkM (.slen 1) [(.bool (.t false))] 4 1 1
    (.both a6Z a8A))
def a8c:PT :=
 (.both a7g a8p)
def a7r:PT :=
 (.mkM (.slen 1) [(jE 0),(jE 0),(jE 0),(jE 0),(jE 0),(jE 0)] 51 6 48
   (.both a8E a8c))
def a8e:PT :=
 (.mkM (.slen 1) [(jE 0),(jE 0),(jE 0),(jE 0),(jE 0),(jE 0)] 51 6 48
    (.mkM (.slen 1) [(.bool (.t false))] 4 1 1
    (.ret false (.tup [(.agg [(.va 0),(.va 1),(.va 2),(.va 3),(jA 0),(jA 1),(jA 2),(jA 3),.nilS,(jA 5),(jA 6),(jA 7),(jA 8),(jA 9),(jA 10),(.va 5),(.va 4),(.va 6),(.bool (.t false))]),(jE 0)]) [])))
def a7h:PT :=
 (.mkM (.slen 1) [(.bool (.t false))] 4 1 1
    (.mkM (.slen 1) [(jE 0),(jE 0),(jE 0),(jE 0),(jE 0),(jE 0)] 51 6 48
    (.ret false (.tup [(.agg [(.va 0),(.va 1),(.va 2),(.va 3),(jA 0),(jA 1),(jA 2),(jA 3),.nilS,(jA 5),(jA 6),(jA 7),(jA 8),(jA 9),(jA 10),(.va 6),(.va 4),(.va 5),(.bool (.t false))]),(jE 0)]) [])))
def a7j:PT :=
 (cA 32 [(.va 0)] [] [(.agg [jD,jD,jD,jD,jD,jD])]
    (.both a8e a7h))
def a8z:PT :=
 (cA 32 [(.va 0)] [] [(.agg [jD,jD,jD,jD,jD,jD])]
     (.mkM (.slen 1) [(.bool (.t false))] 4 1 1
     (.ret false (.tup [(.agg [(.va 0),(.va 1),(.va 2),(.va 3),(jA 0),(jA 1),(jA 2),(jA 3),.nilS,(jA 5),(jA 6),(jA 7),(jA 8),(jA 9),(jA 10),(.va 5),(.va 4),(.va 6),(.bool (.t false))]),(jE 0)]) [])))
def a7u:PT :=
 (.mkM (.slen 1) [(.bool (.t false))] 4 1 1
     (cA 32 [(.va 0)] [] [(.agg [jD,jD,jD,jD,jD,jD])]
     (.ret false (.tup [(.agg [(.va 0),(.va 1),(.va 2),(.va 3),(jA 0),(jA 1),(jA 2),(jA 3),.nilS,(jA 5),(jA 6),(jA 7),(jA 8),(jA 9),(jA 10),(.va 5),(.va 4),(.va 6),(.bool (.t false))]),(jE 0)]) [])))
def a8k:PT :=
 (.mkM (.slen 1) [(jE 0),(jE 0),(jE 0),(jE 0),(jE 0),(jE 0)] 51 6 48
    (.both a8z a7u))
def a7U:PT :=
 (cA 32 [(.va 0)] [] [(.agg [jD,jD,jD,jD,jD,jD])]
     (.mkM (.slen 1) [(jE 0),(jE 0),(jE 0),(jE 0),(jE 0),(jE 0)] 51 6 48
     (.ret false (.tup [(.agg [(.va 0),(.va 1),(.va 2),(.va 3),(jA 0),(jA 1),(jA 2),(jA 3),.nilS,(jA 5),(jA 6),(jA 7),(jA 8),(jA 9),(jA 10),(.va 6),(.va 4),(.va 5),(.bool (.t false))]),(jE 0)]) [])))
def a7b:PT :=
 (.mkM (.slen 1) [(jE 0),(jE 0),(jE 0),(jE 0),(jE 0),(jE 0)] 51 6 48
     (cA 32 [(.va 0)] [] [(.agg [jD,jD,jD,jD,jD,jD])]
     (.ret false (.tup [(.agg [(.va 0),(.va 1),(.va 2),(.va 3),(jA 0),(jA 1),(jA 2),(jA 3),.nilS,(jA 5),(jA 6),(jA 7),(jA 8),(jA 9),(jA 10),(.va 6),(.va 4),(.va 5),(.bool (.t false))]),(jE 0)]) [])))
def a8g:PT :=
 (.mkM (.slen 1) [(.bool (.t false))] 4 1 1
    (.both a7U a7b))
def a7G:PT :=
 (.both a8k a8g)
def a7H:PT :=
 (.mkM (.slen 1) [(.bool (.t false))] 4 1 1
   (.both a7j a7G))
def a7o:PT :=
 (.mkM (.slen 1) [(jE 0),(jE 0),(jE 0),(jE 0),(jE 0),(jE 0)] 51 6 48
    (.mkM (.slen 1) [(.bool (.t false))] 4 1 1
    (.ret false (.tup [(.agg [(.va 0),(.va 1),(.va 2),(.va 3),(jA 0),(jA 1),(jA 2),(jA 3),.nilS,(jA 5),(jA 6),(jA 7),(jA 8),(jA 9),(jA 10),(.va 5),(.va 6),(.va 4),(.bool (.t false))]),(jE 0)]) [])))
def a7l:PT :=
 (.mkM (.slen 1) [(.bool (.t false))] 4 1 1
    (.mkM (.slen 1) [(jE 0),(jE 0),(jE 0),(jE 0),(jE 0),(jE 0)] 51 6 48
    (.ret false (.tup [(.agg [(.va 0),(.va 1),(.va 2),(.va 3),(jA 0),(jA 1),(jA 2),(jA 3),.nilS,(jA 5),(jA 6),(jA 7),(jA 8),(jA 9),(jA 10),(.va 6),(.va 5),(.va 4),(.bool (.t false))]),(jE 0)]) [])))
def a7s:PT :=
 (cA 32 [(.va 0)] [] [(.agg [jD,jD,jD,jD,jD,jD])]
    (.both a7o a7l))
def a7t:PT :=
 (cA 32 [(.va 0)] [] [(.agg [jD,jD,jD,jD,jD,jD])]
     (.mkM (.slen 1) [(.bool (.t false))] 4 1 1
     (.ret false (.tup [(.agg [(.va 0),(.va 1),(.va 2),(.va 3),(jA 0),(jA 1),(jA 2),(jA 3),.nilS,(jA 5),(jA 6),(jA 7),(jA 8),(jA 9),(jA 10),(.va 5),(.va 6),(.va 4),(.bool (.t false))]),(jE 0)]) [])))
def a8h:PT :=
 (.mkM (.slen 1) [(.bool (.t false))] 4 1 1
     (cA 32 [(.va 0)] [] [(.agg [jD,jD,jD,jD,jD,jD])]
     (.ret false (.tup [(.agg [(.va 0),(.va 1),(.va 2),(.va 3),(jA 0),(jA 1),(jA 2),(jA 3),.nilS,(jA 5),(jA 6),(jA 7),(jA 8),(jA 9),(jA 10),(.va 5),(.va 6),(.va 4),(.bool (.t false))]),(jE 0)]) [])))
def a8n:PT :=
 (.mkM (.slen 1) [(jE 0),(jE 0),(jE 0),(jE 0),(jE 0),(jE 0)] 51 6 48
    (.both a7t a8h))
def a7A:PT :=
 (cA 32 [(.va 0)] [] [(.agg [jD,jD,jD,jD,jD,jD])]
     (.mkM (.slen 1) [(jE 0),(jE 0),(jE 0),(jE 0),(jE 0),(jE 0)] 51 6 48
     (.ret false (.tup [(.agg [(.va 0),(.va 1),(.va 2),(.va 3),(jA 0),(jA 1),(jA 2),(jA 3),.nilS,(jA 5),(jA 6),(jA 7),(jA 8),(jA 9),(jA 10),(.va 6),(.va 5),(.va 4),(.bool (.t false))]),(jE 0)]) [])))
def a7Q:PT :=
 (.mkM (.slen 1) [(jE 0),(jE 0),(jE 0),(jE 0),(jE 0),(jE 0)] 51 6 48
     (cA 32 [(.va 0)] [] [(.agg [jD,jD,jD,jD,jD,jD])]
     (.ret false (.tup [(.agg [(.va 0),(.va 1),(.va 2),(.va 3),(jA 0),(jA 1),(jA 2),(jA 3),.nilS,(jA 5),(jA 6),(jA 7),(jA 8),(jA 9),(jA 10),(.va 6),(.va 5),(.va 4),(.bool (.t false))]),(jE 0)]) [])))
def a8y:PT :=
 (.mkM (.slen 1) [(.bool (.t false))] 4 1 1
    (.both a7A a7Q))
def a8q:PT :=
 (.both a8n a8y)
def a7E:PT :=
 (.mkM (.slen 1) [(.bool (.t false))] 4 1 1
   (.both a7s a8q))
def a7f:PT :=
 (.both a7H a7E)
def a8B:PT :=
 (.both a7r a7f)
def a1P:PT :=
 (cA 18 [(.agg [(.va 0),(.va 1),(.va 2),(.va 3)])] [] [(.one jD)]
 (.ite (.eq (.a 4) (.l 0))
 (cA 17 [(.agg [(jA 0),(jA 1),(jA 2),(jA 3)])] [] [(.one jD)]
 (.ite (.not (.eq (.a 5) (.l 0)))
  (.ret false (.tup [(.agg [.nilS,.nilS,.nilS,.nilS,(jE 0),(jE 0),(jE 0),(jE 0),.nilS,(jE 0),(jE 0),(jE 0),(jE 0),(jE 0),(jE 0),.nilS,.nilS,.nilS,(.bool (.t false))]),(jA 5)]) [])
  (nD (.is 0 1)
  (.both a8J a7W))))
 (.ite (.not (.eq (.a 4) (.l 0)))
  (.ret false (.tup [(.agg [.nilS,.nilS,.nilS,.nilS,(jE 0),(jE 0),(jE 0),(jE 0),.nilS,(jE 0),(jE 0),(jE 0),(jE 0),(jE 0),(jE 0),.nilS,.nilS,.nilS,(.bool (.t false))]),(jA 4)]) [])
  (nD (.is 0 1)
  (.both a8a a8B)))))
def a4g:Sx.Sys:=⟨[(.sh (.agg [.val,.val,.val,.val])),(.sh (.agg [jD,jD,jD,jD]))],a1P,[],none,none⟩
def b5p:List Cfg:=[]
theorem b7M:SysOk Tryz.prog 10 a4g:=a0k (c:=(cg [] [] [] false false false true)) (a0h _ _ _ _ _ _ _ _ _) Tryz.func10 Tryz.call10 (by kernel_rfl) b5p a4g 5000 rfl (by kernel_rfl) (by kernel_rfl) rfl
def a4L:PT :=
 (cA 43 [(.va 0)] [] [(.one jD)]
 (.ite (.eq (.a 0) (.l 0))
 (cA 44 [(.va 1)] [] [(.one jD)]
 (.ite (.not (.eq (.a 1) (.l 0)))
  (.ret false (jA 1) [])
  (nD (.is 0 2)
  (.ite (.lt (.l 16) (.slen 2))
  (.ret false (jE 3) [])
  (jU 0 [(.l 0)] [] [(.va 0),(.va 1),(.va 2),(.va 3)])))))
 (.ite (.not (.eq (.a 0) (.l 0)))
  (.ret false (jA 0) [])
  (nD (.is 0 2)
  (.ite (.lt (.l 16) (.slen 2))
  (.ret false (jE 3) [])
  (jU 0 [(.l 0)] [] [(.va 0),(.va 1),(.va 2),(.va 3)]))))))
def a2v:PT :=
 (nD (.is 0 2)
 (.ite (.lt (.a 0) (.slen 2))
 (nD (treeI (.a 0) (.slen 2))
 (lO false (.ea 2 (.a 0) 3 0) [jD,jD,jD]
 (.ite (.lt (.a 1) (.l (-1)))
  (.ret false (jE 6) [])
  (nD (.is 0 1)
  (.ite (.le (.slen 1) (.a 1))
  (.ret false (jE 6) [])
  (.ite (.lt (.a 2) (.l 0))
   (.ret false (jE 4) [])
   (.ite (.lt (.l 4) (.a 2))
   (.ret false (jE 4) [])
   (.ite (.lt (.a 3) (.l 0))
    (.ret false (jE 4) [])
    (.ite (.lt (.l 24) (.a 3))
    (.ret false (jE 4) [])
    (jU 1 [(.a 0),(.l 0),(.a 1),(.slen 1),(.a 2),(.a 3)] [(.le (.slen 1) (.a 1)),(.lt (.l 4) (.a 2)),(.lt (.a 3) (.l 0)),(.lt (.l 24) (.a 3))] [(.va 1),(.va 0),(.va 2),(.va 3)]))))))))))
 (nD (.is 0 3)
 (.ite (.lt (.l 6) (.slen 3))
  (.ret false (jE 3) [])
  (jU 2 [(.l 0)] [] [(.va 0),(.va 1),(.va 2),(.va 3)])))))
def a2t:PT :=
 (.ite (.lt (.a 1) (.a 0))
 (nD (treeI (.a 1) (.slen 2))
 (lO true (.ea 2 (.a 1) 3 0) [jD]
 (.ite (.eq (.a 6) (.a 2))
  (nD (treeI (.a 1) (.slen 2))
  (lO true (.ea 2 (.a 1) 3 1) [jD]
  (.ite (.eq (.a 7) (.a 4))
  (.ret false (jE 7) [])
  (nD (treeB (jP 1))
  (jU 1 [(.a 0),(jP 1),(.a 2),(.a 3),(.a 4),(.a 5)] [(.a 0),(.a 1),(.a 2),(.a 3)] [(.va 0),(.va 1),(.va 2),(.va 3)])))))
  (nD (treeB (jP 1))
  (jU 1 [(.a 0),(jP 1),(.a 2),(.a 3),(.a 4),(.a 5)] [(.a 0),(.a 1),(.a 2),(.a 3)] [(.va 0),(.va 1),(.va 2),(.va 3)])))))
 (nD (treeB (jP 0))
 (jU 0 [(jP 0)] [] [(.va 1),(.va 0),(.va 2),(.va 3)])))
def a2r:PT :=
 (nD (.is 0 3)
 (.ite (.lt (.a 0) (.slen 3))
 (nD (treeI (.a 0) (.slen 3))
 (lO false (.ea 3 (.a 0) 3 0) [jD,jD,jD]
 (.ite (.lt (.a 1) (.l 0))
  (.ret false (jE 6) [])
  (nD (.is 0 0)
  (.ite (.le (.slen 0) (.a 1))
  (.ret false (jE 6) [])
  (.ite (.lt (.a 2) (.l 1))
   (.ret false (jE 4) [])
   (.ite (.lt (.l 4) (.a 2))
   (.ret false (jE 4) [])
   (.ite (.lt (.a 3) (.l 1))
    (.ret false (jE 4) [])
    (nD (treeI (.a 1) (.slen 0))
    (lO true (.ea 0 (.a 1) 5 1) [jD]
    (.ite (.lt (.a 4) (.a 3))
    (.ret false (jE 4) [])
    (jU 3 [(.a 0),(.l 0),(.a 1),(.slen 0),(.a 2),(.a 3),(.a 4)] [(.le (.slen 0) (.a 1)),(.lt (.l 4) (.a 2)),(.lt (.a 3) (.l 1)),(.lt (.a 4) (.a 3))] [(.va 0),(.va 1),(.va 2),(.va 3)]))))))))))))
 (.ret false (jE 0) [])))
def a2u:PT :=
 (.ite (.lt (.a 1) (.a 0))
 (nD (treeI (.a 1) (.slen 3))
 (lO true (.ea 3 (.a 1) 3 0) [jD]
 (.ite (.eq (.a 7) (.a 2))
  (.ret false (jE 7) [])
  (nD (treeB (jP 1))
  (jU 3 [(.a 0),(jP 1),(.a 2),(.a 3),(.a 4),(.a 5),(.a 6)] [(.a 0),(.a 1),(.a 2),(.a 3)] [(.va 0),(.va 1),(.va 2),(.va 3)])))))
 (nD (treeB (jP 0))
 (jU 2 [(jP 0)] [] [(.va 0),(.va 1),(.va 2),(.va 3)])))
def a0t:Sx.Sys:=⟨[(.sh (.agg [.val,.val,.val,.val]))],a4L,[a2v,a2t,a2r,a2u],none,none⟩
def b3r:List Cfg:=[{todo:=[(.code (tfR 9 500)),(.inLoop (tfR 9 500)),(.inBlock 0),(.code (tfR 6 63))],sl:=[(.junk 0),(.ptr 0 0),(.junk 1),(.junk 2),(jA 0),(.junk 3),(.junk 4),.undef,.undef,.undef]++jkR 5 10++[.undef]++jkR 15 70++udR 66,H:=[(.cells [(.va 0),(.va 1),(.va 2),(.va 3)] 27 false)],ni:=1,nb:=0,nv:=4,nj:=85},
 {todo:=[(.code (tfR 18 256316)),(.inLoop (tfR 18 256316)),(.inBlock 2),(.inBlock 1),(.code (tfR 11 2003)),(.inLoop (tfR 9 500)),(.inBlock 0),(.code (tfR 6 63))],sl:=[(.junk 0),(.ptr 0 0),(.junk 1),(.junk 2),(jA 0),(.ptr 1 0),(jA 1),.undef,.undef,.undef]++jkR 3 10++[.undef]++jkR 13 20++[(.ptr 1 0),(jA 2),(.ptr 0 1),(.va 0),(jA 3),(.bool (.a 0))]++jkR 33 5++[(.ptr 1 1),(jA 4),(.bool (.a 1)),(.junk 38),(.junk 39),(.ptr 1 2),(jA 5),(.bool (.a 2)),(.junk 40),(.junk 41),(.ptr 1 2),(jA 5),(.bool (.a 3))]++jkR 42 26++udR 66,H:=[(.cells [(.va 1),(.va 0),(.va 2),(.va 3)] 27 false),(.cells [(jA 2),(jA 4),(jA 5)] 89 false)],ni:=6,nb:=4,nv:=4,nj:=68},
 {todo:=[(.code (tfR 11 2036)),(.inLoop (tfR 11 2036)),(.inBlock 4),(.code (tfR 8 255))],sl:=[(.junk 0),(.ptr 0 0)]++jkR 1 5++[(jA 0)]++jkR 6 12++[.undef]++jkR 18 136,H:=[(.cells [(.va 0),(.va 1),(.va 2),(.va 3)] 27 false)],ni:=1,nb:=0,nv:=4,nj:=154},
 {todo:=[(.code (tfR 20 1042748)),(.inLoop (tfR 20 1042748)),(.inBlock 6),(.inBlock 5),(.code (tfR 13 8147)),(.inLoop (tfR 11 2036)),(.inBlock 4),(.code (tfR 8 255))],sl:=[(.junk 0),(.ptr 0 0)]++jkR 1 5++[(jA 0),(.ptr 1 0),(jA 1)]++jkR 6 10++[.undef]++jkR 16 90++[(.ptr 1 0),(jA 2),(.ptr 0 0),(.va 0),(jA 3),(.bool (.a 0))]++jkR 106 5++[(.ptr 1 1),(jA 4),(.bool (.a 1)),(.junk 111),(.junk 112),(.ptr 1 2),(jA 5),(.bool (.a 2)),(.junk 113),(.junk 114),(.ptr 1 2),(jA 5),(.ptr 0 0),(.va 0),(.ptr 1 0),(jA 2),(.ea 0 (.a 2) 5 0),(.ea 0 (.a 2) 5 1),(jA 6),(.bool (.a 3))]++jkR 115 15,H:=[(.cells [(.va 0),(.va 1),(.va 2),(.va 3)] 27 false),(.cells [(jA 2),(jA 4),(jA 5)] 91 false)],ni:=7,nb:=4,nv:=4,nj:=130}]
theorem b4T:SysOk Tryz.prog 18 a0t:=a0k (c:=(cg [(tfR 9 500),(tfR 18 256316),(tfR 11 2036),(tfR 20 1042748)] [] [] false false false true)) (a0h _ _ _ _ _ _ _ _ _) Tryz.func18 Tryz.call18 (by kernel_rfl) b3r a0t 5000 rfl (by kernel_rfl) (by kernel_rfl) rfl
def a3z:PT :=
 (nD (.is 4 0)
 (.ite (.nil 0)
 (.ret false .nilS [])
 (cA 53 [(.va 0),(jA 0)] [] [(.one .bool)]
 (.ite (.not (.a 0))
  (.ret false .nilS [])
  (nD (.is 1 0)
  (lO false (.pa 0 8) [.val]
  (nD (.is 0 1)
  (jU 0 [(.a 0),(.slen 1),(.l 0)] [] [.nilS,(.va 1)]))))))))
def a2p:PT :=
 (.ite (.lt (.a 2) (.a 1))
 (nD (treeI (.a 2) (.slen 1))
 (lO false (.ea 1 (.a 2) 9 0) [jD,jD,jD,jD,jD,jD,.val,.val,.val]
 (nD (treeI (.a 0) (.slen 2))
 (lO false (.ea 2 (.a 0) 6 0) [jD,jD,jD,jD,jD,jD]
 (.app none (.lit [[(jA 3),(jA 4),(jA 5),(jA 6),(jA 7),(jA 8),(jA 9),(jA 10),(jA 11),(jA 12),(jA 13),(jA 14)]]) 12
 (.app (some 0) (.va 5) 12
 (nD (treeB (jP 2))
 (jU 0 [(.a 0),(.a 1),(jP 2)] [] [(.va 6),(.va 1)]))))))))
 (.ret false (.va 0) []))
def a1q:Sx.Sys:=⟨[(.sh (.one .val)),(.sh (.one jD))],a3z,[a2p],none,none⟩
def b3p:List Cfg:=[{todo:=[(.code (tfR 7 116)),(.inLoop (tfR 7 116)),(.inBlock 0),(.code [true,true,true,true])],sl:=[(.junk 0),(jA 0),.undef,.undef,(.junk 1),(.va 0),.undef]++jkR 2 12++[(.va 1),(jA 1),(jA 2)]++jkR 14 15++[.undef],H:=[(.row 0 75 12)],ni:=3,nb:=0,nv:=2,nj:=29}]
theorem b5G:SysOk Tryz.prog 26 a1q:=a0k (c:=(cg [(tfR 7 116)] [] [] true false false true)) (a0h _ _ _ _ _ _ _ _ _) Tryz.func26 Tryz.call26 (by kernel_rfl) b3p a1q 5000 rfl (by kernel_rfl) (by kernel_rfl) rfl
def a4A:PT :=
 (cA 20 [(.va 0)] [] [(.one .val)]
 (jU 0 [(.l 0)] [] [.nilS,(.va 1)]))
def a2g:PT :=
 (nD (.is 0 1)
 (.ite (.lt (.a 0) (.slen 1))
 (nD (treeI (.a 0) (.slen 1))
 (nD (treeI (.a 0) (.slen 1))
 (nD (treeI (.a 0) (.slen 1))
 (nD (treeI (.a 0) (.slen 1))
 (lO false (.ea 1 (.a 0) 9 0) [jD,jD,jD,jD,jD,jD]
 (lO false (.ea 1 (.a 0) 9 6) [.val]
 (lO false (.ea 1 (.a 0) 9 7) [.val]
 (lO false (.ea 1 (.a 0) 9 8) [.val]
 (.app none (.lit [[(jA 1),(jA 2),(jA 3),(jA 4),(jA 5),(jA 6),(.va 2),(.va 3),(.va 4)]]) 9
 (.app (some 0) (.va 5) 9
 (nD (treeB (jP 0))
 (jU 0 [(jP 0)] [] [(.va 6),(.va 1)]))))))))))))
 (.ret true (.va 0) [])))
def a1z:Sx.Sys:=⟨[(.sh (.one .val))],a4A,[a2g],none,none⟩
def b2a:List Cfg:=[{todo:=[(.code (tfR 7 116)),(.inLoop (tfR 7 116)),(.inBlock 0),(.code [true,true,true,true])],sl:=[(.junk 0),.undef,(.junk 1),(.va 0),(.va 1),(jA 0)]++jkR 2 32++[.undef],H:=[(.row 0 121 9)],ni:=1,nb:=0,nv:=2,nj:=34}]
theorem b3x:SysOk Tryz.prog 34 a1z:=a0k (c:=(cg [(tfR 7 116)] [] [] true true false true)) (a0h _ _ _ _ _ _ _ _ _) Tryz.func34 Tryz.call34 (by kernel_rfl) b2a a1z 5000 rfl (by kernel_rfl) (by kernel_rfl) rfl
def c0u:PT :=
 (cA 88 [(jA 0),(.agg [(jA 1),(jA 2),(jA 3),(jA 4),(jA 5),(jA 6)]),(.va 0),(.va 1)] [] [(.one jD)]
 (.ite (.not (.eq (.a 7) (.l 0)))
 (.ret true (.tup [.nilS,(jA 7)]) [])
 (cA 89 [(.va 0)] [] [(.one .val)]
 (nD (.is 0 1)
 (jU 0 [(.a 0),(.slen 1),(.l 0),(.a 1),(.a 2),(.a 3),(.a 4),(.a 5),(.a 6)] [] [(.va 2),(.va 1)])))))
def b9D:PT :=
 (.ite (.lt (.a 2) (.a 1))
 (nD (treeI (.a 2) (.slen 1))
 (lO false (.ea 1 (.a 2) 6 0) [jD,jD,jD,jD,jD,jD]
 (cA 90 [(.va 0)] [] [(.agg [jD,jD,jD,jD,jD,jD])]
 (.ite (.eq (.a 0) (.l 2))
  (nD (treeI (.a 2) (.slen 0))
  (lO false (.ea 0 (.a 2) 6 0) [jD,jD,jD,jD,jD,jD]
  (cA 91 [(.agg [(jA 3),(jA 4),(jA 5),(jA 6),(jA 7),(jA 8)]),(.agg [(jA 15),(jA 16),(jA 17),(jA 18),(jA 19),(jA 20)]),(.agg [(jA 21),(jA 22),(jA 23),(jA 24),(jA 25),(jA 26)]),(.agg [(jA 9),(jA 10),(jA 11),(jA 12),(jA 13),(jA 14)])] [] [(.one .bool)]
  (.ite (.a 0)
  (nD (treeB (jP 2))
  (jU 0 [(.a 0),(.a 1),(jP 2),(.a 3),(.a 4),(.a 5),(.a 6),(.a 7),(.a 8)] [] [(.va 0),(.va 1)]))
  (nD (treeI (.a 2) (.slen 0))
  (.storeM (.ea 0 (.a 2) 6 0) [(jA 9),(jA 10),(jA 11),(jA 12),(jA 13),(jA 14)]
  (nD (treeB (jP 2))
  (jU 0 [(.a 0),(.a 1),(jP 2),(.a 3),(.a 4),(.a 5),(.a 6),(.a 7),(.a 8)] [] [(.va 0),(.va 1)]))))))))
  (.ite (.eq (.a 0) (.l 3))
  (nD (treeI (.a 2) (.slen 0))
  (lO false (.ea 0 (.a 2) 6 0) [jD,jD,jD,jD,jD,jD]
  (cA 92 [(.agg [(jA 3),(jA 4),(jA 5),(jA 6),(jA 7),(jA 8)]),(.agg [(jA 15),(jA 16),(jA 17),(jA 18),(jA 19),(jA 20)]),(.agg [(jA 21),(jA 22),(jA 23),(jA 24),(jA 25),(jA 26)]),(.agg [(jA 9),(jA 10),(jA 11),(jA 12),(jA 13),(jA 14)])] [] [(.agg [jD,jD,jD,jD,jD,jD])]
  (nD (treeI (.a 2) (.slen 0))
  (.storeM (.ea 0 (.a 2) 6 0) [(jA 27),(jA 28),(jA 29),(jA 30),(jA 31),(jA 32)]
  (nD (treeB (jP 2))
  (jU 0 [(.a 0),(.a 1),(jP 2),(.a 3),(.a 4),(.a 5),(.a 6),(.a 7),(.a 8)] [] [(.va 0),(.va 1)])))))))
  (nD (treeI (.a 2) (.slen 0))
  (.storeM (.ea 0 (.a 2) 6 0) [(jA 9),(jA 10),(jA 11),(jA 12),(jA 13),(jA 14)]
  (nD (treeB (jP 2))
  (jU 0 [(.a 0),(.a 1),(jP 2),(.a 3),(.a 4),(.a 5),(.a 6),(.a 7),(.a 8)] [] [(.va 0),(.va 1)])))))))))
 (.ret true (.tup [(.va 0),(jE 0)]) []))
def a8R:Sx.Sys:=⟨[(.sh (.one jD)),(.sh (.agg [jD,jD,jD,jD,jD,jD])),(.sh (.one .val)),(.sh (.one .val))],c0u,[b9D],none,none⟩
def b6R:List Cfg:=[{todo:=[(.code (tfR 7 116)),(.inLoop (tfR 7 116)),(.inBlock 0),(.code [true,true,true,true])],sl:=[(jA 0),(.junk 0),(.junk 1),(.junk 2),.undef,(.ptr 0 0),.undef,.undef,(.junk 3),(.junk 4),(.junk 5),(.va 0)]++jkR 6 10++[.undef,(.junk 16),(.junk 17),(.va 1),(jA 1),(jA 2)]++jkR 18 32++[.undef],H:=[(.cells [(jA 3),(jA 4),(jA 5),(jA 6),(jA 7),(jA 8)] 51 false)],ni:=9,nb:=0,nv:=2,nj:=50}]
theorem b9g:SysOk Tryz.prog 58 a8R:=a0k (c:=(cg [(tfR 7 116)] [] [] true true false true)) (a0h _ _ _ _ _ _ _ _ _) Tryz.func58 Tryz.call58 (by kernel_rfl) b6R a8R 5000 rfl (by kernel_rfl) (by kernel_rfl) rfl
def a5V:PT :=
 (nD (.is 0 3)
 (.ite (.lt (.l 6) (.slen 3))
 (.ret false (jE 3) [])
 (nD (.is 0 3)
 (jU 0 [(.slen 3),(.l 0)] [] [(.va 3),(.va 0),(.va 1),(.va 2)]))))
def a2M:PT :=
 (.ite (.lt (.a 1) (.a 0))
 (nD (treeI (.a 1) (.slen 0))
 (lO false (.ea 0 (.a 1) 3 0) [jD,jD,jD]
 (.ite (.lt (.a 2) (.l 0))
  (.ret false (jE 6) [])
  (nD (.is 0 1)
  (.ite (.le (.slen 1) (.a 2))
  (.ret false (jE 6) [])
  (.ite (.lt (.a 3) (.l 1))
   (.ret false (jE 4) [])
   (.ite (.lt (.l 4) (.a 3))
   (.ret false (jE 4) [])
   (.ite (.lt (.a 4) (.l 1))
    (.ret false (jE 4) [])
    (nD (treeI (.a 2) (.slen 1))
    (lO true (.ea 1 (.a 2) 5 1) [jD]
    (.ite (.lt (.a 5) (.a 4))
    (.ret false (jE 4) [])
    (.cut 0 none (some (.a 1)) 3
    (nD (.is 0 4)
    (jU 1 [(.a 0),(.a 1),(.a 2),(.slen 1),(.a 3),(.a 4),(.a 5),(.slen 4),(.l 0)] [(.le (.slen 1) (.a 2)),(.lt (.l 4) (.a 3)),(.lt (.a 4) (.l 1)),(.lt (.a 5) (.a 4))] [(.va 0),(.va 1),(.va 4),(.va 2),(.va 3)]))))))))))))))
 (.ret false (jE 0) []))
def a2I:PT :=
 (.ite (.lt (.a 8) (.a 7))
 (nD (treeI (.a 8) (.slen 2))
 (lO false (.ea 2 (.a 8) 3 0) [jD,jD,jD]
 (.ite (.eq (.a 9) (.a 2))
  (.ret false (jE 7) [])
  (nD (treeB (jP 8))
  (jU 1 [(.a 0),(.a 1),(.a 2),(.a 3),(.a 4),(.a 5),(.a 6),(.a 7),(jP 8)] [(.a 0),(.a 1),(.a 2),(.a 3)] [(.va 0),(.va 1),(.va 2),(.va 3),(.va 4)])))))
 (nD (treeB (jP 1))
 (jU 0 [(.a 0),(jP 1)] [] [(.va 0),(.va 1),(.va 3),(.va 4)])))
def a1b:Sx.Sys:=⟨[(.sh (.agg [.val,.val,.val,.val]))],a5V,[a2M,a2I],none,none⟩
def b4K:List Cfg:=[{todo:=[(.code (tfR 6 52)),(.inLoop (tfR 6 52)),(.inBlock 0),(.code [true,true,true])],sl:=[(.junk 0),(.ptr 0 0),(.junk 1),(.junk 2),(.junk 3),.undef]++jkR 4 6++[(.va 0),(jA 0),(jA 1)]++jkR 10 56,H:=[(.cells [(.va 1),(.va 2),(.va 3),(.va 0)] 27 false)],ni:=2,nb:=0,nv:=4,nj:=66},
 {todo:=[(.code (tfR 16 54076)),(.inLoop (tfR 16 54076)),(.inBlock 2),(.inBlock 1),(.code (tfR 9 423)),(.inLoop (tfR 6 52)),(.inBlock 0),(.code [true,true,true])],sl:=[(.junk 0),(.ptr 0 0),(.junk 1),(.junk 2),(.ptr 1 0),.undef]++jkR 3 6++[(.va 0),(jA 0),(jA 1)]++jkR 9 8++[(.ptr 1 0),(jA 2),(.ptr 0 0),(.va 1),(jA 3),(.bool (.a 0))]++jkR 17 5++[(.ptr 1 1),(jA 4),(.bool (.a 1)),(.junk 22),(.junk 23),(.ptr 1 2),(jA 5),(.bool (.a 2)),(.junk 24),(.junk 25),(.ptr 1 2),(jA 5),(.ptr 0 0),(.va 1),(.ptr 1 0),(jA 2),(.ea 1 (.a 2) 5 0),(.ea 1 (.a 2) 5 1),(jA 6),(.bool (.a 3))]++jkR 26 4++[(.va 2),(jA 7),(jA 8)]++jkR 30 10,H:=[(.cells [(.va 1),(.va 3),(.va 4),(.va 0)] 27 false),(.cells [(jA 2),(jA 4),(jA 5)] 91 false)],ni:=9,nb:=4,nv:=5,nj:=40}]
theorem b8h:SysOk Tryz.prog 66 a1b:=a0k (c:=(cg [(tfR 6 52),(tfR 16 54076)] [] [] false false false true)) (a0h _ _ _ _ _ _ _ _ _) Tryz.func66 Tryz.call66 (by kernel_rfl) b4K a1b 5000 rfl (by kernel_rfl) (by kernel_rfl) rfl
def b3N:PT :=
 (cA 119 [(.agg [(.va 0),(.va 1),(.va 2),(.va 3),(jA 0),(.va 4)]),(.agg [(jA 1),(jA 2),(jA 3),(jA 4),(jA 5),(jA 6),(jA 7),(jA 8),(jA 9),(jA 10),(jA 11),(jA 12)])] [] [(.one jD)]
 (cA 120 [(.agg [(.va 0),(.va 1),(.va 2),(.va 3)]),(jA 0),(.va 4)] [] [(.one jD)]
 (.ret false (.bool (.le (.a 13) (.a 14))) [])))
def a4j:Sx.Sys:=⟨[(.sh (.agg [.val,.val,.val,.val,jD,.val])),(.sh (.agg [jD,jD,jD,jD,jD,jD,jD,jD,jD,jD,jD,jD]))],b3N,[],none,none⟩
def b1S:List Cfg:=[]
theorem b3b:SysOk Tryz.prog 82 a4j:=a0k (c:=(cg [] [] [] false false false true)) (a0h _ _ _ _ _ _ _ _ _) Tryz.func82 Tryz.call82 (by kernel_rfl) b1S a4j 5000 rfl (by kernel_rfl) (by kernel_rfl) rfl
def c6K:PT :=
 (cA 94 [(.va 0)] [] [(.agg [jD,jD,jD,jD,jD,jD])]
 (.ret false (.agg [(jA 0),(jA 1),(jA 2),(jA 3),(jA 4),(jA 5)]) []))
def b4M:Sx.Sys:=⟨[(.sh (.one .val))],c6K,[],none,none⟩
def c3K:List Cfg:=[]
theorem c6x:SysOk Tryz.prog 90 b4M:=a0k (c:=(cg [] [] [] true false false true)) (a0h _ _ _ _ _ _ _ _ _) Tryz.func90 Tryz.call90 (by kernel_rfl) c3K b4M 5000 rfl (by kernel_rfl) (by kernel_rfl) rfl
def b0Z:PT :=
 (nD (.is 0 0)
 (jU 0 [(.slen 0),(.l 0)] [] [(.va 1),(.va 0)]))
def a2O:PT :=
 (.ite (.lt (.a 1) (.a 0))
 (nD (treeI (.a 1) (.slen 1))
 (lO false (.ea 1 (.a 1) 5 0) [.val,jD,jD,jD,jD]
 (nD (.is 3 2)
 (nD (.is 3 0)
 (.ite (.seq 2 0)
  (.ret false (.tup [(jA 1),(.bool (.t true))]) [])
  (nD (treeB (jP 1))
  (jU 0 [(.a 0),(jP 1)] [] [(.va 0),(.va 1)])))))))
 (.ret false (.tup [(jE 0),(.bool (.t false))]) []))
def a2A:Sx.Sys:=⟨[(.sh (.one .val)),(.sh (.one .val))],b0Z,[a2O],none,none⟩
def c0K:List Cfg:=[{todo:=[(.code (tfR 5 20)),(.inLoop (tfR 5 20)),(.inBlock 0),(.code [true,true])],sl:=[(.junk 0),(.va 0),.undef,.undef]++jkR 1 4++[(.va 1),(jA 0),(jA 1)]++jkR 5 8++[.undef,(.junk 13)],H:=[],ni:=2,nb:=0,nv:=2,nj:=14}]
theorem c2v:SysOk Tryz.prog 98 a2A:=a0k (c:=(cg [(tfR 5 20)] [] [] false false false true)) (a0h _ _ _ _ _ _ _ _ _) Tryz.func98 Tryz.call98 (by kernel_rfl) c0K a2A 5000 rfl (by kernel_rfl) (by kernel_rfl) rfl
def a5R:PT :=
 (nD (.is 3 0)
 (nD (.lt (.l 0) (.stl 0))
 (cA 113 [(.int .u8 (.sat 0 (.l 0)))] [] [(.one .bool)]
 (.ite (.a 0)
 (jU 0 [(.l 1)] [] [(.va 0)])
 (nD (.is 3 0)
 (nD (.lt (.l 0) (.stl 0))
 (cA 128 [(.int .u8 (.sat 0 (.l 0)))] [] [(.one .bool)]
 (.ite (.a 1)
  (jU 1 [(.l 1)] [] [(.va 0)])
  (nD (.is 3 0)
  (nD (.lt (.l 0) (.stl 0))
  (cA 129 [(.int .u8 (.sat 0 (.l 0)))] [] [(.one .bool)]
  (.ite (.a 2)
  (.scut 0 none (some (.l 1))
  (.ret false (.tup [(.agg [(jE 3),(.va 1),(jE 0),(jE 0)]),(jE 0)]) []))
  (.ret false (.tup [(.agg [(jE 0),(.str []),(jE 0),(jE 0)]),(jE 2)]) [])))))))))))))
def a1w:PT :=
 (nD (.is 3 0)
 (.ite (.lt (.a 0) (.stl 0))
 (nD (.is 3 0)
 (nD (treeI (.a 0) (.stl 0))
 (cA 113 [(.int .u8 (.sat 0 (.a 0)))] [] [(.one .bool)]
 (.ite (.a 0)
  (nD (treeB (jP 0))
  (jU 0 [(jP 0)] [] [(.va 0)]))
  (nD (.is 3 0)
  (nD (treeI (.a 0) (.stl 0))
  (cA 128 [(.int .u8 (.sat 0 (.a 0)))] [] [(.one .bool)]
  (.ite (.a 1)
  (nD (treeB (jP 0))
  (jU 0 [(jP 0)] [] [(.va 0)]))
  (nD (.is 3 0)
  (nD (treeI (.a 0) (.stl 0))
  (.ite (.eq (.sat 0 (.a 0)) (.l 95))
   (nD (treeB (jP 0))
   (jU 0 [(jP 0)] [] [(.va 0)]))
   (.ite (.lt (.l 12) (.a 0))
   (.ret false (.tup [(.agg [(jE 0),(.str []),(jE 0),(jE 0)]),(jE 3)]) [])
   (.scut 0 none (some (.a 0))
   (.ret false (.tup [(.agg [(jE 1),(.va 1),(jE 0),(jE 0)]),(jE 0)]) []))))))))))))))
 (.ite (.lt (.l 12) (.a 0))
  (.ret false (.tup [(.agg [(jE 0),(.str []),(jE 0),(jE 0)]),(jE 3)]) [])
  (.scut 0 none (some (.a 0))
  (.ret false (.tup [(.agg [(jE 1),(.va 1),(jE 0),(jE 0)]),(jE 0)]) [])))))
def b7u:PT :=
 (nD (.is 3 0)
 (.ite (.lt (.a 0) (.stl 0))
 (nD (.is 3 0)
 (nD (treeI (.a 0) (.stl 0))
 (cA 128 [(.int .u8 (.sat 0 (.a 0)))] [] [(.one .bool)]
 (.ite (.a 0)
  (nD (treeB (jP 0))
  (jU 1 [(jP 0)] [] [(.va 0)]))
  (.ite (.lt (.l 1) (.a 0))
  (nD (.is 3 0)
  (nD (.lt (.l 0) (.stl 0))
  (.ite (.eq (.sat 0 (.l 0)) (.l 48))
   (.ret false (.tup [(.agg [(jE 0),(.str []),(jE 0),(jE 0)]),(jE 2)]) [])
   (.ite (.lt (.l 9) (.a 0))
   (.ret false (.tup [(.agg [(jE 0),(.str []),(jE 0),(jE 0)]),(jE 4)]) [])
   (jU 2 [(.a 0),(.l 0),(.l 0)] [] [(.va 0)])))))
  (.ite (.lt (.l 9) (.a 0))
   (.ret false (.tup [(.agg [(jE 0),(.str []),(jE 0),(jE 0)]),(jE 4)]) [])
   (jU 2 [(.a 0),(.l 0),(.l 0)] [] [(.va 0)])))))))
 (.ite (.lt (.l 1) (.a 0))
  (nD (.is 3 0)
  (nD (.lt (.l 0) (.stl 0))
  (.ite (.eq (.sat 0 (.l 0)) (.l 48))
  (.ret false (.tup [(.agg [(jE 0),(.str []),(jE 0),(jE 0)]),(jE 2)]) [])
  (.ite (.lt (.l 9) (.a 0))
   (.ret false (.tup [(.agg [(jE 0),(.str []),(jE 0),(jE 0)]),(jE 4)]) [])
   (jU 2 [(.a 0),(.l 0),(.l 0)] [] [(.va 0)])))))
  (.ite (.lt (.l 9) (.a 0))
  (.ret false (.tup [(.agg [(jE 0),(.str []),(jE 0),(jE 0)]),(jE 4)]) [])
  (jU 2 [(.a 0),(.l 0),(.l 0)] [] [(.va 0)])))))
def b6T:PT :=
 (.ite (.lt (.a 2) (.a 0))
 (nD (treeB (.mul (.a 1) (.l 10)))
 (nD (.is 3 0)
 (nD (treeI (.a 2) (.stl 0))
 (nD (.and (.le (.l 0) (.sub (.sat 0 (.a 2)) (.l 48))) (.le (.sub (.sat 0 (.a 2)) (.l 48)) (.l 255)))
 (nD (treeB (.sub (.sat 0 (.a 2)) (.l 48)))
 (nD (treeB (.add (.mul (.a 1) (.l 10)) (.sub (.sat 0 (.a 2)) (.l 48))))
 (nD (treeB (jP 2))
 (jU 2 [(.a 0),(.add (.mul (.a 1) (.l 10)) (.sub (.sat 0 (.a 2)) (.l 48))),(jP 2)] [] [(.va 0)]))))))))
 (.scut 0 none (some (.a 0))
 (.ret false (.tup [(.agg [(jE 2),(.va 1),(jA 1),(jE 0)]),(jE 0)]) [])))
def a1O:Sx.Sys:=⟨[(.sh (.one .val))],a5R,[a1w,b7u,b6T],none,none⟩
def b5l:List Cfg:=[{todo:=[(.code (tfR 9 400)),(.inLoop (tfR 9 400)),(.inBlock 1),(.code (tfR 7 101)),(.inBlock 0),(.code [true,true,true])],sl:=[(.va 0),.undef,(.ptr 0 0),(.junk 0),(jA 0),.undef,.undef]++jkR 1 28++udR 60,H:=[(.cells [(jE 0),(.str []),(jE 0),(jE 0)] 153 false)],ni:=1,nb:=0,nv:=1,nj:=29},
 {todo:=[(.code (tfR 11 1648)),(.inLoop (tfR 11 1648)),(.inBlock 3),(.code (tfR 9 413)),(.inBlock 0),(.code [true,true,true])],sl:=[(.va 0),.undef,(.ptr 0 0),(.junk 0),(jA 0),.undef,.undef]++jkR 1 4++udR 31++jkR 5 16++udR 37,H:=[(.cells [(jE 0),(.str []),(jE 0),(jE 0)] 153 false)],ni:=1,nb:=0,nv:=1,nj:=21},
 {todo:=[(.code (tfR 16 52980)),(.inLoop (tfR 16 52980)),(.inBlock 5),(.code (tfR 13 6623)),(.inBlock 0),(.code [true,true,true])],sl:=[(.va 0),.undef,(.ptr 0 0),(.junk 0),(jA 0),(jA 1),(jA 2)]++jkR 1 4++udR 31++jkR 5 23++[.undef,(.junk 28),(.junk 29),.undef]++jkR 30 13++udR 13,H:=[(.cells [(jE 0),(.str []),(jE 0),(jE 0)] 153 false)],ni:=3,nb:=0,nv:=1,nj:=43}]
theorem b7G:SysOk Tryz.prog 114 a1O:=a0k (c:=(cg [(tfR 9 400),(tfR 11 1648),(tfR 16 52980)] [] [] false false false true)) (a0h _ _ _ _ _ _ _ _ _) Tryz.func114 Tryz.call114 (by kernel_rfl) b5l a1O 5000 rfl (by kernel_rfl) (by kernel_rfl) rfl
def b6y:PT :=
 (lO false (.pa 0 0) [jD]
 (nD (treeB (.add (.a 0) (.a 1)))
 (lO false (.pa 0 1) [jD]
 (nD (treeB (.mul (.a 0) (.a 2)))
 (nD (treeB (.add (.mul (.a 0) (.a 2)) (.l 99)))
 (nD (treeB (.tdiv (.add (.mul (.a 0) (.a 2)) (.l 99)) (.l 100)))
 (nD (treeB (.add (.add (.a 0) (.a 1)) (.tdiv (.add (.mul (.a 0) (.a 2)) (.l 99)) (.l 100))))
 (.ret true (.int .i64 (.add (.add (.a 0) (.a 1)) (.tdiv (.add (.mul (.a 0) (.a 2)) (.l 99)) (.l 100)))) []))))))))
def a4N:Sx.Sys:=⟨[(.sh (.one jD)),.ptr],b6y,[],none,none⟩
def b2R:List Cfg:=[]
theorem b5w:SysOk Tryz.prog 122 a4N:=a0k (c:=(cg [] [] [] true true false true)) (a0h _ _ _ _ _ _ _ _ _) Tryz.func122 Tryz.call122 (by kernel_rfl) b2R a4N 5000 rfl (by kernel_rfl) (by kernel_rfl) rfl
def c4X:PT :=
 (.ret false (.agg [(.int .i64 (.mn (.a 0) (.a 6))),(.int .i64 (.mn (.a 1) (.a 7))),(.int .i64 (.mn (.a 2) (.a 8))),(.int .i64 (.mn (.a 3) (.a 9))),(.int .i64 (.mn (.a 4) (.a 10))),(.int .i64 (.mn (.a 5) (.a 11)))]) [])
def b1H:Sx.Sys:=⟨[(.sh (.agg [jD,jD,jD,jD,jD,jD])),(.sh (.agg [jD,jD,jD,jD,jD,jD]))],c4X,[],none,none⟩
def c1H:List Cfg:=[]
theorem c3R:SysOk Tryz.prog 130 b1H:=a0k (c:=(cg [] [] [] false false false true)) (a0h _ _ _ _ _ _ _ _ _) Tryz.func130 Tryz.call130 (by kernel_rfl) c1H b1H 5000 rfl (by kernel_rfl) (by kernel_rfl) rfl
def b9y:PT :=
 (.ret false (jA 2) [])
def a6v:Sx.Sys:=⟨[(.sh (.agg [.val,jD,jD,jD,jD]))],b9y,[],none,none⟩
def b5X:List Cfg:=[]
theorem b8S:SysOk Tryz.prog 138 a6v:=a0k (c:=(cg [] [] [] false false false true)) (a0h _ _ _ _ _ _ _ _ _) Tryz.func138 Tryz.call138 (by kernel_rfl) b5X a6v 5000 rfl (by kernel_rfl) (by kernel_rfl) rfl
def a3L(sz:Nat):List PV->List MO->Option (PV×List MO)
 | [.nilS],σ=>some (.nilS,σ)
 | [.sl n rows],σ=>if n=sz/\rows.length<=1000000 then some (.sl n rows,σ) else none
 | _,_=>none
theorem d2p{s:Hp}{B:Inf}{n:Nat}{v:Value}(h:Rep s B .nilS v):Rep s B (.sl n []) v:=by
 simp only[Rep] at h ⊢;subst h;exact⟨[],⟨by simp,none,0,rfl,Q4 _,by simp⟩,rfl,by simp⟩
theorem b9Y{P:Program}{f:Nat}{aa:List PV}{σ:List MO}{n:Nat}(h:CtD P f aa σ (fun r σ'=>(r=.nilS\/r=.sl n [])/\σ'=σ)):CtD P f aa σ (fun r σ'=>r=.sl n []/\σ'=σ):=by
 refine⟨h.1,fun s m vs a b c w hs hm=>(h.2 s m vs a b c w hs hm).mono ?_⟩;rintro e w' ⟨v,s',m',e1,e2,e3,e4,e5,e6,e7,r',σ'',⟨hr,rfl⟩,hq⟩;refine⟨v,s',m',e1,e2,e3,e4,e5,e6,e7,.sl n [],_,⟨rfl,rfl⟩,hq.1,?_,hq.2.2⟩;rcases hr with rfl|rfl
 ·exact d2p hq.2.1
 ·exact hq.2.1
theorem a1L:SysIs Tryz.prog 67 a2Z:=b6x (c:=(cg [] [] [] false false false true)) (a0h _ _ _ _ _ _ _ _ _) Tryz.func67 Tryz.call67 (by kernel_rfl) a5g a2Z 5000 rfl (by kernel_rfl) (by kernel_rfl)
def a2X:Sx.Sys:=⟨[],.stuck,[],some (a3L 5),none⟩
theorem a5f:SysOk Tryz.prog 67 a2X where
 ct Φ hΦ n aa σ r σ' hh:=by
  change a3L 5 aa σ=some (r,σ') at hh;unfold a3L at hh;split at hh
  ·simp only[Q1,Q0] at hh
   obtain⟨rfl,rfl⟩:=hh;refine CtD.one (a1L.dm Φ hΦ 1 _ _ _ ⟨([],[],[.nilS]),rfl,?_⟩);show PT.wp _ a0D _ _;unfold a0D;refine a3V rfl rfl (b2t rfl rfl ⟨.nilS,rfl,(.nilS,_),?_,rfl,rfl⟩);simp[a0g]
  ·rename_i σ0 n rows
   split at hh
   case isFalse=>cases hh
   rename_i hc;obtain⟨rfl,hc⟩:=hc;simp only[Q1,Q0] at hh;obtain⟨rfl,rfl⟩:=hh;cases rows with
   | nil =>
    refine CtD.one (b9Y (a1L.dm Φ hΦ 1 _ _ _ ⟨([],[],[.sl 5 []]),rfl,?_⟩));show PT.wp _ a0D _ _;unfold a0D;refine a3V rfl rfl ?_;simp only[PT.wp];rw[if_neg (by simp[BE.safe,PEnv.at,PV.nilOk])];refine⟨⟨.nilS,rfl,(.nilS,_),by simp[a0g],.inl rfl,rfl⟩,[],rfl,[],rfl,?_⟩;rw[if_pos (by simp)];refine⟨[],by simp[b5o,PV.rowsOf],[],by simp[a1o,PV.rowsOf],?_⟩;rw[if_pos (by simp)];exact⟨.sl 5 [],rfl,(.sl 5 [],_),by simp[a0g],.inr rfl,rfl⟩
   | cons x rows =>
    refine CtD.one (a1L.dm Φ hΦ 1 _ _ _ ⟨([],[],[.sl 5 (x::rows)]),rfl,?_⟩);show PT.wp _ a0D _ _;unfold a0D;refine a3V rfl rfl (b2v rfl rfl ?_);simp only[PT.wp];refine⟨[],rfl,[],rfl,?_⟩;rw[if_pos (by simp)];refine⟨[],by simp[b5o,PV.rowsOf],x::rows,by simp[a1o,PV.rowsOf],?_⟩;rw[if_pos (by simpa using hc)];exact⟨.sl 5 (x::rows),rfl,(.sl 5 (x::rows),_),by simp[a0g],rfl,rfl⟩
  ·cases hh
theorem a1W:SysIs Tryz.prog 68 a3r:=b6x (c:=(cg [] [] [] false false false true)) (a0h _ _ _ _ _ _ _ _ _) Tryz.func68 Tryz.call68 (by kernel_rfl) a5D a3r 5000 rfl (by kernel_rfl) (by kernel_rfl)
def a3s:Sx.Sys:=⟨[],.stuck,[],some (a3L 4),none⟩
theorem a5C:SysOk Tryz.prog 68 a3s where
 ct Φ hΦ n aa σ r σ' hh:=by
  change a3L 4 aa σ=some (r,σ') at hh;unfold a3L at hh;split at hh
  ·simp only[Q1,Q0] at hh
   obtain⟨rfl,rfl⟩:=hh;refine CtD.one (a1W.dm Φ hΦ 1 _ _ _ ⟨([],[],[.nilS]),rfl,?_⟩);show PT.wp _ a0L _ _;unfold a0L;refine a3V rfl rfl (b2t rfl rfl ⟨.nilS,rfl,(.nilS,_),?_,rfl,rfl⟩);simp[a0g]
  ·rename_i σ0 n rows
   split at hh
   case isFalse=>cases hh
   rename_i hc;obtain⟨rfl,hc⟩:=hc;simp only[Q1,Q0] at hh;obtain⟨rfl,rfl⟩:=hh;cases rows with
   | nil =>
    refine CtD.one (b9Y (a1W.dm Φ hΦ 1 _ _ _ ⟨([],[],[.sl 4 []]),rfl,?_⟩));show PT.wp _ a0L _ _;unfold a0L;refine a3V rfl rfl ?_;simp only[PT.wp];rw[if_neg (by simp[BE.safe,PEnv.at,PV.nilOk])];refine⟨⟨.nilS,rfl,(.nilS,_),by simp[a0g],.inl rfl,rfl⟩,[],rfl,[],rfl,?_⟩;rw[if_pos (by simp)];refine⟨[],by simp[b5o,PV.rowsOf],[],by simp[a1o,PV.rowsOf],?_⟩;rw[if_pos (by simp)];exact⟨.sl 4 [],rfl,(.sl 4 [],_),by simp[a0g],.inr rfl,rfl⟩
   | cons x rows =>
    refine CtD.one (a1W.dm Φ hΦ 1 _ _ _ ⟨([],[],[.sl 4 (x::rows)]),rfl,?_⟩);show PT.wp _ a0L _ _;unfold a0L;refine a3V rfl rfl (b2v rfl rfl ?_);simp only[PT.wp];refine⟨[],rfl,[],rfl,?_⟩;rw[if_pos (by simp)];refine⟨[],by simp[b5o,PV.rowsOf],x::rows,by simp[a1o,PV.rowsOf],?_⟩;rw[if_pos (by simpa using hc)];exact⟨.sl 4 (x::rows),rfl,(.sl 4 (x::rows),_),by simp[a0g],rfl,rfl⟩
  ·cases hh
theorem a2H:SysIs Tryz.prog 69 a4r:=b6x (c:=(cg [] [] [] false false false true)) (a0h _ _ _ _ _ _ _ _ _) Tryz.func69 Tryz.call69 (by kernel_rfl) a8Z a4r 5000 rfl (by kernel_rfl) (by kernel_rfl)
def a4q:Sx.Sys:=⟨[],.stuck,[],some (a3L 3),none⟩
theorem a9h:SysOk Tryz.prog 69 a4q where
 ct Φ hΦ n aa σ r σ' hh:=by
  change a3L 3 aa σ=some (r,σ') at hh;unfold a3L at hh;split at hh
  ·simp only[Q1,Q0] at hh
   obtain⟨rfl,rfl⟩:=hh;refine CtD.one (a2H.dm Φ hΦ 1 _ _ _ ⟨([],[],[.nilS]),rfl,?_⟩);show PT.wp _ a0X _ _;unfold a0X;refine a3V rfl rfl (b2t rfl rfl ⟨.nilS,rfl,(.nilS,_),?_,rfl,rfl⟩);simp[a0g]
  ·rename_i σ0 n rows
   split at hh
   case isFalse=>cases hh
   rename_i hc;obtain⟨rfl,hc⟩:=hc;simp only[Q1,Q0] at hh;obtain⟨rfl,rfl⟩:=hh;cases rows with
   | nil =>
    refine CtD.one (b9Y (a2H.dm Φ hΦ 1 _ _ _ ⟨([],[],[.sl 3 []]),rfl,?_⟩));show PT.wp _ a0X _ _;unfold a0X;refine a3V rfl rfl ?_;simp only[PT.wp];rw[if_neg (by simp[BE.safe,PEnv.at,PV.nilOk])];refine⟨⟨.nilS,rfl,(.nilS,_),by simp[a0g],.inl rfl,rfl⟩,[],rfl,[],rfl,?_⟩;rw[if_pos (by simp)];refine⟨[],by simp[b5o,PV.rowsOf],[],by simp[a1o,PV.rowsOf],?_⟩;rw[if_pos (by simp)];exact⟨.sl 3 [],rfl,(.sl 3 [],_),by simp[a0g],.inr rfl,rfl⟩
   | cons x rows =>
    refine CtD.one (a2H.dm Φ hΦ 1 _ _ _ ⟨([],[],[.sl 3 (x::rows)]),rfl,?_⟩);show PT.wp _ a0X _ _;unfold a0X;refine a3V rfl rfl (b2v rfl rfl ?_);simp only[PT.wp];refine⟨[],rfl,[],rfl,?_⟩;rw[if_pos (by simp)];refine⟨[],by simp[b5o,PV.rowsOf],x::rows,by simp[a1o,PV.rowsOf],?_⟩;rw[if_pos (by simpa using hc)];exact⟨.sl 3 (x::rows),rfl,(.sl 3 (x::rows),_),by simp[a0g],rfl,rfl⟩
  ·cases hh
theorem a2b:SysIs Tryz.prog 70 a3J:=b6x (c:=(cg [] [] [] false false false true)) (a0h _ _ _ _ _ _ _ _ _) Tryz.func70 Tryz.call70 (by kernel_rfl) a6i a3J 5000 rfl (by kernel_rfl) (by kernel_rfl)
def a3H:Sx.Sys:=⟨[],.stuck,[],some (a3L 3),none⟩
theorem a6h:SysOk Tryz.prog 70 a3H where
 ct Φ hΦ n aa σ r σ' hh:=by
  change a3L 3 aa σ=some (r,σ') at hh;unfold a3L at hh;split at hh
  ·simp only[Q1,Q0] at hh
   obtain⟨rfl,rfl⟩:=hh;refine CtD.one (a2b.dm Φ hΦ 1 _ _ _ ⟨([],[],[.nilS]),rfl,?_⟩);show PT.wp _ a0Q _ _;unfold a0Q;refine a3V rfl rfl (b2t rfl rfl ⟨.nilS,rfl,(.nilS,_),?_,rfl,rfl⟩);simp[a0g]
  ·rename_i σ0 n rows
   split at hh
   case isFalse=>cases hh
   rename_i hc;obtain⟨rfl,hc⟩:=hc;simp only[Q1,Q0] at hh;obtain⟨rfl,rfl⟩:=hh;cases rows with
   | nil =>
    refine CtD.one (b9Y (a2b.dm Φ hΦ 1 _ _ _ ⟨([],[],[.sl 3 []]),rfl,?_⟩));show PT.wp _ a0Q _ _;unfold a0Q;refine a3V rfl rfl ?_;simp only[PT.wp];rw[if_neg (by simp[BE.safe,PEnv.at,PV.nilOk])];refine⟨⟨.nilS,rfl,(.nilS,_),by simp[a0g],.inl rfl,rfl⟩,[],rfl,[],rfl,?_⟩;rw[if_pos (by simp)];refine⟨[],by simp[b5o,PV.rowsOf],[],by simp[a1o,PV.rowsOf],?_⟩;rw[if_pos (by simp)];exact⟨.sl 3 [],rfl,(.sl 3 [],_),by simp[a0g],.inr rfl,rfl⟩
   | cons x rows =>
    refine CtD.one (a2b.dm Φ hΦ 1 _ _ _ ⟨([],[],[.sl 3 (x::rows)]),rfl,?_⟩);show PT.wp _ a0Q _ _;unfold a0Q;refine a3V rfl rfl (b2v rfl rfl ?_);simp only[PT.wp];refine⟨[],rfl,[],rfl,?_⟩;rw[if_pos (by simp)];refine⟨[],by simp[b5o,PV.rowsOf],x::rows,by simp[a1o,PV.rowsOf],?_⟩;rw[if_pos (by simpa using hc)];exact⟨.sl 3 (x::rows),rfl,(.sl 3 (x::rows),_),by simp[a0g],rfl,rfl⟩
  ·cases hh
def a1R:Sx.Sys:=a2X
theorem a5o:SysOk Tryz.prog 67 a1R:=a5f
def a1Z:Sx.Sys:=a3s
theorem a5Y:SysOk Tryz.prog 68 a1Z:=a5C
def a2N:Sx.Sys:=a4q
theorem a9P:SysOk Tryz.prog 69 a2N:=a9h
def a2j:Sx.Sys:=a3H
theorem a6m:SysOk Tryz.prog 70 a2j:=a6h
open Go.Shelf Go.RowKit Go.Lib Go.Sort Go.Sx Go.Proofs
def c8v:List Value:=[.int .i64 0,.int .i64 0,.int .i64 0,.int .i64 0,.int .i64 0,.int .i64 0]
theorem d3f:(Tryz.prog.info? 51).map (fun i=>(i.zero,i.size,i.bytes))=some (some (.agg c8v.toArray),6,48):=by kernel_rfl
set_option maxHeartbeats 4000000 in
set_option maxRecDepth 1000000 in
theorem c6o:c1l Tryz.prog 89 51 6:=by
 intro w b off n c news hpos hn6 hl hc h1;obtain⟨i0,hi0,hz0,hz1,hz2⟩:=info_parts d3f;have mixed:Tryz.prog.follows Departure.mixedOrders=true:=by kernel_rfl
 have hzs:(Value.agg c8v.toArray).cells.size=6:=by kernel_rfl
 have q22:∀(w:World) (a:Option Addr) (n c n' c':Nat),(binOp .eql 39 (.slice a n c) (.slice none n' c')).run Tryz.prog w=.ok (.bool a.isNone) w:=fun w a n c n' c'=>Lib.run_eql_slice_nil w _ _ a n c n' c' Tryz.underlying39
 have u22:∀w,Sem.run Tryz.prog (underlying 39) w=.ok (TypeDesc.slice 51) w:=run_underlying Tryz.underlying39;have A:Aside (∀j u,news[j]?=some u->w.cell? ⟨b,off+j,none⟩=some u):=hc;clear hc
 go_enter Tryz.func89,Tryz.ntmps89
 go_wp2_with (at_builtin;refine wpList_append_own _ rfl _ _ 39 rfl w.heap.size 51 i0 (Value.agg c8v.toArray) 6 48 Tryz.underlying39 hi0 hz0 hz1 hz2 hzs (by omega) _ _ _ rfl (World.ownsRow_made w #[] 0 (Q4 _) (Nat.zero_le _) (by simp)) ⟨b,off,none⟩ n c news rfl ?qc1 ?qc2 ?qc3 ?qc4 ?qc5 ?qc6 ?_)
 case qc1=>exact hl
 case qc2 =>
  intro j u hj;rw[Addr.add_lit];exact Lib.cell?_alloc_some _ (A.out j u hj)
 case qc3=>exact h1
 case qc4=>rw[Q2];show n<=9223372036854775807;omega
 case qc5=>rw[Q2];omega
 case qc6=>simp
 intro v' w1 hown hgrow hnil
 go_wp2
 go_ret
 refine⟨v',rfl,by simpa using hown,?_⟩;exact((Below.refl _ w).alloc (Q4 _) _).grown hgrow (by simp) (by intro k hk;simp[Value.ownBlock] at hk;omega)
def a3q:Sx.Sys:=⟨[],.stuck,[],some (c5u 51 6),none⟩
theorem a5I:SysOk Tryz.prog 89 a3q where
 ct _ _ _:=c9e c6o Tryz.call89
def z6:List PV:=[.int .i64 0,.int .i64 0,.int .i64 0,.int .i64 0,.int .i64 0,.int .i64 0]
def c2m:List PV->List MO->Option (PV×List MO)
 | [.ref h 0],σ=>match σ[h]? with
  | some (.cells [c0,c1,c2,c3,c4,c5,c6,c7,c8,c9,c10,c11,c12,c13,c14,_,_,.msl hd o n cp sz,c18] T) =>
   if n<=1000000/\σ.all (MO.low σ.length)=true then
    some (.tup [],σ.set h (.cells [c0,c1,c2,c3,c4,c5,c6,c7,c8,c9,c10,c11,c12,c13,c14,.msl σ.length 0 n n 6,.msl (σ.length+1) 0 n n 1,.msl hd o n cp sz,c18] T)++[.cells (Q3 n z6).flatten 51,.cells (Q3 n [PV.bool false]).flatten 4]) else none
  | _=>none
 | _,_=>none
theorem d0X:SysIs Tryz.prog 31 b0F:=b6x (c:=(cg [] [] [] true true false true)) (a0h _ _ _ _ _ _ _ _ _) Tryz.func31 Tryz.call31 (by kernel_rfl) b5k b0F 5000 rfl (by kernel_rfl) (by kernel_rfl)
theorem d2z(k n:Nat):PV.lows k (Q3 n z6).flatten=true:=by
 induction n with
 | zero=>rfl
 | succ n ih=>rw[Qk,Qm];simpa[z6,PV.lows,PV.low] using ih
theorem d2Q(k n:Nat):PV.lows k (Q3 n [PV.bool false]).flatten=true:=by
 induction n with
 | zero=>rfl
 | succ n ih=>rw[Qk,Qm];simpa[PV.lows,PV.low] using ih
section
variable {Φ:Fns}{ρ:PEnv}{R:Res->Prop}{k:PT}
theorem d3M{n:IE}{zero:List SV}{T size bytes:Nat}{z:List PV}{m:Nat}(h1:SV.pvs ρ noOwn zero=some z)(h2:n.pe ρ=(m:Int))(h3:m<=1000000)(h4:bytes<=100000000)
  (hk:k.wp Φ {ρ with v:=ρ.v++[.msl ρ.m.length 0 m m size],m:=ρ.m++[.cells (Q3 m z).flatten T]} R):(PT.mkM n zero T size bytes k).wp Φ ρ R:=by
 refine⟨z,h1,?_⟩;rw[h2,if_pos ⟨by omega,by omega,h4⟩];exact hk
theorem d3m{a:SV}{cs:List SV}{h off T:Nat}{l new:List PV}(h1:a0y ρ a=some (.obj h off))(h2:ρ.m[h]?=some (.cells l T))(h3:SV.pvs ρ noOwn cs=some new)(h4:off+new.length<=l.length)(hk:k.wp Φ {ρ with m:=ρ.m.set h (.cells (a3f l off new) T)} R):(PT.storeM a cs k).wp Φ ρ R:=by
 simp only[PT.wp,h1,h2];exact⟨new,h3,by rw[if_pos h4];exact hk⟩
end
theorem c9V{k n:Nat}{c0 c1 c2 c3 c4 c5 c6 c7 c8 c9 c10 c11 c12 c13 c14 d c18:PV}{s:Hp}{B B':Inf}{vs:List Value}(hl:PV.lows k [c0,c1,c2,c3,c4,c5,c6,c7,c8,c9,c10,c11,c12,c13,c14,d,c18]=true)(hp:B.take k <+: B')(e1:B'[k]?=B[k+1]?)(e2:B'[k+1]?=B[k]?)
  (h:Reps s B [c0,c1,c2,c3,c4,c5,c6,c7,c8,c9,c10,c11,c12,c13,c14,.msl (k+1) 0 n n 6,.msl k 0 n n 1,d,c18] vs):Reps s B' [c0,c1,c2,c3,c4,c5,c6,c7,c8,c9,c10,c11,c12,c13,c14,.msl k 0 n n 6,.msl (k+1) 0 n n 1,d,c18] vs:=by
 have up:∀{p:PV} {v:Value},Rep s B p v->p.low k=true->Rep s B' p v:=fun h1 h2=>Rep.mono (fun _ _ _ h=>h) (BLe.pre hp) _ _ (PV.low_rep _ _ h1 h2)
 simp only[PV.lows,Q5] at hl;obtain⟨a0,a1,a2,a3,a4,a5,a6,a7,a8,a9,a10,a11,a12,a13,a14,a15,a16,-⟩:=hl;rw[Reps] at h;obtain⟨v0,_,rfl,b0,h⟩:=h;rw[Reps] at h;obtain⟨v1,_,rfl,b1,h⟩:=h;rw[Reps] at h;obtain⟨v2,_,rfl,b2,h⟩:=h;rw[Reps] at h;obtain⟨v3,_,rfl,b3,h⟩:=h;rw[Reps] at h;obtain⟨v4,_,rfl,b4,h⟩:=h;rw[Reps] at h;obtain⟨v5,_,rfl,b5,h⟩:=h;rw[Reps] at h;obtain⟨v6,_,rfl,b6,h⟩:=h;rw[Reps] at h;obtain⟨v7,_,rfl,b7,h⟩:=h;rw[Reps] at h;obtain⟨v8,_,rfl,b8,h⟩:=h;rw[Reps] at h;obtain⟨v9,_,rfl,b9,h⟩:=h;rw[Reps] at h;obtain⟨v10,_,rfl,b10,h⟩:=h;rw[Reps] at h;obtain⟨v11,_,rfl,b11,h⟩:=h;rw[Reps] at h;obtain⟨v12,_,rfl,b12,h⟩:=h;rw[Reps] at h;obtain⟨v13,_,rfl,b13,h⟩:=h;rw[Reps] at h;obtain⟨v14,_,rfl,b14,h⟩:=h;rw[Reps] at h;obtain⟨v15,_,rfl,m1,h⟩:=h;rw[Reps] at h;obtain⟨v16,_,rfl,m2,h⟩:=h;rw[Reps] at h;obtain⟨v17,_,rfl,b15,h⟩:=h;rw[Reps] at h;obtain⟨v18,_,rfl,b16,h⟩:=h;simp only[Rep] at m1 m2;rw[<- e1] at m1;rw[<- e2] at m2;refine⟨_,_,rfl,up b0 a0,_,_,rfl,up b1 a1,_,_,rfl,up b2 a2,_,_,rfl,up b3 a3,_,_,rfl,up b4 a4,_,_,rfl,up b5 a5,_,_,rfl,up b6 a6,_,_,rfl,up b7 a7,_,_,rfl,up b8 a8,_,_,rfl,up b9 a9,_,_,rfl,up b10 a10,_,_,rfl,up b11 a11,_,_,rfl,up b12 a12,_,_,rfl,up b13 a13,_,_,rfl,up b14 a14,_,_,rfl,?_,_,_,rfl,?_,_,_,rfl,up b15 a15,_,_,rfl,up b16 a16,h⟩
 ·simp only[Rep];exact m1
 ·simp only[Rep];exact m2
def c5S:Sx.Sys:=⟨[],.stuck,[],some c2m,none⟩
set_option maxHeartbeats 4000000 in
theorem c7M:SysOk Tryz.prog 31 c5S where
 ct Φ hΦ nn aa σ r σ' hh:=by
  change c2m aa σ=some (r,σ') at hh;unfold c2m at hh;split at hh
  case h_2=>cases hh
  rename_i h;split at hh
  case h_2=>cases hh
  rename_i c0 c1 c2 c3 c4 c5 c6 c7 c8 c9 c10 c11 c12 c13 c14 c15 c16 hd o n cp sz c18 T g0;split at hh
  case isFalse=>cases hh
  rename_i hc;obtain⟨hn,hlow⟩:=hc;simp only[Q1,Q0] at hh;obtain⟨rfl,rfl⟩:=hh;have hlt:=(List.getElem?_eq_some_iff.1 g0).1;have hall:PV.lows σ.length [c0,c1,c2,c3,c4,c5,c6,c7,c8,c9,c10,c11,c12,c13,c14,c15,c16,.msl hd o n cp sz,c18]=true:=List.all_eq_true.1 hlow _ (List.mem_of_getElem? g0)
  have hall':PV.lows σ.length [c0,c1,c2,c3,c4,c5,c6,c7,c8,c9,c10,c11,c12,c13,c14,.msl hd o n cp sz,c18]=true:=by
   simp only[PV.lows,Q5] at hall ⊢;obtain⟨a0,a1,a2,a3,a4,a5,a6,a7,a8,a9,a10,a11,a12,a13,a14,a15,a16,a17,a18,-⟩:=hall;exact⟨a0,a1,a2,a3,a4,a5,a6,a7,a8,a9,a10,a11,a12,a13,a14,a17,a18,trivial⟩
  have g1:∀x:MO,(σ++[x])[h]?=some (.cells [c0,c1,c2,c3,c4,c5,c6,c7,c8,c9,c10,c11,c12,c13,c14,c15,c16,.msl hd o n cp sz,c18] T):=fun x=>by rw[Q6 hlt];exact g0
  have g2:∀x y:MO,(σ++[x]++[y])[h]?=some (.cells [c0,c1,c2,c3,c4,c5,c6,c7,c8,c9,c10,c11,c12,c13,c14,c15,c16,.msl hd o n cp sz,c18] T):=fun x y=>by rw[Q6 (by simp;omega)];exact g1 x
  have g3:∀(x c:MO),((σ++[x]).set h c)[h]?=some c:=fun x c=>Qn (by simp;omega)
  have g4:∀(x y c:MO),((σ++[x]++[y]).set h c)[h]?=some c:=fun x y c=>Qn (by simp;omega)
  have g5:∀(x y c:MO),((σ++[x]).set h c++[y])[h]?=some c:=fun x y c=>by rw[Q6 (by simp;omega)];exact g3 x c
  have s1:∀(x y c d:MO),((σ++[x]++[y]).set h c).set h d=σ.set h d++[x,y]:=fun x y c d=>by rw[List.set_set,Qp,Q7 _ _ hlt];rfl
  have s2:∀(x y c d:MO),((σ++[x]).set h c++[y]).set h d=σ.set h d++[x,y]:=fun x y c d=>by
   rw[Q7 _ _ hlt,Qp,Q7 _ _ (by simpa using hlt),List.set_set];rfl
  refine CtD.one (CtD.swap (l2:=[c0,c1,c2,c3,c4,c5,c6,c7,c8,c9,c10,c11,c12,c13,c14,.msl (σ.length+1) 0 n n 6,.msl σ.length 0 n n 1,.msl hd o n cp sz,c18]) (d0X.dm Φ hΦ 1 _ _ (fun r' σ'=>r'=.tup []/\(_\/_)) ⟨([],[],[.ref h 0]),rfl,?_⟩) g0 hlow (d2z _ _) (d2Q _ _) rfl (fun s B B' vs q1 q2 q3 q4=>c9V hall' q1 q2 q3 q4) ?_ (fun _ _ hq=>hq))
  ·show PT.wp _ a5W _ _
   unfold a5W
   repeat' first
    | refine a3V rfl rfl ?_
    | refine d2h ?_ ?_
    | ((refine d1D rfl (d2E (by dsimp only;first|exact g0|exact g1 _) rfl) rfl ?_);(dsimp only[PEnv.push,Q8,Q9,Qa,a3f,Qb,Qd,Qe,IE.pe,BE.pe,Nat.reduceAdd];try simp only[Qf,Qg,Qh,Qj,Q2]))
    | (refine d3M rfl rfl hn (by decide) ?_;(dsimp only[PEnv.push,Q8,Q9,Qa,a3f,Qb,Qd,Qe,IE.pe,BE.pe,Nat.reduceAdd];try simp only[Qf,Qg,Qh,Qj,Q2]))
    | ((refine d3m rfl (by dsimp only;first|exact g0|exact g1 _|exact g2 _ _|exact g3 _ _|exact g4 _ _ _|exact g5 _ _ _) rfl (by simp[]) ?_);(dsimp only[PEnv.push,Q8,Q9,Qa,a3f,Qb,Qd,Qe,IE.pe,BE.pe,Nat.reduceAdd];try simp only[Qf,Qg,Qh,Qj,Q2]))
    | (refine d1P rfl ⟨rfl,?_⟩)
   all_goals simp only[s1,s2]
   all_goals first|exact .inl rfl|exact .inr rfl
  ·have:=PV.lows_mono (show σ.length<=σ.length+2 by omega) _ hall'
   simp only[PV.lows,Q5,PV.low,decide_eq_true_eq] at this ⊢;obtain⟨a0,a1,a2,a3,a4,a5,a6,a7,a8,a9,a10,a11,a12,a13,a14,a15,a16,-⟩:=this;exact⟨a0,a1,a2,a3,a4,a5,a6,a7,a8,a9,a10,a11,a12,a13,a14,by omega,by omega,a15,a16,trivial⟩
def a3a:Sx.Sys:=c5S
theorem b5W:SysOk Tryz.prog 31 a3a:=c7M
def d2J:List (Nat×Sx.Sys):=[(3,a1U),(7,a3y),(9,b1m),(10,a4g),(11,a0P),(14,a3Q),(15,a4i),(16,a4t),(17,a3u),(18,a0t),(19,a1n),(20,a3T),(23,a5l),(24,a8S),(25,a5X),(26,a1q),(27,a5H),(28,a9z),(29,a4p),(30,a9y),(31,a3a),(32,a3v),(33,a1l),(34,a1z),(35,a0J),(43,a0A),(44,a1F),(45,a1g),(46,a3N),(51,a2G),(52,a4e),(53,a4H),(54,b0A),(55,a5a),(56,a8W),(57,a1y),(58,a8R),(59,a4x),(60,b0Q),(61,a8X),(62,a3C),(63,a2J),(64,a3d),(65,a1k),(66,a1b),(67,a1R),(68,a1Z),(69,a2N),(70,a2j),(76,a1x),(77,a3i),(78,a1v),(79,b0d),(80,b0Y),(81,a9v),(82,a4j),(83,a3O),(84,a3S),(85,a6Y),(86,a8M),(87,a5T),(88,a8Q),(89,a3q),(90,b4M),(91,a5G),(92,a6F),(93,b2W),(94,b1C),(95,a5Q),(96,a6H),(97,a6W),(98,a2A),(99,a4J),(100,a6R),(101,a2S),(113,a3g),(114,a1O),(115,b0L),(116,b0D),(117,b0q),(118,b0j),(119,a3R),(120,a4F),(121,a9B),(122,a4N),(123,b1j),(124,a6P),(125,a4y),(126,a9t),(128,a3A),(129,a5n),(130,b1H),(131,a5S),(132,a8V),(133,a9L),(134,a5U),(135,a0n),(136,b5q),(137,a9x),(138,a6v),(139,a9G),(140,a6f),(141,a0q)]
def Tab(f:Nat):Option Sx.Sys:=b0t f d2J
theorem c9u:∀f S,Tab f=some S->SysOk Tryz.prog f S:=by
 intro f S h;have h:=b2G h;simp only[d2J,List.mem_cons,Q0,List.not_mem_nil,or_false] at h;rcases h with h|h|h|h|h|h|h|h|h|h|h|h|h|h|h|h|h|h|h|h|h|h|h|h|h|h|h|h|h|h|h|h|h|h|h|h|h|h|h|h|h|h|h|h|h|h|h|h|h|h|h|h|h|h|h|h|h|h|h|h|h|h|h|h|h|h|h|h|h|h|h|h|h|h|h|h|h|h|h|h|h|h|h|h|h|h|h|h|h|h|h|h|h|h|h|h|h|h|h|h|h|h|h
 all_goals obtain⟨rfl,rfl⟩:=h
 ·exact b1U
 ·exact b5D
 ·exact c6s
 ·exact b7M
 ·exact b5i
 ·exact b6B
 ·exact b7E
 ·exact b8T
 ·exact b5r
 ·exact b4T
 ·exact b8D
 ·exact b6K
 ·exact b6I
 ·exact b9K
 ·exact b7B
 ·exact b5G
 ·exact b7U
 ·exact c4e
 ·exact b8V
 ·exact c3x
 ·exact b5W
 ·exact b4Q
 ·exact b6o
 ·exact b3x
 ·exact b0r
 ·exact b4V
 ·exact b4H
 ·exact b2d
 ·exact b6b
 ·exact b1T
 ·exact b8b
 ·exact b9r
 ·exact c1G
 ·exact b5d
 ·exact b9C
 ·exact c0L
 ·exact b9g
 ·exact b3O
 ·exact c3i
 ·exact b9W
 ·exact b1t
 ·exact c1K
 ·exact c3m
 ·exact b9k
 ·exact b8h
 ·exact a5o
 ·exact a5Y
 ·exact a9P
 ·exact a6m
 ·exact b3y
 ·exact b3v
 ·exact b6q
 ·exact c1W
 ·exact c2Z
 ·exact c3D
 ·exact b3b
 ·exact b1D
 ·exact b1J
 ·exact c3r
 ·exact b9V
 ·exact b7l
 ·exact b9X
 ·exact a5I
 ·exact c6x
 ·exact b7K
 ·exact b8F
 ·exact c4V
 ·exact c3B
 ·exact b7I
 ·exact b8J
 ·exact c2I
 ·exact c2v
 ·exact b9U
 ·exact c2N
 ·exact c3H
 ·exact b3T
 ·exact b7G
 ·exact c3u
 ·exact c1p
 ·exact c1Q
 ·exact c1r
 ·exact b1O
 ·exact b3H
 ·exact c0D
 ·exact b5w
 ·exact c2Q
 ·exact c3j
 ·exact c5L
 ·exact c3M
 ·exact b4S
 ·exact b6e
 ·exact c3R
 ·exact b7m
 ·exact b9I
 ·exact c0U
 ·exact b7V
 ·exact b8N
 ·exact c6r
 ·exact c3W
 ·exact b8S
 ·exact c0P
 ·exact c1A
 ·exact c0G
abbrev a3M:Nat:=3
abbrev a9V:Nat:=7
abbrev a9i:Nat:=9
abbrev a4f:Nat:=10
abbrev a4V:Nat:=11
abbrev b0n:Nat:=14
abbrev b0J:Nat:=15
abbrev b1z:Nat:=16
abbrev a4W:Nat:=17
abbrev a4U:Nat:=18
abbrev b1u:Nat:=19
abbrev b0a:Nat:=20
abbrev c7I:Nat:=23
abbrev d0e:Nat:=24
abbrev c8P:Nat:=25
abbrev a4X:Nat:=26
abbrev c8M:Nat:=27
abbrev b1I:Nat:=28
abbrev a6I:Nat:=29
abbrev b8w:Nat:=30
abbrev a5M:Nat:=31
abbrev a9X:Nat:=32
abbrev b0x:Nat:=33
abbrev a9g:Nat:=34
abbrev a2V:Nat:=35
abbrev a9S:Nat:=43
abbrev a9Q:Nat:=44
abbrev a6E:Nat:=45
abbrev a2d:Nat:=46
abbrev a6a:Nat:=51
abbrev b0I:Nat:=52
abbrev b1Z:Nat:=53
abbrev d1u:Nat:=54
abbrev c7w:Nat:=55
abbrev d0c:Nat:=56
abbrev b2Y:Nat:=57
abbrev d0f:Nat:=58
abbrev c6Y:Nat:=59
abbrev d2e:Nat:=60
abbrev d0a:Nat:=61
abbrev c4K:Nat:=62
abbrev b4n:Nat:=63
abbrev b6s:Nat:=64
abbrev b1W:Nat:=65
abbrev b0G:Nat:=66
abbrev b8Q:Nat:=67
abbrev b9i:Nat:=68
abbrev c2y:Nat:=69
abbrev c0t:Nat:=70
abbrev a9l:Nat:=76
abbrev a9e:Nat:=77
abbrev b0h:Nat:=78
abbrev d1f:Nat:=79
abbrev d1Z:Nat:=80
abbrev b8v:Nat:=81
abbrev c6A:Nat:=82
abbrev c5g:Nat:=83
abbrev c5i:Nat:=84
abbrev b5T:Nat:=85
abbrev d0b:Nat:=86
abbrev c8L:Nat:=87
abbrev d0d:Nat:=88
abbrev b9z:Nat:=89
abbrev d2Y:Nat:=90
abbrev c8K:Nat:=91
abbrev c8Q:Nat:=92
abbrev d2M:Nat:=93
abbrev d2k:Nat:=94
abbrev c8O:Nat:=95
abbrev c9E:Nat:=96
abbrev b0O:Nat:=97
abbrev b6A:Nat:=98
abbrev b1X:Nat:=99
abbrev b5U:Nat:=100
abbrev b8t:Nat:=101
abbrev a3j:Nat:=113
abbrev b0H:Nat:=114
abbrev d1M:Nat:=115
abbrev d1q:Nat:=116
abbrev d1j:Nat:=117
abbrev d1e:Nat:=118
abbrev c5j:Nat:=119
abbrev c6U:Nat:=120
abbrev d0o:Nat:=121
abbrev c7e:Nat:=122
abbrev d1R:Nat:=123
abbrev b0K:Nat:=124
abbrev c1g:Nat:=125
abbrev a3B:Nat:=126
abbrev a9Y:Nat:=128
abbrev c8t:Nat:=129
abbrev d2l:Nat:=130
abbrev c8N:Nat:=131
abbrev d0g:Nat:=132
abbrev d0F:Nat:=133
abbrev c8J:Nat:=134
abbrev c8R:Nat:=135
abbrev d2X:Nat:=136
abbrev b8r:Nat:=137
abbrev c9w:Nat:=138
abbrev d0y:Nat:=139
abbrev b4m:Nat:=140
abbrev b2U:Nat:=141
abbrev a0T:Nat:=8
theorem b1s:Tab 3=some a1U:=by kernel_rfl
theorem b3C:Tab 7=some a3y:=by kernel_rfl
theorem b8s:Tab 9=some b1m:=by kernel_rfl
theorem a9T:Tab 10=some a4g:=by kernel_rfl
theorem b4d:Tab 11=some a0P:=by kernel_rfl
theorem b4W:Tab 14=some a3Q:=by kernel_rfl
theorem b5P:Tab 15=some a4i:=by kernel_rfl
theorem b7k:Tab 16=some a4t:=by kernel_rfl
theorem b3F:Tab 17=some a3u:=by kernel_rfl
theorem b4c:Tab 18=some a0t:=by kernel_rfl
theorem b6Y:Tab 19=some a1n:=by kernel_rfl
theorem b4Y:Tab 20=some a3T:=by kernel_rfl
theorem b3V:Tab 26=some a1q:=by kernel_rfl
theorem c3p:Tab 28=some a9z:=by kernel_rfl
theorem b7N:Tab 29=some a4p:=by kernel_rfl
theorem c3q:Tab 30=some a9y:=by kernel_rfl
theorem b6M:Tab 31=some a3a:=by kernel_rfl
theorem b3D:Tab 32=some a3v:=by kernel_rfl
theorem b5s:Tab 33=some a1l:=by kernel_rfl
theorem b2Q:Tab 34=some a1z:=by kernel_rfl
theorem a9Z:Tab 35=some a0J:=by kernel_rfl
theorem b3J:Tab 43=some a0A:=by kernel_rfl
theorem b3Z:Tab 44=some a1F:=by kernel_rfl
theorem b1P:Tab 45=some a1g:=by kernel_rfl
theorem b5z:Tab 46=some a3N:=by kernel_rfl
theorem b1y:Tab 51=some a2G:=by kernel_rfl
theorem b6d:Tab 52=some a4e:=by kernel_rfl
theorem b8M:Tab 53=some a4H:=by kernel_rfl
theorem b9N:Tab 57=some a1y:=by kernel_rfl
theorem c0x:Tab 63=some a2J:=by kernel_rfl
theorem c2h:Tab 64=some a3d:=by kernel_rfl
theorem b8O:Tab 65=some a1k:=by kernel_rfl
theorem b6v:Tab 66=some a1b:=by kernel_rfl
theorem a5z:Tab 67=some a1R:=by kernel_rfl
theorem a5L:Tab 68=some a1Z:=by kernel_rfl
theorem a9C:Tab 69=some a2N:=by kernel_rfl
theorem a6l:Tab 70=some a2j:=by kernel_rfl
theorem b3g:Tab 76=some a1x:=by kernel_rfl
theorem b3e:Tab 77=some a3i:=by kernel_rfl
theorem b4P:Tab 78=some a1v:=by kernel_rfl
theorem c2A:Tab 81=some a9v:=by kernel_rfl
theorem c1m:Tab 85=some a6Y:=by kernel_rfl
theorem c2k:Tab 97=some a6W:=by kernel_rfl
theorem c2e:Tab 98=some a2A:=by kernel_rfl
theorem b8H:Tab 99=some a4J:=by kernel_rfl
theorem c2c:Tab 100=some a6R:=by kernel_rfl
theorem c2w:Tab 101=some a2S:=by kernel_rfl
theorem b2L:Tab 113=some a3g:=by kernel_rfl
theorem b6a:Tab 114=some a1O:=by kernel_rfl
theorem c1M:Tab 124=some a6P:=by kernel_rfl
theorem c4Y:Tab 125=some a4y:=by kernel_rfl
theorem c2P:Tab 126=some a9t:=by kernel_rfl
theorem b3S:Tab 128=some a3A:=by kernel_rfl
theorem c2x:Tab 137=some a9x:=by kernel_rfl
theorem c0N:Tab 140=some a6f:=by kernel_rfl
theorem b9F:Tab 141=some a0q:=by kernel_rfl
end Go.Proofs.YtmekflfjaflmkaaGreat
