/- The trees of this seat's functions, part 0. Written by txgen.py. -/
import Derived.Test.YtmekflfjaflmkaaHTxd
import Derived.Shelf.RegionOpenPlain
import Derived.WalkKit
import Derived.Deep.LoopGhost
import Derived.Deep.RegionLaw
import Derived.Lib.Walk
import Derived.Sort.WalkB12
import Derived.Lib.SliceRun
set_option linter.unusedSimpArgs false
set_option linter.unusedVariables false
set_option linter.unusedSectionVars false
open Go.Sx.PT renaming need → nD, jump → jU, load → lO, call → cA
open Prod.mk renaming injEq → Q0
open Option.some renaming injEq → Q1
open Nat renaming zero_add → Q2, le_refl → Q4
open List renaming replicate → Q3, getElem?_append_left → Q6, set_append_left → Q7, cons_append → Q8, nil_append → Q9, append_nil → Qa, take → Qb, drop → Qd, length → Qe, length_set → Qf, length_append → Qg, length_cons → Qh, length_nil → Qj, replicate_succ → Qk, flatten_cons → Qm, getElem?_set_self → Qn, append_assoc → Qp
open Bool renaming and_eq_true → Q5
set_option maxRecDepth 100000
namespace Go.Proofs.Ytmekflfjaflmkaa
open Go.Sx
def a6U:PT :=
 (nD (.is 4 0)
 (.ite (.nil 0)
 (.ret false (.agg [(jE 0),(jE 0),(jE 0),(jE 0),(jE 0),(jE 0)]) [])
 (nD (.is 1 0)
 (lO false (.pa 0 9) [jD,jD,jD,jD,jD,jD]
 (.ret false (.agg [(jA 0),(jA 1),(jA 2),(jA 3),(jA 4),(jA 5)]) [])))))
def a4T:Sx.Sys:=⟨[(.sh (.one .val))],a6U,[],none,none⟩
def b4o:List Cfg:=[]
theorem b6c:SysOk Try.prog 12 a4T:=a0s (c:=(cg [] [] [] true false false true)) (a0o _ _ _ _ _ _ _ _ _) Try.func12 Try.call12 (by kernel_rfl) b4o a4T 5000 rfl (by kernel_rfl) (by kernel_rfl) rfl
def d8U:PT :=
 (.ite (.eq (.a 0) (.l 0))
 (cA 11 [(.va 0),(jA 1),(.agg [(jA 3),(jA 4),(jA 5),(jA 6),(jA 7),(jA 8)])] [] [(.one jD)]
 (.ret true (.tup [(.bool (.t false)),(jA 9)]) []))
 (.ite (.eq (.a 0) (.l 1))
  (cA 13 [(.va 0)] [] [(.one .bool),(.one jD)]
  (.ret true (.tup [(.bool (.a 0)),(jA 9)]) []))
  (.ite (.eq (.a 0) (.l 2))
  (cA 46 [(.va 0)] [] [(.one jD)]
  (.ret true (.tup [(.bool (.t false)),(jA 9)]) []))
  (.ite (.eq (.a 0) (.l 3))
   (cA 47 [(.va 0),(jA 1)] [] [(.one jD)]
   (.ret true (.tup [(.bool (.t false)),(jA 9)]) []))
   (cA 17 [(.va 0),(jA 2)] [] [(.one jD)]
   (.ret true (.tup [(.bool (.t false)),(jA 9)]) []))))))
def d9d:Sx.Sys:=⟨[(.sh (.one .val)),(.sh (.agg [jD,jD,jD,jD,jD,jD,jD,jD,jD]))],d8U,[],none,none⟩
def d9G:List Cfg:=[]
theorem d9X:SysOk Try.prog 20 d9d:=a0s (c:=(cg [] [] [] true true false true)) (a0o _ _ _ _ _ _ _ _ _) Try.func20 Try.call20 (by kernel_rfl) d9G d9d 5000 rfl (by kernel_rfl) (by kernel_rfl) rfl
def b2D:PT :=
 (cA 58 [(.va 0)] [] [(.one .val)]
 (cA 59 [(.va 1)] [] [(.one .val)]
 (cA 60 [(.va 2)] [] [(.one .val)]
 (cA 61 [(.va 3)] [] [(.one .val)]
 (.ret false (.agg [(.va 4),(.va 5),(.va 6),(.va 7)]) [])))))
def b0f:Sx.Sys:=⟨[(.sh (.agg [.val,.val,.val,.val]))],b2D,[],none,none⟩
def c1R:List Cfg:=[]
theorem c4i:SysOk Try.prog 28 b0f:=a0s (c:=(cg [] [] [] false false false true)) (a0o _ _ _ _ _ _ _ _ _) Try.func28 Try.call28 (by kernel_rfl) c1R b0f 5000 rfl (by kernel_rfl) (by kernel_rfl) rfl
def a5d:PT :=
 (nD (.is 0 0)
 (.mkM (.slen 0) [(jE 0),(jE 0),(jE 0),(jE 0),(jE 0),(jE 0)] 38 6 48
 (.copyM 1 0 6
 (.ret true (.va 1) []))))
def a3p:Sx.Sys:=⟨[(.sh (.one .val))],a5d,[],none,none⟩
def b1L:List Cfg:=[]
theorem b2N:SysOk Try.prog 36 a3p:=a0s (c:=(cg [] [] [] true true false true)) (a0o _ _ _ _ _ _ _ _ _) Try.func36 Try.call36 (by kernel_rfl) b1L a3p 5000 rfl (by kernel_rfl) (by kernel_rfl) rfl
def d9j:PT :=
 (nD (.is 0 1)
 (nD (.is 0 0)
 (.ite (.not (.eq (.slen 1) (.slen 0)))
 rF
 (nD (.is 0 0)
 (jU 0 [(.slen 0),(.l 0)] [] [(.va 0),(.va 1)])))))
def d9h:PT :=
 (.ite (.lt (.a 1) (.a 0))
 (nD (treeI (.a 1) (.slen 0))
 (lO false (.ea 0 (.a 1) 12 0) [jD,jD,jD,jD,jD,jD,jD,jD,jD,jD,jD,jD]
 (nD (treeI (.a 1) (.slen 1))
 (lO true (.ea 1 (.a 1) 1 0) [jD]
 (cA 50 [(.agg [(jA 2),(jA 3),(jA 4),(jA 5),(jA 6),(jA 7)]),(.agg [(jA 8),(jA 9),(jA 10),(jA 11),(jA 12),(jA 13)])] [] [(.one jD)]
 (.ite (.lt (.a 14) (.a 15))
  rF
  (.ite (.and (.eq (.a 8) (.l 0)) (.and (.eq (.a 9) (.l 0)) (.and (.eq (.a 10) (.l 0)) (.and (.eq (.a 11) (.l 0)) (.and (.eq (.a 12) (.l 0)) (.eq (.a 13) (.l 0)))))))
  (nD (treeI (.a 1) (.slen 1))
  (lO true (.ea 1 (.a 1) 1 0) [jD]
  (.ite (.not (.eq (.a 16) (.l 0)))
   rF
   (nD (.is 0 0)
   (jU 1 [(.a 1),(.a 0),(.a 8),(.a 9),(.a 10),(.a 11),(.a 12),(.a 13),(.slen 0),(.l 0),(.a 2),(.a 3),(.a 4),(.a 5),(.a 6),(.a 7)] [(.and (.eq (.a 8) (.l 0)) (.and (.eq (.a 9) (.l 0)) (.and (.eq (.a 10) (.l 0)) (.and (.eq (.a 11) (.l 0)) (.and (.eq (.a 12) (.l 0)) (.eq (.a 13) (.l 0))))))),(.t true),(.not (.eq (.a 16) (.l 0)))] [(.va 0),(.va 1)])))))
  (nD (.is 0 0)
  (jU 1 [(.a 1),(.a 0),(.a 8),(.a 9),(.a 10),(.a 11),(.a 12),(.a 13),(.slen 0),(.l 0),(.a 2),(.a 3),(.a 4),(.a 5),(.a 6),(.a 7)] [(.and (.eq (.a 8) (.l 0)) (.and (.eq (.a 9) (.l 0)) (.and (.eq (.a 10) (.l 0)) (.and (.eq (.a 11) (.l 0)) (.and (.eq (.a 12) (.l 0)) (.eq (.a 13) (.l 0))))))),(.t false),(.t false)] [(.va 0),(.va 1)])))))))))
 (.ret false (.bool (.t true)) []))
def d9g:PT :=
 (.ite (.lt (.a 9) (.a 8))
 (nD (treeI (.a 9) (.slen 0))
 (lO false (.ea 0 (.a 9) 12 0) [jD,jD,jD,jD,jD,jD,jD,jD,jD,jD,jD,jD]
 (nD (treeI (.a 9) (.slen 1))
 (nD (treeI (.a 0) (.slen 1))
 (lO true (.ea 1 (.a 9) 1 0) [jD]
 (lO true (.ea 1 (.a 0) 1 0) [jD]
 (nD (treeB (.sub (.a 28) (.a 29)))
 (cA 53 [(.agg [(jA 10),(jA 11),(jA 12),(jA 13),(jA 14),(jA 15),(jA 2),(jA 3),(jA 4),(jA 5),(jA 6),(jA 7)]),(.agg [(jA 16),(jA 17),(jA 18),(jA 19),(jA 20),(jA 21),(jA 22),(jA 23),(jA 24),(jA 25),(jA 26),(jA 27)])] [] [(.one jD)]
 (.ite (.lt (.a 30) (.sub (.a 28) (.a 29)))
  rF
  (nD (treeB (jP 9))
  (jU 1 [(.a 0),(.a 1),(.a 2),(.a 3),(.a 4),(.a 5),(.a 6),(.a 7),(.a 8),(jP 9),(.a 10),(.a 11),(.a 12),(.a 13),(.a 14),(.a 15)] [(.a 0),(.a 1),(.a 2)] [(.va 0),(.va 1)])))))))))))
 (nD (treeB (jP 0))
 (jU 0 [(.a 1),(jP 0)] [] [(.va 0),(.va 1)])))
def d8T:Sx.Sys:=⟨[(.sh (.one .val)),(.sh (.one .val))],d9j,[d9h,d9g],none,none⟩
def d9E:List Cfg:=[{todo:=[(.code (tfR 6 52)),(.inLoop (tfR 6 52)),(.inBlock 0),(.code [true,true,true])],sl:=[(.va 0),(.va 1),.undef,.undef]++jkR 0 10++[(.va 0),(jA 0),(jA 1)]++jkR 10 49,H:=[],ni:=2,nb:=0,nv:=2,nj:=59},
 {todo:=[(.code (tfR 15 27036)),(.inLoop (tfR 15 27036)),(.inBlock 2),(.inBlock 1),(.code (tfR 9 423)),(.inLoop (tfR 6 52)),(.inBlock 0),(.code [true,true,true])],sl:=[(.va 0),(.va 1),.undef,.undef,(.junk 0),(jA 0),(.ptr 0 0)]++jkR 1 7++[(.va 0),(jA 1),(jA 0)]++jkR 8 15++[(.ptr 0 6),(.agg [(jA 2),(jA 3),(jA 4),(jA 5),(jA 6),(jA 7)]),(.agg [(jE 0),(jE 0),(jE 0),(jE 0),(jE 0),(jE 0)]),(.bool (.a 0)),(.bool (.a 1))]++jkR 23 5++[(.bool (.a 2)),(.junk 28),(.va 0),(jA 8),(jA 9)]++jkR 29 19,H:=[(.cells [(jA 10),(jA 11),(jA 12),(jA 13),(jA 14),(jA 15),(jA 2),(jA 3),(jA 4),(jA 5),(jA 6),(jA 7)] 75 false)],ni:=16,nb:=3,nv:=2,nj:=48}]
theorem d9L:SysOk Try.prog 52 d8T:=a0s (c:=(cg [(tfR 6 52),(tfR 15 27036)] [] [] false false false true)) (a0o _ _ _ _ _ _ _ _ _) Try.func52 Try.call52 (by kernel_rfl) d9E d8T 5000 rfl (by kernel_rfl) (by kernel_rfl) rfl
def a1o:PT :=
 (nD (.is 0 0)
 (.ite (.nil 0)
 (.ret false .nilS [])
 (.app none (.lit []) 3
 (.app (some 1) (.va 0) 3
 (.ret false (.va 2) [])))))
def a5Z:Sx.Sys:=⟨[(.sh (.one .val))],a1o,[],none,none⟩
def a9W:List Cfg:=[]
def a9F:PT :=
 (nD (.is 0 0)
 (.ite (.lt (.l 0) (.slen 0))
 (nD (.is 0 0)
 (nD (treeB (.sub (.slen 0) (.l 1)))
 (nD (treeI (.sub (.slen 0) (.l 1)) (.slen 0))
 (lO false (.ea 0 (.sub (.slen 0) (.l 1)) 12 6) [jD,jD,jD,jD,jD,jD]
 (.ret false (.bool (.and (.eq (.a 0) (.l 0)) (.and (.eq (.a 1) (.l 0)) (.and (.eq (.a 2) (.l 0)) (.and (.eq (.a 3) (.l 0)) (.and (.eq (.a 4) (.l 0)) (.eq (.a 5) (.l 0)))))))) [])))))
 rF))
def a6z:Sx.Sys:=⟨[(.sh (.one .val))],a9F,[],none,none⟩
def b7E:List Cfg:=[]
theorem b8Q:SysOk Try.prog 68 a6z:=a0s (c:=(cg [] [] [] false false false true)) (a0o _ _ _ _ _ _ _ _ _) Try.func68 Try.call68 (by kernel_rfl) b7E a6z 5000 rfl (by kernel_rfl) (by kernel_rfl) rfl
def a8v:PT :=
 (cA 91 [(jA 0)] [] [(.one jD)]
 (.ite (.not (.eq (.a 6) (.l 0)))
 rF
 (cA 91 [(jA 1)] [] [(.one jD)]
 (.ite (.not (.eq (.a 7) (.l 0)))
  rF
  (cA 91 [(jA 2)] [] [(.one jD)]
  (.ite (.not (.eq (.a 8) (.l 0)))
  rF
  (cA 91 [(jA 3)] [] [(.one jD)]
  (.ite (.not (.eq (.a 9) (.l 0)))
   rF
   (cA 91 [(jA 4)] [] [(.one jD)]
   (.ite (.not (.eq (.a 10) (.l 0)))
   rF
   (cA 91 [(jA 5)] [] [(.one jD)]
   (.ite (.not (.eq (.a 11) (.l 0)))
    rF
    (.ret false (.bool (.t true)) [])))))))))))))
def a5U:Sx.Sys:=⟨[(.sh (.agg [jD,jD,jD,jD,jD,jD]))],a8v,[],none,none⟩
def b6g:List Cfg:=[]
theorem b8G:SysOk Try.prog 76 a5U:=a0s (c:=(cg [] [] [] false false false true)) (a0o _ _ _ _ _ _ _ _ _) Try.func76 Try.call76 (by kernel_rfl) b6g a5U 5000 rfl (by kernel_rfl) (by kernel_rfl) rfl
def b1y:PT :=
 (cA 35 [(.va 0)] [] [(.agg [jD,jD,jD,jD,jD,jD])]
 (nD (.is 0 3)
 (jU 0 [(.slen 3),(.l 0),(.a 0),(.a 1),(.a 2),(.a 3),(.a 4),(.a 5),(.l 0),(.l 0),(.l 0),(.l 0),(.l 0),(.l 0)] [] [(.va 3),(.va 0),(.va 1),(.va 2)])))
def a5Q:PT :=
 (.ite (.lt (.a 1) (.a 0))
 (nD (treeI (.a 1) (.slen 0))
 (lO false (.ea 0 (.a 1) 3 0) [jD,jD,jD]
 (.ite (.eq (.a 14) (.l 5))
  (nD (treeB (.sub (.a 7) (.a 16)))
  (.ite (.eq (.a 14) (.l 5))
  (nD (treeB (jP 1))
  (jU 0 [(.a 0),(jP 1),(.a 2),(.a 3),(.a 4),(.a 5),(.a 6),(.sub (.a 7) (.a 16)),(.a 8),(.a 9),(.a 10),(.a 11),(.a 12),(.a 15)] [] [(.va 0),(.va 1),(.va 2),(.va 3)]))
  (.ite (.eq (.a 14) (.l 4))
   (nD (treeB (jP 1))
   (jU 0 [(.a 0),(jP 1),(.a 2),(.a 3),(.a 4),(.a 5),(.a 6),(.sub (.a 7) (.a 16)),(.a 8),(.a 9),(.a 10),(.a 11),(.a 15),(.a 13)] [] [(.va 0),(.va 1),(.va 2),(.va 3)]))
   (.ite (.eq (.a 14) (.l 3))
   (nD (treeB (jP 1))
   (jU 0 [(.a 0),(jP 1),(.a 2),(.a 3),(.a 4),(.a 5),(.a 6),(.sub (.a 7) (.a 16)),(.a 8),(.a 9),(.a 10),(.a 15),(.a 12),(.a 13)] [] [(.va 0),(.va 1),(.va 2),(.va 3)]))
   (.ite (.eq (.a 14) (.l 2))
    (nD (treeB (jP 1))
    (jU 0 [(.a 0),(jP 1),(.a 2),(.a 3),(.a 4),(.a 5),(.a 6),(.sub (.a 7) (.a 16)),(.a 8),(.a 9),(.a 15),(.a 11),(.a 12),(.a 13)] [] [(.va 0),(.va 1),(.va 2),(.va 3)]))
    (.ite (.eq (.a 14) (.l 1))
    (nD (treeB (jP 1))
    (jU 0 [(.a 0),(jP 1),(.a 2),(.a 3),(.a 4),(.a 5),(.a 6),(.sub (.a 7) (.a 16)),(.a 8),(.a 15),(.a 10),(.a 11),(.a 12),(.a 13)] [] [(.va 0),(.va 1),(.va 2),(.va 3)]))
    (.ite (.eq (.a 14) (.l 0))
     (nD (treeB (jP 1))
     (jU 0 [(.a 0),(jP 1),(.a 2),(.a 3),(.a 4),(.a 5),(.a 6),(.sub (.a 7) (.a 16)),(.a 15),(.a 9),(.a 10),(.a 11),(.a 12),(.a 13)] [] [(.va 0),(.va 1),(.va 2),(.va 3)]))
     .stuck)))))))
  (.ite (.eq (.a 14) (.l 4))
  (nD (treeB (.sub (.a 6) (.a 16)))
  (.ite (.eq (.a 14) (.l 5))
   (nD (treeB (jP 1))
   (jU 0 [(.a 0),(jP 1),(.a 2),(.a 3),(.a 4),(.a 5),(.sub (.a 6) (.a 16)),(.a 7),(.a 8),(.a 9),(.a 10),(.a 11),(.a 12),(.a 15)] [] [(.va 0),(.va 1),(.va 2),(.va 3)]))
   (.ite (.eq (.a 14) (.l 4))
   (nD (treeB (jP 1))
   (jU 0 [(.a 0),(jP 1),(.a 2),(.a 3),(.a 4),(.a 5),(.sub (.a 6) (.a 16)),(.a 7),(.a 8),(.a 9),(.a 10),(.a 11),(.a 15),(.a 13)] [] [(.va 0),(.va 1),(.va 2),(.va 3)]))
   (.ite (.eq (.a 14) (.l 3))
    (nD (treeB (jP 1))
    (jU 0 [(.a 0),(jP 1),(.a 2),(.a 3),(.a 4),(.a 5),(.sub (.a 6) (.a 16)),(.a 7),(.a 8),(.a 9),(.a 10),(.a 15),(.a 12),(.a 13)] [] [(.va 0),(.va 1),(.va 2),(.va 3)]))
    (.ite (.eq (.a 14) (.l 2))
    (nD (treeB (jP 1))
    (jU 0 [(.a 0),(jP 1),(.a 2),(.a 3),(.a 4),(.a 5),(.sub (.a 6) (.a 16)),(.a 7),(.a 8),(.a 9),(.a 15),(.a 11),(.a 12),(.a 13)] [] [(.va 0),(.va 1),(.va 2),(.va 3)]))
    (.ite (.eq (.a 14) (.l 1))
     (nD (treeB (jP 1))
     (jU 0 [(.a 0),(jP 1),(.a 2),(.a 3),(.a 4),(.a 5),(.sub (.a 6) (.a 16)),(.a 7),(.a 8),(.a 15),(.a 10),(.a 11),(.a 12),(.a 13)] [] [(.va 0),(.va 1),(.va 2),(.va 3)]))
     (.ite (.eq (.a 14) (.l 0))
     (nD (treeB (jP 1))
     (jU 0 [(.a 0),(jP 1),(.a 2),(.a 3),(.a 4),(.a 5),(.sub (.a 6) (.a 16)),(.a 7),(.a 15),(.a 9),(.a 10),(.a 11),(.a 12),(.a 13)] [] [(.va 0),(.va 1),(.va 2),(.va 3)]))
     .stuck)))))))
  (.ite (.eq (.a 14) (.l 3))
   (nD (treeB (.sub (.a 5) (.a 16)))
   (.ite (.eq (.a 14) (.l 5))
   (nD (treeB (jP 1))
   (jU 0 [(.a 0),(jP 1),(.a 2),(.a 3),(.a 4),(.sub (.a 5) (.a 16)),(.a 6),(.a 7),(.a 8),(.a 9),(.a 10),(.a 11),(.a 12),(.a 15)] [] [(.va 0),(.va 1),(.va 2),(.va 3)]))
   (.ite (.eq (.a 14) (.l 4))
    (nD (treeB (jP 1))
    (jU 0 [(.a 0),(jP 1),(.a 2),(.a 3),(.a 4),(.sub (.a 5) (.a 16)),(.a 6),(.a 7),(.a 8),(.a 9),(.a 10),(.a 11),(.a 15),(.a 13)] [] [(.va 0),(.va 1),(.va 2),(.va 3)]))
    (.ite (.eq (.a 14) (.l 3))
    (nD (treeB (jP 1))
    (jU 0 [(.a 0),(jP 1),(.a 2),(.a 3),(.a 4),(.sub (.a 5) (.a 16)),(.a 6),(.a 7),(.a 8),(.a 9),(.a 10),(.a 15),(.a 12),(.a 13)] [] [(.va 0),(.va 1),(.va 2),(.va 3)]))
    (.ite (.eq (.a 14) (.l 2))
     (nD (treeB (jP 1))
     (jU 0 [(.a 0),(jP 1),(.a 2),(.a 3),(.a 4),(.sub (.a 5) (.a 16)),(.a 6),(.a 7),(.a 8),(.a 9),(.a 15),(.a 11),(.a 12),(.a 13)] [] [(.va 0),(.va 1),(.va 2),(.va 3)]))
     (.ite (.eq (.a 14) (.l 1))
     (nD (treeB (jP 1))
     (jU 0 [(.a 0),(jP 1),(.a 2),(.a 3),(.a 4),(.sub (.a 5) (.a 16)),(.a 6),(.a 7),(.a 8),(.a 15),(.a 10),(.a 11),(.a 12),(.a 13)] [] [(.va 0),(.va 1),(.va 2),(.va 3)]))
     (.ite (.eq (.a 14) (.l 0))
      (nD (treeB (jP 1))
      (jU 0 [(.a 0),(jP 1),(.a 2),(.a 3),(.a 4),(.sub (.a 5) (.a 16)),(.a 6),(.a 7),(.a 15),(.a 9),(.a 10),(.a 11),(.a 12),(.a 13)] [] [(.va 0),(.va 1),(.va 2),(.va 3)]))
      .stuck)))))))
   (.ite (.eq (.a 14) (.l 2))
   (nD (treeB (.sub (.a 4) (.a 16)))
   (.ite (.eq (.a 14) (.l 5))
    (nD (treeB (jP 1))
    (jU 0 [(.a 0),(jP 1),(.a 2),(.a 3),(.sub (.a 4) (.a 16)),(.a 5),(.a 6),(.a 7),(.a 8),(.a 9),(.a 10),(.a 11),(.a 12),(.a 15)] [] [(.va 0),(.va 1),(.va 2),(.va 3)]))
    (.ite (.eq (.a 14) (.l 4))
    (nD (treeB (jP 1))
    (jU 0 [(.a 0),(jP 1),(.a 2),(.a 3),(.sub (.a 4) (.a 16)),(.a 5),(.a 6),(.a 7),(.a 8),(.a 9),(.a 10),(.a 11),(.a 15),(.a 13)] [] [(.va 0),(.va 1),(.va 2),(.va 3)]))
    (.ite (.eq (.a 14) (.l 3))
     (nD (treeB (jP 1))
     (jU 0 [(.a 0),(jP 1),(.a 2),(.a 3),(.sub (.a 4) (.a 16)),(.a 5),(.a 6),(.a 7),(.a 8),(.a 9),(.a 10),(.a 15),(.a 12),(.a 13)] [] [(.va 0),(.va 1),(.va 2),(.va 3)]))
     (.ite (.eq (.a 14) (.l 2))
     (nD (treeB (jP 1))
     (jU 0 [(.a 0),(jP 1),(.a 2),(.a 3),(.sub (.a 4) (.a 16)),(.a 5),(.a 6),(.a 7),(.a 8),(.a 9),(.a 15),(.a 11),(.a 12),(.a 13)] [] [(.va 0),(.va 1),(.va 2),(.va 3)]))
     (.ite (.eq (.a 14) (.l 1))
      (nD (treeB (jP 1))
      (jU 0 [(.a 0),(jP 1),(.a 2),(.a 3),(.sub (.a 4) (.a 16)),(.a 5),(.a 6),(.a 7),(.a 8),(.a 15),(.a 10),(.a 11),(.a 12),(.a 13)] [] [(.va 0),(.va 1),(.va 2),(.va 3)]))
      (.ite (.eq (.a 14) (.l 0))
      (nD (treeB (jP 1))
      (jU 0 [(.a 0),(jP 1),(.a 2),(.a 3),(.sub (.a 4) (.a 16)),(.a 5),(.a 6),(.a 7),(.a 15),(.a 9),(.a 10),(.a 11),(.a 12),(.a 13)] [] [(.va 0),(.va 1),(.va 2),(.va 3)]))
      .stuck)))))))
   (.ite (.eq (.a 14) (.l 1))
    (nD (treeB (.sub (.a 3) (.a 16)))
    (.ite (.eq (.a 14) (.l 5))
    (nD (treeB (jP 1))
    (jU 0 [(.a 0),(jP 1),(.a 2),(.sub (.a 3) (.a 16)),(.a 4),(.a 5),(.a 6),(.a 7),(.a 8),(.a 9),(.a 10),(.a 11),(.a 12),(.a 15)] [] [(.va 0),(.va 1),(.va 2),(.va 3)]))
    (.ite (.eq (.a 14) (.l 4))
     (nD (treeB (jP 1))
     (jU 0 [(.a 0),(jP 1),(.a 2),(.sub (.a 3) (.a 16)),(.a 4),(.a 5),(.a 6),(.a 7),(.a 8),(.a 9),(.a 10),(.a 11),(.a 15),(.a 13)] [] [(.va 0),(.va 1),(.va 2),(.va 3)]))
     (.ite (.eq (.a 14) (.l 3))
     (nD (treeB (jP 1))
     (jU 0 [(.a 0),(jP 1),(.a 2),(.sub (.a 3) (.a 16)),(.a 4),(.a 5),(.a 6),(.a 7),(.a 8),(.a 9),(.a 10),(.a 15),(.a 12),(.a 13)] [] [(.va 0),(.va 1),(.va 2),(.va 3)]))
     (.ite (.eq (.a 14) (.l 2))
      (nD (treeB (jP 1))
      (jU 0 [(.a 0),(jP 1),(.a 2),(.sub (.a 3) (.a 16)),(.a 4),(.a 5),(.a 6),(.a 7),(.a 8),(.a 9),(.a 15),(.a 11),(.a 12),(.a 13)] [] [(.va 0),(.va 1),(.va 2),(.va 3)]))
      (.ite (.eq (.a 14) (.l 1))
      (nD (treeB (jP 1))
      (jU 0 [(.a 0),(jP 1),(.a 2),(.sub (.a 3) (.a 16)),(.a 4),(.a 5),(.a 6),(.a 7),(.a 8),(.a 15),(.a 10),(.a 11),(.a 12),(.a 13)] [] [(.va 0),(.va 1),(.va 2),(.va 3)]))
      (.ite (.eq (.a 14) (.l 0))
       (nD (treeB (jP 1))
       (jU 0 [(.a 0),(jP 1),(.a 2),(.sub (.a 3) (.a 16)),(.a 4),(.a 5),(.a 6),(.a 7),(.a 15),(.a 9),(.a 10),(.a 11),(.a 12),(.a 13)] [] [(.va 0),(.va 1),(.va 2),(.va 3)]))
       .stuck)))))))
    (.ite (.eq (.a 14) (.l 0))
    (nD (treeB (.sub (.a 2) (.a 16)))
    (.ite (.eq (.a 14) (.l 5))
     (nD (treeB (jP 1))
     (jU 0 [(.a 0),(jP 1),(.sub (.a 2) (.a 16)),(.a 3),(.a 4),(.a 5),(.a 6),(.a 7),(.a 8),(.a 9),(.a 10),(.a 11),(.a 12),(.a 15)] [] [(.va 0),(.va 1),(.va 2),(.va 3)]))
     (.ite (.eq (.a 14) (.l 4))
     (nD (treeB (jP 1))
     (jU 0 [(.a 0),(jP 1),(.sub (.a 2) (.a 16)),(.a 3),(.a 4),(.a 5),(.a 6),(.a 7),(.a 8),(.a 9),(.a 10),(.a 11),(.a 15),(.a 13)] [] [(.va 0),(.va 1),(.va 2),(.va 3)]))
     (.ite (.eq (.a 14) (.l 3))
      (nD (treeB (jP 1))
      (jU 0 [(.a 0),(jP 1),(.sub (.a 2) (.a 16)),(.a 3),(.a 4),(.a 5),(.a 6),(.a 7),(.a 8),(.a 9),(.a 10),(.a 15),(.a 12),(.a 13)] [] [(.va 0),(.va 1),(.va 2),(.va 3)]))
      (.ite (.eq (.a 14) (.l 2))
      (nD (treeB (jP 1))
      (jU 0 [(.a 0),(jP 1),(.sub (.a 2) (.a 16)),(.a 3),(.a 4),(.a 5),(.a 6),(.a 7),(.a 8),(.a 9),(.a 15),(.a 11),(.a 12),(.a 13)] [] [(.va 0),(.va 1),(.va 2),(.va 3)]))
      (.ite (.eq (.a 14) (.l 1))
       (nD (treeB (jP 1))
       (jU 0 [(.a 0),(jP 1),(.sub (.a 2) (.a 16)),(.a 3),(.a 4),(.a 5),(.a 6),(.a 7),(.a 8),(.a 15),(.a 10),(.a 11),(.a 12),(.a 13)] [] [(.va 0),(.va 1),(.va 2),(.va 3)]))
       (.ite (.eq (.a 14) (.l 0))
       (nD (treeB (jP 1))
       (jU 0 [(.a 0),(jP 1),(.sub (.a 2) (.a 16)),(.a 3),(.a 4),(.a 5),(.a 6),(.a 7),(.a 15),(.a 9),(.a 10),(.a 11),(.a 12),(.a 13)] [] [(.va 0),(.va 1),(.va 2),(.va 3)]))
       .stuck)))))))
    .stuck))))))))
 (.ret false (.tup [(.agg [(jA 2),(jA 3),(jA 4),(jA 5),(jA 6),(jA 7)]),(.agg [(jA 8),(jA 9),(jA 10),(jA 11),(jA 12),(jA 13)])]) []))
def a2p:Sx.Sys:=⟨[(.sh (.agg [.val,.val,.val,.val]))],b1y,[a5Q],none,none⟩
def c0D:List Cfg:=[{todo:=[(.code (tfR 6 52)),(.inLoop (tfR 6 52)),(.inBlock 0),(.code [true,true,true])],sl:=[(.junk 0),(.junk 1),(.ptr 1 0),(.ptr 2 0),.undef]++jkR 2 5++[(.va 0),(jA 0),(jA 1)]++jkR 7 17++[.undef,.undef],H:=[(.cells [(.va 1),(.va 2),(.va 3),(.va 0)] 27 false),(.cells [(jA 2),(jA 3),(jA 4),(jA 5),(jA 6),(jA 7)] 38 false),(.cells [(jA 8),(jA 9),(jA 10),(jA 11),(jA 12),(jA 13)] 38 false)],ni:=14,nb:=0,nv:=4,nj:=24}]
theorem c3o:SysOk Try.prog 84 a2p:=a0s (c:=(cg [(tfR 6 52)] [] [] false false false true)) (a0o _ _ _ _ _ _ _ _ _) Try.func84 Try.call84 (by kernel_rfl) c0D a2p 5000 rfl (by kernel_rfl) (by kernel_rfl) rfl
def b1P:PT :=
 (.ite (.le (.l 97) (.a 0))
 (.ret false (.bool (.le (.a 0) (.l 122))) [])
 rF)
def a9e:Sx.Sys:=⟨[(.sh (.one (.int .i32)))],b1P,[],none,none⟩
def c0M:List Cfg:=[]
theorem c3l:SysOk Try.prog 92 a9e:=a0s (c:=(cg [] [] [] false false false true)) (a0o _ _ _ _ _ _ _ _ _) Try.func92 Try.call92 (by kernel_rfl) c0M a9e 5000 rfl (by kernel_rfl) (by kernel_rfl) rfl
def b2H:PT :=
 (.ite (.le (.l 48) (.a 0))
 (.ret false (.bool (.le (.a 0) (.l 57))) [])
 rF)
def a9X:Sx.Sys:=⟨[(.sh (.one (.int .i32)))],b2H,[],none,none⟩
def c1W:List Cfg:=[]
theorem c3D:SysOk Try.prog 100 a9X:=a0s (c:=(cg [] [] [] false false false true)) (a0o _ _ _ _ _ _ _ _ _) Try.func100 Try.call100 (by kernel_rfl) c1W a9X 5000 rfl (by kernel_rfl) (by kernel_rfl) rfl
def d8S:PT :=
 (cA 6 [(.agg [(.va 0),(.va 1),(.va 2),(.va 3)]),(.va 4)] [] [(.one .bool)]
 (.ite (.a 0)
 (cA 7 [] [] [(.one .bool)]
 (.ret false (.bool (.a 1)) []))
 (cA 8 [(.agg [(.va 0),(.va 1),(.va 2),(.va 3)]),(.agg [(jA 0),(jA 1),(jA 2),(jE 2)])] [] [(.one .val),(.one jD)]
 (.ite (.not (.eq (.a 4) (.l 0)))
  (cA 7 [] [] [(.one .bool)]
  (.ret false (.bool (.a 1)) []))
  (jU 0 [(.l 0)] [] [(.va 4),(.va 5),(.va 0),(.va 1),(.va 2),(.va 3)])))))
def d8R:PT :=
 (nD (.is 0 0)
 (.ite (.lt (.a 0) (.slen 0))
 (nD (treeI (.a 0) (.slen 0))
 (lO false (.ea 0 (.a 0) 9 0) [jD,jD,jD,jD,jD,jD,jD,jD,jD]
 (cA 20 [(.va 1),(.agg [(jA 1),(jA 2),(jA 3),(jA 4),(jA 5),(jA 6),(jA 7),(jA 8),(jA 9)])] [] [(.one .bool),(.one jD)]
 (nD (treeB (jP 0))
 (jU 0 [(jP 0)] [] [(.va 0),(.va 1),(.va 2),(.va 3),(.va 4),(.va 5)])))))
 (jU 1 [(.l 0)] [] [(.va 1),(.va 2),(.va 3),(.va 4),(.va 5)])))
def d8Q:PT :=
 (nD (.is 0 2)
 (.ite (.lt (.a 0) (.slen 2))
 (cA 22 [(.va 0),(jA 0)] [] [(.one .val)]
 (cA 21 [(.va 5)] [] [(.agg [.val,.val]),(.one .bool)]
 (.ite (.not (.a 0))
  rF
  (cA 22 [(.va 0),(jA 0)] [] [(.one .val)]
  (cA 23 [(.va 8),(.agg [(.va 6),(.va 7)])] [] [(.one jD)]
  (.ite (.not (.eq (.a 1) (.l 0)))
  rF
  (nD (treeB (jP 0))
  (jU 1 [(jP 0)] [] [(.va 0),(.va 1),(.va 2),(.va 3),(.va 4)]))))))))
 (cA 7 [] [] [(.one .bool)]
 (.ret false (.bool (.a 0)) []))))
def d8P:Sx.Sys:=⟨[(.sh (.agg [.val,.val,.val,.val])),(.sh (.agg [jD,jD,jD,jD])),(.sh (.one .val))],d8S,[d8R,d8Q],none,none⟩
def d9t:List Cfg:=[{todo:=[(.code (tfR 9 500)),(.inLoop (tfR 9 500)),(.inBlock 0),(.code (tfR 6 63))],sl:=[(.junk 0),(.junk 1),(.va 0),(.ptr 0 0),(.junk 2),.undef,(.junk 3),(.va 1),(.junk 4),(jA 0),.undef,.undef,.undef,(.junk 5),(.junk 6),(.junk 7),.undef]++jkR 8 9++[.undef]++jkR 17 12++udR 25,H:=[(.cells [(.va 2),(.va 3),(.va 4),(.va 5)] 27 false)],ni:=1,nb:=0,nv:=6,nj:=29},
 {todo:=[(.code (tfR 10 1012)),(.inLoop (tfR 10 1012)),(.inBlock 2),(.code (tfR 7 127))],sl:=[(.junk 0),(.junk 1),(.junk 2),(.ptr 0 0),(.junk 3),.undef,(.junk 4),(.va 0),(.junk 5),(.junk 6),(jA 0)]++jkR 7 5++[.undef]++jkR 12 9++[.undef]++jkR 21 36++[.undef],H:=[(.cells [(.va 1),(.va 2),(.va 3),(.va 4)] 27 false)],ni:=1,nb:=0,nv:=5,nj:=57}]
theorem d9y:SysOk Try.prog 5 d8P:=a0s (c:=(cg [(tfR 9 500),(tfR 10 1012)] [] [] true false false true)) (a0o _ _ _ _ _ _ _ _ _) Try.func5 Try.call5 (by kernel_rfl) d9t d8P 5000 rfl (by kernel_rfl) (by kernel_rfl) rfl
def a6s:PT :=
 (cA 38 [(.va 0)] [] [(.one .val)]
   (lO false (.pa 0 15) [.val]
   (cA 37 [(jA 6),(.agg [(jA 0),(jA 1),(jA 2),(jA 3),(jA 4),(jA 5)]),(.va 5),(.va 6)] [] [(.one .val),(.one jD)]
   (jU 0 [(.a 7),(.a 0),(.a 1),(.a 2),(.a 3),(.a 4),(.a 5)] [] [(.va 0),(.va 7)]))))
def a6x:PT :=
 (lO false (.pa 0 15) [.val]
   (cA 38 [(.va 0)] [] [(.one .val)]
   (cA 37 [(jA 6),(.agg [(jA 0),(jA 1),(jA 2),(jA 3),(jA 4),(jA 5)]),(.va 6),(.va 5)] [] [(.one .val),(.one jD)]
   (jU 0 [(.a 7),(.a 0),(.a 1),(.a 2),(.a 3),(.a 4),(.a 5)] [] [(.va 0),(.va 7)]))))
def a6b:PT :=
 (lO false (.pa 0 6) [jD]
   (.both a6s a6x))
def a6m:PT :=
 (cA 38 [(.va 0)] [] [(.one .val)]
   (lO false (.pa 0 6) [jD]
   (lO false (.pa 0 15) [.val]
   (cA 37 [(jA 6),(.agg [(jA 0),(jA 1),(jA 2),(jA 3),(jA 4),(jA 5)]),(.va 5),(.va 6)] [] [(.one .val),(.one jD)]
   (jU 0 [(.a 7),(.a 0),(.a 1),(.a 2),(.a 3),(.a 4),(.a 5)] [] [(.va 0),(.va 7)])))))
def a6n:PT :=
 (lO false (.pa 0 6) [jD]
    (cA 38 [(.va 0)] [] [(.one .val)]
    (cA 37 [(jA 6),(.agg [(jA 0),(jA 1),(jA 2),(jA 3),(jA 4),(jA 5)]),(.va 6),(.va 5)] [] [(.one .val),(.one jD)]
    (jU 0 [(.a 7),(.a 0),(.a 1),(.a 2),(.a 3),(.a 4),(.a 5)] [] [(.va 0),(.va 7)]))))
def a6p:PT :=
 (cA 38 [(.va 0)] [] [(.one .val)]
    (lO false (.pa 0 6) [jD]
    (cA 37 [(jA 6),(.agg [(jA 0),(jA 1),(jA 2),(jA 3),(jA 4),(jA 5)]),(.va 6),(.va 5)] [] [(.one .val),(.one jD)]
    (jU 0 [(.a 7),(.a 0),(.a 1),(.a 2),(.a 3),(.a 4),(.a 5)] [] [(.va 0),(.va 7)]))))
def a6o:PT :=
 (lO false (.pa 0 15) [.val]
   (.both a6n a6p))
def a6e:PT :=
 (.both a6m a6o)
def a6v:PT :=
 (lO false (.pa 0 8) [.val]
   (.app none (.lit [[(jA 6),(jA 7),(jA 8),(jA 9),(jA 10),(jA 11),(.va 5),(.va 3),(.va 6)]]) 9
   (.appM (.va 7) (.va 8) 9 54
   (nD (.is 1 0)
   (.storeM (.pa 0 8) [(.va 9)]
   (jU 1 [(.a 0),(.a 1),(.a 2),(.a 3),(.a 4),(.a 5)] [] [(.va 0),(.va 3)]))))))
def a5H:PT :=
 (.app none (.lit [[(jA 6),(jA 7),(jA 8),(jA 9),(jA 10),(jA 11),(.va 5),(.va 3),(.va 6)]]) 9
   (lO false (.pa 0 8) [.val]
   (.appM (.va 8) (.va 7) 9 54
   (nD (.is 1 0)
   (.storeM (.pa 0 8) [(.va 9)]
   (jU 1 [(.a 0),(.a 1),(.a 2),(.a 3),(.a 4),(.a 5)] [] [(.va 0),(.va 3)]))))))
def a2s:PT :=
 (nD (.is 4 0)
 (.ite (.nil 0)
 (.ret true (.tup [(.bool (.t false)),(jE 6)]) [])
 (nD (.is 1 0)
 (lO false (.pa 0 18) [.bool]
 (.ite (.a 0)
  (.ret true (.tup [(.bool (.t false)),(jE 10)]) [])
  (nD (.is 1 0)
  (lO false (.pa 0 0) [.val]
  (cA 35 [(.va 1)] [] [(.agg [jD,jD,jD,jD,jD,jD])]
  (nD (.is 1 0)
  (lO false (.pa 0 15) [.val]
  (cA 36 [(.va 2)] [] [(.one .val)]
  (nD (.is 1 0)
  (lO false (.pa 0 8) [.val]
  (nD (.is 0 4)
  (.ite (.lt (.l 0) (.slen 4))
  (nD (.is 1 0)
  (nD (.is 1 0)
  (.both a6b a6e)))
  (nD (.is 1 0)
  (nD (.is 1 0)
  (nD (.is 1 0)
  (nD (.is 1 0)
  (lO false (.pa 0 9) [jD,jD,jD,jD,jD,jD]
  (lO false (.pa 0 15) [.val]
  (lO false (.pa 0 16) [.val]
  (.both a6v a5H)))))))))))))))))))))))
def a9l:PT :=
 (lO false (.pa 0 8) [.val]
  (.app none (.lit [[(jA 7),(jA 8),(jA 9),(jA 10),(jA 11),(jA 12),(.va 2),(.va 1),(.va 3)]]) 9
  (.appM (.va 4) (.va 5) 9 54
  (nD (.is 1 0)
  (.storeM (.pa 0 8) [(.va 6)]
  (jU 1 [(.a 1),(.a 2),(.a 3),(.a 4),(.a 5),(.a 6)] [] [(.va 0),(.va 1)]))))))
def a9t:PT :=
 (.app none (.lit [[(jA 7),(jA 8),(jA 9),(jA 10),(jA 11),(jA 12),(.va 2),(.va 1),(.va 3)]]) 9
  (lO false (.pa 0 8) [.val]
  (.appM (.va 5) (.va 4) 9 54
  (nD (.is 1 0)
  (.storeM (.pa 0 8) [(.va 6)]
  (jU 1 [(.a 1),(.a 2),(.a 3),(.a 4),(.a 5),(.a 6)] [] [(.va 0),(.va 1)]))))))
def a4Y:PT :=
 (.ite (.not (.eq (.a 0) (.l 0)))
 (.ret true (.tup [(.bool (.t false)),(jA 0)]) [])
 (nD (.is 1 0)
 (nD (.is 1 0)
 (nD (.is 1 0)
 (nD (.is 1 0)
 (lO false (.pa 0 9) [jD,jD,jD,jD,jD,jD]
 (lO false (.pa 0 15) [.val]
 (lO false (.pa 0 16) [.val]
 (.both a9l a9t)))))))))
def a5I:PT :=
 (cA 39 [(.agg [(jA 12),(jA 13),(jA 14),(jA 15)]),(.agg [(jA 16),(jA 17),(jA 18),(jA 19),(jA 20),(jA 21)]),(.agg [(jA 6),(jA 7),(jA 8),(jA 9),(jA 10),(jA 11)])] [] [(.agg [jD,jD,jD,jD,jD,jD]),(.one jD)]
  (jU 2 [(.a 28),(.a 0),(.a 1),(.a 2),(.a 3),(.a 4),(.a 5),(.a 6),(.a 7),(.a 8),(.a 9),(.a 10),(.a 11),(.a 22),(.a 23),(.a 24),(.a 25),(.a 26),(.a 27)] [] [(.va 0)]))
def a9o:PT :=
 (lO false (.pa 0 9) [jD,jD,jD,jD,jD,jD]
  (.both a5I a5I))
def a9r:PT :=
 (lO false (.pa 0 9) [jD,jD,jD,jD,jD,jD]
  (cA 39 [(.agg [(jA 12),(jA 13),(jA 14),(jA 15)]),(.agg [(jA 16),(jA 17),(jA 18),(jA 19),(jA 20),(jA 21)]),(.agg [(jA 6),(jA 7),(jA 8),(jA 9),(jA 10),(jA 11)])] [] [(.agg [jD,jD,jD,jD,jD,jD]),(.one jD)]
  (jU 2 [(.a 28),(.a 0),(.a 1),(.a 2),(.a 3),(.a 4),(.a 5),(.a 6),(.a 7),(.a 8),(.a 9),(.a 10),(.a 11),(.a 22),(.a 23),(.a 24),(.a 25),(.a 26),(.a 27)] [] [(.va 0)])))
def a9m:PT :=
 (lO false (.pa 0 4) [jD,jD,jD,jD]
 (.both a9o a9r))
def a5G:PT :=
 (cA 39 [(.agg [(jA 18),(jA 19),(jA 20),(jA 21)]),(.agg [(jA 12),(jA 13),(jA 14),(jA 15),(jA 16),(jA 17)]),(.agg [(jA 6),(jA 7),(jA 8),(jA 9),(jA 10),(jA 11)])] [] [(.agg [jD,jD,jD,jD,jD,jD]),(.one jD)]
   (jU 2 [(.a 28),(.a 0),(.a 1),(.a 2),(.a 3),(.a 4),(.a 5),(.a 6),(.a 7),(.a 8),(.a 9),(.a 10),(.a 11),(.a 22),(.a 23),(.a 24),(.a 25),(.a 26),(.a 27)] [] [(.va 0)]))
def a9q:PT :=
 (lO false (.pa 0 4) [jD,jD,jD,jD]
  (.both a5G a5G))
def a9n:PT :=
 (lO false (.pa 0 4) [jD,jD,jD,jD]
  (cA 39 [(.agg [(jA 18),(jA 19),(jA 20),(jA 21)]),(.agg [(jA 12),(jA 13),(jA 14),(jA 15),(jA 16),(jA 17)]),(.agg [(jA 6),(jA 7),(jA 8),(jA 9),(jA 10),(jA 11)])] [] [(.agg [jD,jD,jD,jD,jD,jD]),(.one jD)]
  (jU 2 [(.a 28),(.a 0),(.a 1),(.a 2),(.a 3),(.a 4),(.a 5),(.a 6),(.a 7),(.a 8),(.a 9),(.a 10),(.a 11),(.a 22),(.a 23),(.a 24),(.a 25),(.a 26),(.a 27)] [] [(.va 0)])))
def a9u:PT :=
 (lO false (.pa 0 9) [jD,jD,jD,jD,jD,jD]
  (.both a9q a9n))
def a9s:PT :=
 (lO false (.pa 0 4) [jD,jD,jD,jD]
  (lO false (.pa 0 9) [jD,jD,jD,jD,jD,jD]
  (cA 39 [(.agg [(jA 12),(jA 13),(jA 14),(jA 15)]),(.agg [(jA 16),(jA 17),(jA 18),(jA 19),(jA 20),(jA 21)]),(.agg [(jA 6),(jA 7),(jA 8),(jA 9),(jA 10),(jA 11)])] [] [(.agg [jD,jD,jD,jD,jD,jD]),(.one jD)]
  (jU 2 [(.a 28),(.a 0),(.a 1),(.a 2),(.a 3),(.a 4),(.a 5),(.a 6),(.a 7),(.a 8),(.a 9),(.a 10),(.a 11),(.a 22),(.a 23),(.a 24),(.a 25),(.a 26),(.a 27)] [] [(.va 0)]))))
def a8A:PT :=
 (.both a9u a9s)
def a5c:PT :=
 (cA 30 [(.va 0)] [] []
 (cA 15 [(.agg [(jA 0),(jA 1),(jA 2),(jA 3),(jA 4),(jA 5)]),(.va 1)] [] [(.agg [jD,jD,jD,jD,jD,jD])]
 (nD (.is 1 0)
 (nD (.is 1 0)
 (.both a9m a8A)))))
def a2L:PT :=
 (.ite (.and (.eq (.a 7) (.l 0)) (.and (.eq (.a 8) (.l 0)) (.and (.eq (.a 9) (.l 0)) (.and (.eq (.a 10) (.l 0)) (.and (.eq (.a 11) (.l 0)) (.eq (.a 12) (.l 0)))))))
 (nD (.is 1 0)
 (.storeM (.pa 0 18) [(.bool (.t true))]
 (.ret true (.tup [(.bool (.t true)),(jE 0)]) [])))
 (nD (.is 1 0)
 (lO false (.pa 0 8) [.val]
 (nD (.is 0 1)
 (.ite (.le (.l 30) (.slen 1))
  (nD (.is 1 0)
  (.storeM (.pa 0 18) [(.bool (.t true))]
  (.ret true (.tup [(.bool (.t true)),(jE 0)]) [])))
  (.ite (.not (.eq (.a 0) (.l 0)))
  (nD (.is 1 0)
  (.storeM (.pa 0 18) [(.bool (.t true))]
  (.ret true (.tup [(.bool (.t true)),(jE 0)]) [])))
  (nD (.is 1 0)
  (.storeM (.pa 0 9) [(jA 13),(jA 14),(jA 15),(jA 16),(jA 17),(jA 18)]
  (.ret true (.tup [(.bool (.t false)),(jE 0)]) [])))))))))
def a1m:Sx.Sys:=⟨[(.sh (.one .val))],a2s,[a4Y,a5c,a2L],none,none⟩
def b5G:List Cfg:=[{todo:=[(.code (tfR 9 490)),(.code (tfR 9 491)),(.code (tfR 5 31))],sl:=[(.va 0),.undef,(.junk 0),(.junk 1),(.ptr 0 0),(.junk 2),(.va 1),(jA 0),.undef,.undef,.undef]++jkR 3 41++udR 67,H:=[(.cells [(jA 1),(jA 2),(jA 3),(jA 4),(jA 5),(jA 6)] 38 false)],ni:=7,nb:=0,nv:=2,nj:=44},
 {todo:=[(.code (tfR 7 126)),(.code (tfR 7 127))],sl:=[(.va 0),.undef,(.junk 0),(.junk 1),(.ptr 0 0),(.va 1),(.junk 2),(.junk 3),.undef,.undef,.undef]++jkR 4 43++[.undef]++jkR 47 24++udR 40,H:=[(.cells [(jA 0),(jA 1),(jA 2),(jA 3),(jA 4),(jA 5)] 38 false)],ni:=6,nb:=0,nv:=2,nj:=71},
 {todo:=[(.code (tfR 10 1022)),(.code (tfR 10 1023))],sl:=[(.va 0),.undef]++jkR 0 6++[(.ptr 1 0),(.ptr 2 0),(jA 0)]++jkR 6 43++[.undef]++jkR 49 42++udR 22,H:=[(.cells [(jA 1),(jA 2),(jA 3),(jA 4),(jA 5),(jA 6)] 38 false),(.cells [(jA 7),(jA 8),(jA 9),(jA 10),(jA 11),(jA 12)] 38 false),(.cells [(jA 13),(jA 14),(jA 15),(jA 16),(jA 17),(jA 18)] 44 false)],ni:=19,nb:=0,nv:=1,nj:=91}]
theorem b7C:SysOk Try.prog 13 a1m:=a0s (c:=(cg [] [] [] true true true true [(tfR 8 245),(tfR 6 63),(tfR 9 511)] [])) (a0o _ _ _ _ _ _ _ _ _) Try.func13 Try.call13 (by kernel_rfl) b5G a1m 5000 rfl (by kernel_rfl) (by kernel_rfl) rfl
def b0t:PT :=
 (cA 48 [(.va 0)] [] [(.one .bool)]
 (.ite (.not (.a 0))
 (.ret false (.tup [(.agg [.nilS,.nilS]),(.bool (.t false))]) [])
 (cA 49 [(.va 0)] [] [(.one .val),(.one .val)]
 (nD (.is 0 2)
 (.ite (.not (.nil 2))
  (.ret false (.tup [(.agg [(.va 2),.nilS]),(.bool (.t false))]) [])
  (nD (.is 0 0)
  (jU 0 [(.l 0),(.slen 0),(.l 0)] [] [(.va 0),(.va 1)])))))))
def a7h:PT :=
 (cA 50 [(.agg [(jA 3),(jA 4),(jA 5),(jA 6),(jA 7),(jA 8)]),(.agg [(jA 9),(jA 10),(jA 11),(jA 12),(jA 13),(jA 14)])] [] [(.one jD)]
  (lO false (.ea 1 (.a 2) 1 0) [jD]
  (nD (treeB (.sub (.a 15) (.a 16)))
  (nD (treeB (jP 2))
  (jU 0 [(.mx (.a 0) (.sub (.a 15) (.a 16))),(.a 1),(jP 2)] [] [(.va 0),(.va 1)])))))
def a6X:PT :=
 (lO false (.ea 1 (.a 2) 1 0) [jD]
  (cA 50 [(.agg [(jA 3),(jA 4),(jA 5),(jA 6),(jA 7),(jA 8)]),(.agg [(jA 9),(jA 10),(jA 11),(jA 12),(jA 13),(jA 14)])] [] [(.one jD)]
  (nD (treeB (.sub (.a 16) (.a 15)))
  (nD (treeB (jP 2))
  (jU 0 [(.mx (.a 0) (.sub (.a 16) (.a 15))),(.a 1),(jP 2)] [] [(.va 0),(.va 1)])))))
def a3O:PT :=
 (.ite (.lt (.a 2) (.a 1))
 (nD (treeI (.a 2) (.slen 0))
 (lO false (.ea 0 (.a 2) 12 0) [jD,jD,jD,jD,jD,jD,jD,jD,jD,jD,jD,jD]
 (nD (treeI (.a 2) (.slen 1))
 (.both a7h a6X))))
 (nD (.is 0 0)
 (jU 1 [(.a 0),(.slen 0),(.l 0)] [] [(.va 1),(.va 0)])))
def a3N:PT :=
 (.ite (.lt (.a 2) (.a 1))
 (nD (treeI (.a 2) (.slen 1))
 (lO false (.ea 1 (.a 2) 12 0) [jD,jD,jD,jD,jD,jD,jD,jD,jD,jD,jD,jD]
 (.ite (.and (.eq (.a 9) (.l 0)) (.and (.eq (.a 10) (.l 0)) (.and (.eq (.a 11) (.l 0)) (.and (.eq (.a 12) (.l 0)) (.and (.eq (.a 13) (.l 0)) (.eq (.a 14) (.l 0)))))))
  (nD (treeI (.a 2) (.slen 0))
  (lO false (.ea 0 (.a 2) 1 0) [jD]
  (nD (treeB (.sub (.l 0) (.a 15)))
  (nD (treeB (jP 2))
  (jU 1 [(.sub (.l 0) (.a 15)),(.a 1),(jP 2)] [] [(.va 0),(.va 1)])))))
  (nD (treeB (jP 2))
  (jU 1 [(.a 0),(.a 1),(jP 2)] [] [(.va 0),(.va 1)])))))
 (nD (.is 0 0)
 (jU 2 [(.a 0),(.slen 0),(.l 0)] [] [(.va 0)])))
def a4N:PT :=
 (.ite (.lt (.a 2) (.a 1))
 (nD (treeI (.a 2) (.slen 0))
 (lO false (.ea 0 (.a 2) 1 0) [jD]
 (nD (treeB (.add (.a 3) (.a 0)))
 (nD (treeI (.a 2) (.slen 0))
 (.storeM (.ea 0 (.a 2) 1 0) [(.int .i64 (.add (.a 3) (.a 0)))]
 (nD (treeB (jP 2))
 (jU 2 [(.a 0),(.a 1),(jP 2)] [] [(.va 0)])))))))
 (.ret false (.tup [(.agg [.nilS,(.va 0)]),(.bool (.t true))]) []))
def a0y:Sx.Sys:=⟨[(.sh (.one .val))],b0t,[a3O,a3N,a4N],none,none⟩
def b8s:List Cfg:=[{todo:=[(.code (tfR 9 500)),(.inLoop (tfR 9 500)),(.inBlock 0),(.code (tfR 6 63))],sl:=[(.va 0),.undef,(.ptr 0 0),(.junk 0),(.va 1),(.junk 1),(jA 0),(.junk 2),(.junk 3),.undef,.undef,.undef,(.junk 4),(.junk 5),(.junk 6),.undef]++jkR 7 7++[.undef,.undef,(.va 0),(jA 1),(jA 2)]++jkR 14 17++udR 32,H:=[(.cells [.nilS,.nilS] 66 false)],ni:=3,nb:=0,nv:=2,nj:=31},
 {todo:=[(.code (tfR 10 1012)),(.inLoop (tfR 10 1012)),(.inBlock 2),(.code (tfR 7 127))],sl:=[(.junk 0),.undef,(.ptr 0 0),(.junk 1),(.va 0),(.junk 2),(jA 0)]++jkR 3 4++[.undef,(.junk 7),(.junk 8),(.junk 9),.undef]++jkR 10 7++[.undef,.undef]++jkR 17 20++[(.va 1),(jA 1),(jA 2)]++jkR 37 14++udR 15,H:=[(.cells [.nilS,.nilS] 66 false)],ni:=3,nb:=0,nv:=2,nj:=51},
 {todo:=[(.code (tfR 11 2036)),(.inLoop (tfR 11 2036)),(.inBlock 4),(.code (tfR 8 255))],sl:=[(.junk 0),.undef,(.ptr 0 0),(.junk 1),(.va 0),(.junk 2),(jA 0)]++jkR 3 8++[.undef]++jkR 11 7++[.undef,.undef]++jkR 18 38++[(jA 1),(jA 2)]++jkR 56 10++[.undef,.undef],H:=[(.cells [.nilS,.nilS] 66 false)],ni:=3,nb:=0,nv:=1,nj:=66}]
theorem c0q:SysOk Try.prog 21 a0y:=a0s (c:=(cg [(tfR 9 500),(tfR 10 1012),(tfR 11 2036)] [] [] true false false true)) (a0o _ _ _ _ _ _ _ _ _) Try.func21 Try.call21 (by kernel_rfl) b8s a0y 5000 rfl (by kernel_rfl) (by kernel_rfl) rfl
def a8x:PT :=
 (nD (.is 0 0)
 (.cut 0 none (some (.mn (.slen 0) (.l 6))) 5
 (nD (.is 0 1)
 (jU 0 [(.slen 1),(.l 0),(.l 0),(.l 0),(.l 0),(.l 0),(.l 0),(.l 0)] [] [(.va 1)]))))
def a4a:PT :=
 (.ite (.lt (.a 1) (.a 0))
 (nD (treeI (.a 1) (.slen 0))
 (lO false (.ea 0 (.a 1) 5 0) [.val,jD,jD,jD,jD]
 (.ite (.eq (.a 1) (.l 5))
  (jU 0 [(.a 0),(.l 6),(.a 2),(.a 3),(.a 4),(.a 5),(.a 6),(.a 9)] [] [(.va 0)])
  (.ite (.eq (.a 1) (.l 4))
  (jU 0 [(.a 0),(.l 5),(.a 2),(.a 3),(.a 4),(.a 5),(.a 9),(.a 7)] [] [(.va 0)])
  (.ite (.eq (.a 1) (.l 3))
   (jU 0 [(.a 0),(.l 4),(.a 2),(.a 3),(.a 4),(.a 9),(.a 6),(.a 7)] [] [(.va 0)])
   (.ite (.eq (.a 1) (.l 2))
   (jU 0 [(.a 0),(.l 3),(.a 2),(.a 3),(.a 9),(.a 5),(.a 6),(.a 7)] [] [(.va 0)])
   (.ite (.eq (.a 1) (.l 1))
    (jU 0 [(.a 0),(.l 2),(.a 2),(.a 9),(.a 4),(.a 5),(.a 6),(.a 7)] [] [(.va 0)])
    (.ite (.eq (.a 1) (.l 0))
    (jU 0 [(.a 0),(.l 1),(.a 9),(.a 3),(.a 4),(.a 5),(.a 6),(.a 7)] [] [(.va 0)])
    .stuck))))))))
 (.ret false (.agg [(jA 2),(jA 3),(jA 4),(jA 5),(jA 6),(jA 7)]) []))
def a1H:Sx.Sys:=⟨[(.sh (.one .val))],a8x,[a4a],none,none⟩
def b6B:List Cfg:=[{todo:=[(.code (tfR 6 52)),(.inLoop (tfR 6 52)),(.inBlock 0),(.code [true,true,true])],sl:=[(.junk 0),.undef,(.ptr 0 0),(.ptr 1 0)]++jkR 1 6++[(.va 0),(jA 0),(jA 1)]++jkR 7 9++[.undef],H:=[(.cells [(jE 0),(jE 0),(jE 0),(jE 0),(jE 0),(jE 0)] 44 false),(.cells [(jA 2),(jA 3),(jA 4),(jA 5),(jA 6),(jA 7)] 44 false)],ni:=8,nb:=0,nv:=1,nj:=16}]
theorem b8w:SysOk Try.prog 29 a1H:=a0s (c:=(cg [(tfR 6 52)] [] [] false false false true)) (a0o _ _ _ _ _ _ _ _ _) Try.func29 Try.call29 (by kernel_rfl) b6B a1H 5000 rfl (by kernel_rfl) (by kernel_rfl) rfl
def a9E:PT :=
 (cA 70 [(jA 0),(.agg [(jA 1),(jA 2),(jA 3),(jA 4),(jA 5),(jA 6)]),(.va 0),(.va 1)] [] [(.one jD)]
 (.ite (.not (.eq (.a 7) (.l 0)))
 (.ret true (.tup [.nilS,(jA 7)]) [])
 (cA 71 [(.va 0)] [] [(.one .val)]
 (nD (.is 0 1)
 (jU 0 [(.a 0),(.slen 1),(.l 0),(.a 1),(.a 2),(.a 3),(.a 4),(.a 5),(.a 6)] [] [(.va 2),(.va 1)])))))
def a4w:PT :=
 (.ite (.lt (.a 2) (.a 1))
 (nD (treeI (.a 2) (.slen 1))
 (lO false (.ea 1 (.a 2) 6 0) [jD,jD,jD,jD,jD,jD]
 (cA 72 [(.va 0)] [] [(.agg [jD,jD,jD,jD,jD,jD])]
 (.ite (.eq (.a 0) (.l 2))
  (nD (treeI (.a 2) (.slen 0))
  (lO false (.ea 0 (.a 2) 6 0) [jD,jD,jD,jD,jD,jD]
  (cA 73 [(.agg [(jA 3),(jA 4),(jA 5),(jA 6),(jA 7),(jA 8)]),(.agg [(jA 15),(jA 16),(jA 17),(jA 18),(jA 19),(jA 20)]),(.agg [(jA 21),(jA 22),(jA 23),(jA 24),(jA 25),(jA 26)]),(.agg [(jA 9),(jA 10),(jA 11),(jA 12),(jA 13),(jA 14)])] [] [(.one .bool)]
  (.ite (.a 0)
  (nD (treeB (jP 2))
  (jU 0 [(.a 0),(.a 1),(jP 2),(.a 3),(.a 4),(.a 5),(.a 6),(.a 7),(.a 8)] [] [(.va 0),(.va 1)]))
  (nD (treeI (.a 2) (.slen 0))
  (.storeM (.ea 0 (.a 2) 6 0) [(jA 9),(jA 10),(jA 11),(jA 12),(jA 13),(jA 14)]
  (nD (treeB (jP 2))
  (jU 0 [(.a 0),(.a 1),(jP 2),(.a 3),(.a 4),(.a 5),(.a 6),(.a 7),(.a 8)] [] [(.va 0),(.va 1)]))))))))
  (.ite (.eq (.a 0) (.l 3))
  (nD (treeI (.a 2) (.slen 0))
  (lO false (.ea 0 (.a 2) 6 0) [jD,jD,jD,jD,jD,jD]
  (cA 74 [(.agg [(jA 3),(jA 4),(jA 5),(jA 6),(jA 7),(jA 8)]),(.agg [(jA 15),(jA 16),(jA 17),(jA 18),(jA 19),(jA 20)]),(.agg [(jA 21),(jA 22),(jA 23),(jA 24),(jA 25),(jA 26)]),(.agg [(jA 9),(jA 10),(jA 11),(jA 12),(jA 13),(jA 14)])] [] [(.agg [jD,jD,jD,jD,jD,jD])]
  (nD (treeI (.a 2) (.slen 0))
  (.storeM (.ea 0 (.a 2) 6 0) [(jA 27),(jA 28),(jA 29),(jA 30),(jA 31),(jA 32)]
  (nD (treeB (jP 2))
  (jU 0 [(.a 0),(.a 1),(jP 2),(.a 3),(.a 4),(.a 5),(.a 6),(.a 7),(.a 8)] [] [(.va 0),(.va 1)])))))))
  (nD (treeI (.a 2) (.slen 0))
  (.storeM (.ea 0 (.a 2) 6 0) [(jA 9),(jA 10),(jA 11),(jA 12),(jA 13),(jA 14)]
  (nD (treeB (jP 2))
  (jU 0 [(.a 0),(.a 1),(jP 2),(.a 3),(.a 4),(.a 5),(.a 6),(.a 7),(.a 8)] [] [(.va 0),(.va 1)])))))))))
 (.ret true (.tup [(.va 0),(jE 0)]) []))
def a1Z:Sx.Sys:=⟨[(.sh (.one jD)),(.sh (.agg [jD,jD,jD,jD,jD,jD])),(.sh (.one .val)),(.sh (.one .val))],a9E,[a4w],none,none⟩
def b7N:List Cfg:=[{todo:=[(.code (tfR 7 116)),(.inLoop (tfR 7 116)),(.inBlock 0),(.code [true,true,true,true])],sl:=[(jA 0),(.junk 0),(.junk 1),(.junk 2),.undef,(.ptr 0 0),.undef,.undef,(.junk 3),(.junk 4),(.junk 5),(.va 0)]++jkR 6 10++[.undef,(.junk 16),(.junk 17),(.va 1),(jA 1),(jA 2)]++jkR 18 32++[.undef],H:=[(.cells [(jA 3),(jA 4),(jA 5),(jA 6),(jA 7),(jA 8)] 38 false)],ni:=9,nb:=0,nv:=2,nj:=50}]
theorem b9a:SysOk Try.prog 37 a1Z:=a0s (c:=(cg [(tfR 7 116)] [] [] true true false true)) (a0o _ _ _ _ _ _ _ _ _) Try.func37 Try.call37 (by kernel_rfl) b7N a1Z 5000 rfl (by kernel_rfl) (by kernel_rfl) rfl
def a4G:PT :=
 (nD (.is 0 0)
 (.mkM (.slen 0) [(jE 0),(jE 0),(jE 0),(jE 0),(jE 0),(jE 0),.nilS,.nilS,.nilS] 54 9 120
 (.copyM 1 0 9
 (.ret true (.va 1) []))))
def a3a:Sx.Sys:=⟨[(.sh (.one .val))],a4G,[],none,none⟩
def b1r:List Cfg:=[]
theorem b2r:SysOk Try.prog 45 a3a:=a0s (c:=(cg [] [] [] true true false true)) (a0o _ _ _ _ _ _ _ _ _) Try.func45 Try.call45 (by kernel_rfl) b1r a3a 5000 rfl (by kernel_rfl) (by kernel_rfl) rfl
def b0R:PT :=
 (cA 50 [(.agg [(jA 0),(jA 1),(jA 2),(jA 3),(jA 4),(jA 5)]),(.agg [(jA 18),(jA 19),(jA 20),(jA 21),(jA 22),(jA 23)])] [] [(.one jD)]
 (cA 50 [(.agg [(jA 0),(jA 1),(jA 2),(jA 3),(jA 4),(jA 5)]),(.agg [(jA 6),(jA 7),(jA 8),(jA 9),(jA 10),(jA 11)])] [] [(.one jD)]
 (nD (treeB (.sub (.a 24) (.a 25)))
 (.ret false (.int .i64 (.sub (.a 24) (.a 25))) []))))
def a8d:Sx.Sys:=⟨[(.sh (.agg [jD,jD,jD,jD,jD,jD,jD,jD,jD,jD,jD,jD])),(.sh (.agg [jD,jD,jD,jD,jD,jD,jD,jD,jD,jD,jD,jD]))],b0R,[],none,none⟩
def b9n:List Cfg:=[]
theorem c2k:SysOk Try.prog 53 a8d:=a0s (c:=(cg [] [] [] false false false true)) (a0o _ _ _ _ _ _ _ _ _) Try.func53 Try.call53 (by kernel_rfl) b9n a8d 5000 rfl (by kernel_rfl) (by kernel_rfl) rfl
def a1e:PT :=
 (nD (.is 0 0)
 (.ite (.nil 0)
 (.ret false .nilS [])
 (.app none (.lit []) 3
 (.app (some 1) (.va 0) 3
 (.ret false (.va 2) [])))))
def a4M:Sx.Sys:=⟨[(.sh (.one .val))],a1e,[],none,none⟩
def a8l:List Cfg:=[]
def a7G:PT :=
 (.ret false (.bool (.and (.eq (.a 6) (.l 0)) (.and (.eq (.a 7) (.l 0)) (.and (.eq (.a 8) (.l 0)) (.and (.eq (.a 9) (.l 0)) (.and (.eq (.a 10) (.l 0)) (.eq (.a 11) (.l 0)))))))) [])
def a5A:Sx.Sys:=⟨[(.sh (.agg [jD,jD,jD,jD,jD,jD,jD,jD,jD,jD,jD,jD]))],a7G,[],none,none⟩
def b5I:List Cfg:=[]
theorem b7j:SysOk Try.prog 69 a5A:=a0s (c:=(cg [] [] [] false false false true)) (a0o _ _ _ _ _ _ _ _ _) Try.func69 Try.call69 (by kernel_rfl) b5I a5A 5000 rfl (by kernel_rfl) (by kernel_rfl) rfl
def b0k:PT :=
 (.ite (.lt (.a 0) (.l 0))
 rF
 (.ite (.lt (.l 1000000) (.a 0))
  rF
  (.ite (.lt (.a 1) (.l 0))
  rF
  (.ite (.lt (.l 1000000) (.a 1))
   rF
   (.ite (.lt (.a 2) (.l 0))
   rF
   (.ite (.lt (.l 1000000) (.a 2))
    rF
    (.ite (.lt (.a 3) (.l 0))
    rF
    (.ite (.lt (.l 1000000) (.a 3))
     rF
     (.ite (.lt (.a 4) (.l 0))
     rF
     (.ite (.lt (.l 1000000) (.a 4))
      rF
      (.ite (.lt (.a 5) (.l 0))
      rF
      (.ite (.lt (.l 1000000) (.a 5))
       rF
       (cA 67 [(.agg [(jA 6),(jA 7),(jA 8),(jA 9),(jA 10),(jA 11)])] [] [(.one jD)]
       (.ret false (.bool (.eq (.a 12) (.l 0))) []))))))))))))))
def a7p:Sx.Sys:=⟨[(.sh (.agg [jD,jD,jD,jD,jD,jD,jD,jD,jD,jD,jD,jD]))],b0k,[],none,none⟩
def b8O:List Cfg:=[]
theorem c0u:SysOk Try.prog 77 a7p:=a0s (c:=(cg [] [] [] false false false true)) (a0o _ _ _ _ _ _ _ _ _) Try.func77 Try.call77 (by kernel_rfl) b8O a7p 5000 rfl (by kernel_rfl) (by kernel_rfl) rfl
def b1m:PT :=
 (cA 95 [(.agg [(jA 0),(jA 1),(jA 2),(jA 3),(jA 4),(jA 5)]),(.agg [(jA 6),(jA 7),(jA 8),(jA 9),(jA 10),(jA 11)])] [] [(.agg [jD,jD,jD,jD,jD,jD])]
 (.ret false (.bool (.and (.eq (.a 12) (.a 0)) (.and (.eq (.a 13) (.a 1)) (.and (.eq (.a 14) (.a 2)) (.and (.eq (.a 15) (.a 3)) (.and (.eq (.a 16) (.a 4)) (.eq (.a 17) (.a 5)))))))) []))
def a8g:Sx.Sys:=⟨[(.sh (.agg [jD,jD,jD,jD,jD,jD])),(.sh (.agg [jD,jD,jD,jD,jD,jD]))],b1m,[],none,none⟩
def b9C:List Cfg:=[]
theorem c1n:SysOk Try.prog 85 a8g:=a0s (c:=(cg [] [] [] false false false true)) (a0o _ _ _ _ _ _ _ _ _) Try.func85 Try.call85 (by kernel_rfl) b9C a8g 5000 rfl (by kernel_rfl) (by kernel_rfl) rfl
def b5n:PT :=
 (jU 0 [(.a 0),(.a 0)] [] [(.va 0),(.va 1)])
def a6J:PT :=
 (nD (.is 3 0)
 (.ite (.lt (.a 1) (.stl 0))
 (nD (.is 3 0)
 (nD (treeI (.a 1) (.stl 0))
 (nD (.and (.le (.l (-2147483648)) (.sat 0 (.a 1))) (.le (.sat 0 (.a 1)) (.l 2147483647)))
 (.callv 1 [(.int .i32 (.sat 0 (.a 1)))] [(.one .bool)]
 (.ite (.a 0)
  (nD (treeB (jP 1))
  (jU 0 [(.a 0),(jP 1)] [] [(.va 0),(.va 1)]))
  (.scut 0 (some (.a 0)) (some (.a 1))
  (.ret false (.va 2) [])))))))
 (.scut 0 (some (.a 0)) (some (.a 1))
 (.ret false (.va 2) []))))
def a6f:Sx.Sys:=⟨[(.sh (.one .val)),(.sh (.one jD)),(.sh (.one .val))],b5n,[a6J],none,none⟩
def c4c:List Cfg:=[{todo:=[(.code (tfR 5 24)),(.inLoop (tfR 5 24)),(.inBlock 0),(.code [true,true,true])],sl:=[(.va 0),(jA 0),(.va 1),.undef,.undef,.undef,(.junk 0),(jA 1)]++jkR 1 15++udR 4,H:=[],ni:=2,nb:=0,nv:=2,nj:=16}]
theorem c6m:SysOk Try.prog 93 a6f:=a0s (c:=(cg [(tfR 5 24)] [] [(14,[4])] false false false true)) (a0o _ _ _ _ _ _ _ _ _) Try.func93 Try.call93 (by kernel_rfl) c4c a6f 5000 rfl (by kernel_rfl) (by kernel_rfl) rfl
def a8Q:PT :=
 (.ret false (jA 2) [])
def a5W:Sx.Sys:=⟨[(.sh (.agg [.val,jD,jD,jD,jD]))],a8Q,[],none,none⟩
def b6E:List Cfg:=[]
theorem b8B:SysOk Try.prog 101 a5W:=a0s (c:=(cg [] [] [] false false false true)) (a0o _ _ _ _ _ _ _ _ _) Try.func101 Try.call101 (by kernel_rfl) b6E a5W 5000 rfl (by kernel_rfl) (by kernel_rfl) rfl
def a2d:PT :=
 (nD (.is 0 0)
 (.ite (.lt (.l 10) (.slen 0))
 (.ret false (.bool (.t true)) [])
 (nD (.is 0 1)
 (.ite (.lt (.l 10) (.slen 1))
  (.ret false (.bool (.t true)) [])
  (nD (.is 0 2)
  (.ite (.lt (.l 20) (.slen 2))
  (.ret false (.bool (.t true)) [])
  (nD (.is 0 3)
  (.ite (.lt (.l 10) (.slen 3))
   (.ret false (.bool (.t true)) [])
   (nD (.is 0 4)
   (.ret false (.bool (.lt (.l 200) (.slen 4))) []))))))))))
def a4D:Sx.Sys:=⟨[(.sh (.agg [.val,.val,.val,.val])),(.sh (.one .val))],a2d,[],none,none⟩
def b3E:List Cfg:=[]
theorem b5x:SysOk Try.prog 6 a4D:=a0s (c:=(cg [] [] [] false false false true)) (a0o _ _ _ _ _ _ _ _ _) Try.func6 Try.call6 (by kernel_rfl) b3E a4D 5000 rfl (by kernel_rfl) (by kernel_rfl) rfl
def a4C:PT :=
 (nD (.is 4 0)
 (.ite (.nil 0)
 (.ret false .nilS [])
 (cA 31 [(.va 0),(jA 0)] [] [(.one .bool)]
 (.ite (.not (.a 0))
  (.ret false .nilS [])
  (nD (.is 1 0)
  (lO false (.pa 0 8) [.val]
  (nD (.is 0 1)
  (jU 0 [(.a 0),(.slen 1),(.l 0)] [] [.nilS,(.va 1)]))))))))
def a2Z:PT :=
 (.ite (.lt (.a 2) (.a 1))
 (nD (treeI (.a 2) (.slen 1))
 (lO false (.ea 1 (.a 2) 9 0) [jD,jD,jD,jD,jD,jD,.val,.val,.val]
 (nD (treeI (.a 0) (.slen 2))
 (lO false (.ea 2 (.a 0) 6 0) [jD,jD,jD,jD,jD,jD]
 (.app none (.lit [[(jA 3),(jA 4),(jA 5),(jA 6),(jA 7),(jA 8),(jA 9),(jA 10),(jA 11),(jA 12),(jA 13),(jA 14)]]) 12
 (.app (some 0) (.va 5) 12
 (nD (treeB (jP 2))
 (jU 0 [(.a 0),(.a 1),(jP 2)] [] [(.va 6),(.va 1)]))))))))
 (.ret false (.va 0) []))
def a1L:Sx.Sys:=⟨[(.sh (.one .val)),(.sh (.one jD))],a4C,[a2Z],none,none⟩
def b3S:List Cfg:=[{todo:=[(.code (tfR 7 116)),(.inLoop (tfR 7 116)),(.inBlock 0),(.code [true,true,true,true])],sl:=[(.junk 0),(jA 0),.undef,.undef,(.junk 1),(.va 0),.undef]++jkR 2 12++[(.va 1),(jA 1),(jA 2)]++jkR 14 15++[.undef],H:=[(.row 0 75 12)],ni:=3,nb:=0,nv:=2,nj:=29}]
theorem b5L:SysOk Try.prog 22 a1L:=a0s (c:=(cg [(tfR 7 116)] [] [] true false false true)) (a0o _ _ _ _ _ _ _ _ _) Try.func22 Try.call22 (by kernel_rfl) b3S a1L 5000 rfl (by kernel_rfl) (by kernel_rfl) rfl
def b5M:PT :=
 (.mkM (.slen 3) [(.bool (.t false))] 4 1 1
  (.storeM (.pa 0 15) [(.va 2)]
  (nD (.is 1 0)
  (.storeM (.pa 0 16) [(.va 4)]
  (.ret true (.tup []) [])))))
def b5z:PT :=
 (.storeM (.pa 0 15) [(.va 2)]
  (.mkM (.slen 3) [(.bool (.t false))] 4 1 1
  (nD (.is 1 0)
  (.storeM (.pa 0 16) [(.va 4)]
  (.ret true (.tup []) [])))))
def b5A:PT :=
 (.mkM (.slen 1) [(jE 0),(jE 0),(jE 0),(jE 0),(jE 0),(jE 0)] 38 6 48
  (lO false (.pa 0 17) [.val]
  (nD (.is 0 3)
  (nD (.is 1 0)
  (.both b5M b5z)))))
def b5F:PT :=
 (.mkM (.slen 2) [(.bool (.t false))] 4 1 1
   (.storeM (.pa 0 15) [(.va 3)]
   (nD (.is 1 0)
   (.storeM (.pa 0 16) [(.va 4)]
   (.ret true (.tup []) [])))))
def b5p:PT :=
 (.storeM (.pa 0 15) [(.va 3)]
   (.mkM (.slen 2) [(.bool (.t false))] 4 1 1
   (nD (.is 1 0)
   (.storeM (.pa 0 16) [(.va 4)]
   (.ret true (.tup []) [])))))
def b5J:PT :=
 (.mkM (.slen 1) [(jE 0),(jE 0),(jE 0),(jE 0),(jE 0),(jE 0)] 38 6 48
  (nD (.is 1 0)
  (.both b5F b5p)))
def b5q:PT :=
 (.mkM (.slen 2) [(.bool (.t false))] 4 1 1
  (.mkM (.slen 1) [(jE 0),(jE 0),(jE 0),(jE 0),(jE 0),(jE 0)] 38 6 48
  (nD (.is 1 0)
  (.storeM (.pa 0 15) [(.va 4)]
  (nD (.is 1 0)
  (.storeM (.pa 0 16) [(.va 3)]
  (.ret true (.tup []) [])))))))
def b5l:PT :=
 (lO false (.pa 0 17) [.val]
  (nD (.is 0 2)
  (.both b5J b5q)))
def b5m:PT :=
 (lO false (.pa 0 17) [.val]
 (nD (.is 0 1)
 (.both b5A b5l)))
def b4w:PT :=
 (.mkM (.slen 1) [(.bool (.t false))] 4 1 1
   (.storeM (.pa 0 15) [(.va 3)]
   (nD (.is 1 0)
   (.storeM (.pa 0 16) [(.va 4)]
   (.ret true (.tup []) [])))))
def b4B:PT :=
 (.storeM (.pa 0 15) [(.va 3)]
   (.mkM (.slen 1) [(.bool (.t false))] 4 1 1
   (nD (.is 1 0)
   (.storeM (.pa 0 16) [(.va 4)]
   (.ret true (.tup []) [])))))
def b4m:PT :=
 (.mkM (.slen 2) [(jE 0),(jE 0),(jE 0),(jE 0),(jE 0),(jE 0)] 38 6 48
  (nD (.is 1 0)
  (.both b4w b4B)))
def b4t:PT :=
 (.mkM (.slen 1) [(.bool (.t false))] 4 1 1
  (.mkM (.slen 2) [(jE 0),(jE 0),(jE 0),(jE 0),(jE 0),(jE 0)] 38 6 48
  (nD (.is 1 0)
  (.storeM (.pa 0 15) [(.va 4)]
  (nD (.is 1 0)
  (.storeM (.pa 0 16) [(.va 3)]
  (.ret true (.tup []) [])))))))
def b4A:PT :=
 (lO false (.pa 0 17) [.val]
  (nD (.is 0 2)
  (.both b4m b4t)))
def b4E:PT :=
 (.mkM (.slen 1) [(.bool (.t false))] 4 1 1
  (lO false (.pa 0 17) [.val]
  (nD (.is 0 3)
  (.mkM (.slen 3) [(jE 0),(jE 0),(jE 0),(jE 0),(jE 0),(jE 0)] 38 6 48
  (nD (.is 1 0)
  (.storeM (.pa 0 15) [(.va 4)]
  (nD (.is 1 0)
  (.storeM (.pa 0 16) [(.va 2)]
  (.ret true (.tup []) [])))))))))
def b4C:PT :=
 (lO false (.pa 0 17) [.val]
 (nD (.is 0 1)
 (.both b4A b4E)))
def a7O:PT :=
 (nD (.is 1 0)
 (nD (.is 1 0)
 (.both b5m b4C)))
def b1x:Sx.Sys:=⟨[(.sh (.one .val))],a7O,[],none,none⟩
def b5k:List Cfg:=[]
def a6c:PT :=
 (nD (.is 1 0)
 (nD (.is 1 0)
 (lO false (.pa 0 8) [.val]
 (nD (.is 0 1)
 (nD (treeB (.sub (.slen 1) (.l 1)))
 (lO false (.pa 0 8) [.val]
 (nD (treeI (.sub (.slen 1) (.l 1)) (.slen 2))
 (lO false (.ea 2 (.sub (.slen 1) (.l 1)) 9 7) [.val]
 (cA 36 [(.va 3)] [] [(.one .val)]
 (nD (.is 1 0)
 (lO false (.pa 0 17) [.val]
 (nD (.is 0 5)
 (jU 0 [(.slen 5),(.l 0)] [] [(.va 4),(.va 5)])))))))))))))
def a2m:PT :=
 (.ite (.lt (.a 1) (.a 0))
 (nD (treeI (.a 1) (.slen 1))
 (lO false (.ea 1 (.a 1) 1 0) [.bool]
 (.ite (.a 0)
  (nD (treeI (.a 1) (.slen 0))
  (.storeM (.ea 0 (.a 1) 6 0) [(jE 0),(jE 0),(jE 0),(jE 0),(jE 0),(jE 0)]
  (nD (treeB (jP 1))
  (jU 0 [(.a 0),(jP 1)] [] [(.va 0),(.va 1)]))))
  (nD (treeB (jP 1))
  (jU 0 [(.a 0),(jP 1)] [] [(.va 0),(.va 1)])))))
 (.ret true (.va 0) []))
def a1Q:Sx.Sys:=⟨[(.sh (.one .val))],a6c,[a2m],none,none⟩
def b3l:List Cfg:=[{todo:=[(.code (tfR 6 52)),(.inLoop (tfR 6 52)),(.inBlock 0),(.code [true,true,true])],sl:=[(.junk 0),.undef,(.junk 1),(.va 0)]++jkR 2 19++[(.va 1),(jA 0),(jA 1)]++jkR 21 10++[.undef],H:=[],ni:=2,nb:=0,nv:=2,nj:=31}]
theorem b4r:SysOk Try.prog 38 a1Q:=a0s (c:=(cg [(tfR 6 52)] [] [] true true false true)) (a0o _ _ _ _ _ _ _ _ _) Try.func38 Try.call38 (by kernel_rfl) b3l a1Q 5000 rfl (by kernel_rfl) (by kernel_rfl) rfl
def d9c:PT :=
 (nD (.is 4 0)
 (.ite (.nil 0)
 (.ret true (jE 6) [])
 (nD (.is 1 0)
 (lO false (.pa 0 18) [.bool]
 (.ite (.a 0)
  (.ret true (jE 10) [])
  (cA 30 [(.va 0)] [] []
  (nD (.is 1 0)
  (.storeM (.pa 0 18) [(.bool (.t true))]
  (.ret true (jE 0) [])))))))))
def d9a:Sx.Sys:=⟨[(.sh (.one .val))],d9c,[],none,none⟩
def d9H:List Cfg:=[]
theorem d9V:SysOk Try.prog 46 d9a:=a0s (c:=(cg [] [] [] true true false true)) (a0o _ _ _ _ _ _ _ _ _) Try.func46 Try.call46 (by kernel_rfl) d9H d9a 5000 rfl (by kernel_rfl) (by kernel_rfl) rfl
def b1h:PT :=
 (nD (.is 0 0)
 (.ite (.eq (.slen 0) (.l 0))
 (.ret false (jE 1) [])
 (nD (.is 0 0)
 (.ite (.lt (.l 6) (.slen 0))
  (.ret false (jE 3) [])
  (nD (.is 0 0)
  (jU 0 [(.slen 0),(.l 0)] [] [(.va 0)]))))))
def a5n:PT :=
 (.ite (.lt (.a 1) (.a 0))
 (nD (treeI (.a 1) (.slen 0))
 (lO false (.ea 0 (.a 1) 5 0) [.val,jD,jD,jD,jD]
 (cA 79 [(.va 1)] [] [(.one .bool)]
 (.ite (.not (.a 0))
  (.ret false (jE 5) [])
  (.cut 0 none (some (.a 1)) 5
  (cA 80 [(.va 2),(.va 1)] [] [(.one jD),(.one .bool)]
  (.ite (.a 1)
  (.ret false (jE 7) [])
  (cA 81 [(jA 2),(jE 1),(jE 4)] [] [(.one .bool)]
  (.ite (.not (.a 2))
   (.ret false (jE 4) [])
   (cA 81 [(jA 3),(jE 0),(jE 1000000)] [] [(.one .bool)]
   (.ite (.not (.a 3))
   (.ret false (jE 4) [])
   (cA 81 [(jA 4),(jE 0),(jE 1000)] [] [(.one .bool)]
   (.ite (.not (.a 4))
    (.ret false (jE 4) [])
    (cA 81 [(jA 5),(jE 0),(jE 4)] [] [(.one .bool)]
    (.ite (.not (.a 5))
    (.ret false (jE 4) [])
    (nD (treeB (jP 1))
    (jU 0 [(.a 0),(jP 1)] [] [(.va 0)])))))))))))))))))
 (cA 35 [(.va 0)] [] [(.agg [jD,jD,jD,jD,jD,jD])]
 (cA 82 [(.agg [(jA 2),(jA 3),(jA 4),(jA 5),(jA 6),(jA 7)])] [] [(.one jD)]
 (.ite (.eq (.a 8) (.l 0))
  (.ret false (jE 12) [])
  (.ret false (jE 0) [])))))
def a3G:Sx.Sys:=⟨[(.sh (.one .val))],b1h,[a5n],none,none⟩
def b9c:List Cfg:=[{todo:=[(.code (tfR 6 52)),(.inLoop (tfR 6 52)),(.inBlock 1),(.code [true,true,true])],sl:=[(.va 0),.undef]++jkR 0 13++[(.va 0),(jA 0),(jA 1)]++jkR 13 41++udR 4,H:=[],ni:=2,nb:=0,nv:=1,nj:=54}]
theorem c1m:SysOk Try.prog 54 a3G:=a0s (c:=(cg [(tfR 6 52)] [] [] false false false true)) (a0o _ _ _ _ _ _ _ _ _) Try.func54 Try.call54 (by kernel_rfl) b9c a3G 5000 rfl (by kernel_rfl) (by kernel_rfl) rfl
def b1n:PT :=
 (.ite (.lt (.a 0) (.l 0))
 (.ret false (jE 6) [])
 (nD (.is 0 1)
 (.ite (.le (.slen 1) (.a 0))
  (.ret false (jE 6) [])
  (cA 67 [(.agg [(jA 1),(jA 2),(jA 3),(jA 4),(jA 5),(jA 6)])] [] [(.one jD)]
  (.ite (.not (.eq (.a 7) (.l 0)))
  (.ret false (jA 7) [])
  (cA 84 [(.agg [(.va 0),(.va 1),(.va 2),(.va 3)])] [] [(.agg [jD,jD,jD,jD,jD,jD]),(.agg [jD,jD,jD,jD,jD,jD])]
  (cA 35 [(.va 0)] [] [(.agg [jD,jD,jD,jD,jD,jD])]
  (cA 85 [(.agg [(jA 1),(jA 2),(jA 3),(jA 4),(jA 5),(jA 6)]),(.agg [(jA 20),(jA 21),(jA 22),(jA 23),(jA 24),(jA 25)])] [] [(.one .bool)]
  (.ite (.not (.a 0))
   (.ret false (jE 14) [])
   (cA 86 [(.agg [(.va 0),(.va 1),(.va 2),(.va 3)]),(.agg [(jA 14),(jA 15),(jA 16),(jA 17),(jA 18),(jA 19)]),(jA 0),(.agg [(jA 1),(jA 2),(jA 3),(jA 4),(jA 5),(jA 6)])] [] [(.agg [jD,jD,jD,jD,jD,jD])]
   (cA 85 [(.agg [(jA 26),(jA 27),(jA 28),(jA 29),(jA 30),(jA 31)]),(.agg [(jA 8),(jA 9),(jA 10),(jA 11),(jA 12),(jA 13)])] [] [(.one .bool)]
   (.ite (.not (.a 1))
   (.ret false (jE 14) [])
   (nD (.is 0 2)
   (jU 0 [(.a 0),(.slen 2),(.l 0),(.a 1),(.a 2),(.a 3),(.a 4),(.a 5),(.a 6)] [] [(.va 2),(.va 0),(.va 1),(.va 3)]))))))))))))))
def a5q:PT :=
 (.ite (.lt (.a 2) (.a 1))
 (nD (treeI (.a 2) (.slen 0))
 (lO false (.ea 0 (.a 2) 3 0) [jD,jD,jD]
 (.ite (.eq (.a 9) (.l (-1)))
  (cA 87 [(.va 1),(jA 10),(.agg [(jA 3),(jA 4),(jA 5),(jA 6),(jA 7),(jA 8)])] [] [(.one jD)]
  (.ite (.lt (.a 11) (.a 12))
  (.ret false (jE 14) [])
  (nD (treeB (jP 2))
  (jU 0 [(.a 0),(.a 1),(jP 2),(.a 3),(.a 4),(.a 5),(.a 6),(.a 7),(.a 8)] [] [(.va 0),(.va 1),(.va 2),(.va 3)]))))
  (.ite (.eq (.a 9) (.a 0))
  (cA 87 [(.va 1),(jA 10),(.agg [(jA 3),(jA 4),(jA 5),(jA 6),(jA 7),(jA 8)])] [] [(.one jD)]
  (.ite (.lt (.a 11) (.a 12))
   (.ret false (jE 14) [])
   (nD (treeB (jP 2))
   (jU 0 [(.a 0),(.a 1),(jP 2),(.a 3),(.a 4),(.a 5),(.a 6),(.a 7),(.a 8)] [] [(.va 0),(.va 1),(.va 2),(.va 3)]))))
  (nD (treeB (jP 2))
  (jU 0 [(.a 0),(.a 1),(jP 2),(.a 3),(.a 4),(.a 5),(.a 6),(.a 7),(.a 8)] [] [(.va 0),(.va 1),(.va 2),(.va 3)]))))))
 (.ret false (jE 0) []))
def a3z:Sx.Sys:=⟨[(.sh (.agg [.val,.val,.val,.val])),(.sh (.one jD)),(.sh (.agg [jD,jD,jD,jD,jD,jD]))],b1n,[a5q],none,none⟩
def b9I:List Cfg:=[{todo:=[(.code (tfR 9 500)),(.inLoop (tfR 9 500)),(.inBlock 0),(.code (tfR 6 63))],sl:=[(.junk 0),(jA 0),(.junk 1),(.ptr 0 0),.undef,(.ptr 1 0)]++jkR 2 4++[.undef]++jkR 6 14++[.undef]++jkR 20 22++[(.va 0),(jA 1),(jA 2)]++jkR 42 24,H:=[(.cells [(.va 1),(.va 2),(.va 0),(.va 3)] 27 false),(.cells [(jA 3),(jA 4),(jA 5),(jA 6),(jA 7),(jA 8)] 38 false)],ni:=9,nb:=0,nv:=4,nj:=66}]
theorem c1O:SysOk Try.prog 62 a3z:=a0s (c:=(cg [(tfR 9 500)] [] [] false false false true)) (a0o _ _ _ _ _ _ _ _ _) Try.func62 Try.call62 (by kernel_rfl) b9I a3z 5000 rfl (by kernel_rfl) (by kernel_rfl) rfl
def a9C:PT :=
 (.ite (.lt (.a 0) (.l 1))
 (.ret false (jE 4) [])
 (.ite (.lt (.l 3) (.a 0))
  (.ret false (jE 4) [])
  (nD (.is 0 0)
  (nD (.is 0 1)
  (.ite (.not (.eq (.slen 0) (.slen 1)))
  (.ret false (jE 3) [])
  (nD (.is 0 0)
  (.ite (.lt (.l 8) (.slen 0))
   (.ret false (jE 3) [])
   (cA 67 [(.agg [(jA 1),(jA 2),(jA 3),(jA 4),(jA 5),(jA 6)])] [] [(.one jD)]
   (.ite (.not (.eq (.a 7) (.l 0)))
   (.ret false (jE 4) [])
   (nD (.is 0 0)
   (jU 0 [(.l 0),(.slen 0),(.l 0)] [] [(.va 0),(.va 1),(.va 0)])))))))))))
def a2F:PT :=
 (.ite (.lt (.a 2) (.a 1))
 (nD (treeI (.a 2) (.slen 2))
 (lO false (.ea 2 (.a 2) 6 0) [jD,jD,jD,jD,jD,jD]
 (cA 67 [(.agg [(jA 3),(jA 4),(jA 5),(jA 6),(jA 7),(jA 8)])] [] [(.one jD)]
 (.ite (.not (.eq (.a 9) (.l 0)))
  (.ret false (jE 4) [])
  (nD (treeB (jP 2))
  (jU 0 [(.a 0),(.a 1),(jP 2)] [] [(.va 0),(.va 1),(.va 2)]))))))
 (nD (treeB (jP 0))
 (.ite (.lt (jP 0) (.l 2))
  (.ite (.eq (jP 0) (.l 1))
  (nD (.is 0 1)
  (jU 0 [(.l 1),(.slen 1),(.l 0)] [] [(.va 0),(.va 1),(.va 1)]))
  (.ite (.eq (jP 0) (.l 0))
   (nD (.is 0 0)
   (jU 0 [(.l 0),(.slen 0),(.l 0)] [] [(.va 0),(.va 1),(.va 0)]))
   .stuck))
  (.ret false (jE 0) []))))
def a1p:Sx.Sys:=⟨[(.sh (.one jD)),(.sh (.agg [jD,jD,jD,jD,jD,jD])),(.sh (.one .val)),(.sh (.one .val))],a9C,[a2F],none,none⟩
def b8g:List Cfg:=[{todo:=[(.code (tfR 14 13516)),(.inLoop (tfR 14 13516)),(.inBlock 3),(.inBlock 2),(.code (tfR 9 423)),(.inLoop (tfR 6 52)),(.inBlock 1),(.code [true,true,true])],sl:=jkR 0 4++[.undef,(.junk 4),.undef,.undef,(.junk 5),.undef,(.junk 6),.undef]++jkR 7 25++[(.agg [(.va 0),(.va 1)]),(jA 0),(.junk 32),(.junk 33),(.va 2),(jA 1),(jA 2)]++jkR 34 8,H:=[],ni:=3,nb:=0,nv:=3,nj:=42}]
theorem b8Z:SysOk Try.prog 70 a1p:=a0s (c:=(cg [(tfR 14 13516)] [] [] true false false true)) (a0o _ _ _ _ _ _ _ _ _) Try.func70 Try.call70 (by kernel_rfl) b8g a1p 5000 rfl (by kernel_rfl) (by kernel_rfl) rfl
def b0l:PT :=
 (.mkMap .i64
 (jU 0 [(.a 0)] [] [(.va 0),(.va 1)]))
def a4O:PT :=
 (.mapGet 1 .i64 (.a 0) (.bool (.t false)) false [(.one .bool)]
 (.ite (.not (.a 0))
 (.mapSet 1 .i64 (.a 0) (.bool (.t true))
 (nD (treeI (.a 0) (.slen 0))
 (lO false (.ea 0 (.a 0) 1 0) [jD]
 (jU 0 [(.a 1)] [] [(.va 0),(.va 1)]))))
 (.mapClr 1
 (jU 1 [(.a 0)] [] [(.va 0),(.va 1),.nilS]))))
def a3J:PT :=
 (.mapGet 1 .i64 (.a 0) (.bool (.t false)) false [(.one .bool)]
 (.ite (.not (.a 0))
 (.mapSet 1 .i64 (.a 0) (.bool (.t true))
 (.app none (.lit [[(jA 0)]]) 1
 (.appM (.va 2) (.va 3) 1 3
 (nD (treeI (.a 0) (.slen 0))
 (lO false (.ea 0 (.a 0) 1 0) [jD]
 (jU 1 [(.a 1)] [] [(.va 0),(.va 1),(.va 4)]))))))
 (nD (.is 0 2)
 (.mkM (.slen 2) [(jE 0)] 3 1 8
 (nD (.is 0 2)
 (jU 2 [(.slen 2),(.l 0)] [] [(.va 2),(.va 3)]))))))
def a4S:PT :=
 (.ite (.lt (.a 1) (.a 0))
 (nD (treeI (.a 1) (.slen 0))
 (lO false (.ea 0 (.a 1) 1 0) [jD]
 (nD (.is 0 0)
 (nD (treeB (.sub (.slen 0) (.l 1)))
 (nD (treeB (.sub (.sub (.slen 0) (.l 1)) (.a 1)))
 (nD (treeI (.sub (.sub (.slen 0) (.l 1)) (.a 1)) (.slen 1))
 (.storeM (.ea 1 (.sub (.sub (.slen 0) (.l 1)) (.a 1)) 1 0) [(jA 2)]
 (nD (treeB (jP 1))
 (jU 2 [(.a 0),(jP 1)] [] [(.va 0),(.va 1)])))))))))
 (.ret false (.va 1) []))
def a0w:Sx.Sys:=⟨[(.sh (.one .val)),(.sh (.one jD))],b0l,[a4O,a3J,a4S],none,none⟩
def b8q:List Cfg:=[{todo:=[(.code (tfR 5 24)),(.inLoop (tfR 5 24)),(.inBlock 0),(.code [true,true,true])],sl:=[(.va 0),(jA 0),.undef,.undef,(.junk 0),(.va 1)]++udR 4++jkR 1 11++udR 35,H:=[],ni:=1,nb:=0,nv:=2,nj:=12},
 {todo:=[(.code (tfR 8 248)),(.inLoop (tfR 8 248)),(.inBlock 2),(.code (tfR 6 63))],sl:=[(.va 0),(jA 0),.undef,.undef,(.junk 0),(.va 1),(.va 2),.undef,.undef,.undef]++jkR 1 26++udR 20,H:=[],ni:=1,nb:=0,nv:=3,nj:=27},
 {todo:=[(.code (tfR 11 2036)),(.inLoop (tfR 11 2036)),(.inBlock 4),(.code (tfR 8 255))],sl:=[(.junk 0),(.junk 1),.undef,.undef,(.junk 2),(.junk 3),(.va 0),(.va 1)]++jkR 4 31++[(.va 0),(jA 0),(jA 1)]++jkR 35 13++[.undef],H:=[],ni:=2,nb:=0,nv:=2,nj:=48}]
theorem c0r:SysOk Try.prog 78 a0w:=a0s (c:=(cg [(tfR 5 24),(tfR 8 248),(tfR 11 2036)] [] [] true false true true)) (a0o _ _ _ _ _ _ _ _ _) Try.func78 Try.call78 (by kernel_rfl) b8q a0w 5000 rfl (by kernel_rfl) (by kernel_rfl) rfl
def b1d:PT :=
 (jU 0 [(.a 6),(.l 0),(.a 0),(.a 1),(.a 2),(.a 3),(.a 4),(.a 5),(.a 7),(.a 8),(.a 9),(.a 10),(.a 11),(.a 12)] [] [(.va 0),(.va 1),(.va 2),(.va 3)])
def a1j:PT :=
 (.ite (.lt (.a 1) (.l 6))
 (.ite (.eq (.a 1) (.l 5))
  (.ite (.eq (.a 7) (.l 0))
  (jU 0 [(.a 0),(.l 6),(.a 2),(.a 3),(.a 4),(.a 5),(.a 6),(.a 7),(.a 8),(.a 9),(.a 10),(.a 11),(.a 12),(.l 0)] [] [(.va 0),(.va 1),(.va 2),(.va 3)])
  (nD (treeI (.a 0) (.slen 1))
  (lO true (.ea 1 (.a 0) 4 1) [jD]
  (.ite (.eq (.a 7) (.a 14))
   (jU 0 [(.a 0),(.l 6),(.a 2),(.a 3),(.a 4),(.a 5),(.a 6),(.a 7),(.a 8),(.a 9),(.a 10),(.a 11),(.a 12),(.l 0)] [] [(.va 0),(.va 1),(.va 2),(.va 3)])
   (jU 0 [(.a 0),(.l 6),(.a 2),(.a 3),(.a 4),(.a 5),(.a 6),(.a 7),(.a 8),(.a 9),(.a 10),(.a 11),(.a 12),(.a 13)] [] [(.va 0),(.va 1),(.va 2),(.va 3)])))))
  (.ite (.eq (.a 1) (.l 4))
  (.ite (.eq (.a 6) (.l 0))
   (jU 0 [(.a 0),(.l 5),(.a 2),(.a 3),(.a 4),(.a 5),(.a 6),(.a 7),(.a 8),(.a 9),(.a 10),(.a 11),(.l 0),(.a 13)] [] [(.va 0),(.va 1),(.va 2),(.va 3)])
   (nD (treeI (.a 0) (.slen 1))
   (lO true (.ea 1 (.a 0) 4 1) [jD]
   (.ite (.eq (.a 6) (.a 14))
   (jU 0 [(.a 0),(.l 5),(.a 2),(.a 3),(.a 4),(.a 5),(.a 6),(.a 7),(.a 8),(.a 9),(.a 10),(.a 11),(.l 0),(.a 13)] [] [(.va 0),(.va 1),(.va 2),(.va 3)])
   (jU 0 [(.a 0),(.l 5),(.a 2),(.a 3),(.a 4),(.a 5),(.a 6),(.a 7),(.a 8),(.a 9),(.a 10),(.a 11),(.a 12),(.a 13)] [] [(.va 0),(.va 1),(.va 2),(.va 3)])))))
  (.ite (.eq (.a 1) (.l 3))
   (.ite (.eq (.a 5) (.l 0))
   (jU 0 [(.a 0),(.l 4),(.a 2),(.a 3),(.a 4),(.a 5),(.a 6),(.a 7),(.a 8),(.a 9),(.a 10),(.l 0),(.a 12),(.a 13)] [] [(.va 0),(.va 1),(.va 2),(.va 3)])
   (nD (treeI (.a 0) (.slen 1))
   (lO true (.ea 1 (.a 0) 4 1) [jD]
   (.ite (.eq (.a 5) (.a 14))
    (jU 0 [(.a 0),(.l 4),(.a 2),(.a 3),(.a 4),(.a 5),(.a 6),(.a 7),(.a 8),(.a 9),(.a 10),(.l 0),(.a 12),(.a 13)] [] [(.va 0),(.va 1),(.va 2),(.va 3)])
    (jU 0 [(.a 0),(.l 4),(.a 2),(.a 3),(.a 4),(.a 5),(.a 6),(.a 7),(.a 8),(.a 9),(.a 10),(.a 11),(.a 12),(.a 13)] [] [(.va 0),(.va 1),(.va 2),(.va 3)])))))
   (.ite (.eq (.a 1) (.l 2))
   (.ite (.eq (.a 4) (.l 0))
    (jU 0 [(.a 0),(.l 3),(.a 2),(.a 3),(.a 4),(.a 5),(.a 6),(.a 7),(.a 8),(.a 9),(.l 0),(.a 11),(.a 12),(.a 13)] [] [(.va 0),(.va 1),(.va 2),(.va 3)])
    (nD (treeI (.a 0) (.slen 1))
    (lO true (.ea 1 (.a 0) 4 1) [jD]
    (.ite (.eq (.a 4) (.a 14))
    (jU 0 [(.a 0),(.l 3),(.a 2),(.a 3),(.a 4),(.a 5),(.a 6),(.a 7),(.a 8),(.a 9),(.l 0),(.a 11),(.a 12),(.a 13)] [] [(.va 0),(.va 1),(.va 2),(.va 3)])
    (jU 0 [(.a 0),(.l 3),(.a 2),(.a 3),(.a 4),(.a 5),(.a 6),(.a 7),(.a 8),(.a 9),(.a 10),(.a 11),(.a 12),(.a 13)] [] [(.va 0),(.va 1),(.va 2),(.va 3)])))))
   (.ite (.eq (.a 1) (.l 1))
    (.ite (.eq (.a 3) (.l 0))
    (jU 0 [(.a 0),(.l 2),(.a 2),(.a 3),(.a 4),(.a 5),(.a 6),(.a 7),(.a 8),(.l 0),(.a 10),(.a 11),(.a 12),(.a 13)] [] [(.va 0),(.va 1),(.va 2),(.va 3)])
    (nD (treeI (.a 0) (.slen 1))
    (lO true (.ea 1 (.a 0) 4 1) [jD]
    (.ite (.eq (.a 3) (.a 14))
     (jU 0 [(.a 0),(.l 2),(.a 2),(.a 3),(.a 4),(.a 5),(.a 6),(.a 7),(.a 8),(.l 0),(.a 10),(.a 11),(.a 12),(.a 13)] [] [(.va 0),(.va 1),(.va 2),(.va 3)])
     (jU 0 [(.a 0),(.l 2),(.a 2),(.a 3),(.a 4),(.a 5),(.a 6),(.a 7),(.a 8),(.a 9),(.a 10),(.a 11),(.a 12),(.a 13)] [] [(.va 0),(.va 1),(.va 2),(.va 3)])))))
    (.ite (.eq (.a 1) (.l 0))
    (.ite (.eq (.a 2) (.l 0))
     (jU 0 [(.a 0),(.l 1),(.a 2),(.a 3),(.a 4),(.a 5),(.a 6),(.a 7),(.l 0),(.a 9),(.a 10),(.a 11),(.a 12),(.a 13)] [] [(.va 0),(.va 1),(.va 2),(.va 3)])
     (nD (treeI (.a 0) (.slen 1))
     (lO true (.ea 1 (.a 0) 4 1) [jD]
     (.ite (.eq (.a 2) (.a 14))
     (jU 0 [(.a 0),(.l 1),(.a 2),(.a 3),(.a 4),(.a 5),(.a 6),(.a 7),(.l 0),(.a 9),(.a 10),(.a 11),(.a 12),(.a 13)] [] [(.va 0),(.va 1),(.va 2),(.va 3)])
     (jU 0 [(.a 0),(.l 1),(.a 2),(.a 3),(.a 4),(.a 5),(.a 6),(.a 7),(.a 8),(.a 9),(.a 10),(.a 11),(.a 12),(.a 13)] [] [(.va 0),(.va 1),(.va 2),(.va 3)])))))
    .stuck))))))
 (.ret false (.agg [(jA 8),(jA 9),(jA 10),(jA 11),(jA 12),(jA 13)]) []))
def a0E:Sx.Sys:=⟨[(.sh (.agg [.val,.val,.val,.val])),(.sh (.agg [jD,jD,jD,jD,jD,jD])),(.sh (.one jD)),(.sh (.agg [jD,jD,jD,jD,jD,jD]))],b1d,[a1j],none,none⟩
def b8W:List Cfg:=[{todo:=[(.code (tfR 5 20)),(.inLoop (tfR 5 20)),(.inBlock 0),(.code [true,true])],sl:=[(.junk 0),(.junk 1),(jA 0),(.junk 2),(.ptr 0 0),(.ptr 1 0),.undef,(.ptr 2 0),(.ptr 3 0),(.junk 3),(jA 1)]++jkR 4 21++[.undef],H:=[(.cells [(.va 0),(.va 1),(.va 2),(.va 3)] 27 false),(.cells [(jA 2),(jA 3),(jA 4),(jA 5),(jA 6),(jA 7)] 38 false),(.cells [(jA 8),(jA 9),(jA 10),(jA 11),(jA 12),(jA 13)] 38 false),(.cells [(jE 0),(jE 0),(jE 0),(jE 0),(jE 0),(jE 0)] 38 false)],ni:=14,nb:=0,nv:=4,nj:=25}]
theorem c1r:SysOk Try.prog 86 a0E:=a0s (c:=(cg [(tfR 5 20)] [] [] false false false true)) (a0o _ _ _ _ _ _ _ _ _) Try.func86 Try.call86 (by kernel_rfl) b8W a0E 5000 rfl (by kernel_rfl) (by kernel_rfl) rfl
def b2P:PT :=
 (cA 92 [(.int .i32 (.a 0))] [] [(.one .bool)]
 (.ite (.a 0)
 (.ret false (.bool (.t true)) [])
 (cA 100 [(.int .i32 (.a 0))] [] [(.one .bool)]
 (.ite (.a 1)
  (.ret false (.bool (.t true)) [])
  (.ret false (.bool (.eq (.a 0) (.l 95))) [])))))
def b0a:Sx.Sys:=⟨[(.sh (.one (.int .i32)))],b2P,[],none,none⟩
def c1y:List Cfg:=[]
theorem c3R:SysOk Try.prog 94 b0a:=a0s (c:=(cg [] [] [] false false false true)) (a0o _ _ _ _ _ _ _ _ _) Try.func94 Try.call94 (by kernel_rfl) c1y b0a 5000 rfl (by kernel_rfl) (by kernel_rfl) rfl
def b6M:PT :=
 (cA 24 [] [] [(.agg [.val,.val,.val,.val])]
 (cA 8 [(.agg [(.va 0),(.va 1),(.va 2),(.va 3)]),(.agg [(jE 1),(jE 0),(jE 1),(jE 2)])] [] [(.one .val),(.one jD)]
 (.ite (.not (.eq (.a 0) (.l 0)))
 rF
 (nD (.is 4 4)
 (.ite (.nil 4)
  rF
  (cA 11 [(.va 4),(jE 0),(.agg [(jE 1),(jE 0),(jE 0),(jE 0),(jE 0),(jE 0)])] [] [(.one jD)]
  (cA 11 [(.va 4),(jE 1),(.agg [(jE 1),(jE 0),(jE 0),(jE 0),(jE 0),(jE 0)])] [] [(.one jD)]
  (cA 13 [(.va 4)] [] [(.one .bool),(.one jD)]
  (cA 11 [(.va 4),(jE 0),(.agg [(jE 1),(jE 0),(jE 0),(jE 0),(jE 0),(jE 0)])] [] [(.one jD)]
  (cA 11 [(.va 4),(jE 1),(.agg [(jE 1),(jE 0),(jE 0),(jE 0),(jE 0),(jE 0)])] [] [(.one jD)]
  (cA 13 [(.va 4)] [] [(.one .bool),(.one jD)]
  (cA 11 [(.va 4),(jE 1),(.agg [(jE 1),(jE 0),(jE 0),(jE 0),(jE 0),(jE 0)])] [] [(.one jD)]
  (cA 13 [(.va 4)] [] [(.one .bool),(.one jD)]
  (cA 22 [(.va 4),(jE 1)] [] [(.one .val)]
  (.ite (.eq (.a 1) (.l 0))
  (.ite (.eq (.a 2) (.l 0))
   (.ite (.not (.a 0))
   (.ite (.eq (.a 3) (.l 0))
    (.ite (.not (.a 1))
    (.ite (.eq (.a 6) (.l 0))
     (.ite (.a 2)
     (.ite (.eq (.a 8) (.l 0))
      (cA 10 [(.va 4)] [] [(.one .bool)]
      (.ite (.a 3)
      (cA 25 [(.va 4)] [] [(.one jD)]
      (.ite (.eq (.a 9) (.l 3))
       (cA 12 [(.va 4)] [] [(.agg [jD,jD,jD,jD,jD,jD])]
       (.ite (.and (.eq (.a 10) (.l 2)) (.and (.eq (.a 11) (.l 0)) (.and (.eq (.a 12) (.l 0)) (.and (.eq (.a 13) (.l 0)) (.and (.eq (.a 14) (.l 0)) (.eq (.a 15) (.l 0)))))))
       (nD (.is 0 5)
       (.ite (.eq (.slen 5) (.l 3))
        (nD (.lt (.l 2) (.slen 5))
        (lO true (.ea 5 (.l 2) 12 6) [jD,jD,jD,jD,jD,jD]
        (.ite (.and (.eq (.a 16) (.l 1)) (.and (.eq (.a 17) (.l 0)) (.and (.eq (.a 18) (.l 0)) (.and (.eq (.a 19) (.l 0)) (.and (.eq (.a 20) (.l 0)) (.eq (.a 21) (.l 0)))))))
        (cA 11 [(.va 4),(jE 0),(.agg [(jE 1),(jE 0),(jE 0),(jE 0),(jE 0),(jE 0)])] [] [(.one jD)]
        (.ite (.eq (.a 22) (.l 10))
         (cA 17 [(.va 4),(jE 1)] [] [(.one jD)]
         (.ite (.eq (.a 23) (.l 0))
         (cA 12 [(.va 4)] [] [(.agg [jD,jD,jD,jD,jD,jD])]
         (.ite (.and (.eq (.a 24) (.l 1)) (.and (.eq (.a 25) (.l 0)) (.and (.eq (.a 26) (.l 0)) (.and (.eq (.a 27) (.l 0)) (.and (.eq (.a 28) (.l 0)) (.eq (.a 29) (.l 0)))))))
          (cA 10 [(.va 4)] [] [(.one .bool)]
          (.ret false (.bool (.not (.a 4))) []))
          rF))
         rF))
         rF))
        rF)))
        rF))
       rF))
       rF))
      rF))
      rF)
     rF)
     rF)
    rF)
    rF)
   rF)
   rF)
  rF)))))))))))))))
def a6M:Sx.Sys:=⟨[],b6M,[],none,none⟩
def b4e:List Cfg:=[]
theorem b5a:SysOk Try.prog 7 a6M:=a0s (c:=(cg [] [] [] false false false true)) (a0o _ _ _ _ _ _ _ _ _) Try.func7 Try.call7 (by kernel_rfl) b4e a6M 5000 rfl (by kernel_rfl) (by kernel_rfl) rfl
def b1K:PT :=
 (cA 43 [(.va 0)] [] [(.agg [jD,jD,jD,jD,jD,jD])]
 (cA 42 [(.agg [(jA 6),(jA 7),(jA 8),(jA 9),(jA 10),(jA 11)]),(.agg [(jA 0),(jA 1),(jA 2),(jA 3),(jA 4),(jA 5)])] [] [(.agg [jD,jD,jD,jD,jD,jD])]
 (.ret false (.agg [(jA 12),(jA 13),(jA 14),(jA 15),(jA 16),(jA 17)]) [])))
def a8W:Sx.Sys:=⟨[(.sh (.agg [jD,jD,jD,jD,jD,jD])),(.sh (.one .val))],b1K,[],none,none⟩
def c0w:List Cfg:=[]
theorem c2s:SysOk Try.prog 15 a8W:=a0s (c:=(cg [] [] [] true false false true)) (a0o _ _ _ _ _ _ _ _ _) Try.func15 Try.call15 (by kernel_rfl) c0w a8W 5000 rfl (by kernel_rfl) (by kernel_rfl) rfl
def d9u:PT :=
 (cA 48 [(.va 0)] [] [(.one .bool)]
 (.ite (.not (.a 0))
 (.ret false (jE 4) [])
 (cA 51 [(.va 0),(.agg [(.va 1),(.va 2)])] [] [(.one .bool)]
 (.ite (.not (.a 1))
  (.ret false (jE 2) [])
  (nD (.is 0 1)
  (.ite (.eq (.slen 1) (.l 0))
  (cA 52 [(.va 0),(.va 2)] [] [(.one .bool)]
  (.ite (.not (.a 2))
   (.ret false (jE 13) [])
   (.ret false (jE 0) [])))
  (nD (.is 0 1)
  (jU 0 [(.l 0),(.slen 1),(.l 0)] [] [(.va 0),(.va 1),(.va 2)]))))))))
def d9n:PT :=
 (.ite (.lt (.a 2) (.a 1))
 (nD (treeI (.a 2) (.slen 1))
 (lO false (.ea 1 (.a 2) 1 0) [jD]
 (nD (treeI (.a 3) (.slen 0))
 (nD (treeB (jP 2))
 (nD (.is 0 1)
 (nD (.not (.eq (.slen 1) (.l 0)))
 (nD (treeI (.tmod (jP 2) (.slen 1)) (.slen 1))
 (lO true (.ea 0 (.a 3) 12 0) [jD,jD,jD,jD,jD,jD,jD,jD,jD,jD,jD,jD]
 (lO true (.ea 1 (.tmod (jP 2) (.slen 1)) 1 0) [jD]
 (nD (treeI (.a 16) (.slen 0))
 (lO true (.ea 0 (.a 16) 12 0) [jD,jD,jD,jD,jD,jD,jD,jD,jD,jD,jD,jD]
 (cA 53 [(.agg [(jA 4),(jA 5),(jA 6),(jA 7),(jA 8),(jA 9),(jA 10),(jA 11),(jA 12),(jA 13),(jA 14),(jA 15)]),(.agg [(jA 17),(jA 18),(jA 19),(jA 20),(jA 21),(jA 22),(jA 23),(jA 24),(jA 25),(jA 26),(jA 27),(jA 28)])] [] [(.one jD)]
 (nD (treeB (.add (.a 0) (.a 29)))
 (nD (treeB (jP 2))
 (jU 0 [(.add (.a 0) (.a 29)),(.a 1),(jP 2)] [] [(.va 0),(.va 1),(.va 2)])))))))))))))))
 (.ite (.le (.l 0) (.a 0))
  (.ret false (jE 13) [])
  (.ret false (jE 0) [])))
def d8Y:Sx.Sys:=⟨[(.sh (.one .val)),(.sh (.agg [.val,.val]))],d9u,[d9n],none,none⟩
def d9M:List Cfg:=[{todo:=[(.code (tfR 9 500)),(.inLoop (tfR 9 500)),(.inBlock 0),(.code (tfR 6 63))],sl:=[(.va 0),(.junk 0),.undef,(.ptr 0 0),(.junk 1),(jA 0)]++jkR 2 13++udR 5++[(.junk 15),(.va 1),(jA 1),(jA 2)]++jkR 16 25++[.undef,.undef],H:=[(.cells [(.va 1),(.va 2)] 66 false)],ni:=3,nb:=0,nv:=3,nj:=41}]
theorem e0b:SysOk Try.prog 23 d8Y:=a0s (c:=(cg [(tfR 9 500)] [] [] false false false true)) (a0o _ _ _ _ _ _ _ _ _) Try.func23 Try.call23 (by kernel_rfl) d9M d8Y 5000 rfl (by kernel_rfl) (by kernel_rfl) rfl
def a9A:PT :=
 (.ite (.le (.l 0) (.a 0))
 (nD (.is 1 0)
 (lO false (.pa 0 17) [.val]
 (nD (.is 0 1)
 (.ret false (.bool (.lt (.a 0) (.slen 1))) []))))
 rF)
def a6E:Sx.Sys:=⟨[(.sh (.one .val)),(.sh (.one jD))],a9A,[],none,none⟩
def b7m:List Cfg:=[]
theorem b9v:SysOk Try.prog 31 a6E:=a0s (c:=(cg [] [] [] false false false true)) (a0o _ _ _ _ _ _ _ _ _) Try.func31 Try.call31 (by kernel_rfl) b7m a6E 5000 rfl (by kernel_rfl) (by kernel_rfl) rfl
def a7g:PT :=
 (cA 75 [(.agg [(jA 0),(jA 1),(jA 2),(jA 3)])] [] [(.one .val)]
  (jU 0 [(.a 10),(.a 11),(.a 12),(.a 13),(.a 14),(.a 15),(.l 0),(.a 0),(.a 1),(.a 2),(.a 3),(.a 4),(.a 5),(.a 6),(.a 7),(.a 8),(.a 9),(.a 4),(.a 5),(.a 6),(.a 7),(.a 8),(.a 9)] [] [(.va 0)]))
def a6D:PT :=
 (cA 27 [(.agg [(jA 0),(jA 1),(jA 2),(jA 3)])] [] [(.one jD)]
 (.ite (.not (.eq (.a 16) (.l 0)))
 (.ret false (.tup [(.agg [(jE 0),(jE 0),(jE 0),(jE 0),(jE 0),(jE 0)]),(jA 16)]) [])
 (.both a7g a7g)))
def a0Z:PT :=
 (.ite (.lt (.a 6) (.l 6))
 (.ite (.eq (.a 6) (.l 5))
  (.ite (.lt (.l 0) (.a 5))
  (cA 76 [(.agg [(jA 11),(jA 12),(jA 13),(jA 14),(jA 15),(jA 16)])] [] [(.one .bool)]
  (.ite (.a 0)
   (.callv 0 [(jA 16)] [(.one jD)]
   (jU 0 [(.a 0),(.a 1),(.a 2),(.a 3),(.a 4),(.a 5),(.l 6),(.a 7),(.a 8),(.a 9),(.a 10),(.a 11),(.a 12),(.a 13),(.a 14),(.a 15),(.a 16),(.a 17),(.a 18),(.a 19),(.a 20),(.a 21),(.a 23)] [] [(.va 0)]))
   (jU 0 [(.a 0),(.a 1),(.a 2),(.a 3),(.a 4),(.a 5),(.l 6),(.a 7),(.a 8),(.a 9),(.a 10),(.a 11),(.a 12),(.a 13),(.a 14),(.a 15),(.a 16),(.a 17),(.a 18),(.a 19),(.a 20),(.a 21),(.a 22)] [] [(.va 0)])))
  (jU 0 [(.a 0),(.a 1),(.a 2),(.a 3),(.a 4),(.a 5),(.l 6),(.a 7),(.a 8),(.a 9),(.a 10),(.a 11),(.a 12),(.a 13),(.a 14),(.a 15),(.a 16),(.a 17),(.a 18),(.a 19),(.a 20),(.a 21),(.a 22)] [] [(.va 0)]))
  (.ite (.eq (.a 6) (.l 4))
  (.ite (.lt (.l 0) (.a 4))
   (cA 76 [(.agg [(jA 11),(jA 12),(jA 13),(jA 14),(jA 15),(jA 16)])] [] [(.one .bool)]
   (.ite (.a 0)
   (.callv 0 [(jA 15)] [(.one jD)]
   (jU 0 [(.a 0),(.a 1),(.a 2),(.a 3),(.a 4),(.a 5),(.l 5),(.a 7),(.a 8),(.a 9),(.a 10),(.a 11),(.a 12),(.a 13),(.a 14),(.a 15),(.a 16),(.a 17),(.a 18),(.a 19),(.a 20),(.a 23),(.a 22)] [] [(.va 0)]))
   (jU 0 [(.a 0),(.a 1),(.a 2),(.a 3),(.a 4),(.a 5),(.l 5),(.a 7),(.a 8),(.a 9),(.a 10),(.a 11),(.a 12),(.a 13),(.a 14),(.a 15),(.a 16),(.a 17),(.a 18),(.a 19),(.a 20),(.a 21),(.a 22)] [] [(.va 0)])))
   (jU 0 [(.a 0),(.a 1),(.a 2),(.a 3),(.a 4),(.a 5),(.l 5),(.a 7),(.a 8),(.a 9),(.a 10),(.a 11),(.a 12),(.a 13),(.a 14),(.a 15),(.a 16),(.a 17),(.a 18),(.a 19),(.a 20),(.a 21),(.a 22)] [] [(.va 0)]))
  (.ite (.eq (.a 6) (.l 3))
   (.ite (.lt (.l 0) (.a 3))
   (cA 76 [(.agg [(jA 11),(jA 12),(jA 13),(jA 14),(jA 15),(jA 16)])] [] [(.one .bool)]
   (.ite (.a 0)
    (.callv 0 [(jA 14)] [(.one jD)]
    (jU 0 [(.a 0),(.a 1),(.a 2),(.a 3),(.a 4),(.a 5),(.l 4),(.a 7),(.a 8),(.a 9),(.a 10),(.a 11),(.a 12),(.a 13),(.a 14),(.a 15),(.a 16),(.a 17),(.a 18),(.a 19),(.a 23),(.a 21),(.a 22)] [] [(.va 0)]))
    (jU 0 [(.a 0),(.a 1),(.a 2),(.a 3),(.a 4),(.a 5),(.l 4),(.a 7),(.a 8),(.a 9),(.a 10),(.a 11),(.a 12),(.a 13),(.a 14),(.a 15),(.a 16),(.a 17),(.a 18),(.a 19),(.a 20),(.a 21),(.a 22)] [] [(.va 0)])))
   (jU 0 [(.a 0),(.a 1),(.a 2),(.a 3),(.a 4),(.a 5),(.l 4),(.a 7),(.a 8),(.a 9),(.a 10),(.a 11),(.a 12),(.a 13),(.a 14),(.a 15),(.a 16),(.a 17),(.a 18),(.a 19),(.a 20),(.a 21),(.a 22)] [] [(.va 0)]))
   (.ite (.eq (.a 6) (.l 2))
   (.ite (.lt (.l 0) (.a 2))
    (cA 76 [(.agg [(jA 11),(jA 12),(jA 13),(jA 14),(jA 15),(jA 16)])] [] [(.one .bool)]
    (.ite (.a 0)
    (.callv 0 [(jA 13)] [(.one jD)]
    (jU 0 [(.a 0),(.a 1),(.a 2),(.a 3),(.a 4),(.a 5),(.l 3),(.a 7),(.a 8),(.a 9),(.a 10),(.a 11),(.a 12),(.a 13),(.a 14),(.a 15),(.a 16),(.a 17),(.a 18),(.a 23),(.a 20),(.a 21),(.a 22)] [] [(.va 0)]))
    (jU 0 [(.a 0),(.a 1),(.a 2),(.a 3),(.a 4),(.a 5),(.l 3),(.a 7),(.a 8),(.a 9),(.a 10),(.a 11),(.a 12),(.a 13),(.a 14),(.a 15),(.a 16),(.a 17),(.a 18),(.a 19),(.a 20),(.a 21),(.a 22)] [] [(.va 0)])))
    (jU 0 [(.a 0),(.a 1),(.a 2),(.a 3),(.a 4),(.a 5),(.l 3),(.a 7),(.a 8),(.a 9),(.a 10),(.a 11),(.a 12),(.a 13),(.a 14),(.a 15),(.a 16),(.a 17),(.a 18),(.a 19),(.a 20),(.a 21),(.a 22)] [] [(.va 0)]))
   (.ite (.eq (.a 6) (.l 1))
    (.ite (.lt (.l 0) (.a 1))
    (cA 76 [(.agg [(jA 11),(jA 12),(jA 13),(jA 14),(jA 15),(jA 16)])] [] [(.one .bool)]
    (.ite (.a 0)
     (.callv 0 [(jA 12)] [(.one jD)]
     (jU 0 [(.a 0),(.a 1),(.a 2),(.a 3),(.a 4),(.a 5),(.l 2),(.a 7),(.a 8),(.a 9),(.a 10),(.a 11),(.a 12),(.a 13),(.a 14),(.a 15),(.a 16),(.a 17),(.a 23),(.a 19),(.a 20),(.a 21),(.a 22)] [] [(.va 0)]))
     (jU 0 [(.a 0),(.a 1),(.a 2),(.a 3),(.a 4),(.a 5),(.l 2),(.a 7),(.a 8),(.a 9),(.a 10),(.a 11),(.a 12),(.a 13),(.a 14),(.a 15),(.a 16),(.a 17),(.a 18),(.a 19),(.a 20),(.a 21),(.a 22)] [] [(.va 0)])))
    (jU 0 [(.a 0),(.a 1),(.a 2),(.a 3),(.a 4),(.a 5),(.l 2),(.a 7),(.a 8),(.a 9),(.a 10),(.a 11),(.a 12),(.a 13),(.a 14),(.a 15),(.a 16),(.a 17),(.a 18),(.a 19),(.a 20),(.a 21),(.a 22)] [] [(.va 0)]))
    (.ite (.eq (.a 6) (.l 0))
    (.ite (.lt (.l 0) (.a 0))
     (cA 76 [(.agg [(jA 11),(jA 12),(jA 13),(jA 14),(jA 15),(jA 16)])] [] [(.one .bool)]
     (.ite (.a 0)
     (.callv 0 [(jA 11)] [(.one jD)]
     (jU 0 [(.a 0),(.a 1),(.a 2),(.a 3),(.a 4),(.a 5),(.l 1),(.a 7),(.a 8),(.a 9),(.a 10),(.a 11),(.a 12),(.a 13),(.a 14),(.a 15),(.a 16),(.a 23),(.a 18),(.a 19),(.a 20),(.a 21),(.a 22)] [] [(.va 0)]))
     (jU 0 [(.a 0),(.a 1),(.a 2),(.a 3),(.a 4),(.a 5),(.l 1),(.a 7),(.a 8),(.a 9),(.a 10),(.a 11),(.a 12),(.a 13),(.a 14),(.a 15),(.a 16),(.a 17),(.a 18),(.a 19),(.a 20),(.a 21),(.a 22)] [] [(.va 0)])))
     (jU 0 [(.a 0),(.a 1),(.a 2),(.a 3),(.a 4),(.a 5),(.l 1),(.a 7),(.a 8),(.a 9),(.a 10),(.a 11),(.a 12),(.a 13),(.a 14),(.a 15),(.a 16),(.a 17),(.a 18),(.a 19),(.a 20),(.a 21),(.a 22)] [] [(.va 0)]))
    .stuck))))))
 (cA 76 [(.agg [(jA 11),(jA 12),(jA 13),(jA 14),(jA 15),(jA 16)])] [] [(.one .bool)]
 (.ite (.not (.a 0))
  (.ret false (.tup [(.agg [(jE 0),(jE 0),(jE 0),(jE 0),(jE 0),(jE 0)]),(jE 4)]) [])
  (.ite (.not (.and (.eq (.a 17) (.a 11)) (.and (.eq (.a 18) (.a 12)) (.and (.eq (.a 19) (.a 13)) (.and (.eq (.a 20) (.a 14)) (.and (.eq (.a 21) (.a 15)) (.eq (.a 22) (.a 16))))))))
  (cA 76 [(.agg [(jA 17),(jA 18),(jA 19),(jA 20),(jA 21),(jA 22)])] [] [(.one .bool)]
  (.ite (.not (.a 1))
   (.ret false (.tup [(.agg [(jE 0),(jE 0),(jE 0),(jE 0),(jE 0),(jE 0)]),(jE 4)]) [])
   (.ret false (.tup [(.agg [(jA 17),(jA 18),(jA 19),(jA 20),(jA 21),(jA 22)]),(jE 0)]) [])))
  (.ret false (.tup [(.agg [(jA 17),(jA 18),(jA 19),(jA 20),(jA 21),(jA 22)]),(jE 0)]) [])))))
def a0z:Sx.Sys:=⟨[(.sh (.agg [jD,jD,jD,jD])),(.sh (.agg [jD,jD,jD,jD,jD,jD])),(.sh (.agg [jD,jD,jD,jD,jD,jD]))],a6D,[a0Z],none,none⟩
def b7K:List Cfg:=[{todo:=[(.code (tfR 7 116)),(.inLoop (tfR 7 116)),(.inBlock 0),(.code [true,true,true,true])],sl:=jkR 0 4++[(.ptr 1 0),(.junk 4),(.ptr 3 0),(.junk 5),(.junk 6),(.va 0),(.ptr 4 0)]++jkR 7 6++[.undef,.undef,(.junk 13),(.junk 14),(.junk 15),(.agg [(jA 0),(jA 1),(jA 2),(jA 3),(jA 4),(jA 5)]),(jA 6)]++jkR 16 17++udR 15,H:=[(.cells [(jA 7),(jA 8),(jA 9),(jA 10)] 29 false),(.cells [(jA 11),(jA 12),(jA 13),(jA 14),(jA 15),(jA 16)] 44 false),(.cells [(jA 0),(jA 1),(jA 2),(jA 3),(jA 4),(jA 5)] 38 false),(.cells [(jE 0),(jE 0),(jE 0),(jE 0),(jE 0),(jE 0)] 44 false),(.cells [(jA 17),(jA 18),(jA 19),(jA 20),(jA 21),(jA 22)] 44 false)],ni:=23,nb:=0,nv:=1,nj:=33}]
theorem b9u:SysOk Try.prog 39 a0z:=a0s (c:=(cg [(tfR 7 116)] [] [(34,[2])] false false false true)) (a0o _ _ _ _ _ _ _ _ _) Try.func39 Try.call39 (by kernel_rfl) b7K a0z 5000 rfl (by kernel_rfl) (by kernel_rfl) rfl
def d8Z:PT :=
 (nD (.is 4 0)
 (.ite (.nil 0)
 (.ret true (jE 6) [])
 (cA 31 [(.va 0),(jA 0)] [] [(.one .bool)]
 (.ite (.not (.a 0))
  (.ret true (jE 6) [])
  (nD (.is 1 0)
  (lO false (.pa 0 17) [.val]
  (nD (treeI (.a 0) (.slen 1))
  (lO false (.ea 1 (.a 0) 1 0) [.bool]
  (.ite (.a 1)
  (.ret true (jE 10) [])
  (nD (.is 1 0)
  (nD (.is 1 0)
  (nD (.is 1 0)
  (lO false (.pa 0 17) [.val]
  (lO false (.pa 0 15) [.val]
  (lO false (.pa 0 16) [.val]
  (nD (treeI (.a 0) (.slen 2))
  (.storeM (.ea 2 (.a 0) 1 0) [(.bool (.t true))]
  (nD (treeI (.a 0) (.slen 3))
  (.storeM (.ea 3 (.a 0) 6 0) [(jE 0),(jE 0),(jE 0),(jE 0),(jE 0),(jE 0)]
  (nD (treeI (.a 0) (.slen 4))
  (.storeM (.ea 4 (.a 0) 1 0) [(.bool (.t false))]
  (.ret true (jE 0) []))))))))))))))))))))))
def d9b:Sx.Sys:=⟨[(.sh (.one .val)),(.sh (.one jD))],d8Z,[],none,none⟩
def d9I:List Cfg:=[]
theorem d9Y:SysOk Try.prog 47 d9b:=a0s (c:=(cg [] [] [] true true false true)) (a0o _ _ _ _ _ _ _ _ _) Try.func47 Try.call47 (by kernel_rfl) d9I d9b 5000 rfl (by kernel_rfl) (by kernel_rfl) rfl
def b1C:PT :=
 (nD (.is 0 0)
 (.ite (.eq (.slen 0) (.l 0))
 (.ret false (jE 1) [])
 (nD (.is 0 0)
 (.ite (.lt (.l 8) (.slen 0))
  (.ret false (jE 3) [])
  (nD (.is 0 0)
  (jU 0 [(.slen 0),(.l 0)] [] [(.va 0)]))))))
def a5Y:PT :=
 (.ite (.lt (.a 1) (.a 0))
 (nD (treeI (.a 1) (.slen 0))
 (lO false (.ea 0 (.a 1) 4 0) [.val,jD,jD,jD]
 (cA 79 [(.va 1)] [] [(.one .bool)]
 (.ite (.not (.a 0))
  (.ret false (jE 5) [])
  (.cut 0 none (some (.a 1)) 4
  (cA 83 [(.va 2),(.va 1)] [] [(.one jD),(.one .bool)]
  (.ite (.a 1)
  (.ret false (jE 7) [])
  (.ite (.lt (.a 2) (.l 0))
   (.ret false (jE 4) [])
   (.ite (.lt (.l 4) (.a 2))
   (.ret false (jE 4) [])
   (.ite (.lt (.a 3) (.l 0))
    (.ret false (jE 4) [])
    (.ite (.lt (.l 1000000) (.a 3))
    (.ret false (jE 4) [])
    (.ite (.lt (.a 4) (.l 0))
     (.ret false (jE 4) [])
     (.ite (.lt (.l 24000) (.a 4))
     (.ret false (jE 4) [])
     (nD (treeB (jP 1))
     (jU 0 [(.a 0),(jP 1)] [] [(.va 0)])))))))))))))))
 (.ret false (jE 0) []))
def a4j:Sx.Sys:=⟨[(.sh (.one .val))],b1C,[a5Y],none,none⟩
def c0I:List Cfg:=[{todo:=[(.code (tfR 6 52)),(.inLoop (tfR 6 52)),(.inBlock 1),(.code [true,true,true])],sl:=[(.va 0),.undef]++jkR 0 13++[(.va 0),(jA 0),(jA 1)]++jkR 13 47,H:=[],ni:=2,nb:=0,nv:=1,nj:=60}]
theorem c3k:SysOk Try.prog 55 a4j:=a0s (c:=(cg [(tfR 6 52)] [] [] false false false true)) (a0o _ _ _ _ _ _ _ _ _) Try.func55 Try.call55 (by kernel_rfl) c0I a4j 5000 rfl (by kernel_rfl) (by kernel_rfl) rfl
def b1D:PT :=
 (.ite (.le (.l 0) (.a 0))
 (nD (.is 0 1)
 (.ret false (.bool (.lt (.a 0) (.slen 1))) []))
 rF)
def a8T:Sx.Sys:=⟨[(.sh (.agg [.val,.val,.val,.val])),(.sh (.one jD))],b1D,[],none,none⟩
def c0C:List Cfg:=[]
theorem c2n:SysOk Try.prog 63 a8T:=a0s (c:=(cg [] [] [] false false false true)) (a0o _ _ _ _ _ _ _ _ _) Try.func63 Try.call63 (by kernel_rfl) c0C a8T 5000 rfl (by kernel_rfl) (by kernel_rfl) rfl
def b1W:PT :=
 (nD (.is 3 0)
 (.ite (.not (.sis 0 []))
 (nD (.is 3 0)
 (.ite (.le (.stl 0) (.l 12))
  (nD (.is 3 0)
  (nD (.lt (.l 0) (.stl 0))
  (nD (.and (.le (.l (-2147483648)) (.sat 0 (.l 0))) (.le (.sat 0 (.l 0)) (.l 2147483647)))
  (cA 92 [(.int .i32 (.sat 0 (.l 0)))] [] [(.one .bool)]
  (.ite (.a 0)
  (cA 93 [(.va 0),(jE 0),(.fn 94 0 [])] [] [(.one .val)]
  (nD (.is 3 1)
  (nD (.is 3 0)
  (.ret false (.bool (.seq 1 0)) []))))
  rF)))))
  rF))
 rF))
def a8Y:Sx.Sys:=⟨[(.sh (.one .val))],b1W,[],none,none⟩
def c0F:List Cfg:=[]
theorem c2G:SysOk Try.prog 79 a8Y:=a0s (c:=(cg [] [] [] false false false true)) (a0o _ _ _ _ _ _ _ _ _) Try.func79 Try.call79 (by kernel_rfl) c0F a8Y 5000 rfl (by kernel_rfl) (by kernel_rfl) rfl
def b1o:PT :=
 (.newM [(jA 0)] 3
 (cA 96 [(.agg [(.va 0),(jA 1),(jA 2),(jA 3),(jA 4),(jA 5),(jA 6)]),(.fn 97 0 [(.pa 1 0)])] [] [(.one jD)]
 (.ret false (jA 7) [])))
def a8e:Sx.Sys:=⟨[(.sh (.one .val)),(.sh (.one jD)),(.sh (.agg [jD,jD,jD,jD,jD,jD]))],b1o,[],none,none⟩
def b9D:List Cfg:=[]
theorem c1G:SysOk Try.prog 87 a8e:=a0s (c:=(cg [] [4] [(12,[2])] true false false true)) (a0o _ _ _ _ _ _ _ _ _) Try.func87 Try.call87 (by kernel_rfl) b9D a8e 5000 rfl (by kernel_rfl) (by kernel_rfl) rfl
def b2G:PT :=
 (.ret false (.agg [(.int .i64 (.mn (.a 0) (.a 6))),(.int .i64 (.mn (.a 1) (.a 7))),(.int .i64 (.mn (.a 2) (.a 8))),(.int .i64 (.mn (.a 3) (.a 9))),(.int .i64 (.mn (.a 4) (.a 10))),(.int .i64 (.mn (.a 5) (.a 11)))]) [])
def b0c:Sx.Sys:=⟨[(.sh (.agg [jD,jD,jD,jD,jD,jD])),(.sh (.agg [jD,jD,jD,jD,jD,jD]))],b2G,[],none,none⟩
def c1l:List Cfg:=[]
theorem c3U:SysOk Try.prog 95 b0c:=a0s (c:=(cg [] [] [] false false false true)) (a0o _ _ _ _ _ _ _ _ _) Try.func95 Try.call95 (by kernel_rfl) c1l b0c 5000 rfl (by kernel_rfl) (by kernel_rfl) rfl
def b5S:PT :=
 (cA 29 [(.va 0)] [] [(.agg [jD,jD,jD,jD,jD,jD])]
   (.mkM (.slen 1) [(.bool (.t false))] 4 1 1
   (.newM [(.va 4),(.va 5),(.va 6),(.va 7),(jA 0),(jA 1),(jA 2),(jA 3),.nilS,(jA 6),(jA 7),(jA 8),(jA 9),(jA 10),(jA 11),.nilS,.nilS,(.va 8),(.bool (.t false))] 81
   (cA 30 [(.pa 9 0)] [] []
   (.ret true (.tup [(.pa 9 0),(jE 0)]) [])))))
def b6e:PT :=
 (.mkM (.slen 1) [(.bool (.t false))] 4 1 1
   (cA 29 [(.va 0)] [] [(.agg [jD,jD,jD,jD,jD,jD])]
   (.newM [(.va 4),(.va 5),(.va 6),(.va 7),(jA 0),(jA 1),(jA 2),(jA 3),.nilS,(jA 6),(jA 7),(jA 8),(jA 9),(jA 10),(jA 11),.nilS,.nilS,(.va 8),(.bool (.t false))] 81
   (cA 30 [(.pa 9 0)] [] []
   (.ret true (.tup [(.pa 9 0),(jE 0)]) [])))))
def b6y:PT :=
 (cA 28 [(.agg [(.va 0),(.va 1),(.va 2),(.va 3)])] [] [(.agg [.val,.val,.val,.val])]
  (.both b5S b6e))
def b6i:PT :=
 (.mkM (.slen 1) [(.bool (.t false))] 4 1 1
  (cA 28 [(.agg [(.va 0),(.va 1),(.va 2),(.va 3)])] [] [(.agg [.val,.val,.val,.val])]
  (cA 29 [(.va 0)] [] [(.agg [jD,jD,jD,jD,jD,jD])]
  (.newM [(.va 5),(.va 6),(.va 7),(.va 8),(jA 0),(jA 1),(jA 2),(jA 3),.nilS,(jA 6),(jA 7),(jA 8),(jA 9),(jA 10),(jA 11),.nilS,.nilS,(.va 4),(.bool (.t false))] 81
  (cA 30 [(.pa 9 0)] [] []
  (.ret true (.tup [(.pa 9 0),(jE 0)]) []))))))
def a6h:PT :=
 (cA 26 [(.agg [(.va 0),(.va 1),(.va 2),(.va 3)])] [] [(.one jD)]
 (.ite (.not (.eq (.a 4) (.l 0)))
 (.ret true (.tup [.nilP,(jA 4)]) [])
 (cA 27 [(.agg [(jA 0),(jA 1),(jA 2),(jA 3)])] [] [(.one jD)]
 (.ite (.not (.eq (.a 5) (.l 0)))
  (.ret true (.tup [.nilP,(jA 5)]) [])
  (nD (.is 0 1)
  (.both b6y b6i))))))
def b2f:Sx.Sys:=⟨[(.sh (.agg [.val,.val,.val,.val])),(.sh (.agg [jD,jD,jD,jD]))],a6h,[],none,none⟩
def c3Y:List Cfg:=[]
theorem c5C:SysOk Try.prog 8 b2f:=a0s (c:=(cg [] [30] [] true true false true)) (a0o _ _ _ _ _ _ _ _ _) Try.func8 Try.call8 (by kernel_rfl) c3Y b2f 5000 rfl (by kernel_rfl) (by kernel_rfl) rfl
def b6U:PT :=
 (.app none (.lit [[(.str [97]),(jE 1),(jE 0),(jE 1),(jE 0)]]) 5
 (.app none (.lit [[(.str [120]),(jE 0),(jE 0),(jE 5)],[(.str [121]),(jE 0),(jE 0),(jE 5)]]) 4
 (.ret false (.agg [(.va 0),(.va 1),.nilS,.nilS]) [])))
def a7d:Sx.Sys:=⟨[],b6U,[],none,none⟩
def b4v:List Cfg:=[]
theorem b6P:SysOk Try.prog 24 a7d:=a0s (c:=(cg [] [] [] false false false true)) (a0o _ _ _ _ _ _ _ _ _) Try.func24 Try.call24 (by kernel_rfl) b4v a7d 5000 rfl (by kernel_rfl) (by kernel_rfl) rfl
def b0X:PT :=
 (cA 26 [(.agg [(.va 0),(.va 1),(.va 2),(.va 3)])] [] [(.one jD)]
 (.ite (.not (.eq (.a 7) (.l 0)))
 (.ret false (jA 7) [])
 (cA 62 [(.agg [(.va 0),(.va 1),(.va 2),(.va 3)]),(jA 0),(.agg [(jA 1),(jA 2),(jA 3),(jA 4),(jA 5),(jA 6)])] [] [(.one jD)]
 (.ret false (jA 8) []))))
def a8a:Sx.Sys:=⟨[(.sh (.agg [.val,.val,.val,.val])),(.sh (.one jD)),(.sh (.agg [jD,jD,jD,jD,jD,jD]))],b0X,[],none,none⟩
def b9P:List Cfg:=[]
theorem c2g:SysOk Try.prog 32 a8a:=a0s (c:=(cg [] [] [] false false false true)) (a0o _ _ _ _ _ _ _ _ _) Try.func32 Try.call32 (by kernel_rfl) b9P a8a 5000 rfl (by kernel_rfl) (by kernel_rfl) rfl
def a7M:PT :=
 (nD (.is 0 0)
 (jU 0 [(.slen 0),(.l 0)] [] [(.va 0)]))
def a6S:PT :=
 (.ite (.lt (.a 1) (.a 0))
 (nD (treeI (.a 1) (.slen 0))
 (lO false (.ea 0 (.a 1) 12 0) [jD,jD,jD,jD,jD,jD,jD,jD,jD,jD,jD,jD]
 (cA 77 [(.agg [(jA 2),(jA 3),(jA 4),(jA 5),(jA 6),(jA 7),(jA 8),(jA 9),(jA 10),(jA 11),(jA 12),(jA 13)])] [] [(.one .bool)]
 (.ite (.not (.a 0))
  rF
  (nD (treeB (jP 1))
  (jU 0 [(.a 0),(jP 1)] [] [(.va 0)]))))))
 (.ret false (.bool (.t true)) []))
def a2W:Sx.Sys:=⟨[(.sh (.one .val))],a7M,[a6S],none,none⟩
def b5d:List Cfg:=[{todo:=[(.code (tfR 5 20)),(.inLoop (tfR 5 20)),(.inBlock 0),(.code [true,true])],sl:=[(.junk 0),.undef,(.junk 1),.undef,(.junk 2),(.va 0),(jA 0),(jA 1)]++jkR 3 7,H:=[],ni:=2,nb:=0,nv:=1,nj:=10}]
theorem b7R:SysOk Try.prog 48 a2W:=a0s (c:=(cg [(tfR 5 20)] [] [] false false false true)) (a0o _ _ _ _ _ _ _ _ _) Try.func48 Try.call48 (by kernel_rfl) b5d a2W 5000 rfl (by kernel_rfl) (by kernel_rfl) rfl
def a9J:PT :=
 (nD (.is 0 2)
 (.ite (.lt (.l 16) (.slen 2))
 (.ret false (jE 3) [])
 (nD (.is 0 2)
 (jU 0 [(.slen 2),(.l 0)] [] [(.va 2),(.va 0),(.va 1),(.va 3)]))))
def a4q:PT :=
 (.ite (.lt (.a 1) (.a 0))
 (nD (treeI (.a 1) (.slen 0))
 (lO false (.ea 0 (.a 1) 3 0) [jD,jD,jD]
 (.ite (.lt (.a 2) (.l (-1)))
  (.ret false (jE 6) [])
  (nD (.is 0 2)
  (.ite (.le (.slen 2) (.a 2))
  (.ret false (jE 6) [])
  (.ite (.lt (.a 3) (.l 0))
   (.ret false (jE 4) [])
   (.ite (.lt (.l 4) (.a 3))
   (.ret false (jE 4) [])
   (.ite (.lt (.a 4) (.l 0))
    (.ret false (jE 4) [])
    (.ite (.lt (.l 24) (.a 4))
    (.ret false (jE 4) [])
    (.cut 0 none (some (.a 1)) 3
    (nD (.is 0 4)
    (jU 1 [(.a 0),(.a 1),(.a 2),(.slen 2),(.a 3),(.a 4),(.slen 4),(.l 0)] [(.le (.slen 2) (.a 2)),(.lt (.l 4) (.a 3)),(.lt (.a 4) (.l 0)),(.lt (.l 24) (.a 4))] [(.va 0),(.va 2),(.va 4),(.va 1),(.va 3)]))))))))))))
 (.ret false (jE 0) []))
def a4u:PT :=
 (.ite (.lt (.a 7) (.a 6))
 (nD (treeI (.a 7) (.slen 2))
 (lO false (.ea 2 (.a 7) 3 0) [jD,jD,jD]
 (.ite (.eq (.a 8) (.a 2))
  (.ite (.eq (.a 9) (.a 4))
  (.ret false (jE 7) [])
  (nD (treeB (jP 7))
  (jU 1 [(.a 0),(.a 1),(.a 2),(.a 3),(.a 4),(.a 5),(.a 6),(jP 7)] [(.a 0),(.a 1),(.a 2),(.a 3)] [(.va 0),(.va 1),(.va 2),(.va 3),(.va 4)])))
  (nD (treeB (jP 7))
  (jU 1 [(.a 0),(.a 1),(.a 2),(.a 3),(.a 4),(.a 5),(.a 6),(jP 7)] [(.a 0),(.a 1),(.a 2),(.a 3)] [(.va 0),(.va 1),(.va 2),(.va 3),(.va 4)])))))
 (nD (treeB (jP 1))
 (jU 0 [(.a 0),(jP 1)] [] [(.va 0),(.va 3),(.va 1),(.va 4)])))
def a1B:Sx.Sys:=⟨[(.sh (.agg [.val,.val,.val,.val]))],a9J,[a4q,a4u],none,none⟩
def b7Y:List Cfg:=[{todo:=[(.code (tfR 6 52)),(.inLoop (tfR 6 52)),(.inBlock 0),(.code [true,true,true])],sl:=[(.junk 0),(.ptr 0 0),(.junk 1),(.junk 2),(.junk 3),.undef]++jkR 4 6++[(.va 0),(jA 0),(jA 1)]++jkR 10 56,H:=[(.cells [(.va 1),(.va 2),(.va 0),(.va 3)] 27 false)],ni:=2,nb:=0,nv:=4,nj:=66},
 {todo:=[(.code (tfR 16 54076)),(.inLoop (tfR 16 54076)),(.inBlock 2),(.inBlock 1),(.code (tfR 9 423)),(.inLoop (tfR 6 52)),(.inBlock 0),(.code [true,true,true])],sl:=[(.junk 0),(.ptr 0 0),(.junk 1),(.junk 2),(.ptr 1 0),.undef]++jkR 3 6++[(.va 0),(jA 0),(jA 1)]++jkR 9 8++[(.ptr 1 0),(jA 2),(.ptr 0 1),(.va 1),(jA 3),(.bool (.a 0))]++jkR 17 5++[(.ptr 1 1),(jA 4),(.bool (.a 1)),(.junk 22),(.junk 23),(.ptr 1 2),(jA 5),(.bool (.a 2)),(.junk 24),(.junk 25),(.ptr 1 2),(jA 5),(.bool (.a 3))]++jkR 26 4++[(.va 2),(jA 6),(jA 7)]++jkR 30 17,H:=[(.cells [(.va 3),(.va 1),(.va 0),(.va 4)] 27 false),(.cells [(jA 2),(jA 4),(jA 5)] 119 false)],ni:=8,nb:=4,nv:=5,nj:=47}]
theorem b9s:SysOk Try.prog 56 a1B:=a0s (c:=(cg [(tfR 6 52),(tfR 16 54076)] [] [] false false false true)) (a0o _ _ _ _ _ _ _ _ _) Try.func56 Try.call56 (by kernel_rfl) b7Y a1B 5000 rfl (by kernel_rfl) (by kernel_rfl) rfl
def a5D:PT :=
 (cA 88 [(.agg [(.va 0),(.va 1),(.va 2),(.va 3),(jA 0),(.va 4)]),(.agg [(jA 1),(jA 2),(jA 3),(jA 4),(jA 5),(jA 6),(jA 7),(jA 8),(jA 9),(jA 10),(jA 11),(jA 12)])] [] [(.one jD)]
 (cA 89 [(.agg [(.va 0),(.va 1),(.va 2),(.va 3)]),(jA 0),(.va 4)] [] [(.one jD)]
 (.ret false (.bool (.le (.a 13) (.a 14))) [])))
def a3U:Sx.Sys:=⟨[(.sh (.agg [.val,.val,.val,.val,jD,.val])),(.sh (.agg [jD,jD,jD,jD,jD,jD,jD,jD,jD,jD,jD,jD]))],a5D,[],none,none⟩
def b2B:List Cfg:=[]
theorem b4a:SysOk Try.prog 64 a3U:=a0s (c:=(cg [] [] [] false false false true)) (a0o _ _ _ _ _ _ _ _ _) Try.func64 Try.call64 (by kernel_rfl) b2B a3U 5000 rfl (by kernel_rfl) (by kernel_rfl) rfl
def b5w:PT :=
 (cA 43 [(.va 0)] [] [(.agg [jD,jD,jD,jD,jD,jD])]
 (.ret false (.agg [(jA 0),(jA 1),(jA 2),(jA 3),(jA 4),(jA 5)]) []))
def b2e:Sx.Sys:=⟨[(.sh (.one .val))],b5w,[],none,none⟩
def c3J:List Cfg:=[]
theorem c6A:SysOk Try.prog 72 b2e:=a0s (c:=(cg [] [] [] true false false true)) (a0o _ _ _ _ _ _ _ _ _) Try.func72 Try.call72 (by kernel_rfl) c3J b2e 5000 rfl (by kernel_rfl) (by kernel_rfl) rfl
def b1O:PT :=
 (nD (.is 0 0)
 (jU 0 [(.slen 0),(.l 0)] [] [(.va 1),(.va 0)]))
def a3C:PT :=
 (.ite (.lt (.a 1) (.a 0))
 (nD (treeI (.a 1) (.slen 1))
 (lO false (.ea 1 (.a 1) 5 0) [.val,jD,jD,jD,jD]
 (nD (.is 3 2)
 (nD (.is 3 0)
 (.ite (.seq 2 0)
  (.ret false (.tup [(jA 1),(.bool (.t true))]) [])
  (nD (treeB (jP 1))
  (jU 0 [(.a 0),(jP 1)] [] [(.va 0),(.va 1)])))))))
 (.ret false (.tup [(jE 0),(.bool (.t false))]) []))
def a3h:Sx.Sys:=⟨[(.sh (.one .val)),(.sh (.one .val))],b1O,[a3C],none,none⟩
def c0t:List Cfg:=[{todo:=[(.code (tfR 5 20)),(.inLoop (tfR 5 20)),(.inBlock 0),(.code [true,true])],sl:=[(.junk 0),(.va 0),.undef,.undef]++jkR 1 4++[(.va 1),(jA 0),(jA 1)]++jkR 5 8++[.undef,(.junk 13)],H:=[],ni:=2,nb:=0,nv:=2,nj:=14}]
theorem c2X:SysOk Try.prog 80 a3h:=a0s (c:=(cg [(tfR 5 20)] [] [] false false false true)) (a0o _ _ _ _ _ _ _ _ _) Try.func80 Try.call80 (by kernel_rfl) c0t a3h 5000 rfl (by kernel_rfl) (by kernel_rfl) rfl
def a5b:PT :=
 (cA 98 [(.va 0),(.agg [(jA 7),(jA 8),(jA 9),(jA 10),(jA 11),(jA 12)])] [] [(.one jD)]
 (.ret false (jA 13) []))
def a3o:Sx.Sys:=⟨[(.sh (.agg [.val,.val,.val,.val,jD,.val])),(.sh (.agg [jD,jD,jD,jD,jD,jD,jD,jD,jD,jD,jD,jD]))],a5b,[],none,none⟩
def b1T:List Cfg:=[]
theorem b2L:SysOk Try.prog 88 a3o:=a0s (c:=(cg [] [] [] false false false true)) (a0o _ _ _ _ _ _ _ _ _) Try.func88 Try.call88 (by kernel_rfl) b1T a3o 5000 rfl (by kernel_rfl) (by kernel_rfl) rfl
def a3W:PT :=
 (cA 54 [(.va 0)] [] [(.one jD)]
 (.ite (.not (.eq (.a 6) (.l 0)))
 (.ret false (jE 0) [])
 (cA 67 [(.agg [(jA 0),(jA 1),(jA 2),(jA 3),(jA 4),(jA 5)])] [] [(.one jD)]
 (.ite (.not (.eq (.a 7) (.l 0)))
  (.ret false (jE 0) [])
  (nD (.is 0 0)
  (jU 0 [(.l 0),(.slen 0),(.l 0),(.a 0),(.a 1),(.a 2),(.a 3),(.a 4),(.a 5)] [] [(.va 1),(.va 0)]))))))
def a1F:PT :=
 (.ite (.lt (.a 2) (.a 1))
 (nD (treeI (.a 2) (.slen 1))
 (lO false (.ea 1 (.a 2) 5 0) [.val,jD,jD,jD,jD]
 (.ite (.eq (.a 2) (.l 5))
  (.callv 0 [(.agg [(.va 2),(jA 9),(jA 10),(jA 11),(jA 12)])] [(.one jD)]
  (nD (treeB (.mul (.a 8) (.a 13)))
  (nD (treeB (.add (.a 0) (.mul (.a 8) (.a 13))))
  (jU 0 [(.add (.a 0) (.mul (.a 8) (.a 13))),(.a 1),(.l 6),(.a 3),(.a 4),(.a 5),(.a 6),(.a 7),(.a 8)] [] [(.va 0),(.va 1)]))))
  (.ite (.eq (.a 2) (.l 4))
  (.callv 0 [(.agg [(.va 2),(jA 9),(jA 10),(jA 11),(jA 12)])] [(.one jD)]
  (nD (treeB (.mul (.a 7) (.a 13)))
  (nD (treeB (.add (.a 0) (.mul (.a 7) (.a 13))))
  (jU 0 [(.add (.a 0) (.mul (.a 7) (.a 13))),(.a 1),(.l 5),(.a 3),(.a 4),(.a 5),(.a 6),(.a 7),(.a 8)] [] [(.va 0),(.va 1)]))))
  (.ite (.eq (.a 2) (.l 3))
   (.callv 0 [(.agg [(.va 2),(jA 9),(jA 10),(jA 11),(jA 12)])] [(.one jD)]
   (nD (treeB (.mul (.a 6) (.a 13)))
   (nD (treeB (.add (.a 0) (.mul (.a 6) (.a 13))))
   (jU 0 [(.add (.a 0) (.mul (.a 6) (.a 13))),(.a 1),(.l 4),(.a 3),(.a 4),(.a 5),(.a 6),(.a 7),(.a 8)] [] [(.va 0),(.va 1)]))))
   (.ite (.eq (.a 2) (.l 2))
   (.callv 0 [(.agg [(.va 2),(jA 9),(jA 10),(jA 11),(jA 12)])] [(.one jD)]
   (nD (treeB (.mul (.a 5) (.a 13)))
   (nD (treeB (.add (.a 0) (.mul (.a 5) (.a 13))))
   (jU 0 [(.add (.a 0) (.mul (.a 5) (.a 13))),(.a 1),(.l 3),(.a 3),(.a 4),(.a 5),(.a 6),(.a 7),(.a 8)] [] [(.va 0),(.va 1)]))))
   (.ite (.eq (.a 2) (.l 1))
    (.callv 0 [(.agg [(.va 2),(jA 9),(jA 10),(jA 11),(jA 12)])] [(.one jD)]
    (nD (treeB (.mul (.a 4) (.a 13)))
    (nD (treeB (.add (.a 0) (.mul (.a 4) (.a 13))))
    (jU 0 [(.add (.a 0) (.mul (.a 4) (.a 13))),(.a 1),(.l 2),(.a 3),(.a 4),(.a 5),(.a 6),(.a 7),(.a 8)] [] [(.va 0),(.va 1)]))))
    (.ite (.eq (.a 2) (.l 0))
    (.callv 0 [(.agg [(.va 2),(jA 9),(jA 10),(jA 11),(jA 12)])] [(.one jD)]
    (nD (treeB (.mul (.a 3) (.a 13)))
    (nD (treeB (.add (.a 0) (.mul (.a 3) (.a 13))))
    (jU 0 [(.add (.a 0) (.mul (.a 3) (.a 13))),(.a 1),(.l 1),(.a 3),(.a 4),(.a 5),(.a 6),(.a 7),(.a 8)] [] [(.va 0),(.va 1)]))))
    .stuck))))))))
 (.ret false (jA 0) []))
def a1x:Sx.Sys:=⟨[(.sh (.agg [.val,jD,jD,jD,jD,jD,jD])),(.sh (.one .val))],a3W,[a1F],none,none⟩
def b5b:List Cfg:=[{todo:=[(.code (tfR 7 116)),(.inLoop (tfR 7 116)),(.inBlock 0),(.code [true,true,true,true])],sl:=[(.junk 0),(.va 0),(.ptr 0 0),.undef,(.junk 1),(jA 0)]++jkR 2 13++[(.va 1),(jA 1),(jA 2)]++jkR 15 15++[.undef],H:=[(.cells [(.va 1),(jA 3),(jA 4),(jA 5),(jA 6),(jA 7),(jA 8)] 157 false)],ni:=9,nb:=0,nv:=2,nj:=30}]
theorem b7y:SysOk Try.prog 96 a1x:=a0s (c:=(cg [(tfR 7 116)] [] [(31,[2])] false false false true)) (a0o _ _ _ _ _ _ _ _ _) Try.func96 Try.call96 (by kernel_rfl) b5b a1x 5000 rfl (by kernel_rfl) (by kernel_rfl) rfl
def a2r:PT :=
 (nD (.is 4 0)
 (.ite (.nil 0)
 (.ret true (jE 6) [])
 (.ite (.lt (.a 0) (.l 0))
  (.ret true (jE 4) [])
  (nD (.is 1 0)
  (lO false (.pa 0 8) [.val]
  (nD (.is 0 1)
  (.ite (.lt (.slen 1) (.a 0))
  (.ret true (jE 4) [])
  (nD (.is 1 0)
  (lO false (.pa 0 8) [.val]
  (nD (.is 0 2)
  (.ite (.eq (.a 0) (.slen 2))
   (nD (.is 1 0)
   (lO false (.pa 0 18) [.bool]
   (.ite (.a 0)
   (.ret true (jE 4) [])
   (cA 30 [(.va 0)] [] []
   (nD (.is 1 0)
   (lO false (.pa 0 8) [.val]
   (nD (.is 0 3)
   (.ite (.lt (.a 0) (.slen 3))
    (nD (.is 1 0)
    (lO false (.pa 0 8) [.val]
    (nD (treeI (.a 0) (.slen 4))
    (lO false (.ea 4 (.a 0) 9 0) [jD,jD,jD,jD,jD,jD]
    (nD (.is 1 0)
    (.storeM (.pa 0 9) [(jA 1),(jA 2),(jA 3),(jA 4),(jA 5),(jA 6)]
    (nD (.is 1 0)
    (lO false (.pa 0 8) [.val]
    (.cut 5 none (some (.a 0)) 9
    (cA 45 [(.va 6)] [] [(.one .val)]
    (nD (.is 1 0)
    (.storeM (.pa 0 8) [(.va 7)]
    (nD (.is 1 0)
    (.storeM (.pa 0 18) [(.bool (.t false))]
    (.ret true (jE 0) [])))))))))))))))
    (nD (.is 1 0)
    (.storeM (.pa 0 18) [(.bool (.t false))]
    (.ret true (jE 0) [])))))))))))
   (cA 30 [(.va 0)] [] []
   (nD (.is 1 0)
   (lO false (.pa 0 8) [.val]
   (nD (.is 0 3)
   (.ite (.lt (.a 0) (.slen 3))
   (nD (.is 1 0)
   (lO false (.pa 0 8) [.val]
   (nD (treeI (.a 0) (.slen 4))
   (lO false (.ea 4 (.a 0) 9 0) [jD,jD,jD,jD,jD,jD]
   (nD (.is 1 0)
   (.storeM (.pa 0 9) [(jA 1),(jA 2),(jA 3),(jA 4),(jA 5),(jA 6)]
   (nD (.is 1 0)
   (lO false (.pa 0 8) [.val]
   (.cut 5 none (some (.a 0)) 9
   (cA 45 [(.va 6)] [] [(.one .val)]
   (nD (.is 1 0)
   (.storeM (.pa 0 8) [(.va 7)]
   (nD (.is 1 0)
   (.storeM (.pa 0 18) [(.bool (.t false))]
   (.ret true (jE 0) [])))))))))))))))
   (nD (.is 1 0)
   (.storeM (.pa 0 18) [(.bool (.t false))]
   (.ret true (jE 0) [])))))))))))))))))))
def a4b:Sx.Sys:=⟨[(.sh (.one .val)),(.sh (.one jD))],a2r,[],none,none⟩
def b5B:List Cfg:=[]
theorem b7J:SysOk Try.prog 17 a4b:=a0s (c:=(cg [] [] [(38,[])] true true false true)) (a0o _ _ _ _ _ _ _ _ _) Try.func17 Try.call17 (by kernel_rfl) b5B a4b 5000 rfl (by kernel_rfl) (by kernel_rfl) rfl
def b8P:PT :=
 (nD (.is 4 0)
 (.ite (.nil 0)
 (.ret false (jE 0) [])
 (nD (.is 1 0)
 (lO false (.pa 0 8) [.val]
 (nD (.is 0 1)
 (.ret false (.int .i64 (.slen 1)) []))))))
def a7R:Sx.Sys:=⟨[(.sh (.one .val))],b8P,[],none,none⟩
def b4Y:List Cfg:=[]
theorem b6Y:SysOk Try.prog 25 a7R:=a0s (c:=(cg [] [] [] true false false true)) (a0o _ _ _ _ _ _ _ _ _) Try.func25 Try.call25 (by kernel_rfl) b4Y a7R 5000 rfl (by kernel_rfl) (by kernel_rfl) rfl
def a6L:PT :=
 (cA 63 [(.agg [(.va 0),(.va 1),(.va 2),(.va 3)]),(jA 0)] [] [(.one .bool)]
 (.ite (.not (.a 0))
 (.ret false (jE 6) [])
 (nD (treeI (.a 0) (.slen 1))
 (lO false (.ea 1 (.a 0) 4 2) [jD]
 (.ite (.not (.eq (.a 13) (.l 0)))
  (cA 50 [(.agg [(jA 1),(jA 2),(jA 3),(jA 4),(jA 5),(jA 6)]),(.agg [(jA 7),(jA 8),(jA 9),(jA 10),(jA 11),(jA 12)])] [] [(.one jD)]
  (.ite (.lt (.a 13) (.a 14))
  (.ret false (jE 17) [])
  (.ret false (jE 0) [])))
  (.ret false (jE 0) []))))))
def a4B:Sx.Sys:=⟨[(.sh (.agg [.val,.val,.val,.val])),(.sh (.one jD)),(.sh (.agg [jD,jD,jD,jD,jD,jD,jD,jD,jD,jD,jD,jD]))],a6L,[],none,none⟩
def b3W:List Cfg:=[]
theorem b5v:SysOk Try.prog 33 a4B:=a0s (c:=(cg [] [] [] false false false true)) (a0o _ _ _ _ _ _ _ _ _) Try.func33 Try.call33 (by kernel_rfl) b3W a4B 5000 rfl (by kernel_rfl) (by kernel_rfl) rfl
def a8C:PT :=
 (nD (.is 0 0)
 (.mkM (.slen 0) [(jE 0)] 2 1 8
 (nD (.is 0 0)
 (.mkM (.slen 0) [(jE 0)] 3 1 8
 (nD (.is 0 2)
 (jU 0 [(.slen 2),(.l 0)] [] [(.va 0),(.va 1),(.va 2)]))))))
def a4d:PT :=
 (.ite (.lt (.a 1) (.a 0))
 (nD (treeI (.a 1) (.slen 2))
 (.storeM (.ea 2 (.a 1) 1 0) [(.int .i64 (.l (-1)))]
 (nD (treeB (jP 1))
 (jU 0 [(.a 0),(jP 1)] [] [(.va 0),(.va 1),(.va 2)]))))
 (nD (.is 0 0)
 (jU 1 [(.l (-1)),(.slen 0),(.l 0)] [] [(.va 0),(.va 1),(.va 2)])))
def a2v:PT :=
 (.ite (.lt (.a 2) (.a 1))
 (nD (.is 0 0)
 (jU 2 [(.l (-1)),(.a 1),(.a 2),(.slen 0),(.l 0)] [] [(.va 0),(.va 1),(.va 2)]))
 (.ite (.lt (.a 0) (.l 0))
  (.ret true (.tup [(.va 1),.nilS]) [])
  (cA 78 [(.va 2),(jA 0)] [] [(.one .val)]
  (.ret true (.tup [.nilS,(.va 3)]) []))))
def a2x:PT :=
 (.ite (.lt (.a 4) (.a 3))
 (nD (.is 0 0)
 (jU 3 [(.a 0),(.a 4),(.a 1),(.a 2),(.a 3),(.slen 0),(.l 0)] [] [(.va 0),(.va 1),(.va 2)]))
 (.ite (.lt (.a 0) (.l 0))
  (.ite (.lt (.a 0) (.l 0))
  (.ret true (.tup [(.va 1),.nilS]) [])
  (cA 78 [(.va 2),(jA 0)] [] [(.one .val)]
  (.ret true (.tup [.nilS,(.va 3)]) [])))
  (nD (treeB (jP 2))
  (jU 1 [(.a 0),(.a 1),(jP 2)] [] [(.va 0),(.va 1),(.va 2)]))))
def a6d:PT :=
 (lO false (.ea 1 (.a 1) 1 0) [jD]
  (cA 53 [(.agg [(jA 7),(jA 8),(jA 9),(jA 10),(jA 11),(jA 12),(jA 13),(jA 14),(jA 15),(jA 16),(jA 17),(jA 18)]),(.agg [(jA 19),(jA 20),(jA 21),(jA 22),(jA 23),(jA 24),(jA 25),(jA 26),(jA 27),(jA 28),(jA 29),(jA 30)])] [] [(.one jD)]
  (nD (treeB (.add (.a 31) (.a 32)))
  (nD (treeI (.a 6) (.slen 1))
  (lO false (.ea 1 (.a 6) 1 0) [jD]
  (.ite (.lt (.add (.a 31) (.a 32)) (.a 33))
  (nD (treeI (.a 6) (.slen 1))
  (.storeM (.ea 1 (.a 6) 1 0) [(.int .i64 (.add (.a 31) (.a 32)))]
  (nD (treeI (.a 6) (.slen 2))
  (.storeM (.ea 2 (.a 6) 1 0) [(jA 1)]
  (nD (treeB (jP 6))
  (jU 3 [(.a 6),(.a 1),(.a 2),(.a 3),(.a 4),(.a 5),(jP 6)] [] [(.va 0),(.va 1),(.va 2)]))))))
  (nD (treeB (jP 6))
  (jU 3 [(.a 0),(.a 1),(.a 2),(.a 3),(.a 4),(.a 5),(jP 6)] [] [(.va 0),(.va 1),(.va 2)]))))))))
def a6k:PT :=
 (cA 53 [(.agg [(jA 7),(jA 8),(jA 9),(jA 10),(jA 11),(jA 12),(jA 13),(jA 14),(jA 15),(jA 16),(jA 17),(jA 18)]),(.agg [(jA 19),(jA 20),(jA 21),(jA 22),(jA 23),(jA 24),(jA 25),(jA 26),(jA 27),(jA 28),(jA 29),(jA 30)])] [] [(.one jD)]
  (lO false (.ea 1 (.a 1) 1 0) [jD]
  (nD (treeB (.add (.a 32) (.a 31)))
  (nD (treeI (.a 6) (.slen 1))
  (lO false (.ea 1 (.a 6) 1 0) [jD]
  (.ite (.lt (.add (.a 32) (.a 31)) (.a 33))
  (nD (treeI (.a 6) (.slen 1))
  (.storeM (.ea 1 (.a 6) 1 0) [(.int .i64 (.add (.a 32) (.a 31)))]
  (nD (treeI (.a 6) (.slen 2))
  (.storeM (.ea 2 (.a 6) 1 0) [(jA 1)]
  (nD (treeB (jP 6))
  (jU 3 [(.a 6),(.a 1),(.a 2),(.a 3),(.a 4),(.a 5),(jP 6)] [] [(.va 0),(.va 1),(.va 2)]))))))
  (nD (treeB (jP 6))
  (jU 3 [(.a 0),(.a 1),(.a 2),(.a 3),(.a 4),(.a 5),(jP 6)] [] [(.va 0),(.va 1),(.va 2)]))))))))
def a1K:PT :=
 (.ite (.lt (.a 6) (.a 5))
 (nD (treeI (.a 1) (.slen 1))
 (nD (treeI (.a 1) (.slen 0))
 (nD (treeI (.a 6) (.slen 0))
 (lO false (.ea 0 (.a 1) 12 0) [jD,jD,jD,jD,jD,jD,jD,jD,jD,jD,jD,jD]
 (lO false (.ea 0 (.a 6) 12 0) [jD,jD,jD,jD,jD,jD,jD,jD,jD,jD,jD,jD]
 (.both a6d a6k))))))
 (nD (treeB (jP 1))
 (jU 2 [(.a 0),(.a 2),(.a 3),(.a 4),(jP 1)] [] [(.va 0),(.va 1),(.va 2)])))
def a0r:Sx.Sys:=⟨[(.sh (.one .val))],a8C,[a4d,a2v,a2x,a1K],none,none⟩
def b6v:List Cfg:=[{todo:=[(.code (tfR 8 180)),(.inLoop (tfR 8 180)),(.inBlock 0),(.code (tfR 5 23)),(.inScope [false,true])],sl:=[(.va 0),.undef,(.junk 0),(.junk 1),(.va 1),(.va 2),(.junk 2)]++udR 4++jkR 3 7++[(jA 0),(jA 1)]++jkR 10 6++udR 54,H:=[],ni:=2,nb:=0,nv:=3,nj:=16},
 {todo:=[(.code (tfR 11 1524)),(.inLoop (tfR 11 1524)),(.inBlock 2),(.code (tfR 8 191)),(.inScope [false,true])],sl:=[(.va 0),.undef,(.junk 0),(.junk 1),(.va 1),(.va 2),(.junk 2),(jA 0)]++jkR 3 19++[(jA 1),(jA 2)]++jkR 22 45++udR 6,H:=[],ni:=3,nb:=0,nv:=3,nj:=67},
 {todo:=[(.code (tfR 20 780692)),(.inLoop (tfR 20 780692)),(.inBlock 4),(.code (tfR 17 97587)),(.inBlock 3),(.code (tfR 14 12199)),(.inLoop (tfR 11 1524)),(.inBlock 2),(.code (tfR 8 191)),(.inScope [false,true])],sl:=[(.va 0),.undef,(.junk 0),(.junk 1),(.va 1),(.va 2),(.junk 2),(jA 0)]++jkR 3 19++[(jA 1),(jA 2),(.junk 22),(.junk 23),(jA 3),(jA 4)]++jkR 24 41++udR 6,H:=[],ni:=5,nb:=0,nv:=3,nj:=65},
 {todo:=[(.code (tfR 28 199857356)),(.inLoop (tfR 28 199857356)),(.inBlock 6),(.inBlock 5),(.code (tfR 23 6245543)),(.inLoop (tfR 20 780692)),(.inBlock 4),(.code (tfR 17 97587)),(.inBlock 3),(.code (tfR 14 12199)),(.inLoop (tfR 11 1524)),(.inBlock 2),(.code (tfR 8 191)),(.inScope [false,true])],sl:=[(.va 0),.undef,(.junk 0),(.junk 1),(.va 1),(.va 2),(.junk 2),(jA 0),(jA 1)]++jkR 3 18++[(jA 2),(jA 3),(.junk 21),(.junk 22),(jA 4),(jA 1),(.junk 23),(.junk 24),(.junk 25),(jA 5),(jA 6)]++jkR 26 36++udR 6,H:=[],ni:=7,nb:=0,nv:=3,nj:=62}]
theorem b8D:SysOk Try.prog 49 a0r:=a0s (c:=(cg [(tfR 8 180),(tfR 11 1524),(tfR 20 780692),(tfR 28 199857356)] [] [] true true false true)) (a0o _ _ _ _ _ _ _ _ _) Try.func49 Try.call49 (by kernel_rfl) b6v a0r 5000 rfl (by kernel_rfl) (by kernel_rfl) rfl
def a7V:PT :=
 (nD (.is 0 3)
 (.ite (.lt (.l 6) (.slen 3))
 (.ret false (jE 3) [])
 (nD (.is 0 3)
 (jU 0 [(.slen 3),(.l 0)] [] [(.va 3),(.va 0),(.va 1),(.va 2)]))))
def a3v:PT :=
 (.ite (.lt (.a 1) (.a 0))
 (nD (treeI (.a 1) (.slen 0))
 (lO false (.ea 0 (.a 1) 3 0) [jD,jD,jD]
 (.ite (.lt (.a 2) (.l 0))
  (.ret false (jE 6) [])
  (nD (.is 0 1)
  (.ite (.le (.slen 1) (.a 2))
  (.ret false (jE 6) [])
  (.ite (.lt (.a 3) (.l 1))
   (.ret false (jE 4) [])
   (.ite (.lt (.l 4) (.a 3))
   (.ret false (jE 4) [])
   (.ite (.lt (.a 4) (.l 1))
    (.ret false (jE 4) [])
    (nD (treeI (.a 2) (.slen 1))
    (lO true (.ea 1 (.a 2) 5 1) [jD]
    (.ite (.lt (.a 5) (.a 4))
    (.ret false (jE 4) [])
    (.cut 0 none (some (.a 1)) 3
    (nD (.is 0 4)
    (jU 1 [(.a 0),(.a 1),(.a 2),(.slen 1),(.a 3),(.a 4),(.a 5),(.slen 4),(.l 0)] [(.le (.slen 1) (.a 2)),(.lt (.l 4) (.a 3)),(.lt (.a 4) (.l 1)),(.lt (.a 5) (.a 4))] [(.va 0),(.va 1),(.va 4),(.va 2),(.va 3)]))))))))))))))
 (.ret false (jE 0) []))
def a3s:PT :=
 (.ite (.lt (.a 8) (.a 7))
 (nD (treeI (.a 8) (.slen 2))
 (lO false (.ea 2 (.a 8) 3 0) [jD,jD,jD]
 (.ite (.eq (.a 9) (.a 2))
  (.ret false (jE 7) [])
  (nD (treeB (jP 8))
  (jU 1 [(.a 0),(.a 1),(.a 2),(.a 3),(.a 4),(.a 5),(.a 6),(.a 7),(jP 8)] [(.a 0),(.a 1),(.a 2),(.a 3)] [(.va 0),(.va 1),(.va 2),(.va 3),(.va 4)])))))
 (nD (treeB (jP 1))
 (jU 0 [(.a 0),(jP 1)] [] [(.va 0),(.va 1),(.va 3),(.va 4)])))
def a1s:Sx.Sys:=⟨[(.sh (.agg [.val,.val,.val,.val]))],a7V,[a3v,a3s],none,none⟩
def b5f:List Cfg:=[{todo:=[(.code (tfR 6 52)),(.inLoop (tfR 6 52)),(.inBlock 0),(.code [true,true,true])],sl:=[(.junk 0),(.ptr 0 0),(.junk 1),(.junk 2),(.junk 3),.undef]++jkR 4 6++[(.va 0),(jA 0),(jA 1)]++jkR 10 56,H:=[(.cells [(.va 1),(.va 2),(.va 3),(.va 0)] 27 false)],ni:=2,nb:=0,nv:=4,nj:=66},
 {todo:=[(.code (tfR 16 54076)),(.inLoop (tfR 16 54076)),(.inBlock 2),(.inBlock 1),(.code (tfR 9 423)),(.inLoop (tfR 6 52)),(.inBlock 0),(.code [true,true,true])],sl:=[(.junk 0),(.ptr 0 0),(.junk 1),(.junk 2),(.ptr 1 0),.undef]++jkR 3 6++[(.va 0),(jA 0),(jA 1)]++jkR 9 8++[(.ptr 1 0),(jA 2),(.ptr 0 0),(.va 1),(jA 3),(.bool (.a 0))]++jkR 17 5++[(.ptr 1 1),(jA 4),(.bool (.a 1)),(.junk 22),(.junk 23),(.ptr 1 2),(jA 5),(.bool (.a 2)),(.junk 24),(.junk 25),(.ptr 1 2),(jA 5),(.ptr 0 0),(.va 1),(.ptr 1 0),(jA 2),(.ea 1 (.a 2) 5 0),(.ea 1 (.a 2) 5 1),(jA 6),(.bool (.a 3))]++jkR 26 4++[(.va 2),(jA 7),(jA 8)]++jkR 30 10,H:=[(.cells [(.va 1),(.va 3),(.va 4),(.va 0)] 27 false),(.cells [(jA 2),(jA 4),(jA 5)] 122 false)],ni:=9,nb:=4,nv:=5,nj:=40}]
theorem b7T:SysOk Try.prog 57 a1s:=a0s (c:=(cg [(tfR 6 52),(tfR 16 54076)] [] [] false false false true)) (a0o _ _ _ _ _ _ _ _ _) Try.func57 Try.call57 (by kernel_rfl) b5f a1s 5000 rfl (by kernel_rfl) (by kernel_rfl) rfl
def a2O:PT :=
 (cA 21 [(.va 6)] [] [(.agg [.val,.val]),(.one .bool)]
  (.ret false (.bool (.a 0)) []))
def a4f:PT :=
 (.appF 4 (.va 5) 12
  (.both a2O a2O))
def a4k:PT :=
 (.appF 4 (.va 5) 12
  (cA 21 [(.va 6)] [] [(.agg [.val,.val]),(.one .bool)]
  (.ret false (.bool (.a 0)) [])))
def a4h:PT :=
 (.app none (.lit [[(jA 1),(jA 2),(jA 3),(jA 4),(jA 5),(jA 6),(jA 7),(jA 8),(jA 9),(jA 10),(jA 11),(jA 12)]]) 12
 (.both a4f a4k))
def a4l:PT :=
 (.app none (.lit [[(jA 1),(jA 2),(jA 3),(jA 4),(jA 5),(jA 6),(jA 7),(jA 8),(jA 9),(jA 10),(jA 11),(jA 12)]]) 12
 (.appF 4 (.va 5) 12
 (cA 21 [(.va 6)] [] [(.agg [.val,.val]),(.one .bool)]
 (.ret false (.bool (.a 0)) []))))
def a3l:PT :=
 (nD (.is 0 4)
 (nD (.is 0 4)
 (.chk 4 12
 (.both a4h a4l))))
def a3m:Sx.Sys:=⟨[(.sh (.agg [.val,.val,.val,.val,jD,.val])),(.sh (.agg [jD,jD,jD,jD,jD,jD,jD,jD,jD,jD,jD,jD]))],a3l,[],none,none⟩
def b1G:List Cfg:=[]
theorem b2x:SysOk Try.prog 65 a3m:=a0s (c:=(cg [] [] [] false false false true)) (a0o _ _ _ _ _ _ _ _ _) Try.func65 Try.call65 (by kernel_rfl) b1G a3m 5000 rfl (by kernel_rfl) (by kernel_rfl) rfl
def a7T:PT :=
 (jU 0 [(.l 0),(.a 0),(.a 1),(.a 2),(.a 3),(.a 4),(.a 5),(.a 6),(.a 7),(.a 8),(.a 9),(.a 10),(.a 11),(.a 12),(.a 13),(.a 14),(.a 15),(.a 16),(.a 17),(.a 18),(.a 19),(.a 20),(.a 21),(.a 22),(.a 23)] [] [])
def a0K:PT :=
 (.ite (.lt (.a 0) (.l 6))
 (.ite (.eq (.a 0) (.l 5))
  (.ite (.lt (.a 24) (.a 18))
  (nD (treeB (.sub (.a 12) (.a 18)))
  (nD (treeB (.add (.sub (.a 12) (.a 18)) (.a 24)))
  (.ite (.lt (.add (.sub (.a 12) (.a 18)) (.a 24)) (.a 6))
   (.ret false (.bool (.t true)) [])
   (jU 0 [(.l 6),(.a 1),(.a 2),(.a 3),(.a 4),(.a 5),(.a 6),(.a 7),(.a 8),(.a 9),(.a 10),(.a 11),(.a 12),(.a 13),(.a 14),(.a 15),(.a 16),(.a 17),(.a 18),(.a 19),(.a 20),(.a 21),(.a 22),(.a 23),(.a 24)] [] []))))
  (jU 0 [(.l 6),(.a 1),(.a 2),(.a 3),(.a 4),(.a 5),(.a 6),(.a 7),(.a 8),(.a 9),(.a 10),(.a 11),(.a 12),(.a 13),(.a 14),(.a 15),(.a 16),(.a 17),(.a 18),(.a 19),(.a 20),(.a 21),(.a 22),(.a 23),(.a 24)] [] []))
  (.ite (.eq (.a 0) (.l 4))
  (.ite (.lt (.a 23) (.a 17))
   (nD (treeB (.sub (.a 11) (.a 17)))
   (nD (treeB (.add (.sub (.a 11) (.a 17)) (.a 23)))
   (.ite (.lt (.add (.sub (.a 11) (.a 17)) (.a 23)) (.a 5))
   (.ret false (.bool (.t true)) [])
   (jU 0 [(.l 5),(.a 1),(.a 2),(.a 3),(.a 4),(.a 5),(.a 6),(.a 7),(.a 8),(.a 9),(.a 10),(.a 11),(.a 12),(.a 13),(.a 14),(.a 15),(.a 16),(.a 17),(.a 18),(.a 19),(.a 20),(.a 21),(.a 22),(.a 23),(.a 24)] [] []))))
   (jU 0 [(.l 5),(.a 1),(.a 2),(.a 3),(.a 4),(.a 5),(.a 6),(.a 7),(.a 8),(.a 9),(.a 10),(.a 11),(.a 12),(.a 13),(.a 14),(.a 15),(.a 16),(.a 17),(.a 18),(.a 19),(.a 20),(.a 21),(.a 22),(.a 23),(.a 24)] [] []))
  (.ite (.eq (.a 0) (.l 3))
   (.ite (.lt (.a 22) (.a 16))
   (nD (treeB (.sub (.a 10) (.a 16)))
   (nD (treeB (.add (.sub (.a 10) (.a 16)) (.a 22)))
   (.ite (.lt (.add (.sub (.a 10) (.a 16)) (.a 22)) (.a 4))
    (.ret false (.bool (.t true)) [])
    (jU 0 [(.l 4),(.a 1),(.a 2),(.a 3),(.a 4),(.a 5),(.a 6),(.a 7),(.a 8),(.a 9),(.a 10),(.a 11),(.a 12),(.a 13),(.a 14),(.a 15),(.a 16),(.a 17),(.a 18),(.a 19),(.a 20),(.a 21),(.a 22),(.a 23),(.a 24)] [] []))))
   (jU 0 [(.l 4),(.a 1),(.a 2),(.a 3),(.a 4),(.a 5),(.a 6),(.a 7),(.a 8),(.a 9),(.a 10),(.a 11),(.a 12),(.a 13),(.a 14),(.a 15),(.a 16),(.a 17),(.a 18),(.a 19),(.a 20),(.a 21),(.a 22),(.a 23),(.a 24)] [] []))
   (.ite (.eq (.a 0) (.l 2))
   (.ite (.lt (.a 21) (.a 15))
    (nD (treeB (.sub (.a 9) (.a 15)))
    (nD (treeB (.add (.sub (.a 9) (.a 15)) (.a 21)))
    (.ite (.lt (.add (.sub (.a 9) (.a 15)) (.a 21)) (.a 3))
    (.ret false (.bool (.t true)) [])
    (jU 0 [(.l 3),(.a 1),(.a 2),(.a 3),(.a 4),(.a 5),(.a 6),(.a 7),(.a 8),(.a 9),(.a 10),(.a 11),(.a 12),(.a 13),(.a 14),(.a 15),(.a 16),(.a 17),(.a 18),(.a 19),(.a 20),(.a 21),(.a 22),(.a 23),(.a 24)] [] []))))
    (jU 0 [(.l 3),(.a 1),(.a 2),(.a 3),(.a 4),(.a 5),(.a 6),(.a 7),(.a 8),(.a 9),(.a 10),(.a 11),(.a 12),(.a 13),(.a 14),(.a 15),(.a 16),(.a 17),(.a 18),(.a 19),(.a 20),(.a 21),(.a 22),(.a 23),(.a 24)] [] []))
   (.ite (.eq (.a 0) (.l 1))
    (.ite (.lt (.a 20) (.a 14))
    (nD (treeB (.sub (.a 8) (.a 14)))
    (nD (treeB (.add (.sub (.a 8) (.a 14)) (.a 20)))
    (.ite (.lt (.add (.sub (.a 8) (.a 14)) (.a 20)) (.a 2))
     (.ret false (.bool (.t true)) [])
     (jU 0 [(.l 2),(.a 1),(.a 2),(.a 3),(.a 4),(.a 5),(.a 6),(.a 7),(.a 8),(.a 9),(.a 10),(.a 11),(.a 12),(.a 13),(.a 14),(.a 15),(.a 16),(.a 17),(.a 18),(.a 19),(.a 20),(.a 21),(.a 22),(.a 23),(.a 24)] [] []))))
    (jU 0 [(.l 2),(.a 1),(.a 2),(.a 3),(.a 4),(.a 5),(.a 6),(.a 7),(.a 8),(.a 9),(.a 10),(.a 11),(.a 12),(.a 13),(.a 14),(.a 15),(.a 16),(.a 17),(.a 18),(.a 19),(.a 20),(.a 21),(.a 22),(.a 23),(.a 24)] [] []))
    (.ite (.eq (.a 0) (.l 0))
    (.ite (.lt (.a 19) (.a 13))
     (nD (treeB (.sub (.a 7) (.a 13)))
     (nD (treeB (.add (.sub (.a 7) (.a 13)) (.a 19)))
     (.ite (.lt (.add (.sub (.a 7) (.a 13)) (.a 19)) (.a 1))
     (.ret false (.bool (.t true)) [])
     (jU 0 [(.l 1),(.a 1),(.a 2),(.a 3),(.a 4),(.a 5),(.a 6),(.a 7),(.a 8),(.a 9),(.a 10),(.a 11),(.a 12),(.a 13),(.a 14),(.a 15),(.a 16),(.a 17),(.a 18),(.a 19),(.a 20),(.a 21),(.a 22),(.a 23),(.a 24)] [] []))))
     (jU 0 [(.l 1),(.a 1),(.a 2),(.a 3),(.a 4),(.a 5),(.a 6),(.a 7),(.a 8),(.a 9),(.a 10),(.a 11),(.a 12),(.a 13),(.a 14),(.a 15),(.a 16),(.a 17),(.a 18),(.a 19),(.a 20),(.a 21),(.a 22),(.a 23),(.a 24)] [] []))
    .stuck))))))
 rF)
def a0t:Sx.Sys:=⟨[(.sh (.agg [jD,jD,jD,jD,jD,jD])),(.sh (.agg [jD,jD,jD,jD,jD,jD])),(.sh (.agg [jD,jD,jD,jD,jD,jD])),(.sh (.agg [jD,jD,jD,jD,jD,jD]))],a7T,[a0K],none,none⟩
def b5h:List Cfg:=[{todo:=[(.code (tfR 5 20)),(.inLoop (tfR 5 20)),(.inBlock 0),(.code [true,true])],sl:=jkR 0 4++[(.ptr 0 0),(.ptr 1 0),(.ptr 2 0),(.ptr 3 0),(.junk 4),(.junk 5),(jA 0)]++jkR 6 27,H:=[(.cells [(jA 1),(jA 2),(jA 3),(jA 4),(jA 5),(jA 6)] 38 false),(.cells [(jA 7),(jA 8),(jA 9),(jA 10),(jA 11),(jA 12)] 38 false),(.cells [(jA 13),(jA 14),(jA 15),(jA 16),(jA 17),(jA 18)] 38 false),(.cells [(jA 19),(jA 20),(jA 21),(jA 22),(jA 23),(jA 24)] 38 false)],ni:=25,nb:=0,nv:=0,nj:=33}]
theorem b7A:SysOk Try.prog 73 a0t:=a0s (c:=(cg [(tfR 5 20)] [] [] false false false true)) (a0o _ _ _ _ _ _ _ _ _) Try.func73 Try.call73 (by kernel_rfl) b5h a0t 5000 rfl (by kernel_rfl) (by kernel_rfl) rfl
def a9B:PT :=
 (.ite (.le (.a 1) (.a 0))
 (.ret false (.bool (.le (.a 0) (.a 2))) [])
 rF)
def a6C:Sx.Sys:=⟨[(.sh (.one jD)),(.sh (.one jD)),(.sh (.one jD))],a9B,[],none,none⟩
def b7L:List Cfg:=[]
theorem b9T:SysOk Try.prog 81 a6C:=a0s (c:=(cg [] [] [] false false false true)) (a0o _ _ _ _ _ _ _ _ _) Try.func81 Try.call81 (by kernel_rfl) b7L a6C 5000 rfl (by kernel_rfl) (by kernel_rfl) rfl
def a6u:PT :=
 (cA 63 [(.agg [(.va 0),(.va 1),(.va 2),(.va 3)]),(jA 0)] [] [(.one .bool)]
 (.ite (.not (.a 0))
 (.ret false (jE 0) [])
 (nD (treeI (.a 0) (.slen 1))
 (lO true (.ea 1 (.a 0) 4 3) [jD]
 (nD (.is 0 4)
 (jU 0 [(.a 0),(.a 1),(.slen 4),(.l 0)] [] [(.va 0),(.va 1),(.va 2),(.va 3),(.va 4)]))))))
def a2R:PT :=
 (.ite (.lt (.a 3) (.a 2))
 (nD (treeI (.a 3) (.slen 4))
 (lO false (.ea 4 (.a 3) 12 0) [jD,jD,jD,jD,jD,jD,jD,jD,jD,jD,jD,jD]
 (cA 88 [(.agg [(.va 0),(.va 1),(.va 2),(.va 3),(jA 0),(.va 4)]),(.agg [(jA 4),(jA 5),(jA 6),(jA 7),(jA 8),(jA 9),(jA 10),(jA 11),(jA 12),(jA 13),(jA 14),(jA 15)])] [] [(.one jD)]
 (nD (treeB (jP 3))
 (jU 0 [(.a 0),(.mn (.a 1) (.a 16)),(.a 2),(jP 3)] [] [(.va 0),(.va 1),(.va 2),(.va 3),(.va 4)])))))
 (.ret false (jA 1) []))
def a1T:Sx.Sys:=⟨[(.sh (.agg [.val,.val,.val,.val])),(.sh (.one jD)),(.sh (.one .val))],a6u,[a2R],none,none⟩
def b3c:List Cfg:=[{todo:=[(.code (tfR 7 116)),(.inLoop (tfR 7 116)),(.inBlock 0),(.code [true,true,true,true])],sl:=jkR 0 4++[.undef,.undef,(.junk 4),(.fn 88 1 [(.agg [(.va 0),(.va 1),(.va 2),(.va 3),(jA 0),(.va 4)])]),(jA 1),.undef]++jkR 5 16++[(.va 4),(jA 2),(jA 3)]++jkR 21 9++[.undef],H:=[],ni:=4,nb:=0,nv:=5,nj:=30}]
theorem b4p:SysOk Try.prog 89 a1T:=a0s (c:=(cg [(tfR 7 116)] [] [(33,[3])] false false false true)) (a0o _ _ _ _ _ _ _ _ _) Try.func89 Try.call89 (by kernel_rfl) b3c a1T 5000 rfl (by kernel_rfl) (by kernel_rfl) rfl
def a9G:PT :=
 (lO false (.pa 1 0) [jD]
 (.ite (.eq (.a 3) (.a 4))
 (.ret true (jE 1) [])
 (.ret true (jE 0) [])))
def a6A:Sx.Sys:=⟨[(.sh (.agg [.val,jD,jD,jD,jD])),.ptr],a9G,[],none,none⟩
def b7a:List Cfg:=[]
theorem b9t:SysOk Try.prog 97 a6A:=a0s (c:=(cg [] [] [] true true false true)) (a0o _ _ _ _ _ _ _ _ _) Try.func97 Try.call97 (by kernel_rfl) b7a a6A 5000 rfl (by kernel_rfl) (by kernel_rfl) rfl
def a8z:PT :=
 (nD (.is 4 0)
 (.ite (.not (.nil 0))
 (nD (.is 1 0)
 (lO false (.pa 0 18) [.bool]
 (.ret false (.bool (.a 0)) [])))
 rF))
def a5O:Sx.Sys:=⟨[(.sh (.one .val))],a8z,[],none,none⟩
def b6F:List Cfg:=[]
theorem b8x:SysOk Try.prog 10 a5O:=a0s (c:=(cg [] [] [] true false false true)) (a0o _ _ _ _ _ _ _ _ _) Try.func10 Try.call10 (by kernel_rfl) b6F a5O 5000 rfl (by kernel_rfl) (by kernel_rfl) rfl
def b2K:PT :=
 (cA 54 [(.va 0)] [] [(.one jD)]
 (.ite (.not (.eq (.a 0) (.l 0)))
 (.ret false (jA 0) [])
 (cA 55 [(.va 1)] [] [(.one jD)]
 (.ite (.not (.eq (.a 1) (.l 0)))
  (.ret false (jA 1) [])
  (cA 56 [(.agg [(.va 0),(.va 1),(.va 2),(.va 3)])] [] [(.one jD)]
  (.ite (.not (.eq (.a 2) (.l 0)))
  (.ret false (jA 2) [])
  (cA 57 [(.agg [(.va 0),(.va 1),(.va 2),(.va 3)])] [] [(.one jD)]
  (.ret false (jA 3) []))))))))
def a9Y:Sx.Sys:=⟨[(.sh (.agg [.val,.val,.val,.val]))],b2K,[],none,none⟩
def c1U:List Cfg:=[]
theorem c4f:SysOk Try.prog 26 a9Y:=a0s (c:=(cg [] [] [] false false false true)) (a0o _ _ _ _ _ _ _ _ _) Try.func26 Try.call26 (by kernel_rfl) c1U a9Y 5000 rfl (by kernel_rfl) (by kernel_rfl) rfl
def a9I:PT :=
 (.ite (.eq (.a 0) (.l 1))
 (cA 63 [(.agg [(.va 0),(.va 1),(.va 2),(.va 3)]),(jA 1)] [] [(.one .bool)]
 (.ite (.not (.a 0))
  (.ret false (jE 6) [])
  (cA 67 [(.agg [(jA 8),(jA 9),(jA 10),(jA 11),(jA 12),(jA 13)])] [] [(.one jD)]
  (.ite (.not (.eq (.a 14) (.l 0)))
  (.ret false (jA 14) [])
  (cA 68 [(.va 4)] [] [(.one .bool)]
  (.ite (.a 1)
   (cA 69 [(.agg [(jA 2),(jA 3),(jA 4),(jA 5),(jA 6),(jA 7),(jA 8),(jA 9),(jA 10),(jA 11),(jA 12),(jA 13)])] [] [(.one .bool)]
   (.ite (.not (.a 2))
   (.ret false (jE 15) [])
   (.ret false (jE 0) [])))
   (cA 64 [(.agg [(.va 0),(.va 1),(.va 2),(.va 3),(jA 1),(.va 4)]),(.agg [(jA 2),(jA 3),(jA 4),(jA 5),(jA 6),(jA 7),(jA 8),(jA 9),(jA 10),(jA 11),(jA 12),(jA 13)])] [] [(.one .bool)]
   (.ite (.not (.a 2))
   (.ret false (jE 15) [])
   (.ret false (jE 0) [])))))))))
 (.ite (.eq (.a 0) (.l 2))
  (cA 63 [(.agg [(.va 0),(.va 1),(.va 2),(.va 3)]),(jA 1)] [] [(.one .bool)]
  (.ite (.not (.a 0))
  (.ret false (jE 6) [])
  (cA 67 [(.agg [(jA 8),(jA 9),(jA 10),(jA 11),(jA 12),(jA 13)])] [] [(.one jD)]
  (.ite (.not (.eq (.a 14) (.l 0)))
   (.ret false (jA 14) [])
   (cA 68 [(.va 4)] [] [(.one .bool)]
   (.ite (.a 1)
   (cA 69 [(.agg [(jA 2),(jA 3),(jA 4),(jA 5),(jA 6),(jA 7),(jA 8),(jA 9),(jA 10),(jA 11),(jA 12),(jA 13)])] [] [(.one .bool)]
   (.ite (.not (.a 2))
    (.ret false (jE 15) [])
    (.ret false (jE 0) [])))
   (cA 65 [(.agg [(.va 0),(.va 1),(.va 2),(.va 3),(jA 1),(.va 4)]),(.agg [(jA 2),(jA 3),(jA 4),(jA 5),(jA 6),(jA 7),(jA 8),(jA 9),(jA 10),(jA 11),(jA 12),(jA 13)])] [] [(.one .bool)]
   (.ite (.not (.a 2))
    (.ret false (jE 15) [])
    (.ret false (jE 0) [])))))))))
  (.ite (.eq (.a 0) (.l 3))
  (cA 63 [(.agg [(.va 0),(.va 1),(.va 2),(.va 3)]),(jA 1)] [] [(.one .bool)]
  (.ite (.not (.a 0))
   (.ret false (jE 6) [])
   (cA 67 [(.agg [(jA 8),(jA 9),(jA 10),(jA 11),(jA 12),(jA 13)])] [] [(.one jD)]
   (.ite (.not (.eq (.a 14) (.l 0)))
   (.ret false (jA 14) [])
   (cA 68 [(.va 4)] [] [(.one .bool)]
   (.ite (.a 1)
    (cA 69 [(.agg [(jA 2),(jA 3),(jA 4),(jA 5),(jA 6),(jA 7),(jA 8),(jA 9),(jA 10),(jA 11),(jA 12),(jA 13)])] [] [(.one .bool)]
    (.ite (.not (.a 2))
    (.ret false (jE 15) [])
    (.ret false (jE 0) [])))
    (cA 66 [(.agg [(.va 0),(.va 1),(.va 2),(.va 3),(jA 1),(.va 4)]),(.agg [(jA 2),(jA 3),(jA 4),(jA 5),(jA 6),(jA 7),(jA 8),(jA 9),(jA 10),(jA 11),(jA 12),(jA 13)])] [] [(.one .bool)]
    (.ite (.not (.a 2))
    (.ret false (jE 15) [])
    (.ret false (jE 0) [])))))))))
  (.ret false (jE 4) []))))
def a6B:Sx.Sys:=⟨[(.sh (.agg [.val,.val,.val,.val])),(.sh (.one jD)),(.sh (.one jD)),(.sh (.one .val)),(.sh (.agg [jD,jD,jD,jD,jD,jD,jD,jD,jD,jD,jD,jD]))],a9I,[],none,none⟩
def b7e:List Cfg:=[]
theorem b9Y:SysOk Try.prog 34 a6B:=a0s (c:=(cg [] [] [(43,[4])] false false false true)) (a0o _ _ _ _ _ _ _ _ _) Try.func34 Try.call34 (by kernel_rfl) b7e a6B 5000 rfl (by kernel_rfl) (by kernel_rfl) rfl
def b3J:PT :=
 (jU 0 [(.l 0),(.a 0),(.a 1),(.a 2),(.a 3),(.a 4),(.a 5),(.a 6),(.a 7),(.a 8),(.a 9),(.a 10),(.a 11),(.l 0),(.l 0),(.l 0),(.l 0),(.l 0),(.l 0)] [] [])
def a1y:PT :=
 (.ite (.lt (.a 0) (.l 6))
 (.ite (.eq (.a 0) (.l 5))
  (.ite (.lt (.a 12) (.a 6))
  (nD (treeB (.sub (.a 6) (.a 12)))
  (jU 0 [(.l 6),(.a 1),(.a 2),(.a 3),(.a 4),(.a 5),(.a 6),(.a 7),(.a 8),(.a 9),(.a 10),(.a 11),(.a 12),(.a 13),(.a 14),(.a 15),(.a 16),(.a 17),(.sub (.a 6) (.a 12))] [] []))
  (jU 0 [(.l 6),(.a 1),(.a 2),(.a 3),(.a 4),(.a 5),(.a 6),(.a 7),(.a 8),(.a 9),(.a 10),(.a 11),(.a 12),(.a 13),(.a 14),(.a 15),(.a 16),(.a 17),(.a 18)] [] []))
  (.ite (.eq (.a 0) (.l 4))
  (.ite (.lt (.a 11) (.a 5))
   (nD (treeB (.sub (.a 5) (.a 11)))
   (jU 0 [(.l 5),(.a 1),(.a 2),(.a 3),(.a 4),(.a 5),(.a 6),(.a 7),(.a 8),(.a 9),(.a 10),(.a 11),(.a 12),(.a 13),(.a 14),(.a 15),(.a 16),(.sub (.a 5) (.a 11)),(.a 18)] [] []))
   (jU 0 [(.l 5),(.a 1),(.a 2),(.a 3),(.a 4),(.a 5),(.a 6),(.a 7),(.a 8),(.a 9),(.a 10),(.a 11),(.a 12),(.a 13),(.a 14),(.a 15),(.a 16),(.a 17),(.a 18)] [] []))
  (.ite (.eq (.a 0) (.l 3))
   (.ite (.lt (.a 10) (.a 4))
   (nD (treeB (.sub (.a 4) (.a 10)))
   (jU 0 [(.l 4),(.a 1),(.a 2),(.a 3),(.a 4),(.a 5),(.a 6),(.a 7),(.a 8),(.a 9),(.a 10),(.a 11),(.a 12),(.a 13),(.a 14),(.a 15),(.sub (.a 4) (.a 10)),(.a 17),(.a 18)] [] []))
   (jU 0 [(.l 4),(.a 1),(.a 2),(.a 3),(.a 4),(.a 5),(.a 6),(.a 7),(.a 8),(.a 9),(.a 10),(.a 11),(.a 12),(.a 13),(.a 14),(.a 15),(.a 16),(.a 17),(.a 18)] [] []))
   (.ite (.eq (.a 0) (.l 2))
   (.ite (.lt (.a 9) (.a 3))
    (nD (treeB (.sub (.a 3) (.a 9)))
    (jU 0 [(.l 3),(.a 1),(.a 2),(.a 3),(.a 4),(.a 5),(.a 6),(.a 7),(.a 8),(.a 9),(.a 10),(.a 11),(.a 12),(.a 13),(.a 14),(.sub (.a 3) (.a 9)),(.a 16),(.a 17),(.a 18)] [] []))
    (jU 0 [(.l 3),(.a 1),(.a 2),(.a 3),(.a 4),(.a 5),(.a 6),(.a 7),(.a 8),(.a 9),(.a 10),(.a 11),(.a 12),(.a 13),(.a 14),(.a 15),(.a 16),(.a 17),(.a 18)] [] []))
   (.ite (.eq (.a 0) (.l 1))
    (.ite (.lt (.a 8) (.a 2))
    (nD (treeB (.sub (.a 2) (.a 8)))
    (jU 0 [(.l 2),(.a 1),(.a 2),(.a 3),(.a 4),(.a 5),(.a 6),(.a 7),(.a 8),(.a 9),(.a 10),(.a 11),(.a 12),(.a 13),(.sub (.a 2) (.a 8)),(.a 15),(.a 16),(.a 17),(.a 18)] [] []))
    (jU 0 [(.l 2),(.a 1),(.a 2),(.a 3),(.a 4),(.a 5),(.a 6),(.a 7),(.a 8),(.a 9),(.a 10),(.a 11),(.a 12),(.a 13),(.a 14),(.a 15),(.a 16),(.a 17),(.a 18)] [] []))
    (.ite (.eq (.a 0) (.l 0))
    (.ite (.lt (.a 7) (.a 1))
     (nD (treeB (.sub (.a 1) (.a 7)))
     (jU 0 [(.l 1),(.a 1),(.a 2),(.a 3),(.a 4),(.a 5),(.a 6),(.a 7),(.a 8),(.a 9),(.a 10),(.a 11),(.a 12),(.sub (.a 1) (.a 7)),(.a 14),(.a 15),(.a 16),(.a 17),(.a 18)] [] []))
     (jU 0 [(.l 1),(.a 1),(.a 2),(.a 3),(.a 4),(.a 5),(.a 6),(.a 7),(.a 8),(.a 9),(.a 10),(.a 11),(.a 12),(.a 13),(.a 14),(.a 15),(.a 16),(.a 17),(.a 18)] [] []))
    .stuck))))))
 (.ret false (.agg [(jA 13),(jA 14),(jA 15),(jA 16),(jA 17),(jA 18)]) []))
def a0L:Sx.Sys:=⟨[(.sh (.agg [jD,jD,jD,jD,jD,jD])),(.sh (.agg [jD,jD,jD,jD,jD,jD]))],b3J,[a1y],none,none⟩
def c2y:List Cfg:=[{todo:=[(.code (tfR 6 52)),(.inLoop (tfR 6 52)),(.inBlock 0),(.code [true,true,true])],sl:=[(.junk 0),(.junk 1),(.ptr 0 0),(.ptr 1 0),(.ptr 2 0),(.ptr 3 0),(.junk 2),(jA 0)]++jkR 3 19++[.undef],H:=[(.cells [(jA 1),(jA 2),(jA 3),(jA 4),(jA 5),(jA 6)] 98 false),(.cells [(jA 7),(jA 8),(jA 9),(jA 10),(jA 11),(jA 12)] 98 false),(.cells [(jE 0),(jE 0),(jE 0),(jE 0),(jE 0),(jE 0)] 38 false),(.cells [(jA 13),(jA 14),(jA 15),(jA 16),(jA 17),(jA 18)] 38 false)],ni:=19,nb:=0,nv:=0,nj:=22}]
theorem c5h:SysOk Try.prog 42 a0L:=a0s (c:=(cg [(tfR 6 52)] [] [] false false false true)) (a0o _ _ _ _ _ _ _ _ _) Try.func42 Try.call42 (by kernel_rfl) c2y a0L 5000 rfl (by kernel_rfl) (by kernel_rfl) rfl
def b2J:PT :=
 (nD (treeB (.mul (.a 0) (.a 6)))
 (nD (treeB (.mul (.a 0) (.a 6)))
 (nD (treeB (.mul (.a 1) (.a 7)))
 (nD (treeB (.add (.mul (.a 0) (.a 6)) (.mul (.a 1) (.a 7))))
 (nD (treeB (.mul (.a 2) (.a 8)))
 (nD (treeB (.add (.add (.mul (.a 0) (.a 6)) (.mul (.a 1) (.a 7))) (.mul (.a 2) (.a 8))))
 (nD (treeB (.mul (.a 3) (.a 9)))
 (nD (treeB (.add (.add (.add (.mul (.a 0) (.a 6)) (.mul (.a 1) (.a 7))) (.mul (.a 2) (.a 8))) (.mul (.a 3) (.a 9))))
 (nD (treeB (.mul (.a 4) (.a 10)))
 (nD (treeB (.add (.add (.add (.add (.mul (.a 0) (.a 6)) (.mul (.a 1) (.a 7))) (.mul (.a 2) (.a 8))) (.mul (.a 3) (.a 9))) (.mul (.a 4) (.a 10))))
 (nD (treeB (.mul (.a 5) (.a 11)))
 (nD (treeB (.add (.add (.add (.add (.add (.mul (.a 0) (.a 6)) (.mul (.a 1) (.a 7))) (.mul (.a 2) (.a 8))) (.mul (.a 3) (.a 9))) (.mul (.a 4) (.a 10))) (.mul (.a 5) (.a 11))))
 (.ret false (.int .i64 (.add (.add (.add (.add (.add (.mul (.a 0) (.a 6)) (.mul (.a 1) (.a 7))) (.mul (.a 2) (.a 8))) (.mul (.a 3) (.a 9))) (.mul (.a 4) (.a 10))) (.mul (.a 5) (.a 11)))) [])))))))))))))
def b0d:Sx.Sys:=⟨[(.sh (.agg [jD,jD,jD,jD,jD,jD])),(.sh (.agg [jD,jD,jD,jD,jD,jD]))],b2J,[],none,none⟩
def c1I:List Cfg:=[]
theorem c4a:SysOk Try.prog 50 b0d:=a0s (c:=(cg [] [] [] false false false true)) (a0o _ _ _ _ _ _ _ _ _) Try.func50 Try.call50 (by kernel_rfl) c1I b0d 5000 rfl (by kernel_rfl) (by kernel_rfl) rfl
def a0R:PT :=
 (nD (.is 0 0)
 (.ite (.nil 0)
 (.ret false .nilS [])
 (.app none (.lit []) 5
 (.app (some 1) (.va 0) 5
 (.ret false (.va 2) [])))))
def a3Y:Sx.Sys:=⟨[(.sh (.one .val))],a0R,[],none,none⟩
def a6Q:List Cfg:=[]
def a5e:PT :=
 (cA 64 [(.agg [(.va 0),(.va 1),(.va 2),(.va 3),(jA 0),(.va 4)]),(.agg [(jA 1),(jA 2),(jA 3),(jA 4),(jA 5),(jA 6),(jA 7),(jA 8),(jA 9),(jA 10),(jA 11),(jA 12)])] [] [(.one .bool)]
 (.ite (.a 0)
 (.ret false (.bool (.t true)) [])
 (cA 65 [(.agg [(.va 0),(.va 1),(.va 2),(.va 3),(jA 0),(.va 4)]),(.agg [(jA 1),(jA 2),(jA 3),(jA 4),(jA 5),(jA 6),(jA 7),(jA 8),(jA 9),(jA 10),(jA 11),(jA 12)])] [] [(.one .bool)]
 (.ret false (.bool (.a 1)) []))))
def a3n:Sx.Sys:=⟨[(.sh (.agg [.val,.val,.val,.val,jD,.val])),(.sh (.agg [jD,jD,jD,jD,jD,jD,jD,jD,jD,jD,jD,jD]))],a5e,[],none,none⟩
def b1S:List Cfg:=[]
theorem b2Q:SysOk Try.prog 66 a3n:=a0s (c:=(cg [] [] [] false false false true)) (a0o _ _ _ _ _ _ _ _ _) Try.func66 Try.call66 (by kernel_rfl) b1S a3n 5000 rfl (by kernel_rfl) (by kernel_rfl) rfl
def a8G:PT :=
 (jU 0 [(.l 0),(.a 0),(.a 1),(.a 2),(.a 3),(.a 4),(.a 5),(.a 6),(.a 7),(.a 8),(.a 9),(.a 10),(.a 11),(.a 12),(.a 13),(.a 14),(.a 15),(.a 16),(.a 17),(.a 18),(.a 19),(.a 20),(.a 21),(.a 22),(.a 23)] [] [])
def a0S:PT :=
 (.ite (.lt (.a 0) (.l 6))
 (.ite (.eq (.a 0) (.l 5))
  (.ite (.lt (.a 24) (.a 18))
  (nD (treeB (.sub (.a 18) (.a 24)))
  (nD (treeB (.sub (.a 12) (.a 6)))
  (nD (treeB (.sub (.a 18) (.mn (.sub (.a 18) (.a 24)) (.mx (.sub (.a 12) (.a 6)) (.l 0)))))
  (jU 0 [(.l 6),(.a 1),(.a 2),(.a 3),(.a 4),(.a 5),(.a 6),(.a 7),(.a 8),(.a 9),(.a 10),(.a 11),(.a 12),(.a 13),(.a 14),(.a 15),(.a 16),(.a 17),(.a 18),(.a 19),(.a 20),(.a 21),(.a 22),(.a 23),(.sub (.a 18) (.mn (.sub (.a 18) (.a 24)) (.mx (.sub (.a 12) (.a 6)) (.l 0))))] [] []))))
  (jU 0 [(.l 6),(.a 1),(.a 2),(.a 3),(.a 4),(.a 5),(.a 6),(.a 7),(.a 8),(.a 9),(.a 10),(.a 11),(.a 12),(.a 13),(.a 14),(.a 15),(.a 16),(.a 17),(.a 18),(.a 19),(.a 20),(.a 21),(.a 22),(.a 23),(.a 24)] [] []))
  (.ite (.eq (.a 0) (.l 4))
  (.ite (.lt (.a 23) (.a 17))
   (nD (treeB (.sub (.a 17) (.a 23)))
   (nD (treeB (.sub (.a 11) (.a 5)))
   (nD (treeB (.sub (.a 17) (.mn (.sub (.a 17) (.a 23)) (.mx (.sub (.a 11) (.a 5)) (.l 0)))))
   (jU 0 [(.l 5),(.a 1),(.a 2),(.a 3),(.a 4),(.a 5),(.a 6),(.a 7),(.a 8),(.a 9),(.a 10),(.a 11),(.a 12),(.a 13),(.a 14),(.a 15),(.a 16),(.a 17),(.a 18),(.a 19),(.a 20),(.a 21),(.a 22),(.sub (.a 17) (.mn (.sub (.a 17) (.a 23)) (.mx (.sub (.a 11) (.a 5)) (.l 0)))),(.a 24)] [] []))))
   (jU 0 [(.l 5),(.a 1),(.a 2),(.a 3),(.a 4),(.a 5),(.a 6),(.a 7),(.a 8),(.a 9),(.a 10),(.a 11),(.a 12),(.a 13),(.a 14),(.a 15),(.a 16),(.a 17),(.a 18),(.a 19),(.a 20),(.a 21),(.a 22),(.a 23),(.a 24)] [] []))
  (.ite (.eq (.a 0) (.l 3))
   (.ite (.lt (.a 22) (.a 16))
   (nD (treeB (.sub (.a 16) (.a 22)))
   (nD (treeB (.sub (.a 10) (.a 4)))
   (nD (treeB (.sub (.a 16) (.mn (.sub (.a 16) (.a 22)) (.mx (.sub (.a 10) (.a 4)) (.l 0)))))
   (jU 0 [(.l 4),(.a 1),(.a 2),(.a 3),(.a 4),(.a 5),(.a 6),(.a 7),(.a 8),(.a 9),(.a 10),(.a 11),(.a 12),(.a 13),(.a 14),(.a 15),(.a 16),(.a 17),(.a 18),(.a 19),(.a 20),(.a 21),(.sub (.a 16) (.mn (.sub (.a 16) (.a 22)) (.mx (.sub (.a 10) (.a 4)) (.l 0)))),(.a 23),(.a 24)] [] []))))
   (jU 0 [(.l 4),(.a 1),(.a 2),(.a 3),(.a 4),(.a 5),(.a 6),(.a 7),(.a 8),(.a 9),(.a 10),(.a 11),(.a 12),(.a 13),(.a 14),(.a 15),(.a 16),(.a 17),(.a 18),(.a 19),(.a 20),(.a 21),(.a 22),(.a 23),(.a 24)] [] []))
   (.ite (.eq (.a 0) (.l 2))
   (.ite (.lt (.a 21) (.a 15))
    (nD (treeB (.sub (.a 15) (.a 21)))
    (nD (treeB (.sub (.a 9) (.a 3)))
    (nD (treeB (.sub (.a 15) (.mn (.sub (.a 15) (.a 21)) (.mx (.sub (.a 9) (.a 3)) (.l 0)))))
    (jU 0 [(.l 3),(.a 1),(.a 2),(.a 3),(.a 4),(.a 5),(.a 6),(.a 7),(.a 8),(.a 9),(.a 10),(.a 11),(.a 12),(.a 13),(.a 14),(.a 15),(.a 16),(.a 17),(.a 18),(.a 19),(.a 20),(.sub (.a 15) (.mn (.sub (.a 15) (.a 21)) (.mx (.sub (.a 9) (.a 3)) (.l 0)))),(.a 22),(.a 23),(.a 24)] [] []))))
    (jU 0 [(.l 3),(.a 1),(.a 2),(.a 3),(.a 4),(.a 5),(.a 6),(.a 7),(.a 8),(.a 9),(.a 10),(.a 11),(.a 12),(.a 13),(.a 14),(.a 15),(.a 16),(.a 17),(.a 18),(.a 19),(.a 20),(.a 21),(.a 22),(.a 23),(.a 24)] [] []))
   (.ite (.eq (.a 0) (.l 1))
    (.ite (.lt (.a 20) (.a 14))
    (nD (treeB (.sub (.a 14) (.a 20)))
    (nD (treeB (.sub (.a 8) (.a 2)))
    (nD (treeB (.sub (.a 14) (.mn (.sub (.a 14) (.a 20)) (.mx (.sub (.a 8) (.a 2)) (.l 0)))))
    (jU 0 [(.l 2),(.a 1),(.a 2),(.a 3),(.a 4),(.a 5),(.a 6),(.a 7),(.a 8),(.a 9),(.a 10),(.a 11),(.a 12),(.a 13),(.a 14),(.a 15),(.a 16),(.a 17),(.a 18),(.a 19),(.sub (.a 14) (.mn (.sub (.a 14) (.a 20)) (.mx (.sub (.a 8) (.a 2)) (.l 0)))),(.a 21),(.a 22),(.a 23),(.a 24)] [] []))))
    (jU 0 [(.l 2),(.a 1),(.a 2),(.a 3),(.a 4),(.a 5),(.a 6),(.a 7),(.a 8),(.a 9),(.a 10),(.a 11),(.a 12),(.a 13),(.a 14),(.a 15),(.a 16),(.a 17),(.a 18),(.a 19),(.a 20),(.a 21),(.a 22),(.a 23),(.a 24)] [] []))
    (.ite (.eq (.a 0) (.l 0))
    (.ite (.lt (.a 19) (.a 13))
     (nD (treeB (.sub (.a 13) (.a 19)))
     (nD (treeB (.sub (.a 7) (.a 1)))
     (nD (treeB (.sub (.a 13) (.mn (.sub (.a 13) (.a 19)) (.mx (.sub (.a 7) (.a 1)) (.l 0)))))
     (jU 0 [(.l 1),(.a 1),(.a 2),(.a 3),(.a 4),(.a 5),(.a 6),(.a 7),(.a 8),(.a 9),(.a 10),(.a 11),(.a 12),(.a 13),(.a 14),(.a 15),(.a 16),(.a 17),(.a 18),(.sub (.a 13) (.mn (.sub (.a 13) (.a 19)) (.mx (.sub (.a 7) (.a 1)) (.l 0)))),(.a 20),(.a 21),(.a 22),(.a 23),(.a 24)] [] []))))
     (jU 0 [(.l 1),(.a 1),(.a 2),(.a 3),(.a 4),(.a 5),(.a 6),(.a 7),(.a 8),(.a 9),(.a 10),(.a 11),(.a 12),(.a 13),(.a 14),(.a 15),(.a 16),(.a 17),(.a 18),(.a 19),(.a 20),(.a 21),(.a 22),(.a 23),(.a 24)] [] []))
    .stuck))))))
 (.ret false (.agg [(jA 19),(jA 20),(jA 21),(jA 22),(jA 23),(jA 24)]) []))
def a0v:Sx.Sys:=⟨[(.sh (.agg [jD,jD,jD,jD,jD,jD])),(.sh (.agg [jD,jD,jD,jD,jD,jD])),(.sh (.agg [jD,jD,jD,jD,jD,jD])),(.sh (.agg [jD,jD,jD,jD,jD,jD]))],a8G,[a0S],none,none⟩
def b6C:List Cfg:=[{todo:=[(.code (tfR 5 20)),(.inLoop (tfR 5 20)),(.inBlock 0),(.code [true,true])],sl:=jkR 0 4++[(.ptr 0 0),(.ptr 1 0),(.ptr 2 0),(.ptr 3 0),(.ptr 4 0),(.junk 4),(jA 0)]++jkR 5 32++[.undef],H:=[(.cells [(jA 1),(jA 2),(jA 3),(jA 4),(jA 5),(jA 6)] 38 false),(.cells [(jA 7),(jA 8),(jA 9),(jA 10),(jA 11),(jA 12)] 38 false),(.cells [(jA 13),(jA 14),(jA 15),(jA 16),(jA 17),(jA 18)] 38 false),(.cells [(jA 19),(jA 20),(jA 21),(jA 22),(jA 23),(jA 24)] 38 false),(.cells [(jE 0),(jE 0),(jE 0),(jE 0),(jE 0),(jE 0)] 38 false)],ni:=25,nb:=0,nv:=0,nj:=37}]
theorem b8u:SysOk Try.prog 74 a0v:=a0s (c:=(cg [(tfR 5 20)] [] [] false false false true)) (a0o _ _ _ _ _ _ _ _ _) Try.func74 Try.call74 (by kernel_rfl) b6C a0v 5000 rfl (by kernel_rfl) (by kernel_rfl) rfl
def b1A:PT :=
 (cA 67 [(.agg [(jA 0),(jA 1),(jA 2),(jA 3),(jA 4),(jA 5)])] [] [(.one jD)]
 (.ite (.not (.eq (.a 6) (.l 0)))
 (.ret false (jE 0) [])
 (nD (treeB (jP 0))
 (nD (treeB (.mul (.l 1) (jP 0)))
 (nD (treeB (jP 1))
 (nD (treeB (.mul (.mul (.l 1) (jP 0)) (jP 1)))
 (nD (treeB (jP 2))
 (nD (treeB (.mul (.mul (.mul (.l 1) (jP 0)) (jP 1)) (jP 2)))
 (nD (treeB (jP 3))
 (nD (treeB (.mul (.mul (.mul (.mul (.l 1) (jP 0)) (jP 1)) (jP 2)) (jP 3)))
 (nD (treeB (jP 4))
 (nD (treeB (.mul (.mul (.mul (.mul (.mul (.l 1) (jP 0)) (jP 1)) (jP 2)) (jP 3)) (jP 4)))
 (nD (treeB (jP 5))
 (nD (treeB (.mul (.mul (.mul (.mul (.mul (.mul (.l 1) (jP 0)) (jP 1)) (jP 2)) (jP 3)) (jP 4)) (jP 5)))
 (.ite (.lt (.l 1024) (.mul (.mul (.mul (.mul (.mul (.mul (.l 1) (jP 0)) (jP 1)) (jP 2)) (jP 3)) (jP 4)) (jP 5)))
  (.ret false (jE 0) [])
  (.ret false (.int .i64 (.mul (.mul (.mul (.mul (.mul (.mul (.l 1) (jP 0)) (jP 1)) (jP 2)) (jP 3)) (jP 4)) (jP 5))) []))))))))))))))))
def a9a:Sx.Sys:=⟨[(.sh (.agg [jD,jD,jD,jD,jD,jD]))],b1A,[],none,none⟩
def c0E:List Cfg:=[]
theorem c2C:SysOk Try.prog 82 a9a:=a0s (c:=(cg [] [] [] false false false true)) (a0o _ _ _ _ _ _ _ _ _) Try.func82 Try.call82 (by kernel_rfl) c0E a9a 5000 rfl (by kernel_rfl) (by kernel_rfl) rfl
def a6F:PT :=
 (lO false (.pa 0 0) [jD]
 (nD (treeB (.add (.a 0) (.a 1)))
 (lO false (.pa 0 1) [jD]
 (nD (treeB (.mul (.a 0) (.a 2)))
 (nD (treeB (.add (.mul (.a 0) (.a 2)) (.l 99)))
 (nD (treeB (.tdiv (.add (.mul (.a 0) (.a 2)) (.l 99)) (.l 100)))
 (nD (treeB (.add (.add (.a 0) (.a 1)) (.tdiv (.add (.mul (.a 0) (.a 2)) (.l 99)) (.l 100))))
 (.ret true (.int .i64 (.add (.add (.a 0) (.a 1)) (.tdiv (.add (.mul (.a 0) (.a 2)) (.l 99)) (.l 100)))) []))))))))
def a4A:Sx.Sys:=⟨[(.sh (.one jD)),.ptr],a6F,[],none,none⟩
def b4g:List Cfg:=[]
theorem b5P:SysOk Try.prog 90 a4A:=a0s (c:=(cg [] [] [] true true false true)) (a0o _ _ _ _ _ _ _ _ _) Try.func90 Try.call90 (by kernel_rfl) b4g a4A 5000 rfl (by kernel_rfl) (by kernel_rfl) rfl
def b0i:PT :=
 (cA 96 [(.agg [(.va 0),(jA 0),(jA 1),(jA 2),(jA 3),(jA 4),(jA 5)]),(.fn 101 0 [])] [] [(.one jD)]
 (.ret false (jA 6) []))
def a7c:Sx.Sys:=⟨[(.sh (.one .val)),(.sh (.agg [jD,jD,jD,jD,jD,jD]))],b0i,[],none,none⟩
def b8K:List Cfg:=[]
theorem c0L:SysOk Try.prog 98 a7c:=a0s (c:=(cg [] [] [(10,[2])] false false false true)) (a0o _ _ _ _ _ _ _ _ _) Try.func98 Try.call98 (by kernel_rfl) b8K a7c 5000 rfl (by kernel_rfl) (by kernel_rfl) rfl
def a3t:PT :=
 (lO false (.pa 0 7) [jD]
     (cA 22 [(.va 0),(jA 0)] [] [(.one .val)]
     (cA 34 [(.agg [(.va 10),(.va 11),(.va 12),(.va 13)]),(jA 15),(jA 0),(.va 14),(.agg [(jA 7),(jA 8),(jA 9),(jA 10),(jA 11),(jA 12),(jA 1),(jA 2),(jA 3),(jA 4),(jA 5),(jA 6)])] [] [(.one jD)]
     (.ite (.not (.eq (.a 16) (.l 0)))
      (.ret true (jA 16) [])
      (nD (.is 1 0)
      (nD (.is 1 0)
      (lO false (.pa 0 15) [.val]
      (lO false (.pa 0 16) [.val]
      (nD (treeI (.a 0) (.slen 15))
      (.storeM (.ea 15 (.a 0) 6 0) [(jA 1),(jA 2),(jA 3),(jA 4),(jA 5),(jA 6)]
      (nD (treeI (.a 0) (.slen 16))
      (.storeM (.ea 16 (.a 0) 1 0) [(.bool (.t true))]
      (.ret true (jE 0) [])))))))))))))
def a3F:PT :=
 (cA 22 [(.va 0),(jA 0)] [] [(.one .val)]
     (lO false (.pa 0 7) [jD]
     (cA 34 [(.agg [(.va 10),(.va 11),(.va 12),(.va 13)]),(jA 15),(jA 0),(.va 14),(.agg [(jA 7),(jA 8),(jA 9),(jA 10),(jA 11),(jA 12),(jA 1),(jA 2),(jA 3),(jA 4),(jA 5),(jA 6)])] [] [(.one jD)]
     (.ite (.not (.eq (.a 16) (.l 0)))
      (.ret true (jA 16) [])
      (nD (.is 1 0)
      (nD (.is 1 0)
      (lO false (.pa 0 15) [.val]
      (lO false (.pa 0 16) [.val]
      (nD (treeI (.a 0) (.slen 15))
      (.storeM (.ea 15 (.a 0) 6 0) [(jA 1),(jA 2),(jA 3),(jA 4),(jA 5),(jA 6)]
      (nD (treeI (.a 0) (.slen 16))
      (.storeM (.ea 16 (.a 0) 1 0) [(.bool (.t true))]
      (.ret true (jE 0) [])))))))))))))
def a3u:PT :=
 (lO false (.pa 0 0) [.val,.val,.val,.val]
     (.both a3t a3F))
def a3H:PT :=
 (lO false (.pa 0 0) [.val,.val,.val,.val]
      (cA 22 [(.va 0),(jA 0)] [] [(.one .val)]
      (cA 34 [(.agg [(.va 10),(.va 11),(.va 12),(.va 13)]),(jA 15),(jA 0),(.va 14),(.agg [(jA 7),(jA 8),(jA 9),(jA 10),(jA 11),(jA 12),(jA 1),(jA 2),(jA 3),(jA 4),(jA 5),(jA 6)])] [] [(.one jD)]
      (.ite (.not (.eq (.a 16) (.l 0)))
      (.ret true (jA 16) [])
      (nD (.is 1 0)
      (nD (.is 1 0)
      (lO false (.pa 0 15) [.val]
      (lO false (.pa 0 16) [.val]
      (nD (treeI (.a 0) (.slen 15))
      (.storeM (.ea 15 (.a 0) 6 0) [(jA 1),(jA 2),(jA 3),(jA 4),(jA 5),(jA 6)]
      (nD (treeI (.a 0) (.slen 16))
      (.storeM (.ea 16 (.a 0) 1 0) [(.bool (.t true))]
      (.ret true (jE 0) [])))))))))))))
def a3r:PT :=
 (cA 22 [(.va 0),(jA 0)] [] [(.one .val)]
      (lO false (.pa 0 0) [.val,.val,.val,.val]
      (cA 34 [(.agg [(.va 11),(.va 12),(.va 13),(.va 14)]),(jA 15),(jA 0),(.va 10),(.agg [(jA 7),(jA 8),(jA 9),(jA 10),(jA 11),(jA 12),(jA 1),(jA 2),(jA 3),(jA 4),(jA 5),(jA 6)])] [] [(.one jD)]
      (.ite (.not (.eq (.a 16) (.l 0)))
      (.ret true (jA 16) [])
      (nD (.is 1 0)
      (nD (.is 1 0)
      (lO false (.pa 0 15) [.val]
      (lO false (.pa 0 16) [.val]
      (nD (treeI (.a 0) (.slen 15))
      (.storeM (.ea 15 (.a 0) 6 0) [(jA 1),(jA 2),(jA 3),(jA 4),(jA 5),(jA 6)]
      (nD (treeI (.a 0) (.slen 16))
      (.storeM (.ea 16 (.a 0) 1 0) [(.bool (.t true))]
      (.ret true (jE 0) [])))))))))))))
def a3y:PT :=
 (lO false (.pa 0 7) [jD]
     (.both a3H a3r))
def a3D:PT :=
 (cA 22 [(.va 0),(jA 0)] [] [(.one .val)]
     (lO false (.pa 0 0) [.val,.val,.val,.val]
     (lO false (.pa 0 7) [jD]
     (cA 34 [(.agg [(.va 11),(.va 12),(.va 13),(.va 14)]),(jA 15),(jA 0),(.va 10),(.agg [(jA 7),(jA 8),(jA 9),(jA 10),(jA 11),(jA 12),(jA 1),(jA 2),(jA 3),(jA 4),(jA 5),(jA 6)])] [] [(.one jD)]
     (.ite (.not (.eq (.a 16) (.l 0)))
      (.ret true (jA 16) [])
      (nD (.is 1 0)
      (nD (.is 1 0)
      (lO false (.pa 0 15) [.val]
      (lO false (.pa 0 16) [.val]
      (nD (treeI (.a 0) (.slen 15))
      (.storeM (.ea 15 (.a 0) 6 0) [(jA 1),(jA 2),(jA 3),(jA 4),(jA 5),(jA 6)]
      (nD (treeI (.a 0) (.slen 16))
      (.storeM (.ea 16 (.a 0) 1 0) [(.bool (.t true))]
      (.ret true (jE 0) []))))))))))))))
def a3w:PT :=
 (.both a3y a3D)
def a2M:PT :=
 (lO false (.pa 0 9) [jD,jD,jD,jD,jD,jD]
   (nD (.is 1 0)
   (lO false (.pa 0 0) [.val,.val,.val,.val]
   (cA 32 [(.agg [(.va 2),(.va 3),(.va 4),(.va 5)]),(jA 0),(.agg [(jA 1),(jA 2),(jA 3),(jA 4),(jA 5),(jA 6)])] [] [(.one jD)]
   (.ite (.not (.eq (.a 13) (.l 0)))
    (.ret true (jA 13) [])
    (nD (.is 1 0)
    (lO false (.pa 0 0) [.val,.val,.val,.val]
    (cA 33 [(.agg [(.va 6),(.va 7),(.va 8),(.va 9)]),(jA 0),(.agg [(jA 7),(jA 8),(jA 9),(jA 10),(jA 11),(jA 12),(jA 1),(jA 2),(jA 3),(jA 4),(jA 5),(jA 6)])] [] [(.one jD)]
    (.ite (.not (.eq (.a 14) (.l 0)))
    (.ret true (jA 14) [])
    (nD (.is 1 0)
    (nD (.is 1 0)
    (.both a3u a3w))))))))))))
def a1M:PT :=
 (nD (.is 4 0)
 (.ite (.nil 0)
 (.ret true (jE 6) [])
 (nD (.is 1 0)
 (lO false (.pa 0 18) [.bool]
 (.ite (.a 0)
  (.ret true (jE 10) [])
  (cA 31 [(.va 0),(jA 0)] [] [(.one .bool)]
  (.ite (.not (.a 1))
  (.ret true (jE 6) [])
  (nD (.is 1 0)
  (lO false (.pa 0 17) [.val]
  (nD (treeI (.a 0) (.slen 1))
  (lO false (.ea 1 (.a 0) 1 0) [.bool]
  (.ite (.a 2)
   (.ret true (jE 10) [])
   (nD (.is 1 0)
   (.both a2M a2M))))))))))))))
def a4L:Sx.Sys:=⟨[(.sh (.one .val)),(.sh (.one jD)),(.sh (.agg [jD,jD,jD,jD,jD,jD]))],a1M,[],none,none⟩
def b7c:List Cfg:=[]
theorem b9o:SysOk Try.prog 11 a4L:=a0s (c:=(cg [] [] [] true true false true)) (a0o _ _ _ _ _ _ _ _ _) Try.func11 Try.call11 (by kernel_rfl) b7c a4L 5000 rfl (by kernel_rfl) (by kernel_rfl) rfl
def a8n:PT :=
 (.ite (.lt (.a 0) (.l 1))
 (.ret false (jE 4) [])
 (.ite (.lt (.l 1000000) (.a 0))
  (.ret false (jE 4) [])
  (.ite (.lt (.a 1) (.l 0))
  (.ret false (jE 4) [])
  (.ite (.lt (.l 100) (.a 1))
   (.ret false (jE 4) [])
   (.ite (.lt (.a 2) (.l 1))
   (.ret false (jE 4) [])
   (.ite (.lt (.l 3) (.a 2))
    (.ret false (jE 4) [])
    (.ite (.lt (.a 3) (.l 1))
    (.ret false (jE 4) [])
    (.ite (.lt (.l 3) (.a 3))
     (.ret false (jE 4) [])
     (.ret false (jE 0) [])))))))))
def a6a:Sx.Sys:=⟨[(.sh (.agg [jD,jD,jD,jD]))],a8n,[],none,none⟩
def b6O:List Cfg:=[]
theorem b8H:SysOk Try.prog 27 a6a:=a0s (c:=(cg [] [] [] false false false true)) (a0o _ _ _ _ _ _ _ _ _) Try.func27 Try.call27 (by kernel_rfl) b6O a6a 5000 rfl (by kernel_rfl) (by kernel_rfl) rfl
def b0n:PT :=
 (nD (.is 0 0)
 (jU 0 [(.slen 0),(.l 0),(.l 0),(.l 0),(.l 0),(.l 0),(.l 0),(.l 0)] [] [(.va 0)]))
def a4P:PT :=
 (.ite (.lt (.a 1) (.a 0))
 (nD (treeI (.a 1) (.slen 0))
 (lO false (.ea 0 (.a 1) 5 0) [.val,jD,jD,jD,jD]
 (.ite (.lt (.a 1) (.l 6))
  (.ite (.eq (.a 1) (.l 5))
  (jU 0 [(.a 0),(.l 6),(.a 2),(.a 3),(.a 4),(.a 5),(.a 6),(.a 8)] [] [(.va 0)])
  (.ite (.eq (.a 1) (.l 4))
   (jU 0 [(.a 0),(.l 5),(.a 2),(.a 3),(.a 4),(.a 5),(.a 8),(.a 7)] [] [(.va 0)])
   (.ite (.eq (.a 1) (.l 3))
   (jU 0 [(.a 0),(.l 4),(.a 2),(.a 3),(.a 4),(.a 8),(.a 6),(.a 7)] [] [(.va 0)])
   (.ite (.eq (.a 1) (.l 2))
    (jU 0 [(.a 0),(.l 3),(.a 2),(.a 3),(.a 8),(.a 5),(.a 6),(.a 7)] [] [(.va 0)])
    (.ite (.eq (.a 1) (.l 1))
    (jU 0 [(.a 0),(.l 2),(.a 2),(.a 8),(.a 4),(.a 5),(.a 6),(.a 7)] [] [(.va 0)])
    (.ite (.eq (.a 1) (.l 0))
     (jU 0 [(.a 0),(.l 1),(.a 8),(.a 3),(.a 4),(.a 5),(.a 6),(.a 7)] [] [(.va 0)])
     .stuck))))))
  (nD (treeB (jP 1))
  (jU 0 [(.a 0),(jP 1),(.a 2),(.a 3),(.a 4),(.a 5),(.a 6),(.a 7)] [] [(.va 0)])))))
 (.ret false (.agg [(jA 2),(jA 3),(jA 4),(jA 5),(jA 6),(jA 7)]) []))
def a1S:Sx.Sys:=⟨[(.sh (.one .val))],b0n,[a4P],none,none⟩
def b8A:List Cfg:=[{todo:=[(.code (tfR 6 52)),(.inLoop (tfR 6 52)),(.inBlock 0),(.code [true,true,true])],sl:=[(.junk 0),.undef,(.ptr 0 0),(.ptr 1 0),(.junk 1),(.junk 2),(.va 0),(jA 0),(jA 1)]++jkR 3 11++[.undef],H:=[(.cells [(jE 0),(jE 0),(jE 0),(jE 0),(jE 0),(jE 0)] 38 false),(.cells [(jA 2),(jA 3),(jA 4),(jA 5),(jA 6),(jA 7)] 38 false)],ni:=8,nb:=0,nv:=1,nj:=14}]
theorem c0K:SysOk Try.prog 35 a1S:=a0s (c:=(cg [(tfR 6 52)] [] [] false false false true)) (a0o _ _ _ _ _ _ _ _ _) Try.func35 Try.call35 (by kernel_rfl) b8A a1S 5000 rfl (by kernel_rfl) (by kernel_rfl) rfl
def b2E:PT :=
 (nD (.is 0 0)
 (jU 0 [(.slen 0),(.l 0),(.l 0),(.l 0),(.l 0),(.l 0),(.l 0),(.l 0)] [] [(.va 0)]))
def a6H:PT :=
 (.ite (.lt (.a 1) (.a 0))
 (nD (treeI (.a 1) (.slen 0))
 (lO false (.ea 0 (.a 1) 6 0) [jD,jD,jD,jD,jD,jD]
 (nD (treeB (.add (.a 2) (.a 8)))
 (nD (treeB (.add (.a 3) (.a 9)))
 (nD (treeB (.add (.a 4) (.a 10)))
 (nD (treeB (.add (.a 5) (.a 11)))
 (nD (treeB (.add (.a 6) (.a 12)))
 (nD (treeB (.add (.a 7) (.a 13)))
 (nD (treeB (jP 1))
 (jU 0 [(.a 0),(jP 1),(.add (.a 2) (.a 8)),(.add (.a 3) (.a 9)),(.add (.a 4) (.a 10)),(.add (.a 5) (.a 11)),(.add (.a 6) (.a 12)),(.add (.a 7) (.a 13))] [] [(.va 0)]))))))))))
 (.ret false (.agg [(jA 2),(jA 3),(jA 4),(jA 5),(jA 6),(jA 7)]) []))
def a4E:Sx.Sys:=⟨[(.sh (.one .val))],b2E,[a6H],none,none⟩
def c1X:List Cfg:=[{todo:=[(.code (tfR 6 52)),(.inLoop (tfR 6 52)),(.inBlock 0),(.code [true,true,true])],sl:=[(.junk 0),.undef,(.ptr 0 0),(.ptr 1 0),.undef,(.junk 1),(.junk 2),(.va 0),(jA 0),(jA 1)]++jkR 3 16++[.undef],H:=[(.cells [(jE 0),(jE 0),(jE 0),(jE 0),(jE 0),(jE 0)] 98 false),(.cells [(jA 2),(jA 3),(jA 4),(jA 5),(jA 6),(jA 7)] 98 false)],ni:=8,nb:=0,nv:=1,nj:=19}]
theorem c4h:SysOk Try.prog 43 a4E:=a0s (c:=(cg [(tfR 6 52)] [] [] true false false true)) (a0o _ _ _ _ _ _ _ _ _) Try.func43 Try.call43 (by kernel_rfl) c1X a4E 5000 rfl (by kernel_rfl) (by kernel_rfl) rfl
def d9s:PT :=
 (nD (.is 0 1)
 (.ite (.lt (.l 0) (.slen 1))
 (nD (.is 0 2)
 (.ite (.lt (.l 0) (.slen 2))
  rF
  (nD (.is 0 1)
  (.ite (.lt (.l 1000) (.slen 1))
  rF
  (nD (.is 0 1)
  (jU 0 [(.slen 1),(.l 0)] [] [(.va 0),(.va 1),(.va 2)]))))))
 (nD (.is 0 1)
 (.ite (.lt (.l 1000) (.slen 1))
  rF
  (nD (.is 0 1)
  (jU 0 [(.slen 1),(.l 0)] [] [(.va 0),(.va 1),(.va 2)]))))))
def d9m:PT :=
 (.ite (.lt (.a 1) (.a 0))
 (nD (treeI (.a 1) (.slen 1))
 (lO false (.ea 1 (.a 1) 1 0) [jD]
 (.ite (.lt (.a 2) (.l 0))
  rF
  (nD (.is 0 0)
  (.ite (.le (.slen 0) (.a 2))
  rF
  (nD (treeB (jP 1))
  (jU 0 [(.a 0),(jP 1)] [] [(.va 0),(.va 1),(.va 2)])))))))
 (nD (.is 0 2)
 (jU 1 [(.slen 2),(.l 0)] [] [(.va 2)])))
def d9o:PT :=
 (.ite (.lt (.a 1) (.a 0))
 (nD (treeI (.a 1) (.slen 0))
 (lO false (.ea 0 (.a 1) 1 0) [jD]
 (.ite (.lt (.a 2) (.l (-1099511627776)))
  rF
  (.ite (.lt (.l 1099511627776) (.a 2))
  rF
  (nD (treeB (jP 1))
  (jU 1 [(.a 0),(jP 1)] [] [(.va 0)]))))))
 (.ret false (.bool (.t true)) []))
def d8V:Sx.Sys:=⟨[(.sh (.one .val)),(.sh (.agg [.val,.val]))],d9s,[d9m,d9o],none,none⟩
def d9N:List Cfg:=[{todo:=[(.code (tfR 6 52)),(.inLoop (tfR 6 52)),(.inBlock 0),(.code [true,true,true])],sl:=[(.va 0),(.junk 0),.undef,(.ptr 0 0),(.junk 1),.undef,(.junk 2),.undef,.undef]++jkR 3 17++[(.va 1),(jA 0),(jA 1)]++jkR 20 12++udR 14,H:=[(.cells [(.va 1),(.va 2)] 66 false)],ni:=2,nb:=0,nv:=3,nj:=32},
 {todo:=[(.code (tfR 7 116)),(.inLoop (tfR 7 116)),(.inBlock 2),(.code [true,true,true,true])],sl:=[(.junk 0),(.junk 1),.undef,(.junk 2),(.junk 3),.undef,(.junk 4),.undef]++jkR 5 34++[(.va 0),(jA 0),(jA 1)]++jkR 39 10,H:=[],ni:=2,nb:=0,nv:=1,nj:=49}]
theorem e0c:SysOk Try.prog 51 d8V:=a0s (c:=(cg [(tfR 6 52),(tfR 7 116)] [] [] false false false true)) (a0o _ _ _ _ _ _ _ _ _) Try.func51 Try.call51 (by kernel_rfl) d9N d8V 5000 rfl (by kernel_rfl) (by kernel_rfl) rfl
def a0Y:PT :=
 (nD (.is 0 0)
 (.ite (.nil 0)
 (.ret false .nilS [])
 (.app none (.lit []) 4
 (.app (some 1) (.va 0) 4
 (.ret false (.va 2) [])))))
def a4r:Sx.Sys:=⟨[(.sh (.one .val))],a0Y,[],none,none⟩
def a7y:List Cfg:=[]
def b1Q:PT :=
 (.ite (.lt (.a 0) (.l 0))
 (.ret false (jE 4) [])
 (.ite (.lt (.l 4) (.a 0))
  (.ret false (jE 4) [])
  (.ite (.lt (.a 1) (.l 0))
  (.ret false (jE 4) [])
  (.ite (.lt (.l 4) (.a 1))
   (.ret false (jE 4) [])
   (.ite (.lt (.a 2) (.l 0))
   (.ret false (jE 4) [])
   (.ite (.lt (.l 4) (.a 2))
    (.ret false (jE 4) [])
    (.ite (.lt (.a 3) (.l 0))
    (.ret false (jE 4) [])
    (.ite (.lt (.l 4) (.a 3))
     (.ret false (jE 4) [])
     (.ite (.lt (.a 4) (.l 0))
     (.ret false (jE 4) [])
     (.ite (.lt (.l 4) (.a 4))
      (.ret false (jE 4) [])
      (.ite (.lt (.a 5) (.l 0))
      (.ret false (jE 4) [])
      (.ite (.lt (.l 4) (.a 5))
       (.ret false (jE 4) [])
       (.ret false (jE 0) [])))))))))))))
def a9i:Sx.Sys:=⟨[(.sh (.agg [jD,jD,jD,jD,jD,jD]))],b1Q,[],none,none⟩
def c0z:List Cfg:=[]
theorem c3r:SysOk Try.prog 67 a9i:=a0s (c:=(cg [] [] [] false false false true)) (a0o _ _ _ _ _ _ _ _ _) Try.func67 Try.call67 (by kernel_rfl) c0z a9i 5000 rfl (by kernel_rfl) (by kernel_rfl) rfl
def a7F:PT :=
 (.newM [(jA 0),(jA 1),(jA 2),(jA 3)] 29
 (.ret false (.fn 90 0 [(.pa 0 0)]) []))
def a5B:Sx.Sys:=⟨[(.sh (.agg [jD,jD,jD,jD]))],a7F,[],none,none⟩
def b5O:List Cfg:=[]
theorem b8c:SysOk Try.prog 75 a5B:=a0s (c:=(cg [] [1] [] true false false true)) (a0o _ _ _ _ _ _ _ _ _) Try.func75 Try.call75 (by kernel_rfl) b5O a5B 5000 rfl (by kernel_rfl) (by kernel_rfl) rfl
def b2z:PT :=
 (nD (.is 0 0)
 (jU 0 [(.slen 0),(.l 0)] [] [(.va 1),(.va 0)]))
def a4m:PT :=
 (.ite (.lt (.a 1) (.a 0))
 (nD (treeI (.a 1) (.slen 1))
 (lO false (.ea 1 (.a 1) 4 0) [.val,jD,jD,jD]
 (nD (.is 3 2)
 (nD (.is 3 0)
 (.ite (.seq 2 0)
  (.ret false (.tup [(jA 1),(.bool (.t true))]) [])
  (nD (treeB (jP 1))
  (jU 0 [(.a 0),(jP 1)] [] [(.va 0),(.va 1)])))))))
 (.ret false (.tup [(jE 0),(.bool (.t false))]) []))
def a3Q:Sx.Sys:=⟨[(.sh (.one .val)),(.sh (.one .val))],b2z,[a4m],none,none⟩
def c2e:List Cfg:=[{todo:=[(.code (tfR 5 20)),(.inLoop (tfR 5 20)),(.inBlock 0),(.code [true,true])],sl:=[(.junk 0),(.va 0),.undef,.undef]++jkR 1 4++[(.va 1),(jA 0),(jA 1)]++jkR 5 8++[.undef,(.junk 13)],H:=[],ni:=2,nb:=0,nv:=2,nj:=14}]
theorem c4e:SysOk Try.prog 83 a3Q:=a0s (c:=(cg [(tfR 5 20)] [] [] false false false true)) (a0o _ _ _ _ _ _ _ _ _) Try.func83 Try.call83 (by kernel_rfl) c2e a3Q 5000 rfl (by kernel_rfl) (by kernel_rfl) rfl
def b1V:PT :=
 (cA 99 [(jA 0)] [] [(.one .bool)]
 (.ite (.not (.a 0))
 (.ret false (jE 4) [])
 (.ret false (jE 0) [])))
def a9b:Sx.Sys:=⟨[(.sh (.one jD))],b1V,[],none,none⟩
def c0y:List Cfg:=[]
theorem c3i:SysOk Try.prog 91 a9b:=a0s (c:=(cg [] [] [] false false false true)) (a0o _ _ _ _ _ _ _ _ _) Try.func91 Try.call91 (by kernel_rfl) c0y a9b 5000 rfl (by kernel_rfl) (by kernel_rfl) rfl
def b5o:PT :=
 (.ite (.le (.l 0) (.a 0))
 (.ret false (.bool (.le (.a 0) (.l 1000000))) [])
 rF)
def b2a:Sx.Sys:=⟨[(.sh (.one jD))],b5o,[],none,none⟩
def c3O:List Cfg:=[]
theorem c5O:SysOk Try.prog 99 b2a:=a0s (c:=(cg [] [] [] false false false true)) (a0o _ _ _ _ _ _ _ _ _) Try.func99 Try.call99 (by kernel_rfl) c3O b2a 5000 rfl (by kernel_rfl) (by kernel_rfl) rfl
def a4Q(sz:Nat):List PV->List MO->Option (PV×List MO)
 | [.nilS],σ=>some (.nilS,σ)
 | [.sl n rows],σ=>if n=sz/\rows.length<=1000000 then some (.sl n rows,σ) else none
 | _,_=>none
theorem d3W{s:Hp}{B:Inf}{n:Nat}{v:Value}(h:Rep s B .nilS v):Rep s B (.sl n []) v:=by
 simp only[Rep] at h ⊢;subst h;exact⟨[],⟨by simp,none,0,rfl,Q4 _,by simp⟩,rfl,by simp⟩
theorem c0i{P:Program}{f:Nat}{aa:List PV}{σ:List MO}{n:Nat}(h:CtD P f aa σ (fun r σ'=>(r=.nilS\/r=.sl n [])/\σ'=σ)):CtD P f aa σ (fun r σ'=>r=.sl n []/\σ'=σ):=by
 refine⟨h.1,fun s m vs a b c w hs hm=>(h.2 s m vs a b c w hs hm).mono ?_⟩;rintro e w' ⟨v,s',m',e1,e2,e3,e4,e5,e6,e7,r',σ'',⟨hr,rfl⟩,hq⟩;refine⟨v,s',m',e1,e2,e3,e4,e5,e6,e7,.sl n [],_,⟨rfl,rfl⟩,hq.1,?_,hq.2.2⟩;rcases hr with rfl|rfl
 ·exact d3W hq.2.1
 ·exact hq.2.1
theorem a2n:SysIs Try.prog 58 a3Y:=b6j (c:=(cg [] [] [] false false false true)) (a0o _ _ _ _ _ _ _ _ _) Try.func58 Try.call58 (by kernel_rfl) a6Q a3Y 5000 rfl (by kernel_rfl) (by kernel_rfl)
def a3Z:Sx.Sys:=⟨[],.stuck,[],some (a4Q 5),none⟩
theorem a6P:SysOk Try.prog 58 a3Z where
 ct Φ hΦ n aa σ r σ' hh:=by
  change a4Q 5 aa σ=some (r,σ') at hh;unfold a4Q at hh;split at hh
  ·simp only[Q1,Q0] at hh
   obtain⟨rfl,rfl⟩:=hh;refine CtD.one (a2n.dm Φ hΦ 1 _ _ _ ⟨([],[],[.nilS]),rfl,?_⟩);show PT.wp _ a0R _ _;unfold a0R;refine a5i rfl rfl (b3m rfl rfl ⟨.nilS,rfl,(.nilS,_),?_,rfl,rfl⟩);simp[a0m]
  ·rename_i σ0 n rows
   split at hh
   case isFalse=>cases hh
   rename_i hc;obtain⟨rfl,hc⟩:=hc;simp only[Q1,Q0] at hh;obtain⟨rfl,rfl⟩:=hh;cases rows with
   | nil =>
    refine CtD.one (c0i (a2n.dm Φ hΦ 1 _ _ _ ⟨([],[],[.sl 5 []]),rfl,?_⟩));show PT.wp _ a0R _ _;unfold a0R;refine a5i rfl rfl ?_;simp only[PT.wp];rw[if_neg (by simp[BE.safe,PEnv.at,PV.nilOk])];refine⟨⟨.nilS,rfl,(.nilS,_),by simp[a0m],.inl rfl,rfl⟩,[],rfl,[],rfl,?_⟩;rw[if_pos (by simp)];refine⟨[],by simp[b5c,PV.rowsOf],[],by simp[a0W,PV.rowsOf],?_⟩;rw[if_pos (by simp)];exact⟨.sl 5 [],rfl,(.sl 5 [],_),by simp[a0m],.inr rfl,rfl⟩
   | cons x rows =>
    refine CtD.one (a2n.dm Φ hΦ 1 _ _ _ ⟨([],[],[.sl 5 (x::rows)]),rfl,?_⟩);show PT.wp _ a0R _ _;unfold a0R;refine a5i rfl rfl (b2Z rfl rfl ?_);simp only[PT.wp];refine⟨[],rfl,[],rfl,?_⟩;rw[if_pos (by simp)];refine⟨[],by simp[b5c,PV.rowsOf],x::rows,by simp[a0W,PV.rowsOf],?_⟩;rw[if_pos (by simpa using hc)];exact⟨.sl 5 (x::rows),rfl,(.sl 5 (x::rows),_),by simp[a0m],rfl,rfl⟩
  ·cases hh
theorem a2B:SysIs Try.prog 59 a4r:=b6j (c:=(cg [] [] [] false false false true)) (a0o _ _ _ _ _ _ _ _ _) Try.func59 Try.call59 (by kernel_rfl) a7y a4r 5000 rfl (by kernel_rfl) (by kernel_rfl)
def a4t:Sx.Sys:=⟨[],.stuck,[],some (a4Q 4),none⟩
theorem a7t:SysOk Try.prog 59 a4t where
 ct Φ hΦ n aa σ r σ' hh:=by
  change a4Q 4 aa σ=some (r,σ') at hh;unfold a4Q at hh;split at hh
  ·simp only[Q1,Q0] at hh
   obtain⟨rfl,rfl⟩:=hh;refine CtD.one (a2B.dm Φ hΦ 1 _ _ _ ⟨([],[],[.nilS]),rfl,?_⟩);show PT.wp _ a0Y _ _;unfold a0Y;refine a5i rfl rfl (b3m rfl rfl ⟨.nilS,rfl,(.nilS,_),?_,rfl,rfl⟩);simp[a0m]
  ·rename_i σ0 n rows
   split at hh
   case isFalse=>cases hh
   rename_i hc;obtain⟨rfl,hc⟩:=hc;simp only[Q1,Q0] at hh;obtain⟨rfl,rfl⟩:=hh;cases rows with
   | nil =>
    refine CtD.one (c0i (a2B.dm Φ hΦ 1 _ _ _ ⟨([],[],[.sl 4 []]),rfl,?_⟩));show PT.wp _ a0Y _ _;unfold a0Y;refine a5i rfl rfl ?_;simp only[PT.wp];rw[if_neg (by simp[BE.safe,PEnv.at,PV.nilOk])];refine⟨⟨.nilS,rfl,(.nilS,_),by simp[a0m],.inl rfl,rfl⟩,[],rfl,[],rfl,?_⟩;rw[if_pos (by simp)];refine⟨[],by simp[b5c,PV.rowsOf],[],by simp[a0W,PV.rowsOf],?_⟩;rw[if_pos (by simp)];exact⟨.sl 4 [],rfl,(.sl 4 [],_),by simp[a0m],.inr rfl,rfl⟩
   | cons x rows =>
    refine CtD.one (a2B.dm Φ hΦ 1 _ _ _ ⟨([],[],[.sl 4 (x::rows)]),rfl,?_⟩);show PT.wp _ a0Y _ _;unfold a0Y;refine a5i rfl rfl (b2Z rfl rfl ?_);simp only[PT.wp];refine⟨[],rfl,[],rfl,?_⟩;rw[if_pos (by simp)];refine⟨[],by simp[b5c,PV.rowsOf],x::rows,by simp[a0W,PV.rowsOf],?_⟩;rw[if_pos (by simpa using hc)];exact⟨.sl 4 (x::rows),rfl,(.sl 4 (x::rows),_),by simp[a0m],rfl,rfl⟩
  ·cases hh
theorem a3q:SysIs Try.prog 60 a5Z:=b6j (c:=(cg [] [] [] false false false true)) (a0o _ _ _ _ _ _ _ _ _) Try.func60 Try.call60 (by kernel_rfl) a9W a5Z 5000 rfl (by kernel_rfl) (by kernel_rfl)
def a5S:Sx.Sys:=⟨[],.stuck,[],some (a4Q 3),none⟩
theorem a9Q:SysOk Try.prog 60 a5S where
 ct Φ hΦ n aa σ r σ' hh:=by
  change a4Q 3 aa σ=some (r,σ') at hh;unfold a4Q at hh;split at hh
  ·simp only[Q1,Q0] at hh
   obtain⟨rfl,rfl⟩:=hh;refine CtD.one (a3q.dm Φ hΦ 1 _ _ _ ⟨([],[],[.nilS]),rfl,?_⟩);show PT.wp _ a1o _ _;unfold a1o;refine a5i rfl rfl (b3m rfl rfl ⟨.nilS,rfl,(.nilS,_),?_,rfl,rfl⟩);simp[a0m]
  ·rename_i σ0 n rows
   split at hh
   case isFalse=>cases hh
   rename_i hc;obtain⟨rfl,hc⟩:=hc;simp only[Q1,Q0] at hh;obtain⟨rfl,rfl⟩:=hh;cases rows with
   | nil =>
    refine CtD.one (c0i (a3q.dm Φ hΦ 1 _ _ _ ⟨([],[],[.sl 3 []]),rfl,?_⟩));show PT.wp _ a1o _ _;unfold a1o;refine a5i rfl rfl ?_;simp only[PT.wp];rw[if_neg (by simp[BE.safe,PEnv.at,PV.nilOk])];refine⟨⟨.nilS,rfl,(.nilS,_),by simp[a0m],.inl rfl,rfl⟩,[],rfl,[],rfl,?_⟩;rw[if_pos (by simp)];refine⟨[],by simp[b5c,PV.rowsOf],[],by simp[a0W,PV.rowsOf],?_⟩;rw[if_pos (by simp)];exact⟨.sl 3 [],rfl,(.sl 3 [],_),by simp[a0m],.inr rfl,rfl⟩
   | cons x rows =>
    refine CtD.one (a3q.dm Φ hΦ 1 _ _ _ ⟨([],[],[.sl 3 (x::rows)]),rfl,?_⟩);show PT.wp _ a1o _ _;unfold a1o;refine a5i rfl rfl (b2Z rfl rfl ?_);simp only[PT.wp];refine⟨[],rfl,[],rfl,?_⟩;rw[if_pos (by simp)];refine⟨[],by simp[b5c,PV.rowsOf],x::rows,by simp[a0W,PV.rowsOf],?_⟩;rw[if_pos (by simpa using hc)];exact⟨.sl 3 (x::rows),rfl,(.sl 3 (x::rows),_),by simp[a0m],rfl,rfl⟩
  ·cases hh
theorem a2K:SysIs Try.prog 61 a4M:=b6j (c:=(cg [] [] [] false false false true)) (a0o _ _ _ _ _ _ _ _ _) Try.func61 Try.call61 (by kernel_rfl) a8l a4M 5000 rfl (by kernel_rfl) (by kernel_rfl)
def a4R:Sx.Sys:=⟨[],.stuck,[],some (a4Q 3),none⟩
theorem a8m:SysOk Try.prog 61 a4R where
 ct Φ hΦ n aa σ r σ' hh:=by
  change a4Q 3 aa σ=some (r,σ') at hh;unfold a4Q at hh;split at hh
  ·simp only[Q1,Q0] at hh
   obtain⟨rfl,rfl⟩:=hh;refine CtD.one (a2K.dm Φ hΦ 1 _ _ _ ⟨([],[],[.nilS]),rfl,?_⟩);show PT.wp _ a1e _ _;unfold a1e;refine a5i rfl rfl (b3m rfl rfl ⟨.nilS,rfl,(.nilS,_),?_,rfl,rfl⟩);simp[a0m]
  ·rename_i σ0 n rows
   split at hh
   case isFalse=>cases hh
   rename_i hc;obtain⟨rfl,hc⟩:=hc;simp only[Q1,Q0] at hh;obtain⟨rfl,rfl⟩:=hh;cases rows with
   | nil =>
    refine CtD.one (c0i (a2K.dm Φ hΦ 1 _ _ _ ⟨([],[],[.sl 3 []]),rfl,?_⟩));show PT.wp _ a1e _ _;unfold a1e;refine a5i rfl rfl ?_;simp only[PT.wp];rw[if_neg (by simp[BE.safe,PEnv.at,PV.nilOk])];refine⟨⟨.nilS,rfl,(.nilS,_),by simp[a0m],.inl rfl,rfl⟩,[],rfl,[],rfl,?_⟩;rw[if_pos (by simp)];refine⟨[],by simp[b5c,PV.rowsOf],[],by simp[a0W,PV.rowsOf],?_⟩;rw[if_pos (by simp)];exact⟨.sl 3 [],rfl,(.sl 3 [],_),by simp[a0m],.inr rfl,rfl⟩
   | cons x rows =>
    refine CtD.one (a2K.dm Φ hΦ 1 _ _ _ ⟨([],[],[.sl 3 (x::rows)]),rfl,?_⟩);show PT.wp _ a1e _ _;unfold a1e;refine a5i rfl rfl (b2Z rfl rfl ?_);simp only[PT.wp];refine⟨[],rfl,[],rfl,?_⟩;rw[if_pos (by simp)];refine⟨[],by simp[b5c,PV.rowsOf],x::rows,by simp[a0W,PV.rowsOf],?_⟩;rw[if_pos (by simpa using hc)];exact⟨.sl 3 (x::rows),rfl,(.sl 3 (x::rows),_),by simp[a0m],rfl,rfl⟩
  ·cases hh
def a2w:Sx.Sys:=a3Z
theorem a7e:SysOk Try.prog 58 a2w:=a6P
def a2J:Sx.Sys:=a4t
theorem a7K:SysOk Try.prog 59 a2J:=a7t
def a3x:Sx.Sys:=a5S
theorem b0y:SysOk Try.prog 60 a3x:=a9Q
def a2T:Sx.Sys:=a4R
theorem a8J:SysOk Try.prog 61 a2T:=a8m
open Go.Shelf Go.RowKit Go.Lib Go.Sort Go.Sx Go.Proofs
def c9f:List Value:=[.int .i64 0,.int .i64 0,.int .i64 0,.int .i64 0,.int .i64 0,.int .i64 0]
theorem d5j:(Try.prog.info? 38).map (fun i=>(i.zero,i.size,i.bytes))=some (some (.agg c9f.toArray),6,48):=by kernel_rfl
set_option maxHeartbeats 4000000 in
set_option maxRecDepth 1000000 in
theorem c5M:c0O Try.prog 71 38 6:=by
 intro w b off n c news hpos hn6 hl hc h1;obtain⟨i0,hi0,hz0,hz1,hz2⟩:=info_parts d5j;have mixed:Try.prog.follows Departure.mixedOrders=true:=by kernel_rfl
 have hzs:(Value.agg c9f.toArray).cells.size=6:=by kernel_rfl
 have q22:∀(w:World) (a:Option Addr) (n c n' c':Nat),(binOp .eql 51 (.slice a n c) (.slice none n' c')).run Try.prog w=.ok (.bool a.isNone) w:=fun w a n c n' c'=>Lib.run_eql_slice_nil w _ _ a n c n' c' Try.underlying51
 have u22:∀w,Sem.run Try.prog (underlying 51) w=.ok (TypeDesc.slice 38) w:=run_underlying Try.underlying51;have A:Aside (∀j u,news[j]?=some u->w.cell? ⟨b,off+j,none⟩=some u):=hc;clear hc
 go_enter Try.func71,Try.ntmps71
 go_wp2_with (at_builtin;refine wpList_append_own _ rfl _ _ 51 rfl w.heap.size 38 i0 (Value.agg c9f.toArray) 6 48 Try.underlying51 hi0 hz0 hz1 hz2 hzs (by omega) _ _ _ rfl (World.ownsRow_made w #[] 0 (Q4 _) (Nat.zero_le _) (by simp)) ⟨b,off,none⟩ n c news rfl ?qc1 ?qc2 ?qc3 ?qc4 ?qc5 ?qc6 ?_)
 case qc1=>exact hl
 case qc2 =>
  intro j u hj;rw[Addr.add_lit];exact Lib.cell?_alloc_some _ (A.out j u hj)
 case qc3=>exact h1
 case qc4=>rw[Q2];show n<=9223372036854775807;omega
 case qc5=>rw[Q2];omega
 case qc6=>simp
 intro v' w1 hown hgrow hnil
 go_wp2
 go_ret
 refine⟨v',rfl,by simpa using hown,?_⟩;exact((Below.refl _ w).alloc (Q4 _) _).grown hgrow (by simp) (by intro k hk;simp[Value.ownBlock] at hk;omega)
def a1v:Sx.Sys:=⟨[],.stuck,[],some (c2U 38 6),none⟩
theorem a7H:SysOk Try.prog 71 a1v where
 ct _ _ _:=c9F c5M Try.call71
def z6:List PV:=[.int .i64 0,.int .i64 0,.int .i64 0,.int .i64 0,.int .i64 0,.int .i64 0]
def b9r:List PV->List MO->Option (PV×List MO)
 | [.ref h 0],σ=>match σ[h]? with
  | some (.cells [c0,c1,c2,c3,c4,c5,c6,c7,c8,c9,c10,c11,c12,c13,c14,_,_,.msl hd o n cp sz,c18] T) =>
   if n<=1000000/\σ.all (MO.low σ.length)=true then
    some (.tup [],σ.set h (.cells [c0,c1,c2,c3,c4,c5,c6,c7,c8,c9,c10,c11,c12,c13,c14,.msl σ.length 0 n n 6,.msl (σ.length+1) 0 n n 1,.msl hd o n cp sz,c18] T)++[.cells (Q3 n z6).flatten 38,.cells (Q3 n [PV.bool false]).flatten 4]) else none
  | _=>none
 | _,_=>none
theorem d1u:SysIs Try.prog 30 b1x:=b6j (c:=(cg [] [] [] true true false true)) (a0o _ _ _ _ _ _ _ _ _) Try.func30 Try.call30 (by kernel_rfl) b5k b1x 5000 rfl (by kernel_rfl) (by kernel_rfl)
theorem d3y(k n:Nat):PV.lows k (Q3 n z6).flatten=true:=by
 induction n with
 | zero=>rfl
 | succ n ih=>rw[Qk,Qm];simpa[z6,PV.lows,PV.low] using ih
theorem d3C(k n:Nat):PV.lows k (Q3 n [PV.bool false]).flatten=true:=by
 induction n with
 | zero=>rfl
 | succ n ih=>rw[Qk,Qm];simpa[PV.lows,PV.low] using ih
section
variable {Φ:Fns}{ρ:PEnv}{R:Res->Prop}{k:PT}
theorem d5n{n:IE}{zero:List SV}{T size bytes:Nat}{z:List PV}{m:Nat}(h1:SV.pvs ρ noOwn zero=some z)(h2:n.pe ρ=(m:Int))(h3:m<=1000000)(h4:bytes<=100000000)
  (hk:k.wp Φ {ρ with v:=ρ.v++[.msl ρ.m.length 0 m m size],m:=ρ.m++[.cells (Q3 m z).flatten T]} R):(PT.mkM n zero T size bytes k).wp Φ ρ R:=by
 refine⟨z,h1,?_⟩;rw[h2,if_pos ⟨by omega,by omega,h4⟩];exact hk
theorem d5F{a:SV}{cs:List SV}{h off T:Nat}{l new:List PV}(h1:a0p ρ a=some (.obj h off))(h2:ρ.m[h]?=some (.cells l T))(h3:SV.pvs ρ noOwn cs=some new)(h4:off+new.length<=l.length)(hk:k.wp Φ {ρ with m:=ρ.m.set h (.cells (a2h l off new) T)} R):(PT.storeM a cs k).wp Φ ρ R:=by
 simp only[PT.wp,h1,h2];exact⟨new,h3,by rw[if_pos h4];exact hk⟩
end
theorem d0s{k n:Nat}{c0 c1 c2 c3 c4 c5 c6 c7 c8 c9 c10 c11 c12 c13 c14 d c18:PV}{s:Hp}{B B':Inf}{vs:List Value}(hl:PV.lows k [c0,c1,c2,c3,c4,c5,c6,c7,c8,c9,c10,c11,c12,c13,c14,d,c18]=true)(hp:B.take k <+: B')(e1:B'[k]?=B[k+1]?)(e2:B'[k+1]?=B[k]?)
  (h:Reps s B [c0,c1,c2,c3,c4,c5,c6,c7,c8,c9,c10,c11,c12,c13,c14,.msl (k+1) 0 n n 6,.msl k 0 n n 1,d,c18] vs):Reps s B' [c0,c1,c2,c3,c4,c5,c6,c7,c8,c9,c10,c11,c12,c13,c14,.msl k 0 n n 6,.msl (k+1) 0 n n 1,d,c18] vs:=by
 have up:∀{p:PV} {v:Value},Rep s B p v->p.low k=true->Rep s B' p v:=fun h1 h2=>Rep.mono (fun _ _ _ h=>h) (BLe.pre hp) _ _ (PV.low_rep _ _ h1 h2)
 simp only[PV.lows,Q5] at hl;obtain⟨a0,a1,a2,a3,a4,a5,a6,a7,a8,a9,a10,a11,a12,a13,a14,a15,a16,-⟩:=hl;rw[Reps] at h;obtain⟨v0,_,rfl,b0,h⟩:=h;rw[Reps] at h;obtain⟨v1,_,rfl,b1,h⟩:=h;rw[Reps] at h;obtain⟨v2,_,rfl,b2,h⟩:=h;rw[Reps] at h;obtain⟨v3,_,rfl,b3,h⟩:=h;rw[Reps] at h;obtain⟨v4,_,rfl,b4,h⟩:=h;rw[Reps] at h;obtain⟨v5,_,rfl,b5,h⟩:=h;rw[Reps] at h;obtain⟨v6,_,rfl,b6,h⟩:=h;rw[Reps] at h;obtain⟨v7,_,rfl,b7,h⟩:=h;rw[Reps] at h;obtain⟨v8,_,rfl,b8,h⟩:=h;rw[Reps] at h;obtain⟨v9,_,rfl,b9,h⟩:=h;rw[Reps] at h;obtain⟨v10,_,rfl,b10,h⟩:=h;rw[Reps] at h;obtain⟨v11,_,rfl,b11,h⟩:=h;rw[Reps] at h;obtain⟨v12,_,rfl,b12,h⟩:=h;rw[Reps] at h;obtain⟨v13,_,rfl,b13,h⟩:=h;rw[Reps] at h;obtain⟨v14,_,rfl,b14,h⟩:=h;rw[Reps] at h;obtain⟨v15,_,rfl,m1,h⟩:=h;rw[Reps] at h;obtain⟨v16,_,rfl,m2,h⟩:=h;rw[Reps] at h;obtain⟨v17,_,rfl,b15,h⟩:=h;rw[Reps] at h;obtain⟨v18,_,rfl,b16,h⟩:=h;simp only[Rep] at m1 m2;rw[<- e1] at m1;rw[<- e2] at m2;refine⟨_,_,rfl,up b0 a0,_,_,rfl,up b1 a1,_,_,rfl,up b2 a2,_,_,rfl,up b3 a3,_,_,rfl,up b4 a4,_,_,rfl,up b5 a5,_,_,rfl,up b6 a6,_,_,rfl,up b7 a7,_,_,rfl,up b8 a8,_,_,rfl,up b9 a9,_,_,rfl,up b10 a10,_,_,rfl,up b11 a11,_,_,rfl,up b12 a12,_,_,rfl,up b13 a13,_,_,rfl,up b14 a14,_,_,rfl,?_,_,_,rfl,?_,_,_,rfl,up b15 a15,_,_,rfl,up b16 a16,h⟩
 ·simp only[Rep];exact m1
 ·simp only[Rep];exact m2
def c2D:Sx.Sys:=⟨[],.stuck,[],some b9r,none⟩
set_option maxHeartbeats 4000000 in
theorem c8F:SysOk Try.prog 30 c2D where
 ct Φ hΦ nn aa σ r σ' hh:=by
  change b9r aa σ=some (r,σ') at hh;unfold b9r at hh;split at hh
  case h_2=>cases hh
  rename_i h;split at hh
  case h_2=>cases hh
  rename_i c0 c1 c2 c3 c4 c5 c6 c7 c8 c9 c10 c11 c12 c13 c14 c15 c16 hd o n cp sz c18 T g0;split at hh
  case isFalse=>cases hh
  rename_i hc;obtain⟨hn,hlow⟩:=hc;simp only[Q1,Q0] at hh;obtain⟨rfl,rfl⟩:=hh;have hlt:=(List.getElem?_eq_some_iff.1 g0).1;have hall:PV.lows σ.length [c0,c1,c2,c3,c4,c5,c6,c7,c8,c9,c10,c11,c12,c13,c14,c15,c16,.msl hd o n cp sz,c18]=true:=List.all_eq_true.1 hlow _ (List.mem_of_getElem? g0)
  have hall':PV.lows σ.length [c0,c1,c2,c3,c4,c5,c6,c7,c8,c9,c10,c11,c12,c13,c14,.msl hd o n cp sz,c18]=true:=by
   simp only[PV.lows,Q5] at hall ⊢;obtain⟨a0,a1,a2,a3,a4,a5,a6,a7,a8,a9,a10,a11,a12,a13,a14,a15,a16,a17,a18,-⟩:=hall;exact⟨a0,a1,a2,a3,a4,a5,a6,a7,a8,a9,a10,a11,a12,a13,a14,a17,a18,trivial⟩
  have g1:∀x:MO,(σ++[x])[h]?=some (.cells [c0,c1,c2,c3,c4,c5,c6,c7,c8,c9,c10,c11,c12,c13,c14,c15,c16,.msl hd o n cp sz,c18] T):=fun x=>by rw[Q6 hlt];exact g0
  have g2:∀x y:MO,(σ++[x]++[y])[h]?=some (.cells [c0,c1,c2,c3,c4,c5,c6,c7,c8,c9,c10,c11,c12,c13,c14,c15,c16,.msl hd o n cp sz,c18] T):=fun x y=>by rw[Q6 (by simp;omega)];exact g1 x
  have g3:∀(x c:MO),((σ++[x]).set h c)[h]?=some c:=fun x c=>Qn (by simp;omega)
  have g4:∀(x y c:MO),((σ++[x]++[y]).set h c)[h]?=some c:=fun x y c=>Qn (by simp;omega)
  have g5:∀(x y c:MO),((σ++[x]).set h c++[y])[h]?=some c:=fun x y c=>by rw[Q6 (by simp;omega)];exact g3 x c
  have s1:∀(x y c d:MO),((σ++[x]++[y]).set h c).set h d=σ.set h d++[x,y]:=fun x y c d=>by rw[List.set_set,Qp,Q7 _ _ hlt];rfl
  have s2:∀(x y c d:MO),((σ++[x]).set h c++[y]).set h d=σ.set h d++[x,y]:=fun x y c d=>by
   rw[Q7 _ _ hlt,Qp,Q7 _ _ (by simpa using hlt),List.set_set];rfl
  refine CtD.one (CtD.swap (l2:=[c0,c1,c2,c3,c4,c5,c6,c7,c8,c9,c10,c11,c12,c13,c14,.msl (σ.length+1) 0 n n 6,.msl σ.length 0 n n 1,.msl hd o n cp sz,c18]) (d1u.dm Φ hΦ 1 _ _ (fun r' σ'=>r'=.tup []/\(_\/_)) ⟨([],[],[.ref h 0]),rfl,?_⟩) g0 hlow (d3y _ _) (d3C _ _) rfl (fun s B B' vs q1 q2 q3 q4=>d0s hall' q1 q2 q3 q4) ?_ (fun _ _ hq=>hq))
  ·show PT.wp _ a7O _ _
   unfold a7O
   repeat' first
    | refine a5i rfl rfl ?_
    | refine d2O ?_ ?_
    | ((refine d2F rfl (d3S (by dsimp only;first|exact g0|exact g1 _) rfl) rfl ?_);(dsimp only[PEnv.push,Q8,Q9,Qa,a2h,Qb,Qd,Qe,IE.pe,BE.pe,Nat.reduceAdd];try simp only[Qf,Qg,Qh,Qj,Q2]))
    | (refine d5n rfl rfl hn (by decide) ?_;(dsimp only[PEnv.push,Q8,Q9,Qa,a2h,Qb,Qd,Qe,IE.pe,BE.pe,Nat.reduceAdd];try simp only[Qf,Qg,Qh,Qj,Q2]))
    | ((refine d5F rfl (by dsimp only;first|exact g0|exact g1 _|exact g2 _ _|exact g3 _ _|exact g4 _ _ _|exact g5 _ _ _) rfl (by simp[]) ?_);(dsimp only[PEnv.push,Q8,Q9,Qa,a2h,Qb,Qd,Qe,IE.pe,BE.pe,Nat.reduceAdd];try simp only[Qf,Qg,Qh,Qj,Q2]))
    | (refine d2E rfl ⟨rfl,?_⟩)
   all_goals simp only[s1,s2]
   all_goals first|exact .inl rfl|exact .inr rfl
  ·have:=PV.lows_mono (show σ.length<=σ.length+2 by omega) _ hall'
   simp only[PV.lows,Q5,PV.low,decide_eq_true_eq] at this ⊢;obtain⟨a0,a1,a2,a3,a4,a5,a6,a7,a8,a9,a10,a11,a12,a13,a14,a15,a16,-⟩:=this;exact⟨a0,a1,a2,a3,a4,a5,a6,a7,a8,a9,a10,a11,a12,a13,a14,by omega,by omega,a15,a16,trivial⟩
def a2u:Sx.Sys:=c2D
theorem b5Z:SysOk Try.prog 30 a2u:=c8F
def d3D:List (Nat×Sx.Sys):=[(5,d8P),(6,a4D),(8,b2f),(10,a5O),(11,a4L),(12,a4T),(13,a1m),(15,a8W),(17,a4b),(20,d9d),(21,a0y),(22,a1L),(23,d8Y),(24,a7d),(25,a7R),(26,a9Y),(27,a6a),(28,b0f),(29,a1H),(30,a2u),(31,a6E),(32,a8a),(33,a4B),(34,a6B),(35,a1S),(36,a3p),(37,a1Z),(38,a1Q),(39,a0z),(42,a0L),(43,a4E),(45,a3a),(46,d9a),(47,d9b),(48,a2W),(49,a0r),(50,b0d),(51,d8V),(52,d8T),(53,a8d),(54,a3G),(55,a4j),(56,a1B),(57,a1s),(58,a2w),(59,a2J),(60,a3x),(61,a2T),(62,a3z),(63,a8T),(64,a3U),(65,a3m),(66,a3n),(67,a9i),(68,a6z),(69,a5A),(70,a1p),(71,a1v),(72,b2e),(73,a0t),(74,a0v),(75,a5B),(76,a5U),(77,a7p),(78,a0w),(79,a8Y),(80,a3h),(81,a6C),(82,a9a),(83,a3Q),(84,a2p),(85,a8g),(86,a0E),(87,a8e),(88,a3o),(89,a1T),(90,a4A),(91,a9b),(92,a9e),(93,a6f),(94,b0a),(95,b0c),(96,a1x),(97,a6A),(98,a7c),(99,b2a),(100,a9X),(101,a5W)]
def Tab(f:Nat):Option Sx.Sys:=b0T f d3D
theorem c9G:∀f S,Tab f=some S->SysOk Try.prog f S:=by
 intro f S h;have h:=b4c h;simp only[d3D,List.mem_cons,Q0,List.not_mem_nil,or_false] at h;rcases h with h|h|h|h|h|h|h|h|h|h|h|h|h|h|h|h|h|h|h|h|h|h|h|h|h|h|h|h|h|h|h|h|h|h|h|h|h|h|h|h|h|h|h|h|h|h|h|h|h|h|h|h|h|h|h|h|h|h|h|h|h|h|h|h|h|h|h|h|h|h|h|h|h|h|h|h|h|h|h|h|h|h|h|h|h|h|h|h
 all_goals obtain⟨rfl,rfl⟩:=h
 ·exact d9y
 ·exact b5x
 ·exact c5C
 ·exact b8x
 ·exact b9o
 ·exact b6c
 ·exact b7C
 ·exact c2s
 ·exact b7J
 ·exact d9X
 ·exact c0q
 ·exact b5L
 ·exact e0b
 ·exact b6P
 ·exact b6Y
 ·exact c4f
 ·exact b8H
 ·exact c4i
 ·exact b8w
 ·exact b5Z
 ·exact b9v
 ·exact c2g
 ·exact b5v
 ·exact b9Y
 ·exact c0K
 ·exact b2N
 ·exact b9a
 ·exact b4r
 ·exact b9u
 ·exact c5h
 ·exact c4h
 ·exact b2r
 ·exact d9V
 ·exact d9Y
 ·exact b7R
 ·exact b8D
 ·exact c4a
 ·exact e0c
 ·exact d9L
 ·exact c2k
 ·exact c1m
 ·exact c3k
 ·exact b9s
 ·exact b7T
 ·exact a7e
 ·exact a7K
 ·exact b0y
 ·exact a8J
 ·exact c1O
 ·exact c2n
 ·exact b4a
 ·exact b2x
 ·exact b2Q
 ·exact c3r
 ·exact b8Q
 ·exact b7j
 ·exact b8Z
 ·exact a7H
 ·exact c6A
 ·exact b7A
 ·exact b8u
 ·exact b8c
 ·exact b8G
 ·exact c0u
 ·exact c0r
 ·exact c2G
 ·exact c2X
 ·exact b9T
 ·exact c2C
 ·exact c4e
 ·exact c3o
 ·exact c1n
 ·exact c1r
 ·exact c1G
 ·exact b2L
 ·exact b4p
 ·exact b5P
 ·exact c3i
 ·exact c3l
 ·exact c6m
 ·exact c3R
 ·exact c3U
 ·exact b7y
 ·exact b9t
 ·exact c0L
 ·exact c5O
 ·exact c3D
 ·exact b8B
abbrev d8X:Nat:=5
abbrev b0E:Nat:=6
abbrev a9V:Nat:=8
abbrev a5P:Nat:=10
abbrev a2U:Nat:=11
abbrev b1c:Nat:=12
abbrev a4e:Nat:=13
abbrev b6L:Nat:=15
abbrev a7Q:Nat:=17
abbrev d9p:Nat:=20
abbrev b0p:Nat:=21
abbrev a6K:Nat:=22
abbrev d9r:Nat:=23
abbrev c8A:Nat:=24
abbrev c9k:Nat:=25
abbrev b0g:Nat:=26
abbrev a5N:Nat:=27
abbrev b2I:Nat:=28
abbrev b2v:Nat:=29
abbrev a2t:Nat:=30
abbrev a9y:Nat:=31
abbrev b4P:Nat:=32
abbrev b0N:Nat:=33
abbrev b2W:Nat:=34
abbrev a5s:Nat:=35
abbrev a2z:Nat:=36
abbrev b2T:Nat:=37
abbrev a9M:Nat:=38
abbrev b2S:Nat:=39
abbrev b9N:Nat:=42
abbrev b2y:Nat:=43
abbrev a7w:Nat:=45
abbrev d9q:Nat:=46
abbrev d9l:Nat:=47
abbrev b1t:Nat:=48
abbrev b2p:Nat:=49
abbrev a7v:Nat:=50
abbrev d9B:Nat:=51
abbrev d9A:Nat:=52
abbrev b4F:Nat:=53
abbrev a8f:Nat:=54
abbrev b5U:Nat:=55
abbrev b2V:Nat:=56
abbrev b1v:Nat:=57
abbrev b8E:Nat:=58
abbrev b8V:Nat:=59
abbrev c2v:Nat:=60
abbrev c0G:Nat:=61
abbrev b4R:Nat:=62
abbrev a8S:Nat:=63
abbrev a5F:Nat:=64
abbrev a1U:Nat:=65
abbrev a7X:Nat:=66
abbrev a2P:Nat:=67
abbrev b2U:Nat:=68
abbrev b1w:Nat:=69
abbrev b2Y:Nat:=70
abbrev a2C:Nat:=71
abbrev c0Z:Nat:=72
abbrev b1s:Nat:=73
abbrev b2t:Nat:=74
abbrev b1u:Nat:=75
abbrev a2i:Nat:=76
abbrev b3D:Nat:=77
abbrev b3U:Nat:=78
abbrev b1X:Nat:=79
abbrev b6n:Nat:=80
abbrev b2X:Nat:=81
abbrev b6f:Nat:=82
abbrev b8l:Nat:=83
abbrev b6w:Nat:=84
abbrev b1p:Nat:=85
abbrev b4O:Nat:=86
abbrev b4G:Nat:=87
abbrev a4U:Nat:=88
abbrev a9P:Nat:=89
abbrev a4y:Nat:=90
abbrev b6r:Nat:=91
abbrev b1E:Nat:=92
abbrev c1c:Nat:=93
abbrev a4J:Nat:=94
abbrev b8o:Nat:=95
abbrev a5C:Nat:=96
abbrev a3K:Nat:=97
abbrev b3L:Nat:=98
abbrev c1h:Nat:=99
abbrev b8n:Nat:=100
abbrev a3f:Nat:=101
abbrev a0G:Nat:=7
theorem d9w:Tab 5=some d8P:=by kernel_rfl
theorem b4D:Tab 6=some a4D:=by kernel_rfl
theorem b8p:Tab 8=some b2f:=by kernel_rfl
theorem b8C:Tab 11=some a4L:=by kernel_rfl
theorem b5T:Tab 13=some a1m:=by kernel_rfl
theorem c1w:Tab 15=some a8W:=by kernel_rfl
theorem b6s:Tab 17=some a4b:=by kernel_rfl
theorem d9Q:Tab 20=some d9d:=by kernel_rfl
theorem b9X:Tab 21=some a0y:=by kernel_rfl
theorem b4l:Tab 22=some a1L:=by kernel_rfl
theorem d9U:Tab 23=some d8Y:=by kernel_rfl
theorem c2W:Tab 26=some a9Y:=by kernel_rfl
theorem b8d:Tab 27=some a6a:=by kernel_rfl
theorem c2N:Tab 28=some b0f:=by kernel_rfl
theorem b6X:Tab 29=some a1H:=by kernel_rfl
theorem b0O:Tab 30=some a2u:=by kernel_rfl
theorem b8I:Tab 31=some a6E:=by kernel_rfl
theorem c0J:Tab 32=some a8a:=by kernel_rfl
theorem b4x:Tab 33=some a4B:=by kernel_rfl
theorem b8r:Tab 34=some a6B:=by kernel_rfl
theorem b8S:Tab 35=some a1S:=by kernel_rfl
theorem b2s:Tab 36=some a3p:=by kernel_rfl
theorem b8N:Tab 37=some a1Z:=by kernel_rfl
theorem b3F:Tab 38=some a1Q:=by kernel_rfl
theorem b8y:Tab 39=some a0z:=by kernel_rfl
theorem c3V:Tab 42=some a0L:=by kernel_rfl
theorem c2r:Tab 43=some a4E:=by kernel_rfl
theorem b1F:Tab 45=some a3a:=by kernel_rfl
theorem d9R:Tab 46=some d9a:=by kernel_rfl
theorem d9S:Tab 47=some d9b:=by kernel_rfl
theorem b6p:Tab 48=some a2W:=by kernel_rfl
theorem b7h:Tab 49=some a0r:=by kernel_rfl
theorem c3g:Tab 50=some b0d:=by kernel_rfl
theorem d9W:Tab 51=some d8V:=by kernel_rfl
theorem d9F:Tab 52=some d8T:=by kernel_rfl
theorem c0A:Tab 53=some a8d:=by kernel_rfl
theorem c0v:Tab 54=some a3G:=by kernel_rfl
theorem c1Y:Tab 55=some a4j:=by kernel_rfl
theorem b8J:Tab 56=some a1B:=by kernel_rfl
theorem b6d:Tab 57=some a1s:=by kernel_rfl
theorem a7l:Tab 58=some a2w:=by kernel_rfl
theorem a7E:Tab 59=some a2J:=by kernel_rfl
theorem b0o:Tab 60=some a3x:=by kernel_rfl
theorem a8M:Tab 61=some a2T:=by kernel_rfl
theorem c0x:Tab 62=some a3z:=by kernel_rfl
theorem c2d:Tab 63=some a8T:=by kernel_rfl
theorem b3b:Tab 64=some a3U:=by kernel_rfl
theorem b2l:Tab 65=some a3m:=by kernel_rfl
theorem b2u:Tab 66=some a3n:=by kernel_rfl
theorem c2c:Tab 67=some a9i:=by kernel_rfl
theorem b8t:Tab 68=some a6z:=by kernel_rfl
theorem b6H:Tab 69=some a5A:=by kernel_rfl
theorem b8z:Tab 70=some a1p:=by kernel_rfl
theorem a7J:Tab 71=some a1v:=by kernel_rfl
theorem c5e:Tab 72=some b2e:=by kernel_rfl
theorem b5X:Tab 73=some a0t:=by kernel_rfl
theorem b7g:Tab 74=some a0v:=by kernel_rfl
theorem b5Q:Tab 75=some a5B:=by kernel_rfl
theorem b8j:Tab 76=some a5U:=by kernel_rfl
theorem b9m:Tab 77=some a7p:=by kernel_rfl
theorem b9U:Tab 78=some a0w:=by kernel_rfl
theorem c1S:Tab 79=some a8Y:=by kernel_rfl
theorem c2i:Tab 80=some a3h:=by kernel_rfl
theorem b8v:Tab 81=some a6C:=by kernel_rfl
theorem c2f:Tab 82=some a9a:=by kernel_rfl
theorem c2O:Tab 83=some a3Q:=by kernel_rfl
theorem c1u:Tab 84=some a2p:=by kernel_rfl
theorem c0B:Tab 85=some a8g:=by kernel_rfl
theorem c0s:Tab 86=some a0E:=by kernel_rfl
theorem c0H:Tab 87=some a8e:=by kernel_rfl
theorem b2m:Tab 88=some a3o:=by kernel_rfl
theorem b4b:Tab 89=some a1T:=by kernel_rfl
theorem b4z:Tab 90=some a4A:=by kernel_rfl
theorem c1H:Tab 91=some a9b:=by kernel_rfl
theorem c1L:Tab 92=some a9e:=by kernel_rfl
theorem c5i:Tab 93=some a6f:=by kernel_rfl
theorem c3v:Tab 94=some b0a:=by kernel_rfl
theorem c2q:Tab 95=some b0c:=by kernel_rfl
theorem b0H:Tab 96=some a1x:=by kernel_rfl
theorem b8F:Tab 97=some a6A:=by kernel_rfl
theorem b9B:Tab 98=some a7c:=by kernel_rfl
theorem c5b:Tab 99=some b2a:=by kernel_rfl
theorem c3u:Tab 100=some a9X:=by kernel_rfl
theorem b7F:Tab 101=some a5W:=by kernel_rfl
end Go.Proofs.Ytmekflfjaflmkaa
