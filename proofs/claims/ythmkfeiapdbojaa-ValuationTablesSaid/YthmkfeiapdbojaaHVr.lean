/- Which products an expression uses, and how many nodes it has: the reference's. -/
import Derived.Test.YthmkfeiapdbojaaHVq
import Derived.Test.YthmkfeiapdbojaaHVn
import Derived.Test.YthmkfeiapdbojaaHGx
import Derived.Test.YthmkfeiapdbojaaHTxe
set_option linter.unusedSimpArgs false
set_option linter.unusedVariables false
open Go.Sx.PT renaming ev → ξ1
open Go.Sx.BE renaming safe → ξ2, pe → ξ3, all → ξz
open Go.Sx.IE renaming pe → ξ4
open Go.Sx renaming PEnv.at → ξ5
open Go.Sx.PEnv renaming push → ξt
open List renaming getD_cons_zero → ξ6, getD_cons_succ → ξ7, getElem?_cons_zero → ξ8, getElem?_cons_succ → ξ9, drop_zero → ξf, length_cons → ξg, length_nil → ξh, take_succ_cons → ξm, take_zero → ξn, cons_append → ξu, nil_append → ξv, append_nil → ξw, map_cons → ξD, map_nil → ξE
open Go.Sx renaming a0g → ξa, a0h → ξb, a0b → ξc, a0f → ξd, a0c → ξo, a0a → ξp, a0d → ξq, a0N → ξF, a0D → ξG, a0p → ξH, a0q → ξI, a0C → ξJ, a1d → ξK, a0Z → ξL, a1e → ξM, a0Y → ξN, a0A → ξO, a0n → ξP, a0B → ξQ, a0M → ξR, a0m → ξS, a0y → ξT, a0R → ξU, a0H → ξV, a0I → ξW, a0J → ξX, a0r → ξY
open Nat renaming add_zero → ξe, le_refl → ξi
open Bool renaming false_eq_true → ξl, and_self → ξA, not_true → ξB, not_false → ξC
open Option renaming map_some → ξr, bind_some → ξs
open Go.Sx.SV renaming pvs → ξx, pv → ξy
open Option renaming bind_some → Q0, map_some → Q1, bind_eq_bind → Qn, pure_def → Qp, bind → QS
open List renaming cons_append → Q2, map_cons → Q3, append_nil → Q4, nil_append → Q5, map_nil → Q6, mem_of_getElem? → Q7, length_nil → Q8, getD_eq_getElem?_getD → Qa, length_cons → Qb, getD_cons_zero → Qe, getD_cons_succ → Qf, mapM_cons → Qh, mapM_nil → Qj, reverse_cons → Qk, reverse_nil → Qm, set_cons_zero → Qs, set_cons_succ → Qt, getElem?_cons_zero → Qu, getElem?_cons_succ → Qv, drop_zero → QA, mem_map → QB, range → QC, all_eq_true → QE, length_append → QJ, getElem?_eq_some_iff → QK, take_left → QM, all_cons → QP, getElem?_map → QQ, drop_of_length_le → QU, drop_eq_getElem?_toList_append → QV, foldl_cons → QW, range_succ → QY, mem_range → QZ, getElem?_eq_none → X2, length_singleton → X3, length_map → X4
open Bool renaming and_self → Q9, true_and → QD, and_eq_true → QH, false_eq_true → QL, false_and → QN, or_eq_false_iff → QX, or_eq_true → X0, not_eq_true' → X1
open Nat renaming zero_add → Qd, add_zero → Qg, mul_le_mul → Qr, le_refl → Qw, zero_mul → Qy, add_mul → Qz
open Int renaming toNat_natCast → Qq
set_option maxRecDepth 100000
namespace Go.Proofs.Ythmkfeiapdbojaa
open Go.Sx Go.Kv Go.Bun
mutual
def a6u:Ex->Prop | .node _ _ _ _ _ _ _ _ l=>l.length<=9223372036854775807/\b1X l
def b1X:List Ex->Prop | []=>True | e::l=>a6u e/\b1X l
end
theorem b3E:∀ {l:List Ex},b1X l->∀ e∈l,a6u e
 | x::l,h,e,he=>by
  simp only [b1X] at h
  rcases List.mem_cons.1 he with rfl | he
  ·exact h.1
  ·exact b3E h.2 e he
 | [],_,e,he=>by simp at he
mutual
def a5I (k:Nat):Ex->Bool | .node _ a b c d e f _ l=>decide (0 < [a,b,c,d,e,f].getD k 0)||b1y k l
def b1y (k:Nat):List Ex->Bool | []=>false | e::l=>a5I k e||b1y k l
end
mutual
def a3B (d:Nat):Ex->Int | .node _ _ _ _ _ _ _ _ l=>if 10 < d\/20 < l.length then 1000 else 1+a3i (d+1) l
def a3i (d:Nat):List Ex->Int | []=>0 | e::l=>a3B d e+a3i d l
end
def bN:Nat->Int
 | 0=>1000
 | k+1=>1+20*bN k
theorem b7T:∀ k,1000<=bN k
 | 0=>Int.le_refl _
 | k+1=>by have:=b7T k; simp only [bN]; omega
mutual
theorem b7x (d:Nat):∀ e:Ex,1<=a3B d e/\a3B d e<=bN (11-d)
 | .node op a b c d' e f v l=>by
  unfold a3B
  have hb:=b7T (11-d)
  split
  ·omega
  ·rename_i h
   have:=a6G (d+1) l
   obtain ⟨k,hk⟩:∃ k,11-d=k+1:=⟨10-d,by omega⟩
   rw [hk]
   rw [show 11-(d+1)=k by omega] at this
   simp only [bN]
   have hl:(l.length:Int)*bN k<=20*bN k:=Int.mul_le_mul_of_nonneg_right (by omega) (by have:=b7T k; omega)
   omega
theorem a6G (d:Nat):∀ l:List Ex,0<=a3i d l/\a3i d l<=l.length*bN (11-d)
 | []=>by simp [a3i]
 | e::l=>by
  have h1:=b7x d e
  have h2:=a6G d l
  simp only [a3i,Qb]
  rw [Int.natCast_add,Int.add_mul]
  omega
end
mutual
theorem b6u (d:Nat):∀ e:Ex,a3B d e < 1000->a3B d e=e.size
 | .node op a b c d' e f v l,h=>by
  unfold a3B at h ⊢
  split
  ·rename_i hc; rw [if_pos hc] at h; omega
  ·rename_i hc
   rw [if_neg hc] at h
   have:=b5l (d+1) l (by have:=a6G (d+1) l; omega)
   simp only [Ex.size]; omega
theorem b5l (d:Nat):∀ l:List Ex,a3i d l < 1000->a3i d l=a2a l
 | [],_=>by simp [a3i,a2a]
 | e::l,h=>by
  have h1:=b7x d e
  have h2:=a6G d l
  simp only [a3i] at h ⊢
  have h3:=b6u d e (by omega)
  have h4:=b5l d l (by omega)
  simp only [a2a]; omega
end
def want (a b c d e f:Int) (k:Nat):Int:=[a,b,c,d,e,f].getD k 0
theorem c9T (σ:List MO):∀ (e:Ex),a6u e->∀ row,IsE e row->∀ n,e.size+2<=n->∀ k:Nat,k < 6->a0e Tab n 45 [.agg row,.int .i64 k] σ=some (.bool (a5I k e),σ):=by
 intro e
 induction hM:e.size using Nat.strongRecOn generalizing e with
 | _ M ih =>
  subst hM
  intro hw row hrow n hn k hk
  obtain ⟨op,a,b,c,d,e',f,v,l⟩:=e
  simp only [IsE] at hrow
  obtain ⟨x,rows,rfl,hx,hl⟩:=hrow
  obtain ⟨x1,x2,x3⟩:=a0T hx
  simp only [Ex.size] at ih hn
  simp only [a6u] at hw
  obtain ⟨n,rfl⟩:∃ m,n=m+1:=⟨n-1,by omega⟩
  have hlen:=hl.length
  have hsl:=a3d l
  have loop:∀ (dd i:Nat),i+dd=l.length->∀ fuel,dd+1<=fuel ->
    saleroomref13_Uses_S.loop (a0e Tab n) fuel 0 { i:=[(k:Int),(i:Int),op,a,b,c,d,e',f,v],b:=[],v:=[x],m:=σ,k:=σ.length }=some (.bool (b1y k (l.drop i)),σ):=by
   intro dd
   induction dd with
   | zero =>
    intro i hi fuel hf
    obtain ⟨fuel,rfl⟩:∃ m,fuel=m+1:=⟨fuel-1,by omega⟩
    have q0:ltB (i:Int) (rows.length:Int)=false:=by simp [ltB]; omega
    rw [Sys.loop,show saleroomref13_Uses_S.loops[0]?=some a1R from rfl]
    simp -implicitDefEqProofs only [Q0,a1R,↓reduceIte,eq_self,ξ1,ξ2,ξ3,ξ4,ξ5,ξ6,ξ7,ξ8,ξ9,ξa,ξb,ξc,ξd,ξe,ξf,ξg,ξh,Nat.reduceAdd,ξi,if_true,if_false,ξl,ξm,ξn,ξo,ξp,ξq,ξr,ξs,ξt,ξu,ξv,ξw,ξx,ξy,ξz,ξA,ξB,ξC,ξD,ξE,q0,x1,x2,a0k,or_true]
    rw [QU (by omega)]
    rfl
   | succ dd ihd =>
    intro i hi fuel hf
    obtain ⟨fuel,rfl⟩:∃ m,fuel=m+1:=⟨fuel-1,by omega⟩
    obtain ⟨ei,hei⟩:=a3n (l:=l) (i:=i) (by omega)
    obtain ⟨ri,hri,hrow1⟩:=hl.at hei
    have hszi:=a2Q (Q7 hei)
    have hcall:=ih ei.size (by omega) ei rfl (b3E hw.2 ei (Q7 hei)) ri hrow1 n (by omega) k hk
    have hnext:=ihd (i+1) (by omega) fuel (by omega)
    have hloc:=a4d (off:=0) hx hri
    have q0:ltB (i:Int) (rows.length:Int)=true:=by simp [ltB]; omega
    have q2:(leB (-9223372036854775808) ((i:Int)+1)&&leB ((i:Int)+1) 9223372036854775807)=true:=by simp [leB]; omega
    have hdr:l.drop i=ei::l.drop (i+1):=by rw [QV (i:=i),hei]; rfl
    rw [hdr,b1y]
    obtain ⟨op1,a1,b1,c1,d1,e1',f1,v1,l1⟩:=ei
    have hrow1':=hrow1
    simp only [IsE] at hrow1'
    obtain ⟨y,rows1,rfl,hy,hl1⟩:=hrow1'
    obtain ⟨y1,y2,y3⟩:=a0T hy
    generalize a5I k (Ex.node op1 a1 b1 c1 d1 e1' f1 v1 l1)=u at *
    rw [Sys.loop,show saleroomref13_Uses_S.loops[0]?=some a1R from rfl]
    cases u with
    | true=>simp -implicitDefEqProofs only [Q0,a1R,↓reduceIte,eq_self,ξ1,ξ2,ξ3,ξ4,ξ5,ξ6,ξ7,ξ8,ξ9,ξa,ξb,ξc,ξd,ξe,ξf,ξg,ξh,Nat.reduceAdd,ξi,if_true,if_false,ξl,ξm,ξn,ξo,ξp,ξq,ξr,ξs,ξt,ξu,ξv,ξw,ξx,ξy,ξz,ξA,ξB,ξC,ξD,ξE,q0,x1,x2,le0,hloc,y3,hcall,a0k,or_true,Bool.true_or]
    | false =>
     rw [Bool.false_or,<- hnext]
     simp -implicitDefEqProofs only [Q0,a1R,↓reduceIte,eq_self,ξ1,ξ2,ξ3,ξ4,ξ5,ξ6,ξ7,ξ8,ξ9,ξa,ξb,ξc,ξd,ξe,ξf,ξg,ξh,Nat.reduceAdd,ξi,if_true,if_false,ξl,ξm,ξn,ξo,ξp,ξq,ξr,ξs,ξt,ξu,ξv,ξw,ξx,ξy,ξz,ξA,ξB,ξC,ξD,ξE,q0,x1,x2,le0,hloc,y3,hcall,q2,a0v]
  have h0:=loop l.length 0 (by omega) n (by omega)
  rw [QA] at h0
  rw [a0e,b1s,a5I]
  simp only [Q0,Sys.run]
  show ((a0i [.sh (.agg [_,_,_,_,_,_,_,_,_]),.sh (.one _)] _).bind _)=_
  simp only [a0i,a0d,a0c,Q1,Q0,Q4,Q5,Q2,if_true,x3]
  show (PT.ev _ a4U _).bind _=_
  have hk6:k=0\/k=1\/k=2\/k=3\/k=4\/k=5:=by omega
  rcases hk6 with rfl | rfl | rfl | rfl | rfl | rfl
  all_goals
   simp only [Qe,Qf]
   simp -implicitDefEqProofs only [a4U,↓reduceIte,eq_self,ξ1,ξ2,ξ3,ξ4,ξ5,ξ6,ξ7,ξ8,ξ9,ξa,ξb,ξc,ξd,ξe,ξf,ξg,ξh,Nat.reduceAdd,ξi,if_true,if_false,ξl,ξm,ξn,ξo,ξp,ξq,ξr,ξs,ξt,ξu,ξv,ξw,ξx,ξy,ξz,ξA,ξB,ξC,ξD,ξE,a3x,Int.reduceEq,Int.cast_ofNat_Int,decide_true,decide_false,a1n,a0k,or_true]
   split
   ·rename_i h; rw [decide_eq_true h]; rfl
   ·rename_i h; rw [decide_eq_false h]; exact h0
theorem c5B (σ:List MO):∀ (e:Ex),a6u e->∀ row,IsE e row->∀ n,e.size+2<=n->∀ d:Nat,d<=1000000->a0e Tab n 46 [.agg row,.int .i64 d] σ=some (.int .i64 (a3B d e),σ):=by
 intro e
 induction hM:e.size using Nat.strongRecOn generalizing e with
 | _ M ih =>
  subst hM
  intro hw row hrow n hn k hk
  obtain ⟨op,a,b,c,d,e',f,v,l⟩:=e
  simp only [IsE] at hrow
  obtain ⟨x,rows,rfl,hx,hl⟩:=hrow
  obtain ⟨x1,x2,x3⟩:=a0T hx
  simp only [Ex.size] at ih hn
  simp only [a6u] at hw
  obtain ⟨n,rfl⟩:∃ m,n=m+1:=⟨n-1,by omega⟩
  have hlen:=hl.length
  have hsl:=a3d l
  rw [a0e,b0x,a3B]
  simp only [Q0,Sys.run]
  show ((a0i [.sh (.agg [_,_,_,_,_,_,_,_,_]),.sh (.one _)] _).bind _)=_
  simp only [a0i,a0d,a0c,Q1,Q0,Q4,Q5,Q2,if_true,x3]
  show (PT.ev _ a2x _).bind _=_
  by_cases h10:10 < k
  ·have q:ltB 10 (k:Int)=true:=by simp [ltB]; omega
   rw [if_pos (.inl h10)]
   simp -implicitDefEqProofs only [a2x,↓reduceIte,eq_self,ξ1,ξ2,ξ3,ξ4,ξ5,ξ6,ξ7,ξ8,ξ9,ξa,ξb,ξc,ξd,ξe,ξf,ξg,ξh,Nat.reduceAdd,ξi,if_true,if_false,ξl,ξm,ξn,ξo,ξp,ξq,ξr,ξs,ξt,ξu,ξv,ξw,ξx,ξy,ξz,ξA,ξB,ξC,ξD,ξE,q,a0k,or_true]
  have q:ltB 10 (k:Int)=false:=by simp [ltB]; omega
  by_cases h20:20 < l.length
  ·have q':ltB 20 (rows.length:Int)=true:=by simp [ltB]; omega
   rw [if_pos (.inr h20)]
   simp -implicitDefEqProofs only [a2x,↓reduceIte,eq_self,ξ1,ξ2,ξ3,ξ4,ξ5,ξ6,ξ7,ξ8,ξ9,ξa,ξb,ξc,ξd,ξe,ξf,ξg,ξh,Nat.reduceAdd,ξi,if_true,if_false,ξl,ξm,ξn,ξo,ξp,ξq,ξr,ξs,ξt,ξu,ξv,ξw,ξx,ξy,ξz,ξA,ξB,ξC,ξD,ξE,q,x1,x2,q',a0k,or_true]
  have q':ltB 20 (rows.length:Int)=false:=by simp [ltB]; omega
  rw [if_neg (by omega)]
  have hbb:bN 10<=100000000000000000:=by decide +kernel
  have hmono:∀ j,j<=10->bN j<=bN 10:=by decide +kernel
  have hB:=hmono (11-(k+1)) (by omega)
  have loop:∀ (dd i:Nat),i+dd=l.length->∀ (z:Int),0<=z->z+a3i (k+1) (l.drop i)<=5000000000000000000->∀ fuel,dd+1<=fuel ->
    saleroomref13_nodes_S.loop (a0e Tab n) fuel 0 { i:=[(k:Int),z,(i:Int),op,a,b,c,d,e',f,v],b:=[],v:=[x],m:=σ,k:=σ.length }=some (.int .i64 (z+a3i (k+1) (l.drop i)),σ):=by
   intro dd
   induction dd with
   | zero =>
    intro i hi z hz1 hz2 fuel hf
    obtain ⟨fuel,rfl⟩:∃ m,fuel=m+1:=⟨fuel-1,by omega⟩
    have q0:ltB (i:Int) (rows.length:Int)=false:=by simp [ltB]; omega
    rw [Sys.loop,show saleroomref13_nodes_S.loops[0]?=some a2k from rfl]
    simp -implicitDefEqProofs only [Q0,a2k,↓reduceIte,eq_self,ξ1,ξ2,ξ3,ξ4,ξ5,ξ6,ξ7,ξ8,ξ9,ξa,ξb,ξc,ξd,ξe,ξf,ξg,ξh,Nat.reduceAdd,ξi,if_true,if_false,ξl,ξm,ξn,ξo,ξp,ξq,ξr,ξs,ξt,ξu,ξv,ξw,ξx,ξy,ξz,ξA,ξB,ξC,ξD,ξE,q0,x1,x2,a0k,or_true]
    rw [QU (by omega)]
    simp [a3i]
   | succ dd ihd =>
    intro i hi z hz1 hz2 fuel hf
    obtain ⟨fuel,rfl⟩:∃ m,fuel=m+1:=⟨fuel-1,by omega⟩
    obtain ⟨ei,hei⟩:=a3n (l:=l) (i:=i) (by omega)
    obtain ⟨ri,hri,hrow1⟩:=hl.at hei
    have hszi:=a2Q (Q7 hei)
    have hcall:=ih ei.size (by omega) ei rfl (b3E hw.2 ei (Q7 hei)) ri hrow1 n (by omega) (k+1) (by omega)
    have hdr:l.drop i=ei::l.drop (i+1):=by rw [QV (i:=i),hei]; rfl
    rw [hdr,a3i] at hz2 ⊢
    have hb1:=b7x (k+1) ei
    have hb2:=a6G (k+1) (l.drop (i+1))
    have hnext:=ihd (i+1) (by omega) (z+a3B (k+1) ei) (by omega) (by omega) fuel (by omega)
    have hloc:=a4d (off:=0) hx hri
    have q0:ltB (i:Int) (rows.length:Int)=true:=by simp [ltB]; omega
    have q2:=a2h (i:=i) (by omega)
    have q3:=a2h (i:=k) (by omega)
    have q4:(leB (-9223372036854775808) (z+a3B (k+1) ei)&&leB (z+a3B (k+1) ei) 9223372036854775807)=true:=a0u (by omega)
    rw [<- Int.add_assoc,<- hnext]
    obtain ⟨op1,a1,b1,c1,d1,e1',f1,v1,l1⟩:=ei
    have hrow1':=hrow1
    simp only [IsE] at hrow1'
    obtain ⟨y,rows1,rfl,hy,hl1⟩:=hrow1'
    obtain ⟨y1,y2,y3⟩:=a0T hy
    generalize a3B (k+1) (Ex.node op1 a1 b1 c1 d1 e1' f1 v1 l1)=u at *
    rw [a0v] at hcall
    rw [Sys.loop,show saleroomref13_nodes_S.loops[0]?=some a2k from rfl]
    simp -implicitDefEqProofs only [Q0,a2k,↓reduceIte,eq_self,ξ1,ξ2,ξ3,ξ4,ξ5,ξ6,ξ7,ξ8,ξ9,ξa,ξb,ξc,ξd,ξe,ξf,ξg,ξh,Nat.reduceAdd,ξi,if_true,if_false,ξl,ξm,ξn,ξo,ξp,ξq,ξr,ξs,ξt,ξu,ξv,ξw,ξx,ξy,ξz,ξA,ξB,ξC,ξD,ξE,q0,x1,x2,le0,hloc,y3,q3,hcall,q4,q2,a0v]
  have hlb:=a6G (k+1) l
  have hmul:(l.length:Int)*bN (11-(k+1))<=20*100000000000000000:=Int.mul_le_mul (by omega) (by omega) (by have:=b7T (11-(k+1)); omega) (by omega)
  have h0:=loop l.length 0 (by omega) 1 (by omega) (by rw [QA]; omega) n (by omega)
  rw [QA] at h0
  refine Eq.trans ?_ h0
  simp -implicitDefEqProofs only [a2x,↓reduceIte,eq_self,ξ1,ξ2,ξ3,ξ4,ξ5,ξ6,ξ7,ξ8,ξ9,ξa,ξb,ξc,ξd,ξe,ξf,ξg,ξh,Nat.reduceAdd,ξi,if_true,if_false,ξl,ξm,ξn,ξo,ξp,ξq,ξr,ξs,ξt,ξu,ξv,ξw,ξx,ξy,ξz,ξA,ξB,ξC,ξD,ξE,q,x1,x2,q']
  rfl
end Go.Proofs.Ythmkfeiapdbojaa
set_option maxRecDepth 100000
namespace Go.Proofs.Ythmkfeiapdbojaa
open Go.Sx Go.Kv Go.Bun
def Zk (k:Nat) (kv:KV):Prop:=∀ p∈kv,p.1.getD k 0=0
section
variable {k:Nat} {lim:List Int}
theorem b4D {kv:KV} (h:Zk k kv) {b:List Int} {v:Int} (hb:b.getD k 0=0):Zk k (a2I lim kv b v):=by
 unfold a2I
 split
 ·intro p hp
  rcases b7a.1 hp with rfl | ⟨hp,_⟩
  ·exact hb
  ·exact h p hp
 ·exact h
theorem a4P:∀ {L kv:KV},Zk k kv->(∀ p∈L,p.1.getD k 0=0)->Zk k (raises lim kv L)
 | [],_,h,_=>h
 | p::L,kv,h,hL=>by rw [a7Z]; exact a4P (b4D h (hL p (by simp))) (fun q hq=>hL q (by simp [hq]))
theorem a8t:Zk k []:=fun p hp=>by simp at hp
theorem c1H:∀ {a b:List Int} {k:Nat},a.getD k 0=0->b.getD k 0=0->(a2X a b).getD k 0=0
 | [],_,_,_,_=>by simp [a2X]
 | _::_,[],_,_,_=>by simp [a2X]
 | x::a,y::b,0,h,g=>by simp [a2X] at *; omega
 | x::a,y::b,k+1,h,g=>by
  have:=c1H (a:=a) (b:=b) (k:=k) (by simpa using h) (by simpa using g)
  simpa [a2X] using this
theorem b9V:∀ {a b:List Int} {k:Nat},a.getD k 0=0->b.getD k 0=0->(a2o a b).getD k 0=0
 | [],_,_,_,_=>by simp [a2o]
 | _::_,[],_,_,_=>by simp [a2o]
 | x::a,y::b,0,h,g=>by simp [a2o] at *; omega
 | x::a,y::b,k+1,h,g=>by
  have:=b9V (a:=a) (b:=b) (k:=k) (by simpa using h) (by simpa using g)
  simpa [a2o] using this
theorem d0H {x y:KV} (hx:Zk k x) (hy:Zk k y):Zk k (a3r lim x y):=by
 unfold a3r
 refine a4P (a4P (a4P a8t hx) hy) fun p hp=>?_
 simp only [a6r,List.mem_flatMap,QB] at hp
 obtain ⟨a,ha,b,hb,rfl⟩:=hp
 exact c1H (hx a ha) (hy b hb)
theorem b9b {F:KV->KV->KV} (hF:∀ a b,Zk k a->Zk k b->Zk k (F a b)):∀ {l:List KV} {a:KV},Zk k a->(∀ x∈l,Zk k x)->Zk k (l.foldl F a)
 | [],_,h,_=>h
 | x::l,a,h,hl=>by rw [QW]; exact b9b hF (hF a x h (hl x (by simp))) (fun y hy=>hl y (by simp [hy]))
theorem c9i {l:List Int} (h:nnL l=true) (k:Nat) (hu:decide (0 < l.getD k 0)=false):l.getD k 0=0:=by
 have hu:=of_decide_eq_false hu
 rw [Qa] at hu ⊢
 cases hk:l[k]? with
 | none=>rfl
 | some z =>
  rw [hk] at hu
  have:=QE.1 h z (Q7 hk)
  simp only [Option.getD_some,decide_eq_true_eq] at *
  omega
mutual
theorem d0V:∀ e:Ex,okX e=true->a5I k e=false->Zk k (a0z lim e)
 | .node op a b c d e f v l,h,hu=>by
  simp only [okX,QH] at h
  obtain ⟨⟨⟨⟨h1,h2⟩,h3⟩,h4⟩,h5⟩:=h
  simp only [a5I,QX] at hu
  have hw:=c9i h1 k hu.1
  have hl:=c5P l h5 hu.2
  have hhead:Zk k ((a1p lim l).headD []):=by
   cases hk:a1p lim l with
   | nil=>exact a8t
   | cons x r=>exact hl x (by rw [hk]; simp)
  simp only [a0z]
  split
  ·exact b4D a8t hw
  split
  ·exact b9b (fun a b ha hb=>a4P ha hb) a8t hl
  split
  ·exact b9b (fun a b=>d0H) a8t hl
  split
  ·unfold a9U
   refine a4P (b4D (a4P a8t hhead) hw) fun p hp=>?_
   obtain ⟨q,hq,rfl⟩:=QB.1 hp
   exact b9V (hhead q hq) hw
  split
  ·unfold a8r
   refine a4P a8t fun p hp=>?_
   obtain ⟨q,hq,rfl⟩:=QB.1 hp
   exact hhead q hq
  ·exact a8t
theorem c5P:∀ l:List Ex,a3k l=true->b1y k l=false->∀ x∈a1p lim l,Zk k x
 | [],_,_=>by simp [a1p]
 | e::l,h,hu=>by
  simp only [a3k,QH] at h
  simp only [b1y,QX] at hu
  have i1:=d0V e h.1 hu.1
  have i2:=c5P l h.2 hu.2
  intro x hx
  simp only [a1p,List.mem_cons] at hx
  rcases hx with rfl | hx
  ·exact i1
  ·exact i2 x hx
end
end
def b4H (e:Ex) (i:Nat):Nat:=((QC i).filter fun k=>a5I k e).length
theorem c6n (e:Ex) (i:Nat):b4H e (i+1)=b4H e i+if a5I i e then 1 else 0:=by
 unfold b4H
 rw [QY,List.filter_append,QJ]
 cases h:a5I i e<;>simp [h]
end Go.Proofs.Ythmkfeiapdbojaa
set_option maxRecDepth 100000
namespace Go.Proofs.Ythmkfeiapdbojaa
open Go.Sx Go.Kv Go.Bun
def b6E (e:Ex):Bool:=decide (b4H e 6<=2)&&decide (a3B 0 e<=14)
theorem c9V (e:Ex) (i:Nat):b4H e i<=i:=by
 unfold b4H
 have:=List.length_filter_le (fun k=>a5I k e) (QC i)
 rwa [List.length_range] at this
section
variable {σ:List MO} {e:Ex} {row:List PV}
theorem d0M (hw:a6u e) (hrow:IsE e row) (n:Nat) (hn:e.size+20<=n):a0e Tab n 15 [.agg row] σ=some (.bool (b6E e),σ):=by
 obtain ⟨n,rfl⟩:∃ m,n=m+1:=⟨n-1,by omega⟩
 have hu:=fun k hk=>c9T σ e hw row hrow n (by omega) k hk
 have hnd:=c5B σ e hw row hrow n (by omega) 0 (by omega)
 have hcs:=c6n e
 have hcl:=c9V e
 unfold b6E
 generalize b4H e=cu at *
 generalize a3B 0 e=nd at *
 have hus:∀ k,a5I k e=(fun k=>a5I k e) k:=fun _=>rfl
 generalize hU:(fun k=>a5I k e)=ux at *
 simp only [hus] at hu hcs
 obtain ⟨op,a,b,c,d,e',f,v,l⟩:=e
 simp only [IsE] at hrow
 obtain ⟨x,rows,rfl,hx,hl⟩:=hrow
 obtain ⟨x1,x2,x3⟩:=a0T hx
 have step:∀ i:Nat,i < 6->∀ fuel,saleroomref13_Few_S.loop (a0e Tab n) (fuel+1) 0 { i:=[(cu i:Int),(i:Int),op,a,b,c,d,e',f,v],b:=[],v:=[x],m:=σ,k:=σ.length } =
   saleroomref13_Few_S.loop (a0e Tab n) fuel 0 { i:=[(cu (i+1):Int),((i+1:Nat):Int),op,a,b,c,d,e',f,v],b:=[],v:=[x],m:=σ,k:=σ.length }:=by
  intro i hi fuel
  have h1:=hu i hi
  have h2:=hcs i
  have h3:=hcl i
  have q0:ltB (i:Int) 6=true:=by simp [ltB]; omega
  have q1:=a2h (i:=i) (by omega)
  have q2:=a2h (i:=cu i) (by omega)
  rw [Sys.loop,show saleroomref13_Few_S.loops[0]?=some a1M from rfl]
  cases hux:ux i with
  | true =>
   rw [hux] at h1 h2
   simp only [if_true] at h2
   rw [h2]
   simp -implicitDefEqProofs only [Q0,a1M,↓reduceIte,eq_self,ξ1,ξ2,ξ3,ξ4,ξ5,ξ6,ξ7,ξ8,ξ9,ξa,ξb,ξc,ξd,ξe,ξf,ξg,ξh,Nat.reduceAdd,ξi,if_true,if_false,ξl,ξm,ξn,ξo,ξp,ξq,ξr,ξs,ξt,ξu,ξv,ξw,ξx,ξy,ξz,ξA,ξB,ξC,ξD,ξE,q0,h1,q1,q2,a0v]
  | false =>
   rw [hux] at h1 h2
   simp only [QL,if_false,Qg] at h2
   rw [h2]
   simp -implicitDefEqProofs only [Q0,a1M,↓reduceIte,eq_self,ξ1,ξ2,ξ3,ξ4,ξ5,ξ6,ξ7,ξ8,ξ9,ξa,ξb,ξc,ξd,ξe,ξf,ξg,ξh,Nat.reduceAdd,ξi,if_true,if_false,ξl,ξm,ξn,ξo,ξp,ξq,ξr,ξs,ξt,ξu,ξv,ξw,ξx,ξy,ξz,ξA,ξB,ξC,ξD,ξE,q0,h1,q1,a0v]
 have h0:=a3R (fun i=>{ i:=[(cu i:Int),(i:Int),op,a,b,c,d,e',f,v],b:=[],v:=[x],m:=σ,k:=σ.length }) step 6 0 (by omega) (n-6)
 have hc0:cu 0=0:=by have:=hcl 0; omega
 rw [show n-6+6=n by omega,hc0] at h0
 rw [a0e,b1N]
 simp only [Q0,Sys.run]
 show ((a0i [.sh (.agg [_,_,_,_,_,_,_,_,_])] _).bind _)=_
 simp only [a0i,a0d,a0c,Q1,Q0,Q4,Q5,Q2,if_true,x3]
 show (PT.ev _ a7v _).bind _=_
 refine Eq.trans (b:=saleroomref13_Few_S.loop (a0e Tab n) n 0 { i:=[((0:Nat):Int),((0:Nat):Int),op,a,b,c,d,e',f,v],b:=[],v:=[x],m:=σ,k:=σ.length }) rfl ?_
 rw [h0]
 obtain ⟨fu,hfu⟩:∃ k,n-6=k+1:=⟨n-7,by omega⟩
 rw [hfu,Sys.loop,show saleroomref13_Few_S.loops[0]?=some a1M from rfl]
 have q0:ltB ((6:Nat):Int) 6=false:=rfl
 have hnd':a0e Tab n 46 [.agg [.int .i64 op,.int .i64 a,.int .i64 b,.int .i64 c,.int .i64 d,.int .i64 e',.int .i64 f,.int .i64 v,x],.int .i64 0] σ=some (.int .i64 nd,σ):=hnd
 by_cases h2:cu 6<=2
 ·have q2:leB (cu 6:Int) 2=true:=by simp [leB]; omega
  simp -implicitDefEqProofs only [Q0,a1M,↓reduceIte,eq_self,ξ1,ξ2,ξ3,ξ4,ξ5,ξ6,ξ7,ξ8,ξ9,ξa,ξb,ξc,ξd,ξe,ξf,ξg,ξh,Nat.reduceAdd,ξi,if_true,if_false,ξl,ξm,ξn,ξo,ξp,ξq,ξr,ξs,ξt,ξu,ξv,ξw,ξx,ξy,ξz,ξA,ξB,ξC,ξD,ξE,q0,q2,hnd',a0k,or_true]
  rw [decide_eq_true h2]
  rfl
 ·have q2:leB (cu 6:Int) 2=false:=by simp [leB]; omega
  simp -implicitDefEqProofs only [Q0,a1M,↓reduceIte,eq_self,ξ1,ξ2,ξ3,ξ4,ξ5,ξ6,ξ7,ξ8,ξ9,ξa,ξb,ξc,ξd,ξe,ξf,ξg,ξh,Nat.reduceAdd,ξi,if_true,if_false,ξl,ξm,ξn,ξo,ξp,ξq,ξr,ξs,ξt,ξu,ξv,ξw,ξx,ξy,ξz,ξA,ξB,ξC,ξD,ξE,q0,q2,a0k,or_true]
  rw [decide_eq_false h2]
  rfl
end
end Go.Proofs.Ythmkfeiapdbojaa
set_option maxRecDepth 100000
namespace Go.Proofs.Ythmkfeiapdbojaa
open Go.Sx Go.Kv Go.Bun
def c2l (e:Ex) (b:Bd):Int:=if chk e=0/\b.Ok then vX e b.l else 0
section
variable {e:Ex} {row:List PV}
theorem d0n {n:Nat} (hn:2000<=n):a0e a4u n a6R [] []=some (.bool true,[]):=c7R hn c9U
theorem d0p (hrow:IsE e row) (he:e.size<=400) (b:Bd) {σ:List MO} (hlow:σ.all (MO.low σ.length)=true) (n:Nat):a0e a4u (n+1) 18 [.agg row,.agg (bpv b)] σ=some (.int .i64 (c2l e b),σ):=by
 have hT:a4u 18=some valueP:=rfl
 rw [a0e,hT]
 have hb:a5B (bpv b)=some b.l:=a7s b.l
 simp only [Q0,Sys.run,valueP,b7z,b5F 400 e row hrow he,hb]
 rw [if_pos ⟨rfl,he,hlow⟩,c9J]
 rfl
theorem c7G (h:b6E e=true):b4H e 6<=2/\e.size<=14:=by
 unfold b6E at h
 simp only [QH,decide_eq_true_eq] at h
 have:=b6u 0 e (by omega)
 omega
theorem d2o (hw:a6u e) (hrow:IsE e row) (n:Nat) (hn:e.size+20<=n) {σ:List MO}:a0e a4u n 15 [.agg row] σ=some (.bool (b6E e),σ):=evH (d0M hw hrow n hn)
end
end Go.Proofs.Ythmkfeiapdbojaa
set_option maxRecDepth 100000
namespace Go.Proofs.Ythmkfeiapdbojaa
open Go.Sx Go.Bun
theorem c8p {rows:List (List PV)} (h:∀ r∈rows,∃ e,IsE e r/\a6u e/\9*e.size<=PV.wts r):∃ l,a1k l rows/\b1X l/\l.length=rows.length/\9*a2a l<=PV.wtss rows:=by
 induction rows with
 | nil=>exact ⟨[],by simp [a1k],by simp [b1X],rfl,by simp [a2a,PV.wtss]⟩
 | cons r rows ih =>
  obtain ⟨e,he,hw,hs⟩:=h r (by simp)
  obtain ⟨l,hl,hlw,hln,hls⟩:=ih (fun r hr=>h r (by simp [hr]))
  exact ⟨e::l,⟨r,rows,rfl,he,hl⟩,⟨hw,hlw⟩,by simp [hln],by simp only [a2a,PV.wtss]; omega⟩
theorem c1G {n:Nat} {ps:List PV} (h:a1r Try.prog n 23 ps):∃ b:Bd,ps=bpv b:=by
 obtain ⟨m,_,h⟩:=c1h Try.underlying23 h
 simp only [List.replicate,a5Q] at h
 obtain ⟨_,_,rfl,h1,_,_,rfl,h2,_,_,rfl,h3,_,_,rfl,h4,_,_,rfl,h5,_,_,rfl,h6,rfl⟩:=h
 obtain ⟨a,rfl,_⟩:=a3W (k:=.i64) (by kernel_rfl) h1
 obtain ⟨b,rfl,_⟩:=a3W (k:=.i64) (by kernel_rfl) h2
 obtain ⟨c,rfl,_⟩:=a3W (k:=.i64) (by kernel_rfl) h3
 obtain ⟨d,rfl,_⟩:=a3W (k:=.i64) (by kernel_rfl) h4
 obtain ⟨e,rfl,_⟩:=a3W (k:=.i64) (by kernel_rfl) h5
 obtain ⟨f,rfl,_⟩:=a3W (k:=.i64) (by kernel_rfl) h6
 exact ⟨⟨a,b,c,d,e,f⟩,rfl⟩
theorem c6B:∀ (n:Nat) (ps:List PV),a1r Try.prog n 26 ps->∃ e,IsE e ps/\a6u e/\9*e.size<=PV.wts ps:=by
 intro n
 induction n using Nat.strongRecOn with
 | _ n ih =>
 intro ps h
 obtain ⟨m,hm,h⟩:=c0s Try.underlying26 h
 simp only [Q3,Q6,a5Q] at h
 obtain ⟨_,_,rfl,h1,_,_,rfl,h2,_,_,rfl,h3,_,_,rfl,h4,rfl⟩:=h
 obtain ⟨op,rfl,_⟩:=a3W (k:=.i64) (by kernel_rfl) h1
 obtain ⟨w,rfl⟩:=c1G h2
 obtain ⟨v,rfl,_⟩:=a3W (k:=.i64) (by kernel_rfl) h3
 obtain ⟨k,rows,hk,rfl,hr,hrl⟩:=b9Y (e:=26) (by kernel_rfl) h4
 obtain ⟨l,hl,hw,hln,hs⟩:=c8p (fun r hr'=>ih k (by omega) r (hr r hr'))
 have hc:Try.prog.cellsOf 26=9:=by kernel_rfl
 rw [hc]
 refine ⟨.node op w.a w.b w.c w.d w.e w.f v l,?_,?_,?_⟩
 ·simp only [IsE]
  exact ⟨_,rows,rfl,by simp [PV.rowsOf],hl⟩
 ·simp only [a6u]; exact ⟨by omega,hw⟩
 ·simp only [Ex.size,bpv,Q2,Q5,Q4,PV.wts,PV.wt]; omega
end Go.Proofs.Ythmkfeiapdbojaa
set_option maxRecDepth 100000
namespace Go.Proofs.Ythmkfeiapdbojaa
open Go.Sx Go.Kv Go.Bun
def c4k (s:Bd) (t:List Int) (n:Nat):Bool:=(s.offs (s.unr n)).all fun st=>decide (t.getD ((n:Int)-st).toNat 0<=t.getD n 0)
def a3L (s:Bd) (t:List Int) (n:Nat):Bool:=(QC n).all (c4k s t)
theorem c2T (s:Bd) (t:List Int) (n:Nat):a3L s t (n+1)=(a3L s t n&&c4k s t n):=by
 unfold a3L; rw [QY,List.all_append]; simp
def b5y (s:Bd) (t:List Int) (N:Nat):Bool:=(QC N).all fun (i:Nat)=>(QC N).all fun (j:Nat)=>!decide ((s.unr i).Le (s.unr j))||decide (t.getD i 0<=t.getD j 0)
theorem c6y {s:Bd} {t:List Int} {N:Nat} (hN:(N:Int)=s.cnt):a3L s t N=b5y s t N:=by
 rw [Bool.eq_iff_iff]
 unfold a3L b5y c4k
 simp only [QE,QZ,decide_eq_true_eq,X0,X1,decide_eq_false_iff_not]
 constructor
 ·intro h i hi j
  induction j using Nat.strongRecOn with
  | _ j ih =>
   intro hj
   by_cases hle:(s.unr i).Le (s.unr j)
   case neg=>exact .inl hle
   obtain ⟨o1,o2⟩:=a7N (s:=s) (n:=j) (by omega) rfl
   rcases o2 (s.unr i) (a3m (Bd.ok_of_cnt (s:=s) (by omega)) i).1 hle with he | ⟨st,hst,m,m1,m2,m3⟩
   ·have h1:=a8q (s:=s) (n:=i) (by omega)
    have h2:=a8q (s:=s) (n:=j) (by omega)
    rw [he,h2] at h1
    have:i=j:=by omega
    subst this
    exact .inr (Int.le_refl _)
   ·have h1:=h j hj st hst
    rw [m1,Qq] at h1
    rcases ih m m2 (by omega) with h2 | h2
    ·exact absurd m3 h2
    ·exact .inr (by omega)
 ·intro h j hj st hst
  obtain ⟨o1,_⟩:=a7N (s:=s) (n:=j) (by omega) rfl
  obtain ⟨m,m1,m2,m3,_⟩:=o1 st hst
  rw [m1,Qq]
  rcases h m (by omega) j hj with h1 | h1
  ·exact absurd m3 h1
  ·exact h1
theorem b4w {e:Ex} (he:okX e=true) {s:Bd} (hc:s.cnt≠0):a5n e s=a2e e s s.cnt.toNat:=by
 have hs:=Bd.ok_of_cnt hc
 have hcl:=a6p hc
 apply List.ext_getElem?
 intro j
 unfold a5n
 rcases Nat.lt_or_ge j s.cnt.toNat with hj | hj
 ·rw [a5P hj,if_pos hj,d0m he hs (a3m hs j).1 (a3m hs j).2]
  simp [a2e,hj]
 ·rw [X2 (by simp [a2L]; omega),X2 (by simp [b3b]; omega)]
theorem c5A (e:Ex) (s:Bd) (N:Nat):b5y s (a2e e s N) N=true:=by
 unfold b5y
 simp only [QE,QZ,decide_eq_true_eq,X0,X1,decide_eq_false_iff_not]
 intro i hi j hj
 by_cases hle:(s.unr i).Le (s.unr j)
 ·refine .inr ?_
  rw [b2L hi,b2L hj]
  exact c9E hle
 ·exact .inl hle
end Go.Proofs.Ythmkfeiapdbojaa
set_option maxRecDepth 100000
namespace Go.Proofs.Ythmkfeiapdbojaa
open Go.Sx Go.Kv Go.Bun
def a2b (L:List (List Int)):List (List PV):=L.map lpv
theorem a8p (L:List (List Int)):(a2b L).length=L.length:=by simp [a2b]
def a0o (m0:List MO) (R:List (List Int)):List MO:=match R with | []=>m0 | _::_=>m0++[.row (a2b R) 6 23]
def a0l (m0:List MO) (R:List (List Int)):PV:=match R with | []=>.nilS | _::_=>.rsl m0.length R.length 6
inductive HoldsL (m:List MO) (L:List (List Int)):PV->Prop
 | sl:HoldsL m L (.sl 6 (a2b L))
 | rsl {h:Nat}:m[h]?=some (.row (a2b L) 6 23)->HoldsL m L (.rsl h L.length 6)
theorem a1B {m:List MO} {L:List (List Int)} {p:PV} (h:HoldsL m L p):p.len=(L.length:Int)/\p.isKind 0=true/\p.one=true:=by
 cases h with
 | sl=>exact ⟨by simp [PV.len,a8p],rfl,rfl⟩
 | rsl _=>exact ⟨rfl,rfl,rfl⟩
theorem a5K {m m':List MO} {L:List (List Int)} {p:PV} (h:HoldsL m L p) (hm:∀ (i:Nat) (o:MO),m[i]?=some o->m'[i]?=some o):HoldsL m' L p:=by
 cases h with
 | sl=>exact .sl
 | rsl hg=>exact .rsl (hm _ _ hg)
theorem a7B {ρ:PEnv} {L:List (List Int)} {p:PV} (h:HoldsL ρ.m L p) {k:Nat} {x:List Int} (hk:L[k]?=some x) (hx:x.length=6) {n:Nat} (hn:ρ.v[n]?=some p) {e:IE} (he:e.pe ρ=(k:Int)) :
  ∃ l,a0g ρ (.ea n e 6 0)=some l/\a0b ρ false 6 l=some (lpv x):=by
 have hl:=(QK.1 hk).1
 have hrow:(a2b L)[k]?=some (lpv x):=by simp [a2b,hk]
 have ht:a0f 6 (lpv x)=some (lpv x):=by
  unfold a0f
  rw [if_pos (by simp [lpv,hx]),List.take_of_length_le (by simp [lpv,hx])]
 cases h with
 | sl =>
  refine ⟨.row (lpv x) 0,?_,?_⟩
  ·simp only [a0g,hn,Q0,he,a3N]
   rw [if_pos ⟨trivial,by omega⟩,Qq,hrow]; rfl
  ·simp only [a0b,QA]; exact ht
 | @rsl hh hg =>
  refine ⟨.elt hh L.length k 6 0,?_,?_⟩
  ·simp only [a0g,hn,Q0,he,a3N]
   rw [if_pos ⟨by omega,by omega,trivial⟩,Qq]
  ·simp only [a0b,QL,if_false,hg,Q0,MO.elts,a8p]
   rw [if_pos ⟨trivial,trivial⟩]
   simp only [Q0,hrow,QA]
   exact ht
theorem a7M (m0:List MO) (R:List (List Int)) (y:List Int) (hR:R.length<=100000) {ρ:PEnv} (hm:ρ.m=a0o m0 R) (hv1:ρ.v[1]?=some (a0l m0 R)) (hv2:ρ.v[2]?=some (.sl 6 [lpv y])) (Φ:Fns) (k:PT) :
  (PT.appM (.va 1) (.va 2) 6 23 k).ev Φ ρ=k.ev Φ { ρ with v:=ρ.v++[a0l m0 (R++[y])],m:=a0o m0 (R++[y]) }:=by
 rw [a0y]
 simp only [SV.pv,hv1,Q0,a1x,hv2,PV.rowsOf,if_true]
 cases R with
 | nil =>
  simp only [a0l,X3]
  rw [if_pos (by omega),if_neg (by omega),hm]
  rfl
 | cons x R =>
  have h0:ρ.m[m0.length]?=some (.row (a2b (x::R)) 6 23):=by rw [hm]; exact b5O _ _ _
  simp only [a0l,h0,X3]
  rw [if_pos ⟨a8p _,trivial,trivial,trivial,by omega⟩,if_neg (by omega),hm]
  simp only [a0o,Q2,c8B,Qb,QJ,Q8,Qd]
  congr 4
  ·simp [a2b]
theorem a6P {m0:List MO} {R:List (List Int)} {i:Nat} {o:MO} (h:m0[i]?=some o):(a0o m0 R)[i]?=some o:=by
 cases R with
 | nil=>exact h
 | cons x R=>exact (List.getElem?_append_left (QK.1 h).1).trans h
theorem a6q (m0:List MO) {R:List (List Int)} (h:R≠[]):HoldsL (a0o m0 R) R (a0l m0 R):=by
 cases R with
 | nil=>exact absurd rfl h
 | cons x R=>exact .rsl (b5O _ _ _)
theorem a2R (m0:List MO) (R:List (List Int)):(a0l m0 R).one=true/\(a0l m0 R).isKind 0=true:=by cases R<;>exact ⟨rfl,rfl⟩
section
variable {Φ:Fns} {m0:List MO} {L:List (List Int)} {p:PV} {s:Bd} {K:Nat}
theorem c7E (hs:s.Ok) (hh:HoldsL m0 L p) (hL:∀ x∈L,x.length=6) (hl:L.length<=10000) {k:Nat} (hk:k < L.length):∀ q,q < s.a.toNat+1->∀ fuel,
  saleroomref07_List_S.loop Φ (fuel+1) 1 { i:=[(k:Int),(q:Int),s.a,s.b,s.c,s.d,s.e,s.f],b:=[],v:=[p,a0l m0 (a0j 0 (s.a.toNat+1) L k q)],m:=a0o m0 (a0j 0 (s.a.toNat+1) L k q),k:=K } =
  saleroomref07_List_S.loop Φ fuel 1 { i:=[(k:Int),((q+1:Nat):Int),s.a,s.b,s.c,s.d,s.e,s.f],b:=[],v:=[p,a0l m0 (a0j 0 (s.a.toNat+1) L k (q+1))],m:=a0o m0 (a0j 0 (s.a.toNat+1) L k (q+1)),k:=K }:=by
 intro q hq fuel
 obtain ⟨x,hx⟩:=a3n hk
 have hx6:=hL x (Q7 hx)
 have hgd:L.getD k []=x:=by rw [Qa,hx]; rfl
 have hbl:=a6S 0 (s.a.toNat+1) L k q (by omega)
 have hb:=a5N 0 (s.a.toNat+1) L k q
 rw [hgd] at hb
 simp only [Bd.Ok] at hs
 have hmul:k*(s.a.toNat+1)<=10000*5:=Qr (by omega) (by omega)
 rw [hb]
 generalize a0j 0 (s.a.toNat+1) L k q=B at *
 obtain ⟨h1,h2,h3⟩:=a1B hh
 obtain ⟨v1,v2⟩:=a2R m0 B
 have q0:leB (q:Int) s.a=true:=by simp [leB]; omega
 have q1:ltB (k:Int) (L.length:Int)=true:=by simp [ltB]; omega
 have q2:=a2h (i:=q) (by omega)
 obtain ⟨l,r1,r2⟩:=a7B (ρ:={ i:=[(k:Int),(q:Int),s.a,s.b,s.c,s.d,s.e,s.f],b:=[],v:=[p,a0l m0 B],m:=a0o m0 B,k:=K }) (a5K hh fun i o h=>a6P h) hx hx6 (n:=0) rfl (e:=.a 0) rfl
 obtain ⟨x0,x1,x2,x3,x4,x5,rfl⟩:=a1z hx6
 have happ:=fun kk=>a7M m0 B ([x0,x1,x2,x3,x4,x5].set 0 (q:Int)) (by omega) (ρ:={ i:=[(k:Int),(q:Int),s.a,s.b,s.c,s.d,s.e,s.f,x0,x1,x2,x3,x4,x5],b:=[],v:=[p,a0l m0 B,.sl 6 [lpv ([x0,x1,x2,x3,x4,x5].set 0 (q:Int))]],m:=a0o m0 B,k:=K }) rfl rfl rfl Φ kk
 simp only [Qs,Qt] at happ ⊢
 generalize a0l m0 (B++_)=V2 at *
 generalize a0o m0 (B++_)=M2 at *
 generalize a0l m0 B=V1 at *
 generalize a0o m0 B=M1 at *
 simp only [lpv,Q3,Q6] at happ r2
 rw [Sys.loop,show saleroomref07_List_S.loops[1]?=some a2F from rfl]
 simp -implicitDefEqProofs only [Q0,a2F,a0D,a0p,a0q,a0C,a0r,BE.safe,BE.pe,IE.pe,PEnv.at,Qe,Qf,q0,h1,q1,le0,r1,r2,if_true,Q9,Qb,Q8,Nat.reduceAdd,a0c,Q1,PEnv.push,Q2,Q5,Q4,a1x,Qh,Qj,Qk,Qm,Qn,Qp,SV.pvs,SV.pv,Q0,Qd,Nat.reduceLeDiff,happ,q2,BE.all,a0v,Q3,Q6,Qu,Qv]
theorem c8j (hs:s.Ok) (hh:HoldsL m0 L p) (hL:∀ x∈L,x.length=6) (hl:L.length<=10000) {k:Nat} (hk:k < L.length):∀ q,q < s.b.toNat+1->∀ fuel,
  saleroomref07_List_S.loop Φ (fuel+1) 5 { i:=[(k:Int),(q:Int),s.a,s.b,s.c,s.d,s.e,s.f],b:=[],v:=[p,a0l m0 (a0j 1 (s.b.toNat+1) L k q)],m:=a0o m0 (a0j 1 (s.b.toNat+1) L k q),k:=K } =
  saleroomref07_List_S.loop Φ fuel 5 { i:=[(k:Int),((q+1:Nat):Int),s.a,s.b,s.c,s.d,s.e,s.f],b:=[],v:=[p,a0l m0 (a0j 1 (s.b.toNat+1) L k (q+1))],m:=a0o m0 (a0j 1 (s.b.toNat+1) L k (q+1)),k:=K }:=by
 intro q hq fuel
 obtain ⟨x,hx⟩:=a3n hk
 have hx6:=hL x (Q7 hx)
 have hgd:L.getD k []=x:=by rw [Qa,hx]; rfl
 have hbl:=a6S 1 (s.b.toNat+1) L k q (by omega)
 have hb:=a5N 1 (s.b.toNat+1) L k q
 rw [hgd] at hb
 simp only [Bd.Ok] at hs
 have hmul:k*(s.b.toNat+1)<=10000*5:=Qr (by omega) (by omega)
 rw [hb]
 generalize a0j 1 (s.b.toNat+1) L k q=B at *
 obtain ⟨h1,h2,h3⟩:=a1B hh
 obtain ⟨v1,v2⟩:=a2R m0 B
 have q0:leB (q:Int) s.b=true:=by simp [leB]; omega
 have q1:ltB (k:Int) (L.length:Int)=true:=by simp [ltB]; omega
 have q2:=a2h (i:=q) (by omega)
 obtain ⟨l,r1,r2⟩:=a7B (ρ:={ i:=[(k:Int),(q:Int),s.a,s.b,s.c,s.d,s.e,s.f],b:=[],v:=[p,a0l m0 B],m:=a0o m0 B,k:=K }) (a5K hh fun i o h=>a6P h) hx hx6 (n:=0) rfl (e:=.a 0) rfl
 obtain ⟨x0,x1,x2,x3,x4,x5,rfl⟩:=a1z hx6
 have happ:=fun kk=>a7M m0 B ([x0,x1,x2,x3,x4,x5].set 1 (q:Int)) (by omega) (ρ:={ i:=[(k:Int),(q:Int),s.a,s.b,s.c,s.d,s.e,s.f,x0,x1,x2,x3,x4,x5],b:=[],v:=[p,a0l m0 B,.sl 6 [lpv ([x0,x1,x2,x3,x4,x5].set 1 (q:Int))]],m:=a0o m0 B,k:=K }) rfl rfl rfl Φ kk
 simp only [Qs,Qt] at happ ⊢
 generalize a0l m0 (B++_)=V2 at *
 generalize a0o m0 (B++_)=M2 at *
 generalize a0l m0 B=V1 at *
 generalize a0o m0 B=M1 at *
 simp only [lpv,Q3,Q6] at happ r2
 rw [Sys.loop,show saleroomref07_List_S.loops[5]?=some a2r from rfl]
 simp -implicitDefEqProofs only [Q0,a2r,a0D,a0p,a0q,a0C,a0r,BE.safe,BE.pe,IE.pe,PEnv.at,Qe,Qf,q0,h1,q1,le0,r1,r2,if_true,Q9,Qb,Q8,Nat.reduceAdd,a0c,Q1,PEnv.push,Q2,Q5,Q4,a1x,Qh,Qj,Qk,Qm,Qn,Qp,SV.pvs,SV.pv,Q0,Qd,Nat.reduceLeDiff,happ,q2,BE.all,a0v,Q3,Q6,Qu,Qv]
theorem c8m (hs:s.Ok) (hh:HoldsL m0 L p) (hL:∀ x∈L,x.length=6) (hl:L.length<=10000) {k:Nat} (hk:k < L.length):∀ q,q < s.c.toNat+1->∀ fuel,
  saleroomref07_List_S.loop Φ (fuel+1) 8 { i:=[(k:Int),(q:Int),s.a,s.b,s.c,s.d,s.e,s.f],b:=[],v:=[p,a0l m0 (a0j 2 (s.c.toNat+1) L k q)],m:=a0o m0 (a0j 2 (s.c.toNat+1) L k q),k:=K } =
  saleroomref07_List_S.loop Φ fuel 8 { i:=[(k:Int),((q+1:Nat):Int),s.a,s.b,s.c,s.d,s.e,s.f],b:=[],v:=[p,a0l m0 (a0j 2 (s.c.toNat+1) L k (q+1))],m:=a0o m0 (a0j 2 (s.c.toNat+1) L k (q+1)),k:=K }:=by
 intro q hq fuel
 obtain ⟨x,hx⟩:=a3n hk
 have hx6:=hL x (Q7 hx)
 have hgd:L.getD k []=x:=by rw [Qa,hx]; rfl
 have hbl:=a6S 2 (s.c.toNat+1) L k q (by omega)
 have hb:=a5N 2 (s.c.toNat+1) L k q
 rw [hgd] at hb
 simp only [Bd.Ok] at hs
 have hmul:k*(s.c.toNat+1)<=10000*5:=Qr (by omega) (by omega)
 rw [hb]
 generalize a0j 2 (s.c.toNat+1) L k q=B at *
 obtain ⟨h1,h2,h3⟩:=a1B hh
 obtain ⟨v1,v2⟩:=a2R m0 B
 have q0:leB (q:Int) s.c=true:=by simp [leB]; omega
 have q1:ltB (k:Int) (L.length:Int)=true:=by simp [ltB]; omega
 have q2:=a2h (i:=q) (by omega)
 obtain ⟨l,r1,r2⟩:=a7B (ρ:={ i:=[(k:Int),(q:Int),s.a,s.b,s.c,s.d,s.e,s.f],b:=[],v:=[p,a0l m0 B],m:=a0o m0 B,k:=K }) (a5K hh fun i o h=>a6P h) hx hx6 (n:=0) rfl (e:=.a 0) rfl
 obtain ⟨x0,x1,x2,x3,x4,x5,rfl⟩:=a1z hx6
 have happ:=fun kk=>a7M m0 B ([x0,x1,x2,x3,x4,x5].set 2 (q:Int)) (by omega) (ρ:={ i:=[(k:Int),(q:Int),s.a,s.b,s.c,s.d,s.e,s.f,x0,x1,x2,x3,x4,x5],b:=[],v:=[p,a0l m0 B,.sl 6 [lpv ([x0,x1,x2,x3,x4,x5].set 2 (q:Int))]],m:=a0o m0 B,k:=K }) rfl rfl rfl Φ kk
 simp only [Qs,Qt] at happ ⊢
 generalize a0l m0 (B++_)=V2 at *
 generalize a0o m0 (B++_)=M2 at *
 generalize a0l m0 B=V1 at *
 generalize a0o m0 B=M1 at *
 simp only [lpv,Q3,Q6] at happ r2
 rw [Sys.loop,show saleroomref07_List_S.loops[8]?=some a2E from rfl]
 simp -implicitDefEqProofs only [Q0,a2E,a0D,a0p,a0q,a0C,a0r,BE.safe,BE.pe,IE.pe,PEnv.at,Qe,Qf,q0,h1,q1,le0,r1,r2,if_true,Q9,Qb,Q8,Nat.reduceAdd,a0c,Q1,PEnv.push,Q2,Q5,Q4,a1x,Qh,Qj,Qk,Qm,Qn,Qp,SV.pvs,SV.pv,Q0,Qd,Nat.reduceLeDiff,happ,q2,BE.all,a0v,Q3,Q6,Qu,Qv]
theorem c7n (hs:s.Ok) (hh:HoldsL m0 L p) (hL:∀ x∈L,x.length=6) (hl:L.length<=10000) {k:Nat} (hk:k < L.length):∀ q,q < s.d.toNat+1->∀ fuel,
  saleroomref07_List_S.loop Φ (fuel+1) 9 { i:=[(k:Int),(q:Int),s.a,s.b,s.c,s.d,s.e,s.f],b:=[],v:=[p,a0l m0 (a0j 3 (s.d.toNat+1) L k q)],m:=a0o m0 (a0j 3 (s.d.toNat+1) L k q),k:=K } =
  saleroomref07_List_S.loop Φ fuel 9 { i:=[(k:Int),((q+1:Nat):Int),s.a,s.b,s.c,s.d,s.e,s.f],b:=[],v:=[p,a0l m0 (a0j 3 (s.d.toNat+1) L k (q+1))],m:=a0o m0 (a0j 3 (s.d.toNat+1) L k (q+1)),k:=K }:=by
 intro q hq fuel
 obtain ⟨x,hx⟩:=a3n hk
 have hx6:=hL x (Q7 hx)
 have hgd:L.getD k []=x:=by rw [Qa,hx]; rfl
 have hbl:=a6S 3 (s.d.toNat+1) L k q (by omega)
 have hb:=a5N 3 (s.d.toNat+1) L k q
 rw [hgd] at hb
 simp only [Bd.Ok] at hs
 have hmul:k*(s.d.toNat+1)<=10000*5:=Qr (by omega) (by omega)
 rw [hb]
 generalize a0j 3 (s.d.toNat+1) L k q=B at *
 obtain ⟨h1,h2,h3⟩:=a1B hh
 obtain ⟨v1,v2⟩:=a2R m0 B
 have q0:leB (q:Int) s.d=true:=by simp [leB]; omega
 have q1:ltB (k:Int) (L.length:Int)=true:=by simp [ltB]; omega
 have q2:=a2h (i:=q) (by omega)
 obtain ⟨l,r1,r2⟩:=a7B (ρ:={ i:=[(k:Int),(q:Int),s.a,s.b,s.c,s.d,s.e,s.f],b:=[],v:=[p,a0l m0 B],m:=a0o m0 B,k:=K }) (a5K hh fun i o h=>a6P h) hx hx6 (n:=0) rfl (e:=.a 0) rfl
 obtain ⟨x0,x1,x2,x3,x4,x5,rfl⟩:=a1z hx6
 have happ:=fun kk=>a7M m0 B ([x0,x1,x2,x3,x4,x5].set 3 (q:Int)) (by omega) (ρ:={ i:=[(k:Int),(q:Int),s.a,s.b,s.c,s.d,s.e,s.f,x0,x1,x2,x3,x4,x5],b:=[],v:=[p,a0l m0 B,.sl 6 [lpv ([x0,x1,x2,x3,x4,x5].set 3 (q:Int))]],m:=a0o m0 B,k:=K }) rfl rfl rfl Φ kk
 simp only [Qs,Qt] at happ ⊢
 generalize a0l m0 (B++_)=V2 at *
 generalize a0o m0 (B++_)=M2 at *
 generalize a0l m0 B=V1 at *
 generalize a0o m0 B=M1 at *
 simp only [lpv,Q3,Q6] at happ r2
 rw [Sys.loop,show saleroomref07_List_S.loops[9]?=some a2B from rfl]
 simp -implicitDefEqProofs only [Q0,a2B,a0D,a0p,a0q,a0C,a0r,BE.safe,BE.pe,IE.pe,PEnv.at,Qe,Qf,q0,h1,q1,le0,r1,r2,if_true,Q9,Qb,Q8,Nat.reduceAdd,a0c,Q1,PEnv.push,Q2,Q5,Q4,a1x,Qh,Qj,Qk,Qm,Qn,Qp,SV.pvs,SV.pv,Q0,Qd,Nat.reduceLeDiff,happ,q2,BE.all,a0v,Q3,Q6,Qu,Qv]
theorem c7a (hs:s.Ok) (hh:HoldsL m0 L p) (hL:∀ x∈L,x.length=6) (hl:L.length<=10000) {k:Nat} (hk:k < L.length):∀ q,q < s.e.toNat+1->∀ fuel,
  saleroomref07_List_S.loop Φ (fuel+1) 10 { i:=[(k:Int),(q:Int),s.a,s.b,s.c,s.d,s.e,s.f],b:=[],v:=[p,a0l m0 (a0j 4 (s.e.toNat+1) L k q)],m:=a0o m0 (a0j 4 (s.e.toNat+1) L k q),k:=K } =
  saleroomref07_List_S.loop Φ fuel 10 { i:=[(k:Int),((q+1:Nat):Int),s.a,s.b,s.c,s.d,s.e,s.f],b:=[],v:=[p,a0l m0 (a0j 4 (s.e.toNat+1) L k (q+1))],m:=a0o m0 (a0j 4 (s.e.toNat+1) L k (q+1)),k:=K }:=by
 intro q hq fuel
 obtain ⟨x,hx⟩:=a3n hk
 have hx6:=hL x (Q7 hx)
 have hgd:L.getD k []=x:=by rw [Qa,hx]; rfl
 have hbl:=a6S 4 (s.e.toNat+1) L k q (by omega)
 have hb:=a5N 4 (s.e.toNat+1) L k q
 rw [hgd] at hb
 simp only [Bd.Ok] at hs
 have hmul:k*(s.e.toNat+1)<=10000*5:=Qr (by omega) (by omega)
 rw [hb]
 generalize a0j 4 (s.e.toNat+1) L k q=B at *
 obtain ⟨h1,h2,h3⟩:=a1B hh
 obtain ⟨v1,v2⟩:=a2R m0 B
 have q0:leB (q:Int) s.e=true:=by simp [leB]; omega
 have q1:ltB (k:Int) (L.length:Int)=true:=by simp [ltB]; omega
 have q2:=a2h (i:=q) (by omega)
 obtain ⟨l,r1,r2⟩:=a7B (ρ:={ i:=[(k:Int),(q:Int),s.a,s.b,s.c,s.d,s.e,s.f],b:=[],v:=[p,a0l m0 B],m:=a0o m0 B,k:=K }) (a5K hh fun i o h=>a6P h) hx hx6 (n:=0) rfl (e:=.a 0) rfl
 obtain ⟨x0,x1,x2,x3,x4,x5,rfl⟩:=a1z hx6
 have happ:=fun kk=>a7M m0 B ([x0,x1,x2,x3,x4,x5].set 4 (q:Int)) (by omega) (ρ:={ i:=[(k:Int),(q:Int),s.a,s.b,s.c,s.d,s.e,s.f,x0,x1,x2,x3,x4,x5],b:=[],v:=[p,a0l m0 B,.sl 6 [lpv ([x0,x1,x2,x3,x4,x5].set 4 (q:Int))]],m:=a0o m0 B,k:=K }) rfl rfl rfl Φ kk
 simp only [Qs,Qt] at happ ⊢
 generalize a0l m0 (B++_)=V2 at *
 generalize a0o m0 (B++_)=M2 at *
 generalize a0l m0 B=V1 at *
 generalize a0o m0 B=M1 at *
 simp only [lpv,Q3,Q6] at happ r2
 rw [Sys.loop,show saleroomref07_List_S.loops[10]?=some a2m from rfl]
 simp -implicitDefEqProofs only [Q0,a2m,a0D,a0p,a0q,a0C,a0r,BE.safe,BE.pe,IE.pe,PEnv.at,Qe,Qf,q0,h1,q1,le0,r1,r2,if_true,Q9,Qb,Q8,Nat.reduceAdd,a0c,Q1,PEnv.push,Q2,Q5,Q4,a1x,Qh,Qj,Qk,Qm,Qn,Qp,SV.pvs,SV.pv,Q0,Qd,Nat.reduceLeDiff,happ,q2,BE.all,a0v,Q3,Q6,Qu,Qv]
theorem c7e (hs:s.Ok) (hh:HoldsL m0 L p) (hL:∀ x∈L,x.length=6) (hl:L.length<=10000) {k:Nat} (hk:k < L.length):∀ q,q < s.f.toNat+1->∀ fuel,
  saleroomref07_List_S.loop Φ (fuel+1) 11 { i:=[(k:Int),(q:Int),s.a,s.b,s.c,s.d,s.e,s.f],b:=[],v:=[p,a0l m0 (a0j 5 (s.f.toNat+1) L k q)],m:=a0o m0 (a0j 5 (s.f.toNat+1) L k q),k:=K } =
  saleroomref07_List_S.loop Φ fuel 11 { i:=[(k:Int),((q+1:Nat):Int),s.a,s.b,s.c,s.d,s.e,s.f],b:=[],v:=[p,a0l m0 (a0j 5 (s.f.toNat+1) L k (q+1))],m:=a0o m0 (a0j 5 (s.f.toNat+1) L k (q+1)),k:=K }:=by
 intro q hq fuel
 obtain ⟨x,hx⟩:=a3n hk
 have hx6:=hL x (Q7 hx)
 have hgd:L.getD k []=x:=by rw [Qa,hx]; rfl
 have hbl:=a6S 5 (s.f.toNat+1) L k q (by omega)
 have hb:=a5N 5 (s.f.toNat+1) L k q
 rw [hgd] at hb
 simp only [Bd.Ok] at hs
 have hmul:k*(s.f.toNat+1)<=10000*5:=Qr (by omega) (by omega)
 rw [hb]
 generalize a0j 5 (s.f.toNat+1) L k q=B at *
 obtain ⟨h1,h2,h3⟩:=a1B hh
 obtain ⟨v1,v2⟩:=a2R m0 B
 have q0:leB (q:Int) s.f=true:=by simp [leB]; omega
 have q1:ltB (k:Int) (L.length:Int)=true:=by simp [ltB]; omega
 have q2:=a2h (i:=q) (by omega)
 obtain ⟨l,r1,r2⟩:=a7B (ρ:={ i:=[(k:Int),(q:Int),s.a,s.b,s.c,s.d,s.e,s.f],b:=[],v:=[p,a0l m0 B],m:=a0o m0 B,k:=K }) (a5K hh fun i o h=>a6P h) hx hx6 (n:=0) rfl (e:=.a 0) rfl
 obtain ⟨x0,x1,x2,x3,x4,x5,rfl⟩:=a1z hx6
 have happ:=fun kk=>a7M m0 B ([x0,x1,x2,x3,x4,x5].set 5 (q:Int)) (by omega) (ρ:={ i:=[(k:Int),(q:Int),s.a,s.b,s.c,s.d,s.e,s.f,x0,x1,x2,x3,x4,x5],b:=[],v:=[p,a0l m0 B,.sl 6 [lpv ([x0,x1,x2,x3,x4,x5].set 5 (q:Int))]],m:=a0o m0 B,k:=K }) rfl rfl rfl Φ kk
 simp only [Qs,Qt] at happ ⊢
 generalize a0l m0 (B++_)=V2 at *
 generalize a0o m0 (B++_)=M2 at *
 generalize a0l m0 B=V1 at *
 generalize a0o m0 B=M1 at *
 simp only [lpv,Q3,Q6] at happ r2
 rw [Sys.loop,show saleroomref07_List_S.loops[11]?=some a2l from rfl]
 simp -implicitDefEqProofs only [Q0,a2l,a0D,a0p,a0q,a0C,a0r,BE.safe,BE.pe,IE.pe,PEnv.at,Qe,Qf,q0,h1,q1,le0,r1,r2,if_true,Q9,Qb,Q8,Nat.reduceAdd,a0c,Q1,PEnv.push,Q2,Q5,Q4,a1x,Qh,Qj,Qk,Qm,Qn,Qp,SV.pvs,SV.pv,Q0,Qd,Nat.reduceLeDiff,happ,q2,BE.all,a0v,Q3,Q6,Qu,Qv]
end
end Go.Proofs.Ythmkfeiapdbojaa
set_option maxRecDepth 100000
namespace Go.Proofs.Ythmkfeiapdbojaa
open Go.Sx Go.Kv Go.Bun
section
variable {Φ:Fns} {m0:List MO} {L:List (List Int)} {p:PV} {s:Bd} {K:Nat}
theorem c7p (hs:s.Ok) (hh:HoldsL m0 L p) (hL:∀ x∈L,x.length=6) (hl:L.length<=10000):∀ (d k:Nat),k+d=L.length->∀ fuel,
  saleroomref07_List_S.loop Φ (fuel+d*(s.a.toNat+3)) 0 { i:=[(k:Int),s.a,s.b,s.c,s.d,s.e,s.f],b:=[],v:=[p,a0l m0 (a0j 0 (s.a.toNat+1) L k 0)],m:=a0o m0 (a0j 0 (s.a.toNat+1) L k 0),k:=K } =
  saleroomref07_List_S.loop Φ fuel 0 { i:=[(L.length:Int),s.a,s.b,s.c,s.d,s.e,s.f],b:=[],v:=[p,a0l m0 (a1H 0 (s.a.toNat+1) L)],m:=a0o m0 (a1H 0 (s.a.toNat+1) L),k:=K }:=by
 intro d
 induction d with
 | zero =>
  intro k hk fuel
  obtain rfl:k=L.length:=by omega
  rw [a6W _ _ _ _ (Qw _),Qy,Qg]
 | succ d ih =>
  intro k hk fuel
  have hkl:k < L.length:=by omega
  obtain ⟨h1,h2,h3⟩:=a1B hh
  have q1:ltB (k:Int) (L.length:Int)=true:=by simp [ltB]; omega
  have q2:=a2h (i:=k) (by omega)
  have hnx:=ih (k+1) (by omega) fuel
  rw [a5W _ _ _ _ hkl] at hnx
  have hin:=a3R (Φ:=Φ) (S:=saleroomref07_List_S) (q:=1) (fun q=>{ i:=[(k:Int),(q:Int),s.a,s.b,s.c,s.d,s.e,s.f],b:=[],v:=[p,a0l m0 (a0j 0 (s.a.toNat+1) L k q)],m:=a0o m0 (a0j 0 (s.a.toNat+1) L k q),k:=K })
   (c7E (Φ:=Φ) (K:=K) hs hh hL hl hkl) (s.a.toNat+1) 0 (by omega) (fuel+d*(s.a.toNat+3)+1)
  simp only [Bd.Ok] at hs
  have q0:leB ((s.a.toNat:Int)+1) s.a=false:=by simp [leB]; omega
  have hout:saleroomref07_List_S.loop Φ (fuel+d*(s.a.toNat+3)+1) 1 { i:=[(k:Int),((s.a.toNat+1:Nat):Int),s.a,s.b,s.c,s.d,s.e,s.f],b:=[],v:=[p,a0l m0 (a0j 0 (s.a.toNat+1) L k (s.a.toNat+1))],m:=a0o m0 (a0j 0 (s.a.toNat+1) L k (s.a.toNat+1)),k:=K } =
    saleroomref07_List_S.loop Φ (fuel+d*(s.a.toNat+3)) 0 { i:=[((k+1:Nat):Int),s.a,s.b,s.c,s.d,s.e,s.f],b:=[],v:=[p,a0l m0 (a0j 0 (s.a.toNat+1) L k (s.a.toNat+1))],m:=a0o m0 (a0j 0 (s.a.toNat+1) L k (s.a.toNat+1)),k:=K }:=by
   generalize a0l m0 (a0j 0 (s.a.toNat+1) L k (s.a.toNat+1))=V1 at *
   rw [Sys.loop,show saleroomref07_List_S.loops[1]?=some a2F from rfl]
   simp -implicitDefEqProofs only [Q0,a2F,↓reduceIte,eq_self,ξ1,ξ2,ξ3,ξ4,ξ5,ξ6,ξ7,ξ8,ξ9,ξa,ξb,ξc,ξd,ξe,ξf,ξg,ξh,Nat.reduceAdd,ξi,if_true,if_false,ξl,ξm,ξn,ξo,ξp,ξq,ξr,ξs,ξt,ξu,ξv,ξw,ξx,ξy,ξz,ξA,ξB,ξC,ξD,ξE,q0,q2,a0v]
  rw [<- hnx,<- hout,<- hin]
  rw [show fuel+(d+1)*(s.a.toNat+3)=fuel+d*(s.a.toNat+3)+1+(s.a.toNat+1)+1 by rw [Qz]; omega]
  have v1:=a2R m0 (a0j 0 (s.a.toNat+1) L k 0)
  generalize a0l m0 (a0j 0 (s.a.toNat+1) L k 0)=V0 at *
  generalize a0o m0 (a0j 0 (s.a.toNat+1) L k 0)=M0 at *
  rw [Sys.loop,show saleroomref07_List_S.loops[0]?=some a2w from rfl]
  simp -implicitDefEqProofs only [Q0,a2w,↓reduceIte,eq_self,ξ1,ξ2,ξ3,ξ4,ξ5,ξ6,ξ7,ξ8,ξ9,ξa,ξb,ξc,ξd,ξe,ξf,ξg,ξh,Nat.reduceAdd,ξi,if_true,if_false,ξl,ξm,ξn,ξo,ξp,ξq,ξr,ξs,ξt,ξu,ξv,ξw,ξx,ξy,ξz,ξA,ξB,ξC,ξD,ξE,h1,h2,q1]
  rfl
theorem c7C (hs:s.Ok) (hh:HoldsL m0 L p) (hL:∀ x∈L,x.length=6) (hl:L.length<=10000):∀ (d k:Nat),k+d=L.length->∀ fuel,
  saleroomref07_List_S.loop Φ (fuel+d*(s.b.toNat+3)) 2 { i:=[(k:Int),s.a,s.b,s.c,s.d,s.e,s.f],b:=[],v:=[p,a0l m0 (a0j 1 (s.b.toNat+1) L k 0)],m:=a0o m0 (a0j 1 (s.b.toNat+1) L k 0),k:=K } =
  saleroomref07_List_S.loop Φ fuel 2 { i:=[(L.length:Int),s.a,s.b,s.c,s.d,s.e,s.f],b:=[],v:=[p,a0l m0 (a1H 1 (s.b.toNat+1) L)],m:=a0o m0 (a1H 1 (s.b.toNat+1) L),k:=K }:=by
 intro d
 induction d with
 | zero =>
  intro k hk fuel
  obtain rfl:k=L.length:=by omega
  rw [a6W _ _ _ _ (Qw _),Qy,Qg]
 | succ d ih =>
  intro k hk fuel
  have hkl:k < L.length:=by omega
  obtain ⟨h1,h2,h3⟩:=a1B hh
  have q1:ltB (k:Int) (L.length:Int)=true:=by simp [ltB]; omega
  have q2:=a2h (i:=k) (by omega)
  have hnx:=ih (k+1) (by omega) fuel
  rw [a5W _ _ _ _ hkl] at hnx
  have hin:=a3R (Φ:=Φ) (S:=saleroomref07_List_S) (q:=5) (fun q=>{ i:=[(k:Int),(q:Int),s.a,s.b,s.c,s.d,s.e,s.f],b:=[],v:=[p,a0l m0 (a0j 1 (s.b.toNat+1) L k q)],m:=a0o m0 (a0j 1 (s.b.toNat+1) L k q),k:=K })
   (c8j (Φ:=Φ) (K:=K) hs hh hL hl hkl) (s.b.toNat+1) 0 (by omega) (fuel+d*(s.b.toNat+3)+1)
  simp only [Bd.Ok] at hs
  have q0:leB ((s.b.toNat:Int)+1) s.b=false:=by simp [leB]; omega
  have hout:saleroomref07_List_S.loop Φ (fuel+d*(s.b.toNat+3)+1) 5 { i:=[(k:Int),((s.b.toNat+1:Nat):Int),s.a,s.b,s.c,s.d,s.e,s.f],b:=[],v:=[p,a0l m0 (a0j 1 (s.b.toNat+1) L k (s.b.toNat+1))],m:=a0o m0 (a0j 1 (s.b.toNat+1) L k (s.b.toNat+1)),k:=K } =
    saleroomref07_List_S.loop Φ (fuel+d*(s.b.toNat+3)) 2 { i:=[((k+1:Nat):Int),s.a,s.b,s.c,s.d,s.e,s.f],b:=[],v:=[p,a0l m0 (a0j 1 (s.b.toNat+1) L k (s.b.toNat+1))],m:=a0o m0 (a0j 1 (s.b.toNat+1) L k (s.b.toNat+1)),k:=K }:=by
   generalize a0l m0 (a0j 1 (s.b.toNat+1) L k (s.b.toNat+1))=V1 at *
   rw [Sys.loop,show saleroomref07_List_S.loops[5]?=some a2r from rfl]
   simp -implicitDefEqProofs only [Q0,a2r,↓reduceIte,eq_self,ξ1,ξ2,ξ3,ξ4,ξ5,ξ6,ξ7,ξ8,ξ9,ξa,ξb,ξc,ξd,ξe,ξf,ξg,ξh,Nat.reduceAdd,ξi,if_true,if_false,ξl,ξm,ξn,ξo,ξp,ξq,ξr,ξs,ξt,ξu,ξv,ξw,ξx,ξy,ξz,ξA,ξB,ξC,ξD,ξE,q0,q2,a0v]
  rw [<- hnx,<- hout,<- hin]
  rw [show fuel+(d+1)*(s.b.toNat+3)=fuel+d*(s.b.toNat+3)+1+(s.b.toNat+1)+1 by rw [Qz]; omega]
  have v1:=a2R m0 (a0j 1 (s.b.toNat+1) L k 0)
  generalize a0l m0 (a0j 1 (s.b.toNat+1) L k 0)=V0 at *
  generalize a0o m0 (a0j 1 (s.b.toNat+1) L k 0)=M0 at *
  rw [Sys.loop,show saleroomref07_List_S.loops[2]?=some a2A from rfl]
  simp -implicitDefEqProofs only [Q0,a2A,↓reduceIte,eq_self,ξ1,ξ2,ξ3,ξ4,ξ5,ξ6,ξ7,ξ8,ξ9,ξa,ξb,ξc,ξd,ξe,ξf,ξg,ξh,Nat.reduceAdd,ξi,if_true,if_false,ξl,ξm,ξn,ξo,ξp,ξq,ξr,ξs,ξt,ξu,ξv,ξw,ξx,ξy,ξz,ξA,ξB,ξC,ξD,ξE,h1,h2,q1]
  rfl
theorem c7M (hs:s.Ok) (hh:HoldsL m0 L p) (hL:∀ x∈L,x.length=6) (hl:L.length<=10000):∀ (d k:Nat),k+d=L.length->∀ fuel,
  saleroomref07_List_S.loop Φ (fuel+d*(s.c.toNat+3)) 3 { i:=[(k:Int),s.a,s.b,s.c,s.d,s.e,s.f],b:=[],v:=[p,a0l m0 (a0j 2 (s.c.toNat+1) L k 0)],m:=a0o m0 (a0j 2 (s.c.toNat+1) L k 0),k:=K } =
  saleroomref07_List_S.loop Φ fuel 3 { i:=[(L.length:Int),s.a,s.b,s.c,s.d,s.e,s.f],b:=[],v:=[p,a0l m0 (a1H 2 (s.c.toNat+1) L)],m:=a0o m0 (a1H 2 (s.c.toNat+1) L),k:=K }:=by
 intro d
 induction d with
 | zero =>
  intro k hk fuel
  obtain rfl:k=L.length:=by omega
  rw [a6W _ _ _ _ (Qw _),Qy,Qg]
 | succ d ih =>
  intro k hk fuel
  have hkl:k < L.length:=by omega
  obtain ⟨h1,h2,h3⟩:=a1B hh
  have q1:ltB (k:Int) (L.length:Int)=true:=by simp [ltB]; omega
  have q2:=a2h (i:=k) (by omega)
  have hnx:=ih (k+1) (by omega) fuel
  rw [a5W _ _ _ _ hkl] at hnx
  have hin:=a3R (Φ:=Φ) (S:=saleroomref07_List_S) (q:=8) (fun q=>{ i:=[(k:Int),(q:Int),s.a,s.b,s.c,s.d,s.e,s.f],b:=[],v:=[p,a0l m0 (a0j 2 (s.c.toNat+1) L k q)],m:=a0o m0 (a0j 2 (s.c.toNat+1) L k q),k:=K })
   (c8m (Φ:=Φ) (K:=K) hs hh hL hl hkl) (s.c.toNat+1) 0 (by omega) (fuel+d*(s.c.toNat+3)+1)
  simp only [Bd.Ok] at hs
  have q0:leB ((s.c.toNat:Int)+1) s.c=false:=by simp [leB]; omega
  have hout:saleroomref07_List_S.loop Φ (fuel+d*(s.c.toNat+3)+1) 8 { i:=[(k:Int),((s.c.toNat+1:Nat):Int),s.a,s.b,s.c,s.d,s.e,s.f],b:=[],v:=[p,a0l m0 (a0j 2 (s.c.toNat+1) L k (s.c.toNat+1))],m:=a0o m0 (a0j 2 (s.c.toNat+1) L k (s.c.toNat+1)),k:=K } =
    saleroomref07_List_S.loop Φ (fuel+d*(s.c.toNat+3)) 3 { i:=[((k+1:Nat):Int),s.a,s.b,s.c,s.d,s.e,s.f],b:=[],v:=[p,a0l m0 (a0j 2 (s.c.toNat+1) L k (s.c.toNat+1))],m:=a0o m0 (a0j 2 (s.c.toNat+1) L k (s.c.toNat+1)),k:=K }:=by
   generalize a0l m0 (a0j 2 (s.c.toNat+1) L k (s.c.toNat+1))=V1 at *
   rw [Sys.loop,show saleroomref07_List_S.loops[8]?=some a2E from rfl]
   simp -implicitDefEqProofs only [Q0,a2E,↓reduceIte,eq_self,ξ1,ξ2,ξ3,ξ4,ξ5,ξ6,ξ7,ξ8,ξ9,ξa,ξb,ξc,ξd,ξe,ξf,ξg,ξh,Nat.reduceAdd,ξi,if_true,if_false,ξl,ξm,ξn,ξo,ξp,ξq,ξr,ξs,ξt,ξu,ξv,ξw,ξx,ξy,ξz,ξA,ξB,ξC,ξD,ξE,q0,q2,a0v]
  rw [<- hnx,<- hout,<- hin]
  rw [show fuel+(d+1)*(s.c.toNat+3)=fuel+d*(s.c.toNat+3)+1+(s.c.toNat+1)+1 by rw [Qz]; omega]
  have v1:=a2R m0 (a0j 2 (s.c.toNat+1) L k 0)
  generalize a0l m0 (a0j 2 (s.c.toNat+1) L k 0)=V0 at *
  generalize a0o m0 (a0j 2 (s.c.toNat+1) L k 0)=M0 at *
  rw [Sys.loop,show saleroomref07_List_S.loops[3]?=some a2s from rfl]
  simp -implicitDefEqProofs only [Q0,a2s,↓reduceIte,eq_self,ξ1,ξ2,ξ3,ξ4,ξ5,ξ6,ξ7,ξ8,ξ9,ξa,ξb,ξc,ξd,ξe,ξf,ξg,ξh,Nat.reduceAdd,ξi,if_true,if_false,ξl,ξm,ξn,ξo,ξp,ξq,ξr,ξs,ξt,ξu,ξv,ξw,ξx,ξy,ξz,ξA,ξB,ξC,ξD,ξE,h1,h2,q1]
  rfl
theorem c8k (hs:s.Ok) (hh:HoldsL m0 L p) (hL:∀ x∈L,x.length=6) (hl:L.length<=10000):∀ (d k:Nat),k+d=L.length->∀ fuel,
  saleroomref07_List_S.loop Φ (fuel+d*(s.d.toNat+3)) 4 { i:=[(k:Int),s.a,s.b,s.c,s.d,s.e,s.f],b:=[],v:=[p,a0l m0 (a0j 3 (s.d.toNat+1) L k 0)],m:=a0o m0 (a0j 3 (s.d.toNat+1) L k 0),k:=K } =
  saleroomref07_List_S.loop Φ fuel 4 { i:=[(L.length:Int),s.a,s.b,s.c,s.d,s.e,s.f],b:=[],v:=[p,a0l m0 (a1H 3 (s.d.toNat+1) L)],m:=a0o m0 (a1H 3 (s.d.toNat+1) L),k:=K }:=by
 intro d
 induction d with
 | zero =>
  intro k hk fuel
  obtain rfl:k=L.length:=by omega
  rw [a6W _ _ _ _ (Qw _),Qy,Qg]
 | succ d ih =>
  intro k hk fuel
  have hkl:k < L.length:=by omega
  obtain ⟨h1,h2,h3⟩:=a1B hh
  have q1:ltB (k:Int) (L.length:Int)=true:=by simp [ltB]; omega
  have q2:=a2h (i:=k) (by omega)
  have hnx:=ih (k+1) (by omega) fuel
  rw [a5W _ _ _ _ hkl] at hnx
  have hin:=a3R (Φ:=Φ) (S:=saleroomref07_List_S) (q:=9) (fun q=>{ i:=[(k:Int),(q:Int),s.a,s.b,s.c,s.d,s.e,s.f],b:=[],v:=[p,a0l m0 (a0j 3 (s.d.toNat+1) L k q)],m:=a0o m0 (a0j 3 (s.d.toNat+1) L k q),k:=K })
   (c7n (Φ:=Φ) (K:=K) hs hh hL hl hkl) (s.d.toNat+1) 0 (by omega) (fuel+d*(s.d.toNat+3)+1)
  simp only [Bd.Ok] at hs
  have q0:leB ((s.d.toNat:Int)+1) s.d=false:=by simp [leB]; omega
  have hout:saleroomref07_List_S.loop Φ (fuel+d*(s.d.toNat+3)+1) 9 { i:=[(k:Int),((s.d.toNat+1:Nat):Int),s.a,s.b,s.c,s.d,s.e,s.f],b:=[],v:=[p,a0l m0 (a0j 3 (s.d.toNat+1) L k (s.d.toNat+1))],m:=a0o m0 (a0j 3 (s.d.toNat+1) L k (s.d.toNat+1)),k:=K } =
    saleroomref07_List_S.loop Φ (fuel+d*(s.d.toNat+3)) 4 { i:=[((k+1:Nat):Int),s.a,s.b,s.c,s.d,s.e,s.f],b:=[],v:=[p,a0l m0 (a0j 3 (s.d.toNat+1) L k (s.d.toNat+1))],m:=a0o m0 (a0j 3 (s.d.toNat+1) L k (s.d.toNat+1)),k:=K }:=by
   generalize a0l m0 (a0j 3 (s.d.toNat+1) L k (s.d.toNat+1))=V1 at *
   rw [Sys.loop,show saleroomref07_List_S.loops[9]?=some a2B from rfl]
   simp -implicitDefEqProofs only [Q0,a2B,↓reduceIte,eq_self,ξ1,ξ2,ξ3,ξ4,ξ5,ξ6,ξ7,ξ8,ξ9,ξa,ξb,ξc,ξd,ξe,ξf,ξg,ξh,Nat.reduceAdd,ξi,if_true,if_false,ξl,ξm,ξn,ξo,ξp,ξq,ξr,ξs,ξt,ξu,ξv,ξw,ξx,ξy,ξz,ξA,ξB,ξC,ξD,ξE,q0,q2,a0v]
  rw [<- hnx,<- hout,<- hin]
  rw [show fuel+(d+1)*(s.d.toNat+3)=fuel+d*(s.d.toNat+3)+1+(s.d.toNat+1)+1 by rw [Qz]; omega]
  have v1:=a2R m0 (a0j 3 (s.d.toNat+1) L k 0)
  generalize a0l m0 (a0j 3 (s.d.toNat+1) L k 0)=V0 at *
  generalize a0o m0 (a0j 3 (s.d.toNat+1) L k 0)=M0 at *
  rw [Sys.loop,show saleroomref07_List_S.loops[4]?=some a2t from rfl]
  simp -implicitDefEqProofs only [Q0,a2t,↓reduceIte,eq_self,ξ1,ξ2,ξ3,ξ4,ξ5,ξ6,ξ7,ξ8,ξ9,ξa,ξb,ξc,ξd,ξe,ξf,ξg,ξh,Nat.reduceAdd,ξi,if_true,if_false,ξl,ξm,ξn,ξo,ξp,ξq,ξr,ξs,ξt,ξu,ξv,ξw,ξx,ξy,ξz,ξA,ξB,ξC,ξD,ξE,h1,h2,q1]
  rfl
theorem c8l (hs:s.Ok) (hh:HoldsL m0 L p) (hL:∀ x∈L,x.length=6) (hl:L.length<=10000):∀ (d k:Nat),k+d=L.length->∀ fuel,
  saleroomref07_List_S.loop Φ (fuel+d*(s.e.toNat+3)) 6 { i:=[(k:Int),s.a,s.b,s.c,s.d,s.e,s.f],b:=[],v:=[p,a0l m0 (a0j 4 (s.e.toNat+1) L k 0)],m:=a0o m0 (a0j 4 (s.e.toNat+1) L k 0),k:=K } =
  saleroomref07_List_S.loop Φ fuel 6 { i:=[(L.length:Int),s.a,s.b,s.c,s.d,s.e,s.f],b:=[],v:=[p,a0l m0 (a1H 4 (s.e.toNat+1) L)],m:=a0o m0 (a1H 4 (s.e.toNat+1) L),k:=K }:=by
 intro d
 induction d with
 | zero =>
  intro k hk fuel
  obtain rfl:k=L.length:=by omega
  rw [a6W _ _ _ _ (Qw _),Qy,Qg]
 | succ d ih =>
  intro k hk fuel
  have hkl:k < L.length:=by omega
  obtain ⟨h1,h2,h3⟩:=a1B hh
  have q1:ltB (k:Int) (L.length:Int)=true:=by simp [ltB]; omega
  have q2:=a2h (i:=k) (by omega)
  have hnx:=ih (k+1) (by omega) fuel
  rw [a5W _ _ _ _ hkl] at hnx
  have hin:=a3R (Φ:=Φ) (S:=saleroomref07_List_S) (q:=10) (fun q=>{ i:=[(k:Int),(q:Int),s.a,s.b,s.c,s.d,s.e,s.f],b:=[],v:=[p,a0l m0 (a0j 4 (s.e.toNat+1) L k q)],m:=a0o m0 (a0j 4 (s.e.toNat+1) L k q),k:=K })
   (c7a (Φ:=Φ) (K:=K) hs hh hL hl hkl) (s.e.toNat+1) 0 (by omega) (fuel+d*(s.e.toNat+3)+1)
  simp only [Bd.Ok] at hs
  have q0:leB ((s.e.toNat:Int)+1) s.e=false:=by simp [leB]; omega
  have hout:saleroomref07_List_S.loop Φ (fuel+d*(s.e.toNat+3)+1) 10 { i:=[(k:Int),((s.e.toNat+1:Nat):Int),s.a,s.b,s.c,s.d,s.e,s.f],b:=[],v:=[p,a0l m0 (a0j 4 (s.e.toNat+1) L k (s.e.toNat+1))],m:=a0o m0 (a0j 4 (s.e.toNat+1) L k (s.e.toNat+1)),k:=K } =
    saleroomref07_List_S.loop Φ (fuel+d*(s.e.toNat+3)) 6 { i:=[((k+1:Nat):Int),s.a,s.b,s.c,s.d,s.e,s.f],b:=[],v:=[p,a0l m0 (a0j 4 (s.e.toNat+1) L k (s.e.toNat+1))],m:=a0o m0 (a0j 4 (s.e.toNat+1) L k (s.e.toNat+1)),k:=K }:=by
   generalize a0l m0 (a0j 4 (s.e.toNat+1) L k (s.e.toNat+1))=V1 at *
   rw [Sys.loop,show saleroomref07_List_S.loops[10]?=some a2m from rfl]
   simp -implicitDefEqProofs only [Q0,a2m,↓reduceIte,eq_self,ξ1,ξ2,ξ3,ξ4,ξ5,ξ6,ξ7,ξ8,ξ9,ξa,ξb,ξc,ξd,ξe,ξf,ξg,ξh,Nat.reduceAdd,ξi,if_true,if_false,ξl,ξm,ξn,ξo,ξp,ξq,ξr,ξs,ξt,ξu,ξv,ξw,ξx,ξy,ξz,ξA,ξB,ξC,ξD,ξE,q0,q2,a0v]
  rw [<- hnx,<- hout,<- hin]
  rw [show fuel+(d+1)*(s.e.toNat+3)=fuel+d*(s.e.toNat+3)+1+(s.e.toNat+1)+1 by rw [Qz]; omega]
  have v1:=a2R m0 (a0j 4 (s.e.toNat+1) L k 0)
  generalize a0l m0 (a0j 4 (s.e.toNat+1) L k 0)=V0 at *
  generalize a0o m0 (a0j 4 (s.e.toNat+1) L k 0)=M0 at *
  rw [Sys.loop,show saleroomref07_List_S.loops[6]?=some a2u from rfl]
  simp -implicitDefEqProofs only [Q0,a2u,↓reduceIte,eq_self,ξ1,ξ2,ξ3,ξ4,ξ5,ξ6,ξ7,ξ8,ξ9,ξa,ξb,ξc,ξd,ξe,ξf,ξg,ξh,Nat.reduceAdd,ξi,if_true,if_false,ξl,ξm,ξn,ξo,ξp,ξq,ξr,ξs,ξt,ξu,ξv,ξw,ξx,ξy,ξz,ξA,ξB,ξC,ξD,ξE,h1,h2,q1]
  rfl
theorem c8r (hs:s.Ok) (hh:HoldsL m0 L p) (hL:∀ x∈L,x.length=6) (hl:L.length<=10000):∀ (d k:Nat),k+d=L.length->∀ fuel,
  saleroomref07_List_S.loop Φ (fuel+d*(s.f.toNat+3)) 7 { i:=[(k:Int),s.a,s.b,s.c,s.d,s.e,s.f],b:=[],v:=[p,a0l m0 (a0j 5 (s.f.toNat+1) L k 0)],m:=a0o m0 (a0j 5 (s.f.toNat+1) L k 0),k:=K } =
  saleroomref07_List_S.loop Φ fuel 7 { i:=[(L.length:Int),s.a,s.b,s.c,s.d,s.e,s.f],b:=[],v:=[p,a0l m0 (a1H 5 (s.f.toNat+1) L)],m:=a0o m0 (a1H 5 (s.f.toNat+1) L),k:=K }:=by
 intro d
 induction d with
 | zero =>
  intro k hk fuel
  obtain rfl:k=L.length:=by omega
  rw [a6W _ _ _ _ (Qw _),Qy,Qg]
 | succ d ih =>
  intro k hk fuel
  have hkl:k < L.length:=by omega
  obtain ⟨h1,h2,h3⟩:=a1B hh
  have q1:ltB (k:Int) (L.length:Int)=true:=by simp [ltB]; omega
  have q2:=a2h (i:=k) (by omega)
  have hnx:=ih (k+1) (by omega) fuel
  rw [a5W _ _ _ _ hkl] at hnx
  have hin:=a3R (Φ:=Φ) (S:=saleroomref07_List_S) (q:=11) (fun q=>{ i:=[(k:Int),(q:Int),s.a,s.b,s.c,s.d,s.e,s.f],b:=[],v:=[p,a0l m0 (a0j 5 (s.f.toNat+1) L k q)],m:=a0o m0 (a0j 5 (s.f.toNat+1) L k q),k:=K })
   (c7e (Φ:=Φ) (K:=K) hs hh hL hl hkl) (s.f.toNat+1) 0 (by omega) (fuel+d*(s.f.toNat+3)+1)
  simp only [Bd.Ok] at hs
  have q0:leB ((s.f.toNat:Int)+1) s.f=false:=by simp [leB]; omega
  have hout:saleroomref07_List_S.loop Φ (fuel+d*(s.f.toNat+3)+1) 11 { i:=[(k:Int),((s.f.toNat+1:Nat):Int),s.a,s.b,s.c,s.d,s.e,s.f],b:=[],v:=[p,a0l m0 (a0j 5 (s.f.toNat+1) L k (s.f.toNat+1))],m:=a0o m0 (a0j 5 (s.f.toNat+1) L k (s.f.toNat+1)),k:=K } =
    saleroomref07_List_S.loop Φ (fuel+d*(s.f.toNat+3)) 7 { i:=[((k+1:Nat):Int),s.a,s.b,s.c,s.d,s.e,s.f],b:=[],v:=[p,a0l m0 (a0j 5 (s.f.toNat+1) L k (s.f.toNat+1))],m:=a0o m0 (a0j 5 (s.f.toNat+1) L k (s.f.toNat+1)),k:=K }:=by
   generalize a0l m0 (a0j 5 (s.f.toNat+1) L k (s.f.toNat+1))=V1 at *
   rw [Sys.loop,show saleroomref07_List_S.loops[11]?=some a2l from rfl]
   simp -implicitDefEqProofs only [Q0,a2l,↓reduceIte,eq_self,ξ1,ξ2,ξ3,ξ4,ξ5,ξ6,ξ7,ξ8,ξ9,ξa,ξb,ξc,ξd,ξe,ξf,ξg,ξh,Nat.reduceAdd,ξi,if_true,if_false,ξl,ξm,ξn,ξo,ξp,ξq,ξr,ξs,ξt,ξu,ξv,ξw,ξx,ξy,ξz,ξA,ξB,ξC,ξD,ξE,q0,q2,a0v]
  rw [<- hnx,<- hout,<- hin]
  rw [show fuel+(d+1)*(s.f.toNat+3)=fuel+d*(s.f.toNat+3)+1+(s.f.toNat+1)+1 by rw [Qz]; omega]
  have v1:=a2R m0 (a0j 5 (s.f.toNat+1) L k 0)
  generalize a0l m0 (a0j 5 (s.f.toNat+1) L k 0)=V0 at *
  generalize a0o m0 (a0j 5 (s.f.toNat+1) L k 0)=M0 at *
  rw [Sys.loop,show saleroomref07_List_S.loops[7]?=some a2z from rfl]
  simp -implicitDefEqProofs only [Q0,a2z,↓reduceIte,eq_self,ξ1,ξ2,ξ3,ξ4,ξ5,ξ6,ξ7,ξ8,ξ9,ξa,ξb,ξc,ξd,ξe,ξf,ξg,ξh,Nat.reduceAdd,ξi,if_true,if_false,ξl,ξm,ξn,ξo,ξp,ξq,ξr,ξs,ξt,ξu,ξv,ξw,ξx,ξy,ξz,ξA,ξB,ξC,ξD,ξE,h1,h2,q1]
  rfl
theorem c8W (hh:HoldsL m0 L p) {V:PV} {M:List MO} (fuel:Nat) :
  saleroomref07_List_S.loop Φ (fuel+1) 0 { i:=[(L.length:Int),s.a,s.b,s.c,s.d,s.e,s.f],b:=[],v:=[p,V],m:=M,k:=K } =
  saleroomref07_List_S.loop Φ fuel 2 { i:=[((0:Nat):Int),s.a,s.b,s.c,s.d,s.e,s.f],b:=[],v:=[V,.nilS],m:=M,k:=K }:=by
 obtain ⟨h1,h2,h3⟩:=a1B hh
 have q1:ltB (L.length:Int) (L.length:Int)=false:=by simp [ltB]
 rw [Sys.loop,show saleroomref07_List_S.loops[0]?=some a2w from rfl]
 simp -implicitDefEqProofs only [Q0,a2w,↓reduceIte,eq_self,ξ1,ξ2,ξ3,ξ4,ξ5,ξ6,ξ7,ξ8,ξ9,ξa,ξb,ξc,ξd,ξe,ξf,ξg,ξh,Nat.reduceAdd,ξi,if_true,if_false,ξl,ξm,ξn,ξo,ξp,ξq,ξr,ξs,ξt,ξu,ξv,ξw,ξx,ξy,ξz,ξA,ξB,ξC,ξD,ξE,h1,h2,q1]
 rfl
theorem c9Q (hh:HoldsL m0 L p) {V:PV} {M:List MO} (fuel:Nat) :
  saleroomref07_List_S.loop Φ (fuel+1) 2 { i:=[(L.length:Int),s.a,s.b,s.c,s.d,s.e,s.f],b:=[],v:=[p,V],m:=M,k:=K } =
  saleroomref07_List_S.loop Φ fuel 3 { i:=[((0:Nat):Int),s.a,s.b,s.c,s.d,s.e,s.f],b:=[],v:=[V,.nilS],m:=M,k:=K }:=by
 obtain ⟨h1,h2,h3⟩:=a1B hh
 have q1:ltB (L.length:Int) (L.length:Int)=false:=by simp [ltB]
 rw [Sys.loop,show saleroomref07_List_S.loops[2]?=some a2A from rfl]
 simp -implicitDefEqProofs only [Q0,a2A,↓reduceIte,eq_self,ξ1,ξ2,ξ3,ξ4,ξ5,ξ6,ξ7,ξ8,ξ9,ξa,ξb,ξc,ξd,ξe,ξf,ξg,ξh,Nat.reduceAdd,ξi,if_true,if_false,ξl,ξm,ξn,ξo,ξp,ξq,ξr,ξs,ξt,ξu,ξv,ξw,ξx,ξy,ξz,ξA,ξB,ξC,ξD,ξE,h1,h2,q1]
 rfl
theorem c9S (hh:HoldsL m0 L p) {V:PV} {M:List MO} (fuel:Nat) :
  saleroomref07_List_S.loop Φ (fuel+1) 3 { i:=[(L.length:Int),s.a,s.b,s.c,s.d,s.e,s.f],b:=[],v:=[p,V],m:=M,k:=K } =
  saleroomref07_List_S.loop Φ fuel 4 { i:=[((0:Nat):Int),s.a,s.b,s.c,s.d,s.e,s.f],b:=[],v:=[V,.nilS],m:=M,k:=K }:=by
 obtain ⟨h1,h2,h3⟩:=a1B hh
 have q1:ltB (L.length:Int) (L.length:Int)=false:=by simp [ltB]
 rw [Sys.loop,show saleroomref07_List_S.loops[3]?=some a2s from rfl]
 simp -implicitDefEqProofs only [Q0,a2s,↓reduceIte,eq_self,ξ1,ξ2,ξ3,ξ4,ξ5,ξ6,ξ7,ξ8,ξ9,ξa,ξb,ξc,ξd,ξe,ξf,ξg,ξh,Nat.reduceAdd,ξi,if_true,if_false,ξl,ξm,ξn,ξo,ξp,ξq,ξr,ξs,ξt,ξu,ξv,ξw,ξx,ξy,ξz,ξA,ξB,ξC,ξD,ξE,h1,h2,q1]
 rfl
theorem c8U (hh:HoldsL m0 L p) {V:PV} {M:List MO} (fuel:Nat) :
  saleroomref07_List_S.loop Φ (fuel+1) 4 { i:=[(L.length:Int),s.a,s.b,s.c,s.d,s.e,s.f],b:=[],v:=[p,V],m:=M,k:=K } =
  saleroomref07_List_S.loop Φ fuel 6 { i:=[((0:Nat):Int),s.a,s.b,s.c,s.d,s.e,s.f],b:=[],v:=[V,.nilS],m:=M,k:=K }:=by
 obtain ⟨h1,h2,h3⟩:=a1B hh
 have q1:ltB (L.length:Int) (L.length:Int)=false:=by simp [ltB]
 rw [Sys.loop,show saleroomref07_List_S.loops[4]?=some a2t from rfl]
 simp -implicitDefEqProofs only [Q0,a2t,↓reduceIte,eq_self,ξ1,ξ2,ξ3,ξ4,ξ5,ξ6,ξ7,ξ8,ξ9,ξa,ξb,ξc,ξd,ξe,ξf,ξg,ξh,Nat.reduceAdd,ξi,if_true,if_false,ξl,ξm,ξn,ξo,ξp,ξq,ξr,ξs,ξt,ξu,ξv,ξw,ξx,ξy,ξz,ξA,ξB,ξC,ξD,ξE,h1,h2,q1]
 rfl
theorem c9x (hh:HoldsL m0 L p) {V:PV} {M:List MO} (fuel:Nat) :
  saleroomref07_List_S.loop Φ (fuel+1) 6 { i:=[(L.length:Int),s.a,s.b,s.c,s.d,s.e,s.f],b:=[],v:=[p,V],m:=M,k:=K } =
  saleroomref07_List_S.loop Φ fuel 7 { i:=[((0:Nat):Int),s.a,s.b,s.c,s.d,s.e,s.f],b:=[],v:=[V,.nilS],m:=M,k:=K }:=by
 obtain ⟨h1,h2,h3⟩:=a1B hh
 have q1:ltB (L.length:Int) (L.length:Int)=false:=by simp [ltB]
 rw [Sys.loop,show saleroomref07_List_S.loops[6]?=some a2u from rfl]
 simp -implicitDefEqProofs only [Q0,a2u,↓reduceIte,eq_self,ξ1,ξ2,ξ3,ξ4,ξ5,ξ6,ξ7,ξ8,ξ9,ξa,ξb,ξc,ξd,ξe,ξf,ξg,ξh,Nat.reduceAdd,ξi,if_true,if_false,ξl,ξm,ξn,ξo,ξp,ξq,ξr,ξs,ξt,ξu,ξv,ξw,ξx,ξy,ξz,ξA,ξB,ξC,ξD,ξE,h1,h2,q1]
 rfl
theorem c8N (hh:HoldsL m0 L p) {V:PV} {M:List MO} {r:PV × List MO} (hr:∀ ρ:PEnv,ρ.m=M->ρ.k=K->a0k ρ false V=some r) (fuel:Nat) :
  saleroomref07_List_S.loop Φ (fuel+1) 7 { i:=[(L.length:Int),s.a,s.b,s.c,s.d,s.e,s.f],b:=[],v:=[p,V],m:=M,k:=K }=some r:=by
 obtain ⟨h1,h2,h3⟩:=a1B hh
 have q1:ltB (L.length:Int) (L.length:Int)=false:=by simp [ltB]
 rw [Sys.loop,show saleroomref07_List_S.loops[7]?=some a2z from rfl]
 simp -implicitDefEqProofs only [Q0,a2z,↓reduceIte,eq_self,ξ1,ξ2,ξ3,ξ4,ξ5,ξ6,ξ7,ξ8,ξ9,ξa,ξb,ξc,ξd,ξe,ξf,ξg,ξh,Nat.reduceAdd,ξi,if_true,if_false,ξl,ξm,ξn,ξo,ξp,ξq,ξr,ξs,ξt,ξu,ξv,ξw,ξx,ξy,ξz,ξA,ξB,ξC,ξD,ξE,h1,h2,q1,hr]
theorem a8e (m0:List MO) (R:List (List Int)):∃ g,a0o m0 R=m0++g:=by
 cases R with
 | nil=>exact ⟨[],by simp [a0o]⟩
 | cons x R=>exact ⟨_,rfl⟩
end
theorem c3t (m0:List MO) (i m:Nat) (L:List (List Int)):a0l m0 (a0j i m L 0 0)=.nilS/\a0o m0 (a0j i m L 0 0)=m0:=by rw [c4W]; exact ⟨rfl,rfl⟩
theorem b9H (k:Nat):∀ L:List (List Int),PV.lowss k (a2b L)=true
 | []=>rfl
 | x::L=>by
  have:=b9H k L
  have h1:=b6U k x
  simp only [a2b,Q3,PV.lowss,QH] at *
  exact ⟨h1,this⟩
theorem c9P (s:Bd) (hc:s.cnt≠0) {σ:List MO} (hlow:σ.all (MO.low σ.length)=true) (n:Nat) (hn:100000<=n):a0e Tab n 36 [.agg (bpv s)] σ=some (.sl 6 (a2b (Lk s 6)),σ):=by
 obtain ⟨n,rfl⟩:∃ m,n=m+3:=⟨n-3,by omega⟩
 have hs:=Bd.ok_of_cnt hc
 have hcn:=a4a s σ n
 have hq:eqB s.cnt 0=false:=eqF hc
 have hlen:=fun i=>c8F s hs i
 have hpos:=fun i=>c1T s i
 have hmem:=fun i=>c6o s i
 have hne:∀ i,Lk s i≠[]:=fun i h=>by have:=hpos i; rw [h] at this; simp at this
 have hst:∀ i,Lk s (i+1)=a1H i ((s.l.getD i 0).toNat+1) (Lk s i):=fun i=>rfl
 have e0:Lk s 1=a1H 0 (s.a.toNat+1) (Lk s 0):=rfl
 have e1:Lk s 2=a1H 1 (s.b.toNat+1) (Lk s 1):=rfl
 have e2:Lk s 3=a1H 2 (s.c.toNat+1) (Lk s 2):=rfl
 have e3:Lk s 4=a1H 3 (s.d.toNat+1) (Lk s 3):=rfl
 have e4:Lk s 5=a1H 4 (s.e.toNat+1) (Lk s 4):=rfl
 have e5:Lk s 6=a1H 5 (s.f.toNat+1) (Lk s 5):=rfl
 have l0:(Lk s 0).length<=1:=hlen 0
 have l1:(Lk s 1).length<=5:=hlen 1
 have l2:(Lk s 2).length<=25:=hlen 2
 have l3:(Lk s 3).length<=125:=hlen 3
 have l4:(Lk s 4).length<=625:=hlen 4
 have l5:(Lk s 5).length<=3125:=hlen 5
 obtain ⟨m1,hm1⟩:∃ m,m=a0o σ (Lk s 1):=⟨_,rfl⟩
 obtain ⟨m2,hm2⟩:∃ m,m=a0o m1 (Lk s 2):=⟨_,rfl⟩
 obtain ⟨m3,hm3⟩:∃ m,m=a0o m2 (Lk s 3):=⟨_,rfl⟩
 obtain ⟨m4,hm4⟩:∃ m,m=a0o m3 (Lk s 4):=⟨_,rfl⟩
 obtain ⟨m5,hm5⟩:∃ m,m=a0o m4 (Lk s 5):=⟨_,rfl⟩
 have H0:HoldsL σ (Lk s 0) (.sl 6 (a2b (Lk s 0))):=.sl
 have H1:HoldsL m1 (Lk s 1) (a0l σ (Lk s 1)):=hm1▸a6q σ (hne 1)
 have H2:HoldsL m2 (Lk s 2) (a0l m1 (Lk s 2)):=hm2▸a6q m1 (hne 2)
 have H3:HoldsL m3 (Lk s 3) (a0l m2 (Lk s 3)):=hm3▸a6q m2 (hne 3)
 have H4:HoldsL m4 (Lk s 4) (a0l m3 (Lk s 4)):=hm4▸a6q m3 (hne 4)
 have H5:HoldsL m5 (Lk s 5) (a0l m4 (Lk s 5)):=hm5▸a6q m4 (hne 5)
 obtain ⟨g,hg⟩:∃ g,m5=σ++g:=by
  obtain ⟨g1,h1⟩:=a8e σ (Lk s 1)
  obtain ⟨g2,h2⟩:=a8e m1 (Lk s 2)
  obtain ⟨g3,h3⟩:=a8e m2 (Lk s 3)
  obtain ⟨g4,h4⟩:=a8e m3 (Lk s 4)
  obtain ⟨g5,h5⟩:=a8e m4 (Lk s 5)
  exact ⟨g1++(g2++(g3++(g4++g5))),by rw [hm5,h5,hm4,h4,hm3,h3,hm2,h2,hm1,h1]; simp⟩
 have hret:∀ ρ:PEnv,ρ.m=a0o m5 (Lk s 6)->ρ.k=σ.length->a0k ρ false (a0l m5 (Lk s 6))=some (.sl 6 (a2b (Lk s 6)),σ):=by
  intro ρ r1 r2
  have h6:=hne 6
  cases h:Lk s 6 with
  | nil=>exact absurd h h6
  | cons y R =>
   rw [h] at r1
   simp only [a0o] at r1
   unfold a0k
   rw [r1,r2,hg]
   rw [if_neg (by simp),show List.take σ.length (σ++g++[MO.row (a2b (y::R)) 6 23])=σ by rw [List.append_assoc,QM],if_pos hlow]
   simp only [a0l,PV.frz]
   rw [if_neg (by rw [QJ]; omega)]
   have hlk:a5V ρ 3 (σ++g).length=some (.row (a2b (y::R)) 6 23):=by
    have h0:ρ.m[(σ++g).length]?=some (.row (a2b (y::R)) 6 23):=by rw [r1,hg]; exact b5O _ _ _
    simp only [a5V,h0,Q0]
    rw [PV.frzss_low (a2b (y::R)) (b9H _ _) (fun l hl=>by
     obtain ⟨z,_,rfl⟩:=QB.1 hl
     exact QE.2 fun p hp=>by obtain ⟨w,_,rfl⟩:=QB.1 hp; rfl)]
    rfl
   rw [hlk]
   simp only [Q0,MO.elts,a8p,and_self,if_true,Q1]
 have hf:∀ (x:Nat) (z:Int),0<=z/\z<=4->x*(z.toNat+3)<=x*7:=fun x z hz=>Nat.mul_le_mul_left x (by omega)
 have hs':=hs
 simp only [Bd.Ok] at hs'
 have f0:=hf (Lk s 0).length s.a hs'.1
 have f1:=hf (Lk s 1).length s.b hs'.2.1
 have f2:=hf (Lk s 2).length s.c hs'.2.2.1
 have f3:=hf (Lk s 3).length s.d hs'.2.2.2.1
 have f4:=hf (Lk s 4).length s.e hs'.2.2.2.2.1
 have f5:=hf (Lk s 5).length s.f hs'.2.2.2.2.2
 obtain ⟨F,hF⟩:∃ F,n+2=F+1+(Lk s 5).length*(s.f.toNat+3)+1+(Lk s 4).length*(s.e.toNat+3)+1+(Lk s 3).length*(s.d.toNat+3)+1+(Lk s 2).length*(s.c.toNat+3)+1+(Lk s 1).length*(s.b.toNat+3)+1+(Lk s 0).length*(s.a.toNat+3) :=
  ⟨n+2-(1+(Lk s 5).length*(s.f.toNat+3)+1+(Lk s 4).length*(s.e.toNat+3)+1+(Lk s 3).length*(s.d.toNat+3)+1+(Lk s 2).length*(s.c.toNat+3)+1+(Lk s 1).length*(s.b.toNat+3)+1+(Lk s 0).length*(s.a.toNat+3)),by omega⟩
 have s0:=c7p (Φ:=a0e Tab (n+2)) (K:=σ.length) hs H0 (hmem 0) (by omega) (Lk s 0).length 0 (by omega)
 have s1:=c7C (Φ:=a0e Tab (n+2)) (K:=σ.length) hs H1 (hmem 1) (by omega) (Lk s 1).length 0 (by omega)
 have s2:=c7M (Φ:=a0e Tab (n+2)) (K:=σ.length) hs H2 (hmem 2) (by omega) (Lk s 2).length 0 (by omega)
 have s3:=c8k (Φ:=a0e Tab (n+2)) (K:=σ.length) hs H3 (hmem 3) (by omega) (Lk s 3).length 0 (by omega)
 have s4:=c8l (Φ:=a0e Tab (n+2)) (K:=σ.length) hs H4 (hmem 4) (by omega) (Lk s 4).length 0 (by omega)
 have s5:=c8r (Φ:=a0e Tab (n+2)) (K:=σ.length) hs H5 (hmem 5) (by omega) (Lk s 5).length 0 (by omega)
 simp only [(c3t _ _ _ _).1,(c3t _ _ _ _).2,<- e0,<- e1,<- e2,<- e3,<- e4,<- e5,<- hm1,<- hm2,<- hm3,<- hm4,<- hm5] at s0 s1 s2 s3 s4 s5
 have hrun:saleroomref07_List_S.loop (a0e Tab (n+2)) (n+2) 0 { i:=[((0:Nat):Int),s.a,s.b,s.c,s.d,s.e,s.f],b:=[],v:=[.sl 6 (a2b (Lk s 0)),.nilS],m:=σ,k:=σ.length }=some (.sl 6 (a2b (Lk s 6)),σ):=by
  generalize a0e Tab (n+2)=Φ at *
  rw [hF,s0,c8W H0,s1,c9Q H1,s2,c9S H2,s3,c8U H3,s4,c9x H4,s5]
  exact c8N H5 hret F
 obtain ⟨a,b,c,d,e,f⟩:=s
 simp only [bpv] at hcn ⊢
 rw [a0e,b1k]
 simp only [Q0,Sys.run]
 show ((a0i [.sh (.agg [_,_,_,_,_,_])] _).bind _)=_
 simp only [a0i,a0d,a0c,Q1,Q0,Q4,Q5,Q2,if_true]
 show (PT.ev _ a4R _).bind _=_
 refine Eq.trans ?_ hrun
 simp -implicitDefEqProofs only [a4R,↓reduceIte,eq_self,ξ1,ξ2,ξ3,ξ4,ξ5,ξ6,ξ7,ξ8,ξ9,ξa,ξb,ξc,ξd,ξe,ξf,ξg,ξh,Nat.reduceAdd,ξi,if_true,if_false,ξl,ξm,ξn,ξo,ξp,ξq,ξr,ξs,ξt,ξu,ξv,ξw,ξx,ξy,ξz,ξA,ξB,ξC,ξD,ξE,a1x,Qh,Qj,Qk,Qm,Qn,Qp,hcn,hq,Nat.reduceLeDiff,Qd]
 rfl
end Go.Proofs.Ythmkfeiapdbojaa
set_option maxRecDepth 100000
namespace Go.Proofs.Ythmkfeiapdbojaa
open Go.Sx Go.Kv Go.Bun
def mmO (σ:List MO) (t:List Int) (i:Int) (ok:Bool):List MO:=σ++[.cells [.sl 1 (a0P t)] 37,.cells [.int .i64 i] 3,.cells [.bool ok] 4]
section
variable {σ:List MO} {t:List Int} {s:Bd}
theorem c3a (i:Int) (ok:Bool):(mmO σ t i ok).length=σ.length+3:=by simp [mmO]
theorem d1d (i:Int) (ok:Bool):(mmO σ t i ok)[σ.length]?=some (.cells [.sl 1 (a0P t)] 37):=b5O _ _ _
theorem c4r (i:Int) (ok:Bool):(mmO σ t i ok)[σ.length+1]?=some (.cells [.int .i64 i] 3):=b6D rfl
theorem c5q (i:Int) (ok:Bool):(mmO σ t i ok)[σ.length+2]?=some (.cells [.bool ok] 4):=b6D rfl
theorem c6N (i i':Int) (ok:Bool):(mmO σ t i ok).set (σ.length+1) (.cells [.int .i64 i'] 3)=mmO σ t i' ok:=a8B
theorem c1Q (i:Int) (ok ok':Bool):(mmO σ t i ok).set (σ.length+2) (.cells [.bool ok'] 4)=mmO σ t i ok':=a8B
theorem c8f {i j:Nat} (hi:i < t.length) (hj:j < t.length) (ok:Bool) (q:Nat) :
  a0e Tab (q+1) 56 [.int .i64 j,.ref (σ.length+2) 0,.ref σ.length 0,.ref (σ.length+1) 0] (mmO σ t i ok)=some (.tup [],mmO σ t i (ok&&decide (t.getD j 0<=t.getD i 0))):=by
 have gt:=d1d (σ:=σ) (t:=t) i ok
 have gi:=c4r (σ:=σ) (t:=t) i ok
 have go:=c5q (σ:=σ) (t:=t) i ok
 obtain ⟨x,hx⟩:=a3n hi
 obtain ⟨y,hy⟩:=a3n hj
 have l1:=b4y hx
 have l2:=b4y hy
 have q1:ltB (i:Int) (t.length:Int)=true:=by simp [ltB]; omega
 have q2:ltB (j:Int) (t.length:Int)=true:=by simp [ltB]; omega
 have e1:t.getD i 0=x:=by rw [Qa,hx]; rfl
 have e2:t.getD j 0=y:=by rw [Qa,hy]; rfl
 have hone:(PV.sl 1 (a0P t)).one=true:=rfl
 have hlen:(PV.sl 1 (a0P t)).len=(t.length:Int):=by simp [PV.len,b5n]
 have hle:leB y x=decide (y<=x):=rfl
 have hs1:(mmO σ t i ok).set (σ.length+2) (.cells (a1A [.bool ok] 0 [.bool (decide (y<=x))]) 4)=mmO σ t i (decide (y<=x)):=c1Q _ _ _
 have hs2:(mmO σ t i ok).set (σ.length+2) (.cells (a1A [.bool ok] 0 [.bool false]) 4)=mmO σ t i false:=c1Q _ _ _
 rw [a0e,a9m,e1,e2]
 simp only [Q0,Sys.run]
 show ((a0i [.sh (.one (.int .i64)),.ptr,.ptr,.ptr] _).bind _)=_
 simp only [a0i,a0d,a0c,Q1,Q0,Q4,Q5,Q2,if_true,PV.isPtr]
 show (PT.ev _ a3a _).bind _=_
 cases ok with
 | false=>simp -implicitDefEqProofs only [a3a,↓reduceIte,eq_self,ξ1,ξ2,ξ3,ξ4,ξ5,ξ6,ξ7,ξ8,ξ9,ξa,ξb,ξc,ξd,ξe,ξf,ξg,ξh,Nat.reduceAdd,ξi,if_true,if_false,ξl,ξm,ξn,ξo,ξp,ξq,ξr,ξs,ξt,ξu,ξv,ξw,ξx,ξy,ξz,ξA,ξB,ξC,ξD,ξE,gt,gi,go,MO.list,hs2,a0k,true_or,QN]
 | true=>simp -implicitDefEqProofs only [a3a,↓reduceIte,eq_self,ξ1,ξ2,ξ3,ξ4,ξ5,ξ6,ξ7,ξ8,ξ9,ξa,ξb,ξc,ξd,ξe,ξf,ξg,ξh,Nat.reduceAdd,ξi,if_true,if_false,ξl,ξm,ξn,ξo,ξp,ξq,ξr,ξs,ξt,ξu,ξv,ξw,ξx,ξy,ξz,ξA,ξB,ξC,ξD,ξE,gt,gi,go,MO.list,hone,hlen,le0,q1,q2,l1,l2,hle,hs1,a0k,true_or,QD]
theorem c7f (l:List Int) (g:Int->Bool):∀ b:Bool,l.foldl (fun ok st=>ok&&g st) b=(b&&l.all g):=by
 induction l with
 | nil=>intro b; simp
 | cons x l ih=>intro b; rw [QW,ih,QP,Bool.and_assoc]
set_option maxHeartbeats 4000000 in
theorem c2J (s:Bd) {tp:PV} (htp:tp=.sl 1 (a0P t)) (hlow:σ.all (MO.low σ.length)=true) (n:Nat) (hn:20<=n) :
  a0e Tab n 27 [tp,.agg (bpv s)] σ=some (.bool (decide (s.cnt≠0)&&(decide ((t.length:Int)=s.cnt)&&b5y s t t.length)),σ):=by
 subst htp
 obtain ⟨q,rfl⟩:∃ q,n=q+9:=⟨n-9,by omega⟩
 have hm1:(σ++[MO.cells [.sl 1 (a0P t)] 37]).all (MO.low (σ++[MO.cells [.sl 1 (a0P t)] 37]).length)=true:=by
  refine b7j hlow ?_
  have hr:∀ k,PV.lowss k (a0P t)=true:=fun k=>by
   induction t with
   | nil=>rfl
   | cons x t ih=>simp only [a0P,Q3,PV.lowss,PV.lows,PV.low,Q9,QD] at *; exact ih
  simp only [QP,List.all_nil,MO.low,PV.lows,PV.low,hr,Q9]
 have hr:∀ k,PV.lowss k (a0P t)=true:=fun k=>by
  clear hm1
  induction t with
  | nil=>rfl
  | cons x t ih=>simp only [a0P,Q3,PV.lowss,PV.lows,PV.low,Q9,QD] at *; exact ih
 have hcn:a0e Tab (q+8) 52 [.agg (bpv s)] (σ++[MO.cells [.sl 1 (a0P t)] 37])=some (.int .i64 s.cnt,σ++[MO.cells [.sl 1 (a0P t)] 37]):=a7a s _ (q+6)
 have hone:(PV.sl 1 (a0P t)).one=true:=rfl
 have hkind:(PV.sl 1 (a0P t)).isKind 0=true:=rfl
 have hlen:(PV.sl 1 (a0P t)).len=(t.length:Int):=by simp [PV.len,b5n]
 have hretF:∀ (ρ:PEnv) (b:Bool) (g:List MO),ρ.m=σ++g->g≠[]->ρ.k=σ.length->a0k ρ false (.bool b)=some (.bool b,σ):=by
  intro ρ b g e1 e2 e3
  unfold a0k
  rw [e1,e3,if_neg (by rw [QJ]; have:=List.length_pos_iff.2 e2; simp; exact e2),QM,if_pos hlow]
  rfl
 have g0:(σ++[MO.cells [.sl 1 (a0P t)] 37])[σ.length]?=some (.cells [.sl 1 (a0P t)] 37):=b5O _ _ _
 have hr1:∀ (ρ:PEnv) (b:Bool),ρ.m=σ++[MO.cells [.sl 1 (a0P t)] 37]->ρ.k=σ.length->a0k ρ false (.bool b)=some (.bool b,σ):=fun ρ b e1 e2=>hretF ρ b _ e1 (by simp) e2
 rw [a0e,b0T]
 have hrun:Sys.run (a0e Tab (q+8)) valuation_Monotone_S (q+8) [.sl 1 (a0P t),.agg (bpv s)] σ=c2g (a0e Tab (q+8)) valuation_Monotone_S valuation_Monotone_G [.sl 1 (a0P t),.agg (bpv s)] σ:=rfl
 rw [Q0,hrun]
 unfold c2g
 have hps:a0i valuation_Monotone_S.ps [.sl 1 (a0P t),.agg (bpv s)]=some ([s.a,s.b,s.c,s.d,s.e,s.f],[],[.sl 1 (a0P t)]):=by
  show a0i [.sh (.one _),.sh (.agg [_,_,_,_,_,_])] _=_
  simp only [bpv,a0i,a0d,a0c,Q1,Q0,Q4,Q5,Q2,if_true,hone]
 rw [hps,Q0]
 by_cases hc:s.cnt=0
 ·have qz:eqB s.cnt 0=true:=by rw [hc]; rfl
  rw [decide_eq_false (by simp [hc]),QN]
  have hst:a1i.ev (a0e Tab (q+8)) { i:=[s.a,s.b,s.c,s.d,s.e,s.f],b:=[],v:=[.sl 1 (a0P t)],m:=σ,k:=σ.length }=some (.ret (.bool false) σ):=by
   generalize a0e Tab (q+8)=Φ at *
   generalize s.cnt=cz at *
   obtain ⟨a,b,c,d,e,f⟩:=s
   simp only [bpv] at hcn
   unfold a1i
   repeat (first | rw [a0B] | rw [a0A] | rw [a0D] | rw [a0p] | rw [a0q] | rw [a0m] | rw [a0M] | rw [a3f] | rw [a0C] | rw [a0y] | rw [a0r] | rw [a0N])<;>simp -implicitDefEqProofs only [↓reduceIte,eq_self,ξ2,ξ3,ξ4,ξ5,ξ6,ξ7,ξ8,ξ9,ξa,ξb,ξc,ξd,ξe,ξf,ξg,ξh,Nat.reduceAdd,ξi,if_true,if_false,ξl,ξm,ξn,ξo,ξp,ξq,ξr,ξs,ξt,ξu,ξv,ξw,ξx,ξy,ξz,ξA,ξB,ξC,ξD,ξE,hcn,qz,hr1]
  show ((a1i.ev _ _).bind _)=_
  rw [hst]
  rfl
 have qz:eqB s.cnt 0=false:=eqF hc
 rw [decide_eq_true hc,QD]
 by_cases hl:(t.length:Int)=s.cnt
 case neg =>
  have ql:eqB (t.length:Int) s.cnt=false:=eqF hl
  rw [decide_eq_false hl,QN]
  have hst:a1i.ev (a0e Tab (q+8)) { i:=[s.a,s.b,s.c,s.d,s.e,s.f],b:=[],v:=[.sl 1 (a0P t)],m:=σ,k:=σ.length }=some (.ret (.bool false) σ):=by
   generalize a0e Tab (q+8)=Φ at *
   generalize s.cnt=cz at *
   obtain ⟨a,b,c,d,e,f⟩:=s
   simp only [bpv] at hcn
   unfold a1i
   repeat (first | rw [a0B] | rw [a0A] | rw [a0D] | rw [a0p] | rw [a0q] | rw [a0m] | rw [a0M] | rw [a3f] | rw [a0C] | rw [a0y] | rw [a0r] | rw [a0N])<;>simp -implicitDefEqProofs only [↓reduceIte,eq_self,ξ2,ξ3,ξ4,ξ5,ξ6,ξ7,ξ8,ξ9,ξa,ξb,ξc,ξd,ξe,ξf,ξg,ξh,Nat.reduceAdd,ξi,if_true,if_false,ξl,ξm,ξn,ξo,ξp,ξq,ξr,ξs,ξt,ξu,ξv,ξw,ξx,ξy,ξz,ξA,ξB,ξC,ξD,ξE,hcn,qz,PV.on,g0,MO.list,hone,hkind,hlen,ql,hr1]
  show ((a1i.ev _ _).bind _)=_
  rw [hst]
  rfl
 have ql:eqB (t.length:Int) s.cnt=true:=by simp [eqB,hl]
 rw [decide_eq_true hl,QD]
 have hs:=Bd.ok_of_cnt hc
 have hcl:=a6p hc
 have hmO:∀ i ok,(mmO σ t i ok).all (MO.low (mmO σ t i ok).length)=true:=fun i ok=>b7j hlow (by
  simp only [QP,List.all_nil,MO.low,PV.lows,PV.low,hr,Q9])
 have hall:a0e Tab (q+8) 53 [.agg (bpv s)] (mmO σ t 0 true)=some (.fn 95 [.cell (bpv s) 0],mmO σ t 0 true):=c6M s hc (mmO σ t 0 true) (hmO 0 true) (q+5)
 have hstart:a1i.ev (a0e Tab (q+8)) { i:=[s.a,s.b,s.c,s.d,s.e,s.f],b:=[],v:=[.sl 1 (a0P t)],m:=σ,k:=σ.length } =
   some (.jump 0 { i:=[s.a,s.b,s.c,s.d,s.e,s.f],b:=[],v:=[.ref σ.length 0,.ref (σ.length+1) 0,.ref (σ.length+2) 0,.fn 95 [.cell (bpv s) 0]],m:=mmO σ t 0 true,k:=σ.length }):=by
  have m1:σ++[MO.cells [.sl 1 (a0P t)] 37]++[MO.cells [.int .i64 0] 3]++[MO.cells [.bool false] 4]=mmO σ t 0 false:=by simp [mmO]
  have m2:(σ++[MO.cells [.sl 1 (a0P t)] 37]).length=σ.length+1:=by simp
  have m3:(σ++[MO.cells [.sl 1 (a0P t)] 37]++[MO.cells [.int .i64 0] 3]).length=σ.length+2:=by simp
  have gi:=c4r (σ:=σ) (t:=t) 0 false
  have go:=c5q (σ:=σ) (t:=t) 0 false
  have s1:(mmO σ t 0 false).set (σ.length+1) (.cells (a1A [.int .i64 0] 0 [.int .i64 0]) 3)=mmO σ t 0 false:=c6N _ _ _
  have s2:(mmO σ t 0 false).set (σ.length+2) (.cells (a1A [.bool false] 0 [.bool true]) 4)=mmO σ t 0 true:=c1Q _ _ _
  generalize s.cnt=cz at *
  obtain ⟨a,b,c,d,e,f⟩:=s
  simp only [bpv] at hcn hall
  have hone2:(PV.fn 95 [.cell [.int .i64 a,.int .i64 b,.int .i64 c,.int .i64 d,.int .i64 e,.int .i64 f] 0]).one=true:=rfl
  unfold a1i
  repeat (first | rw [a0B] | rw [a0A] | rw [a0D] | rw [a0p] | rw [a0q] | rw [a0m] | rw [a0M] | rw [a3f] | rw [a0C] | rw [a0y] | rw [a0r] | rw [a0N])<;>simp -implicitDefEqProofs only [↓reduceIte,eq_self,ξ2,ξ3,ξ4,ξ5,ξ6,ξ7,ξ8,ξ9,ξa,ξb,ξc,ξd,ξe,ξf,ξg,ξh,Nat.reduceAdd,ξi,if_true,if_false,ξl,ξm,ξn,ξo,ξp,ξq,ξr,ξs,ξt,ξu,ξv,ξw,ξx,ξy,ξz,ξA,ξB,ξC,ξD,ξE,hcn,qz,PV.on,g0,MO.list,hone,hone2,hkind,hlen,ql,m1,m2,m3,gi,go,s1,s2,hall,bpv]
 show ((a1i.ev _ _).bind _)=_
 rw [hstart]
 simp only [Q0]
 have hv3:([.ref σ.length 0,.ref (σ.length+1) 0,.ref (σ.length+2) 0,.fn 95 [.cell (bpv s) 0]]:List PV)[valuation_Monotone_G.n]?=some (.fn 95 [.cell (bpv s) 0]):=rfl
 rw [hv3]
 show ((valuation_Monotone_G.it _ _).bind _)=_
 have hit:valuation_Monotone_G.it 95 [.cell (bpv s) 0]=some ((Lk s 6).map fun x=>[.agg (lpv x)]):=c1e hs
 rw [hit]
 simp only [Q0]
 have hNl:(Lk s 6).length=t.length:=by have:=c1Z hc; omega
 have hrng:=b8x (Φ:=a0e Tab (q+8)) (G:=valuation_Monotone_G) (ys:=(Lk s 6).map fun x=>[.agg (lpv x)]) (fun i=>{ i:=[s.a,s.b,s.c,s.d,s.e,s.f],b:=[],v:=[.ref σ.length 0,.ref (σ.length+1) 0,.ref (σ.length+2) 0,.fn 95 [.cell (bpv s) 0]],m:=mmO σ t i (a3L s t i),k:=σ.length }) (fun i y hy=>by
  have hil:i < t.length:=by
   have:=(QK.1 hy).1
   rw [X4] at this; omega
  rw [QQ,c2i hc (by omega)] at hy
  simp only [Q1,Option.some.injEq] at hy
  subst hy
  refine ⟨((s.unr i).l,[],[]),rfl,?_⟩
  obtain ⟨ho,_⟩:=a7N (s:=s) (n:=i) (by omega) rfl
  have hbel:=c2m (Φ:=a0e Tab (q+7)) (F:=56) (caps:=[.ref (σ.length+2) 0,.ref σ.length 0,.ref (σ.length+1) 0]) (M:=fun ok=>mmO σ t i ok) (G:=fun ok st=>ok&&decide (t.getD ((i:Int)-st).toNat 0<=t.getD i 0)) (I:=fun _=>True) (i:=i) (s0:=s.a) (s1:=s.b) (s2:=s.c) (s3:=s.d) (s4:=s.e) (s5:=s.f)
   (b0:=(s.unr i).a) (b1:=(s.unr i).b) (b2:=(s.unr i).c) (b3:=(s.unr i).d) (b4:=(s.unr i).e) (b5:=(s.unr i).f) a7x rfl (a3L s t i) trivial (by omega)
   hs.1 hs.2.1 hs.2.2.1 hs.2.2.2.1 hs.2.2.2.2.1 hs.2.2.2.2.2 (fun b b'=>by rw [c3a,c3a]) (fun st hst ok _=>by
    obtain ⟨m,e1,e2,_⟩:=ho st hst
    refine ⟨?_,trivial⟩
    show a0e Tab (q+7) _ _ _=some (.tup [],mmO σ t i (ok&&decide (t.getD ((i:Int)-st).toNat 0<=t.getD i 0)))
    rw [e1,Qq]
    exact c8f hil (by omega) ok (q+6))
  obtain ⟨_,hbel⟩:=hbel
  rw [c7f] at hbel
  have hok:a3L s t (i+1)=(a3L s t i&&(offs 1 [(s.f,(s.unr i).f),(s.e,(s.unr i).e),(s.d,(s.unr i).d),(s.c,(s.unr i).c),(s.b,(s.unr i).b),(s.a,(s.unr i).a)]).all fun st=>decide (t.getD ((i:Int)-st).toNat 0<=t.getD i 0)):=c2T s t i
  rw [<- hok] at hbel
  rw [hok]
  rw [<- hok]
  clear hok
  have gi:=fun ok=>c4r (σ:=σ) (t:=t) i ok
  have hsi:∀ ok,(mmO σ t i ok).set (σ.length+1) (.cells (a1A [.int .i64 (i:Int)] 0 [.int .i64 ((i:Int)+1)]) 3)=mmO σ t ((i+1:Nat):Int) ok:=fun ok=>c6N _ _ _
  have q2:=a2h (i:=i) (by omega)
  generalize a3L s t (i+1)=k2 at *
  generalize a3L s t i=k1 at *
  generalize s.unr i=u at *
  obtain ⟨a,b,c,d,e,f⟩:=s
  obtain ⟨u0,u1,u2,u3,u4,u5⟩:=u
  simp only [lpv,Q3,Q6] at hbel
  simp only [Bd.l]
  show a4x.ev _ _=_
  unfold a4x
  repeat (first | rw [a0B] | rw [a0A] | rw [a0D] | rw [a0p] | rw [a0q] | rw [a0m] | rw [a0M] | rw [a3f] | rw [a0C] | rw [a0y] | rw [a0r] | rw [a0N])<;>simp -implicitDefEqProofs only [↓reduceIte,eq_self,ξ2,ξ3,ξ4,ξ5,ξ6,ξ7,ξ8,ξ9,ξa,ξb,ξc,ξd,ξe,ξf,ξg,ξh,Nat.reduceAdd,ξi,if_true,if_false,ξl,ξm,ξn,ξo,ξp,ξq,ξr,ξs,ξt,ξu,ξv,ξw,ξx,ξy,ξz,ξA,ξB,ξC,ξD,ξE,gi,MO.list,PV.on,hbel,hsi,q2,a1D]
  )
 rw [X4,hNl] at hrng
 have h00:a3L s t 0=true:=rfl
 rw [h00] at hrng
 have hrng':a3o (a0e Tab (q+8)) valuation_Monotone_G ((Lk s 6).map fun x=>[.agg (lpv x)]) { i:=[s.a,s.b,s.c,s.d,s.e,s.f],b:=[],v:=[.ref σ.length 0,.ref (σ.length+1) 0,.ref (σ.length+2) 0,.fn 95 [.cell (bpv s) 0]],m:=mmO σ t 0 true,k:=σ.length }=_:=hrng
 rw [hrng']
 simp only [Q0]
 rw [<- c6y hl]
 have go:=c5q (σ:=σ) (t:=t) t.length (a3L s t t.length)
 have hr2:∀ (ρ:PEnv) (b:Bool),ρ.m=mmO σ t t.length (a3L s t t.length)->ρ.k=σ.length->a0k ρ false (.bool b)=some (.bool b,σ):=fun ρ b e1 e2=>hretF ρ b _ e1 (by simp) e2
 generalize a3L s t t.length=kk at *
 have hafter:∀ Φ:Fns,a3g.ev Φ { i:=[s.a,s.b,s.c,s.d,s.e,s.f],b:=[],v:=[.ref σ.length 0,.ref (σ.length+1) 0,.ref (σ.length+2) 0,.fn 95 [.cell (bpv s) 0]],m:=mmO σ t t.length kk,k:=σ.length }=some (.ret (.bool kk) σ):=by
  intro Φ
  simp -implicitDefEqProofs only [a3g,↓reduceIte,eq_self,ξ1,ξ2,ξ3,ξ4,ξ5,ξ6,ξ7,ξ8,ξ9,ξa,ξb,ξc,ξd,ξe,ξf,ξg,ξh,Nat.reduceAdd,ξi,if_true,if_false,ξl,ξm,ξn,ξo,ξp,ξq,ξr,ξs,ξt,ξu,ξv,ξw,ξx,ξy,ξz,ξA,ξB,ξC,ξD,ξE,PV.on,go,MO.list,hr2]
 show ((a3g.ev _ _).bind _)=_
 rw [hafter]
 rfl
end
end Go.Proofs.Ythmkfeiapdbojaa
set_option maxRecDepth 100000
namespace Go.Proofs.Ythmkfeiapdbojaa
open Go.Sx Go.Kv Go.Bun
section
variable {σ:List MO} {t:List Int} {s:Bd}
theorem c5V {e:Ex} {row:List PV} (hrow:IsE e row) (hsz:e.size<=400) (hlow:σ.all (MO.low σ.length)=true) (s:Bd) (n:Nat) (hn:4000000<=n) :
  a0e Tab n 25 [.agg row,.agg (bpv s)] σ=some (a3V e s,σ):=by
 obtain ⟨n,rfl⟩:∃ m,n=m+3:=⟨n-3,by omega⟩
 have hck:=c4b σ e row hrow (n+2) (by omega) (by omega)
 have hbc:a0e Tab (n+2) 16 [.agg (bpv s)] σ=some (.int .i64 s.check,σ):=b3H s σ (n+1)
 have hcn:a0e Tab (n+2) 23 [.agg (bpv s)] σ=some (.int .i64 s.cnt,σ):=a4a s σ n
 have hal:chk e=0->s.cnt≠0->∃ (h:Nat) (g:List MO),a0e Tab (n+2) 51 [.agg row,.agg (bpv s)] σ=some (.msl h 0 s.cnt.toNat s.cnt.toNat 1,σ++g)/\σ.length<=h/\(σ++g)[h]?=some (.cells (iPV (a5n e s)) 2):=by
  intro h1 h2
  have hcl:=a6p h2
  obtain ⟨h,g,r1,r2,r3⟩:=c8S h2 (N:=s.cnt.toNat) (by omega) e (c1v h1).2.2.2 hsz row hrow (n+2) (by omega) σ
  exact ⟨h,g,r1,r2,by rw [b4w (a8v h1) h2]; exact r3⟩
 have hTl:(a5n e s).length=s.cnt.toNat:=by unfold a5n; rw [a2L]
 have hset:s.check=if s.Ok then 0 else 4:=rfl
 unfold a3V
 generalize a5n e s=tt at *
 generalize chk e=ck at *
 obtain ⟨op,a,b,c,d,e',f,v,l⟩:=e
 simp only [IsE] at hrow
 obtain ⟨x,rows,rfl,hx,hl⟩:=hrow
 obtain ⟨x1,x2,x3⟩:=a0T hx
 rw [a0e,b0y]
 simp only [Q0,Sys.run]
 show ((a0i [.sh (.agg [_,_,_,_,_,_,_,_,_]),.sh (.agg [_,_,_,_,_,_])] _).bind _)=_
 simp only [bpv] at hbc hcn hal ⊢
 simp only [a0i,a0d,a0c,Q1,Q0,Q4,Q5,Q2,if_true,x3]
 show (PT.ev _ a1Q _).bind _=_
 by_cases hc0:ck=0
 case neg =>
  have qq:eqB ck 0=false:=eqF hc0
  rw [if_pos hc0]
  simp -implicitDefEqProofs only [a1Q,↓reduceIte,eq_self,ξ1,ξ2,ξ3,ξ4,ξ5,ξ6,ξ7,ξ8,ξ9,ξa,ξb,ξc,ξd,ξe,ξf,ξg,ξh,Nat.reduceAdd,ξi,if_true,if_false,ξl,ξm,ξn,ξo,ξp,ξq,ξr,ξs,ξt,ξu,ξv,ξw,ξx,ξy,ξz,ξA,ξB,ξC,ξD,ξE,hck,qq,a0k,or_true]
 rw [if_neg (by simp [hc0])]
 have q1:eqB ck 0=true:=by rw [hc0]; rfl
 by_cases hb0:s.check=0
 case neg =>
  have qq:eqB s.check 0=false:=eqF hb0
  rw [if_pos hb0]
  simp -implicitDefEqProofs only [a1Q,↓reduceIte,eq_self,ξ1,ξ2,ξ3,ξ4,ξ5,ξ6,ξ7,ξ8,ξ9,ξa,ξb,ξc,ξd,ξe,ξf,ξg,ξh,Nat.reduceAdd,ξi,if_true,if_false,ξl,ξm,ξn,ξo,ξp,ξq,ξr,ξs,ξt,ξu,ξv,ξw,ξx,ξy,ξz,ξA,ξB,ξC,ξD,ξE,hck,q1,hbc,qq,a0k,or_true]
 rw [if_neg (by simp [hb0])]
 have q2:eqB s.check 0=true:=by rw [hb0]; rfl
 by_cases hz:s.cnt=0
 ·have qq:eqB s.cnt 0=true:=by rw [hz]; rfl
  rw [if_pos hz]
  simp -implicitDefEqProofs only [a1Q,↓reduceIte,eq_self,ξ1,ξ2,ξ3,ξ4,ξ5,ξ6,ξ7,ξ8,ξ9,ξa,ξb,ξc,ξd,ξe,ξf,ξg,ξh,Nat.reduceAdd,ξi,if_true,if_false,ξl,ξm,ξn,ξo,ξp,ξq,ξr,ξs,ξt,ξu,ξv,ξw,ξx,ξy,ξz,ξA,ξB,ξC,ξD,ξE,hck,q1,hbc,q2,hcn,qq,a0k,or_true]
 rw [if_neg hz]
 have q3:eqB s.cnt 0=false:=eqF hz
 obtain ⟨h,g,r1,r2,r3⟩:=hal hc0 hz
 have hone:∀ z,(PV.msl h 0 z z 1).one=true:=fun _=>rfl
 have hcl:=a6p hz
 have hlt:=(QK.1 r3).1
 have hret:∀ ρ:PEnv,ρ.m=σ++g->ρ.k=σ.length->a0k ρ false (.tup [.msl h 0 s.cnt.toNat s.cnt.toNat 1,.int .i64 0])=some (.tup [.sl 1 (a0P tt),.int .i64 0],σ):=by
  intro ρ e1 e2
  unfold a0k
  rw [e1,e2,if_neg (by simp only [QL,false_or]; omega),QM,if_pos hlow]
  have:=c2Z (k:=σ.length) (h:=h) (look:=a5V ρ 3) (t:=tt) (T:=2) r2 (b9O (by rw [e1]; exact r3))
  rw [hTl] at this
  simp only [PV.frz,PV.frzs] at this ⊢
  rw [this]
  rfl
 simp -implicitDefEqProofs only [a1Q,↓reduceIte,eq_self,ξ1,ξ2,ξ3,ξ4,ξ5,ξ6,ξ7,ξ8,ξ9,ξa,ξb,ξc,ξd,ξe,ξf,ξg,ξh,Nat.reduceAdd,ξi,if_true,if_false,ξl,ξm,ξn,ξo,ξp,ξq,ξr,ξs,ξt,ξu,ξv,ξw,ξx,ξy,ξz,ξA,ξB,ξC,ξD,ξE,hck,q1,hbc,q2,hcn,q3,r1,hone,hret]
theorem c6W (s:Bd) (hc:s.cnt≠0) {i:Nat} (hi:(i:Int) < s.cnt) (hlow:σ.all (MO.low σ.length)=true) (n:Nat) (hn:200000<=n) :
  a0e Tab n a6i [.agg (bpv s),.int .i64 i] σ=some (.tup [.agg (bpv (s.unr i)),.int .i64 0],σ):=by
 obtain ⟨n,rfl⟩:∃ m,n=m+1:=⟨n-1,by omega⟩
 have hl:=c9P s hc hlow n (by omega)
 have hlen:=c1Z hc
 have hrow:(a2b (Lk s 6))[i]?=some (bpv (s.unr i)):=by
  unfold a2b
  rw [QQ,c2i hc hi]; rfl
 have hL:(PV.sl 6 (a2b (Lk s 6))).len=s.cnt:=by simp only [PV.len,a8p]; exact hlen
 have hkind:(PV.sl 6 (a2b (Lk s 6))).isKind 0=true:=rfl
 have hone:(PV.sl 6 (a2b (Lk s 6))).one=true:=rfl
 have hloc:a3N (i:Int) 6 0 (.sl 6 (a2b (Lk s 6)))=some (.row (bpv (s.unr i)) 0):=by
  simp only [a3N]
  rw [if_pos ⟨trivial,by omega⟩,Qq,hrow]
  rfl
 have q1:ltB (i:Int) 0=false:=by simp [ltB]
 have q2:leB s.cnt (i:Int)=false:=by simp [leB]; omega
 have q3:ltB (i:Int) s.cnt=true:=by simp [ltB]; omega
 generalize a2b (Lk s 6)=RR at *
 generalize s.cnt=cz at *
 generalize s.unr i=u at *
 obtain ⟨a,b,c,d,e,f⟩:=s
 obtain ⟨u0,u1,u2,u3,u4,u5⟩:=u
 simp only [bpv] at hl hloc ⊢
 rw [a0e,a9G]
 simp only [Q0,Sys.run]
 show ((a0i [.sh (.agg [_,_,_,_,_,_]),.sh (.one _)] _).bind _)=_
 simp only [a0i,a0d,a0c,Q1,Q0,Q4,Q5,Q2,if_true]
 show (PT.ev _ a4k _).bind _=_
 simp -implicitDefEqProofs only [a4k,↓reduceIte,eq_self,ξ1,ξ2,ξ3,ξ4,ξ5,ξ6,ξ7,ξ8,ξ9,ξa,ξb,ξc,ξd,ξe,ξf,ξg,ξh,Nat.reduceAdd,ξi,if_true,if_false,ξl,ξm,ξn,ξo,ξp,ξq,ξr,ξs,ξt,ξu,ξv,ξw,ξx,ξy,ξz,ξA,ξB,ξC,ξD,ξE,hl,q1,hkind,hone,hL,q2,q3,le0,hloc,a0k,or_true]
end
end Go.Proofs.Ythmkfeiapdbojaa
set_option maxRecDepth 100000
namespace Go.Proofs.Ythmkfeiapdbojaa
open Go.Sx Go.Kv Go.Bun
section
variable {e:Ex} {row:List PV}
theorem d0k (hrow:IsE e row) (he:e.size<=400) (s:Bd) {σ:List MO} (hlow:σ.all (MO.low σ.length)=true) (n:Nat):a0e a4u (n+1) 24 [.agg row,.agg (bpv s)] σ=some (a3V e s,σ):=by
 have hT:a4u 24=some tableP:=rfl
 rw [a0e,hT]
 simp only [Q0,Sys.run,tableP,b7K,b5F 400 e row hrow he,c3X]
 rw [if_pos ⟨he,hlow⟩]
theorem c2M (hw:a6u e) (hrow:IsE e row) (s:Bd) (n:Nat) (hn:5000000+e.size<=n):a0e a4u (n+1) a2G [.agg row,.agg (bpv s)] []=some (.bool true,[]):=by
 obtain ⟨m,rfl⟩:∃ m,n=m+2:=⟨n-2,by omega⟩
 have ha:=d0n (n:=m+2) (by omega)
 have hf:=d2o hw hrow (m+2) (by omega) (σ:=[])
 have hT:a4u a2G=some saleroomlaw13_ValuationTables_S:=c3c _ _ a6k
 have hcn:a0e a4u (m+2) 23 [.agg (bpv s)] []=some (.int .i64 s.cnt,[]):=evH (a4a s [] m)
 have htab:e.size<=400->a0e a4u (m+2) 24 [.agg row,.agg (bpv s)] []=some (a3V e s,[]):=fun h=>d0k hrow h s rfl (m+1)
 have hrtab:e.size<=400->a0e a4u (m+2) 25 [.agg row,.agg (bpv s)] []=some (a3V e s,[]):=fun h=>evH (c5V hrow h rfl s (m+2) (by omega))
 have hun:s.cnt≠0->∀ i:Nat,(i:Int) < s.cnt->a0e a4u (m+2) a6i [.agg (bpv s),.int .i64 i] []=some (.tup [.agg (bpv (s.unr i)),.int .i64 0],[]):=fun h i hi=>evH (c6W s h hi rfl (m+2) (by omega))
 have hval:e.size<=400->∀ b,a0e a4u (m+2) 18 [.agg row,.agg (bpv b)] []=some (.int .i64 (c2l e b),[]):=fun h b=>d0p hrow h b rfl (m+1)
 have hmo:=evH (c2J (σ:=[]) s (t:=a5n e s) (tp:=.sl 1 (a0P (a5n e s))) rfl rfl (m+2) (by omega))
 have hTl:(a5n e s).length=s.cnt.toNat:=by unfold a5n; rw [a2L]
 have hbig:chk e=0->s.cnt≠0->(decide (s.cnt≠0)&&(decide (((a5n e s).length:Int)=s.cnt)&&b5y s (a5n e s) (a5n e s).length))=true:=by
  intro h1 h2
  have hcl:=a6p h2
  rw [hTl,b4w (a8v h1) h2,c5A,decide_eq_true h2,decide_eq_true (by omega)]
  rfl
 have hget:chk e=0->s.cnt≠0->∀ i:Nat,(i:Int) < s.cnt->(a5n e s)[i]?=some (c2l e (s.unr i)):=by
  intro h1 h2 i hi
  rw [b4w (a8v h1) h2]
  have hs:=Bd.ok_of_cnt h2
  unfold c2l
  rw [if_pos ⟨h1,(a3m hs i).1⟩]
  unfold a2e
  rw [QQ,List.getElem?_range (by omega)]; rfl
 have hchk0:s.check≠0->s.cnt=0:=fun h=>by
  unfold Bd.cnt
  rw [if_neg (fun hh=>h (Bd.check_zero.2 hh))]
 have hfs:b6E e=true->e.size<=400:=fun h=>by have:=c7G h; omega
 unfold a3V at htab hrtab
 generalize a5n e s=T at *
 generalize c2l e=vE at *
 generalize chk e=ck at *
 generalize b6E e=fx at *
 generalize e.size=sz at *
 obtain ⟨op,a,b',c,d,e',f,v,l⟩:=e
 simp only [IsE] at hrow
 obtain ⟨x,rows,rfl,hx,hl⟩:=hrow
 obtain ⟨x1,x2,x3⟩:=a0T hx
 rw [a0e,hT]
 generalize a0e a4u (m+2)=Φ at *
 simp only [Q0,Sys.run]
 show ((a0i [.sh (.agg [_,_,_,_,_,_,_,_,_]),.sh (.agg [_,_,_,_,_,_])] _).bind _)=_
 have hB:bpv s=[.int .i64 s.a,.int .i64 s.b,.int .i64 s.c,.int .i64 s.d,.int .i64 s.e,.int .i64 s.f]:=rfl
 rw [hB] at hcn hmo htab hrtab hun ⊢
 simp only [a0i,a0d,a0c,Q1,Q0,Q4,Q5,Q2,if_true,x3]
 show (PT.ev _ a0x _).bind _=_
 cases fx with
 | false =>
  generalize s.cnt=cz at *
  have key:a0x.ev Φ { i:=[op,a,b',c,d,e',f,v,s.a,s.b,s.c,s.d,s.e,s.f],b:=[],v:=[x],m:=[],k:=0 }=some (.ret (.bool true) []):=by
   unfold a0x
   repeat (first | rw [a0B] | rw [a0A] | rw [a0D] | rw [a0p] | rw [a0q] | rw [a0m] | rw [a0M] | rw [a3f] | rw [a0C] | rw [a0y] | rw [a0r] | rw [a0N])<;>simp -implicitDefEqProofs only [↓reduceIte,eq_self,ξ2,ξ3,ξ4,ξ5,ξ6,ξ7,ξ8,ξ9,ξa,ξb,ξc,ξd,ξe,ξf,ξg,ξh,Nat.reduceAdd,ξi,if_true,if_false,ξl,ξm,ξn,ξo,ξp,ξq,ξr,ξs,ξt,ξu,ξv,ξw,ξx,ξy,ξz,ξA,ξB,ξC,ξD,ξE,hcn,hf,ha,a0k,or_true,Q8]
  exact (congrArg (fun r=>QS r _) key)
 | true =>
 have htab:=htab (hfs rfl)
 have hrtab:=hrtab (hfs rfl)
 have hval:=hval (hfs rfl)
 by_cases h100:100 < s.cnt
 ·have q2:ltB 100 s.cnt=true:=by simp [ltB]; exact h100
  generalize s.cnt=cz at *
  have key:a0x.ev Φ { i:=[op,a,b',c,d,e',f,v,s.a,s.b,s.c,s.d,s.e,s.f],b:=[],v:=[x],m:=[],k:=0 }=some (.ret (.bool true) []):=by
   unfold a0x
   repeat (first | rw [a0B] | rw [a0A] | rw [a0D] | rw [a0p] | rw [a0q] | rw [a0m] | rw [a0M] | rw [a3f] | rw [a0C] | rw [a0y] | rw [a0r] | rw [a0N])<;>simp -implicitDefEqProofs only [↓reduceIte,eq_self,ξ2,ξ3,ξ4,ξ5,ξ6,ξ7,ξ8,ξ9,ξa,ξb,ξc,ξd,ξe,ξf,ξg,ξh,Nat.reduceAdd,ξi,if_true,if_false,ξl,ξm,ξn,ξo,ξp,ξq,ξr,ξs,ξt,ξu,ξv,ξw,ξx,ξy,ξz,ξA,ξB,ξC,ξD,ξE,hcn,hf,q2,ha,a0k,or_true,Q8]
  exact (congrArg (fun r=>QS r _) key)
 have q2:ltB 100 s.cnt=false:=by simp [ltB]; omega
 have done:∀ (w:Int) (aV bV:PV) (k:Nat) (fuel:Nat),aV.isKind 0=true->aV.len=(k:Int)->(w≠0\/(w=0/\Φ 27 [aV,.agg [.int .i64 s.a,.int .i64 s.b,.int .i64 s.c,.int .i64 s.d,.int .i64 s.e,.int .i64 s.f]] []=some (.bool true,[])))->1<=fuel ->
   saleroomlaw13_ValuationTables_S.loop Φ fuel 0 { i:=[w,(k:Int),op,a,b',c,d,e',f,v,s.a,s.b,s.c,s.d,s.e,s.f],b:=[],v:=[aV,bV,x],m:=[],k:=0 }=some (.bool true,[]):=by
  intro w aV bV k fuel h1 h2 h3 h4
  obtain ⟨fuel,rfl⟩:∃ j,fuel=j+1:=⟨fuel-1,by omega⟩
  have q0:ltB (k:Int) (k:Int)=false:=by simp [ltB]
  rw [Sys.loop,show saleroomlaw13_ValuationTables_S.loops[0]?=some a1c from rfl,Q0]
  have key:a1c.ev Φ { i:=[w,(k:Int),op,a,b',c,d,e',f,v,s.a,s.b,s.c,s.d,s.e,s.f],b:=[],v:=[aV,bV,x],m:=[],k:=0 }=some (.ret (.bool true) []):=by
   unfold a1c
   rcases h3 with h3 | ⟨h3,h5⟩
   ·have qw:eqB w 0=false:=eqF h3
    repeat (first | rw [a0B] | rw [a0A] | rw [a0D] | rw [a0p] | rw [a0q] | rw [a0m] | rw [a0M] | rw [a3f] | rw [a0C] | rw [a0y] | rw [a0r] | rw [a0N])<;>simp -implicitDefEqProofs only [↓reduceIte,eq_self,ξ2,ξ3,ξ4,ξ5,ξ6,ξ7,ξ8,ξ9,ξa,ξb,ξc,ξd,ξe,ξf,ξg,ξh,Nat.reduceAdd,ξi,if_true,if_false,ξl,ξm,ξn,ξo,ξp,ξq,ξr,ξs,ξt,ξu,ξv,ξw,ξx,ξy,ξz,ξA,ξB,ξC,ξD,ξE,h1,h2,q0,qw,ha,a0k,or_true,Q8]
   ·have qw:eqB w 0=true:=by rw [h3]; rfl
    repeat (first | rw [a0B] | rw [a0A] | rw [a0D] | rw [a0p] | rw [a0q] | rw [a0m] | rw [a0M] | rw [a3f] | rw [a0C] | rw [a0y] | rw [a0r] | rw [a0N])<;>simp -implicitDefEqProofs only [↓reduceIte,eq_self,ξ2,ξ3,ξ4,ξ5,ξ6,ξ7,ξ8,ξ9,ξa,ξb,ξc,ξd,ξe,ξf,ξg,ξh,Nat.reduceAdd,ξi,if_true,if_false,ξl,ξm,ξn,ξo,ξp,ξq,ξr,ξs,ξt,ξu,ξv,ξw,ξx,ξy,ξz,ξA,ξB,ξC,ξD,ξE,h1,h2,q0,qw,h5,ha,a0k,or_true,Q8]
  rw [key]
  rfl
 have nilcase:∀ w:Int,w≠0->Φ 24 [.agg [.int .i64 op,.int .i64 a,.int .i64 b',.int .i64 c,.int .i64 d,.int .i64 e',.int .i64 f,.int .i64 v,x],.agg [.int .i64 s.a,.int .i64 s.b,.int .i64 s.c,.int .i64 s.d,.int .i64 s.e,.int .i64 s.f]] []=some (.tup [.nilS,.int .i64 w],[]) ->
   Φ 25 [.agg [.int .i64 op,.int .i64 a,.int .i64 b',.int .i64 c,.int .i64 d,.int .i64 e',.int .i64 f,.int .i64 v,x],.agg [.int .i64 s.a,.int .i64 s.b,.int .i64 s.c,.int .i64 s.d,.int .i64 s.e,.int .i64 s.f]] []=some (.tup [.nilS,.int .i64 w],[]) ->
   ((a0x.ev Φ { i:=[op,a,b',c,d,e',f,v,s.a,s.b,s.c,s.d,s.e,s.f],b:=[],v:=[x],m:=[],k:=0 }).bind fun | .ret r σ=>some (r,σ) | .jump q ρ=>saleroomlaw13_ValuationTables_S.loop Φ (m+2) q ρ)=some (.bool true,[]):=by
  intro w hw1 ht1 ht2
  have hd:=done w .nilS .nilS 0 (m+2) rfl rfl (.inl hw1) (by omega)
  generalize s.cnt=cz at *
  have key:a0x.ev Φ { i:=[op,a,b',c,d,e',f,v,s.a,s.b,s.c,s.d,s.e,s.f],b:=[],v:=[x],m:=[],k:=0 }=some (.jump 0 { i:=[w,((0:Nat):Int),op,a,b',c,d,e',f,v,s.a,s.b,s.c,s.d,s.e,s.f],b:=[],v:=[.nilS,.nilS,x],m:=[],k:=0 }):=by
   have q0:(PV.nilS.len)=0:=rfl
   have q1:PV.nilS.isKind 0=true:=rfl
   have q4:PV.nilS.one=true:=rfl
   unfold a0x
   repeat (first | rw [a0B] | rw [a0A] | rw [a0D] | rw [a0p] | rw [a0q] | rw [a0m] | rw [a0M] | rw [a3f] | rw [a0C] | rw [a0y] | rw [a0r] | rw [a0N])<;>simp -implicitDefEqProofs only [↓reduceIte,eq_self,ξ2,ξ3,ξ4,ξ5,ξ6,ξ7,ξ8,ξ9,ξa,ξb,ξc,ξd,ξe,ξf,ξg,ξh,Nat.reduceAdd,ξi,if_true,if_false,ξl,ξm,ξn,ξo,ξp,ξq,ξr,ξs,ξt,ξu,ξv,ξw,ξx,ξy,ξz,ξA,ξB,ξC,ξD,ξE,hcn,hf,q2,ht1,ht2,a2O,q0,q1,q4,a2Y]
   rfl
  rw [key]
  exact hd
 by_cases hck:ck=0
 case neg =>
  rw [if_pos hck] at htab hrtab
  exact nilcase ck hck htab hrtab
 rw [if_neg (by simp [hck])] at htab hrtab
 by_cases hsc:s.check=0
 case neg =>
  rw [if_pos hsc] at htab hrtab
  exact nilcase s.check hsc htab hrtab
 rw [if_neg (by simp [hsc])] at htab hrtab
 by_cases hcz:s.cnt=0
 ·rw [if_pos hcz] at htab hrtab
  exact nilcase 3 (by decide) htab hrtab
 rw [if_neg hcz] at htab hrtab
 have hcl:=a6p hcz
 have hget:=hget hck hcz
 have hun:=hun hcz
 rw [hbig hck hcz] at hmo
 obtain ⟨N,hN⟩:∃ N:Nat,s.cnt=(N:Int):=⟨s.cnt.toNat,by omega⟩
 have hTN:T.length=N:=by omega
 have hlen:(PV.sl 1 (a0P T)).len=(N:Int):=by simp [PV.len,b5n,hTN]
 have hkind:(PV.sl 1 (a0P T)).isKind 0=true:=rfl
 have hone:(PV.sl 1 (a0P T)).one=true:=rfl
 have hstep:∀ i:Nat,i < N->∀ fuel,saleroomlaw13_ValuationTables_S.loop Φ (fuel+1) 0 { i:=[0,(i:Int),op,a,b',c,d,e',f,v,s.a,s.b,s.c,s.d,s.e,s.f],b:=[],v:=[.sl 1 (a0P T),.sl 1 (a0P T),x],m:=[],k:=0 } =
   saleroomlaw13_ValuationTables_S.loop Φ fuel 0 { i:=[0,((i+1:Nat):Int),op,a,b',c,d,e',f,v,s.a,s.b,s.c,s.d,s.e,s.f],b:=[],v:=[.sl 1 (a0P T),.sl 1 (a0P T),x],m:=[],k:=0 }:=by
  intro i hi fuel
  have hg:=hget i (by omega)
  have hu:=hun i (by omega)
  have hv:=hval (s.unr i)
  have l1:=b4y hg
  have q0:ltB (i:Int) (N:Int)=true:=by simp [ltB]; exact hi
  have q3:=a2h (i:=i) (by omega)
  rw [Sys.loop,show saleroomlaw13_ValuationTables_S.loops[0]?=some a1c from rfl,Q0]
  have key:a1c.ev Φ { i:=[0,(i:Int),op,a,b',c,d,e',f,v,s.a,s.b,s.c,s.d,s.e,s.f],b:=[],v:=[.sl 1 (a0P T),.sl 1 (a0P T),x],m:=[],k:=0 } =
    some (.jump 0 { i:=[0,((i+1:Nat):Int),op,a,b',c,d,e',f,v,s.a,s.b,s.c,s.d,s.e,s.f],b:=[],v:=[.sl 1 (a0P T),.sl 1 (a0P T),x],m:=[],k:=0 }):=by
   generalize vE (s.unr i)=z at *
   generalize s.unr i=u at *
   obtain ⟨u0,u1,u2,u3,u4,u5⟩:=u
   simp only [bpv] at hu hv
   unfold a1c
   repeat (first | rw [a0B] | rw [a0A] | rw [a0D] | rw [a0p] | rw [a0q] | rw [a0m] | rw [a0M] | rw [a3f] | rw [a0C] | rw [a0y] | rw [a0r] | rw [a0N])<;>simp -implicitDefEqProofs only [↓reduceIte,eq_self,ξ2,ξ3,ξ4,ξ5,ξ6,ξ7,ξ8,ξ9,ξa,ξb,ξc,ξd,ξe,ξf,ξg,ξh,Nat.reduceAdd,ξi,if_true,if_false,ξl,ξm,ξn,ξo,ξp,ξq,ξr,ξs,ξt,ξu,ξv,ξw,ξx,ξy,ξz,ξA,ξB,ξC,ξD,ξE,hlen,hkind,hone,q0,hu,a2O,le0,l1,hv,a2Y,q3,a0v]
  rw [key]
  rfl
 have hlp:=a3R (fun i=>{ i:=[0,(i:Int),op,a,b',c,d,e',f,v,s.a,s.b,s.c,s.d,s.e,s.f],b:=[],v:=[.sl 1 (a0P T),.sl 1 (a0P T),x],m:=[],k:=0 }) hstep N 0 (by omega) (m+2-N)
 rw [show m+2-N+N=m+2 by omega] at hlp
 have hd:=done 0 (.sl 1 (a0P T)) (.sl 1 (a0P T)) N (m+2-N) hkind hlen (.inr ⟨rfl,hmo⟩) (by omega)
 rw [hd] at hlp
 rw [hN] at hcn q2
 have key:a0x.ev Φ { i:=[op,a,b',c,d,e',f,v,s.a,s.b,s.c,s.d,s.e,s.f],b:=[],v:=[x],m:=[],k:=0 }=some (.jump 0 { i:=[0,((0:Nat):Int),op,a,b',c,d,e',f,v,s.a,s.b,s.c,s.d,s.e,s.f],b:=[],v:=[.sl 1 (a0P T),.sl 1 (a0P T),x],m:=[],k:=0 }):=by
  unfold a0x
  repeat (first | rw [a0B] | rw [a0A] | rw [a0D] | rw [a0p] | rw [a0q] | rw [a0m] | rw [a0M] | rw [a3f] | rw [a0C] | rw [a0y] | rw [a0r] | rw [a0N])<;>simp -implicitDefEqProofs only [↓reduceIte,eq_self,ξ2,ξ3,ξ4,ξ5,ξ6,ξ7,ξ8,ξ9,ξa,ξb,ξc,ξd,ξe,ξf,ξg,ξh,Nat.reduceAdd,ξi,if_true,if_false,ξl,ξm,ξn,ξo,ξp,ξq,ξr,ξs,ξt,ξu,ξv,ξw,ξx,ξy,ξz,ξA,ξB,ξC,ξD,ξE,hcn,hf,q2,htab,hrtab,a2O,hlen,hkind,hone,a2Y]
  rfl
 exact (congrArg (fun r=>QS r _) key).trans hlp
end
end Go.Proofs.Ythmkfeiapdbojaa
