/- Which products an expression uses, and how many nodes it has: the reference's. -/
import Derived.Test.YthmkfeiapdbojaaHVq
import Derived.Test.YthmkfeiapdbojaaHVn
import Derived.Test.YthmkfeiapdbojaaHGx
import Derived.Test.YthmkfeiapdbojaaHTxe
set_option linter.unusedSimpArgs false
set_option linter.unusedVariables false
open Go.Sx.PT renaming ev → ξ1
open Go.Sx.BE renaming safe → ξ2, pe → ξ3, all → ξz
open Go.Sx.IE renaming pe → ξ4
open Go.Sx renaming PEnv.at → ξ5
open Go.Sx.PEnv renaming push → ξt
open List renaming getD_cons_zero → ξ6, getD_cons_succ → ξ7, getElem?_cons_zero → ξ8, getElem?_cons_succ → ξ9, drop_zero → ξf, length_cons → ξg, length_nil → ξh, take_succ_cons → ξm, take_zero → ξn, cons_append → ξu, nil_append → ξv, append_nil → ξw, map_cons → ξD, map_nil → ξE
open Go.Sx renaming a0g → ξa, a0h → ξb, a0b → ξc, a0f → ξd, a0c → ξo, a0a → ξp, a0d → ξq, a0N → ξF, a0D → ξG, a0p → ξH, a0q → ξI, a0C → ξJ, a1d → ξK, a0Z → ξL, a1e → ξM, a0Y → ξN, a0A → ξO, a0n → ξP, a0B → ξQ, a0M → ξR, a0m → ξS, a0y → ξT, a0R → ξU, a0H → ξV, a0I → ξW, a0J → ξX, a0r → ξY
open Nat renaming add_zero → ξe, le_refl → ξi
open Bool renaming false_eq_true → ξl, and_self → ξA, not_true → ξB, not_false → ξC
open Option renaming map_some → ξr, bind_some → ξs
open Go.Sx.SV renaming pvs → ξx, pv → ξy
open Option renaming bind_some → Q0, map_some → Q6, bind_eq_bind → Qd, pure_def → Qe
open List renaming mem_cons → Q1, append_nil → Q2, nil_append → Q3, cons_append → Q4, mem_of_getElem? → Q5, mapM_cons → Q8, mapM_nil → Q9, reverse_cons → Qa, reverse_nil → Qb, length_nil → Qg, drop_zero → Qh, mem_map → Qj, not_mem_nil → Qm, drop_of_length_le → Qn, drop_eq_getElem?_toList_append → Qp, getD_cons_zero → Qq, getD_cons_succ → Qr, all_eq_true → Qt, length_append → Qv
open Bool renaming false_eq_true → Q7, and_eq_true → Qk, or_eq_false_iff → Qu
open Nat renaming zero_add → Qf
open Int renaming cast_ofNat_Int → Qs
set_option maxRecDepth 100000
namespace Go.Proofs.Ythmkfeiapdbojaa
open Go.Sx Go.Kv Go.Bun
mutual
def a6u:Ex->Prop | .node _ _ _ _ _ _ _ _ l=>l.length<=9223372036854775807/\b1X l
def b1X:List Ex->Prop | []=>True | e::l=>a6u e/\b1X l
end
theorem b3E:∀ {l:List Ex},b1X l->∀ e∈l,a6u e
 | x::l,h,e,he=>by
  simp only [b1X] at h
  rcases Q1.1 he with rfl | he
  ·exact h.1
  ·exact b3E h.2 e he
 | [],_,e,he=>by simp at he
mutual
def a5I (k:Nat):Ex->Bool | .node _ a b c d e f _ l=>decide (0 < [a,b,c,d,e,f].getD k 0)||b1y k l
def b1y (k:Nat):List Ex->Bool | []=>false | e::l=>a5I k e||b1y k l
end
mutual
def a3B (d:Nat):Ex->Int | .node _ _ _ _ _ _ _ _ l=>if 10 < d\/20 < l.length then 1000 else 1+a3i (d+1) l
def a3i (d:Nat):List Ex->Int | []=>0 | e::l=>a3B d e+a3i d l
end
def bN:Nat->Int
 | 0=>1000
 | k+1=>1+20*bN k
theorem b7T:∀ k,1000<=bN k
 | 0=>Int.le_refl _
 | k+1=>by have:=b7T k; simp only [bN]; omega
mutual
theorem b7x (d:Nat):∀ e:Ex,1<=a3B d e/\a3B d e<=bN (11-d)
 | .node op a b c d' e f v l=>by
  unfold a3B
  have hb:=b7T (11-d)
  split
  ·omega
  ·rename_i h
   have:=a6G (d+1) l
   obtain ⟨k,hk⟩:∃ k,11-d=k+1:=⟨10-d,by omega⟩
   rw [hk]
   rw [show 11-(d+1)=k by omega] at this
   simp only [bN]
   have hl:(l.length:Int)*bN k<=20*bN k:=Int.mul_le_mul_of_nonneg_right (by omega) (by have:=b7T k; omega)
   omega
theorem a6G (d:Nat):∀ l:List Ex,0<=a3i d l/\a3i d l<=l.length*bN (11-d)
 | []=>by simp [a3i]
 | e::l=>by
  have h1:=b7x d e
  have h2:=a6G d l
  simp only [a3i,List.length_cons]
  rw [Int.natCast_add,Int.add_mul]
  omega
end
mutual
theorem b6u (d:Nat):∀ e:Ex,a3B d e < 1000->a3B d e=e.size
 | .node op a b c d' e f v l,h=>by
  unfold a3B at h ⊢
  split
  ·rename_i hc; rw [if_pos hc] at h; omega
  ·rename_i hc
   rw [if_neg hc] at h
   have:=b5l (d+1) l (by have:=a6G (d+1) l; omega)
   simp only [Ex.size]; omega
theorem b5l (d:Nat):∀ l:List Ex,a3i d l < 1000->a3i d l=a2a l
 | [],_=>by simp [a3i,a2a]
 | e::l,h=>by
  have h1:=b7x d e
  have h2:=a6G d l
  simp only [a3i] at h ⊢
  have h3:=b6u d e (by omega)
  have h4:=b5l d l (by omega)
  simp only [a2a]; omega
end
def want (a b c d e f:Int) (k:Nat):Int:=[a,b,c,d,e,f].getD k 0
theorem c9T (σ:List MO):∀ (e:Ex),a6u e->∀ row,IsE e row->∀ n,e.size+2<=n->∀ k:Nat,k < 6->a0e Tab n 45 [.agg row,.int .i64 k] σ=some (.bool (a5I k e),σ):=by
 intro e
 induction hM:e.size using Nat.strongRecOn generalizing e with
 | _ M ih =>
  subst hM
  intro hw row hrow n hn k hk
  obtain ⟨op,a,b,c,d,e',f,v,l⟩:=e
  simp only [IsE] at hrow
  obtain ⟨x,rows,rfl,hx,hl⟩:=hrow
  obtain ⟨x1,x2,x3⟩:=a0T hx
  simp only [Ex.size] at ih hn
  simp only [a6u] at hw
  obtain ⟨n,rfl⟩:∃ m,n=m+1:=⟨n-1,by omega⟩
  have hlen:=hl.length
  have hsl:=a3d l
  have loop:∀ (dd i:Nat),i+dd=l.length->∀ fuel,dd+1<=fuel ->
    saleroomref13_Uses_S.loop (a0e Tab n) fuel 0 { i:=[(k:Int),(i:Int),op,a,b,c,d,e',f,v],b:=[],v:=[x],m:=σ,k:=σ.length }=some (.bool (b1y k (l.drop i)),σ):=by
   intro dd
   induction dd with
   | zero =>
    intro i hi fuel hf
    obtain ⟨fuel,rfl⟩:∃ m,fuel=m+1:=⟨fuel-1,by omega⟩
    have q0:ltB (i:Int) (rows.length:Int)=false:=by simp [ltB]; omega
    rw [Sys.loop,show saleroomref13_Uses_S.loops[0]?=some a1R from rfl]
    simp -implicitDefEqProofs only [Q0,a1R,↓reduceIte,eq_self,ξ1,ξ2,ξ3,ξ4,ξ5,ξ6,ξ7,ξ8,ξ9,ξa,ξb,ξc,ξd,ξe,ξf,ξg,ξh,Nat.reduceAdd,ξi,if_true,if_false,ξl,ξm,ξn,ξo,ξp,ξq,ξr,ξs,ξt,ξu,ξv,ξw,ξx,ξy,ξz,ξA,ξB,ξC,ξD,ξE,q0,x1,x2,a0k,or_true]
    rw [Qn (by omega)]
    rfl
   | succ dd ihd =>
    intro i hi fuel hf
    obtain ⟨fuel,rfl⟩:∃ m,fuel=m+1:=⟨fuel-1,by omega⟩
    obtain ⟨ei,hei⟩:=a3n (l:=l) (i:=i) (by omega)
    obtain ⟨ri,hri,hrow1⟩:=hl.at hei
    have hszi:=a2Q (Q5 hei)
    have hcall:=ih ei.size (by omega) ei rfl (b3E hw.2 ei (Q5 hei)) ri hrow1 n (by omega) k hk
    have hnext:=ihd (i+1) (by omega) fuel (by omega)
    have hloc:=a4d (off:=0) hx hri
    have q0:ltB (i:Int) (rows.length:Int)=true:=by simp [ltB]; omega
    have q2:(leB (-9223372036854775808) ((i:Int)+1)&&leB ((i:Int)+1) 9223372036854775807)=true:=by simp [leB]; omega
    have hdr:l.drop i=ei::l.drop (i+1):=by rw [Qp (i:=i),hei]; rfl
    rw [hdr,b1y]
    obtain ⟨op1,a1,b1,c1,d1,e1',f1,v1,l1⟩:=ei
    have hrow1':=hrow1
    simp only [IsE] at hrow1'
    obtain ⟨y,rows1,rfl,hy,hl1⟩:=hrow1'
    obtain ⟨y1,y2,y3⟩:=a0T hy
    generalize a5I k (Ex.node op1 a1 b1 c1 d1 e1' f1 v1 l1)=u at *
    rw [Sys.loop,show saleroomref13_Uses_S.loops[0]?=some a1R from rfl]
    cases u with
    | true=>simp -implicitDefEqProofs only [Q0,a1R,↓reduceIte,eq_self,ξ1,ξ2,ξ3,ξ4,ξ5,ξ6,ξ7,ξ8,ξ9,ξa,ξb,ξc,ξd,ξe,ξf,ξg,ξh,Nat.reduceAdd,ξi,if_true,if_false,ξl,ξm,ξn,ξo,ξp,ξq,ξr,ξs,ξt,ξu,ξv,ξw,ξx,ξy,ξz,ξA,ξB,ξC,ξD,ξE,q0,x1,x2,le0,hloc,y3,hcall,a0k,or_true,Bool.true_or]
    | false =>
     rw [Bool.false_or,<- hnext]
     simp -implicitDefEqProofs only [Q0,a1R,↓reduceIte,eq_self,ξ1,ξ2,ξ3,ξ4,ξ5,ξ6,ξ7,ξ8,ξ9,ξa,ξb,ξc,ξd,ξe,ξf,ξg,ξh,Nat.reduceAdd,ξi,if_true,if_false,ξl,ξm,ξn,ξo,ξp,ξq,ξr,ξs,ξt,ξu,ξv,ξw,ξx,ξy,ξz,ξA,ξB,ξC,ξD,ξE,q0,x1,x2,le0,hloc,y3,hcall,q2,a0v]
  have h0:=loop l.length 0 (by omega) n (by omega)
  rw [Qh] at h0
  rw [a0e,b1s,a5I]
  simp only [Q0,Sys.run]
  show ((a0i [.sh (.agg [_,_,_,_,_,_,_,_,_]),.sh (.one _)] _).bind _)=_
  simp only [a0i,a0d,a0c,Q6,Q0,Q2,Q3,Q4,if_true,x3]
  show (PT.ev _ a4U _).bind _=_
  have hk6:k=0\/k=1\/k=2\/k=3\/k=4\/k=5:=by omega
  rcases hk6 with rfl | rfl | rfl | rfl | rfl | rfl
  all_goals
   simp only [Qq,Qr]
   simp -implicitDefEqProofs only [a4U,↓reduceIte,eq_self,ξ1,ξ2,ξ3,ξ4,ξ5,ξ6,ξ7,ξ8,ξ9,ξa,ξb,ξc,ξd,ξe,ξf,ξg,ξh,Nat.reduceAdd,ξi,if_true,if_false,ξl,ξm,ξn,ξo,ξp,ξq,ξr,ξs,ξt,ξu,ξv,ξw,ξx,ξy,ξz,ξA,ξB,ξC,ξD,ξE,a3x,Int.reduceEq,Qs,decide_true,decide_false,a1n,a0k,or_true]
   split
   ·rename_i h; rw [decide_eq_true h]; rfl
   ·rename_i h; rw [decide_eq_false h]; exact h0
theorem c5B (σ:List MO):∀ (e:Ex),a6u e->∀ row,IsE e row->∀ n,e.size+2<=n->∀ d:Nat,d<=1000000->a0e Tab n 46 [.agg row,.int .i64 d] σ=some (.int .i64 (a3B d e),σ):=by
 intro e
 induction hM:e.size using Nat.strongRecOn generalizing e with
 | _ M ih =>
  subst hM
  intro hw row hrow n hn k hk
  obtain ⟨op,a,b,c,d,e',f,v,l⟩:=e
  simp only [IsE] at hrow
  obtain ⟨x,rows,rfl,hx,hl⟩:=hrow
  obtain ⟨x1,x2,x3⟩:=a0T hx
  simp only [Ex.size] at ih hn
  simp only [a6u] at hw
  obtain ⟨n,rfl⟩:∃ m,n=m+1:=⟨n-1,by omega⟩
  have hlen:=hl.length
  have hsl:=a3d l
  rw [a0e,b0x,a3B]
  simp only [Q0,Sys.run]
  show ((a0i [.sh (.agg [_,_,_,_,_,_,_,_,_]),.sh (.one _)] _).bind _)=_
  simp only [a0i,a0d,a0c,Q6,Q0,Q2,Q3,Q4,if_true,x3]
  show (PT.ev _ a2x _).bind _=_
  by_cases h10:10 < k
  ·have q:ltB 10 (k:Int)=true:=by simp [ltB]; omega
   rw [if_pos (.inl h10)]
   simp -implicitDefEqProofs only [a2x,↓reduceIte,eq_self,ξ1,ξ2,ξ3,ξ4,ξ5,ξ6,ξ7,ξ8,ξ9,ξa,ξb,ξc,ξd,ξe,ξf,ξg,ξh,Nat.reduceAdd,ξi,if_true,if_false,ξl,ξm,ξn,ξo,ξp,ξq,ξr,ξs,ξt,ξu,ξv,ξw,ξx,ξy,ξz,ξA,ξB,ξC,ξD,ξE,q,a0k,or_true]
  have q:ltB 10 (k:Int)=false:=by simp [ltB]; omega
  by_cases h20:20 < l.length
  ·have q':ltB 20 (rows.length:Int)=true:=by simp [ltB]; omega
   rw [if_pos (.inr h20)]
   simp -implicitDefEqProofs only [a2x,↓reduceIte,eq_self,ξ1,ξ2,ξ3,ξ4,ξ5,ξ6,ξ7,ξ8,ξ9,ξa,ξb,ξc,ξd,ξe,ξf,ξg,ξh,Nat.reduceAdd,ξi,if_true,if_false,ξl,ξm,ξn,ξo,ξp,ξq,ξr,ξs,ξt,ξu,ξv,ξw,ξx,ξy,ξz,ξA,ξB,ξC,ξD,ξE,q,x1,x2,q',a0k,or_true]
  have q':ltB 20 (rows.length:Int)=false:=by simp [ltB]; omega
  rw [if_neg (by omega)]
  have hbb:bN 10<=100000000000000000:=by decide +kernel
  have hmono:∀ j,j<=10->bN j<=bN 10:=by decide +kernel
  have hB:=hmono (11-(k+1)) (by omega)
  have loop:∀ (dd i:Nat),i+dd=l.length->∀ (z:Int),0<=z->z+a3i (k+1) (l.drop i)<=5000000000000000000->∀ fuel,dd+1<=fuel ->
    saleroomref13_nodes_S.loop (a0e Tab n) fuel 0 { i:=[(k:Int),z,(i:Int),op,a,b,c,d,e',f,v],b:=[],v:=[x],m:=σ,k:=σ.length }=some (.int .i64 (z+a3i (k+1) (l.drop i)),σ):=by
   intro dd
   induction dd with
   | zero =>
    intro i hi z hz1 hz2 fuel hf
    obtain ⟨fuel,rfl⟩:∃ m,fuel=m+1:=⟨fuel-1,by omega⟩
    have q0:ltB (i:Int) (rows.length:Int)=false:=by simp [ltB]; omega
    rw [Sys.loop,show saleroomref13_nodes_S.loops[0]?=some a2k from rfl]
    simp -implicitDefEqProofs only [Q0,a2k,↓reduceIte,eq_self,ξ1,ξ2,ξ3,ξ4,ξ5,ξ6,ξ7,ξ8,ξ9,ξa,ξb,ξc,ξd,ξe,ξf,ξg,ξh,Nat.reduceAdd,ξi,if_true,if_false,ξl,ξm,ξn,ξo,ξp,ξq,ξr,ξs,ξt,ξu,ξv,ξw,ξx,ξy,ξz,ξA,ξB,ξC,ξD,ξE,q0,x1,x2,a0k,or_true]
    rw [Qn (by omega)]
    simp [a3i]
   | succ dd ihd =>
    intro i hi z hz1 hz2 fuel hf
    obtain ⟨fuel,rfl⟩:∃ m,fuel=m+1:=⟨fuel-1,by omega⟩
    obtain ⟨ei,hei⟩:=a3n (l:=l) (i:=i) (by omega)
    obtain ⟨ri,hri,hrow1⟩:=hl.at hei
    have hszi:=a2Q (Q5 hei)
    have hcall:=ih ei.size (by omega) ei rfl (b3E hw.2 ei (Q5 hei)) ri hrow1 n (by omega) (k+1) (by omega)
    have hdr:l.drop i=ei::l.drop (i+1):=by rw [Qp (i:=i),hei]; rfl
    rw [hdr,a3i] at hz2 ⊢
    have hb1:=b7x (k+1) ei
    have hb2:=a6G (k+1) (l.drop (i+1))
    have hnext:=ihd (i+1) (by omega) (z+a3B (k+1) ei) (by omega) (by omega) fuel (by omega)
    have hloc:=a4d (off:=0) hx hri
    have q0:ltB (i:Int) (rows.length:Int)=true:=by simp [ltB]; omega
    have q2:=a2h (i:=i) (by omega)
    have q3:=a2h (i:=k) (by omega)
    have q4:(leB (-9223372036854775808) (z+a3B (k+1) ei)&&leB (z+a3B (k+1) ei) 9223372036854775807)=true:=a0u (by omega)
    rw [<- Int.add_assoc,<- hnext]
    obtain ⟨op1,a1,b1,c1,d1,e1',f1,v1,l1⟩:=ei
    have hrow1':=hrow1
    simp only [IsE] at hrow1'
    obtain ⟨y,rows1,rfl,hy,hl1⟩:=hrow1'
    obtain ⟨y1,y2,y3⟩:=a0T hy
    generalize a3B (k+1) (Ex.node op1 a1 b1 c1 d1 e1' f1 v1 l1)=u at *
    rw [a0v] at hcall
    rw [Sys.loop,show saleroomref13_nodes_S.loops[0]?=some a2k from rfl]
    simp -implicitDefEqProofs only [Q0,a2k,↓reduceIte,eq_self,ξ1,ξ2,ξ3,ξ4,ξ5,ξ6,ξ7,ξ8,ξ9,ξa,ξb,ξc,ξd,ξe,ξf,ξg,ξh,Nat.reduceAdd,ξi,if_true,if_false,ξl,ξm,ξn,ξo,ξp,ξq,ξr,ξs,ξt,ξu,ξv,ξw,ξx,ξy,ξz,ξA,ξB,ξC,ξD,ξE,q0,x1,x2,le0,hloc,y3,q3,hcall,q4,q2,a0v]
  have hlb:=a6G (k+1) l
  have hmul:(l.length:Int)*bN (11-(k+1))<=20*100000000000000000:=Int.mul_le_mul (by omega) (by omega) (by have:=b7T (11-(k+1)); omega) (by omega)
  have h0:=loop l.length 0 (by omega) 1 (by omega) (by rw [Qh]; omega) n (by omega)
  rw [Qh] at h0
  refine Eq.trans ?_ h0
  simp -implicitDefEqProofs only [a2x,↓reduceIte,eq_self,ξ1,ξ2,ξ3,ξ4,ξ5,ξ6,ξ7,ξ8,ξ9,ξa,ξb,ξc,ξd,ξe,ξf,ξg,ξh,Nat.reduceAdd,ξi,if_true,if_false,ξl,ξm,ξn,ξo,ξp,ξq,ξr,ξs,ξt,ξu,ξv,ξw,ξx,ξy,ξz,ξA,ξB,ξC,ξD,ξE,q,x1,x2,q']
  rfl
end Go.Proofs.Ythmkfeiapdbojaa
set_option maxRecDepth 100000
namespace Go.Proofs.Ythmkfeiapdbojaa
open Go.Sx Go.Kv Go.Bun
def Zk (k:Nat) (kv:KV):Prop:=∀ p∈kv,p.1.getD k 0=0
section
variable {k:Nat} {lim:List Int}
theorem b4D {kv:KV} (h:Zk k kv) {b:List Int} {v:Int} (hb:b.getD k 0=0):Zk k (a2I lim kv b v):=by
 unfold a2I
 split
 ·intro p hp
  rcases b7a.1 hp with rfl | ⟨hp,_⟩
  ·exact hb
  ·exact h p hp
 ·exact h
theorem a4P:∀ {L kv:KV},Zk k kv->(∀ p∈L,p.1.getD k 0=0)->Zk k (raises lim kv L)
 | [],_,h,_=>h
 | p::L,kv,h,hL=>by rw [a7Z]; exact a4P (b4D h (hL p (by simp))) (fun q hq=>hL q (by simp [hq]))
theorem a8t:Zk k []:=fun p hp=>by simp at hp
theorem c1H:∀ {a b:List Int} {k:Nat},a.getD k 0=0->b.getD k 0=0->(a2X a b).getD k 0=0
 | [],_,_,_,_=>by simp [a2X]
 | _::_,[],_,_,_=>by simp [a2X]
 | x::a,y::b,0,h,g=>by simp [a2X] at *; omega
 | x::a,y::b,k+1,h,g=>by
  have:=c1H (a:=a) (b:=b) (k:=k) (by simpa using h) (by simpa using g)
  simpa [a2X] using this
theorem b9V:∀ {a b:List Int} {k:Nat},a.getD k 0=0->b.getD k 0=0->(a2o a b).getD k 0=0
 | [],_,_,_,_=>by simp [a2o]
 | _::_,[],_,_,_=>by simp [a2o]
 | x::a,y::b,0,h,g=>by simp [a2o] at *; omega
 | x::a,y::b,k+1,h,g=>by
  have:=b9V (a:=a) (b:=b) (k:=k) (by simpa using h) (by simpa using g)
  simpa [a2o] using this
theorem d0H {x y:KV} (hx:Zk k x) (hy:Zk k y):Zk k (a3r lim x y):=by
 unfold a3r
 refine a4P (a4P (a4P a8t hx) hy) fun p hp=>?_
 simp only [a6r,List.mem_flatMap,Qj] at hp
 obtain ⟨a,ha,b,hb,rfl⟩:=hp
 exact c1H (hx a ha) (hy b hb)
theorem b9b {F:KV->KV->KV} (hF:∀ a b,Zk k a->Zk k b->Zk k (F a b)):∀ {l:List KV} {a:KV},Zk k a->(∀ x∈l,Zk k x)->Zk k (l.foldl F a)
 | [],_,h,_=>h
 | x::l,a,h,hl=>by rw [List.foldl_cons]; exact b9b hF (hF a x h (hl x (by simp))) (fun y hy=>hl y (by simp [hy]))
theorem c9i {l:List Int} (h:nnL l=true) (k:Nat) (hu:decide (0 < l.getD k 0)=false):l.getD k 0=0:=by
 have hu:=of_decide_eq_false hu
 rw [List.getD_eq_getElem?_getD] at hu ⊢
 cases hk:l[k]? with
 | none=>rfl
 | some z =>
  rw [hk] at hu
  have:=Qt.1 h z (Q5 hk)
  simp only [Option.getD_some,decide_eq_true_eq] at *
  omega
mutual
theorem d0V:∀ e:Ex,okX e=true->a5I k e=false->Zk k (a0z lim e)
 | .node op a b c d e f v l,h,hu=>by
  simp only [okX,Qk] at h
  obtain ⟨⟨⟨⟨h1,h2⟩,h3⟩,h4⟩,h5⟩:=h
  simp only [a5I,Qu] at hu
  have hw:=c9i h1 k hu.1
  have hl:=c5P l h5 hu.2
  have hhead:Zk k ((a1p lim l).headD []):=by
   cases hk:a1p lim l with
   | nil=>exact a8t
   | cons x r=>exact hl x (by rw [hk]; simp)
  simp only [a0z]
  split
  ·exact b4D a8t hw
  split
  ·exact b9b (fun a b ha hb=>a4P ha hb) a8t hl
  split
  ·exact b9b (fun a b=>d0H) a8t hl
  split
  ·unfold a9U
   refine a4P (b4D (a4P a8t hhead) hw) fun p hp=>?_
   obtain ⟨q,hq,rfl⟩:=Qj.1 hp
   exact b9V (hhead q hq) hw
  split
  ·unfold a8r
   refine a4P a8t fun p hp=>?_
   obtain ⟨q,hq,rfl⟩:=Qj.1 hp
   exact hhead q hq
  ·exact a8t
theorem c5P:∀ l:List Ex,a3k l=true->b1y k l=false->∀ x∈a1p lim l,Zk k x
 | [],_,_=>by simp [a1p]
 | e::l,h,hu=>by
  simp only [a3k,Qk] at h
  simp only [b1y,Qu] at hu
  have i1:=d0V e h.1 hu.1
  have i2:=c5P l h.2 hu.2
  intro x hx
  simp only [a1p,Q1] at hx
  rcases hx with rfl | hx
  ·exact i1
  ·exact i2 x hx
end
end
def d2Q (e:Ex) (b:Bd):Bd:=⟨if a5I 0 e then b.a else 0,if a5I 1 e then b.b else 0,if a5I 2 e then b.c else 0,if a5I 3 e then b.d else 0,if a5I 4 e then b.e else 0,if a5I 5 e then b.f else 0⟩
theorem d3i {e:Ex} {b:Bd} (h:b.Ok):(d2Q e b).Ok:=by
 simp only [Bd.Ok,d2Q] at *
 refine ⟨?_,?_,?_,?_,?_,?_⟩<;>split<;>omega
theorem d3k {e:Ex} (he:okX e=true) {b:Bd} (hb:b.Ok):vX e (d2Q e b).l=vX e b.l:=by
 refine a1O fun c=>?_
 unfold vX
 rw [a6g,a6g]
 refine and_congr_right fun _=>forall_congr' fun p=>?_
 constructor
 all_goals
  intro h hp hl
  refine h hp ?_
  have h6:=b7N (a2P a1t e he) hp
  obtain ⟨x,hx⟩:=c6x (l:=p.1) h6
  have z:∀ k,a5I k e=false->p.1.getD k 0=0:=fun k hk=>d0V e he hk p hp
  rw [hx] at hl ⊢
  have hl:=a7e.1 hl
  rw [a7e]
  have z0:=z 0
  have z1:=z 1
  have z2:=z 2
  have z3:=z 3
  have z4:=z 4
  have z5:=z 5
  rw [hx] at z0 z1 z2 z3 z4 z5
  simp only [Bd.l,Qq,Qr] at z0 z1 z2 z3 z4 z5
  simp only [Bd.Ok] at hb
  simp only [Bd.Le,d2Q] at hl ⊢
  cases h0:a5I 0 e<;>cases h1:a5I 1 e<;>cases h2:a5I 2 e<;>cases h3:a5I 3 e<;>cases h4:a5I 4 e<;>cases h5:a5I 5 e<;>simp only [h0,h1,h2,h3,h4,h5,if_true,if_false,Q7,forall_const,true_implies,reduceCtorEq,false_implies] at z0 z1 z2 z3 z4 z5 hl ⊢<;>omega
def b4H (e:Ex) (i:Nat):Nat:=((List.range i).filter fun k=>a5I k e).length
theorem d3b (e:Ex):b4H e 0=0:=rfl
theorem c6n (e:Ex) (i:Nat):b4H e (i+1)=b4H e i+if a5I i e then 1 else 0:=by
 unfold b4H
 rw [List.range_succ,List.filter_append,Qv]
 cases h:a5I i e<;>simp [h]
theorem d3g {e:Ex} {b:Bd} (hb:b.Ok) (h:b4H e 6<=2):(d2Q e b).cnt≠0:=by
 have hr:=d3i (e:=e) hb
 have hb':=hb
 simp only [Bd.Ok] at hb'
 unfold Bd.cnt
 rw [if_pos hr]
 have hprod:(d2Q e b).prod<=1024:=by
  simp only [c6n,d3b] at h
  have up:∀ (x A y:Int) (u:Bool),0<=x/\x<=A->0<=y/\y<=4->0<=x*((if u=true then y else 0)+1)/\x*((if u=true then y else 0)+1)<=A*(if u=true then 5 else 1):=fun x A y u h1 h2=>by
   refine a2i h1 ?_
   split<;>omega
  unfold Bd.prod d2Q
  simp only
  have p0:=up 1 1 b.a (a5I 0 e) (by omega) hb'.1
  have p1:=up _ _ b.b (a5I 1 e) p0 hb'.2.1
  have p2:=up _ _ b.c (a5I 2 e) p1 hb'.2.2.1
  have p3:=up _ _ b.d (a5I 3 e) p2 hb'.2.2.2.1
  have p4:=up _ _ b.e (a5I 4 e) p3 hb'.2.2.2.2.1
  have p5:=up _ _ b.f (a5I 5 e) p4 hb'.2.2.2.2.2
  refine Int.le_trans p5.2 ?_
  clear p0 p1 p2 p3 p4 p5 up
  cases h0:a5I 0 e<;>cases h1:a5I 1 e<;>cases h2:a5I 2 e<;>cases h3:a5I 3 e<;>cases h4:a5I 4 e<;>cases h5:a5I 5 e<;>simp only [h0,h1,h2,h3,h4,h5,if_true,if_false,Q7] at h ⊢<;>omega
 rw [if_neg (by omega)]
 obtain ⟨p1,p2,p3,p4,p5,p6,_,_,_,_,_,_,_,_,_,_,_,b6,hp⟩:=b6S hr
 omega
theorem d3l {s:Bd} (hc:s.cnt≠0) {N:Nat} (hN:(N:Int)=s.cnt):s.unr ((N-1:Nat):Int)=s:=by
 have hs:=Bd.ok_of_cnt hc
 have hcl:=a6p hc
 obtain ⟨n,_,h2,h3⟩:=b7U hc hs (show s.Le s by simp only [Bd.Le]; omega)
 have hle:=c9o hc (i:=n) (k:=N-1) h2 (by omega) (by rw [h3]; exact (a3m hs _).2)
 rw [show N-1=n by omega,h3]
end Go.Proofs.Ythmkfeiapdbojaa
set_option maxRecDepth 100000
namespace Go.Proofs.Ythmkfeiapdbojaa
open Go.Sx Go.Kv Go.Bun
def b6E (e:Ex):Bool:=decide (b4H e 6<=2)&&decide (a3B 0 e<=14)
theorem c9V (e:Ex) (i:Nat):b4H e i<=i:=by
 unfold b4H
 have:=List.length_filter_le (fun k=>a5I k e) (List.range i)
 rwa [List.length_range] at this
section
variable {σ:List MO} {e:Ex} {row:List PV}
theorem d0M (hw:a6u e) (hrow:IsE e row) (n:Nat) (hn:e.size+20<=n):a0e Tab n 15 [.agg row] σ=some (.bool (b6E e),σ):=by
 obtain ⟨n,rfl⟩:∃ m,n=m+1:=⟨n-1,by omega⟩
 have hu:=fun k hk=>c9T σ e hw row hrow n (by omega) k hk
 have hnd:=c5B σ e hw row hrow n (by omega) 0 (by omega)
 have hcs:=c6n e
 have hcl:=c9V e
 unfold b6E
 generalize b4H e=cu at *
 generalize a3B 0 e=nd at *
 have hus:∀ k,a5I k e=(fun k=>a5I k e) k:=fun _=>rfl
 generalize hU:(fun k=>a5I k e)=ux at *
 simp only [hus] at hu hcs
 obtain ⟨op,a,b,c,d,e',f,v,l⟩:=e
 simp only [IsE] at hrow
 obtain ⟨x,rows,rfl,hx,hl⟩:=hrow
 obtain ⟨x1,x2,x3⟩:=a0T hx
 have step:∀ i:Nat,i < 6->∀ fuel,saleroomref13_Few_S.loop (a0e Tab n) (fuel+1) 0 { i:=[(cu i:Int),(i:Int),op,a,b,c,d,e',f,v],b:=[],v:=[x],m:=σ,k:=σ.length } =
   saleroomref13_Few_S.loop (a0e Tab n) fuel 0 { i:=[(cu (i+1):Int),((i+1:Nat):Int),op,a,b,c,d,e',f,v],b:=[],v:=[x],m:=σ,k:=σ.length }:=by
  intro i hi fuel
  have h1:=hu i hi
  have h2:=hcs i
  have h3:=hcl i
  have q0:ltB (i:Int) 6=true:=by simp [ltB]; omega
  have q1:=a2h (i:=i) (by omega)
  have q2:=a2h (i:=cu i) (by omega)
  rw [Sys.loop,show saleroomref13_Few_S.loops[0]?=some a1M from rfl]
  cases hux:ux i with
  | true =>
   rw [hux] at h1 h2
   simp only [if_true] at h2
   rw [h2]
   simp -implicitDefEqProofs only [Q0,a1M,↓reduceIte,eq_self,ξ1,ξ2,ξ3,ξ4,ξ5,ξ6,ξ7,ξ8,ξ9,ξa,ξb,ξc,ξd,ξe,ξf,ξg,ξh,Nat.reduceAdd,ξi,if_true,if_false,ξl,ξm,ξn,ξo,ξp,ξq,ξr,ξs,ξt,ξu,ξv,ξw,ξx,ξy,ξz,ξA,ξB,ξC,ξD,ξE,q0,h1,q1,q2,a0v]
  | false =>
   rw [hux] at h1 h2
   simp only [Q7,if_false,Nat.add_zero] at h2
   rw [h2]
   simp -implicitDefEqProofs only [Q0,a1M,↓reduceIte,eq_self,ξ1,ξ2,ξ3,ξ4,ξ5,ξ6,ξ7,ξ8,ξ9,ξa,ξb,ξc,ξd,ξe,ξf,ξg,ξh,Nat.reduceAdd,ξi,if_true,if_false,ξl,ξm,ξn,ξo,ξp,ξq,ξr,ξs,ξt,ξu,ξv,ξw,ξx,ξy,ξz,ξA,ξB,ξC,ξD,ξE,q0,h1,q1,a0v]
 have h0:=a3R (fun i=>{ i:=[(cu i:Int),(i:Int),op,a,b,c,d,e',f,v],b:=[],v:=[x],m:=σ,k:=σ.length }) step 6 0 (by omega) (n-6)
 have hc0:cu 0=0:=by have:=hcl 0; omega
 rw [show n-6+6=n by omega,hc0] at h0
 rw [a0e,b1N]
 simp only [Q0,Sys.run]
 show ((a0i [.sh (.agg [_,_,_,_,_,_,_,_,_])] _).bind _)=_
 simp only [a0i,a0d,a0c,Q6,Q0,Q2,Q3,Q4,if_true,x3]
 show (PT.ev _ a7v _).bind _=_
 refine Eq.trans (b:=saleroomref13_Few_S.loop (a0e Tab n) n 0 { i:=[((0:Nat):Int),((0:Nat):Int),op,a,b,c,d,e',f,v],b:=[],v:=[x],m:=σ,k:=σ.length }) rfl ?_
 rw [h0]
 obtain ⟨fu,hfu⟩:∃ k,n-6=k+1:=⟨n-7,by omega⟩
 rw [hfu,Sys.loop,show saleroomref13_Few_S.loops[0]?=some a1M from rfl]
 have q0:ltB ((6:Nat):Int) 6=false:=rfl
 have hnd':a0e Tab n 46 [.agg [.int .i64 op,.int .i64 a,.int .i64 b,.int .i64 c,.int .i64 d,.int .i64 e',.int .i64 f,.int .i64 v,x],.int .i64 0] σ=some (.int .i64 nd,σ):=hnd
 by_cases h2:cu 6<=2
 ·have q2:leB (cu 6:Int) 2=true:=by simp [leB]; omega
  simp -implicitDefEqProofs only [Q0,a1M,↓reduceIte,eq_self,ξ1,ξ2,ξ3,ξ4,ξ5,ξ6,ξ7,ξ8,ξ9,ξa,ξb,ξc,ξd,ξe,ξf,ξg,ξh,Nat.reduceAdd,ξi,if_true,if_false,ξl,ξm,ξn,ξo,ξp,ξq,ξr,ξs,ξt,ξu,ξv,ξw,ξx,ξy,ξz,ξA,ξB,ξC,ξD,ξE,q0,q2,hnd',a0k,or_true]
  rw [decide_eq_true h2]
  rfl
 ·have q2:leB (cu 6:Int) 2=false:=by simp [leB]; omega
  simp -implicitDefEqProofs only [Q0,a1M,↓reduceIte,eq_self,ξ1,ξ2,ξ3,ξ4,ξ5,ξ6,ξ7,ξ8,ξ9,ξa,ξb,ξc,ξd,ξe,ξf,ξg,ξh,Nat.reduceAdd,ξi,if_true,if_false,ξl,ξm,ξn,ξo,ξp,ξq,ξr,ξs,ξt,ξu,ξv,ξw,ξx,ξy,ξz,ξA,ξB,ξC,ξD,ξE,q0,q2,a0k,or_true]
  rw [decide_eq_false h2]
  rfl
def zp (u:Nat->Bool) (b:Bd) (i:Nat):Bd:=⟨if i<=0\/u 0 then b.a else 0,if i<=1\/u 1 then b.b else 0,if i<=2\/u 2 then b.c else 0,if i<=3\/u 3 then b.d else 0,if i<=4\/u 4 then b.e else 0,if i<=5\/u 5 then b.f else 0⟩
theorem d3m (e:Ex) (b:Bd):zp (fun k=>a5I k e) b 6=d2Q e b:=by simp [zp,d2Q]
theorem d3n (u:Nat->Bool) (b:Bd):zp u b 0=b:=by simp [zp]
theorem d3e (hw:a6u e) (hrow:IsE e row) (hsz:e.size<=400) (hfew:b4H e 6<=2) (hlow:σ.all (MO.low σ.length)=true) (b:Bd) (n:Nat) (hn:4000000<=n) :
  a0e Tab n 21 [.agg row,.agg (bpv b)] σ=some (.int .i64 (if chk e=0/\b.Ok then vX e b.l else 0),σ):=by
 obtain ⟨n,rfl⟩:∃ m,n=m+2:=⟨n-2,by omega⟩
 have hck:=c4b σ e row hrow (n+1) (by omega) (by omega)
 have hbc:=b3H b σ n
 have hu:=fun k hk=>c9T σ e hw row hrow (n+1) (by omega) k hk
 have hv:chk e=0->b.Ok->∃ (h:Nat) (g:List MO) (N:Nat),a0e Tab (n+1) 51 [.agg row,.agg (bpv (d2Q e b))] σ=some (.msl h 0 N N 1,σ++g)/\1<=N/\N<=1024/\∃ t:List Int,(σ++g)[h]?=some (.cells (iPV t) 2)/\t[N-1]?=some (vX e b.l):=by
  intro h1 h2
  have hc:=d3g h2 hfew
  have hcl:=a6p hc
  obtain ⟨N,hN⟩:∃ N:Nat,(N:Int)=(d2Q e b).cnt:=⟨(d2Q e b).cnt.toNat,by omega⟩
  obtain ⟨h,g,r1,r2,r3⟩:=c8S hc hN e (c1v h1).2.2.2 hsz row hrow (n+1) (by omega) σ
  refine ⟨h,g,N,r1,by omega,by omega,_,r3,?_⟩
  have:(a2e e (d2Q e b) N)[N-1]?=some (vX e ((d2Q e b).unr ((N-1:Nat):Int)).l):=by
   unfold a2e
   rw [List.getElem?_map,List.getElem?_range (by omega)]; rfl
  rw [this,d3l hc hN,d3k (a8v h1) h2]
 rw [<- d3m] at hv
 generalize chk e=ck at *
 generalize vX e b.l=vv at *
 have hus:∀ k,a5I k e=(fun k=>a5I k e) k:=fun _=>rfl
 generalize hU:(fun k=>a5I k e)=ux at *
 simp only [hus] at hu
 obtain ⟨op,a,b',c,d,e',f,v,l⟩:=e
 simp only [IsE] at hrow
 obtain ⟨x,rows,rfl,hx,hl⟩:=hrow
 obtain ⟨x1,x2,x3⟩:=a0T hx
 have step:∀ i:Nat,i < 6->∀ fuel,saleroomref13_Value_S.loop (a0e Tab (n+1)) (fuel+1) 0 { i:=[(i:Int),op,a,b',c,d,e',f,v,(zp ux b i).a,(zp ux b i).b,(zp ux b i).c,(zp ux b i).d,(zp ux b i).e,(zp ux b i).f],b:=[],v:=[x],m:=σ,k:=σ.length } =
   saleroomref13_Value_S.loop (a0e Tab (n+1)) fuel 0 { i:=[((i+1:Nat):Int),op,a,b',c,d,e',f,v,(zp ux b (i+1)).a,(zp ux b (i+1)).b,(zp ux b (i+1)).c,(zp ux b (i+1)).d,(zp ux b (i+1)).e,(zp ux b (i+1)).f],b:=[],v:=[x],m:=σ,k:=σ.length }:=by
  intro i hi fuel
  have h1:=hu i hi
  have q0:ltB (i:Int) 6=true:=by simp [ltB]; omega
  have q1:=a2h (i:=i) (by omega)
  rw [Sys.loop,show saleroomref13_Value_S.loops[0]?=some d2K from rfl]
  cases hux:ux i with
  | true =>
   rw [hux] at h1
   have hz:zp ux b (i+1)=zp ux b i:=by
    have h6:i=0\/i=1\/i=2\/i=3\/i=4\/i=5:=by omega
    rcases h6 with rfl | rfl | rfl | rfl | rfl | rfl<;>simp [zp,hux]
   rw [hz]
   simp -implicitDefEqProofs only [Q0,d2K,↓reduceIte,eq_self,ξ1,ξ2,ξ3,ξ4,ξ5,ξ6,ξ7,ξ8,ξ9,ξa,ξb,ξc,ξd,ξe,ξf,ξg,ξh,Nat.reduceAdd,ξi,if_true,if_false,ξl,ξm,ξn,ξo,ξp,ξq,ξr,ξs,ξt,ξu,ξv,ξw,ξx,ξy,ξz,ξA,ξB,ξC,ξD,ξE,q0,h1,q1,a0v]
  | false =>
   rw [hux] at h1
   have h6:i=0\/i=1\/i=2\/i=3\/i=4\/i=5:=by omega
   rcases h6 with rfl | rfl | rfl | rfl | rfl | rfl
   all_goals
    simp only [Qs,Int.reduceAdd,Nat.reduceAdd] at h1 q0 ⊢
    simp -implicitDefEqProofs only [Q0,d2K,↓reduceIte,eq_self,ξ1,ξ2,ξ3,ξ4,ξ5,ξ6,ξ7,ξ8,ξ9,ξa,ξb,ξc,ξd,ξe,ξf,ξg,ξh,Nat.reduceAdd,ξi,if_true,if_false,ξl,ξm,ξn,ξo,ξp,ξq,ξr,ξs,ξt,ξu,ξv,ξw,ξx,ξy,ξz,ξA,ξB,ξC,ξD,ξE,q0,h1,a3x,Int.reduceEq,decide_true,decide_false,zp,hux,Nat.reduceLeDiff,Nat.le_zero_eq,Nat.reduceLeDiff,Nat.le_refl,Nat.zero_le,Nat.one_ne_zero,Nat.reduceEqDiff,or_false,or_true,true_or,false_or,if_true,if_false,Q7]
 have h0:=a3R (fun i=>{ i:=[(i:Int),op,a,b',c,d,e',f,v,(zp ux b i).a,(zp ux b i).b,(zp ux b i).c,(zp ux b i).d,(zp ux b i).e,(zp ux b i).f],b:=[],v:=[x],m:=σ,k:=σ.length }) step 6 0 (by omega) (n+1-6)
 rw [show n+1-6+6=n+1 by omega,d3n] at h0
 rw [a0e,d2V]
 simp only [Q0,Sys.run]
 show ((a0i [.sh (.agg [_,_,_,_,_,_,_,_,_]),.sh (.agg [_,_,_,_,_,_])] _).bind _)=_
 simp only [bpv] at hbc hv ⊢
 simp only [a0i,a0d,a0c,Q6,Q0,Q2,Q3,Q4,if_true,x3]
 show (PT.ev _ d2M _).bind _=_
 by_cases hc0:ck=0
 case neg =>
  have q:eqB ck 0=false:=eqF hc0
  rw [if_neg (fun h=>hc0 h.1)]
  simp -implicitDefEqProofs only [d2M,↓reduceIte,eq_self,ξ1,ξ2,ξ3,ξ4,ξ5,ξ6,ξ7,ξ8,ξ9,ξa,ξb,ξc,ξd,ξe,ξf,ξg,ξh,Nat.reduceAdd,ξi,if_true,if_false,ξl,ξm,ξn,ξo,ξp,ξq,ξr,ξs,ξt,ξu,ξv,ξw,ξx,ξy,ξz,ξA,ξB,ξC,ξD,ξE,hck,q,a0k,or_true]
 subst hc0
 have qz:eqB 0 0=true:=rfl
 by_cases hb:b.Ok
 case neg =>
  have hb0:b.check=4:=by unfold Bd.check; rw [if_neg hb]
  rw [hb0] at hbc
  have q:eqB 4 0=false:=rfl
  rw [if_neg (fun h=>hb h.2)]
  simp -implicitDefEqProofs only [d2M,↓reduceIte,eq_self,ξ1,ξ2,ξ3,ξ4,ξ5,ξ6,ξ7,ξ8,ξ9,ξa,ξb,ξc,ξd,ξe,ξf,ξg,ξh,Nat.reduceAdd,ξi,if_true,if_false,ξl,ξm,ξn,ξo,ξp,ξq,ξr,ξs,ξt,ξu,ξv,ξw,ξx,ξy,ξz,ξA,ξB,ξC,ξD,ξE,hck,qz,hbc,q,a0k,or_true]
 have hb0:b.check=0:=Bd.check_zero.2 hb
 rw [hb0] at hbc
 rw [if_pos ⟨rfl,hb⟩]
 obtain ⟨h,g,N,r1,r2,r2',t,r3,r4⟩:=hv rfl hb
 refine Eq.trans (b:=saleroomref13_Value_S.loop (a0e Tab (n+1)) (n+1) 0 { i:=[((0:Nat):Int),op,a,b',c,d,e',f,v,b.a,b.b,b.c,b.d,b.e,b.f],b:=[],v:=[x],m:=σ,k:=σ.length }) ?_ ?_
 ·simp -implicitDefEqProofs only [d2M,↓reduceIte,eq_self,ξ1,ξ2,ξ3,ξ4,ξ5,ξ6,ξ7,ξ8,ξ9,ξa,ξb,ξc,ξd,ξe,ξf,ξg,ξh,Nat.reduceAdd,ξi,if_true,if_false,ξl,ξm,ξn,ξo,ξp,ξq,ξr,ξs,ξt,ξu,ξv,ξw,ξx,ξy,ξz,ξA,ξB,ξC,ξD,ξE,hck,qz,hbc]
  rfl
 rw [h0]
 obtain ⟨fu,hfu⟩:∃ k,n+1-6=k+1:=⟨n-6,by omega⟩
 rw [hfu,Sys.loop,show saleroomref13_Value_S.loops[0]?=some d2K from rfl]
 have q0:ltB ((6:Nat):Int) 6=false:=rfl
 have hone:(PV.msl h 0 N N 1).one=true:=rfl
 have hlen:(PV.msl h 0 N N 1).len=(N:Int):=rfl
 have hkind:(PV.msl h 0 N N 1).isKind 0=true:=rfl
 have hn1:(N:Int)-1=((N-1:Nat):Int):=by omega
 have l1:=a3p (h:=h) (c:=N) (i:=N-1) (n:=N) (by omega)
 have rd:=a7n r4
 have q3:(leB (-9223372036854775808) ((N-1:Nat):Int)&&leB ((N-1:Nat):Int) 9223372036854775807)=true:=a0u (by omega)
 have q4:ltB ((N-1:Nat):Int) (N:Int)=true:=by simp [ltB]; omega
 unfold a0f at rd
 have hret:∀ ρ:PEnv,ρ.m=σ++g->ρ.k=σ.length->a0k ρ false (.int .i64 vv)=some (.int .i64 vv,σ):=by
  intro ρ e1 e2
  unfold a0k
  rw [e1,e2]
  by_cases hg:(σ++g).length=σ.length
  ·have:g=[]:=by
    rw [Qv] at hg
    exact List.eq_nil_of_length_eq_zero (by omega)
   subst this
   rw [if_pos (.inr hg),Q2]
  ·rw [if_neg (by simp only [Q7,false_or]; exact hg),List.take_left,if_pos hlow]
   rfl
 simp -implicitDefEqProofs only [Q0,d2K,↓reduceIte,eq_self,ξ1,ξ2,ξ3,ξ4,ξ5,ξ6,ξ7,ξ8,ξ9,ξa,ξb,ξc,ξd,ξe,ξf,ξg,ξh,Nat.reduceAdd,ξi,if_true,if_false,ξl,ξm,ξn,ξo,ξp,ξq,ξr,ξs,ξt,ξu,ξv,ξw,ξx,ξy,ξz,ξA,ξB,ξC,ξD,ξE,q0,r1,hone,hkind,hlen,hn1,q3,q4,le0,l1,r3,MO.list,rd,hret]
end
end Go.Proofs.Ythmkfeiapdbojaa
set_option maxRecDepth 100000
namespace Go.Proofs.Ythmkfeiapdbojaa
open Go.Sx Go.Kv Go.Bun
def c2l (e:Ex) (b:Bd):Int:=if chk e=0/\b.Ok then vX e b.l else 0
section
variable {e:Ex} {row:List PV}
theorem d0n {n:Nat} (hn:2000<=n):a0e a4u n a6R [] []=some (.bool true,[]):=c7R hn c9U
theorem d0p (hrow:IsE e row) (he:e.size<=400) (b:Bd) {σ:List MO} (hlow:σ.all (MO.low σ.length)=true) (n:Nat):a0e a4u (n+1) 18 [.agg row,.agg (bpv b)] σ=some (.int .i64 (c2l e b),σ):=by
 have hT:a4u 18=some valueP:=rfl
 rw [a0e,hT]
 have hb:a5B (bpv b)=some b.l:=a7s b.l
 simp only [Q0,Sys.run,valueP,b7z,b5F 400 e row hrow he,hb]
 rw [if_pos ⟨rfl,he,hlow⟩,c9J]
 rfl
theorem d3a (hw:a6u e) (hrow:IsE e row) (hsz:e.size<=400) (hfew:b4H e 6<=2) {σ:List MO} (hlow:σ.all (MO.low σ.length)=true) (b:Bd) (n:Nat) (hn:4000000<=n) :
  a0e a4u n 21 [.agg row,.agg (bpv b)] σ=some (.int .i64 (c2l e b),σ):=evH (d3e hw hrow hsz hfew hlow b n hn)
theorem c7G (h:b6E e=true):b4H e 6<=2/\e.size<=14:=by
 unfold b6E at h
 simp only [Qk,decide_eq_true_eq] at h
 have:=b6u 0 e (by omega)
 omega
theorem d2o (hw:a6u e) (hrow:IsE e row) (n:Nat) (hn:e.size+20<=n) {σ:List MO}:a0e a4u n 15 [.agg row] σ=some (.bool (b6E e),σ):=evH (d0M hw hrow n hn)
end
end Go.Proofs.Ythmkfeiapdbojaa
set_option maxRecDepth 100000
namespace Go.Proofs.Ythmkfeiapdbojaa
open Go.Sx Go.Bun
theorem c8p {rows:List (List PV)} (h:∀ r∈rows,∃ e,IsE e r/\a6u e/\9*e.size<=PV.wts r):∃ l,a1k l rows/\b1X l/\l.length=rows.length/\9*a2a l<=PV.wtss rows:=by
 induction rows with
 | nil=>exact ⟨[],by simp [a1k],by simp [b1X],rfl,by simp [a2a,PV.wtss]⟩
 | cons r rows ih =>
  obtain ⟨e,he,hw,hs⟩:=h r (by simp)
  obtain ⟨l,hl,hlw,hln,hls⟩:=ih (fun r hr=>h r (by simp [hr]))
  exact ⟨e::l,⟨r,rows,rfl,he,hl⟩,⟨hw,hlw⟩,by simp [hln],by simp only [a2a,PV.wtss]; omega⟩
theorem c1G {n:Nat} {ps:List PV} (h:a1r Try.prog n 23 ps):∃ b:Bd,ps=bpv b:=by
 obtain ⟨m,_,h⟩:=c1h Try.underlying23 h
 simp only [List.replicate,a5Q] at h
 obtain ⟨_,_,rfl,h1,_,_,rfl,h2,_,_,rfl,h3,_,_,rfl,h4,_,_,rfl,h5,_,_,rfl,h6,rfl⟩:=h
 obtain ⟨a,rfl,_⟩:=a3W (k:=.i64) (by kernel_rfl) h1
 obtain ⟨b,rfl,_⟩:=a3W (k:=.i64) (by kernel_rfl) h2
 obtain ⟨c,rfl,_⟩:=a3W (k:=.i64) (by kernel_rfl) h3
 obtain ⟨d,rfl,_⟩:=a3W (k:=.i64) (by kernel_rfl) h4
 obtain ⟨e,rfl,_⟩:=a3W (k:=.i64) (by kernel_rfl) h5
 obtain ⟨f,rfl,_⟩:=a3W (k:=.i64) (by kernel_rfl) h6
 exact ⟨⟨a,b,c,d,e,f⟩,rfl⟩
theorem c6B:∀ (n:Nat) (ps:List PV),a1r Try.prog n 26 ps->∃ e,IsE e ps/\a6u e/\9*e.size<=PV.wts ps:=by
 intro n
 induction n using Nat.strongRecOn with
 | _ n ih =>
 intro ps h
 obtain ⟨m,hm,h⟩:=c0s Try.underlying26 h
 simp only [List.map_cons,List.map_nil,a5Q] at h
 obtain ⟨_,_,rfl,h1,_,_,rfl,h2,_,_,rfl,h3,_,_,rfl,h4,rfl⟩:=h
 obtain ⟨op,rfl,_⟩:=a3W (k:=.i64) (by kernel_rfl) h1
 obtain ⟨w,rfl⟩:=c1G h2
 obtain ⟨v,rfl,_⟩:=a3W (k:=.i64) (by kernel_rfl) h3
 obtain ⟨k,rows,hk,rfl,hr,hrl⟩:=b9Y (e:=26) (by kernel_rfl) h4
 obtain ⟨l,hl,hw,hln,hs⟩:=c8p (fun r hr'=>ih k (by omega) r (hr r hr'))
 have hc:Try.prog.cellsOf 26=9:=by kernel_rfl
 rw [hc]
 refine ⟨.node op w.a w.b w.c w.d w.e w.f v l,?_,?_,?_⟩
 ·simp only [IsE]
  exact ⟨_,rows,rfl,by simp [PV.rowsOf],hl⟩
 ·simp only [a6u]; exact ⟨by omega,hw⟩
 ·simp only [Ex.size,bpv,Q4,Q3,Q2,PV.wts,PV.wt]; omega
end Go.Proofs.Ythmkfeiapdbojaa
set_option maxRecDepth 100000
namespace Go.Proofs.Ythmkfeiapdbojaa
open Go.Sx Go.Kv Go.Bun
end Go.Proofs.Ythmkfeiapdbojaa
set_option maxRecDepth 100000
namespace Go.Proofs.Ythmkfeiapdbojaa
open Go.Sx Go.Kv Go.Bun
def a2b (L:List (List Int)):List (List PV):=L.map lpv
inductive HoldsL (m:List MO) (L:List (List Int)):PV->Prop
 | sl:HoldsL m L (.sl 6 (a2b L))
 | rsl {h:Nat}:m[h]?=some (.row (a2b L) 6 23)->HoldsL m L (.rsl h L.length 6)
section
variable {Φ:Fns} {m0:List MO} {L:List (List Int)} {p:PV} {s:Bd} {K:Nat}
end
end Go.Proofs.Ythmkfeiapdbojaa
set_option maxRecDepth 100000
namespace Go.Proofs.Ythmkfeiapdbojaa
open Go.Sx Go.Kv Go.Bun
section
variable {Φ:Fns} {m0:List MO} {L:List (List Int)} {p:PV} {s:Bd} {K:Nat}
end
end Go.Proofs.Ythmkfeiapdbojaa
set_option maxRecDepth 100000
namespace Go.Proofs.Ythmkfeiapdbojaa
open Go.Sx Go.Kv Go.Bun
section
variable {σ:List MO} {t:List Int} {s:Bd}
end
end Go.Proofs.Ythmkfeiapdbojaa
set_option maxRecDepth 100000
namespace Go.Proofs.Ythmkfeiapdbojaa
open Go.Sx Go.Kv Go.Bun
section
variable {σ:List MO} {t:List Int} {s:Bd}
end
end Go.Proofs.Ythmkfeiapdbojaa
set_option maxRecDepth 100000
namespace Go.Proofs.Ythmkfeiapdbojaa
open Go.Sx Go.Kv Go.Bun
section
variable {e:Ex} {row:List PV}
end
def d2J (op:Int) (x y:Ex):Ex:=.node op 0 0 0 0 0 0 0 [x,y]
theorem d3o (x y:Ex) (hx:okX x=true) (hy:okX y=true) {b:Bd} (hb:b.Ok):vX (d2J 2 x y) b.l=mxI (vX x b.l) (vX y b.l):=by
 have gx:=a2P a1t x hx
 have gy:=a2P a1t y hy
 refine a1O fun c=>?_
 unfold vX d2J
 simp only [a0z,Int.reduceEq,if_false,if_true]
 rw [b9n (c5c hb) (.nil _) (fun z hz=>by
  simp only [a1p,Q1,Qm,or_false] at hz
  rcases hz with rfl | rfl
  ·exact gx
  ·exact gy),a5c]
 simp only [a1p,Q1,Qm,or_false,forall_eq_or_imp,forall_eq]
 have h0:=a1y (a0z a1t x) b.l
 unfold mxI
 constructor
 ·rintro ⟨_,h1,h2⟩; split<;>omega
 ·intro h; split at h<;>omega
theorem d3p (x y:Ex) (hx:okX x=true) (hy:okX y=true) {b:Bd} (hb:b.Ok):vX x b.l<=vX (d2J 3 x y) b.l/\vX y b.l<=vX (d2J 3 x y) b.l/\vX (d2J 3 x y) b.l<=vX x b.l+vX y b.l:=by
 have gx:=a2P a1t x hx
 have gy:=a2P a1t y hy
 have hl:=c5c hb
 have hn:=c0x hb
 have he:vX (d2J 3 x y) b.l=a1f (a3r a1t (a3r a1t [] (a0z a1t x)) (a0z a1t y)) b.l:=rfl
 have gs:=b2b (.nil a1t) gx
 have hs0:∀ D,leL D b.l=true->nnL D=true->a1f (a3r a1t [] (a0z a1t x)) D=vX x D:=fun D d1 d2=>c2H gx (a2C d1 hl) d2
 rw [he]
 have hM1:=c7v hx b.l
 have hM2:=c7v hy b.l
 have h01:=b5c x b.l
 have h02:=b5c y b.l
 have hup:=(b5J gs gy hl hn (c:=a1f (a3r a1t (a3r a1t [] (a0z a1t x)) (a0z a1t y)) b.l)).1 (Int.le_refl _)
 refine ⟨?_,?_,?_⟩
 ·have:=hup.2 b.l (a9A _) hn
  rw [hs0 b.l (a9A _) hn,a2N] at this
  have:=a1y (a0z a1t y) (a3Q b.l b.l)
  omega
 ·have:=hup.2 (b.l.map fun _=>0) (b8J hn) (c4y _)
  rw [c0D,a2N] at this
  have h3:=a1y (a3r a1t [] (a0z a1t x)) (b.l.map fun _=>0)
  unfold vX at *
  omega
 ·rw [b5J gs gy hl hn]
  refine ⟨by omega,fun D d1 d2=>?_⟩
  rw [hs0 D d1 d2,a2N]
  have h1:=b6F (kv:=a0z a1t x) d1
  have h2:=b6F (kv:=a0z a1t y) (a9w d2 d1)
  unfold vX at *
  omega
theorem d3h {op:Int} {x y:Ex} (h:b4H (d2J op x y) 6<=2):b4H x 6<=2/\b4H y 6<=2:=by
 have hu:∀ k,k < 6->a5I k (d2J op x y)=(a5I k x||a5I k y):=by
  intro k hk
  have h6:k=0\/k=1\/k=2\/k=3\/k=4\/k=5:=by omega
  simp only [d2J,a5I,b1y,Bool.or_false]
  rcases h6 with rfl | rfl | rfl | rfl | rfl | rfl<;>simp
 have le:∀ z:Ex,(∀ k,k < 6->a5I k z=true->a5I k (d2J op x y)=true)->b4H z 6<=b4H (d2J op x y) 6:=by
  intro z hz
  simp only [c6n,d3b]
  have z0:=hz 0 (by omega)
  have z1:=hz 1 (by omega)
  have z2:=hz 2 (by omega)
  have z3:=hz 3 (by omega)
  have z4:=hz 4 (by omega)
  have z5:=hz 5 (by omega)
  have st:∀ p q:Bool,(p=true->q=true)->(if p=true then 1 else 0)<=(if q=true then (1:Nat) else 0):=fun p q h=>by cases p<;>cases q<;>simp_all
  have:=st _ _ z0
  have:=st _ _ z1
  have:=st _ _ z2
  have:=st _ _ z3
  have:=st _ _ z4
  have:=st _ _ z5
  omega
 have h1:=le x (fun k hk h=>by rw [hu k hk,h]; rfl)
 have h2:=le y (fun k hk h=>by rw [hu k hk,h,Bool.or_true])
 omega
theorem d3j {x y:Ex} (h:chk (d2J 2 x y)=0):chk x=0/\chk y=0/\chk (d2J 3 x y)=0:=by
 obtain ⟨h1,h2,h3,h4⟩:=c1v h
 have nz:∀ l:List Ex,(∀ y∈l,a2K y=0)->a2W l=0:=by
  intro l
  induction l with
  | nil=>intro _; rfl
  | cons z l ih=>intro hz; simp only [a2W]; rw [if_pos (hz z (by simp))]; exact ih fun y hy=>hz y (by simp [hy])
 have mk:∀ z:Ex,z.depth<=6->z.size<=40->(∀ w∈z.pre,w.len<=8)->(∀ w∈z.pre,a2K w=0)->chk z=0:=by
  intro z z1 z2 z3 z4
  unfold chk
  rw [if_neg (by omega),if_neg (by omega),if_pos (Qt.2 fun w hw=>decide_eq_true (z3 w hw))]
  exact nz _ z4
 have sub:∀ z∈[x,y],∀ w∈z.pre,w∈(d2J 2 x y).pre:=fun z hz w hw=>by
  simp only [d2J,Ex.pre,Q1]; exact .inr (c2b hz hw)
 have dep:∀ z∈[x,y],z.depth<=(d2J 2 x y).depth:=by
  have e:(d2J 2 x y).depth=mxI (mxI 0 x.depth) y.depth+1:=rfl
  intro z hz
  rw [e]
  simp only [Q1,Qm,or_false] at hz
  rcases hz with rfl | rfl<;>(unfold mxI; split<;>split<;>omega)
 have siz:(d2J 2 x y).size=x.size+(y.size+0)+1:=rfl
 refine ⟨mk x ?_ (by omega) (fun w hw=>h3 w (sub x (by simp) w hw)) (fun w hw=>h4 w (sub x (by simp) w hw)),mk y ?_ (by omega) (fun w hw=>h3 w (sub y (by simp) w hw)) (fun w hw=>h4 w (sub y (by simp) w hw)),mk _ h1 h2 ?_ ?_⟩
 ·have:=dep x (by simp); omega
 ·have:=dep y (by simp); omega
 ·intro w hw
  have hw:w=d2J 3 x y\/w∈a4g [x,y]:=by simpa [d2J,Ex.pre] using hw
  rcases hw with rfl | hw
  ·exact h3 (d2J 2 x y) (by simp [d2J,Ex.pre])
  ·exact h3 w (by simp only [d2J,Ex.pre,Q1]; exact .inr hw)
 ·intro w hw
  have hw:w=d2J 3 x y\/w∈a4g [x,y]:=by simpa [d2J,Ex.pre] using hw
  rcases hw with rfl | hw
  ·rfl
  ·exact h4 w (by simp only [d2J,Ex.pre,Q1]; exact .inr hw)
theorem d3d {x y:Ex} {rx ry:List PV} (hwx:a6u x) (hwy:a6u y) (hx:IsE x rx) (hy:IsE y ry) (b:Bd) (n:Nat) (hn:5000000+x.size+y.size<=n):a0e a4u (n+1) d2N [.agg rx,.agg ry,.agg (bpv b)] []=some (.bool true,[]):=by
 have ha:=d0n (n:=n) (by omega)
 have hT:a4u d2N=some saleroomlaw13_ValuationJoins_S:=c3c _ _ d2S
 have hI:∀ op,IsE (d2J op x y) [.int .i64 op,.int .i64 0,.int .i64 0,.int .i64 0,.int .i64 0,.int .i64 0,.int .i64 0,.int .i64 0,.sl 9 [rx,ry]]:=fun op=>by
  simp only [d2J,IsE]
  exact ⟨_,[rx,ry],rfl,by simp [PV.rowsOf],rx,[ry],rfl,hx,ry,[],rfl,hy,rfl⟩
 have hwj:∀ op,a6u (d2J op x y):=fun op=>by
  simp only [d2J,a6u,b1X]; exact ⟨by simp,hwx,hwy,trivial⟩
 have hsj:∀ op,(d2J op x y).size=x.size+y.size+1:=fun op=>rfl
 have hf:=d2o (hwj 2) (hI 2) n (by rw [hsj]; omega) (σ:=[])
 have hv:b6E (d2J 2 x y)=true->a0e a4u n 21 [.agg rx,.agg (bpv b)] []=some (.int .i64 (c2l x b),[])/\a0e a4u n 21 [.agg ry,.agg (bpv b)] []=some (.int .i64 (c2l y b),[]) /\
   a0e a4u n 21 [.agg [.int .i64 2,.int .i64 0,.int .i64 0,.int .i64 0,.int .i64 0,.int .i64 0,.int .i64 0,.int .i64 0,.sl 9 [rx,ry]],.agg (bpv b)] []=some (.int .i64 (c2l (d2J 2 x y) b),[]) /\
   a0e a4u n 18 [.agg rx,.agg (bpv b)] []=some (.int .i64 (c2l x b),[])/\a0e a4u n 18 [.agg ry,.agg (bpv b)] []=some (.int .i64 (c2l y b),[]) /\
   (∀ op,a0e a4u n 18 [.agg [.int .i64 op,.int .i64 0,.int .i64 0,.int .i64 0,.int .i64 0,.int .i64 0,.int .i64 0,.int .i64 0,.sl 9 [rx,ry]],.agg (bpv b)] []=some (.int .i64 (c2l (d2J op x y) b),[])):=by
  intro h
  obtain ⟨h1,h2⟩:=c7G h
  rw [hsj] at h2
  obtain ⟨f1,f2⟩:=d3h h1
  obtain ⟨m,rfl⟩:∃ m,n=m+1:=⟨n-1,by omega⟩
  exact ⟨d3a hwx hx (by omega) f1 rfl b _ (by omega),d3a hwy hy (by omega) f2 rfl b _ (by omega),d3a (hwj 2) (hI 2) (by rw [hsj]; omega) h1 rfl b _ (by omega),
   d0p hx (by omega) b rfl m,d0p hy (by omega) b rfl m,fun op=>d0p (hI op) (by rw [hsj]; omega) b rfl m⟩
 have hval:c2l (d2J 2 x y) b≠0->c2l (d2J 2 x y) b=mxI (c2l x b) (c2l y b)/\c2l (d2J 2 x y) b<=c2l (d2J 3 x y) b/\c2l (d2J 3 x y) b<=c2l x b+c2l y b/\c2l x b+c2l y b<=2000000/\0<=c2l x b+c2l y b:=by
  intro h
  unfold c2l at h ⊢
  split at h
  case isFalse=>exact absurd rfl h
  rename_i hc
  obtain ⟨c1,c2,c3⟩:=d3j hc.1
  have o1:=a8v c1
  have o2:=a8v c2
  rw [if_pos hc,if_pos ⟨c1,hc.2⟩,if_pos ⟨c2,hc.2⟩,if_pos ⟨c3,hc.2⟩]
  obtain ⟨v1,v2,v3⟩:=d3p x y o1 o2 hc.2
  have m1:=c7v o1 b.l
  have m2:=c7v o2 b.l
  have n1:=b5c x b.l
  have n2:=b5c y b.l
  rw [d3o x y o1 o2 hc.2]
  exact ⟨rfl,by unfold mxI; split<;>omega,v3,by omega,by omega⟩
 generalize c2l x b=zx at *
 generalize c2l y b=zy at *
 generalize hj:(fun op=>c2l (d2J op x y) b)=zj at *
 have hj2:c2l (d2J 2 x y) b=zj 2:=by rw [<- hj]
 have hj3:c2l (d2J 3 x y) b=zj 3:=by rw [<- hj]
 have hjo:∀ op,c2l (d2J op x y) b=zj op:=fun op=>by rw [<- hj]
 rw [hj2,hj3] at hval
 simp only [hjo] at hv
 generalize b6E (d2J 2 x y)=fx at *
 clear hj hj2 hj3 hjo hwj hsj hI
 obtain ⟨op,a,b',c,d,e',f,v,l⟩:=x
 simp only [IsE] at hx
 obtain ⟨px,rows,rfl,hx,hl⟩:=hx
 obtain ⟨x1,x2,x3⟩:=a0T hx
 obtain ⟨op',a',b'',c',d',e'',f',v',l'⟩:=y
 simp only [IsE] at hy
 obtain ⟨py,rows',rfl,hy,hl'⟩:=hy
 obtain ⟨y1,y2,y3⟩:=a0T hy
 rw [a0e,hT]
 generalize a0e a4u n=Φ at *
 simp only [Q0,Sys.run]
 show ((a0i [.sh (.agg [_,_,_,_,_,_,_,_,_]),.sh (.agg [_,_,_,_,_,_,_,_,_]),.sh (.agg [_,_,_,_,_,_])] _).bind _)=_
 simp only [bpv] at hv ⊢
 simp only [a0i,a0d,a0c,Q6,Q0,Q2,Q3,Q4,if_true,x3,y3]
 show (PT.ev _ d2L _).bind _=_
 have key:d2L.ev Φ { i:=[op,a,b',c,d,e',f,v,op',a',b'',c',d',e'',f',v',b.a,b.b,b.c,b.d,b.e,b.f],b:=[],v:=[px,py],m:=[],k:=0 }=some (.ret (.bool true) []):=by
  unfold d2L
  cases fx with
  | false =>
   repeat (first | rw [a0B] | rw [a0A] | rw [a0D] | rw [a0p] | rw [a0q] | rw [a0m] | rw [a0M] | rw [a3f] | rw [a0C] | rw [a0y] | rw [a0r] | rw [a0N])<;>simp -implicitDefEqProofs only [↓reduceIte,eq_self,ξ2,ξ3,ξ4,ξ5,ξ6,ξ7,ξ8,ξ9,ξa,ξb,ξc,ξd,ξe,ξf,ξg,ξh,Nat.reduceAdd,ξi,if_true,if_false,ξl,ξm,ξn,ξo,ξp,ξq,ξr,ξs,ξt,ξu,ξv,ξw,ξx,ξy,ξz,ξA,ξB,ξC,ξD,ξE,a1x,Q8,Q9,Qa,Qb,Qd,Qe,Qf,Nat.reduceLeDiff,hf,ha,a0k,or_true,Qg]
  | true =>
   obtain ⟨h1,h2,h3,h4,h5,h6⟩:=hv rfl
   have g2:=h6 2
   have g3:=h6 3
   clear hv h6
   by_cases z1:zx=0
   ·have q1:eqB zx 0=true:=by rw [z1]; rfl
    repeat (first | rw [a0B] | rw [a0A] | rw [a0D] | rw [a0p] | rw [a0q] | rw [a0m] | rw [a0M] | rw [a3f] | rw [a0C] | rw [a0y] | rw [a0r] | rw [a0N])<;>simp -implicitDefEqProofs only [↓reduceIte,eq_self,ξ2,ξ3,ξ4,ξ5,ξ6,ξ7,ξ8,ξ9,ξa,ξb,ξc,ξd,ξe,ξf,ξg,ξh,Nat.reduceAdd,ξi,if_true,if_false,ξl,ξm,ξn,ξo,ξp,ξq,ξr,ξs,ξt,ξu,ξv,ξw,ξx,ξy,ξz,ξA,ξB,ξC,ξD,ξE,a1x,Q8,Q9,Qa,Qb,Qd,Qe,Qf,Nat.reduceLeDiff,hf,h1,q1,ha,a0k,or_true,Qg]
   have q1:eqB zx 0=false:=eqF z1
   by_cases z2:zy=0
   ·have q2:eqB zy 0=true:=by rw [z2]; rfl
    repeat (first | rw [a0B] | rw [a0A] | rw [a0D] | rw [a0p] | rw [a0q] | rw [a0m] | rw [a0M] | rw [a3f] | rw [a0C] | rw [a0y] | rw [a0r] | rw [a0N])<;>simp -implicitDefEqProofs only [↓reduceIte,eq_self,ξ2,ξ3,ξ4,ξ5,ξ6,ξ7,ξ8,ξ9,ξa,ξb,ξc,ξd,ξe,ξf,ξg,ξh,Nat.reduceAdd,ξi,if_true,if_false,ξl,ξm,ξn,ξo,ξp,ξq,ξr,ξs,ξt,ξu,ξv,ξw,ξx,ξy,ξz,ξA,ξB,ξC,ξD,ξE,a1x,Q8,Q9,Qa,Qb,Qd,Qe,Qf,Nat.reduceLeDiff,hf,h1,q1,h2,q2,ha,a0k,or_true,Qg]
   have q2:eqB zy 0=false:=eqF z2
   by_cases z3:zj 2=0
   ·have q3:eqB (zj 2) 0=true:=by rw [z3]; rfl
    repeat (first | rw [a0B] | rw [a0A] | rw [a0D] | rw [a0p] | rw [a0q] | rw [a0m] | rw [a0M] | rw [a3f] | rw [a0C] | rw [a0y] | rw [a0r] | rw [a0N])<;>simp -implicitDefEqProofs only [↓reduceIte,eq_self,ξ2,ξ3,ξ4,ξ5,ξ6,ξ7,ξ8,ξ9,ξa,ξb,ξc,ξd,ξe,ξf,ξg,ξh,Nat.reduceAdd,ξi,if_true,if_false,ξl,ξm,ξn,ξo,ξp,ξq,ξr,ξs,ξt,ξu,ξv,ξw,ξx,ξy,ξz,ξA,ξB,ξC,ξD,ξE,a1x,Q8,Q9,Qa,Qb,Qd,Qe,Qf,Nat.reduceLeDiff,hf,h1,q1,h2,q2,h3,q3,ha,a0k,or_true,Qg]
   have q3:eqB (zj 2) 0=false:=eqF z3
   obtain ⟨e1,e2,e3,e4,e5⟩:=hval z3
   have q4:eqB (zj 2) (mxI zx zy)=true:=by rw [e1]; exact a2Y _
   have q5:leB (zj 2) (zj 3)=true:=by simp [leB]; exact e2
   have q6:leB (zj 3) (zx+zy)=true:=by simp [leB]; exact e3
   have q7:(leB (-9223372036854775808) (zx+zy)&&leB (zx+zy) 9223372036854775807)=true:=a0u (by omega)
   repeat (first | rw [a0B] | rw [a0A] | rw [a0D] | rw [a0p] | rw [a0q] | rw [a0m] | rw [a0M] | rw [a3f] | rw [a0C] | rw [a0y] | rw [a0r] | rw [a0N])<;>simp -implicitDefEqProofs only [↓reduceIte,eq_self,ξ2,ξ3,ξ4,ξ5,ξ6,ξ7,ξ8,ξ9,ξa,ξb,ξc,ξd,ξe,ξf,ξg,ξh,Nat.reduceAdd,ξi,if_true,if_false,ξl,ξm,ξn,ξo,ξp,ξq,ξr,ξs,ξt,ξu,ξv,ξw,ξx,ξy,ξz,ξA,ξB,ξC,ξD,ξE,a1x,Q8,Q9,Qa,Qb,Qd,Qe,Qf,Nat.reduceLeDiff,hf,h1,q1,h2,q2,h3,q3,h4,h5,g2,g3,q4,q5,q6,q7,ha,a0k,or_true,Qg]
 exact (congrArg (fun r=>Option.bind r _) key)
end Go.Proofs.Ythmkfeiapdbojaa
