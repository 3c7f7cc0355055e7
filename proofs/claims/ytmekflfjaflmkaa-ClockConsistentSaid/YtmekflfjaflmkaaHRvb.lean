/- The cycle that is followed a9D. -/
import Derived.Test.YtmekflfjaflmkaaHRva
import Derived.Test.YtmekflfjaflmkaaHTxd
set_option linter.unusedSimpArgs false
set_option linter.unusedVariables false
set_option linter.unusedSectionVars false
open Option renaming bind_some → Q0, map_some → Q1, bind_eq_bind → QC, pure_def → QD, getD_some → QH, getD_none → QX
open Bool renaming false_eq_true → Q2, and_self → Qe, not_false → Qm, not_true → Qn, false_or → QK, true_or → QN, not_eq_true → QV
open List renaming getD_cons_zero → Q3, getD_cons_succ → Q4, nil_append → Q5, cons_append → Q6, getElem?_cons_zero → Q7, getElem?_cons_succ → Q8, map_nil → Q9, map_cons → Qa, length_cons → Qb, length_nil → Qd, append_nil → Qf, replicate → Qg, take_succ_cons → Qj, take_zero → Qk, length_map → Qr, drop_zero → Qs, mem_of_getElem? → Qt, reverse_nil → Qu, range → Qv, getElem?_eq_some_iff → Qw, mapM_cons → QA, mapM_nil → QB, reverse_cons → QE, getElem?_eq_getElem → QJ, mem_range → QL, mem_map → QP, drop → QW, append_assoc → QY, set_append_right → QZ, take_left' → X0, all_eq_true → X1, drop_length → X2, range_succ → X3, take_add_one → X4, replicate_succ' → X5, foldl_nil → X7, drop_eq_getElem_cons → X8
open Nat renaming add_zero → Qh, le_refl → Qp, zero_add → Qq, mul_one → Qy, le_add_left → Qz, zero_mul → QQ, succ_mul → QS, mul_le_mul → QU
open Int renaming toNat_natCast → QM, toNat_of_nonneg → X6
set_option maxRecDepth 100000
namespace Go.Proofs.Ytmekflfjaflmkaa
open Go.Sx Go.Bf
def a1I(f:Nat->Int)(z j k:Nat):List Int:=(Qv k).map fun i=>(a0q f z (j+i):Int)
theorem c2u(f:Nat->Int)(z j:Nat):a1I f z j 0=[]:=rfl
theorem a8s(f:Nat->Int)(z j k:Nat):(a1I f z j k).length=k:=by simp[a1I]
theorem c2J(f:Nat->Int)(z j k:Nat):a1I f z j (k+1)=a1I f z j k++[(a0q f z (j+k):Int)]:=by simp[a1I,X3]
theorem e0F{f:Nat->Int}{z j k i:Nat}(h:i<k):(a1I f z j k)[i]?=some (a0q f z (j+i):Int):=by simp[a1I,h]
theorem b9F{f:Nat->Int}{z j k:Nat}{x:Int}:x∈a1I f z j k↔∃i,i<k/\x=(a0q f z (j+i):Int):=by
 simp only[a1I,QP,QL];constructor
 ·rintro⟨i,h,rfl⟩;exact⟨i,h,rfl⟩
 ·rintro⟨i,h,rfl⟩;exact⟨i,h,rfl⟩
theorem d1p{f:Nat->Int}{z k:Nat}(hn:((Qv k).map (a0q f z)).Nodup){a b:Nat}(ha:a<k)(hb:b<k)(e:a0q f z a=a0q f z b):a=b:=by
 have ga:((Qv k).map (a0q f z))[a]?=some (a0q f z a):=by simp[ha]
 have gb:((Qv k).map (a0q f z))[b]?=some (a0q f z a):=by simp[hb,e]
 exact(List.getElem?_inj (by simpa using ha) hn).1 (by rw[ga,gb])
section
variable (σ:List MO)(n:Nat)(h:Nat)(fl:List Int)(T:Nat)(hm:σ[h]?=some (.cells (a0O fl) T))
variable {g:Nat->Nat->Int}{v:Nat->Int}{c t:Nat->Nat}{z:Nat}(hf:Go.Bf.Fin fl.length g v (at' fl) c t z)
def st0(k:Nat):PEnv:={i:=[(a0q (at' fl) z k:Int)],b:=[],v:=[.msl h 0 fl.length fl.length 1,.mp σ.length],m:=σ++[.mp (a1I (at' fl) z 0 k) (Qg k (.bool true)) .i64],k:=σ.length}
def st1(w:PV)(m:List MO)(x:Nat):PEnv:={i:=[(x:Int)],b:=[],v:=[.msl h 0 fl.length fl.length 1,.mp σ.length,w],m:=σ++m,k:=σ.length}
include hm hf in
theorem c8R(k fuel:Nat)(hk:k<=fl.length)(hn:((Qv k).map (a0q (at' fl) z)).Nodup) :
  (a0q (at' fl) z k∉(Qv k).map (a0q (at' fl) z)->a0w.loop (a0b Tab n) (fuel+1) 0 (st0 σ h fl (z:=z) k)=a0w.loop (a0b Tab n) fuel 0 (st0 σ h fl (z:=z) (k+1))) /\
  (a0q (at' fl) z k∈(Qv k).map (a0q (at' fl) z)->a0w.loop (a0b Tab n) (fuel+1) 0 (st0 σ h fl (z:=z) k)=a0w.loop (a0b Tab n) fuel 1 (st1 σ h fl .nilS [.mp [] [] .i64] (a0q (at' fl) z k))):=by
 have hl:=b9k (a1I (at' fl) z 0 k) (.bool true) (a0q (at' fl) z k:Int);rw[a8s] at hl
 have hmem:((a0q (at' fl) z k:Int)∈a1I (at' fl) z 0 k)↔a0q (at' fl) z k∈(Qv k).map (a0q (at' fl) z):=by
  rw[b9F,QP];constructor
  ·rintro⟨i,hi,e⟩;exact⟨i,QL.2 hi,by rw[Qq] at e;omega⟩
  ·rintro⟨i,hi,e⟩;exact⟨i,QL.1 hi,by rw[Qq,e]⟩
 constructor
 ·intro hx
  have hx':=fun q=>hx (hmem.1 q)
  rw[if_neg hx'] at hl;have hp:=c6p (a1I (at' fl) z 0 k) (.bool true) (a0q (at' fl) z k:Int) hx';rw[a8s] at hp;have hkn:=hf.short hk hn hx;have a1:=hf.at_lt k (by omega);have hlink:=(hf.link hkn).1;have hk1:=c2J (at' fl) z 0 k;rw[Qq] at hk1;rw[st0,st0,hk1];rw[Sys.loop,show a0w.loops[0]?=some a4O from rfl];generalize a0q (at' fl) z (k+1)=y at *
  generalize a0q (at' fl) z k=x at *
  have hg:fl[x]?=some (y:Int):=by rw[a9c a1.1,hlink]
  have hd:=a6T hg;have he:=a5h (h:=h) (o:=0) (cap:=fl.length) (sz:=1) (off:=0) a1.1;have q1:(leB 0 (x:Int)&&decide (x<fl.length))=true:=by simp[leB,a1.1]
  have gm:=fun r=>c7P (r:=r) hm
  simp only[Q0,a4O,↓reduceIte,PT.ev,BE.safe,BE.pe,IE.pe,PEnv.at,Q3,Q4,Q7,Q8,a0p,a0a,a0P,Qh,Qb,Qd,Q2,Qj,Qk,a0c,a0l,a0g,Q1,Q0,PEnv.push,Q6,Q5,SV.pvs,SV.pv,BE.all,Qe,Qm,Qa,Q9,a6Z,b4U,hl,hp,QX,PV.len,a0x,if_pos q1,he,gm,MO.list,Qy,Qq,hd,Qz]
 ·intro hx
  rw[if_pos (hmem.2 hx)] at hl;rw[st0,st1];rw[Sys.loop,show a0w.loops[0]?=some a4O from rfl];simp only[Q0,a4O,↓reduceIte,PT.ev,BE.safe,BE.pe,IE.pe,PEnv.at,Q3,Q4,Q7,Q8,a0p,a0a,a0P,Qb,Qd,Nat.reduceAdd,Q2,a0c,a0l,a0g,Q1,Q0,PEnv.push,Q6,Q5,SV.pvs,SV.pv,BE.all,Qe,Qn,Qa,Q9,a6Z,b4U,hl,QH]
include hm hf in
theorem d1z(d:Nat):∀k,fl.length-k<=d->k<=fl.length->((Qv k).map (a0q (at' fl) z)).Nodup->∃j k',k<=k'/\j<k'/\k'<=fl.length/\((Qv k').map (a0q (at' fl) z)).Nodup/\a0q (at' fl) z k'=a0q (at' fl) z j /\
  ∀fuel,a0w.loop (a0b Tab n) (fuel+(k'-k)+1) 0 (st0 σ h fl (z:=z) k)=a0w.loop (a0b Tab n) fuel 1 (st1 σ h fl .nilS [.mp [] [] .i64] (a0q (at' fl) z j)):=by
 induction d with
 | zero =>
  intro k h1 h2 hn;by_cases hx:a0q (at' fl) z k∈(Qv k).map (a0q (at' fl) z)
  ·obtain⟨j,hj,e⟩:=QP.1 hx
   refine⟨j,k,Qp _,QL.1 hj,h2,hn,e.symm,fun fuel=>?_⟩;rw[Nat.sub_self,Qh,(c8R σ n h fl T hm hf k fuel h2 hn).2 hx,e]
  ·have:=hf.short h2 hn hx;omega
 | succ d ih =>
  intro k h1 h2 hn;by_cases hx:a0q (at' fl) z k∈(Qv k).map (a0q (at' fl) z)
  ·obtain⟨j,hj,e⟩:=QP.1 hx
   refine⟨j,k,Qp _,QL.1 hj,h2,hn,e.symm,fun fuel=>?_⟩;rw[Nat.sub_self,Qh,(c8R σ n h fl T hm hf k fuel h2 hn).2 hx,e]
  ·have hk:=hf.short h2 hn hx
   have hn1:((Qv (k+1)).map (a0q (at' fl) z)).Nodup:=by
    rw[X3,List.map_append,List.nodup_append];refine⟨hn,by simp,?_⟩;intro a ha b hb;simp only[Qa,Q9,List.mem_singleton] at hb;rintro rfl;subst hb;exact hx ha
   obtain⟨j,k',e1,e2,e3,e4,e5,e6⟩:=ih (k+1) (by omega) (by omega) hn1;refine⟨j,k',by omega,e2,e3,e4,e5,fun fuel=>?_⟩;rw[show fuel+(k'-k)+1=(fuel+(k'-(k+1))+1)+1 by omega,(c8R σ n h fl T hm hf k _ h2 hn).1 hx,e6]
def a9D(j k:Nat):List MO:=.mp (a1I (at' fl) z j k) (Qg k (.bool true)) .i64::(if k=0 then [] else [.row (a2o (a1I (at' fl) z j k)) 1 3])
def b2g(k:Nat):PV:=if k=0 then .nilS else .rsl (σ.length+1) k 1
include hm hf in
theorem d5v(j L k fuel:Nat)(hfl:fl.length<=1000)(hk:k<L)(hL:j+L<=fl.length)(hn:((Qv (j+L)).map (a0q (at' fl) z)).Nodup) :
  a0w.loop (a0b Tab n) (fuel+1) 1 (st1 σ h fl (b2g σ k) (a9D fl (z:=z) j k) (a0q (at' fl) z (j+k)))=a0w.loop (a0b Tab n) fuel 1 (st1 σ h fl (b2g σ (k+1)) (a9D fl (z:=z) j (k+1)) (a0q (at' fl) z (j+k+1))):=by
 have hl:=b9k (a1I (at' fl) z j k) (.bool true) (a0q (at' fl) z (j+k):Int);rw[a8s] at hl
 have hx':¬((a0q (at' fl) z (j+k):Int)∈a1I (at' fl) z j k):=by
  rw[b9F];rintro⟨i,hi,e⟩;have:=d1p hn (a:=j+k) (b:=j+i) (by omega) (by omega) (by omega);omega
 rw[if_neg hx'] at hl;have hp:=c6p (a1I (at' fl) z j k) (.bool true) (a0q (at' fl) z (j+k):Int) hx';rw[a8s] at hp;have a1:=hf.at_lt (j+k) (by omega);have hlink:=(hf.link (i:=j+k) (by omega)).1;have hk1:=c2J (at' fl) z j k;have hrl:(a2o (a1I (at' fl) z j k)).length=k:=by simp[a2o,a8s]
 have hrs:a2o (a1I (at' fl) z j (k+1))=a2o (a1I (at' fl) z j k)++[[.int .i64 (a0q (at' fl) z (j+k):Int)]]:=by rw[hk1];simp[a2o]
 have gm:=fun r=>c7P (r:=r) hm
 have hb1:b2g σ (k+1)=.rsl (σ.length+1) (k+1) 1:=if_neg (by omega);have hb2:a9D fl (z:=z) j (k+1)=[.mp (a1I (at' fl) z j (k+1)) (Qg (k+1) (.bool true)) .i64,.row (a2o (a1I (at' fl) z j (k+1))) 1 3]:=by rw[a9D,if_neg (by omega)]
 rw[hb1,hb2,hrs,hk1,st1,st1];rw[Sys.loop,show a0w.loops[1]?=some a3J from rfl];generalize a0q (at' fl) z (j+k+1)=y at *
 generalize a0q (at' fl) z (j+k)=x at *
 have hg:fl[x]?=some (y:Int):=by rw[a9c a1.1,hlink]
 have hd:=a6T hg;have he:=a5h (h:=h) (o:=0) (cap:=fl.length) (sz:=1) (off:=0) a1.1;have q1:(leB 0 (x:Int)&&decide (x<fl.length))=true:=by simp[leB,a1.1]
 by_cases hk0:k=0
 ·subst hk0
  simp only[b2g,a9D,if_true];simp only[c2u] at hl hp;simp only[Q0,a3J,↓reduceIte,PT.ev,BE.safe,BE.pe,IE.pe,PEnv.at,Q3,Q4,Q7,Q8,a0p,a0a,a0P,Qh,Qb,Qd,Q2,Qj,Qk,a0c,a0l,a0g,Q1,Q0,PEnv.push,Q6,Q5,Qf,SV.pvs,SV.pv,BE.all,Qe,Qm,Qa,Q9,a6Z,b4U,d2v,d2o,hl,hp,QX,PV.len,a0W,QA,QB,QC,QD,PV.rowsOf,Nat.reduceLeDiff,Nat.succ_ne_zero,a0x,if_pos q1,he,gm,MO.list,Qy,Qq,hd,Qz,a2o,c2u,Q9]
 ·have hb3:b2g σ k=.rsl (σ.length+1) k 1:=if_neg hk0
  have hb4:a9D fl (z:=z) j k=[.mp (a1I (at' fl) z j k) (Qg k (.bool true)) .i64,.row (a2o (a1I (at' fl) z j k)) 1 3]:=by rw[a9D,if_neg hk0]
  rw[hb3,hb4];have q2:k+1<=1000000:=by omega
  have o1:(1<=1000000)=True:=eq_true (by decide);have o2:(1=0)=False:=eq_false (by decide);simp only[Q0,a3J,↓reduceIte,PT.ev,BE.safe,BE.pe,IE.pe,PEnv.at,Q3,Q4,Q7,Q8,a0p,a0a,a0P,Qh,Qb,Qd,Q2,Qj,Qk,a0c,a0l,a0g,Q1,Q0,PEnv.push,Q6,Q5,Qf,SV.pvs,SV.pv,BE.all,Qe,Qm,Qa,Q9,a6Z,b4U,c0a,c5r,hl,hp,QX,PV.len,a0W,QA,QB,QC,QD,PV.rowsOf,hrl,q2,o1,o2,and_self,a0x,if_pos q1,he,gm,MO.list,Qy,Qq,hd,Qz]
include hm hf in
theorem d1Y(j L:Nat)(hfl:fl.length<=1000)(hL:j+L<=fl.length)(hn:((Qv (j+L)).map (a0q (at' fl) z)).Nodup):∀d k,k+d=L->∀fuel,
  a0w.loop (a0b Tab n) (fuel+d) 1 (st1 σ h fl (b2g σ k) (a9D fl (z:=z) j k) (a0q (at' fl) z (j+k)))=a0w.loop (a0b Tab n) fuel 1 (st1 σ h fl (b2g σ L) (a9D fl (z:=z) j L) (a0q (at' fl) z (j+L))):=by
 intro d
 induction d with
 | zero=>intro k hk fuel;rw[Qh] at hk;subst hk;rfl
 | succ d ih =>
  intro k hk fuel;rw[show fuel+(d+1)=(fuel+d)+1 from rfl,d5v σ n h fl T hm hf j L k _ hfl (by omega) hL hn];exact ih (k+1) (by omega) fuel
def st2(ys:List Int)(i:Nat):PEnv:={i:=[(ys.length:Int),(i:Int)],b:=[],v:=[.rsl (σ.length+1) ys.length 1,.msl (σ.length+2) 0 ys.length ys.length 1],m:=σ++[.mp ys (Qg ys.length (.bool true)) .i64,.row (a2o ys) 1 3,.cells (a0O (Qg (ys.length-i) 0++(ys.take i).reverse)) 3],k:=σ.length}
theorem d4R(ys:List Int)(i fuel:Nat)(hy:ys.length<=1000)(hi:i<ys.length) :
  a0w.loop (a0b Tab n) (fuel+1) 2 (st2 σ ys i)=a0w.loop (a0b Tab n) fuel 2 (st2 σ ys (i+1)):=by
 obtain⟨y,hy'⟩:∃y,ys[i]?=some y:=⟨_,QJ hi⟩;have hir:(a2o ys)[i]?=some [.int .i64 y]:=by simp[a2o,hy']
 have hrl:(a2o ys).length=ys.length:=by simp[a2o]
 have hrep:(Qg (ys.length-i) 0++(ys.take i).reverse).set (ys.length-1-i) y=Qg (ys.length-(i+1)) 0++(ys.take (i+1)).reverse:=by
  rw[X4,hy',show ys.length-i=(ys.length-(i+1))+1 by omega,X5,QY,show ys.length-1-i=(Qg (ys.length-(i+1)) (0:Int)).length by simp;omega];rw[QZ _ _ (Qp _)];simp
 have hlen:(Qg (ys.length-i) 0++(ys.take i).reverse).length=ys.length:=by simp;omega
 have hset:=b2q (l:=Qg (ys.length-i) 0++(ys.take i).reverse) (i:=ys.length-1-i) y (by rw[hlen];omega);rw[hrep] at hset;rw[st2,st2,Sys.loop,show a0w.loops[2]?=some a4S from rfl];have hcl:(a0O (Qg (ys.length-i) 0++(ys.take i).reverse)).length=ys.length:=by rw[b2j,hlen]
 generalize a0O (Qg (ys.length-i) 0++(ys.take i).reverse)=o at *
 generalize a0O (Qg (ys.length-(i+1)) 0++(ys.take (i+1)).reverse)=o' at *
 have q1:(leB 0 (i:Int)&&true)=true:=by simp[leB]
 have q2:(leB (-9223372036854775808) ((ys.length:Int)-1)&&leB ((ys.length:Int)-1) 9223372036854775807)=true:=by simp[leB];omega
 have e1:(ys.length:Int)-1-(i:Int)=((ys.length-1-i:Nat):Int):=by omega
 have q3:(leB (-9223372036854775808) ((ys.length-1-i:Nat):Int)&&leB ((ys.length-1-i:Nat):Int) 9223372036854775807)=true:=by simp[leB];omega
 have q4:(leB 0 ((ys.length-1-i:Nat):Int)&&decide (ys.length-1-i<ys.length))=true:=by simp[leB];omega
 have q5:(leB (-9223372036854775808) ((i:Int)+1)&&leB ((i:Int)+1) 9223372036854775807)=true:=by simp[leB];omega
 have l1:=c9l (h:=σ.length+1) (sz:=1) (off:=0) hi;have l2:=a5h (h:=σ.length+2) (o:=0) (cap:=ys.length) (sz:=1) (off:=0) (i:=ys.length-1-i) (len:=ys.length) (by omega);have hle:ys.length-1-i+1<=ys.length:=by omega
 have e2:((i+1:Nat):Int)=(i:Int)+1:=by omega
 have hd:decide (i<ys.length)=true:=dT0 hi;generalize ys.length-1-i=w at *
 simp only[Q0,a4S,↓reduceIte,PT.ev,BE.safe,BE.pe,IE.pe,PEnv.at,Q3,Q4,Q7,Q8,a0p,a0a,a0P,Qh,Qs,Qb,Qd,Qp,Q2,Qj,Qk,a0c,Q1,Q0,PEnv.push,Q6,Q5,SV.pvs,SV.pv,BE.all,Qe,Qa,Q9,a0x,hd,PV.len,PV.isKind,if_pos q1,if_pos q2,e1,if_pos q3,if_pos q4,if_pos q5,l1,l2,c0a,d2s,d4J,MO.elts,hrl,hir,and_self,hcl,hle,Qy,Qq,hset,e2]
theorem run2(ys:List Int)(hy:ys.length<=1000):∀d i,i+d=ys.length->∀fuel,
  a0w.loop (a0b Tab n) (fuel+d) 2 (st2 σ ys i)=a0w.loop (a0b Tab n) fuel 2 (st2 σ ys ys.length):=by
 intro d
 induction d with
 | zero=>intro i hi fuel;rw[Qh] at hi;subst hi;rfl
 | succ d ih =>
  intro i hi fuel;rw[show fuel+(d+1)=(fuel+d)+1 from rfl,d4R σ n ys i _ hy (by omega)];exact ih (i+1) (by omega) fuel
theorem d5U(hσ:b1a σ)(ys:List Int)(fuel:Nat):a0w.loop (a0b Tab n) (fuel+1) 2 (st2 σ ys ys.length)=some (.sl 1 (a2o ys.reverse),σ):=by
 have hd:decide (ys.length<ys.length)=false:=by simp
 have hz:Qg (ys.length-ys.length) (0:Int)++(ys.take ys.length).reverse=ys.reverse:=by simp
 have hl:ys.length=ys.reverse.length:=by simp
 have hr:=c1b ys.reverse;rw[st2,hz,Sys.loop,show a0w.loops[2]?=some a4S from rfl];simp only[Q0,a4S,↓reduceIte,PT.ev,BE.safe,BE.pe,IE.pe,Q3,Q4,Q7,Q8,Q2,Q0,SV.pv,a0x,hd];have hm3:(σ++[.mp ys (Qg ys.length (.bool true)) .i64,.row (a2o ys) 1 3,.cells (a0O ys.reverse) 3]:List MO).length=σ.length+3:=by simp
 have h1:¬(false=true\/σ.length+3=σ.length):=by simp
 have h2:¬(σ.length+2<σ.length):=by omega
 rw[<- hl] at hr;simp only[a0m,hm3,X0,hσ σ.length,PV.frz,if_neg h2,b1l,d2s,c3e,MO.list,hr,↓reduceIte,Qs,Qp,Q2,Q1,Q0,];simp[]
end
theorem d0q(σ:List MO)(hσ:b1a σ)(h:Nat)(fl:List Int)(T:Nat)(hm:σ[h]?=some (.cells (a0O fl) T))(hfl:fl.length<=1000)
  {g:Nat->Nat->Int} {v:Nat->Int} {c t:Nat->Nat} {z:Nat} (hf:Go.Bf.Fin fl.length g v (at' fl) c t z) (n:Nat) (hnn:fl.length*3+10<=n) :
  ∃j k,j<k/\k<=fl.length/\a0q (at' fl) z k=a0q (at' fl) z j /\
   a0b Tab n b3U [.msl h 0 fl.length fl.length 1,.int .i64 (z:Int)] σ=some (.sl 1 (a2o (a1I (at' fl) z j (k-j)).reverse),σ):=by
 obtain⟨n,rfl⟩:∃k,n=k+1:=⟨n-1,by omega⟩;obtain⟨j,k,_,hjk,hk,hn,he,h0⟩:=d1z σ n h fl T hm hf fl.length 0 (by omega) (Nat.zero_le _) (by simp);refine⟨j,k,hjk,hk,he,?_⟩;have hl:=a8s (at' fl) z j (k-j);have h1:=fun fuel=>d1Y σ n h fl T hm hf j (k-j) hfl (by omega) (by rw[show j+(k-j)=k by omega];exact hn) (k-j) 0 (by omega) fuel
 have h2:=fun fuel=>run2 σ n (a1I (at' fl) z j (k-j)) (by omega) (k-j) 0 (by omega) fuel
 have h3:=d5U σ n hσ (a1I (at' fl) z j (k-j))
 have hc:∀fuel,a0w.loop (a0b Tab n) (fuel+1) 1 (st1 σ h fl (b2g σ (k-j)) (a9D fl (z:=z) j (k-j)) (a0q (at' fl) z (j+(k-j))))=a0w.loop (a0b Tab n) fuel 2 (st2 σ (a1I (at' fl) z j (k-j)) 0):=by
  intro fuel;have hk0:k-j≠0:=by omega
  have hb3:b2g σ (k-j)=.rsl (σ.length+1) (k-j) 1:=if_neg hk0;have hb4:a9D fl (z:=z) j (k-j)=[.mp (a1I (at' fl) z j (k-j)) (Qg (k-j) (.bool true)) .i64,.row (a2o (a1I (at' fl) z j (k-j))) 1 3]:=by rw[a9D,if_neg hk0]
  have hlk:=b9k (a1I (at' fl) z j (k-j)) (.bool true) (a0q (at' fl) z k:Int);rw[hl,if_pos (b9F.2 ⟨0,by omega,by rw[he];rfl⟩)] at hlk;have hrep:=c4P (k-j) 0;have hle:(k-j:Nat)<=1000000:=by omega
  rw[hb3,hb4,show j+(k-j)=k by omega,st1,st2,Sys.loop,show a0w.loops[1]?=some a3J from rfl,hl];generalize a1I (at' fl) z j (k-j)=ks at *
  have e1:Qg (k-j-0) (0:Int)++(ks.take 0).reverse=Qg (k-j) 0:=by simp
  have q1:(0<=((k-j:Nat):Int)/\((k-j:Nat):Int)<=1000000/\(8:Nat)<=100000000):=⟨by omega,by omega,by omega⟩;rw[e1];generalize k-j=L at *
  have hm2:∀A B:MO,(σ++[A,B]).length=σ.length+2:=fun A B=>by simp
  have hm3:∀A B C:MO,(σ++[A,B])++[C]=σ++[A,B,C]:=fun A B C=>by simp
  simp only[Q0,a3J,↓reduceIte,PT.ev,BE.safe,BE.pe,IE.pe,PEnv.at,Q3,Q4,Q7,Q8,a0p,a0a,a0P,Qb,Qd,Nat.reduceAdd,Q2,a0c,a0l,a0g,Q1,Q0,PEnv.push,Q6,Q5,SV.pvs,SV.pv,BE.all,Qe,Qn,Qa,Q9,a6Z,b4U,hlk,QH,PV.isKind,PV.len,QM,if_pos q1,hrep,hm2,hm3];rfl
 have e0:st0 σ h fl (z:=z) 0={i:=[(z:Int)],b:=[],v:=[.msl h 0 fl.length fl.length 1,.mp σ.length],m:=σ++[.mp [] [] .i64],k:=σ.length}:=rfl;have e1:st1 σ h fl .nilS [.mp [] [] .i64] (a0q (at' fl) z j)=st1 σ h fl (b2g σ 0) (a9D fl (z:=z) j 0) (a0q (at' fl) z (j+0)):=rfl
 have tot:a0w.loop (a0b Tab n) n 0 (st0 σ h fl (z:=z) 0)=some (.sl 1 (a2o (a1I (at' fl) z j (k-j)).reverse),σ):=by
  have hfu:n=(((((n-k-(k-j)-(k-j)-3)+1)+(k-j))+1)+(k-j))+(k-0)+1:=by omega
  rw[hl] at h3;generalize n-k-(k-j)-(k-j)-3=fu at *
  have hx:=h0 (((((fu)+1)+(k-j))+1)+(k-j));rw[<- hfu] at hx;rw[hx,e1,h1,hc,h2,hl];exact h3 fu
 rw[e0] at tot;simp only[a0b,b9U,Q0,Sys.run];show ((a0f [.sh (.one _),.sh (.one _)] _).bind _)=_;simp only[a0f,a0g,a0c,Q1,Q0,Qf,Q5,if_true,PV.one];show (PT.ev _ b0l _).bind _=_;simp only[b0l,PT.ev,IE.pe,Q3,Q7,Q8,Q1,Q0,Q6,Q5,SV.pvs,SV.pv,BE.all,Qa,Q9];exact tot
open Go.Sx
def ch0:Ch:=⟨⟨0,0,0,0,0,0⟩,⟨0,0,0,0,0,0⟩⟩
def b1R(l:List Ch)(z:Int):Ch:=(l[z.toNat]?).getD ch0
def d9T(l:List Ch)(cyc:List Int)(i:Nat):Int:=b3p (b1R l ((cyc[i]?).getD 0)) (b1R l ((cyc[(i+1) % cyc.length]?).getD 0))
def d8W(l:List Ch)(cyc:List Int):Nat->Int
 | 0=>0
 | i+1=>d8W l cyc i+d9T l cyc i
def d9v(l:List Ch)(cyc vals:List Int):Int :=
 if (l.all fun x=>decide x.ok)=true then
  if d9x l.length cyc vals=true then
   if cyc.length=0 then(if (decide (vals.length=l.length)&&d9K (l.zip vals))=true then 0 else 13)
   else(if 0<=d8W l cyc cyc.length then 13 else 0)
  else 2
 else 4
theorem d9J{l:List Ch}{z:Int}(h:d9e l.length z=true):∃k:Nat,z=(k:Int)/\k<l.length/\l[k]?=some (b1R l z):=by
 simp only[d9e,decide_eq_true_eq] at h;obtain⟨k,rfl⟩:∃k:Nat,z=(k:Int):=⟨z.toNat,by omega⟩;refine⟨k,rfl,by omega,?_⟩;have hk:k<l.length:=by omega
 simp[b1R,QJ hk]
theorem e0n{l:List Ch}(hok:∀x∈l,x.ok){cyc:List Int}(hc:∀z∈cyc,d9e l.length z=true):∀i,i<=cyc.length->-24000000*(i:Int)<=d8W l cyc i/\d8W l cyc i<=24000000*(i:Int)
 | 0,_=>by simp[d8W]
 | i+1,h=>by
  have ih:=e0n hok hc i (by omega);have hi:i<cyc.length:=by omega
  have hj:(i+1) % cyc.length<cyc.length:=Nat.mod_lt _ (by omega);have m1:cyc[i]?=some cyc[i]:=QJ hi;have m2:cyc[(i+1) % cyc.length]?=some cyc[(i+1) % cyc.length]:=QJ hj;obtain⟨k1,_,_,e1⟩:=d9J (hc _ (Qt m1));obtain⟨k2,_,_,e2⟩:=d9J (hc _ (Qt m2));have:=c7u (hok _ (Qt e1)) (hok _ (Qt e2));simp only[d8W,d9T,m1,m2,QH];omega
theorem e0P(i m:Nat):Int.tmod ((i:Int)+1) (m:Int)=(((i+1) % m:Nat):Int):=by
 rw[show (i:Int)+1=((i+1:Nat):Int) from by omega];exact(Int.ofNat_tmod _ _).symm
def lst(σ:List MO)(P:PV)(N:Nat)(vs fs:List Int)(is:List Int):PEnv :=
 {i:=is,b:=[],v:=[P,.msl σ.length 0 N N 1,.msl (σ.length+1) 0 N N 1],m:=σ++[.cells (a0O vs) 2,.cells (a0O fs) 3],k:=σ.length}
def gN(l:List Ch)(x y:Nat):Int:=b3p (b1R l (x:Int)) (b1R l (y:Int))
theorem chN{l:List Ch}{x:Nat}(h:x<l.length):l[x]?=some (b1R l (x:Int)):=by simp[b1R,h]
theorem b4j(h o len cap sz:Nat):(PV.msl h o len cap sz).len=len:=rfl
theorem d7d(σ:List MO)(l:List Ch)(P:PV)(hP:P.rowsOf 12=some (l.map Ch.row))(hok:∀x∈l,x.ok)(hl:l.length<=1000)(n:Nat)(hn:2<=n)(vs fs:List Int)(hvs:vs.length=l.length)(hfs:fs.length=l.length)
  (ch r:Int) (a b fuel:Nat) (ha:a<l.length) (hb:b<l.length) (h1:-1000000000000<=at' vs a/\at' vs a<=1000000000000) :
  a0r.loop (a0b Tab n) (fuel+1) 3 (lst σ P l.length vs fs [ch,(a:Int),(l.length:Int),r,(l.length:Int),(l.length:Int),(b:Int)]) =
   if at' vs a+gN l a b<at' vs b then a0r.loop (a0b Tab n) fuel 3 (lst σ P l.length (vs.set b (at' vs a+gN l a b)) (fs.set b (a:Int)) [(b:Int),(a:Int),(l.length:Int),r,(l.length:Int),(l.length:Int),((b+1:Nat):Int)])
   else a0r.loop (a0b Tab n) fuel 3 (lst σ P l.length vs fs [ch,(a:Int),(l.length:Int),r,(l.length:Int),(l.length:Int),((b+1:Nat):Int)]):=by
 obtain⟨p1,p2,p3⟩:=a0i hP;rw[Qr] at p1;have ex:=chN ha;have ey:=chN hb;have hxo:=hok _ (Qt ex);have hyo:=hok _ (Qt ey);have gb:=c7u hxo hyo;have c1:=c9o (σ++[.cells (a0O vs) 2,.cells (a0O fs) 3]) _ _ hxo hyo n hn;have lx:=a1d (off:=0) hP (b0w ex);have ly:=a1d (off:=0) hP (b0w ey);have dva:=a6T (a9c (l:=vs) (i:=a) (by omega));have dvb:=a6T (a9c (l:=vs) (i:=b) (by omega));have ma:=a5h (h:=σ.length) (o:=0) (cap:=l.length) (sz:=1) (off:=0) ha;have mb:=a5h (h:=σ.length) (o:=0) (cap:=l.length) (sz:=1) (off:=0) hb;have mb2:=a5h (h:=σ.length+1) (o:=0) (cap:=l.length) (sz:=1) (off:=0) hb;have hgN:gN l a b=b3p (b1R l (a:Int)) (b1R l (b:Int)):=rfl;rw[hgN];generalize b1R l (a:Int)=x at *
 generalize b1R l (b:Int)=y at *
 generalize b3p x y=gg at *
 generalize hw:at' vs a+gg=w at *
 have sv:=b2q (l:=vs) (i:=b) w (by omega);have sf:=b2q (l:=fs) (i:=b) (a:Int) (by omega);have lv:b+1<=(a0O vs).length:=by rw[b2j];omega
 have lf:b+1<=(a0O fs).length:=by rw[b2j];omega
 generalize hV':a0O (vs.set b w)=V' at *
 generalize hF':a0O (fs.set b (a:Int))=F' at *
 have q1:(leB 0 (a:Int)&&decide (a<l.length))=true:=by simp[leB,ha]
 have q2:(leB 0 (b:Int)&&decide (b<l.length))=true:=by simp[leB,hb]
 have q2':(leB 0 (b:Int)&&true)=true:=by simp[leB]
 have q3:(leB (-9223372036854775808) w&&leB w 9223372036854775807)=true:=by simp[leB];omega
 have q4:(leB (-9223372036854775808) ((b:Int)+1)&&leB ((b:Int)+1) 9223372036854775807)=true:=by simp[leB];omega
 have e2:((b+1:Nat):Int)=(b:Int)+1:=by omega
 have o1:((1:Nat)<=1)=True:=eq_true (by decide);simp only[b4F,a2g] at c1;rw[e2];by_cases hlt:w<at' vs b
 ·have e3:ltB w (at' vs b)=true:=a0Q.2 hlt
  have hev:a1K.ev (a0b Tab n) (lst σ P l.length vs fs [ch,(a:Int),(l.length:Int),r,(l.length:Int),(l.length:Int),(b:Int)])=some (.jump 3 {i:=[(b:Int),(a:Int),(l.length:Int),r,(l.length:Int),(l.length:Int),(b:Int)+1],b:=[],v:=[P,.msl σ.length 0 l.length l.length 1,.msl (σ.length+1) 0 l.length l.length 1],m:=σ++[.cells V' 2,.cells F' 3],k:=σ.length}):=by
   unfold a1K;have hd:decide (b<l.length)=true:=dT0 hb
   repeat' (first|with_reducible rfl|apply a3d|simp only[↓reduceIte,a0d,a0h,a0u,a0n,a1P,a0k,BE.safe,BE.pe,IE.pe,PEnv.at,Q3,Q4,Q7,Q8,a0p,a0a,a0P,Qh,Qs,Qb,Qd,Nat.reduceAdd,Qp,Q2,Qj,Qk,a0c,a0l,a0g,Q1,Q0,PEnv.push,Q6,Q5,Qf,SV.pvs,SV.pv,BE.all,Qe,Qa,Q9,lst,hd,if_pos q2',p1,b4j,a0x,if_pos q1,if_pos q3,if_pos q4,lx,ly,ma,mb,mb2,a2g,c1,a6Z,c0a,b4U,c5r,MO.list,Qy,Qq,dva,dvb,Qz,hw,e3,lv,lf,sv,sf]|unfold a6d|unfold a6k)
  rw[if_pos hlt,Sys.loop,show a0r.loops[3]?=some a1K from rfl,Q0,hev,Q0];simp only[lst,hV',hF']
 ·have e3:ltB w (at' vs b)=false:=a0F.2 hlt
  have hev:a1K.ev (a0b Tab n) (lst σ P l.length vs fs [ch,(a:Int),(l.length:Int),r,(l.length:Int),(l.length:Int),(b:Int)])=some (.jump 3 (lst σ P l.length vs fs [ch,(a:Int),(l.length:Int),r,(l.length:Int),(l.length:Int),(b:Int)+1])):=by
   unfold a1K;have hd:decide (b<l.length)=true:=dT0 hb
   repeat' (first|with_reducible rfl|apply a3d|simp only[↓reduceIte,a0d,a0h,a0u,a0n,a1P,a0k,BE.safe,BE.pe,IE.pe,PEnv.at,Q3,Q4,Q7,Q8,a0p,a0a,a0P,Qh,Qs,Qb,Qd,Nat.reduceAdd,Qp,Q2,Qj,Qk,a0c,a0l,a0g,Q1,Q0,PEnv.push,Q6,Q5,Qf,SV.pvs,SV.pv,BE.all,Qe,Qa,Q9,lst,hd,if_pos q2',p1,b4j,a0x,if_pos q1,if_pos q3,if_pos q4,lx,ly,ma,mb,mb2,a2g,c1,a6Z,c0a,b4U,c5r,MO.list,Qy,Qq,dva,dvb,Qz,hw,e3]|unfold a6d|unfold a6k)
  rw[if_neg hlt,Sys.loop,show a0r.loops[3]?=some a1K from rfl,Q0,hev,Q0]
structure LS (l:List Ch)(vs fs:List Int)(ch:Int)(T R a b:Nat):Prop where
 hv:vs.length=l.length
 hf:fs.length=l.length
 inv:∃c t,Inv l.length (gN l) (at' vs) (at' fs) c t T R a b/\((ch=-1/\∀x,x<l.length->c x≠R)\/∃z:Nat,z<l.length/\ch=(z:Int)/\c z=R)
theorem c7B{l:List Int}{b:Nat}(x:Int)(h:b<l.length):at' (l.set b x)=upd (at' l) b x:=by
 funext i;rw[d3g x h];rfl
theorem d2K(l:List Ch)(x:Nat):gN l x x=0:=by unfold gN b3p;omega
theorem d4D{l:List Ch}(hok:∀x∈l,x.ok){x y:Nat}(hx:x<l.length)(hy:y<l.length):-24000000<=gN l x y/\gN l x y<=24000000 :=
 c7u (hok _ (Qt (chN hx))) (hok _ (Qt (chN hy)))
section
variable (σ:List MO)(l:List Ch)(P:PV)(hP:P.rowsOf 12=some (l.map Ch.row))(hok:∀x∈l,x.ok)(hl:l.length<=30)(n:Nat)(hn:2<=n)
include hP hok hl hn in
theorem d3v(r:Int)(vs fs:List Int)(ch:Int)(T R a b:Nat)(h:LS l vs fs ch T R a b)(hR:1<=R)(hT:T+1<=27000)(ha:a<l.length)(hb:b<l.length) :
  ∃vs' fs' ch',LS l vs' fs' ch' (T+1) R a (b+1)/\∀fuel,a0r.loop (a0b Tab n) (fuel+1) 3 (lst σ P l.length vs fs [ch,(a:Int),(l.length:Int),r,(l.length:Int),(l.length:Int),(b:Int)]) =
   a0r.loop (a0b Tab n) fuel 3 (lst σ P l.length vs' fs' [ch',(a:Int),(l.length:Int),r,(l.length:Int),(l.length:Int),((b+1:Nat):Int)]):=by
 obtain⟨hv,hf,c,t,hi,hch⟩:=h;have hlow:=hi.low a ha;have step:=fun fuel=>d7d σ l P hP hok (by omega) n hn vs fs hv hf ch r a b fuel ha hb (by omega)
 by_cases hlt:at' vs a+gN l a b<at' vs b
 ·simp only[if_pos hlt] at step
  refine⟨_,_,_,⟨by simp[hv],by simp[hf],upd c b R,upd t b (T+1),?_,.inr ⟨b,hb,rfl,a3X _ _ _⟩⟩,step⟩;rw[c7B _ (by omega),c7B _ (by omega)];exact hi.lower ha hb hR (d4D hok ha hb).1 (d2K l a) hlt
 ·simp only[if_neg hlt] at step
  exact⟨vs,fs,ch,⟨hv,hf,c,t,hi.keep (by omega),hch⟩,step⟩
include hP hok hl hn in
theorem d6H(r:Int)(R a:Nat)(hR:1<=R)(ha:a<l.length):∀d b vs fs ch T,b+d=l.length->LS l vs fs ch T R a b->T+d<=27000 ->
  ∃vs' fs' ch',LS l vs' fs' ch' (T+d) R (a+1) 0/\∀fuel,a0r.loop (a0b Tab n) (fuel+d+1) 3 (lst σ P l.length vs fs [ch,(a:Int),(l.length:Int),r,(l.length:Int),(l.length:Int),(b:Int)]) =
   a0r.loop (a0b Tab n) fuel 2 (lst σ P l.length vs' fs' [ch',(l.length:Int),r,(l.length:Int),((a+1:Nat):Int)]):=by
 intro d
 induction d with
 | zero =>
  intro b vs fs ch T hb h hT;obtain rfl:b=l.length:=by omega
  obtain⟨hv,hf,c,t,hi,hch⟩:=h;refine⟨vs,fs,ch,⟨hv,hf,c,t,hi.row,hch⟩,fun fuel=>?_⟩;have hd:decide (l.length<l.length)=false:=by simp
  have q4:(leB (-9223372036854775808) ((a:Int)+1)&&leB ((a:Int)+1) 9223372036854775807)=true:=by simp[leB];omega
  rw[Qh,Sys.loop,show a0r.loops[3]?=some a1K from rfl];simp only[Q0,a1K,↓reduceIte,a0d,a0h,a0k,BE.safe,BE.pe,IE.pe,Q3,Q4,Q7,Q8,Q2,Q1,Q0,SV.pvs,SV.pv,BE.all,Qe,Qa,Q9,lst,a0x,hd,if_pos q4,show ((a+1:Nat):Int)=(a:Int)+1 from by omega]
 | succ d ih =>
  intro b vs fs ch T hb h hT;obtain⟨vs1,fs1,ch1,h1,s1⟩:=d3v σ l P hP hok hl n hn r vs fs ch T R a b h hR (by omega) ha (by omega);obtain⟨vs2,fs2,ch2,h2,s2⟩:=ih (b+1) vs1 fs1 ch1 (T+1) (by omega) h1 (by omega);refine⟨vs2,fs2,ch2,by rw[show T+(d+1)=T+1+d by omega];exact h2,fun fuel=>?_⟩;rw[show fuel+(d+1)+1=(fuel+d+1)+1 by omega,s1,s2]
include hP hok hl hn in
theorem d4u(r:Int)(R:Nat)(hR:1<=R):∀d a vs fs ch T,a+d=l.length->LS l vs fs ch T R a 0->T+d*l.length<=27000 ->
  ∃vs' fs' ch',LS l vs' fs' ch' (T+d*l.length) R l.length 0/\∀fuel,a0r.loop (a0b Tab n) (fuel+d*(l.length+2)) 2 (lst σ P l.length vs fs [ch,(l.length:Int),r,(l.length:Int),(a:Int)]) =
   a0r.loop (a0b Tab n) fuel 2 (lst σ P l.length vs' fs' [ch',(l.length:Int),r,(l.length:Int),(l.length:Int)]):=by
 intro d;obtain⟨p1,p2,p3⟩:=a0i hP;rw[Qr] at p1
 induction d with
 | zero =>
  intro a vs fs ch T ha h hT;obtain rfl:a=l.length:=by omega
  refine⟨vs,fs,ch,by rw[QQ,Qh];exact h,fun fuel=>?_⟩;rw[QQ,Qh]
 | succ d ih =>
  intro a vs fs ch T ha h hT;have e1:(d+1)*l.length=d*l.length+l.length:=QS _ _;have e2:(d+1)*(l.length+2)=d*(l.length+2)+(l.length+2):=QS _ _;obtain⟨vs1,fs1,ch1,h1,s1⟩:=d6H σ l P hP hok hl n hn r R a hR (by omega) l.length 0 vs fs ch T (by omega) h (by omega);obtain⟨vs2,fs2,ch2,h2,s2⟩:=ih (a+1) vs1 fs1 ch1 (T+l.length) (by omega) h1 (by omega);refine⟨vs2,fs2,ch2,by rw[e1,show T+(d*l.length+l.length)=T+l.length+d*l.length by omega];exact h2,fun fuel=>?_⟩;rw[e2,show fuel+(d*(l.length+2)+(l.length+2))=((fuel+d*(l.length+2))+l.length+1)+1 by omega,<- s2,<- s1];have hd:decide (a<l.length)=true:=dT0 (by omega);rw[Sys.loop,show a0r.loops[2]?=some a2x from rfl];simp only[Q0,a2x,↓reduceIte,a0d,a0h,a0k,BE.safe,BE.pe,IE.pe,PEnv.at,Q3,Q4,Q7,Q8,Q1,Q0,SV.pvs,SV.pv,BE.all,Qa,Q9,lst,a0x,hd,p1,p2];rfl
end
theorem isM(h o len cap sz:Nat):PV.isKind 0 (.msl h o len cap sz)=true:=rfl
structure LR (l:List Ch)(vs fs:List Int)(ch:Int)(T r:Nat):Prop where
 hv:vs.length=l.length
 hf:fs.length=l.length
 inv:∃c t,Inv l.length (gN l) (at' vs) (at' fs) c t T (r+1) 0 0/\(∀x,x<l.length->c x<=r)/\((r=0/\ch=-1)\/∃z:Nat,z<l.length/\ch=(z:Int)/\c z=r)
def d0t(σ:List MO)(l:List Ch)(res:PV×List MO):Prop :=
 (∃vs fs:List Int,vs.length=l.length/\fs.length=l.length/\(∀x y,x<l.length->y<l.length->at' vs y<=at' vs x+gN l x y)/\(∀x,x<l.length->-648000000000<=at' vs x/\at' vs x<=0) /\
  res=(.tup [.msl σ.length 0 l.length l.length 1,.nilS],σ++[.cells (a0O vs) 2,.cells (a0O fs) 3])) \/
 (∃(vs fs:List Int) (c t:Nat->Nat) (z j k:Nat),vs.length=l.length/\fs.length=l.length/\Go.Bf.Fin l.length (gN l) (at' vs) (at' fs) c t z/\j<k/\k<=l.length/\a0q (at' fs) z k=a0q (at' fs) z j /\
  res=(.tup [.nilS,.sl 1 (a2o (a1I (at' fs) z j (k-j)).reverse)],σ++[.cells (a0O vs) 2,.cells (a0O fs) 3]))
section
variable (σ:List MO)(hσ:b1a σ)(l:List Ch)(P:PV)(hP:P.rowsOf 12=some (l.map Ch.row))(hok:∀x∈l,x.ok)(hl:l.length<=30)(n:Nat)(hn:110<=n)
theorem d3r(x:Nat)(T:Nat)(hT:T<=27000)(v:Int)(h:-(24000000*(T:Int))<=v/\v<=0):-648000000000<=v/\v<=0:=by omega
include hσ hP hok hl hn in
theorem b1j:∀d r vs fs ch T,r+d=l.length->LR l vs fs ch T r->T<=r*(l.length*l.length) ->
  ∃res,d0t σ l res/\∀fuel,a0r.loop (a0b Tab n) (fuel+d*(l.length*(l.length+2)+2)+1) 1 (lst σ P l.length vs fs [ch,(l.length:Int),(r:Int)])=some res:=by
 intro d;obtain⟨p1,p2,p3⟩:=a0i hP;rw[Qr] at p1
 have hNN:l.length*(l.length*l.length)<=27000:=by
  calc l.length*(l.length*l.length)<=30*(30*30):=QU hl (QU hl hl)
   _=27000:=rfl
 induction d with
 | zero =>
  intro r vs fs ch T hr h hT;obtain rfl:r=l.length:=by omega
  obtain⟨hv,hf,c,t,hi,hc,hch⟩:=h;have hd:decide (l.length<l.length)=false:=by simp
  rcases hch with ⟨h0,rfl⟩|⟨z,hz,rfl,hcz⟩
  ·refine⟨_,.inl ⟨vs,fs,hv,hf,fun x y hx=>by omega,fun x hx=>by omega,rfl⟩,fun fuel=>?_⟩
   have e1:ltB (-1) 0=true:=rfl;rw[QQ,Qh,Sys.loop,show a0r.loops[1]?=some a2v from rfl];simp only[Q0,a2v,↓reduceIte,a0j,a0d,BE.safe,BE.pe,IE.pe,Q3,Q4,Q7,Q8,Q2,Q1,Q0,SV.pvs,SV.pv,lst,a0x,hd,e1,a0m,true_or]
  ·have hfin:Go.Bf.Fin l.length (gN l) (at' vs) (at' fs) c t z:=⟨hi.par,hi.uniq,hz,by omega⟩
   have e1:ltB (z:Int) 0=false:=by rw[a0F];omega
   have hfl:b1a (σ++[.cells (a0O vs) 2,.cells (a0O fs) 3]):=by
    have:=(hσ.snoc vs 2).snoc fs 3;rw[QY] at this;exact this
   rw[<- hf] at hfin;obtain⟨j,k,hjk,hk,he,hev⟩:=d0q (σ++[.cells (a0O vs) 2,.cells (a0O fs) 3]) hfl (σ.length+1) fs 3 (c0a _ _ _ _) (by omega) hfin n (by omega);rw[hf] at hfin hev;refine⟨_,.inr ⟨vs,fs,c,t,z,j,k,hv,hf,hfin,hjk,by omega,he,rfl⟩,fun fuel=>?_⟩;simp only[b3U] at hev;have ho:∀rows,(PV.sl 1 rows).one=true:=fun _=>rfl
   rw[QQ,Qh,Sys.loop,show a0r.loops[1]?=some a2v from rfl];simp only[Q0,a2v,↓reduceIte,a0j,a0d,a0n,BE.safe,BE.pe,IE.pe,Q3,Q4,Q7,Q8,Q2,a0c,a0l,a0g,Q1,Q0,PEnv.push,Q6,Q5,SV.pvs,SV.pv,lst,a0x,hd,e1,hev,ho,a0m,true_or]
 | succ d ih =>
  intro r vs fs ch T hr h hT;obtain⟨hv,hf,c,t,hi,hc,hch⟩:=h;have hT2:T+l.length*l.length<=(r+1)*(l.length*l.length):=by rw[QS];omega
  have hT3:(r+1)*(l.length*l.length)<=l.length*(l.length*l.length):=Nat.mul_le_mul_right _ (by omega);have hLS:LS l vs fs (-1) T (r+1) 0 0:=⟨hv,hf,c,t,hi,.inl ⟨rfl,fun x hx=>by have:=hc x hx;omega⟩⟩;obtain⟨vs1,fs1,ch1,h1,s1⟩:=d4u σ l P hP hok hl n (by omega) (r:Int) (r+1) (by omega) l.length 0 vs fs (-1) T (by omega) hLS (by omega);obtain⟨hv1,hf1,c1,t1,hi1,hch1⟩:=h1;have hd:decide (r<l.length)=true:=dT0 (by omega);have hd2:decide (l.length<l.length)=false:=by simp
  have first:∀fuel,a0r.loop (a0b Tab n) ((fuel+l.length*(l.length+2))+1) 1 (lst σ P l.length vs fs [ch,(l.length:Int),(r:Int)])=a0r.loop (a0b Tab n) fuel 2 (lst σ P l.length vs1 fs1 [ch1,(l.length:Int),(r:Int),(l.length:Int),(l.length:Int)]):=by
   intro fuel;rw[<- s1,Sys.loop,show a0r.loops[1]?=some a2v from rfl];simp only[Q0,a2v,↓reduceIte,a0d,a0h,a0k,BE.safe,BE.pe,IE.pe,PEnv.at,Q3,Q4,Q7,Q8,Q1,Q0,SV.pvs,SV.pv,BE.all,Qa,Q9,lst,a0x,hd,p1,p2];rfl
  have e2:(d+1)*(l.length*(l.length+2)+2)=d*(l.length*(l.length+2)+2)+(l.length*(l.length+2)+2):=QS _ _;rcases hch1 with ⟨rfl,hno⟩|⟨z,hz,rfl,hcz⟩
  ·have hst:=hi1.stable hno
   refine⟨_,.inl ⟨vs1,fs1,hv1,hf1,hst,fun x hx=>d3r x _ (by omega) _ (hi1.low x hx),rfl⟩,fun fuel=>?_⟩;have e1:ltB (-1) 0=true:=rfl;rw[e2,show fuel+(d*(l.length*(l.length+2)+2)+(l.length*(l.length+2)+2))+1=((fuel+d*(l.length*(l.length+2)+2)+1+1)+l.length*(l.length+2))+1 by omega,first];rw[Sys.loop,show a0r.loops[2]?=some a2x from rfl];simp only[Q0,a2x,↓reduceIte,a0j,a0d,BE.safe,BE.pe,IE.pe,Q3,Q4,Q7,Q8,Q2,Q1,Q0,SV.pvs,SV.pv,lst,a0x,hd2,e1,a0m,true_or]
  ·have e1:ltB (z:Int) 0=false:=by rw[a0F];omega
   have hLR:LR l vs1 fs1 (z:Int) (T+l.length*l.length) (r+1):=⟨hv1,hf1,c1,t1,hi1.round,hi1.cle,.inr ⟨z,hz,rfl,hcz⟩⟩;obtain⟨res,hres,hev⟩:=ih (r+1) vs1 fs1 (z:Int) _ (by omega) hLR hT2;refine⟨res,hres,fun fuel=>?_⟩;have q4:(leB (-9223372036854775808) ((r:Int)+1)&&leB ((r:Int)+1) 9223372036854775807)=true:=by simp[leB];omega
   rw[e2,show fuel+(d*(l.length*(l.length+2)+2)+(l.length*(l.length+2)+2))+1=((fuel+d*(l.length*(l.length+2)+2)+1+1)+l.length*(l.length+2))+1 by omega,first];rw[<- hev fuel,Sys.loop,show a0r.loops[2]?=some a2x from rfl];simp only[Q0,a2x,↓reduceIte,a0d,a0h,a0k,BE.safe,BE.pe,IE.pe,Q3,Q4,Q7,Q8,Q2,Q1,Q0,SV.pvs,SV.pv,BE.all,Qe,Qa,Q9,lst,a0x,hd2,e1,if_pos q4];rw[show ((r+1:Nat):Int)=(r:Int)+1 from by omega]
include hP hl in
theorem d5g:∀d i,i+d=l.length->∀fuel,a0r.loop (a0b Tab n) (fuel+d+1) 0 (lst σ P l.length (Qg l.length 0) (Qg i (-1)++Qg d 0) [(l.length:Int),(i:Int)])=a0r.loop (a0b Tab n) fuel 1 (lst σ P l.length (Qg l.length 0) (Qg l.length (-1)) [-1,(l.length:Int),0]):=by
 intro d;obtain⟨p1,p2,p3⟩:=a0i hP;rw[Qr] at p1
 induction d with
 | zero =>
  intro i hi fuel;obtain rfl:i=l.length:=by omega
  have hd2:decide (l.length<l.length)=false:=by simp
  rw[Sys.loop,show a0r.loops[0]?=some a4d from rfl];simp only[Q0,a4d,↓reduceIte,a0d,a0h,a0k,BE.safe,BE.pe,IE.pe,PEnv.at,Q3,Q4,Q7,Q8,Q2,Q1,Q0,Qf,SV.pvs,SV.pv,BE.all,Qa,Q9,lst,a0x,hd2,p1,p2,List.replicate_zero]
 | succ d ih =>
  intro i hi fuel;have hd:decide (i<l.length)=true:=dT0 (by omega);have q1:(leB 0 (i:Int)&&true)=true:=by simp[leB]
  have q4:(leB (-9223372036854775808) ((i:Int)+1)&&leB ((i:Int)+1) 9223372036854775807)=true:=by simp[leB];omega
  have mb2:=a5h (h:=σ.length+1) (o:=0) (cap:=l.length) (sz:=1) (off:=0) (i:=i) (len:=l.length) (by omega)
  have hset:(Qg i (-1:Int)++Qg (d+1) 0).set i (-1)=Qg (i+1) (-1)++Qg d 0:=by
   rw[List.replicate_succ,X5,QY];have:=QZ (s:=Qg i (-1:Int)) (t:=0::Qg d 0) i (-1) (by simp);rw[this];simp
  have sf:=b2q (l:=Qg i (-1:Int)++Qg (d+1) 0) (i:=i) (-1) (by simp);rw[hset] at sf;have lf:i+1<=(a0O (Qg i (-1:Int)++Qg (d+1) 0)).length:=by rw[b2j];simp
  have:=ih (i+1) (by omega) fuel;rw[<- this,show fuel+(d+1)+1=(fuel+d+1)+1 by omega,Sys.loop,show a0r.loops[0]?=some a4d from rfl];generalize a0O (Qg l.length 0)=A at *
  simp only[lst];generalize a0O (Qg i (-1:Int)++Qg (d+1) 0)=B at *
  generalize a0O (Qg (i+1) (-1:Int)++Qg d 0)=B' at *
  simp only[Q0,a4d,↓reduceIte,a0d,a0h,a1P,a0k,BE.safe,BE.pe,IE.pe,PEnv.at,Q3,Q4,Q7,Q8,a0p,Qh,Qb,Qd,Q1,Q0,SV.pvs,SV.pv,BE.all,Qe,Qa,Q9,a0x,hd,b4j,if_pos q1,if_pos q4,mb2,c0a,c5r,Qy,Qq,lf,sf,show ((i+1:Nat):Int)=(i:Int)+1 from by omega]
include hσ hP hok hl hn in
theorem c6W(hn2:l.length*(l.length*(l.length+2)+2)+l.length+10<n):∃res,d0t σ l res/\a0b Tab (n+1) b2p [P] σ=some res:=by
 obtain⟨p1,p2,p3⟩:=a0i hP;rw[Qr] at p1
 have hLR:LR l (Qg l.length 0) (Qg l.length (-1)) (-1) 0 0:=by
  refine⟨by simp,by simp,fun _=>0,fun _=>0,Inv.start _ _ _ _ (fun x hx=>by simp[at',hx]),fun _ _=>Qp _,.inl ⟨rfl,rfl⟩⟩
 obtain⟨res,hres,hev⟩:=b1j σ hσ l P hP hok hl n hn l.length 0 _ _ _ 0 (by omega) hLR (Nat.zero_le _);refine⟨res,hres,?_⟩;have hlk:=d5g σ l P hP hl n l.length 0 (by omega);have e:=hev (n-(l.length*(l.length*(l.length+2)+2)+l.length+2));rw[show ((0:Nat):Int)=0 from rfl,<- hlk] at e;rw[show n-(l.length*(l.length*(l.length+2)+2)+l.length+2)+l.length*(l.length*(l.length+2)+2)+1+l.length+1=n by omega] at e;simp only[a0b,b7h,Q0,Sys.run];show ((a0f [.sh (.one _)] _).bind _)=_;simp only[a0f,a0g,a0c,Q1,Q0,Qf,if_true,p3];show (PT.ev _ a8C _).bind _=_;have q1:(0<=((l.length:Nat):Int)/\((l.length:Nat):Int)<=1000000/\(8:Nat)<=100000000):=⟨by omega,by omega,by omega⟩;have hrep:=c4P l.length 0;simp only[a8C,↓reduceIte,a0h,a5K,a0k,BE.safe,BE.pe,IE.pe,PEnv.at,Q3,Q4,Q7,Q8,Q1,Q0,Q6,Q5,SV.pvs,SV.pv,BE.all,Qa,Q9,p1,p2,if_pos q1,QM,hrep,d2v,d2o,isM,b4j];exact e
end
def rs0(l:List Ch)(vs:List Int):Nat->Int
 | 0=>0
 | i+1=>mxI (rs0 l vs i) (a8i (b1R l (i:Int)).p (b1R l (i:Int)).w-at' vs i)
def rs1(l:List Ch)(vs:List Int)(r0:Int):Nat->Int
 | 0=>r0
 | i+1=>if (b1R l (i:Int)).w.isZ=true then 0-at' vs i else rs1 l vs r0 i
def a7B(l:List Ch)(vs:List Int):Int:=rs1 l vs (rs0 l vs l.length) l.length
theorem c9m{l:List Ch}(hok:∀x∈l,x.ok){vs:List Int}(hb:∀x,x<l.length->-648000000000<=at' vs x/\at' vs x<=0):∀i,i<=l.length->0<=rs0 l vs i/\rs0 l vs i<=648024000000
 | 0,_=>by simp[rs0]
 | i+1,h=>by
  have ih:=c9m hok hb i (by omega);have hxo:=hok _ (Qt (chN (x:=i) (l:=l) (by omega)));have:=b3t hxo.1 hxo.2;have:=hb i (by omega);simp only[rs0,mxI];split<;>omega
theorem c9T{l:List Ch}{vs:List Int}(hb:∀x,x<l.length->-648000000000<=at' vs x/\at' vs x<=0){r0:Int}(h0:0<=r0/\r0<=648024000000):∀i,i<=l.length->0<=rs1 l vs r0 i/\rs1 l vs r0 i<=648024000000
 | 0,_=>h0
 | i+1,h=>by
  have ih:=c9T hb h0 i (by omega);have:=hb i (by omega);simp only[rs1];split<;>omega
def cst(σ:List MO)(P:PV)(N:Nat)(vs fs:List Int)(is:List Int):PEnv :=
 {i:=is,b:=[],v:=[P,.msl σ.length 0 N N 1],m:=σ++[.cells (a0O vs) 2,.cells (a0O fs) 3],k:=σ.length}
def b4Z(σ:List MO)(P:PV)(N:Nat)(vs fs:List Int)(is:List Int):PEnv :=
 {i:=is,b:=[],v:=[.msl σ.length 0 N N 1,P],m:=σ++[.cells (a0O vs) 2,.cells (a0O fs) 3],k:=σ.length}
def b7P(σ:List MO)(N:Nat)(vs fs:List Int)(is:List Int):PEnv :=
 {i:=is,b:=[],v:=[.msl σ.length 0 N N 1],m:=σ++[.cells (a0O vs) 2,.cells (a0O fs) 3],k:=σ.length}
section
variable (σ:List MO)(hσ:b1a σ)(l:List Ch)(P:PV)(hP:P.rowsOf 12=some (l.map Ch.row))(hok:∀x∈l,x.ok)(hl:l.length<=30)(n:Nat)(hn:110<=n)
variable (vs fs:List Int)(hvs:vs.length=l.length)(hb:∀x,x<l.length->-648000000000<=at' vs x/\at' vs x<=0)
include hP hok hl hn hvs hb in
theorem d6q(i fuel:Nat)(hi:i<l.length):a0y.loop (a0b Tab n) (fuel+1) 0 (cst σ P l.length vs fs [rs0 l vs i,(l.length:Int),(i:Int)])=a0y.loop (a0b Tab n) fuel 0 (cst σ P l.length vs fs [rs0 l vs (i+1),(l.length:Int),((i+1:Nat):Int)]):=by
 obtain⟨p1,p2,p3⟩:=a0i hP;rw[Qr] at p1;have ex:=chN hi;have hxo:=hok _ (Qt ex);have c1:=a8k (σ++[.cells (a0O vs) 2,.cells (a0O fs) 3]) _ _ hxo.1 hxo.2 n (by omega);have lx:=a1d (off:=0) hP (b0w ex);have dva:=a6T (a9c (l:=vs) (i:=i) (by omega));have ma:=a5h (h:=σ.length) (o:=0) (cap:=l.length) (sz:=1) (off:=0) hi;have hbi:=hb i hi;have hcb:=b3t hxo.1 hxo.2;have e2:((i+1:Nat):Int)=(i:Int)+1:=by omega
 have hd:decide (i<l.length)=true:=dT0 hi;have q1:(leB 0 (i:Int)&&true)=true:=by simp[leB]
 have q4:(leB (-9223372036854775808) ((i:Int)+1)&&leB ((i:Int)+1) 9223372036854775807)=true:=by simp[leB];omega
 simp only[rs0];generalize rs0 l vs i=r at *
 generalize b1R l (i:Int)=x at *
 generalize a8i x.p x.w=u at *
 have q5:(leB (-9223372036854775808) (u-at' vs i)&&leB (u-at' vs i) 9223372036854775807)=true:=by simp[leB];omega
 simp only[a7v,W6.pv] at c1
 have hev:a3O.ev (a0b Tab n) (cst σ P l.length vs fs [r,(l.length:Int),(i:Int)])=some (.jump 0 (cst σ P l.length vs fs [mxI r (u-at' vs i),(l.length:Int),(i:Int)+1])):=by
  unfold a3O;simp only[↓reduceIte,a0d,a0h,a0u,BE.safe,BE.pe,IE.pe,PEnv.at,Q3,Q4,Q7,a0p,a0a,a0P,Qs,Qb,Qd,Nat.reduceAdd,Qp,Q2,Qj,Qk,a0c,Q1,Q0,PEnv.push,Q6,Q5,Qe,cst,p1,b4j,a0x,hd,if_pos q1,lx,a2g]
  repeat' (first
   | with_reducible rfl
   | apply a3d
   | (unfold a7h;simp only[↓reduceIte,a0h,a0u,a0n,a0k,BE.safe,BE.pe,IE.pe,Q3,Q4,Q7,Q8,a0p,a0a,a0P,Qh,Qb,Qd,Q2,Qj,Qk,a0c,a0l,a0g,Q1,Q0,PEnv.push,Q6,Q5,SV.pvs,SV.pv,BE.all,Qe,Qa,Q9,if_pos q4,if_pos q5,ma,c1,a6Z,MO.list,Qy,Qq,dva,Qz];done)
   | (unfold a7h;simp only[↓reduceIte,a0j,a0d,a0h,a0u,a7z,a5L,a6g,b0D,a5r,a0n,a2l,a5x,a5K,a1P,a6r,a8P,a7k,a7i,a7f,a0k,BE.safe,BE.pe,IE.pe,PEnv.at,Q3,Q4,Q7,Q8,a0p,a1k,a0a,a0P,Qh,Qs,Qb,Qd,Nat.reduceAdd,Qp,if_true,if_false,Q2,Qj,Qk,a0c,a0l,a0g,Q1,Q0,PEnv.push,Q6,Q5,Qf,SV.pvs,SV.pv,BE.all,Qe,Qn,Qm,Qa,Q9,p1,b4j,a0x,hd,if_pos q1,if_pos q4,if_pos q5,lx,ma,a2g,c1,a6Z,MO.list,Qy,Qq,dva,Qz])
   | (unfold a6X;simp only[↓reduceIte,a0h,a0u,a0n,a0k,BE.safe,BE.pe,IE.pe,Q3,Q4,Q7,Q8,a0p,a0a,a0P,Qh,Qb,Qd,Q2,Qj,Qk,a0c,a0l,a0g,Q1,Q0,PEnv.push,Q6,Q5,SV.pvs,SV.pv,BE.all,Qe,Qa,Q9,if_pos q4,if_pos q5,ma,c1,a6Z,MO.list,Qy,Qq,dva,Qz];done)
   | (unfold a6X;simp only[↓reduceIte,a0j,a0d,a0h,a0u,a7z,a5L,a6g,b0D,a5r,a0n,a2l,a5x,a5K,a1P,a6r,a8P,a7k,a7i,a7f,a0k,BE.safe,BE.pe,IE.pe,PEnv.at,Q3,Q4,Q7,Q8,a0p,a1k,a0a,a0P,Qh,Qs,Qb,Qd,Nat.reduceAdd,Qp,if_true,if_false,Q2,Qj,Qk,a0c,a0l,a0g,Q1,Q0,PEnv.push,Q6,Q5,Qf,SV.pvs,SV.pv,BE.all,Qe,Qn,Qm,Qa,Q9,p1,b4j,a0x,hd,if_pos q1,if_pos q4,if_pos q5,lx,ma,a2g,c1,a6Z,MO.list,Qy,Qq,dva,Qz]))
 rw[e2,Sys.loop,show a0y.loops[0]?=some a3O from rfl,Q0,hev,Q0]
include hP hl hvs hb in
theorem d5X(r0:Int)(i fuel:Nat)(hi:i<l.length):a0y.loop (a0b Tab n) (fuel+1) 1 (b4Z σ P l.length vs fs [rs1 l vs r0 i,(l.length:Int),(i:Int)])=a0y.loop (a0b Tab n) fuel 1 (b4Z σ P l.length vs fs [rs1 l vs r0 (i+1),(l.length:Int),((i+1:Nat):Int)]):=by
 obtain⟨p1,p2,p3⟩:=a0i hP;rw[Qr] at p1;have ex:=chN hi;have lx:=a1d (off:=0) hP (b0w ex);have dva:=a6T (a9c (l:=vs) (i:=i) (by omega));have ma:=a5h (h:=σ.length) (o:=0) (cap:=l.length) (sz:=1) (off:=0) hi;have hbi:=hb i hi;have e2:((i+1:Nat):Int)=(i:Int)+1:=by omega
 have hd:decide (i<l.length)=true:=dT0 hi;have q1:(leB 0 (i:Int)&&true)=true:=by simp[leB]
 have q4:(leB (-9223372036854775808) ((i:Int)+1)&&leB ((i:Int)+1) 9223372036854775807)=true:=by simp[leB];omega
 have q5:(leB (-9223372036854775808) (0-at' vs i)&&leB (0-at' vs i) 9223372036854775807)=true:=by simp[leB];omega
 simp only[rs1];generalize rs1 l vs r0 i=r at *
 generalize b1R l (i:Int)=x at *
 have hz:(eqB x.w.a 0&&(eqB x.w.b 0&&(eqB x.w.c 0&&(eqB x.w.d 0&&(eqB x.w.e 0&&eqB x.w.f 0)))))=x.w.isZ:=rfl;rw[e2,Sys.loop,show a0y.loops[1]?=some a3N from rfl,Q0];cases hzz:x.w.isZ with
 | true=>simp only[a3N,↓reduceIte,a0d,a0h,a0u,a0k,BE.safe,BE.pe,IE.pe,PEnv.at,Q3,Q4,Q7,Q8,a0p,a0a,a0P,Qh,Qs,Qb,Qd,Nat.reduceAdd,Qp,Q2,Qj,Qk,a0c,Q1,Q0,PEnv.push,Q6,Q5,SV.pvs,SV.pv,BE.all,Qe,Qa,Q9,b4Z,p1,b4j,a0x,hd,if_pos q1,if_pos q4,if_pos q5,lx,ma,a2g,hz,hzz,a6Z,MO.list,Qy,Qq,dva,Qz]
 | false=>simp only[a3N,↓reduceIte,a0d,a0h,a0u,a0k,BE.safe,BE.pe,IE.pe,PEnv.at,Q3,Q4,Q7,Q8,a0p,a0a,a0P,Qh,Qs,Qb,Qd,Nat.reduceAdd,Qp,Q2,Qj,Qk,a0c,Q1,Q0,PEnv.push,Q6,Q5,SV.pvs,SV.pv,BE.all,Qe,Qa,Q9,b4Z,p1,b4j,a0x,hd,if_pos q1,if_pos q4,lx,ma,a2g,hz,hzz,a6Z,MO.list,Qy,Qq,dva,Qz]
end
theorem c6T(k:Nat)(l:List Int):PV.lowss k (a2o l)=true:=by
 induction l with
 | nil=>rfl
 | cons z l ih=>simpa[a2o,PV.lowss,PV.lows,PV.low] using ih
def b0W(vs:List Int)(r:Int)(i:Nat):List Int:=(vs.take i).map (·+r)++vs.drop i
theorem d0O(vs:List Int)(r:Int)(i:Nat):(b0W vs r i).length=vs.length:=by simp[b0W];omega
theorem c7A{vs:List Int}{r:Int}{i:Nat}(h:i<vs.length):at' (b0W vs r i) i=at' vs i:=by
 unfold at' b0W;rw[List.getElem?_append_right (by simp;omega)];simp[show min i vs.length=i by omega]
theorem d1D{vs:List Int}{r:Int}{i:Nat}(h:i<vs.length):(b0W vs r i).set i (at' vs i+r)=b0W vs r (i+1):=by
 unfold b0W;rw[X4,a9c h,a5T (a9c h)];have hl:i=((vs.take i).map (·+r)).length:=by simp;omega
 have:=QZ (s:=(vs.take i).map (·+r)) (t:=at' vs i::vs.drop (i+1)) i (at' vs i+r) (by simp;omega);rw[this];simp[show min i vs.length=i by omega]
section
variable (σ:List MO)(hσ:b1a σ)(N:Nat)(hN:N<=30)(n:Nat)(r:Int)(vs fs:List Int)(hvs:vs.length=N)(hr:0<=r/\r<=648024000000)(hb:∀x,x<N->-648000000000<=at' vs x/\at' vs x<=0)
include hN in
theorem d6E(i fuel:Nat)(hi:i<N)(cur:List Int)(hc:cur.length=N)(hq:-1000000000000<=at' cur i+r/\at' cur i+r<=1000000000000) :
  a0y.loop (a0b Tab n) (fuel+1) 2 (b7P σ N cur fs [r,(N:Int),(i:Int)])=a0y.loop (a0b Tab n) fuel 2 (b7P σ N (cur.set i (at' cur i+r)) fs [r,(N:Int),((i+1:Nat):Int)]):=by
 have dva:=a6T (a9c (l:=cur) (i:=i) (by omega));have ma:=a5h (h:=σ.length) (o:=0) (cap:=N) (sz:=1) (off:=0) hi;have e2:((i+1:Nat):Int)=(i:Int)+1:=by omega
 have hd:decide (i<N)=true:=dT0 hi;have q1:(leB 0 (i:Int)&&true)=true:=by simp[leB]
 have q4:(leB (-9223372036854775808) ((i:Int)+1)&&leB ((i:Int)+1) 9223372036854775807)=true:=by simp[leB];omega
 have q5:(leB (-9223372036854775808) (at' cur i+r)&&leB (at' cur i+r) 9223372036854775807)=true:=by simp[leB];omega
 have sv:=b2q (l:=cur) (i:=i) (at' cur i+r) (by omega);have lv:i+1<=(a0O cur).length:=by rw[b2j];omega
 rw[e2,Sys.loop,show a0y.loops[2]?=some a4N from rfl,Q0];simp only[a4N,↓reduceIte,a0d,a0h,a0u,a1P,a0k,BE.safe,BE.pe,IE.pe,PEnv.at,Q3,Q4,Q7,a0p,a0a,a0P,Qh,Qb,Qd,Q2,Qj,Qk,a0c,Q1,Q0,PEnv.push,Q6,Q5,SV.pvs,SV.pv,BE.all,Qe,Qa,Q9,b7P,b4j,a0x,hd,if_pos q1,if_pos q4,if_pos q5,ma,a6Z,b4U,MO.list,Qy,Qq,dva,Qz,lv,sv]
include hN hvs hr hb in
theorem d5E:∀d i,i+d=N->∀fuel,a0y.loop (a0b Tab n) (fuel+d) 2 (b7P σ N (b0W vs r i) fs [r,(N:Int),(i:Int)])=a0y.loop (a0b Tab n) fuel 2 (b7P σ N (b0W vs r N) fs [r,(N:Int),(N:Int)]):=by
 intro d
 induction d with
 | zero=>intro i hi fuel;rw[Qh] at hi;subst hi;rfl
 | succ d ih =>
  intro i hi fuel;have hbi:=hb i (by omega);have h:=d6E σ N hN n r fs i (fuel+d) (by omega) (b0W vs r i) (by rw[d0O,hvs]) (by rw[c7A (by omega)];omega);rw[c7A (by omega),d1D (by omega)] at h;rw[show fuel+(d+1)=(fuel+d)+1 from rfl,h];exact ih (i+1) (by omega) fuel
include hσ in
theorem d3Z(cur:List Int)(hc:cur.length=N)(fuel:Nat):a0y.loop (a0b Tab n) (fuel+1) 2 (b7P σ N cur fs [r,(N:Int),(N:Int)])=some (.tup [.agg [.nilS,.sl 1 (a2o cur)],.bool true],σ):=by
 have hd:decide (N<N)=false:=by simp
 have hr:=c1b cur;rw[hc] at hr;rw[Sys.loop,show a0y.loops[2]?=some a4N from rfl];simp only[Q0,a4N,↓reduceIte,a0j,a0d,BE.safe,BE.pe,IE.pe,Q3,Q4,Q7,Q2,Q1,Q0,SV.pvs,SV.pv,b7P,a0x,hd];have hm3:(σ++[.cells (a0O cur) 2,.cells (a0O fs) 3]:List MO).length=σ.length+2:=by simp
 have h1:¬(false=true\/σ.length+2=σ.length):=by simp
 have h2:¬(σ.length<σ.length):=by omega
 simp only[a0m,hm3,X0,hσ σ.length,PV.frz,PV.frzs,if_neg h2,b1l,a6Z,c3e,MO.list,hr,↓reduceIte,Qs,Qp,Q2,Q1,Q0,];simp[]
end
section
variable (σ:List MO)(hσ:b1a σ)(l:List Ch)(P:PV)(hP:P.rowsOf 12=some (l.map Ch.row))(hl:l.length<=30)(n:Nat)(hn:30000<=n)
def c6o(l:List Ch)(p:PV):Prop :=
 (¬(∀x∈l,x.ok)/\p=.tup [.agg [.nilS,.nilS],.bool false]) \/
 ((∀x∈l,x.ok)/\∃vs:List Int,vs.length=l.length/\(∀x y,x<l.length->y<l.length->at' vs y<=at' vs x+gN l x y)/\(∀x,x<l.length->-648000000000<=at' vs x/\at' vs x<=0) /\
  p=.tup [.agg [.nilS,.sl 1 (a2o (vs.map (·+a7B l vs)))],.bool true]) \/
 ((∀x∈l,x.ok)/\∃(vs fs:List Int) (c t:Nat->Nat) (z j k:Nat),Go.Bf.Fin l.length (gN l) (at' vs) (at' fs) c t z/\j<k/\k<=l.length/\a0q (at' fs) z k=a0q (at' fs) z j /\
  p=.tup [.agg [.sl 1 (a2o (a1I (at' fs) z j (k-j)).reverse),.nilS],.bool false])
include hσ hP hl hn in
theorem c9A:∃p,c6o l p/\a0b Tab n b0p [P] σ=some (p,σ):=by
 obtain⟨n,rfl⟩:∃k,n=k+1:=⟨n-1,by omega⟩;obtain⟨p1,p2,p3⟩:=a0i hP;rw[Qr] at p1;have c1:=d3j σ l P hP n (by omega) (by omega);simp only[b1t] at c1;simp only[a0b,b9X,Q0,Sys.run];show ∃p,c6o l p/\((a0f [.sh (.one _)] _).bind _)=_;simp only[a0f,a0g,a0c,Q1,Q0,Qf,if_true,p3];show ∃p,c6o l p/\(PT.ev _ b0t _).bind _=_;simp only[b0t,↓reduceIte,a0j,a0d,a0h,a0n,a0k,BE.safe,BE.pe,IE.pe,PEnv.at,Q3,Q4,Q7,Q8,a0c,a0l,a0g,Q1,Q0,PEnv.push,Q6,Q5,SV.pvs,SV.pv,BE.all,Qa,Q9,c1];by_cases ha:(l.all fun x=>decide x.ok)=true
 case neg =>
  have hno:¬∀x∈l,x.ok:=fun h=>ha (X1.2 fun x hx=>dT0 (h x hx))
  rw[QV] at ha;rw[ha];refine⟨_,.inl ⟨hno,rfl⟩,?_⟩;simp only[↓reduceIte,Q2,Q1,Q0,Qm,a0m,or_true]
 have hok:∀x∈l,x.ok:=fun x hx=>by simpa using (X1.1 ha) x hx
 rw[ha];obtain⟨m,rfl⟩:∃k,n=k+1:=⟨n-1,by omega⟩
 have hNN:l.length*(l.length*(l.length+2)+2)<=28860:=by
  calc l.length*(l.length*(l.length+2)+2)<=30*(30*(30+2)+2):=QU hl (Nat.add_le_add_right (QU hl (by omega)) 2)
   _=28860:=rfl
 obtain⟨res,hres,hev⟩:=c6W σ hσ l P hP hok hl m (by omega) (by omega);simp only[b2p] at hev;rcases hres with ⟨vs,fs,hvs,hfs,hst,hlow,rfl⟩|⟨vs,fs,c,t,z,j,k,hvs,hfs,hfin,hjk,hk,he,rfl⟩
 ·refine⟨_,.inr (.inl ⟨hok,vs,hvs,hst,hlow,rfl⟩),?_⟩
  have ho:∀h o len cap sz,(PV.msl h o len cap sz).one=true:=fun _ _ _ _ _=>rfl
  have hon:PV.nilS.one=true:=rfl;have hk0:PV.isKind 0 .nilS=true:=rfl;have hno:PV.nilS.nilOk=true:=rfl;have hni:PV.nilS.isNil=true:=rfl;simp only[↓reduceIte,Q3,Q4,Q7,Q2,a0c,a0g,Q1,Q0,Q6,Q5,Qf,Qn,hev,a1h,ho,hon,hk0,hno,hni,p1,p2];have b0:=c9m hok hlow l.length (Qp _);have b1:=c9T hlow b0 l.length (Qp _)
  have d1z:∀d i,i+d=l.length->∀fuel,a0y.loop (a0b Tab (m+1)) (fuel+d) 0 (cst σ P l.length vs fs [rs0 l vs i,(l.length:Int),(i:Int)])=a0y.loop (a0b Tab (m+1)) fuel 0 (cst σ P l.length vs fs [rs0 l vs l.length,(l.length:Int),(l.length:Int)]):=by
   intro d
   induction d with
   | zero=>intro i hi fuel;rw[Qh] at hi;subst hi;rfl
   | succ d ih=>intro i hi fuel;rw[show fuel+(d+1)=(fuel+d)+1 from rfl,d6q σ l P hP hok hl (m+1) (by omega) vs fs hvs hlow i _ (by omega)];exact ih (i+1) (by omega) fuel
  have d1Y:∀d i,i+d=l.length->∀fuel,a0y.loop (a0b Tab (m+1)) (fuel+d) 1 (b4Z σ P l.length vs fs [rs1 l vs (rs0 l vs l.length) i,(l.length:Int),(i:Int)])=a0y.loop (a0b Tab (m+1)) fuel 1 (b4Z σ P l.length vs fs [a7B l vs,(l.length:Int),(l.length:Int)]):=by
   intro d
   induction d with
   | zero=>intro i hi fuel;rw[Qh] at hi;subst hi;rfl
   | succ d ih=>intro i hi fuel;rw[show fuel+(d+1)=(fuel+d)+1 from rfl,d5X σ l P hP hl (m+1) vs fs hvs hlow _ i _ (by omega)];exact ih (i+1) (by omega) fuel
  have hd:decide (l.length<l.length)=false:=by simp
  have x0:∀fuel,a0y.loop (a0b Tab (m+1)) (fuel+1) 0 (cst σ P l.length vs fs [rs0 l vs l.length,(l.length:Int),(l.length:Int)])=a0y.loop (a0b Tab (m+1)) fuel 1 (b4Z σ P l.length vs fs [rs0 l vs l.length,(l.length:Int),0]):=by
   intro fuel;rw[Sys.loop,show a0y.loops[0]?=some a3O from rfl];simp only[Q0,a3O,↓reduceIte,a0d,a0h,a0k,BE.safe,BE.pe,IE.pe,PEnv.at,Q3,Q4,Q7,Q8,Q2,Q1,Q0,SV.pvs,SV.pv,BE.all,Qa,Q9,cst,b4Z,a0x,hd,p1,p2]
  have x1:∀fuel,a0y.loop (a0b Tab (m+1)) (fuel+1) 1 (b4Z σ P l.length vs fs [a7B l vs,(l.length:Int),(l.length:Int)])=a0y.loop (a0b Tab (m+1)) fuel 2 (b7P σ l.length vs fs [a7B l vs,(l.length:Int),0]):=by
   intro fuel;rw[Sys.loop,show a0y.loops[1]?=some a3N from rfl];simp only[Q0,a3N,↓reduceIte,a0d,a0h,a0k,BE.safe,BE.pe,IE.pe,PEnv.at,Q3,Q4,Q7,Q2,Q1,Q0,SV.pvs,SV.pv,BE.all,Qa,Q9,b4Z,b7P,a0x,hd,isM,b4j]
  have run2:=d5E σ l.length hl (m+1) (a7B l vs) vs fs hvs b1 hlow l.length 0 (by omega);have hcur0:b0W vs (a7B l vs) 0=vs:=by simp[b0W]
  have hcurN:b0W vs (a7B l vs) l.length=vs.map (·+a7B l vs):=by rw[<- hvs];simp[b0W]
  have fin:=d3Z σ hσ l.length (m+1) (a7B l vs) fs (vs.map (·+a7B l vs)) (by simp[hvs]);rw[hcur0,hcurN] at run2;have e0:=d1z l.length 0 (by omega);have e1:=d1Y l.length 0 (by omega);have tot:=fin (m+1-3*l.length-3);rw[<- run2,show ((0:Nat):Int)=0 from rfl,<- x1,<- e1] at tot;have hs1:rs1 l vs (rs0 l vs l.length) 0=rs0 l vs l.length:=rfl;rw[hs1,show ((0:Nat):Int)=0 from rfl,<- x0,<- e0] at tot;rw[show m+1-3*l.length-3+1+l.length+1+l.length+1+l.length=m+1 by omega] at tot;exact tot
 ·refine⟨_,.inr (.inr ⟨hok,vs,fs,c,t,z,j,k,hfin,hjk,hk,he,rfl⟩),?_⟩
  have hne:a2o (a1I (at' fs) z j (k-j)).reverse≠[]:=by
   intro h;have:=congrArg List.length h;simp[a2o,a8s] at this;omega
  have hlw:PV.lowss σ.length (a2o (a1I (at' fs) z j (k-j)).reverse)=true:=c6T _ _;generalize a2o (a1I (at' fs) z j (k-j)).reverse=rows at *
  have ho:(PV.sl 1 rows).one=true:=rfl;have hon:PV.nilS.one=true:=rfl;have hk0:PV.isKind 0 (.sl 1 rows)=true:=rfl;have hno:(PV.sl 1 rows).nilOk=true:=by cases rows with|nil=>exact absurd rfl hne|cons a r=>rfl
  have hni:(PV.sl 1 rows).isNil=false:=rfl;simp only[↓reduceIte,Q3,Q4,Q7,Q8,Q2,a0c,a0g,Q1,Q0,Q6,Q5,Qf,Qn,Qm,hev,a1h,ho,hon,hk0,hno,hni,p1,p2];have hm3:(σ++[.cells (a0O vs) 2,.cells (a0O fs) 3]:List MO).length=σ.length+2:=by simp
  have h1:¬(false=true\/σ.length+2=σ.length):=by simp
  simp only[a0m,hm3,X0,hσ σ.length,PV.frz,PV.frzs,hlw,↓reduceIte,Qp,Q2,Q1,Q0,];simp[]
end
def Pot(l:List Ch):Prop:=∃π:Nat->Int,∀x y,x<l.length->y<l.length->π y<=π x+gN l x y
theorem d1G(σ:List MO)(hσ:b1a σ)(l:List Ch)(P:PV)(hP:P.rowsOf 12=some (l.map Ch.row))(hl:l.length<=30)(n:Nat)(hn:30000<=n) :
  ∃w1 w2 b,a0b Tab n b0p [P] σ=some (.tup [.agg [w1,w2],.bool b],σ)/\w1.one=true/\w2.one=true/\(b=true↔(∀x∈l,x.ok)/\Pot l):=by
 obtain⟨p,hp,he⟩:=c9A σ hσ l P hP hl n hn;rcases hp with ⟨hno,rfl⟩|⟨hok,vs,_,hst,_,rfl⟩|⟨hok,vs,fs,c,t,z,j,k,hfin,_,_,_,rfl⟩
 ·exact⟨_,_,_,he,rfl,rfl,by simp[hno]⟩
 ·refine⟨_,_,_,he,rfl,rfl,?_⟩
  exact⟨fun _=>⟨hok,at' vs,hst⟩,fun _=>rfl⟩
 ·refine⟨_,_,_,he,rfl,rfl,?_⟩
  constructor
  ·intro h;cases h
  ·rintro⟨_,π,hπ⟩
   exact(hfin.none π hπ).elim
theorem e1e(l:List Ch){x y:Int}(hx:0<=x)(hy:0<=y):gN l x.toNat y.toNat=b3p (b1R l x) (b1R l y):=by
 unfold gN;rw[X6 hx,X6 hy]
theorem e0t{l:List Ch}{cyc:List Int}(hc:∀z∈cyc,d9e l.length z=true){π:Nat->Int}(hπ:∀x y,x<l.length->y<l.length->π y<=π x+gN l x y) :
  ∀i,i<=cyc.length->π ((cyc[i % cyc.length]?).getD 0).toNat-π ((cyc[0]?).getD 0).toNat<=d8W l cyc i
 | 0,_=>by simp[d8W]
 | i+1,h=>by
  have ih:=e0t hc hπ i (by omega);rw[Nat.mod_eq_of_lt (by omega:i<cyc.length)] at ih;have hj:(i+1) % cyc.length<cyc.length:=Nat.mod_lt _ (by omega);have m1:cyc[i]?=some cyc[i]:=QJ (by omega);have m2:cyc[(i+1) % cyc.length]?=some cyc[(i+1) % cyc.length]:=QJ hj;have c1:=hc _ (Qt m1);have c2:=hc _ (Qt m2);simp only[d9e,decide_eq_true_eq] at c1 c2;have:=hπ (cyc[i]).toNat (cyc[(i+1) % cyc.length]).toNat (by omega) (by omega);rw[e1e l c1.1 c2.1] at this;simp only[d8W,d9T,m1,m2,QH] at ih ⊢;omega
theorem e0N{l:List Ch}{cyc:List Int}(h0:cyc.length≠0)(hv:d9v l cyc []=0):¬Pot l:=by
 rintro⟨π,hπ⟩;unfold d9v at hv;split at hv
 ·split at hv
  ·rename_i _ hf
   split at hv
   ·cases hv
   ·rename_i hs
    simp only[d9x,Bool.and_eq_true] at hf;have:=e0t (X1.1 hf.1.2) hπ cyc.length (Qp _);rw[Nat.mod_self] at this;omega
  ·cases hv
 ·cases hv
theorem e0Q(l:List Ch)(x:Nat):b1R l (x:Int)=(l[x]?).getD ch0:=by simp[b1R]
theorem e0Z{l l':List Ch}(f:Nat->Nat)(hf:∀x,x<l'.length->f x<l.length/\l'[x]?=l[f x]?)(h:Pot l):Pot l':=by
 obtain⟨π,hπ⟩:=h;refine⟨fun x=>π (f x),fun x y hx hy=>?_⟩;have h1:=hf x hx;have h2:=hf y hy;have:=hπ (f x) (f y) h1.1 h2.1;simp only[gN,e0Q] at this ⊢;rw[h1.2,h2.2];exact this
def un(g:Int)(x:Pr):Int:=if eqB x.g g=true then 1 else 0
theorem d2i(g:Int)(x:Pr):0<=un g x/\un g x<=1:=by unfold un;split<;>omega
def unV(l:List Pr)(g:Int)(w:W6):Int:=if eqB (b1N l) 0=true then(if eqB (a3S w) 0=true then ptS (un g) l w l.length else 0) else 0
theorem d2Q(σ:List MO)(g:Int)(x:Pr)(n:Nat)(hn:1<=n):a0b Tab n a3K [.agg x.row,.ref σ.length 0] (σ++[.cells [.int .i64 g] 3])=some (.int .i64 (un g x),σ++[.cells [.int .i64 g] 3]):=by
 obtain⟨n,rfl⟩:∃k,n=k+1:=⟨n-1,by omega⟩;have g0:(σ++[MO.cells [.int .i64 g] 3])[σ.length]?=some (.cells [.int .i64 g] 3):=by simp
 simp only[a0b,b8F,Q0,Sys.run,a7s];show ((a0f [.sh (.agg [_,_,_,_,_]),.ptr] _).bind _)=_;simp only[a0f,a0g,a0c,Q1,Q0,Q5,Q6,if_true,a3M];show (PT.ev _ a9G _).bind _=_;simp only[a9G,↓reduceIte,a0j,a0d,a0u,BE.safe,BE.pe,IE.pe,Q3,Q4,Q7,Q8,a0p,a1k,a0a,a0P,Qh,Qs,Qb,Qd,Nat.reduceAdd,Qp,Q2,Qj,Qk,a0c,Q1,Q0,PEnv.push,Q6,Q5,SV.pv,g0,MO.list];unfold un;cases eqB x.g g<;>simp only[↓reduceIte,Q2,Q1,Q0,a0m,or_true,Q2]
def c8l(σ:List MO)(P F:PV)(is:List Int)(w:W6):PEnv:={i:=is++[w.a,w.b,w.c,w.d,w.e,w.f],b:=[],v:=[F,P],m:=σ,k:=σ.length}
theorem c8k(σ:List MO)(g:Int)(l:List Pr)(P:PV)(hP:P.rowsOf 5=some (l.map Pr.row))(w:W6)(hw:w.ok)(hl:l.length<=6)(n:Nat)(hn:1<=n):∀d i,i+d=l.length->∀fuel,
  a1x.loop (a0b Tab n) (fuel+d+1) 0 (c8l (σ++[.cells [.int .i64 g] 3]) P (.fn a3K [.ref σ.length 0]) [ptS (un g) l w i,(l.length:Int),(i:Int)] w)=some (.int .i64 (ptS (un g) l w l.length),σ++[.cells [.int .i64 g] 3]):=by
 obtain⟨p1,p2,p3⟩:=a0i hP;rw[Qr] at p1;intro d
 induction d with
 | zero =>
  intro i hi fuel;rw[Qh] at hi;subst hi;have hd:decide (l.length<l.length)=false:=by simp
  rw[Sys.loop,show a1x.loops[0]?=some a1F from rfl];simp only[Q0,c8l,a1F,↓reduceIte,a0j,a0d,BE.safe,BE.pe,IE.pe,Q3,Q4,Q2,Q1,Q0,Q6,Q5,SV.pv,a0x,hd,a0m,or_true]
 | succ d ih =>
  intro i hi fuel;have hlt:i<l.length:=by omega
  obtain⟨x,hx⟩:=a0U hlt;have hd:decide (i<l.length)=true:=dT0 hlt;have hq:=a1d (off:=0) hP (b0m hx);have hw1:=c3H hw i;have b1:=c5X (f:=un g) (l:=l) (b:=1) hw (by omega) (fun y hy=>d2i g y) i;have c1:=d2Q σ g x n hn;have ih:=ih (i+1) (by omega) fuel;rw[a1q] at ih;have k1:ptS (un g) l w (i+1)=ptS (un g) l w i+a7N w i*un g x:=by simp only[ptS,b8Y,hx,Q1,QH]
  have hu:=d2i g x;have hm:0<=a7N w i*un g x/\a7N w i*un g x<=4*1:=⟨Int.mul_nonneg hw1.1 hu.1,Int.mul_le_mul hw1.2 hu.2 hu.1 (by omega)⟩;rw[k1] at ih;generalize ptS (un g) l w i=s1 at *
  generalize un g x=ux at *
  have q1:=a0C (z:=a7N w i*ux) (by omega);have q2:=a0C (z:=s1+a7N w i*ux) (by omega);simp only[a3K,a7s] at c1;rw[<- ih,show fuel+(d+1)+1=(fuel+d+1)+1 from rfl,Sys.loop,show a1x.loops[0]?=some a1F from rfl];simp only[Q0,c8l,a1F,↓reduceIte,a0d,a0h,a0u,a2l,a0k,BE.safe,BE.pe,IE.pe,PEnv.at,Q3,Q4,Q7,Q8,a0p,a0a,a0P,Qs,Qb,Qd,Nat.reduceAdd,Qp,Q2,Qj,Qk,a0c,a0l,a0g,Q1,Q0,PEnv.push,Q6,Q5,SV.pvs,SV.pv,BE.all,Qe,Qa,Q9,p1,a0x,hd,le0,hq,a7s,a3M,a3K,c1];obtain rfl|rfl|rfl|rfl|rfl|rfl:i=0\/i=1\/i=2\/i=3\/i=4\/i=5:=by omega
  all_goals
   simp only[a7N,wl,Q7,Q8,QH] at q1 q2 ⊢;have e5:∀a b:Int,eqB a b=decide (a=b):=fun _ _=>rfl
   simp only[↓reduceIte,Q2,Q0,e5,Int.reduceEq,Int.cast_ofNat_Int,decide_true,decide_false,q1,q2,Int.reduceAdd]
theorem d0l(σ:List MO)(hlow:σ.all (MO.low σ.length)=true)(l:List Pr)(P:PV)(hP:P.rowsOf 5=some (l.map Pr.row))(g:Int)(w:W6)(n:Nat)(hn:100<=n):a0b Tab n b4G [P,.int .i64 g,.agg w.pv] σ=some (.int .i64 (unV l g w),σ):=by
 obtain⟨n,rfl⟩:∃k,n=k+1:=⟨n-1,by omega⟩;obtain⟨p1,p2,p3⟩:=a0i hP;rw[Qr] at p1
 have c0:a0b Tab n a5C [.agg [P,.int .i64 w.a,.int .i64 w.b,.int .i64 w.c,.int .i64 w.d,.int .i64 w.e,.int .i64 w.f],.fn a3K [.ref σ.length 0]] (σ++[.cells [.int .i64 g] 3])=some (.int .i64 (unV l g w),σ++[.cells [.int .i64 g] 3]):=by
  obtain⟨n,rfl⟩:∃k,n=k+1:=⟨n-1,by omega⟩;have c1:=b5C (σ++[.cells [.int .i64 g] 3]) l P hP n (by omega);have c2:=a2I (σ++[.cells [.int .i64 g] 3]) w n (by omega);simp only[a8f,a2P,W6.pv] at c1 c2;rw[a0b];simp only[b0H,Q0,Sys.run];show ((a0f [.sh (.agg [_,_,_,_,_,_,_]),.sh (.one _)] _).bind _)=_;simp only[a0f,a0g,a0c,Q1,Q0,Qf,Q5,Q6,if_true,p3,c6n];show (PT.ev _ a3W _).bind _=_;simp only[a3W,↓reduceIte,a0j,a0d,a0h,a0n,a0k,BE.safe,BE.pe,IE.pe,PEnv.at,Q3,Q4,Q7,Q8,a0c,a0l,a0g,Q1,Q0,PEnv.push,Q6,Q5,SV.pvs,SV.pv,BE.all,Qa,Q9,c1,unV];cases hc:eqB (b1N l) 0 with
  | false=>simp only[↓reduceIte,Q2,Q1,Q0,Qm,a0m,or_true]
  | true =>
   obtain⟨hl,hr⟩:=b0L (b3B.1 hc);simp only[↓reduceIte,Q3,Q2,a0c,Q1,Q0,Qn,c2];cases hb:eqB (a3S w) 0 with
   | false=>simp only[↓reduceIte,Q2,Q1,Q0,Qm,a0m,or_true]
   | true =>
    have hw:w.ok:=by
     by_cases hw:w.ok
     ·exact hw
     ·unfold a3S at hb;rw[if_neg hw] at hb;cases hb
    obtain⟨f,hf⟩:∃f,n=f+l.length+1:=⟨n-l.length-1,by omega⟩;have hu:=c8k σ g l P hP w hw hl n (by omega) l.length 0 (by omega) f;rw[<- hf] at hu;simp only[↓reduceIte,Q2,Q0,Qn,p1,p2];exact hu
 simp only[a5C] at c0;rw[a0b];simp only[c0H,Q0,Sys.run,W6.pv];show ((a0f [.sh (.one _),.sh (.one _),.sh (.agg [_,_,_,_,_,_])] _).bind _)=_;simp only[a0f,a0g,a0c,Q1,Q0,Qf,Q5,Q6,if_true,p3];show (PT.ev _ b1o _).bind _=_;simp only[a3K] at c0
 have hr:∀(is:List Int) (vs:List PV) (z:Int),a0m {i:=is,b:=[],v:=vs,m:=σ++[.cells [.int .i64 g] 3],k:=σ.length} false (.int .i64 z)=some (.int .i64 z,σ):=fun is vs z=>by
  unfold a0m;dsimp only;rw[if_neg (by simp),show List.take σ.length (σ++[MO.cells [.int .i64 g] 3])=σ from List.take_left,if_pos hlow];rfl
 have ho:PV.on 0 (.ref σ.length 0)=some (.ref σ.length 0):=rfl;simp only[b1o,↓reduceIte,a0j,a0n,a5x,IE.pe,Q3,Q4,Q7,Q8,a0c,a0l,a0g,Q1,Q0,PEnv.push,Q6,Q5,SV.pvs,SV.pv,ho,c0,hr]
def W6.put(w:W6)(i v:Int):W6:=if i=0 then {w with a:=v} else if i=1 then {w with b:=v} else if i=2 then {w with c:=v} else if i=3 then {w with d:=v} else if i=4 then {w with e:=v} else {w with f:=v}
def W6.at6(w:W6)(i:Int):Int:=if i=0 then w.a else if i=1 then w.b else if i=2 then w.c else if i=3 then w.d else if i=4 then w.e else w.f
def b1k(p:W6×W6)(t:Tri):W6×W6:=(p.1.put t.x (p.1.at6 t.x-t.z),p.2.put t.x t.y)
def W6.wide(w:W6)(m:Int):Prop:=-m<=w.a/\w.a<=4/\-m<=w.b/\w.b<=4/\-m<=w.c/\w.c<=4/\-m<=w.d/\w.d<=4/\-m<=w.e/\w.e<=4/\-m<=w.f/\w.f<=4
def Tri.aok(t:Tri):Prop:=0<=t.x/\t.x<=5/\1<=t.z/\t.z<=4
theorem c4o{x:Int}(h:0<=x/\x<=5):x=0\/x=1\/x=2\/x=3\/x=4\/x=5:=by omega
theorem d0d{o c:W6}{t:Tri}{m:Int}(h:o.wide m)(ht:t.aok)(hm:0<=m):(b1k (o,c) t).1.wide (m+4):=by
 obtain⟨x,y,z⟩:=t;obtain⟨a,b,cc,d,e,f⟩:=o;simp only[Tri.aok,W6.wide] at *
 rcases c4o ⟨ht.1,ht.2.1⟩ with rfl|rfl|rfl|rfl|rfl|rfl<;>simp[b1k,W6.put,W6.at6]<;>omega
def shF(ps:List Pr)(ad:List Tri):W6×W6:=ad.foldl b1k (a1J ps,⟨0,0,0,0,0,0⟩)
section
variable (σ:List MO)(ad:List Tri)(P B C A:PV)(hA:A.rowsOf 3=some (ad.map Tri.row))(n:Nat)
def c4l(σ:List MO)(P B C A:PV)(N i:Int)(o c:W6):PEnv:={i:=[N,i,o.a,o.b,o.c,o.d,o.e,o.f,c.a,c.b,c.c,c.d,c.e,c.f],b:=[],v:=[A,P,B,C],m:=σ,k:=σ.length}
include hA in
theorem d2I{i:Nat}{t:Tri}(hx:ad[i]?=some t)(ht:t.aok)(hi:i<=1000)(o c:W6)(ho:o.wide 1000)(fuel:Nat) :
  a2p.loop (a0b Tab n) (fuel+1) 0 (c4l σ P B C A (ad.length:Int) (i:Int) o c)=a2p.loop (a0b Tab n) fuel 0 (c4l σ P B C A (ad.length:Int) ((i:Int)+1) (b1k (o,c) t).1 (b1k (o,c) t).2):=by
 obtain⟨p1,p2,p3⟩:=a0i hA;rw[Qr] at p1;have hlt:i<ad.length:=(Qw.1 hx).1;have hd:decide (i<ad.length)=true:=dT0 hlt;have hq:=a1d (off:=0) hA (b1U hx);have hup:=a3I (show i<=1000000000 by omega);obtain⟨x,y,z⟩:=t;simp only[Tri.aok,W6.wide] at ht ho;have u1:=a0C (z:=o.a-z) (by omega);have u2:=a0C (z:=o.b-z) (by omega);have u3:=a0C (z:=o.c-z) (by omega);have u4:=a0C (z:=o.d-z) (by omega);have u5:=a0C (z:=o.e-z) (by omega);have u6:=a0C (z:=o.f-z) (by omega);have e5:∀a b:Int,eqB a b=decide (a=b):=fun _ _=>rfl
 rw[Sys.loop,show a2p.loops[0]?=some a5Q from rfl];rcases c4o ⟨ht.1,ht.2.1⟩ with rfl|rfl|rfl|rfl|rfl|rfl
 all_goals
  simp only[Q0,c4l,a5Q,↓reduceIte,a0d,a0h,a0u,a0k,BE.safe,BE.pe,IE.pe,PEnv.at,Q3,Q4,Q7,Q8,a0p,a0a,a0P,Qs,Qb,Qd,Nat.reduceAdd,Qp,Q2,Qj,Qk,a0c,Q1,Q0,PEnv.push,Q6,Q5,SV.pvs,SV.pv,BE.all,Qe,Qa,Q9,p1,a0x,hd,le0,hq,b3y,e5,Int.reduceEq,decide_true,decide_false,if_pos hup,if_pos u1,if_pos u2,if_pos u3,if_pos u4,if_pos u5,if_pos u6];rfl
include hA in
theorem d3P(o c:W6)(fuel:Nat):a2p.loop (a0b Tab n) (fuel+1) 0 (c4l σ P B C A (ad.length:Int) (ad.length:Int) o c)=some (.tup [.agg o.pv,.agg c.pv],σ):=by
 obtain⟨p1,p2,p3⟩:=a0i hA;rw[Qr] at p1;have hd:decide (ad.length<ad.length)=false:=by simp
 rw[Sys.loop,show a2p.loops[0]?=some a5Q from rfl];simp only[Q0,c4l,a5Q,↓reduceIte,a0j,a0d,BE.safe,BE.pe,IE.pe,Q3,Q4,Q2,Q1,Q0,SV.pvs,SV.pv,a0x,hd,W6.pv,a0m,or_true]
include hA in
theorem d2P(hb:∀t∈ad,t.aok)(hl:ad.length<=6):∀d i,i+d=ad.length->∀(o c:W6),o.wide (4*i)->∀fuel,
  a2p.loop (a0b Tab n) (fuel+d+1) 0 (c4l σ P B C A (ad.length:Int) (i:Int) o c)=some (.tup [.agg ((ad.drop i).foldl b1k (o,c)).1.pv,.agg ((ad.drop i).foldl b1k (o,c)).2.pv],σ):=by
 obtain⟨p1,p2,p3⟩:=a0i hA;rw[Qr] at p1;intro d
 induction d with
 | zero =>
  intro i hi o c ho fuel;rw[Qh] at hi;subst hi;rw[X2,X7];exact d3P σ ad P B C A hA n o c _
 | succ d ih =>
  intro i hi o c ho fuel;have hlt:i<ad.length:=by omega
  obtain⟨t,hx⟩:=a0U hlt;have ht:=hb t (Qt hx);have hw:o.wide 1000:=by simp only[W6.wide] at ho ⊢;omega
  have hw2:=d0d (c:=c) ho ht (by omega);have ih:=ih (i+1) (by omega) (b1k (o,c) t).1 (b1k (o,c) t).2 (by rw[show (4:Int)*((i+1:Nat):Int)=4*(i:Int)+4 by omega];exact hw2) fuel;rw[a1q] at ih;rw[show fuel+(d+1)+1=(fuel+d+1)+1 from rfl,d2I σ ad P B C A hA n hx ht (by omega) o c hw,ih,show ad.drop i=t::ad.drop (i+1) from by rw[X8 hlt];congr 1;exact((Qw.1 hx).2).symm▸rfl,List.foldl_cons]
end
theorem c4H{ps:List Pr}(hr:∀x∈ps,x.rng):(a1J ps).wide 0:=by
 have h:∀i:Nat,-(0:Int)<=((ps.map Pr.s)[i]?).getD 0/\((ps.map Pr.s)[i]?).getD 0<=4:=fun i=>by
  rw[List.getElem?_map];cases hx:ps[i]? with
  | none=>simp
  | some x =>
   have:=hr x (Qt hx);simp only[Pr.rng] at this;simp;omega
 exact⟨(h 0).1,(h 0).2,(h 1).1,(h 1).2,(h 2).1,(h 2).2,(h 3).1,(h 3).2,(h 4).1,(h 4).2,(h 5).1,(h 5).2⟩
theorem d5I{ps:List Pr}{ad:List Tri}(hl:ps.length<=6)(hr:∀x∈ps,x.rng)(h:asV ps ad=0):ad.length<=6/\∀t∈ad,t.aok:=by
 unfold asV at h;split at h
 ·cases h
 rename_i h6;rw[QV,a0F] at h6;refine⟨by omega,fun t ht=>?_⟩;obtain⟨k,hk⟩:=List.getElem?_of_mem ht;have hb:=c6k _ _ h (by omega) k t (by omega) hk;unfold a4W at hb
 repeat' split at hb
 all_goals first|cases hb|skip
 rename_i a1 a2 a3 a4 a5 a6 _;rw[QV] at a1 a2 a3 a4 a5 a6;rw[a0F] at a1 a3 a4 a5 a6;rw[b0K] at a2;refine⟨by omega,by omega,by omega,?_⟩;have hx:∃x,ps[t.x.toNat]?=some x:=a0U (by omega);obtain⟨x,hx⟩:=hx;have:=hr x (Qt hx);simp only[Pr.rng] at this;rw[hx] at a6;simp at a6;omega
section
variable (σ:List MO)(ps:List Pr)(bs:List Bd)(cs ad:List Tri)(P B C A:PV)(hP:P.rowsOf 5=some (ps.map Pr.row))(hB:B.rowsOf 4=some (bs.map Bd.row))(hC:C.rowsOf 3=some (cs.map Tri.row))(hA:A.rowsOf 3=some (ad.map Tri.row))(n:Nat)
include hP hB hC hA in
theorem c8q(hl:ps.length<=6)(hr:∀x∈ps,x.rng)(ha:asV ps ad=0)(hn:20<=n):a0b Tab n b6w [.agg [P,B,C,A]] σ=some (.tup [.agg (shF ps ad).1.pv,.agg (shF ps ad).2.pv],σ):=by
 obtain⟨n,rfl⟩:∃k,n=k+1:=⟨n-1,by omega⟩;obtain⟨p1,p2,p3⟩:=a0i hP;obtain⟨b1,b2,b3⟩:=a0i hB;obtain⟨c1,c2,c3⟩:=a0i hC;obtain⟨a1,a2,a3⟩:=a0i hA;rw[Qr] at a1;obtain⟨h6,hb⟩:=d5I hl hr ha;have k1:=b3f σ ps P hP hl n (by omega);obtain⟨f,hf⟩:∃f,n=f+ad.length+1:=⟨n-ad.length-1,by omega⟩;have k2:=d2P σ ad P B C A hA n hb h6 ad.length 0 (by omega) (a1J ps) ⟨0,0,0,0,0,0⟩ (by rw[show (4:Int)*((0:Nat):Int)=0 by rfl];exact c4H hr) f;rw[<- hf] at k2;simp only[a5s,W6.pv] at k1;rw[a0b];simp only[c1u,Q0,Sys.run];show ((a0f [.sh (.agg [_,_,_,_])] _).bind _)=_;simp only[a0f,a0g,a0c,Q1,Q0,Qf,if_true,p3,b3,c3,a3];show (PT.ev _ b1y _).bind _=_;simp only[b1y,↓reduceIte,a0h,a0n,a0k,BE.safe,BE.pe,IE.pe,PEnv.at,Q3,Q4,Q7,Q8,a0c,a0l,a0g,Q1,Q0,PEnv.push,Q6,Q5,SV.pvs,SV.pv,BE.all,Qa,Q9,k1,a1,a2];exact k2
end
def oc(c bc b:Int):Int:=if eqB c 0=true then 0 else if eqB c bc=true then 0 else b
def b9J(c:W6)(bc:Int)(b:W6):W6:=⟨oc c.a bc b.a,oc c.b bc b.b,oc c.c bc b.c,oc c.d bc b.d,oc c.e bc b.e,oc c.f bc b.f⟩
def W6.le(a b:W6):Prop:=a.a<=b.a/\a.b<=b.b/\a.c<=b.c/\a.d<=b.d/\a.e<=b.e/\a.f<=b.f
instance (a b:W6):Decidable (a.le b):=by unfold W6.le;infer_instance
theorem d4t(x y:Int):eqB (mnI x y) x=decide (x<=y):=by
 unfold eqB mnI;by_cases h:x<=y
 ·rw[if_neg (by omega),dT0 rfl,dT0 h]
 ·rw[if_pos (by omega),dF0 h];exact dF0 (by omega)
theorem d5R(a b c d e f:Prop) [Decidable a] [Decidable b] [Decidable c] [Decidable d] [Decidable e] [Decidable f] [Decidable (a/\b/\c/\d/\e/\f)]:(decide a&&(decide b&&(decide c&&(decide d&&(decide e&&decide f)))))=decide (a/\b/\c/\d/\e/\f):=by
 simp only[Bool.decide_and]
theorem c2E(σ:List MO)(a b:W6)(n:Nat)(hn:2<=n):a0b Tab n b1p [.agg a.pv,.agg b.pv] σ=some (.bool (decide (a.le b)),σ):=by
 obtain⟨n,rfl⟩:∃k,n=k+1+1:=⟨n-2,by omega⟩
 have k1:a0b Tab (n+1) b8o [.agg a.pv,.agg b.pv] σ=some (.agg [.int .i64 (mnI a.a b.a),.int .i64 (mnI a.b b.b),.int .i64 (mnI a.c b.c),.int .i64 (mnI a.d b.d),.int .i64 (mnI a.e b.e),.int .i64 (mnI a.f b.f)],σ):=by
  simp only[a0b,c2q,Q0,Sys.run,W6.pv];show ((a0f [.sh (.agg [_,_,_,_,_,_]),.sh (.agg [_,_,_,_,_,_])] _).bind _)=_;simp only[a0f,a0g,a0c,Q1,Q0,Qf,Q5,Q6,if_true];show (PT.ev _ b2G _).bind _=_;simp only[b2G,↓reduceIte,a0j,IE.pe,Q3,Q4,Q2,Q1,Q0,SV.pvs,SV.pv,a0m,or_true]
 simp only[b8o,W6.pv] at k1;rw[a0b];simp only[c0B,Q0,Sys.run,W6.pv];show ((a0f [.sh (.agg [_,_,_,_,_,_]),.sh (.agg [_,_,_,_,_,_])] _).bind _)=_;simp only[a0f,a0g,a0c,Q1,Q0,Qf,Q5,Q6,if_true];show (PT.ev _ b1m _).bind _=_;simp only[b1m,↓reduceIte,a0j,a0n,BE.safe,BE.pe,IE.pe,Q3,Q4,Q2,a0c,a0l,a0g,Q1,Q0,PEnv.push,Q6,Q5,SV.pvs,SV.pv,Qe,k1,d4t,a0m,or_true]
 congr 3
 rw[d5R];rfl
theorem bdr(a b c d:PV):QW 1 [a,b,c,d]=[b,c,d]/\QW 2 [a,b,c,d]=[c,d]/\QW 3 [a,b,c,d]=[d]:=⟨rfl,rfl,rfl⟩
section
variable (σ:List MO)(bs:List Bd)(P B C A:PV)(hB:B.rowsOf 4=some (bs.map Bd.row))(n:Nat)
def a6j(σ:List MO)(P B C A:PV)(i k:Int)(c b:W6):PEnv:={i:=[i,k,c.a,c.b,c.c,c.d,c.e,c.f,b.a,b.b,b.c,b.d,b.e,b.f],b:=[],v:=[P,B,C,A],m:=σ,k:=σ.length}
include hB in
theorem d1V{i:Nat}{y:Bd}(hy:bs[i]?=some y)(c b:W6)(fuel:Nat) :
  a0E.loop (a0b Tab n) (fuel+1) 0 (a6j σ P B C A (i:Int) 0 c b)=a0E.loop (a0b Tab n) fuel 0 (a6j σ P B C A (i:Int) 1 c {b with a:=oc c.a y.c b.a}):=by
 obtain⟨b1,b2,b3⟩:=a0i hB;rw[Qr] at b1;have hd:decide (i<bs.length)=true:=dT0 (Qw.1 hy).1;have h0:=a1d (off:=1) hB (a6l hy);have e5:∀a b:Int,eqB a b=decide (a=b):=fun _ _=>rfl
 have e6:∀a b:Int,ltB a b=decide (a<b):=fun _ _=>rfl
 have hd':decide ((i:Int)<(bs.length:Int))=true:=dT0 (by have:=(Qw.1 hy).1;omega);obtain⟨d1,d2,d3⟩:=bdr (.str y.nm) (.int .i64 y.c) (.int .i64 y.b) (.int .i64 y.p);rw[Sys.loop,show a0E.loops[0]?=some a1j from rfl];simp only[a6j,oc,e5];simp only[Q0,a1j,↓reduceIte,a0d,a0h,a0u,a0k,BE.safe,BE.pe,IE.pe,PEnv.at,Q3,Q4,Q7,Q8,a0p,a0a,a0P,Qb,Qd,Nat.reduceAdd,Q2,Q1,Q0,PEnv.push,Q6,Q5,SV.pvs,SV.pv,BE.all,Qe,Qa,Q9,e5,e6,Int.reduceEq,Int.reduceLT,decide_true,decide_false];cases decide (c.a=0) with
 | true=>simp only[↓reduceIte,Q0,]
 | false =>
  simp only[↓reduceIte,Q3,Qb,Qd,Nat.reduceAdd,Q2,Qj,Qk,a0c,Q1,Q0,Qe,b1,le0,hd',h0,a8o,d1,Nat.reduceLeDiff,Q2];cases decide (c.a=y.c)<;>simp only[↓reduceIte,Q2,Q0,Q2]
include hB in
theorem d1a{i:Nat}{y:Bd}(hy:bs[i]?=some y)(c b:W6)(fuel:Nat) :
  a0E.loop (a0b Tab n) (fuel+1) 0 (a6j σ P B C A (i:Int) 1 c b)=a0E.loop (a0b Tab n) fuel 0 (a6j σ P B C A (i:Int) 2 c {b with b:=oc c.b y.c b.b}):=by
 obtain⟨b1,b2,b3⟩:=a0i hB;rw[Qr] at b1;have hd:decide (i<bs.length)=true:=dT0 (Qw.1 hy).1;have h0:=a1d (off:=1) hB (a6l hy);have e5:∀a b:Int,eqB a b=decide (a=b):=fun _ _=>rfl
 have e6:∀a b:Int,ltB a b=decide (a<b):=fun _ _=>rfl
 have hd':decide ((i:Int)<(bs.length:Int))=true:=dT0 (by have:=(Qw.1 hy).1;omega);obtain⟨d1,d2,d3⟩:=bdr (.str y.nm) (.int .i64 y.c) (.int .i64 y.b) (.int .i64 y.p);rw[Sys.loop,show a0E.loops[0]?=some a1j from rfl];simp only[a6j,oc,e5];simp only[Q0,a1j,↓reduceIte,a0d,a0h,a0u,a0k,BE.safe,BE.pe,IE.pe,PEnv.at,Q3,Q4,Q7,Q8,a0p,a0a,a0P,Qb,Qd,Nat.reduceAdd,Q2,Q1,Q0,PEnv.push,Q6,Q5,SV.pvs,SV.pv,BE.all,Qe,Qa,Q9,e5,e6,Int.reduceEq,Int.reduceLT,decide_true,decide_false];cases decide (c.b=0) with
 | true=>simp only[↓reduceIte,Q0,]
 | false =>
  simp only[↓reduceIte,Q3,Qb,Qd,Nat.reduceAdd,Q2,Qj,Qk,a0c,Q1,Q0,Qe,b1,le0,hd',h0,a8o,d1,Nat.reduceLeDiff,Q2];cases decide (c.b=y.c)<;>simp only[↓reduceIte,Q2,Q0,Q2]
include hB in
theorem d0Q{i:Nat}{y:Bd}(hy:bs[i]?=some y)(c b:W6)(fuel:Nat) :
  a0E.loop (a0b Tab n) (fuel+1) 0 (a6j σ P B C A (i:Int) 2 c b)=a0E.loop (a0b Tab n) fuel 0 (a6j σ P B C A (i:Int) 3 c {b with c:=oc c.c y.c b.c}):=by
 obtain⟨b1,b2,b3⟩:=a0i hB;rw[Qr] at b1;have hd:decide (i<bs.length)=true:=dT0 (Qw.1 hy).1;have h0:=a1d (off:=1) hB (a6l hy);have e5:∀a b:Int,eqB a b=decide (a=b):=fun _ _=>rfl
 have e6:∀a b:Int,ltB a b=decide (a<b):=fun _ _=>rfl
 have hd':decide ((i:Int)<(bs.length:Int))=true:=dT0 (by have:=(Qw.1 hy).1;omega);obtain⟨d1,d2,d3⟩:=bdr (.str y.nm) (.int .i64 y.c) (.int .i64 y.b) (.int .i64 y.p);rw[Sys.loop,show a0E.loops[0]?=some a1j from rfl];simp only[a6j,oc,e5];simp only[Q0,a1j,↓reduceIte,a0d,a0h,a0u,a0k,BE.safe,BE.pe,IE.pe,PEnv.at,Q3,Q4,Q7,Q8,a0p,a0a,a0P,Qb,Qd,Nat.reduceAdd,Q2,Q1,Q0,PEnv.push,Q6,Q5,SV.pvs,SV.pv,BE.all,Qe,Qa,Q9,e5,e6,Int.reduceEq,Int.reduceLT,decide_true,decide_false];cases decide (c.c=0) with
 | true=>simp only[↓reduceIte,Q0,]
 | false =>
  simp only[↓reduceIte,Q3,Qb,Qd,Nat.reduceAdd,Q2,Qj,Qk,a0c,Q1,Q0,Qe,b1,le0,hd',h0,a8o,d1,Nat.reduceLeDiff,Q2];cases decide (c.c=y.c)<;>simp only[↓reduceIte,Q2,Q0,Q2]
include hB in
theorem d2f{i:Nat}{y:Bd}(hy:bs[i]?=some y)(c b:W6)(fuel:Nat) :
  a0E.loop (a0b Tab n) (fuel+1) 0 (a6j σ P B C A (i:Int) 3 c b)=a0E.loop (a0b Tab n) fuel 0 (a6j σ P B C A (i:Int) 4 c {b with d:=oc c.d y.c b.d}):=by
 obtain⟨b1,b2,b3⟩:=a0i hB;rw[Qr] at b1;have hd:decide (i<bs.length)=true:=dT0 (Qw.1 hy).1;have h0:=a1d (off:=1) hB (a6l hy);have e5:∀a b:Int,eqB a b=decide (a=b):=fun _ _=>rfl
 have e6:∀a b:Int,ltB a b=decide (a<b):=fun _ _=>rfl
 have hd':decide ((i:Int)<(bs.length:Int))=true:=dT0 (by have:=(Qw.1 hy).1;omega);obtain⟨d1,d2,d3⟩:=bdr (.str y.nm) (.int .i64 y.c) (.int .i64 y.b) (.int .i64 y.p);rw[Sys.loop,show a0E.loops[0]?=some a1j from rfl];simp only[a6j,oc,e5];simp only[Q0,a1j,↓reduceIte,a0d,a0h,a0u,a0k,BE.safe,BE.pe,IE.pe,PEnv.at,Q3,Q4,Q7,Q8,a0p,a0a,a0P,Qb,Qd,Nat.reduceAdd,Q2,Q1,Q0,PEnv.push,Q6,Q5,SV.pvs,SV.pv,BE.all,Qe,Qa,Q9,e5,e6,Int.reduceEq,Int.reduceLT,decide_true,decide_false];cases decide (c.d=0) with
 | true=>simp only[↓reduceIte,Q0,]
 | false =>
  simp only[↓reduceIte,Q3,Qb,Qd,Nat.reduceAdd,Q2,Qj,Qk,a0c,Q1,Q0,Qe,b1,le0,hd',h0,a8o,d1,Nat.reduceLeDiff,Q2];cases decide (c.d=y.c)<;>simp only[↓reduceIte,Q2,Q0,Q2]
include hB in
theorem d1s{i:Nat}{y:Bd}(hy:bs[i]?=some y)(c b:W6)(fuel:Nat) :
  a0E.loop (a0b Tab n) (fuel+1) 0 (a6j σ P B C A (i:Int) 4 c b)=a0E.loop (a0b Tab n) fuel 0 (a6j σ P B C A (i:Int) 5 c {b with e:=oc c.e y.c b.e}):=by
 obtain⟨b1,b2,b3⟩:=a0i hB;rw[Qr] at b1;have hd:decide (i<bs.length)=true:=dT0 (Qw.1 hy).1;have h0:=a1d (off:=1) hB (a6l hy);have e5:∀a b:Int,eqB a b=decide (a=b):=fun _ _=>rfl
 have e6:∀a b:Int,ltB a b=decide (a<b):=fun _ _=>rfl
 have hd':decide ((i:Int)<(bs.length:Int))=true:=dT0 (by have:=(Qw.1 hy).1;omega);obtain⟨d1,d2,d3⟩:=bdr (.str y.nm) (.int .i64 y.c) (.int .i64 y.b) (.int .i64 y.p);rw[Sys.loop,show a0E.loops[0]?=some a1j from rfl];simp only[a6j,oc,e5];simp only[Q0,a1j,↓reduceIte,a0d,a0h,a0u,a0k,BE.safe,BE.pe,IE.pe,PEnv.at,Q3,Q4,Q7,Q8,a0p,a0a,a0P,Qb,Qd,Nat.reduceAdd,Q2,Q1,Q0,PEnv.push,Q6,Q5,SV.pvs,SV.pv,BE.all,Qe,Qa,Q9,e5,e6,Int.reduceEq,Int.reduceLT,decide_true,decide_false];cases decide (c.e=0) with
 | true=>simp only[↓reduceIte,Q0,]
 | false =>
  simp only[↓reduceIte,Q3,Qb,Qd,Nat.reduceAdd,Q2,Qj,Qk,a0c,Q1,Q0,Qe,b1,le0,hd',h0,a8o,d1,Nat.reduceLeDiff,Q2];cases decide (c.e=y.c)<;>simp only[↓reduceIte,Q2,Q0,Q2]
include hB in
theorem d1l{i:Nat}{y:Bd}(hy:bs[i]?=some y)(c b:W6)(fuel:Nat) :
  a0E.loop (a0b Tab n) (fuel+1) 0 (a6j σ P B C A (i:Int) 5 c b)=a0E.loop (a0b Tab n) fuel 0 (a6j σ P B C A (i:Int) 6 c {b with f:=oc c.f y.c b.f}):=by
 obtain⟨b1,b2,b3⟩:=a0i hB;rw[Qr] at b1;have hd:decide (i<bs.length)=true:=dT0 (Qw.1 hy).1;have h0:=a1d (off:=1) hB (a6l hy);have e5:∀a b:Int,eqB a b=decide (a=b):=fun _ _=>rfl
 have e6:∀a b:Int,ltB a b=decide (a<b):=fun _ _=>rfl
 have hd':decide ((i:Int)<(bs.length:Int))=true:=dT0 (by have:=(Qw.1 hy).1;omega);obtain⟨d1,d2,d3⟩:=bdr (.str y.nm) (.int .i64 y.c) (.int .i64 y.b) (.int .i64 y.p);rw[Sys.loop,show a0E.loops[0]?=some a1j from rfl];simp only[a6j,oc,e5];simp only[Q0,a1j,↓reduceIte,a0d,a0h,a0u,a0k,BE.safe,BE.pe,IE.pe,PEnv.at,Q3,Q4,Q7,Q8,a0p,a0a,a0P,Qb,Qd,Nat.reduceAdd,Q1,Q0,PEnv.push,Q6,Q5,SV.pvs,SV.pv,BE.all,Qe,Qa,Q9,e5,e6,Int.reduceLT,decide_true,];cases decide (c.f=0) with
 | true=>simp only[↓reduceIte,Q0,]
 | false =>
  simp only[↓reduceIte,Q3,Qb,Qd,Nat.reduceAdd,Q2,Qj,Qk,a0c,Q1,Q0,Qe,b1,le0,hd',h0,a8o,d1,Nat.reduceLeDiff,Q2];cases decide (c.f=y.c)<;>simp only[↓reduceIte,Q2,Q0,Q2]
include hB in
theorem c7j(hP:P.one=true)(hC:C.one=true)(hA:A.one=true){i:Nat}{y:Bd}(hy:bs[i]?=some y)(c b:W6)(hn:10<=n):a0b Tab n b4O [.agg [P,B,C,A],.agg c.pv,.int .i64 (i:Int),.agg b.pv] σ=some (.agg (b9J c y.c b).pv,σ):=by
 obtain⟨n,rfl⟩:∃k,n=k+8:=⟨n-8,by omega⟩;obtain⟨b1,b2,b3⟩:=a0i hB
 have fin:∀(w:W6) fuel,a0E.loop (a0b Tab (n+7)) (fuel+1) 0 (a6j σ P B C A (i:Int) 6 c w)=some (.agg w.pv,σ):=fun w fuel=>by
  have e6:ltB 6 6=false:=rfl;rw[Sys.loop,show a0E.loops[0]?=some a1j from rfl];simp only[Q0,a6j,a1j,↓reduceIte,a0j,a0d,BE.safe,BE.pe,IE.pe,Q3,Q4,Q2,Q1,Q0,SV.pvs,SV.pv,e6,W6.pv,a0m,or_true]
 have key:a0E.loop (a0b Tab (n+7)) (n+7) 0 (a6j σ P B C A (i:Int) 0 c b)=some (.agg (b9J c y.c b).pv,σ):=by
  rw[d1V σ bs P B C A hB _ hy c _ (n+6),d1a σ bs P B C A hB _ hy c _ (n+5),d0Q σ bs P B C A hB _ hy c _ (n+4),d2f σ bs P B C A hB _ hy c _ (n+3),d1s σ bs P B C A hB _ hy c _ (n+2),d1l σ bs P B C A hB _ hy c _ (n+1)];exact fin _ n
 rw[a0b];simp only[c0s,Q0,Sys.run,W6.pv];show ((a0f [.sh (.agg [_,_,_,_]),.sh (.agg [_,_,_,_,_,_]),.sh (.one _),.sh (.agg [_,_,_,_,_,_])] _).bind _)=_;simp only[a0f,a0g,a0c,Q1,Q0,Qf,Q5,Q6,if_true,hP,b3,hC,hA];show (PT.ev _ b1d _).bind _=_;simp only[b1d,a0k,IE.pe,Q3,Q4,Q7,Q8,Q1,Q0,SV.pvs,SV.pv,BE.all,Qa,Q9];exact key
end
theorem d3d{α:Type}{l:List α}{k:Nat}{x:α}(h:l[k]?=some x):l.drop k=x::l.drop (k+1):=by
 obtain⟨h1,h2⟩:=Qw.1 h;rw[X8 h1,h2]
section
variable (σ:List MO)(l:List Pr)(P:PV)(hP:P.rowsOf 5=some (l.map Pr.row))(n:Nat)(w:W6)
end
def c2A(ps:List Pr)(i:Int)(b:W6)(c:Tri):Bool:=(eqB c.x (-1)||eqB c.x i)&&ltB c.z (unV ps c.y b)
def b0Z(ps:List Pr)(i:Int)(b:W6)(l:List Tri):Int:=if l.any (c2A ps i b)=true then 14 else 0
theorem c4n{ps:List Pr}{i:Int}{b:W6}{c:Tri}{l:List Tri}(h:c2A ps i b c=true):b0Z ps i b (c::l)=14:=by simp[b0Z,h]
theorem b9S{ps:List Pr}{i:Int}{b:W6}{c:Tri}{l:List Tri}(h:c2A ps i b c=false):b0Z ps i b (c::l)=b0Z ps i b l:=by simp[b0Z,h]
section
variable (σ:List MO)(ps:List Pr)(cs:List Tri)(P B C A:PV)(hP:P.rowsOf 5=some (ps.map Pr.row))(hC:C.rowsOf 3=some (cs.map Tri.row))(n:Nat)(hcl:cs.length<=16)
def c5q(σ:List MO)(P B C A:PV)(i N k:Int)(b:W6):PEnv:={i:=[i,N,k,b.a,b.b,b.c,b.d,b.e,b.f],b:=[],v:=[C,P,B,A],m:=σ,k:=σ.length}
include hP hC hcl in
theorem d2a(hlow:σ.all (MO.low σ.length)=true)(i:Int)(b:W6)(hn:100<=n):∀d k,k+d=cs.length->∀fuel,a3z.loop (a0b Tab n) (fuel+d+1) 0 (c5q σ P B C A i (cs.length:Int) (k:Int) b)=some (.int .i64 (b0Z ps i b (cs.drop k)),σ):=by
 obtain⟨p1,p2,p3⟩:=a0i hC;rw[Qr] at p1;intro d
 induction d with
 | zero =>
  intro k hk fuel;rw[Qh] at hk;subst hk;have hd:decide (cs.length<cs.length)=false:=by simp
  rw[Sys.loop,show a3z.loops[0]?=some a5q from rfl,X2];simp only[Q0,c5q,a5q,↓reduceIte,a0j,a0d,BE.safe,BE.pe,IE.pe,Q3,Q4,Q2,Q1,Q0,SV.pv,a0x,hd,a0m,or_true];rfl
 | succ d ih =>
  intro k hk fuel;have hlt:k<cs.length:=by omega
  obtain⟨c,hx⟩:=a0U hlt;have hd:decide (k<cs.length)=true:=dT0 hlt;have hq:=a1d (off:=0) hC (b1U hx);have hup:=a3I (show k<=1000000000 by omega);have ih:=ih (k+1) (by omega) fuel;rw[a1q] at ih;have k1:=d0l σ hlow ps P hP c.y b n hn;simp only[b4G,W6.pv] at k1;have hdr:=d3d hx;rw[hdr,show fuel+(d+1)+1=(fuel+d+1)+1 from rfl,Sys.loop,show a3z.loops[0]?=some a5q from rfl];have hh:c2A ps i b c=((eqB c.x (-1)||eqB c.x i)&&ltB c.z (unV ps c.y b)):=rfl;simp only[c5q] at ih ⊢;simp only[Q0,a5q,↓reduceIte,a0j,a0d,a0h,a0u,a0n,a0k,BE.safe,BE.pe,IE.pe,PEnv.at,Q3,Q4,Q7,Q8,a0p,a0a,a0P,Qs,Qb,Qd,Nat.reduceAdd,Qp,Q2,Qj,Qk,a0c,a0l,a0g,Q1,Q0,PEnv.push,Q6,Q5,SV.pvs,SV.pv,BE.all,Qe,Qa,Q9,p1,a0x,hd,le0,hq,b3y];cases e1:eqB c.x (-1) with
  | true =>
   simp only[↓reduceIte,Q3,a0c,Q1,Q0,k1];cases e2:ltB c.z (unV ps c.y b) with
   | true=>rw[c4n (by rw[hh,e1,e2];rfl)];simp only[↓reduceIte,Q2,Q1,Q0,a0m,or_true]
   | false=>rw[b9S (by rw[hh,e1,e2];rfl)];simp only[↓reduceIte,Q2,Q0,if_pos hup];exact ih
  | false =>
   simp only[↓reduceIte,Q2,];cases e3:eqB c.x i with
   | true =>
    simp only[↓reduceIte,Q3,a0c,Q1,Q0,k1];cases e2:ltB c.z (unV ps c.y b) with
    | true=>rw[c4n (by rw[hh,e1,e2,e3];rfl)];simp only[↓reduceIte,Q2,Q1,Q0,a0m,or_true]
    | false=>rw[b9S (by rw[hh,e1,e2,e3];rfl)];simp only[↓reduceIte,Q2,Q0,if_pos hup];exact ih
   | false=>rw[b9S (by rw[hh,e1,e3];rfl)];simp only[↓reduceIte,Q2,Q0,if_pos hup];exact ih
end
def b3Q(ps:List Pr)(bs:List Bd)(cs ad:List Tri)(i:Int)(b:W6):Int :=
 if ltB i 0=true then 6 else if leB (bs.length:Int) i=true then 6 else if b.ok then
  if b.le (a1J ps)/\(b9J (shF ps ad).2 (((bs[i.toNat]?).map Bd.c).getD 0) b).le (shF ps ad).1 then b0Z ps i b cs else 14
 else 4
def hit(c bc b o s:Int):Bool:=ltB s b||(!(eqB c 0)&&(!(eqB c bc)&&ltB o b))
theorem b4L{ps:List Pr}{bs:List Bd}{cs ad:List Tri}(hv:a7m ps bs cs ad=0):b1N ps=0/\b9M bs=0/\cs.length<=16/\asV ps ad=0:=by
 unfold a7m at hv;by_cases h1:b1N ps=0
 ·rw[if_pos h1] at hv
  by_cases h2:b9M bs=0
  ·rw[if_pos h2] at hv
   by_cases h3:b6W (bs.length:Int) cs=0
   ·rw[if_pos h3] at hv
    refine⟨h1,h2,?_,hv⟩;unfold b6W at h3;split at h3
    ·cases h3
    ·rename_i h;rw[QV,a0F] at h;omega
   ·rw[if_neg h3] at hv;exact absurd hv h3
  ·rw[if_neg h2] at hv;exact absurd hv h2
 ·rw[if_neg h1] at hv;exact absurd hv h1
section
variable (σ:List MO)(ps:List Pr)(bs:List Bd)(cs ad:List Tri)(P B C A:PV)(hP:P.rowsOf 5=some (ps.map Pr.row))(hB:B.rowsOf 4=some (bs.map Bd.row))(hC:C.rowsOf 3=some (cs.map Tri.row))(hA:A.rowsOf 3=some (ad.map Tri.row))(n:Nat)
include hP hB hC hA in
theorem c6Q(hlow:σ.all (MO.low σ.length)=true)(hv:a7m ps bs cs ad=0)(i:Int)(b:W6)(hn:1200<=n):a0b Tab n b4P [.agg [P,B,C,A],.int .i64 i,.agg b.pv] σ=some (.int .i64 (b3Q ps bs cs ad i b),σ):=by
 obtain⟨n,rfl⟩:∃k,n=k+1:=⟨n-1,by omega⟩;obtain⟨v1,v2,v3,v4⟩:=b4L hv;obtain⟨hl,hr⟩:=b0L v1;obtain⟨p1,p2,p3⟩:=a0i hP;obtain⟨b1,b2,b3⟩:=a0i hB;obtain⟨c1,c2,c3⟩:=a0i hC;obtain⟨a1,a2,a3⟩:=a0i hA;rw[Qr] at b1 c1;have k1:=b0Q σ ps bs cs ad P B C A hP hB hC hA n (by omega)
 have k2:a0b Tab n b4R [.agg [P,B,C,A],.int .i64 i,.agg b.pv] σ=some (.int .i64 (b3Q ps bs cs ad i b),σ):=by
  obtain⟨n,rfl⟩:∃k,n=k+1:=⟨n-1,by omega⟩;have q1:=a2I σ b n (by omega);have q2:=c8q σ ps bs cs ad P B C A hP hB hC hA n hl hr v4 (by omega);have q3:=b3f σ ps P hP hl n (by omega);have q4:=c2E σ b (a1J ps) n (by omega);simp only[a2P,b6w,a5s,b1p,W6.pv] at q1 q2 q3 q4;rw[a0b];simp only[c0x,Q0,Sys.run,W6.pv];show ((a0f [.sh (.agg [_,_,_,_]),.sh (.one _),.sh (.agg [_,_,_,_,_,_])] _).bind _)=_;simp only[a0f,a0g,a0c,Q1,Q0,Qf,Q5,Q6,if_true,p3,b3,c3,a3];show (PT.ev _ b1n _).bind _=_;simp only[b1n,↓reduceIte,a0j,a0d,a0h,a0n,a0k,BE.safe,BE.pe,IE.pe,PEnv.at,Q3,Q4,Q7,Q8,a0l,a0g,Q1,Q0,PEnv.push,Q6,Q5,SV.pvs,SV.pv,BE.all,Qa,Q9,b1,b2,c1,c2,b3Q];cases h1:ltB i 0 with
  | true=>simp only[↓reduceIte,Q2,Q1,Q0,a0m,or_true]
  | false =>
   cases h2:leB (bs.length:Int) i with
   | true=>simp only[↓reduceIte,Q2,Q1,Q0,a0m,or_true,Q2]
   | false =>
    rw[a0F] at h1;rw[b0K] at h2;obtain⟨j,rfl⟩:∃j:Nat,i=(j:Int):=⟨i.toNat,by omega⟩;obtain⟨y,hy⟩:=a0U (show j<bs.length by omega);have hbc:(((bs[(j:Int).toNat]?).map Bd.c).getD 0)=y.c:=by rw[QM,hy];rfl
    rw[hbc];have e5:∀a b:Int,eqB a b=decide (a=b):=fun _ _=>rfl
    simp only[↓reduceIte,Q3,Q4,Q2,a0c,Q1,Q0,Q6,Q5,q1,Q2];by_cases hw:b.ok
    ·have hb:a3S b=0:=by unfold a3S;rw[if_pos hw]
     rw[if_pos hw,hb];have q5:=c7j σ bs P B C A hB n p3 c3 a3 hy (shF ps ad).2 b (by omega);have q6:=c2E σ (b9J (shF ps ad).2 y.c b) (shF ps ad).1 n (by omega);simp only[b4O,b1p,W6.pv] at q5 q6;obtain⟨f,hf⟩:∃f,n=f+cs.length+1:=⟨n-cs.length-1,by omega⟩;have q7:=d2a σ ps cs P B C A hP hC n v3 hlow (j:Int) b (by omega) cs.length 0 (by omega) f;rw[<- hf] at q7;simp only[c5q] at q7;simp only[↓reduceIte,Q3,Q4,Q2,a0c,a0g,Q1,Q0,Q6,Q5,Qf,Qn,show eqB 0 0=true from rfl,q2,a1h,q3,q4];by_cases w1:b.le (a1J ps)
     ·rw[dT0 w1]
      simp only[↓reduceIte,Q3,Q4,Q2,a0c,Q1,Q0,Q6,Q5,Qn,q5,q6];by_cases w2:(b9J (shF ps ad).2 y.c b).le (shF ps ad).1
      ·rw[dT0 w2,show (if b.le (a1J ps)/\(b9J (shF ps ad).2 y.c b).le (shF ps ad).1 then b0Z ps (j:Int) b cs else 14)=b0Z ps (j:Int) b cs from if_pos ⟨w1,w2⟩]
       simp only[↓reduceIte,Q2,Q0,Qn,];exact q7
      ·rw[dF0 w2,show (if b.le (a1J ps)/\(b9J (shF ps ad).2 y.c b).le (shF ps ad).1 then b0Z ps (j:Int) b cs else 14)=14 from if_neg (fun h=>w2 h.2)]
       simp only[↓reduceIte,Q2,Q1,Q0,Qm,a0m,or_true]
     ·rw[dF0 w1,show (if b.le (a1J ps)/\(b9J (shF ps ad).2 y.c b).le (shF ps ad).1 then b0Z ps (j:Int) b cs else 14)=14 from if_neg (fun h=>w1 h.1)]
      simp only[↓reduceIte,Q2,Q1,Q0,Qm,a0m,or_true]
    ·have hb:a3S b=4:=by unfold a3S;rw[if_neg hw]
     rw[if_neg hw,hb];simp only[↓reduceIte,Q2,Q1,Q0,Qm,show eqB 4 0=false from rfl,a0m,or_true]
 rw[hv] at k1;simp only[b0g,b4R,W6.pv] at k1 k2;rw[a0b];simp only[c0J,Q0,Sys.run,W6.pv];show ((a0f [.sh (.agg [_,_,_,_]),.sh (.one _),.sh (.agg [_,_,_,_,_,_])] _).bind _)=_;simp only[a0f,a0g,a0c,Q1,Q0,Qf,Q5,Q6,if_true,p3,b3,c3,a3];show (PT.ev _ b0X _).bind _=_;simp only[b0X,↓reduceIte,a0j,a0d,a0n,BE.safe,BE.pe,IE.pe,Q3,Q4,Q7,Q8,Q2,a0c,a0l,a0g,Q1,Q0,PEnv.push,Q6,Q5,SV.pvs,SV.pv,Qn,k1,k2,show eqB 0 0=true from rfl,a0m,or_true]
end
section
variable (σ:List MO)(bs:List Bd)(P B C A:PV)(hB:B.rowsOf 4=some (bs.map Bd.row))(n:Nat)
end
section
variable (σ:List MO)(ps:List Pr)(bs:List Bd)(cs ad:List Tri)(P B C A:PV)(hP:P.rowsOf 5=some (ps.map Pr.row))(hB:B.rowsOf 4=some (bs.map Bd.row))(hC:C.rowsOf 3=some (cs.map Tri.row))(hA:A.rowsOf 3=some (ad.map Tri.row))(n:Nat)
end
theorem d2g(σ:List MO)(l:List Pr)(P:PV)(hP:P.rowsOf 5=some (l.map Pr.row))(w:W6)(n:Nat)(hn:80<=n):a0b Tab n a5C [.agg (P::w.pv),.fn a3f []] σ=some (.int .i64 (b9H l w),σ):=by
 obtain⟨n,rfl⟩:∃k,n=k+1:=⟨n-1,by omega⟩;obtain⟨p1,p2,p3⟩:=a0i hP;rw[Qr] at p1;have c1:=b5C σ l P hP n (by omega);have c2:=a2I σ w n (by omega);simp only[a8f,a2P,W6.pv] at c1 c2;simp only[a0b,b0H,Q0,Sys.run,W6.pv];show ((a0f [.sh (.agg [_,_,_,_,_,_,_]),.sh (.one _)] _).bind _)=_;simp only[a0f,a0g,a0c,Q1,Q0,Qf,Q5,Q6,if_true,p3,c6n];show (PT.ev _ a3W _).bind _=_;simp only[a3W,↓reduceIte,a0j,a0d,a0h,a0n,a0k,BE.safe,BE.pe,IE.pe,PEnv.at,Q3,Q4,Q7,Q8,a0c,a0l,a0g,Q1,Q0,PEnv.push,Q6,Q5,SV.pvs,SV.pv,BE.all,Qa,Q9,c1,b9H];cases hc:eqB (b1N l) 0 with
 | false=>simp only[↓reduceIte,Q2,Q1,Q0,Qm,a0m,or_true]
 | true =>
  obtain⟨hl,hr⟩:=b0L (b3B.1 hc);simp only[↓reduceIte,Q3,Q2,a0c,Q1,Q0,Qn,c2];by_cases hw:w.ok
  ·have hb:eqB (a3S w) 0=true:=by unfold a3S;rw[if_pos hw];rfl
   have:=c9O σ l P hP w hw hl hr n (by omega) l.length 0 (by omega) (n-l.length-1);rw[show n-l.length-1+l.length+1=n by omega] at this;simp only[↓reduceIte,Q2,Q0,Qn,hb,p1,p2];exact this
  ·have hb:eqB (a3S w) 0=false:=by unfold a3S;rw[if_neg hw];rfl
   simp only[↓reduceIte,Q2,Q1,Q0,Qm,hb,a0m,or_true]
theorem c8N(σ:List MO)(l:List Pr)(P:PV)(hP:P.rowsOf 5=some (l.map Pr.row))(w:W6)(n:Nat)(hn:90<=n):a0b Tab n b3L [P,.agg w.pv] σ=some (.int .i64 (b9H l w),σ):=by
 obtain⟨n,rfl⟩:∃k,n=k+1:=⟨n-1,by omega⟩;obtain⟨p1,p2,p3⟩:=a0i hP;have c1:=d2g σ l P hP w n (by omega);simp only[a5C,a3f,W6.pv] at c1;simp only[a0b,b9B,Q0,Sys.run,W6.pv];show ((a0f [.sh (.one _),.sh (.agg [_,_,_,_,_,_])] _).bind _)=_;simp only[a0f,a0g,a0c,Q1,Q0,Qf,Q5,if_true,p3];show (PT.ev _ b0i _).bind _=_;simp only[b0i,↓reduceIte,a0j,a0n,IE.pe,Q3,Q4,Q7,Q2,a0c,a0l,a0g,Q1,Q0,PEnv.push,Q6,Q5,SV.pvs,SV.pv,c1,a0m,or_true]
def b0s(s:St)(i:Int)(L:PV):List PV:=[s.P,s.B,s.C,s.A,.int .i64 i,L]
theorem c1d(σ:List MO)(s:St)(hs:s.Ok)(i:Int)(L:PV)(hL:L.one=true)(x:Ch)(n:Nat)(hn:100<=n):a0b Tab n a4U [.agg (b0s s i L),.agg x.row] σ=some (.int .i64 (b9H s.ps x.w),σ):=by
 obtain⟨n,rfl⟩:∃k,n=k+1:=⟨n-1,by omega⟩;obtain⟨p1,p2,p3⟩:=a0i hs.P;obtain⟨b1,b2,b3⟩:=a0i hs.B;have c1:=c8N σ s.ps s.P hs.P x.w n (by omega);simp only[b3L,W6.pv] at c1;simp only[a0b,b2m,Q0,Sys.run,b0s,a2g];show ((a0f [.sh (.agg [_,_,_,_,_,_]),.sh (.agg [_,_,_,_,_,_,_,_,_,_,_,_])] _).bind _)=_;simp only[a0f,a0g,a0c,Q1,Q0,Qf,Q5,Q6,if_true,p3,b3,hs.C,hs.A,hL];show (PT.ev _ a5b _).bind _=_;simp only[a5b,↓reduceIte,a0j,a0n,IE.pe,Q3,Q4,Q7,Q2,a0c,a0l,a0g,Q1,Q0,PEnv.push,Q6,Q5,SV.pvs,SV.pv,c1,a0m,or_true]
def c3j(ps:List Pr)(l:List Ch)(a:Int):Int:=l.foldl (fun m x=>mnI m (b9H ps x.w)) a
def c9i(s:St)(i:Int)(l:List Ch):Int:=if b4W s i=true then c3j s.ps l (((s.bs[i.toNat]?).map Bd.p).getD 0) else 0
theorem d1n(σ:List MO)(s:St)(hs:s.Ok)(i:Int)(l:List Ch)(L:PV)(hL:L.rowsOf 12=some (l.map Ch.row))(hl:l.length<=1000)(n:Nat)(hn:1200<=n) :
  a0b Tab n a9P [.agg s.pv,.int .i64 i,L] σ=some (.int .i64 (c9i s i l),σ):=by
 obtain⟨n,rfl⟩:∃k,n=k+1:=⟨n-1,by omega⟩;obtain⟨p1,p2,p3⟩:=a0i hs.P;obtain⟨b1,b2,b3⟩:=a0i hs.B;obtain⟨l1,l2,l3⟩:=a0i hL;rw[Qr] at b1 l1;have c1:=b0q σ s hs i n (by omega);simp only[a8S,St.pv] at c1
 have loop:∀d k,k+d=l.length->∀fuel (a:Int),a1T.loop (a0b Tab n) (fuel+d+1) 0 {i:=[i,a,(l.length:Int),(k:Int)],b:=[],v:=[s.P,s.B,s.C,s.A,L],m:=σ,k:=σ.length}=some (.int .i64 (c3j s.ps (l.drop k) a),σ):=by
  intro d
  induction d with
  | zero =>
   intro k hk fuel a;rw[Qh] at hk;subst hk;have hd:decide (l.length<l.length)=false:=by simp
   rw[Sys.loop,show a1T.loops[0]?=some a2R from rfl,X2];simp only[Q0,a2R,↓reduceIte,a0j,a0d,BE.safe,BE.pe,IE.pe,Q3,Q4,Q2,Q1,Q0,SV.pv,a0x,hd,a0m,or_true,c3j,X7]
  | succ d ih =>
   intro k hk fuel a;have hlt:k<l.length:=by omega
   obtain⟨x,hx⟩:=a0U hlt;have hd:decide (k<l.length)=true:=dT0 hlt;have h0:=a1d (off:=0) hL (b0w hx);have hup:=a3I (show k<=1000000000 by omega);have c2:=c1d σ s hs i L l3 x n (by omega);simp only[a4U,b0s,a2g] at c2;have ih:=ih (k+1) (by omega) fuel (mnI a (b9H s.ps x.w));rw[a1q] at ih;rw[a5T hx,show c3j s.ps (x::l.drop (k+1)) a=c3j s.ps (l.drop (k+1)) (mnI a (b9H s.ps x.w)) from rfl,<- ih,show fuel+(d+1)+1=(fuel+d+1)+1 from rfl,Sys.loop,show a1T.loops[0]?=some a2R from rfl];simp only[Q0,a2R,↓reduceIte,a0d,a0h,a0u,a0n,a0k,BE.safe,BE.pe,IE.pe,PEnv.at,Q3,Q4,Q7,Q8,a0p,a0a,a0P,Qs,Qb,Qd,Nat.reduceAdd,Qp,Q2,Qj,Qk,a0c,a0l,a0g,Q1,Q0,PEnv.push,Q6,Q5,SV.pvs,SV.pv,BE.all,Qe,Qa,Q9,l1,a0x,hd,le0,h0,a2g,c2,if_pos hup]
 simp only[a0b,b4b,Q0,Sys.run,St.pv];show ((a0f [.sh (.agg [_,_,_,_]),.sh (.one _),.sh (.one _)] _).bind _)=_;simp only[a0f,a0g,a0c,Q1,Q0,Qf,Q5,Q6,if_true,p3,b3,l3,hs.C,hs.A];show (PT.ev _ a6u _).bind _=_;simp only[a6u,↓reduceIte,a0j,a0d,a0h,a0u,a0n,a0k,BE.safe,BE.pe,IE.pe,PEnv.at,Q3,Q4,Q7,Q8,a0p,a0a,a0P,Qb,Qd,Nat.reduceAdd,a0c,a0l,a0g,Q1,Q0,PEnv.push,Q6,Q5,SV.pvs,SV.pv,BE.all,Qe,Qa,Q9,c1,c9i];cases hh:b4W s i with
 | false=>simp only[↓reduceIte,Q2,Q1,Q0,Qm,a0m,or_true]
 | true =>
  obtain⟨k,rfl,hk,hkn⟩:=c7C hh;obtain⟨b,hb⟩:=a0U hk;have hloc:=a1d (off:=3) hs.B (a6l hb);have hd:decide (k<s.bs.length)=true:=dT0 hk;have dr:∀a b c d:PV,QW 3 [a,b,c,d]=[d]:=fun _ _ _ _=>rfl
  have:=loop l.length 0 (by omega) (n-l.length-1) b.p;rw[show n-l.length-1+l.length+1=n by omega,Qs] at this;rw[hkn,hb];simp only[↓reduceIte,Q3,Qb,Qd,Nat.reduceAdd,Qp,Q2,Qj,Qk,a0c,Q1,Q0,Qe,Qn,b1,l1,l2,a0x,hd,le0,hloc,a8o,dr,QH];exact this
def b4f(w:W6):Bool:=eqB w.a 0&&(eqB w.b 0&&(eqB w.c 0&&(eqB w.d 0&&(eqB w.e 0&&eqB w.f 0))))
def c2K(l:List Ch):Bool:=match l.getLast? with|some x=>b4f x.w|none=>false
theorem b8L(σ:List MO)(l:List Ch)(L:PV)(hL:L.rowsOf 12=some (l.map Ch.row))(hl:l.length<=1000)(n:Nat)(hn:1<=n):a0b Tab n b2U [L] σ=some (.bool (c2K l),σ):=by
 obtain⟨n,rfl⟩:∃k,n=k+1:=⟨n-1,by omega⟩;obtain⟨l1,l2,l3⟩:=a0i hL;rw[Qr] at l1;simp only[a0b,b8t,Q0,Sys.run];show ((a0f [.sh (.one _)] _).bind _)=_;simp only[a0f,a0g,a0c,Q1,Q0,Qf,if_true,l3];show (PT.ev _ a9F _).bind _=_;simp only[a9F,↓reduceIte,a0j,a0d,a0h,a0u,BE.safe,BE.pe,IE.pe,PEnv.at,Q3,Q7,a0p,a0a,a0P,Qb,Qd,Nat.reduceAdd,Q2,Q0,PEnv.push,Q6,Q5,SV.pv,Qe,l1,l2];by_cases h0:l.length=0
 ·have hn:l=[]:=List.length_eq_zero_iff.1 h0
  subst hn;have h1:ltB 0 (([]:List Ch).length:Int)=false:=rfl;rw[h1];simp only[↓reduceIte,Q2,Q1,Q0,a0m,or_true];rfl
 ·have h1:ltB 0 (l.length:Int)=true:=by rw[a0Q];omega
  obtain⟨x,hx⟩:=a0U (show l.length-1<l.length by omega);have h2:=a1d (off:=6) hL (b0w hx);have e:((l.length-1:Nat):Int)=(l.length:Int)-1:=by omega
  rw[e] at h2;have h4:leB 0 ((l.length:Int)-1)=true:=by rw[a2H];omega
  have h5:ltB ((l.length:Int)-1) (l.length:Int)=true:=by rw[a0Q];omega
  have h6:c2K l=b4f x.w:=by unfold c2K;rw[List.getLast?_eq_getElem?,hx]
  rw[h1,h6];simp only[↓reduceIte,Q3,Q4,Qb,Qd,Nat.reduceAdd,Qp,Q2,Qj,Qk,a0c,Q1,Q0,Qe,if_pos (a0C (z:=(l.length:Int)-1) (by omega)),h4,h5,h2,a2g,d4G,a0m,or_true,b4f]
def w0:W6:=⟨0,0,0,0,0,0⟩
def wa(W:List W6)(k:Nat):W6:=(W[k]?).getD w0
def chx(l:List Ch)(i:Nat):Ch:=(l[i]?).getD ⟨w0,w0⟩
theorem e0s{l:List Ch}{i:Nat}{x:Ch}(h:l[i]?=some x):chx l i=x:=by simp[chx,h]
theorem b9y{W:List W6}{i:Nat}{x:W6}(h:W[i]?=some x):wa W i=x:=by simp[wa,h]
section
variable (l:List Ch)
end
section
variable (l:List Ch)(hok:∀x∈l,x.ok)
include hok
end
theorem e0o{l:List Ch}{z:Nat}(hz:z<l.length):b1R l (z:Int)=chx l z:=by
 obtain⟨c,hc⟩:=a0U hz;rw[e0s hc];simp[b1R,hc]
theorem e0v(p:W6):a8i p w0=0:=by simp[a8i,w0]
theorem e0u{l:List Ch}{i:Nat}(h:i<l.length):l[i]?=some (chx l i):=by
 obtain⟨x,hx⟩:=a0U h;rw[hx,e0s hx]
section
variable (σ:List MO)(l:List Ch)(P:PV)(hP:P.rowsOf 12=some (l.map Ch.row))(hok:∀x∈l,x.ok)(hl:l.length<=30)(n:Nat)(hn:1<=n)
end
section
variable (σ:List MO)(hσ:b1a σ)(l:List Ch)(P:PV)(hP:P.rowsOf 12=some (l.map Ch.row))(hok:∀x∈l,x.ok)(hl:l.length<=30)(n:Nat)(hn:1<=n)
end
def c1B(s:St)(i:Int)(l:List Ch)(x:Ch):Bool:=leB (b9H s.ps x.w) (c9i s i l)
section
variable (σ:List MO)(s:St)(hs:s.Ok)(i:Int)(l:List Ch)(L:PV)(hL:L.rowsOf 12=some (l.map Ch.row))(hl:l.length<=29)(x:Ch)(n:Nat)
include hs hL hl in
theorem c6I(hn:1300<=n):a0b Tab n a5F [.agg (b0s s i L),.agg x.row] σ=some (.bool (c1B s i l x),σ):=by
 obtain⟨n,rfl⟩:∃k,n=k+1:=⟨n-1,by omega⟩;obtain⟨p1,p2,p3⟩:=a0i hs.P;obtain⟨b1,b2,b3⟩:=a0i hs.B;obtain⟨l1,l2,l3⟩:=a0i hL;have c1:=c1d σ s hs i L l3 x n (by omega);have c2:=d1n σ s hs i l L hL (by omega) n (by omega);simp only[a4U,a9P,b0s,St.pv,a2g] at c1 c2;simp only[a0b,b3b,Q0,Sys.run,b0s,a2g];show ((a0f [.sh (.agg [_,_,_,_,_,_]),.sh (.agg [_,_,_,_,_,_,_,_,_,_,_,_])] _).bind _)=_;simp only[a0f,a0g,a0c,Q1,Q0,Qf,Q5,Q6,if_true,p3,b3,hs.C,hs.A,l3];show (PT.ev _ a5D _).bind _=_;simp only[a5D,↓reduceIte,a0j,a0n,BE.safe,BE.pe,IE.pe,Q3,Q4,Q7,Q8,Q2,a0c,a0l,a0g,Q1,Q0,PEnv.push,Q6,Q5,SV.pvs,SV.pv,c1,c2,a0m,or_true,c1B]
include hs hL hl in
theorem c8D(hσ:b1a σ)(hn:31000<=n):∃b,a0b Tab n a1U [.agg (b0s s i L),.agg x.row] σ=some (.bool b,σ)/\(b=true↔(∀y∈l++[x],y.ok)/\Pot (l++[x])):=by
 obtain⟨n,rfl⟩:∃k,n=k+1:=⟨n-1,by omega⟩;obtain⟨p1,p2,p3⟩:=a0i hs.P;obtain⟨b1,b2,b3⟩:=a0i hs.B;obtain⟨l1,l2,l3⟩:=a0i hL;obtain⟨w1,w2,b,c1,o1,o2,hb⟩:=d1G σ hσ (l++[x]) (.sl 12 ((l++[x]).map Ch.row)) (a1C _ _) (by simp;omega) n (by omega);refine⟨b,?_,hb⟩;have a2:(l++[x]).map Ch.row=l.map Ch.row++[x.row]:=by simp
 rw[a2] at c1;have r1:((1:Nat)≠0)/\(l.map Ch.row).length+1<=1000000:=by simp;omega
 have one1:∀r:List PV,[r].length=1:=fun _=>rfl
 simp only[b0p,a2g] at c1;simp only[a0b,b2l,Q0,Sys.run,b0s,a2g];show ((a0f [.sh (.agg [_,_,_,_,_,_]),.sh (.agg [_,_,_,_,_,_,_,_,_,_,_,_])] _).bind _)=_;simp only[a0f,a0g,a0c,Q1,Q0,Qf,Q5,Q6,if_true,p3,b3,hs.C,hs.A,l3];generalize l.map Ch.row=R at *
 have E:PT.ev (a0b Tab n) a3l {i:=[i,x.p.a,x.p.b,x.p.c,x.p.d,x.p.e,x.p.f,x.w.a,x.w.b,x.w.c,x.w.d,x.w.e,x.w.f],b:=[],v:=[s.P,s.B,s.C,s.A,L],m:=σ,k:=σ.length}=some (.ret (.bool b) σ):=by
  simp only[a3l,↓reduceIte,a0h,b0D,BE.safe,BE.pe,PEnv.at,Q3,Q4,Q7,Q8,Q0,l2,hL]
  repeat' (first
   | with_reducible rfl
   | apply a3d
   | (unfold a2O;simp only[↓reduceIte,a0j,a0n,BE.safe,BE.pe,Q3,Q7,Q8,Q2,a0c,a0l,a0g,Q1,Q0,PEnv.push,Q6,Q5,Qf,SV.pvs,SV.pv,a1h,c1,o1,o2,a0m,or_true];done)
   | (unfold a2O;simp only[↓reduceIte,a0j,a0d,a0h,a0u,a7z,a5L,a6g,b0D,a5r,a0n,a2l,a5x,a5K,a1P,a6r,a8P,a7k,a7i,a7f,a0k,BE.safe,BE.pe,IE.pe,PEnv.at,Q3,Q4,Q7,Q8,a0p,a1k,a0a,a0P,Qh,Qs,Qb,Qd,Nat.reduceAdd,Qp,if_true,if_false,Q2,Qj,Qk,a0c,a0l,a0g,Q1,Q0,PEnv.push,Q6,Q5,Qf,SV.pvs,SV.pv,BE.all,Qe,Qn,Qm,Qa,Q9,a0W,QA,QB,QE,Qu,QC,QD,Qu,a1C,hL,Qq,if_pos b6z,if_pos r1,if_pos r1.2,a1h,c1,o1,o2,a0m,or_true])
   | (unfold a4f;simp only[a5r,IE.pe,Q3,Q4,Q7,Q8,Qb,Qd,Q0,Q6,Q5,a0W,QE,Qu,Qu,a1C,hL,Qq,if_pos r1,];done)
   | (unfold a4f;simp only[a5r,IE.pe,Q3,Q4,Q7,Q8,Qb,Qd,Q0,Q6,Q5,a0W,QE,Qu,Qu,a1C,hL,Qq,if_pos r1,])
   | (unfold a4k;simp only[↓reduceIte,a0j,a5r,a0n,BE.safe,BE.pe,IE.pe,Q3,Q4,Q7,Q8,Qb,Qd,Q2,a0c,a0l,a0g,Q1,Q0,PEnv.push,Q6,Q5,Qf,SV.pvs,SV.pv,a0W,QE,Qu,Qu,a1C,hL,Qq,if_pos r1,a1h,c1,o1,o2,a0m,or_true];done)
   | (unfold a4k;simp only[↓reduceIte,a0j,a0d,a0h,a0u,a7z,a5L,a6g,b0D,a5r,a0n,a2l,a5x,a5K,a1P,a6r,a8P,a7k,a7i,a7f,a0k,BE.safe,BE.pe,IE.pe,PEnv.at,Q3,Q4,Q7,Q8,a0p,a1k,a0a,a0P,Qh,Qs,Qb,Qd,Nat.reduceAdd,Qp,if_true,if_false,Q2,Qj,Qk,a0c,a0l,a0g,Q1,Q0,PEnv.push,Q6,Q5,Qf,SV.pvs,SV.pv,BE.all,Qe,Qn,Qm,Qa,Q9,a0W,QA,QB,QE,Qu,QC,QD,Qu,a1C,hL,Qq,if_pos b6z,if_pos r1,if_pos r1.2,a1h,c1,o1,o2,a0m,or_true])
   | (unfold a4h;simp only[↓reduceIte,a0j,a0d,a0h,a0u,a7z,a5L,a6g,b0D,a5r,a0n,a2l,a5x,a5K,a1P,a6r,a8P,a7k,a7i,a7f,a0k,BE.safe,BE.pe,IE.pe,PEnv.at,Q3,Q4,Q7,Q8,a0p,a1k,a0a,a0P,Qh,Qs,Qb,Qd,Nat.reduceAdd,Qp,if_true,if_false,Q2,Qj,Qk,a0c,a0l,a0g,Q1,Q0,PEnv.push,Q6,Q5,Qf,SV.pvs,SV.pv,BE.all,Qe,Qn,Qm,Qa,Q9,a0W,QA,QB,QE,Qu,QC,QD,Qu,a1C,hL,Qq,if_pos b6z,if_pos r1,if_pos r1.2,a1h,c1,o1,o2,a0m,or_true];done)
   | (unfold a4h;simp only[↓reduceIte,a0j,a0d,a0h,a0u,a7z,a5L,a6g,b0D,a5r,a0n,a2l,a5x,a5K,a1P,a6r,a8P,a7k,a7i,a7f,a0k,BE.safe,BE.pe,IE.pe,PEnv.at,Q3,Q4,Q7,Q8,a0p,a1k,a0a,a0P,Qh,Qs,Qb,Qd,Nat.reduceAdd,Qp,if_true,if_false,Q2,Qj,Qk,a0c,a0l,a0g,Q1,Q0,PEnv.push,Q6,Q5,Qf,SV.pvs,SV.pv,BE.all,Qe,Qn,Qm,Qa,Q9,a0W,QA,QB,QE,Qu,QC,QD,Qu,a1C,hL,Qq,if_pos b6z,if_pos r1,if_pos r1.2,a1h,c1,o1,o2,a0m,or_true])
   | (unfold a4l;simp only[↓reduceIte,a0j,a7z,a5r,a0n,BE.safe,BE.pe,IE.pe,Q3,Q4,Q7,Q8,Qb,Qd,Q2,a0c,a0l,a0g,Q1,Q0,PEnv.push,Q6,Q5,Qf,SV.pvs,SV.pv,a0W,QA,QB,QC,QD,a1C,hL,Qq,if_pos b6z,if_pos r1,a1h,c1,o1,o2,a0m,or_true];done)
   | (unfold a4l;simp only[↓reduceIte,a0j,a0d,a0h,a0u,a7z,a5L,a6g,b0D,a5r,a0n,a2l,a5x,a5K,a1P,a6r,a8P,a7k,a7i,a7f,a0k,BE.safe,BE.pe,IE.pe,PEnv.at,Q3,Q4,Q7,Q8,a0p,a1k,a0a,a0P,Qh,Qs,Qb,Qd,Nat.reduceAdd,Qp,if_true,if_false,Q2,Qj,Qk,a0c,a0l,a0g,Q1,Q0,PEnv.push,Q6,Q5,Qf,SV.pvs,SV.pv,BE.all,Qe,Qn,Qm,Qa,Q9,a0W,QA,QB,QE,Qu,QC,QD,Qu,a1C,hL,Qq,if_pos b6z,if_pos r1,if_pos r1.2,a1h,c1,o1,o2,a0m,or_true]))
 show ((PT.ev (a0b Tab n) a3l _).bind _)=_;exact(congrArg (Option.bind · _) E).trans rfl
end
theorem d1A(σ:List MO)(x:Ch)(n:Nat)(hn:1<=n):a0b Tab n b1w [.agg x.row] σ=some (.bool (b4f x.w),σ):=by
 obtain⟨n,rfl⟩:∃k,n=k+1:=⟨n-1,by omega⟩;simp only[a0b,b6H,Q0,Sys.run,a2g];show ((a0f [.sh (.agg [_,_,_,_,_,_,_,_,_,_,_,_])] _).bind _)=_;simp only[a0f,a0g,a0c,Q1,Q0,Qf,if_true];show (PT.ev _ a7G _).bind _=_;simp only[a7G,↓reduceIte,a0j,BE.safe,BE.pe,IE.pe,Q3,Q4,Q2,Q1,Q0,SV.pv,Qe,a0m,or_true,b4f]
def c5F(s:St)(rule i:Int)(l:List Ch)(x:Ch)(ag:Bool):Int :=
 if (eqB rule 1||(eqB rule 2||eqB rule 3))=true then(if b4W s i=true then(if eqB (a3S x.w) 0=true then
  (if c2K l=true then(if b4f x.w=true then 0 else 15) else(if (if eqB rule 1=true then c1B s i l x else if eqB rule 2=true then ag else(c1B s i l x||ag))=true then 0 else 15)) else a3S x.w) else 6) else 4
section
variable (σ:List MO)(s:St)(hs:s.Ok)(rule i:Int)(l:List Ch)(L:PV)(hL:L.rowsOf 12=some (l.map Ch.row))(hl:l.length<=29)(x:Ch)(n:Nat)(ag:Bool)
include hs hL hl in
theorem c9b(hn:1301<=n)(hag:∀m,n<=m+1->m<=n->a0b Tab m a1U [.agg (b0s s i L),.agg x.row] σ=some (.bool ag,σ)):a0b Tab n a7X [.agg (b0s s i L),.agg x.row] σ=some (.bool (c1B s i l x||ag),σ):=by
 obtain⟨n,rfl⟩:∃k,n=k+1:=⟨n-1,by omega⟩;obtain⟨p1,p2,p3⟩:=a0i hs.P;obtain⟨b1,b2,b3⟩:=a0i hs.B;obtain⟨l1,l2,l3⟩:=a0i hL;have c1:=c6I σ s hs i l L hL hl x n (by omega);have c2:=hag n (by omega) (by omega);simp only[a5F,a1U,b0s,a2g] at c1 c2;simp only[a0b,b2u,Q0,Sys.run,b0s,a2g];show ((a0f [.sh (.agg [_,_,_,_,_,_]),.sh (.agg [_,_,_,_,_,_,_,_,_,_,_,_])] _).bind _)=_;simp only[a0f,a0g,a0c,Q1,Q0,Qf,Q5,Q6,if_true,p3,b3,hs.C,hs.A,l3];show (PT.ev _ a5e _).bind _=_;simp only[a5e,↓reduceIte,a0j,a0d,a0n,BE.safe,BE.pe,IE.pe,Q3,Q4,Q7,Q8,a0c,a0l,a0g,Q1,Q0,PEnv.push,Q6,Q5,SV.pvs,SV.pv,c1];cases c1B s i l x<;>simp only[↓reduceIte,Q3,Q2,a0c,Q1,Q0,c2,a0m,or_true,QN,QK]
include hs hL hl in
theorem c8o(hn:1400<=n)(hag:∀m,n<=m+2->m<=n->a0b Tab m a1U [.agg (b0s s i L),.agg x.row] σ=some (.bool ag,σ)):a0b Tab n b2W [.agg s.pv,.int .i64 rule,.int .i64 i,L,.agg x.row] σ=some (.int .i64 (c5F s rule i l x ag),σ):=by
 obtain⟨n,rfl⟩:∃k,n=k+1:=⟨n-1,by omega⟩;obtain⟨p1,p2,p3⟩:=a0i hs.P;obtain⟨b1,b2,b3⟩:=a0i hs.B;obtain⟨l1,l2,l3⟩:=a0i hL;have c1:=b0q σ s hs i n (by omega);have c2:=a2I σ x.w n (by omega);have c3:=b8L σ l L hL (by omega) n (by omega);have c4:=d1A σ x n (by omega);have c5:=c6I σ s hs i l L hL hl x n (by omega);have c6:=hag n (by omega) (by omega);have c7:=c9b σ s hs i l L hL hl x n ag (by omega) (fun m h1 h2=>hag m (by omega) (by omega));simp only[a8S,a2P,b2U,b1w,a5F,a1U,a7X,b0s,St.pv,a2g,W6.pv] at c1 c2 c3 c4 c5 c6 c7;simp only[a0b,b8r,Q0,Sys.run,St.pv,a2g];show ((a0f [.sh (.agg [_,_,_,_]),.sh (.one _),.sh (.one _),.sh (.one _),.sh (.agg [_,_,_,_,_,_,_,_,_,_,_,_])] _).bind _)=_;simp only[a0f,a0g,a0c,Q1,Q0,Qf,Q5,Q6,if_true,p3,b3,hs.C,hs.A,l3];show (PT.ev _ a9I _).bind _=_;simp only[a9I,↓reduceIte,a0j,a0d,a0n,BE.safe,BE.pe,IE.pe,Q3,Q4,Q7,Q8,a0l,a0g,Q1,Q0,PEnv.push,Q6,Q5,SV.pvs,SV.pv,];unfold c5F;generalize c1B s i l x=ft at *
 generalize b4W s i=hb at *
 generalize c2K l=ex at *
 generalize b4f x.w=em at *
 generalize a3S x.w=bc at *
 cases eqB rule 1 with
 | true =>
  cases hb with
  | false=>simp only[↓reduceIte,Q3,Q2,a0c,Q1,Q0,Qm,c1,a0m,or_true,QN]
  | true =>
  simp only[↓reduceIte,Q3,Q4,Q2,a0c,Q1,Q0,Q6,Q5,Qf,Qn,c1,c2,QN];cases hbc:eqB bc 0 with
  | false=>simp only[↓reduceIte,Q2,Q1,Q0,Qm,a0m,or_true]
  | true =>
  simp only[↓reduceIte,Q3,Q4,Q2,a0c,Q1,Q0,Q6,Q5,Qn,c3];cases ex with
  | true=>simp only[↓reduceIte,Q3,a0c,Q1,Q0,c4];cases em<;>simp only[↓reduceIte,Q2,Q1,Q0,Qn,Qm,a0m,or_true]
  | false =>
  simp only[↓reduceIte,Q3,Q2,a0c,Q1,Q0,c5];cases ft<;>simp only[↓reduceIte,Q2,Q1,Q0,Qn,Qm,a0m,or_true]
 | false =>
  cases eqB rule 2 with
  | true =>
   cases hb with
   | false=>simp only[↓reduceIte,Q3,Q2,a0c,Q1,Q0,Qm,c1,a0m,or_true,QN,QK]
   | true =>
   simp only[↓reduceIte,Q3,Q4,Q2,a0c,Q1,Q0,Q6,Q5,Qf,Qn,c1,c2,QN,QK];cases hbc:eqB bc 0 with
   | false=>simp only[↓reduceIte,Q2,Q1,Q0,Qm,a0m,or_true]
   | true =>
   simp only[↓reduceIte,Q3,Q4,Q2,a0c,Q1,Q0,Q6,Q5,Qn,c3];cases ex with
   | true=>simp only[↓reduceIte,Q3,a0c,Q1,Q0,c4];cases em<;>simp only[↓reduceIte,Q2,Q1,Q0,Qn,Qm,a0m,or_true]
   | false =>
   simp only[↓reduceIte,Q3,Q2,a0c,Q1,Q0,c6];cases ag<;>simp only[↓reduceIte,Q2,Q1,Q0,Qn,Qm,a0m,or_true]
  | false =>
   cases eqB rule 3 with
   | true =>
    cases hb with
    | false=>simp only[↓reduceIte,Q3,Q2,a0c,Q1,Q0,Qm,c1,a0m,or_true,QK]
    | true =>
    simp only[↓reduceIte,Q3,Q4,Q2,a0c,Q1,Q0,Q6,Q5,Qf,Qn,c1,c2,QK];cases hbc:eqB bc 0 with
    | false=>simp only[↓reduceIte,Q2,Q1,Q0,Qm,a0m,or_true]
    | true =>
    simp only[↓reduceIte,Q3,Q4,Q2,a0c,Q1,Q0,Q6,Q5,Qn,c3];cases ex with
    | true=>simp only[↓reduceIte,Q3,a0c,Q1,Q0,c4];cases em<;>simp only[↓reduceIte,Q2,Q1,Q0,Qn,Qm,a0m,or_true]
    | false =>
    simp only[↓reduceIte,Q3,Q2,a0c,Q1,Q0,c7];cases (ft||ag)<;>simp only[↓reduceIte,Q2,Q1,Q0,Qn,Qm,a0m,or_true]
   | false=>simp only[↓reduceIte,Q2,Q1,Q0,a0m,or_true,QK]
end
open Go.ChangeShapes Go.WideShapes Go.ChangeAt Go.RowKit Go.Sx
theorem d2k:w0.ok:=by simp[w0,W6.ok]
def W6.leP(a b:W6):Prop:=a.a<=b.a/\a.b<=b.b/\a.c<=b.c/\a.d<=b.d/\a.e<=b.e/\a.f<=b.f
theorem e0B{a b w:W6}(h:a.leP b)(hw:w.ok):a8i a w<=a8i b w:=by
 obtain⟨h1,h2,h3,h4,h5,h6⟩:=h;simp only[W6.ok] at hw;have m:∀{x y z:Int},x<=y->0<=z->x*z<=y*z:=fun h g=>Int.mul_le_mul_of_nonneg_right h g
 have:=m h1 hw.1;have:=m h2 hw.2.2.1;have:=m h3 hw.2.2.2.2.1;have:=m h4 hw.2.2.2.2.2.2.1;have:=m h5 hw.2.2.2.2.2.2.2.2.1;have:=m h6 hw.2.2.2.2.2.2.2.2.2.2.1;simp only[a8i];omega
theorem e0E{l:List Ch}(hok:∀x∈l,x.ok)(h:Pot l){p:W6}(hp:∀x∈l,x.p.leP p):Pot (l++[⟨p,w0⟩]):=by
 obtain⟨π,hπ⟩:=h
 have g:∀x y,x<l.length->y<l.length->π y<=π x+(a8i (chx l x).p (chx l y).w-a8i (chx l x).p (chx l x).w):=by
  intro x y hx hy;have:=hπ x y hx hy;unfold gN b3p at this
  rwa [e0o hx,e0o hy] at this
 have mem:∀{x},x<l.length->chx l x∈l:=fun {x} hx=>Qt (e0u hx)
 have base:∃v:Int,(∀x,x<l.length->v<=π x-a8i (chx l x).p (chx l x).w)/\(∀y,y<l.length->π y<=v+a8i p (chx l y).w):=by
  by_cases hne:l.length=0
  ·exact⟨0,fun x hx=>by omega,fun x hx=>by omega⟩
  ·have least:∀N,N<=l.length->0<N->∃x,x<N/\∀y,y<N->π x-a8i (chx l x).p (chx l x).w<=π y-a8i (chx l y).p (chx l y).w:=by
    intro N
    induction N with
    | zero=>intro _ h;omega
    | succ N ih =>
     intro hN _;by_cases h0:N=0
     ·subst h0
      exact⟨0,by omega,fun y hy=>by (obtain rfl:y=0:=(by omega));exact Int.le_refl _⟩
     ·obtain⟨x,hx,hm⟩:=ih (by omega) (by omega)
      by_cases hc:π x-a8i (chx l x).p (chx l x).w<=π N-a8i (chx l N).p (chx l N).w
      ·refine⟨x,by omega,fun y hy=>?_⟩
       by_cases hyN:y=N
       ·subst hyN;exact hc
       ·exact hm y (by omega)
      ·refine⟨N,by omega,fun y hy=>?_⟩
       by_cases hyN:y=N
       ·subst hyN;exact Int.le_refl _
       ·have:=hm y (by omega);omega
   obtain⟨x,hx,hm⟩:=least l.length (Qp _) (by omega);refine⟨π x-a8i (chx l x).p (chx l x).w,hm,fun y hy=>?_⟩;have h1:=g x y hx hy;have h2:=e0B (hp _ (mem hx)) (hok _ (mem hy)).2;omega
 obtain⟨v,b1,b2⟩:=base;refine⟨fun x=>if x<l.length then π x else v,fun x y hx hy=>?_⟩;rw[List.length_append,List.length_singleton] at hx hy
 have ca:∀z,z<l.length->b1R (l++[⟨p,w0⟩]) (z:Int)=chx l z:=fun z hz=>by
  unfold b1R;rw[QM,List.getElem?_append_left hz,e0u hz];rfl
 have cb:b1R (l++[⟨p,w0⟩]) (l.length:Int)=⟨p,w0⟩:=by
  unfold b1R;rw[QM];simp
 unfold gN b3p;show (if y<l.length then π y else v)<=(if x<l.length then π x else v)+_;by_cases hxl:x<l.length
 ·by_cases hyl:y<l.length
  ·rw[if_pos hxl,if_pos hyl,ca x hxl,ca y hyl];exact g x y hxl hyl
  ·obtain rfl:y=l.length:=by omega
   rw[if_pos hxl,if_neg hyl,ca x hxl,cb];have:=b1 x hxl;rw[e0v];omega
 ·obtain rfl:x=l.length:=by omega
  by_cases hyl:y<l.length
  ·rw[if_neg hxl,if_pos hyl,ca y hyl,cb]
   have:=b2 y hyl;show π y<=v+(a8i p (chx l y).w-a8i p w0);rw[e0v];omega
  ·obtain rfl:y=l.length:=by omega
   rw[if_neg hxl,cb];omega
end Go.Proofs.Ytmekflfjaflmkaa
