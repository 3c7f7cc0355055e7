/- Verify of up to 30 choices. -/
import Derived.Test.YtmekflfjaflmkaaHRvc
set_option linter.unusedSimpArgs false
set_option linter.unusedVariables false
set_option linter.unusedSectionVars false
open Option renaming bind_some → Q0, map_some → Q1
open Bool renaming false_eq_true → Q2, not_false → Q8, true_and → Qd, not_true → Qe, and_self → Qh, false_and → Qp, and_eq_true → Qz
open List renaming getD_cons_zero → Q3, cons_append → Q4, nil_append → Q5, getD_cons_succ → Q6, mem_of_getElem? → Q7, length_cons → Q9, length_nil → Qa, getElem?_eq_getElem → Qb, getElem?_cons_zero → Qf, getElem?_cons_succ → Qg, map_cons → Qj, map_nil → Qk, drop_zero → Qm, append_nil → Qn, take_succ_cons → Qs, take_zero → Qt, all_eq_true → Qu, length_map → Qv, drop_eq_nil_of_le → Qw, getElem?_eq_some_iff → Qy
open Nat renaming zero_le → Qq, le_refl → Qr
set_option maxRecDepth 100000
namespace Go.Proofs.Ytmekflfjaflmkaa
open Go.Sx
theorem e0z(σ:List MO)(l:List Ch)(P:PV)(hP:P.rowsOf 12=some (l.map Ch.row))(vals:List Int)(V:PV)(hV:V.rowsOf 1=some (d9P vals))(hl:l.length<=30)(hok:∀x∈l,x.ok)(hvo:∀v∈vals,d9k v=true)(n:Nat)(hn:1300<=n) :
  a0b Tab n d9A [P,V] σ=some (.bool (decide (vals.length=l.length)&&d9K (l.zip vals)),σ):=by
 obtain⟨n,rfl⟩:∃k,n=k+1:=⟨n-1,by omega⟩;obtain⟨p1,p2,p3⟩:=a0i hP;obtain⟨s1,s2,s3⟩:=a0i hV;rw[Qv] at p1;rw[e0g] at s1
 have loops:vals.length=l.length->∀fuel:Nat,
   (∀i,i<=l.length->(l.length-i)*40+1<=fuel->d8T.loop (a0b Tab n) fuel 0 {i:=[(l.length:Int),(i:Int)],b:=[],v:=[P,V],m:=σ,k:=σ.length}=some (.bool (((l.zip vals).drop i).all fun p=>e0e p&&(l.zip vals).all (e0f p)),σ)) /\
   (∀i k x v b0 b1 b2,l[i]?=some x->vals[i]?=some v->k<=l.length->(l.length-i-1)*40+(l.length-k)+3<=fuel ->
    d8T.loop (a0b Tab n) fuel 1 {i:=[(i:Int),(l.length:Int),x.w.a,x.w.b,x.w.c,x.w.d,x.w.e,x.w.f,(l.length:Int),(k:Int),x.p.a,x.p.b,x.p.c,x.p.d,x.p.e,x.p.f],b:=[b0,b1,b2],v:=[P,V],m:=σ,k:=σ.length} =
     some (.bool (((l.zip vals).drop k).all (e0f (x,v))&&((l.zip vals).drop (i+1)).all fun p=>e0e p&&(l.zip vals).all (e0f p)),σ)):=by
  intro hvl fuel
  induction fuel with
  | zero=>exact⟨fun i _ h=>by omega,fun i k x v b0 b1 b2 _ _ _ h=>by omega⟩
  | succ fuel ih =>
   refine⟨fun i h1 h2=>?_,fun i k x v b0 b1 b2 hx hv h1 h2=>?_⟩
   ·rw[Sys.loop,show d8T.loops[0]?=some d9h from rfl]
    simp only[Q0,d9h,↓reduceIte,PT.ev,BE.safe,BE.pe,IE.pe,PEnv.at,Q3,Q6,Qf,Qg,a0p,a0a,a0P,Q9,Qa,Nat.reduceAdd,Q2,a0l,a0g,Q1,Q0,PEnv.push,Q4,Q5,SV.pvs,SV.pv,BE.all,Qh,Qj,Qk,a0x,decide_eq_true_eq];by_cases hlt:i<l.length
    ·obtain⟨x,hx⟩:∃x,l[i]?=some x:=⟨_,Qb hlt⟩
     obtain⟨v,hv⟩:∃x,vals[i]?=some x:=⟨_,Qb (by omega)⟩;rw[if_pos hlt,a5T (e0r hx hv),List.all_cons];have hloc:=a1d (off:=0) hP (b0w hx);have hloc2:=a1d (off:=0) hV (d9z hv);have hxo:=hok x (Q7 hx);have c1:=a8k σ x.p x.w hxo.1 hxo.2 n (by omega);have q1:(leB 0 (i:Int)&&decide (i<l.length))=true:=by simp[leB,hlt]
     have q3:(leB 0 (i:Int)&&decide (i<vals.length))=true:=by simp[leB];omega
     have rcc:=fun b0 b1 b2=>ih.2 i 0 x v b0 b1 b2 hx hv (Qq _) (by omega)
     simp only[e0e];generalize a8i x.p x.w=u at *
     simp only[Qm,Int.cast_ofNat_Int] at rcc;have hz:(eqB x.w.a 0&&(eqB x.w.b 0&&(eqB x.w.c 0&&(eqB x.w.d 0&&(eqB x.w.e 0&&eqB x.w.f 0)))))=x.w.isZ:=rfl;simp only[a7v,W6.pv] at c1;simp only[p1,p2,s1,a0x,↓reduceIte,Q3,Q6,Qm,Q9,Qa,Nat.reduceAdd,Qr,Qs,Qt,a0c,Q1,Q0,Q4,Q5,Qn,if_pos q1,if_pos q3,hloc,hloc2,a2g,c1,hz];by_cases h3:v<u
     ·have e3:ltB v u=true:=a0Q.2 h3
      have e4:decide (u<=v)=false:=dF0 (by omega);simp only[e3,e4,↓reduceIte,Q2,Q1,Q0,a0m,or_true,Qp]
     ·have e3:ltB v u=false:=a0F.2 h3
      have e4:decide (u<=v)=true:=dT0 (by omega);cases hzz:x.w.isZ with
      | false =>
       simp only[e3,e4,↓reduceIte,Q2,Q0,Qh,Q8,Qd,Bool.true_or];have:=rcc false false false;exact this
      | true =>
       cases hv0:eqB v 0 with
       | false=>simp only[e3,e4,↓reduceIte,Q2,Q1,Q0,Qe,Q8,a0m,or_true,Qd,Bool.or_self,Qp]
       | true =>
        simp only[e3,e4,↓reduceIte,Q2,Q0,Qh,Qe,Qd,Bool.or_true];have:=rcc true true false;exact this
    ·rw[if_neg hlt,show i=l.length by omega,Qw (by simp[hvl])]
     simp only[↓reduceIte,Q2,Q1,Q0,a0m,or_true,List.all_nil]
   ·rw[Sys.loop,show d8T.loops[1]?=some d9g from rfl]
    simp only[Q0,d9g,↓reduceIte,PT.ev,BE.safe,BE.pe,IE.pe,PEnv.at,Q3,Q6,Qf,Qg,a0p,a0a,a0P,Q9,Qa,Nat.reduceAdd,Q2,a0l,a0g,Q1,Q0,PEnv.push,Q4,Q5,SV.pvs,SV.pv,BE.all,Qh,Qj,Qk,a0x,decide_eq_true_eq];by_cases hlt:k<l.length
    ·obtain⟨y,hy⟩:∃x,l[k]?=some x:=⟨_,Qb hlt⟩
     obtain⟨u,hu⟩:∃x,vals[k]?=some x:=⟨_,Qb (by omega)⟩;rw[if_pos hlt,a5T (e0r hy hu),List.all_cons];have hloc:=a1d (off:=0) hP (b0w hy);have hloc2:=a1d (off:=0) hV (d9z hu);have hloc3:=a1d (off:=0) hV (d9z hv);have hil:=(Qy.1 hx).1;have hxo:=hok x (Q7 hx);have hyo:=hok y (Q7 hy);have c1:=c9o σ x y hxo hyo n (by omega);have v1:=hvo v (Q7 hv);have v2:=hvo u (Q7 hu);simp only[d9k,decide_eq_true_eq] at v1 v2;have q1:(leB 0 (k:Int)&&decide (k<l.length))=true:=by simp[leB,hlt]
     have q3:(leB 0 (k:Int)&&decide (k<vals.length))=true:=by simp[leB];omega
     have q4:(leB 0 (i:Int)&&decide (i<vals.length))=true:=by simp[leB];omega
     have q2:(leB (-9223372036854775808) ((k:Int)+1)&&leB ((k:Int)+1) 9223372036854775807)=true:=by simp[leB];omega
     have q5:(leB (-9223372036854775808) (u-v)&&leB (u-v) 9223372036854775807)=true:=by simp[leB];omega
     have rcc:=ih.2 i (k+1) x v b0 b1 b2 hx hv (by omega) (by omega);rw[show ((k+1:Nat):Int)=(k:Int)+1 from by omega] at rcc;simp only[e0f] at rcc ⊢;generalize b3p x y=gg at *
     simp only[b4F,a2g] at c1;simp only[p1,s1,a0x,↓reduceIte,Q3,Q6,Qm,Q9,Qa,Nat.reduceAdd,Qr,Qs,Qt,a0c,Q1,Q0,Q4,Q5,Qn,if_pos q1,if_pos q3,if_pos q4,if_pos q5,hloc,hloc2,hloc3,a2g,c1];by_cases h3:gg<u-v
     ·have e3:ltB gg (u-v)=true:=a0Q.2 h3
      have e4:decide (u-v<=gg)=false:=dF0 (by omega);simp only[e3,e4,↓reduceIte,Q2,Q1,Q0,a0m,or_true,Qp]
     ·have e3:ltB gg (u-v)=false:=a0F.2 h3
      have e4:decide (u-v<=gg)=true:=dT0 (by omega);simp only[e3,e4,↓reduceIte,Q2,Q0,if_pos q2,Qd];exact rcc
    ·have hk:k=l.length:=by omega
     rw[if_neg hlt,hk,Qw (by simp[hvl])];have hil:=(Qy.1 hx).1;have q2:(leB (-9223372036854775808) ((i:Int)+1)&&leB ((i:Int)+1) 9223372036854775807)=true:=by simp[leB];omega
     have rcc:=ih.1 (i+1) (by omega) (by omega);rw[show ((i+1:Nat):Int)=(i:Int)+1 from by omega] at rcc;simp only[Q0,if_pos q2,List.all_nil,Qd];exact rcc
 simp only[a0b,d9F,Q0,Sys.run];show ((a0f [.sh (.one _),.sh (.one _)] _).bind _)=_;simp only[a0f,a0g,a0c,Q1,Q0,Qn,Q5,Q4,if_true,p3,s3];show (PT.ev _ d9j _).bind _=_;simp only[d9j,↓reduceIte,PT.ev,BE.safe,BE.pe,IE.pe,PEnv.at,Q3,Q6,Qf,Qg,Q1,Q0,SV.pvs,SV.pv,BE.all,Qj,Qk,p1,p2,s1,s2];have hee:eqB (vals.length:Int) (l.length:Int)=decide (vals.length=l.length):=by unfold eqB;congr 1;rw[eq_iff_iff];omega
 by_cases hvl:vals.length=l.length
 ·have h0:=(loops hvl n).1 0 (Qq _) (by omega)
  have he2:eqB (l.length:Int) (l.length:Int)=true:=by rw[hvl] at hee;rw[hee];exact dT0 rfl
  simp only[↓reduceIte,Q2,Q0,Qe,he2,hvl,decide_true,Qd];simpa[d9K] using h0
 ·simp only[↓reduceIte,Q2,Q1,Q0,Q8,hee,hvl,decide_false,a0m,or_true,Qp]
theorem e0p(σ:List MO)(l:List Ch)(P:PV)(hP:P.rowsOf 12=some (l.map Ch.row))(cyc vals:List Int)(C V:PV)(hC:C.rowsOf 1=some (d9P cyc))(hV:V.rowsOf 1=some (d9P vals))(hl:l.length<=30)(n:Nat)(hn:cyc.length+vals.length+1320<=n)(hc:cyc.length<=1000000)(hv:vals.length<=1000000) :
  a0b Tab n d9r [P,.agg [C,V]] σ=some (.int .i64 (d9v l cyc vals),σ):=by
 obtain⟨n,rfl⟩:∃k,n=k+1:=⟨n-1,by omega⟩;obtain⟨p1,p2,p3⟩:=a0i hP;obtain⟨r1,r2,r3⟩:=a0i hC;obtain⟨s1,s2,s3⟩:=a0i hV;rw[Qv] at p1;rw[e0g] at r1 s1;have c1:=d3j σ l P hP n (by omega) (by omega);have c2:=e0y σ l P hP cyc vals C V hC hV n (by omega) (by omega) (by omega);simp only[b1t,d9B] at c1 c2;simp only[a0b,d9U,Q0,Sys.run];show ((a0f [.sh (.one _),.sh (.agg [_,_])] _).bind _)=_;simp only[a0f,a0g,a0c,Q1,Q0,Qn,Q5,Q4,if_true,p3,r3,s3];show (PT.ev _ d9u _).bind _=_;simp only[d9u,↓reduceIte,PT.ev,BE.safe,BE.pe,IE.pe,PEnv.at,Q3,Q6,Qf,Qg,a0c,a0l,a0g,Q1,Q0,PEnv.push,Q4,Q5,SV.pvs,SV.pv,BE.all,Qj,Qk,c1];by_cases ha:(l.all fun x=>decide x.ok)=true
 case neg =>
  rw[Bool.not_eq_true] at ha;have hd:d9v l cyc vals=4:=by unfold d9v;rw[ha];rfl
  rw[ha,hd];simp only[↓reduceIte,Q2,Q1,Q0,Q8,a0m,or_true]
 rw[ha];simp only[↓reduceIte,Q3,Q6,Q2,a0c,Q1,Q0,Q4,Q5,Qe,c2];cases hf:d9x l.length cyc vals with
 | false =>
  have hd:d9v l cyc vals=2:=by unfold d9v;rw[ha,hf];rfl
  rw[hd];simp only[↓reduceIte,Q2,Q1,Q0,Q8,a0m,or_true]
 | true =>
  have hok:∀x∈l,x.ok:=fun x hx=>by simpa using (Qu.1 ha) x hx
  simp only[d9x,Qz] at hf;have hcy:∀z∈cyc,d9e l.length z=true:=Qu.1 hf.1.2;have hva:∀z∈vals,d9k z=true:=Qu.1 hf.2;have hf':d9x l.length cyc vals=true:=by simp only[d9x,Qz];exact hf
  simp only[↓reduceIte,Q2,Qe,r1,r2];by_cases h0:cyc.length=0
  ·have c3:=e0z σ l P hP vals V hV hl hok hva n (by omega)
   have e0:eqB (cyc.length:Int) 0=true:=by rw[h0];rfl
   simp only[d9A] at c3;simp only[↓reduceIte,Q3,a0c,Q1,Q0,e0,c3];have hd:d9v l cyc vals=if (decide (vals.length=l.length)&&d9K (l.zip vals))=true then 0 else 13:=by unfold d9v;rw[ha,hf',if_pos rfl,if_pos rfl,if_pos h0]
   rw[hd];generalize (decide (vals.length=l.length)&&d9K (l.zip vals))=q;cases q<;>simp only[↓reduceIte,Q2,Q1,Q0,Qe,Q8,a0m,or_true]
  ·have e0:eqB (cyc.length:Int) 0=false:=by rw[c4s];omega
   simp only[↓reduceIte,Q2,Q0,e0];have hd:d9v l cyc vals=if 0<=d8W l cyc cyc.length then 13 else 0:=by unfold d9v;rw[ha,hf',if_pos rfl,if_pos rfl,if_neg h0]
   have loop:∀(fuel i:Nat),cyc.length-i<fuel->i<=cyc.length->d8Y.loop (a0b Tab n) fuel 0 {i:=[d8W l cyc i,(cyc.length:Int),(i:Int)],b:=[],v:=[P,C,V],m:=σ,k:=σ.length}=some (.int .i64 (d9v l cyc vals),σ):=by
    intro fuel
    induction fuel with
    | zero=>intro i h;omega
    | succ fuel ihf =>
     intro i h1 h2;rw[Sys.loop,show d8Y.loops[0]?=some d9n from rfl];simp only[Q0,d9n,↓reduceIte,PT.ev,BE.safe,BE.pe,IE.pe,PEnv.at,Q3,Q6,Qf,Qg,a0p,a0a,a0P,Q9,Qa,Nat.reduceAdd,Q2,a0l,a0g,Q1,Q0,PEnv.push,Q4,Q5,SV.pvs,SV.pv,BE.all,Qh,Qj,Qk,a0x,decide_eq_true_eq];by_cases hlt:i<cyc.length
     ·have hj:(i+1) % cyc.length<cyc.length:=Nat.mod_lt _ (by omega)
      have m1:cyc[i]?=some cyc[i]:=Qb hlt;have m2:cyc[(i+1) % cyc.length]?=some cyc[(i+1) % cyc.length]:=Qb hj;obtain⟨k1,z1,l1,e1⟩:=d9J (hcy _ (Q7 m1));obtain⟨k2,z2,l2,e2⟩:=d9J (hcy _ (Q7 m2));have g:=ihf (i+1) (by omega) (by omega);rw[show ((i+1:Nat):Int)=(i:Int)+1 from by omega] at g;have b1:=e0n hok hcy i (by omega);have b2:=e0n hok hcy (i+1) (by omega);simp only[d8W,d9T,m1,m2,Option.getD_some] at g b2;have c4:=c9o σ _ _ (hok _ (Q7 e1)) (hok _ (Q7 e2)) n (by omega);have d1:=a1d (off:=0) hC (d9z m1);have d2:=a1d (off:=0) hC (d9z m2);have d3:=a1d (off:=0) hP (b0w e1);have d4:=a1d (off:=0) hP (b0w e2);generalize b1R l cyc[i]=x at *
      generalize b1R l cyc[(i+1) % cyc.length]=y at *
      generalize b3p x y=gg at *
      rw[z1] at d1;rw[z2] at d2;generalize d8W l cyc i=acc at *
      generalize hj':(i+1) % cyc.length=j at *
      have t1:=e0P i cyc.length;rw[hj'] at t1;have q1:(leB 0 (i:Int)&&decide (i<cyc.length))=true:=by simp[leB,hlt]
      have q2:(leB (-9223372036854775808) ((i:Int)+1)&&leB ((i:Int)+1) 9223372036854775807)=true:=by simp[leB];omega
      have q3:(leB 0 (k1:Int)&&decide (k1<l.length))=true:=by simp[leB,l1]
      have q4:(leB 0 (k2:Int)&&decide (k2<l.length))=true:=by simp[leB,l2]
      have q5:(leB 0 (j:Int)&&decide (j<cyc.length))=true:=by simp[leB,hj]
      have q6:(leB (-9223372036854775808) (acc+gg)&&leB (acc+gg) 9223372036854775807)=true:=by simp[leB];omega
      simp only[b4F,a2g] at c4;rw[if_pos hlt];simp only[p1,r1,r2,a0x,↓reduceIte,Q3,Q6,Qm,Q9,Qa,Nat.reduceAdd,Qr,Qs,Qt,a0c,Q1,Q0,Q4,Q5,Q8,t1,e0,if_pos q1,if_pos q2,if_pos q3,if_pos q4,if_pos q5,if_pos q6,d1,d2,d3,d4,a2g,c4];exact g
     ·rw[if_neg hlt,hd]
      obtain rfl:i=cyc.length:=by omega
      by_cases h3:0<=d8W l cyc cyc.length
      ·have e3:leB 0 (d8W l cyc cyc.length)=true:=a2H.2 h3
       rw[if_pos h3];simp only[↓reduceIte,Q2,Q1,Q0,e3,a0m,or_true]
      ·have e3:leB 0 (d8W l cyc cyc.length)=false:=b0K.2 h3
       rw[if_neg h3];simp only[↓reduceIte,Q2,Q1,Q0,e3,a0m,or_true]
   have g:=loop n 0 (by omega) (Qq _);simpa[d8W] using g
end Go.Proofs.Ytmekflfjaflmkaa
