/- Units of a group in a bundle: the code's and the reference's. -/
import Derived.Test.YtmekflfjaflmkaaGreatHRva
import Derived.Test.YtmekflfjaflmkaaGreatHTxd
set_option linter.unusedSimpArgs false
set_option linter.unusedVariables false
set_option linter.unusedSectionVars false
open Option renaming bind_some → Q0, map_some → Q2, getD_none → QC, getD_some → QH, bind_eq_bind → QK, pure_def → QL
open List renaming replicate → Q1, getD_cons_zero → Q3, getElem?_cons_zero → Q4, getElem?_cons_succ → Q5, getD_cons_succ → Q6, map_nil → Q7, map_cons → Qa, range → Qb, nil_append → Qd, cons_append → Qg, length_cons → Qh, length_nil → Qj, take_succ_cons → Qn, take_zero → Qp, append_nil → Qq, mem_range → Qr, mem_map → Qt, drop_zero → Qu, length_map → Qv, mem_of_getElem? → Qw, append_assoc → QD, range_succ → QE, mapM_cons → QJ, replicate_succ' → QM, set_append_right → QN
open Nat renaming add_zero → Q8, zero_add → Qf, mul_one → Qk, le_refl → Qm, le_add_left → Qs, zero_mul → Qy, succ_mul → Qz, mul_le_mul → QA
open Bool renaming false_eq_true → Q9, and_self → Qe, not_false → QB
set_option maxRecDepth 100000
namespace Go.Proofs.YtmekflfjaflmkaaGreat
open Go.Sx
def un(g:Int)(x:Pr):Int:=if eqB x.g g=true then 1 else 0
def unV(l:List Pr)(g:Int)(w:W6):Int:=if eqB (b1e l) 0=true then(if eqB (b5t w) 0=true then ptS (un g) l w l.length else 0) else 0
def W6.put(w:W6)(i v:Int):W6:=if i=0 then {w with a:=v} else if i=1 then {w with b:=v} else if i=2 then {w with c:=v} else if i=3 then {w with d:=v} else if i=4 then {w with e:=v} else {w with f:=v}
def W6.at6(w:W6)(i:Int):Int:=if i=0 then w.a else if i=1 then w.b else if i=2 then w.c else if i=3 then w.d else if i=4 then w.e else w.f
def d2S(p:W6×W6)(t:Tri):W6×W6:=(p.1.put t.x (p.1.at6 t.x-t.z),p.2.put t.x t.y)
def shF(ps:List Pr)(ad:List Tri):W6×W6:=ad.foldl d2S (a4K ps,⟨0,0,0,0,0,0⟩)
section
variable (σ:List MO)(ad:List Tri)(P B C A:PV)(hA:A.rowsOf 3=some (ad.map Tri.row))(n:Nat)
end
section
variable (σ:List MO)(ps:List Pr)(bs:List Bd)(cs ad:List Tri)(P B C A:PV)(hP:P.rowsOf 5=some (ps.map Pr.row))(hB:B.rowsOf 4=some (bs.map Bd.row))(hC:C.rowsOf 3=some (cs.map Tri.row))(hA:A.rowsOf 3=some (ad.map Tri.row))(n:Nat)
end
def oc(c bc b:Int):Int:=if eqB c 0=true then 0 else if eqB c bc=true then 0 else b
def d6p(c:W6)(bc:Int)(b:W6):W6:=⟨oc c.a bc b.a,oc c.b bc b.b,oc c.c bc b.c,oc c.d bc b.d,oc c.e bc b.e,oc c.f bc b.f⟩
def W6.le(a b:W6):Prop:=a.a<=b.a/\a.b<=b.b/\a.c<=b.c/\a.d<=b.d/\a.e<=b.e/\a.f<=b.f
instance (a b:W6):Decidable (a.le b):=by unfold W6.le;infer_instance
section
variable (σ:List MO)(bs:List Bd)(P B C A:PV)(hB:B.rowsOf 4=some (bs.map Bd.row))(n:Nat)
end
section
variable (σ:List MO)(l:List Pr)(P:PV)(hP:P.rowsOf 5=some (l.map Pr.row))(n:Nat)(w:W6)
end
def d2r(ps:List Pr)(i:Int)(b:W6)(c:Tri):Bool:=(eqB c.x (-1)||eqB c.x i)&&ltB c.z (unV ps c.y b)
def d3G(ps:List Pr)(i:Int)(b:W6)(l:List Tri):Int:=if l.any (d2r ps i b)=true then 14 else 0
section
variable (σ:List MO)(ps:List Pr)(cs:List Tri)(P B C A:PV)(hP:P.rowsOf 5=some (ps.map Pr.row))(hC:C.rowsOf 3=some (cs.map Tri.row))(n:Nat)(hcl:cs.length<=16)
end
def d5E(ps:List Pr)(bs:List Bd)(cs ad:List Tri)(i:Int)(b:W6):Int :=
 if ltB i 0=true then 6 else if leB (bs.length:Int) i=true then 6 else if b.ok then
  if b.le (a4K ps)/\(d6p (shF ps ad).2 (((bs[i.toNat]?).map Bd.c).getD 0) b).le (shF ps ad).1 then d3G ps i b cs else 14
 else 4
def hit(c bc b o s:Int):Bool:=ltB s b||(!(eqB c 0)&&(!(eqB c bc)&&ltB o b))
theorem c4w{ps:List Pr}{bs:List Bd}{cs ad:List Tri}(hv:a4Q ps bs cs ad=0):b1e ps=0/\b3l bs=0/\cs.length<=16/\asV ps ad=0:=by
 unfold a4Q at hv;by_cases h1:b1e ps=0
 ·rw[if_pos h1] at hv
  by_cases h2:b3l bs=0
  ·rw[if_pos h2] at hv
   by_cases h3:b4s (bs.length:Int) cs=0
   ·rw[if_pos h3] at hv
    refine⟨h1,h2,?_,hv⟩;unfold b4s at h3;split at h3
    ·cases h3
    ·rename_i h;rw[Bool.not_eq_true,a0p] at h;omega
   ·rw[if_neg h3] at hv;exact absurd hv h3
  ·rw[if_neg h2] at hv;exact absurd hv h2
 ·rw[if_neg h1] at hv;exact absurd hv h1
section
variable (σ:List MO)(ps:List Pr)(bs:List Bd)(cs ad:List Tri)(P B C A:PV)(hP:P.rowsOf 5=some (ps.map Pr.row))(hB:B.rowsOf 4=some (bs.map Bd.row))(hC:C.rowsOf 3=some (cs.map Tri.row))(hA:A.rowsOf 3=some (ad.map Tri.row))(n:Nat)
end
section
variable (σ:List MO)(bs:List Bd)(P B C A:PV)(hB:B.rowsOf 4=some (bs.map Bd.row))(n:Nat)
end
section
variable (σ:List MO)(ps:List Pr)(bs:List Bd)(cs ad:List Tri)(P B C A:PV)(hP:P.rowsOf 5=some (ps.map Pr.row))(hB:B.rowsOf 4=some (bs.map Bd.row))(hC:C.rowsOf 3=some (cs.map Tri.row))(hA:A.rowsOf 3=some (ad.map Tri.row))(n:Nat)
end
def d7l(ps:List Pr)(l:List Ch)(a:Int):Int:=l.foldl (fun m x=>mnI m (d7f ps x.w)) a
def d7k(s:St)(i:Int)(l:List Ch):Int:=if d7a s i=true then d7l s.ps l (((s.bs[i.toNat]?).map Bd.p).getD 0) else 0
def d6Y(w:W6):Bool:=eqB w.a 0&&(eqB w.b 0&&(eqB w.c 0&&(eqB w.d 0&&(eqB w.e 0&&eqB w.f 0))))
def d7n(l:List Ch):Bool:=match l.getLast? with|some x=>d6Y x.w|none=>false
open Go.Sx Go.Bf
def a1A(f:Nat->Int)(z j k:Nat):List Int:=(Qb k).map fun i=>(a0F f z (j+i):Int)
theorem c3f(f:Nat->Int)(z j:Nat):a1A f z j 0=[]:=rfl
theorem a9W(f:Nat->Int)(z j k:Nat):(a1A f z j k).length=k:=by simp[a1A]
theorem c2t(f:Nat->Int)(z j k:Nat):a1A f z j (k+1)=a1A f z j k++[(a0F f z (j+k):Int)]:=by simp[a1A,QE]
theorem b9u{f:Nat->Int}{z j k:Nat}{x:Int}:x∈a1A f z j k↔∃i,i<k/\x=(a0F f z (j+i):Int):=by
 simp only[a1A,Qt,Qr];constructor
 ·rintro⟨i,h,rfl⟩;exact⟨i,h,rfl⟩
 ·rintro⟨i,h,rfl⟩;exact⟨i,h,rfl⟩
theorem d0x{f:Nat->Int}{z k:Nat}(hn:((Qb k).map (a0F f z)).Nodup){a b:Nat}(ha:a<k)(hb:b<k)(e:a0F f z a=a0F f z b):a=b:=by
 have ga:((Qb k).map (a0F f z))[a]?=some (a0F f z a):=by simp[ha]
 have gb:((Qb k).map (a0F f z))[b]?=some (a0F f z a):=by simp[hb,e]
 exact(List.getElem?_inj (by simpa using ha) hn).1 (by rw[ga,gb])
section
variable (σ:List MO)(n:Nat)(h:Nat)(fl:List Int)(T:Nat)(hm:σ[h]?=some (.cells (a0Z fl) T))
variable {g:Nat->Nat->Int}{v:Nat->Int}{c t:Nat->Nat}{z:Nat}(hf:Go.Bf.Fin fl.length g v (at' fl) c t z)
def st0(k:Nat):PEnv:={i:=[(a0F (at' fl) z k:Int)],b:=[],v:=[.msl h 0 fl.length fl.length 1,.mp σ.length],m:=σ++[.mp (a1A (at' fl) z 0 k) (Q1 k (.bool true)) .i64],k:=σ.length}
def st1(w:PV)(m:List MO)(x:Nat):PEnv:={i:=[(x:Int)],b:=[],v:=[.msl h 0 fl.length fl.length 1,.mp σ.length,w],m:=σ++m,k:=σ.length}
include hm hf in
theorem c7O(k fuel:Nat)(hk:k<=fl.length)(hn:((Qb k).map (a0F (at' fl) z)).Nodup) :
  (a0F (at' fl) z k∉(Qb k).map (a0F (at' fl) z)->a0q.loop (a0a Tab n) (fuel+1) 0 (st0 σ h fl (z:=z) k)=a0q.loop (a0a Tab n) fuel 0 (st0 σ h fl (z:=z) (k+1))) /\
  (a0F (at' fl) z k∈(Qb k).map (a0F (at' fl) z)->a0q.loop (a0a Tab n) (fuel+1) 0 (st0 σ h fl (z:=z) k)=a0q.loop (a0a Tab n) fuel 1 (st1 σ h fl .nilS [.mp [] [] .i64] (a0F (at' fl) z k))):=by
 have hl:=b9O (a1A (at' fl) z 0 k) (.bool true) (a0F (at' fl) z k:Int);rw[a9W] at hl
 have hmem:((a0F (at' fl) z k:Int)∈a1A (at' fl) z 0 k)↔a0F (at' fl) z k∈(Qb k).map (a0F (at' fl) z):=by
  rw[b9u,Qt];constructor
  ·rintro⟨i,hi,e⟩;exact⟨i,Qr.2 hi,by rw[Qf] at e;omega⟩
  ·rintro⟨i,hi,e⟩;exact⟨i,Qr.1 hi,by rw[Qf,e]⟩
 constructor
 ·intro hx
  have hx':=fun q=>hx (hmem.1 q)
  rw[if_neg hx'] at hl;have hp:=c6i (a1A (at' fl) z 0 k) (.bool true) (a0F (at' fl) z k:Int) hx';rw[a9W] at hp;have hkn:=hf.short hk hn hx;have a1:=hf.at_lt k (by omega);have hlink:=(hf.link hkn).1;have hk1:=c2t (at' fl) z 0 k;rw[Qf] at hk1;rw[st0,st0,hk1];rw[Sys.loop,show a0q.loops[0]?=some a3I from rfl];generalize a0F (at' fl) z (k+1)=y at *
  generalize a0F (at' fl) z k=x at *
  have hg:fl[x]?=some (y:Int):=by rw[c0h a1.1,hlink]
  have hd:=b2o hg;have he:=a6j (h:=h) (o:=0) (cap:=fl.length) (sz:=1) (off:=0) a1.1;have q1:(leB 0 (x:Int)&&decide (x<fl.length))=true:=by simp[leB,a1.1]
  have gm:=fun r=>c7c (r:=r) hm
  simp only[Q0,a3I,↓reduceIte,PT.ev,BE.safe,BE.pe,IE.pe,PEnv.at,Q3,Q6,Q4,Q5,a0y,a0b,a1d,Q8,Qh,Qj,Q9,Qn,Qp,a0c,a0r,a0l,Q2,Q0,PEnv.push,Qg,Qd,SV.pvs,SV.pv,BE.all,Qe,QB,Qa,Q7,b8m,b7t,hl,hp,QC,PV.len,a0o,if_pos q1,he,gm,MO.list,Qk,Qf,hd,Qs]
 ·intro hx
  rw[if_pos (hmem.2 hx)] at hl;rw[st0,st1];rw[Sys.loop,show a0q.loops[0]?=some a3I from rfl];simp only[Q0,a3I,↓reduceIte,PT.ev,BE.safe,BE.pe,IE.pe,PEnv.at,Q3,Q6,Q4,Q5,a0y,a0b,a1d,Qh,Qj,Nat.reduceAdd,Q9,a0c,a0r,a0l,Q2,Q0,PEnv.push,Qg,Qd,SV.pvs,SV.pv,BE.all,Qe,Bool.not_true,Qa,Q7,b8m,b7t,hl,QH]
include hm hf in
theorem d5D(d:Nat):∀k,fl.length-k<=d->k<=fl.length->((Qb k).map (a0F (at' fl) z)).Nodup->∃j k',k<=k'/\j<k'/\k'<=fl.length/\((Qb k').map (a0F (at' fl) z)).Nodup/\a0F (at' fl) z k'=a0F (at' fl) z j /\
  ∀fuel,a0q.loop (a0a Tab n) (fuel+(k'-k)+1) 0 (st0 σ h fl (z:=z) k)=a0q.loop (a0a Tab n) fuel 1 (st1 σ h fl .nilS [.mp [] [] .i64] (a0F (at' fl) z j)):=by
 induction d with
 | zero =>
  intro k h1 h2 hn;by_cases hx:a0F (at' fl) z k∈(Qb k).map (a0F (at' fl) z)
  ·obtain⟨j,hj,e⟩:=Qt.1 hx
   refine⟨j,k,Qm _,Qr.1 hj,h2,hn,e.symm,fun fuel=>?_⟩;rw[Nat.sub_self,Q8,(c7O σ n h fl T hm hf k fuel h2 hn).2 hx,e]
  ·have:=hf.short h2 hn hx;omega
 | succ d ih =>
  intro k h1 h2 hn;by_cases hx:a0F (at' fl) z k∈(Qb k).map (a0F (at' fl) z)
  ·obtain⟨j,hj,e⟩:=Qt.1 hx
   refine⟨j,k,Qm _,Qr.1 hj,h2,hn,e.symm,fun fuel=>?_⟩;rw[Nat.sub_self,Q8,(c7O σ n h fl T hm hf k fuel h2 hn).2 hx,e]
  ·have hk:=hf.short h2 hn hx
   have hn1:((Qb (k+1)).map (a0F (at' fl) z)).Nodup:=by
    rw[QE,List.map_append,List.nodup_append];refine⟨hn,by simp,?_⟩;intro a ha b hb;simp only[Qa,Q7,List.mem_singleton] at hb;rintro rfl;subst hb;exact hx ha
   obtain⟨j,k',e1,e2,e3,e4,e5,e6⟩:=ih (k+1) (by omega) (by omega) hn1;refine⟨j,k',by omega,e2,e3,e4,e5,fun fuel=>?_⟩;rw[show fuel+(k'-k)+1=(fuel+(k'-(k+1))+1)+1 by omega,(c7O σ n h fl T hm hf k _ h2 hn).1 hx,e6]
def b0f(j k:Nat):List MO:=.mp (a1A (at' fl) z j k) (Q1 k (.bool true)) .i64::(if k=0 then [] else [.row (a3l (a1A (at' fl) z j k)) 1 3])
def b1r(k:Nat):PV:=if k=0 then .nilS else .rsl (σ.length+1) k 1
include hm hf in
theorem d4X(j L k fuel:Nat)(hfl:fl.length<=1000)(hk:k<L)(hL:j+L<=fl.length)(hn:((Qb (j+L)).map (a0F (at' fl) z)).Nodup) :
  a0q.loop (a0a Tab n) (fuel+1) 1 (st1 σ h fl (b1r σ k) (b0f fl (z:=z) j k) (a0F (at' fl) z (j+k)))=a0q.loop (a0a Tab n) fuel 1 (st1 σ h fl (b1r σ (k+1)) (b0f fl (z:=z) j (k+1)) (a0F (at' fl) z (j+k+1))):=by
 have hl:=b9O (a1A (at' fl) z j k) (.bool true) (a0F (at' fl) z (j+k):Int);rw[a9W] at hl
 have hx':¬((a0F (at' fl) z (j+k):Int)∈a1A (at' fl) z j k):=by
  rw[b9u];rintro⟨i,hi,e⟩;have:=d0x hn (a:=j+k) (b:=j+i) (by omega) (by omega) (by omega);omega
 rw[if_neg hx'] at hl;have hp:=c6i (a1A (at' fl) z j k) (.bool true) (a0F (at' fl) z (j+k):Int) hx';rw[a9W] at hp;have a1:=hf.at_lt (j+k) (by omega);have hlink:=(hf.link (i:=j+k) (by omega)).1;have hk1:=c2t (at' fl) z j k;have hrl:(a3l (a1A (at' fl) z j k)).length=k:=by simp[a3l,a9W]
 have hrs:a3l (a1A (at' fl) z j (k+1))=a3l (a1A (at' fl) z j k)++[[.int .i64 (a0F (at' fl) z (j+k):Int)]]:=by rw[hk1];simp[a3l]
 have gm:=fun r=>c7c (r:=r) hm
 have hb1:b1r σ (k+1)=.rsl (σ.length+1) (k+1) 1:=if_neg (by omega);have hb2:b0f fl (z:=z) j (k+1)=[.mp (a1A (at' fl) z j (k+1)) (Q1 (k+1) (.bool true)) .i64,.row (a3l (a1A (at' fl) z j (k+1))) 1 3]:=by rw[b0f,if_neg (by omega)]
 rw[hb1,hb2,hrs,hk1,st1,st1];rw[Sys.loop,show a0q.loops[1]?=some a2Q from rfl];generalize a0F (at' fl) z (j+k+1)=y at *
 generalize a0F (at' fl) z (j+k)=x at *
 have hg:fl[x]?=some (y:Int):=by rw[c0h a1.1,hlink]
 have hd:=b2o hg;have he:=a6j (h:=h) (o:=0) (cap:=fl.length) (sz:=1) (off:=0) a1.1;have q1:(leB 0 (x:Int)&&decide (x<fl.length))=true:=by simp[leB,a1.1]
 by_cases hk0:k=0
 ·subst hk0
  simp only[b1r,b0f,if_true];simp only[c3f] at hl hp;simp only[Q0,a2Q,↓reduceIte,PT.ev,BE.safe,BE.pe,IE.pe,PEnv.at,Q3,Q6,Q4,Q5,a0y,a0b,a1d,Q8,Qh,Qj,Q9,Qn,Qp,a0c,a0r,a0l,Q2,Q0,PEnv.push,Qg,Qd,Qq,SV.pvs,SV.pv,BE.all,Qe,QB,Qa,Q7,b8m,b7t,d4s,d3Q,hl,hp,QC,PV.len,a1o,QJ,List.mapM_nil,QK,QL,PV.rowsOf,Nat.reduceLeDiff,Nat.succ_ne_zero,a0o,if_pos q1,he,gm,MO.list,Qk,Qf,hd,Qs,a3l,c3f,Q7]
 ·have hb3:b1r σ k=.rsl (σ.length+1) k 1:=if_neg hk0
  have hb4:b0f fl (z:=z) j k=[.mp (a1A (at' fl) z j k) (Q1 k (.bool true)) .i64,.row (a3l (a1A (at' fl) z j k)) 1 3]:=by rw[b0f,if_neg hk0]
  rw[hb3,hb4];have q2:k+1<=1000000:=by omega
  have o1:(1<=1000000)=True:=eq_true (by decide);have o2:(1=0)=False:=eq_false (by decide);simp only[Q0,a2Q,↓reduceIte,PT.ev,BE.safe,BE.pe,IE.pe,PEnv.at,Q3,Q6,Q4,Q5,a0y,a0b,a1d,Q8,Qh,Qj,Q9,Qn,Qp,a0c,a0r,a0l,Q2,Q0,PEnv.push,Qg,Qd,Qq,SV.pvs,SV.pv,BE.all,Qe,QB,Qa,Q7,b8m,b7t,c0b,c5l,hl,hp,QC,PV.len,a1o,QJ,List.mapM_nil,QK,QL,PV.rowsOf,hrl,q2,o1,o2,and_self,a0o,if_pos q1,he,gm,MO.list,Qk,Qf,hd,Qs]
include hm hf in
theorem d5R(j L:Nat)(hfl:fl.length<=1000)(hL:j+L<=fl.length)(hn:((Qb (j+L)).map (a0F (at' fl) z)).Nodup):∀d k,k+d=L->∀fuel,
  a0q.loop (a0a Tab n) (fuel+d) 1 (st1 σ h fl (b1r σ k) (b0f fl (z:=z) j k) (a0F (at' fl) z (j+k)))=a0q.loop (a0a Tab n) fuel 1 (st1 σ h fl (b1r σ L) (b0f fl (z:=z) j L) (a0F (at' fl) z (j+L))):=by
 intro d
 induction d with
 | zero=>intro k hk fuel;rw[Q8] at hk;subst hk;rfl
 | succ d ih =>
  intro k hk fuel;rw[show fuel+(d+1)=(fuel+d)+1 from rfl,d4X σ n h fl T hm hf j L k _ hfl (by omega) hL hn];exact ih (k+1) (by omega) fuel
def st2(ys:List Int)(i:Nat):PEnv:={i:=[(ys.length:Int),(i:Int)],b:=[],v:=[.rsl (σ.length+1) ys.length 1,.msl (σ.length+2) 0 ys.length ys.length 1],m:=σ++[.mp ys (Q1 ys.length (.bool true)) .i64,.row (a3l ys) 1 3,.cells (a0Z (Q1 (ys.length-i) 0++(ys.take i).reverse)) 3],k:=σ.length}
theorem d4N(ys:List Int)(i fuel:Nat)(hy:ys.length<=1000)(hi:i<ys.length) :
  a0q.loop (a0a Tab n) (fuel+1) 2 (st2 σ ys i)=a0q.loop (a0a Tab n) fuel 2 (st2 σ ys (i+1)):=by
 obtain⟨y,hy'⟩:∃y,ys[i]?=some y:=⟨_,List.getElem?_eq_getElem hi⟩;have hir:(a3l ys)[i]?=some [.int .i64 y]:=by simp[a3l,hy']
 have hrl:(a3l ys).length=ys.length:=by simp[a3l]
 have hrep:(Q1 (ys.length-i) 0++(ys.take i).reverse).set (ys.length-1-i) y=Q1 (ys.length-(i+1)) 0++(ys.take (i+1)).reverse:=by
  rw[List.take_add_one,hy',show ys.length-i=(ys.length-(i+1))+1 by omega,QM,QD,show ys.length-1-i=(Q1 (ys.length-(i+1)) (0:Int)).length by simp;omega];rw[QN _ _ (Qm _)];simp
 have hlen:(Q1 (ys.length-i) 0++(ys.take i).reverse).length=ys.length:=by simp;omega
 have hset:=b4q (l:=Q1 (ys.length-i) 0++(ys.take i).reverse) (i:=ys.length-1-i) y (by rw[hlen];omega);rw[hrep] at hset;rw[st2,st2,Sys.loop,show a0q.loops[2]?=some a3K from rfl];have hcl:(a0Z (Q1 (ys.length-i) 0++(ys.take i).reverse)).length=ys.length:=by rw[b4D,hlen]
 generalize a0Z (Q1 (ys.length-i) 0++(ys.take i).reverse)=o at *
 generalize a0Z (Q1 (ys.length-(i+1)) 0++(ys.take (i+1)).reverse)=o' at *
 have q1:(leB 0 (i:Int)&&true)=true:=by simp[leB]
 have q2:(leB (-9223372036854775808) ((ys.length:Int)-1)&&leB ((ys.length:Int)-1) 9223372036854775807)=true:=by simp[leB];omega
 have e1:(ys.length:Int)-1-(i:Int)=((ys.length-1-i:Nat):Int):=by omega
 have q3:(leB (-9223372036854775808) ((ys.length-1-i:Nat):Int)&&leB ((ys.length-1-i:Nat):Int) 9223372036854775807)=true:=by simp[leB];omega
 have q4:(leB 0 ((ys.length-1-i:Nat):Int)&&decide (ys.length-1-i<ys.length))=true:=by simp[leB];omega
 have q5:(leB (-9223372036854775808) ((i:Int)+1)&&leB ((i:Int)+1) 9223372036854775807)=true:=by simp[leB];omega
 have l1:=c9s (h:=σ.length+1) (sz:=1) (off:=0) hi;have l2:=a6j (h:=σ.length+2) (o:=0) (cap:=ys.length) (sz:=1) (off:=0) (i:=ys.length-1-i) (len:=ys.length) (by omega);have hle:ys.length-1-i+1<=ys.length:=by omega
 have e2:((i+1:Nat):Int)=(i:Int)+1:=by omega
 have hd:decide (i<ys.length)=true:=dT0 hi;generalize ys.length-1-i=w at *
 simp only[Q0,a3K,↓reduceIte,PT.ev,BE.safe,BE.pe,IE.pe,PEnv.at,Q3,Q6,Q4,Q5,a0y,a0b,a1d,Q8,Qu,Qh,Qj,Qm,Q9,Qn,Qp,a0c,Q2,Q0,PEnv.push,Qg,Qd,SV.pvs,SV.pv,BE.all,Qe,Qa,Q7,a0o,hd,PV.len,PV.isKind,if_pos q1,if_pos q2,e1,if_pos q3,if_pos q4,if_pos q5,l1,l2,c0b,d1i,d3a,MO.elts,hrl,hir,and_self,hcl,hle,Qk,Qf,hset,e2]
theorem d5H(ys:List Int)(hy:ys.length<=1000):∀d i,i+d=ys.length->∀fuel,
  a0q.loop (a0a Tab n) (fuel+d) 2 (st2 σ ys i)=a0q.loop (a0a Tab n) fuel 2 (st2 σ ys ys.length):=by
 intro d
 induction d with
 | zero=>intro i hi fuel;rw[Q8] at hi;subst hi;rfl
 | succ d ih =>
  intro i hi fuel;rw[show fuel+(d+1)=(fuel+d)+1 from rfl,d4N σ n ys i _ hy (by omega)];exact ih (i+1) (by omega) fuel
theorem d5h(hσ:b9P σ)(ys:List Int)(fuel:Nat):a0q.loop (a0a Tab n) (fuel+1) 2 (st2 σ ys ys.length)=some (.sl 1 (a3l ys.reverse),σ):=by
 have hd:decide (ys.length<ys.length)=false:=by simp
 have hz:Q1 (ys.length-ys.length) (0:Int)++(ys.take ys.length).reverse=ys.reverse:=by simp
 have hl:ys.length=ys.reverse.length:=by simp
 have hr:=c6Q ys.reverse;rw[st2,hz,Sys.loop,show a0q.loops[2]?=some a3K from rfl];simp only[Q0,a3K,↓reduceIte,PT.ev,BE.safe,BE.pe,IE.pe,Q3,Q6,Q4,Q5,Q9,Q0,SV.pv,a0o,hd];have hm3:(σ++[.mp ys (Q1 ys.length (.bool true)) .i64,.row (a3l ys) 1 3,.cells (a0Z ys.reverse) 3]:List MO).length=σ.length+3:=by simp
 have h1:¬(false=true\/σ.length+3=σ.length):=by simp
 have h2:¬(σ.length+2<σ.length):=by omega
 rw[<- hl] at hr;simp only[a0g,hm3,List.take_left',hσ σ.length,PV.frz,if_neg h2,a4I,d1i,c8l,MO.list,hr,↓reduceIte,Qu,Qm,Q9,Q2,Q0,];simp[]
end
theorem c9R(σ:List MO)(hσ:b9P σ)(h:Nat)(fl:List Int)(T:Nat)(hm:σ[h]?=some (.cells (a0Z fl) T))(hfl:fl.length<=1000)
  {g:Nat->Nat->Int} {v:Nat->Int} {c t:Nat->Nat} {z:Nat} (hf:Go.Bf.Fin fl.length g v (at' fl) c t z) (n:Nat) (hnn:fl.length*3+10<=n) :
  ∃j k,j<k/\k<=fl.length/\a0F (at' fl) z k=a0F (at' fl) z j /\
   a0a Tab n b2U [.msl h 0 fl.length fl.length 1,.int .i64 (z:Int)] σ=some (.sl 1 (a3l (a1A (at' fl) z j (k-j)).reverse),σ):=by
 obtain⟨n,rfl⟩:∃k,n=k+1:=⟨n-1,by omega⟩;obtain⟨j,k,_,hjk,hk,hn,he,h0⟩:=d5D σ n h fl T hm hf fl.length 0 (by omega) (Nat.zero_le _) (by simp);refine⟨j,k,hjk,hk,he,?_⟩;have hl:=a9W (at' fl) z j (k-j);have h1:=fun fuel=>d5R σ n h fl T hm hf j (k-j) hfl (by omega) (by rw[show j+(k-j)=k by omega];exact hn) (k-j) 0 (by omega) fuel
 have h2:=fun fuel=>d5H σ n (a1A (at' fl) z j (k-j)) (by omega) (k-j) 0 (by omega) fuel
 have h3:=d5h σ n hσ (a1A (at' fl) z j (k-j))
 have hc:∀fuel,a0q.loop (a0a Tab n) (fuel+1) 1 (st1 σ h fl (b1r σ (k-j)) (b0f fl (z:=z) j (k-j)) (a0F (at' fl) z (j+(k-j))))=a0q.loop (a0a Tab n) fuel 2 (st2 σ (a1A (at' fl) z j (k-j)) 0):=by
  intro fuel;have hk0:k-j≠0:=by omega
  have hb3:b1r σ (k-j)=.rsl (σ.length+1) (k-j) 1:=if_neg hk0;have hb4:b0f fl (z:=z) j (k-j)=[.mp (a1A (at' fl) z j (k-j)) (Q1 (k-j) (.bool true)) .i64,.row (a3l (a1A (at' fl) z j (k-j))) 1 3]:=by rw[b0f,if_neg hk0]
  have hlk:=b9O (a1A (at' fl) z j (k-j)) (.bool true) (a0F (at' fl) z k:Int);rw[hl,if_pos (b9u.2 ⟨0,by omega,by rw[he];rfl⟩)] at hlk;have hrep:=c9Q (k-j) 0;have hle:(k-j:Nat)<=1000000:=by omega
  rw[hb3,hb4,show j+(k-j)=k by omega,st1,st2,Sys.loop,show a0q.loops[1]?=some a2Q from rfl,hl];generalize a1A (at' fl) z j (k-j)=ks at *
  have e1:Q1 (k-j-0) (0:Int)++(ks.take 0).reverse=Q1 (k-j) 0:=by simp
  have q1:(0<=((k-j:Nat):Int)/\((k-j:Nat):Int)<=1000000/\(8:Nat)<=100000000):=⟨by omega,by omega,by omega⟩;rw[e1];generalize k-j=L at *
  have hm2:∀A B:MO,(σ++[A,B]).length=σ.length+2:=fun A B=>by simp
  have hm3:∀A B C:MO,(σ++[A,B])++[C]=σ++[A,B,C]:=fun A B C=>by simp
  simp only[Q0,a2Q,↓reduceIte,PT.ev,BE.safe,BE.pe,IE.pe,PEnv.at,Q3,Q6,Q4,Q5,a0y,a0b,a1d,Qh,Qj,Nat.reduceAdd,Q9,a0c,a0r,a0l,Q2,Q0,PEnv.push,Qg,Qd,SV.pvs,SV.pv,BE.all,Qe,Bool.not_true,Qa,Q7,b8m,b7t,hlk,QH,PV.isKind,PV.len,Int.toNat_natCast,if_pos q1,hrep,hm2,hm3];rfl
 have e0:st0 σ h fl (z:=z) 0={i:=[(z:Int)],b:=[],v:=[.msl h 0 fl.length fl.length 1,.mp σ.length],m:=σ++[.mp [] [] .i64],k:=σ.length}:=rfl;have e1:st1 σ h fl .nilS [.mp [] [] .i64] (a0F (at' fl) z j)=st1 σ h fl (b1r σ 0) (b0f fl (z:=z) j 0) (a0F (at' fl) z (j+0)):=rfl
 have tot:a0q.loop (a0a Tab n) n 0 (st0 σ h fl (z:=z) 0)=some (.sl 1 (a3l (a1A (at' fl) z j (k-j)).reverse),σ):=by
  have hfu:n=(((((n-k-(k-j)-(k-j)-3)+1)+(k-j))+1)+(k-j))+(k-0)+1:=by omega
  rw[hl] at h3;generalize n-k-(k-j)-(k-j)-3=fu at *
  have hx:=h0 (((((fu)+1)+(k-j))+1)+(k-j));rw[<- hfu] at hx;rw[hx,e1,h1,hc,h2,hl];exact h3 fu
 rw[e0] at tot;simp only[a0a,b9F,Q0,Sys.run];show ((a0i [.sh (.one _),.sh (.one _)] _).bind _)=_;simp only[a0i,a0l,a0c,Q2,Q0,Qq,Qd,if_true,PV.one];show (PT.ev _ a9N _).bind _=_;simp only[a9N,PT.ev,IE.pe,Q3,Q4,Q5,Q2,Q0,Qg,Qd,SV.pvs,SV.pv,BE.all,Qa,Q7];exact tot
def ch0:Ch:=⟨⟨0,0,0,0,0,0⟩,⟨0,0,0,0,0,0⟩⟩
def b9n(l:List Ch)(z:Int):Ch:=(l[z.toNat]?).getD ch0
def lst(σ:List MO)(P:PV)(N:Nat)(vs fs:List Int)(is:List Int):PEnv :=
 {i:=is,b:=[],v:=[P,.msl σ.length 0 N N 1,.msl (σ.length+1) 0 N N 1],m:=σ++[.cells (a0Z vs) 2,.cells (a0Z fs) 3],k:=σ.length}
def gN(l:List Ch)(x y:Nat):Int:=b2c (b9n l (x:Int)) (b9n l (y:Int))
theorem chN{l:List Ch}{x:Nat}(h:x<l.length):l[x]?=some (b9n l (x:Int)):=by simp[b9n,h]
theorem d1c(h o len cap sz:Nat):(PV.msl h o len cap sz).len=len:=rfl
theorem d5j(σ:List MO)(l:List Ch)(P:PV)(hP:P.rowsOf 12=some (l.map Ch.row))(hok:∀x∈l,x.ok)(hl:l.length<=1000)(n:Nat)(hn:2<=n)(vs fs:List Int)(hvs:vs.length=l.length)(hfs:fs.length=l.length)
  (ch r:Int) (a b fuel:Nat) (ha:a<l.length) (hb:b<l.length) (h1:-1000000000000<=at' vs a/\at' vs a<=1000000000000) :
  a0n.loop (a0a Tab n) (fuel+1) 3 (lst σ P l.length vs fs [ch,(a:Int),(l.length:Int),r,(l.length:Int),(l.length:Int),(b:Int)]) =
   if at' vs a+gN l a b<at' vs b then a0n.loop (a0a Tab n) fuel 3 (lst σ P l.length (vs.set b (at' vs a+gN l a b)) (fs.set b (a:Int)) [(b:Int),(a:Int),(l.length:Int),r,(l.length:Int),(l.length:Int),((b+1:Nat):Int)])
   else a0n.loop (a0a Tab n) fuel 3 (lst σ P l.length vs fs [ch,(a:Int),(l.length:Int),r,(l.length:Int),(l.length:Int),((b+1:Nat):Int)]):=by
 obtain⟨p1,p2,p3⟩:=a0d hP;rw[Qv] at p1;have ex:=chN ha;have ey:=chN hb;have hxo:=hok _ (Qw ex);have hyo:=hok _ (Qw ey);have gb:=c7k hxo hyo;have c1:=c9c (σ++[.cells (a0Z vs) 2,.cells (a0Z fs) 3]) _ _ hxo hyo n hn;have lx:=a0z (off:=0) hP (c6h ex);have ly:=a0z (off:=0) hP (c6h ey);have dva:=b2o (c0h (l:=vs) (i:=a) (by omega));have dvb:=b2o (c0h (l:=vs) (i:=b) (by omega));have ma:=a6j (h:=σ.length) (o:=0) (cap:=l.length) (sz:=1) (off:=0) ha;have mb:=a6j (h:=σ.length) (o:=0) (cap:=l.length) (sz:=1) (off:=0) hb;have mb2:=a6j (h:=σ.length+1) (o:=0) (cap:=l.length) (sz:=1) (off:=0) hb;have hgN:gN l a b=b2c (b9n l (a:Int)) (b9n l (b:Int)):=rfl;rw[hgN];generalize b9n l (a:Int)=x at *
 generalize b9n l (b:Int)=y at *
 generalize b2c x y=gg at *
 generalize hw:at' vs a+gg=w at *
 have sv:=b4q (l:=vs) (i:=b) w (by omega);have sf:=b4q (l:=fs) (i:=b) (a:Int) (by omega);have lv:b+1<=(a0Z vs).length:=by rw[b4D];omega
 have lf:b+1<=(a0Z fs).length:=by rw[b4D];omega
 generalize hV':a0Z (vs.set b w)=V' at *
 generalize hF':a0Z (fs.set b (a:Int))=F' at *
 have q1:(leB 0 (a:Int)&&decide (a<l.length))=true:=by simp[leB,ha]
 have q2:(leB 0 (b:Int)&&decide (b<l.length))=true:=by simp[leB,hb]
 have q2':(leB 0 (b:Int)&&true)=true:=by simp[leB]
 have q3:(leB (-9223372036854775808) w&&leB w 9223372036854775807)=true:=by simp[leB];omega
 have q4:(leB (-9223372036854775808) ((b:Int)+1)&&leB ((b:Int)+1) 9223372036854775807)=true:=by simp[leB];omega
 have e2:((b+1:Nat):Int)=(b:Int)+1:=by omega
 have o1:((1:Nat)<=1)=True:=eq_true (by decide);simp only[b4m,b6H] at c1;rw[e2];by_cases hlt:w<at' vs b
 ·have e3:ltB w (at' vs b)=true:=a0W.2 hlt
  have hev:a1p.ev (a0a Tab n) (lst σ P l.length vs fs [ch,(a:Int),(l.length:Int),r,(l.length:Int),(l.length:Int),(b:Int)])=some (.jump 3 {i:=[(b:Int),(a:Int),(l.length:Int),r,(l.length:Int),(l.length:Int),(b:Int)+1],b:=[],v:=[P,.msl σ.length 0 l.length l.length 1,.msl (σ.length+1) 0 l.length l.length 1],m:=σ++[.cells V' 2,.cells F' 3],k:=σ.length}):=by
   unfold a1p;have hd:decide (b<l.length)=true:=dT0 hb
   repeat' (first|with_reducible rfl|apply b2C|simp only[↓reduceIte,a0e,a0f,a0V,a0K,b7H,a0m,BE.safe,BE.pe,IE.pe,PEnv.at,Q3,Q6,Q4,Q5,a0y,a0b,a1d,Q8,Qu,Qh,Qj,Nat.reduceAdd,Qm,Q9,Qn,Qp,a0c,a0r,a0l,Q2,Q0,PEnv.push,Qg,Qd,Qq,SV.pvs,SV.pv,BE.all,Qe,Qa,Q7,lst,hd,if_pos q2',p1,d1c,a0o,if_pos q1,if_pos q3,if_pos q4,lx,ly,ma,mb,mb2,b6H,c1,b8m,c0b,b7t,c5l,MO.list,Qk,Qf,dva,dvb,Qs,hw,e3,lv,lf,sv,sf]|unfold a4C|unfold a4D)
  rw[if_pos hlt,Sys.loop,show a0n.loops[3]?=some a1p from rfl,Q0,hev,Q0];simp only[lst,hV',hF']
 ·have e3:ltB w (at' vs b)=false:=a0p.2 hlt
  have hev:a1p.ev (a0a Tab n) (lst σ P l.length vs fs [ch,(a:Int),(l.length:Int),r,(l.length:Int),(l.length:Int),(b:Int)])=some (.jump 3 (lst σ P l.length vs fs [ch,(a:Int),(l.length:Int),r,(l.length:Int),(l.length:Int),(b:Int)+1])):=by
   unfold a1p;have hd:decide (b<l.length)=true:=dT0 hb
   repeat' (first|with_reducible rfl|apply b2C|simp only[↓reduceIte,a0e,a0f,a0V,a0K,b7H,a0m,BE.safe,BE.pe,IE.pe,PEnv.at,Q3,Q6,Q4,Q5,a0y,a0b,a1d,Q8,Qu,Qh,Qj,Nat.reduceAdd,Qm,Q9,Qn,Qp,a0c,a0r,a0l,Q2,Q0,PEnv.push,Qg,Qd,Qq,SV.pvs,SV.pv,BE.all,Qe,Qa,Q7,lst,hd,if_pos q2',p1,d1c,a0o,if_pos q1,if_pos q3,if_pos q4,lx,ly,ma,mb,mb2,b6H,c1,b8m,c0b,b7t,c5l,MO.list,Qk,Qf,dva,dvb,Qs,hw,e3]|unfold a4C|unfold a4D)
  rw[if_neg hlt,Sys.loop,show a0n.loops[3]?=some a1p from rfl,Q0,hev,Q0]
structure LS (l:List Ch)(vs fs:List Int)(ch:Int)(T R a b:Nat):Prop where
 hv:vs.length=l.length
 hf:fs.length=l.length
 inv:∃c t,Inv l.length (gN l) (at' vs) (at' fs) c t T R a b/\((ch=-1/\∀x,x<l.length->c x≠R)\/∃z:Nat,z<l.length/\ch=(z:Int)/\c z=R)
theorem c7d{l:List Int}{b:Nat}(x:Int)(h:b<l.length):at' (l.set b x)=upd (at' l) b x:=by
 funext i;rw[d2b x h];rfl
theorem d2a(l:List Ch)(x:Nat):gN l x x=0:=by unfold gN b2c;omega
theorem d4B{l:List Ch}(hok:∀x∈l,x.ok){x y:Nat}(hx:x<l.length)(hy:y<l.length):-24000000<=gN l x y/\gN l x y<=24000000 :=
 c7k (hok _ (Qw (chN hx))) (hok _ (Qw (chN hy)))
section
variable (σ:List MO)(l:List Ch)(P:PV)(hP:P.rowsOf 12=some (l.map Ch.row))(hok:∀x∈l,x.ok)(hl:l.length<=30)(n:Nat)(hn:2<=n)
include hP hok hl hn in
theorem d2F(r:Int)(vs fs:List Int)(ch:Int)(T R a b:Nat)(h:LS l vs fs ch T R a b)(hR:1<=R)(hT:T+1<=27000)(ha:a<l.length)(hb:b<l.length) :
  ∃vs' fs' ch',LS l vs' fs' ch' (T+1) R a (b+1)/\∀fuel,a0n.loop (a0a Tab n) (fuel+1) 3 (lst σ P l.length vs fs [ch,(a:Int),(l.length:Int),r,(l.length:Int),(l.length:Int),(b:Int)]) =
   a0n.loop (a0a Tab n) fuel 3 (lst σ P l.length vs' fs' [ch',(a:Int),(l.length:Int),r,(l.length:Int),(l.length:Int),((b+1:Nat):Int)]):=by
 obtain⟨hv,hf,c,t,hi,hch⟩:=h;have hlow:=hi.low a ha;have step:=fun fuel=>d5j σ l P hP hok (by omega) n hn vs fs hv hf ch r a b fuel ha hb (by omega)
 by_cases hlt:at' vs a+gN l a b<at' vs b
 ·simp only[if_pos hlt] at step
  refine⟨_,_,_,⟨by simp[hv],by simp[hf],upd c b R,upd t b (T+1),?_,.inr ⟨b,hb,rfl,d2D _ _ _⟩⟩,step⟩;rw[c7d _ (by omega),c7d _ (by omega)];exact hi.lower ha hb hR (d4B hok ha hb).1 (d2a l a) hlt
 ·simp only[if_neg hlt] at step
  exact⟨vs,fs,ch,⟨hv,hf,c,t,hi.keep (by omega),hch⟩,step⟩
include hP hok hl hn in
theorem d5B(r:Int)(R a:Nat)(hR:1<=R)(ha:a<l.length):∀d b vs fs ch T,b+d=l.length->LS l vs fs ch T R a b->T+d<=27000 ->
  ∃vs' fs' ch',LS l vs' fs' ch' (T+d) R (a+1) 0/\∀fuel,a0n.loop (a0a Tab n) (fuel+d+1) 3 (lst σ P l.length vs fs [ch,(a:Int),(l.length:Int),r,(l.length:Int),(l.length:Int),(b:Int)]) =
   a0n.loop (a0a Tab n) fuel 2 (lst σ P l.length vs' fs' [ch',(l.length:Int),r,(l.length:Int),((a+1:Nat):Int)]):=by
 intro d
 induction d with
 | zero =>
  intro b vs fs ch T hb h hT;obtain rfl:b=l.length:=by omega
  obtain⟨hv,hf,c,t,hi,hch⟩:=h;refine⟨vs,fs,ch,⟨hv,hf,c,t,hi.row,hch⟩,fun fuel=>?_⟩;have hd:decide (l.length<l.length)=false:=by simp
  have q4:(leB (-9223372036854775808) ((a:Int)+1)&&leB ((a:Int)+1) 9223372036854775807)=true:=by simp[leB];omega
  rw[Q8,Sys.loop,show a0n.loops[3]?=some a1p from rfl];simp only[Q0,a1p,↓reduceIte,a0e,a0f,a0m,BE.safe,BE.pe,IE.pe,Q3,Q6,Q4,Q5,Q9,Q2,Q0,SV.pvs,SV.pv,BE.all,Qe,Qa,Q7,lst,a0o,hd,if_pos q4,show ((a+1:Nat):Int)=(a:Int)+1 from by omega]
 | succ d ih =>
  intro b vs fs ch T hb h hT;obtain⟨vs1,fs1,ch1,h1,s1⟩:=d2F σ l P hP hok hl n hn r vs fs ch T R a b h hR (by omega) ha (by omega);obtain⟨vs2,fs2,ch2,h2,s2⟩:=ih (b+1) vs1 fs1 ch1 (T+1) (by omega) h1 (by omega);refine⟨vs2,fs2,ch2,by rw[show T+(d+1)=T+1+d by omega];exact h2,fun fuel=>?_⟩;rw[show fuel+(d+1)+1=(fuel+d+1)+1 by omega,s1,s2]
include hP hok hl hn in
theorem d4z(r:Int)(R:Nat)(hR:1<=R):∀d a vs fs ch T,a+d=l.length->LS l vs fs ch T R a 0->T+d*l.length<=27000 ->
  ∃vs' fs' ch',LS l vs' fs' ch' (T+d*l.length) R l.length 0/\∀fuel,a0n.loop (a0a Tab n) (fuel+d*(l.length+2)) 2 (lst σ P l.length vs fs [ch,(l.length:Int),r,(l.length:Int),(a:Int)]) =
   a0n.loop (a0a Tab n) fuel 2 (lst σ P l.length vs' fs' [ch',(l.length:Int),r,(l.length:Int),(l.length:Int)]):=by
 intro d;obtain⟨p1,p2,p3⟩:=a0d hP;rw[Qv] at p1
 induction d with
 | zero =>
  intro a vs fs ch T ha h hT;obtain rfl:a=l.length:=by omega
  refine⟨vs,fs,ch,by rw[Qy,Q8];exact h,fun fuel=>?_⟩;rw[Qy,Q8]
 | succ d ih =>
  intro a vs fs ch T ha h hT;have e1:(d+1)*l.length=d*l.length+l.length:=Qz _ _;have e2:(d+1)*(l.length+2)=d*(l.length+2)+(l.length+2):=Qz _ _;obtain⟨vs1,fs1,ch1,h1,s1⟩:=d5B σ l P hP hok hl n hn r R a hR (by omega) l.length 0 vs fs ch T (by omega) h (by omega);obtain⟨vs2,fs2,ch2,h2,s2⟩:=ih (a+1) vs1 fs1 ch1 (T+l.length) (by omega) h1 (by omega);refine⟨vs2,fs2,ch2,by rw[e1,show T+(d*l.length+l.length)=T+l.length+d*l.length by omega];exact h2,fun fuel=>?_⟩;rw[e2,show fuel+(d*(l.length+2)+(l.length+2))=((fuel+d*(l.length+2))+l.length+1)+1 by omega,<- s2,<- s1];have hd:decide (a<l.length)=true:=dT0 (by omega);rw[Sys.loop,show a0n.loops[2]?=some a1Q from rfl];simp only[Q0,a1Q,↓reduceIte,a0e,a0f,a0m,BE.safe,BE.pe,IE.pe,PEnv.at,Q3,Q6,Q4,Q5,Q2,Q0,SV.pvs,SV.pv,BE.all,Qa,Q7,lst,a0o,hd,p1,p2];rfl
end
structure LR (l:List Ch)(vs fs:List Int)(ch:Int)(T r:Nat):Prop where
 hv:vs.length=l.length
 hf:fs.length=l.length
 inv:∃c t,Inv l.length (gN l) (at' vs) (at' fs) c t T (r+1) 0 0/\(∀x,x<l.length->c x<=r)/\((r=0/\ch=-1)\/∃z:Nat,z<l.length/\ch=(z:Int)/\c z=r)
def d2y(σ:List MO)(l:List Ch)(res:PV×List MO):Prop :=
 (∃vs fs:List Int,vs.length=l.length/\fs.length=l.length/\(∀x y,x<l.length->y<l.length->at' vs y<=at' vs x+gN l x y)/\(∀x,x<l.length->-648000000000<=at' vs x/\at' vs x<=0) /\
  res=(.tup [.msl σ.length 0 l.length l.length 1,.nilS],σ++[.cells (a0Z vs) 2,.cells (a0Z fs) 3])) \/
 (∃(vs fs:List Int) (c t:Nat->Nat) (z j k:Nat),vs.length=l.length/\fs.length=l.length/\Go.Bf.Fin l.length (gN l) (at' vs) (at' fs) c t z/\j<k/\k<=l.length/\a0F (at' fs) z k=a0F (at' fs) z j /\
  res=(.tup [.nilS,.sl 1 (a3l (a1A (at' fs) z j (k-j)).reverse)],σ++[.cells (a0Z vs) 2,.cells (a0Z fs) 3]))
section
variable (σ:List MO)(hσ:b9P σ)(l:List Ch)(P:PV)(hP:P.rowsOf 12=some (l.map Ch.row))(hok:∀x∈l,x.ok)(hl:l.length<=30)(n:Nat)(hn:110<=n)
theorem d1X(x:Nat)(T:Nat)(hT:T<=27000)(v:Int)(h:-(24000000*(T:Int))<=v/\v<=0):-648000000000<=v/\v<=0:=by omega
include hσ hP hok hl hn in
theorem b2M:∀d r vs fs ch T,r+d=l.length->LR l vs fs ch T r->T<=r*(l.length*l.length) ->
  ∃res,d2y σ l res/\∀fuel,a0n.loop (a0a Tab n) (fuel+d*(l.length*(l.length+2)+2)+1) 1 (lst σ P l.length vs fs [ch,(l.length:Int),(r:Int)])=some res:=by
 intro d;obtain⟨p1,p2,p3⟩:=a0d hP;rw[Qv] at p1
 have hNN:l.length*(l.length*l.length)<=27000:=by
  calc l.length*(l.length*l.length)<=30*(30*30):=QA hl (QA hl hl)
   _=27000:=rfl
 induction d with
 | zero =>
  intro r vs fs ch T hr h hT;obtain rfl:r=l.length:=by omega
  obtain⟨hv,hf,c,t,hi,hc,hch⟩:=h;have hd:decide (l.length<l.length)=false:=by simp
  rcases hch with ⟨h0,rfl⟩|⟨z,hz,rfl,hcz⟩
  ·refine⟨_,.inl ⟨vs,fs,hv,hf,fun x y hx=>by omega,fun x hx=>by omega,rfl⟩,fun fuel=>?_⟩
   have e1:ltB (-1) 0=true:=rfl;rw[Qy,Q8,Sys.loop,show a0n.loops[1]?=some a1S from rfl];simp only[Q0,a1S,↓reduceIte,a0j,a0e,BE.safe,BE.pe,IE.pe,Q3,Q6,Q4,Q5,Q9,Q2,Q0,SV.pvs,SV.pv,lst,a0o,hd,e1,a0g,true_or]
  ·have hfin:Go.Bf.Fin l.length (gN l) (at' vs) (at' fs) c t z:=⟨hi.par,hi.uniq,hz,by omega⟩
   have e1:ltB (z:Int) 0=false:=by rw[a0p];omega
   have hfl:b9P (σ++[.cells (a0Z vs) 2,.cells (a0Z fs) 3]):=by
    have:=(hσ.snoc vs 2).snoc fs 3;rw[QD] at this;exact this
   rw[<- hf] at hfin;obtain⟨j,k,hjk,hk,he,hev⟩:=c9R (σ++[.cells (a0Z vs) 2,.cells (a0Z fs) 3]) hfl (σ.length+1) fs 3 (c0b _ _ _ _) (by omega) hfin n (by omega);rw[hf] at hfin hev;refine⟨_,.inr ⟨vs,fs,c,t,z,j,k,hv,hf,hfin,hjk,by omega,he,rfl⟩,fun fuel=>?_⟩;simp only[b2U] at hev;have ho:∀rows,(PV.sl 1 rows).one=true:=fun _=>rfl
   rw[Qy,Q8,Sys.loop,show a0n.loops[1]?=some a1S from rfl];simp only[Q0,a1S,↓reduceIte,a0j,a0e,a0K,BE.safe,BE.pe,IE.pe,Q3,Q6,Q4,Q5,Q9,a0c,a0r,a0l,Q2,Q0,PEnv.push,Qg,Qd,SV.pvs,SV.pv,lst,a0o,hd,e1,hev,ho,a0g,true_or]
 | succ d ih =>
  intro r vs fs ch T hr h hT;obtain⟨hv,hf,c,t,hi,hc,hch⟩:=h;have hT2:T+l.length*l.length<=(r+1)*(l.length*l.length):=by rw[Qz];omega
  have hT3:(r+1)*(l.length*l.length)<=l.length*(l.length*l.length):=Nat.mul_le_mul_right _ (by omega);have hLS:LS l vs fs (-1) T (r+1) 0 0:=⟨hv,hf,c,t,hi,.inl ⟨rfl,fun x hx=>by have:=hc x hx;omega⟩⟩;obtain⟨vs1,fs1,ch1,h1,s1⟩:=d4z σ l P hP hok hl n (by omega) (r:Int) (r+1) (by omega) l.length 0 vs fs (-1) T (by omega) hLS (by omega);obtain⟨hv1,hf1,c1,t1,hi1,hch1⟩:=h1;have hd:decide (r<l.length)=true:=dT0 (by omega);have hd2:decide (l.length<l.length)=false:=by simp
  have first:∀fuel,a0n.loop (a0a Tab n) ((fuel+l.length*(l.length+2))+1) 1 (lst σ P l.length vs fs [ch,(l.length:Int),(r:Int)])=a0n.loop (a0a Tab n) fuel 2 (lst σ P l.length vs1 fs1 [ch1,(l.length:Int),(r:Int),(l.length:Int),(l.length:Int)]):=by
   intro fuel;rw[<- s1,Sys.loop,show a0n.loops[1]?=some a1S from rfl];simp only[Q0,a1S,↓reduceIte,a0e,a0f,a0m,BE.safe,BE.pe,IE.pe,PEnv.at,Q3,Q6,Q4,Q5,Q2,Q0,SV.pvs,SV.pv,BE.all,Qa,Q7,lst,a0o,hd,p1,p2];rfl
  have e2:(d+1)*(l.length*(l.length+2)+2)=d*(l.length*(l.length+2)+2)+(l.length*(l.length+2)+2):=Qz _ _;rcases hch1 with ⟨rfl,hno⟩|⟨z,hz,rfl,hcz⟩
  ·have hst:=hi1.stable hno
   refine⟨_,.inl ⟨vs1,fs1,hv1,hf1,hst,fun x hx=>d1X x _ (by omega) _ (hi1.low x hx),rfl⟩,fun fuel=>?_⟩;have e1:ltB (-1) 0=true:=rfl;rw[e2,show fuel+(d*(l.length*(l.length+2)+2)+(l.length*(l.length+2)+2))+1=((fuel+d*(l.length*(l.length+2)+2)+1+1)+l.length*(l.length+2))+1 by omega,first];rw[Sys.loop,show a0n.loops[2]?=some a1Q from rfl];simp only[Q0,a1Q,↓reduceIte,a0j,a0e,BE.safe,BE.pe,IE.pe,Q3,Q6,Q4,Q5,Q9,Q2,Q0,SV.pvs,SV.pv,lst,a0o,hd2,e1,a0g,true_or]
  ·have e1:ltB (z:Int) 0=false:=by rw[a0p];omega
   have hLR:LR l vs1 fs1 (z:Int) (T+l.length*l.length) (r+1):=⟨hv1,hf1,c1,t1,hi1.round,hi1.cle,.inr ⟨z,hz,rfl,hcz⟩⟩;obtain⟨res,hres,hev⟩:=ih (r+1) vs1 fs1 (z:Int) _ (by omega) hLR hT2;refine⟨res,hres,fun fuel=>?_⟩;have q4:(leB (-9223372036854775808) ((r:Int)+1)&&leB ((r:Int)+1) 9223372036854775807)=true:=by simp[leB];omega
   rw[e2,show fuel+(d*(l.length*(l.length+2)+2)+(l.length*(l.length+2)+2))+1=((fuel+d*(l.length*(l.length+2)+2)+1+1)+l.length*(l.length+2))+1 by omega,first];rw[<- hev fuel,Sys.loop,show a0n.loops[2]?=some a1Q from rfl];simp only[Q0,a1Q,↓reduceIte,a0e,a0f,a0m,BE.safe,BE.pe,IE.pe,Q3,Q6,Q4,Q5,Q9,Q2,Q0,SV.pvs,SV.pv,BE.all,Qe,Qa,Q7,lst,a0o,hd2,e1,if_pos q4];rw[show ((r+1:Nat):Int)=(r:Int)+1 from by omega]
include hP hl in
theorem d6T:∀d i,i+d=l.length->∀fuel,a0n.loop (a0a Tab n) (fuel+d+1) 0 (lst σ P l.length (Q1 l.length 0) (Q1 i (-1)++Q1 d 0) [(l.length:Int),(i:Int)])=a0n.loop (a0a Tab n) fuel 1 (lst σ P l.length (Q1 l.length 0) (Q1 l.length (-1)) [-1,(l.length:Int),0]):=by
 intro d;obtain⟨p1,p2,p3⟩:=a0d hP;rw[Qv] at p1
 induction d with
 | zero =>
  intro i hi fuel;obtain rfl:i=l.length:=by omega
  have hd2:decide (l.length<l.length)=false:=by simp
  rw[Sys.loop,show a0n.loops[0]?=some a3b from rfl];simp only[Q0,a3b,↓reduceIte,a0e,a0f,a0m,BE.safe,BE.pe,IE.pe,PEnv.at,Q3,Q6,Q4,Q5,Q9,Q2,Q0,Qq,SV.pvs,SV.pv,BE.all,Qa,Q7,lst,a0o,hd2,p1,p2,List.replicate_zero]
 | succ d ih =>
  intro i hi fuel;have hd:decide (i<l.length)=true:=dT0 (by omega);have q1:(leB 0 (i:Int)&&true)=true:=by simp[leB]
  have q4:(leB (-9223372036854775808) ((i:Int)+1)&&leB ((i:Int)+1) 9223372036854775807)=true:=by simp[leB];omega
  have mb2:=a6j (h:=σ.length+1) (o:=0) (cap:=l.length) (sz:=1) (off:=0) (i:=i) (len:=l.length) (by omega)
  have hset:(Q1 i (-1:Int)++Q1 (d+1) 0).set i (-1)=Q1 (i+1) (-1)++Q1 d 0:=by
   rw[List.replicate_succ,QM,QD];have:=QN (s:=Q1 i (-1:Int)) (t:=0::Q1 d 0) i (-1) (by simp);rw[this];simp
  have sf:=b4q (l:=Q1 i (-1:Int)++Q1 (d+1) 0) (i:=i) (-1) (by simp);rw[hset] at sf;have lf:i+1<=(a0Z (Q1 i (-1:Int)++Q1 (d+1) 0)).length:=by rw[b4D];simp
  have:=ih (i+1) (by omega) fuel;rw[<- this,show fuel+(d+1)+1=(fuel+d+1)+1 by omega,Sys.loop,show a0n.loops[0]?=some a3b from rfl];generalize a0Z (Q1 l.length 0)=A at *
  simp only[lst];generalize a0Z (Q1 i (-1:Int)++Q1 (d+1) 0)=B at *
  generalize a0Z (Q1 (i+1) (-1:Int)++Q1 d 0)=B' at *
  simp only[Q0,a3b,↓reduceIte,a0e,a0f,b7H,a0m,BE.safe,BE.pe,IE.pe,PEnv.at,Q3,Q6,Q4,Q5,a0y,Q8,Qh,Qj,Q2,Q0,SV.pvs,SV.pv,BE.all,Qe,Qa,Q7,a0o,hd,d1c,if_pos q1,if_pos q4,mb2,c0b,c5l,Qk,Qf,lf,sf,show ((i+1:Nat):Int)=(i:Int)+1 from by omega]
end
section
variable (σ:List MO)(hσ:b9P σ)(l:List Ch)(P:PV)(hP:P.rowsOf 12=some (l.map Ch.row))(hok:∀x∈l,x.ok)(hl:l.length<=30)(n:Nat)(hn:110<=n)
variable (vs fs:List Int)(hvs:vs.length=l.length)(hb:∀x,x<l.length->-648000000000<=at' vs x/\at' vs x<=0)
end
section
variable (σ:List MO)(hσ:b9P σ)(N:Nat)(hN:N<=30)(n:Nat)(r:Int)(vs fs:List Int)(hvs:vs.length=N)(hr:0<=r/\r<=648024000000)(hb:∀x,x<N->-648000000000<=at' vs x/\at' vs x<=0)
end
section
variable (σ:List MO)(hσ:b9P σ)(l:List Ch)(P:PV)(hP:P.rowsOf 12=some (l.map Ch.row))(hl:l.length<=30)(n:Nat)(hn:30000<=n)
end
def Pot(l:List Ch):Prop:=∃π:Nat->Int,∀x y,x<l.length->y<l.length->π y<=π x+gN l x y
def w0:W6:=⟨0,0,0,0,0,0⟩
def d7b(l:List Ch):List W6:=w0::l.map Ch.w
def wa(W:List W6)(k:Nat):W6:=(W[k]?).getD w0
def chx(l:List Ch)(i:Nat):Ch:=(l[i]?).getD ⟨w0,w0⟩
theorem c9h{W:List W6}{i:Nat}{x:W6}(h:W[i]?=some x):wa W i=x:=by simp[wa,h]
section
variable (l:List Ch)
def d7i(q:Nat):Nat:=(q / (l.length+1)) % (l.length+1)
def d7j(q:Nat):Nat:=q % (l.length+1)
def d6X(q:Nat):Nat:=q / (l.length+1) / (l.length+1)
def qEd(q:Nat):Prop:=wa (d7b l) (d7j l q)=(chx l (d6X l q)).w
def qWt(q:Nat):Int:=b2j (chx l (d6X l q)).p (wa (d7b l) (d7i l q))-b2j (chx l (d6X l q)).p (chx l (d6X l q)).w
def qM:Nat:=l.length*(l.length+1)*(l.length+1)
end
theorem d7m{l:List Ch}(hl:l.length<=30):qM l<=28830:=by
 unfold qM
 calc l.length*(l.length+1)*(l.length+1)<=30*(30+1)*(30+1):=QA (QA hl (by omega)) (by omega)
  _=28830:=rfl
def CG(l:List Ch)(vs:List Int)(b:Bool)(T r q:Nat):Prop :=
 vs.length=l.length+1/\T+qM l<=q+r*28830/\∃c t pe,EInv (l.length+1) (qM l) (d7i l) (d7j l) (qEd l) (qWt l) (fun x=>-at' vs x) c t pe T r q/\(b=true↔∀x,x<l.length+1->c x≠r)
section
variable (l:List Ch)(hok:∀x∈l,x.ok)
include hok
end
theorem CG.next{l:List Ch}{vs:List Int}{b:Bool}{T r:Nat}(hl:l.length<=30)(h:CG l vs b T r (qM l)):CG l vs true T (r+1) 0:=by
 obtain⟨h0,h1,c,t,pe,h2,h3⟩:=h;have:=d7m hl;refine⟨h0,by omega,c,t,pe,h2.round,?_⟩;exact⟨fun _ x hx hc=>(by have:=h2.cle x hx;omega),fun _=>rfl⟩
section
variable (σ:List MO)(l:List Ch)(P:PV)(hP:P.rowsOf 12=some (l.map Ch.row))(hok:∀x∈l,x.ok)(hl:l.length<=30)(n:Nat)(hn:1<=n)
end
section
variable (σ:List MO)(hσ:b9P σ)(l:List Ch)(P:PV)(hP:P.rowsOf 12=some (l.map Ch.row))(hok:∀x∈l,x.ok)(hl:l.length<=30)(n:Nat)(hn:1<=n)
end
def d7c(s:St)(i:Int)(l:List Ch)(x:Ch):Bool:=leB (d7f s.ps x.w) (d7k s i l)
section
variable (σ:List MO)(s:St)(hs:s.Ok)(i:Int)(l:List Ch)(L:PV)(hL:L.rowsOf 12=some (l.map Ch.row))(hl:l.length<=29)(x:Ch)(n:Nat)
end
def d7o(s:St)(rule i:Int)(l:List Ch)(x:Ch)(ag:Bool):Int :=
 if (eqB rule 1||(eqB rule 2||eqB rule 3))=true then(if d7a s i=true then(if eqB (b5t x.w) 0=true then
  (if d7n l=true then(if d6Y x.w=true then 0 else 15) else(if (if eqB rule 1=true then d7c s i l x else if eqB rule 2=true then ag else(d7c s i l x||ag))=true then 0 else 15)) else b5t x.w) else 6) else 4
section
variable (σ:List MO)(s:St)(hs:s.Ok)(rule i:Int)(l:List Ch)(L:PV)(hL:L.rowsOf 12=some (l.map Ch.row))(hl:l.length<=29)(x:Ch)(n:Nat)(ag:Bool)
end
open Go.ChangeShapes Go.WideShapes Go.ChangeAt Go.RowKit Go.Sx
theorem d3F:w0.ok:=by simp[w0,W6.ok]
end Go.Proofs.YtmekflfjaflmkaaGreat
