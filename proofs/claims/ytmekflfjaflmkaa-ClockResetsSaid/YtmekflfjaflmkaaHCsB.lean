/- ClockResets: the law. -/
import Derived.Test.YtmekflfjaflmkaaHCsA
set_option linter.unusedSimpArgs false
set_option linter.unusedVariables false
set_option linter.unusedSectionVars false
open Option renaming bind_some → Q0, map_some → Q1
open List renaming cons_append → Q2, nil_append → Q3, getD_cons_zero → Q4, getD_cons_succ → Q5, getElem?_cons_zero → Q6, getElem?_cons_succ → Q7, map_cons → Q8, map_nil → Q9, append_nil → Qb, length_map → Qe, length_nil → Qj
open Bool renaming false_eq_true → Qa, and_self → Qd, not_true → Qg, not_false → Qh
open Int renaming tmod → Qf, tmod_eq_emod_of_nonneg → Qk
set_option maxRecDepth 100000
namespace Go.Proofs.Ytmekflfjaflmkaa
open Go.ChangeShapes Go.WideShapes Go.ChangeAt Go.RowKit Go.Sx
section
variable {s:St}{cs ad:List Tri}(hs:SuOk s cs ad)(hv:a7m s.ps s.bs cs ad=0){o:Po}(ho:o.ok)(n:Nat)(hn:33000<=n){h g:Nat}
include hs hv ho hn
theorem c2P{M:List MO}{F G:Nat->Prop}{c:Ck}(K:a4x s o M h F c)(L:a4x s o M g G c)(hd:∀x,F x->¬G x)(hM:Low M)(hk:CkOk s.bs.length c) :
  ∃M1 M2 O1 O2,a0b a4i n a2Y [.ref h 0] M=some (O1,M1)/\a0b a4i n a2Y [.ref g 0] M1=some (O2,M2)/\a0b a4i n a4X [O1,O2] M2=some (.bool true,M2)/\O1.one=true/\O2.one=true/\a4x s o M2 h F c/\a4x s o M2 g G c/\Low M2:=by
 have l8:=(SuOk.lens hv).2.2.1;have hrn:∀r∈c.cl,r.ask.length<=1000/\r.got.length<=1000/\r.bid.length<=1000:=fun r hr=>by obtain⟨_,h1,h2,h3,_⟩:=hk.rn r hr;omega
 have hcl:=hk.cl;obtain⟨_,_,_,_,_,q,_⟩:=id K;obtain⟨M1,O1,w1,e1,e2,e3,e4,e5,e6⟩:=c3b q hM hrn (by omega) n (by omega);have K1:=K.frame e3 fun x hx=>e2 x (K.bd x hx)
 have L1:=L.frame e3 fun x hx=>e2 x (L.bd x hx)
 obtain⟨_,_,_,_,_,q',_⟩:=id L1;obtain⟨M2,O2,w2,f1,f2,f3,f4,f5,f6⟩:=c3b q' e4 hrn (by omega) n (by omega);have K2:=K1.frame f3 fun x hx=>f2 x (K1.bd x hx)
 have L2:=L1.frame f3 fun x hx=>f2 x (L1.bd x hx)
 have r1:RRd M2 O1 c.cl:=c7r e5 (e6.frame fun x hx=>f2 x hx.2)
 have sm:=c8V r1 (c7r f5 f6) (N:=s.bs.length) (fun r hr=>by obtain⟨_,h1,h2,h3,_⟩:=hk.rn r hr;exact⟨h1,h2,h3⟩) (by omega) (by omega) n (by
  have:c.cl.length*(s.bs.length+2)<=30*10:=Nat.mul_le_mul hcl (by omega)
  omega)
 exact⟨M1,M2,O1,O2,evW e1,evW f1,evW sm,(a0i e5).2.2,(a0i f5).2.2,K2,L2,f4⟩
theorem d3f(aw:∀σ,a0b a4i n a0G [] σ=some (.bool true,σ)):∀d i,i+d=s.bs.length->∀(M:List MO) (F G:Nat->Prop) (c:Ck),a4x s o M h F c->a4x s o M g G c->(∀x,F x->¬G x)->Low M->CkOk s.bs.length c->∀fuel,d+1<=fuel ->
  a0A.loop (a0b a4i n) fuel 2 (rz2 M h g s (i:Int))=some (.bool true,[]):=by
 obtain⟨q1,q2,q3⟩:=a0i hs.B;rw[Qe] at q1;have p3:=(a0i hs.P).2.2;have c3:=(a0i hs.C).2.2;have a3:=(a0i hs.A).2.2;have l8:=(SuOk.lens hv).2.2.1;intro d
 induction d with
 | zero =>
  intro i hi M F G c K L hd hM hk fuel hf;obtain⟨fuel,rfl⟩:∃k,fuel=k+1:=⟨fuel-1,by omega⟩;obtain rfl:i=s.bs.length:=by omega
  obtain⟨M1,F1,d1,K1,a1⟩:=b7X hs hv ho K hM hk n (by omega);have L1:=L.frame a1.len fun x hx=>a1.keep x (L.bd x hx) fun hF=>hd x hF hx
  have hd1:∀x,F1 x->¬G x:=fun x hF hG=>by
   rcases a1.own x hF with h1|h1
   ·exact hd x h1 hG
   ·have:=L.bd x hG;omega
  obtain⟨M2,G2,d2,L2,a2⟩:=b7X hs hv ho L1 a1.low hk n (by omega);have K2:=K1.frame a2.len fun x hx=>a2.keep x (K1.bd x hx) (hd1 x hx)
  have hd2:∀x,F1 x->¬G2 x:=fun x hF hG=>by
   rcases a2.own x hG with h1|h1
   ·exact hd1 x hF h1
   ·have:=K1.bd x hF;omega
  have hk2:=c1F (s:=s) (o:=o) hk;obtain⟨M3,M4,O1,O2,e1,e2,e3,e4,e5,_⟩:=c2P hs hv ho n hn K2 L2 hd2 a2.low hk2;have d1:=evW d1;have d2:=evW d2;have aw0:=aw M4;generalize c.close s.ps o=cc at *
  obtain⟨c',x,f⟩:=cc;simp only[a4e,a2Y,a4X,a0G] at d1 d2 e1 e2 e3 aw0;have nl:ltB (s.bs.length:Int) (s.bs.length:Int)=false:=(a0F ..).2 (by omega);have e0:∀a:Int,eqB a a=true:=fun a=>dT0 rfl
  have eb:∀b:Bool,(b||!b)=true:=fun b=>by cases b<;>rfl
  refine c5K (t:=a2a) rfl ?_;simp only[a2a,rz2,↓reduceIte,a0j,a0d,a0h,a0n,BE.safe,BE.pe,IE.pe,PEnv.at,Q4,Q5,Q6,Q7,Qa,a0c,a0l,a0g,Q1,Q0,PEnv.push,Q2,Q3,Qb,SV.pvs,SV.pv,Qd,q1,q2,nl,d1,d2,a1h,eb,e0,e1,e2,e3,e4,e5,aw0,c6j]
 | succ d ih =>
  intro i hi M F G c K L hd hM hk fuel hf;obtain⟨fuel,rfl⟩:∃k,fuel=k+1:=⟨fuel-1,by omega⟩;obtain⟨M1,F1,d1,K1,a1⟩:=c6q hs hv ho K hM hk n (i:Int) ⟨1,0,0,0,0,0⟩ (by omega);have L1:=L.frame a1.len fun x hx=>a1.keep x (L.bd x hx) fun hF=>hd x hF hx
  have hd1:∀x,F1 x->¬G x:=fun x hF hG=>by
   rcases a1.own x hF with h1|h1
   ·exact hd x h1 hG
   ·have:=L.bd x hG;omega
  obtain⟨M2,G2,d2,L2,a2⟩:=c6q hs hv ho L1 a1.low hk n (i:Int) ⟨1,0,0,0,0,0⟩ (by omega);have K2:=K1.frame a2.len fun x hx=>a2.keep x (K1.bd x hx) (hd1 x hx)
  have hd2:∀x,F1 x->¬G2 x:=fun x hF hG=>by
   rcases a2.own x hG with h1|h1
   ·exact hd1 x hF h1
   ·have:=K1.bd x hF;omega
  have ih:=ih (i+1) (by omega) M2 F1 G2 _ K2 L2 hd2 a2.low (c9P hk rfl cs ad o _ _) fuel (by omega);rw[a1q] at ih;have d1:=evW d1;have d2:=evW d2;have lt:ltB (i:Int) (s.bs.length:Int)=true:=a0Q.2 (by omega);have hup:=a3I (show i<=1000000000 by omega);simp only[a2U,pv6] at d1 d2;refine(a5X (t:=a2a) rfl ?_).trans ih;simp only[a2a,rz2,↓reduceIte,a0d,a0h,a0n,a0k,BE.safe,BE.pe,IE.pe,PEnv.at,Q4,Q5,Q6,Q7,a0c,a0l,a0g,Q1,Q0,PEnv.push,Q2,Q3,SV.pvs,SV.pv,BE.all,Qd,Q8,Q9,q1,q2,lt,d1,d2,if_pos hup,]
variable {E:PV}{l:List Stp}(hE:E.rowsOf 9=some (l.map Stp.row))(hl:l.length<=200)
theorem d0h(aw:∀σ,a0b a4i n a0G [] σ=some (.bool true,σ)){to:Int}{t:Nat}(ht8:t<8)(hto:Qf to 8=(t:Int)){r at':Nat}(hr8:r<=8){M:List MO}{F:Nat->Prop}{c:Ck}(K:a4x s o M h F c)(hM:Low M)(hk:CkOk s.bs.length c)(hcr:c.cl.length=r)(hex:r=8\/c.over=true){VS:PV}(hVS:if t<r then c1s s o M F VS (c.reset (t:Int)).1 else VS=.nilP)(oE:E.one=true)(fuel:Nat)(hf:s.bs.length+2<=fuel) :
  a0A.loop (a0b a4i n) fuel 0 (rz0 M E h s to (at':Int) (r:Int) VS)=some (.bool true,[]):=by
 have p3:=(a0i hs.P).2.2;have b3:=(a0i hs.B).2.2;have c3:=(a0i hs.C).2.2;have a3:=(a0i hs.A).2.2;obtain⟨fuel,rfl⟩:∃k,fuel=k+1:=⟨fuel-1,by omega⟩;obtain⟨_,_,_,_,_,q,_⟩:=id K;have g0:=evW (b6V q n (by omega));have l8:=(SuOk.lens hv).2.2.1;have htm:=a0C (z:=(t:Int)) (by omega);have e0:∀a:Int,eqB a a=true:=fun a=>dT0 rfl
 have hov:r<8->c.over=true:=fun hlt=>by
  rcases hex with rfl|hex
  ·omega
  ·exact hex
 by_cases htr:t<r
 ·rw[if_pos htr] at hVS
  obtain⟨g,G,rfl,L,hd,hkv⟩:=hVS;obtain⟨M1,F1,d1,K1,a1⟩:=d0R K hM (by rw[hk.out];omega) (by have:=hk.cl;omega) n (t:Int) (by omega);rw[c8M (by omega)] at d1;have L1:=L.frame a1.len fun x hx=>a1.keep x (L.bd x hx) fun hF=>hd x hF hx
  have hd1:∀x,F1 x->¬G x:=fun x hF hG=>by
   rcases a1.own x hF with h1|h1
   ·exact hd x h1 hG
   ·have:=L.bd x hG;omega
  obtain⟨M3,M4,O1,O2,e1,e2,e3,e4,e5,K4,L4,low4⟩:=c2P hs hv ho n hn K1 L1 hd1 a1.low hkv;have key:=d3f hs hv ho n hn aw s.bs.length 0 (by omega) M4 F1 G _ K4 L4 hd1 low4 hkv fuel (by omega)
  have hro:(c.reset (t:Int)).1.over=false:=by
   unfold Ck.reset;rw[if_neg (by omega),if_neg (by omega),if_neg (by omega)]
  obtain⟨_,_,_,_,_,q1,_⟩:=id K1;obtain⟨_,_,_,_,_,q2,_⟩:=id L1;have g1:=evW (b6V q1 n (by omega));have g2:=evW (b9j q1 n (by omega));have g3:=evW (b9j q2 n (by omega));have d1:=evW d1;rw[hro] at g1;generalize (c.reset (t:Int)).1=cr at *
  simp only[a5P,a7Q,b1c,a2Y,a4X,pv6] at g0 g1 g2 g3 d1 e1 e2 e3;have key:a0A.loop (a0b a4i n) fuel 2 (rz2 M4 h g s 0)=some (.bool true,[]):=key;refine(a5X (t:=a0J) rfl ?_).trans key;by_cases hr:r<8
  ·rw[hov hr] at g0
   have lt:ltB (r:Int) 8=true:=a0Q.2 (by omega);simp only[a0J,rz0,rz2,↓reduceIte,a0j,a0d,a0h,a0n,a0k,BE.safe,BE.pe,IE.pe,PEnv.at,Q4,Q5,Q6,Q7,Qa,a0c,a0l,a0g,Q1,Q0,PEnv.push,Q2,Q3,Qb,SV.pvs,SV.pv,BE.all,Qd,Qg,Q8,Q9,lt,g0,hto,if_pos htm,a5o,a5v,a5l,d1,g1,g2,g3,e0,e1,e2,e3,e4,e5,]
  ·have nl:ltB (r:Int) 8=false:=(a0F ..).2 (by omega)
   simp only[a0J,rz0,rz2,↓reduceIte,a0j,a0d,a0h,a0n,a0k,BE.safe,BE.pe,IE.pe,PEnv.at,Q4,Q5,Q6,Q7,Qa,a0c,a0l,a0g,Q1,Q0,PEnv.push,Q2,Q3,Qb,SV.pvs,SV.pv,BE.all,Qd,Qg,Q8,Q9,nl,hto,if_pos htm,a5o,a5v,a5l,d1,g1,g2,g3,e0,e1,e2,e3,e4,e5,]
 ·rw[if_neg htr] at hVS
  subst hVS;have kp:PV.isKind 4 .nilP=true:=rfl;have np:PV.isNil .nilP=true:=rfl;have ok:PV.nilOk .nilP=true:=rfl;have aw0:=aw M;simp only[a5P,a0G] at g0 aw0;refine c5K (t:=a0J) rfl ?_;by_cases hr:r<8
  ·rw[hov hr] at g0
   have lt:ltB (r:Int) 8=true:=a0Q.2 (by omega);simp only[a0J,rz0,↓reduceIte,a0j,a0d,a0h,a0n,a0k,BE.safe,BE.pe,IE.pe,PEnv.at,Q4,Q5,Q6,Q7,Qa,a0c,a0l,a0g,Q1,Q0,PEnv.push,Q2,Q3,SV.pvs,SV.pv,BE.all,Qd,Qg,Q8,Q9,lt,g0,kp,np,ok,aw0,c6j]
  ·have nl:ltB (r:Int) 8=false:=(a0F ..).2 (by omega)
   simp only[a0J,rz0,↓reduceIte,a0j,a0d,a0h,a0n,BE.safe,BE.pe,IE.pe,PEnv.at,Q4,Q5,Qa,a0c,a0l,a0g,Q1,Q0,PEnv.push,Q2,Q3,SV.pvs,SV.pv,nl,kp,np,ok,aw0,c6j]
include hE hl
theorem d3s(aw:∀σ,a0b a4i n a0G [] σ=some (.bool true,σ)){to:Int}{t:Nat}(ht8:t<8)(hto:Qf to 8=(t:Int)):∀(d r at':Nat),r+d=8->at'<=l.length->∀(M:List MO) (F:Nat->Prop) (c:Ck) (VS:PV),a4x s o M h F c->Low M->CkOk s.bs.length c->c.cl.length=r->c.fresh->VS.one=true->(if t<r then c1s s o M F VS (c.reset (t:Int)).1 else VS=.nilP)->∀fuel,d*6+s.bs.length+2<=fuel ->
  a0A.loop (a0b a4i n) fuel 0 (rz0 M E h s to (at':Int) (r:Int) VS)=some (.bool true,[]):=by
 have oE:=(a0i hE).2.2;have p3:=(a0i hs.P).2.2;have b3:=(a0i hs.B).2.2;have c3:=(a0i hs.C).2.2;have a3:=(a0i hs.A).2.2;have l8:=(SuOk.lens hv).2.2.1;have htm:=a0C (z:=(t:Int)) (by omega);intro d
 induction d with
 | zero =>
  intro r at' hr hat M F c VS K hM hk hcr hfr oV hVS fuel hf;exact d0h hs hv ho n hn aw ht8 hto (by omega) K hM hk hcr (.inl (by omega)) hVS oE fuel (by omega)
 | succ d ih =>
  intro r at' hr hat M F c VS K hM hk hcr hfr oV hVS fuel hf;obtain hov|hov:c.over=true\/c.over=false:=by cases c.over<;>simp
  ·exact d0h hs hv ho n hn aw ht8 hto (by omega) K hM hk hcr (.inr hov) hVS oE fuel (by omega)
  obtain⟨fuel,rfl⟩:∃k,fuel=k+4+1+1:=⟨fuel-6,by omega⟩;obtain⟨_,_,_,_,_,q,_⟩:=id K;have g0:=evW (b6V q n (by omega));rw[hov] at g0;have lt:ltB (r:Int) 8=true:=a0Q.2 (by omega)
  have go:∀(M:List MO) (F:Nat->Prop) (VS:PV),a4x s o M h F c->Low M->VS.one=true->(if t<=r then c1s s o M F VS (if t=r then c else(c.reset (t:Int)).1) else VS=.nilP)->a0A.loop (a0b a4i n) (fuel+4+1) 1 (rz1 M E h s to (at':Int) (r:Int) 0 VS)=some (.bool true,[]):=fun M F VS K hM oV hVS=>by
   obtain⟨fuel',M',F',b,at'',f1,f2,f3,f4,f5,f6,f7,f8⟩:=d0J hs hv ho n hn hE hl to VS oV r (by omega) hov (fun M F=>if t<=r then c1s s o M F VS (if t=r then c else(c.reset (t:Int)).1) else VS=.nilP) (fun M M' F F' hj a=>by
    by_cases h1:t<=r
    ·simp only[if_pos h1] at hj ⊢;exact hj.adv a
    ·simp only[if_neg h1] at hj ⊢;exact hj) 4 0 at' rfl hat M F c K hM hk ⟨rfl,rfl,rfl,rfl⟩ hVS fuel
   have f3:a0A.loop (a0b a4i n) (fuel+4+1) 1 (rz1 M E h s to (at':Int) (r:Int) 0 VS)=_:=f3;rw[f3];obtain⟨k1,k2,k3⟩:=c0U s.ps o (f7.over.trans hov)
   have ih:=ih (r+1) at'' (by omega) f2 M' F' _ VS f4 f5 f6 (by rw[k2,List.length_append,List.length_singleton,f7.cl,hcr]) k1 oV (by
    by_cases h1:t<=r
    ·rw[if_pos h1] at f8
     rw[if_pos (by omega),c6M f7 hov hfr (by omega),hcr];exact f8
    ·rw[if_neg h1] at f8
     rw[if_neg (by omega)];exact f8) fuel' (by omega)
   rw[a1q] at ih;exact ih
  simp only[a5P] at g0;by_cases hrt:r=t
  ·subst hrt
   obtain⟨M2,G,e1,e2,e3,e4,e5,e6⟩:=d1b hs hv K hM (by rw[hk.out];omega) (fun r hr=>by obtain⟨_,h1,h2,h3,_⟩:=hk.rn r hr;omega) (by have:=hk.cl;omega) n (by omega);have e1:=evW e1;have K2:=K.frame e5 fun x hx=>e4 x (K.bd x hx)
   have key:=go M2 F (.ref M.length 0) K2 e6 rfl (by
    rw[if_pos (Nat.le_refl _),if_pos rfl]
    exact⟨_,G,rfl,e2,fun x hF hG=>by have:=e3 x hG;have:=K.bd x hF;omega,hk⟩)
   have er:eqB (r:Int) (r:Int)=true:=dT0 rfl;simp only[b2i] at e1;refine(a5X (t:=a0J) rfl ?_).trans key;simp only[a0J,rz0,rz1,↓reduceIte,a0j,a0d,a0h,a0n,a0k,BE.safe,BE.pe,IE.pe,PEnv.at,Q4,Q5,Q6,Q7,a0c,a0l,a0g,Q1,Q0,PEnv.push,Q2,Q3,Qb,SV.pvs,SV.pv,BE.all,Qd,Qh,Q8,Q9,lt,g0,hto,if_pos htm,er,e1,b1B,]
  ·have er:eqB (r:Int) (t:Int)=false:=dF0 (by omega)
   have key:=go M F VS K hM oV (by
    by_cases h1:t<r
    ·rw[if_pos h1] at hVS
     rw[if_pos (by omega),if_neg (by omega)];exact hVS
    ·rw[if_neg h1] at hVS
     rw[if_neg (by omega)];exact hVS)
   refine(a5X (t:=a0J) rfl ?_).trans key;simp only[a0J,rz0,rz1,↓reduceIte,a0j,a0d,a0h,a0n,a0k,BE.safe,BE.pe,IE.pe,PEnv.at,Q4,Q5,Q6,Q7,Qa,a0c,a0l,a0g,Q1,Q0,PEnv.push,Q2,Q3,SV.pvs,SV.pv,BE.all,Qd,Qh,Q8,Q9,lt,g0,hto,if_pos htm,er,]
end
theorem c7U(n:Nat)(hn:40000<=n)(ps:List Pr)(bs:List Bd)(cs ad:List Tri)(o:Po)(l:List Stp)(to:Int)(h0:0<=to)(h1:to<=255)(aw:∀σ,a0b a4i n a0G [] σ=some (.bool true,σ)) :
  a0b a4i (n+1) a4v [.agg [.sl 5 (ps.map Pr.row),.sl 4 (bs.map Bd.row),.sl 3 (cs.map Tri.row),.sl 3 (ad.map Tri.row)],.agg o.row,.sl 9 (l.map Stp.row),.int .u8 to] []=some (.bool true,[]):=by
 obtain⟨s,hse⟩:∃s:St,s=⟨ps,bs,.sl 5 (ps.map Pr.row),.sl 4 (bs.map Bd.row),.sl 3 (cs.map Tri.row),.sl 3 (ad.map Tri.row)⟩:=⟨_,rfl⟩;have hs:SuOk s cs ad:=by subst hse;exact⟨a1C _ _,a1C _ _,a1C _ _,a1C _ _⟩
 generalize hEe:PV.sl 9 (l.map Stp.row)=E;have hE:E.rowsOf 9=some (l.map Stp.row):=by rw[<- hEe];exact a1C _ _
 have hpv:[PV.sl 5 (ps.map Pr.row),.sl 4 (bs.map Bd.row),.sl 3 (cs.map Tri.row),.sl 3 (ad.map Tri.row)]=[s.P,s.B,s.C,s.A]:=by subst hse;rfl
 have hps:ps=s.ps:=by subst hse;rfl
 have hbs:bs=s.bs:=by subst hse;rfl
 rw[hpv];subst hps hbs;clear hse hpv hEe;obtain⟨_,_,p3⟩:=a0i hs.P;obtain⟨_,_,b3⟩:=a0i hs.B;obtain⟨_,_,c3⟩:=a0i hs.C;obtain⟨_,_,a3⟩:=a0i hs.A;obtain⟨_,_,q3⟩:=a0i hE;have aw0:=aw;obtain⟨z,g1,g2⟩:=d0i [] n (by omega) (knl hs.P (Qe _)) (knl hs.B (Qe _)) (knl hs.C (Qe _)) (knl hs.A (Qe _)) (knl hE (Qe _));have g1:=evW g1;simp only[a0G,b0E] at aw0 g1;rw[a0b,show a4i a4v=some a0A from c7n _ _ b1q];simp only[Q0,Sys.run,a6I];show ((a0f [.sh (.agg [_,_,_,_]),.sh (.agg [_,_,_,_]),.sh (.one _),.sh (.one _)] _).bind _)=_;simp only[a0f,a0g,a0c,Q1,Q0,Qb,Q3,Q2,if_true,p3,b3,c3,a3,q3];show (PT.ev _ a2k _).bind _=_;cases z with
 | true=>simp only[a2k,↓reduceIte,a0j,a0d,a0n,a0k,BE.safe,BE.pe,IE.pe,Q4,Q5,Q6,Q7,Qj,a0c,a0l,a0g,Q1,Q0,PEnv.push,Q2,Q3,SV.pvs,SV.pv,BE.all,Q8,Q9,g1,aw0,c6j]
 | false =>
  obtain⟨_,_,_,_,hl⟩:=g2 rfl;by_cases he:b5D s.ps s.bs cs ad o=0
  case neg =>
   have n1:=evW (d3Y hs o [] n he (by omega));simp only[a9V,St.pv,a6I] at n1;have op:PV.one .nilP=true:=rfl;have ef:eqB (b5D s.ps s.bs cs ad o) 0=false:=dF0 he;simp only[a2k,↓reduceIte,a0j,a0d,a0n,a0k,BE.safe,BE.pe,IE.pe,Q4,Q5,Q6,Q7,Qj,Qa,a0c,a0l,a0g,Q1,Q0,PEnv.push,Q2,Q3,Qb,SV.pvs,SV.pv,BE.all,Qh,Q8,Q9,g1,n1,a1h,op,ef,aw0,c6j]
  case pos =>
   have hv:a7m s.ps s.bs cs ad=0:=by
    unfold b5D at he;split at he
    ·assumption
    ·exact he
   have ho:o.ok:=by
    unfold b5D at he;rw[if_pos hv] at he;unfold a9z at he;split at he
    ·assumption
    ·cases he
   obtain⟨v1,v2,v3,v4⟩:=b4L hv;obtain⟨hl6,hr6⟩:=b0L v1;have l8:=(SuOk.lens hv).2.2.1;obtain⟨M,F,n1,K,nF,nk,nl,nlow⟩:=d3u hs o [] rfl n he (by omega);have n1:=evW n1;obtain⟨t,ht8,hto⟩:∃t:Nat,t<8/\Qf to 8=(t:Int):=⟨(Qf to 8).toNat,by rw[Qk h0];omega,by rw[Qk h0];omega⟩;have key:=d3s hs hv ho n (by omega) hE hl aw ht8 hto 8 0 0 rfl (Nat.zero_le _) M F _ .nilP K nlow (d3V hr6 _) rfl ⟨by simp[ck0],by simp[ck0]⟩ rfl (by rw[if_neg (by omega)]) n (by omega);have key:a0A.loop (a0b a4i n) n 0 (rz0 M E 1 s to 0 0 .nilP)=some (.bool true,[]):=key;have n1:a0b a4i n a9V [.agg [s.P,s.B,s.C,s.A],.agg [.int .i64 o.st,.int .i64 o.pc,.int .i64 o.un,.int .i64 o.ru]] []=some (.tup [.ref 1 0,.int .i64 0],M):=n1;have e0:∀a:Int,eqB a a=true:=fun a=>dT0 rfl
   simp only[a9V] at n1;simp only[a2k,↓reduceIte,a0j,a0d,a0n,a0k,BE.safe,BE.pe,IE.pe,Q4,Q5,Q6,Q7,Qj,Qa,a0c,a0l,a0g,Q1,Q0,PEnv.push,Q2,Q3,Qb,SV.pvs,SV.pv,BE.all,Qg,Q8,Q9,g1,n1,a1h,b1B,e0];exact key
theorem c7i(n0:Nat)(ps:List PV)(hs:a1i Try.prog n0 27 ps)(n1:Nat)(po:List PV)(hp:a1i Try.prog n1 29 po)(n2:Nat)(rows:List (List PV))(h2:∀r∈rows,a1i Try.prog n2 42 r)(to:Int)(h0:0<=to)(h1:to<=255) :
  a0b a4i 40001 a4v [.agg ps,.agg po,.sl 9 rows,.int .u8 to] []=some (.bool true,[]):=by
 obtain⟨l1,l2,l3,l4,rfl⟩:=d0w hs;obtain⟨o,rfl⟩:=c9W hp;obtain⟨l,rfl⟩:=a7C (row:=Stp.row) (fun ps h=>c8K h) rows h2;exact c7U 40000 (by omega) l1 l2 l3 l4 o l to h0 h1 (awW 39999)
theorem c2Z:ownKnob Try.prog.godebug=none:=by kernel_rfl
theorem a7q:laidOutB Try.prog=true:=by kernel_rfl
theorem a9K:Go.Sx.closed Try.prog [27,29,30,22,23,24,25,2,3,42,83,112,119,122,38,9]=true:=by kernel_rfl
set_option maxRecDepth 100000 in
theorem b9x(os:Os)(started:os.Started)(H:Type)(enc:TypeId×Value->H) :
  ReturnsInHanded {} Try.checked os 4 .any (Rows.clockResetsSpec.pre6 enc Try.prog Try.f4 Rows.clockResetsRow.domain false) (Rows.clockResetsSpec.post enc Try.prog Try.f4 false true false false):=by
 refine returnsInHanded_of_change (C:=Try.checked) c2Z started (by kernel_rfl) Try.func4
  (ChangeSpec.witness6 (enc:=enc) (C:=Try.checked) false ⟨#[],#[.agg #[.slice none 0 0,.slice none 0 0,.slice none 0 0,.slice none 0 0],.agg #[.int .i64 0,.int .i64 0,.int .i64 0,.int .i64 0],.slice none 0 0,.int .u8 0],[]⟩ 8 (by kernel_rfl) (by kernel_rfl) (by kernel_rfl) (by kernel_rfl)) ?_
 intro W base args ds gs before hval0 hW hcnd _;have hval:∀(j:Nat) t v,Try.f4.params[j]?=some t->args[j]?=some v->Value.okWide Try.prog W .any base t v:=hval0;have hW':=hW;obtain⟨p,q,hA0,hV,rfl,hfz,hnd⟩:=hW;have hA:DataW.TrodAll enc Try.prog W 0 (fun _=>true) true Try.f4.params.toList args.toList ds p:=hA0;rw[Try.params4] at hA hval;obtain⟨v0,vs0,d0,ds0,p0,q0,hargs,rfl,rfl,h0,r0⟩:=trodAll_cons hA;obtain⟨v1,vs1,d1,ds1,p1,q1,rfl,rfl,rfl,h1,r1⟩:=trodAll_cons r0;obtain⟨v2,vs2,d2,ds2,p2,q2,rfl,rfl,rfl,h2,r2⟩:=trodAll_cons r1;obtain⟨v3,vs3,d3,ds3,p3,q3,rfl,rfl,rfl,h3,r3⟩:=trodAll_cons r2;obtain⟨rfl,rfl,rfl⟩:=trodAll_nil r3;obtain rfl:args=#[v0,v1,v2,v3]:=by cases args;simp_all
 obtain⟨rfl,rfl⟩:=trodVars_none hV;have k0:=h0;have lt0:∀x∈p0,x.block<W.heap.size:=by obtain⟨m,hm⟩:=k0;exact DataW.trod_lt m _ _ _ hm
 obtain⟨n0,a0,e0,s0,w0⟩:=c2M a9K (t:=27) (by decide) Try.underlying27 (hval 0 27 v0 rfl rfl) h0;have k1:=h1;have lt1:∀x∈p1,x.block<W.heap.size:=by obtain⟨m,hm⟩:=k1;exact DataW.trod_lt m _ _ _ hm
 obtain⟨n1,a1,e1,s1,w1⟩:=c2M a9K (t:=29) (by decide) Try.underlying29 (hval 1 29 v1 rfl rfl) h1;have k2:=h2;have lt2:∀x∈p2,x.block<W.heap.size:=by obtain⟨m,hm⟩:=k2;exact DataW.trod_lt m _ _ _ hm
 obtain⟨n2,a2,e2,s2,w2⟩:=c9X a9K (t:=30) (by decide) Try.underlying30 (hval 2 30 v2 rfl rfl) h2;have k3:=h3;have lt3:∀x∈p3,x.block<W.heap.size:=by obtain⟨m,hm⟩:=k3;exact DataW.trod_lt m _ _ _ hm
 obtain⟨a3,e3,l3,u3⟩:=d3l Try.underlying5 (hval 3 5 v3 rfl rfl) h3;clear hA0 hval0;rw[show Try.prog.cellsOf 42=9 by kernel_rfl] at e2;have hr:Go.Sx.Reps (Go.Sx.hpOf W) [] [.agg a0,.agg a1,.sl 9 a2,.int .u8 a3] [v0,v1,v2,v3]:=⟨v0,_,rfl,e0,⟨v1,_,rfl,e1,⟨v2,_,rfl,e2,⟨v3,_,rfl,e3,rfl⟩⟩⟩⟩;refine(Go.Sx.lift_true (Go.Sx.evalF_good d2R 40001 4) (c7i n0 a0 s0 n1 a1 s1 n2 a2 s2 a3 l3 u3) hr).mono fun e W' hh=>?_
 obtain⟨rfl,bel⟩:=hh;exact⟨_,rfl,_,_,_,[],_,[],hW',trodAll_mk1 (shut_bool Try.underlying4 _),(trodAll_cons_mk (Below.trod a7q (by kernel_rfl) (of_decide_eq_true (by kernel_rfl)) k0 bel lt0) (trodAll_cons_mk (Below.trod a7q (by kernel_rfl) (of_decide_eq_true (by kernel_rfl)) k1 bel lt1) (trodAll_cons_mk (Below.trod a7q (by kernel_rfl) (of_decide_eq_true (by kernel_rfl)) k2 bel lt2) (trodAll_cons_mk (Below.trod a7q (by kernel_rfl) (of_decide_eq_true (by kernel_rfl)) k3 bel lt3) trodAll_mk0)))),rfl,bel.frame _,fun h=>by cases h⟩
theorem clockResets_proved:Rows.ClockResetsSaid :=
 OpenClaim.holds_of_wide 4 Try.f4 rfl rfl rfl rfl rfl rfl rfl ⟨rfl,rfl,rfl,rfl,rfl⟩ rfl rfl rfl rfl rfl (by kernel_rfl) Try.func4 (by kernel_rfl)
  (of_decide_eq_true (by kernel_rfl)) (by unfold Func.isWrapper;first|(rw[if_pos (by decide +kernel)];kernel_rfl)|(rw[if_neg (by decide +kernel)];exact⟨rfl,rfl⟩))
  (fun os started H enc _=>b9x os started H enc)
end Go.Proofs.Ytmekflfjaflmkaa
