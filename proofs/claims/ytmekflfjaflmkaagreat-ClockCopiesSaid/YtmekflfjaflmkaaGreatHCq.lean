/- The clock's law: lists of closed c3M that may be read; the law's copies of them; that two of them are the same. -/
import Derived.Test.YtmekflfjaflmkaaGreatHCo
set_option linter.unusedSimpArgs false
set_option linter.unusedVariables false
set_option linter.unusedSectionVars false
open Option renaming bind_some → Q0, map_some → Q1, bind → Qw, pure_def → QE, bind_eq_bind → QN, toList_some → QX, getD_some → Xb
open List renaming getD_cons_zero → Q2, getD_cons_succ → Q3, getElem?_cons_zero → Q4, nil_append → Q5, getElem?_cons_succ → Q6, cons_append → Q7, replicate → Q9, append_nil → Qa, length_map → Qb, map_cons → Qe, length_nil → Qf, map_nil → Qg, length_cons → Qh, drop_zero → Qm, append_assoc → Qn, getElem?_map → Qp, take_succ_cons → Qq, take_zero → Qr, length_set → Qu, getElem?_eq_some_iff → Qv, mem_of_getElem? → Qy, take_left → Qz, set_append_right → QA, map_set → QC, mapM_nil → QD, getElem?_append_right → QH, take_length → QK, length_take → QL, mapM_cons → QM, all_cons → QQ, all_nil → QS, take_add_one → QW, drop_succ_cons → QY, all → QZ, map_append → X0, length_append → X2, length_singleton → X3, length_drop → X5, getElem?_append_left → X6, getElem?_take → X7, getElem?_of_mem → X8, replicate_succ → Xa, foldl_cons → Xe, reverse_nil → Xf
open Bool renaming false_eq_true → Q8, and_self → Qd, not_true → Qk, not_false → Qt, or_true → QJ, and_eq_true → QP, or_self → QU, or_false → QV, false_and → Xc, and_false → Xd
open Nat renaming le_refl → Qj, zero_add → QB, add_zero → X1, sub_add_cancel → X4, add_sub_cancel_left → X9
open Int renaming toNat_natCast → Qs
open Go.Proofs.YtmekflfjaflmkaaGreat.W6 renaming pv → Xg, ok → XP
open Go.Sx.IE renaming pe → Xh
open Go.Sx.SV renaming pv → Xj, pvs → Xr
open Go.Sx.BE renaming safe → Xk, pe → Xn, all → Xw
open _root_ renaming if_pos → Xp, if_neg → Xu, or_true → Xv, if_true → Xx, and_self → XJ, of_decide_eq_true → XU
open Go.Sx.PV renaming bool → Xq, frz → Xy, frz_low → Xz, lowss → XF, one → XH, frzs → XK, lows → XL, sl → XN, low → XS, frzss → XV, frzs_low → XZ
open Go.Sx.PEnv renaming push → Xs
open Go.Sx.PT renaming ev → Xt
open Go.Sx.Sys renaming loop → XA, run → XC
open Go.Proofs.YtmekflfjaflmkaaGreat.Stp renaming row → XD
open Go.Proofs.Tryz renaming prog → XE, f6 → XT, checked → K1, underlying47 → K4
open Go.Proofs.YtmekflfjaflmkaaGreat.Ch renaming row → XG
open Go.Proofs.YtmekflfjaflmkaaGreat.SuOk renaming lens → XM
open Go.Proofs.YtmekflfjaflmkaaGreat.St renaming pv → XQ
open Go.Proofs.YtmekflfjaflmkaaGreat.Tri renaming row → XR
open Go.Proofs.YtmekflfjaflmkaaGreat.Ck renaming blank → XW
open Go.DataW renaming trod_lt → XX
open Go.Proofs.YtmekflfjaflmkaaGreat.BRd renaming plain → XY
open Go.Proofs.YtmekflfjaflmkaaGreat.Rows renaming clockCopiesSpec → K3
open Bool renaming false → ff, true → tt
open Option renaming some → sM, none → nn
set_option maxRecDepth 100000
namespace Go.Proofs.YtmekflfjaflmkaaGreat
open Go.Sx
theorem b1k{Φ:Fns}{S:Sx.Sys}{fuel q q':Nat}{ρ ρ':PEnv}{t:PT}(h:S.loops[q]?=sM t)(E:t.ev Φ ρ=sM (.jump q' ρ')):S.loop Φ (fuel+1) q ρ=S.loop Φ fuel q' ρ':=by
 rw[XA,h,Q0,E];rfl
theorem d8L{Φ:Fns}{S:Sx.Sys}{fuel q:Nat}{ρ:PEnv}{t:PT}{r:PV}{σ:List MO}(h:S.loops[q]?=sM t)(E:t.ev Φ ρ=sM (.ret r σ)):S.loop Φ (fuel+1) q ρ=sM (r,σ):=by
 rw[XA,h,Q0,E];rfl
structure ORd (σ:List MO)(v:PV)(l:List Bool):Prop where
 kind:v.isKind 0=tt
 one:v.one=tt
 len:v.len=(l.length:Int)
 rd:∀(i:Nat) (b:Bool),l[i]?=sM b->∃L,a4f (i:Int) 1 0 v=sM L/\∀(is:List Int) (bs:List Bool) (vs:List PV) (k:Nat),a0x {i:=is,b:=bs,v:=vs,m:=σ,k:=k} ff 1 L=sM [.bool b]
theorem OSl.rd{σ:List MO}{R:Nat->Prop}{v:PV}{l:List Bool}(h:OSl σ R v l):ORd σ v l:=by
 obtain⟨h,_,rfl,hh⟩:=h;refine⟨rfl,rfl,rfl,fun i b hb=>⟨.obj h i,d0f (Qv.1 hb).1,fun _ _ _ _=>?_⟩⟩;simp only[a0x,hh,Q0,MO.list,Q8,if_false];exact d2C l hb
theorem ORd.plain{σ:List MO}{v:PV}{l:List Bool}(h:v.rowsOf 1=sM (l.map fun b=>[Xq b])):ORd σ v l:=by
 obtain⟨p1,p2,p3⟩:=a0b h;rw[Qb] at p1;exact⟨p2,p3,p1,fun i b hb=>⟨_,a0V (off:=0) h (by rw[Qp,hb];rfl),fun _ _ _ _=>rfl⟩⟩
structure RRd (σ:List MO)(v:PV)(cl:List Rn):Prop where
 kind:v.isKind 0=tt
 one:v.one=tt
 len:v.len=(cl.length:Int)
 rd:∀(i:Nat) r,cl[i]?=sM r->∃a g b,BRd σ a r.ask/\BRd σ g r.got/\ORd σ b r.bid/\∀off n,off+n<=9->∃L,a4f (i:Int) 9 off v=sM L/\∀(is:List Int) (bs:List Bool) (vs:List PV) (k:Nat),a0x {i:=is,b:=bs,v:=vs,m:=σ,k:=k} ff n L=sM (([.int .i64 r.p.a,.int .i64 r.p.b,.int .i64 r.p.c,.int .i64 r.p.d,.int .i64 r.p.e,.int .i64 r.p.f,a,g,b].drop off).take n)
theorem f3M{σ:List MO}{R:Nat->Prop}{v:PV}{cl:List Rn}{rows:List (List PV)}(hv:v.rowsOf 9=sM rows)(h:a4y σ R cl rows):RRd σ v cl:=by
 obtain⟨p1,p2,p3⟩:=a0b hv;rw[h.1] at p1;refine⟨p2,p3,p1,fun i r hr=>?_⟩;obtain⟨row,hrow⟩:=a0S (show i<rows.length by rw[h.1];exact(Qv.1 hr).1);obtain⟨a,g,b,rfl,ha,hg,hb⟩:=h.2 i r row hr hrow;exact⟨a,g,b,ha.rd,hg.rd,hb.rd,fun off n hn=>⟨_,a0V hv hrow,fun _ _ _ _=>b3v rfl (by rw[X5];simp only[Qh,Qf];omega)⟩⟩
section
variable {s:St}{o:Po}{σ:List MO}{h:Nat}{vcl:PV}{ha hb hd:Nat}{R:Nat->Prop}{c:Ck}(k:CkAt s o σ h vcl ha hb hd R c)(hσ:Low σ)(hl:∀r∈c.cl,r.ask.length<=1000/\r.got.length<=1000/\r.bid.length<=1000)(hcl:c.cl.length<=1000)(n:Nat)
def f1K(M:List MO)(K:Nat)(j:Int)(O V:PV):PEnv:={i:=[j],b:=[],v:=[O,V],m:=M,k:=K}
theorem f4i{M:List MO}{K:Nat}{V:PV}{cl:List Rn}{R:Nat->Prop}(hV:CRd M R V cl)(hcl:cl.length<=1000):∀d j,j+d=cl.length->∀(O:PV) (rows:List (List PV)),O.rowsOf 9=sM rows->a4y M R (cl.take j) rows->∀fuel,d+1<=fuel ->
  ∃O' rows',a4S.loop (a0a Tab n) fuel 0 (f1K M K (j:Int) O V)=sM (O',M)/\O'.rowsOf 9=sM rows'/\a4y M R cl rows':=by
 intro d
 induction d with
 | zero =>
  intro j hj O rows hO hrows fuel hf;obtain⟨fuel,rfl⟩:=a0L fuel (by omega);obtain rfl:j=cl.length:=by omega
  have hd:ltB (cl.length:Int) (cl.length:Int)=ff:=by rw[a0G];omega
  rw[QK] at hrows;refine⟨O,rows,?_,hO,hrows⟩;rw[XA,show a4S.loops[0]?=sM a5Y from rfl];simp only[Q0,f1K,a5Y,↓reduceIte,a0j,a0e,a0h,Xk,Xn,Xh,PEnv.at,Q2,Q3,Q4,Q8,Q1,Q0,Xj,hd,hV.kind,hV.len,a0n,true_or]
 | succ d ih =>
  intro j hj O rows hO hrows fuel hf;obtain⟨fuel,rfl⟩:=a0L fuel (by omega);obtain⟨r,hr⟩:=a0S (show j<cl.length by omega);obtain⟨row,hrow,hrd⟩:=hV.rd j r hr;have hR:=hrow;obtain⟨a,g,b,rfl,ba,bg,bb⟩:=hrow;have oa:=ba.one;have og:=bg.one;have ob:=bb.one;obtain⟨L0,q1,q2⟩:=hrd 0 6 (by decide);obtain⟨L6,q3,q4⟩:=hrd 6 1 (by decide);obtain⟨L7,q5,q6⟩:=hrd 7 1 (by decide);obtain⟨L8,q7,q8⟩:=hrd 8 1 (by decide);have q2:∀is bs vs k,a0x {i:=is,b:=bs,v:=vs,m:=M,k:=k} ff 6 L0=sM [.int .i64 r.p.a,.int .i64 r.p.b,.int .i64 r.p.c,.int .i64 r.p.d,.int .i64 r.p.e,.int .i64 r.p.f]:=q2;have q4:∀is bs vs k,a0x {i:=is,b:=bs,v:=vs,m:=M,k:=k} ff 1 L6=sM [a]:=q4;have q6:∀is bs vs k,a0x {i:=is,b:=bs,v:=vs,m:=M,k:=k} ff 1 L7=sM [g]:=q6;have q8:∀is bs vs k,a0x {i:=is,b:=bs,v:=vs,m:=M,k:=k} ff 1 L8=sM [b]:=q8;have hd:ltB (j:Int) (cl.length:Int)=tt:=by rw[a0U];omega
  have hup:=a2N (show j<=1000000000 by omega);have t1:(0:Nat)+1<=1000000:=by decide
  have t2:rows.length+1<=1000000:=by rw[hrows.1,QL];omega
  obtain⟨O',rows',e1,e2⟩:=ih (j+1) (by omega) (.sl 9 (rows++[[.int .i64 r.p.a,.int .i64 r.p.b,.int .i64 r.p.c,.int .i64 r.p.d,.int .i64 r.p.e,.int .i64 r.p.f,a,g,b]])) _ (a1x _ _) (by
   rw[QW,hr,QX];exact hrows.snoc hR) fuel (by omega)
  refine⟨O',rows',?_,e2⟩;rw[<- e1,a1o,XA,show a4S.loops[0]?=sM a5Y from rfl];simp only[Q0,f1K,a5Y,↓reduceIte,Xt,Xk,Xn,Xh,PEnv.at,Q2,Q3,Q4,Q6,a0H,Qh,Qf,Nat.reduceAdd,a0c,Q1,Q0,Xs,Q7,Q5,Qa,Xr,Xj,Xw,Qd,Qe,Qg,a1O,QM,QD,QN,QE,hd,le0,hV.kind,hV.len,q1,q2,q3,q4,q5,q6,q7,q8,oa,og,ob,hO,Xp t1,a1x,Xp t2,Xp hup]
include k hσ hl hcl in
theorem e9k(hn:1100<=n):∃M O rows,a0a Tab n 34 [.ref h 0] σ=sM (O,M)/\(∀x,x<σ.length->M[x]?=σ[x]?)/\σ.length<=M.length/\Low M/\O.rowsOf 9=sM rows/\a4y M (fun x=>σ.length<=x/\x<M.length) c.cl rows:=by
 obtain⟨n,rfl⟩:=a0L n (by omega);obtain⟨M,V,e1,e2,e3,e4,e5⟩:=e9U k hσ hl hcl n (by omega);have hV:=(e4J e5).rd;obtain⟨O,rows,f1,f2,f3⟩:=f4i n (K:=σ.length) hV hcl c.cl.length 0 (by omega) .nilS [] rfl ⟨rfl,fun i r row h1=>by simp at h1⟩ n (by omega);refine⟨M,O,rows,?_,e2,e3,e4,f2,f3⟩;have oV:=hV.one
 skip
 rw[a0a];simp only[c6z,Q0,XC];show ((a0i [.sh (.one _)] _).bind _)=_;simp only[a0i,a0m,a0c,Q1,Q0,Qa,Xx,b3G];show (Xt _ b1z _).bind _=_;simp only[b1z,↓reduceIte,a0A,a0s,Xh,Q4,Q6,a0c,a0w,a0m,Q1,Q0,Xs,Q7,Q5,Xr,Xj,Xw,Qe,Qg,e1,oV];exact f1
end
def sm0(σ:List MO)(V W:PV)(i:Int):PEnv:={i:=[i],b:=[],v:=[V,W],m:=σ,k:=σ.length}
def sm1(σ:List MO)(V W:PV)(i k N:Int)(a a' g g' b b':PV):PEnv:={i:=[i,k,i,N,N,N,N,N,N],b:=[ff,ff,ff],v:=[V,W,a,a',g,g',b,b'],m:=σ,k:=σ.length}
section
variable {σ:List MO}{V W:PV}{cl:List Rn}(hV:RRd σ V cl)(hW:RRd σ W cl){N:Nat}(hl:∀r∈cl,r.ask.length=N/\r.got.length=N/\r.bid.length=N)(hN:N<=1000)(hcl:cl.length<=1000)(n:Nat)
include hV hW hl hN hcl
set_option maxHeartbeats 4000000 in
theorem f6i{i:Nat}{r:Rn}(hr:cl[i]?=sM r)(a a' g g' b b':PV)(o1:a.one=tt)(o2:a'.one=tt)(o3:g.one=tt)(o4:g'.one=tt)(o5:b.one=tt)(o6:b'.one=tt):∀d k,k+d=N->∀fuel,
  a4b.loop (a0a Tab n) (fuel+d+1) 1 (sm1 σ V W (i:Int) (k:Int) (N:Int) a a' g g' b b')=a4b.loop (a0a Tab n) fuel 0 (sm0 σ V W ((i:Int)+1)):=by
 have hi:=(Qv.1 hr).1;obtain⟨h1,h2,h3⟩:=hl r (Qy hr);obtain⟨va,vg,vb,va1,vg1,vb1,hrd⟩:=hV.rd i r hr;obtain⟨wa,wg,wb,wa1,wg1,wb1,wrd⟩:=hW.rd i r hr;obtain⟨L6,q3,q4⟩:=hrd 6 1 (by decide);obtain⟨L7,q5,q6⟩:=hrd 7 1 (by decide);obtain⟨L8,q7,q8⟩:=hrd 8 1 (by decide);obtain⟨K6,p3,p4⟩:=wrd 6 1 (by decide);obtain⟨K7,p5,p6⟩:=wrd 7 1 (by decide);obtain⟨K8,p7,p8⟩:=wrd 8 1 (by decide);have q4:∀is bs vs k,a0x {i:=is,b:=bs,v:=vs,m:=σ,k:=k} ff 1 L6=sM [va]:=q4;have q6:∀is bs vs k,a0x {i:=is,b:=bs,v:=vs,m:=σ,k:=k} ff 1 L7=sM [vg]:=q6;have q8:∀is bs vs k,a0x {i:=is,b:=bs,v:=vs,m:=σ,k:=k} ff 1 L8=sM [vb]:=q8;have p4:∀is bs vs k,a0x {i:=is,b:=bs,v:=vs,m:=σ,k:=k} ff 1 K6=sM [wa]:=p4;have p6:∀is bs vs k,a0x {i:=is,b:=bs,v:=vs,m:=σ,k:=k} ff 1 K7=sM [wg]:=p6;have p8:∀is bs vs k,a0x {i:=is,b:=bs,v:=vs,m:=σ,k:=k} ff 1 K8=sM [wb]:=p8;have lt:ltB (i:Int) (cl.length:Int)=tt:=a0U.2 (by omega);have hup:=a2N (show i<=1000000000 by omega);have l1:=va1.len;have l2:=vg1.len;have l3:=vb1.len;have m1:=wa1.len;have m2:=wg1.len;have m3:=wb1.len;rw[h1] at l1 m1;rw[h2] at l2 m2;rw[h3] at l3 m3;intro d
 induction d with
 | zero =>
  intro k hk fuel;obtain rfl:k=N:=by omega
  have nl:ltB (k:Int) (k:Int)=ff:=(a0G ..).2 (by omega);rw[XA,show a4b.loops[1]?=sM a6B from rfl];simp only[Q0,sm1,sm0,a6B,↓reduceIte,Xt,Xk,Xn,Xh,PEnv.at,Q2,Q3,Q4,Q6,a0H,Qh,Qf,Nat.reduceAdd,Q8,a0c,Q1,Q0,Xs,Q7,Q5,Qa,Xr,Xj,Xw,Qd,Qe,Qg,hV.len,hW.len,lt,le0,q3,q4,va1.kind,va1.one,l1,nl,Xp hup]
 | succ d ih =>
  intro k hk fuel;obtain⟨x,hx⟩:=a0S (show k<r.ask.length by omega);obtain⟨y,hy⟩:=a0S (show k<r.got.length by omega);obtain⟨z,hz⟩:=a0S (show k<r.bid.length by omega);obtain⟨A,hA⟩:=va1.rd k x hx;obtain⟨G,hG⟩:=vg1.rd k y hy;obtain⟨B,b1,b2⟩:=vb1.rd k z hz;obtain⟨A',hA'⟩:=wa1.rd k x hx;obtain⟨G',hG'⟩:=wg1.rd k y hy;obtain⟨B',b1',b2'⟩:=wb1.rd k z hz;obtain⟨a1,a2⟩:=hA 0 6 (by decide);obtain⟨a1',a2'⟩:=hA' 0 6 (by decide);obtain⟨g1,g2⟩:=hG 0 6 (by decide);obtain⟨g1',g2'⟩:=hG' 0 6 (by decide);have a2:∀is bs vs k,a0x {i:=is,b:=bs,v:=vs,m:=σ,k:=k} ff 6 (A 0)=sM [.int .i64 x.a,.int .i64 x.b,.int .i64 x.c,.int .i64 x.d,.int .i64 x.e,.int .i64 x.f]:=a2;have a2':∀is bs vs k,a0x {i:=is,b:=bs,v:=vs,m:=σ,k:=k} ff 6 (A' 0)=sM [.int .i64 x.a,.int .i64 x.b,.int .i64 x.c,.int .i64 x.d,.int .i64 x.e,.int .i64 x.f]:=a2';have g2:∀is bs vs k,a0x {i:=is,b:=bs,v:=vs,m:=σ,k:=k} ff 6 (G 0)=sM [.int .i64 y.a,.int .i64 y.b,.int .i64 y.c,.int .i64 y.d,.int .i64 y.e,.int .i64 y.f]:=g2;have g2':∀is bs vs k,a0x {i:=is,b:=bs,v:=vs,m:=σ,k:=k} ff 6 (G' 0)=sM [.int .i64 y.a,.int .i64 y.b,.int .i64 y.c,.int .i64 y.d,.int .i64 y.e,.int .i64 y.f]:=g2';have kt:ltB (k:Int) (N:Int)=tt:=a0U.2 (by omega);have kup:=a2N (show k<=1000000000 by omega);have e0:∀a:Int,eqB a a=tt:=fun a=>dT0 rfl
  have ez:(z||!z)=tt:=by cases z<;>rfl
  have ih:=ih (k+1) (by omega) fuel
  have E:Xt (a0a Tab n) a6B (sm1 σ V W (i:Int) (k:Int) (N:Int) a a' g g' b b')=sM (.jump 1 (sm1 σ V W (i:Int) ((k:Int)+1) (N:Int) a a' g g' b b')):=by
   unfold a6B sm1;simp only[↓reduceIte,Xt,Xk,Xn,Xh,PEnv.at,Q2,Q3,Q4,Q6,a0H,Qh,Qf,Nat.reduceAdd,a0c,Q1,Q0,Xs,Q7,Q5,Qa,Xr,Xj,Xw,Qd,Qe,Qg,hV.len,lt,le0,q3,q4,va1.kind,va1.one,l1,kt];simp only[↓reduceIte,Q2,Q3,Q6,a0c,Q1,Q0,Q7,Q5,Qa,q5,q6,vg1.kind,vg1.one,l2,kt];simp only[↓reduceIte,Q2,Q3,Q4,Q6,a0c,Q1,Q0,Q7,Q5,Qa,q7,q8,vb1.kind,vb1.one,l3,kt];simp only[↓reduceIte,Q2,Q3,a0c,Q1,Q0,Q7,Q5,Qd,hW.len,lt,l1,kt,a1,a2];simp only[↓reduceIte,Q2,Q3,Q4,Q6,Q8,a0c,Q1,Q0,Q7,Q5,Qd,Qk,p3,p4,wa1.one,m1,kt,a1',a2',e0];simp only[↓reduceIte,Q2,Q3,a0c,Q1,Q0,Q7,Q5,Qd,l2,kt,g1,g2];simp only[↓reduceIte,Q2,Q3,Q4,Q6,Q8,a0c,Q1,Q0,Q7,Q5,Qd,Qk,p5,p6,wg1.one,m2,kt,g1',g2',e0];simp only[↓reduceIte,Q2,Q3,a0c,Q1,Q0,Q7,Q5,Qd,l3,kt,b1,b2];simp only[↓reduceIte,Q2,Q4,a0c,Q1,Q0,Q7,Q5,Qd,p7,p8,wb1.one,m3,kt,b1',b2'];rw[ez];simp only[Qk,Q8,if_false,Xp kup]
  rw[a1o] at ih;rw[show fuel+(d+1)+1=(fuel+d+1)+1 by omega];exact(b1k (fuel:=fuel+d+1) rfl E).trans ih
theorem f5X:∀d i,i+d=cl.length->∀fuel,d*(N+2)+1<=fuel->a4b.loop (a0a Tab n) fuel 0 (sm0 σ V W (i:Int))=sM (.bool tt,σ):=by
 intro d
 induction d with
 | zero =>
  intro i hi fuel hf;obtain⟨fuel,rfl⟩:=a0L fuel (by omega);have nl:ltB (i:Int) (cl.length:Int)=ff:=(a0G ..).2 (by omega);rw[XA,show a4b.loops[0]?=sM a6D from rfl];simp only[Q0,sm0,a6D,↓reduceIte,Xt,Xk,Xn,Xh,PEnv.at,Q2,Q8,Q1,Q0,Xj,hV.kind,hV.len,nl,a0n,Xv]
 | succ d ih =>
  intro i hi fuel hf;rw[Nat.add_mul] at hf;obtain⟨fuel,rfl⟩:∃k,fuel=k+N+1+1:=⟨fuel-N-2,by omega⟩;obtain⟨r,hr⟩:=a0S (show i<cl.length by omega);obtain⟨h1,h2,h3⟩:=hl r (Qy hr);obtain⟨va,vg,vb,va1,vg1,vb1,hrd⟩:=hV.rd i r hr;obtain⟨wa,wg,wb,wa1,wg1,wb1,wrd⟩:=hW.rd i r hr;obtain⟨L0,q1,q2⟩:=hrd 0 6 (by decide);obtain⟨L6,q3,q4⟩:=hrd 6 1 (by decide);obtain⟨L7,q5,q6⟩:=hrd 7 1 (by decide);obtain⟨L8,q7,q8⟩:=hrd 8 1 (by decide);obtain⟨K0,p1,p2⟩:=wrd 0 6 (by decide);obtain⟨K6,p3,p4⟩:=wrd 6 1 (by decide);obtain⟨K7,p5,p6⟩:=wrd 7 1 (by decide);obtain⟨K8,p7,p8⟩:=wrd 8 1 (by decide);have q2:∀is bs vs k,a0x {i:=is,b:=bs,v:=vs,m:=σ,k:=k} ff 6 L0=sM [.int .i64 r.p.a,.int .i64 r.p.b,.int .i64 r.p.c,.int .i64 r.p.d,.int .i64 r.p.e,.int .i64 r.p.f]:=q2;have q4:∀is bs vs k,a0x {i:=is,b:=bs,v:=vs,m:=σ,k:=k} ff 1 L6=sM [va]:=q4;have q6:∀is bs vs k,a0x {i:=is,b:=bs,v:=vs,m:=σ,k:=k} ff 1 L7=sM [vg]:=q6;have q8:∀is bs vs k,a0x {i:=is,b:=bs,v:=vs,m:=σ,k:=k} ff 1 L8=sM [vb]:=q8;have p2:∀is bs vs k,a0x {i:=is,b:=bs,v:=vs,m:=σ,k:=k} ff 6 K0=sM [.int .i64 r.p.a,.int .i64 r.p.b,.int .i64 r.p.c,.int .i64 r.p.d,.int .i64 r.p.e,.int .i64 r.p.f]:=p2;have p4:∀is bs vs k,a0x {i:=is,b:=bs,v:=vs,m:=σ,k:=k} ff 1 K6=sM [wa]:=p4;have p6:∀is bs vs k,a0x {i:=is,b:=bs,v:=vs,m:=σ,k:=k} ff 1 K7=sM [wg]:=p6;have p8:∀is bs vs k,a0x {i:=is,b:=bs,v:=vs,m:=σ,k:=k} ff 1 K8=sM [wb]:=p8;have lt:ltB (i:Int) (cl.length:Int)=tt:=a0U.2 (by omega);have l1:=va1.len;have l2:=vg1.len;have l3:=vb1.len;have m1:=wa1.len;have m2:=wg1.len;have m3:=wb1.len;rw[h1] at l1 m1;rw[h2] at l2 m2;rw[h3] at l3 m3;have e0:∀a:Int,eqB a a=tt:=fun a=>dT0 rfl
  have s1:=f6i hV hW hl hN hcl n hr va wa vg wg vb wb va1.one wa1.one vg1.one wg1.one vb1.one wb1.one N 0 (by omega) fuel;have s2:=ih (i+1) (by omega) fuel (by omega);rw[a1o] at s2;rw[s2] at s1
  have E:Xt (a0a Tab n) a6D (sm0 σ V W (i:Int))=sM (.jump 1 (sm1 σ V W (i:Int) 0 (N:Int) va wa vg wg vb wb)):=by
   simp only[sm0,a6D,↓reduceIte,Xt,Xk,Xn,Xh,PEnv.at,Q2,Q3,Q4,Q6,a0H,Qh,Qf,Nat.reduceAdd,Q8,a0c,Q1,Q0,Xs,Q7,Q5,Qa,Xj,Qd,Qk,hV.kind,hV.len,hW.len,lt,le0,q1,q2,p1,p2,e0]
   repeat' (first|with_reducible rfl|apply a4n|simp only[↓reduceIte,a0j,a0e,a0h,a0F,a0s,Xk,Xn,Xh,PEnv.at,Q2,Q3,Q4,Q6,a0H,Qh,Qf,Nat.reduceAdd,Q8,a0c,Q1,Q0,Xs,Q7,Q5,Qa,Xr,Xj,Xw,Qd,Qk,Qe,Qg,sm1,hV.len,hW.len,lt,le0,q3,q4,q5,q6,q7,q8,p3,p4,p5,p6,p7,p8,va1.kind,va1.one,vg1.kind,vg1.one,vb1.kind,vb1.one,wa1.kind,wa1.one,wg1.kind,wg1.one,wb1.kind,wb1.one,l1,l2,l3,m1,m2,m3,e0]|unfold b5S|unfold b5D|unfold b5l|unfold b5F|unfold b5m|unfold b5r|unfold b5k|unfold b5M|unfold b5A|unfold b5d|unfold b4V|unfold b4Z|unfold b4W|unfold b5b)
  exact(b1k (fuel:=fuel+N+1) rfl E).trans s1
theorem e8F(hn:cl.length*(N+2)+2<=n):a0a Tab n 33 [V,W] σ=sM (.bool tt,σ):=by
 obtain⟨n,rfl⟩:=a0L n (by omega);have key:=f5X hV hW hl hN hcl n cl.length 0 (by omega) n (by omega);have e0:∀a:Int,eqB a a=tt:=fun a=>dT0 rfl
 rw[a0a];simp only[c9X,Q0,XC];show ((a0i [.sh (.one _),.sh (.one _)] _).bind _)=_;simp only[a0i,a0m,a0c,Q1,Q0,Qa,Q5,Q7,Xx,hV.one,hW.one];show (Xt _ b3z _).bind _=_;simp only[b3z,↓reduceIte,Xt,Xk,Xn,Xh,PEnv.at,Q2,Q3,Q4,Q6,Q8,Q1,Q0,Xr,Xj,Xw,Qk,Qe,Qg,hV.kind,hW.kind,hV.len,hW.len,e0];exact key
end
def PRn(r:Rn)(row:List PV):Prop:=∃a g b,row=[.int .i64 r.p.a,.int .i64 r.p.b,.int .i64 r.p.c,.int .i64 r.p.d,.int .i64 r.p.e,.int .i64 r.p.f,a,g,b]/\a.rowsOf 6=sM (r.ask.map Xg)/\g.rowsOf 6=sM (r.got.map Xg)/\b.rowsOf 1=sM (r.bid.map fun b=>[Xq b])
def b6h(cl:List Rn)(rows:List (List PV)):Prop:=rows.length=cl.length/\∀(i:Nat) r row,cl[i]?=sM r->rows[i]?=sM row->PRn r row
theorem b6h.rr{σ:List MO}{v:PV}{cl:List Rn}{rows:List (List PV)}(hv:v.rowsOf 9=sM rows)(h:b6h cl rows):RRd σ v cl:=by
 obtain⟨p1,p2,p3⟩:=a0b hv;rw[h.1] at p1;refine⟨p2,p3,p1,fun i r hr=>?_⟩;obtain⟨row,hrow⟩:=a0S (show i<rows.length by rw[h.1];exact(Qv.1 hr).1);obtain⟨a,g,b,rfl,ha,hg,hb⟩:=h.2 i r row hr hrow;exact⟨a,g,b,XY ha,XY hg,ORd.plain hb,fun off n hn=>⟨_,a0V hv hrow,fun _ _ _ _=>b3v rfl (by rw[X5];simp only[Qh,Qf];omega)⟩⟩
theorem b6h.snoc{cl:List Rn}{rows:List (List PV)}{r:Rn}{row:List PV}(h:b6h cl rows)(hr:PRn r row):b6h (cl++[r]) (rows++[row]):=by
 refine⟨by simp[h.1],fun i x y hx hy=>?_⟩;by_cases hi:i<cl.length
 ·rw[X6 hi] at hx
  rw[X6 (by rw[h.1];exact hi)] at hy;exact h.2 i x y hx hy
 ·have hl:i=cl.length:=by have:=(Qv.1 hx).1;simp at this;omega
  subst hl;rw[QH (by omega)] at hx;rw[<- h.1,QH (by omega)] at hy;simp at hx hy;subst hx hy;exact hr
theorem b6h.take{cl:List Rn}{rows:List (List PV)}(h:b6h cl rows)(n:Nat):b6h (cl.take n) (rows.take n):=by
 refine⟨by rw[QL,QL,h.1],fun i x y hx hy=>?_⟩;rw[X7] at hx hy;split at hx
 ·rename_i hi
  rw[Xp hi] at hy;exact h.2 i x y hx hy
 ·cases hx
theorem a6y{v:PV}{n k:Nat}{rows:List (List PV)}(h:v.rowsOf n=sM rows)(hl:XF k rows=tt):v.low k=tt:=by
 cases v<;>simp only[PV.rowsOf,reduceCtorEq] at h
 ·rfl
 ·split at h
  ·cases h;exact hl
  ·cases h
theorem b3e(k:Nat)(l:List Bool):XF k (l.map fun b=>[Xq b])=tt:=by
 induction l with
 | nil=>rfl
 | cons b l ih=>rw[Qe];simpa[XF,XL,XS] using ih
theorem PRn.low{r:Rn}{row:List PV}(h:PRn r row)(k:Nat):XL k row=tt/\∀p∈row,p.one=tt:=by
 obtain⟨a,g,b,rfl,ha,hg,hb⟩:=h;refine⟨?_,fun p hp=>?_⟩
 ·simp only[XL,XS,a6y ha (b1X k _ 0),a6y hg (b1X k _ 0),a6y hb (b3e k _),Qd]
 ·have h1:=(a0b ha).2.2
  have h2:=(a0b hg).2.2;have h3:=(a0b hb).2.2;simp only[List.mem_cons,List.not_mem_nil,or_false] at hp;rcases hp with rfl|rfl|rfl|rfl|rfl|rfl|rfl|rfl|rfl
  all_goals first|rfl|assumption
theorem b6h.low{cl:List Rn}{rows:List (List PV)}(h:b6h cl rows)(k:Nat):XF k rows=tt:=by
 have hm:∀row∈rows,XL k row=tt:=fun row hr=>by
  obtain⟨i,hi⟩:=X8 hr;obtain⟨r,hr⟩:=a0S (show i<cl.length by rw[<- h.1];exact(Qv.1 hi).1);exact((h.2 i r row hr hi).low k).1
 clear h
 induction rows with
 | nil=>rfl
 | cons r rows ih=>simp only[XF,hm r (by simp),Bool.true_and];exact ih fun q hq=>hm q (by simp[hq])
structure RcAt (VC VB VH VO:PV)(rows:List (List PV))(c:Ck):Prop where
 cl:VC.rowsOf 9=sM rows
 rs:b6h c.cl rows
 ask:VB.rowsOf 6=sM (c.ask.map Xg)
 bid:VH.rowsOf 1=sM (c.bid.map fun b=>[Xq b])
 out:VO.rowsOf 1=sM (c.out.map fun b=>[Xq b])
 la:c.ask.length=c.out.length
 lb:c.bid.length=c.out.length
def c9o(s:St)(o:Po)(l:List PV)(c:Ck):Prop:=∃VC VB VH VO rows,l=ckL s o VC VB VH VO c.p c.over/\RcAt VC VB VH VO rows c
theorem d7F:∀l:List Bool,a8y 1 l.length (l.map Xq)=sM (l.map fun b=>[Xq b])
 | []=>rfl
 | b::l=>by
  rw[Qh,Qe,a8y,Xp ⟨by simp,rfl⟩];simp only[QY,Qm,d7F l,Q1,Qq,Qr,Qe]
theorem e0M{ρ:PEnv}{h N:Nat}{l:List W6}{T:Nat}(hh:ρ.m[h]?=sM (.cells (l.map Xg).flatten T))(hk:ρ.k<=h)(hN:N=l.length):(PV.msl h 0 N N 6).frz ρ.k (a6e ρ 3)=sM (.sl 6 (l.map Xg)):=by
 subst hN;have h1:¬h<ρ.k:=by omega
 have h2:∀look,XK ρ.k look (l.map Xg).flatten=sM (l.map Xg).flatten:=fun _=>XZ _ (b0o ρ.k l 0)
 simp only[Xy,Xu h1,a6e,hh,Q0,h2,Q1,MO.list,Qj,Xx,Qm,d4r]
theorem d5T{ρ:PEnv}{h N:Nat}{l:List Bool}{T:Nat}(hh:ρ.m[h]?=sM (.cells (l.map Xq) T))(hk:ρ.k<=h)(hN:N=l.length):(PV.msl h 0 N N 1).frz ρ.k (a6e ρ 3)=sM (.sl 1 (l.map fun b=>[Xq b])):=by
 subst hN;have h1:¬h<ρ.k:=by omega
 have h2:∀look,XK ρ.k look (l.map Xq)=sM (l.map Xq):=fun _=>XZ _ (b2d ρ.k l 0)
 simp only[Xy,Xu h1,a6e,hh,Q0,h2,Q1,MO.list,Qj,Xx,Qm,d7F]
theorem d7N{ρ:PEnv}{h N:Nat}{l:List W6}{T:Nat}(hh:ρ.m[h]?=sM (.row (l.map Xg) 6 T))(hk:ρ.k<=h)(hN:N=l.length):(PV.rsl h N 6).frz ρ.k (a6e ρ 3)=sM (.sl 6 (l.map Xg)):=by
 subst hN;have h1:¬h<ρ.k:=by omega
 simp only[Xy,Xu h1,a6e,hh,Q0,e6U,Q1,MO.elts,Qb,XJ,Xx]
theorem d8N{ρ:PEnv}{h N:Nat}{l:List Bool}{T:Nat}(hh:ρ.m[h]?=sM (.row (l.map fun b=>[Xq b]) 1 T))(hk:ρ.k<=h)(hN:N=l.length):(PV.rsl h N 1).frz ρ.k (a6e ρ 3)=sM (.sl 1 (l.map fun b=>[Xq b])):=by
 subst hN;have h1:¬h<ρ.k:=by omega
 have h2:∀look,XV ρ.k look (l.map fun b=>[Xq b])=sM (l.map fun b=>[Xq b]):=fun _=>PV.frzss_low _ (b3e ρ.k l) fun r hr=>by obtain⟨w,_,rfl⟩:=List.mem_map.1 hr;rfl
 simp only[Xy,Xu h1,a6e,hh,Q0,h2,Q1,MO.elts,Qb,XJ,Xx]
section
variable {s:St}{o:Po}{σ M:List MO}(hσ:Low σ)(hM:M.length≠σ.length)(hT:M.take σ.length=σ)(hP:s.P.low σ.length=tt/\s.B.low σ.length=tt/\s.C.low σ.length=tt/\s.A.low σ.length=tt)
include hσ hM hT hP
theorem d4E{is:List Int}{bs:List Bool}{vs:List PV}{VC va vb vd va' vb' vd':PV}{p:W6}{ov:Bool}(hC:VC.low σ.length=tt)(ha:va.frz σ.length (a6e {i:=is,b:=bs,v:=vs,m:=M,k:=σ.length} 3)=sM va')(hb:vb.frz σ.length (a6e {i:=is,b:=bs,v:=vs,m:=M,k:=σ.length} 3)=sM vb')(hd:vd.frz σ.length (a6e {i:=is,b:=bs,v:=vs,m:=M,k:=σ.length} 3)=sM vd') :
  a0n {i:=is,b:=bs,v:=vs,m:=M,k:=σ.length} ff (.agg (ckL s o VC va vb vd p ov))=sM (.agg (ckL s o VC va' vb' vd' p ov),σ) /\
  ∀e,a0n {i:=is,b:=bs,v:=vs,m:=M,k:=σ.length} ff (.tup [.agg (ckL s o VC va vb vd p ov),.int .i64 e])=sM (.tup [.agg (ckL s o VC va' vb' vd' p ov),.int .i64 e],σ):=by
 have hl:QZ σ (MO.low σ.length)=tt:=hσ;have f1:∀look,Xy σ.length look s.P=sM s.P:=fun look=>Xz _ hP.1
 have f2:∀look,Xy σ.length look s.B=sM s.B:=fun look=>Xz _ hP.2.1
 have f3:∀look,Xy σ.length look s.C=sM s.C:=fun look=>Xz _ hP.2.2.1
 have f4:∀look,Xy σ.length look s.A=sM s.A:=fun look=>Xz _ hP.2.2.2
 have f5:∀look,Xy σ.length look VC=sM VC:=fun look=>Xz _ hC
 refine⟨?_,fun e=>?_⟩
 ·unfold a0n
  simp only[Q8,false_or,Xu hM,hT,hl,Xx,Xy,XK,ckL,f1,f2,f3,f4,f5,ha,hb,hd,Q0,Q1]
 ·unfold a0n
  simp only[Q8,false_or,Xu hM,hT,hl,Xx,Xy,XK,ckL,f1,f2,f3,f4,f5,ha,hb,hd,Q0,Q1]
end
section
variable (σ:List MO)(x y z x':MO)
theorem c8o:(σ++[x]++[y]++[z])[σ.length]?=sM x:=by
 rw[Qn,Qn,QH (Qj _),Nat.sub_self];rfl
theorem c8n:(σ++[x]++[y]++[z])[σ.length+1]?=sM y:=by
 rw[Qn,Qn,QH (by omega),X9];rfl
theorem c8k:(σ++[x]++[y]++[z])[σ.length+1+1]?=sM z:=by
 rw[Qn,Qn,QH (by omega),show σ.length+1+1-σ.length=2 by omega];rfl
theorem f6l:(σ++[x]++[y]++[z]).set σ.length x'=σ++[x']++[y]++[z]:=by
 simp only[Qn];rw[QA _ _ (Qj _),Nat.sub_self];rfl
theorem f6g:(σ++[x]++[y]++[z]).set (σ.length+1) x'=σ++[x]++[x']++[z]:=by
 simp only[Qn];rw[QA _ _ (by omega),X9];rfl
theorem f6s:(σ++[x]++[y]++[z]).set (σ.length+1+1) x'=σ++[x]++[y]++[x']:=by
 simp only[Qn];rw[QA _ _ (by omega),show σ.length+1+1-σ.length=2 by omega];rfl
end
theorem f1H(N:Nat):(Q9 N [PV.int .i64 0,.int .i64 0,.int .i64 0,.int .i64 0,.int .i64 0,.int .i64 0]).flatten=(List.map Xg (Q9 N w0)).flatten:=by
 rw[List.map_replicate];rfl
theorem f2H(N:Nat):(Q9 N [Xq ff]).flatten=List.map Xq (Q9 N ff):=by
 induction N with
 | zero=>rfl
 | succ N ih=>rw[Xa,Xa,Qe,List.flatten_cons,ih];rfl
section
variable {s:St}{cs ad:List Tri}(hs:SuOk s cs ad){o:Po}{σ:List MO}(hσ:Low σ){VC VB VH VO:PV}{rows:List (List PV)}{c:Ck}(k:RcAt VC VB VH VO rows c)(hN:c.out.length<=1000)(n:Nat)
include hs hσ k hN
theorem c6M(p:W6)(ov:Bool)(hn:1<=n):a0a Tab n 75 [.agg (ckL s o VC VB VH VO p ov)] σ=sM (.agg (ckL s o VC (.sl 6 ((Q9 c.out.length w0).map Xg)) (.sl 1 ((Q9 c.out.length ff).map fun b=>[Xq b])) VO p ov),σ):=by
 obtain⟨n,rfl⟩:=a0L n (by omega);obtain⟨_,_,p3⟩:=a0b hs.P;obtain⟨_,_,b3⟩:=a0b hs.B;obtain⟨_,_,c3⟩:=a0b hs.C;obtain⟨_,_,a3⟩:=a0b hs.A;have vc3:=(a0b k.cl).2.2;have vb3:=(a0b k.ask).2.2;have vh3:=(a0b k.bid).2.2;obtain⟨vo1,vo2,vo3⟩:=a0b k.out;rw[Qb] at vo1;have cN:(0:Int)<=(c.out.length:Int)/\(c.out.length:Int)<=1000000:=by omega
 have hl1:∀x:MO,(σ++[x]).length=σ.length+1:=fun x=>by simp
 have hlow:=hs.low σ.length
 have R:=fun is bs vs=>(d4E (s:=s) (o:=o) (σ:=σ) (M:=σ++[.cells ((Q9 c.out.length w0).map Xg).flatten 51]++[.cells ((Q9 c.out.length ff).map Xq) 4]) hσ (by simp) (by rw[Qn,Qz]) hlow (is:=is) (bs:=bs) (vs:=vs) (VC:=VC) (va:=.msl σ.length 0 c.out.length c.out.length 6) (vb:=.msl (σ.length+1) 0 c.out.length c.out.length 1) (vd:=VO) (p:=p) (ov:=ov) (a6y k.cl (k.rs.low _))
  (e0M (ρ:={i:=is,b:=bs,v:=vs,m:=_,k:=σ.length}) (l:=Q9 c.out.length w0) (T:=51) (by simp) (Qj _) (by simp)) (d5T (ρ:={i:=is,b:=bs,v:=vs,m:=_,k:=σ.length}) (l:=Q9 c.out.length ff) (T:=4) (by simp) (by simp) (by simp)) (Xz _ (a6y k.out (b3e _ _)))).1
 simp only[ckL] at R;rw[a0a];simp only[b0F,Q0,XC,ckL];show ((a0i [.sh (.agg [_,_,_,_,_,_,_,_,_,_,_,_,_,_,_,_,_,_,_])] _).bind _)=_;simp only[a0i,a0m,a0c,Q1,Q0,Qa,Xx,p3,b3,c3,a3,vc3,vb3,vh3,vo3];show (Xt _ a4i _).bind _=_;simp only[a4i,↓reduceIte,a0j,a0h,a2v,Xk,Xn,Xh,PEnv.at,Q2,Q3,Q4,Q6,Q1,Q0,Q7,Q5,Xr,Xj,vo1,vo2,cN.1,cN.2,Qs,XJ,Nat.reduceLeDiff,f1H,f2H,hl1,R]
end
section
variable {s:St}{cs ad:List Tri}(hs:SuOk s cs ad)(o:Po)(σ:List MO)(hσ:Low σ)(n:Nat)
include hs
theorem f1g(he:b8H s.ps s.bs cs ad o≠0)(hn:1200<=n):∃l,a0a Tab n 10 [.agg s.pv,.agg o.row] σ=sM (.tup [.agg l,.int .i64 (b8H s.ps s.bs cs ad o)],σ)/\l=[.nilS,.nilS,.nilS,.nilS,.int .i64 0,.int .i64 0,.int .i64 0,.int .i64 0,.nilS,.int .i64 0,.int .i64 0,.int .i64 0,.int .i64 0,.int .i64 0,.int .i64 0,.nilS,.nilS,.nilS,.bool ff]:=by
 obtain⟨n,rfl⟩:=a0L n (by omega);obtain⟨_,_,p3⟩:=a0b hs.P;obtain⟨_,_,b3⟩:=a0b hs.B;obtain⟨_,_,c3⟩:=a0b hs.C;obtain⟨_,_,a3⟩:=a0b hs.A;have k1:=b5a σ s.ps s.bs cs ad s.P s.B s.C s.A hs.P hs.B hs.C hs.A n (by omega);have k2:=b0K σ n o (by omega);have e5:=a3l;simp only[a5l] at k1 k2;refine⟨_,?_,rfl⟩;rw[a0a];simp only[b9R,Q0,XC,XQ,a5l];show ((a0i [.sh (.agg [_,_,_,_]),.sh (.agg [_,_,_,_])] _).bind _)=_;simp only[a0i,a0m,a0c,Q1,Q0,Qa,Q5,Xx,p3,b3,c3,a3];show (Xt _ a5g _).bind _=_;unfold b8H at he ⊢;by_cases h1:a8s s.ps s.bs cs ad=0
 ·rw[Xp h1] at he ⊢
  simp only[a5g,↓reduceIte,a0j,a0e,a0h,a0A,Xk,Xn,Xh,PEnv.at,Q2,Q3,Q4,Q6,Q8,a0c,a0w,a0m,Q1,Q0,Xs,Q7,Q5,Qa,Xr,Xj,Qt,k1,k2,e5,dT0 h1,dF0 he,a0n,Xv]
 ·rw[Xu h1]
  simp only[a5g,↓reduceIte,a0j,a0e,a0h,a0A,Xk,Xn,Xh,PEnv.at,Q2,Q3,Q4,Q6,Q8,a0c,a0w,a0m,Q1,Q0,Xs,Q7,Q5,Xr,Xj,Qt,k1,e5,dF0 h1,a0n,Xv]
include hσ in
set_option maxHeartbeats 4000000 in
theorem f1q(he:b8H s.ps s.bs cs ad o=0)(hn:1200<=n):∃l,a0a Tab n 10 [.agg s.pv,.agg o.row] σ=sM (.tup [.agg l,.int .i64 0],σ)/\c9o s o l (ck0 s.ps s.bs.length):=by
 obtain⟨n,rfl⟩:=a0L n (by omega)
 have hv:a8s s.ps s.bs cs ad=0:=by
  unfold b8H at he;split at he
  ·assumption
  ·exact he
 have ho:o.ok:=by
  unfold b8H at he;rw[Xp hv] at he;unfold a6U at he;split at he
  ·assumption
  ·cases he
 obtain⟨l1,l2,l3,l4,l5⟩:=XM hv;obtain⟨_,_,p3⟩:=a0b hs.P;obtain⟨b1,b2,b3⟩:=a0b hs.B;rw[Qb] at b1;obtain⟨_,_,c3⟩:=a0b hs.C;obtain⟨_,_,a3⟩:=a0b hs.A;have k1:=b5a σ s.ps s.bs cs ad s.P s.B s.C s.A hs.P hs.B hs.C hs.A n (by omega);have k2:=b0K σ n o (by omega);rw[hv] at k1;rw[show a6U o=0 from Xp ho] at k2;have k4:=fun M=>e9h M s.ps s.P hs.P l1 n (by omega)
 have cN:(0:Int)<=(s.bs.length:Int)/\(s.bs.length:Int)<=1000000:=by omega
 have hl1:∀x:MO,(σ++[x]).length=σ.length+1:=fun x=>by simp
 have hl2:∀x y:MO,(σ++[x]++[y]).length=σ.length+1+1:=fun x y=>by simp
 have hlow:=hs.low σ.length
 have R:=fun (X Y Z:MO) (ha hb hd:Nat) (k1:σ.length<=ha) (k2:σ.length<=hb) (k3:σ.length<=hd) (g1:(σ++[X]++[Y]++[Z])[ha]?=sM (.cells ((Q9 s.bs.length w0).map Xg).flatten 51)) (g2:(σ++[X]++[Y]++[Z])[hb]?=sM (.cells ((Q9 s.bs.length ff).map Xq) 4)) (g3:(σ++[X]++[Y]++[Z])[hd]?=sM (.cells ((Q9 s.bs.length ff).map Xq) 4)) (is:List Int) (bs:List Bool) (vs:List PV) =>
  (d4E (s:=s) (o:=o) (σ:=σ) (M:=σ++[X]++[Y]++[Z]) hσ (by simp) (by rw[Qn,Qn,Qz]) hlow (is:=is) (bs:=bs) (vs:=vs) (VC:=.nilS) (va:=.msl ha 0 s.bs.length s.bs.length 6) (vb:=.msl hb 0 s.bs.length s.bs.length 1) (vd:=.msl hd 0 s.bs.length s.bs.length 1) (p:=a8m s.ps) (ov:=ff) rfl
  (e0M (ρ:={i:=is,b:=bs,v:=vs,m:=_,k:=σ.length}) (l:=Q9 s.bs.length w0) (T:=51) g1 k1 (by simp)) (d5T (ρ:={i:=is,b:=bs,v:=vs,m:=_,k:=σ.length}) (l:=Q9 s.bs.length ff) (T:=4) g2 k2 (by simp)) (d5T (ρ:={i:=is,b:=bs,v:=vs,m:=_,k:=σ.length}) (l:=Q9 s.bs.length ff) (T:=4) g3 k3 (by simp))).2 0
 have R1:=R (.cells ((Q9 s.bs.length w0).map Xg).flatten 51) (.cells ((Q9 s.bs.length ff).map Xq) 4) (.cells ((Q9 s.bs.length ff).map Xq) 4) σ.length (σ.length+1) (σ.length+1+1) (by omega) (by omega) (by omega) (c8o _ _ _ _) (c8n _ _ _ _) (c8k _ _ _ _);have R2:=R (.cells ((Q9 s.bs.length w0).map Xg).flatten 51) (.cells ((Q9 s.bs.length ff).map Xq) 4) (.cells ((Q9 s.bs.length ff).map Xq) 4) σ.length (σ.length+1+1) (σ.length+1) (by omega) (by omega) (by omega) (c8o _ _ _ _) (c8k _ _ _ _) (c8n _ _ _ _);have R3:=R (.cells ((Q9 s.bs.length ff).map Xq) 4) (.cells ((Q9 s.bs.length w0).map Xg).flatten 51) (.cells ((Q9 s.bs.length ff).map Xq) 4) (σ.length+1) σ.length (σ.length+1+1) (by omega) (by omega) (by omega) (c8n _ _ _ _) (c8o _ _ _ _) (c8k _ _ _ _);have R4:=R (.cells ((Q9 s.bs.length ff).map Xq) 4) (.cells ((Q9 s.bs.length w0).map Xg).flatten 51) (.cells ((Q9 s.bs.length ff).map Xq) 4) (σ.length+1) (σ.length+1+1) σ.length (by omega) (by omega) (by omega) (c8n _ _ _ _) (c8k _ _ _ _) (c8o _ _ _ _);have R5:=R (.cells ((Q9 s.bs.length ff).map Xq) 4) (.cells ((Q9 s.bs.length ff).map Xq) 4) (.cells ((Q9 s.bs.length w0).map Xg).flatten 51) (σ.length+1+1) σ.length (σ.length+1) (by omega) (by omega) (by omega) (c8k _ _ _ _) (c8o _ _ _ _) (c8n _ _ _ _);have R6:=R (.cells ((Q9 s.bs.length ff).map Xq) 4) (.cells ((Q9 s.bs.length ff).map Xq) 4) (.cells ((Q9 s.bs.length w0).map Xg).flatten 51) (σ.length+1+1) (σ.length+1) σ.length (by omega) (by omega) (by omega) (c8k _ _ _ _) (c8n _ _ _ _) (c8o _ _ _ _);simp only[ckL] at R1 R2 R3 R4 R5 R6;clear R;simp only[a5l,pv6] at k1 k2 k4;have e0:eqB 0 0=tt:=rfl;refine⟨ckL s o .nilS (.sl 6 ((Q9 s.bs.length w0).map Xg)) (.sl 1 ((Q9 s.bs.length ff).map fun b=>[Xq b])) (.sl 1 ((Q9 s.bs.length ff).map fun b=>[Xq b])) (a8m s.ps) ff,?_,⟨_,_,_,_,[],rfl,⟨rfl,⟨rfl,fun i r row h=>by simp[ck0] at h⟩,a1x _ _,a1x _ _,a1x _ _,by simp[ck0],by simp[ck0]⟩⟩⟩;rw[a0a];simp only[b9R,Q0,XC,XQ,a5l];show ((a0i [.sh (.agg [_,_,_,_]),.sh (.agg [_,_,_,_])] _).bind _)=_;simp only[a0i,a0m,a0c,Q1,Q0,Qa,Q5,Xx,p3,b3,c3,a3]
 have E:Xt (a0a Tab n) a5g {i:=[o.st,o.pc,o.un,o.ru],b:=[],v:=[s.P,s.B,s.C,s.A],m:=σ,k:=σ.length}=sM (.ret (.tup [.agg (ckL s o .nilS (.sl 6 ((Q9 s.bs.length w0).map Xg)) (.sl 1 ((Q9 s.bs.length ff).map fun b=>[Xq b])) (.sl 1 ((Q9 s.bs.length ff).map fun b=>[Xq b])) (a8m s.ps) ff),.int .i64 0]) σ):=by
  simp only[a5g,↓reduceIte,a0j,a0e,a0h,a0A,Xk,Xn,Xh,PEnv.at,Q2,Q3,Q4,Q6,Q8,a0c,a0w,a0m,Q1,Q0,Xs,Q7,Q5,Qa,Xr,Xj,Qk,k1,k2,e0,b2]
  repeat' (first|with_reducible rfl|apply a4n|simp only[↓reduceIte,a0j,a0A,a2v,Xk,Xn,Xh,PEnv.at,Q2,Q3,Q4,Q6,a0c,a0w,a0m,Q1,Q0,Xs,Q7,Q5,Xr,Xj,ckL,k4,b1,cN.1,cN.2,Qs,XJ,Nat.reduceLeDiff,f1H,f2H,hl1,hl2,R1,R2,R3,R4,R5,R6]|unfold b9d|unfold b9q|unfold b9j|unfold b8S|unfold b9p|unfold b8W|unfold b9h|unfold b8U|unfold b9o|unfold b6K|unfold b7u|unfold b7x|unfold b7Q|unfold b7C|unfold b7G|unfold b8r|unfold b7i|unfold b7X|unfold b7J|unfold b6L|unfold b6Q|unfold b7g|unfold b7k|unfold b6N|unfold b6J|unfold b7r|unfold b6R|unfold b7P|unfold b7z|unfold b6C|unfold b7n|unfold b7Z|unfold b6I|unfold b7F|unfold b7T|unfold b7Y|unfold b8b|unfold b7V|unfold b8l|unfold b7o|unfold b8n|unfold b7K|unfold b6E|unfold b8v|unfold b7h|unfold b6W|unfold b7e|unfold b6H|unfold b8o|unfold b6P|unfold b7c|unfold b6Z|unfold b7d|unfold b6G|unfold b7p|unfold b7t|unfold b7U|unfold b7B|unfold b6V|unfold b7D|unfold b6A|unfold b8m|unfold b8w|unfold b7y|unfold b7s|unfold b6F|unfold b7H|unfold b7M|unfold b6M|unfold b8p|unfold b7A|unfold b8a|unfold b6B|unfold b8c|unfold b7E|unfold b7b|unfold b7O|unfold b7m|unfold b8g|unfold b7L|unfold b6S|unfold b8f|unfold b7W|unfold b6U|unfold b7w|unfold b6O|unfold b7R|unfold b7f|unfold b8d|unfold b6T|unfold b8u|unfold b7N)
 show ((Xt (a0a Tab n) a5g _).bind _)=_;exact(congrArg (Qw · _) E).trans rfl
end
section
variable {s:St}{cs ad:List Tri}(hs:SuOk s cs ad){o:Po}{σ:List MO}{VC VB VH VO:PV}{rows:List (List PV)}{c:Ck}(k:RcAt VC VB VH VO rows c)(n:Nat)
def d8K(σ:List MO)(s:St)(o:Po)(i j:Int)(O VC VB VH VO:PV)(p:W6)(ov:Bool):PEnv:={i:=[i,j,o.st,o.pc,o.un,o.ru,p.a,p.b,p.c,p.d,p.e,p.f],b:=[ov],v:=[O,s.P,s.B,s.C,s.A,VC,VB,VH,VO],m:=σ,k:=σ.length}
include k in
theorem f2Z(p:W6)(ov:Bool)(hl:c.cl.length<=100){i:Nat}(hio:i<c.out.length)(hi:∀r∈c.cl,i<r.ask.length):∀d j,j+d=c.cl.length->∀(O:PV),O.rowsOf 12=sM (((c.cl.take j).map fun r=>(⟨r.p,wa r.ask i⟩:Ch)).map XG)->∀fuel,d+1<=fuel ->
  ∃L,a2F.loop (a0a Tab n) fuel 0 (d8K σ s o (i:Int) (j:Int) O VC VB VH VO p ov)=sM (L,σ)/\L.rowsOf 12=sM ((c.chs i).map XG):=by
 obtain⟨v1,v2,v3⟩:=a0b k.cl;rw[k.rs.1] at v1;obtain⟨o1,o2,o3⟩:=a0b k.out;rw[Qb] at o1;intro d
 induction d with
 | zero =>
  intro j hj O hO fuel hf;obtain⟨fuel,rfl⟩:=a0L fuel (by omega);obtain rfl:j=c.cl.length:=by omega
  have hd:ltB (c.cl.length:Int) (c.cl.length:Int)=ff:=by rw[a0G];omega
  refine⟨O,?_,by rw[QK] at hO;exact hO⟩;rw[XA,show a2F.loops[0]?=sM a2b from rfl];simp only[Q0,d8K,a2b,↓reduceIte,a0j,a0e,a0h,Xk,Xn,Xh,PEnv.at,Q2,Q3,Q4,Q8,Q1,Q0,Xj,v1,v2,hd,a0n,Xv]
 | succ d ih =>
  intro j hj O hO fuel hf;obtain⟨fuel,rfl⟩:=a0L fuel (by omega);obtain⟨r,hr⟩:=a0S (show j<c.cl.length by omega);obtain⟨row,hrow⟩:=a0S (show j<rows.length by rw[k.rs.1];omega);obtain⟨a,g,b,rfl,ba,bg,bb⟩:=k.rs.2 j r row hr hrow;have q1:=a0V (off:=0) k.cl hrow;have q2:=a0V (off:=6) k.cl hrow;have hir:=hi r (Qy hr);obtain⟨w,hw⟩:=a0S hir;obtain⟨a1,a2,a3⟩:=a0b ba;rw[Qb] at a1;have u1:=a0V (off:=0) ba (show (r.ask.map Xg)[i]?=sM w.pv by rw[Qp,hw];rfl);have hd:ltB (j:Int) (c.cl.length:Int)=tt:=by rw[a0U];omega
  have hd2:ltB (i:Int) (r.ask.length:Int)=tt:=by rw[a0U];omega
  have hd3:ltB (i:Int) (c.out.length:Int)=tt:=by rw[a0U];omega
  have hup:=a2N (show j<=1000000000 by omega);have t1:(0:Nat)+1<=1000000:=by decide
  have t2:(((c.cl.take j).map fun r=>(⟨r.p,wa r.ask i⟩:Ch)).map XG).length+1<=1000000:=by simp;omega
  have t3:(((c.cl.take j).map fun r=>(⟨r.p,wa r.ask i⟩:Ch)).map XG).length<=999999:=by omega
  obtain⟨L',e1,e2⟩:=ih (j+1) (by omega) (.sl 12 (((c.cl.take j).map fun r=>(⟨r.p,wa r.ask i⟩:Ch)).map XG++[(⟨r.p,w⟩:Ch).row])) (by
   rw[a1x,QW,hr,QX,X0,X0,Qe,Qe,Qg,Qg,c3J hw]) fuel (by omega)
  refine⟨L',?_,e2⟩;have oO:=(a0b hO).2.2;rw[<- e1,a1o,XA,show a2F.loops[0]?=sM a2b from rfl];generalize ((c.cl.take j).map fun r=>(⟨r.p,wa r.ask i⟩:Ch)).map XG=RW at *
  rw[pv6] at u1;simp only[Q0,d8K,a2b,↓reduceIte,a0e,a0h,a0F,a2j,a0s,Xk,Xn,Xh,PEnv.at,Q2,Q3,Q4,Q6,a0H,a0x,a1g,Qm,Qh,Qf,Nat.reduceAdd,Qj,Qq,Qr,a0c,Q1,Q0,Xs,Q7,Q5,Qa,Xr,Xj,Xw,Qd,Qe,Qg,a1O,QM,QD,QN,QE,hd,hd2,hd3,le0,v1,v2,o1,o2,q1,q2,a1,a3,u1,QY,Nat.reduceLeDiff,hO,a1x,Xp t3,Xp hup,a2T]
include hs k in
theorem d5r(p:W6)(ov:Bool)(hl:c.cl.length<=100)(hi:∀r∈c.cl,r.ask.length=c.out.length)(i:Int)(hn:110<=n):∃L,a0a Tab n 35 [.agg (ckL s o VC VB VH VO p ov),.int .i64 i] σ=sM (L,σ)/\L.rowsOf 12=sM ((if c.has i=tt then c.chs i.toNat else []).map XG):=by
 obtain⟨n,rfl⟩:=a0L n (by omega);obtain⟨_,_,p3⟩:=a0b hs.P;obtain⟨_,_,b3⟩:=a0b hs.B;obtain⟨_,_,c3⟩:=a0b hs.C;obtain⟨_,_,a3⟩:=a0b hs.A;obtain⟨v1,v2,vc3⟩:=a0b k.cl;rw[k.rs.1] at v1;have vb3:=(a0b k.ask).2.2;have vh3:=(a0b k.bid).2.2;obtain⟨o1,o2,vo3⟩:=a0b k.out;rw[Qb] at o1
 have go:∀L,XA (a0a Tab n) a2F n 0 (d8K σ s o i 0 .nilS VC VB VH VO p ov)=sM (L,σ)->a0a Tab (n+1) 35 [.agg (ckL s o VC VB VH VO p ov),.int .i64 i] σ=sM (L,σ):=fun L hL=>by
  rw[a0a];simp only[c0A,Q0,XC,ckL];show ((a0i [.sh (.agg [_,_,_,_,_,_,_,_,_,_,_,_,_,_,_,_,_,_,_]),.sh (.one _)] _).bind _)=_;simp only[a0i,a0m,a0c,Q1,Q0,Qa,Q5,Q7,Xx,p3,b3,c3,a3,vc3,vb3,vh3,vo3];show (Xt _ a7T _).bind _=_;simp only[a7T,↓reduceIte,a0s,Xk,Xn,Xh,Q2,Q3,Q4,Q6,Q1,Q0,Xr,Xj,Xw,Qe,Qg];exact hL
 cases hh:c.has i with
 | false =>
  refine⟨.nilS,go _ ?_,rfl⟩;obtain⟨n,rfl⟩:=a0L n (by omega);rw[XA,show a2F.loops[0]?=sM a2b from rfl];unfold Ck.has at hh;cases h0:ltB 0 (c.cl.length:Int) with
  | false=>simp only[Q0,d8K,a2b,↓reduceIte,a0j,a0e,a0h,Xk,Xn,Xh,PEnv.at,Q2,Q3,Q4,Q8,Q1,Q0,Xj,v1,v2,h0,a0n,Xv]
  | true =>
   cases h1:leB 0 i with
   | false=>simp only[Q0,d8K,a2b,↓reduceIte,a0j,a0e,a0h,Xk,Xn,Xh,PEnv.at,Q2,Q3,Q4,Q8,Q1,Q0,Xj,v1,v2,h0,h1,a0n,Xv]
   | true =>
    rw[h1,Bool.true_and] at hh;simp only[Q0,d8K,a2b,↓reduceIte,a0j,a0e,a0h,Xk,Xn,Xh,PEnv.at,Q2,Q3,Q4,Q8,Q1,Q0,Xj,v1,v2,o1,o2,h0,h1,hh,a0n,Xv]
 | true =>
  have hh':=hh;unfold Ck.has at hh';rw[QP,a2O,a0U] at hh';obtain⟨j,rfl⟩:∃j:Nat,i=(j:Int):=⟨i.toNat,by omega⟩;obtain⟨L,e1,e2⟩:=f2Z (σ:=σ) (s:=s) (o:=o) k n p ov hl (i:=j) (by omega) (fun r hr=>by rw[hi r hr];omega) c.cl.length 0 (by omega) .nilS rfl n (by omega);exact⟨L,go _ e1,by rw[Xp rfl,Qs];exact e2⟩
end
theorem f2M{σ M:List MO}(h:∀x,x<σ.length->M[x]?=σ[x]?):M.take σ.length=σ:=by
 refine List.ext_getElem? fun x=>?_
 rw[X7];split
 ·rename_i hx;exact h x hx
 ·rename_i hx;exact(List.getElem?_eq_none_iff.2 (by omega)).symm
theorem f6v{σ M:List MO}(hσ:Low σ)(hT:M.take σ.length=σ)(is:List Int)(bs:List Bool)(vs:List PV)(z:Bool):a0n {i:=is,b:=bs,v:=vs,m:=M,k:=σ.length} ff (.bool z)=sM (.bool z,σ):=by
 unfold a0n;dsimp only;split
 ·rename_i h
  rcases h with h|h
  ·cases h
  ·rw[List.take_of_length_le (by omega)] at hT;rw[hT]
 ·have hl:QZ σ (MO.low σ.length)=tt:=hσ
  rw[hT,Xp hl];rfl
def ag0(M:List MO)(K h:Nat)(s:St)(o:Po)(i:Int)(VC VB VH VO:PV)(p:W6)(ov:Bool):PEnv:={i:=[i,o.st,o.pc,o.un,o.ru,p.a,p.b,p.c,p.d,p.e,p.f],b:=[ov],v:=[.ref h 0,s.P,s.B,s.C,s.A,VC,VB,VH,VO],m:=M,k:=K}
def ag1(M:List MO)(K h:Nat)(s:St)(o:Po)(i j:Int)(L L' VC VB VH VO:PV)(p:W6)(ov:Bool):PEnv:={i:=[i,j,o.st,o.pc,o.un,o.ru,p.a,p.b,p.c,p.d,p.e,p.f],b:=[ov],v:=[.ref h 0,L,L',s.P,s.B,s.C,s.A,VC,VB,VH,VO],m:=M,k:=K}
section
variable {s:St}{o:Po}{h:Nat}{VC VB VH VO:PV}{rows:List (List PV)}{c:Ck}(k:RcAt VC VB VH VO rows c)(M:List MO)(K n:Nat)
theorem f4L(L L':PV)(l:List Ch)(hL:L.rowsOf 12=sM (l.map XG))(hL':L'.rowsOf 12=sM (l.map XG))(hl:l.length<=1000)(i:Int)(hi:-1<=i/\i<=1000):∀d j,j+d=l.length->∀fuel,
  a2M.loop (a0a Tab n) (fuel+d+1) 1 (ag1 M K h s o i (j:Int) L L' VC VB VH VO c.p c.over)=a2M.loop (a0a Tab n) fuel 0 (ag0 M K h s o (i+1) VC VB VH VO c.p c.over):=by
 obtain⟨q1,q2,q3⟩:=a0b hL;obtain⟨u1,u2,u3⟩:=a0b hL';rw[Qb] at q1 u1;intro d
 induction d with
 | zero =>
  intro j hj fuel;obtain rfl:j=l.length:=by omega
  have nl:ltB (l.length:Int) (l.length:Int)=ff:=(a0G ..).2 (by omega);have hup:=a1K (z:=i+1) (by omega);rw[XA,show a2M.loops[1]?=sM a6u from rfl];simp only[Q0,ag1,ag0,a6u,↓reduceIte,a0e,a0h,a0s,Xk,Xn,Xh,PEnv.at,Q2,Q3,Q4,Q6,Q8,Q1,Q0,Xr,Xj,Xw,Qd,Qe,Qg,q1,q2,nl,Xp hup]
 | succ d ih =>
  intro j hj fuel;obtain⟨x,hx⟩:=a0S (show j<l.length by omega);have r1:=a0V (off:=0) hL (show (l.map XG)[j]?=sM x.row by rw[Qp,hx];rfl);have r2:=a0V (off:=0) hL' (show (l.map XG)[j]?=sM x.row by rw[Qp,hx];rfl);have lt:ltB (j:Int) (l.length:Int)=tt:=a0U.2 (by omega);have hup:=a2N (show j<=1000000000 by omega);have e0:∀a:Int,eqB a a=tt:=fun a=>dT0 rfl
  have ih:=ih (j+1) (by omega) fuel;rw[a2T] at r1 r2;rw[<- ih,a1o,show fuel+(d+1)+1=(fuel+d+1)+1 by omega,XA,show a2M.loops[1]?=sM a6u from rfl];simp only[Q0,ag1,a6u,↓reduceIte,a0j,a0e,a0h,a0F,a0s,Xk,Xn,Xh,PEnv.at,Q2,Q3,Q4,Q6,a0H,a0x,a1g,Qm,Qh,Qf,Nat.reduceAdd,Qj,Q8,Qq,Qr,a0c,Q1,Q0,Xs,Q7,Q5,Qa,Xr,Xj,Xw,Qd,Qk,Qe,Qg,q1,q2,u1,lt,le0,r1,r2,e0,Xp hup]
end
section
variable {s:St}{cs ad:List Tri}(hs:SuOk s cs ad){o:Po}{σ:List MO}{h:Nat}{F:Nat->Prop}{c:Ck}(kk:b4z s o σ h F c)(hσ:Low σ){VC VB VH VO:PV}{rows:List (List PV)}(k:RcAt VC VB VH VO rows c){N:Nat}(hk:CkOk N c)(hN:N<=100)(n:Nat)
include hs kk hσ k hk hN
theorem f5A(M:List MO)(hM:b4z s o M h F c)(hold:M.take σ.length=σ)(hn:120<=n):∀(d:Nat) (i:Int),i+d=(N:Int)+1->-1<=i->∀fuel,d*34+1<=fuel ->
  a2M.loop (a0a Tab n) fuel 0 (ag0 M σ.length h s o i VC VB VH VO c.p c.over)=sM (.bool tt,σ):=by
 obtain⟨vcl,ha,hb,hd,R,q,hF⟩:=hM;obtain⟨_,_,p3⟩:=a0b hs.P;obtain⟨_,_,b3⟩:=a0b hs.B;obtain⟨_,_,c3⟩:=a0b hs.C;obtain⟨_,_,a3⟩:=a0b hs.A;have vc3:=(a0b k.cl).2.2;have vb3:=(a0b k.ask).2.2;have vh3:=(a0b k.bid).2.2;obtain⟨o1,o2,vo3⟩:=a0b k.out;rw[Qb,hk.out] at o1;have hcl:=hk.cl;intro d
 induction d with
 | zero =>
  intro i hi h1 fuel hf;obtain⟨fuel,rfl⟩:=a0L fuel (by omega);have nl:leB i (N:Int)=ff:=(a4Y ..).2 (by omega);have R:=f6v hσ hold;rw[XA,show a2M.loops[0]?=sM a6v from rfl];simp only[Q0,ag0,a6v,↓reduceIte,a0j,a0e,a0h,Xk,Xn,Xh,PEnv.at,Q2,Q3,Q8,Q1,Q0,Xj,o1,o2,nl,R]
 | succ d ih =>
  intro i hi h1 fuel hf;have hia:∀r∈c.cl,r.ask.length=c.out.length:=fun r hr=>by rw[(hk.rn r hr).2.1,hk.out]
  obtain⟨L,e1,e2⟩:=d7t q n (by omega) hia i (by omega);obtain⟨L',f1,f2⟩:=d5r hs (o:=o) (σ:=M) k n c.p c.over (by omega) hia i (by omega);generalize hl:(if c.has i=tt then c.chs i.toNat else [])=l at e2 f2
  have hll:l.length<=30:=by
   rw[<- hl];split
   ·rw[d1k];omega
   ·simp
  obtain⟨fuel,rfl⟩:∃k,fuel=k+l.length+1+1:=⟨fuel-l.length-2,by omega⟩;have s1:=f4L (s:=s) (o:=o) (h:=h) (VC:=VC) (VB:=VB) (VH:=VH) (VO:=VO) (c:=c) M σ.length n L L' l e2 f2 (by omega) i (by omega) l.length 0 (by omega) fuel;have s2:=ih (i+1) (by omega) (by omega) fuel (by omega);rw[s2] at s1;have lt:leB i (N:Int)=tt:=a2O.2 (by omega);obtain⟨q1,q2,q3⟩:=a0b e2;obtain⟨u1,u2,u3⟩:=a0b f2;rw[Qb] at q1 u1;have e0:∀a:Int,eqB a a=tt:=fun a=>dT0 rfl
  have s1:a2M.loop (a0a Tab n) (fuel+l.length+1) 1 (ag1 M σ.length h s o i 0 L L' VC VB VH VO c.p c.over)=sM (.bool tt,σ):=s1;simp only[ckL] at e1 f1;rw[<- s1,XA,show a2M.loops[0]?=sM a6v from rfl];simp only[Q0,ag0,ag1,a6v,↓reduceIte,a0j,a0e,a0h,a0A,a0s,Xk,Xn,Xh,PEnv.at,Q2,Q3,Q4,Q6,Q8,a0c,a0w,a0m,Q1,Q0,Xs,Q7,Q5,Qa,Xr,Xj,Xw,Qk,Qe,Qg,o1,o2,lt,e1,f1,q1,q2,q3,u1,u2,u3,e0,]
theorem f1f(hn:4000<=n):a0a Tab n 11 [.ref h 0,.agg (ckL s o VC VB VH VO c.p c.over)] σ=sM (.bool tt,σ):=by
 obtain⟨n,rfl⟩:=a0L n (by omega);have kk0:=kk;obtain⟨vcl,ha,hb,hd,R,q,hF⟩:=kk;obtain⟨_,_,p3⟩:=a0b hs.P;obtain⟨_,_,b3⟩:=a0b hs.B;obtain⟨_,_,c3⟩:=a0b hs.C;obtain⟨_,_,a3⟩:=a0b hs.A;obtain⟨v1,v2,vc3⟩:=a0b k.cl;rw[k.rs.1] at v1;have vb3:=(a0b k.ask).2.2;have vh3:=(a0b k.bid).2.2;have vo3:=(a0b k.out).2.2;have hcl:=hk.cl;have g1:=d5a q n (by omega);have g2:=d7A q n (by omega);have g3:=d9N q n (by omega);obtain⟨M,O,rw',g4,m1,m2,m3,m4,m5⟩:=e9k q hσ (fun r hr=>by obtain⟨_,h1,h2,h3,_⟩:=hk.rn r hr;omega) (by omega) n (by omega)
 have g5:=e8F (f3M m4 m5) (k.rs.rr k.cl) (N:=N) (fun r hr=>by obtain⟨_,h1,h2,h3,_⟩:=hk.rn r hr;exact⟨h1,h2,h3⟩) (by omega) (by omega) n (by
  have:c.cl.length*(N+2)<=30*102:=Nat.mul_le_mul hcl (by omega)
  omega)
 have oO:=(a0b m4).2.2;have key:=f5A hs kk0 hσ k hk hN n M (kk0.frame m2 fun x hx=>m1 x (kk0.bd x hx)) (f2M m1) (by omega) (N+2) (-1) (by omega) (by omega) n (by omega);have e0:∀a:Int,eqB a a=tt:=fun a=>dT0 rfl
 have ez:(c.over||!c.over)=tt:=by cases c.over<;>rfl
 simp only[pv6] at g1 g2 g3 g4 g5;rw[a0a];simp only[c7N,Q0,XC,ckL];show ((a0i [.sh (.one _),.sh (.agg [_,_,_,_,_,_,_,_,_,_,_,_,_,_,_,_,_,_,_])] _).bind _)=_;simp only[a0i,a0m,a0c,Q1,Q0,Qa,Q5,Q7,Xx,p3,b3,c3,a3,vc3,vb3,vh3,vo3,b3G];show (Xt _ b2u _).bind _=_;simp only[b2u,↓reduceIte,a0j,a0e,a0h,a0A,a0s,Xk,Xn,Xh,PEnv.at,Q2,Q3,Q4,Q6,Q8,a0c,a0w,a0m,Q1,Q0,Xs,Q7,Q5,Qa,Xr,Xj,Xw,Qd,Qk,Qe,Qg,g1,g2,g3,g4,g5,e0,ez,v1,v2,oO];exact key
end
def ROk(s:St)(o:Po)(σ:List MO)(c':Ck)(e:Int)(res:Option (PV×List MO)):Prop:=∃l,res=sM (.tup [.agg l,.int .i64 e],σ)/\c9o s o l c'
theorem d5u(h n sz:Nat):PV.len (.rsl h n sz)=(n:Int):=rfl
theorem f4T(b:Bool):XH (.bool b)=tt:=rfl
theorem e9e(z:Int):XH (.int .i64 z)=tt:=rfl
theorem slO(n:Nat)(rows:List (List PV)):XH (.sl n rows)=tt:=rfl
section
variable {s:St}{cs ad:List Tri}(hs:SuOk s cs ad){o:Po}{σ:List MO}(hσ:Low σ){VC VB VH VO:PV}{rows:List (List PV)}{c:Ck}(k:RcAt VC VB VH VO rows c)(hN:c.out.length<=1000)(n:Nat)
include hs hσ k hN
theorem RcAt.blank{VC':PV}{rows':List (List PV)}{cl':List Rn}{p':W6}{ov':Bool}(hC:VC'.rowsOf 9=sM rows')(hR:b6h cl' rows'):RcAt VC' (.sl 6 ((Q9 c.out.length w0).map Xg)) (.sl 1 ((Q9 c.out.length ff).map fun b=>[Xq b])) VO rows' {c.blank with cl:=cl',p:=p',over:=ov'} :=
 have _h1:=hs;have _h2:=hσ;have _h3:=hN
 ⟨hC,hR,a1x _ _,a1x _ _,k.out,by simp[XW],by simp[XW]⟩
theorem f2x(hn:2<=n):ROk s o σ c.stop.1 c.stop.2 (a0a Tab n 40 [.agg (ckL s o VC VB VH VO c.p c.over)] σ):=by
 obtain⟨n,rfl⟩:=a0L n (by omega);obtain⟨_,_,p3⟩:=a0b hs.P;obtain⟨_,_,b3⟩:=a0b hs.B;obtain⟨_,_,c3⟩:=a0b hs.C;obtain⟨_,_,a3⟩:=a0b hs.A;have vc3:=(a0b k.cl).2.2;have vb3:=(a0b k.ask).2.2;have vh3:=(a0b k.bid).2.2;have vo3:=(a0b k.out).2.2;have c1:=c6M hs (o:=o) hσ k hN n c.p tt (by omega)
 have go:∀r,Xt (a0a Tab n) a4Q {i:=[o.st,o.pc,o.un,o.ru,c.p.a,c.p.b,c.p.c,c.p.d,c.p.e,c.p.f],b:=[c.over],v:=[s.P,s.B,s.C,s.A,VC,VB,VH,VO],m:=σ,k:=σ.length}=sM (.ret r.1 r.2)->a0a Tab (n+1) 40 [.agg (ckL s o VC VB VH VO c.p c.over)] σ=sM r:=fun r hr=>by
  rw[a0a];simp only[c2B,Q0,XC,ckL];show ((a0i [.sh (.agg [_,_,_,_,_,_,_,_,_,_,_,_,_,_,_,_,_,_,_])] _).bind _)=_;simp only[a0i,a0m,a0c,Q1,Q0,Qa,Xx,p3,b3,c3,a3,vc3,vb3,vh3,vo3];show (Xt _ a4Q _).bind _=_;exact(congrArg (Qw · _) hr).trans rfl
 obtain hov|hov:c.over=tt\/c.over=ff:=by cases c.over<;>simp
 ·have e:c.stop=(c,10):=by unfold Ck.stop;rw[Xp hov]
  rw[e];refine⟨ckL s o VC VB VH VO c.p c.over,go (_,_) ?_,VC,VB,VH,VO,rows,rfl,k⟩;rw[hov];simp only[a4Q,↓reduceIte,a0j,a0e,Xk,Xn,Xh,Q2,Q3,Q4,Q6,Q8,Q1,Q0,Xr,Xj,a0n,Xv,ckL]
 ·have e:c.stop=({c.blank with over:=tt},0):=by unfold Ck.stop;rw[Xu (by rw[hov];simp)]
  rw[e];refine⟨_,go (_,_) ?_,VC,_,_,VO,rows,rfl,k.blank hs hσ hN k.cl k.rs⟩;rw[hov];simp only[ckL] at c1;simp only[a4Q,↓reduceIte,a0j,a0e,a0A,Xk,Xn,Xh,Q2,Q3,Q4,Q6,Q8,a0c,a0w,a0m,Q1,Q0,Xs,Q7,Q5,Xr,Xj,c1,p3,b3,c3,a3,vc3,slO,vo3,a0n,Xv,ckL];rfl
theorem f1b(hcl:c.cl.length<=100)(i:Int)(hn:2<=n):ROk s o σ (c.reset i).1 (c.reset i).2 (a0a Tab n 42 [.agg (ckL s o VC VB VH VO c.p c.over),.int .i64 i] σ):=by
 obtain⟨n,rfl⟩:=a0L n (by omega);obtain⟨_,_,p3⟩:=a0b hs.P;obtain⟨_,_,b3⟩:=a0b hs.B;obtain⟨_,_,c3⟩:=a0b hs.C;obtain⟨_,_,a3⟩:=a0b hs.A;obtain⟨v1,v2,vc3⟩:=a0b k.cl;rw[k.rs.1] at v1;have vb3:=(a0b k.ask).2.2;have vh3:=(a0b k.bid).2.2;have vo3:=(a0b k.out).2.2
 have go:∀r,Xt (a0a Tab n) a2S {i:=[o.st,o.pc,o.un,o.ru,c.p.a,c.p.b,c.p.c,c.p.d,c.p.e,c.p.f,i],b:=[c.over],v:=[s.P,s.B,s.C,s.A,VC,VB,VH,VO],m:=σ,k:=σ.length}=sM (.ret r.1 r.2)->a0a Tab (n+1) 42 [.agg (ckL s o VC VB VH VO c.p c.over),.int .i64 i] σ=sM r:=fun r hr=>by
  rw[a0a];simp only[c1B,Q0,XC,ckL];show ((a0i [.sh (.agg [_,_,_,_,_,_,_,_,_,_,_,_,_,_,_,_,_,_,_]),.sh (.one _)] _).bind _)=_;simp only[a0i,a0m,a0c,Q1,Q0,Qa,Q5,Q7,Xx,p3,b3,c3,a3,vc3,vb3,vh3,vo3];show (Xt _ a2S _).bind _=_;exact(congrArg (Qw · _) hr).trans rfl
 have same:c9o s o (ckL s o VC VB VH VO c.p c.over) c:=⟨VC,VB,VH,VO,rows,rfl,k⟩;unfold Ck.reset;by_cases h1:i<0
 ·rw[Xp h1]
  refine⟨_,go (_,_) ?_,same⟩;simp only[a2S,↓reduceIte,a0j,a0e,Xk,Xn,Xh,Q2,Q3,Q4,Q6,Q8,Q1,Q0,Xr,Xj,(a0U (x:=i) (y:=0)).2 h1,a0n,Xv,ckL]
 rw[Xu h1];have e1:ltB i 0=ff:=(a0G ..).2 (by omega);by_cases h2:(c.cl.length:Int)<i
 ·rw[Xp h2]
  refine⟨_,go (_,_) ?_,same⟩;simp only[a2S,↓reduceIte,a0j,a0e,a0h,Xk,Xn,Xh,PEnv.at,Q2,Q3,Q4,Q6,Q8,Q1,Q0,Xr,Xj,e1,v1,v2,(a0U (x:=(c.cl.length:Int)) (y:=i)).2 h2,a0n,Xv,ckL]
 rw[Xu h2];have e2:ltB (c.cl.length:Int) i=ff:=(a0G ..).2 (by omega);obtain⟨j,rfl⟩:∃j:Nat,i=(j:Int):=⟨i.toNat,by omega⟩;by_cases h3:j=c.cl.length
 ·
  subst h3;have e3:eqB (c.cl.length:Int) (c.cl.length:Int)=tt:=dT0 rfl;have e4:ltB (c.cl.length:Int) (c.cl.length:Int)=ff:=(a0G ..).2 (by omega);obtain hov|hov:c.over=tt\/c.over=ff:=by cases c.over<;>simp
  ·rw[Xp ⟨rfl,hov⟩]
   refine⟨_,go (_,_) ?_,same⟩;rw[hov];simp only[a2S,↓reduceIte,a0j,a0e,a0h,Xk,Xn,Xh,PEnv.at,Q2,Q3,Q4,Q6,Q8,Q1,Q0,Xr,Xj,e1,e2,e3,v1,v2,a0n,Xv,ckL]
  ·rw[Xu (by rw[hov];simp)]
   have c1:=c6M hs (o:=o) hσ k hN n c.p ff (by omega);refine⟨_,go (_,_) ?_,VC,.sl 6 ((Q9 c.out.length w0).map Xg),.sl 1 ((Q9 c.out.length ff).map fun b=>[Xq b]),VO,rows,rfl,?_⟩
   ·rw[hov]
    simp only[ckL] at c1;simp only[a2S,↓reduceIte,a0j,a0e,a0h,a0A,Xk,Xn,Xh,PEnv.at,Q2,Q3,Q4,Q6,Q8,a0c,a0w,a0m,Q1,Q0,Xs,Q7,Q5,Xr,Xj,e1,e2,e3,v1,v2,c1,p3,b3,c3,a3,vc3,slO,vo3,a0n,Xv,ckL];simp only[Qs,List.getElem?_eq_none (Qj c.cl.length),Option.map_none,Option.getD_none]
   ·refine k.blank hs hσ hN k.cl ?_
    rw[Qs,QK];exact k.rs
 ·have hj:j<c.cl.length:=by omega
  have e3:eqB (j:Int) (c.cl.length:Int)=ff:=dF0 (by omega);have e4:ltB (j:Int) (c.cl.length:Int)=tt:=(a0U ..).2 (by omega);rw[Xu (by omega)];obtain⟨r,hr⟩:=a0S hj;obtain⟨row,hrow⟩:=a0S (show j<rows.length by rw[k.rs.1];exact hj);obtain⟨a,g,b,rfl,ha,hg,hb⟩:=k.rs.2 j r row hr hrow;have q1:=a0V (off:=0) k.cl hrow;have kk:RcAt (.sl 9 ([]++rows.take j)) VB VH VO (rows.take j) {c with cl:=c.cl.take j}:=⟨by rw[Q5];exact a1x _ _,k.rs.take j,k.ask,k.bid,k.out,k.la,k.lb⟩;have c1:=c6M hs (o:=o) hσ kk hN n r.p ff (by omega);have t0:(0:Nat)<=1000000:=by decide
  have t1:(rows.take j).length<=1000000:=by rw[QL,k.rs.1];omega
  have hcut:(0:Int)<=0/\(0:Int)<=(j:Int)/\(j:Int)<=(rows.length:Int):=by rw[k.rs.1];omega
  have z0:(0:Int).toNat=0:=rfl;refine⟨_,go (_,_) ?_,.sl 9 ([]++rows.take j),.sl 6 ((Q9 c.out.length w0).map Xg),.sl 1 ((Q9 c.out.length ff).map fun b=>[Xq b]),VO,rows.take j,rfl,?_⟩
  ·simp only[ckL,Q5] at c1
   simp only[a2S,↓reduceIte,a0j,a0e,a0h,a0F,a2j,b0i,a0A,Xk,Xn,Xh,PEnv.at,Q2,Q3,Q4,Q6,a0H,a0x,a1g,X1,Qm,Qh,Qf,Nat.reduceAdd,Q8,Qq,Qr,a0c,a0w,a0m,Q1,Q0,Xs,Q7,Q5,Qa,Xr,Xj,Qd,a1O,QD,QE,e1,e2,e3,e4,le0,v1,v2,q1,Nat.reduceLeDiff,Qf,a1x,k.cl,a5M,a5P,Xp hcut,z0,Qm,Qs,QB,Xp t1,c1,p3,b3,c3,a3,slO,vo3,a0n,Xv,ckL,hr,Q1,Xb,Q5]
  ·rw[Qs]
   exact k.blank hs hσ hN kk.cl (k.rs.take j)
end
section
variable {s:St}{cs ad:List Tri}(hs:SuOk s cs ad){o:Po}{σ:List MO}(hσ:Low σ){VC VB VH VO:PV}{rows:List (List PV)}{c:Ck}(k:RcAt VC VB VH VO rows c)(hN:c.out.length<=1000)(n:Nat)
include hs hσ k hN
set_option maxHeartbeats 4000000 in
theorem f1Q(hN0:0<c.out.length)(i:Int)(hn:1<=n):ROk s o σ (c.drop i).1 (c.drop i).2 (a0a Tab n 41 [.agg (ckL s o VC VB VH VO c.p c.over),.int .i64 i] σ):=by
 obtain⟨n,rfl⟩:=a0L n (by omega);obtain⟨_,_,p3⟩:=a0b hs.P;obtain⟨_,_,b3⟩:=a0b hs.B;obtain⟨_,_,c3⟩:=a0b hs.C;obtain⟨_,_,a3⟩:=a0b hs.A;have vc3:=(a0b k.cl).2.2;obtain⟨b1,b2,vb3⟩:=a0b k.ask;rw[Qb,k.la] at b1;obtain⟨h1,h2,vh3⟩:=a0b k.bid;rw[Qb,k.lb] at h1;obtain⟨o1,o2,vo3⟩:=a0b k.out;rw[Qb] at o1
 have go:∀r,Xt (a0a Tab n) a3v {i:=[o.st,o.pc,o.un,o.ru,c.p.a,c.p.b,c.p.c,c.p.d,c.p.e,c.p.f,i],b:=[c.over],v:=[s.P,s.B,s.C,s.A,VC,VB,VH,VO],m:=σ,k:=σ.length}=sM (.ret r.1 r.2)->a0a Tab (n+1) 41 [.agg (ckL s o VC VB VH VO c.p c.over),.int .i64 i] σ=sM r:=fun r hr=>by
  rw[a0a];simp only[c1Q,Q0,XC,ckL];show ((a0i [.sh (.agg [_,_,_,_,_,_,_,_,_,_,_,_,_,_,_,_,_,_,_]),.sh (.one _)] _).bind _)=_;simp only[a0i,a0m,a0c,Q1,Q0,Qa,Q5,Q7,Xx,p3,b3,c3,a3,vc3,vb3,vh3,vo3];show (Xt _ a3v _).bind _=_;exact(congrArg (Qw · _) hr).trans rfl
 have same:c9o s o (ckL s o VC VB VH VO c.p c.over) c:=⟨VC,VB,VH,VO,rows,rfl,k⟩;unfold Ck.drop;by_cases hi0:i<0
 ·have hh:c.has i=ff:=by unfold Ck.has;rw[show leB 0 i=ff from(a4Y ..).2 (by omega),Xc]
  rw[hh];refine⟨_,go (_,_) ?_,same⟩;unfold a3v
  repeat (first|rw[a2E]|rw[a0A]|rw[a0e]|rw[a0h]|rw[a0F]|rw[a1s]|rw[a2v]|rw[a2X]|rw[a2j]|rw[a2w]|rw[a0s]|rw[a0j])<;>simp only[↓reduceIte,Xk,Xn,Xh,Q2,Q3,Q4,Q6,Q8,Q1,Q0,Xr,Xj,(a0U (x:=i) (y:=0)).2 hi0,a0n,Xv,ckL]
 obtain⟨j,rfl⟩:∃j:Nat,i=(j:Int):=⟨i.toNat,by omega⟩;have e1:ltB (j:Int) 0=ff:=(a0G ..).2 (by omega);by_cases hj:j<c.out.length
 case neg =>
  have hh:c.has (j:Int)=ff:=by unfold Ck.has;rw[show ltB (j:Int) (c.out.length:Int)=ff from(a0G ..).2 (by omega),Xd]
  rw[hh];refine⟨_,go (_,_) ?_,same⟩;unfold a3v
  repeat (first|rw[a2E]|rw[a0A]|rw[a0e]|rw[a0h]|rw[a0F]|rw[a1s]|rw[a2v]|rw[a2X]|rw[a2j]|rw[a2w]|rw[a0s]|rw[a0j])<;>simp only[↓reduceIte,Xk,Xn,Xh,PEnv.at,Q2,Q3,Q4,Q6,Q8,Q1,Q0,Xr,Xj,e1,o1,o2,(a2O (x:=(c.out.length:Int)) (y:=(j:Int))).2 (by omega),a0n,Xv,ckL]
 have hh:c.has (j:Int)=tt:=by unfold Ck.has;rw[show leB 0 (j:Int)=tt from(a2O ..).2 (by omega),show ltB (j:Int) (c.out.length:Int)=tt from(a0U ..).2 (by omega)];rfl
 have e2:leB (c.out.length:Int) (j:Int)=ff:=(a4Y ..).2 (by omega);have e3:ltB (j:Int) (c.out.length:Int)=tt:=(a0U ..).2 (by omega);obtain⟨b,hb⟩:=a0S hj;have q1:=a0V (off:=0) k.out (show (c.out.map fun b=>[Xq b])[j]?=sM [.bool b] by rw[Qp,hb];rfl);rw[hh,Xp rfl,Qs,hb];cases b with
 | true =>
  refine⟨_,go (_,_) ?_,same⟩;unfold a3v
  repeat (first|rw[a2E]|rw[a0A]|rw[a0e]|rw[a0h]|rw[a0F]|rw[a1s]|rw[a2v]|rw[a2X]|rw[a2j]|rw[a2w]|rw[a0s]|rw[a0j])<;>simp only[↓reduceIte,Xk,Xn,Xh,PEnv.at,Q2,Q3,Q4,Q6,a0H,a0x,a1g,Qm,Qh,Qf,Nat.reduceAdd,Qj,Q8,Qq,Qr,a0c,Q1,Q0,Xs,Q7,Q5,Xr,Xj,Qd,e1,e2,e3,le0,o1,o2,q1,a0n,Xv,ckL]
 | false =>
  rw[Xu (by simp)];have e4:eqB (c.out.length:Int) 0=ff:=dF0 (by omega);obtain⟨w,hw⟩:=a0S (show j<c.ask.length by rw[k.la];exact hj);obtain⟨z,hz⟩:=a0S (show j<c.bid.length by rw[k.lb];exact hj);have lo:(c.out.map fun b=>[Xq b]).length=c.out.length:=Qb _;have la:(c.ask.map Xg).length=c.out.length:=by rw[Qb,k.la]
  have lb:(c.bid.map fun b=>[Xq b]).length=c.out.length:=by rw[Qb,k.lb]
  have g1:(c.out.map fun b=>[Xq b])[j]?=sM [.bool ff]:=by rw[Qp,hb];rfl
  have g2:(c.ask.map Xg)[j]?=sM [.int .i64 w.a,.int .i64 w.b,.int .i64 w.c,.int .i64 w.d,.int .i64 w.e,.int .i64 w.f]:=by rw[Qp,hw];rfl
  have g3:(c.bid.map fun b=>[Xq b])[j]?=sM [.bool z]:=by rw[Qp,hz];rfl
  have s1:(c.out.map fun b=>[Xq b]).set j [.bool tt]=(c.out.set j tt).map fun b=>[Xq b]:=by rw[QC]
  have s2:(c.ask.map Xg).set j [.int .i64 0,.int .i64 0,.int .i64 0,.int .i64 0,.int .i64 0,.int .i64 0]=(c.ask.set j w0).map Xg:=by rw[QC];rfl
  have s3:(c.bid.map fun b=>[Xq b]).set j [.bool ff]=(c.bid.set j ff).map fun b=>[Xq b]:=by rw[QC]
  have p1:∀x y:PV,a3Y [x] 0 [y]=[y]:=fun _ _=>rfl
  have p6:∀a b c d e f a' b' c' d' e' f':PV,a3Y [a,b,c,d,e,f] 0 [a',b',c',d',e',f']=[a',b',c',d',e',f']:=fun _ _ _ _ _ _ _ _ _ _ _ _=>rfl
  have lc1:=c3u (h:=σ.length) (sz:=1) (off:=0) hj;have lc2:=c3u (h:=σ.length+1) (sz:=6) (off:=0) hj;have lc3:=c3u (h:=σ.length+1+1) (sz:=1) (off:=0) hj;have hl1:∀x:MO,(σ++[x]).length=σ.length+1:=fun x=>by simp
  have hl2:∀x y:MO,(σ++[x]++[y]).length=σ.length+1+1:=fun x y=>by simp
  have tN:c.out.length<=1000000:=by omega
  have tz:¬c.out.length=0:=by omega
  have hlow:=hs.low σ.length
  have R:=fun is bs vs=>(d4E (s:=s) (o:=o) (σ:=σ) (M:=σ++[.row ((c.out.set j tt).map fun b=>[Xq b]) 1 4]++[.row ((c.ask.set j w0).map Xg) 6 51]++[.row ((c.bid.set j ff).map fun b=>[Xq b]) 1 4]) hσ (by simp) (by rw[Qn,Qn,Qz]) hlow (is:=is) (bs:=bs) (vs:=vs) (VC:=VC) (va:=.rsl (σ.length+1) c.out.length 6) (vb:=.rsl (σ.length+1+1) c.out.length 1) (vd:=.rsl σ.length c.out.length 1) (p:=c.p) (ov:=c.over) (a6y k.cl (k.rs.low _))
   (d7N (ρ:={i:=is,b:=bs,v:=vs,m:=_,k:=σ.length}) (l:=c.ask.set j w0) (c8n _ _ _ _) (by simp) (by rw[Qu,k.la])) (d8N (ρ:={i:=is,b:=bs,v:=vs,m:=_,k:=σ.length}) (l:=c.bid.set j ff) (c8k _ _ _ _) (by simp;omega) (by rw[Qu,k.lb])) (d8N (ρ:={i:=is,b:=bs,v:=vs,m:=_,k:=σ.length}) (l:=c.out.set j tt) (c8o _ _ _ _) (Qj _) (by rw[Qu]))).2 0
  refine⟨_,go (_,_) ?_,VC,.sl 6 ((c.ask.set j w0).map Xg),.sl 1 ((c.bid.set j ff).map fun b=>[Xq b]),.sl 1 ((c.out.set j tt).map fun b=>[Xq b]),rows,rfl,k.cl,k.rs,a1x _ _,a1x _ _,a1x _ _,by simp only[Qu];exact k.la,by simp only[Qu];exact k.lb⟩;simp only[ckL] at R;unfold a3v
  repeat (first|rw[a2E]|rw[a0A]|rw[a0e]|rw[a0h]|rw[a0F]|rw[a1s]|rw[a2v]|rw[a2X]|rw[a2j]|rw[a2w]|rw[a0s]|rw[a0j])<;>simp only[↓reduceIte,Xk,Xn,Xh,PEnv.at,Q2,Q3,Q4,Q6,a0H,a0x,a1g,Qm,Qh,Qf,Nat.reduceAdd,Qj,Q8,Qq,Qr,a0c,Q1,Q0,Xs,Q7,Q5,Xr,Xj,Qd,a1O,e1,e2,e3,e4,le0,o1,o2,b1,b2,h1,h2,q1,k.out,k.ask,k.bid,lo,la,lb,Xp tN,Xu tz,hl1,hl2,lc1,lc2,lc3,d5u,c8o,c8n,c8k,XJ,g1,g2,g3,p1,p6,s1,s2,s3,f6l,f6g,f6s,f4T,e9e,R,ckL,QQ,QS,QB]
end
section
variable {s:St}{cs ad:List Tri}(hs:SuOk s cs ad)(hv:a8s s.ps s.bs cs ad=0){o:Po}{σ:List MO}(hσ:Low σ){VC VB VH VO:PV}{rows:List (List PV)}{c:Ck}(k:RcAt VC VB VH VO rows c)(hk:CkOk s.bs.length c)(n:Nat)
include hs hv hσ k hk
set_option maxHeartbeats 4000000 in
theorem f4u(i:Int)(w:W6)(hn:1200000<=n):ROk s o σ (c.doBid s.ps s.bs cs ad o s i w).1 (c.doBid s.ps s.bs cs ad o s i w).2 (a0a Tab n 38 [.agg (ckL s o VC VB VH VO c.p c.over),.int .i64 i,.agg w.pv] σ):=by
 obtain⟨n,rfl⟩:∃k,n=k+1+1:=⟨n-2,by omega⟩;obtain⟨l1,l2,l3,l4,l5⟩:=XM hv;obtain⟨_,_,p3⟩:=a0b hs.P;obtain⟨_,_,b3⟩:=a0b hs.B;obtain⟨_,_,c3⟩:=a0b hs.C;obtain⟨_,_,a3⟩:=a0b hs.A;have vc3:=(a0b k.cl).2.2;obtain⟨b1,b2,vb3⟩:=a0b k.ask;rw[Qb,k.la] at b1;obtain⟨h1,h2,vh3⟩:=a0b k.bid;rw[Qb,k.lb] at h1;obtain⟨o1,o2,vo3⟩:=a0b k.out;rw[Qb] at o1;have hN:=hk.out
 have go:∀r,Xt (a0a Tab (n+1)) a2a {i:=[o.st,o.pc,o.un,o.ru,c.p.a,c.p.b,c.p.c,c.p.d,c.p.e,c.p.f,i,w.a,w.b,w.c,w.d,w.e,w.f],b:=[c.over],v:=[s.P,s.B,s.C,s.A,VC,VB,VH,VO],m:=σ,k:=σ.length}=sM (.ret r.1 r.2)->a0a Tab (n+1+1) 38 [.agg (ckL s o VC VB VH VO c.p c.over),.int .i64 i,.agg w.pv] σ=sM r:=fun r hr=>by
  rw[a0a];simp only[c3Q,Q0,XC,ckL,pv6];show ((a0i [.sh (.agg [_,_,_,_,_,_,_,_,_,_,_,_,_,_,_,_,_,_,_]),.sh (.one _),.sh (.agg [_,_,_,_,_,_])] _).bind _)=_;simp only[a0i,a0m,a0c,Q1,Q0,Qa,Q5,Q7,Xx,p3,b3,c3,a3,vc3,vb3,vh3,vo3];show (Xt _ a2a _).bind _=_;exact(congrArg (Qw · _) hr).trans rfl
 have no:∀e:Int,b4L s.ps s.bs cs ad o s c i w=e->e≠0->a0a Tab (n+1+1) 38 [.agg (ckL s o VC VB VH VO c.p c.over),.int .i64 i,.agg w.pv] σ=sM (.tup [.agg (ckL s o VC VB VH VO c.p c.over),.int .i64 e],σ)->ROk s o σ (c.doBid s.ps s.bs cs ad o s i w).1 (c.doBid s.ps s.bs cs ad o s i w).2 (a0a Tab (n+1+1) 38 [.agg (ckL s o VC VB VH VO c.p c.over),.int .i64 i,.agg w.pv] σ):=fun e he hne hev=>by
  unfold Ck.doBid;rw[he,Xu hne];exact⟨_,hev,VC,VB,VH,VO,rows,rfl,k⟩
 obtain hov|hov:c.over=tt\/c.over=ff:=by cases c.over<;>simp
 ·refine no 10 (by unfold b4L;rw[Xp hov]) (by decide) (go (_,_) ?_)
  unfold a2a
  repeat (first|rw[a2E]|rw[a0A]|rw[a0e]|rw[a0h]|rw[a0F]|rw[a1s]|rw[a2v]|rw[a2X]|rw[a2j]|rw[a2w]|rw[a0s]|rw[a0j])<;>simp only[↓reduceIte,Xk,Xn,Xh,Q2,Q3,Q4,Q6,Q8,Q1,Q0,Xr,Xj,hov,a0n,Xv,ckL]
 have hov':¬c.over=tt:=by rw[hov];simp
 by_cases hi0:i<0
 ·have hh:c.has i=ff:=by unfold Ck.has;rw[show leB 0 i=ff from(a4Y ..).2 (by omega),Xc]
  refine no 6 (by unfold b4L;rw[Xu hov',hh];rfl) (by decide) (go (_,_) ?_);unfold a2a
  repeat (first|rw[a2E]|rw[a0A]|rw[a0e]|rw[a0h]|rw[a0F]|rw[a1s]|rw[a2v]|rw[a2X]|rw[a2j]|rw[a2w]|rw[a0s]|rw[a0j])<;>simp only[↓reduceIte,Xk,Xn,Xh,Q2,Q3,Q4,Q6,Q8,Q1,Q0,Xr,Xj,hov,(a0U (x:=i) (y:=0)).2 hi0,a0n,Xv,ckL]
 obtain⟨j,rfl⟩:∃j:Nat,i=(j:Int):=⟨i.toNat,by omega⟩;have e1:ltB (j:Int) 0=ff:=(a0G ..).2 (by omega);by_cases hj:j<c.out.length
 case neg =>
  have hh:c.has (j:Int)=ff:=by unfold Ck.has;rw[show ltB (j:Int) (c.out.length:Int)=ff from(a0G ..).2 (by omega),Xd]
  refine no 6 (by unfold b4L;rw[Xu hov',hh];rfl) (by decide) (go (_,_) ?_);unfold a2a
  repeat (first|rw[a2E]|rw[a0A]|rw[a0e]|rw[a0h]|rw[a0F]|rw[a1s]|rw[a2v]|rw[a2X]|rw[a2j]|rw[a2w]|rw[a0s]|rw[a0j])<;>simp only[↓reduceIte,Xk,Xn,Xh,PEnv.at,Q2,Q3,Q4,Q6,Q8,Q1,Q0,Xr,Xj,hov,e1,o1,o2,(a2O (x:=(c.out.length:Int)) (y:=(j:Int))).2 (by omega),a0n,Xv,ckL]
 have hh:c.has (j:Int)=tt:=by unfold Ck.has;rw[show leB 0 (j:Int)=tt from(a2O ..).2 (by omega),show ltB (j:Int) (c.out.length:Int)=tt from(a0U ..).2 (by omega)];rfl
 have e2:leB (c.out.length:Int) (j:Int)=ff:=(a4Y ..).2 (by omega);have e3:ltB (j:Int) (c.out.length:Int)=tt:=(a0U ..).2 (by omega);obtain⟨b,hb⟩:=a0S hj;have q1:=a0V (off:=0) k.out (show (c.out.map fun b=>[Xq b])[j]?=sM [.bool b] by rw[Qp,hb];rfl);cases b with
 | true =>
  refine no 10 (by unfold b4L;rw[Xu hov',Xp hh,Qs,Xp hb]) (by decide) (go (_,_) ?_);unfold a2a
  repeat (first|rw[a2E]|rw[a0A]|rw[a0e]|rw[a0h]|rw[a0F]|rw[a1s]|rw[a2v]|rw[a2X]|rw[a2j]|rw[a2w]|rw[a0s]|rw[a0j])<;>simp only[↓reduceIte,Xk,Xn,Xh,PEnv.at,Q2,Q3,Q4,Q6,a0H,a0x,a1g,Qm,Qh,Qf,Nat.reduceAdd,Qj,Q8,Qq,Qr,a0c,Q1,Q0,Xs,Q7,Q5,Xr,Xj,Qd,hov,e1,e2,e3,le0,o1,o2,q1,a0n,Xv,ckL]
 | false =>
 have hbn:¬c.out[j]?=sM tt:=by rw[hb];simp
 have c2:=e4d σ s.ps s.bs cs ad s.P s.B s.C s.A hs.P hs.B hs.C hs.A (n+1) hv (j:Int) w (by omega);simp only[pv6] at c2
 have hbv:b4L s.ps s.bs cs ad o s c (j:Int) w=if b8F s.ps s.bs cs ad (j:Int) w=0 then(if c4k s (j:Int) ⟨c.p,w⟩=0 then c0W s o.ru (j:Int) (c.chs j) ⟨c.p,w⟩ (agB (c.chs j++[⟨c.p,w⟩])) else c4k s (j:Int) ⟨c.p,w⟩) else b8F s.ps s.bs cs ad (j:Int) w:=by
  unfold b4L;rw[Xu hov',Xp hh,Qs,Xu hbn]
 have e5:=a3l;by_cases v1:b8F s.ps s.bs cs ad (j:Int) w=0
 case neg =>
  refine no _ (by rw[hbv,Xu v1]) v1 (go (_,_) ?_);unfold a2a
  repeat (first|rw[a2E]|rw[a0A]|rw[a0e]|rw[a0h]|rw[a0F]|rw[a1s]|rw[a2v]|rw[a2X]|rw[a2j]|rw[a2w]|rw[a0s]|rw[a0j])<;>simp only[↓reduceIte,Xk,Xn,Xh,PEnv.at,Q2,Q3,Q4,Q6,a0H,a0x,a1g,Qm,Qh,Qf,Nat.reduceAdd,Qj,Q8,Qq,Qr,a0c,a0w,a0m,Q1,Q0,Xs,Q7,Q5,Xr,Xj,Qd,Qt,hov,e1,e2,e3,le0,o1,o2,q1,c2,e5,dF0 v1,a0n,Xv,ckL]
 have hw:=(e4c v1).2.2;have hx:(⟨c.p,w⟩:Ch).ok:=⟨hk.p,hw⟩;have c4:=c2Q σ s hs.ok (j:Int) ⟨c.p,w⟩ hx n (by omega) (c8O σ c.p w hk.p hw n (by omega));simp only[XQ,a2T] at c4;by_cases v2:c4k s (j:Int) ⟨c.p,w⟩=0
 case neg =>
  refine no _ (by rw[hbv,Xp v1,Xu v2]) v2 (go (_,_) ?_);unfold a2a
  repeat (first|rw[a2E]|rw[a0A]|rw[a0e]|rw[a0h]|rw[a0F]|rw[a1s]|rw[a2v]|rw[a2X]|rw[a2j]|rw[a2w]|rw[a0s]|rw[a0j])<;>simp only[↓reduceIte,Xk,Xn,Xh,PEnv.at,Q2,Q3,Q4,Q6,a0H,a0x,a1g,Qm,Qh,Qf,Nat.reduceAdd,Qj,Q8,Qq,Qr,a0c,a0w,a0m,Q1,Q0,Xs,Q7,Q5,Xr,Xj,Qd,Qt,hov,e1,e2,e3,le0,o1,o2,q1,c2,c4,e5,dT0 v1,dF0 v2,a0n,Xv,ckL]
 have hcl29:=hk.ov hov;obtain⟨L,c5,hL⟩:=d5r hs (o:=o) (σ:=σ) k (n+1) c.p c.over (by omega) (fun r hr=>by rw[(hk.rn r hr).2.1,hN]) (j:Int) (by omega);rw[Xp hh,Qs] at hL;obtain⟨_,_,oL⟩:=a0b hL
 have hag:w.ok->∀m,n+1<=m+2->m<=n+1->a0a Tab m 108 [.sl 12 ((c.chs j++[(⟨c.p,w⟩:Ch)]).map XG)] σ=sM (.bool (agB (c.chs j++[⟨c.p,w⟩])),σ):=fun _ m hm1 hm2=>by
  have hall:∀x∈c.chs j++[(⟨c.p,w⟩:Ch)],x.ok:=fun x hx'=>by
   rcases List.mem_append.1 hx' with hx'|hx'
   ·exact f4Q hk j x hx'
   ·rw[List.mem_singleton.1 hx'];exact hx
  obtain⟨b,e1,e2⟩:=e1m σ hσ.flat (c.chs j++[(⟨c.p,w⟩:Ch)]) _ (a1x _ _) hall (by rw[X2,d1k,X3];omega) m (by omega);rw[e1,show b=agB (c.chs j++[⟨c.p,w⟩]) from Bool.eq_iff_iff.2 (e2.trans ⟨fun h=>(e1a _).2 ⟨hall,h⟩,fun h=>((e1a _).1 h).2⟩)]
 have c6:=e5n σ s hs.ok o.ru (j:Int) (c.chs j) L hL (by rw[d1k];exact hcl29) ⟨c.p,w⟩ (n+1) (agB (c.chs j++[⟨c.p,w⟩])) (by omega) hag;simp only[XQ,a2T,ckL,hov] at c5 c6;by_cases v3:c0W s o.ru (j:Int) (c.chs j) ⟨c.p,w⟩ (agB (c.chs j++[⟨c.p,w⟩]))=0
 case neg =>
  refine no _ (by rw[hbv,Xp v1,Xp v2]) v3 (go (_,_) ?_);unfold a2a
  repeat (first|rw[a2E]|rw[a0A]|rw[a0e]|rw[a0h]|rw[a0F]|rw[a1s]|rw[a2v]|rw[a2X]|rw[a2j]|rw[a2w]|rw[a0s]|rw[a0j])<;>simp only[↓reduceIte,Xk,Xn,Xh,PEnv.at,Q2,Q3,Q4,Q6,a0H,a0x,a1g,Qm,Qh,Qf,Nat.reduceAdd,Qj,Q8,Qq,Qr,a0c,a0w,a0m,Q1,Q0,Xs,Q7,Q5,Xr,Xj,Qd,Qt,hov,e1,e2,e3,le0,o1,o2,q1,c2,c4,c5,oL,c6,e5,dT0 v1,dT0 v2,dF0 v3,a0n,Xv,ckL]
 have hz:b4L s.ps s.bs cs ad o s c (j:Int) w=0:=by rw[hbv,Xp v1,Xp v2];exact v3
 unfold Ck.doBid;rw[hz,Xp rfl,Qs];have e4:∀a:Nat,0<a->decide ((a:Int)=0)=ff:=fun a ha=>dF0 (by omega)
 have e4:=e4 c.out.length (by omega);obtain⟨u,hu⟩:=a0S (show j<c.ask.length by rw[k.la];exact hj);obtain⟨z,hz⟩:=a0S (show j<c.bid.length by rw[k.lb];exact hj);have la:(c.ask.map Xg).length=c.out.length:=by rw[Qb,k.la]
 have lb:(c.bid.map fun b=>[Xq b]).length=c.out.length:=by rw[Qb,k.lb]
 have g2:(c.ask.map Xg)[j]?=sM [.int .i64 u.a,.int .i64 u.b,.int .i64 u.c,.int .i64 u.d,.int .i64 u.e,.int .i64 u.f]:=by rw[Qp,hu];rfl
 have g3:(c.bid.map fun b=>[Xq b])[j]?=sM [.bool z]:=by rw[Qp,hz];rfl
 have s2:(c.ask.map Xg).set j [.int .i64 w.a,.int .i64 w.b,.int .i64 w.c,.int .i64 w.d,.int .i64 w.e,.int .i64 w.f]=(c.ask.set j w).map Xg:=by rw[QC];rfl
 have s3:(c.bid.map fun b=>[Xq b]).set j [.bool tt]=(c.bid.set j tt).map fun b=>[Xq b]:=by rw[QC]
 have p1:∀x y:PV,a3Y [x] 0 [y]=[y]:=fun _ _=>rfl
 have p6:∀a b c d e f a' b' c' d' e' f':PV,a3Y [a,b,c,d,e,f] 0 [a',b',c',d',e',f']=[a',b',c',d',e',f']:=fun _ _ _ _ _ _ _ _ _ _ _ _=>rfl
 have lc1:=c3u (h:=σ.length) (sz:=6) (off:=0) hj;have lc2:=c3u (h:=σ.length+1) (sz:=1) (off:=0) hj;have hl1:∀x:MO,(σ++[x]).length=σ.length+1:=fun x=>by simp
 have m1:∀x y:MO,(σ++[x]++[y])[σ.length]?=sM x:=fun x y=>by simp
 have m2:∀x y:MO,(σ++[x]++[y])[σ.length+1]?=sM y:=fun x y=>by simp
 have w1:∀x y x':MO,(σ++[x]++[y]).set σ.length x'=σ++[x']++[y]:=fun x y x'=>by simp[QA]
 have w2:∀x y x':MO,(σ++[x]++[y]).set (σ.length+1) x'=σ++[x]++[x']:=fun x y x'=>by simp[QA]
 have tN:c.out.length<=1000000:=by omega
 have tz:¬c.out.length=0:=by omega
 have hlow:=hs.low σ.length
 have R:=fun is bs vs=>(d4E (s:=s) (o:=o) (σ:=σ) (M:=σ++[.row ((c.ask.set j w).map Xg) 6 51]++[.row ((c.bid.set j tt).map fun b=>[Xq b]) 1 4]) hσ (by simp) (by rw[Qn,Qz]) hlow (is:=is) (bs:=bs) (vs:=vs) (VC:=VC) (va:=.rsl σ.length c.out.length 6) (vb:=.rsl (σ.length+1) c.out.length 1) (vd:=VO) (p:=c.p) (ov:=c.over) (a6y k.cl (k.rs.low _))
  (d7N (ρ:={i:=is,b:=bs,v:=vs,m:=_,k:=σ.length}) (l:=c.ask.set j w) (m1 _ _) (by simp) (by rw[Qu,k.la])) (d8N (ρ:={i:=is,b:=bs,v:=vs,m:=_,k:=σ.length}) (l:=c.bid.set j tt) (m2 _ _) (by simp) (by rw[Qu,k.lb])) (Xz _ (a6y k.out (b3e _ _)))).2 0
 refine⟨_,go (_,_) ?_,VC,.sl 6 ((c.ask.set j w).map Xg),.sl 1 ((c.bid.set j tt).map fun b=>[Xq b]),VO,rows,rfl,k.cl,k.rs,a1x _ _,a1x _ _,k.out,by simp only[Qu];exact k.la,by simp only[Qu];exact k.lb⟩;simp only[ckL,hov] at R;unfold a2a
 repeat (first|rw[a2E]|rw[a0A]|rw[a0e]|rw[a0h]|rw[a0F]|rw[a1s]|rw[a2v]|rw[a2X]|rw[a2j]|rw[a2w]|rw[a0s]|rw[a0j])<;>simp only[↓reduceIte,Xk,Xn,Xh,PEnv.at,Q2,Q3,Q4,Q6,a0H,a0x,a1g,Qm,Qh,Qf,Nat.reduceAdd,Qj,Q8,Qq,Qr,a0c,a0w,a0m,Q1,Q0,Xs,Q7,Q5,Xr,Xj,Qd,Qk,hov,e1,e2,e3,e4,le0,o1,o2,b1,b2,h1,h2,q1,c2,c4,c5,oL,c6,e5,dT0 v1,dT0 v2,dT0 v3,a1O,k.ask,k.bid,la,lb,Xp tN,Xu tz,hl1,lc1,lc2,d5u,m1,m2,XJ,g2,g3,p1,p6,s2,s3,w1,w2,f4T,e9e,R,ckL,QQ,QS,QB]
end
theorem d9o{k:Nat}{look:Nat->Option MO}{r r':List PV}(hr:XK k look r=sM r')(ho:r'.all XH=tt):∀{rows:List (List PV)},XF k rows=tt->(∀l∈rows,l.all XH=tt)->XV k look (rows++[r])=sM (rows++[r'])
 | [],_,_=>by simp only[Q5,XV,hr,Q0,ho,Xx,Q1]
 | l::rows,h1,h2=>by
  simp only[XF,QP] at h1;simp only[Q7,XV,XZ l h1.1,Q0,h2 l (by simp),Xx,d9o hr ho h1.2 (fun l hl=>h2 l (by simp[hl])),Q1]
theorem d9w{k:Nat}{r:List PV}:∀{rows:List (List PV)},XF k (rows++[r])=tt->XL k r=tt
 | [],h=>by simpa[XF] using h
 | l::rows,h=>by
  simp only[Q7,XF,QP] at h;exact d9w h.2
theorem f0P{k:Nat}{look:Nat->Option MO}{rows:List (List PV)}{a b c d e f:Int}{A G B G':PV}(h1:XF k rows=tt)(h2:∀l∈rows,l.all XH=tt)(hA:A.low k=tt)(hB:B.low k=tt)(oA:A.one=tt)(oB:B.one=tt)(hG:G.frz k look=sM G')(oG:G'.one=tt) :
  (XN 9 (rows++[[.int .i64 a,.int .i64 b,.int .i64 c,.int .i64 d,.int .i64 e,.int .i64 f,A,G,B]])).frz k look=sM (.sl 9 (rows++[[.int .i64 a,.int .i64 b,.int .i64 c,.int .i64 d,.int .i64 e,.int .i64 f,A,G',B]])):=by
 have fA:=Xz (look:=look) A hA;have fB:=Xz (look:=look) B hB;rw[Xy];split
 ·rename_i hl
  have:=d9w hl;simp only[XL,XS,QP,true_and,and_true] at this;rw[Xz G this.2.1] at hG;cases hG;rfl
 ·rw[d9o (r':=[.int .i64 a,.int .i64 b,.int .i64 c,.int .i64 d,.int .i64 e,.int .i64 f,A,G',B]) (by simp only[XK,Xy,fA,fB,hG,Q0,Q1]) (by simp only[QQ,QS,e9e,oA,oB,oG,Qd]) h1 h2]
  rfl
section
variable {s:St}{cs ad:List Tri}(hs:SuOk s cs ad){o:Po}{σ:List MO}(hσ:Low σ)(n:Nat)
include hs hσ in
theorem e4I{VC VB VH VO:PV}{l:List Bool}(p:W6)(ov:Bool)(hC:VC.low σ.length=tt)(oC:VC.one=tt)(oB:VB.one=tt)(oH:VH.one=tt)(hO:VO.rowsOf 1=sM (l.map fun b=>[Xq b]))(hN:l.length<=1000)(hn:1<=n):a0a Tab n 75 [.agg (ckL s o VC VB VH VO p ov)] σ=sM (.agg (ckL s o VC (.sl 6 ((Q9 l.length w0).map Xg)) (.sl 1 ((Q9 l.length ff).map fun b=>[Xq b])) VO p ov),σ):=by
 obtain⟨n,rfl⟩:=a0L n (by omega);obtain⟨_,_,p3⟩:=a0b hs.P;obtain⟨_,_,b3⟩:=a0b hs.B;obtain⟨_,_,c3⟩:=a0b hs.C;obtain⟨_,_,a3⟩:=a0b hs.A;obtain⟨vo1,vo2,vo3⟩:=a0b hO;rw[Qb] at vo1;have cN:(0:Int)<=(l.length:Int)/\(l.length:Int)<=1000000:=by omega
 have hl1:∀x:MO,(σ++[x]).length=σ.length+1:=fun x=>by simp
 have hlow:=hs.low σ.length
 have R:=fun is bs vs=>(d4E (s:=s) (o:=o) (σ:=σ) (M:=σ++[.cells ((Q9 l.length w0).map Xg).flatten 51]++[.cells ((Q9 l.length ff).map Xq) 4]) hσ (by simp) (by rw[Qn,Qz]) hlow (is:=is) (bs:=bs) (vs:=vs) (VC:=VC) (va:=.msl σ.length 0 l.length l.length 6) (vb:=.msl (σ.length+1) 0 l.length l.length 1) (vd:=VO) (p:=p) (ov:=ov) hC
  (e0M (ρ:={i:=is,b:=bs,v:=vs,m:=_,k:=σ.length}) (l:=Q9 l.length w0) (T:=51) (by simp) (Qj _) (by simp)) (d5T (ρ:={i:=is,b:=bs,v:=vs,m:=_,k:=σ.length}) (l:=Q9 l.length ff) (T:=4) (by simp) (by simp) (by simp)) (Xz _ (a6y hO (b3e _ _)))).1
 simp only[ckL] at R;rw[a0a];simp only[b0F,Q0,XC,ckL];show ((a0i [.sh (.agg [_,_,_,_,_,_,_,_,_,_,_,_,_,_,_,_,_,_,_])] _).bind _)=_;simp only[a0i,a0m,a0c,Q1,Q0,Qa,Xx,p3,b3,c3,a3,oC,oB,oH,vo3];show (Xt _ a4i _).bind _=_;simp only[a4i,↓reduceIte,a0j,a0h,a2v,Xk,Xn,Xh,PEnv.at,Q2,Q3,Q4,Q6,Q1,Q0,Q7,Q5,Xr,Xj,vo1,vo2,cN.1,cN.2,Qs,XJ,Nat.reduceLeDiff,f1H,f2H,hl1,R]
end
def d3j(f:W6->Int)(l:List W6)(i:Nat):Int:=((l.take i).map f).foldl (·+·) 0
theorem e3g(f:W6->Int){l:List W6}{i:Nat}{w:W6}(h:l[i]?=sM w):d3j f l (i+1)=d3j f l i+f w:=by
 unfold d3j;rw[QW,h,QX,X0,Qe,Qg,List.foldl_append];rfl
theorem e4H(f:W6->Int)(hf:∀a b,f (b4v a b)=f a+f b):∀(l:List W6) (v:W6),f (l.foldl b4v v)=(l.map f).foldl (·+·) (f v)
 | [],v=>rfl
 | w::l,v=>by rw[Xe,e4H f hf l,Qe,Xe,hf]
theorem f2s(f:W6->Int)(h0:f w0=0)(hf:∀a b,f (b4v a b)=f a+f b)(l:List W6):d3j f l l.length=f (a0Z l):=by
 unfold d3j a0Z;rw[QK,e4H f hf,h0]
theorem e7G(f:W6->Int){l:List W6}(h:∀w∈l,0<=f w/\f w<=4):∀i,i<=l.length->0<=d3j f l i/\d3j f l i<=4*i
 | 0,_=>by simp[d3j]
 | i+1,hi=>by
  obtain⟨w,hw⟩:=a0S (show i<l.length by omega);have ih:=e7G f h i (by omega);have:=h w (Qy hw);rw[e3g f hw];omega
def b0R(M:List MO)(K:Nat)(s:St)(o:Po)(p sp:W6)(G VC VB VH VO:PV)(t i:Int)(ex:List Int)(bs:List Bool):PEnv:={i:=t::i::o.st::o.pc::o.un::o.ru::p.a::p.b::p.c::p.d::p.e::p.f::sp.a::sp.b::sp.c::sp.d::sp.e::sp.f::ex,b:=bs,v:=[G,s.P,s.B,s.C,s.A,VC,VB,VH,VO],m:=M,k:=K}
def rcE(s:St)(o:Po)(M:List MO)(K:Nat)(p sp:W6)(G VC VB VH VO:PV)(l:List W6)(n:Nat)(q:Nat)(tq:PT)(F:W6->Int)(ex:List Int)(bs:List Bool):Prop:=∀(t:Int) (i:Nat) (w:W6),l[i]?=sM w->-1000<=t->t<=1000->Xt (a0a Tab n) tq (b0R M K s o p sp G VC VB VH VO t (i:Int) ex bs)=sM (.jump q (b0R M K s o p sp G VC VB VH VO (t+F w) ((i:Int)+1) ex bs))
def rcX(s:St)(o:Po)(M:List MO)(K:Nat)(p sp:W6)(G VC VB VH VO:PV)(l:List W6)(n:Nat)(q:Nat)(tq:PT)(F:W6->Int)(ex:List Int)(bs:List Bool)(ex':List Int)(bs':List Bool):Prop:=Xt (a0a Tab n) tq (b0R M K s o p sp G VC VB VH VO (F (a0Z l)) (l.length:Int) ex bs)=sM (.jump (q+1) (b0R M K s o p sp G VC VB VH VO 0 0 ex' bs'))
section
variable {s:St}{o:Po}{M:List MO}{K:Nat}{p sp:W6}{G VC VB VH VO:PV}{l:List W6}(hG:BRd M G l)(hok:∀w∈l,w.ok)(hl:l.length<=8)(hsp:sp.sm 1000)(n:Nat)
include hG hok hl
theorem f6M(x0 x1 x2 x3 x4:Int)(bf ov:Bool):rcE s o M K p sp G VC VB VH VO l n 2 a4z W6.a [] [ov]/\rcE s o M K p sp G VC VB VH VO l n 3 a4v W6.b [x0] [bf,ov]/\rcE s o M K p sp G VC VB VH VO l n 4 a4x W6.c [x0,x1] [bf,ov]/\rcE s o M K p sp G VC VB VH VO l n 5 a4s W6.d [x0,x1,x2] [bf,ov]/\rcE s o M K p sp G VC VB VH VO l n 6 a4A W6.e [x0,x1,x2,x3] [bf,ov]/\rcE s o M K p sp G VC VB VH VO l n 7 a2K W6.f [x0,x1,x2,x3,x4] [bf,ov]:=by
 refine⟨?_,?_,?_,?_,?_,?_⟩ <;>
 ·intro t i w hw h1 h2
  obtain⟨L,a0,a1,a2,a3,a4,a5,b⟩:=hG.six hw;have hi:=(Qv.1 hw).1;have lt:ltB (i:Int) (l.length:Int)=tt:=a0U.2 (by omega);have hup:=a2N (show i<=1000000000 by omega);have hwk:=hok w (Qy hw);simp only[XP] at hwk;unfold b0R;simp -implicitDefEqProofs (disch:=omega) only[a4z,a4v,a4x,a4s,a4A,a2K,↓reduceIte,Xt,Xk,Xn,Xh,PEnv.at,Q2,Q3,Q4,Q6,a0H,Qh,Qf,Nat.reduceAdd,a0c,Q1,Q0,Xs,Q7,Q5,Xr,Xj,Xw,Qd,Qe,Qg,hG.kind,hG.len,lt,le0,a0,a1,a2,a3,a4,a5,b,c7i]
theorem f5n{q:Nat}{tq:PT}{F:W6->Int}{ex:List Int}{bs:List Bool}(hE:rcE s o M K p sp G VC VB VH VO l n q tq F ex bs)(ht:a1c.loops[q]?=sM tq)(h0:F w0=0)(hF:∀a b,F (b4v a b)=F a+F b)(hB:∀w:W6,w.ok->0<=F w/\F w<=4)(fuel:Nat) :
  a1c.loop (a0a Tab n) (fuel+l.length) q (b0R M K s o p sp G VC VB VH VO 0 0 ex bs)=a1c.loop (a0a Tab n) fuel q (b0R M K s o p sp G VC VB VH VO (F (a0Z l)) (l.length:Int) ex bs):=by
 have key:∀d i,i+d=l.length->∀fuel,a1c.loop (a0a Tab n) (fuel+d) q (b0R M K s o p sp G VC VB VH VO (d3j F l i) (i:Int) ex bs)=a1c.loop (a0a Tab n) fuel q (b0R M K s o p sp G VC VB VH VO (F (a0Z l)) (l.length:Int) ex bs):=by
  intro d
  induction d with
  | zero =>
   intro i hi fuel;obtain rfl:i=l.length:=by omega
   rw[f2s F h0 hF];rfl
  | succ d ih =>
   intro i hi fuel;obtain⟨w,hw⟩:=a0S (show i<l.length by omega);have hb:=e7G F (l:=l) (fun w hw=>hB w (hok w hw)) i (by omega);have ih:=ih (i+1) (by omega) fuel;rw[e3g F hw,a1o] at ih;rw[show fuel+(d+1)=(fuel+d)+1 by omega];exact(b1k (fuel:=fuel+d) ht (hE _ i w hw (by omega) (by omega))).trans ih
 exact key l.length 0 (by omega) fuel
include hsp in
theorem f7r(x0 x1 x2 x3:Int)(bf ov:Bool):rcX s o M K p sp G VC VB VH VO l n 2 a4z W6.a [] [ov] [exI sp.a (a0Z l).a] [ltB sp.a (a0Z l).a,ov]/\rcX s o M K p sp G VC VB VH VO l n 3 a4v W6.b [x0] [bf,ov] [x0,exI sp.b (a0Z l).b] [bf||ltB sp.b (a0Z l).b,ov]/\rcX s o M K p sp G VC VB VH VO l n 4 a4x W6.c [x0,x1] [bf,ov] [x0,x1,exI sp.c (a0Z l).c] [bf||ltB sp.c (a0Z l).c,ov]/\rcX s o M K p sp G VC VB VH VO l n 5 a4s W6.d [x0,x1,x2] [bf,ov] [x0,x1,x2,exI sp.d (a0Z l).d] [bf||ltB sp.d (a0Z l).d,ov]/\rcX s o M K p sp G VC VB VH VO l n 6 a4A W6.e [x0,x1,x2,x3] [bf,ov] [x0,x1,x2,x3,exI sp.e (a0Z l).e] [bf||ltB sp.e (a0Z l).e,ov]:=by
 have nl:ltB (l.length:Int) (l.length:Int)=ff:=(a0G ..).2 (by omega);have ht:=d0J hok hl;simp only[W6.sm] at ht hsp
 have hx:∀s t:Int,exI s t=if ltB s t=tt then t-s else 0:=fun s t=>by
  unfold exI;by_cases h:s<t
  ·rw[Xp h,Xp (a0U.2 h)]
  ·rw[Xu h,Xu (by rw[(a0G ..).2 h];simp)]
 refine⟨?_,?_,?_,?_,?_⟩ <;>
 ·unfold rcX b0R
  simp -implicitDefEqProofs (disch:=omega) only[a4z,a4v,a4x,a4s,a4A,↓reduceIte,Xt,Xk,Xn,Xh,PEnv.at,Q2,Q3,Q4,Q6,Nat.reduceAdd,Q8,Q1,Q0,Xr,Xj,Xw,Qd,Qe,Qg,hG.kind,hG.len,nl,c7i,hx];split<;>simp_all
include hsp in
theorem e3S{q:Nat}{tq:PT}{F:W6->Int}{ex ex':List Int}{bs bs':List Bool}(hE:rcE s o M K p sp G VC VB VH VO l n q tq F ex bs)(hX:rcX s o M K p sp G VC VB VH VO l n q tq F ex bs ex' bs')(ht:a1c.loops[q]?=sM tq)(h0:F w0=0)(hF:∀a b,F (b4v a b)=F a+F b)(hB:∀w:W6,w.ok->0<=F w/\F w<=4)(fuel:Nat) :
  a1c.loop (a0a Tab n) (fuel+1+l.length) q (b0R M K s o p sp G VC VB VH VO 0 0 ex bs)=a1c.loop (a0a Tab n) fuel (q+1) (b0R M K s o p sp G VC VB VH VO 0 0 ex' bs') :=
 (f5n hG hok hl n hE ht h0 hF hB (fuel+1)).trans (b1k ht hX)
end
theorem f4y(sp:W6)(l:List W6):(ltB sp.a (a0Z l).a||ltB sp.b (a0Z l).b||ltB sp.c (a0Z l).c||ltB sp.d (a0Z l).d||ltB sp.e (a0Z l).e||ltB sp.f (a0Z l).f)=!(exW sp l).isZ:=by
 have g:∀s t:Int,eqB (exI s t) 0=!ltB s t:=fun s t=>by
  unfold exI;by_cases h:s<t
  ·rw[Xp h,show ltB s t=tt from a0U.2 h,Qk];exact dF0 (by omega)
  ·rw[Xu h,show ltB s t=ff from(a0G ..).2 (by omega)];rfl
 simp only[exW,e3W,W6.isZ,g];cases ltB sp.a (a0Z l).a<;>cases ltB sp.b (a0Z l).b<;>cases ltB sp.c (a0Z l).c<;>cases ltB sp.d (a0Z l).d<;>cases ltB sp.e (a0Z l).e<;>cases ltB sp.f (a0Z l).f<;>rfl
def d8M(M:List MO)(K:Nat)(s:St)(o:Po)(p sp:W6)(G VC VB VH VO:PV)(ov:Bool):PEnv:={i:=[o.st,o.pc,o.un,o.ru,p.a,p.b,p.c,p.d,p.e,p.f,sp.a,sp.b,sp.c,sp.d,sp.e,sp.f],b:=[ov],v:=[G,s.P,s.B,s.C,s.A,VC,VB,VH,VO],m:=M,k:=K}
def d4v(M:List MO)(K:Nat)(s:St)(o:Po)(p sp:W6)(i:Int)(B VC VB VH VO:PV)(ov:Bool):PEnv:={i:=[i,o.st,o.pc,o.un,o.ru,p.a,p.b,p.c,p.d,p.e,p.f,sp.a,sp.b,sp.c,sp.d,sp.e,sp.f],b:=[ov],v:=[B,s.P,s.B,s.C,s.A,VC,VB,VH,VO],m:=M,k:=K}
section
variable {s:St}{cs ad:List Tri}(hs:SuOk s cs ad){o:Po}(ho:o.ok){σ:List MO}(hσ:Low σ){VC VB VH VO:PV}{rows:List (List PV)}{c:Ck}(k:RcAt VC VB VH VO rows c){N:Nat}(hk:CkOk N c)(hN:N<=8)
 {M:List MO} (hM:Low M) (hl:M.length≠σ.length) (hle:σ.length<=M.length) (hT:M.take σ.length=σ) {G G':PV} {l:List W6} (hG:BRd M G l) (hGl:G.low M.length=tt) (hG':G'.rowsOf 6=sM (l.map Xg)) (hf:∀(is:List Int) (bs:List Bool) (vs:List PV),G.frz σ.length (a6e {i:=is,b:=bs,v:=vs,m:=M,k:=σ.length} 3)=sM G') (hok:∀w∈l,w.ok) (hl8:l.length<=8) {sp:W6} (hsp:sp.sm 1000) (n:Nat)
include hs ho hσ k hk hN hM hl hle hT hG hGl hG' hf hok hl8 hsp
set_option maxHeartbeats 4000000 in
theorem f5q(hn:20<=n)(ex:W6)(hex:ex.f=exI sp.f (a0Z l).f)(bf:Bool)(hbf:(bf||ltB sp.f (a0Z l).f)=!ex.isZ)(fuel:Nat):∃L,
  a1c.loop (a0a Tab n) (fuel+1) 7 (b0R M σ.length s o c.p sp G (.sl 9 (rows++[[.int .i64 c.p.a,.int .i64 c.p.b,.int .i64 c.p.c,.int .i64 c.p.d,.int .i64 c.p.e,.int .i64 c.p.f,VB,G,VH]])) VB VH VO (a0Z l).f (l.length:Int) [ex.a,ex.b,ex.c,ex.d,ex.e] [bf,ff])=sM (.tup [.agg L,.int .i64 0],σ) /\
  c9o s o L (c.closeTo o ex (c.cl++[⟨c.p,c.ask,l,c.bid⟩])).1:=by
 obtain⟨_,_,p3⟩:=a0b hs.P;obtain⟨_,_,b3⟩:=a0b hs.B;obtain⟨_,_,c3⟩:=a0b hs.C;obtain⟨_,_,a3⟩:=a0b hs.A;have vb3:=(a0b k.ask).2.2;have vh3:=(a0b k.bid).2.2;have vo3:=(a0b k.out).2.2;have g3:=(a0b hG').2.2;have hout:=hk.out;have lB:VB.low σ.length=tt:=a6y k.ask (b1X _ _ 0);have lH:VH.low σ.length=tt:=a6y k.bid (b3e _ _);have lO:VO.low σ.length=tt:=a6y k.out (b3e _ _);have lR:=k.rs.low σ.length
 have oR:∀r∈rows,r.all XH=tt:=fun row hr=>by
  obtain⟨i,hi⟩:=X8 hr;obtain⟨r,hr⟩:=a0S (show i<c.cl.length by rw[<- k.rs.1];exact(Qv.1 hi).1);exact List.all_eq_true.2 ((k.rs.2 i r row hr hi).low 0).2
 have lV:(XN 9 (rows++[[.int .i64 c.p.a,.int .i64 c.p.b,.int .i64 c.p.c,.int .i64 c.p.d,.int .i64 c.p.e,.int .i64 c.p.f,VB,G,VH]])).low M.length=tt:=by
  show XF _ _=tt;refine c4Q ?_ (k.rs.low _);simp only[XL,XS,hGl,PV.low_mono hle _ lB,PV.low_mono hle _ lH,Qd]
 have c2:=fun p ov=>e4I hs (o:=o) hM n (VC:=.sl 9 (rows++[[.int .i64 c.p.a,.int .i64 c.p.b,.int .i64 c.p.c,.int .i64 c.p.d,.int .i64 c.p.e,.int .i64 c.p.f,VB,G,VH]])) (VB:=VB) (VH:=VH) (VO:=VO) p ov lV rfl vb3 vh3 k.out (by omega) (by omega)
 have fV:=fun is bs vs=>f0P (k:=σ.length) (look:=a6e {i:=is,b:=bs,v:=vs,m:=M,k:=σ.length} 3) (a:=c.p.a) (b:=c.p.b) (c:=c.p.c) (d:=c.p.d) (e:=c.p.e) (f:=c.p.f) lR oR lB lH vb3 vh3 (hf is bs vs) g3
 have hll:((rows++[[PV.int .i64 c.p.a,.int .i64 c.p.b,.int .i64 c.p.c,.int .i64 c.p.d,.int .i64 c.p.e,.int .i64 c.p.f,VB,G,VH]]).length:Int)=((c.cl.length+1:Nat):Int):=by rw[X2,X3,k.rs.1]
 generalize hV:XN 9 (rows++[[PV.int .i64 c.p.a,.int .i64 c.p.b,.int .i64 c.p.c,.int .i64 c.p.d,.int .i64 c.p.e,.int .i64 c.p.f,VB,G,VH]])=V at *
 have kV:V.isKind 0=tt:=by rw[<- hV];rfl
 have oV:V.one=tt:=by rw[<- hV];rfl
 have nV:V.len=((c.cl.length+1:Nat):Int):=by rw[<- hV,<- hll];rfl
 have hlow:=hs.low σ.length;have hlM:QZ σ (MO.low σ.length)=tt:=hσ
 have R:∀(is:List Int) (bs:List Bool) (vs:List PV) (p:W6) (ov:Bool),a0n {i:=is,b:=bs,v:=vs,m:=M,k:=σ.length} ff (.tup [.agg (ckL s o V (.sl 6 ((Q9 c.out.length w0).map Xg)) (.sl 1 ((Q9 c.out.length ff).map fun b=>[Xq b])) VO p ov),.int .i64 0])=sM (.tup [.agg (ckL s o (.sl 9 (rows++[[.int .i64 c.p.a,.int .i64 c.p.b,.int .i64 c.p.c,.int .i64 c.p.d,.int .i64 c.p.e,.int .i64 c.p.f,VB,G',VH]])) (.sl 6 ((Q9 c.out.length w0).map Xg)) (.sl 1 ((Q9 c.out.length ff).map fun b=>[Xq b])) VO p ov),.int .i64 0],σ):=fun is bs vs p ov=>by
  have f1:∀look,Xy σ.length look s.P=sM s.P:=fun look=>Xz _ hlow.1
  have f2:∀look,Xy σ.length look s.B=sM s.B:=fun look=>Xz _ hlow.2.1
  have f3:∀look,Xy σ.length look s.C=sM s.C:=fun look=>Xz _ hlow.2.2.1
  have f4:∀look,Xy σ.length look s.A=sM s.A:=fun look=>Xz _ hlow.2.2.2
  have f5:∀look,Xy σ.length look VO=sM VO:=fun look=>Xz _ lO
  have f6:∀look,Xy σ.length look (.sl 6 ((Q9 c.out.length w0).map Xg))=sM (.sl 6 ((Q9 c.out.length w0).map Xg)):=fun look=>Xz _ (b1X _ _ 0)
  have f7:∀look,Xy σ.length look (.sl 1 ((Q9 c.out.length ff).map fun b=>[Xq b]))=sM (.sl 1 ((Q9 c.out.length ff).map fun b=>[Xq b])):=fun look=>Xz _ (b3e _ _)
  have f8:=fV is bs vs;have fI:∀(look:Nat->Option MO) (z:Int),Xy σ.length look (.int .i64 z)=sM (.int .i64 z):=fun _ _=>rfl
  have fB:∀(look:Nat->Option MO) (z:Bool),Xy σ.length look (.bool z)=sM (.bool z):=fun _ _=>rfl
  unfold a0n;simp only[Q8,false_or,Xu hl,hT,hlM,Xx,ckL];rw[Xy];simp only[XK];rw[Xy];simp only[XK,f1,f2,f3,f4,f5,f6,f7,f8,fI,fB,Q0,Q1]
 have c1:=f0G M n o ho c.p ex hk.p (by omega);have h30:leB 30 (((c.cl.length+1:Nat):Int))=leB 30 ((c.cl++[(⟨c.p,c.ask,l,c.bid⟩:Rn)]).length:Int):=by rw[X2,X3]
 have hsn:b6h (c.cl++[⟨c.p,c.ask,l,c.bid⟩]) (rows++[[.int .i64 c.p.a,.int .i64 c.p.b,.int .i64 c.p.c,.int .i64 c.p.d,.int .i64 c.p.e,.int .i64 c.p.f,VB,G',VH]]):=k.rs.snoc ⟨VB,G',VH,rfl,k.ask,hG',k.bid⟩;have nl:ltB (l.length:Int) (l.length:Int)=ff:=(a0G ..).2 (by omega);have ht:=d0J hok hl8;simp only[W6.sm] at ht hsp;have hs1:=a1K (z:=(a0Z l).f-sp.f) (by omega);have e5:=a3l;have go:∀L,Xt (a0a Tab n) a2K (b0R M σ.length s o c.p sp G V VB VH VO (a0Z l).f (l.length:Int) [ex.a,ex.b,ex.c,ex.d,ex.e] [bf,ff])=sM (.ret (.tup [.agg L,.int .i64 0]) σ)->c9o s o L (c.closeTo o ex (c.cl++[⟨c.p,c.ask,l,c.bid⟩])).1->∃L,a1c.loop (a0a Tab n) (fuel+1) 7 (b0R M σ.length s o c.p sp G V VB VH VO (a0Z l).f (l.length:Int) [ex.a,ex.b,ex.c,ex.d,ex.e] [bf,ff])=sM (.tup [.agg L,.int .i64 0],σ)/\c9o s o L (c.closeTo o ex (c.cl++[⟨c.p,c.ask,l,c.bid⟩])).1:=fun L h1 h2=>⟨L,d8L rfl h1,h2⟩
 have res:∀p' ov',(c.closeTo o ex (c.cl++[⟨c.p,c.ask,l,c.bid⟩])).1={cl:=c.cl++[⟨c.p,c.ask,l,c.bid⟩],p:=p',ask:=c.blank.ask,bid:=c.blank.bid,out:=c.out,over:=ov'}->c9o s o (ckL s o (.sl 9 (rows++[[.int .i64 c.p.a,.int .i64 c.p.b,.int .i64 c.p.c,.int .i64 c.p.d,.int .i64 c.p.e,.int .i64 c.p.f,VB,G',VH]])) (.sl 6 ((Q9 c.out.length w0).map Xg)) (.sl 1 ((Q9 c.out.length ff).map fun b=>[Xq b])) VO p' ov') (c.closeTo o ex (c.cl++[⟨c.p,c.ask,l,c.bid⟩])).1:=fun p' ov' he=>by
  rw[he];exact⟨_,_,_,_,_,rfl,a1x _ _,hsn,a1x _ _,a1x _ _,k.out,by simp[XW],by simp[XW]⟩
 have tr:∀w:W6,w.pv=[.int .i64 w.a,.int .i64 w.b,.int .i64 w.c,.int .i64 w.d,.int .i64 w.e,.int .i64 w.f]:=fun _=>rfl
 simp only[pv6,a5l,ckL] at c1 c2 R;unfold Ck.closeTo at res go ⊢;unfold a8x at c1
 have key:∀(e:Int) (np:W6) (hz:ex.isZ=ff) (he:e=0\/e=4) (c1:a0a Tab n 74 [.agg [.int .i64 o.st,.int .i64 o.pc,.int .i64 o.un,.int .i64 o.ru],.agg [.int .i64 c.p.a,.int .i64 c.p.b,.int .i64 c.p.c,.int .i64 c.p.d,.int .i64 c.p.e,.int .i64 c.p.f],.agg [.int .i64 ex.a,.int .i64 ex.b,.int .i64 ex.c,.int .i64 ex.d,.int .i64 ex.e,.int .i64 ex.f]] M=sM (.tup [.agg [.int .i64 np.a,.int .i64 np.b,.int .i64 np.c,.int .i64 np.d,.int .i64 np.e,.int .i64 np.f],.int .i64 e],M)),
   Xt (a0a Tab n) a2K (b0R M σ.length s o c.p sp G V VB VH VO (a0Z l).f (l.length:Int) [ex.a,ex.b,ex.c,ex.d,ex.e] [bf,ff])=sM (.ret (.tup [.agg (if (leB 30 ((c.cl.length+1:Nat):Int)||!eqB e 0)=tt then ckL s o (.sl 9 (rows++[[.int .i64 c.p.a,.int .i64 c.p.b,.int .i64 c.p.c,.int .i64 c.p.d,.int .i64 c.p.e,.int .i64 c.p.f,VB,G',VH]])) (.sl 6 ((Q9 c.out.length w0).map Xg)) (.sl 1 ((Q9 c.out.length ff).map fun b=>[Xq b])) VO c.p tt else ckL s o (.sl 9 (rows++[[.int .i64 c.p.a,.int .i64 c.p.b,.int .i64 c.p.c,.int .i64 c.p.d,.int .i64 c.p.e,.int .i64 c.p.f,VB,G',VH]])) (.sl 6 ((Q9 c.out.length w0).map Xg)) (.sl 1 ((Q9 c.out.length ff).map fun b=>[Xq b])) VO np ff),.int .i64 0]) σ):=fun e np hz he c1=>by
  rw[hz,Qt] at hbf;have c2':=fun ov=>c2 np ov
  have R':=fun is bs vs ov=>R is bs vs np ov
  have c2:=c2 c.p tt;have R:=fun is bs vs=>R is bs vs c.p tt
  have e0:eqB 0 0=tt:=rfl;have e4:eqB 4 0=ff:=rfl;by_cases h:sp.f<(a0Z l).f
  ·have h':ltB sp.f (a0Z l).f=tt:=a0U.2 h
   rw[show ex.f=(a0Z l).f-sp.f by rw[hex,exI,Xp h]] at c1;unfold a2K b0R;generalize (a0Z l).f=tf at *
   generalize ((c.cl.length+1:Nat):Int)=NL at *
   rcases he with rfl|rfl
   ·cases hle:leB 30 NL
    all_goals
     repeat (first|rw[a2E]|rw[a0A]|rw[a0e]|rw[a0h]|rw[a0F]|rw[a1s]|rw[a2v]|rw[a2X]|rw[a2j]|rw[a2w]|rw[a0s]|rw[a0j])<;>simp only[↓reduceIte,Xk,Xn,Xh,PEnv.at,Q2,Q3,Q4,Q6,Q8,a0c,a0w,a0m,Q1,Q0,Xs,Q7,Q5,Qa,Xr,Xj,Qd,Qk,hG.kind,hG.len,nl,h',Xp hs1,c1,a1J,kV,nV,hle,e0,c2,c2',p3,b3,c3,a3,oV,vo3,slO,R,R',ckL,QU,QV,]
   ·cases hle:leB 30 NL
    all_goals
     repeat (first|rw[a2E]|rw[a0A]|rw[a0e]|rw[a0h]|rw[a0F]|rw[a1s]|rw[a2v]|rw[a2X]|rw[a2j]|rw[a2w]|rw[a0s]|rw[a0j])<;>simp only[↓reduceIte,Xk,Xn,Xh,PEnv.at,Q2,Q3,Q4,Q6,Q8,a0c,a0w,a0m,Q1,Q0,Xs,Q7,Q5,Qa,Xr,Xj,Qd,Qt,hG.kind,hG.len,nl,h',Xp hs1,c1,a1J,kV,nV,hle,e4,c2,p3,b3,c3,a3,oV,vo3,slO,R,ckL,QU,QJ,]
  ·have h':ltB sp.f (a0Z l).f=ff:=(a0G ..).2 (by omega)
   rw[h',QV] at hbf;rw[show ex.f=0 by rw[hex,exI,Xu h]] at c1;subst hbf;unfold a2K b0R;generalize (a0Z l).f=tf at *
   generalize ((c.cl.length+1:Nat):Int)=NL at *
   rcases he with rfl|rfl
   ·cases hle:leB 30 NL
    all_goals
     repeat (first|rw[a2E]|rw[a0A]|rw[a0e]|rw[a0h]|rw[a0F]|rw[a1s]|rw[a2v]|rw[a2X]|rw[a2j]|rw[a2w]|rw[a0s]|rw[a0j])<;>simp only[↓reduceIte,Xk,Xn,Xh,PEnv.at,Q2,Q3,Q4,Q6,Q8,a0c,a0w,a0m,Q1,Q0,Xs,Q7,Q5,Qa,Xr,Xj,Qk,hG.kind,hG.len,nl,h',c1,a1J,kV,nV,hle,e0,c2,c2',p3,b3,c3,a3,oV,vo3,slO,R,R',ckL,QU,QV,]
   ·cases hle:leB 30 NL
    all_goals
     repeat (first|rw[a2E]|rw[a0A]|rw[a0e]|rw[a0h]|rw[a0F]|rw[a1s]|rw[a2v]|rw[a2X]|rw[a2j]|rw[a2w]|rw[a0s]|rw[a0j])<;>simp only[↓reduceIte,Xk,Xn,Xh,PEnv.at,Q2,Q3,Q4,Q6,Q8,a0c,a0w,a0m,Q1,Q0,Xs,Q7,Q5,Qa,Xr,Xj,Qk,Qt,hG.kind,hG.len,nl,h',c1,a1J,kV,nV,hle,e4,c2,p3,b3,c3,a3,oV,vo3,slO,R,ckL,QU,QJ,]
 by_cases hz:ex.isZ=tt
 ·refine go _ ?_ (res c.p tt (by rw[hz,Bool.true_or,Xp rfl]))
  rw[hz,Qk,Bool.or_eq_false_iff] at hbf;obtain⟨hb1,hb2⟩:=hbf;subst hb1;have c1:∃a b c' d e f z,a0a Tab n 74 [.agg [.int .i64 o.st,.int .i64 o.pc,.int .i64 o.un,.int .i64 o.ru],.agg [.int .i64 c.p.a,.int .i64 c.p.b,.int .i64 c.p.c,.int .i64 c.p.d,.int .i64 c.p.e,.int .i64 c.p.f],.agg [.int .i64 ex.a,.int .i64 ex.b,.int .i64 ex.c,.int .i64 ex.d,.int .i64 ex.e,.int .i64 ex.f]] M=sM (.tup [.agg [.int .i64 a,.int .i64 b,.int .i64 c',.int .i64 d,.int .i64 e,.int .i64 f],.int .i64 z],M):=⟨_,_,_,_,_,_,_,c1⟩;obtain⟨a,b,c',d,e,f,z,c1⟩:=c1;have hef:ex.f=0:=by rw[hex,exI,Xu (by rw[a0G] at hb2;omega)]
  rw[hef] at c1;have c2:=c2 c.p tt;have R:=fun is bs vs=>R is bs vs c.p tt
  unfold a2K b0R;generalize (a0Z l).f=tf at *
  repeat (first|rw[a2E]|rw[a0A]|rw[a0e]|rw[a0h]|rw[a0F]|rw[a1s]|rw[a2v]|rw[a2X]|rw[a2j]|rw[a2w]|rw[a0s]|rw[a0j])<;>simp only[↓reduceIte,Xk,Xn,Xh,PEnv.at,Q2,Q3,Q4,Q6,Q8,a0c,a0w,a0m,Q1,Q0,Xs,Q7,Q5,Qa,Xr,Xj,Qt,hG.kind,hG.len,nl,hb2,c1,a1J,c2,p3,b3,c3,a3,oV,vo3,slO,R,ckL,]
 ·have hz:=Bool.eq_false_iff.2 hz
  by_cases hpo:(rsW o c.p ex).pok
  ·rw[Xp hpo] at c1
   have e0:eqB 0 0=tt:=rfl;have kk:=key 0 (rsW o c.p ex) hz (.inl rfl) c1;rw[e0,Qk,QV,h30] at kk;rcases Bool.eq_false_or_eq_true (leB 30 ((c.cl++[(⟨c.p,c.ask,l,c.bid⟩:Rn)]).length:Int)) with h3|h3
   ·rw[h3,Xp rfl] at kk
    exact go _ kk (res c.p tt (by rw[hz,h3];rfl))
   ·rw[h3,Xu (by simp)] at kk
    exact go _ kk (res (rsW o c.p ex) ff (by rw[hz,h3,dT0 hpo];rfl))
  ·rw[Xu hpo] at c1
   have e4:eqB 4 0=ff:=rfl;have kk:=key 4 w0 hz (.inr rfl) c1;rw[e4,Qt,QJ,Xp rfl] at kk;exact go _ kk (res c.p tt (by rw[hz,dF0 hpo,Qt,QJ,QJ,Xp rfl]))
end
section
variable {s:St}{cs ad:List Tri}(hs:SuOk s cs ad){o:Po}(ho:o.ok){σ:List MO}(hσ:Low σ){VC VB VH VO:PV}{rows:List (List PV)}{c:Ck}(k:RcAt VC VB VH VO rows c){N:Nat}(hk:CkOk N c)(hN:N<=8)
 {M:List MO} (hM:Low M) (hl:M.length≠σ.length) (hle:σ.length<=M.length) (hT:M.take σ.length=σ) {G G':PV} {l:List W6} (hG:BRd M G l) (hGl:G.low M.length=tt) (hG':G'.rowsOf 6=sM (l.map Xg)) (hf:∀(is:List Int) (bs:List Bool) (vs:List PV),G.frz σ.length (a6e {i:=is,b:=bs,v:=vs,m:=M,k:=σ.length} 3)=sM G') (hok:∀w∈l,w.ok) (hl8:l.length<=8) {sp:W6} (hsp:sp.sm 1000) (n:Nat)
include hs ho hσ k hk hN hM hl hle hT hG hGl hG' hf hok hl8 hsp
theorem f0t(hn:20<=n)(fuel:Nat):∃L,
  a1c.loop (a0a Tab n) (fuel+(6*l.length+7)) 1 (d8M M σ.length s o c.p sp G (.sl 9 (rows++[[.int .i64 c.p.a,.int .i64 c.p.b,.int .i64 c.p.c,.int .i64 c.p.d,.int .i64 c.p.e,.int .i64 c.p.f,VB,G,VH]])) VB VH VO ff)=sM (.tup [.agg L,.int .i64 0],σ) /\
  c9o s o L (c.closeTo o (exW sp l) (c.cl++[⟨c.p,c.ask,l,c.bid⟩])).1:=by
 obtain⟨L,e,hL⟩:=f5q hs ho hσ k hk hN hM hl hle hT hG hGl hG' hf hok hl8 hsp n hn (exW sp l) rfl (ltB sp.a (a0Z l).a||ltB sp.b (a0Z l).b||ltB sp.c (a0Z l).c||ltB sp.d (a0Z l).d||ltB sp.e (a0Z l).e) (f4y sp l) fuel;refine⟨L,?_,hL⟩;generalize (XN 9 (rows++[[.int .i64 c.p.a,.int .i64 c.p.b,.int .i64 c.p.c,.int .i64 c.p.d,.int .i64 c.p.e,.int .i64 c.p.f,VB,G,VH]]))=V at *
 have e:a1c.loop (a0a Tab n) (fuel+1) 7 (b0R M σ.length s o c.p sp G V VB VH VO (a0Z l).f (l.length:Int) [exI sp.a (a0Z l).a,exI sp.b (a0Z l).b,exI sp.c (a0Z l).c,exI sp.d (a0Z l).d,exI sp.e (a0Z l).e] [ltB sp.a (a0Z l).a||ltB sp.b (a0Z l).b||ltB sp.c (a0Z l).c||ltB sp.d (a0Z l).d||ltB sp.e (a0Z l).e,ff])=sM (.tup [.agg L,.int .i64 0],σ):=e
 have E0:Xt (a0a Tab n) a8i (d8M M σ.length s o c.p sp G V VB VH VO ff)=sM (.jump 2 (b0R M σ.length s o c.p sp G V VB VH VO 0 0 [] [ff])):=by
  simp only[a8i,d8M,b0R,↓reduceIte,a0s,Xk,Xn,Xh,Q2,Q3,Q4,Q6,Q1,Q0,Xr,Xj,Xw,Qe,Qg]
 have E:=fun bf=>f6M (s:=s) (o:=o) (K:=σ.length) (p:=c.p) (sp:=sp) (VC:=V) (VB:=VB) (VH:=VH) (VO:=VO) hG hok hl8 n (exI sp.a (a0Z l).a) (exI sp.b (a0Z l).b) (exI sp.c (a0Z l).c) (exI sp.d (a0Z l).d) (exI sp.e (a0Z l).e) bf ff
 have X:=fun bf=>f7r (s:=s) (o:=o) (K:=σ.length) (p:=c.p) (sp:=sp) (VC:=V) (VB:=VB) (VH:=VH) (VO:=VO) hG hok hl8 hsp n (exI sp.a (a0Z l).a) (exI sp.b (a0Z l).b) (exI sp.c (a0Z l).c) (exI sp.d (a0Z l).d) bf ff
 rw[show fuel+(6*l.length+7)=(fuel+1+l.length+1+l.length+1+l.length+1+l.length+1+l.length+1+l.length)+1 by omega,b1k rfl E0]
 exact(e3S hG hok hl8 hsp n (E ff).1 (X ff).1 rfl rfl (fun _ _=>rfl) (fun w h=>by simp only[XP] at h;omega) _).trans (
  (e3S hG hok hl8 hsp n (E (ltB sp.a (a0Z l).a)).2.1 (X (ltB sp.a (a0Z l).a)).2.1 rfl rfl (fun _ _=>rfl) (fun w h=>by simp only[XP] at h;omega) _).trans (
  (e3S hG hok hl8 hsp n (E (ltB sp.a (a0Z l).a||ltB sp.b (a0Z l).b)).2.2.1 (X (ltB sp.a (a0Z l).a||ltB sp.b (a0Z l).b)).2.2.1 rfl rfl (fun _ _=>rfl) (fun w h=>by simp only[XP] at h;omega) _).trans (
  (e3S hG hok hl8 hsp n (E (ltB sp.a (a0Z l).a||ltB sp.b (a0Z l).b||ltB sp.c (a0Z l).c)).2.2.2.1 (X (ltB sp.a (a0Z l).a||ltB sp.b (a0Z l).b||ltB sp.c (a0Z l).c)).2.2.2.1 rfl rfl (fun _ _=>rfl) (fun w h=>by simp only[XP] at h;omega) _).trans (
  (e3S hG hok hl8 hsp n (E (ltB sp.a (a0Z l).a||ltB sp.b (a0Z l).b||ltB sp.c (a0Z l).c||ltB sp.d (a0Z l).d)).2.2.2.2.1 (X (ltB sp.a (a0Z l).a||ltB sp.b (a0Z l).b||ltB sp.c (a0Z l).c||ltB sp.d (a0Z l).d)).2.2.2.2 rfl rfl (fun _ _=>rfl) (fun w h=>by simp only[XP] at h;omega) _).trans (
  (f5n hG hok hl8 n (E (ltB sp.a (a0Z l).a||ltB sp.b (a0Z l).b||ltB sp.c (a0Z l).c||ltB sp.d (a0Z l).d||ltB sp.e (a0Z l).e)).2.2.2.2.2 rfl rfl (fun _ _=>rfl) (fun w h=>by simp only[XP] at h;omega) (fuel+1)).trans e)))))
end
section
variable {s:St}{cs ad:List Tri}(hs:SuOk s cs ad)(hv:a8s s.ps s.bs cs ad=0){o:Po}(ho:o.ok){σ:List MO}(hσ:Low σ){VC VB VH VO:PV}{rows:List (List PV)}{c:Ck}(k:RcAt VC VB VH VO rows c)(hk:CkOk s.bs.length c)(n:Nat)
include hs hv ho hσ k hk
theorem f3T(A:MO)(sp:W6)(got:List W6)(hg:got.length=c.out.length):∀d j,j+d=c.out.length->∀fuel,
  a1c.loop (a0a Tab n) (fuel+d) 0 (d4v (σ++[A]++[.row ((prN got c.out j).map Xg) 6 51]) σ.length s o c.p sp (j:Int) (.rsl (σ.length+1) c.out.length 6) VC VB VH VO ff)=a1c.loop (a0a Tab n) fuel 0 (d4v (σ++[A]++[.row ((prN got c.out c.out.length).map Xg) 6 51]) σ.length s o c.p sp (c.out.length:Int) (.rsl (σ.length+1) c.out.length 6) VC VB VH VO ff):=by
 obtain⟨o1,o2,vo3⟩:=a0b k.out;rw[Qb] at o1;obtain⟨l1,l2,l3,l4,l5⟩:=XM hv;have hN:=hk.out;intro d
 induction d with
 | zero =>
  intro j hj fuel;obtain rfl:j=c.out.length:=by omega
  rfl
 | succ d ih =>
  intro j hj fuel;have hjl:j<c.out.length:=by omega
  obtain⟨b,hb⟩:=a0S hjl;have q1:=a0V (off:=0) k.out (show (c.out.map fun b=>[Xq b])[j]?=sM [.bool b] by rw[Qp,hb];rfl);have e3:ltB (j:Int) (c.out.length:Int)=tt:=(a0U ..).2 (by omega);have hup:=a2N (show j<=1000000000 by omega);have lc:=c3u (h:=σ.length+1) (sz:=6) (off:=0) hjl;have lp:((prN got c.out j).map Xg).length=c.out.length:=by rw[Qb,c0s,hg]
  obtain⟨u,hu⟩:=a0S (show j<(prN got c.out j).length by rw[c0s,hg];exact hjl);have g2:((prN got c.out j).map Xg)[j]?=sM [.int .i64 u.a,.int .i64 u.b,.int .i64 u.c,.int .i64 u.d,.int .i64 u.e,.int .i64 u.f]:=by rw[Qp,hu];rfl
  have p6:∀a b c d e f a' b' c' d' e' f':PV,a3Y [a,b,c,d,e,f] 0 [a',b',c',d',e',f']=[a',b',c',d',e',f']:=fun _ _ _ _ _ _ _ _ _ _ _ _=>rfl
  have m2:∀x:MO,(σ++[A]++[x])[σ.length+1]?=sM x:=fun x=>by simp
  have w2:∀x x':MO,(σ++[A]++[x]).set (σ.length+1) x'=σ++[A]++[x']:=fun x x'=>by simp[QA]
  have rK:∀h N:Nat,PV.isKind 0 (.rsl h N 6)=tt:=fun _ _=>rfl
  have ih:=ih (j+1) (by omega) fuel;rw[a1o] at ih;rw[show fuel+(d+1)=(fuel+d)+1 by omega];refine(b1k (fuel:=fuel+d) (t:=a3F) rfl ?_).trans ih;cases b with
  | true =>
   have s2:((prN got c.out j).map Xg).set j [.int .i64 0,.int .i64 0,.int .i64 0,.int .i64 0,.int .i64 0,.int .i64 0]=(prN got c.out (j+1)).map Xg:=by rw[<- e6L hb (by omega),QC];rfl
   generalize (prN got c.out j).map Xg=X at *
   generalize (prN got c.out (j+1)).map Xg=Y at *
   unfold a3F d4v
   repeat (first|rw[a2E]|rw[a0A]|rw[a0e]|rw[a0h]|rw[a0F]|rw[a1s]|rw[a2v]|rw[a2X]|rw[a2j]|rw[a2w]|rw[a0s]|rw[a0j])<;>simp -implicitDefEqProofs only[↓reduceIte,eq_self,Xk,Xn,Xh,PEnv.at,Q2,Q3,Q4,Q6,a0H,a0x,a1g,Qm,Qh,Qf,Nat.reduceAdd,Qj,Q8,Qq,Qr,a0c,Q1,Q0,Xs,Q7,Q5,Xr,Xj,Xw,Qd,Qe,Qg,rK,d5u,e3,le0,o1,q1,lc,m2,lp,XJ,g2,p6,s2,w2,e9e,QQ,QS,QB,Xp hup]
  | false =>
   have s2:(prN got c.out j).map Xg=(prN got c.out (j+1)).map Xg:=by rw[f0r hb]
   rw[<- s2];generalize (prN got c.out j).map Xg=X at *
   unfold a3F d4v
   repeat (first|rw[a2E]|rw[a0A]|rw[a0e]|rw[a0h]|rw[a0F]|rw[a1s]|rw[a2v]|rw[a2X]|rw[a2j]|rw[a2w]|rw[a0s]|rw[a0j])<;>simp -implicitDefEqProofs only[↓reduceIte,eq_self,Xk,Xn,Xh,PEnv.at,Q2,Q3,Q4,Q6,a0H,a0x,a1g,Qm,Qh,Qf,Nat.reduceAdd,Qj,Q8,Qq,Qr,a0c,Q1,Q0,Xs,Q7,Q5,Xr,Xj,Xw,Qd,Qe,Qg,rK,d5u,e3,le0,o1,q1,Xp hup]
set_option maxHeartbeats 4000000 in
theorem f1v(hn:2000<=n):ROk s o σ (c.close s.ps o).1 (c.close s.ps o).2.2 (a0a Tab n 39 [.agg (ckL s o VC VB VH VO c.p c.over)] σ):=by
 obtain⟨n,rfl⟩:=a0L n (by omega);obtain⟨l1,l2,l3,l4,l5⟩:=XM hv;have hr:=(a9X (c0l hv).1).2;obtain⟨_,_,p3⟩:=a0b hs.P;obtain⟨_,_,b3⟩:=a0b hs.B;obtain⟨_,_,c3⟩:=a0b hs.C;obtain⟨_,_,a3⟩:=a0b hs.A;obtain⟨v1,v2,vc3⟩:=a0b k.cl;rw[k.rs.1] at v1;obtain⟨b1,b2,vb3⟩:=a0b k.ask;rw[Qb,k.la] at b1;obtain⟨h1,h2,vh3⟩:=a0b k.bid;obtain⟨o1,o2,vo3⟩:=a0b k.out;have hN:=hk.out
 have go:∀r,(Xt (a0a Tab n) a3o {i:=[o.st,o.pc,o.un,o.ru,c.p.a,c.p.b,c.p.c,c.p.d,c.p.e,c.p.f],b:=[c.over],v:=[s.P,s.B,s.C,s.A,VC,VB,VH,VO],m:=σ,k:=σ.length}).bind (fun x=>match x with|.ret r σ=>sM (r,σ)|.jump q' ρ'=>XA (a0a Tab n) a1c n q' ρ')=sM r->a0a Tab (n+1) 39 [.agg (ckL s o VC VB VH VO c.p c.over)] σ=sM r:=fun r hr=>by
  rw[a0a];simp only[c1F,Q0,XC,ckL];show ((a0i [.sh (.agg [_,_,_,_,_,_,_,_,_,_,_,_,_,_,_,_,_,_,_])] _).bind _)=_;simp only[a0i,a0m,a0c,Q1,Q0,Qa,Xx,p3,b3,c3,a3,vc3,vb3,vh3,vo3];exact hr
 obtain hov|hov:c.over=tt\/c.over=ff:=by cases c.over<;>simp
 ·have hce:c.close s.ps o=(c,ff,10):=by unfold Ck.close;rw[Xp hov]
  rw[hce];refine⟨_,go (_,_) ?_,VC,VB,VH,VO,rows,rfl,k⟩;unfold a3o
  repeat (first|rw[a2E]|rw[a0A]|rw[a0e]|rw[a0h]|rw[a0F]|rw[a1s]|rw[a2v]|rw[a2X]|rw[a2j]|rw[a2w]|rw[a0s]|rw[a0j])<;>simp only[↓reduceIte,Xk,Xn,Xh,Q2,Q3,Q4,Q6,Q8,Q1,Q0,Xr,Xj,hov,a0n,Xv,ckL]
 have ct2:∀ex cl',(c.closeTo o ex cl').2.2=0:=fun ex cl'=>by unfold Ck.closeTo;split<;>rfl
 rw[d2A c s.ps o hov,ct2];unfold Ck.ex;obtain⟨gk,gl⟩:=e1H (s:=s) (o:=o) hk
 have hsp:(a2x s.ps).ok:=by
  have hw:∀i:Nat,0<=((s.ps.map Pr.s)[i]?).getD 0/\((s.ps.map Pr.s)[i]?).getD 0<=4:=fun i=>by
   rw[Qp];cases hx:s.ps[i]? with
   | none=>simp
   | some x=>have:=hr x (Qy hx);simp only[Pr.rng] at this;simp;omega
  have a0:=hw 0;have a1:=hw 1;have a2:=hw 2;have a3:=hw 3;have a4:=hw 4;have a5:=hw 5;exact⟨a0.1,a0.2,a1.1,a1.2,a2.1,a2.2,a3.1,a3.2,a4.1,a4.2,a5.1,a5.2⟩
 have c1:=d7m σ s.ps s.P hs.P l1 n (by omega);simp only[pv6] at c1;have tN:c.out.length<=1000000:=by omega
 have tz:¬c.out.length=0:=by omega
 have ez:eqB (c.out.length:Int) 0=ff:=dF0 (by omega);have la:(c.ask.map Xg).length=c.out.length:=by rw[Qb,k.la]
 have hl1:∀x:MO,(σ++[x]).length=σ.length+1:=fun x=>by simp
 have t1:(0:Nat)<=1000000:=by decide
 have t2:(0:Nat)+1<=1000000:=by decide
 have t3:rows.length<=1000000:=by rw[k.rs.1];have:=hk.cl;omega
 have t4:rows.length+1<=1000000:=by rw[k.rs.1];have:=hk.cl;omega
 have t5:rows.length<=999999:=by omega
 have hlowA:Low (σ++[.row (c.ask.map Xg) 6 51]):=hσ.app (b1X _ _ _);by_cases hcl:c.cl=[]
 ·
  have hz:ltB 0 (c.cl.length:Int)=ff:=by rw[hcl];rfl
  have hgo:c.gots s.ps o=c.ask:=by unfold Ck.gots;rw[Xp hcl]
  rw[hgo];have hga:(σ++[MO.row (c.ask.map Xg) 6 51])[σ.length]?=sM (.row (c.ask.map Xg) 6 51):=by simp
  have hG:BRd (σ++[.row (c.ask.map Xg) 6 51]) (.rsl σ.length c.out.length 6) c.ask:=BSl.rd (R:=fun _=>True) (.inr ⟨σ.length,trivial,by rw[k.la],hga⟩);obtain⟨L,e1,e2⟩:=f0t hs ho hσ k hk l3 hlowA (by simp) (by simp) (Qz ..) hG (by simp[XS]) (a1x _ _) (fun is bs vs=>d7N (ρ:={i:=is,b:=bs,v:=vs,m:=_,k:=σ.length}) hga (Qj _) k.la.symm) hk.ok (by rw[hk.la];exact l3) (hsp.sm.mono (by decide)) n (by omega) (n-(6*c.ask.length+7));rw[X4 (by rw[hk.la];omega)] at e1;refine⟨L,go _ ?_,e2⟩
  have E:Xt (a0a Tab n) a3o {i:=[o.st,o.pc,o.un,o.ru,c.p.a,c.p.b,c.p.c,c.p.d,c.p.e,c.p.f],b:=[c.over],v:=[s.P,s.B,s.C,s.A,VC,VB,VH,VO],m:=σ,k:=σ.length}=sM (.jump 1 (d8M (σ++[.row (c.ask.map Xg) 6 51]) σ.length s o c.p (a2x s.ps) (.rsl σ.length c.out.length 6) (.sl 9 (rows++[[.int .i64 c.p.a,.int .i64 c.p.b,.int .i64 c.p.c,.int .i64 c.p.d,.int .i64 c.p.e,.int .i64 c.p.f,VB,.rsl σ.length c.out.length 6,VH]])) VB VH VO ff)):=by
   rw[hov];simp only[a3o,↓reduceIte,Xt,Xk,Xn,Xh,PEnv.at,Q2,Q3,Q4,Q6,Q8,a0c,a0w,a0m,Q1,Q0,Xs,Q7,Q5,Xr,Xj,c1,b1,b2,ez,a1O,k.ask,la,Xp tN,Xu tz,v1,v2,hz]
   repeat' (first|with_reducible rfl|apply a4n|simp only[↓reduceIte,a2j,a0s,Xk,Xn,Xh,Q2,Q3,Q4,Q6,X1,Qh,Qf,Q1,Q0,Q7,Q5,Qa,Xr,Xj,Xw,Qe,Qg,a1O,QM,QD,Xf,QN,QE,d8M,Qf,Xp t1,Xp t2,Xp t3,Xp t4,a1x,k.cl,QB,Q5]|unfold b1v|unfold b1l|unfold a7r|unfold a7d)
  exact(congrArg (Qw · _) E).trans e1
 ·
  have hpos:0<c.cl.length:=List.length_pos_iff.2 hcl;have hz:ltB 0 (c.cl.length:Int)=tt:=by rw[a0U];omega
  have hgo:c.gots s.ps o=apW o.un (a2x s.ps) c.prev c.ask:=by unfold Ck.gots;rw[Xu hcl]
  obtain⟨r,hrr⟩:=a0S (show c.cl.length-1<c.cl.length by omega);obtain⟨row,hrow⟩:=a0S (show c.cl.length-1<rows.length by rw[k.rs.1];omega);obtain⟨a,g,b,rfl,ha,hg,hb⟩:=k.rs.2 _ r row hrr hrow;have hlast:c.cl.getLast?=sM r:=by rw[List.getLast?_eq_getElem?];exact hrr
  obtain⟨y1,y2,y3,y4,y5,y6⟩:=hk.rn r (Qy hrr)
  have hpv:c.prev=prN r.got c.out c.out.length:=by
   rw[d3w c (by rw[hlast];simp only[Q1,Xb];rw[y3,hk.out];exact Qj _),hlast];rfl
  have hpl:c.prev.length=c.out.length:=by rw[hpv,c0s,y3,hN]
  have hpo:∀w∈c.prev,w.ok:=by rw[hpv];exact e4t y6
  have idx:(c.cl.length:Int)-1=((c.cl.length-1:Nat):Int):=by omega
  have q1:=a0V (off:=7) k.cl hrow;have hlt:ltB ((c.cl.length-1:Nat):Int) (c.cl.length:Int)=tt:=by rw[a0U];omega
  have hi64:=a1K (z:=((c.cl.length-1:Nat):Int)) (by have:=hk.cl;omega);obtain⟨g1,g2,g3⟩:=a0b hg;rw[Qb,y3,<- hN] at g1;have lg:(r.got.map Xg).length=c.out.length:=by rw[Qb,y3,hN]
  have hMl:Low (σ++[.row (c.ask.map Xg) 6 51]++[.row (c.prev.map Xg) 6 51]):=hlowA.app (b1X _ _ _);have hga:(σ++[MO.row (c.ask.map Xg) 6 51]++[.row (c.prev.map Xg) 6 51])[σ.length+1]?=sM (.row (c.prev.map Xg) 6 51):=by simp
  have hB:BRd (σ++[.row (c.ask.map Xg) 6 51]++[.row (c.prev.map Xg) 6 51]) (.rsl (σ.length+1) c.out.length 6) c.prev:=BSl.rd (R:=fun _=>True) (.inr ⟨σ.length+1,trivial,by rw[hpl],hga⟩);have c2:=e9w (σ++[.row (c.ask.map Xg) 6 51]++[.row (c.prev.map Xg) 6 51]) n o.un (a2x s.ps) (.rsl (σ.length+1) c.out.length 6) VB c.prev c.ask hMl (by unfold Po.ok at ho;omega) hsp hB rfl (by simp only[PV.rowsAt,Xx,hga,Q0,MO.elts,Qb,hpl,XJ]) k.ask (by rw[k.la,hpl]) (by rw[hpl];omega) (by rw[hpl,hN];exact l3) hk.ok hpo (by omega);rw[<- hgo] at c2;have hgl:(c.gots s.ps o).length<=8:=by rw[gl];exact l3
  obtain⟨L,e1,e2⟩:=f0t hs ho hσ k hk l3 hMl (by simp) (by simp) (by rw[Qn,Qz]) (G:=.sl 6 ((c.gots s.ps o).map Xg)) (XY (a1x _ _)) (b1X _ _ 0) (a1x _ _) (fun is bs vs=>Xz _ (b1X _ _ 0)) gk hgl (hsp.sm.mono (by decide)) n (by omega) (n-c.out.length-1-(6*(c.gots s.ps o).length+7));rw[X4 (by omega)] at e1;have f1:=f3T hs hv ho hσ k hk n (.row (c.ask.map Xg) 6 51) (a2x s.ps) r.got (by rw[y3,hN]) c.out.length 0 (by omega) (n-c.out.length);rw[X4 (by omega),e4f,<- hpv] at f1;refine⟨L,go _ ?_,e2⟩;have nl:ltB (c.out.length:Int) (c.out.length:Int)=ff:=(a0G ..).2 (by omega);have rK:∀h N:Nat,PV.isKind 0 (.rsl h N 6)=tt:=fun _ _=>rfl
  have rO:∀h N:Nat,XH (.rsl h N 6)=tt:=fun _ _=>rfl
  have E:Xt (a0a Tab n) a3o {i:=[o.st,o.pc,o.un,o.ru,c.p.a,c.p.b,c.p.c,c.p.d,c.p.e,c.p.f],b:=[c.over],v:=[s.P,s.B,s.C,s.A,VC,VB,VH,VO],m:=σ,k:=σ.length}=sM (.jump 0 (d4v (σ++[.row (c.ask.map Xg) 6 51]++[.row (r.got.map Xg) 6 51]) σ.length s o c.p (a2x s.ps) 0 (.rsl (σ.length+1) c.out.length 6) VC VB VH VO ff)):=by
   rw[hov];unfold a3o d4v
   repeat (first|rw[a2E]|rw[a0A]|rw[a0e]|rw[a0h]|rw[a0F]|rw[a1s]|rw[a2v]|rw[a2X]|rw[a2j]|rw[a2w]|rw[a0s]|rw[a0j])<;>simp only[↓reduceIte,Xk,Xn,Xh,PEnv.at,Q2,Q3,Q4,Q6,a0H,a0x,a1g,Qm,Qh,Qf,Nat.reduceAdd,Q8,Qq,Qr,a0c,a0w,a0m,Q1,Q0,Xs,Q7,Q5,Xr,Xj,Xw,Qd,Qe,Qg,c1,b1,b2,ez,a1O,k.ask,la,Xp tN,Xu tz,v1,v2,hz,idx,Xp hi64,le0,hlt,q1,QY,Nat.reduceLeDiff,g1,g2,g3,hg,lg,hl1]
  simp only[pv6] at c2
  have F:Xt (a0a Tab n) a3F (d4v (σ++[.row (c.ask.map Xg) 6 51]++[.row (c.prev.map Xg) 6 51]) σ.length s o c.p (a2x s.ps) (c.out.length:Int) (.rsl (σ.length+1) c.out.length 6) VC VB VH VO ff)=sM (.jump 1 (d8M (σ++[.row (c.ask.map Xg) 6 51]++[.row (c.prev.map Xg) 6 51]) σ.length s o c.p (a2x s.ps) (.sl 6 ((c.gots s.ps o).map Xg)) (.sl 9 (rows++[[.int .i64 c.p.a,.int .i64 c.p.b,.int .i64 c.p.c,.int .i64 c.p.d,.int .i64 c.p.e,.int .i64 c.p.f,VB,.sl 6 ((c.gots s.ps o).map Xg),VH]])) VB VH VO ff)):=by
   simp only[a3F,d4v,↓reduceIte,Xt,Xk,Xn,Xh,PEnv.at,Q2,Q3,Q4,Q6,Q8,a0c,a0w,a0m,Q1,Q0,Xs,Q7,Q5,Qa,Xr,Xj,rK,d5u,nl,c2,a1J,slO]
   repeat' (first|with_reducible rfl|apply a4n|simp only[↓reduceIte,a2j,a0s,Xk,Xn,Xh,Q2,Q3,Q4,Q6,X1,Qh,Qf,Q1,Q0,Q7,Q5,Qa,Xr,Xj,Xw,Qe,Qg,a1O,QM,QD,Xf,QN,QE,d8M,Qf,Xp t1,Xp t2,Xp t3,Xp t4,a1x,k.cl,QB,Q5]|unfold b0D|unfold b0G|unfold b0C|unfold b0E)
  refine(congrArg (Qw · _) E).trans ?_;refine f1.trans ?_;rw[show n-c.out.length=(n-c.out.length-1)+1 by omega];exact(b1k rfl F).trans e1
end
theorem e8M(c:Ck)(ps:List Pr)(o:Po):(c.close ps o).2.1=if (c.close ps o).2.2=0 then(c.close ps o).1.over else ff:=by
 obtain h|h:c.over=tt\/c.over=ff:=by cases c.over<;>simp
 ·have hce:c.close ps o=(c,ff,10):=by unfold Ck.close;rw[Xp h]
  rw[hce];rfl
 ·rw[d2A c ps o h]
  unfold Ck.closeTo;split<;>rfl
section
variable {s:St}{cs ad:List Tri}(hs:SuOk s cs ad)(hv:a8s s.ps s.bs cs ad=0){o:Po}(ho:o.ok){σ:List MO}(hσ:Low σ){VC VB VH VO:PV}{rows:List (List PV)}{c:Ck}(k:RcAt VC VB VH VO rows c)(hk:CkOk s.bs.length c)(n:Nat)
include hs hv ho hσ k hk
set_option maxHeartbeats 4000000 in
theorem f1w(q:Stp)(hn:1300000<=n):∃L,a0a Tab n 13 [.agg (ckL s o VC VB VH VO c.p c.over),.agg q.row] σ=sM (.tup [.agg L,.bool (c.step cs ad o s q).2.1,.int .i64 (c.step cs ad o s q).2.2],σ)/\c9o s o L (c.step cs ad o s q).1:=by
 obtain⟨n,rfl⟩:=a0L n (by omega);obtain⟨l1,l2,l3,l4,l5⟩:=XM hv;have hN:c.out.length<=1000:=by rw[hk.out];omega
 have hN0:0<c.out.length:=by rw[hk.out];omega
 have hcl:c.cl.length<=100:=by have:=hk.cl;omega
 obtain⟨_,_,p3⟩:=a0b hs.P;obtain⟨_,_,b3⟩:=a0b hs.B;obtain⟨_,_,c3⟩:=a0b hs.C;obtain⟨_,_,a3⟩:=a0b hs.A;have vc3:=(a0b k.cl).2.2;have vb3:=(a0b k.ask).2.2;have vh3:=(a0b k.bid).2.2;have vo3:=(a0b k.out).2.2;have e5:=a3l
 have go:∀r,Xt (a0a Tab n) a3q {i:=[o.st,o.pc,o.un,o.ru,c.p.a,c.p.b,c.p.c,c.p.d,c.p.e,c.p.f,q.k,q.i,q.r,q.w.a,q.w.b,q.w.c,q.w.d,q.w.e,q.w.f],b:=[c.over],v:=[s.P,s.B,s.C,s.A,VC,VB,VH,VO],m:=σ,k:=σ.length}=sM (.ret r.1 r.2)->a0a Tab (n+1) 13 [.agg (ckL s o VC VB VH VO c.p c.over),.agg q.row] σ=sM r:=fun r hr=>by
  rw[a0a];simp only[c8f,Q0,XC,ckL,XD];show ((a0i [.sh (.agg [_,_,_,_,_,_,_,_,_,_,_,_,_,_,_,_,_,_,_]),.sh (.agg [_,_,_,_,_,_,_,_,_])] _).bind _)=_;simp only[a0i,a0m,a0c,Q1,Q0,Qa,Q5,Q7,Xx,p3,b3,c3,a3,vc3,vb3,vh3,vo3];show (Xt _ a3q _).bind _=_;exact(congrArg (Qw · _) hr).trans rfl
 unfold Ck.step;by_cases h0:q.k=0
 ·obtain⟨L,e1,VC',VB',VH',VO',rows',rfl,k'⟩:=f4u hs hv (o:=o) hσ k hk n q.i q.w (by omega)
  simp only[Xp h0];refine⟨_,go (_,_) ?_,VC',VB',VH',VO',rows',rfl,k'⟩;have x1:=(a0b k'.cl).2.2;have x2:=(a0b k'.ask).2.2;have x3:=(a0b k'.bid).2.2;have x4:=(a0b k'.out).2.2;generalize (c.doBid s.ps s.bs cs ad o s q.i q.w)=c' at *
  simp only[pv6,ckL] at e1;simp only[a3q,↓reduceIte,a0j,a0e,a0A,Xk,Xn,Xh,Q2,Q3,Q4,Q6,Q8,a0c,a0w,a0m,Q1,Q0,Xs,Q7,Q5,Qa,Xr,Xj,e5,dT0 h0,e1,a1J,p3,b3,c3,a3,x1,x2,x3,x4,a0n,Xv,ckL]
 simp only[Xu h0];by_cases h1:q.k=1
 ·obtain⟨L,e1,VC',VB',VH',VO',rows',rfl,k'⟩:=f1v hs hv ho hσ k hk n (by omega)
  have hfl:=e8M c s.ps o;simp only[Xp h1];refine⟨_,go (_,_) ?_,VC',VB',VH',VO',rows',rfl,k'⟩;have x1:=(a0b k'.cl).2.2;have x2:=(a0b k'.ask).2.2;have x3:=(a0b k'.bid).2.2;have x4:=(a0b k'.out).2.2;generalize c.close s.ps o=c' at *
  rw[hfl];simp only[ckL] at e1;by_cases hz:c'.2.2=0
  ·simp only[a3q,↓reduceIte,a0j,a0e,a0A,Xk,Xn,Xh,Q2,Q3,Q4,Q6,Q8,a0c,a0w,a0m,Q1,Q0,Xs,Q7,Q5,Qa,Xr,Xj,e5,dF0 h0,dT0 h1,e1,a1J,p3,b3,c3,a3,x1,x2,x3,x4,dT0 hz,Xp hz,a0n,Xv,ckL]
  ·simp only[a3q,↓reduceIte,a0j,a0e,a0A,Xk,Xn,Xh,Q2,Q3,Q4,Q6,Q8,a0c,a0w,a0m,Q1,Q0,Xs,Q7,Q5,Qa,Xr,Xj,e5,dF0 h0,dT0 h1,e1,a1J,p3,b3,c3,a3,x1,x2,x3,x4,dF0 hz,Xu hz,a0n,Xv,ckL]
 simp only[Xu h1];by_cases h2:q.k=2
 ·obtain⟨L,e1,VC',VB',VH',VO',rows',rfl,k'⟩:=f2x hs (o:=o) hσ k hN n (by omega)
  simp only[Xp h2];refine⟨_,go (_,_) ?_,VC',VB',VH',VO',rows',rfl,k'⟩;have x1:=(a0b k'.cl).2.2;have x2:=(a0b k'.ask).2.2;have x3:=(a0b k'.bid).2.2;have x4:=(a0b k'.out).2.2;generalize c.stop=c' at *
  simp only[ckL] at e1;simp only[a3q,↓reduceIte,a0j,a0e,a0A,Xk,Xn,Xh,Q2,Q3,Q4,Q6,Q8,a0c,a0w,a0m,Q1,Q0,Xs,Q7,Q5,Qa,Xr,Xj,e5,dF0 h0,dF0 h1,dT0 h2,e1,a1J,p3,b3,c3,a3,x1,x2,x3,x4,a0n,Xv,ckL]
 simp only[Xu h2];by_cases h3:q.k=3
 ·obtain⟨L,e1,VC',VB',VH',VO',rows',rfl,k'⟩:=f1Q hs (o:=o) hσ k hN n hN0 q.i (by omega)
  simp only[Xp h3];refine⟨_,go (_,_) ?_,VC',VB',VH',VO',rows',rfl,k'⟩;have x1:=(a0b k'.cl).2.2;have x2:=(a0b k'.ask).2.2;have x3:=(a0b k'.bid).2.2;have x4:=(a0b k'.out).2.2;generalize c.drop q.i=c' at *
  simp only[ckL] at e1;simp only[a3q,↓reduceIte,a0j,a0e,a0A,Xk,Xn,Xh,Q2,Q3,Q4,Q6,Q8,a0c,a0w,a0m,Q1,Q0,Xs,Q7,Q5,Qa,Xr,Xj,e5,dF0 h0,dF0 h1,dF0 h2,dT0 h3,e1,a1J,p3,b3,c3,a3,x1,x2,x3,x4,a0n,Xv,ckL]
 simp only[Xu h3];obtain⟨L,e1,VC',VB',VH',VO',rows',rfl,k'⟩:=f1b hs (o:=o) hσ k hN n hcl q.r (by omega);refine⟨_,go (_,_) ?_,VC',VB',VH',VO',rows',rfl,k'⟩;have x1:=(a0b k'.cl).2.2;have x2:=(a0b k'.ask).2.2;have x3:=(a0b k'.bid).2.2;have x4:=(a0b k'.out).2.2;generalize c.reset q.r=c' at *
 simp only[ckL] at e1;simp only[a3q,↓reduceIte,a0j,a0e,a0A,Xk,Xn,Xh,Q2,Q3,Q4,Q6,Q8,a0c,a0w,a0m,Q1,Q0,Xs,Q7,Q5,Qa,Xr,Xj,e5,dF0 h0,dF0 h1,dF0 h2,dF0 h3,e1,a1J,p3,b3,c3,a3,x1,x2,x3,x4,a0n,Xv,ckL]
end
open Go.ChangeShapes Go.WideShapes Go.ChangeAt Go.RowKit Go.Sx
def cp0(M:List MO)(E E2:PV)(h:Nat)(s:St)(o:Po)(i:Int)(VC VB VH VO:PV)(p:W6)(ov:Bool):PEnv:={i:=[i,o.st,o.pc,o.un,o.ru,o.st,o.pc,o.un,o.ru,p.a,p.b,p.c,p.d,p.e,p.f],b:=[ov],v:=[E,E2,.ref h 0,s.P,s.B,s.C,s.A,s.P,s.B,s.C,s.A,VC,VB,VH,VO],m:=M,k:=0}
def cp1(M:List MO)(E:PV)(h d:Nat)(s:St)(o:Po)(i:Int)(VC VB VH VO:PV)(p:W6)(ov:Bool):PEnv:={i:=[i,o.st,o.pc,o.un,o.ru,o.st,o.pc,o.un,o.ru,p.a,p.b,p.c,p.d,p.e,p.f],b:=[ov],v:=[E,.ref h 0,.ref d 0,s.P,s.B,s.C,s.A,s.P,s.B,s.C,s.A,VC,VB,VH,VO],m:=M,k:=0}
section
variable {s:St}{cs ad:List Tri}(hs:SuOk s cs ad)(hv:a8s s.ps s.bs cs ad=0){o:Po}(ho:o.ok)(n:Nat)(hn:1400000<=n){E E2:PV}{l l2:List Stp}(hE:E.rowsOf 9=sM (l.map XD))(hl:l.length<=200)(hE2:E2.rowsOf 9=sM (l2.map XD))(hl2:l2.length<=200){h:Nat}
include hs hv ho hn hE2 hl2
theorem f8A(aw:∀σ,a0a b3p n 8 [] σ=sM (.bool tt,σ)){c:Ck}(hk:CkOk s.bs.length c){VC VB VH VO:PV}{rows:List (List PV)}(k:RcAt VC VB VH VO rows c){g:Nat}:∀d i,i+d=l2.length->∀(M:List MO) (F D:Nat->Prop) (c2:Ck),b4z s o M h F c->b4z s o M g D c2->(∀x,F x->¬D x)->Low M->CkOk s.bs.length c2->∀fuel,d+1<=fuel ->
  f7Q.loop (a0a b3p n) fuel 1 (cp1 M E2 h g s o (i:Int) VC VB VH VO c.p c.over)=sM (.bool tt,[]):=by
 obtain⟨q1,q2,q3⟩:=a0b hE2;rw[Qb] at q1;have p3:=(a0b hs.P).2.2;have b3:=(a0b hs.B).2.2;have c3:=(a0b hs.C).2.2;have a3:=(a0b hs.A).2.2;have vc3:=(a0b k.cl).2.2;have vb3:=(a0b k.ask).2.2;have vh3:=(a0b k.bid).2.2;have vo3:=(a0b k.out).2.2;intro d
 induction d with
 | zero =>
  intro i hi M F D c2 K K2 hd hM hk2 fuel hf;obtain⟨fuel,rfl⟩:∃k,fuel=k+1:=⟨fuel-1,by omega⟩;obtain rfl:i=l2.length:=by omega
  have nl:ltB (l2.length:Int) (l2.length:Int)=ff:=(a0G ..).2 (by omega);have ag:=evW (f1f hs K hM k hk (by have:=(XM hv).2.2.1;omega) n (by omega));have aw0:=aw M;simp only[ckL] at ag aw0;refine d8L (t:=f7S) rfl ?_;simp only[f7S,cp1,↓reduceIte,a0j,a0e,a0h,a0A,Xk,Xn,Xh,PEnv.at,Q2,Q3,Q4,Q6,Q8,a0c,a0w,a0m,Q1,Q0,Xs,Q7,Q5,Xr,Xj,q1,q2,nl,ag,aw0,f2J]
 | succ d ih =>
  intro i hi M F D c2 K K2 hd hM hk2 fuel hf;obtain⟨fuel,rfl⟩:∃k,fuel=k+1:=⟨fuel-1,by omega⟩;obtain⟨q,hq⟩:=a0S (show i<l2.length by omega);obtain⟨M',D',d1,d2,d3⟩:=f6D hs hv ho K2 hM hk2 n q (by omega);have K':=K.frame d3.len fun x hx=>d3.keep x (K.bd x hx) (hd x hx)
  have ih:=ih (i+1) (by omega) M' F D' _ K' d2 (fun x hx hD=>by
   rcases d3.own x hD with h1|h1
   ·exact hd x hx h1
   ·have:=K.bd x hx;omega) d3.low (e7P hk2 q) fuel (by omega)
  rw[a1o] at ih;have d1:=evW d1;have r:=a0V (off:=0) hE2 (show (l2.map XD)[i]?=sM q.row by rw[Qp,hq];rfl);have lt:ltB (i:Int) (l2.length:Int)=tt:=a0U.2 (by omega);have hup:=a2N (show i<=1000000000 by omega);generalize c2.step cs ad o s q=cc at *
  obtain⟨c',is,e⟩:=cc;simp only[f4p] at d1 r;refine(b1k (t:=f7S) rfl ?_).trans ih;simp only[f7S,cp1,↓reduceIte,a0e,a0h,a0F,a0A,a0s,Xk,Xn,Xh,PEnv.at,Q2,Q3,Q4,Q6,a0H,a0x,a1g,Qm,Qh,Qf,Nat.reduceAdd,Qj,Q8,Qq,Qr,a0c,a0w,a0m,Q1,Q0,Xs,Q7,Q5,Qa,Xr,Xj,Xw,Qd,Qe,Qg,q1,q2,lt,le0,r,d1,a1J,Xp hup,]
include hE hl
theorem f8z(aw:∀σ,a0a b3p n 8 [] σ=sM (.bool tt,σ)):∀d i,i+d=l.length->∀(M:List MO) (F:Nat->Prop) (c:Ck) (VC VB VH VO:PV) (rows:List (List PV)),b4z s o M h F c->Low M->CkOk s.bs.length c->RcAt VC VB VH VO rows c->∀fuel,d+l2.length+2<=fuel ->
  f7Q.loop (a0a b3p n) fuel 0 (cp0 M E E2 h s o (i:Int) VC VB VH VO c.p c.over)=sM (.bool tt,[]):=by
 obtain⟨q1,q2,q3⟩:=a0b hE;rw[Qb] at q1;have p3:=(a0b hs.P).2.2;have b3:=(a0b hs.B).2.2;have c3:=(a0b hs.C).2.2;have a3:=(a0b hs.A).2.2;have l8:=(XM hv).2.2.1;intro d
 induction d with
 | zero =>
  intro i hi M F c VC VB VH VO rows K hM hk k fuel hf;obtain⟨fuel,rfl⟩:∃k,fuel=k+1:=⟨fuel-1,by omega⟩;obtain rfl:i=l.length:=by omega
  have nl:ltB (l.length:Int) (l.length:Int)=ff:=(a0G ..).2 (by omega);obtain⟨M',D,e1,e2,e3,e4,e5,e6⟩:=f8y hs hv K hM (by rw[hk.out];omega) (fun r hr=>by obtain⟨_,h1,h2,h3,_⟩:=hk.rn r hr;omega) (by have:=hk.cl;omega) n (by omega);have K':=K.frame e5 fun x hx=>e4 x (K.bd x hx)
  have e1:=evW e1;have ag:=evW (f1f hs e2 e6 k hk (by omega) n (by omega));have key:=f8A hs hv ho n hn hE2 hl2 aw hk k l2.length 0 (by omega) M' F D c K' e2 (fun x hx hD=>by have:=e3 x hD;have:=K.bd x hx;omega) e6 hk fuel (by omega);have vc3:=(a0b k.cl).2.2;have vb3:=(a0b k.ask).2.2;have vh3:=(a0b k.bid).2.2;have vo3:=(a0b k.out).2.2;have o2:=(a0b hE2).2.2;simp only[ckL] at ag e1;refine(b1k (t:=f7T) rfl ?_).trans key;simp only[f7T,cp0,cp1,↓reduceIte,a0j,a0e,a0h,a0A,a0s,Xk,Xn,Xh,PEnv.at,Q2,Q3,Q4,Q6,Q8,a0c,a0w,a0m,Q1,Q0,Xs,Q7,Q5,Xr,Xj,Xw,Qk,Qe,Qg,q1,q2,nl,b3G,a7a,a6S,a6T,e1,ag,];rfl
 | succ d ih =>
  intro i hi M F c VC VB VH VO rows K hM hk k fuel hf;obtain⟨fuel,rfl⟩:∃k,fuel=k+1:=⟨fuel-1,by omega⟩;obtain⟨q,hq⟩:=a0S (show i<l.length by omega);obtain⟨M',F',d1,d2,d3⟩:=f6D hs hv ho K hM hk n q (by omega);obtain⟨L,m1,VC',VB',VH',VO',rows',rfl,k'⟩:=f1w hs hv ho d3.low k hk n q (by omega);have hk':=e7P (cs:=cs) (ad:=ad) (o:=o) hk q;generalize c.step cs ad o s q=cc at *
  obtain⟨c',is,e⟩:=cc;simp only at d1 d2 m1 k' hk' ⊢;have ih:=ih (i+1) (by omega) M' F' c' VC' VB' VH' VO' rows' d2 d3.low hk' k' fuel (by omega);rw[a1o] at ih;have d1:=evW d1;have m1:=evW m1;have r:=a0V (off:=0) hE (show (l.map XD)[i]?=sM q.row by rw[Qp,hq];rfl);have lt:ltB (i:Int) (l.length:Int)=tt:=a0U.2 (by omega);have hup:=a2N (show i<=1000000000 by omega);have vc3:=(a0b k.cl).2.2;have vb3:=(a0b k.ask).2.2;have vh3:=(a0b k.bid).2.2;have vo3:=(a0b k.out).2.2;have x1:=(a0b k'.cl).2.2;have x2:=(a0b k'.ask).2.2;have x3:=(a0b k'.bid).2.2;have x4:=(a0b k'.out).2.2;simp only[f4p,ckL] at d1 m1 r;refine(b1k (t:=f7T) rfl ?_).trans ih;simp only[f7T,cp0,↓reduceIte,a0e,a0h,a0F,a0A,a0s,Xk,Xn,Xh,PEnv.at,Q2,Q3,Q4,Q6,a0H,a0x,a1g,Qm,Qh,Qf,Nat.reduceAdd,Qj,Q8,Qq,Qr,a0c,a0w,a0m,Q1,Q0,Xs,Q7,Q5,Qa,Xr,Xj,Xw,Qd,Qe,Qg,q1,q2,lt,le0,r,d1,m1,a1J,Xp hup,p3,b3,c3,a3,x1,x2,x3,x4]
end
theorem f8x(n:Nat)(hn:1400000<=n)(ps:List Pr)(bs:List Bd)(cs ad:List Tri)(o:Po)(l l2:List Stp)(aw:∀σ,a0a b3p n 8 [] σ=sM (.bool tt,σ)) :
  a0a b3p (n+1) 6 [.agg [.sl 5 (ps.map Pr.row),.sl 4 (bs.map Bd.row),.sl 3 (cs.map XR),.sl 3 (ad.map XR)],.agg o.row,.sl 9 (l.map XD),.sl 9 (l2.map XD)] []=sM (.bool tt,[]):=by
 obtain⟨s,hse⟩:∃s:St,s=⟨ps,bs,.sl 5 (ps.map Pr.row),.sl 4 (bs.map Bd.row),.sl 3 (cs.map XR),.sl 3 (ad.map XR)⟩:=⟨_,rfl⟩;have hs:SuOk s cs ad:=by subst hse;exact⟨a1x _ _,a1x _ _,a1x _ _,a1x _ _⟩
 generalize hEe:XN 9 (l.map XD)=E;have hE:E.rowsOf 9=sM (l.map XD):=by rw[<- hEe];exact a1x _ _
 generalize hEe2:XN 9 (l2.map XD)=E2;have hE2:E2.rowsOf 9=sM (l2.map XD):=by rw[<- hEe2];exact a1x _ _
 have hpv:[XN 5 (ps.map Pr.row),.sl 4 (bs.map Bd.row),.sl 3 (cs.map XR),.sl 3 (ad.map XR)]=[s.P,s.B,s.C,s.A]:=by subst hse;rfl
 have hps:ps=s.ps:=by subst hse;rfl
 have hbs:bs=s.bs:=by subst hse;rfl
 rw[hpv];subst hps hbs;clear hse hpv hEe hEe2;obtain⟨_,_,p3⟩:=a0b hs.P;obtain⟨_,_,b3⟩:=a0b hs.B;obtain⟨_,_,c3⟩:=a0b hs.C;obtain⟨_,_,a3⟩:=a0b hs.A;obtain⟨_,_,q3⟩:=a0b hE;obtain⟨u1,u2,u3⟩:=a0b hE2;rw[Qb] at u1;have aw0:=aw;obtain⟨z,g1,g2⟩:=f0p [] n (by omega) (knl hs.P (Qb _)) (knl hs.B (Qb _)) (knl hs.C (Qb _)) (knl hs.A (Qb _)) (knl hE (Qb _));have g1:=evW g1;have e5:∀a b:Int,eqB a b=decide (a=b):=fun _ _=>rfl
 skip
 rw[a0a,show b3p 6=sM f7Q from e7Q _ _ f8l];simp only[Q0,XC,a5l];show ((a0i [.sh (.agg [_,_,_,_]),.sh (.agg [_,_,_,_]),.sh (.one _),.sh (.one _)] _).bind _)=_;simp only[a0i,a0m,a0c,Q1,Q0,Qa,Q5,Q7,Xx,p3,b3,c3,a3,q3,u3];show (Xt _ f7R _).bind _=_;cases z with
 | true=>simp only[f7R,↓reduceIte,a0j,a0e,a0h,a0A,a0s,Xk,Xn,Xh,PEnv.at,Q2,Q3,Q4,Q6,Qf,a0c,a0w,a0m,Q1,Q0,Xs,Q7,Q5,Xr,Xj,Xw,Qe,Qg,g1,aw0,f2J]
 | false =>
  obtain⟨_,_,_,_,hl⟩:=g2 rfl;by_cases hl2:l2.length<=200
  case neg =>
   have hm:ltB 200 (l2.length:Int)=tt:=a0U.2 (by omega);simp only[f7R,↓reduceIte,a0j,a0e,a0h,a0A,Xk,Xn,Xh,PEnv.at,Q2,Q3,Q4,Q6,Qf,Q8,a0c,a0w,a0m,Q1,Q0,Xs,Q7,Q5,Xr,Xj,g1,u1,u2,hm,aw0,f2J]
  have hm:ltB 200 (l2.length:Int)=ff:=(a0G ..).2 (by omega);have e0:∀a:Int,eqB a a=tt:=fun a=>dT0 rfl
  by_cases he:b8H s.ps s.bs cs ad o=0
  case neg =>
   have n1:=evW (f4Z hs o [] n he (by omega));obtain⟨l',n2,hl'⟩:=f1g hs o [] n he (by omega);have n2:=evW n2;rw[hl'] at n2;simp only[XQ,a5l] at n1 n2;have op:XH .nilP=tt:=rfl;have on:XH .nilS=tt:=rfl;have ef:eqB (b8H s.ps s.bs cs ad o) 0=ff:=dF0 he;simp only[f7R,↓reduceIte,a0j,a0e,a0h,a0A,a0s,Xk,Xn,Xh,PEnv.at,Q2,Q3,Q4,Q6,Qf,Q8,a0c,a0w,a0m,Q1,Q0,Xs,Q7,Q5,Qa,Xr,Xj,Xw,Qt,Qe,Qg,g1,u1,u2,hm,n1,n2,a1J,op,on,ef,aw0,f2J]
  case pos =>
   have hv:a8s s.ps s.bs cs ad=0:=by
    unfold b8H at he;split at he
    ·assumption
    ·exact he
   have ho:o.ok:=by
    unfold b8H at he;rw[Xp hv] at he;unfold a6U at he;split at he
    ·assumption
    ·cases he
   obtain⟨v1,v2,v3,v4⟩:=c0l hv;obtain⟨hl6,hr6⟩:=a9X v1;obtain⟨M,F,n1,K,nF,nk,nl,nlow⟩:=f4M hs o [] rfl n he (by omega);have n1:=evW n1;obtain⟨l',n2,hl'⟩:=f1q hs o M nlow n he (by omega);have n2:=evW n2;obtain⟨VC,VB,VH,VO,rows,rfl,k⟩:=hl';have vc3:=(a0b k.cl).2.2;have vb3:=(a0b k.ask).2.2;have vh3:=(a0b k.bid).2.2;have vo3:=(a0b k.out).2.2;have key:=f8z hs hv ho n hn hE hl hE2 hl2 aw l.length 0 (by omega) M F _ VC VB VH VO rows K nlow (f4U hr6 _) k n (by omega);have key:f7Q.loop (a0a b3p n) n 0 (cp0 M E E2 1 s o 0 VC VB VH VO (ck0 s.ps s.bs.length).p (ck0 s.ps s.bs.length).over)=sM (.bool tt,[]):=key;have n1:a0a b3p n 9 [.agg [s.P,s.B,s.C,s.A],.agg [.int .i64 o.st,.int .i64 o.pc,.int .i64 o.un,.int .i64 o.ru]] []=sM (.tup [.ref 1 0,.int .i64 0],M):=n1;generalize ck0 s.ps s.bs.length=c0 at *
   simp only[XQ,a5l,ckL] at n1 n2;simp only[f7R,↓reduceIte,a0j,a0e,a0h,a0A,a0s,Xk,Xn,Xh,PEnv.at,Q2,Q3,Q4,Q6,Qf,Q8,a0c,a0w,a0m,Q1,Q0,Xs,Q7,Q5,Qa,Xr,Xj,Xw,Qk,Qe,Qg,p3,b3,c3,a3,g1,u1,u2,hm,n1,n2,a1J,b3G,e0,vc3,vb3,vh3,vo3];exact key
theorem f8u(n0:Nat)(ps:List PV)(hs:a2G XE n0 27 ps)(n1:Nat)(po:List PV)(hp:a2G XE n1 29 po)(n2:Nat)(rows:List (List PV))(h2:∀r∈rows,a2G XE n2 53 r)(n3:Nat)(f6f:List (List PV))(h3:∀r∈f6f,a2G XE n3 53 r) :
  a0a b3p 1400001 6 [.agg ps,.agg po,.sl 9 rows,.sl 9 f6f] []=sM (.bool tt,[]):=by
 obtain⟨l1,l2,l3,l4,rfl⟩:=f0j hs;obtain⟨o,rfl⟩:=f1u hp;obtain⟨l,rfl⟩:=b4e (row:=XD) (fun ps h=>e8N h) rows h2;obtain⟨l',rfl⟩:=b4e (row:=XD) (fun ps h=>e8N h) f6f h3;exact f8x 1400000 (by omega) l1 l2 l3 l4 o l l' (awW 1399999)
theorem f8s:ownKnob XE.godebug=nn:=by kernel_rfl
theorem f7W:laidOutB XE=tt:=by kernel_rfl
theorem f7V:Go.Sx.closed XE [27,29,47,22,23,24,25,2,3,53,93,102,89,91,51,9]=tt:=by kernel_rfl
set_option maxRecDepth 100000 in
theorem f8q(os:Os)(started:os.Started)(H:Type)(enc:TypeId×Value->H) :
  ReturnsInHanded {} K1 os 6 .any (K3.pre6 enc XE XT Rows.clockCopiesRow.domain ff) (K3.post enc XE XT ff tt ff ff):=by
 refine returnsInHanded_of_change (C:=K1) f8s started (by kernel_rfl) Tryz.func6
  (ChangeSpec.witness6 (enc:=enc) (C:=K1) ff ⟨#[],#[.agg #[.slice nn 0 0,.slice nn 0 0,.slice nn 0 0,.slice nn 0 0],.agg #[.int .i64 0,.int .i64 0,.int .i64 0,.int .i64 0],.slice nn 0 0,.slice nn 0 0],[]⟩ 8 (by kernel_rfl) (by kernel_rfl) (by kernel_rfl) (by kernel_rfl)) ?_
 intro W base args ds gs before hval0 hW hcnd _;have hval:∀(j:Nat) t v,XT.params[j]?=sM t->args[j]?=sM v->Value.okWide XE W .any base t v:=hval0;have hW':=hW;obtain⟨p,q,hA0,hV,rfl,hfz,hnd⟩:=hW;have hA:DataW.TrodAll enc XE W 0 (fun _=>tt) tt XT.params.toList args.toList ds p:=hA0;rw[Tryz.params6] at hA hval;obtain⟨v0,vs0,d0,ds0,p0,q0,hargs,rfl,rfl,h0,r0⟩:=trodAll_cons hA;obtain⟨v1,vs1,d1,ds1,p1,q1,rfl,rfl,rfl,h1,r1⟩:=trodAll_cons r0;obtain⟨v2,vs2,d2,ds2,p2,q2,rfl,rfl,rfl,h2,r2⟩:=trodAll_cons r1;obtain⟨v3,vs3,d3,ds3,p3,q3,rfl,rfl,rfl,h3,r3⟩:=trodAll_cons r2;obtain⟨rfl,rfl,rfl⟩:=trodAll_nil r3;obtain rfl:args=#[v0,v1,v2,v3]:=by cases args;simp_all
 obtain⟨rfl,rfl⟩:=trodVars_none hV;have k0:=h0;have lt0:∀x∈p0,x.block<W.heap.size:=by obtain⟨m,hm⟩:=k0;exact XX m _ _ _ hm
 obtain⟨n0,a0,e0,s0,w0⟩:=d8U f7V (t:=27) (by decide) Tryz.underlying27 (hval 0 27 v0 rfl rfl) h0;have k1:=h1;have lt1:∀x∈p1,x.block<W.heap.size:=by obtain⟨m,hm⟩:=k1;exact XX m _ _ _ hm
 obtain⟨n1,a1,e1,s1,w1⟩:=d8U f7V (t:=29) (by decide) Tryz.underlying29 (hval 1 29 v1 rfl rfl) h1;have k2:=h2;have lt2:∀x∈p2,x.block<W.heap.size:=by obtain⟨m,hm⟩:=k2;exact XX m _ _ _ hm
 obtain⟨n2,a2,e2,s2,w2⟩:=f1t f7V (t:=47) (by decide) K4 (hval 2 47 v2 rfl rfl) h2;have k3:=h3;have lt3:∀x∈p3,x.block<W.heap.size:=by obtain⟨m,hm⟩:=k3;exact XX m _ _ _ hm
 obtain⟨n3,a3,e3,s3,w3⟩:=f1t f7V (t:=47) (by decide) K4 (hval 3 47 v3 rfl rfl) h3;clear hA0 hval0;rw[show XE.cellsOf 53=9 by kernel_rfl] at e2;rw[show XE.cellsOf 53=9 by kernel_rfl] at e3;have hr:Go.Sx.Reps (Go.Sx.hpOf W) [] [.agg a0,.agg a1,.sl 9 a2,.sl 9 a3] [v0,v1,v2,v3]:=⟨v0,_,rfl,e0,⟨v1,_,rfl,e1,⟨v2,_,rfl,e2,⟨v3,_,rfl,e3,rfl⟩⟩⟩⟩;refine(Go.Sx.lift_true (Go.Sx.evalF_good f4A 1400001 6) (f8u n0 a0 s0 n1 a1 s1 n2 a2 s2 n3 a3 s3) hr).mono fun e W' hh=>?_
 obtain⟨rfl,bel⟩:=hh;exact⟨_,rfl,_,_,_,[],_,[],hW',trodAll_mk1 (shut_bool Tryz.underlying4 _),(trodAll_cons_mk (Below.trod f7W (by kernel_rfl) (XU (by kernel_rfl)) k0 bel lt0) (trodAll_cons_mk (Below.trod f7W (by kernel_rfl) (XU (by kernel_rfl)) k1 bel lt1) (trodAll_cons_mk (Below.trod f7W (by kernel_rfl) (XU (by kernel_rfl)) k2 bel lt2) (trodAll_cons_mk (Below.trod f7W (by kernel_rfl) (XU (by kernel_rfl)) k3 bel lt3) trodAll_mk0)))),rfl,bel.frame _,fun h=>by cases h⟩
theorem clockCopies_proved:Rows.ClockCopiesSaid :=
 OpenClaim.holds_of_wide 6 XT rfl rfl rfl rfl rfl rfl rfl ⟨rfl,rfl,rfl,rfl,rfl⟩ rfl rfl rfl rfl rfl (by kernel_rfl) Tryz.func6 (by kernel_rfl)
  (XU (by kernel_rfl)) (by unfold Func.isWrapper;first|(rw[Xp (by decide +kernel)];kernel_rfl)|(rw[Xu (by decide +kernel)];exact⟨rfl,rfl⟩))
  (fun os started H enc _=>f8q os started H enc)
end Go.Proofs.YtmekflfjaflmkaaGreat
