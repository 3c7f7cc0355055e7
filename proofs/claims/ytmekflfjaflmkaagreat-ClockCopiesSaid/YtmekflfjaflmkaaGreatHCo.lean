/- The clock's law: what its operations do, without the program. -/
import Derived.Test.YtmekflfjaflmkaaGreatHRvb
import Derived.Test.YtmekflfjaflmkaaGreatHCkA
import Derived.Test.YtmekflfjaflmkaaGreatRows
import Derived.WalkKit
import Derived.ProofKit
import Derived.OpenShut
import Derived.JoinedCond
import Derived.ShutString
set_option linter.unusedSimpArgs false
set_option linter.unusedVariables false
set_option linter.unusedSectionVars false
open Option renaming bind_some → Q0, map_some → Q1, bind_eq_bind → X4, pure_def → X5, bind → Xa, getD_some → XC
open Bool renaming false_eq_true → Q2, and_self → Qd, not_true → Qg, not_false → Qn, true_and → Qz, false_and → QB, and_eq_true → QD, true_or → X6, and_true → Xf, false_or → Xg, not_eq_true → Xu, eq_iff_iff → XM
open List renaming getD_cons_zero → Q3, nil_append → Q4, getD_cons_succ → Q5, cons_append → Q6, getElem?_cons_zero → Q7, append_nil → Q8, length_cons → Q9, length_nil → Qa, getElem?_cons_succ → Qb, map_cons → Qe, map_nil → Qh, getElem?_set_ne → Qj, replicate → Qk, getElem?_eq_some_iff → Qp, drop_zero → Qq, getElem?_append_left → Qr, length_set → Qs, mem_of_getElem? → Qt, append_assoc → Qu, length_append → Qv, flatten_cons → Qw, all_eq_true → Qy, take_zero → QA, length_singleton → QE, take_succ_cons → QH, map → QK, length_map → QL, getElem?_set_self → QN, take_of_length_le → QQ, getElem?_map → QS, mem_or_eq_of_mem_set → QU, getElem?_append_right → QV, length_take → QW, all_append → QX, replicate_succ → QY, length_drop → QZ, all_cons → X0, ext_getElem? → X1, mapM_cons → X2, mapM_nil → X3, all_nil → X9, mem_of_mem_take → Xc, drop_eq_nil_of_le → Xd, take_left' → Xh, set_cons_zero → Xj, drop_left' → Xk, mem_map → Xn, map_set → Xp, drop_eq_getElem_cons → Xq, foldl_cons → Xs, getElem?_set → Xv, mem_append → Xw, set_append_left → Xy, length_pos_iff → Xz, getLast?_eq_getElem? → XA, drop_append → XD, take_append → XE, getElem?_eq_getElem → XF, drop_drop → XG, drop_take → XH, take_take → XJ, getElem?_of_mem → XK, foldl_nil → XL, set_append_right → XN, take_length → XP, take_add_one → XQ, map_append → XR, map_replicate → XS
open Nat renaming zero_add → Qf, le_refl → Qm, add_zero → QM, add_mul → X7, add_sub_cancel_left → X8, sub_self → Xb, min_eq_left → Xe, le_succ → Xr, min_self → Xx
open Int renaming tdiv → QC, toNat_natCast → QJ, tdiv_eq_ediv_of_nonneg → Xt
open Option.some renaming injEq → QP
open _root_ renaming if_pos → XT, if_neg → K4, if_true → K5, or_true → Kc, true_or → Kf, if_false → Kn, decide_true → Kp, and_self → Kq, decide_false → Kr, decide_eq_true_eq → KC, true_and → KM
open Go.Sx.SV renaming pv → XU, pvs → XZ
open Go.Sx.IE renaming pe → XV
open Go.Proofs.YtmekflfjaflmkaaGreat.W6 renaming pv → XW, a → Kw, b → Kx, c → Ky, d → Kz, e → KA, f → KB, ok → KH, beq → KL
open Go.Sx.BE renaming safe → XX, pe → XY, all → Ke
open Go.Sx.PT renaming ev → K1
open Go.Sx.PEnv renaming push → K3
open Go.Sx.PV renaming bool → K9, one → Kg, low → Kh, lowss → Kj, lows → Km, int → KD, low_mono → KE, isKind → KN
open Go.Sx.Sys renaming run → Ka, loop → Kb
open Go.Sx.MO renaming cells → Kk, list → Kt, low_mono → Kv, elts → KG, low → KK
open Go.Proofs.YtmekflfjaflmkaaGreat.Pr renaming row → Ks, r → Ku
open Go.Proofs.YtmekflfjaflmkaaGreat.St renaming pv → KF
open Go.Proofs.YtmekflfjaflmkaaGreat.Ch renaming row → KJ
open Go.Sx.Loc renaming obj → KP
open Bool renaming false → ff, true → tt
open Option renaming some → sM, none → nn
set_option maxRecDepth 100000
namespace Go.Proofs.YtmekflfjaflmkaaGreat
open Go.Sx
structure Rn where
 (p:W6) (ask got:List W6) (bid:List Bool)
structure Ck where
 (cl:List Rn) (p:W6) (ask:List W6) (bid out:List Bool) (over:Bool)
structure Po where
 (st pc un ru:Int)
def Po.row(o:Po):List PV:=[.int .i64 o.st,.int .i64 o.pc,.int .i64 o.un,.int .i64 o.ru]
def Po.ok(o:Po):Prop:=1<=o.st/\o.st<=1000000/\0<=o.pc/\o.pc<=100/\1<=o.un/\o.un<=3/\1<=o.ru/\o.ru<=3
instance (o:Po):Decidable o.ok:=by unfold Po.ok;infer_instance
def e3W(f:Int->Int->Int)(a b:W6):W6:=⟨f a.a b.a,f a.b b.b,f a.c b.c,f a.d b.d,f a.e b.e,f a.f b.f⟩
def b4v(a b:W6):W6:=⟨a.a+b.a,a.b+b.b,a.c+b.c,a.d+b.d,a.e+b.e,a.f+b.f⟩
def a0Z(l:List W6):W6:=l.foldl b4v w0
def exI(s t:Int):Int:=if s<t then t-s else 0
def exW(s:W6)(l:List W6):W6:=e3W exI s (a0Z l)
def rsI(o:Po)(p:Int):Int:=p+o.st+QC (p*o.pc+99) 100
def rsW(o:Po)(p ex:W6):W6:=e3W (fun x e=>if 0<e then rsI o x else x) p ex
def rfI(s t n a:Int):Bool:=ltB a n&&ltB (t-n+a) s
def rfW(s t n a:W6):Bool:=rfI s.a t.a n.a a.a||(rfI s.b t.b n.b a.b||(rfI s.c t.c n.c a.c||(rfI s.d t.d n.d a.d||(rfI s.e t.e n.e a.e||rfI s.f t.f n.f a.f))))
def paI(s t n a:Int):Int:=if a<n then n-mnI (n-a) (mxI (t-s) 0) else a
def paW(s t n a:W6):W6:=⟨paI s.a t.a n.a a.a,paI s.b t.b n.b a.b,paI s.c t.c n.c a.c,paI s.d t.d n.d a.d,paI s.e t.e n.e a.e,paI s.f t.f n.f a.f⟩
def pick(un:Int)(s t n a:W6):W6:=if un=2 then(if rfW s t n a=tt then n else a) else if un=3 then paW s t n a else a
def apN(un:Int)(s:W6)(asked out:List W6):Nat->List W6
 | 0=>out
 | i+1=>(apN un s asked out i).set i (pick un s (a0Z (apN un s asked out i)) (wa (apN un s asked out i) i) (wa asked i))
def apW(un:Int)(s:W6)(before asked:List W6):List W6:=apN un s asked before asked.length
variable (ps:List Pr)(bs:List Bd)(cs ad:List Tri)(o:Po)
noncomputable def agB(l:List Ch):Bool:=@decide ((∀y∈l,y.ok)/\Pot l) (Classical.propDecidable _)
theorem e1a(l:List Ch):agB l=tt↔(∀y∈l,y.ok)/\Pot l:=by unfold agB;rw[@decide_eq_true_iff]
namespace Ck
def has(c:Ck)(i:Int):Bool:=leB 0 i&&ltB i (c.out.length:Int)
def chs(c:Ck)(i:Nat):List Ch:=c.cl.map fun r=>⟨r.p,wa r.ask i⟩
def blank(c:Ck):Ck:={c with ask:=Qk c.out.length w0,bid:=Qk c.out.length ff}
def stop(c:Ck):Ck×Int:=if c.over=tt then(c,10) else({c.blank with over:=tt},0)
def drop(c:Ck)(i:Int):Ck×Int :=
 if c.has i=tt then(if c.out[i.toNat]?=sM tt then(c,10) else({c with out:=c.out.set i.toNat tt,ask:=c.ask.set i.toNat w0,bid:=c.bid.set i.toNat ff},0)) else(c,6)
def reset(c:Ck)(r:Int):Ck×Int :=
 if r<0 then(c,4) else if (c.cl.length:Int)<r then(c,4) else if r=(c.cl.length:Int)/\c.over=tt then(c,4) else
  ({c.blank with p:=((c.cl[r.toNat]?).map Rn.p).getD c.p,cl:=c.cl.take r.toNat,over:=ff},0)
def prev(c:Ck):List W6:=((c.cl.getLast?.map Rn.got).getD []).zipIdx.map fun x=>if c.out[x.2]?=sM tt then w0 else x.1
end Ck
noncomputable def b4L(s:St)(c:Ck)(i:Int)(w:W6):Int :=
 if c.over=tt then 10 else if c.has i=tt then(if c.out[i.toNat]?=sM tt then 10 else
  if b8F ps bs cs ad i w=0 then(if c4k s i ⟨c.p,w⟩=0 then c0W s o.ru i (c.chs i.toNat) ⟨c.p,w⟩ (agB (c.chs i.toNat++[⟨c.p,w⟩])) else c4k s i ⟨c.p,w⟩) else b8F ps bs cs ad i w) else 6
noncomputable def Ck.doBid(s:St)(c:Ck)(i:Int)(w:W6):Ck×Int :=
 if b4L ps bs cs ad o s c i w=0 then({c with ask:=c.ask.set i.toNat w,bid:=c.bid.set i.toNat tt},0) else(c,b4L ps bs cs ad o s c i w)
def Ck.gots(c:Ck):List W6:=if c.cl=[] then c.ask else apW o.un (a2x ps) c.prev c.ask
def Ck.ex(c:Ck):W6:=exW (a2x ps) (c.gots ps o)
def Ck.nextP(c:Ck):W6:=rsW o c.p (c.ex ps o)
def Ck.ends(c:Ck):Bool:=(c.ex ps o).isZ||(leB 30 (c.cl.length+1:Int)||!decide (c.nextP ps o).pok)
def Ck.close(c:Ck):Ck×Bool×Int :=
 if c.over=tt then(c,ff,10) else
  if c.ends ps o=tt then({c.blank with cl:=c.cl++[⟨c.p,c.ask,c.gots ps o,c.bid⟩],over:=tt},tt,0)
  else({c.blank with cl:=c.cl++[⟨c.p,c.ask,c.gots ps o,c.bid⟩],p:=c.nextP ps o},ff,0)
end Go.Proofs.YtmekflfjaflmkaaGreat
set_option maxRecDepth 100000
namespace Go.Proofs.YtmekflfjaflmkaaGreat
open Go.Sx
theorem e2n{α:Type}{sz:Nat}:∀(rows:List (List α)) (_:∀r∈rows,r.length=sz) (i:Nat) (r:List α),rows[i]?=sM r->(rows.flatten.drop (i*sz)).take sz=r/\i*sz+sz<=rows.flatten.length
 | [],_,i,r,h=>by simp at h
 | r0::rows,hl,0,r,h=>by
  simp only[Q7,QP] at h;subst h;have h0:=hl r0 (by simp);rw[Nat.zero_mul,Qq,Qw,Xh h0,Qv];exact⟨rfl,by omega⟩
 | r0::rows,hl,i+1,r,h=>by
  have h0:=hl r0 (by simp);obtain⟨h1,h2⟩:=e2n rows (fun q hq=>hl q (by simp[hq])) i r (by simpa using h);rw[Qw,show (i+1)*sz=r0.length+i*sz by rw[h0,X7];omega,XD,Qv];refine⟨?_,by omega⟩;rw[Xd (by omega),Q4,X8];exact h1
theorem d3g{sz:Nat}:∀(rows:List (List PV)) (_:∀r∈rows,r.length=sz) (i:Nat) (_:i<rows.length) (x:List PV),x.length=sz->a3Y rows.flatten (i*sz) x=(rows.set i x).flatten
 | [],_,i,h,_,_=>by simp at h
 | r0::rows,hl,0,_,x,hx=>by
  have h0:=hl r0 (by simp);unfold a3Y;rw[Nat.zero_mul,QA,Q4,Qf,Qw,Xj,Qw,Xk (by omega)]
 | r0::rows,hl,i+1,h,x,hx=>by
  have h0:=hl r0 (by simp);have ih:=d3g rows (fun q hq=>hl q (by simp[hq])) i (by simpa using h) x hx;rw[List.set_cons_succ,Qw,Qw,<- ih];unfold a3Y;rw[show (i+1)*sz=r0.length+i*sz by rw[h0,X7];omega,XE,QQ (by omega),X8,Nat.add_assoc,XD,Xd (by omega),Q4,X8];simp only[Qu]
theorem d1S(w:W6):w.pv.length=6:=rfl
theorem e6x(l:List W6):∀r∈l.map XW,r.length=6:=fun r hr=>by obtain⟨w,_,rfl⟩:=Xn.1 hr;rfl
theorem b3v{n:Nat}{l:List PV}{r:List PV}(h:l.take n=r)(hl:n<=l.length):a1g n l=sM r:=by unfold a1g;rw[XT hl,h]
theorem c5V(l:List W6):(l.map XW).flatten.length=l.length*6:=by
 induction l with
 | nil=>rfl
 | cons w l ih=>rw[Qe,Qw,Qv,ih,d1S,Q9];omega
theorem d4S(l:List W6){i:Nat}(hi:i<l.length)(w:W6):a3Y (l.map XW).flatten (i*6) w.pv=((l.set i w).map XW).flatten:=by
 rw[d3g (l.map XW) (e6x l) i (by simpa using hi) w.pv rfl,Xp]
theorem d2C(l:List Bool){i:Nat}{b:Bool}(h:l[i]?=sM b):a1g 1 ((l.map K9).drop i)=sM [.bool b]:=by
 have hi:=(Qp.1 h).1;have h1:(l.map K9)[i]?=sM (.bool b):=by rw[QS,h];rfl
 refine b3v ?_ (by simp;omega);rw[Xq (by simpa using hi)];simp only[QH,QA];rw[XF (by simpa using hi)] at h1;simpa using h1
theorem d4z(l:List Bool){i:Nat}(hi:i<l.length)(b:Bool):a3Y (l.map K9) i [.bool b]=(l.set i b).map K9:=by
 unfold a3Y;rw[Xp,List.set_eq_take_append_cons_drop,XT (by simpa using hi)];simp
def Low(σ:List MO):Prop:=σ.all (KK σ.length)=tt
theorem Low.set{σ:List MO}(h:Low σ){x:Nat}{m:MO}(hm:m.low σ.length=tt):Low (σ.set x m):=by
 unfold Low;rw[Qs];refine Qy.2 fun y hy=>?_
 rcases QU hy with hy|rfl
 ·exact Qy.1 h y hy
 ·exact hm
theorem Low.app{σ:List MO}(h:Low σ){m:MO}(hm:m.low (σ.length+1)=tt):Low (σ++[m]):=by
 unfold Low;rw[Qv,QE,QX,QD];refine⟨Qy.2 fun y hy=>Kv (Xr _) (Qy.1 h y hy),?_⟩;simpa using hm
theorem Low.get{σ:List MO}(h:Low σ){x:Nat}{m:MO}(hx:σ[x]?=sM m):m.low σ.length=tt:=Qy.1 h m (Qt hx)
theorem Low.flat{σ:List MO}(h:Low σ):c0I σ:=fun k hk=>Qy.2 fun y hy=>Kv hk (Qy.1 h y hy)
theorem b0o(k:Nat)(l:List W6)(T:Nat):(Kk (l.map XW).flatten T).low k=tt:=by
 show Km k (l.map XW).flatten=tt
 induction l with
 | nil=>rfl
 | cons w l ih=>rw[Qe,Qw];simpa[XW,Km,Kh] using ih
theorem b2d(k:Nat)(l:List Bool)(T:Nat):(Kk (l.map K9) T).low k=tt:=by
 show Km k (l.map K9)=tt
 induction l with
 | nil=>rfl
 | cons w l ih=>rw[Qe];simpa[Km,Kh] using ih
theorem b1X(k:Nat)(l:List W6)(T:Nat):(MO.row (l.map XW) 6 T).low k=tt:=by
 show Kj k (l.map XW)=tt
 induction l with
 | nil=>rfl
 | cons w l ih=>rw[Qe];simpa[XW,Kj,Km,Kh] using ih
structure BRd (σ:List MO)(v:PV)(l:List W6):Prop where
 kind:v.isKind 0=tt
 one:v.one=tt
 len:v.len=(l.length:Int)
 rd:∀(i:Nat) (w:W6),l[i]?=sM w->∃L:Nat->Sx.Loc,∀off n,off+n<=6->a4f (i:Int) 6 off v=sM (L off)/\∀(is:List Int) (bs:List Bool) (vs:List PV) (k:Nat),a0x {i:=is,b:=bs,v:=vs,m:=σ,k:=k} ff n (L off)=sM ((w.pv.drop off).take n)
theorem BRd.plain{σ:List MO}{v:PV}{l:List W6}(h:v.rowsOf 6=sM (l.map XW)):BRd σ v l:=by
 obtain⟨p1,p2,p3⟩:=a0b h;rw[QL] at p1;refine⟨p2,p3,p1,fun i w hw=>⟨fun off=>Sx.Loc.row w.pv off,fun off n hn=>⟨a0V h (by rw[QS,hw];rfl),fun _ _ _ _=>b3v rfl (by rw[QZ,d1S];omega)⟩⟩⟩
def BSl(σ:List MO)(R:Nat->Prop)(v:PV)(l:List W6):Prop :=
 (∃h,R h/\v=.msl h 0 l.length l.length 6/\σ[h]?=sM (.cells (l.map XW).flatten 51))\/(∃h,R h/\v=.rsl h l.length 6/\σ[h]?=sM (.row (l.map XW) 6 51))
def OSl(σ:List MO)(R:Nat->Prop)(v:PV)(l:List Bool):Prop:=∃h,R h/\v=.msl h 0 l.length l.length 1/\σ[h]?=sM (.cells (l.map K9) 4)
section
variable {σ σ':List MO}{R R':Nat->Prop}{v:PV}{l:List W6}{lb:List Bool}
theorem e3K{h i n c sz:Nat}(hi:i<n):a4f (i:Int) sz 0 (.msl h 0 n c sz)=sM (.obj h (i*sz)):=by
 simp only[a4f];rw[XT ⟨by omega,by omega,trivial⟩];simp
theorem c3u{h i n sz off:Nat}(hi:i<n):a4f (i:Int) sz off (.rsl h n sz)=sM (.elt h n i sz off):=by
 simp only[a4f];rw[XT ⟨by omega,by omega,trivial⟩];simp
theorem BSl.rd(h:BSl σ R v l):BRd σ v l:=by
 rcases h with ⟨h,_,rfl,hh⟩|⟨h,_,rfl,hh⟩
 ·refine⟨rfl,rfl,rfl,fun i w hw=>⟨fun off=>KP h (0+(i*6+off)),fun off n hn=>⟨?_,fun _ _ _ _=>?_⟩⟩⟩
  ·have hi:=(Qp.1 hw).1
   simp only[a4f];rw[XT ⟨by omega,by omega,trivial⟩];simp
  ·obtain⟨f1,f2⟩:=e2n (l.map XW) (e6x l) i w.pv (by rw[QS,hw];rfl)
   simp only[a0x,hh,Q0,Kt,Q2,Kn];refine b3v ?_ (by rw[QZ];omega);rw[Qf,<- XG,<- f1,XH,XJ,Xe (by omega)]
 ·refine⟨rfl,rfl,rfl,fun i w hw=>⟨fun off=>Sx.Loc.elt h l.length i 6 off,fun off n hn=>⟨c3u (Qp.1 hw).1,fun _ _ _ _=>?_⟩⟩⟩
  simp only[a0x,hh,Q0,KG,QL,Kq,K5,Q2,Kn,QS,hw,Q1];exact b3v rfl (by rw[QZ,d1S];omega)
theorem BSl.frame(h:BSl σ R v l)(hf:∀x,R x->σ'[x]?=σ[x]?):BSl σ' R v l:=by
 rcases h with ⟨h,hR,rfl,hh⟩|⟨h,hR,rfl,hh⟩
 ·exact .inl ⟨h,hR,rfl,by rw[hf h hR];exact hh⟩
 ·exact .inr ⟨h,hR,rfl,by rw[hf h hR];exact hh⟩
theorem OSl.frame(h:OSl σ R v lb)(hf:∀x,R x->σ'[x]?=σ[x]?):OSl σ' R v lb:=by
 obtain⟨h,hR,rfl,hh⟩:=h;exact⟨h,hR,rfl,by rw[hf h hR];exact hh⟩
theorem BSl.mono(h:BSl σ R v l)(hR:∀x,R x->R' x):BSl σ R' v l:=by
 rcases h with ⟨h,h1,rfl,hh⟩|⟨h,h1,rfl,hh⟩
 ·exact .inl ⟨h,hR _ h1,rfl,hh⟩
 ·exact .inr ⟨h,hR _ h1,rfl,hh⟩
theorem OSl.mono(h:OSl σ R v lb)(hR:∀x,R x->R' x):OSl σ R' v lb:=by
 obtain⟨h,h1,rfl,hh⟩:=h;exact⟨h,hR _ h1,rfl,hh⟩
theorem BSl.low(h:BSl σ R v l){k:Nat}(hR:∀x,R x->x<k):v.low k=tt:=by
 rcases h with ⟨h,h1,rfl,hh⟩|⟨h,h1,rfl,hh⟩
 ·simpa[Kh] using hR h h1
 ·simpa[Kh] using hR h h1
theorem OSl.low(h:OSl σ R v lb){k:Nat}(hR:∀x,R x->x<k):v.low k=tt:=by
 obtain⟨h,h1,rfl,hh⟩:=h;simpa[Kh] using hR h h1
theorem BSl.one(h:BSl σ R v l):v.one=tt:=h.rd.one
theorem OSl.one(h:OSl σ R v lb):v.one=tt:=by obtain⟨h,_,rfl,_⟩:=h;rfl
end
def b1E(σ:List MO)(R:Nat->Prop)(r:Rn)(row:List PV):Prop :=
 ∃a g b,row=[.int .i64 r.p.a,.int .i64 r.p.b,.int .i64 r.p.c,.int .i64 r.p.d,.int .i64 r.p.e,.int .i64 r.p.f,a,g,b]/\BSl σ R a r.ask/\BSl σ R g r.got/\OSl σ R b r.bid
def a4y(σ:List MO)(R:Nat->Prop)(cl:List Rn)(rows:List (List PV)):Prop:=rows.length=cl.length/\∀(i:Nat) r row,cl[i]?=sM r->rows[i]?=sM row->b1E σ R r row
def CSl(σ:List MO)(R:Nat->Prop)(v:PV)(cl:List Rn):Prop :=
 (v=.nilS/\cl=[])\/(∃h rows,R h/\v=.msl h 0 cl.length cl.length 9/\σ[h]?=sM (.cells rows.flatten 65)/\a4y σ R cl rows) \/
  (∃h rows,R h/\v=.rsl h cl.length 9/\cl≠[]/\σ[h]?=sM (.row rows 9 65)/\a4y σ R cl rows)
section
variable {σ σ':List MO}{R R':Nat->Prop}{v:PV}{cl:List Rn}{rows:List (List PV)}{r:Rn}{row:List PV}
theorem b1E.frame(h:b1E σ R r row)(hf:∀x,R x->σ'[x]?=σ[x]?):b1E σ' R r row:=by
 obtain⟨a,g,b,rfl,h1,h2,h3⟩:=h;exact⟨a,g,b,rfl,h1.frame hf,h2.frame hf,h3.frame hf⟩
theorem b1E.mono(h:b1E σ R r row)(hR:∀x,R x->R' x):b1E σ R' r row:=by
 obtain⟨a,g,b,rfl,h1,h2,h3⟩:=h;exact⟨a,g,b,rfl,h1.mono hR,h2.mono hR,h3.mono hR⟩
theorem b1E.len(h:b1E σ R r row):row.length=9:=by obtain⟨a,g,b,rfl,_⟩:=h;rfl
theorem b1E.ones(h:b1E σ R r row):row.all Kg=tt:=by
 obtain⟨a,g,b,rfl,h1,h2,h3⟩:=h;have e:∀z:Int,Kg (.int .i64 z)=tt:=fun _=>rfl
 simp only[X0,X9,e,h1.one,h2.one,h3.one,Qd]
theorem b1E.low(h:b1E σ R r row){k:Nat}(hR:∀x,R x->x<k):Km k row=tt:=by
 obtain⟨a,g,b,rfl,h1,h2,h3⟩:=h;simp only[Km,Kh,h1.low hR,h2.low hR,h3.low hR,Qd]
theorem a4y.frame(h:a4y σ R cl rows)(hf:∀x,R x->σ'[x]?=σ[x]?):a4y σ' R cl rows:=⟨h.1,fun i r row h1 h2=>(h.2 i r row h1 h2).frame hf⟩
theorem a4y.mono(h:a4y σ R cl rows)(hR:∀x,R x->R' x):a4y σ R' cl rows:=⟨h.1,fun i r row h1 h2=>(h.2 i r row h1 h2).mono hR⟩
theorem a4y.mem(h:a4y σ R cl rows){row:List PV}(hr:row∈rows):∃r∈cl,b1E σ R r row:=by
 obtain⟨i,hi⟩:=XK hr;have hl:=(Qp.1 hi).1;obtain⟨r,hr⟩:=a0S (show i<cl.length by rw[<- h.1];exact hl);exact⟨r,Qt hr,h.2 i r row hr hi⟩
theorem a4y.lens(h:a4y σ R cl rows):∀r∈rows,r.length=9:=fun row hr=>by obtain⟨r,_,k⟩:=h.mem hr;exact k.len
theorem a4y.snoc(h:a4y σ R cl rows)(hr:b1E σ R r row):a4y σ R (cl++[r]) (rows++[row]):=by
 refine⟨by simp[h.1],fun i x y hx hy=>?_⟩;by_cases hi:i<cl.length
 ·rw[Qr hi] at hx
  rw[Qr (by rw[h.1];exact hi)] at hy;exact h.2 i x y hx hy
 ·have hl:i=cl.length:=by have:=(Qp.1 hx).1;simp at this;omega
  subst hl;rw[QV (by omega)] at hx;rw[<- h.1,QV (by omega)] at hy;simp at hx hy;subst hx hy;exact hr
theorem a4y.take(h:a4y σ R cl rows)(n:Nat):a4y σ R (cl.take n) (rows.take n):=by
 refine⟨by rw[QW,QW,h.1],fun i x y hx hy=>?_⟩;rw[List.getElem?_take] at hx hy;split at hx
 ·rename_i hi
  rw[XT hi] at hy;exact h.2 i x y hx hy
 ·cases hx
theorem CSl.frame(h:CSl σ R v cl)(hf:∀x,R x->σ'[x]?=σ[x]?):CSl σ' R v cl:=by
 rcases h with h|⟨h,rows,h1,h2,h3,h4⟩|⟨h,rows,h1,h2,h0,h3,h4⟩
 ·exact .inl h
 ·exact .inr (.inl ⟨h,rows,h1,h2,by rw[hf h h1];exact h3,h4.frame hf⟩)
 ·exact .inr (.inr ⟨h,rows,h1,h2,h0,by rw[hf h h1];exact h3,h4.frame hf⟩)
theorem CSl.mono(h:CSl σ R v cl)(hR:∀x,R x->R' x):CSl σ R' v cl:=by
 rcases h with h|⟨h,rows,h1,h2,h3,h4⟩|⟨h,rows,h1,h2,h0,h3,h4⟩
 ·exact .inl h
 ·exact .inr (.inl ⟨h,rows,hR _ h1,h2,h3,h4.mono hR⟩)
 ·exact .inr (.inr ⟨h,rows,hR _ h1,h2,h0,h3,h4.mono hR⟩)
theorem CSl.low(h:CSl σ R v cl){k:Nat}(hR:∀x,R x->x<k):v.low k=tt:=by
 rcases h with ⟨rfl,_⟩|⟨h,rows,h1,rfl,h3,h4⟩|⟨h,rows,h1,rfl,h0,h3,h4⟩
 ·rfl
 ·simpa[Kh] using hR h h1
 ·simpa[Kh] using hR h h1
structure CRd (σ:List MO)(R:Nat->Prop)(v:PV)(cl:List Rn):Prop where
 kind:v.isKind 0=tt
 one:v.one=tt
 len:v.len=(cl.length:Int)
 rd:∀(i:Nat) r,cl[i]?=sM r->∃row,b1E σ R r row/\∀off n,off+n<=9->∃L,a4f (i:Int) 9 off v=sM L/\∀(is:List Int) (bs:List Bool) (vs:List PV) (k:Nat),a0x {i:=is,b:=bs,v:=vs,m:=σ,k:=k} ff n L=sM ((row.drop off).take n)
theorem CSl.rd(h:CSl σ R v cl):CRd σ R v cl:=by
 rcases h with ⟨rfl,rfl⟩|⟨h,rows,h1,rfl,h3,h4⟩|⟨h,rows,h1,rfl,h0,h3,h4⟩
 ·exact⟨rfl,rfl,rfl,fun i r hr=>by simp at hr⟩
 ·refine⟨rfl,rfl,rfl,fun i r hr=>?_⟩
  have hi:=(Qp.1 hr).1;obtain⟨row,hrow⟩:=a0S (show i<rows.length by rw[h4.1];exact hi);have hR:=h4.2 i r row hr hrow;refine⟨row,hR,fun off n hn=>⟨KP h (0+(i*9+off)),?_,fun _ _ _ _=>?_⟩⟩
  ·simp only[a4f]
   rw[XT ⟨by omega,by omega,trivial⟩];simp
  ·obtain⟨f1,f2⟩:=e2n rows h4.lens i row hrow
   simp only[a0x,h3,Q0,Kt,Q2,Kn];refine b3v ?_ (by rw[QZ];omega);rw[Qf,<- XG,<- f1,XH,XJ,Xe (by omega)]
 ·refine⟨rfl,rfl,rfl,fun i r hr=>?_⟩
  have hi:=(Qp.1 hr).1;obtain⟨row,hrow⟩:=a0S (show i<rows.length by rw[h4.1];exact hi);have hR:=h4.2 i r row hr hrow;refine⟨row,hR,fun off n hn=>⟨_,c3u hi,fun _ _ _ _=>?_⟩⟩;simp only[a0x,h3,Q0,KG,h4.1,Kq,K5,Q2,Kn,hrow];exact b3v rfl (by rw[QZ,hR.len];omega)
end
def ckL(s:St)(o:Po)(vcl va vb vd:PV)(p:W6)(ov:Bool):List PV :=
 [s.P,s.B,s.C,s.A,.int .i64 o.st,.int .i64 o.pc,.int .i64 o.un,.int .i64 o.ru,vcl,.int .i64 p.a,.int .i64 p.b,.int .i64 p.c,.int .i64 p.d,.int .i64 p.e,.int .i64 p.f,va,vb,vd,.bool ov]
def ckO(s:St)(o:Po)(vcl va vb vd:PV)(p:W6)(ov:Bool):MO:=.cells (ckL s o vcl va vb vd p ov) 79
section
variable (s:St)(o:Po)(vcl va vb vd:PV)(p:W6)(ov:Bool)
theorem b4n:(ckL s o vcl va vb vd p ov).length=19:=rfl
theorem e4Z(v:PV):a3Y (ckL s o vcl va vb vd p ov) 8 [v]=ckL s o v va vb vd p ov:=rfl
theorem f0Z(q:W6):a3Y (ckL s o vcl va vb vd p ov) 9 [.int .i64 q.a,.int .i64 q.b,.int .i64 q.c,.int .i64 q.d,.int .i64 q.e,.int .i64 q.f]=ckL s o vcl va vb vd q ov:=rfl
theorem c5M(b:Bool):a3Y (ckL s o vcl va vb vd p ov) 18 [.bool b]=ckL s o vcl va vb vd p b:=rfl
variable {s o vcl va vb vd p ov}
theorem c1e{m:List MO}{h:Nat}(hob:m[h]?=sM (ckO s o vcl va vb vd p ov))(off n:Nat)(hn:off+n<=19)(is:List Int)(bs:List Bool)(vs:List PV)(k:Nat) :
  a0x {i:=is,b:=bs,v:=vs,m:=m,k:=k} ff n (.obj h off)=sM (((ckL s o vcl va vb vd p ov).drop off).take n):=by
 simp only[a0x,hob,ckO,Q0,Kt,Q2,Kn];exact b3v rfl (by rw[QZ,b4n];omega)
theorem a7q{m:List MO}{h:Nat}(hob:m[h]?=sM (ckO s o vcl va vb vd p ov)):∀is bs vs k,a0x {i:=is,b:=bs,v:=vs,m:=m,k:=k} ff 4 (.obj h 0)=sM [s.P,s.B,s.C,s.A]:=c1e hob 0 4 (by decide)
theorem a7n{m:List MO}{h:Nat}(hob:m[h]?=sM (ckO s o vcl va vb vd p ov)):∀is bs vs k,a0x {i:=is,b:=bs,v:=vs,m:=m,k:=k} ff 1 (.obj h 0)=sM [s.P]:=c1e hob 0 1 (by decide)
theorem a6Y{m:List MO}{h:Nat}(hob:m[h]?=sM (ckO s o vcl va vb vd p ov)):∀is bs vs k,a0x {i:=is,b:=bs,v:=vs,m:=m,k:=k} ff 4 (.obj h 4)=sM [.int .i64 o.st,.int .i64 o.pc,.int .i64 o.un,.int .i64 o.ru]:=c1e hob 4 4 (by decide)
theorem a6W{m:List MO}{h:Nat}(hob:m[h]?=sM (ckO s o vcl va vb vd p ov)):∀is bs vs k,a0x {i:=is,b:=bs,v:=vs,m:=m,k:=k} ff 1 (.obj h 6)=sM [.int .i64 o.un]:=c1e hob 6 1 (by decide)
theorem a7p{m:List MO}{h:Nat}(hob:m[h]?=sM (ckO s o vcl va vb vd p ov)):∀is bs vs k,a0x {i:=is,b:=bs,v:=vs,m:=m,k:=k} ff 1 (.obj h 7)=sM [.int .i64 o.ru]:=c1e hob 7 1 (by decide)
theorem a7y{m:List MO}{h:Nat}(hob:m[h]?=sM (ckO s o vcl va vb vd p ov)):∀is bs vs k,a0x {i:=is,b:=bs,v:=vs,m:=m,k:=k} ff 1 (.obj h 8)=sM [vcl]:=c1e hob 8 1 (by decide)
theorem a7c{m:List MO}{h:Nat}(hob:m[h]?=sM (ckO s o vcl va vb vd p ov)):∀is bs vs k,a0x {i:=is,b:=bs,v:=vs,m:=m,k:=k} ff 6 (.obj h 9)=sM [.int .i64 p.a,.int .i64 p.b,.int .i64 p.c,.int .i64 p.d,.int .i64 p.e,.int .i64 p.f]:=c1e hob 9 6 (by decide)
theorem a5N{m:List MO}{h:Nat}(hob:m[h]?=sM (ckO s o vcl va vb vd p ov)):∀is bs vs k,a0x {i:=is,b:=bs,v:=vs,m:=m,k:=k} ff 1 (.obj h 15)=sM [va]:=c1e hob 15 1 (by decide)
theorem a5H{m:List MO}{h:Nat}(hob:m[h]?=sM (ckO s o vcl va vb vd p ov)):∀is bs vs k,a0x {i:=is,b:=bs,v:=vs,m:=m,k:=k} ff 1 (.obj h 16)=sM [vb]:=c1e hob 16 1 (by decide)
theorem a5s{m:List MO}{h:Nat}(hob:m[h]?=sM (ckO s o vcl va vb vd p ov)):∀is bs vs k,a0x {i:=is,b:=bs,v:=vs,m:=m,k:=k} ff 1 (.obj h 17)=sM [vd]:=c1e hob 17 1 (by decide)
theorem a5R{m:List MO}{h:Nat}(hob:m[h]?=sM (ckO s o vcl va vb vd p ov)):∀is bs vs k,a0x {i:=is,b:=bs,v:=vs,m:=m,k:=k} ff 1 (.obj h 18)=sM [.bool ov]:=c1e hob 18 1 (by decide)
theorem rdk0_19{m:List MO}{h:Nat}(hob:m[h]?=sM (ckO s o vcl va vb vd p ov)):∀is bs vs k,a0x {i:=is,b:=bs,v:=vs,m:=m,k:=k} ff 19 (.obj h 0)=sM [s.P,s.B,s.C,s.A,.int .i64 o.st,.int .i64 o.pc,.int .i64 o.un,.int .i64 o.ru,vcl,.int .i64 p.a,.int .i64 p.b,.int .i64 p.c,.int .i64 p.d,.int .i64 p.e,.int .i64 p.f,va,vb,vd,.bool ov]:=c1e hob 0 19 (by decide)
end
structure CkAt (s:St)(o:Po)(σ:List MO)(h:Nat)(vcl:PV)(ha hb hd:Nat)(R:Nat->Prop)(c:Ck):Prop where
 obj:σ[h]?=sM (ckO s o vcl (.msl ha 0 c.out.length c.out.length 6) (.msl hb 0 c.out.length c.out.length 1) (.msl hd 0 c.out.length c.out.length 1) c.p c.over)
 ask:σ[ha]?=sM (.cells (c.ask.map XW).flatten 51)
 bid:σ[hb]?=sM (.cells (c.bid.map K9) 4)
 out:σ[hd]?=sM (.cells (c.out.map K9) 4)
 la:c.ask.length=c.out.length
 lb:c.bid.length=c.out.length
 cl:CSl σ R vcl c.cl
 bd:∀x,R x->x<σ.length
 na:¬R ha
 nb:¬R hb
 nd:¬R hd
 nh:¬R h
 nbd:hb≠hd
def b4z(s:St)(o:Po)(σ:List MO)(h:Nat)(F:Nat->Prop)(c:Ck):Prop :=
 ∃vcl ha hb hd R,CkAt s o σ h vcl ha hb hd R c/\∀x,F x↔(x=h\/x=ha\/x=hb\/x=hd\/R x)
section
variable {s:St}{o:Po}{σ σ':List MO}{h:Nat}{F:Nat->Prop}{c:Ck}
theorem b4z.frame(k:b4z s o σ h F c)(hl:σ.length<=σ'.length)(hf:∀x,F x->σ'[x]?=σ[x]?):b4z s o σ' h F c:=by
 obtain⟨vcl,ha,hb,hd,R,k,hF⟩:=k;exact⟨vcl,ha,hb,hd,R,⟨by rw[hf h ((hF _).2 (.inl rfl))];exact k.obj,by rw[hf ha ((hF _).2 (.inr (.inl rfl)))];exact k.ask,by rw[hf hb ((hF _).2 (.inr (.inr (.inl rfl))))];exact k.bid,by rw[hf hd ((hF _).2 (.inr (.inr (.inr (.inl rfl)))))];exact k.out,k.la,k.lb,k.cl.frame fun x hx=>hf x ((hF _).2 (.inr (.inr (.inr (.inr hx))))),fun x hx=>Nat.lt_of_lt_of_le (k.bd x hx) hl,k.na,k.nb,k.nd,k.nh,k.nbd⟩,hF⟩
theorem b4z.bd(k:b4z s o σ h F c):∀x,F x->x<σ.length:=by
 obtain⟨vcl,ha,hb,hd,R,k,hF⟩:=k;have g:∀{x:Nat} {m:MO},σ[x]?=sM m->x<σ.length:=fun h=>(Qp.1 h).1
 intro x hx;rcases (hF x).1 hx with rfl|rfl|rfl|rfl|hx
 ·exact g k.obj
 ·exact g k.ask
 ·exact g k.bid
 ·exact g k.out
 ·exact k.bd x hx
end
structure Adv (σ σ':List MO)(F F':Nat->Prop):Prop where
 len:σ.length<=σ'.length
 keep:∀x,x<σ.length->¬F x->σ'[x]?=σ[x]?
 own:∀x,F' x->F x\/σ.length<=x
 low:Low σ'
theorem Adv.refl{σ:List MO}{F:Nat->Prop}(h:Low σ):Adv σ σ F F:=⟨Qm _,fun _ _ _=>rfl,fun _ h=>.inl h,h⟩
theorem f0E{z:Int}(h:-1000000000000<=z/\z<=1000000000000):(leB (-9223372036854775808) z&&leB z 9223372036854775807)=tt:=by
 rw[QD,a2O,a2O];omega
def W6.sm(w:W6)(b:Int):Prop:=0<=w.a/\w.a<=b/\0<=w.b/\w.b<=b/\0<=w.c/\w.c<=b/\0<=w.d/\w.d<=b/\0<=w.e/\w.e<=b/\0<=w.f/\w.f<=b
theorem W6.ok.sm{w:W6}(h:w.ok):w.sm 4:=h
theorem W6.sm.mono{w:W6}{a b:Int}(h:w.sm a)(hab:a<=b):w.sm b:=by unfold W6.sm at *;omega
theorem d4N{v w:W6}{a b:Int}(h:v.sm a)(k:w.sm b):(b4v v w).sm (a+b):=by unfold W6.sm at *;simp only[b4v];omega
theorem f0T:∀(l:List W6) (v:W6) (a:Int),v.sm a->(∀w∈l,w.ok)->(l.foldl b4v v).sm (a+4*l.length)
 | [],v,a,h,_=>by simpa using h
 | w::l,v,a,h,k=>by
  have:=f0T l (b4v v w) (a+4) (d4N h (k w (by simp)).sm) (fun x hx=>k x (by simp[hx]));rw[Xs];refine this.mono ?_;simp only[Q9];omega
theorem d0J{l:List W6}(h:∀w∈l,w.ok)(h8:l.length<=8):(a0Z l).sm 32:=(f0T l w0 0 (by simp[W6.sm,w0]) h).mono (by omega)
theorem pv6(w:W6):w.pv=[.int .i64 w.a,.int .i64 w.b,.int .i64 w.c,.int .i64 w.d,.int .i64 w.e,.int .i64 w.f]:=rfl
section
variable (σ:List MO)(v:PV)(l:List W6)(hv:BRd σ v l)(hok:∀w∈l,w.ok)(hl:l.length<=8)(n:Nat)
def e9I(σ:List MO)(v:PV)(N i:Int)(t:W6):PEnv:={i:=[N,i,t.a,t.b,t.c,t.d,t.e,t.f],b:=[],v:=[v],m:=σ,k:=σ.length}
include hv hok hl in
theorem f4b:∀d i,i+d=l.length->∀(t:W6),t.sm (4*i)->∀fuel,d+1<=fuel ->
  b0W.loop (a0a Tab n) fuel 0 (e9I σ v (l.length:Int) (i:Int) t)=sM (.agg ((l.drop i).foldl b4v t).pv,σ):=by
 intro d
 induction d with
 | zero =>
  intro i hi t ht fuel hf;obtain⟨fuel,rfl⟩:=a0L fuel (by omega);have hd:ltB (i:Int) (l.length:Int)=ff:=by rw[a0G];omega
  rw[Xd (by omega),Kb,show b0W.loops[0]?=sM b3a from rfl];simp only[Q0,e9I,b3a,↓reduceIte,a0j,a0e,XX,XY,XV,Q3,Q5,Q2,Q1,Q0,XZ,XU,hd,a0n,Kc,XL,pv6]
 | succ d ih =>
  intro i hi t ht fuel hf;obtain⟨fuel,rfl⟩:=a0L fuel (by omega);obtain⟨w,hw⟩:=a0S (show i<l.length by omega);have hd:ltB (i:Int) (l.length:Int)=tt:=by rw[a0U];omega
  obtain⟨L,hL⟩:=hv.rd i w hw;obtain⟨q1,q2⟩:=hL 0 6 (by decide);have q2:∀is bs vs k,a0x {i:=is,b:=bs,v:=vs,m:=σ,k:=k} ff 6 (L 0)=sM w.pv:=fun a b c d=>q2 a b c d
  have hwk0:=(hok w (Qt hw)).sm;have ht0:=ht;have hwk:=hwk0;have ht':=d4N ht hwk;simp only[W6.sm] at ht ht' hwk;simp only[b4v] at ht';have ih:=ih (i+1) (by omega) (b4v t w) ((d4N (a:=4*(i:Int)) ht0 hwk0).mono (by omega)) fuel (by omega);have hdr:l.drop i=w::l.drop (i+1):=by rw[Xq (by omega),(Qp.1 hw).2]
  rw[hdr,Xs];rw[Kb,show b0W.loops[0]?=sM b3a from rfl];have hup:=a2N (show i<=1000000000 by omega);simp only[e9I,b4v,a1o] at ih;simp only[Q0,e9I,b3a,↓reduceIte,K1,XX,XY,XV,PEnv.at,Q3,Q5,Q7,a0H,Q9,Qa,Nat.reduceAdd,a0c,Q1,Q0,K3,Q6,Q4,XZ,XU,Ke,Qd,Qe,Qh,hd,le0,hv.len,q1,q2,pv6,XT hup,XT (a1K (z:=t.a+w.a) (by omega)),XT (a1K (z:=t.b+w.b) (by omega)),XT (a1K (z:=t.c+w.c) (by omega)),XT (a1K (z:=t.d+w.d) (by omega)),XT (a1K (z:=t.e+w.e) (by omega)),XT (a1K (z:=t.f+w.f) (by omega))];exact ih
include hv hok hl in
theorem e3e(hn:20<=n):a0a Tab n 94 [v] σ=sM (.agg (a0Z l).pv,σ):=by
 obtain⟨n,rfl⟩:=a0L n (by omega);have key:=f4b σ v l hv hok hl n l.length 0 (by omega) w0 (by simp[W6.sm,w0]) n (by omega);rw[a0a];simp only[d9b,Q0,Ka];show ((a0i [.sh (.one _)] _).bind _)=_;simp only[a0i,a0m,a0c,Q1,Q0,Q8,K5,hv.one];show (K1 _ c4s _).bind _=_;simp only[c4s,↓reduceIte,a0h,a0s,XX,XY,XV,PEnv.at,Q3,Q7,Q1,Q0,XZ,XU,Ke,Qe,Qh,hv.kind,hv.len];exact key
include hv hok hl in
theorem f2v(hn:21<=n):a0a Tab n 90 [v] σ=sM (.agg (a0Z l).pv,σ):=by
 obtain⟨n,rfl⟩:=a0L n (by omega);have k1:=e3e σ v l hv hok hl n (by omega);simp only[pv6] at k1;rw[a0a];simp only[e3u,Q0,Ka,pv6];show ((a0i [.sh (.one _)] _).bind _)=_;simp only[a0i,a0m,a0c,Q1,Q0,Q8,K5,hv.one];show (K1 _ c9O _).bind _=_;simp only[c9O,↓reduceIte,a0j,a0A,XV,Q3,Q5,Q7,Q2,a0c,a0w,a0m,Q1,Q0,K3,Q6,Q4,XZ,XU,k1,a0n,Kc]
end
section
variable (σ:List MO)(n:Nat)
def e1u(σ:List MO)(k:Int)(a b o:W6):PEnv:={i:=[k,a.a,a.b,a.c,a.d,a.e,a.f,b.a,b.b,b.c,b.d,b.e,b.f,o.a,o.b,o.c,o.d,o.e,o.f],b:=[],v:=[],m:=σ,k:=σ.length}
def c3Y(σ:List MO)(k:Int)(s t m a:W6):PEnv:={i:=[k,s.a,s.b,s.c,s.d,s.e,s.f,t.a,t.b,t.c,t.d,t.e,t.f,m.a,m.b,m.c,m.d,m.e,m.f,a.a,a.b,a.c,a.d,a.e,a.f],b:=[],v:=[],m:=σ,k:=σ.length}
theorem c7i(z:Int)(h:-1000000000000<=z)(g:z<=1000000000000):(leB (-9223372036854775808) z&&leB z 9223372036854775807)=tt:=f0E ⟨h,g⟩
theorem f5j(n a t s:Int)(h1:-100000<=n)(h2:n<=100000)(h3:-100000<=a)(h4:a<=100000)(h5:-100000<=t)(h6:t<=100000)(h7:-100000<=s)(h8:s<=100000):(leB (-9223372036854775808) (n-mnI (n-a) (mxI (t-s) 0))&&leB (n-mnI (n-a) (mxI (t-s) 0)) 9223372036854775807)=tt:=f0E (by unfold mnI mxI;split<;>split<;>omega)
theorem f3V{α:Type}(s t n a:Int)(x y:α):(if rfI s t n a=tt then x else y)=if decide (a<n)=tt then(if decide (t-n+a<s)=tt then x else y) else y:=by
 have e6:=a4X;rw[rfI,e6,e6];cases decide (a<n)<;>rfl
def toP(σ:List MO)(n:Nat)(I J:Int)(F:W6->Int)(U:W6->Int->W6):Prop:=∀(a b o:W6),a.sm 1000->b.sm 1000->F o=0->∀fuel,a6X.loop (a0a Tab n) (fuel+1) 0 (e1u σ I a b o)=a6X.loop (a0a Tab n) fuel 0 (e1u σ J a b (U o (exI (F b) (F a))))
def puP(σ:List MO)(n:Nat)(I J:Int)(F:W6->Int)(U:W6->Int->W6):Prop:=∀(s t m a:W6),s.sm 1000->t.sm 1000->m.sm 1000->0<=F a->F a<=1000->∀fuel,a4d.loop (a0a Tab n) (fuel+1) 0 (c3Y σ I s t m a)=a4d.loop (a0a Tab n) fuel 0 (c3Y σ J s t m (U a (paI (F s) (F t) (F m) (F a))))
def rfP(σ:List MO)(n:Nat)(I J:Int)(F:W6->Int):Prop:=∀(s t m a:W6),s.sm 1000->t.sm 1000->m.sm 1000->a.sm 1000->∀fuel,a3K.loop (a0a Tab n) (fuel+1) 0 (c3Y σ I s t m a)=if rfI (F s) (F t) (F m) (F a)=tt then sM (.bool tt,σ) else a3K.loop (a0a Tab n) fuel 0 (c3Y σ J s t m a)
theorem f3L:toP σ n 0 1 Kw (fun x z=>{x with a:=z})/\toP σ n 1 2 Kx (fun x z=>{x with b:=z})/\toP σ n 2 3 Ky (fun x z=>{x with c:=z})/\toP σ n 3 4 Kz (fun x z=>{x with d:=z})/\toP σ n 4 5 KA (fun x z=>{x with e:=z})/\toP σ n 5 6 KB (fun x z=>{x with f:=z}):=by
 have e5:=a3l;have e6:=a4X;refine⟨?_,?_,?_,?_,?_,?_⟩ <;>
 ·intro a b o ha hb ho fuel
  simp only[W6.sm] at ha hb;rw[Kb,show a6X.loops[0]?=sM b3Q from rfl];simp only[e1u,exI];simp -implicitDefEqProofs (disch:=omega) only[Q0,b3Q,↓reduceIte,a0e,a0h,a0s,XX,XY,XV,Q3,Q5,Q2,Q1,Q0,XZ,Ke,Qd,Qe,Qh,e5,e6,Int.reduceEq,Int.reduceLT,Kp,Kr,c7i,KC,ho];split<;>rfl
theorem f4r:puP σ n 0 1 Kw (fun x z=>{x with a:=z})/\puP σ n 1 2 Kx (fun x z=>{x with b:=z})/\puP σ n 2 3 Ky (fun x z=>{x with c:=z})/\puP σ n 3 4 Kz (fun x z=>{x with d:=z})/\puP σ n 4 5 KA (fun x z=>{x with e:=z})/\puP σ n 5 6 KB (fun x z=>{x with f:=z}):=by
 have e5:=a3l;have e6:=a4X;refine⟨?_,?_,?_,?_,?_,?_⟩ <;>
 ·intro s t m a hs ht hm h0 h1 fuel
  simp only[W6.sm] at hs ht hm;rw[Kb,show a4d.loops[0]?=sM a8a from rfl];simp only[c3Y,paI];simp -implicitDefEqProofs (disch:=omega) only[Q0,a8a,↓reduceIte,a0e,a0h,a0s,XX,XY,XV,Q3,Q5,Q2,Q1,Q0,XZ,Ke,Qd,Qe,Qh,e5,e6,Int.reduceEq,Int.reduceLT,Kp,Kr,c7i,f5j,KC];split<;>rfl
theorem f3A:rfP σ n 0 1 Kw/\rfP σ n 1 2 Kx/\rfP σ n 2 3 Ky/\rfP σ n 3 4 Kz/\rfP σ n 4 5 KA/\rfP σ n 5 6 KB:=by
 have e5:=a3l;have e6:=a4X;refine⟨?_,?_,?_,?_,?_,?_⟩ <;>
 ·intro s t m a hs ht hm ha fuel
  simp only[W6.sm] at hs ht hm ha;rw[Kb,show a3K.loops[0]?=sM a7f from rfl,f3V];simp only[c3Y];simp -implicitDefEqProofs (disch:=omega) only[Q0,a7f,↓reduceIte,a0j,a0e,a0h,a0s,XX,XY,XV,Q3,Q5,Q2,Q1,Q0,XZ,XU,Ke,Qd,Qe,Qh,e5,e6,Int.reduceEq,Int.reduceLT,Kp,Kr,c7i,a0n,Kc]
  (repeat' split)<;>rfl
theorem f1X(a b:W6)(ha:a.sm 1000)(hb:b.sm 1000)(hn:10<=n):a0a Tab n 93 [.agg a.pv,.agg b.pv] σ=sM (.agg (e3W exI b a).pv,σ):=by
 obtain⟨n,rfl⟩:∃k,n=k+8:=⟨n-8,by omega⟩
 have fin:∀(w:W6) fuel,a6X.loop (a0a Tab (n+7)) (fuel+1) 0 (e1u σ 6 a b w)=sM (.agg w.pv,σ):=fun w fuel=>by
  have e6:ltB 6 6=ff:=rfl;rw[Kb,show a6X.loops[0]?=sM b3Q from rfl];simp only[Q0,e1u,b3Q,↓reduceIte,a0j,a0e,XX,XY,XV,Q3,Q5,Q2,Q1,Q0,XZ,XU,e6,pv6,a0n,Kc]
 have key:a6X.loop (a0a Tab (n+7)) (n+7) 0 (e1u σ 0 a b w0)=sM (.agg (e3W exI b a).pv,σ):=by
  obtain⟨s0,s1,s2,s3,s4,s5⟩:=f3L σ (n+7);rw[s0 a b _ ha hb rfl (n+6),s1 a b _ ha hb rfl (n+5),s2 a b _ ha hb rfl (n+4),s3 a b _ ha hb rfl (n+3),s4 a b _ ha hb rfl (n+2),s5 a b _ ha hb rfl (n+1)];exact fin _ n
 rw[a0a];simp only[e0B,Q0,Ka,pv6];show ((a0i [.sh (.agg [_,_,_,_,_,_]),.sh (.agg [_,_,_,_,_,_])] _).bind _)=_;simp only[a0i,a0m,a0c,Q1,Q0,Q8,Q4,Q6,K5];show (K1 _ c7b _).bind _=_;simp only[c7b,a0s,XV,Q3,Q5,Q1,Q0,XZ,Ke,Qe,Qh];exact key
theorem e9y(s t m a:W6)(hs:s.sm 100)(ht:t.sm 100)(hm:m.sm 100)(ha:a.sm 100)(hn:10<=n):a0a Tab n 92 [.agg s.pv,.agg t.pv,.agg m.pv,.agg a.pv] σ=sM (.agg (paW s t m a).pv,σ):=by
 obtain⟨n,rfl⟩:∃k,n=k+8:=⟨n-8,by omega⟩
 have fin:∀(w:W6) fuel,a4d.loop (a0a Tab (n+7)) (fuel+1) 0 (c3Y σ 6 s t m w)=sM (.agg w.pv,σ):=fun w fuel=>by
  have e6:ltB 6 6=ff:=rfl;rw[Kb,show a4d.loops[0]?=sM a8a from rfl];simp only[Q0,c3Y,a8a,↓reduceIte,a0j,a0e,XX,XY,XV,Q3,Q5,Q2,Q1,Q0,XZ,XU,e6,pv6,a0n,Kc]
 have hs':=hs.mono (show (100:Int)<=1000 by decide);have ht':=ht.mono (show (100:Int)<=1000 by decide);have hm':=hm.mono (show (100:Int)<=1000 by decide)
 have key:a4d.loop (a0a Tab (n+7)) (n+7) 0 (c3Y σ 0 s t m a)=sM (.agg (paW s t m a).pv,σ):=by
  simp only[W6.sm] at ha;obtain⟨s0,s1,s2,s3,s4,s5⟩:=f4r σ (n+7);rw[s0 s t m _ hs' ht' hm' (by omega) (by omega) (n+6),s1 s t m _ hs' ht' hm' (by show 0<=a.b;omega) (by show a.b<=1000;omega) (n+5),s2 s t m _ hs' ht' hm' (by show 0<=a.c;omega) (by show a.c<=1000;omega) (n+4),s3 s t m _ hs' ht' hm' (by show 0<=a.d;omega) (by show a.d<=1000;omega) (n+3),s4 s t m _ hs' ht' hm' (by show 0<=a.e;omega) (by show a.e<=1000;omega) (n+2),s5 s t m _ hs' ht' hm' (by show 0<=a.f;omega) (by show a.f<=1000;omega) (n+1)];exact fin _ n
 rw[a0a];simp only[d2H,Q0,Ka,pv6];show ((a0i [.sh (.agg [_,_,_,_,_,_]),.sh (.agg [_,_,_,_,_,_]),.sh (.agg [_,_,_,_,_,_]),.sh (.agg [_,_,_,_,_,_])] _).bind _)=_;simp only[a0i,a0m,a0c,Q1,Q0,Q8,Q4,Q6,K5];show (K1 _ b5Q _).bind _=_;simp only[b5Q,a0s,XV,Q3,Q5,Q1,Q0,XZ,Ke,Qe,Qh];exact key
theorem e5k(s t m a:W6)(hs:s.sm 1000)(ht:t.sm 1000)(hm:m.sm 1000)(ha:a.sm 1000)(hn:10<=n):a0a Tab n 91 [.agg s.pv,.agg t.pv,.agg m.pv,.agg a.pv] σ=sM (.bool (rfW s t m a),σ):=by
 obtain⟨n,rfl⟩:∃k,n=k+8:=⟨n-8,by omega⟩
 have fin:∀fuel,a3K.loop (a0a Tab (n+7)) (fuel+1) 0 (c3Y σ 6 s t m a)=sM (.bool ff,σ):=fun fuel=>by
  have e6:ltB 6 6=ff:=rfl;rw[Kb,show a3K.loops[0]?=sM a7f from rfl];simp only[Q0,c3Y,a7f,↓reduceIte,a0j,a0e,XX,XY,XV,Q3,Q2,Q1,Q0,XU,e6,a0n,Kc]
 have key:a3K.loop (a0a Tab (n+7)) (n+7) 0 (c3Y σ 0 s t m a)=sM (.bool (rfW s t m a),σ):=by
  obtain⟨s0,s1,s2,s3,s4,s5⟩:=f3A σ (n+7);rw[s0 s t m a hs ht hm ha (n+6),s1 s t m a hs ht hm ha (n+5),s2 s t m a hs ht hm ha (n+4),s3 s t m a hs ht hm ha (n+3),s4 s t m a hs ht hm ha (n+2),s5 s t m a hs ht hm ha (n+1),fin n];unfold rfW
  repeat' split
  all_goals simp_all
 rw[a0a];simp only[d1K,Q0,Ka,pv6];show ((a0i [.sh (.agg [_,_,_,_,_,_]),.sh (.agg [_,_,_,_,_,_]),.sh (.agg [_,_,_,_,_,_]),.sh (.agg [_,_,_,_,_,_])] _).bind _)=_;simp only[a0i,a0m,a0c,Q1,Q0,Q8,Q4,Q6,K5];show (K1 _ b4J _).bind _=_;simp only[b4J,a0s,XV,Q3,Q5,Q1,Q0,XZ,Ke,Qe,Qh];exact key
theorem e8G(v:PV)(l:List W6)(hv:BRd σ v l)(hok:∀w∈l,w.ok)(hl:l.length<=8)(s:W6)(hs:s.sm 1000)(hn:30<=n):a0a Tab n 60 [.agg s.pv,v] σ=sM (.agg (exW s l).pv,σ):=by
 obtain⟨n,rfl⟩:=a0L n (by omega);have k1:=e3e σ v l hv hok hl n (by omega);have k2:=f1X σ n (a0Z l) s ((d0J hok hl).mono (by decide)) hs (by omega);simp only[pv6] at k1 k2;rw[a0a];simp only[d8m,Q0,Ka,pv6,exW];show ((a0i [.sh (.agg [_,_,_,_,_,_]),.sh (.one _)] _).bind _)=_;simp only[a0i,a0m,a0c,Q1,Q0,Q8,Q4,K5,hv.one];show (K1 _ c1T _).bind _=_;simp only[c1T,↓reduceIte,a0j,a0A,XV,Q3,Q5,Q7,Q2,a0c,a0w,a0m,Q1,Q0,K3,Q6,Q4,XZ,XU,k1,k2,a0n,Kc]
end
theorem a5l(o:Po):o.row=[.int .i64 o.st,.int .i64 o.pc,.int .i64 o.un,.int .i64 o.ru]:=rfl
def a8x(o:Po)(p ex:W6):W6×Int:=if (rsW o p ex).pok then(rsW o p ex,0) else(w0,4)
section
variable (σ:List MO)(n:Nat)
def a6U(o:Po):Int:=if o.ok then 0 else 4
theorem b3j(o:Po)(hn:1<=n):a0a Tab n 29 [.agg o.row] σ=sM (.int .i64 (a6U o),σ):=by
 obtain⟨n,rfl⟩:=a0L n (by omega);rw[a0a];simp only[d3l,Q0,Ka,a5l];show ((a0i [.sh (.agg [_,_,_,_])] _).bind _)=_;simp only[a0i,a0m,a0c,Q1,Q0,Q8,K5];show (K1 _ b5s _).bind _=_;have e6:=a4X;simp only[b5s,↓reduceIte,a0j,a0e,XX,XY,XV,Q3,Q5,Q2,Q1,Q0,XU,e6,a0n,Kc];by_cases h1:o.st<1
 ·rw[show a6U o=4 from K4 (by unfold Po.ok;omega)];simp only[dT0 h1,↓reduceIte,Q0,]
 rw[dF0 h1];by_cases h2:1000000<o.st
 ·rw[show a6U o=4 from K4 (by unfold Po.ok;omega)];simp only[dT0 h2,↓reduceIte,Q2,Q0,]
 rw[dF0 h2];by_cases h3:o.pc<0
 ·rw[show a6U o=4 from K4 (by unfold Po.ok;omega)];simp only[dT0 h3,↓reduceIte,Q2,Q0,]
 rw[dF0 h3];by_cases h4:100<o.pc
 ·rw[show a6U o=4 from K4 (by unfold Po.ok;omega)];simp only[dT0 h4,↓reduceIte,Q2,Q0,]
 rw[dF0 h4];by_cases h5:o.un<1
 ·rw[show a6U o=4 from K4 (by unfold Po.ok;omega)];simp only[dT0 h5,↓reduceIte,Q2,Q0,]
 rw[dF0 h5];by_cases h6:3<o.un
 ·rw[show a6U o=4 from K4 (by unfold Po.ok;omega)];simp only[dT0 h6,↓reduceIte,Q2,Q0,]
 rw[dF0 h6];by_cases h7:o.ru<1
 ·rw[show a6U o=4 from K4 (by unfold Po.ok;omega)];simp only[dT0 h7,↓reduceIte,Q2,Q0,]
 rw[dF0 h7];by_cases h8:3<o.ru
 ·rw[show a6U o=4 from K4 (by unfold Po.ok;omega)];simp only[dT0 h8,↓reduceIte,Q2,Q0,]
 rw[dF0 h8,show a6U o=0 from XT (by unfold Po.ok;omega)];simp only[↓reduceIte,Q2,Q0,]
theorem b0K(o:Po)(hn:1<=n):a0a Tab n 17 [.agg o.row] σ=sM (.int .i64 (a6U o),σ):=by
 obtain⟨n,rfl⟩:=a0L n (by omega);rw[a0a];simp only[c8c,Q0,Ka,a5l];show ((a0i [.sh (.agg [_,_,_,_])] _).bind _)=_;simp only[a0i,a0m,a0c,Q1,Q0,Q8,K5];show (K1 _ b3b _).bind _=_;have e6:=a4X;simp only[b3b,↓reduceIte,a0j,a0e,XX,XY,XV,Q3,Q5,Q2,Q1,Q0,XU,e6,a0n,Kc];by_cases h1:o.st<1
 ·rw[show a6U o=4 from K4 (by unfold Po.ok;omega)];simp only[dT0 h1,↓reduceIte,Q0,]
 rw[dF0 h1];by_cases h2:1000000<o.st
 ·rw[show a6U o=4 from K4 (by unfold Po.ok;omega)];simp only[dT0 h2,↓reduceIte,Q2,Q0,]
 rw[dF0 h2];by_cases h3:o.pc<0
 ·rw[show a6U o=4 from K4 (by unfold Po.ok;omega)];simp only[dT0 h3,↓reduceIte,Q2,Q0,]
 rw[dF0 h3];by_cases h4:100<o.pc
 ·rw[show a6U o=4 from K4 (by unfold Po.ok;omega)];simp only[dT0 h4,↓reduceIte,Q2,Q0,]
 rw[dF0 h4];by_cases h5:o.un<1
 ·rw[show a6U o=4 from K4 (by unfold Po.ok;omega)];simp only[dT0 h5,↓reduceIte,Q2,Q0,]
 rw[dF0 h5];by_cases h6:3<o.un
 ·rw[show a6U o=4 from K4 (by unfold Po.ok;omega)];simp only[dT0 h6,↓reduceIte,Q2,Q0,]
 rw[dF0 h6];by_cases h7:o.ru<1
 ·rw[show a6U o=4 from K4 (by unfold Po.ok;omega)];simp only[dT0 h7,↓reduceIte,Q2,Q0,]
 rw[dF0 h7];by_cases h8:3<o.ru
 ·rw[show a6U o=4 from K4 (by unfold Po.ok;omega)];simp only[dT0 h8,↓reduceIte,Q2,Q0,]
 rw[dF0 h8,show a6U o=0 from XT (by unfold Po.ok;omega)];simp only[↓reduceIte,Q2,Q0,]
def e8O(z:Int):Int:=if 0<=z/\z<=1000000 then 0 else 4
theorem e9g(z:Int)(hn:2<=n):a0a Tab n 123 [.int .i64 z] σ=sM (.int .i64 (e8O z),σ):=by
 obtain⟨n,rfl⟩:∃k,n=k+1+1:=⟨n-2,by omega⟩
 have k1:a0a Tab (n+1) 136 [.int .i64 z] σ=sM (.bool (decide (0<=z/\z<=1000000)),σ):=by
  rw[a0a];simp only[e3k,Q0,Ka];show ((a0i [.sh (.one _)] _).bind _)=_;simp only[a0i,a0m,a0c,Q1,Q0,Q8,K5];show (K1 _ c9d _).bind _=_;simp only[c9d,↓reduceIte,a0j,a0e,XX,XY,XV,Q3,Q0,XU,];by_cases h:0<=z
  ·rw[a2O.2 h]
   simp only[↓reduceIte,Q2,Q1,Q0,a0n,Kc]
   congr 3
   simp[leB,h]
  ·rw[a4Y.2 h]
   simp only[↓reduceIte,Q2,Q1,Q0,a0n,Kc];rw[dF0 (by omega)]
 skip
 rw[a0a];simp only[d8d,Q0,Ka];show ((a0i [.sh (.one _)] _).bind _)=_;simp only[a0i,a0m,a0c,Q1,Q0,Q8,K5];show (K1 _ c3f _).bind _=_;unfold e8O;simp only[c3f,↓reduceIte,a0j,a0e,a0A,XX,XY,XV,Q3,a0c,a0w,a0m,Q1,Q0,K3,Q6,Q4,XZ,XU,k1];by_cases h:0<=z/\z<=1000000
 ·rw[dT0 h,XT h];simp only[↓reduceIte,Q2,Q1,Q0,Qg,a0n,Kc]
 ·rw[dF0 h,K4 h];simp only[↓reduceIte,Q2,Q1,Q0,Qn,a0n,Kc]
theorem f5z(z:Int):eqB (e8O z) 0=decide (0<=z/\z<=1000000):=by
 unfold e8O;split<;>rename_i h
 ·rw[dT0 h];rfl
 ·rw[dF0 h];rfl
theorem e7y(w:W6):decide w.pok=(decide (0<=w.a/\w.a<=1000000)&&(decide (0<=w.b/\w.b<=1000000)&&(decide (0<=w.c/\w.c<=1000000)&&(decide (0<=w.d/\w.d<=1000000)&&(decide (0<=w.e/\w.e<=1000000)&&decide (0<=w.f/\w.f<=1000000)))))):=by
 rw[XM];simp only[KC,QD];unfold W6.pok;omega
theorem c9A(p:W6)(hn:3<=n):a0a Tab n 96 [.agg p.pv] σ=sM (.bool (decide p.pok),σ):=by
 obtain⟨n,rfl⟩:=a0L n (by omega);have k1:=fun z=>e9g σ n z (by omega)
 skip
 rw[a0a];simp only[d2E,Q0,Ka,pv6];show ((a0i [.sh (.agg [_,_,_,_,_,_])] _).bind _)=_;simp only[a0i,a0m,a0c,Q1,Q0,Q8,K5];show (K1 _ b5y _).bind _=_;rw[e7y];simp only[b5y,↓reduceIte,a0j,a0e,a0A,XX,XY,XV,Q3,Q5,a0c,a0w,a0m,Q1,Q0,K3,Q6,Q4,Q8,XZ,XU,k1,f5z];cases decide (0<=p.a/\p.a<=1000000) with
 | false=>simp only[↓reduceIte,Q2,Q1,Q0,Qn,a0n,Kc,QB]
 | true =>
 simp only[↓reduceIte,Q2,Qg,Qz];cases decide (0<=p.b/\p.b<=1000000) with
 | false=>simp only[↓reduceIte,Q2,Q1,Q0,Qn,a0n,Kc,QB]
 | true =>
 simp only[↓reduceIte,Q2,Qg,Qz];cases decide (0<=p.c/\p.c<=1000000) with
 | false=>simp only[↓reduceIte,Q2,Q1,Q0,Qn,a0n,Kc,QB]
 | true =>
 simp only[↓reduceIte,Q2,Qg,Qz];cases decide (0<=p.d/\p.d<=1000000) with
 | false=>simp only[↓reduceIte,Q2,Q1,Q0,Qn,a0n,Kc,QB]
 | true =>
 simp only[↓reduceIte,Q2,Qg,Qz];cases decide (0<=p.e/\p.e<=1000000) with
 | false=>simp only[↓reduceIte,Q2,Q1,Q0,Qn,a0n,Kc,QB]
 | true =>
 simp only[↓reduceIte,Q2,Qg,Qz];cases decide (0<=p.f/\p.f<=1000000)<;>simp only[↓reduceIte,Q2,Q1,Q0,Qg,Qn,a0n,Kc]
theorem d4w(p:W6)(hn:1<=n):a0a Tab n 111 [.agg p.pv] σ=sM (.bool (decide p.pok),σ):=by
 obtain⟨n,rfl⟩:=a0L n (by omega);rw[a0a];simp only[c4T,Q0,Ka,pv6];show ((a0i [.sh (.agg [_,_,_,_,_,_])] _).bind _)=_;simp only[a0i,a0m,a0c,Q1,Q0,Q8,K5];show (K1 _ b0V _).bind _=_;have g:∀z:Int,decide (0<=z/\z<=1000000)=(!ltB z 0&&!ltB 1000000 z):=fun z=>by simp only[ltB,Bool.decide_and];congr 1<;>(rw[<- decide_not];congr 1;exact propext (by omega))
 rw[e7y];simp only[b0V,↓reduceIte,a0j,a0e,XX,XY,XV,Q3,Q5,Q0,XU,g];cases ltB p.a 0<;>simp only[↓reduceIte,Q2,Q1,Q0,Qg,Qn,a0n,Kc,QB,Qz]
 cases ltB 1000000 p.a<;>simp only[↓reduceIte,Q2,Q0,Qg,Qn,QB,Qz]
 cases ltB p.b 0<;>simp only[↓reduceIte,Q2,Q0,Qg,Qn,QB,Qz]
 cases ltB 1000000 p.b<;>simp only[↓reduceIte,Q2,Q0,Qg,Qn,QB,Qz]
 cases ltB p.c 0<;>simp only[↓reduceIte,Q2,Q0,Qg,Qn,QB,Qz]
 cases ltB 1000000 p.c<;>simp only[↓reduceIte,Q2,Q0,Qg,Qn,QB,Qz]
 cases ltB p.d 0<;>simp only[↓reduceIte,Q2,Q0,Qg,Qn,QB,Qz]
 cases ltB 1000000 p.d<;>simp only[↓reduceIte,Q2,Q0,Qg,Qn,QB,Qz]
 cases ltB p.e 0<;>simp only[↓reduceIte,Q2,Q0,Qg,Qn,QB,Qz]
 cases ltB 1000000 p.e<;>simp only[↓reduceIte,Q2,Q0,Qg,Qn,QB,Qz]
 cases ltB p.f 0<;>simp only[↓reduceIte,Q2,Q0,Qg,Qn,QB,Qz]
 cases ltB 1000000 p.f<;>simp only[↓reduceIte,Q2,Q0,Qg,Qn,]
theorem f3j{o:Po}(ho:o.ok){p:Int}(h0:0<=p)(h1:p<=1000000):0<=p*o.pc/\p*o.pc<=100000000/\0<=QC (p*o.pc+99) 100/\QC (p*o.pc+99) 100<=1000001/\p<rsI o p:=by
 unfold Po.ok at ho;have a0:0<=p*o.pc:=Int.mul_nonneg h0 ho.2.2.1;have a1:p*o.pc<=1000000*100:=Int.mul_le_mul h1 ho.2.2.2.1 ho.2.2.1 (by omega);have e:QC (p*o.pc+99) 100=(p*o.pc+99) / 100:=Xt (by omega);unfold rsI;rw[e];omega
theorem e9p(o:Po)(ho:o.ok)(p:Int)(h0:0<=p)(h1:p<=1000000)(hn:1<=n):a0a Tab n 122 [.int .i64 p,.cell o.row 0] σ=sM (.int .i64 (rsI o p),σ):=by
 obtain⟨n,rfl⟩:=a0L n (by omega);obtain⟨b1,b2,b3,b4,_⟩:=f3j ho h0 h1;unfold Po.ok at ho;have g1:=a1K (z:=p+o.st) (by omega);have g2:=a1K (z:=p*o.pc) (by omega);have g3:=a1K (z:=p*o.pc+99) (by omega);have g4:=a1K (z:=QC (p*o.pc+99) 100) (by omega);have g5:=a1K (z:=p+o.st+QC (p*o.pc+99) 100) (by omega);rw[a0a];simp only[c7U,Q0,Ka,a5l];show ((a0i [.sh (.one _),.ptr] _).bind _)=_;simp only[a0i,a0m,a0c,Q1,Q0,Q8,Q4,K5,PV.isPtr];show (K1 _ b2q _).bind _=_;simp only[b2q,↓reduceIte,a0j,a0h,a0F,XX,XY,XV,Q3,Q5,Q7,a0H,a2p,a0x,a1g,QM,Qq,Q9,Qa,Nat.reduceAdd,Q2,QH,QA,a0c,Q1,Q0,K3,Q6,Q4,XU,Qd,List.drop_succ_cons,Nat.reduceLeDiff,XT g1,XT g2,XT g3,XT g4,XT g5,a0n,Kf,rsI]
theorem e5F(o:Po)(ho:o.ok)(p:Int)(h0:0<=p)(h1:p<=1000000)(hn:1<=n):a0a Tab n 112 [.agg o.row,.int .i64 p] σ=sM (.int .i64 (rsI o p),σ):=by
 obtain⟨n,rfl⟩:=a0L n (by omega);obtain⟨b1,b2,b3,b4,_⟩:=f3j ho h0 h1;have e1:QC (p*o.pc) 100=(p*o.pc) / 100:=Xt b1;have e2:Int.tmod (p*o.pc) 100=(p*o.pc) % 100:=Int.tmod_eq_emod_of_nonneg b1;have e3:QC (p*o.pc+99) 100=(p*o.pc+99) / 100:=Xt (by omega);unfold Po.ok at ho;have g1:=a1K (z:=p+o.st) (by omega);have g2:=a1K (z:=p*o.pc) (by omega);have g3:=a1K (z:=QC (p*o.pc) 100) (by omega);have g4:=a1K (z:=QC (p*o.pc) 100+1) (by omega);have g5:=a1K (z:=p+o.st+(QC (p*o.pc) 100+1)) (by omega);have g6:=a1K (z:=p+o.st+QC (p*o.pc) 100) (by omega);rw[a0a];simp only[c7j,Q0,Ka,a5l];show ((a0i [.sh (.agg [_,_,_,_]),.sh (.one _)] _).bind _)=_;simp only[a0i,a0m,a0c,Q1,Q0,Q8,Q4,Q6,K5];show (K1 _ b1D _).bind _=_;simp only[b1D,↓reduceIte,a0j,a0e,a0h,XX,XY,XV,Q3,Q5,Q0,XU,Qd,XT g2,XT g3];have e6:=a4X;by_cases h:0<Int.tmod (p*o.pc) 100
 ·simp only[↓reduceIte,Q2,Q1,Q0,e6,dT0 h,XT g1,XT g4,XT g5,a0n,Kc,rsI]
  rw[show p+o.st+(QC (p*o.pc) 100+1)=p+o.st+QC (p*o.pc+99) 100 by rw[e1,e3];rw[e2] at h;omega]
 ·simp only[↓reduceIte,Q2,Q1,Q0,e6,dF0 h,XT g1,XT g6,a0n,Kc,rsI]
  rw[show p+o.st+QC (p*o.pc) 100=p+o.st+QC (p*o.pc+99) 100 by rw[e1,e3];rw[e2] at h;omega]
theorem e9Y(hσ:Low σ)(o:Po)(hn:1<=n):a0a Tab n 95 [.agg o.row] σ=sM (.fn 122 [.cell o.row 0],σ):=by
 obtain⟨n,rfl⟩:=a0L n (by omega);rw[a0a];simp only[d1V,Q0,Ka,a5l];show ((a0i [.sh (.agg [_,_,_,_])] _).bind _)=_;simp only[a0i,a0m,a0c,Q1,Q0,Q8,K5];show (K1 _ b4t _).bind _=_;have h1:¬(σ.length+1=σ.length):=by omega
 have h2:¬σ.length<σ.length:=by omega
 have hl:List.all σ (KK σ.length)=tt:=hσ;simp only[b4t,↓reduceIte,a0j,a2E,XV,Q3,Q5,Q7,Q1,Q0,Q4,XZ,XU,];simp[a0n,PV.on,hl,PV.frz,PV.frzs,a6e,Kt]
end
theorem f2E(x y:W6):KL x y=tt↔x=y:=by
 obtain⟨a,b,c,d,e,f⟩:=x;obtain⟨a',b',c',d',e',f'⟩:=y;simp[KL,eqB]
def fnV(o:Po):PV:=.fn 122 [.cell o.row 0]
section
variable (σ:List MO)(n:Nat)(o:Po)(ho:o.ok)(p ex:W6)(hp:p.pok)
def d4K(σ:List MO)(o:Po)(p ex:W6)(k:Int)(w:W6):PEnv:={i:=[ex.a,ex.b,ex.c,ex.d,ex.e,ex.f,k,o.st,o.pc,o.un,o.ru,p.a,p.b,p.c,p.d,p.e,p.f,w.a,w.b,w.c,w.d,w.e,w.f],b:=[],v:=[fnV o],m:=σ,k:=σ.length}
def e1k(σ:List MO)(o:Po)(ex:W6)(k:Int)(w:W6):PEnv:={i:=[k,o.st,o.pc,o.un,o.ru,w.a,w.b,w.c,w.d,w.e,w.f,ex.a,ex.b,ex.c,ex.d,ex.e,ex.f],b:=[],v:=[],m:=σ,k:=σ.length}
def upI(o:Po)(e p:Int):Int:=if 0<e then rsI o p else p
def cnP(σ:List MO)(n:Nat)(o:Po)(p ex:W6)(I J:Int)(F:W6->Int)(U:W6->Int->W6):Prop:=∀w:W6,F w=F p->∀fuel,a4k.loop (a0a Tab n) (fuel+1) 0 (d4K σ o p ex I w)=a4k.loop (a0a Tab n) fuel 0 (d4K σ o p ex J (U w (upI o (F ex) (F p))))
def rnP(σ:List MO)(n:Nat)(o:Po)(ex:W6)(I J:Int)(F:W6->Int)(U:W6->Int->W6):Prop:=∀w:W6,0<=F w->F w<=1000000->∀fuel,a3B.loop (a0a Tab n) (fuel+1) 0 (e1k σ o ex I w)=a3B.loop (a0a Tab n) fuel 0 (e1k σ o ex J (U w (upI o (F ex) (F w))))
include ho hp in
theorem f4o(hn:4<=n):cnP σ n o p ex 0 1 Kw (fun x z=>{x with a:=z})/\cnP σ n o p ex 1 2 Kx (fun x z=>{x with b:=z})/\cnP σ n o p ex 2 3 Ky (fun x z=>{x with c:=z})/\cnP σ n o p ex 3 4 Kz (fun x z=>{x with d:=z})/\cnP σ n o p ex 4 5 KA (fun x z=>{x with e:=z})/\cnP σ n o p ex 5 6 KB (fun x z=>{x with f:=z}):=by
 have e5:=a3l;have e6:=a4X;have hp':=hp;simp only[W6.pok] at hp';have k1:=c9A σ n p (by omega);have k2:=fun z h0 h1=>e9p σ n o ho z h0 h1 (by omega)
 rw[dT0 hp] at k1;simp only[pv6] at k1;refine⟨?_,?_,?_,?_,?_,?_⟩ <;>
 ·intro w hw fuel
  rw[Kb,show a4k.loops[0]?=sM a8M from rfl];simp only[d4K,upI,fnV] at k2 ⊢;simp -implicitDefEqProofs (disch:=omega) only[Q0,a8M,↓reduceIte,a0e,a0A,a7P,a0s,XX,XY,XV,Q3,Q5,Q7,Q2,a0c,a0w,a0m,Q1,Q0,K3,Q6,Q4,XZ,XU,Ke,Qe,Qh,e5,e6,Int.reduceEq,Int.reduceLT,Kp,Kr,k1,k2,hw,KC];split<;>rfl
include ho in
theorem f3J(hn:4<=n):rnP σ n o ex 0 1 Kw (fun x z=>{x with a:=z})/\rnP σ n o ex 1 2 Kx (fun x z=>{x with b:=z})/\rnP σ n o ex 2 3 Ky (fun x z=>{x with c:=z})/\rnP σ n o ex 3 4 Kz (fun x z=>{x with d:=z})/\rnP σ n o ex 4 5 KA (fun x z=>{x with e:=z})/\rnP σ n o ex 5 6 KB (fun x z=>{x with f:=z}):=by
 have e5:=a3l;have e6:=a4X;have k2:=fun z h0 h1=>e5F σ n o ho z h0 h1 (by omega)
 simp only[a5l] at k2;refine⟨?_,?_,?_,?_,?_,?_⟩ <;>
 ·intro w h0 h1 fuel
  rw[Kb,show a3B.loops[0]?=sM a6F from rfl];simp only[e1k,upI];simp -implicitDefEqProofs (disch:=omega) only[Q0,a6F,↓reduceIte,a0e,a0A,a0s,XX,XY,XV,Q3,Q5,Q2,a0c,a0w,a0m,Q1,Q0,K3,Q6,Q4,XZ,XU,Ke,Qe,Qh,e5,e6,Int.reduceEq,Int.reduceLT,Kp,Kr,k2,KC];split<;>rfl
include ho hp in
theorem f1M(hσ:Low σ)(hn:20<=n):a0a Tab n 61 [.agg o.row,.agg p.pv,.agg ex.pv] σ=sM (.tup [.agg (a8x o p ex).1.pv,.int .i64 (a8x o p ex).2],σ):=by
 obtain⟨n,rfl⟩:∃k,n=k+8:=⟨n-8,by omega⟩;have v1:=c9A σ (n+7) p (by omega);have v2:=c9A σ (n+7) (rsW o p ex) (by omega);have c1:=b3j σ (n+7) o (by omega);have c2:=e9Y σ (n+7) hσ o (by omega);rw[dT0 hp] at v1;rw[show a6U o=0 by unfold a6U;rw[XT ho]] at c1;simp only[pv6,a5l] at v1 v2 c1 c2;have e6:ltB 6 6=ff:=rfl
 have fin:∀fuel,a4k.loop (a0a Tab (n+7)) (fuel+1) 0 (d4K σ o p ex 6 (rsW o p ex))=sM (.tup [.agg (a8x o p ex).1.pv,.int .i64 (a8x o p ex).2],σ):=fun fuel=>by
  unfold a8x;have hb:(eqB (rsW o p ex).a p.a&&(eqB (rsW o p ex).b p.b&&(eqB (rsW o p ex).c p.c&&(eqB (rsW o p ex).d p.d&&(eqB (rsW o p ex).e p.e&&eqB (rsW o p ex).f p.f)))))=KL (rsW o p ex) p:=rfl;rw[Kb,show a4k.loops[0]?=sM a8M from rfl];simp only[Q0,d4K,a8M,↓reduceIte,a0j,a0e,a0A,XX,XY,XV,Q3,Q5,Q2,a0c,a0w,a0m,Q1,Q0,K3,Q6,Q4,XZ,XU,Qd,Qg,e6,v1,hb];by_cases hq:KL (rsW o p ex) p=tt
  ·have he:=(f2E _ _).1 hq
   simp only[hq,↓reduceIte,Q2,Q1,Q0,Qg,a0n,Kc];rw[XT (by rw[he];exact hp)];rfl
  ·rw[Xu] at hq
   simp only[hq,↓reduceIte,Q3,a0c,Q1,Q0,Qn,v2];by_cases hk:(rsW o p ex).pok
   ·rw[dT0 hk,XT hk]
    simp only[↓reduceIte,Q2,Q1,Q0,Qg,a0n,Kc,pv6]
   ·rw[dF0 hk,K4 hk]
    simp only[↓reduceIte,Q2,Q1,Q0,Qn,a0n,Kc,pv6,w0]
 have key:a4k.loop (a0a Tab (n+7)) (n+7) 0 (d4K σ o p ex 0 p)=sM (.tup [.agg (a8x o p ex).1.pv,.int .i64 (a8x o p ex).2],σ):=by
  obtain⟨s0,s1,s2,s3,s4,s5⟩:=f4o σ (n+7) o ho p ex hp (by omega);rw[s0 p rfl (n+6),s1 ⟨upI o ex.a p.a,p.b,p.c,p.d,p.e,p.f⟩ rfl (n+5),s2 ⟨upI o ex.a p.a,upI o ex.b p.b,p.c,p.d,p.e,p.f⟩ rfl (n+4),s3 ⟨upI o ex.a p.a,upI o ex.b p.b,upI o ex.c p.c,p.d,p.e,p.f⟩ rfl (n+3),s4 ⟨upI o ex.a p.a,upI o ex.b p.b,upI o ex.c p.c,upI o ex.d p.d,p.e,p.f⟩ rfl (n+2),s5 ⟨upI o ex.a p.a,upI o ex.b p.b,upI o ex.c p.c,upI o ex.d p.d,upI o ex.e p.e,p.f⟩ rfl (n+1)];exact fin n
 rw[a0a];simp only[d4d,Q0,Ka,pv6,a5l];show ((a0i [.sh (.agg [_,_,_,_]),.sh (.agg [_,_,_,_,_,_]),.sh (.agg [_,_,_,_,_,_])] _).bind _)=_;simp only[a0i,a0m,a0c,Q1,Q0,Q8,Q4,Q6,K5]
 have E:∃b,K1 (a0a Tab (n+7)) b2n {i:=[o.st,o.pc,o.un,o.ru,p.a,p.b,p.c,p.d,p.e,p.f,ex.a,ex.b,ex.c,ex.d,ex.e,ex.f],b:=[],v:=[],m:=σ,k:=σ.length}=sM (.jump 0 b)/\b=d4K σ o p ex 0 p:=by
  refine⟨_,?_,rfl⟩;have e0:eqB 0 0=tt:=rfl;have one1:Kg (.fn 122 [.cell [.int .i64 o.st,.int .i64 o.pc,.int .i64 o.un,.int .i64 o.ru] 0])=tt:=rfl;simp only[b2n,↓reduceIte,a0j,a0e,a0A,XX,XY,XV,Q3,Q5,Q2,a0c,a0w,a0m,Q1,Q0,K3,Q6,Q4,XZ,XU,Qg,c1,e0]
  repeat' (first|with_reducible rfl|apply a4n|simp only[↓reduceIte,a0A,a0s,XV,Q3,Q5,Q7,a0c,a0w,a0m,Q1,Q0,K3,Q6,Q4,XZ,XU,Ke,Qe,Qh,c2,one1,d4K,fnV,a5l]|unfold b3k)
 obtain⟨b,E,rfl⟩:=E;show ((K1 (a0a Tab (n+7)) b2n _).bind _)=_;exact(congrArg (Xa · _) E).trans key
include ho hp in
theorem f0G(hn:20<=n):a0a Tab n 74 [.agg o.row,.agg p.pv,.agg ex.pv] σ=sM (.tup [.agg (a8x o p ex).1.pv,.int .i64 (a8x o p ex).2],σ):=by
 obtain⟨n,rfl⟩:∃k,n=k+8:=⟨n-8,by omega⟩;have v1:=d4w σ (n+7) p (by omega);have v2:=d4w σ (n+7) (rsW o p ex) (by omega);have c1:=b0K σ (n+7) o (by omega);rw[dT0 hp] at v1;rw[show a6U o=0 by unfold a6U;rw[XT ho]] at c1;simp only[pv6,a5l] at v1 v2 c1;have e6:ltB 6 6=ff:=rfl
 have fin:∀fuel,a3B.loop (a0a Tab (n+7)) (fuel+1) 0 (e1k σ o ex 6 (rsW o p ex))=sM (.tup [.agg (a8x o p ex).1.pv,.int .i64 (a8x o p ex).2],σ):=fun fuel=>by
  unfold a8x;rw[Kb,show a3B.loops[0]?=sM a6F from rfl];simp only[Q0,e1k,a6F,↓reduceIte,a0j,a0e,a0A,XX,XY,XV,Q3,Q5,Q2,a0c,a0w,a0m,Q1,Q0,K3,Q6,Q4,XZ,XU,e6,v2];by_cases hk:(rsW o p ex).pok
  ·rw[dT0 hk,XT hk]
   simp only[↓reduceIte,Q2,Q1,Q0,Qg,a0n,Kc,pv6]
  ·rw[dF0 hk,K4 hk]
   simp only[↓reduceIte,Q2,Q1,Q0,Qn,a0n,Kc,pv6,w0]
 have key:a3B.loop (a0a Tab (n+7)) (n+7) 0 (e1k σ o ex 0 p)=sM (.tup [.agg (a8x o p ex).1.pv,.int .i64 (a8x o p ex).2],σ):=by
  have hp':=hp;simp only[W6.pok] at hp';obtain⟨s0,s1,s2,s3,s4,s5⟩:=f3J σ (n+7) o ho ex (by omega);rw[s0 p (show 0<=p.a by omega) (show p.a<=1000000 by omega) (n+6),s1 ⟨upI o ex.a p.a,p.b,p.c,p.d,p.e,p.f⟩ (show 0<=p.b by omega) (show p.b<=1000000 by omega) (n+5),s2 ⟨upI o ex.a p.a,upI o ex.b p.b,p.c,p.d,p.e,p.f⟩ (show 0<=p.c by omega) (show p.c<=1000000 by omega) (n+4),s3 ⟨upI o ex.a p.a,upI o ex.b p.b,upI o ex.c p.c,p.d,p.e,p.f⟩ (show 0<=p.d by omega) (show p.d<=1000000 by omega) (n+3),s4 ⟨upI o ex.a p.a,upI o ex.b p.b,upI o ex.c p.c,upI o ex.d p.d,p.e,p.f⟩ (show 0<=p.e by omega) (show p.e<=1000000 by omega) (n+2),s5 ⟨upI o ex.a p.a,upI o ex.b p.b,upI o ex.c p.c,upI o ex.d p.d,upI o ex.e p.e,p.f⟩ (show 0<=p.f by omega) (show p.f<=1000000 by omega) (n+1)];exact fin n
 rw[a0a];simp only[c9l,Q0,Ka,pv6,a5l];show ((a0i [.sh (.agg [_,_,_,_]),.sh (.agg [_,_,_,_,_,_]),.sh (.agg [_,_,_,_,_,_])] _).bind _)=_;simp only[a0i,a0m,a0c,Q1,Q0,Q8,Q4,Q6,K5];show (K1 _ b3h _).bind _=_;have e0:eqB 0 0=tt:=rfl;simp only[b3h,↓reduceIte,a0j,a0e,a0A,a0s,XX,XY,XV,Q3,Q5,Q2,a0c,a0w,a0m,Q1,Q0,K3,Q6,Q4,Q8,XZ,XU,Ke,Qg,Qe,Qh,c1,e0,v1];exact key
end
def a8m(l:List Pr):W6:=⟨((l.map Ku)[0]?).getD 0,((l.map Ku)[1]?).getD 0,((l.map Ku)[2]?).getD 0,((l.map Ku)[3]?).getD 0,((l.map Ku)[4]?).getD 0,((l.map Ku)[5]?).getD 0⟩
theorem f2U{l:List Pr}(h:∀x∈l,x.rng):(a8m l).pok:=by
 have g:∀i:Nat,0<=((l.map Ku)[i]?).getD 0/\((l.map Ku)[i]?).getD 0<=1000000:=fun i=>by
  rw[QS];cases hx:l[i]? with
  | none=>simp
  | some x=>have:=h x (Qt hx);simp only[Pr.rng] at this;simp;omega
 have:=g 0;have:=g 1;have:=g 2;have:=g 3;have:=g 4;have:=g 5;simp only[W6.pok,a8m];omega
section
variable (σ:List MO)(l:List Pr)(P:PV)(hP:P.rowsOf 5=sM (l.map Ks))(hl:l.length<=6)(n:Nat)
include hP hl in
theorem e9h(hn:10<=n):a0a Tab n 32 [P] σ=sM (.agg (a8m l).pv,σ):=by
 obtain⟨n,rfl⟩:=a0L n (by omega);obtain⟨p1,p2,p3⟩:=a0b hP;rw[QL] at p1;have hq:∀(i:Nat) (x:Pr),l[i]?=sM x->a4f (i:Int) 5 2 P=sM (.row x.row 2):=fun i x h=>a0V (off:=2) hP (a5e h)
 have e6:=a4X;have d1:∀a b c d e:PV,List.drop 2 [a,b,c,d,e]=[c,d,e]:=fun _ _ _ _ _=>rfl
 rw[a0a];simp only[c7R,Q0,Ka];show ((a0i [.sh (.one _)] _).bind _)=_;simp only[a0i,a0m,a0c,Q1,Q0,Q8,K5,p3];show (K1 _ b2G _).bind _=_;rcases l with _|⟨a,_|⟨b,_|⟨c,_|⟨d,_|⟨e,_|⟨f,_|⟨z,r⟩⟩⟩⟩⟩⟩⟩
 case cons.cons.cons.cons.cons.cons.cons=>simp at hl
 all_goals
  first|have h0:=hq 0 _ rfl|have h0:=p3
  first|have h1:=hq 1 _ rfl|have h1:=p3
  first|have h2:=hq 2 _ rfl|have h2:=p3
  first|have h3:=hq 3 _ rfl|have h3:=p3
  first|have h4:=hq 4 _ rfl|have h4:=p3
  first|have h5:=hq 5 _ rfl|have h5:=p3
  simp only[Q9,Qa,Qf,Nat.reduceAdd,Int.cast_ofNat_Int] at *
  simp only[b2G,↓reduceIte,a0j,a0e,a0h,a0F,XX,XY,XV,PEnv.at,Q3,Q5,Q7,a0H,a0x,a1g,Q9,Qa,Nat.reduceAdd,Q2,QH,QA,a0c,Q1,Q0,K3,Q6,Q4,XZ,XU,p1,p2,e6,Int.reduceLT,Kp,Kr,h0,h1,h2,h3,h4,h5,a5X,d1,Nat.reduceLeDiff,a0n,Kc];rfl
def d6b(P:PV)(σ:List MO)(N i:Nat)(w:W6):PEnv:={i:=[(N:Int),(i:Int),w.a,w.b,w.c,w.d,w.e,w.f],b:=[],v:=[P],m:=σ,k:=σ.length}
include hP hl in
theorem e2M(hn:10<=n):a0a Tab n 19 [P] σ=sM (.agg (a8m l).pv,σ):=by
 obtain⟨n,rfl⟩:=a0L n (by omega);obtain⟨q1,q2,q3⟩:=a0b hP;rw[QL] at q1;have hP2:(PV.sl 5 (l.map Ks)).rowsOf 5=sM (l.map Ks):=a1x _ _;obtain⟨p1,p2,p3⟩:=a0b hP2;rw[QL] at p1
 have step:∀i x,l[i]?=sM x->∀fuel (w:W6),a4a.loop (a0a Tab n) (fuel+1) 0 (d6b (.sl 5 (l.map Ks)) σ l.length i w)=a4a.loop (a0a Tab n) fuel 0 (d6b (.sl 5 (l.map Ks)) σ l.length (i+1) (match i with|0=>{w with a:=x.r}|1=>{w with b:=x.r}|2=>{w with c:=x.r}|3=>{w with d:=x.r}|4=>{w with e:=x.r}|_=>{w with f:=x.r})):=by
  intro i x hx fuel w;have hlt:i<l.length:=(Qp.1 hx).1;have hd:decide (i<l.length)=tt:=dT0 hlt;have h0:=a0V (off:=0) hP2 (a5e hx);have e5:=a3l;rw[Kb,show a4a.loops[0]?=sM a8f from rfl];simp only[d6b];simp only[Q0,a8f,↓reduceIte,a0e,a0h,a0F,a0s,XX,XY,XV,PEnv.at,Q3,Q5,Q7,a0H,a0x,a1g,Qq,Q9,Qa,Nat.reduceAdd,Qm,Q2,QH,QA,a0c,Q1,Q0,K3,Q6,Q4,XZ,XU,Ke,Qd,Qe,Qh,p1,a0I,hd,le0,h0,a5X,a3G];obtain rfl|rfl|rfl|rfl|rfl|rfl:i=0\/i=1\/i=2\/i=3\/i=4\/i=5:=by omega
  all_goals rfl
 have fin:∀fuel (w:W6),a4a.loop (a0a Tab n) (fuel+1) 0 (d6b (.sl 5 (l.map Ks)) σ l.length l.length w)=sM (.agg w.pv,σ):=by
  intro fuel w;have hd:decide (l.length<l.length)=ff:=by simp
  rw[Kb,show a4a.loops[0]?=sM a8f from rfl];simp only[d6b];simp only[Q0,a8f,↓reduceIte,a0j,a0e,XX,XY,XV,Q3,Q5,Q2,Q1,Q0,XZ,XU,a0I,hd,a0n,Kc,XW]
 have key:a4a.loop (a0a Tab n) n 0 (d6b (.sl 5 (l.map Ks)) σ l.length 0 ⟨0,0,0,0,0,0⟩)=sM (.agg (a8m l).pv,σ):=by
  obtain⟨m,rfl⟩:∃m,n=m+7:=⟨n-7,by omega⟩;rcases l with _|⟨a,_|⟨b,_|⟨c,_|⟨d,_|⟨e,_|⟨f,_|⟨z,r⟩⟩⟩⟩⟩⟩⟩
  ·exact fin _ _
  ·rw[step 0 a rfl];exact fin _ _
  ·rw[step 0 a rfl,step 1 b rfl];exact fin _ _
  ·rw[step 0 a rfl,step 1 b rfl,step 2 c rfl];exact fin _ _
  ·rw[step 0 a rfl,step 1 b rfl,step 2 c rfl,step 3 d rfl];exact fin _ _
  ·rw[step 0 a rfl,step 1 b rfl,step 2 c rfl,step 3 d rfl,step 4 e rfl];exact fin _ _
  ·rw[step 0 a rfl,step 1 b rfl,step 2 c rfl,step 3 d rfl,step 4 e rfl,step 5 f rfl];exact fin _ _
  ·simp at hl
 rw[a0a];simp only[d2e,Q0,Ka];show ((a0i [.sh (.one _)] _).bind _)=_;simp only[a0i,a0m,a0c,Q1,Q0,Q8,K5,q3];show (K1 _ b5X _).bind _=_;have hm:mnI (l.length:Int) 6=(l.length:Int):=by unfold mnI;rw[K4 (by omega)]
 have c1:(0:Int)<=0/\(0:Int)<=(l.length:Int)/\(l.length:Int)<=((l.map Ks).length:Int):=by rw[QL];omega
 have c2:((l.map Ks).take (l.length:Int).toNat).drop (0:Int).toNat=l.map Ks:=by rw[QJ,QQ (by simp)];rfl
 simp only[b5X,↓reduceIte,a0h,b0i,a0s,XX,XY,XV,PEnv.at,Q3,Q5,Q7,Qb,Q1,Q0,Q6,Q4,XZ,XU,Ke,Qe,Qh,q1,q2,hP,a5M,a5P,hm,XT c1,c2,p1,p2];exact key
end
theorem c2q(un:Int)(s:W6)(asked out:List W6):∀i,(apN un s asked out i).length=out.length
 | 0=>rfl
 | i+1=>by rw[apN,Qs,c2q un s asked out i]
theorem d1X{s t m a:Int}(h1:0<=m)(h2:m<=4)(h3:0<=a)(h4:a<=4):0<=paI s t m a/\paI s t m a<=4:=by
 unfold paI mnI mxI
 repeat' split
 all_goals omega
theorem f4P(s t m a:W6)(hm:m.ok)(ha:a.ok):(paW s t m a).ok:=by
 simp only[KH] at hm ha;have g1:=@d1X s.a t.a m.a a.a (by omega) (by omega) (by omega) (by omega);have g2:=@d1X s.b t.b m.b a.b (by omega) (by omega) (by omega) (by omega);have g3:=@d1X s.c t.c m.c a.c (by omega) (by omega) (by omega) (by omega);have g4:=@d1X s.d t.d m.d a.d (by omega) (by omega) (by omega) (by omega);have g5:=@d1X s.e t.e m.e a.e (by omega) (by omega) (by omega) (by omega);have g6:=@d1X s.f t.f m.f a.f (by omega) (by omega) (by omega) (by omega);simp only[KH,paW];omega
theorem f4w(un:Int)(s t m a:W6)(hm:m.ok)(ha:a.ok):(pick un s t m a).ok:=by
 unfold pick;split
 ·split
  ·exact hm
  ·exact ha
 ·split
  ·exact f4P s t m a hm ha
  ·exact ha
theorem d9V(un:Int)(s:W6){asked out:List W6}(ha:∀w∈asked,w.ok)(ho:∀w∈out,w.ok)(hl:asked.length=out.length):∀i,i<=out.length->∀w∈apN un s asked out i,w.ok
 | 0,_=>ho
 | i+1,hi=>by
  have ih:=d9V un s ha ho hl i (by omega);intro w hw;rcases QU hw with hw|rfl
  ·exact ih w hw
  ·obtain⟨m,hm⟩:=a0S (show i<(apN un s asked out i).length by rw[c2q];omega)
   obtain⟨a,ha'⟩:=a0S (show i<asked.length by omega);rw[c3J hm,c3J ha'];exact f4w _ _ _ _ _ (ih m (Qt hm)) (ha a (Qt ha'))
theorem e9F{w:W6}(h:w.ok):a4o w=0:=by unfold a4o;rw[XT h]
theorem d4r:∀l:List W6,a8y 6 l.length (l.map XW).flatten=sM (l.map XW)
 | []=>rfl
 | w::l=>by
  have ih:=d4r l;rw[Qe,Qw,Q9,a8y,Xh (d1S w),Xk (d1S w),XT ⟨by simp[d1S],rfl⟩,ih];rfl
section
variable (σ:List MO)(n:Nat)(un:Int)(s:W6)(v0 v1:PV)(l0 l1:List W6)
def d2Z(σ:List MO)(v0 v1 v:PV)(q N j:Int):PEnv:={i:=[q,N,j],b:=[],v:=[v0,v1,v],m:=σ,k:=σ.length}
theorem e5G(v:PV)(l:List W6)(hv:BRd σ v l)(hok:∀w∈l,w.ok)(hl:l.length<=8)(hn:1<=n)(q:Int):∀d j,j+d=l.length->∀fuel,a3k.loop (a0a Tab n) (fuel+d) 0 (d2Z σ v0 v1 v q (l.length:Int) (j:Int))=a3k.loop (a0a Tab n) fuel 0 (d2Z σ v0 v1 v q (l.length:Int) (l.length:Int)):=by
 intro d
 induction d with
 | zero=>intro j hj fuel;rw[show j=l.length by omega];rfl
 | succ d ih =>
  intro j hj fuel;obtain⟨w,hw⟩:=a0S (show j<l.length by omega);have hd:ltB (j:Int) (l.length:Int)=tt:=by rw[a0U];omega
  obtain⟨L,hL⟩:=hv.rd j w hw;obtain⟨q1,q2⟩:=hL 0 6 (by decide);have k1:=a5x σ w n hn;rw[e9F (hok w (Qt hw))] at k1;simp only[pv6] at k1;have hup:=a2N (show j<=1000000000 by omega);have ih:=ih (j+1) (by omega) fuel;rw[a1o] at ih;rw[<- ih,show fuel+(d+1)=fuel+d+1 from rfl,Kb,show a3k.loops[0]?=sM a5v from rfl];have e0:eqB 0 0=tt:=rfl;simp only[Q0,d2Z,a5v,↓reduceIte,K1,XX,XY,XV,PEnv.at,Q3,Q5,Q7,Qb,a0H,Qq,Q9,Qa,Nat.reduceAdd,Q2,QH,QA,a0c,a0w,a0m,Q1,Q0,K3,Q6,Q4,XZ,XU,Ke,Qd,Qg,Qe,Qh,hd,le0,hv.len,q1,q2,pv6,Qq,k1,e0,XT hup]
theorem e8L(hp:1<=un/\un<=3)(hs:s.ok)(h0:BRd σ v0 l0)(h1:BRd σ v1 l1)(k0:∀w∈l0,w.ok)(k1:∀w∈l1,w.ok)(hl:l0.length=l1.length)(h8:l0.length<=8)(hn:30<=n) :
  a0a Tab n 88 [.int .i64 un,.agg s.pv,v0,v1] σ=sM (.int .i64 0,σ):=by
 obtain⟨n,rfl⟩:=a0L n (by omega);have c1:=a5x σ s n (by omega);rw[e9F hs] at c1;simp only[pv6] at c1;have e0:eqB 0 0=tt:=rfl;have e1:ltB un 1=ff:=by rw[a0G];omega
 have e2:ltB 3 un=ff:=by rw[a0G];omega
 have e3:eqB (l0.length:Int) (l1.length:Int)=tt:=by rw[a9e,hl]
 have e4:ltB 8 (l0.length:Int)=ff:=by rw[a0G];omega
 have nx:∀fuel,a3k.loop (a0a Tab n) (fuel+1) 0 (d2Z σ v0 v1 v0 0 (l0.length:Int) (l0.length:Int))=a3k.loop (a0a Tab n) fuel 0 (d2Z σ v0 v1 v1 1 (l1.length:Int) 0):=fun fuel=>by
  have hd:ltB (l0.length:Int) (l0.length:Int)=ff:=by rw[a0G];omega
  have e7:ltB 1 2=tt:=rfl;have e8:eqB 1 1=tt:=rfl;have hup:=a1K (z:=1) (by omega);rw[Kb,show a3k.loops[0]?=sM a5v from rfl];simp only[Q0,d2Z,a5v,↓reduceIte,a0e,a0h,a0s,XX,XY,XV,PEnv.at,Q3,Q5,Q7,Qb,Q2,Q1,Q0,XZ,XU,Ke,Qd,Qe,Qh,hd,Int.zero_add,XT hup,e7,e8,h1.kind,h1.len]
 have fi:∀fuel,a3k.loop (a0a Tab n) (fuel+1) 0 (d2Z σ v0 v1 v1 1 (l1.length:Int) (l1.length:Int))=sM (.int .i64 0,σ):=fun fuel=>by
  have hd:ltB (l1.length:Int) (l1.length:Int)=ff:=by rw[a0G];omega
  have e7:ltB 2 2=ff:=rfl;have hup:=a1K (z:=2) (by omega);rw[Kb,show a3k.loops[0]?=sM a5v from rfl];simp only[Q0,d2Z,a5v,↓reduceIte,a0j,a0e,a0h,XX,XY,XV,Q3,Q5,Q2,Q1,Q0,XU,Qd,hd,Int.reduceAdd,XT hup,e7,a0n,Kc]
 have key:a3k.loop (a0a Tab n) n 0 (d2Z σ v0 v1 v0 0 (l0.length:Int) 0)=sM (.int .i64 0,σ):=by
  have a1:=e5G σ n v0 v1 v0 l0 h0 k0 h8 (by omega) 0 l0.length 0 (by omega) (n-l0.length);rw[show n-l0.length+l0.length=n by omega] at a1;have a2:=e5G σ n v0 v1 v1 l1 h1 k1 (by omega) (by omega) 1 l1.length 0 (by omega) (n-l0.length-1-l1.length);rw[show n-l0.length-1-l1.length+l1.length=n-l0.length-1 by omega] at a2;have a3:=nx (n-l0.length-1);have a4:=fi (n-l0.length-1-l1.length-1);rw[show n-l0.length-1+1=n-l0.length by omega] at a3;rw[show n-l0.length-1-l1.length-1+1=n-l0.length-1-l1.length by omega] at a4;exact a1.trans (a3.trans (a2.trans a4))
 rw[a0a];simp only[d3P,Q0,Ka,pv6];show ((a0i [.sh (.one _),.sh (.agg [_,_,_,_,_,_]),.sh (.one _),.sh (.one _)] _).bind _)=_;simp only[a0i,a0m,a0c,Q1,Q0,Q8,Q4,Q6,K5,h0.one,h1.one];show (K1 _ b8J _).bind _=_;simp only[b8J,↓reduceIte,a0j,a0e,a0h,a0A,a0s,XX,XY,XV,PEnv.at,Q3,Q5,Q7,Qb,Q2,a0c,a0w,a0m,Q1,Q0,K3,Q6,Q4,XZ,XU,Ke,Qg,Qe,Qh,e1,e2,h0.kind,h1.kind,h0.len,h1.len,e3,e4,c1,e0];exact key
end
section
variable (σ:List MO)(n:Nat)(un:Int)(s:W6)(hb:Nat)(R:Nat->Prop)(v1:PV)(bf ak:List W6)
def aoM(σ:List MO)(out:List W6):List MO:=σ++[.row (out.map XW) 6 51]
theorem e1b(σ:List MO)(out:List W6):(aoM σ out)[σ.length]?=sM (.row (out.map XW) 6 51):=by simp[aoM]
theorem f0M(σ:List MO)(out:List W6):BRd (aoM σ out) (.rsl σ.length out.length 6) out:=BSl.rd (R:=fun _=>True) (.inr ⟨σ.length,trivial,rfl,e1b σ out⟩)
def e4B(σ:List MO)(un N i:Int)(s:W6)(out:List W6)(v1:PV):PEnv:={i:=[un,N,i,s.a,s.b,s.c,s.d,s.e,s.f],b:=[],v:=[.rsl σ.length out.length 6,v1],m:=aoM σ out,k:=σ.length}
theorem e2r(σ:List MO)(out:List W6){i:Nat}(w:W6):(aoM σ out).set σ.length (.row ((out.map XW).set i w.pv) 6 51)=aoM σ (out.set i w):=by
 unfold aoM;rw[XN _ _ (Qm _),Xb,Xj,Xp]
theorem f4t(hp:1<=un/\un<=3)(hs:s.ok)(h1:BSl σ R v1 ak)(out:List W6)(hl:ak.length=out.length)(h8:out.length<=8)(ka:∀w∈ak,w.ok)(ko:∀w∈out,w.ok)(hn:40<=n){i:Nat}(hi:i<out.length)(fuel:Nat) :
  a5a.loop (a0a Tab n) (fuel+1) 0 (e4B σ un (ak.length:Int) (i:Int) s out v1)=a5a.loop (a0a Tab n) fuel 0 (e4B σ un (ak.length:Int) ((i:Int)+1) s (out.set i (pick un s (a0Z out) (wa out i) (wa ak i))) v1):=by
 obtain⟨a,ha⟩:=a0S (show i<ak.length by omega);obtain⟨m,hm⟩:=a0S hi
 have g1:BRd (aoM σ out) v1 ak:=by
  rcases h1 with ⟨h,hR,rfl,hh⟩|⟨h,hR,rfl,hh⟩
  ·exact BSl.rd (R:=R) (.inl ⟨h,hR,rfl,by unfold aoM;rw[Qr (Qp.1 hh).1];exact hh⟩)
  ·exact BSl.rd (R:=R) (.inr ⟨h,hR,rfl,by unfold aoM;rw[Qr (Qp.1 hh).1];exact hh⟩)
 have g2:=f0M σ out;have hd:ltB (i:Int) (ak.length:Int)=tt:=by rw[a0U];omega
 have hd2:ltB (i:Int) (out.length:Int)=tt:=by rw[a0U];omega
 obtain⟨L1,hL1⟩:=g1.rd i a ha;obtain⟨L2,hL2⟩:=g2.rd i m hm;obtain⟨q1,q2⟩:=hL1 0 6 (by decide);obtain⟨r1,r2⟩:=hL2 0 6 (by decide);have hak:=ka a (Qt ha);have hmk:=ko m (Qt hm);have c1:=f2v (aoM σ out) _ out g2 ko h8 n (by omega);have tsm:=d0J ko h8;have c2:=e5k (aoM σ out) n s (a0Z out) m a (hs.sm.mono (by decide)) (tsm.mono (by decide)) (hmk.sm.mono (by decide)) (hak.sm.mono (by decide)) (by omega);have c3:=e9y (aoM σ out) n s (a0Z out) m a (hs.sm.mono (by decide)) (tsm.mono (by decide)) (hmk.sm.mono (by decide)) (hak.sm.mono (by decide)) (by omega);have hup:=a2N (show i<=1000000000 by omega);simp only[pv6] at c1 c2 c3;have e5:=a3l;have hre:=c3u (h:=σ.length) (sz:=6) (off:=0) hi;have hL20:L2 0=.elt σ.length out.length i 6 0:=Option.some.inj (r1.symm.trans hre);rw[hL20] at r2;have hrow:(out.map XW)[i]?=sM m.pv:=by rw[QS,hm];rfl
 have st:∀w:W6,(6<=m.pv.length/\[KD .i64 w.a,.int .i64 w.b,.int .i64 w.c,.int .i64 w.d,.int .i64 w.e,.int .i64 w.f].all Kg=tt):=fun w=>⟨by simp[pv6],rfl⟩
 have hset:∀w:W6,(aoM σ out).set σ.length (.row ((out.map XW).set i (a3Y m.pv 0 [KD .i64 w.a,.int .i64 w.b,.int .i64 w.c,.int .i64 w.d,.int .i64 w.e,.int .i64 w.f])) 6 51)=aoM σ (out.set i w):=fun w=>e2r σ out w
 have hself:out.set i m=out:=by
  apply X1;intro j;rw[Xv];split
  ·rename_i h;subst h;first|exact hm.symm|(rw[XT hi];exact hm.symm)
  ·rfl
 have hlen:∀w:W6,(out.set i w).length=out.length:=fun w=>Qs
 have hol:(out.map XW).length=out.length:=QL ..
 rw[c3J ha,c3J hm,Kb,show a5a.loops[0]?=sM a8K from rfl];unfold pick;have hgt:=e1b σ out;simp only[e4B];simp only[Q0,a8K,↓reduceIte,K1,XX,XY,XV,PEnv.at,Q3,Q5,Q7,Qb,a0H,Qq,Q9,Qa,Nat.reduceAdd,QH,QA,a0c,a0w,a0m,Q1,Q0,K3,Q6,Q4,Q8,XZ,XU,Ke,Qd,Qe,Qh,hd,le0,g1.len,g2.len,q1,q2,pv6,Qq,c1,e5];obtain rfl|rfl|rfl:un=1\/un=2\/un=3:=by omega
 ·simp only[↓reduceIte,Nat.reduceAdd,Q2,Q0,Qd,Int.reduceEq,Kr,hd2,hre,hgt,hol,Kq,hrow,Q0,XT (st a),hset a,hlen,XT hup]
 ·simp only[↓reduceIte,Q3,Q5,Qq,Nat.reduceAdd,QH,QA,a0c,Q1,Q0,Q4,Qd,Kp,hd2,hre,r2,pv6,Qq,c2]
  cases hq:rfW s (a0Z out) m a with
  | true =>
   simp only[↓reduceIte,Q0,XT hup,hself]
  | false =>
   simp only[↓reduceIte,Q2,Q0,Q2,hgt,hol,Kq,hrow,Q0,XT (st a),hset a,hlen,XT hup]
 ·simp only[↓reduceIte,Q3,Q5,Qq,Nat.reduceAdd,Q2,QH,QA,a0c,Q1,Q0,Q6,Q4,Qd,Int.reduceEq,Kr,Kp,hd2,hre,r2,pv6,Qq,c3,]
  simp only[↓reduceIte,Q0,hgt,hol,Kq,hrow,Q0,XT (st (paW s (a0Z out) m a)),hset (paW s (a0Z out) m a),hlen,XT hup]
end
theorem d2g(F:List PV->List MO->Option (PV×List MO))(Φ:Fns)(n:Nat)(a:List PV)(σ:List MO):Ka Φ (⟨[],.stuck,[],sM F,nn⟩:Sx.Sys) n a σ=F a σ:=rfl
section
variable (σ:List MO)(n:Nat)(un:Int)(s:W6)(hb:Nat)(R:Nat->Prop)(v1:PV)(bf ak:List W6)
theorem f1e(hh:σ[hb]?=sM (.cells (bf.map XW).flatten 51))(hp:0<bf.length)(h8:bf.length<=8)(hn:1<=n) :
  a0a Tab n 89 [.msl hb 0 bf.length bf.length 6] σ=sM (.rsl σ.length bf.length 6,aoM σ bf):=by
 obtain⟨n,rfl⟩:=a0L n (by omega);rw[a0a,show Tab 89=sM a3m from b4Q,Q0,a3m,d2g];unfold d9v;simp only[hh];rw[XT (by refine⟨?_,?_,?_,?_⟩<;>first|trivial|omega),Qq,d4r];rfl
theorem f3C(hp:1<=un/\un<=3)(hs:s.ok)(h1:BSl σ R v1 ak)(hl:ak.length=bf.length)(h8:bf.length<=8)(ka:∀w∈ak,w.ok)(kb:∀w∈bf,w.ok)(hn:40<=n):∀d i,i+d=bf.length->∀fuel,
  a5a.loop (a0a Tab n) (fuel+d+1) 0 (e4B σ un (ak.length:Int) (i:Int) s (apN un s ak bf i) v1)=sM (.tup [.rsl σ.length bf.length 6,.int .i64 0],aoM σ (apW un s bf ak)):=by
 intro d
 induction d with
 | zero =>
  intro i hi fuel;rw[QM] at hi;subst hi;have hd:ltB (bf.length:Int) (bf.length:Int)=ff:=by rw[a0G];omega
  rw[Kb,show a5a.loops[0]?=sM a8K from rfl];simp only[Q0,e4B,a8K,↓reduceIte,a0j,a0e,XX,XY,XV,Q3,Q5,Q7,Q2,Q1,Q0,XZ,XU,hd,a0n,Kf,apW,hl,c2q]
 | succ d ih =>
  intro i hi fuel;have hlen:=c2q un s ak bf i;have st:=f4t σ n un s R v1 ak hp hs h1 (apN un s ak bf i) (by rw[hlen,hl]) (by omega) ka (d9V un s ka kb hl i (by omega)) hn (i:=i) (by omega) (fuel+d+1);have ih:=ih (i+1) (by omega) fuel;rw[a1o] at ih;rw[show fuel+(d+1)+1=fuel+d+1+1 from rfl,st];exact ih
theorem e8H(hh:σ[hb]?=sM (.cells (bf.map XW).flatten 51))(hp:1<=un/\un<=3)(hs:s.ok)(h1:BSl σ R v1 ak)(hl:ak.length=bf.length)(h0:0<bf.length)(h8:bf.length<=8)(ka:∀w∈ak,w.ok)(kb:∀w∈bf,w.ok)(hn:60<=n) :
  a0a Tab n 58 [.int .i64 un,.agg s.pv,.msl hb 0 bf.length bf.length 6,v1] σ=sM (.tup [.rsl σ.length bf.length 6,.int .i64 0],aoM σ (apW un s bf ak)):=by
 obtain⟨n,rfl⟩:=a0L n (by omega);have g0:BRd σ (.msl hb 0 bf.length bf.length 6) bf:=BSl.rd (R:=fun _=>True) (.inl ⟨hb,trivial,rfl,hh⟩);have g1:=h1.rd;have c1:=e8L σ n un s _ v1 bf ak hp hs g0 g1 kb ka hl.symm h8 (by omega);have c2:=f1e σ n hb bf hh h0 h8 (by omega);have key:=f3C σ n un s R v1 bf ak hp hs h1 hl h8 ka kb (by omega) bf.length 0 (by omega) (n-bf.length-1);rw[show n-bf.length-1+bf.length+1=n by omega] at key;simp only[pv6] at c1 c2;have e0:eqB 0 0=tt:=rfl;have one1:Kg (.msl hb 0 bf.length bf.length 6)=tt:=rfl;have one2:Kg (.rsl σ.length bf.length 6)=tt:=rfl;rw[a0a];simp only[d3X,Q0,Ka,pv6];show ((a0i [.sh (.one _),.sh (.agg [_,_,_,_,_,_]),.sh (.one _),.sh (.one _)] _).bind _)=_;simp only[a0i,a0m,a0c,Q1,Q0,Q8,Q4,Q6,K5,g1.one,one1];show (K1 _ b8x _).bind _=_;simp only[b8x,↓reduceIte,a0j,a0e,a0h,a0A,a0s,XX,XY,XV,PEnv.at,Q3,Q5,Q7,Qb,Q2,a0c,a0w,a0m,Q1,Q0,K3,Q6,Q4,XZ,XU,Ke,Qg,Qe,Qh,c1,e0,c2,one2,g1.kind,g1.len];exact key
end
section
variable (σ:List MO)(v:PV)(l:List W6)(hv:BRd σ v l)(hok:∀w∈l,w.ok)(hl:l.length<=8)(n:Nat)
def e9W(σ:List MO)(v:PV)(i:Int)(t:W6):PEnv:={i:=[i,t.a,t.b,t.c,t.d,t.e,t.f],b:=[],v:=[v],m:=σ,k:=σ.length}
include hv hok hl in
theorem f3X:∀d i,i+d=l.length->∀(t:W6),t.sm (4*i)->∀fuel,d+1<=fuel ->
  a6g.loop (a0a Tab n) fuel 0 (e9W σ v (i:Int) t)=sM (.agg ((l.drop i).foldl b4v t).pv,σ):=by
 intro d
 induction d with
 | zero =>
  intro i hi t ht fuel hf;obtain⟨fuel,rfl⟩:=a0L fuel (by omega);have hd:ltB (i:Int) (l.length:Int)=ff:=by rw[a0G];omega
  rw[Xd (by omega),Kb,show a6g.loops[0]?=sM a7k from rfl];simp only[Q0,e9W,a7k,↓reduceIte,a0j,a0e,a0h,XX,XY,XV,PEnv.at,Q3,Q5,Q2,Q1,Q0,XZ,XU,hv.kind,hv.len,hd,a0n,Kc,XL,pv6]
 | succ d ih =>
  intro i hi t ht fuel hf;obtain⟨fuel,rfl⟩:=a0L fuel (by omega);obtain⟨w,hw⟩:=a0S (show i<l.length by omega);have hd:ltB (i:Int) (l.length:Int)=tt:=by rw[a0U];omega
  obtain⟨L,hL⟩:=hv.rd i w hw;obtain⟨a0,b0⟩:=hL 0 1 (by decide);obtain⟨a1,b1⟩:=hL 1 1 (by decide);obtain⟨a2,b2⟩:=hL 2 1 (by decide);obtain⟨a3,b3⟩:=hL 3 1 (by decide);obtain⟨a4,b4⟩:=hL 4 1 (by decide);obtain⟨a5,b5⟩:=hL 5 1 (by decide);have b0:∀is bs vs k,a0x {i:=is,b:=bs,v:=vs,m:=σ,k:=k} ff 1 (L 0)=sM [.int .i64 w.a]:=b0;have b1:∀is bs vs k,a0x {i:=is,b:=bs,v:=vs,m:=σ,k:=k} ff 1 (L 1)=sM [.int .i64 w.b]:=b1;have b2:∀is bs vs k,a0x {i:=is,b:=bs,v:=vs,m:=σ,k:=k} ff 1 (L 2)=sM [.int .i64 w.c]:=b2;have b3:∀is bs vs k,a0x {i:=is,b:=bs,v:=vs,m:=σ,k:=k} ff 1 (L 3)=sM [.int .i64 w.d]:=b3;have b4:∀is bs vs k,a0x {i:=is,b:=bs,v:=vs,m:=σ,k:=k} ff 1 (L 4)=sM [.int .i64 w.e]:=b4;have b5:∀is bs vs k,a0x {i:=is,b:=bs,v:=vs,m:=σ,k:=k} ff 1 (L 5)=sM [.int .i64 w.f]:=b5;have hwk0:=(hok w (Qt hw)).sm;have ht0:=ht;have hwk:=hwk0;have ht':=d4N ht hwk;simp only[W6.sm] at ht ht' hwk;simp only[b4v] at ht';have ih:=ih (i+1) (by omega) (b4v t w) ((d4N (a:=4*(i:Int)) ht0 hwk0).mono (by omega)) fuel (by omega);have hdr:l.drop i=w::l.drop (i+1):=by rw[Xq (by omega),(Qp.1 hw).2]
  rw[hdr,Xs];rw[Kb,show a6g.loops[0]?=sM a7k from rfl];have hup:=a2N (show i<=1000000000 by omega);simp only[e9W,b4v,a1o] at ih;simp only[Q0,e9W,a7k,↓reduceIte,K1,XX,XY,XV,PEnv.at,Q3,Q5,Q7,a0H,Q9,Qa,Nat.reduceAdd,a0c,Q1,Q0,K3,Q6,Q4,XZ,XU,Ke,Qd,Qe,Qh,hv.kind,hd,le0,hv.len,a0,a1,a2,a3,a4,a5,b0,b1,b2,b3,b4,b5,XT hup,XT (a1K (z:=t.a+w.a) (by omega)),XT (a1K (z:=t.b+w.b) (by omega)),XT (a1K (z:=t.c+w.c) (by omega)),XT (a1K (z:=t.d+w.d) (by omega)),XT (a1K (z:=t.e+w.e) (by omega)),XT (a1K (z:=t.f+w.f) (by omega))];exact ih
include hv hok hl in
theorem e4z(hn:20<=n):a0a Tab n 127 [v] σ=sM (.agg (a0Z l).pv,σ):=by
 obtain⟨n,rfl⟩:=a0L n (by omega);have key:=f3X σ v l hv hok hl n l.length 0 (by omega) w0 (by simp[W6.sm,w0]) n (by omega);rw[a0a];simp only[d0d,Q0,Ka];show ((a0i [.sh (.one _)] _).bind _)=_;simp only[a0i,a0m,a0c,Q1,Q0,Q8,K5,hv.one];show (K1 _ b4T _).bind _=_;simp only[b4T,a0s,XV,Q7,Q1,Q0,XZ,XU,Ke,Qe,Qh];exact key
end
section
variable (σ:List MO)(v:PV)(l:List W6)(hv:BRd σ v l)(hok:∀w∈l,w.ok)(hl:l.length<=8)(n:Nat)(s a:W6)(hs:s.ok)(ha:a.ok){i:Nat}{m:W6}(hm:l[i]?=sM m)
def e1s(σ:List MO)(v:PV)(i k:Int)(s a t:W6):PEnv:={i:=[i,k,s.a,s.b,s.c,s.d,s.e,s.f,a.a,a.b,a.c,a.d,a.e,a.f,t.a,t.b,t.c,t.d,t.e,t.f],b:=[],v:=[v],m:=σ,k:=σ.length}
def c2A(σ:List MO)(v:PV)(i k:Int)(s a t x:W6):PEnv:={i:=[i,k,s.a,s.b,s.c,s.d,s.e,s.f,a.a,a.b,a.c,a.d,a.e,a.f,t.a,t.b,t.c,t.d,t.e,t.f,x.a,x.b,x.c,x.d,x.e,x.f],b:=[],v:=[v],m:=σ,k:=σ.length}
theorem f5v(s t n a:Int):rfI s t n a=(ltB 0 (n-a)&&ltB (t-(n-a)) s):=by
 unfold rfI;have e6:=a4X;simp only[e6]
 congr 1<;>congr 1<;>exact propext (by omega)
theorem f5m{s t n x:Int}(h1:x<n)(h2:t-(n-x)<s):paI s t n (x+1)=paI s t n x:=by
 unfold paI mnI mxI
 repeat' split
 all_goals omega
theorem e2i{s t n x:Int}(h:¬x<n\/¬t-(n-x)<s):paI s t n x=x:=by
 unfold paI mnI mxI
 repeat' split
 all_goals omega
theorem f5c{α:Type}(s t n a:Int)(x y:α):(if rfI s t n a=tt then x else y)=if decide (0<n-a)=tt then(if decide (t-(n-a)<s)=tt then x else y) else y:=by
 rw[f5v];have e6:=a4X;rw[e6,e6];cases decide (0<n-a)<;>rfl
theorem BRd.six{σ:List MO}{v:PV}{l:List W6}(h:BRd σ v l){i:Nat}{w:W6}(hw:l[i]?=sM w):∃L:Nat->Sx.Loc,a4f (i:Int) 6 0 v=sM (L 0)/\a4f (i:Int) 6 1 v=sM (L 1)/\a4f (i:Int) 6 2 v=sM (L 2)/\a4f (i:Int) 6 3 v=sM (L 3)/\a4f (i:Int) 6 4 v=sM (L 4)/\a4f (i:Int) 6 5 v=sM (L 5)/\∀(is:List Int) (bs:List Bool) (vs:List PV) (k:Nat),a0x {i:=is,b:=bs,v:=vs,m:=σ,k:=k} ff 1 (L 0)=sM [.int .i64 w.a]/\a0x {i:=is,b:=bs,v:=vs,m:=σ,k:=k} ff 1 (L 1)=sM [.int .i64 w.b]/\a0x {i:=is,b:=bs,v:=vs,m:=σ,k:=k} ff 1 (L 2)=sM [.int .i64 w.c]/\a0x {i:=is,b:=bs,v:=vs,m:=σ,k:=k} ff 1 (L 3)=sM [.int .i64 w.d]/\a0x {i:=is,b:=bs,v:=vs,m:=σ,k:=k} ff 1 (L 4)=sM [.int .i64 w.e]/\a0x {i:=is,b:=bs,v:=vs,m:=σ,k:=k} ff 1 (L 5)=sM [.int .i64 w.f]:=by
 obtain⟨L,hL⟩:=h.rd i w hw;have q:=fun j (hj:j+1<=6)=>hL j 1 hj
 exact⟨L,(q 0 (by decide)).1,(q 1 (by decide)).1,(q 2 (by decide)).1,(q 3 (by decide)).1,(q 4 (by decide)).1,(q 5 (by decide)).1,fun is bs vs k=>⟨(q 0 (by decide)).2 is bs vs k,(q 1 (by decide)).2 is bs vs k,(q 2 (by decide)).2 is bs vs k,(q 3 (by decide)).2 is bs vs k,(q 4 (by decide)).2 is bs vs k,(q 5 (by decide)).2 is bs vs k⟩⟩
def rrP(σ:List MO)(v:PV)(n i:Nat)(s a m:W6)(I J:Int)(F:W6->Int):Prop:=∀(t:W6),t.sm 100->∀fuel,a3c.loop (a0a Tab n) (fuel+1) 0 (e1s σ v (i:Int) I s a t)=if rfI (F s) (F t) (F m) (F a)=tt then sM (.bool tt,σ) else a3c.loop (a0a Tab n) fuel 0 (e1s σ v (i:Int) J s a t)
def rpP(σ:List MO)(v:PV)(n i:Nat)(s a m:W6)(I J:Int)(F:W6->Int)(U:W6->Int->W6):Prop:=∀(t:W6),t.sm 100->∀x:W6,0<=F x->F x<=4->∀fuel,a1z.loop (a0a Tab n) (fuel+1) 1 (c2A σ v (i:Int) I s a t x)=if decide (F x<F m)=tt then(if decide (F t-(F m-F x)<F s)=tt then a1z.loop (a0a Tab n) fuel 1 (c2A σ v (i:Int) I s a t (U x (F x+1))) else a1z.loop (a0a Tab n) fuel 0 (c2A σ v (i:Int) J s a t x)) else a1z.loop (a0a Tab n) fuel 0 (c2A σ v (i:Int) J s a t x)
include hv hs ha hm hok in
theorem f4k:rrP σ v n i s a m 0 1 Kw/\rrP σ v n i s a m 1 2 Kx/\rrP σ v n i s a m 2 3 Ky/\rrP σ v n i s a m 3 4 Kz/\rrP σ v n i s a m 4 5 KA/\rrP σ v n i s a m 5 6 KB:=by
 have e5:=a3l;have e6:=a4X;have hmk:=hok m (Qt hm);simp only[KH] at hs ha hmk;obtain⟨L,a0,a1,a2,a3,a4,a5,b⟩:=hv.six hm;have hd:decide ((i:Int)<(l.length:Int))=tt:=dT0 (by have:=(Qp.1 hm).1;omega);refine⟨?_,?_,?_,?_,?_,?_⟩ <;>
 ·intro t ht fuel
  simp only[W6.sm] at ht;rw[Kb,show a3c.loops[0]?=sM a5E from rfl,f5c];simp only[e1s];simp -implicitDefEqProofs (disch:=omega) only[Q0,a5E,↓reduceIte,K1,XX,XY,XV,PEnv.at,Q3,Q5,Q7,a0H,Q9,Qa,Nat.reduceAdd,Q2,a0c,Q1,Q0,K3,Q6,Q4,XZ,XU,Ke,Qd,Qe,Qh,e5,e6,Int.reduceEq,Int.reduceLT,Kp,Kr,le0,hv.len,hd,a0,a1,a2,a3,a4,a5,b,c7i,a0n,Kc]
  (repeat' split)<;>rfl
set_option maxHeartbeats 4000000 in
include hv hs ha hm hok in
theorem f4n:rpP σ v n i s a m 0 1 Kw (fun x z=>{x with a:=z})/\rpP σ v n i s a m 1 2 Kx (fun x z=>{x with b:=z})/\rpP σ v n i s a m 2 3 Ky (fun x z=>{x with c:=z})/\rpP σ v n i s a m 3 4 Kz (fun x z=>{x with d:=z})/\rpP σ v n i s a m 4 5 KA (fun x z=>{x with e:=z})/\rpP σ v n i s a m 5 6 KB (fun x z=>{x with f:=z}):=by
 have e5:=a3l;have e6:=a4X;have hmk:=hok m (Qt hm);simp only[KH] at hs ha hmk;obtain⟨L,a0,a1,a2,a3,a4,a5,b⟩:=hv.six hm;have hd:decide ((i:Int)<(l.length:Int))=tt:=dT0 (by have:=(Qp.1 hm).1;omega);refine⟨?_,?_,?_,?_,?_,?_⟩ <;>
 ·intro t ht x h0 h4 fuel
  simp only[W6.sm] at ht;rw[Kb,show a1z.loops[1]?=sM b0Q from rfl];simp only[c2A];simp -implicitDefEqProofs (disch:=omega) only[Q0,b0Q,↓reduceIte,K1,XX,XY,XV,PEnv.at,Q3,Q5,Q7,a0H,Q9,Qa,Nat.reduceAdd,Q2,a0c,Q1,Q0,K3,Q6,Q4,XZ,XU,Ke,Qd,Qe,Qh,e5,e6,Int.reduceEq,Kp,Kr,le0,hv.len,hd,a0,a1,a2,a3,a4,a5,b,c7i]
  (repeat' split)<;>rfl
theorem f5T{I J:Int}{F:W6->Int}{U:W6->Int->W6}(hP:rpP σ v n i s a m I J F U)(hF:∀x z,F (U x z)=z)(hU:∀x y z,U (U x y) z=U x z)(hI:∀x,U x (F x)=x)(t:W6)(ht:t.sm 100):∀(d:Nat) (x:W6),F m-F x<=d->0<=F x->F x<=4->F m<=4->∀fuel,d+2<=fuel->∃fuel',fuel<=fuel'+d+1 /\
  a1z.loop (a0a Tab n) fuel 1 (c2A σ v (i:Int) I s a t x)=a1z.loop (a0a Tab n) fuel' 0 (c2A σ v (i:Int) J s a t (U x (paI (F s) (F t) (F m) (F x)))):=by
 intro d
 induction d with
 | zero =>
  intro x hx h0 h4 hm4 fuel hf;obtain⟨fuel,rfl⟩:=a0L fuel (by omega);have hn:¬F x<F m:=by omega
  refine⟨fuel,by omega,?_⟩;rw[e2i (.inl hn),hP t ht x h0 h4,hI,K4 (by simpa using hn)]
 | succ d ih =>
  intro x hx h0 h4 hm4 fuel hf;obtain⟨fuel,rfl⟩:=a0L fuel (by omega);by_cases hn:F x<F m
  ·by_cases hc:F t-(F m-F x)<F s
   ·obtain⟨fuel',g1,g2⟩:=ih (U x (F x+1)) (by rw[hF];omega) (by rw[hF];omega) (by rw[hF];omega) hm4 fuel (by omega)
    refine⟨fuel',by omega,?_⟩;rw[hF,hU,f5m hn hc] at g2;rw[<- g2,hP t ht x h0 h4,XT (dT0 hn),XT (dT0 hc)]
   ·refine⟨fuel,by omega,?_⟩
    rw[e2i (.inr hc),hP t ht x h0 h4,hI,XT (dT0 hn),K4 (by simpa using hc)]
  ·refine⟨fuel,by omega,?_⟩
   rw[e2i (.inl hn),hP t ht x h0 h4,hI,K4 (by simpa using hn)]
theorem d0C{I J:Int}{F:W6->Int}{U:W6->Int->W6}(hP:rpP σ v n i s a m I J F U)(hF:∀x z,F (U x z)=z)(hU:∀x y z,U (U x y) z=U x z)(hI:∀x,U x (F x)=x)(h6:ltB I 6=tt)(h0:0<=F a)(h4:F a<=4)(hm0:0<=F m)(hm4:F m<=4)(ov:v.one=tt)(t:W6)(ht:t.sm 100)(x:W6)(hx:F x=F a)(fuel:Nat)(hf:8<=fuel):∃fuel',fuel<=fuel'+6 /\
  a1z.loop (a0a Tab n) fuel 0 (c2A σ v (i:Int) I s a t x)=a1z.loop (a0a Tab n) fuel' 0 (c2A σ v (i:Int) J s a t (U x (paI (F s) (F t) (F m) (F a)))):=by
 obtain⟨fuel,rfl⟩:=a0L fuel (by omega);obtain⟨fuel',g1,g2⟩:=f5T σ v n s a hP hF hU hI t ht 4 x (by omega) (by omega) (by omega) hm4 fuel (by omega);refine⟨fuel',by omega,?_⟩;rw[hx] at g2;rw[<- g2,Kb,show a1z.loops[0]?=sM a5V from rfl];simp only[Q0,c2A,a5V,↓reduceIte,a0e,a0s,XX,XY,XV,Q3,Q5,Q7,Q1,Q0,XZ,XU,Ke,Qe,Qh,h6]
include hv hs ha hm hok hl in
theorem e4s(hn:30<=n):a0a Tab n 109 [.agg s.pv,v,.int .i64 (i:Int),.agg a.pv] σ=sM (.bool (rfW s (a0Z l) m a),σ):=by
 obtain⟨n,rfl⟩:∃k,n=k+8:=⟨n-8,by omega⟩;have tsm:=(d0J hok hl).mono (show (32:Int)<=100 by decide);have c1:=e4z σ v l hv hok hl (n+7) (by omega);simp only[pv6] at c1
 have fin:∀fuel,a3c.loop (a0a Tab (n+7)) (fuel+1) 0 (e1s σ v (i:Int) 6 s a (a0Z l))=sM (.bool ff,σ):=fun fuel=>by
  have e6:ltB 6 6=ff:=rfl;rw[Kb,show a3c.loops[0]?=sM a5E from rfl];simp only[Q0,e1s,a5E,↓reduceIte,a0j,a0e,XX,XY,XV,Q3,Q5,Q2,Q1,Q0,XU,e6,a0n,Kc]
 have key:a3c.loop (a0a Tab (n+7)) (n+7) 0 (e1s σ v (i:Int) 0 s a (a0Z l))=sM (.bool (rfW s (a0Z l) m a),σ):=by
  obtain⟨s0,s1,s2,s3,s4,s5⟩:=f4k σ v l hv hok (n+7) s a hs ha hm;rw[s0 _ tsm (n+6),s1 _ tsm (n+5),s2 _ tsm (n+4),s3 _ tsm (n+3),s4 _ tsm (n+2),s5 _ tsm (n+1),fin n];unfold rfW
  repeat' split
  all_goals simp_all
 rw[a0a];simp only[c5e,Q0,Ka,pv6];show ((a0i [.sh (.agg [_,_,_,_,_,_]),.sh (.one _),.sh (.one _),.sh (.agg [_,_,_,_,_,_])] _).bind _)=_;simp only[a0i,a0m,a0c,Q1,Q0,Q8,Q4,Q6,K5,hv.one];show (K1 _ b0N _).bind _=_;simp only[b0N,↓reduceIte,a0A,a0s,XV,Q3,Q5,Q7,a0c,a0w,a0m,Q1,Q0,K3,Q6,Q4,XZ,XU,Ke,Qe,Qh,c1];exact key
include hv hs ha hm hok hl in
theorem e5A(hn:60<=n):a0a Tab n 110 [.agg s.pv,v,.int .i64 (i:Int),.agg a.pv] σ=sM (.agg (paW s (a0Z l) m a).pv,σ):=by
 obtain⟨n,rfl⟩:=a0L n (by omega);have tsm:=(d0J hok hl).mono (show (32:Int)<=100 by decide);have c1:=e4z σ v l hv hok hl n (by omega);simp only[pv6] at c1
 have fin:∀(x:W6) fuel,1<=fuel->a1z.loop (a0a Tab n) fuel 0 (c2A σ v (i:Int) 6 s a (a0Z l) x)=sM (.agg x.pv,σ):=fun x fuel hf=>by
  obtain⟨fuel,rfl⟩:=a0L fuel (by omega);have e6:ltB 6 6=ff:=rfl;rw[Kb,show a1z.loops[0]?=sM a5V from rfl];simp only[Q0,c2A,a5V,↓reduceIte,a0j,a0e,XX,XY,XV,Q3,Q5,Q2,Q1,Q0,XZ,XU,e6,pv6,a0n,Kc]
 have key:a1z.loop (a0a Tab n) n 0 (c2A σ v (i:Int) 0 s a (a0Z l) a)=sM (.agg (paW s (a0Z l) m a).pv,σ):=by
  obtain⟨s0,s1,s2,s3,s4,s5⟩:=f4n σ v l hv hok n s a hs ha hm;have hmk:=hok m (Qt hm);have ha':=ha;simp only[KH] at ha' hmk;have ov:=hv.one;obtain⟨f0,x0,y0⟩:=d0C σ v n s a s0 (fun _ _=>rfl) (fun _ _ _=>rfl) (fun _=>rfl) rfl (by omega) (by omega) (by omega) (by omega) ov _ tsm a rfl n (by omega);obtain⟨f1,x1,y1⟩:=d0C σ v n s a s1 (fun _ _=>rfl) (fun _ _ _=>rfl) (fun _=>rfl) rfl (by omega) (by omega) (by omega) (by omega) ov _ tsm ⟨paI s.a (a0Z l).a m.a a.a,a.b,a.c,a.d,a.e,a.f⟩ rfl f0 (by omega);obtain⟨f2,x2,y2⟩:=d0C σ v n s a s2 (fun _ _=>rfl) (fun _ _ _=>rfl) (fun _=>rfl) rfl (by omega) (by omega) (by omega) (by omega) ov _ tsm ⟨paI s.a (a0Z l).a m.a a.a,paI s.b (a0Z l).b m.b a.b,a.c,a.d,a.e,a.f⟩ rfl f1 (by omega);obtain⟨f3,x3,y3⟩:=d0C σ v n s a s3 (fun _ _=>rfl) (fun _ _ _=>rfl) (fun _=>rfl) rfl (by omega) (by omega) (by omega) (by omega) ov _ tsm ⟨paI s.a (a0Z l).a m.a a.a,paI s.b (a0Z l).b m.b a.b,paI s.c (a0Z l).c m.c a.c,a.d,a.e,a.f⟩ rfl f2 (by omega);obtain⟨f4,x4,y4⟩:=d0C σ v n s a s4 (fun _ _=>rfl) (fun _ _ _=>rfl) (fun _=>rfl) rfl (by omega) (by omega) (by omega) (by omega) ov _ tsm ⟨paI s.a (a0Z l).a m.a a.a,paI s.b (a0Z l).b m.b a.b,paI s.c (a0Z l).c m.c a.c,paI s.d (a0Z l).d m.d a.d,a.e,a.f⟩ rfl f3 (by omega);obtain⟨f5,x5,y5⟩:=d0C σ v n s a s5 (fun _ _=>rfl) (fun _ _ _=>rfl) (fun _=>rfl) rfl (by omega) (by omega) (by omega) (by omega) ov _ tsm ⟨paI s.a (a0Z l).a m.a a.a,paI s.b (a0Z l).b m.b a.b,paI s.c (a0Z l).c m.c a.c,paI s.d (a0Z l).d m.d a.d,paI s.e (a0Z l).e m.e a.e,a.f⟩ rfl f4 (by omega);exact y0.trans (y1.trans (y2.trans (y3.trans (y4.trans (y5.trans (fin _ f5 (by omega)))))))
 rw[a0a];simp only[c6m,Q0,Ka,pv6];show ((a0i [.sh (.agg [_,_,_,_,_,_]),.sh (.one _),.sh (.one _),.sh (.agg [_,_,_,_,_,_])] _).bind _)=_;simp only[a0i,a0m,a0c,Q1,Q0,Q8,Q4,Q6,K5,hv.one];show (K1 _ b2f _).bind _=_;simp only[b2f,↓reduceIte,a0A,a0s,XV,Q3,Q5,Q7,a0c,a0w,a0m,Q1,Q0,K3,Q6,Q4,XZ,XU,Ke,Qe,Qh,c1];exact key
end
theorem e6U(k:Nat)(look:Nat->Option MO)(l:List W6):PV.frzss k look (l.map XW)=sM (l.map XW) :=
 PV.frzss_low _ (b1X k l 0) fun r hr=>by obtain⟨w,_,rfl⟩:=Xn.1 hr;rfl
theorem f3x{σ:List MO}(hσ:Low σ)(l:List W6)(is:List Int)(bs:List Bool)(vs:List PV)(e:Int) :
  a0n {i:=is,b:=bs,v:=vs,m:=aoM σ l,k:=σ.length} ff (.tup [.rsl σ.length l.length 6,.int .i64 e])=sM (.tup [.sl 6 (l.map XW),.int .i64 e],σ):=by
 have h1:¬(σ.length+1=σ.length):=by omega
 have h2:¬σ.length<σ.length:=by omega
 have hl:List.all σ (KK σ.length)=tt:=hσ;simp[a0n,aoM,hl,PV.frz,PV.frzs,a6e,KG,e6U]
section
variable (σ:List MO)(n:Nat)(un:Int)(s:W6)(v0 v1:PV)(bf ak:List W6)
def d5N(σ:List MO)(un j:Int)(s:W6)(v0 v1 v2:PV):PEnv:={i:=[un,j,s.a,s.b,s.c,s.d,s.e,s.f],b:=[],v:=[v0,v1,v2],m:=σ,k:=σ.length}
def d2y(σ:List MO)(un i:Int)(s:W6)(v1:PV)(out:List W6):PEnv:={i:=[un,i,s.a,s.b,s.c,s.d,s.e,s.f],b:=[],v:=[v1,.rsl σ.length out.length 6],m:=aoM σ out,k:=σ.length}
theorem f2N(al:List W6)(hok:∀w∈al,w.ok)(hl:al.length<=100)(hn:1<=n):∀d j,j+d=al.length->∀fuel,a1I.loop (a0a Tab n) (fuel+d) 0 (d5N σ un (j:Int) s v0 v1 (.sl 6 (al.map XW)))=a1I.loop (a0a Tab n) fuel 0 (d5N σ un (al.length:Int) s v0 v1 (.sl 6 (al.map XW))):=by
 have hv:BRd σ (.sl 6 (al.map XW)) al:=BRd.plain (a1x _ _);intro d
 induction d with
 | zero=>intro j hj fuel;rw[show j=al.length by omega];rfl
 | succ d ih =>
  intro j hj fuel;obtain⟨w,hw⟩:=a0S (show j<al.length by omega);have hd:ltB (j:Int) (al.length:Int)=tt:=by rw[a0U];omega
  obtain⟨L,hL⟩:=hv.rd j w hw;obtain⟨q1,q2⟩:=hL 0 6 (by decide);have k1:=b7l σ w n hn;rw[e9F (hok w (Qt hw))] at k1;simp only[pv6] at k1;have hup:=a2N (show j<=1000000000 by omega);have ih:=ih (j+1) (by omega) fuel;rw[a1o] at ih;have hk:=hv.kind;have hle:=hv.len;generalize (PV.sl 6 (al.map XW))=V at *
  rw[<- ih,show fuel+(d+1)=fuel+d+1 from rfl,Kb,show a1I.loops[0]?=sM a6l from rfl];have e0:eqB 0 0=tt:=rfl;simp only[Q0,d5N,a6l,↓reduceIte,K1,XX,XY,XV,PEnv.at,Q3,Q5,Q7,Qb,a0H,Qq,Q9,Qa,Nat.reduceAdd,Q2,QH,QA,a0c,a0w,a0m,Q1,Q0,K3,Q6,Q4,XZ,XU,Ke,Qd,Qg,Qe,Qh,hd,le0,hk,hle,q1,q2,pv6,Qq,k1,e0,XT hup]
theorem f3I(hp:1<=un/\un<=3)(hs:s.ok)(h1:v1.rowsOf 6=sM (ak.map XW))(out:List W6)(hl:ak.length=out.length)(h8:out.length<=8)(ka:∀w∈ak,w.ok)(ko:∀w∈out,w.ok)(hn:70<=n){i:Nat}(hi:i<out.length)(fuel:Nat) :
  a1I.loop (a0a Tab n) (fuel+1) 1 (d2y σ un (i:Int) s v1 out)=a1I.loop (a0a Tab n) fuel 1 (d2y σ un ((i:Int)+1) s v1 (out.set i (pick un s (a0Z out) (wa out i) (wa ak i)))):=by
 obtain⟨a,ha⟩:=a0S (show i<ak.length by omega);obtain⟨m,hm⟩:=a0S hi;have g1:BRd (aoM σ out) v1 ak:=.plain h1;have g2:=f0M σ out;have hd:ltB (i:Int) (ak.length:Int)=tt:=by rw[a0U];omega
 have hd2:ltB (i:Int) (out.length:Int)=tt:=by rw[a0U];omega
 obtain⟨L1,hL1⟩:=g1.rd i a ha;obtain⟨q1,q2⟩:=hL1 0 6 (by decide);have hak:=ka a (Qt ha);have hmk:=ko m (Qt hm);have c2:=e4s (aoM σ out) _ out g2 ko h8 n s a hs hak hm (by omega);have c3:=e5A (aoM σ out) _ out g2 ko h8 n s a hs hak hm (by omega);have hup:=a2N (show i<=1000000000 by omega);simp only[pv6] at c2 c3;have e5:=a3l;have hre:=c3u (h:=σ.length) (sz:=6) (off:=0) hi;have hrow:(out.map XW)[i]?=sM m.pv:=by rw[QS,hm];rfl
 have st:∀w:W6,(6<=m.pv.length/\[KD .i64 w.a,.int .i64 w.b,.int .i64 w.c,.int .i64 w.d,.int .i64 w.e,.int .i64 w.f].all Kg=tt):=fun w=>⟨by simp[pv6],rfl⟩
 have hset:∀w:W6,(aoM σ out).set σ.length (.row ((out.map XW).set i (a3Y m.pv 0 [KD .i64 w.a,.int .i64 w.b,.int .i64 w.c,.int .i64 w.d,.int .i64 w.e,.int .i64 w.f])) 6 51)=aoM σ (out.set i w):=fun w=>e2r σ out w
 have hall:∀w:W6,[KD .i64 w.a,.int .i64 w.b,.int .i64 w.c,.int .i64 w.d,.int .i64 w.e,.int .i64 w.f].all Kg=tt:=fun _=>rfl
 have hset2:∀w:W6,(aoM σ out).set σ.length (.row ((out.map XW).set i (a3Y [KD .i64 m.a,.int .i64 m.b,.int .i64 m.c,.int .i64 m.d,.int .i64 m.e,.int .i64 m.f] 0 [KD .i64 w.a,.int .i64 w.b,.int .i64 w.c,.int .i64 w.d,.int .i64 w.e,.int .i64 w.f])) 6 51)=aoM σ (out.set i w):=fun w=>e2r σ out w
 have hself:out.set i m=out:=by
  apply X1;intro j;rw[Xv];split
  ·rename_i h;subst h;first|exact hm.symm|(rw[XT hi];exact hm.symm)
  ·rfl
 have hlen:∀w:W6,(out.set i w).length=out.length:=fun w=>Qs
 have hol:(out.map XW).length=out.length:=QL ..
 have one2:Kg (.rsl σ.length out.length 6)=tt:=rfl;rw[c3J ha,c3J hm,Kb,show a1I.loops[1]?=sM a6p from rfl];unfold pick;have hgt:=e1b σ out;simp only[d2y];simp only[Q0,a6p,↓reduceIte,K1,XX,XY,XV,PEnv.at,Q3,Q5,Q7,Qb,a0H,Q9,Qa,Nat.reduceAdd,a0w,a0m,Q1,Q0,K3,Q6,Q4,XZ,XU,Ke,Qd,Qe,Qh,g2.kind,g2.len,hd2,e5];obtain rfl|rfl|rfl:un=1\/un=2\/un=3:=by omega
 ·simp only[↓reduceIte,Q3,Q5,Qq,Q9,Qa,Nat.reduceAdd,Qm,QH,QA,a0c,Q1,Q0,Qd,Int.reduceEq,Kp,hd,le0,g1.len,q1,q2,pv6,Qq,hre,hgt,hol,Kq,hrow,Q0,KM,hall a,hset2 a,hlen,XT hup]
 ·simp only[↓reduceIte,Q3,Q5,Qq,Q2,QH,QA,a0c,Q1,Q0,Q6,Q4,Qd,Int.reduceEq,Kr,Kp,hd,le0,g1.len,q1,q2,pv6,Qq,c2]
  cases hq:rfW s (a0Z out) m a with
  | true =>
   simp only[↓reduceIte,Q2,Q0,Qg,XT hup,hself]
  | false =>
   simp only[↓reduceIte,Q9,Qa,Nat.reduceAdd,Qm,Q2,Q0,Qn,Q2,pv6,hre,hgt,hol,Kq,hrow,Q0,hall a,hset2 a,hlen,XT hup]
 ·simp only[↓reduceIte,Q3,Q5,Qq,Q2,QH,QA,a0c,Q1,Q0,Q6,Q4,Qd,Int.reduceEq,Kr,Kp,hd,le0,g1.len,q1,q2,pv6,Qq,c3,]
  simp only[↓reduceIte,Nat.reduceAdd,Q0,hre,hgt,hol,Kq,hrow,Q0,XT (st (paW s (a0Z out) m a)),hset (paW s (a0Z out) m a),hlen,XT hup]
theorem f1Z(hσ:Low σ)(hp:1<=un/\un<=3)(hs:s.ok)(h1:v1.rowsOf 6=sM (ak.map XW))(hl:ak.length=bf.length)(h8:bf.length<=8)(ka:∀w∈ak,w.ok)(kb:∀w∈bf,w.ok)(hn:70<=n):∀d i,i+d=bf.length->∀fuel,
  a1I.loop (a0a Tab n) (fuel+d+1) 1 (d2y σ un (i:Int) s v1 (apN un s ak bf i))=sM (.tup [.sl 6 ((apW un s bf ak).map XW),.int .i64 0],σ):=by
 intro d
 induction d with
 | zero =>
  intro i hi fuel;rw[QM] at hi;subst hi;have hd:ltB (bf.length:Int) (bf.length:Int)=ff:=by rw[a0G];omega
  have hlen:=c2q un s ak bf bf.length;have hr:=fun is bs vs=>f3x hσ (apN un s ak bf bf.length) is bs vs 0
  rw[hlen] at hr;have g2:KN 0 (.rsl σ.length bf.length 6)=tt:=rfl;have g3:PV.len (.rsl σ.length bf.length 6)=(bf.length:Int):=rfl;rw[Kb,show a1I.loops[1]?=sM a6p from rfl];simp only[Q0,d2y,a6p,↓reduceIte,a0j,a0e,a0h,XX,XY,XV,PEnv.at,Q3,Q5,Q7,Qb,Q2,Q1,Q0,XZ,XU,hlen,g2,g3,hd,hr,apW,hl]
 | succ d ih =>
  intro i hi fuel;have hlen:=c2q un s ak bf i;have st:=f3I σ n un s v1 ak hp hs h1 (apN un s ak bf i) (by rw[hlen,hl]) (by omega) ka (d9V un s ka kb hl i (by omega)) hn (i:=i) (by omega) (fuel+d+1);have ih:=ih (i+1) (by omega) fuel;rw[a1o] at ih;rw[show fuel+(d+1)+1=fuel+d+1+1 from rfl,st];exact ih
theorem e9w(hσ:Low σ)(hp:1<=un/\un<=3)(hs:s.ok)(h0:BRd σ v0 bf)(hr0:v0.rowsOf 6=nn)(hr1:v0.rowsAt σ 6=sM (bf.map XW))(h1:v1.rowsOf 6=sM (ak.map XW))(hl:ak.length=bf.length)(hb0:0<bf.length)(h8:bf.length<=8)(ka:∀w∈ak,w.ok)(kb:∀w∈bf,w.ok)(hn:140<=n) :
  a0a Tab n 73 [.int .i64 un,.agg s.pv,v0,v1] σ=sM (.tup [.sl 6 ((apW un s bf ak).map XW),.int .i64 0],σ):=by
 obtain⟨n,rfl⟩:=a0L n (by omega);obtain⟨g1,g2,g3⟩:=a0b h1;rw[QL] at g1;have e1:ltB un 1=ff:=by rw[a0G];omega
 have e2:ltB 3 un=ff:=by rw[a0G];omega
 have e3:eqB (bf.length:Int) (ak.length:Int)=tt:=by rw[a9e,hl]
 have e4:ltB 8 (bf.length:Int)=ff:=by rw[a0G];omega
 have e5:eqB (bf.length:Int) 0=ff:=by rw[a9W];omega
 have key1:=f1Z σ n un s v1 bf ak hσ hp hs h1 hl h8 ka kb (by omega) bf.length 0 (by omega) (n-(1+bf.length+ak.length)-1-bf.length-1)
 have hal:∀w∈(s::bf)++ak,w.ok:=fun w hw=>by
  rcases Xw.1 hw with hw|hw
  ·rcases List.mem_cons.1 hw with rfl|hw
   ·exact hs
   ·exact kb w hw
  ·exact ka w hw
 have hal2:((s::bf)++ak).length=1+bf.length+ak.length:=by simp;omega
 have key0:=f2N σ n un s v0 v1 ((s::bf)++ak) hal (by omega) (by omega) ((s::bf)++ak).length 0 (by omega) (n-(1+bf.length+ak.length));rw[hal2,show n-(1+bf.length+ak.length)+(1+bf.length+ak.length)=n by omega] at key0;have hrows:(((s::bf)++ak).map XW)=s.pv::bf.map XW++ak.map XW:=by simp
 have mid:∀fuel,a1I.loop (a0a Tab n) (fuel+1) 0 (d5N σ un ((1+bf.length+ak.length:Nat):Int) s v0 v1 (.sl 6 (((s::bf)++ak).map XW)))=a1I.loop (a0a Tab n) fuel 1 (d2y σ un 0 s v1 bf):=fun fuel=>by
  have hv:BRd σ (.sl 6 (((s::bf)++ak).map XW)) ((s::bf)++ak):=BRd.plain (a1x _ _);have hk:=hv.kind;have hle:=hv.len;rw[hal2] at hle;generalize (PV.sl 6 (((s::bf)++ak).map XW))=V at *
  have hd:ltB ((1+bf.length+ak.length:Nat):Int) ((1+bf.length+ak.length:Nat):Int)=ff:=by rw[a0G];omega
  have hne:¬bf.length=0:=by omega
  have hle6:bf.length<=1000000:=by omega
  rw[Kb,show a1I.loops[0]?=sM a6l from rfl];simp only[Q0,d5N,d2y,a6l,↓reduceIte,a0e,a0h,a2w,a0s,XX,XY,XV,PEnv.at,Q3,Q5,Q7,Qb,Q2,Q1,Q0,Q6,Q4,XZ,XU,Ke,Qe,Qh,a1O,hk,hle,hd,h0.kind,h0.len,e5,hr0,hr1,QL,XT hle6,K4 hne,aoM]
 have key:a1I.loop (a0a Tab n) n 0 (d5N σ un 0 s v0 v1 (.sl 6 (s.pv::bf.map XW++ak.map XW)))=sM (.tup [.sl 6 ((apW un s bf ak).map XW),.int .i64 0],σ):=by
  rw[<- hrows];have m:=mid (n-(1+bf.length+ak.length)-1);rw[show n-(1+bf.length+ak.length)-1+1=n-(1+bf.length+ak.length) by omega] at m;rw[show n-(1+bf.length+ak.length)-1-bf.length-1+bf.length+1=n-(1+bf.length+ak.length)-1 by omega] at key1;exact key0.trans (m.trans key1)
 rw[a0a];simp only[c7P,Q0,Ka,pv6];show ((a0i [.sh (.one _),.sh (.agg [_,_,_,_,_,_]),.sh (.one _),.sh (.one _)] _).bind _)=_;simp only[a0i,a0m,a0c,Q1,Q0,Q8,Q4,Q6,K5,h0.one,g3];show (K1 _ b2y _).bind _=_;have r0:(0:Nat)+1<=1000000:=by decide
 have r1:([s.pv]:List (List PV)).length+(bf.map XW).length<=1000000:=by simp;omega
 have r2:([s.pv]++bf.map XW).length+(ak.map XW).length<=1000000:=by simp;omega
 simp only[b2y,↓reduceIte,a0e,a0h,a2j,a0s,XX,XY,XV,PEnv.at,Q3,Q5,Q7,Qb,Q9,Qa,Nat.reduceAdd,Q2,Q1,Q0,Q6,Q4,XZ,XU,Ke,Qg,Qe,Qh,a1O,X2,X3,X4,X5,e1,e2,h0.kind,g2,h0.len,g1,e3,e4,hr0,hr1,h1,a1x,XT r0];simp only[pv6] at r1 r2 key;rw[XT (by simp;omega),XT (by simp;omega)];exact key
end
theorem a7a(h:Nat):KN 4 (.ref h 0)=tt:=rfl
theorem a5f(h:Nat):KN 1 (.ref h 0)=tt:=rfl
theorem b3G(h:Nat):Kg (.ref h 0)=tt:=rfl
theorem a6S(h:Nat):PV.isNil (.ref h 0)=ff:=rfl
theorem a6T(h:Nat):PV.nilOk (.ref h 0)=tt:=rfl
theorem f5D(h n sz:Nat):KN 0 (.msl h 0 n n sz)=tt:=rfl
theorem c4e(h n sz:Nat):PV.len (.msl h 0 n n sz)=(n:Int):=rfl
theorem b4E(h n sz:Nat):Kg (.msl h 0 n n sz)=tt:=rfl
section
variable {s:St}{o:Po}{σ:List MO}{h:Nat}{vcl:PV}{ha hb hd:Nat}{R:Nat->Prop}{c:Ck}(k:CkAt s o σ h vcl ha hb hd R c)(n:Nat)
include k in
theorem d5a(hn:1<=n):a0a Tab n 14 [.ref h 0] σ=sM (.agg c.p.pv,σ):=by
 obtain⟨n,rfl⟩:=a0L n (by omega);have hob:=k.obj;have r0:=a7q hob;have r01:=a7n hob;have r4:=a6Y hob;have r6:=a6W hob;have r7:=a7p hob;have r8:=a7y hob;have r9:=a7c hob;have r15:=a5N hob;have r16:=a5H hob;have r17:=a5s hob;have r18:=a5R hob;rw[a0a];simp only[c9G,Q0,Ka];show ((a0i [.sh (.one _)] _).bind _)=_;simp only[a0i,a0m,a0c,Q1,Q0,Q8,K5,b3G];show (K1 _ b3u _).bind _=_;simp only[b3u,↓reduceIte,K1,XX,XY,XV,PEnv.at,Q3,Q5,Q7,a0H,a2p,Q9,Qa,Nat.reduceAdd,Q2,a0c,Q1,Q0,K3,Q6,Q4,XZ,XU,a7a,a5f,a6S,a6T,Qf,r9,a0n,Kc,pv6]
include k in
theorem d7A(hn:1<=n):a0a Tab n 15 [.ref h 0] σ=sM (.int .i64 (c.cl.length:Int),σ):=by
 obtain⟨n,rfl⟩:=a0L n (by omega);have hob:=k.obj;have r0:=a7q hob;have r01:=a7n hob;have r4:=a6Y hob;have r6:=a6W hob;have r7:=a7p hob;have r8:=a7y hob;have r9:=a7c hob;have r15:=a5N hob;have r16:=a5H hob;have r17:=a5s hob;have r18:=a5R hob;have hc:=k.cl.rd;rw[a0a];simp only[d1G,Q0,Ka];show ((a0i [.sh (.one _)] _).bind _)=_;simp only[a0i,a0m,a0c,Q1,Q0,Q8,K5,b3G];show (K1 _ b4N _).bind _=_;simp only[b4N,↓reduceIte,K1,XX,XY,XV,PEnv.at,Q3,Q5,Q7,a0H,a2p,Q9,Qa,Q2,a0c,Q1,Q0,K3,Q6,Q4,XU,a7a,a5f,a6S,a6T,Qf,r8,hc.one,hc.kind,hc.len,a0n,Kc]
include k in
theorem d9N(hn:1<=n):a0a Tab n 16 [.ref h 0] σ=sM (.bool c.over,σ):=by
 obtain⟨n,rfl⟩:=a0L n (by omega);have hob:=k.obj;have r0:=a7q hob;have r01:=a7n hob;have r4:=a6Y hob;have r6:=a6W hob;have r7:=a7p hob;have r8:=a7y hob;have r9:=a7c hob;have r15:=a5N hob;have r16:=a5H hob;have r17:=a5s hob;have r18:=a5R hob;rw[a0a];simp only[d3k,Q0,Ka];show ((a0i [.sh (.one _)] _).bind _)=_;simp only[a0i,a0m,a0c,Q1,Q0,Q8,K5,b3G];show (K1 _ b5V _).bind _=_;simp only[b5V,↓reduceIte,K1,XX,XY,PEnv.at,Q3,Q7,a0H,a2p,Q9,Qa,Q2,a0c,Q1,Q0,K3,Q6,Q4,XU,Qn,a7a,a5f,a6S,a6T,Qf,r18,a0n,Kc]
include k in
theorem d4u(i:Int)(hn:1<=n):a0a Tab n 53 [.ref h 0,.int .i64 i] σ=sM (.bool (c.has i),σ):=by
 obtain⟨n,rfl⟩:=a0L n (by omega);have hob:=k.obj;have r0:=a7q hob;have r01:=a7n hob;have r4:=a6Y hob;have r6:=a6W hob;have r7:=a7p hob;have r8:=a7y hob;have r9:=a7c hob;have r15:=a5N hob;have r16:=a5H hob;have r17:=a5s hob;have r18:=a5R hob;rw[a0a];simp only[d3Y,Q0,Ka];show ((a0i [.sh (.one _),.sh (.one _)] _).bind _)=_;simp only[a0i,a0m,a0c,Q1,Q0,Q8,Q4,K5,b3G];show (K1 _ b8G _).bind _=_;unfold Ck.has;simp only[b8G,↓reduceIte,K1,XX,XY,XV,PEnv.at,Q3,Q5,Q7,a0H,a2p,Q9,Qa,Nat.reduceAdd,Q0,K3,Q6,Q4,XU,];cases leB 0 i<;>simp only[↓reduceIte,Q3,Q2,a0c,Q1,Q0,a5f,r17,b4E,f5D,c4e,a0n,Kc,Qz,QB]
def f1P(σ:List MO)(i N j:Int)(O V:PV):PEnv:={i:=[i,N,j],b:=[],v:=[O,V],m:=σ,k:=σ.length}
include k in
theorem f3Q(hl:c.cl.length<=100){i:Nat}(hi:∀r∈c.cl,i<r.ask.length):∀d j,j+d=c.cl.length->∀(O:PV),O.rowsOf 12=sM (((c.cl.take j).map fun r=>(⟨r.p,wa r.ask i⟩:Ch)).map KJ)->∀fuel,d+1<=fuel ->
  ∃L,a4q.loop (a0a Tab n) fuel 0 (f1P σ (i:Int) (c.cl.length:Int) (j:Int) O vcl)=sM (L,σ)/\L.rowsOf 12=sM ((c.chs i).map KJ):=by
 have hc:=k.cl.rd;intro d
 induction d with
 | zero =>
  intro j hj O hO fuel hf;obtain⟨fuel,rfl⟩:=a0L fuel (by omega);obtain rfl:j=c.cl.length:=by omega
  have hd:ltB (c.cl.length:Int) (c.cl.length:Int)=ff:=by rw[a0G];omega
  refine⟨O,?_,by rw[XP] at hO;exact hO⟩;rw[Kb,show a4q.loops[0]?=sM a6q from rfl];simp only[Q0,f1P,a6q,↓reduceIte,a0j,a0e,XX,XY,XV,Q3,Q5,Q7,Q2,Q1,Q0,XU,hd,a0n,Kc]
 | succ d ih =>
  intro j hj O hO fuel hf;obtain⟨fuel,rfl⟩:=a0L fuel (by omega);obtain⟨r,hr⟩:=a0S (show j<c.cl.length by omega);obtain⟨row,hrow,hrd⟩:=hc.rd j r hr;obtain⟨a,g,b,rfl,ba,bg,bb⟩:=hrow;obtain⟨L,q1,q2⟩:=hrd 0 9 (by decide);have q2:∀is bs vs k,a0x {i:=is,b:=bs,v:=vs,m:=σ,k:=k} ff 9 L=sM [.int .i64 r.p.a,.int .i64 r.p.b,.int .i64 r.p.c,.int .i64 r.p.d,.int .i64 r.p.e,.int .i64 r.p.f,a,g,b]:=q2;have hir:=hi r (Qt hr);obtain⟨w,hw⟩:=a0S hir;have hba:=ba.rd;obtain⟨L2,hL2⟩:=hba.rd i w hw;obtain⟨u1,u2⟩:=hL2 0 6 (by decide);have hd:ltB (j:Int) (c.cl.length:Int)=tt:=by rw[a0U];omega
  have hd2:ltB (i:Int) (r.ask.length:Int)=tt:=by rw[a0U];omega
  have hup:=a2N (show j<=1000000000 by omega);obtain⟨p1,p2,p3⟩:=a0b hO;have t1:(0:Nat)+1<=1000000:=by decide
  have t2:(((c.cl.take j).map fun r=>(⟨r.p,wa r.ask i⟩:Ch)).map KJ).length+1<=1000000:=by simp;omega
  obtain⟨L',e1,e2⟩:=ih (j+1) (by omega) (.sl 12 (((c.cl.take j).map fun r=>(⟨r.p,wa r.ask i⟩:Ch)).map KJ++[(⟨r.p,w⟩:Ch).row])) (by
   rw[a1x,XQ,hr,Option.toList_some,XR,XR,Qe,Qe,Qh,Qh,c3J hw]) fuel (by omega)
  refine⟨L',?_,e2⟩;rw[<- e1,a1o,Kb,show a4q.loops[0]?=sM a6q from rfl];have oa:=ba.one;have og:=bg.one;have ob:=bb.one;generalize ((c.cl.take j).map fun r=>(⟨r.p,wa r.ask i⟩:Ch)).map KJ=RW at *
  simp only[Q0,f1P,a6q,↓reduceIte,K1,XX,XY,XV,PEnv.at,Q3,Q5,Q7,Qb,a0H,Qq,Q9,Qa,Nat.reduceAdd,QH,QA,a0c,Q1,Q0,K3,Q6,Q4,XZ,XU,Ke,Qd,Qe,Qh,a1O,X2,X3,X4,X5,hd,le0,hc.len,q1,q2,oa,og,ob,hba.len,hd2,u1,u2,pv6,Qq,hO,XT t1,a1x,XT t2,XT hup,a2T]
include k in
theorem d7t(hl:c.cl.length<=100)(hi:∀r∈c.cl,r.ask.length=c.out.length)(i:Int)(hn:110<=n):∃L,a0a Tab n 26 [.ref h 0,.int .i64 i] σ=sM (L,σ)/\L.rowsOf 12=sM ((if c.has i=tt then c.chs i.toNat else []).map KJ):=by
 obtain⟨n,rfl⟩:=a0L n (by omega);have hob:=k.obj;have r0:=a7q hob;have r01:=a7n hob;have r4:=a6Y hob;have r6:=a6W hob;have r7:=a7p hob;have r8:=a7y hob;have r9:=a7c hob;have r15:=a5N hob;have r16:=a5H hob;have r17:=a5s hob;have r18:=a5R hob;have hc:=k.cl.rd;have c1:=d4u k n i (by omega)
 skip
 have go:∀L,(K1 (a0a Tab n) a8W {i:=[i],b:=[],v:=[.ref h 0],m:=σ,k:=σ.length}).bind (fun x=>match x with|.ret r σ=>sM (r,σ)|.jump q' ρ'=>Kb (a0a Tab n) a4q n q' ρ')=sM (L,σ)->a0a Tab (n+1) 26 [.ref h 0,.int .i64 i] σ=sM (L,σ):=fun L hL=>by
  rw[a0a];simp only[c7n,Q0,Ka];show ((a0i [.sh (.one _),.sh (.one _)] _).bind _)=_;simp only[a0i,a0m,a0c,Q1,Q0,Q8,Q4,K5,b3G];exact hL
 cases hh:c.has i with
 | false =>
  refine⟨.nilS,go _ ?_,rfl⟩;rw[hh] at c1;simp only[a8W,↓reduceIte,K1,XX,XY,XV,PEnv.at,Q3,Q5,Q7,Qb,a0H,a2p,Q9,Qa,Nat.reduceAdd,Q2,a0c,a0w,a0m,Q1,Q0,K3,Q6,Q4,XZ,XU,Ke,Qn,Qe,Qh,a7a,a6S,a6T,c1,a0n,Kc]
 | true =>
  rw[hh] at c1;have hh':=hh;unfold Ck.has at hh';rw[QD,a2O,a0U] at hh';obtain⟨j,rfl⟩:∃j:Nat,i=(j:Int):=⟨i.toNat,by omega⟩;obtain⟨L,e1,e2⟩:=f3Q k n hl (i:=j) (fun r hr=>by rw[hi r hr];omega) c.cl.length 0 (by omega) .nilS rfl n (by omega);refine⟨L,go _ ?_,by rw[XT rfl,QJ];exact e2⟩;simp only[a8W,↓reduceIte,K1,XX,XY,XV,PEnv.at,Q3,Q5,Q7,Qb,a0H,a2p,Q9,Qa,Q2,a0c,a0w,a0m,Q1,Q0,K3,Q6,Q4,XZ,XU,Ke,Qg,Qe,Qh,a7a,a5f,a6S,a6T,c1,Qf,r8,hc.one,hc.kind,hc.len];exact e1
end
structure CpS (σ:List MO)(v:PV)(sz N:Nat)(cells:List PV):Prop where
 kind:v.isKind 0=tt
 one:v.one=tt
 len:v.len=(N:Int)
 src:∀(ρ:PEnv) (x:Nat) (τ:List MO),ρ.v[x]?=sM v->ρ.m=σ++τ->b0r ρ sz x=sM (N,cells)
 cl:cells.length=N*sz
 ones:cells.all Kg=tt
theorem f1L(l:List W6):(l.map XW).flatten.all Kg=tt:=by
 induction l with
 | nil=>rfl
 | cons w l ih=>rw[Qe,Qw,QX,ih];rfl
theorem f2t(l:List Bool):(l.map K9).all Kg=tt:=by
 induction l with
 | nil=>rfl
 | cons w l ih=>rw[Qe,X0,ih];rfl
theorem a3O{σ τ:List MO}{h:Nat}{x:MO}(hx:σ[h]?=sM x):(σ++τ)[h]?=sM x:=by rw[Qr (Qp.1 hx).1];exact hx
theorem BSl.cp{σ:List MO}{R:Nat->Prop}{v:PV}{l:List W6}(h:BSl σ R v l):CpS σ v 6 l.length (l.map XW).flatten:=by
 refine⟨h.rd.kind,h.rd.one,h.rd.len,fun ρ x τ hx hm=>?_,c5V l,f1L l⟩;rcases h with ⟨h,_,rfl,hh⟩|⟨h,_,rfl,hh⟩
 ·unfold b0r
  rw[hx,hm];simp only[a3O hh,K5,Q0,Kt,Qf,c5V,Qm,Qq];rw[QQ (by rw[c5V];exact Qm _)]
 ·unfold b0r
  rw[hx,hm];simp only[a3O hh,K5,Q0,KG,QL,Kq,Q1]
theorem OSl.cp{σ:List MO}{R:Nat->Prop}{v:PV}{l:List Bool}(h:OSl σ R v l):CpS σ v 1 l.length (l.map K9):=by
 obtain⟨h,_,rfl,hh⟩:=h;refine⟨rfl,rfl,rfl,fun ρ x τ hx hm=>?_,by simp,f2t l⟩;unfold b0r;rw[hx,hm];simp only[a3O hh,K5,Q0,Kt,Qf,Nat.mul_one,QL,Qm,Qq];rw[QQ (by simp)]
theorem d8y{l new:List PV}(h:new.length=l.length):a3Y l 0 new=new:=by
 unfold a3Y;rw[QA,Q4,Qf,List.drop_of_length_le (by omega),Q8]
theorem d2k(σ:List MO)(x y:MO):(σ++[x]).set σ.length y=σ++[y]:=by
 rw[XN _ _ (Qm _),Xb,Xj]
theorem e1l(N sz:Nat)(z:List PV)(hz:z.length=sz):(Qk N z).flatten.length=N*sz:=by
 induction N with
 | zero=>simp
 | succ N ih=>rw[QY,Qw,Qv,ih,hz,X7];omega
theorem a6d{σ:List MO}{v:PV}{N:Nat}{cells:List PV}(h:CpS σ v 6 N cells)(hN:N<=1000)(n:Nat)(hn:1<=n):a0a Tab n 51 [v] σ=sM (.msl σ.length 0 N N 6,σ++[.cells cells 51]):=by
 obtain⟨n,rfl⟩:=a0L n (by omega);have c1:(0:Int)<=(N:Int)/\(N:Int)<=1000000/\100<=100000000:=⟨by omega,by omega,by decide⟩;have e1:=h.src;have hgt:∀x:MO,(σ++[x])[σ.length]?=sM x:=fun x=>by simp
 have one2:Kg (.msl σ.length 0 N N 6)=tt:=rfl;rw[a0a];simp only[c3S,Q0,Ka];show ((a0i [.sh (.one _)] _).bind _)=_;simp only[a0i,a0m,a0c,Q1,Q0,Q8,K5,h.one];show (K1 _ a9G _).bind _=_;unfold a9G;rw[a0h];simp only[↓reduceIte,a2v,XX,XY,XV,PEnv.at,Q3,Q1,Q0,Q6,Q4,XZ,XU,h.kind];simp only[h.len,QJ];rw[XT (by refine⟨by omega,by omega,by decide⟩)];rw[a2X];simp only[Qb,Q7,hgt];rw[h.src _ 0 [_] rfl rfl];simp only[Q0,Xx];have hle:(Qk N ([.int .i64 0,.int .i64 0,.int .i64 0,.int .i64 0,.int .i64 0,.int .i64 0]:List PV)).flatten.length=N*6:=e1l N 6 _ rfl;rw[XT (by rw[hle];refine⟨trivial,by omega,by rw[h.cl];omega,h.ones⟩),QQ (by rw[h.cl];exact Qm _),d8y (by rw[hle,h.cl]),d2k];simp only[↓reduceIte,a0j,Q7,Qb,Q1,Q0,K3,Q4,Q8,XU,a0n,Kf]
theorem d1g{σ:List MO}{v:PV}{N:Nat}{cells:List PV}(h:CpS σ v 1 N cells)(hN:N<=1000)(n:Nat)(hn:1<=n):a0a Tab n 52 [v] σ=sM (.msl σ.length 0 N N 1,σ++[.cells cells 4]):=by
 obtain⟨n,rfl⟩:=a0L n (by omega);have c1:(0:Int)<=(N:Int)/\(N:Int)<=1000000/\100<=100000000:=⟨by omega,by omega,by decide⟩;have e1:=h.src;have hgt:∀x:MO,(σ++[x])[σ.length]?=sM x:=fun x=>by simp
 have one2:Kg (.msl σ.length 0 N N 1)=tt:=rfl;rw[a0a];simp only[d0V,Q0,Ka];show ((a0i [.sh (.one _)] _).bind _)=_;simp only[a0i,a0m,a0c,Q1,Q0,Q8,K5,h.one];show (K1 _ b4F _).bind _=_;unfold b4F;rw[a0h];simp only[↓reduceIte,a2v,XX,XY,XV,PEnv.at,Q3,Q1,Q0,Q6,Q4,XZ,XU,h.kind];simp only[h.len,QJ];rw[XT (by refine⟨by omega,by omega,by decide⟩)];rw[a2X];simp only[Qb,Q7,hgt];rw[h.src _ 0 [_] rfl rfl];simp only[Q0,Xx];have hle:(Qk N ([.bool ff]:List PV)).flatten.length=N*1:=e1l N 1 _ rfl;rw[XT (by rw[hle];refine⟨trivial,by omega,by rw[h.cl];omega,h.ones⟩),QQ (by rw[h.cl];exact Qm _),d8y (by rw[hle,h.cl]),d2k];simp only[↓reduceIte,a0j,Q7,Qb,Q1,Q0,K3,Q4,Q8,XU,a0n,Kf]
theorem c2V{σ:List MO}{v:PV}{N:Nat}{cells:List PV}(h:CpS σ v 9 N cells)(hN:N<=1000)(n:Nat)(hn:1<=n):a0a Tab n 62 [v] σ=sM (.msl σ.length 0 N N 9,σ++[.cells cells 65]):=by
 obtain⟨n,rfl⟩:=a0L n (by omega);have c1:(0:Int)<=(N:Int)/\(N:Int)<=1000000/\100<=100000000:=⟨by omega,by omega,by decide⟩;have e1:=h.src;have hgt:∀x:MO,(σ++[x])[σ.length]?=sM x:=fun x=>by simp
 have one2:Kg (.msl σ.length 0 N N 9)=tt:=rfl;rw[a0a];simp only[c3o,Q0,Ka];show ((a0i [.sh (.one _)] _).bind _)=_;simp only[a0i,a0m,a0c,Q1,Q0,Q8,K5,h.one];show (K1 _ a9f _).bind _=_;unfold a9f;rw[a0h];simp only[↓reduceIte,a2v,XX,XY,XV,PEnv.at,Q3,Q1,Q0,Q6,Q4,XZ,XU,h.kind];simp only[h.len,QJ];rw[XT (by refine⟨by omega,by omega,by decide⟩)];rw[a2X];simp only[Qb,Q7,hgt];rw[h.src _ 0 [_] rfl rfl];simp only[Q0,Xx];have hle:(Qk N ([.int .i64 0,.int .i64 0,.int .i64 0,.int .i64 0,.int .i64 0,.int .i64 0,.nilS,.nilS,.nilS]:List PV)).flatten.length=N*9:=e1l N 9 _ rfl;rw[XT (by rw[hle];refine⟨trivial,by omega,by rw[h.cl];omega,h.ones⟩),QQ (by rw[h.cl];exact Qm _),d8y (by rw[hle,h.cl]),d2k];simp only[↓reduceIte,a0j,Q7,Qb,Q1,Q0,K3,Q4,Q8,XU,a0n,Kf]
def d4Q(s:St)(o:Po)(σ:List MO)(h:Nat)(F:Nat->Prop)(c':Ck)(r:PV)(res:Option (PV×List MO)):Prop:=∃σ' F',res=sM (r,σ')/\b4z s o σ' h F' c'/\Adv σ σ' F F'
theorem b1m{s:St}{o:Po}{vcl va vb vd:PV}{p:W6}{ov:Bool}{N:Nat}:(ckO s o vcl va vb vd p ov).low N=tt↔s.P.low N=tt/\s.B.low N=tt/\s.C.low N=tt/\s.A.low N=tt/\vcl.low N=tt/\va.low N=tt/\vb.low N=tt/\vd.low N=tt:=by
 simp only[ckO,KK,ckL,Km,Kh,QD,and_true,KM]
section
variable {s:St}{o:Po}{σ:List MO}{h:Nat}{vcl:PV}{ha hb hd:Nat}{R:Nat->Prop}{c:Ck}(k:CkAt s o σ h vcl ha hb hd R c)
include k
theorem CkAt.lt:h<σ.length:=(Qp.1 k.obj).1
theorem CkAt.a_h:ha≠h:=by
 rintro rfl;have:=k.obj.symm.trans k.ask;simp[ckO] at this
theorem CkAt.b_h:hb≠h:=by
 rintro rfl;have:=k.obj.symm.trans k.bid;simp[ckO] at this
theorem CkAt.d_h:hd≠h:=by
 rintro rfl;have:=k.obj.symm.trans k.out;simp[ckO] at this
theorem CkAt.a_b:ha≠hb:=by
 rintro rfl;have:=k.ask.symm.trans k.bid;simp at this
theorem CkAt.a_d:ha≠hd:=by
 rintro rfl;have:=k.ask.symm.trans k.out;simp at this
end
def clM(σ:List MO)(h:Nat)(x:MO)(N:Nat):List MO:=σ.set h x++[.cells ((Qk N w0).map XW).flatten 51,.cells ((Qk N ff).map K9) 4]
theorem a6I(σ:List MO)(h:Nat)(x:MO)(N:Nat):(clM σ h x N).length=σ.length+2:=by simp[clM]
theorem b6l{σ:List MO}{h:Nat}(hl:h<σ.length)(x:MO)(N:Nat):(clM σ h x N)[h]?=sM x:=by
 unfold clM;rw[Qr (by rw[Qs];exact hl),QN hl]
theorem b9t{σ:List MO}{h y:Nat}(hl:y<σ.length)(hne:y≠h)(x:MO)(N:Nat):(clM σ h x N)[y]?=σ[y]?:=by
 unfold clM;rw[Qr (by rw[Qs];exact hl),Qj (Ne.symm hne)]
theorem e9P(σ:List MO)(h:Nat)(x:MO)(N:Nat):(clM σ h x N)[σ.length]?=sM (.cells ((Qk N w0).map XW).flatten 51):=by
 unfold clM;rw[QV (by rw[Qs];exact Qm _),Qs,Xb];rfl
theorem e9b(σ:List MO)(h:Nat)(x:MO)(N:Nat):(clM σ h x N)[σ.length+1]?=sM (.cells ((Qk N ff).map K9) 4):=by
 unfold clM;rw[QV (by rw[Qs];omega),Qs,show σ.length+1-σ.length=1 by omega];rfl
theorem c5Y{σ:List MO}{h:Nat}(hl:h<σ.length)(x y:MO)(N:Nat):(clM σ h x N).set h y=clM σ h y N:=by
 unfold clM;rw[Xy _ _ (by rw[Qs];exact hl),List.set_set]
section
variable {s:St}{o:Po}{σ:List MO}{h:Nat}{vcl:PV}{ha hb hd:Nat}{R:Nat->Prop}{c:Ck}(k:CkAt s o σ h vcl ha hb hd R c)(hσ:Low σ)(hN:c.out.length<=1000)
include k hσ hN
theorem e2F(n:Nat)(hn:1<=n):a0a Tab n 31 [.ref h 0] σ=sM (.tup [],clM σ h (ckO s o vcl (.msl σ.length 0 c.out.length c.out.length 6) (.msl (σ.length+1) 0 c.out.length c.out.length 1) (.msl hd 0 c.out.length c.out.length 1) c.p c.over) c.out.length):=by
 obtain⟨n,rfl⟩:=a0L n (by omega);have hob:=k.obj;rw[a0a,show Tab 31=sM a5b from c0w,Q0,a5b,d9P,d2g];unfold d4m;simp only[hob,ckO,ckL];rw[XT ⟨by omega,hσ⟩];have e1:QK XW (Qk c.out.length w0)=Qk c.out.length z6:=by rw[XS];rfl
 have e2:∀N:Nat,QK K9 (Qk N ff)=(Qk N [K9 ff]).flatten:=fun N=>by
  induction N with
  | zero=>rfl
  | succ N ih=>rw[QY,QY,Qe,Qw,ih];rfl
 unfold clM;rw[e1,e2]
theorem CkAt.cleared{vcl':PV}{cl':List Rn}{p':W6}{ov':Bool}{R':Nat->Prop}(τ:List MO)(hcl:CSl (clM σ h (ckO s o vcl' (.msl σ.length 0 c.out.length c.out.length 6) (.msl (σ.length+1) 0 c.out.length c.out.length 1) (.msl hd 0 c.out.length c.out.length 1) p' ov') c.out.length++τ) R' vcl' cl')
  (hR:∀x,R' x->x<σ.length+2+τ.length) (h1:¬R' σ.length) (h2:¬R' (σ.length+1)) (h3:¬R' hd) (h4:¬R' h) :
  CkAt s o (clM σ h (ckO s o vcl' (.msl σ.length 0 c.out.length c.out.length 6) (.msl (σ.length+1) 0 c.out.length c.out.length 1) (.msl hd 0 c.out.length c.out.length 1) p' ov') c.out.length++τ) h vcl' σ.length (σ.length+1) hd R' {cl:=cl',p:=p',ask:=c.blank.ask,bid:=c.blank.bid,out:=c.out,over:=ov'}:=by
 have hdl:=(Qp.1 k.out).1;refine⟨a3O (b6l k.lt _ _),a3O (e9P _ _ _ _),a3O (e9b _ _ _ _),a3O ?_,by simp[Ck.blank],by simp[Ck.blank],hcl,fun x hx=>by rw[Qv,a6I];exact hR x hx,h1,h2,h3,h4,by omega⟩;rw[b9t hdl k.d_h];exact k.out
theorem e0c{vcl':PV}{p':W6}{ov':Bool}(hv:vcl'.low (σ.length+2)=tt):Low (clM σ h (ckO s o vcl' (.msl σ.length 0 c.out.length c.out.length 6) (.msl (σ.length+1) 0 c.out.length c.out.length 1) (.msl hd 0 c.out.length c.out.length 1) p' ov') c.out.length):=by
 have hob:=b1m.1 (hσ.get k.obj);have up:∀{v:PV},v.low σ.length=tt->v.low (σ.length+2)=tt:=fun h=>KE (by omega) _ h
 unfold Low;rw[a6I];unfold clM;rw[QX,QD];refine⟨Qy.2 fun y hy=>?_,by simp only[X0,X9,b0o,b2d,Qd]⟩;rcases QU hy with hy|rfl
 ·exact Kv (by omega) (Qy.1 hσ y hy)
 ·exact b1m.2 ⟨up hob.1,up hob.2.1,up hob.2.2.1,up hob.2.2.2.1,hv,by simp[Kh],by simp[Kh],up hob.2.2.2.2.2.2.2⟩
end
theorem d0f{h i n c:Nat}(hi:i<n):a4f (i:Int) 1 0 (.msl h 0 n c 1)=sM (.obj h i):=by
 rw[e3K hi,Nat.mul_one]
theorem e3d{sz:Nat}:∀(rows:List (List PV)) (_:∀r∈rows,r.length=sz) (k:Nat),rows.flatten.take (k*sz)=(rows.take k).flatten
 | [],_,k=>by simp
 | r::rows,h,0=>by simp
 | r::rows,h,k+1=>by
  have h0:=h r (by simp);rw[Qw,QH,Qw,show (k+1)*sz=r.length+k*sz by rw[h0,X7];omega,XE,QQ (by omega),X8,e3d rows (fun q hq=>h q (by simp[hq])) k]
theorem e2X{rows:List (List PV)}(h:∀r∈rows,r.all Kg=tt):rows.flatten.all Kg=tt:=by
 rw[Qy];intro p hp;obtain⟨r,hr,hp⟩:=List.mem_flatten.1 hp;exact Qy.1 (h r hr) p hp
theorem c8D{sz:Nat}:∀(rows:List (List PV)) (_:∀r∈rows,r.length=sz),rows.flatten.length=rows.length*sz
 | [],_=>by simp
 | r::rows,h=>by
  rw[Qw,Qv,c8D rows (fun q hq=>h q (by simp[hq])),h r (by simp),Q9,X7];omega
theorem f5F{σ:List MO}{R:Nat->Prop}{v:PV}{cl:List Rn}(h:CSl σ R v cl){r:Nat}(hr:r<cl.length) :
  ∃p rows,v.rowsOf 9=nn/\(∀(ρ:PEnv) (e:IE),ρ.m=σ->e.pe ρ=(r:Int)->d2L ρ nn (sM e) 9 (sM v)=sM p)/\CpS σ p 9 r rows.flatten/\a4y σ R (cl.take r) rows:=by
 rcases h with ⟨rfl,rfl⟩|⟨h,rows,h1,rfl,h3,h4⟩|⟨h,rows,h1,rfl,h0,h3,h4⟩
 ·simp at hr
 ·refine⟨.msl h 0 r cl.length 9,rows.take r,rfl,fun ρ e hm he=>?_,⟨rfl,rfl,rfl,fun ρ x τ hx hm=>?_,?_,?_⟩,h4.take r⟩
  ·show (if 0<=e.pe ρ/\e.pe ρ<=(cl.length:Int)/\cl.length<=cl.length/\9=9 then sM (PV.msl h 0 (e.pe ρ).toNat cl.length 9) else nn)=_
   rw[he,XT (by omega),QJ]
  ·unfold b0r
   rw[hx,hm];have hfl:=c8D rows h4.lens;rw[h4.1] at hfl;simp only[a3O h3,K5,Q0,Kt,Qf,Qq];rw[XT (by omega),e3d rows h4.lens]
  ·rw[c8D _ (fun q hq=>h4.lens q (Xc hq)),QW,h4.1,Xe (by omega)]
  ·exact e2X fun q hq=>by obtain⟨_,_,kk⟩:=h4.mem (Xc hq);exact kk.ones
 ·refine⟨.rpl h r cl.length 9,rows.take r,rfl,fun ρ e hm he=>?_,⟨rfl,rfl,rfl,fun ρ x τ hx hm=>?_,?_,?_⟩,h4.take r⟩
  ·unfold d2L
   simp only[he,hm,h3,Q0,KG,h4.1,Kq,K5,Option.isSome_some,and_true];rw[XT (by omega),QJ]
  ·unfold b0r
   rw[hx,hm];simp only[a3O h3,Q0,KG,h4.1,Kq,K5,Q1,KM];rw[XT (by omega)]
  ·rw[c8D _ (fun q hq=>h4.lens q (Xc hq)),QW,h4.1,Xe (by omega)]
  ·exact e2X fun q hq=>by obtain⟨_,_,kk⟩:=h4.mem (Xc hq);exact kk.ones
section
variable {s:St}{o:Po}{σ:List MO}{h:Nat}{F:Nat->Prop}{c:Ck}(K:b4z s o σ h F c)(hσ:Low σ)(hN:c.out.length<=1000)(n:Nat)
include K hσ hN
theorem f3S(hn:2<=n):d4Q s o σ h F c.stop.1 (.int .i64 c.stop.2) (a0a Tab n 36 [.ref h 0] σ):=by
 obtain⟨n,rfl⟩:=a0L n (by omega);have K0:=K;obtain⟨vcl,ha,hb,hd,R,k,hF⟩:=K;have hob:=k.obj;have r0:=a7q hob;have r01:=a7n hob;have r4:=a6Y hob;have r6:=a6W hob;have r7:=a7p hob;have r8:=a7y hob;have r9:=a7c hob;have r15:=a5N hob;have r16:=a5H hob;have r17:=a5s hob;have r18:=a5R hob;have c1:=e2F k hσ hN n (by omega)
 skip
 have go:∀r,(K1 (a0a Tab n) b1p {i:=[],b:=[],v:=[.ref h 0],m:=σ,k:=σ.length}).bind (fun x=>match x with|.ret r σ=>sM (r,σ)|.jump q' ρ'=>Kb (a0a Tab n) b1u n q' ρ')=sM r->a0a Tab (n+1) 36 [.ref h 0] σ=sM r:=fun r hr=>by
  rw[a0a];simp only[d3b,Q0,Ka];show ((a0i [.sh (.one _)] _).bind _)=_;simp only[a0i,a0m,a0c,Q1,Q0,Q8,K5,b3G];exact hr
 unfold Ck.stop;cases hov:c.over with
 | true =>
  refine⟨σ,F,go _ ?_,K0,Adv.refl hσ⟩;rw[hov] at r18;simp only[b1p,↓reduceIte,K1,XX,XY,XV,PEnv.at,Q3,Q7,a0H,a2p,Q9,Qa,Nat.reduceAdd,Q2,a0c,a0w,a0m,Q1,Q0,K3,Q6,Q4,XZ,XU,a7a,a5f,a6S,a6T,Qf,r18,a0n,Kf]
 | false =>
  rw[hov] at r18 c1;refine⟨_,fun x=>x=h\/x=σ.length\/x=σ.length+1\/x=hd\/R x,go (.int .i64 0,clM σ h (ckO s o vcl (.msl σ.length 0 c.out.length c.out.length 6) (.msl (σ.length+1) 0 c.out.length c.out.length 1) (.msl hd 0 c.out.length c.out.length 1) c.p tt) c.out.length) ?_,?_,?_⟩
  ·have g:=b6l k.lt (ckO s o vcl (.msl σ.length 0 c.out.length c.out.length 6) (.msl (σ.length+1) 0 c.out.length c.out.length 1) (.msl hd 0 c.out.length c.out.length 1) c.p ff) c.out.length
   have g':=g;rw[show ∀b,ckO s o vcl (.msl σ.length 0 c.out.length c.out.length 6) (.msl (σ.length+1) 0 c.out.length c.out.length 1) (.msl hd 0 c.out.length c.out.length 1) c.p b=.cells (ckL s o vcl (.msl σ.length 0 c.out.length c.out.length 6) (.msl (σ.length+1) 0 c.out.length c.out.length 1) (.msl hd 0 c.out.length c.out.length 1) c.p b) 79 from fun _=>rfl] at g';have hs:=c5Y k.lt (ckO s o vcl (.msl σ.length 0 c.out.length c.out.length 6) (.msl (σ.length+1) 0 c.out.length c.out.length 1) (.msl hd 0 c.out.length c.out.length 1) c.p ff) (ckO s o vcl (.msl σ.length 0 c.out.length c.out.length 6) (.msl (σ.length+1) 0 c.out.length c.out.length 1) (.msl hd 0 c.out.length c.out.length 1) c.p tt) c.out.length;simp only[ckO] at c1 g' hs ⊢;have l18:18+1<=19:=by decide
   simp only[b1p,↓reduceIte,K1,XX,XY,XV,PEnv.at,Q3,Q7,a0H,a2p,Q9,Qa,Nat.reduceAdd,Qm,Q2,a0c,a0w,a0m,Q1,Q0,K3,Q6,Q4,XZ,XU,a7a,a5f,a6S,a6T,Qf,r18,c1,a1J,g',b4n,c5M,hs,a0n,Kf]
  ·refine⟨vcl,σ.length,σ.length+1,hd,R,?_,fun x=>Iff.rfl⟩
   have:=k.cleared hσ hN (vcl':=vcl) (cl':=c.cl) (p':=c.p) (ov':=tt) (R':=R) [] ?_ (fun x hx=>by have:=k.bd x hx;simp;omega) (fun hx=>by have:=k.bd _ hx;omega) (fun hx=>by have:=k.bd _ hx;omega) k.nd k.nh
   ·simpa[Ck.blank] using this
   ·refine k.cl.frame fun x hx=>?_
    rw[Q8];exact b9t (k.bd x hx) (by rintro rfl;exact k.nh hx) _ _
  ·refine⟨by rw[a6I];omega,fun x hx hn=>?_,fun x hx=>?_,?_⟩
   ·exact b9t hx (by rintro rfl;exact hn ((hF _).2 (.inl rfl))) _ _
   ·rcases hx with rfl|rfl|rfl|rfl|hx
    ·exact .inl ((hF _).2 (.inl rfl))
    ·exact .inr (Qm _)
    ·exact .inr (by omega)
    ·exact .inl ((hF _).2 (.inr (.inr (.inr (.inl rfl)))))
    ·exact .inl ((hF _).2 (.inr (.inr (.inr (.inr hx)))))
   ·exact e0c k hσ hN (KE (by omega) _ (b1m.1 (hσ.get k.obj)).2.2.2.2.1)
theorem f3H(i:Int)(hn:2<=n):d4Q s o σ h F (c.drop i).1 (.int .i64 (c.drop i).2) (a0a Tab n 37 [.ref h 0,.int .i64 i] σ):=by
 obtain⟨n,rfl⟩:=a0L n (by omega);have K0:=K;obtain⟨vcl,ha,hb,hd,R,k,hF⟩:=K;have hob:=k.obj;have r0:=a7q hob;have r01:=a7n hob;have r4:=a6Y hob;have r6:=a6W hob;have r7:=a7p hob;have r8:=a7y hob;have r9:=a7c hob;have r15:=a5N hob;have r16:=a5H hob;have r17:=a5s hob;have r18:=a5R hob;have c1:=d4u k n i (by omega)
 skip
 have go:∀r,(K1 (a0a Tab n) a8F {i:=[i],b:=[],v:=[.ref h 0],m:=σ,k:=σ.length}).bind (fun x=>match x with|.ret r σ=>sM (r,σ)|.jump q' ρ'=>Kb (a0a Tab n) b1q n q' ρ')=sM r->a0a Tab (n+1) 37 [.ref h 0,.int .i64 i] σ=sM r:=fun r hr=>by
  rw[a0a];simp only[d2r,Q0,Ka];show ((a0i [.sh (.one _),.sh (.one _)] _).bind _)=_;simp only[a0i,a0m,a0c,Q1,Q0,Q8,Q4,K5,b3G];exact hr
 unfold Ck.drop;cases hh:c.has i with
 | false =>
  refine⟨σ,F,go _ ?_,K0,Adv.refl hσ⟩;rw[hh] at c1;simp only[a8F,↓reduceIte,K1,XX,XY,XV,PEnv.at,Q3,Q5,Q7,Qb,a0H,a2p,Q9,Qa,Nat.reduceAdd,Q2,a0c,a0w,a0m,Q1,Q0,K3,Q6,Q4,XZ,XU,Qd,Qn,a7a,a6S,a6T,c1,a0n,Kf,Q2]
 | true =>
  rw[hh] at c1;have hh':=hh;unfold Ck.has at hh';rw[QD,a2O,a0U] at hh';obtain⟨j,rfl⟩:∃j:Nat,i=(j:Int):=⟨i.toNat,by omega⟩;have hj:j<c.out.length:=by omega
  obtain⟨b,hb'⟩:=a0S hj;have q1:=d0f (h:=hd) (c:=c.out.length) hj
  have q2:∀is bs vs k,a0x {i:=is,b:=bs,v:=vs,m:=σ,k:=k} ff 1 (.obj hd j)=sM [.bool b]:=fun _ _ _ _=>by
   simp only[a0x,k.out,Q0,Kt,Q2,Kn];exact d2C c.out hb'
  have hlt:ltB (j:Int) (c.out.length:Int)=tt:=by rw[a0U];omega
  rw[QJ,XT rfl,hb'];cases b with
  | true =>
   refine⟨σ,F,go _ ?_,K0,Adv.refl hσ⟩;simp only[a8F,↓reduceIte,K1,XX,XY,XV,PEnv.at,Q3,Q5,Q7,Qb,a0H,a2p,Q9,Qa,Nat.reduceAdd,Q2,a0c,a0w,a0m,Q1,Q0,K3,Q6,Q4,Q8,XZ,XU,Qd,Qg,a7a,a5f,a6S,a6T,c1,Qf,r17,b4E,c4e,le0,hlt,q1,q2,a0n,Kf]
  | false =>
   have da:=k.a_d;have ab:=k.a_b;have db:=k.nbd;have la:=k.la;have lb:=k.lb;have hdl:=(Qp.1 k.out).1;have hal:=(Qp.1 k.ask).1;have hbl:=(Qp.1 k.bid).1;refine⟨((σ.set hd (.cells ((c.out.set j tt).map K9) 4)).set ha (.cells ((c.ask.set j w0).map XW).flatten 51)).set hb (.cells ((c.bid.set j ff).map K9) 4),F,go _ ?_,?_,?_⟩
   ·have g1:=k.out
    have g2:(σ.set hd (.cells ((c.out.set j tt).map K9) 4))[ha]?=sM (.cells (c.ask.map XW).flatten 51):=by rw[Qj (Ne.symm da)];exact k.ask
    have g3:((σ.set hd (.cells ((c.out.set j tt).map K9) 4)).set ha (.cells ((c.ask.set j w0).map XW).flatten 51))[hb]?=sM (.cells (c.bid.map K9) 4):=by rw[Qj ab,Qj (Ne.symm db)];exact k.bid
    have t1:j+1<=(c.out.map K9).length:=by simp;omega
    have t2:j*6+6<=(c.ask.map XW).flatten.length:=by rw[c5V];omega
    have t3:j+1<=(c.bid.map K9).length:=by simp;omega
    have s1:=d4z c.out hj tt;have s2:a3Y (c.ask.map XW).flatten (j*6) [.int .i64 0,.int .i64 0,.int .i64 0,.int .i64 0,.int .i64 0,.int .i64 0]=((c.ask.set j w0).map XW).flatten:=d4S c.ask (by omega) w0;have s3:=d4z c.bid (i:=j) (by omega) ff;have q1a:=e3K (h:=ha) (c:=c.out.length) (sz:=6) hj;have q1b:=d0f (h:=hb) (c:=c.out.length) hj;simp only[a8F,↓reduceIte,K1,XX,XY,XV,PEnv.at,Q3,Q5,Q7,Qb,a0H,a2p,Q9,Qa,Nat.reduceAdd,Q2,a0c,a0w,a0m,Q1,Q0,K3,Q6,Q4,Q8,XZ,XU,Qd,Qg,a7a,a5f,a6S,a6T,c1,Qf,r17,r15,r16,b4E,c4e,le0,hlt,q1,q2,q1a,q1b,g1,g2,g3,XT t1,XT t2,XT t3,s1,s2,s3,a0n,Kf];rfl
   ·refine⟨vcl,ha,hb,hd,R,?_,hF⟩
    have keep:∀x,R x->(((σ.set hd (.cells ((c.out.set j tt).map K9) 4)).set ha (.cells ((c.ask.set j w0).map XW).flatten 51)).set hb (.cells ((c.bid.set j ff).map K9) 4))[x]?=σ[x]?:=fun x hx=>by
     rw[Qj (by rintro rfl;exact k.nb hx),Qj (by rintro rfl;exact k.na hx),Qj (by rintro rfl;exact k.nd hx)]
    have hl:(c.out.set j tt).length=c.out.length:=Qs;refine⟨?_,?_,?_,?_,?_,?_,k.cl.frame keep,fun x hx=>by simp only[Qs];exact k.bd x hx,k.na,k.nb,k.nd,k.nh,k.nbd⟩
    ·simp only[Kn,QP,Q2,hl]
     rw[Qj k.b_h,Qj k.a_h,Qj k.d_h];exact hob
    ·simp only[QP,Q2,Kn]
     rw[Qj (Ne.symm ab),QN (by simpa using hal)]
    ·simp only[QP,Q2,Kn]
     rw[QN (by simpa using hbl)]
    ·simp only[QP,Q2,Kn]
     rw[Qj db,Qj da,QN hdl]
    ·simp only[QP,Q2,Kn,Qs];exact la
    ·simp only[QP,Q2,Kn,Qs];exact lb
   ·refine⟨by simp,fun x hx hn=>?_,fun x hx=>.inl hx,?_⟩
    ·rw[Qj (by rintro rfl;exact hn ((hF _).2 (.inr (.inr (.inl rfl))))),Qj (by rintro rfl;exact hn ((hF _).2 (.inr (.inl rfl)))),Qj (by rintro rfl;exact hn ((hF _).2 (.inr (.inr (.inr (.inl rfl))))))]
    ·exact Low.set (Low.set (Low.set hσ (b2d _ _ _)) (b0o _ _ _)) (b2d _ _ _)
end
theorem d7u{σ:List MO}{h:Nat}(hl:h<σ.length)(x y:MO)(N:Nat)(τ:List MO):(clM σ h x N++τ).set h y=clM σ h y N++τ:=by
 rw[Xy _ _ (by rw[a6I];omega),c5Y hl]
section
variable {s:St}{o:Po}{σ:List MO}{h:Nat}{F:Nat->Prop}{c:Ck}(K:b4z s o σ h F c)(hσ:Low σ)(hN:c.out.length<=1000)(hcl:c.cl.length<=100)(n:Nat)
include K hσ hN hcl
set_option maxHeartbeats 4000000 in
theorem f2K(i:Int)(hn:2<=n):d4Q s o σ h F (c.reset i).1 (.int .i64 (c.reset i).2) (a0a Tab n 27 [.ref h 0,.int .i64 i] σ):=by
 obtain⟨n,rfl⟩:=a0L n (by omega);have K0:=K;obtain⟨vcl,ha,hb,hd,R,k,hF⟩:=K;have hob:=k.obj;have r0:=a7q hob;have r01:=a7n hob;have r4:=a6Y hob;have r6:=a6W hob;have r7:=a7p hob;have r8:=a7y hob;have r9:=a7c hob;have r15:=a5N hob;have r16:=a5H hob;have r17:=a5s hob;have r18:=a5R hob;have c1:=e2F k hσ hN n (by omega)
 skip
 have hc:=k.cl.rd;have e6:=a4X;have e5:=a3l
 have go:∀r,(K1 (a0a Tab n) a5d {i:=[i],b:=[],v:=[.ref h 0],m:=σ,k:=σ.length}).bind (fun x=>match x with|.ret r σ=>sM (r,σ)|.jump q' ρ'=>Kb (a0a Tab n) b0z n q' ρ')=sM r->a0a Tab (n+1) 27 [.ref h 0,.int .i64 i] σ=sM r:=fun r hr=>by
  rw[a0a];simp only[d0L,Q0,Ka];show ((a0i [.sh (.one _),.sh (.one _)] _).bind _)=_;simp only[a0i,a0m,a0c,Q1,Q0,Q8,Q4,K5,b3G];exact hr
 obtain⟨X,hX⟩:∃X:PV->W6->Bool->MO,∀v p ov,X v p ov=ckO s o v (.msl σ.length 0 c.out.length c.out.length 6) (.msl (σ.length+1) 0 c.out.length c.out.length 1) (.msl hd 0 c.out.length c.out.length 1) p ov:=⟨_,fun _ _ _=>rfl⟩
 have hclF:∀v p ov τ,CSl (clM σ h (X v p ov) c.out.length++τ) R vcl c.cl:=fun v p ov τ=>k.cl.frame fun x hx=>by
  rw[Qr (by rw[a6I];have:=k.bd x hx;omega)];exact b9t (k.bd x hx) (by rintro rfl;exact k.nh hx) _ _
 rw[<- hX] at c1
 have adv:∀v p ov τ F',(∀x,F' x->F x\/σ.length<=x)->Low (clM σ h (X v p ov) c.out.length++τ)->Adv σ (clM σ h (X v p ov) c.out.length++τ) F F':=fun v p ov τ F' h1 h2=>by
  refine⟨by rw[Qv,a6I];omega,fun x hx hn=>?_,h1,h2⟩;rw[Qr (by rw[a6I];omega)];exact b9t hx (by rintro rfl;exact hn ((hF _).2 (.inl rfl))) _ _
 have own:∀R':Nat->Prop,(∀x,R' x->R x\/σ.length<=x)->∀x,(x=h\/x=σ.length\/x=σ.length+1\/x=hd\/R' x)->F x\/σ.length<=x:=fun R' hR x hx=>by
  rcases hx with rfl|rfl|rfl|rfl|hx
  ·exact .inl ((hF _).2 (.inl rfl))
  ·exact .inr (Qm _)
  ·exact .inr (by omega)
  ·exact .inl ((hF _).2 (.inr (.inr (.inr (.inl rfl)))))
  ·rcases hR x hx with hx|hx
   ·exact .inl ((hF _).2 (.inr (.inr (.inr (.inr hx)))))
   ·exact .inr hx
 unfold Ck.reset;by_cases h1:i<0
 ·refine⟨σ,F,go _ ?_,by rw[XT h1];exact K0,Adv.refl hσ⟩
  rw[XT h1];simp only[a5d,↓reduceIte,K1,XX,XY,XV,PEnv.at,Q3,Q2,Q1,Q0,XU,a7a,a6S,a6T,e6,dT0 h1,a0n,Kf]
 by_cases h2:(c.cl.length:Int)<i
 ·refine⟨σ,F,go _ ?_,by rw[K4 h1,XT h2];exact K0,Adv.refl hσ⟩
  rw[K4 h1,XT h2];simp only[a5d,↓reduceIte,K1,XX,XY,XV,PEnv.at,Q3,Q5,Q7,Qb,a0H,a2p,Q9,Qa,Nat.reduceAdd,Q2,a0c,a0w,a0m,Q1,Q0,K3,Q6,Q4,Q8,XZ,XU,Qd,a7a,a5f,a6S,a6T,e6,dF0 h1,Qf,r8,hc.one,hc.kind,hc.len,dT0 h2,a0n,Kf]
 obtain⟨j,rfl⟩:∃j:Nat,i=(j:Int):=⟨i.toNat,by omega⟩;by_cases h3:(j:Int)=(c.cl.length:Int)/\c.over=tt
 ·refine⟨σ,F,go _ ?_,by rw[K4 h1,K4 h2,XT h3];exact K0,Adv.refl hσ⟩
  rw[K4 h1,K4 h2,XT h3];rw[h3.2] at r18;simp only[a5d,↓reduceIte,K1,XX,XY,XV,PEnv.at,Q3,Q5,Q7,Qb,a0H,a2p,Q9,Qa,Nat.reduceAdd,Q2,a0c,a0w,a0m,Q1,Q0,K3,Q6,Q4,Q8,XZ,XU,Qd,a7a,a5f,a6S,a6T,e6,e5,dF0 h1,Qf,r8,r18,hc.one,hc.kind,hc.len,dF0 h2,dT0 h3.1,a0n,Kf]
 rw[K4 h1,K4 h2,K4 h3,QJ];by_cases h4:j<c.cl.length
 ·
  obtain⟨r,hr⟩:=a0S h4;have hclM:=hclF vcl c.p c.over [];rw[Q8] at hclM;obtain⟨row,hrow,hrd⟩:=hclM.rd.rd j r hr;obtain⟨a,g,b,rfl,_⟩:=hrow;obtain⟨L,q1,q2⟩:=hrd 0 6 (by decide);have q2:∀is bs vs k,a0x {i:=is,b:=bs,v:=vs,m:=clM σ h (X vcl c.p c.over) c.out.length,k:=k} ff 6 L=sM [.int .i64 r.p.a,.int .i64 r.p.b,.int .i64 r.p.c,.int .i64 r.p.d,.int .i64 r.p.e,.int .i64 r.p.f]:=q2;have hclP:=hclF vcl r.p c.over [];rw[Q8] at hclP;obtain⟨p,rows,p1,p2,p3,p4⟩:=f5F hclP h4;have ob1:=b6l k.lt (X vcl c.p c.over) c.out.length;have ob2:=b6l k.lt (X vcl r.p c.over) c.out.length;rw[hX] at ob1 ob2;have u0:=a7q ob1;have u01:=a7n ob1;have u4:=a6Y ob1;have u6:=a6W ob1;have u7:=a7p ob1;have u8:=a7y ob1;have u9:=a7c ob1;have u15:=a5N ob1;have u16:=a5H ob1;have u17:=a5s ob1;have u18:=a5R ob1;have w0:=a7q ob2;have w01:=a7n ob2;have w4:=a6Y ob2;have w6:=a6W ob2;have w7:=a7p ob2;have w8:=a7y ob2;have w9:=a7c ob2;have w15:=a5N ob2;have w16:=a5H ob2;have w17:=a5s ob2;have w18:=a5R ob2;rw[<- hX] at u8 w8;have c2:=c2V p3 (by omega) n (by omega);have hlen:(clM σ h (X vcl r.p c.over) c.out.length).length=σ.length+2:=a6I _ _ _ _;rw[hlen] at c2
  skip
  have hXc:∀v p ov,X v p ov=.cells (ckL s o v (.msl σ.length 0 c.out.length c.out.length 6) (.msl (σ.length+1) 0 c.out.length c.out.length 1) (.msl hd 0 c.out.length c.out.length 1) p ov) 79:=fun v p ov=>by rw[hX];rfl
  have g1:(clM σ h (X vcl c.p c.over) c.out.length)[h]?=sM (.cells (ckL s o vcl (.msl σ.length 0 c.out.length c.out.length 6) (.msl (σ.length+1) 0 c.out.length c.out.length 1) (.msl hd 0 c.out.length c.out.length 1) c.p c.over) 79):=by rw[b6l k.lt,hXc]
  have g2:∀τ,(clM σ h (X vcl r.p c.over) c.out.length++τ)[h]?=sM (.cells (ckL s o vcl (.msl σ.length 0 c.out.length c.out.length 6) (.msl (σ.length+1) 0 c.out.length c.out.length 1) (.msl hd 0 c.out.length c.out.length 1) r.p c.over) 79):=fun τ=>by rw[a3O (b6l k.lt _ _),hXc]
  have g3:∀v τ,(clM σ h (X v r.p c.over) c.out.length++τ)[h]?=sM (.cells (ckL s o v (.msl σ.length 0 c.out.length c.out.length 6) (.msl (σ.length+1) 0 c.out.length c.out.length 1) (.msl hd 0 c.out.length c.out.length 1) r.p c.over) 79):=fun v τ=>by rw[a3O (b6l k.lt _ _),hXc]
  have z1:∀(y:W6),(clM σ h (X vcl c.p c.over) c.out.length).set h (.cells (ckL s o vcl (.msl σ.length 0 c.out.length c.out.length 6) (.msl (σ.length+1) 0 c.out.length c.out.length 1) (.msl hd 0 c.out.length c.out.length 1) y c.over) 79)=clM σ h (X vcl y c.over) c.out.length:=fun y=>by rw[c5Y k.lt,hXc]
  have z2:∀v τ,(clM σ h (X vcl r.p c.over) c.out.length++τ).set h (.cells (ckL s o v (.msl σ.length 0 c.out.length c.out.length 6) (.msl (σ.length+1) 0 c.out.length c.out.length 1) (.msl hd 0 c.out.length c.out.length 1) r.p c.over) 79)=clM σ h (X v r.p c.over) c.out.length++τ:=fun v τ=>by rw[d7u k.lt,hXc]
  have z3:∀v τ,(clM σ h (X v r.p c.over) c.out.length++τ).set h (.cells (ckL s o v (.msl σ.length 0 c.out.length c.out.length 6) (.msl (σ.length+1) 0 c.out.length c.out.length 1) (.msl hd 0 c.out.length c.out.length 1) r.p ff) 79)=clM σ h (X v r.p ff) c.out.length++τ:=fun v τ=>by rw[d7u k.lt,hXc]
  have hne:(j:Int)=(c.cl.length:Int)->False:=fun h=>by omega
  have e1:decide ((j:Int)<(c.cl.length:Int))=tt:=dT0 (by omega);have one3:Kg p=tt:=p3.one;have p2':∀is bs vs k,d2L {i:=is,b:=bs,v:=vs,m:=clM σ h (X vcl r.p c.over) c.out.length,k:=k} nn (sM (.a 0)) 9 (sM vcl)=sM p->True:=fun _ _ _ _ _=>trivial
  refine⟨clM σ h (X (.msl (σ.length+2) 0 j j 9) r.p ff) c.out.length++[.cells rows.flatten 65],fun x=>x=h\/x=σ.length\/x=σ.length+1\/x=hd\/(R x\/x=σ.length+2),go (.int .i64 0,_) ?_,?_,?_⟩
  ·have hcut:=fun (is:List Int) (bs:List Bool) (vs:List PV) (k:Nat)=>p2 {i:=(j:Int)::is,b:=bs,v:=vs,m:=clM σ h (X vcl r.p c.over) c.out.length,k:=k} (.a 0) rfl rfl
   simp only[a5d,↓reduceIte,K1,XX,XY,XV,PEnv.at,Q3,Q5,Q7,Qb,a0H,a2p,Q9,Qa,Nat.reduceAdd,Qm,Q2,a0c,a0w,a0m,Q1,Q0,K3,Q6,Q4,Q8,XZ,XU,Qd,a7a,a5f,a6S,a6T,e6,e5,dF0 h1,Qf,r8,hc.one,hc.kind,hc.len,dF0 h2,dF0 hne,c1,a1J,u8,e1,le0,q1,q2,g1,b4n,Nat.reduceLeDiff,f0Z,z1,w8,p1,hcut,c2,b4E,g2,e4Z,z2,g3,c5M,z3,a0n,Kf]
  ·refine⟨.msl (σ.length+2) 0 j j 9,σ.length,σ.length+1,hd,fun x=>R x\/x=σ.length+2,?_,fun x=>Iff.rfl⟩
   have hlt:(c.cl.take j).length=j:=by rw[QW];omega
   have key:=k.cleared hσ hN (vcl':=.msl (σ.length+2) 0 j j 9) (cl':=c.cl.take j) (p':=r.p) (ov':=ff) (R':=fun x=>R x\/x=σ.length+2) [.cells rows.flatten 65] ?_ (fun x hx=>by rcases hx with hx|rfl;(have:=k.bd x hx;simp;omega);simp) (fun hx=>by rcases hx with hx|hx;(have:=k.bd _ hx;omega);omega) (fun hx=>by rcases hx with hx|hx;(have:=k.bd _ hx;omega);omega) (fun hx=>by rcases hx with hx|hx;exact k.nd hx;have:=(Qp.1 k.out).1;omega) (fun hx=>by rcases hx with hx|hx;exact k.nh hx;have:=k.lt;omega)
   ·rw[hX,hr]
    exact key
   ·refine .inr (.inl ⟨σ.length+2,rows,.inr rfl,by rw[hlt],?_,?_⟩)
    ·rw[QV (by rw[a6I];omega),a6I,Xb];rfl
    ·refine(p4.frame fun x hx=>?_).mono fun x hx=>.inl hx
     rw[Qr (by rw[a6I];have:=k.bd x hx;omega),b9t (k.bd x hx) (by rintro rfl;exact k.nh hx),b9t (k.bd x hx) (by rintro rfl;exact k.nh hx)]
  ·refine adv _ _ _ _ _ (own _ fun x hx=>?_) ?_
   ·rcases hx with hx|rfl
    ·exact .inl hx
    ·exact .inr (by omega)
   ·have hl0:∀v p ov,v.low (σ.length+3)=tt->(X v p ov).low (σ.length+3)=tt:=fun v p ov hv=>by
     have ho:=b1m.1 (hσ.get k.obj);have up:∀{v:PV},v.low σ.length=tt->v.low (σ.length+3)=tt:=fun h=>KE (by omega) _ h
     rw[hX];exact b1m.2 ⟨up ho.1,up ho.2.1,up ho.2.2.1,up ho.2.2.2.1,hv,by simp[Kh],by simp[Kh],up ho.2.2.2.2.2.2.2⟩
    have hlc:=e0c k hσ hN (vcl':=vcl) (p':=c.p) (ov':=c.over) (KE (by omega) _ (b1m.1 (hσ.get k.obj)).2.2.2.2.1);rw[<- hX] at hlc
    have hrows:(Kk rows.flatten 65).low (σ.length+3)=tt:=by
     show Km _ _=tt
     have:∀l:List (List PV),(∀q∈l,Km (σ.length+3) q=tt)->Km (σ.length+3) l.flatten=tt:=by
      intro l
      induction l with
      | nil=>intro _;rfl
      | cons q l ih =>
       intro hq;rw[Qw];have a1:=hq q (by simp);have a2:=ih fun z hz=>hq z (by simp[hz])
       clear ih hq
       induction q with
       | nil=>exact a2
       | cons z q ih=>simp only[Q6,Km,QD] at a1 ⊢;exact⟨a1.1,ih a1.2⟩
     refine this _ fun q hq=>?_
     obtain⟨_,_,kk⟩:=p4.mem hq;exact kk.low fun x hx=>by have:=k.bd x hx;omega
    unfold Low;rw[Qv,a6I,QE,QX,QD];refine⟨Qy.2 fun y hy=>?_,by simpa using hrows⟩;unfold clM at hy;rcases Xw.1 hy with hy|hy
    ·rcases QU hy with hy|rfl
     ·exact Kv (by omega) (Qy.1 hσ y hy)
     ·exact hl0 _ _ _ (by simp[Kh])
    ·simp only[List.mem_cons,List.not_mem_nil,or_false] at hy
     rcases hy with rfl|rfl
     ·exact b0o _ _ _
     ·exact b2d _ _ _
 ·
  have hjl:(j:Int)=(c.cl.length:Int):=by omega
  obtain rfl:j=c.cl.length:=by omega
  have hov:c.over=ff:=by
   cases h:c.over with
   | false=>rfl
   | true=>exact absurd ⟨rfl,h⟩ h3
  rw[hov] at r18 c1;have ob1:=b6l k.lt (X vcl c.p ff) c.out.length;rw[hX] at ob1;have u0:=a7q ob1;have u01:=a7n ob1;have u4:=a6Y ob1;have u6:=a6W ob1;have u7:=a7p ob1;have u8:=a7y ob1;have u9:=a7c ob1;have u15:=a5N ob1;have u16:=a5H ob1;have u17:=a5s ob1;have u18:=a5R ob1;rw[<- hX] at u8;have hXc:∀v p ov,X v p ov=.cells (ckL s o v (.msl σ.length 0 c.out.length c.out.length 6) (.msl (σ.length+1) 0 c.out.length c.out.length 1) (.msl hd 0 c.out.length c.out.length 1) p ov) 79:=fun v p ov=>by rw[hX];rfl
  have g1:(clM σ h (X vcl c.p ff) c.out.length)[h]?=sM (.cells (ckL s o vcl (.msl σ.length 0 c.out.length c.out.length 6) (.msl (σ.length+1) 0 c.out.length c.out.length 1) (.msl hd 0 c.out.length c.out.length 1) c.p ff) 79):=by rw[b6l k.lt,hXc]
  have z1:(clM σ h (X vcl c.p ff) c.out.length).set h (.cells (ckL s o vcl (.msl σ.length 0 c.out.length c.out.length 6) (.msl (σ.length+1) 0 c.out.length c.out.length 1) (.msl hd 0 c.out.length c.out.length 1) c.p ff) 79)=clM σ h (X vcl c.p ff) c.out.length:=by rw[c5Y k.lt,hXc]
  refine⟨clM σ h (X vcl c.p ff) c.out.length++[],fun x=>x=h\/x=σ.length\/x=σ.length+1\/x=hd\/R x,go (.int .i64 0,_) ?_,?_,?_⟩
  ·have e1:decide ((c.cl.length:Int)<(c.cl.length:Int))=ff:=dF0 (by omega)
   have e0:decide ((c.cl.length:Int)<0)=ff:=dF0 (by omega);rw[Q8];simp only[a5d,↓reduceIte,K1,XX,XY,XV,PEnv.at,Q3,Q5,Q7,Qb,a0H,a2p,Q9,Qa,Nat.reduceAdd,Qm,Q2,a0c,a0w,a0m,Q1,Q0,K3,Q6,Q4,Q8,XZ,XU,Qd,a7a,a5f,a6S,a6T,e6,e5,e0,Qf,r8,r18,hc.one,hc.kind,hc.len,e1,Kp,c1,a1J,u8,g1,b4n,Nat.reduceLeDiff,c5M,z1,a0n,Kf]
  ·refine⟨vcl,σ.length,σ.length+1,hd,R,?_,fun x=>Iff.rfl⟩
   have key:=k.cleared hσ hN (vcl':=vcl) (cl':=c.cl) (p':=c.p) (ov':=ff) (R':=R) [] (by rw[<- hX];exact hclF vcl c.p ff []) (fun x hx=>by have:=k.bd x hx;simp;omega) (fun hx=>by have:=k.bd _ hx;omega) (fun hx=>by have:=k.bd _ hx;omega) k.nd k.nh;rw[hX,QQ (Qm _),List.getElem?_eq_none (Qm _)];exact key
  ·refine adv _ _ _ _ _ (own _ fun x hx=>.inl hx) ?_
   rw[Q8,hX];exact e0c k hσ hN (KE (by omega) _ (b1m.1 (hσ.get k.obj)).2.2.2.2.1)
end
theorem CpS.app{σ:List MO}{v:PV}{sz N:Nat}{cells:List PV}(h:CpS σ v sz N cells)(τ:List MO):CpS (σ++τ) v sz N cells :=
 ⟨h.kind,h.one,h.len,fun ρ x τ' hx hm=>h.src ρ x (τ++τ') hx (by rw[hm,Qu]),h.cl,h.ones⟩
def rnA(r:Rn):MO:=.cells (r.ask.map XW).flatten 51
def rnG(r:Rn):MO:=.cells (r.got.map XW).flatten 51
def rnB(r:Rn):MO:=.cells (r.bid.map K9) 4
def b3F(r:Rn)(k:Nat):List PV:=[.int .i64 r.p.a,.int .i64 r.p.b,.int .i64 r.p.c,.int .i64 r.p.d,.int .i64 r.p.e,.int .i64 r.p.f,.msl k 0 r.ask.length r.ask.length 6,.msl (k+1) 0 r.got.length r.got.length 6,.msl (k+2) 0 r.bid.length r.bid.length 1]
theorem e5i{σ:List MO}{R:Nat->Prop}{r:Rn}{row:List PV}(h:b1E σ R r row)(h1:r.ask.length<=1000)(h2:r.got.length<=1000)(h3:r.bid.length<=1000)(n:Nat)(hn:2<=n) :
  a0a Tab n 46 [.agg row] σ=sM (.agg (b3F r σ.length),σ++[rnA r]++[rnG r]++[rnB r]):=by
 obtain⟨n,rfl⟩:=a0L n (by omega);obtain⟨a,g,b,rfl,ha,hg,hb⟩:=h;have c1:=a6d ha.cp h1 n (by omega);have c2:=a6d (hg.cp.app [rnA r]) h2 n (by omega);have c3:=d1g ((hb.cp.app [rnA r]).app [rnG r]) h3 n (by omega);rw[Qv,QE] at c2;rw[Qv,Qv,QE,QE] at c3;have o1:=ha.one;have o2:=hg.one;have o3:=hb.one
 skip
 change _=sM (_,σ++[rnA r]) at c1;change _=sM (_,σ++[rnA r]++[rnG r]) at c2;change _=sM (_,σ++[rnA r]++[rnG r]++[rnB r]) at c3;rw[a0a];simp only[c9C,Q0,Ka];show ((a0i [.sh (.agg [_,_,_,_,_,_,_,_,_])] _).bind _)=_;simp only[a0i,a0m,a0c,Q1,Q0,Q8,K5,o1,o2,o3]
 have E:K1 (a0a Tab n) a9T {i:=[r.p.a,r.p.b,r.p.c,r.p.d,r.p.e,r.p.f],b:=[],v:=[a,g,b],m:=σ,k:=σ.length}=sM (.ret (.agg (b3F r σ.length)) (σ++[rnA r]++[rnG r]++[rnB r])):=by
  unfold a9T
  repeat' (first|with_reducible rfl|apply a4n|simp only[↓reduceIte,a0j,a0A,XV,Q3,Q5,Q7,Qb,a0c,a0w,a0m,Q1,Q0,K3,Q6,Q4,XZ,XU,c1,c2,c3,b4E,a0n,Kf,b3F]|unfold b0H|unfold b7v|unfold b0J|unfold b8i|unfold a7X|unfold b8s|unfold b7q|unfold b7S)
 show ((K1 (a0a Tab n) a9T _).bind _)=_;exact(congrArg (Xa · _) E).trans rfl
theorem e4x{M:List MO}{k:Nat}{r:Rn}{R:Nat->Prop}(h1:M[k]?=sM (rnA r))(h2:M[k+1]?=sM (rnG r))(h3:M[k+2]?=sM (rnB r))(r1:R k)(r2:R (k+1))(r3:R (k+2)):b1E M R r (b3F r k) :=
 ⟨_,_,_,rfl,.inl ⟨k,r1,rfl,h1⟩,.inl ⟨k+1,r2,rfl,h2⟩,⟨k+2,r3,rfl,h3⟩⟩
theorem e2T(r:Rn){k N:Nat}(h:k+2<N):Km N (b3F r k)=tt:=by
 simp only[b3F,Km,Kh,Qz,Xf,QD,KC];omega
def e3T(σ M:List MO)(O:PV)(cl:List Rn)(j:Nat):Prop :=
 (j=0/\O=.nilS)\/(∃h rows,σ.length<=h/\h<M.length/\O=.rsl h j 9/\0<j/\M[h]?=sM (.row rows 9 65)/\a4y M (fun x=>σ.length<=x/\x<M.length/\x≠h) (cl.take j) rows)
section
variable (σ:List MO)(R:Nat->Prop)(V:PV)(cl:List Rn)(hV:CSl σ R V cl)(hR:∀x,R x->x<σ.length)(hl:∀r∈cl,r.ask.length<=1000/\r.got.length<=1000/\r.bid.length<=1000)(hcl:cl.length<=1000)(n:Nat)
def e8J(M:List MO)(K:Nat)(N j:Int)(O V:PV):PEnv:={i:=[N,j],b:=[],v:=[.fn 46 [],O,V],m:=M,k:=K}
include hV hR hl hcl in
theorem f3K(hn:3<=n):∀d j,j+d=cl.length->∀(M:List MO) (O:PV),(∀x,x<σ.length->M[x]?=σ[x]?)->σ.length<=M.length->Low M->e3T σ M O cl j->∀fuel,d+1<=fuel ->
  ∃M' O',a3J.loop (a0a Tab n) fuel 0 (e8J M σ.length (cl.length:Int) (j:Int) O V)=sM (O',M')/\(∀x,x<σ.length->M'[x]?=σ[x]?)/\σ.length<=M'.length/\Low M'/\e3T σ M' O' cl cl.length:=by
 intro d
 induction d with
 | zero =>
  intro j hj M O h1 h2 h3 h4 fuel hf;obtain⟨fuel,rfl⟩:=a0L fuel (by omega);obtain rfl:j=cl.length:=by omega
  have hd:ltB (cl.length:Int) (cl.length:Int)=ff:=by rw[a0G];omega
  refine⟨M,O,?_,h1,h2,h3,h4⟩;rw[Kb,show a3J.loops[0]?=sM a3D from rfl];simp only[Q0,e8J,a3D,↓reduceIte,a0j,a0e,XX,XY,XV,Q3,Q5,Q7,Qb,Q2,Q1,Q0,XU,hd,a0n,Kf]
 | succ d ih =>
  intro j hj M O h1 h2 h3 h4 fuel hf;obtain⟨fuel,rfl⟩:=a0L fuel (by omega);obtain⟨r,hr⟩:=a0S (show j<cl.length by omega);have hVM:CSl M R V cl:=hV.frame fun x hx=>h1 x (hR x hx)
  have hc:=hVM.rd;obtain⟨row,hrow,hrd⟩:=hc.rd j r hr;obtain⟨L,q1,q2⟩:=hrd 0 9 (by decide);have hrl:=hl r (Qt hr);have c1:=e5i hrow hrl.1 hrl.2.1 hrl.2.2 n (by omega);have hml:(M++[rnA r]++[rnG r]++[rnB r]).length=M.length+3:=by simp
  have hold:∀(x:Nat) (y:MO),M[x]?=sM y->(M++[rnA r]++[rnG r]++[rnB r])[x]?=sM y:=fun x y hx=>a3O (a3O (a3O hx))
  have g1:(M++[rnA r]++[rnG r]++[rnB r])[M.length]?=sM (rnA r):=by simp
  have g2:(M++[rnA r]++[rnG r]++[rnB r])[M.length+1]?=sM (rnG r):=by simp
  have g3:(M++[rnA r]++[rnG r]++[rnB r])[M.length+2]?=sM (rnB r):=by simp
  have hlow3:Low (M++[rnA r]++[rnG r]++[rnB r]):=Low.app (Low.app (Low.app h3 (b0o _ _ _)) (b0o _ _ _)) (b2d _ _ _);obtain⟨a,g,b,rfl,ba,bg,bb⟩:=hrow;have q2:∀is bs vs k,a0x {i:=is,b:=bs,v:=vs,m:=M,k:=k} ff 9 L=sM [.int .i64 r.p.a,.int .i64 r.p.b,.int .i64 r.p.c,.int .i64 r.p.d,.int .i64 r.p.e,.int .i64 r.p.f,a,g,b]:=q2;have oa:=ba.one;have og:=bg.one;have ob:=bb.one;have hd:ltB (j:Int) (cl.length:Int)=tt:=by rw[a0U];omega
  have hup:=a2N (show j<=1000000000 by omega);have t1:(0:Nat)+1<=1000000:=by decide
  have t3:¬(1:Nat)=0:=by decide
  simp only[b3F] at c1;have htk:cl.take (j+1)=cl.take j++[r]:=by rw[XQ,hr];rfl
  generalize hMq:M++[rnA r]++[rnG r]++[rnB r]=M3 at *
  rcases h4 with ⟨rfl,rfl⟩|⟨h,rows,k1,k2,rfl,k3,k4,k5⟩
  ·
   obtain⟨M',O',e1,e2⟩:=ih 1 (by omega) (M3++[.row [b3F r M.length] 9 65]) (.rsl M3.length 1 9) (fun x hx=>by
     rw[Qr (by omega),<- hMq]
     rw[Qu,Qu,Qr (by omega)];exact h1 x hx) (by simp;omega) (Low.app hlow3 (by
     show Kj _ [b3F r M.length]=tt;simp only[Kj,Xf]
     exact e2T r (by omega))) (.inr ⟨M3.length,[b3F r M.length],by omega,by simp,rfl,by decide,by simp,⟨by rw[htk];simp,fun i x y hx hy=>by
      rw[htk,QA,Q4] at hx;have hi:i=0:=by have:=(Qp.1 hy).1;simp at this;omega
      subst hi;simp at hx hy;subst hx hy
      exact e4x (a3O g1) (a3O g2) (a3O g3) ⟨by omega,by simp;omega,by omega⟩ ⟨by omega,by simp;omega,by omega⟩ ⟨by omega,by simp;omega,by omega⟩⟩⟩) fuel (by omega)
   refine⟨M',O',?_,e2⟩;rw[<- e1,Kb,show a3J.loops[0]?=sM a3D from rfl];simp only[Q0,e8J,a3D,↓reduceIte,K1,XX,XY,XV,PEnv.at,Q3,Q5,Q7,Qb,a0H,Q9,Qa,Nat.reduceAdd,a0c,a0w,a0m,Q1,Q0,K3,Q6,Q4,Q8,XZ,XU,Ke,Qd,Qe,Qh,a1O,X2,X3,X4,X5,hd,le0,hc.len,q1,q2,oa,og,ob,c1,b4E,a1x,K4 t3,Qf,XT hup,Nat.reduceLeDiff,b3F];rfl
  ·have hh3:M3[h]?=sM (.row rows 9 65):=hold h _ k4
   have hrl2:rows.length=j:=by rw[k5.1,QW];omega
   obtain⟨M',O',e1,e2⟩:=ih (j+1) (by omega) (M3.set h (.row (rows++[b3F r M.length]) 9 65)) (.rsl h (j+1) 9) (fun x hx=>by
     rw[Qj (by omega),<- hMq]
     rw[Qu,Qu,Qr (by omega)];exact h1 x hx) (by simp;omega) (Low.set hlow3 (by
     show Kj _ _=tt
     have hq:∀l:List (List PV),Kj M3.length l=tt->Kj M3.length (l++[b3F r M.length])=tt:=by
      intro l
      induction l with
      | nil=>intro _;simp only[Q4,Kj,Xf];exact e2T r (by omega)
      | cons z l ih=>intro hz;simp only[Q6,Kj,QD] at hz ⊢;exact⟨hz.1,ih hz.2⟩
     exact hq _ (hlow3.get hh3))) (.inr ⟨h,rows++[b3F r M.length],k1,by simp;omega,rfl,by omega,by rw[QN (by omega)],by
      rw[htk];refine a4y.snoc ((k5.frame fun x hx=>?_).mono fun x hx=>⟨hx.1,by simp;omega,hx.2.2⟩) ?_
      ·rw[Qj (Ne.symm hx.2.2),<- hMq]
       rw[Qu,Qu,Qr hx.2.1]
      ·refine e4x ?_ ?_ ?_ ⟨by omega,by simp;omega,by omega⟩ ⟨by omega,by simp;omega,by omega⟩ ⟨by omega,by simp;omega,by omega⟩
       ·rw[Qj (by omega)];exact g1
       ·rw[Qj (by omega)];exact g2
       ·rw[Qj (by omega)];exact g3⟩) fuel (by omega)
   refine⟨M',O',?_,e2⟩;have t4:j+1<=1000000:=by omega
   have one5:Kg (.rsl h j 9)=tt:=rfl;rw[<- e1,a1o,Kb,show a3J.loops[0]?=sM a3D from rfl];simp only[Q0,e8J,a3D,↓reduceIte,K1,XX,XY,XV,PEnv.at,Q3,Q5,Q7,Qb,a0H,Q9,Qa,Nat.reduceAdd,a0c,a0w,a0m,Q1,Q0,K3,Q6,Q4,Q8,XZ,XU,Ke,Qd,Qe,Qh,a1O,X2,X3,X4,X5,hd,le0,hc.len,q1,q2,oa,og,ob,c1,b4E,XT t1,a1x,hh3,hrl2,KM,XT t4,K4 t3,XT hup,b3F]
theorem e4J{σ M:List MO}{O:PV}{cl:List Rn}(h:e3T σ M O cl cl.length):CSl M (fun x=>σ.length<=x/\x<M.length) O cl:=by
 rcases h with ⟨h0,rfl⟩|⟨h,rows,k1,k2,rfl,k3,k4,k5⟩
 ·exact .inl ⟨rfl,by simpa using h0⟩
 ·rw[XP] at k5
  exact .inr (.inr ⟨h,rows,⟨k1,k2⟩,rfl,by rintro rfl;simp at k3,k4,k5.mono fun x hx=>⟨hx.1,hx.2.1⟩⟩)
include hV hR hl hcl in
theorem f2Q(hσ:Low σ)(hn:1010<=n):∃M O,a0a Tab n 45 [V,.fn 46 []] σ=sM (O,M)/\(∀x,x<σ.length->M[x]?=σ[x]?)/\σ.length<=M.length/\Low M/\e3T σ M O cl cl.length:=by
 obtain⟨n,rfl⟩:=a0L n (by omega);obtain⟨M,O,e1,e2⟩:=f3K σ R V cl hV hR hl hcl n (by omega) cl.length 0 (by omega) σ .nilS (fun _ _=>rfl) (Qm _) hσ (.inl ⟨rfl,rfl⟩) n (by omega);refine⟨M,O,?_,e2⟩;have hc:=hV.rd;have one6:Kg (.fn 46 [])=tt:=rfl;rw[a0a];simp only[c4z,Q0,Ka];show ((a0i [.sh (.one _),.sh (.one _)] _).bind _)=_;simp only[a0i,a0m,a0c,Q1,Q0,Q8,Q4,Q6,K5,hc.one,show Kg (.fn 46 [])=tt from rfl];show (K1 _ b0w _).bind _=_;simp only[b0w,↓reduceIte,K1,XX,XY,XV,PEnv.at,Q3,Q7,Qb,Q1,Q0,XZ,XU,Ke,Qe,Qh,hc.kind,hc.len];exact e1
end
section
variable {s:St}{o:Po}{σ:List MO}{h:Nat}{vcl:PV}{ha hb hd:Nat}{R:Nat->Prop}{c:Ck}(k:CkAt s o σ h vcl ha hb hd R c)(hσ:Low σ)(hl:∀r∈c.cl,r.ask.length<=1000/\r.got.length<=1000/\r.bid.length<=1000)(hcl:c.cl.length<=1000)(n:Nat)
include k hσ hl hcl in
theorem e9U(hn:1020<=n):∃M O,a0a Tab n 20 [.ref h 0] σ=sM (O,M)/\(∀x,x<σ.length->M[x]?=σ[x]?)/\σ.length<=M.length/\Low M/\e3T σ M O c.cl c.cl.length:=by
 obtain⟨n,rfl⟩:=a0L n (by omega);obtain⟨M,O,e1,e2⟩:=f2Q σ R vcl c.cl k.cl k.bd hl hcl n hσ (by omega);refine⟨M,O,?_,e2⟩;have hob:=k.obj;have r0:=a7q hob;have r01:=a7n hob;have r4:=a6Y hob;have r6:=a6W hob;have r7:=a7p hob;have r8:=a7y hob;have r9:=a7c hob;have r15:=a5N hob;have r16:=a5H hob;have r17:=a5s hob;have r18:=a5R hob;have hc:=k.cl.rd;have oO:O.one=tt:=(e4J e2.2.2.2).rd.one
 skip
 rw[a0a];simp only[c9k,Q0,Ka];show ((a0i [.sh (.one _)] _).bind _)=_;simp only[a0i,a0m,a0c,Q1,Q0,Q8,K5,b3G];show (K1 _ b3q _).bind _=_;simp only[b3q,↓reduceIte,K1,XX,XY,PEnv.at,Q3,Q7,Qb,a0H,a2p,Q9,Qa,Q2,a0c,a0w,a0m,Q1,Q0,K3,Q6,Q4,XZ,XU,a7a,a5f,a6S,a6T,Qf,r8,hc.one,e1,oO,a0n,Kf]
end
theorem c8u{K:Nat}{p:PV}{rows:List (List PV)}(h:p.rowsOf K=sM rows)(hl:rows.length<=1000000)(σ:List MO):a9s K [p] σ=sM (p,σ):=by
 unfold PV.rowsOf at h;split at h
 ·rfl
 ·rename_i n r
  split at h
  ·rename_i hn
   simp only[QP] at h;subst h;simp only[a9s];rw[XT ⟨hn,hl⟩,hn]
  ·cases h
 ·cases h
structure SuOk (s:St)(cs ad:List Tri):Prop where
 P:s.P.rowsOf 5=sM (s.ps.map Ks)
 B:s.B.rowsOf 4=sM (s.bs.map Bd.row)
 C:s.C.rowsOf 3=sM (cs.map Tri.row)
 A:s.A.rowsOf 3=sM (ad.map Tri.row)
theorem SuOk.ok{s:St}{cs ad:List Tri}(h:SuOk s cs ad):s.Ok:=⟨h.P,h.B,(a0b h.C).2.2,(a0b h.A).2.2⟩
theorem SuOk.lens{s:St}{cs ad:List Tri}(hv:a8s s.ps s.bs cs ad=0):s.ps.length<=6/\0<s.bs.length/\s.bs.length<=8/\cs.length<=16/\ad.length<=6:=by
 obtain⟨v1,v2,v3,v4⟩:=c0l hv;have a1:=(a9X v1).1
 have a2:0<s.bs.length/\s.bs.length<=8:=by
  unfold c6K at v2;split at v2
  ·cases v2
  ·split at v2
   ·cases v2
   ·rename_i h1 h2
    have e5:=a3l;have e6:=a4X;simp only[e5,e6,KC] at h1 h2;omega
 have a3:ad.length<=6:=by
  unfold asV at v4;split at v4
  ·cases v4
  ·rename_i h;rw[Xu,a0G] at h;omega
 exact⟨a1,a2.1,a2.2,v3,a3⟩
section
variable {s:St}{cs ad:List Tri}(hs:SuOk s cs ad)(hv:a8s s.ps s.bs cs ad=0)(σ:List MO)(n:Nat)
include hs hv in
theorem d9a(hn:2<=n):a0a Tab n 30 [.agg s.pv] σ=sM (.agg s.pv,σ):=by
 obtain⟨n,rfl⟩:∃k,n=k+1+1:=⟨n-2,by omega⟩;obtain⟨l1,l2,l3,l4,l5⟩:=SuOk.lens hv
 have told:∀(F:Nat) (K:Nat) (p:PV),Tab F=sM (⟨[],.stuck,[],sM (a9s K),nn⟩:Sx.Sys)->a0a Tab (n+1) F [p] σ=a9s K [p] σ:=fun F K p h=>by
  rw[a0a,h,Q0,d2g]
 have c1:=(told _ 5 s.P b3s).trans (c8u hs.P (by simp;omega) σ);have c2:=(told _ 4 s.B b4I).trans (c8u hs.B (by simp;omega) σ);have c3:=(told _ 3 s.C b9H).trans (c8u hs.C (by simp;omega) σ);have c4:=(told _ 3 s.A b5N).trans (c8u hs.A (by simp;omega) σ);obtain⟨_,_,p3⟩:=a0b hs.P;obtain⟨_,_,b3⟩:=a0b hs.B;obtain⟨_,_,c3'⟩:=a0b hs.C;obtain⟨_,_,a3⟩:=a0b hs.A;rw[a0a];simp only[d8V,Q0,Ka,KF];show ((a0i [.sh (.agg [_,_,_,_])] _).bind _)=_;simp only[a0i,a0m,a0c,Q1,Q0,Q8,K5,p3,b3,c3',a3];show (K1 _ c4c _).bind _=_;simp only[c4c,↓reduceIte,a0j,a0A,Q7,Qb,Q2,a0c,a0w,a0m,Q1,Q0,K3,Q6,Q4,XZ,XU,c1,c2,c3,c4,p3,b3,c3',a3,a0n,Kc]
end
theorem d3u{K:Nat}{p:PV}{rows:List (List PV)}(h:p.rowsOf K=sM rows){N:Nat}(hl:Kj N rows=tt):p.low N=tt:=by
 unfold PV.rowsOf at h;split at h
 ·rfl
 ·split at h
  ·simp only[QP] at h;subst h;exact hl
  ·cases h
 ·cases h
theorem SuOk.low{s:St}{cs ad:List Tri}(h:SuOk s cs ad)(N:Nat):s.P.low N=tt/\s.B.low N=tt/\s.C.low N=tt/\s.A.low N=tt:=by
 have g:∀{α:Type} (row:α->List PV) (_:∀x,Km N (row x)=tt) (l:List α),Kj N (l.map row)=tt:=by
  intro α row hr l
  induction l with
  | nil=>rfl
  | cons x l ih=>simp only[Qe,Kj,hr x,ih,Qd]
 exact⟨d3u h.P (g _ (fun _=>rfl) _),d3u h.B (g _ (fun _=>rfl) _),d3u h.C (g _ (fun _=>rfl) _),d3u h.A (g _ (fun _=>rfl) _)⟩
theorem e3j{s:St}{o:Po}{σ:List MO}{h:Nat}{vcl va vb:PV}{hd N:Nat}{p:W6}{ov:Bool}(hob:σ[h]?=sM (ckO s o vcl va vb (.msl hd 0 N N 1) p ov))(hσ:Low σ)(hN:N<=1000)(n:Nat)(hn:1<=n) :
  a0a Tab n 31 [.ref h 0] σ=sM (.tup [],clM σ h (ckO s o vcl (.msl σ.length 0 N N 6) (.msl (σ.length+1) 0 N N 1) (.msl hd 0 N N 1) p ov) N):=by
 obtain⟨n,rfl⟩:=a0L n (by omega);rw[a0a,show Tab 31=sM a5b from c0w,Q0,a5b,d9P,d2g];unfold d4m;simp only[hob,ckO,ckL];rw[XT ⟨by omega,hσ⟩];have e1:QK XW (Qk N w0)=Qk N z6:=by rw[XS];rfl
 have e2:∀N:Nat,QK K9 (Qk N ff)=(Qk N [K9 ff]).flatten:=fun N=>by
  induction N with
  | zero=>rfl
  | succ N ih=>rw[QY,QY,Qe,Qw,ih];rfl
 unfold clM;rw[e1,e2]
def ck0(ps:List Pr)(N:Nat):Ck:={cl:=[],p:=a8m ps,ask:=Qk N w0,bid:=Qk N ff,out:=Qk N ff,over:=ff}
def b8H(ps:List Pr)(bs:List Bd)(cs ad:List Tri)(o:Po):Int:=if a8s ps bs cs ad=0 then a6U o else a8s ps bs cs ad
section
variable {s:St}{cs ad:List Tri}(hs:SuOk s cs ad)(o:Po)(σ:List MO)(hσ:Low σ)(n:Nat)
include hs in
theorem f4Z(he:b8H s.ps s.bs cs ad o≠0)(hn:1200<=n):a0a Tab n 9 [.agg s.pv,.agg o.row] σ=sM (.tup [.nilP,.int .i64 (b8H s.ps s.bs cs ad o)],σ):=by
 obtain⟨n,rfl⟩:=a0L n (by omega);obtain⟨_,_,p3⟩:=a0b hs.P;obtain⟨_,_,b3⟩:=a0b hs.B;obtain⟨_,_,c3⟩:=a0b hs.C;obtain⟨_,_,a3⟩:=a0b hs.A;have k1:=c0P σ s.ps s.bs cs ad s.P s.B s.C s.A hs.P hs.B hs.C hs.A n (by omega);have k2:=b3j σ n o (by omega);have e5:=a3l;simp only[a5l] at k1 k2;rw[a0a];simp only[d3E,Q0,Ka,KF,a5l];show ((a0i [.sh (.agg [_,_,_,_]),.sh (.agg [_,_,_,_])] _).bind _)=_;simp only[a0i,a0m,a0c,Q1,Q0,Q8,Q4,K5,p3,b3,c3,a3];show (K1 _ b1W _).bind _=_;unfold b8H at he ⊢;by_cases h1:a8s s.ps s.bs cs ad=0
 ·rw[XT h1] at he ⊢
  simp only[b1W,↓reduceIte,a0j,a0e,a0h,a0A,XX,XY,XV,PEnv.at,Q3,Q5,Q7,Qb,Q2,a0c,a0w,a0m,Q1,Q0,K3,Q6,Q4,Q8,XZ,XU,Qg,Qn,k1,k2,e5,dT0 h1,dF0 he,a0n,Kf]
 ·rw[K4 h1]
  simp only[b1W,↓reduceIte,a0j,a0e,a0h,a0A,XX,XY,XV,PEnv.at,Q3,Q5,Q7,Qb,a0c,a0w,a0m,Q1,Q0,K3,Q6,Q4,XZ,XU,Qn,k1,e5,dF0 h1,a0n,Kf]
include hs hσ in
theorem f4M(he:b8H s.ps s.bs cs ad o=0)(hn:1200<=n):∃M F,a0a Tab n 9 [.agg s.pv,.agg o.row] σ=sM (.tup [.ref (σ.length+1) 0,.int .i64 0],M)/\b4z s o M (σ.length+1) F (ck0 s.ps s.bs.length)/\(∀x,F x->σ.length<=x)/\(∀x,x<σ.length->M[x]?=σ[x]?)/\σ.length<=M.length/\Low M:=by
 obtain⟨n,rfl⟩:=a0L n (by omega)
 have hv:a8s s.ps s.bs cs ad=0:=by
  unfold b8H at he;split at he
  ·assumption
  ·exact he
 have ho:o.ok:=by
  unfold b8H at he;rw[XT hv] at he;unfold a6U at he;split at he
  ·assumption
  ·cases he
 obtain⟨l1,l2,l3,l4,l5⟩:=SuOk.lens hv;obtain⟨_,_,p3⟩:=a0b hs.P;obtain⟨b1,b2,b3⟩:=a0b hs.B;rw[QL] at b1;obtain⟨_,_,c3⟩:=a0b hs.C;obtain⟨_,_,a3⟩:=a0b hs.A;have k1:=c0P σ s.ps s.bs cs ad s.P s.B s.C s.A hs.P hs.B hs.C hs.A n (by omega);have k2:=b3j σ n o (by omega);rw[hv] at k1;rw[show a6U o=0 from XT ho] at k2;have k3:=d9a hs hv σ n (by omega);have k3':=d9a hs hv (σ++[.cells ((Qk s.bs.length [K9 ff]).flatten) 4]) n (by omega);have k4:=e2M σ s.ps s.P hs.P l1 n (by omega);have k4':=e2M (σ++[.cells ((Qk s.bs.length [K9 ff]).flatten) 4]) s.ps s.P hs.P l1 n (by omega)
 have e2:(Qk s.bs.length [K9 ff]).flatten=QK K9 (Qk s.bs.length ff):=by
  generalize s.bs.length=N
  induction N with
  | zero=>rfl
  | succ N ih=>rw[QY,QY,Qe,Qw,ih];rfl
 have hlw:=hs.low (σ.length+2)
 have hM2:Low (σ++[Kk (QK K9 (Qk s.bs.length ff)) 4]++[ckO s o .nilS .nilS .nilS (.msl σ.length 0 s.bs.length s.bs.length 1) (a8m s.ps) ff]):=by
  refine Low.app (Low.app hσ (b2d _ _ _)) ?_;rw[Qv,QE];exact b1m.2 ⟨hlw.1,hlw.2.1,hlw.2.2.1,hlw.2.2.2,rfl,rfl,rfl,by simp[Kh];try omega⟩
 have hob:(σ++[Kk (QK K9 (Qk s.bs.length ff)) 4]++[ckO s o .nilS .nilS .nilS (.msl σ.length 0 s.bs.length s.bs.length 1) (a8m s.ps) ff])[σ.length+1]?=sM (ckO s o .nilS .nilS .nilS (.msl σ.length 0 s.bs.length s.bs.length 1) (a8m s.ps) ff):=by simp
 have k5:=e3j hob hM2 (by omega) n (by omega);have hlen:(σ++[Kk (QK K9 (Qk s.bs.length ff)) 4]++[ckO s o .nilS .nilS .nilS (.msl σ.length 0 s.bs.length s.bs.length 1) (a8m s.ps) ff]).length=σ.length+2:=by simp
 have hlt:σ.length+1<(σ++[Kk (QK K9 (Qk s.bs.length ff)) 4]++[ckO s o .nilS .nilS .nilS (.msl σ.length 0 s.bs.length s.bs.length 1) (a8m s.ps) ff]).length:=by rw[hlen];omega
 have hold:∀x,x<σ.length->(σ++[Kk (QK K9 (Qk s.bs.length ff)) 4]++[ckO s o .nilS .nilS .nilS (.msl σ.length 0 s.bs.length s.bs.length 1) (a8m s.ps) ff])[x]?=σ[x]?:=fun x hx=>by
  rw[Qu,Qr hx]
 have hdr:(σ++[Kk (QK K9 (Qk s.bs.length ff)) 4]++[ckO s o .nilS .nilS .nilS (.msl σ.length 0 s.bs.length s.bs.length 1) (a8m s.ps) ff])[σ.length]?=sM (.cells (QK K9 (Qk s.bs.length ff)) 4):=by simp
 rw[hlen] at k5;simp only[a5l,pv6,KF,e2] at k1 k2 k3 k3' k4 k4' k5;generalize hM2e:(σ++[Kk (QK K9 (Qk s.bs.length ff)) 4]++[ckO s o .nilS .nilS .nilS (.msl σ.length 0 s.bs.length s.bs.length 1) (a8m s.ps) ff])=M2 at *
 have hnew:∀l,(σ++[Kk (QK K9 (Qk s.bs.length ff)) 4]++[Kk [s.P,s.B,s.C,s.A,.int .i64 o.st,.int .i64 o.pc,.int .i64 o.un,.int .i64 o.ru,.nilS,.int .i64 (a8m s.ps).a,.int .i64 (a8m s.ps).b,.int .i64 (a8m s.ps).c,.int .i64 (a8m s.ps).d,.int .i64 (a8m s.ps).e,.int .i64 (a8m s.ps).f,.nilS,.nilS,.msl σ.length 0 s.bs.length s.bs.length 1,.bool ff] 79])=l->l=M2:=fun l hl=>by rw[<- hl,<- hM2e];rfl
 have hnew:=hnew _ rfl;refine⟨clM M2 (σ.length+1) (ckO s o .nilS (.msl (σ.length+2) 0 s.bs.length s.bs.length 6) (.msl (σ.length+2+1) 0 s.bs.length s.bs.length 1) (.msl σ.length 0 s.bs.length s.bs.length 1) (a8m s.ps) ff) s.bs.length,fun x=>x=σ.length+1\/x=σ.length+2\/x=σ.length+3\/x=σ.length\/False,?_,?_,?_,?_,?_,?_⟩
 ·have e0:eqB 0 0=tt:=rfl
  have cN:(0:Int)<=(s.bs.length:Int)/\(s.bs.length:Int)<=1000000:=by omega
  rw[a0a];simp only[d3E,Q0,Ka,KF,a5l];show ((a0i [.sh (.agg [_,_,_,_]),.sh (.agg [_,_,_,_])] _).bind _)=_;simp only[a0i,a0m,a0c,Q1,Q0,Q8,Q4,K5,p3,b3,c3,a3]
  have E:K1 (a0a Tab n) b1W {i:=[o.st,o.pc,o.un,o.ru],b:=[],v:=[s.P,s.B,s.C,s.A],m:=σ,k:=σ.length}=sM (.ret (.tup [.ref (σ.length+1) 0,.int .i64 0]) (clM M2 (σ.length+1) (ckO s o .nilS (.msl (σ.length+2) 0 s.bs.length s.bs.length 6) (.msl (σ.length+2+1) 0 s.bs.length s.bs.length 1) (.msl σ.length 0 s.bs.length s.bs.length 1) (a8m s.ps) ff) s.bs.length)):=by
   have hl1:∀x:MO,(σ++[x]).length=σ.length+1:=fun x=>by simp
   simp only[b1W,↓reduceIte,a0j,a0e,a0h,a0A,XX,XY,XV,PEnv.at,Q3,Q5,Q7,Qb,Q2,a0c,a0w,a0m,Q1,Q0,K3,Q6,Q4,Q8,XZ,XU,Qg,k1,k2,e0,b2]
   repeat' (first|with_reducible rfl|apply a4n|simp only[↓reduceIte,a0j,a0A,a2E,a2v,XX,XY,XV,PEnv.at,Q3,Q5,Q7,Qb,QM,a0c,a0w,a0m,Q1,Q0,K3,Q6,Q4,Q8,XZ,XU,k3,k3',k4,k4',p3,b3,c3,a3,b1,cN.1,cN.2,QJ,Kq,Nat.reduceLeDiff,e2,hnew,k5,a1J,hl1,PV.on,a0n,Kf]|unfold d1B|unfold d1j|unfold d1r|unfold d1P)
  show ((K1 (a0a Tab n) b1W _).bind _)=_;exact(congrArg (Xa · _) E).trans rfl
 ·refine⟨.nilS,σ.length+2,σ.length+3,σ.length,fun _=>False,?_,fun x=>Iff.rfl⟩
  refine⟨?_,?_,?_,?_,by simp[ck0],by simp[ck0],.inl ⟨rfl,rfl⟩,fun x hx=>hx.elim,id,id,id,id,by omega⟩
  ·rw[b6l hlt];simp[ck0]
  ·have:=e9P M2 (σ.length+1) (ckO s o .nilS (.msl (σ.length+2) 0 s.bs.length s.bs.length 6) (.msl (σ.length+2+1) 0 s.bs.length s.bs.length 1) (.msl σ.length 0 s.bs.length s.bs.length 1) (a8m s.ps) ff) s.bs.length
   rw[hlen] at this;exact this
  ·have:=e9b M2 (σ.length+1) (ckO s o .nilS (.msl (σ.length+2) 0 s.bs.length s.bs.length 6) (.msl (σ.length+2+1) 0 s.bs.length s.bs.length 1) (.msl σ.length 0 s.bs.length s.bs.length 1) (a8m s.ps) ff) s.bs.length
   rw[hlen] at this;exact this
  ·rw[b9t (by omega) (by omega)];exact hdr
 ·intro x hx;rcases hx with rfl|rfl|rfl|rfl|hx
  ·omega
  ·omega
  ·omega
  ·exact Qm _
  ·exact hx.elim
 ·intro x hx
  rw[b9t (by omega) (by omega),hold x hx]
 ·rw[a6I];omega
 ·have hob2:=b1m.1 (hM2.get hob)
  unfold Low;rw[a6I,hlen];unfold clM;rw[QX,QD];refine⟨Qy.2 fun y hy=>?_,by simp only[X0,X9,b0o,b2d,Qd]⟩;rcases QU hy with hy|rfl
  ·exact Kv (by omega) (Qy.1 hM2 y hy)
  ·have hl4:=hs.low (σ.length+2+2)
   exact b1m.2 ⟨hl4.1,hl4.2.1,hl4.2.2.1,hl4.2.2.2,rfl,by simp[Kh],by simp[Kh],by simp[Kh];omega⟩
end
def prN(got:List W6)(out:List Bool)(j:Nat):List W6:=got.zipIdx.map fun x=>if x.2<j/\out[x.2]?=sM tt then w0 else x.1
theorem c5W(got:List W6)(out:List Bool)(j i:Nat):(prN got out j)[i]?=(got[i]?).map fun w=>if i<j/\out[i]?=sM tt then w0 else w:=by
 unfold prN;rw[QS,List.getElem?_zipIdx];cases got[i]?<;>simp
theorem c0s(got:List W6)(out:List Bool)(j:Nat):(prN got out j).length=got.length:=by simp[prN]
theorem e4f(got:List W6)(out:List Bool):prN got out 0=got:=by
 apply X1;intro i;rw[c5W];cases got[i]?<;>simp
theorem e6L{got:List W6}{out:List Bool}{j:Nat}(h:out[j]?=sM tt)(hj:j<got.length):(prN got out j).set j w0=prN got out (j+1):=by
 apply X1;intro i;rw[Xv,c5W,c5W,c0s];by_cases hi:j=i
 ·subst hi
  rw[XT rfl,XT hj,XF hj,Q1,XT ⟨by omega,h⟩]
 ·rw[K4 hi]
  congr 1
  funext w;by_cases h1:i<j
  ·by_cases h2:out[i]?=sM tt
   ·rw[XT ⟨h1,h2⟩,XT ⟨by omega,h2⟩]
   ·rw[K4 (fun q=>h2 q.2),K4 (fun q=>h2 q.2)]
  ·rw[K4 (fun q=>h1 q.1),K4 (fun q=>by omega)]
theorem f0r{got:List W6}{out:List Bool}{j:Nat}(h:out[j]?=sM ff):prN got out j=prN got out (j+1):=by
 apply X1;intro i;rw[c5W,c5W]
 congr 1
 funext w;by_cases hi:j=i
 ·subst hi
  rw[h,K4 (fun q=>by simp at q),K4 (fun q=>by simp at q)]
 ·by_cases h1:i<j
  ·by_cases h2:out[i]?=sM tt
   ·rw[XT ⟨h1,h2⟩,XT ⟨by omega,h2⟩]
   ·rw[K4 (fun q=>h2 q.2),K4 (fun q=>h2 q.2)]
  ·rw[K4 (fun q=>h1 q.1),K4 (fun q=>by omega)]
theorem d3w(c:Ck)(hl:((c.cl.getLast?.map Rn.got).getD []).length<=c.out.length):c.prev=prN ((c.cl.getLast?.map Rn.got).getD []) c.out c.out.length:=by
 unfold Ck.prev prN;apply List.map_congr_left;rintro⟨w,i⟩ hx;obtain⟨h1,h2⟩:=List.mem_zipIdx' hx;by_cases h:c.out[i]?=sM tt
 ·simp only
  rw[XT h,XT ⟨by omega,h⟩]
 ·simp only
  rw[K4 h,K4 (fun q=>h q.2)]
theorem e4t{got:List W6}{out:List Bool}{j:Nat}(h:∀w∈got,w.ok):∀w∈prN got out j,w.ok:=by
 intro w hw;obtain⟨i,hi⟩:=XK hw;rw[c5W] at hi;cases hg:got[i]? with
 | none=>rw[hg] at hi;cases hi
 | some w' =>
  rw[hg] at hi;simp only[Q1,QP] at hi;subst hi;split
  ·exact e3F
  ·exact h _ (Qt hg)
section
variable {s:St}{o:Po}{σ:List MO}{h:Nat}{vcl:PV}{ha hb hd:Nat}{R:Nat->Prop}{c:Ck}(k:CkAt s o σ h vcl ha hb hd R c)(n:Nat)
def pvM(σ τ:List MO)(l:List W6):List MO:=σ++τ++[.cells (l.map XW).flatten 51]
def e0h(σ τ:List MO)(N j:Int)(l:List W6)(hd M:Nat):PEnv:={i:=[N,j],b:=[],v:=[.msl (σ++τ).length 0 l.length l.length 6,.msl hd 0 M M 1],m:=pvM σ τ l,k:=(σ++τ).length}
include k in
theorem f4z(hN:c.out.length<=1000)(τ:List MO)(got:List W6)(hg:got.length=c.out.length):∀d j,j+d=c.out.length->∀fuel,
  a4V.loop (a0a Tab n) (fuel+d+1) 0 (e0h σ τ (c.out.length:Int) (j:Int) (prN got c.out j) hd c.out.length)=sM (.msl (σ++τ).length 0 c.out.length c.out.length 6,pvM σ τ (prN got c.out c.out.length)):=by
 intro d
 induction d with
 | zero =>
  intro j hj fuel;obtain rfl:j=c.out.length:=by omega
  have hd':ltB (c.out.length:Int) (c.out.length:Int)=ff:=by rw[a0G];omega
  have hlen:=c0s got c.out c.out.length;rw[hg] at hlen;rw[Kb,show a4V.loops[0]?=sM a4I from rfl];simp only[Q0,e0h,a4I,↓reduceIte,a0j,a0e,XX,XY,XV,Q3,Q5,Q7,Q2,Q1,Q0,XU,hd',hlen,a0n,Kf]
 | succ d ih =>
  intro j hj fuel;have ih:=ih (j+1) (by omega) fuel;have hjl:j<c.out.length:=by omega
  obtain⟨b,hb⟩:=a0S hjl;have hlen:=fun j=>c0s got c.out j
  rw[hg] at hlen;have hgt:(pvM σ τ (prN got c.out j))[hd]?=sM (.cells (c.out.map K9) 4):=a3O (a3O k.out);have hgl:(pvM σ τ (prN got c.out j))[(σ++τ).length]?=sM (.cells ((prN got c.out j).map XW).flatten 51):=by simp[pvM]
  have q1:=d0f (h:=hd) (c:=c.out.length) hjl;have q1a:=e3K (h:=(σ++τ).length) (c:=c.out.length) (sz:=6) hjl
  have q2:∀is bs vs k,a0x {i:=is,b:=bs,v:=vs,m:=pvM σ τ (prN got c.out j),k:=k} ff 1 (.obj hd j)=sM [.bool b]:=fun _ _ _ _=>by
   simp only[a0x,hgt,Q0,Kt,Q2,Kn];exact d2C c.out hb
  have hlt:ltB (j:Int) (c.out.length:Int)=tt:=by rw[a0U];omega
  have hup:=a2N (show j<=1000000000 by omega);have t2:j*6+6<=((prN got c.out j).map XW).flatten.length:=by rw[c5V,hlen];omega
  have s2:a3Y ((prN got c.out j).map XW).flatten (j*6) [.int .i64 0,.int .i64 0,.int .i64 0,.int .i64 0,.int .i64 0,.int .i64 0]=(((prN got c.out j).set j w0).map XW).flatten:=d4S _ (by rw[hlen];omega) w0;have s3:∀l,(pvM σ τ (prN got c.out j)).set (σ++τ).length (.cells (l.map XW).flatten 51)=pvM σ τ l:=fun l=>d2k _ _ _
  simp only[e0h,hlen] at ih;rw[a1o] at ih;rw[<- ih,show fuel+(d+1)+1=fuel+d+1+1 from rfl,Kb,show a4V.loops[0]?=sM a4I from rfl];cases b with
  | true =>
   rw[<- e6L hb (by omega)];simp only[Q0,e0h,hlen,a4I,↓reduceIte,K1,XX,XY,XV,PEnv.at,Q3,Q5,Q7,Qb,a0H,Q9,Qa,Nat.reduceAdd,a0c,Q1,Q0,K3,Q6,Q4,XZ,XU,Ke,Qd,Qe,Qh,hlt,le0,c4e,q1,q2,q1a,hgl,XT t2,s2,s3,XT hup]
  | false =>
   rw[<- f0r hb];simp only[Q0,e0h,hlen,a4I,↓reduceIte,K1,XX,XY,XV,PEnv.at,Q3,Q5,Q7,Qb,a0H,Q9,Qa,Nat.reduceAdd,Q2,a0c,Q1,Q0,K3,Q6,Q4,XZ,XU,Ke,Qd,Qe,Qh,hlt,le0,c4e,q1,q2,q1a,XT hup]
include k in
theorem e4L(hN:c.out.length<=1000)(hcl:c.cl.length<=1000)(hne:c.cl≠[])(hg:∀r∈c.cl,r.got.length=c.out.length)(τ:List MO)(hn:1100<=n) :
  a0a Tab n 59 [.ref h 0] (σ++τ)=sM (.msl (σ++τ).length 0 c.out.length c.out.length 6,pvM σ τ c.prev):=by
 obtain⟨n,rfl⟩:=a0L n (by omega);have hob:(σ++τ)[h]?=sM (ckO s o vcl (.msl ha 0 c.out.length c.out.length 6) (.msl hb 0 c.out.length c.out.length 1) (.msl hd 0 c.out.length c.out.length 1) c.p c.over):=a3O k.obj;have r0:=a7q hob;have r01:=a7n hob;have r4:=a6Y hob;have r6:=a6W hob;have r7:=a7p hob;have r8:=a7y hob;have r9:=a7c hob;have r15:=a5N hob;have r16:=a5H hob;have r17:=a5s hob;have r18:=a5R hob;have hclM:CSl (σ++τ) R vcl c.cl:=k.cl.frame fun x hx=>Qr (k.bd x hx)
 have hc:=hclM.rd;have hpos:0<c.cl.length:=Xz.2 hne;obtain⟨r,hr⟩:=a0S (show c.cl.length-1<c.cl.length by omega);have hlast:c.cl.getLast?=sM r:=by rw[XA];exact hr
 obtain⟨row,hrow,hrd⟩:=hc.rd _ r hr;obtain⟨a,g,b,rfl,ba,bg,bb⟩:=hrow;obtain⟨L,q1,q2⟩:=hrd 7 1 (by decide);have q2:∀is bs vs k,a0x {i:=is,b:=bs,v:=vs,m:=σ++τ,k:=k} ff 1 L=sM [g]:=q2;rw[show ((c.cl.length-1:Nat):Int)=(c.cl.length:Int)-1 by omega] at q1;have hrg:=hg r (Qt hr);have c1:=a6d bg.cp (by omega) n (by omega);rw[hrg] at c1
 skip
 have i1:=a1K (z:=(c.cl.length:Int)-1) (by omega);have i2:leB 0 ((c.cl.length:Int)-1)=tt:=by rw[a2O];omega
 have i3:ltB ((c.cl.length:Int)-1) (c.cl.length:Int)=tt:=by rw[a0U];omega
 have key:=f4z k n hN τ r.got hrg c.out.length 0 (by omega) (n-c.out.length-1);rw[show n-c.out.length-1+c.out.length+1=n by omega,e4f] at key;rw[d3w c (by rw[hlast];simp;omega),hlast];simp only[Q1,XC];simp only[e0h,pvM,hrg] at key;rw[a0a];simp only[c6V,Q0,Ka];show ((a0i [.sh (.one _)] _).bind _)=_;simp only[a0i,a0m,a0c,Q1,Q0,Q8,K5,b3G];show (K1 _ b1Q _).bind _=_;have og:=bg.one;have c1k:∀is bs vs k,a0x {i:=is,b:=bs,v:=vs,m:=σ++τ++[.cells (r.got.map XW).flatten 51],k:=k} ff 1 (.obj h 17)=sM [.msl hd 0 c.out.length c.out.length 1]:=c1e (a3O hob) 17 1 (by decide);simp only[b1Q,↓reduceIte,K1,XX,XY,XV,PEnv.at,Q3,Q5,Q7,Qb,a0H,a2p,Q9,Qa,a0c,a0w,a0m,Q1,Q0,K3,Q6,Q4,Q8,XZ,XU,Ke,Qd,Qe,Qh,a5f,Qf,r8,hc.one,hc.kind,hc.len,XT i1,i2,i3,q1,q2,og,c1,b4E,f5D,c4e,c1k];unfold pvM;exact key
end
theorem f2S{σ:List MO}{R:Nat->Prop}{r:Rn}{row:List PV}(h:b1E σ R r row){hc:Nat}{rows:List (List PV)}{T:Nat}(hh:σ[hc]?=sM (.row rows 9 T)):b1E σ (fun x=>R x/\x≠hc) r row:=by
 have gb:∀{v:PV} {l:List W6},BSl σ R v l->BSl σ (fun x=>R x/\x≠hc) v l:=fun {v l} hb=>by
  rcases hb with ⟨h,h1,rfl,h2⟩|⟨h,h1,rfl,h2⟩
  ·exact .inl ⟨h,⟨h1,by rintro rfl;rw[hh] at h2;cases h2⟩,rfl,h2⟩
  ·exact .inr ⟨h,⟨h1,by rintro rfl;rw[hh] at h2;simp at h2⟩,rfl,h2⟩
 obtain⟨a,g,b,rfl,h1,h2,h3⟩:=h;refine⟨a,g,b,rfl,gb h1,gb h2,?_⟩;obtain⟨h,q1,rfl,q2⟩:=h3;exact⟨h,⟨q1,by rintro rfl;rw[hh] at q2;cases q2⟩,rfl,q2⟩
theorem d7k:∀(rows:List (List PV)) (_:∀r∈rows,r.length=9) (_:∀r∈rows,r.all Kg=tt),a8y 9 rows.length rows.flatten=sM rows
 | [],_,_=>rfl
 | r::rows,h1,h2=>by
  have ih:=d7k rows (fun q hq=>h1 q (by simp[hq])) (fun q hq=>h2 q (by simp[hq]));have hr:=h1 r (by simp);rw[Qw,Q9,a8y,Xh hr,Xk hr,XT ⟨by rw[Qv];omega,h2 r (by simp)⟩,ih];rfl
theorem c4Q{N:Nat}{row:List PV}(hr:Km N row=tt):∀{rows:List (List PV)},Kj N rows=tt->Kj N (rows++[row])=tt
 | [],_=>by simp only[Q4,Kj,hr,Qd]
 | q::rows,h=>by
  simp only[Kj,QD] at h;simp only[Q6,Kj,h.1,c4Q hr h.2,Qd]
theorem f4K{M:List MO}{R R1:Nat->Prop}{vcl:PV}{cl:List Rn}{r:Rn}{row:List PV}(h:CSl M R vcl cl)(hR:∀x,R x->x<M.length)(hrow:b1E M R1 r row)(hR1:∀x,R1 x->¬R x/\x<M.length)(hl:cl.length<=1000) :
  ∃vcl' M',(∀(Φ:Fns) (k:PT) (is:List Int) (bs:List Bool) (vs:List PV) (K nv ns:Nat),vs[nv]?=sM vcl->vs[ns]?=sM (.sl 9 [row])->(PT.appM (.va nv) (.va ns) 9 65 k).ev Φ {i:=is,b:=bs,v:=vs,m:=M,k:=K}=k.ev Φ {i:=is,b:=bs,v:=vs++[vcl'],m:=M',k:=K}) /\
   CSl M' (fun x=>R x\/R1 x\/(M.length<=x/\x<M'.length)) vcl' (cl++[r])/\M.length<=M'.length/\(∀x,x<M.length->¬R x->M'[x]?=M[x]?)/\(Low M->Low M')/\vcl'.one=tt:=by
 have hsr:∀(is:List Int) (bs:List Bool) (vs:List PV) (K ns:Nat),vs[ns]?=sM (.sl 9 [row])->a1O {i:=is,b:=bs,v:=vs,m:=M,k:=K} 9 (.va ns)=sM [row]:=fun is bs vs K ns hs=>by
  simp only[a1O,hs,Q0,PV.rowsOf,K5]
 have hlowrow:Km M.length row=tt:=hrow.low fun x hx=>(hR1 x hx).2
 rcases h with ⟨rfl,rfl⟩|⟨h,rows,h1,rfl,h3,h4⟩|⟨h,rows,h1,rfl,h0,h3,h4⟩
 ·refine⟨.rsl M.length 1 9,M++[.row [row] 9 65],fun Φ k is bs vs K nv ns hv hs=>?_,?_,by simp,fun x hx _=>Qr hx,fun hM=>Low.app hM ?_,rfl⟩
  ·rw[a2w]
   simp only[XU,hv,Q0,hsr is bs vs K ns hs,QE];rfl
  ·refine .inr (.inr ⟨M.length,[row],.inr (.inr ⟨Qm _,by simp⟩),rfl,by simp,by simp,?_⟩)
   exact a4y.snoc (rows:=[]) ⟨rfl,fun i x y hx=>by simp at hx⟩ ((hrow.frame fun x hx=>Qr (hR1 x hx).2).mono fun x hx=>.inr (.inl hx))
  ·show Kj _ [row]=tt
   simp only[Kj,PV.lows_mono (Xr _) row hlowrow,Qd]
 ·have hone:∀q∈rows,q.all Kg=tt:=fun q hq=>by obtain⟨_,_,kk⟩:=h4.mem hq;exact kk.ones
  refine⟨.rsl M.length (cl.length+1) 9,M++[.row (rows++[row]) 9 65],fun Φ k is bs vs K nv ns hv hs=>?_,?_,by simp,fun x hx _=>Qr hx,fun hM=>Low.app hM ?_,rfl⟩
  ·rw[a2w]
   have hrn:=d7k rows h4.lens hone;rw[h4.1] at hrn;simp only[XU,hv,Q0,hsr is bs vs K ns hs,QE,h3,Qq,hrn];rw[XT ⟨trivial,trivial,by omega⟩];rfl
  ·refine .inr (.inr ⟨M.length,rows++[row],.inr (.inr ⟨Qm _,by simp⟩),by simp,by simp,by simp,?_⟩)
   exact((h4.frame fun x hx=>Qr (hR x hx)).mono fun x hx=>.inl hx).snoc ((hrow.frame fun x hx=>Qr (hR1 x hx).2).mono fun x hx=>.inr (.inl hx))
  ·show Kj _ (rows++[row])=tt
   refine c4Q (PV.lows_mono (Xr _) row hlowrow) ?_
   have:∀l:List (List PV),(∀q∈l,Km (M.length+1) q=tt)->Kj (M.length+1) l=tt:=by
    intro l
    induction l with
    | nil=>intro _;rfl
    | cons q l ih=>intro hq;simp only[Kj,hq q (by simp),ih fun z hz=>hq z (by simp[hz]),Qd]
   refine this _ fun q hq=>?_
   obtain⟨_,_,kk⟩:=h4.mem hq;exact kk.low fun x hx=>by have:=hR x hx;omega
 ·refine⟨.rsl h (cl.length+1) 9,M.set h (.row (rows++[row]) 9 65),fun Φ k is bs vs K nv ns hv hs=>?_,?_,by simp,fun x hx hn=>Qj (by rintro rfl;exact hn h1),fun hM=>Low.set hM ?_,rfl⟩
  ·rw[a2w]
   simp only[XU,hv,Q0,hsr is bs vs K ns hs,QE,h3,h4.1];rw[XT ⟨trivial,trivial,trivial,trivial,by omega⟩];rfl
  ·have hh:=(Qp.1 h3).1
   refine .inr (.inr ⟨h,rows++[row],.inl h1,by simp,by simp,by rw[QN hh],?_⟩);have h4':a4y M (fun x=>R x/\x≠h) cl rows:=⟨h4.1,fun i x y hx hy=>f2S (h4.2 i x y hx hy) h3⟩;refine((h4'.frame fun x hx=>Qj (Ne.symm hx.2)).mono fun x hx=>.inl hx.1).snoc ((hrow.frame fun x hx=>Qj ?_).mono fun x hx=>.inr (.inl hx));rintro rfl;exact(hR1 _ hx).1 h1
  ·show Kj _ (rows++[row])=tt
   exact c4Q hlowrow (hM.get h3)
structure CkOk (N:Nat)(c:Ck):Prop where
 out:c.out.length=N
 la:c.ask.length=N
 lb:c.bid.length=N
 ok:∀w∈c.ask,w.ok
 p:c.p.pok
 rn:∀r∈c.cl,r.p.pok/\r.ask.length=N/\r.got.length=N/\r.bid.length=N/\(∀w∈r.ask,w.ok)/\∀w∈r.got,w.ok
 cl:c.cl.length<=30
 ov:c.over=ff->c.cl.length<=29
theorem f4Q{N:Nat}{c:Ck}(h:CkOk N c)(i:Nat):∀x∈c.chs i,x.ok:=by
 intro x hx;obtain⟨r,hr,rfl⟩:=Xn.1 hx;obtain⟨h1,h2,_,_,h5,_⟩:=h.rn r hr;refine⟨h1,?_⟩;show (wa r.ask i).ok;unfold wa;cases hw:r.ask[i]? with
 | none=>exact e3F
 | some w=>exact h5 w (Qt hw)
theorem d1k(c:Ck)(i:Nat):(c.chs i).length=c.cl.length:=by simp[Ck.chs]
theorem e4c{ps:List Pr}{bs:List Bd}{cs ad:List Tri}{i:Int}{w:W6}(h:b8F ps bs cs ad i w=0):0<=i/\i<(bs.length:Int)/\w.ok:=by
 unfold b8F at h
 repeat' split at h
 all_goals first|(cases h;done)|skip
 all_goals
  rename_i h1 h2 h3 _;rw[a0U] at h1;rw[a2O] at h2;exact⟨by omega,by omega,h3⟩
section
variable {s:St}{cs ad:List Tri}(hs:SuOk s cs ad)(hv:a8s s.ps s.bs cs ad=0){o:Po}(ho:o.ok){σ:List MO}{h:Nat}{F:Nat->Prop}{c:Ck}(K:b4z s o σ h F c)(hσ:Low σ)(hk:CkOk s.bs.length c)(n:Nat)
include hs hv ho K hσ hk
set_option maxHeartbeats 4000000 in
theorem f5I(i:Int)(w:W6)(hn:32000<=n):d4Q s o σ h F (c.doBid s.ps s.bs cs ad o s i w).1 (.int .i64 (c.doBid s.ps s.bs cs ad o s i w).2) (a0a Tab n 24 [.ref h 0,.int .i64 i,.agg w.pv] σ):=by
 obtain⟨n,rfl⟩:∃k,n=k+1+1:=⟨n-2,by omega⟩;obtain⟨l1,l2,l3,l4,l5⟩:=SuOk.lens hv;have hN:=hk.out;have K0:=K;obtain⟨vcl,ha,hb,hd,R,k,hF⟩:=K;have hob:=k.obj;have r0:=a7q hob;have r01:=a7n hob;have r4:=a6Y hob;have r6:=a6W hob;have r7:=a7p hob;have r8:=a7y hob;have r9:=a7c hob;have r15:=a5N hob;have r16:=a5H hob;have r17:=a5s hob;have r18:=a5R hob;have c1:=d4u k (n+1) i (by omega)
 skip
 have go:∀r,(K1 (a0a Tab (n+1)) a3R {i:=[i,w.a,w.b,w.c,w.d,w.e,w.f],b:=[],v:=[.ref h 0],m:=σ,k:=σ.length}).bind (fun x=>match x with|.ret r σ=>sM (r,σ)|.jump q' ρ'=>Kb (a0a Tab (n+1)) b2p (n+1) q' ρ')=sM r->a0a Tab (n+1+1) 24 [.ref h 0,.int .i64 i,.agg w.pv] σ=sM r:=fun r hr=>by
  rw[a0a];simp only[d3N,Q0,Ka,pv6];show ((a0i [.sh (.one _),.sh (.one _),.sh (.agg [_,_,_,_,_,_])] _).bind _)=_;simp only[a0i,a0m,a0c,Q1,Q0,Q8,Q4,Q6,K5,b3G];exact hr
 have goE:∀r,K1 (a0a Tab (n+1)) a3R {i:=[i,w.a,w.b,w.c,w.d,w.e,w.f],b:=[],v:=[.ref h 0],m:=σ,k:=σ.length}=sM (.ret r.1 r.2)->a0a Tab (n+1+1) 24 [.ref h 0,.int .i64 i,.agg w.pv] σ=sM r:=fun r hr=>go r (by rw[hr];rfl)
 have no:∀e:Int,b4L s.ps s.bs cs ad o s c i w=e->e≠0->a0a Tab (n+1+1) 24 [.ref h 0,.int .i64 i,.agg w.pv] σ=sM (.int .i64 e,σ)->d4Q s o σ h F (c.doBid s.ps s.bs cs ad o s i w).1 (.int .i64 (c.doBid s.ps s.bs cs ad o s i w).2) (a0a Tab (n+1+1) 24 [.ref h 0,.int .i64 i,.agg w.pv] σ):=fun e he hne hev=>by
  unfold Ck.doBid;rw[he,K4 hne];exact⟨σ,F,hev,K0,Adv.refl hσ⟩
 cases hov:c.over with
 | true =>
  rw[hov] at r18;refine no 10 (by unfold b4L;rw[XT hov]) (by decide) (go _ ?_);simp only[a3R,↓reduceIte,K1,XX,XY,XV,PEnv.at,Q3,Q5,Q7,Qb,a0H,a2p,Q9,Qa,Q2,a0c,a0w,a0m,Q1,Q0,K3,Q6,Q4,XZ,XU,Qd,a7a,a5f,a6S,a6T,Qf,r18,a0n,Kf]
 | false =>
 rw[hov] at r18;have hov':¬c.over=tt:=by rw[hov];simp
 cases hh:c.has i with
 | false =>
  rw[hh] at c1;refine no 6 (by unfold b4L;rw[K4 hov',hh];rfl) (by decide) (go _ ?_);simp only[a3R,↓reduceIte,K1,XX,XY,XV,PEnv.at,Q3,Q5,Q7,Qb,a0H,a2p,Q9,Qa,Q2,a0c,a0w,a0m,Q1,Q0,K3,Q6,Q4,Q8,XZ,XU,Qd,Qn,a7a,a5f,a6S,a6T,Qf,r18,c1,a0n,Kf]
 | true =>
 rw[hh] at c1;have hh':=hh;unfold Ck.has at hh';rw[QD,a2O,a0U] at hh';obtain⟨j,rfl⟩:∃j:Nat,i=(j:Int):=⟨i.toNat,by omega⟩;have hj:j<c.out.length:=by omega
 obtain⟨b,hb'⟩:=a0S hj;have q1:=d0f (h:=hd) (c:=c.out.length) hj
 have q2:∀is bs vs k,a0x {i:=is,b:=bs,v:=vs,m:=σ,k:=k} ff 1 (.obj hd j)=sM [.bool b]:=fun _ _ _ _=>by
  simp only[a0x,k.out,Q0,Kt,Q2,Kn];exact d2C c.out hb'
 have hlt:ltB (j:Int) (c.out.length:Int)=tt:=by rw[a0U];omega
 cases b with
 | true =>
  refine no 10 (by unfold b4L;rw[K4 hov',XT hh,QJ,XT hb']) (by decide) (go _ ?_);simp only[a3R,↓reduceIte,K1,XX,XY,XV,PEnv.at,Q3,Q5,Q7,Qb,a0H,a2p,Q9,Qa,Q2,a0c,a0w,a0m,Q1,Q0,K3,Q6,Q4,Q8,XZ,XU,Qd,Qg,a7a,a5f,a6S,a6T,Qf,r18,c1,r17,b4E,c4e,le0,hlt,q1,q2,a0n,Kf]
 | false =>
 have hbn:¬c.out[j]?=sM tt:=by rw[hb'];simp
 have c2:=e5v σ s.ps s.bs cs ad s.P s.B s.C s.A hs.P hs.B hs.C hs.A (n+1) hσ hv (j:Int) w (by omega);simp only[pv6] at c2
 have hbv:b4L s.ps s.bs cs ad o s c (j:Int) w=if b8F s.ps s.bs cs ad (j:Int) w=0 then(if c4k s (j:Int) ⟨c.p,w⟩=0 then c0W s o.ru (j:Int) (c.chs j) ⟨c.p,w⟩ (agB (c.chs j++[⟨c.p,w⟩])) else c4k s (j:Int) ⟨c.p,w⟩) else b8F s.ps s.bs cs ad (j:Int) w:=by
  unfold b4L;rw[K4 hov',XT hh,QJ,K4 hbn]
 have e5:=a3l;obtain⟨_,_,p3⟩:=a0b hs.P;obtain⟨_,_,b3⟩:=a0b hs.B;obtain⟨_,_,c3'⟩:=a0b hs.C;obtain⟨_,_,a3⟩:=a0b hs.A;by_cases h1:b8F s.ps s.bs cs ad (j:Int) w=0
 case neg =>
  refine no _ (by rw[hbv,K4 h1]) h1 (goE (_,_) ?_);simp only[a3R,↓reduceIte,K1,XX,XY,XV,PEnv.at,Q3,Q5,Q7,Qb,a0H,a2p,Q9,Qa,Q2,a0c,a0w,a0m,Q1,Q0,K3,Q6,Q4,Q8,XZ,XU,Qd,Qg,a7a,a5f,a6S,a6T,Qf,r18,c1,r17,b4E,c4e,le0,hlt,q1,q2]
  repeat' (first|with_reducible rfl|apply a4n|simp only[↓reduceIte,a0j,a0e,a0h,a0F,a0A,XX,XY,XV,PEnv.at,Q3,Q5,Q7,Qb,a0H,a2p,QM,Q9,Qa,Nat.reduceAdd,a0c,a0w,a0m,Q1,Q0,K3,Q6,Q4,Q8,XZ,XU,Qn,a5f,Qf,r9,r0,p3,b3,c3',a3,c2,e5,dF0 h1,a0n,Kf]|unfold a7x|unfold a7m|unfold a7B|unfold a7i|unfold a7h|unfold a7g|unfold a7j|unfold a7l|unfold a5O)
 have hw:=(e4c h1).2.2;have hx:(⟨c.p,w⟩:Ch).ok:=⟨hk.p,hw⟩;have c3:=c8h σ s hs.ok (j:Int) ⟨c.p,w⟩ hx n (by omega) (b4Y σ c.p w hk.p hw n (by omega));simp only[KF,a2T] at c3;by_cases h2:c4k s (j:Int) ⟨c.p,w⟩=0
 case neg =>
  refine no _ (by rw[hbv,XT h1,K4 h2]) h2 (goE (_,_) ?_);simp only[a3R,↓reduceIte,K1,XX,XY,XV,PEnv.at,Q3,Q5,Q7,Qb,a0H,a2p,Q9,Qa,Q2,a0c,a0w,a0m,Q1,Q0,K3,Q6,Q4,Q8,XZ,XU,Qd,Qg,a7a,a5f,a6S,a6T,Qf,r18,c1,r17,b4E,c4e,le0,hlt,q1,q2]
  repeat' (first|with_reducible rfl|apply a4n|simp only[↓reduceIte,a0j,a0e,a0h,a0F,a0A,XX,XY,XV,PEnv.at,Q3,Q5,Q7,Qb,a0H,a2p,QM,Q9,Qa,Nat.reduceAdd,Q2,a0c,a0w,a0m,Q1,Q0,K3,Q6,Q4,Q8,XZ,XU,Qg,Qn,a5f,Qf,r9,r0,p3,b3,c3',a3,c2,e5,dT0 h1,c3,dF0 h2,a0n,Kf]|unfold a7x|unfold a7m|unfold a7B|unfold a7i|unfold a7h|unfold a7g|unfold a7j|unfold a7l|unfold a5O)
 have hcl29:=hk.ov hov;obtain⟨L,c4,hL⟩:=d7t k (n+1) (by omega) (fun r hr=>by rw[(hk.rn r hr).2.1,hN]) (j:Int) (by omega);rw[XT hh,QJ] at hL;obtain⟨_,_,oL⟩:=a0b hL
 have hag:∀m,n+1<=m+2->m<=n+1->a0a Tab m 83 [.agg (b9L s (j:Int) L),.agg (⟨c.p,w⟩:Ch).row] σ=sM (.bool (agB (c.chs j++[⟨c.p,w⟩])),σ):=fun m hm1 hm2=>by
  obtain⟨b,e1,e2⟩:=e9d σ s hs.ok (j:Int) (c.chs j) L hL (by rw[d1k];exact hcl29) ⟨c.p,w⟩ m hσ.flat (by omega);rw[e1,show b=agB (c.chs j++[⟨c.p,w⟩]) from XM.2 (e2.trans (e1a _).symm)]
 have c5:=f0c σ s hs.ok o.ru (j:Int) (c.chs j) L hL (by rw[d1k];exact hcl29) ⟨c.p,w⟩ (n+1) (agB (c.chs j++[⟨c.p,w⟩])) (by omega) hag;simp only[KF,a2T] at c4 c5;by_cases h3:c0W s o.ru (j:Int) (c.chs j) ⟨c.p,w⟩ (agB (c.chs j++[⟨c.p,w⟩]))=0
 case neg =>
  refine no _ (by rw[hbv,XT h1,XT h2]) h3 (goE (_,_) ?_);simp only[a3R,↓reduceIte,K1,XX,XY,XV,PEnv.at,Q3,Q5,Q7,Qb,a0H,a2p,Q9,Qa,Q2,a0c,a0w,a0m,Q1,Q0,K3,Q6,Q4,Q8,XZ,XU,Qd,Qg,a7a,a5f,a6S,a6T,Qf,r18,c1,r17,b4E,c4e,le0,hlt,q1,q2]
  repeat' (first|with_reducible rfl|apply a4n|simp only[↓reduceIte,a0j,a0e,a0h,a0F,a0A,a1s,XX,XY,XV,PEnv.at,Q3,Q5,Q7,Qb,a0H,a2p,QM,Q9,Qa,Nat.reduceAdd,Q2,a0c,a0w,a0m,Q1,Q0,K3,Q6,Q4,Q8,XZ,XU,Qd,Qg,Qn,a5f,Qf,r9,r0,r7,p3,b3,c3',a3,c2,e5,dT0 h1,c3,dT0 h2,c4,oL,c5,dF0 h3,a0n,Kf]|unfold a7x|unfold a7m|unfold a7B|unfold a7i|unfold a7h|unfold a7g|unfold a7j|unfold a7l|unfold a5O)
 have hz:b4L s.ps s.bs cs ad o s c (j:Int) w=0:=by rw[hbv,XT h1,XT h2];exact h3
 have da:=k.a_d;have ab:=k.a_b;have db:=k.nbd;have la:=k.la;have lb:=k.lb;have hal:=(Qp.1 k.ask).1;have hbl:=(Qp.1 k.bid).1;have g2:=k.ask;have g3:(σ.set ha (.cells ((c.ask.set j w).map XW).flatten 51))[hb]?=sM (.cells (c.bid.map K9) 4):=by rw[Qj ab];exact k.bid
 have t2:j*6+6<=(c.ask.map XW).flatten.length:=by rw[c5V];omega
 have t3:j+1<=(c.bid.map K9).length:=by simp;omega
 have s2:a3Y (c.ask.map XW).flatten (j*6) [.int .i64 w.a,.int .i64 w.b,.int .i64 w.c,.int .i64 w.d,.int .i64 w.e,.int .i64 w.f]=((c.ask.set j w).map XW).flatten:=d4S c.ask (by omega) w;have s3:=d4z c.bid (i:=j) (by omega) tt;have q1a:=e3K (h:=ha) (c:=c.out.length) (sz:=6) hj;have q1b:=d0f (h:=hb) (c:=c.out.length) hj;unfold Ck.doBid;rw[hz,XT rfl,QJ];refine⟨(σ.set ha (.cells ((c.ask.set j w).map XW).flatten 51)).set hb (.cells ((c.bid.set j tt).map K9) 4),F,goE (.int .i64 0,_) ?_,⟨vcl,ha,hb,hd,R,?_,hF⟩,?_⟩
 ·simp only[a3R,↓reduceIte,K1,XX,XY,XV,PEnv.at,Q3,Q5,Q7,Qb,a0H,a2p,Q9,Qa,Q2,a0c,a0w,a0m,Q1,Q0,K3,Q6,Q4,Q8,XZ,XU,Qd,Qg,a7a,a5f,a6S,a6T,Qf,r18,c1,r17,b4E,c4e,le0,hlt,q1,q2]
  repeat' (first|with_reducible rfl|apply a4n|simp only[↓reduceIte,a0j,a0e,a0h,a0F,a0A,a1s,XX,XY,XV,PEnv.at,Q3,Q5,Q7,Qb,a0H,a2p,QM,Q9,Qa,Nat.reduceAdd,Q2,a0c,a0w,a0m,Q1,Q0,K3,Q6,Q4,Q8,XZ,XU,Qd,Qg,a5f,Qf,r9,r0,r7,p3,b3,c3',a3,c2,e5,dT0 h1,c3,dT0 h2,c4,oL,c5,dT0 h3,r15,r16,b4E,c4e,le0,hlt,q1a,q1b,g2,XT t2,s2,g3,XT t3,s3,a0n,Kf]|unfold a7x|unfold a7m|unfold a7B|unfold a7i|unfold a7h|unfold a7g|unfold a7j|unfold a7l|unfold a5O)
 ·have keep:∀x,R x->((σ.set ha (.cells ((c.ask.set j w).map XW).flatten 51)).set hb (.cells ((c.bid.set j tt).map K9) 4))[x]?=σ[x]?:=fun x hx=>by
   rw[Qj (by rintro rfl;exact k.nb hx),Qj (by rintro rfl;exact k.na hx)]
  refine⟨?_,?_,?_,?_,by rw[Qs];exact la,by rw[Qs];exact lb,k.cl.frame keep,fun x hx=>by simp only[Qs];exact k.bd x hx,k.na,k.nb,k.nd,k.nh,k.nbd⟩
  ·rw[Qj k.b_h,Qj k.a_h];exact hob
  ·rw[Qj (Ne.symm ab),QN hal]
  ·rw[QN (by simpa using hbl)]
  ·rw[Qj db,Qj da];exact k.out
 ·refine⟨by simp,fun x hx hn=>?_,fun x hx=>.inl hx,Low.set (Low.set hσ (b0o _ _ _)) (b2d _ _ _)⟩
  rw[Qj (by rintro rfl;exact hn ((hF _).2 (.inr (.inr (.inl rfl))))),Qj (by rintro rfl;exact hn ((hF _).2 (.inr (.inl rfl))))]
end
def Ck.closeTo(c:Ck)(o:Po)(ex:W6)(cl':List Rn):Ck×Bool×Int :=
 if (ex.isZ||(leB 30 (cl'.length:Int)||!decide (rsW o c.p ex).pok))=tt then({cl:=cl',p:=c.p,ask:=c.blank.ask,bid:=c.blank.bid,out:=c.out,over:=tt},tt,0)
 else({cl:=cl',p:=rsW o c.p ex,ask:=c.blank.ask,bid:=c.blank.bid,out:=c.out,over:=ff},ff,0)
theorem d2A(c:Ck)(ps:List Pr)(o:Po)(h:c.over=ff):c.close ps o=c.closeTo o (c.ex ps o) (c.cl++[⟨c.p,c.ask,c.gots ps o,c.bid⟩]):=by
 unfold Ck.close Ck.closeTo Ck.ends Ck.nextP;rw[h,K4 (by simp),Qv,QE,a1o];simp only[Ck.blank,h]
section
variable {s:St}{o:Po}(ho:o.ok){h hd:Nat}{c:Ck}(hp:c.p.pok)(n:Nat)(K:Nat)
def d3y(K:Nat)(M:List MO)(sp:W6)(h:Nat)(got:PV):PEnv:={i:=[sp.a,sp.b,sp.c,sp.d,sp.e,sp.f],b:=[],v:=[.ref h 0,got],m:=M,k:=K}
def d8o(K:Nat)(M:List MO)(e:Int)(sp ex np:W6)(h:Nat):PEnv:={i:=[e,sp.a,sp.b,sp.c,sp.d,sp.e,sp.f,ex.a,ex.b,ex.c,ex.d,ex.e,ex.f,np.a,np.b,np.c,np.d,np.e,np.f],b:=[],v:=[.ref h 0],m:=M,k:=K}
include ho hp in
set_option maxHeartbeats 2000000 in
theorem e9J{M:List MO}{vcl va vb got:PV}{R:Nat->Prop}{cl':List Rn}{g:List W6}{sp:W6}(hob:M[h]?=sM (ckO s o vcl va vb (.msl hd 0 c.out.length c.out.length 1) c.p ff))(hM:Low M)(hcl:CSl M R vcl cl')(hR:∀x,R x->x<M.length)(hRd:¬R hd)(hRh:¬R h)(hdh:hd≠h)
  (hg:BSl M R got g) (hgk:∀w∈g,w.ok) (hg8:g.length<=8) (hout:M[hd]?=sM (.cells (c.out.map K9) 4)) (hN:c.out.length<=1000) (hsp:sp.sm 1000) (hn:100<=n) (fuel:Nat) :
  ∃M2,a3e.loop (a0a Tab n) (fuel+2) 1 (d3y K M sp h got)=sM (.tup [.bool (c.closeTo o (exW sp g) cl').2.1,.int .i64 (c.closeTo o (exW sp g) cl').2.2],M2) /\
   CkAt s o M2 h vcl M.length (M.length+1) hd R (c.closeTo o (exW sp g) cl').1/\Low M2/\M.length<=M2.length/\∀x,x<M.length->x≠h->M2[x]?=M[x]?:=by
 have hlt:h<M.length:=(Qp.1 hob).1;have hdl:hd<M.length:=(Qp.1 hout).1;have c1:=e3j hob hM hN n (by omega)
 skip
 obtain⟨X,hX⟩:∃X:W6->Bool->MO,∀p ov,X p ov=ckO s o vcl (.msl M.length 0 c.out.length c.out.length 6) (.msl (M.length+1) 0 c.out.length c.out.length 1) (.msl hd 0 c.out.length c.out.length 1) p ov:=⟨_,fun _ _=>rfl⟩;have hXc:∀p ov,X p ov=.cells (ckL s o vcl (.msl M.length 0 c.out.length c.out.length 6) (.msl (M.length+1) 0 c.out.length c.out.length 1) (.msl hd 0 c.out.length c.out.length 1) p ov) 79:=fun p ov=>by rw[hX];rfl
 rw[<- hX] at c1;have ob1:=b6l hlt (X c.p ff) c.out.length;rw[hX] at ob1;have u0:=a7q ob1;have u01:=a7n ob1;have u4:=a6Y ob1;have u6:=a6W ob1;have u7:=a7p ob1;have u8:=a7y ob1;have u9:=a7c ob1;have u15:=a5N ob1;have u16:=a5H ob1;have u17:=a5s ob1;have u18:=a5R ob1;rw[<- hX] at u8 u4 u9;have fr:∀p ov x,R x->(clM M h (X p ov) c.out.length)[x]?=M[x]?:=fun p ov x hx=>b9t (hR x hx) (by rintro rfl;exact hRh hx) _ _
 have hcl1:=fun p ov=>hcl.frame (fr p ov)
 have hg1:=(hg.frame (fr c.p ff)).rd;have hc:=(hcl1 c.p ff).rd
 have lowX:∀p ov,Low (clM M h (X p ov) c.out.length):=fun p ov=>by
  have ho2:=b1m.1 (hM.get hob);have up:∀{v:PV},v.low M.length=tt->v.low (M.length+2)=tt:=fun h=>KE (by omega) _ h
  unfold Low;rw[a6I];unfold clM;rw[QX,QD];refine⟨Qy.2 fun y hy=>?_,by simp only[X0,X9,b0o,b2d,Qd]⟩;rcases QU hy with hy|rfl
  ·exact Kv (by omega) (Qy.1 hM y hy)
  ·rw[hX]
   exact b1m.2 ⟨up ho2.1,up ho2.2.1,up ho2.2.2.1,up ho2.2.2.2.1,up ho2.2.2.2.2.1,by simp[Kh],by simp[Kh],up ho2.2.2.2.2.2.2.2⟩
 have atX:∀p ov,CkAt s o (clM M h (X p ov) c.out.length) h vcl M.length (M.length+1) hd R {cl:=cl',p:=p,ask:=c.blank.ask,bid:=c.blank.bid,out:=c.out,over:=ov}:=fun p ov=>by
  refine⟨?_,e9P _ _ _ _,e9b _ _ _ _,?_,by simp[Ck.blank],by simp[Ck.blank],hcl1 p ov,fun x hx=>by rw[a6I];have:=hR x hx;omega,fun hx=>by have:=hR _ hx;omega,fun hx=>by have:=hR _ hx;omega,hRd,hRh,by omega⟩
  ·rw[b6l hlt,hX]
  ·rw[b9t hdl hdh];exact hout
 have c2:=e8G (clM M h (X c.p ff) c.out.length) n got g hg1 hgk hg8 sp hsp (by omega);have c3:=f1M (clM M h (X c.p ff) c.out.length) n o ho c.p (exW sp g) hp (lowX c.p ff) (by omega);simp only[pv6,a5l] at c2 c3
 have e1:a3e.loop (a0a Tab n) (fuel+2) 1 (d3y K M sp h got)=a3e.loop (a0a Tab n) (fuel+1) 2 (d8o K (clM M h (X c.p ff) c.out.length) (a8x o c.p (exW sp g)).2 sp (exW sp g) (a8x o c.p (exW sp g)).1 h):=by
  have og:=hg.one;rw[Kb,show a3e.loops[1]?=sM a9D from rfl]
  have E:K1 (a0a Tab n) a9D (d3y K M sp h got)=sM (.jump 2 (d8o K (clM M h (X c.p ff) c.out.length) (a8x o c.p (exW sp g)).2 sp (exW sp g) (a8x o c.p (exW sp g)).1 h)):=by
   simp only[a9D,d3y,↓reduceIte,a0h,a0A,XX,XY,XV,PEnv.at,Q3,Q5,Q7,Qb,a0c,a0w,a0m,Q1,Q0,K3,Q6,Q4,Q8,XZ,XU,c1,a1J,c2,a5f]
   repeat' (first|with_reducible rfl|apply a4n|simp only[↓reduceIte,a0F,a0A,a0s,XV,Q3,Q5,Q7,a0H,a2p,Q9,Qa,Nat.reduceAdd,a0c,a0w,a0m,Q1,Q0,K3,Q6,Q4,Q8,XZ,XU,Ke,Qe,Qh,Qf,u4,u9,c3,a1J,d8o,]|unfold b0O|unfold b7a|unfold b8h|unfold b7I|unfold b0I|unfold b8e|unfold b8q|unfold b6Y|unfold b6D|unfold b5i)
  rw[Q0,E];rfl
 have hst18:(clM M h (X c.p ff) c.out.length).set h (.cells (ckL s o vcl (.msl M.length 0 c.out.length c.out.length 6) (.msl (M.length+1) 0 c.out.length c.out.length 1) (.msl hd 0 c.out.length c.out.length 1) c.p tt) 79)=clM M h (X c.p tt) c.out.length:=by rw[c5Y hlt,hXc]
 have hst9:∀q,(clM M h (X c.p ff) c.out.length).set h (.cells (ckL s o vcl (.msl M.length 0 c.out.length c.out.length 6) (.msl (M.length+1) 0 c.out.length c.out.length 1) (.msl hd 0 c.out.length c.out.length 1) q ff) 79)=clM M h (X q ff) c.out.length:=fun q=>by rw[c5Y hlt,hXc]
 have hg2:(clM M h (X c.p ff) c.out.length)[h]?=sM (.cells (ckL s o vcl (.msl M.length 0 c.out.length c.out.length 6) (.msl (M.length+1) 0 c.out.length c.out.length 1) (.msl hd 0 c.out.length c.out.length 1) c.p ff) 79):=by rw[b6l hlt,hXc]
 have hz:(eqB (exW sp g).a 0&&(eqB (exW sp g).b 0&&(eqB (exW sp g).c 0&&(eqB (exW sp g).d 0&&(eqB (exW sp g).e 0&&eqB (exW sp g).f 0)))))=(exW sp g).isZ:=rfl;have keep:∀p ov x,x<M.length->x≠h->(clM M h (X p ov) c.out.length)[x]?=M[x]?:=fun p ov x hx hne=>b9t hx hne _ _
 have len:∀p ov,M.length<=(clM M h (X p ov) c.out.length).length:=fun p ov=>by rw[a6I];omega
 rw[e1,Kb,show a3e.loops[2]?=sM a5I from rfl];unfold Ck.closeTo;cases hzz:(exW sp g).isZ with
 | true =>
  refine⟨clM M h (X c.p tt) c.out.length,?_,atX c.p tt,lowX c.p tt,len _ _,keep _ _⟩;simp only[Q0,d8o,a5I,↓reduceIte,K1,XX,XY,XV,PEnv.at,Q3,Q5,Q7,a0H,a2p,Q9,Qa,Nat.reduceAdd,Qm,Q1,Q0,XZ,XU,Qd,hz,hzz,a5f,Qf,hg2,b4n,c5M,hst18,a0n,Kf,X6]
 | false =>
  cases h30:leB 30 (cl'.length:Int) with
  | true =>
   refine⟨clM M h (X c.p tt) c.out.length,?_,atX c.p tt,lowX c.p tt,len _ _,keep _ _⟩;simp only[Q0,d8o,a5I,↓reduceIte,K1,XX,XY,XV,PEnv.at,Q3,Q5,Q7,a0H,a2p,Q9,Qa,Nat.reduceAdd,Qm,Q2,a0c,Q1,Q0,K3,Q6,Q4,XZ,XU,Qd,hz,hzz,a5f,Qf,u8,hc.one,hc.kind,hc.len,h30,hg2,b4n,Nat.reduceLeDiff,c5M,hst18,a0n,Kf,X6,Bool.or_true]
  | false =>
   by_cases hpk:(rsW o c.p (exW sp g)).pok
   ·have hnv:a8x o c.p (exW sp g)=(rsW o c.p (exW sp g),0):=XT hpk
    rw[hnv,dT0 hpk];refine⟨clM M h (X (rsW o c.p (exW sp g)) ff) c.out.length,?_,atX _ ff,lowX _ ff,len _ _,keep _ _⟩;have e0:eqB 0 0=tt:=rfl;simp only[Q0,d8o,a5I,↓reduceIte,K1,XX,XY,XV,PEnv.at,Q3,Q5,Q7,a0H,a2p,Q9,Qa,Nat.reduceAdd,Qm,Q2,a0c,Q1,Q0,K3,Q6,Q4,XZ,XU,Qd,Qg,hz,hzz,a5f,Qf,u8,hc.one,hc.kind,hc.len,h30,e0,hg2,b4n,Nat.reduceLeDiff,f0Z,hst9,a0n,Kf,Bool.or_false,Qg,Q2]
   ·have hnv:a8x o c.p (exW sp g)=(w0,4):=K4 hpk
    rw[hnv,dF0 hpk];refine⟨clM M h (X c.p tt) c.out.length,?_,atX c.p tt,lowX c.p tt,len _ _,keep _ _⟩;have e0:eqB 4 0=ff:=rfl;simp only[Q0,d8o,a5I,↓reduceIte,K1,XX,XY,XV,PEnv.at,Q3,Q5,Q7,a0H,a2p,Q9,Qa,Nat.reduceAdd,Qm,Q2,a0c,Q1,Q0,K3,Q6,Q4,XZ,XU,Qd,Qn,hz,hzz,a5f,Qf,u8,hc.one,hc.kind,hc.len,h30,e0,hg2,b4n,c5M,hst18,a0n,Kf,Bool.or_true,Qn]
end
theorem e1H{s:St}{o:Po}{c:Ck}{N:Nat}(hk:CkOk N c):(∀w∈c.gots s.ps o,w.ok)/\(c.gots s.ps o).length=N:=by
 unfold Ck.gots;split
 ·exact⟨hk.ok,hk.la⟩
 ·rename_i hne
  have hpos:0<c.cl.length:=Xz.2 hne;obtain⟨r,hr⟩:=a0S (show c.cl.length-1<c.cl.length by omega);have hlast:c.cl.getLast?=sM r:=by rw[XA];exact hr
  obtain⟨r1,r2,r3,r4,r5,r6⟩:=hk.rn r (Qt hr)
  have hpv:c.prev=prN r.got c.out c.out.length:=by
   rw[d3w c (by rw[hlast];simp only[Q1,XC];rw[r3,hk.out];exact Qm _),hlast];rfl
  have hpl:c.prev.length=N:=by rw[hpv,c0s,r3]
  have hpo:∀w∈c.prev,w.ok:=by rw[hpv];exact e4t r6
  unfold apW;exact⟨d9V _ _ hk.ok hpo (by rw[hk.la,hpl]) _ (by rw[hk.la,hpl];exact Qm _),by rw[c2q,hpl]⟩
theorem f1a{s:St}{o:Po}{σ:List MO}{h:Nat}{F:Nat->Prop}{c:Ck}{vcl:PV}{ha hb hd:Nat}{R:Nat->Prop}(k:CkAt s o σ h vcl ha hb hd R c)(hF:∀x,F x↔(x=h\/x=ha\/x=hb\/x=hd\/R x))(hcl:c.cl.length<=1000)(τ:List MO)(hM:Low (σ++τ)){got:PV}{g:List W6}(hg:BSl (σ++τ) (fun x=>σ.length<=x/\x<(σ++τ).length) got g)(hov:c.over=ff) :
  ∃vcl' M',(∀(Φ:Fns) (k:PT) (is:List Int) (bs:List Bool) (vs:List PV) (K nv ns:Nat),vs[nv]?=sM vcl->vs[ns]?=sM (.sl 9 [[.int .i64 c.p.a,.int .i64 c.p.b,.int .i64 c.p.c,.int .i64 c.p.d,.int .i64 c.p.e,.int .i64 c.p.f,.msl ha 0 c.out.length c.out.length 6,got,.msl hb 0 c.out.length c.out.length 1]])->(PT.appM (.va nv) (.va ns) 9 65 k).ev Φ {i:=is,b:=bs,v:=vs,m:=σ++τ,k:=K}=k.ev Φ {i:=is,b:=bs,v:=vs++[vcl'],m:=M',k:=K}) /\
   M'[h]?=sM (ckO s o vcl (.msl ha 0 c.out.length c.out.length 6) (.msl hb 0 c.out.length c.out.length 1) (.msl hd 0 c.out.length c.out.length 1) c.p ff) /\
   (let M1:=M'.set h (ckO s o vcl' (.msl ha 0 c.out.length c.out.length 6) (.msl hb 0 c.out.length c.out.length 1) (.msl hd 0 c.out.length c.out.length 1) c.p ff)
    let R2:=fun x=>R x\/x=ha\/x=hb\/(σ.length<=x/\x<M1.length)
    Low M1/\CSl M1 R2 vcl' (c.cl++[⟨c.p,c.ask,g,c.bid⟩])/\(∀x,R2 x->x<M1.length)/\¬R2 hd/\¬R2 h/\BSl M1 R2 got g/\M1[hd]?=sM (.cells (c.out.map K9) 4)/\σ.length<=M1.length/\(∀x,x<σ.length->¬F x->M1[x]?=σ[x]?))/\vcl'.one=tt/\h<M'.length:=by
 have hal:=(Qp.1 k.ask).1;have hbl:=(Qp.1 k.bid).1;have hdl:=(Qp.1 k.out).1;have hhl:=k.lt;have la:=k.la;have lb:=k.lb;have hlen:(σ++τ).length=σ.length+τ.length:=Qv;have up:∀x,x<σ.length->(σ++τ)[x]?=σ[x]?:=fun x hx=>Qr hx
 obtain⟨vcl',M',a1,a2,a3,a4,a5,a6⟩:=f4K (M:=σ++τ) (R:=R) (R1:=fun x=>x=ha\/x=hb\/(σ.length<=x/\x<(σ++τ).length)) (r:=⟨c.p,c.ask,g,c.bid⟩) (k.cl.frame fun x hx=>up x (k.bd x hx)) (fun x hx=>by have:=k.bd x hx;omega)
  ⟨.msl ha 0 c.out.length c.out.length 6,got,.msl hb 0 c.out.length c.out.length 1,rfl,.inl ⟨ha,.inl rfl,by rw[la],by rw[up ha hal];exact k.ask⟩,hg.mono fun x hx=>.inr (.inr hx),⟨hb,.inr (.inl rfl),by rw[lb],by rw[up hb hbl];exact k.bid⟩⟩
  (fun x hx=>by
   rcases hx with rfl|rfl|hx
   ·exact⟨k.na,by omega⟩
   ·exact⟨k.nb,by omega⟩
   ·exact⟨fun h=>by have:=k.bd x h;omega,hx.2⟩) hcl
 have hMh:M'[h]?=sM (ckO s o vcl (.msl ha 0 c.out.length c.out.length 6) (.msl hb 0 c.out.length c.out.length 1) (.msl hd 0 c.out.length c.out.length 1) c.p ff):=by
  rw[a4 h (by omega) k.nh,up h hhl,k.obj,hov]
 have hhM:h<M'.length:=by omega
 refine⟨vcl',M',a1,hMh,?_,a6,hhM⟩;have hkeep:∀x,x<M'.length->x≠h->(M'.set h (ckO s o vcl' (.msl ha 0 c.out.length c.out.length 6) (.msl hb 0 c.out.length c.out.length 1) (.msl hd 0 c.out.length c.out.length 1) c.p ff))[x]?=M'[x]?:=fun x _ hne=>Qj (Ne.symm hne)
 have hR2h:¬(R h\/h=ha\/h=hb\/(σ.length<=h/\h<M'.length)):=by
  rintro (hx|hx|hx|hx)
  ·exact k.nh hx
  ·exact k.a_h hx.symm
  ·exact k.b_h hx.symm
  ·omega
 have hM':=a5 hM;have ho2:=b1m.1 (hM'.get hMh)
 have hvl:vcl'.low M'.length=tt:=a2.low fun x hx=>by
  rcases hx with hx|hx|hx
  ·have:=k.bd x hx;omega
  ·rcases hx with rfl|rfl|hx<;>omega
  ·exact hx.2
 simp only[Qs];refine⟨Low.set hM' (b1m.2 ⟨ho2.1,ho2.2.1,ho2.2.2.1,ho2.2.2.2.1,hvl,ho2.2.2.2.2.2.1,ho2.2.2.2.2.2.2.1,ho2.2.2.2.2.2.2.2⟩),?_,fun x hx=>?_,?_,hR2h,?_,?_,by omega,fun x hx hn=>?_⟩
 ·have step:CSl M' (fun x=>R x\/x=ha\/x=hb\/(σ.length<=x/\x<M'.length)) vcl' (c.cl++[⟨c.p,c.ask,g,c.bid⟩]):=a2.mono fun x hx=>by
   rcases hx with hx|(rfl|rfl|hx)|hx
   ·exact .inl hx
   ·exact .inr (.inl rfl)
   ·exact .inr (.inr (.inl rfl))
   ·exact .inr (.inr (.inr ⟨hx.1,by omega⟩))
   ·exact .inr (.inr (.inr ⟨by omega,hx.2⟩))
  exact step.frame fun x hx=>Qj (by rintro rfl;exact hR2h hx)
 ·rcases hx with hx|rfl|rfl|hx
  ·have:=k.bd x hx;omega
  ·omega
  ·omega
  ·exact hx.2
 ·rintro (hx|hx|hx|hx)
  ·exact k.nd hx
  ·exact k.a_d hx.symm
  ·exact k.nbd hx.symm
  ·omega
 ·have g1:BSl M' (fun x=>σ.length<=x/\x<(σ++τ).length) got g:=hg.frame fun x hx=>a4 x hx.2 fun h=>by have:=k.bd x h;omega
  have g2:BSl M' (fun x=>R x\/x=ha\/x=hb\/(σ.length<=x/\x<M'.length)) got g:=g1.mono fun x hx=>.inr (.inr (.inr ⟨hx.1,by omega⟩))
  exact g2.frame fun x hx=>Qj (by rintro rfl;exact hR2h hx)
 ·rw[Qj k.d_h.symm,a4 hd (by omega) k.nd,up hd hdl];exact k.out
 ·rw[Qj (by rintro rfl;exact hn ((hF _).2 (.inl rfl))),a4 x (by omega) (fun h=>hn ((hF _).2 (.inr (.inr (.inr (.inr h)))))),up x hx]
section
variable {s:St}{cs ad:List Tri}(hs:SuOk s cs ad)(hv:a8s s.ps s.bs cs ad=0){o:Po}(ho:o.ok){σ:List MO}{h:Nat}{F:Nat->Prop}{c:Ck}(K:b4z s o σ h F c)(hσ:Low σ)(hk:CkOk s.bs.length c)(n:Nat)
include hs hv ho K hσ hk
set_option maxHeartbeats 4000000 in
theorem f2i(hn:2000<=n):d4Q s o σ h F (c.close s.ps o).1 (.tup [.bool (c.close s.ps o).2.1,.int .i64 (c.close s.ps o).2.2]) (a0a Tab n 25 [.ref h 0] σ):=by
 obtain⟨n,rfl⟩:∃k,n=k+4:=⟨n-4,by omega⟩;obtain⟨l1,l2,l3,l4,l5⟩:=SuOk.lens hv;have hr:=(a9X (c0l hv).1).2;have hN:=hk.out;have K0:=K;obtain⟨vcl,ha,hb,hd,R,k,hF⟩:=K;have hob:=k.obj;have r0:=a7q hob;have r01:=a7n hob;have r4:=a6Y hob;have r6:=a6W hob;have r7:=a7p hob;have r8:=a7y hob;have r9:=a7c hob;have r15:=a5N hob;have r16:=a5H hob;have r17:=a5s hob;have r18:=a5R hob
 have go:∀r,(K1 (a0a Tab (n+3)) a5i {i:=[],b:=[],v:=[.ref h 0],m:=σ,k:=σ.length}).bind (fun x=>match x with|.ret r σ=>sM (r,σ)|.jump q' ρ'=>Kb (a0a Tab (n+3)) a3e (n+3) q' ρ')=sM r->a0a Tab (n+4) 25 [.ref h 0] σ=sM r:=fun r hr=>by
  rw[a0a];simp only[d0u,Q0,Ka];show ((a0i [.sh (.one _)] _).bind _)=_;simp only[a0i,a0m,a0c,Q1,Q0,Q8,K5,b3G];exact hr
 cases hov:c.over with
 | true =>
  have hce:c.close s.ps o=(c,ff,10):=by unfold Ck.close;rw[hov,XT rfl]
  rw[hce];refine⟨σ,F,go _ ?_,K0,Adv.refl hσ⟩;rw[hov] at r18;simp only[a5i,↓reduceIte,K1,XX,XY,XV,PEnv.at,Q3,Q5,Q7,Qb,a0H,a2p,QM,Q9,Qa,Nat.reduceAdd,Q2,a0c,a0w,a0m,Q1,Q0,K3,Q6,Q4,XZ,XU,a7a,a5f,a6S,a6T,Qf,r18,a0n,Kf]
 | false =>
 rw[hov] at r18;rw[d2A c s.ps o hov];obtain⟨_,_,p3⟩:=a0b hs.P;obtain⟨gk,gl⟩:=e1H (s:=s) (o:=o) hk
 have hsp:(a2x s.ps).ok:=by
  have:=c8y hr;simp only[W6.wide] at this;simp only[KH]
  have hw:∀i:Nat,0<=((s.ps.map Pr.s)[i]?).getD 0/\((s.ps.map Pr.s)[i]?).getD 0<=4:=fun i=>by
   rw[QS];cases hx:s.ps[i]? with
   | none=>simp
   | some x=>have:=hr x (Qt hx);simp only[Pr.rng] at this;simp;omega
  have a0:=hw 0;have a1:=hw 1;have a2:=hw 2;have a3:=hw 3;have a4:=hw 4;have a5:=hw 5;exact⟨a0.1,a0.2,a1.1,a1.2,a2.1,a2.2,a3.1,a3.2,a4.1,a4.2,a5.1,a5.2⟩
 have c1:=c5l σ s.ps s.P hs.P l1 (n+3) (by omega);have hask:BSl σ (fun x=>x=ha) (.msl ha 0 c.out.length c.out.length 6) c.ask:=.inl ⟨ha,rfl,by rw[k.la],k.ask⟩;have c2:=a6d hask.cp (by rw[hk.la];omega) (n+3) (by omega);rw[k.la] at c2;simp only[pv6] at c1 c2;have hc:=k.cl.rd;have hlowA:Low (σ++[.cells (c.ask.map XW).flatten 51]):=Low.app hσ (b0o _ _ _);have hobA:(σ++[.cells (c.ask.map XW).flatten 51])[h]?=sM (ckO s o vcl (.msl ha 0 c.out.length c.out.length 6) (.msl hb 0 c.out.length c.out.length 1) (.msl hd 0 c.out.length c.out.length 1) c.p c.over):=a3O hob;rw[hov] at hobA;have u0:=a7q hobA;have u01:=a7n hobA;have u4:=a6Y hobA;have u6:=a6W hobA;have u7:=a7p hobA;have u8:=a7y hobA;have u9:=a7c hobA;have u15:=a5N hobA;have u16:=a5H hobA;have u17:=a5s hobA;have u18:=a5R hobA
 have fin:∀(τ:List MO) (hM:Low (σ++τ)) {got:PV} (hg:BSl (σ++τ) (fun x=>σ.length<=x/\x<(σ++τ).length) got (c.gots s.ps o)),
   ∃vcl' M',(∀(Φ:Fns) (k:PT) (is:List Int) (bs:List Bool) (vs:List PV) (K nv ns:Nat),vs[nv]?=sM vcl->vs[ns]?=sM (.sl 9 [[.int .i64 c.p.a,.int .i64 c.p.b,.int .i64 c.p.c,.int .i64 c.p.d,.int .i64 c.p.e,.int .i64 c.p.f,.msl ha 0 c.out.length c.out.length 6,got,.msl hb 0 c.out.length c.out.length 1]])->(PT.appM (.va nv) (.va ns) 9 65 k).ev Φ {i:=is,b:=bs,v:=vs,m:=σ++τ,k:=K}=k.ev Φ {i:=is,b:=bs,v:=vs++[vcl'],m:=M',k:=K})/\vcl'.one=tt /\
    M'[h]?=sM (.cells (ckL s o vcl (.msl ha 0 c.out.length c.out.length 6) (.msl hb 0 c.out.length c.out.length 1) (.msl hd 0 c.out.length c.out.length 1) c.p ff) 79) /\
    ∀fuel res,(∀x,a3e.loop (a0a Tab (n+3)) (fuel+2) 1 (d3y σ.length (M'.set h (.cells (ckL s o vcl' (.msl ha 0 c.out.length c.out.length 6) (.msl hb 0 c.out.length c.out.length 1) (.msl hd 0 c.out.length c.out.length 1) c.p ff) 79)) (a2x s.ps) h got)=sM x->res=sM x) ->
     d4Q s o σ h F (c.closeTo o (c.ex s.ps o) (c.cl++[⟨c.p,c.ask,c.gots s.ps o,c.bid⟩])).1 (.tup [.bool (c.closeTo o (c.ex s.ps o) (c.cl++[⟨c.p,c.ask,c.gots s.ps o,c.bid⟩])).2.1,.int .i64 (c.closeTo o (c.ex s.ps o) (c.cl++[⟨c.p,c.ask,c.gots s.ps o,c.bid⟩])).2.2]) res:=by
  intro τ hM got hg;obtain⟨vcl',M',a1,a2,⟨b1,b2,b3,b4,b5,b6,b7,b8,b9⟩,a3,a4⟩:=f1a (F:=F) k hF (by have:=hk.cl;omega) τ hM hg hov;refine⟨vcl',M',a1,a3,a2,fun fuel res hres=>?_⟩;obtain⟨M2,e1,e2,e3,e4,e5⟩:=e9J ho (h:=h) (hd:=hd) (c:=c) hk.p (n+3) σ.length (QN a4) b1 b2 b3 b4 b5 k.d_h b6 gk (by rw[gl];exact l3) b7 (by omega) (hsp.sm.mono (by decide)) (by omega) fuel;refine⟨M2,_,hres _ e1,⟨vcl',_,_,hd,_,e2,fun x=>Iff.rfl⟩,?_⟩;refine⟨by omega,fun x hx hn=>?_,fun x hx=>?_,e3⟩
  ·rw[e5 x (by omega) (by rintro rfl;exact hn ((hF _).2 (.inl rfl))),b9 x hx hn]
  ·rcases hx with rfl|rfl|rfl|rfl|hx
   ·exact .inl ((hF _).2 (.inl rfl))
   ·exact .inr b8
   ·exact .inr (by omega)
   ·exact .inl ((hF _).2 (.inr (.inr (.inr (.inl rfl)))))
   ·rcases hx with hx|rfl|rfl|hx
    ·exact .inl ((hF _).2 (.inr (.inr (.inr (.inr hx)))))
    ·exact .inl ((hF _).2 (.inr (.inl rfl)))
    ·exact .inl ((hF _).2 (.inr (.inr (.inl rfl))))
    ·exact .inr hx.1
 have t1:(0:Nat)+1<=1000000:=by decide
 by_cases hcl:c.cl=[]
 ·
  have hz:ltB 0 (c.cl.length:Int)=ff:=by rw[hcl];rfl
  have hgo:c.gots s.ps o=c.ask:=by unfold Ck.gots;rw[XT hcl]
  obtain⟨vcl',M',a1,a3,a2,a4⟩:=fin [.cells (c.ask.map XW).flatten 51] hlowA (got:=.msl σ.length 0 c.out.length c.out.length 6) (by rw[hgo];exact .inl ⟨σ.length,⟨Qm _,by simp⟩,by rw[k.la],by simp⟩);refine a4 (n+1) _ fun x hx=>go x ?_
  have E:K1 (a0a Tab (n+3)) a5i {i:=[],b:=[],v:=[.ref h 0],m:=σ,k:=σ.length}=sM (.jump 1 (d3y σ.length (M'.set h (.cells (ckL s o vcl' (.msl ha 0 c.out.length c.out.length 6) (.msl hb 0 c.out.length c.out.length 1) (.msl hd 0 c.out.length c.out.length 1) c.p ff) 79)) (a2x s.ps) h (.msl σ.length 0 c.out.length c.out.length 6))):=by
   simp only[a5i,↓reduceIte,a0j,a0e,a0h,a0F,a0A,XX,XY,XV,PEnv.at,Q3,Q5,Q7,Qb,a0H,a2p,QM,Q9,Qa,Nat.reduceAdd,Q2,a0c,a0w,a0m,Q1,Q0,K3,Q6,Q4,Q8,XZ,XU,a7a,a5f,a6S,a6T,Qf,r18,r01,p3,c1,r15,b4E,c2,u8,hc.one,hc.kind,hc.len,hz,u9,u15,u16]
   repeat' (first|with_reducible rfl|apply a4n|simp only[↓reduceIte,a0h,a0F,a2j,a1s,a0s,XX,XY,XV,PEnv.at,Q3,Q5,Q7,Qb,a0H,a2p,Q9,Qa,Nat.reduceAdd,a0c,Q1,Q0,K3,Q6,Q4,XZ,XU,Ke,Qe,Qh,a1O,X2,X3,X4,X5,a5f,Qf,u8,hc.one,a1,a2,b4n,Nat.reduceLeDiff,e4Z,d3y,]|unfold b1S|unfold b1Y|unfold b1H|unfold b1V|unfold b1K|unfold b1B|unfold b1O|unfold b1I|unfold b1P|unfold b0S)
  rw[E];exact hx
 ·
  have hpos:0<c.cl.length:=Xz.2 hcl;have hz:ltB 0 (c.cl.length:Int)=tt:=by rw[a0U];omega
  have hgo:c.gots s.ps o=apW o.un (a2x s.ps) c.prev c.ask:=by unfold Ck.gots;rw[K4 hcl]
  have hlA:(σ++[Kk (c.ask.map XW).flatten 51]).length=σ.length+1:=by simp
  have c3:=e4L k (n+3) (by omega) (by have:=hk.cl;omega) hcl (fun r hr=>by rw[(hk.rn r hr).2.2.1,hN]) [.cells (c.ask.map XW).flatten 51] (by omega);rw[hlA] at c3;obtain⟨r,hrr⟩:=a0S (show c.cl.length-1<c.cl.length by omega);have hlast:c.cl.getLast?=sM r:=by rw[XA];exact hrr
  obtain⟨y1,y2,y3,y4,y5,y6⟩:=hk.rn r (Qt hrr)
  have hpv:c.prev=prN r.got c.out c.out.length:=by
   rw[d3w c (by rw[hlast];simp only[Q1,XC];rw[y3,hk.out];exact Qm _),hlast];rfl
  have hpl:c.prev.length=c.out.length:=by rw[hpv,c0s,y3,hN]
  have hpo:∀w∈c.prev,w.ok:=by rw[hpv];exact e4t y6
  have hpg:(pvM σ [.cells (c.ask.map XW).flatten 51] c.prev)[σ.length+1]?=sM (.cells (c.prev.map XW).flatten 51):=by simp[pvM]
  have hpvl:(pvM σ [.cells (c.ask.map XW).flatten 51] c.prev).length=σ.length+2:=by simp[pvM]
  have hal:=(Qp.1 k.ask).1;have hask2:BSl (pvM σ [.cells (c.ask.map XW).flatten 51] c.prev) (fun x=>x=ha) (.msl ha 0 c.out.length c.out.length 6) c.ask:=.inl ⟨ha,rfl,by rw[k.la],a3O (a3O k.ask)⟩;have c4:=e8H (pvM σ [.cells (c.ask.map XW).flatten 51] c.prev) (n+3) o.un (a2x s.ps) (σ.length+1) _ (.msl ha 0 c.out.length c.out.length 6) c.prev c.ask hpg (by unfold Po.ok at ho;omega) hsp hask2 (by rw[k.la,hpl]) (by rw[hpl,hN];exact l2) (by rw[hpl,hN];exact l3) hk.ok hpo (by omega);rw[hpl,hpvl,<- hgo] at c4;have hM3:aoM (pvM σ [.cells (c.ask.map XW).flatten 51] c.prev) (c.gots s.ps o)=σ++[.cells (c.ask.map XW).flatten 51,.cells (c.prev.map XW).flatten 51,.row ((c.gots s.ps o).map XW) 6 51]:=by simp[aoM,pvM]
  rw[hM3] at c4;simp only[pv6] at c3 c4;have hobB:(pvM σ [.cells (c.ask.map XW).flatten 51] c.prev)[h]?=sM (ckO s o vcl (.msl ha 0 c.out.length c.out.length 6) (.msl hb 0 c.out.length c.out.length 1) (.msl hd 0 c.out.length c.out.length 1) c.p ff):=a3O hobA;have hobC:(σ++[.cells (c.ask.map XW).flatten 51,.cells (c.prev.map XW).flatten 51,.row ((c.gots s.ps o).map XW) 6 51])[h]?=sM (ckO s o vcl (.msl ha 0 c.out.length c.out.length 6) (.msl hb 0 c.out.length c.out.length 1) (.msl hd 0 c.out.length c.out.length 1) c.p ff):=by rw[<- hov];exact a3O hob
  have hlowC:Low (σ++[.cells (c.ask.map XW).flatten 51,.cells (c.prev.map XW).flatten 51,.row ((c.gots s.ps o).map XW) 6 51]):=by
   rw[<- hM3];exact Low.app (Low.app hlowA (b0o _ _ _)) (b1X _ _ _)
  obtain⟨vcl',M',a1,a3,a2,a4⟩:=fin [.cells (c.ask.map XW).flatten 51,.cells (c.prev.map XW).flatten 51,.row ((c.gots s.ps o).map XW) 6 51] hlowC (got:=.rsl (σ.length+2) c.out.length 6) (.inr ⟨σ.length+2,⟨by omega,by simp⟩,by rw[gl,hN],by simp⟩);have w0:=a7q hobB;have w01:=a7n hobB;have w4:=a6Y hobB;have w6:=a6W hobB;have w7:=a7p hobB;have w8:=a7y hobB;have w9:=a7c hobB;have w15:=a5N hobB;have w16:=a5H hobB;have w17:=a5s hobB;have w18:=a5R hobB;have z0:=a7q hobC;have z01:=a7n hobC;have z4:=a6Y hobC;have z6:=a6W hobC;have z7:=a7p hobC;have z8:=a7y hobC;have z9:=a7c hobC;have z15:=a5N hobC;have z16:=a5H hobC;have z17:=a5s hobC;have z18:=a5R hobC;generalize (σ++[Kk (c.ask.map XW).flatten 51,Kk (c.prev.map XW).flatten 51,MO.row ((c.gots s.ps o).map XW) 6 51])=M3 at *
  have oR:Kg (.rsl (σ.length+2) c.out.length 6)=tt:=rfl;refine a4 n _ fun x hx=>go x ?_
  have E:K1 (a0a Tab (n+3)) a5i {i:=[],b:=[],v:=[.ref h 0],m:=σ,k:=σ.length}=sM (.jump 0 {i:=[0,(a2x s.ps).a,(a2x s.ps).b,(a2x s.ps).c,(a2x s.ps).d,(a2x s.ps).e,(a2x s.ps).f],b:=[],v:=[.ref h 0,.rsl (σ.length+2) c.out.length 6],m:=M3,k:=σ.length}):=by
   simp only[a5i,↓reduceIte,a0j,a0e,a0h,a0F,a0A,XX,XY,XV,PEnv.at,Q3,Q5,Q7,Qb,a0H,a2p,QM,Q9,Qa,Nat.reduceAdd,Q2,a0c,a0w,a0m,Q1,Q0,K3,Q6,Q4,Q8,XZ,XU,a7a,a5f,a6S,a6T,Qf,r18,r01,p3,c1,r15,b4E,c2,u8,hc.one,hc.kind,hc.len,hz]
   repeat' (first|with_reducible rfl|apply a4n|simp only[↓reduceIte,a0F,a0A,a0s,XV,Q3,Q5,Q7,Qb,a0H,a2p,Q9,Qa,a0c,a0w,a0m,Q1,Q0,K3,Q6,Q4,Q8,XZ,XU,Ke,Qe,Qh,Qf,u6,u15,w6,w15,c3,b4E,c4,a1J,oR]|unfold b1S|unfold b1Y|unfold b1H|unfold b1V|unfold b1K|unfold b1B|unfold b1O|unfold b1I|unfold b1P|unfold b0S)
  have E2:K1 (a0a Tab (n+3)) a9J {i:=[0,(a2x s.ps).a,(a2x s.ps).b,(a2x s.ps).c,(a2x s.ps).d,(a2x s.ps).e,(a2x s.ps).f],b:=[],v:=[.ref h 0,.rsl (σ.length+2) c.out.length 6],m:=M3,k:=σ.length}=sM (.jump 1 (d3y σ.length (M'.set h (.cells (ckL s o vcl' (.msl ha 0 c.out.length c.out.length 6) (.msl hb 0 c.out.length c.out.length 1) (.msl hd 0 c.out.length c.out.length 1) c.p ff) 79)) (a2x s.ps) h (.rsl (σ.length+2) c.out.length 6))):=by
   have e0:eqB 0 0=tt:=rfl;simp only[a9J,↓reduceIte,a0e,a0h,a0F,XX,XY,XV,PEnv.at,Q3,Q7,a0H,a2p,Q9,Qa,Nat.reduceAdd,Q2,a0c,Q1,Q0,K3,Q6,Q4,Q8,Qg,e0,a5f,Qf,z9,z15,z16,b4E]
   repeat' (first|with_reducible rfl|apply a4n|simp only[↓reduceIte,a0h,a0F,a2j,a1s,a0s,XX,XY,XV,PEnv.at,Q3,Q5,Q7,Qb,a0H,a2p,Q9,Qa,Nat.reduceAdd,a0c,Q1,Q0,K3,Q6,Q4,XZ,XU,Ke,Qe,Qh,a1O,X2,X3,X4,X5,a5f,Qf,z8,hc.one,a1,a2,b4n,Nat.reduceLeDiff,e4Z,d3y,]|unfold b8j|unfold b6X)
  rw[E,Q0];dsimp only;rw[Kb,show a3e.loops[0]?=sM a9J from rfl,Q0,E2];exact hx
end
theorem f1r{l:List W6}(h:∀w∈l,w.ok){i:Nat}{x:W6}(hx:x.ok):∀w∈l.set i x,w.ok:=fun w hw=>by
 rcases QU hw with hw|rfl
 ·exact h w hw
 ·exact hx
theorem d4y(N:Nat):∀w∈Qk N w0,w.ok:=fun w hw=>by rw[(List.mem_replicate.1 hw).2];exact e3F
theorem f4U{ps:List Pr}(hr:∀x∈ps,x.rng)(N:Nat):CkOk N (ck0 ps N) :=
 ⟨by simp[ck0],by simp[ck0],by simp[ck0],d4y N,f2U hr,fun r hr=>by simp[ck0] at hr,by simp[ck0],fun _=>by simp[ck0]⟩
section
variable {N:Nat}{c:Ck}(hk:CkOk N c)
include hk
theorem f4F:CkOk N c.stop.1:=by
 unfold Ck.stop;split
 ·exact hk
 ·exact⟨hk.out,by simp[Ck.blank,hk.out],by simp[Ck.blank,hk.out],d4y _,hk.p,hk.rn,hk.cl,fun h=>by simp at h⟩
theorem f3O(i:Int):CkOk N (c.drop i).1:=by
 unfold Ck.drop;split
 ·split
  ·exact hk
  ·exact⟨by rw[Qs];exact hk.out,by rw[Qs];exact hk.la,by rw[Qs];exact hk.lb,f1r hk.ok e3F,hk.p,hk.rn,hk.cl,hk.ov⟩
 ·exact hk
theorem f2C(r:Int):CkOk N (c.reset r).1:=by
 unfold Ck.reset;split
 ·exact hk
 split
 ·exact hk
 split
 ·exact hk
 rename_i h1 h2 h3;refine⟨hk.out,by simp[Ck.blank,hk.out],by simp[Ck.blank,hk.out],d4y _,?_,fun q hq=>hk.rn q (Xc hq),?_,fun _=>?_⟩
 ·show (((c.cl[r.toNat]?).map Rn.p).getD c.p).pok
  cases hr:c.cl[r.toNat]? with
  | none=>exact hk.p
  | some q=>exact(hk.rn q (Qt hr)).1
 ·show (c.cl.take r.toNat).length<=30
  rw[QW];have:=hk.cl;omega
 ·show (c.cl.take r.toNat).length<=29
  rw[QW];have:=hk.cl;by_cases h:r.toNat<c.cl.length
  ·omega
  ·have hov:c.over=ff:=by
    cases hh:c.over with
    | false=>rfl
    | true=>exact absurd ⟨by omega,hh⟩ h3
   have:=hk.ov hov;omega
theorem f5u{s:St}(hN:s.bs.length=N)(cs ad:List Tri)(o:Po)(i:Int)(w:W6):CkOk N (c.doBid s.ps s.bs cs ad o s i w).1:=by
 unfold Ck.doBid;split
 ·rename_i h
  have hw:w.ok:=by
   unfold b4L at h;split at h
   ·cases h
   split at h
   ·split at h
    ·cases h
    split at h
    ·rename_i ha
     exact(e4c ha).2.2
    ·rename_i ha
     exact absurd h ha
   ·cases h
  exact⟨hk.out,by rw[Qs];exact hk.la,by rw[Qs];exact hk.lb,f1r hk.ok hw,hk.p,hk.rn,hk.cl,hk.ov⟩
 ·exact hk
theorem f1I{s:St}{o:Po}:CkOk N (c.close s.ps o).1:=by
 cases hov:c.over with
 | true=>unfold Ck.close;rw[hov,XT rfl];exact hk
 | false =>
  rw[d2A c s.ps o hov];obtain⟨gk,gl⟩:=e1H (s:=s) (o:=o) hk;have h29:=hk.ov hov
  have hrn:∀r∈c.cl++[⟨c.p,c.ask,c.gots s.ps o,c.bid⟩],r.p.pok/\r.ask.length=N/\r.got.length=N/\r.bid.length=N/\(∀w∈r.ask,w.ok)/\∀w∈r.got,w.ok:=fun r hr=>by
   rcases Xw.1 hr with hr|hr
   ·exact hk.rn r hr
   ·rw[List.mem_singleton.1 hr]
    exact⟨hk.p,hk.la,gl,hk.lb,hk.ok,gk⟩
  unfold Ck.closeTo;split
  ·exact⟨hk.out,by simp[Ck.blank,hk.out],by simp[Ck.blank,hk.out],d4y _,hk.p,hrn,by simp;omega,fun h=>by simp at h⟩
  ·rename_i h
   simp only[Bool.or_eq_true,not_or,Xu,a4Y,Bool.not_eq_eq_eq_not,Qg,decide_eq_false_iff_not,Decidable.not_not] at h;refine⟨hk.out,by simp[Ck.blank,hk.out],by simp[Ck.blank,hk.out],d4y _,?_,hrn,by simp;omega,fun _=>?_⟩
   ·have:=h.2.2
    simpa using this
   ·have:=h.2.1
    simp only[Qv,QE] at this ⊢;omega
end
section
variable {s:St}{cs ad:List Tri}(hs:SuOk s cs ad)(hv:a8s s.ps s.bs cs ad=0){o:Po}{σ:List MO}{h:Nat}{F:Nat->Prop}{c:Ck}(K:b4z s o σ h F c)(hσ:Low σ)(hN:c.out.length<=1000)
 (hl:∀r∈c.cl,r.ask.length<=1000/\r.got.length<=1000/\r.bid.length<=1000) (hcl:c.cl.length<=1000) (n:Nat)
include hs hv K hσ hN hl hcl
set_option maxHeartbeats 4000000 in
theorem f8y(hn:1100<=n):∃M F',a0a Tab n 22 [.ref h 0] σ=sM (.ref σ.length 0,M)/\b4z s o M σ.length F' c/\(∀x,F' x->σ.length<=x)/\(∀x,x<σ.length->M[x]?=σ[x]?)/\σ.length<=M.length/\Low M:=by
 obtain⟨n,rfl⟩:=a0L n (by omega);obtain⟨vcl,ha,hb,hd,R,k,hF⟩:=K;have hob:=k.obj;have hlow:=b1m.1 (hσ.get hob);have up:∀{v:PV} {N:Nat},σ.length<=N->v.low σ.length=tt->v.low N=tt:=fun hN h=>KE hN _ h
 have p3:=(a0b hs.P).2.2;have b3:=(a0b hs.B).2.2;have c3:=(a0b hs.C).2.2;have a3:=(a0b hs.A).2.2;obtain⟨M2,hM2⟩:∃M2,σ++[ckO s o vcl (.msl ha 0 c.out.length c.out.length 6) (.msl hb 0 c.out.length c.out.length 1) (.msl hd 0 c.out.length c.out.length 1) c.p c.over]=M2:=⟨_,rfl⟩;have l2:M2.length=σ.length+1:=by rw[<- hM2];simp
 have o2:∀x,x<σ.length->M2[x]?=σ[x]?:=fun x hx=>by rw[<- hM2,Qr hx]
 have s2:M2[σ.length]?=sM (ckO s o vcl (.msl ha 0 c.out.length c.out.length 6) (.msl hb 0 c.out.length c.out.length 1) (.msl hd 0 c.out.length c.out.length 1) c.p c.over):=by rw[<- hM2];simp
 have low2:Low M2:=by
  rw[<- hM2];refine hσ.app (b1m.2 ⟨up (by omega) hlow.1,up (by omega) hlow.2.1,up (by omega) hlow.2.2.1,up (by omega) hlow.2.2.2.1,up (by omega) hlow.2.2.2.2.1,up (by omega) hlow.2.2.2.2.2.1,up (by omega) hlow.2.2.2.2.2.2.1,up (by omega) hlow.2.2.2.2.2.2.2⟩)
 have g:∀{x:Nat} {m:MO},σ[x]?=sM m->x<σ.length:=fun h=>(Qp.1 h).1
 have k2:CkAt s o M2 h vcl ha hb hd R c:=⟨by rw[o2 _ (g k.obj)];exact k.obj,by rw[o2 _ (g k.ask)];exact k.ask,by rw[o2 _ (g k.bid)];exact k.bid,by rw[o2 _ (g k.out)];exact k.out,k.la,k.lb,k.cl.frame fun x hx=>o2 x (k.bd x hx),fun x hx=>by have:=k.bd x hx;omega,k.na,k.nb,k.nd,k.nh,k.nbd⟩;obtain⟨M3,O,r1,r2,r3,r4,r5⟩:=e9U k2 low2 hl hcl n (by omega);have k1:=d9a hs hv M2 n (by omega);have hO:=e4J r5;have oO:=hO.rd.one;have s3:M3[σ.length]?=sM (.cells (ckL s o vcl (.msl ha 0 c.out.length c.out.length 6) (.msl hb 0 c.out.length c.out.length 1) (.msl hd 0 c.out.length c.out.length 1) c.p c.over) 79):=by rw[r2 _ (by omega)];exact s2
 have o3:∀x,x<σ.length->M3[x]?=σ[x]?:=fun x hx=>by rw[r2 x (by omega),o2 x hx]
 have set3:M3.set σ.length (.cells (ckL s o vcl (.msl ha 0 c.out.length c.out.length 6) (.msl hb 0 c.out.length c.out.length 1) (.msl hd 0 c.out.length c.out.length 1) c.p c.over) 79)=M3:=by
  refine X1 fun x=>?_
  by_cases hx:σ.length=x
  ·subst hx;rw[QN (by omega),s3]
  ·rw[Qj hx]
 obtain⟨W,hW⟩:∃W:PV->PV->PV->List MO,∀u v w,W u v w=M3.set σ.length (.cells (ckL s o O u v w c.p c.over) 79):=⟨_,fun _ _ _=>rfl⟩;have lW:∀u v w,(W u v w).length=M3.length:=fun u v w=>by rw[hW,Qs]
 have oW:∀u v w x,x≠σ.length->(W u v w)[x]?=M3[x]?:=fun u v w x hx=>by rw[hW,Qj (Ne.symm hx)]
 have sW:∀u v w,(W u v w)[σ.length]?=sM (.cells (ckL s o O u v w c.p c.over) 79):=fun u v w=>by rw[hW,QN (by omega)]
 have kW:∀u v w,CkAt s o (W u v w) h vcl ha hb hd R c:=fun u v w=>by
  have q:∀x,x<σ.length->(W u v w)[x]?=σ[x]?:=fun x hx=>by rw[oW _ _ _ _ (by omega),o3 x hx]
  exact⟨by rw[q _ (g k.obj)];exact k.obj,by rw[q _ (g k.ask)];exact k.ask,by rw[q _ (g k.bid)];exact k.bid,by rw[q _ (g k.out)];exact k.out,k.la,k.lb,k.cl.frame fun x hx=>q x (k.bd x hx),fun x hx=>by have:=k.bd x hx;rw[lW];omega,k.na,k.nb,k.nd,k.nh,k.nbd⟩
 have set4:M3.set σ.length (.cells (ckL s o O (.msl ha 0 c.out.length c.out.length 6) (.msl hb 0 c.out.length c.out.length 1) (.msl hd 0 c.out.length c.out.length 1) c.p c.over) 79)=W (.msl ha 0 c.out.length c.out.length 6) (.msl hb 0 c.out.length c.out.length 1) (.msl hd 0 c.out.length c.out.length 1):=(hW _ _ _).symm;obtain⟨M4,hM4⟩:∃M4,W (.msl ha 0 c.out.length c.out.length 6) (.msl hb 0 c.out.length c.out.length 1) (.msl hd 0 c.out.length c.out.length 1)=M4:=⟨_,rfl⟩;have k4:=kW (.msl ha 0 c.out.length c.out.length 6) (.msl hb 0 c.out.length c.out.length 1) (.msl hd 0 c.out.length c.out.length 1);have l4:=lW (.msl ha 0 c.out.length c.out.length 6) (.msl hb 0 c.out.length c.out.length 1) (.msl hd 0 c.out.length c.out.length 1)
 have set5:∀(u v w u' v' w':PV) (A B D:MO),(W u v w++[A]++[B]++[D]).set σ.length (.cells (ckL s o O u' v' w' c.p c.over) 79)=W u' v' w'++[A]++[B]++[D]:=fun u v w u' v' w' A B D=>by
  rw[Qu,Qu,Xy _ _ (by rw[lW];omega),hW,List.set_set,<- hW];simp only[Qu]
 have get5:∀(u v w:PV) (A B D:MO),(W u v w++[A]++[B]++[D])[σ.length]?=sM (.cells (ckL s o O u v w c.p c.over) 79):=fun u v w A B D=>by
  rw[Qu,Qu,Qr (by rw[lW];omega),sW]
 rw[hM4] at k4 l4 set4;have set6:∀(u' v' w':PV) (A B D:MO),(M4++[A]++[B]++[D]).set σ.length (.cells (ckL s o O u' v' w' c.p c.over) 79)=W u' v' w'++[A]++[B]++[D]:=fun u' v' w' A B D=>by rw[<- hM4,set5]
 have get6:∀(A B D:MO),(M4++[A]++[B]++[D])[σ.length]?=sM (.cells (ckL s o O (.msl ha 0 c.out.length c.out.length 6) (.msl hb 0 c.out.length c.out.length 1) (.msl hd 0 c.out.length c.out.length 1) c.p c.over) 79):=fun A B D=>by rw[<- hM4,get5]
 have cpA:CpS M4 (.msl ha 0 c.out.length c.out.length 6) 6 c.ask.length (c.ask.map XW).flatten:=BSl.cp (R:=fun _=>True) (.inl ⟨ha,trivial,by rw[k.la],k4.ask⟩);have cpB:CpS M4 (.msl hb 0 c.out.length c.out.length 1) 1 c.bid.length (c.bid.map K9):=OSl.cp (R:=fun _=>True) ⟨hb,trivial,by rw[k.lb],k4.bid⟩;have cpD:CpS M4 (.msl hd 0 c.out.length c.out.length 1) 1 c.out.length (c.out.map K9):=OSl.cp (R:=fun _=>True) ⟨hd,trivial,rfl,k4.out⟩;have c1:=a6d cpA (by rw[k.la];exact hN) n (by omega);obtain⟨A,hA⟩:∃A:MO,Kk (c.ask.map XW).flatten 51=A:=⟨_,rfl⟩;obtain⟨B,hB⟩:∃B:MO,Kk (c.bid.map K9) 4=B:=⟨_,rfl⟩;obtain⟨D,hD⟩:∃D:MO,Kk (c.out.map K9) 4=D:=⟨_,rfl⟩;have c2:=d1g (cpB.app [A]) (by rw[k.lb];exact hN) n (by omega);have c3':=d1g ((cpD.app [A]).app [B]) hN n (by omega);rw[Qv,QE] at c2;rw[Qv,Qv,QE,QE] at c3';rw[k.la,hA] at c1;rw[k.lb,hB] at c2;rw[hD] at c3';have q0:=k4.obj;have q1:=a3O (τ:=[A]) k4.obj;have q2:=a3O (τ:=[B]) q1;have q2':=k2.obj;have e3:=k.obj;have u0:=a7q q0;have u01:=a7n q0;have u4:=a6Y q0;have u6:=a6W q0;have u7:=a7p q0;have u8:=a7y q0;have u9:=a7c q0;have u15:=a5N q0;have u16:=a5H q0;have u17:=a5s q0;have u18:=a5R q0;have w0:=a7q q1;have w01:=a7n q1;have w4:=a6Y q1;have w6:=a6W q1;have w7:=a7p q1;have w8:=a7y q1;have w9:=a7c q1;have w15:=a5N q1;have w16:=a5H q1;have w17:=a5s q1;have w18:=a5R q1;have y0:=a7q q2;have y01:=a7n q2;have y4:=a6Y q2;have y6:=a6W q2;have y7:=a7p q2;have y8:=a7y q2;have y9:=a7c q2;have y15:=a5N q2;have y16:=a5H q2;have y17:=a5s q2;have y18:=a5R q2;have t0:=a7q q2';have t01:=a7n q2';have t4:=a6Y q2';have t6:=a6W q2';have t7:=a7p q2';have t8:=a7y q2';have t9:=a7c q2';have t15:=a5N q2';have t16:=a5H q2';have t17:=a5s q2';have t18:=a5R q2';have rall:=rdk0_19 e3;have z0:a3Y [PV.nilS,.nilS,.nilS,.nilS,.int .i64 0,.int .i64 0,.int .i64 0,.int .i64 0,.nilS,.int .i64 0,.int .i64 0,.int .i64 0,.int .i64 0,.int .i64 0,.int .i64 0,.nilS,.nilS,.nilS,.bool ff] 0 [s.P,s.B,s.C,s.A,.int .i64 o.st,.int .i64 o.pc,.int .i64 o.un,.int .i64 o.ru,vcl,.int .i64 c.p.a,.int .i64 c.p.b,.int .i64 c.p.c,.int .i64 c.p.d,.int .i64 c.p.e,.int .i64 c.p.f,.msl ha 0 c.out.length c.out.length 6,.msl hb 0 c.out.length c.out.length 1,.msl hd 0 c.out.length c.out.length 1,.bool c.over]=ckL s o vcl (.msl ha 0 c.out.length c.out.length 6) (.msl hb 0 c.out.length c.out.length 1) (.msl hd 0 c.out.length c.out.length 1) c.p c.over:=rfl;have z1:∀vc va vb vd,a3Y (ckL s o vc va vb vd c.p c.over) 0 [s.P,s.B,s.C,s.A]=ckL s o vc va vb vd c.p c.over:=fun _ _ _ _=>rfl
 have z15:∀vc va vb vd v,a3Y (ckL s o vc va vb vd c.p c.over) 15 [v]=ckL s o vc v vb vd c.p c.over:=fun _ _ _ _ _=>rfl
 have z16:∀vc va vb vd v,a3Y (ckL s o vc va vb vd c.p c.over) 16 [v]=ckL s o vc va v vd c.p c.over:=fun _ _ _ _ _=>rfl
 have z17:∀vc va vb vd v,a3Y (ckL s o vc va vb vd c.p c.over) 17 [v]=ckL s o vc va vb v c.p c.over:=fun _ _ _ _ _=>rfl
 have hgt:∀x:MO,(σ++[x])[σ.length]?=sM x:=fun x=>by simp
 have n1:∀x:MO,(σ++[x]).set σ.length (.cells (ckL s o vcl (.msl ha 0 c.out.length c.out.length 6) (.msl hb 0 c.out.length c.out.length 1) (.msl hd 0 c.out.length c.out.length 1) c.p c.over) 79)=M2:=fun x=>by rw[d2k,<- hM2];rfl
 have lowW:Low (W (.msl M3.length 0 c.out.length c.out.length 6) (.msl (M3.length+1) 0 c.out.length c.out.length 1) (.msl (M3.length+1+1) 0 c.out.length c.out.length 1)++[A]++[B]++[D]):=by
  unfold Low;simp only[Qv,QE,lW,QX,X0,X9,Xf,QD];refine⟨⟨⟨Qy.2 fun y hy=>?_,by rw[<- hA];exact b0o _ _ _⟩,by rw[<- hB];exact b2d _ _ _⟩,by rw[<- hD];exact b2d _ _ _⟩;rw[hW] at hy;rcases QU hy with hy|rfl
  ·exact Kv (by omega) (Qy.1 r4 y hy)
  ·exact(b1m (s:=s) (o:=o) (p:=c.p) (ov:=c.over)).2 ⟨up (by omega) hlow.1,up (by omega) hlow.2.1,up (by omega) hlow.2.2.1,up (by omega) hlow.2.2.2.1,hO.low fun x hx=>by omega,by simp[Kh];try omega,by simp[Kh];try omega,by simp[Kh];try omega⟩
 refine⟨W (.msl M3.length 0 c.out.length c.out.length 6) (.msl (M3.length+1) 0 c.out.length c.out.length 1) (.msl (M3.length+1+1) 0 c.out.length c.out.length 1)++[A]++[B]++[D],fun x=>x=σ.length\/x=M3.length\/x=M3.length+1\/x=M3.length+1+1\/(M2.length<=x/\x<M3.length),?_,⟨O,M3.length,M3.length+1,M3.length+1+1,fun x=>M2.length<=x/\x<M3.length,?_,fun x=>Iff.rfl⟩,fun x hx=>by omega,fun x hx=>?_,by simp[lW];omega,lowW⟩
 ·simp only[KF] at k1 r1 c1 c2 c3'
  rw[l4] at c1 c2 c3';rw[a0a];simp only[f8o,Q0,Ka];show ((a0i [.sh (.one _)] _).bind _)=_;simp only[a0i,a0m,a0c,Q1,Q0,Q8,K5,b3G];have hcO:=k.cl.rd.one
  have E:K1 (a0a Tab n) f7U {i:=[],b:=[],v:=[.ref h 0],m:=σ,k:=σ.length}=sM (.ret (.ref σ.length 0) (W (.msl M3.length 0 c.out.length c.out.length 6) (.msl (M3.length+1) 0 c.out.length c.out.length 1) (.msl (M3.length+1+1) 0 c.out.length c.out.length 1)++[A]++[B]++[D])):=by
   simp only[f7U,↓reduceIte,a0e,a0h,a0F,a0A,a2E,a1s,XX,XY,XV,PEnv.at,Q3,Q5,Q7,Qb,a0H,a2p,QM,Q9,Qa,Nat.reduceAdd,Qm,Q2,a0c,a0w,a0m,Q1,Q0,K3,Q6,Q4,Q8,XZ,XU,a7a,a5f,a6S,a6T,Qf,rall,b4E,hcO,p3,b3,c3,a3,hgt,z0,n1,Nat.reduceLeDiff,t0,k1,r1,oO,s3,b4n,z1,set3,e4Z,set4,u15]
   repeat' (first|with_reducible rfl|apply a4n|simp only[↓reduceIte,a0j,a0F,a0A,a1s,Q7,Qb,a0H,a2p,QM,Q9,Qa,Nat.reduceAdd,a0c,a0w,a0m,Q1,Q0,K3,Q6,Q4,Q8,XZ,XU,Qf,u16,u17,w16,w17,y17,b4E,c1,c2,c3',get6,get5,b4n,Nat.reduceLeDiff,z15,z16,z17,set6,set5,PV.on,a0n,Kf]|unfold f8b|unfold f8d|unfold f8h|unfold f8j|unfold f8g|unfold f8f|unfold f8i|unfold f8c|unfold f8e|unfold f8a|unfold f7Y|unfold f7Z)
  show ((K1 (a0a Tab n) f7U _).bind _)=_;exact(congrArg (Xa · _) E).trans rfl
 ·have ga:(W (.msl M3.length 0 c.out.length c.out.length 6) (.msl (M3.length+1) 0 c.out.length c.out.length 1) (.msl (M3.length+1+1) 0 c.out.length c.out.length 1)++[A]++[B]++[D])[M3.length]?=sM A:=by
   rw[Qu,Qu,QV (by rw[lW];exact Qm _),lW,Xb];rfl
  have gb:(W (.msl M3.length 0 c.out.length c.out.length 6) (.msl (M3.length+1) 0 c.out.length c.out.length 1) (.msl (M3.length+1+1) 0 c.out.length c.out.length 1)++[A]++[B]++[D])[M3.length+1]?=sM B:=by
   rw[Qu,Qu,QV (by rw[lW];omega),lW,X8];rfl
  have gd:(W (.msl M3.length 0 c.out.length c.out.length 6) (.msl (M3.length+1) 0 c.out.length c.out.length 1) (.msl (M3.length+1+1) 0 c.out.length c.out.length 1)++[A]++[B]++[D])[M3.length+1+1]?=sM D:=by
   rw[Qu,Qu,QV (by rw[lW];omega),lW,show M3.length+1+1-M3.length=2 by omega];rfl
  refine⟨get5 _ _ _ _ _ _,by rw[ga,<- hA],by rw[gb,<- hB],by rw[gd,<- hD],k.la,k.lb,hO.frame fun x hx=>?_,fun x hx=>by simp[lW];omega,by omega,by omega,by omega,by omega,by omega⟩;rw[Qu,Qu,Qr (by rw[lW];omega),oW _ _ _ _ (by omega)]
 ·rw[Qu,Qu,Qr (by rw[lW];omega),oW _ _ _ _ (by omega),o3 x hx]
end
structure Stp where
 (k i r:Int) (w:W6)
def Stp.row(q:Stp):List PV:=[.int .i64 q.k,.int .i64 q.i,.int .i64 q.r,.int .i64 q.w.a,.int .i64 q.w.b,.int .i64 q.w.c,.int .i64 q.w.d,.int .i64 q.w.e,.int .i64 q.w.f]
section
variable (cs ad:List Tri)(o:Po)(s:St)
noncomputable def Ck.step(c:Ck)(q:Stp):Ck×Bool×Int :=
 if q.k=0 then((c.doBid s.ps s.bs cs ad o s q.i q.w).1,ff,(c.doBid s.ps s.bs cs ad o s q.i q.w).2) else
 if q.k=1 then c.close s.ps o else
 if q.k=2 then(c.stop.1,ff,c.stop.2) else
 if q.k=3 then((c.drop q.i).1,ff,(c.drop q.i).2) else((c.reset q.r).1,ff,(c.reset q.r).2)
variable {cs ad o s}
theorem e7P{c:Ck}(hk:CkOk s.bs.length c)(q:Stp):CkOk s.bs.length (c.step cs ad o s q).1:=by
 unfold Ck.step
 repeat' split
 ·exact f5u hk rfl cs ad o q.i q.w
 ·exact f1I hk
 ·exact f4F hk
 ·exact f3O hk q.i
 ·exact f2C hk q.r
section
variable (hs:SuOk s cs ad)(hv:a8s s.ps s.bs cs ad=0)(ho:o.ok){σ:List MO}{h:Nat}{F:Nat->Prop}{c:Ck}(K:b4z s o σ h F c)(hσ:Low σ)(hk:CkOk s.bs.length c)(n:Nat)
include hs hv ho K hσ hk
theorem f6D(q:Stp)(hn:33000<=n):d4Q s o σ h F (c.step cs ad o s q).1 (.tup [.bool (c.step cs ad o s q).2.1,.int .i64 (c.step cs ad o s q).2.2]) (a0a Tab n 12 [.ref h 0,.agg q.row] σ):=by
 obtain⟨n,rfl⟩:=a0L n (by omega);obtain⟨l1,l2,l3,l4,l5⟩:=SuOk.lens hv;have hN:c.out.length<=1000:=by rw[hk.out];omega
 have hcl:c.cl.length<=100:=by have:=hk.cl;omega
 have e5:=a3l
 have go:∀r,K1 (a0a Tab n) a4E {i:=[q.k,q.i,q.r,q.w.a,q.w.b,q.w.c,q.w.d,q.w.e,q.w.f],b:=[],v:=[.ref h 0],m:=σ,k:=σ.length}=sM (.ret r.1 r.2)->a0a Tab (n+1) 12 [.ref h 0,.agg q.row] σ=sM r:=fun r hr=>by
  rw[a0a];simp only[d2s,Q0,Ka,Stp.row];show ((a0i [.sh (.one _),.sh (.agg [_,_,_,_,_,_,_,_,_])] _).bind _)=_;simp only[a0i,a0m,a0c,Q1,Q0,Q8,Q4,K5,b3G];show ((K1 (a0a Tab n) a4E _).bind _)=_;exact(congrArg (Xa · _) hr).trans rfl
 unfold Ck.step;by_cases h0:q.k=0
 ·obtain⟨σ',F',e1,e2⟩:=f5I hs hv ho K hσ hk n q.i q.w (by omega)
  simp only[XT h0];refine⟨σ',F',go (_,_) ?_,e2⟩;simp only[pv6] at e1;simp only[a4E,↓reduceIte,a0j,a0e,a0A,XX,XY,XV,Q3,Q5,Q7,a0c,a0w,a0m,Q1,Q0,K3,Q6,Q4,XZ,XU,e5,dT0 h0,e1,a0n,Kf]
 simp only[K4 h0];by_cases h1:q.k=1
 ·obtain⟨σ',F',e1,e2⟩:=f2i hs hv ho K hσ hk n (by omega)
  simp only[XT h1];refine⟨σ',F',go (_,_) ?_,e2⟩
  skip
  simp only[a4E,↓reduceIte,a0j,a0e,a0A,XX,XY,XV,Q3,Q5,Q7,Q2,a0c,a0w,a0m,Q1,Q0,K3,Q6,Q4,Q8,XZ,XU,e5,dF0 h0,dT0 h1,e1,a1J,a0n,Kf]
 simp only[K4 h1];by_cases h2:q.k=2
 ·obtain⟨σ',F',e1,e2⟩:=f3S K hσ hN n (by omega)
  simp only[XT h2];refine⟨σ',F',go (_,_) ?_,e2⟩
  skip
  simp only[a4E,↓reduceIte,a0j,a0e,a0A,XX,XY,XV,Q3,Q5,Q7,Q2,a0c,a0w,a0m,Q1,Q0,K3,Q6,Q4,XZ,XU,e5,dF0 h0,dF0 h1,dT0 h2,e1,a0n,Kf]
 simp only[K4 h2];by_cases h3:q.k=3
 ·obtain⟨σ',F',e1,e2⟩:=f3H K hσ hN n q.i (by omega)
  simp only[XT h3];refine⟨σ',F',go (_,_) ?_,e2⟩
  skip
  simp only[a4E,↓reduceIte,a0j,a0e,a0A,XX,XY,XV,Q3,Q5,Q7,Q2,a0c,a0w,a0m,Q1,Q0,K3,Q6,Q4,XZ,XU,e5,dF0 h0,dF0 h1,dF0 h2,dT0 h3,e1,a0n,Kf]
 simp only[K4 h3];obtain⟨σ',F',e1,e2⟩:=f2K K hσ hN hcl n q.r (by omega);refine⟨σ',F',go (_,_) ?_,e2⟩
 skip
 simp only[a4E,↓reduceIte,a0j,a0e,a0A,XX,XY,XV,Q3,Q5,Q7,Q2,a0c,a0w,a0m,Q1,Q0,K3,Q6,Q4,XZ,XU,e5,dF0 h0,dF0 h1,dF0 h2,dF0 h3,e1,a0n,Kf]
end
end
theorem f2J(σ:List MO)(is:List Int)(b:List Bool)(vs:List PV)(z:Bool):a0n {i:=is,b:=b,v:=vs,m:=σ,k:=0} ff (.bool z)=sM (.bool z,[]):=by
 unfold a0n;dsimp only;split
 ·rename_i h
  have h:σ=[]:=by
   rcases h with h|h
   ·cases h
   ·exact List.length_eq_zero_iff.1 h
  rw[h]
 ·rw[QA];rfl
theorem f0p(σ:List MO)(n:Nat)(hn:1<=n){P B C A E:PV}{p b c a e:Nat}(hp:P.isKind 0=tt/\P.len=(p:Int)/\P.one=tt)(hb:B.isKind 0=tt/\B.len=(b:Int)/\B.one=tt)(hc:C.isKind 0=tt/\C.len=(c:Int)/\C.one=tt)(ha:A.isKind 0=tt/\A.len=(a:Int)/\A.one=tt)(he:E.isKind 0=tt/\E.len=(e:Int)/\E.one=tt) :
  ∃z,a0a Tab n 7 [.agg [P,B,C,A],E] σ=sM (.bool z,σ)/\(z=ff->p<=10/\b<=10/\c<=20/\a<=10/\e<=200):=by
 obtain⟨n,rfl⟩:=a0L n (by omega);refine⟨ltB 10 (p:Int)||(ltB 10 (b:Int)||(ltB 20 (c:Int)||(ltB 10 (a:Int)||ltB 200 (e:Int)))),?_,fun h=>?_⟩
 ·rw[a0a]
  simp only[c7I,Q0,Ka];show ((a0i [.sh (.agg [_,_,_,_]),.sh (.one _)] _).bind _)=_;simp only[a0i,a0m,a0c,Q1,Q0,Q8,Q4,Q6,K5,hp.2.2,hb.2.2,hc.2.2,ha.2.2,he.2.2];show (K1 _ a4B _).bind _=_;have dich:∀x:Bool,x=tt\/x=ff:=fun x=>by cases x<;>simp
  rcases dich (ltB 10 (p:Int)) with e1|e1
  ·simp only[a4B,↓reduceIte,a0j,a0e,a0h,XX,XY,XV,PEnv.at,Q3,Q2,Q1,Q0,XU,hp.1,hp.2.1,e1,a0n,Kc,X6]
  rcases dich (ltB 10 (b:Int)) with e2|e2
  ·simp only[a4B,↓reduceIte,a0j,a0e,a0h,XX,XY,XV,PEnv.at,Q3,Q5,Q2,Q1,Q0,XU,hp.1,hp.2.1,hb.1,hb.2.1,e1,e2,a0n,Kc,X6,Xg]
  rcases dich (ltB 20 (c:Int)) with e3|e3
  ·simp only[a4B,↓reduceIte,a0j,a0e,a0h,XX,XY,XV,PEnv.at,Q3,Q5,Q2,Q1,Q0,XU,hp.1,hp.2.1,hb.1,hb.2.1,hc.1,hc.2.1,e1,e2,e3,a0n,Kc,X6,Xg]
  rcases dich (ltB 10 (a:Int)) with e4|e4
  ·simp only[a4B,↓reduceIte,a0j,a0e,a0h,XX,XY,XV,PEnv.at,Q3,Q5,Q2,Q1,Q0,XU,hp.1,hp.2.1,hb.1,hb.2.1,hc.1,hc.2.1,ha.1,ha.2.1,e1,e2,e3,e4,a0n,Kc,X6,Xg]
  simp only[a4B,↓reduceIte,a0j,a0e,a0h,XX,XY,XV,PEnv.at,Q3,Q5,Q2,Q1,Q0,XU,hp.1,hp.2.1,hb.1,hb.2.1,hc.1,hc.2.1,ha.1,ha.2.1,he.1,he.2.1,e1,e2,e3,e4,a0n,Kc,Xg]
 ·simp only[Bool.or_eq_false_iff,a0G] at h
  omega
theorem f4p(q:Stp):q.row=[.int .i64 q.k,.int .i64 q.i,.int .i64 q.r,.int .i64 q.w.a,.int .i64 q.w.b,.int .i64 q.w.c,.int .i64 q.w.d,.int .i64 q.w.e,.int .i64 q.w.f]:=rfl
section
variable {s:St}{cs ad:List Tri}(hs:SuOk s cs ad)(hv:a8s s.ps s.bs cs ad=0){o:Po}(ho:o.ok)(n:Nat){E:PV}{l:List Stp}(hE:E.rowsOf 9=sM (l.map Stp.row)){h:Nat}
section
variable {M:List MO}{O:PV}{cl:List Rn}{R:Nat->Prop}(hO:CSl M R O cl)(hok:∀r∈cl,r.ask.length<=8/\∀(j:Nat) w,r.ask[j]?=sM w->b8F s.ps s.bs cs ad (j:Int) w=0)(hcl:cl.length<=30)
include hs hv hO hok hcl
end
end
open Go.ChangeShapes Go.WideShapes Go.ChangeAt Go.RowKit Go.Sx
theorem f1u{n:Nat}{r:List PV}(h:a2G Tryz.prog n 29 r):∃x:Po,r=x.row:=by
 obtain⟨m,hm,hr⟩:=a9c Tryz.underlying29 h;simp only[Qe,Qh,a8r] at hr;obtain⟨_,_,rfl,h1,_,_,rfl,h2,_,_,rfl,h3,_,_,rfl,h4,rfl⟩:=hr;obtain⟨a,rfl,_⟩:=a2z (k:=.i64) (by kernel_rfl) h1;obtain⟨b,rfl,_⟩:=a2z (k:=.i64) (by kernel_rfl) h2;obtain⟨c,rfl,_⟩:=a2z (k:=.i64) (by kernel_rfl) h3;obtain⟨d,rfl,_⟩:=a2z (k:=.i64) (by kernel_rfl) h4;exact⟨⟨a,b,c,d⟩,rfl⟩
theorem e8N{n:Nat}{r:List PV}(h:a2G Tryz.prog n 53 r):∃x:Stp,r=x.row:=by
 obtain⟨m,hm,hr⟩:=a9c Tryz.underlying53 h;simp only[Qe,Qh,a8r] at hr;obtain⟨_,_,rfl,h1,_,_,rfl,h2,_,_,rfl,h3,_,_,rfl,h4,rfl⟩:=hr;obtain⟨k,rfl,_⟩:=a2z (k:=.i64) (by kernel_rfl) h1;obtain⟨i,rfl,_⟩:=a2z (k:=.i64) (by kernel_rfl) h2;obtain⟨r,rfl,_⟩:=a2z (k:=.i64) (by kernel_rfl) h3;obtain⟨m',_,h⟩:=e3N Tryz.underlying51 h4;simp only[Qk,a8r] at h;obtain⟨_,_,rfl,w1,_,_,rfl,w2,_,_,rfl,w3,_,_,rfl,w4,_,_,rfl,w5,_,_,rfl,w6,rfl⟩:=h;obtain⟨a,rfl,_⟩:=a2z (k:=.i64) (by kernel_rfl) w1;obtain⟨b,rfl,_⟩:=a2z (k:=.i64) (by kernel_rfl) w2;obtain⟨c,rfl,_⟩:=a2z (k:=.i64) (by kernel_rfl) w3;obtain⟨d,rfl,_⟩:=a2z (k:=.i64) (by kernel_rfl) w4;obtain⟨e,rfl,_⟩:=a2z (k:=.i64) (by kernel_rfl) w5;obtain⟨f,rfl,_⟩:=a2z (k:=.i64) (by kernel_rfl) w6;exact⟨⟨k,i,r,⟨a,b,c,d,e,f⟩⟩,rfl⟩
theorem knl{K:Nat}{P:PV}{rows:List (List PV)}{N:Nat}(h:P.rowsOf K=sM rows)(hN:rows.length=N):P.isKind 0=tt/\P.len=(N:Int)/\P.one=tt:=by
 obtain⟨p1,p2,p3⟩:=a0b h;exact⟨p2,by rw[p1,hN],p3⟩
end Go.Proofs.YtmekflfjaflmkaaGreat
