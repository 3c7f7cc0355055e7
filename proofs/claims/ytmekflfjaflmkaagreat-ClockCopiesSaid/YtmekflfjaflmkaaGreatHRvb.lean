/- Units of a group in a bundle: the code's and the reference's. -/
import Derived.Test.YtmekflfjaflmkaaGreatHRva
import Derived.Test.YtmekflfjaflmkaaGreatHTxd
set_option linter.unusedSimpArgs false
set_option linter.unusedVariables false
set_option linter.unusedSectionVars false
open Option renaming bind_some → Q0, map_some → Q1, getD_some → Qy, bind_eq_bind → QE, pure_def → QH, getD_none → X3
open Bool renaming false_eq_true → Q2, and_self → Qf, not_true → Qm, not_false → Qp, false_or → QK, true_or → QQ, not_eq_true → QS, or_eq_true → Xn
open List renaming getD_cons_zero → Q3, getD_cons_succ → Q4, nil_append → Q5, cons_append → Q6, getElem?_cons_zero → Q7, getElem?_cons_succ → Q8, map_nil → Q9, map_cons → Qa, append_nil → Qb, length_nil → Qd, length_cons → Qg, replicate → Qh, length_map → Qj, take_zero → Qn, take_succ_cons → Qq, drop_zero → Qs, mem_of_getElem? → Qt, range → Qu, getElem?_eq_some_iff → QA, mapM_cons → QC, mapM_nil → QD, drop_length → QL, foldl_nil → QM, drop → QN, reverse_nil → QP, mem_range → QV, take_left' → QW, take_add_one → QY, mem_map → QZ, drop_eq_getElem_cons → X1, foldl_cons → X2, append_assoc → X4, set_append_right → X5, take_length → X8, length_eq_zero_iff → X9, getLast?_eq_getElem? → Xa, range_succ → Xb, replicate_succ' → Xc, all_eq_true → Xd
open Nat renaming add_zero → Qe, le_refl → Qk, zero_add → Qr, mul_one → Qv, le_add_left → Qw, mul_le_mul → Qz, add_mul → QB, zero_mul → QJ, succ_mul → X0, mul_le_mul_right → X6, mod_lt → X7, add_le_add_right → Xe, mul_add_mod' → Xf, mod_eq_of_lt → Xg, mul_add_div → Xh, div_eq_of_lt → Xj, div_add_mod' → Xk
open Int renaming toNat_natCast → QU, cast_ofNat_Int → QX
open _root_ renaming if_pos → Xp, or_true → Xv, if_neg → XA, if_true → XD, absurd → XJ, decide_true → XQ, decide_false → XR
open Go.Sx.IE renaming pe → Xq
open Go.Sx.SV renaming pv → Xr, pvs → Xu
open Go.Sx.BE renaming safe → Xs, pe → Xt, all → Xx
open Go.Sx.Sys renaming loop → Xw, run → XE
open Go.Sx.PEnv renaming push → Xy
open Go.Sx.PT renaming ev → Xz
open Go.Proofs.YtmekflfjaflmkaaGreat.W6 renaming pv → XC
open Go.Proofs.YtmekflfjaflmkaaGreat.Ch renaming row → XF
open Go.Sx.MO renaming list → XG
open Go.Proofs.YtmekflfjaflmkaaGreat.Pr renaming row → XH, p → XN, r → XP, rng → XS
open Go.Proofs.YtmekflfjaflmkaaGreat.St renaming pv → XK
open Go.Sx.PV renaming sl → XL, len → XU, isKind → XV, frz → XW, nilS → XX, lowss → XY
open Go.Proofs.YtmekflfjaflmkaaGreat.Tri renaming row → XM
open Go.Proofs.YtmekflfjaflmkaaGreat.Bd renaming row → XT
open Bool renaming false → ff, true → tt
open Option renaming some → sm, none → nn
set_option maxRecDepth 100000
namespace Go.Proofs.YtmekflfjaflmkaaGreat
open Go.Sx
def un(g:Int)(x:Pr):Int:=if eqB x.g g=tt then 1 else 0
theorem e9j(g:Int)(x:Pr):0<=un g x/\un g x<=1:=by unfold un;split<;>omega
def unV(l:List Pr)(g:Int)(w:W6):Int:=if eqB (b4p l) 0=tt then(if eqB (a4o w) 0=tt then ptS (un g) l w l.length else 0) else 0
theorem f3D(σ:List MO)(g:Int)(x:Pr)(n:Nat)(hn:1<=n):a0a Tab n 132 [.agg x.row,.ref σ.length 0] (σ++[.cells [.int .i64 g] 3])=sm (.int .i64 (un g x),σ++[.cells [.int .i64 g] 3]):=by
 obtain⟨n,rfl⟩:=a0L n (by omega);have g0:(σ++[MO.cells [.int .i64 g] 3])[σ.length]?=sm (.cells [.int .i64 g] 3):=by simp
 simp only[a0a,d4c,Q0,XE,a5X];show ((a0i [.sh (.agg [_,_,_,_,_]),.ptr] _).bind _)=_;simp only[a0i,a0m,a0c,Q1,Q0,Q5,Q6,XD,a3G];show (Xz _ b8M _).bind _=_;simp only[b8M,↓reduceIte,a0j,a0e,a0F,Xs,Xt,Xq,Q3,Q4,Q7,Q8,a0H,a2p,a0x,a1g,Qe,Qs,Qg,Qd,Nat.reduceAdd,Qk,Q2,Qq,Qn,a0c,Q1,Q0,Xy,Q6,Q5,Xr,g0,XG];unfold un;cases eqB x.g g<;>simp only[↓reduceIte,Q2,Q1,Q0,a0n,Xv,Q2]
def e9D(σ:List MO)(P F:PV)(is:List Int)(w:W6):PEnv:={i:=is++[w.a,w.b,w.c,w.d,w.e,w.f],b:=[],v:=[F,P],m:=σ,k:=σ.length}
theorem e9z(σ:List MO)(g:Int)(l:List Pr)(P:PV)(hP:P.rowsOf 5=sm (l.map XH))(w:W6)(hw:w.ok)(hl:l.length<=6)(n:Nat)(hn:1<=n):∀d i,i+d=l.length->∀fuel,
  a3M.loop (a0a Tab n) (fuel+d+1) 0 (e9D (σ++[.cells [.int .i64 g] 3]) P (.fn 132 [.ref σ.length 0]) [ptS (un g) l w i,(l.length:Int),(i:Int)] w)=sm (.int .i64 (ptS (un g) l w l.length),σ++[.cells [.int .i64 g] 3]):=by
 obtain⟨p1,p2,p3⟩:=a0b hP;rw[Qj] at p1;intro d
 induction d with
 | zero =>
  intro i hi fuel;rw[Qe] at hi;subst hi;have hd:decide (l.length<l.length)=ff:=by simp
  rw[Xw,show a3M.loops[0]?=sm a3C from rfl];simp only[Q0,e9D,a3C,↓reduceIte,a0j,a0e,Xs,Xt,Xq,Q3,Q4,Q2,Q1,Q0,Q6,Q5,Xr,a0I,hd,a0n,Xv]
 | succ d ih =>
  intro i hi fuel;have hlt:i<l.length:=by omega
  obtain⟨x,hx⟩:=a0S hlt;have hd:decide (i<l.length)=tt:=dT0 hlt;have hq:=a0V (off:=0) hP (a5e hx);have hw1:=d0P hw i;have b1:=c3W (f:=un g) (l:=l) (b:=1) hw (by omega) (fun y hy=>e9j g y) i;have c1:=f3D σ g x n hn;have ih:=ih (i+1) (by omega) fuel;rw[a1o] at ih;have k1:ptS (un g) l w (i+1)=ptS (un g) l w i+a8p w i*un g x:=by simp only[ptS,c2v,hx,Q1,Qy]
  have hu:=e9j g x;have hm:0<=a8p w i*un g x/\a8p w i*un g x<=4*1:=⟨Int.mul_nonneg hw1.1 hu.1,Int.mul_le_mul hw1.2 hu.2 hu.1 (by omega)⟩;rw[k1] at ih;generalize ptS (un g) l w i=s1 at *
  generalize un g x=ux at *
  have q1:=a1K (z:=a8p w i*ux) (by omega);have q2:=a1K (z:=s1+a8p w i*ux) (by omega);simp only[a5X] at c1;rw[<- ih,show fuel+(d+1)+1=(fuel+d+1)+1 from rfl,Xw,show a3M.loops[0]?=sm a3C from rfl];simp only[Q0,e9D,a3C,↓reduceIte,a0e,a0h,a0F,a7P,a0s,Xs,Xt,Xq,PEnv.at,Q3,Q4,Q7,Q8,a0H,a0x,a1g,Qs,Qg,Qd,Nat.reduceAdd,Qk,Q2,Qq,Qn,a0c,a0w,a0m,Q1,Q0,Xy,Q6,Q5,Xu,Xr,Xx,Qf,Qa,Q9,p1,a0I,hd,le0,hq,a5X,a3G,c1];obtain rfl|rfl|rfl|rfl|rfl|rfl:i=0\/i=1\/i=2\/i=3\/i=4\/i=5:=by omega
  all_goals
   simp only[a8p,wl,Q7,Q8,Qy] at q1 q2 ⊢;have e5:=a3l;simp only[↓reduceIte,Q2,Q0,e5,Int.reduceEq,QX,XQ,XR,q1,q2,Int.reduceAdd]
theorem f0H(σ:List MO)(hlow:σ.all (MO.low σ.length)=tt)(l:List Pr)(P:PV)(hP:P.rowsOf 5=sm (l.map XH))(g:Int)(w:W6)(n:Nat)(hn:100<=n):a0a Tab n 118 [P,.int .i64 g,.agg w.pv] σ=sm (.int .i64 (unV l g w),σ):=by
 obtain⟨n,rfl⟩:=a0L n (by omega);obtain⟨p1,p2,p3⟩:=a0b hP;rw[Qj] at p1
 have c0:a0a Tab n 131 [.agg [P,.int .i64 w.a,.int .i64 w.b,.int .i64 w.c,.int .i64 w.d,.int .i64 w.e,.int .i64 w.f],.fn 132 [.ref σ.length 0]] (σ++[.cells [.int .i64 g] 3])=sm (.int .i64 (unV l g w),σ++[.cells [.int .i64 g] 3]):=by
  obtain⟨n,rfl⟩:=a0L n (by omega);have c1:=c9N (σ++[.cells [.int .i64 g] 3]) l P hP n (by omega);have c2:=a5x (σ++[.cells [.int .i64 g] 3]) w n (by omega);simp only[XC] at c1 c2;rw[a0a];simp only[c0t,Q0,XE];show ((a0i [.sh (.agg [_,_,_,_,_,_,_]),.sh (.one _)] _).bind _)=_;simp only[a0i,a0m,a0c,Q1,Q0,Qb,Q5,Q6,XD,p3,e3X];show (Xz _ a8g _).bind _=_;simp only[a8g,↓reduceIte,a0j,a0e,a0h,a0A,a0s,Xs,Xt,Xq,PEnv.at,Q3,Q4,Q7,Q8,a0c,a0w,a0m,Q1,Q0,Xy,Q6,Q5,Xu,Xr,Xx,Qa,Q9,c1,unV];cases hc:eqB (b4p l) 0 with
  | false=>simp only[↓reduceIte,Q2,Q1,Q0,Qp,a0n,Xv]
  | true =>
   obtain⟨hl,hr⟩:=a9X (a9e.1 hc);simp only[↓reduceIte,Q3,Q2,a0c,Q1,Q0,Qm,c2];cases hb:eqB (a4o w) 0 with
   | false=>simp only[↓reduceIte,Q2,Q1,Q0,Qp,a0n,Xv]
   | true =>
    have hw:w.ok:=by
     by_cases hw:w.ok
     ·exact hw
     ·unfold a4o at hb;rw[XA hw] at hb;cases hb
    obtain⟨f,hf⟩:∃f,n=f+l.length+1:=⟨n-l.length-1,by omega⟩;have hu:=e9z σ g l P hP w hw hl n (by omega) l.length 0 (by omega) f;rw[<- hf] at hu;simp only[↓reduceIte,Q2,Q0,Qm,p1,p2];exact hu
 skip
 rw[a0a];simp only[d7e,Q0,XE,XC];show ((a0i [.sh (.one _),.sh (.one _),.sh (.agg [_,_,_,_,_,_])] _).bind _)=_;simp only[a0i,a0m,a0c,Q1,Q0,Qb,Q5,Q6,XD,p3];show (Xz _ c1v _).bind _=_
 skip
 have hr:∀(is:List Int) (vs:List PV) (z:Int),a0n {i:=is,b:=[],v:=vs,m:=σ++[.cells [.int .i64 g] 3],k:=σ.length} ff (.int .i64 z)=sm (.int .i64 z,σ):=fun is vs z=>by
  unfold a0n;dsimp only;rw[XA (by simp),show List.take σ.length (σ++[MO.cells [.int .i64 g] 3])=σ from List.take_left,Xp hlow];rfl
 have ho:PV.on 0 (.ref σ.length 0)=sm (.ref σ.length 0):=rfl;simp only[c1v,↓reduceIte,a0j,a0A,a2E,Xq,Q3,Q4,Q7,Q8,a0c,a0w,a0m,Q1,Q0,Xy,Q6,Q5,Xu,Xr,ho,c0,hr]
def W6.put(w:W6)(i v:Int):W6:=if i=0 then {w with a:=v} else if i=1 then {w with b:=v} else if i=2 then {w with c:=v} else if i=3 then {w with d:=v} else if i=4 then {w with e:=v} else {w with f:=v}
def W6.at6(w:W6)(i:Int):Int:=if i=0 then w.a else if i=1 then w.b else if i=2 then w.c else if i=3 then w.d else if i=4 then w.e else w.f
def a8e(p:W6×W6)(t:Tri):W6×W6:=(p.1.put t.x (p.1.at6 t.x-t.z),p.2.put t.x t.y)
def W6.wide(w:W6)(m:Int):Prop:=-m<=w.a/\w.a<=4/\-m<=w.b/\w.b<=4/\-m<=w.c/\w.c<=4/\-m<=w.d/\w.d<=4/\-m<=w.e/\w.e<=4/\-m<=w.f/\w.f<=4
def Tri.aok(t:Tri):Prop:=0<=t.x/\t.x<=5/\1<=t.z/\t.z<=4
theorem b5H{x:Int}(h:0<=x/\x<=5):x=0\/x=1\/x=2\/x=3\/x=4\/x=5:=by omega
theorem e3h{o c:W6}{t:Tri}{m:Int}(h:o.wide m)(ht:t.aok)(hm:0<=m):(a8e (o,c) t).1.wide (m+4):=by
 obtain⟨x,y,z⟩:=t;obtain⟨a,b,cc,d,e,f⟩:=o;simp only[Tri.aok,W6.wide] at *
 rcases b5H ⟨ht.1,ht.2.1⟩ with rfl|rfl|rfl|rfl|rfl|rfl<;>simp[a8e,W6.put,W6.at6]<;>omega
def shF(ps:List Pr)(ad:List Tri):W6×W6:=ad.foldl a8e (a2x ps,⟨0,0,0,0,0,0⟩)
section
variable (σ:List MO)(ad:List Tri)(P B C A:PV)(hA:A.rowsOf 3=sm (ad.map XM))(n:Nat)
def e0u(σ:List MO)(P B C A:PV)(N i:Int)(o c:W6):PEnv:={i:=[N,i,o.a,o.b,o.c,o.d,o.e,o.f,c.a,c.b,c.c,c.d,c.e,c.f],b:=[],v:=[A,P,B,C],m:=σ,k:=σ.length}
def c9r(σ:List MO)(P B C A:PV)(_N i:Int)(o c:W6):PEnv:={i:=[i,o.a,o.b,o.c,o.d,o.e,o.f,c.a,c.b,c.c,c.d,c.e,c.f],b:=[],v:=[P,B,C,A],m:=σ,k:=σ.length}
include hA in
theorem f4j{i:Nat}{t:Tri}(hx:ad[i]?=sm t)(ht:t.aok)(hi:i<=1000)(o c:W6)(ho:o.wide 1000)(fuel:Nat) :
  a5F.loop (a0a Tab n) (fuel+1) 0 (e0u σ P B C A (ad.length:Int) (i:Int) o c)=a5F.loop (a0a Tab n) fuel 0 (e0u σ P B C A (ad.length:Int) ((i:Int)+1) (a8e (o,c) t).1 (a8e (o,c) t).2):=by
 obtain⟨p1,p2,p3⟩:=a0b hA;rw[Qj] at p1;have hlt:i<ad.length:=(QA.1 hx).1;have hd:decide (i<ad.length)=tt:=dT0 hlt;have hq:=a0V (off:=0) hA (a7C hx);have hup:=a2N (show i<=1000000000 by omega);obtain⟨x,y,z⟩:=t;simp only[Tri.aok,W6.wide] at ht ho;have u1:=a1K (z:=o.a-z) (by omega);have u2:=a1K (z:=o.b-z) (by omega);have u3:=a1K (z:=o.c-z) (by omega);have u4:=a1K (z:=o.d-z) (by omega);have u5:=a1K (z:=o.e-z) (by omega);have u6:=a1K (z:=o.f-z) (by omega);have e5:=a3l;rw[Xw,show a5F.loops[0]?=sm b1w from rfl];rcases b5H ⟨ht.1,ht.2.1⟩ with rfl|rfl|rfl|rfl|rfl|rfl
 all_goals
  simp only[Q0,e0u,b1w,↓reduceIte,a0e,a0h,a0F,a0s,Xs,Xt,Xq,PEnv.at,Q3,Q4,Q7,Q8,a0H,a0x,a1g,Qs,Qg,Qd,Nat.reduceAdd,Qk,Q2,Qq,Qn,a0c,Q1,Q0,Xy,Q6,Q5,Xu,Xr,Xx,Qf,Qa,Q9,p1,a0I,hd,le0,hq,b0l,e5,Int.reduceEq,XQ,XR,Xp hup,Xp u1,Xp u2,Xp u3,Xp u4,Xp u5,Xp u6];rfl
include hA in
theorem f4h{i:Nat}{t:Tri}(hx:ad[i]?=sm t)(ht:t.aok)(hi:i<=1000)(o c:W6)(ho:o.wide 1000)(fuel:Nat) :
  a1r.loop (a0a Tab n) (fuel+1) 1 (c9r σ P B C A (ad.length:Int) (i:Int) o c)=a1r.loop (a0a Tab n) fuel 1 (c9r σ P B C A (ad.length:Int) ((i:Int)+1) (a8e (o,c) t).1 (a8e (o,c) t).2):=by
 obtain⟨p1,p2,p3⟩:=a0b hA;rw[Qj] at p1;have hlt:i<ad.length:=(QA.1 hx).1;have hd:decide (i<ad.length)=tt:=dT0 hlt;have hq:=a0V (off:=0) hA (a7C hx);have hup:=a2N (show i<=1000000000 by omega);obtain⟨x,y,z⟩:=t;simp only[Tri.aok,W6.wide] at ht ho;have u1:=a1K (z:=o.a-z) (by omega);have u2:=a1K (z:=o.b-z) (by omega);have u3:=a1K (z:=o.c-z) (by omega);have u4:=a1K (z:=o.d-z) (by omega);have u5:=a1K (z:=o.e-z) (by omega);have u6:=a1K (z:=o.f-z) (by omega);have e5:=a3l;rw[Xw,show a1r.loops[1]?=sm a6H from rfl];rcases b5H ⟨ht.1,ht.2.1⟩ with rfl|rfl|rfl|rfl|rfl|rfl
 all_goals
  simp only[Q0,c9r,a6H,↓reduceIte,a0e,a0h,a0F,a0s,Xs,Xt,Xq,PEnv.at,Q3,Q4,Q7,Q8,a0H,a0x,a1g,Qs,Qg,Qd,Nat.reduceAdd,Qk,Q2,Qq,Qn,a0c,Q1,Q0,Xy,Q6,Q5,Xu,Xr,Xx,Qf,Qa,Q9,p1,p2,a0I,hd,le0,hq,b0l,e5,Int.reduceEq,XQ,XR,Xp hup,Xp u1,Xp u2,Xp u3,Xp u4,Xp u5,Xp u6];rfl
include hA in
theorem f5a(o c:W6)(fuel:Nat):a5F.loop (a0a Tab n) (fuel+1) 0 (e0u σ P B C A (ad.length:Int) (ad.length:Int) o c)=sm (.tup [.agg o.pv,.agg c.pv],σ):=by
 obtain⟨p1,p2,p3⟩:=a0b hA;rw[Qj] at p1;have hd:decide (ad.length<ad.length)=ff:=by simp
 rw[Xw,show a5F.loops[0]?=sm b1w from rfl];simp only[Q0,e0u,b1w,↓reduceIte,a0j,a0e,Xs,Xt,Xq,Q3,Q4,Q2,Q1,Q0,Xu,Xr,a0I,hd,XC,a0n,Xv]
include hA in
theorem f5B(o c:W6)(fuel:Nat):a1r.loop (a0a Tab n) (fuel+1) 1 (c9r σ P B C A (ad.length:Int) (ad.length:Int) o c)=sm (.tup [.agg o.pv,.agg c.pv],σ):=by
 obtain⟨p1,p2,p3⟩:=a0b hA;rw[Qj] at p1;have hd:decide (ad.length<ad.length)=ff:=by simp
 rw[Xw,show a1r.loops[1]?=sm a6H from rfl];simp only[Q0,c9r,a6H,↓reduceIte,a0j,a0e,a0h,Xs,Xt,Xq,PEnv.at,Q3,Q4,Q2,Q1,Q0,Xu,Xr,p1,p2,a0I,hd,XC,a0n,Xv]
include hA in
theorem f4f(hb:∀t∈ad,t.aok)(hl:ad.length<=6):∀d i,i+d=ad.length->∀(o c:W6),o.wide (4*i)->∀fuel,
  a5F.loop (a0a Tab n) (fuel+d+1) 0 (e0u σ P B C A (ad.length:Int) (i:Int) o c)=sm (.tup [.agg ((ad.drop i).foldl a8e (o,c)).1.pv,.agg ((ad.drop i).foldl a8e (o,c)).2.pv],σ):=by
 obtain⟨p1,p2,p3⟩:=a0b hA;rw[Qj] at p1;intro d
 induction d with
 | zero =>
  intro i hi o c ho fuel;rw[Qe] at hi;subst hi;rw[QL,QM];exact f5a σ ad P B C A hA n o c _
 | succ d ih =>
  intro i hi o c ho fuel;have hlt:i<ad.length:=by omega
  obtain⟨t,hx⟩:=a0S hlt;have ht:=hb t (Qt hx);have hw:o.wide 1000:=by simp only[W6.wide] at ho ⊢;omega
  have hw2:=e3h (c:=c) ho ht (by omega);have ih:=ih (i+1) (by omega) (a8e (o,c) t).1 (a8e (o,c) t).2 (by rw[show (4:Int)*((i+1:Nat):Int)=4*(i:Int)+4 by omega];exact hw2) fuel;rw[a1o] at ih;rw[show fuel+(d+1)+1=(fuel+d+1)+1 from rfl,f4j σ ad P B C A hA n hx ht (by omega) o c hw,ih,show ad.drop i=t::ad.drop (i+1) from by rw[X1 hlt];congr 1;exact((QA.1 hx).2).symm▸rfl,X2]
include hA in
theorem f4H(hb:∀t∈ad,t.aok)(hl:ad.length<=6):∀d i,i+d=ad.length->∀(o c:W6),o.wide (4*i)->∀fuel,
  a1r.loop (a0a Tab n) (fuel+d+1) 1 (c9r σ P B C A (ad.length:Int) (i:Int) o c)=sm (.tup [.agg ((ad.drop i).foldl a8e (o,c)).1.pv,.agg ((ad.drop i).foldl a8e (o,c)).2.pv],σ):=by
 obtain⟨p1,p2,p3⟩:=a0b hA;rw[Qj] at p1;intro d
 induction d with
 | zero =>
  intro i hi o c ho fuel;rw[Qe] at hi;subst hi;rw[QL,QM];exact f5B σ ad P B C A hA n o c _
 | succ d ih =>
  intro i hi o c ho fuel;have hlt:i<ad.length:=by omega
  obtain⟨t,hx⟩:=a0S hlt;have ht:=hb t (Qt hx);have hw:o.wide 1000:=by simp only[W6.wide] at ho ⊢;omega
  have hw2:=e3h (c:=c) ho ht (by omega);have ih:=ih (i+1) (by omega) (a8e (o,c) t).1 (a8e (o,c) t).2 (by rw[show (4:Int)*((i+1:Nat):Int)=4*(i:Int)+4 by omega];exact hw2) fuel;rw[a1o] at ih;rw[show fuel+(d+1)+1=(fuel+d+1)+1 from rfl,f4h σ ad P B C A hA n hx ht (by omega) o c hw,ih,show ad.drop i=t::ad.drop (i+1) from by rw[X1 hlt];congr 1;exact((QA.1 hx).2).symm▸rfl,X2]
end
theorem c8y{ps:List Pr}(hr:∀x∈ps,x.rng):(a2x ps).wide 0:=by
 have h:∀i:Nat,-(0:Int)<=((ps.map Pr.s)[i]?).getD 0/\((ps.map Pr.s)[i]?).getD 0<=4:=fun i=>by
  rw[List.getElem?_map];cases hx:ps[i]? with
  | none=>simp
  | some x =>
   have:=hr x (Qt hx);simp only[XS] at this;simp;omega
 exact⟨(h 0).1,(h 0).2,(h 1).1,(h 1).2,(h 2).1,(h 2).2,(h 3).1,(h 3).2,(h 4).1,(h 4).2,(h 5).1,(h 5).2⟩
theorem e9G{ps:List Pr}{ad:List Tri}(hl:ps.length<=6)(hr:∀x∈ps,x.rng)(h:asV ps ad=0):ad.length<=6/\∀t∈ad,t.aok:=by
 unfold asV at h;split at h
 ·cases h
 rename_i h6;rw[QS,a0G] at h6;refine⟨by omega,fun t ht=>?_⟩;obtain⟨k,hk⟩:=List.getElem?_of_mem ht;have hb:=d7S _ _ h (by omega) k t (by omega) hk;unfold a3N at hb
 repeat' split at hb
 all_goals first|cases hb|skip
 rename_i a1 a2 a3 a4 a5 a6 _;rw[QS] at a1 a2 a3 a4 a5 a6;rw[a0G] at a1 a3 a4 a5 a6;rw[a4Y] at a2;refine⟨by omega,by omega,by omega,?_⟩;have hx:∃x,ps[t.x.toNat]?=sm x:=a0S (by omega);obtain⟨x,hx⟩:=hx;have:=hr x (Qt hx);simp only[XS] at this;rw[hx] at a6;simp at a6;omega
section
variable (σ:List MO)(ps:List Pr)(bs:List Bd)(cs ad:List Tri)(P B C A:PV)(hP:P.rowsOf 5=sm (ps.map XH))(hB:B.rowsOf 4=sm (bs.map XT))(hC:C.rowsOf 3=sm (cs.map XM))(hA:A.rowsOf 3=sm (ad.map XM))(n:Nat)
include hP hB hC hA in
theorem e9E(hl:ps.length<=6)(hr:∀x∈ps,x.rng)(ha:asV ps ad=0)(hn:20<=n):a0a Tab n 115 [.agg [P,B,C,A]] σ=sm (.tup [.agg (shF ps ad).1.pv,.agg (shF ps ad).2.pv],σ):=by
 obtain⟨n,rfl⟩:=a0L n (by omega);obtain⟨p1,p2,p3⟩:=a0b hP;obtain⟨b1,b2,b3⟩:=a0b hB;obtain⟨c1,c2,c3⟩:=a0b hC;obtain⟨a1,a2,a3⟩:=a0b hA;rw[Qj] at a1;obtain⟨h6,hb⟩:=e9G hl hr ha;have k1:=c5l σ ps P hP hl n (by omega);obtain⟨f,hf⟩:∃f,n=f+ad.length+1:=⟨n-ad.length-1,by omega⟩;have k2:=f4f σ ad P B C A hA n hb h6 ad.length 0 (by omega) (a2x ps) ⟨0,0,0,0,0,0⟩ (by rw[show (4:Int)*((0:Nat):Int)=0 by rfl];exact c8y hr) f;rw[<- hf] at k2;simp only[XC] at k1;rw[a0a];simp only[d8E,Q0,XE];show ((a0i [.sh (.agg [_,_,_,_])] _).bind _)=_;simp only[a0i,a0m,a0c,Q1,Q0,Qb,XD,p3,b3,c3,a3];show (Xz _ c2i _).bind _=_;simp only[c2i,↓reduceIte,a0h,a0A,a0s,Xs,Xt,Xq,PEnv.at,Q3,Q4,Q7,Q8,a0c,a0w,a0m,Q1,Q0,Xy,Q6,Q5,Xu,Xr,Xx,Qa,Q9,k1,a1,a2];exact k2
def d4t(σ:List MO)(P B C A:PV)(i:Int)(o:W6):PEnv:={i:=[i,o.a,o.b,o.c,o.d,o.e,o.f],b:=[],v:=[P,B,C,A],m:=σ,k:=σ.length}
include hP hB hC hA in
theorem f2j(hv:a8s ps bs cs ad=0)(hl:ps.length<=6)(hr:∀x∈ps,x.rng)(ha:asV ps ad=0)(hn:1100<=n):a0a Tab n 48 [.agg [P,B,C,A]] σ=sm (.tup [.agg (shF ps ad).1.pv,.agg (shF ps ad).2.pv],σ):=by
 obtain⟨n,rfl⟩:=a0L n (by omega);have k0:=b5a σ ps bs cs ad P B C A hP hB hC hA n (by omega);obtain⟨p1,p2,p3⟩:=a0b hP;obtain⟨b1,b2,b3⟩:=a0b hB;obtain⟨c1,c2,c3⟩:=a0b hC;obtain⟨a1,a2,a3⟩:=a0b hA;rw[Qj] at a1 p1;obtain⟨h6,hb⟩:=e9G hl hr ha;rw[hv] at k0
 skip
 have step:∀(i:Nat) (x:Pr),ps[i]?=sm x->∀fuel (w:W6),a1r.loop (a0a Tab n) (fuel+1) 0 (d4t σ P B C A (i:Int) w)=a1r.loop (a0a Tab n) fuel 0 (d4t σ P B C A ((i:Int)+1) (w.put (i:Int) x.s)):=by
  intro i x hx fuel w;have hlt:i<ps.length:=(QA.1 hx).1;have hd:decide (i<ps.length)=tt:=dT0 hlt;have h0:=a0V (off:=1) hP (a5e hx);have e5:=a3l;rw[Xw,show a1r.loops[0]?=sm a6C from rfl];obtain⟨d1,d2,d3,d4⟩:=dr5 (.str x.nm) (.int .i64 x.s) (.int .i64 x.r) (.int .i64 x.p) (.int .i64 x.g);simp only[d4t];simp only[Q0,a6C,↓reduceIte,a0e,a0h,a0F,a0s,Xs,Xt,Xq,PEnv.at,Q3,Q4,Q7,Q8,a0H,a0x,a1g,Qg,Qd,Nat.reduceAdd,Q2,Qq,Qn,Q1,Q0,Xy,Q6,Q5,Xu,Xr,Xx,Qf,Qa,Q9,p1,p2,a0I,hd,le0,h0,a5X,d1];obtain rfl|rfl|rfl|rfl|rfl|rfl:i=0\/i=1\/i=2\/i=3\/i=4\/i=5:=by omega
  all_goals rfl
 have fin:∀fuel (w:W6),a1r.loop (a0a Tab n) (fuel+1) 0 (d4t σ P B C A (ps.length:Int) w)=a1r.loop (a0a Tab n) fuel 1 (c9r σ P B C A (ad.length:Int) 0 w ⟨0,0,0,0,0,0⟩):=by
  intro fuel w;have hd:decide (ps.length<ps.length)=ff:=by simp
  rw[Xw,show a1r.loops[0]?=sm a6C from rfl];simp only[d4t];simp only[Q0,a6C,↓reduceIte,a0e,a0h,a0s,Xs,Xt,Xq,PEnv.at,Q3,Q4,Q7,Q8,Q2,Q1,Q0,Xu,Xr,Xx,Qa,Q9,p1,p2,a0I,hd,c9r]
 have key:a1r.loop (a0a Tab n) n 0 (d4t σ P B C A 0 ⟨0,0,0,0,0,0⟩)=sm (.tup [.agg (shF ps ad).1.pv,.agg (shF ps ad).2.pv],σ):=by
  have lp:∀fuel,10<=fuel->a1r.loop (a0a Tab n) fuel 1 (c9r σ P B C A (ad.length:Int) 0 (a2x ps) ⟨0,0,0,0,0,0⟩)=sm (.tup [.agg (shF ps ad).1.pv,.agg (shF ps ad).2.pv],σ):=fun fuel hfu=>by
   obtain⟨f,rfl⟩:∃f,fuel=f+ad.length+1:=⟨fuel-ad.length-1,by omega⟩;exact f4H σ ad P B C A hA n hb h6 ad.length 0 (by omega) (a2x ps) ⟨0,0,0,0,0,0⟩ (by rw[show (4:Int)*((0:Nat):Int)=0 by rfl];exact c8y hr) f
  obtain⟨m,hm⟩:∃m,n=m+7:=⟨n-7,by omega⟩;have lp2:∀k,k<=6->a1r.loop (a0a Tab n) (m+k) 1 (c9r σ P B C A (ad.length:Int) 0 (a2x ps) ⟨0,0,0,0,0,0⟩)=sm (.tup [.agg (shF ps ad).1.pv,.agg (shF ps ad).2.pv],σ):=fun k _=>lp _ (by omega)
  rw[show a1r.loop (a0a Tab n) n 0 (d4t σ P B C A 0 ⟨0,0,0,0,0,0⟩)=a1r.loop (a0a Tab n) (m+7) 0 (d4t σ P B C A 0 ⟨0,0,0,0,0,0⟩) by rw[<- hm]];clear hm lp;rcases ps with _|⟨a,_|⟨b,_|⟨c,_|⟨d,_|⟨e,_|⟨f,_|⟨z,r⟩⟩⟩⟩⟩⟩⟩
  ·exact(fin (m+6) _).trans (lp2 6 (by omega))
  ·exact(step 0 a rfl (m+6) _).trans ((fin (m+5) _).trans (lp2 5 (by omega)))
  ·exact(step 0 a rfl (m+6) _).trans ((step 1 b rfl (m+5) _).trans ((fin (m+4) _).trans (lp2 4 (by omega))))
  ·exact(step 0 a rfl (m+6) _).trans ((step 1 b rfl (m+5) _).trans ((step 2 c rfl (m+4) _).trans ((fin (m+3) _).trans (lp2 3 (by omega)))))
  ·exact(step 0 a rfl (m+6) _).trans ((step 1 b rfl (m+5) _).trans ((step 2 c rfl (m+4) _).trans ((step 3 d rfl (m+3) _).trans ((fin (m+2) _).trans (lp2 2 (by omega))))))
  ·exact(step 0 a rfl (m+6) _).trans ((step 1 b rfl (m+5) _).trans ((step 2 c rfl (m+4) _).trans ((step 3 d rfl (m+3) _).trans ((step 4 e rfl (m+2) _).trans ((fin (m+1) _).trans (lp2 1 (by omega)))))))
  ·exact(step 0 a rfl (m+6) _).trans ((step 1 b rfl (m+5) _).trans ((step 2 c rfl (m+4) _).trans ((step 3 d rfl (m+3) _).trans ((step 4 e rfl (m+2) _).trans ((step 5 f rfl (m+1) _).trans ((fin m _).trans (lp2 0 (by omega))))))))
  ·simp at hl
 rw[a0a];simp only[c9V,Q0,XE];show ((a0i [.sh (.agg [_,_,_,_])] _).bind _)=_;simp only[a0i,a0m,a0c,Q1,Q0,Qb,XD,p3,b3,c3,a3];show (Xz _ b3r _).bind _=_;have e0:eqB 0 0=tt:=rfl;simp only[b3r,↓reduceIte,a0j,a0e,a0A,a0s,Xs,Xt,Xq,Q3,Q7,Q8,Q2,a0c,a0w,a0m,Q1,Q0,Xy,Q6,Q5,Xu,Xr,Xx,Qm,Qa,Q9,k0,e0];exact key
end
def oc(c bc b:Int):Int:=if eqB c 0=tt then 0 else if eqB c bc=tt then 0 else b
def d2F(c:W6)(bc:Int)(b:W6):W6:=⟨oc c.a bc b.a,oc c.b bc b.b,oc c.c bc b.c,oc c.d bc b.d,oc c.e bc b.e,oc c.f bc b.f⟩
def W6.le(a b:W6):Prop:=a.a<=b.a/\a.b<=b.b/\a.c<=b.c/\a.d<=b.d/\a.e<=b.e/\a.f<=b.f
instance (a b:W6):Decidable (a.le b):=by unfold W6.le;infer_instance
theorem f6p(x y:Int):eqB (mnI x y) x=decide (x<=y):=by
 unfold eqB mnI;by_cases h:x<=y
 ·rw[XA (by omega),dT0 rfl,dT0 h]
 ·rw[Xp (by omega),dF0 h];exact dF0 (by omega)
theorem f6P(a b c d e f:Prop) [Decidable a] [Decidable b] [Decidable c] [Decidable d] [Decidable e] [Decidable f] [Decidable (a/\b/\c/\d/\e/\f)]:(decide a&&(decide b&&(decide c&&(decide d&&(decide e&&decide f)))))=decide (a/\b/\c/\d/\e/\f):=by
 simp only[Bool.decide_and]
theorem d9M(σ:List MO)(a b:W6)(n:Nat)(hn:2<=n):a0a Tab n 116 [.agg a.pv,.agg b.pv] σ=sm (.bool (decide (a.le b)),σ):=by
 obtain⟨n,rfl⟩:∃k,n=k+1+1:=⟨n-2,by omega⟩
 have k1:a0a Tab (n+1) 130 [.agg a.pv,.agg b.pv] σ=sm (.agg [.int .i64 (mnI a.a b.a),.int .i64 (mnI a.b b.b),.int .i64 (mnI a.c b.c),.int .i64 (mnI a.d b.d),.int .i64 (mnI a.e b.e),.int .i64 (mnI a.f b.f)],σ):=by
  simp only[a0a,d9t,Q0,XE,XC];show ((a0i [.sh (.agg [_,_,_,_,_,_]),.sh (.agg [_,_,_,_,_,_])] _).bind _)=_;simp only[a0i,a0m,a0c,Q1,Q0,Qb,Q5,Q6,XD];show (Xz _ c4B _).bind _=_;simp only[c4B,↓reduceIte,a0j,Xq,Q3,Q4,Q2,Q1,Q0,Xu,Xr,a0n,Xv]
 simp only[XC] at k1;rw[a0a];simp only[d7c,Q0,XE,XC];show ((a0i [.sh (.agg [_,_,_,_,_,_]),.sh (.agg [_,_,_,_,_,_])] _).bind _)=_;simp only[a0i,a0m,a0c,Q1,Q0,Qb,Q5,Q6,XD];show (Xz _ c1a _).bind _=_;simp only[c1a,↓reduceIte,a0j,a0A,Xs,Xt,Xq,Q3,Q4,Q2,a0c,a0w,a0m,Q1,Q0,Xy,Q6,Q5,Xu,Xr,Qf,k1,f6p,a0n,Xv]
 congr 3
 rw[f6P];rfl
theorem bdr(a b c d:PV):QN 1 [a,b,c,d]=[b,c,d]/\QN 2 [a,b,c,d]=[c,d]/\QN 3 [a,b,c,d]=[d]:=⟨rfl,rfl,rfl⟩
section
variable (σ:List MO)(bs:List Bd)(P B C A:PV)(hB:B.rowsOf 4=sm (bs.map XT))(n:Nat)
def e0Q(σ:List MO)(P B C A:PV)(i k:Int)(c b:W6):PEnv:={i:=[i,k,c.a,c.b,c.c,c.d,c.e,c.f,b.a,b.b,b.c,b.d,b.e,b.f],b:=[],v:=[P,B,C,A],m:=σ,k:=σ.length}
def ouP(σ:List MO)(P B C A:PV)(n:Nat)(i:Nat)(y:Bd)(I J:Int)(F:W6->Int)(U:W6->Int->W6):Prop:=∀(c b:W6) (fuel:Nat),a5n.loop (a0a Tab n) (fuel+1) 0 (e0Q σ P B C A (i:Int) I c b)=a5n.loop (a0a Tab n) fuel 0 (e0Q σ P B C A (i:Int) J c (U b (oc (F c) y.c (F b))))
include hB in
theorem f4B{i:Nat}{y:Bd}(hy:bs[i]?=sm y):ouP σ P B C A n i y 0 1 W6.a (fun x z=>{x with a:=z})/\ouP σ P B C A n i y 1 2 W6.b (fun x z=>{x with b:=z})/\ouP σ P B C A n i y 2 3 W6.c (fun x z=>{x with c:=z})/\ouP σ P B C A n i y 3 4 W6.d (fun x z=>{x with d:=z})/\ouP σ P B C A n i y 4 5 W6.e (fun x z=>{x with e:=z})/\ouP σ P B C A n i y 5 6 W6.f (fun x z=>{x with f:=z}):=by
 obtain⟨b1,b2,b3⟩:=a0b hB;rw[Qj] at b1;have h0:=a0V (off:=1) hB (a8o hy);have e5:=a3l;have e6:=a4X;have hd':decide ((i:Int)<(bs.length:Int))=tt:=dT0 (by have:=(QA.1 hy).1;omega);obtain⟨d1,d2,d3⟩:=bdr (.str y.nm) (.int .i64 y.c) (.int .i64 y.b) (.int .i64 y.p);refine⟨?_,?_,?_,?_,?_,?_⟩ <;>
 ·intro c b fuel
  rw[Xw,show a5n.loops[0]?=sm b0p from rfl];simp only[e0Q,oc,e5];simp only[Q0,b0p,↓reduceIte,a0e,a0h,a0F,a0s,Xs,Xt,Xq,PEnv.at,Q3,Q4,Q7,Q8,a0H,a0x,a1g,Qg,Qd,Nat.reduceAdd,Q2,Qq,Qn,a0c,Q1,Q0,Xy,Q6,Q5,Xu,Xr,Xx,Qf,Qa,Q9,e5,e6,Int.reduceEq,Int.reduceLT,XQ,XR,Nat.reduceLeDiff,b1,le0,hd',h0,b1f,d1]
  (repeat' split)<;>first|rfl|simp_all
include hB in
theorem e5p(hP:P.one=tt)(hC:C.one=tt)(hA:A.one=tt){i:Nat}{y:Bd}(hy:bs[i]?=sm y)(c b:W6)(hn:10<=n):a0a Tab n 117 [.agg [P,B,C,A],.agg c.pv,.int .i64 (i:Int),.agg b.pv] σ=sm (.agg (d2F c y.c b).pv,σ):=by
 obtain⟨n,rfl⟩:∃k,n=k+8:=⟨n-8,by omega⟩;obtain⟨b1,b2,b3⟩:=a0b hB
 have fin:∀(w:W6) fuel,a5n.loop (a0a Tab (n+7)) (fuel+1) 0 (e0Q σ P B C A (i:Int) 6 c w)=sm (.agg w.pv,σ):=fun w fuel=>by
  have e6:ltB 6 6=ff:=rfl;rw[Xw,show a5n.loops[0]?=sm b0p from rfl];simp only[Q0,e0Q,b0p,↓reduceIte,a0j,a0e,Xs,Xt,Xq,Q3,Q4,Q2,Q1,Q0,Xu,Xr,e6,XC,a0n,Xv]
 have key:a5n.loop (a0a Tab (n+7)) (n+7) 0 (e0Q σ P B C A (i:Int) 0 c b)=sm (.agg (d2F c y.c b).pv,σ):=by
  obtain⟨r0,r1,r2,r3,r4,r5⟩:=f4B σ bs P B C A hB (n+7) hy;rw[r0 c _ (n+6),r1 c _ (n+5),r2 c _ (n+4),r3 c _ (n+3),r4 c _ (n+2),r5 c _ (n+1)];exact fin _ n
 rw[a0a];simp only[d6Y,Q0,XE,XC];show ((a0i [.sh (.agg [_,_,_,_]),.sh (.agg [_,_,_,_,_,_]),.sh (.one _),.sh (.agg [_,_,_,_,_,_])] _).bind _)=_;simp only[a0i,a0m,a0c,Q1,Q0,Qb,Q5,Q6,XD,hP,b3,hC,hA];show (Xz _ c1r _).bind _=_;simp only[c1r,a0s,Xq,Q3,Q4,Q7,Q8,Q1,Q0,Xu,Xr,Xx,Qa,Q9];exact key
end
theorem d7m(σ:List MO)(l:List Pr)(P:PV)(hP:P.rowsOf 5=sm (l.map XH))(hl:l.length<=6)(n:Nat)(hn:10<=n):a0a Tab n 49 [P] σ=sm (.agg (a2x l).pv,σ):=by
 obtain⟨n,rfl⟩:=a0L n (by omega);obtain⟨p1,p2,p3⟩:=a0b hP;rw[Qj] at p1;have hq:∀(i:Nat) (x:Pr),l[i]?=sm x->a4f (i:Int) 5 1 P=sm (.row x.row 1):=fun i x h=>a0V (off:=1) hP (a5e h)
 have e6:=a4X;have d1:∀a b c d e:PV,QN 1 [a,b,c,d,e]=[b,c,d,e]:=fun _ _ _ _ _=>rfl
 rw[a0a];simp only[c6h,Q0,XE];show ((a0i [.sh (.one _)] _).bind _)=_;simp only[a0i,a0m,a0c,Q1,Q0,Qb,XD,p3];show (Xz _ b2e _).bind _=_;rcases l with _|⟨a,_|⟨b,_|⟨c,_|⟨d,_|⟨e,_|⟨f,_|⟨z,r⟩⟩⟩⟩⟩⟩⟩
 case cons.cons.cons.cons.cons.cons.cons=>simp at hl
 all_goals
  first|have h0:=hq 0 _ rfl|have h0:=p3
  first|have h1:=hq 1 _ rfl|have h1:=p3
  first|have h2:=hq 2 _ rfl|have h2:=p3
  first|have h3:=hq 3 _ rfl|have h3:=p3
  first|have h4:=hq 4 _ rfl|have h4:=p3
  first|have h5:=hq 5 _ rfl|have h5:=p3
  simp only[Qg,Qd,Qr,Nat.reduceAdd,QX] at *
  simp only[b2e,↓reduceIte,a0j,a0e,a0h,a0F,Xs,Xt,Xq,PEnv.at,Q3,Q4,Q7,a0H,a0x,a1g,Qg,Qd,Nat.reduceAdd,Q2,Qq,Qn,a0c,Q1,Q0,Xy,Q6,Q5,Xu,Xr,p1,p2,e6,Int.reduceLT,XQ,XR,h0,h1,h2,h3,h4,h5,a5X,d1,Nat.reduceLeDiff,a0n,Xv];rfl
theorem e7R{α:Type}{l:List α}{k:Nat}{x:α}(h:l[k]?=sm x):l.drop k=x::l.drop (k+1):=by
 obtain⟨h1,h2⟩:=QA.1 h;rw[X1 h1,h2]
section
variable (σ:List MO)(l:List Pr)(P:PV)(hP:P.rowsOf 5=sm (l.map XH))(n:Nat)(w:W6)
include hP in
theorem f3s(hw:w.ok)(g:Int)(hl:l.length<=6)(hr:∀x∈l,x.rng):∀d i,i+d=l.length->∀fuel,1+d*6<=fuel ->
  a2q.loop (a0a Tab n) fuel 0 (c9g σ P [g,ptS XN l w i,ptS XP l w i,ptS (un g) l w i,(i:Int)] w)=sm (.tup [.int .i64 (ptS XN l w l.length),.int .i64 (ptS XP l w l.length),.int .i64 (ptS (un g) l w l.length)],σ):=by
 obtain⟨p1,p2,p3⟩:=a0b hP;rw[Qj] at p1;intro d
 induction d with
 | zero =>
  intro i hi fuel hf;rw[Qe] at hi;subst hi;obtain⟨fuel,rfl⟩:=a0L fuel (by omega);have hd:decide (l.length<l.length)=ff:=by simp
  rw[Xw,show a2q.loops[0]?=sm a3r from rfl];simp only[Q0,c9g,a3r,↓reduceIte,a0j,a0e,a0h,Xs,Xt,Xq,PEnv.at,Q3,Q4,Q2,Q1,Q0,Q6,Q5,Xu,Xr,p1,p2,a0I,hd,a0n,Xv]
 | succ d ih =>
  intro i hi fuel hf;have hlt:i<l.length:=by omega
  obtain⟨x,hx⟩:=a0S hlt;have hd:decide (i<l.length)=tt:=dT0 hlt;have hxr:=hr x (Qt hx);have hw1:=d0P hw i;have hxr':=hxr;simp only[XS] at hxr';have b1:=c3W (f:=XN) (b:=1000) hw (by omega) (fun y hy=>by have:=hr y hy;simp only[XS] at this;omega) i;have b2:=c3W (f:=XP) (b:=1000000) hw (by omega) (fun y hy=>by have:=hr y hy;simp only[XS] at this;omega) i;have b3:=c3W (f:=un g) (l:=l) (b:=1) hw (by omega) (fun y hy=>e9j g y) i;obtain⟨m,hm⟩:∃m:Nat,(m:Int)=a8p w i:=⟨(a8p w i).toNat,by omega⟩;have hu:=ih (i+1) (by omega);obtain⟨fuel,rfl⟩:∃k,fuel=(k+m+1)+1:=⟨fuel-m-2,by omega⟩;have hu:=hu fuel (by omega);have k1:ptS XN l w (i+1)=ptS XN l w i+m*x.p:=by simp only[ptS,c2v,hx,Q1,Qy,hm]
  have k2:ptS XP l w (i+1)=ptS XP l w i+m*x.r:=by simp only[ptS,c2v,hx,Q1,Qy,hm]
  have k3:ptS (un g) l w (i+1)=if eqB x.g g=tt then ptS (un g) l w i+m else ptS (un g) l w i:=by
   simp only[ptS,c2v,hx,Q1,Qy,<- hm,un];split<;>omega
  rw[k1,k2,k3,a1o] at hu;rw[<- hu,Xw,show a2q.loops[0]?=sm a3r from rfl];simp only[Q0,c9g,a3r,↓reduceIte,a0e,a0h,a0s,Xs,Xt,Xq,PEnv.at,Q3,Q4,Q7,Q1,Q0,Q6,Q5,Xu,Xr,Xx,Qa,Q9,p1,p2,a0I,hd];clear hu ih k1 k2 k3;generalize ptS XN l w i=s1 at *
  generalize ptS XP l w i=s2 at *
  generalize ptS (un g) l w i=u at *
  exact f3p σ l P hP n w i (by omega) g x hx hxr m 0 (by rw[hm];simp) (by omega) fuel s1 s2 u (by omega) (by omega) (by omega) (by omega) (by omega) (by omega)
include hP in
theorem f1F(g:Int)(hn:100<=n):∃y z:Int,a0a Tab n 50 [P,.int .i64 g,.agg w.pv] σ=sm (.tup [.int .i64 y,.int .i64 z,.int .i64 (unV l g w)],σ):=by
 obtain⟨n,rfl⟩:=a0L n (by omega);obtain⟨p1,p2,p3⟩:=a0b hP;have c1:=c6I σ l P hP n (by omega);have c2:=c6U σ w n (by omega);simp only[XC] at c1 c2;simp only[a0a,b8P,Q0,XE,XC];show ∃y z:Int,((a0i [.sh (.one _),.sh (.one _),.sh (.agg [_,_,_,_,_,_])] _).bind _)=_;simp only[a0i,a0m,a0c,Q1,Q0,Qb,Q5,Q6,XD,p3];show ∃y z:Int,(Xz _ a7b _).bind _=_;simp only[a7b,↓reduceIte,a0j,a0e,a0A,a0s,Xs,Xt,Xq,Q3,Q4,Q7,a0c,a0w,a0m,Q1,Q0,Xy,Q6,Q5,Xu,Xr,Xx,Qa,Q9,c1,unV];cases hc:eqB (b4p l) 0 with
 | false=>refine⟨0,0,?_⟩;simp only[↓reduceIte,Q2,Q1,Q0,Qp,a0n,Xv]
 | true =>
  obtain⟨hl,hr⟩:=a9X (a9e.1 hc);by_cases hw:w.ok
  ·have hb:eqB (a4o w) 0=tt:=by unfold a4o;rw[Xp hw];rfl
   have hu:=f3s σ l P hP n w hw g hl hr l.length 0 (by omega) n (by omega);refine⟨ptS XN l w l.length,ptS XP l w l.length,?_⟩;rw[dT0 hw] at c2;simp only[↓reduceIte,Q3,Q2,a0c,Q1,Q0,Qm,c2,hb];exact hu
  ·have hb:eqB (a4o w) 0=ff:=by unfold a4o;rw[XA hw];rfl
   refine⟨0,0,?_⟩;rw[dF0 hw] at c2;simp only[↓reduceIte,Q3,Q2,a0c,Q1,Q0,Qm,Qp,c2,hb,a0n,Xv]
end
def d4L(ps:List Pr)(i:Int)(b:W6)(c:Tri):Bool:=(eqB c.x (-1)||eqB c.x i)&&ltB c.z (unV ps c.y b)
def b6t(ps:List Pr)(i:Int)(b:W6)(l:List Tri):Int:=if l.any (d4L ps i b)=tt then 14 else 0
theorem c8r{ps:List Pr}{i:Int}{b:W6}{c:Tri}{l:List Tri}(h:d4L ps i b c=tt):b6t ps i b (c::l)=14:=by simp[b6t,h]
theorem c0y{ps:List Pr}{i:Int}{b:W6}{c:Tri}{l:List Tri}(h:d4L ps i b c=ff):b6t ps i b (c::l)=b6t ps i b l:=by simp[b6t,h]
section
variable (σ:List MO)(ps:List Pr)(cs:List Tri)(P B C A:PV)(hP:P.rowsOf 5=sm (ps.map XH))(hC:C.rowsOf 3=sm (cs.map XM))(n:Nat)(hcl:cs.length<=16)
def e3C(σ:List MO)(P B C A:PV)(i N k:Int)(b:W6):PEnv:={i:=[i,N,k,b.a,b.b,b.c,b.d,b.e,b.f],b:=[],v:=[C,P,B,A],m:=σ,k:=σ.length}
def d9g(σ:List MO)(P B C A:PV)(i _N k:Int)(b:W6):PEnv:={i:=[i,k,b.a,b.b,b.c,b.d,b.e,b.f],b:=[],v:=[P,B,C,A],m:=σ,k:=σ.length}
include hP hC hcl in
theorem f2w(hlow:σ.all (MO.low σ.length)=tt)(i:Int)(b:W6)(hn:100<=n):∀d k,k+d=cs.length->∀fuel,a8O.loop (a0a Tab n) (fuel+d+1) 0 (e3C σ P B C A i (cs.length:Int) (k:Int) b)=sm (.int .i64 (b6t ps i b (cs.drop k)),σ):=by
 obtain⟨p1,p2,p3⟩:=a0b hC;rw[Qj] at p1;intro d
 induction d with
 | zero =>
  intro k hk fuel;rw[Qe] at hk;subst hk;have hd:decide (cs.length<cs.length)=ff:=by simp
  rw[Xw,show a8O.loops[0]?=sm b0n from rfl,QL];simp only[Q0,e3C,b0n,↓reduceIte,a0j,a0e,Xs,Xt,Xq,Q3,Q4,Q2,Q1,Q0,Xr,a0I,hd,a0n,Xv];rfl
 | succ d ih =>
  intro k hk fuel;have hlt:k<cs.length:=by omega
  obtain⟨c,hx⟩:=a0S hlt;have hd:decide (k<cs.length)=tt:=dT0 hlt;have hq:=a0V (off:=0) hC (a7C hx);have hup:=a2N (show k<=1000000000 by omega);have ih:=ih (k+1) (by omega) fuel;rw[a1o] at ih;have k1:=f0H σ hlow ps P hP c.y b n hn;simp only[XC] at k1;have hdr:=e7R hx;rw[hdr,show fuel+(d+1)+1=(fuel+d+1)+1 from rfl,Xw,show a8O.loops[0]?=sm b0n from rfl];have hh:d4L ps i b c=((eqB c.x (-1)||eqB c.x i)&&ltB c.z (unV ps c.y b)):=rfl;simp only[e3C] at ih ⊢;simp only[Q0,b0n,↓reduceIte,a0j,a0e,a0h,a0F,a0A,a0s,Xs,Xt,Xq,PEnv.at,Q3,Q4,Q7,Q8,a0H,a0x,a1g,Qs,Qg,Qd,Nat.reduceAdd,Qk,Q2,Qq,Qn,a0c,a0w,a0m,Q1,Q0,Xy,Q6,Q5,Xu,Xr,Xx,Qf,Qa,Q9,p1,a0I,hd,le0,hq,b0l];cases e1:eqB c.x (-1) with
  | true =>
   simp only[↓reduceIte,Q3,a0c,Q1,Q0,k1];cases e2:ltB c.z (unV ps c.y b) with
   | true=>rw[c8r (by rw[hh,e1,e2];rfl)];simp only[↓reduceIte,Q2,Q1,Q0,a0n,Xv]
   | false=>rw[c0y (by rw[hh,e1,e2];rfl)];simp only[↓reduceIte,Q2,Q0,Xp hup];exact ih
  | false =>
   simp only[↓reduceIte,Q2,];cases e3:eqB c.x i with
   | true =>
    simp only[↓reduceIte,Q3,a0c,Q1,Q0,k1];cases e2:ltB c.z (unV ps c.y b) with
    | true=>rw[c8r (by rw[hh,e1,e2,e3];rfl)];simp only[↓reduceIte,Q2,Q1,Q0,a0n,Xv]
    | false=>rw[c0y (by rw[hh,e1,e2,e3];rfl)];simp only[↓reduceIte,Q2,Q0,Xp hup];exact ih
   | false=>rw[c0y (by rw[hh,e1,e3];rfl)];simp only[↓reduceIte,Q2,Q0,Xp hup];exact ih
include hP hC hcl in
theorem f2k(i:Int)(b:W6)(hn:100<=n):∀d k,k+d=cs.length->∀fuel,a1T.loop (a0a Tab n) (fuel+d+1) 1 (d9g σ P B C A i (cs.length:Int) (k:Int) b)=sm (.int .i64 (b6t ps i b (cs.drop k)),σ):=by
 obtain⟨p1,p2,p3⟩:=a0b hC;rw[Qj] at p1;intro d
 induction d with
 | zero =>
  intro k hk fuel;rw[Qe] at hk;subst hk;have hd:decide (cs.length<cs.length)=ff:=by simp
  rw[Xw,show a1T.loops[1]?=sm a5w from rfl,QL];simp only[Q0,d9g,a5w,↓reduceIte,a0j,a0e,a0h,Xs,Xt,Xq,PEnv.at,Q3,Q4,Q2,Q1,Q0,Xr,p1,p2,a0I,hd,a0n,Xv];rfl
 | succ d ih =>
  intro k hk fuel;have hlt:k<cs.length:=by omega
  obtain⟨c,hx⟩:=a0S hlt;have hd:decide (k<cs.length)=tt:=dT0 hlt;have hq:=a0V (off:=0) hC (a7C hx);have hup:=a2N (show k<=1000000000 by omega);have ih:=ih (k+1) (by omega) fuel;rw[a1o] at ih;obtain⟨y,z,k1⟩:=f1F σ ps P hP n b c.y hn;simp only[XC] at k1;have hdr:=e7R hx;rw[hdr,show fuel+(d+1)+1=(fuel+d+1)+1 from rfl,Xw,show a1T.loops[1]?=sm a5w from rfl];have hh:d4L ps i b c=((eqB c.x (-1)||eqB c.x i)&&ltB c.z (unV ps c.y b)):=rfl;simp only[d9g] at ih ⊢;simp only[Q0,a5w,↓reduceIte,a0j,a0e,a0h,a0F,a0A,a0s,Xs,Xt,Xq,PEnv.at,Q3,Q4,Q7,Q8,a0H,a0x,a1g,Qs,Qg,Qd,Nat.reduceAdd,Qk,Q2,Qq,Qn,a0c,a0w,a0m,Q1,Q0,Xy,Q6,Q5,Qb,Xu,Xr,Xx,Qf,Qa,Q9,p1,p2,a0I,hd,le0,hq,b0l,k1,a1J];cases e1:eqB c.x (-1) with
  | true =>
   simp only[↓reduceIte,];cases e2:ltB c.z (unV ps c.y b) with
   | true=>rw[c8r (by rw[hh,e1,e2];rfl)];simp only[↓reduceIte,Q2,Q1,Q0,a0n,Xv]
   | false=>rw[c0y (by rw[hh,e1,e2];rfl)];simp only[↓reduceIte,Q2,Q0,Xp hup];exact ih
  | false =>
   simp only[↓reduceIte,Q2,];cases e3:eqB c.x i with
   | true =>
    simp only[↓reduceIte,];cases e2:ltB c.z (unV ps c.y b) with
    | true=>rw[c8r (by rw[hh,e1,e2,e3];rfl)];simp only[↓reduceIte,Q2,Q1,Q0,a0n,Xv]
    | false=>rw[c0y (by rw[hh,e1,e2,e3];rfl)];simp only[↓reduceIte,Q2,Q0,Xp hup];exact ih
   | false=>rw[c0y (by rw[hh,e1,e3];rfl)];simp only[↓reduceIte,Q2,Q0,Xp hup];exact ih
end
theorem f3u(w:W6){i j v:Int}(hi:0<=i/\i<=5)(hj:0<=j/\j<=5):(w.put i v).at6 j=if i=j then v else w.at6 j:=by
 rcases b5H hi with rfl|rfl|rfl|rfl|rfl|rfl<;>rcases b5H hj with rfl|rfl|rfl|rfl|rfl|rfl<;>rfl
theorem f5p(ps:List Pr){j:Int}(hj:0<=j/\j<=5):(a2x ps).at6 j=(((ps[j.toNat]?).map Pr.s).getD 0):=by
 rcases b5H hj with rfl|rfl|rfl|rfl|rfl|rfl<;>simp[W6.at6,a2x]
theorem f2f{ps:List Pr}{ad:List Tri}(h:asV ps ad=0){k:Nat}{t:Tri}(hk:ad[k]?=sm t):t.z<=(((ps[t.x.toNat]?).map Pr.s).getD 0)/\∀d∈ad.take k,d.x≠t.x:=by
 unfold asV at h;split at h
 ·cases h
 have hb:=d7S _ _ h (by omega) k t (by omega) hk;unfold a3N at hb
 repeat' split at hb
 all_goals first|cases hb|skip
 rename_i a1 a2 a3 a4 a5 a6 a7;rw[QS] at a6;rw[a0G] at a6;refine⟨by omega,fun d hd he=>a7 ?_⟩;rw[List.any_eq_true];exact⟨d,hd,by rw[he];exact d8q _⟩
theorem f3r{ps:List Pr}{ad:List Tri}(hl:ps.length<=6)(hr:∀x∈ps,x.rng)(h:asV ps ad=0):∀k,k<=ad.length->∀j:Int,0<=j/\j<=5 ->
  0<=((ad.take k).foldl a8e (a2x ps,⟨0,0,0,0,0,0⟩)).1.at6 j/\((∀d∈ad.take k,d.x≠j)->((ad.take k).foldl a8e (a2x ps,⟨0,0,0,0,0,0⟩)).1.at6 j=(a2x ps).at6 j):=by
 obtain⟨h6,hb⟩:=e9G hl hr h;intro k
 induction k with
 | zero =>
  intro _ j hj;refine⟨?_,fun _=>rfl⟩;have hw:=c8y hr;simp only[W6.wide] at hw;simp only[Qn,QM];rcases b5H hj with rfl|rfl|rfl|rfl|rfl|rfl<;>simp[W6.at6]<;>omega
 | succ k ih =>
  intro hk j hj;obtain⟨t,ht⟩:=a0S (show k<ad.length by omega);have hok:=hb t (Qt ht);simp only[Tri.aok] at hok;obtain⟨f1,f2⟩:=f2f h ht;have ih:=ih (by omega);have htk:ad.take (k+1)=ad.take k++[t]:=by rw[QY,ht];rfl
  rw[htk,List.foldl_append,X2,QM];simp only[a8e];rw[f3u _ ⟨hok.1,hok.2.1⟩ hj];by_cases he:t.x=j
  ·rw[Xp he]
   refine⟨?_,fun hd=>XJ he (hd t (by simp))⟩;rw[(ih t.x ⟨hok.1,hok.2.1⟩).2 f2,f5p ps ⟨hok.1,hok.2.1⟩];omega
  ·rw[XA he]
   exact⟨(ih j hj).1,fun hd=>(ih j hj).2 fun d hm=>hd d (by simp[hm])⟩
theorem e8S{ps:List Pr}{ad:List Tri}(hl:ps.length<=6)(hr:∀x∈ps,x.rng)(h:asV ps ad=0):0<=(shF ps ad).1.a/\0<=(shF ps ad).1.b/\0<=(shF ps ad).1.c/\0<=(shF ps ad).1.d/\0<=(shF ps ad).1.e/\0<=(shF ps ad).1.f:=by
 have:=f3r hl hr h ad.length (Qk _);rw[X8] at this;exact⟨(this 0 (by omega)).1,(this 1 (by omega)).1,(this 2 (by omega)).1,(this 3 (by omega)).1,(this 4 (by omega)).1,(this 5 (by omega)).1⟩
def b8F(ps:List Pr)(bs:List Bd)(cs ad:List Tri)(i:Int)(b:W6):Int :=
 if ltB i 0=tt then 6 else if leB (bs.length:Int) i=tt then 6 else if b.ok then
  if b.le (a2x ps)/\(d2F (shF ps ad).2 (((bs[i.toNat]?).map Bd.c).getD 0) b).le (shF ps ad).1 then b6t ps i b cs else 14
 else 4
def hit(c bc b o s:Int):Bool:=ltB s b||(!(eqB c 0)&&(!(eqB c bc)&&ltB o b))
theorem b3S{c bc b o s:Int}(ho:0<=o):hit c bc b o s=ff↔b<=s/\oc c bc b<=o:=by
 unfold hit oc;have e5:=a3l;have e6:=a4X;simp only[e5,e6,Bool.or_eq_false_iff,Bool.and_eq_false_imp,Bool.not_eq_true',decide_eq_false_iff_not,decide_eq_true_eq];by_cases h1:c=0
 ·first|(simp[h1];omega;done)|simp[h1]
 ·by_cases h2:c=bc
  ·first|(simp[h2];omega;done)|simp[h1,h2]
  ·first|(simp[h1,h2];omega;done)|simp[h1,h2]
theorem c0l{ps:List Pr}{bs:List Bd}{cs ad:List Tri}(hv:a8s ps bs cs ad=0):b4p ps=0/\c6K bs=0/\cs.length<=16/\asV ps ad=0:=by
 unfold a8s at hv;by_cases h1:b4p ps=0
 ·rw[Xp h1] at hv
  by_cases h2:c6K bs=0
  ·rw[Xp h2] at hv
   by_cases h3:c8m (bs.length:Int) cs=0
   ·rw[Xp h3] at hv
    refine⟨h1,h2,?_,hv⟩;unfold c8m at h3;split at h3
    ·cases h3
    ·rename_i h;rw[QS,a0G] at h;omega
   ·rw[XA h3] at hv;exact XJ hv h3
  ·rw[XA h2] at hv;exact XJ hv h2
 ·rw[XA h1] at hv;exact XJ hv h1
section
variable (σ:List MO)(ps:List Pr)(bs:List Bd)(cs ad:List Tri)(P B C A:PV)(hP:P.rowsOf 5=sm (ps.map XH))(hB:B.rowsOf 4=sm (bs.map XT))(hC:C.rowsOf 3=sm (cs.map XM))(hA:A.rowsOf 3=sm (ad.map XM))(n:Nat)
include hP hB hC hA in
theorem e5v(hlow:σ.all (MO.low σ.length)=tt)(hv:a8s ps bs cs ad=0)(i:Int)(b:W6)(hn:1200<=n):a0a Tab n 54 [.agg [P,B,C,A],.int .i64 i,.agg b.pv] σ=sm (.int .i64 (b8F ps bs cs ad i b),σ):=by
 obtain⟨n,rfl⟩:=a0L n (by omega);obtain⟨v1,v2,v3,v4⟩:=c0l hv;obtain⟨hl,hr⟩:=a9X v1;obtain⟨p1,p2,p3⟩:=a0b hP;obtain⟨b1,b2,b3⟩:=a0b hB;obtain⟨c1,c2,c3⟩:=a0b hC;obtain⟨a1,a2,a3⟩:=a0b hA;rw[Qj] at b1 c1;have k1:=c0P σ ps bs cs ad P B C A hP hB hC hA n (by omega)
 have k2:a0a Tab n 79 [.agg [P,B,C,A],.int .i64 i,.agg b.pv] σ=sm (.int .i64 (b8F ps bs cs ad i b),σ):=by
  obtain⟨n,rfl⟩:=a0L n (by omega);have q1:=a5x σ b n (by omega);have q2:=e9E σ ps bs cs ad P B C A hP hB hC hA n hl hr v4 (by omega);have q3:=c5l σ ps P hP hl n (by omega);have q4:=d9M σ b (a2x ps) n (by omega);simp only[XC] at q1 q2 q3 q4;rw[a0a];simp only[d6S,Q0,XE,XC];show ((a0i [.sh (.agg [_,_,_,_]),.sh (.one _),.sh (.agg [_,_,_,_,_,_])] _).bind _)=_;simp only[a0i,a0m,a0c,Q1,Q0,Qb,Q5,Q6,XD,p3,b3,c3,a3];show (Xz _ c1m _).bind _=_;simp only[c1m,↓reduceIte,a0j,a0e,a0h,a0A,a0s,Xs,Xt,Xq,PEnv.at,Q3,Q4,Q7,Q8,a0w,a0m,Q1,Q0,Xy,Q6,Q5,Xu,Xr,Xx,Qa,Q9,b1,b2,c1,c2,b8F];cases h1:ltB i 0 with
  | true=>simp only[↓reduceIte,Q2,Q1,Q0,a0n,Xv]
  | false =>
   cases h2:leB (bs.length:Int) i with
   | true=>simp only[↓reduceIte,Q2,Q1,Q0,a0n,Xv,Q2]
   | false =>
    rw[a0G] at h1;rw[a4Y] at h2;obtain⟨j,rfl⟩:∃j:Nat,i=(j:Int):=⟨i.toNat,by omega⟩;obtain⟨y,hy⟩:=a0S (show j<bs.length by omega);have hbc:(((bs[(j:Int).toNat]?).map Bd.c).getD 0)=y.c:=by rw[QU,hy];rfl
    rw[hbc];have e5:=a3l;simp only[↓reduceIte,Q3,Q4,Q2,a0c,Q1,Q0,Q6,Q5,q1,Q2];by_cases hw:b.ok
    ·have hb:a4o b=0:=by unfold a4o;rw[Xp hw]
     rw[Xp hw,hb];have q5:=e5p σ bs P B C A hB n p3 c3 a3 hy (shF ps ad).2 b (by omega);have q6:=d9M σ (d2F (shF ps ad).2 y.c b) (shF ps ad).1 n (by omega);simp only[XC] at q5 q6;obtain⟨f,hf⟩:∃f,n=f+cs.length+1:=⟨n-cs.length-1,by omega⟩;have q7:=f2w σ ps cs P B C A hP hC n v3 hlow (j:Int) b (by omega) cs.length 0 (by omega) f;rw[<- hf] at q7;simp only[e3C] at q7;simp only[↓reduceIte,Q3,Q4,Q2,a0c,a0m,Q1,Q0,Q6,Q5,Qb,Qm,show eqB 0 0=tt from rfl,q2,a1J,q3,q4];by_cases w1:b.le (a2x ps)
     ·rw[dT0 w1]
      simp only[↓reduceIte,Q3,Q4,Q2,a0c,Q1,Q0,Q6,Q5,Qm,q5,q6];by_cases w2:(d2F (shF ps ad).2 y.c b).le (shF ps ad).1
      ·rw[dT0 w2,show (if b.le (a2x ps)/\(d2F (shF ps ad).2 y.c b).le (shF ps ad).1 then b6t ps (j:Int) b cs else 14)=b6t ps (j:Int) b cs from Xp ⟨w1,w2⟩]
       simp only[↓reduceIte,Q2,Q0,Qm,];exact q7
      ·rw[dF0 w2,show (if b.le (a2x ps)/\(d2F (shF ps ad).2 y.c b).le (shF ps ad).1 then b6t ps (j:Int) b cs else 14)=14 from XA (fun h=>w2 h.2)]
       simp only[↓reduceIte,Q2,Q1,Q0,Qp,a0n,Xv]
     ·rw[dF0 w1,show (if b.le (a2x ps)/\(d2F (shF ps ad).2 y.c b).le (shF ps ad).1 then b6t ps (j:Int) b cs else 14)=14 from XA (fun h=>w1 h.1)]
      simp only[↓reduceIte,Q2,Q1,Q0,Qp,a0n,Xv]
    ·have hb:a4o b=4:=by unfold a4o;rw[XA hw]
     rw[XA hw,hb];simp only[↓reduceIte,Q2,Q1,Q0,Qp,show eqB 4 0=ff from rfl,a0n,Xv]
 rw[hv] at k1;simp only[XC] at k1 k2;rw[a0a];simp only[d6Q,Q0,XE,XC];show ((a0i [.sh (.agg [_,_,_,_]),.sh (.one _),.sh (.agg [_,_,_,_,_,_])] _).bind _)=_;simp only[a0i,a0m,a0c,Q1,Q0,Qb,Q5,Q6,XD,p3,b3,c3,a3];show (Xz _ c0E _).bind _=_;simp only[c0E,↓reduceIte,a0j,a0e,a0A,Xs,Xt,Xq,Q3,Q4,Q7,Q8,Q2,a0c,a0w,a0m,Q1,Q0,Xy,Q6,Q5,Xu,Xr,Qm,k1,k2,show eqB 0 0=tt from rfl,a0n,Xv]
end
section
variable (σ:List MO)(bs:List Bd)(P B C A:PV)(hB:B.rowsOf 4=sm (bs.map XT))(n:Nat)
def d8n(σ:List MO)(P B C A:PV)(i k:Int)(b o c s:W6):PEnv:={i:=[i,k,b.a,b.b,b.c,b.d,b.e,b.f,o.a,o.b,o.c,o.d,o.e,o.f,c.a,c.b,c.c,c.d,c.e,c.f,s.a,s.b,s.c,s.d,s.e,s.f],b:=[],v:=[P,B,C,A],m:=σ,k:=σ.length}
theorem f5r{α:Type}(c w b o s:Int)(x z:α):(if hit c w b o s=tt then x else z)=if decide (s<b)=tt then x else if decide (c=0)=tt then z else if decide (c=w)=tt then z else if decide (o<b)=tt then x else z:=by
 have e5:=a3l;have e6:=a4X;rw[hit,e5,e5,e6,e6];cases decide (s<b)<;>cases decide (c=0)<;>cases decide (c=w)<;>cases decide (o<b)<;>rfl
def raP(σ:List MO)(P B C A:PV)(n:Nat)(i:Nat)(y:Bd)(I J:Int)(F:W6->Int):Prop:=∀(b o c s:W6) (fuel:Nat),a1T.loop (a0a Tab n) (fuel+1) 0 (d8n σ P B C A (i:Int) I b o c s)=if hit (F c) y.c (F b) (F o) (F s)=tt then sm (.int .i64 14,σ) else a1T.loop (a0a Tab n) fuel 0 (d8n σ P B C A (i:Int) J b o c s)
include hB in
theorem f4d{i:Nat}{y:Bd}(hy:bs[i]?=sm y):raP σ P B C A n i y 0 1 W6.a/\raP σ P B C A n i y 1 2 W6.b/\raP σ P B C A n i y 2 3 W6.c/\raP σ P B C A n i y 3 4 W6.d/\raP σ P B C A n i y 4 5 W6.e/\raP σ P B C A n i y 5 6 W6.f:=by
 obtain⟨b1,b2,b3⟩:=a0b hB;rw[Qj] at b1;have h0:=a0V (off:=1) hB (a8o hy);have e5:=a3l;have e6:=a4X;have hd':decide ((i:Int)<(bs.length:Int))=tt:=dT0 (by have:=(QA.1 hy).1;omega);obtain⟨d1,d2,d3⟩:=bdr (.str y.nm) (.int .i64 y.c) (.int .i64 y.b) (.int .i64 y.p);refine⟨?_,?_,?_,?_,?_,?_⟩ <;>
 ·intro b o c s fuel
  rw[Xw,show a1T.loops[0]?=sm a5C from rfl,f5r];simp only[d8n];simp only[Q0,a5C,↓reduceIte,a0j,a0e,a0h,a0F,a0s,Xs,Xt,Xq,PEnv.at,Q3,Q4,Q7,Q8,a0H,a0x,a1g,Qg,Qd,Nat.reduceAdd,Q2,Qq,Qn,a0c,Q1,Q0,Xy,Q6,Q5,Xu,Xr,Xx,Qf,Qa,Q9,e5,e6,Int.reduceEq,Int.reduceLT,XQ,XR,Nat.reduceLeDiff,b1,le0,hd',h0,b1f,d1,a0n,Xv]
  (repeat' split)<;>first|rfl|simp_all
end
section
variable (σ:List MO)(ps:List Pr)(bs:List Bd)(cs ad:List Tri)(P B C A:PV)(hP:P.rowsOf 5=sm (ps.map XH))(hB:B.rowsOf 4=sm (bs.map XT))(hC:C.rowsOf 3=sm (cs.map XM))(hA:A.rowsOf 3=sm (ad.map XM))(n:Nat)
include hP hB hC hA in
theorem e4d(hv:a8s ps bs cs ad=0)(i:Int)(b:W6)(hn:1200<=n):a0a Tab n 21 [.agg [P,B,C,A],.int .i64 i,.agg b.pv] σ=sm (.int .i64 (b8F ps bs cs ad i b),σ):=by
 obtain⟨n,rfl⟩:∃k,n=k+9:=⟨n-9,by omega⟩;obtain⟨v1,v2,v3,v4⟩:=c0l hv;obtain⟨hl,hr⟩:=a9X v1;obtain⟨p1,p2,p3⟩:=a0b hP;obtain⟨b1,b2,b3⟩:=a0b hB;obtain⟨c1,c2,c3⟩:=a0b hC;obtain⟨a1,a2,a3⟩:=a0b hA;rw[Qj] at b1 c1;have k1:=b5a σ ps bs cs ad P B C A hP hB hC hA (n+8) (by omega);have q1:=c6U σ b (n+8) (by omega);have q2:=f2j σ ps bs cs ad P B C A hP hB hC hA (n+8) hv hl hr v4 (by omega);have q3:=d7m σ ps P hP hl (n+8) (by omega);rw[hv] at k1;simp only[XC] at k1 q1 q2 q3
 have key:∀(j:Nat) (y:Bd),bs[j]?=sm y->a1T.loop (a0a Tab (n+8)) (n+8) 0 (d8n σ P B C A (j:Int) 0 b (shF ps ad).1 (shF ps ad).2 (a2x ps))=sm (.int .i64 (if b.le (a2x ps)/\(d2F (shF ps ad).2 y.c b).le (shF ps ad).1 then b6t ps (j:Int) b cs else 14),σ):=by
  intro j y hy;obtain⟨n1,n2,n3,n4,n5,n6⟩:=e8S hl hr v4;generalize (shF ps ad).1=o at *
  generalize (shF ps ad).2=c at *
  generalize a2x ps=s at *
  have fin:∀fuel,a1T.loop (a0a Tab (n+8)) (fuel+1) 0 (d8n σ P B C A (j:Int) 6 b o c s)=a1T.loop (a0a Tab (n+8)) fuel 1 (d9g σ P B C A (j:Int) (cs.length:Int) 0 b):=fun fuel=>by
   have e6:ltB 6 6=ff:=rfl;rw[Xw,show a1T.loops[0]?=sm a5C from rfl];simp only[Q0,d8n,d9g,a5C,↓reduceIte,a0e,a0s,Xs,Xt,Xq,Q3,Q4,Q7,Q8,Q2,Q1,Q0,Xu,Xr,Xx,Qa,Q9,e6]
  obtain⟨f,hf⟩:∃f,n+1=f+cs.length+1:=⟨n-cs.length,by omega⟩;have q7:=f2k σ ps cs P B C A hP hC (n+8) v3 (j:Int) b (by omega) cs.length 0 (by omega) f;rw[<- hf,show cs.drop 0=cs from rfl] at q7;obtain⟨r0,r1,r2,r3,r4,r5⟩:=f4d σ bs P B C A hB (n+8) hy;rw[r0 b o c s (n+7)];cases t1:hit c.a y.c b.a o.a s.a with
  | true=>rw[Xp rfl,XA (fun h=>by rw[(b3S n1).2 ⟨h.1.1,h.2.1⟩] at t1;cases t1)]
  | false =>
  rw[XA (by simp),r1 b o c s (n+6)];cases t2:hit c.b y.c b.b o.b s.b with
  | true=>rw[Xp rfl,XA (fun h=>by rw[(b3S n2).2 ⟨h.1.2.1,h.2.2.1⟩] at t2;cases t2)]
  | false =>
  rw[XA (by simp),r2 b o c s (n+5)];cases t3:hit c.c y.c b.c o.c s.c with
  | true=>rw[Xp rfl,XA (fun h=>by rw[(b3S n3).2 ⟨h.1.2.2.1,h.2.2.2.1⟩] at t3;cases t3)]
  | false =>
  rw[XA (by simp),r3 b o c s (n+4)];cases t4:hit c.d y.c b.d o.d s.d with
  | true=>rw[Xp rfl,XA (fun h=>by rw[(b3S n4).2 ⟨h.1.2.2.2.1,h.2.2.2.2.1⟩] at t4;cases t4)]
  | false =>
  rw[XA (by simp),r4 b o c s (n+3)];cases t5:hit c.e y.c b.e o.e s.e with
  | true=>rw[Xp rfl,XA (fun h=>by rw[(b3S n5).2 ⟨h.1.2.2.2.2.1,h.2.2.2.2.2.1⟩] at t5;cases t5)]
  | false =>
  rw[XA (by simp),r5 b o c s (n+2)];cases t6:hit c.f y.c b.f o.f s.f with
  | true=>rw[Xp rfl,XA (fun h=>by rw[(b3S n6).2 ⟨h.1.2.2.2.2.2,h.2.2.2.2.2.2⟩] at t6;cases t6)]
  | false =>
  have r1:=(b3S n1).1 t1;have r2:=(b3S n2).1 t2;have r3:=(b3S n3).1 t3;have r4:=(b3S n4).1 t4;have r5:=(b3S n5).1 t5;have r6:=(b3S n6).1 t6;rw[XA (by simp),fin (n+1),Xp ⟨⟨r1.1,r2.1,r3.1,r4.1,r5.1,r6.1⟩,⟨r1.2,r2.2,r3.2,r4.2,r5.2,r6.2⟩⟩];exact q7
 rw[a0a];simp only[c5f,Q0,XE,XC];show ((a0i [.sh (.agg [_,_,_,_]),.sh (.one _),.sh (.agg [_,_,_,_,_,_])] _).bind _)=_;simp only[a0i,a0m,a0c,Q1,Q0,Qb,Q5,Q6,XD,p3,b3,c3,a3];show (Xz _ b0L _).bind _=_;simp only[b0L,↓reduceIte,a0j,a0e,a0h,a0A,a0s,Xs,Xt,Xq,PEnv.at,Q3,Q4,Q7,Q8,Q2,a0c,a0w,a0m,Q1,Q0,Xy,Q6,Q5,Xu,Xr,Xx,Qm,Qa,Q9,k1,show eqB 0 0=tt from rfl,b1,b2,b8F];cases h1:ltB i 0 with
 | true=>simp only[↓reduceIte,Q2,Q1,Q0,a0n,Xv]
 | false =>
  cases h2:leB (bs.length:Int) i with
  | true=>simp only[↓reduceIte,Q2,Q1,Q0,a0n,Xv,Q2]
  | false =>
   rw[a0G] at h1;rw[a4Y] at h2;obtain⟨j,rfl⟩:∃j:Nat,i=(j:Int):=⟨i.toNat,by omega⟩;obtain⟨y,hy⟩:=a0S (show j<bs.length by omega);have hbc:(((bs[(j:Int).toNat]?).map Bd.c).getD 0)=y.c:=by rw[QU,hy];rfl
   rw[hbc];simp only[↓reduceIte,Q3,Q2,a0c,Q1,Q0,Q5,q1,Q2];by_cases hw:b.ok
   ·rw[dT0 hw,Xp hw]
    have key:=key j y hy;simp only[d8n] at key;simp only[↓reduceIte,Q3,Q4,Q2,a0c,a0m,Q1,Q0,Q6,Q5,Qb,Qm,q2,a1J,q3];exact key
   ·rw[dF0 hw,XA hw]
    simp only[↓reduceIte,Q2,Q1,Q0,Qp,a0n,Xv]
end
theorem f1N(σ:List MO)(l:List Pr)(P:PV)(hP:P.rowsOf 5=sm (l.map XH))(w:W6)(n:Nat)(hn:80<=n):a0a Tab n 131 [.agg (P::w.pv),.fn 138 []] σ=sm (.int .i64 (c0G l w),σ):=by
 obtain⟨n,rfl⟩:=a0L n (by omega);obtain⟨p1,p2,p3⟩:=a0b hP;rw[Qj] at p1;have c1:=c9N σ l P hP n (by omega);have c2:=a5x σ w n (by omega);simp only[XC] at c1 c2;simp only[a0a,c0t,Q0,XE,XC];show ((a0i [.sh (.agg [_,_,_,_,_,_,_]),.sh (.one _)] _).bind _)=_;simp only[a0i,a0m,a0c,Q1,Q0,Qb,Q5,Q6,XD,p3,e3X];show (Xz _ a8g _).bind _=_;simp only[a8g,↓reduceIte,a0j,a0e,a0h,a0A,a0s,Xs,Xt,Xq,PEnv.at,Q3,Q4,Q7,Q8,a0c,a0w,a0m,Q1,Q0,Xy,Q6,Q5,Xu,Xr,Xx,Qa,Q9,c1,c0G];cases hc:eqB (b4p l) 0 with
 | false=>simp only[↓reduceIte,Q2,Q1,Q0,Qp,a0n,Xv]
 | true =>
  obtain⟨hl,hr⟩:=a9X (a9e.1 hc);simp only[↓reduceIte,Q3,Q2,a0c,Q1,Q0,Qm,c2];by_cases hw:w.ok
  ·have hb:eqB (a4o w) 0=tt:=by unfold a4o;rw[Xp hw];rfl
   have:=f1c σ l P hP w hw hl hr n (by omega) l.length 0 (by omega) (n-l.length-1);rw[show n-l.length-1+l.length+1=n by omega] at this;simp only[↓reduceIte,Q2,Q0,Qm,hb,p1,p2];exact this
  ·have hb:eqB (a4o w) 0=ff:=by unfold a4o;rw[XA hw];rfl
   simp only[↓reduceIte,Q2,Q1,Q0,Qp,hb,a0n,Xv]
theorem e9v(σ:List MO)(l:List Pr)(P:PV)(hP:P.rowsOf 5=sm (l.map XH))(w:W6)(n:Nat)(hn:90<=n):a0a Tab n 133 [P,.agg w.pv] σ=sm (.int .i64 (c0G l w),σ):=by
 obtain⟨n,rfl⟩:=a0L n (by omega);obtain⟨p1,p2,p3⟩:=a0b hP;have c1:=f1N σ l P hP w n (by omega);simp only[XC] at c1;simp only[a0a,d4o,Q0,XE,XC];show ((a0i [.sh (.one _),.sh (.agg [_,_,_,_,_,_])] _).bind _)=_;simp only[a0i,a0m,a0c,Q1,Q0,Qb,Q5,XD,p3];show (Xz _ b9E _).bind _=_;simp only[b9E,↓reduceIte,a0j,a0A,Xq,Q3,Q4,Q7,Q2,a0c,a0w,a0m,Q1,Q0,Xy,Q6,Q5,Xu,Xr,c1,a0n,Xv]
def b9L(s:St)(i:Int)(L:PV):List PV:=[s.P,s.B,s.C,s.A,.int .i64 i,L]
theorem d7y(σ:List MO)(s:St)(hs:s.Ok)(i:Int)(L:PV)(hL:L.one=tt)(x:Ch)(n:Nat)(hn:100<=n):a0a Tab n 119 [.agg (b9L s i L),.agg x.row] σ=sm (.int .i64 (c0G s.ps x.w),σ):=by
 obtain⟨n,rfl⟩:=a0L n (by omega);obtain⟨p1,p2,p3⟩:=a0b hs.P;obtain⟨b1,b2,b3⟩:=a0b hs.B;have c1:=e9v σ s.ps s.P hs.P x.w n (by omega);simp only[XC] at c1;simp only[a0a,c3G,Q0,XE,b9L,a2T];show ((a0i [.sh (.agg [_,_,_,_,_,_]),.sh (.agg [_,_,_,_,_,_,_,_,_,_,_,_])] _).bind _)=_;simp only[a0i,a0m,a0c,Q1,Q0,Qb,Q5,Q6,XD,p3,b3,hs.C,hs.A,hL];show (Xz _ a9L _).bind _=_;simp only[a9L,↓reduceIte,a0j,a0A,Xq,Q3,Q4,Q7,Q2,a0c,a0w,a0m,Q1,Q0,Xy,Q6,Q5,Xu,Xr,c1,a0n,Xv]
def c5k(ps:List Pr)(l:List Ch)(a:Int):Int:=l.foldl (fun m x=>mnI m (c0G ps x.w)) a
def d6J(s:St)(i:Int)(l:List Ch):Int:=if b9C s i=tt then c5k s.ps l (((s.bs[i.toNat]?).map Bd.p).getD 0) else 0
theorem f2m(σ:List MO)(s:St)(hs:s.Ok)(i:Int)(l:List Ch)(L:PV)(hL:L.rowsOf 12=sm (l.map XF))(hl:l.length<=1000)(n:Nat)(hn:1200<=n) :
  a0a Tab n 120 [.agg s.pv,.int .i64 i,L] σ=sm (.int .i64 (d6J s i l),σ):=by
 obtain⟨n,rfl⟩:=a0L n (by omega);obtain⟨p1,p2,p3⟩:=a0b hs.P;obtain⟨b1,b2,b3⟩:=a0b hs.B;obtain⟨l1,l2,l3⟩:=a0b hL;rw[Qj] at b1 l1;have c1:=b9u σ s hs i n (by omega);simp only[XK] at c1
 have loop:∀d k,k+d=l.length->∀fuel (a:Int),a4U.loop (a0a Tab n) (fuel+d+1) 0 {i:=[i,a,(l.length:Int),(k:Int)],b:=[],v:=[s.P,s.B,s.C,s.A,L],m:=σ,k:=σ.length}=sm (.int .i64 (c5k s.ps (l.drop k) a),σ):=by
  intro d
  induction d with
  | zero =>
   intro k hk fuel a;rw[Qe] at hk;subst hk;have hd:decide (l.length<l.length)=ff:=by simp
   rw[Xw,show a4U.loops[0]?=sm a5U from rfl,QL];simp only[Q0,a5U,↓reduceIte,a0j,a0e,Xs,Xt,Xq,Q3,Q4,Q2,Q1,Q0,Xr,a0I,hd,a0n,Xv,c5k,QM]
  | succ d ih =>
   intro k hk fuel a;have hlt:k<l.length:=by omega
   obtain⟨x,hx⟩:=a0S hlt;have hd:decide (k<l.length)=tt:=dT0 hlt;have h0:=a0V (off:=0) hL (a8n hx);have hup:=a2N (show k<=1000000000 by omega);have c2:=d7y σ s hs i L l3 x n (by omega);simp only[b9L,a2T] at c2;have ih:=ih (k+1) (by omega) fuel (mnI a (c0G s.ps x.w));rw[a1o] at ih;rw[a7Q hx,show c5k s.ps (x::l.drop (k+1)) a=c5k s.ps (l.drop (k+1)) (mnI a (c0G s.ps x.w)) from rfl,<- ih,show fuel+(d+1)+1=(fuel+d+1)+1 from rfl,Xw,show a4U.loops[0]?=sm a5U from rfl];simp only[Q0,a5U,↓reduceIte,a0e,a0h,a0F,a0A,a0s,Xs,Xt,Xq,PEnv.at,Q3,Q4,Q7,Q8,a0H,a0x,a1g,Qs,Qg,Qd,Nat.reduceAdd,Qk,Q2,Qq,Qn,a0c,a0w,a0m,Q1,Q0,Xy,Q6,Q5,Xu,Xr,Xx,Qf,Qa,Q9,l1,a0I,hd,le0,h0,a2T,c2,Xp hup]
 simp only[a0a,c6D,Q0,XE,XK];show ((a0i [.sh (.agg [_,_,_,_]),.sh (.one _),.sh (.one _)] _).bind _)=_;simp only[a0i,a0m,a0c,Q1,Q0,Qb,Q5,Q6,XD,p3,b3,l3,hs.C,hs.A];show (Xz _ b1x _).bind _=_;simp only[b1x,↓reduceIte,a0j,a0e,a0h,a0F,a0A,a0s,Xs,Xt,Xq,PEnv.at,Q3,Q4,Q7,Q8,a0H,a0x,a1g,Qg,Qd,Nat.reduceAdd,a0c,a0w,a0m,Q1,Q0,Xy,Q6,Q5,Xu,Xr,Xx,Qf,Qa,Q9,c1,d6J];cases hh:b9C s i with
 | false=>simp only[↓reduceIte,Q2,Q1,Q0,Qp,a0n,Xv]
 | true =>
  obtain⟨k,rfl,hk,hkn⟩:=d6K hh;obtain⟨b,hb⟩:=a0S hk;have hloc:=a0V (off:=3) hs.B (a8o hb);have hd:decide (k<s.bs.length)=tt:=dT0 hk;have dr:∀a b c d:PV,QN 3 [a,b,c,d]=[d]:=fun _ _ _ _=>rfl
  have:=loop l.length 0 (by omega) (n-l.length-1) b.p;rw[show n-l.length-1+l.length+1=n by omega,Qs] at this;rw[hkn,hb];simp only[↓reduceIte,Q3,Qg,Qd,Nat.reduceAdd,Qk,Q2,Qq,Qn,a0c,Q1,Q0,Qf,Qm,b1,l1,l2,a0I,hd,le0,hloc,b1f,dr,Qy];exact this
theorem f0v(σ:List MO)(s:St)(hs:s.Ok)(i:Int)(l:List Ch)(L:PV)(hL:L.rowsOf 12=sm (l.map XF))(hl:l.length<=1000)(n:Nat)(hn:1200<=n) :
  a0a Tab n 107 [.agg s.pv,.int .i64 i,L] σ=sm (.int .i64 (d6J s i l),σ):=by
 obtain⟨n,rfl⟩:=a0L n (by omega);obtain⟨p1,p2,p3⟩:=a0b hs.P;obtain⟨b1,b2,b3⟩:=a0b hs.B;obtain⟨l1,l2,l3⟩:=a0b hL;rw[Qj] at b1 l1;have c1:=b0q σ s hs i n (by omega);simp only[XK] at c1
 have loop:∀d k,k+d=l.length->∀fuel (a:Int),a3Q.loop (a0a Tab n) (fuel+d+1) 0 {i:=[a,(k:Int)],b:=[],v:=[L,s.P,s.B,s.C,s.A],m:=σ,k:=σ.length}=sm (.int .i64 (c5k s.ps (l.drop k) a),σ):=by
  intro d
  induction d with
  | zero =>
   intro k hk fuel a;rw[Qe] at hk;subst hk;have hd:decide (l.length<l.length)=ff:=by simp
   rw[Xw,show a3Q.loops[0]?=sm a4p from rfl,QL];simp only[Q0,a4p,↓reduceIte,a0j,a0e,a0h,Xs,Xt,Xq,PEnv.at,Q3,Q4,Q2,Q1,Q0,Xr,l1,l2,a0I,hd,a0n,Xv,c5k,QM]
  | succ d ih =>
   intro k hk fuel a;have hlt:k<l.length:=by omega
   obtain⟨x,hx⟩:=a0S hlt;have hd:decide (k<l.length)=tt:=dT0 hlt;have h0:=a0V (off:=6) hL (a8n hx);have hup:=a2N (show k<=1000000000 by omega);have c2:=d7l σ s hs x.w n (by omega);simp only[XK,XC] at c2;have ih:=ih (k+1) (by omega) fuel (mnI a (c0G s.ps x.w));rw[a1o] at ih;rw[a7Q hx,show c5k s.ps (x::l.drop (k+1)) a=c5k s.ps (l.drop (k+1)) (mnI a (c0G s.ps x.w)) from rfl,<- ih,show fuel+(d+1)+1=(fuel+d+1)+1 from rfl,Xw,show a3Q.loops[0]?=sm a4p from rfl];simp only[Q0,a4p,↓reduceIte,a0e,a0h,a0F,a0A,a0s,Xs,Xt,Xq,PEnv.at,Q3,Q4,Q7,Q8,a0H,a0x,a1g,Qg,Qd,Nat.reduceAdd,Qk,Qq,Qn,a0c,a0w,a0m,Q1,Q0,Xy,Q6,Q5,Xu,Xr,Xx,Qf,Qa,Q9,l1,l2,a0I,hd,le0,h0,a2T,c8z,c2,Xp hup]
 simp only[a0a,c1C,Q0,XE,XK];show ((a0i [.sh (.agg [_,_,_,_]),.sh (.one _),.sh (.one _)] _).bind _)=_;simp only[a0i,a0m,a0c,Q1,Q0,Qb,Q5,Q6,XD,p3,b3,l3,hs.C,hs.A];show (Xz _ a8H _).bind _=_;simp only[a8H,↓reduceIte,a0j,a0e,a0h,a0F,a0A,a0s,Xs,Xt,Xq,PEnv.at,Q3,Q4,Q7,Q8,a0H,a0x,a1g,Qg,Qd,Nat.reduceAdd,Q2,a0c,a0w,a0m,Q1,Q0,Xy,Q6,Q5,Xu,Xr,Xx,Qf,Qa,Q9,c1,d6J];cases hh:b9C s i with
 | false=>simp only[↓reduceIte,Q2,Q1,Q0,Qp,a0n,Xv]
 | true =>
  obtain⟨k,rfl,hk,hkn⟩:=d6K hh;obtain⟨b,hb⟩:=a0S hk;have hloc:=a0V (off:=3) hs.B (a8o hb);have hd:decide (k<s.bs.length)=tt:=dT0 hk;have dr:∀a b c d:PV,QN 3 [a,b,c,d]=[d]:=fun _ _ _ _=>rfl
  have:=loop l.length 0 (by omega) (n-l.length-1) b.p;rw[show n-l.length-1+l.length+1=n by omega,Qs] at this;rw[hkn,hb];simp only[↓reduceIte,Q3,Qg,Qd,Nat.reduceAdd,Qk,Q2,Qq,Qn,a0c,Q1,Q0,Qf,Qm,b1,a0I,hd,le0,hloc,b1f,dr,Qy];exact this
def b5U(w:W6):Bool:=eqB w.a 0&&(eqB w.b 0&&(eqB w.c 0&&(eqB w.d 0&&(eqB w.e 0&&eqB w.f 0))))
def c5p(l:List Ch):Bool:=match l.getLast? with|some x=>b5U x.w|none=>ff
theorem d3Z(σ:List MO)(l:List Ch)(L:PV)(hL:L.rowsOf 12=sm (l.map XF))(hl:l.length<=1000)(n:Nat)(hn:1<=n):a0a Tab n 86 [L] σ=sm (.bool (c5p l),σ):=by
 obtain⟨n,rfl⟩:=a0L n (by omega);obtain⟨l1,l2,l3⟩:=a0b hL;rw[Qj] at l1;simp only[a0a,d3U,Q0,XE];show ((a0i [.sh (.one _)] _).bind _)=_;simp only[a0i,a0m,a0c,Q1,Q0,Qb,XD,l3];show (Xz _ b8I _).bind _=_;simp only[b8I,↓reduceIte,a0j,a0e,a0h,a0F,Xs,Xt,Xq,PEnv.at,Q3,Q7,a0H,a0x,a1g,Qg,Qd,Nat.reduceAdd,Q2,Q0,Xy,Q6,Q5,Xr,Qf,l1,l2];by_cases h0:l.length=0
 ·have hn:l=[]:=X9.1 h0
  subst hn;have h1:ltB 0 (([]:List Ch).length:Int)=ff:=rfl;rw[h1];simp only[↓reduceIte,Q2,Q1,Q0,a0n,Xv];rfl
 ·have h1:ltB 0 (l.length:Int)=tt:=by rw[a0U];omega
  obtain⟨x,hx⟩:=a0S (show l.length-1<l.length by omega);have h2:=a0V (off:=6) hL (a8n hx);have e:((l.length-1:Nat):Int)=(l.length:Int)-1:=by omega
  rw[e] at h2;have h4:leB 0 ((l.length:Int)-1)=tt:=by rw[a2O];omega
  have h5:ltB ((l.length:Int)-1) (l.length:Int)=tt:=by rw[a0U];omega
  have h6:c5p l=b5U x.w:=by unfold c5p;rw[Xa,hx]
  rw[h1,h6];simp only[↓reduceIte,Q3,Q4,Qg,Qd,Nat.reduceAdd,Qk,Q2,Qq,Qn,a0c,Q1,Q0,Qf,Xp (a1K (z:=(l.length:Int)-1) (by omega)),h4,h5,h2,a2T,c8z,a0n,Xv,b5U]
theorem c7l(σ:List MO)(l:List Ch)(L:PV)(hL:L.rowsOf 12=sm (l.map XF))(hl:l.length<=1000)(n:Nat)(hn:1<=n):a0a Tab n 105 [L] σ=sm (.bool (c5p l),σ):=by
 obtain⟨n,rfl⟩:=a0L n (by omega);obtain⟨l1,l2,l3⟩:=a0b hL;rw[Qj] at l1;simp only[a0a,c6j,Q0,XE];show ((a0i [.sh (.one _)] _).bind _)=_;simp only[a0i,a0m,a0c,Q1,Q0,Qb,XD,l3];show (Xz _ b1F _).bind _=_;simp only[b1F,↓reduceIte,a0j,a0e,a0h,a0F,Xs,Xt,Xq,PEnv.at,Q3,Q7,a0H,a0x,a1g,Qg,Qd,Nat.reduceAdd,Q2,Q0,Xy,Q6,Q5,Xr,Qf,l1,l2];by_cases h0:l.length=0
 ·have hn:l=[]:=X9.1 h0
  subst hn;have h1:ltB 0 (([]:List Ch).length:Int)=ff:=rfl;rw[h1];simp only[↓reduceIte,Q2,Q1,Q0,a0n,Xv];rfl
 ·have h1:ltB 0 (l.length:Int)=tt:=by rw[a0U];omega
  obtain⟨x,hx⟩:=a0S (show l.length-1<l.length by omega);have h2:=a0V (off:=6) hL (a8n hx);have e:((l.length-1:Nat):Int)=(l.length:Int)-1:=by omega
  rw[e] at h2;have h4:leB 0 ((l.length:Int)-1)=tt:=by rw[a2O];omega
  have h5:ltB ((l.length:Int)-1) (l.length:Int)=tt:=by rw[a0U];omega
  have h6:c5p l=b5U x.w:=by unfold c5p;rw[Xa,hx]
  rw[h1,h6];simp only[↓reduceIte,Q3,Q4,Qg,Qd,Nat.reduceAdd,Qk,Q2,Qq,Qn,a0c,Q1,Q0,Qf,Xp (a1K (z:=(l.length:Int)-1) (by omega)),h4,h5,h2,a2T,c8z,a0n,Xv,b5U]
open Go.Sx Go.Bf
def a3I(f:Nat->Int)(z j k:Nat):List Int:=(Qu k).map fun i=>(a0Y f z (j+i):Int)
theorem d9A(f:Nat->Int)(z j:Nat):a3I f z j 0=[]:=rfl
theorem b5j(f:Nat->Int)(z j k:Nat):(a3I f z j k).length=k:=by simp[a3I]
theorem d8Q(f:Nat->Int)(z j k:Nat):a3I f z j (k+1)=a3I f z j k++[(a0Y f z (j+k):Int)]:=by simp[a3I,Xb]
theorem d4X{f:Nat->Int}{z j k:Nat}{x:Int}:x∈a3I f z j k↔∃i,i<k/\x=(a0Y f z (j+i):Int):=by
 simp only[a3I,QZ,QV];constructor
 ·rintro⟨i,h,rfl⟩;exact⟨i,h,rfl⟩
 ·rintro⟨i,h,rfl⟩;exact⟨i,h,rfl⟩
theorem f2e{f:Nat->Int}{z k:Nat}(hn:((Qu k).map (a0Y f z)).Nodup){a b:Nat}(ha:a<k)(hb:b<k)(e:a0Y f z a=a0Y f z b):a=b:=by
 have ga:((Qu k).map (a0Y f z))[a]?=sm (a0Y f z a):=by simp[ha]
 have gb:((Qu k).map (a0Y f z))[b]?=sm (a0Y f z a):=by simp[hb,e]
 exact(List.getElem?_inj (by simpa using ha) hn).1 (by rw[ga,gb])
section
variable (σ:List MO)(n:Nat)(h:Nat)(fl:List Int)(T:Nat)(hm:σ[h]?=sm (.cells (a1Q fl) T))
variable {g:Nat->Nat->Int}{v:Nat->Int}{c t:Nat->Nat}{z:Nat}(hf:Go.Bf.Fin fl.length g v (at' fl) c t z)
def st0(k:Nat):PEnv:={i:=[(a0Y (at' fl) z k:Int)],b:=[],v:=[.msl h 0 fl.length fl.length 1,.mp σ.length],m:=σ++[.mp (a3I (at' fl) z 0 k) (Qh k (.bool tt)) .i64],k:=σ.length}
def st1(w:PV)(m:List MO)(x:Nat):PEnv:={i:=[(x:Int)],b:=[],v:=[.msl h 0 fl.length fl.length 1,.mp σ.length,w],m:=σ++m,k:=σ.length}
include hm hf in
theorem e9V(k fuel:Nat)(hk:k<=fl.length)(hn:((Qu k).map (a0Y (at' fl) z)).Nodup) :
  (a0Y (at' fl) z k∉(Qu k).map (a0Y (at' fl) z)->a1l.loop (a0a Tab n) (fuel+1) 0 (st0 σ h fl (z:=z) k)=a1l.loop (a0a Tab n) fuel 0 (st0 σ h fl (z:=z) (k+1))) /\
  (a0Y (at' fl) z k∈(Qu k).map (a0Y (at' fl) z)->a1l.loop (a0a Tab n) (fuel+1) 0 (st0 σ h fl (z:=z) k)=a1l.loop (a0a Tab n) fuel 1 (st1 σ h fl .nilS [.mp [] [] .i64] (a0Y (at' fl) z k))):=by
 have hl:=d4H (a3I (at' fl) z 0 k) (.bool tt) (a0Y (at' fl) z k:Int);rw[b5j] at hl
 have hmem:((a0Y (at' fl) z k:Int)∈a3I (at' fl) z 0 k)↔a0Y (at' fl) z k∈(Qu k).map (a0Y (at' fl) z):=by
  rw[d4X,QZ];constructor
  ·rintro⟨i,hi,e⟩;exact⟨i,QV.2 hi,by rw[Qr] at e;omega⟩
  ·rintro⟨i,hi,e⟩;exact⟨i,QV.1 hi,by rw[Qr,e]⟩
 constructor
 ·intro hx
  have hx':=fun q=>hx (hmem.1 q)
  rw[XA hx'] at hl;have hp:=e5a (a3I (at' fl) z 0 k) (.bool tt) (a0Y (at' fl) z k:Int) hx';rw[b5j] at hp;have hkn:=hf.short hk hn hx;have a1:=hf.at_lt k (by omega);have hlink:=(hf.link hkn).1;have hk1:=d8Q (at' fl) z 0 k;rw[Qr] at hk1;rw[st0,st0,hk1];rw[Xw,show a1l.loops[0]?=sm a9w from rfl];generalize a0Y (at' fl) z (k+1)=y at *
  generalize a0Y (at' fl) z k=x at *
  have hg:fl[x]?=sm (y:Int):=by rw[b2H a1.1,hlink]
  have hd:=a9S hg;have he:=a7O (h:=h) (o:=0) (cap:=fl.length) (sz:=1) (off:=0) a1.1;have q1:(leB 0 (x:Int)&&decide (x<fl.length))=tt:=by simp[leB,a1.1]
  have gm:=fun r=>e8f (r:=r) hm
  simp only[Q0,a9w,↓reduceIte,Xz,Xs,Xt,Xq,PEnv.at,Q3,Q4,Q7,Q8,a0H,a0x,a1g,Qe,Qg,Qd,Q2,Qq,Qn,a0c,a0w,a0m,Q1,Q0,Xy,Q6,Q5,Xu,Xr,Xx,Qf,Qp,Qa,Q9,b3i,c5i,hl,hp,X3,XU,a0I,Xp q1,he,gm,XG,Qv,Qr,hd,Qw]
 ·intro hx
  rw[Xp (hmem.2 hx)] at hl;rw[st0,st1];rw[Xw,show a1l.loops[0]?=sm a9w from rfl];simp only[Q0,a9w,↓reduceIte,Xz,Xs,Xt,Xq,PEnv.at,Q3,Q4,Q7,Q8,a0H,a0x,a1g,Qg,Qd,Nat.reduceAdd,Q2,a0c,a0w,a0m,Q1,Q0,Xy,Q6,Q5,Xu,Xr,Xx,Qf,Qm,Qa,Q9,b3i,c5i,hl,Qy]
include hm hf in
theorem f1J(d:Nat):∀k,fl.length-k<=d->k<=fl.length->((Qu k).map (a0Y (at' fl) z)).Nodup->∃j k',k<=k'/\j<k'/\k'<=fl.length/\((Qu k').map (a0Y (at' fl) z)).Nodup/\a0Y (at' fl) z k'=a0Y (at' fl) z j /\
  ∀fuel,a1l.loop (a0a Tab n) (fuel+(k'-k)+1) 0 (st0 σ h fl (z:=z) k)=a1l.loop (a0a Tab n) fuel 1 (st1 σ h fl .nilS [.mp [] [] .i64] (a0Y (at' fl) z j)):=by
 induction d with
 | zero =>
  intro k h1 h2 hn;by_cases hx:a0Y (at' fl) z k∈(Qu k).map (a0Y (at' fl) z)
  ·obtain⟨j,hj,e⟩:=QZ.1 hx
   refine⟨j,k,Qk _,QV.1 hj,h2,hn,e.symm,fun fuel=>?_⟩;rw[Nat.sub_self,Qe,(e9V σ n h fl T hm hf k fuel h2 hn).2 hx,e]
  ·have:=hf.short h2 hn hx;omega
 | succ d ih =>
  intro k h1 h2 hn;by_cases hx:a0Y (at' fl) z k∈(Qu k).map (a0Y (at' fl) z)
  ·obtain⟨j,hj,e⟩:=QZ.1 hx
   refine⟨j,k,Qk _,QV.1 hj,h2,hn,e.symm,fun fuel=>?_⟩;rw[Nat.sub_self,Qe,(e9V σ n h fl T hm hf k fuel h2 hn).2 hx,e]
  ·have hk:=hf.short h2 hn hx
   have hn1:((Qu (k+1)).map (a0Y (at' fl) z)).Nodup:=by
    rw[Xb,List.map_append,List.nodup_append];refine⟨hn,by simp,?_⟩;intro a ha b hb;simp only[Qa,Q9,List.mem_singleton] at hb;rintro rfl;subst hb;exact hx ha
   obtain⟨j,k',e1,e2,e3,e4,e5,e6⟩:=ih (k+1) (by omega) (by omega) hn1;refine⟨j,k',by omega,e2,e3,e4,e5,fun fuel=>?_⟩;rw[show fuel+(k'-k)+1=(fuel+(k'-(k+1))+1)+1 by omega,(e9V σ n h fl T hm hf k _ h2 hn).1 hx,e6]
def b9N(j k:Nat):List MO:=.mp (a3I (at' fl) z j k) (Qh k (.bool tt)) .i64::(if k=0 then [] else [.row (a4R (a3I (at' fl) z j k)) 1 3])
def c3A(k:Nat):PV:=if k=0 then .nilS else .rsl (σ.length+1) k 1
include hm hf in
theorem f6w(j L k fuel:Nat)(hfl:fl.length<=1000)(hk:k<L)(hL:j+L<=fl.length)(hn:((Qu (j+L)).map (a0Y (at' fl) z)).Nodup) :
  a1l.loop (a0a Tab n) (fuel+1) 1 (st1 σ h fl (c3A σ k) (b9N fl (z:=z) j k) (a0Y (at' fl) z (j+k)))=a1l.loop (a0a Tab n) fuel 1 (st1 σ h fl (c3A σ (k+1)) (b9N fl (z:=z) j (k+1)) (a0Y (at' fl) z (j+k+1))):=by
 have hl:=d4H (a3I (at' fl) z j k) (.bool tt) (a0Y (at' fl) z (j+k):Int);rw[b5j] at hl
 have hx':¬((a0Y (at' fl) z (j+k):Int)∈a3I (at' fl) z j k):=by
  rw[d4X];rintro⟨i,hi,e⟩;have:=f2e hn (a:=j+k) (b:=j+i) (by omega) (by omega) (by omega);omega
 rw[XA hx'] at hl;have hp:=e5a (a3I (at' fl) z j k) (.bool tt) (a0Y (at' fl) z (j+k):Int) hx';rw[b5j] at hp;have a1:=hf.at_lt (j+k) (by omega);have hlink:=(hf.link (i:=j+k) (by omega)).1;have hk1:=d8Q (at' fl) z j k;have hrl:(a4R (a3I (at' fl) z j k)).length=k:=by simp[a4R,b5j]
 have hrs:a4R (a3I (at' fl) z j (k+1))=a4R (a3I (at' fl) z j k)++[[.int .i64 (a0Y (at' fl) z (j+k):Int)]]:=by rw[hk1];simp[a4R]
 have gm:=fun r=>e8f (r:=r) hm
 have hb1:c3A σ (k+1)=.rsl (σ.length+1) (k+1) 1:=XA (by omega);have hb2:b9N fl (z:=z) j (k+1)=[.mp (a3I (at' fl) z j (k+1)) (Qh (k+1) (.bool tt)) .i64,.row (a4R (a3I (at' fl) z j (k+1))) 1 3]:=by rw[b9N,XA (by omega)]
 rw[hb1,hb2,hrs,hk1,st1,st1];rw[Xw,show a1l.loops[1]?=sm a7H from rfl];generalize a0Y (at' fl) z (j+k+1)=y at *
 generalize a0Y (at' fl) z (j+k)=x at *
 have hg:fl[x]?=sm (y:Int):=by rw[b2H a1.1,hlink]
 have hd:=a9S hg;have he:=a7O (h:=h) (o:=0) (cap:=fl.length) (sz:=1) (off:=0) a1.1;have q1:(leB 0 (x:Int)&&decide (x<fl.length))=tt:=by simp[leB,a1.1]
 by_cases hk0:k=0
 ·subst hk0
  simp only[c3A,b9N,XD];simp only[d9A] at hl hp;simp only[Q0,a7H,↓reduceIte,Xz,Xs,Xt,Xq,PEnv.at,Q3,Q4,Q7,Q8,a0H,a0x,a1g,Qe,Qg,Qd,Q2,Qq,Qn,a0c,a0w,a0m,Q1,Q0,Xy,Q6,Q5,Qb,Xu,Xr,Xx,Qf,Qp,Qa,Q9,b3i,c5i,f3f,f3n,hl,hp,X3,XU,a1O,QC,QD,QE,QH,PV.rowsOf,Nat.reduceLeDiff,Nat.succ_ne_zero,a0I,Xp q1,he,gm,XG,Qv,Qr,hd,Qw,a4R,d9A,Q9]
 ·have hb3:c3A σ k=.rsl (σ.length+1) k 1:=XA hk0
  have hb4:b9N fl (z:=z) j k=[.mp (a3I (at' fl) z j k) (Qh k (.bool tt)) .i64,.row (a4R (a3I (at' fl) z j k)) 1 3]:=by rw[b9N,XA hk0]
  rw[hb3,hb4];have q2:k+1<=1000000:=by omega
  have o1:(1<=1000000)=True:=eq_true (by decide);have o2:(1=0)=False:=eq_false (by decide);simp only[Q0,a7H,↓reduceIte,Xz,Xs,Xt,Xq,PEnv.at,Q3,Q4,Q7,Q8,a0H,a0x,a1g,Qe,Qg,Qd,Q2,Qq,Qn,a0c,a0w,a0m,Q1,Q0,Xy,Q6,Q5,Qb,Xu,Xr,Xx,Qf,Qp,Qa,Q9,b3i,c5i,d6g,e3J,hl,hp,X3,XU,a1O,QC,QD,QE,QH,PV.rowsOf,hrl,q2,o1,o2,and_self,a0I,Xp q1,he,gm,XG,Qv,Qr,hd,Qw]
include hm hf in
theorem f1S(j L:Nat)(hfl:fl.length<=1000)(hL:j+L<=fl.length)(hn:((Qu (j+L)).map (a0Y (at' fl) z)).Nodup):∀d k,k+d=L->∀fuel,
  a1l.loop (a0a Tab n) (fuel+d) 1 (st1 σ h fl (c3A σ k) (b9N fl (z:=z) j k) (a0Y (at' fl) z (j+k)))=a1l.loop (a0a Tab n) fuel 1 (st1 σ h fl (c3A σ L) (b9N fl (z:=z) j L) (a0Y (at' fl) z (j+L))):=by
 intro d
 induction d with
 | zero=>intro k hk fuel;rw[Qe] at hk;subst hk;rfl
 | succ d ih =>
  intro k hk fuel;rw[show fuel+(d+1)=(fuel+d)+1 from rfl,f6w σ n h fl T hm hf j L k _ hfl (by omega) hL hn];exact ih (k+1) (by omega) fuel
def st2(ys:List Int)(i:Nat):PEnv:={i:=[(ys.length:Int),(i:Int)],b:=[],v:=[.rsl (σ.length+1) ys.length 1,.msl (σ.length+2) 0 ys.length ys.length 1],m:=σ++[.mp ys (Qh ys.length (.bool tt)) .i64,.row (a4R ys) 1 3,.cells (a1Q (Qh (ys.length-i) 0++(ys.take i).reverse)) 3],k:=σ.length}
theorem f6y(ys:List Int)(i fuel:Nat)(hy:ys.length<=1000)(hi:i<ys.length) :
  a1l.loop (a0a Tab n) (fuel+1) 2 (st2 σ ys i)=a1l.loop (a0a Tab n) fuel 2 (st2 σ ys (i+1)):=by
 obtain⟨y,hy'⟩:∃y,ys[i]?=sm y:=⟨_,List.getElem?_eq_getElem hi⟩;have hir:(a4R ys)[i]?=sm [.int .i64 y]:=by simp[a4R,hy']
 have hrl:(a4R ys).length=ys.length:=by simp[a4R]
 have hrep:(Qh (ys.length-i) 0++(ys.take i).reverse).set (ys.length-1-i) y=Qh (ys.length-(i+1)) 0++(ys.take (i+1)).reverse:=by
  rw[QY,hy',show ys.length-i=(ys.length-(i+1))+1 by omega,Xc,X4,show ys.length-1-i=(Qh (ys.length-(i+1)) (0:Int)).length by simp;omega];rw[X5 _ _ (Qk _)];simp
 have hlen:(Qh (ys.length-i) 0++(ys.take i).reverse).length=ys.length:=by simp;omega
 have hset:=b9T (l:=Qh (ys.length-i) 0++(ys.take i).reverse) (i:=ys.length-1-i) y (by rw[hlen];omega);rw[hrep] at hset;rw[st2,st2,Xw,show a1l.loops[2]?=sm a9t from rfl];have hcl:(a1Q (Qh (ys.length-i) 0++(ys.take i).reverse)).length=ys.length:=by rw[b9X,hlen]
 generalize a1Q (Qh (ys.length-i) 0++(ys.take i).reverse)=o at *
 generalize a1Q (Qh (ys.length-(i+1)) 0++(ys.take (i+1)).reverse)=o' at *
 have q1:(leB 0 (i:Int)&&tt)=tt:=by simp[leB]
 have q2:(leB (-9223372036854775808) ((ys.length:Int)-1)&&leB ((ys.length:Int)-1) 9223372036854775807)=tt:=by simp[leB];omega
 have e1:(ys.length:Int)-1-(i:Int)=((ys.length-1-i:Nat):Int):=by omega
 have q3:(leB (-9223372036854775808) ((ys.length-1-i:Nat):Int)&&leB ((ys.length-1-i:Nat):Int) 9223372036854775807)=tt:=by simp[leB];omega
 have q4:(leB 0 ((ys.length-1-i:Nat):Int)&&decide (ys.length-1-i<ys.length))=tt:=by simp[leB];omega
 have q5:(leB (-9223372036854775808) ((i:Int)+1)&&leB ((i:Int)+1) 9223372036854775807)=tt:=by simp[leB];omega
 have l1:=f0J (h:=σ.length+1) (sz:=1) (off:=0) hi;have l2:=a7O (h:=σ.length+2) (o:=0) (cap:=ys.length) (sz:=1) (off:=0) (i:=ys.length-1-i) (len:=ys.length) (by omega);have hle:ys.length-1-i+1<=ys.length:=by omega
 have e2:((i+1:Nat):Int)=(i:Int)+1:=by omega
 have hd:decide (i<ys.length)=tt:=dT0 hi;generalize ys.length-1-i=w at *
 simp only[Q0,a9t,↓reduceIte,Xz,Xs,Xt,Xq,PEnv.at,Q3,Q4,Q7,Q8,a0H,a0x,a1g,Qe,Qs,Qg,Qd,Qk,Q2,Qq,Qn,a0c,Q1,Q0,Xy,Q6,Q5,Xu,Xr,Xx,Qf,Qa,Q9,a0I,hd,XU,XV,Xp q1,Xp q2,e1,Xp q3,Xp q4,Xp q5,l1,l2,d6g,f3m,f5N,MO.elts,hrl,hir,and_self,hcl,hle,Qv,Qr,hset,e2]
theorem run2(ys:List Int)(hy:ys.length<=1000):∀d i,i+d=ys.length->∀fuel,
  a1l.loop (a0a Tab n) (fuel+d) 2 (st2 σ ys i)=a1l.loop (a0a Tab n) fuel 2 (st2 σ ys ys.length):=by
 intro d
 induction d with
 | zero=>intro i hi fuel;rw[Qe] at hi;subst hi;rfl
 | succ d ih =>
  intro i hi fuel;rw[show fuel+(d+1)=(fuel+d)+1 from rfl,f6y σ n ys i _ hy (by omega)];exact ih (i+1) (by omega) fuel
theorem f7g(hσ:c0I σ)(ys:List Int)(fuel:Nat):a1l.loop (a0a Tab n) (fuel+1) 2 (st2 σ ys ys.length)=sm (.sl 1 (a4R ys.reverse),σ):=by
 have hd:decide (ys.length<ys.length)=ff:=by simp
 have hz:Qh (ys.length-ys.length) (0:Int)++(ys.take ys.length).reverse=ys.reverse:=by simp
 have hl:ys.length=ys.reverse.length:=by simp
 have hr:=d7z ys.reverse;rw[st2,hz,Xw,show a1l.loops[2]?=sm a9t from rfl];simp only[Q0,a9t,↓reduceIte,Xz,Xs,Xt,Xq,Q3,Q4,Q7,Q8,Q2,Q0,Xr,a0I,hd];have hm3:(σ++[.mp ys (Qh ys.length (.bool tt)) .i64,.row (a4R ys) 1 3,.cells (a1Q ys.reverse) 3]:List MO).length=σ.length+3:=by simp
 have h1:¬(ff=tt\/σ.length+3=σ.length):=by simp
 have h2:¬(σ.length+2<σ.length):=by omega
 rw[<- hl] at hr;simp only[a0n,hm3,QW,hσ σ.length,XW,XA h2,a6e,f3m,d9Z,XG,hr,↓reduceIte,Qs,Qk,Q2,Q1,Q0,];simp[]
end
theorem f0F(σ:List MO)(hσ:c0I σ)(h:Nat)(fl:List Int)(T:Nat)(hm:σ[h]?=sm (.cells (a1Q fl) T))(hfl:fl.length<=1000)
  {g:Nat->Nat->Int} {v:Nat->Int} {c t:Nat->Nat} {z:Nat} (hf:Go.Bf.Fin fl.length g v (at' fl) c t z) (n:Nat) (hnn:fl.length*3+10<=n) :
  ∃j k,j<k/\k<=fl.length/\a0Y (at' fl) z k=a0Y (at' fl) z j /\
   a0a Tab n 141 [.msl h 0 fl.length fl.length 1,.int .i64 (z:Int)] σ=sm (.sl 1 (a4R (a3I (at' fl) z j (k-j)).reverse),σ):=by
 obtain⟨n,rfl⟩:=a0L n (by omega);obtain⟨j,k,_,hjk,hk,hn,he,h0⟩:=f1J σ n h fl T hm hf fl.length 0 (by omega) (Nat.zero_le _) (by simp);refine⟨j,k,hjk,hk,he,?_⟩;have hl:=b5j (at' fl) z j (k-j);have h1:=fun fuel=>f1S σ n h fl T hm hf j (k-j) hfl (by omega) (by rw[show j+(k-j)=k by omega];exact hn) (k-j) 0 (by omega) fuel
 have h2:=fun fuel=>run2 σ n (a3I (at' fl) z j (k-j)) (by omega) (k-j) 0 (by omega) fuel
 have h3:=f7g σ n hσ (a3I (at' fl) z j (k-j))
 have hc:∀fuel,a1l.loop (a0a Tab n) (fuel+1) 1 (st1 σ h fl (c3A σ (k-j)) (b9N fl (z:=z) j (k-j)) (a0Y (at' fl) z (j+(k-j))))=a1l.loop (a0a Tab n) fuel 2 (st2 σ (a3I (at' fl) z j (k-j)) 0):=by
  intro fuel;have hk0:k-j≠0:=by omega
  have hb3:c3A σ (k-j)=.rsl (σ.length+1) (k-j) 1:=XA hk0;have hb4:b9N fl (z:=z) j (k-j)=[.mp (a3I (at' fl) z j (k-j)) (Qh (k-j) (.bool tt)) .i64,.row (a4R (a3I (at' fl) z j (k-j))) 1 3]:=by rw[b9N,XA hk0]
  have hlk:=d4H (a3I (at' fl) z j (k-j)) (.bool tt) (a0Y (at' fl) z k:Int);rw[hl,Xp (d4X.2 ⟨0,by omega,by rw[he];rfl⟩)] at hlk;have hrep:=d5n (k-j) 0;have hle:(k-j:Nat)<=1000000:=by omega
  rw[hb3,hb4,show j+(k-j)=k by omega,st1,st2,Xw,show a1l.loops[1]?=sm a7H from rfl,hl];generalize a3I (at' fl) z j (k-j)=ks at *
  have e1:Qh (k-j-0) (0:Int)++(ks.take 0).reverse=Qh (k-j) 0:=by simp
  have q1:(0<=((k-j:Nat):Int)/\((k-j:Nat):Int)<=1000000/\(8:Nat)<=100000000):=⟨by omega,by omega,by omega⟩;rw[e1];generalize k-j=L at *
  have hm2:∀A B:MO,(σ++[A,B]).length=σ.length+2:=fun A B=>by simp
  have hm3:∀A B C:MO,(σ++[A,B])++[C]=σ++[A,B,C]:=fun A B C=>by simp
  simp only[Q0,a7H,↓reduceIte,Xz,Xs,Xt,Xq,PEnv.at,Q3,Q4,Q7,Q8,a0H,a0x,a1g,Qg,Qd,Nat.reduceAdd,Q2,a0c,a0w,a0m,Q1,Q0,Xy,Q6,Q5,Xu,Xr,Xx,Qf,Qm,Qa,Q9,b3i,c5i,hlk,Qy,XV,XU,QU,Xp q1,hrep,hm2,hm3];rfl
 have e0:st0 σ h fl (z:=z) 0={i:=[(z:Int)],b:=[],v:=[.msl h 0 fl.length fl.length 1,.mp σ.length],m:=σ++[.mp [] [] .i64],k:=σ.length}:=rfl;have e1:st1 σ h fl .nilS [.mp [] [] .i64] (a0Y (at' fl) z j)=st1 σ h fl (c3A σ 0) (b9N fl (z:=z) j 0) (a0Y (at' fl) z (j+0)):=rfl
 have tot:a1l.loop (a0a Tab n) n 0 (st0 σ h fl (z:=z) 0)=sm (.sl 1 (a4R (a3I (at' fl) z j (k-j)).reverse),σ):=by
  have hfu:n=(((((n-k-(k-j)-(k-j)-3)+1)+(k-j))+1)+(k-j))+(k-0)+1:=by omega
  rw[hl] at h3;generalize n-k-(k-j)-(k-j)-3=fu at *
  have hx:=h0 (((((fu)+1)+(k-j))+1)+(k-j));rw[<- hfu] at hx;rw[hx,e1,h1,hc,h2,hl];exact h3 fu
 rw[e0] at tot;simp only[a0a,d4Z,Q0,XE];show ((a0i [.sh (.one _),.sh (.one _)] _).bind _)=_;simp only[a0i,a0m,a0c,Q1,Q0,Qb,Q5,XD,PV.one];show (Xz _ b9I _).bind _=_;simp only[b9I,Xz,Xq,Q3,Q7,Q8,Q1,Q0,Q6,Q5,Xu,Xr,Xx,Qa,Q9];exact tot
def ch0:Ch:=⟨⟨0,0,0,0,0,0⟩,⟨0,0,0,0,0,0⟩⟩
def b5J(l:List Ch)(z:Int):Ch:=(l[z.toNat]?).getD ch0
def lst(σ:List MO)(P:PV)(N:Nat)(vs fs:List Int)(is:List Int):PEnv :=
 {i:=is,b:=[],v:=[P,.msl σ.length 0 N N 1,.msl (σ.length+1) 0 N N 1],m:=σ++[.cells (a1Q vs) 2,.cells (a1Q fs) 3],k:=σ.length}
def gN(l:List Ch)(x y:Nat):Int:=c1i (b5J l (x:Int)) (b5J l (y:Int))
theorem chN{l:List Ch}{x:Nat}(h:x<l.length):l[x]?=sm (b5J l (x:Int)):=by simp[b5J,h]
theorem c4D(h o len cap sz:Nat):(PV.msl h o len cap sz).len=len:=rfl
theorem f7v(σ:List MO)(l:List Ch)(P:PV)(hP:P.rowsOf 12=sm (l.map XF))(hok:∀x∈l,x.ok)(hl:l.length<=1000)(n:Nat)(hn:2<=n)(vs fs:List Int)(hvs:vs.length=l.length)(hfs:fs.length=l.length)
  (ch r:Int) (a b fuel:Nat) (ha:a<l.length) (hb:b<l.length) (h1:-1000000000000<=at' vs a/\at' vs a<=1000000000000) :
  a1a.loop (a0a Tab n) (fuel+1) 3 (lst σ P l.length vs fs [ch,(a:Int),(l.length:Int),r,(l.length:Int),(l.length:Int),(b:Int)]) =
   if at' vs a+gN l a b<at' vs b then a1a.loop (a0a Tab n) fuel 3 (lst σ P l.length (vs.set b (at' vs a+gN l a b)) (fs.set b (a:Int)) [(b:Int),(a:Int),(l.length:Int),r,(l.length:Int),(l.length:Int),((b+1:Nat):Int)])
   else a1a.loop (a0a Tab n) fuel 3 (lst σ P l.length vs fs [ch,(a:Int),(l.length:Int),r,(l.length:Int),(l.length:Int),((b+1:Nat):Int)]):=by
 obtain⟨p1,p2,p3⟩:=a0b hP;rw[Qj] at p1;have ex:=chN ha;have ey:=chN hb;have hxo:=hok _ (Qt ex);have hyo:=hok _ (Qt ey);have gb:=e6D hxo hyo;have c1:=f0e (σ++[.cells (a1Q vs) 2,.cells (a1Q fs) 3]) _ _ hxo hyo n hn;have lx:=a0V (off:=0) hP (a8n ex);have ly:=a0V (off:=0) hP (a8n ey);have dva:=a9S (b2H (l:=vs) (i:=a) (by omega));have dvb:=a9S (b2H (l:=vs) (i:=b) (by omega));have ma:=a7O (h:=σ.length) (o:=0) (cap:=l.length) (sz:=1) (off:=0) ha;have mb:=a7O (h:=σ.length) (o:=0) (cap:=l.length) (sz:=1) (off:=0) hb;have mb2:=a7O (h:=σ.length+1) (o:=0) (cap:=l.length) (sz:=1) (off:=0) hb;have hgN:gN l a b=c1i (b5J l (a:Int)) (b5J l (b:Int)):=rfl;rw[hgN];generalize b5J l (a:Int)=x at *
 generalize b5J l (b:Int)=y at *
 generalize c1i x y=gg at *
 generalize hw:at' vs a+gg=w at *
 have sv:=b9T (l:=vs) (i:=b) w (by omega);have sf:=b9T (l:=fs) (i:=b) (a:Int) (by omega);have lv:b+1<=(a1Q vs).length:=by rw[b9X];omega
 have lf:b+1<=(a1Q fs).length:=by rw[b9X];omega
 generalize hV':a1Q (vs.set b w)=V' at *
 generalize hF':a1Q (fs.set b (a:Int))=F' at *
 have q1:(leB 0 (a:Int)&&decide (a<l.length))=tt:=by simp[leB,ha]
 have q2:(leB 0 (b:Int)&&decide (b<l.length))=tt:=by simp[leB,hb]
 have q2':(leB 0 (b:Int)&&tt)=tt:=by simp[leB]
 have q3:(leB (-9223372036854775808) w&&leB w 9223372036854775807)=tt:=by simp[leB];omega
 have q4:(leB (-9223372036854775808) ((b:Int)+1)&&leB ((b:Int)+1) 9223372036854775807)=tt:=by simp[leB];omega
 have e2:((b+1:Nat):Int)=(b:Int)+1:=by omega
 have o1:((1:Nat)<=1)=True:=eq_true (by decide);simp only[a2T] at c1;rw[e2];by_cases hlt:w<at' vs b
 ·have e3:ltB w (at' vs b)=tt:=a0U.2 hlt
  have hev:a3L.ev (a0a Tab n) (lst σ P l.length vs fs [ch,(a:Int),(l.length:Int),r,(l.length:Int),(l.length:Int),(b:Int)])=sm (.jump 3 {i:=[(b:Int),(a:Int),(l.length:Int),r,(l.length:Int),(l.length:Int),(b:Int)+1],b:=[],v:=[P,.msl σ.length 0 l.length l.length 1,.msl (σ.length+1) 0 l.length l.length 1],m:=σ++[.cells V' 2,.cells F' 3],k:=σ.length}):=by
   unfold a3L;have hd:decide (b<l.length)=tt:=dT0 hb
   repeat' (first|with_reducible rfl|apply a4n|simp only[↓reduceIte,a0e,a0h,a0F,a0A,a1s,a0s,Xs,Xt,Xq,PEnv.at,Q3,Q4,Q7,Q8,a0H,a0x,a1g,Qe,Qs,Qg,Qd,Nat.reduceAdd,Qk,Q2,Qq,Qn,a0c,a0w,a0m,Q1,Q0,Xy,Q6,Q5,Qb,Xu,Xr,Xx,Qf,Qa,Q9,lst,hd,Xp q2',p1,c4D,a0I,Xp q1,Xp q3,Xp q4,lx,ly,ma,mb,mb2,a2T,c1,b3i,d6g,c5i,e3J,XG,Qv,Qr,dva,dvb,Qw,hw,e3,lv,lf,sv,sf]|unfold b1T|unfold b2h)
  rw[Xp hlt,Xw,show a1a.loops[3]?=sm a3L from rfl,Q0,hev,Q0];simp only[lst,hV',hF']
 ·have e3:ltB w (at' vs b)=ff:=a0G.2 hlt
  have hev:a3L.ev (a0a Tab n) (lst σ P l.length vs fs [ch,(a:Int),(l.length:Int),r,(l.length:Int),(l.length:Int),(b:Int)])=sm (.jump 3 (lst σ P l.length vs fs [ch,(a:Int),(l.length:Int),r,(l.length:Int),(l.length:Int),(b:Int)+1])):=by
   unfold a3L;have hd:decide (b<l.length)=tt:=dT0 hb
   repeat' (first|with_reducible rfl|apply a4n|simp only[↓reduceIte,a0e,a0h,a0F,a0A,a1s,a0s,Xs,Xt,Xq,PEnv.at,Q3,Q4,Q7,Q8,a0H,a0x,a1g,Qe,Qs,Qg,Qd,Nat.reduceAdd,Qk,Q2,Qq,Qn,a0c,a0w,a0m,Q1,Q0,Xy,Q6,Q5,Qb,Xu,Xr,Xx,Qf,Qa,Q9,lst,hd,Xp q2',p1,c4D,a0I,Xp q1,Xp q3,Xp q4,lx,ly,ma,mb,mb2,a2T,c1,b3i,d6g,c5i,e3J,XG,Qv,Qr,dva,dvb,Qw,hw,e3]|unfold b1T|unfold b2h)
  rw[XA hlt,Xw,show a1a.loops[3]?=sm a3L from rfl,Q0,hev,Q0]
structure LS (l:List Ch)(vs fs:List Int)(ch:Int)(T R a b:Nat):Prop where
 hv:vs.length=l.length
 hf:fs.length=l.length
 inv:∃c t,Inv l.length (gN l) (at' vs) (at' fs) c t T R a b/\((ch=-1/\∀x,x<l.length->c x≠R)\/∃z:Nat,z<l.length/\ch=(z:Int)/\c z=R)
theorem e6E{l:List Int}{b:Nat}(x:Int)(h:b<l.length):at' (l.set b x)=upd (at' l) b x:=by
 funext i;rw[e0i x h];rfl
theorem f4e(l:List Ch)(x:Nat):gN l x x=0:=by unfold gN c1i;omega
theorem f5O{l:List Ch}(hok:∀x∈l,x.ok){x y:Nat}(hx:x<l.length)(hy:y<l.length):-24000000<=gN l x y/\gN l x y<=24000000 :=
 e6D (hok _ (Qt (chN hx))) (hok _ (Qt (chN hy)))
section
variable (σ:List MO)(l:List Ch)(P:PV)(hP:P.rowsOf 12=sm (l.map XF))(hok:∀x∈l,x.ok)(hl:l.length<=30)(n:Nat)(hn:2<=n)
include hP hok hl hn in
theorem f5h(r:Int)(vs fs:List Int)(ch:Int)(T R a b:Nat)(h:LS l vs fs ch T R a b)(hR:1<=R)(hT:T+1<=27000)(ha:a<l.length)(hb:b<l.length) :
  ∃vs' fs' ch',LS l vs' fs' ch' (T+1) R a (b+1)/\∀fuel,a1a.loop (a0a Tab n) (fuel+1) 3 (lst σ P l.length vs fs [ch,(a:Int),(l.length:Int),r,(l.length:Int),(l.length:Int),(b:Int)]) =
   a1a.loop (a0a Tab n) fuel 3 (lst σ P l.length vs' fs' [ch',(a:Int),(l.length:Int),r,(l.length:Int),(l.length:Int),((b+1:Nat):Int)]):=by
 obtain⟨hv,hf,c,t,hi,hch⟩:=h;have hlow:=hi.low a ha;have step:=fun fuel=>f7v σ l P hP hok (by omega) n hn vs fs hv hf ch r a b fuel ha hb (by omega)
 by_cases hlt:at' vs a+gN l a b<at' vs b
 ·simp only[Xp hlt] at step
  refine⟨_,_,_,⟨by simp[hv],by simp[hf],upd c b R,upd t b (T+1),?_,.inr ⟨b,hb,rfl,a3j _ _ _⟩⟩,step⟩;rw[e6E _ (by omega),e6E _ (by omega)];exact hi.lower ha hb hR (f5O hok ha hb).1 (f4e l a) hlt
 ·simp only[XA hlt] at step
  exact⟨vs,fs,ch,⟨hv,hf,c,t,hi.keep (by omega),hch⟩,step⟩
include hP hok hl hn in
theorem f7z(r:Int)(R a:Nat)(hR:1<=R)(ha:a<l.length):∀d b vs fs ch T,b+d=l.length->LS l vs fs ch T R a b->T+d<=27000 ->
  ∃vs' fs' ch',LS l vs' fs' ch' (T+d) R (a+1) 0/\∀fuel,a1a.loop (a0a Tab n) (fuel+d+1) 3 (lst σ P l.length vs fs [ch,(a:Int),(l.length:Int),r,(l.length:Int),(l.length:Int),(b:Int)]) =
   a1a.loop (a0a Tab n) fuel 2 (lst σ P l.length vs' fs' [ch',(l.length:Int),r,(l.length:Int),((a+1:Nat):Int)]):=by
 intro d
 induction d with
 | zero =>
  intro b vs fs ch T hb h hT;obtain rfl:b=l.length:=by omega
  obtain⟨hv,hf,c,t,hi,hch⟩:=h;refine⟨vs,fs,ch,⟨hv,hf,c,t,hi.row,hch⟩,fun fuel=>?_⟩;have hd:decide (l.length<l.length)=ff:=by simp
  have q4:(leB (-9223372036854775808) ((a:Int)+1)&&leB ((a:Int)+1) 9223372036854775807)=tt:=by simp[leB];omega
  rw[Qe,Xw,show a1a.loops[3]?=sm a3L from rfl];simp only[Q0,a3L,↓reduceIte,a0e,a0h,a0s,Xs,Xt,Xq,Q3,Q4,Q7,Q8,Q2,Q1,Q0,Xu,Xr,Xx,Qf,Qa,Q9,lst,a0I,hd,Xp q4,show ((a+1:Nat):Int)=(a:Int)+1 from by omega]
 | succ d ih =>
  intro b vs fs ch T hb h hT;obtain⟨vs1,fs1,ch1,h1,s1⟩:=f5h σ l P hP hok hl n hn r vs fs ch T R a b h hR (by omega) ha (by omega);obtain⟨vs2,fs2,ch2,h2,s2⟩:=ih (b+1) vs1 fs1 ch1 (T+1) (by omega) h1 (by omega);refine⟨vs2,fs2,ch2,by rw[show T+(d+1)=T+1+d by omega];exact h2,fun fuel=>?_⟩;rw[show fuel+(d+1)+1=(fuel+d+1)+1 by omega,s1,s2]
include hP hok hl hn in
theorem f6f(r:Int)(R:Nat)(hR:1<=R):∀d a vs fs ch T,a+d=l.length->LS l vs fs ch T R a 0->T+d*l.length<=27000 ->
  ∃vs' fs' ch',LS l vs' fs' ch' (T+d*l.length) R l.length 0/\∀fuel,a1a.loop (a0a Tab n) (fuel+d*(l.length+2)) 2 (lst σ P l.length vs fs [ch,(l.length:Int),r,(l.length:Int),(a:Int)]) =
   a1a.loop (a0a Tab n) fuel 2 (lst σ P l.length vs' fs' [ch',(l.length:Int),r,(l.length:Int),(l.length:Int)]):=by
 intro d;obtain⟨p1,p2,p3⟩:=a0b hP;rw[Qj] at p1
 induction d with
 | zero =>
  intro a vs fs ch T ha h hT;obtain rfl:a=l.length:=by omega
  refine⟨vs,fs,ch,by rw[QJ,Qe];exact h,fun fuel=>?_⟩;rw[QJ,Qe]
 | succ d ih =>
  intro a vs fs ch T ha h hT;have e1:(d+1)*l.length=d*l.length+l.length:=X0 _ _;have e2:(d+1)*(l.length+2)=d*(l.length+2)+(l.length+2):=X0 _ _;obtain⟨vs1,fs1,ch1,h1,s1⟩:=f7z σ l P hP hok hl n hn r R a hR (by omega) l.length 0 vs fs ch T (by omega) h (by omega);obtain⟨vs2,fs2,ch2,h2,s2⟩:=ih (a+1) vs1 fs1 ch1 (T+l.length) (by omega) h1 (by omega);refine⟨vs2,fs2,ch2,by rw[e1,show T+(d*l.length+l.length)=T+l.length+d*l.length by omega];exact h2,fun fuel=>?_⟩;rw[e2,show fuel+(d*(l.length+2)+(l.length+2))=((fuel+d*(l.length+2))+l.length+1)+1 by omega,<- s2,<- s1];have hd:decide (a<l.length)=tt:=dT0 (by omega);rw[Xw,show a1a.loops[2]?=sm a5c from rfl];simp only[Q0,a5c,↓reduceIte,a0e,a0h,a0s,Xs,Xt,Xq,PEnv.at,Q3,Q4,Q7,Q8,Q1,Q0,Xu,Xr,Xx,Qa,Q9,lst,a0I,hd,p1,p2];rfl
end
theorem isM(h o len cap sz:Nat):XV 0 (.msl h o len cap sz)=tt:=rfl
structure LR (l:List Ch)(vs fs:List Int)(ch:Int)(T r:Nat):Prop where
 hv:vs.length=l.length
 hf:fs.length=l.length
 inv:∃c t,Inv l.length (gN l) (at' vs) (at' fs) c t T (r+1) 0 0/\(∀x,x<l.length->c x<=r)/\((r=0/\ch=-1)\/∃z:Nat,z<l.length/\ch=(z:Int)/\c z=r)
def f0s(σ:List MO)(l:List Ch)(res:PV×List MO):Prop :=
 (∃vs fs:List Int,vs.length=l.length/\fs.length=l.length/\(∀x y,x<l.length->y<l.length->at' vs y<=at' vs x+gN l x y)/\(∀x,x<l.length->-648000000000<=at' vs x/\at' vs x<=0) /\
  res=(.tup [.msl σ.length 0 l.length l.length 1,.nilS],σ++[.cells (a1Q vs) 2,.cells (a1Q fs) 3])) \/
 (∃(vs fs:List Int) (c t:Nat->Nat) (z j k:Nat),vs.length=l.length/\fs.length=l.length/\Go.Bf.Fin l.length (gN l) (at' vs) (at' fs) c t z/\j<k/\k<=l.length/\a0Y (at' fs) z k=a0Y (at' fs) z j /\
  res=(.tup [.nilS,.sl 1 (a4R (a3I (at' fs) z j (k-j)).reverse)],σ++[.cells (a1Q vs) 2,.cells (a1Q fs) 3]))
section
variable (σ:List MO)(hσ:c0I σ)(l:List Ch)(P:PV)(hP:P.rowsOf 12=sm (l.map XF))(hok:∀x∈l,x.ok)(hl:l.length<=30)(n:Nat)(hn:110<=n)
theorem f4I(x:Nat)(T:Nat)(hT:T<=27000)(v:Int)(h:-(24000000*(T:Int))<=v/\v<=0):-648000000000<=v/\v<=0:=by omega
include hσ hP hok hl hn in
theorem c3M:∀d r vs fs ch T,r+d=l.length->LR l vs fs ch T r->T<=r*(l.length*l.length) ->
  ∃res,f0s σ l res/\∀fuel,a1a.loop (a0a Tab n) (fuel+d*(l.length*(l.length+2)+2)+1) 1 (lst σ P l.length vs fs [ch,(l.length:Int),(r:Int)])=sm res:=by
 intro d;obtain⟨p1,p2,p3⟩:=a0b hP;rw[Qj] at p1
 have hNN:l.length*(l.length*l.length)<=27000:=by
  calc l.length*(l.length*l.length)<=30*(30*30):=Qz hl (Qz hl hl)
   _=27000:=rfl
 induction d with
 | zero =>
  intro r vs fs ch T hr h hT;obtain rfl:r=l.length:=by omega
  obtain⟨hv,hf,c,t,hi,hc,hch⟩:=h;have hd:decide (l.length<l.length)=ff:=by simp
  rcases hch with ⟨h0,rfl⟩|⟨z,hz,rfl,hcz⟩
  ·refine⟨_,.inl ⟨vs,fs,hv,hf,fun x y hx=>by omega,fun x hx=>by omega,rfl⟩,fun fuel=>?_⟩
   have e1:ltB (-1) 0=tt:=rfl;rw[QJ,Qe,Xw,show a1a.loops[1]?=sm a5j from rfl];simp only[Q0,a5j,↓reduceIte,a0j,a0e,Xs,Xt,Xq,Q3,Q4,Q7,Q8,Q2,Q1,Q0,Xu,Xr,lst,a0I,hd,e1,a0n,true_or]
  ·have hfin:Go.Bf.Fin l.length (gN l) (at' vs) (at' fs) c t z:=⟨hi.par,hi.uniq,hz,by omega⟩
   have e1:ltB (z:Int) 0=ff:=by rw[a0G];omega
   have hfl:c0I (σ++[.cells (a1Q vs) 2,.cells (a1Q fs) 3]):=by
    have:=(hσ.snoc vs 2).snoc fs 3;rw[X4] at this;exact this
   rw[<- hf] at hfin;obtain⟨j,k,hjk,hk,he,hev⟩:=f0F (σ++[.cells (a1Q vs) 2,.cells (a1Q fs) 3]) hfl (σ.length+1) fs 3 (d6g _ _ _ _) (by omega) hfin n (by omega);rw[hf] at hfin hev;refine⟨_,.inr ⟨vs,fs,c,t,z,j,k,hv,hf,hfin,hjk,by omega,he,rfl⟩,fun fuel=>?_⟩
   skip
   have ho:∀rows,(XL 1 rows).one=tt:=fun _=>rfl
   rw[QJ,Qe,Xw,show a1a.loops[1]?=sm a5j from rfl];simp only[Q0,a5j,↓reduceIte,a0j,a0e,a0A,Xs,Xt,Xq,Q3,Q4,Q7,Q8,Q2,a0c,a0w,a0m,Q1,Q0,Xy,Q6,Q5,Xu,Xr,lst,a0I,hd,e1,hev,ho,a0n,true_or]
 | succ d ih =>
  intro r vs fs ch T hr h hT;obtain⟨hv,hf,c,t,hi,hc,hch⟩:=h;have hT2:T+l.length*l.length<=(r+1)*(l.length*l.length):=by rw[X0];omega
  have hT3:(r+1)*(l.length*l.length)<=l.length*(l.length*l.length):=X6 _ (by omega);have hLS:LS l vs fs (-1) T (r+1) 0 0:=⟨hv,hf,c,t,hi,.inl ⟨rfl,fun x hx=>by have:=hc x hx;omega⟩⟩;obtain⟨vs1,fs1,ch1,h1,s1⟩:=f6f σ l P hP hok hl n (by omega) (r:Int) (r+1) (by omega) l.length 0 vs fs (-1) T (by omega) hLS (by omega);obtain⟨hv1,hf1,c1,t1,hi1,hch1⟩:=h1;have hd:decide (r<l.length)=tt:=dT0 (by omega);have hd2:decide (l.length<l.length)=ff:=by simp
  have first:∀fuel,a1a.loop (a0a Tab n) ((fuel+l.length*(l.length+2))+1) 1 (lst σ P l.length vs fs [ch,(l.length:Int),(r:Int)])=a1a.loop (a0a Tab n) fuel 2 (lst σ P l.length vs1 fs1 [ch1,(l.length:Int),(r:Int),(l.length:Int),(l.length:Int)]):=by
   intro fuel;rw[<- s1,Xw,show a1a.loops[1]?=sm a5j from rfl];simp only[Q0,a5j,↓reduceIte,a0e,a0h,a0s,Xs,Xt,Xq,PEnv.at,Q3,Q4,Q7,Q8,Q1,Q0,Xu,Xr,Xx,Qa,Q9,lst,a0I,hd,p1,p2];rfl
  have e2:(d+1)*(l.length*(l.length+2)+2)=d*(l.length*(l.length+2)+2)+(l.length*(l.length+2)+2):=X0 _ _;rcases hch1 with ⟨rfl,hno⟩|⟨z,hz,rfl,hcz⟩
  ·have hst:=hi1.stable hno
   refine⟨_,.inl ⟨vs1,fs1,hv1,hf1,hst,fun x hx=>f4I x _ (by omega) _ (hi1.low x hx),rfl⟩,fun fuel=>?_⟩;have e1:ltB (-1) 0=tt:=rfl;rw[e2,show fuel+(d*(l.length*(l.length+2)+2)+(l.length*(l.length+2)+2))+1=((fuel+d*(l.length*(l.length+2)+2)+1+1)+l.length*(l.length+2))+1 by omega,first];rw[Xw,show a1a.loops[2]?=sm a5c from rfl];simp only[Q0,a5c,↓reduceIte,a0j,a0e,Xs,Xt,Xq,Q3,Q4,Q7,Q8,Q2,Q1,Q0,Xu,Xr,lst,a0I,hd2,e1,a0n,true_or]
  ·have e1:ltB (z:Int) 0=ff:=by rw[a0G];omega
   have hLR:LR l vs1 fs1 (z:Int) (T+l.length*l.length) (r+1):=⟨hv1,hf1,c1,t1,hi1.round,hi1.cle,.inr ⟨z,hz,rfl,hcz⟩⟩;obtain⟨res,hres,hev⟩:=ih (r+1) vs1 fs1 (z:Int) _ (by omega) hLR hT2;refine⟨res,hres,fun fuel=>?_⟩;have q4:(leB (-9223372036854775808) ((r:Int)+1)&&leB ((r:Int)+1) 9223372036854775807)=tt:=by simp[leB];omega
   rw[e2,show fuel+(d*(l.length*(l.length+2)+2)+(l.length*(l.length+2)+2))+1=((fuel+d*(l.length*(l.length+2)+2)+1+1)+l.length*(l.length+2))+1 by omega,first];rw[<- hev fuel,Xw,show a1a.loops[2]?=sm a5c from rfl];simp only[Q0,a5c,↓reduceIte,a0e,a0h,a0s,Xs,Xt,Xq,Q3,Q4,Q7,Q8,Q2,Q1,Q0,Xu,Xr,Xx,Qf,Qa,Q9,lst,a0I,hd2,e1,Xp q4];rw[show ((r+1:Nat):Int)=(r:Int)+1 from by omega]
include hP hl in
theorem f5Z:∀d i,i+d=l.length->∀fuel,a1a.loop (a0a Tab n) (fuel+d+1) 0 (lst σ P l.length (Qh l.length 0) (Qh i (-1)++Qh d 0) [(l.length:Int),(i:Int)])=a1a.loop (a0a Tab n) fuel 1 (lst σ P l.length (Qh l.length 0) (Qh l.length (-1)) [-1,(l.length:Int),0]):=by
 intro d;obtain⟨p1,p2,p3⟩:=a0b hP;rw[Qj] at p1
 induction d with
 | zero =>
  intro i hi fuel;obtain rfl:i=l.length:=by omega
  have hd2:decide (l.length<l.length)=ff:=by simp
  rw[Xw,show a1a.loops[0]?=sm a8d from rfl];simp only[Q0,a8d,↓reduceIte,a0e,a0h,a0s,Xs,Xt,Xq,PEnv.at,Q3,Q4,Q7,Q8,Q2,Q1,Q0,Qb,Xu,Xr,Xx,Qa,Q9,lst,a0I,hd2,p1,p2,List.replicate_zero]
 | succ d ih =>
  intro i hi fuel;have hd:decide (i<l.length)=tt:=dT0 (by omega);have q1:(leB 0 (i:Int)&&tt)=tt:=by simp[leB]
  have q4:(leB (-9223372036854775808) ((i:Int)+1)&&leB ((i:Int)+1) 9223372036854775807)=tt:=by simp[leB];omega
  have mb2:=a7O (h:=σ.length+1) (o:=0) (cap:=l.length) (sz:=1) (off:=0) (i:=i) (len:=l.length) (by omega)
  have hset:(Qh i (-1:Int)++Qh (d+1) 0).set i (-1)=Qh (i+1) (-1)++Qh d 0:=by
   rw[List.replicate_succ,Xc,X4];have:=X5 (s:=Qh i (-1:Int)) (t:=0::Qh d 0) i (-1) (by simp);rw[this];simp
  have sf:=b9T (l:=Qh i (-1:Int)++Qh (d+1) 0) (i:=i) (-1) (by simp);rw[hset] at sf;have lf:i+1<=(a1Q (Qh i (-1:Int)++Qh (d+1) 0)).length:=by rw[b9X];simp
  have:=ih (i+1) (by omega) fuel;rw[<- this,show fuel+(d+1)+1=(fuel+d+1)+1 by omega,Xw,show a1a.loops[0]?=sm a8d from rfl];generalize a1Q (Qh l.length 0)=A at *
  simp only[lst];generalize a1Q (Qh i (-1:Int)++Qh (d+1) 0)=B at *
  generalize a1Q (Qh (i+1) (-1:Int)++Qh d 0)=B' at *
  simp only[Q0,a8d,↓reduceIte,a0e,a0h,a1s,a0s,Xs,Xt,Xq,PEnv.at,Q3,Q4,Q7,Q8,a0H,Qe,Qg,Qd,Q1,Q0,Xu,Xr,Xx,Qf,Qa,Q9,a0I,hd,c4D,Xp q1,Xp q4,mb2,d6g,e3J,Qv,Qr,lf,sf,show ((i+1:Nat):Int)=(i:Int)+1 from by omega]
include hσ hP hok hl hn in
theorem e5g(hn2:l.length*(l.length*(l.length+2)+2)+l.length+10<n):∃res,f0s σ l res/\a0a Tab (n+1) 135 [P] σ=sm res:=by
 obtain⟨p1,p2,p3⟩:=a0b hP;rw[Qj] at p1
 have hLR:LR l (Qh l.length 0) (Qh l.length (-1)) (-1) 0 0:=by
  refine⟨by simp,by simp,fun _=>0,fun _=>0,Inv.start _ _ _ _ (fun x hx=>by simp[at',hx]),fun _ _=>Qk _,.inl ⟨rfl,rfl⟩⟩
 obtain⟨res,hres,hev⟩:=c3M σ hσ l P hP hok hl n hn l.length 0 _ _ _ 0 (by omega) hLR (Nat.zero_le _);refine⟨res,hres,?_⟩;have hlk:=f5Z σ l P hP hl n l.length 0 (by omega);have e:=hev (n-(l.length*(l.length*(l.length+2)+2)+l.length+2));rw[show ((0:Nat):Int)=0 from rfl,<- hlk] at e;rw[show n-(l.length*(l.length*(l.length+2)+2)+l.length+2)+l.length*(l.length*(l.length+2)+2)+1+l.length+1=n by omega] at e;simp only[a0a,d2D,Q0,XE];show ((a0i [.sh (.one _)] _).bind _)=_;simp only[a0i,a0m,a0c,Q1,Q0,Qb,XD,p3];show (Xz _ b5g _).bind _=_;have q1:(0<=((l.length:Nat):Int)/\((l.length:Nat):Int)<=1000000/\(8:Nat)<=100000000):=⟨by omega,by omega,by omega⟩;have hrep:=d5n l.length 0;simp only[b5g,↓reduceIte,a0h,a2v,a0s,Xs,Xt,Xq,PEnv.at,Q3,Q4,Q7,Q8,Q1,Q0,Q6,Q5,Xu,Xr,Xx,Qa,Q9,p1,p2,Xp q1,QU,hrep,f3f,f3n,isM,c4D];exact e
end
def rs0(l:List Ch)(vs:List Int):Nat->Int
 | 0=>0
 | i+1=>mxI (rs0 l vs i) (a3g (b5J l (i:Int)).p (b5J l (i:Int)).w-at' vs i)
def rs1(l:List Ch)(vs:List Int)(r0:Int):Nat->Int
 | 0=>r0
 | i+1=>if (b5J l (i:Int)).w.isZ=tt then 0-at' vs i else rs1 l vs r0 i
def b4h(l:List Ch)(vs:List Int):Int:=rs1 l vs (rs0 l vs l.length) l.length
theorem f1p{l:List Ch}(hok:∀x∈l,x.ok){vs:List Int}(hb:∀x,x<l.length->-648000000000<=at' vs x/\at' vs x<=0):∀i,i<=l.length->0<=rs0 l vs i/\rs0 l vs i<=648024000000
 | 0,_=>by simp[rs0]
 | i+1,h=>by
  have ih:=f1p hok hb i (by omega);have hxo:=hok _ (Qt (chN (x:=i) (l:=l) (by omega)));have:=b4l hxo.1 hxo.2;have:=hb i (by omega);simp only[rs0,mxI];split<;>omega
theorem f0Q{l:List Ch}{vs:List Int}(hb:∀x,x<l.length->-648000000000<=at' vs x/\at' vs x<=0){r0:Int}(h0:0<=r0/\r0<=648024000000):∀i,i<=l.length->0<=rs1 l vs r0 i/\rs1 l vs r0 i<=648024000000
 | 0,_=>h0
 | i+1,h=>by
  have ih:=f0Q hb h0 i (by omega);have:=hb i (by omega);simp only[rs1];split<;>omega
def cst(σ:List MO)(P:PV)(N:Nat)(vs fs:List Int)(is:List Int):PEnv :=
 {i:=is,b:=[],v:=[P,.msl σ.length 0 N N 1],m:=σ++[.cells (a1Q vs) 2,.cells (a1Q fs) 3],k:=σ.length}
def c8W(σ:List MO)(P:PV)(N:Nat)(vs fs:List Int)(is:List Int):PEnv :=
 {i:=is,b:=[],v:=[.msl σ.length 0 N N 1,P],m:=σ++[.cells (a1Q vs) 2,.cells (a1Q fs) 3],k:=σ.length}
def d3B(σ:List MO)(N:Nat)(vs fs:List Int)(is:List Int):PEnv :=
 {i:=is,b:=[],v:=[.msl σ.length 0 N N 1],m:=σ++[.cells (a1Q vs) 2,.cells (a1Q fs) 3],k:=σ.length}
section
variable (σ:List MO)(hσ:c0I σ)(l:List Ch)(P:PV)(hP:P.rowsOf 12=sm (l.map XF))(hok:∀x∈l,x.ok)(hl:l.length<=30)(n:Nat)(hn:110<=n)
variable (vs fs:List Int)(hvs:vs.length=l.length)(hb:∀x,x<l.length->-648000000000<=at' vs x/\at' vs x<=0)
include hP hok hl hn hvs hb in
theorem f6T(i fuel:Nat)(hi:i<l.length):a1q.loop (a0a Tab n) (fuel+1) 0 (cst σ P l.length vs fs [rs0 l vs i,(l.length:Int),(i:Int)])=a1q.loop (a0a Tab n) fuel 0 (cst σ P l.length vs fs [rs0 l vs (i+1),(l.length:Int),((i+1:Nat):Int)]):=by
 obtain⟨p1,p2,p3⟩:=a0b hP;rw[Qj] at p1;have ex:=chN hi;have hxo:=hok _ (Qt ex);have c1:=b4Y (σ++[.cells (a1Q vs) 2,.cells (a1Q fs) 3]) _ _ hxo.1 hxo.2 n (by omega);have lx:=a0V (off:=0) hP (a8n ex);have dva:=a9S (b2H (l:=vs) (i:=i) (by omega));have ma:=a7O (h:=σ.length) (o:=0) (cap:=l.length) (sz:=1) (off:=0) hi;have hbi:=hb i hi;have hcb:=b4l hxo.1 hxo.2;have e2:((i+1:Nat):Int)=(i:Int)+1:=by omega
 have hd:decide (i<l.length)=tt:=dT0 hi;have q1:(leB 0 (i:Int)&&tt)=tt:=by simp[leB]
 have q4:(leB (-9223372036854775808) ((i:Int)+1)&&leB ((i:Int)+1) 9223372036854775807)=tt:=by simp[leB];omega
 simp only[rs0];generalize rs0 l vs i=r at *
 generalize b5J l (i:Int)=x at *
 generalize a3g x.p x.w=u at *
 have q5:(leB (-9223372036854775808) (u-at' vs i)&&leB (u-at' vs i) 9223372036854775807)=tt:=by simp[leB];omega
 simp only[XC] at c1
 have hev:a7L.ev (a0a Tab n) (cst σ P l.length vs fs [r,(l.length:Int),(i:Int)])=sm (.jump 0 (cst σ P l.length vs fs [mxI r (u-at' vs i),(l.length:Int),(i:Int)+1])):=by
  unfold a7L;simp only[↓reduceIte,a0e,a0h,a0F,Xs,Xt,Xq,PEnv.at,Q3,Q4,Q7,a0H,a0x,a1g,Qs,Qg,Qd,Nat.reduceAdd,Qk,Q2,Qq,Qn,a0c,Q1,Q0,Xy,Q6,Q5,Qf,cst,p1,c4D,a0I,hd,Xp q1,lx,a2T]
  repeat' (first|with_reducible rfl|apply a4n|simp only[↓reduceIte,a0h,a0F,a0A,a0s,Xs,Xt,Xq,Q3,Q4,Q7,Q8,a0H,a0x,a1g,Qe,Qg,Qd,Q2,Qq,Qn,a0c,a0w,a0m,Q1,Q0,Xy,Q6,Q5,Xu,Xr,Xx,Qf,Qa,Q9,Xp q4,Xp q5,ma,c1,b3i,XG,Qv,Qr,dva,Qw]|unfold c1w|unfold c1b)
 rw[e2,Xw,show a1q.loops[0]?=sm a7L from rfl,Q0,hev,Q0]
include hP hl hvs hb in
theorem f7G(r0:Int)(i fuel:Nat)(hi:i<l.length):a1q.loop (a0a Tab n) (fuel+1) 1 (c8W σ P l.length vs fs [rs1 l vs r0 i,(l.length:Int),(i:Int)])=a1q.loop (a0a Tab n) fuel 1 (c8W σ P l.length vs fs [rs1 l vs r0 (i+1),(l.length:Int),((i+1:Nat):Int)]):=by
 obtain⟨p1,p2,p3⟩:=a0b hP;rw[Qj] at p1;have ex:=chN hi;have lx:=a0V (off:=0) hP (a8n ex);have dva:=a9S (b2H (l:=vs) (i:=i) (by omega));have ma:=a7O (h:=σ.length) (o:=0) (cap:=l.length) (sz:=1) (off:=0) hi;have hbi:=hb i hi;have e2:((i+1:Nat):Int)=(i:Int)+1:=by omega
 have hd:decide (i<l.length)=tt:=dT0 hi;have q1:(leB 0 (i:Int)&&tt)=tt:=by simp[leB]
 have q4:(leB (-9223372036854775808) ((i:Int)+1)&&leB ((i:Int)+1) 9223372036854775807)=tt:=by simp[leB];omega
 have q5:(leB (-9223372036854775808) (0-at' vs i)&&leB (0-at' vs i) 9223372036854775807)=tt:=by simp[leB];omega
 simp only[rs1];generalize rs1 l vs r0 i=r at *
 generalize b5J l (i:Int)=x at *
 have hz:(eqB x.w.a 0&&(eqB x.w.b 0&&(eqB x.w.c 0&&(eqB x.w.d 0&&(eqB x.w.e 0&&eqB x.w.f 0)))))=x.w.isZ:=rfl;rw[e2,Xw,show a1q.loops[1]?=sm a7I from rfl,Q0];cases hzz:x.w.isZ with
 | true=>simp only[a7I,↓reduceIte,a0e,a0h,a0F,a0s,Xs,Xt,Xq,PEnv.at,Q3,Q4,Q7,Q8,a0H,a0x,a1g,Qe,Qs,Qg,Qd,Nat.reduceAdd,Qk,Q2,Qq,Qn,a0c,Q1,Q0,Xy,Q6,Q5,Xu,Xr,Xx,Qf,Qa,Q9,c8W,p1,c4D,a0I,hd,Xp q1,Xp q4,Xp q5,lx,ma,a2T,hz,hzz,b3i,XG,Qv,Qr,dva,Qw]
 | false=>simp only[a7I,↓reduceIte,a0e,a0h,a0F,a0s,Xs,Xt,Xq,PEnv.at,Q3,Q4,Q7,Q8,a0H,a0x,a1g,Qe,Qs,Qg,Qd,Nat.reduceAdd,Qk,Q2,Qq,Qn,a0c,Q1,Q0,Xy,Q6,Q5,Xu,Xr,Xx,Qf,Qa,Q9,c8W,p1,c4D,a0I,hd,Xp q1,Xp q4,lx,ma,a2T,hz,hzz,b3i,XG,Qv,Qr,dva,Qw]
end
theorem e5l(k:Nat)(l:List Int):XY k (a4R l)=tt:=by
 induction l with
 | nil=>rfl
 | cons z l ih=>simpa[a4R,XY,PV.lows,PV.low] using ih
def c0S(vs:List Int)(r:Int)(i:Nat):List Int:=(vs.take i).map (·+r)++vs.drop i
theorem f2h(vs:List Int)(r:Int)(i:Nat):(c0S vs r i).length=vs.length:=by simp[c0S];omega
theorem e8m{vs:List Int}{r:Int}{i:Nat}(h:i<vs.length):at' (c0S vs r i) i=at' vs i:=by
 unfold at' c0S;rw[List.getElem?_append_right (by simp;omega)];simp[show min i vs.length=i by omega]
theorem f1T{vs:List Int}{r:Int}{i:Nat}(h:i<vs.length):(c0S vs r i).set i (at' vs i+r)=c0S vs r (i+1):=by
 unfold c0S;rw[QY,b2H h,a7Q (b2H h)];have hl:i=((vs.take i).map (·+r)).length:=by simp;omega
 have:=X5 (s:=(vs.take i).map (·+r)) (t:=at' vs i::vs.drop (i+1)) i (at' vs i+r) (by simp;omega);rw[this];simp[show min i vs.length=i by omega]
section
variable (σ:List MO)(hσ:c0I σ)(N:Nat)(hN:N<=30)(n:Nat)(r:Int)(vs fs:List Int)(hvs:vs.length=N)(hr:0<=r/\r<=648024000000)(hb:∀x,x<N->-648000000000<=at' vs x/\at' vs x<=0)
include hN in
theorem f7D(i fuel:Nat)(hi:i<N)(cur:List Int)(hc:cur.length=N)(hq:-1000000000000<=at' cur i+r/\at' cur i+r<=1000000000000) :
  a1q.loop (a0a Tab n) (fuel+1) 2 (d3B σ N cur fs [r,(N:Int),(i:Int)])=a1q.loop (a0a Tab n) fuel 2 (d3B σ N (cur.set i (at' cur i+r)) fs [r,(N:Int),((i+1:Nat):Int)]):=by
 have dva:=a9S (b2H (l:=cur) (i:=i) (by omega));have ma:=a7O (h:=σ.length) (o:=0) (cap:=N) (sz:=1) (off:=0) hi;have e2:((i+1:Nat):Int)=(i:Int)+1:=by omega
 have hd:decide (i<N)=tt:=dT0 hi;have q1:(leB 0 (i:Int)&&tt)=tt:=by simp[leB]
 have q4:(leB (-9223372036854775808) ((i:Int)+1)&&leB ((i:Int)+1) 9223372036854775807)=tt:=by simp[leB];omega
 have q5:(leB (-9223372036854775808) (at' cur i+r)&&leB (at' cur i+r) 9223372036854775807)=tt:=by simp[leB];omega
 have sv:=b9T (l:=cur) (i:=i) (at' cur i+r) (by omega);have lv:i+1<=(a1Q cur).length:=by rw[b9X];omega
 rw[e2,Xw,show a1q.loops[2]?=sm a9v from rfl,Q0];simp only[a9v,↓reduceIte,a0e,a0h,a0F,a1s,a0s,Xs,Xt,Xq,PEnv.at,Q3,Q4,Q7,a0H,a0x,a1g,Qe,Qg,Qd,Q2,Qq,Qn,a0c,Q1,Q0,Xy,Q6,Q5,Xu,Xr,Xx,Qf,Qa,Q9,d3B,c4D,a0I,hd,Xp q1,Xp q4,Xp q5,ma,b3i,c5i,XG,Qv,Qr,dva,Qw,lv,sv]
include hN hvs hr hb in
theorem f6q:∀d i,i+d=N->∀fuel,a1q.loop (a0a Tab n) (fuel+d) 2 (d3B σ N (c0S vs r i) fs [r,(N:Int),(i:Int)])=a1q.loop (a0a Tab n) fuel 2 (d3B σ N (c0S vs r N) fs [r,(N:Int),(N:Int)]):=by
 intro d
 induction d with
 | zero=>intro i hi fuel;rw[Qe] at hi;subst hi;rfl
 | succ d ih =>
  intro i hi fuel;have hbi:=hb i (by omega);have h:=f7D σ N hN n r fs i (fuel+d) (by omega) (c0S vs r i) (by rw[f2h,hvs]) (by rw[e8m (by omega)];omega);rw[e8m (by omega),f1T (by omega)] at h;rw[show fuel+(d+1)=(fuel+d)+1 from rfl,h];exact ih (i+1) (by omega) fuel
include hσ in
theorem f4R(cur:List Int)(hc:cur.length=N)(fuel:Nat):a1q.loop (a0a Tab n) (fuel+1) 2 (d3B σ N cur fs [r,(N:Int),(N:Int)])=sm (.tup [.agg [.nilS,.sl 1 (a4R cur)],.bool tt],σ):=by
 have hd:decide (N<N)=ff:=by simp
 have hr:=d7z cur;rw[hc] at hr;rw[Xw,show a1q.loops[2]?=sm a9v from rfl];simp only[Q0,a9v,↓reduceIte,a0j,a0e,Xs,Xt,Xq,Q3,Q4,Q7,Q2,Q1,Q0,Xu,Xr,d3B,a0I,hd];have hm3:(σ++[.cells (a1Q cur) 2,.cells (a1Q fs) 3]:List MO).length=σ.length+2:=by simp
 have h1:¬(ff=tt\/σ.length+2=σ.length):=by simp
 have h2:¬(σ.length<σ.length):=by omega
 simp only[a0n,hm3,QW,hσ σ.length,XW,PV.frzs,XA h2,a6e,b3i,d9Z,XG,hr,↓reduceIte,Qs,Qk,Q2,Q1,Q0,];simp[]
end
section
variable (σ:List MO)(hσ:c0I σ)(l:List Ch)(P:PV)(hP:P.rowsOf 12=sm (l.map XF))(hl:l.length<=30)(n:Nat)(hn:30000<=n)
def e4o(l:List Ch)(p:PV):Prop :=
 (¬(∀x∈l,x.ok)/\p=.tup [.agg [.nilS,.nilS],.bool ff]) \/
 ((∀x∈l,x.ok)/\∃vs:List Int,vs.length=l.length/\(∀x y,x<l.length->y<l.length->at' vs y<=at' vs x+gN l x y)/\(∀x,x<l.length->-648000000000<=at' vs x/\at' vs x<=0) /\
  p=.tup [.agg [.nilS,.sl 1 (a4R (vs.map (·+b4h l vs)))],.bool tt]) \/
 ((∀x∈l,x.ok)/\∃(vs fs:List Int) (c t:Nat->Nat) (z j k:Nat),Go.Bf.Fin l.length (gN l) (at' vs) (at' fs) c t z/\j<k/\k<=l.length/\a0Y (at' fs) z k=a0Y (at' fs) z j /\
  p=.tup [.agg [.sl 1 (a4R (a3I (at' fs) z j (k-j)).reverse),.nilS],.bool ff])
include hσ hP hl hn in
theorem f0D:∃p,e4o l p/\a0a Tab n 121 [P] σ=sm (p,σ):=by
 obtain⟨n,rfl⟩:=a0L n (by omega);obtain⟨p1,p2,p3⟩:=a0b hP;rw[Qj] at p1;have c1:=f3w σ l P hP n (by omega) (by omega)
 skip
 simp only[a0a,d4R,Q0,XE];show ∃p,e4o l p/\((a0i [.sh (.one _)] _).bind _)=_;simp only[a0i,a0m,a0c,Q1,Q0,Qb,XD,p3];show ∃p,e4o l p/\(Xz _ b9F _).bind _=_;simp only[b9F,↓reduceIte,a0j,a0e,a0h,a0A,a0s,Xs,Xt,Xq,PEnv.at,Q3,Q4,Q7,Q8,a0c,a0w,a0m,Q1,Q0,Xy,Q6,Q5,Xu,Xr,Xx,Qa,Q9,c1];by_cases ha:(l.all fun x=>decide x.ok)=tt
 case neg =>
  have hno:¬∀x∈l,x.ok:=fun h=>ha (Xd.2 fun x hx=>dT0 (h x hx))
  rw[QS] at ha;rw[ha];refine⟨_,.inl ⟨hno,rfl⟩,?_⟩;simp only[↓reduceIte,Q2,Q1,Q0,Qp,a0n,Xv]
 have hok:∀x∈l,x.ok:=fun x hx=>by simpa using (Xd.1 ha) x hx
 rw[ha];obtain⟨m,rfl⟩:∃k,n=k+1:=⟨n-1,by omega⟩
 have hNN:l.length*(l.length*(l.length+2)+2)<=28860:=by
  calc l.length*(l.length*(l.length+2)+2)<=30*(30*(30+2)+2):=Qz hl (Xe (Qz hl (by omega)) 2)
   _=28860:=rfl
 obtain⟨res,hres,hev⟩:=e5g σ hσ l P hP hok hl m (by omega) (by omega)
 skip
 rcases hres with ⟨vs,fs,hvs,hfs,hst,hlow,rfl⟩|⟨vs,fs,c,t,z,j,k,hvs,hfs,hfin,hjk,hk,he,rfl⟩
 ·refine⟨_,.inr (.inl ⟨hok,vs,hvs,hst,hlow,rfl⟩),?_⟩
  have ho:∀h o len cap sz,(PV.msl h o len cap sz).one=tt:=fun _ _ _ _ _=>rfl
  have hon:XX.one=tt:=rfl;have hk0:XV 0 .nilS=tt:=rfl;have hno:XX.nilOk=tt:=rfl;have hni:XX.isNil=tt:=rfl;simp only[↓reduceIte,Q3,Q4,Q7,Q2,a0c,a0m,Q1,Q0,Q6,Q5,Qb,Qm,hev,a1J,ho,hon,hk0,hno,hni,p1,p2];have b0:=f1p hok hlow l.length (Qk _);have b1:=f0Q hlow b0 l.length (Qk _)
  have f1J:∀d i,i+d=l.length->∀fuel,a1q.loop (a0a Tab (m+1)) (fuel+d) 0 (cst σ P l.length vs fs [rs0 l vs i,(l.length:Int),(i:Int)])=a1q.loop (a0a Tab (m+1)) fuel 0 (cst σ P l.length vs fs [rs0 l vs l.length,(l.length:Int),(l.length:Int)]):=by
   intro d
   induction d with
   | zero=>intro i hi fuel;rw[Qe] at hi;subst hi;rfl
   | succ d ih=>intro i hi fuel;rw[show fuel+(d+1)=(fuel+d)+1 from rfl,f6T σ l P hP hok hl (m+1) (by omega) vs fs hvs hlow i _ (by omega)];exact ih (i+1) (by omega) fuel
  have f1S:∀d i,i+d=l.length->∀fuel,a1q.loop (a0a Tab (m+1)) (fuel+d) 1 (c8W σ P l.length vs fs [rs1 l vs (rs0 l vs l.length) i,(l.length:Int),(i:Int)])=a1q.loop (a0a Tab (m+1)) fuel 1 (c8W σ P l.length vs fs [b4h l vs,(l.length:Int),(l.length:Int)]):=by
   intro d
   induction d with
   | zero=>intro i hi fuel;rw[Qe] at hi;subst hi;rfl
   | succ d ih=>intro i hi fuel;rw[show fuel+(d+1)=(fuel+d)+1 from rfl,f7G σ l P hP hl (m+1) vs fs hvs hlow _ i _ (by omega)];exact ih (i+1) (by omega) fuel
  have hd:decide (l.length<l.length)=ff:=by simp
  have x0:∀fuel,a1q.loop (a0a Tab (m+1)) (fuel+1) 0 (cst σ P l.length vs fs [rs0 l vs l.length,(l.length:Int),(l.length:Int)])=a1q.loop (a0a Tab (m+1)) fuel 1 (c8W σ P l.length vs fs [rs0 l vs l.length,(l.length:Int),0]):=by
   intro fuel;rw[Xw,show a1q.loops[0]?=sm a7L from rfl];simp only[Q0,a7L,↓reduceIte,a0e,a0h,a0s,Xs,Xt,Xq,PEnv.at,Q3,Q4,Q7,Q8,Q2,Q1,Q0,Xu,Xr,Xx,Qa,Q9,cst,c8W,a0I,hd,p1,p2]
  have x1:∀fuel,a1q.loop (a0a Tab (m+1)) (fuel+1) 1 (c8W σ P l.length vs fs [b4h l vs,(l.length:Int),(l.length:Int)])=a1q.loop (a0a Tab (m+1)) fuel 2 (d3B σ l.length vs fs [b4h l vs,(l.length:Int),0]):=by
   intro fuel;rw[Xw,show a1q.loops[1]?=sm a7I from rfl];simp only[Q0,a7I,↓reduceIte,a0e,a0h,a0s,Xs,Xt,Xq,PEnv.at,Q3,Q4,Q7,Q2,Q1,Q0,Xu,Xr,Xx,Qa,Q9,c8W,d3B,a0I,hd,isM,c4D]
  have run2:=f6q σ l.length hl (m+1) (b4h l vs) vs fs hvs b1 hlow l.length 0 (by omega);have hcur0:c0S vs (b4h l vs) 0=vs:=by simp[c0S]
  have hcurN:c0S vs (b4h l vs) l.length=vs.map (·+b4h l vs):=by rw[<- hvs];simp[c0S]
  have fin:=f4R σ hσ l.length (m+1) (b4h l vs) fs (vs.map (·+b4h l vs)) (by simp[hvs]);rw[hcur0,hcurN] at run2;have e0:=f1J l.length 0 (by omega);have e1:=f1S l.length 0 (by omega);have tot:=fin (m+1-3*l.length-3);rw[<- run2,show ((0:Nat):Int)=0 from rfl,<- x1,<- e1] at tot;have hs1:rs1 l vs (rs0 l vs l.length) 0=rs0 l vs l.length:=rfl;rw[hs1,show ((0:Nat):Int)=0 from rfl,<- x0,<- e0] at tot;rw[show m+1-3*l.length-3+1+l.length+1+l.length+1+l.length=m+1 by omega] at tot;exact tot
 ·refine⟨_,.inr (.inr ⟨hok,vs,fs,c,t,z,j,k,hfin,hjk,hk,he,rfl⟩),?_⟩
  have hne:a4R (a3I (at' fs) z j (k-j)).reverse≠[]:=by
   intro h;have:=congrArg List.length h;simp[a4R,b5j] at this;omega
  have hlw:XY σ.length (a4R (a3I (at' fs) z j (k-j)).reverse)=tt:=e5l _ _;generalize a4R (a3I (at' fs) z j (k-j)).reverse=rows at *
  have ho:(XL 1 rows).one=tt:=rfl;have hon:XX.one=tt:=rfl;have hk0:XV 0 (.sl 1 rows)=tt:=rfl;have hno:(XL 1 rows).nilOk=tt:=by cases rows with|nil=>exact XJ rfl hne|cons a r=>rfl
  have hni:(XL 1 rows).isNil=ff:=rfl;simp only[↓reduceIte,Q3,Q4,Q7,Q8,Q2,a0c,a0m,Q1,Q0,Q6,Q5,Qb,Qm,Qp,hev,a1J,ho,hon,hk0,hno,hni,p1,p2];have hm3:(σ++[.cells (a1Q vs) 2,.cells (a1Q fs) 3]:List MO).length=σ.length+2:=by simp
  have h1:¬(ff=tt\/σ.length+2=σ.length):=by simp
  simp only[a0n,hm3,QW,hσ σ.length,XW,PV.frzs,hlw,↓reduceIte,Qk,Q2,Q1,Q0,];simp[]
end
def Pot(l:List Ch):Prop:=∃π:Nat->Int,∀x y,x<l.length->y<l.length->π y<=π x+gN l x y
theorem f2z(σ:List MO)(hσ:c0I σ)(l:List Ch)(P:PV)(hP:P.rowsOf 12=sm (l.map XF))(hl:l.length<=30)(n:Nat)(hn:30000<=n) :
  ∃w1 w2 b,a0a Tab n 121 [P] σ=sm (.tup [.agg [w1,w2],.bool b],σ)/\w1.one=tt/\w2.one=tt/\(b=tt↔(∀x∈l,x.ok)/\Pot l):=by
 obtain⟨p,hp,he⟩:=f0D σ hσ l P hP hl n hn;rcases hp with ⟨hno,rfl⟩|⟨hok,vs,_,hst,_,rfl⟩|⟨hok,vs,fs,c,t,z,j,k,hfin,_,_,_,rfl⟩
 ·exact⟨_,_,_,he,rfl,rfl,by simp[hno]⟩
 ·refine⟨_,_,_,he,rfl,rfl,?_⟩
  exact⟨fun _=>⟨hok,at' vs,hst⟩,fun _=>rfl⟩
 ·refine⟨_,_,_,he,rfl,rfl,?_⟩
  constructor
  ·intro h;cases h
  ·rintro⟨_,π,hπ⟩
   exact(hfin.none π hπ).elim
def w0:W6:=⟨0,0,0,0,0,0⟩
def a3p(l:List Ch):List W6:=w0::l.map Ch.w
def wa(W:List W6)(k:Nat):W6:=(W[k]?).getD w0
def chx(l:List Ch)(i:Nat):Ch:=(l[i]?).getD ⟨w0,w0⟩
theorem f6r(a b:W6):(eqB a.a b.a&&(eqB a.b b.b&&(eqB a.c b.c&&(eqB a.d b.d&&(eqB a.e b.e&&eqB a.f b.f)))))=tt↔a=b:=by
 obtain⟨a1,a2,a3,a4,a5,a6⟩:=a;obtain⟨b1,b2,b3,b4,b5,b6⟩:=b;simp[Bool.and_eq_true,a9e]
theorem d0z{l:List Ch}{i:Nat}{x:Ch}(h:l[i]?=sm x):chx l i=x:=by simp[chx,h]
theorem c3J{W:List W6}{i:Nat}{x:W6}(h:W[i]?=sm x):wa W i=x:=by simp[wa,h]
theorem b1i(l:List Ch):(a3p l).length=l.length+1:=by simp[a3p]
theorem c1d(l:List Ch){i:Nat}(h:i<l.length):wa (a3p l) (i+1)=(chx l i).w:=by
 obtain⟨x,hx⟩:=a0S h;simp[a3p,wa,chx,hx]
theorem e4X{l:List Ch}(hok:∀x∈l,x.ok)(k:Nat):(wa (a3p l) k).ok:=by
 have h0:w0.ok:=by simp[w0,W6.ok]
 cases k with
 | zero=>exact h0
 | succ k =>
  by_cases h:k<l.length
  ·rw[c1d l h]
   obtain⟨x,hx⟩:=a0S h;rw[d0z hx];exact(hok x (Qt hx)).2
  ·have:(a3p l)[k+1]?=nn:=List.getElem?_eq_none_iff.2 (by rw[b1i];omega)
   simp only[wa,this];exact h0
section
variable (l:List Ch)
def d7Y(q:Nat):Nat:=(q / (l.length+1)) % (l.length+1)
def d8G(q:Nat):Nat:=q % (l.length+1)
def d2u(q:Nat):Nat:=q / (l.length+1) / (l.length+1)
def qEd(q:Nat):Prop:=wa (a3p l) (d8G l q)=(chx l (d2u l q)).w
def qWt(q:Nat):Int:=a3g (chx l (d2u l q)).p (wa (a3p l) (d7Y l q))-a3g (chx l (d2u l q)).p (chx l (d2u l q)).w
def qM:Nat:=l.length*(l.length+1)*(l.length+1)
def qQ(i k j:Nat):Nat:=(i*(l.length+1)+k)*(l.length+1)+j
end
theorem b5w{l:List Ch}{i k j:Nat}(hj:j<l.length+1):d8G l (qQ l i k j)=j:=by
 unfold d8G qQ;rw[Xf,Xg hj]
theorem f3q{l:List Ch}{i k j:Nat}(hj:j<l.length+1):qQ l i k j / (l.length+1)=i*(l.length+1)+k:=by
 unfold qQ;rw[Nat.mul_comm,Xh (by omega),Xj hj,Qe]
theorem b9l{l:List Ch}{i k j:Nat}(hj:j<l.length+1)(hk:k<l.length+1):d7Y l (qQ l i k j)=k:=by
 unfold d7Y;rw[f3q hj,Xf,Xg hk]
theorem c1g{l:List Ch}{i k j:Nat}(hj:j<l.length+1)(hk:k<l.length+1):d2u l (qQ l i k j)=i:=by
 unfold d2u;rw[f3q hj,Nat.mul_comm,Xh (by omega),Xj hk,Qe]
theorem f1Y{l:List Ch}{i k j:Nat}(hi:i<l.length)(hk:k<l.length+1)(hj:j<l.length+1):qQ l i k j<qM l:=by
 unfold qQ qM
 have h1:i*(l.length+1)+k+1<=l.length*(l.length+1):=by
  calc i*(l.length+1)+k+1<=i*(l.length+1)+(l.length+1):=by omega
   _=(i+1)*(l.length+1):=by rw[QB];omega
   _<=l.length*(l.length+1):=X6 _ (by omega)
 calc (i*(l.length+1)+k)*(l.length+1)+j<(i*(l.length+1)+k)*(l.length+1)+(l.length+1):=by omega
  _=(i*(l.length+1)+k+1)*(l.length+1):=by rw[QB (i*(l.length+1)+k)];omega
  _<=l.length*(l.length+1)*(l.length+1):=X6 _ h1
theorem f3G(l:List Ch)(i k:Nat):qQ l i k (l.length+1)=qQ l i (k+1) 0:=by
 unfold qQ;rw[<- Nat.add_assoc (i*(l.length+1)) k 1,QB (i*(l.length+1)+k) 1,Nat.one_mul];rfl
theorem f3N(l:List Ch)(i:Nat):qQ l i (l.length+1) 0=qQ l (i+1) 0 0:=by
 unfold qQ;simp[QB]
theorem f5U(l:List Ch):qQ l l.length 0 0=qM l:=by unfold qQ qM;simp
theorem f5E(l:List Ch):qQ l 0 0 0=0:=by unfold qQ;simp
theorem f3e{l:List Ch}(hl:l.length<=30):qM l<=28830:=by
 unfold qM
 calc l.length*(l.length+1)*(l.length+1)<=30*(30+1)*(30+1):=Qz (Qz hl (by omega)) (by omega)
  _=28830:=rfl
theorem f5G{l:List Ch}{q:Nat}(h:q<qM l):∃i k j,i<l.length/\k<l.length+1/\j<l.length+1/\q=qQ l i k j:=by
 refine⟨d2u l q,d7Y l q,d8G l q,?_,X7 _ (by omega),X7 _ (by omega),?_⟩
 ·unfold d2u qM at *
  rw[Nat.div_div_eq_div_mul,Nat.div_lt_iff_lt_mul (Nat.mul_pos (by omega) (by omega)),<- Nat.mul_assoc];exact h
 ·unfold d2u d7Y d8G qQ
  rw[Xk,Xk]
def CG(l:List Ch)(vs:List Int)(b:Bool)(T r q:Nat):Prop :=
 vs.length=l.length+1/\T+qM l<=q+r*28830/\∃c t pe,EInv (l.length+1) (qM l) (d7Y l) (d8G l) (qEd l) (qWt l) (fun x=>-at' vs x) c t pe T r q/\(b=tt↔∀x,x<l.length+1->c x≠r)
theorem CG.bd{l:List Ch}{vs:List Int}{b:Bool}{T r q:Nat}(h:CG l vs b T r q)(hq:q<=qM l)(hr:r<=32){x:Nat}(hx:x<l.length+1):0<=at' vs x/\at' vs x<=24000000000000:=by
 obtain⟨_,h1,c,t,pe,h2,_⟩:=h;have:=h2.low x hx;have hT:T<=1000000:=by omega
 omega
section
variable (l:List Ch)(hok:∀x∈l,x.ok)
include hok
theorem f5S{q:Nat}(hq:q<qM l):-24000000<=qWt l q/\qWt l q<=24000000:=by
 obtain⟨i,k,j,hi,hk,hj,rfl⟩:=f5G hq;unfold qWt;rw[c1g hj hk,b9l hj hk];obtain⟨x,hx⟩:=a0S hi;have hxo:=hok x (Qt hx);rw[d0z hx];have a1:=b4l hxo.1 (e4X hok k);have a2:=b4l hxo.1 hxo.2;omega
theorem CG.raise{vs:List Int}{b:Bool}{T r i k j:Nat}(h:CG l vs b T r (qQ l i k j))(hr:1<=r)(hi:i<l.length)(hk:k<l.length+1)(hj:j<l.length+1)(hw:wa (a3p l) j=(chx l i).w)
  (hlt:at' vs j<at' vs k+a3g (chx l i).p (chx l i).w-a3g (chx l i).p (wa (a3p l) k)) :
  j≠k/\CG l (vs.set j (at' vs k+a3g (chx l i).p (chx l i).w-a3g (chx l i).p (wa (a3p l) k))) ff (T+1) r (qQ l i k j+1):=by
 obtain⟨h0,h1,c,t,pe,h2,h3⟩:=h;have hed:qEd l (qQ l i k j):=by unfold qEd;rw[b5w hj,c1g hj hk];exact hw
 have hwt:qWt l (qQ l i k j)=a3g (chx l i).p (wa (a3p l) k)-a3g (chx l i).p (chx l i).w:=by unfold qWt;rw[c1g hj hk,b9l hj hk]
 have hq:=f1Y hi hk hj;have hjk:j≠k:=by rintro rfl;rw[hw] at hlt;omega
 refine⟨hjk,by simpa using h0,by omega,upd c j r,upd t j (T+1),upd pe j (qQ l i k j),?_,?_⟩
 ·have hl:=h2.lower hq hed (by rw[b9l hj hk];exact hk) (by rw[b5w hj];exact hj) hr (f5S l hok hq).1 (by rw[b9l hj hk,b5w hj];intro e;exact XJ e.symm hjk) (by simp only[b9l hj hk,b5w hj,hwt];omega)
  rw[b9l hj hk,b5w hj,hwt] at hl
  have hu:upd (fun x=>-at' vs x) j (-at' vs k+(a3g (chx l i).p (wa (a3p l) k)-a3g (chx l i).p (chx l i).w))=fun x=>-at' (vs.set j (at' vs k+a3g (chx l i).p (chx l i).w-a3g (chx l i).p (wa (a3p l) k))) x:=by
   funext x;rw[e0i _ (by omega)];simp only[upd];split<;>omega
  rw[hu] at hl;exact hl
 ·constructor
  ·intro h;cases h
  ·intro h;exact XJ (a3j c j r) (h j hj)
omit hok in
theorem CG.hold{vs:List Int}{b:Bool}{T r i k j:Nat}(h:CG l vs b T r (qQ l i k j))(hk:k<l.length+1)(hj:j<l.length+1)
  (hno:wa (a3p l) j=(chx l i).w->at' vs k+a3g (chx l i).p (chx l i).w-a3g (chx l i).p (wa (a3p l) k)<=at' vs j):CG l vs b (T+1) r (qQ l i k j+1):=by
 obtain⟨h0,h1,c,t,pe,h2,h3⟩:=h;refine⟨h0,by omega,c,t,pe,h2.keep ?_,h3⟩;intro hed;unfold qEd at hed;rw[b5w hj,c1g hj hk] at hed;have:=hno hed;simp only[b9l hj hk,b5w hj];unfold qWt;rw[c1g hj hk,b9l hj hk];omega
end
theorem CG.next{l:List Ch}{vs:List Int}{b:Bool}{T r:Nat}(hl:l.length<=30)(h:CG l vs b T r (qM l)):CG l vs tt T (r+1) 0:=by
 obtain⟨h0,h1,c,t,pe,h2,h3⟩:=h;have:=f3e hl;refine⟨h0,by omega,c,t,pe,h2.round,?_⟩;exact⟨fun _ x hx hc=>(by have:=h2.cle x hx;omega),fun _=>rfl⟩
theorem CG.start(l:List Ch)(hl:l.length<=30):CG l (Qh (l.length+1) 0) tt 0 1 0:=by
 have:=f3e hl;refine⟨by simp,by omega,_,_,_,EInv.start _ _ _ _ _ _ _ ?_,?_⟩
 ·intro x hx
  simp[at',hx]
 ·exact⟨fun _ x hx hc=>(by cases hc),fun _=>rfl⟩
theorem CG.calm{l:List Ch}{vs:List Int}{T r:Nat}(h:CG l vs tt T r (qM l)):Pot l:=by
 obtain⟨h0,h1,c,t,pe,h2,h3⟩:=h;have hs:=h2.stable (fun e _=>X7 _ (by omega)) (h3.1 rfl);refine⟨fun x=>at' vs (x+1),fun x y hx hy=>?_⟩;have hq:=f1Y (l:=l) (i:=x) (k:=y+1) (j:=x+1) hx (by omega) (by omega);have:=hs _ hq (by unfold qEd;rw[b5w (by omega),c1g (by omega) (by omega),c1d l hx]);unfold qWt at this;simp only[b5w (l:=l) (i:=x) (k:=y+1) (j:=x+1) (by omega),b9l (l:=l) (i:=x) (k:=y+1) (j:=x+1) (by omega) (by omega),c1g (l:=l) (i:=x) (k:=y+1) (j:=x+1) (by omega) (by omega),c1d l hy] at this
 have e1:∀z,z<l.length->b5J l (z:Int)=chx l z:=by
  intro z hz;obtain⟨c,hc⟩:=a0S hz;rw[d0z hc];simp[b5J,hc]
 unfold gN c1i;rw[e1 x hx,e1 y hy];show at' vs (y+1)<=at' vs (x+1)+_;omega
theorem f1x(f:Nat->Int):∀N,∃M:Int,∀x,x<N->M<=f x
 | 0=>⟨0,fun x h=>by omega⟩
 | N+1=>by
  obtain⟨M,h⟩:=f1x f N;refine⟨min M (f N),fun x hx=>?_⟩;by_cases e:x=N
  ·subst e;omega
  ·have:=h x (by omega);omega
theorem e3Q{l:List Ch}{z:Nat}(hz:z<l.length):b5J l (z:Int)=chx l z:=by
 obtain⟨c,hc⟩:=a0S hz;rw[d0z hc];simp[b5J,hc]
theorem e6M(p:W6):a3g p w0=0:=by simp[a3g,w0]
def vf(v0:Int)(p:Nat->Int):Nat->Int
 | 0=>-v0
 | x+1=>-p x
theorem f3W{l:List Ch}(h:Pot l):∃π:Nat->Int,∀e,e<qM l->qEd l e->π (d8G l e)<=π (d7Y l e)+qWt l e:=by
 obtain⟨p,hp⟩:=h
 have hp:∀x y,x<l.length->y<l.length->p y<=p x+(a3g (chx l x).p (chx l y).w-a3g (chx l x).p (chx l x).w):=by
  intro x y hx hy;have:=hp x y hx hy;unfold gN c1i at this
  rwa [e3Q hx,e3Q hy] at this
 have same:∀x y,x<l.length->y<l.length->(chx l x).w=(chx l y).w->p x=p y:=by
  intro x y hx hy e;have h1:=hp x y hx hy;have h2:=hp y x hy hx;rw[e] at h1 h2;omega
 obtain⟨M,hM⟩:=f1x (fun x=>p x-a3g (chx l x).p (chx l x).w) l.length
 have base:∃v0:Int,(∀y,y<l.length->(chx l y).w=w0->v0=p y)/\(∀x,x<l.length->v0<=p x-a3g (chx l x).p (chx l x).w):=by
  by_cases hz:∃y,y<l.length/\(chx l y).w=w0
  ·obtain⟨y,hy,hw⟩:=hz
   refine⟨p y,fun z hz hzw=>same y z hy hz (hw.trans hzw.symm),fun x hx=>?_⟩;have:=hp x y hx hy;rw[hw,e6M] at this;omega
  ·exact⟨M,fun y hy hw=>XJ ⟨y,hy,hw⟩ hz,hM⟩
 obtain⟨v0,b1,b2⟩:=base;refine⟨vf v0 p,fun e he hed=>?_⟩;obtain⟨i,k,j,hi,hk,hj,rfl⟩:=f5G he;unfold qEd at hed;unfold qWt;rw[b5w hj,c1g hj hk] at hed;rw[b5w hj,b9l hj hk,c1g hj hk]
 have e1:vf v0 p j=-p i:=by
  cases j with
  | zero=>have:=b1 i hi hed.symm;simp only[vf];omega
  | succ x =>
   rw[c1d l (by omega)] at hed;have:=same x i (by omega) hi hed;simp only[vf];omega
 rw[e1];cases k with
 | zero =>
  have:=b2 i hi;rw[show wa (a3p l) 0=w0 from rfl,e6M];simp only[vf];omega
 | succ y =>
  rw[c1d l (by omega)];have:=hp i y hi (by omega);simp only[vf];omega
def a6O(l:List Ch):List (List PV):=(a3p l).map fun w=>w.pv
def cn(σ:List MO)(l:List Ch)(P:PV)(vs:List Int)(is:List Int)(bs:List Bool):PEnv :=
 {i:=is,b:=bs,v:=[P,.sl 6 (a6O l),.msl σ.length 0 (l.length+1) (l.length+1) 1],m:=σ++[.cells (a1Q vs) 2],k:=σ.length}
theorem e2W{l:List Ch}{k:Nat}(h:k<l.length+1):(a6O l)[k]?=sm (wa (a3p l) k).pv:=by
 obtain⟨w,hw⟩:=a0S (l:=a3p l) (i:=k) (by rw[b1i];exact h);simp[a6O,wa,hw]
theorem e1T{l:List Ch}{i:Nat}(h:i<l.length):l[i]?=sm (chx l i):=by
 obtain⟨x,hx⟩:=a0S h;rw[hx,d0z hx]
section
variable (σ:List MO)(l:List Ch)(P:PV)(hP:P.rowsOf 12=sm (l.map XF))(hok:∀x∈l,x.ok)(hl:l.length<=30)(n:Nat)(hn:1<=n)
include hP hok hl in
theorem cn4{vs:List Int}{b:Bool}{T r i k j:Nat}(h:CG l vs b T r (qQ l i k j))(hr:1<=r)(hi:i<l.length)(hk:k<l.length+1)(hj:j<l.length+1)(R:Int)(z:Int)
  (hz:z=at' vs k+a3g (chx l i).p (chx l i).w-a3g (chx l i).p (wa (a3p l) k)) :
  ∃vs' b',CG l vs' b' (T+1) r (qQ l i k j+1)/\at' vs' k=at' vs k/\∀fuel,a0M.loop (a0a Tab n) (fuel+1) 4 (cn σ l P vs [R,(i:Int),(k:Int),z,(j:Int)] [b])=a0M.loop (a0a Tab n) fuel 4 (cn σ l P vs' [R,(i:Int),(k:Int),z,((j+1:Nat):Int)] [b']):=by
 obtain⟨p1,p2,p3⟩:=a0b hP;rw[Qj] at p1;have hW:(XL 6 (a6O l)).rowsOf 6=sm (a6O l):=a1x _ _;obtain⟨q1,q2,q3⟩:=a0b hW;rw[show (a6O l).length=l.length+1 by simp[a6O,b1i]] at q1;have h6:=a0V (off:=6) hP (a8n (e1T hi));have hj0:=a0V (off:=0) hW (e2W hj);have di:decide (i<l.length)=tt:=dT0 hi;have dj:decide (j<l.length+1)=tt:=dT0 hj;have hup:=a2N (show j<=1000000000 by omega);have hvs:vs.length=l.length+1:=h.1;have mj:=a7O (h:=σ.length) (o:=0) (cap:=l.length+1) (sz:=1) (off:=0) hj;have dv:=a9S (b2H (l:=vs) (i:=j) (by omega));have sv:=b9T (l:=vs) (i:=j) z (by omega);have lv:j+1<=(a1Q vs).length:=by rw[b9X];omega
 have hwe:=f6r (wa (a3p l) j) (chx l i).w;have d6:(6:Nat)<=12-6:=by decide
 simp only[a1o j];generalize hE:(eqB (wa (a3p l) j).a (chx l i).w.a&&(eqB (wa (a3p l) j).b (chx l i).w.b&&(eqB (wa (a3p l) j).c (chx l i).w.c&&(eqB (wa (a3p l) j).d (chx l i).w.d&&(eqB (wa (a3p l) j).e (chx l i).w.e&&eqB (wa (a3p l) j).f (chx l i).w.f)))))=E at *
 cases E with
 | false =>
  have hne:wa (a3p l) j≠(chx l i).w:=fun e=>by have:=hwe.2 e;cases this
  refine⟨vs,b,h.hold l hk hj (fun e=>XJ e hne),rfl,fun fuel=>?_⟩;rw[Xw,show a0M.loops[4]?=sm a2B from rfl,Q0];simp only[a2B,↓reduceIte,a0e,a0h,a0F,a1s,a0s,Xs,Xt,Xq,PEnv.at,Q3,Q4,Q7,Q8,a0H,a0x,a1g,Qs,Qg,Qd,Nat.reduceAdd,Qk,Q2,Qq,Qn,a0c,Q1,Q0,Xy,Q6,Q5,Xu,Xr,Xx,Qf,Qa,Q9,cn,p1,q1,q2,a0I,di,dj,le0,h6,hj0,a2T,c8z,XC,hE,Xp hup]
 | true =>
  have hw:=hwe.1 rfl;by_cases hlt:at' vs j<z
  ·have e1:ltB (at' vs j) z=tt:=a0U.2 hlt
   obtain⟨hjk,hc⟩:=h.raise l hok hr hi hk hj hw (by rw[<- hz];exact hlt);rw[<- hz] at hc;refine⟨vs.set j z,ff,hc,?_,fun fuel=>?_⟩
   ·rw[e0i _ (by omega),XA (fun e=>hjk e.symm)]
   ·rw[Xw,show a0M.loops[4]?=sm a2B from rfl,Q0]
    simp only[a2B,↓reduceIte,a0e,a0h,a0F,a1s,a0s,Xs,Xt,Xq,PEnv.at,Q3,Q4,Q7,Q8,a0H,a0x,a1g,Qe,Qs,Qg,Qd,Nat.reduceAdd,Qk,Q2,Qq,Qn,a0c,Q1,Q0,Xy,Q6,Q5,Xu,Xr,Xx,Qf,Qa,Q9,cn,p1,q1,q2,c4D,a0I,di,dj,le0,h6,hj0,a2T,c8z,XC,hE,mj,b3i,c5i,XG,Qv,Qr,dv,Qw,e1,lv,sv,Xp hup]
  ·have e1:ltB (at' vs j) z=ff:=a0G.2 hlt
   refine⟨vs,b,h.hold l hk hj (fun _=>by rw[<- hz];omega),rfl,fun fuel=>?_⟩;rw[Xw,show a0M.loops[4]?=sm a2B from rfl,Q0];simp only[a2B,↓reduceIte,a0e,a0h,a0F,a1s,a0s,Xs,Xt,Xq,PEnv.at,Q3,Q4,Q7,Q8,a0H,a0x,a1g,Qe,Qs,Qg,Qd,Nat.reduceAdd,Qk,Q2,Qq,Qn,a0c,Q1,Q0,Xy,Q6,Q5,Xu,Xr,Xx,Qf,Qa,Q9,cn,p1,q1,q2,c4D,a0I,di,dj,le0,h6,hj0,a2T,c8z,XC,hE,mj,b3i,XG,Qv,Qr,dv,Qw,e1,Xp hup]
include hP hok hl in
theorem f7l{r i k:Nat}(hr:1<=r)(hi:i<l.length)(hk:k<l.length+1)(R z:Int):∀d j,j+d=l.length+1->∀(vs:List Int) (b:Bool) (T:Nat),CG l vs b T r (qQ l i k j) ->
  z=at' vs k+a3g (chx l i).p (chx l i).w-a3g (chx l i).p (wa (a3p l) k) ->
  ∃vs' b' T',CG l vs' b' T' r (qQ l i (k+1) 0)/\∀fuel,a0M.loop (a0a Tab n) (fuel+d+1) 4 (cn σ l P vs [R,(i:Int),(k:Int),z,(j:Int)] [b])=a0M.loop (a0a Tab n) fuel 3 (cn σ l P vs' [R,(i:Int),((k+1:Nat):Int)] [b']):=by
 intro d
 induction d with
 | zero =>
  intro j hj vs b T h hz;rw[Qe] at hj;subst hj;refine⟨vs,b,T,by rw[<- f3G];exact h,fun fuel=>?_⟩;have hW:(XL 6 (a6O l)).rowsOf 6=sm (a6O l):=a1x _ _;obtain⟨q1,q2,q3⟩:=a0b hW;rw[show (a6O l).length=l.length+1 by simp[a6O,b1i]] at q1;have dj:decide (l.length+1<l.length+1)=ff:=by simp
  have hup:=a2N (show k<=1000000000 by omega);rw[a1o k,Xw,show a0M.loops[4]?=sm a2B from rfl,Q0];simp only[a2B,↓reduceIte,a0e,a0h,a0s,Xs,Xt,Xq,PEnv.at,Q3,Q4,Q7,Q8,Q2,Q1,Q0,Xu,Xr,Xx,Qf,Qa,Q9,cn,q1,q2,a0I,dj,Xp hup]
 | succ d ih =>
  intro j hj vs b T h hz;obtain⟨vs1,b1,g1,g2,g3⟩:=cn4 σ l P hP hok hl n h hr hi hk (by omega) R z hz;obtain⟨vs2,b2,T2,k1,k2⟩:=ih (j+1) (by omega) vs1 b1 (T+1) g1 (by rw[g2];exact hz);refine⟨vs2,b2,T2,k1,fun fuel=>?_⟩;rw[show fuel+(d+1)+1=(fuel+d+1)+1 from rfl,g3,k2]
include hP hok hl hn in
theorem f6Y{r i:Nat}(hr:1<=r)(hr2:r<=32)(hi:i<l.length)(R:Int):∀d k,k+d=l.length+1->∀(vs:List Int) (b:Bool) (T:Nat),CG l vs b T r (qQ l i k 0) ->
  ∃vs' b' T',CG l vs' b' T' r (qQ l (i+1) 0 0)/\∀fuel,a0M.loop (a0a Tab n) (fuel+d*(l.length+3)+1) 3 (cn σ l P vs [R,(i:Int),(k:Int)] [b])=a0M.loop (a0a Tab n) fuel 2 (cn σ l P vs' [R,((i+1:Nat):Int)] [b']):=by
 obtain⟨p1,p2,p3⟩:=a0b hP;rw[Qj] at p1;have hW:(XL 6 (a6O l)).rowsOf 6=sm (a6O l):=a1x _ _;obtain⟨q1,q2,q3⟩:=a0b hW;rw[show (a6O l).length=l.length+1 by simp[a6O,b1i]] at q1;intro d
 induction d with
 | zero =>
  intro k hk vs b T h;rw[Qe] at hk;subst hk;refine⟨vs,b,T,by rw[<- f3N];exact h,fun fuel=>?_⟩;have dj:decide (l.length+1<l.length+1)=ff:=by simp
  have hup:=a2N (show i<=1000000000 by omega);rw[a1o i,QJ,Qe,Xw,show a0M.loops[3]?=sm a3P from rfl,Q0];simp only[a3P,↓reduceIte,a0e,a0h,a0s,Xs,Xt,Xq,PEnv.at,Q3,Q4,Q7,Q8,Q2,Q1,Q0,Xu,Xr,Xx,Qf,Qa,Q9,cn,q1,q2,a0I,dj,Xp hup]
 | succ d ih =>
  intro k hk vs b T h;have hkl:k<l.length+1:=by omega
  have hbd:=h.bd (by have:=f1Y (l:=l) (i:=i) (k:=k) (j:=0) hi hkl (by omega);omega) hr2 hkl;obtain⟨vs1,b1,T1,g1,g2⟩:=f7l σ l P hP hok hl n hr hi hkl R _ (l.length+1) 0 (by omega) vs b T h rfl;obtain⟨vs2,b2,T2,k1,k2⟩:=ih (k+1) (by omega) vs1 b1 T1 g1;refine⟨vs2,b2,T2,k1,fun fuel=>?_⟩;rw[show fuel+(d+1)*(l.length+3)+1=((fuel+d*(l.length+3)+1)+(l.length+1)+1)+1 by rw[QB];omega,<- k2,<- g2];have hvs:vs.length=l.length+1:=h.1;have hx:=e1T hi;have hxo:=hok _ (Qt hx);have hwo:=e4X hok k;have h0:=a0V (off:=0) hP (a8n hx);have h6:=a0V (off:=6) hP (a8n hx);have hk0:=a0V (off:=0) hW (e2W hkl);have di:decide (i<l.length)=tt:=dT0 hi;have dk:decide (k<l.length+1)=tt:=dT0 hkl;have mk:=a7O (h:=σ.length) (o:=0) (cap:=l.length+1) (sz:=1) (off:=0) hkl;have dv:=a9S (b2H (l:=vs) (i:=k) (by omega));have c1:=c8O (σ++[.cells (a1Q vs) 2]) (chx l i).p (chx l i).w hxo.1 hxo.2 n hn;have c2:=c8O (σ++[.cells (a1Q vs) 2]) (chx l i).p (wa (a3p l) k) hxo.1 hwo n hn;have b1:=b4l hxo.1 hxo.2;have b2:=b4l hxo.1 hwo;have t1:∀a b c d e f g h i j k l:PV,List.take 6 [a,b,c,d,e,f,g,h,i,j,k,l]=[a,b,c,d,e,f]:=fun _ _ _ _ _ _ _ _ _ _ _ _=>rfl
  generalize a3g (chx l i).p (chx l i).w=z1 at *
  generalize a3g (chx l i).p (wa (a3p l) k)=z2 at *
  have o1:=a1K (z:=at' vs k+z1) (by omega);have o2:=a1K (z:=at' vs k+z1-z2) (by omega);simp only[XC] at c1 c2;rw[Xw,show a0M.loops[3]?=sm a3P from rfl,Q0]
  have E:Xz (a0a Tab n) a3P (cn σ l P vs [R,(i:Int),(k:Int)] [b])=sm (.jump 4 (cn σ l P vs [R,(i:Int),(k:Int),at' vs k+z1-z2,0] [b])):=by
   simp only[a3P,↓reduceIte,a0e,a0h,a0F,Xs,Xt,Xq,PEnv.at,Q3,Q4,Q7,Q8,a0H,a0x,a1g,Qs,Qg,Qd,Nat.reduceAdd,Qk,Qq,Qn,a0c,Q1,Q0,Xy,Q6,Q5,Qb,Qf,cn,p1,q1,q2,c4D,a0I,di,dk,le0,h0,h6,hk0,a2T,c8z,t1,XC,Nat.reduceLeDiff]
   repeat' (first|with_reducible rfl|apply a4n|simp only[↓reduceIte,a0h,a0F,a0A,a0s,Xs,Xt,Xq,Q3,Q4,Q7,Q8,a0H,a0x,a1g,Qe,Qg,Qd,Q2,Qq,Qn,a0c,a0w,a0m,Q1,Q0,Xy,Q6,Q5,Xu,Xr,Xx,Qf,Qa,Q9,mk,b3i,XG,Qv,Qr,dv,Qw,c1,c2,Xp o1,Xp o2]|unfold b1s|unfold b1n|unfold b1o|unfold b1h)
  rw[E];rfl
include hP hok hl hn in
theorem f6I{r:Nat}(hr:1<=r)(hr2:r<=32)(R:Int):∀d i,i+d=l.length->∀(vs:List Int) (b:Bool) (T:Nat),CG l vs b T r (qQ l i 0 0) ->
  ∃vs' b' T',CG l vs' b' T' r (qM l)/\∀fuel,a0M.loop (a0a Tab n) (fuel+d*((l.length+1)*(l.length+3)+2)) 2 (cn σ l P vs [R,(i:Int)] [b])=a0M.loop (a0a Tab n) fuel 2 (cn σ l P vs' [R,(l.length:Int)] [b']):=by
 obtain⟨p1,p2,p3⟩:=a0b hP;rw[Qj] at p1;intro d
 induction d with
 | zero =>
  intro i hi vs b T h;rw[Qe] at hi;subst hi;exact⟨vs,b,T,by rw[<- f5U];exact h,fun fuel=>by rw[QJ,Qe]⟩
 | succ d ih =>
  intro i hi vs b T h;have hil:i<l.length:=by omega
  have di:decide (i<l.length)=tt:=dT0 hil;obtain⟨vs1,b1,T1,g1,g2⟩:=f6Y σ l P hP hok hl n hn hr hr2 hil R (l.length+1) 0 (by omega) vs b T h;obtain⟨vs2,b2,T2,k1,k2⟩:=ih (i+1) (by omega) vs1 b1 T1 g1;refine⟨vs2,b2,T2,k1,fun fuel=>?_⟩;rw[show fuel+(d+1)*((l.length+1)*(l.length+3)+2)=((fuel+d*((l.length+1)*(l.length+3)+2))+(l.length+1)*(l.length+3)+1)+1 by rw[QB];omega,<- k2,<- g2];rw[Xw,show a0M.loops[2]?=sm a3n from rfl,Q0];simp only[a3n,↓reduceIte,a0e,a0h,a0s,Xs,Xt,Xq,PEnv.at,Q3,Q4,Q7,Q8,Q1,Q0,Xu,Xr,Xx,Qa,Q9,cn,p1,p2,a0I,di,QX]
end
section
variable (σ:List MO)(hσ:c0I σ)(l:List Ch)(P:PV)(hP:P.rowsOf 12=sm (l.map XF))(hok:∀x∈l,x.ok)(hl:l.length<=30)(n:Nat)(hn:1<=n)
def cnK(l:List Ch):Nat:=l.length*((l.length+1)*(l.length+3)+2)+2
include hσ hP hok hl hn in
theorem f6V:∀d R,R+d=l.length+2->∀(vs:List Int) (T:Nat),CG l vs tt T (R+1) 0 ->
  ∃b,(∀fuel,a0M.loop (a0a Tab n) (fuel+d*cnK l+1) 1 (cn σ l P vs [(R:Int)] [])=sm (.bool b,σ))/\(b=tt->Pot l)/\(1<=d->b=ff->¬Pot l):=by
 obtain⟨p1,p2,p3⟩:=a0b hP;rw[Qj] at p1;have hW:(XL 6 (a6O l)).rowsOf 6=sm (a6O l):=a1x _ _;obtain⟨q1,q2,q3⟩:=a0b hW;rw[show (a6O l).length=l.length+1 by simp[a6O,b1i]] at q1;have hm:∀vs:List Int,(σ++[.cells (a1Q vs) 2]:List MO).length=σ.length+1:=by simp
 have h1:¬(ff=tt\/σ.length+1=σ.length):=by simp
 intro d
 induction d with
 | zero =>
  intro R hR vs T h;refine⟨ff,fun fuel=>?_,fun e=>(by cases e),fun e=>(by omega)⟩;have hd:leB (R:Int) ((l.length+1:Nat):Int)=ff:=by rw[a4Y];omega
  rw[QJ,Qe,Xw,show a0M.loops[1]?=sm a4G from rfl,Q0];simp only[a4G,↓reduceIte,a0j,a0e,a0h,Xs,Xt,Xq,PEnv.at,Q3,Q4,Qk,Q2,Q1,Q0,Xr,cn,q1,q2,hd,a0n,hm,QW,hσ σ.length,XW];simp[]
 | succ d ih =>
  intro R hR vs T h;have hd:leB (R:Int) ((l.length+1:Nat):Int)=tt:=by rw[a2O];omega
  obtain⟨vs1,b1,T1,g1,g2⟩:=f6I σ l P hP hok hl n hn (r:=R+1) (by omega) (by omega) (R:Int) l.length 0 (by omega) vs tt T (by rw[f5E];exact h);have dl:decide (l.length<l.length)=ff:=by simp
  have hup:=a2N (show R<=1000000000 by omega)
  have enter:∀fuel,a0M.loop (a0a Tab n) (fuel+cnK l+1) 1 (cn σ l P vs [(R:Int)] [])=a0M.loop (a0a Tab n) (fuel+2) 2 (cn σ l P vs1 [(R:Int),(l.length:Int)] [b1]):=by
   intro fuel;rw[<- g2,show fuel+cnK l+1=(fuel+2+l.length*((l.length+1)*(l.length+3)+2))+1 by unfold cnK;omega];rw[Xw,show a0M.loops[1]?=sm a4G from rfl,Q0];simp only[a4G,↓reduceIte,a0e,a0h,a0s,Xs,Xt,Xq,PEnv.at,Q3,Q4,Q7,Q8,Q1,Q0,Xu,Xr,Xx,Qa,Q9,cn,q1,q2,hd,QX]
  cases b1 with
  | true =>
   refine⟨tt,fun fuel=>?_,fun _=>g1.calm,fun _ e=>(by cases e)⟩;rw[show fuel+(d+1)*cnK l+1=(fuel+d*cnK l)+cnK l+1 by rw[QB];omega,enter,show fuel+d*cnK l+2=(fuel+d*cnK l+1)+1 from rfl];rw[Xw,show a0M.loops[2]?=sm a3n from rfl,Q0];simp only[a3n,↓reduceIte,a0j,a0e,a0h,Xs,Xt,Xq,PEnv.at,Q3,Q4,Qk,Q2,Q1,Q0,Xr,cn,p1,p2,a0I,dl,a0n,hm,QW,hσ σ.length,XW];simp[]
  | false =>
   obtain⟨b,k1,k2,k3⟩:=ih (R+1) (by omega) vs1 T1 (g1.next hl);refine⟨b,fun fuel=>?_,k2,fun _ e=>?_⟩
   ·rw[show fuel+(d+1)*cnK l+1=(fuel+d*cnK l)+cnK l+1 by rw[QB];omega,enter,<- k1 fuel,show fuel+d*cnK l+2=(fuel+d*cnK l+1)+1 from rfl]
    rw[Xw,show a0M.loops[2]?=sm a3n from rfl,Q0,a1o];simp only[a3n,↓reduceIte,a0e,a0h,a0s,Xs,Xt,Xq,PEnv.at,Q3,Q4,Q7,Q8,Q2,Q1,Q0,Xu,Xr,Xx,Qf,Qa,Q9,cn,p1,p2,a0I,dl,Xp hup]
   ·by_cases hd1:1<=d
    ·exact k3 hd1 e
    ·intro hp
     obtain⟨π,hπ⟩:=f3W hp;obtain⟨_,_,c,t,pe,h2,h3⟩:=g1;have hne:¬∀x,x<l.length+1->c x≠R+1:=fun hall=>by have:=h3.2 hall;cases this
     have:∃x,x<l.length+1/\c x=R+1:=by
      refine Classical.byContradiction fun hno=>hne fun x hx hc=>hno ⟨x,hx,hc⟩
     obtain⟨x,hx,hc⟩:=this;exact h2.none hx hc (by omega) π hπ
include hP hl in
theorem f6H:∀d i,i+d=l.length->∀fuel,a0M.loop (a0a Tab n) (fuel+d+1) 0 {i:=[(i:Int)],b:=[],v:=[P,.sl 6 (((a3p l).take (i+1)).map fun w=>w.pv)],m:=σ,k:=σ.length}=a0M.loop (a0a Tab n) fuel 1 (cn σ l P (Qh (l.length+1) 0) [0] []):=by
 obtain⟨p1,p2,p3⟩:=a0b hP;rw[Qj] at p1;intro d
 induction d with
 | zero =>
  intro i hi fuel;rw[Qe] at hi;subst hi;have hd:decide (l.length<l.length)=ff:=by simp
  have hWt:(a3p l).take (l.length+1)=a3p l:=by rw[<- b1i];exact X8
  have hW:(XL 6 (a6O l)).rowsOf 6=sm (a6O l):=a1x _ _;obtain⟨q1,q2,q3⟩:=a0b hW;rw[show (a6O l).length=l.length+1 by simp[a6O,b1i]] at q1;have k1:(0:Int)<=((l.length+1:Nat):Int)/\((l.length+1:Nat):Int)<=1000000/\8<=100000000:=by omega
  rw[hWt,show ((a3p l).map fun w=>w.pv)=a6O l from rfl,Xw,show a0M.loops[0]?=sm a4F from rfl,Q0];simp only[a4F,↓reduceIte,a0e,a0h,a2v,a0s,Xs,Xt,Xq,PEnv.at,Q3,Q4,Q7,Q8,Q2,Q1,Q0,Q6,Q5,Xu,Xr,Xx,Qa,Q9,cn,p1,p2,q1,q2,a0I,hd,Xp k1,QU,d5n]
 | succ d ih =>
  intro i hi fuel;have hil:i<l.length:=by omega
  have hd:decide (i<l.length)=tt:=dT0 hil;have hx:=e1T hil;have h6:=a0V (off:=6) hP (a8n hx);have hup:=a2N (show i<=1000000000 by omega);have ih:=ih (i+1) (by omega) fuel
  have ht:((a3p l).take (i+1+1)).map (fun w=>w.pv)=((a3p l).take (i+1)).map (fun w=>w.pv)++[(chx l i).w.pv]:=by
   rw[QY];have:(a3p l)[i+1]?=sm (chx l i).w:=by simp[a3p,hx]
   rw[this];simp
  rw[ht,a1o] at ih;have rl:(((a3p l).take (i+1)).map (fun w=>w.pv)).length+1<=1000000:=by simp[b1i];omega
  rw[<- ih,show fuel+(d+1)+1=(fuel+d+1)+1 from rfl,Xw,show a0M.loops[0]?=sm a4F from rfl,Q0];generalize ((a3p l).take (i+1)).map (fun w=>w.pv)=L at *
  simp only[a4F,↓reduceIte,a0e,a0h,a0F,a2j,a0s,Xs,Xt,Xq,PEnv.at,Q3,Q4,Q7,Q8,a0H,a0x,a1g,Qg,Qd,Nat.reduceAdd,Qk,Q2,Qq,Qn,a0c,Q1,Q0,Xy,Q6,Q5,Xu,Xr,Xx,Qf,Qa,Q9,a1O,QC,QD,QE,QH,p1,p2,a0I,hd,le0,h6,a2T,c8z,a1x,XC,Qr,Xp d5w,Xp rl,Xp hup]
include hσ hP hok hl in
theorem e1m(hn2:1100000<=n):∃b,a0a Tab n 108 [P] σ=sm (.bool b,σ)/\(b=tt↔Pot l):=by
 obtain⟨n,rfl⟩:=a0L n (by omega);obtain⟨p1,p2,p3⟩:=a0b hP
 have hK:cnK l<=30752:=by
  unfold cnK;have:l.length*((l.length+1)*(l.length+3)+2)<=30*((30+1)*(30+3)+2):=Qz hl (Xe (Qz (by omega) (by omega)) 2);omega
 obtain⟨b,k1,k2,k3⟩:=f6V σ hσ l P hP hok hl n (by omega) (l.length+2) 0 (by omega) (Qh (l.length+1) 0) 0 (CG.start l hl);have hF:(l.length+2)*cnK l<=32*30752:=Qz (by omega) hK;have k0:=f6H σ l P hP hl n l.length 0 (by omega) (n-l.length-1);have k1:=k1 (n-l.length-1-(l.length+2)*cnK l-1);rw[show n-l.length-1-(l.length+2)*cnK l-1+(l.length+2)*cnK l+1=n-l.length-1 by omega] at k1;rw[show n-l.length-1+l.length+1=n by omega] at k0;refine⟨b,?_,⟨k2,fun hp=>?_⟩⟩
 ·simp only[a0a,c3t,Q0,XE]
  show ((a0i [.sh (.one _)] _).bind _)=_;simp only[a0i,a0m,a0c,Q1,Q0,Qb,XD,p3];show (Xz _ a9m _).bind _=_;simp only[a9m,a2j,a0s,Xq,Q7,Q8,Qg,Qd,Q1,Q0,Q6,Q5,Xu,Xr,Xx,Qa,Q9,a1O,QC,QD,QE,QH,Qr,Xp d5w];exact k0.trans k1
 ·cases b with
  | true=>rfl
  | false=>exact XJ hp (k3 (by omega) rfl)
end
def c9q(s:St)(i:Int)(l:List Ch)(x:Ch):Bool:=leB (c0G s.ps x.w) (d6J s i l)
section
variable (σ:List MO)(s:St)(hs:s.Ok)(i:Int)(l:List Ch)(L:PV)(hL:L.rowsOf 12=sm (l.map XF))(hl:l.length<=29)(x:Ch)(n:Nat)
include hs hL hl in
theorem e3O(hn:1300<=n):a0a Tab n 82 [.agg (b9L s i L),.agg x.row] σ=sm (.bool (c9q s i l x),σ):=by
 obtain⟨n,rfl⟩:=a0L n (by omega);obtain⟨p1,p2,p3⟩:=a0b hs.P;obtain⟨b1,b2,b3⟩:=a0b hs.B;obtain⟨l1,l2,l3⟩:=a0b hL;have c1:=d7y σ s hs i L l3 x n (by omega);have c2:=f2m σ s hs i l L hL (by omega) n (by omega);simp only[b9L,XK,a2T] at c1 c2;simp only[a0a,c5c,Q0,XE,b9L,a2T];show ((a0i [.sh (.agg [_,_,_,_,_,_]),.sh (.agg [_,_,_,_,_,_,_,_,_,_,_,_])] _).bind _)=_;simp only[a0i,a0m,a0c,Q1,Q0,Qb,Q5,Q6,XD,p3,b3,hs.C,hs.A,l3];show (Xz _ b0M _).bind _=_;simp only[b0M,↓reduceIte,a0j,a0A,Xs,Xt,Xq,Q3,Q4,Q7,Q8,Q2,a0c,a0w,a0m,Q1,Q0,Xy,Q6,Q5,Xu,Xr,c1,c2,a0n,Xv,c9q]
include hs hL hl in
theorem e9d(hσ:c0I σ)(hn:31000<=n):∃b,a0a Tab n 83 [.agg (b9L s i L),.agg x.row] σ=sm (.bool b,σ)/\(b=tt↔(∀y∈l++[x],y.ok)/\Pot (l++[x])):=by
 obtain⟨n,rfl⟩:=a0L n (by omega);obtain⟨p1,p2,p3⟩:=a0b hs.P;obtain⟨b1,b2,b3⟩:=a0b hs.B;obtain⟨l1,l2,l3⟩:=a0b hL;obtain⟨w1,w2,b,c1,o1,o2,hb⟩:=f2z σ hσ (l++[x]) (.sl 12 ((l++[x]).map XF)) (a1x _ _) (by simp;omega) n (by omega);refine⟨b,?_,hb⟩;have a2:(l++[x]).map XF=l.map XF++[x.row]:=by simp
 rw[a2] at c1;have r1:((1:Nat)≠0)/\(l.map XF).length+1<=1000000:=by simp;omega
 have one1:∀r:List PV,[r].length=1:=fun _=>rfl
 simp only[a2T] at c1;simp only[a0a,c3D,Q0,XE,b9L,a2T];show ((a0i [.sh (.agg [_,_,_,_,_,_]),.sh (.agg [_,_,_,_,_,_,_,_,_,_,_,_])] _).bind _)=_;simp only[a0i,a0m,a0c,Q1,Q0,Qb,Q5,Q6,XD,p3,b3,hs.C,hs.A,l3];generalize l.map XF=R at *
 have E:Xz (a0a Tab n) a6N {i:=[i,x.p.a,x.p.b,x.p.c,x.p.d,x.p.e,x.p.f,x.w.a,x.w.b,x.w.c,x.w.d,x.w.e,x.w.f],b:=[],v:=[s.P,s.B,s.C,s.A,L],m:=σ,k:=σ.length}=sm (.ret (.bool b) σ):=by
  simp only[a6N,↓reduceIte,a0h,b9W,Xs,Xt,PEnv.at,Q3,Q4,Q7,Q8,Q0,l2,hL]
  repeat' (first|with_reducible rfl|apply a4n|simp only[↓reduceIte,a0j,a2j,b5E,a0A,Xs,Xt,Xq,Q3,Q4,Q7,Q8,Qg,Qd,Q2,a0c,a0w,a0m,Q1,Q0,Xy,Q6,Q5,Qb,Xu,Xr,a1O,QC,QD,List.reverse_cons,QP,QE,QH,QP,a1x,hL,Qr,Xp d5w,Xp r1,a1J,c1,o1,o2,a0n,Xv]|unfold a8j|unfold b2z|unfold b2A|unfold b2r|unfold b2B)
 show ((Xz (a0a Tab n) a6N _).bind _)=_;exact(congrArg (Option.bind · _) E).trans rfl
end
theorem f2F(σ:List MO)(x:Ch)(n:Nat)(hn:1<=n):a0a Tab n 87 [.agg x.row] σ=sm (.bool (b5U x.w),σ):=by
 obtain⟨n,rfl⟩:=a0L n (by omega);simp only[a0a,d0K,Q0,XE,a2T];show ((a0i [.sh (.agg [_,_,_,_,_,_,_,_,_,_,_,_])] _).bind _)=_;simp only[a0i,a0m,a0c,Q1,Q0,Qb,XD];show (Xz _ b4H _).bind _=_;simp only[b4H,↓reduceIte,a0j,Xs,Xt,Xq,Q3,Q4,Q2,Q1,Q0,Xr,Qf,a0n,Xv,b5U]
def c0W(s:St)(rule i:Int)(l:List Ch)(x:Ch)(ag:Bool):Int :=
 if (eqB rule 1||(eqB rule 2||eqB rule 3))=tt then(if b9C s i=tt then(if eqB (a4o x.w) 0=tt then
  (if c5p l=tt then(if b5U x.w=tt then 0 else 15) else(if (if eqB rule 1=tt then c9q s i l x else if eqB rule 2=tt then ag else(c9q s i l x||ag))=tt then 0 else 15)) else a4o x.w) else 6) else 4
section
variable (σ:List MO)(s:St)(hs:s.Ok)(rule i:Int)(l:List Ch)(L:PV)(hL:L.rowsOf 12=sm (l.map XF))(hl:l.length<=29)(x:Ch)(n:Nat)(ag:Bool)
include hs hL hl in
theorem e9l(hn:1301<=n)(hag:∀m,n<=m+1->m<=n->a0a Tab m 83 [.agg (b9L s i L),.agg x.row] σ=sm (.bool ag,σ)):a0a Tab n 84 [.agg (b9L s i L),.agg x.row] σ=sm (.bool (c9q s i l x||ag),σ):=by
 obtain⟨n,rfl⟩:=a0L n (by omega);obtain⟨p1,p2,p3⟩:=a0b hs.P;obtain⟨b1,b2,b3⟩:=a0b hs.B;obtain⟨l1,l2,l3⟩:=a0b hL;have c1:=e3O σ s hs i l L hL hl x n (by omega);have c2:=hag n (by omega) (by omega);simp only[b9L,a2T] at c1 c2;simp only[a0a,c3K,Q0,XE,b9L,a2T];show ((a0i [.sh (.agg [_,_,_,_,_,_]),.sh (.agg [_,_,_,_,_,_,_,_,_,_,_,_])] _).bind _)=_;simp only[a0i,a0m,a0c,Q1,Q0,Qb,Q5,Q6,XD,p3,b3,hs.C,hs.A,l3];show (Xz _ a9F _).bind _=_;simp only[a9F,↓reduceIte,a0j,a0e,a0A,Xs,Xt,Xq,Q3,Q4,Q7,Q8,a0c,a0w,a0m,Q1,Q0,Xy,Q6,Q5,Xu,Xr,c1];cases c9q s i l x<;>simp only[↓reduceIte,Q3,Q2,a0c,Q1,Q0,c2,a0n,Xv,QQ,QK]
include hs hL hl in
theorem f0c(hn:1400<=n)(hag:∀m,n<=m+2->m<=n->a0a Tab m 83 [.agg (b9L s i L),.agg x.row] σ=sm (.bool ag,σ)):a0a Tab n 56 [.agg s.pv,.int .i64 rule,.int .i64 i,L,.agg x.row] σ=sm (.int .i64 (c0W s rule i l x ag),σ):=by
 obtain⟨n,rfl⟩:=a0L n (by omega);obtain⟨p1,p2,p3⟩:=a0b hs.P;obtain⟨b1,b2,b3⟩:=a0b hs.B;obtain⟨l1,l2,l3⟩:=a0b hL;have c1:=b9u σ s hs i n (by omega);have c2:=a5x σ x.w n (by omega);have c3:=d3Z σ l L hL (by omega) n (by omega);have c4:=f2F σ x n (by omega);have c5:=e3O σ s hs i l L hL hl x n (by omega);have c6:=hag n (by omega) (by omega);have c7:=e9l σ s hs i l L hL hl x n ag (by omega) (fun m h1 h2=>hag m (by omega) (by omega));simp only[b9L,XK,a2T,XC] at c1 c2 c3 c4 c5 c6 c7;simp only[a0a,d3O,Q0,XE,XK,a2T];show ((a0i [.sh (.agg [_,_,_,_]),.sh (.one _),.sh (.one _),.sh (.one _),.sh (.agg [_,_,_,_,_,_,_,_,_,_,_,_])] _).bind _)=_;simp only[a0i,a0m,a0c,Q1,Q0,Qb,Q5,Q6,XD,p3,b3,hs.C,hs.A,l3];show (Xz _ b8E _).bind _=_;simp only[b8E,↓reduceIte,a0j,a0e,a0A,Xs,Xt,Xq,Q3,Q4,Q7,Q8,a0w,a0m,Q1,Q0,Xy,Q6,Q5,Xu,Xr,];unfold c0W;generalize c9q s i l x=ft at *
 generalize b9C s i=hb at *
 generalize c5p l=ex at *
 generalize b5U x.w=em at *
 generalize a4o x.w=bc at *
 cases eqB rule 1 with
 | true =>
  cases hb with
  | false=>simp only[↓reduceIte,Q3,Q2,a0c,Q1,Q0,Qp,c1,a0n,Xv,QQ]
  | true =>
  simp only[↓reduceIte,Q3,Q4,Q2,a0c,Q1,Q0,Q6,Q5,Qb,Qm,c1,c2,QQ];cases hbc:eqB bc 0 with
  | false=>simp only[↓reduceIte,Q2,Q1,Q0,Qp,a0n,Xv]
  | true =>
  simp only[↓reduceIte,Q3,Q4,Q2,a0c,Q1,Q0,Q6,Q5,Qm,c3];cases ex with
  | true=>simp only[↓reduceIte,Q3,a0c,Q1,Q0,c4];cases em<;>simp only[↓reduceIte,Q2,Q1,Q0,Qm,Qp,a0n,Xv]
  | false =>
  simp only[↓reduceIte,Q3,Q2,a0c,Q1,Q0,c5];cases ft<;>simp only[↓reduceIte,Q2,Q1,Q0,Qm,Qp,a0n,Xv]
 | false =>
  cases eqB rule 2 with
  | true =>
   cases hb with
   | false=>simp only[↓reduceIte,Q3,Q2,a0c,Q1,Q0,Qp,c1,a0n,Xv,QQ,QK]
   | true =>
   simp only[↓reduceIte,Q3,Q4,Q2,a0c,Q1,Q0,Q6,Q5,Qb,Qm,c1,c2,QQ,QK];cases hbc:eqB bc 0 with
   | false=>simp only[↓reduceIte,Q2,Q1,Q0,Qp,a0n,Xv]
   | true =>
   simp only[↓reduceIte,Q3,Q4,Q2,a0c,Q1,Q0,Q6,Q5,Qm,c3];cases ex with
   | true=>simp only[↓reduceIte,Q3,a0c,Q1,Q0,c4];cases em<;>simp only[↓reduceIte,Q2,Q1,Q0,Qm,Qp,a0n,Xv]
   | false =>
   simp only[↓reduceIte,Q3,Q2,a0c,Q1,Q0,c6];cases ag<;>simp only[↓reduceIte,Q2,Q1,Q0,Qm,Qp,a0n,Xv]
  | false =>
   cases eqB rule 3 with
   | true =>
    cases hb with
    | false=>simp only[↓reduceIte,Q3,Q2,a0c,Q1,Q0,Qp,c1,a0n,Xv,QK]
    | true =>
    simp only[↓reduceIte,Q3,Q4,Q2,a0c,Q1,Q0,Q6,Q5,Qb,Qm,c1,c2,QK];cases hbc:eqB bc 0 with
    | false=>simp only[↓reduceIte,Q2,Q1,Q0,Qp,a0n,Xv]
    | true =>
    simp only[↓reduceIte,Q3,Q4,Q2,a0c,Q1,Q0,Q6,Q5,Qm,c3];cases ex with
    | true=>simp only[↓reduceIte,Q3,a0c,Q1,Q0,c4];cases em<;>simp only[↓reduceIte,Q2,Q1,Q0,Qm,Qp,a0n,Xv]
    | false =>
    simp only[↓reduceIte,Q3,Q2,a0c,Q1,Q0,c7];cases (ft||ag)<;>simp only[↓reduceIte,Q2,Q1,Q0,Qm,Qp,a0n,Xv]
   | false=>simp only[↓reduceIte,Q2,Q1,Q0,a0n,Xv,QK]
include hs hL hl in
theorem e5n(hn:1400<=n)(hag:x.w.ok->∀m,n<=m+2->m<=n->a0a Tab m 108 [.sl 12 ((l++[x]).map XF)] σ=sm (.bool ag,σ)):a0a Tab n 72 [.agg s.pv,.int .i64 rule,.int .i64 i,L,.agg x.row] σ=sm (.int .i64 (c0W s rule i l x ag),σ):=by
 obtain⟨n,rfl⟩:=a0L n (by omega);obtain⟨p1,p2,p3⟩:=a0b hs.P;obtain⟨b1,b2,b3⟩:=a0b hs.B;obtain⟨l1,l2,l3⟩:=a0b hL;have c1:=b0q σ s hs i n (by omega);have c2:=b7l σ x.w n (by omega);have c3:=c7l σ l L hL (by omega) n (by omega);have c4:=d7l σ s hs x.w n (by omega);have c5:=f0v σ s hs i l L hL (by omega) n (by omega);have c6:=fun h=>hag h n (by omega) (by omega)
 have a2:(l++[x]).map XF=l.map XF++[x.row]:=by simp
 rw[a2] at c6;have r1:(l.map XF).length<=1000000:=by simp;omega
 have r2:(l.map XF).length+1<=1000000:=by simp;omega
 have t5:(0:Nat)<=1000000:=by decide
 have hbw:eqB (a4o x.w) 0=tt->x.w.ok:=fun h=>by
  unfold a4o at h;by_cases hw:x.w.ok
  ·exact hw
  ·rw[XA hw] at h;cases h
 simp only[XK,a2T,XC] at c1 c2 c3 c4 c5 c6;simp only[a0a,c6T,Q0,XE,XK,a2T];show ((a0i [.sh (.agg [_,_,_,_]),.sh (.one _),.sh (.one _),.sh (.one _),.sh (.agg [_,_,_,_,_,_,_,_,_,_,_,_])] _).bind _)=_;simp only[a0i,a0m,a0c,Q1,Q0,Qb,Q5,Q6,XD,p3,b3,hs.C,hs.A,l3];generalize l.map XF=R at *
 have E:Xz (a0a Tab n) a8z {i:=[rule,i,x.p.a,x.p.b,x.p.c,x.p.d,x.p.e,x.p.f,x.w.a,x.w.b,x.w.c,x.w.d,x.w.e,x.w.f],b:=[],v:=[s.P,s.B,s.C,s.A,L],m:=σ,k:=σ.length}=sm (.ret (.int .i64 (c0W s rule i l x ag)) σ):=by
  simp only[a8z,↓reduceIte,a0j,a0e,a0A,Xs,Xt,Xq,Q3,Q4,Q7,Q8,a0w,a0m,Q1,Q0,Xy,Q6,Q5,Xu,Xr,Qf,];by_cases h1:rule<1
  ·have e1:ltB rule 1=tt:=a0U.2 h1
   have hv:c0W s rule i l x ag=4:=by
    unfold c0W;rw[show eqB rule 1=ff by rw[a9W];omega,show eqB rule 2=ff by rw[a9W];omega,show eqB rule 3=ff by rw[a9W];omega];rfl
   rw[hv];simp only[↓reduceIte,Q2,Q1,e1,a0n,Xv]
  by_cases h3:3<rule
  ·have e1:ltB rule 1=ff:=a0G.2 h1
   have e3:ltB 3 rule=tt:=a0U.2 h3
   have hv:c0W s rule i l x ag=4:=by
    unfold c0W;rw[show eqB rule 1=ff by rw[a9W];omega,show eqB rule 2=ff by rw[a9W];omega,show eqB rule 3=ff by rw[a9W];omega];rfl
   rw[hv];simp only[↓reduceIte,Q2,Q1,e1,e3,a0n,Xv]
  have e1:ltB rule 1=ff:=a0G.2 h1;have e3:ltB 3 rule=ff:=a0G.2 h3;simp only[↓reduceIte,Q2,e1,e3];have hemp:(eqB x.w.a 0&&(eqB x.w.b 0&&(eqB x.w.c 0&&(eqB x.w.d 0&&(eqB x.w.e 0&&eqB x.w.f 0)))))=b5U x.w:=rfl;have hfit:leB (c0G s.ps x.w) (d6J s i l)=c9q s i l x:=rfl;rw[hemp];unfold c0W;generalize b5U x.w=em at *
  generalize b9C s i=hb at *
  generalize c5p l=ex at *
  cases hb with
  | false =>
   have:(eqB rule 1||(eqB rule 2||eqB rule 3))=tt:=by simp only[Xn,a9e];omega
   rw[this];simp only[↓reduceIte,Q3,Q2,a0c,Q1,Q0,Qp,c1,a0n,Xv]
  | true =>
  have h123:(eqB rule 1||(eqB rule 2||eqB rule 3))=tt:=by simp only[Xn,a9e];omega
  rw[h123];simp only[↓reduceIte,Q3,Q4,Q2,a0c,Q1,Q0,Q6,Q5,Qb,Qm,c1,c2];cases hbc:eqB (a4o x.w) 0 with
  | false=>simp only[↓reduceIte,Q2,Q1,Qp,a0n,Xv]
  | true =>
  have c6:=c6 (hbw hbc);simp only[↓reduceIte,Q3,Q2,a0c,Q1,Q0,Q6,Q5,Qm,c3];cases ex with
  | true=>cases em<;>simp only[↓reduceIte,Q2,Q1,a0n,Xv]
  | false =>
  obtain rfl|rfl|rfl:rule=1\/rule=2\/rule=3:=by omega
  ·have f1:eqB 1 1=tt:=rfl
   have f2:eqB 1 2=ff:=rfl;rw[f1,f2];simp only[↓reduceIte,Q3,Q4,Q2,a0c,Q1,Q0,Q6,Q5,Qb,Qm,Qp,c4,c5,hfit];cases c9q s i l x<;>simp only[↓reduceIte,Q2,Q1,a0n,Xv]
  ·have f1:eqB 2 1=ff:=rfl
   have f2:eqB 2 2=tt:=rfl;rw[f1,f2];simp only[↓reduceIte,Q2,Qm,Qp,];cases ag
   all_goals
    repeat' (first|with_reducible rfl|apply a4n|simp only[↓reduceIte,a0j,a0e,a2j,a0A,Xs,Xt,Xq,Q3,Q4,Q7,Q8,Qe,Qg,Qd,Q2,a0c,a0w,a0m,Q1,Q0,Xy,Q6,Q5,Qb,Xu,Xr,a1O,QC,QD,QP,QE,QH,QP,a1x,hL,Qd,Qr,Xp t5,Xp d5w,Xp r1,Xp r2,Q5,c6,a0n,Xv]|unfold a9O|unfold a9Q|unfold a9B|unfold a9R|unfold a9V|unfold a9y|unfold a9M|unfold a9H)
  ·have f1:eqB 3 1=ff:=rfl
   have f2:eqB 3 2=ff:=rfl;rw[f1,f2];simp only[↓reduceIte,Q3,Q4,Q2,a0c,Q1,Q0,Q6,Q5,Qb,Qp,c4,c5,hfit];cases c9q s i l x with
   | true=>simp only[↓reduceIte,Q2,Q1,a0n,Xv,QQ]
   | false =>
    simp only[↓reduceIte,Q2,QK];cases ag
    all_goals
     repeat' (first|with_reducible rfl|apply a4n|simp only[↓reduceIte,a0j,a0e,a2j,a0A,Xs,Xt,Xq,Q3,Q4,Q7,Q8,Qe,Qg,Qd,Q2,a0c,a0w,a0m,Q1,Q0,Xy,Q6,Q5,Qb,Xu,Xr,a1O,QC,QD,QP,QE,QH,QP,a1x,hL,Qd,Qr,Xp t5,Xp d5w,Xp r1,Xp r2,Q5,c6,a0n,Xv]|unfold a9O|unfold a9Q|unfold a9B|unfold a9R|unfold a9V|unfold a9y|unfold a9M|unfold a9H)
 show ((Xz (a0a Tab n) a8z _).bind _)=_;exact(congrArg (Option.bind · _) E).trans rfl
end
open Go.ChangeShapes Go.WideShapes Go.ChangeAt Go.RowKit Go.Sx
theorem e3F:w0.ok:=by simp[w0,W6.ok]
end Go.Proofs.YtmekflfjaflmkaaGreat
