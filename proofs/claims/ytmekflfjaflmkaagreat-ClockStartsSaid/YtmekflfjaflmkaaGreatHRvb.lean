/- Units of a group in a bundle: the code's and the reference's. -/
import Derived.Test.YtmekflfjaflmkaaGreatHRva
import Derived.Test.YtmekflfjaflmkaaGreatHTxd
set_option linter.unusedSimpArgs false
set_option linter.unusedVariables false
open Option renaming bind_some → Q0, map_some → Q2, getD_some → QE, bind_eq_bind → QK, pure_def → QL, getD_none → X3
open Bool renaming false_eq_true → Q1, and_self → Qe, not_true → Qf, not_false → Qg, false_or → Qz, false_and → QA, true_and → QB, true_or → QD, not_eq_true → QQ
open List renaming getD_cons_zero → Q3, getD_cons_succ → Q4, nil_append → Q5, cons_append → Q6, getElem?_cons_zero → Q7, getElem?_cons_succ → Q8, length_cons → Q9, length_nil → Qa, map_nil → Qb, map_cons → Qd, append_nil → Qh, take_zero → Qj, take_succ_cons → Qk, replicate → Qm, length_map → Qp, getElem?_eq_some_iff → Qs, drop_zero → Qt, reverse_nil → Qu, range → Qv, mem_of_getElem? → Qy, mapM_cons → QH, mapM_nil → QJ, reverse_cons → QM, drop_length → QN, foldl_nil → QP, drop → QS, mem_range → QU, mem_map → QW, drop_eq_getElem_cons → X0, foldl_cons → X1, take_add_one → X2, append_assoc → X4, set_append_right → X5, take_left' → X6, range_succ → X8, replicate_succ' → X9, all_eq_true → Xa
open Nat renaming add_zero → Qn, le_refl → Qq, zero_add → Qr, mul_one → Qw, le_add_left → QC, zero_mul → QX, succ_mul → QY, mul_le_mul → QZ
open Int renaming toNat_natCast → QV, cast_ofNat_Int → X7
set_option maxRecDepth 100000
namespace Go.Proofs.YtmekflfjaflmkaaGreat
open Go.Sx
def un(g:Int)(x:Pr):Int:=if eqB x.g g=true then 1 else 0
theorem c9m(g:Int)(x:Pr):0<=un g x/\un g x<=1:=by unfold un;split<;>omega
def unV(l:List Pr)(g:Int)(w:W6):Int:=if eqB (a8a l) 0=true then(if eqB (a3e w) 0=true then ptS (un g) l w l.length else 0) else 0
theorem d3l(σ:List MO)(g:Int)(x:Pr)(n:Nat)(hn:1<=n):a0B Tab n a3L [.agg x.row,.ref σ.length 0] (σ++[.cells [.int .i64 g] 3])=some (.int .i64 (un g x),σ++[.cells [.int .i64 g] 3]):=by
 obtain⟨n,rfl⟩:∃k,n=k+1:=⟨n-1,by omega⟩;have g0:(σ++[MO.cells [.int .i64 g] 3])[σ.length]?=some (.cells [.int .i64 g] 3):=by simp
 simp only[a0B,b8K,Q0,Sys.run,a2m];show ((a0E [.sh (.agg [_,_,_,_,_]),.ptr] _).bind _)=_;simp only[a0E,a0x,a0w,Q2,Q0,Q5,Q6,if_true,a1H];show (PT.ev _ a8J _).bind _=_;simp only[a8J,↓reduceIte,a0t,a0r,a0k,BE.safe,BE.pe,IE.pe,Q3,Q4,Q7,Q8,a0y,a0A,a0e,a0z,Qn,Qt,Q9,Qa,Nat.reduceAdd,Qq,Q1,Qk,Qj,a0w,Q2,Q0,PEnv.push,Q6,Q5,SV.pv,g0,MO.list];unfold un;cases eqB x.g g<;>simp only[↓reduceIte,Q1,Q2,Q0,a0C,or_true,Q1]
def c9b(σ:List MO)(P F:PV)(is:List Int)(w:W6):PEnv:={i:=is++[w.a,w.b,w.c,w.d,w.e,w.f],b:=[],v:=[F,P],m:=σ,k:=σ.length}
theorem c8a(σ:List MO)(g:Int)(l:List Pr)(P:PV)(hP:P.rowsOf 5=some (l.map Pr.row))(w:W6)(hw:w.ok)(hl:l.length<=6)(n:Nat)(hn:1<=n):∀d i,i+d=l.length->∀fuel,
  d8Y.loop (a0B Tab n) (fuel+d+1) 0 (c9b (σ++[.cells [.int .i64 g] 3]) P (.fn a3L [.ref σ.length 0]) [ptS (un g) l w i,(l.length:Int),(i:Int)] w)=some (.int .i64 (ptS (un g) l w l.length),σ++[.cells [.int .i64 g] 3]):=by
 obtain⟨p1,p2,p3⟩:=a0D hP;rw[Qp] at p1;intro d
 induction d with
 | zero =>
  intro i hi fuel;rw[Qn] at hi;subst hi;have hd:decide (l.length<l.length)=false:=by simp
  rw[Sys.loop,show d8Y.loops[0]?=some a1J from rfl];simp only[Q0,c9b,a1J,↓reduceIte,a0t,a0r,BE.safe,BE.pe,IE.pe,Q3,Q4,Q1,Q2,Q0,Q6,Q5,SV.pv,a0G,hd,a0C,or_true]
 | succ d ih =>
  intro i hi fuel;have hlt:i<l.length:=by omega
  obtain⟨x,hx⟩:=a0P hlt;have hd:decide (i<l.length)=true:=dT0 hlt;have hq:=a0J (off:=0) hP (a1r hx);have hw1:=c0k hw i;have b1:=b6B (f:=un g) (l:=l) (b:=1) hw (by omega) (fun y hy=>c9m g y) i;have c1:=d3l σ g x n hn;have ih:=ih (i+1) (by omega) fuel;rw[a0T] at ih;have k1:ptS (un g) l w (i+1)=ptS (un g) l w i+a3T w i*un g x:=by simp only[ptS,b2P,hx,Q2,QE]
  have hu:=c9m g x;have hm:0<=a3T w i*un g x/\a3T w i*un g x<=4*1:=⟨Int.mul_nonneg hw1.1 hu.1,Int.mul_le_mul hw1.2 hu.2 hu.1 (by omega)⟩;rw[k1] at ih;generalize ptS (un g) l w i=s1 at *
  generalize un g x=ux at *
  have q1:=a0N (z:=a3T w i*ux) (by omega);have q2:=a0N (z:=s1+a3T w i*ux) (by omega);simp only[a3L,a2m] at c1;rw[<- ih,show fuel+(d+1)+1=(fuel+d+1)+1 from rfl,Sys.loop,show d8Y.loops[0]?=some a1J from rfl];simp only[Q0,c9b,a1J,↓reduceIte,a0r,a0h,a0k,a0g,a0m,BE.safe,BE.pe,IE.pe,PEnv.at,Q3,Q4,Q7,Q8,a0y,a0e,a0z,Qt,Q9,Qa,Nat.reduceAdd,Qq,Q1,Qk,Qj,a0w,a0p,a0x,Q2,Q0,PEnv.push,Q6,Q5,SV.pvs,SV.pv,BE.all,Qe,Qd,Qb,p1,a0G,hd,le0,hq,a2m,a1H,a3L,c1];obtain rfl|rfl|rfl|rfl|rfl|rfl:i=0\/i=1\/i=2\/i=3\/i=4\/i=5:=by omega
  all_goals
   simp only[a3T,wl,Q7,Q8,QE] at q1 q2 ⊢;have e5:∀a b:Int,eqB a b=decide (a=b):=fun _ _=>rfl
   simp only[↓reduceIte,Q1,Q0,e5,Int.reduceEq,X7,decide_true,decide_false,q1,q2,Int.reduceAdd]
theorem c9F(σ:List MO)(hlow:σ.all (MO.low σ.length)=true)(l:List Pr)(P:PV)(hP:P.rowsOf 5=some (l.map Pr.row))(g:Int)(w:W6)(n:Nat)(hn:100<=n):a0B Tab n b4v [P,.int .i64 g,.agg w.pv] σ=some (.int .i64 (unV l g w),σ):=by
 obtain⟨n,rfl⟩:∃k,n=k+1:=⟨n-1,by omega⟩;obtain⟨p1,p2,p3⟩:=a0D hP;rw[Qp] at p1
 have c0:a0B Tab n a5l [.agg [P,.int .i64 w.a,.int .i64 w.b,.int .i64 w.c,.int .i64 w.d,.int .i64 w.e,.int .i64 w.f],.fn a3L [.ref σ.length 0]] (σ++[.cells [.int .i64 g] 3])=some (.int .i64 (unV l g w),σ++[.cells [.int .i64 g] 3]):=by
  obtain⟨n,rfl⟩:∃k,n=k+1:=⟨n-1,by omega⟩;have c1:=b4J (σ++[.cells [.int .i64 g] 3]) l P hP n (by omega);have c2:=a2E (σ++[.cells [.int .i64 g] 3]) w n (by omega);simp only[a7z,a2T,W6.pv] at c1 c2;rw[a0B];simp only[a9H,Q0,Sys.run];show ((a0E [.sh (.agg [_,_,_,_,_,_,_]),.sh (.one _)] _).bind _)=_;simp only[a0E,a0x,a0w,Q2,Q0,Qh,Q5,Q6,if_true,p3,c6a];show (PT.ev _ a3Z _).bind _=_;simp only[a3Z,↓reduceIte,a0t,a0r,a0h,a0l,a0m,BE.safe,BE.pe,IE.pe,PEnv.at,Q3,Q4,Q7,Q8,a0w,a0p,a0x,Q2,Q0,PEnv.push,Q6,Q5,SV.pvs,SV.pv,BE.all,Qd,Qb,c1,unV];cases hc:eqB (a8a l) 0 with
  | false=>simp only[↓reduceIte,Q1,Q2,Q0,Qg,a0C,or_true]
  | true =>
   obtain⟨hl,hr⟩:=a5B (a7J.1 hc);simp only[↓reduceIte,Q3,Q1,a0w,Q2,Q0,Qf,c2];cases hb:eqB (a3e w) 0 with
   | false=>simp only[↓reduceIte,Q1,Q2,Q0,Qg,a0C,or_true]
   | true =>
    have hw:w.ok:=by
     by_cases hw:w.ok
     ·exact hw
     ·unfold a3e at hb;rw[if_neg hw] at hb;cases hb
    obtain⟨f,hf⟩:∃f,n=f+l.length+1:=⟨n-l.length-1,by omega⟩;have hu:=c8a σ g l P hP w hw hl n (by omega) l.length 0 (by omega) f;rw[<- hf] at hu;simp only[↓reduceIte,Q1,Q0,Qf,p1,p2];exact hu
 simp only[a5l] at c0;rw[a0B];simp only[c0I,Q0,Sys.run,W6.pv];show ((a0E [.sh (.one _),.sh (.one _),.sh (.agg [_,_,_,_,_,_])] _).bind _)=_;simp only[a0E,a0x,a0w,Q2,Q0,Qh,Q5,Q6,if_true,p3];show (PT.ev _ b0j _).bind _=_;simp only[a3L] at c0
 have hr:∀(is:List Int) (vs:List PV) (z:Int),a0C {i:=is,b:=[],v:=vs,m:=σ++[.cells [.int .i64 g] 3],k:=σ.length} false (.int .i64 z)=some (.int .i64 z,σ):=fun is vs z=>by
  unfold a0C;dsimp only;rw[if_neg (by simp),show List.take σ.length (σ++[MO.cells [.int .i64 g] 3])=σ from List.take_left,if_pos hlow];rfl
 have ho:PV.on 0 (.ref σ.length 0)=some (.ref σ.length 0):=rfl;simp only[b0j,↓reduceIte,a0t,a0l,a0j,IE.pe,Q3,Q4,Q7,Q8,a0w,a0p,a0x,Q2,Q0,PEnv.push,Q6,Q5,SV.pvs,SV.pv,ho,c0,hr]
def W6.put(w:W6)(i v:Int):W6:=if i=0 then {w with a:=v} else if i=1 then {w with b:=v} else if i=2 then {w with c:=v} else if i=3 then {w with d:=v} else if i=4 then {w with e:=v} else {w with f:=v}
def W6.at6(w:W6)(i:Int):Int:=if i=0 then w.a else if i=1 then w.b else if i=2 then w.c else if i=3 then w.d else if i=4 then w.e else w.f
def a3W(p:W6×W6)(t:Tri):W6×W6:=(p.1.put t.x (p.1.at6 t.x-t.z),p.2.put t.x t.y)
def W6.wide(w:W6)(m:Int):Prop:=-m<=w.a/\w.a<=4/\-m<=w.b/\w.b<=4/\-m<=w.c/\w.c<=4/\-m<=w.d/\w.d<=4/\-m<=w.e/\w.e<=4/\-m<=w.f/\w.f<=4
def Tri.aok(t:Tri):Prop:=0<=t.x/\t.x<=5/\1<=t.z/\t.z<=4
theorem a8e{x:Int}(h:0<=x/\x<=5):x=0\/x=1\/x=2\/x=3\/x=4\/x=5:=by omega
theorem c4J{o c:W6}{t:Tri}{m:Int}(h:o.wide m)(ht:t.aok)(hm:0<=m):(a3W (o,c) t).1.wide (m+4):=by
 obtain⟨x,y,z⟩:=t;obtain⟨a,b,cc,d,e,f⟩:=o;simp only[Tri.aok,W6.wide] at *
 rcases a8e ⟨ht.1,ht.2.1⟩ with rfl|rfl|rfl|rfl|rfl|rfl<;>simp[a3W,W6.put,W6.at6]<;>omega
def shF(ps:List Pr)(ad:List Tri):W6×W6:=ad.foldl a3W (a1w ps,⟨0,0,0,0,0,0⟩)
section
variable (σ:List MO)(ad:List Tri)(P B C A:PV)(hA:A.rowsOf 3=some (ad.map Tri.row))(n:Nat)
def c3K(σ:List MO)(P B C A:PV)(N i:Int)(o c:W6):PEnv:={i:=[N,i,o.a,o.b,o.c,o.d,o.e,o.f,c.a,c.b,c.c,c.d,c.e,c.f],b:=[],v:=[A,P,B,C],m:=σ,k:=σ.length}
def b4E(σ:List MO)(P B C A:PV)(_N i:Int)(o c:W6):PEnv:={i:=[i,o.a,o.b,o.c,o.d,o.e,o.f,c.a,c.b,c.c,c.d,c.e,c.f],b:=[],v:=[P,B,C,A],m:=σ,k:=σ.length}
include hA in
theorem d3V{i:Nat}{t:Tri}(hx:ad[i]?=some t)(ht:t.aok)(hi:i<=1000)(o c:W6)(ho:o.wide 1000)(fuel:Nat) :
  d9j.loop (a0B Tab n) (fuel+1) 0 (c3K σ P B C A (ad.length:Int) (i:Int) o c)=d9j.loop (a0B Tab n) fuel 0 (c3K σ P B C A (ad.length:Int) ((i:Int)+1) (a3W (o,c) t).1 (a3W (o,c) t).2):=by
 obtain⟨p1,p2,p3⟩:=a0D hA;rw[Qp] at p1;have hlt:i<ad.length:=(Qs.1 hx).1;have hd:decide (i<ad.length)=true:=dT0 hlt;have hq:=a0J (off:=0) hA (a3z hx);have hup:=a1M (show i<=1000000000 by omega);obtain⟨x,y,z⟩:=t;simp only[Tri.aok,W6.wide] at ht ho;have u1:=a0N (z:=o.a-z) (by omega);have u2:=a0N (z:=o.b-z) (by omega);have u3:=a0N (z:=o.c-z) (by omega);have u4:=a0N (z:=o.d-z) (by omega);have u5:=a0N (z:=o.e-z) (by omega);have u6:=a0N (z:=o.f-z) (by omega);have e5:∀a b:Int,eqB a b=decide (a=b):=fun _ _=>rfl
 rw[Sys.loop,show d9j.loops[0]?=some a5z from rfl];rcases a8e ⟨ht.1,ht.2.1⟩ with rfl|rfl|rfl|rfl|rfl|rfl
 all_goals
  simp only[Q0,c3K,a5z,↓reduceIte,a0r,a0h,a0k,a0m,BE.safe,BE.pe,IE.pe,PEnv.at,Q3,Q4,Q7,Q8,a0y,a0e,a0z,Qt,Q9,Qa,Nat.reduceAdd,Qq,Q1,Qk,Qj,a0w,Q2,Q0,PEnv.push,Q6,Q5,SV.pvs,SV.pv,BE.all,Qe,Qd,Qb,p1,a0G,hd,le0,hq,a4X,e5,Int.reduceEq,decide_true,decide_false,if_pos hup,if_pos u1,if_pos u2,if_pos u3,if_pos u4,if_pos u5,if_pos u6];rfl
include hA in
theorem d3L{i:Nat}{t:Tri}(hx:ad[i]?=some t)(ht:t.aok)(hi:i<=1000)(o c:W6)(ho:o.wide 1000)(fuel:Nat) :
  d8O.loop (a0B Tab n) (fuel+1) 1 (b4E σ P B C A (ad.length:Int) (i:Int) o c)=d8O.loop (a0B Tab n) fuel 1 (b4E σ P B C A (ad.length:Int) ((i:Int)+1) (a3W (o,c) t).1 (a3W (o,c) t).2):=by
 obtain⟨p1,p2,p3⟩:=a0D hA;rw[Qp] at p1;have hlt:i<ad.length:=(Qs.1 hx).1;have hd:decide (i<ad.length)=true:=dT0 hlt;have hq:=a0J (off:=0) hA (a3z hx);have hup:=a1M (show i<=1000000000 by omega);obtain⟨x,y,z⟩:=t;simp only[Tri.aok,W6.wide] at ht ho;have u1:=a0N (z:=o.a-z) (by omega);have u2:=a0N (z:=o.b-z) (by omega);have u3:=a0N (z:=o.c-z) (by omega);have u4:=a0N (z:=o.d-z) (by omega);have u5:=a0N (z:=o.e-z) (by omega);have u6:=a0N (z:=o.f-z) (by omega);have e5:∀a b:Int,eqB a b=decide (a=b):=fun _ _=>rfl
 rw[Sys.loop,show d8O.loops[1]?=some a3o from rfl];rcases a8e ⟨ht.1,ht.2.1⟩ with rfl|rfl|rfl|rfl|rfl|rfl
 all_goals
  simp only[Q0,b4E,a3o,↓reduceIte,a0r,a0h,a0k,a0m,BE.safe,BE.pe,IE.pe,PEnv.at,Q3,Q4,Q7,Q8,a0y,a0e,a0z,Qt,Q9,Qa,Nat.reduceAdd,Qq,Q1,Qk,Qj,a0w,Q2,Q0,PEnv.push,Q6,Q5,SV.pvs,SV.pv,BE.all,Qe,Qd,Qb,p1,p2,a0G,hd,le0,hq,a4X,e5,Int.reduceEq,decide_true,decide_false,if_pos hup,if_pos u1,if_pos u2,if_pos u3,if_pos u4,if_pos u5,if_pos u6];rfl
include hA in
theorem d4K(o c:W6)(fuel:Nat):d9j.loop (a0B Tab n) (fuel+1) 0 (c3K σ P B C A (ad.length:Int) (ad.length:Int) o c)=some (.tup [.agg o.pv,.agg c.pv],σ):=by
 obtain⟨p1,p2,p3⟩:=a0D hA;rw[Qp] at p1;have hd:decide (ad.length<ad.length)=false:=by simp
 rw[Sys.loop,show d9j.loops[0]?=some a5z from rfl];simp only[Q0,c3K,a5z,↓reduceIte,a0t,a0r,BE.safe,BE.pe,IE.pe,Q3,Q4,Q1,Q2,Q0,SV.pvs,SV.pv,a0G,hd,W6.pv,a0C,or_true]
include hA in
theorem d4l(o c:W6)(fuel:Nat):d8O.loop (a0B Tab n) (fuel+1) 1 (b4E σ P B C A (ad.length:Int) (ad.length:Int) o c)=some (.tup [.agg o.pv,.agg c.pv],σ):=by
 obtain⟨p1,p2,p3⟩:=a0D hA;rw[Qp] at p1;have hd:decide (ad.length<ad.length)=false:=by simp
 rw[Sys.loop,show d8O.loops[1]?=some a3o from rfl];simp only[Q0,b4E,a3o,↓reduceIte,a0t,a0r,a0h,BE.safe,BE.pe,IE.pe,PEnv.at,Q3,Q4,Q1,Q2,Q0,SV.pvs,SV.pv,p1,p2,a0G,hd,W6.pv,a0C,or_true]
include hA in
theorem d3H(hb:∀t∈ad,t.aok)(hl:ad.length<=6):∀d i,i+d=ad.length->∀(o c:W6),o.wide (4*i)->∀fuel,
  d9j.loop (a0B Tab n) (fuel+d+1) 0 (c3K σ P B C A (ad.length:Int) (i:Int) o c)=some (.tup [.agg ((ad.drop i).foldl a3W (o,c)).1.pv,.agg ((ad.drop i).foldl a3W (o,c)).2.pv],σ):=by
 obtain⟨p1,p2,p3⟩:=a0D hA;rw[Qp] at p1;intro d
 induction d with
 | zero =>
  intro i hi o c ho fuel;rw[Qn] at hi;subst hi;rw[QN,QP];exact d4K σ ad P B C A hA n o c _
 | succ d ih =>
  intro i hi o c ho fuel;have hlt:i<ad.length:=by omega
  obtain⟨t,hx⟩:=a0P hlt;have ht:=hb t (Qy hx);have hw:o.wide 1000:=by simp only[W6.wide] at ho ⊢;omega
  have hw2:=c4J (c:=c) ho ht (by omega);have ih:=ih (i+1) (by omega) (a3W (o,c) t).1 (a3W (o,c) t).2 (by rw[show (4:Int)*((i+1:Nat):Int)=4*(i:Int)+4 by omega];exact hw2) fuel;rw[a0T] at ih;rw[show fuel+(d+1)+1=(fuel+d+1)+1 from rfl,d3V σ ad P B C A hA n hx ht (by omega) o c hw,ih,show ad.drop i=t::ad.drop (i+1) from by rw[X0 hlt];congr 1;exact((Qs.1 hx).2).symm▸rfl,X1]
include hA in
theorem d3j(hb:∀t∈ad,t.aok)(hl:ad.length<=6):∀d i,i+d=ad.length->∀(o c:W6),o.wide (4*i)->∀fuel,
  d8O.loop (a0B Tab n) (fuel+d+1) 1 (b4E σ P B C A (ad.length:Int) (i:Int) o c)=some (.tup [.agg ((ad.drop i).foldl a3W (o,c)).1.pv,.agg ((ad.drop i).foldl a3W (o,c)).2.pv],σ):=by
 obtain⟨p1,p2,p3⟩:=a0D hA;rw[Qp] at p1;intro d
 induction d with
 | zero =>
  intro i hi o c ho fuel;rw[Qn] at hi;subst hi;rw[QN,QP];exact d4l σ ad P B C A hA n o c _
 | succ d ih =>
  intro i hi o c ho fuel;have hlt:i<ad.length:=by omega
  obtain⟨t,hx⟩:=a0P hlt;have ht:=hb t (Qy hx);have hw:o.wide 1000:=by simp only[W6.wide] at ho ⊢;omega
  have hw2:=c4J (c:=c) ho ht (by omega);have ih:=ih (i+1) (by omega) (a3W (o,c) t).1 (a3W (o,c) t).2 (by rw[show (4:Int)*((i+1:Nat):Int)=4*(i:Int)+4 by omega];exact hw2) fuel;rw[a0T] at ih;rw[show fuel+(d+1)+1=(fuel+d+1)+1 from rfl,d3L σ ad P B C A hA n hx ht (by omega) o c hw,ih,show ad.drop i=t::ad.drop (i+1) from by rw[X0 hlt];congr 1;exact((Qs.1 hx).2).symm▸rfl,X1]
end
theorem b1s{ps:List Pr}(hr:∀x∈ps,x.rng):(a1w ps).wide 0:=by
 have h:∀i:Nat,-(0:Int)<=((ps.map Pr.s)[i]?).getD 0/\((ps.map Pr.s)[i]?).getD 0<=4:=fun i=>by
  rw[List.getElem?_map];cases hx:ps[i]? with
  | none=>simp
  | some x =>
   have:=hr x (Qy hx);simp only[Pr.rng] at this;simp;omega
 exact⟨(h 0).1,(h 0).2,(h 1).1,(h 1).2,(h 2).1,(h 2).2,(h 3).1,(h 3).2,(h 4).1,(h 4).2,(h 5).1,(h 5).2⟩
theorem c8E{ps:List Pr}{ad:List Tri}(hl:ps.length<=6)(hr:∀x∈ps,x.rng)(h:asV ps ad=0):ad.length<=6/\∀t∈ad,t.aok:=by
 unfold asV at h;split at h
 ·cases h
 rename_i h6;rw[QQ,a0I] at h6;refine⟨by omega,fun t ht=>?_⟩;obtain⟨k,hk⟩:=List.getElem?_of_mem ht;have hb:=b6U _ _ h (by omega) k t (by omega) hk;unfold a1N at hb
 repeat' split at hb
 all_goals first|cases hb|skip
 rename_i a1 a2 a3 a4 a5 a6 _;rw[QQ] at a1 a2 a3 a4 a5 a6;rw[a0I] at a1 a3 a4 a5 a6;rw[a4u] at a2;refine⟨by omega,by omega,by omega,?_⟩;have hx:∃x,ps[t.x.toNat]?=some x:=a0P (by omega);obtain⟨x,hx⟩:=hx;have:=hr x (Qy hx);simp only[Pr.rng] at this;rw[hx] at a6;simp at a6;omega
section
variable (σ:List MO)(ps:List Pr)(bs:List Bd)(cs ad:List Tri)(P B C A:PV)(hP:P.rowsOf 5=some (ps.map Pr.row))(hB:B.rowsOf 4=some (bs.map Bd.row))(hC:C.rowsOf 3=some (cs.map Tri.row))(hA:A.rowsOf 3=some (ad.map Tri.row))(n:Nat)
include hP hB hC hA in
theorem c8G(hl:ps.length<=6)(hr:∀x∈ps,x.rng)(ha:asV ps ad=0)(hn:20<=n):a0B Tab n b5X [.agg [P,B,C,A]] σ=some (.tup [.agg (shF ps ad).1.pv,.agg (shF ps ad).2.pv],σ):=by
 obtain⟨n,rfl⟩:∃k,n=k+1:=⟨n-1,by omega⟩;obtain⟨p1,p2,p3⟩:=a0D hP;obtain⟨b1,b2,b3⟩:=a0D hB;obtain⟨c1,c2,c3⟩:=a0D hC;obtain⟨a1,a2,a3⟩:=a0D hA;rw[Qp] at a1;obtain⟨h6,hb⟩:=c8E hl hr ha;have k1:=b2f σ ps P hP hl n (by omega);obtain⟨f,hf⟩:∃f,n=f+ad.length+1:=⟨n-ad.length-1,by omega⟩;have k2:=d3H σ ad P B C A hA n hb h6 ad.length 0 (by omega) (a1w ps) ⟨0,0,0,0,0,0⟩ (by rw[show (4:Int)*((0:Nat):Int)=0 by rfl];exact b1s hr) f;rw[<- hf] at k2;simp only[a5h,W6.pv] at k1;rw[a0B];simp only[c1K,Q0,Sys.run];show ((a0E [.sh (.agg [_,_,_,_])] _).bind _)=_;simp only[a0E,a0x,a0w,Q2,Q0,Qh,if_true,p3,b3,c3,a3];show (PT.ev _ b0P _).bind _=_;simp only[b0P,a0h,a0l,a0m,BE.safe,BE.pe,IE.pe,PEnv.at,Q3,Q4,Q7,Q8,a0w,a0p,a0x,Q2,Q0,PEnv.push,Q6,Q5,SV.pvs,SV.pv,BE.all,Qd,Qb,k1,a1,a2];exact k2
def b9g(σ:List MO)(P B C A:PV)(i:Int)(o:W6):PEnv:={i:=[i,o.a,o.b,o.c,o.d,o.e,o.f],b:=[],v:=[P,B,C,A],m:=σ,k:=σ.length}
include hP hB hC hA in
theorem d2B(hv:a4E ps bs cs ad=0)(hl:ps.length<=6)(hr:∀x∈ps,x.rng)(ha:asV ps ad=0)(hn:1100<=n):a0B Tab n a9V [.agg [P,B,C,A]] σ=some (.tup [.agg (shF ps ad).1.pv,.agg (shF ps ad).2.pv],σ):=by
 obtain⟨n,rfl⟩:∃k,n=k+1:=⟨n-1,by omega⟩;have k0:=a9P σ ps bs cs ad P B C A hP hB hC hA n (by omega);obtain⟨p1,p2,p3⟩:=a0D hP;obtain⟨b1,b2,b3⟩:=a0D hB;obtain⟨c1,c2,c3⟩:=a0D hC;obtain⟨a1,a2,a3⟩:=a0D hA;rw[Qp] at a1 p1;obtain⟨h6,hb⟩:=c8E hl hr ha;rw[hv] at k0;simp only[a4x] at k0
 have step:∀(i:Nat) (x:Pr),ps[i]?=some x->∀fuel (w:W6),d8O.loop (a0B Tab n) (fuel+1) 0 (b9g σ P B C A (i:Int) w)=d8O.loop (a0B Tab n) fuel 0 (b9g σ P B C A ((i:Int)+1) (w.put (i:Int) x.s)):=by
  intro i x hx fuel w;have hlt:i<ps.length:=(Qs.1 hx).1;have hd:decide (i<ps.length)=true:=dT0 hlt;have h0:=a0J (off:=1) hP (a1r hx);have e5:∀a b:Int,eqB a b=decide (a=b):=fun _ _=>rfl
  rw[Sys.loop,show d8O.loops[0]?=some a3m from rfl];obtain⟨d1,d2,d3,d4⟩:=dr5 (.str x.nm) (.int .i64 x.s) (.int .i64 x.r) (.int .i64 x.p) (.int .i64 x.g);simp only[b9g];simp only[Q0,a3m,↓reduceIte,a0r,a0h,a0k,a0m,BE.safe,BE.pe,IE.pe,PEnv.at,Q3,Q4,Q7,Q8,a0y,a0e,a0z,Q9,Qa,Nat.reduceAdd,Q1,Qk,Qj,Q2,Q0,PEnv.push,Q6,Q5,SV.pvs,SV.pv,BE.all,Qe,Qd,Qb,p1,p2,a0G,hd,le0,h0,a2m,d1];obtain rfl|rfl|rfl|rfl|rfl|rfl:i=0\/i=1\/i=2\/i=3\/i=4\/i=5:=by omega
  all_goals rfl
 have fin:∀fuel (w:W6),d8O.loop (a0B Tab n) (fuel+1) 0 (b9g σ P B C A (ps.length:Int) w)=d8O.loop (a0B Tab n) fuel 1 (b4E σ P B C A (ad.length:Int) 0 w ⟨0,0,0,0,0,0⟩):=by
  intro fuel w;have hd:decide (ps.length<ps.length)=false:=by simp
  rw[Sys.loop,show d8O.loops[0]?=some a3m from rfl];simp only[b9g];simp only[Q0,a3m,↓reduceIte,a0r,a0h,a0m,BE.safe,BE.pe,IE.pe,PEnv.at,Q3,Q4,Q7,Q8,Q1,Q2,Q0,SV.pvs,SV.pv,BE.all,Qd,Qb,p1,p2,a0G,hd,b4E]
 have key:d8O.loop (a0B Tab n) n 0 (b9g σ P B C A 0 ⟨0,0,0,0,0,0⟩)=some (.tup [.agg (shF ps ad).1.pv,.agg (shF ps ad).2.pv],σ):=by
  have lp:∀fuel,10<=fuel->d8O.loop (a0B Tab n) fuel 1 (b4E σ P B C A (ad.length:Int) 0 (a1w ps) ⟨0,0,0,0,0,0⟩)=some (.tup [.agg (shF ps ad).1.pv,.agg (shF ps ad).2.pv],σ):=fun fuel hfu=>by
   obtain⟨f,rfl⟩:∃f,fuel=f+ad.length+1:=⟨fuel-ad.length-1,by omega⟩;exact d3j σ ad P B C A hA n hb h6 ad.length 0 (by omega) (a1w ps) ⟨0,0,0,0,0,0⟩ (by rw[show (4:Int)*((0:Nat):Int)=0 by rfl];exact b1s hr) f
  obtain⟨m,hm⟩:∃m,n=m+7:=⟨n-7,by omega⟩;have lp2:∀k,k<=6->d8O.loop (a0B Tab n) (m+k) 1 (b4E σ P B C A (ad.length:Int) 0 (a1w ps) ⟨0,0,0,0,0,0⟩)=some (.tup [.agg (shF ps ad).1.pv,.agg (shF ps ad).2.pv],σ):=fun k _=>lp _ (by omega)
  rw[show d8O.loop (a0B Tab n) n 0 (b9g σ P B C A 0 ⟨0,0,0,0,0,0⟩)=d8O.loop (a0B Tab n) (m+7) 0 (b9g σ P B C A 0 ⟨0,0,0,0,0,0⟩) by rw[<- hm]];clear hm lp;rcases ps with _|⟨a,_|⟨b,_|⟨c,_|⟨d,_|⟨e,_|⟨f,_|⟨z,r⟩⟩⟩⟩⟩⟩⟩
  ·exact(fin (m+6) _).trans (lp2 6 (by omega))
  ·exact(step 0 a rfl (m+6) _).trans ((fin (m+5) _).trans (lp2 5 (by omega)))
  ·exact(step 0 a rfl (m+6) _).trans ((step 1 b rfl (m+5) _).trans ((fin (m+4) _).trans (lp2 4 (by omega))))
  ·exact(step 0 a rfl (m+6) _).trans ((step 1 b rfl (m+5) _).trans ((step 2 c rfl (m+4) _).trans ((fin (m+3) _).trans (lp2 3 (by omega)))))
  ·exact(step 0 a rfl (m+6) _).trans ((step 1 b rfl (m+5) _).trans ((step 2 c rfl (m+4) _).trans ((step 3 d rfl (m+3) _).trans ((fin (m+2) _).trans (lp2 2 (by omega))))))
  ·exact(step 0 a rfl (m+6) _).trans ((step 1 b rfl (m+5) _).trans ((step 2 c rfl (m+4) _).trans ((step 3 d rfl (m+3) _).trans ((step 4 e rfl (m+2) _).trans ((fin (m+1) _).trans (lp2 1 (by omega)))))))
  ·exact(step 0 a rfl (m+6) _).trans ((step 1 b rfl (m+5) _).trans ((step 2 c rfl (m+4) _).trans ((step 3 d rfl (m+3) _).trans ((step 4 e rfl (m+2) _).trans ((step 5 f rfl (m+1) _).trans ((fin m _).trans (lp2 0 (by omega))))))))
  ·simp at hl
 rw[a0B];simp only[b5f,Q0,Sys.run];show ((a0E [.sh (.agg [_,_,_,_])] _).bind _)=_;simp only[a0E,a0x,a0w,Q2,Q0,Qh,if_true,p3,b3,c3,a3];show (PT.ev _ a6Q _).bind _=_;have e0:eqB 0 0=true:=rfl;simp only[a6Q,↓reduceIte,a0t,a0r,a0l,a0m,BE.safe,BE.pe,IE.pe,Q3,Q7,Q8,Q1,a0w,a0p,a0x,Q2,Q0,PEnv.push,Q6,Q5,SV.pvs,SV.pv,BE.all,Qf,Qd,Qb,k0,e0];exact key
end
def oc(c bc b:Int):Int:=if eqB c 0=true then 0 else if eqB c bc=true then 0 else b
def b2N(c:W6)(bc:Int)(b:W6):W6:=⟨oc c.a bc b.a,oc c.b bc b.b,oc c.c bc b.c,oc c.d bc b.d,oc c.e bc b.e,oc c.f bc b.f⟩
def W6.le(a b:W6):Prop:=a.a<=b.a/\a.b<=b.b/\a.c<=b.c/\a.d<=b.d/\a.e<=b.e/\a.f<=b.f
instance (a b:W6):Decidable (a.le b):=by unfold W6.le;infer_instance
theorem d6I(x y:Int):eqB (mnI x y) x=decide (x<=y):=by
 unfold eqB mnI;by_cases h:x<=y
 ·rw[if_neg (by omega),dT0 rfl,dT0 h]
 ·rw[if_pos (by omega),dF0 h];exact dF0 (by omega)
theorem d7j(a b c d e f:Prop) [Decidable a] [Decidable b] [Decidable c] [Decidable d] [Decidable e] [Decidable f] [Decidable (a/\b/\c/\d/\e/\f)]:(decide a&&(decide b&&(decide c&&(decide d&&(decide e&&decide f)))))=decide (a/\b/\c/\d/\e/\f):=by
 simp only[Bool.decide_and]
theorem c3l(σ:List MO)(a b:W6)(n:Nat)(hn:2<=n):a0B Tab n b0k [.agg a.pv,.agg b.pv] σ=some (.bool (decide (a.le b)),σ):=by
 obtain⟨n,rfl⟩:∃k,n=k+1+1:=⟨n-2,by omega⟩
 have k1:a0B Tab (n+1) b8q [.agg a.pv,.agg b.pv] σ=some (.agg [.int .i64 (mnI a.a b.a),.int .i64 (mnI a.b b.b),.int .i64 (mnI a.c b.c),.int .i64 (mnI a.d b.d),.int .i64 (mnI a.e b.e),.int .i64 (mnI a.f b.f)],σ):=by
  simp only[a0B,c3a,Q0,Sys.run,W6.pv];show ((a0E [.sh (.agg [_,_,_,_,_,_]),.sh (.agg [_,_,_,_,_,_])] _).bind _)=_;simp only[a0E,a0x,a0w,Q2,Q0,Qh,Q5,Q6,if_true];show (PT.ev _ b1H _).bind _=_;simp only[b1H,↓reduceIte,a0t,IE.pe,Q3,Q4,Q1,Q2,Q0,SV.pvs,SV.pv,a0C,or_true]
 simp only[b8q,W6.pv] at k1;rw[a0B];simp only[c0S,Q0,Sys.run,W6.pv];show ((a0E [.sh (.agg [_,_,_,_,_,_]),.sh (.agg [_,_,_,_,_,_])] _).bind _)=_;simp only[a0E,a0x,a0w,Q2,Q0,Qh,Q5,Q6,if_true];show (PT.ev _ a9M _).bind _=_;simp only[a9M,↓reduceIte,a0t,a0l,BE.safe,BE.pe,IE.pe,Q3,Q4,Q1,a0w,a0p,a0x,Q2,Q0,PEnv.push,Q6,Q5,SV.pvs,SV.pv,Qe,k1,d6I,a0C,or_true]
 congr 3
 rw[d7j];rfl
theorem bdr(a b c d:PV):QS 1 [a,b,c,d]=[b,c,d]/\QS 2 [a,b,c,d]=[c,d]/\QS 3 [a,b,c,d]=[d]:=⟨rfl,rfl,rfl⟩
section
variable (σ:List MO)(bs:List Bd)(P B C A:PV)(hB:B.rowsOf 4=some (bs.map Bd.row))(n:Nat)
def a5S(σ:List MO)(P B C A:PV)(i k:Int)(c b:W6):PEnv:={i:=[i,k,c.a,c.b,c.c,c.d,c.e,c.f,b.a,b.b,b.c,b.d,b.e,b.f],b:=[],v:=[P,B,C,A],m:=σ,k:=σ.length}
include hB in
theorem d1C{i:Nat}{y:Bd}(hy:bs[i]?=some y)(c b:W6)(fuel:Nat) :
  d8Q.loop (a0B Tab n) (fuel+1) 0 (a5S σ P B C A (i:Int) 0 c b)=d8Q.loop (a0B Tab n) fuel 0 (a5S σ P B C A (i:Int) 1 c {b with a:=oc c.a y.c b.a}):=by
 obtain⟨b1,b2,b3⟩:=a0D hB;rw[Qp] at b1;have hd:decide (i<bs.length)=true:=dT0 (Qs.1 hy).1;have h0:=a0J (off:=1) hB (a1Y hy);have e5:∀a b:Int,eqB a b=decide (a=b):=fun _ _=>rfl
 have e6:∀a b:Int,ltB a b=decide (a<b):=fun _ _=>rfl
 have hd':decide ((i:Int)<(bs.length:Int))=true:=dT0 (by have:=(Qs.1 hy).1;omega);obtain⟨d1,d2,d3⟩:=bdr (.str y.nm) (.int .i64 y.c) (.int .i64 y.b) (.int .i64 y.p);rw[Sys.loop,show d8Q.loops[0]?=some a1t from rfl];simp only[a5S,oc,e5];simp only[Q0,a1t,↓reduceIte,a0r,a0h,a0k,a0m,BE.safe,BE.pe,IE.pe,PEnv.at,Q3,Q4,Q7,Q8,a0y,a0e,a0z,Q9,Qa,Nat.reduceAdd,Q1,Q2,Q0,PEnv.push,Q6,Q5,SV.pvs,SV.pv,BE.all,Qe,Qd,Qb,e5,e6,Int.reduceEq,Int.reduceLT,decide_true,decide_false];cases decide (c.a=0) with
 | true=>simp only[↓reduceIte,Q0,]
 | false =>
  simp only[↓reduceIte,Q3,Q9,Qa,Nat.reduceAdd,Q1,Qk,Qj,a0w,Q2,Q0,Qe,b1,le0,hd',h0,a1X,d1,Nat.reduceLeDiff,Q1];cases decide (c.a=y.c)<;>simp only[↓reduceIte,Q1,Q0,Q1]
include hB in
theorem d1J{i:Nat}{y:Bd}(hy:bs[i]?=some y)(c b:W6)(fuel:Nat) :
  d8Q.loop (a0B Tab n) (fuel+1) 0 (a5S σ P B C A (i:Int) 1 c b)=d8Q.loop (a0B Tab n) fuel 0 (a5S σ P B C A (i:Int) 2 c {b with b:=oc c.b y.c b.b}):=by
 obtain⟨b1,b2,b3⟩:=a0D hB;rw[Qp] at b1;have hd:decide (i<bs.length)=true:=dT0 (Qs.1 hy).1;have h0:=a0J (off:=1) hB (a1Y hy);have e5:∀a b:Int,eqB a b=decide (a=b):=fun _ _=>rfl
 have e6:∀a b:Int,ltB a b=decide (a<b):=fun _ _=>rfl
 have hd':decide ((i:Int)<(bs.length:Int))=true:=dT0 (by have:=(Qs.1 hy).1;omega);obtain⟨d1,d2,d3⟩:=bdr (.str y.nm) (.int .i64 y.c) (.int .i64 y.b) (.int .i64 y.p);rw[Sys.loop,show d8Q.loops[0]?=some a1t from rfl];simp only[a5S,oc,e5];simp only[Q0,a1t,↓reduceIte,a0r,a0h,a0k,a0m,BE.safe,BE.pe,IE.pe,PEnv.at,Q3,Q4,Q7,Q8,a0y,a0e,a0z,Q9,Qa,Nat.reduceAdd,Q1,Q2,Q0,PEnv.push,Q6,Q5,SV.pvs,SV.pv,BE.all,Qe,Qd,Qb,e5,e6,Int.reduceEq,Int.reduceLT,decide_true,decide_false];cases decide (c.b=0) with
 | true=>simp only[↓reduceIte,Q0,]
 | false =>
  simp only[↓reduceIte,Q3,Q9,Qa,Nat.reduceAdd,Q1,Qk,Qj,a0w,Q2,Q0,Qe,b1,le0,hd',h0,a1X,d1,Nat.reduceLeDiff,Q1];cases decide (c.b=y.c)<;>simp only[↓reduceIte,Q1,Q0,Q1]
include hB in
theorem d1n{i:Nat}{y:Bd}(hy:bs[i]?=some y)(c b:W6)(fuel:Nat) :
  d8Q.loop (a0B Tab n) (fuel+1) 0 (a5S σ P B C A (i:Int) 2 c b)=d8Q.loop (a0B Tab n) fuel 0 (a5S σ P B C A (i:Int) 3 c {b with c:=oc c.c y.c b.c}):=by
 obtain⟨b1,b2,b3⟩:=a0D hB;rw[Qp] at b1;have hd:decide (i<bs.length)=true:=dT0 (Qs.1 hy).1;have h0:=a0J (off:=1) hB (a1Y hy);have e5:∀a b:Int,eqB a b=decide (a=b):=fun _ _=>rfl
 have e6:∀a b:Int,ltB a b=decide (a<b):=fun _ _=>rfl
 have hd':decide ((i:Int)<(bs.length:Int))=true:=dT0 (by have:=(Qs.1 hy).1;omega);obtain⟨d1,d2,d3⟩:=bdr (.str y.nm) (.int .i64 y.c) (.int .i64 y.b) (.int .i64 y.p);rw[Sys.loop,show d8Q.loops[0]?=some a1t from rfl];simp only[a5S,oc,e5];simp only[Q0,a1t,↓reduceIte,a0r,a0h,a0k,a0m,BE.safe,BE.pe,IE.pe,PEnv.at,Q3,Q4,Q7,Q8,a0y,a0e,a0z,Q9,Qa,Nat.reduceAdd,Q1,Q2,Q0,PEnv.push,Q6,Q5,SV.pvs,SV.pv,BE.all,Qe,Qd,Qb,e5,e6,Int.reduceEq,Int.reduceLT,decide_true,decide_false];cases decide (c.c=0) with
 | true=>simp only[↓reduceIte,Q0,]
 | false =>
  simp only[↓reduceIte,Q3,Q9,Qa,Nat.reduceAdd,Q1,Qk,Qj,a0w,Q2,Q0,Qe,b1,le0,hd',h0,a1X,d1,Nat.reduceLeDiff,Q1];cases decide (c.c=y.c)<;>simp only[↓reduceIte,Q1,Q0,Q1]
include hB in
theorem d1R{i:Nat}{y:Bd}(hy:bs[i]?=some y)(c b:W6)(fuel:Nat) :
  d8Q.loop (a0B Tab n) (fuel+1) 0 (a5S σ P B C A (i:Int) 3 c b)=d8Q.loop (a0B Tab n) fuel 0 (a5S σ P B C A (i:Int) 4 c {b with d:=oc c.d y.c b.d}):=by
 obtain⟨b1,b2,b3⟩:=a0D hB;rw[Qp] at b1;have hd:decide (i<bs.length)=true:=dT0 (Qs.1 hy).1;have h0:=a0J (off:=1) hB (a1Y hy);have e5:∀a b:Int,eqB a b=decide (a=b):=fun _ _=>rfl
 have e6:∀a b:Int,ltB a b=decide (a<b):=fun _ _=>rfl
 have hd':decide ((i:Int)<(bs.length:Int))=true:=dT0 (by have:=(Qs.1 hy).1;omega);obtain⟨d1,d2,d3⟩:=bdr (.str y.nm) (.int .i64 y.c) (.int .i64 y.b) (.int .i64 y.p);rw[Sys.loop,show d8Q.loops[0]?=some a1t from rfl];simp only[a5S,oc,e5];simp only[Q0,a1t,↓reduceIte,a0r,a0h,a0k,a0m,BE.safe,BE.pe,IE.pe,PEnv.at,Q3,Q4,Q7,Q8,a0y,a0e,a0z,Q9,Qa,Nat.reduceAdd,Q1,Q2,Q0,PEnv.push,Q6,Q5,SV.pvs,SV.pv,BE.all,Qe,Qd,Qb,e5,e6,Int.reduceEq,Int.reduceLT,decide_true,decide_false];cases decide (c.d=0) with
 | true=>simp only[↓reduceIte,Q0,]
 | false =>
  simp only[↓reduceIte,Q3,Q9,Qa,Nat.reduceAdd,Q1,Qk,Qj,a0w,Q2,Q0,Qe,b1,le0,hd',h0,a1X,d1,Nat.reduceLeDiff,Q1];cases decide (c.d=y.c)<;>simp only[↓reduceIte,Q1,Q0,Q1]
include hB in
theorem d1V{i:Nat}{y:Bd}(hy:bs[i]?=some y)(c b:W6)(fuel:Nat) :
  d8Q.loop (a0B Tab n) (fuel+1) 0 (a5S σ P B C A (i:Int) 4 c b)=d8Q.loop (a0B Tab n) fuel 0 (a5S σ P B C A (i:Int) 5 c {b with e:=oc c.e y.c b.e}):=by
 obtain⟨b1,b2,b3⟩:=a0D hB;rw[Qp] at b1;have hd:decide (i<bs.length)=true:=dT0 (Qs.1 hy).1;have h0:=a0J (off:=1) hB (a1Y hy);have e5:∀a b:Int,eqB a b=decide (a=b):=fun _ _=>rfl
 have e6:∀a b:Int,ltB a b=decide (a<b):=fun _ _=>rfl
 have hd':decide ((i:Int)<(bs.length:Int))=true:=dT0 (by have:=(Qs.1 hy).1;omega);obtain⟨d1,d2,d3⟩:=bdr (.str y.nm) (.int .i64 y.c) (.int .i64 y.b) (.int .i64 y.p);rw[Sys.loop,show d8Q.loops[0]?=some a1t from rfl];simp only[a5S,oc,e5];simp only[Q0,a1t,↓reduceIte,a0r,a0h,a0k,a0m,BE.safe,BE.pe,IE.pe,PEnv.at,Q3,Q4,Q7,Q8,a0y,a0e,a0z,Q9,Qa,Nat.reduceAdd,Q1,Q2,Q0,PEnv.push,Q6,Q5,SV.pvs,SV.pv,BE.all,Qe,Qd,Qb,e5,e6,Int.reduceEq,Int.reduceLT,decide_true,decide_false];cases decide (c.e=0) with
 | true=>simp only[↓reduceIte,Q0,]
 | false =>
  simp only[↓reduceIte,Q3,Q9,Qa,Nat.reduceAdd,Q1,Qk,Qj,a0w,Q2,Q0,Qe,b1,le0,hd',h0,a1X,d1,Nat.reduceLeDiff,Q1];cases decide (c.e=y.c)<;>simp only[↓reduceIte,Q1,Q0,Q1]
include hB in
theorem d1O{i:Nat}{y:Bd}(hy:bs[i]?=some y)(c b:W6)(fuel:Nat) :
  d8Q.loop (a0B Tab n) (fuel+1) 0 (a5S σ P B C A (i:Int) 5 c b)=d8Q.loop (a0B Tab n) fuel 0 (a5S σ P B C A (i:Int) 6 c {b with f:=oc c.f y.c b.f}):=by
 obtain⟨b1,b2,b3⟩:=a0D hB;rw[Qp] at b1;have hd:decide (i<bs.length)=true:=dT0 (Qs.1 hy).1;have h0:=a0J (off:=1) hB (a1Y hy);have e5:∀a b:Int,eqB a b=decide (a=b):=fun _ _=>rfl
 have e6:∀a b:Int,ltB a b=decide (a<b):=fun _ _=>rfl
 have hd':decide ((i:Int)<(bs.length:Int))=true:=dT0 (by have:=(Qs.1 hy).1;omega);obtain⟨d1,d2,d3⟩:=bdr (.str y.nm) (.int .i64 y.c) (.int .i64 y.b) (.int .i64 y.p);rw[Sys.loop,show d8Q.loops[0]?=some a1t from rfl];simp only[a5S,oc,e5];simp only[Q0,a1t,↓reduceIte,a0r,a0h,a0k,a0m,BE.safe,BE.pe,IE.pe,PEnv.at,Q3,Q4,Q7,Q8,a0y,a0e,a0z,Q9,Qa,Nat.reduceAdd,Q2,Q0,PEnv.push,Q6,Q5,SV.pvs,SV.pv,BE.all,Qe,Qd,Qb,e5,e6,Int.reduceLT,decide_true,];cases decide (c.f=0) with
 | true=>simp only[↓reduceIte,Q0,]
 | false =>
  simp only[↓reduceIte,Q3,Q9,Qa,Nat.reduceAdd,Q1,Qk,Qj,a0w,Q2,Q0,Qe,b1,le0,hd',h0,a1X,d1,Nat.reduceLeDiff,Q1];cases decide (c.f=y.c)<;>simp only[↓reduceIte,Q1,Q0,Q1]
include hB in
theorem c7f(hP:P.one=true)(hC:C.one=true)(hA:A.one=true){i:Nat}{y:Bd}(hy:bs[i]?=some y)(c b:W6)(hn:10<=n):a0B Tab n b4k [.agg [P,B,C,A],.agg c.pv,.int .i64 (i:Int),.agg b.pv] σ=some (.agg (b2N c y.c b).pv,σ):=by
 obtain⟨n,rfl⟩:∃k,n=k+8:=⟨n-8,by omega⟩;obtain⟨b1,b2,b3⟩:=a0D hB
 have fin:∀(w:W6) fuel,d8Q.loop (a0B Tab (n+7)) (fuel+1) 0 (a5S σ P B C A (i:Int) 6 c w)=some (.agg w.pv,σ):=fun w fuel=>by
  have e6:ltB 6 6=false:=rfl;rw[Sys.loop,show d8Q.loops[0]?=some a1t from rfl];simp only[Q0,a5S,a1t,↓reduceIte,a0t,a0r,BE.safe,BE.pe,IE.pe,Q3,Q4,Q1,Q2,Q0,SV.pvs,SV.pv,e6,W6.pv,a0C,or_true]
 have key:d8Q.loop (a0B Tab (n+7)) (n+7) 0 (a5S σ P B C A (i:Int) 0 c b)=some (.agg (b2N c y.c b).pv,σ):=by
  rw[d1C σ bs P B C A hB _ hy c _ (n+6),d1J σ bs P B C A hB _ hy c _ (n+5),d1n σ bs P B C A hB _ hy c _ (n+4),d1R σ bs P B C A hB _ hy c _ (n+3),d1V σ bs P B C A hB _ hy c _ (n+2),d1O σ bs P B C A hB _ hy c _ (n+1)];exact fin _ n
 rw[a0B];simp only[c0L,Q0,Sys.run,W6.pv];show ((a0E [.sh (.agg [_,_,_,_]),.sh (.agg [_,_,_,_,_,_]),.sh (.one _),.sh (.agg [_,_,_,_,_,_])] _).bind _)=_;simp only[a0E,a0x,a0w,Q2,Q0,Qh,Q5,Q6,if_true,hP,b3,hC,hA];show (PT.ev _ b0q _).bind _=_;simp only[b0q,a0m,IE.pe,Q3,Q4,Q7,Q8,Q2,Q0,SV.pvs,SV.pv,BE.all,Qd,Qb];exact key
end
theorem c7j(σ:List MO)(l:List Pr)(P:PV)(hP:P.rowsOf 5=some (l.map Pr.row))(hl:l.length<=6)(n:Nat)(hn:10<=n):a0B Tab n a9a [P] σ=some (.agg (a1w l).pv,σ):=by
 obtain⟨n,rfl⟩:∃k,n=k+1:=⟨n-1,by omega⟩;obtain⟨p1,p2,p3⟩:=a0D hP;rw[Qp] at p1;have hq:∀(i:Nat) (x:Pr),l[i]?=some x->a1D (i:Int) 5 1 P=some (.row x.row 1):=fun i x h=>a0J (off:=1) hP (a1r h)
 have e6:∀a b:Int,ltB a b=decide (a<b):=fun _ _=>rfl
 have d1:∀a b c d e:PV,QS 1 [a,b,c,d,e]=[b,c,d,e]:=fun _ _ _ _ _=>rfl
 rw[a0B];simp only[b3f,Q0,Sys.run];show ((a0E [.sh (.one _)] _).bind _)=_;simp only[a0E,a0x,a0w,Q2,Q0,Qh,if_true,p3];show (PT.ev _ a5W _).bind _=_;rcases l with _|⟨a,_|⟨b,_|⟨c,_|⟨d,_|⟨e,_|⟨f,_|⟨z,r⟩⟩⟩⟩⟩⟩⟩
 case cons.cons.cons.cons.cons.cons.cons=>simp at hl
 all_goals
  first|have h0:=hq 0 _ rfl|have h0:=p3
  first|have h1:=hq 1 _ rfl|have h1:=p3
  first|have h2:=hq 2 _ rfl|have h2:=p3
  first|have h3:=hq 3 _ rfl|have h3:=p3
  first|have h4:=hq 4 _ rfl|have h4:=p3
  first|have h5:=hq 5 _ rfl|have h5:=p3
  simp only[Q9,Qa,Qr,Nat.reduceAdd,X7] at *
  simp only[a5W,a0t,a0r,a0h,a0k,BE.safe,BE.pe,IE.pe,PEnv.at,Q3,Q4,Q7,a0y,a0e,a0z,Q9,Qa,Nat.reduceAdd,Q1,Qk,Qj,a0w,Q2,Q0,PEnv.push,Q6,Q5,SV.pvs,SV.pv,p1,p2,e6,Int.reduceLT,decide_true,decide_false,h0,h1,h2,h3,h4,h5,a2m,d1,Nat.reduceLeDiff,a0C,or_true];rfl
theorem c7B{α:Type}{l:List α}{k:Nat}{x:α}(h:l[k]?=some x):l.drop k=x::l.drop (k+1):=by
 obtain⟨h1,h2⟩:=Qs.1 h;rw[X0 h1,h2]
section
variable (σ:List MO)(l:List Pr)(P:PV)(hP:P.rowsOf 5=some (l.map Pr.row))(n:Nat)(w:W6)
include hP in
theorem d3U(hw:w.ok)(g:Int)(hl:l.length<=6)(hr:∀x∈l,x.rng):∀d i,i+d=l.length->∀fuel,1+d*6<=fuel ->
  d8G.loop (a0B Tab n) fuel 0 (a4f σ P [g,ptS Pr.p l w i,ptS Pr.r l w i,ptS (un g) l w i,(i:Int)] w)=some (.tup [.int .i64 (ptS Pr.p l w l.length),.int .i64 (ptS Pr.r l w l.length),.int .i64 (ptS (un g) l w l.length)],σ):=by
 obtain⟨p1,p2,p3⟩:=a0D hP;rw[Qp] at p1;intro d
 induction d with
 | zero =>
  intro i hi fuel hf;rw[Qn] at hi;subst hi;obtain⟨fuel,rfl⟩:∃k,fuel=k+1:=⟨fuel-1,by omega⟩;have hd:decide (l.length<l.length)=false:=by simp
  rw[Sys.loop,show d8G.loops[0]?=some a3j from rfl];simp only[Q0,a4f,a3j,↓reduceIte,a0t,a0r,a0h,BE.safe,BE.pe,IE.pe,PEnv.at,Q3,Q4,Q1,Q2,Q0,Q6,Q5,SV.pvs,SV.pv,p1,p2,a0G,hd,a0C,or_true]
 | succ d ih =>
  intro i hi fuel hf;have hlt:i<l.length:=by omega
  obtain⟨x,hx⟩:=a0P hlt;have hd:decide (i<l.length)=true:=dT0 hlt;have hxr:=hr x (Qy hx);have hw1:=c0k hw i;have hxr':=hxr;simp only[Pr.rng] at hxr';have b1:=b6B (f:=Pr.p) (b:=1000) hw (by omega) (fun y hy=>by have:=hr y hy;simp only[Pr.rng] at this;omega) i;have b2:=b6B (f:=Pr.r) (b:=1000000) hw (by omega) (fun y hy=>by have:=hr y hy;simp only[Pr.rng] at this;omega) i;have b3:=b6B (f:=un g) (l:=l) (b:=1) hw (by omega) (fun y hy=>c9m g y) i;obtain⟨m,hm⟩:∃m:Nat,(m:Int)=a3T w i:=⟨(a3T w i).toNat,by omega⟩;have hu:=ih (i+1) (by omega);obtain⟨fuel,rfl⟩:∃k,fuel=(k+m+1)+1:=⟨fuel-m-2,by omega⟩;have hu:=hu fuel (by omega);have k1:ptS Pr.p l w (i+1)=ptS Pr.p l w i+m*x.p:=by simp only[ptS,b2P,hx,Q2,QE,hm]
  have k2:ptS Pr.r l w (i+1)=ptS Pr.r l w i+m*x.r:=by simp only[ptS,b2P,hx,Q2,QE,hm]
  have k3:ptS (un g) l w (i+1)=if eqB x.g g=true then ptS (un g) l w i+m else ptS (un g) l w i:=by
   simp only[ptS,b2P,hx,Q2,QE,<- hm,un];split<;>omega
  rw[k1,k2,k3,a0T] at hu;rw[<- hu,Sys.loop,show d8G.loops[0]?=some a3j from rfl];simp only[Q0,a4f,a3j,↓reduceIte,a0r,a0h,a0m,BE.safe,BE.pe,IE.pe,PEnv.at,Q3,Q4,Q7,Q2,Q0,Q6,Q5,SV.pvs,SV.pv,BE.all,Qd,Qb,p1,p2,a0G,hd];clear hu ih k1 k2 k3;generalize ptS Pr.p l w i=s1 at *
  generalize ptS Pr.r l w i=s2 at *
  generalize ptS (un g) l w i=u at *
  obtain rfl|rfl|rfl|rfl|rfl|rfl:i=0\/i=1\/i=2\/i=3\/i=4\/i=5:=by omega
  ·exact d4M σ l P hP n w g x hx hxr m 0 (by rw[hm];simp[a3T,wl]) (by omega) fuel s1 s2 u (by omega) (by omega) (by omega) (by omega) (by omega) (by omega)
  ·exact d4O σ l P hP n w g x hx hxr m 0 (by rw[hm];simp[a3T,wl]) (by omega) fuel s1 s2 u (by omega) (by omega) (by omega) (by omega) (by omega) (by omega)
  ·exact d4k σ l P hP n w g x hx hxr m 0 (by rw[hm];simp[a3T,wl]) (by omega) fuel s1 s2 u (by omega) (by omega) (by omega) (by omega) (by omega) (by omega)
  ·exact d4n σ l P hP n w g x hx hxr m 0 (by rw[hm];simp[a3T,wl]) (by omega) fuel s1 s2 u (by omega) (by omega) (by omega) (by omega) (by omega) (by omega)
  ·exact d4I σ l P hP n w g x hx hxr m 0 (by rw[hm];simp[a3T,wl]) (by omega) fuel s1 s2 u (by omega) (by omega) (by omega) (by omega) (by omega) (by omega)
  ·exact d4y σ l P hP n w g x hx hxr m 0 (by rw[hm];simp[a3T,wl]) (by omega) fuel s1 s2 u (by omega) (by omega) (by omega) (by omega) (by omega) (by omega)
include hP in
theorem d1c(g:Int)(hn:100<=n):∃y z:Int,a0B Tab n a9N [P,.int .i64 g,.agg w.pv] σ=some (.tup [.int .i64 y,.int .i64 z,.int .i64 (unV l g w)],σ):=by
 obtain⟨n,rfl⟩:∃k,n=k+1:=⟨n-1,by omega⟩;obtain⟨p1,p2,p3⟩:=a0D hP;have c1:=b9Y σ l P hP n (by omega);have c2:=b9r σ w n (by omega);simp only[a6q,a6e,W6.pv] at c1 c2;simp only[a0B,b5e,Q0,Sys.run,W6.pv];show ∃y z:Int,((a0E [.sh (.one _),.sh (.one _),.sh (.agg [_,_,_,_,_,_])] _).bind _)=_;simp only[a0E,a0x,a0w,Q2,Q0,Qh,Q5,Q6,if_true,p3];show ∃y z:Int,(PT.ev _ a6B _).bind _=_;simp only[a6B,↓reduceIte,a0t,a0r,a0l,a0m,BE.safe,BE.pe,IE.pe,Q3,Q4,Q7,a0w,a0p,a0x,Q2,Q0,PEnv.push,Q6,Q5,SV.pvs,SV.pv,BE.all,Qd,Qb,c1,unV];cases hc:eqB (a8a l) 0 with
 | false=>refine⟨0,0,?_⟩;simp only[↓reduceIte,Q1,Q2,Q0,Qg,a0C,or_true]
 | true =>
  obtain⟨hl,hr⟩:=a5B (a7J.1 hc);by_cases hw:w.ok
  ·have hb:eqB (a3e w) 0=true:=by unfold a3e;rw[if_pos hw];rfl
   have hu:=d3U σ l P hP n w hw g hl hr l.length 0 (by omega) n (by omega);refine⟨ptS Pr.p l w l.length,ptS Pr.r l w l.length,?_⟩;rw[dT0 hw] at c2;simp only[↓reduceIte,Q3,Q1,a0w,Q2,Q0,Qf,c2,hb];exact hu
  ·have hb:eqB (a3e w) 0=false:=by unfold a3e;rw[if_neg hw];rfl
   refine⟨0,0,?_⟩;rw[dF0 hw] at c2;simp only[↓reduceIte,Q3,Q1,a0w,Q2,Q0,Qf,Qg,c2,hb,a0C,or_true]
end
def b3y(ps:List Pr)(i:Int)(b:W6)(c:Tri):Bool:=(eqB c.x (-1)||eqB c.x i)&&ltB c.z (unV ps c.y b)
def a7x(ps:List Pr)(i:Int)(b:W6)(l:List Tri):Int:=if l.any (b3y ps i b)=true then 14 else 0
theorem b4o{ps:List Pr}{i:Int}{b:W6}{c:Tri}{l:List Tri}(h:b3y ps i b c=true):a7x ps i b (c::l)=14:=by simp[a7x,h]
theorem a9D{ps:List Pr}{i:Int}{b:W6}{c:Tri}{l:List Tri}(h:b3y ps i b c=false):a7x ps i b (c::l)=a7x ps i b l:=by simp[a7x,h]
section
variable (σ:List MO)(ps:List Pr)(cs:List Tri)(P B C A:PV)(hP:P.rowsOf 5=some (ps.map Pr.row))(hC:C.rowsOf 3=some (cs.map Tri.row))(n:Nat)(hcl:cs.length<=16)
def c5v(σ:List MO)(P B C A:PV)(i N k:Int)(b:W6):PEnv:={i:=[i,N,k,b.a,b.b,b.c,b.d,b.e,b.f],b:=[],v:=[C,P,B,A],m:=σ,k:=σ.length}
def c2H(σ:List MO)(P B C A:PV)(i _N k:Int)(b:W6):PEnv:={i:=[i,k,b.a,b.b,b.c,b.d,b.e,b.f],b:=[],v:=[P,B,C,A],m:=σ,k:=σ.length}
include hP hC hcl in
theorem d2j(hlow:σ.all (MO.low σ.length)=true)(i:Int)(b:W6)(hn:100<=n):∀d k,k+d=cs.length->∀fuel,d9y.loop (a0B Tab n) (fuel+d+1) 0 (c5v σ P B C A i (cs.length:Int) (k:Int) b)=some (.int .i64 (a7x ps i b (cs.drop k)),σ):=by
 obtain⟨p1,p2,p3⟩:=a0D hC;rw[Qp] at p1;intro d
 induction d with
 | zero =>
  intro k hk fuel;rw[Qn] at hk;subst hk;have hd:decide (cs.length<cs.length)=false:=by simp
  rw[Sys.loop,show d9y.loops[0]?=some a5d from rfl,QN];simp only[Q0,c5v,a5d,↓reduceIte,a0t,a0r,BE.safe,BE.pe,IE.pe,Q3,Q4,Q1,Q2,Q0,SV.pv,a0G,hd,a0C,or_true];rfl
 | succ d ih =>
  intro k hk fuel;have hlt:k<cs.length:=by omega
  obtain⟨c,hx⟩:=a0P hlt;have hd:decide (k<cs.length)=true:=dT0 hlt;have hq:=a0J (off:=0) hC (a3z hx);have hup:=a1M (show k<=1000000000 by omega);have ih:=ih (k+1) (by omega) fuel;rw[a0T] at ih;have k1:=c9F σ hlow ps P hP c.y b n hn;simp only[b4v,W6.pv] at k1;have hdr:=c7B hx;rw[hdr,show fuel+(d+1)+1=(fuel+d+1)+1 from rfl,Sys.loop,show d9y.loops[0]?=some a5d from rfl];have hh:b3y ps i b c=((eqB c.x (-1)||eqB c.x i)&&ltB c.z (unV ps c.y b)):=rfl;simp only[c5v] at ih ⊢;simp only[Q0,a5d,↓reduceIte,a0t,a0r,a0h,a0k,a0l,a0m,BE.safe,BE.pe,IE.pe,PEnv.at,Q3,Q4,Q7,Q8,a0y,a0e,a0z,Qt,Q9,Qa,Nat.reduceAdd,Qq,Q1,Qk,Qj,a0w,a0p,a0x,Q2,Q0,PEnv.push,Q6,Q5,SV.pvs,SV.pv,BE.all,Qe,Qd,Qb,p1,a0G,hd,le0,hq,a4X];cases e1:eqB c.x (-1) with
  | true =>
   simp only[↓reduceIte,Q3,a0w,Q2,Q0,k1];cases e2:ltB c.z (unV ps c.y b) with
   | true=>rw[b4o (by rw[hh,e1,e2];rfl)];simp only[↓reduceIte,Q1,Q2,Q0,a0C,or_true]
   | false=>rw[a9D (by rw[hh,e1,e2];rfl)];simp only[↓reduceIte,Q1,Q0,if_pos hup];exact ih
  | false =>
   simp only[↓reduceIte,Q1,];cases e3:eqB c.x i with
   | true =>
    simp only[↓reduceIte,Q3,a0w,Q2,Q0,k1];cases e2:ltB c.z (unV ps c.y b) with
    | true=>rw[b4o (by rw[hh,e1,e2,e3];rfl)];simp only[↓reduceIte,Q1,Q2,Q0,a0C,or_true]
    | false=>rw[a9D (by rw[hh,e1,e2,e3];rfl)];simp only[↓reduceIte,Q1,Q0,if_pos hup];exact ih
   | false=>rw[a9D (by rw[hh,e1,e3];rfl)];simp only[↓reduceIte,Q1,Q0,if_pos hup];exact ih
include hP hC hcl in
theorem d1x(i:Int)(b:W6)(hn:100<=n):∀d k,k+d=cs.length->∀fuel,d8F.loop (a0B Tab n) (fuel+d+1) 1 (c2H σ P B C A i (cs.length:Int) (k:Int) b)=some (.int .i64 (a7x ps i b (cs.drop k)),σ):=by
 obtain⟨p1,p2,p3⟩:=a0D hC;rw[Qp] at p1;intro d
 induction d with
 | zero =>
  intro k hk fuel;rw[Qn] at hk;subst hk;have hd:decide (cs.length<cs.length)=false:=by simp
  rw[Sys.loop,show d8F.loops[1]?=some a2M from rfl,QN];simp only[Q0,c2H,a2M,↓reduceIte,a0t,a0r,a0h,BE.safe,BE.pe,IE.pe,PEnv.at,Q3,Q4,Q1,Q2,Q0,SV.pv,p1,p2,a0G,hd,a0C,or_true];rfl
 | succ d ih =>
  intro k hk fuel;have hlt:k<cs.length:=by omega
  obtain⟨c,hx⟩:=a0P hlt;have hd:decide (k<cs.length)=true:=dT0 hlt;have hq:=a0J (off:=0) hC (a3z hx);have hup:=a1M (show k<=1000000000 by omega);have ih:=ih (k+1) (by omega) fuel;rw[a0T] at ih;obtain⟨y,z,k1⟩:=d1c σ ps P hP n b c.y hn;simp only[a9N,W6.pv] at k1;have hdr:=c7B hx;rw[hdr,show fuel+(d+1)+1=(fuel+d+1)+1 from rfl,Sys.loop,show d8F.loops[1]?=some a2M from rfl];have hh:b3y ps i b c=((eqB c.x (-1)||eqB c.x i)&&ltB c.z (unV ps c.y b)):=rfl;simp only[c2H] at ih ⊢;simp only[Q0,a2M,↓reduceIte,a0t,a0r,a0h,a0k,a0l,a0m,BE.safe,BE.pe,IE.pe,PEnv.at,Q3,Q4,Q7,Q8,a0y,a0e,a0z,Qt,Q9,Qa,Nat.reduceAdd,Qq,Q1,Qk,Qj,a0w,a0p,a0x,Q2,Q0,PEnv.push,Q6,Q5,Qh,SV.pvs,SV.pv,BE.all,Qe,Qd,Qb,p1,p2,a0G,hd,le0,hq,a4X,k1,a0U];cases e1:eqB c.x (-1) with
  | true =>
   simp only[↓reduceIte,];cases e2:ltB c.z (unV ps c.y b) with
   | true=>rw[b4o (by rw[hh,e1,e2];rfl)];simp only[↓reduceIte,Q1,Q2,Q0,a0C,or_true]
   | false=>rw[a9D (by rw[hh,e1,e2];rfl)];simp only[↓reduceIte,Q1,Q0,if_pos hup];exact ih
  | false =>
   simp only[↓reduceIte,Q1,];cases e3:eqB c.x i with
   | true =>
    simp only[↓reduceIte,];cases e2:ltB c.z (unV ps c.y b) with
    | true=>rw[b4o (by rw[hh,e1,e2,e3];rfl)];simp only[↓reduceIte,Q1,Q2,Q0,a0C,or_true]
    | false=>rw[a9D (by rw[hh,e1,e2,e3];rfl)];simp only[↓reduceIte,Q1,Q0,if_pos hup];exact ih
   | false=>rw[a9D (by rw[hh,e1,e3];rfl)];simp only[↓reduceIte,Q1,Q0,if_pos hup];exact ih
end
theorem d3c(w:W6){i j v:Int}(hi:0<=i/\i<=5)(hj:0<=j/\j<=5):(w.put i v).at6 j=if i=j then v else w.at6 j:=by
 rcases a8e hi with rfl|rfl|rfl|rfl|rfl|rfl<;>rcases a8e hj with rfl|rfl|rfl|rfl|rfl|rfl<;>rfl
theorem d4v(ps:List Pr){j:Int}(hj:0<=j/\j<=5):(a1w ps).at6 j=(((ps[j.toNat]?).map Pr.s).getD 0):=by
 rcases a8e hj with rfl|rfl|rfl|rfl|rfl|rfl<;>simp[W6.at6,a1w]
theorem d1G{ps:List Pr}{ad:List Tri}(h:asV ps ad=0){k:Nat}{t:Tri}(hk:ad[k]?=some t):t.z<=(((ps[t.x.toNat]?).map Pr.s).getD 0)/\∀d∈ad.take k,d.x≠t.x:=by
 unfold asV at h;split at h
 ·cases h
 have hb:=b6U _ _ h (by omega) k t (by omega) hk;unfold a1N at hb
 repeat' split at hb
 all_goals first|cases hb|skip
 rename_i a1 a2 a3 a4 a5 a6 a7;rw[QQ] at a6;rw[a0I] at a6;refine⟨by omega,fun d hd he=>a7 ?_⟩;rw[List.any_eq_true];exact⟨d,hd,by rw[he];exact c1Z _⟩
theorem d3X{ps:List Pr}{ad:List Tri}(hl:ps.length<=6)(hr:∀x∈ps,x.rng)(h:asV ps ad=0):∀k,k<=ad.length->∀j:Int,0<=j/\j<=5 ->
  0<=((ad.take k).foldl a3W (a1w ps,⟨0,0,0,0,0,0⟩)).1.at6 j/\((∀d∈ad.take k,d.x≠j)->((ad.take k).foldl a3W (a1w ps,⟨0,0,0,0,0,0⟩)).1.at6 j=(a1w ps).at6 j):=by
 obtain⟨h6,hb⟩:=c8E hl hr h;intro k
 induction k with
 | zero =>
  intro _ j hj;refine⟨?_,fun _=>rfl⟩;have hw:=b1s hr;simp only[W6.wide] at hw;simp only[Qj,QP];rcases a8e hj with rfl|rfl|rfl|rfl|rfl|rfl<;>simp[W6.at6]<;>omega
 | succ k ih =>
  intro hk j hj;obtain⟨t,ht⟩:=a0P (show k<ad.length by omega);have hok:=hb t (Qy ht);simp only[Tri.aok] at hok;obtain⟨f1,f2⟩:=d1G h ht;have ih:=ih (by omega);have htk:ad.take (k+1)=ad.take k++[t]:=by rw[X2,ht];rfl
  rw[htk,List.foldl_append,X1,QP];simp only[a3W];rw[d3c _ ⟨hok.1,hok.2.1⟩ hj];by_cases he:t.x=j
  ·rw[if_pos he]
   refine⟨?_,fun hd=>absurd he (hd t (by simp))⟩;rw[(ih t.x ⟨hok.1,hok.2.1⟩).2 f2,d4v ps ⟨hok.1,hok.2.1⟩];omega
  ·rw[if_neg he]
   exact⟨(ih j hj).1,fun hd=>(ih j hj).2 fun d hm=>hd d (by simp[hm])⟩
theorem c3y{ps:List Pr}{ad:List Tri}(hl:ps.length<=6)(hr:∀x∈ps,x.rng)(h:asV ps ad=0):0<=(shF ps ad).1.a/\0<=(shF ps ad).1.b/\0<=(shF ps ad).1.c/\0<=(shF ps ad).1.d/\0<=(shF ps ad).1.e/\0<=(shF ps ad).1.f:=by
 have:=d3X hl hr h ad.length (Qq _);rw[List.take_length] at this;exact⟨(this 0 (by omega)).1,(this 1 (by omega)).1,(this 2 (by omega)).1,(this 3 (by omega)).1,(this 4 (by omega)).1,(this 5 (by omega)).1⟩
def a6I(ps:List Pr)(bs:List Bd)(cs ad:List Tri)(i:Int)(b:W6):Int :=
 if ltB i 0=true then 6 else if leB (bs.length:Int) i=true then 6 else if b.ok then
  if b.le (a1w ps)/\(b2N (shF ps ad).2 (((bs[i.toNat]?).map Bd.c).getD 0) b).le (shF ps ad).1 then a7x ps i b cs else 14
 else 4
def hit(c bc b o s:Int):Bool:=ltB s b||(!(eqB c 0)&&(!(eqB c bc)&&ltB o b))
theorem a6V{c bc b o s:Int}(ho:0<=o):hit c bc b o s=false↔b<=s/\oc c bc b<=o:=by
 unfold hit oc;have e5:∀a b:Int,eqB a b=decide (a=b):=fun _ _=>rfl
 have e6:∀a b:Int,ltB a b=decide (a<b):=fun _ _=>rfl
 simp only[e5,e6,Bool.or_eq_false_iff,Bool.and_eq_false_imp,Bool.not_eq_true',decide_eq_false_iff_not,decide_eq_true_eq];by_cases h1:c=0
 ·first|(simp[h1];omega;done)|simp[h1]
 ·by_cases h2:c=bc
  ·first|(simp[h2];omega;done)|simp[h1,h2]
  ·first|(simp[h1,h2];omega;done)|simp[h1,h2]
theorem a9K{ps:List Pr}{bs:List Bd}{cs ad:List Tri}(hv:a4E ps bs cs ad=0):a8a ps=0/\b2J bs=0/\cs.length<=16/\asV ps ad=0:=by
 unfold a4E at hv;by_cases h1:a8a ps=0
 ·rw[if_pos h1] at hv
  by_cases h2:b2J bs=0
  ·rw[if_pos h2] at hv
   by_cases h3:b1f (bs.length:Int) cs=0
   ·rw[if_pos h3] at hv
    refine⟨h1,h2,?_,hv⟩;unfold b1f at h3;split at h3
    ·cases h3
    ·rename_i h;rw[QQ,a0I] at h;omega
   ·rw[if_neg h3] at hv;exact absurd hv h3
  ·rw[if_neg h2] at hv;exact absurd hv h2
 ·rw[if_neg h1] at hv;exact absurd hv h1
section
variable (σ:List MO)(ps:List Pr)(bs:List Bd)(cs ad:List Tri)(P B C A:PV)(hP:P.rowsOf 5=some (ps.map Pr.row))(hB:B.rowsOf 4=some (bs.map Bd.row))(hC:C.rowsOf 3=some (cs.map Tri.row))(hA:A.rowsOf 3=some (ad.map Tri.row))(n:Nat)
include hP hB hC hA in
theorem c6X(hlow:σ.all (MO.low σ.length)=true)(hv:a4E ps bs cs ad=0)(i:Int)(b:W6)(hn:1200<=n):a0B Tab n b4y [.agg [P,B,C,A],.int .i64 i,.agg b.pv] σ=some (.int .i64 (a6I ps bs cs ad i b),σ):=by
 obtain⟨n,rfl⟩:∃k,n=k+1:=⟨n-1,by omega⟩;obtain⟨v1,v2,v3,v4⟩:=a9K hv;obtain⟨hl,hr⟩:=a5B v1;obtain⟨p1,p2,p3⟩:=a0D hP;obtain⟨b1,b2,b3⟩:=a0D hB;obtain⟨c1,c2,c3⟩:=a0D hC;obtain⟨a1,a2,a3⟩:=a0D hA;rw[Qp] at b1 c1;have k1:=b4x σ ps bs cs ad P B C A hP hB hC hA n (by omega)
 have k2:a0B Tab n b4r [.agg [P,B,C,A],.int .i64 i,.agg b.pv] σ=some (.int .i64 (a6I ps bs cs ad i b),σ):=by
  obtain⟨n,rfl⟩:∃k,n=k+1:=⟨n-1,by omega⟩;have q1:=a2E σ b n (by omega);have q2:=c8G σ ps bs cs ad P B C A hP hB hC hA n hl hr v4 (by omega);have q3:=b2f σ ps P hP hl n (by omega);have q4:=c3l σ b (a1w ps) n (by omega);simp only[a2T,b5X,a5h,b0k,W6.pv] at q1 q2 q3 q4;rw[a0B];simp only[c0R,Q0,Sys.run,W6.pv];show ((a0E [.sh (.agg [_,_,_,_]),.sh (.one _),.sh (.agg [_,_,_,_,_,_])] _).bind _)=_;simp only[a0E,a0x,a0w,Q2,Q0,Qh,Q5,Q6,if_true,p3,b3,c3,a3];show (PT.ev _ b0f _).bind _=_;simp only[b0f,↓reduceIte,a0t,a0r,a0h,a0l,a0m,BE.safe,BE.pe,IE.pe,PEnv.at,Q3,Q4,Q7,Q8,a0p,a0x,Q2,Q0,PEnv.push,Q6,Q5,SV.pvs,SV.pv,BE.all,Qd,Qb,b1,b2,c1,c2,a6I];cases h1:ltB i 0 with
  | true=>simp only[↓reduceIte,Q1,Q2,Q0,a0C,or_true]
  | false =>
   cases h2:leB (bs.length:Int) i with
   | true=>simp only[↓reduceIte,Q1,Q2,Q0,a0C,or_true,Q1]
   | false =>
    rw[a0I] at h1;rw[a4u] at h2;obtain⟨j,rfl⟩:∃j:Nat,i=(j:Int):=⟨i.toNat,by omega⟩;obtain⟨y,hy⟩:=a0P (show j<bs.length by omega);have hbc:(((bs[(j:Int).toNat]?).map Bd.c).getD 0)=y.c:=by rw[QV,hy];rfl
    rw[hbc];have e5:∀a b:Int,eqB a b=decide (a=b):=fun _ _=>rfl
    simp only[↓reduceIte,Q3,Q4,Q1,a0w,Q2,Q0,Q6,Q5,q1,Q1];by_cases hw:b.ok
    ·have hb:a3e b=0:=by unfold a3e;rw[if_pos hw]
     rw[if_pos hw,hb];have q5:=c7f σ bs P B C A hB n p3 c3 a3 hy (shF ps ad).2 b (by omega);have q6:=c3l σ (b2N (shF ps ad).2 y.c b) (shF ps ad).1 n (by omega);simp only[b4k,b0k,W6.pv] at q5 q6;obtain⟨f,hf⟩:∃f,n=f+cs.length+1:=⟨n-cs.length-1,by omega⟩;have q7:=d2j σ ps cs P B C A hP hC n v3 hlow (j:Int) b (by omega) cs.length 0 (by omega) f;rw[<- hf] at q7;simp only[c5v] at q7;simp only[↓reduceIte,Q3,Q4,Q1,a0w,a0x,Q2,Q0,Q6,Q5,Qh,Qf,show eqB 0 0=true from rfl,q2,a0U,q3,q4];by_cases w1:b.le (a1w ps)
     ·rw[dT0 w1]
      simp only[↓reduceIte,Q3,Q4,Q1,a0w,Q2,Q0,Q6,Q5,Qf,q5,q6];by_cases w2:(b2N (shF ps ad).2 y.c b).le (shF ps ad).1
      ·rw[dT0 w2,show (if b.le (a1w ps)/\(b2N (shF ps ad).2 y.c b).le (shF ps ad).1 then a7x ps (j:Int) b cs else 14)=a7x ps (j:Int) b cs from if_pos ⟨w1,w2⟩]
       simp only[↓reduceIte,Q1,Q0,Qf,];exact q7
      ·rw[dF0 w2,show (if b.le (a1w ps)/\(b2N (shF ps ad).2 y.c b).le (shF ps ad).1 then a7x ps (j:Int) b cs else 14)=14 from if_neg (fun h=>w2 h.2)]
       simp only[↓reduceIte,Q1,Q2,Q0,Qg,a0C,or_true]
     ·rw[dF0 w1,show (if b.le (a1w ps)/\(b2N (shF ps ad).2 y.c b).le (shF ps ad).1 then a7x ps (j:Int) b cs else 14)=14 from if_neg (fun h=>w1 h.1)]
      simp only[↓reduceIte,Q1,Q2,Q0,Qg,a0C,or_true]
    ·have hb:a3e b=4:=by unfold a3e;rw[if_neg hw]
     rw[if_neg hw,hb];simp only[↓reduceIte,Q1,Q2,Q0,Qg,show eqB 4 0=false from rfl,a0C,or_true]
 rw[hv] at k1;simp only[b1z,b4r,W6.pv] at k1 k2;rw[a0B];simp only[c0A,Q0,Sys.run,W6.pv];show ((a0E [.sh (.agg [_,_,_,_]),.sh (.one _),.sh (.agg [_,_,_,_,_,_])] _).bind _)=_;simp only[a0E,a0x,a0w,Q2,Q0,Qh,Q5,Q6,if_true,p3,b3,c3,a3];show (PT.ev _ a9R _).bind _=_;simp only[a9R,↓reduceIte,a0t,a0r,a0l,BE.safe,BE.pe,IE.pe,Q3,Q4,Q7,Q8,Q1,a0w,a0p,a0x,Q2,Q0,PEnv.push,Q6,Q5,SV.pvs,SV.pv,Qf,k1,k2,show eqB 0 0=true from rfl,a0C,or_true]
end
section
variable (σ:List MO)(bs:List Bd)(P B C A:PV)(hB:B.rowsOf 4=some (bs.map Bd.row))(n:Nat)
def a5q(σ:List MO)(P B C A:PV)(i k:Int)(b o c s:W6):PEnv:={i:=[i,k,b.a,b.b,b.c,b.d,b.e,b.f,o.a,o.b,o.c,o.d,o.e,o.f,c.a,c.b,c.c,c.d,c.e,c.f,s.a,s.b,s.c,s.d,s.e,s.f],b:=[],v:=[P,B,C,A],m:=σ,k:=σ.length}
include hB in
theorem d2x{i:Nat}{y:Bd}(hy:bs[i]?=some y)(b o c s:W6)(fuel:Nat) :
  d8F.loop (a0B Tab n) (fuel+1) 0 (a5q σ P B C A (i:Int) 0 b o c s)=if hit c.a y.c b.a o.a s.a=true then some (.int .i64 14,σ) else d8F.loop (a0B Tab n) fuel 0 (a5q σ P B C A (i:Int) 1 b o c s):=by
 obtain⟨b1,b2,b3⟩:=a0D hB;rw[Qp] at b1;have h0:=a0J (off:=1) hB (a1Y hy);have e5:∀a b:Int,eqB a b=decide (a=b):=fun _ _=>rfl
 have e6:∀a b:Int,ltB a b=decide (a<b):=fun _ _=>rfl
 have hd':decide ((i:Int)<(bs.length:Int))=true:=dT0 (by have:=(Qs.1 hy).1;omega);obtain⟨d1,d2,d3⟩:=bdr (.str y.nm) (.int .i64 y.c) (.int .i64 y.b) (.int .i64 y.p);rw[Sys.loop,show d8F.loops[0]?=some a0S from rfl];simp only[a5q,hit,e5,e6];simp only[Q0,a0S,↓reduceIte,a0t,a0r,a0h,a0k,a0m,BE.safe,BE.pe,IE.pe,PEnv.at,Q3,Q4,Q7,Q8,a0y,a0e,a0z,Q9,Qa,Nat.reduceAdd,Q1,Q2,Q0,PEnv.push,Q6,Q5,SV.pvs,SV.pv,BE.all,Qe,Qd,Qb,e5,e6,Int.reduceEq,Int.reduceLT,decide_true,decide_false];cases decide (s.a<b.a) with
 | true=>simp only[↓reduceIte,Q1,Q2,Q0,QD,a0C,or_true]
 | false =>
  simp only[↓reduceIte,Q1,Qz];cases decide (c.a=0) with
  | true=>simp only[↓reduceIte,Q1,Q0,Qf,Qf,QA,Q1]
  | false =>
   simp only[↓reduceIte,Q3,Q9,Qa,Nat.reduceAdd,Qk,Qj,a0w,Q2,Q0,Qe,Qg,b1,le0,hd',h0,a1X,d1,Nat.reduceLeDiff,Qg,QB];cases decide (c.a=y.c) with
   | true=>simp only[↓reduceIte,Q1,Q0,Qf,Qf,QA,Q1]
   | false =>
    simp only[↓reduceIte,Qg,Qg,QB];cases decide (o.a<b.a)<;>simp only[↓reduceIte,Q1,Q2,Q0,Q1,a0C,or_true]
include hB in
theorem d1X{i:Nat}{y:Bd}(hy:bs[i]?=some y)(b o c s:W6)(fuel:Nat) :
  d8F.loop (a0B Tab n) (fuel+1) 0 (a5q σ P B C A (i:Int) 1 b o c s)=if hit c.b y.c b.b o.b s.b=true then some (.int .i64 14,σ) else d8F.loop (a0B Tab n) fuel 0 (a5q σ P B C A (i:Int) 2 b o c s):=by
 obtain⟨b1,b2,b3⟩:=a0D hB;rw[Qp] at b1;have h0:=a0J (off:=1) hB (a1Y hy);have e5:∀a b:Int,eqB a b=decide (a=b):=fun _ _=>rfl
 have e6:∀a b:Int,ltB a b=decide (a<b):=fun _ _=>rfl
 have hd':decide ((i:Int)<(bs.length:Int))=true:=dT0 (by have:=(Qs.1 hy).1;omega);obtain⟨d1,d2,d3⟩:=bdr (.str y.nm) (.int .i64 y.c) (.int .i64 y.b) (.int .i64 y.p);rw[Sys.loop,show d8F.loops[0]?=some a0S from rfl];simp only[a5q,hit,e5,e6];simp only[Q0,a0S,↓reduceIte,a0t,a0r,a0h,a0k,a0m,BE.safe,BE.pe,IE.pe,PEnv.at,Q3,Q4,Q7,Q8,a0y,a0e,a0z,Q9,Qa,Nat.reduceAdd,Q1,Q2,Q0,PEnv.push,Q6,Q5,SV.pvs,SV.pv,BE.all,Qe,Qd,Qb,e5,e6,Int.reduceEq,Int.reduceLT,decide_true,decide_false];cases decide (s.b<b.b) with
 | true=>simp only[↓reduceIte,Q1,Q2,Q0,QD,a0C,or_true]
 | false =>
  simp only[↓reduceIte,Q1,Qz];cases decide (c.b=0) with
  | true=>simp only[↓reduceIte,Q1,Q0,Qf,Qf,QA,Q1]
  | false =>
   simp only[↓reduceIte,Q3,Q9,Qa,Nat.reduceAdd,Qk,Qj,a0w,Q2,Q0,Qe,Qg,b1,le0,hd',h0,a1X,d1,Nat.reduceLeDiff,Qg,QB];cases decide (c.b=y.c) with
   | true=>simp only[↓reduceIte,Q1,Q0,Qf,Qf,QA,Q1]
   | false =>
    simp only[↓reduceIte,Qg,Qg,QB];cases decide (o.b<b.b)<;>simp only[↓reduceIte,Q1,Q2,Q0,Q1,a0C,or_true]
include hB in
theorem d1v{i:Nat}{y:Bd}(hy:bs[i]?=some y)(b o c s:W6)(fuel:Nat) :
  d8F.loop (a0B Tab n) (fuel+1) 0 (a5q σ P B C A (i:Int) 2 b o c s)=if hit c.c y.c b.c o.c s.c=true then some (.int .i64 14,σ) else d8F.loop (a0B Tab n) fuel 0 (a5q σ P B C A (i:Int) 3 b o c s):=by
 obtain⟨b1,b2,b3⟩:=a0D hB;rw[Qp] at b1;have h0:=a0J (off:=1) hB (a1Y hy);have e5:∀a b:Int,eqB a b=decide (a=b):=fun _ _=>rfl
 have e6:∀a b:Int,ltB a b=decide (a<b):=fun _ _=>rfl
 have hd':decide ((i:Int)<(bs.length:Int))=true:=dT0 (by have:=(Qs.1 hy).1;omega);obtain⟨d1,d2,d3⟩:=bdr (.str y.nm) (.int .i64 y.c) (.int .i64 y.b) (.int .i64 y.p);rw[Sys.loop,show d8F.loops[0]?=some a0S from rfl];simp only[a5q,hit,e5,e6];simp only[Q0,a0S,↓reduceIte,a0t,a0r,a0h,a0k,a0m,BE.safe,BE.pe,IE.pe,PEnv.at,Q3,Q4,Q7,Q8,a0y,a0e,a0z,Q9,Qa,Nat.reduceAdd,Q1,Q2,Q0,PEnv.push,Q6,Q5,SV.pvs,SV.pv,BE.all,Qe,Qd,Qb,e5,e6,Int.reduceEq,Int.reduceLT,decide_true,decide_false];cases decide (s.c<b.c) with
 | true=>simp only[↓reduceIte,Q1,Q2,Q0,QD,a0C,or_true]
 | false =>
  simp only[↓reduceIte,Q1,Qz];cases decide (c.c=0) with
  | true=>simp only[↓reduceIte,Q1,Q0,Qf,Qf,QA,Q1]
  | false =>
   simp only[↓reduceIte,Q3,Q9,Qa,Nat.reduceAdd,Qk,Qj,a0w,Q2,Q0,Qe,Qg,b1,le0,hd',h0,a1X,d1,Nat.reduceLeDiff,Qg,QB];cases decide (c.c=y.c) with
   | true=>simp only[↓reduceIte,Q1,Q0,Qf,Qf,QA,Q1]
   | false =>
    simp only[↓reduceIte,Qg,Qg,QB];cases decide (o.c<b.c)<;>simp only[↓reduceIte,Q1,Q2,Q0,Q1,a0C,or_true]
include hB in
theorem d2E{i:Nat}{y:Bd}(hy:bs[i]?=some y)(b o c s:W6)(fuel:Nat) :
  d8F.loop (a0B Tab n) (fuel+1) 0 (a5q σ P B C A (i:Int) 3 b o c s)=if hit c.d y.c b.d o.d s.d=true then some (.int .i64 14,σ) else d8F.loop (a0B Tab n) fuel 0 (a5q σ P B C A (i:Int) 4 b o c s):=by
 obtain⟨b1,b2,b3⟩:=a0D hB;rw[Qp] at b1;have h0:=a0J (off:=1) hB (a1Y hy);have e5:∀a b:Int,eqB a b=decide (a=b):=fun _ _=>rfl
 have e6:∀a b:Int,ltB a b=decide (a<b):=fun _ _=>rfl
 have hd':decide ((i:Int)<(bs.length:Int))=true:=dT0 (by have:=(Qs.1 hy).1;omega);obtain⟨d1,d2,d3⟩:=bdr (.str y.nm) (.int .i64 y.c) (.int .i64 y.b) (.int .i64 y.p);rw[Sys.loop,show d8F.loops[0]?=some a0S from rfl];simp only[a5q,hit,e5,e6];simp only[Q0,a0S,↓reduceIte,a0t,a0r,a0h,a0k,a0m,BE.safe,BE.pe,IE.pe,PEnv.at,Q3,Q4,Q7,Q8,a0y,a0e,a0z,Q9,Qa,Nat.reduceAdd,Q1,Q2,Q0,PEnv.push,Q6,Q5,SV.pvs,SV.pv,BE.all,Qe,Qd,Qb,e5,e6,Int.reduceEq,Int.reduceLT,decide_true,decide_false];cases decide (s.d<b.d) with
 | true=>simp only[↓reduceIte,Q1,Q2,Q0,QD,a0C,or_true]
 | false =>
  simp only[↓reduceIte,Q1,Qz];cases decide (c.d=0) with
  | true=>simp only[↓reduceIte,Q1,Q0,Qf,Qf,QA,Q1]
  | false =>
   simp only[↓reduceIte,Q3,Q9,Qa,Nat.reduceAdd,Qk,Qj,a0w,Q2,Q0,Qe,Qg,b1,le0,hd',h0,a1X,d1,Nat.reduceLeDiff,Qg,QB];cases decide (c.d=y.c) with
   | true=>simp only[↓reduceIte,Q1,Q0,Qf,Qf,QA,Q1]
   | false =>
    simp only[↓reduceIte,Qg,Qg,QB];cases decide (o.d<b.d)<;>simp only[↓reduceIte,Q1,Q2,Q0,Q1,a0C,or_true]
include hB in
theorem d2n{i:Nat}{y:Bd}(hy:bs[i]?=some y)(b o c s:W6)(fuel:Nat) :
  d8F.loop (a0B Tab n) (fuel+1) 0 (a5q σ P B C A (i:Int) 4 b o c s)=if hit c.e y.c b.e o.e s.e=true then some (.int .i64 14,σ) else d8F.loop (a0B Tab n) fuel 0 (a5q σ P B C A (i:Int) 5 b o c s):=by
 obtain⟨b1,b2,b3⟩:=a0D hB;rw[Qp] at b1;have h0:=a0J (off:=1) hB (a1Y hy);have e5:∀a b:Int,eqB a b=decide (a=b):=fun _ _=>rfl
 have e6:∀a b:Int,ltB a b=decide (a<b):=fun _ _=>rfl
 have hd':decide ((i:Int)<(bs.length:Int))=true:=dT0 (by have:=(Qs.1 hy).1;omega);obtain⟨d1,d2,d3⟩:=bdr (.str y.nm) (.int .i64 y.c) (.int .i64 y.b) (.int .i64 y.p);rw[Sys.loop,show d8F.loops[0]?=some a0S from rfl];simp only[a5q,hit,e5,e6];simp only[Q0,a0S,↓reduceIte,a0t,a0r,a0h,a0k,a0m,BE.safe,BE.pe,IE.pe,PEnv.at,Q3,Q4,Q7,Q8,a0y,a0e,a0z,Q9,Qa,Nat.reduceAdd,Q1,Q2,Q0,PEnv.push,Q6,Q5,SV.pvs,SV.pv,BE.all,Qe,Qd,Qb,e5,e6,Int.reduceEq,Int.reduceLT,decide_true,decide_false];cases decide (s.e<b.e) with
 | true=>simp only[↓reduceIte,Q1,Q2,Q0,QD,a0C,or_true]
 | false =>
  simp only[↓reduceIte,Q1,Qz];cases decide (c.e=0) with
  | true=>simp only[↓reduceIte,Q1,Q0,Qf,Qf,QA,Q1]
  | false =>
   simp only[↓reduceIte,Q3,Q9,Qa,Nat.reduceAdd,Qk,Qj,a0w,Q2,Q0,Qe,Qg,b1,le0,hd',h0,a1X,d1,Nat.reduceLeDiff,Qg,QB];cases decide (c.e=y.c) with
   | true=>simp only[↓reduceIte,Q1,Q0,Qf,Qf,QA,Q1]
   | false =>
    simp only[↓reduceIte,Qg,Qg,QB];cases decide (o.e<b.e)<;>simp only[↓reduceIte,Q1,Q2,Q0,Q1,a0C,or_true]
include hB in
theorem d0Y{i:Nat}{y:Bd}(hy:bs[i]?=some y)(b o c s:W6)(fuel:Nat) :
  d8F.loop (a0B Tab n) (fuel+1) 0 (a5q σ P B C A (i:Int) 5 b o c s)=if hit c.f y.c b.f o.f s.f=true then some (.int .i64 14,σ) else d8F.loop (a0B Tab n) fuel 0 (a5q σ P B C A (i:Int) 6 b o c s):=by
 obtain⟨b1,b2,b3⟩:=a0D hB;rw[Qp] at b1;have h0:=a0J (off:=1) hB (a1Y hy);have e5:∀a b:Int,eqB a b=decide (a=b):=fun _ _=>rfl
 have e6:∀a b:Int,ltB a b=decide (a<b):=fun _ _=>rfl
 have hd':decide ((i:Int)<(bs.length:Int))=true:=dT0 (by have:=(Qs.1 hy).1;omega);obtain⟨d1,d2,d3⟩:=bdr (.str y.nm) (.int .i64 y.c) (.int .i64 y.b) (.int .i64 y.p);rw[Sys.loop,show d8F.loops[0]?=some a0S from rfl];simp only[a5q,hit,e5,e6];simp only[Q0,a0S,↓reduceIte,a0t,a0r,a0h,a0k,a0m,BE.safe,BE.pe,IE.pe,PEnv.at,Q3,Q4,Q7,Q8,a0y,a0e,a0z,Q9,Qa,Nat.reduceAdd,Q2,Q0,PEnv.push,Q6,Q5,SV.pvs,SV.pv,BE.all,Qe,Qd,Qb,e5,e6,Int.reduceLT,decide_true,];cases decide (s.f<b.f) with
 | true=>simp only[↓reduceIte,Q1,Q2,Q0,QD,a0C,or_true]
 | false =>
  simp only[↓reduceIte,Q1,Qz];cases decide (c.f=0) with
  | true=>simp only[↓reduceIte,Q1,Q0,Qf,Qf,QA,Q1]
  | false =>
   simp only[↓reduceIte,Q3,Q9,Qa,Nat.reduceAdd,Qk,Qj,a0w,Q2,Q0,Qe,Qg,b1,le0,hd',h0,a1X,d1,Nat.reduceLeDiff,Qg,QB];cases decide (c.f=y.c) with
   | true=>simp only[↓reduceIte,Q1,Q0,Qf,Qf,QA,Q1]
   | false =>
    simp only[↓reduceIte,Qg,Qg,QB];cases decide (o.f<b.f)<;>simp only[↓reduceIte,Q1,Q2,Q0,Q1,a0C,or_true]
end
section
variable (σ:List MO)(ps:List Pr)(bs:List Bd)(cs ad:List Tri)(P B C A:PV)(hP:P.rowsOf 5=some (ps.map Pr.row))(hB:B.rowsOf 4=some (bs.map Bd.row))(hC:C.rowsOf 3=some (cs.map Tri.row))(hA:A.rowsOf 3=some (ad.map Tri.row))(n:Nat)
include hP hB hC hA in
theorem c5z(hv:a4E ps bs cs ad=0)(i:Int)(b:W6)(hn:1200<=n):a0B Tab n a8B [.agg [P,B,C,A],.int .i64 i,.agg b.pv] σ=some (.int .i64 (a6I ps bs cs ad i b),σ):=by
 obtain⟨n,rfl⟩:∃k,n=k+9:=⟨n-9,by omega⟩;obtain⟨v1,v2,v3,v4⟩:=a9K hv;obtain⟨hl,hr⟩:=a5B v1;obtain⟨p1,p2,p3⟩:=a0D hP;obtain⟨b1,b2,b3⟩:=a0D hB;obtain⟨c1,c2,c3⟩:=a0D hC;obtain⟨a1,a2,a3⟩:=a0D hA;rw[Qp] at b1 c1;have k1:=a9P σ ps bs cs ad P B C A hP hB hC hA (n+8) (by omega);have q1:=b9r σ b (n+8) (by omega);have q2:=d2B σ ps bs cs ad P B C A hP hB hC hA (n+8) hv hl hr v4 (by omega);have q3:=c7j σ ps P hP hl (n+8) (by omega);rw[hv] at k1;simp only[a4x,a6e,a9V,a9a,W6.pv] at k1 q1 q2 q3
 have key:∀(j:Nat) (y:Bd),bs[j]?=some y->d8F.loop (a0B Tab (n+8)) (n+8) 0 (a5q σ P B C A (j:Int) 0 b (shF ps ad).1 (shF ps ad).2 (a1w ps))=some (.int .i64 (if b.le (a1w ps)/\(b2N (shF ps ad).2 y.c b).le (shF ps ad).1 then a7x ps (j:Int) b cs else 14),σ):=by
  intro j y hy;obtain⟨n1,n2,n3,n4,n5,n6⟩:=c3y hl hr v4;generalize (shF ps ad).1=o at *
  generalize (shF ps ad).2=c at *
  generalize a1w ps=s at *
  have fin:∀fuel,d8F.loop (a0B Tab (n+8)) (fuel+1) 0 (a5q σ P B C A (j:Int) 6 b o c s)=d8F.loop (a0B Tab (n+8)) fuel 1 (c2H σ P B C A (j:Int) (cs.length:Int) 0 b):=fun fuel=>by
   have e6:ltB 6 6=false:=rfl;rw[Sys.loop,show d8F.loops[0]?=some a0S from rfl];simp only[Q0,a5q,c2H,a0S,↓reduceIte,a0r,a0m,BE.safe,BE.pe,IE.pe,Q3,Q4,Q7,Q8,Q1,Q2,Q0,SV.pvs,SV.pv,BE.all,Qd,Qb,e6]
  obtain⟨f,hf⟩:∃f,n+1=f+cs.length+1:=⟨n-cs.length,by omega⟩;have q7:=d1x σ ps cs P B C A hP hC (n+8) v3 (j:Int) b (by omega) cs.length 0 (by omega) f;rw[<- hf,show cs.drop 0=cs from rfl] at q7;rw[d2x σ bs P B C A hB _ hy b o c s (n+7)];cases t1:hit c.a y.c b.a o.a s.a with
  | true=>rw[if_pos rfl,if_neg (fun h=>by rw[(a6V n1).2 ⟨h.1.1,h.2.1⟩] at t1;cases t1)]
  | false =>
  rw[if_neg (by simp),d1X σ bs P B C A hB _ hy b o c s (n+6)];cases t2:hit c.b y.c b.b o.b s.b with
  | true=>rw[if_pos rfl,if_neg (fun h=>by rw[(a6V n2).2 ⟨h.1.2.1,h.2.2.1⟩] at t2;cases t2)]
  | false =>
  rw[if_neg (by simp),d1v σ bs P B C A hB _ hy b o c s (n+5)];cases t3:hit c.c y.c b.c o.c s.c with
  | true=>rw[if_pos rfl,if_neg (fun h=>by rw[(a6V n3).2 ⟨h.1.2.2.1,h.2.2.2.1⟩] at t3;cases t3)]
  | false =>
  rw[if_neg (by simp),d2E σ bs P B C A hB _ hy b o c s (n+4)];cases t4:hit c.d y.c b.d o.d s.d with
  | true=>rw[if_pos rfl,if_neg (fun h=>by rw[(a6V n4).2 ⟨h.1.2.2.2.1,h.2.2.2.2.1⟩] at t4;cases t4)]
  | false =>
  rw[if_neg (by simp),d2n σ bs P B C A hB _ hy b o c s (n+3)];cases t5:hit c.e y.c b.e o.e s.e with
  | true=>rw[if_pos rfl,if_neg (fun h=>by rw[(a6V n5).2 ⟨h.1.2.2.2.2.1,h.2.2.2.2.2.1⟩] at t5;cases t5)]
  | false =>
  rw[if_neg (by simp),d0Y σ bs P B C A hB _ hy b o c s (n+2)];cases t6:hit c.f y.c b.f o.f s.f with
  | true=>rw[if_pos rfl,if_neg (fun h=>by rw[(a6V n6).2 ⟨h.1.2.2.2.2.2,h.2.2.2.2.2.2⟩] at t6;cases t6)]
  | false =>
  have r1:=(a6V n1).1 t1;have r2:=(a6V n2).1 t2;have r3:=(a6V n3).1 t3;have r4:=(a6V n4).1 t4;have r5:=(a6V n5).1 t5;have r6:=(a6V n6).1 t6;rw[if_neg (by simp),fin (n+1),if_pos ⟨⟨r1.1,r2.1,r3.1,r4.1,r5.1,r6.1⟩,⟨r1.2,r2.2,r3.2,r4.2,r5.2,r6.2⟩⟩];exact q7
 rw[a0B];simp only[b2i,Q0,Sys.run,W6.pv];show ((a0E [.sh (.agg [_,_,_,_]),.sh (.one _),.sh (.agg [_,_,_,_,_,_])] _).bind _)=_;simp only[a0E,a0x,a0w,Q2,Q0,Qh,Q5,Q6,if_true,p3,b3,c3,a3];show (PT.ev _ a5u _).bind _=_;simp only[a5u,↓reduceIte,a0t,a0r,a0h,a0l,a0m,BE.safe,BE.pe,IE.pe,PEnv.at,Q3,Q4,Q7,Q8,Q1,a0w,a0p,a0x,Q2,Q0,PEnv.push,Q6,Q5,SV.pvs,SV.pv,BE.all,Qf,Qd,Qb,k1,show eqB 0 0=true from rfl,b1,b2,a6I];cases h1:ltB i 0 with
 | true=>simp only[↓reduceIte,Q1,Q2,Q0,a0C,or_true]
 | false =>
  cases h2:leB (bs.length:Int) i with
  | true=>simp only[↓reduceIte,Q1,Q2,Q0,a0C,or_true,Q1]
  | false =>
   rw[a0I] at h1;rw[a4u] at h2;obtain⟨j,rfl⟩:∃j:Nat,i=(j:Int):=⟨i.toNat,by omega⟩;obtain⟨y,hy⟩:=a0P (show j<bs.length by omega);have hbc:(((bs[(j:Int).toNat]?).map Bd.c).getD 0)=y.c:=by rw[QV,hy];rfl
   rw[hbc];simp only[↓reduceIte,Q3,Q1,a0w,Q2,Q0,Q5,q1,Q1];by_cases hw:b.ok
   ·rw[dT0 hw,if_pos hw]
    have key:=key j y hy;simp only[a5q] at key;simp only[↓reduceIte,Q3,Q4,Q1,a0w,a0x,Q2,Q0,Q6,Q5,Qh,Qf,q2,a0U,q3];exact key
   ·rw[dF0 hw,if_neg hw]
    simp only[↓reduceIte,Q1,Q2,Q0,Qg,a0C,or_true]
end
theorem d1Y(σ:List MO)(l:List Pr)(P:PV)(hP:P.rowsOf 5=some (l.map Pr.row))(w:W6)(n:Nat)(hn:80<=n):a0B Tab n a5l [.agg (P::w.pv),.fn a3l []] σ=some (.int .i64 (b9e l w),σ):=by
 obtain⟨n,rfl⟩:∃k,n=k+1:=⟨n-1,by omega⟩;obtain⟨p1,p2,p3⟩:=a0D hP;rw[Qp] at p1;have c1:=b4J σ l P hP n (by omega);have c2:=a2E σ w n (by omega);simp only[a7z,a2T,W6.pv] at c1 c2;simp only[a0B,a9H,Q0,Sys.run,W6.pv];show ((a0E [.sh (.agg [_,_,_,_,_,_,_]),.sh (.one _)] _).bind _)=_;simp only[a0E,a0x,a0w,Q2,Q0,Qh,Q5,Q6,if_true,p3,c6a];show (PT.ev _ a3Z _).bind _=_;simp only[a3Z,↓reduceIte,a0t,a0r,a0h,a0l,a0m,BE.safe,BE.pe,IE.pe,PEnv.at,Q3,Q4,Q7,Q8,a0w,a0p,a0x,Q2,Q0,PEnv.push,Q6,Q5,SV.pvs,SV.pv,BE.all,Qd,Qb,c1,b9e];cases hc:eqB (a8a l) 0 with
 | false=>simp only[↓reduceIte,Q1,Q2,Q0,Qg,a0C,or_true]
 | true =>
  obtain⟨hl,hr⟩:=a5B (a7J.1 hc);simp only[↓reduceIte,Q3,Q1,a0w,Q2,Q0,Qf,c2];by_cases hw:w.ok
  ·have hb:eqB (a3e w) 0=true:=by unfold a3e;rw[if_pos hw];rfl
   have:=d0y σ l P hP w hw hl hr n (by omega) l.length 0 (by omega) (n-l.length-1);rw[show n-l.length-1+l.length+1=n by omega] at this;simp only[↓reduceIte,Q1,Q0,Qf,hb,p1,p2];exact this
  ·have hb:eqB (a3e w) 0=false:=by unfold a3e;rw[if_neg hw];rfl
   simp only[↓reduceIte,Q1,Q2,Q0,Qg,hb,a0C,or_true]
theorem c8e(σ:List MO)(l:List Pr)(P:PV)(hP:P.rowsOf 5=some (l.map Pr.row))(w:W6)(n:Nat)(hn:90<=n):a0B Tab n b2I [P,.agg w.pv] σ=some (.int .i64 (b9e l w),σ):=by
 obtain⟨n,rfl⟩:∃k,n=k+1:=⟨n-1,by omega⟩;obtain⟨p1,p2,p3⟩:=a0D hP;have c1:=d1Y σ l P hP w n (by omega);simp only[a5l,a3l,W6.pv] at c1;simp only[a0B,b9x,Q0,Sys.run,W6.pv];show ((a0E [.sh (.one _),.sh (.agg [_,_,_,_,_,_])] _).bind _)=_;simp only[a0E,a0x,a0w,Q2,Q0,Qh,Q5,if_true,p3];show (PT.ev _ a9n _).bind _=_;simp only[a9n,↓reduceIte,a0t,a0l,IE.pe,Q3,Q4,Q7,Q1,a0w,a0p,a0x,Q2,Q0,PEnv.push,Q6,Q5,SV.pvs,SV.pv,c1,a0C,or_true]
def a9w(s:St)(i:Int)(L:PV):List PV:=[s.P,s.B,s.C,s.A,.int .i64 i,L]
theorem c1l(σ:List MO)(s:St)(hs:s.Ok)(i:Int)(L:PV)(hL:L.one=true)(x:Ch)(n:Nat)(hn:100<=n):a0B Tab n a4R [.agg (a9w s i L),.agg x.row] σ=some (.int .i64 (b9e s.ps x.w),σ):=by
 obtain⟨n,rfl⟩:∃k,n=k+1:=⟨n-1,by omega⟩;obtain⟨p1,p2,p3⟩:=a0D hs.P;obtain⟨b1,b2,b3⟩:=a0D hs.B;have c1:=c8e σ s.ps s.P hs.P x.w n (by omega);simp only[b2I,W6.pv] at c1;simp only[a0B,b1p,Q0,Sys.run,a9w,a1W];show ((a0E [.sh (.agg [_,_,_,_,_,_]),.sh (.agg [_,_,_,_,_,_,_,_,_,_,_,_])] _).bind _)=_;simp only[a0E,a0x,a0w,Q2,Q0,Qh,Q5,Q6,if_true,p3,b3,hs.C,hs.A,hL];show (PT.ev _ a4Q _).bind _=_;simp only[a4Q,↓reduceIte,a0t,a0l,IE.pe,Q3,Q4,Q7,Q1,a0w,a0p,a0x,Q2,Q0,PEnv.push,Q6,Q5,SV.pvs,SV.pv,c1,a0C,or_true]
def c3p(ps:List Pr)(l:List Ch)(a:Int):Int:=l.foldl (fun m x=>mnI m (b9e ps x.w)) a
def c8L(s:St)(i:Int)(l:List Ch):Int:=if b5w s i=true then c3p s.ps l (((s.bs[i.toNat]?).map Bd.p).getD 0) else 0
theorem d2r(σ:List MO)(s:St)(hs:s.Ok)(i:Int)(l:List Ch)(L:PV)(hL:L.rowsOf 12=some (l.map Ch.row))(hl:l.length<=1000)(n:Nat)(hn:1200<=n) :
  a0B Tab n a8V [.agg s.pv,.int .i64 i,L] σ=some (.int .i64 (c8L s i l),σ):=by
 obtain⟨n,rfl⟩:∃k,n=k+1:=⟨n-1,by omega⟩;obtain⟨p1,p2,p3⟩:=a0D hs.P;obtain⟨b1,b2,b3⟩:=a0D hs.B;obtain⟨l1,l2,l3⟩:=a0D hL;rw[Qp] at b1 l1;have c1:=a9s σ s hs i n (by omega);simp only[a8m,St.pv] at c1
 have loop:∀d k,k+d=l.length->∀fuel (a:Int),d9g.loop (a0B Tab n) (fuel+d+1) 0 {i:=[i,a,(l.length:Int),(k:Int)],b:=[],v:=[s.P,s.B,s.C,s.A,L],m:=σ,k:=σ.length}=some (.int .i64 (c3p s.ps (l.drop k) a),σ):=by
  intro d
  induction d with
  | zero =>
   intro k hk fuel a;rw[Qn] at hk;subst hk;have hd:decide (l.length<l.length)=false:=by simp
   rw[Sys.loop,show d9g.loops[0]?=some a2V from rfl,QN];simp only[Q0,a2V,↓reduceIte,a0t,a0r,BE.safe,BE.pe,IE.pe,Q3,Q4,Q1,Q2,Q0,SV.pv,a0G,hd,a0C,or_true,c3p,QP]
  | succ d ih =>
   intro k hk fuel a;have hlt:k<l.length:=by omega
   obtain⟨x,hx⟩:=a0P hlt;have hd:decide (k<l.length)=true:=dT0 hlt;have h0:=a0J (off:=0) hL (a9A hx);have hup:=a1M (show k<=1000000000 by omega);have c2:=c1l σ s hs i L l3 x n (by omega);simp only[a4R,a9w,a1W] at c2;have ih:=ih (k+1) (by omega) fuel (mnI a (b9e s.ps x.w));rw[a0T] at ih;rw[a4v hx,show c3p s.ps (x::l.drop (k+1)) a=c3p s.ps (l.drop (k+1)) (mnI a (b9e s.ps x.w)) from rfl,<- ih,show fuel+(d+1)+1=(fuel+d+1)+1 from rfl,Sys.loop,show d9g.loops[0]?=some a2V from rfl];simp only[Q0,a2V,↓reduceIte,a0r,a0h,a0k,a0l,a0m,BE.safe,BE.pe,IE.pe,PEnv.at,Q3,Q4,Q7,Q8,a0y,a0e,a0z,Qt,Q9,Qa,Nat.reduceAdd,Qq,Q1,Qk,Qj,a0w,a0p,a0x,Q2,Q0,PEnv.push,Q6,Q5,SV.pvs,SV.pv,BE.all,Qe,Qd,Qb,l1,a0G,hd,le0,h0,a1W,c2,if_pos hup]
 simp only[a0B,b2V,Q0,Sys.run,St.pv];show ((a0E [.sh (.agg [_,_,_,_]),.sh (.one _),.sh (.one _)] _).bind _)=_;simp only[a0E,a0x,a0w,Q2,Q0,Qh,Q5,Q6,if_true,p3,b3,l3,hs.C,hs.A];show (PT.ev _ a5R _).bind _=_;simp only[a5R,↓reduceIte,a0t,a0r,a0h,a0k,a0l,a0m,BE.safe,BE.pe,IE.pe,PEnv.at,Q3,Q4,Q7,Q8,a0y,a0e,a0z,Q9,Qa,Nat.reduceAdd,a0w,a0p,a0x,Q2,Q0,PEnv.push,Q6,Q5,SV.pvs,SV.pv,BE.all,Qe,Qd,Qb,c1,c8L];cases hh:b5w s i with
 | false=>simp only[↓reduceIte,Q1,Q2,Q0,Qg,a0C,or_true]
 | true =>
  obtain⟨k,rfl,hk,hkn⟩:=c7J hh;obtain⟨b,hb⟩:=a0P hk;have hloc:=a0J (off:=3) hs.B (a1Y hb);have hd:decide (k<s.bs.length)=true:=dT0 hk;have dr:∀a b c d:PV,QS 3 [a,b,c,d]=[d]:=fun _ _ _ _=>rfl
  have:=loop l.length 0 (by omega) (n-l.length-1) b.p;rw[show n-l.length-1+l.length+1=n by omega,Qt] at this;rw[hkn,hb];simp only[↓reduceIte,Q3,Q9,Qa,Nat.reduceAdd,Qq,Q1,Qk,Qj,a0w,Q2,Q0,Qe,Qf,b1,l1,l2,a0G,hd,le0,hloc,a1X,dr,QE];exact this
def b2L(w:W6):Bool:=eqB w.a 0&&(eqB w.b 0&&(eqB w.c 0&&(eqB w.d 0&&(eqB w.e 0&&eqB w.f 0))))
def c3e(l:List Ch):Bool:=match l.getLast? with|some x=>b2L x.w|none=>false
theorem b8H(σ:List MO)(l:List Ch)(L:PV)(hL:L.rowsOf 12=some (l.map Ch.row))(hl:l.length<=1000)(n:Nat)(hn:1<=n):a0B Tab n b1T [L] σ=some (.bool (c3e l),σ):=by
 obtain⟨n,rfl⟩:∃k,n=k+1:=⟨n-1,by omega⟩;obtain⟨l1,l2,l3⟩:=a0D hL;rw[Qp] at l1;simp only[a0B,b8u,Q0,Sys.run];show ((a0E [.sh (.one _)] _).bind _)=_;simp only[a0E,a0x,a0w,Q2,Q0,Qh,if_true,l3];show (PT.ev _ a8M _).bind _=_;simp only[a8M,↓reduceIte,a0t,a0r,a0h,a0k,BE.safe,BE.pe,IE.pe,PEnv.at,Q3,Q7,a0y,a0e,a0z,Q9,Qa,Nat.reduceAdd,Q1,Q0,PEnv.push,Q6,Q5,SV.pv,Qe,l1,l2];by_cases h0:l.length=0
 ·have hn:l=[]:=List.length_eq_zero_iff.1 h0
  subst hn;have h1:ltB 0 (([]:List Ch).length:Int)=false:=rfl;rw[h1];simp only[↓reduceIte,Q1,Q2,Q0,a0C,or_true];rfl
 ·have h1:ltB 0 (l.length:Int)=true:=by rw[a0O];omega
  obtain⟨x,hx⟩:=a0P (show l.length-1<l.length by omega);have h2:=a0J (off:=6) hL (a9A hx);have e:((l.length-1:Nat):Int)=(l.length:Int)-1:=by omega
  rw[e] at h2;have h4:leB 0 ((l.length:Int)-1)=true:=by rw[a1u];omega
  have h5:ltB ((l.length:Int)-1) (l.length:Int)=true:=by rw[a0O];omega
  have h6:c3e l=b2L x.w:=by unfold c3e;rw[List.getLast?_eq_getElem?,hx]
  rw[h1,h6];simp only[↓reduceIte,Q3,Q4,Q9,Qa,Nat.reduceAdd,Qq,Q1,Qk,Qj,a0w,Q2,Q0,Qe,if_pos (a0N (z:=(l.length:Int)-1) (by omega)),h4,h5,h2,a1W,d5D,a0C,or_true,b2L]
open Go.Sx Go.Bf
def a1L(f:Nat->Int)(z j k:Nat):List Int:=(Qv k).map fun i=>(a0M f z (j+i):Int)
theorem c2V(f:Nat->Int)(z j:Nat):a1L f z j 0=[]:=rfl
theorem a7X(f:Nat->Int)(z j k:Nat):(a1L f z j k).length=k:=by simp[a1L]
theorem c2q(f:Nat->Int)(z j k:Nat):a1L f z j (k+1)=a1L f z j k++[(a0M f z (j+k):Int)]:=by simp[a1L,X8]
theorem b9D{f:Nat->Int}{z j k:Nat}{x:Int}:x∈a1L f z j k↔∃i,i<k/\x=(a0M f z (j+i):Int):=by
 simp only[a1L,QW,QU];constructor
 ·rintro⟨i,h,rfl⟩;exact⟨i,h,rfl⟩
 ·rintro⟨i,h,rfl⟩;exact⟨i,h,rfl⟩
theorem d2s{f:Nat->Int}{z k:Nat}(hn:((Qv k).map (a0M f z)).Nodup){a b:Nat}(ha:a<k)(hb:b<k)(e:a0M f z a=a0M f z b):a=b:=by
 have ga:((Qv k).map (a0M f z))[a]?=some (a0M f z a):=by simp[ha]
 have gb:((Qv k).map (a0M f z))[b]?=some (a0M f z a):=by simp[hb,e]
 exact(List.getElem?_inj (by simpa using ha) hn).1 (by rw[ga,gb])
section
variable (σ:List MO)(n:Nat)(h:Nat)(fl:List Int)(T:Nat)(hm:σ[h]?=some (.cells (a1c fl) T))
variable {g:Nat->Nat->Int}{v:Nat->Int}{c t:Nat->Nat}{z:Nat}(hf:Go.Bf.Fin fl.length g v (at' fl) c t z)
def st0(k:Nat):PEnv:={i:=[(a0M (at' fl) z k:Int)],b:=[],v:=[.msl h 0 fl.length fl.length 1,.mp σ.length],m:=σ++[.mp (a1L (at' fl) z 0 k) (Qm k (.bool true)) .i64],k:=σ.length}
def st1(w:PV)(m:List MO)(x:Nat):PEnv:={i:=[(x:Int)],b:=[],v:=[.msl h 0 fl.length fl.length 1,.mp σ.length,w],m:=σ++m,k:=σ.length}
include hm hf in
theorem c8Y(k fuel:Nat)(hk:k<=fl.length)(hn:((Qv k).map (a0M (at' fl) z)).Nodup) :
  (a0M (at' fl) z k∉(Qv k).map (a0M (at' fl) z)->d8L.loop (a0B Tab n) (fuel+1) 0 (st0 σ h fl (z:=z) k)=d8L.loop (a0B Tab n) fuel 0 (st0 σ h fl (z:=z) (k+1))) /\
  (a0M (at' fl) z k∈(Qv k).map (a0M (at' fl) z)->d8L.loop (a0B Tab n) (fuel+1) 0 (st0 σ h fl (z:=z) k)=d8L.loop (a0B Tab n) fuel 1 (st1 σ h fl .nilS [.mp [] [] .i64] (a0M (at' fl) z k))):=by
 have hl:=b9O (a1L (at' fl) z 0 k) (.bool true) (a0M (at' fl) z k:Int);rw[a7X] at hl
 have hmem:((a0M (at' fl) z k:Int)∈a1L (at' fl) z 0 k)↔a0M (at' fl) z k∈(Qv k).map (a0M (at' fl) z):=by
  rw[b9D,QW];constructor
  ·rintro⟨i,hi,e⟩;exact⟨i,QU.2 hi,by rw[Qr] at e;omega⟩
  ·rintro⟨i,hi,e⟩;exact⟨i,QU.1 hi,by rw[Qr,e]⟩
 constructor
 ·intro hx
  have hx':=fun q=>hx (hmem.1 q)
  rw[if_neg hx'] at hl;have hp:=c6N (a1L (at' fl) z 0 k) (.bool true) (a0M (at' fl) z k:Int) hx';rw[a7X] at hp;have hkn:=hf.short hk hn hx;have a1:=hf.at_lt k (by omega);have hlink:=(hf.link hkn).1;have hk1:=c2q (at' fl) z 0 k;rw[Qr] at hk1;rw[st0,st0,hk1];rw[Sys.loop,show d8L.loops[0]?=some a4K from rfl];generalize a0M (at' fl) z (k+1)=y at *
  generalize a0M (at' fl) z k=x at *
  have hg:fl[x]?=some (y:Int):=by rw[a8h a1.1,hlink]
  have hd:=a6y hg;have he:=a4V (h:=h) (o:=0) (cap:=fl.length) (sz:=1) (off:=0) a1.1;have q1:(leB 0 (x:Int)&&decide (x<fl.length))=true:=by simp[leB,a1.1]
  have gm:=fun r=>c7A (r:=r) hm
  simp only[Q0,a4K,↓reduceIte,PT.ev,BE.safe,BE.pe,IE.pe,PEnv.at,Q3,Q4,Q7,Q8,a0y,a0e,a0z,Qn,Q9,Qa,Q1,Qk,Qj,a0w,a0p,a0x,Q2,Q0,PEnv.push,Q6,Q5,SV.pvs,SV.pv,BE.all,Qe,Qg,Qd,Qb,a6K,b4m,hl,hp,X3,PV.len,a0G,if_pos q1,he,gm,MO.list,Qw,Qr,hd,QC]
 ·intro hx
  rw[if_pos (hmem.2 hx)] at hl;rw[st0,st1];rw[Sys.loop,show d8L.loops[0]?=some a4K from rfl];simp only[Q0,a4K,↓reduceIte,PT.ev,BE.safe,BE.pe,IE.pe,PEnv.at,Q3,Q4,Q7,Q8,a0y,a0e,a0z,Q9,Qa,Nat.reduceAdd,Q1,a0w,a0p,a0x,Q2,Q0,PEnv.push,Q6,Q5,SV.pvs,SV.pv,BE.all,Qe,Qf,Qd,Qb,a6K,b4m,hl,QE]
include hm hf in
theorem d1N(d:Nat):∀k,fl.length-k<=d->k<=fl.length->((Qv k).map (a0M (at' fl) z)).Nodup->∃j k',k<=k'/\j<k'/\k'<=fl.length/\((Qv k').map (a0M (at' fl) z)).Nodup/\a0M (at' fl) z k'=a0M (at' fl) z j /\
  ∀fuel,d8L.loop (a0B Tab n) (fuel+(k'-k)+1) 0 (st0 σ h fl (z:=z) k)=d8L.loop (a0B Tab n) fuel 1 (st1 σ h fl .nilS [.mp [] [] .i64] (a0M (at' fl) z j)):=by
 induction d with
 | zero =>
  intro k h1 h2 hn;by_cases hx:a0M (at' fl) z k∈(Qv k).map (a0M (at' fl) z)
  ·obtain⟨j,hj,e⟩:=QW.1 hx
   refine⟨j,k,Qq _,QU.1 hj,h2,hn,e.symm,fun fuel=>?_⟩;rw[Nat.sub_self,Qn,(c8Y σ n h fl T hm hf k fuel h2 hn).2 hx,e]
  ·have:=hf.short h2 hn hx;omega
 | succ d ih =>
  intro k h1 h2 hn;by_cases hx:a0M (at' fl) z k∈(Qv k).map (a0M (at' fl) z)
  ·obtain⟨j,hj,e⟩:=QW.1 hx
   refine⟨j,k,Qq _,QU.1 hj,h2,hn,e.symm,fun fuel=>?_⟩;rw[Nat.sub_self,Qn,(c8Y σ n h fl T hm hf k fuel h2 hn).2 hx,e]
  ·have hk:=hf.short h2 hn hx
   have hn1:((Qv (k+1)).map (a0M (at' fl) z)).Nodup:=by
    rw[X8,List.map_append,List.nodup_append];refine⟨hn,by simp,?_⟩;intro a ha b hb;simp only[Qd,Qb,List.mem_singleton] at hb;rintro rfl;subst hb;exact hx ha
   obtain⟨j,k',e1,e2,e3,e4,e5,e6⟩:=ih (k+1) (by omega) (by omega) hn1;refine⟨j,k',by omega,e2,e3,e4,e5,fun fuel=>?_⟩;rw[show fuel+(k'-k)+1=(fuel+(k'-(k+1))+1)+1 by omega,(c8Y σ n h fl T hm hf k _ h2 hn).1 hx,e6]
def d8D(j k:Nat):List MO:=.mp (a1L (at' fl) z j k) (Qm k (.bool true)) .i64::(if k=0 then [] else [.row (a2s (a1L (at' fl) z j k)) 1 3])
def b1d(k:Nat):PV:=if k=0 then .nilS else .rsl (σ.length+1) k 1
include hm hf in
theorem d5E(j L k fuel:Nat)(hfl:fl.length<=1000)(hk:k<L)(hL:j+L<=fl.length)(hn:((Qv (j+L)).map (a0M (at' fl) z)).Nodup) :
  d8L.loop (a0B Tab n) (fuel+1) 1 (st1 σ h fl (b1d σ k) (d8D fl (z:=z) j k) (a0M (at' fl) z (j+k)))=d8L.loop (a0B Tab n) fuel 1 (st1 σ h fl (b1d σ (k+1)) (d8D fl (z:=z) j (k+1)) (a0M (at' fl) z (j+k+1))):=by
 have hl:=b9O (a1L (at' fl) z j k) (.bool true) (a0M (at' fl) z (j+k):Int);rw[a7X] at hl
 have hx':¬((a0M (at' fl) z (j+k):Int)∈a1L (at' fl) z j k):=by
  rw[b9D];rintro⟨i,hi,e⟩;have:=d2s hn (a:=j+k) (b:=j+i) (by omega) (by omega) (by omega);omega
 rw[if_neg hx'] at hl;have hp:=c6N (a1L (at' fl) z j k) (.bool true) (a0M (at' fl) z (j+k):Int) hx';rw[a7X] at hp;have a1:=hf.at_lt (j+k) (by omega);have hlink:=(hf.link (i:=j+k) (by omega)).1;have hk1:=c2q (at' fl) z j k;have hrl:(a2s (a1L (at' fl) z j k)).length=k:=by simp[a2s,a7X]
 have hrs:a2s (a1L (at' fl) z j (k+1))=a2s (a1L (at' fl) z j k)++[[.int .i64 (a0M (at' fl) z (j+k):Int)]]:=by rw[hk1];simp[a2s]
 have gm:=fun r=>c7A (r:=r) hm
 have hb1:b1d σ (k+1)=.rsl (σ.length+1) (k+1) 1:=if_neg (by omega);have hb2:d8D fl (z:=z) j (k+1)=[.mp (a1L (at' fl) z j (k+1)) (Qm (k+1) (.bool true)) .i64,.row (a2s (a1L (at' fl) z j (k+1))) 1 3]:=by rw[d8D,if_neg (by omega)]
 rw[hb1,hb2,hrs,hk1,st1,st1];rw[Sys.loop,show d8L.loops[1]?=some a3M from rfl];generalize a0M (at' fl) z (j+k+1)=y at *
 generalize a0M (at' fl) z (j+k)=x at *
 have hg:fl[x]?=some (y:Int):=by rw[a8h a1.1,hlink]
 have hd:=a6y hg;have he:=a4V (h:=h) (o:=0) (cap:=fl.length) (sz:=1) (off:=0) a1.1;have q1:(leB 0 (x:Int)&&decide (x<fl.length))=true:=by simp[leB,a1.1]
 by_cases hk0:k=0
 ·subst hk0
  simp only[b1d,d8D,if_true];simp only[c2V] at hl hp;simp only[Q0,a3M,↓reduceIte,PT.ev,BE.safe,BE.pe,IE.pe,PEnv.at,Q3,Q4,Q7,Q8,a0y,a0e,a0z,Qn,Q9,Qa,Q1,Qk,Qj,a0w,a0p,a0x,Q2,Q0,PEnv.push,Q6,Q5,Qh,SV.pvs,SV.pv,BE.all,Qe,Qg,Qd,Qb,a6K,b4m,d2P,d2N,hl,hp,X3,PV.len,a1h,QH,QJ,QK,QL,PV.rowsOf,Nat.reduceLeDiff,Nat.succ_ne_zero,a0G,if_pos q1,he,gm,MO.list,Qw,Qr,hd,QC,a2s,c2V,Qb]
 ·have hb3:b1d σ k=.rsl (σ.length+1) k 1:=if_neg hk0
  have hb4:d8D fl (z:=z) j k=[.mp (a1L (at' fl) z j k) (Qm k (.bool true)) .i64,.row (a2s (a1L (at' fl) z j k)) 1 3]:=by rw[d8D,if_neg hk0]
  rw[hb3,hb4];have q2:k+1<=1000000:=by omega
  have o1:(1<=1000000)=True:=eq_true (by decide);have o2:(1=0)=False:=eq_false (by decide);simp only[Q0,a3M,↓reduceIte,PT.ev,BE.safe,BE.pe,IE.pe,PEnv.at,Q3,Q4,Q7,Q8,a0y,a0e,a0z,Qn,Q9,Qa,Q1,Qk,Qj,a0w,a0p,a0x,Q2,Q0,PEnv.push,Q6,Q5,Qh,SV.pvs,SV.pv,BE.all,Qe,Qg,Qd,Qb,a6K,b4m,c0l,c5u,hl,hp,X3,PV.len,a1h,QH,QJ,QK,QL,PV.rowsOf,hrl,q2,o1,o2,and_self,a0G,if_pos q1,he,gm,MO.list,Qw,Qr,hd,QC]
include hm hf in
theorem d1K(j L:Nat)(hfl:fl.length<=1000)(hL:j+L<=fl.length)(hn:((Qv (j+L)).map (a0M (at' fl) z)).Nodup):∀d k,k+d=L->∀fuel,
  d8L.loop (a0B Tab n) (fuel+d) 1 (st1 σ h fl (b1d σ k) (d8D fl (z:=z) j k) (a0M (at' fl) z (j+k)))=d8L.loop (a0B Tab n) fuel 1 (st1 σ h fl (b1d σ L) (d8D fl (z:=z) j L) (a0M (at' fl) z (j+L))):=by
 intro d
 induction d with
 | zero=>intro k hk fuel;rw[Qn] at hk;subst hk;rfl
 | succ d ih =>
  intro k hk fuel;rw[show fuel+(d+1)=(fuel+d)+1 from rfl,d5E σ n h fl T hm hf j L k _ hfl (by omega) hL hn];exact ih (k+1) (by omega) fuel
def st2(ys:List Int)(i:Nat):PEnv:={i:=[(ys.length:Int),(i:Int)],b:=[],v:=[.rsl (σ.length+1) ys.length 1,.msl (σ.length+2) 0 ys.length ys.length 1],m:=σ++[.mp ys (Qm ys.length (.bool true)) .i64,.row (a2s ys) 1 3,.cells (a1c (Qm (ys.length-i) 0++(ys.take i).reverse)) 3],k:=σ.length}
theorem d4X(ys:List Int)(i fuel:Nat)(hy:ys.length<=1000)(hi:i<ys.length) :
  d8L.loop (a0B Tab n) (fuel+1) 2 (st2 σ ys i)=d8L.loop (a0B Tab n) fuel 2 (st2 σ ys (i+1)):=by
 obtain⟨y,hy'⟩:∃y,ys[i]?=some y:=⟨_,List.getElem?_eq_getElem hi⟩;have hir:(a2s ys)[i]?=some [.int .i64 y]:=by simp[a2s,hy']
 have hrl:(a2s ys).length=ys.length:=by simp[a2s]
 have hrep:(Qm (ys.length-i) 0++(ys.take i).reverse).set (ys.length-1-i) y=Qm (ys.length-(i+1)) 0++(ys.take (i+1)).reverse:=by
  rw[X2,hy',show ys.length-i=(ys.length-(i+1))+1 by omega,X9,X4,show ys.length-1-i=(Qm (ys.length-(i+1)) (0:Int)).length by simp;omega];rw[X5 _ _ (Qq _)];simp
 have hlen:(Qm (ys.length-i) 0++(ys.take i).reverse).length=ys.length:=by simp;omega
 have hset:=b1i (l:=Qm (ys.length-i) 0++(ys.take i).reverse) (i:=ys.length-1-i) y (by rw[hlen];omega);rw[hrep] at hset;rw[st2,st2,Sys.loop,show d8L.loops[2]?=some a4H from rfl];have hcl:(a1c (Qm (ys.length-i) 0++(ys.take i).reverse)).length=ys.length:=by rw[b1j,hlen]
 generalize a1c (Qm (ys.length-i) 0++(ys.take i).reverse)=o at *
 generalize a1c (Qm (ys.length-(i+1)) 0++(ys.take (i+1)).reverse)=o' at *
 have q1:(leB 0 (i:Int)&&true)=true:=by simp[leB]
 have q2:(leB (-9223372036854775808) ((ys.length:Int)-1)&&leB ((ys.length:Int)-1) 9223372036854775807)=true:=by simp[leB];omega
 have e1:(ys.length:Int)-1-(i:Int)=((ys.length-1-i:Nat):Int):=by omega
 have q3:(leB (-9223372036854775808) ((ys.length-1-i:Nat):Int)&&leB ((ys.length-1-i:Nat):Int) 9223372036854775807)=true:=by simp[leB];omega
 have q4:(leB 0 ((ys.length-1-i:Nat):Int)&&decide (ys.length-1-i<ys.length))=true:=by simp[leB];omega
 have q5:(leB (-9223372036854775808) ((i:Int)+1)&&leB ((i:Int)+1) 9223372036854775807)=true:=by simp[leB];omega
 have l1:=c9t (h:=σ.length+1) (sz:=1) (off:=0) hi;have l2:=a4V (h:=σ.length+2) (o:=0) (cap:=ys.length) (sz:=1) (off:=0) (i:=ys.length-1-i) (len:=ys.length) (by omega);have hle:ys.length-1-i+1<=ys.length:=by omega
 have e2:((i+1:Nat):Int)=(i:Int)+1:=by omega
 have hd:decide (i<ys.length)=true:=dT0 hi;generalize ys.length-1-i=w at *
 simp only[Q0,a4H,↓reduceIte,PT.ev,BE.safe,BE.pe,IE.pe,PEnv.at,Q3,Q4,Q7,Q8,a0y,a0e,a0z,Qn,Qt,Q9,Qa,Qq,Q1,Qk,Qj,a0w,Q2,Q0,PEnv.push,Q6,Q5,SV.pvs,SV.pv,BE.all,Qe,Qd,Qb,a0G,hd,PV.len,PV.isKind,if_pos q1,if_pos q2,e1,if_pos q3,if_pos q4,if_pos q5,l1,l2,c0l,d2V,d5j,MO.elts,hrl,hir,and_self,hcl,hle,Qw,Qr,hset,e2]
theorem run2(ys:List Int)(hy:ys.length<=1000):∀d i,i+d=ys.length->∀fuel,
  d8L.loop (a0B Tab n) (fuel+d) 2 (st2 σ ys i)=d8L.loop (a0B Tab n) fuel 2 (st2 σ ys ys.length):=by
 intro d
 induction d with
 | zero=>intro i hi fuel;rw[Qn] at hi;subst hi;rfl
 | succ d ih =>
  intro i hi fuel;rw[show fuel+(d+1)=(fuel+d)+1 from rfl,d4X σ n ys i _ hy (by omega)];exact ih (i+1) (by omega) fuel
theorem d7S(hσ:b0b σ)(ys:List Int)(fuel:Nat):d8L.loop (a0B Tab n) (fuel+1) 2 (st2 σ ys ys.length)=some (.sl 1 (a2s ys.reverse),σ):=by
 have hd:decide (ys.length<ys.length)=false:=by simp
 have hz:Qm (ys.length-ys.length) (0:Int)++(ys.take ys.length).reverse=ys.reverse:=by simp
 have hl:ys.length=ys.reverse.length:=by simp
 have hr:=c0U ys.reverse;rw[st2,hz,Sys.loop,show d8L.loops[2]?=some a4H from rfl];simp only[Q0,a4H,PT.ev,BE.safe,BE.pe,IE.pe,Q3,Q4,Q7,Q8,Q1,Q0,SV.pv,a0G,hd];have hm3:(σ++[.mp ys (Qm ys.length (.bool true)) .i64,.row (a2s ys) 1 3,.cells (a1c ys.reverse) 3]:List MO).length=σ.length+3:=by simp
 have h1:¬(false=true\/σ.length+3=σ.length):=by simp
 have h2:¬(σ.length+2<σ.length):=by omega
 rw[<- hl] at hr;simp only[a0C,hm3,X6,hσ σ.length,PV.frz,if_neg h2,b0a,d2V,c2x,MO.list,hr,Qt,Qq,Q1,Q2,Q0,];simp[]
end
theorem c9v(σ:List MO)(hσ:b0b σ)(h:Nat)(fl:List Int)(T:Nat)(hm:σ[h]?=some (.cells (a1c fl) T))(hfl:fl.length<=1000)
  {g:Nat->Nat->Int} {v:Nat->Int} {c t:Nat->Nat} {z:Nat} (hf:Go.Bf.Fin fl.length g v (at' fl) c t z) (n:Nat) (hnn:fl.length*3+10<=n) :
  ∃j k,j<k/\k<=fl.length/\a0M (at' fl) z k=a0M (at' fl) z j /\
   a0B Tab n b3o [.msl h 0 fl.length fl.length 1,.int .i64 (z:Int)] σ=some (.sl 1 (a2s (a1L (at' fl) z j (k-j)).reverse),σ):=by
 obtain⟨n,rfl⟩:∃k,n=k+1:=⟨n-1,by omega⟩;obtain⟨j,k,_,hjk,hk,hn,he,h0⟩:=d1N σ n h fl T hm hf fl.length 0 (by omega) (Nat.zero_le _) (by simp);refine⟨j,k,hjk,hk,he,?_⟩;have hl:=a7X (at' fl) z j (k-j);have h1:=fun fuel=>d1K σ n h fl T hm hf j (k-j) hfl (by omega) (by rw[show j+(k-j)=k by omega];exact hn) (k-j) 0 (by omega) fuel
 have h2:=fun fuel=>run2 σ n (a1L (at' fl) z j (k-j)) (by omega) (k-j) 0 (by omega) fuel
 have h3:=d7S σ n hσ (a1L (at' fl) z j (k-j))
 have hc:∀fuel,d8L.loop (a0B Tab n) (fuel+1) 1 (st1 σ h fl (b1d σ (k-j)) (d8D fl (z:=z) j (k-j)) (a0M (at' fl) z (j+(k-j))))=d8L.loop (a0B Tab n) fuel 2 (st2 σ (a1L (at' fl) z j (k-j)) 0):=by
  intro fuel;have hk0:k-j≠0:=by omega
  have hb3:b1d σ (k-j)=.rsl (σ.length+1) (k-j) 1:=if_neg hk0;have hb4:d8D fl (z:=z) j (k-j)=[.mp (a1L (at' fl) z j (k-j)) (Qm (k-j) (.bool true)) .i64,.row (a2s (a1L (at' fl) z j (k-j))) 1 3]:=by rw[d8D,if_neg hk0]
  have hlk:=b9O (a1L (at' fl) z j (k-j)) (.bool true) (a0M (at' fl) z k:Int);rw[hl,if_pos (b9D.2 ⟨0,by omega,by rw[he];rfl⟩)] at hlk;have hrep:=c4A (k-j) 0;have hle:(k-j:Nat)<=1000000:=by omega
  rw[hb3,hb4,show j+(k-j)=k by omega,st1,st2,Sys.loop,show d8L.loops[1]?=some a3M from rfl,hl];generalize a1L (at' fl) z j (k-j)=ks at *
  have e1:Qm (k-j-0) (0:Int)++(ks.take 0).reverse=Qm (k-j) 0:=by simp
  have q1:(0<=((k-j:Nat):Int)/\((k-j:Nat):Int)<=1000000/\(8:Nat)<=100000000):=⟨by omega,by omega,by omega⟩;rw[e1];generalize k-j=L at *
  have hm2:∀A B:MO,(σ++[A,B]).length=σ.length+2:=fun A B=>by simp
  have hm3:∀A B C:MO,(σ++[A,B])++[C]=σ++[A,B,C]:=fun A B C=>by simp
  simp only[Q0,a3M,PT.ev,BE.safe,BE.pe,IE.pe,PEnv.at,Q3,Q4,Q7,Q8,a0y,a0e,a0z,Q9,Qa,Nat.reduceAdd,Q1,a0w,a0p,a0x,Q2,Q0,PEnv.push,Q6,Q5,SV.pvs,SV.pv,BE.all,Qe,Qf,Qd,Qb,a6K,b4m,hlk,QE,PV.isKind,PV.len,QV,if_pos q1,hrep,hm2,hm3];rfl
 have e0:st0 σ h fl (z:=z) 0={i:=[(z:Int)],b:=[],v:=[.msl h 0 fl.length fl.length 1,.mp σ.length],m:=σ++[.mp [] [] .i64],k:=σ.length}:=rfl;have e1:st1 σ h fl .nilS [.mp [] [] .i64] (a0M (at' fl) z j)=st1 σ h fl (b1d σ 0) (d8D fl (z:=z) j 0) (a0M (at' fl) z (j+0)):=rfl
 have tot:d8L.loop (a0B Tab n) n 0 (st0 σ h fl (z:=z) 0)=some (.sl 1 (a2s (a1L (at' fl) z j (k-j)).reverse),σ):=by
  have hfu:n=(((((n-k-(k-j)-(k-j)-3)+1)+(k-j))+1)+(k-j))+(k-0)+1:=by omega
  rw[hl] at h3;generalize n-k-(k-j)-(k-j)-3=fu at *
  have hx:=h0 (((((fu)+1)+(k-j))+1)+(k-j));rw[<- hfu] at hx;rw[hx,e1,h1,hc,h2,hl];exact h3 fu
 rw[e0] at tot;simp only[a0B,b9R,Q0,Sys.run];show ((a0E [.sh (.one _),.sh (.one _)] _).bind _)=_;simp only[a0E,a0x,a0w,Q2,Q0,Qh,Q5,if_true,PV.one];show (PT.ev _ a9z _).bind _=_;simp only[a9z,PT.ev,IE.pe,Q3,Q7,Q8,Q2,Q0,Q6,Q5,SV.pvs,SV.pv,BE.all,Qd,Qb];exact tot
def ch0:Ch:=⟨⟨0,0,0,0,0,0⟩,⟨0,0,0,0,0,0⟩⟩
def a9j(l:List Ch)(z:Int):Ch:=(l[z.toNat]?).getD ch0
def lst(σ:List MO)(P:PV)(N:Nat)(vs fs:List Int)(is:List Int):PEnv :=
 {i:=is,b:=[],v:=[P,.msl σ.length 0 N N 1,.msl (σ.length+1) 0 N N 1],m:=σ++[.cells (a1c vs) 2,.cells (a1c fs) 3],k:=σ.length}
def gN(l:List Ch)(x y:Nat):Int:=b0Z (a9j l (x:Int)) (a9j l (y:Int))
theorem chN{l:List Ch}{x:Nat}(h:x<l.length):l[x]?=some (a9j l (x:Int)):=by simp[a9j,h]
theorem b0M(h o len cap sz:Nat):(PV.msl h o len cap sz).len=len:=rfl
theorem d8w(σ:List MO)(l:List Ch)(P:PV)(hP:P.rowsOf 12=some (l.map Ch.row))(hok:∀x∈l,x.ok)(hl:l.length<=1000)(n:Nat)(hn:2<=n)(vs fs:List Int)(hvs:vs.length=l.length)(hfs:fs.length=l.length)
  (ch r:Int) (a b fuel:Nat) (ha:a<l.length) (hb:b<l.length) (h1:-1000000000000<=at' vs a/\at' vs a<=1000000000000) :
  d8I.loop (a0B Tab n) (fuel+1) 3 (lst σ P l.length vs fs [ch,(a:Int),(l.length:Int),r,(l.length:Int),(l.length:Int),(b:Int)]) =
   if at' vs a+gN l a b<at' vs b then d8I.loop (a0B Tab n) fuel 3 (lst σ P l.length (vs.set b (at' vs a+gN l a b)) (fs.set b (a:Int)) [(b:Int),(a:Int),(l.length:Int),r,(l.length:Int),(l.length:Int),((b+1:Nat):Int)])
   else d8I.loop (a0B Tab n) fuel 3 (lst σ P l.length vs fs [ch,(a:Int),(l.length:Int),r,(l.length:Int),(l.length:Int),((b+1:Nat):Int)]):=by
 obtain⟨p1,p2,p3⟩:=a0D hP;rw[Qp] at p1;have ex:=chN ha;have ey:=chN hb;have hxo:=hok _ (Qy ex);have hyo:=hok _ (Qy ey);have gb:=c7G hxo hyo;have c1:=c9B (σ++[.cells (a1c vs) 2,.cells (a1c fs) 3]) _ _ hxo hyo n hn;have lx:=a0J (off:=0) hP (a9A ex);have ly:=a0J (off:=0) hP (a9A ey);have dva:=a6y (a8h (l:=vs) (i:=a) (by omega));have dvb:=a6y (a8h (l:=vs) (i:=b) (by omega));have ma:=a4V (h:=σ.length) (o:=0) (cap:=l.length) (sz:=1) (off:=0) ha;have mb:=a4V (h:=σ.length) (o:=0) (cap:=l.length) (sz:=1) (off:=0) hb;have mb2:=a4V (h:=σ.length+1) (o:=0) (cap:=l.length) (sz:=1) (off:=0) hb;have hgN:gN l a b=b0Z (a9j l (a:Int)) (a9j l (b:Int)):=rfl;rw[hgN];generalize a9j l (a:Int)=x at *
 generalize a9j l (b:Int)=y at *
 generalize b0Z x y=gg at *
 generalize hw:at' vs a+gg=w at *
 have sv:=b1i (l:=vs) (i:=b) w (by omega);have sf:=b1i (l:=fs) (i:=b) (a:Int) (by omega);have lv:b+1<=(a1c vs).length:=by rw[b1j];omega
 have lf:b+1<=(a1c fs).length:=by rw[b1j];omega
 generalize hV':a1c (vs.set b w)=V' at *
 generalize hF':a1c (fs.set b (a:Int))=F' at *
 have q1:(leB 0 (a:Int)&&decide (a<l.length))=true:=by simp[leB,ha]
 have q2:(leB 0 (b:Int)&&decide (b<l.length))=true:=by simp[leB,hb]
 have q2':(leB 0 (b:Int)&&true)=true:=by simp[leB]
 have q3:(leB (-9223372036854775808) w&&leB w 9223372036854775807)=true:=by simp[leB];omega
 have q4:(leB (-9223372036854775808) ((b:Int)+1)&&leB ((b:Int)+1) 9223372036854775807)=true:=by simp[leB];omega
 have e2:((b+1:Nat):Int)=(b:Int)+1:=by omega
 have o1:((1:Nat)<=1)=True:=eq_true (by decide);simp only[b4C,a1W] at c1;rw[e2];by_cases hlt:w<at' vs b
 ·have e3:ltB w (at' vs b)=true:=a0O.2 hlt
  have hev:a1O.ev (a0B Tab n) (lst σ P l.length vs fs [ch,(a:Int),(l.length:Int),r,(l.length:Int),(l.length:Int),(b:Int)])=some (.jump 3 {i:=[(b:Int),(a:Int),(l.length:Int),r,(l.length:Int),(l.length:Int),(b:Int)+1],b:=[],v:=[P,.msl σ.length 0 l.length l.length 1,.msl (σ.length+1) 0 l.length l.length 1],m:=σ++[.cells V' 2,.cells F' 3],k:=σ.length}):=by
   unfold a1O;have hd:decide (b<l.length)=true:=dT0 hb
   repeat' (first|with_reducible rfl|apply a4g|simp only[↓reduceIte,a0r,a0h,a0k,a0l,a0b,a0m,BE.safe,BE.pe,IE.pe,PEnv.at,Q3,Q4,Q7,Q8,a0y,a0e,a0z,Qn,Qt,Q9,Qa,Nat.reduceAdd,Qq,Q1,Qk,Qj,a0w,a0p,a0x,Q2,Q0,PEnv.push,Q6,Q5,Qh,SV.pvs,SV.pv,BE.all,Qe,Qd,Qb,lst,hd,if_pos q2',p1,b0M,a0G,if_pos q1,if_pos q3,if_pos q4,lx,ly,ma,mb,mb2,a1W,c1,a6K,c0l,b4m,c5u,MO.list,Qw,Qr,dva,dvb,QC,hw,e3,lv,lf,sv,sf]|unfold a5U|unfold a5T)
  rw[if_pos hlt,Sys.loop,show d8I.loops[3]?=some a1O from rfl,Q0,hev,Q0];simp only[lst,hV',hF']
 ·have e3:ltB w (at' vs b)=false:=a0I.2 hlt
  have hev:a1O.ev (a0B Tab n) (lst σ P l.length vs fs [ch,(a:Int),(l.length:Int),r,(l.length:Int),(l.length:Int),(b:Int)])=some (.jump 3 (lst σ P l.length vs fs [ch,(a:Int),(l.length:Int),r,(l.length:Int),(l.length:Int),(b:Int)+1])):=by
   unfold a1O;have hd:decide (b<l.length)=true:=dT0 hb
   repeat' (first|with_reducible rfl|apply a4g|simp only[↓reduceIte,a0r,a0h,a0k,a0l,a0b,a0m,BE.safe,BE.pe,IE.pe,PEnv.at,Q3,Q4,Q7,Q8,a0y,a0e,a0z,Qn,Qt,Q9,Qa,Nat.reduceAdd,Qq,Q1,Qk,Qj,a0w,a0p,a0x,Q2,Q0,PEnv.push,Q6,Q5,Qh,SV.pvs,SV.pv,BE.all,Qe,Qd,Qb,lst,hd,if_pos q2',p1,b0M,a0G,if_pos q1,if_pos q3,if_pos q4,lx,ly,ma,mb,mb2,a1W,c1,a6K,c0l,b4m,c5u,MO.list,Qw,Qr,dva,dvb,QC,hw,e3]|unfold a5U|unfold a5T)
  rw[if_neg hlt,Sys.loop,show d8I.loops[3]?=some a1O from rfl,Q0,hev,Q0]
structure LS (l:List Ch)(vs fs:List Int)(ch:Int)(T R a b:Nat):Prop where
 hv:vs.length=l.length
 hf:fs.length=l.length
 inv:∃c t,Inv l.length (gN l) (at' vs) (at' fs) c t T R a b/\((ch=-1/\∀x,x<l.length->c x≠R)\/∃z:Nat,z<l.length/\ch=(z:Int)/\c z=R)
theorem c7H{l:List Int}{b:Nat}(x:Int)(h:b<l.length):at' (l.set b x)=upd (at' l) b x:=by
 funext i;rw[c7E x h];rfl
theorem d3o(l:List Ch)(x:Nat):gN l x x=0:=by unfold gN b0Z;omega
theorem d5v{l:List Ch}(hok:∀x∈l,x.ok){x y:Nat}(hx:x<l.length)(hy:y<l.length):-24000000<=gN l x y/\gN l x y<=24000000 :=
 c7G (hok _ (Qy (chN hx))) (hok _ (Qy (chN hy)))
section
variable (σ:List MO)(l:List Ch)(P:PV)(hP:P.rowsOf 12=some (l.map Ch.row))(hok:∀x∈l,x.ok)(hl:l.length<=30)(n:Nat)(hn:2<=n)
include hP hok hl hn in
theorem d4h(r:Int)(vs fs:List Int)(ch:Int)(T R a b:Nat)(h:LS l vs fs ch T R a b)(hR:1<=R)(hT:T+1<=27000)(ha:a<l.length)(hb:b<l.length) :
  ∃vs' fs' ch',LS l vs' fs' ch' (T+1) R a (b+1)/\∀fuel,d8I.loop (a0B Tab n) (fuel+1) 3 (lst σ P l.length vs fs [ch,(a:Int),(l.length:Int),r,(l.length:Int),(l.length:Int),(b:Int)]) =
   d8I.loop (a0B Tab n) fuel 3 (lst σ P l.length vs' fs' [ch',(a:Int),(l.length:Int),r,(l.length:Int),(l.length:Int),((b+1:Nat):Int)]):=by
 obtain⟨hv,hf,c,t,hi,hch⟩:=h;have hlow:=hi.low a ha;have step:=fun fuel=>d8w σ l P hP hok (by omega) n hn vs fs hv hf ch r a b fuel ha hb (by omega)
 by_cases hlt:at' vs a+gN l a b<at' vs b
 ·simp only[if_pos hlt] at step
  refine⟨_,_,_,⟨by simp[hv],by simp[hf],upd c b R,upd t b (T+1),?_,.inr ⟨b,hb,rfl,a1C _ _ _⟩⟩,step⟩;rw[c7H _ (by omega),c7H _ (by omega)];exact hi.lower ha hb hR (d5v hok ha hb).1 (d3o l a) hlt
 ·simp only[if_neg hlt] at step
  exact⟨vs,fs,ch,⟨hv,hf,c,t,hi.keep (by omega),hch⟩,step⟩
include hP hok hl hn in
theorem d8l(r:Int)(R a:Nat)(hR:1<=R)(ha:a<l.length):∀d b vs fs ch T,b+d=l.length->LS l vs fs ch T R a b->T+d<=27000 ->
  ∃vs' fs' ch',LS l vs' fs' ch' (T+d) R (a+1) 0/\∀fuel,d8I.loop (a0B Tab n) (fuel+d+1) 3 (lst σ P l.length vs fs [ch,(a:Int),(l.length:Int),r,(l.length:Int),(l.length:Int),(b:Int)]) =
   d8I.loop (a0B Tab n) fuel 2 (lst σ P l.length vs' fs' [ch',(l.length:Int),r,(l.length:Int),((a+1:Nat):Int)]):=by
 intro d
 induction d with
 | zero =>
  intro b vs fs ch T hb h hT;obtain rfl:b=l.length:=by omega
  obtain⟨hv,hf,c,t,hi,hch⟩:=h;refine⟨vs,fs,ch,⟨hv,hf,c,t,hi.row,hch⟩,fun fuel=>?_⟩;have hd:decide (l.length<l.length)=false:=by simp
  have q4:(leB (-9223372036854775808) ((a:Int)+1)&&leB ((a:Int)+1) 9223372036854775807)=true:=by simp[leB];omega
  rw[Qn,Sys.loop,show d8I.loops[3]?=some a1O from rfl];simp only[Q0,a1O,↓reduceIte,a0r,a0h,a0m,BE.safe,BE.pe,IE.pe,Q3,Q4,Q7,Q8,Q1,Q2,Q0,SV.pvs,SV.pv,BE.all,Qe,Qd,Qb,lst,a0G,hd,if_pos q4,show ((a+1:Nat):Int)=(a:Int)+1 from by omega]
 | succ d ih =>
  intro b vs fs ch T hb h hT;obtain⟨vs1,fs1,ch1,h1,s1⟩:=d4h σ l P hP hok hl n hn r vs fs ch T R a b h hR (by omega) ha (by omega);obtain⟨vs2,fs2,ch2,h2,s2⟩:=ih (b+1) vs1 fs1 ch1 (T+1) (by omega) h1 (by omega);refine⟨vs2,fs2,ch2,by rw[show T+(d+1)=T+1+d by omega];exact h2,fun fuel=>?_⟩;rw[show fuel+(d+1)+1=(fuel+d+1)+1 by omega,s1,s2]
include hP hok hl hn in
theorem d6K(r:Int)(R:Nat)(hR:1<=R):∀d a vs fs ch T,a+d=l.length->LS l vs fs ch T R a 0->T+d*l.length<=27000 ->
  ∃vs' fs' ch',LS l vs' fs' ch' (T+d*l.length) R l.length 0/\∀fuel,d8I.loop (a0B Tab n) (fuel+d*(l.length+2)) 2 (lst σ P l.length vs fs [ch,(l.length:Int),r,(l.length:Int),(a:Int)]) =
   d8I.loop (a0B Tab n) fuel 2 (lst σ P l.length vs' fs' [ch',(l.length:Int),r,(l.length:Int),(l.length:Int)]):=by
 intro d;obtain⟨p1,p2,p3⟩:=a0D hP;rw[Qp] at p1
 induction d with
 | zero =>
  intro a vs fs ch T ha h hT;obtain rfl:a=l.length:=by omega
  refine⟨vs,fs,ch,by rw[QX,Qn];exact h,fun fuel=>?_⟩;rw[QX,Qn]
 | succ d ih =>
  intro a vs fs ch T ha h hT;have e1:(d+1)*l.length=d*l.length+l.length:=QY _ _;have e2:(d+1)*(l.length+2)=d*(l.length+2)+(l.length+2):=QY _ _;obtain⟨vs1,fs1,ch1,h1,s1⟩:=d8l σ l P hP hok hl n hn r R a hR (by omega) l.length 0 vs fs ch T (by omega) h (by omega);obtain⟨vs2,fs2,ch2,h2,s2⟩:=ih (a+1) vs1 fs1 ch1 (T+l.length) (by omega) h1 (by omega);refine⟨vs2,fs2,ch2,by rw[e1,show T+(d*l.length+l.length)=T+l.length+d*l.length by omega];exact h2,fun fuel=>?_⟩;rw[e2,show fuel+(d*(l.length+2)+(l.length+2))=((fuel+d*(l.length+2))+l.length+1)+1 by omega,<- s2,<- s1];have hd:decide (a<l.length)=true:=dT0 (by omega);rw[Sys.loop,show d8I.loops[2]?=some a2v from rfl];simp only[Q0,a2v,a0r,a0h,a0m,BE.safe,BE.pe,IE.pe,PEnv.at,Q3,Q4,Q7,Q8,Q2,Q0,SV.pvs,SV.pv,BE.all,Qd,Qb,lst,a0G,hd,p1,p2];rfl
end
theorem isM(h o len cap sz:Nat):PV.isKind 0 (.msl h o len cap sz)=true:=rfl
structure LR (l:List Ch)(vs fs:List Int)(ch:Int)(T r:Nat):Prop where
 hv:vs.length=l.length
 hf:fs.length=l.length
 inv:∃c t,Inv l.length (gN l) (at' vs) (at' fs) c t T (r+1) 0 0/\(∀x,x<l.length->c x<=r)/\((r=0/\ch=-1)\/∃z:Nat,z<l.length/\ch=(z:Int)/\c z=r)
def d0r(σ:List MO)(l:List Ch)(res:PV×List MO):Prop :=
 (∃vs fs:List Int,vs.length=l.length/\fs.length=l.length/\(∀x y,x<l.length->y<l.length->at' vs y<=at' vs x+gN l x y)/\(∀x,x<l.length->-648000000000<=at' vs x/\at' vs x<=0) /\
  res=(.tup [.msl σ.length 0 l.length l.length 1,.nilS],σ++[.cells (a1c vs) 2,.cells (a1c fs) 3])) \/
 (∃(vs fs:List Int) (c t:Nat->Nat) (z j k:Nat),vs.length=l.length/\fs.length=l.length/\Go.Bf.Fin l.length (gN l) (at' vs) (at' fs) c t z/\j<k/\k<=l.length/\a0M (at' fs) z k=a0M (at' fs) z j /\
  res=(.tup [.nilS,.sl 1 (a2s (a1L (at' fs) z j (k-j)).reverse)],σ++[.cells (a1c vs) 2,.cells (a1c fs) 3]))
section
variable (σ:List MO)(hσ:b0b σ)(l:List Ch)(P:PV)(hP:P.rowsOf 12=some (l.map Ch.row))(hok:∀x∈l,x.ok)(hl:l.length<=30)(n:Nat)(hn:110<=n)
theorem d3F(x:Nat)(T:Nat)(hT:T<=27000)(v:Int)(h:-(24000000*(T:Int))<=v/\v<=0):-648000000000<=v/\v<=0:=by omega
include hσ hP hok hl hn in
theorem b2T:∀d r vs fs ch T,r+d=l.length->LR l vs fs ch T r->T<=r*(l.length*l.length) ->
  ∃res,d0r σ l res/\∀fuel,d8I.loop (a0B Tab n) (fuel+d*(l.length*(l.length+2)+2)+1) 1 (lst σ P l.length vs fs [ch,(l.length:Int),(r:Int)])=some res:=by
 intro d;obtain⟨p1,p2,p3⟩:=a0D hP;rw[Qp] at p1
 have hNN:l.length*(l.length*l.length)<=27000:=by
  calc l.length*(l.length*l.length)<=30*(30*30):=QZ hl (QZ hl hl)
   _=27000:=rfl
 induction d with
 | zero =>
  intro r vs fs ch T hr h hT;obtain rfl:r=l.length:=by omega
  obtain⟨hv,hf,c,t,hi,hc,hch⟩:=h;have hd:decide (l.length<l.length)=false:=by simp
  rcases hch with ⟨h0,rfl⟩|⟨z,hz,rfl,hcz⟩
  ·refine⟨_,.inl ⟨vs,fs,hv,hf,fun x y hx=>by omega,fun x hx=>by omega,rfl⟩,fun fuel=>?_⟩
   have e1:ltB (-1) 0=true:=rfl;rw[QX,Qn,Sys.loop,show d8I.loops[1]?=some a2x from rfl];simp only[Q0,a2x,↓reduceIte,a0t,a0r,BE.safe,BE.pe,IE.pe,Q3,Q4,Q7,Q8,Q1,Q2,Q0,SV.pvs,SV.pv,lst,a0G,hd,e1,a0C,true_or]
  ·have hfin:Go.Bf.Fin l.length (gN l) (at' vs) (at' fs) c t z:=⟨hi.par,hi.uniq,hz,by omega⟩
   have e1:ltB (z:Int) 0=false:=by rw[a0I];omega
   have hfl:b0b (σ++[.cells (a1c vs) 2,.cells (a1c fs) 3]):=by
    have:=(hσ.snoc vs 2).snoc fs 3;rw[X4] at this;exact this
   rw[<- hf] at hfin;obtain⟨j,k,hjk,hk,he,hev⟩:=c9v (σ++[.cells (a1c vs) 2,.cells (a1c fs) 3]) hfl (σ.length+1) fs 3 (c0l _ _ _ _) (by omega) hfin n (by omega);rw[hf] at hfin hev;refine⟨_,.inr ⟨vs,fs,c,t,z,j,k,hv,hf,hfin,hjk,by omega,he,rfl⟩,fun fuel=>?_⟩;simp only[b3o] at hev;have ho:∀rows,(PV.sl 1 rows).one=true:=fun _=>rfl
   rw[QX,Qn,Sys.loop,show d8I.loops[1]?=some a2x from rfl];simp only[Q0,a2x,↓reduceIte,a0t,a0r,a0l,BE.safe,BE.pe,IE.pe,Q3,Q4,Q7,Q8,Q1,a0w,a0p,a0x,Q2,Q0,PEnv.push,Q6,Q5,SV.pvs,SV.pv,lst,a0G,hd,e1,hev,ho,a0C,true_or]
 | succ d ih =>
  intro r vs fs ch T hr h hT;obtain⟨hv,hf,c,t,hi,hc,hch⟩:=h;have hT2:T+l.length*l.length<=(r+1)*(l.length*l.length):=by rw[QY];omega
  have hT3:(r+1)*(l.length*l.length)<=l.length*(l.length*l.length):=Nat.mul_le_mul_right _ (by omega);have hLS:LS l vs fs (-1) T (r+1) 0 0:=⟨hv,hf,c,t,hi,.inl ⟨rfl,fun x hx=>by have:=hc x hx;omega⟩⟩;obtain⟨vs1,fs1,ch1,h1,s1⟩:=d6K σ l P hP hok hl n (by omega) (r:Int) (r+1) (by omega) l.length 0 vs fs (-1) T (by omega) hLS (by omega);obtain⟨hv1,hf1,c1,t1,hi1,hch1⟩:=h1;have hd:decide (r<l.length)=true:=dT0 (by omega);have hd2:decide (l.length<l.length)=false:=by simp
  have first:∀fuel,d8I.loop (a0B Tab n) ((fuel+l.length*(l.length+2))+1) 1 (lst σ P l.length vs fs [ch,(l.length:Int),(r:Int)])=d8I.loop (a0B Tab n) fuel 2 (lst σ P l.length vs1 fs1 [ch1,(l.length:Int),(r:Int),(l.length:Int),(l.length:Int)]):=by
   intro fuel;rw[<- s1,Sys.loop,show d8I.loops[1]?=some a2x from rfl];simp only[Q0,a2x,↓reduceIte,a0r,a0h,a0m,BE.safe,BE.pe,IE.pe,PEnv.at,Q3,Q4,Q7,Q8,Q2,Q0,SV.pvs,SV.pv,BE.all,Qd,Qb,lst,a0G,hd,p1,p2];rfl
  have e2:(d+1)*(l.length*(l.length+2)+2)=d*(l.length*(l.length+2)+2)+(l.length*(l.length+2)+2):=QY _ _;rcases hch1 with ⟨rfl,hno⟩|⟨z,hz,rfl,hcz⟩
  ·have hst:=hi1.stable hno
   refine⟨_,.inl ⟨vs1,fs1,hv1,hf1,hst,fun x hx=>d3F x _ (by omega) _ (hi1.low x hx),rfl⟩,fun fuel=>?_⟩;have e1:ltB (-1) 0=true:=rfl;rw[e2,show fuel+(d*(l.length*(l.length+2)+2)+(l.length*(l.length+2)+2))+1=((fuel+d*(l.length*(l.length+2)+2)+1+1)+l.length*(l.length+2))+1 by omega,first];rw[Sys.loop,show d8I.loops[2]?=some a2v from rfl];simp only[Q0,a2v,↓reduceIte,a0t,a0r,BE.safe,BE.pe,IE.pe,Q3,Q4,Q7,Q8,Q1,Q2,Q0,SV.pvs,SV.pv,lst,a0G,hd2,e1,a0C,true_or]
  ·have e1:ltB (z:Int) 0=false:=by rw[a0I];omega
   have hLR:LR l vs1 fs1 (z:Int) (T+l.length*l.length) (r+1):=⟨hv1,hf1,c1,t1,hi1.round,hi1.cle,.inr ⟨z,hz,rfl,hcz⟩⟩;obtain⟨res,hres,hev⟩:=ih (r+1) vs1 fs1 (z:Int) _ (by omega) hLR hT2;refine⟨res,hres,fun fuel=>?_⟩;have q4:(leB (-9223372036854775808) ((r:Int)+1)&&leB ((r:Int)+1) 9223372036854775807)=true:=by simp[leB];omega
   rw[e2,show fuel+(d*(l.length*(l.length+2)+2)+(l.length*(l.length+2)+2))+1=((fuel+d*(l.length*(l.length+2)+2)+1+1)+l.length*(l.length+2))+1 by omega,first];rw[<- hev fuel,Sys.loop,show d8I.loops[2]?=some a2v from rfl];simp only[Q0,a2v,↓reduceIte,a0r,a0h,a0m,BE.safe,BE.pe,IE.pe,Q3,Q4,Q7,Q8,Q1,Q2,Q0,SV.pvs,SV.pv,BE.all,Qe,Qd,Qb,lst,a0G,hd2,e1,if_pos q4];rw[show ((r+1:Nat):Int)=(r:Int)+1 from by omega]
include hP hl in
theorem d6P:∀d i,i+d=l.length->∀fuel,d8I.loop (a0B Tab n) (fuel+d+1) 0 (lst σ P l.length (Qm l.length 0) (Qm i (-1)++Qm d 0) [(l.length:Int),(i:Int)])=d8I.loop (a0B Tab n) fuel 1 (lst σ P l.length (Qm l.length 0) (Qm l.length (-1)) [-1,(l.length:Int),0]):=by
 intro d;obtain⟨p1,p2,p3⟩:=a0D hP;rw[Qp] at p1
 induction d with
 | zero =>
  intro i hi fuel;obtain rfl:i=l.length:=by omega
  have hd2:decide (l.length<l.length)=false:=by simp
  rw[Sys.loop,show d8I.loops[0]?=some a3X from rfl];simp only[Q0,a3X,↓reduceIte,a0r,a0h,a0m,BE.safe,BE.pe,IE.pe,PEnv.at,Q3,Q4,Q7,Q8,Q1,Q2,Q0,Qh,SV.pvs,SV.pv,BE.all,Qd,Qb,lst,a0G,hd2,p1,p2,List.replicate_zero]
 | succ d ih =>
  intro i hi fuel;have hd:decide (i<l.length)=true:=dT0 (by omega);have q1:(leB 0 (i:Int)&&true)=true:=by simp[leB]
  have q4:(leB (-9223372036854775808) ((i:Int)+1)&&leB ((i:Int)+1) 9223372036854775807)=true:=by simp[leB];omega
  have mb2:=a4V (h:=σ.length+1) (o:=0) (cap:=l.length) (sz:=1) (off:=0) (i:=i) (len:=l.length) (by omega)
  have hset:(Qm i (-1:Int)++Qm (d+1) 0).set i (-1)=Qm (i+1) (-1)++Qm d 0:=by
   rw[List.replicate_succ,X9,X4];have:=X5 (s:=Qm i (-1:Int)) (t:=0::Qm d 0) i (-1) (by simp);rw[this];simp
  have sf:=b1i (l:=Qm i (-1:Int)++Qm (d+1) 0) (i:=i) (-1) (by simp);rw[hset] at sf;have lf:i+1<=(a1c (Qm i (-1:Int)++Qm (d+1) 0)).length:=by rw[b1j];simp
  have:=ih (i+1) (by omega) fuel;rw[<- this,show fuel+(d+1)+1=(fuel+d+1)+1 by omega,Sys.loop,show d8I.loops[0]?=some a3X from rfl];generalize a1c (Qm l.length 0)=A at *
  simp only[lst];generalize a1c (Qm i (-1:Int)++Qm (d+1) 0)=B at *
  generalize a1c (Qm (i+1) (-1:Int)++Qm d 0)=B' at *
  simp only[Q0,a3X,↓reduceIte,a0r,a0h,a0b,a0m,BE.safe,BE.pe,IE.pe,PEnv.at,Q3,Q4,Q7,Q8,a0y,Qn,Q9,Qa,Q2,Q0,SV.pvs,SV.pv,BE.all,Qe,Qd,Qb,a0G,hd,b0M,if_pos q1,if_pos q4,mb2,c0l,c5u,Qw,Qr,lf,sf,show ((i+1:Nat):Int)=(i:Int)+1 from by omega]
include hσ hP hok hl hn in
theorem c7c(hn2:l.length*(l.length*(l.length+2)+2)+l.length+10<n):∃res,d0r σ l res/\a0B Tab (n+1) b1u [P] σ=some res:=by
 obtain⟨p1,p2,p3⟩:=a0D hP;rw[Qp] at p1
 have hLR:LR l (Qm l.length 0) (Qm l.length (-1)) (-1) 0 0:=by
  refine⟨by simp,by simp,fun _=>0,fun _=>0,Inv.start _ _ _ _ (fun x hx=>by simp[at',hx]),fun _ _=>Qq _,.inl ⟨rfl,rfl⟩⟩
 obtain⟨res,hres,hev⟩:=b2T σ hσ l P hP hok hl n hn l.length 0 _ _ _ 0 (by omega) hLR (Nat.zero_le _);refine⟨res,hres,?_⟩;have hlk:=d6P σ l P hP hl n l.length 0 (by omega);have e:=hev (n-(l.length*(l.length*(l.length+2)+2)+l.length+2));rw[show ((0:Nat):Int)=0 from rfl,<- hlk] at e;rw[show n-(l.length*(l.length*(l.length+2)+2)+l.length+2)+l.length*(l.length*(l.length+2)+2)+1+l.length+1=n by omega] at e;simp only[a0B,b7O,Q0,Sys.run];show ((a0E [.sh (.one _)] _).bind _)=_;simp only[a0E,a0x,a0w,Q2,Q0,Qh,if_true,p3];show (PT.ev _ a8b _).bind _=_;have q1:(0<=((l.length:Nat):Int)/\((l.length:Nat):Int)<=1000000/\(8:Nat)<=100000000):=⟨by omega,by omega,by omega⟩;have hrep:=c4A l.length 0;simp only[a8b,a0h,a0s,a0m,BE.safe,BE.pe,IE.pe,PEnv.at,Q3,Q4,Q7,Q8,Q2,Q0,Q6,Q5,SV.pvs,SV.pv,BE.all,Qd,Qb,p1,p2,if_pos q1,QV,hrep,d2P,d2N,isM,b0M];exact e
end
def rs0(l:List Ch)(vs:List Int):Nat->Int
 | 0=>0
 | i+1=>mxI (rs0 l vs i) (a2D (a9j l (i:Int)).p (a9j l (i:Int)).w-at' vs i)
def rs1(l:List Ch)(vs:List Int)(r0:Int):Nat->Int
 | 0=>r0
 | i+1=>if (a9j l (i:Int)).w.isZ=true then 0-at' vs i else rs1 l vs r0 i
def a7b(l:List Ch)(vs:List Int):Int:=rs1 l vs (rs0 l vs l.length) l.length
theorem c9Z{l:List Ch}(hok:∀x∈l,x.ok){vs:List Int}(hb:∀x,x<l.length->-648000000000<=at' vs x/\at' vs x<=0):∀i,i<=l.length->0<=rs0 l vs i/\rs0 l vs i<=648024000000
 | 0,_=>by simp[rs0]
 | i+1,h=>by
  have ih:=c9Z hok hb i (by omega);have hxo:=hok _ (Qy (chN (x:=i) (l:=l) (by omega)));have:=a9F hxo.1 hxo.2;have:=hb i (by omega);simp only[rs0,mxI];split<;>omega
theorem c9z{l:List Ch}{vs:List Int}(hb:∀x,x<l.length->-648000000000<=at' vs x/\at' vs x<=0){r0:Int}(h0:0<=r0/\r0<=648024000000):∀i,i<=l.length->0<=rs1 l vs r0 i/\rs1 l vs r0 i<=648024000000
 | 0,_=>h0
 | i+1,h=>by
  have ih:=c9z hb h0 i (by omega);have:=hb i (by omega);simp only[rs1];split<;>omega
def cst(σ:List MO)(P:PV)(N:Nat)(vs fs:List Int)(is:List Int):PEnv :=
 {i:=is,b:=[],v:=[P,.msl σ.length 0 N N 1],m:=σ++[.cells (a1c vs) 2,.cells (a1c fs) 3],k:=σ.length}
def b5h(σ:List MO)(P:PV)(N:Nat)(vs fs:List Int)(is:List Int):PEnv :=
 {i:=is,b:=[],v:=[.msl σ.length 0 N N 1,P],m:=σ++[.cells (a1c vs) 2,.cells (a1c fs) 3],k:=σ.length}
def b7Z(σ:List MO)(N:Nat)(vs fs:List Int)(is:List Int):PEnv :=
 {i:=is,b:=[],v:=[.msl σ.length 0 N N 1],m:=σ++[.cells (a1c vs) 2,.cells (a1c fs) 3],k:=σ.length}
section
variable (σ:List MO)(hσ:b0b σ)(l:List Ch)(P:PV)(hP:P.rowsOf 12=some (l.map Ch.row))(hok:∀x∈l,x.ok)(hl:l.length<=30)(n:Nat)(hn:110<=n)
variable (vs fs:List Int)(hvs:vs.length=l.length)(hb:∀x,x<l.length->-648000000000<=at' vs x/\at' vs x<=0)
include hP hok hl hn hvs hb in
theorem d8c(i fuel:Nat)(hi:i<l.length):d8M.loop (a0B Tab n) (fuel+1) 0 (cst σ P l.length vs fs [rs0 l vs i,(l.length:Int),(i:Int)])=d8M.loop (a0B Tab n) fuel 0 (cst σ P l.length vs fs [rs0 l vs (i+1),(l.length:Int),((i+1:Nat):Int)]):=by
 obtain⟨p1,p2,p3⟩:=a0D hP;rw[Qp] at p1;have ex:=chN hi;have hxo:=hok _ (Qy ex);have c1:=a7A (σ++[.cells (a1c vs) 2,.cells (a1c fs) 3]) _ _ hxo.1 hxo.2 n (by omega);have lx:=a0J (off:=0) hP (a9A ex);have dva:=a6y (a8h (l:=vs) (i:=i) (by omega));have ma:=a4V (h:=σ.length) (o:=0) (cap:=l.length) (sz:=1) (off:=0) hi;have hbi:=hb i hi;have hcb:=a9F hxo.1 hxo.2;have e2:((i+1:Nat):Int)=(i:Int)+1:=by omega
 have hd:decide (i<l.length)=true:=dT0 hi;have q1:(leB 0 (i:Int)&&true)=true:=by simp[leB]
 have q4:(leB (-9223372036854775808) ((i:Int)+1)&&leB ((i:Int)+1) 9223372036854775807)=true:=by simp[leB];omega
 simp only[rs0];generalize rs0 l vs i=r at *
 generalize a9j l (i:Int)=x at *
 generalize a2D x.p x.w=u at *
 have q5:(leB (-9223372036854775808) (u-at' vs i)&&leB (u-at' vs i) 9223372036854775807)=true:=by simp[leB];omega
 simp only[a6Y,W6.pv] at c1
 have hev:a3P.ev (a0B Tab n) (cst σ P l.length vs fs [r,(l.length:Int),(i:Int)])=some (.jump 0 (cst σ P l.length vs fs [mxI r (u-at' vs i),(l.length:Int),(i:Int)+1])):=by
  unfold a3P;simp only[a0r,a0h,a0k,BE.safe,BE.pe,IE.pe,PEnv.at,Q3,Q4,Q7,a0y,a0e,a0z,Qt,Q9,Qa,Nat.reduceAdd,Qq,Q1,Qk,Qj,a0w,Q2,Q0,PEnv.push,Q6,Q5,Qe,cst,p1,b0M,a0G,hd,if_pos q1,lx,a1W]
  repeat' (first
   | with_reducible rfl
   | apply a4g
   | (unfold a6M;simp only[a0h,a0k,a0l,a0m,BE.safe,BE.pe,IE.pe,Q3,Q4,Q7,Q8,a0y,a0e,a0z,Qn,Q9,Qa,Q1,Qk,Qj,a0w,a0p,a0x,Q2,Q0,PEnv.push,Q6,Q5,SV.pvs,SV.pv,BE.all,Qe,Qd,Qb,if_pos q4,if_pos q5,ma,c1,a6K,MO.list,Qw,Qr,dva,QC];done)
   | (unfold a6M;simp only[a0t,a0r,a0h,a0k,a0q,a0v,a0i,a0u,a0n,a0l,a0g,a0j,a0s,a0b,a0o,a0f,a0c,a0a,a0d,a0m,BE.safe,BE.pe,IE.pe,PEnv.at,Q3,Q4,Q7,Q8,a0y,a0A,a0e,a0z,Qn,Qt,Q9,Qa,Nat.reduceAdd,Qq,if_true,if_false,Q1,Qk,Qj,a0w,a0p,a0x,Q2,Q0,PEnv.push,Q6,Q5,Qh,SV.pvs,SV.pv,BE.all,Qe,Qf,Qg,Qd,Qb,p1,b0M,a0G,hd,if_pos q1,if_pos q4,if_pos q5,lx,ma,a1W,c1,a6K,MO.list,Qw,Qr,dva,QC])
   | (unfold a6A;simp only[a0h,a0k,a0l,a0m,BE.safe,BE.pe,IE.pe,Q3,Q4,Q7,Q8,a0y,a0e,a0z,Qn,Q9,Qa,Q1,Qk,Qj,a0w,a0p,a0x,Q2,Q0,PEnv.push,Q6,Q5,SV.pvs,SV.pv,BE.all,Qe,Qd,Qb,if_pos q4,if_pos q5,ma,c1,a6K,MO.list,Qw,Qr,dva,QC];done)
   | (unfold a6A;simp only[a0t,a0r,a0h,a0k,a0q,a0v,a0i,a0u,a0n,a0l,a0g,a0j,a0s,a0b,a0o,a0f,a0c,a0a,a0d,a0m,BE.safe,BE.pe,IE.pe,PEnv.at,Q3,Q4,Q7,Q8,a0y,a0A,a0e,a0z,Qn,Qt,Q9,Qa,Nat.reduceAdd,Qq,if_true,if_false,Q1,Qk,Qj,a0w,a0p,a0x,Q2,Q0,PEnv.push,Q6,Q5,Qh,SV.pvs,SV.pv,BE.all,Qe,Qf,Qg,Qd,Qb,p1,b0M,a0G,hd,if_pos q1,if_pos q4,if_pos q5,lx,ma,a1W,c1,a6K,MO.list,Qw,Qr,dva,QC]))
 rw[e2,Sys.loop,show d8M.loops[0]?=some a3P from rfl,Q0,hev,Q0]
include hP hl hvs hb in
theorem d7H(r0:Int)(i fuel:Nat)(hi:i<l.length):d8M.loop (a0B Tab n) (fuel+1) 1 (b5h σ P l.length vs fs [rs1 l vs r0 i,(l.length:Int),(i:Int)])=d8M.loop (a0B Tab n) fuel 1 (b5h σ P l.length vs fs [rs1 l vs r0 (i+1),(l.length:Int),((i+1:Nat):Int)]):=by
 obtain⟨p1,p2,p3⟩:=a0D hP;rw[Qp] at p1;have ex:=chN hi;have lx:=a0J (off:=0) hP (a9A ex);have dva:=a6y (a8h (l:=vs) (i:=i) (by omega));have ma:=a4V (h:=σ.length) (o:=0) (cap:=l.length) (sz:=1) (off:=0) hi;have hbi:=hb i hi;have e2:((i+1:Nat):Int)=(i:Int)+1:=by omega
 have hd:decide (i<l.length)=true:=dT0 hi;have q1:(leB 0 (i:Int)&&true)=true:=by simp[leB]
 have q4:(leB (-9223372036854775808) ((i:Int)+1)&&leB ((i:Int)+1) 9223372036854775807)=true:=by simp[leB];omega
 have q5:(leB (-9223372036854775808) (0-at' vs i)&&leB (0-at' vs i) 9223372036854775807)=true:=by simp[leB];omega
 simp only[rs1];generalize rs1 l vs r0 i=r at *
 generalize a9j l (i:Int)=x at *
 have hz:(eqB x.w.a 0&&(eqB x.w.b 0&&(eqB x.w.c 0&&(eqB x.w.d 0&&(eqB x.w.e 0&&eqB x.w.f 0)))))=x.w.isZ:=rfl;rw[e2,Sys.loop,show d8M.loops[1]?=some a3O from rfl,Q0];cases hzz:x.w.isZ with
 | true=>simp only[a3O,↓reduceIte,a0r,a0h,a0k,a0m,BE.safe,BE.pe,IE.pe,PEnv.at,Q3,Q4,Q7,Q8,a0y,a0e,a0z,Qn,Qt,Q9,Qa,Nat.reduceAdd,Qq,Q1,Qk,Qj,a0w,Q2,Q0,PEnv.push,Q6,Q5,SV.pvs,SV.pv,BE.all,Qe,Qd,Qb,b5h,p1,b0M,a0G,hd,if_pos q1,if_pos q4,if_pos q5,lx,ma,a1W,hz,hzz,a6K,MO.list,Qw,Qr,dva,QC]
 | false=>simp only[a3O,↓reduceIte,a0r,a0h,a0k,a0m,BE.safe,BE.pe,IE.pe,PEnv.at,Q3,Q4,Q7,Q8,a0y,a0e,a0z,Qn,Qt,Q9,Qa,Nat.reduceAdd,Qq,Q1,Qk,Qj,a0w,Q2,Q0,PEnv.push,Q6,Q5,SV.pvs,SV.pv,BE.all,Qe,Qd,Qb,b5h,p1,b0M,a0G,hd,if_pos q1,if_pos q4,lx,ma,a1W,hz,hzz,a6K,MO.list,Qw,Qr,dva,QC]
end
theorem c7o(k:Nat)(l:List Int):PV.lowss k (a2s l)=true:=by
 induction l with
 | nil=>rfl
 | cons z l ih=>simpa[a2s,PV.lowss,PV.lows,PV.low] using ih
def b0e(vs:List Int)(r:Int)(i:Nat):List Int:=(vs.take i).map (·+r)++vs.drop i
theorem d1g(vs:List Int)(r:Int)(i:Nat):(b0e vs r i).length=vs.length:=by simp[b0e];omega
theorem c7N{vs:List Int}{r:Int}{i:Nat}(h:i<vs.length):at' (b0e vs r i) i=at' vs i:=by
 unfold at' b0e;rw[List.getElem?_append_right (by simp;omega)];simp[show min i vs.length=i by omega]
theorem d1Q{vs:List Int}{r:Int}{i:Nat}(h:i<vs.length):(b0e vs r i).set i (at' vs i+r)=b0e vs r (i+1):=by
 unfold b0e;rw[X2,a8h h,a4v (a8h h)];have hl:i=((vs.take i).map (·+r)).length:=by simp;omega
 have:=X5 (s:=(vs.take i).map (·+r)) (t:=at' vs i::vs.drop (i+1)) i (at' vs i+r) (by simp;omega);rw[this];simp[show min i vs.length=i by omega]
section
variable (σ:List MO)(hσ:b0b σ)(N:Nat)(hN:N<=30)(n:Nat)(r:Int)(vs fs:List Int)(hvs:vs.length=N)(hr:0<=r/\r<=648024000000)(hb:∀x,x<N->-648000000000<=at' vs x/\at' vs x<=0)
include hN in
theorem d7O(i fuel:Nat)(hi:i<N)(cur:List Int)(hc:cur.length=N)(hq:-1000000000000<=at' cur i+r/\at' cur i+r<=1000000000000) :
  d8M.loop (a0B Tab n) (fuel+1) 2 (b7Z σ N cur fs [r,(N:Int),(i:Int)])=d8M.loop (a0B Tab n) fuel 2 (b7Z σ N (cur.set i (at' cur i+r)) fs [r,(N:Int),((i+1:Nat):Int)]):=by
 have dva:=a6y (a8h (l:=cur) (i:=i) (by omega));have ma:=a4V (h:=σ.length) (o:=0) (cap:=N) (sz:=1) (off:=0) hi;have e2:((i+1:Nat):Int)=(i:Int)+1:=by omega
 have hd:decide (i<N)=true:=dT0 hi;have q1:(leB 0 (i:Int)&&true)=true:=by simp[leB]
 have q4:(leB (-9223372036854775808) ((i:Int)+1)&&leB ((i:Int)+1) 9223372036854775807)=true:=by simp[leB];omega
 have q5:(leB (-9223372036854775808) (at' cur i+r)&&leB (at' cur i+r) 9223372036854775807)=true:=by simp[leB];omega
 have sv:=b1i (l:=cur) (i:=i) (at' cur i+r) (by omega);have lv:i+1<=(a1c cur).length:=by rw[b1j];omega
 rw[e2,Sys.loop,show d8M.loops[2]?=some a4J from rfl,Q0];simp only[a4J,↓reduceIte,a0r,a0h,a0k,a0b,a0m,BE.safe,BE.pe,IE.pe,PEnv.at,Q3,Q4,Q7,a0y,a0e,a0z,Qn,Q9,Qa,Q1,Qk,Qj,a0w,Q2,Q0,PEnv.push,Q6,Q5,SV.pvs,SV.pv,BE.all,Qe,Qd,Qb,b7Z,b0M,a0G,hd,if_pos q1,if_pos q4,if_pos q5,ma,a6K,b4m,MO.list,Qw,Qr,dva,QC,lv,sv]
include hN hvs hr hb in
theorem d5S:∀d i,i+d=N->∀fuel,d8M.loop (a0B Tab n) (fuel+d) 2 (b7Z σ N (b0e vs r i) fs [r,(N:Int),(i:Int)])=d8M.loop (a0B Tab n) fuel 2 (b7Z σ N (b0e vs r N) fs [r,(N:Int),(N:Int)]):=by
 intro d
 induction d with
 | zero=>intro i hi fuel;rw[Qn] at hi;subst hi;rfl
 | succ d ih =>
  intro i hi fuel;have hbi:=hb i (by omega);have h:=d7O σ N hN n r fs i (fuel+d) (by omega) (b0e vs r i) (by rw[d1g,hvs]) (by rw[c7N (by omega)];omega);rw[c7N (by omega),d1Q (by omega)] at h;rw[show fuel+(d+1)=(fuel+d)+1 from rfl,h];exact ih (i+1) (by omega) fuel
include hσ in
theorem d4C(cur:List Int)(hc:cur.length=N)(fuel:Nat):d8M.loop (a0B Tab n) (fuel+1) 2 (b7Z σ N cur fs [r,(N:Int),(N:Int)])=some (.tup [.agg [.nilS,.sl 1 (a2s cur)],.bool true],σ):=by
 have hd:decide (N<N)=false:=by simp
 have hr:=c0U cur;rw[hc] at hr;rw[Sys.loop,show d8M.loops[2]?=some a4J from rfl];simp only[Q0,a4J,↓reduceIte,a0t,a0r,BE.safe,BE.pe,IE.pe,Q3,Q4,Q7,Q1,Q2,Q0,SV.pvs,SV.pv,b7Z,a0G,hd];have hm3:(σ++[.cells (a1c cur) 2,.cells (a1c fs) 3]:List MO).length=σ.length+2:=by simp
 have h1:¬(false=true\/σ.length+2=σ.length):=by simp
 have h2:¬(σ.length<σ.length):=by omega
 simp only[a0C,hm3,X6,hσ σ.length,PV.frz,PV.frzs,if_neg h2,b0a,a6K,c2x,MO.list,hr,↓reduceIte,Qt,Qq,Q1,Q2,Q0,];simp[]
end
section
variable (σ:List MO)(hσ:b0b σ)(l:List Ch)(P:PV)(hP:P.rowsOf 12=some (l.map Ch.row))(hl:l.length<=30)(n:Nat)(hn:30000<=n)
def c5B(l:List Ch)(p:PV):Prop :=
 (¬(∀x∈l,x.ok)/\p=.tup [.agg [.nilS,.nilS],.bool false]) \/
 ((∀x∈l,x.ok)/\∃vs:List Int,vs.length=l.length/\(∀x y,x<l.length->y<l.length->at' vs y<=at' vs x+gN l x y)/\(∀x,x<l.length->-648000000000<=at' vs x/\at' vs x<=0) /\
  p=.tup [.agg [.nilS,.sl 1 (a2s (vs.map (·+a7b l vs)))],.bool true]) \/
 ((∀x∈l,x.ok)/\∃(vs fs:List Int) (c t:Nat->Nat) (z j k:Nat),Go.Bf.Fin l.length (gN l) (at' vs) (at' fs) c t z/\j<k/\k<=l.length/\a0M (at' fs) z k=a0M (at' fs) z j /\
  p=.tup [.agg [.sl 1 (a2s (a1L (at' fs) z j (k-j)).reverse),.nilS],.bool false])
include hσ hP hl hn in
theorem c9M:∃p,c5B l p/\a0B Tab n a9k [P] σ=some (p,σ):=by
 obtain⟨n,rfl⟩:∃k,n=k+1:=⟨n-1,by omega⟩;obtain⟨p1,p2,p3⟩:=a0D hP;rw[Qp] at p1;have c1:=d3g σ l P hP n (by omega) (by omega);simp only[b0v] at c1;simp only[a0B,b9E,Q0,Sys.run];show ∃p,c5B l p/\((a0E [.sh (.one _)] _).bind _)=_;simp only[a0E,a0x,a0w,Q2,Q0,Qh,if_true,p3];show ∃p,c5B l p/\(PT.ev _ a9u _).bind _=_;simp only[a9u,↓reduceIte,a0t,a0r,a0h,a0l,a0m,BE.safe,BE.pe,IE.pe,PEnv.at,Q3,Q4,Q7,Q8,a0w,a0p,a0x,Q2,Q0,PEnv.push,Q6,Q5,SV.pvs,SV.pv,BE.all,Qd,Qb,c1];by_cases ha:(l.all fun x=>decide x.ok)=true
 case neg =>
  have hno:¬∀x∈l,x.ok:=fun h=>ha (Xa.2 fun x hx=>dT0 (h x hx))
  rw[QQ] at ha;rw[ha];refine⟨_,.inl ⟨hno,rfl⟩,?_⟩;simp only[↓reduceIte,Q1,Q2,Q0,Qg,a0C,or_true]
 have hok:∀x∈l,x.ok:=fun x hx=>by simpa using (Xa.1 ha) x hx
 rw[ha];obtain⟨m,rfl⟩:∃k,n=k+1:=⟨n-1,by omega⟩
 have hNN:l.length*(l.length*(l.length+2)+2)<=28860:=by
  calc l.length*(l.length*(l.length+2)+2)<=30*(30*(30+2)+2):=QZ hl (Nat.add_le_add_right (QZ hl (by omega)) 2)
   _=28860:=rfl
 obtain⟨res,hres,hev⟩:=c7c σ hσ l P hP hok hl m (by omega) (by omega);simp only[b1u] at hev;rcases hres with ⟨vs,fs,hvs,hfs,hst,hlow,rfl⟩|⟨vs,fs,c,t,z,j,k,hvs,hfs,hfin,hjk,hk,he,rfl⟩
 ·refine⟨_,.inr (.inl ⟨hok,vs,hvs,hst,hlow,rfl⟩),?_⟩
  have ho:∀h o len cap sz,(PV.msl h o len cap sz).one=true:=fun _ _ _ _ _=>rfl
  have hon:PV.nilS.one=true:=rfl;have hk0:PV.isKind 0 .nilS=true:=rfl;have hno:PV.nilS.nilOk=true:=rfl;have hni:PV.nilS.isNil=true:=rfl;simp only[↓reduceIte,Q3,Q4,Q7,Q1,a0w,a0x,Q2,Q0,Q6,Q5,Qh,Qf,hev,a0U,ho,hon,hk0,hno,hni,p1,p2];have b0:=c9Z hok hlow l.length (Qq _);have b1:=c9z hlow b0 l.length (Qq _)
  have d1N:∀d i,i+d=l.length->∀fuel,d8M.loop (a0B Tab (m+1)) (fuel+d) 0 (cst σ P l.length vs fs [rs0 l vs i,(l.length:Int),(i:Int)])=d8M.loop (a0B Tab (m+1)) fuel 0 (cst σ P l.length vs fs [rs0 l vs l.length,(l.length:Int),(l.length:Int)]):=by
   intro d
   induction d with
   | zero=>intro i hi fuel;rw[Qn] at hi;subst hi;rfl
   | succ d ih=>intro i hi fuel;rw[show fuel+(d+1)=(fuel+d)+1 from rfl,d8c σ l P hP hok hl (m+1) (by omega) vs fs hvs hlow i _ (by omega)];exact ih (i+1) (by omega) fuel
  have d1K:∀d i,i+d=l.length->∀fuel,d8M.loop (a0B Tab (m+1)) (fuel+d) 1 (b5h σ P l.length vs fs [rs1 l vs (rs0 l vs l.length) i,(l.length:Int),(i:Int)])=d8M.loop (a0B Tab (m+1)) fuel 1 (b5h σ P l.length vs fs [a7b l vs,(l.length:Int),(l.length:Int)]):=by
   intro d
   induction d with
   | zero=>intro i hi fuel;rw[Qn] at hi;subst hi;rfl
   | succ d ih=>intro i hi fuel;rw[show fuel+(d+1)=(fuel+d)+1 from rfl,d7H σ l P hP hl (m+1) vs fs hvs hlow _ i _ (by omega)];exact ih (i+1) (by omega) fuel
  have hd:decide (l.length<l.length)=false:=by simp
  have x0:∀fuel,d8M.loop (a0B Tab (m+1)) (fuel+1) 0 (cst σ P l.length vs fs [rs0 l vs l.length,(l.length:Int),(l.length:Int)])=d8M.loop (a0B Tab (m+1)) fuel 1 (b5h σ P l.length vs fs [rs0 l vs l.length,(l.length:Int),0]):=by
   intro fuel;rw[Sys.loop,show d8M.loops[0]?=some a3P from rfl];simp only[Q0,a3P,↓reduceIte,a0r,a0h,a0m,BE.safe,BE.pe,IE.pe,PEnv.at,Q3,Q4,Q7,Q8,Q1,Q2,Q0,SV.pvs,SV.pv,BE.all,Qd,Qb,cst,b5h,a0G,hd,p1,p2]
  have x1:∀fuel,d8M.loop (a0B Tab (m+1)) (fuel+1) 1 (b5h σ P l.length vs fs [a7b l vs,(l.length:Int),(l.length:Int)])=d8M.loop (a0B Tab (m+1)) fuel 2 (b7Z σ l.length vs fs [a7b l vs,(l.length:Int),0]):=by
   intro fuel;rw[Sys.loop,show d8M.loops[1]?=some a3O from rfl];simp only[Q0,a3O,↓reduceIte,a0r,a0h,a0m,BE.safe,BE.pe,IE.pe,PEnv.at,Q3,Q4,Q7,Q1,Q2,Q0,SV.pvs,SV.pv,BE.all,Qd,Qb,b5h,b7Z,a0G,hd,isM,b0M]
  have run2:=d5S σ l.length hl (m+1) (a7b l vs) vs fs hvs b1 hlow l.length 0 (by omega);have hcur0:b0e vs (a7b l vs) 0=vs:=by simp[b0e]
  have hcurN:b0e vs (a7b l vs) l.length=vs.map (·+a7b l vs):=by rw[<- hvs];simp[b0e]
  have fin:=d4C σ hσ l.length (m+1) (a7b l vs) fs (vs.map (·+a7b l vs)) (by simp[hvs]);rw[hcur0,hcurN] at run2;have e0:=d1N l.length 0 (by omega);have e1:=d1K l.length 0 (by omega);have tot:=fin (m+1-3*l.length-3);rw[<- run2,show ((0:Nat):Int)=0 from rfl,<- x1,<- e1] at tot;have hs1:rs1 l vs (rs0 l vs l.length) 0=rs0 l vs l.length:=rfl;rw[hs1,show ((0:Nat):Int)=0 from rfl,<- x0,<- e0] at tot;rw[show m+1-3*l.length-3+1+l.length+1+l.length+1+l.length=m+1 by omega] at tot;exact tot
 ·refine⟨_,.inr (.inr ⟨hok,vs,fs,c,t,z,j,k,hfin,hjk,hk,he,rfl⟩),?_⟩
  have hne:a2s (a1L (at' fs) z j (k-j)).reverse≠[]:=by
   intro h;have:=congrArg List.length h;simp[a2s,a7X] at this;omega
  have hlw:PV.lowss σ.length (a2s (a1L (at' fs) z j (k-j)).reverse)=true:=c7o _ _;generalize a2s (a1L (at' fs) z j (k-j)).reverse=rows at *
  have ho:(PV.sl 1 rows).one=true:=rfl;have hon:PV.nilS.one=true:=rfl;have hk0:PV.isKind 0 (.sl 1 rows)=true:=rfl;have hno:(PV.sl 1 rows).nilOk=true:=by cases rows with|nil=>exact absurd rfl hne|cons a r=>rfl
  have hni:(PV.sl 1 rows).isNil=false:=rfl;simp only[↓reduceIte,Q3,Q4,Q7,Q8,Q1,a0w,a0x,Q2,Q0,Q6,Q5,Qh,Qf,Qg,hev,a0U,ho,hon,hk0,hno,hni,p1,p2];have hm3:(σ++[.cells (a1c vs) 2,.cells (a1c fs) 3]:List MO).length=σ.length+2:=by simp
  have h1:¬(false=true\/σ.length+2=σ.length):=by simp
  simp only[a0C,hm3,X6,hσ σ.length,PV.frz,PV.frzs,hlw,↓reduceIte,Qq,Q1,Q2,Q0,];simp[]
end
def Pot(l:List Ch):Prop:=∃π:Nat->Int,∀x y,x<l.length->y<l.length->π y<=π x+gN l x y
theorem d1a(σ:List MO)(hσ:b0b σ)(l:List Ch)(P:PV)(hP:P.rowsOf 12=some (l.map Ch.row))(hl:l.length<=30)(n:Nat)(hn:30000<=n) :
  ∃w1 w2 b,a0B Tab n a9k [P] σ=some (.tup [.agg [w1,w2],.bool b],σ)/\w1.one=true/\w2.one=true/\(b=true↔(∀x∈l,x.ok)/\Pot l):=by
 obtain⟨p,hp,he⟩:=c9M σ hσ l P hP hl n hn;rcases hp with ⟨hno,rfl⟩|⟨hok,vs,_,hst,_,rfl⟩|⟨hok,vs,fs,c,t,z,j,k,hfin,_,_,_,rfl⟩
 ·exact⟨_,_,_,he,rfl,rfl,by simp[hno]⟩
 ·refine⟨_,_,_,he,rfl,rfl,?_⟩
  exact⟨fun _=>⟨hok,at' vs,hst⟩,fun _=>rfl⟩
 ·refine⟨_,_,_,he,rfl,rfl,?_⟩
  constructor
  ·intro h;cases h
  ·rintro⟨_,π,hπ⟩
   exact(hfin.none π hπ).elim
def w0:W6:=⟨0,0,0,0,0,0⟩
def wa(W:List W6)(k:Nat):W6:=(W[k]?).getD w0
theorem b9n{W:List W6}{i:Nat}{x:W6}(h:W[i]?=some x):wa W i=x:=by simp[wa,h]
section
variable (l:List Ch)
end
section
variable (l:List Ch)(hok:∀x∈l,x.ok)
include hok
end
section
variable (σ:List MO)(l:List Ch)(P:PV)(hP:P.rowsOf 12=some (l.map Ch.row))(hok:∀x∈l,x.ok)(hl:l.length<=30)(n:Nat)(hn:1<=n)
end
section
variable (σ:List MO)(hσ:b0b σ)(l:List Ch)(P:PV)(hP:P.rowsOf 12=some (l.map Ch.row))(hok:∀x∈l,x.ok)(hl:l.length<=30)(n:Nat)(hn:1<=n)
end
def c1W(s:St)(i:Int)(l:List Ch)(x:Ch):Bool:=leB (b9e s.ps x.w) (c8L s i l)
section
variable (σ:List MO)(s:St)(hs:s.Ok)(i:Int)(l:List Ch)(L:PV)(hL:L.rowsOf 12=some (l.map Ch.row))(hl:l.length<=29)(x:Ch)(n:Nat)
include hs hL hl in
theorem c6B(hn:1300<=n):a0B Tab n a5r [.agg (a9w s i L),.agg x.row] σ=some (.bool (c1W s i l x),σ):=by
 obtain⟨n,rfl⟩:∃k,n=k+1:=⟨n-1,by omega⟩;obtain⟨p1,p2,p3⟩:=a0D hs.P;obtain⟨b1,b2,b3⟩:=a0D hs.B;obtain⟨l1,l2,l3⟩:=a0D hL;have c1:=c1l σ s hs i L l3 x n (by omega);have c2:=d2r σ s hs i l L hL (by omega) n (by omega);simp only[a4R,a8V,a9w,St.pv,a1W] at c1 c2;simp only[a0B,b2o,Q0,Sys.run,a9w,a1W];show ((a0E [.sh (.agg [_,_,_,_,_,_]),.sh (.agg [_,_,_,_,_,_,_,_,_,_,_,_])] _).bind _)=_;simp only[a0E,a0x,a0w,Q2,Q0,Qh,Q5,Q6,if_true,p3,b3,hs.C,hs.A,l3];show (PT.ev _ a5o _).bind _=_;simp only[a5o,↓reduceIte,a0t,a0l,BE.safe,BE.pe,IE.pe,Q3,Q4,Q7,Q8,Q1,a0w,a0p,a0x,Q2,Q0,PEnv.push,Q6,Q5,SV.pvs,SV.pv,c1,c2,a0C,or_true,c1W]
include hs hL hl in
theorem c8H(hσ:b0b σ)(hn:31000<=n):∃b,a0B Tab n a1Z [.agg (a9w s i L),.agg x.row] σ=some (.bool b,σ)/\(b=true↔(∀y∈l++[x],y.ok)/\Pot (l++[x])):=by
 obtain⟨n,rfl⟩:∃k,n=k+1:=⟨n-1,by omega⟩;obtain⟨p1,p2,p3⟩:=a0D hs.P;obtain⟨b1,b2,b3⟩:=a0D hs.B;obtain⟨l1,l2,l3⟩:=a0D hL;obtain⟨w1,w2,b,c1,o1,o2,hb⟩:=d1a σ hσ (l++[x]) (.sl 12 ((l++[x]).map Ch.row)) (a1K _ _) (by simp;omega) n (by omega);refine⟨b,?_,hb⟩;have a2:(l++[x]).map Ch.row=l.map Ch.row++[x.row]:=by simp
 rw[a2] at c1;have r1:((1:Nat)≠0)/\(l.map Ch.row).length+1<=1000000:=by simp;omega
 have one1:∀r:List PV,[r].length=1:=fun _=>rfl
 simp only[a9k,a1W] at c1;simp only[a0B,b1r,Q0,Sys.run,a9w,a1W];show ((a0E [.sh (.agg [_,_,_,_,_,_]),.sh (.agg [_,_,_,_,_,_,_,_,_,_,_,_])] _).bind _)=_;simp only[a0E,a0x,a0w,Q2,Q0,Qh,Q5,Q6,if_true,p3,b3,hs.C,hs.A,l3];generalize l.map Ch.row=R at *
 have E:PT.ev (a0B Tab n) a3s {i:=[i,x.p.a,x.p.b,x.p.c,x.p.d,x.p.e,x.p.f,x.w.a,x.w.b,x.w.c,x.w.d,x.w.e,x.w.f],b:=[],v:=[s.P,s.B,s.C,s.A,L],m:=σ,k:=σ.length}=some (.ret (.bool b) σ):=by
  simp only[a3s,a0h,a0u,BE.safe,BE.pe,PEnv.at,Q3,Q4,Q7,Q8,Q0,l2,hL]
  repeat' (first
   | with_reducible rfl
   | apply a4g
   | (unfold a2S;simp only[a0t,a0l,BE.safe,BE.pe,Q3,Q7,Q8,Q1,a0w,a0p,a0x,Q2,Q0,PEnv.push,Q6,Q5,Qh,SV.pvs,SV.pv,a0U,c1,o1,o2,a0C,or_true];done)
   | (unfold a2S;simp only[a0t,a0r,a0h,a0k,a0q,a0v,a0i,a0u,a0n,a0l,a0g,a0j,a0s,a0b,a0o,a0f,a0c,a0a,a0d,a0m,BE.safe,BE.pe,IE.pe,PEnv.at,Q3,Q4,Q7,Q8,a0y,a0A,a0e,a0z,Qn,Qt,Q9,Qa,Nat.reduceAdd,Qq,if_true,if_false,Q1,Qk,Qj,a0w,a0p,a0x,Q2,Q0,PEnv.push,Q6,Q5,Qh,SV.pvs,SV.pv,BE.all,Qe,Qf,Qg,Qd,Qb,a1h,QH,QJ,QM,Qu,QK,QL,Qu,a1K,hL,Qr,if_pos a9c,if_pos r1,if_pos r1.2,a0U,c1,o1,o2,a0C,or_true])
   | (unfold a4h;simp only[a0n,IE.pe,Q3,Q4,Q7,Q8,Q9,Qa,Q0,Q6,Q5,a1h,QM,Qu,Qu,a1K,hL,Qr,if_pos r1,];done)
   | (unfold a4h;simp only[a0n,IE.pe,Q3,Q4,Q7,Q8,Q9,Qa,Q0,Q6,Q5,a1h,QM,Qu,Qu,a1K,hL,Qr,if_pos r1,])
   | (unfold a4e;simp only[a0t,a0n,a0l,BE.safe,BE.pe,IE.pe,Q3,Q4,Q7,Q8,Q9,Qa,Q1,a0w,a0p,a0x,Q2,Q0,PEnv.push,Q6,Q5,Qh,SV.pvs,SV.pv,a1h,QM,Qu,Qu,a1K,hL,Qr,if_pos r1,a0U,c1,o1,o2,a0C,or_true];done)
   | (unfold a4e;simp only[a0t,a0r,a0h,a0k,a0q,a0v,a0i,a0u,a0n,a0l,a0g,a0j,a0s,a0b,a0o,a0f,a0c,a0a,a0d,a0m,BE.safe,BE.pe,IE.pe,PEnv.at,Q3,Q4,Q7,Q8,a0y,a0A,a0e,a0z,Qn,Qt,Q9,Qa,Nat.reduceAdd,Qq,if_true,if_false,Q1,Qk,Qj,a0w,a0p,a0x,Q2,Q0,PEnv.push,Q6,Q5,Qh,SV.pvs,SV.pv,BE.all,Qe,Qf,Qg,Qd,Qb,a1h,QH,QJ,QM,Qu,QK,QL,Qu,a1K,hL,Qr,if_pos a9c,if_pos r1,if_pos r1.2,a0U,c1,o1,o2,a0C,or_true])
   | (unfold a4b;simp only[a0t,a0r,a0h,a0k,a0q,a0v,a0i,a0u,a0n,a0l,a0g,a0j,a0s,a0b,a0o,a0f,a0c,a0a,a0d,a0m,BE.safe,BE.pe,IE.pe,PEnv.at,Q3,Q4,Q7,Q8,a0y,a0A,a0e,a0z,Qn,Qt,Q9,Qa,Nat.reduceAdd,Qq,if_true,if_false,Q1,Qk,Qj,a0w,a0p,a0x,Q2,Q0,PEnv.push,Q6,Q5,Qh,SV.pvs,SV.pv,BE.all,Qe,Qf,Qg,Qd,Qb,a1h,QH,QJ,QM,Qu,QK,QL,Qu,a1K,hL,Qr,if_pos a9c,if_pos r1,if_pos r1.2,a0U,c1,o1,o2,a0C,or_true];done)
   | (unfold a4b;simp only[a0t,a0r,a0h,a0k,a0q,a0v,a0i,a0u,a0n,a0l,a0g,a0j,a0s,a0b,a0o,a0f,a0c,a0a,a0d,a0m,BE.safe,BE.pe,IE.pe,PEnv.at,Q3,Q4,Q7,Q8,a0y,a0A,a0e,a0z,Qn,Qt,Q9,Qa,Nat.reduceAdd,Qq,if_true,if_false,Q1,Qk,Qj,a0w,a0p,a0x,Q2,Q0,PEnv.push,Q6,Q5,Qh,SV.pvs,SV.pv,BE.all,Qe,Qf,Qg,Qd,Qb,a1h,QH,QJ,QM,Qu,QK,QL,Qu,a1K,hL,Qr,if_pos a9c,if_pos r1,if_pos r1.2,a0U,c1,o1,o2,a0C,or_true])
   | (unfold a4d;simp only[a0t,a0q,a0n,a0l,BE.safe,BE.pe,IE.pe,Q3,Q4,Q7,Q8,Q9,Qa,Q1,a0w,a0p,a0x,Q2,Q0,PEnv.push,Q6,Q5,Qh,SV.pvs,SV.pv,a1h,QH,QJ,QK,QL,a1K,hL,Qr,if_pos a9c,if_pos r1,a0U,c1,o1,o2,a0C,or_true];done)
   | (unfold a4d;simp only[a0t,a0r,a0h,a0k,a0q,a0v,a0i,a0u,a0n,a0l,a0g,a0j,a0s,a0b,a0o,a0f,a0c,a0a,a0d,a0m,BE.safe,BE.pe,IE.pe,PEnv.at,Q3,Q4,Q7,Q8,a0y,a0A,a0e,a0z,Qn,Qt,Q9,Qa,Nat.reduceAdd,Qq,if_true,if_false,Q1,Qk,Qj,a0w,a0p,a0x,Q2,Q0,PEnv.push,Q6,Q5,Qh,SV.pvs,SV.pv,BE.all,Qe,Qf,Qg,Qd,Qb,a1h,QH,QJ,QM,Qu,QK,QL,Qu,a1K,hL,Qr,if_pos a9c,if_pos r1,if_pos r1.2,a0U,c1,o1,o2,a0C,or_true]))
 show ((PT.ev (a0B Tab n) a3s _).bind _)=_;exact(congrArg (Option.bind · _) E).trans rfl
end
theorem d1h(σ:List MO)(x:Ch)(n:Nat)(hn:1<=n):a0B Tab n b0w [.agg x.row] σ=some (.bool (b2L x.w),σ):=by
 obtain⟨n,rfl⟩:∃k,n=k+1:=⟨n-1,by omega⟩;simp only[a0B,b6l,Q0,Sys.run,a1W];show ((a0E [.sh (.agg [_,_,_,_,_,_,_,_,_,_,_,_])] _).bind _)=_;simp only[a0E,a0x,a0w,Q2,Q0,Qh,if_true];show (PT.ev _ a7u _).bind _=_;simp only[a7u,↓reduceIte,a0t,BE.safe,BE.pe,IE.pe,Q3,Q4,Q1,Q2,Q0,SV.pv,Qe,a0C,or_true,b2L]
def c5C(s:St)(rule i:Int)(l:List Ch)(x:Ch)(ag:Bool):Int :=
 if (eqB rule 1||(eqB rule 2||eqB rule 3))=true then(if b5w s i=true then(if eqB (a3e x.w) 0=true then
  (if c3e l=true then(if b2L x.w=true then 0 else 15) else(if (if eqB rule 1=true then c1W s i l x else if eqB rule 2=true then ag else(c1W s i l x||ag))=true then 0 else 15)) else a3e x.w) else 6) else 4
section
variable (σ:List MO)(s:St)(hs:s.Ok)(rule i:Int)(l:List Ch)(L:PV)(hL:L.rowsOf 12=some (l.map Ch.row))(hl:l.length<=29)(x:Ch)(n:Nat)(ag:Bool)
include hs hL hl in
theorem c8g(hn:1301<=n)(hag:∀m,n<=m+1->m<=n->a0B Tab m a1Z [.agg (a9w s i L),.agg x.row] σ=some (.bool ag,σ)):a0B Tab n a7B [.agg (a9w s i L),.agg x.row] σ=some (.bool (c1W s i l x||ag),σ):=by
 obtain⟨n,rfl⟩:∃k,n=k+1:=⟨n-1,by omega⟩;obtain⟨p1,p2,p3⟩:=a0D hs.P;obtain⟨b1,b2,b3⟩:=a0D hs.B;obtain⟨l1,l2,l3⟩:=a0D hL;have c1:=c6B σ s hs i l L hL hl x n (by omega);have c2:=hag n (by omega) (by omega);simp only[a5r,a1Z,a9w,a1W] at c1 c2;simp only[a0B,b1m,Q0,Sys.run,a9w,a1W];show ((a0E [.sh (.agg [_,_,_,_,_,_]),.sh (.agg [_,_,_,_,_,_,_,_,_,_,_,_])] _).bind _)=_;simp only[a0E,a0x,a0w,Q2,Q0,Qh,Q5,Q6,if_true,p3,b3,hs.C,hs.A,l3];show (PT.ev _ a4O _).bind _=_;simp only[a4O,↓reduceIte,a0t,a0r,a0l,BE.safe,BE.pe,IE.pe,Q3,Q4,Q7,Q8,a0w,a0p,a0x,Q2,Q0,PEnv.push,Q6,Q5,SV.pvs,SV.pv,c1];cases c1W s i l x<;>simp only[↓reduceIte,Q3,Q1,a0w,Q2,Q0,c2,a0C,or_true,QD,Qz]
include hs hL hl in
theorem c9n(hn:1400<=n)(hag:∀m,n<=m+2->m<=n->a0B Tab m a1Z [.agg (a9w s i L),.agg x.row] σ=some (.bool ag,σ)):a0B Tab n b1R [.agg s.pv,.int .i64 rule,.int .i64 i,L,.agg x.row] σ=some (.int .i64 (c5C s rule i l x ag),σ):=by
 obtain⟨n,rfl⟩:∃k,n=k+1:=⟨n-1,by omega⟩;obtain⟨p1,p2,p3⟩:=a0D hs.P;obtain⟨b1,b2,b3⟩:=a0D hs.B;obtain⟨l1,l2,l3⟩:=a0D hL;have c1:=a9s σ s hs i n (by omega);have c2:=a2E σ x.w n (by omega);have c3:=b8H σ l L hL (by omega) n (by omega);have c4:=d1h σ x n (by omega);have c5:=c6B σ s hs i l L hL hl x n (by omega);have c6:=hag n (by omega) (by omega);have c7:=c8g σ s hs i l L hL hl x n ag (by omega) (fun m h1 h2=>hag m (by omega) (by omega));simp only[a8m,a2T,b1T,b0w,a5r,a1Z,a7B,a9w,St.pv,a1W,W6.pv] at c1 c2 c3 c4 c5 c6 c7;simp only[a0B,b8I,Q0,Sys.run,St.pv,a1W];show ((a0E [.sh (.agg [_,_,_,_]),.sh (.one _),.sh (.one _),.sh (.one _),.sh (.agg [_,_,_,_,_,_,_,_,_,_,_,_])] _).bind _)=_;simp only[a0E,a0x,a0w,Q2,Q0,Qh,Q5,Q6,if_true,p3,b3,hs.C,hs.A,l3];show (PT.ev _ a8O _).bind _=_;simp only[a8O,↓reduceIte,a0t,a0r,a0l,BE.safe,BE.pe,IE.pe,Q3,Q4,Q7,Q8,a0p,a0x,Q2,Q0,PEnv.push,Q6,Q5,SV.pvs,SV.pv,];unfold c5C;generalize c1W s i l x=ft at *
 generalize b5w s i=hb at *
 generalize c3e l=ex at *
 generalize b2L x.w=em at *
 generalize a3e x.w=bc at *
 cases eqB rule 1 with
 | true =>
  cases hb with
  | false=>simp only[↓reduceIte,Q3,Q1,a0w,Q2,Q0,Qg,c1,a0C,or_true,QD]
  | true =>
  simp only[↓reduceIte,Q3,Q4,Q1,a0w,Q2,Q0,Q6,Q5,Qh,Qf,c1,c2,QD];cases hbc:eqB bc 0 with
  | false=>simp only[↓reduceIte,Q1,Q2,Q0,Qg,a0C,or_true]
  | true =>
  simp only[↓reduceIte,Q3,Q4,Q1,a0w,Q2,Q0,Q6,Q5,Qf,c3];cases ex with
  | true=>simp only[↓reduceIte,Q3,a0w,Q2,Q0,c4];cases em<;>simp only[↓reduceIte,Q1,Q2,Q0,Qf,Qg,a0C,or_true]
  | false =>
  simp only[↓reduceIte,Q3,Q1,a0w,Q2,Q0,c5];cases ft<;>simp only[↓reduceIte,Q1,Q2,Q0,Qf,Qg,a0C,or_true]
 | false =>
  cases eqB rule 2 with
  | true =>
   cases hb with
   | false=>simp only[↓reduceIte,Q3,Q1,a0w,Q2,Q0,Qg,c1,a0C,or_true,QD,Qz]
   | true =>
   simp only[↓reduceIte,Q3,Q4,Q1,a0w,Q2,Q0,Q6,Q5,Qh,Qf,c1,c2,QD,Qz];cases hbc:eqB bc 0 with
   | false=>simp only[↓reduceIte,Q1,Q2,Q0,Qg,a0C,or_true]
   | true =>
   simp only[↓reduceIte,Q3,Q4,Q1,a0w,Q2,Q0,Q6,Q5,Qf,c3];cases ex with
   | true=>simp only[↓reduceIte,Q3,a0w,Q2,Q0,c4];cases em<;>simp only[↓reduceIte,Q1,Q2,Q0,Qf,Qg,a0C,or_true]
   | false =>
   simp only[↓reduceIte,Q3,Q1,a0w,Q2,Q0,c6];cases ag<;>simp only[↓reduceIte,Q1,Q2,Q0,Qf,Qg,a0C,or_true]
  | false =>
   cases eqB rule 3 with
   | true =>
    cases hb with
    | false=>simp only[↓reduceIte,Q3,Q1,a0w,Q2,Q0,Qg,c1,a0C,or_true,Qz]
    | true =>
    simp only[↓reduceIte,Q3,Q4,Q1,a0w,Q2,Q0,Q6,Q5,Qh,Qf,c1,c2,Qz];cases hbc:eqB bc 0 with
    | false=>simp only[↓reduceIte,Q1,Q2,Q0,Qg,a0C,or_true]
    | true =>
    simp only[↓reduceIte,Q3,Q4,Q1,a0w,Q2,Q0,Q6,Q5,Qf,c3];cases ex with
    | true=>simp only[↓reduceIte,Q3,a0w,Q2,Q0,c4];cases em<;>simp only[↓reduceIte,Q1,Q2,Q0,Qf,Qg,a0C,or_true]
    | false =>
    simp only[↓reduceIte,Q3,Q1,a0w,Q2,Q0,c7];cases (ft||ag)<;>simp only[↓reduceIte,Q1,Q2,Q0,Qf,Qg,a0C,or_true]
   | false=>simp only[↓reduceIte,Q1,Q2,Q0,a0C,or_true,Qz]
end
open Go.ChangeShapes Go.WideShapes Go.ChangeAt Go.RowKit Go.Sx
theorem c5x:w0.ok:=by simp[w0,W6.ok]
end Go.Proofs.YtmekflfjaflmkaaGreat
