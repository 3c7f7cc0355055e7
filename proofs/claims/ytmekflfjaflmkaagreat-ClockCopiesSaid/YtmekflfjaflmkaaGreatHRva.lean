/- The examples of the chapter on activity. -/
import Derived.Test.YtmekflfjaflmkaaGreatHSys
import Derived.Test.YtmekflfjaflmkaaGreatHTxd
set_option linter.unusedSimpArgs false
set_option linter.unusedVariables false
set_option linter.unusedSectionVars false
open Option renaming bind_some → Q0, map_some → Q1, getD_some → QJ, toList_some → X2
open Bool renaming false_eq_true → Q2, and_self → Qb, not_false → Qm, not_true → Qn, true_and → Qq, false_and → Qs, false_or → Qu, true_or → Qv, and_eq_true → Qw, eq_iff_iff → Qz, and_false → QN, not_eq_true' → X1
open List renaming getD_cons_zero → Q3, getD_cons_succ → Q4, nil_append → Q5, cons_append → Q6, getElem?_cons_zero → Q7, map_cons → Q8, map_nil → Q9, append_nil → Qa, getElem?_cons_succ → Qd, length_cons → Qe, drop_zero → Qf, length_nil → Qg, length_map → Qh, take_zero → Qj, take_succ_cons → Qk, drop → Qt, drop_length → Qy, any_nil → QC, mem_of_getElem? → QD, length_take → QE, getElem?_eq_some_iff → QH, drop_eq_nil_of_le → QK, take_add_one → QM, any_cons → QP, map_take → QQ, all_cons → QU, takeWhile_cons → QV, findIdx?_cons → QZ, takeWhile_nil → X0, mem_append → X3, mem_singleton → X4, findIdx?_nil → X5
open Nat renaming add_zero → Qp, le_refl → Qr, min_eq_left → X6
open Int renaming mul_le_mul → QA, toNat_natCast → QB, toNat_zero → QL, mul_nonneg → QS, natCast_add → QW, add_mul → QX, cast_ofNat_Int → QY
open _root_ renaming or_true → X7, if_pos → X8, if_neg → X9, if_true → Xf, if_false → Xp, decide_true → Xs, decide_eq_true_iff → Xt, decide_false → Xv
open Go.Sx.IE renaming pe → Xa
open Go.Sx.SV renaming pv → Xb, pvs → Xe
open Go.Sx.BE renaming safe → Xc, pe → Xd, all → Xg
open Go.Sx.Sys renaming loop → Xh, run → Xn
open Go.Sx.PT renaming ev → Xj
open Go.Sx.PEnv renaming push → Xk
open Go.Proofs.Tryz renaming prog → Xq
open Go.Sx.PV renaming sAt → Xr, sl → Xu
open Bool renaming false → ff, true → tt
open Option renaming some → sm
set_option maxRecDepth 100000
namespace Go.Proofs.YtmekflfjaflmkaaGreat
open Go.Sx
structure W6 where
 (a b c d e f:Int)
def W6.pv(x:W6):List PV:=[.int .i64 x.a,.int .i64 x.b,.int .i64 x.c,.int .i64 x.d,.int .i64 x.e,.int .i64 x.f]
def W6.ok(w:W6):Prop:=0<=w.a/\w.a<=4/\0<=w.b/\w.b<=4/\0<=w.c/\w.c<=4/\0<=w.d/\w.d<=4/\0<=w.e/\w.e<=4/\0<=w.f/\w.f<=4
instance (w:W6):Decidable w.ok:=by unfold W6.ok;infer_instance
def W6.pok(w:W6):Prop:=0<=w.a/\w.a<=1000000/\0<=w.b/\w.b<=1000000/\0<=w.c/\w.c<=1000000/\0<=w.d/\w.d<=1000000/\0<=w.e/\w.e<=1000000/\0<=w.f/\w.f<=1000000
instance (w:W6):Decidable w.pok:=by unfold W6.pok;infer_instance
def a4o(w:W6):Int:=if w.ok then 0 else 4
def a3g(p w:W6):Int:=p.a*w.a+p.b*w.b+p.c*w.c+p.d*w.d+p.e*w.e+p.f*w.f
structure Ch where
 (p w:W6)
def Ch.row(c:Ch):List PV:=c.p.pv++c.w.pv
def Ch.ok(c:Ch):Prop:=c.p.pok/\c.w.ok
instance (c:Ch):Decidable c.ok:=by unfold Ch.ok;infer_instance
theorem Ch.ok_dec(x:Ch):decide x.ok=(decide x.p.pok&&decide x.w.ok):=by
 rw[Qz,Xt,Qw,Xt,Xt];exact Iff.rfl
def c1i(a b:Ch):Int:=a3g a.p b.w-a3g a.p a.w
theorem d0H{x y:Int}(h1:0<=x)(h2:x<=1000000)(h3:0<=y)(h4:y<=4):0<=x*y/\x*y<=4000000:=by
 constructor
 ·exact QS h1 h3
 ·calc x*y<=1000000*4:=QA h2 h4 h3 (by omega)
   _=4000000:=by decide
theorem c8G{p w:W6}(hp:p.pok)(hw:w.ok):(0<=p.a*w.a/\p.a*w.a<=4000000)/\(0<=p.b*w.b/\p.b*w.b<=4000000)/\(0<=p.c*w.c/\p.c*w.c<=4000000)/\(0<=p.d*w.d/\p.d*w.d<=4000000)/\(0<=p.e*w.e/\p.e*w.e<=4000000)/\(0<=p.f*w.f/\p.f*w.f<=4000000):=by
 simp only[W6.pok,W6.ok] at hp hw;exact⟨d0H (by omega) (by omega) (by omega) (by omega),d0H (by omega) (by omega) (by omega) (by omega),d0H (by omega) (by omega) (by omega) (by omega),d0H (by omega) (by omega) (by omega) (by omega),d0H (by omega) (by omega) (by omega) (by omega),d0H (by omega) (by omega) (by omega) (by omega)⟩
theorem b4l{p w:W6}(hp:p.pok)(hw:w.ok):0<=a3g p w/\a3g p w<=24000000:=by
 have:=c8G hp hw;simp only[a3g];omega
theorem e6D{a b:Ch}(ha:a.ok)(hb:b.ok):-24000000<=c1i a b/\c1i a b<=24000000:=by
 have:=b4l ha.1 hb.2;have:=b4l ha.1 ha.2;simp only[c1i];omega
theorem a5x(σ:List MO)(w:W6)(n:Nat)(hn:1<=n):a0a Tab n 85 [.agg w.pv] σ=sm (.int .i64 (a4o w),σ):=by
 obtain⟨n,rfl⟩:=a0L n (by omega);simp only[a0a,d7T,Q0,Xn,W6.pv];show ((a0i [.sh (.agg [_,_,_,_,_,_])] _).bind _)=_;simp only[a0i,a0m,a0c,Q1,Q0,Qa,Xf];show (Xj _ c1P _).bind _=_;simp only[c1P,↓reduceIte,Xj,Xc,Xd,Xa,Q3,Q4,Q2,Q1,Q0,Xb,a0n,X7];obtain⟨a,b,c,d,e,f⟩:=w;simp only[a0U,a4o];by_cases hok:(⟨a,b,c,d,e,f⟩:W6).ok
 ·rw[X8 hok]
  simp only[W6.ok] at hok
  repeat rw[X9 (by omega)]
  rfl
 ·rw[X9 hok]
  simp only[W6.ok] at hok;by_cases h1:a<0
  ·rw[X8 h1];rfl
  rw[X9 h1];by_cases h2:4<a
  ·rw[X8 h2];rfl
  rw[X9 h2];by_cases h3:b<0
  ·rw[X8 h3];rfl
  rw[X9 h3];by_cases h4:4<b
  ·rw[X8 h4];rfl
  rw[X9 h4];by_cases h5:c<0
  ·rw[X8 h5];rfl
  rw[X9 h5];by_cases h6:4<c
  ·rw[X8 h6];rfl
  rw[X9 h6];by_cases h7:d<0
  ·rw[X8 h7];rfl
  rw[X9 h7];by_cases h8:4<d
  ·rw[X8 h8];rfl
  rw[X9 h8];by_cases h9:e<0
  ·rw[X8 h9];rfl
  rw[X9 h9];by_cases h10:4<e
  ·rw[X8 h10];rfl
  rw[X9 h10];by_cases h11:f<0
  ·rw[X8 h11];rfl
  rw[X9 h11];by_cases h12:4<f
  ·rw[X8 h12];rfl
  rw[X9 h12];exfalso;omega
theorem b7l(σ:List MO)(w:W6)(n:Nat)(hn:1<=n):a0a Tab n 104 [.agg w.pv] σ=sm (.int .i64 (a4o w),σ):=by
 obtain⟨n,rfl⟩:=a0L n (by omega);simp only[a0a,c7E,Q0,Xn,W6.pv];show ((a0i [.sh (.agg [_,_,_,_,_,_])] _).bind _)=_;simp only[a0i,a0m,a0c,Q1,Q0,Qa,Xf];show (Xj _ b2D _).bind _=_;simp only[b2D,↓reduceIte,Xj,Xc,Xd,Xa,Q3,Q4,Q2,Q1,Q0,Xb,a0n,X7];obtain⟨a,b,c,d,e,f⟩:=w;simp only[a0U,a4o];by_cases hok:(⟨a,b,c,d,e,f⟩:W6).ok
 ·rw[X8 hok]
  simp only[W6.ok] at hok
  repeat rw[X9 (by omega)]
  rfl
 ·rw[X9 hok]
  simp only[W6.ok] at hok;by_cases h1:a<0
  ·rw[X8 h1];rfl
  rw[X9 h1];by_cases h2:4<a
  ·rw[X8 h2];rfl
  rw[X9 h2];by_cases h3:b<0
  ·rw[X8 h3];rfl
  rw[X9 h3];by_cases h4:4<b
  ·rw[X8 h4];rfl
  rw[X9 h4];by_cases h5:c<0
  ·rw[X8 h5];rfl
  rw[X9 h5];by_cases h6:4<c
  ·rw[X8 h6];rfl
  rw[X9 h6];by_cases h7:d<0
  ·rw[X8 h7];rfl
  rw[X9 h7];by_cases h8:4<d
  ·rw[X8 h8];rfl
  rw[X9 h8];by_cases h9:e<0
  ·rw[X8 h9];rfl
  rw[X9 h9];by_cases h10:4<e
  ·rw[X8 h10];rfl
  rw[X9 h10];by_cases h11:f<0
  ·rw[X8 h11];rfl
  rw[X9 h11];by_cases h12:4<f
  ·rw[X8 h12];rfl
  rw[X9 h12];exfalso;omega
theorem b4Y(σ:List MO)(p w:W6)(hp:p.pok)(hw:w.ok)(n:Nat)(hn:1<=n):a0a Tab n 81 [.agg p.pv,.agg w.pv] σ=sm (.int .i64 (a3g p w),σ):=by
 obtain⟨n,rfl⟩:=a0L n (by omega);simp only[a0a,d8T,Q0,Xn,W6.pv];show ((a0i [.sh (.agg [_,_,_,_,_,_]),.sh (.agg [_,_,_,_,_,_])] _).bind _)=_;simp only[a0i,a0m,a0c,Q1,Q0,Qa,Q5,Q6,Xf];show (Xj _ c4j _).bind _=_;obtain⟨b0,b1,b2,b3,b4,b5⟩:=c8G hp hw;obtain⟨a,b,c,d,e,f⟩:=p;obtain⟨a',b',c',d',e',f'⟩:=w;simp only at b0 b1 b2 b3 b4 b5;simp only[c4j,↓reduceIte,Xj,Xc,Xd,Xa,Q3,Q4,Q2,Q1,Q0,Xb,Qb,a0n,X7,Qw,a2O,a3g];generalize a*a'=x0 at *
 generalize b*b'=x1 at *
 generalize c*c'=x2 at *
 generalize d*d'=x3 at *
 generalize e*e'=x4 at *
 generalize f*f'=x5 at *
 repeat rw[X8 (by omega)]
 rfl
theorem f1A(σ:List MO)(x:Ch)(n:Nat)(hn:2<=n):a0a Tab n 139 [.agg x.row] σ=sm (.bool (decide x.ok),σ):=by
 obtain⟨n,rfl⟩:=a0L n (by omega);have c1:=a5x σ x.w n (by omega);obtain⟨⟨a,b,c,d,e,f⟩,⟨a',b',c',d',e',f'⟩⟩:=x;generalize hy:a4o ⟨a',b',c',d',e',f'⟩=y at *
 simp only[W6.pv] at c1;simp only[a0a,d4T,Q0,Xn,W6.pv,Ch.row,Q6,Q5];show ((a0i [.sh (.agg [_,_,_,_,_,_,_,_,_,_,_,_])] _).bind _)=_;simp only[a0i,a0m,a0c,Q1,Q0,Qa,Xf];show (Xj _ b9G _).bind _=_;simp only[b9G,↓reduceIte,Xj,Xc,Xd,Xa,Q3,Q4,Q2,a0c,a0w,a0m,Q1,Q0,Xk,Q6,Q5,Xe,Xb,a0n,X7,c1];simp only[a0U]
 have hyd:eqB y 0=decide (⟨a',b',c',d',e',f'⟩:W6).ok:=by
  rw[<- hy];unfold a4o;by_cases h:(⟨a',b',c',d',e',f'⟩:W6).ok
  ·rw[X8 h,dT0 h];rfl
  ·rw[X9 h,dF0 h];rfl
 have hsp:decide (Ch.ok ⟨⟨a,b,c,d,e,f⟩,⟨a',b',c',d',e',f'⟩⟩)=(decide (⟨a,b,c,d,e,f⟩:W6).pok&&decide (⟨a',b',c',d',e',f'⟩:W6).ok):=Ch.ok_dec _;rw[hsp,hyd];generalize decide (⟨a',b',c',d',e',f'⟩:W6).ok=q;by_cases hok:(⟨a,b,c,d,e,f⟩:W6).pok
 ·rw[dT0 hok]
  simp only[W6.pok] at hok
  repeat rw[X9 (by omega)]
  simp
 ·rw[dF0 hok]
  simp only[W6.pok] at hok;by_cases h1:a<0
  ·rw[X8 h1];rfl
  rw[X9 h1];by_cases h2:1000000<a
  ·rw[X8 h2];rfl
  rw[X9 h2];by_cases h3:b<0
  ·rw[X8 h3];rfl
  rw[X9 h3];by_cases h4:1000000<b
  ·rw[X8 h4];rfl
  rw[X9 h4];by_cases h5:c<0
  ·rw[X8 h5];rfl
  rw[X9 h5];by_cases h6:1000000<c
  ·rw[X8 h6];rfl
  rw[X9 h6];by_cases h7:d<0
  ·rw[X8 h7];rfl
  rw[X9 h7];by_cases h8:1000000<d
  ·rw[X8 h8];rfl
  rw[X9 h8];by_cases h9:e<0
  ·rw[X8 h9];rfl
  rw[X9 h9];by_cases h10:1000000<e
  ·rw[X8 h10];rfl
  rw[X9 h10];by_cases h11:f<0
  ·rw[X8 h11];rfl
  rw[X9 h11];by_cases h12:1000000<f
  ·rw[X8 h12];rfl
  rw[X9 h12];exfalso;omega
theorem f0e(σ:List MO)(x y:Ch)(hx:x.ok)(hy:y.ok)(n:Nat)(hn:2<=n):a0a Tab n 140 [.agg x.row,.agg y.row] σ=sm (.int .i64 (c1i x y),σ):=by
 obtain⟨n,rfl⟩:=a0L n (by omega);have c1:=b4Y σ x.p y.w hx.1 hy.2 n (by omega);have c2:=b4Y σ x.p x.w hx.1 hx.2 n (by omega);have b1:=b4l hx.1 hy.2;have b2:=b4l hx.1 hx.2;simp only[c1i];generalize a3g x.p y.w=u at *
 generalize a3g x.p x.w=v at *
 obtain⟨⟨a,b,c,d,e,f⟩,⟨a',b',c',d',e',f'⟩⟩:=x;obtain⟨⟨a1,b1',c1',d1,e1,f1⟩,⟨a1',b1'',c1'',d1',e1',f1'⟩⟩:=y;simp only[W6.pv] at c1 c2;simp only[a0a,d6Z,Q0,Xn,W6.pv,Ch.row,Q6,Q5];show ((a0i [.sh (.agg [_,_,_,_,_,_,_,_,_,_,_,_]),.sh (.agg [_,_,_,_,_,_,_,_,_,_,_,_])] _).bind _)=_;simp only[a0i,a0m,a0c,Q1,Q0,Qa,Q5,Q6,Xf];show (Xj _ c0B _).bind _=_;have q:(leB (-9223372036854775808) (u-v)&&leB (u-v) 9223372036854775807)=tt:=by simp[leB];omega
 simp only[c0B,↓reduceIte,Xj,Xc,Xd,Xa,Q3,Q4,Q2,a0c,a0w,a0m,Q1,Q0,Xk,Q6,Q5,Xe,Xb,Qb,a0n,X7,c1,c2,X8 q]
theorem a2T(x:Ch):x.row=[.int .i64 x.p.a,.int .i64 x.p.b,.int .i64 x.p.c,.int .i64 x.p.d,.int .i64 x.p.e,.int .i64 x.p.f,.int .i64 x.w.a,.int .i64 x.w.b,.int .i64 x.w.c,.int .i64 x.w.d,.int .i64 x.w.e,.int .i64 x.w.f]:=rfl
theorem a8n{l:List Ch}{i:Nat}{x:Ch}(h:l[i]?=sm x):(l.map Ch.row)[i]?=sm x.row:=by simp[h]
theorem f3w(σ:List MO)(l:List Ch)(P:PV)(hP:P.rowsOf 12=sm (l.map Ch.row))(n:Nat)(hn:l.length+5<=n)(hl:l.length<=1000000) :
  a0a Tab n 134 [P] σ=sm (.bool (l.all fun x=>decide x.ok),σ):=by
 obtain⟨n,rfl⟩:=a0L n (by omega);obtain⟨p1,p2,p3⟩:=a0b hP;rw[Qh] at p1
 have loop:∀(fuel i:Nat),l.length-i<fuel->i<=l.length->a7Y.loop (a0a Tab n) fuel 0 {i:=[(l.length:Int),(i:Int)],b:=[],v:=[P],m:=σ,k:=σ.length}=sm (.bool ((l.drop i).all fun x=>decide x.ok),σ):=by
  intro fuel
  induction fuel with
  | zero=>intro i h;omega
  | succ fuel ihf =>
   intro i h1 h2;rw[Xh,show a7Y.loops[0]?=sm b3H from rfl];simp only[Q0,b3H,↓reduceIte,Xj,Xc,Xd,Xa,PEnv.at,Q3,Q4,Q7,a0H,a0x,a1g,Qe,Qg,Nat.reduceAdd,Q2,a0w,a0m,Q1,Q0,Xk,Q6,Q5,Xe,Xb,Xg,Qb,Q8,Q9,a0I,decide_eq_true_eq];by_cases hlt:i<l.length
   ·obtain⟨x,hx⟩:∃x,l[i]?=sm x:=⟨_,List.getElem?_eq_getElem hlt⟩
    rw[X8 hlt,a7Q hx,QU];have hloc:=a0V (off:=0) hP (a8n hx);have c1:=f1A σ x n (by omega);have:=ihf (i+1) (by omega) (by omega);rw[show ((i+1:Nat):Int)=(i:Int)+1 from by omega] at this;have q1:(leB 0 (i:Int)&&decide (i<l.length))=tt:=by simp[leB,hlt]
    have q2:(leB (-9223372036854775808) ((i:Int)+1)&&leB ((i:Int)+1) 9223372036854775807)=tt:=by simp[leB];omega
    generalize decide x.ok=q at *
    simp only[a2T] at c1;simp only[p1,a0I,↓reduceIte,Q3,Q4,Qf,Qe,Qg,Nat.reduceAdd,Qr,Qk,Qj,a0c,Q1,Q0,Q6,Q5,X8 q1,hloc,a2T,c1];cases q with
    | false=>simp only[↓reduceIte,Q2,Q1,Q0,Qm,a0n,X7,Qs]
    | true =>
     simp only[↓reduceIte,Q2,Q0,Qn,X8 q2,Qq];exact this
   ·rw[X9 hlt,show i=l.length by omega,Qy]
    simp only[↓reduceIte,Q2,Q1,Q0,a0n,X7,List.all_nil]
 have h0:=loop n 0 (by omega) (Nat.zero_le _);simp only[a0a,d1d,Q0,Xn];show ((a0i [.sh (.one _)] _).bind _)=_;simp only[a0i,a0m,a0c,Q1,Q0,Qa,Xf,p3];show (Xj _ b4w _).bind _=_;simp only[b4w,↓reduceIte,Xj,Xc,Xd,Xa,PEnv.at,Q3,Q7,Q1,Q0,Xe,Xb,Xg,Q8,Q9,p1,p2];simpa using h0
def W6.beq(x y:W6):Bool:=eqB x.a y.a&&(eqB x.b y.b&&(eqB x.c y.c&&(eqB x.d y.d&&(eqB x.e y.e&&eqB x.f y.f))))
def W6.isZ(x:W6):Bool:=eqB x.a 0&&(eqB x.b 0&&(eqB x.c 0&&(eqB x.d 0&&(eqB x.e 0&&eqB x.f 0))))
abbrev CV:=Ch×Int
theorem c8z{α:Type}(a b c d e f a' b' c' d' e' f':α):Qt 6 [a,b,c,d,e,f,a',b',c',d',e',f']=[a',b',c',d',e',f']:=rfl
structure Pr where
 (nm:List UInt8) (s r p g:Int)
def Pr.row(x:Pr):List PV:=[.str x.nm,.int .i64 x.s,.int .i64 x.r,.int .i64 x.p,.int .i64 x.g]
structure Bd where
 (nm:List UInt8) (c b p:Int)
def Bd.row(x:Bd):List PV:=[.str x.nm,.int .i64 x.c,.int .i64 x.b,.int .i64 x.p]
theorem a5X(x:Pr):x.row=[.str x.nm,.int .i64 x.s,.int .i64 x.r,.int .i64 x.p,.int .i64 x.g]:=rfl
theorem b1f(x:Bd):x.row=[.str x.nm,.int .i64 x.c,.int .i64 x.b,.int .i64 x.p]:=rfl
theorem f1D{n:Nat}{ps:List PV}(h:a2G Xq n 93 ps):∃x:Pr,ps=x.row:=by
 obtain⟨m,_,h⟩:=a9c Tryz.underlying93 h;simp only[Q8,Q9,a8r] at h;obtain⟨_,_,rfl,h1,_,_,rfl,h2,_,_,rfl,h3,_,_,rfl,h4,_,_,rfl,h5,rfl⟩:=h;obtain⟨a,rfl⟩:=d8P (by kernel_rfl) h1;obtain⟨b,rfl,_⟩:=a2z (k:=.i64) (by kernel_rfl) h2;obtain⟨c,rfl,_⟩:=a2z (k:=.i64) (by kernel_rfl) h3;obtain⟨d,rfl,_⟩:=a2z (k:=.i64) (by kernel_rfl) h4;obtain⟨e,rfl,_⟩:=a2z (k:=.i64) (by kernel_rfl) h5;exact⟨⟨a,b,c,d,e⟩,rfl⟩
theorem f0m{n:Nat}{ps:List PV}(h:a2G Xq n 102 ps):∃x:Bd,ps=x.row/\loI .i64<=x.b/\x.b<=hiI .i64/\loI .i64<=x.p/\x.p<=hiI .i64:=by
 obtain⟨m,_,h⟩:=a9c Tryz.underlying102 h;simp only[Q8,Q9,a8r] at h;obtain⟨_,_,rfl,h1,_,_,rfl,h2,_,_,rfl,h3,_,_,rfl,h4,rfl⟩:=h;obtain⟨a,rfl⟩:=d8P (by kernel_rfl) h1;obtain⟨b,rfl,_⟩:=a2z (k:=.i64) (by kernel_rfl) h2;obtain⟨c,rfl,c1,c2⟩:=a2z (k:=.i64) (by kernel_rfl) h3;obtain⟨d,rfl,d1,d2⟩:=a2z (k:=.i64) (by kernel_rfl) h4;exact⟨⟨a,b,c,d⟩,rfl,c1,c2,d1,d2⟩
theorem b4e{α:Type}{row:α->List PV}{P:Program}{n:Nat}{t:TypeId}(h1:∀ps,a2G P n t ps->∃x:α,ps=row x):∀(rows:List (List PV)),(∀r∈rows,a2G P n t r)->∃l:List α,rows=l.map row
 | [],_=>⟨[],rfl⟩
 | r::rows,h=>by
  obtain⟨x,rfl⟩:=h1 r (h r (by simp));obtain⟨l,rfl⟩:=b4e h1 rows (fun q hq=>h q (by simp[hq]));exact⟨x::l,rfl⟩
structure St where
 (ps:List Pr) (bs:List Bd) (P B C A:PV)
structure St.Ok (s:St):Prop where
 P:s.P.rowsOf 5=sm (s.ps.map Pr.row)
 B:s.B.rowsOf 4=sm (s.bs.map Bd.row)
 C:s.C.one=tt
 A:s.A.one=tt
def St.pv(s:St):List PV:=[s.P,s.B,s.C,s.A]
def b9C(s:St)(i:Int):Bool:=leB 0 i&&ltB i (s.bs.length:Int)
theorem b9u(σ:List MO)(s:St)(hs:s.Ok)(i:Int)(n:Nat)(hn:1<=n):a0a Tab n 80 [.agg s.pv,.int .i64 i] σ=sm (.bool (b9C s i),σ):=by
 obtain⟨n,rfl⟩:=a0L n (by omega);obtain⟨p1,p2,p3⟩:=a0b hs.P;obtain⟨b1,b2,b3⟩:=a0b hs.B;rw[Qh] at p1 b1;simp only[a0a,d8e,Q0,Xn,St.pv];show ((a0i [.sh (.agg [_,_,_,_]),.sh (.one _)] _).bind _)=_;simp only[a0i,a0m,a0c,Q1,Q0,Qa,Q5,Xf,p3,b3,hs.C,hs.A];show (Xj _ c1X _).bind _=_;simp only[c1X,↓reduceIte,a0j,a0e,a0h,Xc,Xd,Xa,PEnv.at,Q3,Q4,Q2,Q1,Q0,Xb,b1,b2,a0n,X7,b9C];cases leB 0 i<;>simp only[↓reduceIte,Q2,Q0,Qq,Qs]
theorem b0q(σ:List MO)(s:St)(hs:s.Ok)(i:Int)(n:Nat)(hn:1<=n):a0a Tab n 102 [.agg s.pv,.int .i64 i] σ=sm (.bool (b9C s i),σ):=by
 obtain⟨n,rfl⟩:=a0L n (by omega);obtain⟨p1,p2,p3⟩:=a0b hs.P;obtain⟨b1,b2,b3⟩:=a0b hs.B;rw[Qh] at p1 b1;simp only[a0a,c7e,Q0,Xn,St.pv];show ((a0i [.sh (.agg [_,_,_,_]),.sh (.one _)] _).bind _)=_;simp only[a0i,a0m,a0c,Q1,Q0,Qa,Q5,Xf,p3,b3,hs.C,hs.A];show (Xj _ b1R _).bind _=_;simp only[b1R,↓reduceIte,a0j,a0e,a0h,Xc,Xd,Xa,PEnv.at,Q3,Q4,Q2,Q1,Q0,Xb,b1,b2,a0n,X7,b9C];cases leB 0 i<;>simp only[↓reduceIte,Q2,Q0,Qq,Qs]
theorem c8O(σ:List MO)(p w:W6)(hp:p.pok)(hw:w.ok)(n:Nat)(hn:1<=n):a0a Tab n 103 [.agg p.pv,.agg w.pv] σ=sm (.int .i64 (a3g p w),σ):=by
 obtain⟨n,rfl⟩:=a0L n (by omega);simp only[a0a,c9Q,Q0,Xn,W6.pv];show ((a0i [.sh (.agg [_,_,_,_,_,_]),.sh (.agg [_,_,_,_,_,_])] _).bind _)=_;simp only[a0i,a0m,a0c,Q1,Q0,Qa,Q5,Q6,Xf];show (Xj _ b3m _).bind _=_;obtain⟨b0,b1,b2,b3,b4,b5⟩:=c8G hp hw;obtain⟨a,b,c,d,e,f⟩:=p;obtain⟨a',b',c',d',e',f'⟩:=w;simp only at b0 b1 b2 b3 b4 b5;simp only[b3m,↓reduceIte,Xj,Xc,Xd,Xa,Q3,Q4,Q2,Q1,Q0,Xb,Qb,a0n,X7,Qw,a2O,a3g];generalize a*a'=x0 at *
 generalize b*b'=x1 at *
 generalize c*c'=x2 at *
 generalize d*d'=x3 at *
 generalize e*e'=x4 at *
 generalize f*f'=x5 at *
 repeat rw[X8 (by omega)]
 rfl
def c4k(s:St)(i:Int)(x:Ch):Int:=if b9C s i=tt then(match s.bs[i.toNat]? with|some b=>if eqB b.b 0=tt then 0 else if ltB b.b (a3g x.p x.w)=tt then 17 else 0|none=>0) else 6
theorem d6K{s:St}{i:Int}(h:b9C s i=tt):∃k:Nat,i=(k:Int)/\k<s.bs.length/\i.toNat=k:=by
 simp only[b9C,Qw,a2O,a0U] at h;exact⟨i.toNat,by omega,by omega,rfl⟩
theorem a8o{l:List Bd}{i:Nat}{x:Bd}(h:l[i]?=sm x):(l.map Bd.row)[i]?=sm x.row:=by simp[h]
theorem c8h(σ:List MO)(s:St)(hs:s.Ok)(i:Int)(x:Ch)(hx:x.ok)(n:Nat)(hn:1<=n)(hc:a0a Tab n 81 [.agg x.p.pv,.agg x.w.pv] σ=sm (.int .i64 (a3g x.p x.w),σ)):a0a Tab (n+1) 55 [.agg s.pv,.int .i64 i,.agg x.row] σ=sm (.int .i64 (c4k s i x),σ):=by
 obtain⟨p1,p2,p3⟩:=a0b hs.P;obtain⟨b1,b2,b3⟩:=a0b hs.B;rw[Qh] at p1 b1;have c1:=b9u σ s hs i n hn;simp only[St.pv,W6.pv] at c1 hc;rw[a0a];simp only[c8i,Q0,Xn,St.pv,a2T];show ((a0i [.sh (.agg [_,_,_,_]),.sh (.one _),.sh (.agg [_,_,_,_,_,_,_,_,_,_,_,_])] _).bind _)=_;simp only[a0i,a0m,a0c,Q1,Q0,Qa,Q5,Q6,Xf,p3,b3,hs.C,hs.A];show (Xj _ b2S _).bind _=_;simp only[b2S,↓reduceIte,a0j,a0e,a0h,a0F,a0A,Xc,Xd,Xa,PEnv.at,Q3,Q4,Q7,Qd,a0H,a0x,a1g,Qe,Qg,Nat.reduceAdd,Q2,a0c,a0w,a0m,Q1,Q0,Xk,Q6,Q5,Xe,Xb,Qb,c1,c4k];cases hh:b9C s i with
 | false=>simp only[↓reduceIte,Q2,Q1,Q0,Qm,a0n,X7]
 | true =>
  obtain⟨k,rfl,hk,hkn⟩:=d6K hh;obtain⟨b,hb⟩:=a0S hk;have hloc:=a0V (off:=2) hs.B (a8o hb);have hd:decide (k<s.bs.length)=tt:=dT0 hk;have dr:∀a b c d:PV,Qt 2 [a,b,c,d]=[c,d]:=fun _ _ _ _=>rfl
  have l12:(1:Nat)<=2:=by decide
  rw[hkn,hb];simp only[↓reduceIte,Q3,Q4,Qe,Qg,Nat.reduceAdd,Q2,Qk,Qj,a0c,Q1,Q0,Q6,Q5,Qb,Qn,b1,a0I,hd,le0,hloc,b1f,dr,X8 l12];cases eqB b.b 0 with
  | true=>simp only[↓reduceIte,Q2,Q1,Q0,Qn,a0n,X7]
  | false =>
   simp only[↓reduceIte,Q3,Q2,a0c,Q1,Q0,Qm,hc];cases ltB b.b (a3g x.p x.w)<;>simp only[↓reduceIte,Q2,Q1,Q0,a0n,X7]
theorem c2Q(σ:List MO)(s:St)(hs:s.Ok)(i:Int)(x:Ch)(hx:x.ok)(n:Nat)(hn:1<=n)(hc:a0a Tab n 103 [.agg x.p.pv,.agg x.w.pv] σ=sm (.int .i64 (a3g x.p x.w),σ)):a0a Tab (n+1) 71 [.agg s.pv,.int .i64 i,.agg x.row] σ=sm (.int .i64 (c4k s i x),σ):=by
 obtain⟨p1,p2,p3⟩:=a0b hs.P;obtain⟨b1,b2,b3⟩:=a0b hs.B;rw[Qh] at p1 b1;have c1:=b0q σ s hs i n hn;simp only[St.pv,W6.pv] at c1 hc;rw[a0a];simp only[c2Z,Q0,Xn,St.pv,a2T];show ((a0i [.sh (.agg [_,_,_,_]),.sh (.one _),.sh (.agg [_,_,_,_,_,_,_,_,_,_,_,_])] _).bind _)=_;simp only[a0i,a0m,a0c,Q1,Q0,Qa,Q5,Q6,Xf,p3,b3,hs.C,hs.A];show (Xj _ a9q _).bind _=_;simp only[a9q,↓reduceIte,a0j,a0e,a0h,a0F,a0A,Xc,Xd,Xa,PEnv.at,Q3,Q4,Q7,Qd,a0H,a0x,a1g,Qe,Qg,Nat.reduceAdd,a0c,a0w,a0m,Q1,Q0,Xk,Q6,Q5,Xe,Xb,Qb,c1,c4k];cases hh:b9C s i with
 | false=>simp only[↓reduceIte,Q2,Q1,Q0,Qm,a0n,X7]
 | true =>
  obtain⟨k,rfl,hk,hkn⟩:=d6K hh;obtain⟨b,hb⟩:=a0S hk;have hloc:=a0V (off:=2) hs.B (a8o hb);have hd:decide (k<s.bs.length)=tt:=dT0 hk;have dr:∀a b c d:PV,Qt 2 [a,b,c,d]=[c,d]:=fun _ _ _ _=>rfl
  have l12:(1:Nat)<=2:=by decide
  rw[hkn,hb];simp only[↓reduceIte,Q3,Q4,Qe,Qg,Nat.reduceAdd,Q2,Qk,Qj,a0c,Q1,Q0,Q6,Q5,Qa,Qb,Qn,b1,a0I,hd,le0,hloc,b1f,dr,X8 l12];cases eqB b.b 0 with
  | true=>simp only[↓reduceIte,Q2,Q1,Q0,Qn,a0n,X7]
  | false =>
   simp only[↓reduceIte,Q3,Q2,a0c,Q1,Q0,Qm,hc];cases ltB b.b (a3g x.p x.w)<;>simp only[↓reduceIte,Q2,Q1,Q0,a0n,X7]
def b5I(z:Int):Bool:=leB 97 z&&leB z 122
def d2z(z:Int):Bool:=leB 48 z&&leB z 57
def d7O(z:Int):Bool:=b5I z||(d2z z||eqB z 95)
def innC(c:UInt8):Bool:=d7O (c.toNat:Int)
theorem c0u{l:List UInt8}{i:Nat}{c:UInt8}(h:l[i]?=sm c):Xr (.str l) (i:Int)=(c.toNat:Int):=by simp[Xr,h]
theorem a8S(l:List UInt8):PV.sLen (.str l)=(l.length:Int):=rfl
theorem is3(l:List UInt8):PV.isKind 3 (.str l)=tt:=rfl
theorem a3G(l:List UInt8):PV.one (.str l)=tt:=rfl
theorem e3X(f:Nat)(l:List PV):PV.one (.fn f l)=tt:=rfl
theorem b8Z(a b:List UInt8):PV.sEq (.str a) (.str b)=decide (a=b):=rfl
theorem f0f(a b:List UInt8):PV.sIs b (.str a)=decide (a=b):=rfl
theorem e9R(c:UInt8):(0:Int)<=(c.toNat:Int)/\(c.toNat:Int)<=255:=by have:=c.toNat_lt;omega
theorem d9l(σ:List MO)(z:Int)(n:Nat)(hn:1<=n):a0a Tab n 124 [.int .i32 z] σ=sm (.bool (b5I z),σ):=by
 obtain⟨n,rfl⟩:=a0L n (by omega);simp only[a0a,d8x,Q0,Xn];show ((a0i [.sh (.one _)] _).bind _)=_;simp only[a0i,a0m,a0c,Q1,Q0,Qa,Xf];show (Xj _ c2r _).bind _=_;simp only[c2r,↓reduceIte,a0j,a0e,Xc,Xd,Xa,Q3,Q0,Xb,b5I];cases leB 97 z<;>simp only[↓reduceIte,Q2,Q1,Q0,a0n,X7,Qq,Qs]
theorem f0A(σ:List MO)(z:Int)(n:Nat)(hn:1<=n):a0a Tab n 137 [.int .i32 z] σ=sm (.bool (d2z z),σ):=by
 obtain⟨n,rfl⟩:=a0L n (by omega);simp only[a0a,d8Y,Q0,Xn];show ((a0i [.sh (.one _)] _).bind _)=_;simp only[a0i,a0m,a0c,Q1,Q0,Qa,Xf];show (Xj _ c4A _).bind _=_;simp only[c4A,↓reduceIte,a0j,a0e,Xc,Xd,Xa,Q3,Q0,Xb,d2z];cases leB 48 z<;>simp only[↓reduceIte,Q2,Q1,Q0,a0n,X7,Qq,Qs]
theorem f0I(σ:List MO)(z:Int)(n:Nat)(hn:2<=n):a0a Tab n 126 [.int .i32 z] σ=sm (.bool (d7O z),σ):=by
 obtain⟨n,rfl⟩:=a0L n (by omega);have c1:=d9l σ z n (by omega);have c2:=f0A σ z n (by omega)
 skip
 simp only[a0a,d9B,Q0,Xn];show ((a0i [.sh (.one _)] _).bind _)=_;simp only[a0i,a0m,a0c,Q1,Q0,Qa,Xf];show (Xj _ c4x _).bind _=_;simp only[c4x,↓reduceIte,a0j,a0e,a0A,Xc,Xd,Xa,Q3,Q4,a0c,a0w,a0m,Q1,Q0,Xk,Q6,Q5,Qa,Xe,Xb,c1,c2,d7O];cases b5I z
 ·simp only[↓reduceIte,Q2,Qu]
  cases d2z z<;>simp only[↓reduceIte,Q2,Q1,Q0,a0n,X7,Qv,Qu]
 ·simp only[↓reduceIte,Q2,Q1,Q0,a0n,X7,Qv]
theorem c8w{α:Type}{p:α->Bool}{l:List α}{i:Nat}{c:α}(h:l[i]?=sm c)(hc:p c=tt):(l.drop i).takeWhile p=c::(l.drop (i+1)).takeWhile p:=by
 rw[a7Q h,QV,X8 hc]
theorem d0e{α:Type}{p:α->Bool}{l:List α}{i:Nat}{c:α}(h:l[i]?=sm c)(hc:p c=ff):(l.drop i).takeWhile p=[]:=by
 rw[a7Q h,QV,hc];rfl
theorem f3z(σ:List MO)(l:List UInt8)(hl:l.length<=12)(n:Nat)(hn:20<=n):a0a Tab n 125 [.str l,.int .i64 0,.fn 126 []] σ=sm (.str (l.takeWhile innC),σ):=by
 obtain⟨n,rfl⟩:=a0L n (by omega)
 have loop:∀d i,i+d=l.length->∀fuel,b4d.loop (a0a Tab n) (fuel+d+1) 0 {i:=[0,(i:Int)],b:=[],v:=[.str l,.fn 126 []],m:=σ,k:=σ.length}=sm (.str (l.take i++(l.drop i).takeWhile innC),σ):=by
  intro d
  induction d with
  | zero =>
   intro i hi fuel;rw[Qp] at hi;subst hi;have hd:decide (l.length<l.length)=ff:=by simp
   rw[Xh,show b4d.loops[0]?=sm b2x from rfl,Qy];have hc:(0:Int)<=0/\(0:Int)<=(l.length:Int)/\(l.length:Int)<=(l.length:Int):=by omega
   simp only[Q0,b2x,↓reduceIte,a0j,a0e,a0h,a6z,Xc,Xd,Xa,PEnv.at,Q3,Q4,Q7,Qd,Qf,Q2,Q1,Q0,Q6,Q5,Qa,Xb,is3,a8S,a0I,hd,a5M,a5P,X8 hc,a0n,X7,QB,c6t,X0,QL]
  | succ d ih =>
   intro i hi fuel;have hlt:i<l.length:=by omega
   obtain⟨c,hc⟩:=a0S hlt;have hd:decide (i<l.length)=tt:=dT0 hlt;have hu:=e9R c;have e32:(leB (-2147483648) (c.toNat:Int)&&leB (c.toNat:Int) 2147483647)=tt:=by simp[leB];omega
   have c1:=f0I σ (c.toNat:Int) n (by omega);have hup:=a2N (show i<=1000000000 by omega)
   skip
   rw[Xh,show b4d.loops[0]?=sm b2x from rfl];cases hi2:innC c with
   | true =>
    have hi3:d7O (c.toNat:Int)=tt:=hi2;rw[hi3] at c1;have ih:=ih (i+1) (by omega) fuel;rw[a1o] at ih;simp only[Q0,b2x,↓reduceIte,a0j,a0e,a0h,a6z,a7P,a0s,Xc,Xd,Xa,PEnv.at,Q3,Q4,Q7,Qd,a0c,a0w,a0m,Q1,Q0,Xk,Q6,Q5,Qa,Xe,Xb,Xg,Qb,Q8,Q9,is3,a8S,a0I,hd,le0,c0u hc,e32,c1,X8 hup];rw[c8w hc hi2,show l.take i++c::(l.drop (i+1)).takeWhile innC=l.take (i+1)++(l.drop (i+1)).takeWhile innC by rw[QM,hc];simp];exact ih
   | false =>
    have hi3:d7O (c.toNat:Int)=ff:=hi2;rw[hi3] at c1;have hcc:(0:Int)<=0/\(0:Int)<=(i:Int)/\(i:Int)<=(l.length:Int):=by omega
    simp only[Q0,b2x,↓reduceIte,a0j,a0e,a0h,a6z,a7P,a0s,Xc,Xd,Xa,PEnv.at,Q3,Q4,Q7,Qd,Qf,Q2,a0c,a0w,a0m,Q1,Q0,Xk,Q6,Q5,Qa,Xe,Xb,Xg,Qb,Q8,Q9,is3,a8S,a0I,hd,le0,c0u hc,e32,c1,a5M,a5P,X8 hcc,a0n,X7,QB,d0e hc hi2,QL]
 have:=loop l.length 0 (by omega) (n-l.length-1);rw[show n-l.length-1+l.length+1=n by omega,Qj,Qf,Q5] at this;simp only[a0a,e3y,Q0,Xn];show ((a0i [.sh (.one _),.sh (.one _),.sh (.one _)] _).bind _)=_;simp only[a0i,a0m,a0c,Q1,Q0,Qa,Q5,Q6,Xf,a3G,e3X];show (Xj _ c9v _).bind _=_;simp only[c9v,a0s,Xa,Q3,Q7,Qd,Q1,Q0,Xe,Xb,Xg,Q8,Q9];exact this
def b2m(l:List UInt8):Bool:=decide (1<=l.length)&&(decide (l.length<=12)&&(b5I (Xr (.str l) 0)&&l.all innC))
theorem c0X{α:Type}(p:α->Bool):∀l:List α,(l.takeWhile p=l)↔l.all p=tt
 | []=>by simp
 | a::l=>by
  have ih:=c0X p l;rw[QV];cases h:p a<;>simp[h,ih]
theorem e3a(σ:List MO)(l:List UInt8)(n:Nat)(hn:30<=n):a0a Tab n 97 [.str l] σ=sm (.bool (b2m l),σ):=by
 obtain⟨n,rfl⟩:=a0L n (by omega);simp only[a0a,d7P,Q0,Xn];show ((a0i [.sh (.one _)] _).bind _)=_;simp only[a0i,a0m,a0c,Q1,Qa,];show (Xj _ c2P _).bind _=_;simp only[c2P,↓reduceIte,a0j,a0e,a0h,a0A,Xc,Xd,Xa,PEnv.at,Q3,Q4,Q7,a0c,a0w,a0m,Q1,Q0,Xk,Q6,Q5,Xe,Xb,Qb,is3,f0f,a8S];cases l with
 | nil=>simp only[↓reduceIte,Qg,Q2,Q1,Q0,Qn,Xs,Qn,a0n,X7,b2m];rfl
 | cons c l =>
  have h0:decide (c::l=[])=ff:=by simp
  have hlen:decide (1<=(c::l).length)=tt:=by simp
  have hp:ltB 0 ((c::l).length:Int)=tt:=by rw[a0U];simp
  have sa:Xr (.str (c::l)) 0=(c.toNat:Int):=rfl;rw[h0];unfold b2m;rw[hlen,Qq,sa];generalize hl:c::l=L at *
  by_cases h12:L.length<=12
  ·have h1:leB (L.length:Int) 12=tt:=by rw[a2O];omega
   have hu:=e9R c;have e32:(leB (-2147483648) (c.toNat:Int)&&leB (c.toNat:Int) 2147483647)=tt:=by simp[leB];omega
   have c1:=d9l σ (c.toNat:Int) n (by omega);have c2:=f3z σ L h12 n (by omega)
   skip
   rw[dT0 h12];cases hlo:b5I (c.toNat:Int) with
   | false =>
    rw[hlo] at c1;simp only[↓reduceIte,Q3,Q2,a0c,Q1,Q0,Qm,h1,hp,e32,c1,a0n,X7,Qq,Qs]
   | true =>
    rw[hlo] at c1;simp only[↓reduceIte,Q3,Q2,a0c,Q1,Q0,Q5,Qm,is3,h1,hp,e32,c1,c2,a3G,b8Z,a0n,X7,Qq];rw[show decide (L.takeWhile innC=L)=L.all innC by rw[Qz,Xt];exact c0X _ _]
  ·have h1:leB (L.length:Int) 12=ff:=by rw[a4Y];omega
   rw[dF0 h12];simp only[↓reduceIte,Q2,Q1,Q0,Qm,h1,a0n,X7,Qs]
theorem f0B(σ:List MO)(l:List UInt8)(n:Nat)(hn:30<=n):a0a Tab n 76 [.str l] σ=sm (.bool (b2m l),σ):=by
 obtain⟨n,rfl⟩:=a0L n (by omega);simp only[a0a,c6x,Q0,Xn];show ((a0i [.sh (.one _)] _).bind _)=_;simp only[a0i,a0m,a0c,Q1,Qa,];show (Xj _ b2a _).bind _=_;simp only[b2a,↓reduceIte,a0j,a0e,a0h,a0s,Xc,Xd,Xa,PEnv.at,Q3,Q7,Q1,Q0,Xe,Xb,Xg,Q8,Q9,is3,a8S];by_cases h0:l.length<1
 ·have h1:ltB (l.length:Int) 1=tt:=by rw[a0U];omega
  simp only[↓reduceIte,Q2,Q1,Q0,h1,a0n,X7,b2m];rw[dF0 (by omega)];rfl
 have h1:ltB (l.length:Int) 1=ff:=by rw[a0G];omega
 by_cases h12:12<l.length
 ·have h2:ltB 12 (l.length:Int)=tt:=by rw[a0U];omega
  simp only[↓reduceIte,Q2,Q1,Q0,h1,h2,a0n,X7,b2m];rw[dF0 (by omega:¬l.length<=12),Qs,QN]
 have h2:ltB 12 (l.length:Int)=ff:=by rw[a0G];omega
 simp only[↓reduceIte,Q2,Q0,h1,h2]
 have loop:∀d i,i+d=l.length->∀fuel,a4W.loop (a0a Tab n) (fuel+d+1) 0 {i:=[(i:Int)],b:=[],v:=[.str l],m:=σ,k:=σ.length}=sm (.bool ((decide (1<=i)||b5I (Xr (.str l) 0))&&(l.drop i).all innC),σ):=by
  intro d
  induction d with
  | zero =>
   intro i hi fuel;rw[Qp] at hi;subst hi;have hd:decide (l.length<l.length)=ff:=by simp
   rw[Xh,show a4W.loops[0]?=sm a5Z from rfl,Qy,dT0 (by omega:1<=l.length)];simp only[Q0,a5Z,↓reduceIte,a0j,a0e,a0h,Xc,Xd,Xa,PEnv.at,Q3,Q2,Q1,Q0,Xb,Qb,is3,a8S,a0I,hd,a0n,X7,Qv,List.all_nil]
  | succ d ih =>
   intro i hi fuel;have hlt:i<l.length:=by omega
   obtain⟨c,hc⟩:=a0S hlt;have hd:decide (i<l.length)=tt:=dT0 hlt;have hup:=a2N (show i<=1000000000 by omega);have ih:=ih (i+1) (by omega) fuel;rw[a1o,dT0 (by omega:1<=i+1),Qv,Qq] at ih;rw[a7Q hc,QU,Xh,show a4W.loops[0]?=sm a5Z from rfl];have hz:eqB (i:Int) 0=decide (i=0):=by rw[Qz,Xt,a9e];omega
   have hA:Xr (.str l) 0=Xr (.str l) ((0:Nat):Int):=rfl;rw[hA];simp only[Q0,a5Z,↓reduceIte,a0j,a0e,a0h,a0s,Xc,Xd,Xa,PEnv.at,Q3,Q7,Q1,Q0,Xe,Xb,Xg,Qb,Q8,Q9,is3,a8S,a0I,hd,le0,c0u hc,hz,innC,d7O,d2z];by_cases h0:i=0
   ·subst h0
    rw[c0u hc,show decide (1<=0)=ff from rfl,Qu];generalize (Qt (0+1) l).all innC=rest at *
    cases g1:leB 97 (c.toNat:Int) with
    | false =>
     simp only[b5I,g1,↓reduceIte,Q2,Q1,Q0,Xs,a0n,X7,Qs]
    | true =>
     cases g2:leB (c.toNat:Int) 122 with
     | false=>simp only[b5I,g1,g2,↓reduceIte,Q2,Q1,Q0,Qm,Xs,a0n,X7,Qs,Qq]
     | true =>
      simp only[b5I,g1,g2,↓reduceIte,Q2,Q0,Qb,Qn,X8 hup,Qq,Qv];exact ih
   ·rw[dF0 h0,dT0 (by omega:1<=i),Qv,Qq]
    generalize (Qt (i+1) l).all innC=rest at *
    have n57:ltB 57 (c.toNat:Int)=!leB (c.toNat:Int) 57:=by
     rw[Qz,a0U,X1,a4Y];omega
    have n48:ltB (c.toNat:Int) 48=!leB 48 (c.toNat:Int):=by
     rw[Qz,a0U,X1,a4Y];omega
    simp only[b5I]
    cases g1:leB 97 (c.toNat:Int)<;>cases g2:leB (c.toNat:Int) 122<;>cases g3:eqB (c.toNat:Int) 95<;>cases g4:leB 48 (c.toNat:Int)<;>cases g5:leB (c.toNat:Int) 57 <;>
     simp only[n57,n48,g4,g5,↓reduceIte,Q2,Q1,Q0,Qb,Qn,Qm,X8 hup,a0n,X7,Qq,Qs,QN,Bool.and_true,Qv,Bool.or_true,Qu] <;>
     exact ih
 have:=loop l.length 0 (by omega) (n-l.length-1);rw[show n-l.length-1+l.length+1=n by omega,Qf,show decide (1<=0)=ff from rfl,Qu] at this;unfold b2m;rw[dT0 (by omega:1<=l.length),dT0 (by omega:l.length<=12),Qq,Qq];exact this
theorem a5e{l:List Pr}{i:Nat}{x:Pr}(h:l[i]?=sm x):(l.map Pr.row)[i]?=sm x.row:=by simp[h]
def Pr.rng(x:Pr):Prop:=1<=x.s/\x.s<=4/\0<=x.r/\x.r<=1000000/\0<=x.p/\x.p<=1000/\0<=x.g/\x.g<=4
instance (x:Pr):Decidable x.rng:=by unfold Pr.rng;infer_instance
def b3I(before:List Pr)(x:Pr):Int:=if b2m x.nm=tt then(if (before.any fun y=>decide (y.nm=x.nm))=tt then 7 else if x.rng then 0 else 4) else 5
def a6c(ps:List Pr):Int:=ps.foldl (fun n x=>n*(x.s+1)) 1
def e8V(ps:List Pr):Int:=if ltB 1024 (a6c ps)=tt then 12 else 0
def pgo(ps:List Pr):Nat->Nat->Int
 | 0,_=>e8V ps
 | d+1,i=>match ps[i]? with
  | some x=>if b3I (ps.take i) x=0 then pgo ps d (i+1) else b3I (ps.take i) x
  | none=>0
def b4p(ps:List Pr):Int:=if eqB (ps.length:Int) 0=tt then 1 else if ltB 6 (ps.length:Int)=tt then 3 else pgo ps ps.length 0
theorem c3v(σ:List MO)(z a b:Int)(n:Nat)(hn:1<=n):a0a Tab n 99 [.int .i64 z,.int .i64 a,.int .i64 b] σ=sm (.bool (leB a z&&leB z b),σ):=by
 obtain⟨n,rfl⟩:=a0L n (by omega);simp only[a0a,d3T,Q0,Xn];show ((a0i [.sh (.one _),.sh (.one _),.sh (.one _)] _).bind _)=_;simp only[a0i,a0m,a0c,Q1,Q0,Qa,Q5,Q6,Xf];show (Xj _ b8L _).bind _=_;simp only[b8L,↓reduceIte,a0j,a0e,Xc,Xd,Xa,Q3,Q4,Q0,Xb,];cases leB a z<;>simp only[↓reduceIte,Q2,Q1,Q0,a0n,X7,Qq,Qs]
theorem f2a(σ:List MO)(l:List Pr)(P:PV)(hP:P.rowsOf 5=sm (l.map Pr.row))(hl:l.length<=1000000)(nm:List UInt8)(n:Nat)(hn:l.length+2<=n) :
  ∃k:Int,a0a Tab n 98 [P,.str nm] σ=sm (.tup [.int .i64 k,.bool (l.any fun x=>decide (x.nm=nm))],σ):=by
 obtain⟨n,rfl⟩:=a0L n (by omega);obtain⟨p1,p2,p3⟩:=a0b hP;rw[Qh] at p1
 have loop:∀d i,i+d=l.length->∃k:Int,∀fuel,a8q.loop (a0a Tab n) (fuel+d+1) 0 {i:=[(l.length:Int),(i:Int)],b:=[],v:=[.str nm,P],m:=σ,k:=σ.length}=sm (.tup [.int .i64 k,.bool ((l.drop i).any fun x=>decide (x.nm=nm))],σ):=by
  intro d
  induction d with
  | zero =>
   intro i hi;rw[Qp] at hi;subst hi;refine⟨0,fun fuel=>?_⟩;have hd:decide (l.length<l.length)=ff:=by simp
   rw[Xh,show a8q.loops[0]?=sm a6V from rfl,Qy];simp only[Q0,a6V,↓reduceIte,a0j,a0e,Xc,Xd,Xa,Q3,Q4,Q2,Q1,Q0,Xe,Xb,a0I,hd,a0n,X7,QC]
  | succ d ih =>
   intro i hi;have hlt:i<l.length:=by omega
   obtain⟨x,hx⟩:=a0S hlt;have hd:decide (i<l.length)=tt:=dT0 hlt;have h0:=a0V (off:=0) hP (a5e hx);have hup:=a2N (show i<=1000000000 by omega);rw[a7Q hx,QP];by_cases hn:x.nm=nm
   ·refine⟨i,fun fuel=>?_⟩
    rw[dT0 hn,Qv,Xh,show a8q.loops[0]?=sm a6V from rfl];simp only[Q0,a6V,↓reduceIte,a0j,a0e,a0h,a0F,a0s,Xc,Xd,Xa,PEnv.at,Q3,Q4,Q7,Qd,a0H,a0x,a1g,Qf,Qe,Qg,Nat.reduceAdd,Qr,Q2,Qk,Qj,a0c,Q1,Q0,Xk,Q6,Q5,Xe,Xb,Xg,Qb,Q8,Q9,p1,a0I,hd,le0,h0,a5X,a3G,is3,b8Z,dT0 hn,a0n,X7]
   ·obtain⟨k,ih⟩:=ih (i+1) (by omega)
    refine⟨k,fun fuel=>?_⟩;have ih:=ih fuel;rw[a1o] at ih;rw[dF0 hn,Qu,Xh,show a8q.loops[0]?=sm a6V from rfl];simp only[Q0,a6V,↓reduceIte,a0j,a0e,a0h,a0F,a0s,Xc,Xd,Xa,PEnv.at,Q3,Q4,Q7,Qd,a0H,a0x,a1g,Qf,Qe,Qg,Nat.reduceAdd,Qr,Q2,Qk,Qj,a0c,Q1,Q0,Xk,Q6,Q5,Xe,Xb,Xg,Qb,Q8,Q9,p1,a0I,hd,le0,h0,a5X,a3G,is3,b8Z,dF0 hn,X8 hup];exact ih
 obtain⟨k,hk⟩:=loop l.length 0 (by omega);have:=hk (n-l.length-1);rw[show n-l.length-1+l.length+1=n by omega,Qf] at this;refine⟨k,?_⟩;simp only[a0a,d8l,Q0,Xn];show ((a0i [.sh (.one _),.sh (.one _)] _).bind _)=_;simp only[a0i,a0m,a0c,Q1,Q0,Qa,Q5,Q6,Xf,p3,a3G];show (Xj _ c2j _).bind _=_;simp only[c2j,↓reduceIte,a0h,a0s,Xc,Xd,Xa,PEnv.at,Q3,Q7,Qd,Q1,Q0,Xe,Xb,Xg,Q8,Q9,p1,p2];exact this
def a2x(l:List Pr):W6:=⟨((l.map Pr.s)[0]?).getD 0,((l.map Pr.s)[1]?).getD 0,((l.map Pr.s)[2]?).getD 0,((l.map Pr.s)[3]?).getD 0,((l.map Pr.s)[4]?).getD 0,((l.map Pr.s)[5]?).getD 0⟩
def d6C(P:PV)(σ:List MO)(N i:Nat)(w:W6):PEnv:={i:=[(N:Int),(i:Int),w.a,w.b,w.c,w.d,w.e,w.f],b:=[],v:=[P],m:=σ,k:=σ.length}
theorem c5l(σ:List MO)(l:List Pr)(P:PV)(hP:P.rowsOf 5=sm (l.map Pr.row))(hl:l.length<=6)(n:Nat)(hn:10<=n):a0a Tab n 57 [P] σ=sm (.agg (a2x l).pv,σ):=by
 obtain⟨n,rfl⟩:=a0L n (by omega);obtain⟨p1,p2,p3⟩:=a0b hP;rw[Qh] at p1
 have step:∀i x,l[i]?=sm x->∀fuel (w:W6),a4M.loop (a0a Tab n) (fuel+1) 0 (d6C P σ l.length i w)=a4M.loop (a0a Tab n) fuel 0 (d6C P σ l.length (i+1) (match i with|0=>{w with a:=x.s}|1=>{w with b:=x.s}|2=>{w with c:=x.s}|3=>{w with d:=x.s}|4=>{w with e:=x.s}|_=>{w with f:=x.s})):=by
  intro i x hx fuel w;have hlt:i<l.length:=(QH.1 hx).1;have hd:decide (i<l.length)=tt:=dT0 hlt;have h0:=a0V (off:=0) hP (a5e hx);rw[Xh,show a4M.loops[0]?=sm a9x from rfl];simp only[d6C];simp only[Q0,a9x,↓reduceIte,a0e,a0h,a0F,a0s,Xc,Xd,Xa,PEnv.at,Q3,Q4,Q7,a0H,a0x,a1g,Qf,Qe,Qg,Nat.reduceAdd,Qr,Q2,Qk,Qj,a0c,Q1,Q0,Xk,Q6,Q5,Xe,Xb,Xg,Qb,Q8,Q9,p1,a0I,hd,le0,h0,a5X,a3G];obtain rfl|rfl|rfl|rfl|rfl|rfl:i=0\/i=1\/i=2\/i=3\/i=4\/i=5:=by omega
  all_goals rfl
 have fin:∀fuel (w:W6),a4M.loop (a0a Tab n) (fuel+1) 0 (d6C P σ l.length l.length w)=sm (.agg w.pv,σ):=by
  intro fuel w;have hd:decide (l.length<l.length)=ff:=by simp
  rw[Xh,show a4M.loops[0]?=sm a9x from rfl];simp only[d6C];simp only[Q0,a9x,↓reduceIte,a0j,a0e,Xc,Xd,Xa,Q3,Q4,Q2,Q1,Q0,Xe,Xb,a0I,hd,a0n,X7,W6.pv]
 have key:a4M.loop (a0a Tab n) n 0 (d6C P σ l.length 0 ⟨0,0,0,0,0,0⟩)=sm (.agg (a2x l).pv,σ):=by
  obtain⟨m,rfl⟩:∃m,n=m+7:=⟨n-7,by omega⟩;have g:∀k,k<l.length->∃x,l[k]?=sm x:=fun k hk=>a0S hk
  rcases l with _|⟨a,_|⟨b,_|⟨c,_|⟨d,_|⟨e,_|⟨f,_|⟨z,r⟩⟩⟩⟩⟩⟩⟩
  ·exact fin _ _
  ·rw[step 0 a rfl];exact fin _ _
  ·rw[step 0 a rfl,step 1 b rfl];exact fin _ _
  ·rw[step 0 a rfl,step 1 b rfl,step 2 c rfl];exact fin _ _
  ·rw[step 0 a rfl,step 1 b rfl,step 2 c rfl,step 3 d rfl];exact fin _ _
  ·rw[step 0 a rfl,step 1 b rfl,step 2 c rfl,step 3 d rfl,step 4 e rfl];exact fin _ _
  ·rw[step 0 a rfl,step 1 b rfl,step 2 c rfl,step 3 d rfl,step 4 e rfl,step 5 f rfl];exact fin _ _
  ·simp at hl
 simp only[a0a,d5p,Q0,Xn];show ((a0i [.sh (.one _)] _).bind _)=_;simp only[a0i,a0m,a0c,Q1,Q0,Qa,Xf,p3];show (Xj _ b9y _).bind _=_;simp only[b9y,↓reduceIte,a0h,a0s,Xc,Xd,Xa,PEnv.at,Q3,Q7,Q1,Q0,Xe,Xb,Xg,Q8,Q9,p1,p2];exact key
def e4Q(w:W6):Int:=if eqB (a4o w) 0=tt then(let p:=((((((1*(w.a+1))*(w.b+1))*(w.c+1))*(w.d+1))*(w.e+1))*(w.f+1));if ltB 1024 p=tt then 0 else p) else 0
theorem c3j{x y b:Int}(h1:1<=x)(h2:x<=b)(h3:1<=y)(h4:y<=5):1<=x*y/\x*y<=b*5:=by
 constructor
 ·calc (1:Int)=1*1:=rfl
   _<=x*y:=QA h1 h3 (by omega) (by omega)
 ·exact QA h2 h4 (by omega) (by omega)
theorem f0K(σ:List MO)(w:W6)(n:Nat)(hn:2<=n):a0a Tab n 100 [.agg w.pv] σ=sm (.int .i64 (e4Q w),σ):=by
 obtain⟨n,rfl⟩:=a0L n (by omega);have c1:=a5x σ w n (by omega);simp only[W6.pv] at c1;simp only[a0a,d8b,Q0,Xn,W6.pv];show ((a0i [.sh (.agg [_,_,_,_,_,_])] _).bind _)=_;simp only[a0i,a0m,a0c,Q1,Q0,Qa,Xf];show (Xj _ c3k _).bind _=_;simp only[c3k,↓reduceIte,a0j,a0e,a0h,a0A,Xc,Xd,Xa,Q3,Q4,a0c,a0w,a0m,Q1,Q0,Xk,Q6,Q5,Xe,Xb,Qb,c1];by_cases hw:w.ok
 case neg =>
  have hb:eqB (a4o w) 0=ff:=by unfold a4o;rw[X9 hw];rfl
  simp only[↓reduceIte,Q2,Q1,Q0,Qm,hb,a0n,X7,e4Q]
 have hb:eqB (a4o w) 0=tt:=by unfold a4o;rw[X8 hw];rfl
 obtain⟨a,b,c,d,e,f⟩:=w;have hw':=hw;simp only[W6.ok] at hw;simp only[↓reduceIte,Q2,Q1,Qn,hb,a0n,X7,e4Q];obtain⟨q1,q2⟩:=c3j (x:=1) (y:=a+1) (b:=1) (by omega) (by omega) (by omega) (by omega);generalize 1*(a+1)=x1 at *
 obtain⟨q3,q4⟩:=c3j (x:=x1) (y:=b+1) q1 q2 (by omega) (by omega);generalize x1*(b+1)=x2 at *
 obtain⟨q5,q6⟩:=c3j (x:=x2) (y:=c+1) q3 q4 (by omega) (by omega);generalize x2*(c+1)=x3 at *
 obtain⟨q7,q8⟩:=c3j (x:=x3) (y:=d+1) q5 q6 (by omega) (by omega);generalize x3*(d+1)=x4 at *
 obtain⟨q9,q10⟩:=c3j (x:=x4) (y:=e+1) q7 q8 (by omega) (by omega);generalize x4*(e+1)=x5 at *
 obtain⟨q11,q12⟩:=c3j (x:=x5) (y:=f+1) q9 q10 (by omega) (by omega);generalize x5*(f+1)=x6 at *
 repeat rw[X8 (a1K (by omega))]
 cases ltB 1024 x6<;>simp only[↓reduceIte,Q2,Q0,]
theorem f2c{l:List Pr}(hl:l.length<=6)(hr:∀x∈l,x.rng):eqB (e4Q (a2x l)) 0=ltB 1024 (a6c l):=by
 have hw:(a2x l).ok:=by
  have g:∀i:Nat,0<=((l.map Pr.s)[i]?).getD 0/\((l.map Pr.s)[i]?).getD 0<=4:=by
   intro i;cases h:(l.map Pr.s)[i]? with
   | none=>simp
   | some z =>
    have:=QD h;obtain⟨x,hx,rfl⟩:=List.mem_map.1 this;have:=hr x hx;simp only[Pr.rng] at this;simp only[QJ];omega
  exact⟨(g 0).1,(g 0).2,(g 1).1,(g 1).2,(g 2).1,(g 2).2,(g 3).1,(g 3).2,(g 4).1,(g 4).2,(g 5).1,(g 5).2⟩
 have hb:eqB (a4o (a2x l)) 0=tt:=by unfold a4o;rw[X8 hw];rfl
 have hp:((((((1*((a2x l).a+1))*((a2x l).b+1))*((a2x l).c+1))*((a2x l).d+1))*((a2x l).e+1))*((a2x l).f+1))=a6c l:=by
  match l,hl with
  | [],_=>rfl
  | [a],_=>simp[a2x,a6c]
  | [a,b],_=>simp[a2x,a6c]
  | [a,b,c],_=>simp[a2x,a6c]
  | [a,b,c,d],_=>simp[a2x,a6c]
  | [a,b,c,d,e],_=>simp[a2x,a6c]
  | [a,b,c,d,e,f],_=>simp[a2x,a6c]
 have hpos:1<=a6c l:=by
  rw[<- hp];simp only[W6.ok] at hw
  have m:∀{x y:Int},1<=x->1<=y->1<=x*y:=fun h1 h2=>by
   calc (1:Int)=1*1:=rfl
    _<=_:=QA h1 h2 (by omega) (by omega)
  exact m (m (m (m (m (m (by omega) (by omega)) (by omega)) (by omega)) (by omega)) (by omega)) (by omega)
 unfold e4Q;rw[X8 hb];simp only[hp];cases h:ltB 1024 (a6c l) with
 | true=>simp[eqB]
 | false=>simp[eqB];omega
theorem f5t{l:List Pr}{i:Nat}(h:i<=l.length):(0:Int)<=0/\(0:Int)<=(i:Int)/\(i:Int)<=((l.map Pr.row).length:Int):=by rw[Qh];omega
theorem c9N(σ:List MO)(l:List Pr)(P:PV)(hP:P.rowsOf 5=sm (l.map Pr.row))(n:Nat)(hn:50<=n):a0a Tab n 63 [P] σ=sm (.int .i64 (b4p l),σ):=by
 obtain⟨n,rfl⟩:=a0L n (by omega);obtain⟨p1,p2,p3⟩:=a0b hP;rw[Qh] at p1;simp only[a0a,d7j,Q0,Xn];show ((a0i [.sh (.one _)] _).bind _)=_;simp only[a0i,a0m,a0c,Q1,Q0,Qa,Xf,p3];show (Xj _ c1s _).bind _=_;simp only[c1s,↓reduceIte,a0j,a0e,a0h,a0s,Xc,Xd,Xa,PEnv.at,Q3,Q7,Q1,Q0,Xe,Xb,Xg,Q8,Q9,p1,p2,b4p];cases h0:eqB (l.length:Int) 0 with
 | true=>simp only[↓reduceIte,Q2,Q1,Q0,a0n,X7]
 | false =>
 cases h6:ltB 6 (l.length:Int) with
 | true=>simp only[↓reduceIte,Q2,Q1,Q0,a0n,X7]
 | false =>
 rw[a0G] at h6
 have loop:∀d i,i+d=l.length->(∀x∈l.take i,x.rng)->∀fuel,a8P.loop (a0a Tab n) (fuel+d+1) 0 {i:=[(l.length:Int),(i:Int)],b:=[],v:=[P],m:=σ,k:=σ.length}=sm (.int .i64 (pgo l d i),σ):=by
  intro d
  induction d with
  | zero =>
   intro i hi hr fuel;rw[Qp] at hi;subst hi;have hd:decide (l.length<l.length)=ff:=by simp
   have c1:=c5l σ l P hP (by omega) n (by omega);have c2:=f0K σ (a2x l) n (by omega);have c3:=f2c (l:=l) (by omega) (by rwa [c6t] at hr);simp only[W6.pv] at c1 c2;rw[Xh,show a8P.loops[0]?=sm b0y from rfl];simp only[Q0,b0y,↓reduceIte,a0j,a0e,a0A,Xc,Xd,Xa,Q3,Q4,Q7,Q2,a0c,a0w,a0m,Q1,Q0,Xk,Q6,Q5,Xe,Xb,a0I,hd,c1,c2,c3,pgo,e8V];cases ltB 1024 (a6c l)<;>simp only[↓reduceIte,Q2,Q1,Q0,a0n,X7]
  | succ d ih =>
   intro i hi hr fuel;have hlt:i<l.length:=by omega
   obtain⟨x,hx⟩:=a0S hlt;have hd:decide (i<l.length)=tt:=dT0 hlt;have hq:=a0V (off:=0) hP (a5e hx);have hup:=a2N (show i<=1000000000 by omega);have c1:=e3a σ x.nm n (by omega);have hcut:((((l.map Pr.row).take (i:Int).toNat).drop (0:Int).toNat))=(l.take i).map Pr.row:=by simp[QQ]
   obtain⟨k,c2⟩:=f2a σ (l.take i) (.sl 5 ((l.take i).map Pr.row)) (a1x _ _) (by simp;omega) x.nm n (by simp;omega);have b1:=c3v σ x.s 1 4 n (by omega);have b2:=c3v σ x.r 0 1000000 n (by omega);have b3:=c3v σ x.p 0 1000 n (by omega);have b4:=c3v σ x.g 0 4 n (by omega)
   skip
   rw[pgo,hx,Xh,show a8P.loops[0]?=sm b0y from rfl];have hc:=f5t (l:=l) (i:=i) (by omega);simp only[Q0,b0y,↓reduceIte,a0j,a0e,a0h,a0F,b0i,a0A,a0s,Xc,Xd,Xa,PEnv.at,Q3,Q4,Q7,Qd,a0H,a0x,a1g,Qf,Qe,Qg,Nat.reduceAdd,Qr,Q2,Qk,Qj,a0c,a0w,a0m,Q1,Q0,Xk,Q6,Q5,Xe,Xb,Xg,Qb,Q8,Q9,p1,a0I,hd,le0,hq,a5X,a3G,c1,hP,a5M,a5P,X8 hc,hcut];have h50:¬((5:Int)=0):=by decide
   have h70:¬((7:Int)=0):=by decide
   have h40:¬((4:Int)=0):=by decide
   cases hnm:b2m x.nm with
   | false =>
    have hp:b3I (l.take i) x=5:=by unfold b3I;rw[hnm];rfl
    rw[hp,X9 h50];simp only[↓reduceIte,Q2,Q1,Q0,Qm,a0n,X7]
   | true =>
    simp only[↓reduceIte,Q3,Q4,Q2,a0c,a0m,Q1,Q0,Q6,Q5,Qa,Qn,a1J,c2];cases hany:((l.take i).any fun y=>decide (y.nm=x.nm)) with
    | true =>
     have hp:b3I (l.take i) x=7:=by unfold b3I;rw[hnm,hany];rfl
     rw[hp,X9 h70];simp only[↓reduceIte,Q2,Q1,Q0,a0n,X7]
    | false =>
     simp only[↓reduceIte,Q3,Q4,Q2,a0c,Q1,Q0,Q6,Q5,b1];by_cases hrng:x.rng
     ·have ih:=ih (i+1) (by omega) (by
       intro y hy;rw[QM,hx] at hy;simp only[X2,X3,X4] at hy;rcases hy with hy|rfl
       ·exact hr y hy
       ·exact hrng) fuel
      rw[a1o] at ih;have hp:b3I (l.take i) x=0:=by unfold b3I;rw[hnm,hany,X8 hrng];rfl
      rw[hp,X8 rfl];simp only[Pr.rng] at hrng;have e1:(leB 1 x.s&&leB x.s 4)=tt:=by simp[leB];omega
      have e2:(leB 0 x.r&&leB x.r 1000000)=tt:=by simp[leB];omega
      have e3:(leB 0 x.p&&leB x.p 1000)=tt:=by simp[leB];omega
      have e4:(leB 0 x.g&&leB x.g 4)=tt:=by simp[leB];omega
      rw[e1];rw[e2] at b2;rw[e3] at b3;rw[e4] at b4;simp only[↓reduceIte,Q3,Q4,Q2,a0c,Q1,Q0,Q6,Q5,Qa,Qn,b2,b3,b4,X8 hup];exact ih
     ·have hp:b3I (l.take i) x=4:=by unfold b3I;rw[hnm,hany,X9 hrng];rfl
      rw[hp,X9 h40];cases e1:(leB 1 x.s&&leB x.s 4) with
      | false=>simp only[↓reduceIte,Q2,Q1,Q0,Qm,a0n,X7]
      | true =>
      cases e2:(leB 0 x.r&&leB x.r 1000000) with
      | false=>rw[e2] at b2;simp only[↓reduceIte,Q3,Q2,a0c,Q1,Q0,Qn,Qm,b2,a0n,X7]
      | true =>
      cases e3:(leB 0 x.p&&leB x.p 1000) with
      | false=>rw[e2] at b2;rw[e3] at b3;simp only[↓reduceIte,Q3,Q4,Q2,a0c,Q1,Q0,Q6,Q5,Qa,Qn,Qm,b2,b3,a0n,X7]
      | true =>
      cases e4:(leB 0 x.g&&leB x.g 4) with
      | false=>rw[e2] at b2;rw[e3] at b3;rw[e4] at b4;simp only[↓reduceIte,Q3,Q4,Q2,a0c,Q1,Q0,Q6,Q5,Qn,Qm,b2,b3,b4,a0n,X7]
      | true =>
       exfalso;apply hrng;simp only[Qw,a2O] at e1 e2 e3 e4;simp only[Pr.rng];omega
 have:=loop l.length 0 (by omega) (by simp) (n-l.length-1);rw[show n-l.length-1+l.length+1=n by omega] at this;have h6':ltB 6 (l.length:Int)=ff:=by rw[a0G];omega
 simp only[↓reduceIte,Q2,Q0,];exact this
theorem e5X{l:List Pr}(hr:∀x∈l,x.rng)(hl:l.length<=6):∀i,i<=l.length->1<=a6c (l.take i)/\a6c (l.take i)<=15625:=by
 have key:∀i,i<=l.length->1<=a6c (l.take i)/\a6c (l.take i)<=((5 ^ i:Nat):Int):=by
  intro i
  induction i with
  | zero=>intro _;simp[a6c]
  | succ i ih =>
   intro hi;obtain⟨h1,h2⟩:=ih (by omega);obtain⟨x,hx⟩:=a0S (show i<l.length by omega);have hxr:=hr x (QD hx);simp only[Pr.rng] at hxr;have:a6c (l.take (i+1))=a6c (l.take i)*(x.s+1):=d8W _ _ hx;rw[this];obtain⟨h3,h4⟩:=c3j (x:=a6c (l.take i)) (y:=x.s+1) h1 h2 (by omega) (by omega);refine⟨h3,?_⟩;rw[Nat.pow_succ];omega
 intro i hi;obtain⟨h1,h2⟩:=key i hi;have:5 ^ i<=5 ^ 6:=Nat.pow_le_pow_right (by omega) (by omega);have h6:(5:Nat) ^ 6=15625:=by decide
 omega
section
variable (σ:List MO)(l:List Pr)(P:PV)(hP:P.rowsOf 5=sm (l.map Pr.row))(hl:l.length<=6)(n:Nat)(hn:40<=n)
def c6C(σ:List MO)(P:PV)(is:List Int):PEnv:={i:=is,b:=[],v:=[P],m:=σ,k:=σ.length}
include hP hl in
theorem f4q(hr:∀x∈l,x.rng):∀d i,i+d=l.length->∀fuel,a2i.loop (a0a Tab n) (fuel+d+1) 2 (c6C σ P [a6c (l.take i),(i:Int)])=sm (.int .i64 (e8V l),σ):=by
 obtain⟨p1,p2,p3⟩:=a0b hP;rw[Qh] at p1;intro d
 induction d with
 | zero =>
  intro i hi fuel;rw[Qp] at hi;subst hi;have hd:decide (l.length<l.length)=ff:=by simp
  rw[c6t,Xh,show a2i.loops[2]?=sm a6t from rfl];simp only[Q0,c6C,a6t,↓reduceIte,a0j,a0e,a0h,Xc,Xd,Xa,PEnv.at,Q3,Q4,Q2,Q0,Xb,p1,p2,a0I,hd,e8V];cases ltB 1024 (a6c l)<;>simp only[↓reduceIte,Q2,Q1,Q0,a0n,X7]
 | succ d ih =>
  intro i hi fuel;have hlt:i<l.length:=by omega
  obtain⟨x,hx⟩:=a0S hlt;have hd:decide (i<l.length)=tt:=dT0 hlt;have hq:=a0V (off:=1) hP (a5e hx);have hup:=a2N (show i<=1000000000 by omega);have ih:=ih (i+1) (by omega) fuel;have hxr:=hr x (QD hx);simp only[Pr.rng] at hxr;obtain⟨b1,b2⟩:=e5X hr hl i (by omega);obtain⟨b3,b4⟩:=e5X hr hl (i+1) (by omega);rw[a1o] at ih;rw[show a6c (l.take (i+1))=a6c (l.take i)*(x.s+1) from d8W _ _ hx] at b3 b4 ih;have dr:∀a b c d e:PV,Qt 1 [a,b,c,d,e]=[b,c,d,e]:=fun _ _ _ _ _=>rfl
  rw[show fuel+(d+1)+1=(fuel+d+1)+1 from rfl,Xh,show a2i.loops[2]?=sm a6t from rfl];simp only[Q0,c6C,a6t,↓reduceIte,a0e,a0h,a0F,a0s,Xc,Xd,Xa,PEnv.at,Q3,Q4,Q7,a0H,a0x,a1g,Qe,Qg,Nat.reduceAdd,Q2,Qk,Qj,a0c,Q1,Q0,Xk,Q6,Q5,Xe,Xb,Xg,Qb,Q8,Q9,p1,p2,a0I,hd,le0,hq,a5X,dr,Nat.reduceLeDiff,X8 (a1K (z:=x.s+1) (by omega)),X8 (a1K (z:=a6c (l.take i)*(x.s+1)) (by omega)),X8 hup];exact ih
include hP hl in
theorem f6F(i:Nat)(x:Pr)(hx:l[i]?=sm x):∀d k,k+d=i->∀fuel,a2i.loop (a0a Tab n) (fuel+d+1) 1 (c6C σ P [(i:Int),(k:Int)])=if (((l.take i).drop k).any fun y=>decide (y.nm=x.nm))=tt then sm (.int .i64 7,σ) else if x.rng then a2i.loop (a0a Tab n) fuel 0 (c6C σ P [(i:Int)+1]) else sm (.int .i64 4,σ):=by
 obtain⟨p1,p2,p3⟩:=a0b hP;rw[Qh] at p1;have hlt:i<l.length:=(QH.1 hx).1;have hd:decide (i<l.length)=tt:=dT0 hlt;have hq:=a0V (off:=0) hP (a5e hx);have hup:=a2N (show i<=1000000000 by omega);have hlen:(l.take i).length=i:=by simp;omega
 intro d
 induction d with
 | zero =>
  intro k hk fuel;rw[Qp] at hk;subst hk;have hk:decide (k<k)=ff:=by simp
  have he:(l.take k).drop k=[]:=QK (by omega);have hF:¬(ff=tt):=by simp
  rw[he,QC,X9 hF,Xh,show a2i.loops[1]?=sm a4T from rfl];simp only[Q0,c6C,a4T,↓reduceIte,a0j,a0e,a0h,a0F,a0s,Xc,Xd,Xa,PEnv.at,Q3,Q4,Q7,a0H,a0x,a1g,Qf,Qe,Qg,Nat.reduceAdd,Qr,Q2,Qk,Qj,a0c,Q1,Q0,Xk,Q6,Q5,Xe,Xb,Xg,Qb,Q8,Q9,p1,a0I,hk,hd,le0,hq,a5X,a3G];by_cases hrng:x.rng
  ·rw[X8 hrng]
   simp only[Pr.rng] at hrng;have e1:ltB x.s 1=ff:=by rw[a0G];omega
   have e2:ltB 4 x.s=ff:=by rw[a0G];omega
   have e3:ltB x.r 0=ff:=by rw[a0G];omega
   have e4:ltB 1000000 x.r=ff:=by rw[a0G];omega
   have e5:ltB x.p 0=ff:=by rw[a0G];omega
   have e6:ltB 1000 x.p=ff:=by rw[a0G];omega
   have e7:ltB x.g 0=ff:=by rw[a0G];omega
   have e8:ltB 4 x.g=ff:=by rw[a0G];omega
   simp only[↓reduceIte,Q2,Q0,e1,e2,e3,e4,e5,e6,e7,e8,X8 hup]
  ·rw[X9 hrng]
   cases e1:ltB x.s 1 with
   | true=>simp only[↓reduceIte,Q2,Q1,Q0,a0n,X7]
   | false =>
   cases e2:ltB 4 x.s with
   | true=>simp only[↓reduceIte,Q2,Q1,Q0,a0n,X7]
   | false =>
   cases e3:ltB x.r 0 with
   | true=>simp only[↓reduceIte,Q2,Q1,Q0,a0n,X7]
   | false =>
   cases e4:ltB 1000000 x.r with
   | true=>simp only[↓reduceIte,Q2,Q1,Q0,a0n,X7]
   | false =>
   cases e5:ltB x.p 0 with
   | true=>simp only[↓reduceIte,Q2,Q1,Q0,a0n,X7]
   | false =>
   cases e6:ltB 1000 x.p with
   | true=>simp only[↓reduceIte,Q2,Q1,Q0,a0n,X7]
   | false =>
   cases e7:ltB x.g 0 with
   | true=>simp only[↓reduceIte,Q2,Q1,Q0,a0n,X7]
   | false =>
   cases e8:ltB 4 x.g with
   | true=>simp only[↓reduceIte,Q2,Q1,Q0,a0n,X7]
   | false =>
    exfalso;apply hrng;simp only[a0G] at e1 e2 e3 e4 e5 e6 e7 e8;simp only[Pr.rng];omega
 | succ d ih =>
  intro k hk fuel;have hlk:k<l.length:=by omega
  obtain⟨y,hy⟩:=a0S hlk;have hki:decide (k<i)=tt:=dT0 (by omega);have hkl:decide (k<l.length)=tt:=dT0 hlk;have hq2:=a0V (off:=0) hP (a5e hy);have hup2:=a2N (show k<=1000000000 by omega);have hyt:(l.take i)[k]?=sm y:=by rw[List.getElem?_take_of_lt (by omega)];exact hy
  rw[a7Q hyt,QP,show fuel+(d+1)+1=(fuel+d+1)+1 from rfl,Xh,show a2i.loops[1]?=sm a4T from rfl];by_cases hn:y.nm=x.nm
  ·rw[dT0 hn,Qv,X8 rfl]
   simp only[Q0,c6C,a4T,↓reduceIte,a0j,a0e,a0h,a0F,a0s,Xc,Xd,Xa,PEnv.at,Q3,Q4,Q7,a0H,a0x,a1g,Qf,Qe,Qg,Nat.reduceAdd,Q2,Qk,Qj,a0c,Q1,Q0,Xk,Q6,Q5,Xe,Xb,Xg,Qb,Q8,Q9,p1,a0I,hki,hkl,hd,le0,hq,hq2,a5X,a3G,is3,b8Z,dT0 hn,a0n,X7,Nat.reduceLeDiff]
  ·have ih:=ih (k+1) (by omega) fuel
   rw[a1o] at ih;rw[dF0 hn,Qu,<- ih];simp only[Q0,c6C,a4T,↓reduceIte,a0j,a0e,a0h,a0F,a0s,Xc,Xd,Xa,PEnv.at,Q3,Q4,Q7,a0H,a0x,a1g,Qf,Qe,Qg,Nat.reduceAdd,Q2,Qk,Qj,a0c,Q1,Q0,Xk,Q6,Q5,Qa,Xe,Xb,Xg,Qb,Q8,Q9,p1,a0I,hki,hkl,hd,le0,hq,hq2,a5X,a3G,is3,b8Z,dF0 hn,X8 hup2,Nat.reduceLeDiff]
include hP hl hn in
theorem f4X:∀d i,i+d=l.length->(∀x∈l.take i,x.rng)->∀fuel,8+d*8<=fuel->a2i.loop (a0a Tab n) fuel 0 (c6C σ P [(i:Int)])=sm (.int .i64 (pgo l d i),σ):=by
 obtain⟨p1,p2,p3⟩:=a0b hP;rw[Qh] at p1;intro d
 induction d with
 | zero =>
  intro i hi hr fuel hf;rw[Qp] at hi;subst hi;have hd:decide (l.length<l.length)=ff:=by simp
  obtain⟨fuel,rfl⟩:∃k,fuel=(k+l.length+1)+1:=⟨fuel-l.length-2,by omega⟩;have:=f4q σ l P hP hl n (by rwa [c6t] at hr) l.length 0 (by omega) fuel;rw[Qj,show a6c []=1 from rfl] at this;rw[pgo,Xh,show a2i.loops[0]?=sm a6s from rfl];simp only[Q0,c6C,a6s,↓reduceIte,a0e,a0h,a0s,Xc,Xd,Xa,PEnv.at,Q3,Q7,Q2,Q1,Q0,Xe,Xb,Xg,Q8,Q9,p1,p2,a0I,hd];exact this
 | succ d ih =>
  intro i hi hr fuel hf;have hlt:i<l.length:=by omega
  obtain⟨x,hx⟩:=a0S hlt;have hd:decide (i<l.length)=tt:=dT0 hlt;have hq:=a0V (off:=0) hP (a5e hx);have c1:=f0B σ x.nm n (by omega)
  skip
  obtain⟨fuel,rfl⟩:∃k,fuel=(k+i+1)+1:=⟨fuel-i-2,by omega⟩;have inn:=f6F σ l P hP hl n i x hx i 0 (by omega) fuel;rw[Qf] at inn;rw[pgo,hx,Xh,show a2i.loops[0]?=sm a6s from rfl];simp only[Q0,c6C,a6s,↓reduceIte,a0j,a0e,a0h,a0F,a0A,a0s,Xc,Xd,Xa,PEnv.at,Q3,Q7,Qd,a0H,a0x,a1g,Qf,Qe,Qg,Nat.reduceAdd,Q2,Qk,Qj,a0c,a0w,a0m,Q1,Q0,Xk,Q6,Q5,Xe,Xb,Xg,Qb,Q8,Q9,p1,p2,a0I,hd,le0,hq,a5X,a3G,Nat.reduceLeDiff,c1];have h50:¬((5:Int)=0):=by decide
  have h70:¬((7:Int)=0):=by decide
  have h40:¬((4:Int)=0):=by decide
  cases hnm:b2m x.nm with
  | false =>
   have hp:b3I (l.take i) x=5:=by unfold b3I;rw[hnm];rfl
   rw[hp,X9 h50];simp only[↓reduceIte,Q2,Q1,Q0,Qm,a0n,X7]
  | true =>
   simp only[↓reduceIte,Q2,Q0,Qn,];refine inn.trans ?_;cases hany:((l.take i).any fun y=>decide (y.nm=x.nm)) with
   | true =>
    have hp:b3I (l.take i) x=7:=by unfold b3I;rw[hnm,hany];rfl
    rw[hp,X9 h70,X8 rfl]
   | false =>
    have hF:¬(ff=tt):=by simp
    rw[X9 hF];by_cases hrng:x.rng
    ·have hp:b3I (l.take i) x=0:=by unfold b3I;rw[hnm,hany,X8 hrng];rfl
     rw[hp,X8 rfl,X8 hrng]
     have:=ih (i+1) (by omega) (by
      intro y hy;rw[QM,hx] at hy;simp only[X2,X3,X4] at hy;rcases hy with hy|rfl
      ·exact hr y hy
      ·exact hrng) fuel (by omega)
     rwa [a1o] at this
    ·have hp:b3I (l.take i) x=4:=by unfold b3I;rw[hnm,hany,X9 hrng];rfl
     rw[hp,X9 h40,X9 hrng]
end
theorem c6I(σ:List MO)(l:List Pr)(P:PV)(hP:P.rowsOf 5=sm (l.map Pr.row))(n:Nat)(hn:70<=n):a0a Tab n 43 [P] σ=sm (.int .i64 (b4p l),σ):=by
 obtain⟨n,rfl⟩:=a0L n (by omega);obtain⟨p1,p2,p3⟩:=a0b hP;rw[Qh] at p1;simp only[a0a,c7A,Q0,Xn];show ((a0i [.sh (.one _)] _).bind _)=_;simp only[a0i,a0m,a0c,Q1,Q0,Qa,Xf,p3];show (Xj _ b2E _).bind _=_;simp only[b2E,↓reduceIte,a0j,a0e,a0h,a0s,Xc,Xd,Xa,PEnv.at,Q3,Q7,Q1,Q0,Xe,Xb,Xg,Q8,Q9,p1,p2,b4p];cases h0:eqB (l.length:Int) 0 with
 | true=>simp only[↓reduceIte,Q2,Q1,Q0,a0n,X7]
 | false =>
 cases h6:ltB 6 (l.length:Int) with
 | true=>simp only[↓reduceIte,Q2,Q1,Q0,a0n,X7]
 | false =>
 have h6':=h6;rw[a0G] at h6;have:=f4X σ l P hP (by omega) n (by omega) l.length 0 (by omega) (by simp) n (by omega);simp only[↓reduceIte,Q2,Q0,];exact this
theorem e4i{ps:List Pr}:∀d i,i+d=ps.length->pgo ps d i=0->∀k x,i<=k->ps[k]?=sm x->x.rng
 | 0,i,hi,_,k,x,hk,hx=>by have:=(QH.1 hx).1;omega
 | d+1,i,hi,h,k,x,hk,hx=>by
  obtain⟨y,hy⟩:=a0S (show i<ps.length by omega);rw[pgo,hy] at h;simp only at h;split at h
  ·rename_i hb
   by_cases hki:k=i
   ·subst hki
    rw[hx] at hy;cases hy;unfold b3I at hb;split at hb
    ·split at hb
     ·cases hb
     ·split at hb
      ·assumption
      ·cases hb
    ·cases hb
   ·exact e4i d (i+1) (by omega) h k x (by omega) hx
  ·rename_i hb;exact absurd h hb
theorem a9X{ps:List Pr}(h:b4p ps=0):ps.length<=6/\∀x∈ps,x.rng:=by
 unfold b4p at h;split at h
 ·cases h
 ·split at h
  ·cases h
  ·rename_i h6
   rw[Bool.not_eq_true,a0G] at h6;refine⟨by omega,fun x hx=>?_⟩;obtain⟨k,hk⟩:=List.mem_iff_getElem?.1 hx;exact e4i ps.length 0 (by omega) h k x (by omega) hk
def wl(w:W6):List Int:=[w.a,w.b,w.c,w.d,w.e,w.f]
def a8p(w:W6)(i:Nat):Int:=((wl w)[i]?).getD 0
def c2v(f:Pr->Int)(l:List Pr)(i:Nat):Int:=((l[i]?).map f).getD 0
def ptS(f:Pr->Int)(l:List Pr)(w:W6):Nat->Int
 | 0=>0
 | i+1=>ptS f l w i+a8p w i*c2v f l i
theorem d0P{w:W6}(hw:w.ok)(i:Nat):0<=a8p w i/\a8p w i<=4:=by
 simp only[W6.ok] at hw;unfold a8p wl;rcases i with _|_|_|_|_|_|i<;>simp<;>omega
theorem c3W{f:Pr->Int}{l:List Pr}{w:W6}{b:Int}(hw:w.ok)(hb:0<=b)(hf:∀x∈l,0<=f x/\f x<=b):∀i,0<=ptS f l w i/\ptS f l w i<=(i:Int)*(4*b)
 | 0=>by simp[ptS]
 | i+1=>by
  have ih:=c3W hw hb hf i;have h1:=d0P hw i
  have h2:0<=c2v f l i/\c2v f l i<=b:=by
   unfold c2v;cases h:l[i]? with
   | none=>simp;omega
   | some x=>simpa using hf x (QD h)
  have h3:0<=a8p w i*c2v f l i:=QS h1.1 h2.1;have h4:a8p w i*c2v f l i<=4*b:=QA h1.2 h2.2 h2.1 (by omega);simp only[ptS];refine⟨by omega,?_⟩;rw[show ((i+1:Nat):Int)*(4*b)=(i:Int)*(4*b)+4*b by rw[QW,QX];simp];omega
def c0G(l:List Pr)(w:W6):Int:=if eqB (b4p l) 0=tt then(if eqB (a4o w) 0=tt then ptS Pr.p l w l.length else 0) else 0
theorem c6U(σ:List MO)(w:W6)(n:Nat)(hn:1<=n):a0a Tab n 47 [.agg w.pv] σ=sm (.bool (decide w.ok),σ):=by
 obtain⟨n,rfl⟩:=a0L n (by omega);simp only[a0a,c7J,Q0,Xn,W6.pv];show ((a0i [.sh (.agg [_,_,_,_,_,_])] _).bind _)=_;simp only[a0i,a0m,a0c,Q1,Q0,Qa,Xf];show (Xj _ b2Z _).bind _=_;simp only[b2Z,↓reduceIte,Xj,Xc,Xd,Xa,Q3,Q4,Q2,Q1,Q0,Xb,a0n,X7];obtain⟨a,b,c,d,e,f⟩:=w;simp only[a0U];by_cases hok:(⟨a,b,c,d,e,f⟩:W6).ok
 ·rw[dT0 hok]
  simp only[W6.ok] at hok
  repeat rw[X9 (by omega)]
  rfl
 ·rw[dF0 hok]
  simp only[W6.ok] at hok;by_cases h1:a<0
  ·rw[X8 h1];rfl
  rw[X9 h1];by_cases h2:4<a
  ·rw[X8 h2];rfl
  rw[X9 h2];by_cases h3:b<0
  ·rw[X8 h3];rfl
  rw[X9 h3];by_cases h4:4<b
  ·rw[X8 h4];rfl
  rw[X9 h4];by_cases h5:c<0
  ·rw[X8 h5];rfl
  rw[X9 h5];by_cases h6:4<c
  ·rw[X8 h6];rfl
  rw[X9 h6];by_cases h7:d<0
  ·rw[X8 h7];rfl
  rw[X9 h7];by_cases h8:4<d
  ·rw[X8 h8];rfl
  rw[X9 h8];by_cases h9:e<0
  ·rw[X8 h9];rfl
  rw[X9 h9];by_cases h10:4<e
  ·rw[X8 h10];rfl
  rw[X9 h10];by_cases h11:f<0
  ·rw[X8 h11];rfl
  rw[X9 h11];by_cases h12:4<f
  ·rw[X8 h12];rfl
  exfalso;omega
section
variable (σ:List MO)(l:List Pr)(P:PV)(hP:P.rowsOf 5=sm (l.map Pr.row))(n:Nat)(w:W6)
def c9g(σ:List MO)(P:PV)(is:List Int)(w:W6):PEnv:={i:=is++[w.a,w.b,w.c,w.d,w.e,w.f],b:=[],v:=[P],m:=σ,k:=σ.length}
theorem dr5(a b c d e:PV):Qt 1 [a,b,c,d,e]=[b,c,d,e]/\Qt 2 [a,b,c,d,e]=[c,d,e]/\Qt 3 [a,b,c,d,e]=[d,e]/\Qt 4 [a,b,c,d,e]=[e]:=⟨rfl,rfl,rfl,rfl⟩
include hP in
theorem f3p(I:Nat)(hI:I<=5)(g:Int)(x:Pr)(hx:l[I]?=sm x)(hr:x.rng):∀(m k:Nat),(k:Int)+m=a8p w I->k+m<=1000->∀fuel (p1 p2 p3:Int),0<=p1->p1+1000*m<=1000000000000->0<=p2->p2+1000000*m<=1000000000000->0<=p3->p3+m<=1000000000000 ->
  a2q.loop (a0a Tab n) (fuel+m+1) 1 (c9g σ P [g,p1,p2,p3,(I:Int),(k:Int)] w)=a2q.loop (a0a Tab n) fuel 0 (c9g σ P [g,p1+m*x.p,p2+m*x.r,if eqB x.g g=tt then p3+m else p3,(I:Int)+1] w):=by
 obtain⟨p1,p2,p3⟩:=a0b hP;rw[Qh] at p1;have hd:ltB (I:Int) (l.length:Int)=tt:=by have:=(QH.1 hx).1;rw[a0U];omega
 have q2:a4f (I:Int) 5 2 P=sm (.row x.row 2):=a0V (off:=2) hP (a5e hx);have q3:a4f (I:Int) 5 3 P=sm (.row x.row 3):=a0V (off:=3) hP (a5e hx);have q4:a4f (I:Int) 5 4 P=sm (.row x.row 4):=a0V (off:=4) hP (a5e hx);simp only[Pr.rng] at hr;have e5:=a3l;have six:I=0\/I=1\/I=2\/I=3\/I=4\/I=5:=by omega
 clear hx;intro m
 induction m with
 | zero =>
  intro k hk hk2 fuel s1 s2 s3 _ _ _ _ _ _;have hk:ltB (k:Int) (a8p w I)=ff:=by rw[a0G];omega
  rw[Xh,show a2q.loops[1]?=sm a6L from rfl];obtain rfl|rfl|rfl|rfl|rfl|rfl:=six <;>
  ·simp[a8p,wl] at hk
   simp only[Q0,c9g,a6L,↓reduceIte,a0e,a0s,Xc,Xd,Xa,Q3,Q4,Q7,Q2,Q1,Q0,Q6,Q5,Xe,Xb,Xg,Q8,Q9,e5,QY,Int.reduceEq,Xs,Xv,hk,Int.reduceAdd];simp
 | succ m ih =>
  intro k hk hk2 fuel s1 s2 s3 h1 h2 h3 h4 h5 h6;have hk':ltB (k:Int) (a8p w I)=tt:=by rw[a0U];omega
  have hup:=a2N (show k<=1000000000 by omega);obtain⟨d1,d2,d3,d4⟩:=dr5 (.str x.nm) (.int .i64 x.s) (.int .i64 x.r) (.int .i64 x.p) (.int .i64 x.g);have ih:=ih (k+1) (by omega) (by omega) fuel (s1+x.p) (s2+x.r) (if eqB x.g g=tt then s3+1 else s3) (by omega) (by omega) (by omega) (by omega) (by split<;>omega) (by split<;>omega);have m1:s1+x.p+(m:Int)*x.p=s1+((m+1:Nat):Int)*x.p:=by rw[QW,QX];simp;omega
  have m2:s2+x.r+(m:Int)*x.r=s2+((m+1:Nat):Int)*x.r:=by rw[QW,QX];simp;omega
  rw[m1,m2,a1o] at ih;have v1:=a1K (z:=s1+x.p) (by omega);have v2:=a1K (z:=s2+x.r) (by omega);have v3:=a1K (z:=s3+1) (by omega);rw[show fuel+(m+1)+1=(fuel+m+1)+1 from rfl,Xh,show a2q.loops[1]?=sm a6L from rfl];obtain rfl|rfl|rfl|rfl|rfl|rfl:=six <;>
  ·simp[a8p,wl] at hk'
   simp only[QY] at hd q2 q3 q4 ih ⊢;simp only[Q0,c9g,a6L,↓reduceIte,a0e,a0h,a0F,a0s,Xc,Xd,Xa,PEnv.at,Q3,Q4,Q7,a0H,a0x,a1g,Qe,Qg,Nat.reduceAdd,Qr,Q2,Qk,Qj,a0c,Q1,Q0,Xk,Q6,Q5,Xe,Xb,Xg,Qb,Q8,Q9,p1,e5,Int.reduceEq,Xs,Xv,hk',hd,q2,q3,q4,a5X,d2,d3,d4,Nat.reduceLeDiff,X8 v1,X8 v2];cases hg:decide (x.g=g) with
   | true =>
    have hg':eqB x.g g=tt:=hg;rw[X8 hg'] at ih;simp only[↓reduceIte,Q0,X8 v3,X8 hup];rw[show s3+((m+1:Nat):Int)=s3+1+(m:Int) by omega];rw[X8 hg'] at ih;exact ih
   | false =>
    have hg':¬eqB x.g g=tt:=by rw[show eqB x.g g=ff from hg];simp
    rw[X9 hg'] at ih;simp only[↓reduceIte,Q2,Q0,X8 hup];rw[X9 hg'] at ih;exact ih
include hP in
theorem f5d(hw:w.ok)(g:Int)(hl:l.length<=6)(hr:∀x∈l,x.rng):∀d i,i+d=l.length->∀u:Int,0<=u->u<=4*i->∃u':Int,∀fuel,1+d*6<=fuel ->
  a2q.loop (a0a Tab n) fuel 0 (c9g σ P [g,ptS Pr.p l w i,ptS Pr.r l w i,u,(i:Int)] w)=sm (.tup [.int .i64 (ptS Pr.p l w l.length),.int .i64 (ptS Pr.r l w l.length),.int .i64 u'],σ):=by
 obtain⟨p1,p2,p3⟩:=a0b hP;rw[Qh] at p1;intro d
 induction d with
 | zero =>
  intro i hi u h1 h2;rw[Qp] at hi;subst hi;refine⟨u,fun fuel hf=>?_⟩;obtain⟨fuel,rfl⟩:=a0L fuel (by omega);have hd:decide (l.length<l.length)=ff:=by simp
  rw[Xh,show a2q.loops[0]?=sm a3r from rfl];simp only[Q0,c9g,a3r,↓reduceIte,a0j,a0e,a0h,Xc,Xd,Xa,PEnv.at,Q3,Q4,Q2,Q1,Q0,Q6,Q5,Xe,Xb,p1,p2,a0I,hd,a0n,X7]
 | succ d ih =>
  intro i hi u h1 h2;have hlt:i<l.length:=by omega
  obtain⟨x,hx⟩:=a0S hlt;have hd:decide (i<l.length)=tt:=dT0 hlt;have hxr:=hr x (QD hx);have hw1:=d0P hw i;have hxr':=hxr;simp only[Pr.rng] at hxr';have b1:=c3W (f:=Pr.p) (b:=1000) hw (by omega) (fun y hy=>by have:=hr y hy;simp only[Pr.rng] at this;omega) i;have b2:=c3W (f:=Pr.r) (b:=1000000) hw (by omega) (fun y hy=>by have:=hr y hy;simp only[Pr.rng] at this;omega) i;obtain⟨m,hm⟩:∃m:Nat,(m:Int)=a8p w i:=⟨(a8p w i).toNat,by omega⟩;obtain⟨u',hu⟩:=ih (i+1) (by omega) (if eqB x.g g=tt then u+m else u) (by split<;>omega) (by split<;>omega);refine⟨u',fun fuel hf=>?_⟩;obtain⟨fuel,rfl⟩:∃k,fuel=(k+m+1)+1:=⟨fuel-m-2,by omega⟩;have hu:=hu fuel (by omega);have k1:ptS Pr.p l w (i+1)=ptS Pr.p l w i+m*x.p:=by simp only[ptS,c2v,hx,Q1,QJ,hm]
  have k2:ptS Pr.r l w (i+1)=ptS Pr.r l w i+m*x.r:=by simp only[ptS,c2v,hx,Q1,QJ,hm]
  rw[k1,k2,a1o] at hu;rw[<- hu,Xh,show a2q.loops[0]?=sm a3r from rfl];simp only[Q0,c9g,a3r,↓reduceIte,a0e,a0h,a0s,Xc,Xd,Xa,PEnv.at,Q3,Q4,Q7,Q1,Q0,Q6,Q5,Xe,Xb,Xg,Q8,Q9,p1,p2,a0I,hd];clear hu ih;generalize ptS Pr.p l w i=s1 at *
  generalize ptS Pr.r l w i=s2 at *
  exact f3p σ l P hP n w i (by omega) g x hx hxr m 0 (by rw[hm];simp) (by omega) fuel s1 s2 u (by omega) (by omega) (by omega) (by omega) (by omega) (by omega)
end
theorem d7l(σ:List MO)(s:St)(hs:s.Ok)(w:W6)(n:Nat)(hn:100<=n):a0a Tab n 106 [.agg s.pv,.agg w.pv] σ=sm (.int .i64 (c0G s.ps w),σ):=by
 obtain⟨n,rfl⟩:=a0L n (by omega);obtain⟨p1,p2,p3⟩:=a0b hs.P;obtain⟨b1,b2,b3⟩:=a0b hs.B
 have sums:∃y z:Int,a0a Tab n 50 [s.P,.int .i64 0,.agg w.pv] σ=sm (.tup [.int .i64 (c0G s.ps w),.int .i64 y,.int .i64 z],σ):=by
  obtain⟨n,rfl⟩:=a0L n (by omega);have c1:=c6I σ s.ps s.P hs.P n (by omega);have c2:=c6U σ w n (by omega);simp only[W6.pv] at c1 c2;simp only[a0a,b8P,Q0,Xn,W6.pv];show ∃y z:Int,((a0i [.sh (.one _),.sh (.one _),.sh (.agg [_,_,_,_,_,_])] _).bind _)=_;simp only[a0i,a0m,a0c,Q1,Q0,Qa,Q5,Q6,Xf,p3];show ∃y z:Int,(Xj _ a7b _).bind _=_;simp only[a7b,↓reduceIte,a0j,a0e,a0A,a0s,Xc,Xd,Xa,Q3,Q4,Q7,a0c,a0w,a0m,Q1,Q0,Xk,Q6,Q5,Xe,Xb,Xg,Q8,Q9,c1,c0G];cases hc:eqB (b4p s.ps) 0 with
  | false=>refine⟨0,0,?_⟩;simp only[↓reduceIte,Q2,Q1,Q0,Qm,a0n,X7]
  | true =>
   obtain⟨hl,hr⟩:=a9X (a9e.1 hc);by_cases hw:w.ok
   ·have hb:eqB (a4o w) 0=tt:=by unfold a4o;rw[X8 hw];rfl
    obtain⟨u',hu⟩:=f5d σ s.ps s.P hs.P n w hw 0 hl hr s.ps.length 0 (by omega) 0 (by omega) (by omega);refine⟨ptS Pr.r s.ps w s.ps.length,u',?_⟩;rw[dT0 hw] at c2;have hu:=hu n (by omega);simp only[↓reduceIte,Q3,Q2,a0c,Q1,Q0,Qn,c2,hb];exact hu
   ·have hb:eqB (a4o w) 0=ff:=by unfold a4o;rw[X9 hw];rfl
    refine⟨0,0,?_⟩;rw[dF0 hw] at c2;simp only[↓reduceIte,Q3,Q2,a0c,Q1,Q0,Qn,Qm,c2,hb,a0n,X7]
 obtain⟨y,z,c1⟩:=sums;simp only[W6.pv] at c1;simp only[a0a,c6e,Q0,Xn,W6.pv,St.pv];show ((a0i [.sh (.agg [_,_,_,_]),.sh (.agg [_,_,_,_,_,_])] _).bind _)=_;simp only[a0i,a0m,a0c,Q1,Q0,Qa,Q5,Xf,p3,b3,hs.C,hs.A];show (Xj _ b1L _).bind _=_;simp only[b1L,↓reduceIte,a0j,a0A,Xa,Q3,Q4,Q7,Q2,a0c,a0w,a0m,Q1,Q0,Xk,Q6,Q5,Qa,Xe,Xb,c1,a1J,a0n,X7]
theorem f4G(σ:List MO)(x:Pr)(n:Nat)(hn:1<=n):a0a Tab n 138 [.agg x.row] σ=sm (.int .i64 x.p,σ):=by
 obtain⟨n,rfl⟩:=a0L n (by omega);simp only[a0a,d2q,Q0,Xn,a5X];show ((a0i [.sh (.agg [_,_,_,_,_])] _).bind _)=_;simp only[a0i,a0m,a0c,Q1,Q0,Qa,Xf,a3G];show (Xj _ b5z _).bind _=_;simp only[b5z,↓reduceIte,a0j,Xa,Q3,Q4,Q2,Q1,Q0,Xb,a0n,X7]
def f2I(σ:List MO)(P F:PV)(is:List Int)(w:W6):PEnv:={i:=is++[w.a,w.b,w.c,w.d,w.e,w.f],b:=[],v:=[F,P],m:=σ,k:=σ.length}
theorem f1c(σ:List MO)(l:List Pr)(P:PV)(hP:P.rowsOf 5=sm (l.map Pr.row))(w:W6)(hw:w.ok)(hl:l.length<=6)(hr:∀x∈l,x.rng)(n:Nat)(hn:1<=n):∀d i,i+d=l.length->∀fuel,
  a3M.loop (a0a Tab n) (fuel+d+1) 0 (f2I σ P (.fn 138 []) [ptS Pr.p l w i,(l.length:Int),(i:Int)] w)=sm (.int .i64 (ptS Pr.p l w l.length),σ):=by
 obtain⟨p1,p2,p3⟩:=a0b hP;rw[Qh] at p1;intro d
 induction d with
 | zero =>
  intro i hi fuel;rw[Qp] at hi;subst hi;have hd:decide (l.length<l.length)=ff:=by simp
  rw[Xh,show a3M.loops[0]?=sm a3C from rfl];simp only[Q0,f2I,a3C,↓reduceIte,a0j,a0e,Xc,Xd,Xa,Q3,Q4,Q2,Q1,Q0,Q6,Q5,Xb,a0I,hd,a0n,X7]
 | succ d ih =>
  intro i hi fuel;have hlt:i<l.length:=by omega
  obtain⟨x,hx⟩:=a0S hlt;have hd:decide (i<l.length)=tt:=dT0 hlt;have hxr:=hr x (QD hx);simp only[Pr.rng] at hxr;have hq:=a0V (off:=0) hP (a5e hx);have hw1:=d0P hw i;have b1:=c3W (f:=Pr.p) (b:=1000) hw (by omega) (fun y hy=>by have:=hr y hy;simp only[Pr.rng] at this;omega) i;have c1:=f4G σ x n hn;have ih:=ih (i+1) (by omega) fuel;rw[a1o] at ih;have k1:ptS Pr.p l w (i+1)=ptS Pr.p l w i+a8p w i*x.p:=by simp only[ptS,c2v,hx,Q1,QJ]
  have hm:0<=a8p w i*x.p/\a8p w i*x.p<=4*1000:=⟨QS hw1.1 (by omega),QA hw1.2 (by omega) (by omega) (by omega)⟩;rw[k1] at ih;generalize ptS Pr.p l w i=s1 at *
  have q1:=a1K (z:=a8p w i*x.p) (by omega);have q2:=a1K (z:=s1+a8p w i*x.p) (by omega);simp only[a5X] at c1;rw[<- ih,show fuel+(d+1)+1=(fuel+d+1)+1 from rfl,Xh,show a3M.loops[0]?=sm a3C from rfl];simp only[Q0,f2I,a3C,↓reduceIte,a0e,a0h,a0F,a7P,a0s,Xc,Xd,Xa,PEnv.at,Q3,Q4,Q7,Qd,a0H,a0x,a1g,Qf,Qe,Qg,Nat.reduceAdd,Qr,Q2,Qk,Qj,a0c,a0w,a0m,Q1,Q0,Xk,Q6,Q5,Qa,Xe,Xb,Xg,Qb,Q8,Q9,p1,a0I,hd,le0,hq,a5X,a3G,c1];obtain rfl|rfl|rfl|rfl|rfl|rfl:i=0\/i=1\/i=2\/i=3\/i=4\/i=5:=by omega
  all_goals
   simp only[a8p,wl,Q7,Qd,QJ] at q1 q2 ⊢;have e5:=a3l;simp only[↓reduceIte,Q2,Q0,e5,Int.reduceEq,QY,Xs,Xv,q1,q2,Int.reduceAdd]
def goL{α:Type}(f:List α->α->Int)(l:List α):Nat->Nat->Int
 | 0,_=>0
 | d+1,i=>match l[i]? with
  | some x=>if f (l.take i) x=0 then goL f l d (i+1) else f (l.take i) x
  | none=>0
theorem c2W{α:Type}{f:List α->α->Int}{l:List α}{i:Nat}{x:α}(h:l[i]?=sm x)(d:Nat):goL f l (d+1) i=if f (l.take i) x=0 then goL f l d (i+1) else f (l.take i) x:=by rw[goL,h]
theorem d7S{α:Type}{f:List α->α->Int}{l:List α}:∀d i,goL f l d i=0->i+d=l.length->∀k x,i<=k->l[k]?=sm x->f (l.take k) x=0
 | 0,i,_,hi,k,x,hk,hx=>by have:=(QH.1 hx).1;omega
 | d+1,i,h,hi,k,x,hk,hx=>by
  obtain⟨y,hy⟩:=a0S (show i<l.length by omega);rw[c2W hy] at h;split at h
  ·rename_i h0
   by_cases hki:k=i
   ·subst hki;rw[hy] at hx;cases hx;exact h0
   ·exact d7S d (i+1) h (by omega) k x (by omega) hx
  ·rename_i h0;exact absurd h h0
def Bd.rng(x:Bd):Prop:=0<=x.c/\x.c<=4/\0<=x.b/\x.b<=1000000/\0<=x.p/\x.p<=24000
instance (x:Bd):Decidable x.rng:=by unfold Bd.rng;infer_instance
def b3B(before:List Bd)(x:Bd):Int:=if b2m x.nm=tt then(if (before.any fun y=>decide (y.nm=x.nm))=tt then 7 else if x.rng then 0 else 4) else 5
def c6K(bs:List Bd):Int:=if eqB (bs.length:Int) 0=tt then 1 else if ltB 8 (bs.length:Int)=tt then 3 else goL b3B bs bs.length 0
def c0D(i:Nat):Option Nat->PV
 | some k=>.tup [.int .i64 ((i+k:Nat):Int),.bool tt]
 | none=>.tup [.int .i64 0,.bool ff]
theorem f4S(i:Nat)(o:Option Nat):c0D i (o.map (·+1))=c0D (i+1) o:=by
 cases o with
 | none=>rfl
 | some k=>simp only[Q1,c0D];rw[show i+(k+1)=i+1+k by omega]
theorem d9p{α:Type}(p:α->Bool){l:List α}{i:Nat}{x:α}(h:l[i]?=sm x):(l.drop i).findIdx? p=if p x=tt then sm 0 else((l.drop (i+1)).findIdx? p).map (·+1):=by
 rw[a7Q h,QZ]
theorem d8O(σ:List MO)(l:List Bd)(P:PV)(hP:P.rowsOf 4=sm (l.map Bd.row))(hl:l.length<=1000000)(nm:List UInt8)(n:Nat)(hn:l.length+2<=n) :
  a0a Tab n 101 [P,.str nm] σ=sm (c0D 0 (l.findIdx? fun x=>decide (x.nm=nm)),σ):=by
 obtain⟨n,rfl⟩:=a0L n (by omega);obtain⟨p1,p2,p3⟩:=a0b hP;rw[Qh] at p1
 have loop:∀d i,i+d=l.length->∀fuel,a9n.loop (a0a Tab n) (fuel+d+1) 0 {i:=[(l.length:Int),(i:Int)],b:=[],v:=[.str nm,P],m:=σ,k:=σ.length}=sm (c0D i ((l.drop i).findIdx? fun x=>decide (x.nm=nm)),σ):=by
  intro d
  induction d with
  | zero =>
   intro i hi fuel;rw[Qp] at hi;subst hi;have hd:decide (l.length<l.length)=ff:=by simp
   rw[Xh,show a9n.loops[0]?=sm a8t from rfl,Qy];simp only[Q0,a8t,↓reduceIte,a0j,a0e,Xc,Xd,Xa,Q3,Q4,Q2,Q1,Q0,Xe,Xb,a0I,hd,a0n,X7,X5,c0D]
  | succ d ih =>
   intro i hi fuel;have hlt:i<l.length:=by omega
   obtain⟨x,hx⟩:=a0S hlt;have hd:decide (i<l.length)=tt:=dT0 hlt;have h0:=a0V (off:=0) hP (a8o hx);have hup:=a2N (show i<=1000000000 by omega);rw[d9p _ hx];by_cases hn:x.nm=nm
   ·rw[dT0 hn,X8 rfl,Xh,show a9n.loops[0]?=sm a8t from rfl]
    simp only[Q0,a8t,↓reduceIte,a0j,a0e,a0h,a0F,a0s,Xc,Xd,Xa,PEnv.at,Q3,Q4,Q7,Qd,a0H,a0x,a1g,Qp,Qf,Qe,Qg,Nat.reduceAdd,Qr,Q2,Qk,Qj,a0c,Q1,Q0,Xk,Q6,Q5,Xe,Xb,Xg,Qb,Q8,Q9,p1,a0I,hd,le0,h0,b1f,a3G,is3,b8Z,dT0 hn,a0n,X7,c0D]
   ·have ih:=ih (i+1) (by omega) fuel
    rw[a1o] at ih;rw[dF0 hn,X9 (by simp),f4S,Xh,show a9n.loops[0]?=sm a8t from rfl];simp only[Q0,a8t,↓reduceIte,a0j,a0e,a0h,a0F,a0s,Xc,Xd,Xa,PEnv.at,Q3,Q4,Q7,Qd,a0H,a0x,a1g,Qf,Qe,Qg,Nat.reduceAdd,Qr,Q2,Qk,Qj,a0c,Q1,Q0,Xk,Q6,Q5,Xe,Xb,Xg,Qb,Q8,Q9,p1,a0I,hd,le0,h0,b1f,a3G,is3,b8Z,dF0 hn,X8 hup];exact ih
 have:=loop l.length 0 (by omega) (n-l.length-1);rw[show n-l.length-1+l.length+1=n by omega,Qf] at this;simp only[a0a,d9s,Q0,Xn];show ((a0i [.sh (.one _),.sh (.one _)] _).bind _)=_;simp only[a0i,a0m,a0c,Q1,Q0,Qa,Q5,Q6,Xf,p3,a3G];show (Xj _ c4m _).bind _=_;simp only[c4m,↓reduceIte,a0h,a0s,Xc,Xd,Xa,PEnv.at,Q3,Q7,Qd,Q1,Q0,Xe,Xb,Xg,Q8,Q9,p1,p2];exact this
theorem c8K(σ:List MO)(l:List Bd)(P:PV)(hP:P.rowsOf 4=sm (l.map Bd.row))(hl:l.length<=1000000)(nm:List UInt8)(n:Nat)(hn:l.length+2<=n) :
  a0a Tab n 78 [P,.str nm] σ=sm (c0D 0 (l.findIdx? fun x=>decide (x.nm=nm)),σ):=by
 obtain⟨n,rfl⟩:=a0L n (by omega);obtain⟨p1,p2,p3⟩:=a0b hP;rw[Qh] at p1
 have loop:∀d i,i+d=l.length->∀fuel,a4N.loop (a0a Tab n) (fuel+d+1) 0 {i:=[(i:Int)],b:=[],v:=[P,.str nm],m:=σ,k:=σ.length}=sm (c0D i ((l.drop i).findIdx? fun x=>decide (x.nm=nm)),σ):=by
  intro d
  induction d with
  | zero =>
   intro i hi fuel;rw[Qp] at hi;subst hi;have hd:decide (l.length<l.length)=ff:=by simp
   rw[Xh,show a4N.loops[0]?=sm a4t from rfl,Qy];simp only[Q0,a4t,↓reduceIte,a0j,a0e,a0h,Xc,Xd,Xa,PEnv.at,Q3,Q2,Q1,Q0,Xe,Xb,p1,p2,a0I,hd,a0n,X7,X5,c0D]
  | succ d ih =>
   intro i hi fuel;have hlt:i<l.length:=by omega
   obtain⟨x,hx⟩:=a0S hlt;have hd:decide (i<l.length)=tt:=dT0 hlt;have h0:=a0V (off:=0) hP (a8o hx);have hup:=a2N (show i<=1000000000 by omega);rw[d9p _ hx];by_cases hn:x.nm=nm
   ·rw[dT0 hn,X8 rfl,Xh,show a4N.loops[0]?=sm a4t from rfl]
    simp only[Q0,a4t,↓reduceIte,a0j,a0e,a0h,a0F,a0s,Xc,Xd,Xa,PEnv.at,Q3,Q4,Q7,Qd,a0H,a0x,a1g,Qp,Qf,Qe,Qg,Nat.reduceAdd,Q2,Qk,Qj,a0c,Q1,Q0,Xk,Q6,Q5,Xe,Xb,Xg,Qb,Q8,Q9,Nat.reduceLeDiff,p1,p2,a0I,hd,le0,h0,b1f,a3G,is3,b8Z,dT0 hn,a0n,X7,c0D]
   ·have ih:=ih (i+1) (by omega) fuel
    rw[a1o] at ih;rw[dF0 hn,X9 (by simp),f4S,Xh,show a4N.loops[0]?=sm a4t from rfl];simp only[Q0,a4t,↓reduceIte,a0j,a0e,a0h,a0F,a0s,Xc,Xd,Xa,PEnv.at,Q3,Q4,Q7,Qd,a0H,a0x,a1g,Qf,Qe,Qg,Nat.reduceAdd,Q2,Qk,Qj,a0c,Q1,Q0,Xk,Q6,Q5,Xe,Xb,Xg,Qb,Q8,Q9,Nat.reduceLeDiff,p1,p2,a0I,hd,le0,h0,b1f,a3G,is3,b8Z,dF0 hn,X8 hup];exact ih
 have:=loop l.length 0 (by omega) (n-l.length-1);rw[show n-l.length-1+l.length+1=n by omega,Qf] at this;simp only[a0a,c9i,Q0,Xn];show ((a0i [.sh (.one _),.sh (.one _)] _).bind _)=_;simp only[a0i,a0m,a0c,Q1,Q0,Qa,Q5,Q6,Xf,p3,a3G];show (Xj _ b3n _).bind _=_;simp only[b3n,a0s,Xa,Q7,Qd,Q1,Q0,Xe,Xb,Xg,Q8,Q9,];exact this
theorem b0x(σ:List MO)(z:Int)(n:Nat)(hn:1<=n):a0a Tab n 113 [.int .u8 z] σ=sm (.bool (b5I z),σ):=by
 obtain⟨n,rfl⟩:=a0L n (by omega);simp only[a0a,c6p,Q0,Xn];show ((a0i [.sh (.one _)] _).bind _)=_;simp only[a0i,a0m,a0c,Q1,Q0,Qa,Xf];show (Xj _ b2g _).bind _=_;simp only[b2g,↓reduceIte,a0j,a0e,Xc,Xd,Xa,Q3,Q0,Xb,b5I];cases leB 97 z<;>simp only[↓reduceIte,Q2,Q1,Q0,a0n,X7,Qq,Qs]
theorem c7F(σ:List MO)(z:Int)(n:Nat)(hn:1<=n):a0a Tab n 128 [.int .u8 z] σ=sm (.bool (d2z z),σ):=by
 obtain⟨n,rfl⟩:=a0L n (by omega);simp only[a0a,c7B,Q0,Xn];show ((a0i [.sh (.one _)] _).bind _)=_;simp only[a0i,a0m,a0c,Q1,Q0,Qa,Xf];show (Xj _ b2M _).bind _=_;simp only[b2M,↓reduceIte,a0j,a0e,Xc,Xd,Xa,Q3,Q0,Xb,d2z];cases leB 48 z<;>simp only[↓reduceIte,Q2,Q1,Q0,a0n,X7,Qq,Qs]
theorem f2P(σ:List MO)(l:List UInt8)(hl:l.length<=12)(n:Nat)(hn:20<=n):∀d i,i+d=l.length->∀fuel,a6j.loop (a0a Tab n) (fuel+d+1) 0 {i:=[(i:Int)],b:=[],v:=[.str l],m:=σ,k:=σ.length} =
  sm (.tup [.agg [.int .i64 1,.str (l.take i++(l.drop i).takeWhile innC),.int .i64 0,.int .i64 0],.int .i64 0],σ):=by
 intro d
 induction d with
 | zero =>
  intro i hi fuel;rw[Qp] at hi;subst hi;have hd:decide (l.length<l.length)=ff:=by simp
  have h12:ltB 12 (l.length:Int)=ff:=by rw[a0G];omega
  rw[Xh,show a6j.loops[0]?=sm a4e from rfl,Qy];have hc:(0:Int)<=0/\(0:Int)<=(l.length:Int)/\(l.length:Int)<=(l.length:Int):=by omega
  simp only[Q0,a4e,↓reduceIte,a0j,a0e,a0h,a6z,Xc,Xd,Xa,PEnv.at,Q3,Q7,Qd,Qf,Q2,Q1,Q0,Q6,Q5,Qa,Xe,Xb,is3,a8S,a0I,hd,h12,a5M,a5P,X8 hc,a0n,X7,QB,c6t,X0,QL]
 | succ d ih =>
  intro i hi fuel;have hlt:i<l.length:=by omega
  obtain⟨c,hc⟩:=a0S hlt;have hd:decide (i<l.length)=tt:=dT0 hlt;have h12:ltB 12 (i:Int)=ff:=by rw[a0G];omega
  have hu:=e9R c;have c1:=b0x σ (c.toNat:Int) n (by omega);have c2:=c7F σ (c.toNat:Int) n (by omega);have hup:=a2N (show i<=1000000000 by omega)
  skip
  have ih:=ih (i+1) (by omega) fuel;rw[a1o] at ih
  have step:innC c=tt->(l.take i++(l.drop i).takeWhile innC)=l.take (i+1)++(l.drop (i+1)).takeWhile innC:=fun hi2=>by
   rw[c8w hc hi2,QM,hc];simp
  have hin:innC c=(b5I (c.toNat:Int)||(d2z (c.toNat:Int)||eqB (c.toNat:Int) 95)):=rfl;rw[Xh,show a6j.loops[0]?=sm a4e from rfl];cases h1:b5I (c.toNat:Int) with
  | true =>
   rw[h1] at c1;rw[step (by rw[hin,h1];rfl)];simp only[Q0,a4e,↓reduceIte,a0j,a0e,a0h,a6z,a0A,a0s,Xc,Xd,Xa,PEnv.at,Q3,Q7,Qd,a0c,a0w,a0m,Q1,Q0,Xk,Q6,Q5,Xe,Xb,Xg,Qb,Q8,Q9,is3,a8S,a0I,hd,le0,c0u hc,c1,X8 hup];exact ih
  | false =>
  rw[h1] at c1;cases h2:d2z (c.toNat:Int) with
  | true =>
   rw[h2] at c2;rw[step (by rw[hin,h1,h2];rfl)];simp only[Q0,a4e,↓reduceIte,a0j,a0e,a0h,a6z,a0A,a0s,Xc,Xd,Xa,PEnv.at,Q3,Q4,Q7,Qd,Q2,a0c,a0w,a0m,Q1,Q0,Xk,Q6,Q5,Qa,Xe,Xb,Xg,Qb,Q8,Q9,is3,a8S,a0I,hd,le0,c0u hc,c1,c2,X8 hup];exact ih
  | false =>
  rw[h2] at c2;cases h3:eqB (c.toNat:Int) 95 with
  | true =>
   rw[step (by rw[hin,h1,h2,h3];rfl)];simp only[Q0,a4e,↓reduceIte,a0e,a0h,a0A,a0s,Xc,Xd,Xa,PEnv.at,Q3,Q4,Q7,Q2,a0c,a0w,a0m,Q1,Q0,Xk,Q6,Q5,Xe,Xb,Xg,Qb,Q8,Q9,is3,a8S,a0I,hd,le0,c0u hc,c1,c2,h3,X8 hup];exact ih
  | false =>
   have hcc:(0:Int)<=0/\(0:Int)<=(i:Int)/\(i:Int)<=(l.length:Int):=by omega
   have hst:=d0e (p:=innC) hc (by rw[hin,h1,h2,h3];rfl);simp only[Q0,a4e,↓reduceIte,a0j,a0e,a0h,a6z,a0A,a0s,Xc,Xd,Xa,PEnv.at,Q3,Q4,Q7,Qd,Qf,Q2,a0c,a0w,a0m,Q1,Q0,Xk,Q6,Q5,Qa,Xe,Xb,Xg,Qb,Q8,Q9,is3,a8S,a0I,hd,le0,c0u hc,c1,c2,h3,h12,a5M,a5P,X8 hcc,a0n,X7,QB,hst,QL,Qf]
theorem f3v(σ:List MO)(c:UInt8)(l:List UInt8)(h12:(c::l).length<=12)(hlow:b5I (c.toNat:Int)=tt)(n:Nat)(hn:40<=n) :
  a0a Tab n 114 [.str (c::l)] σ=sm (.tup [.agg [.int .i64 1,.str (c::l.takeWhile innC),.int .i64 0,.int .i64 0],.int .i64 0],σ):=by
 obtain⟨n,rfl⟩:=a0L n (by omega);have c1:=b0x σ (c.toNat:Int) n (by omega)
 skip
 rw[hlow] at c1;have hp:ltB 0 ((l.length+1:Nat):Int)=tt:=by rw[a0U];omega
 have sa:Xr (.str (c::l)) 0=(c.toNat:Int):=rfl;have:=f2P σ (c::l) h12 n (by omega) l.length 1 (by simp;omega) (n-l.length-1);rw[show n-l.length-1+l.length+1=n by simp at h12;omega] at this;simp only[Qk,Qj,List.drop_succ_cons,Qf,Q6,Q5] at this;simp only[a0a,d1A,Q0,Xn];show ((a0i [.sh (.one _)] _).bind _)=_;simp only[a0i,a0m,a0c,Q1,Q0,Qa,Xf,a3G];show (Xj _ b4r _).bind _=_;simp only[b4r,↓reduceIte,a0j,a0e,a0h,a6z,a0A,a0s,Xc,Xd,Xa,PEnv.at,Q3,Q7,Qd,Qe,a0c,a0w,a0m,Q1,Q0,Xk,Q6,Q5,Xe,Xb,Xg,Q8,Q9,is3,a8S,hp,sa,c1];exact this
theorem e9m(σ:List MO)(l:List UInt8)(n:Nat)(hn:60<=n):a0a Tab n 77 [.str l] σ=sm (.bool (b2m l),σ):=by
 obtain⟨n,rfl⟩:=a0L n (by omega);simp only[a0a,c6g,Q0,Xn];show ((a0i [.sh (.one _)] _).bind _)=_;simp only[a0i,a0m,a0c,Q1,Q0,Qa,Xf,a3G];show (Xj _ b1U _).bind _=_;simp only[b1U,↓reduceIte,a0j,a0e,a0h,a0A,Xc,Xd,Xa,PEnv.at,Q3,Q4,Q7,a0w,a0m,Q1,Q0,Xk,Q6,Q5,Xe,Xb,is3,f0f,a8S];cases l with
 | nil=>simp only[↓reduceIte,Qg,Q2,Q1,Q0,Xs,a0n,X7,b2m];rfl
 | cons c l =>
  have h0:decide (c::l=[])=ff:=by simp
  have hlen:decide (1<=(c::l).length)=tt:=by simp
  have hp:ltB 0 ((l.length+1:Nat):Int)=tt:=by rw[a0U];omega
  have sa:Xr (.str (c::l)) 0=(c.toNat:Int):=rfl;rw[h0];unfold b2m;rw[hlen,Qq,sa];by_cases h12:(c::l).length<=12
  ·have h1:ltB 12 ((l.length+1:Nat):Int)=ff:=by rw[a0G];simp at h12;omega
   have c1:=b0x σ (c.toNat:Int) n (by omega)
   skip
   rw[dT0 h12];cases hlo:b5I (c.toNat:Int) with
   | false =>
    rw[hlo] at c1;simp only[↓reduceIte,Q3,Qe,Q2,a0c,Q1,Q0,Qm,h1,hp,c1,a0n,X7,Qq,Qs]
   | true =>
    rw[hlo] at c1;have c2:=f3v σ c l h12 hlo n (by omega)
    skip
    have hic:innC c=tt:=by unfold innC d7O;rw[hlo];rfl
    simp only[↓reduceIte,Q3,Q4,Qe,Q2,a0c,a0m,Q1,Q0,Q6,Q5,Qa,Qn,is3,h1,hp,c1,c2,a1J,a3G,b8Z,d8q,a0n,X7,Qq,QU,hic];refine congrArg (fun x=>sm (PV.bool x,σ)) ?_;rw[Qz,Xt,List.cons.injEq];exact⟨fun h=>(c0X _ _).1 h.2,fun h=>⟨rfl,(c0X _ _).2 h⟩⟩
  ·have h1:ltB 12 ((l.length+1:Nat):Int)=tt:=by rw[a0U];simp at h12;omega
   rw[dF0 h12];simp only[↓reduceIte,Qe,Q2,Q1,Q0,h1,a0n,X7,Qs]
theorem f0S{x:Bd}(h:¬x.rng):ltB x.c 0=tt\/ltB 4 x.c=tt\/ltB x.b 0=tt\/ltB 1000000 x.b=tt\/ltB x.p 0=tt\/ltB 24000 x.p=tt:=by
 simp only[Bd.rng] at h;simp only[a0U];omega
theorem f6o{l:List Bd}{i:Nat}(h:i<=l.length):(0:Int)<=0/\(0:Int)<=(i:Int)/\(i:Int)<=((l.map Bd.row).length:Int):=by rw[Qh];omega
theorem f7o(a b c d:PV):Qt 1 [a,b,c,d]=[b,c,d]/\Qt 2 [a,b,c,d]=[c,d]/\Qt 3 [a,b,c,d]=[d]:=⟨rfl,rfl,rfl⟩
theorem d7R{α:Type}(p:α->Bool)(l:List α):l.any p=(l.findIdx? p).isSome:=by rw[List.findIdx?_isSome]
theorem e6e{α:Type}{p:α->Bool}:∀{l:List α} {i:Nat} {x:α},l[i]?=sm x->p x=tt->∃k,l.findIdx? p=sm k/\(k=i↔(l.take i).any p=ff)
 | [],i,x,h,_=>by simp at h
 | y::l,0,x,h,hp=>by
  simp only[Q7,Option.some.injEq] at h;subst h;exact⟨0,by rw[QZ,hp];rfl,by simp⟩
 | y::l,i+1,x,h,hp=>by
  obtain⟨k,h1,h2⟩:=e6e (l:=l) (i:=i) (by simpa using h) hp;rw[QZ,Qk,QP];cases hy:p y with
  | true=>exact⟨0,rfl,by simp⟩
  | false =>
   refine⟨k+1,by simp[h1],?_⟩;simp only[Qu,Nat.add_right_cancel_iff];exact h2
theorem d8c(σ:List MO)(l:List Bd)(P:PV)(hP:P.rowsOf 4=sm (l.map Bd.row))(n:Nat)(hn:60<=n):a0a Tab n 64 [P] σ=sm (.int .i64 (c6K l),σ):=by
 obtain⟨n,rfl⟩:=a0L n (by omega);obtain⟨p1,p2,p3⟩:=a0b hP;rw[Qh] at p1;simp only[a0a,d8t,Q0,Xn];show ((a0i [.sh (.one _)] _).bind _)=_;simp only[a0i,a0m,a0c,Q1,Q0,Qa,Xf,p3];show (Xj _ c2U _).bind _=_;simp only[c2U,↓reduceIte,a0j,a0e,a0h,a0s,Xc,Xd,Xa,PEnv.at,Q3,Q7,Q1,Q0,Xe,Xb,Xg,Q8,Q9,p1,p2,c6K];cases h0:eqB (l.length:Int) 0 with
 | true=>simp only[↓reduceIte,Q2,Q1,Q0,a0n,X7]
 | false =>
 cases h8:ltB 8 (l.length:Int) with
 | true=>simp only[↓reduceIte,Q2,Q1,Q0,a0n,X7]
 | false =>
 have h8':=h8;rw[a0G] at h8
 have loop:∀d i,i+d=l.length->∀fuel,b0b.loop (a0a Tab n) (fuel+d+1) 0 {i:=[(l.length:Int),(i:Int)],b:=[],v:=[P],m:=σ,k:=σ.length}=sm (.int .i64 (goL b3B l d i),σ):=by
  intro d
  induction d with
  | zero =>
   intro i hi fuel;rw[Qp] at hi;subst hi;have hd:decide (l.length<l.length)=ff:=by simp
   rw[Xh,show b0b.loops[0]?=sm b1j from rfl];simp only[Q0,b1j,↓reduceIte,a0j,a0e,Xc,Xd,Xa,Q3,Q4,Q2,Q1,Q0,Xb,a0I,hd,goL,a0n,X7]
  | succ d ih =>
   intro i hi fuel;have hlt:i<l.length:=by omega
   obtain⟨x,hx⟩:=a0S hlt;have hd:decide (i<l.length)=tt:=dT0 hlt;have hq:=a0V (off:=0) hP (a8o hx);have hup:=a2N (show i<=1000000000 by omega);have c1:=e3a σ x.nm n (by omega);have hcut:((((l.map Bd.row).take (i:Int).toNat).drop (0:Int).toNat))=(l.take i).map Bd.row:=by simp[QQ]
   have c2:=d8O σ (l.take i) (.sl 4 ((l.take i).map Bd.row)) (a1x _ _) (by simp;omega) x.nm n (by simp;omega)
   skip
   have hc:=f6o (l:=l) (i:=i) (by omega);rw[c2W hx,Xh,show b0b.loops[0]?=sm b1j from rfl];simp only[Q0,b1j,↓reduceIte,a0j,a0e,a0h,a0F,b0i,a0A,a0s,Xc,Xd,Xa,PEnv.at,Q3,Q4,Q7,Qd,a0H,a0x,a1g,Qf,Qe,Qg,Nat.reduceAdd,Qr,Q2,Qk,Qj,a0c,a0w,a0m,Q1,Q0,Xk,Q6,Q5,Xe,Xb,Xg,Qb,Q8,Q9,p1,a0I,hd,le0,hq,b1f,a3G,c1,hP,a5M,a5P,X8 hc,hcut];have h50:¬((5:Int)=0):=by decide
   have h70:¬((7:Int)=0):=by decide
   have h40:¬((4:Int)=0):=by decide
   cases hnm:b2m x.nm with
   | false =>
    have hp:b3B (l.take i) x=5:=by unfold b3B;rw[hnm];rfl
    rw[hp,X9 h50];simp only[↓reduceIte,Q2,Q1,Q0,Qm,a0n,X7]
   | true =>
    simp only[↓reduceIte,Q2,Q0,Qn,c2];cases hany:((l.take i).findIdx? fun y=>decide (y.nm=x.nm)) with
    | some k =>
     have hp:b3B (l.take i) x=7:=by unfold b3B;rw[hnm,d7R,hany];rfl
     rw[hp,X9 h70];simp only[↓reduceIte,Q3,Q2,a0c,a0m,Q1,Q0,Q5,Qa,c0D,a1J,a0n,X7]
    | none =>
     simp only[↓reduceIte,Q3,Q2,a0c,a0m,Q1,Q0,Q5,Qa,c0D,a1J];by_cases hrng:x.rng
     ·have ih:=ih (i+1) (by omega) fuel
      rw[a1o] at ih;have hp:b3B (l.take i) x=0:=by unfold b3B;rw[hnm,d7R,hany,X8 hrng];rfl
      rw[hp,X8 rfl];simp only[Bd.rng] at hrng;have e1:ltB x.c 0=ff:=by rw[a0G];omega
      have e2:ltB 4 x.c=ff:=by rw[a0G];omega
      have e3:ltB x.b 0=ff:=by rw[a0G];omega
      have e4:ltB 1000000 x.b=ff:=by rw[a0G];omega
      have e5:ltB x.p 0=ff:=by rw[a0G];omega
      have e6:ltB 24000 x.p=ff:=by rw[a0G];omega
      simp only[↓reduceIte,Q2,Q0,e1,e2,e3,e4,e5,e6,X8 hup];exact ih
     ·have hp:b3B (l.take i) x=4:=by unfold b3B;rw[hnm,d7R,hany,X9 hrng];rfl
      rw[hp,X9 h40];have hno:=f0S hrng;cases e1:ltB x.c 0 with
      | true=>simp only[↓reduceIte,Q2,Q1,Q0,a0n,X7]
      | false =>
      cases e2:ltB 4 x.c with
      | true=>simp only[↓reduceIte,Q2,Q1,Q0,a0n,X7]
      | false =>
      cases e3:ltB x.b 0 with
      | true=>simp only[↓reduceIte,Q2,Q1,Q0,a0n,X7]
      | false =>
      cases e4:ltB 1000000 x.b with
      | true=>simp only[↓reduceIte,Q2,Q1,Q0,a0n,X7]
      | false =>
      cases e5:ltB x.p 0 with
      | true=>simp only[↓reduceIte,Q2,Q1,Q0,a0n,X7]
      | false =>
      cases e6:ltB 24000 x.p with
      | true=>simp only[↓reduceIte,Q2,Q1,Q0,a0n,X7]
      | false=>rw[e1,e2,e3,e4,e5,e6] at hno;simp at hno
 have:=loop l.length 0 (by omega) (n-l.length-1);rw[show n-l.length-1+l.length+1=n by omega] at this;simp only[↓reduceIte,Q2,Q0,];exact this
theorem f1W(σ:List MO)(l:List Bd)(P:PV)(hP:P.rowsOf 4=sm (l.map Bd.row))(n:Nat)(hn:80<=n):a0a Tab n 44 [P] σ=sm (.int .i64 (c6K l),σ):=by
 obtain⟨n,rfl⟩:=a0L n (by omega);obtain⟨p1,p2,p3⟩:=a0b hP;rw[Qh] at p1;simp only[a0a,c7y,Q0,Xn];show ((a0i [.sh (.one _)] _).bind _)=_;simp only[a0i,a0m,a0c,Q1,Q0,Qa,Xf,p3];show (Xj _ b2R _).bind _=_;simp only[b2R,↓reduceIte,a0j,a0e,a0h,a0s,Xc,Xd,Xa,PEnv.at,Q3,Q7,Q1,Q0,Xe,Xb,Xg,Q8,Q9,p1,p2,c6K];cases h0:eqB (l.length:Int) 0 with
 | true=>simp only[↓reduceIte,Q2,Q1,Q0,a0n,X7]
 | false =>
 cases h8:ltB 8 (l.length:Int) with
 | true=>simp only[↓reduceIte,Q2,Q1,Q0,a0n,X7]
 | false =>
 have h8':=h8;rw[a0G] at h8
 have loop:∀d i,i+d=l.length->∀fuel,a5r.loop (a0a Tab n) (fuel+d+1) 0 {i:=[(i:Int)],b:=[],v:=[P],m:=σ,k:=σ.length}=sm (.int .i64 (goL b3B l d i),σ):=by
  intro d
  induction d with
  | zero =>
   intro i hi fuel;rw[Qp] at hi;subst hi;have hd:decide (l.length<l.length)=ff:=by simp
   rw[Xh,show a5r.loops[0]?=sm a6o from rfl];simp only[Q0,a6o,↓reduceIte,a0j,a0e,a0h,Xc,Xd,Xa,PEnv.at,Q3,Q2,Q1,Q0,Xb,p1,p2,a0I,hd,goL,a0n,X7]
  | succ d ih =>
   intro i hi fuel;have hlt:i<l.length:=by omega
   obtain⟨x,hx⟩:=a0S hlt;have hd:decide (i<l.length)=tt:=dT0 hlt;have q0:=a0V (off:=0) hP (a8o hx);have q1:=a0V (off:=1) hP (a8o hx);have q2:=a0V (off:=2) hP (a8o hx);have q3:=a0V (off:=3) hP (a8o hx);obtain⟨r1,r2,r3⟩:=f7o (.str x.nm) (.int .i64 x.c) (.int .i64 x.b) (.int .i64 x.p);have hup:=a2N (show i<=1000000000 by omega);have c1:=e9m σ x.nm n (by omega);have c2:=c8K σ l P hP (by omega) x.nm n (by omega);obtain⟨k,hk1,hk2⟩:=e6e (p:=fun y:Bd=>decide (y.nm=x.nm)) hx (by simp);rw[hk1] at c2;simp only[c0D,Nat.zero_add] at c1 c2;rw[c2W hx,Xh,show a5r.loops[0]?=sm a6o from rfl];simp only[Q0,a6o,↓reduceIte,a0j,a0e,a0h,a0F,a0A,a0s,Xc,Xd,Xa,PEnv.at,Q3,Q4,Q7,Qd,a0H,a0x,a1g,Qf,Qe,Qg,Nat.reduceAdd,Q2,Qk,Qj,a0c,a0w,a0m,Q1,Q0,Xk,Q6,Q5,Qa,Xe,Xb,Xg,Qb,Q8,Q9,Nat.reduceLeDiff,p1,p2,a0I,hd,le0,q0,b1f,a3G,c1];have h50:¬((5:Int)=0):=by decide
   have h70:¬((7:Int)=0):=by decide
   have h40:¬((4:Int)=0):=by decide
   cases hnm:b2m x.nm with
   | false =>
    have hp:b3B (l.take i) x=5:=by unfold b3B;rw[hnm];rfl
    rw[hp,X9 h50];simp only[↓reduceIte,Q2,Q1,Q0,Qm,a0n,X7]
   | true =>
    simp only[↓reduceIte,Q3,Q4,Q2,a0c,a0m,Q1,Q0,Q6,Q5,Qa,Qn,c2,a1J];by_cases hki:k=i
    ·have hany:=hk2.1 hki
     subst hki;have hkk:eqB (k:Int) (k:Int)=tt:=d8q _;by_cases hrng:x.rng
     ·have ih:=ih (k+1) (by omega) fuel
      rw[a1o] at ih;have hp:b3B (l.take k) x=0:=by unfold b3B;rw[hnm,hany,X8 hrng];rfl
      rw[hp,X8 rfl];simp only[Bd.rng] at hrng;have e1:ltB x.c 0=ff:=by rw[a0G];omega
      have e2:ltB 4 x.c=ff:=by rw[a0G];omega
      have e3:ltB x.b 0=ff:=by rw[a0G];omega
      have e4:ltB 1000000 x.b=ff:=by rw[a0G];omega
      have e5:ltB x.p 0=ff:=by rw[a0G];omega
      have e6:ltB 24000 x.p=ff:=by rw[a0G];omega
      simp only[↓reduceIte,Q3,Q4,Qe,Qg,Nat.reduceAdd,Qr,Q2,Qk,Qj,a0c,Q1,Q0,Q6,Q5,Qa,Qn,Nat.reduceLeDiff,hkk,q1,q2,q3,b1f,r1,r2,r3,e1,e2,e3,e4,e5,e6,X8 hup];exact ih
     ·have hp:b3B (l.take k) x=4:=by unfold b3B;rw[hnm,hany,X9 hrng];rfl
      rw[hp,X9 h40];have hno:=f0S hrng;simp only[↓reduceIte,Q3,Q4,Qe,Qg,Nat.reduceAdd,Qr,Q2,Qk,Qj,a0c,Q1,Q0,Q6,Q5,Qa,Qn,Nat.reduceLeDiff,hkk,q1,q2,q3,b1f,r1,r2,r3];cases e1:ltB x.c 0 with
      | true=>simp only[↓reduceIte,Q2,Q1,Q0,a0n,X7]
      | false =>
      simp only[↓reduceIte,Q2,];cases e2:ltB 4 x.c with
      | true=>simp only[↓reduceIte,Q2,Q1,Q0,a0n,X7]
      | false =>
      simp only[↓reduceIte,Q2,];cases e3:ltB x.b 0 with
      | true=>simp only[↓reduceIte,Q2,Q1,Q0,a0n,X7]
      | false =>
      simp only[↓reduceIte,Q2,];cases e4:ltB 1000000 x.b with
      | true=>simp only[↓reduceIte,Q2,Q1,Q0,a0n,X7]
      | false =>
      simp only[↓reduceIte,Q2,];cases e5:ltB x.p 0 with
      | true=>simp only[↓reduceIte,Q2,Q1,Q0,a0n,X7]
      | false =>
      simp only[↓reduceIte,Q2,];cases e6:ltB 24000 x.p with
      | true=>simp only[↓reduceIte,Q2,Q1,Q0,a0n,X7]
      | false=>rw[e1,e2,e3,e4,e5,e6] at hno;simp at hno
    ·have hany:((l.take i).any fun y=>decide (y.nm=x.nm))=tt:=by
      cases h:(l.take i).any fun y=>decide (y.nm=x.nm) with
      | true=>rfl
      | false=>exact absurd (hk2.2 h) hki
     have hp:b3B (l.take i) x=7:=by unfold b3B;rw[hnm,hany];rfl
     rw[hp,X9 h70];have hkk:eqB (k:Int) (i:Int)=ff:=by rw[a9W];omega
     simp only[↓reduceIte,Q2,Q1,Q0,Qm,hkk,a0n,X7]
 have:=loop l.length 0 (by omega) (n-l.length-1);rw[show n-l.length-1+l.length+1=n by omega] at this;simp only[↓reduceIte,Q2,Q0,];exact this
structure Tri where
 (x y z:Int)
def Tri.row(t:Tri):List PV:=[.int .i64 t.x,.int .i64 t.y,.int .i64 t.z]
theorem b0l(t:Tri):t.row=[.int .i64 t.x,.int .i64 t.y,.int .i64 t.z]:=rfl
theorem a7C{l:List Tri}{i:Nat}{t:Tri}(h:l[i]?=sm t):(l.map Tri.row)[i]?=sm t.row:=by simp[h]
theorem tdr(a b c:PV):Qt 1 [a,b,c]=[b,c]/\Qt 2 [a,b,c]=[c]:=⟨rfl,rfl⟩
def a3d(nb:Int)(before:List Tri)(c:Tri):Int :=
 if ltB c.x (-1)=tt then 6 else if leB nb c.x=tt then 6 else if ltB c.y 0=tt then 4 else if ltB 4 c.y=tt then 4 else if ltB c.z 0=tt then 4 else if ltB 24 c.z=tt then 4
 else if (before.any fun d=>eqB d.x c.x&&eqB d.y c.y)=tt then 7 else 0
def a3N(ps:List Pr)(before:List Tri)(a:Tri):Int :=
 if ltB a.x 0=tt then 6 else if leB (ps.length:Int) a.x=tt then 6 else if ltB a.y 1=tt then 4 else if ltB 4 a.y=tt then 4 else if ltB a.z 1=tt then 4
 else if ltB (((ps[a.x.toNat]?).map Pr.s).getD 0) a.z=tt then 4 else if (before.any fun d=>eqB d.x a.x)=tt then 7 else 0
def c8m(nb:Int)(cs:List Tri):Int:=if ltB 16 (cs.length:Int)=tt then 3 else goL (a3d nb) cs cs.length 0
def asV(ps:List Pr)(cs:List Tri):Int:=if ltB 6 (cs.length:Int)=tt then 3 else goL (a3N ps) cs cs.length 0
theorem f3d{l:List Tri}{i:Nat}(h:i<=l.length):(0:Int)<=0/\(0:Int)<=(i:Int)/\(i:Int)<=((l.map Tri.row).length:Int):=by rw[Qh];omega
theorem d3h{α:Type}(p:α->Bool){l:List α}{i:Nat}{x:α}(h:l[i]?=sm x):(l.drop i).any p=(p x||(l.drop (i+1)).any p):=by rw[a7Q h,QP]
theorem b9P{α:Type}{l:List α}{i k:Nat}(h:k<i):(l.take i)[k]?=l[k]?:=by rw[List.getElem?_take,X8 h]
section
variable (σ:List MO)(cs:List Tri)(C:PV)(hC:C.rowsOf 3=sm (cs.map Tri.row))(P B A:PV)(nb:Int)(hB:B.len=nb)(hBk:B.isKind 0=tt)(n:Nat)
theorem f4g(i:Nat)(c:Tri)(hi:i<=1000)(hil:i<=cs.length)(b0 b1 b2 b3:Bool):∀d k,k+d=i->∀fuel,
  a3S.loop (a0a Tab n) (fuel+d+1) 1 {i:=[(cs.length:Int),(i:Int),c.x,nb,c.y,c.z,(i:Int),(k:Int)],b:=[b0,b1,b2,b3],v:=[C,B,.sl 3 ((cs.take i).map Tri.row),P,A],m:=σ,k:=σ.length} =
   if (((cs.take i).drop k).any fun d=>eqB d.x c.x&&eqB d.y c.y)=tt then sm (.int .i64 7,σ) else a3S.loop (a0a Tab n) fuel 0 {i:=[(cs.length:Int),(i:Int)+1],b:=[],v:=[C,P,B,A],m:=σ,k:=σ.length}:=by
 have hK:(Xu 3 ((cs.take i).map Tri.row)).rowsOf 3=sm ((cs.take i).map Tri.row):=a1x _ _;obtain⟨p1,p2,p3⟩:=a0b hK;have htl:(cs.take i).length=i:=by rw[QE];omega
 rw[Qh,htl] at p1;generalize hKK:Xu 3 ((cs.take i).map Tri.row)=K at *
 intro d
 induction d with
 | zero =>
  intro k hk fuel;rw[Qp] at hk;subst hk;have hd:decide (k<k)=ff:=by simp
  have hup:=a2N (show k<=1000000000 by omega);rw[QK (by omega),QC,X9 (by simp),Xh,show a3S.loops[1]?=sm a8J from rfl];simp only[Q0,a8J,↓reduceIte,a0e,a0h,a0s,Xc,Xd,Xa,Q3,Q4,Q7,Qd,Q2,Q1,Q0,Xe,Xb,Xg,Qb,Q8,Q9,a0I,hd,X8 hup]
 | succ d ih =>
  intro k hk fuel;have hlt:k<(cs.take i).length:=by omega
  obtain⟨x,hx⟩:=a0S hlt;have hd:decide (k<i)=tt:=dT0 (by omega);have hq:=a0V (off:=0) hK (a7C hx);have hup:=a2N (show k<=1000000000 by omega);have ih:=ih (k+1) (by omega) fuel;rw[a1o] at ih;rw[d3h _ hx,Xh,show a3S.loops[1]?=sm a8J from rfl];simp only[Q0,a8J,↓reduceIte,a0j,a0e,a0h,a0F,a0s,Xc,Xd,Xa,PEnv.at,Q3,Q4,Q7,Qd,a0H,a0x,a1g,Qf,Qe,Qg,Nat.reduceAdd,Qr,Q2,Qk,Qj,a0c,Q1,Q0,Xk,Q6,Q5,Xe,Xb,Xg,Qb,Q8,Q9,p1,a0I,hd,le0,hq,b0l];cases h1:eqB x.x c.x with
  | false =>
   simp only[↓reduceIte,Q2,Q0,X8 hup,Qs,Qu];exact ih
  | true =>
  cases h2:eqB x.y c.y with
  | false =>
   simp only[↓reduceIte,Q2,Q0,X8 hup,QN,Qu];exact ih
  | true=>simp only[↓reduceIte,Q2,Q1,Q0,Qb,Qb,Qv,a0n,X7]
include hC hB hBk in
theorem f2R(hl:cs.length<=16):∀d i,i+d=cs.length->∀fuel,d*20+1<=fuel ->
  a3S.loop (a0a Tab n) fuel 0 {i:=[(cs.length:Int),(i:Int)],b:=[],v:=[C,P,B,A],m:=σ,k:=σ.length}=sm (.int .i64 (goL (a3d nb) cs d i),σ):=by
 obtain⟨p1,p2,p3⟩:=a0b hC;rw[Qh] at p1;intro d
 induction d with
 | zero =>
  intro i hi fuel hf;obtain⟨fuel,rfl⟩:∃f,fuel=f+1:=⟨fuel-1,by omega⟩;rw[Qp] at hi;subst hi;have hd:decide (cs.length<cs.length)=ff:=by simp
  rw[Xh,show a3S.loops[0]?=sm a8D from rfl];simp only[Q0,a8D,↓reduceIte,a0j,a0e,Xc,Xd,Xa,Q3,Q4,Q2,Q1,Q0,Xb,a0I,hd,goL,a0n,X7]
 | succ d ih =>
  intro i hi fuel hf;obtain⟨fuel,rfl⟩:∃f,fuel=f+i+1+1:=⟨fuel-i-2,by omega⟩;have hlt:i<cs.length:=by omega
  obtain⟨x,hx⟩:=a0S hlt;have hd:decide (i<cs.length)=tt:=dT0 hlt;have hq:=a0V (off:=0) hC (a7C hx);have ih:=ih (i+1) (by omega) fuel (by omega);rw[a1o] at ih;have hcut:((((cs.map Tri.row).take (i:Int).toNat).drop (0:Int).toNat))=(cs.take i).map Tri.row:=by simp[QQ]
  have hK:(Xu 3 ((cs.take i).map Tri.row)).rowsOf 3=sm ((cs.take i).map Tri.row):=a1x _ _;obtain⟨k1,k2,k3⟩:=a0b hK;rw[Qh,QE,X6 (by omega)] at k1;have hc:=f3d (l:=cs) (i:=i) (by omega);have hin:=fun b0 b1 b2 b3=>f4g σ cs C P B A nb n i x (by omega) (by omega) b0 b1 b2 b3 i 0 (by omega) fuel
  rw[c2W hx,Xh,show a3S.loops[0]?=sm a8D from rfl];simp only[Q0,a8D,↓reduceIte,a0j,a0e,a0h,a0F,b0i,a0s,Xc,Xd,Xa,PEnv.at,Q3,Q4,Q7,Qd,a0H,a0x,a1g,Qf,Qe,Qg,Nat.reduceAdd,Qr,Q2,Qk,Qj,a0c,Q1,Q0,Xk,Q6,Q5,Xe,Xb,Xg,Qb,Q8,Q9,p1,a0I,hd,le0,hq,b0l,hB,hBk];have h60:¬((6:Int)=0):=by decide
  have h40:¬((4:Int)=0):=by decide
  have h70:¬((7:Int)=0):=by decide
  cases e1:ltB x.x (-1) with
  | true =>
   have hp:a3d nb (cs.take i) x=6:=by simp only[a3d,e1,Xf,]
   rw[hp,X9 h60];simp only[↓reduceIte,Q2,Q1,Q0,a0n,X7]
  | false =>
  cases e2:leB nb x.x with
  | true =>
   have hp:a3d nb (cs.take i) x=6:=by simp only[a3d,e1,e2,Xf,Q2,Xp]
   rw[hp,X9 h60];simp only[↓reduceIte,Q2,Q1,Q0,a0n,X7]
  | false =>
  cases e3:ltB x.y 0 with
  | true =>
   have hp:a3d nb (cs.take i) x=4:=by simp only[a3d,e1,e2,e3,Xf,Q2,Xp]
   rw[hp,X9 h40];simp only[↓reduceIte,Q2,Q1,Q0,a0n,X7]
  | false =>
  cases e4:ltB 4 x.y with
  | true =>
   have hp:a3d nb (cs.take i) x=4:=by simp only[a3d,e1,e2,e3,e4,Xf,Q2,Xp]
   rw[hp,X9 h40];simp only[↓reduceIte,Q2,Q1,Q0,a0n,X7]
  | false =>
  cases e5:ltB x.z 0 with
  | true =>
   have hp:a3d nb (cs.take i) x=4:=by simp only[a3d,e1,e2,e3,e4,e5,Xf,Q2,Xp]
   rw[hp,X9 h40];simp only[↓reduceIte,Q2,Q1,Q0,a0n,X7]
  | false =>
  cases e6:ltB 24 x.z with
  | true =>
   have hp:a3d nb (cs.take i) x=4:=by simp only[a3d,e1,e2,e3,e4,e5,e6,Xf,Q2,Xp]
   rw[hp,X9 h40];simp only[↓reduceIte,Q2,Q1,Q0,a0n,X7]
  | false =>
   simp only[↓reduceIte,Xa,Q3,Q4,Q2,Q0,hC,a5M,a5P,X8 hc,hcut,k1,k2];rw[Qf] at hin;cases hany:((cs.take i).any fun d=>eqB d.x x.x&&eqB d.y x.y) with
   | true =>
    have hp:a3d nb (cs.take i) x=7:=by simp only[a3d,e1,e2,e3,e4,e5,e6,hany,Xf,Q2,Xp]
    rw[hp,X9 h70];refine(hin _ _ _ _).trans ?_;rw[X8 hany]
   | false =>
    have hp:a3d nb (cs.take i) x=0:=by simp only[a3d,e1,e2,e3,e4,e5,e6,hany,Q2,Xp]
    rw[hp,X8 rfl];refine(hin _ _ _ _).trans ?_;rw[X9 (by rw[hany];simp)];exact ih
include hC hB hBk in
theorem f2q(hn:1000<=n)(hP1:P.one=tt)(hA1:A.one=tt)(hB1:B.one=tt):a0a Tab (n+1) 65 [.agg [P,B,C,A]] σ=sm (.int .i64 (c8m nb cs),σ):=by
 obtain⟨p1,p2,p3⟩:=a0b hC;rw[Qh] at p1;simp only[a0a,d4g,Q0,Xn];show ((a0i [.sh (.agg [_,_,_,_])] _).bind _)=_;simp only[a0i,a0m,a0c,Q1,Q0,Qa,Xf,p3,hP1,hA1,hB1];show (Xj _ b8D _).bind _=_;simp only[b8D,↓reduceIte,a0j,a0e,a0h,a0s,Xc,Xd,Xa,PEnv.at,Q3,Q4,Q7,Qd,Q1,Q0,Xe,Xb,Xg,Q8,Q9,p1,p2,c8m];cases h16:ltB 16 (cs.length:Int) with
 | true=>simp only[↓reduceIte,Q2,Q1,Q0,a0n,X7]
 | false =>
  have h:=h16;rw[a0G] at h;simp only[↓reduceIte,Q2,Q0,];exact f2R σ cs C hC P B A nb hB hBk n (by omega) cs.length 0 (by omega) n (by omega)
end
section
variable (σ:List MO)(ps:List Pr)(cs:List Tri)(C:PV)(hC:C.rowsOf 3=sm (cs.map Tri.row))(P B A:PV)(hP:P.rowsOf 5=sm (ps.map Pr.row))(n:Nat)
theorem f6E(i:Nat)(c:Tri)(hi:i<=1000)(hil:i<=cs.length)(b0 b1 b2 b3:Bool)(np sup:Int):∀d k,k+d=i->∀fuel,
  a3s.loop (a0a Tab n) (fuel+d+1) 1 {i:=[(cs.length:Int),(i:Int),c.x,np,c.y,c.z,sup,(i:Int),(k:Int)],b:=[b0,b1,b2,b3],v:=[C,P,.sl 3 ((cs.take i).map Tri.row),B,A],m:=σ,k:=σ.length} =
   if (((cs.take i).drop k).any fun d=>eqB d.x c.x)=tt then sm (.int .i64 7,σ) else a3s.loop (a0a Tab n) fuel 0 {i:=[(cs.length:Int),(i:Int)+1],b:=[],v:=[C,P,B,A],m:=σ,k:=σ.length}:=by
 have hK:(Xu 3 ((cs.take i).map Tri.row)).rowsOf 3=sm ((cs.take i).map Tri.row):=a1x _ _;obtain⟨p1,p2,p3⟩:=a0b hK;have htl:(cs.take i).length=i:=by rw[QE];omega
 rw[Qh,htl] at p1;generalize hKK:Xu 3 ((cs.take i).map Tri.row)=K at *
 intro d
 induction d with
 | zero =>
  intro k hk fuel;rw[Qp] at hk;subst hk;have hd:decide (k<k)=ff:=by simp
  have hup:=a2N (show k<=1000000000 by omega);rw[QK (by omega),QC,X9 (by simp),Xh,show a3s.loops[1]?=sm a7u from rfl];simp only[Q0,a7u,↓reduceIte,a0e,a0h,a0s,Xc,Xd,Xa,Q3,Q4,Q7,Qd,Q2,Q1,Q0,Xe,Xb,Xg,Qb,Q8,Q9,a0I,hd,X8 hup]
 | succ d ih =>
  intro k hk fuel;have hlt:k<(cs.take i).length:=by omega
  obtain⟨x,hx⟩:=a0S hlt;have hd:decide (k<i)=tt:=dT0 (by omega);have hq:=a0V (off:=0) hK (a7C hx);have hup:=a2N (show k<=1000000000 by omega);have ih:=ih (k+1) (by omega) fuel;rw[a1o] at ih;rw[d3h _ hx,Xh,show a3s.loops[1]?=sm a7u from rfl];simp only[Q0,a7u,↓reduceIte,a0j,a0e,a0h,a0F,a0s,Xc,Xd,Xa,PEnv.at,Q3,Q4,Q7,Qd,a0H,a0x,a1g,Qf,Qe,Qg,Nat.reduceAdd,Qr,Q2,Qk,Qj,a0c,Q1,Q0,Xk,Q6,Q5,Xe,Xb,Xg,Qb,Q8,Q9,p1,a0I,hd,le0,hq,b0l];cases h1:eqB x.x c.x with
  | false =>
   simp only[↓reduceIte,Q2,Q0,X8 hup,Qu];exact ih
  | true=>simp only[↓reduceIte,Q2,Q1,Q0,Qv,a0n,X7]
include hC hP in
theorem f5l(hl:cs.length<=6):∀d i,i+d=cs.length->∀fuel,d*20+1<=fuel ->
  a3s.loop (a0a Tab n) fuel 0 {i:=[(cs.length:Int),(i:Int)],b:=[],v:=[C,P,B,A],m:=σ,k:=σ.length}=sm (.int .i64 (goL (a3N ps) cs d i),σ):=by
 obtain⟨p1,p2,p3⟩:=a0b hC;obtain⟨q1,q2,q3⟩:=a0b hP;rw[Qh] at p1 q1;intro d
 induction d with
 | zero =>
  intro i hi fuel hf;obtain⟨fuel,rfl⟩:∃f,fuel=f+1:=⟨fuel-1,by omega⟩;rw[Qp] at hi;subst hi;have hd:decide (cs.length<cs.length)=ff:=by simp
  rw[Xh,show a3s.loops[0]?=sm a7z from rfl];simp only[Q0,a7z,↓reduceIte,a0j,a0e,Xc,Xd,Xa,Q3,Q4,Q2,Q1,Q0,Xb,a0I,hd,goL,a0n,X7]
 | succ d ih =>
  intro i hi fuel hf;obtain⟨fuel,rfl⟩:∃f,fuel=f+i+1+1:=⟨fuel-i-2,by omega⟩;have hlt:i<cs.length:=by omega
  obtain⟨x,hx⟩:=a0S hlt;have hd:decide (i<cs.length)=tt:=dT0 hlt;have hq:=a0V (off:=0) hC (a7C hx);have ih:=ih (i+1) (by omega) fuel (by omega);rw[a1o] at ih;have hcut:((((cs.map Tri.row).take (i:Int).toNat).drop (0:Int).toNat))=(cs.take i).map Tri.row:=by simp[QQ]
  have hK:(Xu 3 ((cs.take i).map Tri.row)).rowsOf 3=sm ((cs.take i).map Tri.row):=a1x _ _;obtain⟨k1,k2,k3⟩:=a0b hK;rw[Qh,QE,X6 (by omega)] at k1;have hc:=f3d (l:=cs) (i:=i) (by omega);have hin:=fun b0 b1 b2 b3 sup=>f6E σ cs C P B A n i x (by omega) (by omega) b0 b1 b2 b3 (ps.length:Int) sup i 0 (by omega) fuel
  rw[c2W hx,Xh,show a3s.loops[0]?=sm a7z from rfl];simp only[Q0,a7z,↓reduceIte,a0j,a0e,a0h,a0F,b0i,a0s,Xc,Xd,Xa,PEnv.at,Q3,Q4,Q7,Qd,a0H,a0x,a1g,Qf,Qe,Qg,Nat.reduceAdd,Qr,Q2,Qk,Qj,a0c,Q1,Q0,Xk,Q6,Q5,Xe,Xb,Xg,Qb,Q8,Q9,p1,a0I,hd,le0,hq,b0l,q1,q2];have h60:¬((6:Int)=0):=by decide
  have h40:¬((4:Int)=0):=by decide
  have h70:¬((7:Int)=0):=by decide
  cases e1:ltB x.x 0 with
  | true =>
   have hp:a3N ps (cs.take i) x=6:=by simp only[a3N,e1,Xf,]
   rw[hp,X9 h60];simp only[↓reduceIte,Q2,Q1,Q0,a0n,X7]
  | false =>
  cases e2:leB (ps.length:Int) x.x with
  | true =>
   have hp:a3N ps (cs.take i) x=6:=by simp only[a3N,e1,e2,Xf,Q2,Xp]
   rw[hp,X9 h60];simp only[↓reduceIte,Q2,Q1,Q0,a0n,X7]
  | false =>
  cases e3:ltB x.y 1 with
  | true =>
   have hp:a3N ps (cs.take i) x=4:=by simp only[a3N,e1,e2,e3,Xf,Q2,Xp]
   rw[hp,X9 h40];simp only[↓reduceIte,Q2,Q1,Q0,a0n,X7]
  | false =>
  cases e4:ltB 4 x.y with
  | true =>
   have hp:a3N ps (cs.take i) x=4:=by simp only[a3N,e1,e2,e3,e4,Xf,Q2,Xp]
   rw[hp,X9 h40];simp only[↓reduceIte,Q2,Q1,Q0,a0n,X7]
  | false =>
  cases e5:ltB x.z 1 with
  | true =>
   have hp:a3N ps (cs.take i) x=4:=by simp only[a3N,e1,e2,e3,e4,e5,Xf,Q2,Xp]
   rw[hp,X9 h40];simp only[↓reduceIte,Q2,Q1,Q0,a0n,X7]
  | false =>
  have hb1:=e1;have hb2:=e2;rw[a0G] at hb1;rw[a4Y] at hb2;obtain⟨m,hm⟩:∃m:Nat,x.x=(m:Int):=⟨x.x.toNat,by omega⟩;obtain⟨pr,hpr⟩:=a0S (show m<ps.length by omega);have hsup:((ps[x.x.toNat]?).map Pr.s).getD 0=pr.s:=by rw[hm,QB,hpr];rfl
  have hq1:a4f x.x 5 1 P=sm (.row pr.row 1):=by rw[hm];exact a0V (off:=1) hP (a5e hpr)
  have hrg:(leB 0 x.x&&ltB x.x (ps.length:Int))=tt:=by rw[Qw,a2O,a0U];omega
  have dr:∀a b c d e:PV,Qt 1 [a,b,c,d,e]=[b,c,d,e]:=fun _ _ _ _ _=>rfl
  simp only[↓reduceIte,Q3,Q7,Qe,Qg,Nat.reduceAdd,Q2,Qk,Qj,a0c,Q1,Q0,Q5,Nat.reduceLeDiff,hrg,hq1,a5X,dr];cases e6:ltB pr.s x.z with
  | true =>
   have hp:a3N ps (cs.take i) x=4:=by simp only[a3N,e1,e2,e3,e4,e5,hsup,e6,Xf,Q2,Xp]
   rw[hp,X9 h40];simp only[↓reduceIte,Q2,Q1,Q0,a0n,X7]
  | false =>
   simp only[↓reduceIte,Xa,Q3,Q4,Q2,Q0,hC,a5M,a5P,X8 hc,hcut,k1,k2];rw[Qf] at hin;cases hany:((cs.take i).any fun d=>eqB d.x x.x) with
   | true =>
    have hp:a3N ps (cs.take i) x=7:=by simp only[a3N,e1,e2,e3,e4,e5,hsup,e6,hany,Xf,Q2,Xp]
    rw[hp,X9 h70];refine(hin _ _ _ _ _).trans ?_;rw[X8 hany]
   | false =>
    have hp:a3N ps (cs.take i) x=0:=by simp only[a3N,e1,e2,e3,e4,e5,hsup,e6,hany,Q2,Xp]
    rw[hp,X8 rfl];refine(hin _ _ _ _ _).trans ?_;rw[X9 (by rw[hany];simp)];exact ih
include hC hP in
theorem f4N(hn:1000<=n)(hA1:A.one=tt)(hB1:B.one=tt):a0a Tab (n+1) 66 [.agg [P,B,A,C]] σ=sm (.int .i64 (asV ps cs),σ):=by
 obtain⟨p1,p2,p3⟩:=a0b hC;obtain⟨q1,q2,q3⟩:=a0b hP;rw[Qh] at p1;simp only[a0a,d1Z,Q0,Xn];show ((a0i [.sh (.agg [_,_,_,_])] _).bind _)=_;simp only[a0i,a0m,a0c,Q1,Q0,Qa,Xf,p3,q3,hA1,hB1];show (Xj _ b4S _).bind _=_;simp only[b4S,↓reduceIte,a0j,a0e,a0h,a0s,Xc,Xd,Xa,PEnv.at,Q3,Q4,Q7,Qd,Q1,Q0,Xe,Xb,Xg,Q8,Q9,p1,p2,asV];cases h16:ltB 6 (cs.length:Int) with
 | true=>simp only[↓reduceIte,Q2,Q1,Q0,a0n,X7]
 | false =>
  have h:=h16;rw[a0G] at h;simp only[↓reduceIte,Q2,Q0,];exact f5l σ ps cs C hC P B A hP n (by omega) cs.length 0 (by omega) n (by omega)
end
def a8s(ps:List Pr)(bs:List Bd)(cs as':List Tri):Int :=
 if b4p ps=0 then if c6K bs=0 then if c8m (bs.length:Int) cs=0 then asV ps as' else c8m (bs.length:Int) cs else c6K bs else b4p ps
section
variable (σ:List MO)(ps:List Pr)(bs:List Bd)(cs ad:List Tri)(P B C A:PV)(hP:P.rowsOf 5=sm (ps.map Pr.row))(hB:B.rowsOf 4=sm (bs.map Bd.row))(hC:C.rowsOf 3=sm (cs.map Tri.row))(hA:A.rowsOf 3=sm (ad.map Tri.row))(n:Nat)
include hP hB hC hA in
theorem c0P(hn:1010<=n):a0a Tab n 28 [.agg [P,B,C,A]] σ=sm (.int .i64 (a8s ps bs cs ad),σ):=by
 obtain⟨n,rfl⟩:∃k,n=k+1+1:=⟨n-2,by omega⟩;obtain⟨p1,p2,p3⟩:=a0b hP;obtain⟨b1,b2,b3⟩:=a0b hB;obtain⟨c1,c2,c3⟩:=a0b hC;obtain⟨a1,a2,a3⟩:=a0b hA;rw[Qh] at b1;have k1:=c9N σ ps P hP (n+1) (by omega);have k2:=d8c σ bs B hB (n+1) (by omega);have k3:=f2q σ cs C hC P B A (bs.length:Int) b1 b2 n (by omega) p3 a3 b3;have k4:=f4N σ ps ad A hA P B C hP n (by omega) c3 b3
 skip
 rw[a0a];simp only[d9C,Q0,Xn];show ((a0i [.sh (.agg [_,_,_,_])] _).bind _)=_;simp only[a0i,a0m,a0c,Q1,Q0,Qa,Xf,p3,b3,c3,a3];show (Xj _ c4n _).bind _=_;have e0:∀z:Int,eqB z 0=decide (z=0):=fun _=>rfl
 simp only[c4n,↓reduceIte,a0j,a0e,a0A,Xc,Xd,Xa,Q3,Q4,Q7,Qd,a0c,a0w,a0m,Q1,Q0,Xk,Q6,Q5,Xe,Xb,k1,e0,a8s];by_cases h1:b4p ps=0
 ·rw[X8 h1,dT0 h1]
  simp only[↓reduceIte,Q3,Q4,Q2,a0c,Q1,Q0,Q6,Q5,Qn,k2];by_cases h2:c6K bs=0
  ·rw[X8 h2,dT0 h2]
   simp only[↓reduceIte,Q3,Q4,Q2,a0c,Q1,Q0,Q6,Q5,Qn,k3];by_cases h3:c8m (bs.length:Int) cs=0
   ·rw[X8 h3,dT0 h3]
    simp only[↓reduceIte,Q3,Q2,a0c,Q1,Q0,Qn,k4,a0n,X7]
   ·rw[X9 h3,dF0 h3]
    simp only[↓reduceIte,Q2,Q1,Q0,Qm,a0n,X7]
  ·rw[X9 h2,dF0 h2]
   simp only[↓reduceIte,Q2,Q1,Q0,Qm,a0n,X7]
 ·rw[X9 h1,dF0 h1]
  simp only[↓reduceIte,Q2,Q1,Q0,Qm,a0n,X7]
include hC in
theorem f2V(i:Nat)(c:Tri)(hi:i<=1000)(hil:i<cs.length)(b0 b1 b2 b3:Bool)(np sup:Int):∀d k,k+d=i->∀fuel,
  a1y.loop (a0a Tab n) (fuel+d+1) 1 {i:=[(i:Int),(k:Int),c.x,np,c.y,c.z],b:=[b0,b1,b2,b3],v:=[B,P,C,A],m:=σ,k:=σ.length} =
   if (((cs.take i).drop k).any fun d=>eqB d.x c.x&&eqB d.y c.y)=tt then sm (.int .i64 7,σ) else a1y.loop (a0a Tab n) fuel 0 {i:=[(i:Int)+1],b:=[],v:=[P,B,C,A],m:=σ,k:=σ.length}:=by
 obtain⟨p1,p2,p3⟩:=a0b hC;rw[Qh] at p1;have htl:(cs.take i).length=i:=by rw[QE];omega
 intro d
 induction d with
 | zero =>
  intro k hk fuel;rw[Qp] at hk;subst hk;have hd:decide (k<k)=ff:=by simp
  have hup:=a2N (show k<=1000000000 by omega);rw[QK (by omega),QC,X9 (by simp),Xh,show a1y.loops[1]?=sm a6m from rfl];simp only[Q0,a6m,↓reduceIte,a0e,a0h,a0s,Xc,Xd,Xa,Q3,Q4,Q7,Qd,Q2,Q1,Q0,Xe,Xb,Xg,Qb,Q8,Q9,a0I,hd,X8 hup]
 | succ d ih =>
  intro k hk fuel;have hlt:k<(cs.take i).length:=by omega
  obtain⟨x,hx⟩:=a0S hlt;have hx2:=hx;rw[b9P (by omega)] at hx2;have hd:decide (k<i)=tt:=dT0 (by omega);have hd2:decide (k<cs.length)=tt:=dT0 (by omega);have q0:=a0V (off:=0) hC (a7C hx2);have q1:=a0V (off:=1) hC (a7C hx2);obtain⟨r1,r2⟩:=tdr (.int .i64 x.x) (.int .i64 x.y) (.int .i64 x.z);have hup:=a2N (show k<=1000000000 by omega);have ih:=ih (k+1) (by omega) fuel;rw[a1o] at ih;rw[d3h _ hx,Xh,show a1y.loops[1]?=sm a6m from rfl];simp only[Q0,a6m,↓reduceIte,a0j,a0e,a0h,a0F,a0s,Xc,Xd,Xa,PEnv.at,Q3,Q4,Q7,Qd,a0H,a0x,a1g,Qf,Qe,Qg,Nat.reduceAdd,Qk,Qj,a0c,Q1,Q0,Xk,Q6,Q5,Xe,Xb,Xg,Qb,Q8,Q9,Nat.reduceLeDiff,p1,a0I,hd,hd2,le0,q0,b0l];cases h1:eqB x.x c.x with
  | false =>
   simp only[↓reduceIte,Q2,Q0,X8 hup,Qs,Qu];exact ih
  | true =>
  simp only[↓reduceIte,Q3,Qe,Qg,Nat.reduceAdd,Qk,Qj,a0c,Q1,Q0,Nat.reduceLeDiff,q1,b0l,r1];cases h2:eqB x.y c.y with
  | false =>
   simp only[↓reduceIte,Q2,Q0,X8 hup,QN,Qu];exact ih
  | true=>simp only[↓reduceIte,Q2,Q1,Q0,Qb,Qb,Qv,a0n,X7]
include hA in
theorem f5b(i:Nat)(c:Tri)(hi:i<=1000)(hil:i<ad.length)(b0 b1 b2 b3:Bool)(np sup:Int):∀d k,k+d=i->∀fuel,
  a1y.loop (a0a Tab n) (fuel+d+1) 3 {i:=[(i:Int),(k:Int),c.x,np,c.y,c.z,sup],b:=[b0,b1,b2,b3],v:=[P,B,C,A],m:=σ,k:=σ.length} =
   if (((ad.take i).drop k).any fun d=>eqB d.x c.x)=tt then sm (.int .i64 7,σ) else a1y.loop (a0a Tab n) fuel 2 {i:=[(i:Int)+1],b:=[],v:=[P,B,C,A],m:=σ,k:=σ.length}:=by
 obtain⟨p1,p2,p3⟩:=a0b hA;rw[Qh] at p1;have htl:(ad.take i).length=i:=by rw[QE];omega
 intro d
 induction d with
 | zero =>
  intro k hk fuel;rw[Qp] at hk;subst hk;have hd:decide (k<k)=ff:=by simp
  have hup:=a2N (show k<=1000000000 by omega);rw[QK (by omega),QC,X9 (by simp),Xh,show a1y.loops[3]?=sm a6w from rfl];simp only[Q0,a6w,↓reduceIte,a0e,a0h,a0s,Xc,Xd,Xa,Q3,Q4,Q7,Qd,Q2,Q1,Q0,Xe,Xb,Xg,Qb,Q8,Q9,a0I,hd,X8 hup]
 | succ d ih =>
  intro k hk fuel;have hlt:k<(ad.take i).length:=by omega
  obtain⟨x,hx⟩:=a0S hlt;have hx2:=hx;rw[b9P (by omega)] at hx2;have hd:decide (k<i)=tt:=dT0 (by omega);have hd2:decide (k<ad.length)=tt:=dT0 (by omega);have q0:=a0V (off:=0) hA (a7C hx2);have q1:=a0V (off:=1) hA (a7C hx2);obtain⟨r1,r2⟩:=tdr (.int .i64 x.x) (.int .i64 x.y) (.int .i64 x.z);have hup:=a2N (show k<=1000000000 by omega);have ih:=ih (k+1) (by omega) fuel;rw[a1o] at ih;rw[d3h _ hx,Xh,show a1y.loops[3]?=sm a6w from rfl];simp only[Q0,a6w,↓reduceIte,a0j,a0e,a0h,a0F,a0s,Xc,Xd,Xa,PEnv.at,Q3,Q4,Q7,Qd,a0H,a0x,a1g,Qf,Qe,Qg,Nat.reduceAdd,Qk,Qj,a0c,Q1,Q0,Xk,Q6,Q5,Xe,Xb,Xg,Qb,Q8,Q9,Nat.reduceLeDiff,p1,a0I,hd,hd2,le0,q0,b0l];cases h1:eqB x.x c.x with
  | false =>
   simp only[↓reduceIte,Q2,Q0,X8 hup,Qu];exact ih
  | true=>simp only[↓reduceIte,Q2,Q1,Q0,Qv,a0n,X7]
include hP hB hC hA in
theorem f4s(hl:ad.length<=6):∀d i,i+d=ad.length->∀fuel,d*20+1<=fuel ->
  a1y.loop (a0a Tab n) fuel 2 {i:=[(i:Int)],b:=[],v:=[P,B,C,A],m:=σ,k:=σ.length}=sm (.int .i64 (goL (a3N ps) ad d i),σ):=by
 have _:=And.intro hB hC;obtain⟨p1,p2,p3⟩:=a0b hA;obtain⟨q1,q2,q3⟩:=a0b hP;rw[Qh] at p1 q1;intro d
 induction d with
 | zero =>
  intro i hi fuel hf;obtain⟨fuel,rfl⟩:∃f,fuel=f+1:=⟨fuel-1,by omega⟩;rw[Qp] at hi;subst hi;have hd:decide (ad.length<ad.length)=ff:=by simp
  rw[Xh,show a1y.loops[2]?=sm a6r from rfl];simp only[Q0,a6r,↓reduceIte,a0j,a0e,a0h,Xc,Xd,Xa,PEnv.at,Q3,Q4,Q2,Q1,Q0,Xb,p1,p2,a0I,hd,goL,a0n,X7]
 | succ d ih =>
  intro i hi fuel hf;obtain⟨fuel,rfl⟩:∃f,fuel=f+i+1+1:=⟨fuel-i-2,by omega⟩;have hlt:i<ad.length:=by omega
  obtain⟨x,hx⟩:=a0S hlt;have hd:decide (i<ad.length)=tt:=dT0 hlt;have hq:=a0V (off:=0) hA (a7C hx);have ih:=ih (i+1) (by omega) fuel (by omega);rw[a1o] at ih;have hin:=fun b0 b1 b2 b3 sup=>f5b σ ad P B C A hA n i x (by omega) (by omega) b0 b1 b2 b3 (ps.length:Int) sup i 0 (by omega) fuel
  rw[c2W hx,Xh,show a1y.loops[2]?=sm a6r from rfl];simp only[Q0,a6r,↓reduceIte,a0j,a0e,a0h,a0F,a0s,Xc,Xd,Xa,PEnv.at,Q3,Q4,Q7,Qd,a0H,a0x,a1g,Qf,Qe,Qg,Nat.reduceAdd,Qr,Q2,Qk,Qj,a0c,Q1,Q0,Xk,Q6,Q5,Xe,Xb,Xg,Qb,Q8,Q9,p1,p2,a0I,hd,le0,hq,b0l,q1,q2];have h60:¬((6:Int)=0):=by decide
  have h40:¬((4:Int)=0):=by decide
  have h70:¬((7:Int)=0):=by decide
  cases e1:ltB x.x 0 with
  | true =>
   have hp:a3N ps (ad.take i) x=6:=by simp only[a3N,e1,Xf,]
   rw[hp,X9 h60];simp only[↓reduceIte,Q2,Q1,Q0,a0n,X7]
  | false =>
  cases e2:leB (ps.length:Int) x.x with
  | true =>
   have hp:a3N ps (ad.take i) x=6:=by simp only[a3N,e1,e2,Xf,Q2,Xp]
   rw[hp,X9 h60];simp only[↓reduceIte,Q2,Q1,Q0,a0n,X7]
  | false =>
  cases e3:ltB x.y 1 with
  | true =>
   have hp:a3N ps (ad.take i) x=4:=by simp only[a3N,e1,e2,e3,Xf,Q2,Xp]
   rw[hp,X9 h40];simp only[↓reduceIte,Q2,Q1,Q0,a0n,X7]
  | false =>
  cases e4:ltB 4 x.y with
  | true =>
   have hp:a3N ps (ad.take i) x=4:=by simp only[a3N,e1,e2,e3,e4,Xf,Q2,Xp]
   rw[hp,X9 h40];simp only[↓reduceIte,Q2,Q1,Q0,a0n,X7]
  | false =>
  cases e5:ltB x.z 1 with
  | true =>
   have hp:a3N ps (ad.take i) x=4:=by simp only[a3N,e1,e2,e3,e4,e5,Xf,Q2,Xp]
   rw[hp,X9 h40];simp only[↓reduceIte,Q2,Q1,Q0,a0n,X7]
  | false =>
  have hb1:=e1;have hb2:=e2;rw[a0G] at hb1;rw[a4Y] at hb2;obtain⟨m,hm⟩:∃m:Nat,x.x=(m:Int):=⟨x.x.toNat,by omega⟩;obtain⟨pr,hpr⟩:=a0S (show m<ps.length by omega);have hsup:((ps[x.x.toNat]?).map Pr.s).getD 0=pr.s:=by rw[hm,QB,hpr];rfl
  have hq1:a4f x.x 5 1 P=sm (.row pr.row 1):=by rw[hm];exact a0V (off:=1) hP (a5e hpr)
  have hrg:(leB 0 x.x&&ltB x.x (ps.length:Int))=tt:=by rw[Qw,a2O,a0U];omega
  have dr:∀a b c d e:PV,Qt 1 [a,b,c,d,e]=[b,c,d,e]:=fun _ _ _ _ _=>rfl
  simp only[↓reduceIte,Q3,Qe,Qg,Nat.reduceAdd,Q2,Qk,Qj,a0c,Q1,Q0,Nat.reduceLeDiff,hrg,hq1,a5X,dr];cases e6:ltB pr.s x.z with
  | true =>
   have hp:a3N ps (ad.take i) x=4:=by simp only[a3N,e1,e2,e3,e4,e5,hsup,e6,Xf,Q2,Xp]
   rw[hp,X9 h40];simp only[↓reduceIte,Q2,Q1,Q0,a0n,X7]
  | false =>
   simp only[↓reduceIte,Q2,Q0,];rw[Qf] at hin;cases hany:((ad.take i).any fun d=>eqB d.x x.x) with
   | true =>
    have hp:a3N ps (ad.take i) x=7:=by simp only[a3N,e1,e2,e3,e4,e5,hsup,e6,hany,Xf,Q2,Xp]
    rw[hp,X9 h70];refine(hin _ _ _ _ _).trans ?_;rw[X8 hany]
   | false =>
    have hp:a3N ps (ad.take i) x=0:=by simp only[a3N,e1,e2,e3,e4,e5,hsup,e6,hany,Q2,Xp]
    rw[hp,X8 rfl];refine(hin _ _ _ _ _).trans ?_;rw[X9 (by rw[hany];simp)];exact ih
include hP hB hC hA in
theorem f1d(hl:cs.length<=16):∀d i,i+d=cs.length->∀fuel,d*20+200<=fuel ->
  a1y.loop (a0a Tab n) fuel 0 {i:=[(i:Int)],b:=[],v:=[P,B,C,A],m:=σ,k:=σ.length}=sm (.int .i64 (if goL (a3d (bs.length:Int)) cs d i=0 then asV ps ad else goL (a3d (bs.length:Int)) cs d i),σ):=by
 obtain⟨p1,p2,p3⟩:=a0b hC;obtain⟨q1,q2,q3⟩:=a0b hB;rw[Qh] at p1 q1;intro d
 induction d with
 | zero =>
  intro i hi fuel hf;obtain⟨fuel,rfl⟩:∃f,fuel=f+1:=⟨fuel-1,by omega⟩;rw[Qp] at hi;subst hi;have hd:decide (cs.length<cs.length)=ff:=by simp
  rw[Xh,show a1y.loops[0]?=sm a6n from rfl];obtain⟨a1,a2,a3⟩:=a0b hA;rw[Qh] at a1;rw[show goL (a3d (bs.length:Int)) cs 0 cs.length=0 from rfl,X8 rfl];unfold asV;simp only[Q0,a6n,↓reduceIte,a0j,a0e,a0h,a0s,Xc,Xd,Xa,PEnv.at,Q3,Q4,Q7,Qd,Q2,Q1,Q0,Xe,Xb,Xg,Q8,Q9,p1,p2,a0I,hd,a1,a2];cases h6:ltB 6 (ad.length:Int) with
  | true=>simp only[↓reduceIte,Q2,Q1,Q0,a0n,X7]
  | false =>
   have h:=h6;rw[a0G] at h;simp only[↓reduceIte,Q2,Q0,];exact f4s σ ps bs cs ad P B C A hP hB hC hA n (by omega) ad.length 0 (by omega) fuel (by omega)
 | succ d ih =>
  intro i hi fuel hf;obtain⟨fuel,rfl⟩:∃f,fuel=f+i+1+1:=⟨fuel-i-2,by omega⟩;have hlt:i<cs.length:=by omega
  obtain⟨x,hx⟩:=a0S hlt;have hd:decide (i<cs.length)=tt:=dT0 hlt;have hq:=a0V (off:=0) hC (a7C hx);have ih:=ih (i+1) (by omega) fuel (by omega);rw[a1o] at ih;have hin:=fun b0 b1 b2 b3 sup=>f2V σ cs P B C A hC n i x (by omega) (by omega) b0 b1 b2 b3 (bs.length:Int) sup i 0 (by omega) fuel
  rw[c2W hx,Xh,show a1y.loops[0]?=sm a6n from rfl];simp only[Q0,a6n,↓reduceIte,a0j,a0e,a0h,a0F,a0s,Xc,Xd,Xa,PEnv.at,Q3,Q4,Q7,Qd,a0H,a0x,a1g,Qf,Qe,Qg,Nat.reduceAdd,Qr,Q2,Qk,Qj,a0c,Q1,Q0,Xk,Q6,Q5,Xe,Xb,Xg,Qb,Q8,Q9,p1,p2,a0I,hd,le0,hq,b0l,q1,q2];have h60:¬((6:Int)=0):=by decide
  have h40:¬((4:Int)=0):=by decide
  have h70:¬((7:Int)=0):=by decide
  cases e1:ltB x.x (-1) with
  | true =>
   have hp:a3d (bs.length:Int) (cs.take i) x=6:=by simp only[a3d,e1,Xf,]
   rw[hp,X9 h60,X9 h60];simp only[↓reduceIte,Q2,Q1,Q0,a0n,X7]
  | false =>
  cases e2:leB (bs.length:Int) x.x with
  | true =>
   have hp:a3d (bs.length:Int) (cs.take i) x=6:=by simp only[a3d,e1,e2,Xf,Q2,Xp]
   rw[hp,X9 h60,X9 h60];simp only[↓reduceIte,Q2,Q1,Q0,a0n,X7]
  | false =>
  cases e3:ltB x.y 0 with
  | true =>
   have hp:a3d (bs.length:Int) (cs.take i) x=4:=by simp only[a3d,e1,e2,e3,Xf,Q2,Xp]
   rw[hp,X9 h40,X9 h40];simp only[↓reduceIte,Q2,Q1,Q0,a0n,X7]
  | false =>
  cases e4:ltB 4 x.y with
  | true =>
   have hp:a3d (bs.length:Int) (cs.take i) x=4:=by simp only[a3d,e1,e2,e3,e4,Xf,Q2,Xp]
   rw[hp,X9 h40,X9 h40];simp only[↓reduceIte,Q2,Q1,Q0,a0n,X7]
  | false =>
  cases e5:ltB x.z 0 with
  | true =>
   have hp:a3d (bs.length:Int) (cs.take i) x=4:=by simp only[a3d,e1,e2,e3,e4,e5,Xf,Q2,Xp]
   rw[hp,X9 h40,X9 h40];simp only[↓reduceIte,Q2,Q1,Q0,a0n,X7]
  | false =>
  cases e6:ltB 24 x.z with
  | true =>
   have hp:a3d (bs.length:Int) (cs.take i) x=4:=by simp only[a3d,e1,e2,e3,e4,e5,e6,Xf,Q2,Xp]
   rw[hp,X9 h40,X9 h40];simp only[↓reduceIte,Q2,Q1,Q0,a0n,X7]
  | false =>
   simp only[↓reduceIte,Q2,Q0,];rw[Qf] at hin;cases hany:((cs.take i).any fun d=>eqB d.x x.x&&eqB d.y x.y) with
   | true =>
    have hp:a3d (bs.length:Int) (cs.take i) x=7:=by simp only[a3d,e1,e2,e3,e4,e5,e6,hany,Xf,Q2,Xp]
    rw[hp,X9 h70,X9 h70];refine(hin _ _ _ _ 0).trans ?_;rw[X8 hany]
   | false =>
    have hp:a3d (bs.length:Int) (cs.take i) x=0:=by simp only[a3d,e1,e2,e3,e4,e5,e6,hany,Q2,Xp]
    rw[hp,X8 rfl];refine(hin _ _ _ _ 0).trans ?_;rw[X9 (by rw[hany];simp)];exact ih
include hP hB hC hA in
theorem b5a(hn:1010<=n):a0a Tab n 18 [.agg [P,B,C,A]] σ=sm (.int .i64 (a8s ps bs cs ad),σ):=by
 obtain⟨n,rfl⟩:=a0L n (by omega);obtain⟨p1,p2,p3⟩:=a0b hP;obtain⟨b1,b2,b3⟩:=a0b hB;obtain⟨c1,c2,c3⟩:=a0b hC;obtain⟨a1,a2,a3⟩:=a0b hA;rw[Qh] at c1;have k1:=c6I σ ps P hP n (by omega);have k2:=f1W σ bs B hB n (by omega)
 skip
 rw[a0a];simp only[c7D,Q0,Xn];show ((a0i [.sh (.agg [_,_,_,_])] _).bind _)=_;simp only[a0i,a0m,a0c,Q1,Q0,Qa,Xf,p3,b3,c3,a3];show (Xj _ b2U _).bind _=_;have e0:∀z:Int,eqB z 0=decide (z=0):=fun _=>rfl
 simp only[b2U,↓reduceIte,a0j,a0e,a0h,a0A,a0s,Xc,Xd,Xa,PEnv.at,Q3,Q4,Q7,Qd,a0c,a0w,a0m,Q1,Q0,Xk,Q6,Q5,Xe,Xb,Xg,Q8,Q9,k1,e0,a8s];by_cases h1:b4p ps=0
 ·rw[X8 h1,dT0 h1]
  simp only[↓reduceIte,Q3,a0c,Q1,Q0,k2];by_cases h2:c6K bs=0
  ·rw[X8 h2,dT0 h2]
   unfold c8m;simp only[↓reduceIte,Q2,Qn,c1,c2];cases h16:ltB 16 (cs.length:Int) with
   | true =>
    simp only[Xf];rw[X9 (by decide)];simp only[↓reduceIte,Q2,Q1,Q0,a0n,X7]
   | false =>
    have h:=h16;rw[a0G] at h;rw[X9 (by simp)];simp only[↓reduceIte,Q2,Q0,];exact f1d σ ps bs cs ad P B C A hP hB hC hA n (by omega) cs.length 0 (by omega) n (by omega)
  ·rw[X9 h2,dF0 h2]
   simp only[↓reduceIte,Q2,Q1,Q0,Qm,a0n,X7]
 ·rw[X9 h1,dF0 h1]
  simp only[↓reduceIte,Q2,Q1,Q0,Qm,a0n,X7]
end
theorem e9q{n:Nat}{ps:List PV}(h:a2G Xq n 89 ps):∃x:Tri,ps=x.row:=by
 obtain⟨m,_,h⟩:=a9c Tryz.underlying89 h;simp only[Q8,Q9,a8r] at h;obtain⟨_,_,rfl,h1,_,_,rfl,h2,_,_,rfl,h3,rfl⟩:=h;obtain⟨a,rfl,_⟩:=a2z (k:=.i64) (by kernel_rfl) h1;obtain⟨b,rfl,_⟩:=a2z (k:=.i64) (by kernel_rfl) h2;obtain⟨c,rfl,_⟩:=a2z (k:=.i64) (by kernel_rfl) h3;exact⟨⟨a,b,c⟩,rfl⟩
theorem e4a{n:Nat}{ps:List PV}(h:a2G Xq n 91 ps):∃x:Tri,ps=x.row:=by
 obtain⟨m,_,h⟩:=a9c Tryz.underlying91 h;simp only[Q8,Q9,a8r] at h;obtain⟨_,_,rfl,h1,_,_,rfl,h2,_,_,rfl,h3,rfl⟩:=h;obtain⟨a,rfl,_⟩:=a2z (k:=.i64) (by kernel_rfl) h1;obtain⟨b,rfl,_⟩:=a2z (k:=.i64) (by kernel_rfl) h2;obtain⟨c,rfl,_⟩:=a2z (k:=.i64) (by kernel_rfl) h3;exact⟨⟨a,b,c⟩,rfl⟩
theorem f0j{n:Nat}{ps:List PV}(h:a2G Xq n 27 ps):∃(l1:List Pr) (l2:List Bd) (l3 l4:List Tri),ps=[.sl 5 (l1.map Pr.row),.sl 4 (l2.map Bd.row),.sl 3 (l3.map Tri.row),.sl 3 (l4.map Tri.row)]:=by
 obtain⟨m,_,h⟩:=a9c Tryz.underlying27 h;simp only[Q8,Q9,a8r] at h;obtain⟨_,_,rfl,h1,_,_,rfl,h2,_,_,rfl,h3,_,_,rfl,h4,rfl⟩:=h;obtain⟨m1,r1,_,rfl,g1⟩:=c1p (e:=93) (by kernel_rfl) h1;obtain⟨m2,r2,_,rfl,g2⟩:=c1p (e:=102) (by kernel_rfl) h2;obtain⟨m3,r3,_,rfl,g3⟩:=c1p (e:=89) (by kernel_rfl) h3;obtain⟨m4,r4,_,rfl,g4⟩:=c1p (e:=91) (by kernel_rfl) h4;obtain⟨l1,rfl⟩:=b4e (row:=Pr.row) (fun ps h=>f1D h) r1 g1;obtain⟨l2,rfl⟩:=b4e (row:=Bd.row) (fun ps h=>(f0m h).imp fun _ h=>h.1) r2 g2;obtain⟨l3,rfl⟩:=b4e (row:=Tri.row) (fun ps h=>e9q h) r3 g3;obtain⟨l4,rfl⟩:=b4e (row:=Tri.row) (fun ps h=>e4a h) r4 g4;rw[show Xq.cellsOf 93=5 by kernel_rfl,show Xq.cellsOf 102=4 by kernel_rfl,show Xq.cellsOf 89=3 by kernel_rfl,show Xq.cellsOf 91=3 by kernel_rfl];exact⟨l1,l2,l3,l4,rfl⟩
end Go.Proofs.YtmekflfjaflmkaaGreat
