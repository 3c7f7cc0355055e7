/- The examples of the chapter on activity. -/
import Derived.Test.YtmekflfjaflmkaaGreatHSys
import Derived.Test.YtmekflfjaflmkaaGreatHTxd
set_option linter.unusedSimpArgs false
set_option linter.unusedVariables false
open Option renaming bind_some → Q0, map_some → Q2, getD_some → QX, toList_some → X1
open Bool renaming false_eq_true → Q1, and_self → Qa, not_false → Qn, not_true → Qp, true_and → Qr, false_and → Qs, false_or → Qu, true_or → Qv, eq_iff_iff → QB, and_eq_true → QC, and_false → QP, not_eq_true' → X0
open List renaming getD_cons_zero → Q3, getD_cons_succ → Q4, nil_append → Q5, cons_append → Q6, getElem?_cons_zero → Q7, map_cons → Q8, map_nil → Q9, append_nil → Qb, length_cons → Qd, getElem?_cons_succ → Qe, length_nil → Qf, drop_zero → Qg, take_zero → Qh, length_map → Qj, take_succ_cons → Qk, drop → Qt, getElem?_eq_some_iff → Qz, drop_length → QA, any_nil → QH, length_take → QJ, mem_of_getElem? → QK, drop_eq_nil_of_le → QL, take_add_one → QN, any_cons → QQ, map_take → QS, all_cons → QV, takeWhile_cons → QW, findIdx?_cons → QY, takeWhile_nil → QZ, mem_append → X2, mem_singleton → X3, findIdx?_nil → X4
open Nat renaming le_refl → Qm, add_zero → Qq, min_eq_left → X5
open Int renaming natCast_add → Qw, add_mul → Qy, mul_le_mul → QD, toNat_natCast → QE, toNat_zero → QM, mul_nonneg → QU
set_option maxRecDepth 100000
namespace Go.Proofs.YtmekflfjaflmkaaGreat
open Go.Sx
structure W6 where
 (a b c d e f:Int)
def W6.pv(x:W6):List PV:=[.int .i64 x.a,.int .i64 x.b,.int .i64 x.c,.int .i64 x.d,.int .i64 x.e,.int .i64 x.f]
def W6.ok(w:W6):Prop:=0<=w.a/\w.a<=4/\0<=w.b/\w.b<=4/\0<=w.c/\w.c<=4/\0<=w.d/\w.d<=4/\0<=w.e/\w.e<=4/\0<=w.f/\w.f<=4
instance (w:W6):Decidable w.ok:=by unfold W6.ok;infer_instance
def W6.pok(w:W6):Prop:=0<=w.a/\w.a<=1000000/\0<=w.b/\w.b<=1000000/\0<=w.c/\w.c<=1000000/\0<=w.d/\w.d<=1000000/\0<=w.e/\w.e<=1000000/\0<=w.f/\w.f<=1000000
instance (w:W6):Decidable w.pok:=by unfold W6.pok;infer_instance
def a3e(w:W6):Int:=if w.ok then 0 else 4
def a2D(p w:W6):Int:=p.a*w.a+p.b*w.b+p.c*w.c+p.d*w.d+p.e*w.e+p.f*w.f
structure Ch where
 (p w:W6)
def Ch.row(c:Ch):List PV:=c.p.pv++c.w.pv
def Ch.ok(c:Ch):Prop:=c.p.pok/\c.w.ok
instance (c:Ch):Decidable c.ok:=by unfold Ch.ok;infer_instance
theorem Ch.ok_dec(x:Ch):decide x.ok=(decide x.p.pok&&decide x.w.ok):=by
 rw[QB,decide_eq_true_iff,QC,decide_eq_true_iff,decide_eq_true_iff];exact Iff.rfl
def b0Z(a b:Ch):Int:=a2D a.p b.w-a2D a.p a.w
theorem b6P{x y:Int}(h1:0<=x)(h2:x<=1000000)(h3:0<=y)(h4:y<=4):0<=x*y/\x*y<=4000000:=by
 constructor
 ·exact QU h1 h3
 ·calc x*y<=1000000*4:=QD h2 h4 h3 (by omega)
   _=4000000:=by decide
theorem c0X{p w:W6}(hp:p.pok)(hw:w.ok):(0<=p.a*w.a/\p.a*w.a<=4000000)/\(0<=p.b*w.b/\p.b*w.b<=4000000)/\(0<=p.c*w.c/\p.c*w.c<=4000000)/\(0<=p.d*w.d/\p.d*w.d<=4000000)/\(0<=p.e*w.e/\p.e*w.e<=4000000)/\(0<=p.f*w.f/\p.f*w.f<=4000000):=by
 simp only[W6.pok,W6.ok] at hp hw;exact⟨b6P (by omega) (by omega) (by omega) (by omega),b6P (by omega) (by omega) (by omega) (by omega),b6P (by omega) (by omega) (by omega) (by omega),b6P (by omega) (by omega) (by omega) (by omega),b6P (by omega) (by omega) (by omega) (by omega),b6P (by omega) (by omega) (by omega) (by omega)⟩
theorem a9F{p w:W6}(hp:p.pok)(hw:w.ok):0<=a2D p w/\a2D p w<=24000000:=by
 have:=c0X hp hw;simp only[a2D];omega
theorem c7G{a b:Ch}(ha:a.ok)(hb:b.ok):-24000000<=b0Z a b/\b0Z a b<=24000000:=by
 have:=a9F ha.1 hb.2;have:=a9F ha.1 ha.2;simp only[b0Z];omega
theorem a2E(σ:List MO)(w:W6)(n:Nat)(hn:1<=n):a0B Tab n a2T [.agg w.pv] σ=some (.int .i64 (a3e w),σ):=by
 obtain⟨n,rfl⟩:∃k,n=k+1:=⟨n-1,by omega⟩;simp only[a0B,c1C,Q0,Sys.run,W6.pv];show ((a0E [.sh (.agg [_,_,_,_,_,_])] _).bind _)=_;simp only[a0E,a0x,a0w,Q2,Q0,Qb,if_true];show (PT.ev _ b0W _).bind _=_;simp only[b0W,↓reduceIte,PT.ev,BE.safe,BE.pe,IE.pe,Q3,Q4,Q1,Q2,Q0,SV.pv,a0C,or_true];obtain⟨a,b,c,d,e,f⟩:=w;simp only[a0O,a3e];by_cases hok:(⟨a,b,c,d,e,f⟩:W6).ok
 ·rw[if_pos hok]
  simp only[W6.ok] at hok
  repeat rw[if_neg (by omega)]
  rfl
 ·rw[if_neg hok]
  simp only[W6.ok] at hok;by_cases h1:a<0
  ·rw[if_pos h1];rfl
  rw[if_neg h1];by_cases h2:4<a
  ·rw[if_pos h2];rfl
  rw[if_neg h2];by_cases h3:b<0
  ·rw[if_pos h3];rfl
  rw[if_neg h3];by_cases h4:4<b
  ·rw[if_pos h4];rfl
  rw[if_neg h4];by_cases h5:c<0
  ·rw[if_pos h5];rfl
  rw[if_neg h5];by_cases h6:4<c
  ·rw[if_pos h6];rfl
  rw[if_neg h6];by_cases h7:d<0
  ·rw[if_pos h7];rfl
  rw[if_neg h7];by_cases h8:4<d
  ·rw[if_pos h8];rfl
  rw[if_neg h8];by_cases h9:e<0
  ·rw[if_pos h9];rfl
  rw[if_neg h9];by_cases h10:4<e
  ·rw[if_pos h10];rfl
  rw[if_neg h10];by_cases h11:f<0
  ·rw[if_pos h11];rfl
  rw[if_neg h11];by_cases h12:4<f
  ·rw[if_pos h12];rfl
  rw[if_neg h12];exfalso;omega
theorem a7A(σ:List MO)(p w:W6)(hp:p.pok)(hw:w.ok)(n:Nat)(hn:1<=n):a0B Tab n a6Y [.agg p.pv,.agg w.pv] σ=some (.int .i64 (a2D p w),σ):=by
 obtain⟨n,rfl⟩:∃k,n=k+1:=⟨n-1,by omega⟩;simp only[a0B,c2J,Q0,Sys.run,W6.pv];show ((a0E [.sh (.agg [_,_,_,_,_,_]),.sh (.agg [_,_,_,_,_,_])] _).bind _)=_;simp only[a0E,a0x,a0w,Q2,Q0,Qb,Q5,Q6,if_true];show (PT.ev _ b1N _).bind _=_;obtain⟨b0,b1,b2,b3,b4,b5⟩:=c0X hp hw;obtain⟨a,b,c,d,e,f⟩:=p;obtain⟨a',b',c',d',e',f'⟩:=w;simp only at b0 b1 b2 b3 b4 b5;simp only[b1N,↓reduceIte,PT.ev,BE.safe,BE.pe,IE.pe,Q3,Q4,Q1,Q2,Q0,SV.pv,Qa,a0C,or_true,QC,a1u,a2D];generalize a*a'=x0 at *
 generalize b*b'=x1 at *
 generalize c*c'=x2 at *
 generalize d*d'=x3 at *
 generalize e*e'=x4 at *
 generalize f*f'=x5 at *
 repeat rw[if_pos (by omega)]
 rfl
theorem c9W(σ:List MO)(x:Ch)(n:Nat)(hn:2<=n):a0B Tab n b2S [.agg x.row] σ=some (.bool (decide x.ok),σ):=by
 obtain⟨n,rfl⟩:∃k,n=k+1:=⟨n-1,by omega⟩;have c1:=a2E σ x.w n (by omega);obtain⟨⟨a,b,c,d,e,f⟩,⟨a',b',c',d',e',f'⟩⟩:=x;generalize hy:a3e ⟨a',b',c',d',e',f'⟩=y at *
 simp only[a2T,W6.pv] at c1;simp only[a0B,b9l,Q0,Sys.run,W6.pv,Ch.row,Q6,Q5];show ((a0E [.sh (.agg [_,_,_,_,_,_,_,_,_,_,_,_])] _).bind _)=_;simp only[a0E,a0x,a0w,Q2,Q0,Qb,if_true];show (PT.ev _ a9B _).bind _=_;simp only[a9B,↓reduceIte,PT.ev,BE.safe,BE.pe,IE.pe,Q3,Q4,Q1,a0w,a0p,a0x,Q2,Q0,PEnv.push,Q6,Q5,SV.pvs,SV.pv,a0C,or_true,c1];simp only[a0O]
 have hyd:eqB y 0=decide (⟨a',b',c',d',e',f'⟩:W6).ok:=by
  rw[<- hy];unfold a3e;by_cases h:(⟨a',b',c',d',e',f'⟩:W6).ok
  ·rw[if_pos h,dT0 h];rfl
  ·rw[if_neg h,dF0 h];rfl
 have hsp:decide (Ch.ok ⟨⟨a,b,c,d,e,f⟩,⟨a',b',c',d',e',f'⟩⟩)=(decide (⟨a,b,c,d,e,f⟩:W6).pok&&decide (⟨a',b',c',d',e',f'⟩:W6).ok):=Ch.ok_dec _;rw[hsp,hyd];generalize decide (⟨a',b',c',d',e',f'⟩:W6).ok=q;by_cases hok:(⟨a,b,c,d,e,f⟩:W6).pok
 ·rw[dT0 hok]
  simp only[W6.pok] at hok
  repeat rw[if_neg (by omega)]
  simp
 ·rw[dF0 hok]
  simp only[W6.pok] at hok;by_cases h1:a<0
  ·rw[if_pos h1];rfl
  rw[if_neg h1];by_cases h2:1000000<a
  ·rw[if_pos h2];rfl
  rw[if_neg h2];by_cases h3:b<0
  ·rw[if_pos h3];rfl
  rw[if_neg h3];by_cases h4:1000000<b
  ·rw[if_pos h4];rfl
  rw[if_neg h4];by_cases h5:c<0
  ·rw[if_pos h5];rfl
  rw[if_neg h5];by_cases h6:1000000<c
  ·rw[if_pos h6];rfl
  rw[if_neg h6];by_cases h7:d<0
  ·rw[if_pos h7];rfl
  rw[if_neg h7];by_cases h8:1000000<d
  ·rw[if_pos h8];rfl
  rw[if_neg h8];by_cases h9:e<0
  ·rw[if_pos h9];rfl
  rw[if_neg h9];by_cases h10:1000000<e
  ·rw[if_pos h10];rfl
  rw[if_neg h10];by_cases h11:f<0
  ·rw[if_pos h11];rfl
  rw[if_neg h11];by_cases h12:1000000<f
  ·rw[if_pos h12];rfl
  rw[if_neg h12];exfalso;omega
theorem c9B(σ:List MO)(x y:Ch)(hx:x.ok)(hy:y.ok)(n:Nat)(hn:2<=n):a0B Tab n b4C [.agg x.row,.agg y.row] σ=some (.int .i64 (b0Z x y),σ):=by
 obtain⟨n,rfl⟩:∃k,n=k+1:=⟨n-1,by omega⟩;have c1:=a7A σ x.p y.w hx.1 hy.2 n (by omega);have c2:=a7A σ x.p x.w hx.1 hx.2 n (by omega);have b1:=a9F hx.1 hy.2;have b2:=a9F hx.1 hx.2;simp only[b0Z];generalize a2D x.p y.w=u at *
 generalize a2D x.p x.w=v at *
 obtain⟨⟨a,b,c,d,e,f⟩,⟨a',b',c',d',e',f'⟩⟩:=x;obtain⟨⟨a1,b1',c1',d1,e1,f1⟩,⟨a1',b1'',c1'',d1',e1',f1'⟩⟩:=y;simp only[a6Y,W6.pv] at c1 c2;simp only[a0B,c0K,Q0,Sys.run,W6.pv,Ch.row,Q6,Q5];show ((a0E [.sh (.agg [_,_,_,_,_,_,_,_,_,_,_,_]),.sh (.agg [_,_,_,_,_,_,_,_,_,_,_,_])] _).bind _)=_;simp only[a0E,a0x,a0w,Q2,Q0,Qb,Q5,Q6,if_true];show (PT.ev _ a9Y _).bind _=_;have q:(leB (-9223372036854775808) (u-v)&&leB (u-v) 9223372036854775807)=true:=by simp[leB];omega
 simp only[a9Y,↓reduceIte,PT.ev,BE.safe,BE.pe,IE.pe,Q3,Q4,Q1,a0w,a0p,a0x,Q2,Q0,PEnv.push,Q6,Q5,SV.pvs,SV.pv,Qa,a0C,or_true,c1,c2,if_pos q]
theorem a1W(x:Ch):x.row=[.int .i64 x.p.a,.int .i64 x.p.b,.int .i64 x.p.c,.int .i64 x.p.d,.int .i64 x.p.e,.int .i64 x.p.f,.int .i64 x.w.a,.int .i64 x.w.b,.int .i64 x.w.c,.int .i64 x.w.d,.int .i64 x.w.e,.int .i64 x.w.f]:=rfl
theorem a9A{l:List Ch}{i:Nat}{x:Ch}(h:l[i]?=some x):(l.map Ch.row)[i]?=some x.row:=by simp[h]
theorem d3g(σ:List MO)(l:List Ch)(P:PV)(hP:P.rowsOf 12=some (l.map Ch.row))(n:Nat)(hn:l.length+5<=n)(hl:l.length<=1000000) :
  a0B Tab n b0v [P] σ=some (.bool (l.all fun x=>decide x.ok),σ):=by
 obtain⟨n,rfl⟩:∃k,n=k+1:=⟨n-1,by omega⟩;obtain⟨p1,p2,p3⟩:=a0D hP;rw[Qj] at p1
 have loop:∀(fuel i:Nat),l.length-i<fuel->i<=l.length->d9p.loop (a0B Tab n) fuel 0 {i:=[(l.length:Int),(i:Int)],b:=[],v:=[P],m:=σ,k:=σ.length}=some (.bool ((l.drop i).all fun x=>decide x.ok),σ):=by
  intro fuel
  induction fuel with
  | zero=>intro i h;omega
  | succ fuel ihf =>
   intro i h1 h2;rw[Sys.loop,show d9p.loops[0]?=some a6R from rfl];simp only[Q0,a6R,↓reduceIte,PT.ev,BE.safe,BE.pe,IE.pe,PEnv.at,Q3,Q4,Q7,a0y,a0e,a0z,Qd,Qf,Nat.reduceAdd,Q1,a0p,a0x,Q2,Q0,PEnv.push,Q6,Q5,SV.pvs,SV.pv,BE.all,Qa,Q8,Q9,a0G,decide_eq_true_eq];by_cases hlt:i<l.length
   ·obtain⟨x,hx⟩:∃x,l[i]?=some x:=⟨_,List.getElem?_eq_getElem hlt⟩
    rw[if_pos hlt,a4v hx,QV];have hloc:=a0J (off:=0) hP (a9A hx);have c1:=c9W σ x n (by omega);have:=ihf (i+1) (by omega) (by omega);rw[show ((i+1:Nat):Int)=(i:Int)+1 from by omega] at this;have q1:(leB 0 (i:Int)&&decide (i<l.length))=true:=by simp[leB,hlt]
    have q2:(leB (-9223372036854775808) ((i:Int)+1)&&leB ((i:Int)+1) 9223372036854775807)=true:=by simp[leB];omega
    generalize decide x.ok=q at *
    simp only[b2S,a1W] at c1;simp only[p1,a0G,↓reduceIte,Q3,Q4,Qg,Qd,Qf,Nat.reduceAdd,Qm,Qk,Qh,a0w,Q2,Q0,Q6,Q5,if_pos q1,hloc,a1W,c1];cases q with
    | false=>simp only[↓reduceIte,Q1,Q2,Q0,Qn,a0C,or_true,Qs]
    | true =>
     simp only[↓reduceIte,Q1,Q0,Qp,if_pos q2,Qr];exact this
   ·rw[if_neg hlt,show i=l.length by omega,QA]
    simp only[↓reduceIte,Q1,Q2,Q0,a0C,or_true,List.all_nil]
 have h0:=loop n 0 (by omega) (Nat.zero_le _);simp only[a0B,b5I,Q0,Sys.run];show ((a0E [.sh (.one _)] _).bind _)=_;simp only[a0E,a0x,a0w,Q2,Q0,Qb,if_true,p3];show (PT.ev _ a7k _).bind _=_;simp only[a7k,↓reduceIte,PT.ev,BE.safe,BE.pe,IE.pe,PEnv.at,Q3,Q7,Q2,Q0,SV.pvs,SV.pv,BE.all,Q8,Q9,p1,p2];simpa using h0
def W6.beq(x y:W6):Bool:=eqB x.a y.a&&(eqB x.b y.b&&(eqB x.c y.c&&(eqB x.d y.d&&(eqB x.e y.e&&eqB x.f y.f))))
def W6.isZ(x:W6):Bool:=eqB x.a 0&&(eqB x.b 0&&(eqB x.c 0&&(eqB x.d 0&&(eqB x.e 0&&eqB x.f 0))))
abbrev CV:=Ch×Int
theorem d5D{α:Type}(a b c d e f a' b' c' d' e' f':α):Qt 6 [a,b,c,d,e,f,a',b',c',d',e',f']=[a',b',c',d',e',f']:=rfl
structure Pr where
 (nm:List UInt8) (s r p g:Int)
def Pr.row(x:Pr):List PV:=[.str x.nm,.int .i64 x.s,.int .i64 x.r,.int .i64 x.p,.int .i64 x.g]
structure Bd where
 (nm:List UInt8) (c b p:Int)
def Bd.row(x:Bd):List PV:=[.str x.nm,.int .i64 x.c,.int .i64 x.b,.int .i64 x.p]
theorem a2m(x:Pr):x.row=[.str x.nm,.int .i64 x.s,.int .i64 x.r,.int .i64 x.p,.int .i64 x.g]:=rfl
theorem a1X(x:Bd):x.row=[.str x.nm,.int .i64 x.c,.int .i64 x.b,.int .i64 x.p]:=rfl
theorem d0t{n:Nat}{ps:List PV}(h:a1s Tryz.prog n 93 ps):∃x:Pr,ps=x.row:=by
 obtain⟨m,_,h⟩:=a4B Tryz.underlying93 h;simp only[Q8,Q9,a4j] at h;obtain⟨_,_,rfl,h1,_,_,rfl,h2,_,_,rfl,h3,_,_,rfl,h4,_,_,rfl,h5,rfl⟩:=h;obtain⟨a,rfl⟩:=c3u (by kernel_rfl) h1;obtain⟨b,rfl,_⟩:=a1p (k:=.i64) (by kernel_rfl) h2;obtain⟨c,rfl,_⟩:=a1p (k:=.i64) (by kernel_rfl) h3;obtain⟨d,rfl,_⟩:=a1p (k:=.i64) (by kernel_rfl) h4;obtain⟨e,rfl,_⟩:=a1p (k:=.i64) (by kernel_rfl) h5;exact⟨⟨a,b,c,d,e⟩,rfl⟩
theorem c9u{n:Nat}{ps:List PV}(h:a1s Tryz.prog n 102 ps):∃x:Bd,ps=x.row/\loI .i64<=x.b/\x.b<=hiI .i64/\loI .i64<=x.p/\x.p<=hiI .i64:=by
 obtain⟨m,_,h⟩:=a4B Tryz.underlying102 h;simp only[Q8,Q9,a4j] at h;obtain⟨_,_,rfl,h1,_,_,rfl,h2,_,_,rfl,h3,_,_,rfl,h4,rfl⟩:=h;obtain⟨a,rfl⟩:=c3u (by kernel_rfl) h1;obtain⟨b,rfl,_⟩:=a1p (k:=.i64) (by kernel_rfl) h2;obtain⟨c,rfl,c1,c2⟩:=a1p (k:=.i64) (by kernel_rfl) h3;obtain⟨d,rfl,d1,d2⟩:=a1p (k:=.i64) (by kernel_rfl) h4;exact⟨⟨a,b,c,d⟩,rfl,c1,c2,d1,d2⟩
theorem a7c{α:Type}{row:α->List PV}{P:Program}{n:Nat}{t:TypeId}(h1:∀ps,a1s P n t ps->∃x:α,ps=row x):∀(rows:List (List PV)),(∀r∈rows,a1s P n t r)->∃l:List α,rows=l.map row
 | [],_=>⟨[],rfl⟩
 | r::rows,h=>by
  obtain⟨x,rfl⟩:=h1 r (h r (by simp));obtain⟨l,rfl⟩:=a7c h1 rows (fun q hq=>h q (by simp[hq]));exact⟨x::l,rfl⟩
structure St where
 (ps:List Pr) (bs:List Bd) (P B C A:PV)
structure St.Ok (s:St):Prop where
 P:s.P.rowsOf 5=some (s.ps.map Pr.row)
 B:s.B.rowsOf 4=some (s.bs.map Bd.row)
 C:s.C.one=true
 A:s.A.one=true
def St.pv(s:St):List PV:=[s.P,s.B,s.C,s.A]
def b5w(s:St)(i:Int):Bool:=leB 0 i&&ltB i (s.bs.length:Int)
theorem a9s(σ:List MO)(s:St)(hs:s.Ok)(i:Int)(n:Nat)(hn:1<=n):a0B Tab n a8m [.agg s.pv,.int .i64 i] σ=some (.bool (b5w s i),σ):=by
 obtain⟨n,rfl⟩:∃k,n=k+1:=⟨n-1,by omega⟩;obtain⟨p1,p2,p3⟩:=a0D hs.P;obtain⟨b1,b2,b3⟩:=a0D hs.B;rw[Qj] at p1 b1;simp only[a0B,c2f,Q0,Sys.run,St.pv];show ((a0E [.sh (.agg [_,_,_,_]),.sh (.one _)] _).bind _)=_;simp only[a0E,a0x,a0w,Q2,Q0,Qb,Q5,if_true,p3,b3,hs.C,hs.A];show (PT.ev _ b0Y _).bind _=_;simp only[b0Y,↓reduceIte,a0t,a0r,a0h,BE.safe,BE.pe,IE.pe,PEnv.at,Q3,Q4,Q1,Q2,Q0,SV.pv,b1,b2,a0C,or_true,b5w];cases leB 0 i<;>simp only[↓reduceIte,Q1,Q0,Qr,Qs]
def c1N(s:St)(i:Int)(x:Ch):Int:=if b5w s i=true then(match s.bs[i.toNat]? with|some b=>if eqB b.b 0=true then 0 else if ltB b.b (a2D x.p x.w)=true then 17 else 0|none=>0) else 6
theorem c7J{s:St}{i:Int}(h:b5w s i=true):∃k:Nat,i=(k:Int)/\k<s.bs.length/\i.toNat=k:=by
 simp only[b5w,QC,a1u,a0O] at h;exact⟨i.toNat,by omega,by omega,rfl⟩
theorem a1Y{l:List Bd}{i:Nat}{x:Bd}(h:l[i]?=some x):(l.map Bd.row)[i]?=some x.row:=by simp[h]
theorem b4b(σ:List MO)(s:St)(hs:s.Ok)(i:Int)(x:Ch)(hx:x.ok)(n:Nat)(hn:1<=n)(hc:a0B Tab n a6Y [.agg x.p.pv,.agg x.w.pv] σ=some (.int .i64 (a2D x.p x.w),σ)):a0B Tab (n+1) a9J [.agg s.pv,.int .i64 i,.agg x.row] σ=some (.int .i64 (c1N s i x),σ):=by
 obtain⟨p1,p2,p3⟩:=a0D hs.P;obtain⟨b1,b2,b3⟩:=a0D hs.B;rw[Qj] at p1 b1;have c1:=a9s σ s hs i n hn;simp only[a8m,a6Y,St.pv,W6.pv] at c1 hc;rw[a0B];simp only[b3B,Q0,Sys.run,St.pv,a1W];show ((a0E [.sh (.agg [_,_,_,_]),.sh (.one _),.sh (.agg [_,_,_,_,_,_,_,_,_,_,_,_])] _).bind _)=_;simp only[a0E,a0x,a0w,Q2,Q0,Qb,Q5,Q6,if_true,p3,b3,hs.C,hs.A];show (PT.ev _ a6d _).bind _=_;simp only[a6d,↓reduceIte,a0t,a0r,a0h,a0k,a0l,BE.safe,BE.pe,IE.pe,PEnv.at,Q3,Q4,Q7,Qe,a0y,a0e,a0z,Qd,Qf,Nat.reduceAdd,Q1,a0w,a0p,a0x,Q2,Q0,PEnv.push,Q6,Q5,SV.pvs,SV.pv,Qa,c1,c1N];cases hh:b5w s i with
 | false=>simp only[↓reduceIte,Q1,Q2,Q0,Qn,a0C,or_true]
 | true =>
  obtain⟨k,rfl,hk,hkn⟩:=c7J hh;obtain⟨b,hb⟩:=a0P hk;have hloc:=a0J (off:=2) hs.B (a1Y hb);have hd:decide (k<s.bs.length)=true:=dT0 hk;have dr:∀a b c d:PV,Qt 2 [a,b,c,d]=[c,d]:=fun _ _ _ _=>rfl
  have l12:(1:Nat)<=2:=by decide
  rw[hkn,hb];simp only[↓reduceIte,Q3,Q4,Qd,Qf,Nat.reduceAdd,Q1,Qk,Qh,a0w,Q2,Q0,Q6,Q5,Qa,Qp,b1,a0G,hd,le0,hloc,a1X,dr,if_pos l12];cases eqB b.b 0 with
  | true=>simp only[↓reduceIte,Q1,Q2,Q0,Qp,a0C,or_true]
  | false =>
   simp only[↓reduceIte,Q3,Q1,a0w,Q2,Q0,Qn,hc];cases ltB b.b (a2D x.p x.w)<;>simp only[↓reduceIte,Q1,Q2,Q0,a0C,or_true]
def a7Z(z:Int):Bool:=leB 97 z&&leB z 122
def b7l(z:Int):Bool:=leB 48 z&&leB z 57
def c1A(z:Int):Bool:=a7Z z||(b7l z||eqB z 95)
def innC(c:UInt8):Bool:=c1A (c.toNat:Int)
theorem a6i{l:List UInt8}{i:Nat}{c:UInt8}(h:l[i]?=some c):PV.sAt (.str l) (i:Int)=(c.toNat:Int):=by simp[PV.sAt,h]
theorem a1P(l:List UInt8):PV.sLen (.str l)=(l.length:Int):=rfl
theorem is3(l:List UInt8):PV.isKind 3 (.str l)=true:=rfl
theorem a1H(l:List UInt8):PV.one (.str l)=true:=rfl
theorem c6a(f:Nat)(l:List PV):PV.one (.fn f l)=true:=rfl
theorem a8T(a b:List UInt8):PV.sEq (.str a) (.str b)=decide (a=b):=rfl
theorem d0e(a b:List UInt8):PV.sIs b (.str a)=decide (a=b):=rfl
theorem c9q(c:UInt8):(0:Int)<=(c.toNat:Int)/\(c.toNat:Int)<=255:=by have:=c.toNat_lt;omega
theorem c2S(σ:List MO)(z:Int)(n:Nat)(hn:1<=n):a0B Tab n b0L [.int .i32 z] σ=some (.bool (a7Z z),σ):=by
 obtain⟨n,rfl⟩:∃k,n=k+1:=⟨n-1,by omega⟩;simp only[a0B,c1q,Q0,Sys.run];show ((a0E [.sh (.one _)] _).bind _)=_;simp only[a0E,a0x,a0w,Q2,Q0,Qb,if_true];show (PT.ev _ b0F _).bind _=_;simp only[b0F,↓reduceIte,a0t,a0r,BE.safe,BE.pe,IE.pe,Q3,Q0,SV.pv,a7Z];cases leB 97 z<;>simp only[↓reduceIte,Q1,Q2,Q0,a0C,or_true,Qr,Qs]
theorem d0k(σ:List MO)(z:Int)(n:Nat)(hn:1<=n):a0B Tab n b8r [.int .i32 z] σ=some (.bool (b7l z),σ):=by
 obtain⟨n,rfl⟩:∃k,n=k+1:=⟨n-1,by omega⟩;simp only[a0B,c3q,Q0,Sys.run];show ((a0E [.sh (.one _)] _).bind _)=_;simp only[a0E,a0x,a0w,Q2,Q0,Qb,if_true];show (PT.ev _ b1L _).bind _=_;simp only[b1L,↓reduceIte,a0t,a0r,BE.safe,BE.pe,IE.pe,Q3,Q0,SV.pv,b7l];cases leB 48 z<;>simp only[↓reduceIte,Q1,Q2,Q0,a0C,or_true,Qr,Qs]
theorem c9K(σ:List MO)(z:Int)(n:Nat)(hn:2<=n):a0B Tab n a4D [.int .i32 z] σ=some (.bool (c1A z),σ):=by
 obtain⟨n,rfl⟩:∃k,n=k+1:=⟨n-1,by omega⟩;have c1:=c2S σ z n (by omega);have c2:=d0k σ z n (by omega);simp only[b0L,b8r] at c1 c2;simp only[a0B,c3x,Q0,Sys.run];show ((a0E [.sh (.one _)] _).bind _)=_;simp only[a0E,a0x,a0w,Q2,Q0,Qb,if_true];show (PT.ev _ b1y _).bind _=_;simp only[b1y,↓reduceIte,a0t,a0r,a0l,BE.safe,BE.pe,IE.pe,Q3,Q4,a0w,a0p,a0x,Q2,Q0,PEnv.push,Q6,Q5,Qb,SV.pvs,SV.pv,c1,c2,c1A];cases a7Z z
 ·simp only[↓reduceIte,Q1,Qu]
  cases b7l z<;>simp only[↓reduceIte,Q1,Q2,Q0,a0C,or_true,Qv,Qu]
 ·simp only[↓reduceIte,Q1,Q2,Q0,a0C,or_true,Qv]
theorem b4u{α:Type}{p:α->Bool}{l:List α}{i:Nat}{c:α}(h:l[i]?=some c)(hc:p c=true):(l.drop i).takeWhile p=c::(l.drop (i+1)).takeWhile p:=by
 rw[a4v h,QW,if_pos hc]
theorem b5V{α:Type}{p:α->Bool}{l:List α}{i:Nat}{c:α}(h:l[i]?=some c)(hc:p c=false):(l.drop i).takeWhile p=[]:=by
 rw[a4v h,QW,hc];rfl
theorem d3n(σ:List MO)(l:List UInt8)(hl:l.length<=12)(n:Nat)(hn:20<=n):a0B Tab n c1g [.str l,.int .i64 0,.fn a4D []] σ=some (.str (l.takeWhile innC),σ):=by
 obtain⟨n,rfl⟩:∃k,n=k+1:=⟨n-1,by omega⟩
 have loop:∀d i,i+d=l.length->∀fuel,e0e.loop (a0B Tab n) (fuel+d+1) 0 {i:=[0,(i:Int)],b:=[],v:=[.str l,.fn a4D []],m:=σ,k:=σ.length}=some (.str (l.take i++(l.drop i).takeWhile innC),σ):=by
  intro d
  induction d with
  | zero =>
   intro i hi fuel;rw[Qq] at hi;subst hi;have hd:decide (l.length<l.length)=false:=by simp
   rw[Sys.loop,show e0e.loops[0]?=some a6m from rfl,QA];have hc:(0:Int)<=0/\(0:Int)<=(l.length:Int)/\(l.length:Int)<=(l.length:Int):=by omega
   simp only[Q0,a6m,↓reduceIte,a0t,a0r,a0h,a0i,BE.safe,BE.pe,IE.pe,PEnv.at,Q3,Q4,Q7,Qe,Qg,Q1,Q2,Q0,Q6,Q5,Qb,SV.pv,is3,a1P,a0G,hd,a2H,a2I,if_pos hc,a0C,or_true,QE,b3z,QZ,QM]
  | succ d ih =>
   intro i hi fuel;have hlt:i<l.length:=by omega
   obtain⟨c,hc⟩:=a0P hlt;have hd:decide (i<l.length)=true:=dT0 hlt;have hu:=c9q c;have e32:(leB (-2147483648) (c.toNat:Int)&&leB (c.toNat:Int) 2147483647)=true:=by simp[leB];omega
   have c1:=c9K σ (c.toNat:Int) n (by omega);have hup:=a1M (show i<=1000000000 by omega);simp only[a4D] at c1;rw[Sys.loop,show e0e.loops[0]?=some a6m from rfl];cases hi2:innC c with
   | true =>
    have hi3:c1A (c.toNat:Int)=true:=hi2;rw[hi3] at c1;have ih:=ih (i+1) (by omega) fuel;rw[a0T] at ih;simp only[Q0,a6m,↓reduceIte,a0t,a0r,a0h,a0i,a0g,a0m,BE.safe,BE.pe,IE.pe,PEnv.at,Q3,Q4,Q7,Qe,a0w,a0p,a0x,Q2,Q0,PEnv.push,Q6,Q5,Qb,SV.pvs,SV.pv,BE.all,Qa,Q8,Q9,is3,a1P,a0G,hd,le0,a6i hc,e32,a4D,c1,if_pos hup];rw[b4u hc hi2,show l.take i++c::(l.drop (i+1)).takeWhile innC=l.take (i+1)++(l.drop (i+1)).takeWhile innC by rw[QN,hc];simp];exact ih
   | false =>
    have hi3:c1A (c.toNat:Int)=false:=hi2;rw[hi3] at c1;have hcc:(0:Int)<=0/\(0:Int)<=(i:Int)/\(i:Int)<=(l.length:Int):=by omega
    simp only[Q0,a6m,↓reduceIte,a0t,a0r,a0h,a0i,a0g,a0m,BE.safe,BE.pe,IE.pe,PEnv.at,Q3,Q4,Q7,Qe,Qg,Q1,a0w,a0p,a0x,Q2,Q0,PEnv.push,Q6,Q5,Qb,SV.pvs,SV.pv,BE.all,Qa,Q8,Q9,is3,a1P,a0G,hd,le0,a6i hc,e32,a4D,c1,a2H,a2I,if_pos hcc,a0C,or_true,QE,b5V hc hi2,QM]
 have:=loop l.length 0 (by omega) (n-l.length-1);rw[show n-l.length-1+l.length+1=n by omega,Qh,Qg,Q5] at this;simp only[a0B,c5c,Q0,Sys.run];show ((a0E [.sh (.one _),.sh (.one _),.sh (.one _)] _).bind _)=_;simp only[a0E,a0x,a0w,Q2,Q0,Qb,Q5,Q6,if_true,a1H,c6a];show (PT.ev _ b4V _).bind _=_;simp only[b4V,a0m,IE.pe,Q3,Q7,Qe,Q2,Q0,SV.pvs,SV.pv,BE.all,Q8,Q9];exact this
def a5Y(l:List UInt8):Bool:=decide (1<=l.length)&&(decide (l.length<=12)&&(a7Z (PV.sAt (.str l) 0)&&l.all innC))
theorem a9Z{α:Type}(p:α->Bool):∀l:List α,(l.takeWhile p=l)↔l.all p=true
 | []=>by simp
 | a::l=>by
  have ih:=a9Z p l;rw[QW];cases h:p a<;>simp[h,ih]
theorem c4F(σ:List MO)(l:List UInt8)(n:Nat)(hn:30<=n):a0B Tab n b0B [.str l] σ=some (.bool (a5Y l),σ):=by
 obtain⟨n,rfl⟩:∃k,n=k+1:=⟨n-1,by omega⟩;simp only[a0B,c1P,Q0,Sys.run];show ((a0E [.sh (.one _)] _).bind _)=_;simp only[a0E,a0x,a0w,Q2,Qb,];show (PT.ev _ b0N _).bind _=_;simp only[b0N,↓reduceIte,a0t,a0r,a0h,a0l,BE.safe,BE.pe,IE.pe,PEnv.at,Q3,Q4,Q7,a0w,a0p,a0x,Q2,Q0,PEnv.push,Q6,Q5,SV.pvs,SV.pv,Qa,is3,d0e,a1P];cases l with
 | nil=>simp only[↓reduceIte,Qf,Q1,Q2,Q0,Qp,decide_true,Qp,a0C,or_true,a5Y];rfl
 | cons c l =>
  have h0:decide (c::l=[])=false:=by simp
  have hlen:decide (1<=(c::l).length)=true:=by simp
  have hp:ltB 0 ((c::l).length:Int)=true:=by rw[a0O];simp
  have sa:PV.sAt (.str (c::l)) 0=(c.toNat:Int):=rfl;rw[h0];unfold a5Y;rw[hlen,Qr,sa];generalize hl:c::l=L at *
  by_cases h12:L.length<=12
  ·have h1:leB (L.length:Int) 12=true:=by rw[a1u];omega
   have hu:=c9q c;have e32:(leB (-2147483648) (c.toNat:Int)&&leB (c.toNat:Int) 2147483647)=true:=by simp[leB];omega
   have c1:=c2S σ (c.toNat:Int) n (by omega);have c2:=d3n σ L h12 n (by omega);simp only[b0L,c1g,a4D] at c1 c2;rw[dT0 h12];cases hlo:a7Z (c.toNat:Int) with
   | false =>
    rw[hlo] at c1;simp only[↓reduceIte,Q3,Q1,a0w,Q2,Q0,Qn,h1,hp,e32,c1,a0C,or_true,Qr,Qs]
   | true =>
    rw[hlo] at c1;simp only[↓reduceIte,Q3,Q1,a0w,Q2,Q0,Q5,Qn,is3,h1,hp,e32,c1,c2,a1H,a8T,a0C,or_true,Qr];rw[show decide (L.takeWhile innC=L)=L.all innC by rw[QB,decide_eq_true_iff];exact a9Z _ _]
  ·have h1:leB (L.length:Int) 12=false:=by rw[a4u];omega
   rw[dF0 h12];simp only[↓reduceIte,Q1,Q2,Q0,Qn,h1,a0C,or_true,Qs]
theorem c9Y(σ:List MO)(l:List UInt8)(n:Nat)(hn:30<=n):a0B Tab n a8Y [.str l] σ=some (.bool (a5Y l),σ):=by
 obtain⟨n,rfl⟩:∃k,n=k+1:=⟨n-1,by omega⟩;simp only[a0B,b2Y,Q0,Sys.run];show ((a0E [.sh (.one _)] _).bind _)=_;simp only[a0E,a0x,a0w,Q2,Qb,];show (PT.ev _ a5G _).bind _=_;simp only[a5G,↓reduceIte,a0t,a0r,a0h,a0m,BE.safe,BE.pe,IE.pe,PEnv.at,Q3,Q7,Q2,Q0,SV.pvs,SV.pv,BE.all,Q8,Q9,is3,a1P];by_cases h0:l.length<1
 ·have h1:ltB (l.length:Int) 1=true:=by rw[a0O];omega
  simp only[↓reduceIte,Q1,Q2,Q0,h1,a0C,or_true,a5Y];rw[dF0 (by omega)];rfl
 have h1:ltB (l.length:Int) 1=false:=by rw[a0I];omega
 by_cases h12:12<l.length
 ·have h2:ltB 12 (l.length:Int)=true:=by rw[a0O];omega
  simp only[↓reduceIte,Q1,Q2,Q0,h1,h2,a0C,or_true,a5Y];rw[dF0 (by omega:¬l.length<=12),Qs,QP]
 have h2:ltB 12 (l.length:Int)=false:=by rw[a0I];omega
 simp only[↓reduceIte,Q1,Q0,h1,h2]
 have loop:∀d i,i+d=l.length->∀fuel,d9e.loop (a0B Tab n) (fuel+d+1) 0 {i:=[(i:Int)],b:=[],v:=[.str l],m:=σ,k:=σ.length}=some (.bool ((decide (1<=i)||a7Z (PV.sAt (.str l) 0))&&(l.drop i).all innC),σ):=by
  intro d
  induction d with
  | zero =>
   intro i hi fuel;rw[Qq] at hi;subst hi;have hd:decide (l.length<l.length)=false:=by simp
   rw[Sys.loop,show d9e.loops[0]?=some a2U from rfl,QA,dT0 (by omega:1<=l.length)];simp only[Q0,a2U,↓reduceIte,a0t,a0r,a0h,BE.safe,BE.pe,IE.pe,PEnv.at,Q3,Q1,Q2,Q0,SV.pv,Qa,is3,a1P,a0G,hd,a0C,or_true,Qv,List.all_nil]
  | succ d ih =>
   intro i hi fuel;have hlt:i<l.length:=by omega
   obtain⟨c,hc⟩:=a0P hlt;have hd:decide (i<l.length)=true:=dT0 hlt;have hup:=a1M (show i<=1000000000 by omega);have ih:=ih (i+1) (by omega) fuel;rw[a0T,dT0 (by omega:1<=i+1),Qv,Qr] at ih;rw[a4v hc,QV,Sys.loop,show d9e.loops[0]?=some a2U from rfl];have hz:eqB (i:Int) 0=decide (i=0):=by rw[QB,decide_eq_true_iff,a7J];omega
   have hA:PV.sAt (.str l) 0=PV.sAt (.str l) ((0:Nat):Int):=rfl;rw[hA];simp only[Q0,a2U,↓reduceIte,a0t,a0r,a0h,a0m,BE.safe,BE.pe,IE.pe,PEnv.at,Q3,Q7,Q2,Q0,SV.pvs,SV.pv,BE.all,Qa,Q8,Q9,is3,a1P,a0G,hd,le0,a6i hc,hz,innC,c1A,b7l];by_cases h0:i=0
   ·subst h0
    rw[a6i hc,show decide (1<=0)=false from rfl,Qu];generalize (Qt (0+1) l).all innC=rest at *
    cases g1:leB 97 (c.toNat:Int) with
    | false =>
     simp only[a7Z,g1,↓reduceIte,Q1,Q2,Q0,decide_true,a0C,or_true,Qs]
    | true =>
     cases g2:leB (c.toNat:Int) 122 with
     | false=>simp only[a7Z,g1,g2,↓reduceIte,Q1,Q2,Q0,Qn,decide_true,a0C,or_true,Qs,Qr]
     | true =>
      simp only[a7Z,g1,g2,↓reduceIte,Q1,Q0,Qa,Qp,if_pos hup,Qr,Qv];exact ih
   ·rw[dF0 h0,dT0 (by omega:1<=i),Qv,Qr]
    generalize (Qt (i+1) l).all innC=rest at *
    have n57:ltB 57 (c.toNat:Int)=!leB (c.toNat:Int) 57:=by
     rw[QB,a0O,X0,a4u];omega
    have n48:ltB (c.toNat:Int) 48=!leB 48 (c.toNat:Int):=by
     rw[QB,a0O,X0,a4u];omega
    simp only[a7Z]
    cases g1:leB 97 (c.toNat:Int)<;>cases g2:leB (c.toNat:Int) 122<;>cases g3:eqB (c.toNat:Int) 95<;>cases g4:leB 48 (c.toNat:Int)<;>cases g5:leB (c.toNat:Int) 57 <;>
     simp only[n57,n48,g4,g5,↓reduceIte,Q1,Q2,Q0,Qa,Qp,Qn,if_pos hup,a0C,or_true,Qr,Qs,QP,Bool.and_true,Qv,Bool.or_true,Qu] <;>
     exact ih
 have:=loop l.length 0 (by omega) (n-l.length-1);rw[show n-l.length-1+l.length+1=n by omega,Qg,show decide (1<=0)=false from rfl,Qu] at this;unfold a5Y;rw[dT0 (by omega:1<=l.length),dT0 (by omega:l.length<=12),Qr,Qr];exact this
theorem a1r{l:List Pr}{i:Nat}{x:Pr}(h:l[i]?=some x):(l.map Pr.row)[i]?=some x.row:=by simp[h]
def Pr.rng(x:Pr):Prop:=1<=x.s/\x.s<=4/\0<=x.r/\x.r<=1000000/\0<=x.p/\x.p<=1000/\0<=x.g/\x.g<=4
instance (x:Pr):Decidable x.rng:=by unfold Pr.rng;infer_instance
def a6G(before:List Pr)(x:Pr):Int:=if a5Y x.nm=true then(if (before.any fun y=>decide (y.nm=x.nm))=true then 7 else if x.rng then 0 else 4) else 5
def a2X(ps:List Pr):Int:=ps.foldl (fun n x=>n*(x.s+1)) 1
def c9o(ps:List Pr):Int:=if ltB 1024 (a2X ps)=true then 12 else 0
def pgo(ps:List Pr):Nat->Nat->Int
 | 0,_=>c9o ps
 | d+1,i=>match ps[i]? with
  | some x=>if a6G (ps.take i) x=0 then pgo ps d (i+1) else a6G (ps.take i) x
  | none=>0
def a8a(ps:List Pr):Int:=if eqB (ps.length:Int) 0=true then 1 else if ltB 6 (ps.length:Int)=true then 3 else pgo ps ps.length 0
theorem b1e(σ:List MO)(z a b:Int)(n:Nat)(hn:1<=n):a0B Tab n b1Y [.int .i64 z,.int .i64 a,.int .i64 b] σ=some (.bool (leB a z&&leB z b),σ):=by
 obtain⟨n,rfl⟩:∃k,n=k+1:=⟨n-1,by omega⟩;simp only[a0B,b8N,Q0,Sys.run];show ((a0E [.sh (.one _),.sh (.one _),.sh (.one _)] _).bind _)=_;simp only[a0E,a0x,a0w,Q2,Q0,Qb,Q5,Q6,if_true];show (PT.ev _ a8K _).bind _=_;simp only[a8K,↓reduceIte,a0t,a0r,BE.safe,BE.pe,IE.pe,Q3,Q4,Q0,SV.pv,];cases leB a z<;>simp only[↓reduceIte,Q1,Q2,Q0,a0C,or_true,Qr,Qs]
theorem d0Z(σ:List MO)(l:List Pr)(P:PV)(hP:P.rowsOf 5=some (l.map Pr.row))(hl:l.length<=1000000)(nm:List UInt8)(n:Nat)(hn:l.length+2<=n) :
  ∃k:Int,a0B Tab n b5K [P,.str nm] σ=some (.tup [.int .i64 k,.bool (l.any fun x=>decide (x.nm=nm))],σ):=by
 obtain⟨n,rfl⟩:∃k,n=k+1:=⟨n-1,by omega⟩;obtain⟨p1,p2,p3⟩:=a0D hP;rw[Qj] at p1
 have loop:∀d i,i+d=l.length->∃k:Int,∀fuel,d9r.loop (a0B Tab n) (fuel+d+1) 0 {i:=[(l.length:Int),(i:Int)],b:=[],v:=[.str nm,P],m:=σ,k:=σ.length}=some (.tup [.int .i64 k,.bool ((l.drop i).any fun x=>decide (x.nm=nm))],σ):=by
  intro d
  induction d with
  | zero =>
   intro i hi;rw[Qq] at hi;subst hi;refine⟨0,fun fuel=>?_⟩;have hd:decide (l.length<l.length)=false:=by simp
   rw[Sys.loop,show d9r.loops[0]?=some a3D from rfl,QA];simp only[Q0,a3D,↓reduceIte,a0t,a0r,BE.safe,BE.pe,IE.pe,Q3,Q4,Q1,Q2,Q0,SV.pvs,SV.pv,a0G,hd,a0C,or_true,QH]
  | succ d ih =>
   intro i hi;have hlt:i<l.length:=by omega
   obtain⟨x,hx⟩:=a0P hlt;have hd:decide (i<l.length)=true:=dT0 hlt;have h0:=a0J (off:=0) hP (a1r hx);have hup:=a1M (show i<=1000000000 by omega);rw[a4v hx,QQ];by_cases hn:x.nm=nm
   ·refine⟨i,fun fuel=>?_⟩
    rw[dT0 hn,Qv,Sys.loop,show d9r.loops[0]?=some a3D from rfl];simp only[Q0,a3D,↓reduceIte,a0t,a0r,a0h,a0k,a0m,BE.safe,BE.pe,IE.pe,PEnv.at,Q3,Q4,Q7,Qe,a0y,a0e,a0z,Qg,Qd,Qf,Nat.reduceAdd,Qm,Q1,Qk,Qh,a0w,Q2,Q0,PEnv.push,Q6,Q5,SV.pvs,SV.pv,BE.all,Qa,Q8,Q9,p1,a0G,hd,le0,h0,a2m,a1H,is3,a8T,dT0 hn,a0C,or_true]
   ·obtain⟨k,ih⟩:=ih (i+1) (by omega)
    refine⟨k,fun fuel=>?_⟩;have ih:=ih fuel;rw[a0T] at ih;rw[dF0 hn,Qu,Sys.loop,show d9r.loops[0]?=some a3D from rfl];simp only[Q0,a3D,↓reduceIte,a0t,a0r,a0h,a0k,a0m,BE.safe,BE.pe,IE.pe,PEnv.at,Q3,Q4,Q7,Qe,a0y,a0e,a0z,Qg,Qd,Qf,Nat.reduceAdd,Qm,Q1,Qk,Qh,a0w,Q2,Q0,PEnv.push,Q6,Q5,SV.pvs,SV.pv,BE.all,Qa,Q8,Q9,p1,a0G,hd,le0,h0,a2m,a1H,is3,a8T,dF0 hn,if_pos hup];exact ih
 obtain⟨k,hk⟩:=loop l.length 0 (by omega);have:=hk (n-l.length-1);rw[show n-l.length-1+l.length+1=n by omega,Qg] at this;refine⟨k,?_⟩;simp only[a0B,c1y,Q0,Sys.run];show ((a0E [.sh (.one _),.sh (.one _)] _).bind _)=_;simp only[a0E,a0x,a0w,Q2,Q0,Qb,Q5,Q6,if_true,p3,a1H];show (PT.ev _ b0O _).bind _=_;simp only[b0O,↓reduceIte,a0h,a0m,BE.safe,BE.pe,IE.pe,PEnv.at,Q3,Q7,Qe,Q2,Q0,SV.pvs,SV.pv,BE.all,Q8,Q9,p1,p2];exact this
def a1w(l:List Pr):W6:=⟨((l.map Pr.s)[0]?).getD 0,((l.map Pr.s)[1]?).getD 0,((l.map Pr.s)[2]?).getD 0,((l.map Pr.s)[3]?).getD 0,((l.map Pr.s)[4]?).getD 0,((l.map Pr.s)[5]?).getD 0⟩
def c0m(P:PV)(σ:List MO)(N i:Nat)(w:W6):PEnv:={i:=[(N:Int),(i:Int),w.a,w.b,w.c,w.d,w.e,w.f],b:=[],v:=[P],m:=σ,k:=σ.length}
theorem b2f(σ:List MO)(l:List Pr)(P:PV)(hP:P.rowsOf 5=some (l.map Pr.row))(hl:l.length<=6)(n:Nat)(hn:10<=n):a0B Tab n a5h [P] σ=some (.agg (a1w l).pv,σ):=by
 obtain⟨n,rfl⟩:∃k,n=k+1:=⟨n-1,by omega⟩;obtain⟨p1,p2,p3⟩:=a0D hP;rw[Qj] at p1
 have step:∀i x,l[i]?=some x->∀fuel (w:W6),d9f.loop (a0B Tab n) (fuel+1) 0 (c0m P σ l.length i w)=d9f.loop (a0B Tab n) fuel 0 (c0m P σ l.length (i+1) (match i with|0=>{w with a:=x.s}|1=>{w with b:=x.s}|2=>{w with c:=x.s}|3=>{w with d:=x.s}|4=>{w with e:=x.s}|_=>{w with f:=x.s})):=by
  intro i x hx fuel w;have hlt:i<l.length:=(Qz.1 hx).1;have hd:decide (i<l.length)=true:=dT0 hlt;have h0:=a0J (off:=0) hP (a1r hx);rw[Sys.loop,show d9f.loops[0]?=some a4M from rfl];simp only[c0m];simp only[Q0,a4M,↓reduceIte,a0r,a0h,a0k,a0m,BE.safe,BE.pe,IE.pe,PEnv.at,Q3,Q4,Q7,a0y,a0e,a0z,Qg,Qd,Qf,Nat.reduceAdd,Qm,Q1,Qk,Qh,a0w,Q2,Q0,PEnv.push,Q6,Q5,SV.pvs,SV.pv,BE.all,Qa,Q8,Q9,p1,a0G,hd,le0,h0,a2m,a1H];obtain rfl|rfl|rfl|rfl|rfl|rfl:i=0\/i=1\/i=2\/i=3\/i=4\/i=5:=by omega
  all_goals rfl
 have fin:∀fuel (w:W6),d9f.loop (a0B Tab n) (fuel+1) 0 (c0m P σ l.length l.length w)=some (.agg w.pv,σ):=by
  intro fuel w;have hd:decide (l.length<l.length)=false:=by simp
  rw[Sys.loop,show d9f.loops[0]?=some a4M from rfl];simp only[c0m];simp only[Q0,a4M,↓reduceIte,a0t,a0r,BE.safe,BE.pe,IE.pe,Q3,Q4,Q1,Q2,Q0,SV.pvs,SV.pv,a0G,hd,a0C,or_true,W6.pv]
 have key:d9f.loop (a0B Tab n) n 0 (c0m P σ l.length 0 ⟨0,0,0,0,0,0⟩)=some (.agg (a1w l).pv,σ):=by
  obtain⟨m,rfl⟩:∃m,n=m+7:=⟨n-7,by omega⟩;have g:∀k,k<l.length->∃x,l[k]?=some x:=fun k hk=>a0P hk
  rcases l with _|⟨a,_|⟨b,_|⟨c,_|⟨d,_|⟨e,_|⟨f,_|⟨z,r⟩⟩⟩⟩⟩⟩⟩
  ·exact fin _ _
  ·rw[step 0 a rfl];exact fin _ _
  ·rw[step 0 a rfl,step 1 b rfl];exact fin _ _
  ·rw[step 0 a rfl,step 1 b rfl,step 2 c rfl];exact fin _ _
  ·rw[step 0 a rfl,step 1 b rfl,step 2 c rfl,step 3 d rfl];exact fin _ _
  ·rw[step 0 a rfl,step 1 b rfl,step 2 c rfl,step 3 d rfl,step 4 e rfl];exact fin _ _
  ·rw[step 0 a rfl,step 1 b rfl,step 2 c rfl,step 3 d rfl,step 4 e rfl,step 5 f rfl];exact fin _ _
  ·simp at hl
 simp only[a0B,b9X,Q0,Sys.run];show ((a0E [.sh (.one _)] _).bind _)=_;simp only[a0E,a0x,a0w,Q2,Q0,Qb,if_true,p3];show (PT.ev _ a9i _).bind _=_;simp only[a9i,↓reduceIte,a0h,a0m,BE.safe,BE.pe,IE.pe,PEnv.at,Q3,Q7,Q2,Q0,SV.pvs,SV.pv,BE.all,Q8,Q9,p1,p2];exact key
def c6c(w:W6):Int:=if eqB (a3e w) 0=true then(let p:=((((((1*(w.a+1))*(w.b+1))*(w.c+1))*(w.d+1))*(w.e+1))*(w.f+1));if ltB 1024 p=true then 0 else p) else 0
theorem b0H{x y b:Int}(h1:1<=x)(h2:x<=b)(h3:1<=y)(h4:y<=5):1<=x*y/\x*y<=b*5:=by
 constructor
 ·calc (1:Int)=1*1:=rfl
   _<=x*y:=QD h1 h3 (by omega) (by omega)
 ·exact QD h2 h4 (by omega) (by omega)
theorem d0q(σ:List MO)(w:W6)(n:Nat)(hn:2<=n):a0B Tab n b6i [.agg w.pv] σ=some (.int .i64 (c6c w),σ):=by
 obtain⟨n,rfl⟩:∃k,n=k+1:=⟨n-1,by omega⟩;have c1:=a2E σ w n (by omega);simp only[a2T,W6.pv] at c1;simp only[a0B,c2l,Q0,Sys.run,W6.pv];show ((a0E [.sh (.agg [_,_,_,_,_,_])] _).bind _)=_;simp only[a0E,a0x,a0w,Q2,Q0,Qb,if_true];show (PT.ev _ b0T _).bind _=_;simp only[b0T,↓reduceIte,a0t,a0r,a0h,a0l,BE.safe,BE.pe,IE.pe,Q3,Q4,a0w,a0p,a0x,Q2,Q0,PEnv.push,Q6,Q5,SV.pvs,SV.pv,Qa,c1];by_cases hw:w.ok
 case neg =>
  have hb:eqB (a3e w) 0=false:=by unfold a3e;rw[if_neg hw];rfl
  simp only[↓reduceIte,Q1,Q2,Q0,Qn,hb,a0C,or_true,c6c]
 have hb:eqB (a3e w) 0=true:=by unfold a3e;rw[if_pos hw];rfl
 obtain⟨a,b,c,d,e,f⟩:=w;have hw':=hw;simp only[W6.ok] at hw;simp only[↓reduceIte,Q1,Q2,Qp,hb,a0C,or_true,c6c];obtain⟨q1,q2⟩:=b0H (x:=1) (y:=a+1) (b:=1) (by omega) (by omega) (by omega) (by omega);generalize 1*(a+1)=x1 at *
 obtain⟨q3,q4⟩:=b0H (x:=x1) (y:=b+1) q1 q2 (by omega) (by omega);generalize x1*(b+1)=x2 at *
 obtain⟨q5,q6⟩:=b0H (x:=x2) (y:=c+1) q3 q4 (by omega) (by omega);generalize x2*(c+1)=x3 at *
 obtain⟨q7,q8⟩:=b0H (x:=x3) (y:=d+1) q5 q6 (by omega) (by omega);generalize x3*(d+1)=x4 at *
 obtain⟨q9,q10⟩:=b0H (x:=x4) (y:=e+1) q7 q8 (by omega) (by omega);generalize x4*(e+1)=x5 at *
 obtain⟨q11,q12⟩:=b0H (x:=x5) (y:=f+1) q9 q10 (by omega) (by omega);generalize x5*(f+1)=x6 at *
 repeat rw[if_pos (a0N (by omega))]
 cases ltB 1024 x6<;>simp only[↓reduceIte,Q1,Q0,]
theorem d0K{l:List Pr}(hl:l.length<=6)(hr:∀x∈l,x.rng):eqB (c6c (a1w l)) 0=ltB 1024 (a2X l):=by
 have hw:(a1w l).ok:=by
  have g:∀i:Nat,0<=((l.map Pr.s)[i]?).getD 0/\((l.map Pr.s)[i]?).getD 0<=4:=by
   intro i;cases h:(l.map Pr.s)[i]? with
   | none=>simp
   | some z =>
    have:=QK h;obtain⟨x,hx,rfl⟩:=List.mem_map.1 this;have:=hr x hx;simp only[Pr.rng] at this;simp only[QX];omega
  exact⟨(g 0).1,(g 0).2,(g 1).1,(g 1).2,(g 2).1,(g 2).2,(g 3).1,(g 3).2,(g 4).1,(g 4).2,(g 5).1,(g 5).2⟩
 have hb:eqB (a3e (a1w l)) 0=true:=by unfold a3e;rw[if_pos hw];rfl
 have hp:((((((1*((a1w l).a+1))*((a1w l).b+1))*((a1w l).c+1))*((a1w l).d+1))*((a1w l).e+1))*((a1w l).f+1))=a2X l:=by
  match l,hl with
  | [],_=>rfl
  | [a],_=>simp[a1w,a2X]
  | [a,b],_=>simp[a1w,a2X]
  | [a,b,c],_=>simp[a1w,a2X]
  | [a,b,c,d],_=>simp[a1w,a2X]
  | [a,b,c,d,e],_=>simp[a1w,a2X]
  | [a,b,c,d,e,f],_=>simp[a1w,a2X]
 have hpos:1<=a2X l:=by
  rw[<- hp];simp only[W6.ok] at hw
  have m:∀{x y:Int},1<=x->1<=y->1<=x*y:=fun h1 h2=>by
   calc (1:Int)=1*1:=rfl
    _<=_:=QD h1 h2 (by omega) (by omega)
  exact m (m (m (m (m (m (by omega) (by omega)) (by omega)) (by omega)) (by omega)) (by omega)) (by omega)
 unfold c6c;rw[if_pos hb];simp only[hp];cases h:ltB 1024 (a2X l) with
 | true=>simp[eqB]
 | false=>simp[eqB];omega
theorem d4m{l:List Pr}{i:Nat}(h:i<=l.length):(0:Int)<=0/\(0:Int)<=(i:Int)/\(i:Int)<=((l.map Pr.row).length:Int):=by rw[Qj];omega
theorem b4J(σ:List MO)(l:List Pr)(P:PV)(hP:P.rowsOf 5=some (l.map Pr.row))(n:Nat)(hn:50<=n):a0B Tab n a7z [P] σ=some (.int .i64 (a8a l),σ):=by
 obtain⟨n,rfl⟩:∃k,n=k+1:=⟨n-1,by omega⟩;obtain⟨p1,p2,p3⟩:=a0D hP;rw[Qj] at p1;simp only[a0B,c0H,Q0,Sys.run];show ((a0E [.sh (.one _)] _).bind _)=_;simp only[a0E,a0x,a0w,Q2,Q0,Qb,if_true,p3];show (PT.ev _ b0c _).bind _=_;simp only[b0c,↓reduceIte,a0t,a0r,a0h,a0m,BE.safe,BE.pe,IE.pe,PEnv.at,Q3,Q7,Q2,Q0,SV.pvs,SV.pv,BE.all,Q8,Q9,p1,p2,a8a];cases h0:eqB (l.length:Int) 0 with
 | true=>simp only[↓reduceIte,Q1,Q2,Q0,a0C,or_true]
 | false =>
 cases h6:ltB 6 (l.length:Int) with
 | true=>simp only[↓reduceIte,Q1,Q2,Q0,a0C,or_true]
 | false =>
 rw[a0I] at h6
 have loop:∀d i,i+d=l.length->(∀x∈l.take i,x.rng)->∀fuel,d9x.loop (a0B Tab n) (fuel+d+1) 0 {i:=[(l.length:Int),(i:Int)],b:=[],v:=[P],m:=σ,k:=σ.length}=some (.int .i64 (pgo l d i),σ):=by
  intro d
  induction d with
  | zero =>
   intro i hi hr fuel;rw[Qq] at hi;subst hi;have hd:decide (l.length<l.length)=false:=by simp
   have c1:=b2f σ l P hP (by omega) n (by omega);have c2:=d0q σ (a1w l) n (by omega);have c3:=d0K (l:=l) (by omega) (by rwa [b3z] at hr);simp only[a5h,b6i,W6.pv] at c1 c2;rw[Sys.loop,show d9x.loops[0]?=some a5j from rfl];simp only[Q0,a5j,↓reduceIte,a0t,a0r,a0l,BE.safe,BE.pe,IE.pe,Q3,Q4,Q7,Q1,a0w,a0p,a0x,Q2,Q0,PEnv.push,Q6,Q5,SV.pvs,SV.pv,a0G,hd,c1,c2,c3,pgo,c9o];cases ltB 1024 (a2X l)<;>simp only[↓reduceIte,Q1,Q2,Q0,a0C,or_true]
  | succ d ih =>
   intro i hi hr fuel;have hlt:i<l.length:=by omega
   obtain⟨x,hx⟩:=a0P hlt;have hd:decide (i<l.length)=true:=dT0 hlt;have hq:=a0J (off:=0) hP (a1r hx);have hup:=a1M (show i<=1000000000 by omega);have c1:=c4F σ x.nm n (by omega);have hcut:((((l.map Pr.row).take (i:Int).toNat).drop (0:Int).toNat))=(l.take i).map Pr.row:=by simp[QS]
   obtain⟨k,c2⟩:=d0Z σ (l.take i) (.sl 5 ((l.take i).map Pr.row)) (a1K _ _) (by simp;omega) x.nm n (by simp;omega);have b1:=b1e σ x.s 1 4 n (by omega);have b2:=b1e σ x.r 0 1000000 n (by omega);have b3:=b1e σ x.p 0 1000 n (by omega);have b4:=b1e σ x.g 0 4 n (by omega);simp only[b0B,b5K,b1Y] at c1 c2 b1 b2 b3 b4;rw[pgo,hx,Sys.loop,show d9x.loops[0]?=some a5j from rfl];have hc:=d4m (l:=l) (i:=i) (by omega);simp only[Q0,a5j,↓reduceIte,a0t,a0r,a0h,a0k,a0v,a0l,a0m,BE.safe,BE.pe,IE.pe,PEnv.at,Q3,Q4,Q7,Qe,a0y,a0e,a0z,Qg,Qd,Qf,Nat.reduceAdd,Qm,Q1,Qk,Qh,a0w,a0p,a0x,Q2,Q0,PEnv.push,Q6,Q5,SV.pvs,SV.pv,BE.all,Qa,Q8,Q9,p1,a0G,hd,le0,hq,a2m,a1H,c1,hP,a2H,a2I,if_pos hc,hcut];have h50:¬((5:Int)=0):=by decide
   have h70:¬((7:Int)=0):=by decide
   have h40:¬((4:Int)=0):=by decide
   cases hnm:a5Y x.nm with
   | false =>
    have hp:a6G (l.take i) x=5:=by unfold a6G;rw[hnm];rfl
    rw[hp,if_neg h50];simp only[↓reduceIte,Q1,Q2,Q0,Qn,a0C,or_true]
   | true =>
    simp only[↓reduceIte,Q3,Q4,Q1,a0w,a0x,Q2,Q0,Q6,Q5,Qb,Qp,a0U,c2];cases hany:((l.take i).any fun y=>decide (y.nm=x.nm)) with
    | true =>
     have hp:a6G (l.take i) x=7:=by unfold a6G;rw[hnm,hany];rfl
     rw[hp,if_neg h70];simp only[↓reduceIte,Q1,Q2,Q0,a0C,or_true]
    | false =>
     simp only[↓reduceIte,Q3,Q4,Q1,a0w,Q2,Q0,Q6,Q5,b1];by_cases hrng:x.rng
     ·have ih:=ih (i+1) (by omega) (by
       intro y hy;rw[QN,hx] at hy;simp only[X1,X2,X3] at hy;rcases hy with hy|rfl
       ·exact hr y hy
       ·exact hrng) fuel
      rw[a0T] at ih;have hp:a6G (l.take i) x=0:=by unfold a6G;rw[hnm,hany,if_pos hrng];rfl
      rw[hp,if_pos rfl];simp only[Pr.rng] at hrng;have e1:(leB 1 x.s&&leB x.s 4)=true:=by simp[leB];omega
      have e2:(leB 0 x.r&&leB x.r 1000000)=true:=by simp[leB];omega
      have e3:(leB 0 x.p&&leB x.p 1000)=true:=by simp[leB];omega
      have e4:(leB 0 x.g&&leB x.g 4)=true:=by simp[leB];omega
      rw[e1];rw[e2] at b2;rw[e3] at b3;rw[e4] at b4;simp only[↓reduceIte,Q3,Q4,Q1,a0w,Q2,Q0,Q6,Q5,Qb,Qp,b2,b3,b4,if_pos hup];exact ih
     ·have hp:a6G (l.take i) x=4:=by unfold a6G;rw[hnm,hany,if_neg hrng];rfl
      rw[hp,if_neg h40];cases e1:(leB 1 x.s&&leB x.s 4) with
      | false=>simp only[↓reduceIte,Q1,Q2,Q0,Qn,a0C,or_true]
      | true =>
      cases e2:(leB 0 x.r&&leB x.r 1000000) with
      | false=>rw[e2] at b2;simp only[↓reduceIte,Q3,Q1,a0w,Q2,Q0,Qp,Qn,b2,a0C,or_true]
      | true =>
      cases e3:(leB 0 x.p&&leB x.p 1000) with
      | false=>rw[e2] at b2;rw[e3] at b3;simp only[↓reduceIte,Q3,Q4,Q1,a0w,Q2,Q0,Q6,Q5,Qb,Qp,Qn,b2,b3,a0C,or_true]
      | true =>
      cases e4:(leB 0 x.g&&leB x.g 4) with
      | false=>rw[e2] at b2;rw[e3] at b3;rw[e4] at b4;simp only[↓reduceIte,Q3,Q4,Q1,a0w,Q2,Q0,Q6,Q5,Qp,Qn,b2,b3,b4,a0C,or_true]
      | true =>
       exfalso;apply hrng;simp only[QC,a1u] at e1 e2 e3 e4;simp only[Pr.rng];omega
 have:=loop l.length 0 (by omega) (by simp) (n-l.length-1);rw[show n-l.length-1+l.length+1=n by omega] at this;have h6':ltB 6 (l.length:Int)=false:=by rw[a0I];omega
 simp only[↓reduceIte,Q1,Q0,];exact this
theorem c7u{l:List Pr}(hr:∀x∈l,x.rng)(hl:l.length<=6):∀i,i<=l.length->1<=a2X (l.take i)/\a2X (l.take i)<=15625:=by
 have key:∀i,i<=l.length->1<=a2X (l.take i)/\a2X (l.take i)<=((5 ^ i:Nat):Int):=by
  intro i
  induction i with
  | zero=>intro _;simp[a2X]
  | succ i ih =>
   intro hi;obtain⟨h1,h2⟩:=ih (by omega);obtain⟨x,hx⟩:=a0P (show i<l.length by omega);have hxr:=hr x (QK hx);simp only[Pr.rng] at hxr;have:a2X (l.take (i+1))=a2X (l.take i)*(x.s+1):=c2U _ _ hx;rw[this];obtain⟨h3,h4⟩:=b0H (x:=a2X (l.take i)) (y:=x.s+1) h1 h2 (by omega) (by omega);refine⟨h3,?_⟩;rw[Nat.pow_succ];omega
 intro i hi;obtain⟨h1,h2⟩:=key i hi;have:5 ^ i<=5 ^ 6:=Nat.pow_le_pow_right (by omega) (by omega);have h6:(5:Nat) ^ 6=15625:=by decide
 omega
section
variable (σ:List MO)(l:List Pr)(P:PV)(hP:P.rowsOf 5=some (l.map Pr.row))(hl:l.length<=6)(n:Nat)(hn:40<=n)
def b2M(σ:List MO)(P:PV)(is:List Int):PEnv:={i:=is,b:=[],v:=[P],m:=σ,k:=σ.length}
include hP hl in
theorem d3E(hr:∀x∈l,x.rng):∀d i,i+d=l.length->∀fuel,d8R.loop (a0B Tab n) (fuel+d+1) 2 (b2M σ P [a2X (l.take i),(i:Int)])=some (.int .i64 (c9o l),σ):=by
 obtain⟨p1,p2,p3⟩:=a0D hP;rw[Qj] at p1;intro d
 induction d with
 | zero =>
  intro i hi fuel;rw[Qq] at hi;subst hi;have hd:decide (l.length<l.length)=false:=by simp
  rw[b3z,Sys.loop,show d8R.loops[2]?=some a3g from rfl];simp only[Q0,b2M,a3g,↓reduceIte,a0t,a0r,a0h,BE.safe,BE.pe,IE.pe,PEnv.at,Q3,Q4,Q1,Q0,SV.pv,p1,p2,a0G,hd,c9o];cases ltB 1024 (a2X l)<;>simp only[↓reduceIte,Q1,Q2,Q0,a0C,or_true]
 | succ d ih =>
  intro i hi fuel;have hlt:i<l.length:=by omega
  obtain⟨x,hx⟩:=a0P hlt;have hd:decide (i<l.length)=true:=dT0 hlt;have hq:=a0J (off:=1) hP (a1r hx);have hup:=a1M (show i<=1000000000 by omega);have ih:=ih (i+1) (by omega) fuel;have hxr:=hr x (QK hx);simp only[Pr.rng] at hxr;obtain⟨b1,b2⟩:=c7u hr hl i (by omega);obtain⟨b3,b4⟩:=c7u hr hl (i+1) (by omega);rw[a0T] at ih;rw[show a2X (l.take (i+1))=a2X (l.take i)*(x.s+1) from c2U _ _ hx] at b3 b4 ih;have dr:∀a b c d e:PV,Qt 1 [a,b,c,d,e]=[b,c,d,e]:=fun _ _ _ _ _=>rfl
  rw[show fuel+(d+1)+1=(fuel+d+1)+1 from rfl,Sys.loop,show d8R.loops[2]?=some a3g from rfl];simp only[Q0,b2M,a3g,↓reduceIte,a0r,a0h,a0k,a0m,BE.safe,BE.pe,IE.pe,PEnv.at,Q3,Q4,Q7,a0y,a0e,a0z,Qd,Qf,Nat.reduceAdd,Q1,Qk,Qh,a0w,Q2,Q0,PEnv.push,Q6,Q5,SV.pvs,SV.pv,BE.all,Qa,Q8,Q9,p1,p2,a0G,hd,le0,hq,a2m,dr,Nat.reduceLeDiff,if_pos (a0N (z:=x.s+1) (by omega)),if_pos (a0N (z:=a2X (l.take i)*(x.s+1)) (by omega)),if_pos hup];exact ih
include hP hl in
theorem d4W(i:Nat)(x:Pr)(hx:l[i]?=some x):∀d k,k+d=i->∀fuel,d8R.loop (a0B Tab n) (fuel+d+1) 1 (b2M σ P [(i:Int),(k:Int)])=if (((l.take i).drop k).any fun y=>decide (y.nm=x.nm))=true then some (.int .i64 7,σ) else if x.rng then d8R.loop (a0B Tab n) fuel 0 (b2M σ P [(i:Int)+1]) else some (.int .i64 4,σ):=by
 obtain⟨p1,p2,p3⟩:=a0D hP;rw[Qj] at p1;have hlt:i<l.length:=(Qz.1 hx).1;have hd:decide (i<l.length)=true:=dT0 hlt;have hq:=a0J (off:=0) hP (a1r hx);have hup:=a1M (show i<=1000000000 by omega);have hlen:(l.take i).length=i:=by simp;omega
 intro d
 induction d with
 | zero =>
  intro k hk fuel;rw[Qq] at hk;subst hk;have hk:decide (k<k)=false:=by simp
  have he:(l.take k).drop k=[]:=QL (by omega);have hF:¬(false=true):=by simp
  rw[he,QH,if_neg hF,Sys.loop,show d8R.loops[1]?=some a2t from rfl];simp only[Q0,b2M,a2t,↓reduceIte,a0t,a0r,a0h,a0k,a0m,BE.safe,BE.pe,IE.pe,PEnv.at,Q3,Q4,Q7,a0y,a0e,a0z,Qg,Qd,Qf,Nat.reduceAdd,Qm,Q1,Qk,Qh,a0w,Q2,Q0,PEnv.push,Q6,Q5,SV.pvs,SV.pv,BE.all,Qa,Q8,Q9,p1,a0G,hk,hd,le0,hq,a2m,a1H];by_cases hrng:x.rng
  ·rw[if_pos hrng]
   simp only[Pr.rng] at hrng;have e1:ltB x.s 1=false:=by rw[a0I];omega
   have e2:ltB 4 x.s=false:=by rw[a0I];omega
   have e3:ltB x.r 0=false:=by rw[a0I];omega
   have e4:ltB 1000000 x.r=false:=by rw[a0I];omega
   have e5:ltB x.p 0=false:=by rw[a0I];omega
   have e6:ltB 1000 x.p=false:=by rw[a0I];omega
   have e7:ltB x.g 0=false:=by rw[a0I];omega
   have e8:ltB 4 x.g=false:=by rw[a0I];omega
   simp only[↓reduceIte,Q1,Q0,e1,e2,e3,e4,e5,e6,e7,e8,if_pos hup]
  ·rw[if_neg hrng]
   cases e1:ltB x.s 1 with
   | true=>simp only[↓reduceIte,Q1,Q2,Q0,a0C,or_true]
   | false =>
   cases e2:ltB 4 x.s with
   | true=>simp only[↓reduceIte,Q1,Q2,Q0,a0C,or_true]
   | false =>
   cases e3:ltB x.r 0 with
   | true=>simp only[↓reduceIte,Q1,Q2,Q0,a0C,or_true]
   | false =>
   cases e4:ltB 1000000 x.r with
   | true=>simp only[↓reduceIte,Q1,Q2,Q0,a0C,or_true]
   | false =>
   cases e5:ltB x.p 0 with
   | true=>simp only[↓reduceIte,Q1,Q2,Q0,a0C,or_true]
   | false =>
   cases e6:ltB 1000 x.p with
   | true=>simp only[↓reduceIte,Q1,Q2,Q0,a0C,or_true]
   | false =>
   cases e7:ltB x.g 0 with
   | true=>simp only[↓reduceIte,Q1,Q2,Q0,a0C,or_true]
   | false =>
   cases e8:ltB 4 x.g with
   | true=>simp only[↓reduceIte,Q1,Q2,Q0,a0C,or_true]
   | false =>
    exfalso;apply hrng;simp only[a0I] at e1 e2 e3 e4 e5 e6 e7 e8;simp only[Pr.rng];omega
 | succ d ih =>
  intro k hk fuel;have hlk:k<l.length:=by omega
  obtain⟨y,hy⟩:=a0P hlk;have hki:decide (k<i)=true:=dT0 (by omega);have hkl:decide (k<l.length)=true:=dT0 hlk;have hq2:=a0J (off:=0) hP (a1r hy);have hup2:=a1M (show k<=1000000000 by omega);have hyt:(l.take i)[k]?=some y:=by rw[List.getElem?_take_of_lt (by omega)];exact hy
  rw[a4v hyt,QQ,show fuel+(d+1)+1=(fuel+d+1)+1 from rfl,Sys.loop,show d8R.loops[1]?=some a2t from rfl];by_cases hn:y.nm=x.nm
  ·rw[dT0 hn,Qv,if_pos rfl]
   simp only[Q0,b2M,a2t,↓reduceIte,a0t,a0r,a0h,a0k,a0m,BE.safe,BE.pe,IE.pe,PEnv.at,Q3,Q4,Q7,a0y,a0e,a0z,Qg,Qd,Qf,Nat.reduceAdd,Q1,Qk,Qh,a0w,Q2,Q0,PEnv.push,Q6,Q5,SV.pvs,SV.pv,BE.all,Qa,Q8,Q9,p1,a0G,hki,hkl,hd,le0,hq,hq2,a2m,a1H,is3,a8T,dT0 hn,a0C,or_true,Nat.reduceLeDiff]
  ·have ih:=ih (k+1) (by omega) fuel
   rw[a0T] at ih;rw[dF0 hn,Qu,<- ih];simp only[Q0,b2M,a2t,↓reduceIte,a0t,a0r,a0h,a0k,a0m,BE.safe,BE.pe,IE.pe,PEnv.at,Q3,Q4,Q7,a0y,a0e,a0z,Qg,Qd,Qf,Nat.reduceAdd,Q1,Qk,Qh,a0w,Q2,Q0,PEnv.push,Q6,Q5,Qb,SV.pvs,SV.pv,BE.all,Qa,Q8,Q9,p1,a0G,hki,hkl,hd,le0,hq,hq2,a2m,a1H,is3,a8T,dF0 hn,if_pos hup2,Nat.reduceLeDiff]
include hP hl hn in
theorem d4f:∀d i,i+d=l.length->(∀x∈l.take i,x.rng)->∀fuel,8+d*8<=fuel->d8R.loop (a0B Tab n) fuel 0 (b2M σ P [(i:Int)])=some (.int .i64 (pgo l d i),σ):=by
 obtain⟨p1,p2,p3⟩:=a0D hP;rw[Qj] at p1;intro d
 induction d with
 | zero =>
  intro i hi hr fuel hf;rw[Qq] at hi;subst hi;have hd:decide (l.length<l.length)=false:=by simp
  obtain⟨fuel,rfl⟩:∃k,fuel=(k+l.length+1)+1:=⟨fuel-l.length-2,by omega⟩;have:=d3E σ l P hP hl n (by rwa [b3z] at hr) l.length 0 (by omega) fuel;rw[Qh,show a2X []=1 from rfl] at this;rw[pgo,Sys.loop,show d8R.loops[0]?=some a3c from rfl];simp only[Q0,b2M,a3c,↓reduceIte,a0r,a0h,a0m,BE.safe,BE.pe,IE.pe,PEnv.at,Q3,Q7,Q1,Q2,Q0,SV.pvs,SV.pv,BE.all,Q8,Q9,p1,p2,a0G,hd];exact this
 | succ d ih =>
  intro i hi hr fuel hf;have hlt:i<l.length:=by omega
  obtain⟨x,hx⟩:=a0P hlt;have hd:decide (i<l.length)=true:=dT0 hlt;have hq:=a0J (off:=0) hP (a1r hx);have c1:=c9Y σ x.nm n (by omega);simp only[a8Y] at c1;obtain⟨fuel,rfl⟩:∃k,fuel=(k+i+1)+1:=⟨fuel-i-2,by omega⟩;have inn:=d4W σ l P hP hl n i x hx i 0 (by omega) fuel;rw[Qg] at inn;rw[pgo,hx,Sys.loop,show d8R.loops[0]?=some a3c from rfl];simp only[Q0,b2M,a3c,↓reduceIte,a0t,a0r,a0h,a0k,a0l,a0m,BE.safe,BE.pe,IE.pe,PEnv.at,Q3,Q7,Qe,a0y,a0e,a0z,Qg,Qd,Qf,Nat.reduceAdd,Q1,Qk,Qh,a0w,a0p,a0x,Q2,Q0,PEnv.push,Q6,Q5,SV.pvs,SV.pv,BE.all,Qa,Q8,Q9,p1,p2,a0G,hd,le0,hq,a2m,a1H,Nat.reduceLeDiff,c1];have h50:¬((5:Int)=0):=by decide
  have h70:¬((7:Int)=0):=by decide
  have h40:¬((4:Int)=0):=by decide
  cases hnm:a5Y x.nm with
  | false =>
   have hp:a6G (l.take i) x=5:=by unfold a6G;rw[hnm];rfl
   rw[hp,if_neg h50];simp only[↓reduceIte,Q1,Q2,Q0,Qn,a0C,or_true]
  | true =>
   simp only[↓reduceIte,Q1,Q0,Qp,];refine inn.trans ?_;cases hany:((l.take i).any fun y=>decide (y.nm=x.nm)) with
   | true =>
    have hp:a6G (l.take i) x=7:=by unfold a6G;rw[hnm,hany];rfl
    rw[hp,if_neg h70,if_pos rfl]
   | false =>
    have hF:¬(false=true):=by simp
    rw[if_neg hF];by_cases hrng:x.rng
    ·have hp:a6G (l.take i) x=0:=by unfold a6G;rw[hnm,hany,if_pos hrng];rfl
     rw[hp,if_pos rfl,if_pos hrng]
     have:=ih (i+1) (by omega) (by
      intro y hy;rw[QN,hx] at hy;simp only[X1,X2,X3] at hy;rcases hy with hy|rfl
      ·exact hr y hy
      ·exact hrng) fuel (by omega)
     rwa [a0T] at this
    ·have hp:a6G (l.take i) x=4:=by unfold a6G;rw[hnm,hany,if_neg hrng];rfl
     rw[hp,if_neg h40,if_neg hrng]
end
theorem b9Y(σ:List MO)(l:List Pr)(P:PV)(hP:P.rowsOf 5=some (l.map Pr.row))(n:Nat)(hn:70<=n):a0B Tab n a6q [P] σ=some (.int .i64 (a8a l),σ):=by
 obtain⟨n,rfl⟩:∃k,n=k+1:=⟨n-1,by omega⟩;obtain⟨p1,p2,p3⟩:=a0D hP;rw[Qj] at p1;simp only[a0B,b4a,Q0,Sys.run];show ((a0E [.sh (.one _)] _).bind _)=_;simp only[a0E,a0x,a0w,Q2,Q0,Qb,if_true,p3];show (PT.ev _ a6n _).bind _=_;simp only[a6n,↓reduceIte,a0t,a0r,a0h,a0m,BE.safe,BE.pe,IE.pe,PEnv.at,Q3,Q7,Q2,Q0,SV.pvs,SV.pv,BE.all,Q8,Q9,p1,p2,a8a];cases h0:eqB (l.length:Int) 0 with
 | true=>simp only[↓reduceIte,Q1,Q2,Q0,a0C,or_true]
 | false =>
 cases h6:ltB 6 (l.length:Int) with
 | true=>simp only[↓reduceIte,Q1,Q2,Q0,a0C,or_true]
 | false =>
 have h6':=h6;rw[a0I] at h6;have:=d4f σ l P hP (by omega) n (by omega) l.length 0 (by omega) (by simp) n (by omega);simp only[↓reduceIte,Q1,Q0,];exact this
theorem c5N{ps:List Pr}:∀d i,i+d=ps.length->pgo ps d i=0->∀k x,i<=k->ps[k]?=some x->x.rng
 | 0,i,hi,_,k,x,hk,hx=>by have:=(Qz.1 hx).1;omega
 | d+1,i,hi,h,k,x,hk,hx=>by
  obtain⟨y,hy⟩:=a0P (show i<ps.length by omega);rw[pgo,hy] at h;simp only at h;split at h
  ·rename_i hb
   by_cases hki:k=i
   ·subst hki
    rw[hx] at hy;cases hy;unfold a6G at hb;split at hb
    ·split at hb
     ·cases hb
     ·split at hb
      ·assumption
      ·cases hb
    ·cases hb
   ·exact c5N d (i+1) (by omega) h k x (by omega) hx
  ·rename_i hb;exact absurd h hb
theorem a5B{ps:List Pr}(h:a8a ps=0):ps.length<=6/\∀x∈ps,x.rng:=by
 unfold a8a at h;split at h
 ·cases h
 ·split at h
  ·cases h
  ·rename_i h6
   rw[Bool.not_eq_true,a0I] at h6;refine⟨by omega,fun x hx=>?_⟩;obtain⟨k,hk⟩:=List.mem_iff_getElem?.1 hx;exact c5N ps.length 0 (by omega) h k x (by omega) hk
def wl(w:W6):List Int:=[w.a,w.b,w.c,w.d,w.e,w.f]
def a3T(w:W6)(i:Nat):Int:=((wl w)[i]?).getD 0
def b2P(f:Pr->Int)(l:List Pr)(i:Nat):Int:=((l[i]?).map f).getD 0
def ptS(f:Pr->Int)(l:List Pr)(w:W6):Nat->Int
 | 0=>0
 | i+1=>ptS f l w i+a3T w i*b2P f l i
theorem c0k{w:W6}(hw:w.ok)(i:Nat):0<=a3T w i/\a3T w i<=4:=by
 simp only[W6.ok] at hw;unfold a3T wl;rcases i with _|_|_|_|_|_|i<;>simp<;>omega
theorem b6B{f:Pr->Int}{l:List Pr}{w:W6}{b:Int}(hw:w.ok)(hb:0<=b)(hf:∀x∈l,0<=f x/\f x<=b):∀i,0<=ptS f l w i/\ptS f l w i<=(i:Int)*(4*b)
 | 0=>by simp[ptS]
 | i+1=>by
  have ih:=b6B hw hb hf i;have h1:=c0k hw i
  have h2:0<=b2P f l i/\b2P f l i<=b:=by
   unfold b2P;cases h:l[i]? with
   | none=>simp;omega
   | some x=>simpa using hf x (QK h)
  have h3:0<=a3T w i*b2P f l i:=QU h1.1 h2.1;have h4:a3T w i*b2P f l i<=4*b:=QD h1.2 h2.2 h2.1 (by omega);simp only[ptS];refine⟨by omega,?_⟩;rw[show ((i+1:Nat):Int)*(4*b)=(i:Int)*(4*b)+4*b by rw[Qw,Qy];simp];omega
def b9e(l:List Pr)(w:W6):Int:=if eqB (a8a l) 0=true then(if eqB (a3e w) 0=true then ptS Pr.p l w l.length else 0) else 0
theorem b9r(σ:List MO)(w:W6)(n:Nat)(hn:1<=n):a0B Tab n a6e [.agg w.pv] σ=some (.bool (decide w.ok),σ):=by
 obtain⟨n,rfl⟩:∃k,n=k+1:=⟨n-1,by omega⟩;simp only[a0B,b3L,Q0,Sys.run,W6.pv];show ((a0E [.sh (.agg [_,_,_,_,_,_])] _).bind _)=_;simp only[a0E,a0x,a0w,Q2,Q0,Qb,if_true];show (PT.ev _ a6h _).bind _=_;simp only[a6h,↓reduceIte,PT.ev,BE.safe,BE.pe,IE.pe,Q3,Q4,Q1,Q2,Q0,SV.pv,a0C,or_true];obtain⟨a,b,c,d,e,f⟩:=w;simp only[a0O];by_cases hok:(⟨a,b,c,d,e,f⟩:W6).ok
 ·rw[dT0 hok]
  simp only[W6.ok] at hok
  repeat rw[if_neg (by omega)]
  rfl
 ·rw[dF0 hok]
  simp only[W6.ok] at hok;by_cases h1:a<0
  ·rw[if_pos h1];rfl
  rw[if_neg h1];by_cases h2:4<a
  ·rw[if_pos h2];rfl
  rw[if_neg h2];by_cases h3:b<0
  ·rw[if_pos h3];rfl
  rw[if_neg h3];by_cases h4:4<b
  ·rw[if_pos h4];rfl
  rw[if_neg h4];by_cases h5:c<0
  ·rw[if_pos h5];rfl
  rw[if_neg h5];by_cases h6:4<c
  ·rw[if_pos h6];rfl
  rw[if_neg h6];by_cases h7:d<0
  ·rw[if_pos h7];rfl
  rw[if_neg h7];by_cases h8:4<d
  ·rw[if_pos h8];rfl
  rw[if_neg h8];by_cases h9:e<0
  ·rw[if_pos h9];rfl
  rw[if_neg h9];by_cases h10:4<e
  ·rw[if_pos h10];rfl
  rw[if_neg h10];by_cases h11:f<0
  ·rw[if_pos h11];rfl
  rw[if_neg h11];by_cases h12:4<f
  ·rw[if_pos h12];rfl
  exfalso;omega
section
variable (σ:List MO)(l:List Pr)(P:PV)(hP:P.rowsOf 5=some (l.map Pr.row))(n:Nat)(w:W6)
def a4f(σ:List MO)(P:PV)(is:List Int)(w:W6):PEnv:={i:=is++[w.a,w.b,w.c,w.d,w.e,w.f],b:=[],v:=[P],m:=σ,k:=σ.length}
theorem dr5(a b c d e:PV):Qt 1 [a,b,c,d,e]=[b,c,d,e]/\Qt 2 [a,b,c,d,e]=[c,d,e]/\Qt 3 [a,b,c,d,e]=[d,e]/\Qt 4 [a,b,c,d,e]=[e]:=⟨rfl,rfl,rfl,rfl⟩
include hP in
theorem d4M(g:Int)(x:Pr)(hx:l[0]?=some x)(hr:x.rng):∀(m k:Nat),(k:Int)+m=w.a->k+m<=1000->∀fuel (p1 p2 p3:Int),0<=p1->p1+1000*m<=1000000000000->0<=p2->p2+1000000*m<=1000000000000->0<=p3->p3+m<=1000000000000 ->
  d8G.loop (a0B Tab n) (fuel+m+1) 1 (a4f σ P [g,p1,p2,p3,0,(k:Int)] w)=d8G.loop (a0B Tab n) fuel 0 (a4f σ P [g,p1+m*x.p,p2+m*x.r,if eqB x.g g=true then p3+m else p3,0+1] w):=by
 obtain⟨p1,p2,p3⟩:=a0D hP;rw[Qj] at p1;have hlt:0<l.length:=(Qz.1 hx).1;have hd:ltB 0 (l.length:Int)=true:=by rw[a0O];omega
 have q2:a1D 0 5 2 P=some (.row x.row 2):=a0J (off:=2) (i:=0) hP (a1r hx);have q3:a1D 0 5 3 P=some (.row x.row 3):=a0J (off:=3) (i:=0) hP (a1r hx);have q4:a1D 0 5 4 P=some (.row x.row 4):=a0J (off:=4) (i:=0) hP (a1r hx);simp only[Pr.rng] at hr;have e5:∀a b:Int,eqB a b=decide (a=b):=fun _ _=>rfl
 intro m
 induction m with
 | zero =>
  intro k hk hk2 fuel s1 s2 s3 _ _ _ _ _ _;have hk:ltB (k:Int) w.a=false:=by rw[a0I];omega
  rw[Sys.loop,show d8G.loops[1]?=some a0L from rfl];simp only[Q0,a4f,a0L,↓reduceIte,a0r,a0m,BE.safe,BE.pe,IE.pe,Q3,Q4,Q7,Q1,Q2,Q0,Q6,Q5,SV.pvs,SV.pv,BE.all,Q8,Q9,e5,Int.reduceEq,decide_true,decide_false,hk,Int.reduceAdd];simp
 | succ m ih =>
  intro k hk hk2 fuel s1 s2 s3 h1 h2 h3 h4 h5 h6;have hk':ltB (k:Int) w.a=true:=by rw[a0O];omega
  have hup:=a1M (show k<=1000000000 by omega);obtain⟨d1,d2,d3,d4⟩:=dr5 (.str x.nm) (.int .i64 x.s) (.int .i64 x.r) (.int .i64 x.p) (.int .i64 x.g);have ih:=ih (k+1) (by omega) (by omega) fuel (s1+x.p) (s2+x.r) (if eqB x.g g=true then s3+1 else s3) (by omega) (by omega) (by omega) (by omega) (by split<;>omega) (by split<;>omega);have m1:s1+x.p+(m:Int)*x.p=s1+((m+1:Nat):Int)*x.p:=by rw[Qw,Qy];simp;omega
  have m2:s2+x.r+(m:Int)*x.r=s2+((m+1:Nat):Int)*x.r:=by rw[Qw,Qy];simp;omega
  rw[m1,m2,a0T] at ih;rw[show fuel+(m+1)+1=(fuel+m+1)+1 from rfl,Sys.loop,show d8G.loops[1]?=some a0L from rfl];simp only[Q0,a4f,a0L,↓reduceIte,a0r,a0h,a0k,a0m,BE.safe,BE.pe,IE.pe,PEnv.at,Q3,Q4,Q7,a0y,a0e,a0z,Qd,Qf,Nat.reduceAdd,Qm,Q1,Qk,Qh,a0w,Q2,Q0,PEnv.push,Q6,Q5,SV.pvs,SV.pv,BE.all,Qa,Q8,Q9,p1,e5,Int.reduceEq,decide_true,decide_false,hk',hd,q2,q3,q4,a2m,d2,d3,d4,Nat.reduceLeDiff,if_pos (a0N (z:=s1+x.p) (by omega)),if_pos (a0N (z:=s2+x.r) (by omega))];cases hg:decide (x.g=g) with
  | true =>
   have hg':eqB x.g g=true:=hg;rw[if_pos hg'] at ih;simp only[↓reduceIte,Q0,if_pos (a0N (z:=s3+1) (by omega)),if_pos hup];rw[show s3+((m+1:Nat):Int)=s3+1+(m:Int) by omega];rw[if_pos hg'] at ih;exact ih
  | false =>
   have hg':¬eqB x.g g=true:=by rw[show eqB x.g g=false from hg];simp
   rw[if_neg hg'] at ih;simp only[↓reduceIte,Q1,Q0,if_pos hup];rw[if_neg hg'] at ih;exact ih
include hP in
theorem d4O(g:Int)(x:Pr)(hx:l[1]?=some x)(hr:x.rng):∀(m k:Nat),(k:Int)+m=w.b->k+m<=1000->∀fuel (p1 p2 p3:Int),0<=p1->p1+1000*m<=1000000000000->0<=p2->p2+1000000*m<=1000000000000->0<=p3->p3+m<=1000000000000 ->
  d8G.loop (a0B Tab n) (fuel+m+1) 1 (a4f σ P [g,p1,p2,p3,1,(k:Int)] w)=d8G.loop (a0B Tab n) fuel 0 (a4f σ P [g,p1+m*x.p,p2+m*x.r,if eqB x.g g=true then p3+m else p3,1+1] w):=by
 obtain⟨p1,p2,p3⟩:=a0D hP;rw[Qj] at p1;have hlt:1<l.length:=(Qz.1 hx).1;have hd:ltB 1 (l.length:Int)=true:=by rw[a0O];omega
 have q2:a1D 1 5 2 P=some (.row x.row 2):=a0J (off:=2) (i:=1) hP (a1r hx);have q3:a1D 1 5 3 P=some (.row x.row 3):=a0J (off:=3) (i:=1) hP (a1r hx);have q4:a1D 1 5 4 P=some (.row x.row 4):=a0J (off:=4) (i:=1) hP (a1r hx);simp only[Pr.rng] at hr;have e5:∀a b:Int,eqB a b=decide (a=b):=fun _ _=>rfl
 intro m
 induction m with
 | zero =>
  intro k hk hk2 fuel s1 s2 s3 _ _ _ _ _ _;have hk:ltB (k:Int) w.b=false:=by rw[a0I];omega
  rw[Sys.loop,show d8G.loops[1]?=some a0L from rfl];simp only[Q0,a4f,a0L,↓reduceIte,a0r,a0m,BE.safe,BE.pe,IE.pe,Q3,Q4,Q7,Q1,Q2,Q0,Q6,Q5,SV.pvs,SV.pv,BE.all,Q8,Q9,e5,Int.reduceEq,decide_true,decide_false,hk,Int.reduceAdd];simp
 | succ m ih =>
  intro k hk hk2 fuel s1 s2 s3 h1 h2 h3 h4 h5 h6;have hk':ltB (k:Int) w.b=true:=by rw[a0O];omega
  have hup:=a1M (show k<=1000000000 by omega);obtain⟨d1,d2,d3,d4⟩:=dr5 (.str x.nm) (.int .i64 x.s) (.int .i64 x.r) (.int .i64 x.p) (.int .i64 x.g);have ih:=ih (k+1) (by omega) (by omega) fuel (s1+x.p) (s2+x.r) (if eqB x.g g=true then s3+1 else s3) (by omega) (by omega) (by omega) (by omega) (by split<;>omega) (by split<;>omega);have m1:s1+x.p+(m:Int)*x.p=s1+((m+1:Nat):Int)*x.p:=by rw[Qw,Qy];simp;omega
  have m2:s2+x.r+(m:Int)*x.r=s2+((m+1:Nat):Int)*x.r:=by rw[Qw,Qy];simp;omega
  rw[m1,m2,a0T] at ih;rw[show fuel+(m+1)+1=(fuel+m+1)+1 from rfl,Sys.loop,show d8G.loops[1]?=some a0L from rfl];simp only[Q0,a4f,a0L,↓reduceIte,a0r,a0h,a0k,a0m,BE.safe,BE.pe,IE.pe,PEnv.at,Q3,Q4,Q7,a0y,a0e,a0z,Qd,Qf,Nat.reduceAdd,Qm,Q1,Qk,Qh,a0w,Q2,Q0,PEnv.push,Q6,Q5,SV.pvs,SV.pv,BE.all,Qa,Q8,Q9,p1,e5,Int.reduceEq,decide_true,decide_false,hk',hd,q2,q3,q4,a2m,d2,d3,d4,Nat.reduceLeDiff,if_pos (a0N (z:=s1+x.p) (by omega)),if_pos (a0N (z:=s2+x.r) (by omega))];cases hg:decide (x.g=g) with
  | true =>
   have hg':eqB x.g g=true:=hg;rw[if_pos hg'] at ih;simp only[↓reduceIte,Q0,if_pos (a0N (z:=s3+1) (by omega)),if_pos hup];rw[show s3+((m+1:Nat):Int)=s3+1+(m:Int) by omega];rw[if_pos hg'] at ih;exact ih
  | false =>
   have hg':¬eqB x.g g=true:=by rw[show eqB x.g g=false from hg];simp
   rw[if_neg hg'] at ih;simp only[↓reduceIte,Q1,Q0,if_pos hup];rw[if_neg hg'] at ih;exact ih
include hP in
theorem d4k(g:Int)(x:Pr)(hx:l[2]?=some x)(hr:x.rng):∀(m k:Nat),(k:Int)+m=w.c->k+m<=1000->∀fuel (p1 p2 p3:Int),0<=p1->p1+1000*m<=1000000000000->0<=p2->p2+1000000*m<=1000000000000->0<=p3->p3+m<=1000000000000 ->
  d8G.loop (a0B Tab n) (fuel+m+1) 1 (a4f σ P [g,p1,p2,p3,2,(k:Int)] w)=d8G.loop (a0B Tab n) fuel 0 (a4f σ P [g,p1+m*x.p,p2+m*x.r,if eqB x.g g=true then p3+m else p3,2+1] w):=by
 obtain⟨p1,p2,p3⟩:=a0D hP;rw[Qj] at p1;have hlt:2<l.length:=(Qz.1 hx).1;have hd:ltB 2 (l.length:Int)=true:=by rw[a0O];omega
 have q2:a1D 2 5 2 P=some (.row x.row 2):=a0J (off:=2) (i:=2) hP (a1r hx);have q3:a1D 2 5 3 P=some (.row x.row 3):=a0J (off:=3) (i:=2) hP (a1r hx);have q4:a1D 2 5 4 P=some (.row x.row 4):=a0J (off:=4) (i:=2) hP (a1r hx);simp only[Pr.rng] at hr;have e5:∀a b:Int,eqB a b=decide (a=b):=fun _ _=>rfl
 intro m
 induction m with
 | zero =>
  intro k hk hk2 fuel s1 s2 s3 _ _ _ _ _ _;have hk:ltB (k:Int) w.c=false:=by rw[a0I];omega
  rw[Sys.loop,show d8G.loops[1]?=some a0L from rfl];simp only[Q0,a4f,a0L,↓reduceIte,a0r,a0m,BE.safe,BE.pe,IE.pe,Q3,Q4,Q7,Q1,Q2,Q0,Q6,Q5,SV.pvs,SV.pv,BE.all,Q8,Q9,e5,Int.reduceEq,decide_true,decide_false,hk,Int.reduceAdd];simp
 | succ m ih =>
  intro k hk hk2 fuel s1 s2 s3 h1 h2 h3 h4 h5 h6;have hk':ltB (k:Int) w.c=true:=by rw[a0O];omega
  have hup:=a1M (show k<=1000000000 by omega);obtain⟨d1,d2,d3,d4⟩:=dr5 (.str x.nm) (.int .i64 x.s) (.int .i64 x.r) (.int .i64 x.p) (.int .i64 x.g);have ih:=ih (k+1) (by omega) (by omega) fuel (s1+x.p) (s2+x.r) (if eqB x.g g=true then s3+1 else s3) (by omega) (by omega) (by omega) (by omega) (by split<;>omega) (by split<;>omega);have m1:s1+x.p+(m:Int)*x.p=s1+((m+1:Nat):Int)*x.p:=by rw[Qw,Qy];simp;omega
  have m2:s2+x.r+(m:Int)*x.r=s2+((m+1:Nat):Int)*x.r:=by rw[Qw,Qy];simp;omega
  rw[m1,m2,a0T] at ih;rw[show fuel+(m+1)+1=(fuel+m+1)+1 from rfl,Sys.loop,show d8G.loops[1]?=some a0L from rfl];simp only[Q0,a4f,a0L,↓reduceIte,a0r,a0h,a0k,a0m,BE.safe,BE.pe,IE.pe,PEnv.at,Q3,Q4,Q7,a0y,a0e,a0z,Qd,Qf,Nat.reduceAdd,Qm,Q1,Qk,Qh,a0w,Q2,Q0,PEnv.push,Q6,Q5,SV.pvs,SV.pv,BE.all,Qa,Q8,Q9,p1,e5,Int.reduceEq,decide_true,decide_false,hk',hd,q2,q3,q4,a2m,d2,d3,d4,Nat.reduceLeDiff,if_pos (a0N (z:=s1+x.p) (by omega)),if_pos (a0N (z:=s2+x.r) (by omega))];cases hg:decide (x.g=g) with
  | true =>
   have hg':eqB x.g g=true:=hg;rw[if_pos hg'] at ih;simp only[↓reduceIte,Q0,if_pos (a0N (z:=s3+1) (by omega)),if_pos hup];rw[show s3+((m+1:Nat):Int)=s3+1+(m:Int) by omega];rw[if_pos hg'] at ih;exact ih
  | false =>
   have hg':¬eqB x.g g=true:=by rw[show eqB x.g g=false from hg];simp
   rw[if_neg hg'] at ih;simp only[↓reduceIte,Q1,Q0,if_pos hup];rw[if_neg hg'] at ih;exact ih
include hP in
theorem d4n(g:Int)(x:Pr)(hx:l[3]?=some x)(hr:x.rng):∀(m k:Nat),(k:Int)+m=w.d->k+m<=1000->∀fuel (p1 p2 p3:Int),0<=p1->p1+1000*m<=1000000000000->0<=p2->p2+1000000*m<=1000000000000->0<=p3->p3+m<=1000000000000 ->
  d8G.loop (a0B Tab n) (fuel+m+1) 1 (a4f σ P [g,p1,p2,p3,3,(k:Int)] w)=d8G.loop (a0B Tab n) fuel 0 (a4f σ P [g,p1+m*x.p,p2+m*x.r,if eqB x.g g=true then p3+m else p3,3+1] w):=by
 obtain⟨p1,p2,p3⟩:=a0D hP;rw[Qj] at p1;have hlt:3<l.length:=(Qz.1 hx).1;have hd:ltB 3 (l.length:Int)=true:=by rw[a0O];omega
 have q2:a1D 3 5 2 P=some (.row x.row 2):=a0J (off:=2) (i:=3) hP (a1r hx);have q3:a1D 3 5 3 P=some (.row x.row 3):=a0J (off:=3) (i:=3) hP (a1r hx);have q4:a1D 3 5 4 P=some (.row x.row 4):=a0J (off:=4) (i:=3) hP (a1r hx);simp only[Pr.rng] at hr;have e5:∀a b:Int,eqB a b=decide (a=b):=fun _ _=>rfl
 intro m
 induction m with
 | zero =>
  intro k hk hk2 fuel s1 s2 s3 _ _ _ _ _ _;have hk:ltB (k:Int) w.d=false:=by rw[a0I];omega
  rw[Sys.loop,show d8G.loops[1]?=some a0L from rfl];simp only[Q0,a4f,a0L,↓reduceIte,a0r,a0m,BE.safe,BE.pe,IE.pe,Q3,Q4,Q7,Q1,Q2,Q0,Q6,Q5,SV.pvs,SV.pv,BE.all,Q8,Q9,e5,Int.reduceEq,decide_true,decide_false,hk,Int.reduceAdd];simp
 | succ m ih =>
  intro k hk hk2 fuel s1 s2 s3 h1 h2 h3 h4 h5 h6;have hk':ltB (k:Int) w.d=true:=by rw[a0O];omega
  have hup:=a1M (show k<=1000000000 by omega);obtain⟨d1,d2,d3,d4⟩:=dr5 (.str x.nm) (.int .i64 x.s) (.int .i64 x.r) (.int .i64 x.p) (.int .i64 x.g);have ih:=ih (k+1) (by omega) (by omega) fuel (s1+x.p) (s2+x.r) (if eqB x.g g=true then s3+1 else s3) (by omega) (by omega) (by omega) (by omega) (by split<;>omega) (by split<;>omega);have m1:s1+x.p+(m:Int)*x.p=s1+((m+1:Nat):Int)*x.p:=by rw[Qw,Qy];simp;omega
  have m2:s2+x.r+(m:Int)*x.r=s2+((m+1:Nat):Int)*x.r:=by rw[Qw,Qy];simp;omega
  rw[m1,m2,a0T] at ih;rw[show fuel+(m+1)+1=(fuel+m+1)+1 from rfl,Sys.loop,show d8G.loops[1]?=some a0L from rfl];simp only[Q0,a4f,a0L,↓reduceIte,a0r,a0h,a0k,a0m,BE.safe,BE.pe,IE.pe,PEnv.at,Q3,Q4,Q7,a0y,a0e,a0z,Qd,Qf,Nat.reduceAdd,Qm,Q1,Qk,Qh,a0w,Q2,Q0,PEnv.push,Q6,Q5,SV.pvs,SV.pv,BE.all,Qa,Q8,Q9,p1,e5,Int.reduceEq,decide_true,decide_false,hk',hd,q2,q3,q4,a2m,d2,d3,d4,Nat.reduceLeDiff,if_pos (a0N (z:=s1+x.p) (by omega)),if_pos (a0N (z:=s2+x.r) (by omega))];cases hg:decide (x.g=g) with
  | true =>
   have hg':eqB x.g g=true:=hg;rw[if_pos hg'] at ih;simp only[↓reduceIte,Q0,if_pos (a0N (z:=s3+1) (by omega)),if_pos hup];rw[show s3+((m+1:Nat):Int)=s3+1+(m:Int) by omega];rw[if_pos hg'] at ih;exact ih
  | false =>
   have hg':¬eqB x.g g=true:=by rw[show eqB x.g g=false from hg];simp
   rw[if_neg hg'] at ih;simp only[↓reduceIte,Q1,Q0,if_pos hup];rw[if_neg hg'] at ih;exact ih
include hP in
theorem d4I(g:Int)(x:Pr)(hx:l[4]?=some x)(hr:x.rng):∀(m k:Nat),(k:Int)+m=w.e->k+m<=1000->∀fuel (p1 p2 p3:Int),0<=p1->p1+1000*m<=1000000000000->0<=p2->p2+1000000*m<=1000000000000->0<=p3->p3+m<=1000000000000 ->
  d8G.loop (a0B Tab n) (fuel+m+1) 1 (a4f σ P [g,p1,p2,p3,4,(k:Int)] w)=d8G.loop (a0B Tab n) fuel 0 (a4f σ P [g,p1+m*x.p,p2+m*x.r,if eqB x.g g=true then p3+m else p3,4+1] w):=by
 obtain⟨p1,p2,p3⟩:=a0D hP;rw[Qj] at p1;have hlt:4<l.length:=(Qz.1 hx).1;have hd:ltB 4 (l.length:Int)=true:=by rw[a0O];omega
 have q2:a1D 4 5 2 P=some (.row x.row 2):=a0J (off:=2) (i:=4) hP (a1r hx);have q3:a1D 4 5 3 P=some (.row x.row 3):=a0J (off:=3) (i:=4) hP (a1r hx);have q4:a1D 4 5 4 P=some (.row x.row 4):=a0J (off:=4) (i:=4) hP (a1r hx);simp only[Pr.rng] at hr;have e5:∀a b:Int,eqB a b=decide (a=b):=fun _ _=>rfl
 intro m
 induction m with
 | zero =>
  intro k hk hk2 fuel s1 s2 s3 _ _ _ _ _ _;have hk:ltB (k:Int) w.e=false:=by rw[a0I];omega
  rw[Sys.loop,show d8G.loops[1]?=some a0L from rfl];simp only[Q0,a4f,a0L,↓reduceIte,a0r,a0m,BE.safe,BE.pe,IE.pe,Q3,Q4,Q7,Q1,Q2,Q0,Q6,Q5,SV.pvs,SV.pv,BE.all,Q8,Q9,e5,Int.reduceEq,decide_true,decide_false,hk,Int.reduceAdd];simp
 | succ m ih =>
  intro k hk hk2 fuel s1 s2 s3 h1 h2 h3 h4 h5 h6;have hk':ltB (k:Int) w.e=true:=by rw[a0O];omega
  have hup:=a1M (show k<=1000000000 by omega);obtain⟨d1,d2,d3,d4⟩:=dr5 (.str x.nm) (.int .i64 x.s) (.int .i64 x.r) (.int .i64 x.p) (.int .i64 x.g);have ih:=ih (k+1) (by omega) (by omega) fuel (s1+x.p) (s2+x.r) (if eqB x.g g=true then s3+1 else s3) (by omega) (by omega) (by omega) (by omega) (by split<;>omega) (by split<;>omega);have m1:s1+x.p+(m:Int)*x.p=s1+((m+1:Nat):Int)*x.p:=by rw[Qw,Qy];simp;omega
  have m2:s2+x.r+(m:Int)*x.r=s2+((m+1:Nat):Int)*x.r:=by rw[Qw,Qy];simp;omega
  rw[m1,m2,a0T] at ih;rw[show fuel+(m+1)+1=(fuel+m+1)+1 from rfl,Sys.loop,show d8G.loops[1]?=some a0L from rfl];simp only[Q0,a4f,a0L,↓reduceIte,a0r,a0h,a0k,a0m,BE.safe,BE.pe,IE.pe,PEnv.at,Q3,Q4,Q7,a0y,a0e,a0z,Qd,Qf,Nat.reduceAdd,Qm,Q1,Qk,Qh,a0w,Q2,Q0,PEnv.push,Q6,Q5,SV.pvs,SV.pv,BE.all,Qa,Q8,Q9,p1,e5,Int.reduceEq,decide_true,decide_false,hk',hd,q2,q3,q4,a2m,d2,d3,d4,Nat.reduceLeDiff,if_pos (a0N (z:=s1+x.p) (by omega)),if_pos (a0N (z:=s2+x.r) (by omega))];cases hg:decide (x.g=g) with
  | true =>
   have hg':eqB x.g g=true:=hg;rw[if_pos hg'] at ih;simp only[↓reduceIte,Q0,if_pos (a0N (z:=s3+1) (by omega)),if_pos hup];rw[show s3+((m+1:Nat):Int)=s3+1+(m:Int) by omega];rw[if_pos hg'] at ih;exact ih
  | false =>
   have hg':¬eqB x.g g=true:=by rw[show eqB x.g g=false from hg];simp
   rw[if_neg hg'] at ih;simp only[↓reduceIte,Q1,Q0,if_pos hup];rw[if_neg hg'] at ih;exact ih
include hP in
theorem d4y(g:Int)(x:Pr)(hx:l[5]?=some x)(hr:x.rng):∀(m k:Nat),(k:Int)+m=w.f->k+m<=1000->∀fuel (p1 p2 p3:Int),0<=p1->p1+1000*m<=1000000000000->0<=p2->p2+1000000*m<=1000000000000->0<=p3->p3+m<=1000000000000 ->
  d8G.loop (a0B Tab n) (fuel+m+1) 1 (a4f σ P [g,p1,p2,p3,5,(k:Int)] w)=d8G.loop (a0B Tab n) fuel 0 (a4f σ P [g,p1+m*x.p,p2+m*x.r,if eqB x.g g=true then p3+m else p3,5+1] w):=by
 obtain⟨p1,p2,p3⟩:=a0D hP;rw[Qj] at p1;have hlt:5<l.length:=(Qz.1 hx).1;have hd:ltB 5 (l.length:Int)=true:=by rw[a0O];omega
 have q2:a1D 5 5 2 P=some (.row x.row 2):=a0J (off:=2) (i:=5) hP (a1r hx);have q3:a1D 5 5 3 P=some (.row x.row 3):=a0J (off:=3) (i:=5) hP (a1r hx);have q4:a1D 5 5 4 P=some (.row x.row 4):=a0J (off:=4) (i:=5) hP (a1r hx);simp only[Pr.rng] at hr;have e5:∀a b:Int,eqB a b=decide (a=b):=fun _ _=>rfl
 intro m
 induction m with
 | zero =>
  intro k hk hk2 fuel s1 s2 s3 _ _ _ _ _ _;have hk:ltB (k:Int) w.f=false:=by rw[a0I];omega
  rw[Sys.loop,show d8G.loops[1]?=some a0L from rfl];simp only[Q0,a4f,a0L,↓reduceIte,a0r,a0m,BE.safe,BE.pe,IE.pe,Q3,Q4,Q7,Q1,Q2,Q0,Q6,Q5,SV.pvs,SV.pv,BE.all,Q8,Q9,e5,decide_true,hk,Int.reduceAdd];simp
 | succ m ih =>
  intro k hk hk2 fuel s1 s2 s3 h1 h2 h3 h4 h5 h6;have hk':ltB (k:Int) w.f=true:=by rw[a0O];omega
  have hup:=a1M (show k<=1000000000 by omega);obtain⟨d1,d2,d3,d4⟩:=dr5 (.str x.nm) (.int .i64 x.s) (.int .i64 x.r) (.int .i64 x.p) (.int .i64 x.g);have ih:=ih (k+1) (by omega) (by omega) fuel (s1+x.p) (s2+x.r) (if eqB x.g g=true then s3+1 else s3) (by omega) (by omega) (by omega) (by omega) (by split<;>omega) (by split<;>omega);have m1:s1+x.p+(m:Int)*x.p=s1+((m+1:Nat):Int)*x.p:=by rw[Qw,Qy];simp;omega
  have m2:s2+x.r+(m:Int)*x.r=s2+((m+1:Nat):Int)*x.r:=by rw[Qw,Qy];simp;omega
  rw[m1,m2,a0T] at ih;rw[show fuel+(m+1)+1=(fuel+m+1)+1 from rfl,Sys.loop,show d8G.loops[1]?=some a0L from rfl];simp only[Q0,a4f,a0L,↓reduceIte,a0r,a0h,a0k,a0m,BE.safe,BE.pe,IE.pe,PEnv.at,Q3,Q4,Q7,a0y,a0e,a0z,Qd,Qf,Nat.reduceAdd,Qm,Q1,Qk,Qh,a0w,Q2,Q0,PEnv.push,Q6,Q5,SV.pvs,SV.pv,BE.all,Qa,Q8,Q9,p1,e5,decide_true,hk',hd,q2,q3,q4,a2m,d2,d3,d4,Nat.reduceLeDiff,if_pos (a0N (z:=s1+x.p) (by omega)),if_pos (a0N (z:=s2+x.r) (by omega))];cases hg:decide (x.g=g) with
  | true =>
   have hg':eqB x.g g=true:=hg;rw[if_pos hg'] at ih;simp only[↓reduceIte,Q0,if_pos (a0N (z:=s3+1) (by omega)),if_pos hup];rw[show s3+((m+1:Nat):Int)=s3+1+(m:Int) by omega];rw[if_pos hg'] at ih;exact ih
  | false =>
   have hg':¬eqB x.g g=true:=by rw[show eqB x.g g=false from hg];simp
   rw[if_neg hg'] at ih;simp only[↓reduceIte,Q1,Q0,if_pos hup];rw[if_neg hg'] at ih;exact ih
end
theorem d3Q(σ:List MO)(x:Pr)(n:Nat)(hn:1<=n):a0B Tab n a3l [.agg x.row] σ=some (.int .i64 x.p,σ):=by
 obtain⟨n,rfl⟩:∃k,n=k+1:=⟨n-1,by omega⟩;simp only[a0B,b6V,Q0,Sys.run,a2m];show ((a0E [.sh (.agg [_,_,_,_,_])] _).bind _)=_;simp only[a0E,a0x,a0w,Q2,Q0,Qb,if_true,a1H];show (PT.ev _ a7Y _).bind _=_;simp only[a7Y,↓reduceIte,a0t,IE.pe,Q3,Q4,Q1,Q2,Q0,SV.pv,a0C,or_true]
def d1H(σ:List MO)(P F:PV)(is:List Int)(w:W6):PEnv:={i:=is++[w.a,w.b,w.c,w.d,w.e,w.f],b:=[],v:=[F,P],m:=σ,k:=σ.length}
theorem d0y(σ:List MO)(l:List Pr)(P:PV)(hP:P.rowsOf 5=some (l.map Pr.row))(w:W6)(hw:w.ok)(hl:l.length<=6)(hr:∀x∈l,x.rng)(n:Nat)(hn:1<=n):∀d i,i+d=l.length->∀fuel,
  d8Y.loop (a0B Tab n) (fuel+d+1) 0 (d1H σ P (.fn a3l []) [ptS Pr.p l w i,(l.length:Int),(i:Int)] w)=some (.int .i64 (ptS Pr.p l w l.length),σ):=by
 obtain⟨p1,p2,p3⟩:=a0D hP;rw[Qj] at p1;intro d
 induction d with
 | zero =>
  intro i hi fuel;rw[Qq] at hi;subst hi;have hd:decide (l.length<l.length)=false:=by simp
  rw[Sys.loop,show d8Y.loops[0]?=some a1J from rfl];simp only[Q0,d1H,a1J,↓reduceIte,a0t,a0r,BE.safe,BE.pe,IE.pe,Q3,Q4,Q1,Q2,Q0,Q6,Q5,SV.pv,a0G,hd,a0C,or_true]
 | succ d ih =>
  intro i hi fuel;have hlt:i<l.length:=by omega
  obtain⟨x,hx⟩:=a0P hlt;have hd:decide (i<l.length)=true:=dT0 hlt;have hxr:=hr x (QK hx);simp only[Pr.rng] at hxr;have hq:=a0J (off:=0) hP (a1r hx);have hw1:=c0k hw i;have b1:=b6B (f:=Pr.p) (b:=1000) hw (by omega) (fun y hy=>by have:=hr y hy;simp only[Pr.rng] at this;omega) i;have c1:=d3Q σ x n hn;have ih:=ih (i+1) (by omega) fuel;rw[a0T] at ih;have k1:ptS Pr.p l w (i+1)=ptS Pr.p l w i+a3T w i*x.p:=by simp only[ptS,b2P,hx,Q2,QX]
  have hm:0<=a3T w i*x.p/\a3T w i*x.p<=4*1000:=⟨QU hw1.1 (by omega),QD hw1.2 (by omega) (by omega) (by omega)⟩;rw[k1] at ih;generalize ptS Pr.p l w i=s1 at *
  have q1:=a0N (z:=a3T w i*x.p) (by omega);have q2:=a0N (z:=s1+a3T w i*x.p) (by omega);simp only[a3l,a2m] at c1;rw[<- ih,show fuel+(d+1)+1=(fuel+d+1)+1 from rfl,Sys.loop,show d8Y.loops[0]?=some a1J from rfl];simp only[Q0,d1H,a1J,↓reduceIte,a0r,a0h,a0k,a0g,a0m,BE.safe,BE.pe,IE.pe,PEnv.at,Q3,Q4,Q7,Qe,a0y,a0e,a0z,Qg,Qd,Qf,Nat.reduceAdd,Qm,Q1,Qk,Qh,a0w,a0p,a0x,Q2,Q0,PEnv.push,Q6,Q5,Qb,SV.pvs,SV.pv,BE.all,Qa,Q8,Q9,p1,a0G,hd,le0,hq,a2m,a1H,a3l,c1];obtain rfl|rfl|rfl|rfl|rfl|rfl:i=0\/i=1\/i=2\/i=3\/i=4\/i=5:=by omega
  all_goals
   simp only[a3T,wl,Q7,Qe,QX] at q1 q2 ⊢;have e5:∀a b:Int,eqB a b=decide (a=b):=fun _ _=>rfl
   simp only[↓reduceIte,Q1,Q0,e5,Int.reduceEq,Int.cast_ofNat_Int,decide_true,decide_false,q1,q2,Int.reduceAdd]
def goL{α:Type}(f:List α->α->Int)(l:List α):Nat->Nat->Int
 | 0,_=>0
 | d+1,i=>match l[i]? with
  | some x=>if f (l.take i) x=0 then goL f l d (i+1) else f (l.take i) x
  | none=>0
theorem b0S{α:Type}{f:List α->α->Int}{l:List α}{i:Nat}{x:α}(h:l[i]?=some x)(d:Nat):goL f l (d+1) i=if f (l.take i) x=0 then goL f l d (i+1) else f (l.take i) x:=by rw[goL,h]
theorem b6U{α:Type}{f:List α->α->Int}{l:List α}:∀d i,goL f l d i=0->i+d=l.length->∀k x,i<=k->l[k]?=some x->f (l.take k) x=0
 | 0,i,_,hi,k,x,hk,hx=>by have:=(Qz.1 hx).1;omega
 | d+1,i,h,hi,k,x,hk,hx=>by
  obtain⟨y,hy⟩:=a0P (show i<l.length by omega);rw[b0S hy] at h;split at h
  ·rename_i h0
   by_cases hki:k=i
   ·subst hki;rw[hy] at hx;cases hx;exact h0
   ·exact b6U d (i+1) h (by omega) k x (by omega) hx
  ·rename_i h0;exact absurd h h0
def Bd.rng(x:Bd):Prop:=0<=x.c/\x.c<=4/\0<=x.b/\x.b<=1000000/\0<=x.p/\x.p<=24000
instance (x:Bd):Decidable x.rng:=by unfold Bd.rng;infer_instance
def a6z(before:List Bd)(x:Bd):Int:=if a5Y x.nm=true then(if (before.any fun y=>decide (y.nm=x.nm))=true then 7 else if x.rng then 0 else 4) else 5
def b2J(bs:List Bd):Int:=if eqB (bs.length:Int) 0=true then 1 else if ltB 8 (bs.length:Int)=true then 3 else goL a6z bs bs.length 0
def b0n(i:Nat):Option Nat->PV
 | some k=>.tup [.int .i64 ((i+k:Nat):Int),.bool true]
 | none=>.tup [.int .i64 0,.bool false]
theorem d4R(i:Nat)(o:Option Nat):b0n i (o.map (·+1))=b0n (i+1) o:=by
 cases o with
 | none=>rfl
 | some k=>simp only[Q2,b0n];rw[show i+(k+1)=i+1+k by omega]
theorem c3B{α:Type}(p:α->Bool){l:List α}{i:Nat}{x:α}(h:l[i]?=some x):(l.drop i).findIdx? p=if p x=true then some 0 else((l.drop (i+1)).findIdx? p).map (·+1):=by
 rw[a4v h,QY]
theorem c2M(σ:List MO)(l:List Bd)(P:PV)(hP:P.rowsOf 4=some (l.map Bd.row))(hl:l.length<=1000000)(nm:List UInt8)(n:Nat)(hn:l.length+2<=n) :
  a0B Tab n b8o [P,.str nm] σ=some (b0n 0 (l.findIdx? fun x=>decide (x.nm=nm)),σ):=by
 obtain⟨n,rfl⟩:∃k,n=k+1:=⟨n-1,by omega⟩;obtain⟨p1,p2,p3⟩:=a0D hP;rw[Qj] at p1
 have loop:∀d i,i+d=l.length->∀fuel,d9z.loop (a0B Tab n) (fuel+d+1) 0 {i:=[(l.length:Int),(i:Int)],b:=[],v:=[.str nm,P],m:=σ,k:=σ.length}=some (b0n i ((l.drop i).findIdx? fun x=>decide (x.nm=nm)),σ):=by
  intro d
  induction d with
  | zero =>
   intro i hi fuel;rw[Qq] at hi;subst hi;have hd:decide (l.length<l.length)=false:=by simp
   rw[Sys.loop,show d9z.loops[0]?=some a4i from rfl,QA];simp only[Q0,a4i,↓reduceIte,a0t,a0r,BE.safe,BE.pe,IE.pe,Q3,Q4,Q1,Q2,Q0,SV.pvs,SV.pv,a0G,hd,a0C,or_true,X4,b0n]
  | succ d ih =>
   intro i hi fuel;have hlt:i<l.length:=by omega
   obtain⟨x,hx⟩:=a0P hlt;have hd:decide (i<l.length)=true:=dT0 hlt;have h0:=a0J (off:=0) hP (a1Y hx);have hup:=a1M (show i<=1000000000 by omega);rw[c3B _ hx];by_cases hn:x.nm=nm
   ·rw[dT0 hn,if_pos rfl,Sys.loop,show d9z.loops[0]?=some a4i from rfl]
    simp only[Q0,a4i,↓reduceIte,a0t,a0r,a0h,a0k,a0m,BE.safe,BE.pe,IE.pe,PEnv.at,Q3,Q4,Q7,Qe,a0y,a0e,a0z,Qq,Qg,Qd,Qf,Nat.reduceAdd,Qm,Q1,Qk,Qh,a0w,Q2,Q0,PEnv.push,Q6,Q5,SV.pvs,SV.pv,BE.all,Qa,Q8,Q9,p1,a0G,hd,le0,h0,a1X,a1H,is3,a8T,dT0 hn,a0C,or_true,b0n]
   ·have ih:=ih (i+1) (by omega) fuel
    rw[a0T] at ih;rw[dF0 hn,if_neg (by simp),d4R,Sys.loop,show d9z.loops[0]?=some a4i from rfl];simp only[Q0,a4i,↓reduceIte,a0t,a0r,a0h,a0k,a0m,BE.safe,BE.pe,IE.pe,PEnv.at,Q3,Q4,Q7,Qe,a0y,a0e,a0z,Qg,Qd,Qf,Nat.reduceAdd,Qm,Q1,Qk,Qh,a0w,Q2,Q0,PEnv.push,Q6,Q5,SV.pvs,SV.pv,BE.all,Qa,Q8,Q9,p1,a0G,hd,le0,h0,a1X,a1H,is3,a8T,dF0 hn,if_pos hup];exact ih
 have:=loop l.length 0 (by omega) (n-l.length-1);rw[show n-l.length-1+l.length+1=n by omega,Qg] at this;simp only[a0B,c2R,Q0,Sys.run];show ((a0E [.sh (.one _),.sh (.one _)] _).bind _)=_;simp only[a0E,a0x,a0w,Q2,Q0,Qb,Q5,Q6,if_true,p3,a1H];show (PT.ev _ b1E _).bind _=_;simp only[b1E,↓reduceIte,a0h,a0m,BE.safe,BE.pe,IE.pe,PEnv.at,Q3,Q7,Qe,Q2,Q0,SV.pvs,SV.pv,BE.all,Q8,Q9,p1,p2];exact this
theorem b5n(σ:List MO)(l:List Bd)(P:PV)(hP:P.rowsOf 4=some (l.map Bd.row))(hl:l.length<=1000000)(nm:List UInt8)(n:Nat)(hn:l.length+2<=n) :
  a0B Tab n b0l [P,.str nm] σ=some (b0n 0 (l.findIdx? fun x=>decide (x.nm=nm)),σ):=by
 obtain⟨n,rfl⟩:∃k,n=k+1:=⟨n-1,by omega⟩;obtain⟨p1,p2,p3⟩:=a0D hP;rw[Qj] at p1
 have loop:∀d i,i+d=l.length->∀fuel,d9c.loop (a0B Tab n) (fuel+d+1) 0 {i:=[(i:Int)],b:=[],v:=[P,.str nm],m:=σ,k:=σ.length}=some (b0n i ((l.drop i).findIdx? fun x=>decide (x.nm=nm)),σ):=by
  intro d
  induction d with
  | zero =>
   intro i hi fuel;rw[Qq] at hi;subst hi;have hd:decide (l.length<l.length)=false:=by simp
   rw[Sys.loop,show d9c.loops[0]?=some a2g from rfl,QA];simp only[Q0,a2g,↓reduceIte,a0t,a0r,a0h,BE.safe,BE.pe,IE.pe,PEnv.at,Q3,Q1,Q2,Q0,SV.pvs,SV.pv,p1,p2,a0G,hd,a0C,or_true,X4,b0n]
  | succ d ih =>
   intro i hi fuel;have hlt:i<l.length:=by omega
   obtain⟨x,hx⟩:=a0P hlt;have hd:decide (i<l.length)=true:=dT0 hlt;have h0:=a0J (off:=0) hP (a1Y hx);have hup:=a1M (show i<=1000000000 by omega);rw[c3B _ hx];by_cases hn:x.nm=nm
   ·rw[dT0 hn,if_pos rfl,Sys.loop,show d9c.loops[0]?=some a2g from rfl]
    simp only[Q0,a2g,↓reduceIte,a0t,a0r,a0h,a0k,a0m,BE.safe,BE.pe,IE.pe,PEnv.at,Q3,Q4,Q7,Qe,a0y,a0e,a0z,Qq,Qg,Qd,Qf,Nat.reduceAdd,Q1,Qk,Qh,a0w,Q2,Q0,PEnv.push,Q6,Q5,SV.pvs,SV.pv,BE.all,Qa,Q8,Q9,Nat.reduceLeDiff,p1,p2,a0G,hd,le0,h0,a1X,a1H,is3,a8T,dT0 hn,a0C,or_true,b0n]
   ·have ih:=ih (i+1) (by omega) fuel
    rw[a0T] at ih;rw[dF0 hn,if_neg (by simp),d4R,Sys.loop,show d9c.loops[0]?=some a2g from rfl];simp only[Q0,a2g,↓reduceIte,a0t,a0r,a0h,a0k,a0m,BE.safe,BE.pe,IE.pe,PEnv.at,Q3,Q4,Q7,Qe,a0y,a0e,a0z,Qg,Qd,Qf,Nat.reduceAdd,Q1,Qk,Qh,a0w,Q2,Q0,PEnv.push,Q6,Q5,SV.pvs,SV.pv,BE.all,Qa,Q8,Q9,Nat.reduceLeDiff,p1,p2,a0G,hd,le0,h0,a1X,a1H,is3,a8T,dF0 hn,if_pos hup];exact ih
 have:=loop l.length 0 (by omega) (n-l.length-1);rw[show n-l.length-1+l.length+1=n by omega,Qg] at this;simp only[a0B,b4U,Q0,Sys.run];show ((a0E [.sh (.one _),.sh (.one _)] _).bind _)=_;simp only[a0E,a0x,a0w,Q2,Q0,Qb,Q5,Q6,if_true,p3,a1H];show (PT.ev _ a6x _).bind _=_;simp only[a6x,a0m,IE.pe,Q7,Qe,Q2,Q0,SV.pvs,SV.pv,BE.all,Q8,Q9,];exact this
theorem a5b(σ:List MO)(z:Int)(n:Nat)(hn:1<=n):a0B Tab n a4l [.int .u8 z] σ=some (.bool (a7Z z),σ):=by
 obtain⟨n,rfl⟩:∃k,n=k+1:=⟨n-1,by omega⟩;simp only[a0B,b2F,Q0,Sys.run];show ((a0E [.sh (.one _)] _).bind _)=_;simp only[a0E,a0x,a0w,Q2,Q0,Qb,if_true];show (PT.ev _ a5D _).bind _=_;simp only[a5D,↓reduceIte,a0t,a0r,BE.safe,BE.pe,IE.pe,Q3,Q0,SV.pv,a7Z];cases leB 97 z<;>simp only[↓reduceIte,Q1,Q2,Q0,a0C,or_true,Qr,Qs]
theorem b3Q(σ:List MO)(z:Int)(n:Nat)(hn:1<=n):a0B Tab n a9E [.int .u8 z] σ=some (.bool (b7l z),σ):=by
 obtain⟨n,rfl⟩:∃k,n=k+1:=⟨n-1,by omega⟩;simp only[a0B,b3N,Q0,Sys.run];show ((a0E [.sh (.one _)] _).bind _)=_;simp only[a0E,a0x,a0w,Q2,Q0,Qb,if_true];show (PT.ev _ a6l _).bind _=_;simp only[a6l,↓reduceIte,a0t,a0r,BE.safe,BE.pe,IE.pe,Q3,Q0,SV.pv,b7l];cases leB 48 z<;>simp only[↓reduceIte,Q1,Q2,Q0,a0C,or_true,Qr,Qs]
theorem d2C(σ:List MO)(l:List UInt8)(hl:l.length<=12)(n:Nat)(hn:20<=n):∀d i,i+d=l.length->∀fuel,d9l.loop (a0B Tab n) (fuel+d+1) 0 {i:=[(i:Int)],b:=[],v:=[.str l],m:=σ,k:=σ.length} =
  some (.tup [.agg [.int .i64 1,.str (l.take i++(l.drop i).takeWhile innC),.int .i64 0,.int .i64 0],.int .i64 0],σ):=by
 intro d
 induction d with
 | zero =>
  intro i hi fuel;rw[Qq] at hi;subst hi;have hd:decide (l.length<l.length)=false:=by simp
  have h12:ltB 12 (l.length:Int)=false:=by rw[a0I];omega
  rw[Sys.loop,show d9l.loops[0]?=some a1V from rfl,QA];have hc:(0:Int)<=0/\(0:Int)<=(l.length:Int)/\(l.length:Int)<=(l.length:Int):=by omega
  simp only[Q0,a1V,↓reduceIte,a0t,a0r,a0h,a0i,BE.safe,BE.pe,IE.pe,PEnv.at,Q3,Q7,Qe,Qg,Q1,Q2,Q0,Q6,Q5,Qb,SV.pvs,SV.pv,is3,a1P,a0G,hd,h12,a2H,a2I,if_pos hc,a0C,or_true,QE,b3z,QZ,QM]
 | succ d ih =>
  intro i hi fuel;have hlt:i<l.length:=by omega
  obtain⟨c,hc⟩:=a0P hlt;have hd:decide (i<l.length)=true:=dT0 hlt;have h12:ltB 12 (i:Int)=false:=by rw[a0I];omega
  have hu:=c9q c;have c1:=a5b σ (c.toNat:Int) n (by omega);have c2:=b3Q σ (c.toNat:Int) n (by omega);have hup:=a1M (show i<=1000000000 by omega);simp only[a4l,a9E] at c1 c2;have ih:=ih (i+1) (by omega) fuel;rw[a0T] at ih
  have step:innC c=true->(l.take i++(l.drop i).takeWhile innC)=l.take (i+1)++(l.drop (i+1)).takeWhile innC:=fun hi2=>by
   rw[b4u hc hi2,QN,hc];simp
  have hin:innC c=(a7Z (c.toNat:Int)||(b7l (c.toNat:Int)||eqB (c.toNat:Int) 95)):=rfl;rw[Sys.loop,show d9l.loops[0]?=some a1V from rfl];cases h1:a7Z (c.toNat:Int) with
  | true =>
   rw[h1] at c1;rw[step (by rw[hin,h1];rfl)];simp only[Q0,a1V,↓reduceIte,a0t,a0r,a0h,a0i,a0l,a0m,BE.safe,BE.pe,IE.pe,PEnv.at,Q3,Q7,Qe,a0w,a0p,a0x,Q2,Q0,PEnv.push,Q6,Q5,SV.pvs,SV.pv,BE.all,Qa,Q8,Q9,is3,a1P,a0G,hd,le0,a6i hc,c1,if_pos hup];exact ih
  | false =>
  rw[h1] at c1;cases h2:b7l (c.toNat:Int) with
  | true =>
   rw[h2] at c2;rw[step (by rw[hin,h1,h2];rfl)];simp only[Q0,a1V,↓reduceIte,a0t,a0r,a0h,a0i,a0l,a0m,BE.safe,BE.pe,IE.pe,PEnv.at,Q3,Q4,Q7,Qe,Q1,a0w,a0p,a0x,Q2,Q0,PEnv.push,Q6,Q5,Qb,SV.pvs,SV.pv,BE.all,Qa,Q8,Q9,is3,a1P,a0G,hd,le0,a6i hc,c1,c2,if_pos hup];exact ih
  | false =>
  rw[h2] at c2;cases h3:eqB (c.toNat:Int) 95 with
  | true =>
   rw[step (by rw[hin,h1,h2,h3];rfl)];simp only[Q0,a1V,↓reduceIte,a0r,a0h,a0l,a0m,BE.safe,BE.pe,IE.pe,PEnv.at,Q3,Q4,Q7,Q1,a0w,a0p,a0x,Q2,Q0,PEnv.push,Q6,Q5,SV.pvs,SV.pv,BE.all,Qa,Q8,Q9,is3,a1P,a0G,hd,le0,a6i hc,c1,c2,h3,if_pos hup];exact ih
  | false =>
   have hcc:(0:Int)<=0/\(0:Int)<=(i:Int)/\(i:Int)<=(l.length:Int):=by omega
   have hst:=b5V (p:=innC) hc (by rw[hin,h1,h2,h3];rfl);simp only[Q0,a1V,↓reduceIte,a0t,a0r,a0h,a0i,a0l,a0m,BE.safe,BE.pe,IE.pe,PEnv.at,Q3,Q4,Q7,Qe,Qg,Q1,a0w,a0p,a0x,Q2,Q0,PEnv.push,Q6,Q5,Qb,SV.pvs,SV.pv,BE.all,Qa,Q8,Q9,is3,a1P,a0G,hd,le0,a6i hc,c1,c2,h3,h12,a2H,a2I,if_pos hcc,a0C,or_true,QE,hst,QM,Qg]
theorem d3I(σ:List MO)(c:UInt8)(l:List UInt8)(h12:(c::l).length<=12)(hlow:a7Z (c.toNat:Int)=true)(n:Nat)(hn:40<=n) :
  a0B Tab n b0z [.str (c::l)] σ=some (.tup [.agg [.int .i64 1,.str (c::l.takeWhile innC),.int .i64 0,.int .i64 0],.int .i64 0],σ):=by
 obtain⟨n,rfl⟩:∃k,n=k+1:=⟨n-1,by omega⟩;have c1:=a5b σ (c.toNat:Int) n (by omega);simp only[a4l] at c1;rw[hlow] at c1;have hp:ltB 0 ((l.length+1:Nat):Int)=true:=by rw[a0O];omega
 have sa:PV.sAt (.str (c::l)) 0=(c.toNat:Int):=rfl;have:=d2C σ (c::l) h12 n (by omega) l.length 1 (by simp;omega) (n-l.length-1);rw[show n-l.length-1+l.length+1=n by simp at h12;omega] at this;simp only[Qk,Qh,List.drop_succ_cons,Qg,Q6,Q5] at this;simp only[a0B,b5Y,Q0,Sys.run];show ((a0E [.sh (.one _)] _).bind _)=_;simp only[a0E,a0x,a0w,Q2,Q0,Qb,if_true,a1H];show (PT.ev _ a7q _).bind _=_;simp only[a7q,a0t,a0r,a0h,a0i,a0l,a0m,BE.safe,BE.pe,IE.pe,PEnv.at,Q3,Q7,Qe,Qd,a0w,a0p,a0x,Q2,Q0,PEnv.push,Q6,Q5,SV.pvs,SV.pv,BE.all,Q8,Q9,is3,a1P,hp,sa,c1];exact this
theorem c9k(σ:List MO)(l:List UInt8)(n:Nat)(hn:60<=n):a0B Tab n a9b [.str l] σ=some (.bool (a5Y l),σ):=by
 obtain⟨n,rfl⟩:∃k,n=k+1:=⟨n-1,by omega⟩;simp only[a0B,b2Z,Q0,Sys.run];show ((a0E [.sh (.one _)] _).bind _)=_;simp only[a0E,a0x,a0w,Q2,Q0,Qb,if_true,a1H];show (PT.ev _ a5C _).bind _=_;simp only[a5C,↓reduceIte,a0t,a0r,a0h,a0l,BE.safe,BE.pe,IE.pe,PEnv.at,Q3,Q4,Q7,a0p,a0x,Q2,Q0,PEnv.push,Q6,Q5,SV.pvs,SV.pv,is3,d0e,a1P];cases l with
 | nil=>simp only[↓reduceIte,Qf,Q1,Q2,Q0,decide_true,a0C,or_true,a5Y];rfl
 | cons c l =>
  have h0:decide (c::l=[])=false:=by simp
  have hlen:decide (1<=(c::l).length)=true:=by simp
  have hp:ltB 0 ((l.length+1:Nat):Int)=true:=by rw[a0O];omega
  have sa:PV.sAt (.str (c::l)) 0=(c.toNat:Int):=rfl;rw[h0];unfold a5Y;rw[hlen,Qr,sa];by_cases h12:(c::l).length<=12
  ·have h1:ltB 12 ((l.length+1:Nat):Int)=false:=by rw[a0I];simp at h12;omega
   have c1:=a5b σ (c.toNat:Int) n (by omega);simp only[a4l] at c1;rw[dT0 h12];cases hlo:a7Z (c.toNat:Int) with
   | false =>
    rw[hlo] at c1;simp only[↓reduceIte,Q3,Qd,Q1,a0w,Q2,Q0,Qn,h1,hp,c1,a0C,or_true,Qr,Qs]
   | true =>
    rw[hlo] at c1;have c2:=d3I σ c l h12 hlo n (by omega);simp only[b0z] at c2;have hic:innC c=true:=by unfold innC c1A;rw[hlo];rfl
    simp only[↓reduceIte,Q3,Q4,Qd,Q1,a0w,a0x,Q2,Q0,Q6,Q5,Qb,Qp,is3,h1,hp,c1,c2,a0U,a1H,a8T,c1Z,a0C,or_true,Qr,QV,hic];refine congrArg (fun x=>some (PV.bool x,σ)) ?_;rw[QB,decide_eq_true_iff,List.cons.injEq];exact⟨fun h=>(a9Z _ _).1 h.2,fun h=>⟨rfl,(a9Z _ _).2 h⟩⟩
  ·have h1:ltB 12 ((l.length+1:Nat):Int)=true:=by rw[a0O];simp at h12;omega
   rw[dF0 h12];simp only[↓reduceIte,Qd,Q1,Q2,Q0,h1,a0C,or_true,Qs]
theorem d0f{x:Bd}(h:¬x.rng):ltB x.c 0=true\/ltB 4 x.c=true\/ltB x.b 0=true\/ltB 1000000 x.b=true\/ltB x.p 0=true\/ltB 24000 x.p=true:=by
 simp only[Bd.rng] at h;simp only[a0O];omega
theorem d5H{l:List Bd}{i:Nat}(h:i<=l.length):(0:Int)<=0/\(0:Int)<=(i:Int)/\(i:Int)<=((l.map Bd.row).length:Int):=by rw[Qj];omega
theorem d7D(a b c d:PV):Qt 1 [a,b,c,d]=[b,c,d]/\Qt 2 [a,b,c,d]=[c,d]/\Qt 3 [a,b,c,d]=[d]:=⟨rfl,rfl,rfl⟩
theorem c2j{α:Type}(p:α->Bool)(l:List α):l.any p=(l.findIdx? p).isSome:=by rw[List.findIdx?_isSome]
theorem c7D{α:Type}{p:α->Bool}:∀{l:List α} {i:Nat} {x:α},l[i]?=some x->p x=true->∃k,l.findIdx? p=some k/\(k=i↔(l.take i).any p=false)
 | [],i,x,h,_=>by simp at h
 | y::l,0,x,h,hp=>by
  simp only[Q7,Option.some.injEq] at h;subst h;exact⟨0,by rw[QY,hp];rfl,by simp⟩
 | y::l,i+1,x,h,hp=>by
  obtain⟨k,h1,h2⟩:=c7D (l:=l) (i:=i) (by simpa using h) hp;rw[QY,Qk,QQ];cases hy:p y with
  | true=>exact⟨0,rfl,by simp⟩
  | false =>
   refine⟨k+1,by simp[h1],?_⟩;simp only[Qu,Nat.add_right_cancel_iff];exact h2
theorem c1t(σ:List MO)(l:List Bd)(P:PV)(hP:P.rowsOf 4=some (l.map Bd.row))(n:Nat)(hn:60<=n):a0B Tab n b5N [P] σ=some (.int .i64 (b2J l),σ):=by
 obtain⟨n,rfl⟩:∃k,n=k+1:=⟨n-1,by omega⟩;obtain⟨p1,p2,p3⟩:=a0D hP;rw[Qj] at p1;simp only[a0B,c1u,Q0,Sys.run];show ((a0E [.sh (.one _)] _).bind _)=_;simp only[a0E,a0x,a0w,Q2,Q0,Qb,if_true,p3];show (PT.ev _ b0I _).bind _=_;simp only[b0I,↓reduceIte,a0t,a0r,a0h,a0m,BE.safe,BE.pe,IE.pe,PEnv.at,Q3,Q7,Q2,Q0,SV.pvs,SV.pv,BE.all,Q8,Q9,p1,p2,b2J];cases h0:eqB (l.length:Int) 0 with
 | true=>simp only[↓reduceIte,Q1,Q2,Q0,a0C,or_true]
 | false =>
 cases h8:ltB 8 (l.length:Int) with
 | true=>simp only[↓reduceIte,Q1,Q2,Q0,a0C,or_true]
 | false =>
 have h8':=h8;rw[a0I] at h8
 have loop:∀d i,i+d=l.length->∀fuel,d9D.loop (a0B Tab n) (fuel+d+1) 0 {i:=[(l.length:Int),(i:Int)],b:=[],v:=[P],m:=σ,k:=σ.length}=some (.int .i64 (goL a6z l d i),σ):=by
  intro d
  induction d with
  | zero =>
   intro i hi fuel;rw[Qq] at hi;subst hi;have hd:decide (l.length<l.length)=false:=by simp
   rw[Sys.loop,show d9D.loops[0]?=some a5x from rfl];simp only[Q0,a5x,↓reduceIte,a0t,a0r,BE.safe,BE.pe,IE.pe,Q3,Q4,Q1,Q2,Q0,SV.pv,a0G,hd,goL,a0C,or_true]
  | succ d ih =>
   intro i hi fuel;have hlt:i<l.length:=by omega
   obtain⟨x,hx⟩:=a0P hlt;have hd:decide (i<l.length)=true:=dT0 hlt;have hq:=a0J (off:=0) hP (a1Y hx);have hup:=a1M (show i<=1000000000 by omega);have c1:=c4F σ x.nm n (by omega);have hcut:((((l.map Bd.row).take (i:Int).toNat).drop (0:Int).toNat))=(l.take i).map Bd.row:=by simp[QS]
   have c2:=c2M σ (l.take i) (.sl 4 ((l.take i).map Bd.row)) (a1K _ _) (by simp;omega) x.nm n (by simp;omega);simp only[b0B,b8o] at c1 c2;have hc:=d5H (l:=l) (i:=i) (by omega);rw[b0S hx,Sys.loop,show d9D.loops[0]?=some a5x from rfl];simp only[Q0,a5x,↓reduceIte,a0t,a0r,a0h,a0k,a0v,a0l,a0m,BE.safe,BE.pe,IE.pe,PEnv.at,Q3,Q4,Q7,Qe,a0y,a0e,a0z,Qg,Qd,Qf,Nat.reduceAdd,Qm,Q1,Qk,Qh,a0w,a0p,a0x,Q2,Q0,PEnv.push,Q6,Q5,SV.pvs,SV.pv,BE.all,Qa,Q8,Q9,p1,a0G,hd,le0,hq,a1X,a1H,c1,hP,a2H,a2I,if_pos hc,hcut];have h50:¬((5:Int)=0):=by decide
   have h70:¬((7:Int)=0):=by decide
   have h40:¬((4:Int)=0):=by decide
   cases hnm:a5Y x.nm with
   | false =>
    have hp:a6z (l.take i) x=5:=by unfold a6z;rw[hnm];rfl
    rw[hp,if_neg h50];simp only[↓reduceIte,Q1,Q2,Q0,Qn,a0C,or_true]
   | true =>
    simp only[↓reduceIte,Q1,Q0,Qp,c2];cases hany:((l.take i).findIdx? fun y=>decide (y.nm=x.nm)) with
    | some k =>
     have hp:a6z (l.take i) x=7:=by unfold a6z;rw[hnm,c2j,hany];rfl
     rw[hp,if_neg h70];simp only[↓reduceIte,Q3,Q1,a0w,a0x,Q2,Q0,Q5,Qb,b0n,a0U,a0C,or_true]
    | none =>
     simp only[↓reduceIte,Q3,Q1,a0w,a0x,Q2,Q0,Q5,Qb,b0n,a0U];by_cases hrng:x.rng
     ·have ih:=ih (i+1) (by omega) fuel
      rw[a0T] at ih;have hp:a6z (l.take i) x=0:=by unfold a6z;rw[hnm,c2j,hany,if_pos hrng];rfl
      rw[hp,if_pos rfl];simp only[Bd.rng] at hrng;have e1:ltB x.c 0=false:=by rw[a0I];omega
      have e2:ltB 4 x.c=false:=by rw[a0I];omega
      have e3:ltB x.b 0=false:=by rw[a0I];omega
      have e4:ltB 1000000 x.b=false:=by rw[a0I];omega
      have e5:ltB x.p 0=false:=by rw[a0I];omega
      have e6:ltB 24000 x.p=false:=by rw[a0I];omega
      simp only[↓reduceIte,Q1,Q0,e1,e2,e3,e4,e5,e6,if_pos hup];exact ih
     ·have hp:a6z (l.take i) x=4:=by unfold a6z;rw[hnm,c2j,hany,if_neg hrng];rfl
      rw[hp,if_neg h40];have hno:=d0f hrng;cases e1:ltB x.c 0 with
      | true=>simp only[↓reduceIte,Q1,Q2,Q0,a0C,or_true]
      | false =>
      cases e2:ltB 4 x.c with
      | true=>simp only[↓reduceIte,Q1,Q2,Q0,a0C,or_true]
      | false =>
      cases e3:ltB x.b 0 with
      | true=>simp only[↓reduceIte,Q1,Q2,Q0,a0C,or_true]
      | false =>
      cases e4:ltB 1000000 x.b with
      | true=>simp only[↓reduceIte,Q1,Q2,Q0,a0C,or_true]
      | false =>
      cases e5:ltB x.p 0 with
      | true=>simp only[↓reduceIte,Q1,Q2,Q0,a0C,or_true]
      | false =>
      cases e6:ltB 24000 x.p with
      | true=>simp only[↓reduceIte,Q1,Q2,Q0,a0C,or_true]
      | false=>rw[e1,e2,e3,e4,e5,e6] at hno;simp at hno
 have:=loop l.length 0 (by omega) (n-l.length-1);rw[show n-l.length-1+l.length+1=n by omega] at this;simp only[↓reduceIte,Q1,Q0,];exact this
theorem d2D(σ:List MO)(l:List Bd)(P:PV)(hP:P.rowsOf 4=some (l.map Bd.row))(n:Nat)(hn:80<=n):a0B Tab n a9L [P] σ=some (.int .i64 (b2J l),σ):=by
 obtain⟨n,rfl⟩:∃k,n=k+1:=⟨n-1,by omega⟩;obtain⟨p1,p2,p3⟩:=a0D hP;rw[Qj] at p1;simp only[a0B,b3F,Q0,Sys.run];show ((a0E [.sh (.one _)] _).bind _)=_;simp only[a0E,a0x,a0w,Q2,Q0,Qb,if_true,p3];show (PT.ev _ a6g _).bind _=_;simp only[a6g,↓reduceIte,a0t,a0r,a0h,a0m,BE.safe,BE.pe,IE.pe,PEnv.at,Q3,Q7,Q2,Q0,SV.pvs,SV.pv,BE.all,Q8,Q9,p1,p2,b2J];cases h0:eqB (l.length:Int) 0 with
 | true=>simp only[↓reduceIte,Q1,Q2,Q0,a0C,or_true]
 | false =>
 cases h8:ltB 8 (l.length:Int) with
 | true=>simp only[↓reduceIte,Q1,Q2,Q0,a0C,or_true]
 | false =>
 have h8':=h8;rw[a0I] at h8
 have loop:∀d i,i+d=l.length->∀fuel,d9i.loop (a0B Tab n) (fuel+d+1) 0 {i:=[(i:Int)],b:=[],v:=[P],m:=σ,k:=σ.length}=some (.int .i64 (goL a6z l d i),σ):=by
  intro d
  induction d with
  | zero =>
   intro i hi fuel;rw[Qq] at hi;subst hi;have hd:decide (l.length<l.length)=false:=by simp
   rw[Sys.loop,show d9i.loops[0]?=some a3f from rfl];simp only[Q0,a3f,↓reduceIte,a0t,a0r,a0h,BE.safe,BE.pe,IE.pe,PEnv.at,Q3,Q1,Q2,Q0,SV.pv,p1,p2,a0G,hd,goL,a0C,or_true]
  | succ d ih =>
   intro i hi fuel;have hlt:i<l.length:=by omega
   obtain⟨x,hx⟩:=a0P hlt;have hd:decide (i<l.length)=true:=dT0 hlt;have q0:=a0J (off:=0) hP (a1Y hx);have q1:=a0J (off:=1) hP (a1Y hx);have q2:=a0J (off:=2) hP (a1Y hx);have q3:=a0J (off:=3) hP (a1Y hx);obtain⟨r1,r2,r3⟩:=d7D (.str x.nm) (.int .i64 x.c) (.int .i64 x.b) (.int .i64 x.p);have hup:=a1M (show i<=1000000000 by omega);have c1:=c9k σ x.nm n (by omega);have c2:=b5n σ l P hP (by omega) x.nm n (by omega);obtain⟨k,hk1,hk2⟩:=c7D (p:=fun y:Bd=>decide (y.nm=x.nm)) hx (by simp);rw[hk1] at c2;simp only[a9b,b0l,b0n,Nat.zero_add] at c1 c2;rw[b0S hx,Sys.loop,show d9i.loops[0]?=some a3f from rfl];simp only[Q0,a3f,↓reduceIte,a0t,a0r,a0h,a0k,a0l,a0m,BE.safe,BE.pe,IE.pe,PEnv.at,Q3,Q4,Q7,Qe,a0y,a0e,a0z,Qg,Qd,Qf,Nat.reduceAdd,Q1,Qk,Qh,a0w,a0p,a0x,Q2,Q0,PEnv.push,Q6,Q5,Qb,SV.pvs,SV.pv,BE.all,Qa,Q8,Q9,Nat.reduceLeDiff,p1,p2,a0G,hd,le0,q0,a1X,a1H,c1];have h50:¬((5:Int)=0):=by decide
   have h70:¬((7:Int)=0):=by decide
   have h40:¬((4:Int)=0):=by decide
   cases hnm:a5Y x.nm with
   | false =>
    have hp:a6z (l.take i) x=5:=by unfold a6z;rw[hnm];rfl
    rw[hp,if_neg h50];simp only[↓reduceIte,Q1,Q2,Q0,Qn,a0C,or_true]
   | true =>
    simp only[↓reduceIte,Q3,Q4,Q1,a0w,a0x,Q2,Q0,Q6,Q5,Qb,Qp,c2,a0U];by_cases hki:k=i
    ·have hany:=hk2.1 hki
     subst hki;have hkk:eqB (k:Int) (k:Int)=true:=c1Z _;by_cases hrng:x.rng
     ·have ih:=ih (k+1) (by omega) fuel
      rw[a0T] at ih;have hp:a6z (l.take k) x=0:=by unfold a6z;rw[hnm,hany,if_pos hrng];rfl
      rw[hp,if_pos rfl];simp only[Bd.rng] at hrng;have e1:ltB x.c 0=false:=by rw[a0I];omega
      have e2:ltB 4 x.c=false:=by rw[a0I];omega
      have e3:ltB x.b 0=false:=by rw[a0I];omega
      have e4:ltB 1000000 x.b=false:=by rw[a0I];omega
      have e5:ltB x.p 0=false:=by rw[a0I];omega
      have e6:ltB 24000 x.p=false:=by rw[a0I];omega
      simp only[↓reduceIte,Q3,Q4,Qd,Qf,Nat.reduceAdd,Qm,Q1,Qk,Qh,a0w,Q2,Q0,Q6,Q5,Qb,Qp,Nat.reduceLeDiff,hkk,q1,q2,q3,a1X,r1,r2,r3,e1,e2,e3,e4,e5,e6,if_pos hup];exact ih
     ·have hp:a6z (l.take k) x=4:=by unfold a6z;rw[hnm,hany,if_neg hrng];rfl
      rw[hp,if_neg h40];have hno:=d0f hrng;simp only[↓reduceIte,Q3,Q4,Qd,Qf,Nat.reduceAdd,Qm,Q1,Qk,Qh,a0w,Q2,Q0,Q6,Q5,Qb,Qp,Nat.reduceLeDiff,hkk,q1,q2,q3,a1X,r1,r2,r3];cases e1:ltB x.c 0 with
      | true=>simp only[↓reduceIte,Q1,Q2,Q0,a0C,or_true]
      | false =>
      simp only[↓reduceIte,Q1,];cases e2:ltB 4 x.c with
      | true=>simp only[↓reduceIte,Q1,Q2,Q0,a0C,or_true]
      | false =>
      simp only[↓reduceIte,Q1,];cases e3:ltB x.b 0 with
      | true=>simp only[↓reduceIte,Q1,Q2,Q0,a0C,or_true]
      | false =>
      simp only[↓reduceIte,Q1,];cases e4:ltB 1000000 x.b with
      | true=>simp only[↓reduceIte,Q1,Q2,Q0,a0C,or_true]
      | false =>
      simp only[↓reduceIte,Q1,];cases e5:ltB x.p 0 with
      | true=>simp only[↓reduceIte,Q1,Q2,Q0,a0C,or_true]
      | false =>
      simp only[↓reduceIte,Q1,];cases e6:ltB 24000 x.p with
      | true=>simp only[↓reduceIte,Q1,Q2,Q0,a0C,or_true]
      | false=>rw[e1,e2,e3,e4,e5,e6] at hno;simp at hno
    ·have hany:((l.take i).any fun y=>decide (y.nm=x.nm))=true:=by
      cases h:(l.take i).any fun y=>decide (y.nm=x.nm) with
      | true=>rfl
      | false=>exact absurd (hk2.2 h) hki
     have hp:a6z (l.take i) x=7:=by unfold a6z;rw[hnm,hany];rfl
     rw[hp,if_neg h70];have hkk:eqB (k:Int) (i:Int)=false:=by rw[b8U];omega
     simp only[↓reduceIte,Q1,Q2,Q0,Qn,hkk,a0C,or_true]
 have:=loop l.length 0 (by omega) (n-l.length-1);rw[show n-l.length-1+l.length+1=n by omega] at this;simp only[↓reduceIte,Q1,Q0,];exact this
structure Tri where
 (x y z:Int)
def Tri.row(t:Tri):List PV:=[.int .i64 t.x,.int .i64 t.y,.int .i64 t.z]
theorem a4X(t:Tri):t.row=[.int .i64 t.x,.int .i64 t.y,.int .i64 t.z]:=rfl
theorem a3z{l:List Tri}{i:Nat}{t:Tri}(h:l[i]?=some t):(l.map Tri.row)[i]?=some t.row:=by simp[h]
theorem tdr(a b c:PV):Qt 1 [a,b,c]=[b,c]/\Qt 2 [a,b,c]=[c]:=⟨rfl,rfl⟩
def a1z(nb:Int)(before:List Tri)(c:Tri):Int :=
 if ltB c.x (-1)=true then 6 else if leB nb c.x=true then 6 else if ltB c.y 0=true then 4 else if ltB 4 c.y=true then 4 else if ltB c.z 0=true then 4 else if ltB 24 c.z=true then 4
 else if (before.any fun d=>eqB d.x c.x&&eqB d.y c.y)=true then 7 else 0
def a1N(ps:List Pr)(before:List Tri)(a:Tri):Int :=
 if ltB a.x 0=true then 6 else if leB (ps.length:Int) a.x=true then 6 else if ltB a.y 1=true then 4 else if ltB 4 a.y=true then 4 else if ltB a.z 1=true then 4
 else if ltB (((ps[a.x.toNat]?).map Pr.s).getD 0) a.z=true then 4 else if (before.any fun d=>eqB d.x a.x)=true then 7 else 0
def b1f(nb:Int)(cs:List Tri):Int:=if ltB 16 (cs.length:Int)=true then 3 else goL (a1z nb) cs cs.length 0
def asV(ps:List Pr)(cs:List Tri):Int:=if ltB 6 (cs.length:Int)=true then 3 else goL (a1N ps) cs cs.length 0
theorem d2I{l:List Tri}{i:Nat}(h:i<=l.length):(0:Int)<=0/\(0:Int)<=(i:Int)/\(i:Int)<=((l.map Tri.row).length:Int):=by rw[Qj];omega
theorem b7s{α:Type}(p:α->Bool){l:List α}{i:Nat}{x:α}(h:l[i]?=some x):(l.drop i).any p=(p x||(l.drop (i+1)).any p):=by rw[a4v h,QQ]
theorem a9m{α:Type}{l:List α}{i k:Nat}(h:k<i):(l.take i)[k]?=l[k]?:=by rw[List.getElem?_take,if_pos h]
section
variable (σ:List MO)(cs:List Tri)(C:PV)(hC:C.rowsOf 3=some (cs.map Tri.row))(P B A:PV)(nb:Int)(hB:B.len=nb)(hBk:B.isKind 0=true)(n:Nat)
theorem d3b(i:Nat)(c:Tri)(hi:i<=1000)(hil:i<=cs.length)(b0 b1 b2 b3:Bool):∀d k,k+d=i->∀fuel,
  d8Z.loop (a0B Tab n) (fuel+d+1) 1 {i:=[(cs.length:Int),(i:Int),c.x,nb,c.y,c.z,(i:Int),(k:Int)],b:=[b0,b1,b2,b3],v:=[C,B,.sl 3 ((cs.take i).map Tri.row),P,A],m:=σ,k:=σ.length} =
   if (((cs.take i).drop k).any fun d=>eqB d.x c.x&&eqB d.y c.y)=true then some (.int .i64 7,σ) else d8Z.loop (a0B Tab n) fuel 0 {i:=[(cs.length:Int),(i:Int)+1],b:=[],v:=[C,P,B,A],m:=σ,k:=σ.length}:=by
 have hK:(PV.sl 3 ((cs.take i).map Tri.row)).rowsOf 3=some ((cs.take i).map Tri.row):=a1K _ _;obtain⟨p1,p2,p3⟩:=a0D hK;have htl:(cs.take i).length=i:=by rw[QJ];omega
 rw[Qj,htl] at p1;generalize hKK:PV.sl 3 ((cs.take i).map Tri.row)=K at *
 intro d
 induction d with
 | zero =>
  intro k hk fuel;rw[Qq] at hk;subst hk;have hd:decide (k<k)=false:=by simp
  have hup:=a1M (show k<=1000000000 by omega);rw[QL (by omega),QH,if_neg (by simp),Sys.loop,show d8Z.loops[1]?=some a4q from rfl];simp only[Q0,a4q,↓reduceIte,a0r,a0h,a0m,BE.safe,BE.pe,IE.pe,Q3,Q4,Q7,Qe,Q1,Q2,Q0,SV.pvs,SV.pv,BE.all,Qa,Q8,Q9,a0G,hd,if_pos hup]
 | succ d ih =>
  intro k hk fuel;have hlt:k<(cs.take i).length:=by omega
  obtain⟨x,hx⟩:=a0P hlt;have hd:decide (k<i)=true:=dT0 (by omega);have hq:=a0J (off:=0) hK (a3z hx);have hup:=a1M (show k<=1000000000 by omega);have ih:=ih (k+1) (by omega) fuel;rw[a0T] at ih;rw[b7s _ hx,Sys.loop,show d8Z.loops[1]?=some a4q from rfl];simp only[Q0,a4q,↓reduceIte,a0t,a0r,a0h,a0k,a0m,BE.safe,BE.pe,IE.pe,PEnv.at,Q3,Q4,Q7,Qe,a0y,a0e,a0z,Qg,Qd,Qf,Nat.reduceAdd,Qm,Q1,Qk,Qh,a0w,Q2,Q0,PEnv.push,Q6,Q5,SV.pvs,SV.pv,BE.all,Qa,Q8,Q9,p1,a0G,hd,le0,hq,a4X];cases h1:eqB x.x c.x with
  | false =>
   simp only[↓reduceIte,Q1,Q0,if_pos hup,Qs,Qu];exact ih
  | true =>
  cases h2:eqB x.y c.y with
  | false =>
   simp only[↓reduceIte,Q1,Q0,if_pos hup,QP,Qu];exact ih
  | true=>simp only[↓reduceIte,Q1,Q2,Q0,Qa,Qa,Qv,a0C,or_true]
include hC hB hBk in
theorem d2m(hl:cs.length<=16):∀d i,i+d=cs.length->∀fuel,d*20+1<=fuel ->
  d8Z.loop (a0B Tab n) fuel 0 {i:=[(cs.length:Int),(i:Int)],b:=[],v:=[C,P,B,A],m:=σ,k:=σ.length}=some (.int .i64 (goL (a1z nb) cs d i),σ):=by
 obtain⟨p1,p2,p3⟩:=a0D hC;rw[Qj] at p1;intro d
 induction d with
 | zero =>
  intro i hi fuel hf;obtain⟨fuel,rfl⟩:∃f,fuel=f+1:=⟨fuel-1,by omega⟩;rw[Qq] at hi;subst hi;have hd:decide (cs.length<cs.length)=false:=by simp
  rw[Sys.loop,show d8Z.loops[0]?=some a4o from rfl];simp only[Q0,a4o,↓reduceIte,a0t,a0r,BE.safe,BE.pe,IE.pe,Q3,Q4,Q1,Q2,Q0,SV.pv,a0G,hd,goL,a0C,or_true]
 | succ d ih =>
  intro i hi fuel hf;obtain⟨fuel,rfl⟩:∃f,fuel=f+i+1+1:=⟨fuel-i-2,by omega⟩;have hlt:i<cs.length:=by omega
  obtain⟨x,hx⟩:=a0P hlt;have hd:decide (i<cs.length)=true:=dT0 hlt;have hq:=a0J (off:=0) hC (a3z hx);have ih:=ih (i+1) (by omega) fuel (by omega);rw[a0T] at ih;have hcut:((((cs.map Tri.row).take (i:Int).toNat).drop (0:Int).toNat))=(cs.take i).map Tri.row:=by simp[QS]
  have hK:(PV.sl 3 ((cs.take i).map Tri.row)).rowsOf 3=some ((cs.take i).map Tri.row):=a1K _ _;obtain⟨k1,k2,k3⟩:=a0D hK;rw[Qj,QJ,X5 (by omega)] at k1;have hc:=d2I (l:=cs) (i:=i) (by omega);have hin:=fun b0 b1 b2 b3=>d3b σ cs C P B A nb n i x (by omega) (by omega) b0 b1 b2 b3 i 0 (by omega) fuel
  rw[b0S hx,Sys.loop,show d8Z.loops[0]?=some a4o from rfl];simp only[Q0,a4o,↓reduceIte,a0t,a0r,a0h,a0k,a0v,a0m,BE.safe,BE.pe,IE.pe,PEnv.at,Q3,Q4,Q7,Qe,a0y,a0e,a0z,Qg,Qd,Qf,Nat.reduceAdd,Qm,Q1,Qk,Qh,a0w,Q2,Q0,PEnv.push,Q6,Q5,SV.pvs,SV.pv,BE.all,Qa,Q8,Q9,p1,a0G,hd,le0,hq,a4X,hB,hBk];have h60:¬((6:Int)=0):=by decide
  have h40:¬((4:Int)=0):=by decide
  have h70:¬((7:Int)=0):=by decide
  cases e1:ltB x.x (-1) with
  | true =>
   have hp:a1z nb (cs.take i) x=6:=by simp only[a1z,e1,if_true,]
   rw[hp,if_neg h60];simp only[↓reduceIte,Q1,Q2,Q0,a0C,or_true]
  | false =>
  cases e2:leB nb x.x with
  | true =>
   have hp:a1z nb (cs.take i) x=6:=by simp only[a1z,e1,e2,if_true,Q1,if_false]
   rw[hp,if_neg h60];simp only[↓reduceIte,Q1,Q2,Q0,a0C,or_true]
  | false =>
  cases e3:ltB x.y 0 with
  | true =>
   have hp:a1z nb (cs.take i) x=4:=by simp only[a1z,e1,e2,e3,if_true,Q1,if_false]
   rw[hp,if_neg h40];simp only[↓reduceIte,Q1,Q2,Q0,a0C,or_true]
  | false =>
  cases e4:ltB 4 x.y with
  | true =>
   have hp:a1z nb (cs.take i) x=4:=by simp only[a1z,e1,e2,e3,e4,if_true,Q1,if_false]
   rw[hp,if_neg h40];simp only[↓reduceIte,Q1,Q2,Q0,a0C,or_true]
  | false =>
  cases e5:ltB x.z 0 with
  | true =>
   have hp:a1z nb (cs.take i) x=4:=by simp only[a1z,e1,e2,e3,e4,e5,if_true,Q1,if_false]
   rw[hp,if_neg h40];simp only[↓reduceIte,Q1,Q2,Q0,a0C,or_true]
  | false =>
  cases e6:ltB 24 x.z with
  | true =>
   have hp:a1z nb (cs.take i) x=4:=by simp only[a1z,e1,e2,e3,e4,e5,e6,if_true,Q1,if_false]
   rw[hp,if_neg h40];simp only[↓reduceIte,Q1,Q2,Q0,a0C,or_true]
  | false =>
   simp only[↓reduceIte,IE.pe,Q3,Q4,Q1,Q0,hC,a2H,a2I,if_pos hc,hcut,k1,k2];rw[Qg] at hin;cases hany:((cs.take i).any fun d=>eqB d.x x.x&&eqB d.y x.y) with
   | true =>
    have hp:a1z nb (cs.take i) x=7:=by simp only[a1z,e1,e2,e3,e4,e5,e6,hany,if_true,Q1,if_false]
    rw[hp,if_neg h70];refine(hin _ _ _ _).trans ?_;rw[if_pos hany]
   | false =>
    have hp:a1z nb (cs.take i) x=0:=by simp only[a1z,e1,e2,e3,e4,e5,e6,hany,Q1,if_false]
    rw[hp,if_pos rfl];refine(hin _ _ _ _).trans ?_;rw[if_neg (by rw[hany];simp)];exact ih
include hC hB hBk in
theorem d0R(hn:1000<=n)(hP1:P.one=true)(hA1:A.one=true)(hB1:B.one=true):a0B Tab (n+1) b1W [.agg [P,B,C,A]] σ=some (.int .i64 (b1f nb cs),σ):=by
 obtain⟨p1,p2,p3⟩:=a0D hC;rw[Qj] at p1;simp only[a0B,b8z,Q0,Sys.run];show ((a0E [.sh (.agg [_,_,_,_])] _).bind _)=_;simp only[a0E,a0x,a0w,Q2,Q0,Qb,if_true,p3,hP1,hA1,hB1];show (PT.ev _ a8P _).bind _=_;simp only[a8P,↓reduceIte,a0t,a0r,a0h,a0m,BE.safe,BE.pe,IE.pe,PEnv.at,Q3,Q4,Q7,Qe,Q2,Q0,SV.pvs,SV.pv,BE.all,Q8,Q9,p1,p2,b1f];cases h16:ltB 16 (cs.length:Int) with
 | true=>simp only[↓reduceIte,Q1,Q2,Q0,a0C,or_true]
 | false =>
  have h:=h16;rw[a0I] at h;simp only[↓reduceIte,Q1,Q0,];exact d2m σ cs C hC P B A nb hB hBk n (by omega) cs.length 0 (by omega) n (by omega)
end
section
variable (σ:List MO)(ps:List Pr)(cs:List Tri)(C:PV)(hC:C.rowsOf 3=some (cs.map Tri.row))(P B A:PV)(hP:P.rowsOf 5=some (ps.map Pr.row))(n:Nat)
theorem d6y(i:Nat)(c:Tri)(hi:i<=1000)(hil:i<=cs.length)(b0 b1 b2 b3:Bool)(np sup:Int):∀d k,k+d=i->∀fuel,
  d8V.loop (a0B Tab n) (fuel+d+1) 1 {i:=[(cs.length:Int),(i:Int),c.x,np,c.y,c.z,sup,(i:Int),(k:Int)],b:=[b0,b1,b2,b3],v:=[C,P,.sl 3 ((cs.take i).map Tri.row),B,A],m:=σ,k:=σ.length} =
   if (((cs.take i).drop k).any fun d=>eqB d.x c.x)=true then some (.int .i64 7,σ) else d8V.loop (a0B Tab n) fuel 0 {i:=[(cs.length:Int),(i:Int)+1],b:=[],v:=[C,P,B,A],m:=σ,k:=σ.length}:=by
 have hK:(PV.sl 3 ((cs.take i).map Tri.row)).rowsOf 3=some ((cs.take i).map Tri.row):=a1K _ _;obtain⟨p1,p2,p3⟩:=a0D hK;have htl:(cs.take i).length=i:=by rw[QJ];omega
 rw[Qj,htl] at p1;generalize hKK:PV.sl 3 ((cs.take i).map Tri.row)=K at *
 intro d
 induction d with
 | zero =>
  intro k hk fuel;rw[Qq] at hk;subst hk;have hd:decide (k<k)=false:=by simp
  have hup:=a1M (show k<=1000000000 by omega);rw[QL (by omega),QH,if_neg (by simp),Sys.loop,show d8V.loops[1]?=some a3y from rfl];simp only[Q0,a3y,↓reduceIte,a0r,a0h,a0m,BE.safe,BE.pe,IE.pe,Q3,Q4,Q7,Qe,Q1,Q2,Q0,SV.pvs,SV.pv,BE.all,Qa,Q8,Q9,a0G,hd,if_pos hup]
 | succ d ih =>
  intro k hk fuel;have hlt:k<(cs.take i).length:=by omega
  obtain⟨x,hx⟩:=a0P hlt;have hd:decide (k<i)=true:=dT0 (by omega);have hq:=a0J (off:=0) hK (a3z hx);have hup:=a1M (show k<=1000000000 by omega);have ih:=ih (k+1) (by omega) fuel;rw[a0T] at ih;rw[b7s _ hx,Sys.loop,show d8V.loops[1]?=some a3y from rfl];simp only[Q0,a3y,↓reduceIte,a0t,a0r,a0h,a0k,a0m,BE.safe,BE.pe,IE.pe,PEnv.at,Q3,Q4,Q7,Qe,a0y,a0e,a0z,Qg,Qd,Qf,Nat.reduceAdd,Qm,Q1,Qk,Qh,a0w,Q2,Q0,PEnv.push,Q6,Q5,SV.pvs,SV.pv,BE.all,Qa,Q8,Q9,p1,a0G,hd,le0,hq,a4X];cases h1:eqB x.x c.x with
  | false =>
   simp only[↓reduceIte,Q1,Q0,if_pos hup,Qu];exact ih
  | true=>simp only[↓reduceIte,Q1,Q2,Q0,Qv,a0C,or_true]
include hC hP in
theorem d4G(hl:cs.length<=6):∀d i,i+d=cs.length->∀fuel,d*20+1<=fuel ->
  d8V.loop (a0B Tab n) fuel 0 {i:=[(cs.length:Int),(i:Int)],b:=[],v:=[C,P,B,A],m:=σ,k:=σ.length}=some (.int .i64 (goL (a1N ps) cs d i),σ):=by
 obtain⟨p1,p2,p3⟩:=a0D hC;obtain⟨q1,q2,q3⟩:=a0D hP;rw[Qj] at p1 q1;intro d
 induction d with
 | zero =>
  intro i hi fuel hf;obtain⟨fuel,rfl⟩:∃f,fuel=f+1:=⟨fuel-1,by omega⟩;rw[Qq] at hi;subst hi;have hd:decide (cs.length<cs.length)=false:=by simp
  rw[Sys.loop,show d8V.loops[0]?=some a3K from rfl];simp only[Q0,a3K,↓reduceIte,a0t,a0r,BE.safe,BE.pe,IE.pe,Q3,Q4,Q1,Q2,Q0,SV.pv,a0G,hd,goL,a0C,or_true]
 | succ d ih =>
  intro i hi fuel hf;obtain⟨fuel,rfl⟩:∃f,fuel=f+i+1+1:=⟨fuel-i-2,by omega⟩;have hlt:i<cs.length:=by omega
  obtain⟨x,hx⟩:=a0P hlt;have hd:decide (i<cs.length)=true:=dT0 hlt;have hq:=a0J (off:=0) hC (a3z hx);have ih:=ih (i+1) (by omega) fuel (by omega);rw[a0T] at ih;have hcut:((((cs.map Tri.row).take (i:Int).toNat).drop (0:Int).toNat))=(cs.take i).map Tri.row:=by simp[QS]
  have hK:(PV.sl 3 ((cs.take i).map Tri.row)).rowsOf 3=some ((cs.take i).map Tri.row):=a1K _ _;obtain⟨k1,k2,k3⟩:=a0D hK;rw[Qj,QJ,X5 (by omega)] at k1;have hc:=d2I (l:=cs) (i:=i) (by omega);have hin:=fun b0 b1 b2 b3 sup=>d6y σ cs C P B A n i x (by omega) (by omega) b0 b1 b2 b3 (ps.length:Int) sup i 0 (by omega) fuel
  rw[b0S hx,Sys.loop,show d8V.loops[0]?=some a3K from rfl];simp only[Q0,a3K,↓reduceIte,a0t,a0r,a0h,a0k,a0v,a0m,BE.safe,BE.pe,IE.pe,PEnv.at,Q3,Q4,Q7,Qe,a0y,a0e,a0z,Qg,Qd,Qf,Nat.reduceAdd,Qm,Q1,Qk,Qh,a0w,Q2,Q0,PEnv.push,Q6,Q5,SV.pvs,SV.pv,BE.all,Qa,Q8,Q9,p1,a0G,hd,le0,hq,a4X,q1,q2];have h60:¬((6:Int)=0):=by decide
  have h40:¬((4:Int)=0):=by decide
  have h70:¬((7:Int)=0):=by decide
  cases e1:ltB x.x 0 with
  | true =>
   have hp:a1N ps (cs.take i) x=6:=by simp only[a1N,e1,if_true,]
   rw[hp,if_neg h60];simp only[↓reduceIte,Q1,Q2,Q0,a0C,or_true]
  | false =>
  cases e2:leB (ps.length:Int) x.x with
  | true =>
   have hp:a1N ps (cs.take i) x=6:=by simp only[a1N,e1,e2,if_true,Q1,if_false]
   rw[hp,if_neg h60];simp only[↓reduceIte,Q1,Q2,Q0,a0C,or_true]
  | false =>
  cases e3:ltB x.y 1 with
  | true =>
   have hp:a1N ps (cs.take i) x=4:=by simp only[a1N,e1,e2,e3,if_true,Q1,if_false]
   rw[hp,if_neg h40];simp only[↓reduceIte,Q1,Q2,Q0,a0C,or_true]
  | false =>
  cases e4:ltB 4 x.y with
  | true =>
   have hp:a1N ps (cs.take i) x=4:=by simp only[a1N,e1,e2,e3,e4,if_true,Q1,if_false]
   rw[hp,if_neg h40];simp only[↓reduceIte,Q1,Q2,Q0,a0C,or_true]
  | false =>
  cases e5:ltB x.z 1 with
  | true =>
   have hp:a1N ps (cs.take i) x=4:=by simp only[a1N,e1,e2,e3,e4,e5,if_true,Q1,if_false]
   rw[hp,if_neg h40];simp only[↓reduceIte,Q1,Q2,Q0,a0C,or_true]
  | false =>
  have hb1:=e1;have hb2:=e2;rw[a0I] at hb1;rw[a4u] at hb2;obtain⟨m,hm⟩:∃m:Nat,x.x=(m:Int):=⟨x.x.toNat,by omega⟩;obtain⟨pr,hpr⟩:=a0P (show m<ps.length by omega);have hsup:((ps[x.x.toNat]?).map Pr.s).getD 0=pr.s:=by rw[hm,QE,hpr];rfl
  have hq1:a1D x.x 5 1 P=some (.row pr.row 1):=by rw[hm];exact a0J (off:=1) hP (a1r hpr)
  have hrg:(leB 0 x.x&&ltB x.x (ps.length:Int))=true:=by rw[QC,a1u,a0O];omega
  have dr:∀a b c d e:PV,Qt 1 [a,b,c,d,e]=[b,c,d,e]:=fun _ _ _ _ _=>rfl
  simp only[↓reduceIte,Q3,Q7,Qd,Qf,Nat.reduceAdd,Q1,Qk,Qh,a0w,Q2,Q0,Q5,Nat.reduceLeDiff,hrg,hq1,a2m,dr];cases e6:ltB pr.s x.z with
  | true =>
   have hp:a1N ps (cs.take i) x=4:=by simp only[a1N,e1,e2,e3,e4,e5,hsup,e6,if_true,Q1,if_false]
   rw[hp,if_neg h40];simp only[↓reduceIte,Q1,Q2,Q0,a0C,or_true]
  | false =>
   simp only[↓reduceIte,IE.pe,Q3,Q4,Q1,Q0,hC,a2H,a2I,if_pos hc,hcut,k1,k2];rw[Qg] at hin;cases hany:((cs.take i).any fun d=>eqB d.x x.x) with
   | true =>
    have hp:a1N ps (cs.take i) x=7:=by simp only[a1N,e1,e2,e3,e4,e5,hsup,e6,hany,if_true,Q1,if_false]
    rw[hp,if_neg h70];refine(hin _ _ _ _ _).trans ?_;rw[if_pos hany]
   | false =>
    have hp:a1N ps (cs.take i) x=0:=by simp only[a1N,e1,e2,e3,e4,e5,hsup,e6,hany,Q1,if_false]
    rw[hp,if_pos rfl];refine(hin _ _ _ _ _).trans ?_;rw[if_neg (by rw[hany];simp)];exact ih
include hC hP in
theorem d4Q(hn:1000<=n)(hA1:A.one=true)(hB1:B.one=true):a0B Tab (n+1) b0t [.agg [P,B,A,C]] σ=some (.int .i64 (asV ps cs),σ):=by
 obtain⟨p1,p2,p3⟩:=a0D hC;obtain⟨q1,q2,q3⟩:=a0D hP;rw[Qj] at p1;simp only[a0B,b6E,Q0,Sys.run];show ((a0E [.sh (.agg [_,_,_,_])] _).bind _)=_;simp only[a0E,a0x,a0w,Q2,Q0,Qb,if_true,p3,q3,hA1,hB1];show (PT.ev _ a7w _).bind _=_;simp only[a7w,↓reduceIte,a0t,a0r,a0h,a0m,BE.safe,BE.pe,IE.pe,PEnv.at,Q3,Q4,Q7,Qe,Q2,Q0,SV.pvs,SV.pv,BE.all,Q8,Q9,p1,p2,asV];cases h16:ltB 6 (cs.length:Int) with
 | true=>simp only[↓reduceIte,Q1,Q2,Q0,a0C,or_true]
 | false =>
  have h:=h16;rw[a0I] at h;simp only[↓reduceIte,Q1,Q0,];exact d4G σ ps cs C hC P B A hP n (by omega) cs.length 0 (by omega) n (by omega)
end
def a4E(ps:List Pr)(bs:List Bd)(cs as':List Tri):Int :=
 if a8a ps=0 then if b2J bs=0 then if b1f (bs.length:Int) cs=0 then asV ps as' else b1f (bs.length:Int) cs else b2J bs else a8a ps
section
variable (σ:List MO)(ps:List Pr)(bs:List Bd)(cs ad:List Tri)(P B C A:PV)(hP:P.rowsOf 5=some (ps.map Pr.row))(hB:B.rowsOf 4=some (bs.map Bd.row))(hC:C.rowsOf 3=some (cs.map Tri.row))(hA:A.rowsOf 3=some (ad.map Tri.row))(n:Nat)
include hP hB hC hA in
theorem b4x(hn:1010<=n):a0B Tab n b1z [.agg [P,B,C,A]] σ=some (.int .i64 (a4E ps bs cs ad),σ):=by
 obtain⟨n,rfl⟩:∃k,n=k+1+1:=⟨n-2,by omega⟩;obtain⟨p1,p2,p3⟩:=a0D hP;obtain⟨b1,b2,b3⟩:=a0D hB;obtain⟨c1,c2,c3⟩:=a0D hC;obtain⟨a1,a2,a3⟩:=a0D hA;rw[Qj] at b1;have k1:=b4J σ ps P hP (n+1) (by omega);have k2:=c1t σ bs B hB (n+1) (by omega);have k3:=d0R σ cs C hC P B A (bs.length:Int) b1 b2 n (by omega) p3 a3 b3;have k4:=d4Q σ ps ad A hA P B C hP n (by omega) c3 b3;simp only[a7z,b5N,b1W,b0t] at k1 k2 k3 k4;rw[a0B];simp only[c3d,Q0,Sys.run];show ((a0E [.sh (.agg [_,_,_,_])] _).bind _)=_;simp only[a0E,a0x,a0w,Q2,Q0,Qb,if_true,p3,b3,c3,a3];show (PT.ev _ b1K _).bind _=_;have e0:∀z:Int,eqB z 0=decide (z=0):=fun _=>rfl
 simp only[b1K,↓reduceIte,a0t,a0r,a0l,BE.safe,BE.pe,IE.pe,Q3,Q4,Q7,Qe,a0w,a0p,a0x,Q2,Q0,PEnv.push,Q6,Q5,SV.pvs,SV.pv,k1,e0,a4E];by_cases h1:a8a ps=0
 ·rw[if_pos h1,dT0 h1]
  simp only[↓reduceIte,Q3,Q4,Q1,a0w,Q2,Q0,Q6,Q5,Qp,k2];by_cases h2:b2J bs=0
  ·rw[if_pos h2,dT0 h2]
   simp only[↓reduceIte,Q3,Q4,Q1,a0w,Q2,Q0,Q6,Q5,Qp,k3];by_cases h3:b1f (bs.length:Int) cs=0
   ·rw[if_pos h3,dT0 h3]
    simp only[↓reduceIte,Q3,Q1,a0w,Q2,Q0,Qp,k4,a0C,or_true]
   ·rw[if_neg h3,dF0 h3]
    simp only[↓reduceIte,Q1,Q2,Q0,Qn,a0C,or_true]
  ·rw[if_neg h2,dF0 h2]
   simp only[↓reduceIte,Q1,Q2,Q0,Qn,a0C,or_true]
 ·rw[if_neg h1,dF0 h1]
  simp only[↓reduceIte,Q1,Q2,Q0,Qn,a0C,or_true]
include hC in
theorem d0N(i:Nat)(c:Tri)(hi:i<=1000)(hil:i<cs.length)(b0 b1 b2 b3:Bool)(np sup:Int):∀d k,k+d=i->∀fuel,
  d8P.loop (a0B Tab n) (fuel+d+1) 1 {i:=[(i:Int),(k:Int),c.x,np,c.y,c.z],b:=[b0,b1,b2,b3],v:=[B,P,C,A],m:=σ,k:=σ.length} =
   if (((cs.take i).drop k).any fun d=>eqB d.x c.x&&eqB d.y c.y)=true then some (.int .i64 7,σ) else d8P.loop (a0B Tab n) fuel 0 {i:=[(i:Int)+1],b:=[],v:=[P,B,C,A],m:=σ,k:=σ.length}:=by
 obtain⟨p1,p2,p3⟩:=a0D hC;rw[Qj] at p1;have htl:(cs.take i).length=i:=by rw[QJ];omega
 intro d
 induction d with
 | zero =>
  intro k hk fuel;rw[Qq] at hk;subst hk;have hd:decide (k<k)=false:=by simp
  have hup:=a1M (show k<=1000000000 by omega);rw[QL (by omega),QH,if_neg (by simp),Sys.loop,show d8P.loops[1]?=some a3b from rfl];simp only[Q0,a3b,↓reduceIte,a0r,a0h,a0m,BE.safe,BE.pe,IE.pe,Q3,Q4,Q7,Qe,Q1,Q2,Q0,SV.pvs,SV.pv,BE.all,Qa,Q8,Q9,a0G,hd,if_pos hup]
 | succ d ih =>
  intro k hk fuel;have hlt:k<(cs.take i).length:=by omega
  obtain⟨x,hx⟩:=a0P hlt;have hx2:=hx;rw[a9m (by omega)] at hx2;have hd:decide (k<i)=true:=dT0 (by omega);have hd2:decide (k<cs.length)=true:=dT0 (by omega);have q0:=a0J (off:=0) hC (a3z hx2);have q1:=a0J (off:=1) hC (a3z hx2);obtain⟨r1,r2⟩:=tdr (.int .i64 x.x) (.int .i64 x.y) (.int .i64 x.z);have hup:=a1M (show k<=1000000000 by omega);have ih:=ih (k+1) (by omega) fuel;rw[a0T] at ih;rw[b7s _ hx,Sys.loop,show d8P.loops[1]?=some a3b from rfl];simp only[Q0,a3b,↓reduceIte,a0t,a0r,a0h,a0k,a0m,BE.safe,BE.pe,IE.pe,PEnv.at,Q3,Q4,Q7,Qe,a0y,a0e,a0z,Qg,Qd,Qf,Nat.reduceAdd,Qk,Qh,a0w,Q2,Q0,PEnv.push,Q6,Q5,SV.pvs,SV.pv,BE.all,Qa,Q8,Q9,Nat.reduceLeDiff,p1,a0G,hd,hd2,le0,q0,a4X];cases h1:eqB x.x c.x with
  | false =>
   simp only[↓reduceIte,Q1,Q0,if_pos hup,Qs,Qu];exact ih
  | true =>
  simp only[↓reduceIte,Q3,Qd,Qf,Nat.reduceAdd,Qk,Qh,a0w,Q2,Q0,Nat.reduceLeDiff,q1,a4X,r1];cases h2:eqB x.y c.y with
  | false =>
   simp only[↓reduceIte,Q1,Q0,if_pos hup,QP,Qu];exact ih
  | true=>simp only[↓reduceIte,Q1,Q2,Q0,Qa,Qa,Qv,a0C,or_true]
include hA in
theorem d4d(i:Nat)(c:Tri)(hi:i<=1000)(hil:i<ad.length)(b0 b1 b2 b3:Bool)(np sup:Int):∀d k,k+d=i->∀fuel,
  d8P.loop (a0B Tab n) (fuel+d+1) 3 {i:=[(i:Int),(k:Int),c.x,np,c.y,c.z,sup],b:=[b0,b1,b2,b3],v:=[P,B,C,A],m:=σ,k:=σ.length} =
   if (((ad.take i).drop k).any fun d=>eqB d.x c.x)=true then some (.int .i64 7,σ) else d8P.loop (a0B Tab n) fuel 2 {i:=[(i:Int)+1],b:=[],v:=[P,B,C,A],m:=σ,k:=σ.length}:=by
 obtain⟨p1,p2,p3⟩:=a0D hA;rw[Qj] at p1;have htl:(ad.take i).length=i:=by rw[QJ];omega
 intro d
 induction d with
 | zero =>
  intro k hk fuel;rw[Qq] at hk;subst hk;have hd:decide (k<k)=false:=by simp
  have hup:=a1M (show k<=1000000000 by omega);rw[QL (by omega),QH,if_neg (by simp),Sys.loop,show d8P.loops[3]?=some a3a from rfl];simp only[Q0,a3a,↓reduceIte,a0r,a0h,a0m,BE.safe,BE.pe,IE.pe,Q3,Q4,Q7,Qe,Q1,Q2,Q0,SV.pvs,SV.pv,BE.all,Qa,Q8,Q9,a0G,hd,if_pos hup]
 | succ d ih =>
  intro k hk fuel;have hlt:k<(ad.take i).length:=by omega
  obtain⟨x,hx⟩:=a0P hlt;have hx2:=hx;rw[a9m (by omega)] at hx2;have hd:decide (k<i)=true:=dT0 (by omega);have hd2:decide (k<ad.length)=true:=dT0 (by omega);have q0:=a0J (off:=0) hA (a3z hx2);have q1:=a0J (off:=1) hA (a3z hx2);obtain⟨r1,r2⟩:=tdr (.int .i64 x.x) (.int .i64 x.y) (.int .i64 x.z);have hup:=a1M (show k<=1000000000 by omega);have ih:=ih (k+1) (by omega) fuel;rw[a0T] at ih;rw[b7s _ hx,Sys.loop,show d8P.loops[3]?=some a3a from rfl];simp only[Q0,a3a,↓reduceIte,a0t,a0r,a0h,a0k,a0m,BE.safe,BE.pe,IE.pe,PEnv.at,Q3,Q4,Q7,Qe,a0y,a0e,a0z,Qg,Qd,Qf,Nat.reduceAdd,Qk,Qh,a0w,Q2,Q0,PEnv.push,Q6,Q5,SV.pvs,SV.pv,BE.all,Qa,Q8,Q9,Nat.reduceLeDiff,p1,a0G,hd,hd2,le0,q0,a4X];cases h1:eqB x.x c.x with
  | false =>
   simp only[↓reduceIte,Q1,Q0,if_pos hup,Qu];exact ih
  | true=>simp only[↓reduceIte,Q1,Q2,Q0,Qv,a0C,or_true]
include hP hB hC hA in
theorem d3t(hl:ad.length<=6):∀d i,i+d=ad.length->∀fuel,d*20+1<=fuel ->
  d8P.loop (a0B Tab n) fuel 2 {i:=[(i:Int)],b:=[],v:=[P,B,C,A],m:=σ,k:=σ.length}=some (.int .i64 (goL (a1N ps) ad d i),σ):=by
 have _:=And.intro hB hC;obtain⟨p1,p2,p3⟩:=a0D hA;obtain⟨q1,q2,q3⟩:=a0D hP;rw[Qj] at p1 q1;intro d
 induction d with
 | zero =>
  intro i hi fuel hf;obtain⟨fuel,rfl⟩:∃f,fuel=f+1:=⟨fuel-1,by omega⟩;rw[Qq] at hi;subst hi;have hd:decide (ad.length<ad.length)=false:=by simp
  rw[Sys.loop,show d8P.loops[2]?=some a3d from rfl];simp only[Q0,a3d,↓reduceIte,a0t,a0r,a0h,BE.safe,BE.pe,IE.pe,PEnv.at,Q3,Q4,Q1,Q2,Q0,SV.pv,p1,p2,a0G,hd,goL,a0C,or_true]
 | succ d ih =>
  intro i hi fuel hf;obtain⟨fuel,rfl⟩:∃f,fuel=f+i+1+1:=⟨fuel-i-2,by omega⟩;have hlt:i<ad.length:=by omega
  obtain⟨x,hx⟩:=a0P hlt;have hd:decide (i<ad.length)=true:=dT0 hlt;have hq:=a0J (off:=0) hA (a3z hx);have ih:=ih (i+1) (by omega) fuel (by omega);rw[a0T] at ih;have hin:=fun b0 b1 b2 b3 sup=>d4d σ ad P B C A hA n i x (by omega) (by omega) b0 b1 b2 b3 (ps.length:Int) sup i 0 (by omega) fuel
  rw[b0S hx,Sys.loop,show d8P.loops[2]?=some a3d from rfl];simp only[Q0,a3d,↓reduceIte,a0t,a0r,a0h,a0k,a0m,BE.safe,BE.pe,IE.pe,PEnv.at,Q3,Q4,Q7,Qe,a0y,a0e,a0z,Qg,Qd,Qf,Nat.reduceAdd,Qm,Q1,Qk,Qh,a0w,Q2,Q0,PEnv.push,Q6,Q5,SV.pvs,SV.pv,BE.all,Qa,Q8,Q9,p1,p2,a0G,hd,le0,hq,a4X,q1,q2];have h60:¬((6:Int)=0):=by decide
  have h40:¬((4:Int)=0):=by decide
  have h70:¬((7:Int)=0):=by decide
  cases e1:ltB x.x 0 with
  | true =>
   have hp:a1N ps (ad.take i) x=6:=by simp only[a1N,e1,if_true,]
   rw[hp,if_neg h60];simp only[↓reduceIte,Q1,Q2,Q0,a0C,or_true]
  | false =>
  cases e2:leB (ps.length:Int) x.x with
  | true =>
   have hp:a1N ps (ad.take i) x=6:=by simp only[a1N,e1,e2,if_true,Q1,if_false]
   rw[hp,if_neg h60];simp only[↓reduceIte,Q1,Q2,Q0,a0C,or_true]
  | false =>
  cases e3:ltB x.y 1 with
  | true =>
   have hp:a1N ps (ad.take i) x=4:=by simp only[a1N,e1,e2,e3,if_true,Q1,if_false]
   rw[hp,if_neg h40];simp only[↓reduceIte,Q1,Q2,Q0,a0C,or_true]
  | false =>
  cases e4:ltB 4 x.y with
  | true =>
   have hp:a1N ps (ad.take i) x=4:=by simp only[a1N,e1,e2,e3,e4,if_true,Q1,if_false]
   rw[hp,if_neg h40];simp only[↓reduceIte,Q1,Q2,Q0,a0C,or_true]
  | false =>
  cases e5:ltB x.z 1 with
  | true =>
   have hp:a1N ps (ad.take i) x=4:=by simp only[a1N,e1,e2,e3,e4,e5,if_true,Q1,if_false]
   rw[hp,if_neg h40];simp only[↓reduceIte,Q1,Q2,Q0,a0C,or_true]
  | false =>
  have hb1:=e1;have hb2:=e2;rw[a0I] at hb1;rw[a4u] at hb2;obtain⟨m,hm⟩:∃m:Nat,x.x=(m:Int):=⟨x.x.toNat,by omega⟩;obtain⟨pr,hpr⟩:=a0P (show m<ps.length by omega);have hsup:((ps[x.x.toNat]?).map Pr.s).getD 0=pr.s:=by rw[hm,QE,hpr];rfl
  have hq1:a1D x.x 5 1 P=some (.row pr.row 1):=by rw[hm];exact a0J (off:=1) hP (a1r hpr)
  have hrg:(leB 0 x.x&&ltB x.x (ps.length:Int))=true:=by rw[QC,a1u,a0O];omega
  have dr:∀a b c d e:PV,Qt 1 [a,b,c,d,e]=[b,c,d,e]:=fun _ _ _ _ _=>rfl
  simp only[↓reduceIte,Q3,Qd,Qf,Nat.reduceAdd,Q1,Qk,Qh,a0w,Q2,Q0,Nat.reduceLeDiff,hrg,hq1,a2m,dr];cases e6:ltB pr.s x.z with
  | true =>
   have hp:a1N ps (ad.take i) x=4:=by simp only[a1N,e1,e2,e3,e4,e5,hsup,e6,if_true,Q1,if_false]
   rw[hp,if_neg h40];simp only[↓reduceIte,Q1,Q2,Q0,a0C,or_true]
  | false =>
   simp only[↓reduceIte,Q1,Q0,];rw[Qg] at hin;cases hany:((ad.take i).any fun d=>eqB d.x x.x) with
   | true =>
    have hp:a1N ps (ad.take i) x=7:=by simp only[a1N,e1,e2,e3,e4,e5,hsup,e6,hany,if_true,Q1,if_false]
    rw[hp,if_neg h70];refine(hin _ _ _ _ _).trans ?_;rw[if_pos hany]
   | false =>
    have hp:a1N ps (ad.take i) x=0:=by simp only[a1N,e1,e2,e3,e4,e5,hsup,e6,hany,Q1,if_false]
    rw[hp,if_pos rfl];refine(hin _ _ _ _ _).trans ?_;rw[if_neg (by rw[hany];simp)];exact ih
include hP hB hC hA in
theorem d0o(hl:cs.length<=16):∀d i,i+d=cs.length->∀fuel,d*20+200<=fuel ->
  d8P.loop (a0B Tab n) fuel 0 {i:=[(i:Int)],b:=[],v:=[P,B,C,A],m:=σ,k:=σ.length}=some (.int .i64 (if goL (a1z (bs.length:Int)) cs d i=0 then asV ps ad else goL (a1z (bs.length:Int)) cs d i),σ):=by
 obtain⟨p1,p2,p3⟩:=a0D hC;obtain⟨q1,q2,q3⟩:=a0D hB;rw[Qj] at p1 q1;intro d
 induction d with
 | zero =>
  intro i hi fuel hf;obtain⟨fuel,rfl⟩:∃f,fuel=f+1:=⟨fuel-1,by omega⟩;rw[Qq] at hi;subst hi;have hd:decide (cs.length<cs.length)=false:=by simp
  rw[Sys.loop,show d8P.loops[0]?=some a3i from rfl];obtain⟨a1,a2,a3⟩:=a0D hA;rw[Qj] at a1;rw[show goL (a1z (bs.length:Int)) cs 0 cs.length=0 from rfl,if_pos rfl];unfold asV;simp only[Q0,a3i,↓reduceIte,a0t,a0r,a0h,a0m,BE.safe,BE.pe,IE.pe,PEnv.at,Q3,Q4,Q7,Qe,Q1,Q2,Q0,SV.pvs,SV.pv,BE.all,Q8,Q9,p1,p2,a0G,hd,a1,a2];cases h6:ltB 6 (ad.length:Int) with
  | true=>simp only[↓reduceIte,Q1,Q2,Q0,a0C,or_true]
  | false =>
   have h:=h6;rw[a0I] at h;simp only[↓reduceIte,Q1,Q0,];exact d3t σ ps bs cs ad P B C A hP hB hC hA n (by omega) ad.length 0 (by omega) fuel (by omega)
 | succ d ih =>
  intro i hi fuel hf;obtain⟨fuel,rfl⟩:∃f,fuel=f+i+1+1:=⟨fuel-i-2,by omega⟩;have hlt:i<cs.length:=by omega
  obtain⟨x,hx⟩:=a0P hlt;have hd:decide (i<cs.length)=true:=dT0 hlt;have hq:=a0J (off:=0) hC (a3z hx);have ih:=ih (i+1) (by omega) fuel (by omega);rw[a0T] at ih;have hin:=fun b0 b1 b2 b3 sup=>d0N σ cs P B C A hC n i x (by omega) (by omega) b0 b1 b2 b3 (bs.length:Int) sup i 0 (by omega) fuel
  rw[b0S hx,Sys.loop,show d8P.loops[0]?=some a3i from rfl];simp only[Q0,a3i,↓reduceIte,a0t,a0r,a0h,a0k,a0m,BE.safe,BE.pe,IE.pe,PEnv.at,Q3,Q4,Q7,Qe,a0y,a0e,a0z,Qg,Qd,Qf,Nat.reduceAdd,Qm,Q1,Qk,Qh,a0w,Q2,Q0,PEnv.push,Q6,Q5,SV.pvs,SV.pv,BE.all,Qa,Q8,Q9,p1,p2,a0G,hd,le0,hq,a4X,q1,q2];have h60:¬((6:Int)=0):=by decide
  have h40:¬((4:Int)=0):=by decide
  have h70:¬((7:Int)=0):=by decide
  cases e1:ltB x.x (-1) with
  | true =>
   have hp:a1z (bs.length:Int) (cs.take i) x=6:=by simp only[a1z,e1,if_true,]
   rw[hp,if_neg h60,if_neg h60];simp only[↓reduceIte,Q1,Q2,Q0,a0C,or_true]
  | false =>
  cases e2:leB (bs.length:Int) x.x with
  | true =>
   have hp:a1z (bs.length:Int) (cs.take i) x=6:=by simp only[a1z,e1,e2,if_true,Q1,if_false]
   rw[hp,if_neg h60,if_neg h60];simp only[↓reduceIte,Q1,Q2,Q0,a0C,or_true]
  | false =>
  cases e3:ltB x.y 0 with
  | true =>
   have hp:a1z (bs.length:Int) (cs.take i) x=4:=by simp only[a1z,e1,e2,e3,if_true,Q1,if_false]
   rw[hp,if_neg h40,if_neg h40];simp only[↓reduceIte,Q1,Q2,Q0,a0C,or_true]
  | false =>
  cases e4:ltB 4 x.y with
  | true =>
   have hp:a1z (bs.length:Int) (cs.take i) x=4:=by simp only[a1z,e1,e2,e3,e4,if_true,Q1,if_false]
   rw[hp,if_neg h40,if_neg h40];simp only[↓reduceIte,Q1,Q2,Q0,a0C,or_true]
  | false =>
  cases e5:ltB x.z 0 with
  | true =>
   have hp:a1z (bs.length:Int) (cs.take i) x=4:=by simp only[a1z,e1,e2,e3,e4,e5,if_true,Q1,if_false]
   rw[hp,if_neg h40,if_neg h40];simp only[↓reduceIte,Q1,Q2,Q0,a0C,or_true]
  | false =>
  cases e6:ltB 24 x.z with
  | true =>
   have hp:a1z (bs.length:Int) (cs.take i) x=4:=by simp only[a1z,e1,e2,e3,e4,e5,e6,if_true,Q1,if_false]
   rw[hp,if_neg h40,if_neg h40];simp only[↓reduceIte,Q1,Q2,Q0,a0C,or_true]
  | false =>
   simp only[↓reduceIte,Q1,Q0,];rw[Qg] at hin;cases hany:((cs.take i).any fun d=>eqB d.x x.x&&eqB d.y x.y) with
   | true =>
    have hp:a1z (bs.length:Int) (cs.take i) x=7:=by simp only[a1z,e1,e2,e3,e4,e5,e6,hany,if_true,Q1,if_false]
    rw[hp,if_neg h70,if_neg h70];refine(hin _ _ _ _ 0).trans ?_;rw[if_pos hany]
   | false =>
    have hp:a1z (bs.length:Int) (cs.take i) x=0:=by simp only[a1z,e1,e2,e3,e4,e5,e6,hany,Q1,if_false]
    rw[hp,if_pos rfl];refine(hin _ _ _ _ 0).trans ?_;rw[if_neg (by rw[hany];simp)];exact ih
include hP hB hC hA in
theorem a9P(hn:1010<=n):a0B Tab n a4x [.agg [P,B,C,A]] σ=some (.int .i64 (a4E ps bs cs ad),σ):=by
 obtain⟨n,rfl⟩:∃k,n=k+1:=⟨n-1,by omega⟩;obtain⟨p1,p2,p3⟩:=a0D hP;obtain⟨b1,b2,b3⟩:=a0D hB;obtain⟨c1,c2,c3⟩:=a0D hC;obtain⟨a1,a2,a3⟩:=a0D hA;rw[Qj] at c1;have k1:=b9Y σ ps P hP n (by omega);have k2:=d2D σ bs B hB n (by omega);simp only[a6q,a9L] at k1 k2;rw[a0B];simp only[b3W,Q0,Sys.run];show ((a0E [.sh (.agg [_,_,_,_])] _).bind _)=_;simp only[a0E,a0x,a0w,Q2,Q0,Qb,if_true,p3,b3,c3,a3];show (PT.ev _ a6k _).bind _=_;have e0:∀z:Int,eqB z 0=decide (z=0):=fun _=>rfl
 simp only[a6k,↓reduceIte,a0t,a0r,a0h,a0l,a0m,BE.safe,BE.pe,IE.pe,PEnv.at,Q3,Q4,Q7,Qe,a0w,a0p,a0x,Q2,Q0,PEnv.push,Q6,Q5,SV.pvs,SV.pv,BE.all,Q8,Q9,k1,e0,a4E];by_cases h1:a8a ps=0
 ·rw[if_pos h1,dT0 h1]
  simp only[↓reduceIte,Q3,a0w,Q2,Q0,k2];by_cases h2:b2J bs=0
  ·rw[if_pos h2,dT0 h2]
   unfold b1f;simp only[↓reduceIte,Q1,Qp,c1,c2];cases h16:ltB 16 (cs.length:Int) with
   | true =>
    simp only[if_true];rw[if_neg (by decide)];simp only[↓reduceIte,Q1,Q2,Q0,a0C,or_true]
   | false =>
    have h:=h16;rw[a0I] at h;rw[if_neg (by simp)];simp only[↓reduceIte,Q1,Q0,];exact d0o σ ps bs cs ad P B C A hP hB hC hA n (by omega) cs.length 0 (by omega) n (by omega)
  ·rw[if_neg h2,dF0 h2]
   simp only[↓reduceIte,Q1,Q2,Q0,Qn,a0C,or_true]
 ·rw[if_neg h1,dF0 h1]
  simp only[↓reduceIte,Q1,Q2,Q0,Qn,a0C,or_true]
end
theorem c7Z{n:Nat}{ps:List PV}(h:a1s Tryz.prog n 89 ps):∃x:Tri,ps=x.row:=by
 obtain⟨m,_,h⟩:=a4B Tryz.underlying89 h;simp only[Q8,Q9,a4j] at h;obtain⟨_,_,rfl,h1,_,_,rfl,h2,_,_,rfl,h3,rfl⟩:=h;obtain⟨a,rfl,_⟩:=a1p (k:=.i64) (by kernel_rfl) h1;obtain⟨b,rfl,_⟩:=a1p (k:=.i64) (by kernel_rfl) h2;obtain⟨c,rfl,_⟩:=a1p (k:=.i64) (by kernel_rfl) h3;exact⟨⟨a,b,c⟩,rfl⟩
theorem c5S{n:Nat}{ps:List PV}(h:a1s Tryz.prog n 91 ps):∃x:Tri,ps=x.row:=by
 obtain⟨m,_,h⟩:=a4B Tryz.underlying91 h;simp only[Q8,Q9,a4j] at h;obtain⟨_,_,rfl,h1,_,_,rfl,h2,_,_,rfl,h3,rfl⟩:=h;obtain⟨a,rfl,_⟩:=a1p (k:=.i64) (by kernel_rfl) h1;obtain⟨b,rfl,_⟩:=a1p (k:=.i64) (by kernel_rfl) h2;obtain⟨c,rfl,_⟩:=a1p (k:=.i64) (by kernel_rfl) h3;exact⟨⟨a,b,c⟩,rfl⟩
theorem c9R{n:Nat}{ps:List PV}(h:a1s Tryz.prog n 27 ps):∃(l1:List Pr) (l2:List Bd) (l3 l4:List Tri),ps=[.sl 5 (l1.map Pr.row),.sl 4 (l2.map Bd.row),.sl 3 (l3.map Tri.row),.sl 3 (l4.map Tri.row)]:=by
 obtain⟨m,_,h⟩:=a4B Tryz.underlying27 h;simp only[Q8,Q9,a4j] at h;obtain⟨_,_,rfl,h1,_,_,rfl,h2,_,_,rfl,h3,_,_,rfl,h4,rfl⟩:=h;obtain⟨m1,r1,_,rfl,g1⟩:=a9T (e:=93) (by kernel_rfl) h1;obtain⟨m2,r2,_,rfl,g2⟩:=a9T (e:=102) (by kernel_rfl) h2;obtain⟨m3,r3,_,rfl,g3⟩:=a9T (e:=89) (by kernel_rfl) h3;obtain⟨m4,r4,_,rfl,g4⟩:=a9T (e:=91) (by kernel_rfl) h4;obtain⟨l1,rfl⟩:=a7c (row:=Pr.row) (fun ps h=>d0t h) r1 g1;obtain⟨l2,rfl⟩:=a7c (row:=Bd.row) (fun ps h=>(c9u h).imp fun _ h=>h.1) r2 g2;obtain⟨l3,rfl⟩:=a7c (row:=Tri.row) (fun ps h=>c7Z h) r3 g3;obtain⟨l4,rfl⟩:=a7c (row:=Tri.row) (fun ps h=>c5S h) r4 g4;rw[show Tryz.prog.cellsOf 93=5 by kernel_rfl,show Tryz.prog.cellsOf 102=4 by kernel_rfl,show Tryz.prog.cellsOf 89=3 by kernel_rfl,show Tryz.prog.cellsOf 91=3 by kernel_rfl];exact⟨l1,l2,l3,l4,rfl⟩
end Go.Proofs.YtmekflfjaflmkaaGreat
