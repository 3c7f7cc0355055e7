/- The examples of the chapter on activity. -/
import Derived.Test.YtmekflfjaflmkaaGreatHSys
import Derived.Test.YtmekflfjaflmkaaGreatHTxd
set_option linter.unusedSimpArgs false
set_option linter.unusedVariables false
set_option linter.unusedSectionVars false
open Option renaming bind_some → Q0, map_some → Q2, toList_some → QW
open Bool renaming false_eq_true → Q1, and_self → Qb, not_false → Qn, not_true → Qp, true_and → Qq, false_and → Qs, false_or → Qt, true_or → Qu, eq_iff_iff → QB, and_eq_true → QE, and_false → QK, not_eq_true' → QV
open List renaming getD_cons_zero → Q3, getD_cons_succ → Q4, nil_append → Q5, cons_append → Q6, getElem?_cons_zero → Q7, map_cons → Q8, map_nil → Q9, append_nil → Qa, getElem?_cons_succ → Qd, drop_zero → Qe, length_cons → Qf, take_zero → Qg, length_nil → Qh, take_succ_cons → Qj, length_map → Qk, drop → Qv, drop_length → Qw, any_nil → Qz, length_take → QA, drop_eq_nil_of_le → QC, take_add_one → QJ, any_cons → QL, map_take → QM, takeWhile_cons → QN, getElem?_eq_some_iff → QP, mem_of_getElem? → QQ, findIdx?_cons → QS, takeWhile_nil → QU, mem_append → QX, mem_singleton → QY, findIdx?_nil → QZ
open Nat renaming add_zero → Qm, le_refl → Qr, min_eq_left → X0
open Int renaming toNat_natCast → Qy, mul_le_mul → QD, toNat_zero → QH
set_option maxRecDepth 100000
namespace Go.Proofs.YtmekflfjaflmkaaGreat
open Go.Sx
structure W6 where
 (a b c d e f:Int)
def W6.pv(x:W6):List PV:=[.int .i64 x.a,.int .i64 x.b,.int .i64 x.c,.int .i64 x.d,.int .i64 x.e,.int .i64 x.f]
def W6.ok(w:W6):Prop:=0<=w.a/\w.a<=4/\0<=w.b/\w.b<=4/\0<=w.c/\w.c<=4/\0<=w.d/\w.d<=4/\0<=w.e/\w.e<=4/\0<=w.f/\w.f<=4
instance (w:W6):Decidable w.ok:=by unfold W6.ok;infer_instance
def W6.pok(w:W6):Prop:=0<=w.a/\w.a<=1000000/\0<=w.b/\w.b<=1000000/\0<=w.c/\w.c<=1000000/\0<=w.d/\w.d<=1000000/\0<=w.e/\w.e<=1000000/\0<=w.f/\w.f<=1000000
instance (w:W6):Decidable w.pok:=by unfold W6.pok;infer_instance
def b5t(w:W6):Int:=if w.ok then 0 else 4
def b2j(p w:W6):Int:=p.a*w.a+p.b*w.b+p.c*w.c+p.d*w.d+p.e*w.e+p.f*w.f
structure Ch where
 (p w:W6)
def Ch.row(c:Ch):List PV:=c.p.pv++c.w.pv
def Ch.ok(c:Ch):Prop:=c.p.pok/\c.w.ok
instance (c:Ch):Decidable c.ok:=by unfold Ch.ok;infer_instance
def b2c(a b:Ch):Int:=b2j a.p b.w-b2j a.p a.w
theorem b6L{x y:Int}(h1:0<=x)(h2:x<=1000000)(h3:0<=y)(h4:y<=4):0<=x*y/\x*y<=4000000:=by
 constructor
 ·exact Int.mul_nonneg h1 h3
 ·calc x*y<=1000000*4:=QD h2 h4 h3 (by omega)
   _=4000000:=by decide
theorem c0V{p w:W6}(hp:p.pok)(hw:w.ok):(0<=p.a*w.a/\p.a*w.a<=4000000)/\(0<=p.b*w.b/\p.b*w.b<=4000000)/\(0<=p.c*w.c/\p.c*w.c<=4000000)/\(0<=p.d*w.d/\p.d*w.d<=4000000)/\(0<=p.e*w.e/\p.e*w.e<=4000000)/\(0<=p.f*w.f/\p.f*w.f<=4000000):=by
 simp only[W6.pok,W6.ok] at hp hw;exact⟨b6L (by omega) (by omega) (by omega) (by omega),b6L (by omega) (by omega) (by omega) (by omega),b6L (by omega) (by omega) (by omega) (by omega),b6L (by omega) (by omega) (by omega) (by omega),b6L (by omega) (by omega) (by omega) (by omega),b6L (by omega) (by omega) (by omega) (by omega)⟩
theorem c0a{p w:W6}(hp:p.pok)(hw:w.ok):0<=b2j p w/\b2j p w<=24000000:=by
 have:=c0V hp hw;simp only[b2j];omega
theorem c7k{a b:Ch}(ha:a.ok)(hb:b.ok):-24000000<=b2c a b/\b2c a b<=24000000:=by
 have:=c0a ha.1 hb.2;have:=c0a ha.1 ha.2;simp only[b2c];omega
theorem c1y(σ:List MO)(w:W6)(n:Nat)(hn:1<=n):a0a Tab n b5T [.agg w.pv] σ=some (.int .i64 (b5t w),σ):=by
 obtain⟨n,rfl⟩:∃k,n=k+1:=⟨n-1,by omega⟩;simp only[a0a,c1m,Q0,Sys.run,W6.pv];show ((a0i [.sh (.agg [_,_,_,_,_,_])] _).bind _)=_;simp only[a0i,a0l,a0c,Q2,Q0,Qa,if_true];show (PT.ev _ b1h _).bind _=_;simp only[b1h,↓reduceIte,PT.ev,BE.safe,BE.pe,IE.pe,Q3,Q4,Q1,Q2,Q0,SV.pv,a0g,or_true];obtain⟨a,b,c,d,e,f⟩:=w;simp only[a0W,b5t];by_cases hok:(⟨a,b,c,d,e,f⟩:W6).ok
 ·rw[if_pos hok]
  simp only[W6.ok] at hok
  repeat rw[if_neg (by omega)]
  rfl
 ·rw[if_neg hok]
  simp only[W6.ok] at hok;by_cases h1:a<0
  ·rw[if_pos h1];rfl
  rw[if_neg h1];by_cases h2:4<a
  ·rw[if_pos h2];rfl
  rw[if_neg h2];by_cases h3:b<0
  ·rw[if_pos h3];rfl
  rw[if_neg h3];by_cases h4:4<b
  ·rw[if_pos h4];rfl
  rw[if_neg h4];by_cases h5:c<0
  ·rw[if_pos h5];rfl
  rw[if_neg h5];by_cases h6:4<c
  ·rw[if_pos h6];rfl
  rw[if_neg h6];by_cases h7:d<0
  ·rw[if_pos h7];rfl
  rw[if_neg h7];by_cases h8:4<d
  ·rw[if_pos h8];rfl
  rw[if_neg h8];by_cases h9:e<0
  ·rw[if_pos h9];rfl
  rw[if_neg h9];by_cases h10:4<e
  ·rw[if_pos h10];rfl
  rw[if_neg h10];by_cases h11:f<0
  ·rw[if_pos h11];rfl
  rw[if_neg h11];by_cases h12:4<f
  ·rw[if_pos h12];rfl
  rw[if_neg h12];exfalso;omega
theorem b4u(σ:List MO)(p w:W6)(hp:p.pok)(hw:w.ok)(n:Nat)(hn:1<=n):a0a Tab n b8v [.agg p.pv,.agg w.pv] σ=some (.int .i64 (b2j p w),σ):=by
 obtain⟨n,rfl⟩:∃k,n=k+1:=⟨n-1,by omega⟩;simp only[a0a,c2A,Q0,Sys.run,W6.pv];show ((a0i [.sh (.agg [_,_,_,_,_,_]),.sh (.agg [_,_,_,_,_,_])] _).bind _)=_;simp only[a0i,a0l,a0c,Q2,Q0,Qa,Q5,Q6,if_true];show (PT.ev _ b1E _).bind _=_;obtain⟨b0,b1,b2,b3,b4,b5⟩:=c0V hp hw;obtain⟨a,b,c,d,e,f⟩:=p;obtain⟨a',b',c',d',e',f'⟩:=w;simp only at b0 b1 b2 b3 b4 b5;simp only[b1E,↓reduceIte,PT.ev,BE.safe,BE.pe,IE.pe,Q3,Q4,Q1,Q2,Q0,SV.pv,Qb,a0g,or_true,QE,a2L,b2j];generalize a*a'=x0 at *
 generalize b*b'=x1 at *
 generalize c*c'=x2 at *
 generalize d*d'=x3 at *
 generalize e*e'=x4 at *
 generalize f*f'=x5 at *
 repeat rw[if_pos (by omega)]
 rfl
theorem c9c(σ:List MO)(x y:Ch)(hx:x.ok)(hy:y.ok)(n:Nat)(hn:2<=n):a0a Tab n b4m [.agg x.row,.agg y.row] σ=some (.int .i64 (b2c x y),σ):=by
 obtain⟨n,rfl⟩:∃k,n=k+1:=⟨n-1,by omega⟩;have c1:=b4u σ x.p y.w hx.1 hy.2 n (by omega);have c2:=b4u σ x.p x.w hx.1 hx.2 n (by omega);have b1:=c0a hx.1 hy.2;have b2:=c0a hx.1 hx.2;simp only[b2c];generalize b2j x.p y.w=u at *
 generalize b2j x.p x.w=v at *
 obtain⟨⟨a,b,c,d,e,f⟩,⟨a',b',c',d',e',f'⟩⟩:=x;obtain⟨⟨a1,b1',c1',d1,e1,f1⟩,⟨a1',b1'',c1'',d1',e1',f1'⟩⟩:=y;simp only[b8v,W6.pv] at c1 c2;simp only[a0a,c0N,Q0,Sys.run,W6.pv,Ch.row,Q6,Q5];show ((a0i [.sh (.agg [_,_,_,_,_,_,_,_,_,_,_,_]),.sh (.agg [_,_,_,_,_,_,_,_,_,_,_,_])] _).bind _)=_;simp only[a0i,a0l,a0c,Q2,Q0,Qa,Q5,Q6,if_true];show (PT.ev _ b0k _).bind _=_;have q:(leB (-9223372036854775808) (u-v)&&leB (u-v) 9223372036854775807)=true:=by simp[leB];omega
 simp only[b0k,↓reduceIte,PT.ev,BE.safe,BE.pe,IE.pe,Q3,Q4,Q1,a0c,a0r,a0l,Q2,Q0,PEnv.push,Q6,Q5,SV.pvs,SV.pv,Qb,a0g,or_true,c1,c2,if_pos q]
theorem b6H(x:Ch):x.row=[.int .i64 x.p.a,.int .i64 x.p.b,.int .i64 x.p.c,.int .i64 x.p.d,.int .i64 x.p.e,.int .i64 x.p.f,.int .i64 x.w.a,.int .i64 x.w.b,.int .i64 x.w.c,.int .i64 x.w.d,.int .i64 x.w.e,.int .i64 x.w.f]:=rfl
theorem c6h{l:List Ch}{i:Nat}{x:Ch}(h:l[i]?=some x):(l.map Ch.row)[i]?=some x.row:=by simp[h]
def W6.isZ(x:W6):Bool:=eqB x.a 0&&(eqB x.b 0&&(eqB x.c 0&&(eqB x.d 0&&(eqB x.e 0&&eqB x.f 0))))
abbrev CV:=Ch×Int
structure Pr where
 (nm:List UInt8) (s r p g:Int)
def Pr.row(x:Pr):List PV:=[.str x.nm,.int .i64 x.s,.int .i64 x.r,.int .i64 x.p,.int .i64 x.g]
structure Bd where
 (nm:List UInt8) (c b p:Int)
def Bd.row(x:Bd):List PV:=[.str x.nm,.int .i64 x.c,.int .i64 x.b,.int .i64 x.p]
theorem a5c(x:Pr):x.row=[.str x.nm,.int .i64 x.s,.int .i64 x.r,.int .i64 x.p,.int .i64 x.g]:=rfl
theorem b1w(x:Bd):x.row=[.str x.nm,.int .i64 x.c,.int .i64 x.b,.int .i64 x.p]:=rfl
theorem c9M{n:Nat}{ps:List PV}(h:a1h Tryz.prog n 93 ps):∃x:Pr,ps=x.row:=by
 obtain⟨m,_,h⟩:=a4m Tryz.underlying93 h;simp only[Q8,Q9,a4o] at h;obtain⟨_,_,rfl,h1,_,_,rfl,h2,_,_,rfl,h3,_,_,rfl,h4,_,_,rfl,h5,rfl⟩:=h;obtain⟨a,rfl⟩:=c2E (by kernel_rfl) h1;obtain⟨b,rfl,_⟩:=a1u (k:=.i64) (by kernel_rfl) h2;obtain⟨c,rfl,_⟩:=a1u (k:=.i64) (by kernel_rfl) h3;obtain⟨d,rfl,_⟩:=a1u (k:=.i64) (by kernel_rfl) h4;obtain⟨e,rfl,_⟩:=a1u (k:=.i64) (by kernel_rfl) h5;exact⟨⟨a,b,c,d,e⟩,rfl⟩
theorem c9T{n:Nat}{ps:List PV}(h:a1h Tryz.prog n 102 ps):∃x:Bd,ps=x.row/\loI .i64<=x.b/\x.b<=hiI .i64/\loI .i64<=x.p/\x.p<=hiI .i64:=by
 obtain⟨m,_,h⟩:=a4m Tryz.underlying102 h;simp only[Q8,Q9,a4o] at h;obtain⟨_,_,rfl,h1,_,_,rfl,h2,_,_,rfl,h3,_,_,rfl,h4,rfl⟩:=h;obtain⟨a,rfl⟩:=c2E (by kernel_rfl) h1;obtain⟨b,rfl,_⟩:=a1u (k:=.i64) (by kernel_rfl) h2;obtain⟨c,rfl,c1,c2⟩:=a1u (k:=.i64) (by kernel_rfl) h3;obtain⟨d,rfl,d1,d2⟩:=a1u (k:=.i64) (by kernel_rfl) h4;exact⟨⟨a,b,c,d⟩,rfl,c1,c2,d1,d2⟩
theorem a9p{α:Type}{row:α->List PV}{P:Program}{n:Nat}{t:TypeId}(h1:∀ps,a1h P n t ps->∃x:α,ps=row x):∀(rows:List (List PV)),(∀r∈rows,a1h P n t r)->∃l:List α,rows=l.map row
 | [],_=>⟨[],rfl⟩
 | r::rows,h=>by
  obtain⟨x,rfl⟩:=h1 r (h r (by simp));obtain⟨l,rfl⟩:=a9p h1 rows (fun q hq=>h q (by simp[hq]));exact⟨x::l,rfl⟩
structure St where
 (ps:List Pr) (bs:List Bd) (P B C A:PV)
structure St.Ok (s:St):Prop where
 P:s.P.rowsOf 5=some (s.ps.map Pr.row)
 B:s.B.rowsOf 4=some (s.bs.map Bd.row)
 C:s.C.one=true
 A:s.A.one=true
def St.pv(s:St):List PV:=[s.P,s.B,s.C,s.A]
def d7a(s:St)(i:Int):Bool:=leB 0 i&&ltB i (s.bs.length:Int)
def d7e(s:St)(i:Int)(x:Ch):Int:=if d7a s i=true then(match s.bs[i.toNat]? with|some b=>if eqB b.b 0=true then 0 else if ltB b.b (b2j x.p x.w)=true then 17 else 0|none=>0) else 6
theorem a9I{l:List Bd}{i:Nat}{x:Bd}(h:l[i]?=some x):(l.map Bd.row)[i]?=some x.row:=by simp[h]
def a6B(z:Int):Bool:=leB 97 z&&leB z 122
def b8g(z:Int):Bool:=leB 48 z&&leB z 57
def c2d(z:Int):Bool:=a6B z||(b8g z||eqB z 95)
def innC(c:UInt8):Bool:=c2d (c.toNat:Int)
theorem a9R{l:List UInt8}{i:Nat}{c:UInt8}(h:l[i]?=some c):PV.sAt (.str l) (i:Int)=(c.toNat:Int):=by simp[PV.sAt,h]
theorem a3x(l:List UInt8):PV.sLen (.str l)=(l.length:Int):=rfl
theorem is3(l:List UInt8):PV.isKind 3 (.str l)=true:=rfl
theorem a1J(l:List UInt8):PV.one (.str l)=true:=rfl
theorem d2P(f:Nat)(l:List PV):PV.one (.fn f l)=true:=rfl
theorem a9b(a b:List UInt8):PV.sEq (.str a) (.str b)=decide (a=b):=rfl
theorem c9W(a b:List UInt8):PV.sIs b (.str a)=decide (a=b):=rfl
theorem c7W(c:UInt8):(0:Int)<=(c.toNat:Int)/\(c.toNat:Int)<=255:=by have:=c.toNat_lt;omega
theorem c3o(σ:List MO)(z:Int)(n:Nat)(hn:1<=n):a0a Tab n b0K [.int .i32 z] σ=some (.bool (a6B z),σ):=by
 obtain⟨n,rfl⟩:∃k,n=k+1:=⟨n-1,by omega⟩;simp only[a0a,c1M,Q0,Sys.run];show ((a0i [.sh (.one _)] _).bind _)=_;simp only[a0i,a0l,a0c,Q2,Q0,Qa,if_true];show (PT.ev _ b1c _).bind _=_;simp only[b1c,↓reduceIte,a0j,a0e,BE.safe,BE.pe,IE.pe,Q3,Q0,SV.pv,a6B];cases leB 97 z<;>simp only[↓reduceIte,Q1,Q2,Q0,a0g,or_true,Qq,Qs]
theorem c9f(σ:List MO)(z:Int)(n:Nat)(hn:1<=n):a0a Tab n b8r [.int .i32 z] σ=some (.bool (b8g z),σ):=by
 obtain⟨n,rfl⟩:∃k,n=k+1:=⟨n-1,by omega⟩;simp only[a0a,c2x,Q0,Sys.run];show ((a0i [.sh (.one _)] _).bind _)=_;simp only[a0i,a0l,a0c,Q2,Q0,Qa,if_true];show (PT.ev _ b1M _).bind _=_;simp only[b1M,↓reduceIte,a0j,a0e,BE.safe,BE.pe,IE.pe,Q3,Q0,SV.pv,b8g];cases leB 48 z<;>simp only[↓reduceIte,Q1,Q2,Q0,a0g,or_true,Qq,Qs]
theorem c9q(σ:List MO)(z:Int)(n:Nat)(hn:2<=n):a0a Tab n a3B [.int .i32 z] σ=some (.bool (c2d z),σ):=by
 obtain⟨n,rfl⟩:∃k,n=k+1:=⟨n-1,by omega⟩;have c1:=c3o σ z n (by omega);have c2:=c9f σ z n (by omega);simp only[b0K,b8r] at c1 c2;simp only[a0a,c2P,Q0,Sys.run];show ((a0i [.sh (.one _)] _).bind _)=_;simp only[a0i,a0l,a0c,Q2,Q0,Qa,if_true];show (PT.ev _ b1V _).bind _=_;simp only[b1V,↓reduceIte,a0j,a0e,a0K,BE.safe,BE.pe,IE.pe,Q3,Q4,a0c,a0r,a0l,Q2,Q0,PEnv.push,Q6,Q5,Qa,SV.pvs,SV.pv,c1,c2,c2d];cases a6B z
 ·simp only[↓reduceIte,Q1,Qt]
  cases b8g z<;>simp only[↓reduceIte,Q1,Q2,Q0,a0g,or_true,Qu,Qt]
 ·simp only[↓reduceIte,Q1,Q2,Q0,a0g,or_true,Qu]
theorem b4E{α:Type}{p:α->Bool}{l:List α}{i:Nat}{c:α}(h:l[i]?=some c)(hc:p c=true):(l.drop i).takeWhile p=c::(l.drop (i+1)).takeWhile p:=by
 rw[a5j h,QN,if_pos hc]
theorem b6O{α:Type}{p:α->Bool}{l:List α}{i:Nat}{c:α}(h:l[i]?=some c)(hc:p c=false):(l.drop i).takeWhile p=[]:=by
 rw[a5j h,QN,hc];rfl
theorem d2d(σ:List MO)(l:List UInt8)(hl:l.length<=12)(n:Nat)(hn:20<=n):a0a Tab n c1g [.str l,.int .i64 0,.fn a3B []] σ=some (.str (l.takeWhile innC),σ):=by
 obtain⟨n,rfl⟩:∃k,n=k+1:=⟨n-1,by omega⟩
 have loop:∀d i,i+d=l.length->∀fuel,a4y.loop (a0a Tab n) (fuel+d+1) 0 {i:=[0,(i:Int)],b:=[],v:=[.str l,.fn a3B []],m:=σ,k:=σ.length}=some (.str (l.take i++(l.drop i).takeWhile innC),σ):=by
  intro d
  induction d with
  | zero =>
   intro i hi fuel;rw[Qm] at hi;subst hi;have hd:decide (l.length<l.length)=false:=by simp
   rw[Sys.loop,show a4y.loops[0]?=some a5b from rfl,Qw];have hc:(0:Int)<=0/\(0:Int)<=(l.length:Int)/\(l.length:Int)<=(l.length:Int):=by omega
   simp only[Q0,a5b,↓reduceIte,a0j,a0e,a0f,a6q,BE.safe,BE.pe,IE.pe,PEnv.at,Q3,Q4,Q7,Qd,Qe,Q1,Q2,Q0,Q6,Q5,Qa,SV.pv,is3,a3x,a0o,hd,a2i,a2h,if_pos hc,a0g,or_true,Qy,b2F,QU,QH]
  | succ d ih =>
   intro i hi fuel;have hlt:i<l.length:=by omega
   obtain⟨c,hc⟩:=a0S hlt;have hd:decide (i<l.length)=true:=dT0 hlt;have hu:=c7W c;have e32:(leB (-2147483648) (c.toNat:Int)&&leB (c.toNat:Int) 2147483647)=true:=by simp[leB];omega
   have c1:=c9q σ (c.toNat:Int) n (by omega);have hup:=a2e (show i<=1000000000 by omega);simp only[a3B] at c1;rw[Sys.loop,show a4y.loops[0]?=some a5b from rfl];cases hi2:innC c with
   | true =>
    have hi3:c2d (c.toNat:Int)=true:=hi2;rw[hi3] at c1;have ih:=ih (i+1) (by omega) fuel;rw[a1f] at ih;simp only[Q0,a5b,↓reduceIte,a0j,a0e,a0f,a6q,c4x,a0m,BE.safe,BE.pe,IE.pe,PEnv.at,Q3,Q4,Q7,Qd,a0c,a0r,a0l,Q2,Q0,PEnv.push,Q6,Q5,Qa,SV.pvs,SV.pv,BE.all,Qb,Q8,Q9,is3,a3x,a0o,hd,le0,a9R hc,e32,a3B,c1,if_pos hup];rw[b4E hc hi2,show l.take i++c::(l.drop (i+1)).takeWhile innC=l.take (i+1)++(l.drop (i+1)).takeWhile innC by rw[QJ,hc];simp];exact ih
   | false =>
    have hi3:c2d (c.toNat:Int)=false:=hi2;rw[hi3] at c1;have hcc:(0:Int)<=0/\(0:Int)<=(i:Int)/\(i:Int)<=(l.length:Int):=by omega
    simp only[Q0,a5b,↓reduceIte,a0j,a0e,a0f,a6q,c4x,a0m,BE.safe,BE.pe,IE.pe,PEnv.at,Q3,Q4,Q7,Qd,Qe,Q1,a0c,a0r,a0l,Q2,Q0,PEnv.push,Q6,Q5,Qa,SV.pvs,SV.pv,BE.all,Qb,Q8,Q9,is3,a3x,a0o,hd,le0,a9R hc,e32,a3B,c1,a2i,a2h,if_pos hcc,a0g,or_true,Qy,b6O hc hi2,QH]
 have:=loop l.length 0 (by omega) (n-l.length-1);rw[show n-l.length-1+l.length+1=n by omega,Qg,Qe,Q5] at this;simp only[a0a,c4Y,Q0,Sys.run];show ((a0i [.sh (.one _),.sh (.one _),.sh (.one _)] _).bind _)=_;simp only[a0i,a0l,a0c,Q2,Q0,Qa,Q5,Q6,if_true,a1J,d2P];show (PT.ev _ b5x _).bind _=_;simp only[b5x,a0m,IE.pe,Q3,Q7,Qd,Q2,Q0,SV.pvs,SV.pv,BE.all,Q8,Q9];exact this
def a4G(l:List UInt8):Bool:=decide (1<=l.length)&&(decide (l.length<=12)&&(a6B (PV.sAt (.str l) 0)&&l.all innC))
theorem b0e{α:Type}(p:α->Bool):∀l:List α,(l.takeWhile p=l)↔l.all p=true
 | []=>by simp
 | a::l=>by
  have ih:=b0e p l;rw[QN];cases h:p a<;>simp[h,ih]
theorem c4t(σ:List MO)(l:List UInt8)(n:Nat)(hn:30<=n):a0a Tab n b0O [.str l] σ=some (.bool (a4G l),σ):=by
 obtain⟨n,rfl⟩:∃k,n=k+1:=⟨n-1,by omega⟩;simp only[a0a,c2k,Q0,Sys.run];show ((a0i [.sh (.one _)] _).bind _)=_;simp only[a0i,a0l,a0c,Q2,Qa,];show (PT.ev _ b1i _).bind _=_;simp only[b1i,↓reduceIte,a0j,a0e,a0f,a0K,BE.safe,BE.pe,IE.pe,PEnv.at,Q3,Q4,Q7,a0c,a0r,a0l,Q2,Q0,PEnv.push,Q6,Q5,SV.pvs,SV.pv,Qb,is3,c9W,a3x];cases l with
 | nil=>simp only[↓reduceIte,Qh,Q1,Q2,Q0,Qp,decide_true,Qp,a0g,or_true,a4G];rfl
 | cons c l =>
  have h0:decide (c::l=[])=false:=by simp
  have hlen:decide (1<=(c::l).length)=true:=by simp
  have hp:ltB 0 ((c::l).length:Int)=true:=by rw[a0W];simp
  have sa:PV.sAt (.str (c::l)) 0=(c.toNat:Int):=rfl;rw[h0];unfold a4G;rw[hlen,Qq,sa];generalize hl:c::l=L at *
  by_cases h12:L.length<=12
  ·have h1:leB (L.length:Int) 12=true:=by rw[a2L];omega
   have hu:=c7W c;have e32:(leB (-2147483648) (c.toNat:Int)&&leB (c.toNat:Int) 2147483647)=true:=by simp[leB];omega
   have c1:=c3o σ (c.toNat:Int) n (by omega);have c2:=d2d σ L h12 n (by omega);simp only[b0K,c1g,a3B] at c1 c2;rw[dT0 h12];cases hlo:a6B (c.toNat:Int) with
   | false =>
    rw[hlo] at c1;simp only[↓reduceIte,Q3,Q1,a0c,Q2,Q0,Qn,h1,hp,e32,c1,a0g,or_true,Qq,Qs]
   | true =>
    rw[hlo] at c1;simp only[↓reduceIte,Q3,Q1,a0c,Q2,Q0,Q5,Qn,is3,h1,hp,e32,c1,c2,a1J,a9b,a0g,or_true,Qq];rw[show decide (L.takeWhile innC=L)=L.all innC by rw[QB,decide_eq_true_iff];exact b0e _ _]
  ·have h1:leB (L.length:Int) 12=false:=by rw[a9U];omega
   rw[dF0 h12];simp only[↓reduceIte,Q1,Q2,Q0,Qn,h1,a0g,or_true,Qs]
theorem c9Y(σ:List MO)(l:List UInt8)(n:Nat)(hn:30<=n):a0a Tab n a9l [.str l] σ=some (.bool (a4G l),σ):=by
 obtain⟨n,rfl⟩:∃k,n=k+1:=⟨n-1,by omega⟩;simp only[a0a,b3g,Q0,Sys.run];show ((a0i [.sh (.one _)] _).bind _)=_;simp only[a0i,a0l,a0c,Q2,Qa,];show (PT.ev _ a4E _).bind _=_;simp only[a4E,↓reduceIte,a0j,a0e,a0f,a0m,BE.safe,BE.pe,IE.pe,PEnv.at,Q3,Q7,Q2,Q0,SV.pvs,SV.pv,BE.all,Q8,Q9,is3,a3x];by_cases h0:l.length<1
 ·have h1:ltB (l.length:Int) 1=true:=by rw[a0W];omega
  simp only[↓reduceIte,Q1,Q2,Q0,h1,a0g,or_true,a4G];rw[dF0 (by omega)];rfl
 have h1:ltB (l.length:Int) 1=false:=by rw[a0p];omega
 by_cases h12:12<l.length
 ·have h2:ltB 12 (l.length:Int)=true:=by rw[a0W];omega
  simp only[↓reduceIte,Q1,Q2,Q0,h1,h2,a0g,or_true,a4G];rw[dF0 (by omega:¬l.length<=12),Qs,QK]
 have h2:ltB 12 (l.length:Int)=false:=by rw[a0p];omega
 simp only[↓reduceIte,Q1,Q0,h1,h2]
 have loop:∀d i,i+d=l.length->∀fuel,a1x.loop (a0a Tab n) (fuel+d+1) 0 {i:=[(i:Int)],b:=[],v:=[.str l],m:=σ,k:=σ.length}=some (.bool ((decide (1<=i)||a6B (PV.sAt (.str l) 0))&&(l.drop i).all innC),σ):=by
  intro d
  induction d with
  | zero =>
   intro i hi fuel;rw[Qm] at hi;subst hi;have hd:decide (l.length<l.length)=false:=by simp
   rw[Sys.loop,show a1x.loops[0]?=some a2f from rfl,Qw,dT0 (by omega:1<=l.length)];simp only[Q0,a2f,↓reduceIte,a0j,a0e,a0f,BE.safe,BE.pe,IE.pe,PEnv.at,Q3,Q1,Q2,Q0,SV.pv,Qb,is3,a3x,a0o,hd,a0g,or_true,Qu,List.all_nil]
  | succ d ih =>
   intro i hi fuel;have hlt:i<l.length:=by omega
   obtain⟨c,hc⟩:=a0S hlt;have hd:decide (i<l.length)=true:=dT0 hlt;have hup:=a2e (show i<=1000000000 by omega);have ih:=ih (i+1) (by omega) fuel;rw[a1f,dT0 (by omega:1<=i+1),Qu,Qq] at ih;rw[a5j hc,List.all_cons,Sys.loop,show a1x.loops[0]?=some a2f from rfl];have hz:eqB (i:Int) 0=decide (i=0):=by rw[QB,decide_eq_true_iff,c1J];omega
   have hA:PV.sAt (.str l) 0=PV.sAt (.str l) ((0:Nat):Int):=rfl;rw[hA];simp only[Q0,a2f,↓reduceIte,a0j,a0e,a0f,a0m,BE.safe,BE.pe,IE.pe,PEnv.at,Q3,Q7,Q2,Q0,SV.pvs,SV.pv,BE.all,Qb,Q8,Q9,is3,a3x,a0o,hd,le0,a9R hc,hz,innC,c2d,b8g];by_cases h0:i=0
   ·subst h0
    rw[a9R hc,show decide (1<=0)=false from rfl,Qt];generalize (Qv (0+1) l).all innC=rest at *
    cases g1:leB 97 (c.toNat:Int) with
    | false =>
     simp only[a6B,g1,↓reduceIte,Q1,Q2,Q0,decide_true,a0g,or_true,Qs]
    | true =>
     cases g2:leB (c.toNat:Int) 122 with
     | false=>simp only[a6B,g1,g2,↓reduceIte,Q1,Q2,Q0,Qn,decide_true,a0g,or_true,Qs,Qq]
     | true =>
      simp only[a6B,g1,g2,↓reduceIte,Q1,Q0,Qb,Qp,if_pos hup,Qq,Qu];exact ih
   ·rw[dF0 h0,dT0 (by omega:1<=i),Qu,Qq]
    generalize (Qv (i+1) l).all innC=rest at *
    have n57:ltB 57 (c.toNat:Int)=!leB (c.toNat:Int) 57:=by
     rw[QB,a0W,QV,a9U];omega
    have n48:ltB (c.toNat:Int) 48=!leB 48 (c.toNat:Int):=by
     rw[QB,a0W,QV,a9U];omega
    simp only[a6B]
    cases g1:leB 97 (c.toNat:Int)<;>cases g2:leB (c.toNat:Int) 122<;>cases g3:eqB (c.toNat:Int) 95<;>cases g4:leB 48 (c.toNat:Int)<;>cases g5:leB (c.toNat:Int) 57 <;>
     simp only[n57,n48,g4,g5,↓reduceIte,Q1,Q2,Q0,Qb,Qp,Qn,if_pos hup,a0g,or_true,Qq,Qs,QK,Bool.and_true,Qu,Bool.or_true,Qt] <;>
     exact ih
 have:=loop l.length 0 (by omega) (n-l.length-1);rw[show n-l.length-1+l.length+1=n by omega,Qe,show decide (1<=0)=false from rfl,Qt] at this;unfold a4G;rw[dT0 (by omega:1<=l.length),dT0 (by omega:l.length<=12),Qq,Qq];exact this
theorem a3W{l:List Pr}{i:Nat}{x:Pr}(h:l[i]?=some x):(l.map Pr.row)[i]?=some x.row:=by simp[h]
def Pr.rng(x:Pr):Prop:=1<=x.s/\x.s<=4/\0<=x.r/\x.r<=1000000/\0<=x.p/\x.p<=1000/\0<=x.g/\x.g<=4
instance (x:Pr):Decidable x.rng:=by unfold Pr.rng;infer_instance
def a5u(before:List Pr)(x:Pr):Int:=if a4G x.nm=true then(if (before.any fun y=>decide (y.nm=x.nm))=true then 7 else if x.rng then 0 else 4) else 5
def a2l(ps:List Pr):Int:=ps.foldl (fun n x=>n*(x.s+1)) 1
def c8p(ps:List Pr):Int:=if ltB 1024 (a2l ps)=true then 12 else 0
def pgo(ps:List Pr):Nat->Nat->Int
 | 0,_=>c8p ps
 | d+1,i=>match ps[i]? with
  | some x=>if a5u (ps.take i) x=0 then pgo ps d (i+1) else a5u (ps.take i) x
  | none=>0
def b1e(ps:List Pr):Int:=if eqB (ps.length:Int) 0=true then 1 else if ltB 6 (ps.length:Int)=true then 3 else pgo ps ps.length 0
theorem b1q(σ:List MO)(z a b:Int)(n:Nat)(hn:1<=n):a0a Tab n b1X [.int .i64 z,.int .i64 a,.int .i64 b] σ=some (.bool (leB a z&&leB z b),σ):=by
 obtain⟨n,rfl⟩:∃k,n=k+1:=⟨n-1,by omega⟩;simp only[a0a,b8H,Q0,Sys.run];show ((a0i [.sh (.one _),.sh (.one _),.sh (.one _)] _).bind _)=_;simp only[a0i,a0l,a0c,Q2,Q0,Qa,Q5,Q6,if_true];show (PT.ev _ a8U _).bind _=_;simp only[a8U,↓reduceIte,a0j,a0e,BE.safe,BE.pe,IE.pe,Q3,Q4,Q0,SV.pv,];cases leB a z<;>simp only[↓reduceIte,Q1,Q2,Q0,a0g,or_true,Qq,Qs]
theorem d0P(σ:List MO)(l:List Pr)(P:PV)(hP:P.rowsOf 5=some (l.map Pr.row))(hl:l.length<=1000000)(nm:List UInt8)(n:Nat)(hn:l.length+2<=n) :
  ∃k:Int,a0a Tab n b6A [P,.str nm] σ=some (.tup [.int .i64 k,.bool (l.any fun x=>decide (x.nm=nm))],σ):=by
 obtain⟨n,rfl⟩:∃k,n=k+1:=⟨n-1,by omega⟩;obtain⟨p1,p2,p3⟩:=a0d hP;rw[Qk] at p1
 have loop:∀d i,i+d=l.length->∃k:Int,∀fuel,a2A.loop (a0a Tab n) (fuel+d+1) 0 {i:=[(l.length:Int),(i:Int)],b:=[],v:=[.str nm,P],m:=σ,k:=σ.length}=some (.tup [.int .i64 k,.bool ((l.drop i).any fun x=>decide (x.nm=nm))],σ):=by
  intro d
  induction d with
  | zero =>
   intro i hi;rw[Qm] at hi;subst hi;refine⟨0,fun fuel=>?_⟩;have hd:decide (l.length<l.length)=false:=by simp
   rw[Sys.loop,show a2A.loops[0]?=some a2O from rfl,Qw];simp only[Q0,a2O,↓reduceIte,a0j,a0e,BE.safe,BE.pe,IE.pe,Q3,Q4,Q1,Q2,Q0,SV.pvs,SV.pv,a0o,hd,a0g,or_true,Qz]
  | succ d ih =>
   intro i hi;have hlt:i<l.length:=by omega
   obtain⟨x,hx⟩:=a0S hlt;have hd:decide (i<l.length)=true:=dT0 hlt;have h0:=a0z (off:=0) hP (a3W hx);have hup:=a2e (show i<=1000000000 by omega);rw[a5j hx,QL];by_cases hn:x.nm=nm
   ·refine⟨i,fun fuel=>?_⟩
    rw[dT0 hn,Qu,Sys.loop,show a2A.loops[0]?=some a2O from rfl];simp only[Q0,a2O,↓reduceIte,a0j,a0e,a0f,a0V,a0m,BE.safe,BE.pe,IE.pe,PEnv.at,Q3,Q4,Q7,Qd,a0y,a0b,a1d,Qe,Qf,Qh,Nat.reduceAdd,Qr,Q1,Qj,Qg,a0c,Q2,Q0,PEnv.push,Q6,Q5,SV.pvs,SV.pv,BE.all,Qb,Q8,Q9,p1,a0o,hd,le0,h0,a5c,a1J,is3,a9b,dT0 hn,a0g,or_true]
   ·obtain⟨k,ih⟩:=ih (i+1) (by omega)
    refine⟨k,fun fuel=>?_⟩;have ih:=ih fuel;rw[a1f] at ih;rw[dF0 hn,Qt,Sys.loop,show a2A.loops[0]?=some a2O from rfl];simp only[Q0,a2O,↓reduceIte,a0j,a0e,a0f,a0V,a0m,BE.safe,BE.pe,IE.pe,PEnv.at,Q3,Q4,Q7,Qd,a0y,a0b,a1d,Qe,Qf,Qh,Nat.reduceAdd,Qr,Q1,Qj,Qg,a0c,Q2,Q0,PEnv.push,Q6,Q5,SV.pvs,SV.pv,BE.all,Qb,Q8,Q9,p1,a0o,hd,le0,h0,a5c,a1J,is3,a9b,dF0 hn,if_pos hup];exact ih
 obtain⟨k,hk⟩:=loop l.length 0 (by omega);have:=hk (n-l.length-1);rw[show n-l.length-1+l.length+1=n by omega,Qe] at this;refine⟨k,?_⟩;simp only[a0a,c2e,Q0,Sys.run];show ((a0i [.sh (.one _),.sh (.one _)] _).bind _)=_;simp only[a0i,a0l,a0c,Q2,Q0,Qa,Q5,Q6,if_true,p3,a1J];show (PT.ev _ b0Z _).bind _=_;simp only[b0Z,↓reduceIte,a0f,a0m,BE.safe,BE.pe,IE.pe,PEnv.at,Q3,Q7,Qd,Q2,Q0,SV.pvs,SV.pv,BE.all,Q8,Q9,p1,p2];exact this
def a4K(l:List Pr):W6:=⟨((l.map Pr.s)[0]?).getD 0,((l.map Pr.s)[1]?).getD 0,((l.map Pr.s)[2]?).getD 0,((l.map Pr.s)[3]?).getD 0,((l.map Pr.s)[4]?).getD 0,((l.map Pr.s)[5]?).getD 0⟩
def c0l(P:PV)(σ:List MO)(N i:Nat)(w:W6):PEnv:={i:=[(N:Int),(i:Int),w.a,w.b,w.c,w.d,w.e,w.f],b:=[],v:=[P],m:=σ,k:=σ.length}
theorem c8D(σ:List MO)(l:List Pr)(P:PV)(hP:P.rowsOf 5=some (l.map Pr.row))(hl:l.length<=6)(n:Nat)(hn:10<=n):a0a Tab n b2Y [P] σ=some (.agg (a4K l).pv,σ):=by
 obtain⟨n,rfl⟩:∃k,n=k+1:=⟨n-1,by omega⟩;obtain⟨p1,p2,p3⟩:=a0d hP;rw[Qk] at p1
 have step:∀i x,l[i]?=some x->∀fuel (w:W6),a1y.loop (a0a Tab n) (fuel+1) 0 (c0l P σ l.length i w)=a1y.loop (a0a Tab n) fuel 0 (c0l P σ l.length (i+1) (match i with|0=>{w with a:=x.s}|1=>{w with b:=x.s}|2=>{w with c:=x.s}|3=>{w with d:=x.s}|4=>{w with e:=x.s}|_=>{w with f:=x.s})):=by
  intro i x hx fuel w;have hlt:i<l.length:=(QP.1 hx).1;have hd:decide (i<l.length)=true:=dT0 hlt;have h0:=a0z (off:=0) hP (a3W hx);rw[Sys.loop,show a1y.loops[0]?=some a3G from rfl];simp only[c0l];simp only[Q0,a3G,↓reduceIte,a0e,a0f,a0V,a0m,BE.safe,BE.pe,IE.pe,PEnv.at,Q3,Q4,Q7,a0y,a0b,a1d,Qe,Qf,Qh,Nat.reduceAdd,Qr,Q1,Qj,Qg,a0c,Q2,Q0,PEnv.push,Q6,Q5,SV.pvs,SV.pv,BE.all,Qb,Q8,Q9,p1,a0o,hd,le0,h0,a5c,a1J];obtain rfl|rfl|rfl|rfl|rfl|rfl:i=0\/i=1\/i=2\/i=3\/i=4\/i=5:=by omega
  all_goals rfl
 have fin:∀fuel (w:W6),a1y.loop (a0a Tab n) (fuel+1) 0 (c0l P σ l.length l.length w)=some (.agg w.pv,σ):=by
  intro fuel w;have hd:decide (l.length<l.length)=false:=by simp
  rw[Sys.loop,show a1y.loops[0]?=some a3G from rfl];simp only[c0l];simp only[Q0,a3G,↓reduceIte,a0j,a0e,BE.safe,BE.pe,IE.pe,Q3,Q4,Q1,Q2,Q0,SV.pvs,SV.pv,a0o,hd,a0g,or_true,W6.pv]
 have key:a1y.loop (a0a Tab n) n 0 (c0l P σ l.length 0 ⟨0,0,0,0,0,0⟩)=some (.agg (a4K l).pv,σ):=by
  obtain⟨m,rfl⟩:∃m,n=m+7:=⟨n-7,by omega⟩;have g:∀k,k<l.length->∃x,l[k]?=some x:=fun k hk=>a0S hk
  rcases l with _|⟨a,_|⟨b,_|⟨c,_|⟨d,_|⟨e,_|⟨f,_|⟨z,r⟩⟩⟩⟩⟩⟩⟩
  ·exact fin _ _
  ·rw[step 0 a rfl];exact fin _ _
  ·rw[step 0 a rfl,step 1 b rfl];exact fin _ _
  ·rw[step 0 a rfl,step 1 b rfl,step 2 c rfl];exact fin _ _
  ·rw[step 0 a rfl,step 1 b rfl,step 2 c rfl,step 3 d rfl];exact fin _ _
  ·rw[step 0 a rfl,step 1 b rfl,step 2 c rfl,step 3 d rfl,step 4 e rfl];exact fin _ _
  ·rw[step 0 a rfl,step 1 b rfl,step 2 c rfl,step 3 d rfl,step 4 e rfl,step 5 f rfl];exact fin _ _
  ·simp at hl
 simp only[a0a,b9N,Q0,Sys.run];show ((a0i [.sh (.one _)] _).bind _)=_;simp only[a0i,a0l,a0c,Q2,Q0,Qa,if_true,p3];show (PT.ev _ a9E _).bind _=_;simp only[a9E,↓reduceIte,a0f,a0m,BE.safe,BE.pe,IE.pe,PEnv.at,Q3,Q7,Q2,Q0,SV.pvs,SV.pv,BE.all,Q8,Q9,p1,p2];exact key
def c5M(w:W6):Int:=if eqB (b5t w) 0=true then(let p:=((((((1*(w.a+1))*(w.b+1))*(w.c+1))*(w.d+1))*(w.e+1))*(w.f+1));if ltB 1024 p=true then 0 else p) else 0
theorem b0V{x y b:Int}(h1:1<=x)(h2:x<=b)(h3:1<=y)(h4:y<=5):1<=x*y/\x*y<=b*5:=by
 constructor
 ·calc (1:Int)=1*1:=rfl
   _<=x*y:=QD h1 h3 (by omega) (by omega)
 ·exact QD h2 h4 (by omega) (by omega)
theorem c9S(σ:List MO)(w:W6)(n:Nat)(hn:2<=n):a0a Tab n b5U [.agg w.pv] σ=some (.int .i64 (c5M w),σ):=by
 obtain⟨n,rfl⟩:∃k,n=k+1:=⟨n-1,by omega⟩;have c1:=c1y σ w n (by omega);simp only[b5T,W6.pv] at c1;simp only[a0a,c2c,Q0,Sys.run,W6.pv];show ((a0i [.sh (.agg [_,_,_,_,_,_])] _).bind _)=_;simp only[a0i,a0l,a0c,Q2,Q0,Qa,if_true];show (PT.ev _ b0X _).bind _=_;simp only[b0X,↓reduceIte,a0j,a0e,a0f,a0K,BE.safe,BE.pe,IE.pe,Q3,Q4,a0c,a0r,a0l,Q2,Q0,PEnv.push,Q6,Q5,SV.pvs,SV.pv,Qb,c1];by_cases hw:w.ok
 case neg =>
  have hb:eqB (b5t w) 0=false:=by unfold b5t;rw[if_neg hw];rfl
  simp only[↓reduceIte,Q1,Q2,Q0,Qn,hb,a0g,or_true,c5M]
 have hb:eqB (b5t w) 0=true:=by unfold b5t;rw[if_pos hw];rfl
 obtain⟨a,b,c,d,e,f⟩:=w;have hw':=hw;simp only[W6.ok] at hw;simp only[↓reduceIte,Q1,Q2,Qp,hb,a0g,or_true,c5M];obtain⟨q1,q2⟩:=b0V (x:=1) (y:=a+1) (b:=1) (by omega) (by omega) (by omega) (by omega);generalize 1*(a+1)=x1 at *
 obtain⟨q3,q4⟩:=b0V (x:=x1) (y:=b+1) q1 q2 (by omega) (by omega);generalize x1*(b+1)=x2 at *
 obtain⟨q5,q6⟩:=b0V (x:=x2) (y:=c+1) q3 q4 (by omega) (by omega);generalize x2*(c+1)=x3 at *
 obtain⟨q7,q8⟩:=b0V (x:=x3) (y:=d+1) q5 q6 (by omega) (by omega);generalize x3*(d+1)=x4 at *
 obtain⟨q9,q10⟩:=b0V (x:=x4) (y:=e+1) q7 q8 (by omega) (by omega);generalize x4*(e+1)=x5 at *
 obtain⟨q11,q12⟩:=b0V (x:=x5) (y:=f+1) q9 q10 (by omega) (by omega);generalize x5*(f+1)=x6 at *
 repeat rw[if_pos (c2J (by omega))]
 cases ltB 1024 x6<;>simp only[↓reduceIte,Q1,Q0,]
theorem d0n{l:List Pr}(hl:l.length<=6)(hr:∀x∈l,x.rng):eqB (c5M (a4K l)) 0=ltB 1024 (a2l l):=by
 have hw:(a4K l).ok:=by
  have g:∀i:Nat,0<=((l.map Pr.s)[i]?).getD 0/\((l.map Pr.s)[i]?).getD 0<=4:=by
   intro i;cases h:(l.map Pr.s)[i]? with
   | none=>simp
   | some z =>
    have:=QQ h;obtain⟨x,hx,rfl⟩:=List.mem_map.1 this;have:=hr x hx;simp only[Pr.rng] at this;simp only[Option.getD_some];omega
  exact⟨(g 0).1,(g 0).2,(g 1).1,(g 1).2,(g 2).1,(g 2).2,(g 3).1,(g 3).2,(g 4).1,(g 4).2,(g 5).1,(g 5).2⟩
 have hb:eqB (b5t (a4K l)) 0=true:=by unfold b5t;rw[if_pos hw];rfl
 have hp:((((((1*((a4K l).a+1))*((a4K l).b+1))*((a4K l).c+1))*((a4K l).d+1))*((a4K l).e+1))*((a4K l).f+1))=a2l l:=by
  match l,hl with
  | [],_=>rfl
  | [a],_=>simp[a4K,a2l]
  | [a,b],_=>simp[a4K,a2l]
  | [a,b,c],_=>simp[a4K,a2l]
  | [a,b,c,d],_=>simp[a4K,a2l]
  | [a,b,c,d,e],_=>simp[a4K,a2l]
  | [a,b,c,d,e,f],_=>simp[a4K,a2l]
 have hpos:1<=a2l l:=by
  rw[<- hp];simp only[W6.ok] at hw
  have m:∀{x y:Int},1<=x->1<=y->1<=x*y:=fun h1 h2=>by
   calc (1:Int)=1*1:=rfl
    _<=_:=QD h1 h2 (by omega) (by omega)
  exact m (m (m (m (m (m (by omega) (by omega)) (by omega)) (by omega)) (by omega)) (by omega)) (by omega)
 unfold c5M;rw[if_pos hb];simp only[hp];cases h:ltB 1024 (a2l l) with
 | true=>simp[eqB]
 | false=>simp[eqB];omega
theorem d2B{l:List Pr}{i:Nat}(h:i<=l.length):(0:Int)<=0/\(0:Int)<=(i:Int)/\(i:Int)<=((l.map Pr.row).length:Int):=by rw[Qk];omega
theorem c6P(σ:List MO)(l:List Pr)(P:PV)(hP:P.rowsOf 5=some (l.map Pr.row))(n:Nat)(hn:50<=n):a0a Tab n b4n [P] σ=some (.int .i64 (b1e l),σ):=by
 obtain⟨n,rfl⟩:∃k,n=k+1:=⟨n-1,by omega⟩;obtain⟨p1,p2,p3⟩:=a0d hP;rw[Qk] at p1;simp only[a0a,c0x,Q0,Sys.run];show ((a0i [.sh (.one _)] _).bind _)=_;simp only[a0i,a0l,a0c,Q2,Q0,Qa,if_true,p3];show (PT.ev _ b0l _).bind _=_;simp only[b0l,↓reduceIte,a0j,a0e,a0f,a0m,BE.safe,BE.pe,IE.pe,PEnv.at,Q3,Q7,Q2,Q0,SV.pvs,SV.pv,BE.all,Q8,Q9,p1,p2,b1e];cases h0:eqB (l.length:Int) 0 with
 | true=>simp only[↓reduceIte,Q1,Q2,Q0,a0g,or_true]
 | false =>
 cases h6:ltB 6 (l.length:Int) with
 | true=>simp only[↓reduceIte,Q1,Q2,Q0,a0g,or_true]
 | false =>
 rw[a0p] at h6
 have loop:∀d i,i+d=l.length->(∀x∈l.take i,x.rng)->∀fuel,a2J.loop (a0a Tab n) (fuel+d+1) 0 {i:=[(l.length:Int),(i:Int)],b:=[],v:=[P],m:=σ,k:=σ.length}=some (.int .i64 (pgo l d i),σ):=by
  intro d
  induction d with
  | zero =>
   intro i hi hr fuel;rw[Qm] at hi;subst hi;have hd:decide (l.length<l.length)=false:=by simp
   have c1:=c8D σ l P hP (by omega) n (by omega);have c2:=c9S σ (a4K l) n (by omega);have c3:=d0n (l:=l) (by omega) (by rwa [b2F] at hr);simp only[b2Y,b5U,W6.pv] at c1 c2;rw[Sys.loop,show a2J.loops[0]?=some a3X from rfl];simp only[Q0,a3X,↓reduceIte,a0j,a0e,a0K,BE.safe,BE.pe,IE.pe,Q3,Q4,Q7,Q1,a0c,a0r,a0l,Q2,Q0,PEnv.push,Q6,Q5,SV.pvs,SV.pv,a0o,hd,c1,c2,c3,pgo,c8p];cases ltB 1024 (a2l l)<;>simp only[↓reduceIte,Q1,Q2,Q0,a0g,or_true]
  | succ d ih =>
   intro i hi hr fuel;have hlt:i<l.length:=by omega
   obtain⟨x,hx⟩:=a0S hlt;have hd:decide (i<l.length)=true:=dT0 hlt;have hq:=a0z (off:=0) hP (a3W hx);have hup:=a2e (show i<=1000000000 by omega);have c1:=c4t σ x.nm n (by omega);have hcut:((((l.map Pr.row).take (i:Int).toNat).drop (0:Int).toNat))=(l.take i).map Pr.row:=by simp[QM]
   obtain⟨k,c2⟩:=d0P σ (l.take i) (.sl 5 ((l.take i).map Pr.row)) (a1K _ _) (by simp;omega) x.nm n (by simp;omega);have b1:=b1q σ x.s 1 4 n (by omega);have b2:=b1q σ x.r 0 1000000 n (by omega);have b3:=b1q σ x.p 0 1000 n (by omega);have b4:=b1q σ x.g 0 4 n (by omega);simp only[b0O,b6A,b1X] at c1 c2 b1 b2 b3 b4;rw[pgo,hx,Sys.loop,show a2J.loops[0]?=some a3X from rfl];have hc:=d2B (l:=l) (i:=i) (by omega);simp only[Q0,a3X,↓reduceIte,a0j,a0e,a0f,a0V,b6J,a0K,a0m,BE.safe,BE.pe,IE.pe,PEnv.at,Q3,Q4,Q7,Qd,a0y,a0b,a1d,Qe,Qf,Qh,Nat.reduceAdd,Qr,Q1,Qj,Qg,a0c,a0r,a0l,Q2,Q0,PEnv.push,Q6,Q5,SV.pvs,SV.pv,BE.all,Qb,Q8,Q9,p1,a0o,hd,le0,hq,a5c,a1J,c1,hP,a2i,a2h,if_pos hc,hcut];have h50:¬((5:Int)=0):=by decide
   have h70:¬((7:Int)=0):=by decide
   have h40:¬((4:Int)=0):=by decide
   cases hnm:a4G x.nm with
   | false =>
    have hp:a5u (l.take i) x=5:=by unfold a5u;rw[hnm];rfl
    rw[hp,if_neg h50];simp only[↓reduceIte,Q1,Q2,Q0,Qn,a0g,or_true]
   | true =>
    simp only[↓reduceIte,Q3,Q4,Q1,a0c,a0l,Q2,Q0,Q6,Q5,Qa,Qp,a2c,c2];cases hany:((l.take i).any fun y=>decide (y.nm=x.nm)) with
    | true =>
     have hp:a5u (l.take i) x=7:=by unfold a5u;rw[hnm,hany];rfl
     rw[hp,if_neg h70];simp only[↓reduceIte,Q1,Q2,Q0,a0g,or_true]
    | false =>
     simp only[↓reduceIte,Q3,Q4,Q1,a0c,Q2,Q0,Q6,Q5,b1];by_cases hrng:x.rng
     ·have ih:=ih (i+1) (by omega) (by
       intro y hy;rw[QJ,hx] at hy;simp only[QW,QX,QY] at hy;rcases hy with hy|rfl
       ·exact hr y hy
       ·exact hrng) fuel
      rw[a1f] at ih;have hp:a5u (l.take i) x=0:=by unfold a5u;rw[hnm,hany,if_pos hrng];rfl
      rw[hp,if_pos rfl];simp only[Pr.rng] at hrng;have e1:(leB 1 x.s&&leB x.s 4)=true:=by simp[leB];omega
      have e2:(leB 0 x.r&&leB x.r 1000000)=true:=by simp[leB];omega
      have e3:(leB 0 x.p&&leB x.p 1000)=true:=by simp[leB];omega
      have e4:(leB 0 x.g&&leB x.g 4)=true:=by simp[leB];omega
      rw[e1];rw[e2] at b2;rw[e3] at b3;rw[e4] at b4;simp only[↓reduceIte,Q3,Q4,Q1,a0c,Q2,Q0,Q6,Q5,Qa,Qp,b2,b3,b4,if_pos hup];exact ih
     ·have hp:a5u (l.take i) x=4:=by unfold a5u;rw[hnm,hany,if_neg hrng];rfl
      rw[hp,if_neg h40];cases e1:(leB 1 x.s&&leB x.s 4) with
      | false=>simp only[↓reduceIte,Q1,Q2,Q0,Qn,a0g,or_true]
      | true =>
      cases e2:(leB 0 x.r&&leB x.r 1000000) with
      | false=>rw[e2] at b2;simp only[↓reduceIte,Q3,Q1,a0c,Q2,Q0,Qp,Qn,b2,a0g,or_true]
      | true =>
      cases e3:(leB 0 x.p&&leB x.p 1000) with
      | false=>rw[e2] at b2;rw[e3] at b3;simp only[↓reduceIte,Q3,Q4,Q1,a0c,Q2,Q0,Q6,Q5,Qa,Qp,Qn,b2,b3,a0g,or_true]
      | true =>
      cases e4:(leB 0 x.g&&leB x.g 4) with
      | false=>rw[e2] at b2;rw[e3] at b3;rw[e4] at b4;simp only[↓reduceIte,Q3,Q4,Q1,a0c,Q2,Q0,Q6,Q5,Qp,Qn,b2,b3,b4,a0g,or_true]
      | true =>
       exfalso;apply hrng;simp only[QE,a2L] at e1 e2 e3 e4;simp only[Pr.rng];omega
 have:=loop l.length 0 (by omega) (by simp) (n-l.length-1);rw[show n-l.length-1+l.length+1=n by omega] at this;have h6':ltB 6 (l.length:Int)=false:=by rw[a0p];omega
 simp only[↓reduceIte,Q1,Q0,];exact this
theorem c7u{l:List Pr}(hr:∀x∈l,x.rng)(hl:l.length<=6):∀i,i<=l.length->1<=a2l (l.take i)/\a2l (l.take i)<=15625:=by
 have key:∀i,i<=l.length->1<=a2l (l.take i)/\a2l (l.take i)<=((5 ^ i:Nat):Int):=by
  intro i
  induction i with
  | zero=>intro _;simp[a2l]
  | succ i ih =>
   intro hi;obtain⟨h1,h2⟩:=ih (by omega);obtain⟨x,hx⟩:=a0S (show i<l.length by omega);have hxr:=hr x (QQ hx);simp only[Pr.rng] at hxr;have:a2l (l.take (i+1))=a2l (l.take i)*(x.s+1):=c3k _ _ hx;rw[this];obtain⟨h3,h4⟩:=b0V (x:=a2l (l.take i)) (y:=x.s+1) h1 h2 (by omega) (by omega);refine⟨h3,?_⟩;rw[Nat.pow_succ];omega
 intro i hi;obtain⟨h1,h2⟩:=key i hi;have:5 ^ i<=5 ^ 6:=Nat.pow_le_pow_right (by omega) (by omega);have h6:(5:Nat) ^ 6=15625:=by decide
 omega
section
variable (σ:List MO)(l:List Pr)(P:PV)(hP:P.rowsOf 5=some (l.map Pr.row))(hl:l.length<=6)(n:Nat)(hn:40<=n)
def b2V(σ:List MO)(P:PV)(is:List Int):PEnv:={i:=is,b:=[],v:=[P],m:=σ,k:=σ.length}
include hP hl in
theorem d1O(hr:∀x∈l,x.rng):∀d i,i+d=l.length->∀fuel,a0A.loop (a0a Tab n) (fuel+d+1) 2 (b2V σ P [a2l (l.take i),(i:Int)])=some (.int .i64 (c8p l),σ):=by
 obtain⟨p1,p2,p3⟩:=a0d hP;rw[Qk] at p1;intro d
 induction d with
 | zero =>
  intro i hi fuel;rw[Qm] at hi;subst hi;have hd:decide (l.length<l.length)=false:=by simp
  rw[b2F,Sys.loop,show a0A.loops[2]?=some a2q from rfl];simp only[Q0,b2V,a2q,↓reduceIte,a0j,a0e,a0f,BE.safe,BE.pe,IE.pe,PEnv.at,Q3,Q4,Q1,Q0,SV.pv,p1,p2,a0o,hd,c8p];cases ltB 1024 (a2l l)<;>simp only[↓reduceIte,Q1,Q2,Q0,a0g,or_true]
 | succ d ih =>
  intro i hi fuel;have hlt:i<l.length:=by omega
  obtain⟨x,hx⟩:=a0S hlt;have hd:decide (i<l.length)=true:=dT0 hlt;have hq:=a0z (off:=1) hP (a3W hx);have hup:=a2e (show i<=1000000000 by omega);have ih:=ih (i+1) (by omega) fuel;have hxr:=hr x (QQ hx);simp only[Pr.rng] at hxr;obtain⟨b1,b2⟩:=c7u hr hl i (by omega);obtain⟨b3,b4⟩:=c7u hr hl (i+1) (by omega);rw[a1f] at ih;rw[show a2l (l.take (i+1))=a2l (l.take i)*(x.s+1) from c3k _ _ hx] at b3 b4 ih;have dr:∀a b c d e:PV,Qv 1 [a,b,c,d,e]=[b,c,d,e]:=fun _ _ _ _ _=>rfl
  rw[show fuel+(d+1)+1=(fuel+d+1)+1 from rfl,Sys.loop,show a0A.loops[2]?=some a2q from rfl];simp only[Q0,b2V,a2q,↓reduceIte,a0e,a0f,a0V,a0m,BE.safe,BE.pe,IE.pe,PEnv.at,Q3,Q4,Q7,a0y,a0b,a1d,Qf,Qh,Nat.reduceAdd,Q1,Qj,Qg,a0c,Q2,Q0,PEnv.push,Q6,Q5,SV.pvs,SV.pv,BE.all,Qb,Q8,Q9,p1,p2,a0o,hd,le0,hq,a5c,dr,Nat.reduceLeDiff,if_pos (c2J (z:=x.s+1) (by omega)),if_pos (c2J (z:=a2l (l.take i)*(x.s+1)) (by omega)),if_pos hup];exact ih
include hP hl in
theorem d3o(i:Nat)(x:Pr)(hx:l[i]?=some x):∀d k,k+d=i->∀fuel,a0A.loop (a0a Tab n) (fuel+d+1) 1 (b2V σ P [(i:Int),(k:Int)])=if (((l.take i).drop k).any fun y=>decide (y.nm=x.nm))=true then some (.int .i64 7,σ) else if x.rng then a0A.loop (a0a Tab n) fuel 0 (b2V σ P [(i:Int)+1]) else some (.int .i64 4,σ):=by
 obtain⟨p1,p2,p3⟩:=a0d hP;rw[Qk] at p1;have hlt:i<l.length:=(QP.1 hx).1;have hd:decide (i<l.length)=true:=dT0 hlt;have hq:=a0z (off:=0) hP (a3W hx);have hup:=a2e (show i<=1000000000 by omega);have hlen:(l.take i).length=i:=by simp;omega
 intro d
 induction d with
 | zero =>
  intro k hk fuel;rw[Qm] at hk;subst hk;have hk:decide (k<k)=false:=by simp
  have he:(l.take k).drop k=[]:=QC (by omega);have hF:¬(false=true):=by simp
  rw[he,Qz,if_neg hF,Sys.loop,show a0A.loops[1]?=some a1M from rfl];simp only[Q0,b2V,a1M,↓reduceIte,a0j,a0e,a0f,a0V,a0m,BE.safe,BE.pe,IE.pe,PEnv.at,Q3,Q4,Q7,a0y,a0b,a1d,Qe,Qf,Qh,Nat.reduceAdd,Qr,Q1,Qj,Qg,a0c,Q2,Q0,PEnv.push,Q6,Q5,SV.pvs,SV.pv,BE.all,Qb,Q8,Q9,p1,a0o,hk,hd,le0,hq,a5c,a1J];by_cases hrng:x.rng
  ·rw[if_pos hrng]
   simp only[Pr.rng] at hrng;have e1:ltB x.s 1=false:=by rw[a0p];omega
   have e2:ltB 4 x.s=false:=by rw[a0p];omega
   have e3:ltB x.r 0=false:=by rw[a0p];omega
   have e4:ltB 1000000 x.r=false:=by rw[a0p];omega
   have e5:ltB x.p 0=false:=by rw[a0p];omega
   have e6:ltB 1000 x.p=false:=by rw[a0p];omega
   have e7:ltB x.g 0=false:=by rw[a0p];omega
   have e8:ltB 4 x.g=false:=by rw[a0p];omega
   simp only[↓reduceIte,Q1,Q0,e1,e2,e3,e4,e5,e6,e7,e8,if_pos hup]
  ·rw[if_neg hrng]
   cases e1:ltB x.s 1 with
   | true=>simp only[↓reduceIte,Q1,Q2,Q0,a0g,or_true]
   | false =>
   cases e2:ltB 4 x.s with
   | true=>simp only[↓reduceIte,Q1,Q2,Q0,a0g,or_true]
   | false =>
   cases e3:ltB x.r 0 with
   | true=>simp only[↓reduceIte,Q1,Q2,Q0,a0g,or_true]
   | false =>
   cases e4:ltB 1000000 x.r with
   | true=>simp only[↓reduceIte,Q1,Q2,Q0,a0g,or_true]
   | false =>
   cases e5:ltB x.p 0 with
   | true=>simp only[↓reduceIte,Q1,Q2,Q0,a0g,or_true]
   | false =>
   cases e6:ltB 1000 x.p with
   | true=>simp only[↓reduceIte,Q1,Q2,Q0,a0g,or_true]
   | false =>
   cases e7:ltB x.g 0 with
   | true=>simp only[↓reduceIte,Q1,Q2,Q0,a0g,or_true]
   | false =>
   cases e8:ltB 4 x.g with
   | true=>simp only[↓reduceIte,Q1,Q2,Q0,a0g,or_true]
   | false =>
    exfalso;apply hrng;simp only[a0p] at e1 e2 e3 e4 e5 e6 e7 e8;simp only[Pr.rng];omega
 | succ d ih =>
  intro k hk fuel;have hlk:k<l.length:=by omega
  obtain⟨y,hy⟩:=a0S hlk;have hki:decide (k<i)=true:=dT0 (by omega);have hkl:decide (k<l.length)=true:=dT0 hlk;have hq2:=a0z (off:=0) hP (a3W hy);have hup2:=a2e (show k<=1000000000 by omega);have hyt:(l.take i)[k]?=some y:=by rw[List.getElem?_take_of_lt (by omega)];exact hy
  rw[a5j hyt,QL,show fuel+(d+1)+1=(fuel+d+1)+1 from rfl,Sys.loop,show a0A.loops[1]?=some a1M from rfl];by_cases hn:y.nm=x.nm
  ·rw[dT0 hn,Qu,if_pos rfl]
   simp only[Q0,b2V,a1M,↓reduceIte,a0j,a0e,a0f,a0V,a0m,BE.safe,BE.pe,IE.pe,PEnv.at,Q3,Q4,Q7,a0y,a0b,a1d,Qe,Qf,Qh,Nat.reduceAdd,Q1,Qj,Qg,a0c,Q2,Q0,PEnv.push,Q6,Q5,SV.pvs,SV.pv,BE.all,Qb,Q8,Q9,p1,a0o,hki,hkl,hd,le0,hq,hq2,a5c,a1J,is3,a9b,dT0 hn,a0g,or_true,Nat.reduceLeDiff]
  ·have ih:=ih (k+1) (by omega) fuel
   rw[a1f] at ih;rw[dF0 hn,Qt,<- ih];simp only[Q0,b2V,a1M,↓reduceIte,a0j,a0e,a0f,a0V,a0m,BE.safe,BE.pe,IE.pe,PEnv.at,Q3,Q4,Q7,a0y,a0b,a1d,Qe,Qf,Qh,Nat.reduceAdd,Q1,Qj,Qg,a0c,Q2,Q0,PEnv.push,Q6,Q5,Qa,SV.pvs,SV.pv,BE.all,Qb,Q8,Q9,p1,a0o,hki,hkl,hd,le0,hq,hq2,a5c,a1J,is3,a9b,dF0 hn,if_pos hup2,Nat.reduceLeDiff]
include hP hl hn in
theorem d2O:∀d i,i+d=l.length->(∀x∈l.take i,x.rng)->∀fuel,8+d*8<=fuel->a0A.loop (a0a Tab n) fuel 0 (b2V σ P [(i:Int)])=some (.int .i64 (pgo l d i),σ):=by
 obtain⟨p1,p2,p3⟩:=a0d hP;rw[Qk] at p1;intro d
 induction d with
 | zero =>
  intro i hi hr fuel hf;rw[Qm] at hi;subst hi;have hd:decide (l.length<l.length)=false:=by simp
  obtain⟨fuel,rfl⟩:∃k,fuel=(k+l.length+1)+1:=⟨fuel-l.length-2,by omega⟩;have:=d1O σ l P hP hl n (by rwa [b2F] at hr) l.length 0 (by omega) fuel;rw[Qg,show a2l []=1 from rfl] at this;rw[pgo,Sys.loop,show a0A.loops[0]?=some a2y from rfl];simp only[Q0,b2V,a2y,↓reduceIte,a0e,a0f,a0m,BE.safe,BE.pe,IE.pe,PEnv.at,Q3,Q7,Q1,Q2,Q0,SV.pvs,SV.pv,BE.all,Q8,Q9,p1,p2,a0o,hd];exact this
 | succ d ih =>
  intro i hi hr fuel hf;have hlt:i<l.length:=by omega
  obtain⟨x,hx⟩:=a0S hlt;have hd:decide (i<l.length)=true:=dT0 hlt;have hq:=a0z (off:=0) hP (a3W hx);have c1:=c9Y σ x.nm n (by omega);simp only[a9l] at c1;obtain⟨fuel,rfl⟩:∃k,fuel=(k+i+1)+1:=⟨fuel-i-2,by omega⟩;have inn:=d3o σ l P hP hl n i x hx i 0 (by omega) fuel;rw[Qe] at inn;rw[pgo,hx,Sys.loop,show a0A.loops[0]?=some a2y from rfl];simp only[Q0,b2V,a2y,↓reduceIte,a0j,a0e,a0f,a0V,a0K,a0m,BE.safe,BE.pe,IE.pe,PEnv.at,Q3,Q7,Qd,a0y,a0b,a1d,Qe,Qf,Qh,Nat.reduceAdd,Q1,Qj,Qg,a0c,a0r,a0l,Q2,Q0,PEnv.push,Q6,Q5,SV.pvs,SV.pv,BE.all,Qb,Q8,Q9,p1,p2,a0o,hd,le0,hq,a5c,a1J,Nat.reduceLeDiff,c1];have h50:¬((5:Int)=0):=by decide
  have h70:¬((7:Int)=0):=by decide
  have h40:¬((4:Int)=0):=by decide
  cases hnm:a4G x.nm with
  | false =>
   have hp:a5u (l.take i) x=5:=by unfold a5u;rw[hnm];rfl
   rw[hp,if_neg h50];simp only[↓reduceIte,Q1,Q2,Q0,Qn,a0g,or_true]
  | true =>
   simp only[↓reduceIte,Q1,Q0,Qp,];refine inn.trans ?_;cases hany:((l.take i).any fun y=>decide (y.nm=x.nm)) with
   | true =>
    have hp:a5u (l.take i) x=7:=by unfold a5u;rw[hnm,hany];rfl
    rw[hp,if_neg h70,if_pos rfl]
   | false =>
    have hF:¬(false=true):=by simp
    rw[if_neg hF];by_cases hrng:x.rng
    ·have hp:a5u (l.take i) x=0:=by unfold a5u;rw[hnm,hany,if_pos hrng];rfl
     rw[hp,if_pos rfl,if_pos hrng]
     have:=ih (i+1) (by omega) (by
      intro y hy;rw[QJ,hx] at hy;simp only[QW,QX,QY] at hy;rcases hy with hy|rfl
      ·exact hr y hy
      ·exact hrng) fuel (by omega)
     rwa [a1f] at this
    ·have hp:a5u (l.take i) x=4:=by unfold a5u;rw[hnm,hany,if_neg hrng];rfl
     rw[hp,if_neg h40,if_neg hrng]
end
theorem c6q(σ:List MO)(l:List Pr)(P:PV)(hP:P.rowsOf 5=some (l.map Pr.row))(n:Nat)(hn:70<=n):a0a Tab n a9S [P] σ=some (.int .i64 (b1e l),σ):=by
 obtain⟨n,rfl⟩:∃k,n=k+1:=⟨n-1,by omega⟩;obtain⟨p1,p2,p3⟩:=a0d hP;rw[Qk] at p1;simp only[a0a,b3J,Q0,Sys.run];show ((a0i [.sh (.one _)] _).bind _)=_;simp only[a0i,a0l,a0c,Q2,Q0,Qa,if_true,p3];show (PT.ev _ a5d _).bind _=_;simp only[a5d,↓reduceIte,a0j,a0e,a0f,a0m,BE.safe,BE.pe,IE.pe,PEnv.at,Q3,Q7,Q2,Q0,SV.pvs,SV.pv,BE.all,Q8,Q9,p1,p2,b1e];cases h0:eqB (l.length:Int) 0 with
 | true=>simp only[↓reduceIte,Q1,Q2,Q0,a0g,or_true]
 | false =>
 cases h6:ltB 6 (l.length:Int) with
 | true=>simp only[↓reduceIte,Q1,Q2,Q0,a0g,or_true]
 | false =>
 have h6':=h6;rw[a0p] at h6;have:=d2O σ l P hP (by omega) n (by omega) l.length 0 (by omega) (by simp) n (by omega);simp only[↓reduceIte,Q1,Q0,];exact this
theorem c6p{ps:List Pr}:∀d i,i+d=ps.length->pgo ps d i=0->∀k x,i<=k->ps[k]?=some x->x.rng
 | 0,i,hi,_,k,x,hk,hx=>by have:=(QP.1 hx).1;omega
 | d+1,i,hi,h,k,x,hk,hx=>by
  obtain⟨y,hy⟩:=a0S (show i<ps.length by omega);rw[pgo,hy] at h;simp only at h;split at h
  ·rename_i hb
   by_cases hki:k=i
   ·subst hki
    rw[hx] at hy;cases hy;unfold a5u at hb;split at hb
    ·split at hb
     ·cases hb
     ·split at hb
      ·assumption
      ·cases hb
    ·cases hb
   ·exact c6p d (i+1) (by omega) h k x (by omega) hx
  ·rename_i hb;exact absurd h hb
theorem c4A{ps:List Pr}(h:b1e ps=0):ps.length<=6/\∀x∈ps,x.rng:=by
 unfold b1e at h;split at h
 ·cases h
 ·split at h
  ·cases h
  ·rename_i h6
   rw[Bool.not_eq_true,a0p] at h6;refine⟨by omega,fun x hx=>?_⟩;obtain⟨k,hk⟩:=List.mem_iff_getElem?.1 hx;exact c6p ps.length 0 (by omega) h k x (by omega) hk
def wl(w:W6):List Int:=[w.a,w.b,w.c,w.d,w.e,w.f]
def d5C(w:W6)(i:Nat):Int:=((wl w)[i]?).getD 0
def d6M(f:Pr->Int)(l:List Pr)(i:Nat):Int:=((l[i]?).map f).getD 0
def ptS(f:Pr->Int)(l:List Pr)(w:W6):Nat->Int
 | 0=>0
 | i+1=>ptS f l w i+d5C w i*d6M f l i
def d7f(l:List Pr)(w:W6):Int:=if eqB (b1e l) 0=true then(if eqB (b5t w) 0=true then ptS Pr.p l w l.length else 0) else 0
section
variable (σ:List MO)(l:List Pr)(P:PV)(hP:P.rowsOf 5=some (l.map Pr.row))(n:Nat)(w:W6)
end
def goL{α:Type}(f:List α->α->Int)(l:List α):Nat->Nat->Int
 | 0,_=>0
 | d+1,i=>match l[i]? with
  | some x=>if f (l.take i) x=0 then goL f l d (i+1) else f (l.take i) x
  | none=>0
theorem b2D{α:Type}{f:List α->α->Int}{l:List α}{i:Nat}{x:α}(h:l[i]?=some x)(d:Nat):goL f l (d+1) i=if f (l.take i) x=0 then goL f l d (i+1) else f (l.take i) x:=by rw[goL,h]
def Bd.rng(x:Bd):Prop:=0<=x.c/\x.c<=4/\0<=x.b/\x.b<=1000000/\0<=x.p/\x.p<=24000
instance (x:Bd):Decidable x.rng:=by unfold Bd.rng;infer_instance
def a5k(before:List Bd)(x:Bd):Int:=if a4G x.nm=true then(if (before.any fun y=>decide (y.nm=x.nm))=true then 7 else if x.rng then 0 else 4) else 5
def b3l(bs:List Bd):Int:=if eqB (bs.length:Int) 0=true then 1 else if ltB 8 (bs.length:Int)=true then 3 else goL a5k bs bs.length 0
def b0B(i:Nat):Option Nat->PV
 | some k=>.tup [.int .i64 ((i+k:Nat):Int),.bool true]
 | none=>.tup [.int .i64 0,.bool false]
theorem d2o(i:Nat)(o:Option Nat):b0B i (o.map (·+1))=b0B (i+1) o:=by
 cases o with
 | none=>rfl
 | some k=>simp only[Q2,b0B];rw[show i+(k+1)=i+1+k by omega]
theorem c3s{α:Type}(p:α->Bool){l:List α}{i:Nat}{x:α}(h:l[i]?=some x):(l.drop i).findIdx? p=if p x=true then some 0 else((l.drop (i+1)).findIdx? p).map (·+1):=by
 rw[a5j h,QS]
theorem c3a(σ:List MO)(l:List Bd)(P:PV)(hP:P.rowsOf 4=some (l.map Bd.row))(hl:l.length<=1000000)(nm:List UInt8)(n:Nat)(hn:l.length+2<=n) :
  a0a Tab n b8t [P,.str nm] σ=some (b0B 0 (l.findIdx? fun x=>decide (x.nm=nm)),σ):=by
 obtain⟨n,rfl⟩:∃k,n=k+1:=⟨n-1,by omega⟩;obtain⟨p1,p2,p3⟩:=a0d hP;rw[Qk] at p1
 have loop:∀d i,i+d=l.length->∀fuel,a2S.loop (a0a Tab n) (fuel+d+1) 0 {i:=[(l.length:Int),(i:Int)],b:=[],v:=[.str nm,P],m:=σ,k:=σ.length}=some (b0B i ((l.drop i).findIdx? fun x=>decide (x.nm=nm)),σ):=by
  intro d
  induction d with
  | zero =>
   intro i hi fuel;rw[Qm] at hi;subst hi;have hd:decide (l.length<l.length)=false:=by simp
   rw[Sys.loop,show a2S.loops[0]?=some a3c from rfl,Qw];simp only[Q0,a3c,↓reduceIte,a0j,a0e,BE.safe,BE.pe,IE.pe,Q3,Q4,Q1,Q2,Q0,SV.pvs,SV.pv,a0o,hd,a0g,or_true,QZ,b0B]
  | succ d ih =>
   intro i hi fuel;have hlt:i<l.length:=by omega
   obtain⟨x,hx⟩:=a0S hlt;have hd:decide (i<l.length)=true:=dT0 hlt;have h0:=a0z (off:=0) hP (a9I hx);have hup:=a2e (show i<=1000000000 by omega);rw[c3s _ hx];by_cases hn:x.nm=nm
   ·rw[dT0 hn,if_pos rfl,Sys.loop,show a2S.loops[0]?=some a3c from rfl]
    simp only[Q0,a3c,↓reduceIte,a0j,a0e,a0f,a0V,a0m,BE.safe,BE.pe,IE.pe,PEnv.at,Q3,Q4,Q7,Qd,a0y,a0b,a1d,Qm,Qe,Qf,Qh,Nat.reduceAdd,Qr,Q1,Qj,Qg,a0c,Q2,Q0,PEnv.push,Q6,Q5,SV.pvs,SV.pv,BE.all,Qb,Q8,Q9,p1,a0o,hd,le0,h0,b1w,a1J,is3,a9b,dT0 hn,a0g,or_true,b0B]
   ·have ih:=ih (i+1) (by omega) fuel
    rw[a1f] at ih;rw[dF0 hn,if_neg (by simp),d2o,Sys.loop,show a2S.loops[0]?=some a3c from rfl];simp only[Q0,a3c,↓reduceIte,a0j,a0e,a0f,a0V,a0m,BE.safe,BE.pe,IE.pe,PEnv.at,Q3,Q4,Q7,Qd,a0y,a0b,a1d,Qe,Qf,Qh,Nat.reduceAdd,Qr,Q1,Qj,Qg,a0c,Q2,Q0,PEnv.push,Q6,Q5,SV.pvs,SV.pv,BE.all,Qb,Q8,Q9,p1,a0o,hd,le0,h0,b1w,a1J,is3,a9b,dF0 hn,if_pos hup];exact ih
 have:=loop l.length 0 (by omega) (n-l.length-1);rw[show n-l.length-1+l.length+1=n by omega,Qe] at this;simp only[a0a,c2w,Q0,Sys.run];show ((a0i [.sh (.one _),.sh (.one _)] _).bind _)=_;simp only[a0i,a0l,a0c,Q2,Q0,Qa,Q5,Q6,if_true,p3,a1J];show (PT.ev _ b1Q _).bind _=_;simp only[b1Q,↓reduceIte,a0f,a0m,BE.safe,BE.pe,IE.pe,PEnv.at,Q3,Q7,Qd,Q2,Q0,SV.pvs,SV.pv,BE.all,Q8,Q9,p1,p2];exact this
theorem b5f(σ:List MO)(l:List Bd)(P:PV)(hP:P.rowsOf 4=some (l.map Bd.row))(hl:l.length<=1000000)(nm:List UInt8)(n:Nat)(hn:l.length+2<=n) :
  a0a Tab n b0h [P,.str nm] σ=some (b0B 0 (l.findIdx? fun x=>decide (x.nm=nm)),σ):=by
 obtain⟨n,rfl⟩:∃k,n=k+1:=⟨n-1,by omega⟩;obtain⟨p1,p2,p3⟩:=a0d hP;rw[Qk] at p1
 have loop:∀d i,i+d=l.length->∀fuel,a1v.loop (a0a Tab n) (fuel+d+1) 0 {i:=[(i:Int)],b:=[],v:=[P,.str nm],m:=σ,k:=σ.length}=some (b0B i ((l.drop i).findIdx? fun x=>decide (x.nm=nm)),σ):=by
  intro d
  induction d with
  | zero =>
   intro i hi fuel;rw[Qm] at hi;subst hi;have hd:decide (l.length<l.length)=false:=by simp
   rw[Sys.loop,show a1v.loops[0]?=some a1E from rfl,Qw];simp only[Q0,a1E,↓reduceIte,a0j,a0e,a0f,BE.safe,BE.pe,IE.pe,PEnv.at,Q3,Q1,Q2,Q0,SV.pvs,SV.pv,p1,p2,a0o,hd,a0g,or_true,QZ,b0B]
  | succ d ih =>
   intro i hi fuel;have hlt:i<l.length:=by omega
   obtain⟨x,hx⟩:=a0S hlt;have hd:decide (i<l.length)=true:=dT0 hlt;have h0:=a0z (off:=0) hP (a9I hx);have hup:=a2e (show i<=1000000000 by omega);rw[c3s _ hx];by_cases hn:x.nm=nm
   ·rw[dT0 hn,if_pos rfl,Sys.loop,show a1v.loops[0]?=some a1E from rfl]
    simp only[Q0,a1E,↓reduceIte,a0j,a0e,a0f,a0V,a0m,BE.safe,BE.pe,IE.pe,PEnv.at,Q3,Q4,Q7,Qd,a0y,a0b,a1d,Qm,Qe,Qf,Qh,Nat.reduceAdd,Q1,Qj,Qg,a0c,Q2,Q0,PEnv.push,Q6,Q5,SV.pvs,SV.pv,BE.all,Qb,Q8,Q9,Nat.reduceLeDiff,p1,p2,a0o,hd,le0,h0,b1w,a1J,is3,a9b,dT0 hn,a0g,or_true,b0B]
   ·have ih:=ih (i+1) (by omega) fuel
    rw[a1f] at ih;rw[dF0 hn,if_neg (by simp),d2o,Sys.loop,show a1v.loops[0]?=some a1E from rfl];simp only[Q0,a1E,↓reduceIte,a0j,a0e,a0f,a0V,a0m,BE.safe,BE.pe,IE.pe,PEnv.at,Q3,Q4,Q7,Qd,a0y,a0b,a1d,Qe,Qf,Qh,Nat.reduceAdd,Q1,Qj,Qg,a0c,Q2,Q0,PEnv.push,Q6,Q5,SV.pvs,SV.pv,BE.all,Qb,Q8,Q9,Nat.reduceLeDiff,p1,p2,a0o,hd,le0,h0,b1w,a1J,is3,a9b,dF0 hn,if_pos hup];exact ih
 have:=loop l.length 0 (by omega) (n-l.length-1);rw[show n-l.length-1+l.length+1=n by omega,Qe] at this;simp only[a0a,b4P,Q0,Sys.run];show ((a0i [.sh (.one _),.sh (.one _)] _).bind _)=_;simp only[a0i,a0l,a0c,Q2,Q0,Qa,Q5,Q6,if_true,p3,a1J];show (PT.ev _ a5s _).bind _=_;simp only[a5s,a0m,IE.pe,Q7,Qd,Q2,Q0,SV.pvs,SV.pv,BE.all,Q8,Q9,];exact this
theorem a4d(σ:List MO)(z:Int)(n:Nat)(hn:1<=n):a0a Tab n a3j [.int .u8 z] σ=some (.bool (a6B z),σ):=by
 obtain⟨n,rfl⟩:∃k,n=k+1:=⟨n-1,by omega⟩;simp only[a0a,b2L,Q0,Sys.run];show ((a0i [.sh (.one _)] _).bind _)=_;simp only[a0i,a0l,a0c,Q2,Q0,Qa,if_true];show (PT.ev _ a4v _).bind _=_;simp only[a4v,↓reduceIte,a0j,a0e,BE.safe,BE.pe,IE.pe,Q3,Q0,SV.pv,a6B];cases leB 97 z<;>simp only[↓reduceIte,Q1,Q2,Q0,a0g,or_true,Qq,Qs]
theorem b4f(σ:List MO)(z:Int)(n:Nat)(hn:1<=n):a0a Tab n a9Y [.int .u8 z] σ=some (.bool (b8g z),σ):=by
 obtain⟨n,rfl⟩:∃k,n=k+1:=⟨n-1,by omega⟩;simp only[a0a,b3S,Q0,Sys.run];show ((a0i [.sh (.one _)] _).bind _)=_;simp only[a0i,a0l,a0c,Q2,Q0,Qa,if_true];show (PT.ev _ a4T _).bind _=_;simp only[a4T,↓reduceIte,a0j,a0e,BE.safe,BE.pe,IE.pe,Q3,Q0,SV.pv,b8g];cases leB 48 z<;>simp only[↓reduceIte,Q1,Q2,Q0,a0g,or_true,Qq,Qs]
theorem d1a(σ:List MO)(l:List UInt8)(hl:l.length<=12)(n:Nat)(hn:20<=n):∀d i,i+d=l.length->∀fuel,a1O.loop (a0a Tab n) (fuel+d+1) 0 {i:=[(i:Int)],b:=[],v:=[.str l],m:=σ,k:=σ.length} =
  some (.tup [.agg [.int .i64 1,.str (l.take i++(l.drop i).takeWhile innC),.int .i64 0,.int .i64 0],.int .i64 0],σ):=by
 intro d
 induction d with
 | zero =>
  intro i hi fuel;rw[Qm] at hi;subst hi;have hd:decide (l.length<l.length)=false:=by simp
  have h12:ltB 12 (l.length:Int)=false:=by rw[a0p];omega
  rw[Sys.loop,show a1O.loops[0]?=some a1w from rfl,Qw];have hc:(0:Int)<=0/\(0:Int)<=(l.length:Int)/\(l.length:Int)<=(l.length:Int):=by omega
  simp only[Q0,a1w,↓reduceIte,a0j,a0e,a0f,a6q,BE.safe,BE.pe,IE.pe,PEnv.at,Q3,Q7,Qd,Qe,Q1,Q2,Q0,Q6,Q5,Qa,SV.pvs,SV.pv,is3,a3x,a0o,hd,h12,a2i,a2h,if_pos hc,a0g,or_true,Qy,b2F,QU,QH]
 | succ d ih =>
  intro i hi fuel;have hlt:i<l.length:=by omega
  obtain⟨c,hc⟩:=a0S hlt;have hd:decide (i<l.length)=true:=dT0 hlt;have h12:ltB 12 (i:Int)=false:=by rw[a0p];omega
  have hu:=c7W c;have c1:=a4d σ (c.toNat:Int) n (by omega);have c2:=b4f σ (c.toNat:Int) n (by omega);have hup:=a2e (show i<=1000000000 by omega);simp only[a3j,a9Y] at c1 c2;have ih:=ih (i+1) (by omega) fuel;rw[a1f] at ih
  have step:innC c=true->(l.take i++(l.drop i).takeWhile innC)=l.take (i+1)++(l.drop (i+1)).takeWhile innC:=fun hi2=>by
   rw[b4E hc hi2,QJ,hc];simp
  have hin:innC c=(a6B (c.toNat:Int)||(b8g (c.toNat:Int)||eqB (c.toNat:Int) 95)):=rfl;rw[Sys.loop,show a1O.loops[0]?=some a1w from rfl];cases h1:a6B (c.toNat:Int) with
  | true =>
   rw[h1] at c1;rw[step (by rw[hin,h1];rfl)];simp only[Q0,a1w,↓reduceIte,a0j,a0e,a0f,a6q,a0K,a0m,BE.safe,BE.pe,IE.pe,PEnv.at,Q3,Q7,Qd,a0c,a0r,a0l,Q2,Q0,PEnv.push,Q6,Q5,SV.pvs,SV.pv,BE.all,Qb,Q8,Q9,is3,a3x,a0o,hd,le0,a9R hc,c1,if_pos hup];exact ih
  | false =>
  rw[h1] at c1;cases h2:b8g (c.toNat:Int) with
  | true =>
   rw[h2] at c2;rw[step (by rw[hin,h1,h2];rfl)];simp only[Q0,a1w,↓reduceIte,a0j,a0e,a0f,a6q,a0K,a0m,BE.safe,BE.pe,IE.pe,PEnv.at,Q3,Q4,Q7,Qd,Q1,a0c,a0r,a0l,Q2,Q0,PEnv.push,Q6,Q5,Qa,SV.pvs,SV.pv,BE.all,Qb,Q8,Q9,is3,a3x,a0o,hd,le0,a9R hc,c1,c2,if_pos hup];exact ih
  | false =>
  rw[h2] at c2;cases h3:eqB (c.toNat:Int) 95 with
  | true =>
   rw[step (by rw[hin,h1,h2,h3];rfl)];simp only[Q0,a1w,↓reduceIte,a0e,a0f,a0K,a0m,BE.safe,BE.pe,IE.pe,PEnv.at,Q3,Q4,Q7,Q1,a0c,a0r,a0l,Q2,Q0,PEnv.push,Q6,Q5,SV.pvs,SV.pv,BE.all,Qb,Q8,Q9,is3,a3x,a0o,hd,le0,a9R hc,c1,c2,h3,if_pos hup];exact ih
  | false =>
   have hcc:(0:Int)<=0/\(0:Int)<=(i:Int)/\(i:Int)<=(l.length:Int):=by omega
   have hst:=b6O (p:=innC) hc (by rw[hin,h1,h2,h3];rfl);simp only[Q0,a1w,↓reduceIte,a0j,a0e,a0f,a6q,a0K,a0m,BE.safe,BE.pe,IE.pe,PEnv.at,Q3,Q4,Q7,Qd,Qe,Q1,a0c,a0r,a0l,Q2,Q0,PEnv.push,Q6,Q5,Qa,SV.pvs,SV.pv,BE.all,Qb,Q8,Q9,is3,a3x,a0o,hd,le0,a9R hc,c1,c2,h3,h12,a2i,a2h,if_pos hcc,a0g,or_true,Qy,hst,QH,Qe]
theorem d1w(σ:List MO)(c:UInt8)(l:List UInt8)(h12:(c::l).length<=12)(hlow:a6B (c.toNat:Int)=true)(n:Nat)(hn:40<=n) :
  a0a Tab n b0H [.str (c::l)] σ=some (.tup [.agg [.int .i64 1,.str (c::l.takeWhile innC),.int .i64 0,.int .i64 0],.int .i64 0],σ):=by
 obtain⟨n,rfl⟩:∃k,n=k+1:=⟨n-1,by omega⟩;have c1:=a4d σ (c.toNat:Int) n (by omega);simp only[a3j] at c1;rw[hlow] at c1;have hp:ltB 0 ((l.length+1:Nat):Int)=true:=by rw[a0W];omega
 have sa:PV.sAt (.str (c::l)) 0=(c.toNat:Int):=rfl;have:=d1a σ (c::l) h12 n (by omega) l.length 1 (by simp;omega) (n-l.length-1);rw[show n-l.length-1+l.length+1=n by simp at h12;omega] at this;simp only[Qj,Qg,List.drop_succ_cons,Qe,Q6,Q5] at this;simp only[a0a,b6a,Q0,Sys.run];show ((a0i [.sh (.one _)] _).bind _)=_;simp only[a0i,a0l,a0c,Q2,Q0,Qa,if_true,a1J];show (PT.ev _ a5R _).bind _=_;simp only[a5R,↓reduceIte,a0j,a0e,a0f,a6q,a0K,a0m,BE.safe,BE.pe,IE.pe,PEnv.at,Q3,Q7,Qd,Qf,a0c,a0r,a0l,Q2,Q0,PEnv.push,Q6,Q5,SV.pvs,SV.pv,BE.all,Q8,Q9,is3,a3x,hp,sa,c1];exact this
theorem c8e(σ:List MO)(l:List UInt8)(n:Nat)(hn:60<=n):a0a Tab n a9e [.str l] σ=some (.bool (a4G l),σ):=by
 obtain⟨n,rfl⟩:∃k,n=k+1:=⟨n-1,by omega⟩;simp only[a0a,b3e,Q0,Sys.run];show ((a0i [.sh (.one _)] _).bind _)=_;simp only[a0i,a0l,a0c,Q2,Q0,Qa,if_true,a1J];show (PT.ev _ a4w _).bind _=_;simp only[a4w,↓reduceIte,a0j,a0e,a0f,a0K,BE.safe,BE.pe,IE.pe,PEnv.at,Q3,Q4,Q7,a0r,a0l,Q2,Q0,PEnv.push,Q6,Q5,SV.pvs,SV.pv,is3,c9W,a3x];cases l with
 | nil=>simp only[↓reduceIte,Qh,Q1,Q2,Q0,decide_true,a0g,or_true,a4G];rfl
 | cons c l =>
  have h0:decide (c::l=[])=false:=by simp
  have hlen:decide (1<=(c::l).length)=true:=by simp
  have hp:ltB 0 ((l.length+1:Nat):Int)=true:=by rw[a0W];omega
  have sa:PV.sAt (.str (c::l)) 0=(c.toNat:Int):=rfl;rw[h0];unfold a4G;rw[hlen,Qq,sa];by_cases h12:(c::l).length<=12
  ·have h1:ltB 12 ((l.length+1:Nat):Int)=false:=by rw[a0p];simp at h12;omega
   have c1:=a4d σ (c.toNat:Int) n (by omega);simp only[a3j] at c1;rw[dT0 h12];cases hlo:a6B (c.toNat:Int) with
   | false =>
    rw[hlo] at c1;simp only[↓reduceIte,Q3,Qf,Q1,a0c,Q2,Q0,Qn,h1,hp,c1,a0g,or_true,Qq,Qs]
   | true =>
    rw[hlo] at c1;have c2:=d1w σ c l h12 hlo n (by omega);simp only[b0H] at c2;have hic:innC c=true:=by unfold innC c2d;rw[hlo];rfl
    simp only[↓reduceIte,Q3,Q4,Qf,Q1,a0c,a0l,Q2,Q0,Q6,Q5,Qa,Qp,is3,h1,hp,c1,c2,a2c,a1J,a9b,c6a,a0g,or_true,Qq,List.all_cons,hic];refine congrArg (fun x=>some (PV.bool x,σ)) ?_;rw[QB,decide_eq_true_iff,List.cons.injEq];exact⟨fun h=>(b0e _ _).1 h.2,fun h=>⟨rfl,(b0e _ _).2 h⟩⟩
  ·have h1:ltB 12 ((l.length+1:Nat):Int)=true:=by rw[a0W];simp at h12;omega
   rw[dF0 h12];simp only[↓reduceIte,Qf,Q1,Q2,Q0,h1,a0g,or_true,Qs]
theorem c9U{x:Bd}(h:¬x.rng):ltB x.c 0=true\/ltB 4 x.c=true\/ltB x.b 0=true\/ltB 1000000 x.b=true\/ltB x.p 0=true\/ltB 24000 x.p=true:=by
 simp only[Bd.rng] at h;simp only[a0W];omega
theorem d4J{l:List Bd}{i:Nat}(h:i<=l.length):(0:Int)<=0/\(0:Int)<=(i:Int)/\(i:Int)<=((l.map Bd.row).length:Int):=by rw[Qk];omega
theorem d6P(a b c d:PV):Qv 1 [a,b,c,d]=[b,c,d]/\Qv 2 [a,b,c,d]=[c,d]/\Qv 3 [a,b,c,d]=[d]:=⟨rfl,rfl,rfl⟩
theorem c2i{α:Type}(p:α->Bool)(l:List α):l.any p=(l.findIdx? p).isSome:=by rw[List.findIdx?_isSome]
theorem c7f{α:Type}{p:α->Bool}:∀{l:List α} {i:Nat} {x:α},l[i]?=some x->p x=true->∃k,l.findIdx? p=some k/\(k=i↔(l.take i).any p=false)
 | [],i,x,h,_=>by simp at h
 | y::l,0,x,h,hp=>by
  simp only[Q7,Option.some.injEq] at h;subst h;exact⟨0,by rw[QS,hp];rfl,by simp⟩
 | y::l,i+1,x,h,hp=>by
  obtain⟨k,h1,h2⟩:=c7f (l:=l) (i:=i) (by simpa using h) hp;rw[QS,Qj,QL];cases hy:p y with
  | true=>exact⟨0,rfl,by simp⟩
  | false =>
   refine⟨k+1,by simp[h1],?_⟩;simp only[Qt,Nat.add_right_cancel_iff];exact h2
theorem c2l(σ:List MO)(l:List Bd)(P:PV)(hP:P.rowsOf 4=some (l.map Bd.row))(n:Nat)(hn:60<=n):a0a Tab n b6s [P] σ=some (.int .i64 (b3l l),σ):=by
 obtain⟨n,rfl⟩:∃k,n=k+1:=⟨n-1,by omega⟩;obtain⟨p1,p2,p3⟩:=a0d hP;rw[Qk] at p1;simp only[a0a,c2h,Q0,Sys.run];show ((a0i [.sh (.one _)] _).bind _)=_;simp only[a0i,a0l,a0c,Q2,Q0,Qa,if_true,p3];show (PT.ev _ b1k _).bind _=_;simp only[b1k,↓reduceIte,a0j,a0e,a0f,a0m,BE.safe,BE.pe,IE.pe,PEnv.at,Q3,Q7,Q2,Q0,SV.pvs,SV.pv,BE.all,Q8,Q9,p1,p2,b3l];cases h0:eqB (l.length:Int) 0 with
 | true=>simp only[↓reduceIte,Q1,Q2,Q0,a0g,or_true]
 | false =>
 cases h8:ltB 8 (l.length:Int) with
 | true=>simp only[↓reduceIte,Q1,Q2,Q0,a0g,or_true]
 | false =>
 have h8':=h8;rw[a0p] at h8
 have loop:∀d i,i+d=l.length->∀fuel,a3d.loop (a0a Tab n) (fuel+d+1) 0 {i:=[(l.length:Int),(i:Int)],b:=[],v:=[P],m:=σ,k:=σ.length}=some (.int .i64 (goL a5k l d i),σ):=by
  intro d
  induction d with
  | zero =>
   intro i hi fuel;rw[Qm] at hi;subst hi;have hd:decide (l.length<l.length)=false:=by simp
   rw[Sys.loop,show a3d.loops[0]?=some a4s from rfl];simp only[Q0,a4s,↓reduceIte,a0j,a0e,BE.safe,BE.pe,IE.pe,Q3,Q4,Q1,Q2,Q0,SV.pv,a0o,hd,goL,a0g,or_true]
  | succ d ih =>
   intro i hi fuel;have hlt:i<l.length:=by omega
   obtain⟨x,hx⟩:=a0S hlt;have hd:decide (i<l.length)=true:=dT0 hlt;have hq:=a0z (off:=0) hP (a9I hx);have hup:=a2e (show i<=1000000000 by omega);have c1:=c4t σ x.nm n (by omega);have hcut:((((l.map Bd.row).take (i:Int).toNat).drop (0:Int).toNat))=(l.take i).map Bd.row:=by simp[QM]
   have c2:=c3a σ (l.take i) (.sl 4 ((l.take i).map Bd.row)) (a1K _ _) (by simp;omega) x.nm n (by simp;omega);simp only[b0O,b8t] at c1 c2;have hc:=d4J (l:=l) (i:=i) (by omega);rw[b2D hx,Sys.loop,show a3d.loops[0]?=some a4s from rfl];simp only[Q0,a4s,↓reduceIte,a0j,a0e,a0f,a0V,b6J,a0K,a0m,BE.safe,BE.pe,IE.pe,PEnv.at,Q3,Q4,Q7,Qd,a0y,a0b,a1d,Qe,Qf,Qh,Nat.reduceAdd,Qr,Q1,Qj,Qg,a0c,a0r,a0l,Q2,Q0,PEnv.push,Q6,Q5,SV.pvs,SV.pv,BE.all,Qb,Q8,Q9,p1,a0o,hd,le0,hq,b1w,a1J,c1,hP,a2i,a2h,if_pos hc,hcut];have h50:¬((5:Int)=0):=by decide
   have h70:¬((7:Int)=0):=by decide
   have h40:¬((4:Int)=0):=by decide
   cases hnm:a4G x.nm with
   | false =>
    have hp:a5k (l.take i) x=5:=by unfold a5k;rw[hnm];rfl
    rw[hp,if_neg h50];simp only[↓reduceIte,Q1,Q2,Q0,Qn,a0g,or_true]
   | true =>
    simp only[↓reduceIte,Q1,Q0,Qp,c2];cases hany:((l.take i).findIdx? fun y=>decide (y.nm=x.nm)) with
    | some k =>
     have hp:a5k (l.take i) x=7:=by unfold a5k;rw[hnm,c2i,hany];rfl
     rw[hp,if_neg h70];simp only[↓reduceIte,Q3,Q1,a0c,a0l,Q2,Q0,Q5,Qa,b0B,a2c,a0g,or_true]
    | none =>
     simp only[↓reduceIte,Q3,Q1,a0c,a0l,Q2,Q0,Q5,Qa,b0B,a2c];by_cases hrng:x.rng
     ·have ih:=ih (i+1) (by omega) fuel
      rw[a1f] at ih;have hp:a5k (l.take i) x=0:=by unfold a5k;rw[hnm,c2i,hany,if_pos hrng];rfl
      rw[hp,if_pos rfl];simp only[Bd.rng] at hrng;have e1:ltB x.c 0=false:=by rw[a0p];omega
      have e2:ltB 4 x.c=false:=by rw[a0p];omega
      have e3:ltB x.b 0=false:=by rw[a0p];omega
      have e4:ltB 1000000 x.b=false:=by rw[a0p];omega
      have e5:ltB x.p 0=false:=by rw[a0p];omega
      have e6:ltB 24000 x.p=false:=by rw[a0p];omega
      simp only[↓reduceIte,Q1,Q0,e1,e2,e3,e4,e5,e6,if_pos hup];exact ih
     ·have hp:a5k (l.take i) x=4:=by unfold a5k;rw[hnm,c2i,hany,if_neg hrng];rfl
      rw[hp,if_neg h40];have hno:=c9U hrng;cases e1:ltB x.c 0 with
      | true=>simp only[↓reduceIte,Q1,Q2,Q0,a0g,or_true]
      | false =>
      cases e2:ltB 4 x.c with
      | true=>simp only[↓reduceIte,Q1,Q2,Q0,a0g,or_true]
      | false =>
      cases e3:ltB x.b 0 with
      | true=>simp only[↓reduceIte,Q1,Q2,Q0,a0g,or_true]
      | false =>
      cases e4:ltB 1000000 x.b with
      | true=>simp only[↓reduceIte,Q1,Q2,Q0,a0g,or_true]
      | false =>
      cases e5:ltB x.p 0 with
      | true=>simp only[↓reduceIte,Q1,Q2,Q0,a0g,or_true]
      | false =>
      cases e6:ltB 24000 x.p with
      | true=>simp only[↓reduceIte,Q1,Q2,Q0,a0g,or_true]
      | false=>rw[e1,e2,e3,e4,e5,e6] at hno;simp at hno
 have:=loop l.length 0 (by omega) (n-l.length-1);rw[show n-l.length-1+l.length+1=n by omega] at this;simp only[↓reduceIte,Q1,Q0,];exact this
theorem d0C(σ:List MO)(l:List Bd)(P:PV)(hP:P.rowsOf 4=some (l.map Bd.row))(n:Nat)(hn:80<=n):a0a Tab n a9Q [P] σ=some (.int .i64 (b3l l),σ):=by
 obtain⟨n,rfl⟩:∃k,n=k+1:=⟨n-1,by omega⟩;obtain⟨p1,p2,p3⟩:=a0d hP;rw[Qk] at p1;simp only[a0a,b3Z,Q0,Sys.run];show ((a0i [.sh (.one _)] _).bind _)=_;simp only[a0i,a0l,a0c,Q2,Q0,Qa,if_true,p3];show (PT.ev _ a4M _).bind _=_;simp only[a4M,↓reduceIte,a0j,a0e,a0f,a0m,BE.safe,BE.pe,IE.pe,PEnv.at,Q3,Q7,Q2,Q0,SV.pvs,SV.pv,BE.all,Q8,Q9,p1,p2,b3l];cases h0:eqB (l.length:Int) 0 with
 | true=>simp only[↓reduceIte,Q1,Q2,Q0,a0g,or_true]
 | false =>
 cases h8:ltB 8 (l.length:Int) with
 | true=>simp only[↓reduceIte,Q1,Q2,Q0,a0g,or_true]
 | false =>
 have h8':=h8;rw[a0p] at h8
 have loop:∀d i,i+d=l.length->∀fuel,a1F.loop (a0a Tab n) (fuel+d+1) 0 {i:=[(i:Int)],b:=[],v:=[P],m:=σ,k:=σ.length}=some (.int .i64 (goL a5k l d i),σ):=by
  intro d
  induction d with
  | zero =>
   intro i hi fuel;rw[Qm] at hi;subst hi;have hd:decide (l.length<l.length)=false:=by simp
   rw[Sys.loop,show a1F.loops[0]?=some a2o from rfl];simp only[Q0,a2o,↓reduceIte,a0j,a0e,a0f,BE.safe,BE.pe,IE.pe,PEnv.at,Q3,Q1,Q2,Q0,SV.pv,p1,p2,a0o,hd,goL,a0g,or_true]
  | succ d ih =>
   intro i hi fuel;have hlt:i<l.length:=by omega
   obtain⟨x,hx⟩:=a0S hlt;have hd:decide (i<l.length)=true:=dT0 hlt;have q0:=a0z (off:=0) hP (a9I hx);have q1:=a0z (off:=1) hP (a9I hx);have q2:=a0z (off:=2) hP (a9I hx);have q3:=a0z (off:=3) hP (a9I hx);obtain⟨r1,r2,r3⟩:=d6P (.str x.nm) (.int .i64 x.c) (.int .i64 x.b) (.int .i64 x.p);have hup:=a2e (show i<=1000000000 by omega);have c1:=c8e σ x.nm n (by omega);have c2:=b5f σ l P hP (by omega) x.nm n (by omega);obtain⟨k,hk1,hk2⟩:=c7f (p:=fun y:Bd=>decide (y.nm=x.nm)) hx (by simp);rw[hk1] at c2;simp only[a9e,b0h,b0B,Nat.zero_add] at c1 c2;rw[b2D hx,Sys.loop,show a1F.loops[0]?=some a2o from rfl];simp only[Q0,a2o,↓reduceIte,a0j,a0e,a0f,a0V,a0K,a0m,BE.safe,BE.pe,IE.pe,PEnv.at,Q3,Q4,Q7,Qd,a0y,a0b,a1d,Qe,Qf,Qh,Nat.reduceAdd,Q1,Qj,Qg,a0c,a0r,a0l,Q2,Q0,PEnv.push,Q6,Q5,Qa,SV.pvs,SV.pv,BE.all,Qb,Q8,Q9,Nat.reduceLeDiff,p1,p2,a0o,hd,le0,q0,b1w,a1J,c1];have h50:¬((5:Int)=0):=by decide
   have h70:¬((7:Int)=0):=by decide
   have h40:¬((4:Int)=0):=by decide
   cases hnm:a4G x.nm with
   | false =>
    have hp:a5k (l.take i) x=5:=by unfold a5k;rw[hnm];rfl
    rw[hp,if_neg h50];simp only[↓reduceIte,Q1,Q2,Q0,Qn,a0g,or_true]
   | true =>
    simp only[↓reduceIte,Q3,Q4,Q1,a0c,a0l,Q2,Q0,Q6,Q5,Qa,Qp,c2,a2c];by_cases hki:k=i
    ·have hany:=hk2.1 hki
     subst hki;have hkk:eqB (k:Int) (k:Int)=true:=c6a _;by_cases hrng:x.rng
     ·have ih:=ih (k+1) (by omega) fuel
      rw[a1f] at ih;have hp:a5k (l.take k) x=0:=by unfold a5k;rw[hnm,hany,if_pos hrng];rfl
      rw[hp,if_pos rfl];simp only[Bd.rng] at hrng;have e1:ltB x.c 0=false:=by rw[a0p];omega
      have e2:ltB 4 x.c=false:=by rw[a0p];omega
      have e3:ltB x.b 0=false:=by rw[a0p];omega
      have e4:ltB 1000000 x.b=false:=by rw[a0p];omega
      have e5:ltB x.p 0=false:=by rw[a0p];omega
      have e6:ltB 24000 x.p=false:=by rw[a0p];omega
      simp only[↓reduceIte,Q3,Q4,Qf,Qh,Nat.reduceAdd,Qr,Q1,Qj,Qg,a0c,Q2,Q0,Q6,Q5,Qa,Qp,Nat.reduceLeDiff,hkk,q1,q2,q3,b1w,r1,r2,r3,e1,e2,e3,e4,e5,e6,if_pos hup];exact ih
     ·have hp:a5k (l.take k) x=4:=by unfold a5k;rw[hnm,hany,if_neg hrng];rfl
      rw[hp,if_neg h40];have hno:=c9U hrng;simp only[↓reduceIte,Q3,Q4,Qf,Qh,Nat.reduceAdd,Qr,Q1,Qj,Qg,a0c,Q2,Q0,Q6,Q5,Qa,Qp,Nat.reduceLeDiff,hkk,q1,q2,q3,b1w,r1,r2,r3];cases e1:ltB x.c 0 with
      | true=>simp only[↓reduceIte,Q1,Q2,Q0,a0g,or_true]
      | false =>
      simp only[↓reduceIte,Q1,];cases e2:ltB 4 x.c with
      | true=>simp only[↓reduceIte,Q1,Q2,Q0,a0g,or_true]
      | false =>
      simp only[↓reduceIte,Q1,];cases e3:ltB x.b 0 with
      | true=>simp only[↓reduceIte,Q1,Q2,Q0,a0g,or_true]
      | false =>
      simp only[↓reduceIte,Q1,];cases e4:ltB 1000000 x.b with
      | true=>simp only[↓reduceIte,Q1,Q2,Q0,a0g,or_true]
      | false =>
      simp only[↓reduceIte,Q1,];cases e5:ltB x.p 0 with
      | true=>simp only[↓reduceIte,Q1,Q2,Q0,a0g,or_true]
      | false =>
      simp only[↓reduceIte,Q1,];cases e6:ltB 24000 x.p with
      | true=>simp only[↓reduceIte,Q1,Q2,Q0,a0g,or_true]
      | false=>rw[e1,e2,e3,e4,e5,e6] at hno;simp at hno
    ·have hany:((l.take i).any fun y=>decide (y.nm=x.nm))=true:=by
      cases h:(l.take i).any fun y=>decide (y.nm=x.nm) with
      | true=>rfl
      | false=>exact absurd (hk2.2 h) hki
     have hp:a5k (l.take i) x=7:=by unfold a5k;rw[hnm,hany];rfl
     rw[hp,if_neg h70];have hkk:eqB (k:Int) (i:Int)=false:=by rw[b9H];omega
     simp only[↓reduceIte,Q1,Q2,Q0,Qn,hkk,a0g,or_true]
 have:=loop l.length 0 (by omega) (n-l.length-1);rw[show n-l.length-1+l.length+1=n by omega] at this;simp only[↓reduceIte,Q1,Q0,];exact this
structure Tri where
 (x y z:Int)
def Tri.row(t:Tri):List PV:=[.int .i64 t.x,.int .i64 t.y,.int .i64 t.z]
theorem a6T(t:Tri):t.row=[.int .i64 t.x,.int .i64 t.y,.int .i64 t.z]:=rfl
theorem a4B{l:List Tri}{i:Nat}{t:Tri}(h:l[i]?=some t):(l.map Tri.row)[i]?=some t.row:=by simp[h]
theorem tdr(a b c:PV):Qv 1 [a,b,c]=[b,c]/\Qv 2 [a,b,c]=[c]:=⟨rfl,rfl⟩
def a1c(nb:Int)(before:List Tri)(c:Tri):Int :=
 if ltB c.x (-1)=true then 6 else if leB nb c.x=true then 6 else if ltB c.y 0=true then 4 else if ltB 4 c.y=true then 4 else if ltB c.z 0=true then 4 else if ltB 24 c.z=true then 4
 else if (before.any fun d=>eqB d.x c.x&&eqB d.y c.y)=true then 7 else 0
def a1t(ps:List Pr)(before:List Tri)(a:Tri):Int :=
 if ltB a.x 0=true then 6 else if leB (ps.length:Int) a.x=true then 6 else if ltB a.y 1=true then 4 else if ltB 4 a.y=true then 4 else if ltB a.z 1=true then 4
 else if ltB (((ps[a.x.toNat]?).map Pr.s).getD 0) a.z=true then 4 else if (before.any fun d=>eqB d.x a.x)=true then 7 else 0
def b4s(nb:Int)(cs:List Tri):Int:=if ltB 16 (cs.length:Int)=true then 3 else goL (a1c nb) cs cs.length 0
def asV(ps:List Pr)(cs:List Tri):Int:=if ltB 6 (cs.length:Int)=true then 3 else goL (a1t ps) cs cs.length 0
theorem d1n{l:List Tri}{i:Nat}(h:i<=l.length):(0:Int)<=0/\(0:Int)<=(i:Int)/\(i:Int)<=((l.map Tri.row).length:Int):=by rw[Qk];omega
theorem b7Z{α:Type}(p:α->Bool){l:List α}{i:Nat}{x:α}(h:l[i]?=some x):(l.drop i).any p=(p x||(l.drop (i+1)).any p):=by rw[a5j h,QL]
theorem a9D{α:Type}{l:List α}{i k:Nat}(h:k<i):(l.take i)[k]?=l[k]?:=by rw[List.getElem?_take,if_pos h]
section
variable (σ:List MO)(cs:List Tri)(C:PV)(hC:C.rowsOf 3=some (cs.map Tri.row))(P B A:PV)(nb:Int)(hB:B.len=nb)(hBk:B.isKind 0=true)(n:Nat)
theorem d1J(i:Nat)(c:Tri)(hi:i<=1000)(hil:i<=cs.length)(b0 b1 b2 b3:Bool):∀d k,k+d=i->∀fuel,
  a1k.loop (a0a Tab n) (fuel+d+1) 1 {i:=[(cs.length:Int),(i:Int),c.x,nb,c.y,c.z,(i:Int),(k:Int)],b:=[b0,b1,b2,b3],v:=[C,B,.sl 3 ((cs.take i).map Tri.row),P,A],m:=σ,k:=σ.length} =
   if (((cs.take i).drop k).any fun d=>eqB d.x c.x&&eqB d.y c.y)=true then some (.int .i64 7,σ) else a1k.loop (a0a Tab n) fuel 0 {i:=[(cs.length:Int),(i:Int)+1],b:=[],v:=[C,P,B,A],m:=σ,k:=σ.length}:=by
 have hK:(PV.sl 3 ((cs.take i).map Tri.row)).rowsOf 3=some ((cs.take i).map Tri.row):=a1K _ _;obtain⟨p1,p2,p3⟩:=a0d hK;have htl:(cs.take i).length=i:=by rw[QA];omega
 rw[Qk,htl] at p1;generalize hKK:PV.sl 3 ((cs.take i).map Tri.row)=K at *
 intro d
 induction d with
 | zero =>
  intro k hk fuel;rw[Qm] at hk;subst hk;have hd:decide (k<k)=false:=by simp
  have hup:=a2e (show k<=1000000000 by omega);rw[QC (by omega),Qz,if_neg (by simp),Sys.loop,show a1k.loops[1]?=some a3p from rfl];simp only[Q0,a3p,↓reduceIte,a0e,a0f,a0m,BE.safe,BE.pe,IE.pe,Q3,Q4,Q7,Qd,Q1,Q2,Q0,SV.pvs,SV.pv,BE.all,Qb,Q8,Q9,a0o,hd,if_pos hup]
 | succ d ih =>
  intro k hk fuel;have hlt:k<(cs.take i).length:=by omega
  obtain⟨x,hx⟩:=a0S hlt;have hd:decide (k<i)=true:=dT0 (by omega);have hq:=a0z (off:=0) hK (a4B hx);have hup:=a2e (show k<=1000000000 by omega);have ih:=ih (k+1) (by omega) fuel;rw[a1f] at ih;rw[b7Z _ hx,Sys.loop,show a1k.loops[1]?=some a3p from rfl];simp only[Q0,a3p,↓reduceIte,a0j,a0e,a0f,a0V,a0m,BE.safe,BE.pe,IE.pe,PEnv.at,Q3,Q4,Q7,Qd,a0y,a0b,a1d,Qe,Qf,Qh,Nat.reduceAdd,Qr,Q1,Qj,Qg,a0c,Q2,Q0,PEnv.push,Q6,Q5,SV.pvs,SV.pv,BE.all,Qb,Q8,Q9,p1,a0o,hd,le0,hq,a6T];cases h1:eqB x.x c.x with
  | false =>
   simp only[↓reduceIte,Q1,Q0,if_pos hup,Qs,Qt];exact ih
  | true =>
  cases h2:eqB x.y c.y with
  | false =>
   simp only[↓reduceIte,Q1,Q0,if_pos hup,QK,Qt];exact ih
  | true=>simp only[↓reduceIte,Q1,Q2,Q0,Qb,Qb,Qu,a0g,or_true]
include hC hB hBk in
theorem d0s(hl:cs.length<=16):∀d i,i+d=cs.length->∀fuel,d*20+1<=fuel ->
  a1k.loop (a0a Tab n) fuel 0 {i:=[(cs.length:Int),(i:Int)],b:=[],v:=[C,P,B,A],m:=σ,k:=σ.length}=some (.int .i64 (goL (a1c nb) cs d i),σ):=by
 obtain⟨p1,p2,p3⟩:=a0d hC;rw[Qk] at p1;intro d
 induction d with
 | zero =>
  intro i hi fuel hf;obtain⟨fuel,rfl⟩:∃f,fuel=f+1:=⟨fuel-1,by omega⟩;rw[Qm] at hi;subst hi;have hd:decide (cs.length<cs.length)=false:=by simp
  rw[Sys.loop,show a1k.loops[0]?=some a3o from rfl];simp only[Q0,a3o,↓reduceIte,a0j,a0e,BE.safe,BE.pe,IE.pe,Q3,Q4,Q1,Q2,Q0,SV.pv,a0o,hd,goL,a0g,or_true]
 | succ d ih =>
  intro i hi fuel hf;obtain⟨fuel,rfl⟩:∃f,fuel=f+i+1+1:=⟨fuel-i-2,by omega⟩;have hlt:i<cs.length:=by omega
  obtain⟨x,hx⟩:=a0S hlt;have hd:decide (i<cs.length)=true:=dT0 hlt;have hq:=a0z (off:=0) hC (a4B hx);have ih:=ih (i+1) (by omega) fuel (by omega);rw[a1f] at ih;have hcut:((((cs.map Tri.row).take (i:Int).toNat).drop (0:Int).toNat))=(cs.take i).map Tri.row:=by simp[QM]
  have hK:(PV.sl 3 ((cs.take i).map Tri.row)).rowsOf 3=some ((cs.take i).map Tri.row):=a1K _ _;obtain⟨k1,k2,k3⟩:=a0d hK;rw[Qk,QA,X0 (by omega)] at k1;have hc:=d1n (l:=cs) (i:=i) (by omega);have hin:=fun b0 b1 b2 b3=>d1J σ cs C P B A nb n i x (by omega) (by omega) b0 b1 b2 b3 i 0 (by omega) fuel
  rw[b2D hx,Sys.loop,show a1k.loops[0]?=some a3o from rfl];simp only[Q0,a3o,↓reduceIte,a0j,a0e,a0f,a0V,b6J,a0m,BE.safe,BE.pe,IE.pe,PEnv.at,Q3,Q4,Q7,Qd,a0y,a0b,a1d,Qe,Qf,Qh,Nat.reduceAdd,Qr,Q1,Qj,Qg,a0c,Q2,Q0,PEnv.push,Q6,Q5,SV.pvs,SV.pv,BE.all,Qb,Q8,Q9,p1,a0o,hd,le0,hq,a6T,hB,hBk];have h60:¬((6:Int)=0):=by decide
  have h40:¬((4:Int)=0):=by decide
  have h70:¬((7:Int)=0):=by decide
  cases e1:ltB x.x (-1) with
  | true =>
   have hp:a1c nb (cs.take i) x=6:=by simp only[a1c,e1,if_true,]
   rw[hp,if_neg h60];simp only[↓reduceIte,Q1,Q2,Q0,a0g,or_true]
  | false =>
  cases e2:leB nb x.x with
  | true =>
   have hp:a1c nb (cs.take i) x=6:=by simp only[a1c,e1,e2,if_true,Q1,if_false]
   rw[hp,if_neg h60];simp only[↓reduceIte,Q1,Q2,Q0,a0g,or_true]
  | false =>
  cases e3:ltB x.y 0 with
  | true =>
   have hp:a1c nb (cs.take i) x=4:=by simp only[a1c,e1,e2,e3,if_true,Q1,if_false]
   rw[hp,if_neg h40];simp only[↓reduceIte,Q1,Q2,Q0,a0g,or_true]
  | false =>
  cases e4:ltB 4 x.y with
  | true =>
   have hp:a1c nb (cs.take i) x=4:=by simp only[a1c,e1,e2,e3,e4,if_true,Q1,if_false]
   rw[hp,if_neg h40];simp only[↓reduceIte,Q1,Q2,Q0,a0g,or_true]
  | false =>
  cases e5:ltB x.z 0 with
  | true =>
   have hp:a1c nb (cs.take i) x=4:=by simp only[a1c,e1,e2,e3,e4,e5,if_true,Q1,if_false]
   rw[hp,if_neg h40];simp only[↓reduceIte,Q1,Q2,Q0,a0g,or_true]
  | false =>
  cases e6:ltB 24 x.z with
  | true =>
   have hp:a1c nb (cs.take i) x=4:=by simp only[a1c,e1,e2,e3,e4,e5,e6,if_true,Q1,if_false]
   rw[hp,if_neg h40];simp only[↓reduceIte,Q1,Q2,Q0,a0g,or_true]
  | false =>
   simp only[↓reduceIte,IE.pe,Q3,Q4,Q1,Q0,hC,a2i,a2h,if_pos hc,hcut,k1,k2];rw[Qe] at hin;cases hany:((cs.take i).any fun d=>eqB d.x x.x&&eqB d.y x.y) with
   | true =>
    have hp:a1c nb (cs.take i) x=7:=by simp only[a1c,e1,e2,e3,e4,e5,e6,hany,if_true,Q1,if_false]
    rw[hp,if_neg h70];refine(hin _ _ _ _).trans ?_;rw[if_pos hany]
   | false =>
    have hp:a1c nb (cs.take i) x=0:=by simp only[a1c,e1,e2,e3,e4,e5,e6,hany,Q1,if_false]
    rw[hp,if_pos rfl];refine(hin _ _ _ _).trans ?_;rw[if_neg (by rw[hany];simp)];exact ih
include hC hB hBk in
theorem d0l(hn:1000<=n)(hP1:P.one=true)(hA1:A.one=true)(hB1:B.one=true):a0a Tab (n+1) b1W [.agg [P,B,C,A]] σ=some (.int .i64 (b4s nb cs),σ):=by
 obtain⟨p1,p2,p3⟩:=a0d hC;rw[Qk] at p1;simp only[a0a,b8O,Q0,Sys.run];show ((a0i [.sh (.agg [_,_,_,_])] _).bind _)=_;simp only[a0i,a0l,a0c,Q2,Q0,Qa,if_true,p3,hP1,hA1,hB1];show (PT.ev _ a8T _).bind _=_;simp only[a8T,↓reduceIte,a0j,a0e,a0f,a0m,BE.safe,BE.pe,IE.pe,PEnv.at,Q3,Q4,Q7,Qd,Q2,Q0,SV.pvs,SV.pv,BE.all,Q8,Q9,p1,p2,b4s];cases h16:ltB 16 (cs.length:Int) with
 | true=>simp only[↓reduceIte,Q1,Q2,Q0,a0g,or_true]
 | false =>
  have h:=h16;rw[a0p] at h;simp only[↓reduceIte,Q1,Q0,];exact d0s σ cs C hC P B A nb hB hBk n (by omega) cs.length 0 (by omega) n (by omega)
end
section
variable (σ:List MO)(ps:List Pr)(cs:List Tri)(C:PV)(hC:C.rowsOf 3=some (cs.map Tri.row))(P B A:PV)(hP:P.rowsOf 5=some (ps.map Pr.row))(n:Nat)
theorem d4V(i:Nat)(c:Tri)(hi:i<=1000)(hil:i<=cs.length)(b0 b1 b2 b3:Bool)(np sup:Int):∀d k,k+d=i->∀fuel,
  a1b.loop (a0a Tab n) (fuel+d+1) 1 {i:=[(cs.length:Int),(i:Int),c.x,np,c.y,c.z,sup,(i:Int),(k:Int)],b:=[b0,b1,b2,b3],v:=[C,P,.sl 3 ((cs.take i).map Tri.row),B,A],m:=σ,k:=σ.length} =
   if (((cs.take i).drop k).any fun d=>eqB d.x c.x)=true then some (.int .i64 7,σ) else a1b.loop (a0a Tab n) fuel 0 {i:=[(cs.length:Int),(i:Int)+1],b:=[],v:=[C,P,B,A],m:=σ,k:=σ.length}:=by
 have hK:(PV.sl 3 ((cs.take i).map Tri.row)).rowsOf 3=some ((cs.take i).map Tri.row):=a1K _ _;obtain⟨p1,p2,p3⟩:=a0d hK;have htl:(cs.take i).length=i:=by rw[QA];omega
 rw[Qk,htl] at p1;generalize hKK:PV.sl 3 ((cs.take i).map Tri.row)=K at *
 intro d
 induction d with
 | zero =>
  intro k hk fuel;rw[Qm] at hk;subst hk;have hd:decide (k<k)=false:=by simp
  have hup:=a2e (show k<=1000000000 by omega);rw[QC (by omega),Qz,if_neg (by simp),Sys.loop,show a1b.loops[1]?=some a2I from rfl];simp only[Q0,a2I,↓reduceIte,a0e,a0f,a0m,BE.safe,BE.pe,IE.pe,Q3,Q4,Q7,Qd,Q1,Q2,Q0,SV.pvs,SV.pv,BE.all,Qb,Q8,Q9,a0o,hd,if_pos hup]
 | succ d ih =>
  intro k hk fuel;have hlt:k<(cs.take i).length:=by omega
  obtain⟨x,hx⟩:=a0S hlt;have hd:decide (k<i)=true:=dT0 (by omega);have hq:=a0z (off:=0) hK (a4B hx);have hup:=a2e (show k<=1000000000 by omega);have ih:=ih (k+1) (by omega) fuel;rw[a1f] at ih;rw[b7Z _ hx,Sys.loop,show a1b.loops[1]?=some a2I from rfl];simp only[Q0,a2I,↓reduceIte,a0j,a0e,a0f,a0V,a0m,BE.safe,BE.pe,IE.pe,PEnv.at,Q3,Q4,Q7,Qd,a0y,a0b,a1d,Qe,Qf,Qh,Nat.reduceAdd,Qr,Q1,Qj,Qg,a0c,Q2,Q0,PEnv.push,Q6,Q5,SV.pvs,SV.pv,BE.all,Qb,Q8,Q9,p1,a0o,hd,le0,hq,a6T];cases h1:eqB x.x c.x with
  | false =>
   simp only[↓reduceIte,Q1,Q0,if_pos hup,Qt];exact ih
  | true=>simp only[↓reduceIte,Q1,Q2,Q0,Qu,a0g,or_true]
include hC hP in
theorem d2n(hl:cs.length<=6):∀d i,i+d=cs.length->∀fuel,d*20+1<=fuel ->
  a1b.loop (a0a Tab n) fuel 0 {i:=[(cs.length:Int),(i:Int)],b:=[],v:=[C,P,B,A],m:=σ,k:=σ.length}=some (.int .i64 (goL (a1t ps) cs d i),σ):=by
 obtain⟨p1,p2,p3⟩:=a0d hC;obtain⟨q1,q2,q3⟩:=a0d hP;rw[Qk] at p1 q1;intro d
 induction d with
 | zero =>
  intro i hi fuel hf;obtain⟨fuel,rfl⟩:∃f,fuel=f+1:=⟨fuel-1,by omega⟩;rw[Qm] at hi;subst hi;have hd:decide (cs.length<cs.length)=false:=by simp
  rw[Sys.loop,show a1b.loops[0]?=some a2M from rfl];simp only[Q0,a2M,↓reduceIte,a0j,a0e,BE.safe,BE.pe,IE.pe,Q3,Q4,Q1,Q2,Q0,SV.pv,a0o,hd,goL,a0g,or_true]
 | succ d ih =>
  intro i hi fuel hf;obtain⟨fuel,rfl⟩:∃f,fuel=f+i+1+1:=⟨fuel-i-2,by omega⟩;have hlt:i<cs.length:=by omega
  obtain⟨x,hx⟩:=a0S hlt;have hd:decide (i<cs.length)=true:=dT0 hlt;have hq:=a0z (off:=0) hC (a4B hx);have ih:=ih (i+1) (by omega) fuel (by omega);rw[a1f] at ih;have hcut:((((cs.map Tri.row).take (i:Int).toNat).drop (0:Int).toNat))=(cs.take i).map Tri.row:=by simp[QM]
  have hK:(PV.sl 3 ((cs.take i).map Tri.row)).rowsOf 3=some ((cs.take i).map Tri.row):=a1K _ _;obtain⟨k1,k2,k3⟩:=a0d hK;rw[Qk,QA,X0 (by omega)] at k1;have hc:=d1n (l:=cs) (i:=i) (by omega);have hin:=fun b0 b1 b2 b3 sup=>d4V σ cs C P B A n i x (by omega) (by omega) b0 b1 b2 b3 (ps.length:Int) sup i 0 (by omega) fuel
  rw[b2D hx,Sys.loop,show a1b.loops[0]?=some a2M from rfl];simp only[Q0,a2M,↓reduceIte,a0j,a0e,a0f,a0V,b6J,a0m,BE.safe,BE.pe,IE.pe,PEnv.at,Q3,Q4,Q7,Qd,a0y,a0b,a1d,Qe,Qf,Qh,Nat.reduceAdd,Qr,Q1,Qj,Qg,a0c,Q2,Q0,PEnv.push,Q6,Q5,SV.pvs,SV.pv,BE.all,Qb,Q8,Q9,p1,a0o,hd,le0,hq,a6T,q1,q2];have h60:¬((6:Int)=0):=by decide
  have h40:¬((4:Int)=0):=by decide
  have h70:¬((7:Int)=0):=by decide
  cases e1:ltB x.x 0 with
  | true =>
   have hp:a1t ps (cs.take i) x=6:=by simp only[a1t,e1,if_true,]
   rw[hp,if_neg h60];simp only[↓reduceIte,Q1,Q2,Q0,a0g,or_true]
  | false =>
  cases e2:leB (ps.length:Int) x.x with
  | true =>
   have hp:a1t ps (cs.take i) x=6:=by simp only[a1t,e1,e2,if_true,Q1,if_false]
   rw[hp,if_neg h60];simp only[↓reduceIte,Q1,Q2,Q0,a0g,or_true]
  | false =>
  cases e3:ltB x.y 1 with
  | true =>
   have hp:a1t ps (cs.take i) x=4:=by simp only[a1t,e1,e2,e3,if_true,Q1,if_false]
   rw[hp,if_neg h40];simp only[↓reduceIte,Q1,Q2,Q0,a0g,or_true]
  | false =>
  cases e4:ltB 4 x.y with
  | true =>
   have hp:a1t ps (cs.take i) x=4:=by simp only[a1t,e1,e2,e3,e4,if_true,Q1,if_false]
   rw[hp,if_neg h40];simp only[↓reduceIte,Q1,Q2,Q0,a0g,or_true]
  | false =>
  cases e5:ltB x.z 1 with
  | true =>
   have hp:a1t ps (cs.take i) x=4:=by simp only[a1t,e1,e2,e3,e4,e5,if_true,Q1,if_false]
   rw[hp,if_neg h40];simp only[↓reduceIte,Q1,Q2,Q0,a0g,or_true]
  | false =>
  have hb1:=e1;have hb2:=e2;rw[a0p] at hb1;rw[a9U] at hb2;obtain⟨m,hm⟩:∃m:Nat,x.x=(m:Int):=⟨x.x.toNat,by omega⟩;obtain⟨pr,hpr⟩:=a0S (show m<ps.length by omega);have hsup:((ps[x.x.toNat]?).map Pr.s).getD 0=pr.s:=by rw[hm,Qy,hpr];rfl
  have hq1:a2z x.x 5 1 P=some (.row pr.row 1):=by rw[hm];exact a0z (off:=1) hP (a3W hpr)
  have hrg:(leB 0 x.x&&ltB x.x (ps.length:Int))=true:=by rw[QE,a2L,a0W];omega
  have dr:∀a b c d e:PV,Qv 1 [a,b,c,d,e]=[b,c,d,e]:=fun _ _ _ _ _=>rfl
  simp only[↓reduceIte,Q3,Q7,Qf,Qh,Nat.reduceAdd,Q1,Qj,Qg,a0c,Q2,Q0,Q5,Nat.reduceLeDiff,hrg,hq1,a5c,dr];cases e6:ltB pr.s x.z with
  | true =>
   have hp:a1t ps (cs.take i) x=4:=by simp only[a1t,e1,e2,e3,e4,e5,hsup,e6,if_true,Q1,if_false]
   rw[hp,if_neg h40];simp only[↓reduceIte,Q1,Q2,Q0,a0g,or_true]
  | false =>
   simp only[↓reduceIte,IE.pe,Q3,Q4,Q1,Q0,hC,a2i,a2h,if_pos hc,hcut,k1,k2];rw[Qe] at hin;cases hany:((cs.take i).any fun d=>eqB d.x x.x) with
   | true =>
    have hp:a1t ps (cs.take i) x=7:=by simp only[a1t,e1,e2,e3,e4,e5,hsup,e6,hany,if_true,Q1,if_false]
    rw[hp,if_neg h70];refine(hin _ _ _ _ _).trans ?_;rw[if_pos hany]
   | false =>
    have hp:a1t ps (cs.take i) x=0:=by simp only[a1t,e1,e2,e3,e4,e5,hsup,e6,hany,Q1,if_false]
    rw[hp,if_pos rfl];refine(hin _ _ _ _ _).trans ?_;rw[if_neg (by rw[hany];simp)];exact ih
include hC hP in
theorem d2I(hn:1000<=n)(hA1:A.one=true)(hB1:B.one=true):a0a Tab (n+1) b0G [.agg [P,B,A,C]] σ=some (.int .i64 (asV ps cs),σ):=by
 obtain⟨p1,p2,p3⟩:=a0d hC;obtain⟨q1,q2,q3⟩:=a0d hP;rw[Qk] at p1;simp only[a0a,b6v,Q0,Sys.run];show ((a0i [.sh (.agg [_,_,_,_])] _).bind _)=_;simp only[a0i,a0l,a0c,Q2,Q0,Qa,if_true,p3,q3,hA1,hB1];show (PT.ev _ a5V _).bind _=_;simp only[a5V,↓reduceIte,a0j,a0e,a0f,a0m,BE.safe,BE.pe,IE.pe,PEnv.at,Q3,Q4,Q7,Qd,Q2,Q0,SV.pvs,SV.pv,BE.all,Q8,Q9,p1,p2,asV];cases h16:ltB 6 (cs.length:Int) with
 | true=>simp only[↓reduceIte,Q1,Q2,Q0,a0g,or_true]
 | false =>
  have h:=h16;rw[a0p] at h;simp only[↓reduceIte,Q1,Q0,];exact d2n σ ps cs C hC P B A hP n (by omega) cs.length 0 (by omega) n (by omega)
end
def a4Q(ps:List Pr)(bs:List Bd)(cs as':List Tri):Int :=
 if b1e ps=0 then if b3l bs=0 then if b4s (bs.length:Int) cs=0 then asV ps as' else b4s (bs.length:Int) cs else b3l bs else b1e ps
section
variable (σ:List MO)(ps:List Pr)(bs:List Bd)(cs ad:List Tri)(P B C A:PV)(hP:P.rowsOf 5=some (ps.map Pr.row))(hB:B.rowsOf 4=some (bs.map Bd.row))(hC:C.rowsOf 3=some (cs.map Tri.row))(hA:A.rowsOf 3=some (ad.map Tri.row))(n:Nat)
include hP hB hC hA in
theorem b4v(hn:1010<=n):a0a Tab n b1I [.agg [P,B,C,A]] σ=some (.int .i64 (a4Q ps bs cs ad),σ):=by
 obtain⟨n,rfl⟩:∃k,n=k+1+1:=⟨n-2,by omega⟩;obtain⟨p1,p2,p3⟩:=a0d hP;obtain⟨b1,b2,b3⟩:=a0d hB;obtain⟨c1,c2,c3⟩:=a0d hC;obtain⟨a1,a2,a3⟩:=a0d hA;rw[Qk] at b1;have k1:=c6P σ ps P hP (n+1) (by omega);have k2:=c2l σ bs B hB (n+1) (by omega);have k3:=d0l σ cs C hC P B A (bs.length:Int) b1 b2 n (by omega) p3 a3 b3;have k4:=d2I σ ps ad A hA P B C hP n (by omega) c3 b3;simp only[b4n,b6s,b1W,b0G] at k1 k2 k3 k4;rw[a0a];simp only[c3p,Q0,Sys.run];show ((a0i [.sh (.agg [_,_,_,_])] _).bind _)=_;simp only[a0i,a0l,a0c,Q2,Q0,Qa,if_true,p3,b3,c3,a3];show (PT.ev _ b1L _).bind _=_;have e0:∀z:Int,eqB z 0=decide (z=0):=fun _=>rfl
 simp only[b1L,↓reduceIte,a0j,a0e,a0K,BE.safe,BE.pe,IE.pe,Q3,Q4,Q7,Qd,a0c,a0r,a0l,Q2,Q0,PEnv.push,Q6,Q5,SV.pvs,SV.pv,k1,e0,a4Q];by_cases h1:b1e ps=0
 ·rw[if_pos h1,dT0 h1]
  simp only[↓reduceIte,Q3,Q4,Q1,a0c,Q2,Q0,Q6,Q5,Qp,k2];by_cases h2:b3l bs=0
  ·rw[if_pos h2,dT0 h2]
   simp only[↓reduceIte,Q3,Q4,Q1,a0c,Q2,Q0,Q6,Q5,Qp,k3];by_cases h3:b4s (bs.length:Int) cs=0
   ·rw[if_pos h3,dT0 h3]
    simp only[↓reduceIte,Q3,Q1,a0c,Q2,Q0,Qp,k4,a0g,or_true]
   ·rw[if_neg h3,dF0 h3]
    simp only[↓reduceIte,Q1,Q2,Q0,Qn,a0g,or_true]
  ·rw[if_neg h2,dF0 h2]
   simp only[↓reduceIte,Q1,Q2,Q0,Qn,a0g,or_true]
 ·rw[if_neg h1,dF0 h1]
  simp only[↓reduceIte,Q1,Q2,Q0,Qn,a0g,or_true]
include hC in
theorem d0E(i:Nat)(c:Tri)(hi:i<=1000)(hil:i<cs.length)(b0 b1 b2 b3:Bool)(np sup:Int):∀d k,k+d=i->∀fuel,
  a0t.loop (a0a Tab n) (fuel+d+1) 1 {i:=[(i:Int),(k:Int),c.x,np,c.y,c.z],b:=[b0,b1,b2,b3],v:=[B,P,C,A],m:=σ,k:=σ.length} =
   if (((cs.take i).drop k).any fun d=>eqB d.x c.x&&eqB d.y c.y)=true then some (.int .i64 7,σ) else a0t.loop (a0a Tab n) fuel 0 {i:=[(i:Int)+1],b:=[],v:=[P,B,C,A],m:=σ,k:=σ.length}:=by
 obtain⟨p1,p2,p3⟩:=a0d hC;rw[Qk] at p1;have htl:(cs.take i).length=i:=by rw[QA];omega
 intro d
 induction d with
 | zero =>
  intro k hk fuel;rw[Qm] at hk;subst hk;have hd:decide (k<k)=false:=by simp
  have hup:=a2e (show k<=1000000000 by omega);rw[QC (by omega),Qz,if_neg (by simp),Sys.loop,show a0t.loops[1]?=some a2t from rfl];simp only[Q0,a2t,↓reduceIte,a0e,a0f,a0m,BE.safe,BE.pe,IE.pe,Q3,Q4,Q7,Qd,Q1,Q2,Q0,SV.pvs,SV.pv,BE.all,Qb,Q8,Q9,a0o,hd,if_pos hup]
 | succ d ih =>
  intro k hk fuel;have hlt:k<(cs.take i).length:=by omega
  obtain⟨x,hx⟩:=a0S hlt;have hx2:=hx;rw[a9D (by omega)] at hx2;have hd:decide (k<i)=true:=dT0 (by omega);have hd2:decide (k<cs.length)=true:=dT0 (by omega);have q0:=a0z (off:=0) hC (a4B hx2);have q1:=a0z (off:=1) hC (a4B hx2);obtain⟨r1,r2⟩:=tdr (.int .i64 x.x) (.int .i64 x.y) (.int .i64 x.z);have hup:=a2e (show k<=1000000000 by omega);have ih:=ih (k+1) (by omega) fuel;rw[a1f] at ih;rw[b7Z _ hx,Sys.loop,show a0t.loops[1]?=some a2t from rfl];simp only[Q0,a2t,↓reduceIte,a0j,a0e,a0f,a0V,a0m,BE.safe,BE.pe,IE.pe,PEnv.at,Q3,Q4,Q7,Qd,a0y,a0b,a1d,Qe,Qf,Qh,Nat.reduceAdd,Qj,Qg,a0c,Q2,Q0,PEnv.push,Q6,Q5,SV.pvs,SV.pv,BE.all,Qb,Q8,Q9,Nat.reduceLeDiff,p1,a0o,hd,hd2,le0,q0,a6T];cases h1:eqB x.x c.x with
  | false =>
   simp only[↓reduceIte,Q1,Q0,if_pos hup,Qs,Qt];exact ih
  | true =>
  simp only[↓reduceIte,Q3,Qf,Qh,Nat.reduceAdd,Qj,Qg,a0c,Q2,Q0,Nat.reduceLeDiff,q1,a6T,r1];cases h2:eqB x.y c.y with
  | false =>
   simp only[↓reduceIte,Q1,Q0,if_pos hup,QK,Qt];exact ih
  | true=>simp only[↓reduceIte,Q1,Q2,Q0,Qb,Qb,Qu,a0g,or_true]
include hA in
theorem d2W(i:Nat)(c:Tri)(hi:i<=1000)(hil:i<ad.length)(b0 b1 b2 b3:Bool)(np sup:Int):∀d k,k+d=i->∀fuel,
  a0t.loop (a0a Tab n) (fuel+d+1) 3 {i:=[(i:Int),(k:Int),c.x,np,c.y,c.z,sup],b:=[b0,b1,b2,b3],v:=[P,B,C,A],m:=σ,k:=σ.length} =
   if (((ad.take i).drop k).any fun d=>eqB d.x c.x)=true then some (.int .i64 7,σ) else a0t.loop (a0a Tab n) fuel 2 {i:=[(i:Int)+1],b:=[],v:=[P,B,C,A],m:=σ,k:=σ.length}:=by
 obtain⟨p1,p2,p3⟩:=a0d hA;rw[Qk] at p1;have htl:(ad.take i).length=i:=by rw[QA];omega
 intro d
 induction d with
 | zero =>
  intro k hk fuel;rw[Qm] at hk;subst hk;have hd:decide (k<k)=false:=by simp
  have hup:=a2e (show k<=1000000000 by omega);rw[QC (by omega),Qz,if_neg (by simp),Sys.loop,show a0t.loops[3]?=some a2u from rfl];simp only[Q0,a2u,↓reduceIte,a0e,a0f,a0m,BE.safe,BE.pe,IE.pe,Q3,Q4,Q7,Qd,Q1,Q2,Q0,SV.pvs,SV.pv,BE.all,Qb,Q8,Q9,a0o,hd,if_pos hup]
 | succ d ih =>
  intro k hk fuel;have hlt:k<(ad.take i).length:=by omega
  obtain⟨x,hx⟩:=a0S hlt;have hx2:=hx;rw[a9D (by omega)] at hx2;have hd:decide (k<i)=true:=dT0 (by omega);have hd2:decide (k<ad.length)=true:=dT0 (by omega);have q0:=a0z (off:=0) hA (a4B hx2);have q1:=a0z (off:=1) hA (a4B hx2);obtain⟨r1,r2⟩:=tdr (.int .i64 x.x) (.int .i64 x.y) (.int .i64 x.z);have hup:=a2e (show k<=1000000000 by omega);have ih:=ih (k+1) (by omega) fuel;rw[a1f] at ih;rw[b7Z _ hx,Sys.loop,show a0t.loops[3]?=some a2u from rfl];simp only[Q0,a2u,↓reduceIte,a0j,a0e,a0f,a0V,a0m,BE.safe,BE.pe,IE.pe,PEnv.at,Q3,Q4,Q7,Qd,a0y,a0b,a1d,Qe,Qf,Qh,Nat.reduceAdd,Qj,Qg,a0c,Q2,Q0,PEnv.push,Q6,Q5,SV.pvs,SV.pv,BE.all,Qb,Q8,Q9,Nat.reduceLeDiff,p1,a0o,hd,hd2,le0,q0,a6T];cases h1:eqB x.x c.x with
  | false =>
   simp only[↓reduceIte,Q1,Q0,if_pos hup,Qt];exact ih
  | true=>simp only[↓reduceIte,Q1,Q2,Q0,Qu,a0g,or_true]
include hP hB hC hA in
theorem d1x(hl:ad.length<=6):∀d i,i+d=ad.length->∀fuel,d*20+1<=fuel ->
  a0t.loop (a0a Tab n) fuel 2 {i:=[(i:Int)],b:=[],v:=[P,B,C,A],m:=σ,k:=σ.length}=some (.int .i64 (goL (a1t ps) ad d i),σ):=by
 have _:=And.intro hB hC;obtain⟨p1,p2,p3⟩:=a0d hA;obtain⟨q1,q2,q3⟩:=a0d hP;rw[Qk] at p1 q1;intro d
 induction d with
 | zero =>
  intro i hi fuel hf;obtain⟨fuel,rfl⟩:∃f,fuel=f+1:=⟨fuel-1,by omega⟩;rw[Qm] at hi;subst hi;have hd:decide (ad.length<ad.length)=false:=by simp
  rw[Sys.loop,show a0t.loops[2]?=some a2r from rfl];simp only[Q0,a2r,↓reduceIte,a0j,a0e,a0f,BE.safe,BE.pe,IE.pe,PEnv.at,Q3,Q4,Q1,Q2,Q0,SV.pv,p1,p2,a0o,hd,goL,a0g,or_true]
 | succ d ih =>
  intro i hi fuel hf;obtain⟨fuel,rfl⟩:∃f,fuel=f+i+1+1:=⟨fuel-i-2,by omega⟩;have hlt:i<ad.length:=by omega
  obtain⟨x,hx⟩:=a0S hlt;have hd:decide (i<ad.length)=true:=dT0 hlt;have hq:=a0z (off:=0) hA (a4B hx);have ih:=ih (i+1) (by omega) fuel (by omega);rw[a1f] at ih;have hin:=fun b0 b1 b2 b3 sup=>d2W σ ad P B C A hA n i x (by omega) (by omega) b0 b1 b2 b3 (ps.length:Int) sup i 0 (by omega) fuel
  rw[b2D hx,Sys.loop,show a0t.loops[2]?=some a2r from rfl];simp only[Q0,a2r,↓reduceIte,a0j,a0e,a0f,a0V,a0m,BE.safe,BE.pe,IE.pe,PEnv.at,Q3,Q4,Q7,Qd,a0y,a0b,a1d,Qe,Qf,Qh,Nat.reduceAdd,Qr,Q1,Qj,Qg,a0c,Q2,Q0,PEnv.push,Q6,Q5,SV.pvs,SV.pv,BE.all,Qb,Q8,Q9,p1,p2,a0o,hd,le0,hq,a6T,q1,q2];have h60:¬((6:Int)=0):=by decide
  have h40:¬((4:Int)=0):=by decide
  have h70:¬((7:Int)=0):=by decide
  cases e1:ltB x.x 0 with
  | true =>
   have hp:a1t ps (ad.take i) x=6:=by simp only[a1t,e1,if_true,]
   rw[hp,if_neg h60];simp only[↓reduceIte,Q1,Q2,Q0,a0g,or_true]
  | false =>
  cases e2:leB (ps.length:Int) x.x with
  | true =>
   have hp:a1t ps (ad.take i) x=6:=by simp only[a1t,e1,e2,if_true,Q1,if_false]
   rw[hp,if_neg h60];simp only[↓reduceIte,Q1,Q2,Q0,a0g,or_true]
  | false =>
  cases e3:ltB x.y 1 with
  | true =>
   have hp:a1t ps (ad.take i) x=4:=by simp only[a1t,e1,e2,e3,if_true,Q1,if_false]
   rw[hp,if_neg h40];simp only[↓reduceIte,Q1,Q2,Q0,a0g,or_true]
  | false =>
  cases e4:ltB 4 x.y with
  | true =>
   have hp:a1t ps (ad.take i) x=4:=by simp only[a1t,e1,e2,e3,e4,if_true,Q1,if_false]
   rw[hp,if_neg h40];simp only[↓reduceIte,Q1,Q2,Q0,a0g,or_true]
  | false =>
  cases e5:ltB x.z 1 with
  | true =>
   have hp:a1t ps (ad.take i) x=4:=by simp only[a1t,e1,e2,e3,e4,e5,if_true,Q1,if_false]
   rw[hp,if_neg h40];simp only[↓reduceIte,Q1,Q2,Q0,a0g,or_true]
  | false =>
  have hb1:=e1;have hb2:=e2;rw[a0p] at hb1;rw[a9U] at hb2;obtain⟨m,hm⟩:∃m:Nat,x.x=(m:Int):=⟨x.x.toNat,by omega⟩;obtain⟨pr,hpr⟩:=a0S (show m<ps.length by omega);have hsup:((ps[x.x.toNat]?).map Pr.s).getD 0=pr.s:=by rw[hm,Qy,hpr];rfl
  have hq1:a2z x.x 5 1 P=some (.row pr.row 1):=by rw[hm];exact a0z (off:=1) hP (a3W hpr)
  have hrg:(leB 0 x.x&&ltB x.x (ps.length:Int))=true:=by rw[QE,a2L,a0W];omega
  have dr:∀a b c d e:PV,Qv 1 [a,b,c,d,e]=[b,c,d,e]:=fun _ _ _ _ _=>rfl
  simp only[↓reduceIte,Q3,Qf,Qh,Nat.reduceAdd,Q1,Qj,Qg,a0c,Q2,Q0,Nat.reduceLeDiff,hrg,hq1,a5c,dr];cases e6:ltB pr.s x.z with
  | true =>
   have hp:a1t ps (ad.take i) x=4:=by simp only[a1t,e1,e2,e3,e4,e5,hsup,e6,if_true,Q1,if_false]
   rw[hp,if_neg h40];simp only[↓reduceIte,Q1,Q2,Q0,a0g,or_true]
  | false =>
   simp only[↓reduceIte,Q1,Q0,];rw[Qe] at hin;cases hany:((ad.take i).any fun d=>eqB d.x x.x) with
   | true =>
    have hp:a1t ps (ad.take i) x=7:=by simp only[a1t,e1,e2,e3,e4,e5,hsup,e6,hany,if_true,Q1,if_false]
    rw[hp,if_neg h70];refine(hin _ _ _ _ _).trans ?_;rw[if_pos hany]
   | false =>
    have hp:a1t ps (ad.take i) x=0:=by simp only[a1t,e1,e2,e3,e4,e5,hsup,e6,hany,Q1,if_false]
    rw[hp,if_pos rfl];refine(hin _ _ _ _ _).trans ?_;rw[if_neg (by rw[hany];simp)];exact ih
include hP hB hC hA in
theorem c8Y(hl:cs.length<=16):∀d i,i+d=cs.length->∀fuel,d*20+200<=fuel ->
  a0t.loop (a0a Tab n) fuel 0 {i:=[(i:Int)],b:=[],v:=[P,B,C,A],m:=σ,k:=σ.length}=some (.int .i64 (if goL (a1c (bs.length:Int)) cs d i=0 then asV ps ad else goL (a1c (bs.length:Int)) cs d i),σ):=by
 obtain⟨p1,p2,p3⟩:=a0d hC;obtain⟨q1,q2,q3⟩:=a0d hB;rw[Qk] at p1 q1;intro d
 induction d with
 | zero =>
  intro i hi fuel hf;obtain⟨fuel,rfl⟩:∃f,fuel=f+1:=⟨fuel-1,by omega⟩;rw[Qm] at hi;subst hi;have hd:decide (cs.length<cs.length)=false:=by simp
  rw[Sys.loop,show a0t.loops[0]?=some a2v from rfl];obtain⟨a1,a2,a3⟩:=a0d hA;rw[Qk] at a1;rw[show goL (a1c (bs.length:Int)) cs 0 cs.length=0 from rfl,if_pos rfl];unfold asV;simp only[Q0,a2v,↓reduceIte,a0j,a0e,a0f,a0m,BE.safe,BE.pe,IE.pe,PEnv.at,Q3,Q4,Q7,Qd,Q1,Q2,Q0,SV.pvs,SV.pv,BE.all,Q8,Q9,p1,p2,a0o,hd,a1,a2];cases h6:ltB 6 (ad.length:Int) with
  | true=>simp only[↓reduceIte,Q1,Q2,Q0,a0g,or_true]
  | false =>
   have h:=h6;rw[a0p] at h;simp only[↓reduceIte,Q1,Q0,];exact d1x σ ps bs cs ad P B C A hP hB hC hA n (by omega) ad.length 0 (by omega) fuel (by omega)
 | succ d ih =>
  intro i hi fuel hf;obtain⟨fuel,rfl⟩:∃f,fuel=f+i+1+1:=⟨fuel-i-2,by omega⟩;have hlt:i<cs.length:=by omega
  obtain⟨x,hx⟩:=a0S hlt;have hd:decide (i<cs.length)=true:=dT0 hlt;have hq:=a0z (off:=0) hC (a4B hx);have ih:=ih (i+1) (by omega) fuel (by omega);rw[a1f] at ih;have hin:=fun b0 b1 b2 b3 sup=>d0E σ cs P B C A hC n i x (by omega) (by omega) b0 b1 b2 b3 (bs.length:Int) sup i 0 (by omega) fuel
  rw[b2D hx,Sys.loop,show a0t.loops[0]?=some a2v from rfl];simp only[Q0,a2v,↓reduceIte,a0j,a0e,a0f,a0V,a0m,BE.safe,BE.pe,IE.pe,PEnv.at,Q3,Q4,Q7,Qd,a0y,a0b,a1d,Qe,Qf,Qh,Nat.reduceAdd,Qr,Q1,Qj,Qg,a0c,Q2,Q0,PEnv.push,Q6,Q5,SV.pvs,SV.pv,BE.all,Qb,Q8,Q9,p1,p2,a0o,hd,le0,hq,a6T,q1,q2];have h60:¬((6:Int)=0):=by decide
  have h40:¬((4:Int)=0):=by decide
  have h70:¬((7:Int)=0):=by decide
  cases e1:ltB x.x (-1) with
  | true =>
   have hp:a1c (bs.length:Int) (cs.take i) x=6:=by simp only[a1c,e1,if_true,]
   rw[hp,if_neg h60,if_neg h60];simp only[↓reduceIte,Q1,Q2,Q0,a0g,or_true]
  | false =>
  cases e2:leB (bs.length:Int) x.x with
  | true =>
   have hp:a1c (bs.length:Int) (cs.take i) x=6:=by simp only[a1c,e1,e2,if_true,Q1,if_false]
   rw[hp,if_neg h60,if_neg h60];simp only[↓reduceIte,Q1,Q2,Q0,a0g,or_true]
  | false =>
  cases e3:ltB x.y 0 with
  | true =>
   have hp:a1c (bs.length:Int) (cs.take i) x=4:=by simp only[a1c,e1,e2,e3,if_true,Q1,if_false]
   rw[hp,if_neg h40,if_neg h40];simp only[↓reduceIte,Q1,Q2,Q0,a0g,or_true]
  | false =>
  cases e4:ltB 4 x.y with
  | true =>
   have hp:a1c (bs.length:Int) (cs.take i) x=4:=by simp only[a1c,e1,e2,e3,e4,if_true,Q1,if_false]
   rw[hp,if_neg h40,if_neg h40];simp only[↓reduceIte,Q1,Q2,Q0,a0g,or_true]
  | false =>
  cases e5:ltB x.z 0 with
  | true =>
   have hp:a1c (bs.length:Int) (cs.take i) x=4:=by simp only[a1c,e1,e2,e3,e4,e5,if_true,Q1,if_false]
   rw[hp,if_neg h40,if_neg h40];simp only[↓reduceIte,Q1,Q2,Q0,a0g,or_true]
  | false =>
  cases e6:ltB 24 x.z with
  | true =>
   have hp:a1c (bs.length:Int) (cs.take i) x=4:=by simp only[a1c,e1,e2,e3,e4,e5,e6,if_true,Q1,if_false]
   rw[hp,if_neg h40,if_neg h40];simp only[↓reduceIte,Q1,Q2,Q0,a0g,or_true]
  | false =>
   simp only[↓reduceIte,Q1,Q0,];rw[Qe] at hin;cases hany:((cs.take i).any fun d=>eqB d.x x.x&&eqB d.y x.y) with
   | true =>
    have hp:a1c (bs.length:Int) (cs.take i) x=7:=by simp only[a1c,e1,e2,e3,e4,e5,e6,hany,if_true,Q1,if_false]
    rw[hp,if_neg h70,if_neg h70];refine(hin _ _ _ _ 0).trans ?_;rw[if_pos hany]
   | false =>
    have hp:a1c (bs.length:Int) (cs.take i) x=0:=by simp only[a1c,e1,e2,e3,e4,e5,e6,hany,Q1,if_false]
    rw[hp,if_pos rfl];refine(hin _ _ _ _ 0).trans ?_;rw[if_neg (by rw[hany];simp)];exact ih
include hP hB hC hA in
theorem b4w(hn:1010<=n):a0a Tab n a4U [.agg [P,B,C,A]] σ=some (.int .i64 (a4Q ps bs cs ad),σ):=by
 obtain⟨n,rfl⟩:∃k,n=k+1:=⟨n-1,by omega⟩;obtain⟨p1,p2,p3⟩:=a0d hP;obtain⟨b1,b2,b3⟩:=a0d hB;obtain⟨c1,c2,c3⟩:=a0d hC;obtain⟨a1,a2,a3⟩:=a0d hA;rw[Qk] at c1;have k1:=c6q σ ps P hP n (by omega);have k2:=d0C σ bs B hB n (by omega);simp only[a9S,a9Q] at k1 k2;rw[a0a];simp only[b4c,Q0,Sys.run];show ((a0i [.sh (.agg [_,_,_,_])] _).bind _)=_;simp only[a0i,a0l,a0c,Q2,Q0,Qa,if_true,p3,b3,c3,a3];show (PT.ev _ a4L _).bind _=_;have e0:∀z:Int,eqB z 0=decide (z=0):=fun _=>rfl
 simp only[a4L,↓reduceIte,a0j,a0e,a0f,a0K,a0m,BE.safe,BE.pe,IE.pe,PEnv.at,Q3,Q4,Q7,Qd,a0c,a0r,a0l,Q2,Q0,PEnv.push,Q6,Q5,SV.pvs,SV.pv,BE.all,Q8,Q9,k1,e0,a4Q];by_cases h1:b1e ps=0
 ·rw[if_pos h1,dT0 h1]
  simp only[↓reduceIte,Q3,a0c,Q2,Q0,k2];by_cases h2:b3l bs=0
  ·rw[if_pos h2,dT0 h2]
   unfold b4s;simp only[↓reduceIte,Q1,Qp,c1,c2];cases h16:ltB 16 (cs.length:Int) with
   | true =>
    simp only[if_true];rw[if_neg (by decide)];simp only[↓reduceIte,Q1,Q2,Q0,a0g,or_true]
   | false =>
    have h:=h16;rw[a0p] at h;rw[if_neg (by simp)];simp only[↓reduceIte,Q1,Q0,];exact c8Y σ ps bs cs ad P B C A hP hB hC hA n (by omega) cs.length 0 (by omega) n (by omega)
  ·rw[if_neg h2,dF0 h2]
   simp only[↓reduceIte,Q1,Q2,Q0,Qn,a0g,or_true]
 ·rw[if_neg h1,dF0 h1]
  simp only[↓reduceIte,Q1,Q2,Q0,Qn,a0g,or_true]
end
theorem c8B{n:Nat}{ps:List PV}(h:a1h Tryz.prog n 89 ps):∃x:Tri,ps=x.row:=by
 obtain⟨m,_,h⟩:=a4m Tryz.underlying89 h;simp only[Q8,Q9,a4o] at h;obtain⟨_,_,rfl,h1,_,_,rfl,h2,_,_,rfl,h3,rfl⟩:=h;obtain⟨a,rfl,_⟩:=a1u (k:=.i64) (by kernel_rfl) h1;obtain⟨b,rfl,_⟩:=a1u (k:=.i64) (by kernel_rfl) h2;obtain⟨c,rfl,_⟩:=a1u (k:=.i64) (by kernel_rfl) h3;exact⟨⟨a,b,c⟩,rfl⟩
theorem c5O{n:Nat}{ps:List PV}(h:a1h Tryz.prog n 91 ps):∃x:Tri,ps=x.row:=by
 obtain⟨m,_,h⟩:=a4m Tryz.underlying91 h;simp only[Q8,Q9,a4o] at h;obtain⟨_,_,rfl,h1,_,_,rfl,h2,_,_,rfl,h3,rfl⟩:=h;obtain⟨a,rfl,_⟩:=a1u (k:=.i64) (by kernel_rfl) h1;obtain⟨b,rfl,_⟩:=a1u (k:=.i64) (by kernel_rfl) h2;obtain⟨c,rfl,_⟩:=a1u (k:=.i64) (by kernel_rfl) h3;exact⟨⟨a,b,c⟩,rfl⟩
theorem c9O{n:Nat}{ps:List PV}(h:a1h Tryz.prog n 27 ps):∃(l1:List Pr) (l2:List Bd) (l3 l4:List Tri),ps=[.sl 5 (l1.map Pr.row),.sl 4 (l2.map Bd.row),.sl 3 (l3.map Tri.row),.sl 3 (l4.map Tri.row)]:=by
 obtain⟨m,_,h⟩:=a4m Tryz.underlying27 h;simp only[Q8,Q9,a4o] at h;obtain⟨_,_,rfl,h1,_,_,rfl,h2,_,_,rfl,h3,_,_,rfl,h4,rfl⟩:=h;obtain⟨m1,r1,_,rfl,g1⟩:=b0v (e:=93) (by kernel_rfl) h1;obtain⟨m2,r2,_,rfl,g2⟩:=b0v (e:=102) (by kernel_rfl) h2;obtain⟨m3,r3,_,rfl,g3⟩:=b0v (e:=89) (by kernel_rfl) h3;obtain⟨m4,r4,_,rfl,g4⟩:=b0v (e:=91) (by kernel_rfl) h4;obtain⟨l1,rfl⟩:=a9p (row:=Pr.row) (fun ps h=>c9M h) r1 g1;obtain⟨l2,rfl⟩:=a9p (row:=Bd.row) (fun ps h=>(c9T h).imp fun _ h=>h.1) r2 g2;obtain⟨l3,rfl⟩:=a9p (row:=Tri.row) (fun ps h=>c8B h) r3 g3;obtain⟨l4,rfl⟩:=a9p (row:=Tri.row) (fun ps h=>c5O h) r4 g4;rw[show Tryz.prog.cellsOf 93=5 by kernel_rfl,show Tryz.prog.cellsOf 102=4 by kernel_rfl,show Tryz.prog.cellsOf 89=3 by kernel_rfl,show Tryz.prog.cellsOf 91=3 by kernel_rfl];exact⟨l1,l2,l3,l4,rfl⟩
end Go.Proofs.YtmekflfjaflmkaaGreat
