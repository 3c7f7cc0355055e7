/- The examples of the chapter on revealed preference. -/
import Derived.Test.YtmekflfjaflmkaaHSys
import Derived.Test.YtmekflfjaflmkaaHTxd
set_option linter.unusedSimpArgs false
set_option linter.unusedVariables false
set_option linter.unusedSectionVars false
open Option renaming bind_some → Q0, map_some → Q1, getD_some → QQ
open Bool renaming false_eq_true → Q2, and_self → Qb, not_false → Qk, not_true → Qn, false_and → Qq, true_and → Qr, true_or → Qv, false_or → Qw, and_eq_true → Qy, eq_iff_iff → QS
open List renaming getD_cons_zero → Q3, getD_cons_succ → Q4, nil_append → Q5, cons_append → Q6, getElem?_cons_zero → Q7, append_nil → Q8, map_cons → Q9, map_nil → Qa, getElem?_cons_succ → Qd, drop_zero → Qe, length_map → Qf, length_nil → Qg, length_cons → Qh, take_zero → Qj, take_succ_cons → Qm, drop_length → Qu, map_take → Qz, length_take → QA, getElem?_eq_getElem → QC, all_cons → QD, all_nil → QE, drop → QJ, takeWhile_cons → QK, any_nil → QM, getElem?_eq_some_iff → QN, mem_of_getElem? → QP, take_add_one → QU, drop_eq_nil_of_le → QV
open Nat renaming le_refl → Qp, add_zero → Qs, zero_le → QH, min_eq_left → QW
open Int renaming mul_le_mul → Qt, mul_nonneg → QB, toNat_natCast → QL
set_option maxRecDepth 100000
namespace Go.Proofs.Ytmekflfjaflmkaa
open Go.Sx
structure W6 where
 (a b c d e f:Int)
def W6.pv(x:W6):List PV:=[.int .i64 x.a,.int .i64 x.b,.int .i64 x.c,.int .i64 x.d,.int .i64 x.e,.int .i64 x.f]
def W6.ok(w:W6):Prop:=0<=w.a/\w.a<=4/\0<=w.b/\w.b<=4/\0<=w.c/\w.c<=4/\0<=w.d/\w.d<=4/\0<=w.e/\w.e<=4/\0<=w.f/\w.f<=4
instance (w:W6):Decidable w.ok:=by unfold W6.ok;infer_instance
def W6.pok(w:W6):Prop:=0<=w.a/\w.a<=1000000/\0<=w.b/\w.b<=1000000/\0<=w.c/\w.c<=1000000/\0<=w.d/\w.d<=1000000/\0<=w.e/\w.e<=1000000/\0<=w.f/\w.f<=1000000
instance (w:W6):Decidable w.pok:=by unfold W6.pok;infer_instance
def a3S(w:W6):Int:=if w.ok then 0 else 4
def a8i(p w:W6):Int:=p.a*w.a+p.b*w.b+p.c*w.c+p.d*w.d+p.e*w.e+p.f*w.f
structure Ch where
 (p w:W6)
def Ch.row(c:Ch):List PV:=c.p.pv++c.w.pv
def Ch.ok(c:Ch):Prop:=c.p.pok/\c.w.ok
instance (c:Ch):Decidable c.ok:=by unfold Ch.ok;infer_instance
theorem Ch.ok_dec(x:Ch):decide x.ok=(decide x.p.pok&&decide x.w.ok):=by
 rw[QS,decide_eq_true_iff,Qy,decide_eq_true_iff,decide_eq_true_iff];exact Iff.rfl
def b3p(a b:Ch):Int:=a8i a.p b.w-a8i a.p a.w
theorem b6u{x y:Int}(h1:0<=x)(h2:x<=1000000)(h3:0<=y)(h4:y<=4):0<=x*y/\x*y<=4000000:=by
 constructor
 ·exact QB h1 h3
 ·calc x*y<=1000000*4:=Qt h2 h4 h3 (by omega)
   _=4000000:=by decide
theorem c0X{p w:W6}(hp:p.pok)(hw:w.ok):(0<=p.a*w.a/\p.a*w.a<=4000000)/\(0<=p.b*w.b/\p.b*w.b<=4000000)/\(0<=p.c*w.c/\p.c*w.c<=4000000)/\(0<=p.d*w.d/\p.d*w.d<=4000000)/\(0<=p.e*w.e/\p.e*w.e<=4000000)/\(0<=p.f*w.f/\p.f*w.f<=4000000):=by
 simp only[W6.pok,W6.ok] at hp hw;exact⟨b6u (by omega) (by omega) (by omega) (by omega),b6u (by omega) (by omega) (by omega) (by omega),b6u (by omega) (by omega) (by omega) (by omega),b6u (by omega) (by omega) (by omega) (by omega),b6u (by omega) (by omega) (by omega) (by omega),b6u (by omega) (by omega) (by omega) (by omega)⟩
theorem b3t{p w:W6}(hp:p.pok)(hw:w.ok):0<=a8i p w/\a8i p w<=24000000:=by
 have:=c0X hp hw;simp only[a8i];omega
theorem c7u{a b:Ch}(ha:a.ok)(hb:b.ok):-24000000<=b3p a b/\b3p a b<=24000000:=by
 have:=b3t ha.1 hb.2;have:=b3t ha.1 ha.2;simp only[b3p];omega
theorem a2I(σ:List MO)(w:W6)(n:Nat)(hn:1<=n):a0b Tab n a2P [.agg w.pv] σ=some (.int .i64 (a3S w),σ):=by
 obtain⟨n,rfl⟩:∃k,n=k+1:=⟨n-1,by omega⟩;simp only[a0b,c2c,Q0,Sys.run,W6.pv];show ((a0f [.sh (.agg [_,_,_,_,_,_])] _).bind _)=_;simp only[a0f,a0g,a0c,Q1,Q0,Q8,if_true];show (PT.ev _ b1Q _).bind _=_;simp only[b1Q,↓reduceIte,PT.ev,BE.safe,BE.pe,IE.pe,Q3,Q4,Q2,Q1,Q0,SV.pv,a0m,or_true];obtain⟨a,b,c,d,e,f⟩:=w;simp only[a0Q,a3S];by_cases hok:(⟨a,b,c,d,e,f⟩:W6).ok
 ·rw[if_pos hok]
  simp only[W6.ok] at hok
  repeat rw[if_neg (by omega)]
  rfl
 ·rw[if_neg hok]
  simp only[W6.ok] at hok;by_cases h1:a<0
  ·rw[if_pos h1];rfl
  rw[if_neg h1];by_cases h2:4<a
  ·rw[if_pos h2];rfl
  rw[if_neg h2];by_cases h3:b<0
  ·rw[if_pos h3];rfl
  rw[if_neg h3];by_cases h4:4<b
  ·rw[if_pos h4];rfl
  rw[if_neg h4];by_cases h5:c<0
  ·rw[if_pos h5];rfl
  rw[if_neg h5];by_cases h6:4<c
  ·rw[if_pos h6];rfl
  rw[if_neg h6];by_cases h7:d<0
  ·rw[if_pos h7];rfl
  rw[if_neg h7];by_cases h8:4<d
  ·rw[if_pos h8];rfl
  rw[if_neg h8];by_cases h9:e<0
  ·rw[if_pos h9];rfl
  rw[if_neg h9];by_cases h10:4<e
  ·rw[if_pos h10];rfl
  rw[if_neg h10];by_cases h11:f<0
  ·rw[if_pos h11];rfl
  rw[if_neg h11];by_cases h12:4<f
  ·rw[if_pos h12];rfl
  rw[if_neg h12];exfalso;omega
theorem a8k(σ:List MO)(p w:W6)(hp:p.pok)(hw:w.ok)(n:Nat)(hn:1<=n):a0b Tab n a7v [.agg p.pv,.agg w.pv] σ=some (.int .i64 (a8i p w),σ):=by
 obtain⟨n,rfl⟩:∃k,n=k+1:=⟨n-1,by omega⟩;simp only[a0b,c3g,Q0,Sys.run,W6.pv];show ((a0f [.sh (.agg [_,_,_,_,_,_]),.sh (.agg [_,_,_,_,_,_])] _).bind _)=_;simp only[a0f,a0g,a0c,Q1,Q0,Q8,Q5,Q6,if_true];show (PT.ev _ b2J _).bind _=_;obtain⟨b0,b1,b2,b3,b4,b5⟩:=c0X hp hw;obtain⟨a,b,c,d,e,f⟩:=p;obtain⟨a',b',c',d',e',f'⟩:=w;simp only at b0 b1 b2 b3 b4 b5;simp only[b2J,↓reduceIte,PT.ev,BE.safe,BE.pe,IE.pe,Q3,Q4,Q2,Q1,Q0,SV.pv,Qb,a0m,or_true,Qy,a2H,a8i];generalize a*a'=x0 at *
 generalize b*b'=x1 at *
 generalize c*c'=x2 at *
 generalize d*d'=x3 at *
 generalize e*e'=x4 at *
 generalize f*f'=x5 at *
 repeat rw[if_pos (by omega)]
 rfl
theorem d0g(σ:List MO)(x:Ch)(n:Nat)(hn:2<=n):a0b Tab n b3D [.agg x.row] σ=some (.bool (decide x.ok),σ):=by
 obtain⟨n,rfl⟩:∃k,n=k+1:=⟨n-1,by omega⟩;have c1:=a2I σ x.w n (by omega);obtain⟨⟨a,b,c,d,e,f⟩,⟨a',b',c',d',e',f'⟩⟩:=x;generalize hy:a3S ⟨a',b',c',d',e',f'⟩=y at *
 simp only[a2P,W6.pv] at c1;simp only[a0b,b9m,Q0,Sys.run,W6.pv,Ch.row,Q6,Q5];show ((a0f [.sh (.agg [_,_,_,_,_,_,_,_,_,_,_,_])] _).bind _)=_;simp only[a0f,a0g,a0c,Q1,Q0,Q8,if_true];show (PT.ev _ b0k _).bind _=_;simp only[b0k,↓reduceIte,PT.ev,BE.safe,BE.pe,IE.pe,Q3,Q4,Q2,a0c,a0l,a0g,Q1,Q0,PEnv.push,Q6,Q5,SV.pvs,SV.pv,a0m,or_true,c1];simp only[a0Q]
 have hyd:eqB y 0=decide (⟨a',b',c',d',e',f'⟩:W6).ok:=by
  rw[<- hy];unfold a3S;by_cases h:(⟨a',b',c',d',e',f'⟩:W6).ok
  ·rw[if_pos h,dT0 h];rfl
  ·rw[if_neg h,dF0 h];rfl
 have hsp:decide (Ch.ok ⟨⟨a,b,c,d,e,f⟩,⟨a',b',c',d',e',f'⟩⟩)=(decide (⟨a,b,c,d,e,f⟩:W6).pok&&decide (⟨a',b',c',d',e',f'⟩:W6).ok):=Ch.ok_dec _;rw[hsp,hyd];generalize decide (⟨a',b',c',d',e',f'⟩:W6).ok=q;by_cases hok:(⟨a,b,c,d,e,f⟩:W6).pok
 ·rw[dT0 hok]
  simp only[W6.pok] at hok
  repeat rw[if_neg (by omega)]
  simp
 ·rw[dF0 hok]
  simp only[W6.pok] at hok;by_cases h1:a<0
  ·rw[if_pos h1];rfl
  rw[if_neg h1];by_cases h2:1000000<a
  ·rw[if_pos h2];rfl
  rw[if_neg h2];by_cases h3:b<0
  ·rw[if_pos h3];rfl
  rw[if_neg h3];by_cases h4:1000000<b
  ·rw[if_pos h4];rfl
  rw[if_neg h4];by_cases h5:c<0
  ·rw[if_pos h5];rfl
  rw[if_neg h5];by_cases h6:1000000<c
  ·rw[if_pos h6];rfl
  rw[if_neg h6];by_cases h7:d<0
  ·rw[if_pos h7];rfl
  rw[if_neg h7];by_cases h8:1000000<d
  ·rw[if_pos h8];rfl
  rw[if_neg h8];by_cases h9:e<0
  ·rw[if_pos h9];rfl
  rw[if_neg h9];by_cases h10:1000000<e
  ·rw[if_pos h10];rfl
  rw[if_neg h10];by_cases h11:f<0
  ·rw[if_pos h11];rfl
  rw[if_neg h11];by_cases h12:1000000<f
  ·rw[if_pos h12];rfl
  rw[if_neg h12];exfalso;omega
theorem c9o(σ:List MO)(x y:Ch)(hx:x.ok)(hy:y.ok)(n:Nat)(hn:2<=n):a0b Tab n b4F [.agg x.row,.agg y.row] σ=some (.int .i64 (b3p x y),σ):=by
 obtain⟨n,rfl⟩:∃k,n=k+1:=⟨n-1,by omega⟩;have c1:=a8k σ x.p y.w hx.1 hy.2 n (by omega);have c2:=a8k σ x.p x.w hx.1 hx.2 n (by omega);have b1:=b3t hx.1 hy.2;have b2:=b3t hx.1 hx.2;simp only[b3p];generalize a8i x.p y.w=u at *
 generalize a8i x.p x.w=v at *
 obtain⟨⟨a,b,c,d,e,f⟩,⟨a',b',c',d',e',f'⟩⟩:=x;obtain⟨⟨a1,b1',c1',d1,e1,f1⟩,⟨a1',b1'',c1'',d1',e1',f1'⟩⟩:=y;simp only[a7v,W6.pv] at c1 c2;simp only[a0b,c0A,Q0,Sys.run,W6.pv,Ch.row,Q6,Q5];show ((a0f [.sh (.agg [_,_,_,_,_,_,_,_,_,_,_,_]),.sh (.agg [_,_,_,_,_,_,_,_,_,_,_,_])] _).bind _)=_;simp only[a0f,a0g,a0c,Q1,Q0,Q8,Q5,Q6,if_true];show (PT.ev _ b0R _).bind _=_;have q:(leB (-9223372036854775808) (u-v)&&leB (u-v) 9223372036854775807)=true:=by simp[leB];omega
 simp only[b0R,↓reduceIte,PT.ev,BE.safe,BE.pe,IE.pe,Q3,Q4,Q2,a0c,a0l,a0g,Q1,Q0,PEnv.push,Q6,Q5,SV.pvs,SV.pv,Qb,a0m,or_true,c1,c2,if_pos q]
def d9P(l:List Int):List (List PV):=l.map fun z=>[.int .i64 z]
theorem a2g(x:Ch):x.row=[.int .i64 x.p.a,.int .i64 x.p.b,.int .i64 x.p.c,.int .i64 x.p.d,.int .i64 x.p.e,.int .i64 x.p.f,.int .i64 x.w.a,.int .i64 x.w.b,.int .i64 x.w.c,.int .i64 x.w.d,.int .i64 x.w.e,.int .i64 x.w.f]:=rfl
theorem e0g(l:List Int):(d9P l).length=l.length:=by simp[d9P]
theorem d9z{l:List Int}{i:Nat}{z:Int}(h:l[i]?=some z):(d9P l)[i]?=some [.int .i64 z]:=by simp[d9P,h]
theorem b0w{l:List Ch}{i:Nat}{x:Ch}(h:l[i]?=some x):(l.map Ch.row)[i]?=some x.row:=by simp[h]
theorem d3j(σ:List MO)(l:List Ch)(P:PV)(hP:P.rowsOf 12=some (l.map Ch.row))(n:Nat)(hn:l.length+5<=n)(hl:l.length<=1000000) :
  a0b Tab n b1t [P] σ=some (.bool (l.all fun x=>decide x.ok),σ):=by
 obtain⟨n,rfl⟩:∃k,n=k+1:=⟨n-1,by omega⟩;obtain⟨p1,p2,p3⟩:=a0i hP;rw[Qf] at p1
 have loop:∀(fuel i:Nat),l.length-i<fuel->i<=l.length->a2W.loop (a0b Tab n) fuel 0 {i:=[(l.length:Int),(i:Int)],b:=[],v:=[P],m:=σ,k:=σ.length}=some (.bool ((l.drop i).all fun x=>decide x.ok),σ):=by
  intro fuel
  induction fuel with
  | zero=>intro i h;omega
  | succ fuel ihf =>
   intro i h1 h2;rw[Sys.loop,show a2W.loops[0]?=some a6S from rfl];simp only[Q0,a6S,↓reduceIte,PT.ev,BE.safe,BE.pe,IE.pe,PEnv.at,Q3,Q4,Q7,a0p,a0a,a0P,Qh,Qg,Nat.reduceAdd,Q2,a0l,a0g,Q1,Q0,PEnv.push,Q6,Q5,SV.pvs,SV.pv,BE.all,Qb,Q9,Qa,a0x,decide_eq_true_eq];by_cases hlt:i<l.length
   ·obtain⟨x,hx⟩:∃x,l[i]?=some x:=⟨_,QC hlt⟩
    rw[if_pos hlt,a5T hx,QD];have hloc:=a1d (off:=0) hP (b0w hx);have c1:=d0g σ x n (by omega);have:=ihf (i+1) (by omega) (by omega);rw[show ((i+1:Nat):Int)=(i:Int)+1 from by omega] at this;have q1:(leB 0 (i:Int)&&decide (i<l.length))=true:=by simp[leB,hlt]
    have q2:(leB (-9223372036854775808) ((i:Int)+1)&&leB ((i:Int)+1) 9223372036854775807)=true:=by simp[leB];omega
    generalize decide x.ok=q at *
    simp only[b3D,a2g] at c1;simp only[p1,a0x,↓reduceIte,Q3,Q4,Qe,Qh,Qg,Nat.reduceAdd,Qp,Qm,Qj,a0c,Q1,Q0,Q6,Q5,if_pos q1,hloc,a2g,c1];cases q with
    | false=>simp only[↓reduceIte,Q2,Q1,Q0,Qk,a0m,or_true,Qq]
    | true =>
     simp only[↓reduceIte,Q2,Q0,Qn,if_pos q2,Qr];exact this
   ·rw[if_neg hlt,show i=l.length by omega,Qu]
    simp only[↓reduceIte,Q2,Q1,Q0,a0m,or_true,QE]
 have h0:=loop n 0 (by omega) (QH _);simp only[a0b,b6p,Q0,Sys.run];show ((a0f [.sh (.one _)] _).bind _)=_;simp only[a0f,a0g,a0c,Q1,Q0,Q8,if_true,p3];show (PT.ev _ a7M _).bind _=_;simp only[a7M,↓reduceIte,PT.ev,BE.safe,BE.pe,IE.pe,PEnv.at,Q3,Q7,Q1,Q0,SV.pvs,SV.pv,BE.all,Q9,Qa,p1,p2];simpa using h0
def d9e(n:Nat)(z:Int):Bool:=decide (0<=z/\z<n)
def d9k(z:Int):Bool:=decide (-1099511627776<=z/\z<=1099511627776)
def d9x(n:Nat)(cyc vals:List Int):Bool:=!(decide (0<cyc.length/\0<vals.length)||decide (1000<cyc.length))&&cyc.all (d9e n)&&vals.all d9k
theorem e0y(σ:List MO)(l:List Ch)(P:PV)(hP:P.rowsOf 12=some (l.map Ch.row))(cyc vals:List Int)(C V:PV)(hC:C.rowsOf 1=some (d9P cyc))(hV:V.rowsOf 1=some (d9P vals))(n:Nat)(hn:cyc.length+vals.length+5<=n)(hc:cyc.length<=1000000)(hv:vals.length<=1000000) :
  a0b Tab n d9B [P,.agg [C,V]] σ=some (.bool (d9x l.length cyc vals),σ):=by
 obtain⟨n,rfl⟩:∃k,n=k+1:=⟨n-1,by omega⟩;obtain⟨p1,p2,p3⟩:=a0i hP;obtain⟨r1,r2,r3⟩:=a0i hC;obtain⟨s1,s2,s3⟩:=a0i hV;rw[Qf] at p1;rw[e0g] at r1 s1
 have loop1:∀(fuel i:Nat),vals.length-i<fuel->i<=vals.length->d8V.loop (a0b Tab n) fuel 1 {i:=[(vals.length:Int),(i:Int)],b:=[],v:=[V],m:=σ,k:=σ.length}=some (.bool ((vals.drop i).all d9k),σ):=by
  intro fuel
  induction fuel with
  | zero=>intro i h;omega
  | succ fuel ihf =>
   intro i h1 h2;rw[Sys.loop,show d8V.loops[1]?=some d9o from rfl];simp only[Q0,d9o,↓reduceIte,PT.ev,BE.safe,BE.pe,IE.pe,PEnv.at,Q3,Q4,Q7,a0p,a0a,a0P,Qh,Qg,Nat.reduceAdd,Q2,Q1,Q0,PEnv.push,Q6,Q5,SV.pvs,SV.pv,BE.all,Qb,Q9,Qa,a0x,decide_eq_true_eq];by_cases hlt:i<vals.length
   ·obtain⟨z,hz⟩:∃z,vals[i]?=some z:=⟨_,QC hlt⟩
    rw[if_pos hlt,a5T hz,QD];have hloc:=a1d (off:=0) hV (d9z hz);have:=ihf (i+1) (by omega) (by omega);rw[show ((i+1:Nat):Int)=(i:Int)+1 from by omega] at this;have q1:(leB 0 (i:Int)&&decide (i<vals.length))=true:=by simp[leB,hlt]
    have q2:(leB (-9223372036854775808) ((i:Int)+1)&&leB ((i:Int)+1) 9223372036854775807)=true:=by simp[leB];omega
    simp only[s1,a0x,↓reduceIte,Q3,Qe,Qh,Qg,Nat.reduceAdd,Qp,Qm,Qj,a0c,Q1,Q0,if_pos q1,hloc,a0Q];by_cases h3:z < -1099511627776
    ·rw[if_pos h3]
     have:d9k z=false:=by simp[d9k];omega
     simp only[↓reduceIte,Q2,Q1,Q0,a0m,or_true,this,Qq]
    ·rw[if_neg h3]
     by_cases h4:1099511627776<z
     ·rw[if_pos h4]
      have:d9k z=false:=by simp[d9k];omega
      simp only[↓reduceIte,Q2,Q1,Q0,a0m,or_true,this,Qq]
     ·rw[if_neg h4]
      have h5:d9k z=true:=by simp[d9k];omega
      simp only[Q0,if_pos q2,h5,Qr];exact this
   ·rw[if_neg hlt,show i=vals.length by omega,Qu]
    simp only[↓reduceIte,Q2,Q1,Q0,a0m,or_true,QE]
 have loop0:∀(fuel i:Nat),(cyc.length-i)+vals.length+1<fuel->i<=cyc.length->d8V.loop (a0b Tab n) fuel 0 {i:=[(cyc.length:Int),(i:Int)],b:=[],v:=[P,C,V],m:=σ,k:=σ.length}=some (.bool ((cyc.drop i).all (d9e l.length)&&vals.all d9k),σ):=by
  intro fuel
  induction fuel with
  | zero=>intro i h;omega
  | succ fuel ihf =>
   intro i h1 h2;rw[Sys.loop,show d8V.loops[0]?=some d9m from rfl];simp only[Q0,d9m,↓reduceIte,PT.ev,BE.safe,BE.pe,IE.pe,PEnv.at,Q3,Q4,Q7,Qd,a0p,a0a,a0P,Qh,Qg,Nat.reduceAdd,Q2,Q1,Q0,PEnv.push,Q6,Q5,SV.pvs,SV.pv,BE.all,Qb,Q9,Qa,a0x,decide_eq_true_eq];by_cases hlt:i<cyc.length
   ·obtain⟨z,hz⟩:∃z,cyc[i]?=some z:=⟨_,QC hlt⟩
    rw[if_pos hlt,a5T hz,QD];have hloc:=a1d (off:=0) hC (d9z hz);have:=ihf (i+1) (by omega) (by omega);rw[show ((i+1:Nat):Int)=(i:Int)+1 from by omega] at this;have q1:(leB 0 (i:Int)&&decide (i<cyc.length))=true:=by simp[leB,hlt]
    have q2:(leB (-9223372036854775808) ((i:Int)+1)&&leB ((i:Int)+1) 9223372036854775807)=true:=by simp[leB];omega
    simp only[p1,p2,r1,a0x,↓reduceIte,Q3,Qe,Qh,Qg,Nat.reduceAdd,Qp,Qm,Qj,a0c,Q1,Q0,if_pos q1,hloc,a0Q,a2H];by_cases h3:z<0
    ·rw[if_pos h3]
     have:d9e l.length z=false:=by simp[d9e];omega
     simp only[↓reduceIte,Q2,Q1,Q0,a0m,or_true,this,Qq]
    ·rw[if_neg h3]
     by_cases h4:(l.length:Int)<=z
     ·rw[if_pos h4]
      have:d9e l.length z=false:=by simp[d9e];omega
      simp only[↓reduceIte,Q2,Q1,Q0,a0m,or_true,this,Qq]
     ·rw[if_neg h4]
      have h5:d9e l.length z=true:=by simp[d9e];omega
      simp only[Q0,if_pos q2,h5,Qr];exact this
   ·rw[if_neg hlt,show i=cyc.length by omega,Qu]
    simp only[↓reduceIte,Q0,s1,s2,QE,Qr];have:=loop1 fuel 0 (by omega) (QH _);simpa using this
 have h0:=loop0 n 0 (by omega) (QH _);simp only[Qe] at h0;simp only[a0b,d9W,Q0,Sys.run];show ((a0f [.sh (.one _),.sh (.agg [_,_])] _).bind _)=_;simp only[a0f,a0g,a0c,Q1,Q0,Q8,Q5,Q6,if_true,p3,r3,s3];show (PT.ev _ d9s _).bind _=_;simp only[d9s,↓reduceIte,PT.ev,BE.safe,BE.pe,IE.pe,PEnv.at,Q3,Q4,Q7,Qd,Q1,Q0,SV.pvs,SV.pv,BE.all,Q9,Qa,r1,r2,s1,s2,a0Q];simp only[d9x];by_cases h1:0<cyc.length
 ·rw[if_pos (by omega)]
  by_cases h2:0<vals.length
  ·rw[if_pos (by omega)]
   simp only[↓reduceIte,Q2,Q1,Q0,Qn,a0m,or_true,h1,h2,and_self,decide_true,Qv,Qq]
  ·rw[if_neg (by omega)]
   by_cases h3:1000<cyc.length
   ·rw[if_pos (by omega)]
    simp only[↓reduceIte,Q2,Q1,Q0,Qn,a0m,or_true,h3,decide_true,Bool.or_true,Qq]
   ·rw[if_neg (by omega)]
    simp only[Q0,Qk,h2,h3,and_false,decide_false,Bool.or_self,Qr];simpa using h0
 ·rw[if_neg (by omega)]
  by_cases h3:1000<cyc.length
  ·omega
  ·rw[if_neg (by omega)]
   simp only[Q0,Qk,h1,h3,false_and,decide_false,Bool.or_self,Qr];simpa using h0
def W6.beq(x y:W6):Bool:=eqB x.a y.a&&(eqB x.b y.b&&(eqB x.c y.c&&(eqB x.d y.d&&(eqB x.e y.e&&eqB x.f y.f))))
def W6.isZ(x:W6):Bool:=eqB x.a 0&&(eqB x.b 0&&(eqB x.c 0&&(eqB x.d 0&&(eqB x.e 0&&eqB x.f 0))))
abbrev CV:=Ch×Int
def e0e(p:CV):Bool:=decide (a8i p.1.p p.1.w<=p.2)&&(!p.1.w.isZ||eqB p.2 0)
def e0f(p q:CV):Bool:=decide (q.2-p.2<=b3p p.1 q.1)
def d9K(z:List CV):Bool:=z.all fun p=>e0e p&&z.all (e0f p)
theorem e0L(p q:CV):e0f p q=true↔q.2-p.2<=a8i p.1.p q.1.w-a8i p.1.p p.1.w:=by
 unfold e0f;rw[decide_eq_true_iff];exact Iff.rfl
theorem e0r{l:List Ch}{vals:List Int}{i:Nat}{x:Ch}{v:Int}(hx:l[i]?=some x)(hv:vals[i]?=some v):(l.zip vals)[i]?=some (x,v):=by
 rw[List.getElem?_zip_eq_some];exact⟨hx,hv⟩
theorem d4G{α:Type}(a b c d e f a' b' c' d' e' f':α):QJ 6 [a,b,c,d,e,f,a',b',c',d',e',f']=[a',b',c',d',e',f']:=rfl
structure Pr where
 (nm:List UInt8) (s r p g:Int)
def Pr.row(x:Pr):List PV:=[.str x.nm,.int .i64 x.s,.int .i64 x.r,.int .i64 x.p,.int .i64 x.g]
structure Bd where
 (nm:List UInt8) (c b p:Int)
def Bd.row(x:Bd):List PV:=[.str x.nm,.int .i64 x.c,.int .i64 x.b,.int .i64 x.p]
theorem a7s(x:Pr):x.row=[.str x.nm,.int .i64 x.s,.int .i64 x.r,.int .i64 x.p,.int .i64 x.g]:=rfl
theorem a8o(x:Bd):x.row=[.str x.nm,.int .i64 x.c,.int .i64 x.b,.int .i64 x.p]:=rfl
theorem d0e{n:Nat}{ps:List PV}(h:a1i Try.prog n 83 ps):∃x:Pr,ps=x.row:=by
 obtain⟨m,_,h⟩:=a4H Try.underlying83 h;simp only[Q9,Qa,a4g] at h;obtain⟨_,_,rfl,h1,_,_,rfl,h2,_,_,rfl,h3,_,_,rfl,h4,_,_,rfl,h5,rfl⟩:=h;obtain⟨a,rfl⟩:=c2p (by kernel_rfl) h1;obtain⟨b,rfl,_⟩:=a1f (k:=.i64) (by kernel_rfl) h2;obtain⟨c,rfl,_⟩:=a1f (k:=.i64) (by kernel_rfl) h3;obtain⟨d,rfl,_⟩:=a1f (k:=.i64) (by kernel_rfl) h4;obtain⟨e,rfl,_⟩:=a1f (k:=.i64) (by kernel_rfl) h5;exact⟨⟨a,b,c,d,e⟩,rfl⟩
theorem c9U{n:Nat}{ps:List PV}(h:a1i Try.prog n 112 ps):∃x:Bd,ps=x.row/\loI .i64<=x.b/\x.b<=hiI .i64/\loI .i64<=x.p/\x.p<=hiI .i64:=by
 obtain⟨m,_,h⟩:=a4H Try.underlying112 h;simp only[Q9,Qa,a4g] at h;obtain⟨_,_,rfl,h1,_,_,rfl,h2,_,_,rfl,h3,_,_,rfl,h4,rfl⟩:=h;obtain⟨a,rfl⟩:=c2p (by kernel_rfl) h1;obtain⟨b,rfl,_⟩:=a1f (k:=.i64) (by kernel_rfl) h2;obtain⟨c,rfl,c1,c2⟩:=a1f (k:=.i64) (by kernel_rfl) h3;obtain⟨d,rfl,d1,d2⟩:=a1f (k:=.i64) (by kernel_rfl) h4;exact⟨⟨a,b,c,d⟩,rfl,c1,c2,d1,d2⟩
theorem a7C{α:Type}{row:α->List PV}{P:Program}{n:Nat}{t:TypeId}(h1:∀ps,a1i P n t ps->∃x:α,ps=row x):∀(rows:List (List PV)),(∀r∈rows,a1i P n t r)->∃l:List α,rows=l.map row
 | [],_=>⟨[],rfl⟩
 | r::rows,h=>by
  obtain⟨x,rfl⟩:=h1 r (h r (by simp));obtain⟨l,rfl⟩:=a7C h1 rows (fun q hq=>h q (by simp[hq]));exact⟨x::l,rfl⟩
structure St where
 (ps:List Pr) (bs:List Bd) (P B C A:PV)
structure St.Ok (s:St):Prop where
 P:s.P.rowsOf 5=some (s.ps.map Pr.row)
 B:s.B.rowsOf 4=some (s.bs.map Bd.row)
 C:s.C.one=true
 A:s.A.one=true
def St.pv(s:St):List PV:=[s.P,s.B,s.C,s.A]
def b4W(s:St)(i:Int):Bool:=leB 0 i&&ltB i (s.bs.length:Int)
theorem b0q(σ:List MO)(s:St)(hs:s.Ok)(i:Int)(n:Nat)(hn:1<=n):a0b Tab n a8S [.agg s.pv,.int .i64 i] σ=some (.bool (b4W s i),σ):=by
 obtain⟨n,rfl⟩:∃k,n=k+1:=⟨n-1,by omega⟩;obtain⟨p1,p2,p3⟩:=a0i hs.P;obtain⟨b1,b2,b3⟩:=a0i hs.B;rw[Qf] at p1 b1;simp only[a0b,c2d,Q0,Sys.run,St.pv];show ((a0f [.sh (.agg [_,_,_,_]),.sh (.one _)] _).bind _)=_;simp only[a0f,a0g,a0c,Q1,Q0,Q8,Q5,if_true,p3,b3,hs.C,hs.A];show (PT.ev _ b1D _).bind _=_;simp only[b1D,↓reduceIte,a0j,a0d,a0h,BE.safe,BE.pe,IE.pe,PEnv.at,Q3,Q4,Q2,Q1,Q0,SV.pv,b1,b2,a0m,or_true,b4W];cases leB 0 i<;>simp only[↓reduceIte,Q2,Q0,Qr,Qq]
def c2h(s:St)(i:Int)(x:Ch):Int:=if b4W s i=true then(match s.bs[i.toNat]? with|some b=>if eqB b.b 0=true then 0 else if ltB b.b (a8i x.p x.w)=true then 17 else 0|none=>0) else 6
theorem c7C{s:St}{i:Int}(h:b4W s i=true):∃k:Nat,i=(k:Int)/\k<s.bs.length/\i.toNat=k:=by
 simp only[b4W,Qy,a2H,a0Q] at h;exact⟨i.toNat,by omega,by omega,rfl⟩
theorem a6l{l:List Bd}{i:Nat}{x:Bd}(h:l[i]?=some x):(l.map Bd.row)[i]?=some x.row:=by simp[h]
theorem b4s(σ:List MO)(s:St)(hs:s.Ok)(i:Int)(x:Ch)(hx:x.ok)(n:Nat)(hn:1<=n)(hc:a0b Tab n a7v [.agg x.p.pv,.agg x.w.pv] σ=some (.int .i64 (a8i x.p x.w),σ)):a0b Tab (n+1) b0N [.agg s.pv,.int .i64 i,.agg x.row] σ=some (.int .i64 (c2h s i x),σ):=by
 obtain⟨p1,p2,p3⟩:=a0i hs.P;obtain⟨b1,b2,b3⟩:=a0i hs.B;rw[Qf] at p1 b1;have c1:=b0q σ s hs i n hn;simp only[a8S,a7v,St.pv,W6.pv] at c1 hc;rw[a0b];simp only[b4x,Q0,Sys.run,St.pv,a2g];show ((a0f [.sh (.agg [_,_,_,_]),.sh (.one _),.sh (.agg [_,_,_,_,_,_,_,_,_,_,_,_])] _).bind _)=_;simp only[a0f,a0g,a0c,Q1,Q0,Q8,Q5,Q6,if_true,p3,b3,hs.C,hs.A];show (PT.ev _ a6L _).bind _=_;simp only[a6L,↓reduceIte,a0j,a0d,a0h,a0u,a0n,BE.safe,BE.pe,IE.pe,PEnv.at,Q3,Q4,Q7,Qd,a0p,a0a,a0P,Qh,Qg,Nat.reduceAdd,Q2,a0c,a0l,a0g,Q1,Q0,PEnv.push,Q6,Q5,SV.pvs,SV.pv,Qb,c1,c2h];cases hh:b4W s i with
 | false=>simp only[↓reduceIte,Q2,Q1,Q0,Qk,a0m,or_true]
 | true =>
  obtain⟨k,rfl,hk,hkn⟩:=c7C hh;obtain⟨b,hb⟩:=a0U hk;have hloc:=a1d (off:=2) hs.B (a6l hb);have hd:decide (k<s.bs.length)=true:=dT0 hk;have dr:∀a b c d:PV,QJ 2 [a,b,c,d]=[c,d]:=fun _ _ _ _=>rfl
  have l12:(1:Nat)<=2:=by decide
  rw[hkn,hb];simp only[↓reduceIte,Q3,Q4,Qh,Qg,Nat.reduceAdd,Q2,Qm,Qj,a0c,Q1,Q0,Q6,Q5,Qb,Qn,b1,a0x,hd,le0,hloc,a8o,dr,if_pos l12];cases eqB b.b 0 with
  | true=>simp only[↓reduceIte,Q2,Q1,Q0,Qn,a0m,or_true]
  | false =>
   simp only[↓reduceIte,Q3,Q2,a0c,Q1,Q0,Qk,hc];cases ltB b.b (a8i x.p x.w)<;>simp only[↓reduceIte,Q2,Q1,Q0,a0m,or_true]
def c3M(z:Int):Bool:=leB 97 z&&leB z 122
def c8t(z:Int):Bool:=leB 48 z&&leB z 57
def c6F(z:Int):Bool:=c3M z||(c8t z||eqB z 95)
def b9z(c:UInt8):Bool:=c6F (c.toNat:Int)
theorem c7M{l:List UInt8}{i:Nat}{c:UInt8}(h:l[i]?=some c):PV.sAt (.str l) (i:Int)=(c.toNat:Int):=by simp[PV.sAt,h]
theorem c0k(l:List UInt8):PV.sLen (.str l)=(l.length:Int):=rfl
theorem is3(l:List UInt8):PV.isKind 3 (.str l)=true:=rfl
theorem a3M(l:List UInt8):PV.one (.str l)=true:=rfl
theorem c6n(f:Nat)(l:List PV):PV.one (.fn f l)=true:=rfl
theorem b9f(a b:List UInt8):PV.sEq (.str a) (.str b)=decide (a=b):=rfl
theorem d3U(a b:List UInt8):PV.sIs b (.str a)=decide (a=b):=rfl
theorem d2w(c:UInt8):(0:Int)<=(c.toNat:Int)/\(c.toNat:Int)<=255:=by have:=c.toNat_lt;omega
theorem c3c(σ:List MO)(z:Int)(n:Nat)(hn:1<=n):a0b Tab n b1E [.int .i32 z] σ=some (.bool (c3M z),σ):=by
 obtain⟨n,rfl⟩:∃k,n=k+1:=⟨n-1,by omega⟩;simp only[a0b,c1L,Q0,Sys.run];show ((a0f [.sh (.one _)] _).bind _)=_;simp only[a0f,a0g,a0c,Q1,Q0,Q8,if_true];show (PT.ev _ b1P _).bind _=_;simp only[b1P,↓reduceIte,a0j,a0d,BE.safe,BE.pe,IE.pe,Q3,Q0,SV.pv,c3M];cases leB 97 z<;>simp only[↓reduceIte,Q2,Q1,Q0,a0m,or_true,Qr,Qq]
theorem c9n(σ:List MO)(z:Int)(n:Nat)(hn:1<=n):a0b Tab n b8n [.int .i32 z] σ=some (.bool (c8t z),σ):=by
 obtain⟨n,rfl⟩:∃k,n=k+1:=⟨n-1,by omega⟩;simp only[a0b,c3u,Q0,Sys.run];show ((a0f [.sh (.one _)] _).bind _)=_;simp only[a0f,a0g,a0c,Q1,Q0,Q8,if_true];show (PT.ev _ b2H _).bind _=_;simp only[b2H,↓reduceIte,a0j,a0d,BE.safe,BE.pe,IE.pe,Q3,Q0,SV.pv,c8t];cases leB 48 z<;>simp only[↓reduceIte,Q2,Q1,Q0,a0m,or_true,Qr,Qq]
theorem d0u(σ:List MO)(z:Int)(n:Nat)(hn:2<=n):a0b Tab n a4J [.int .i32 z] σ=some (.bool (c6F z),σ):=by
 obtain⟨n,rfl⟩:∃k,n=k+1:=⟨n-1,by omega⟩;have c1:=c3c σ z n (by omega);have c2:=c9n σ z n (by omega);simp only[b1E,b8n] at c1 c2;simp only[a0b,c3v,Q0,Sys.run];show ((a0f [.sh (.one _)] _).bind _)=_;simp only[a0f,a0g,a0c,Q1,Q0,Q8,if_true];show (PT.ev _ b2P _).bind _=_;simp only[b2P,↓reduceIte,a0j,a0d,a0n,BE.safe,BE.pe,IE.pe,Q3,Q4,a0c,a0l,a0g,Q1,Q0,PEnv.push,Q6,Q5,Q8,SV.pvs,SV.pv,c1,c2,c6F];cases c3M z
 ·simp only[↓reduceIte,Q2,Qw]
  cases c8t z<;>simp only[↓reduceIte,Q2,Q1,Q0,a0m,or_true,Qv,Qw]
 ·simp only[↓reduceIte,Q2,Q1,Q0,a0m,or_true,Qv]
theorem c2T{α:Type}{p:α->Bool}{l:List α}{i:Nat}{c:α}(h:l[i]?=some c)(hc:p c=true):(l.drop i).takeWhile p=c::(l.drop (i+1)).takeWhile p:=by
 rw[a5T h,QK,if_pos hc]
theorem c3F{α:Type}{p:α->Bool}{l:List α}{i:Nat}{c:α}(h:l[i]?=some c)(hc:p c=false):(l.drop i).takeWhile p=[]:=by
 rw[a5T h,QK,hc];rfl
theorem d2B(σ:List MO)(l:List UInt8)(hl:l.length<=12)(n:Nat)(hn:20<=n):a0b Tab n c1c [.str l,.int .i64 0,.fn a4J []] σ=some (.str (l.takeWhile b9z),σ):=by
 obtain⟨n,rfl⟩:∃k,n=k+1:=⟨n-1,by omega⟩
 have loop:∀d i,i+d=l.length->∀fuel,a6f.loop (a0b Tab n) (fuel+d+1) 0 {i:=[0,(i:Int)],b:=[],v:=[.str l,.fn a4J []],m:=σ,k:=σ.length}=some (.str (l.take i++(l.drop i).takeWhile b9z),σ):=by
  intro d
  induction d with
  | zero =>
   intro i hi fuel;rw[Qs] at hi;subst hi;have hd:decide (l.length<l.length)=false:=by simp
   rw[Sys.loop,show a6f.loops[0]?=some a6J from rfl,Qu];have hc:(0:Int)<=0/\(0:Int)<=(l.length:Int)/\(l.length:Int)<=(l.length:Int):=by omega
   simp only[Q0,a6J,↓reduceIte,a0j,a0d,a0h,a6g,BE.safe,BE.pe,IE.pe,PEnv.at,Q3,Q4,Q7,Qd,Qe,Q2,Q1,Q0,Q6,Q5,Q8,SV.pv,is3,c0k,a0x,hd,a3c,a3b,if_pos hc,a0m,or_true,QL,c5w,List.takeWhile_nil,Int.toNat_zero]
  | succ d ih =>
   intro i hi fuel;have hlt:i<l.length:=by omega
   obtain⟨c,hc⟩:=a0U hlt;have hd:decide (i<l.length)=true:=dT0 hlt;have hu:=d2w c;have e32:(leB (-2147483648) (c.toNat:Int)&&leB (c.toNat:Int) 2147483647)=true:=by simp[leB];omega
   have c1:=d0u σ (c.toNat:Int) n (by omega);have hup:=a3I (show i<=1000000000 by omega);simp only[a4J] at c1;rw[Sys.loop,show a6f.loops[0]?=some a6J from rfl];cases hi2:b9z c with
   | true =>
    have hi3:c6F (c.toNat:Int)=true:=hi2;rw[hi3] at c1;have ih:=ih (i+1) (by omega) fuel;rw[a1q] at ih;simp only[Q0,a6J,↓reduceIte,a0j,a0d,a0h,a6g,a2l,a0k,BE.safe,BE.pe,IE.pe,PEnv.at,Q3,Q4,Q7,Qd,a0c,a0l,a0g,Q1,Q0,PEnv.push,Q6,Q5,Q8,SV.pvs,SV.pv,BE.all,Qb,Q9,Qa,is3,c0k,a0x,hd,le0,c7M hc,e32,a4J,c1,if_pos hup];rw[c2T hc hi2,show l.take i++c::(l.drop (i+1)).takeWhile b9z=l.take (i+1)++(l.drop (i+1)).takeWhile b9z by rw[QU,hc];simp];exact ih
   | false =>
    have hi3:c6F (c.toNat:Int)=false:=hi2;rw[hi3] at c1;have hcc:(0:Int)<=0/\(0:Int)<=(i:Int)/\(i:Int)<=(l.length:Int):=by omega
    simp only[Q0,a6J,↓reduceIte,a0j,a0d,a0h,a6g,a2l,a0k,BE.safe,BE.pe,IE.pe,PEnv.at,Q3,Q4,Q7,Qd,Qe,Q2,a0c,a0l,a0g,Q1,Q0,PEnv.push,Q6,Q5,Q8,SV.pvs,SV.pv,BE.all,Qb,Q9,Qa,is3,c0k,a0x,hd,le0,c7M hc,e32,a4J,c1,a3c,a3b,if_pos hcc,a0m,or_true,QL,c3F hc hi2,Int.toNat_zero]
 have:=loop l.length 0 (by omega) (n-l.length-1);rw[show n-l.length-1+l.length+1=n by omega,Qj,Qe,Q5] at this;simp only[a0b,c5i,Q0,Sys.run];show ((a0f [.sh (.one _),.sh (.one _),.sh (.one _)] _).bind _)=_;simp only[a0f,a0g,a0c,Q1,Q0,Q8,Q5,Q6,if_true,a3M,c6n];show (PT.ev _ b5n _).bind _=_;simp only[b5n,a0k,IE.pe,Q3,Q7,Qd,Q1,Q0,SV.pvs,SV.pv,BE.all,Q9,Qa];exact this
def b8b(l:List UInt8):Bool:=decide (1<=l.length)&&(decide (l.length<=12)&&(c3M (PV.sAt (.str l) 0)&&l.all b9z))
theorem b9p{α:Type}(p:α->Bool):∀l:List α,(l.takeWhile p=l)↔l.all p=true
 | []=>by simp
 | a::l=>by
  have ih:=b9p p l;rw[QK];cases h:p a<;>simp[h,ih]
theorem c4U(σ:List MO)(l:List UInt8)(n:Nat)(hn:30<=n):a0b Tab n b1X [.str l] σ=some (.bool (b8b l),σ):=by
 obtain⟨n,rfl⟩:∃k,n=k+1:=⟨n-1,by omega⟩;simp only[a0b,c1S,Q0,Sys.run];show ((a0f [.sh (.one _)] _).bind _)=_;simp only[a0f,a0g,a0c,Q1,Q8,];show (PT.ev _ b1W _).bind _=_;simp only[b1W,↓reduceIte,a0j,a0d,a0h,a0n,BE.safe,BE.pe,IE.pe,PEnv.at,Q3,Q4,Q7,a0c,a0l,a0g,Q1,Q0,PEnv.push,Q6,Q5,SV.pvs,SV.pv,Qb,is3,d3U,c0k];cases l with
 | nil=>simp only[↓reduceIte,Qg,Q2,Q1,Q0,Qn,decide_true,Qn,a0m,or_true,b8b];rfl
 | cons c l =>
  have h0:decide (c::l=[])=false:=by simp
  have hlen:decide (1<=(c::l).length)=true:=by simp
  have hp:ltB 0 ((c::l).length:Int)=true:=by rw[a0Q];simp
  have sa:PV.sAt (.str (c::l)) 0=(c.toNat:Int):=rfl;rw[h0];unfold b8b;rw[hlen,Qr,sa];generalize hl:c::l=L at *
  by_cases h12:L.length<=12
  ·have h1:leB (L.length:Int) 12=true:=by rw[a2H];omega
   have hu:=d2w c;have e32:(leB (-2147483648) (c.toNat:Int)&&leB (c.toNat:Int) 2147483647)=true:=by simp[leB];omega
   have c1:=c3c σ (c.toNat:Int) n (by omega);have c2:=d2B σ L h12 n (by omega);simp only[b1E,c1c,a4J] at c1 c2;rw[dT0 h12];cases hlo:c3M (c.toNat:Int) with
   | false =>
    rw[hlo] at c1;simp only[↓reduceIte,Q3,Q2,a0c,Q1,Q0,Qk,h1,hp,e32,c1,a0m,or_true,Qr,Qq]
   | true =>
    rw[hlo] at c1;simp only[↓reduceIte,Q3,Q2,a0c,Q1,Q0,Q5,Qk,is3,h1,hp,e32,c1,c2,a3M,b9f,a0m,or_true,Qr];rw[show decide (L.takeWhile b9z=L)=L.all b9z by rw[QS,decide_eq_true_iff];exact b9p _ _]
  ·have h1:leB (L.length:Int) 12=false:=by rw[b0K];omega
   rw[dF0 h12];simp only[↓reduceIte,Q2,Q1,Q0,Qk,h1,a0m,or_true,Qq]
theorem b0m{l:List Pr}{i:Nat}{x:Pr}(h:l[i]?=some x):(l.map Pr.row)[i]?=some x.row:=by simp[h]
def Pr.rng(x:Pr):Prop:=1<=x.s/\x.s<=4/\0<=x.r/\x.r<=1000000/\0<=x.p/\x.p<=1000/\0<=x.g/\x.g<=4
instance (x:Pr):Decidable x.rng:=by unfold Pr.rng;infer_instance
def b3A(before:List Pr)(x:Pr):Int:=if b8b x.nm=true then(if (before.any fun y=>decide (y.nm=x.nm))=true then 7 else if x.rng then 0 else 4) else 5
def b0b(ps:List Pr):Int:=ps.foldl (fun n x=>n*(x.s+1)) 1
def d3T(ps:List Pr):Int:=if ltB 1024 (b0b ps)=true then 12 else 0
def pgo(ps:List Pr):Nat->Nat->Int
 | 0,_=>d3T ps
 | d+1,i=>match ps[i]? with
  | some x=>if b3A (ps.take i) x=0 then pgo ps d (i+1) else b3A (ps.take i) x
  | none=>0
def b1N(ps:List Pr):Int:=if eqB (ps.length:Int) 0=true then 1 else if ltB 6 (ps.length:Int)=true then 3 else pgo ps ps.length 0
theorem b2h(σ:List MO)(z a b:Int)(n:Nat)(hn:1<=n):a0b Tab n b2X [.int .i64 z,.int .i64 a,.int .i64 b] σ=some (.bool (leB a z&&leB z b),σ):=by
 obtain⟨n,rfl⟩:∃k,n=k+1:=⟨n-1,by omega⟩;simp only[a0b,b8v,Q0,Sys.run];show ((a0f [.sh (.one _),.sh (.one _),.sh (.one _)] _).bind _)=_;simp only[a0f,a0g,a0c,Q1,Q0,Q8,Q5,Q6,if_true];show (PT.ev _ a9B _).bind _=_;simp only[a9B,↓reduceIte,a0j,a0d,BE.safe,BE.pe,IE.pe,Q3,Q4,Q0,SV.pv,];cases leB a z<;>simp only[↓reduceIte,Q2,Q1,Q0,a0m,or_true,Qr,Qq]
theorem d1C(σ:List MO)(l:List Pr)(P:PV)(hP:P.rowsOf 5=some (l.map Pr.row))(hl:l.length<=1000000)(nm:List UInt8)(n:Nat)(hn:l.length+2<=n) :
  ∃k:Int,a0b Tab n b6n [P,.str nm] σ=some (.tup [.int .i64 k,.bool (l.any fun x=>decide (x.nm=nm))],σ):=by
 obtain⟨n,rfl⟩:∃k,n=k+1:=⟨n-1,by omega⟩;obtain⟨p1,p2,p3⟩:=a0i hP;rw[Qf] at p1
 have loop:∀d i,i+d=l.length->∃k:Int,∀fuel,a3h.loop (a0b Tab n) (fuel+d+1) 0 {i:=[(l.length:Int),(i:Int)],b:=[],v:=[.str nm,P],m:=σ,k:=σ.length}=some (.tup [.int .i64 k,.bool ((l.drop i).any fun x=>decide (x.nm=nm))],σ):=by
  intro d
  induction d with
  | zero =>
   intro i hi;rw[Qs] at hi;subst hi;refine⟨0,fun fuel=>?_⟩;have hd:decide (l.length<l.length)=false:=by simp
   rw[Sys.loop,show a3h.loops[0]?=some a3C from rfl,Qu];simp only[Q0,a3C,↓reduceIte,a0j,a0d,BE.safe,BE.pe,IE.pe,Q3,Q4,Q2,Q1,Q0,SV.pvs,SV.pv,a0x,hd,a0m,or_true,QM]
  | succ d ih =>
   intro i hi;have hlt:i<l.length:=by omega
   obtain⟨x,hx⟩:=a0U hlt;have hd:decide (i<l.length)=true:=dT0 hlt;have h0:=a1d (off:=0) hP (b0m hx);have hup:=a3I (show i<=1000000000 by omega);rw[a5T hx,List.any_cons];by_cases hn:x.nm=nm
   ·refine⟨i,fun fuel=>?_⟩
    rw[dT0 hn,Qv,Sys.loop,show a3h.loops[0]?=some a3C from rfl];simp only[Q0,a3C,↓reduceIte,a0j,a0d,a0h,a0u,a0k,BE.safe,BE.pe,IE.pe,PEnv.at,Q3,Q4,Q7,Qd,a0p,a0a,a0P,Qe,Qh,Qg,Nat.reduceAdd,Qp,Q2,Qm,Qj,a0c,Q1,Q0,PEnv.push,Q6,Q5,SV.pvs,SV.pv,BE.all,Qb,Q9,Qa,p1,a0x,hd,le0,h0,a7s,a3M,is3,b9f,dT0 hn,a0m,or_true]
   ·obtain⟨k,ih⟩:=ih (i+1) (by omega)
    refine⟨k,fun fuel=>?_⟩;have ih:=ih fuel;rw[a1q] at ih;rw[dF0 hn,Qw,Sys.loop,show a3h.loops[0]?=some a3C from rfl];simp only[Q0,a3C,↓reduceIte,a0j,a0d,a0h,a0u,a0k,BE.safe,BE.pe,IE.pe,PEnv.at,Q3,Q4,Q7,Qd,a0p,a0a,a0P,Qe,Qh,Qg,Nat.reduceAdd,Qp,Q2,Qm,Qj,a0c,Q1,Q0,PEnv.push,Q6,Q5,SV.pvs,SV.pv,BE.all,Qb,Q9,Qa,p1,a0x,hd,le0,h0,a7s,a3M,is3,b9f,dF0 hn,if_pos hup];exact ih
 obtain⟨k,hk⟩:=loop l.length 0 (by omega);have:=hk (n-l.length-1);rw[show n-l.length-1+l.length+1=n by omega,Qe] at this;refine⟨k,?_⟩;simp only[a0b,c2i,Q0,Sys.run];show ((a0f [.sh (.one _),.sh (.one _)] _).bind _)=_;simp only[a0f,a0g,a0c,Q1,Q0,Q8,Q5,Q6,if_true,p3,a3M];show (PT.ev _ b1O _).bind _=_;simp only[b1O,↓reduceIte,a0h,a0k,BE.safe,BE.pe,IE.pe,PEnv.at,Q3,Q7,Qd,Q1,Q0,SV.pvs,SV.pv,BE.all,Q9,Qa,p1,p2];exact this
def a1J(l:List Pr):W6:=⟨((l.map Pr.s)[0]?).getD 0,((l.map Pr.s)[1]?).getD 0,((l.map Pr.s)[2]?).getD 0,((l.map Pr.s)[3]?).getD 0,((l.map Pr.s)[4]?).getD 0,((l.map Pr.s)[5]?).getD 0⟩
def c0o(P:PV)(σ:List MO)(N i:Nat)(w:W6):PEnv:={i:=[(N:Int),(i:Int),w.a,w.b,w.c,w.d,w.e,w.f],b:=[],v:=[P],m:=σ,k:=σ.length}
theorem b3f(σ:List MO)(l:List Pr)(P:PV)(hP:P.rowsOf 5=some (l.map Pr.row))(hl:l.length<=6)(n:Nat)(hn:10<=n):a0b Tab n a5s [P] σ=some (.agg (a1J l).pv,σ):=by
 obtain⟨n,rfl⟩:∃k,n=k+1:=⟨n-1,by omega⟩;obtain⟨p1,p2,p3⟩:=a0i hP;rw[Qf] at p1
 have step:∀i x,l[i]?=some x->∀fuel (w:W6),a1S.loop (a0b Tab n) (fuel+1) 0 (c0o P σ l.length i w)=a1S.loop (a0b Tab n) fuel 0 (c0o P σ l.length (i+1) (match i with|0=>{w with a:=x.s}|1=>{w with b:=x.s}|2=>{w with c:=x.s}|3=>{w with d:=x.s}|4=>{w with e:=x.s}|_=>{w with f:=x.s})):=by
  intro i x hx fuel w;have hlt:i<l.length:=(QN.1 hx).1;have hd:decide (i<l.length)=true:=dT0 hlt;have h0:=a1d (off:=0) hP (b0m hx);rw[Sys.loop,show a1S.loops[0]?=some a4P from rfl];simp only[c0o];simp only[Q0,a4P,↓reduceIte,a0d,a0h,a0u,a0k,BE.safe,BE.pe,IE.pe,PEnv.at,Q3,Q4,Q7,a0p,a0a,a0P,Qe,Qh,Qg,Nat.reduceAdd,Qp,Q2,Qm,Qj,a0c,Q1,Q0,PEnv.push,Q6,Q5,SV.pvs,SV.pv,BE.all,Qb,Q9,Qa,p1,a0x,hd,le0,h0,a7s,a3M];obtain rfl|rfl|rfl|rfl|rfl|rfl:i=0\/i=1\/i=2\/i=3\/i=4\/i=5:=by omega
  all_goals rfl
 have fin:∀fuel (w:W6),a1S.loop (a0b Tab n) (fuel+1) 0 (c0o P σ l.length l.length w)=some (.agg w.pv,σ):=by
  intro fuel w;have hd:decide (l.length<l.length)=false:=by simp
  rw[Sys.loop,show a1S.loops[0]?=some a4P from rfl];simp only[c0o];simp only[Q0,a4P,↓reduceIte,a0j,a0d,BE.safe,BE.pe,IE.pe,Q3,Q4,Q2,Q1,Q0,SV.pvs,SV.pv,a0x,hd,a0m,or_true,W6.pv]
 have key:a1S.loop (a0b Tab n) n 0 (c0o P σ l.length 0 ⟨0,0,0,0,0,0⟩)=some (.agg (a1J l).pv,σ):=by
  obtain⟨m,rfl⟩:∃m,n=m+7:=⟨n-7,by omega⟩;have g:∀k,k<l.length->∃x,l[k]?=some x:=fun k hk=>a0U hk
  rcases l with _|⟨a,_|⟨b,_|⟨c,_|⟨d,_|⟨e,_|⟨f,_|⟨z,r⟩⟩⟩⟩⟩⟩⟩
  ·exact fin _ _
  ·rw[step 0 a rfl];exact fin _ _
  ·rw[step 0 a rfl,step 1 b rfl];exact fin _ _
  ·rw[step 0 a rfl,step 1 b rfl,step 2 c rfl];exact fin _ _
  ·rw[step 0 a rfl,step 1 b rfl,step 2 c rfl,step 3 d rfl];exact fin _ _
  ·rw[step 0 a rfl,step 1 b rfl,step 2 c rfl,step 3 d rfl,step 4 e rfl];exact fin _ _
  ·rw[step 0 a rfl,step 1 b rfl,step 2 c rfl,step 3 d rfl,step 4 e rfl,step 5 f rfl];exact fin _ _
  ·simp at hl
 simp only[a0b,b8S,Q0,Sys.run];show ((a0f [.sh (.one _)] _).bind _)=_;simp only[a0f,a0g,a0c,Q1,Q0,Q8,if_true,p3];show (PT.ev _ b0n _).bind _=_;simp only[b0n,↓reduceIte,a0h,a0k,BE.safe,BE.pe,IE.pe,PEnv.at,Q3,Q7,Q1,Q0,SV.pvs,SV.pv,BE.all,Q9,Qa,p1,p2];exact key
def c6t(w:W6):Int:=if eqB (a3S w) 0=true then(let p:=((((((1*(w.a+1))*(w.b+1))*(w.c+1))*(w.d+1))*(w.e+1))*(w.f+1));if ltB 1024 p=true then 0 else p) else 0
theorem b3z{x y b:Int}(h1:1<=x)(h2:x<=b)(h3:1<=y)(h4:y<=5):1<=x*y/\x*y<=b*5:=by
 constructor
 ·calc (1:Int)=1*1:=rfl
   _<=x*y:=Qt h1 h3 (by omega) (by omega)
 ·exact Qt h2 h4 (by omega) (by omega)
theorem c9S(σ:List MO)(w:W6)(n:Nat)(hn:2<=n):a0b Tab n b6f [.agg w.pv] σ=some (.int .i64 (c6t w),σ):=by
 obtain⟨n,rfl⟩:∃k,n=k+1:=⟨n-1,by omega⟩;have c1:=a2I σ w n (by omega);simp only[a2P,W6.pv] at c1;simp only[a0b,c2f,Q0,Sys.run,W6.pv];show ((a0f [.sh (.agg [_,_,_,_,_,_])] _).bind _)=_;simp only[a0f,a0g,a0c,Q1,Q0,Q8,if_true];show (PT.ev _ b1A _).bind _=_;simp only[b1A,↓reduceIte,a0j,a0d,a0h,a0n,BE.safe,BE.pe,IE.pe,Q3,Q4,a0c,a0l,a0g,Q1,Q0,PEnv.push,Q6,Q5,SV.pvs,SV.pv,Qb,c1];by_cases hw:w.ok
 case neg =>
  have hb:eqB (a3S w) 0=false:=by unfold a3S;rw[if_neg hw];rfl
  simp only[↓reduceIte,Q2,Q1,Q0,Qk,hb,a0m,or_true,c6t]
 have hb:eqB (a3S w) 0=true:=by unfold a3S;rw[if_pos hw];rfl
 obtain⟨a,b,c,d,e,f⟩:=w;have hw':=hw;simp only[W6.ok] at hw;simp only[↓reduceIte,Q2,Q1,Qn,hb,a0m,or_true,c6t];obtain⟨q1,q2⟩:=b3z (x:=1) (y:=a+1) (b:=1) (by omega) (by omega) (by omega) (by omega);generalize 1*(a+1)=x1 at *
 obtain⟨q3,q4⟩:=b3z (x:=x1) (y:=b+1) q1 q2 (by omega) (by omega);generalize x1*(b+1)=x2 at *
 obtain⟨q5,q6⟩:=b3z (x:=x2) (y:=c+1) q3 q4 (by omega) (by omega);generalize x2*(c+1)=x3 at *
 obtain⟨q7,q8⟩:=b3z (x:=x3) (y:=d+1) q5 q6 (by omega) (by omega);generalize x3*(d+1)=x4 at *
 obtain⟨q9,q10⟩:=b3z (x:=x4) (y:=e+1) q7 q8 (by omega) (by omega);generalize x4*(e+1)=x5 at *
 obtain⟨q11,q12⟩:=b3z (x:=x5) (y:=f+1) q9 q10 (by omega) (by omega);generalize x5*(f+1)=x6 at *
 repeat rw[if_pos (a0C (by omega))]
 cases ltB 1024 x6<;>simp only[↓reduceIte,Q2,Q0,]
theorem d2e{l:List Pr}(hl:l.length<=6)(hr:∀x∈l,x.rng):eqB (c6t (a1J l)) 0=ltB 1024 (b0b l):=by
 have hw:(a1J l).ok:=by
  have g:∀i:Nat,0<=((l.map Pr.s)[i]?).getD 0/\((l.map Pr.s)[i]?).getD 0<=4:=by
   intro i;cases h:(l.map Pr.s)[i]? with
   | none=>simp
   | some z =>
    have:=QP h;obtain⟨x,hx,rfl⟩:=List.mem_map.1 this;have:=hr x hx;simp only[Pr.rng] at this;simp only[QQ];omega
  exact⟨(g 0).1,(g 0).2,(g 1).1,(g 1).2,(g 2).1,(g 2).2,(g 3).1,(g 3).2,(g 4).1,(g 4).2,(g 5).1,(g 5).2⟩
 have hb:eqB (a3S (a1J l)) 0=true:=by unfold a3S;rw[if_pos hw];rfl
 have hp:((((((1*((a1J l).a+1))*((a1J l).b+1))*((a1J l).c+1))*((a1J l).d+1))*((a1J l).e+1))*((a1J l).f+1))=b0b l:=by
  match l,hl with
  | [],_=>rfl
  | [a],_=>simp[a1J,b0b]
  | [a,b],_=>simp[a1J,b0b]
  | [a,b,c],_=>simp[a1J,b0b]
  | [a,b,c,d],_=>simp[a1J,b0b]
  | [a,b,c,d,e],_=>simp[a1J,b0b]
  | [a,b,c,d,e,f],_=>simp[a1J,b0b]
 have hpos:1<=b0b l:=by
  rw[<- hp];simp only[W6.ok] at hw
  have m:∀{x y:Int},1<=x->1<=y->1<=x*y:=fun h1 h2=>by
   calc (1:Int)=1*1:=rfl
    _<=_:=Qt h1 h2 (by omega) (by omega)
  exact m (m (m (m (m (m (by omega) (by omega)) (by omega)) (by omega)) (by omega)) (by omega)) (by omega)
 unfold c6t;rw[if_pos hb];simp only[hp];cases h:ltB 1024 (b0b l) with
 | true=>simp[eqB]
 | false=>simp[eqB];omega
theorem d4c{l:List Pr}{i:Nat}(h:i<=l.length):(0:Int)<=0/\(0:Int)<=(i:Int)/\(i:Int)<=((l.map Pr.row).length:Int):=by rw[Qf];omega
theorem b5C(σ:List MO)(l:List Pr)(P:PV)(hP:P.rowsOf 5=some (l.map Pr.row))(n:Nat)(hn:50<=n):a0b Tab n a8f [P] σ=some (.int .i64 (b1N l),σ):=by
 obtain⟨n,rfl⟩:∃k,n=k+1:=⟨n-1,by omega⟩;obtain⟨p1,p2,p3⟩:=a0i hP;rw[Qf] at p1;simp only[a0b,c0v,Q0,Sys.run];show ((a0f [.sh (.one _)] _).bind _)=_;simp only[a0f,a0g,a0c,Q1,Q0,Q8,if_true,p3];show (PT.ev _ b1h _).bind _=_;simp only[b1h,↓reduceIte,a0j,a0d,a0h,a0k,BE.safe,BE.pe,IE.pe,PEnv.at,Q3,Q7,Q1,Q0,SV.pvs,SV.pv,BE.all,Q9,Qa,p1,p2,b1N];cases h0:eqB (l.length:Int) 0 with
 | true=>simp only[↓reduceIte,Q2,Q1,Q0,a0m,or_true]
 | false =>
 cases h6:ltB 6 (l.length:Int) with
 | true=>simp only[↓reduceIte,Q2,Q1,Q0,a0m,or_true]
 | false =>
 rw[a0F] at h6
 have loop:∀d i,i+d=l.length->(∀x∈l.take i,x.rng)->∀fuel,a3G.loop (a0b Tab n) (fuel+d+1) 0 {i:=[(l.length:Int),(i:Int)],b:=[],v:=[P],m:=σ,k:=σ.length}=some (.int .i64 (pgo l d i),σ):=by
  intro d
  induction d with
  | zero =>
   intro i hi hr fuel;rw[Qs] at hi;subst hi;have hd:decide (l.length<l.length)=false:=by simp
   have c1:=b3f σ l P hP (by omega) n (by omega);have c2:=c9S σ (a1J l) n (by omega);have c3:=d2e (l:=l) (by omega) (by rwa [c5w] at hr);simp only[a5s,b6f,W6.pv] at c1 c2;rw[Sys.loop,show a3G.loops[0]?=some a5n from rfl];simp only[Q0,a5n,↓reduceIte,a0j,a0d,a0n,BE.safe,BE.pe,IE.pe,Q3,Q4,Q7,Q2,a0c,a0l,a0g,Q1,Q0,PEnv.push,Q6,Q5,SV.pvs,SV.pv,a0x,hd,c1,c2,c3,pgo,d3T];cases ltB 1024 (b0b l)<;>simp only[↓reduceIte,Q2,Q1,Q0,a0m,or_true]
  | succ d ih =>
   intro i hi hr fuel;have hlt:i<l.length:=by omega
   obtain⟨x,hx⟩:=a0U hlt;have hd:decide (i<l.length)=true:=dT0 hlt;have hq:=a1d (off:=0) hP (b0m hx);have hup:=a3I (show i<=1000000000 by omega);have c1:=c4U σ x.nm n (by omega);have hcut:((((l.map Pr.row).take (i:Int).toNat).drop (0:Int).toNat))=(l.take i).map Pr.row:=by simp[Qz]
   obtain⟨k,c2⟩:=d1C σ (l.take i) (.sl 5 ((l.take i).map Pr.row)) (a1C _ _) (by simp;omega) x.nm n (by simp;omega);have b1:=b2h σ x.s 1 4 n (by omega);have b2:=b2h σ x.r 0 1000000 n (by omega);have b3:=b2h σ x.p 0 1000 n (by omega);have b4:=b2h σ x.g 0 4 n (by omega);simp only[b1X,b6n,b2X] at c1 c2 b1 b2 b3 b4;rw[pgo,hx,Sys.loop,show a3G.loops[0]?=some a5n from rfl];have hc:=d4c (l:=l) (i:=i) (by omega);simp only[Q0,a5n,↓reduceIte,a0j,a0d,a0h,a0u,a5L,a0n,a0k,BE.safe,BE.pe,IE.pe,PEnv.at,Q3,Q4,Q7,Qd,a0p,a0a,a0P,Qe,Qh,Qg,Nat.reduceAdd,Qp,Q2,Qm,Qj,a0c,a0l,a0g,Q1,Q0,PEnv.push,Q6,Q5,SV.pvs,SV.pv,BE.all,Qb,Q9,Qa,p1,a0x,hd,le0,hq,a7s,a3M,c1,hP,a3c,a3b,if_pos hc,hcut];have h50:¬((5:Int)=0):=by decide
   have h70:¬((7:Int)=0):=by decide
   have h40:¬((4:Int)=0):=by decide
   cases hnm:b8b x.nm with
   | false =>
    have hp:b3A (l.take i) x=5:=by unfold b3A;rw[hnm];rfl
    rw[hp,if_neg h50];simp only[↓reduceIte,Q2,Q1,Q0,Qk,a0m,or_true]
   | true =>
    simp only[↓reduceIte,Q3,Q4,Q2,a0c,a0g,Q1,Q0,Q6,Q5,Q8,Qn,a1h,c2];cases hany:((l.take i).any fun y=>decide (y.nm=x.nm)) with
    | true =>
     have hp:b3A (l.take i) x=7:=by unfold b3A;rw[hnm,hany];rfl
     rw[hp,if_neg h70];simp only[↓reduceIte,Q2,Q1,Q0,a0m,or_true]
    | false =>
     simp only[↓reduceIte,Q3,Q4,Q2,a0c,Q1,Q0,Q6,Q5,b1];by_cases hrng:x.rng
     ·have ih:=ih (i+1) (by omega) (by
       intro y hy;rw[QU,hx] at hy;simp only[Option.toList_some,List.mem_append,List.mem_singleton] at hy;rcases hy with hy|rfl
       ·exact hr y hy
       ·exact hrng) fuel
      rw[a1q] at ih;have hp:b3A (l.take i) x=0:=by unfold b3A;rw[hnm,hany,if_pos hrng];rfl
      rw[hp,if_pos rfl];simp only[Pr.rng] at hrng;have e1:(leB 1 x.s&&leB x.s 4)=true:=by simp[leB];omega
      have e2:(leB 0 x.r&&leB x.r 1000000)=true:=by simp[leB];omega
      have e3:(leB 0 x.p&&leB x.p 1000)=true:=by simp[leB];omega
      have e4:(leB 0 x.g&&leB x.g 4)=true:=by simp[leB];omega
      rw[e1];rw[e2] at b2;rw[e3] at b3;rw[e4] at b4;simp only[↓reduceIte,Q3,Q4,Q2,a0c,Q1,Q0,Q6,Q5,Q8,Qn,b2,b3,b4,if_pos hup];exact ih
     ·have hp:b3A (l.take i) x=4:=by unfold b3A;rw[hnm,hany,if_neg hrng];rfl
      rw[hp,if_neg h40];cases e1:(leB 1 x.s&&leB x.s 4) with
      | false=>simp only[↓reduceIte,Q2,Q1,Q0,Qk,a0m,or_true]
      | true =>
      cases e2:(leB 0 x.r&&leB x.r 1000000) with
      | false=>rw[e2] at b2;simp only[↓reduceIte,Q3,Q2,a0c,Q1,Q0,Qn,Qk,b2,a0m,or_true]
      | true =>
      cases e3:(leB 0 x.p&&leB x.p 1000) with
      | false=>rw[e2] at b2;rw[e3] at b3;simp only[↓reduceIte,Q3,Q4,Q2,a0c,Q1,Q0,Q6,Q5,Q8,Qn,Qk,b2,b3,a0m,or_true]
      | true =>
      cases e4:(leB 0 x.g&&leB x.g 4) with
      | false=>rw[e2] at b2;rw[e3] at b3;rw[e4] at b4;simp only[↓reduceIte,Q3,Q4,Q2,a0c,Q1,Q0,Q6,Q5,Qn,Qk,b2,b3,b4,a0m,or_true]
      | true =>
       exfalso;apply hrng;simp only[Qy,a2H] at e1 e2 e3 e4;simp only[Pr.rng];omega
 have:=loop l.length 0 (by omega) (by simp) (n-l.length-1);rw[show n-l.length-1+l.length+1=n by omega] at this;have h6':ltB 6 (l.length:Int)=false:=by rw[a0F];omega
 simp only[↓reduceIte,Q2,Q0,];exact this
section
variable (σ:List MO)(l:List Pr)(P:PV)(hP:P.rowsOf 5=some (l.map Pr.row))(hl:l.length<=6)(n:Nat)(hn:40<=n)
end
theorem c5v{ps:List Pr}:∀d i,i+d=ps.length->pgo ps d i=0->∀k x,i<=k->ps[k]?=some x->x.rng
 | 0,i,hi,_,k,x,hk,hx=>by have:=(QN.1 hx).1;omega
 | d+1,i,hi,h,k,x,hk,hx=>by
  obtain⟨y,hy⟩:=a0U (show i<ps.length by omega);rw[pgo,hy] at h;simp only at h;split at h
  ·rename_i hb
   by_cases hki:k=i
   ·subst hki
    rw[hx] at hy;cases hy;unfold b3A at hb;split at hb
    ·split at hb
     ·cases hb
     ·split at hb
      ·assumption
      ·cases hb
    ·cases hb
   ·exact c5v d (i+1) (by omega) h k x (by omega) hx
  ·rename_i hb;exact absurd h hb
theorem b0L{ps:List Pr}(h:b1N ps=0):ps.length<=6/\∀x∈ps,x.rng:=by
 unfold b1N at h;split at h
 ·cases h
 ·split at h
  ·cases h
  ·rename_i h6
   rw[Bool.not_eq_true,a0F] at h6;refine⟨by omega,fun x hx=>?_⟩;obtain⟨k,hk⟩:=List.mem_iff_getElem?.1 hx;exact c5v ps.length 0 (by omega) h k x (by omega) hk
def wl(w:W6):List Int:=[w.a,w.b,w.c,w.d,w.e,w.f]
def a7N(w:W6)(i:Nat):Int:=((wl w)[i]?).getD 0
def b8Y(f:Pr->Int)(l:List Pr)(i:Nat):Int:=((l[i]?).map f).getD 0
def ptS(f:Pr->Int)(l:List Pr)(w:W6):Nat->Int
 | 0=>0
 | i+1=>ptS f l w i+a7N w i*b8Y f l i
theorem c3H{w:W6}(hw:w.ok)(i:Nat):0<=a7N w i/\a7N w i<=4:=by
 simp only[W6.ok] at hw;unfold a7N wl;rcases i with _|_|_|_|_|_|i<;>simp<;>omega
theorem c5X{f:Pr->Int}{l:List Pr}{w:W6}{b:Int}(hw:w.ok)(hb:0<=b)(hf:∀x∈l,0<=f x/\f x<=b):∀i,0<=ptS f l w i/\ptS f l w i<=(i:Int)*(4*b)
 | 0=>by simp[ptS]
 | i+1=>by
  have ih:=c5X hw hb hf i;have h1:=c3H hw i
  have h2:0<=b8Y f l i/\b8Y f l i<=b:=by
   unfold b8Y;cases h:l[i]? with
   | none=>simp;omega
   | some x=>simpa using hf x (QP h)
  have h3:0<=a7N w i*b8Y f l i:=QB h1.1 h2.1;have h4:a7N w i*b8Y f l i<=4*b:=Qt h1.2 h2.2 h2.1 (by omega);simp only[ptS];refine⟨by omega,?_⟩;rw[show ((i+1:Nat):Int)*(4*b)=(i:Int)*(4*b)+4*b by rw[Int.natCast_add,Int.add_mul];simp];omega
def b9H(l:List Pr)(w:W6):Int:=if eqB (b1N l) 0=true then(if eqB (a3S w) 0=true then ptS Pr.p l w l.length else 0) else 0
section
variable (σ:List MO)(l:List Pr)(P:PV)(hP:P.rowsOf 5=some (l.map Pr.row))(n:Nat)(w:W6)
end
theorem d2z(σ:List MO)(x:Pr)(n:Nat)(hn:1<=n):a0b Tab n a3f [.agg x.row] σ=some (.int .i64 x.p,σ):=by
 obtain⟨n,rfl⟩:∃k,n=k+1:=⟨n-1,by omega⟩;simp only[a0b,b7F,Q0,Sys.run,a7s];show ((a0f [.sh (.agg [_,_,_,_,_])] _).bind _)=_;simp only[a0f,a0g,a0c,Q1,Q0,Q8,if_true,a3M];show (PT.ev _ a8Q _).bind _=_;simp only[a8Q,↓reduceIte,a0j,IE.pe,Q3,Q4,Q2,Q1,Q0,SV.pv,a0m,or_true]
def d0M(σ:List MO)(P F:PV)(is:List Int)(w:W6):PEnv:={i:=is++[w.a,w.b,w.c,w.d,w.e,w.f],b:=[],v:=[F,P],m:=σ,k:=σ.length}
theorem c9O(σ:List MO)(l:List Pr)(P:PV)(hP:P.rowsOf 5=some (l.map Pr.row))(w:W6)(hw:w.ok)(hl:l.length<=6)(hr:∀x∈l,x.rng)(n:Nat)(hn:1<=n):∀d i,i+d=l.length->∀fuel,
  a1x.loop (a0b Tab n) (fuel+d+1) 0 (d0M σ P (.fn a3f []) [ptS Pr.p l w i,(l.length:Int),(i:Int)] w)=some (.int .i64 (ptS Pr.p l w l.length),σ):=by
 obtain⟨p1,p2,p3⟩:=a0i hP;rw[Qf] at p1;intro d
 induction d with
 | zero =>
  intro i hi fuel;rw[Qs] at hi;subst hi;have hd:decide (l.length<l.length)=false:=by simp
  rw[Sys.loop,show a1x.loops[0]?=some a1F from rfl];simp only[Q0,d0M,a1F,↓reduceIte,a0j,a0d,BE.safe,BE.pe,IE.pe,Q3,Q4,Q2,Q1,Q0,Q6,Q5,SV.pv,a0x,hd,a0m,or_true]
 | succ d ih =>
  intro i hi fuel;have hlt:i<l.length:=by omega
  obtain⟨x,hx⟩:=a0U hlt;have hd:decide (i<l.length)=true:=dT0 hlt;have hxr:=hr x (QP hx);simp only[Pr.rng] at hxr;have hq:=a1d (off:=0) hP (b0m hx);have hw1:=c3H hw i;have b1:=c5X (f:=Pr.p) (b:=1000) hw (by omega) (fun y hy=>by have:=hr y hy;simp only[Pr.rng] at this;omega) i;have c1:=d2z σ x n hn;have ih:=ih (i+1) (by omega) fuel;rw[a1q] at ih;have k1:ptS Pr.p l w (i+1)=ptS Pr.p l w i+a7N w i*x.p:=by simp only[ptS,b8Y,hx,Q1,QQ]
  have hm:0<=a7N w i*x.p/\a7N w i*x.p<=4*1000:=⟨QB hw1.1 (by omega),Qt hw1.2 (by omega) (by omega) (by omega)⟩;rw[k1] at ih;generalize ptS Pr.p l w i=s1 at *
  have q1:=a0C (z:=a7N w i*x.p) (by omega);have q2:=a0C (z:=s1+a7N w i*x.p) (by omega);simp only[a3f,a7s] at c1;rw[<- ih,show fuel+(d+1)+1=(fuel+d+1)+1 from rfl,Sys.loop,show a1x.loops[0]?=some a1F from rfl];simp only[Q0,d0M,a1F,↓reduceIte,a0d,a0h,a0u,a2l,a0k,BE.safe,BE.pe,IE.pe,PEnv.at,Q3,Q4,Q7,Qd,a0p,a0a,a0P,Qe,Qh,Qg,Nat.reduceAdd,Qp,Q2,Qm,Qj,a0c,a0l,a0g,Q1,Q0,PEnv.push,Q6,Q5,Q8,SV.pvs,SV.pv,BE.all,Qb,Q9,Qa,p1,a0x,hd,le0,hq,a7s,a3M,a3f,c1];obtain rfl|rfl|rfl|rfl|rfl|rfl:i=0\/i=1\/i=2\/i=3\/i=4\/i=5:=by omega
  all_goals
   simp only[a7N,wl,Q7,Qd,QQ] at q1 q2 ⊢;have e5:∀a b:Int,eqB a b=decide (a=b):=fun _ _=>rfl
   simp only[↓reduceIte,Q2,Q0,e5,Int.reduceEq,Int.cast_ofNat_Int,decide_true,decide_false,q1,q2,Int.reduceAdd]
def goL{α:Type}(f:List α->α->Int)(l:List α):Nat->Nat->Int
 | 0,_=>0
 | d+1,i=>match l[i]? with
  | some x=>if f (l.take i) x=0 then goL f l d (i+1) else f (l.take i) x
  | none=>0
theorem c0n{α:Type}{f:List α->α->Int}{l:List α}{i:Nat}{x:α}(h:l[i]?=some x)(d:Nat):goL f l (d+1) i=if f (l.take i) x=0 then goL f l d (i+1) else f (l.take i) x:=by rw[goL,h]
theorem c6k{α:Type}{f:List α->α->Int}{l:List α}:∀d i,goL f l d i=0->i+d=l.length->∀k x,i<=k->l[k]?=some x->f (l.take k) x=0
 | 0,i,_,hi,k,x,hk,hx=>by have:=(QN.1 hx).1;omega
 | d+1,i,h,hi,k,x,hk,hx=>by
  obtain⟨y,hy⟩:=a0U (show i<l.length by omega);rw[c0n hy] at h;split at h
  ·rename_i h0
   by_cases hki:k=i
   ·subst hki;rw[hy] at hx;cases hx;exact h0
   ·exact c6k d (i+1) h (by omega) k x (by omega) hx
  ·rename_i h0;exact absurd h h0
def Bd.rng(x:Bd):Prop:=0<=x.c/\x.c<=4/\0<=x.b/\x.b<=1000000/\0<=x.p/\x.p<=24000
instance (x:Bd):Decidable x.rng:=by unfold Bd.rng;infer_instance
def b5s(before:List Bd)(x:Bd):Int:=if b8b x.nm=true then(if (before.any fun y=>decide (y.nm=x.nm))=true then 7 else if x.rng then 0 else 4) else 5
def b9M(bs:List Bd):Int:=if eqB (bs.length:Int) 0=true then 1 else if ltB 8 (bs.length:Int)=true then 3 else goL b5s bs bs.length 0
def b7n(i:Nat):Option Nat->PV
 | some k=>.tup [.int .i64 ((i+k:Nat):Int),.bool true]
 | none=>.tup [.int .i64 0,.bool false]
theorem d6d(i:Nat)(o:Option Nat):b7n i (o.map (·+1))=b7n (i+1) o:=by
 cases o with
 | none=>rfl
 | some k=>simp only[Q1,b7n];rw[show i+(k+1)=i+1+k by omega]
theorem c8n{α:Type}(p:α->Bool){l:List α}{i:Nat}{x:α}(h:l[i]?=some x):(l.drop i).findIdx? p=if p x=true then some 0 else((l.drop (i+1)).findIdx? p).map (·+1):=by
 rw[a5T h,List.findIdx?_cons]
theorem c3t(σ:List MO)(l:List Bd)(P:PV)(hP:P.rowsOf 4=some (l.map Bd.row))(hl:l.length<=1000000)(nm:List UInt8)(n:Nat)(hn:l.length+2<=n) :
  a0b Tab n b8l [P,.str nm] σ=some (b7n 0 (l.findIdx? fun x=>decide (x.nm=nm)),σ):=by
 obtain⟨n,rfl⟩:∃k,n=k+1:=⟨n-1,by omega⟩;obtain⟨p1,p2,p3⟩:=a0i hP;rw[Qf] at p1
 have loop:∀d i,i+d=l.length->∀fuel,a3Q.loop (a0b Tab n) (fuel+d+1) 0 {i:=[(l.length:Int),(i:Int)],b:=[],v:=[.str nm,P],m:=σ,k:=σ.length}=some (b7n i ((l.drop i).findIdx? fun x=>decide (x.nm=nm)),σ):=by
  intro d
  induction d with
  | zero =>
   intro i hi fuel;rw[Qs] at hi;subst hi;have hd:decide (l.length<l.length)=false:=by simp
   rw[Sys.loop,show a3Q.loops[0]?=some a4m from rfl,Qu];simp only[Q0,a4m,↓reduceIte,a0j,a0d,BE.safe,BE.pe,IE.pe,Q3,Q4,Q2,Q1,Q0,SV.pvs,SV.pv,a0x,hd,a0m,or_true,List.findIdx?_nil,b7n]
  | succ d ih =>
   intro i hi fuel;have hlt:i<l.length:=by omega
   obtain⟨x,hx⟩:=a0U hlt;have hd:decide (i<l.length)=true:=dT0 hlt;have h0:=a1d (off:=0) hP (a6l hx);have hup:=a3I (show i<=1000000000 by omega);rw[c8n _ hx];by_cases hn:x.nm=nm
   ·rw[dT0 hn,if_pos rfl,Sys.loop,show a3Q.loops[0]?=some a4m from rfl]
    simp only[Q0,a4m,↓reduceIte,a0j,a0d,a0h,a0u,a0k,BE.safe,BE.pe,IE.pe,PEnv.at,Q3,Q4,Q7,Qd,a0p,a0a,a0P,Qs,Qe,Qh,Qg,Nat.reduceAdd,Qp,Q2,Qm,Qj,a0c,Q1,Q0,PEnv.push,Q6,Q5,SV.pvs,SV.pv,BE.all,Qb,Q9,Qa,p1,a0x,hd,le0,h0,a8o,a3M,is3,b9f,dT0 hn,a0m,or_true,b7n]
   ·have ih:=ih (i+1) (by omega) fuel
    rw[a1q] at ih;rw[dF0 hn,if_neg (by simp),d6d,Sys.loop,show a3Q.loops[0]?=some a4m from rfl];simp only[Q0,a4m,↓reduceIte,a0j,a0d,a0h,a0u,a0k,BE.safe,BE.pe,IE.pe,PEnv.at,Q3,Q4,Q7,Qd,a0p,a0a,a0P,Qe,Qh,Qg,Nat.reduceAdd,Qp,Q2,Qm,Qj,a0c,Q1,Q0,PEnv.push,Q6,Q5,SV.pvs,SV.pv,BE.all,Qb,Q9,Qa,p1,a0x,hd,le0,h0,a8o,a3M,is3,b9f,dF0 hn,if_pos hup];exact ih
 have:=loop l.length 0 (by omega) (n-l.length-1);rw[show n-l.length-1+l.length+1=n by omega,Qe] at this;simp only[a0b,c2O,Q0,Sys.run];show ((a0f [.sh (.one _),.sh (.one _)] _).bind _)=_;simp only[a0f,a0g,a0c,Q1,Q0,Q8,Q5,Q6,if_true,p3,a3M];show (PT.ev _ b2z _).bind _=_;simp only[b2z,↓reduceIte,a0h,a0k,BE.safe,BE.pe,IE.pe,PEnv.at,Q3,Q7,Qd,Q1,Q0,SV.pvs,SV.pv,BE.all,Q9,Qa,p1,p2];exact this
theorem d3M{x:Bd}(h:¬x.rng):ltB x.c 0=true\/ltB 4 x.c=true\/ltB x.b 0=true\/ltB 1000000 x.b=true\/ltB x.p 0=true\/ltB 24000 x.p=true:=by
 simp only[Bd.rng] at h;simp only[a0Q];omega
theorem d5o{l:List Bd}{i:Nat}(h:i<=l.length):(0:Int)<=0/\(0:Int)<=(i:Int)/\(i:Int)<=((l.map Bd.row).length:Int):=by rw[Qf];omega
theorem c1N{α:Type}(p:α->Bool)(l:List α):l.any p=(l.findIdx? p).isSome:=by rw[List.findIdx?_isSome]
theorem c1V(σ:List MO)(l:List Bd)(P:PV)(hP:P.rowsOf 4=some (l.map Bd.row))(n:Nat)(hn:60<=n):a0b Tab n b5U [P] σ=some (.int .i64 (b9M l),σ):=by
 obtain⟨n,rfl⟩:∃k,n=k+1:=⟨n-1,by omega⟩;obtain⟨p1,p2,p3⟩:=a0i hP;rw[Qf] at p1;simp only[a0b,c1Y,Q0,Sys.run];show ((a0f [.sh (.one _)] _).bind _)=_;simp only[a0f,a0g,a0c,Q1,Q0,Q8,if_true,p3];show (PT.ev _ b1C _).bind _=_;simp only[b1C,↓reduceIte,a0j,a0d,a0h,a0k,BE.safe,BE.pe,IE.pe,PEnv.at,Q3,Q7,Q1,Q0,SV.pvs,SV.pv,BE.all,Q9,Qa,p1,p2,b9M];cases h0:eqB (l.length:Int) 0 with
 | true=>simp only[↓reduceIte,Q2,Q1,Q0,a0m,or_true]
 | false =>
 cases h8:ltB 8 (l.length:Int) with
 | true=>simp only[↓reduceIte,Q2,Q1,Q0,a0m,or_true]
 | false =>
 have h8':=h8;rw[a0F] at h8
 have loop:∀d i,i+d=l.length->∀fuel,a4j.loop (a0b Tab n) (fuel+d+1) 0 {i:=[(l.length:Int),(i:Int)],b:=[],v:=[P],m:=σ,k:=σ.length}=some (.int .i64 (goL b5s l d i),σ):=by
  intro d
  induction d with
  | zero =>
   intro i hi fuel;rw[Qs] at hi;subst hi;have hd:decide (l.length<l.length)=false:=by simp
   rw[Sys.loop,show a4j.loops[0]?=some a5Y from rfl];simp only[Q0,a5Y,↓reduceIte,a0j,a0d,BE.safe,BE.pe,IE.pe,Q3,Q4,Q2,Q1,Q0,SV.pv,a0x,hd,goL,a0m,or_true]
  | succ d ih =>
   intro i hi fuel;have hlt:i<l.length:=by omega
   obtain⟨x,hx⟩:=a0U hlt;have hd:decide (i<l.length)=true:=dT0 hlt;have hq:=a1d (off:=0) hP (a6l hx);have hup:=a3I (show i<=1000000000 by omega);have c1:=c4U σ x.nm n (by omega);have hcut:((((l.map Bd.row).take (i:Int).toNat).drop (0:Int).toNat))=(l.take i).map Bd.row:=by simp[Qz]
   have c2:=c3t σ (l.take i) (.sl 4 ((l.take i).map Bd.row)) (a1C _ _) (by simp;omega) x.nm n (by simp;omega);simp only[b1X,b8l] at c1 c2;have hc:=d5o (l:=l) (i:=i) (by omega);rw[c0n hx,Sys.loop,show a4j.loops[0]?=some a5Y from rfl];simp only[Q0,a5Y,↓reduceIte,a0j,a0d,a0h,a0u,a5L,a0n,a0k,BE.safe,BE.pe,IE.pe,PEnv.at,Q3,Q4,Q7,Qd,a0p,a0a,a0P,Qe,Qh,Qg,Nat.reduceAdd,Qp,Q2,Qm,Qj,a0c,a0l,a0g,Q1,Q0,PEnv.push,Q6,Q5,SV.pvs,SV.pv,BE.all,Qb,Q9,Qa,p1,a0x,hd,le0,hq,a8o,a3M,c1,hP,a3c,a3b,if_pos hc,hcut];have h50:¬((5:Int)=0):=by decide
   have h70:¬((7:Int)=0):=by decide
   have h40:¬((4:Int)=0):=by decide
   cases hnm:b8b x.nm with
   | false =>
    have hp:b5s (l.take i) x=5:=by unfold b5s;rw[hnm];rfl
    rw[hp,if_neg h50];simp only[↓reduceIte,Q2,Q1,Q0,Qk,a0m,or_true]
   | true =>
    simp only[↓reduceIte,Q2,Q0,Qn,c2];cases hany:((l.take i).findIdx? fun y=>decide (y.nm=x.nm)) with
    | some k =>
     have hp:b5s (l.take i) x=7:=by unfold b5s;rw[hnm,c1N,hany];rfl
     rw[hp,if_neg h70];simp only[↓reduceIte,Q3,Q2,a0c,a0g,Q1,Q0,Q5,Q8,b7n,a1h,a0m,or_true]
    | none =>
     simp only[↓reduceIte,Q3,Q2,a0c,a0g,Q1,Q0,Q5,Q8,b7n,a1h];by_cases hrng:x.rng
     ·have ih:=ih (i+1) (by omega) fuel
      rw[a1q] at ih;have hp:b5s (l.take i) x=0:=by unfold b5s;rw[hnm,c1N,hany,if_pos hrng];rfl
      rw[hp,if_pos rfl];simp only[Bd.rng] at hrng;have e1:ltB x.c 0=false:=by rw[a0F];omega
      have e2:ltB 4 x.c=false:=by rw[a0F];omega
      have e3:ltB x.b 0=false:=by rw[a0F];omega
      have e4:ltB 1000000 x.b=false:=by rw[a0F];omega
      have e5:ltB x.p 0=false:=by rw[a0F];omega
      have e6:ltB 24000 x.p=false:=by rw[a0F];omega
      simp only[↓reduceIte,Q2,Q0,e1,e2,e3,e4,e5,e6,if_pos hup];exact ih
     ·have hp:b5s (l.take i) x=4:=by unfold b5s;rw[hnm,c1N,hany,if_neg hrng];rfl
      rw[hp,if_neg h40];have hno:=d3M hrng;cases e1:ltB x.c 0 with
      | true=>simp only[↓reduceIte,Q2,Q1,Q0,a0m,or_true]
      | false =>
      cases e2:ltB 4 x.c with
      | true=>simp only[↓reduceIte,Q2,Q1,Q0,a0m,or_true]
      | false =>
      cases e3:ltB x.b 0 with
      | true=>simp only[↓reduceIte,Q2,Q1,Q0,a0m,or_true]
      | false =>
      cases e4:ltB 1000000 x.b with
      | true=>simp only[↓reduceIte,Q2,Q1,Q0,a0m,or_true]
      | false =>
      cases e5:ltB x.p 0 with
      | true=>simp only[↓reduceIte,Q2,Q1,Q0,a0m,or_true]
      | false =>
      cases e6:ltB 24000 x.p with
      | true=>simp only[↓reduceIte,Q2,Q1,Q0,a0m,or_true]
      | false=>rw[e1,e2,e3,e4,e5,e6] at hno;simp at hno
 have:=loop l.length 0 (by omega) (n-l.length-1);rw[show n-l.length-1+l.length+1=n by omega] at this;simp only[↓reduceIte,Q2,Q0,];exact this
structure Tri where
 (x y z:Int)
def Tri.row(t:Tri):List PV:=[.int .i64 t.x,.int .i64 t.y,.int .i64 t.z]
theorem b3y(t:Tri):t.row=[.int .i64 t.x,.int .i64 t.y,.int .i64 t.z]:=rfl
theorem b1U{l:List Tri}{i:Nat}{t:Tri}(h:l[i]?=some t):(l.map Tri.row)[i]?=some t.row:=by simp[h]
def a4c(nb:Int)(before:List Tri)(c:Tri):Int :=
 if ltB c.x (-1)=true then 6 else if leB nb c.x=true then 6 else if ltB c.y 0=true then 4 else if ltB 4 c.y=true then 4 else if ltB c.z 0=true then 4 else if ltB 24 c.z=true then 4
 else if (before.any fun d=>eqB d.x c.x&&eqB d.y c.y)=true then 7 else 0
def a4W(ps:List Pr)(before:List Tri)(a:Tri):Int :=
 if ltB a.x 0=true then 6 else if leB (ps.length:Int) a.x=true then 6 else if ltB a.y 1=true then 4 else if ltB 4 a.y=true then 4 else if ltB a.z 1=true then 4
 else if ltB (((ps[a.x.toNat]?).map Pr.s).getD 0) a.z=true then 4 else if (before.any fun d=>eqB d.x a.x)=true then 7 else 0
def b6W(nb:Int)(cs:List Tri):Int:=if ltB 16 (cs.length:Int)=true then 3 else goL (a4c nb) cs cs.length 0
def asV(ps:List Pr)(cs:List Tri):Int:=if ltB 6 (cs.length:Int)=true then 3 else goL (a4W ps) cs cs.length 0
theorem d2p{l:List Tri}{i:Nat}(h:i<=l.length):(0:Int)<=0/\(0:Int)<=(i:Int)/\(i:Int)<=((l.map Tri.row).length:Int):=by rw[Qf];omega
theorem c5U{α:Type}(p:α->Bool){l:List α}{i:Nat}{x:α}(h:l[i]?=some x):(l.drop i).any p=(p x||(l.drop (i+1)).any p):=by rw[a5T h,List.any_cons]
theorem b3M{α:Type}{l:List α}{i k:Nat}(h:k<i):(l.take i)[k]?=l[k]?:=by rw[List.getElem?_take,if_pos h]
section
variable (σ:List MO)(cs:List Tri)(C:PV)(hC:C.rowsOf 3=some (cs.map Tri.row))(P B A:PV)(nb:Int)(hB:B.len=nb)(hBk:B.isKind 0=true)(n:Nat)
theorem d2J(i:Nat)(c:Tri)(hi:i<=1000)(hil:i<=cs.length)(b0 b1 b2 b3:Bool):∀d k,k+d=i->∀fuel,
  a1B.loop (a0b Tab n) (fuel+d+1) 1 {i:=[(cs.length:Int),(i:Int),c.x,nb,c.y,c.z,(i:Int),(k:Int)],b:=[b0,b1,b2,b3],v:=[C,B,.sl 3 ((cs.take i).map Tri.row),P,A],m:=σ,k:=σ.length} =
   if (((cs.take i).drop k).any fun d=>eqB d.x c.x&&eqB d.y c.y)=true then some (.int .i64 7,σ) else a1B.loop (a0b Tab n) fuel 0 {i:=[(cs.length:Int),(i:Int)+1],b:=[],v:=[C,P,B,A],m:=σ,k:=σ.length}:=by
 have hK:(PV.sl 3 ((cs.take i).map Tri.row)).rowsOf 3=some ((cs.take i).map Tri.row):=a1C _ _;obtain⟨p1,p2,p3⟩:=a0i hK;have htl:(cs.take i).length=i:=by rw[QA];omega
 rw[Qf,htl] at p1;generalize hKK:PV.sl 3 ((cs.take i).map Tri.row)=K at *
 intro d
 induction d with
 | zero =>
  intro k hk fuel;rw[Qs] at hk;subst hk;have hd:decide (k<k)=false:=by simp
  have hup:=a3I (show k<=1000000000 by omega);rw[QV (by omega),QM,if_neg (by simp),Sys.loop,show a1B.loops[1]?=some a4u from rfl];simp only[Q0,a4u,↓reduceIte,a0d,a0h,a0k,BE.safe,BE.pe,IE.pe,Q3,Q4,Q7,Qd,Q2,Q1,Q0,SV.pvs,SV.pv,BE.all,Qb,Q9,Qa,a0x,hd,if_pos hup]
 | succ d ih =>
  intro k hk fuel;have hlt:k<(cs.take i).length:=by omega
  obtain⟨x,hx⟩:=a0U hlt;have hd:decide (k<i)=true:=dT0 (by omega);have hq:=a1d (off:=0) hK (b1U hx);have hup:=a3I (show k<=1000000000 by omega);have ih:=ih (k+1) (by omega) fuel;rw[a1q] at ih;rw[c5U _ hx,Sys.loop,show a1B.loops[1]?=some a4u from rfl];simp only[Q0,a4u,↓reduceIte,a0j,a0d,a0h,a0u,a0k,BE.safe,BE.pe,IE.pe,PEnv.at,Q3,Q4,Q7,Qd,a0p,a0a,a0P,Qe,Qh,Qg,Nat.reduceAdd,Qp,Q2,Qm,Qj,a0c,Q1,Q0,PEnv.push,Q6,Q5,SV.pvs,SV.pv,BE.all,Qb,Q9,Qa,p1,a0x,hd,le0,hq,b3y];cases h1:eqB x.x c.x with
  | false =>
   simp only[↓reduceIte,Q2,Q0,if_pos hup,Qq,Qw];exact ih
  | true =>
  cases h2:eqB x.y c.y with
  | false =>
   simp only[↓reduceIte,Q2,Q0,if_pos hup,Bool.and_false,Qw];exact ih
  | true=>simp only[↓reduceIte,Q2,Q1,Q0,Qb,Qb,Qv,a0m,or_true]
include hC hB hBk in
theorem d0S(hl:cs.length<=16):∀d i,i+d=cs.length->∀fuel,d*20+1<=fuel ->
  a1B.loop (a0b Tab n) fuel 0 {i:=[(cs.length:Int),(i:Int)],b:=[],v:=[C,P,B,A],m:=σ,k:=σ.length}=some (.int .i64 (goL (a4c nb) cs d i),σ):=by
 obtain⟨p1,p2,p3⟩:=a0i hC;rw[Qf] at p1;intro d
 induction d with
 | zero =>
  intro i hi fuel hf;obtain⟨fuel,rfl⟩:∃f,fuel=f+1:=⟨fuel-1,by omega⟩;rw[Qs] at hi;subst hi;have hd:decide (cs.length<cs.length)=false:=by simp
  rw[Sys.loop,show a1B.loops[0]?=some a4q from rfl];simp only[Q0,a4q,↓reduceIte,a0j,a0d,BE.safe,BE.pe,IE.pe,Q3,Q4,Q2,Q1,Q0,SV.pv,a0x,hd,goL,a0m,or_true]
 | succ d ih =>
  intro i hi fuel hf;obtain⟨fuel,rfl⟩:∃f,fuel=f+i+1+1:=⟨fuel-i-2,by omega⟩;have hlt:i<cs.length:=by omega
  obtain⟨x,hx⟩:=a0U hlt;have hd:decide (i<cs.length)=true:=dT0 hlt;have hq:=a1d (off:=0) hC (b1U hx);have ih:=ih (i+1) (by omega) fuel (by omega);rw[a1q] at ih;have hcut:((((cs.map Tri.row).take (i:Int).toNat).drop (0:Int).toNat))=(cs.take i).map Tri.row:=by simp[Qz]
  have hK:(PV.sl 3 ((cs.take i).map Tri.row)).rowsOf 3=some ((cs.take i).map Tri.row):=a1C _ _;obtain⟨k1,k2,k3⟩:=a0i hK;rw[Qf,QA,QW (by omega)] at k1;have hc:=d2p (l:=cs) (i:=i) (by omega);have hin:=fun b0 b1 b2 b3=>d2J σ cs C P B A nb n i x (by omega) (by omega) b0 b1 b2 b3 i 0 (by omega) fuel
  rw[c0n hx,Sys.loop,show a1B.loops[0]?=some a4q from rfl];simp only[Q0,a4q,↓reduceIte,a0j,a0d,a0h,a0u,a5L,a0k,BE.safe,BE.pe,IE.pe,PEnv.at,Q3,Q4,Q7,Qd,a0p,a0a,a0P,Qe,Qh,Qg,Nat.reduceAdd,Qp,Q2,Qm,Qj,a0c,Q1,Q0,PEnv.push,Q6,Q5,SV.pvs,SV.pv,BE.all,Qb,Q9,Qa,p1,a0x,hd,le0,hq,b3y,hB,hBk];have h60:¬((6:Int)=0):=by decide
  have h40:¬((4:Int)=0):=by decide
  have h70:¬((7:Int)=0):=by decide
  cases e1:ltB x.x (-1) with
  | true =>
   have hp:a4c nb (cs.take i) x=6:=by simp only[a4c,e1,if_true,]
   rw[hp,if_neg h60];simp only[↓reduceIte,Q2,Q1,Q0,a0m,or_true]
  | false =>
  cases e2:leB nb x.x with
  | true =>
   have hp:a4c nb (cs.take i) x=6:=by simp only[a4c,e1,e2,if_true,Q2,if_false]
   rw[hp,if_neg h60];simp only[↓reduceIte,Q2,Q1,Q0,a0m,or_true]
  | false =>
  cases e3:ltB x.y 0 with
  | true =>
   have hp:a4c nb (cs.take i) x=4:=by simp only[a4c,e1,e2,e3,if_true,Q2,if_false]
   rw[hp,if_neg h40];simp only[↓reduceIte,Q2,Q1,Q0,a0m,or_true]
  | false =>
  cases e4:ltB 4 x.y with
  | true =>
   have hp:a4c nb (cs.take i) x=4:=by simp only[a4c,e1,e2,e3,e4,if_true,Q2,if_false]
   rw[hp,if_neg h40];simp only[↓reduceIte,Q2,Q1,Q0,a0m,or_true]
  | false =>
  cases e5:ltB x.z 0 with
  | true =>
   have hp:a4c nb (cs.take i) x=4:=by simp only[a4c,e1,e2,e3,e4,e5,if_true,Q2,if_false]
   rw[hp,if_neg h40];simp only[↓reduceIte,Q2,Q1,Q0,a0m,or_true]
  | false =>
  cases e6:ltB 24 x.z with
  | true =>
   have hp:a4c nb (cs.take i) x=4:=by simp only[a4c,e1,e2,e3,e4,e5,e6,if_true,Q2,if_false]
   rw[hp,if_neg h40];simp only[↓reduceIte,Q2,Q1,Q0,a0m,or_true]
  | false =>
   simp only[↓reduceIte,IE.pe,Q3,Q4,Q2,Q0,hC,a3c,a3b,if_pos hc,hcut,k1,k2];rw[Qe] at hin;cases hany:((cs.take i).any fun d=>eqB d.x x.x&&eqB d.y x.y) with
   | true =>
    have hp:a4c nb (cs.take i) x=7:=by simp only[a4c,e1,e2,e3,e4,e5,e6,hany,if_true,Q2,if_false]
    rw[hp,if_neg h70];refine(hin _ _ _ _).trans ?_;rw[if_pos hany]
   | false =>
    have hp:a4c nb (cs.take i) x=0:=by simp only[a4c,e1,e2,e3,e4,e5,e6,hany,Q2,if_false]
    rw[hp,if_pos rfl];refine(hin _ _ _ _).trans ?_;rw[if_neg (by rw[hany];simp)];exact ih
include hC hB hBk in
theorem d0X(hn:1000<=n)(hP1:P.one=true)(hA1:A.one=true)(hB1:B.one=true):a0b Tab (n+1) b2V [.agg [P,B,C,A]] σ=some (.int .i64 (b6W nb cs),σ):=by
 obtain⟨p1,p2,p3⟩:=a0i hC;rw[Qf] at p1;simp only[a0b,b8J,Q0,Sys.run];show ((a0f [.sh (.agg [_,_,_,_])] _).bind _)=_;simp only[a0f,a0g,a0c,Q1,Q0,Q8,if_true,p3,hP1,hA1,hB1];show (PT.ev _ a9J _).bind _=_;simp only[a9J,↓reduceIte,a0j,a0d,a0h,a0k,BE.safe,BE.pe,IE.pe,PEnv.at,Q3,Q4,Q7,Qd,Q1,Q0,SV.pvs,SV.pv,BE.all,Q9,Qa,p1,p2,b6W];cases h16:ltB 16 (cs.length:Int) with
 | true=>simp only[↓reduceIte,Q2,Q1,Q0,a0m,or_true]
 | false =>
  have h:=h16;rw[a0F] at h;simp only[↓reduceIte,Q2,Q0,];exact d0S σ cs C hC P B A nb hB hBk n (by omega) cs.length 0 (by omega) n (by omega)
end
section
variable (σ:List MO)(ps:List Pr)(cs:List Tri)(C:PV)(hC:C.rowsOf 3=some (cs.map Tri.row))(P B A:PV)(hP:P.rowsOf 5=some (ps.map Pr.row))(n:Nat)
theorem d4n(i:Nat)(c:Tri)(hi:i<=1000)(hil:i<=cs.length)(b0 b1 b2 b3:Bool)(np sup:Int):∀d k,k+d=i->∀fuel,
  a1s.loop (a0b Tab n) (fuel+d+1) 1 {i:=[(cs.length:Int),(i:Int),c.x,np,c.y,c.z,sup,(i:Int),(k:Int)],b:=[b0,b1,b2,b3],v:=[C,P,.sl 3 ((cs.take i).map Tri.row),B,A],m:=σ,k:=σ.length} =
   if (((cs.take i).drop k).any fun d=>eqB d.x c.x)=true then some (.int .i64 7,σ) else a1s.loop (a0b Tab n) fuel 0 {i:=[(cs.length:Int),(i:Int)+1],b:=[],v:=[C,P,B,A],m:=σ,k:=σ.length}:=by
 have hK:(PV.sl 3 ((cs.take i).map Tri.row)).rowsOf 3=some ((cs.take i).map Tri.row):=a1C _ _;obtain⟨p1,p2,p3⟩:=a0i hK;have htl:(cs.take i).length=i:=by rw[QA];omega
 rw[Qf,htl] at p1;generalize hKK:PV.sl 3 ((cs.take i).map Tri.row)=K at *
 intro d
 induction d with
 | zero =>
  intro k hk fuel;rw[Qs] at hk;subst hk;have hd:decide (k<k)=false:=by simp
  have hup:=a3I (show k<=1000000000 by omega);rw[QV (by omega),QM,if_neg (by simp),Sys.loop,show a1s.loops[1]?=some a3s from rfl];simp only[Q0,a3s,↓reduceIte,a0d,a0h,a0k,BE.safe,BE.pe,IE.pe,Q3,Q4,Q7,Qd,Q2,Q1,Q0,SV.pvs,SV.pv,BE.all,Qb,Q9,Qa,a0x,hd,if_pos hup]
 | succ d ih =>
  intro k hk fuel;have hlt:k<(cs.take i).length:=by omega
  obtain⟨x,hx⟩:=a0U hlt;have hd:decide (k<i)=true:=dT0 (by omega);have hq:=a1d (off:=0) hK (b1U hx);have hup:=a3I (show k<=1000000000 by omega);have ih:=ih (k+1) (by omega) fuel;rw[a1q] at ih;rw[c5U _ hx,Sys.loop,show a1s.loops[1]?=some a3s from rfl];simp only[Q0,a3s,↓reduceIte,a0j,a0d,a0h,a0u,a0k,BE.safe,BE.pe,IE.pe,PEnv.at,Q3,Q4,Q7,Qd,a0p,a0a,a0P,Qe,Qh,Qg,Nat.reduceAdd,Qp,Q2,Qm,Qj,a0c,Q1,Q0,PEnv.push,Q6,Q5,SV.pvs,SV.pv,BE.all,Qb,Q9,Qa,p1,a0x,hd,le0,hq,b3y];cases h1:eqB x.x c.x with
  | false =>
   simp only[↓reduceIte,Q2,Q0,if_pos hup,Qw];exact ih
  | true=>simp only[↓reduceIte,Q2,Q1,Q0,Qv,a0m,or_true]
include hC hP in
theorem d3L(hl:cs.length<=6):∀d i,i+d=cs.length->∀fuel,d*20+1<=fuel ->
  a1s.loop (a0b Tab n) fuel 0 {i:=[(cs.length:Int),(i:Int)],b:=[],v:=[C,P,B,A],m:=σ,k:=σ.length}=some (.int .i64 (goL (a4W ps) cs d i),σ):=by
 obtain⟨p1,p2,p3⟩:=a0i hC;obtain⟨q1,q2,q3⟩:=a0i hP;rw[Qf] at p1 q1;intro d
 induction d with
 | zero =>
  intro i hi fuel hf;obtain⟨fuel,rfl⟩:∃f,fuel=f+1:=⟨fuel-1,by omega⟩;rw[Qs] at hi;subst hi;have hd:decide (cs.length<cs.length)=false:=by simp
  rw[Sys.loop,show a1s.loops[0]?=some a3v from rfl];simp only[Q0,a3v,↓reduceIte,a0j,a0d,BE.safe,BE.pe,IE.pe,Q3,Q4,Q2,Q1,Q0,SV.pv,a0x,hd,goL,a0m,or_true]
 | succ d ih =>
  intro i hi fuel hf;obtain⟨fuel,rfl⟩:∃f,fuel=f+i+1+1:=⟨fuel-i-2,by omega⟩;have hlt:i<cs.length:=by omega
  obtain⟨x,hx⟩:=a0U hlt;have hd:decide (i<cs.length)=true:=dT0 hlt;have hq:=a1d (off:=0) hC (b1U hx);have ih:=ih (i+1) (by omega) fuel (by omega);rw[a1q] at ih;have hcut:((((cs.map Tri.row).take (i:Int).toNat).drop (0:Int).toNat))=(cs.take i).map Tri.row:=by simp[Qz]
  have hK:(PV.sl 3 ((cs.take i).map Tri.row)).rowsOf 3=some ((cs.take i).map Tri.row):=a1C _ _;obtain⟨k1,k2,k3⟩:=a0i hK;rw[Qf,QA,QW (by omega)] at k1;have hc:=d2p (l:=cs) (i:=i) (by omega);have hin:=fun b0 b1 b2 b3 sup=>d4n σ cs C P B A n i x (by omega) (by omega) b0 b1 b2 b3 (ps.length:Int) sup i 0 (by omega) fuel
  rw[c0n hx,Sys.loop,show a1s.loops[0]?=some a3v from rfl];simp only[Q0,a3v,↓reduceIte,a0j,a0d,a0h,a0u,a5L,a0k,BE.safe,BE.pe,IE.pe,PEnv.at,Q3,Q4,Q7,Qd,a0p,a0a,a0P,Qe,Qh,Qg,Nat.reduceAdd,Qp,Q2,Qm,Qj,a0c,Q1,Q0,PEnv.push,Q6,Q5,SV.pvs,SV.pv,BE.all,Qb,Q9,Qa,p1,a0x,hd,le0,hq,b3y,q1,q2];have h60:¬((6:Int)=0):=by decide
  have h40:¬((4:Int)=0):=by decide
  have h70:¬((7:Int)=0):=by decide
  cases e1:ltB x.x 0 with
  | true =>
   have hp:a4W ps (cs.take i) x=6:=by simp only[a4W,e1,if_true,]
   rw[hp,if_neg h60];simp only[↓reduceIte,Q2,Q1,Q0,a0m,or_true]
  | false =>
  cases e2:leB (ps.length:Int) x.x with
  | true =>
   have hp:a4W ps (cs.take i) x=6:=by simp only[a4W,e1,e2,if_true,Q2,if_false]
   rw[hp,if_neg h60];simp only[↓reduceIte,Q2,Q1,Q0,a0m,or_true]
  | false =>
  cases e3:ltB x.y 1 with
  | true =>
   have hp:a4W ps (cs.take i) x=4:=by simp only[a4W,e1,e2,e3,if_true,Q2,if_false]
   rw[hp,if_neg h40];simp only[↓reduceIte,Q2,Q1,Q0,a0m,or_true]
  | false =>
  cases e4:ltB 4 x.y with
  | true =>
   have hp:a4W ps (cs.take i) x=4:=by simp only[a4W,e1,e2,e3,e4,if_true,Q2,if_false]
   rw[hp,if_neg h40];simp only[↓reduceIte,Q2,Q1,Q0,a0m,or_true]
  | false =>
  cases e5:ltB x.z 1 with
  | true =>
   have hp:a4W ps (cs.take i) x=4:=by simp only[a4W,e1,e2,e3,e4,e5,if_true,Q2,if_false]
   rw[hp,if_neg h40];simp only[↓reduceIte,Q2,Q1,Q0,a0m,or_true]
  | false =>
  have hb1:=e1;have hb2:=e2;rw[a0F] at hb1;rw[b0K] at hb2;obtain⟨m,hm⟩:∃m:Nat,x.x=(m:Int):=⟨x.x.toNat,by omega⟩;obtain⟨pr,hpr⟩:=a0U (show m<ps.length by omega);have hsup:((ps[x.x.toNat]?).map Pr.s).getD 0=pr.s:=by rw[hm,QL,hpr];rfl
  have hq1:a3E x.x 5 1 P=some (.row pr.row 1):=by rw[hm];exact a1d (off:=1) hP (b0m hpr)
  have hrg:(leB 0 x.x&&ltB x.x (ps.length:Int))=true:=by rw[Qy,a2H,a0Q];omega
  have dr:∀a b c d e:PV,QJ 1 [a,b,c,d,e]=[b,c,d,e]:=fun _ _ _ _ _=>rfl
  simp only[↓reduceIte,Q3,Q7,Qh,Qg,Nat.reduceAdd,Q2,Qm,Qj,a0c,Q1,Q0,Q5,Nat.reduceLeDiff,hrg,hq1,a7s,dr];cases e6:ltB pr.s x.z with
  | true =>
   have hp:a4W ps (cs.take i) x=4:=by simp only[a4W,e1,e2,e3,e4,e5,hsup,e6,if_true,Q2,if_false]
   rw[hp,if_neg h40];simp only[↓reduceIte,Q2,Q1,Q0,a0m,or_true]
  | false =>
   simp only[↓reduceIte,IE.pe,Q3,Q4,Q2,Q0,hC,a3c,a3b,if_pos hc,hcut,k1,k2];rw[Qe] at hin;cases hany:((cs.take i).any fun d=>eqB d.x x.x) with
   | true =>
    have hp:a4W ps (cs.take i) x=7:=by simp only[a4W,e1,e2,e3,e4,e5,hsup,e6,hany,if_true,Q2,if_false]
    rw[hp,if_neg h70];refine(hin _ _ _ _ _).trans ?_;rw[if_pos hany]
   | false =>
    have hp:a4W ps (cs.take i) x=0:=by simp only[a4W,e1,e2,e3,e4,e5,hsup,e6,hany,Q2,if_false]
    rw[hp,if_pos rfl];refine(hin _ _ _ _ _).trans ?_;rw[if_neg (by rw[hany];simp)];exact ih
include hC hP in
theorem d3A(hn:1000<=n)(hA1:A.one=true)(hB1:B.one=true):a0b Tab (n+1) b1v [.agg [P,B,A,C]] σ=some (.int .i64 (asV ps cs),σ):=by
 obtain⟨p1,p2,p3⟩:=a0i hC;obtain⟨q1,q2,q3⟩:=a0i hP;rw[Qf] at p1;simp only[a0b,b6d,Q0,Sys.run];show ((a0f [.sh (.agg [_,_,_,_])] _).bind _)=_;simp only[a0f,a0g,a0c,Q1,Q0,Q8,if_true,p3,q3,hA1,hB1];show (PT.ev _ a7V _).bind _=_;simp only[a7V,↓reduceIte,a0j,a0d,a0h,a0k,BE.safe,BE.pe,IE.pe,PEnv.at,Q3,Q4,Q7,Qd,Q1,Q0,SV.pvs,SV.pv,BE.all,Q9,Qa,p1,p2,asV];cases h16:ltB 6 (cs.length:Int) with
 | true=>simp only[↓reduceIte,Q2,Q1,Q0,a0m,or_true]
 | false =>
  have h:=h16;rw[a0F] at h;simp only[↓reduceIte,Q2,Q0,];exact d3L σ ps cs C hC P B A hP n (by omega) cs.length 0 (by omega) n (by omega)
end
def a7m(ps:List Pr)(bs:List Bd)(cs as':List Tri):Int :=
 if b1N ps=0 then if b9M bs=0 then if b6W (bs.length:Int) cs=0 then asV ps as' else b6W (bs.length:Int) cs else b9M bs else b1N ps
section
variable (σ:List MO)(ps:List Pr)(bs:List Bd)(cs ad:List Tri)(P B C A:PV)(hP:P.rowsOf 5=some (ps.map Pr.row))(hB:B.rowsOf 4=some (bs.map Bd.row))(hC:C.rowsOf 3=some (cs.map Tri.row))(hA:A.rowsOf 3=some (ad.map Tri.row))(n:Nat)
include hP hB hC hA in
theorem b0Q(hn:1010<=n):a0b Tab n b0g [.agg [P,B,C,A]] σ=some (.int .i64 (a7m ps bs cs ad),σ):=by
 obtain⟨n,rfl⟩:∃k,n=k+1+1:=⟨n-2,by omega⟩;obtain⟨p1,p2,p3⟩:=a0i hP;obtain⟨b1,b2,b3⟩:=a0i hB;obtain⟨c1,c2,c3⟩:=a0i hC;obtain⟨a1,a2,a3⟩:=a0i hA;rw[Qf] at b1;have k1:=b5C σ ps P hP (n+1) (by omega);have k2:=c1V σ bs B hB (n+1) (by omega);have k3:=d0X σ cs C hC P B A (bs.length:Int) b1 b2 n (by omega) p3 a3 b3;have k4:=d3A σ ps ad A hA P B C hP n (by omega) c3 b3;simp only[a8f,b5U,b2V,b1v] at k1 k2 k3 k4;rw[a0b];simp only[c2W,Q0,Sys.run];show ((a0f [.sh (.agg [_,_,_,_])] _).bind _)=_;simp only[a0f,a0g,a0c,Q1,Q0,Q8,if_true,p3,b3,c3,a3];show (PT.ev _ b2K _).bind _=_;have e0:∀z:Int,eqB z 0=decide (z=0):=fun _=>rfl
 simp only[b2K,↓reduceIte,a0j,a0d,a0n,BE.safe,BE.pe,IE.pe,Q3,Q4,Q7,Qd,a0c,a0l,a0g,Q1,Q0,PEnv.push,Q6,Q5,SV.pvs,SV.pv,k1,e0,a7m];by_cases h1:b1N ps=0
 ·rw[if_pos h1,dT0 h1]
  simp only[↓reduceIte,Q3,Q4,Q2,a0c,Q1,Q0,Q6,Q5,Qn,k2];by_cases h2:b9M bs=0
  ·rw[if_pos h2,dT0 h2]
   simp only[↓reduceIte,Q3,Q4,Q2,a0c,Q1,Q0,Q6,Q5,Qn,k3];by_cases h3:b6W (bs.length:Int) cs=0
   ·rw[if_pos h3,dT0 h3]
    simp only[↓reduceIte,Q3,Q2,a0c,Q1,Q0,Qn,k4,a0m,or_true]
   ·rw[if_neg h3,dF0 h3]
    simp only[↓reduceIte,Q2,Q1,Q0,Qk,a0m,or_true]
  ·rw[if_neg h2,dF0 h2]
   simp only[↓reduceIte,Q2,Q1,Q0,Qk,a0m,or_true]
 ·rw[if_neg h1,dF0 h1]
  simp only[↓reduceIte,Q2,Q1,Q0,Qk,a0m,or_true]
end
theorem c8S{n:Nat}{ps:List PV}(h:a1i Try.prog n 119 ps):∃x:Tri,ps=x.row:=by
 obtain⟨m,_,h⟩:=a4H Try.underlying119 h;simp only[Q9,Qa,a4g] at h;obtain⟨_,_,rfl,h1,_,_,rfl,h2,_,_,rfl,h3,rfl⟩:=h;obtain⟨a,rfl,_⟩:=a1f (k:=.i64) (by kernel_rfl) h1;obtain⟨b,rfl,_⟩:=a1f (k:=.i64) (by kernel_rfl) h2;obtain⟨c,rfl,_⟩:=a1f (k:=.i64) (by kernel_rfl) h3;exact⟨⟨a,b,c⟩,rfl⟩
theorem c6c{n:Nat}{ps:List PV}(h:a1i Try.prog n 122 ps):∃x:Tri,ps=x.row:=by
 obtain⟨m,_,h⟩:=a4H Try.underlying122 h;simp only[Q9,Qa,a4g] at h;obtain⟨_,_,rfl,h1,_,_,rfl,h2,_,_,rfl,h3,rfl⟩:=h;obtain⟨a,rfl,_⟩:=a1f (k:=.i64) (by kernel_rfl) h1;obtain⟨b,rfl,_⟩:=a1f (k:=.i64) (by kernel_rfl) h2;obtain⟨c,rfl,_⟩:=a1f (k:=.i64) (by kernel_rfl) h3;exact⟨⟨a,b,c⟩,rfl⟩
theorem d0w{n:Nat}{ps:List PV}(h:a1i Try.prog n 27 ps):∃(l1:List Pr) (l2:List Bd) (l3 l4:List Tri),ps=[.sl 5 (l1.map Pr.row),.sl 4 (l2.map Bd.row),.sl 3 (l3.map Tri.row),.sl 3 (l4.map Tri.row)]:=by
 obtain⟨m,_,h⟩:=a4H Try.underlying27 h;simp only[Q9,Qa,a4g] at h;obtain⟨_,_,rfl,h1,_,_,rfl,h2,_,_,rfl,h3,_,_,rfl,h4,rfl⟩:=h;obtain⟨m1,r1,_,rfl,g1⟩:=b0Y (e:=83) (by kernel_rfl) h1;obtain⟨m2,r2,_,rfl,g2⟩:=b0Y (e:=112) (by kernel_rfl) h2;obtain⟨m3,r3,_,rfl,g3⟩:=b0Y (e:=119) (by kernel_rfl) h3;obtain⟨m4,r4,_,rfl,g4⟩:=b0Y (e:=122) (by kernel_rfl) h4;obtain⟨l1,rfl⟩:=a7C (row:=Pr.row) (fun ps h=>d0e h) r1 g1;obtain⟨l2,rfl⟩:=a7C (row:=Bd.row) (fun ps h=>(c9U h).imp fun _ h=>h.1) r2 g2;obtain⟨l3,rfl⟩:=a7C (row:=Tri.row) (fun ps h=>c8S h) r3 g3;obtain⟨l4,rfl⟩:=a7C (row:=Tri.row) (fun ps h=>c6c h) r4 g4;rw[show Try.prog.cellsOf 83=5 by kernel_rfl,show Try.prog.cellsOf 112=4 by kernel_rfl,show Try.prog.cellsOf 119=3 by kernel_rfl,show Try.prog.cellsOf 122=3 by kernel_rfl];exact⟨l1,l2,l3,l4,rfl⟩
end Go.Proofs.Ytmekflfjaflmkaa
