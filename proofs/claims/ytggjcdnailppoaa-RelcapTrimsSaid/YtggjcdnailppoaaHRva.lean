/- The examples of the chapter on revealed preference. -/
import Derived.Test.YtggjcdnailppoaaHSys
import Derived.Test.YtggjcdnailppoaaHTxe
set_option linter.unusedSimpArgs false
set_option linter.unusedVariables false
open Go.Sx.PT renaming ev → Z1
open Go.Sx.BE renaming safe → Z2, pe → Z3, all → Zz
open Go.Sx.IE renaming pe → Z4
open Go.Sx renaming PEnv.at → Z5
open Go.Sx.PEnv renaming push → Zt
open List renaming getD_cons_zero → Z6, getD_cons_succ → Z7, getElem?_cons_zero → Z8, getElem?_cons_succ → Z9, drop_zero → Zf, length_cons → Zg, length_nil → Zh, take_succ_cons → Zm, take_zero → Zn, cons_append → Zu, nil_append → Zv, append_nil → Zw, map_cons → ZD, map_nil → ZE
open Go.Sx renaming a0i → Za, a0k → Zb, a0b → Zc, a0j → Zd, a0c → Zo, a0a → Zp, a0d → Zq
open Nat renaming add_zero → Ze, le_refl → Zi
open Bool renaming false_eq_true → Zl, and_self → ZA, not_true → ZB, not_false → ZC
open Option renaming map_some → Zr, bind_some → Zs
open Go.Sx.SV renaming pvs → Zx, pv → Zy
open Option renaming bind_some → Q0, map_some → Q6, getD_some → Qn
open List renaming nil_append → Q1, cons_append → Q2, getElem?_eq_getElem → Q3, mem_of_getElem? → Q5, append_nil → Q7, all_cons → Qa, all_nil → Qb, length_map → Qe, drop_length → Qf, all_eq_true → Qh, drop_zero → Qj, drop_eq_nil_of_le → Qk, getElem?_eq_some_iff → Qm
open Bool renaming true_and → Q4, false_and → Q8, and_eq_true → Qd, or_self → Qg
open Nat renaming zero_le → Q9
set_option maxRecDepth 100000
namespace Go.Proofs.Ytggjcdnailppoaa
open Go.Sx
end Go.Proofs.Ytggjcdnailppoaa
set_option maxRecDepth 100000
namespace Go.Proofs.Ytggjcdnailppoaa
open Go.Sx
structure W6 where
 (a b c d e f:Int)
def W6.pv (x:W6):List PV:=[.int .i64 x.a,.int .i64 x.b,.int .i64 x.c,.int .i64 x.d,.int .i64 x.e,.int .i64 x.f]
def W6.ok (w:W6):Prop:=0<=w.a/\w.a<=4/\0<=w.b/\w.b<=4/\0<=w.c/\w.c<=4/\0<=w.d/\w.d<=4/\0<=w.e/\w.e<=4/\0<=w.f/\w.f<=4
instance (w:W6):Decidable w.ok:=by unfold W6.ok; infer_instance
def W6.pok (w:W6):Prop:=0<=w.a/\w.a<=1000000/\0<=w.b/\w.b<=1000000/\0<=w.c/\w.c<=1000000/\0<=w.d/\w.d<=1000000/\0<=w.e/\w.e<=1000000/\0<=w.f/\w.f<=1000000
instance (w:W6):Decidable w.pok:=by unfold W6.pok; infer_instance
def a5Y (w:W6):Int:=if w.ok then 0 else 4
def a1C (p w:W6):Int:=p.a*w.a+p.b*w.b+p.c*w.c+p.d*w.d+p.e*w.e+p.f*w.f
structure Ch where
 (p w:W6)
def Ch.row (c:Ch):List PV:=c.p.pv++c.w.pv
def Ch.ok (c:Ch):Prop:=c.p.pok/\c.w.ok
instance (c:Ch):Decidable c.ok:=by unfold Ch.ok; infer_instance
theorem Ch.ok_dec (x:Ch):decide x.ok=(decide x.p.pok&&decide x.w.ok):=by
 rw [Bool.eq_iff_iff,decide_eq_true_iff,Qd,decide_eq_true_iff,decide_eq_true_iff]; exact Iff.rfl
def a4n (a b:Ch):Int:=a1C a.p b.w-a1C a.p a.w
theorem a8o {x y:Int} (h1:0<=x) (h2:x<=1000000) (h3:0<=y) (h4:y<=4):0<=x*y/\x*y<=4000000:=by
 constructor
 ·exact Int.mul_nonneg h1 h3
 ·calc x*y<=1000000*4:=Int.mul_le_mul h2 h4 h3 (by omega)
   _=4000000:=by decide
theorem a7J {p w:W6} (hp:p.pok) (hw:w.ok):(0<=p.a*w.a/\p.a*w.a<=4000000)/\(0<=p.b*w.b/\p.b*w.b<=4000000)/\(0<=p.c*w.c/\p.c*w.c<=4000000)/\(0<=p.d*w.d/\p.d*w.d<=4000000)/\(0<=p.e*w.e/\p.e*w.e<=4000000)/\(0<=p.f*w.f/\p.f*w.f<=4000000):=by
 simp only [W6.pok,W6.ok] at hp hw
 exact ⟨a8o (by omega) (by omega) (by omega) (by omega),a8o (by omega) (by omega) (by omega) (by omega),a8o (by omega) (by omega) (by omega) (by omega),a8o (by omega) (by omega) (by omega) (by omega),a8o (by omega) (by omega) (by omega) (by omega),a8o (by omega) (by omega) (by omega) (by omega)⟩
theorem a4p {p w:W6} (hp:p.pok) (hw:w.ok):0<=a1C p w/\a1C p w<=24000000:=by
 have:=a7J hp hw
 simp only [a1C]; omega
theorem b2R {a b:Ch} (ha:a.ok) (hb:b.ok):-24000000<=a4n a b/\a4n a b<=24000000:=by
 have:=a4p ha.1 hb.2
 have:=a4p ha.1 ha.2
 simp only [a4n]; omega
theorem a6X (σ:List MO) (w:W6) (n:Nat) (hn:1<=n):a0n Tab n a5I [.agg w.pv] σ=some (.int .i64 (a5Y w),σ):=by
 obtain ⟨n,rfl⟩:∃ k,n=k+1:=⟨n-1,by omega⟩
 simp only [a0n,b1W,Q0,Sys.run,W6.pv]
 show ((a0D [.sh (.agg [_,_,_,_,_,_])] _).bind _)=_
 simp only [a0D,a0d,a0c,Q6,Q0,Q7,Q1,Q2,if_true]
 show (PT.ev _ a5J _).bind _=_
 simp -implicitDefEqProofs only [a5J,↓reduceIte,eq_self,Z1,Z2,Z3,Z4,Z5,Z6,Z7,Z8,Z9,Za,Zb,Zc,Zd,Ze,Zf,Zg,Zh,Nat.reduceAdd,Zi,if_true,if_false,Zl,Zm,Zn,Zo,Zp,Zq,Zr,Zs,Zt,Zu,Zv,Zw,Zx,Zy,Zz,ZA,ZB,ZC,ZD,ZE,a0P,or_true]
 obtain ⟨a,b,c,d,e,f⟩:=w
 simp only [a1E,a5Y]
 by_cases hok:(⟨a,b,c,d,e,f⟩:W6).ok
 ·rw [if_pos hok]
  simp only [W6.ok] at hok
  repeat rw [if_neg (by omega)]
  rfl
 ·rw [if_neg hok]
  simp only [W6.ok] at hok
  by_cases h1:a < 0
  ·rw [if_pos h1]; rfl
  rw [if_neg h1]
  by_cases h2:4 < a
  ·rw [if_pos h2]; rfl
  rw [if_neg h2]
  by_cases h3:b < 0
  ·rw [if_pos h3]; rfl
  rw [if_neg h3]
  by_cases h4:4 < b
  ·rw [if_pos h4]; rfl
  rw [if_neg h4]
  by_cases h5:c < 0
  ·rw [if_pos h5]; rfl
  rw [if_neg h5]
  by_cases h6:4 < c
  ·rw [if_pos h6]; rfl
  rw [if_neg h6]
  by_cases h7:d < 0
  ·rw [if_pos h7]; rfl
  rw [if_neg h7]
  by_cases h8:4 < d
  ·rw [if_pos h8]; rfl
  rw [if_neg h8]
  by_cases h9:e < 0
  ·rw [if_pos h9]; rfl
  rw [if_neg h9]
  by_cases h10:4 < e
  ·rw [if_pos h10]; rfl
  rw [if_neg h10]
  by_cases h11:f < 0
  ·rw [if_pos h11]; rfl
  rw [if_neg h11]
  by_cases h12:4 < f
  ·rw [if_pos h12]; rfl
  rw [if_neg h12]
  exfalso; omega
theorem a2H (σ:List MO) (w:W6) (n:Nat) (hn:1<=n):a0n Tab n a2q [.agg w.pv] σ=some (.int .i64 (a5Y w),σ):=by
 obtain ⟨n,rfl⟩:∃ k,n=k+1:=⟨n-1,by omega⟩
 simp only [a0n,a7m,Q0,Sys.run,W6.pv]
 show ((a0D [.sh (.agg [_,_,_,_,_,_])] _).bind _)=_
 simp only [a0D,a0d,a0c,Q6,Q0,Q7,Q1,Q2,if_true]
 show (PT.ev _ a3c _).bind _=_
 simp -implicitDefEqProofs only [a3c,↓reduceIte,eq_self,Z1,Z2,Z3,Z4,Z5,Z6,Z7,Z8,Z9,Za,Zb,Zc,Zd,Ze,Zf,Zg,Zh,Nat.reduceAdd,Zi,if_true,if_false,Zl,Zm,Zn,Zo,Zp,Zq,Zr,Zs,Zt,Zu,Zv,Zw,Zx,Zy,Zz,ZA,ZB,ZC,ZD,ZE,a0P,or_true]
 obtain ⟨a,b,c,d,e,f⟩:=w
 simp only [a1E,a5Y]
 by_cases hok:(⟨a,b,c,d,e,f⟩:W6).ok
 ·rw [if_pos hok]
  simp only [W6.ok] at hok
  repeat rw [if_neg (by omega)]
  rfl
 ·rw [if_neg hok]
  simp only [W6.ok] at hok
  by_cases h1:a < 0
  ·rw [if_pos h1]; rfl
  rw [if_neg h1]
  by_cases h2:4 < a
  ·rw [if_pos h2]; rfl
  rw [if_neg h2]
  by_cases h3:b < 0
  ·rw [if_pos h3]; rfl
  rw [if_neg h3]
  by_cases h4:4 < b
  ·rw [if_pos h4]; rfl
  rw [if_neg h4]
  by_cases h5:c < 0
  ·rw [if_pos h5]; rfl
  rw [if_neg h5]
  by_cases h6:4 < c
  ·rw [if_pos h6]; rfl
  rw [if_neg h6]
  by_cases h7:d < 0
  ·rw [if_pos h7]; rfl
  rw [if_neg h7]
  by_cases h8:4 < d
  ·rw [if_pos h8]; rfl
  rw [if_neg h8]
  by_cases h9:e < 0
  ·rw [if_pos h9]; rfl
  rw [if_neg h9]
  by_cases h10:4 < e
  ·rw [if_pos h10]; rfl
  rw [if_neg h10]
  by_cases h11:f < 0
  ·rw [if_pos h11]; rfl
  rw [if_neg h11]
  by_cases h12:4 < f
  ·rw [if_pos h12]; rfl
  rw [if_neg h12]
  exfalso; omega
theorem a2n (σ:List MO) (p w:W6) (hp:p.pok) (hw:w.ok) (n:Nat) (hn:1<=n):a0n Tab n a3D [.agg p.pv,.agg w.pv] σ=some (.int .i64 (a1C p w),σ):=by
 obtain ⟨n,rfl⟩:∃ k,n=k+1:=⟨n-1,by omega⟩
 simp only [a0n,b2v,Q0,Sys.run,W6.pv]
 show ((a0D [.sh (.agg [_,_,_,_,_,_]),.sh (.agg [_,_,_,_,_,_])] _).bind _)=_
 simp only [a0D,a0d,a0c,Q6,Q0,Q7,Q1,Q2,if_true]
 show (PT.ev _ a6a _).bind _=_
 obtain ⟨b0,b1,b2,b3,b4,b5⟩:=a7J hp hw
 obtain ⟨a,b,c,d,e,f⟩:=p
 obtain ⟨a',b',c',d',e',f'⟩:=w
 simp only at b0 b1 b2 b3 b4 b5
 simp -implicitDefEqProofs only [a6a,↓reduceIte,eq_self,Z1,Z2,Z3,Z4,Z5,Z6,Z7,Z8,Z9,Za,Zb,Zc,Zd,Ze,Zf,Zg,Zh,Nat.reduceAdd,Zi,if_true,if_false,Zl,Zm,Zn,Zo,Zp,Zq,Zr,Zs,Zt,Zu,Zv,Zw,Zx,Zy,Zz,ZA,ZB,ZC,ZD,ZE,a0P,or_true,Qd,a2w,a1C]
 generalize a*a'=x0 at *
 generalize b*b'=x1 at *
 generalize c*c'=x2 at *
 generalize d*d'=x3 at *
 generalize e*e'=x4 at *
 generalize f*f'=x5 at *
 repeat rw [if_pos (by omega)]
 rfl
theorem b6l (σ:List MO) (w:W6) (n:Nat) (hn:1<=n):a0n Tab n a4H [.agg w.pv] σ=some (.bool (decide w.pok),σ):=by
 obtain ⟨n,rfl⟩:∃ k,n=k+1:=⟨n-1,by omega⟩
 simp only [a0n,a6H,Q0,Sys.run,W6.pv]
 show ((a0D [.sh (.agg [_,_,_,_,_,_])] _).bind _)=_
 simp only [a0D,a0d,a0c,Q6,Q0,Q7,Q1,Q2,if_true]
 show (PT.ev _ a2P _).bind _=_
 simp -implicitDefEqProofs only [a2P,↓reduceIte,eq_self,Z1,Z2,Z3,Z4,Z5,Z6,Z7,Z8,Z9,Za,Zb,Zc,Zd,Ze,Zf,Zg,Zh,Nat.reduceAdd,Zi,if_true,if_false,Zl,Zm,Zn,Zo,Zp,Zq,Zr,Zs,Zt,Zu,Zv,Zw,Zx,Zy,Zz,ZA,ZB,ZC,ZD,ZE,a0P,or_true]
 obtain ⟨a,b,c,d,e,f⟩:=w
 simp only [a1E]
 by_cases hok:(⟨a,b,c,d,e,f⟩:W6).pok
 ·rw [decide_eq_true hok]
  simp only [W6.pok] at hok
  repeat rw [if_neg (by omega)]
  rfl
 ·rw [decide_eq_false hok]
  simp only [W6.pok] at hok
  by_cases h1:a < 0
  ·rw [if_pos h1]; rfl
  rw [if_neg h1]
  by_cases h2:1000000 < a
  ·rw [if_pos h2]; rfl
  rw [if_neg h2]
  by_cases h3:b < 0
  ·rw [if_pos h3]; rfl
  rw [if_neg h3]
  by_cases h4:1000000 < b
  ·rw [if_pos h4]; rfl
  rw [if_neg h4]
  by_cases h5:c < 0
  ·rw [if_pos h5]; rfl
  rw [if_neg h5]
  by_cases h6:1000000 < c
  ·rw [if_pos h6]; rfl
  rw [if_neg h6]
  by_cases h7:d < 0
  ·rw [if_pos h7]; rfl
  rw [if_neg h7]
  by_cases h8:1000000 < d
  ·rw [if_pos h8]; rfl
  rw [if_neg h8]
  by_cases h9:e < 0
  ·rw [if_pos h9]; rfl
  rw [if_neg h9]
  by_cases h10:1000000 < e
  ·rw [if_pos h10]; rfl
  rw [if_neg h10]
  by_cases h11:f < 0
  ·rw [if_pos h11]; rfl
  rw [if_neg h11]
  by_cases h12:1000000 < f
  ·rw [if_pos h12]; rfl
  rw [if_neg h12]
  exfalso; omega
theorem b7K (σ:List MO) (x:Ch) (n:Nat) (hn:2<=n):a0n Tab n a6J [.agg x.row] σ=some (.bool (decide x.ok),σ):=by
 obtain ⟨n,rfl⟩:∃ k,n=k+1:=⟨n-1,by omega⟩
 have c1:=a6X σ x.w n (by omega)
 obtain ⟨⟨a,b,c,d,e,f⟩,⟨a',b',c',d',e',f'⟩⟩:=x
 generalize hy:a5Y ⟨a',b',c',d',e',f'⟩=y at *
 simp only [a5I,W6.pv] at c1
 simp only [a0n,b0c,Q0,Sys.run,W6.pv,Ch.row,Q2,Q1]
 show ((a0D [.sh (.agg [_,_,_,_,_,_,_,_,_,_,_,_])] _).bind _)=_
 simp only [a0D,a0d,a0c,Q6,Q0,Q7,Q1,Q2,if_true]
 show (PT.ev _ a4Q _).bind _=_
 simp -implicitDefEqProofs only [a4Q,↓reduceIte,eq_self,Z1,Z2,Z3,Z4,Z5,Z6,Z7,Z8,Z9,Za,Zb,Zc,Zd,Ze,Zf,Zg,Zh,Nat.reduceAdd,Zi,if_true,if_false,Zl,Zm,Zn,Zo,Zp,Zq,Zr,Zs,Zt,Zu,Zv,Zw,Zx,Zy,Zz,ZA,ZB,ZC,ZD,ZE,a0P,or_true,c1]
 simp only [a1E]
 have hyd:eqB y 0=decide (⟨a',b',c',d',e',f'⟩:W6).ok:=by
  rw [<- hy]; unfold a5Y
  by_cases h:(⟨a',b',c',d',e',f'⟩:W6).ok
  ·rw [if_pos h,decide_eq_true h]; rfl
  ·rw [if_neg h,decide_eq_false h]; rfl
 have hsp:decide (Ch.ok ⟨⟨a,b,c,d,e,f⟩,⟨a',b',c',d',e',f'⟩⟩)=(decide (⟨a,b,c,d,e,f⟩:W6).pok&&decide (⟨a',b',c',d',e',f'⟩:W6).ok):=Ch.ok_dec _
 rw [hsp,hyd]
 generalize decide (⟨a',b',c',d',e',f'⟩:W6).ok=q
 by_cases hok:(⟨a,b,c,d,e,f⟩:W6).pok
 ·rw [decide_eq_true hok]
  simp only [W6.pok] at hok
  repeat rw [if_neg (by omega)]
  simp
 ·rw [decide_eq_false hok]
  simp only [W6.pok] at hok
  by_cases h1:a < 0
  ·rw [if_pos h1]; rfl
  rw [if_neg h1]
  by_cases h2:1000000 < a
  ·rw [if_pos h2]; rfl
  rw [if_neg h2]
  by_cases h3:b < 0
  ·rw [if_pos h3]; rfl
  rw [if_neg h3]
  by_cases h4:1000000 < b
  ·rw [if_pos h4]; rfl
  rw [if_neg h4]
  by_cases h5:c < 0
  ·rw [if_pos h5]; rfl
  rw [if_neg h5]
  by_cases h6:1000000 < c
  ·rw [if_pos h6]; rfl
  rw [if_neg h6]
  by_cases h7:d < 0
  ·rw [if_pos h7]; rfl
  rw [if_neg h7]
  by_cases h8:1000000 < d
  ·rw [if_pos h8]; rfl
  rw [if_neg h8]
  by_cases h9:e < 0
  ·rw [if_pos h9]; rfl
  rw [if_neg h9]
  by_cases h10:1000000 < e
  ·rw [if_pos h10]; rfl
  rw [if_neg h10]
  by_cases h11:f < 0
  ·rw [if_pos h11]; rfl
  rw [if_neg h11]
  by_cases h12:1000000 < f
  ·rw [if_pos h12]; rfl
  rw [if_neg h12]
  exfalso; omega
theorem b6q (σ:List MO) (x:Ch) (n:Nat) (hn:2<=n):a0n Tab n a5d [.agg x.row] σ=some (.bool (decide x.ok),σ):=by
 obtain ⟨n,rfl⟩:∃ k,n=k+1:=⟨n-1,by omega⟩
 have c1:=a2H σ x.w n (by omega)
 have c2:=b6l σ x.p n (by omega)
 obtain ⟨⟨a,b,c,d,e,f⟩,⟨a',b',c',d',e',f'⟩⟩:=x
 have hsp:decide (Ch.ok ⟨⟨a,b,c,d,e,f⟩,⟨a',b',c',d',e',f'⟩⟩)=(decide (⟨a,b,c,d,e,f⟩:W6).pok&&decide (⟨a',b',c',d',e',f'⟩:W6).ok):=Ch.ok_dec _
 rw [hsp]
 simp only [a2q,a4H,W6.pv] at c1 c2
 simp only [a0n,a7l,Q0,Sys.run,W6.pv,Ch.row,Q2,Q1]
 show ((a0D [.sh (.agg [_,_,_,_,_,_,_,_,_,_,_,_])] _).bind _)=_
 simp only [a0D,a0d,a0c,Q6,Q0,Q7,Q1,Q2,if_true]
 show (PT.ev _ a2s _).bind _=_
 by_cases h:(⟨a',b',c',d',e',f'⟩:W6).ok
 ·rw [decide_eq_true h,Bool.and_true]
  simp only [a5Y,if_pos h] at c1
  simp -implicitDefEqProofs only [a2s,↓reduceIte,eq_self,Z1,Z2,Z3,Z4,Z5,Z6,Z7,Z8,Z9,Za,Zb,Zc,Zd,Ze,Zf,Zg,Zh,Nat.reduceAdd,Zi,if_true,if_false,Zl,Zm,Zn,Zo,Zp,Zq,Zr,Zs,Zt,Zu,Zv,Zw,Zx,Zy,Zz,ZA,ZB,ZC,ZD,ZE,a0P,or_true,c1,a4c,c2]
 ·rw [decide_eq_false h,Bool.and_false]
  simp only [a5Y,if_neg h] at c1
  have e4:eqB 4 0=false:=rfl
  simp -implicitDefEqProofs only [a2s,↓reduceIte,eq_self,Z1,Z2,Z3,Z4,Z5,Z6,Z7,Z8,Z9,Za,Zb,Zc,Zd,Ze,Zf,Zg,Zh,Nat.reduceAdd,Zi,if_true,if_false,Zl,Zm,Zn,Zo,Zp,Zq,Zr,Zs,Zt,Zu,Zv,Zw,Zx,Zy,Zz,ZA,ZB,ZC,ZD,ZE,a0P,or_true,c1,e4]
theorem b0l (σ:List MO) (x y:Ch) (hx:x.ok) (hy:y.ok) (n:Nat) (hn:2<=n):a0n Tab n a3T [.agg x.row,.agg y.row] σ=some (.int .i64 (a4n x y),σ):=by
 obtain ⟨n,rfl⟩:∃ k,n=k+1:=⟨n-1,by omega⟩
 have c1:=a2n σ x.p y.w hx.1 hy.2 n (by omega)
 have c2:=a2n σ x.p x.w hx.1 hx.2 n (by omega)
 have b1:=a4p hx.1 hy.2
 have b2:=a4p hx.1 hx.2
 simp only [a4n]
 generalize a1C x.p y.w=u at *
 generalize a1C x.p x.w=v at *
 obtain ⟨⟨a,b,c,d,e,f⟩,⟨a',b',c',d',e',f'⟩⟩:=x
 obtain ⟨⟨a1,b1',c1',d1,e1,f1⟩,⟨a1',b1'',c1'',d1',e1',f1'⟩⟩:=y
 simp only [a3D,W6.pv] at c1 c2
 simp only [a0n,b0S,Q0,Sys.run,W6.pv,Ch.row,Q2,Q1]
 show ((a0D [.sh (.agg [_,_,_,_,_,_,_,_,_,_,_,_]),.sh (.agg [_,_,_,_,_,_,_,_,_,_,_,_])] _).bind _)=_
 simp only [a0D,a0d,a0c,Q6,Q0,Q7,Q1,Q2,if_true]
 show (PT.ev _ a5i _).bind _=_
 have q:(leB (-9223372036854775808) (u-v)&&leB (u-v) 9223372036854775807)=true:=by simp [leB]; omega
 simp -implicitDefEqProofs only [a5i,↓reduceIte,eq_self,Z1,Z2,Z3,Z4,Z5,Z6,Z7,Z8,Z9,Za,Zb,Zc,Zd,Ze,Zf,Zg,Zh,Nat.reduceAdd,Zi,if_true,if_false,Zl,Zm,Zn,Zo,Zp,Zq,Zr,Zs,Zt,Zu,Zv,Zw,Zx,Zy,Zz,ZA,ZB,ZC,ZD,ZE,a0P,or_true,c1,c2,if_pos q]
end Go.Proofs.Ytggjcdnailppoaa
set_option maxRecDepth 100000
namespace Go.Proofs.Ytggjcdnailppoaa
open Go.Sx
theorem b0i {t i:Nat} (hu:Try.prog.underlying t=some (.array 6 i)) (hi:Try.prog.underlying i=some (.int .i64)) {n:Nat} {ps:List PV} (h:a1f Try.prog n t ps):∃ w:W6,ps=w.pv:=by
 obtain ⟨m,_,h⟩:=b4B hu h
 simp only [List.replicate,a3K] at h
 obtain ⟨_,_,rfl,h1,_,_,rfl,h2,_,_,rfl,h3,_,_,rfl,h4,_,_,rfl,h5,_,_,rfl,h6,rfl⟩:=h
 obtain ⟨a,rfl,_⟩:=a2L hi h1
 obtain ⟨b,rfl,_⟩:=a2L hi h2
 obtain ⟨c,rfl,_⟩:=a2L hi h3
 obtain ⟨d,rfl,_⟩:=a2L hi h4
 obtain ⟨e,rfl,_⟩:=a2L hi h5
 obtain ⟨f,rfl,_⟩:=a2L hi h6
 exact ⟨⟨a,b,c,d,e,f⟩,rfl⟩
theorem b7q {n:Nat} {ps:List PV} (h:a1f Try.prog n 46 ps):∃ x:Ch,ps=x.row:=by
 obtain ⟨m,_,h⟩:=a9A Try.underlying46 h
 simp only [List.map_cons,List.map_nil,a3K] at h
 obtain ⟨_,_,rfl,h1,_,_,rfl,h2,rfl⟩:=h
 obtain ⟨p,rfl⟩:=b0i Try.underlying44 (by kernel_rfl) h1
 obtain ⟨w,rfl⟩:=b0i Try.underlying29 (by kernel_rfl) h2
 exact ⟨⟨p,w⟩,by simp [Ch.row]⟩
theorem b2N {n:Nat}:∀ (rows:List (List PV)),(∀ r∈rows,a1f Try.prog n 46 r)->∃ l:List Ch,rows=l.map Ch.row
 | [],_=>⟨[],rfl⟩
 | r::rows,h=>by
  obtain ⟨x,rfl⟩:=b7q (h r (by simp))
  obtain ⟨l,rfl⟩:=b2N rows (fun q hq=>h q (by simp [hq]))
  exact ⟨x::l,rfl⟩
def a9x (l:List Int):List (List PV):=l.map fun z=>[.int .i64 z]
end Go.Proofs.Ytggjcdnailppoaa
set_option maxRecDepth 100000
namespace Go.Proofs.Ytggjcdnailppoaa
open Go.Sx
theorem a1B (x:Ch):x.row=[.int .i64 x.p.a,.int .i64 x.p.b,.int .i64 x.p.c,.int .i64 x.p.d,.int .i64 x.p.e,.int .i64 x.p.f,.int .i64 x.w.a,.int .i64 x.w.b,.int .i64 x.w.c,.int .i64 x.w.d,.int .i64 x.w.e,.int .i64 x.w.f]:=rfl
theorem b1s (l:List Int):(a9x l).length=l.length:=by simp [a9x]
theorem a4Y {l:List Int} {i:Nat} {z:Int} (h:l[i]?=some z):(a9x l)[i]?=some [.int .i64 z]:=by simp [a9x,h]
theorem a1O {l:List Ch} {i:Nat} {x:Ch} (h:l[i]?=some x):(l.map Ch.row)[i]?=some x.row:=by simp [h]
theorem b9E (σ:List MO) (l:List Ch) (P:PV) (hP:P.rowsOf 12=some (l.map Ch.row)) (n:Nat) (hn:l.length+5<=n) (hl:l.length<=1000000) :
  a0n Tab n a5z [P] σ=some (.bool (l.all fun x=>decide x.ok),σ):=by
 obtain ⟨n,rfl⟩:∃ k,n=k+1:=⟨n-1,by omega⟩
 obtain ⟨p1,p2,p3⟩:=a0O hP
 rw [Qe] at p1
 have loop:∀ (fuel i:Nat),l.length-i < fuel->i<=l.length->revealed_allValid_S.loop (a0n Tab n) fuel 0 { i:=[(l.length:Int),(i:Int)],b:=[],v:=[P],m:=σ,k:=σ.length }=some (.bool ((l.drop i).all fun x=>decide x.ok),σ):=by
  intro fuel
  induction fuel with
  | zero=>intro i h; omega
  | succ fuel ihf =>
   intro i h1 h2
   rw [Sys.loop,show revealed_allValid_S.loops[0]?=some a3j from rfl]
   simp -implicitDefEqProofs only [Q0,a3j,↓reduceIte,eq_self,Z1,Z2,Z3,Z4,Z5,Z6,Z7,Z8,Z9,Za,Zb,Zc,Zd,Ze,Zf,Zg,Zh,Nat.reduceAdd,Zi,if_true,if_false,Zl,Zm,Zn,Zo,Zp,Zq,Zr,Zs,Zt,Zu,Zv,Zw,Zx,Zy,Zz,ZA,ZB,ZC,ZD,ZE,a0E,decide_eq_true_eq]
   by_cases hlt:i < l.length
   ·obtain ⟨x,hx⟩:∃ x,l[i]?=some x:=⟨_,Q3 hlt⟩
    rw [if_pos hlt,a2M hx,Qa]
    have hloc:=a0U (off:=0) hP (a1O hx)
    have c1:=b7K σ x n (by omega)
    have:=ihf (i+1) (by omega) (by omega)
    rw [show ((i+1:Nat):Int)=(i:Int)+1 from by omega] at this
    have q1:(leB 0 (i:Int)&&decide (i < l.length))=true:=by simp [leB,hlt]
    have q2:(leB (-9223372036854775808) ((i:Int)+1)&&leB ((i:Int)+1) 9223372036854775807)=true:=by simp [leB]; omega
    generalize decide x.ok=q at *
    simp only [a6J,a1B] at c1
    simp -implicitDefEqProofs only [p1,a0E,↓reduceIte,eq_self,Z1,Z2,Z3,Z4,Z5,Z6,Z7,Z8,Z9,Za,Zb,Zc,Zd,Ze,Zf,Zg,Zh,Nat.reduceAdd,Zi,if_true,if_false,Zl,Zm,Zn,Zo,Zp,Zq,Zr,Zs,Zt,Zu,Zv,Zw,Zx,Zy,Zz,ZA,ZB,ZC,ZD,ZE,if_pos q1,hloc,a1B,c1]
    cases q with
    | false=>simp -implicitDefEqProofs only [↓reduceIte,eq_self,Z1,Z2,Z3,Z4,Z5,Z6,Z7,Z8,Z9,Za,Zb,Zc,Zd,Ze,Zf,Zg,Zh,Nat.reduceAdd,Zi,if_true,if_false,Zl,Zm,Zn,Zo,Zp,Zq,Zr,Zs,Zt,Zu,Zv,Zw,Zx,Zy,Zz,ZA,ZB,ZC,ZD,ZE,a0P,or_true,Q8]
    | true =>
     simp -implicitDefEqProofs only [↓reduceIte,eq_self,Z1,Z2,Z3,Z4,Z5,Z6,Z7,Z8,Z9,Za,Zb,Zc,Zd,Ze,Zf,Zg,Zh,Nat.reduceAdd,Zi,if_true,if_false,Zl,Zm,Zn,Zo,Zp,Zq,Zr,Zs,Zt,Zu,Zv,Zw,Zx,Zy,Zz,ZA,ZB,ZC,ZD,ZE,if_pos q2,Q4]
     exact this
   ·rw [if_neg hlt,show i=l.length by omega,Qf]
    simp -implicitDefEqProofs only [↓reduceIte,eq_self,Z1,Z2,Z3,Z4,Z5,Z6,Z7,Z8,Z9,Za,Zb,Zc,Zd,Ze,Zf,Zg,Zh,Nat.reduceAdd,Zi,if_true,if_false,Zl,Zm,Zn,Zo,Zp,Zq,Zr,Zs,Zt,Zu,Zv,Zw,Zx,Zy,Zz,ZA,ZB,ZC,ZD,ZE,a0P,or_true,Qb]
 have h0:=loop n 0 (by omega) (Q9 _)
 simp only [a0n,a8i,Q0,Sys.run]
 show ((a0D [.sh (.one _)] _).bind _)=_
 simp -implicitDefEqProofs only [a0D,a0d,a0c,Q6,Q0,Q7,Q1,Q2,if_true,p3]
 show (PT.ev _ a3P _).bind _=_
 simp -implicitDefEqProofs only [a3P,↓reduceIte,eq_self,Z1,Z2,Z3,Z4,Z5,Z6,Z7,Z8,Z9,Za,Zb,Zc,Zd,Ze,Zf,Zg,Zh,Nat.reduceAdd,Zi,if_true,if_false,Zl,Zm,Zn,Zo,Zp,Zq,Zr,Zs,Zt,Zu,Zv,Zw,Zx,Zy,Zz,ZA,ZB,ZC,ZD,ZE,p1,p2]
 simpa using h0
theorem b1U (σ:List MO) (l:List Ch) (P:PV) (hP:P.rowsOf 12=some (l.map Ch.row)) (n:Nat) (hn:l.length+5<=n) (hl:l.length<=1000000) :
  a0n Tab n a2G [P] σ=some (.bool (l.all fun x=>decide x.ok),σ):=by
 obtain ⟨n,rfl⟩:∃ k,n=k+1:=⟨n-1,by omega⟩
 obtain ⟨p1,p2,p3⟩:=a0O hP
 rw [Qe] at p1
 have loop:∀ (fuel i:Nat),l.length-i < fuel->i<=l.length->saleroomref36_All_S.loop (a0n Tab n) fuel 0 { i:=[(i:Int)],b:=[],v:=[P],m:=σ,k:=σ.length }=some (.bool ((l.drop i).all fun x=>decide x.ok),σ):=by
  intro fuel
  induction fuel with
  | zero=>intro i h; omega
  | succ fuel ihf =>
   intro i h1 h2
   rw [Sys.loop,show saleroomref36_All_S.loops[0]?=some a3o from rfl]
   simp -implicitDefEqProofs only [Q0,a3o,↓reduceIte,eq_self,Z1,Z2,Z3,Z4,Z5,Z6,Z7,Z8,Z9,Za,Zb,Zc,Zd,Ze,Zf,Zg,Zh,Nat.reduceAdd,Zi,if_true,if_false,Zl,Zm,Zn,Zo,Zp,Zq,Zr,Zs,Zt,Zu,Zv,Zw,Zx,Zy,Zz,ZA,ZB,ZC,ZD,ZE,p1,p2,a0E,decide_eq_true_eq]
   by_cases hlt:i < l.length
   ·obtain ⟨x,hx⟩:∃ x,l[i]?=some x:=⟨_,Q3 hlt⟩
    rw [if_pos hlt,a2M hx,Qa]
    have hloc:=a0U (off:=0) hP (a1O hx)
    have c1:=b6q σ x n (by omega)
    have:=ihf (i+1) (by omega) (by omega)
    rw [show ((i+1:Nat):Int)=(i:Int)+1 from by omega] at this
    have q1:(leB 0 (i:Int)&&decide (i < l.length))=true:=by simp [leB,hlt]
    have q2:(leB (-9223372036854775808) ((i:Int)+1)&&leB ((i:Int)+1) 9223372036854775807)=true:=by simp [leB]; omega
    generalize decide x.ok=q at *
    simp only [a5d,a1B] at c1
    simp -implicitDefEqProofs only [p1,a0E,↓reduceIte,eq_self,Z1,Z2,Z3,Z4,Z5,Z6,Z7,Z8,Z9,Za,Zb,Zc,Zd,Ze,Zf,Zg,Zh,Nat.reduceAdd,Zi,if_true,if_false,Zl,Zm,Zn,Zo,Zp,Zq,Zr,Zs,Zt,Zu,Zv,Zw,Zx,Zy,Zz,ZA,ZB,ZC,ZD,ZE,if_pos q1,hloc,a1B,c1]
    cases q with
    | false=>simp -implicitDefEqProofs only [↓reduceIte,eq_self,Z1,Z2,Z3,Z4,Z5,Z6,Z7,Z8,Z9,Za,Zb,Zc,Zd,Ze,Zf,Zg,Zh,Nat.reduceAdd,Zi,if_true,if_false,Zl,Zm,Zn,Zo,Zp,Zq,Zr,Zs,Zt,Zu,Zv,Zw,Zx,Zy,Zz,ZA,ZB,ZC,ZD,ZE,a0P,or_true,Q8]
    | true =>
     simp -implicitDefEqProofs only [↓reduceIte,eq_self,Z1,Z2,Z3,Z4,Z5,Z6,Z7,Z8,Z9,Za,Zb,Zc,Zd,Ze,Zf,Zg,Zh,Nat.reduceAdd,Zi,if_true,if_false,Zl,Zm,Zn,Zo,Zp,Zq,Zr,Zs,Zt,Zu,Zv,Zw,Zx,Zy,Zz,ZA,ZB,ZC,ZD,ZE,if_pos q2,Q4]
     exact this
   ·rw [if_neg hlt,show i=l.length by omega,Qf]
    simp -implicitDefEqProofs only [↓reduceIte,eq_self,Z1,Z2,Z3,Z4,Z5,Z6,Z7,Z8,Z9,Za,Zb,Zc,Zd,Ze,Zf,Zg,Zh,Nat.reduceAdd,Zi,if_true,if_false,Zl,Zm,Zn,Zo,Zp,Zq,Zr,Zs,Zt,Zu,Zv,Zw,Zx,Zy,Zz,ZA,ZB,ZC,ZD,ZE,a0P,or_true,Qb]
 have h0:=loop n 0 (by omega) (Q9 _)
 simp only [a0n,a8q,Q0,Sys.run]
 show ((a0D [.sh (.one _)] _).bind _)=_
 simp -implicitDefEqProofs only [a0D,a0d,a0c,Q6,Q0,Q7,Q1,Q2,if_true,p3]
 show (PT.ev _ a3Q _).bind _=_
 simp -implicitDefEqProofs only [a3Q,↓reduceIte,eq_self,Z1,Z2,Z3,Z4,Z5,Z6,Z7,Z8,Z9,Za,Zb,Zc,Zd,Ze,Zf,Zg,Zh,Nat.reduceAdd,Zi,if_true,if_false,Zl,Zm,Zn,Zo,Zp,Zq,Zr,Zs,Zt,Zu,Zv,Zw,Zx,Zy,Zz,ZA,ZB,ZC,ZD,ZE]
 simpa using h0
def a4M (n:Nat) (z:Int):Bool:=decide (0<=z/\z < n)
def a4O (z:Int):Bool:=decide (-1099511627776<=z/\z<=1099511627776)
def a8F (n:Nat) (cyc vals:List Int):Bool:=!(decide (0 < cyc.length/\0 < vals.length)||decide (1000 < cyc.length))&&cyc.all (a4M n)&&vals.all a4O
theorem b6s (σ:List MO) (l:List Ch) (P:PV) (hP:P.rowsOf 12=some (l.map Ch.row)) (cyc vals:List Int) (C V:PV) (hC:C.rowsOf 1=some (a9x cyc)) (hV:V.rowsOf 1=some (a9x vals)) (n:Nat) (hn:cyc.length+vals.length+5<=n) (hc:cyc.length<=1000000) (hv:vals.length<=1000000) :
  a0n Tab n a6j [P,.agg [C,V]] σ=some (.bool (a8F l.length cyc vals),σ):=by
 obtain ⟨n,rfl⟩:∃ k,n=k+1:=⟨n-1,by omega⟩
 obtain ⟨p1,p2,p3⟩:=a0O hP
 obtain ⟨r1,r2,r3⟩:=a0O hC
 obtain ⟨s1,s2,s3⟩:=a0O hV
 rw [Qe] at p1
 rw [b1s] at r1 s1
 have loop1:∀ (fuel i:Nat),vals.length-i < fuel->i<=vals.length->revealed_formed_S.loop (a0n Tab n) fuel 1 { i:=[(vals.length:Int),(i:Int)],b:=[],v:=[V],m:=σ,k:=σ.length }=some (.bool ((vals.drop i).all a4O),σ):=by
  intro fuel
  induction fuel with
  | zero=>intro i h; omega
  | succ fuel ihf =>
   intro i h1 h2
   rw [Sys.loop,show revealed_formed_S.loops[1]?=some a4e from rfl]
   simp -implicitDefEqProofs only [Q0,a4e,↓reduceIte,eq_self,Z1,Z2,Z3,Z4,Z5,Z6,Z7,Z8,Z9,Za,Zb,Zc,Zd,Ze,Zf,Zg,Zh,Nat.reduceAdd,Zi,if_true,if_false,Zl,Zm,Zn,Zo,Zp,Zq,Zr,Zs,Zt,Zu,Zv,Zw,Zx,Zy,Zz,ZA,ZB,ZC,ZD,ZE,a0E,decide_eq_true_eq]
   by_cases hlt:i < vals.length
   ·obtain ⟨z,hz⟩:∃ z,vals[i]?=some z:=⟨_,Q3 hlt⟩
    rw [if_pos hlt,a2M hz,Qa]
    have hloc:=a0U (off:=0) hV (a4Y hz)
    have:=ihf (i+1) (by omega) (by omega)
    rw [show ((i+1:Nat):Int)=(i:Int)+1 from by omega] at this
    have q1:(leB 0 (i:Int)&&decide (i < vals.length))=true:=by simp [leB,hlt]
    have q2:(leB (-9223372036854775808) ((i:Int)+1)&&leB ((i:Int)+1) 9223372036854775807)=true:=by simp [leB]; omega
    simp -implicitDefEqProofs only [s1,a0E,↓reduceIte,eq_self,Z1,Z2,Z3,Z4,Z5,Z6,Z7,Z8,Z9,Za,Zb,Zc,Zd,Ze,Zf,Zg,Zh,Nat.reduceAdd,Zi,if_true,if_false,Zl,Zm,Zn,Zo,Zp,Zq,Zr,Zs,Zt,Zu,Zv,Zw,Zx,Zy,Zz,ZA,ZB,ZC,ZD,ZE,if_pos q1,hloc,a1E]
    by_cases h3:z < -1099511627776
    ·rw [if_pos h3]
     have:a4O z=false:=by simp [a4O]; omega
     simp -implicitDefEqProofs only [↓reduceIte,eq_self,Z1,Z2,Z3,Z4,Z5,Z6,Z7,Z8,Z9,Za,Zb,Zc,Zd,Ze,Zf,Zg,Zh,Nat.reduceAdd,Zi,if_true,if_false,Zl,Zm,Zn,Zo,Zp,Zq,Zr,Zs,Zt,Zu,Zv,Zw,Zx,Zy,Zz,ZA,ZB,ZC,ZD,ZE,a0P,or_true,this,Q8]
    ·rw [if_neg h3]
     by_cases h4:1099511627776 < z
     ·rw [if_pos h4]
      have:a4O z=false:=by simp [a4O]; omega
      simp -implicitDefEqProofs only [↓reduceIte,eq_self,Z1,Z2,Z3,Z4,Z5,Z6,Z7,Z8,Z9,Za,Zb,Zc,Zd,Ze,Zf,Zg,Zh,Nat.reduceAdd,Zi,if_true,if_false,Zl,Zm,Zn,Zo,Zp,Zq,Zr,Zs,Zt,Zu,Zv,Zw,Zx,Zy,Zz,ZA,ZB,ZC,ZD,ZE,a0P,or_true,this,Q8]
     ·rw [if_neg h4]
      have h5:a4O z=true:=by simp [a4O]; omega
      simp -implicitDefEqProofs only [↓reduceIte,eq_self,Z1,Z2,Z3,Z4,Z5,Z6,Z7,Z8,Z9,Za,Zb,Zc,Zd,Ze,Zf,Zg,Zh,Nat.reduceAdd,Zi,if_true,if_false,Zl,Zm,Zn,Zo,Zp,Zq,Zr,Zs,Zt,Zu,Zv,Zw,Zx,Zy,Zz,ZA,ZB,ZC,ZD,ZE,if_pos q2,h5,Q4]
      exact this
   ·rw [if_neg hlt,show i=vals.length by omega,Qf]
    simp -implicitDefEqProofs only [↓reduceIte,eq_self,Z1,Z2,Z3,Z4,Z5,Z6,Z7,Z8,Z9,Za,Zb,Zc,Zd,Ze,Zf,Zg,Zh,Nat.reduceAdd,Zi,if_true,if_false,Zl,Zm,Zn,Zo,Zp,Zq,Zr,Zs,Zt,Zu,Zv,Zw,Zx,Zy,Zz,ZA,ZB,ZC,ZD,ZE,a0P,or_true,Qb]
 have loop0:∀ (fuel i:Nat),(cyc.length-i)+vals.length+1 < fuel->i<=cyc.length->revealed_formed_S.loop (a0n Tab n) fuel 0 { i:=[(cyc.length:Int),(i:Int)],b:=[],v:=[P,C,V],m:=σ,k:=σ.length }=some (.bool ((cyc.drop i).all (a4M l.length)&&vals.all a4O),σ):=by
  intro fuel
  induction fuel with
  | zero=>intro i h; omega
  | succ fuel ihf =>
   intro i h1 h2
   rw [Sys.loop,show revealed_formed_S.loops[0]?=some a4j from rfl]
   simp -implicitDefEqProofs only [Q0,a4j,↓reduceIte,eq_self,Z1,Z2,Z3,Z4,Z5,Z6,Z7,Z8,Z9,Za,Zb,Zc,Zd,Ze,Zf,Zg,Zh,Nat.reduceAdd,Zi,if_true,if_false,Zl,Zm,Zn,Zo,Zp,Zq,Zr,Zs,Zt,Zu,Zv,Zw,Zx,Zy,Zz,ZA,ZB,ZC,ZD,ZE,a0E,decide_eq_true_eq]
   by_cases hlt:i < cyc.length
   ·obtain ⟨z,hz⟩:∃ z,cyc[i]?=some z:=⟨_,Q3 hlt⟩
    rw [if_pos hlt,a2M hz,Qa]
    have hloc:=a0U (off:=0) hC (a4Y hz)
    have:=ihf (i+1) (by omega) (by omega)
    rw [show ((i+1:Nat):Int)=(i:Int)+1 from by omega] at this
    have q1:(leB 0 (i:Int)&&decide (i < cyc.length))=true:=by simp [leB,hlt]
    have q2:(leB (-9223372036854775808) ((i:Int)+1)&&leB ((i:Int)+1) 9223372036854775807)=true:=by simp [leB]; omega
    simp -implicitDefEqProofs only [p1,p2,r1,a0E,↓reduceIte,eq_self,Z1,Z2,Z3,Z4,Z5,Z6,Z7,Z8,Z9,Za,Zb,Zc,Zd,Ze,Zf,Zg,Zh,Nat.reduceAdd,Zi,if_true,if_false,Zl,Zm,Zn,Zo,Zp,Zq,Zr,Zs,Zt,Zu,Zv,Zw,Zx,Zy,Zz,ZA,ZB,ZC,ZD,ZE,if_pos q1,hloc,a1E,a2w]
    by_cases h3:z < 0
    ·rw [if_pos h3]
     have:a4M l.length z=false:=by simp [a4M]; omega
     simp -implicitDefEqProofs only [↓reduceIte,eq_self,Z1,Z2,Z3,Z4,Z5,Z6,Z7,Z8,Z9,Za,Zb,Zc,Zd,Ze,Zf,Zg,Zh,Nat.reduceAdd,Zi,if_true,if_false,Zl,Zm,Zn,Zo,Zp,Zq,Zr,Zs,Zt,Zu,Zv,Zw,Zx,Zy,Zz,ZA,ZB,ZC,ZD,ZE,a0P,or_true,this,Q8]
    ·rw [if_neg h3]
     by_cases h4:(l.length:Int)<=z
     ·rw [if_pos h4]
      have:a4M l.length z=false:=by simp [a4M]; omega
      simp -implicitDefEqProofs only [↓reduceIte,eq_self,Z1,Z2,Z3,Z4,Z5,Z6,Z7,Z8,Z9,Za,Zb,Zc,Zd,Ze,Zf,Zg,Zh,Nat.reduceAdd,Zi,if_true,if_false,Zl,Zm,Zn,Zo,Zp,Zq,Zr,Zs,Zt,Zu,Zv,Zw,Zx,Zy,Zz,ZA,ZB,ZC,ZD,ZE,a0P,or_true,this,Q8]
     ·rw [if_neg h4]
      have h5:a4M l.length z=true:=by simp [a4M]; omega
      simp -implicitDefEqProofs only [↓reduceIte,eq_self,Z1,Z2,Z3,Z4,Z5,Z6,Z7,Z8,Z9,Za,Zb,Zc,Zd,Ze,Zf,Zg,Zh,Nat.reduceAdd,Zi,if_true,if_false,Zl,Zm,Zn,Zo,Zp,Zq,Zr,Zs,Zt,Zu,Zv,Zw,Zx,Zy,Zz,ZA,ZB,ZC,ZD,ZE,if_pos q2,h5,Q4]
      exact this
   ·rw [if_neg hlt,show i=cyc.length by omega,Qf]
    simp -implicitDefEqProofs only [↓reduceIte,eq_self,Z1,Z2,Z3,Z4,Z5,Z6,Z7,Z8,Z9,Za,Zb,Zc,Zd,Ze,Zf,Zg,Zh,Nat.reduceAdd,Zi,if_true,if_false,Zl,Zm,Zn,Zo,Zp,Zq,Zr,Zs,Zt,Zu,Zv,Zw,Zx,Zy,Zz,ZA,ZB,ZC,ZD,ZE,s1,s2,Qb,Q4]
    have:=loop1 fuel 0 (by omega) (Q9 _)
    simpa using this
 have h0:=loop0 n 0 (by omega) (Q9 _)
 simp only [Qj] at h0
 simp only [a0n,a9I,Q0,Sys.run]
 show ((a0D [.sh (.one _),.sh (.agg [_,_])] _).bind _)=_
 simp -implicitDefEqProofs only [a0D,a0d,a0c,Q6,Q0,Q7,Q1,Q2,if_true,p3,r3,s3]
 show (PT.ev _ a4E _).bind _=_
 simp -implicitDefEqProofs only [a4E,↓reduceIte,eq_self,Z1,Z2,Z3,Z4,Z5,Z6,Z7,Z8,Z9,Za,Zb,Zc,Zd,Ze,Zf,Zg,Zh,Nat.reduceAdd,Zi,if_true,if_false,Zl,Zm,Zn,Zo,Zp,Zq,Zr,Zs,Zt,Zu,Zv,Zw,Zx,Zy,Zz,ZA,ZB,ZC,ZD,ZE,r1,r2,s1,s2,a1E]
 simp only [a8F]
 by_cases h1:0 < cyc.length
 ·rw [if_pos (by omega)]
  by_cases h2:0 < vals.length
  ·rw [if_pos (by omega)]
   simp -implicitDefEqProofs only [↓reduceIte,eq_self,Z1,Z2,Z3,Z4,Z5,Z6,Z7,Z8,Z9,Za,Zb,Zc,Zd,Ze,Zf,Zg,Zh,Nat.reduceAdd,Zi,if_true,if_false,Zl,Zm,Zn,Zo,Zp,Zq,Zr,Zs,Zt,Zu,Zv,Zw,Zx,Zy,Zz,ZA,ZB,ZC,ZD,ZE,a0P,or_true,h1,h2,and_self,decide_true,Bool.true_or,Q8]
  ·rw [if_neg (by omega)]
   by_cases h3:1000 < cyc.length
   ·rw [if_pos (by omega)]
    simp -implicitDefEqProofs only [↓reduceIte,eq_self,Z1,Z2,Z3,Z4,Z5,Z6,Z7,Z8,Z9,Za,Zb,Zc,Zd,Ze,Zf,Zg,Zh,Nat.reduceAdd,Zi,if_true,if_false,Zl,Zm,Zn,Zo,Zp,Zq,Zr,Zs,Zt,Zu,Zv,Zw,Zx,Zy,Zz,ZA,ZB,ZC,ZD,ZE,a0P,or_true,h3,decide_true,Bool.or_true,Q8]
   ·rw [if_neg (by omega)]
    simp -implicitDefEqProofs only [↓reduceIte,eq_self,Z1,Z2,Z3,Z4,Z5,Z6,Z7,Z8,Z9,Za,Zb,Zc,Zd,Ze,Zf,Zg,Zh,Nat.reduceAdd,Zi,if_true,if_false,Zl,Zm,Zn,Zo,Zp,Zq,Zr,Zs,Zt,Zu,Zv,Zw,Zx,Zy,Zz,ZA,ZB,ZC,ZD,ZE,h2,h3,and_false,decide_false,Qg,Q4]
    simpa using h0
 ·rw [if_neg (by omega)]
  by_cases h3:1000 < cyc.length
  ·omega
  ·rw [if_neg (by omega)]
   simp -implicitDefEqProofs only [↓reduceIte,eq_self,Z1,Z2,Z3,Z4,Z5,Z6,Z7,Z8,Z9,Za,Zb,Zc,Zd,Ze,Zf,Zg,Zh,Nat.reduceAdd,Zi,if_true,if_false,Zl,Zm,Zn,Zo,Zp,Zq,Zr,Zs,Zt,Zu,Zv,Zw,Zx,Zy,Zz,ZA,ZB,ZC,ZD,ZE,h1,h3,false_and,decide_false,Qg,Q4]
   simpa using h0
end Go.Proofs.Ytggjcdnailppoaa
set_option maxRecDepth 100000
namespace Go.Proofs.Ytggjcdnailppoaa
open Go.Sx
def W6.beq (x y:W6):Bool:=eqB x.a y.a&&(eqB x.b y.b&&(eqB x.c y.c&&(eqB x.d y.d&&(eqB x.e y.e&&eqB x.f y.f))))
def W6.isZ (x:W6):Bool:=eqB x.a 0&&(eqB x.b 0&&(eqB x.c 0&&(eqB x.d 0&&(eqB x.e 0&&eqB x.f 0))))
theorem W6.beq_eq {x y:W6} (h:x.beq y=true):x=y:=by
 obtain ⟨a,b,c,d,e,f⟩:=x
 obtain ⟨a',b',c',d',e',f'⟩:=y
 simp only [W6.beq,Qd,b1K] at h
 obtain ⟨rfl,rfl,rfl,rfl,rfl,rfl⟩:=h
 rfl
abbrev CV:=Ch × Int
def b4l (p:CV):Bool:=decide (a1C p.1.p p.1.w<=p.2)&&(!p.1.w.isZ||eqB p.2 0)
def b5g (p q:CV):Bool:=decide (q.2-p.2<=a4n p.1 q.1)
def b1Y (z:List CV):Bool:=z.all fun p=>b4l p&&z.all (b5g p)
theorem b7o {l:List Ch} {vals:List Int} {i:Nat} {x:Ch} {v:Int} (hx:l[i]?=some x) (hv:vals[i]?=some v):(l.zip vals)[i]?=some (x,v):=by
 rw [List.getElem?_zip_eq_some]; exact ⟨hx,hv⟩
theorem b8j (σ:List MO) (l:List Ch) (P:PV) (hP:P.rowsOf 12=some (l.map Ch.row)) (vals:List Int) (V:PV) (hV:V.rowsOf 1=some (a9x vals)) (hl:l.length<=14) (hok:∀ x∈l,x.ok) (hvo:∀ v∈vals,a4O v=true) (n:Nat) (hn:400<=n) :
  a0n Tab n a5y [P,V] σ=some (.bool (decide (vals.length=l.length)&&b1Y (l.zip vals)),σ):=by
 obtain ⟨n,rfl⟩:∃ k,n=k+1:=⟨n-1,by omega⟩
 obtain ⟨p1,p2,p3⟩:=a0O hP
 obtain ⟨s1,s2,s3⟩:=a0O hV
 rw [Qe] at p1
 rw [b1s] at s1
 have loops:vals.length=l.length->∀ fuel:Nat,
   (∀ i,i<=l.length->(l.length-i)*20+1<=fuel->revealed_explains_S.loop (a0n Tab n) fuel 0 { i:=[(l.length:Int),(i:Int)],b:=[],v:=[P,V],m:=σ,k:=σ.length }=some (.bool (((l.zip vals).drop i).all fun p=>b4l p&&(l.zip vals).all (b5g p)),σ)) /\
   (∀ i k x v b0 b1 b2,l[i]?=some x->vals[i]?=some v->k<=l.length->(l.length-i-1)*20+(l.length-k)+3<=fuel ->
    revealed_explains_S.loop (a0n Tab n) fuel 1 { i:=[(i:Int),(l.length:Int),x.w.a,x.w.b,x.w.c,x.w.d,x.w.e,x.w.f,(l.length:Int),(k:Int),x.p.a,x.p.b,x.p.c,x.p.d,x.p.e,x.p.f],b:=[b0,b1,b2],v:=[P,V],m:=σ,k:=σ.length } =
     some (.bool (((l.zip vals).drop k).all (b5g (x,v))&&((l.zip vals).drop (i+1)).all fun p=>b4l p&&(l.zip vals).all (b5g p)),σ)):=by
  intro hvl fuel
  induction fuel with
  | zero=>exact ⟨fun i _ h=>by omega,fun i k x v b0 b1 b2 _ _ _ h=>by omega⟩
  | succ fuel ih =>
   refine ⟨fun i h1 h2=>?_,fun i k x v b0 b1 b2 hx hv h1 h2=>?_⟩
   ·rw [Sys.loop,show revealed_explains_S.loops[0]?=some a3w from rfl]
    simp -implicitDefEqProofs only [Q0,a3w,↓reduceIte,eq_self,Z1,Z2,Z3,Z4,Z5,Z6,Z7,Z8,Z9,Za,Zb,Zc,Zd,Ze,Zf,Zg,Zh,Nat.reduceAdd,Zi,if_true,if_false,Zl,Zm,Zn,Zo,Zp,Zq,Zr,Zs,Zt,Zu,Zv,Zw,Zx,Zy,Zz,ZA,ZB,ZC,ZD,ZE,a0E,decide_eq_true_eq]
    by_cases hlt:i < l.length
    ·obtain ⟨x,hx⟩:∃ x,l[i]?=some x:=⟨_,Q3 hlt⟩
     obtain ⟨v,hv⟩:∃ x,vals[i]?=some x:=⟨_,Q3 (by omega)⟩
     rw [if_pos hlt,a2M (b7o hx hv),Qa]
     have hloc:=a0U (off:=0) hP (a1O hx)
     have hloc2:=a0U (off:=0) hV (a4Y hv)
     have hxo:=hok x (Q5 hx)
     have c1:=a2n σ x.p x.w hxo.1 hxo.2 n (by omega)
     have q1:(leB 0 (i:Int)&&decide (i < l.length))=true:=by simp [leB,hlt]
     have q3:(leB 0 (i:Int)&&decide (i < vals.length))=true:=by simp [leB]; omega
     have rcc:=fun b0 b1 b2=>ih.2 i 0 x v b0 b1 b2 hx hv (Q9 _) (by omega)
     simp only [b4l]
     generalize a1C x.p x.w=u at *
     simp only [Qj,Int.cast_ofNat_Int] at rcc
     have hz:(eqB x.w.a 0&&(eqB x.w.b 0&&(eqB x.w.c 0&&(eqB x.w.d 0&&(eqB x.w.e 0&&eqB x.w.f 0)))))=x.w.isZ:=rfl
     simp only [a3D,W6.pv] at c1
     simp -implicitDefEqProofs only [p1,p2,s1,a0E,↓reduceIte,eq_self,Z1,Z2,Z3,Z4,Z5,Z6,Z7,Z8,Z9,Za,Zb,Zc,Zd,Ze,Zf,Zg,Zh,Nat.reduceAdd,Zi,if_true,if_false,Zl,Zm,Zn,Zo,Zp,Zq,Zr,Zs,Zt,Zu,Zv,Zw,Zx,Zy,Zz,ZA,ZB,ZC,ZD,ZE,if_pos q1,if_pos q3,hloc,hloc2,a1B,c1,hz]
     by_cases h3:v < u
     ·have e3:ltB v u=true:=a1E.2 h3
      have e4:decide (u<=v)=false:=decide_eq_false (by omega)
      simp -implicitDefEqProofs only [e3,e4,↓reduceIte,eq_self,Z1,Z2,Z3,Z4,Z5,Z6,Z7,Z8,Z9,Za,Zb,Zc,Zd,Ze,Zf,Zg,Zh,Nat.reduceAdd,Zi,if_true,if_false,Zl,Zm,Zn,Zo,Zp,Zq,Zr,Zs,Zt,Zu,Zv,Zw,Zx,Zy,Zz,ZA,ZB,ZC,ZD,ZE,a0P,or_true,Q8]
     ·have e3:ltB v u=false:=a3X.2 h3
      have e4:decide (u<=v)=true:=decide_eq_true (by omega)
      cases hzz:x.w.isZ with
      | false =>
       simp -implicitDefEqProofs only [e3,e4,↓reduceIte,eq_self,Z1,Z2,Z3,Z4,Z5,Z6,Z7,Z8,Z9,Za,Zb,Zc,Zd,Ze,Zf,Zg,Zh,Nat.reduceAdd,Zi,if_true,if_false,Zl,Zm,Zn,Zo,Zp,Zq,Zr,Zs,Zt,Zu,Zv,Zw,Zx,Zy,Zz,ZA,ZB,ZC,ZD,ZE,p1,p2,Q4,Bool.true_or]
       have:=rcc false false false
       exact this
      | true =>
       cases hv0:eqB v 0 with
       | false=>simp -implicitDefEqProofs only [e3,e4,↓reduceIte,eq_self,Z1,Z2,Z3,Z4,Z5,Z6,Z7,Z8,Z9,Za,Zb,Zc,Zd,Ze,Zf,Zg,Zh,Nat.reduceAdd,Zi,if_true,if_false,Zl,Zm,Zn,Zo,Zp,Zq,Zr,Zs,Zt,Zu,Zv,Zw,Zx,Zy,Zz,ZA,ZB,ZC,ZD,ZE,if_pos q3,hloc2,hv0,a0P,or_true,Q4,Qg,Q8]
       | true =>
        simp -implicitDefEqProofs only [e3,e4,↓reduceIte,eq_self,Z1,Z2,Z3,Z4,Z5,Z6,Z7,Z8,Z9,Za,Zb,Zc,Zd,Ze,Zf,Zg,Zh,Nat.reduceAdd,Zi,if_true,if_false,Zl,Zm,Zn,Zo,Zp,Zq,Zr,Zs,Zt,Zu,Zv,Zw,Zx,Zy,Zz,ZA,ZB,ZC,ZD,ZE,if_pos q3,hloc2,hv0,p1,p2,Q4,Bool.or_true]
        have:=rcc true true false
        exact this
    ·rw [if_neg hlt,show i=l.length by omega,Qk (by simp [hvl])]
     simp -implicitDefEqProofs only [↓reduceIte,eq_self,Z1,Z2,Z3,Z4,Z5,Z6,Z7,Z8,Z9,Za,Zb,Zc,Zd,Ze,Zf,Zg,Zh,Nat.reduceAdd,Zi,if_true,if_false,Zl,Zm,Zn,Zo,Zp,Zq,Zr,Zs,Zt,Zu,Zv,Zw,Zx,Zy,Zz,ZA,ZB,ZC,ZD,ZE,a0P,or_true,Qb]
   ·rw [Sys.loop,show revealed_explains_S.loops[1]?=some a3k from rfl]
    simp -implicitDefEqProofs only [Q0,a3k,↓reduceIte,eq_self,Z1,Z2,Z3,Z4,Z5,Z6,Z7,Z8,Z9,Za,Zb,Zc,Zd,Ze,Zf,Zg,Zh,Nat.reduceAdd,Zi,if_true,if_false,Zl,Zm,Zn,Zo,Zp,Zq,Zr,Zs,Zt,Zu,Zv,Zw,Zx,Zy,Zz,ZA,ZB,ZC,ZD,ZE,a0E,decide_eq_true_eq]
    by_cases hlt:k < l.length
    ·obtain ⟨y,hy⟩:∃ x,l[k]?=some x:=⟨_,Q3 hlt⟩
     obtain ⟨u,hu⟩:∃ x,vals[k]?=some x:=⟨_,Q3 (by omega)⟩
     rw [if_pos hlt,a2M (b7o hy hu),Qa]
     have hloc:=a0U (off:=0) hP (a1O hy)
     have hloc2:=a0U (off:=0) hV (a4Y hu)
     have hloc3:=a0U (off:=0) hV (a4Y hv)
     have hil:=(Qm.1 hx).1
     have hxo:=hok x (Q5 hx)
     have hyo:=hok y (Q5 hy)
     have c1:=b0l σ x y hxo hyo n (by omega)
     have v1:=hvo v (Q5 hv)
     have v2:=hvo u (Q5 hu)
     simp only [a4O,decide_eq_true_eq] at v1 v2
     have q1:(leB 0 (k:Int)&&decide (k < l.length))=true:=by simp [leB,hlt]
     have q3:(leB 0 (k:Int)&&decide (k < vals.length))=true:=by simp [leB]; omega
     have q4:(leB 0 (i:Int)&&decide (i < vals.length))=true:=by simp [leB]; omega
     have q2:(leB (-9223372036854775808) ((k:Int)+1)&&leB ((k:Int)+1) 9223372036854775807)=true:=by simp [leB]; omega
     have q5:(leB (-9223372036854775808) (u-v)&&leB (u-v) 9223372036854775807)=true:=by simp [leB]; omega
     have rcc:=ih.2 i (k+1) x v b0 b1 b2 hx hv (by omega) (by omega)
     rw [show ((k+1:Nat):Int)=(k:Int)+1 from by omega] at rcc
     simp only [b5g] at rcc ⊢
     generalize a4n x y=gg at *
     simp only [a3T,a1B] at c1
     simp -implicitDefEqProofs only [p1,p2,s1,a0E,↓reduceIte,eq_self,Z1,Z2,Z3,Z4,Z5,Z6,Z7,Z8,Z9,Za,Zb,Zc,Zd,Ze,Zf,Zg,Zh,Nat.reduceAdd,Zi,if_true,if_false,Zl,Zm,Zn,Zo,Zp,Zq,Zr,Zs,Zt,Zu,Zv,Zw,Zx,Zy,Zz,ZA,ZB,ZC,ZD,ZE,if_pos q1,if_pos q3,if_pos q4,if_pos q5,hloc,hloc2,hloc3,a1B,c1]
     by_cases h3:gg < u-v
     ·have e3:ltB gg (u-v)=true:=a1E.2 h3
      have e4:decide (u-v<=gg)=false:=decide_eq_false (by omega)
      simp -implicitDefEqProofs only [e3,e4,↓reduceIte,eq_self,Z1,Z2,Z3,Z4,Z5,Z6,Z7,Z8,Z9,Za,Zb,Zc,Zd,Ze,Zf,Zg,Zh,Nat.reduceAdd,Zi,if_true,if_false,Zl,Zm,Zn,Zo,Zp,Zq,Zr,Zs,Zt,Zu,Zv,Zw,Zx,Zy,Zz,ZA,ZB,ZC,ZD,ZE,a0P,or_true,Q8]
     ·have e3:ltB gg (u-v)=false:=a3X.2 h3
      have e4:decide (u-v<=gg)=true:=decide_eq_true (by omega)
      simp -implicitDefEqProofs only [e3,e4,↓reduceIte,eq_self,Z1,Z2,Z3,Z4,Z5,Z6,Z7,Z8,Z9,Za,Zb,Zc,Zd,Ze,Zf,Zg,Zh,Nat.reduceAdd,Zi,if_true,if_false,Zl,Zm,Zn,Zo,Zp,Zq,Zr,Zs,Zt,Zu,Zv,Zw,Zx,Zy,Zz,ZA,ZB,ZC,ZD,ZE,if_pos q2,Q4]
      exact rcc
    ·have hk:k=l.length:=by omega
     rw [if_neg hlt,hk,Qk (by simp [hvl])]
     have hil:=(Qm.1 hx).1
     have q2:(leB (-9223372036854775808) ((i:Int)+1)&&leB ((i:Int)+1) 9223372036854775807)=true:=by simp [leB]; omega
     have rcc:=ih.1 (i+1) (by omega) (by omega)
     rw [show ((i+1:Nat):Int)=(i:Int)+1 from by omega] at rcc
     simp -implicitDefEqProofs only [↓reduceIte,eq_self,Z1,Z2,Z3,Z4,Z5,Z6,Z7,Z8,Z9,Za,Zb,Zc,Zd,Ze,Zf,Zg,Zh,Nat.reduceAdd,Zi,if_true,if_false,Zl,Zm,Zn,Zo,Zp,Zq,Zr,Zs,Zt,Zu,Zv,Zw,Zx,Zy,Zz,ZA,ZB,ZC,ZD,ZE,if_pos q2,Qb,Q4]
     exact rcc
 simp only [a0n,a8e,Q0,Sys.run]
 show ((a0D [.sh (.one _),.sh (.one _)] _).bind _)=_
 simp -implicitDefEqProofs only [a0D,a0d,a0c,Q6,Q0,Q7,Q1,Q2,if_true,p3,s3]
 show (PT.ev _ a3R _).bind _=_
 simp -implicitDefEqProofs only [a3R,↓reduceIte,eq_self,Z1,Z2,Z3,Z4,Z5,Z6,Z7,Z8,Z9,Za,Zb,Zc,Zd,Ze,Zf,Zg,Zh,Nat.reduceAdd,Zi,if_true,if_false,Zl,Zm,Zn,Zo,Zp,Zq,Zr,Zs,Zt,Zu,Zv,Zw,Zx,Zy,Zz,ZA,ZB,ZC,ZD,ZE,p1,p2,s1,s2]
 have hee:eqB (vals.length:Int) (l.length:Int)=decide (vals.length=l.length):=by unfold eqB; congr 1; rw [eq_iff_iff]; omega
 by_cases hvl:vals.length=l.length
 ·have h0:=(loops hvl n).1 0 (Q9 _) (by omega)
  have he2:eqB (l.length:Int) (l.length:Int)=true:=by rw [hvl] at hee; rw [hee]; exact decide_eq_true rfl
  simp -implicitDefEqProofs only [↓reduceIte,eq_self,Z1,Z2,Z3,Z4,Z5,Z6,Z7,Z8,Z9,Za,Zb,Zc,Zd,Ze,Zf,Zg,Zh,Nat.reduceAdd,Zi,if_true,if_false,Zl,Zm,Zn,Zo,Zp,Zq,Zr,Zs,Zt,Zu,Zv,Zw,Zx,Zy,Zz,ZA,ZB,ZC,ZD,ZE,p1,he2,hvl,decide_true,Q4]
  simpa [b1Y] using h0
 ·simp -implicitDefEqProofs only [↓reduceIte,eq_self,Z1,Z2,Z3,Z4,Z5,Z6,Z7,Z8,Z9,Za,Zb,Zc,Zd,Ze,Zf,Zg,Zh,Nat.reduceAdd,Zi,if_true,if_false,Zl,Zm,Zn,Zo,Zp,Zq,Zr,Zs,Zt,Zu,Zv,Zw,Zx,Zy,Zz,ZA,ZB,ZC,ZD,ZE,hee,hvl,decide_false,a0P,or_true,Q8]
end Go.Proofs.Ytggjcdnailppoaa
set_option maxRecDepth 100000
namespace Go.Proofs.Ytggjcdnailppoaa
open Go.Sx
end Go.Proofs.Ytggjcdnailppoaa
set_option maxRecDepth 100000
namespace Go.Proofs.Ytggjcdnailppoaa
open Go.Sx
def ch0:Ch:=⟨⟨0,0,0,0,0,0⟩,⟨0,0,0,0,0,0⟩⟩
def a5t (l:List Ch) (z:Int):Ch:=(l[z.toNat]?).getD ch0
def b8q (l:List Ch) (cyc:List Int) (i:Nat):Int:=a4n (a5t l ((cyc[i]?).getD 0)) (a5t l ((cyc[(i+1) % cyc.length]?).getD 0))
def a2K (l:List Ch) (cyc:List Int):Nat->Int
 | 0=>0
 | i+1=>a2K l cyc i+b8q l cyc i
def a5A (l:List Ch) (cyc vals:List Int):Int :=
 if (l.all fun x=>decide x.ok)=true then
  if a8F l.length cyc vals=true then
   if cyc.length=0 then (if (decide (vals.length=l.length)&&b1Y (l.zip vals))=true then 0 else 13)
   else (if 0<=a2K l cyc cyc.length then 13 else 0)
  else 2
 else 4
theorem a9e {l:List Ch} {z:Int} (h:a4M l.length z=true):∃ k:Nat,z=(k:Int)/\k < l.length/\l[k]?=some (a5t l z):=by
 simp only [a4M,decide_eq_true_eq] at h
 obtain ⟨k,rfl⟩:∃ k:Nat,z=(k:Int):=⟨z.toNat,by omega⟩
 refine ⟨k,rfl,by omega,?_⟩
 have hk:k < l.length:=by omega
 simp [a5t,Q3 hk]
theorem b4L {l:List Ch} (hok:∀ x∈l,x.ok) {cyc:List Int} (hc:∀ z∈cyc,a4M l.length z=true):∀ i,i<=cyc.length->-24000000*(i:Int)<=a2K l cyc i/\a2K l cyc i<=24000000*(i:Int)
 | 0,_=>by simp [a2K]
 | i+1,h=>by
  have ih:=b4L hok hc i (by omega)
  have hi:i < cyc.length:=by omega
  have hj:(i+1) % cyc.length < cyc.length:=Nat.mod_lt _ (by omega)
  have m1:cyc[i]?=some cyc[i]:=Q3 hi
  have m2:cyc[(i+1) % cyc.length]?=some cyc[(i+1) % cyc.length]:=Q3 hj
  obtain ⟨k1,_,_,e1⟩:=a9e (hc _ (Q5 m1))
  obtain ⟨k2,_,_,e2⟩:=a9e (hc _ (Q5 m2))
  have:=b2R (hok _ (Q5 e1)) (hok _ (Q5 e2))
  simp only [a2K,b8q,m1,m2,Qn]
  omega
theorem b8f (i m:Nat):Int.tmod ((i:Int)+1) (m:Int)=(((i+1) % m:Nat):Int):=by
 rw [show (i:Int)+1=((i+1:Nat):Int) from by omega]; exact (Int.ofNat_tmod _ _).symm
theorem b6x (σ:List MO) (l:List Ch) (P:PV) (hP:P.rowsOf 12=some (l.map Ch.row)) (cyc vals:List Int) (C V:PV) (hC:C.rowsOf 1=some (a9x cyc)) (hV:V.rowsOf 1=some (a9x vals)) (hl:l.length<=14) (n:Nat) (hn:cyc.length+vals.length+420<=n) (hc:cyc.length<=1000000) (hv:vals.length<=1000000) :
  a0n Tab n a6h [P,.agg [C,V]] σ=some (.int .i64 (a5A l cyc vals),σ):=by
 obtain ⟨n,rfl⟩:∃ k,n=k+1:=⟨n-1,by omega⟩
 obtain ⟨p1,p2,p3⟩:=a0O hP
 obtain ⟨r1,r2,r3⟩:=a0O hC
 obtain ⟨s1,s2,s3⟩:=a0O hV
 rw [Qe] at p1
 rw [b1s] at r1 s1
 have c1:=b9E σ l P hP n (by omega) (by omega)
 have c2:=b6s σ l P hP cyc vals C V hC hV n (by omega) (by omega) (by omega)
 simp only [a5z,a6j] at c1 c2
 simp only [a0n,a9K,Q0,Sys.run]
 show ((a0D [.sh (.one _),.sh (.agg [_,_])] _).bind _)=_
 simp -implicitDefEqProofs only [a0D,a0d,a0c,Q6,Q0,Q7,Q1,Q2,if_true,p3,r3,s3]
 show (PT.ev _ a4F _).bind _=_
 simp -implicitDefEqProofs only [a4F,↓reduceIte,eq_self,Z1,Z2,Z3,Z4,Z5,Z6,Z7,Z8,Z9,Za,Zb,Zc,Zd,Ze,Zf,Zg,Zh,Nat.reduceAdd,Zi,if_true,if_false,Zl,Zm,Zn,Zo,Zp,Zq,Zr,Zs,Zt,Zu,Zv,Zw,Zx,Zy,Zz,ZA,ZB,ZC,ZD,ZE,c1]
 by_cases ha:(l.all fun x=>decide x.ok)=true
 case neg =>
  rw [Bool.not_eq_true] at ha
  have hd:a5A l cyc vals=4:=by unfold a5A; rw [ha]; rfl
  rw [ha,hd]
  simp -implicitDefEqProofs only [↓reduceIte,eq_self,Z1,Z2,Z3,Z4,Z5,Z6,Z7,Z8,Z9,Za,Zb,Zc,Zd,Ze,Zf,Zg,Zh,Nat.reduceAdd,Zi,if_true,if_false,Zl,Zm,Zn,Zo,Zp,Zq,Zr,Zs,Zt,Zu,Zv,Zw,Zx,Zy,Zz,ZA,ZB,ZC,ZD,ZE,a0P,or_true]
 rw [ha]
 simp -implicitDefEqProofs only [↓reduceIte,eq_self,Z1,Z2,Z3,Z4,Z5,Z6,Z7,Z8,Z9,Za,Zb,Zc,Zd,Ze,Zf,Zg,Zh,Nat.reduceAdd,Zi,if_true,if_false,Zl,Zm,Zn,Zo,Zp,Zq,Zr,Zs,Zt,Zu,Zv,Zw,Zx,Zy,Zz,ZA,ZB,ZC,ZD,ZE,c2]
 cases hf:a8F l.length cyc vals with
 | false =>
  have hd:a5A l cyc vals=2:=by unfold a5A; rw [ha,hf]; rfl
  rw [hd]
  simp -implicitDefEqProofs only [↓reduceIte,eq_self,Z1,Z2,Z3,Z4,Z5,Z6,Z7,Z8,Z9,Za,Zb,Zc,Zd,Ze,Zf,Zg,Zh,Nat.reduceAdd,Zi,if_true,if_false,Zl,Zm,Zn,Zo,Zp,Zq,Zr,Zs,Zt,Zu,Zv,Zw,Zx,Zy,Zz,ZA,ZB,ZC,ZD,ZE,a0P,or_true]
 | true =>
  have hok:∀ x∈l,x.ok:=fun x hx=>by simpa using (Qh.1 ha) x hx
  simp only [a8F,Qd] at hf
  have hcy:∀ z∈cyc,a4M l.length z=true:=Qh.1 hf.1.2
  have hva:∀ z∈vals,a4O z=true:=Qh.1 hf.2
  have hf':a8F l.length cyc vals=true:=by simp only [a8F,Qd]; exact hf
  simp -implicitDefEqProofs only [↓reduceIte,eq_self,Z1,Z2,Z3,Z4,Z5,Z6,Z7,Z8,Z9,Za,Zb,Zc,Zd,Ze,Zf,Zg,Zh,Nat.reduceAdd,Zi,if_true,if_false,Zl,Zm,Zn,Zo,Zp,Zq,Zr,Zs,Zt,Zu,Zv,Zw,Zx,Zy,Zz,ZA,ZB,ZC,ZD,ZE,r1,r2]
  by_cases h0:cyc.length=0
  ·have c3:=b8j σ l P hP vals V hV hl hok hva n (by omega)
   have e0:eqB (cyc.length:Int) 0=true:=by rw [h0]; rfl
   simp only [a5y] at c3
   simp -implicitDefEqProofs only [↓reduceIte,eq_self,Z1,Z2,Z3,Z4,Z5,Z6,Z7,Z8,Z9,Za,Zb,Zc,Zd,Ze,Zf,Zg,Zh,Nat.reduceAdd,Zi,if_true,if_false,Zl,Zm,Zn,Zo,Zp,Zq,Zr,Zs,Zt,Zu,Zv,Zw,Zx,Zy,Zz,ZA,ZB,ZC,ZD,ZE,e0,c3]
   have hd:a5A l cyc vals=if (decide (vals.length=l.length)&&b1Y (l.zip vals))=true then 0 else 13:=by unfold a5A; rw [ha,hf',if_pos rfl,if_pos rfl,if_pos h0]
   rw [hd]
   generalize (decide (vals.length=l.length)&&b1Y (l.zip vals))=q
   cases q<;>simp -implicitDefEqProofs only [↓reduceIte,eq_self,Z1,Z2,Z3,Z4,Z5,Z6,Z7,Z8,Z9,Za,Zb,Zc,Zd,Ze,Zf,Zg,Zh,Nat.reduceAdd,Zi,if_true,if_false,Zl,Zm,Zn,Zo,Zp,Zq,Zr,Zs,Zt,Zu,Zv,Zw,Zx,Zy,Zz,ZA,ZB,ZC,ZD,ZE,a0P,or_true,if_pos]
  ·have e0:eqB (cyc.length:Int) 0=false:=by rw [b0p]; omega
   simp -implicitDefEqProofs only [↓reduceIte,eq_self,Z1,Z2,Z3,Z4,Z5,Z6,Z7,Z8,Z9,Za,Zb,Zc,Zd,Ze,Zf,Zg,Zh,Nat.reduceAdd,Zi,if_true,if_false,Zl,Zm,Zn,Zo,Zp,Zq,Zr,Zs,Zt,Zu,Zv,Zw,Zx,Zy,Zz,ZA,ZB,ZC,ZD,ZE,e0]
   have hd:a5A l cyc vals=if 0<=a2K l cyc cyc.length then 13 else 0:=by unfold a5A; rw [ha,hf',if_pos rfl,if_pos rfl,if_neg h0]
   have loop:∀ (fuel i:Nat),cyc.length-i < fuel->i<=cyc.length->revealed_Verify_S.loop (a0n Tab n) fuel 0 { i:=[a2K l cyc i,(cyc.length:Int),(i:Int)],b:=[],v:=[P,C,V],m:=σ,k:=σ.length }=some (.int .i64 (a5A l cyc vals),σ):=by
    intro fuel
    induction fuel with
    | zero=>intro i h; omega
    | succ fuel ihf =>
     intro i h1 h2
     rw [Sys.loop,show revealed_Verify_S.loops[0]?=some a4b from rfl]
     simp -implicitDefEqProofs only [Q0,a4b,↓reduceIte,eq_self,Z1,Z2,Z3,Z4,Z5,Z6,Z7,Z8,Z9,Za,Zb,Zc,Zd,Ze,Zf,Zg,Zh,Nat.reduceAdd,Zi,if_true,if_false,Zl,Zm,Zn,Zo,Zp,Zq,Zr,Zs,Zt,Zu,Zv,Zw,Zx,Zy,Zz,ZA,ZB,ZC,ZD,ZE,a0E,decide_eq_true_eq]
     by_cases hlt:i < cyc.length
     ·have hj:(i+1) % cyc.length < cyc.length:=Nat.mod_lt _ (by omega)
      have m1:cyc[i]?=some cyc[i]:=Q3 hlt
      have m2:cyc[(i+1) % cyc.length]?=some cyc[(i+1) % cyc.length]:=Q3 hj
      obtain ⟨k1,z1,l1,e1⟩:=a9e (hcy _ (Q5 m1))
      obtain ⟨k2,z2,l2,e2⟩:=a9e (hcy _ (Q5 m2))
      have g:=ihf (i+1) (by omega) (by omega)
      rw [show ((i+1:Nat):Int)=(i:Int)+1 from by omega] at g
      have b1:=b4L hok hcy i (by omega)
      have b2:=b4L hok hcy (i+1) (by omega)
      simp only [a2K,b8q,m1,m2,Qn] at g b2
      have c4:=b0l σ _ _ (hok _ (Q5 e1)) (hok _ (Q5 e2)) n (by omega)
      have d1:=a0U (off:=0) hC (a4Y m1)
      have d2:=a0U (off:=0) hC (a4Y m2)
      have d3:=a0U (off:=0) hP (a1O e1)
      have d4:=a0U (off:=0) hP (a1O e2)
      generalize a5t l cyc[i]=x at *
      generalize a5t l cyc[(i+1) % cyc.length]=y at *
      generalize a4n x y=gg at *
      rw [z1] at d1; rw [z2] at d2
      generalize a2K l cyc i=acc at *
      generalize hj':(i+1) % cyc.length=j at *
      have t1:=b8f i cyc.length
      rw [hj'] at t1
      have q1:(leB 0 (i:Int)&&decide (i < cyc.length))=true:=by simp [leB,hlt]
      have q2:(leB (-9223372036854775808) ((i:Int)+1)&&leB ((i:Int)+1) 9223372036854775807)=true:=by simp [leB]; omega
      have q3:(leB 0 (k1:Int)&&decide (k1 < l.length))=true:=by simp [leB,l1]
      have q4:(leB 0 (k2:Int)&&decide (k2 < l.length))=true:=by simp [leB,l2]
      have q5:(leB 0 (j:Int)&&decide (j < cyc.length))=true:=by simp [leB,hj]
      have q6:(leB (-9223372036854775808) (acc+gg)&&leB (acc+gg) 9223372036854775807)=true:=by simp [leB]; omega
      simp only [a3T,a1B] at c4
      rw [if_pos hlt]
      simp -implicitDefEqProofs only [p1,p2,r1,r2,a0E,↓reduceIte,eq_self,Z1,Z2,Z3,Z4,Z5,Z6,Z7,Z8,Z9,Za,Zb,Zc,Zd,Ze,Zf,Zg,Zh,Nat.reduceAdd,Zi,if_true,if_false,Zl,Zm,Zn,Zo,Zp,Zq,Zr,Zs,Zt,Zu,Zv,Zw,Zx,Zy,Zz,ZA,ZB,ZC,ZD,ZE,t1,e0,if_pos q1,if_pos q2,if_pos q3,if_pos q4,if_pos q5,if_pos q6,d1,d2,d3,d4,a1B,c4]
      exact g
     ·rw [if_neg hlt,hd]
      obtain rfl:i=cyc.length:=by omega
      by_cases h3:0<=a2K l cyc cyc.length
      ·have e3:leB 0 (a2K l cyc cyc.length)=true:=a2w.2 h3
       rw [if_pos h3]
       simp -implicitDefEqProofs only [↓reduceIte,eq_self,Z1,Z2,Z3,Z4,Z5,Z6,Z7,Z8,Z9,Za,Zb,Zc,Zd,Ze,Zf,Zg,Zh,Nat.reduceAdd,Zi,if_true,if_false,Zl,Zm,Zn,Zo,Zp,Zq,Zr,Zs,Zt,Zu,Zv,Zw,Zx,Zy,Zz,ZA,ZB,ZC,ZD,ZE,e3,a0P,or_true]
      ·have e3:leB 0 (a2K l cyc cyc.length)=false:=b7I.2 h3
       rw [if_neg h3]
       simp -implicitDefEqProofs only [↓reduceIte,eq_self,Z1,Z2,Z3,Z4,Z5,Z6,Z7,Z8,Z9,Za,Zb,Zc,Zd,Ze,Zf,Zg,Zh,Nat.reduceAdd,Zi,if_true,if_false,Zl,Zm,Zn,Zo,Zp,Zq,Zr,Zs,Zt,Zu,Zv,Zw,Zx,Zy,Zz,ZA,ZB,ZC,ZD,ZE,e3,a0P,or_true]
   have g:=loop n 0 (by omega) (Q9 _)
   simpa [a2K] using g
end Go.Proofs.Ytggjcdnailppoaa
