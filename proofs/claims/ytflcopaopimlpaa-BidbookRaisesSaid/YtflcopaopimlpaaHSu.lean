/- Rosters: looking a bidder up. -/
import Derived.Test.YtflcopaopimlpaaHAca
set_option linter.unusedSimpArgs false
set_option linter.unusedVariables false
open Go.Sx.BE renaming safe → Z2, pe → Z3, all → Zz
open Go.Sx.IE renaming pe → Z4
open Go.Sx renaming PEnv.at → Z5
open Go.Sx.PEnv renaming push → Zt
open List renaming getD_cons_zero → Z6, getD_cons_succ → Z7, getElem?_cons_zero → Z8, getElem?_cons_succ → Z9, drop_zero → Zf, length_cons → Zg, length_nil → Zh, take_succ_cons → Zm, take_zero → Zn, cons_append → Zu, nil_append → Zv, append_nil → Zw, map_cons → ZD, map_nil → ZE
open Go.Sx renaming a0y → Za, a0A → Zb, a0o → Zc, a0z → Zd, a0w → Zo, a0p → Zp, a0x → Zq, a0r → ZF, a0t → ZG, a0n → ZH, a0j → ZI, a0s → ZJ, a0q → ZK, a0g → ZL, a0v → ZM, a0i → ZN, a0m → ZO, a0e → ZP, a0h → ZQ, a0u → ZR, a0a → ZS, a0k → ZT, a0f → ZU, a0b → ZV, a0c → ZW, a0d → ZX, a0l → ZY
open Nat renaming add_zero → Ze, le_refl → Zi
open Bool renaming false_eq_true → Zl, and_self → ZA, not_true → ZB, not_false → ZC
open Option renaming map_some → Zr, bind_some → Zs
open Go.Sx.SV renaming pvs → Zx, pv → Zy
open Option renaming bind_some → Q0, map_some → Q3
open Bool renaming false_eq_true → Q1, false_and → Q9, false_or → Qb, true_and → Qe, true_or → Qj, and_false → Qt, and_eq_true → Qv
open List renaming length_map → Q2, nil_append → Q5, cons_append → Q6, append_nil → Q7, drop_zero → Q8, drop → Qa, length_take → Qd, drop_eq_nil_of_le → Qg, any_nil → Qh, findIdx?_cons → Qk, drop_length → Qm, map_take → Qn, map_cons → Qp, map_nil → Qq, findIdx?_nil → Qr, take_succ_cons → Qs
open Nat renaming add_zero → Q4, min_eq_left → Qu
open Int renaming toNat_natCast → Qf
set_option maxRecDepth 100000
namespace Go.Proofs.Ytflcopaopimlpaa
open Go.Sx
def goL {α:Type} (f:List α->α->Int) (l:List α):Nat->Nat->Int
 | 0,_=>0
 | d+1,i=>match l[i]? with
  | some x=>if f (l.take i) x=0 then goL f l d (i+1) else f (l.take i) x
  | none=>0
theorem a7o {α:Type} {f:List α->α->Int} {l:List α} {i:Nat} {x:α} (h:l[i]?=some x) (d:Nat):goL f l (d+1) i=if f (l.take i) x=0 then goL f l d (i+1) else f (l.take i) x:=by rw [goL,h]
theorem b5k {α:Type} {f:List α->α->Int} {l:List α}:∀ d i,goL f l d i=0->i+d=l.length->∀ k x,i<=k->l[k]?=some x->f (l.take k) x=0
 | 0,i,_,hi,k,x,hk,hx=>by have:=(List.getElem?_eq_some_iff.1 hx).1; omega
 | d+1,i,h,hi,k,x,hk,hx=>by
  obtain ⟨y,hy⟩:=a0W (show i < l.length by omega)
  rw [a7o hy] at h
  split at h
  ·rename_i h0
   by_cases hki:k=i
   ·subst hki; rw [hy] at hx; cases hx; exact h0
   ·exact b5k d (i+1) h (by omega) k x (by omega) hx
  ·rename_i h0; exact absurd h h0
def Bd.rng (x:Bd):Prop:=0<=x.c/\x.c<=4/\0<=x.b/\x.b<=1000000/\0<=x.p/\x.p<=24000
instance (x:Bd):Decidable x.rng:=by unfold Bd.rng; infer_instance
def a4J (before:List Bd) (x:Bd):Int:=if a4m x.nm=true then (if (before.any fun y=>decide (y.nm=x.nm))=true then 7 else if x.rng then 0 else 4) else 5
def a8D (bs:List Bd):Int:=if eqB (bs.length:Int) 0=true then 1 else if ltB 8 (bs.length:Int)=true then 3 else goL a4J bs bs.length 0
def a6K (i:Nat):Option Nat->PV
 | some k=>.tup [.int .i64 ((i+k:Nat):Int),.bool true]
 | none=>.tup [.int .i64 0,.bool false]
theorem c6E (i:Nat) (o:Option Nat):a6K i (o.map (·+1))=a6K (i+1) o:=by
 cases o with
 | none=>rfl
 | some k=>simp only [Q3,a6K]; rw [show i+(k+1)=i+1+k by omega]
theorem b5Q {α:Type} (p:α->Bool) {l:List α} {i:Nat} {x:α} (h:l[i]?=some x):(l.drop i).findIdx? p=if p x=true then some 0 else ((l.drop (i+1)).findIdx? p).map (·+1):=by
 rw [a5x h,Qk]
theorem b6t (σ:List MO) (l:List Bd) (P:PV) (hP:P.rowsOf 4=some (l.map Bd.row)) (hl:l.length<=1000000) (nm:List UInt8) (n:Nat) (hn:l.length+2<=n) :
  a0B Tab n b2F [P,.str nm] σ=some (a6K 0 (l.findIdx? fun x=>decide (x.nm=nm)),σ):=by
 obtain ⟨n,rfl⟩:∃ k,n=k+1:=⟨n-1,by omega⟩
 obtain ⟨p1,p2,p3⟩:=a0C hP
 rw [Q2] at p1
 have loop:∀ d i,i+d=l.length->∀ fuel,roster_Find_S.loop (a0B Tab n) (fuel+d+1) 0 { i:=[(l.length:Int),(i:Int)],b:=[],v:=[.str nm,P],m:=σ,k:=σ.length }=some (a6K i ((l.drop i).findIdx? fun x=>decide (x.nm=nm)),σ):=by
  intro d
  induction d with
  | zero =>
   intro i hi fuel
   rw [Q4] at hi; subst hi
   have hd:decide (l.length < l.length)=false:=by simp
   rw [Sys.loop,show roster_Find_S.loops[0]?=some a3e from rfl,Qm]
   simp -implicitDefEqProofs only [Q0,a3e,↓reduceIte,eq_self,ZF,ZG,ZH,ZI,ZJ,ZK,ZL,ZM,ZN,ZO,ZP,ZQ,ZR,ZS,ZT,ZU,ZV,ZW,ZX,ZY,Z2,Z3,Z4,Z5,Z6,Z7,Z8,Z9,Za,Zb,Zc,Zd,Ze,Zf,Zg,Zh,Nat.reduceAdd,Zi,if_true,if_false,Zl,Zm,Zn,Zo,Zp,Zq,Zr,Zs,Zt,Zu,Zv,Zw,Zx,Zy,Zz,ZA,ZB,ZC,ZD,ZE,p1,p2,a0F,hd,a0D,or_true,Qr,a6K]
  | succ d ih =>
   intro i hi fuel
   have hlt:i < l.length:=by omega
   obtain ⟨x,hx⟩:=a0W hlt
   have hd:decide (i < l.length)=true:=decide_eq_true hlt
   have h0:=a0G (off:=0) hP (a1J hx)
   have hup:=a1y (show i<=1000000000 by omega)
   rw [b5Q _ hx]
   by_cases hn:x.nm=nm
   ·rw [decide_eq_true hn,if_pos rfl,Sys.loop,show roster_Find_S.loops[0]?=some a3e from rfl]
    simp -implicitDefEqProofs only [Q0,a3e,↓reduceIte,eq_self,ZF,ZG,ZH,ZI,ZJ,ZK,ZL,ZM,ZN,ZO,ZP,ZQ,ZR,ZS,ZT,ZU,ZV,ZW,ZX,ZY,Z2,Z3,Z4,Z5,Z6,Z7,Z8,Z9,Za,Zb,Zc,Zd,Ze,Zf,Zg,Zh,Nat.reduceAdd,Zi,if_true,if_false,Zl,Zm,Zn,Zo,Zp,Zq,Zr,Zs,Zt,Zu,Zv,Zw,Zx,Zy,Zz,ZA,ZB,ZC,ZD,ZE,Nat.reduceLeDiff,p1,p2,a0F,hd,le0,h0,a1o,a1G,is3,a6a,decide_eq_true hn,a0D,or_true,a6K]
   ·have ih:=ih (i+1) (by omega) fuel
    rw [a0Q] at ih
    rw [decide_eq_false hn,if_neg (by simp),c6E,Sys.loop,show roster_Find_S.loops[0]?=some a3e from rfl]
    simp -implicitDefEqProofs only [Q0,a3e,↓reduceIte,eq_self,ZF,ZG,ZH,ZI,ZJ,ZK,ZL,ZM,ZN,ZO,ZP,ZQ,ZR,ZS,ZT,ZU,ZV,ZW,ZX,ZY,Z2,Z3,Z4,Z5,Z6,Z7,Z8,Z9,Za,Zb,Zc,Zd,Ze,Zf,Zg,Zh,Nat.reduceAdd,Zi,if_true,if_false,Zl,Zm,Zn,Zo,Zp,Zq,Zr,Zs,Zt,Zu,Zv,Zw,Zx,Zy,Zz,ZA,ZB,ZC,ZD,ZE,Nat.reduceLeDiff,p1,p2,a0F,hd,le0,h0,a1o,a1G,is3,a6a,decide_eq_false hn,if_pos hup]
    exact ih
 have:=loop l.length 0 (by omega) (n-l.length-1)
 rw [show n-l.length-1+l.length+1=n by omega,Q8] at this
 simp only [a0B,b6N,Q0,Sys.run]
 show ((a0E [.sh (.one _),.sh (.one _)] _).bind _)=_
 simp -implicitDefEqProofs only [a0E,a0x,a0w,Q3,Q0,Q7,Q5,Q6,if_true,p3,a1G]
 show (PT.ev _ a7Q _).bind _=_
 simp -implicitDefEqProofs only [a7Q,↓reduceIte,eq_self,ZF,ZG,ZH,ZI,ZJ,ZK,ZL,ZM,ZN,ZO,ZP,ZQ,ZR,ZS,ZT,ZU,ZV,ZW,ZX,ZY,Z2,Z3,Z4,Z5,Z6,Z7,Z8,Z9,Za,Zb,Zc,Zd,Ze,Zf,Zg,Zh,Nat.reduceAdd,Zi,if_true,if_false,Zl,Zm,Zn,Zo,Zp,Zq,Zr,Zs,Zt,Zu,Zv,Zw,Zx,Zy,Zz,ZA,ZB,ZC,ZD,ZE,p1,p2]
 exact this
theorem b0z (σ:List MO) (l:List Bd) (P:PV) (hP:P.rowsOf 4=some (l.map Bd.row)) (hl:l.length<=1000000) (nm:List UInt8) (n:Nat) (hn:l.length+2<=n) :
  a0B Tab n a6N [P,.str nm] σ=some (a6K 0 (l.findIdx? fun x=>decide (x.nm=nm)),σ):=by
 obtain ⟨n,rfl⟩:∃ k,n=k+1:=⟨n-1,by omega⟩
 obtain ⟨p1,p2,p3⟩:=a0C hP
 rw [Q2] at p1
 have loop:∀ d i,i+d=l.length->∀ fuel,saleroomref09_Find_S.loop (a0B Tab n) (fuel+d+1) 0 { i:=[(i:Int)],b:=[],v:=[P,.str nm],m:=σ,k:=σ.length }=some (a6K i ((l.drop i).findIdx? fun x=>decide (x.nm=nm)),σ):=by
  intro d
  induction d with
  | zero =>
   intro i hi fuel
   rw [Q4] at hi; subst hi
   have hd:decide (l.length < l.length)=false:=by simp
   rw [Sys.loop,show saleroomref09_Find_S.loops[0]?=some a1S from rfl,Qm]
   simp -implicitDefEqProofs only [Q0,a1S,↓reduceIte,eq_self,ZF,ZG,ZH,ZI,ZJ,ZK,ZL,ZM,ZN,ZO,ZP,ZQ,ZR,ZS,ZT,ZU,ZV,ZW,ZX,ZY,Z2,Z3,Z4,Z5,Z6,Z7,Z8,Z9,Za,Zb,Zc,Zd,Ze,Zf,Zg,Zh,Nat.reduceAdd,Zi,if_true,if_false,Zl,Zm,Zn,Zo,Zp,Zq,Zr,Zs,Zt,Zu,Zv,Zw,Zx,Zy,Zz,ZA,ZB,ZC,ZD,ZE,p1,p2,a0F,hd,a0D,or_true,Qr,a6K]
  | succ d ih =>
   intro i hi fuel
   have hlt:i < l.length:=by omega
   obtain ⟨x,hx⟩:=a0W hlt
   have hd:decide (i < l.length)=true:=decide_eq_true hlt
   have h0:=a0G (off:=0) hP (a1J hx)
   have hup:=a1y (show i<=1000000000 by omega)
   rw [b5Q _ hx]
   by_cases hn:x.nm=nm
   ·rw [decide_eq_true hn,if_pos rfl,Sys.loop,show saleroomref09_Find_S.loops[0]?=some a1S from rfl]
    simp -implicitDefEqProofs only [Q0,a1S,↓reduceIte,eq_self,ZF,ZG,ZH,ZI,ZJ,ZK,ZL,ZM,ZN,ZO,ZP,ZQ,ZR,ZS,ZT,ZU,ZV,ZW,ZX,ZY,Z2,Z3,Z4,Z5,Z6,Z7,Z8,Z9,Za,Zb,Zc,Zd,Ze,Zf,Zg,Zh,Nat.reduceAdd,Zi,if_true,if_false,Zl,Zm,Zn,Zo,Zp,Zq,Zr,Zs,Zt,Zu,Zv,Zw,Zx,Zy,Zz,ZA,ZB,ZC,ZD,ZE,Nat.reduceLeDiff,p1,p2,a0F,hd,le0,h0,a1o,a1G,is3,a6a,decide_eq_true hn,a0D,or_true,a6K]
   ·have ih:=ih (i+1) (by omega) fuel
    rw [a0Q] at ih
    rw [decide_eq_false hn,if_neg (by simp),c6E,Sys.loop,show saleroomref09_Find_S.loops[0]?=some a1S from rfl]
    simp -implicitDefEqProofs only [Q0,a1S,↓reduceIte,eq_self,ZF,ZG,ZH,ZI,ZJ,ZK,ZL,ZM,ZN,ZO,ZP,ZQ,ZR,ZS,ZT,ZU,ZV,ZW,ZX,ZY,Z2,Z3,Z4,Z5,Z6,Z7,Z8,Z9,Za,Zb,Zc,Zd,Ze,Zf,Zg,Zh,Nat.reduceAdd,Zi,if_true,if_false,Zl,Zm,Zn,Zo,Zp,Zq,Zr,Zs,Zt,Zu,Zv,Zw,Zx,Zy,Zz,ZA,ZB,ZC,ZD,ZE,Nat.reduceLeDiff,p1,p2,a0F,hd,le0,h0,a1o,a1G,is3,a6a,decide_eq_false hn,if_pos hup]
    exact ih
 have:=loop l.length 0 (by omega) (n-l.length-1)
 rw [show n-l.length-1+l.length+1=n by omega,Q8] at this
 simp only [a0B,b0M,Q0,Sys.run]
 show ((a0E [.sh (.one _),.sh (.one _)] _).bind _)=_
 simp -implicitDefEqProofs only [a0E,a0x,a0w,Q3,Q0,Q7,Q5,Q6,if_true,p3,a1G]
 show (PT.ev _ a4S _).bind _=_
 simp -implicitDefEqProofs only [a4S,↓reduceIte,eq_self,ZF,ZG,ZH,ZI,ZJ,ZK,ZL,ZM,ZN,ZO,ZP,ZQ,ZR,ZS,ZT,ZU,ZV,ZW,ZX,ZY,Z2,Z3,Z4,Z5,Z6,Z7,Z8,Z9,Za,Zb,Zc,Zd,Ze,Zf,Zg,Zh,Nat.reduceAdd,Zi,if_true,if_false,Zl,Zm,Zn,Zo,Zp,Zq,Zr,Zs,Zt,Zu,Zv,Zw,Zx,Zy,Zz,ZA,ZB,ZC,ZD,ZE,p1,p2]
 exact this
end Go.Proofs.Ytflcopaopimlpaa
set_option maxRecDepth 100000
namespace Go.Proofs.Ytflcopaopimlpaa
open Go.Sx
theorem a3Q (σ:List MO) (z:Int) (n:Nat) (hn:1<=n):a0B Tab n a3k [.int .u8 z] σ=some (.bool (a5C z),σ):=by
 obtain ⟨n,rfl⟩:∃ k,n=k+1:=⟨n-1,by omega⟩
 simp only [a0B,a9r,Q0,Sys.run]
 show ((a0E [.sh (.one _)] _).bind _)=_
 simp -implicitDefEqProofs only [a0E,a0x,a0w,Q3,Q0,Q7,Q5,Q6,if_true]
 show (PT.ev _ a4l _).bind _=_
 simp -implicitDefEqProofs only [a4l,↓reduceIte,eq_self,ZF,ZG,ZH,ZI,ZJ,ZK,ZL,ZM,ZN,ZO,ZP,ZQ,ZR,ZS,ZT,ZU,ZV,ZW,ZX,ZY,Z2,Z3,Z4,Z5,Z6,Z7,Z8,Z9,Za,Zb,Zc,Zd,Ze,Zf,Zg,Zh,Nat.reduceAdd,Zi,if_true,if_false,Zl,Zm,Zn,Zo,Zp,Zq,Zr,Zs,Zt,Zu,Zv,Zw,Zx,Zy,Zz,ZA,ZB,ZC,ZD,ZE,a5C]
 cases leB 97 z<;>simp -implicitDefEqProofs only [↓reduceIte,eq_self,ZF,ZG,ZH,ZI,ZJ,ZK,ZL,ZM,ZN,ZO,ZP,ZQ,ZR,ZS,ZT,ZU,ZV,ZW,ZX,ZY,Z2,Z3,Z4,Z5,Z6,Z7,Z8,Z9,Za,Zb,Zc,Zd,Ze,Zf,Zg,Zh,Nat.reduceAdd,Zi,if_true,if_false,Zl,Zm,Zn,Zo,Zp,Zq,Zr,Zs,Zt,Zu,Zv,Zw,Zx,Zy,Zz,ZA,ZB,ZC,ZD,ZE,a0D,or_true,Qe,Q9]
theorem a9G (σ:List MO) (z:Int) (n:Nat) (hn:1<=n):a0B Tab n a6A [.int .u8 z] σ=some (.bool (b2h z),σ):=by
 obtain ⟨n,rfl⟩:∃ k,n=k+1:=⟨n-1,by omega⟩
 simp only [a0B,a9w,Q0,Sys.run]
 show ((a0E [.sh (.one _)] _).bind _)=_
 simp -implicitDefEqProofs only [a0E,a0x,a0w,Q3,Q0,Q7,Q5,Q6,if_true]
 show (PT.ev _ a4r _).bind _=_
 simp -implicitDefEqProofs only [a4r,↓reduceIte,eq_self,ZF,ZG,ZH,ZI,ZJ,ZK,ZL,ZM,ZN,ZO,ZP,ZQ,ZR,ZS,ZT,ZU,ZV,ZW,ZX,ZY,Z2,Z3,Z4,Z5,Z6,Z7,Z8,Z9,Za,Zb,Zc,Zd,Ze,Zf,Zg,Zh,Nat.reduceAdd,Zi,if_true,if_false,Zl,Zm,Zn,Zo,Zp,Zq,Zr,Zs,Zt,Zu,Zv,Zw,Zx,Zy,Zz,ZA,ZB,ZC,ZD,ZE,b2h]
 cases leB 48 z<;>simp -implicitDefEqProofs only [↓reduceIte,eq_self,ZF,ZG,ZH,ZI,ZJ,ZK,ZL,ZM,ZN,ZO,ZP,ZQ,ZR,ZS,ZT,ZU,ZV,ZW,ZX,ZY,Z2,Z3,Z4,Z5,Z6,Z7,Z8,Z9,Za,Zb,Zc,Zd,Ze,Zf,Zg,Zh,Nat.reduceAdd,Zi,if_true,if_false,Zl,Zm,Zn,Zo,Zp,Zq,Zr,Zs,Zt,Zu,Zv,Zw,Zx,Zy,Zz,ZA,ZB,ZC,ZD,ZE,a0D,or_true,Qe,Q9]
theorem c3Z (σ:List MO) (l:List UInt8) (hl:l.length<=12) (n:Nat) (hn:20<=n):∀ d i,i+d=l.length->∀ fuel,saleroomref06_One_S.loop (a0B Tab n) (fuel+d+1) 0 { i:=[(i:Int)],b:=[],v:=[.str l],m:=σ,k:=σ.length } =
  some (.tup [.agg [.int .i64 1,.str (l.take i++(l.drop i).takeWhile innC),.int .i64 0,.int .i64 0],.int .i64 0],σ):=by
 intro d
 induction d with
 | zero =>
  intro i hi fuel
  rw [Q4] at hi; subst hi
  have hd:decide (l.length < l.length)=false:=by simp
  have h12:ltB 12 (l.length:Int)=false:=by rw [a0I]; omega
  rw [Sys.loop,show saleroomref06_One_S.loops[0]?=some a1I from rfl,Qm]
  have hc:(0:Int)<=0/\(0:Int)<=(l.length:Int)/\(l.length:Int)<=(l.length:Int):=by omega
  simp -implicitDefEqProofs only [Q0,a1I,↓reduceIte,eq_self,ZF,ZG,ZH,ZI,ZJ,ZK,ZL,ZM,ZN,ZO,ZP,ZQ,ZR,ZS,ZT,ZU,ZV,ZW,ZX,ZY,Z2,Z3,Z4,Z5,Z6,Z7,Z8,Z9,Za,Zb,Zc,Zd,Ze,Zf,Zg,Zh,Nat.reduceAdd,Zi,if_true,if_false,Zl,Zm,Zn,Zo,Zp,Zq,Zr,Zs,Zt,Zu,Zv,Zw,Zx,Zy,Zz,ZA,ZB,ZC,ZD,ZE,is3,a1B,a0F,hd,h12,a2k,a2i,if_pos hc,a0D,or_true,Qf,a8Z,List.takeWhile_nil,Int.toNat_zero]
 | succ d ih =>
  intro i hi fuel
  have hlt:i < l.length:=by omega
  obtain ⟨c,hc⟩:=a0W hlt
  have hd:decide (i < l.length)=true:=decide_eq_true hlt
  have h12:ltB 12 (i:Int)=false:=by rw [a0I]; omega
  have hu:=c1s c
  have c1:=a3Q σ (c.toNat:Int) n (by omega)
  have c2:=a9G σ (c.toNat:Int) n (by omega)
  have hup:=a1y (show i<=1000000000 by omega)
  simp only [a3k,a6A] at c1 c2
  have ih:=ih (i+1) (by omega) fuel
  rw [a0Q] at ih
  have step:innC c=true->(l.take i++(l.drop i).takeWhile innC)=l.take (i+1)++(l.drop (i+1)).takeWhile innC:=fun hi2=>by
   rw [a9Q hc hi2,List.take_add_one,hc]; simp
  have hin:innC c=(a5C (c.toNat:Int)||(b2h (c.toNat:Int)||eqB (c.toNat:Int) 95)):=rfl
  rw [Sys.loop,show saleroomref06_One_S.loops[0]?=some a1I from rfl]
  cases h1:a5C (c.toNat:Int) with
  | true =>
   rw [h1] at c1
   rw [step (by rw [hin,h1]; rfl)]
   simp -implicitDefEqProofs only [Q0,a1I,↓reduceIte,eq_self,ZF,ZG,ZH,ZI,ZJ,ZK,ZL,ZM,ZN,ZO,ZP,ZQ,ZR,ZS,ZT,ZU,ZV,ZW,ZX,ZY,Z2,Z3,Z4,Z5,Z6,Z7,Z8,Z9,Za,Zb,Zc,Zd,Ze,Zf,Zg,Zh,Nat.reduceAdd,Zi,if_true,if_false,Zl,Zm,Zn,Zo,Zp,Zq,Zr,Zs,Zt,Zu,Zv,Zw,Zx,Zy,Zz,ZA,ZB,ZC,ZD,ZE,is3,a1B,a0F,hd,le0,a4v hc,c1,if_pos hup]
   exact ih
  | false =>
  rw [h1] at c1
  cases h2:b2h (c.toNat:Int) with
  | true =>
   rw [h2] at c2
   rw [step (by rw [hin,h1,h2]; rfl)]
   simp -implicitDefEqProofs only [Q0,a1I,↓reduceIte,eq_self,ZF,ZG,ZH,ZI,ZJ,ZK,ZL,ZM,ZN,ZO,ZP,ZQ,ZR,ZS,ZT,ZU,ZV,ZW,ZX,ZY,Z2,Z3,Z4,Z5,Z6,Z7,Z8,Z9,Za,Zb,Zc,Zd,Ze,Zf,Zg,Zh,Nat.reduceAdd,Zi,if_true,if_false,Zl,Zm,Zn,Zo,Zp,Zq,Zr,Zs,Zt,Zu,Zv,Zw,Zx,Zy,Zz,ZA,ZB,ZC,ZD,ZE,is3,a1B,a0F,hd,le0,a4v hc,c1,c2,if_pos hup]
   exact ih
  | false =>
  rw [h2] at c2
  cases h3:eqB (c.toNat:Int) 95 with
  | true =>
   rw [step (by rw [hin,h1,h2,h3]; rfl)]
   simp -implicitDefEqProofs only [Q0,a1I,↓reduceIte,eq_self,ZF,ZG,ZH,ZI,ZJ,ZK,ZL,ZM,ZN,ZO,ZP,ZQ,ZR,ZS,ZT,ZU,ZV,ZW,ZX,ZY,Z2,Z3,Z4,Z5,Z6,Z7,Z8,Z9,Za,Zb,Zc,Zd,Ze,Zf,Zg,Zh,Nat.reduceAdd,Zi,if_true,if_false,Zl,Zm,Zn,Zo,Zp,Zq,Zr,Zs,Zt,Zu,Zv,Zw,Zx,Zy,Zz,ZA,ZB,ZC,ZD,ZE,is3,a1B,a0F,hd,le0,a4v hc,c1,c2,h3,if_pos hup]
   exact ih
  | false =>
   have hcc:(0:Int)<=0/\(0:Int)<=(i:Int)/\(i:Int)<=(l.length:Int):=by omega
   have hst:=b1b (p:=innC) hc (by rw [hin,h1,h2,h3]; rfl)
   simp -implicitDefEqProofs only [Q0,a1I,↓reduceIte,eq_self,ZF,ZG,ZH,ZI,ZJ,ZK,ZL,ZM,ZN,ZO,ZP,ZQ,ZR,ZS,ZT,ZU,ZV,ZW,ZX,ZY,Z2,Z3,Z4,Z5,Z6,Z7,Z8,Z9,Za,Zb,Zc,Zd,Ze,Zf,Zg,Zh,Nat.reduceAdd,Zi,if_true,if_false,Zl,Zm,Zn,Zo,Zp,Zq,Zr,Zs,Zt,Zu,Zv,Zw,Zx,Zy,Zz,ZA,ZB,ZC,ZD,ZE,is3,a1B,a0F,hd,le0,a4v hc,c1,c2,h3,h12,a2k,a2i,if_pos hcc,a0D,or_true,Qf,hst,Int.toNat_zero,Q8]
theorem c5I (σ:List MO) (c:UInt8) (l:List UInt8) (h12:(c::l).length<=12) (hlow:a5C (c.toNat:Int)=true) (n:Nat) (hn:40<=n) :
  a0B Tab n a7e [.str (c::l)] σ=some (.tup [.agg [.int .i64 1,.str (c::l.takeWhile innC),.int .i64 0,.int .i64 0],.int .i64 0],σ):=by
 obtain ⟨n,rfl⟩:∃ k,n=k+1:=⟨n-1,by omega⟩
 have c1:=a3Q σ (c.toNat:Int) n (by omega)
 simp only [a3k] at c1
 rw [hlow] at c1
 have hp:ltB 0 ((l.length+1:Nat):Int)=true:=by rw [a0U]; omega
 have sa:PV.sAt (.str (c::l)) 0=(c.toNat:Int):=rfl
 have:=c3Z σ (c::l) h12 n (by omega) l.length 1 (by simp; omega) (n-l.length-1)
 rw [show n-l.length-1+l.length+1=n by simp at h12; omega] at this
 simp only [Qs,List.take_zero,List.drop_succ_cons,Q8,Q6,Q5] at this
 simp only [a0B,b1k,Q0,Sys.run]
 show ((a0E [.sh (.one _)] _).bind _)=_
 simp -implicitDefEqProofs only [a0E,a0x,a0w,Q3,Q0,Q7,Q5,Q6,if_true,a1G]
 show (PT.ev _ a5g _).bind _=_
 simp -implicitDefEqProofs only [a5g,↓reduceIte,eq_self,ZF,ZG,ZH,ZI,ZJ,ZK,ZL,ZM,ZN,ZO,ZP,ZQ,ZR,ZS,ZT,ZU,ZV,ZW,ZX,ZY,Z2,Z3,Z4,Z5,Z6,Z7,Z8,Z9,Za,Zb,Zc,Zd,Ze,Zf,Zg,Zh,Nat.reduceAdd,Zi,if_true,if_false,Zl,Zm,Zn,Zo,Zp,Zq,Zr,Zs,Zt,Zu,Zv,Zw,Zx,Zy,Zz,ZA,ZB,ZC,ZD,ZE,is3,a1B,hp,sa,c1]
 exact this
theorem c1l (σ:List MO) (l:List UInt8) (n:Nat) (hn:60<=n):a0B Tab n a5Z [.str l] σ=some (.bool (a4m l),σ):=by
 obtain ⟨n,rfl⟩:∃ k,n=k+1:=⟨n-1,by omega⟩
 simp only [a0B,a8N,Q0,Sys.run]
 show ((a0E [.sh (.one _)] _).bind _)=_
 simp -implicitDefEqProofs only [a0E,a0x,a0w,Q3,Q0,Q7,Q5,Q6,if_true,a1G]
 show (PT.ev _ a4i _).bind _=_
 simp -implicitDefEqProofs only [a4i,↓reduceIte,eq_self,ZF,ZG,ZH,ZI,ZJ,ZK,ZL,ZM,ZN,ZO,ZP,ZQ,ZR,ZS,ZT,ZU,ZV,ZW,ZX,ZY,Z2,Z3,Z4,Z5,Z6,Z7,Z8,Z9,Za,Zb,Zc,Zd,Ze,Zf,Zg,Zh,Nat.reduceAdd,Zi,if_true,if_false,Zl,Zm,Zn,Zo,Zp,Zq,Zr,Zs,Zt,Zu,Zv,Zw,Zx,Zy,Zz,ZA,ZB,ZC,ZD,ZE,is3,c2Z,a1B]
 cases l with
 | nil=>simp -implicitDefEqProofs only [↓reduceIte,eq_self,ZF,ZG,ZH,ZI,ZJ,ZK,ZL,ZM,ZN,ZO,ZP,ZQ,ZR,ZS,ZT,ZU,ZV,ZW,ZX,ZY,Z2,Z3,Z4,Z5,Z6,Z7,Z8,Z9,Za,Zb,Zc,Zd,Ze,Zf,Zg,Zh,Nat.reduceAdd,Zi,if_true,if_false,Zl,Zm,Zn,Zo,Zp,Zq,Zr,Zs,Zt,Zu,Zv,Zw,Zx,Zy,Zz,ZA,ZB,ZC,ZD,ZE,decide_true,a0D,or_true,a4m]; rfl
 | cons c l =>
  have h0:decide (c::l=[])=false:=by simp
  have hlen:decide (1<=(c::l).length)=true:=by simp
  have hp:ltB 0 ((l.length+1:Nat):Int)=true:=by rw [a0U]; omega
  have sa:PV.sAt (.str (c::l)) 0=(c.toNat:Int):=rfl
  rw [h0]
  unfold a4m
  rw [hlen,Qe,sa]
  by_cases h12:(c::l).length<=12
  ·have h1:ltB 12 ((l.length+1:Nat):Int)=false:=by rw [a0I]; simp at h12; omega
   have c1:=a3Q σ (c.toNat:Int) n (by omega)
   simp only [a3k] at c1
   rw [decide_eq_true h12]
   cases hlo:a5C (c.toNat:Int) with
   | false =>
    rw [hlo] at c1
    simp -implicitDefEqProofs only [↓reduceIte,eq_self,ZF,ZG,ZH,ZI,ZJ,ZK,ZL,ZM,ZN,ZO,ZP,ZQ,ZR,ZS,ZT,ZU,ZV,ZW,ZX,ZY,Z2,Z3,Z4,Z5,Z6,Z7,Z8,Z9,Za,Zb,Zc,Zd,Ze,Zf,Zg,Zh,Nat.reduceAdd,Zi,if_true,if_false,Zl,Zm,Zn,Zo,Zp,Zq,Zr,Zs,Zt,Zu,Zv,Zw,Zx,Zy,Zz,ZA,ZB,ZC,ZD,ZE,is3,a1B,h1,hp,sa,c1,a0D,or_true,Qe,Q9]
   | true =>
    rw [hlo] at c1
    have c2:=c5I σ c l h12 hlo n (by omega)
    simp only [a7e] at c2
    have hic:innC c=true:=by unfold innC b4X; rw [hlo]; rfl
    simp -implicitDefEqProofs only [↓reduceIte,eq_self,ZF,ZG,ZH,ZI,ZJ,ZK,ZL,ZM,ZN,ZO,ZP,ZQ,ZR,ZS,ZT,ZU,ZV,ZW,ZX,ZY,Z2,Z3,Z4,Z5,Z6,Z7,Z8,Z9,Za,Zb,Zc,Zd,Ze,Zf,Zg,Zh,Nat.reduceAdd,Zi,if_true,if_false,Zl,Zm,Zn,Zo,Zp,Zq,Zr,Zs,Zt,Zu,Zv,Zw,Zx,Zy,Zz,ZA,ZB,ZC,ZD,ZE,is3,a1B,h1,hp,sa,c1,c2,a1w,a1G,a6a,a7s,a0D,or_true,Qe,List.all_cons,hic]
    refine congrArg (fun x=>some (PV.bool x,σ)) ?_
    rw [Bool.eq_iff_iff,decide_eq_true_iff,List.cons.injEq]
    exact ⟨fun h=>(a6W _ _).1 h.2,fun h=>⟨rfl,(a6W _ _).2 h⟩⟩
  ·have h1:ltB 12 ((l.length+1:Nat):Int)=true:=by rw [a0U]; simp at h12; omega
   rw [decide_eq_false h12]
   simp -implicitDefEqProofs only [↓reduceIte,eq_self,ZF,ZG,ZH,ZI,ZJ,ZK,ZL,ZM,ZN,ZO,ZP,ZQ,ZR,ZS,ZT,ZU,ZV,ZW,ZX,ZY,Z2,Z3,Z4,Z5,Z6,Z7,Z8,Z9,Za,Zb,Zc,Zd,Ze,Zf,Zg,Zh,Nat.reduceAdd,Zi,if_true,if_false,Zl,Zm,Zn,Zo,Zp,Zq,Zr,Zs,Zt,Zu,Zv,Zw,Zx,Zy,Zz,ZA,ZB,ZC,ZD,ZE,is3,a1B,h1,a0D,or_true,Q9]
theorem c3d {x:Bd} (h:¬ x.rng):ltB x.c 0=true\/ltB 4 x.c=true\/ltB x.b 0=true\/ltB 1000000 x.b=true\/ltB x.p 0=true\/ltB 24000 x.p=true:=by
 simp only [Bd.rng] at h
 simp only [a0U]; omega
theorem c7p {l:List Bd} {i:Nat} (h:i<=l.length):(0:Int)<=0/\(0:Int)<=(i:Int)/\(i:Int)<=((l.map Bd.row).length:Int):=by rw [Q2]; omega
theorem c8R (a b c d:PV):Qa 1 [a,b,c,d]=[b,c,d]/\Qa 2 [a,b,c,d]=[c,d]/\Qa 3 [a,b,c,d]=[d]:=⟨rfl,rfl,rfl⟩
theorem b5p {α:Type} (p:α->Bool) (l:List α):l.any p=(l.findIdx? p).isSome:=by rw [List.findIdx?_isSome]
theorem c0E {α:Type} {p:α->Bool}:∀ {l:List α} {i:Nat} {x:α},l[i]?=some x->p x=true->∃ k,l.findIdx? p=some k/\(k=i↔(l.take i).any p=false)
 | [],i,x,h,_=>by simp at h
 | y::l,0,x,h,hp=>by
  simp only [List.getElem?_cons_zero,Option.some.injEq] at h; subst h
  exact ⟨0,by rw [Qk,hp]; rfl,by simp⟩
 | y::l,i+1,x,h,hp=>by
  obtain ⟨k,h1,h2⟩:=c0E (l:=l) (i:=i) (by simpa using h) hp
  rw [Qk,Qs,List.any_cons]
  cases hy:p y with
  | true=>exact ⟨0,rfl,by simp⟩
  | false =>
   refine ⟨k+1,by simp [h1],?_⟩
   simp only [Qb,Nat.add_right_cancel_iff]
   exact h2
theorem b4T (σ:List MO) (l:List Bd) (P:PV) (hP:P.rowsOf 4=some (l.map Bd.row)) (n:Nat) (hn:60<=n):a0B Tab n b1f [P] σ=some (.int .i64 (a8D l),σ):=by
 obtain ⟨n,rfl⟩:∃ k,n=k+1:=⟨n-1,by omega⟩
 obtain ⟨p1,p2,p3⟩:=a0C hP
 rw [Q2] at p1
 simp only [a0B,b5o,Q0,Sys.run]
 show ((a0E [.sh (.one _)] _).bind _)=_
 simp -implicitDefEqProofs only [a0E,a0x,a0w,Q3,Q0,Q7,Q5,Q6,if_true,p3]
 show (PT.ev _ a7y _).bind _=_
 simp -implicitDefEqProofs only [a7y,↓reduceIte,eq_self,ZF,ZG,ZH,ZI,ZJ,ZK,ZL,ZM,ZN,ZO,ZP,ZQ,ZR,ZS,ZT,ZU,ZV,ZW,ZX,ZY,Z2,Z3,Z4,Z5,Z6,Z7,Z8,Z9,Za,Zb,Zc,Zd,Ze,Zf,Zg,Zh,Nat.reduceAdd,Zi,if_true,if_false,Zl,Zm,Zn,Zo,Zp,Zq,Zr,Zs,Zt,Zu,Zv,Zw,Zx,Zy,Zz,ZA,ZB,ZC,ZD,ZE,p1,p2,a8D]
 cases h0:eqB (l.length:Int) 0 with
 | true=>simp -implicitDefEqProofs only [↓reduceIte,eq_self,ZF,ZG,ZH,ZI,ZJ,ZK,ZL,ZM,ZN,ZO,ZP,ZQ,ZR,ZS,ZT,ZU,ZV,ZW,ZX,ZY,Z2,Z3,Z4,Z5,Z6,Z7,Z8,Z9,Za,Zb,Zc,Zd,Ze,Zf,Zg,Zh,Nat.reduceAdd,Zi,if_true,if_false,Zl,Zm,Zn,Zo,Zp,Zq,Zr,Zs,Zt,Zu,Zv,Zw,Zx,Zy,Zz,ZA,ZB,ZC,ZD,ZE,a0D,or_true]
 | false =>
 cases h8:ltB 8 (l.length:Int) with
 | true=>simp -implicitDefEqProofs only [↓reduceIte,eq_self,ZF,ZG,ZH,ZI,ZJ,ZK,ZL,ZM,ZN,ZO,ZP,ZQ,ZR,ZS,ZT,ZU,ZV,ZW,ZX,ZY,Z2,Z3,Z4,Z5,Z6,Z7,Z8,Z9,Za,Zb,Zc,Zd,Ze,Zf,Zg,Zh,Nat.reduceAdd,Zi,if_true,if_false,Zl,Zm,Zn,Zo,Zp,Zq,Zr,Zs,Zt,Zu,Zv,Zw,Zx,Zy,Zz,ZA,ZB,ZC,ZD,ZE,p1,p2,h8,a0D,or_true]
 | false =>
 have h8':=h8
 rw [a0I] at h8
 have loop:∀ d i,i+d=l.length->∀ fuel,roster_Check_S.loop (a0B Tab n) (fuel+d+1) 0 { i:=[(l.length:Int),(i:Int)],b:=[],v:=[P],m:=σ,k:=σ.length }=some (.int .i64 (goL a4J l d i),σ):=by
  intro d
  induction d with
  | zero =>
   intro i hi fuel
   rw [Q4] at hi; subst hi
   have hd:decide (l.length < l.length)=false:=by simp
   rw [Sys.loop,show roster_Check_S.loops[0]?=some a3Y from rfl]
   simp -implicitDefEqProofs only [Q0,a3Y,↓reduceIte,eq_self,ZF,ZG,ZH,ZI,ZJ,ZK,ZL,ZM,ZN,ZO,ZP,ZQ,ZR,ZS,ZT,ZU,ZV,ZW,ZX,ZY,Z2,Z3,Z4,Z5,Z6,Z7,Z8,Z9,Za,Zb,Zc,Zd,Ze,Zf,Zg,Zh,Nat.reduceAdd,Zi,if_true,if_false,Zl,Zm,Zn,Zo,Zp,Zq,Zr,Zs,Zt,Zu,Zv,Zw,Zx,Zy,Zz,ZA,ZB,ZC,ZD,ZE,a0F,hd,goL,a0D,or_true]
  | succ d ih =>
   intro i hi fuel
   have hlt:i < l.length:=by omega
   obtain ⟨x,hx⟩:=a0W hlt
   have hd:decide (i < l.length)=true:=decide_eq_true hlt
   have hq:=a0G (off:=0) hP (a1J hx)
   have hup:=a1y (show i<=1000000000 by omega)
   have c1:=b7F σ x.nm n (by omega)
   have hcut:((((l.map Bd.row).take (i:Int).toNat).drop (0:Int).toNat))=(l.take i).map Bd.row:=by simp [Qn]
   have c2:=b6t σ (l.take i) (.sl 4 ((l.take i).map Bd.row)) (a1v _ _) (by simp; omega) x.nm n (by simp; omega)
   simp only [a7u,b2F] at c1 c2
   have hc:=c7p (l:=l) (i:=i) (by omega)
   rw [a7o hx,Sys.loop,show roster_Check_S.loops[0]?=some a3Y from rfl]
   simp -implicitDefEqProofs only [Q0,a3Y,↓reduceIte,eq_self,ZF,ZG,ZH,ZI,ZJ,ZK,ZL,ZM,ZN,ZO,ZP,ZQ,ZR,ZS,ZT,ZU,ZV,ZW,ZX,ZY,Z2,Z3,Z4,Z5,Z6,Z7,Z8,Z9,Za,Zb,Zc,Zd,Ze,Zf,Zg,Zh,Nat.reduceAdd,Zi,if_true,if_false,Zl,Zm,Zn,Zo,Zp,Zq,Zr,Zs,Zt,Zu,Zv,Zw,Zx,Zy,Zz,ZA,ZB,ZC,ZD,ZE,p1,a0F,hd,le0,hq,a1o,a1G,c1,hP,a2k,a2i,if_pos hc,hcut]
   have h50:¬ ((5:Int)=0):=by decide
   have h70:¬ ((7:Int)=0):=by decide
   have h40:¬ ((4:Int)=0):=by decide
   cases hnm:a4m x.nm with
   | false =>
    have hp:a4J (l.take i) x=5:=by unfold a4J; rw [hnm]; rfl
    rw [hp,if_neg h50]
    simp -implicitDefEqProofs only [↓reduceIte,eq_self,ZF,ZG,ZH,ZI,ZJ,ZK,ZL,ZM,ZN,ZO,ZP,ZQ,ZR,ZS,ZT,ZU,ZV,ZW,ZX,ZY,Z2,Z3,Z4,Z5,Z6,Z7,Z8,Z9,Za,Zb,Zc,Zd,Ze,Zf,Zg,Zh,Nat.reduceAdd,Zi,if_true,if_false,Zl,Zm,Zn,Zo,Zp,Zq,Zr,Zs,Zt,Zu,Zv,Zw,Zx,Zy,Zz,ZA,ZB,ZC,ZD,ZE,a0D,or_true]
   | true =>
    simp -implicitDefEqProofs only [↓reduceIte,eq_self,ZF,ZG,ZH,ZI,ZJ,ZK,ZL,ZM,ZN,ZO,ZP,ZQ,ZR,ZS,ZT,ZU,ZV,ZW,ZX,ZY,Z2,Z3,Z4,Z5,Z6,Z7,Z8,Z9,Za,Zb,Zc,Zd,Ze,Zf,Zg,Zh,Nat.reduceAdd,Zi,if_true,if_false,Zl,Zm,Zn,Zo,Zp,Zq,Zr,Zs,Zt,Zu,Zv,Zw,Zx,Zy,Zz,ZA,ZB,ZC,ZD,ZE,a1w,hP,a2k,a2i,if_pos hc,hcut,c2]
    cases hany:((l.take i).findIdx? fun y=>decide (y.nm=x.nm)) with
    | some k =>
     have hp:a4J (l.take i) x=7:=by unfold a4J; rw [hnm,b5p,hany]; rfl
     rw [hp,if_neg h70]
     simp -implicitDefEqProofs only [↓reduceIte,eq_self,ZF,ZG,ZH,ZI,ZJ,ZK,ZL,ZM,ZN,ZO,ZP,ZQ,ZR,ZS,ZT,ZU,ZV,ZW,ZX,ZY,Z2,Z3,Z4,Z5,Z6,Z7,Z8,Z9,Za,Zb,Zc,Zd,Ze,Zf,Zg,Zh,Nat.reduceAdd,Zi,if_true,if_false,Zl,Zm,Zn,Zo,Zp,Zq,Zr,Zs,Zt,Zu,Zv,Zw,Zx,Zy,Zz,ZA,ZB,ZC,ZD,ZE,a6K,a1w,a0D,or_true]
    | none =>
     simp -implicitDefEqProofs only [↓reduceIte,eq_self,ZF,ZG,ZH,ZI,ZJ,ZK,ZL,ZM,ZN,ZO,ZP,ZQ,ZR,ZS,ZT,ZU,ZV,ZW,ZX,ZY,Z2,Z3,Z4,Z5,Z6,Z7,Z8,Z9,Za,Zb,Zc,Zd,Ze,Zf,Zg,Zh,Nat.reduceAdd,Zi,if_true,if_false,Zl,Zm,Zn,Zo,Zp,Zq,Zr,Zs,Zt,Zu,Zv,Zw,Zx,Zy,Zz,ZA,ZB,ZC,ZD,ZE,a6K,a1w]
     by_cases hrng:x.rng
     ·have ih:=ih (i+1) (by omega) fuel
      rw [a0Q] at ih
      have hp:a4J (l.take i) x=0:=by unfold a4J; rw [hnm,b5p,hany,if_pos hrng]; rfl
      rw [hp,if_pos rfl]
      simp only [Bd.rng] at hrng
      have e1:ltB x.c 0=false:=by rw [a0I]; omega
      have e2:ltB 4 x.c=false:=by rw [a0I]; omega
      have e3:ltB x.b 0=false:=by rw [a0I]; omega
      have e4:ltB 1000000 x.b=false:=by rw [a0I]; omega
      have e5:ltB x.p 0=false:=by rw [a0I]; omega
      have e6:ltB 24000 x.p=false:=by rw [a0I]; omega
      simp -implicitDefEqProofs only [↓reduceIte,eq_self,ZF,ZG,ZH,ZI,ZJ,ZK,ZL,ZM,ZN,ZO,ZP,ZQ,ZR,ZS,ZT,ZU,ZV,ZW,ZX,ZY,Z2,Z3,Z4,Z5,Z6,Z7,Z8,Z9,Za,Zb,Zc,Zd,Ze,Zf,Zg,Zh,Nat.reduceAdd,Zi,if_true,if_false,Zl,Zm,Zn,Zo,Zp,Zq,Zr,Zs,Zt,Zu,Zv,Zw,Zx,Zy,Zz,ZA,ZB,ZC,ZD,ZE,e1,e2,e3,e4,e5,e6,if_pos hup]
      exact ih
     ·have hp:a4J (l.take i) x=4:=by unfold a4J; rw [hnm,b5p,hany,if_neg hrng]; rfl
      rw [hp,if_neg h40]
      have hno:=c3d hrng
      cases e1:ltB x.c 0 with
      | true=>simp -implicitDefEqProofs only [↓reduceIte,eq_self,ZF,ZG,ZH,ZI,ZJ,ZK,ZL,ZM,ZN,ZO,ZP,ZQ,ZR,ZS,ZT,ZU,ZV,ZW,ZX,ZY,Z2,Z3,Z4,Z5,Z6,Z7,Z8,Z9,Za,Zb,Zc,Zd,Ze,Zf,Zg,Zh,Nat.reduceAdd,Zi,if_true,if_false,Zl,Zm,Zn,Zo,Zp,Zq,Zr,Zs,Zt,Zu,Zv,Zw,Zx,Zy,Zz,ZA,ZB,ZC,ZD,ZE,a0D,or_true]
      | false =>
      cases e2:ltB 4 x.c with
      | true=>simp -implicitDefEqProofs only [↓reduceIte,eq_self,ZF,ZG,ZH,ZI,ZJ,ZK,ZL,ZM,ZN,ZO,ZP,ZQ,ZR,ZS,ZT,ZU,ZV,ZW,ZX,ZY,Z2,Z3,Z4,Z5,Z6,Z7,Z8,Z9,Za,Zb,Zc,Zd,Ze,Zf,Zg,Zh,Nat.reduceAdd,Zi,if_true,if_false,Zl,Zm,Zn,Zo,Zp,Zq,Zr,Zs,Zt,Zu,Zv,Zw,Zx,Zy,Zz,ZA,ZB,ZC,ZD,ZE,e2,a0D,or_true]
      | false =>
      cases e3:ltB x.b 0 with
      | true=>simp -implicitDefEqProofs only [↓reduceIte,eq_self,ZF,ZG,ZH,ZI,ZJ,ZK,ZL,ZM,ZN,ZO,ZP,ZQ,ZR,ZS,ZT,ZU,ZV,ZW,ZX,ZY,Z2,Z3,Z4,Z5,Z6,Z7,Z8,Z9,Za,Zb,Zc,Zd,Ze,Zf,Zg,Zh,Nat.reduceAdd,Zi,if_true,if_false,Zl,Zm,Zn,Zo,Zp,Zq,Zr,Zs,Zt,Zu,Zv,Zw,Zx,Zy,Zz,ZA,ZB,ZC,ZD,ZE,e2,e3,a0D,or_true]
      | false =>
      cases e4:ltB 1000000 x.b with
      | true=>simp -implicitDefEqProofs only [↓reduceIte,eq_self,ZF,ZG,ZH,ZI,ZJ,ZK,ZL,ZM,ZN,ZO,ZP,ZQ,ZR,ZS,ZT,ZU,ZV,ZW,ZX,ZY,Z2,Z3,Z4,Z5,Z6,Z7,Z8,Z9,Za,Zb,Zc,Zd,Ze,Zf,Zg,Zh,Nat.reduceAdd,Zi,if_true,if_false,Zl,Zm,Zn,Zo,Zp,Zq,Zr,Zs,Zt,Zu,Zv,Zw,Zx,Zy,Zz,ZA,ZB,ZC,ZD,ZE,e2,e3,e4,a0D,or_true]
      | false =>
      cases e5:ltB x.p 0 with
      | true=>simp -implicitDefEqProofs only [↓reduceIte,eq_self,ZF,ZG,ZH,ZI,ZJ,ZK,ZL,ZM,ZN,ZO,ZP,ZQ,ZR,ZS,ZT,ZU,ZV,ZW,ZX,ZY,Z2,Z3,Z4,Z5,Z6,Z7,Z8,Z9,Za,Zb,Zc,Zd,Ze,Zf,Zg,Zh,Nat.reduceAdd,Zi,if_true,if_false,Zl,Zm,Zn,Zo,Zp,Zq,Zr,Zs,Zt,Zu,Zv,Zw,Zx,Zy,Zz,ZA,ZB,ZC,ZD,ZE,e2,e3,e4,e5,a0D,or_true]
      | false =>
      cases e6:ltB 24000 x.p with
      | true=>simp -implicitDefEqProofs only [↓reduceIte,eq_self,ZF,ZG,ZH,ZI,ZJ,ZK,ZL,ZM,ZN,ZO,ZP,ZQ,ZR,ZS,ZT,ZU,ZV,ZW,ZX,ZY,Z2,Z3,Z4,Z5,Z6,Z7,Z8,Z9,Za,Zb,Zc,Zd,Ze,Zf,Zg,Zh,Nat.reduceAdd,Zi,if_true,if_false,Zl,Zm,Zn,Zo,Zp,Zq,Zr,Zs,Zt,Zu,Zv,Zw,Zx,Zy,Zz,ZA,ZB,ZC,ZD,ZE,e2,e3,e4,e5,e6,a0D,or_true]
      | false=>rw [e1,e2,e3,e4,e5,e6] at hno; simp at hno
 have:=loop l.length 0 (by omega) (n-l.length-1)
 rw [show n-l.length-1+l.length+1=n by omega] at this
 simp -implicitDefEqProofs only [↓reduceIte,eq_self,ZF,ZG,ZH,ZI,ZJ,ZK,ZL,ZM,ZN,ZO,ZP,ZQ,ZR,ZS,ZT,ZU,ZV,ZW,ZX,ZY,Z2,Z3,Z4,Z5,Z6,Z7,Z8,Z9,Za,Zb,Zc,Zd,Ze,Zf,Zg,Zh,Nat.reduceAdd,Zi,if_true,if_false,Zl,Zm,Zn,Zo,Zp,Zq,Zr,Zs,Zt,Zu,Zv,Zw,Zx,Zy,Zz,ZA,ZB,ZC,ZD,ZE,p1,p2,h8']
 exact this
end Go.Proofs.Ytflcopaopimlpaa
set_option maxRecDepth 100000
namespace Go.Proofs.Ytflcopaopimlpaa
open Go.Sx
theorem c4j (σ:List MO) (l:List Bd) (P:PV) (hP:P.rowsOf 4=some (l.map Bd.row)) (n:Nat) (hn:80<=n):a0B Tab n a6w [P] σ=some (.int .i64 (a8D l),σ):=by
 obtain ⟨n,rfl⟩:∃ k,n=k+1:=⟨n-1,by omega⟩
 obtain ⟨p1,p2,p3⟩:=a0C hP
 rw [Q2] at p1
 simp only [a0B,a9x,Q0,Sys.run]
 show ((a0E [.sh (.one _)] _).bind _)=_
 simp -implicitDefEqProofs only [a0E,a0x,a0w,Q3,Q0,Q7,Q5,Q6,if_true,p3]
 show (PT.ev _ a4C _).bind _=_
 simp -implicitDefEqProofs only [a4C,↓reduceIte,eq_self,ZF,ZG,ZH,ZI,ZJ,ZK,ZL,ZM,ZN,ZO,ZP,ZQ,ZR,ZS,ZT,ZU,ZV,ZW,ZX,ZY,Z2,Z3,Z4,Z5,Z6,Z7,Z8,Z9,Za,Zb,Zc,Zd,Ze,Zf,Zg,Zh,Nat.reduceAdd,Zi,if_true,if_false,Zl,Zm,Zn,Zo,Zp,Zq,Zr,Zs,Zt,Zu,Zv,Zw,Zx,Zy,Zz,ZA,ZB,ZC,ZD,ZE,p1,p2,a8D]
 cases h0:eqB (l.length:Int) 0 with
 | true=>simp -implicitDefEqProofs only [↓reduceIte,eq_self,ZF,ZG,ZH,ZI,ZJ,ZK,ZL,ZM,ZN,ZO,ZP,ZQ,ZR,ZS,ZT,ZU,ZV,ZW,ZX,ZY,Z2,Z3,Z4,Z5,Z6,Z7,Z8,Z9,Za,Zb,Zc,Zd,Ze,Zf,Zg,Zh,Nat.reduceAdd,Zi,if_true,if_false,Zl,Zm,Zn,Zo,Zp,Zq,Zr,Zs,Zt,Zu,Zv,Zw,Zx,Zy,Zz,ZA,ZB,ZC,ZD,ZE,a0D,or_true]
 | false =>
 cases h8:ltB 8 (l.length:Int) with
 | true=>simp -implicitDefEqProofs only [↓reduceIte,eq_self,ZF,ZG,ZH,ZI,ZJ,ZK,ZL,ZM,ZN,ZO,ZP,ZQ,ZR,ZS,ZT,ZU,ZV,ZW,ZX,ZY,Z2,Z3,Z4,Z5,Z6,Z7,Z8,Z9,Za,Zb,Zc,Zd,Ze,Zf,Zg,Zh,Nat.reduceAdd,Zi,if_true,if_false,Zl,Zm,Zn,Zo,Zp,Zq,Zr,Zs,Zt,Zu,Zv,Zw,Zx,Zy,Zz,ZA,ZB,ZC,ZD,ZE,p1,p2,h8,a0D,or_true]
 | false =>
 have h8':=h8
 rw [a0I] at h8
 have loop:∀ d i,i+d=l.length->∀ fuel,saleroomref09_Check_S.loop (a0B Tab n) (fuel+d+1) 0 { i:=[(i:Int)],b:=[],v:=[P],m:=σ,k:=σ.length }=some (.int .i64 (goL a4J l d i),σ):=by
  intro d
  induction d with
  | zero =>
   intro i hi fuel
   rw [Q4] at hi; subst hi
   have hd:decide (l.length < l.length)=false:=by simp
   rw [Sys.loop,show saleroomref09_Check_S.loops[0]?=some a2s from rfl]
   simp -implicitDefEqProofs only [Q0,a2s,↓reduceIte,eq_self,ZF,ZG,ZH,ZI,ZJ,ZK,ZL,ZM,ZN,ZO,ZP,ZQ,ZR,ZS,ZT,ZU,ZV,ZW,ZX,ZY,Z2,Z3,Z4,Z5,Z6,Z7,Z8,Z9,Za,Zb,Zc,Zd,Ze,Zf,Zg,Zh,Nat.reduceAdd,Zi,if_true,if_false,Zl,Zm,Zn,Zo,Zp,Zq,Zr,Zs,Zt,Zu,Zv,Zw,Zx,Zy,Zz,ZA,ZB,ZC,ZD,ZE,p1,p2,a0F,hd,goL,a0D,or_true]
  | succ d ih =>
   intro i hi fuel
   have hlt:i < l.length:=by omega
   obtain ⟨x,hx⟩:=a0W hlt
   have hd:decide (i < l.length)=true:=decide_eq_true hlt
   have q0:=a0G (off:=0) hP (a1J hx)
   have q1:=a0G (off:=1) hP (a1J hx)
   have q2:=a0G (off:=2) hP (a1J hx)
   have q3:=a0G (off:=3) hP (a1J hx)
   obtain ⟨r1,r2,r3⟩:=c8R (.str x.nm) (.int .i64 x.c) (.int .i64 x.b) (.int .i64 x.p)
   have hup:=a1y (show i<=1000000000 by omega)
   have c1:=c1l σ x.nm n (by omega)
   have c2:=b0z σ l P hP (by omega) x.nm n (by omega)
   obtain ⟨k,hk1,hk2⟩:=c0E (p:=fun y:Bd=>decide (y.nm=x.nm)) hx (by simp)
   rw [hk1] at c2
   simp only [a5Z,a6N,a6K,Nat.zero_add] at c1 c2
   rw [a7o hx,Sys.loop,show saleroomref09_Check_S.loops[0]?=some a2s from rfl]
   simp -implicitDefEqProofs only [Q0,a2s,↓reduceIte,eq_self,ZF,ZG,ZH,ZI,ZJ,ZK,ZL,ZM,ZN,ZO,ZP,ZQ,ZR,ZS,ZT,ZU,ZV,ZW,ZX,ZY,Z2,Z3,Z4,Z5,Z6,Z7,Z8,Z9,Za,Zb,Zc,Zd,Ze,Zf,Zg,Zh,Nat.reduceAdd,Zi,if_true,if_false,Zl,Zm,Zn,Zo,Zp,Zq,Zr,Zs,Zt,Zu,Zv,Zw,Zx,Zy,Zz,ZA,ZB,ZC,ZD,ZE,Nat.reduceLeDiff,p1,p2,a0F,hd,le0,q0,a1o,a1G,c1]
   have h50:¬ ((5:Int)=0):=by decide
   have h70:¬ ((7:Int)=0):=by decide
   have h40:¬ ((4:Int)=0):=by decide
   cases hnm:a4m x.nm with
   | false =>
    have hp:a4J (l.take i) x=5:=by unfold a4J; rw [hnm]; rfl
    rw [hp,if_neg h50]
    simp -implicitDefEqProofs only [↓reduceIte,eq_self,ZF,ZG,ZH,ZI,ZJ,ZK,ZL,ZM,ZN,ZO,ZP,ZQ,ZR,ZS,ZT,ZU,ZV,ZW,ZX,ZY,Z2,Z3,Z4,Z5,Z6,Z7,Z8,Z9,Za,Zb,Zc,Zd,Ze,Zf,Zg,Zh,Nat.reduceAdd,Zi,if_true,if_false,Zl,Zm,Zn,Zo,Zp,Zq,Zr,Zs,Zt,Zu,Zv,Zw,Zx,Zy,Zz,ZA,ZB,ZC,ZD,ZE,a0D,or_true]
   | true =>
    simp -implicitDefEqProofs only [↓reduceIte,eq_self,ZF,ZG,ZH,ZI,ZJ,ZK,ZL,ZM,ZN,ZO,ZP,ZQ,ZR,ZS,ZT,ZU,ZV,ZW,ZX,ZY,Z2,Z3,Z4,Z5,Z6,Z7,Z8,Z9,Za,Zb,Zc,Zd,Ze,Zf,Zg,Zh,Nat.reduceAdd,Zi,if_true,if_false,Zl,Zm,Zn,Zo,Zp,Zq,Zr,Zs,Zt,Zu,Zv,Zw,Zx,Zy,Zz,ZA,ZB,ZC,ZD,ZE,Nat.reduceLeDiff,p1,p2,a0F,hd,le0,q0,a1o,a1G,c2,a1w]
    by_cases hki:k=i
    ·have hany:=hk2.1 hki
     subst hki
     have hkk:eqB (k:Int) (k:Int)=true:=a7s _
     by_cases hrng:x.rng
     ·have ih:=ih (k+1) (by omega) fuel
      rw [a0Q] at ih
      have hp:a4J (l.take k) x=0:=by unfold a4J; rw [hnm,hany,if_pos hrng]; rfl
      rw [hp,if_pos rfl]
      simp only [Bd.rng] at hrng
      have e1:ltB x.c 0=false:=by rw [a0I]; omega
      have e2:ltB 4 x.c=false:=by rw [a0I]; omega
      have e3:ltB x.b 0=false:=by rw [a0I]; omega
      have e4:ltB 1000000 x.b=false:=by rw [a0I]; omega
      have e5:ltB x.p 0=false:=by rw [a0I]; omega
      have e6:ltB 24000 x.p=false:=by rw [a0I]; omega
      simp -implicitDefEqProofs only [↓reduceIte,eq_self,ZF,ZG,ZH,ZI,ZJ,ZK,ZL,ZM,ZN,ZO,ZP,ZQ,ZR,ZS,ZT,ZU,ZV,ZW,ZX,ZY,Z2,Z3,Z4,Z5,Z6,Z7,Z8,Z9,Za,Zb,Zc,Zd,Ze,Zf,Zg,Zh,Nat.reduceAdd,Zi,if_true,if_false,Zl,Zm,Zn,Zo,Zp,Zq,Zr,Zs,Zt,Zu,Zv,Zw,Zx,Zy,Zz,ZA,ZB,ZC,ZD,ZE,Nat.reduceLeDiff,hkk,p1,p2,a0F,hd,le0,q1,q2,q3,a1o,r1,r2,r3,e1,e2,e3,e4,e5,e6,if_pos hup]
      exact ih
     ·have hp:a4J (l.take k) x=4:=by unfold a4J; rw [hnm,hany,if_neg hrng]; rfl
      rw [hp,if_neg h40]
      have hno:=c3d hrng
      simp -implicitDefEqProofs only [↓reduceIte,eq_self,ZF,ZG,ZH,ZI,ZJ,ZK,ZL,ZM,ZN,ZO,ZP,ZQ,ZR,ZS,ZT,ZU,ZV,ZW,ZX,ZY,Z2,Z3,Z4,Z5,Z6,Z7,Z8,Z9,Za,Zb,Zc,Zd,Ze,Zf,Zg,Zh,Nat.reduceAdd,Zi,if_true,if_false,Zl,Zm,Zn,Zo,Zp,Zq,Zr,Zs,Zt,Zu,Zv,Zw,Zx,Zy,Zz,ZA,ZB,ZC,ZD,ZE,Nat.reduceLeDiff,hkk,p1,p2,a0F,hd,le0,q1,q2,q3,a1o,r1,r2,r3]
      cases e1:ltB x.c 0 with
      | true=>simp -implicitDefEqProofs only [↓reduceIte,eq_self,ZF,ZG,ZH,ZI,ZJ,ZK,ZL,ZM,ZN,ZO,ZP,ZQ,ZR,ZS,ZT,ZU,ZV,ZW,ZX,ZY,Z2,Z3,Z4,Z5,Z6,Z7,Z8,Z9,Za,Zb,Zc,Zd,Ze,Zf,Zg,Zh,Nat.reduceAdd,Zi,if_true,if_false,Zl,Zm,Zn,Zo,Zp,Zq,Zr,Zs,Zt,Zu,Zv,Zw,Zx,Zy,Zz,ZA,ZB,ZC,ZD,ZE,a0D,or_true]
      | false =>
      simp -implicitDefEqProofs only [↓reduceIte,eq_self,ZF,ZG,ZH,ZI,ZJ,ZK,ZL,ZM,ZN,ZO,ZP,ZQ,ZR,ZS,ZT,ZU,ZV,ZW,ZX,ZY,Z2,Z3,Z4,Z5,Z6,Z7,Z8,Z9,Za,Zb,Zc,Zd,Ze,Zf,Zg,Zh,Nat.reduceAdd,Zi,if_true,if_false,Zl,Zm,Zn,Zo,Zp,Zq,Zr,Zs,Zt,Zu,Zv,Zw,Zx,Zy,Zz,ZA,ZB,ZC,ZD,ZE,Nat.reduceLeDiff,hkk,p1,p2,a0F,hd,le0,q1,q2,q3,a1o,r1,r2,r3]
      cases e2:ltB 4 x.c with
      | true=>simp -implicitDefEqProofs only [↓reduceIte,eq_self,ZF,ZG,ZH,ZI,ZJ,ZK,ZL,ZM,ZN,ZO,ZP,ZQ,ZR,ZS,ZT,ZU,ZV,ZW,ZX,ZY,Z2,Z3,Z4,Z5,Z6,Z7,Z8,Z9,Za,Zb,Zc,Zd,Ze,Zf,Zg,Zh,Nat.reduceAdd,Zi,if_true,if_false,Zl,Zm,Zn,Zo,Zp,Zq,Zr,Zs,Zt,Zu,Zv,Zw,Zx,Zy,Zz,ZA,ZB,ZC,ZD,ZE,a0D,or_true]
      | false =>
      simp -implicitDefEqProofs only [↓reduceIte,eq_self,ZF,ZG,ZH,ZI,ZJ,ZK,ZL,ZM,ZN,ZO,ZP,ZQ,ZR,ZS,ZT,ZU,ZV,ZW,ZX,ZY,Z2,Z3,Z4,Z5,Z6,Z7,Z8,Z9,Za,Zb,Zc,Zd,Ze,Zf,Zg,Zh,Nat.reduceAdd,Zi,if_true,if_false,Zl,Zm,Zn,Zo,Zp,Zq,Zr,Zs,Zt,Zu,Zv,Zw,Zx,Zy,Zz,ZA,ZB,ZC,ZD,ZE,Nat.reduceLeDiff,hkk,p1,p2,a0F,hd,le0,q1,q2,q3,a1o,r1,r2,r3]
      cases e3:ltB x.b 0 with
      | true=>simp -implicitDefEqProofs only [↓reduceIte,eq_self,ZF,ZG,ZH,ZI,ZJ,ZK,ZL,ZM,ZN,ZO,ZP,ZQ,ZR,ZS,ZT,ZU,ZV,ZW,ZX,ZY,Z2,Z3,Z4,Z5,Z6,Z7,Z8,Z9,Za,Zb,Zc,Zd,Ze,Zf,Zg,Zh,Nat.reduceAdd,Zi,if_true,if_false,Zl,Zm,Zn,Zo,Zp,Zq,Zr,Zs,Zt,Zu,Zv,Zw,Zx,Zy,Zz,ZA,ZB,ZC,ZD,ZE,a0D,or_true]
      | false =>
      simp -implicitDefEqProofs only [↓reduceIte,eq_self,ZF,ZG,ZH,ZI,ZJ,ZK,ZL,ZM,ZN,ZO,ZP,ZQ,ZR,ZS,ZT,ZU,ZV,ZW,ZX,ZY,Z2,Z3,Z4,Z5,Z6,Z7,Z8,Z9,Za,Zb,Zc,Zd,Ze,Zf,Zg,Zh,Nat.reduceAdd,Zi,if_true,if_false,Zl,Zm,Zn,Zo,Zp,Zq,Zr,Zs,Zt,Zu,Zv,Zw,Zx,Zy,Zz,ZA,ZB,ZC,ZD,ZE,Nat.reduceLeDiff,hkk,p1,p2,a0F,hd,le0,q1,q2,q3,a1o,r1,r2,r3]
      cases e4:ltB 1000000 x.b with
      | true=>simp -implicitDefEqProofs only [↓reduceIte,eq_self,ZF,ZG,ZH,ZI,ZJ,ZK,ZL,ZM,ZN,ZO,ZP,ZQ,ZR,ZS,ZT,ZU,ZV,ZW,ZX,ZY,Z2,Z3,Z4,Z5,Z6,Z7,Z8,Z9,Za,Zb,Zc,Zd,Ze,Zf,Zg,Zh,Nat.reduceAdd,Zi,if_true,if_false,Zl,Zm,Zn,Zo,Zp,Zq,Zr,Zs,Zt,Zu,Zv,Zw,Zx,Zy,Zz,ZA,ZB,ZC,ZD,ZE,a0D,or_true]
      | false =>
      simp -implicitDefEqProofs only [↓reduceIte,eq_self,ZF,ZG,ZH,ZI,ZJ,ZK,ZL,ZM,ZN,ZO,ZP,ZQ,ZR,ZS,ZT,ZU,ZV,ZW,ZX,ZY,Z2,Z3,Z4,Z5,Z6,Z7,Z8,Z9,Za,Zb,Zc,Zd,Ze,Zf,Zg,Zh,Nat.reduceAdd,Zi,if_true,if_false,Zl,Zm,Zn,Zo,Zp,Zq,Zr,Zs,Zt,Zu,Zv,Zw,Zx,Zy,Zz,ZA,ZB,ZC,ZD,ZE,Nat.reduceLeDiff,hkk,p1,p2,a0F,hd,le0,q1,q2,q3,a1o,r1,r2,r3]
      cases e5:ltB x.p 0 with
      | true=>simp -implicitDefEqProofs only [↓reduceIte,eq_self,ZF,ZG,ZH,ZI,ZJ,ZK,ZL,ZM,ZN,ZO,ZP,ZQ,ZR,ZS,ZT,ZU,ZV,ZW,ZX,ZY,Z2,Z3,Z4,Z5,Z6,Z7,Z8,Z9,Za,Zb,Zc,Zd,Ze,Zf,Zg,Zh,Nat.reduceAdd,Zi,if_true,if_false,Zl,Zm,Zn,Zo,Zp,Zq,Zr,Zs,Zt,Zu,Zv,Zw,Zx,Zy,Zz,ZA,ZB,ZC,ZD,ZE,a0D,or_true]
      | false =>
      simp -implicitDefEqProofs only [↓reduceIte,eq_self,ZF,ZG,ZH,ZI,ZJ,ZK,ZL,ZM,ZN,ZO,ZP,ZQ,ZR,ZS,ZT,ZU,ZV,ZW,ZX,ZY,Z2,Z3,Z4,Z5,Z6,Z7,Z8,Z9,Za,Zb,Zc,Zd,Ze,Zf,Zg,Zh,Nat.reduceAdd,Zi,if_true,if_false,Zl,Zm,Zn,Zo,Zp,Zq,Zr,Zs,Zt,Zu,Zv,Zw,Zx,Zy,Zz,ZA,ZB,ZC,ZD,ZE,Nat.reduceLeDiff,hkk,p1,p2,a0F,hd,le0,q1,q2,q3,a1o,r1,r2,r3]
      cases e6:ltB 24000 x.p with
      | true=>simp -implicitDefEqProofs only [↓reduceIte,eq_self,ZF,ZG,ZH,ZI,ZJ,ZK,ZL,ZM,ZN,ZO,ZP,ZQ,ZR,ZS,ZT,ZU,ZV,ZW,ZX,ZY,Z2,Z3,Z4,Z5,Z6,Z7,Z8,Z9,Za,Zb,Zc,Zd,Ze,Zf,Zg,Zh,Nat.reduceAdd,Zi,if_true,if_false,Zl,Zm,Zn,Zo,Zp,Zq,Zr,Zs,Zt,Zu,Zv,Zw,Zx,Zy,Zz,ZA,ZB,ZC,ZD,ZE,a0D,or_true]
      | false=>rw [e1,e2,e3,e4,e5,e6] at hno; simp at hno
    ·have hany:((l.take i).any fun y=>decide (y.nm=x.nm))=true:=by
      cases h:(l.take i).any fun y=>decide (y.nm=x.nm) with
      | true=>rfl
      | false=>exact absurd (hk2.2 h) hki
     have hp:a4J (l.take i) x=7:=by unfold a4J; rw [hnm,hany]; rfl
     rw [hp,if_neg h70]
     have hkk:eqB (k:Int) (i:Int)=false:=by rw [b3H]; omega
     simp -implicitDefEqProofs only [↓reduceIte,eq_self,ZF,ZG,ZH,ZI,ZJ,ZK,ZL,ZM,ZN,ZO,ZP,ZQ,ZR,ZS,ZT,ZU,ZV,ZW,ZX,ZY,Z2,Z3,Z4,Z5,Z6,Z7,Z8,Z9,Za,Zb,Zc,Zd,Ze,Zf,Zg,Zh,Nat.reduceAdd,Zi,if_true,if_false,Zl,Zm,Zn,Zo,Zp,Zq,Zr,Zs,Zt,Zu,Zv,Zw,Zx,Zy,Zz,ZA,ZB,ZC,ZD,ZE,hkk,a0D,or_true]
 have:=loop l.length 0 (by omega) (n-l.length-1)
 rw [show n-l.length-1+l.length+1=n by omega] at this
 simp -implicitDefEqProofs only [↓reduceIte,eq_self,ZF,ZG,ZH,ZI,ZJ,ZK,ZL,ZM,ZN,ZO,ZP,ZQ,ZR,ZS,ZT,ZU,ZV,ZW,ZX,ZY,Z2,Z3,Z4,Z5,Z6,Z7,Z8,Z9,Za,Zb,Zc,Zd,Ze,Zf,Zg,Zh,Nat.reduceAdd,Zi,if_true,if_false,Zl,Zm,Zn,Zo,Zp,Zq,Zr,Zs,Zt,Zu,Zv,Zw,Zx,Zy,Zz,ZA,ZB,ZC,ZD,ZE,p1,p2,h8']
 exact this
structure Tri where
 (x y z:Int)
def Tri.row (t:Tri):List PV:=[.int .i64 t.x,.int .i64 t.y,.int .i64 t.z]
theorem a3J (t:Tri):t.row=[.int .i64 t.x,.int .i64 t.y,.int .i64 t.z]:=rfl
theorem a2R {l:List Tri} {i:Nat} {t:Tri} (h:l[i]?=some t):(l.map Tri.row)[i]?=some t.row:=by simp [h]
theorem tdr (a b c:PV):Qa 1 [a,b,c]=[b,c]/\Qa 2 [a,b,c]=[c]:=⟨rfl,rfl⟩
def a1r (nb:Int) (before:List Tri) (c:Tri):Int :=
 if ltB c.x (-1)=true then 6 else if leB nb c.x=true then 6 else if ltB c.y 0=true then 4 else if ltB 4 c.y=true then 4 else if ltB c.z 0=true then 4 else if ltB 24 c.z=true then 4
 else if (before.any fun d=>eqB d.x c.x&&eqB d.y c.y)=true then 7 else 0
def a1A (ps:List Pr) (before:List Tri) (a:Tri):Int :=
 if ltB a.x 0=true then 6 else if leB (ps.length:Int) a.x=true then 6 else if ltB a.y 1=true then 4 else if ltB 4 a.y=true then 4 else if ltB a.z 1=true then 4
 else if ltB (((ps[a.x.toNat]?).map Pr.s).getD 0) a.z=true then 4 else if (before.any fun d=>eqB d.x a.x)=true then 7 else 0
def b0i (nb:Int) (cs:List Tri):Int:=if ltB 16 (cs.length:Int)=true then 3 else goL (a1r nb) cs cs.length 0
def asV (ps:List Pr) (cs:List Tri):Int:=if ltB 6 (cs.length:Int)=true then 3 else goL (a1A ps) cs cs.length 0
theorem c5v {l:List Tri} {i:Nat} (h:i<=l.length):(0:Int)<=0/\(0:Int)<=(i:Int)/\(i:Int)<=((l.map Tri.row).length:Int):=by rw [Q2]; omega
end Go.Proofs.Ytflcopaopimlpaa
set_option maxRecDepth 100000
namespace Go.Proofs.Ytflcopaopimlpaa
open Go.Sx
theorem b1E {α:Type} (p:α->Bool) {l:List α} {i:Nat} {x:α} (h:l[i]?=some x):(l.drop i).any p=(p x||(l.drop (i+1)).any p):=by rw [a5x h,List.any_cons]
theorem a6q {α:Type} {l:List α} {i k:Nat} (h:k < i):(l.take i)[k]?=l[k]?:=by rw [List.getElem?_take,if_pos h]
section
variable (σ:List MO) (cs:List Tri) (C:PV) (hC:C.rowsOf 3=some (cs.map Tri.row)) (P B A:PV) (nb:Int) (hB:B.len=nb) (hBk:B.isKind 0=true) (n:Nat)
theorem c5C (i:Nat) (c:Tri) (hi:i<=1000) (hil:i<=cs.length) (b0 b1 b2 b3:Bool):∀ d k,k+d=i->∀ fuel,
  setup_checkCaps_S.loop (a0B Tab n) (fuel+d+1) 1 { i:=[(cs.length:Int),(i:Int),c.x,nb,c.y,c.z,(i:Int),(k:Int)],b:=[b0,b1,b2,b3],v:=[C,B,.sl 3 ((cs.take i).map Tri.row),P,A],m:=σ,k:=σ.length } =
   if (((cs.take i).drop k).any fun d=>eqB d.x c.x&&eqB d.y c.y)=true then some (.int .i64 7,σ) else setup_checkCaps_S.loop (a0B Tab n) fuel 0 { i:=[(cs.length:Int),(i:Int)+1],b:=[],v:=[C,P,B,A],m:=σ,k:=σ.length }:=by
 have hK:(PV.sl 3 ((cs.take i).map Tri.row)).rowsOf 3=some ((cs.take i).map Tri.row):=a1v _ _
 obtain ⟨p1,p2,p3⟩:=a0C hK
 have htl:(cs.take i).length=i:=by rw [Qd]; omega
 rw [Q2,htl] at p1
 generalize hKK:PV.sl 3 ((cs.take i).map Tri.row)=K at *
 intro d
 induction d with
 | zero =>
  intro k hk fuel
  rw [Q4] at hk; subst hk
  have hd:decide (k < k)=false:=by simp
  have hup:=a1y (show k<=1000000000 by omega)
  rw [Qg (by omega),Qh,if_neg (by simp),Sys.loop,show setup_checkCaps_S.loops[1]?=some a3t from rfl]
  simp -implicitDefEqProofs only [Q0,a3t,↓reduceIte,eq_self,ZF,ZG,ZH,ZI,ZJ,ZK,ZL,ZM,ZN,ZO,ZP,ZQ,ZR,ZS,ZT,ZU,ZV,ZW,ZX,ZY,Z2,Z3,Z4,Z5,Z6,Z7,Z8,Z9,Za,Zb,Zc,Zd,Ze,Zf,Zg,Zh,Nat.reduceAdd,Zi,if_true,if_false,Zl,Zm,Zn,Zo,Zp,Zq,Zr,Zs,Zt,Zu,Zv,Zw,Zx,Zy,Zz,ZA,ZB,ZC,ZD,ZE,a0F,hd,if_pos hup]
 | succ d ih =>
  intro k hk fuel
  have hlt:k < (cs.take i).length:=by omega
  obtain ⟨x,hx⟩:=a0W hlt
  have hd:decide (k < i)=true:=decide_eq_true (by omega)
  have hq:=a0G (off:=0) hK (a2R hx)
  have hup:=a1y (show k<=1000000000 by omega)
  have ih:=ih (k+1) (by omega) fuel
  rw [a0Q] at ih
  rw [b1E _ hx,Sys.loop,show setup_checkCaps_S.loops[1]?=some a3t from rfl]
  simp -implicitDefEqProofs only [Q0,a3t,↓reduceIte,eq_self,ZF,ZG,ZH,ZI,ZJ,ZK,ZL,ZM,ZN,ZO,ZP,ZQ,ZR,ZS,ZT,ZU,ZV,ZW,ZX,ZY,Z2,Z3,Z4,Z5,Z6,Z7,Z8,Z9,Za,Zb,Zc,Zd,Ze,Zf,Zg,Zh,Nat.reduceAdd,Zi,if_true,if_false,Zl,Zm,Zn,Zo,Zp,Zq,Zr,Zs,Zt,Zu,Zv,Zw,Zx,Zy,Zz,ZA,ZB,ZC,ZD,ZE,Nat.reduceLeDiff,p1,a0F,hd,le0,hq,a3J]
  cases h1:eqB x.x c.x with
  | false =>
   simp -implicitDefEqProofs only [↓reduceIte,eq_self,ZF,ZG,ZH,ZI,ZJ,ZK,ZL,ZM,ZN,ZO,ZP,ZQ,ZR,ZS,ZT,ZU,ZV,ZW,ZX,ZY,Z2,Z3,Z4,Z5,Z6,Z7,Z8,Z9,Za,Zb,Zc,Zd,Ze,Zf,Zg,Zh,Nat.reduceAdd,Zi,if_true,if_false,Zl,Zm,Zn,Zo,Zp,Zq,Zr,Zs,Zt,Zu,Zv,Zw,Zx,Zy,Zz,ZA,ZB,ZC,ZD,ZE,if_pos hup,Q9,Qb]
   exact ih
  | true =>
  cases h2:eqB x.y c.y with
  | false =>
   simp -implicitDefEqProofs only [↓reduceIte,eq_self,ZF,ZG,ZH,ZI,ZJ,ZK,ZL,ZM,ZN,ZO,ZP,ZQ,ZR,ZS,ZT,ZU,ZV,ZW,ZX,ZY,Z2,Z3,Z4,Z5,Z6,Z7,Z8,Z9,Za,Zb,Zc,Zd,Ze,Zf,Zg,Zh,Nat.reduceAdd,Zi,if_true,if_false,Zl,Zm,Zn,Zo,Zp,Zq,Zr,Zs,Zt,Zu,Zv,Zw,Zx,Zy,Zz,ZA,ZB,ZC,ZD,ZE,h2,if_pos hup,Qt,Qb]
   exact ih
  | true=>simp -implicitDefEqProofs only [↓reduceIte,eq_self,ZF,ZG,ZH,ZI,ZJ,ZK,ZL,ZM,ZN,ZO,ZP,ZQ,ZR,ZS,ZT,ZU,ZV,ZW,ZX,ZY,Z2,Z3,Z4,Z5,Z6,Z7,Z8,Z9,Za,Zb,Zc,Zd,Ze,Zf,Zg,Zh,Nat.reduceAdd,Zi,if_true,if_false,Zl,Zm,Zn,Zo,Zp,Zq,Zr,Zs,Zt,Zu,Zv,Zw,Zx,Zy,Zz,ZA,ZB,ZC,ZD,ZE,h2,Bool.and_self,Qj,a0D,or_true]
include hC hB hBk in
theorem c3S (hl:cs.length<=16):∀ d i,i+d=cs.length->∀ fuel,d*20+1<=fuel ->
  setup_checkCaps_S.loop (a0B Tab n) fuel 0 { i:=[(cs.length:Int),(i:Int)],b:=[],v:=[C,P,B,A],m:=σ,k:=σ.length }=some (.int .i64 (goL (a1r nb) cs d i),σ):=by
 obtain ⟨p1,p2,p3⟩:=a0C hC
 rw [Q2] at p1
 intro d
 induction d with
 | zero =>
  intro i hi fuel hf
  obtain ⟨fuel,rfl⟩:∃ f,fuel=f+1:=⟨fuel-1,by omega⟩
  rw [Q4] at hi; subst hi
  have hd:decide (cs.length < cs.length)=false:=by simp
  rw [Sys.loop,show setup_checkCaps_S.loops[0]?=some a3s from rfl]
  simp -implicitDefEqProofs only [Q0,a3s,↓reduceIte,eq_self,ZF,ZG,ZH,ZI,ZJ,ZK,ZL,ZM,ZN,ZO,ZP,ZQ,ZR,ZS,ZT,ZU,ZV,ZW,ZX,ZY,Z2,Z3,Z4,Z5,Z6,Z7,Z8,Z9,Za,Zb,Zc,Zd,Ze,Zf,Zg,Zh,Nat.reduceAdd,Zi,if_true,if_false,Zl,Zm,Zn,Zo,Zp,Zq,Zr,Zs,Zt,Zu,Zv,Zw,Zx,Zy,Zz,ZA,ZB,ZC,ZD,ZE,a0F,hd,goL,a0D,or_true]
 | succ d ih =>
  intro i hi fuel hf
  obtain ⟨fuel,rfl⟩:∃ f,fuel=f+i+1+1:=⟨fuel-i-2,by omega⟩
  have hlt:i < cs.length:=by omega
  obtain ⟨x,hx⟩:=a0W hlt
  have hd:decide (i < cs.length)=true:=decide_eq_true hlt
  have hq:=a0G (off:=0) hC (a2R hx)
  have ih:=ih (i+1) (by omega) fuel (by omega)
  rw [a0Q] at ih
  have hcut:((((cs.map Tri.row).take (i:Int).toNat).drop (0:Int).toNat))=(cs.take i).map Tri.row:=by simp [Qn]
  have hK:(PV.sl 3 ((cs.take i).map Tri.row)).rowsOf 3=some ((cs.take i).map Tri.row):=a1v _ _
  obtain ⟨k1,k2,k3⟩:=a0C hK
  rw [Q2,Qd,Qu (by omega)] at k1
  have hc:=c5v (l:=cs) (i:=i) (by omega)
  have hin:=fun b0 b1 b2 b3=>c5C σ cs C P B A nb n i x (by omega) (by omega) b0 b1 b2 b3 i 0 (by omega) fuel
  rw [a7o hx,Sys.loop,show setup_checkCaps_S.loops[0]?=some a3s from rfl]
  simp -implicitDefEqProofs only [Q0,a3s,↓reduceIte,eq_self,ZF,ZG,ZH,ZI,ZJ,ZK,ZL,ZM,ZN,ZO,ZP,ZQ,ZR,ZS,ZT,ZU,ZV,ZW,ZX,ZY,Z2,Z3,Z4,Z5,Z6,Z7,Z8,Z9,Za,Zb,Zc,Zd,Ze,Zf,Zg,Zh,Nat.reduceAdd,Zi,if_true,if_false,Zl,Zm,Zn,Zo,Zp,Zq,Zr,Zs,Zt,Zu,Zv,Zw,Zx,Zy,Zz,ZA,ZB,ZC,ZD,ZE,Nat.reduceLeDiff,p1,a0F,hd,le0,hq,a3J,hB,hBk]
  have h60:¬ ((6:Int)=0):=by decide
  have h40:¬ ((4:Int)=0):=by decide
  have h70:¬ ((7:Int)=0):=by decide
  cases e1:ltB x.x (-1) with
  | true =>
   have hp:a1r nb (cs.take i) x=6:=by simp only [a1r,e1,if_true,Q1,if_false]
   rw [hp,if_neg h60]
   simp -implicitDefEqProofs only [↓reduceIte,eq_self,ZF,ZG,ZH,ZI,ZJ,ZK,ZL,ZM,ZN,ZO,ZP,ZQ,ZR,ZS,ZT,ZU,ZV,ZW,ZX,ZY,Z2,Z3,Z4,Z5,Z6,Z7,Z8,Z9,Za,Zb,Zc,Zd,Ze,Zf,Zg,Zh,Nat.reduceAdd,Zi,if_true,if_false,Zl,Zm,Zn,Zo,Zp,Zq,Zr,Zs,Zt,Zu,Zv,Zw,Zx,Zy,Zz,ZA,ZB,ZC,ZD,ZE,hB,hBk,e1,a0D,or_true]
  | false =>
  cases e2:leB nb x.x with
  | true =>
   have hp:a1r nb (cs.take i) x=6:=by simp only [a1r,e1,e2,if_true,Q1,if_false]
   rw [hp,if_neg h60]
   simp -implicitDefEqProofs only [↓reduceIte,eq_self,ZF,ZG,ZH,ZI,ZJ,ZK,ZL,ZM,ZN,ZO,ZP,ZQ,ZR,ZS,ZT,ZU,ZV,ZW,ZX,ZY,Z2,Z3,Z4,Z5,Z6,Z7,Z8,Z9,Za,Zb,Zc,Zd,Ze,Zf,Zg,Zh,Nat.reduceAdd,Zi,if_true,if_false,Zl,Zm,Zn,Zo,Zp,Zq,Zr,Zs,Zt,Zu,Zv,Zw,Zx,Zy,Zz,ZA,ZB,ZC,ZD,ZE,hB,hBk,e1,e2,a0D,or_true]
  | false =>
  cases e3:ltB x.y 0 with
  | true =>
   have hp:a1r nb (cs.take i) x=4:=by simp only [a1r,e1,e2,e3,if_true,Q1,if_false]
   rw [hp,if_neg h40]
   simp -implicitDefEqProofs only [↓reduceIte,eq_self,ZF,ZG,ZH,ZI,ZJ,ZK,ZL,ZM,ZN,ZO,ZP,ZQ,ZR,ZS,ZT,ZU,ZV,ZW,ZX,ZY,Z2,Z3,Z4,Z5,Z6,Z7,Z8,Z9,Za,Zb,Zc,Zd,Ze,Zf,Zg,Zh,Nat.reduceAdd,Zi,if_true,if_false,Zl,Zm,Zn,Zo,Zp,Zq,Zr,Zs,Zt,Zu,Zv,Zw,Zx,Zy,Zz,ZA,ZB,ZC,ZD,ZE,hB,hBk,e1,e2,e3,a0D,or_true]
  | false =>
  cases e4:ltB 4 x.y with
  | true =>
   have hp:a1r nb (cs.take i) x=4:=by simp only [a1r,e1,e2,e3,e4,if_true,Q1,if_false]
   rw [hp,if_neg h40]
   simp -implicitDefEqProofs only [↓reduceIte,eq_self,ZF,ZG,ZH,ZI,ZJ,ZK,ZL,ZM,ZN,ZO,ZP,ZQ,ZR,ZS,ZT,ZU,ZV,ZW,ZX,ZY,Z2,Z3,Z4,Z5,Z6,Z7,Z8,Z9,Za,Zb,Zc,Zd,Ze,Zf,Zg,Zh,Nat.reduceAdd,Zi,if_true,if_false,Zl,Zm,Zn,Zo,Zp,Zq,Zr,Zs,Zt,Zu,Zv,Zw,Zx,Zy,Zz,ZA,ZB,ZC,ZD,ZE,hB,hBk,e1,e2,e3,e4,a0D,or_true]
  | false =>
  cases e5:ltB x.z 0 with
  | true =>
   have hp:a1r nb (cs.take i) x=4:=by simp only [a1r,e1,e2,e3,e4,e5,if_true,Q1,if_false]
   rw [hp,if_neg h40]
   simp -implicitDefEqProofs only [↓reduceIte,eq_self,ZF,ZG,ZH,ZI,ZJ,ZK,ZL,ZM,ZN,ZO,ZP,ZQ,ZR,ZS,ZT,ZU,ZV,ZW,ZX,ZY,Z2,Z3,Z4,Z5,Z6,Z7,Z8,Z9,Za,Zb,Zc,Zd,Ze,Zf,Zg,Zh,Nat.reduceAdd,Zi,if_true,if_false,Zl,Zm,Zn,Zo,Zp,Zq,Zr,Zs,Zt,Zu,Zv,Zw,Zx,Zy,Zz,ZA,ZB,ZC,ZD,ZE,hB,hBk,e1,e2,e3,e4,e5,a0D,or_true]
  | false =>
  cases e6:ltB 24 x.z with
  | true =>
   have hp:a1r nb (cs.take i) x=4:=by simp only [a1r,e1,e2,e3,e4,e5,e6,if_true,Q1,if_false]
   rw [hp,if_neg h40]
   simp -implicitDefEqProofs only [↓reduceIte,eq_self,ZF,ZG,ZH,ZI,ZJ,ZK,ZL,ZM,ZN,ZO,ZP,ZQ,ZR,ZS,ZT,ZU,ZV,ZW,ZX,ZY,Z2,Z3,Z4,Z5,Z6,Z7,Z8,Z9,Za,Zb,Zc,Zd,Ze,Zf,Zg,Zh,Nat.reduceAdd,Zi,if_true,if_false,Zl,Zm,Zn,Zo,Zp,Zq,Zr,Zs,Zt,Zu,Zv,Zw,Zx,Zy,Zz,ZA,ZB,ZC,ZD,ZE,hB,hBk,e1,e2,e3,e4,e5,e6,a0D,or_true]
  | false =>
   simp -implicitDefEqProofs only [↓reduceIte,eq_self,ZF,ZG,ZH,ZI,ZJ,ZK,ZL,ZM,ZN,ZO,ZP,ZQ,ZR,ZS,ZT,ZU,ZV,ZW,ZX,ZY,Z2,Z3,Z4,Z5,Z6,Z7,Z8,Z9,Za,Zb,Zc,Zd,Ze,Zf,Zg,Zh,Nat.reduceAdd,Zi,if_true,if_false,Zl,Zm,Zn,Zo,Zp,Zq,Zr,Zs,Zt,Zu,Zv,Zw,Zx,Zy,Zz,ZA,ZB,ZC,ZD,ZE,hB,hBk,e1,e2,e3,e4,e5,e6,hC,a2k,a2i,if_pos hc,hcut,k1,k2]
   rw [Q8] at hin
   cases hany:((cs.take i).any fun d=>eqB d.x x.x&&eqB d.y x.y) with
   | true =>
    have hp:a1r nb (cs.take i) x=7:=by simp only [a1r,e1,e2,e3,e4,e5,e6,hany,if_true,Q1,if_false]
    rw [hp,if_neg h70]
    refine (hin _ _ _ _).trans ?_
    rw [if_pos hany]
   | false =>
    have hp:a1r nb (cs.take i) x=0:=by simp only [a1r,e1,e2,e3,e4,e5,e6,hany,if_true,Q1,if_false]
    rw [hp,if_pos rfl]
    refine (hin _ _ _ _).trans ?_
    rw [if_neg (by rw [hany]; simp)]
    exact ih
include hC hB hBk in
theorem c4b (hn:1000<=n) (hP1:P.one=true) (hA1:A.one=true) (hB1:B.one=true):a0B Tab (n+1) a8d [.agg [P,B,C,A]] σ=some (.int .i64 (b0i nb cs),σ):=by
 obtain ⟨p1,p2,p3⟩:=a0C hC
 rw [Q2] at p1
 simp only [a0B,b2Q,Q0,Sys.run]
 show ((a0E [.sh (.agg [_,_,_,_])] _).bind _)=_
 simp -implicitDefEqProofs only [a0E,a0x,a0w,Q3,Q0,Q7,Q5,Q6,if_true,p3,hP1,hA1,hB1]
 show (PT.ev _ a5U _).bind _=_
 simp -implicitDefEqProofs only [a5U,↓reduceIte,eq_self,ZF,ZG,ZH,ZI,ZJ,ZK,ZL,ZM,ZN,ZO,ZP,ZQ,ZR,ZS,ZT,ZU,ZV,ZW,ZX,ZY,Z2,Z3,Z4,Z5,Z6,Z7,Z8,Z9,Za,Zb,Zc,Zd,Ze,Zf,Zg,Zh,Nat.reduceAdd,Zi,if_true,if_false,Zl,Zm,Zn,Zo,Zp,Zq,Zr,Zs,Zt,Zu,Zv,Zw,Zx,Zy,Zz,ZA,ZB,ZC,ZD,ZE,p1,p2,b0i]
 cases h16:ltB 16 (cs.length:Int) with
 | true=>simp -implicitDefEqProofs only [↓reduceIte,eq_self,ZF,ZG,ZH,ZI,ZJ,ZK,ZL,ZM,ZN,ZO,ZP,ZQ,ZR,ZS,ZT,ZU,ZV,ZW,ZX,ZY,Z2,Z3,Z4,Z5,Z6,Z7,Z8,Z9,Za,Zb,Zc,Zd,Ze,Zf,Zg,Zh,Nat.reduceAdd,Zi,if_true,if_false,Zl,Zm,Zn,Zo,Zp,Zq,Zr,Zs,Zt,Zu,Zv,Zw,Zx,Zy,Zz,ZA,ZB,ZC,ZD,ZE,a0D,or_true]
 | false =>
  have h:=h16
  rw [a0I] at h
  simp -implicitDefEqProofs only [↓reduceIte,eq_self,ZF,ZG,ZH,ZI,ZJ,ZK,ZL,ZM,ZN,ZO,ZP,ZQ,ZR,ZS,ZT,ZU,ZV,ZW,ZX,ZY,Z2,Z3,Z4,Z5,Z6,Z7,Z8,Z9,Za,Zb,Zc,Zd,Ze,Zf,Zg,Zh,Nat.reduceAdd,Zi,if_true,if_false,Zl,Zm,Zn,Zo,Zp,Zq,Zr,Zs,Zt,Zu,Zv,Zw,Zx,Zy,Zz,ZA,ZB,ZC,ZD,ZE,p1,p2]
  exact c3S σ cs C hC P B A nb hB hBk n (by omega) cs.length 0 (by omega) n (by omega)
end
end Go.Proofs.Ytflcopaopimlpaa
set_option maxRecDepth 100000
namespace Go.Proofs.Ytflcopaopimlpaa
open Go.Sx
section
variable (σ:List MO) (ps:List Pr) (cs:List Tri) (C:PV) (hC:C.rowsOf 3=some (cs.map Tri.row)) (P B A:PV) (hP:P.rowsOf 5=some (ps.map Pr.row)) (n:Nat)
theorem c7l (i:Nat) (c:Tri) (hi:i<=1000) (hil:i<=cs.length) (b0 b1 b2 b3:Bool) (np sup:Int):∀ d k,k+d=i->∀ fuel,
  setup_checkAsides_S.loop (a0B Tab n) (fuel+d+1) 1 { i:=[(cs.length:Int),(i:Int),c.x,np,c.y,c.z,sup,(i:Int),(k:Int)],b:=[b0,b1,b2,b3],v:=[C,P,.sl 3 ((cs.take i).map Tri.row),B,A],m:=σ,k:=σ.length } =
   if (((cs.take i).drop k).any fun d=>eqB d.x c.x)=true then some (.int .i64 7,σ) else setup_checkAsides_S.loop (a0B Tab n) fuel 0 { i:=[(cs.length:Int),(i:Int)+1],b:=[],v:=[C,P,B,A],m:=σ,k:=σ.length }:=by
 have hK:(PV.sl 3 ((cs.take i).map Tri.row)).rowsOf 3=some ((cs.take i).map Tri.row):=a1v _ _
 obtain ⟨p1,p2,p3⟩:=a0C hK
 have htl:(cs.take i).length=i:=by rw [Qd]; omega
 rw [Q2,htl] at p1
 generalize hKK:PV.sl 3 ((cs.take i).map Tri.row)=K at *
 intro d
 induction d with
 | zero =>
  intro k hk fuel
  rw [Q4] at hk; subst hk
  have hd:decide (k < k)=false:=by simp
  have hup:=a1y (show k<=1000000000 by omega)
  rw [Qg (by omega),Qh,if_neg (by simp),Sys.loop,show setup_checkAsides_S.loops[1]?=some a2M from rfl]
  simp -implicitDefEqProofs only [Q0,a2M,↓reduceIte,eq_self,ZF,ZG,ZH,ZI,ZJ,ZK,ZL,ZM,ZN,ZO,ZP,ZQ,ZR,ZS,ZT,ZU,ZV,ZW,ZX,ZY,Z2,Z3,Z4,Z5,Z6,Z7,Z8,Z9,Za,Zb,Zc,Zd,Ze,Zf,Zg,Zh,Nat.reduceAdd,Zi,if_true,if_false,Zl,Zm,Zn,Zo,Zp,Zq,Zr,Zs,Zt,Zu,Zv,Zw,Zx,Zy,Zz,ZA,ZB,ZC,ZD,ZE,a0F,hd,if_pos hup]
 | succ d ih =>
  intro k hk fuel
  have hlt:k < (cs.take i).length:=by omega
  obtain ⟨x,hx⟩:=a0W hlt
  have hd:decide (k < i)=true:=decide_eq_true (by omega)
  have hq:=a0G (off:=0) hK (a2R hx)
  have hup:=a1y (show k<=1000000000 by omega)
  have ih:=ih (k+1) (by omega) fuel
  rw [a0Q] at ih
  rw [b1E _ hx,Sys.loop,show setup_checkAsides_S.loops[1]?=some a2M from rfl]
  simp -implicitDefEqProofs only [Q0,a2M,↓reduceIte,eq_self,ZF,ZG,ZH,ZI,ZJ,ZK,ZL,ZM,ZN,ZO,ZP,ZQ,ZR,ZS,ZT,ZU,ZV,ZW,ZX,ZY,Z2,Z3,Z4,Z5,Z6,Z7,Z8,Z9,Za,Zb,Zc,Zd,Ze,Zf,Zg,Zh,Nat.reduceAdd,Zi,if_true,if_false,Zl,Zm,Zn,Zo,Zp,Zq,Zr,Zs,Zt,Zu,Zv,Zw,Zx,Zy,Zz,ZA,ZB,ZC,ZD,ZE,Nat.reduceLeDiff,p1,a0F,hd,le0,hq,a3J]
  cases h1:eqB x.x c.x with
  | false =>
   simp -implicitDefEqProofs only [↓reduceIte,eq_self,ZF,ZG,ZH,ZI,ZJ,ZK,ZL,ZM,ZN,ZO,ZP,ZQ,ZR,ZS,ZT,ZU,ZV,ZW,ZX,ZY,Z2,Z3,Z4,Z5,Z6,Z7,Z8,Z9,Za,Zb,Zc,Zd,Ze,Zf,Zg,Zh,Nat.reduceAdd,Zi,if_true,if_false,Zl,Zm,Zn,Zo,Zp,Zq,Zr,Zs,Zt,Zu,Zv,Zw,Zx,Zy,Zz,ZA,ZB,ZC,ZD,ZE,if_pos hup,Qb]
   exact ih
  | true=>simp -implicitDefEqProofs only [↓reduceIte,eq_self,ZF,ZG,ZH,ZI,ZJ,ZK,ZL,ZM,ZN,ZO,ZP,ZQ,ZR,ZS,ZT,ZU,ZV,ZW,ZX,ZY,Z2,Z3,Z4,Z5,Z6,Z7,Z8,Z9,Za,Zb,Zc,Zd,Ze,Zf,Zg,Zh,Nat.reduceAdd,Zi,if_true,if_false,Zl,Zm,Zn,Zo,Zp,Zq,Zr,Zs,Zt,Zu,Zv,Zw,Zx,Zy,Zz,ZA,ZB,ZC,ZD,ZE,Qj,a0D,or_true]
include hC hP in
theorem c6F (hl:cs.length<=6):∀ d i,i+d=cs.length->∀ fuel,d*20+1<=fuel ->
  setup_checkAsides_S.loop (a0B Tab n) fuel 0 { i:=[(cs.length:Int),(i:Int)],b:=[],v:=[C,P,B,A],m:=σ,k:=σ.length }=some (.int .i64 (goL (a1A ps) cs d i),σ):=by
 obtain ⟨p1,p2,p3⟩:=a0C hC
 obtain ⟨q1,q2,q3⟩:=a0C hP
 rw [Q2] at p1 q1
 intro d
 induction d with
 | zero =>
  intro i hi fuel hf
  obtain ⟨fuel,rfl⟩:∃ f,fuel=f+1:=⟨fuel-1,by omega⟩
  rw [Q4] at hi; subst hi
  have hd:decide (cs.length < cs.length)=false:=by simp
  rw [Sys.loop,show setup_checkAsides_S.loops[0]?=some a2P from rfl]
  simp -implicitDefEqProofs only [Q0,a2P,↓reduceIte,eq_self,ZF,ZG,ZH,ZI,ZJ,ZK,ZL,ZM,ZN,ZO,ZP,ZQ,ZR,ZS,ZT,ZU,ZV,ZW,ZX,ZY,Z2,Z3,Z4,Z5,Z6,Z7,Z8,Z9,Za,Zb,Zc,Zd,Ze,Zf,Zg,Zh,Nat.reduceAdd,Zi,if_true,if_false,Zl,Zm,Zn,Zo,Zp,Zq,Zr,Zs,Zt,Zu,Zv,Zw,Zx,Zy,Zz,ZA,ZB,ZC,ZD,ZE,a0F,hd,goL,a0D,or_true]
 | succ d ih =>
  intro i hi fuel hf
  obtain ⟨fuel,rfl⟩:∃ f,fuel=f+i+1+1:=⟨fuel-i-2,by omega⟩
  have hlt:i < cs.length:=by omega
  obtain ⟨x,hx⟩:=a0W hlt
  have hd:decide (i < cs.length)=true:=decide_eq_true hlt
  have hq:=a0G (off:=0) hC (a2R hx)
  have ih:=ih (i+1) (by omega) fuel (by omega)
  rw [a0Q] at ih
  have hcut:((((cs.map Tri.row).take (i:Int).toNat).drop (0:Int).toNat))=(cs.take i).map Tri.row:=by simp [Qn]
  have hK:(PV.sl 3 ((cs.take i).map Tri.row)).rowsOf 3=some ((cs.take i).map Tri.row):=a1v _ _
  obtain ⟨k1,k2,k3⟩:=a0C hK
  rw [Q2,Qd,Qu (by omega)] at k1
  have hc:=c5v (l:=cs) (i:=i) (by omega)
  have hin:=fun b0 b1 b2 b3 sup=>c7l σ cs C P B A n i x (by omega) (by omega) b0 b1 b2 b3 (ps.length:Int) sup i 0 (by omega) fuel
  rw [a7o hx,Sys.loop,show setup_checkAsides_S.loops[0]?=some a2P from rfl]
  simp -implicitDefEqProofs only [Q0,a2P,↓reduceIte,eq_self,ZF,ZG,ZH,ZI,ZJ,ZK,ZL,ZM,ZN,ZO,ZP,ZQ,ZR,ZS,ZT,ZU,ZV,ZW,ZX,ZY,Z2,Z3,Z4,Z5,Z6,Z7,Z8,Z9,Za,Zb,Zc,Zd,Ze,Zf,Zg,Zh,Nat.reduceAdd,Zi,if_true,if_false,Zl,Zm,Zn,Zo,Zp,Zq,Zr,Zs,Zt,Zu,Zv,Zw,Zx,Zy,Zz,ZA,ZB,ZC,ZD,ZE,Nat.reduceLeDiff,p1,a0F,hd,le0,hq,a3J,q1,q2]
  have h60:¬ ((6:Int)=0):=by decide
  have h40:¬ ((4:Int)=0):=by decide
  have h70:¬ ((7:Int)=0):=by decide
  cases e1:ltB x.x 0 with
  | true =>
   have hp:a1A ps (cs.take i) x=6:=by simp only [a1A,e1,if_true,Q1,if_false]
   rw [hp,if_neg h60]
   simp -implicitDefEqProofs only [↓reduceIte,eq_self,ZF,ZG,ZH,ZI,ZJ,ZK,ZL,ZM,ZN,ZO,ZP,ZQ,ZR,ZS,ZT,ZU,ZV,ZW,ZX,ZY,Z2,Z3,Z4,Z5,Z6,Z7,Z8,Z9,Za,Zb,Zc,Zd,Ze,Zf,Zg,Zh,Nat.reduceAdd,Zi,if_true,if_false,Zl,Zm,Zn,Zo,Zp,Zq,Zr,Zs,Zt,Zu,Zv,Zw,Zx,Zy,Zz,ZA,ZB,ZC,ZD,ZE,q1,q2,e1,a0D,or_true]
  | false =>
  cases e2:leB (ps.length:Int) x.x with
  | true =>
   have hp:a1A ps (cs.take i) x=6:=by simp only [a1A,e1,e2,if_true,Q1,if_false]
   rw [hp,if_neg h60]
   simp -implicitDefEqProofs only [↓reduceIte,eq_self,ZF,ZG,ZH,ZI,ZJ,ZK,ZL,ZM,ZN,ZO,ZP,ZQ,ZR,ZS,ZT,ZU,ZV,ZW,ZX,ZY,Z2,Z3,Z4,Z5,Z6,Z7,Z8,Z9,Za,Zb,Zc,Zd,Ze,Zf,Zg,Zh,Nat.reduceAdd,Zi,if_true,if_false,Zl,Zm,Zn,Zo,Zp,Zq,Zr,Zs,Zt,Zu,Zv,Zw,Zx,Zy,Zz,ZA,ZB,ZC,ZD,ZE,q1,q2,e1,e2,a0D,or_true]
  | false =>
  cases e3:ltB x.y 1 with
  | true =>
   have hp:a1A ps (cs.take i) x=4:=by simp only [a1A,e1,e2,e3,if_true,Q1,if_false]
   rw [hp,if_neg h40]
   simp -implicitDefEqProofs only [↓reduceIte,eq_self,ZF,ZG,ZH,ZI,ZJ,ZK,ZL,ZM,ZN,ZO,ZP,ZQ,ZR,ZS,ZT,ZU,ZV,ZW,ZX,ZY,Z2,Z3,Z4,Z5,Z6,Z7,Z8,Z9,Za,Zb,Zc,Zd,Ze,Zf,Zg,Zh,Nat.reduceAdd,Zi,if_true,if_false,Zl,Zm,Zn,Zo,Zp,Zq,Zr,Zs,Zt,Zu,Zv,Zw,Zx,Zy,Zz,ZA,ZB,ZC,ZD,ZE,q1,q2,e1,e2,e3,a0D,or_true]
  | false =>
  cases e4:ltB 4 x.y with
  | true =>
   have hp:a1A ps (cs.take i) x=4:=by simp only [a1A,e1,e2,e3,e4,if_true,Q1,if_false]
   rw [hp,if_neg h40]
   simp -implicitDefEqProofs only [↓reduceIte,eq_self,ZF,ZG,ZH,ZI,ZJ,ZK,ZL,ZM,ZN,ZO,ZP,ZQ,ZR,ZS,ZT,ZU,ZV,ZW,ZX,ZY,Z2,Z3,Z4,Z5,Z6,Z7,Z8,Z9,Za,Zb,Zc,Zd,Ze,Zf,Zg,Zh,Nat.reduceAdd,Zi,if_true,if_false,Zl,Zm,Zn,Zo,Zp,Zq,Zr,Zs,Zt,Zu,Zv,Zw,Zx,Zy,Zz,ZA,ZB,ZC,ZD,ZE,q1,q2,e1,e2,e3,e4,a0D,or_true]
  | false =>
  cases e5:ltB x.z 1 with
  | true =>
   have hp:a1A ps (cs.take i) x=4:=by simp only [a1A,e1,e2,e3,e4,e5,if_true,Q1,if_false]
   rw [hp,if_neg h40]
   simp -implicitDefEqProofs only [↓reduceIte,eq_self,ZF,ZG,ZH,ZI,ZJ,ZK,ZL,ZM,ZN,ZO,ZP,ZQ,ZR,ZS,ZT,ZU,ZV,ZW,ZX,ZY,Z2,Z3,Z4,Z5,Z6,Z7,Z8,Z9,Za,Zb,Zc,Zd,Ze,Zf,Zg,Zh,Nat.reduceAdd,Zi,if_true,if_false,Zl,Zm,Zn,Zo,Zp,Zq,Zr,Zs,Zt,Zu,Zv,Zw,Zx,Zy,Zz,ZA,ZB,ZC,ZD,ZE,q1,q2,e1,e2,e3,e4,e5,a0D,or_true]
  | false =>
  have hb1:=e1
  have hb2:=e2
  rw [a0I] at hb1
  rw [a3H] at hb2
  obtain ⟨m,hm⟩:∃ m:Nat,x.x=(m:Int):=⟨x.x.toNat,by omega⟩
  obtain ⟨pr,hpr⟩:=a0W (show m < ps.length by omega)
  have hsup:((ps[x.x.toNat]?).map Pr.s).getD 0=pr.s:=by rw [hm,Qf,hpr]; rfl
  have hq1:a1z x.x 5 1 P=some (.row pr.row 1):=by rw [hm]; exact a0G (off:=1) hP (a1l hpr)
  have hrg:(leB 0 x.x&&ltB x.x (ps.length:Int))=true:=by rw [Qv,a2n,a0U]; omega
  have dr:∀ a b c d e:PV,Qa 1 [a,b,c,d,e]=[b,c,d,e]:=fun _ _ _ _ _=>rfl
  simp -implicitDefEqProofs only [↓reduceIte,eq_self,ZF,ZG,ZH,ZI,ZJ,ZK,ZL,ZM,ZN,ZO,ZP,ZQ,ZR,ZS,ZT,ZU,ZV,ZW,ZX,ZY,Z2,Z3,Z4,Z5,Z6,Z7,Z8,Z9,Za,Zb,Zc,Zd,Ze,Zf,Zg,Zh,Nat.reduceAdd,Zi,if_true,if_false,Zl,Zm,Zn,Zo,Zp,Zq,Zr,Zs,Zt,Zu,Zv,Zw,Zx,Zy,Zz,ZA,ZB,ZC,ZD,ZE,Nat.reduceLeDiff,q1,q2,e1,e2,e3,e4,e5,hrg,hq1,a2l,dr]
  cases e6:ltB pr.s x.z with
  | true =>
   have hp:a1A ps (cs.take i) x=4:=by simp only [a1A,e1,e2,e3,e4,e5,hsup,e6,if_true,Q1,if_false]
   rw [hp,if_neg h40]
   simp -implicitDefEqProofs only [↓reduceIte,eq_self,ZF,ZG,ZH,ZI,ZJ,ZK,ZL,ZM,ZN,ZO,ZP,ZQ,ZR,ZS,ZT,ZU,ZV,ZW,ZX,ZY,Z2,Z3,Z4,Z5,Z6,Z7,Z8,Z9,Za,Zb,Zc,Zd,Ze,Zf,Zg,Zh,Nat.reduceAdd,Zi,if_true,if_false,Zl,Zm,Zn,Zo,Zp,Zq,Zr,Zs,Zt,Zu,Zv,Zw,Zx,Zy,Zz,ZA,ZB,ZC,ZD,ZE,a0D,or_true]
  | false =>
   simp -implicitDefEqProofs only [↓reduceIte,eq_self,ZF,ZG,ZH,ZI,ZJ,ZK,ZL,ZM,ZN,ZO,ZP,ZQ,ZR,ZS,ZT,ZU,ZV,ZW,ZX,ZY,Z2,Z3,Z4,Z5,Z6,Z7,Z8,Z9,Za,Zb,Zc,Zd,Ze,Zf,Zg,Zh,Nat.reduceAdd,Zi,if_true,if_false,Zl,Zm,Zn,Zo,Zp,Zq,Zr,Zs,Zt,Zu,Zv,Zw,Zx,Zy,Zz,ZA,ZB,ZC,ZD,ZE,q1,q2,e1,e2,e3,e4,e5,e6,hC,a2k,a2i,if_pos hc,hcut,k1,k2]
   rw [Q8] at hin
   cases hany:((cs.take i).any fun d=>eqB d.x x.x) with
   | true =>
    have hp:a1A ps (cs.take i) x=7:=by simp only [a1A,e1,e2,e3,e4,e5,hsup,e6,hany,if_true,Q1,if_false]
    rw [hp,if_neg h70]
    refine (hin _ _ _ _ _).trans ?_
    rw [if_pos hany]
   | false =>
    have hp:a1A ps (cs.take i) x=0:=by simp only [a1A,e1,e2,e3,e4,e5,hsup,e6,hany,if_true,Q1,if_false]
    rw [hp,if_pos rfl]
    refine (hin _ _ _ _ _).trans ?_
    rw [if_neg (by rw [hany]; simp)]
    exact ih
include hC hP in
theorem c6T (hn:1000<=n) (hA1:A.one=true) (hB1:B.one=true):a0B Tab (n+1) a7h [.agg [P,B,A,C]] σ=some (.int .i64 (asV ps cs),σ):=by
 obtain ⟨p1,p2,p3⟩:=a0C hC
 obtain ⟨q1,q2,q3⟩:=a0C hP
 rw [Q2] at p1
 simp only [a0B,b1u,Q0,Sys.run]
 show ((a0E [.sh (.agg [_,_,_,_])] _).bind _)=_
 simp -implicitDefEqProofs only [a0E,a0x,a0w,Q3,Q0,Q7,Q5,Q6,if_true,p3,q3,hA1,hB1]
 show (PT.ev _ a5d _).bind _=_
 simp -implicitDefEqProofs only [a5d,↓reduceIte,eq_self,ZF,ZG,ZH,ZI,ZJ,ZK,ZL,ZM,ZN,ZO,ZP,ZQ,ZR,ZS,ZT,ZU,ZV,ZW,ZX,ZY,Z2,Z3,Z4,Z5,Z6,Z7,Z8,Z9,Za,Zb,Zc,Zd,Ze,Zf,Zg,Zh,Nat.reduceAdd,Zi,if_true,if_false,Zl,Zm,Zn,Zo,Zp,Zq,Zr,Zs,Zt,Zu,Zv,Zw,Zx,Zy,Zz,ZA,ZB,ZC,ZD,ZE,p1,p2,asV]
 cases h16:ltB 6 (cs.length:Int) with
 | true=>simp -implicitDefEqProofs only [↓reduceIte,eq_self,ZF,ZG,ZH,ZI,ZJ,ZK,ZL,ZM,ZN,ZO,ZP,ZQ,ZR,ZS,ZT,ZU,ZV,ZW,ZX,ZY,Z2,Z3,Z4,Z5,Z6,Z7,Z8,Z9,Za,Zb,Zc,Zd,Ze,Zf,Zg,Zh,Nat.reduceAdd,Zi,if_true,if_false,Zl,Zm,Zn,Zo,Zp,Zq,Zr,Zs,Zt,Zu,Zv,Zw,Zx,Zy,Zz,ZA,ZB,ZC,ZD,ZE,a0D,or_true]
 | false =>
  have h:=h16
  rw [a0I] at h
  simp -implicitDefEqProofs only [↓reduceIte,eq_self,ZF,ZG,ZH,ZI,ZJ,ZK,ZL,ZM,ZN,ZO,ZP,ZQ,ZR,ZS,ZT,ZU,ZV,ZW,ZX,ZY,Z2,Z3,Z4,Z5,Z6,Z7,Z8,Z9,Za,Zb,Zc,Zd,Ze,Zf,Zg,Zh,Nat.reduceAdd,Zi,if_true,if_false,Zl,Zm,Zn,Zo,Zp,Zq,Zr,Zs,Zt,Zu,Zv,Zw,Zx,Zy,Zz,ZA,ZB,ZC,ZD,ZE,p1,p2]
  exact c6F σ ps cs C hC P B A hP n (by omega) cs.length 0 (by omega) n (by omega)
end
end Go.Proofs.Ytflcopaopimlpaa
set_option maxRecDepth 100000
namespace Go.Proofs.Ytflcopaopimlpaa
open Go.Sx
def a5j (ps:List Pr) (bs:List Bd) (cs as':List Tri):Int :=
 if a6j ps=0 then if a8D bs=0 then if b0i (bs.length:Int) cs=0 then asV ps as' else b0i (bs.length:Int) cs else a8D bs else a6j ps
section
variable (σ:List MO) (ps:List Pr) (bs:List Bd) (cs ad:List Tri) (P B C A:PV) (hP:P.rowsOf 5=some (ps.map Pr.row)) (hB:B.rowsOf 4=some (bs.map Bd.row)) (hC:C.rowsOf 3=some (cs.map Tri.row)) (hA:A.rowsOf 3=some (ad.map Tri.row)) (n:Nat)
include hP hB hC hA in
theorem a9S (hn:1010<=n):a0B Tab n a7P [.agg [P,B,C,A]] σ=some (.int .i64 (a5j ps bs cs ad),σ):=by
 obtain ⟨n,rfl⟩:∃ k,n=k+1+1:=⟨n-2,by omega⟩
 obtain ⟨p1,p2,p3⟩:=a0C hP
 obtain ⟨b1,b2,b3⟩:=a0C hB
 obtain ⟨c1,c2,c3⟩:=a0C hC
 obtain ⟨a1,a2,a3⟩:=a0C hA
 rw [Q2] at b1
 have k1:=b4D σ ps P hP (n+1) (by omega)
 have k2:=b4T σ bs B hB (n+1) (by omega)
 have k3:=c4b σ cs C hC P B A (bs.length:Int) b1 b2 n (by omega) p3 a3 b3
 have k4:=c6T σ ps ad A hA P B C hP n (by omega) c3 b3
 simp only [a6M,b1f,a8d,a7h] at k1 k2 k3 k4
 rw [a0B]
 simp only [b5O,Q0,Sys.run]
 show ((a0E [.sh (.agg [_,_,_,_])] _).bind _)=_
 simp -implicitDefEqProofs only [a0E,a0x,a0w,Q3,Q0,Q7,Q5,Q6,if_true,p3,b3,c3,a3]
 show (PT.ev _ a7S _).bind _=_
 have e0:∀ z:Int,eqB z 0=decide (z=0):=fun _=>rfl
 simp -implicitDefEqProofs only [a7S,↓reduceIte,eq_self,ZF,ZG,ZH,ZI,ZJ,ZK,ZL,ZM,ZN,ZO,ZP,ZQ,ZR,ZS,ZT,ZU,ZV,ZW,ZX,ZY,Z2,Z3,Z4,Z5,Z6,Z7,Z8,Z9,Za,Zb,Zc,Zd,Ze,Zf,Zg,Zh,Nat.reduceAdd,Zi,if_true,if_false,Zl,Zm,Zn,Zo,Zp,Zq,Zr,Zs,Zt,Zu,Zv,Zw,Zx,Zy,Zz,ZA,ZB,ZC,ZD,ZE,k1,e0,a5j]
 by_cases h1:a6j ps=0
 ·rw [if_pos h1,decide_eq_true h1]
  simp -implicitDefEqProofs only [↓reduceIte,eq_self,ZF,ZG,ZH,ZI,ZJ,ZK,ZL,ZM,ZN,ZO,ZP,ZQ,ZR,ZS,ZT,ZU,ZV,ZW,ZX,ZY,Z2,Z3,Z4,Z5,Z6,Z7,Z8,Z9,Za,Zb,Zc,Zd,Ze,Zf,Zg,Zh,Nat.reduceAdd,Zi,if_true,if_false,Zl,Zm,Zn,Zo,Zp,Zq,Zr,Zs,Zt,Zu,Zv,Zw,Zx,Zy,Zz,ZA,ZB,ZC,ZD,ZE,k2,e0]
  by_cases h2:a8D bs=0
  ·rw [if_pos h2,decide_eq_true h2]
   simp -implicitDefEqProofs only [↓reduceIte,eq_self,ZF,ZG,ZH,ZI,ZJ,ZK,ZL,ZM,ZN,ZO,ZP,ZQ,ZR,ZS,ZT,ZU,ZV,ZW,ZX,ZY,Z2,Z3,Z4,Z5,Z6,Z7,Z8,Z9,Za,Zb,Zc,Zd,Ze,Zf,Zg,Zh,Nat.reduceAdd,Zi,if_true,if_false,Zl,Zm,Zn,Zo,Zp,Zq,Zr,Zs,Zt,Zu,Zv,Zw,Zx,Zy,Zz,ZA,ZB,ZC,ZD,ZE,k3,e0]
   by_cases h3:b0i (bs.length:Int) cs=0
   ·rw [if_pos h3,decide_eq_true h3]
    simp -implicitDefEqProofs only [↓reduceIte,eq_self,ZF,ZG,ZH,ZI,ZJ,ZK,ZL,ZM,ZN,ZO,ZP,ZQ,ZR,ZS,ZT,ZU,ZV,ZW,ZX,ZY,Z2,Z3,Z4,Z5,Z6,Z7,Z8,Z9,Za,Zb,Zc,Zd,Ze,Zf,Zg,Zh,Nat.reduceAdd,Zi,if_true,if_false,Zl,Zm,Zn,Zo,Zp,Zq,Zr,Zs,Zt,Zu,Zv,Zw,Zx,Zy,Zz,ZA,ZB,ZC,ZD,ZE,k4,a0D,or_true]
   ·rw [if_neg h3,decide_eq_false h3]
    simp -implicitDefEqProofs only [↓reduceIte,eq_self,ZF,ZG,ZH,ZI,ZJ,ZK,ZL,ZM,ZN,ZO,ZP,ZQ,ZR,ZS,ZT,ZU,ZV,ZW,ZX,ZY,Z2,Z3,Z4,Z5,Z6,Z7,Z8,Z9,Za,Zb,Zc,Zd,Ze,Zf,Zg,Zh,Nat.reduceAdd,Zi,if_true,if_false,Zl,Zm,Zn,Zo,Zp,Zq,Zr,Zs,Zt,Zu,Zv,Zw,Zx,Zy,Zz,ZA,ZB,ZC,ZD,ZE,a0D,or_true]
  ·rw [if_neg h2,decide_eq_false h2]
   simp -implicitDefEqProofs only [↓reduceIte,eq_self,ZF,ZG,ZH,ZI,ZJ,ZK,ZL,ZM,ZN,ZO,ZP,ZQ,ZR,ZS,ZT,ZU,ZV,ZW,ZX,ZY,Z2,Z3,Z4,Z5,Z6,Z7,Z8,Z9,Za,Zb,Zc,Zd,Ze,Zf,Zg,Zh,Nat.reduceAdd,Zi,if_true,if_false,Zl,Zm,Zn,Zo,Zp,Zq,Zr,Zs,Zt,Zu,Zv,Zw,Zx,Zy,Zz,ZA,ZB,ZC,ZD,ZE,a0D,or_true]
 ·rw [if_neg h1,decide_eq_false h1]
  simp -implicitDefEqProofs only [↓reduceIte,eq_self,ZF,ZG,ZH,ZI,ZJ,ZK,ZL,ZM,ZN,ZO,ZP,ZQ,ZR,ZS,ZT,ZU,ZV,ZW,ZX,ZY,Z2,Z3,Z4,Z5,Z6,Z7,Z8,Z9,Za,Zb,Zc,Zd,Ze,Zf,Zg,Zh,Nat.reduceAdd,Zi,if_true,if_false,Zl,Zm,Zn,Zo,Zp,Zq,Zr,Zs,Zt,Zu,Zv,Zw,Zx,Zy,Zz,ZA,ZB,ZC,ZD,ZE,a0D,or_true]
include hC in
theorem c4F (i:Nat) (c:Tri) (hi:i<=1000) (hil:i < cs.length) (b0 b1 b2 b3:Bool) (np sup:Int):∀ d k,k+d=i->∀ fuel,
  saleroomref10_Check_S.loop (a0B Tab n) (fuel+d+1) 1 { i:=[(i:Int),(k:Int),c.x,np,c.y,c.z],b:=[b0,b1,b2,b3],v:=[B,P,C,A],m:=σ,k:=σ.length } =
   if (((cs.take i).drop k).any fun d=>eqB d.x c.x&&eqB d.y c.y)=true then some (.int .i64 7,σ) else saleroomref10_Check_S.loop (a0B Tab n) fuel 0 { i:=[(i:Int)+1],b:=[],v:=[P,B,C,A],m:=σ,k:=σ.length }:=by
 obtain ⟨p1,p2,p3⟩:=a0C hC
 rw [Q2] at p1
 have htl:(cs.take i).length=i:=by rw [Qd]; omega
 intro d
 induction d with
 | zero =>
  intro k hk fuel
  rw [Q4] at hk; subst hk
  have hd:decide (k < k)=false:=by simp
  have hup:=a1y (show k<=1000000000 by omega)
  rw [Qg (by omega),Qh,if_neg (by simp),Sys.loop,show saleroomref10_Check_S.loops[1]?=some a2t from rfl]
  simp -implicitDefEqProofs only [Q0,a2t,↓reduceIte,eq_self,ZF,ZG,ZH,ZI,ZJ,ZK,ZL,ZM,ZN,ZO,ZP,ZQ,ZR,ZS,ZT,ZU,ZV,ZW,ZX,ZY,Z2,Z3,Z4,Z5,Z6,Z7,Z8,Z9,Za,Zb,Zc,Zd,Ze,Zf,Zg,Zh,Nat.reduceAdd,Zi,if_true,if_false,Zl,Zm,Zn,Zo,Zp,Zq,Zr,Zs,Zt,Zu,Zv,Zw,Zx,Zy,Zz,ZA,ZB,ZC,ZD,ZE,a0F,hd,if_pos hup]
 | succ d ih =>
  intro k hk fuel
  have hlt:k < (cs.take i).length:=by omega
  obtain ⟨x,hx⟩:=a0W hlt
  have hx2:=hx
  rw [a6q (by omega)] at hx2
  have hd:decide (k < i)=true:=decide_eq_true (by omega)
  have hd2:decide (k < cs.length)=true:=decide_eq_true (by omega)
  have q0:=a0G (off:=0) hC (a2R hx2)
  have q1:=a0G (off:=1) hC (a2R hx2)
  obtain ⟨r1,r2⟩:=tdr (.int .i64 x.x) (.int .i64 x.y) (.int .i64 x.z)
  have hup:=a1y (show k<=1000000000 by omega)
  have ih:=ih (k+1) (by omega) fuel
  rw [a0Q] at ih
  rw [b1E _ hx,Sys.loop,show saleroomref10_Check_S.loops[1]?=some a2t from rfl]
  simp -implicitDefEqProofs only [Q0,a2t,↓reduceIte,eq_self,ZF,ZG,ZH,ZI,ZJ,ZK,ZL,ZM,ZN,ZO,ZP,ZQ,ZR,ZS,ZT,ZU,ZV,ZW,ZX,ZY,Z2,Z3,Z4,Z5,Z6,Z7,Z8,Z9,Za,Zb,Zc,Zd,Ze,Zf,Zg,Zh,Nat.reduceAdd,Zi,if_true,if_false,Zl,Zm,Zn,Zo,Zp,Zq,Zr,Zs,Zt,Zu,Zv,Zw,Zx,Zy,Zz,ZA,ZB,ZC,ZD,ZE,Nat.reduceLeDiff,p1,a0F,hd,hd2,le0,q0,a3J]
  cases h1:eqB x.x c.x with
  | false =>
   simp -implicitDefEqProofs only [↓reduceIte,eq_self,ZF,ZG,ZH,ZI,ZJ,ZK,ZL,ZM,ZN,ZO,ZP,ZQ,ZR,ZS,ZT,ZU,ZV,ZW,ZX,ZY,Z2,Z3,Z4,Z5,Z6,Z7,Z8,Z9,Za,Zb,Zc,Zd,Ze,Zf,Zg,Zh,Nat.reduceAdd,Zi,if_true,if_false,Zl,Zm,Zn,Zo,Zp,Zq,Zr,Zs,Zt,Zu,Zv,Zw,Zx,Zy,Zz,ZA,ZB,ZC,ZD,ZE,if_pos hup,Q9,Qb]
   exact ih
  | true =>
  simp -implicitDefEqProofs only [↓reduceIte,eq_self,ZF,ZG,ZH,ZI,ZJ,ZK,ZL,ZM,ZN,ZO,ZP,ZQ,ZR,ZS,ZT,ZU,ZV,ZW,ZX,ZY,Z2,Z3,Z4,Z5,Z6,Z7,Z8,Z9,Za,Zb,Zc,Zd,Ze,Zf,Zg,Zh,Nat.reduceAdd,Zi,if_true,if_false,Zl,Zm,Zn,Zo,Zp,Zq,Zr,Zs,Zt,Zu,Zv,Zw,Zx,Zy,Zz,ZA,ZB,ZC,ZD,ZE,Nat.reduceLeDiff,p1,a0F,hd,hd2,le0,q1,a3J,r1]
  cases h2:eqB x.y c.y with
  | false =>
   simp -implicitDefEqProofs only [↓reduceIte,eq_self,ZF,ZG,ZH,ZI,ZJ,ZK,ZL,ZM,ZN,ZO,ZP,ZQ,ZR,ZS,ZT,ZU,ZV,ZW,ZX,ZY,Z2,Z3,Z4,Z5,Z6,Z7,Z8,Z9,Za,Zb,Zc,Zd,Ze,Zf,Zg,Zh,Nat.reduceAdd,Zi,if_true,if_false,Zl,Zm,Zn,Zo,Zp,Zq,Zr,Zs,Zt,Zu,Zv,Zw,Zx,Zy,Zz,ZA,ZB,ZC,ZD,ZE,if_pos hup,Qt,Qb]
   exact ih
  | true=>simp -implicitDefEqProofs only [↓reduceIte,eq_self,ZF,ZG,ZH,ZI,ZJ,ZK,ZL,ZM,ZN,ZO,ZP,ZQ,ZR,ZS,ZT,ZU,ZV,ZW,ZX,ZY,Z2,Z3,Z4,Z5,Z6,Z7,Z8,Z9,Za,Zb,Zc,Zd,Ze,Zf,Zg,Zh,Nat.reduceAdd,Zi,if_true,if_false,Zl,Zm,Zn,Zo,Zp,Zq,Zr,Zs,Zt,Zu,Zv,Zw,Zx,Zy,Zz,ZA,ZB,ZC,ZD,ZE,Bool.and_self,Qj,a0D,or_true]
include hA in
theorem c6B (i:Nat) (c:Tri) (hi:i<=1000) (hil:i < ad.length) (b0 b1 b2 b3:Bool) (np sup:Int):∀ d k,k+d=i->∀ fuel,
  saleroomref10_Check_S.loop (a0B Tab n) (fuel+d+1) 3 { i:=[(i:Int),(k:Int),c.x,np,c.y,c.z,sup],b:=[b0,b1,b2,b3],v:=[P,B,C,A],m:=σ,k:=σ.length } =
   if (((ad.take i).drop k).any fun d=>eqB d.x c.x)=true then some (.int .i64 7,σ) else saleroomref10_Check_S.loop (a0B Tab n) fuel 2 { i:=[(i:Int)+1],b:=[],v:=[P,B,C,A],m:=σ,k:=σ.length }:=by
 obtain ⟨p1,p2,p3⟩:=a0C hA
 rw [Q2] at p1
 have htl:(ad.take i).length=i:=by rw [Qd]; omega
 intro d
 induction d with
 | zero =>
  intro k hk fuel
  rw [Q4] at hk; subst hk
  have hd:decide (k < k)=false:=by simp
  have hup:=a1y (show k<=1000000000 by omega)
  rw [Qg (by omega),Qh,if_neg (by simp),Sys.loop,show saleroomref10_Check_S.loops[3]?=some a2x from rfl]
  simp -implicitDefEqProofs only [Q0,a2x,↓reduceIte,eq_self,ZF,ZG,ZH,ZI,ZJ,ZK,ZL,ZM,ZN,ZO,ZP,ZQ,ZR,ZS,ZT,ZU,ZV,ZW,ZX,ZY,Z2,Z3,Z4,Z5,Z6,Z7,Z8,Z9,Za,Zb,Zc,Zd,Ze,Zf,Zg,Zh,Nat.reduceAdd,Zi,if_true,if_false,Zl,Zm,Zn,Zo,Zp,Zq,Zr,Zs,Zt,Zu,Zv,Zw,Zx,Zy,Zz,ZA,ZB,ZC,ZD,ZE,a0F,hd,if_pos hup]
 | succ d ih =>
  intro k hk fuel
  have hlt:k < (ad.take i).length:=by omega
  obtain ⟨x,hx⟩:=a0W hlt
  have hx2:=hx
  rw [a6q (by omega)] at hx2
  have hd:decide (k < i)=true:=decide_eq_true (by omega)
  have hd2:decide (k < ad.length)=true:=decide_eq_true (by omega)
  have q0:=a0G (off:=0) hA (a2R hx2)
  have q1:=a0G (off:=1) hA (a2R hx2)
  obtain ⟨r1,r2⟩:=tdr (.int .i64 x.x) (.int .i64 x.y) (.int .i64 x.z)
  have hup:=a1y (show k<=1000000000 by omega)
  have ih:=ih (k+1) (by omega) fuel
  rw [a0Q] at ih
  rw [b1E _ hx,Sys.loop,show saleroomref10_Check_S.loops[3]?=some a2x from rfl]
  simp -implicitDefEqProofs only [Q0,a2x,↓reduceIte,eq_self,ZF,ZG,ZH,ZI,ZJ,ZK,ZL,ZM,ZN,ZO,ZP,ZQ,ZR,ZS,ZT,ZU,ZV,ZW,ZX,ZY,Z2,Z3,Z4,Z5,Z6,Z7,Z8,Z9,Za,Zb,Zc,Zd,Ze,Zf,Zg,Zh,Nat.reduceAdd,Zi,if_true,if_false,Zl,Zm,Zn,Zo,Zp,Zq,Zr,Zs,Zt,Zu,Zv,Zw,Zx,Zy,Zz,ZA,ZB,ZC,ZD,ZE,Nat.reduceLeDiff,p1,a0F,hd,hd2,le0,q0,a3J]
  cases h1:eqB x.x c.x with
  | false =>
   simp -implicitDefEqProofs only [↓reduceIte,eq_self,ZF,ZG,ZH,ZI,ZJ,ZK,ZL,ZM,ZN,ZO,ZP,ZQ,ZR,ZS,ZT,ZU,ZV,ZW,ZX,ZY,Z2,Z3,Z4,Z5,Z6,Z7,Z8,Z9,Za,Zb,Zc,Zd,Ze,Zf,Zg,Zh,Nat.reduceAdd,Zi,if_true,if_false,Zl,Zm,Zn,Zo,Zp,Zq,Zr,Zs,Zt,Zu,Zv,Zw,Zx,Zy,Zz,ZA,ZB,ZC,ZD,ZE,if_pos hup,Q9,Qb]
   exact ih
  | true=>simp -implicitDefEqProofs only [↓reduceIte,eq_self,ZF,ZG,ZH,ZI,ZJ,ZK,ZL,ZM,ZN,ZO,ZP,ZQ,ZR,ZS,ZT,ZU,ZV,ZW,ZX,ZY,Z2,Z3,Z4,Z5,Z6,Z7,Z8,Z9,Za,Zb,Zc,Zd,Ze,Zf,Zg,Zh,Nat.reduceAdd,Zi,if_true,if_false,Zl,Zm,Zn,Zo,Zp,Zq,Zr,Zs,Zt,Zu,Zv,Zw,Zx,Zy,Zz,ZA,ZB,ZC,ZD,ZE,Qj,a0D,or_true]
include hP hB hC hA in
theorem c5W (hl:ad.length<=6):∀ d i,i+d=ad.length->∀ fuel,d*20+1<=fuel ->
  saleroomref10_Check_S.loop (a0B Tab n) fuel 2 { i:=[(i:Int)],b:=[],v:=[P,B,C,A],m:=σ,k:=σ.length }=some (.int .i64 (goL (a1A ps) ad d i),σ):=by
 have _:=And.intro hB hC
 obtain ⟨p1,p2,p3⟩:=a0C hA
 obtain ⟨q1,q2,q3⟩:=a0C hP
 rw [Q2] at p1 q1
 intro d
 induction d with
 | zero =>
  intro i hi fuel hf
  obtain ⟨fuel,rfl⟩:∃ f,fuel=f+1:=⟨fuel-1,by omega⟩
  rw [Q4] at hi; subst hi
  have hd:decide (ad.length < ad.length)=false:=by simp
  rw [Sys.loop,show saleroomref10_Check_S.loops[2]?=some a2w from rfl]
  simp -implicitDefEqProofs only [Q0,a2w,↓reduceIte,eq_self,ZF,ZG,ZH,ZI,ZJ,ZK,ZL,ZM,ZN,ZO,ZP,ZQ,ZR,ZS,ZT,ZU,ZV,ZW,ZX,ZY,Z2,Z3,Z4,Z5,Z6,Z7,Z8,Z9,Za,Zb,Zc,Zd,Ze,Zf,Zg,Zh,Nat.reduceAdd,Zi,if_true,if_false,Zl,Zm,Zn,Zo,Zp,Zq,Zr,Zs,Zt,Zu,Zv,Zw,Zx,Zy,Zz,ZA,ZB,ZC,ZD,ZE,p1,p2,a0F,hd,goL,a0D,or_true]
 | succ d ih =>
  intro i hi fuel hf
  obtain ⟨fuel,rfl⟩:∃ f,fuel=f+i+1+1:=⟨fuel-i-2,by omega⟩
  have hlt:i < ad.length:=by omega
  obtain ⟨x,hx⟩:=a0W hlt
  have hd:decide (i < ad.length)=true:=decide_eq_true hlt
  have hq:=a0G (off:=0) hA (a2R hx)
  have ih:=ih (i+1) (by omega) fuel (by omega)
  rw [a0Q] at ih
  have hin:=fun b0 b1 b2 b3 sup=>c6B σ ad P B C A hA n i x (by omega) (by omega) b0 b1 b2 b3 (ps.length:Int) sup i 0 (by omega) fuel
  rw [a7o hx,Sys.loop,show saleroomref10_Check_S.loops[2]?=some a2w from rfl]
  simp -implicitDefEqProofs only [Q0,a2w,↓reduceIte,eq_self,ZF,ZG,ZH,ZI,ZJ,ZK,ZL,ZM,ZN,ZO,ZP,ZQ,ZR,ZS,ZT,ZU,ZV,ZW,ZX,ZY,Z2,Z3,Z4,Z5,Z6,Z7,Z8,Z9,Za,Zb,Zc,Zd,Ze,Zf,Zg,Zh,Nat.reduceAdd,Zi,if_true,if_false,Zl,Zm,Zn,Zo,Zp,Zq,Zr,Zs,Zt,Zu,Zv,Zw,Zx,Zy,Zz,ZA,ZB,ZC,ZD,ZE,Nat.reduceLeDiff,p1,p2,a0F,hd,le0,hq,a3J,q1,q2]
  have h60:¬ ((6:Int)=0):=by decide
  have h40:¬ ((4:Int)=0):=by decide
  have h70:¬ ((7:Int)=0):=by decide
  cases e1:ltB x.x 0 with
  | true =>
   have hp:a1A ps (ad.take i) x=6:=by simp only [a1A,e1,if_true,Q1,if_false]
   rw [hp,if_neg h60]
   simp -implicitDefEqProofs only [↓reduceIte,eq_self,ZF,ZG,ZH,ZI,ZJ,ZK,ZL,ZM,ZN,ZO,ZP,ZQ,ZR,ZS,ZT,ZU,ZV,ZW,ZX,ZY,Z2,Z3,Z4,Z5,Z6,Z7,Z8,Z9,Za,Zb,Zc,Zd,Ze,Zf,Zg,Zh,Nat.reduceAdd,Zi,if_true,if_false,Zl,Zm,Zn,Zo,Zp,Zq,Zr,Zs,Zt,Zu,Zv,Zw,Zx,Zy,Zz,ZA,ZB,ZC,ZD,ZE,q1,q2,e1,a0D,or_true]
  | false =>
  cases e2:leB (ps.length:Int) x.x with
  | true =>
   have hp:a1A ps (ad.take i) x=6:=by simp only [a1A,e1,e2,if_true,Q1,if_false]
   rw [hp,if_neg h60]
   simp -implicitDefEqProofs only [↓reduceIte,eq_self,ZF,ZG,ZH,ZI,ZJ,ZK,ZL,ZM,ZN,ZO,ZP,ZQ,ZR,ZS,ZT,ZU,ZV,ZW,ZX,ZY,Z2,Z3,Z4,Z5,Z6,Z7,Z8,Z9,Za,Zb,Zc,Zd,Ze,Zf,Zg,Zh,Nat.reduceAdd,Zi,if_true,if_false,Zl,Zm,Zn,Zo,Zp,Zq,Zr,Zs,Zt,Zu,Zv,Zw,Zx,Zy,Zz,ZA,ZB,ZC,ZD,ZE,q1,q2,e1,e2,a0D,or_true]
  | false =>
  cases e3:ltB x.y 1 with
  | true =>
   have hp:a1A ps (ad.take i) x=4:=by simp only [a1A,e1,e2,e3,if_true,Q1,if_false]
   rw [hp,if_neg h40]
   simp -implicitDefEqProofs only [↓reduceIte,eq_self,ZF,ZG,ZH,ZI,ZJ,ZK,ZL,ZM,ZN,ZO,ZP,ZQ,ZR,ZS,ZT,ZU,ZV,ZW,ZX,ZY,Z2,Z3,Z4,Z5,Z6,Z7,Z8,Z9,Za,Zb,Zc,Zd,Ze,Zf,Zg,Zh,Nat.reduceAdd,Zi,if_true,if_false,Zl,Zm,Zn,Zo,Zp,Zq,Zr,Zs,Zt,Zu,Zv,Zw,Zx,Zy,Zz,ZA,ZB,ZC,ZD,ZE,q1,q2,e1,e2,e3,a0D,or_true]
  | false =>
  cases e4:ltB 4 x.y with
  | true =>
   have hp:a1A ps (ad.take i) x=4:=by simp only [a1A,e1,e2,e3,e4,if_true,Q1,if_false]
   rw [hp,if_neg h40]
   simp -implicitDefEqProofs only [↓reduceIte,eq_self,ZF,ZG,ZH,ZI,ZJ,ZK,ZL,ZM,ZN,ZO,ZP,ZQ,ZR,ZS,ZT,ZU,ZV,ZW,ZX,ZY,Z2,Z3,Z4,Z5,Z6,Z7,Z8,Z9,Za,Zb,Zc,Zd,Ze,Zf,Zg,Zh,Nat.reduceAdd,Zi,if_true,if_false,Zl,Zm,Zn,Zo,Zp,Zq,Zr,Zs,Zt,Zu,Zv,Zw,Zx,Zy,Zz,ZA,ZB,ZC,ZD,ZE,q1,q2,e1,e2,e3,e4,a0D,or_true]
  | false =>
  cases e5:ltB x.z 1 with
  | true =>
   have hp:a1A ps (ad.take i) x=4:=by simp only [a1A,e1,e2,e3,e4,e5,if_true,Q1,if_false]
   rw [hp,if_neg h40]
   simp -implicitDefEqProofs only [↓reduceIte,eq_self,ZF,ZG,ZH,ZI,ZJ,ZK,ZL,ZM,ZN,ZO,ZP,ZQ,ZR,ZS,ZT,ZU,ZV,ZW,ZX,ZY,Z2,Z3,Z4,Z5,Z6,Z7,Z8,Z9,Za,Zb,Zc,Zd,Ze,Zf,Zg,Zh,Nat.reduceAdd,Zi,if_true,if_false,Zl,Zm,Zn,Zo,Zp,Zq,Zr,Zs,Zt,Zu,Zv,Zw,Zx,Zy,Zz,ZA,ZB,ZC,ZD,ZE,q1,q2,e1,e2,e3,e4,e5,a0D,or_true]
  | false =>
  have hb1:=e1
  have hb2:=e2
  rw [a0I] at hb1
  rw [a3H] at hb2
  obtain ⟨m,hm⟩:∃ m:Nat,x.x=(m:Int):=⟨x.x.toNat,by omega⟩
  obtain ⟨pr,hpr⟩:=a0W (show m < ps.length by omega)
  have hsup:((ps[x.x.toNat]?).map Pr.s).getD 0=pr.s:=by rw [hm,Qf,hpr]; rfl
  have hq1:a1z x.x 5 1 P=some (.row pr.row 1):=by rw [hm]; exact a0G (off:=1) hP (a1l hpr)
  have hrg:(leB 0 x.x&&ltB x.x (ps.length:Int))=true:=by rw [Qv,a2n,a0U]; omega
  have dr:∀ a b c d e:PV,Qa 1 [a,b,c,d,e]=[b,c,d,e]:=fun _ _ _ _ _=>rfl
  simp -implicitDefEqProofs only [↓reduceIte,eq_self,ZF,ZG,ZH,ZI,ZJ,ZK,ZL,ZM,ZN,ZO,ZP,ZQ,ZR,ZS,ZT,ZU,ZV,ZW,ZX,ZY,Z2,Z3,Z4,Z5,Z6,Z7,Z8,Z9,Za,Zb,Zc,Zd,Ze,Zf,Zg,Zh,Nat.reduceAdd,Zi,if_true,if_false,Zl,Zm,Zn,Zo,Zp,Zq,Zr,Zs,Zt,Zu,Zv,Zw,Zx,Zy,Zz,ZA,ZB,ZC,ZD,ZE,Nat.reduceLeDiff,q1,q2,e1,e2,e3,e4,e5,hrg,hq1,a2l,dr]
  cases e6:ltB pr.s x.z with
  | true =>
   have hp:a1A ps (ad.take i) x=4:=by simp only [a1A,e1,e2,e3,e4,e5,hsup,e6,if_true,Q1,if_false]
   rw [hp,if_neg h40]
   simp -implicitDefEqProofs only [↓reduceIte,eq_self,ZF,ZG,ZH,ZI,ZJ,ZK,ZL,ZM,ZN,ZO,ZP,ZQ,ZR,ZS,ZT,ZU,ZV,ZW,ZX,ZY,Z2,Z3,Z4,Z5,Z6,Z7,Z8,Z9,Za,Zb,Zc,Zd,Ze,Zf,Zg,Zh,Nat.reduceAdd,Zi,if_true,if_false,Zl,Zm,Zn,Zo,Zp,Zq,Zr,Zs,Zt,Zu,Zv,Zw,Zx,Zy,Zz,ZA,ZB,ZC,ZD,ZE,a0D,or_true]
  | false =>
   simp -implicitDefEqProofs only [↓reduceIte,eq_self,ZF,ZG,ZH,ZI,ZJ,ZK,ZL,ZM,ZN,ZO,ZP,ZQ,ZR,ZS,ZT,ZU,ZV,ZW,ZX,ZY,Z2,Z3,Z4,Z5,Z6,Z7,Z8,Z9,Za,Zb,Zc,Zd,Ze,Zf,Zg,Zh,Nat.reduceAdd,Zi,if_true,if_false,Zl,Zm,Zn,Zo,Zp,Zq,Zr,Zs,Zt,Zu,Zv,Zw,Zx,Zy,Zz,ZA,ZB,ZC,ZD,ZE,p1,p2,q1,q2,e1,e2,e3,e4,e5,e6]
   rw [Q8] at hin
   cases hany:((ad.take i).any fun d=>eqB d.x x.x) with
   | true =>
    have hp:a1A ps (ad.take i) x=7:=by simp only [a1A,e1,e2,e3,e4,e5,hsup,e6,hany,if_true,Q1,if_false]
    rw [hp,if_neg h70]
    refine (hin _ _ _ _ _).trans ?_
    rw [if_pos hany]
   | false =>
    have hp:a1A ps (ad.take i) x=0:=by simp only [a1A,e1,e2,e3,e4,e5,hsup,e6,hany,if_true,Q1,if_false]
    rw [hp,if_pos rfl]
    refine (hin _ _ _ _ _).trans ?_
    rw [if_neg (by rw [hany]; simp)]
    exact ih
include hP hB hC hA in
theorem c2N (hl:cs.length<=16):∀ d i,i+d=cs.length->∀ fuel,d*20+200<=fuel ->
  saleroomref10_Check_S.loop (a0B Tab n) fuel 0 { i:=[(i:Int)],b:=[],v:=[P,B,C,A],m:=σ,k:=σ.length }=some (.int .i64 (if goL (a1r (bs.length:Int)) cs d i=0 then asV ps ad else goL (a1r (bs.length:Int)) cs d i),σ):=by
 obtain ⟨p1,p2,p3⟩:=a0C hC
 obtain ⟨q1,q2,q3⟩:=a0C hB
 rw [Q2] at p1 q1
 intro d
 induction d with
 | zero =>
  intro i hi fuel hf
  obtain ⟨fuel,rfl⟩:∃ f,fuel=f+1:=⟨fuel-1,by omega⟩
  rw [Q4] at hi; subst hi
  have hd:decide (cs.length < cs.length)=false:=by simp
  rw [Sys.loop,show saleroomref10_Check_S.loops[0]?=some a2u from rfl]
  obtain ⟨a1,a2,a3⟩:=a0C hA
  rw [Q2] at a1
  rw [show goL (a1r (bs.length:Int)) cs 0 cs.length=0 from rfl,if_pos rfl]
  unfold asV
  simp -implicitDefEqProofs only [Q0,a2u,↓reduceIte,eq_self,ZF,ZG,ZH,ZI,ZJ,ZK,ZL,ZM,ZN,ZO,ZP,ZQ,ZR,ZS,ZT,ZU,ZV,ZW,ZX,ZY,Z2,Z3,Z4,Z5,Z6,Z7,Z8,Z9,Za,Zb,Zc,Zd,Ze,Zf,Zg,Zh,Nat.reduceAdd,Zi,if_true,if_false,Zl,Zm,Zn,Zo,Zp,Zq,Zr,Zs,Zt,Zu,Zv,Zw,Zx,Zy,Zz,ZA,ZB,ZC,ZD,ZE,p1,p2,a0F,hd,a1,a2]
  cases h6:ltB 6 (ad.length:Int) with
  | true=>simp -implicitDefEqProofs only [↓reduceIte,eq_self,ZF,ZG,ZH,ZI,ZJ,ZK,ZL,ZM,ZN,ZO,ZP,ZQ,ZR,ZS,ZT,ZU,ZV,ZW,ZX,ZY,Z2,Z3,Z4,Z5,Z6,Z7,Z8,Z9,Za,Zb,Zc,Zd,Ze,Zf,Zg,Zh,Nat.reduceAdd,Zi,if_true,if_false,Zl,Zm,Zn,Zo,Zp,Zq,Zr,Zs,Zt,Zu,Zv,Zw,Zx,Zy,Zz,ZA,ZB,ZC,ZD,ZE,a0D,or_true]
  | false =>
   have h:=h6
   rw [a0I] at h
   simp -implicitDefEqProofs only [↓reduceIte,eq_self,ZF,ZG,ZH,ZI,ZJ,ZK,ZL,ZM,ZN,ZO,ZP,ZQ,ZR,ZS,ZT,ZU,ZV,ZW,ZX,ZY,Z2,Z3,Z4,Z5,Z6,Z7,Z8,Z9,Za,Zb,Zc,Zd,Ze,Zf,Zg,Zh,Nat.reduceAdd,Zi,if_true,if_false,Zl,Zm,Zn,Zo,Zp,Zq,Zr,Zs,Zt,Zu,Zv,Zw,Zx,Zy,Zz,ZA,ZB,ZC,ZD,ZE]
   exact c5W σ ps bs cs ad P B C A hP hB hC hA n (by omega) ad.length 0 (by omega) fuel (by omega)
 | succ d ih =>
  intro i hi fuel hf
  obtain ⟨fuel,rfl⟩:∃ f,fuel=f+i+1+1:=⟨fuel-i-2,by omega⟩
  have hlt:i < cs.length:=by omega
  obtain ⟨x,hx⟩:=a0W hlt
  have hd:decide (i < cs.length)=true:=decide_eq_true hlt
  have hq:=a0G (off:=0) hC (a2R hx)
  have ih:=ih (i+1) (by omega) fuel (by omega)
  rw [a0Q] at ih
  have hin:=fun b0 b1 b2 b3 sup=>c4F σ cs P B C A hC n i x (by omega) (by omega) b0 b1 b2 b3 (bs.length:Int) sup i 0 (by omega) fuel
  rw [a7o hx,Sys.loop,show saleroomref10_Check_S.loops[0]?=some a2u from rfl]
  simp -implicitDefEqProofs only [Q0,a2u,↓reduceIte,eq_self,ZF,ZG,ZH,ZI,ZJ,ZK,ZL,ZM,ZN,ZO,ZP,ZQ,ZR,ZS,ZT,ZU,ZV,ZW,ZX,ZY,Z2,Z3,Z4,Z5,Z6,Z7,Z8,Z9,Za,Zb,Zc,Zd,Ze,Zf,Zg,Zh,Nat.reduceAdd,Zi,if_true,if_false,Zl,Zm,Zn,Zo,Zp,Zq,Zr,Zs,Zt,Zu,Zv,Zw,Zx,Zy,Zz,ZA,ZB,ZC,ZD,ZE,Nat.reduceLeDiff,p1,p2,a0F,hd,le0,hq,a3J,q1,q2]
  have h60:¬ ((6:Int)=0):=by decide
  have h40:¬ ((4:Int)=0):=by decide
  have h70:¬ ((7:Int)=0):=by decide
  cases e1:ltB x.x (-1) with
  | true =>
   have hp:a1r (bs.length:Int) (cs.take i) x=6:=by simp only [a1r,e1,if_true,Q1,if_false]
   rw [hp,if_neg h60,if_neg h60]
   simp -implicitDefEqProofs only [↓reduceIte,eq_self,ZF,ZG,ZH,ZI,ZJ,ZK,ZL,ZM,ZN,ZO,ZP,ZQ,ZR,ZS,ZT,ZU,ZV,ZW,ZX,ZY,Z2,Z3,Z4,Z5,Z6,Z7,Z8,Z9,Za,Zb,Zc,Zd,Ze,Zf,Zg,Zh,Nat.reduceAdd,Zi,if_true,if_false,Zl,Zm,Zn,Zo,Zp,Zq,Zr,Zs,Zt,Zu,Zv,Zw,Zx,Zy,Zz,ZA,ZB,ZC,ZD,ZE,q1,q2,e1,a0D,or_true]
  | false =>
  cases e2:leB (bs.length:Int) x.x with
  | true =>
   have hp:a1r (bs.length:Int) (cs.take i) x=6:=by simp only [a1r,e1,e2,if_true,Q1,if_false]
   rw [hp,if_neg h60,if_neg h60]
   simp -implicitDefEqProofs only [↓reduceIte,eq_self,ZF,ZG,ZH,ZI,ZJ,ZK,ZL,ZM,ZN,ZO,ZP,ZQ,ZR,ZS,ZT,ZU,ZV,ZW,ZX,ZY,Z2,Z3,Z4,Z5,Z6,Z7,Z8,Z9,Za,Zb,Zc,Zd,Ze,Zf,Zg,Zh,Nat.reduceAdd,Zi,if_true,if_false,Zl,Zm,Zn,Zo,Zp,Zq,Zr,Zs,Zt,Zu,Zv,Zw,Zx,Zy,Zz,ZA,ZB,ZC,ZD,ZE,q1,q2,e1,e2,a0D,or_true]
  | false =>
  cases e3:ltB x.y 0 with
  | true =>
   have hp:a1r (bs.length:Int) (cs.take i) x=4:=by simp only [a1r,e1,e2,e3,if_true,Q1,if_false]
   rw [hp,if_neg h40,if_neg h40]
   simp -implicitDefEqProofs only [↓reduceIte,eq_self,ZF,ZG,ZH,ZI,ZJ,ZK,ZL,ZM,ZN,ZO,ZP,ZQ,ZR,ZS,ZT,ZU,ZV,ZW,ZX,ZY,Z2,Z3,Z4,Z5,Z6,Z7,Z8,Z9,Za,Zb,Zc,Zd,Ze,Zf,Zg,Zh,Nat.reduceAdd,Zi,if_true,if_false,Zl,Zm,Zn,Zo,Zp,Zq,Zr,Zs,Zt,Zu,Zv,Zw,Zx,Zy,Zz,ZA,ZB,ZC,ZD,ZE,q1,q2,e1,e2,e3,a0D,or_true]
  | false =>
  cases e4:ltB 4 x.y with
  | true =>
   have hp:a1r (bs.length:Int) (cs.take i) x=4:=by simp only [a1r,e1,e2,e3,e4,if_true,Q1,if_false]
   rw [hp,if_neg h40,if_neg h40]
   simp -implicitDefEqProofs only [↓reduceIte,eq_self,ZF,ZG,ZH,ZI,ZJ,ZK,ZL,ZM,ZN,ZO,ZP,ZQ,ZR,ZS,ZT,ZU,ZV,ZW,ZX,ZY,Z2,Z3,Z4,Z5,Z6,Z7,Z8,Z9,Za,Zb,Zc,Zd,Ze,Zf,Zg,Zh,Nat.reduceAdd,Zi,if_true,if_false,Zl,Zm,Zn,Zo,Zp,Zq,Zr,Zs,Zt,Zu,Zv,Zw,Zx,Zy,Zz,ZA,ZB,ZC,ZD,ZE,q1,q2,e1,e2,e3,e4,a0D,or_true]
  | false =>
  cases e5:ltB x.z 0 with
  | true =>
   have hp:a1r (bs.length:Int) (cs.take i) x=4:=by simp only [a1r,e1,e2,e3,e4,e5,if_true,Q1,if_false]
   rw [hp,if_neg h40,if_neg h40]
   simp -implicitDefEqProofs only [↓reduceIte,eq_self,ZF,ZG,ZH,ZI,ZJ,ZK,ZL,ZM,ZN,ZO,ZP,ZQ,ZR,ZS,ZT,ZU,ZV,ZW,ZX,ZY,Z2,Z3,Z4,Z5,Z6,Z7,Z8,Z9,Za,Zb,Zc,Zd,Ze,Zf,Zg,Zh,Nat.reduceAdd,Zi,if_true,if_false,Zl,Zm,Zn,Zo,Zp,Zq,Zr,Zs,Zt,Zu,Zv,Zw,Zx,Zy,Zz,ZA,ZB,ZC,ZD,ZE,q1,q2,e1,e2,e3,e4,e5,a0D,or_true]
  | false =>
  cases e6:ltB 24 x.z with
  | true =>
   have hp:a1r (bs.length:Int) (cs.take i) x=4:=by simp only [a1r,e1,e2,e3,e4,e5,e6,if_true,Q1,if_false]
   rw [hp,if_neg h40,if_neg h40]
   simp -implicitDefEqProofs only [↓reduceIte,eq_self,ZF,ZG,ZH,ZI,ZJ,ZK,ZL,ZM,ZN,ZO,ZP,ZQ,ZR,ZS,ZT,ZU,ZV,ZW,ZX,ZY,Z2,Z3,Z4,Z5,Z6,Z7,Z8,Z9,Za,Zb,Zc,Zd,Ze,Zf,Zg,Zh,Nat.reduceAdd,Zi,if_true,if_false,Zl,Zm,Zn,Zo,Zp,Zq,Zr,Zs,Zt,Zu,Zv,Zw,Zx,Zy,Zz,ZA,ZB,ZC,ZD,ZE,q1,q2,e1,e2,e3,e4,e5,e6,a0D,or_true]
  | false =>
   simp -implicitDefEqProofs only [↓reduceIte,eq_self,ZF,ZG,ZH,ZI,ZJ,ZK,ZL,ZM,ZN,ZO,ZP,ZQ,ZR,ZS,ZT,ZU,ZV,ZW,ZX,ZY,Z2,Z3,Z4,Z5,Z6,Z7,Z8,Z9,Za,Zb,Zc,Zd,Ze,Zf,Zg,Zh,Nat.reduceAdd,Zi,if_true,if_false,Zl,Zm,Zn,Zo,Zp,Zq,Zr,Zs,Zt,Zu,Zv,Zw,Zx,Zy,Zz,ZA,ZB,ZC,ZD,ZE,p1,p2,q1,q2,e1,e2,e3,e4,e5,e6]
   rw [Q8] at hin
   cases hany:((cs.take i).any fun d=>eqB d.x x.x&&eqB d.y x.y) with
   | true =>
    have hp:a1r (bs.length:Int) (cs.take i) x=7:=by simp only [a1r,e1,e2,e3,e4,e5,e6,hany,if_true,Q1,if_false]
    rw [hp,if_neg h70,if_neg h70]
    refine (hin _ _ _ _ 0).trans ?_
    rw [if_pos hany]
   | false =>
    have hp:a1r (bs.length:Int) (cs.take i) x=0:=by simp only [a1r,e1,e2,e3,e4,e5,e6,hany,if_true,Q1,if_false]
    rw [hp,if_pos rfl]
    refine (hin _ _ _ _ 0).trans ?_
    rw [if_neg (by rw [hany]; simp)]
    exact ih
include hP hB hC hA in
theorem a5m (hn:1010<=n):a0B Tab n a2B [.agg [P,B,C,A]] σ=some (.int .i64 (a5j ps bs cs ad),σ):=by
 obtain ⟨n,rfl⟩:∃ k,n=k+1:=⟨n-1,by omega⟩
 obtain ⟨p1,p2,p3⟩:=a0C hP
 obtain ⟨b1,b2,b3⟩:=a0C hB
 obtain ⟨c1,c2,c3⟩:=a0C hC
 obtain ⟨a1,a2,a3⟩:=a0C hA
 rw [Q2] at c1
 have k1:=b3M σ ps P hP n (by omega)
 have k2:=c4j σ bs B hB n (by omega)
 simp only [a4D,a6w] at k1 k2
 rw [a0B]
 simp only [a9A,Q0,Sys.run]
 show ((a0E [.sh (.agg [_,_,_,_])] _).bind _)=_
 simp -implicitDefEqProofs only [a0E,a0x,a0w,Q3,Q0,Q7,Q5,Q6,if_true,p3,b3,c3,a3]
 show (PT.ev _ a4x _).bind _=_
 have e0:∀ z:Int,eqB z 0=decide (z=0):=fun _=>rfl
 simp -implicitDefEqProofs only [a4x,↓reduceIte,eq_self,ZF,ZG,ZH,ZI,ZJ,ZK,ZL,ZM,ZN,ZO,ZP,ZQ,ZR,ZS,ZT,ZU,ZV,ZW,ZX,ZY,Z2,Z3,Z4,Z5,Z6,Z7,Z8,Z9,Za,Zb,Zc,Zd,Ze,Zf,Zg,Zh,Nat.reduceAdd,Zi,if_true,if_false,Zl,Zm,Zn,Zo,Zp,Zq,Zr,Zs,Zt,Zu,Zv,Zw,Zx,Zy,Zz,ZA,ZB,ZC,ZD,ZE,k1,e0,a5j]
 by_cases h1:a6j ps=0
 ·rw [if_pos h1,decide_eq_true h1]
  simp -implicitDefEqProofs only [↓reduceIte,eq_self,ZF,ZG,ZH,ZI,ZJ,ZK,ZL,ZM,ZN,ZO,ZP,ZQ,ZR,ZS,ZT,ZU,ZV,ZW,ZX,ZY,Z2,Z3,Z4,Z5,Z6,Z7,Z8,Z9,Za,Zb,Zc,Zd,Ze,Zf,Zg,Zh,Nat.reduceAdd,Zi,if_true,if_false,Zl,Zm,Zn,Zo,Zp,Zq,Zr,Zs,Zt,Zu,Zv,Zw,Zx,Zy,Zz,ZA,ZB,ZC,ZD,ZE,k2,e0]
  by_cases h2:a8D bs=0
  ·rw [if_pos h2,decide_eq_true h2]
   unfold b0i
   simp -implicitDefEqProofs only [↓reduceIte,eq_self,ZF,ZG,ZH,ZI,ZJ,ZK,ZL,ZM,ZN,ZO,ZP,ZQ,ZR,ZS,ZT,ZU,ZV,ZW,ZX,ZY,Z2,Z3,Z4,Z5,Z6,Z7,Z8,Z9,Za,Zb,Zc,Zd,Ze,Zf,Zg,Zh,Nat.reduceAdd,Zi,if_true,if_false,Zl,Zm,Zn,Zo,Zp,Zq,Zr,Zs,Zt,Zu,Zv,Zw,Zx,Zy,Zz,ZA,ZB,ZC,ZD,ZE,c1,c2]
   cases h16:ltB 16 (cs.length:Int) with
   | true =>
    simp only [if_true]
    rw [if_neg (by decide)]
    simp -implicitDefEqProofs only [↓reduceIte,eq_self,ZF,ZG,ZH,ZI,ZJ,ZK,ZL,ZM,ZN,ZO,ZP,ZQ,ZR,ZS,ZT,ZU,ZV,ZW,ZX,ZY,Z2,Z3,Z4,Z5,Z6,Z7,Z8,Z9,Za,Zb,Zc,Zd,Ze,Zf,Zg,Zh,Nat.reduceAdd,Zi,if_true,if_false,Zl,Zm,Zn,Zo,Zp,Zq,Zr,Zs,Zt,Zu,Zv,Zw,Zx,Zy,Zz,ZA,ZB,ZC,ZD,ZE,a0D,or_true]
   | false =>
    have h:=h16
    rw [a0I] at h
    rw [if_neg (by simp)]
    simp -implicitDefEqProofs only [↓reduceIte,eq_self,ZF,ZG,ZH,ZI,ZJ,ZK,ZL,ZM,ZN,ZO,ZP,ZQ,ZR,ZS,ZT,ZU,ZV,ZW,ZX,ZY,Z2,Z3,Z4,Z5,Z6,Z7,Z8,Z9,Za,Zb,Zc,Zd,Ze,Zf,Zg,Zh,Nat.reduceAdd,Zi,if_true,if_false,Zl,Zm,Zn,Zo,Zp,Zq,Zr,Zs,Zt,Zu,Zv,Zw,Zx,Zy,Zz,ZA,ZB,ZC,ZD,ZE]
    exact c2N σ ps bs cs ad P B C A hP hB hC hA n (by omega) cs.length 0 (by omega) n (by omega)
  ·rw [if_neg h2,decide_eq_false h2]
   simp -implicitDefEqProofs only [↓reduceIte,eq_self,ZF,ZG,ZH,ZI,ZJ,ZK,ZL,ZM,ZN,ZO,ZP,ZQ,ZR,ZS,ZT,ZU,ZV,ZW,ZX,ZY,Z2,Z3,Z4,Z5,Z6,Z7,Z8,Z9,Za,Zb,Zc,Zd,Ze,Zf,Zg,Zh,Nat.reduceAdd,Zi,if_true,if_false,Zl,Zm,Zn,Zo,Zp,Zq,Zr,Zs,Zt,Zu,Zv,Zw,Zx,Zy,Zz,ZA,ZB,ZC,ZD,ZE,a0D,or_true]
 ·rw [if_neg h1,decide_eq_false h1]
  simp -implicitDefEqProofs only [↓reduceIte,eq_self,ZF,ZG,ZH,ZI,ZJ,ZK,ZL,ZM,ZN,ZO,ZP,ZQ,ZR,ZS,ZT,ZU,ZV,ZW,ZX,ZY,Z2,Z3,Z4,Z5,Z6,Z7,Z8,Z9,Za,Zb,Zc,Zd,Ze,Zf,Zg,Zh,Nat.reduceAdd,Zi,if_true,if_false,Zl,Zm,Zn,Zo,Zp,Zq,Zr,Zs,Zt,Zu,Zv,Zw,Zx,Zy,Zz,ZA,ZB,ZC,ZD,ZE,decide_eq_false h1,a0D,or_true]
end
end Go.Proofs.Ytflcopaopimlpaa
set_option maxRecDepth 100000
namespace Go.Proofs.Ytflcopaopimlpaa
open Go.Sx
theorem c1K {n:Nat} {ps:List PV} (h:a1m Try.prog n 76 ps):∃ x:Tri,ps=x.row:=by
 obtain ⟨m,_,h⟩:=a3V Try.underlying76 h
 simp only [Qp,Qq,a3x] at h
 obtain ⟨_,_,rfl,h1,_,_,rfl,h2,_,_,rfl,h3,rfl⟩:=h
 obtain ⟨a,rfl,_⟩:=a1u (k:=.i64) (by kernel_rfl) h1
 obtain ⟨b,rfl,_⟩:=a1u (k:=.i64) (by kernel_rfl) h2
 obtain ⟨c,rfl,_⟩:=a1u (k:=.i64) (by kernel_rfl) h3
 exact ⟨⟨a,b,c⟩,rfl⟩
theorem b8W {n:Nat} {ps:List PV} (h:a1m Try.prog n 78 ps):∃ x:Tri,ps=x.row:=by
 obtain ⟨m,_,h⟩:=a3V Try.underlying78 h
 simp only [Qp,Qq,a3x] at h
 obtain ⟨_,_,rfl,h1,_,_,rfl,h2,_,_,rfl,h3,rfl⟩:=h
 obtain ⟨a,rfl,_⟩:=a1u (k:=.i64) (by kernel_rfl) h1
 obtain ⟨b,rfl,_⟩:=a1u (k:=.i64) (by kernel_rfl) h2
 obtain ⟨c,rfl,_⟩:=a1u (k:=.i64) (by kernel_rfl) h3
 exact ⟨⟨a,b,c⟩,rfl⟩
theorem c3f {n:Nat} {ps:List PV} (h:a1m Try.prog n 27 ps):∃ (l1:List Pr) (l2:List Bd) (l3 l4:List Tri),ps=[.sl 5 (l1.map Pr.row),.sl 4 (l2.map Bd.row),.sl 3 (l3.map Tri.row),.sl 3 (l4.map Tri.row)]:=by
 obtain ⟨m,_,h⟩:=a3V Try.underlying27 h
 simp only [Qp,Qq,a3x] at h
 obtain ⟨_,_,rfl,h1,_,_,rfl,h2,_,_,rfl,h3,_,_,rfl,h4,rfl⟩:=h
 obtain ⟨m1,r1,_,rfl,g1⟩:=a6G (e:=80) (by kernel_rfl) h1
 obtain ⟨m2,r2,_,rfl,g2⟩:=a6G (e:=83) (by kernel_rfl) h2
 obtain ⟨m3,r3,_,rfl,g3⟩:=a6G (e:=76) (by kernel_rfl) h3
 obtain ⟨m4,r4,_,rfl,g4⟩:=a6G (e:=78) (by kernel_rfl) h4
 obtain ⟨l1,rfl⟩:=a5c (row:=Pr.row) (fun ps h=>c3B h) r1 g1
 obtain ⟨l2,rfl⟩:=a5c (row:=Bd.row) (fun ps h=>(c3j h).imp fun _ h=>h.1) r2 g2
 obtain ⟨l3,rfl⟩:=a5c (row:=Tri.row) (fun ps h=>c1K h) r3 g3
 obtain ⟨l4,rfl⟩:=a5c (row:=Tri.row) (fun ps h=>b8W h) r4 g4
 rw [show Try.prog.cellsOf 80=5 by kernel_rfl,show Try.prog.cellsOf 83=4 by kernel_rfl,show Try.prog.cellsOf 76=3 by kernel_rfl,show Try.prog.cellsOf 78=3 by kernel_rfl]
 exact ⟨l1,l2,l3,l4,rfl⟩
end Go.Proofs.Ytflcopaopimlpaa
