/- The examples of the chapter on activity. -/
import Derived.Test.YtflcopaopimlpaaHSys
import Derived.Test.YtflcopaopimlpaaHTxe
import Derived.Test.YtflcopaopimlpaaHRva
import Derived.Test.YtflcopaopimlpaaHGx
set_option linter.unusedSimpArgs false
set_option linter.unusedVariables false
open Go.Sx.PT renaming ev → Z1
open Go.Sx.BE renaming safe → Z2, pe → Z3, all → Zz
open Go.Sx.IE renaming pe → Z4
open Go.Sx renaming PEnv.at → Z5
open Go.Sx.PEnv renaming push → Zt
open List renaming getD_cons_zero → Z6, getD_cons_succ → Z7, getElem?_cons_zero → Z8, getElem?_cons_succ → Z9, drop_zero → Zf, length_cons → Zg, length_nil → Zh, take_succ_cons → Zm, take_zero → Zn, cons_append → Zu, nil_append → Zv, append_nil → Zw, map_cons → ZD, map_nil → ZE
open Go.Sx renaming a0y → Za, a0A → Zb, a0o → Zc, a0z → Zd, a0w → Zo, a0p → Zp, a0x → Zq, a0r → ZF, a0t → ZG, a0n → ZH, a0j → ZI, a0s → ZJ, a0q → ZK, a0g → ZL, a0v → ZM, a0i → ZN, a0m → ZO, a0e → ZP, a0h → ZQ, a0u → ZR, a0a → ZS, a0k → ZT, a0f → ZU, a0b → ZV, a0c → ZW, a0d → ZX, a0l → ZY
open Nat renaming add_zero → Ze, le_refl → Zi
open Bool renaming false_eq_true → Zl, and_self → ZA, not_true → ZB, not_false → ZC
open Option renaming map_some → Zr, bind_some → Zs
open Go.Sx.SV renaming pvs → Zx, pv → Zy
open Option renaming bind_some → Q0, map_some → Q3, toList_some → Qu
open List renaming nil_append → Q1, length_map → Q2, append_nil → Q4, cons_append → Q5, getElem?_eq_some_iff → Qb, drop → Qf, drop_zero → Qg, mem_of_getElem? → Qk, takeWhile_cons → Qm, drop_length → Qn, take_add_one → Qp, take_zero → Qr, mem_append → Qv, mem_singleton → Qw
open Bool renaming true_and → Q6, false_and → Q9, true_or → Qa, false_or → Qd, eq_iff_iff → Qh, and_false → Qs, not_eq_true' → Qt
open Int renaming natCast_add → Q7, add_mul → Q8, mul_le_mul → Qj, toNat_natCast → Qq
open Nat renaming add_zero → Qe
set_option maxRecDepth 100000
namespace Go.Proofs.Ytflcopaopimlpaa
open Go.Sx
end Go.Proofs.Ytflcopaopimlpaa
set_option maxRecDepth 100000
namespace Go.Proofs.Ytflcopaopimlpaa
open Go.Sx
structure Pr where
 (nm:List UInt8) (s r p g:Int)
def Pr.row (x:Pr):List PV:=[.str x.nm,.int .i64 x.s,.int .i64 x.r,.int .i64 x.p,.int .i64 x.g]
structure Bd where
 (nm:List UInt8) (c b p:Int)
def Bd.row (x:Bd):List PV:=[.str x.nm,.int .i64 x.c,.int .i64 x.b,.int .i64 x.p]
theorem a2l (x:Pr):x.row=[.str x.nm,.int .i64 x.s,.int .i64 x.r,.int .i64 x.p,.int .i64 x.g]:=rfl
theorem a1o (x:Bd):x.row=[.str x.nm,.int .i64 x.c,.int .i64 x.b,.int .i64 x.p]:=rfl
theorem c3B {n:Nat} {ps:List PV} (h:a1m Try.prog n 80 ps):∃ x:Pr,ps=x.row:=by
 obtain ⟨m,_,h⟩:=a3V Try.underlying80 h
 simp only [List.map_cons,List.map_nil,a3x] at h
 obtain ⟨_,_,rfl,h1,_,_,rfl,h2,_,_,rfl,h3,_,_,rfl,h4,_,_,rfl,h5,rfl⟩:=h
 obtain ⟨a,rfl⟩:=b5T (by kernel_rfl) h1
 obtain ⟨b,rfl,_⟩:=a1u (k:=.i64) (by kernel_rfl) h2
 obtain ⟨c,rfl,_⟩:=a1u (k:=.i64) (by kernel_rfl) h3
 obtain ⟨d,rfl,_⟩:=a1u (k:=.i64) (by kernel_rfl) h4
 obtain ⟨e,rfl,_⟩:=a1u (k:=.i64) (by kernel_rfl) h5
 exact ⟨⟨a,b,c,d,e⟩,rfl⟩
theorem c3j {n:Nat} {ps:List PV} (h:a1m Try.prog n 83 ps):∃ x:Bd,ps=x.row/\loI .i64<=x.b/\x.b<=hiI .i64/\loI .i64<=x.p/\x.p<=hiI .i64:=by
 obtain ⟨m,_,h⟩:=a3V Try.underlying83 h
 simp only [List.map_cons,List.map_nil,a3x] at h
 obtain ⟨_,_,rfl,h1,_,_,rfl,h2,_,_,rfl,h3,_,_,rfl,h4,rfl⟩:=h
 obtain ⟨a,rfl⟩:=b5T (by kernel_rfl) h1
 obtain ⟨b,rfl,_⟩:=a1u (k:=.i64) (by kernel_rfl) h2
 obtain ⟨c,rfl,c1,c2⟩:=a1u (k:=.i64) (by kernel_rfl) h3
 obtain ⟨d,rfl,d1,d2⟩:=a1u (k:=.i64) (by kernel_rfl) h4
 exact ⟨⟨a,b,c,d⟩,rfl,c1,c2,d1,d2⟩
theorem a5c {α:Type} {row:α->List PV} {P:Program} {n:Nat} {t:TypeId} (h1:∀ ps,a1m P n t ps->∃ x:α,ps=row x):∀ (rows:List (List PV)),(∀ r∈rows,a1m P n t r)->∃ l:List α,rows=l.map row
 | [],_=>⟨[],rfl⟩
 | r::rows,h=>by
  obtain ⟨x,rfl⟩:=h1 r (h r (by simp))
  obtain ⟨l,rfl⟩:=a5c h1 rows (fun q hq=>h q (by simp [hq]))
  exact ⟨x::l,rfl⟩
structure St where
 (ps:List Pr) (bs:List Bd) (P B C A:PV)
structure St.Ok (s:St):Prop where
 P:s.P.rowsOf 5=some (s.ps.map Pr.row)
 B:s.B.rowsOf 4=some (s.bs.map Bd.row)
 C:s.C.one=true
 A:s.A.one=true
def St.pv (s:St):List PV:=[s.P,s.B,s.C,s.A]
theorem a1J {l:List Bd} {i:Nat} {x:Bd} (h:l[i]?=some x):(l.map Bd.row)[i]?=some x.row:=by simp [h]
end Go.Proofs.Ytflcopaopimlpaa
set_option maxRecDepth 100000
namespace Go.Proofs.Ytflcopaopimlpaa
open Go.Sx
def a5C (z:Int):Bool:=leB 97 z&&leB z 122
def b2h (z:Int):Bool:=leB 48 z&&leB z 57
def b4X (z:Int):Bool:=a5C z||(b2h z||eqB z 95)
def innC (c:UInt8):Bool:=b4X (c.toNat:Int)
theorem a4v {l:List UInt8} {i:Nat} {c:UInt8} (h:l[i]?=some c):PV.sAt (.str l) (i:Int)=(c.toNat:Int):=by simp [PV.sAt,h]
theorem a1B (l:List UInt8):PV.sLen (.str l)=(l.length:Int):=rfl
theorem is3 (l:List UInt8):PV.isKind 3 (.str l)=true:=rfl
theorem a1G (l:List UInt8):PV.one (.str l)=true:=rfl
theorem c2J (f:Nat) (l:List PV):PV.one (.fn f l)=true:=rfl
theorem a6a (a b:List UInt8):PV.sEq (.str a) (.str b)=decide (a=b):=rfl
theorem c2Z (a b:List UInt8):PV.sIs b (.str a)=decide (a=b):=rfl
theorem c1s (c:UInt8):(0:Int)<=(c.toNat:Int)/\(c.toNat:Int)<=255:=by have:=c.toNat_lt; omega
theorem b6C (σ:List MO) (z:Int) (n:Nat) (hn:1<=n):a0B Tab n a7j [.int .i32 z] σ=some (.bool (a5C z),σ):=by
 obtain ⟨n,rfl⟩:∃ k,n=k+1:=⟨n-1,by omega⟩
 simp only [a0B,b5e,Q0,Sys.run]
 show ((a0E [.sh (.one _)] _).bind _)=_
 simp -implicitDefEqProofs only [a0E,a0x,a0w,Q3,Q0,Q4,Q1,Q5,if_true]
 show (PT.ev _ a7v _).bind _=_
 simp -implicitDefEqProofs only [a7v,↓reduceIte,eq_self,ZF,ZG,ZH,ZI,ZJ,ZK,ZL,ZM,ZN,ZO,ZP,ZQ,ZR,ZS,ZT,ZU,ZV,ZW,ZX,ZY,Z2,Z3,Z4,Z5,Z6,Z7,Z8,Z9,Za,Zb,Zc,Zd,Ze,Zf,Zg,Zh,Nat.reduceAdd,Zi,if_true,if_false,Zl,Zm,Zn,Zo,Zp,Zq,Zr,Zs,Zt,Zu,Zv,Zw,Zx,Zy,Zz,ZA,ZB,ZC,ZD,ZE,a5C]
 cases leB 97 z<;>simp -implicitDefEqProofs only [↓reduceIte,eq_self,ZF,ZG,ZH,ZI,ZJ,ZK,ZL,ZM,ZN,ZO,ZP,ZQ,ZR,ZS,ZT,ZU,ZV,ZW,ZX,ZY,Z2,Z3,Z4,Z5,Z6,Z7,Z8,Z9,Za,Zb,Zc,Zd,Ze,Zf,Zg,Zh,Nat.reduceAdd,Zi,if_true,if_false,Zl,Zm,Zn,Zo,Zp,Zq,Zr,Zs,Zt,Zu,Zv,Zw,Zx,Zy,Zz,ZA,ZB,ZC,ZD,ZE,a0D,or_true,Q6,Q9]
theorem c2X (σ:List MO) (z:Int) (n:Nat) (hn:1<=n):a0B Tab n b2J [.int .i32 z] σ=some (.bool (b2h z),σ):=by
 obtain ⟨n,rfl⟩:∃ k,n=k+1:=⟨n-1,by omega⟩
 simp only [a0B,b6i,Q0,Sys.run]
 show ((a0E [.sh (.one _)] _).bind _)=_
 simp -implicitDefEqProofs only [a0E,a0x,a0w,Q3,Q0,Q4,Q1,Q5,if_true]
 show (PT.ev _ a8a _).bind _=_
 simp -implicitDefEqProofs only [a8a,↓reduceIte,eq_self,ZF,ZG,ZH,ZI,ZJ,ZK,ZL,ZM,ZN,ZO,ZP,ZQ,ZR,ZS,ZT,ZU,ZV,ZW,ZX,ZY,Z2,Z3,Z4,Z5,Z6,Z7,Z8,Z9,Za,Zb,Zc,Zd,Ze,Zf,Zg,Zh,Nat.reduceAdd,Zi,if_true,if_false,Zl,Zm,Zn,Zo,Zp,Zq,Zr,Zs,Zt,Zu,Zv,Zw,Zx,Zy,Zz,ZA,ZB,ZC,ZD,ZE,b2h]
 cases leB 48 z<;>simp -implicitDefEqProofs only [↓reduceIte,eq_self,ZF,ZG,ZH,ZI,ZJ,ZK,ZL,ZM,ZN,ZO,ZP,ZQ,ZR,ZS,ZT,ZU,ZV,ZW,ZX,ZY,Z2,Z3,Z4,Z5,Z6,Z7,Z8,Z9,Za,Zb,Zc,Zd,Ze,Zf,Zg,Zh,Nat.reduceAdd,Zi,if_true,if_false,Zl,Zm,Zn,Zo,Zp,Zq,Zr,Zs,Zt,Zu,Zv,Zw,Zx,Zy,Zz,ZA,ZB,ZC,ZD,ZE,a0D,or_true,Q6,Q9]
theorem c3t (σ:List MO) (z:Int) (n:Nat) (hn:2<=n):a0B Tab n a3y [.int .i32 z] σ=some (.bool (b4X z),σ):=by
 obtain ⟨n,rfl⟩:∃ k,n=k+1:=⟨n-1,by omega⟩
 have c1:=b6C σ z n (by omega)
 have c2:=c2X σ z n (by omega)
 simp only [a7j,b2J] at c1 c2
 simp only [a0B,b6Q,Q0,Sys.run]
 show ((a0E [.sh (.one _)] _).bind _)=_
 simp -implicitDefEqProofs only [a0E,a0x,a0w,Q3,Q0,Q4,Q1,Q5,if_true]
 show (PT.ev _ a8c _).bind _=_
 simp -implicitDefEqProofs only [a8c,↓reduceIte,eq_self,ZF,ZG,ZH,ZI,ZJ,ZK,ZL,ZM,ZN,ZO,ZP,ZQ,ZR,ZS,ZT,ZU,ZV,ZW,ZX,ZY,Z2,Z3,Z4,Z5,Z6,Z7,Z8,Z9,Za,Zb,Zc,Zd,Ze,Zf,Zg,Zh,Nat.reduceAdd,Zi,if_true,if_false,Zl,Zm,Zn,Zo,Zp,Zq,Zr,Zs,Zt,Zu,Zv,Zw,Zx,Zy,Zz,ZA,ZB,ZC,ZD,ZE,c1,c2,b4X]
 cases a5C z
 ·simp -implicitDefEqProofs only [↓reduceIte,eq_self,ZF,ZG,ZH,ZI,ZJ,ZK,ZL,ZM,ZN,ZO,ZP,ZQ,ZR,ZS,ZT,ZU,ZV,ZW,ZX,ZY,Z2,Z3,Z4,Z5,Z6,Z7,Z8,Z9,Za,Zb,Zc,Zd,Ze,Zf,Zg,Zh,Nat.reduceAdd,Zi,if_true,if_false,Zl,Zm,Zn,Zo,Zp,Zq,Zr,Zs,Zt,Zu,Zv,Zw,Zx,Zy,Zz,ZA,ZB,ZC,ZD,ZE,c2,Qd]
  cases b2h z<;>simp -implicitDefEqProofs only [↓reduceIte,eq_self,ZF,ZG,ZH,ZI,ZJ,ZK,ZL,ZM,ZN,ZO,ZP,ZQ,ZR,ZS,ZT,ZU,ZV,ZW,ZX,ZY,Z2,Z3,Z4,Z5,Z6,Z7,Z8,Z9,Za,Zb,Zc,Zd,Ze,Zf,Zg,Zh,Nat.reduceAdd,Zi,if_true,if_false,Zl,Zm,Zn,Zo,Zp,Zq,Zr,Zs,Zt,Zu,Zv,Zw,Zx,Zy,Zz,ZA,ZB,ZC,ZD,ZE,a0D,or_true,Qa,Qd]
 ·simp -implicitDefEqProofs only [↓reduceIte,eq_self,ZF,ZG,ZH,ZI,ZJ,ZK,ZL,ZM,ZN,ZO,ZP,ZQ,ZR,ZS,ZT,ZU,ZV,ZW,ZX,ZY,Z2,Z3,Z4,Z5,Z6,Z7,Z8,Z9,Za,Zb,Zc,Zd,Ze,Zf,Zg,Zh,Nat.reduceAdd,Zi,if_true,if_false,Zl,Zm,Zn,Zo,Zp,Zq,Zr,Zs,Zt,Zu,Zv,Zw,Zx,Zy,Zz,ZA,ZB,ZC,ZD,ZE,a0D,or_true,Qa]
theorem a9Q {α:Type} {p:α->Bool} {l:List α} {i:Nat} {c:α} (h:l[i]?=some c) (hc:p c=true):(l.drop i).takeWhile p=c::(l.drop (i+1)).takeWhile p:=by
 rw [a5x h,Qm,if_pos hc]
theorem b1b {α:Type} {p:α->Bool} {l:List α} {i:Nat} {c:α} (h:l[i]?=some c) (hc:p c=false):(l.drop i).takeWhile p=[]:=by
 rw [a5x h,Qm,hc]; rfl
theorem c5S (σ:List MO) (l:List UInt8) (hl:l.length<=12) (n:Nat) (hn:20<=n):a0B Tab n b4y [.str l,.int .i64 0,.fn a3y []] σ=some (.str (l.takeWhile innC),σ):=by
 obtain ⟨n,rfl⟩:∃ k,n=k+1:=⟨n-1,by omega⟩
 have loop:∀ d i,i+d=l.length->∀ fuel,lexer_run_S.loop (a0B Tab n) (fuel+d+1) 0 { i:=[0,(i:Int)],b:=[],v:=[.str l,.fn a3y []],m:=σ,k:=σ.length }=some (.str (l.take i++(l.drop i).takeWhile innC),σ):=by
  intro d
  induction d with
  | zero =>
   intro i hi fuel
   rw [Qe] at hi; subst hi
   have hd:decide (l.length < l.length)=false:=by simp
   rw [Sys.loop,show lexer_run_S.loops[0]?=some a4s from rfl,Qn]
   have hc:(0:Int)<=0/\(0:Int)<=(l.length:Int)/\(l.length:Int)<=(l.length:Int):=by omega
   simp -implicitDefEqProofs only [Q0,a4s,↓reduceIte,eq_self,ZF,ZG,ZH,ZI,ZJ,ZK,ZL,ZM,ZN,ZO,ZP,ZQ,ZR,ZS,ZT,ZU,ZV,ZW,ZX,ZY,Z2,Z3,Z4,Z5,Z6,Z7,Z8,Z9,Za,Zb,Zc,Zd,Ze,Zf,Zg,Zh,Nat.reduceAdd,Zi,if_true,if_false,Zl,Zm,Zn,Zo,Zp,Zq,Zr,Zs,Zt,Zu,Zv,Zw,Zx,Zy,Zz,ZA,ZB,ZC,ZD,ZE,is3,a1B,a0F,hd,a2k,a2i,if_pos hc,a0D,or_true,Qq,a8Z,List.takeWhile_nil,Int.toNat_zero]
  | succ d ih =>
   intro i hi fuel
   have hlt:i < l.length:=by omega
   obtain ⟨c,hc⟩:=a0W hlt
   have hd:decide (i < l.length)=true:=decide_eq_true hlt
   have hu:=c1s c
   have e32:(leB (-2147483648) (c.toNat:Int)&&leB (c.toNat:Int) 2147483647)=true:=by simp [leB]; omega
   have c1:=c3t σ (c.toNat:Int) n (by omega)
   have hup:=a1y (show i<=1000000000 by omega)
   simp only [a3y] at c1
   rw [Sys.loop,show lexer_run_S.loops[0]?=some a4s from rfl]
   cases hi2:innC c with
   | true =>
    have hi3:b4X (c.toNat:Int)=true:=hi2
    rw [hi3] at c1
    have ih:=ih (i+1) (by omega) fuel
    rw [a0Q] at ih
    simp -implicitDefEqProofs only [Q0,a4s,↓reduceIte,eq_self,ZF,ZG,ZH,ZI,ZJ,ZK,ZL,ZM,ZN,ZO,ZP,ZQ,ZR,ZS,ZT,ZU,ZV,ZW,ZX,ZY,Z2,Z3,Z4,Z5,Z6,Z7,Z8,Z9,Za,Zb,Zc,Zd,Ze,Zf,Zg,Zh,Nat.reduceAdd,Zi,if_true,if_false,Zl,Zm,Zn,Zo,Zp,Zq,Zr,Zs,Zt,Zu,Zv,Zw,Zx,Zy,Zz,ZA,ZB,ZC,ZD,ZE,is3,a1B,a0F,hd,le0,a4v hc,e32,a3y,c1,if_pos hup]
    rw [a9Q hc hi2,show l.take i++c::(l.drop (i+1)).takeWhile innC=l.take (i+1)++(l.drop (i+1)).takeWhile innC by rw [Qp,hc]; simp]
    exact ih
   | false =>
    have hi3:b4X (c.toNat:Int)=false:=hi2
    rw [hi3] at c1
    have hcc:(0:Int)<=0/\(0:Int)<=(i:Int)/\(i:Int)<=(l.length:Int):=by omega
    simp -implicitDefEqProofs only [Q0,a4s,↓reduceIte,eq_self,ZF,ZG,ZH,ZI,ZJ,ZK,ZL,ZM,ZN,ZO,ZP,ZQ,ZR,ZS,ZT,ZU,ZV,ZW,ZX,ZY,Z2,Z3,Z4,Z5,Z6,Z7,Z8,Z9,Za,Zb,Zc,Zd,Ze,Zf,Zg,Zh,Nat.reduceAdd,Zi,if_true,if_false,Zl,Zm,Zn,Zo,Zp,Zq,Zr,Zs,Zt,Zu,Zv,Zw,Zx,Zy,Zz,ZA,ZB,ZC,ZD,ZE,is3,a1B,a0F,hd,le0,a4v hc,e32,a3y,c1,a2k,a2i,if_pos hcc,a0D,or_true,Qq,b1b hc hi2,Int.toNat_zero]
 have:=loop l.length 0 (by omega) (n-l.length-1)
 rw [show n-l.length-1+l.length+1=n by omega,Qr,Qg,Q1] at this
 simp only [a0B,b8t,Q0,Sys.run]
 show ((a0E [.sh (.one _),.sh (.one _),.sh (.one _)] _).bind _)=_
 simp -implicitDefEqProofs only [a0E,a0x,a0w,Q3,Q0,Q4,Q1,Q5,if_true,a1G,c2J]
 show (PT.ev _ b0J _).bind _=_
 simp -implicitDefEqProofs only [b0J,↓reduceIte,eq_self,ZF,ZG,ZH,ZI,ZJ,ZK,ZL,ZM,ZN,ZO,ZP,ZQ,ZR,ZS,ZT,ZU,ZV,ZW,ZX,ZY,Z2,Z3,Z4,Z5,Z6,Z7,Z8,Z9,Za,Zb,Zc,Zd,Ze,Zf,Zg,Zh,Nat.reduceAdd,Zi,if_true,if_false,Zl,Zm,Zn,Zo,Zp,Zq,Zr,Zs,Zt,Zu,Zv,Zw,Zx,Zy,Zz,ZA,ZB,ZC,ZD,ZE]
 exact this
def a4m (l:List UInt8):Bool:=decide (1<=l.length)&&(decide (l.length<=12)&&(a5C (PV.sAt (.str l) 0)&&l.all innC))
theorem a6W {α:Type} (p:α->Bool):∀ l:List α,(l.takeWhile p=l)↔l.all p=true
 | []=>by simp
 | a::l=>by
  have ih:=a6W p l
  rw [Qm]
  cases h:p a<;>simp [h,ih]
theorem b7F (σ:List MO) (l:List UInt8) (n:Nat) (hn:30<=n):a0B Tab n a7u [.str l] σ=some (.bool (a4m l),σ):=by
 obtain ⟨n,rfl⟩:∃ k,n=k+1:=⟨n-1,by omega⟩
 simp only [a0B,b5z,Q0,Sys.run]
 show ((a0E [.sh (.one _)] _).bind _)=_
 simp -implicitDefEqProofs only [a0E,a0x,a0w,Q3,Q0,Q4,Q1,Q5,if_true]
 show (PT.ev _ a7p _).bind _=_
 simp -implicitDefEqProofs only [a7p,↓reduceIte,eq_self,ZF,ZG,ZH,ZI,ZJ,ZK,ZL,ZM,ZN,ZO,ZP,ZQ,ZR,ZS,ZT,ZU,ZV,ZW,ZX,ZY,Z2,Z3,Z4,Z5,Z6,Z7,Z8,Z9,Za,Zb,Zc,Zd,Ze,Zf,Zg,Zh,Nat.reduceAdd,Zi,if_true,if_false,Zl,Zm,Zn,Zo,Zp,Zq,Zr,Zs,Zt,Zu,Zv,Zw,Zx,Zy,Zz,ZA,ZB,ZC,ZD,ZE,is3,c2Z,a1B]
 cases l with
 | nil=>simp -implicitDefEqProofs only [↓reduceIte,eq_self,ZF,ZG,ZH,ZI,ZJ,ZK,ZL,ZM,ZN,ZO,ZP,ZQ,ZR,ZS,ZT,ZU,ZV,ZW,ZX,ZY,Z2,Z3,Z4,Z5,Z6,Z7,Z8,Z9,Za,Zb,Zc,Zd,Ze,Zf,Zg,Zh,Nat.reduceAdd,Zi,if_true,if_false,Zl,Zm,Zn,Zo,Zp,Zq,Zr,Zs,Zt,Zu,Zv,Zw,Zx,Zy,Zz,ZA,ZB,ZC,ZD,ZE,decide_true,Bool.not_true,a0D,or_true,a4m]; rfl
 | cons c l =>
  have h0:decide (c::l=[])=false:=by simp
  have hlen:decide (1<=(c::l).length)=true:=by simp
  have hp:ltB 0 ((c::l).length:Int)=true:=by rw [a0U]; simp
  have sa:PV.sAt (.str (c::l)) 0=(c.toNat:Int):=rfl
  rw [h0]
  unfold a4m
  rw [hlen,Q6,sa]
  generalize hl:c::l=L at *
  by_cases h12:L.length<=12
  ·have h1:leB (L.length:Int) 12=true:=by rw [a2n]; omega
   have hu:=c1s c
   have e32:(leB (-2147483648) (c.toNat:Int)&&leB (c.toNat:Int) 2147483647)=true:=by simp [leB]; omega
   have c1:=b6C σ (c.toNat:Int) n (by omega)
   have c2:=c5S σ L h12 n (by omega)
   simp only [a7j,b4y,a3y] at c1 c2
   rw [decide_eq_true h12]
   cases hlo:a5C (c.toNat:Int) with
   | false =>
    rw [hlo] at c1
    simp -implicitDefEqProofs only [↓reduceIte,eq_self,ZF,ZG,ZH,ZI,ZJ,ZK,ZL,ZM,ZN,ZO,ZP,ZQ,ZR,ZS,ZT,ZU,ZV,ZW,ZX,ZY,Z2,Z3,Z4,Z5,Z6,Z7,Z8,Z9,Za,Zb,Zc,Zd,Ze,Zf,Zg,Zh,Nat.reduceAdd,Zi,if_true,if_false,Zl,Zm,Zn,Zo,Zp,Zq,Zr,Zs,Zt,Zu,Zv,Zw,Zx,Zy,Zz,ZA,ZB,ZC,ZD,ZE,is3,a1B,h1,hp,sa,e32,c1,a0D,or_true,Q6,Q9]
   | true =>
    rw [hlo] at c1
    simp -implicitDefEqProofs only [↓reduceIte,eq_self,ZF,ZG,ZH,ZI,ZJ,ZK,ZL,ZM,ZN,ZO,ZP,ZQ,ZR,ZS,ZT,ZU,ZV,ZW,ZX,ZY,Z2,Z3,Z4,Z5,Z6,Z7,Z8,Z9,Za,Zb,Zc,Zd,Ze,Zf,Zg,Zh,Nat.reduceAdd,Zi,if_true,if_false,Zl,Zm,Zn,Zo,Zp,Zq,Zr,Zs,Zt,Zu,Zv,Zw,Zx,Zy,Zz,ZA,ZB,ZC,ZD,ZE,is3,a1B,h1,hp,sa,e32,c1,c2,a1G,a6a,a0D,or_true,Q6]
    rw [show decide (L.takeWhile innC=L)=L.all innC by rw [Qh,decide_eq_true_iff]; exact a6W _ _]
  ·have h1:leB (L.length:Int) 12=false:=by rw [a3H]; omega
   rw [decide_eq_false h12]
   simp -implicitDefEqProofs only [↓reduceIte,eq_self,ZF,ZG,ZH,ZI,ZJ,ZK,ZL,ZM,ZN,ZO,ZP,ZQ,ZR,ZS,ZT,ZU,ZV,ZW,ZX,ZY,Z2,Z3,Z4,Z5,Z6,Z7,Z8,Z9,Za,Zb,Zc,Zd,Ze,Zf,Zg,Zh,Nat.reduceAdd,Zi,if_true,if_false,Zl,Zm,Zn,Zo,Zp,Zq,Zr,Zs,Zt,Zu,Zv,Zw,Zx,Zy,Zz,ZA,ZB,ZC,ZD,ZE,is3,a1B,h1,a0D,or_true,Q9]
theorem c2w (σ:List MO) (l:List UInt8) (n:Nat) (hn:30<=n):a0B Tab n a5W [.str l] σ=some (.bool (a4m l),σ):=by
 obtain ⟨n,rfl⟩:∃ k,n=k+1:=⟨n-1,by omega⟩
 simp only [a0B,a8R,Q0,Sys.run]
 show ((a0E [.sh (.one _)] _).bind _)=_
 simp -implicitDefEqProofs only [a0E,a0x,a0w,Q3,Q0,Q4,Q1,Q5,if_true]
 show (PT.ev _ a4j _).bind _=_
 simp -implicitDefEqProofs only [a4j,↓reduceIte,eq_self,ZF,ZG,ZH,ZI,ZJ,ZK,ZL,ZM,ZN,ZO,ZP,ZQ,ZR,ZS,ZT,ZU,ZV,ZW,ZX,ZY,Z2,Z3,Z4,Z5,Z6,Z7,Z8,Z9,Za,Zb,Zc,Zd,Ze,Zf,Zg,Zh,Nat.reduceAdd,Zi,if_true,if_false,Zl,Zm,Zn,Zo,Zp,Zq,Zr,Zs,Zt,Zu,Zv,Zw,Zx,Zy,Zz,ZA,ZB,ZC,ZD,ZE,is3,a1B]
 by_cases h0:l.length < 1
 ·have h1:ltB (l.length:Int) 1=true:=by rw [a0U]; omega
  simp -implicitDefEqProofs only [↓reduceIte,eq_self,ZF,ZG,ZH,ZI,ZJ,ZK,ZL,ZM,ZN,ZO,ZP,ZQ,ZR,ZS,ZT,ZU,ZV,ZW,ZX,ZY,Z2,Z3,Z4,Z5,Z6,Z7,Z8,Z9,Za,Zb,Zc,Zd,Ze,Zf,Zg,Zh,Nat.reduceAdd,Zi,if_true,if_false,Zl,Zm,Zn,Zo,Zp,Zq,Zr,Zs,Zt,Zu,Zv,Zw,Zx,Zy,Zz,ZA,ZB,ZC,ZD,ZE,is3,a1B,h1,a0D,or_true,a4m]
  rw [decide_eq_false (by omega)]; rfl
 have h1:ltB (l.length:Int) 1=false:=by rw [a0I]; omega
 by_cases h12:12 < l.length
 ·have h2:ltB 12 (l.length:Int)=true:=by rw [a0U]; omega
  simp -implicitDefEqProofs only [↓reduceIte,eq_self,ZF,ZG,ZH,ZI,ZJ,ZK,ZL,ZM,ZN,ZO,ZP,ZQ,ZR,ZS,ZT,ZU,ZV,ZW,ZX,ZY,Z2,Z3,Z4,Z5,Z6,Z7,Z8,Z9,Za,Zb,Zc,Zd,Ze,Zf,Zg,Zh,Nat.reduceAdd,Zi,if_true,if_false,Zl,Zm,Zn,Zo,Zp,Zq,Zr,Zs,Zt,Zu,Zv,Zw,Zx,Zy,Zz,ZA,ZB,ZC,ZD,ZE,is3,a1B,h1,h2,a0D,or_true,a4m]
  rw [decide_eq_false (by omega:¬ l.length<=12),Q9,Qs]
 have h2:ltB 12 (l.length:Int)=false:=by rw [a0I]; omega
 simp -implicitDefEqProofs only [↓reduceIte,eq_self,ZF,ZG,ZH,ZI,ZJ,ZK,ZL,ZM,ZN,ZO,ZP,ZQ,ZR,ZS,ZT,ZU,ZV,ZW,ZX,ZY,Z2,Z3,Z4,Z5,Z6,Z7,Z8,Z9,Za,Zb,Zc,Zd,Ze,Zf,Zg,Zh,Nat.reduceAdd,Zi,if_true,if_false,Zl,Zm,Zn,Zo,Zp,Zq,Zr,Zs,Zt,Zu,Zv,Zw,Zx,Zy,Zz,ZA,ZB,ZC,ZD,ZE,is3,a1B,h1,h2]
 have loop:∀ d i,i+d=l.length->∀ fuel,saleroomref08_IsName_S.loop (a0B Tab n) (fuel+d+1) 0 { i:=[(i:Int)],b:=[],v:=[.str l],m:=σ,k:=σ.length }=some (.bool ((decide (1<=i)||a5C (PV.sAt (.str l) 0))&&(l.drop i).all innC),σ):=by
  intro d
  induction d with
  | zero =>
   intro i hi fuel
   rw [Qe] at hi; subst hi
   have hd:decide (l.length < l.length)=false:=by simp
   rw [Sys.loop,show saleroomref08_IsName_S.loops[0]?=some a2m from rfl,Qn,decide_eq_true (by omega:1<=l.length)]
   simp -implicitDefEqProofs only [Q0,a2m,↓reduceIte,eq_self,ZF,ZG,ZH,ZI,ZJ,ZK,ZL,ZM,ZN,ZO,ZP,ZQ,ZR,ZS,ZT,ZU,ZV,ZW,ZX,ZY,Z2,Z3,Z4,Z5,Z6,Z7,Z8,Z9,Za,Zb,Zc,Zd,Ze,Zf,Zg,Zh,Nat.reduceAdd,Zi,if_true,if_false,Zl,Zm,Zn,Zo,Zp,Zq,Zr,Zs,Zt,Zu,Zv,Zw,Zx,Zy,Zz,ZA,ZB,ZC,ZD,ZE,is3,a1B,a0F,hd,a0D,or_true,Qa,List.all_nil]
  | succ d ih =>
   intro i hi fuel
   have hlt:i < l.length:=by omega
   obtain ⟨c,hc⟩:=a0W hlt
   have hd:decide (i < l.length)=true:=decide_eq_true hlt
   have hup:=a1y (show i<=1000000000 by omega)
   have ih:=ih (i+1) (by omega) fuel
   rw [a0Q,decide_eq_true (by omega:1<=i+1),Qa,Q6] at ih
   rw [a5x hc,List.all_cons,Sys.loop,show saleroomref08_IsName_S.loops[0]?=some a2m from rfl]
   have hz:eqB (i:Int) 0=decide (i=0):=by rw [Qh,decide_eq_true_iff,a8O]; omega
   have hA:PV.sAt (.str l) 0=PV.sAt (.str l) ((0:Nat):Int):=rfl
   rw [hA]
   simp -implicitDefEqProofs only [Q0,a2m,↓reduceIte,eq_self,ZF,ZG,ZH,ZI,ZJ,ZK,ZL,ZM,ZN,ZO,ZP,ZQ,ZR,ZS,ZT,ZU,ZV,ZW,ZX,ZY,Z2,Z3,Z4,Z5,Z6,Z7,Z8,Z9,Za,Zb,Zc,Zd,Ze,Zf,Zg,Zh,Nat.reduceAdd,Zi,if_true,if_false,Zl,Zm,Zn,Zo,Zp,Zq,Zr,Zs,Zt,Zu,Zv,Zw,Zx,Zy,Zz,ZA,ZB,ZC,ZD,ZE,is3,a1B,a0F,hd,le0,a4v hc,hz,innC,b4X,b2h]
   by_cases h0:i=0
   ·subst h0
    rw [a4v hc,show decide (1<=0)=false from rfl,Qd]
    generalize (Qf (0+1) l).all innC=rest at *
    cases g1:leB 97 (c.toNat:Int) with
    | false =>
     simp -implicitDefEqProofs only [a5C,g1,↓reduceIte,eq_self,ZF,ZG,ZH,ZI,ZJ,ZK,ZL,ZM,ZN,ZO,ZP,ZQ,ZR,ZS,ZT,ZU,ZV,ZW,ZX,ZY,Z2,Z3,Z4,Z5,Z6,Z7,Z8,Z9,Za,Zb,Zc,Zd,Ze,Zf,Zg,Zh,Nat.reduceAdd,Zi,if_true,if_false,Zl,Zm,Zn,Zo,Zp,Zq,Zr,Zs,Zt,Zu,Zv,Zw,Zx,Zy,Zz,ZA,ZB,ZC,ZD,ZE,decide_true,a0D,or_true,Q9]
    | true =>
     cases g2:leB (c.toNat:Int) 122 with
     | false=>simp -implicitDefEqProofs only [a5C,g1,g2,↓reduceIte,eq_self,ZF,ZG,ZH,ZI,ZJ,ZK,ZL,ZM,ZN,ZO,ZP,ZQ,ZR,ZS,ZT,ZU,ZV,ZW,ZX,ZY,Z2,Z3,Z4,Z5,Z6,Z7,Z8,Z9,Za,Zb,Zc,Zd,Ze,Zf,Zg,Zh,Nat.reduceAdd,Zi,if_true,if_false,Zl,Zm,Zn,Zo,Zp,Zq,Zr,Zs,Zt,Zu,Zv,Zw,Zx,Zy,Zz,ZA,ZB,ZC,ZD,ZE,is3,a1B,a0F,hd,le0,a4v hc,decide_true,a0D,or_true,Q9,Q6]
     | true =>
      simp -implicitDefEqProofs only [a5C,g1,g2,↓reduceIte,eq_self,ZF,ZG,ZH,ZI,ZJ,ZK,ZL,ZM,ZN,ZO,ZP,ZQ,ZR,ZS,ZT,ZU,ZV,ZW,ZX,ZY,Z2,Z3,Z4,Z5,Z6,Z7,Z8,Z9,Za,Zb,Zc,Zd,Ze,Zf,Zg,Zh,Nat.reduceAdd,Zi,if_true,if_false,Zl,Zm,Zn,Zo,Zp,Zq,Zr,Zs,Zt,Zu,Zv,Zw,Zx,Zy,Zz,ZA,ZB,ZC,ZD,ZE,is3,a1B,a0F,hd,le0,a4v hc,if_pos hup,Q6,Qa]
      exact ih
   ·rw [decide_eq_false h0,decide_eq_true (by omega:1<=i),Qa,Q6]
    generalize (Qf (i+1) l).all innC=rest at *
    have n57:ltB 57 (c.toNat:Int)=!leB (c.toNat:Int) 57:=by
     rw [Qh,a0U,Qt,a3H]; omega
    have n48:ltB (c.toNat:Int) 48=!leB 48 (c.toNat:Int):=by
     rw [Qh,a0U,Qt,a3H]; omega
    simp only [a5C]
    cases g1:leB 97 (c.toNat:Int)<;>cases g2:leB (c.toNat:Int) 122<;>cases g3:eqB (c.toNat:Int) 95<;>cases g4:leB 48 (c.toNat:Int)<;>cases g5:leB (c.toNat:Int) 57 <;>
     simp -implicitDefEqProofs only [n57,n48,g1,g2,g3,g4,g5,↓reduceIte,eq_self,ZF,ZG,ZH,ZI,ZJ,ZK,ZL,ZM,ZN,ZO,ZP,ZQ,ZR,ZS,ZT,ZU,ZV,ZW,ZX,ZY,Z2,Z3,Z4,Z5,Z6,Z7,Z8,Z9,Za,Zb,Zc,Zd,Ze,Zf,Zg,Zh,Nat.reduceAdd,Zi,if_true,if_false,Zl,Zm,Zn,Zo,Zp,Zq,Zr,Zs,Zt,Zu,Zv,Zw,Zx,Zy,Zz,ZA,ZB,ZC,ZD,ZE,is3,a1B,a0F,hd,le0,a4v hc,if_pos hup,decide_false,a0D,or_true,Q6,Q9,Qs,Bool.and_true,Qa,Bool.or_true,Qd] <;>
     exact ih
 have:=loop l.length 0 (by omega) (n-l.length-1)
 rw [show n-l.length-1+l.length+1=n by omega,Qg,show decide (1<=0)=false from rfl,Qd] at this
 unfold a4m
 rw [decide_eq_true (by omega:1<=l.length),decide_eq_true (by omega:l.length<=12),Q6,Q6]
 exact this
end Go.Proofs.Ytflcopaopimlpaa
set_option maxRecDepth 100000
namespace Go.Proofs.Ytflcopaopimlpaa
open Go.Sx
theorem a1l {l:List Pr} {i:Nat} {x:Pr} (h:l[i]?=some x):(l.map Pr.row)[i]?=some x.row:=by simp [h]
def Pr.rng (x:Pr):Prop:=1<=x.s/\x.s<=4/\0<=x.r/\x.r<=1000000/\0<=x.p/\x.p<=1000/\0<=x.g/\x.g<=4
instance (x:Pr):Decidable x.rng:=by unfold Pr.rng; infer_instance
def a4H (before:List Pr) (x:Pr):Int:=if a4m x.nm=true then (if (before.any fun y=>decide (y.nm=x.nm))=true then 7 else if x.rng then 0 else 4) else 5
def a2p (ps:List Pr):Int:=ps.foldl (fun n x=>n*(x.s+1)) 1
def c1p (ps:List Pr):Int:=if ltB 1024 (a2p ps)=true then 12 else 0
def pgo (ps:List Pr):Nat->Nat->Int
 | 0,_=>c1p ps
 | d+1,i=>match ps[i]? with
  | some x=>if a4H (ps.take i) x=0 then pgo ps d (i+1) else a4H (ps.take i) x
  | none=>0
def a6j (ps:List Pr):Int:=if eqB (ps.length:Int) 0=true then 1 else if ltB 6 (ps.length:Int)=true then 3 else pgo ps ps.length 0
theorem a7C (σ:List MO) (z a b:Int) (n:Nat) (hn:1<=n):a0B Tab n a8g [.int .i64 z,.int .i64 a,.int .i64 b] σ=some (.bool (leB a z&&leB z b),σ):=by
 obtain ⟨n,rfl⟩:∃ k,n=k+1:=⟨n-1,by omega⟩
 simp only [a0B,b2K,Q0,Sys.run]
 show ((a0E [.sh (.one _),.sh (.one _),.sh (.one _)] _).bind _)=_
 simp -implicitDefEqProofs only [a0E,a0x,a0w,Q3,Q0,Q4,Q1,Q5,if_true]
 show (PT.ev _ a5V _).bind _=_
 simp -implicitDefEqProofs only [a5V,↓reduceIte,eq_self,ZF,ZG,ZH,ZI,ZJ,ZK,ZL,ZM,ZN,ZO,ZP,ZQ,ZR,ZS,ZT,ZU,ZV,ZW,ZX,ZY,Z2,Z3,Z4,Z5,Z6,Z7,Z8,Z9,Za,Zb,Zc,Zd,Ze,Zf,Zg,Zh,Nat.reduceAdd,Zi,if_true,if_false,Zl,Zm,Zn,Zo,Zp,Zq,Zr,Zs,Zt,Zu,Zv,Zw,Zx,Zy,Zz,ZA,ZB,ZC,ZD,ZE]
 cases leB a z<;>simp -implicitDefEqProofs only [↓reduceIte,eq_self,ZF,ZG,ZH,ZI,ZJ,ZK,ZL,ZM,ZN,ZO,ZP,ZQ,ZR,ZS,ZT,ZU,ZV,ZW,ZX,ZY,Z2,Z3,Z4,Z5,Z6,Z7,Z8,Z9,Za,Zb,Zc,Zd,Ze,Zf,Zg,Zh,Nat.reduceAdd,Zi,if_true,if_false,Zl,Zm,Zn,Zo,Zp,Zq,Zr,Zs,Zt,Zu,Zv,Zw,Zx,Zy,Zz,ZA,ZB,ZC,ZD,ZE,a0D,or_true,Q6,Q9]
theorem c5g (σ:List MO) (l:List Pr) (P:PV) (hP:P.rowsOf 5=some (l.map Pr.row)) (hl:l.length<=1000000) (nm:List UInt8) (n:Nat) (hn:l.length+2<=n) :
  ∃ k:Int,a0B Tab n b1n [P,.str nm] σ=some (.tup [.int .i64 k,.bool (l.any fun x=>decide (x.nm=nm))],σ):=by
 obtain ⟨n,rfl⟩:∃ k,n=k+1:=⟨n-1,by omega⟩
 obtain ⟨p1,p2,p3⟩:=a0C hP
 rw [Q2] at p1
 have loop:∀ d i,i+d=l.length->∃ k:Int,∀ fuel,catalog_Find_S.loop (a0B Tab n) (fuel+d+1) 0 { i:=[(l.length:Int),(i:Int)],b:=[],v:=[.str nm,P],m:=σ,k:=σ.length }=some (.tup [.int .i64 k,.bool ((l.drop i).any fun x=>decide (x.nm=nm))],σ):=by
  intro d
  induction d with
  | zero =>
   intro i hi
   rw [Qe] at hi; subst hi
   refine ⟨0,fun fuel=>?_⟩
   have hd:decide (l.length < l.length)=false:=by simp
   rw [Sys.loop,show catalog_Find_S.loops[0]?=some a2N from rfl,Qn]
   simp -implicitDefEqProofs only [Q0,a2N,↓reduceIte,eq_self,ZF,ZG,ZH,ZI,ZJ,ZK,ZL,ZM,ZN,ZO,ZP,ZQ,ZR,ZS,ZT,ZU,ZV,ZW,ZX,ZY,Z2,Z3,Z4,Z5,Z6,Z7,Z8,Z9,Za,Zb,Zc,Zd,Ze,Zf,Zg,Zh,Nat.reduceAdd,Zi,if_true,if_false,Zl,Zm,Zn,Zo,Zp,Zq,Zr,Zs,Zt,Zu,Zv,Zw,Zx,Zy,Zz,ZA,ZB,ZC,ZD,ZE,a0F,hd,a0D,or_true,List.any_nil]
  | succ d ih =>
   intro i hi
   have hlt:i < l.length:=by omega
   obtain ⟨x,hx⟩:=a0W hlt
   have hd:decide (i < l.length)=true:=decide_eq_true hlt
   have h0:=a0G (off:=0) hP (a1l hx)
   have hup:=a1y (show i<=1000000000 by omega)
   rw [a5x hx,List.any_cons]
   by_cases hn:x.nm=nm
   ·refine ⟨i,fun fuel=>?_⟩
    rw [decide_eq_true hn,Qa,Sys.loop,show catalog_Find_S.loops[0]?=some a2N from rfl]
    simp -implicitDefEqProofs only [Q0,a2N,↓reduceIte,eq_self,ZF,ZG,ZH,ZI,ZJ,ZK,ZL,ZM,ZN,ZO,ZP,ZQ,ZR,ZS,ZT,ZU,ZV,ZW,ZX,ZY,Z2,Z3,Z4,Z5,Z6,Z7,Z8,Z9,Za,Zb,Zc,Zd,Ze,Zf,Zg,Zh,Nat.reduceAdd,Zi,if_true,if_false,Zl,Zm,Zn,Zo,Zp,Zq,Zr,Zs,Zt,Zu,Zv,Zw,Zx,Zy,Zz,ZA,ZB,ZC,ZD,ZE,p1,a0F,hd,le0,h0,a2l,a1G,is3,a6a,decide_eq_true hn,a0D,or_true]
   ·obtain ⟨k,ih⟩:=ih (i+1) (by omega)
    refine ⟨k,fun fuel=>?_⟩
    have ih:=ih fuel
    rw [a0Q] at ih
    rw [decide_eq_false hn,Qd,Sys.loop,show catalog_Find_S.loops[0]?=some a2N from rfl]
    simp -implicitDefEqProofs only [Q0,a2N,↓reduceIte,eq_self,ZF,ZG,ZH,ZI,ZJ,ZK,ZL,ZM,ZN,ZO,ZP,ZQ,ZR,ZS,ZT,ZU,ZV,ZW,ZX,ZY,Z2,Z3,Z4,Z5,Z6,Z7,Z8,Z9,Za,Zb,Zc,Zd,Ze,Zf,Zg,Zh,Nat.reduceAdd,Zi,if_true,if_false,Zl,Zm,Zn,Zo,Zp,Zq,Zr,Zs,Zt,Zu,Zv,Zw,Zx,Zy,Zz,ZA,ZB,ZC,ZD,ZE,p1,a0F,hd,le0,h0,a2l,a1G,is3,a6a,decide_eq_false hn,if_pos hup]
    exact ih
 obtain ⟨k,hk⟩:=loop l.length 0 (by omega)
 have:=hk (n-l.length-1)
 rw [show n-l.length-1+l.length+1=n by omega,Qg] at this
 refine ⟨k,?_⟩
 simp only [a0B,b5C,Q0,Sys.run]
 show ((a0E [.sh (.one _),.sh (.one _)] _).bind _)=_
 simp -implicitDefEqProofs only [a0E,a0x,a0w,Q3,Q0,Q4,Q1,Q5,if_true,p3,a1G]
 show (PT.ev _ a7w _).bind _=_
 simp -implicitDefEqProofs only [a7w,↓reduceIte,eq_self,ZF,ZG,ZH,ZI,ZJ,ZK,ZL,ZM,ZN,ZO,ZP,ZQ,ZR,ZS,ZT,ZU,ZV,ZW,ZX,ZY,Z2,Z3,Z4,Z5,Z6,Z7,Z8,Z9,Za,Zb,Zc,Zd,Ze,Zf,Zg,Zh,Nat.reduceAdd,Zi,if_true,if_false,Zl,Zm,Zn,Zo,Zp,Zq,Zr,Zs,Zt,Zu,Zv,Zw,Zx,Zy,Zz,ZA,ZB,ZC,ZD,ZE,p1,p2]
 exact this
def a1T (l:List Pr):W6:=⟨((l.map Pr.s)[0]?).getD 0,((l.map Pr.s)[1]?).getD 0,((l.map Pr.s)[2]?).getD 0,((l.map Pr.s)[3]?).getD 0,((l.map Pr.s)[4]?).getD 0,((l.map Pr.s)[5]?).getD 0⟩
def b3W (P:PV) (σ:List MO) (N i:Nat) (w:W6):PEnv:={ i:=[(N:Int),(i:Int),w.a,w.b,w.c,w.d,w.e,w.f],b:=[],v:=[P],m:=σ,k:=σ.length }
theorem b1M (σ:List MO) (l:List Pr) (P:PV) (hP:P.rowsOf 5=some (l.map Pr.row)) (hl:l.length<=6) (n:Nat) (hn:10<=n):a0B Tab n a4M [P] σ=some (.agg (a1T l).pv,σ):=by
 obtain ⟨n,rfl⟩:∃ k,n=k+1:=⟨n-1,by omega⟩
 obtain ⟨p1,p2,p3⟩:=a0C hP
 rw [Q2] at p1
 have step:∀ i x,l[i]?=some x->∀ fuel (w:W6),catalog_Supply_S.loop (a0B Tab n) (fuel+1) 0 (b3W P σ l.length i w)=catalog_Supply_S.loop (a0B Tab n) fuel 0 (b3W P σ l.length (i+1) (match i with | 0=>{ w with a:=x.s } | 1=>{ w with b:=x.s } | 2=>{ w with c:=x.s } | 3=>{ w with d:=x.s } | 4=>{ w with e:=x.s } | _=>{ w with f:=x.s })):=by
  intro i x hx fuel w
  have hlt:i < l.length:=(Qb.1 hx).1
  have hd:decide (i < l.length)=true:=decide_eq_true hlt
  have h0:=a0G (off:=0) hP (a1l hx)
  rw [Sys.loop,show catalog_Supply_S.loops[0]?=some a3C from rfl]
  simp only [b3W]
  simp -implicitDefEqProofs only [Q0,a3C,↓reduceIte,eq_self,ZF,ZG,ZH,ZI,ZJ,ZK,ZL,ZM,ZN,ZO,ZP,ZQ,ZR,ZS,ZT,ZU,ZV,ZW,ZX,ZY,Z2,Z3,Z4,Z5,Z6,Z7,Z8,Z9,Za,Zb,Zc,Zd,Ze,Zf,Zg,Zh,Nat.reduceAdd,Zi,if_true,if_false,Zl,Zm,Zn,Zo,Zp,Zq,Zr,Zs,Zt,Zu,Zv,Zw,Zx,Zy,Zz,ZA,ZB,ZC,ZD,ZE,p1,a0F,hd,le0,h0,a2l,a1G]
  obtain rfl | rfl | rfl | rfl | rfl | rfl:i=0\/i=1\/i=2\/i=3\/i=4\/i=5:=by omega
  all_goals rfl
 have fin:∀ fuel (w:W6),catalog_Supply_S.loop (a0B Tab n) (fuel+1) 0 (b3W P σ l.length l.length w)=some (.agg w.pv,σ):=by
  intro fuel w
  have hd:decide (l.length < l.length)=false:=by simp
  rw [Sys.loop,show catalog_Supply_S.loops[0]?=some a3C from rfl]
  simp only [b3W]
  simp -implicitDefEqProofs only [Q0,a3C,↓reduceIte,eq_self,ZF,ZG,ZH,ZI,ZJ,ZK,ZL,ZM,ZN,ZO,ZP,ZQ,ZR,ZS,ZT,ZU,ZV,ZW,ZX,ZY,Z2,Z3,Z4,Z5,Z6,Z7,Z8,Z9,Za,Zb,Zc,Zd,Ze,Zf,Zg,Zh,Nat.reduceAdd,Zi,if_true,if_false,Zl,Zm,Zn,Zo,Zp,Zq,Zr,Zs,Zt,Zu,Zv,Zw,Zx,Zy,Zz,ZA,ZB,ZC,ZD,ZE,a0F,hd,a0D,or_true,W6.pv]
 have key:catalog_Supply_S.loop (a0B Tab n) n 0 (b3W P σ l.length 0 ⟨0,0,0,0,0,0⟩)=some (.agg (a1T l).pv,σ):=by
  obtain ⟨m,rfl⟩:∃ m,n=m+7:=⟨n-7,by omega⟩
  have g:∀ k,k < l.length->∃ x,l[k]?=some x:=fun k hk=>a0W hk
  rcases l with _ | ⟨a,_ | ⟨b,_ | ⟨c,_ | ⟨d,_ | ⟨e,_ | ⟨f,_ | ⟨z,r⟩⟩⟩⟩⟩⟩⟩
  ·exact fin _ _
  ·rw [step 0 a rfl]; exact fin _ _
  ·rw [step 0 a rfl,step 1 b rfl]; exact fin _ _
  ·rw [step 0 a rfl,step 1 b rfl,step 2 c rfl]; exact fin _ _
  ·rw [step 0 a rfl,step 1 b rfl,step 2 c rfl,step 3 d rfl]; exact fin _ _
  ·rw [step 0 a rfl,step 1 b rfl,step 2 c rfl,step 3 d rfl,step 4 e rfl]; exact fin _ _
  ·rw [step 0 a rfl,step 1 b rfl,step 2 c rfl,step 3 d rfl,step 4 e rfl,step 5 f rfl]; exact fin _ _
  ·simp at hl
 simp only [a0B,b3u,Q0,Sys.run]
 show ((a0E [.sh (.one _)] _).bind _)=_
 simp -implicitDefEqProofs only [a0E,a0x,a0w,Q3,Q0,Q4,Q1,Q5,if_true,p3]
 show (PT.ev _ a6r _).bind _=_
 simp -implicitDefEqProofs only [a6r,↓reduceIte,eq_self,ZF,ZG,ZH,ZI,ZJ,ZK,ZL,ZM,ZN,ZO,ZP,ZQ,ZR,ZS,ZT,ZU,ZV,ZW,ZX,ZY,Z2,Z3,Z4,Z5,Z6,Z7,Z8,Z9,Za,Zb,Zc,Zd,Ze,Zf,Zg,Zh,Nat.reduceAdd,Zi,if_true,if_false,Zl,Zm,Zn,Zo,Zp,Zq,Zr,Zs,Zt,Zu,Zv,Zw,Zx,Zy,Zz,ZA,ZB,ZC,ZD,ZE,p1,p2]
 exact key
def b8M (w:W6):Int:=if eqB (a4u w) 0=true then (let p:=((((((1*(w.a+1))*(w.b+1))*(w.c+1))*(w.d+1))*(w.e+1))*(w.f+1)); if ltB 1024 p=true then 0 else p) else 0
theorem a7m {x y b:Int} (h1:1<=x) (h2:x<=b) (h3:1<=y) (h4:y<=5):1<=x*y/\x*y<=b*5:=by
 constructor
 ·calc (1:Int)=1*1:=rfl
   _<=x*y:=Qj h1 h3 (by omega) (by omega)
 ·exact Qj h2 h4 (by omega) (by omega)
theorem c2B (σ:List MO) (w:W6) (n:Nat) (hn:2<=n):a0B Tab n b1w [.agg w.pv] σ=some (.int .i64 (b8M w),σ):=by
 obtain ⟨n,rfl⟩:∃ k,n=k+1:=⟨n-1,by omega⟩
 have c1:=a6o σ w n (by omega)
 simp only [a5K,W6.pv] at c1
 simp only [a0B,b5a,Q0,Sys.run,W6.pv]
 show ((a0E [.sh (.agg [_,_,_,_,_,_])] _).bind _)=_
 simp only [a0E,a0x,a0w,Q3,Q0,Q4,Q1,Q5,if_true]
 show (PT.ev _ a7q _).bind _=_
 simp -implicitDefEqProofs only [a7q,↓reduceIte,eq_self,ZF,ZG,ZH,ZI,ZJ,ZK,ZL,ZM,ZN,ZO,ZP,ZQ,ZR,ZS,ZT,ZU,ZV,ZW,ZX,ZY,Z2,Z3,Z4,Z5,Z6,Z7,Z8,Z9,Za,Zb,Zc,Zd,Ze,Zf,Zg,Zh,Nat.reduceAdd,Zi,if_true,if_false,Zl,Zm,Zn,Zo,Zp,Zq,Zr,Zs,Zt,Zu,Zv,Zw,Zx,Zy,Zz,ZA,ZB,ZC,ZD,ZE,c1]
 by_cases hw:w.ok
 case neg =>
  have hb:eqB (a4u w) 0=false:=by unfold a4u; rw [if_neg hw]; rfl
  simp -implicitDefEqProofs only [↓reduceIte,eq_self,ZF,ZG,ZH,ZI,ZJ,ZK,ZL,ZM,ZN,ZO,ZP,ZQ,ZR,ZS,ZT,ZU,ZV,ZW,ZX,ZY,Z2,Z3,Z4,Z5,Z6,Z7,Z8,Z9,Za,Zb,Zc,Zd,Ze,Zf,Zg,Zh,Nat.reduceAdd,Zi,if_true,if_false,Zl,Zm,Zn,Zo,Zp,Zq,Zr,Zs,Zt,Zu,Zv,Zw,Zx,Zy,Zz,ZA,ZB,ZC,ZD,ZE,hb,a0D,or_true,b8M]
 have hb:eqB (a4u w) 0=true:=by unfold a4u; rw [if_pos hw]; rfl
 obtain ⟨a,b,c,d,e,f⟩:=w
 have hw':=hw
 simp only [W6.ok] at hw
 simp -implicitDefEqProofs only [↓reduceIte,eq_self,ZF,ZG,ZH,ZI,ZJ,ZK,ZL,ZM,ZN,ZO,ZP,ZQ,ZR,ZS,ZT,ZU,ZV,ZW,ZX,ZY,Z2,Z3,Z4,Z5,Z6,Z7,Z8,Z9,Za,Zb,Zc,Zd,Ze,Zf,Zg,Zh,Nat.reduceAdd,Zi,if_true,if_false,Zl,Zm,Zn,Zo,Zp,Zq,Zr,Zs,Zt,Zu,Zv,Zw,Zx,Zy,Zz,ZA,ZB,ZC,ZD,ZE,hb,a0D,or_true,b8M]
 obtain ⟨q1,q2⟩:=a7m (x:=1) (y:=a+1) (b:=1) (by omega) (by omega) (by omega) (by omega)
 generalize 1*(a+1)=x1 at *
 obtain ⟨q3,q4⟩:=a7m (x:=x1) (y:=b+1) q1 q2 (by omega) (by omega)
 generalize x1*(b+1)=x2 at *
 obtain ⟨q5,q6⟩:=a7m (x:=x2) (y:=c+1) q3 q4 (by omega) (by omega)
 generalize x2*(c+1)=x3 at *
 obtain ⟨q7,q8⟩:=a7m (x:=x3) (y:=d+1) q5 q6 (by omega) (by omega)
 generalize x3*(d+1)=x4 at *
 obtain ⟨q9,q10⟩:=a7m (x:=x4) (y:=e+1) q7 q8 (by omega) (by omega)
 generalize x4*(e+1)=x5 at *
 obtain ⟨q11,q12⟩:=a7m (x:=x5) (y:=f+1) q9 q10 (by omega) (by omega)
 generalize x5*(f+1)=x6 at *
 repeat rw [if_pos (a1q (by omega))]
 cases ltB 1024 x6<;>simp -implicitDefEqProofs only [↓reduceIte,eq_self,ZF,ZG,ZH,ZI,ZJ,ZK,ZL,ZM,ZN,ZO,ZP,ZQ,ZR,ZS,ZT,ZU,ZV,ZW,ZX,ZY,Z2,Z3,Z4,Z5,Z6,Z7,Z8,Z9,Za,Zb,Zc,Zd,Ze,Zf,Zg,Zh,Nat.reduceAdd,Zi,if_true,if_false,Zl,Zm,Zn,Zo,Zp,Zq,Zr,Zs,Zt,Zu,Zv,Zw,Zx,Zy,Zz,ZA,ZB,ZC,ZD,ZE,a0D,or_true]
theorem c3T {l:List Pr} (hl:l.length<=6) (hr:∀ x∈l,x.rng):eqB (b8M (a1T l)) 0=ltB 1024 (a2p l):=by
 have hw:(a1T l).ok:=by
  have g:∀ i:Nat,0<=((l.map Pr.s)[i]?).getD 0/\((l.map Pr.s)[i]?).getD 0<=4:=by
   intro i
   cases h:(l.map Pr.s)[i]? with
   | none=>simp
   | some z =>
    have:=Qk h
    obtain ⟨x,hx,rfl⟩:=List.mem_map.1 this
    have:=hr x hx
    simp only [Pr.rng] at this
    simp only [Option.getD_some]; omega
  exact ⟨(g 0).1,(g 0).2,(g 1).1,(g 1).2,(g 2).1,(g 2).2,(g 3).1,(g 3).2,(g 4).1,(g 4).2,(g 5).1,(g 5).2⟩
 have hb:eqB (a4u (a1T l)) 0=true:=by unfold a4u; rw [if_pos hw]; rfl
 have hp:((((((1*((a1T l).a+1))*((a1T l).b+1))*((a1T l).c+1))*((a1T l).d+1))*((a1T l).e+1))*((a1T l).f+1))=a2p l:=by
  match l,hl with
  | [],_=>rfl
  | [a],_=>simp [a1T,a2p]
  | [a,b],_=>simp [a1T,a2p]
  | [a,b,c],_=>simp [a1T,a2p]
  | [a,b,c,d],_=>simp [a1T,a2p]
  | [a,b,c,d,e],_=>simp [a1T,a2p]
  | [a,b,c,d,e,f],_=>simp [a1T,a2p]
 have hpos:1<=a2p l:=by
  rw [<- hp]
  simp only [W6.ok] at hw
  have m:∀ {x y:Int},1<=x->1<=y->1<=x*y:=fun h1 h2=>by
   calc (1:Int)=1*1:=rfl
    _<=_:=Qj h1 h2 (by omega) (by omega)
  exact m (m (m (m (m (m (by omega) (by omega)) (by omega)) (by omega)) (by omega)) (by omega)) (by omega)
 unfold b8M
 rw [if_pos hb]
 simp only [hp]
 cases h:ltB 1024 (a2p l) with
 | true=>simp [eqB]
 | false=>simp [eqB]; omega
theorem c6C {l:List Pr} {i:Nat} (h:i<=l.length):(0:Int)<=0/\(0:Int)<=(i:Int)/\(i:Int)<=((l.map Pr.row).length:Int):=by rw [Q2]; omega
theorem b4D (σ:List MO) (l:List Pr) (P:PV) (hP:P.rowsOf 5=some (l.map Pr.row)) (n:Nat) (hn:50<=n):a0B Tab n a6M [P] σ=some (.int .i64 (a6j l),σ):=by
 obtain ⟨n,rfl⟩:∃ k,n=k+1:=⟨n-1,by omega⟩
 obtain ⟨p1,p2,p3⟩:=a0C hP
 rw [Q2] at p1
 simp only [a0B,b4m,Q0,Sys.run]
 show ((a0E [.sh (.one _)] _).bind _)=_
 simp -implicitDefEqProofs only [a0E,a0x,a0w,Q3,Q0,Q4,Q1,Q5,if_true,p3]
 show (PT.ev _ a6Y _).bind _=_
 simp -implicitDefEqProofs only [a6Y,↓reduceIte,eq_self,ZF,ZG,ZH,ZI,ZJ,ZK,ZL,ZM,ZN,ZO,ZP,ZQ,ZR,ZS,ZT,ZU,ZV,ZW,ZX,ZY,Z2,Z3,Z4,Z5,Z6,Z7,Z8,Z9,Za,Zb,Zc,Zd,Ze,Zf,Zg,Zh,Nat.reduceAdd,Zi,if_true,if_false,Zl,Zm,Zn,Zo,Zp,Zq,Zr,Zs,Zt,Zu,Zv,Zw,Zx,Zy,Zz,ZA,ZB,ZC,ZD,ZE,p1,p2,a6j]
 cases h0:eqB (l.length:Int) 0 with
 | true=>simp -implicitDefEqProofs only [↓reduceIte,eq_self,ZF,ZG,ZH,ZI,ZJ,ZK,ZL,ZM,ZN,ZO,ZP,ZQ,ZR,ZS,ZT,ZU,ZV,ZW,ZX,ZY,Z2,Z3,Z4,Z5,Z6,Z7,Z8,Z9,Za,Zb,Zc,Zd,Ze,Zf,Zg,Zh,Nat.reduceAdd,Zi,if_true,if_false,Zl,Zm,Zn,Zo,Zp,Zq,Zr,Zs,Zt,Zu,Zv,Zw,Zx,Zy,Zz,ZA,ZB,ZC,ZD,ZE,a0D,or_true]
 | false =>
 cases h6:ltB 6 (l.length:Int) with
 | true=>simp -implicitDefEqProofs only [↓reduceIte,eq_self,ZF,ZG,ZH,ZI,ZJ,ZK,ZL,ZM,ZN,ZO,ZP,ZQ,ZR,ZS,ZT,ZU,ZV,ZW,ZX,ZY,Z2,Z3,Z4,Z5,Z6,Z7,Z8,Z9,Za,Zb,Zc,Zd,Ze,Zf,Zg,Zh,Nat.reduceAdd,Zi,if_true,if_false,Zl,Zm,Zn,Zo,Zp,Zq,Zr,Zs,Zt,Zu,Zv,Zw,Zx,Zy,Zz,ZA,ZB,ZC,ZD,ZE,p1,p2,h6,a0D,or_true]
 | false =>
 rw [a0I] at h6
 have loop:∀ d i,i+d=l.length->(∀ x∈l.take i,x.rng)->∀ fuel,catalog_Check_S.loop (a0B Tab n) (fuel+d+1) 0 { i:=[(l.length:Int),(i:Int)],b:=[],v:=[P],m:=σ,k:=σ.length }=some (.int .i64 (pgo l d i),σ):=by
  intro d
  induction d with
  | zero =>
   intro i hi hr fuel
   rw [Qe] at hi; subst hi
   have hd:decide (l.length < l.length)=false:=by simp
   have c1:=b1M σ l P hP (by omega) n (by omega)
   have c2:=c2B σ (a1T l) n (by omega)
   have c3:=c3T (l:=l) (by omega) (by rwa [a8Z] at hr)
   simp only [a4M,b1w,W6.pv] at c1 c2
   rw [Sys.loop,show catalog_Check_S.loops[0]?=some a3O from rfl]
   simp -implicitDefEqProofs only [Q0,a3O,↓reduceIte,eq_self,ZF,ZG,ZH,ZI,ZJ,ZK,ZL,ZM,ZN,ZO,ZP,ZQ,ZR,ZS,ZT,ZU,ZV,ZW,ZX,ZY,Z2,Z3,Z4,Z5,Z6,Z7,Z8,Z9,Za,Zb,Zc,Zd,Ze,Zf,Zg,Zh,Nat.reduceAdd,Zi,if_true,if_false,Zl,Zm,Zn,Zo,Zp,Zq,Zr,Zs,Zt,Zu,Zv,Zw,Zx,Zy,Zz,ZA,ZB,ZC,ZD,ZE,a0F,hd,c1,c2,c3,pgo,c1p]
   cases ltB 1024 (a2p l)<;>simp -implicitDefEqProofs only [↓reduceIte,eq_self,ZF,ZG,ZH,ZI,ZJ,ZK,ZL,ZM,ZN,ZO,ZP,ZQ,ZR,ZS,ZT,ZU,ZV,ZW,ZX,ZY,Z2,Z3,Z4,Z5,Z6,Z7,Z8,Z9,Za,Zb,Zc,Zd,Ze,Zf,Zg,Zh,Nat.reduceAdd,Zi,if_true,if_false,Zl,Zm,Zn,Zo,Zp,Zq,Zr,Zs,Zt,Zu,Zv,Zw,Zx,Zy,Zz,ZA,ZB,ZC,ZD,ZE,a0D,or_true]
  | succ d ih =>
   intro i hi hr fuel
   have hlt:i < l.length:=by omega
   obtain ⟨x,hx⟩:=a0W hlt
   have hd:decide (i < l.length)=true:=decide_eq_true hlt
   have hq:=a0G (off:=0) hP (a1l hx)
   have hup:=a1y (show i<=1000000000 by omega)
   have c1:=b7F σ x.nm n (by omega)
   have hcut:((((l.map Pr.row).take (i:Int).toNat).drop (0:Int).toNat))=(l.take i).map Pr.row:=by simp [List.map_take]
   obtain ⟨k,c2⟩:=c5g σ (l.take i) (.sl 5 ((l.take i).map Pr.row)) (a1v _ _) (by simp; omega) x.nm n (by simp; omega)
   have b1:=a7C σ x.s 1 4 n (by omega)
   have b2:=a7C σ x.r 0 1000000 n (by omega)
   have b3:=a7C σ x.p 0 1000 n (by omega)
   have b4:=a7C σ x.g 0 4 n (by omega)
   simp only [a7u,b1n,a8g] at c1 c2 b1 b2 b3 b4
   rw [pgo,hx,Sys.loop,show catalog_Check_S.loops[0]?=some a3O from rfl]
   have hc:=c6C (l:=l) (i:=i) (by omega)
   simp -implicitDefEqProofs only [Q0,a3O,↓reduceIte,eq_self,ZF,ZG,ZH,ZI,ZJ,ZK,ZL,ZM,ZN,ZO,ZP,ZQ,ZR,ZS,ZT,ZU,ZV,ZW,ZX,ZY,Z2,Z3,Z4,Z5,Z6,Z7,Z8,Z9,Za,Zb,Zc,Zd,Ze,Zf,Zg,Zh,Nat.reduceAdd,Zi,if_true,if_false,Zl,Zm,Zn,Zo,Zp,Zq,Zr,Zs,Zt,Zu,Zv,Zw,Zx,Zy,Zz,ZA,ZB,ZC,ZD,ZE,p1,a0F,hd,le0,hq,a2l,a1G,c1,hP,a2k,a2i,if_pos hc,hcut]
   have h50:¬ ((5:Int)=0):=by decide
   have h70:¬ ((7:Int)=0):=by decide
   have h40:¬ ((4:Int)=0):=by decide
   cases hnm:a4m x.nm with
   | false =>
    have hp:a4H (l.take i) x=5:=by unfold a4H; rw [hnm]; rfl
    rw [hp,if_neg h50]
    simp -implicitDefEqProofs only [↓reduceIte,eq_self,ZF,ZG,ZH,ZI,ZJ,ZK,ZL,ZM,ZN,ZO,ZP,ZQ,ZR,ZS,ZT,ZU,ZV,ZW,ZX,ZY,Z2,Z3,Z4,Z5,Z6,Z7,Z8,Z9,Za,Zb,Zc,Zd,Ze,Zf,Zg,Zh,Nat.reduceAdd,Zi,if_true,if_false,Zl,Zm,Zn,Zo,Zp,Zq,Zr,Zs,Zt,Zu,Zv,Zw,Zx,Zy,Zz,ZA,ZB,ZC,ZD,ZE,a0D,or_true]
   | true =>
    simp -implicitDefEqProofs only [↓reduceIte,eq_self,ZF,ZG,ZH,ZI,ZJ,ZK,ZL,ZM,ZN,ZO,ZP,ZQ,ZR,ZS,ZT,ZU,ZV,ZW,ZX,ZY,Z2,Z3,Z4,Z5,Z6,Z7,Z8,Z9,Za,Zb,Zc,Zd,Ze,Zf,Zg,Zh,Nat.reduceAdd,Zi,if_true,if_false,Zl,Zm,Zn,Zo,Zp,Zq,Zr,Zs,Zt,Zu,Zv,Zw,Zx,Zy,Zz,ZA,ZB,ZC,ZD,ZE,a1w,hP,a2k,a2i,if_pos hc,hcut,c2]
    cases hany:((l.take i).any fun y=>decide (y.nm=x.nm)) with
    | true =>
     have hp:a4H (l.take i) x=7:=by unfold a4H; rw [hnm,hany]; rfl
     rw [hp,if_neg h70]
     simp -implicitDefEqProofs only [↓reduceIte,eq_self,ZF,ZG,ZH,ZI,ZJ,ZK,ZL,ZM,ZN,ZO,ZP,ZQ,ZR,ZS,ZT,ZU,ZV,ZW,ZX,ZY,Z2,Z3,Z4,Z5,Z6,Z7,Z8,Z9,Za,Zb,Zc,Zd,Ze,Zf,Zg,Zh,Nat.reduceAdd,Zi,if_true,if_false,Zl,Zm,Zn,Zo,Zp,Zq,Zr,Zs,Zt,Zu,Zv,Zw,Zx,Zy,Zz,ZA,ZB,ZC,ZD,ZE,a1w,a0D,or_true]
    | false =>
     simp -implicitDefEqProofs only [↓reduceIte,eq_self,ZF,ZG,ZH,ZI,ZJ,ZK,ZL,ZM,ZN,ZO,ZP,ZQ,ZR,ZS,ZT,ZU,ZV,ZW,ZX,ZY,Z2,Z3,Z4,Z5,Z6,Z7,Z8,Z9,Za,Zb,Zc,Zd,Ze,Zf,Zg,Zh,Nat.reduceAdd,Zi,if_true,if_false,Zl,Zm,Zn,Zo,Zp,Zq,Zr,Zs,Zt,Zu,Zv,Zw,Zx,Zy,Zz,ZA,ZB,ZC,ZD,ZE,a1w,b1]
     by_cases hrng:x.rng
     ·have ih:=ih (i+1) (by omega) (by
       intro y hy
       rw [Qp,hx] at hy
       simp only [Qu,Qv,Qw] at hy
       rcases hy with hy | rfl
       ·exact hr y hy
       ·exact hrng) fuel
      rw [a0Q] at ih
      have hp:a4H (l.take i) x=0:=by unfold a4H; rw [hnm,hany,if_pos hrng]; rfl
      rw [hp,if_pos rfl]
      simp only [Pr.rng] at hrng
      have e1:(leB 1 x.s&&leB x.s 4)=true:=by simp [leB]; omega
      have e2:(leB 0 x.r&&leB x.r 1000000)=true:=by simp [leB]; omega
      have e3:(leB 0 x.p&&leB x.p 1000)=true:=by simp [leB]; omega
      have e4:(leB 0 x.g&&leB x.g 4)=true:=by simp [leB]; omega
      rw [e1]; rw [e2] at b2; rw [e3] at b3; rw [e4] at b4
      simp -implicitDefEqProofs only [↓reduceIte,eq_self,ZF,ZG,ZH,ZI,ZJ,ZK,ZL,ZM,ZN,ZO,ZP,ZQ,ZR,ZS,ZT,ZU,ZV,ZW,ZX,ZY,Z2,Z3,Z4,Z5,Z6,Z7,Z8,Z9,Za,Zb,Zc,Zd,Ze,Zf,Zg,Zh,Nat.reduceAdd,Zi,if_true,if_false,Zl,Zm,Zn,Zo,Zp,Zq,Zr,Zs,Zt,Zu,Zv,Zw,Zx,Zy,Zz,ZA,ZB,ZC,ZD,ZE,a1w,b2,b3,b4,if_pos hup]
      exact ih
     ·have hp:a4H (l.take i) x=4:=by unfold a4H; rw [hnm,hany,if_neg hrng]; rfl
      rw [hp,if_neg h40]
      cases e1:(leB 1 x.s&&leB x.s 4) with
      | false=>simp -implicitDefEqProofs only [↓reduceIte,eq_self,ZF,ZG,ZH,ZI,ZJ,ZK,ZL,ZM,ZN,ZO,ZP,ZQ,ZR,ZS,ZT,ZU,ZV,ZW,ZX,ZY,Z2,Z3,Z4,Z5,Z6,Z7,Z8,Z9,Za,Zb,Zc,Zd,Ze,Zf,Zg,Zh,Nat.reduceAdd,Zi,if_true,if_false,Zl,Zm,Zn,Zo,Zp,Zq,Zr,Zs,Zt,Zu,Zv,Zw,Zx,Zy,Zz,ZA,ZB,ZC,ZD,ZE,a1w,a0D,or_true]
      | true =>
      cases e2:(leB 0 x.r&&leB x.r 1000000) with
      | false=>rw [e2] at b2; simp -implicitDefEqProofs only [↓reduceIte,eq_self,ZF,ZG,ZH,ZI,ZJ,ZK,ZL,ZM,ZN,ZO,ZP,ZQ,ZR,ZS,ZT,ZU,ZV,ZW,ZX,ZY,Z2,Z3,Z4,Z5,Z6,Z7,Z8,Z9,Za,Zb,Zc,Zd,Ze,Zf,Zg,Zh,Nat.reduceAdd,Zi,if_true,if_false,Zl,Zm,Zn,Zo,Zp,Zq,Zr,Zs,Zt,Zu,Zv,Zw,Zx,Zy,Zz,ZA,ZB,ZC,ZD,ZE,a1w,b2,a0D,or_true]
      | true =>
      cases e3:(leB 0 x.p&&leB x.p 1000) with
      | false=>rw [e2] at b2; rw [e3] at b3; simp -implicitDefEqProofs only [↓reduceIte,eq_self,ZF,ZG,ZH,ZI,ZJ,ZK,ZL,ZM,ZN,ZO,ZP,ZQ,ZR,ZS,ZT,ZU,ZV,ZW,ZX,ZY,Z2,Z3,Z4,Z5,Z6,Z7,Z8,Z9,Za,Zb,Zc,Zd,Ze,Zf,Zg,Zh,Nat.reduceAdd,Zi,if_true,if_false,Zl,Zm,Zn,Zo,Zp,Zq,Zr,Zs,Zt,Zu,Zv,Zw,Zx,Zy,Zz,ZA,ZB,ZC,ZD,ZE,a1w,b2,b3,a0D,or_true]
      | true =>
      cases e4:(leB 0 x.g&&leB x.g 4) with
      | false=>rw [e2] at b2; rw [e3] at b3; rw [e4] at b4; simp -implicitDefEqProofs only [↓reduceIte,eq_self,ZF,ZG,ZH,ZI,ZJ,ZK,ZL,ZM,ZN,ZO,ZP,ZQ,ZR,ZS,ZT,ZU,ZV,ZW,ZX,ZY,Z2,Z3,Z4,Z5,Z6,Z7,Z8,Z9,Za,Zb,Zc,Zd,Ze,Zf,Zg,Zh,Nat.reduceAdd,Zi,if_true,if_false,Zl,Zm,Zn,Zo,Zp,Zq,Zr,Zs,Zt,Zu,Zv,Zw,Zx,Zy,Zz,ZA,ZB,ZC,ZD,ZE,a1w,b2,b3,b4,a0D,or_true]
      | true =>
       exfalso; apply hrng
       simp only [Bool.and_eq_true,a2n] at e1 e2 e3 e4
       simp only [Pr.rng]; omega
 have:=loop l.length 0 (by omega) (by simp) (n-l.length-1)
 rw [show n-l.length-1+l.length+1=n by omega] at this
 have h6':ltB 6 (l.length:Int)=false:=by rw [a0I]; omega
 simp -implicitDefEqProofs only [↓reduceIte,eq_self,ZF,ZG,ZH,ZI,ZJ,ZK,ZL,ZM,ZN,ZO,ZP,ZQ,ZR,ZS,ZT,ZU,ZV,ZW,ZX,ZY,Z2,Z3,Z4,Z5,Z6,Z7,Z8,Z9,Za,Zb,Zc,Zd,Ze,Zf,Zg,Zh,Nat.reduceAdd,Zi,if_true,if_false,Zl,Zm,Zn,Zo,Zp,Zq,Zr,Zs,Zt,Zu,Zv,Zw,Zx,Zy,Zz,ZA,ZB,ZC,ZD,ZE,a1w,p1,p2,h6']
 exact this
end Go.Proofs.Ytflcopaopimlpaa
set_option maxRecDepth 100000
namespace Go.Proofs.Ytflcopaopimlpaa
open Go.Sx
theorem c0C {l:List Pr} (hr:∀ x∈l,x.rng) (hl:l.length<=6):∀ i,i<=l.length->1<=a2p (l.take i)/\a2p (l.take i)<=15625:=by
 have key:∀ i,i<=l.length->1<=a2p (l.take i)/\a2p (l.take i)<=((5 ^ i:Nat):Int):=by
  intro i
  induction i with
  | zero=>intro _; simp [a2p]
  | succ i ih =>
   intro hi
   obtain ⟨h1,h2⟩:=ih (by omega)
   obtain ⟨x,hx⟩:=a0W (show i < l.length by omega)
   have hxr:=hr x (Qk hx)
   simp only [Pr.rng] at hxr
   have:a2p (l.take (i+1))=a2p (l.take i)*(x.s+1):=b5I _ _ hx
   rw [this]
   obtain ⟨h3,h4⟩:=a7m (x:=a2p (l.take i)) (y:=x.s+1) h1 h2 (by omega) (by omega)
   refine ⟨h3,?_⟩
   rw [Nat.pow_succ]; omega
 intro i hi
 obtain ⟨h1,h2⟩:=key i hi
 have:5 ^ i<=5 ^ 6:=Nat.pow_le_pow_right (by omega) (by omega)
 have h6:(5:Nat) ^ 6=15625:=by decide
 omega
section
variable (σ:List MO) (l:List Pr) (P:PV) (hP:P.rowsOf 5=some (l.map Pr.row)) (hl:l.length<=6) (n:Nat) (hn:40<=n)
def a9n (σ:List MO) (P:PV) (is:List Int):PEnv:={ i:=is,b:=[],v:=[P],m:=σ,k:=σ.length }
include hP hl in
theorem c6a (hr:∀ x∈l,x.rng):∀ d i,i+d=l.length->∀ fuel,saleroomref08_Check_S.loop (a0B Tab n) (fuel+d+1) 2 (a9n σ P [a2p (l.take i),(i:Int)])=some (.int .i64 (c1p l),σ):=by
 obtain ⟨p1,p2,p3⟩:=a0C hP
 rw [Q2] at p1
 intro d
 induction d with
 | zero =>
  intro i hi fuel
  rw [Qe] at hi; subst hi
  have hd:decide (l.length < l.length)=false:=by simp
  rw [a8Z,Sys.loop,show saleroomref08_Check_S.loops[2]?=some a2z from rfl]
  simp -implicitDefEqProofs only [Q0,a9n,a2z,↓reduceIte,eq_self,ZF,ZG,ZH,ZI,ZJ,ZK,ZL,ZM,ZN,ZO,ZP,ZQ,ZR,ZS,ZT,ZU,ZV,ZW,ZX,ZY,Z2,Z3,Z4,Z5,Z6,Z7,Z8,Z9,Za,Zb,Zc,Zd,Ze,Zf,Zg,Zh,Nat.reduceAdd,Zi,if_true,if_false,Zl,Zm,Zn,Zo,Zp,Zq,Zr,Zs,Zt,Zu,Zv,Zw,Zx,Zy,Zz,ZA,ZB,ZC,ZD,ZE,p1,p2,a0F,hd,c1p]
  cases ltB 1024 (a2p l)<;>simp -implicitDefEqProofs only [↓reduceIte,eq_self,ZF,ZG,ZH,ZI,ZJ,ZK,ZL,ZM,ZN,ZO,ZP,ZQ,ZR,ZS,ZT,ZU,ZV,ZW,ZX,ZY,Z2,Z3,Z4,Z5,Z6,Z7,Z8,Z9,Za,Zb,Zc,Zd,Ze,Zf,Zg,Zh,Nat.reduceAdd,Zi,if_true,if_false,Zl,Zm,Zn,Zo,Zp,Zq,Zr,Zs,Zt,Zu,Zv,Zw,Zx,Zy,Zz,ZA,ZB,ZC,ZD,ZE,a0D,or_true]
 | succ d ih =>
  intro i hi fuel
  have hlt:i < l.length:=by omega
  obtain ⟨x,hx⟩:=a0W hlt
  have hd:decide (i < l.length)=true:=decide_eq_true hlt
  have hq:=a0G (off:=1) hP (a1l hx)
  have hup:=a1y (show i<=1000000000 by omega)
  have ih:=ih (i+1) (by omega) fuel
  have hxr:=hr x (Qk hx)
  simp only [Pr.rng] at hxr
  obtain ⟨b1,b2⟩:=c0C hr hl i (by omega)
  obtain ⟨b3,b4⟩:=c0C hr hl (i+1) (by omega)
  rw [a0Q] at ih
  rw [show a2p (l.take (i+1))=a2p (l.take i)*(x.s+1) from b5I _ _ hx] at b3 b4 ih
  have dr:∀ a b c d e:PV,Qf 1 [a,b,c,d,e]=[b,c,d,e]:=fun _ _ _ _ _=>rfl
  rw [show fuel+(d+1)+1=(fuel+d+1)+1 from rfl,Sys.loop,show saleroomref08_Check_S.loops[2]?=some a2z from rfl]
  simp -implicitDefEqProofs only [Q0,a9n,a2z,↓reduceIte,eq_self,ZF,ZG,ZH,ZI,ZJ,ZK,ZL,ZM,ZN,ZO,ZP,ZQ,ZR,ZS,ZT,ZU,ZV,ZW,ZX,ZY,Z2,Z3,Z4,Z5,Z6,Z7,Z8,Z9,Za,Zb,Zc,Zd,Ze,Zf,Zg,Zh,Nat.reduceAdd,Zi,if_true,if_false,Zl,Zm,Zn,Zo,Zp,Zq,Zr,Zs,Zt,Zu,Zv,Zw,Zx,Zy,Zz,ZA,ZB,ZC,ZD,ZE,p1,p2,a0F,hd,le0,hq,a2l,dr,Nat.reduceLeDiff,if_pos (a1q (z:=x.s+1) (by omega)),if_pos (a1q (z:=a2p (l.take i)*(x.s+1)) (by omega)),if_pos hup]
  exact ih
include hP hl in
theorem c8d (i:Nat) (x:Pr) (hx:l[i]?=some x):∀ d k,k+d=i->∀ fuel,saleroomref08_Check_S.loop (a0B Tab n) (fuel+d+1) 1 (a9n σ P [(i:Int),(k:Int)])=if (((l.take i).drop k).any fun y=>decide (y.nm=x.nm))=true then some (.int .i64 7,σ) else if x.rng then saleroomref08_Check_S.loop (a0B Tab n) fuel 0 (a9n σ P [(i:Int)+1]) else some (.int .i64 4,σ):=by
 obtain ⟨p1,p2,p3⟩:=a0C hP
 rw [Q2] at p1
 have hlt:i < l.length:=(Qb.1 hx).1
 have hd:decide (i < l.length)=true:=decide_eq_true hlt
 have hq:=a0G (off:=0) hP (a1l hx)
 have hup:=a1y (show i<=1000000000 by omega)
 have hlen:(l.take i).length=i:=by simp; omega
 intro d
 induction d with
 | zero =>
  intro k hk fuel
  rw [Qe] at hk; subst hk
  have hk:decide (k < k)=false:=by simp
  have he:(l.take k).drop k=[]:=List.drop_eq_nil_of_le (by omega)
  have hF:¬ (false=true):=by simp
  rw [he,List.any_nil,if_neg hF,Sys.loop,show saleroomref08_Check_S.loops[1]?=some a1V from rfl]
  simp -implicitDefEqProofs only [Q0,a9n,a1V,↓reduceIte,eq_self,ZF,ZG,ZH,ZI,ZJ,ZK,ZL,ZM,ZN,ZO,ZP,ZQ,ZR,ZS,ZT,ZU,ZV,ZW,ZX,ZY,Z2,Z3,Z4,Z5,Z6,Z7,Z8,Z9,Za,Zb,Zc,Zd,Ze,Zf,Zg,Zh,Nat.reduceAdd,Zi,if_true,if_false,Zl,Zm,Zn,Zo,Zp,Zq,Zr,Zs,Zt,Zu,Zv,Zw,Zx,Zy,Zz,ZA,ZB,ZC,ZD,ZE,p1,p2,a0F,hk,hd,le0,hq,a2l,a1G]
  by_cases hrng:x.rng
  ·rw [if_pos hrng]
   simp only [Pr.rng] at hrng
   have e1:ltB x.s 1=false:=by rw [a0I]; omega
   have e2:ltB 4 x.s=false:=by rw [a0I]; omega
   have e3:ltB x.r 0=false:=by rw [a0I]; omega
   have e4:ltB 1000000 x.r=false:=by rw [a0I]; omega
   have e5:ltB x.p 0=false:=by rw [a0I]; omega
   have e6:ltB 1000 x.p=false:=by rw [a0I]; omega
   have e7:ltB x.g 0=false:=by rw [a0I]; omega
   have e8:ltB 4 x.g=false:=by rw [a0I]; omega
   simp -implicitDefEqProofs only [↓reduceIte,eq_self,ZF,ZG,ZH,ZI,ZJ,ZK,ZL,ZM,ZN,ZO,ZP,ZQ,ZR,ZS,ZT,ZU,ZV,ZW,ZX,ZY,Z2,Z3,Z4,Z5,Z6,Z7,Z8,Z9,Za,Zb,Zc,Zd,Ze,Zf,Zg,Zh,Nat.reduceAdd,Zi,if_true,if_false,Zl,Zm,Zn,Zo,Zp,Zq,Zr,Zs,Zt,Zu,Zv,Zw,Zx,Zy,Zz,ZA,ZB,ZC,ZD,ZE,e1,e2,e3,e4,e5,e6,e7,e8,if_pos hup]
  ·rw [if_neg hrng]
   cases e1:ltB x.s 1 with
   | true=>simp -implicitDefEqProofs only [↓reduceIte,eq_self,ZF,ZG,ZH,ZI,ZJ,ZK,ZL,ZM,ZN,ZO,ZP,ZQ,ZR,ZS,ZT,ZU,ZV,ZW,ZX,ZY,Z2,Z3,Z4,Z5,Z6,Z7,Z8,Z9,Za,Zb,Zc,Zd,Ze,Zf,Zg,Zh,Nat.reduceAdd,Zi,if_true,if_false,Zl,Zm,Zn,Zo,Zp,Zq,Zr,Zs,Zt,Zu,Zv,Zw,Zx,Zy,Zz,ZA,ZB,ZC,ZD,ZE,a0D,or_true]
   | false =>
   cases e2:ltB 4 x.s with
   | true=>simp -implicitDefEqProofs only [↓reduceIte,eq_self,ZF,ZG,ZH,ZI,ZJ,ZK,ZL,ZM,ZN,ZO,ZP,ZQ,ZR,ZS,ZT,ZU,ZV,ZW,ZX,ZY,Z2,Z3,Z4,Z5,Z6,Z7,Z8,Z9,Za,Zb,Zc,Zd,Ze,Zf,Zg,Zh,Nat.reduceAdd,Zi,if_true,if_false,Zl,Zm,Zn,Zo,Zp,Zq,Zr,Zs,Zt,Zu,Zv,Zw,Zx,Zy,Zz,ZA,ZB,ZC,ZD,ZE,a0D,or_true]
   | false =>
   cases e3:ltB x.r 0 with
   | true=>simp -implicitDefEqProofs only [↓reduceIte,eq_self,ZF,ZG,ZH,ZI,ZJ,ZK,ZL,ZM,ZN,ZO,ZP,ZQ,ZR,ZS,ZT,ZU,ZV,ZW,ZX,ZY,Z2,Z3,Z4,Z5,Z6,Z7,Z8,Z9,Za,Zb,Zc,Zd,Ze,Zf,Zg,Zh,Nat.reduceAdd,Zi,if_true,if_false,Zl,Zm,Zn,Zo,Zp,Zq,Zr,Zs,Zt,Zu,Zv,Zw,Zx,Zy,Zz,ZA,ZB,ZC,ZD,ZE,a0D,or_true]
   | false =>
   cases e4:ltB 1000000 x.r with
   | true=>simp -implicitDefEqProofs only [↓reduceIte,eq_self,ZF,ZG,ZH,ZI,ZJ,ZK,ZL,ZM,ZN,ZO,ZP,ZQ,ZR,ZS,ZT,ZU,ZV,ZW,ZX,ZY,Z2,Z3,Z4,Z5,Z6,Z7,Z8,Z9,Za,Zb,Zc,Zd,Ze,Zf,Zg,Zh,Nat.reduceAdd,Zi,if_true,if_false,Zl,Zm,Zn,Zo,Zp,Zq,Zr,Zs,Zt,Zu,Zv,Zw,Zx,Zy,Zz,ZA,ZB,ZC,ZD,ZE,a0D,or_true]
   | false =>
   cases e5:ltB x.p 0 with
   | true=>simp -implicitDefEqProofs only [↓reduceIte,eq_self,ZF,ZG,ZH,ZI,ZJ,ZK,ZL,ZM,ZN,ZO,ZP,ZQ,ZR,ZS,ZT,ZU,ZV,ZW,ZX,ZY,Z2,Z3,Z4,Z5,Z6,Z7,Z8,Z9,Za,Zb,Zc,Zd,Ze,Zf,Zg,Zh,Nat.reduceAdd,Zi,if_true,if_false,Zl,Zm,Zn,Zo,Zp,Zq,Zr,Zs,Zt,Zu,Zv,Zw,Zx,Zy,Zz,ZA,ZB,ZC,ZD,ZE,a0D,or_true]
   | false =>
   cases e6:ltB 1000 x.p with
   | true=>simp -implicitDefEqProofs only [↓reduceIte,eq_self,ZF,ZG,ZH,ZI,ZJ,ZK,ZL,ZM,ZN,ZO,ZP,ZQ,ZR,ZS,ZT,ZU,ZV,ZW,ZX,ZY,Z2,Z3,Z4,Z5,Z6,Z7,Z8,Z9,Za,Zb,Zc,Zd,Ze,Zf,Zg,Zh,Nat.reduceAdd,Zi,if_true,if_false,Zl,Zm,Zn,Zo,Zp,Zq,Zr,Zs,Zt,Zu,Zv,Zw,Zx,Zy,Zz,ZA,ZB,ZC,ZD,ZE,a0D,or_true]
   | false =>
   cases e7:ltB x.g 0 with
   | true=>simp -implicitDefEqProofs only [↓reduceIte,eq_self,ZF,ZG,ZH,ZI,ZJ,ZK,ZL,ZM,ZN,ZO,ZP,ZQ,ZR,ZS,ZT,ZU,ZV,ZW,ZX,ZY,Z2,Z3,Z4,Z5,Z6,Z7,Z8,Z9,Za,Zb,Zc,Zd,Ze,Zf,Zg,Zh,Nat.reduceAdd,Zi,if_true,if_false,Zl,Zm,Zn,Zo,Zp,Zq,Zr,Zs,Zt,Zu,Zv,Zw,Zx,Zy,Zz,ZA,ZB,ZC,ZD,ZE,a0D,or_true]
   | false =>
   cases e8:ltB 4 x.g with
   | true=>simp -implicitDefEqProofs only [↓reduceIte,eq_self,ZF,ZG,ZH,ZI,ZJ,ZK,ZL,ZM,ZN,ZO,ZP,ZQ,ZR,ZS,ZT,ZU,ZV,ZW,ZX,ZY,Z2,Z3,Z4,Z5,Z6,Z7,Z8,Z9,Za,Zb,Zc,Zd,Ze,Zf,Zg,Zh,Nat.reduceAdd,Zi,if_true,if_false,Zl,Zm,Zn,Zo,Zp,Zq,Zr,Zs,Zt,Zu,Zv,Zw,Zx,Zy,Zz,ZA,ZB,ZC,ZD,ZE,a0D,or_true]
   | false =>
    exfalso; apply hrng
    simp only [a0I] at e1 e2 e3 e4 e5 e6 e7 e8
    simp only [Pr.rng]; omega
 | succ d ih =>
  intro k hk fuel
  have hlk:k < l.length:=by omega
  obtain ⟨y,hy⟩:=a0W hlk
  have hki:decide (k < i)=true:=decide_eq_true (by omega)
  have hkl:decide (k < l.length)=true:=decide_eq_true hlk
  have hq2:=a0G (off:=0) hP (a1l hy)
  have hup2:=a1y (show k<=1000000000 by omega)
  have hyt:(l.take i)[k]?=some y:=by rw [List.getElem?_take_of_lt (by omega)]; exact hy
  rw [a5x hyt,List.any_cons,show fuel+(d+1)+1=(fuel+d+1)+1 from rfl,Sys.loop,show saleroomref08_Check_S.loops[1]?=some a1V from rfl]
  by_cases hn:y.nm=x.nm
  ·rw [decide_eq_true hn,Qa,if_pos rfl]
   simp -implicitDefEqProofs only [Q0,a9n,a1V,↓reduceIte,eq_self,ZF,ZG,ZH,ZI,ZJ,ZK,ZL,ZM,ZN,ZO,ZP,ZQ,ZR,ZS,ZT,ZU,ZV,ZW,ZX,ZY,Z2,Z3,Z4,Z5,Z6,Z7,Z8,Z9,Za,Zb,Zc,Zd,Ze,Zf,Zg,Zh,Nat.reduceAdd,Zi,if_true,if_false,Zl,Zm,Zn,Zo,Zp,Zq,Zr,Zs,Zt,Zu,Zv,Zw,Zx,Zy,Zz,ZA,ZB,ZC,ZD,ZE,p1,p2,a0F,hki,hkl,hd,le0,hq,hq2,a2l,a1G,is3,a6a,decide_eq_true hn,a0D,or_true,Nat.reduceLeDiff]
  ·have ih:=ih (k+1) (by omega) fuel
   rw [a0Q] at ih
   rw [decide_eq_false hn,Qd,<- ih]
   simp -implicitDefEqProofs only [Q0,a9n,a1V,↓reduceIte,eq_self,ZF,ZG,ZH,ZI,ZJ,ZK,ZL,ZM,ZN,ZO,ZP,ZQ,ZR,ZS,ZT,ZU,ZV,ZW,ZX,ZY,Z2,Z3,Z4,Z5,Z6,Z7,Z8,Z9,Za,Zb,Zc,Zd,Ze,Zf,Zg,Zh,Nat.reduceAdd,Zi,if_true,if_false,Zl,Zm,Zn,Zo,Zp,Zq,Zr,Zs,Zt,Zu,Zv,Zw,Zx,Zy,Zz,ZA,ZB,ZC,ZD,ZE,p1,p2,a0F,hki,hkl,hd,le0,hq,hq2,a2l,a1G,is3,a6a,decide_eq_false hn,if_pos hup2,Nat.reduceLeDiff]
include hP hl hn in
theorem c6G:∀ d i,i+d=l.length->(∀ x∈l.take i,x.rng)->∀ fuel,8+d*8<=fuel->saleroomref08_Check_S.loop (a0B Tab n) fuel 0 (a9n σ P [(i:Int)])=some (.int .i64 (pgo l d i),σ):=by
 obtain ⟨p1,p2,p3⟩:=a0C hP
 rw [Q2] at p1
 intro d
 induction d with
 | zero =>
  intro i hi hr fuel hf
  rw [Qe] at hi; subst hi
  have hd:decide (l.length < l.length)=false:=by simp
  obtain ⟨fuel,rfl⟩:∃ k,fuel=(k+l.length+1)+1:=⟨fuel-l.length-2,by omega⟩
  have:=c6a σ l P hP hl n (by rwa [a8Z] at hr) l.length 0 (by omega) fuel
  rw [Qr,show a2p []=1 from rfl] at this
  rw [pgo,Sys.loop,show saleroomref08_Check_S.loops[0]?=some a2y from rfl]
  simp -implicitDefEqProofs only [Q0,a9n,a2y,↓reduceIte,eq_self,ZF,ZG,ZH,ZI,ZJ,ZK,ZL,ZM,ZN,ZO,ZP,ZQ,ZR,ZS,ZT,ZU,ZV,ZW,ZX,ZY,Z2,Z3,Z4,Z5,Z6,Z7,Z8,Z9,Za,Zb,Zc,Zd,Ze,Zf,Zg,Zh,Nat.reduceAdd,Zi,if_true,if_false,Zl,Zm,Zn,Zo,Zp,Zq,Zr,Zs,Zt,Zu,Zv,Zw,Zx,Zy,Zz,ZA,ZB,ZC,ZD,ZE,p1,p2,a0F,hd]
  exact this
 | succ d ih =>
  intro i hi hr fuel hf
  have hlt:i < l.length:=by omega
  obtain ⟨x,hx⟩:=a0W hlt
  have hd:decide (i < l.length)=true:=decide_eq_true hlt
  have hq:=a0G (off:=0) hP (a1l hx)
  have c1:=c2w σ x.nm n (by omega)
  simp only [a5W] at c1
  obtain ⟨fuel,rfl⟩:∃ k,fuel=(k+i+1)+1:=⟨fuel-i-2,by omega⟩
  have inn:=c8d σ l P hP hl n i x hx i 0 (by omega) fuel
  rw [Qg] at inn
  rw [pgo,hx,Sys.loop,show saleroomref08_Check_S.loops[0]?=some a2y from rfl]
  simp -implicitDefEqProofs only [Q0,a9n,a2y,↓reduceIte,eq_self,ZF,ZG,ZH,ZI,ZJ,ZK,ZL,ZM,ZN,ZO,ZP,ZQ,ZR,ZS,ZT,ZU,ZV,ZW,ZX,ZY,Z2,Z3,Z4,Z5,Z6,Z7,Z8,Z9,Za,Zb,Zc,Zd,Ze,Zf,Zg,Zh,Nat.reduceAdd,Zi,if_true,if_false,Zl,Zm,Zn,Zo,Zp,Zq,Zr,Zs,Zt,Zu,Zv,Zw,Zx,Zy,Zz,ZA,ZB,ZC,ZD,ZE,p1,p2,a0F,hd,le0,hq,a2l,a1G,Nat.reduceLeDiff,c1]
  have h50:¬ ((5:Int)=0):=by decide
  have h70:¬ ((7:Int)=0):=by decide
  have h40:¬ ((4:Int)=0):=by decide
  cases hnm:a4m x.nm with
  | false =>
   have hp:a4H (l.take i) x=5:=by unfold a4H; rw [hnm]; rfl
   rw [hp,if_neg h50]
   simp -implicitDefEqProofs only [↓reduceIte,eq_self,ZF,ZG,ZH,ZI,ZJ,ZK,ZL,ZM,ZN,ZO,ZP,ZQ,ZR,ZS,ZT,ZU,ZV,ZW,ZX,ZY,Z2,Z3,Z4,Z5,Z6,Z7,Z8,Z9,Za,Zb,Zc,Zd,Ze,Zf,Zg,Zh,Nat.reduceAdd,Zi,if_true,if_false,Zl,Zm,Zn,Zo,Zp,Zq,Zr,Zs,Zt,Zu,Zv,Zw,Zx,Zy,Zz,ZA,ZB,ZC,ZD,ZE,a0D,or_true]
  | true =>
   simp -implicitDefEqProofs only [↓reduceIte,eq_self,ZF,ZG,ZH,ZI,ZJ,ZK,ZL,ZM,ZN,ZO,ZP,ZQ,ZR,ZS,ZT,ZU,ZV,ZW,ZX,ZY,Z2,Z3,Z4,Z5,Z6,Z7,Z8,Z9,Za,Zb,Zc,Zd,Ze,Zf,Zg,Zh,Nat.reduceAdd,Zi,if_true,if_false,Zl,Zm,Zn,Zo,Zp,Zq,Zr,Zs,Zt,Zu,Zv,Zw,Zx,Zy,Zz,ZA,ZB,ZC,ZD,ZE]
   refine inn.trans ?_
   cases hany:((l.take i).any fun y=>decide (y.nm=x.nm)) with
   | true =>
    have hp:a4H (l.take i) x=7:=by unfold a4H; rw [hnm,hany]; rfl
    rw [hp,if_neg h70,if_pos rfl]
   | false =>
    have hF:¬ (false=true):=by simp
    rw [if_neg hF]
    by_cases hrng:x.rng
    ·have hp:a4H (l.take i) x=0:=by unfold a4H; rw [hnm,hany,if_pos hrng]; rfl
     rw [hp,if_pos rfl,if_pos hrng]
     have:=ih (i+1) (by omega) (by
      intro y hy
      rw [Qp,hx] at hy
      simp only [Qu,Qv,Qw] at hy
      rcases hy with hy | rfl
      ·exact hr y hy
      ·exact hrng) fuel (by omega)
     rwa [a0Q] at this
    ·have hp:a4H (l.take i) x=4:=by unfold a4H; rw [hnm,hany,if_neg hrng]; rfl
     rw [hp,if_neg h40,if_neg hrng]
end
theorem b3M (σ:List MO) (l:List Pr) (P:PV) (hP:P.rowsOf 5=some (l.map Pr.row)) (n:Nat) (hn:70<=n):a0B Tab n a4D [P] σ=some (.int .i64 (a6j l),σ):=by
 obtain ⟨n,rfl⟩:∃ k,n=k+1:=⟨n-1,by omega⟩
 obtain ⟨p1,p2,p3⟩:=a0C hP
 rw [Q2] at p1
 simp only [a0B,a9D,Q0,Sys.run]
 show ((a0E [.sh (.one _)] _).bind _)=_
 simp -implicitDefEqProofs only [a0E,a0x,a0w,Q3,Q0,Q4,Q1,Q5,if_true,p3]
 show (PT.ev _ a4y _).bind _=_
 simp -implicitDefEqProofs only [a4y,↓reduceIte,eq_self,ZF,ZG,ZH,ZI,ZJ,ZK,ZL,ZM,ZN,ZO,ZP,ZQ,ZR,ZS,ZT,ZU,ZV,ZW,ZX,ZY,Z2,Z3,Z4,Z5,Z6,Z7,Z8,Z9,Za,Zb,Zc,Zd,Ze,Zf,Zg,Zh,Nat.reduceAdd,Zi,if_true,if_false,Zl,Zm,Zn,Zo,Zp,Zq,Zr,Zs,Zt,Zu,Zv,Zw,Zx,Zy,Zz,ZA,ZB,ZC,ZD,ZE,p1,p2,a6j]
 cases h0:eqB (l.length:Int) 0 with
 | true=>simp -implicitDefEqProofs only [↓reduceIte,eq_self,ZF,ZG,ZH,ZI,ZJ,ZK,ZL,ZM,ZN,ZO,ZP,ZQ,ZR,ZS,ZT,ZU,ZV,ZW,ZX,ZY,Z2,Z3,Z4,Z5,Z6,Z7,Z8,Z9,Za,Zb,Zc,Zd,Ze,Zf,Zg,Zh,Nat.reduceAdd,Zi,if_true,if_false,Zl,Zm,Zn,Zo,Zp,Zq,Zr,Zs,Zt,Zu,Zv,Zw,Zx,Zy,Zz,ZA,ZB,ZC,ZD,ZE,a0D,or_true]
 | false =>
 cases h6:ltB 6 (l.length:Int) with
 | true=>simp -implicitDefEqProofs only [↓reduceIte,eq_self,ZF,ZG,ZH,ZI,ZJ,ZK,ZL,ZM,ZN,ZO,ZP,ZQ,ZR,ZS,ZT,ZU,ZV,ZW,ZX,ZY,Z2,Z3,Z4,Z5,Z6,Z7,Z8,Z9,Za,Zb,Zc,Zd,Ze,Zf,Zg,Zh,Nat.reduceAdd,Zi,if_true,if_false,Zl,Zm,Zn,Zo,Zp,Zq,Zr,Zs,Zt,Zu,Zv,Zw,Zx,Zy,Zz,ZA,ZB,ZC,ZD,ZE,p1,p2,h6,a0D,or_true]
 | false =>
 have h6':=h6
 rw [a0I] at h6
 have:=c6G σ l P hP (by omega) n (by omega) l.length 0 (by omega) (by simp) n (by omega)
 simp -implicitDefEqProofs only [↓reduceIte,eq_self,ZF,ZG,ZH,ZI,ZJ,ZK,ZL,ZM,ZN,ZO,ZP,ZQ,ZR,ZS,ZT,ZU,ZV,ZW,ZX,ZY,Z2,Z3,Z4,Z5,Z6,Z7,Z8,Z9,Za,Zb,Zc,Zd,Ze,Zf,Zg,Zh,Nat.reduceAdd,Zi,if_true,if_false,Zl,Zm,Zn,Zo,Zp,Zq,Zr,Zs,Zt,Zu,Zv,Zw,Zx,Zy,Zz,ZA,ZB,ZC,ZD,ZE,p1,p2,h6']
 exact this
theorem b8F {ps:List Pr}:∀ d i,i+d=ps.length->pgo ps d i=0->∀ k x,i<=k->ps[k]?=some x->x.rng
 | 0,i,hi,_,k,x,hk,hx=>by have:=(Qb.1 hx).1; omega
 | d+1,i,hi,h,k,x,hk,hx=>by
  obtain ⟨y,hy⟩:=a0W (show i < ps.length by omega)
  rw [pgo,hy] at h
  simp only at h
  split at h
  ·rename_i hb
   by_cases hki:k=i
   ·subst hki
    rw [hx] at hy; cases hy
    unfold a4H at hb
    split at hb
    ·split at hb
     ·cases hb
     ·split at hb
      ·assumption
      ·cases hb
    ·cases hb
   ·exact b8F d (i+1) (by omega) h k x (by omega) hx
  ·rename_i hb; exact absurd h hb
theorem a7M {ps:List Pr} (h:a6j ps=0):ps.length<=6/\∀ x∈ps,x.rng:=by
 unfold a6j at h
 split at h
 ·cases h
 ·split at h
  ·cases h
  ·rename_i h6
   rw [Bool.not_eq_true,a0I] at h6
   refine ⟨by omega,fun x hx=>?_⟩
   obtain ⟨k,hk⟩:=List.mem_iff_getElem?.1 hx
   exact b8F ps.length 0 (by omega) h k x (by omega) hk
end Go.Proofs.Ytflcopaopimlpaa
set_option maxRecDepth 100000
namespace Go.Proofs.Ytflcopaopimlpaa
open Go.Sx
def wl (w:W6):List Int:=[w.a,w.b,w.c,w.d,w.e,w.f]
def a4t (w:W6) (i:Nat):Int:=((wl w)[i]?).getD 0
def b0s (f:Pr->Int) (l:List Pr) (i:Nat):Int:=((l[i]?).map f).getD 0
def ptS (f:Pr->Int) (l:List Pr) (w:W6):Nat->Int
 | 0=>0
 | i+1=>ptS f l w i+a4t w i*b0s f l i
theorem b7m {w:W6} (hw:w.ok) (i:Nat):0<=a4t w i/\a4t w i<=4:=by
 simp only [W6.ok] at hw
 unfold a4t wl
 rcases i with _ | _ | _ | _ | _ | _ | i<;>simp<;>omega
theorem b3b {f:Pr->Int} {l:List Pr} {w:W6} {b:Int} (hw:w.ok) (hb:0<=b) (hf:∀ x∈l,0<=f x/\f x<=b):∀ i,0<=ptS f l w i/\ptS f l w i<=(i:Int)*(4*b)
 | 0=>by simp [ptS]
 | i+1=>by
  have ih:=b3b hw hb hf i
  have h1:=b7m hw i
  have h2:0<=b0s f l i/\b0s f l i<=b:=by
   unfold b0s
   cases h:l[i]? with
   | none=>simp; omega
   | some x=>simpa using hf x (Qk h)
  have h3:0<=a4t w i*b0s f l i:=Int.mul_nonneg h1.1 h2.1
  have h4:a4t w i*b0s f l i<=4*b:=Qj h1.2 h2.2 h2.1 (by omega)
  simp only [ptS]
  refine ⟨by omega,?_⟩
  rw [show ((i+1:Nat):Int)*(4*b)=(i:Int)*(4*b)+4*b by rw [Q7,Q8]; simp]
  omega
theorem b3D (σ:List MO) (w:W6) (n:Nat) (hn:1<=n):a0B Tab n a4A [.agg w.pv] σ=some (.bool (decide w.ok),σ):=by
 obtain ⟨n,rfl⟩:∃ k,n=k+1:=⟨n-1,by omega⟩
 simp only [a0B,a9K,Q0,Sys.run,W6.pv]
 show ((a0E [.sh (.agg [_,_,_,_,_,_])] _).bind _)=_
 simp only [a0E,a0x,a0w,Q3,Q0,Q4,Q1,Q5,if_true]
 show (PT.ev _ a4n _).bind _=_
 simp -implicitDefEqProofs only [a4n,↓reduceIte,eq_self,Z1,Z2,Z3,Z4,Z5,Z6,Z7,Z8,Z9,Za,Zb,Zc,Zd,Ze,Zf,Zg,Zh,Nat.reduceAdd,Zi,if_true,if_false,Zl,Zm,Zn,Zo,Zp,Zq,Zr,Zs,Zt,Zu,Zv,Zw,Zx,Zy,Zz,ZA,ZB,ZC,ZD,ZE,a0D,or_true]
 obtain ⟨a,b,c,d,e,f⟩:=w
 simp only [a0U]
 by_cases hok:(⟨a,b,c,d,e,f⟩:W6).ok
 ·rw [decide_eq_true hok]
  simp only [W6.ok] at hok
  repeat rw [if_neg (by omega)]
  rfl
 ·rw [decide_eq_false hok]
  simp only [W6.ok] at hok
  by_cases h1:a < 0
  ·rw [if_pos h1]; rfl
  rw [if_neg h1]
  by_cases h2:4 < a
  ·rw [if_pos h2]; rfl
  rw [if_neg h2]
  by_cases h3:b < 0
  ·rw [if_pos h3]; rfl
  rw [if_neg h3]
  by_cases h4:4 < b
  ·rw [if_pos h4]; rfl
  rw [if_neg h4]
  by_cases h5:c < 0
  ·rw [if_pos h5]; rfl
  rw [if_neg h5]
  by_cases h6:4 < c
  ·rw [if_pos h6]; rfl
  rw [if_neg h6]
  by_cases h7:d < 0
  ·rw [if_pos h7]; rfl
  rw [if_neg h7]
  by_cases h8:4 < d
  ·rw [if_pos h8]; rfl
  rw [if_neg h8]
  by_cases h9:e < 0
  ·rw [if_pos h9]; rfl
  rw [if_neg h9]
  by_cases h10:4 < e
  ·rw [if_pos h10]; rfl
  rw [if_neg h10]
  by_cases h11:f < 0
  ·rw [if_pos h11]; rfl
  rw [if_neg h11]
  by_cases h12:4 < f
  ·rw [if_pos h12]; rfl
  exfalso; omega
section
variable (σ:List MO) (l:List Pr) (P:PV) (hP:P.rowsOf 5=some (l.map Pr.row)) (n:Nat) (w:W6)
def a3g (σ:List MO) (P:PV) (is:List Int) (w:W6):PEnv:={ i:=is++[w.a,w.b,w.c,w.d,w.e,w.f],b:=[],v:=[P],m:=σ,k:=σ.length }
theorem dr5 (a b c d e:PV):Qf 1 [a,b,c,d,e]=[b,c,d,e]/\Qf 2 [a,b,c,d,e]=[c,d,e]/\Qf 3 [a,b,c,d,e]=[d,e]/\Qf 4 [a,b,c,d,e]=[e]:=⟨rfl,rfl,rfl,rfl⟩
include hP in
theorem c6P (g:Int) (x:Pr) (hx:l[0]?=some x) (hr:x.rng):∀ (m k:Nat),(k:Int)+m=w.a->k+m<=1000->∀ fuel (p1 p2 p3:Int),0<=p1->p1+1000*m<=1000000000000->0<=p2->p2+1000000*m<=1000000000000->0<=p3->p3+m<=1000000000000 ->
  saleroomref08_Sums_S.loop (a0B Tab n) (fuel+m+1) 1 (a3g σ P [g,p1,p2,p3,0,(k:Int)] w)=saleroomref08_Sums_S.loop (a0B Tab n) fuel 0 (a3g σ P [g,p1+m*x.p,p2+m*x.r,if eqB x.g g=true then p3+m else p3,0+1] w):=by
 obtain ⟨p1,p2,p3⟩:=a0C hP
 rw [Q2] at p1
 have hlt:0 < l.length:=(Qb.1 hx).1
 have hd:ltB 0 (l.length:Int)=true:=by rw [a0U]; omega
 have q2:a1z 0 5 2 P=some (.row x.row 2):=a0G (off:=2) (i:=0) hP (a1l hx)
 have q3:a1z 0 5 3 P=some (.row x.row 3):=a0G (off:=3) (i:=0) hP (a1l hx)
 have q4:a1z 0 5 4 P=some (.row x.row 4):=a0G (off:=4) (i:=0) hP (a1l hx)
 simp only [Pr.rng] at hr
 have e5:∀ a b:Int,eqB a b=decide (a=b):=fun _ _=>rfl
 intro m
 induction m with
 | zero =>
  intro k hk hk2 fuel s1 s2 s3 _ _ _ _ _ _
  have hk:ltB (k:Int) w.a=false:=by rw [a0I]; omega
  rw [Sys.loop,show saleroomref08_Sums_S.loops[1]?=some a0H from rfl]
  simp -implicitDefEqProofs only [Q0,a3g,a0H,↓reduceIte,eq_self,ZF,ZG,ZH,ZI,ZJ,ZK,ZL,ZM,ZN,ZO,ZP,ZQ,ZR,ZS,ZT,ZU,ZV,ZW,ZX,ZY,Z2,Z3,Z4,Z5,Z6,Z7,Z8,Z9,Za,Zb,Zc,Zd,Ze,Zf,Zg,Zh,Nat.reduceAdd,Zi,if_true,if_false,Zl,Zm,Zn,Zo,Zp,Zq,Zr,Zs,Zt,Zu,Zv,Zw,Zx,Zy,Zz,ZA,ZB,ZC,ZD,ZE,e5,Int.reduceEq,decide_true,decide_false,hk,Int.reduceAdd]
  simp
 | succ m ih =>
  intro k hk hk2 fuel s1 s2 s3 h1 h2 h3 h4 h5 h6
  have hk':ltB (k:Int) w.a=true:=by rw [a0U]; omega
  have hup:=a1y (show k<=1000000000 by omega)
  obtain ⟨d1,d2,d3,d4⟩:=dr5 (.str x.nm) (.int .i64 x.s) (.int .i64 x.r) (.int .i64 x.p) (.int .i64 x.g)
  have ih:=ih (k+1) (by omega) (by omega) fuel (s1+x.p) (s2+x.r) (if eqB x.g g=true then s3+1 else s3) (by omega) (by omega) (by omega) (by omega) (by split<;>omega) (by split<;>omega)
  have m1:s1+x.p+(m:Int)*x.p=s1+((m+1:Nat):Int)*x.p:=by rw [Q7,Q8]; simp; omega
  have m2:s2+x.r+(m:Int)*x.r=s2+((m+1:Nat):Int)*x.r:=by rw [Q7,Q8]; simp; omega
  rw [m1,m2,a0Q] at ih
  rw [show fuel+(m+1)+1=(fuel+m+1)+1 from rfl,Sys.loop,show saleroomref08_Sums_S.loops[1]?=some a0H from rfl]
  simp -implicitDefEqProofs only [Q0,a3g,a0H,↓reduceIte,eq_self,ZF,ZG,ZH,ZI,ZJ,ZK,ZL,ZM,ZN,ZO,ZP,ZQ,ZR,ZS,ZT,ZU,ZV,ZW,ZX,ZY,Z2,Z3,Z4,Z5,Z6,Z7,Z8,Z9,Za,Zb,Zc,Zd,Ze,Zf,Zg,Zh,Nat.reduceAdd,Zi,if_true,if_false,Zl,Zm,Zn,Zo,Zp,Zq,Zr,Zs,Zt,Zu,Zv,Zw,Zx,Zy,Zz,ZA,ZB,ZC,ZD,ZE,p1,e5,Int.reduceEq,decide_true,decide_false,hk',hd,q2,q3,q4,a2l,d2,d3,d4,Nat.reduceLeDiff,if_pos (a1q (z:=s1+x.p) (by omega)),if_pos (a1q (z:=s2+x.r) (by omega))]
  cases hg:decide (x.g=g) with
  | true =>
   have hg':eqB x.g g=true:=hg
   rw [if_pos hg'] at ih
   simp -implicitDefEqProofs only [↓reduceIte,eq_self,ZF,ZG,ZH,ZI,ZJ,ZK,ZL,ZM,ZN,ZO,ZP,ZQ,ZR,ZS,ZT,ZU,ZV,ZW,ZX,ZY,Z2,Z3,Z4,Z5,Z6,Z7,Z8,Z9,Za,Zb,Zc,Zd,Ze,Zf,Zg,Zh,Nat.reduceAdd,Zi,if_true,if_false,Zl,Zm,Zn,Zo,Zp,Zq,Zr,Zs,Zt,Zu,Zv,Zw,Zx,Zy,Zz,ZA,ZB,ZC,ZD,ZE,if_pos (a1q (z:=s3+1) (by omega)),if_pos hup]
   rw [show s3+((m+1:Nat):Int)=s3+1+(m:Int) by omega]
   rw [if_pos hg'] at ih
   exact ih
  | false =>
   have hg':¬ eqB x.g g=true:=by rw [show eqB x.g g=false from hg]; simp
   rw [if_neg hg'] at ih
   simp -implicitDefEqProofs only [↓reduceIte,eq_self,ZF,ZG,ZH,ZI,ZJ,ZK,ZL,ZM,ZN,ZO,ZP,ZQ,ZR,ZS,ZT,ZU,ZV,ZW,ZX,ZY,Z2,Z3,Z4,Z5,Z6,Z7,Z8,Z9,Za,Zb,Zc,Zd,Ze,Zf,Zg,Zh,Nat.reduceAdd,Zi,if_true,if_false,Zl,Zm,Zn,Zo,Zp,Zq,Zr,Zs,Zt,Zu,Zv,Zw,Zx,Zy,Zz,ZA,ZB,ZC,ZD,ZE,if_pos hup]
   rw [if_neg hg'] at ih
   exact ih
include hP in
theorem c7f (g:Int) (x:Pr) (hx:l[1]?=some x) (hr:x.rng):∀ (m k:Nat),(k:Int)+m=w.b->k+m<=1000->∀ fuel (p1 p2 p3:Int),0<=p1->p1+1000*m<=1000000000000->0<=p2->p2+1000000*m<=1000000000000->0<=p3->p3+m<=1000000000000 ->
  saleroomref08_Sums_S.loop (a0B Tab n) (fuel+m+1) 1 (a3g σ P [g,p1,p2,p3,1,(k:Int)] w)=saleroomref08_Sums_S.loop (a0B Tab n) fuel 0 (a3g σ P [g,p1+m*x.p,p2+m*x.r,if eqB x.g g=true then p3+m else p3,1+1] w):=by
 obtain ⟨p1,p2,p3⟩:=a0C hP
 rw [Q2] at p1
 have hlt:1 < l.length:=(Qb.1 hx).1
 have hd:ltB 1 (l.length:Int)=true:=by rw [a0U]; omega
 have q2:a1z 1 5 2 P=some (.row x.row 2):=a0G (off:=2) (i:=1) hP (a1l hx)
 have q3:a1z 1 5 3 P=some (.row x.row 3):=a0G (off:=3) (i:=1) hP (a1l hx)
 have q4:a1z 1 5 4 P=some (.row x.row 4):=a0G (off:=4) (i:=1) hP (a1l hx)
 simp only [Pr.rng] at hr
 have e5:∀ a b:Int,eqB a b=decide (a=b):=fun _ _=>rfl
 intro m
 induction m with
 | zero =>
  intro k hk hk2 fuel s1 s2 s3 _ _ _ _ _ _
  have hk:ltB (k:Int) w.b=false:=by rw [a0I]; omega
  rw [Sys.loop,show saleroomref08_Sums_S.loops[1]?=some a0H from rfl]
  simp -implicitDefEqProofs only [Q0,a3g,a0H,↓reduceIte,eq_self,ZF,ZG,ZH,ZI,ZJ,ZK,ZL,ZM,ZN,ZO,ZP,ZQ,ZR,ZS,ZT,ZU,ZV,ZW,ZX,ZY,Z2,Z3,Z4,Z5,Z6,Z7,Z8,Z9,Za,Zb,Zc,Zd,Ze,Zf,Zg,Zh,Nat.reduceAdd,Zi,if_true,if_false,Zl,Zm,Zn,Zo,Zp,Zq,Zr,Zs,Zt,Zu,Zv,Zw,Zx,Zy,Zz,ZA,ZB,ZC,ZD,ZE,e5,Int.reduceEq,decide_true,decide_false,hk,Int.reduceAdd]
  simp
 | succ m ih =>
  intro k hk hk2 fuel s1 s2 s3 h1 h2 h3 h4 h5 h6
  have hk':ltB (k:Int) w.b=true:=by rw [a0U]; omega
  have hup:=a1y (show k<=1000000000 by omega)
  obtain ⟨d1,d2,d3,d4⟩:=dr5 (.str x.nm) (.int .i64 x.s) (.int .i64 x.r) (.int .i64 x.p) (.int .i64 x.g)
  have ih:=ih (k+1) (by omega) (by omega) fuel (s1+x.p) (s2+x.r) (if eqB x.g g=true then s3+1 else s3) (by omega) (by omega) (by omega) (by omega) (by split<;>omega) (by split<;>omega)
  have m1:s1+x.p+(m:Int)*x.p=s1+((m+1:Nat):Int)*x.p:=by rw [Q7,Q8]; simp; omega
  have m2:s2+x.r+(m:Int)*x.r=s2+((m+1:Nat):Int)*x.r:=by rw [Q7,Q8]; simp; omega
  rw [m1,m2,a0Q] at ih
  rw [show fuel+(m+1)+1=(fuel+m+1)+1 from rfl,Sys.loop,show saleroomref08_Sums_S.loops[1]?=some a0H from rfl]
  simp -implicitDefEqProofs only [Q0,a3g,a0H,↓reduceIte,eq_self,ZF,ZG,ZH,ZI,ZJ,ZK,ZL,ZM,ZN,ZO,ZP,ZQ,ZR,ZS,ZT,ZU,ZV,ZW,ZX,ZY,Z2,Z3,Z4,Z5,Z6,Z7,Z8,Z9,Za,Zb,Zc,Zd,Ze,Zf,Zg,Zh,Nat.reduceAdd,Zi,if_true,if_false,Zl,Zm,Zn,Zo,Zp,Zq,Zr,Zs,Zt,Zu,Zv,Zw,Zx,Zy,Zz,ZA,ZB,ZC,ZD,ZE,p1,e5,Int.reduceEq,decide_true,decide_false,hk',hd,q2,q3,q4,a2l,d2,d3,d4,Nat.reduceLeDiff,if_pos (a1q (z:=s1+x.p) (by omega)),if_pos (a1q (z:=s2+x.r) (by omega))]
  cases hg:decide (x.g=g) with
  | true =>
   have hg':eqB x.g g=true:=hg
   rw [if_pos hg'] at ih
   simp -implicitDefEqProofs only [↓reduceIte,eq_self,ZF,ZG,ZH,ZI,ZJ,ZK,ZL,ZM,ZN,ZO,ZP,ZQ,ZR,ZS,ZT,ZU,ZV,ZW,ZX,ZY,Z2,Z3,Z4,Z5,Z6,Z7,Z8,Z9,Za,Zb,Zc,Zd,Ze,Zf,Zg,Zh,Nat.reduceAdd,Zi,if_true,if_false,Zl,Zm,Zn,Zo,Zp,Zq,Zr,Zs,Zt,Zu,Zv,Zw,Zx,Zy,Zz,ZA,ZB,ZC,ZD,ZE,if_pos (a1q (z:=s3+1) (by omega)),if_pos hup]
   rw [show s3+((m+1:Nat):Int)=s3+1+(m:Int) by omega]
   rw [if_pos hg'] at ih
   exact ih
  | false =>
   have hg':¬ eqB x.g g=true:=by rw [show eqB x.g g=false from hg]; simp
   rw [if_neg hg'] at ih
   simp -implicitDefEqProofs only [↓reduceIte,eq_self,ZF,ZG,ZH,ZI,ZJ,ZK,ZL,ZM,ZN,ZO,ZP,ZQ,ZR,ZS,ZT,ZU,ZV,ZW,ZX,ZY,Z2,Z3,Z4,Z5,Z6,Z7,Z8,Z9,Za,Zb,Zc,Zd,Ze,Zf,Zg,Zh,Nat.reduceAdd,Zi,if_true,if_false,Zl,Zm,Zn,Zo,Zp,Zq,Zr,Zs,Zt,Zu,Zv,Zw,Zx,Zy,Zz,ZA,ZB,ZC,ZD,ZE,if_pos hup]
   rw [if_neg hg'] at ih
   exact ih
include hP in
theorem c6H (g:Int) (x:Pr) (hx:l[2]?=some x) (hr:x.rng):∀ (m k:Nat),(k:Int)+m=w.c->k+m<=1000->∀ fuel (p1 p2 p3:Int),0<=p1->p1+1000*m<=1000000000000->0<=p2->p2+1000000*m<=1000000000000->0<=p3->p3+m<=1000000000000 ->
  saleroomref08_Sums_S.loop (a0B Tab n) (fuel+m+1) 1 (a3g σ P [g,p1,p2,p3,2,(k:Int)] w)=saleroomref08_Sums_S.loop (a0B Tab n) fuel 0 (a3g σ P [g,p1+m*x.p,p2+m*x.r,if eqB x.g g=true then p3+m else p3,2+1] w):=by
 obtain ⟨p1,p2,p3⟩:=a0C hP
 rw [Q2] at p1
 have hlt:2 < l.length:=(Qb.1 hx).1
 have hd:ltB 2 (l.length:Int)=true:=by rw [a0U]; omega
 have q2:a1z 2 5 2 P=some (.row x.row 2):=a0G (off:=2) (i:=2) hP (a1l hx)
 have q3:a1z 2 5 3 P=some (.row x.row 3):=a0G (off:=3) (i:=2) hP (a1l hx)
 have q4:a1z 2 5 4 P=some (.row x.row 4):=a0G (off:=4) (i:=2) hP (a1l hx)
 simp only [Pr.rng] at hr
 have e5:∀ a b:Int,eqB a b=decide (a=b):=fun _ _=>rfl
 intro m
 induction m with
 | zero =>
  intro k hk hk2 fuel s1 s2 s3 _ _ _ _ _ _
  have hk:ltB (k:Int) w.c=false:=by rw [a0I]; omega
  rw [Sys.loop,show saleroomref08_Sums_S.loops[1]?=some a0H from rfl]
  simp -implicitDefEqProofs only [Q0,a3g,a0H,↓reduceIte,eq_self,ZF,ZG,ZH,ZI,ZJ,ZK,ZL,ZM,ZN,ZO,ZP,ZQ,ZR,ZS,ZT,ZU,ZV,ZW,ZX,ZY,Z2,Z3,Z4,Z5,Z6,Z7,Z8,Z9,Za,Zb,Zc,Zd,Ze,Zf,Zg,Zh,Nat.reduceAdd,Zi,if_true,if_false,Zl,Zm,Zn,Zo,Zp,Zq,Zr,Zs,Zt,Zu,Zv,Zw,Zx,Zy,Zz,ZA,ZB,ZC,ZD,ZE,e5,Int.reduceEq,decide_true,decide_false,hk,Int.reduceAdd]
  simp
 | succ m ih =>
  intro k hk hk2 fuel s1 s2 s3 h1 h2 h3 h4 h5 h6
  have hk':ltB (k:Int) w.c=true:=by rw [a0U]; omega
  have hup:=a1y (show k<=1000000000 by omega)
  obtain ⟨d1,d2,d3,d4⟩:=dr5 (.str x.nm) (.int .i64 x.s) (.int .i64 x.r) (.int .i64 x.p) (.int .i64 x.g)
  have ih:=ih (k+1) (by omega) (by omega) fuel (s1+x.p) (s2+x.r) (if eqB x.g g=true then s3+1 else s3) (by omega) (by omega) (by omega) (by omega) (by split<;>omega) (by split<;>omega)
  have m1:s1+x.p+(m:Int)*x.p=s1+((m+1:Nat):Int)*x.p:=by rw [Q7,Q8]; simp; omega
  have m2:s2+x.r+(m:Int)*x.r=s2+((m+1:Nat):Int)*x.r:=by rw [Q7,Q8]; simp; omega
  rw [m1,m2,a0Q] at ih
  rw [show fuel+(m+1)+1=(fuel+m+1)+1 from rfl,Sys.loop,show saleroomref08_Sums_S.loops[1]?=some a0H from rfl]
  simp -implicitDefEqProofs only [Q0,a3g,a0H,↓reduceIte,eq_self,ZF,ZG,ZH,ZI,ZJ,ZK,ZL,ZM,ZN,ZO,ZP,ZQ,ZR,ZS,ZT,ZU,ZV,ZW,ZX,ZY,Z2,Z3,Z4,Z5,Z6,Z7,Z8,Z9,Za,Zb,Zc,Zd,Ze,Zf,Zg,Zh,Nat.reduceAdd,Zi,if_true,if_false,Zl,Zm,Zn,Zo,Zp,Zq,Zr,Zs,Zt,Zu,Zv,Zw,Zx,Zy,Zz,ZA,ZB,ZC,ZD,ZE,p1,e5,Int.reduceEq,decide_true,decide_false,hk',hd,q2,q3,q4,a2l,d2,d3,d4,Nat.reduceLeDiff,if_pos (a1q (z:=s1+x.p) (by omega)),if_pos (a1q (z:=s2+x.r) (by omega))]
  cases hg:decide (x.g=g) with
  | true =>
   have hg':eqB x.g g=true:=hg
   rw [if_pos hg'] at ih
   simp -implicitDefEqProofs only [↓reduceIte,eq_self,ZF,ZG,ZH,ZI,ZJ,ZK,ZL,ZM,ZN,ZO,ZP,ZQ,ZR,ZS,ZT,ZU,ZV,ZW,ZX,ZY,Z2,Z3,Z4,Z5,Z6,Z7,Z8,Z9,Za,Zb,Zc,Zd,Ze,Zf,Zg,Zh,Nat.reduceAdd,Zi,if_true,if_false,Zl,Zm,Zn,Zo,Zp,Zq,Zr,Zs,Zt,Zu,Zv,Zw,Zx,Zy,Zz,ZA,ZB,ZC,ZD,ZE,if_pos (a1q (z:=s3+1) (by omega)),if_pos hup]
   rw [show s3+((m+1:Nat):Int)=s3+1+(m:Int) by omega]
   rw [if_pos hg'] at ih
   exact ih
  | false =>
   have hg':¬ eqB x.g g=true:=by rw [show eqB x.g g=false from hg]; simp
   rw [if_neg hg'] at ih
   simp -implicitDefEqProofs only [↓reduceIte,eq_self,ZF,ZG,ZH,ZI,ZJ,ZK,ZL,ZM,ZN,ZO,ZP,ZQ,ZR,ZS,ZT,ZU,ZV,ZW,ZX,ZY,Z2,Z3,Z4,Z5,Z6,Z7,Z8,Z9,Za,Zb,Zc,Zd,Ze,Zf,Zg,Zh,Nat.reduceAdd,Zi,if_true,if_false,Zl,Zm,Zn,Zo,Zp,Zq,Zr,Zs,Zt,Zu,Zv,Zw,Zx,Zy,Zz,ZA,ZB,ZC,ZD,ZE,if_pos hup]
   rw [if_neg hg'] at ih
   exact ih
include hP in
theorem c6Q (g:Int) (x:Pr) (hx:l[3]?=some x) (hr:x.rng):∀ (m k:Nat),(k:Int)+m=w.d->k+m<=1000->∀ fuel (p1 p2 p3:Int),0<=p1->p1+1000*m<=1000000000000->0<=p2->p2+1000000*m<=1000000000000->0<=p3->p3+m<=1000000000000 ->
  saleroomref08_Sums_S.loop (a0B Tab n) (fuel+m+1) 1 (a3g σ P [g,p1,p2,p3,3,(k:Int)] w)=saleroomref08_Sums_S.loop (a0B Tab n) fuel 0 (a3g σ P [g,p1+m*x.p,p2+m*x.r,if eqB x.g g=true then p3+m else p3,3+1] w):=by
 obtain ⟨p1,p2,p3⟩:=a0C hP
 rw [Q2] at p1
 have hlt:3 < l.length:=(Qb.1 hx).1
 have hd:ltB 3 (l.length:Int)=true:=by rw [a0U]; omega
 have q2:a1z 3 5 2 P=some (.row x.row 2):=a0G (off:=2) (i:=3) hP (a1l hx)
 have q3:a1z 3 5 3 P=some (.row x.row 3):=a0G (off:=3) (i:=3) hP (a1l hx)
 have q4:a1z 3 5 4 P=some (.row x.row 4):=a0G (off:=4) (i:=3) hP (a1l hx)
 simp only [Pr.rng] at hr
 have e5:∀ a b:Int,eqB a b=decide (a=b):=fun _ _=>rfl
 intro m
 induction m with
 | zero =>
  intro k hk hk2 fuel s1 s2 s3 _ _ _ _ _ _
  have hk:ltB (k:Int) w.d=false:=by rw [a0I]; omega
  rw [Sys.loop,show saleroomref08_Sums_S.loops[1]?=some a0H from rfl]
  simp -implicitDefEqProofs only [Q0,a3g,a0H,↓reduceIte,eq_self,ZF,ZG,ZH,ZI,ZJ,ZK,ZL,ZM,ZN,ZO,ZP,ZQ,ZR,ZS,ZT,ZU,ZV,ZW,ZX,ZY,Z2,Z3,Z4,Z5,Z6,Z7,Z8,Z9,Za,Zb,Zc,Zd,Ze,Zf,Zg,Zh,Nat.reduceAdd,Zi,if_true,if_false,Zl,Zm,Zn,Zo,Zp,Zq,Zr,Zs,Zt,Zu,Zv,Zw,Zx,Zy,Zz,ZA,ZB,ZC,ZD,ZE,e5,Int.reduceEq,decide_true,decide_false,hk,Int.reduceAdd]
  simp
 | succ m ih =>
  intro k hk hk2 fuel s1 s2 s3 h1 h2 h3 h4 h5 h6
  have hk':ltB (k:Int) w.d=true:=by rw [a0U]; omega
  have hup:=a1y (show k<=1000000000 by omega)
  obtain ⟨d1,d2,d3,d4⟩:=dr5 (.str x.nm) (.int .i64 x.s) (.int .i64 x.r) (.int .i64 x.p) (.int .i64 x.g)
  have ih:=ih (k+1) (by omega) (by omega) fuel (s1+x.p) (s2+x.r) (if eqB x.g g=true then s3+1 else s3) (by omega) (by omega) (by omega) (by omega) (by split<;>omega) (by split<;>omega)
  have m1:s1+x.p+(m:Int)*x.p=s1+((m+1:Nat):Int)*x.p:=by rw [Q7,Q8]; simp; omega
  have m2:s2+x.r+(m:Int)*x.r=s2+((m+1:Nat):Int)*x.r:=by rw [Q7,Q8]; simp; omega
  rw [m1,m2,a0Q] at ih
  rw [show fuel+(m+1)+1=(fuel+m+1)+1 from rfl,Sys.loop,show saleroomref08_Sums_S.loops[1]?=some a0H from rfl]
  simp -implicitDefEqProofs only [Q0,a3g,a0H,↓reduceIte,eq_self,ZF,ZG,ZH,ZI,ZJ,ZK,ZL,ZM,ZN,ZO,ZP,ZQ,ZR,ZS,ZT,ZU,ZV,ZW,ZX,ZY,Z2,Z3,Z4,Z5,Z6,Z7,Z8,Z9,Za,Zb,Zc,Zd,Ze,Zf,Zg,Zh,Nat.reduceAdd,Zi,if_true,if_false,Zl,Zm,Zn,Zo,Zp,Zq,Zr,Zs,Zt,Zu,Zv,Zw,Zx,Zy,Zz,ZA,ZB,ZC,ZD,ZE,p1,e5,Int.reduceEq,decide_true,decide_false,hk',hd,q2,q3,q4,a2l,d2,d3,d4,Nat.reduceLeDiff,if_pos (a1q (z:=s1+x.p) (by omega)),if_pos (a1q (z:=s2+x.r) (by omega))]
  cases hg:decide (x.g=g) with
  | true =>
   have hg':eqB x.g g=true:=hg
   rw [if_pos hg'] at ih
   simp -implicitDefEqProofs only [↓reduceIte,eq_self,ZF,ZG,ZH,ZI,ZJ,ZK,ZL,ZM,ZN,ZO,ZP,ZQ,ZR,ZS,ZT,ZU,ZV,ZW,ZX,ZY,Z2,Z3,Z4,Z5,Z6,Z7,Z8,Z9,Za,Zb,Zc,Zd,Ze,Zf,Zg,Zh,Nat.reduceAdd,Zi,if_true,if_false,Zl,Zm,Zn,Zo,Zp,Zq,Zr,Zs,Zt,Zu,Zv,Zw,Zx,Zy,Zz,ZA,ZB,ZC,ZD,ZE,if_pos (a1q (z:=s3+1) (by omega)),if_pos hup]
   rw [show s3+((m+1:Nat):Int)=s3+1+(m:Int) by omega]
   rw [if_pos hg'] at ih
   exact ih
  | false =>
   have hg':¬ eqB x.g g=true:=by rw [show eqB x.g g=false from hg]; simp
   rw [if_neg hg'] at ih
   simp -implicitDefEqProofs only [↓reduceIte,eq_self,ZF,ZG,ZH,ZI,ZJ,ZK,ZL,ZM,ZN,ZO,ZP,ZQ,ZR,ZS,ZT,ZU,ZV,ZW,ZX,ZY,Z2,Z3,Z4,Z5,Z6,Z7,Z8,Z9,Za,Zb,Zc,Zd,Ze,Zf,Zg,Zh,Nat.reduceAdd,Zi,if_true,if_false,Zl,Zm,Zn,Zo,Zp,Zq,Zr,Zs,Zt,Zu,Zv,Zw,Zx,Zy,Zz,ZA,ZB,ZC,ZD,ZE,if_pos hup]
   rw [if_neg hg'] at ih
   exact ih
include hP in
theorem c6D (g:Int) (x:Pr) (hx:l[4]?=some x) (hr:x.rng):∀ (m k:Nat),(k:Int)+m=w.e->k+m<=1000->∀ fuel (p1 p2 p3:Int),0<=p1->p1+1000*m<=1000000000000->0<=p2->p2+1000000*m<=1000000000000->0<=p3->p3+m<=1000000000000 ->
  saleroomref08_Sums_S.loop (a0B Tab n) (fuel+m+1) 1 (a3g σ P [g,p1,p2,p3,4,(k:Int)] w)=saleroomref08_Sums_S.loop (a0B Tab n) fuel 0 (a3g σ P [g,p1+m*x.p,p2+m*x.r,if eqB x.g g=true then p3+m else p3,4+1] w):=by
 obtain ⟨p1,p2,p3⟩:=a0C hP
 rw [Q2] at p1
 have hlt:4 < l.length:=(Qb.1 hx).1
 have hd:ltB 4 (l.length:Int)=true:=by rw [a0U]; omega
 have q2:a1z 4 5 2 P=some (.row x.row 2):=a0G (off:=2) (i:=4) hP (a1l hx)
 have q3:a1z 4 5 3 P=some (.row x.row 3):=a0G (off:=3) (i:=4) hP (a1l hx)
 have q4:a1z 4 5 4 P=some (.row x.row 4):=a0G (off:=4) (i:=4) hP (a1l hx)
 simp only [Pr.rng] at hr
 have e5:∀ a b:Int,eqB a b=decide (a=b):=fun _ _=>rfl
 intro m
 induction m with
 | zero =>
  intro k hk hk2 fuel s1 s2 s3 _ _ _ _ _ _
  have hk:ltB (k:Int) w.e=false:=by rw [a0I]; omega
  rw [Sys.loop,show saleroomref08_Sums_S.loops[1]?=some a0H from rfl]
  simp -implicitDefEqProofs only [Q0,a3g,a0H,↓reduceIte,eq_self,ZF,ZG,ZH,ZI,ZJ,ZK,ZL,ZM,ZN,ZO,ZP,ZQ,ZR,ZS,ZT,ZU,ZV,ZW,ZX,ZY,Z2,Z3,Z4,Z5,Z6,Z7,Z8,Z9,Za,Zb,Zc,Zd,Ze,Zf,Zg,Zh,Nat.reduceAdd,Zi,if_true,if_false,Zl,Zm,Zn,Zo,Zp,Zq,Zr,Zs,Zt,Zu,Zv,Zw,Zx,Zy,Zz,ZA,ZB,ZC,ZD,ZE,e5,Int.reduceEq,decide_true,decide_false,hk,Int.reduceAdd]
  simp
 | succ m ih =>
  intro k hk hk2 fuel s1 s2 s3 h1 h2 h3 h4 h5 h6
  have hk':ltB (k:Int) w.e=true:=by rw [a0U]; omega
  have hup:=a1y (show k<=1000000000 by omega)
  obtain ⟨d1,d2,d3,d4⟩:=dr5 (.str x.nm) (.int .i64 x.s) (.int .i64 x.r) (.int .i64 x.p) (.int .i64 x.g)
  have ih:=ih (k+1) (by omega) (by omega) fuel (s1+x.p) (s2+x.r) (if eqB x.g g=true then s3+1 else s3) (by omega) (by omega) (by omega) (by omega) (by split<;>omega) (by split<;>omega)
  have m1:s1+x.p+(m:Int)*x.p=s1+((m+1:Nat):Int)*x.p:=by rw [Q7,Q8]; simp; omega
  have m2:s2+x.r+(m:Int)*x.r=s2+((m+1:Nat):Int)*x.r:=by rw [Q7,Q8]; simp; omega
  rw [m1,m2,a0Q] at ih
  rw [show fuel+(m+1)+1=(fuel+m+1)+1 from rfl,Sys.loop,show saleroomref08_Sums_S.loops[1]?=some a0H from rfl]
  simp -implicitDefEqProofs only [Q0,a3g,a0H,↓reduceIte,eq_self,ZF,ZG,ZH,ZI,ZJ,ZK,ZL,ZM,ZN,ZO,ZP,ZQ,ZR,ZS,ZT,ZU,ZV,ZW,ZX,ZY,Z2,Z3,Z4,Z5,Z6,Z7,Z8,Z9,Za,Zb,Zc,Zd,Ze,Zf,Zg,Zh,Nat.reduceAdd,Zi,if_true,if_false,Zl,Zm,Zn,Zo,Zp,Zq,Zr,Zs,Zt,Zu,Zv,Zw,Zx,Zy,Zz,ZA,ZB,ZC,ZD,ZE,p1,e5,Int.reduceEq,decide_true,decide_false,hk',hd,q2,q3,q4,a2l,d2,d3,d4,Nat.reduceLeDiff,if_pos (a1q (z:=s1+x.p) (by omega)),if_pos (a1q (z:=s2+x.r) (by omega))]
  cases hg:decide (x.g=g) with
  | true =>
   have hg':eqB x.g g=true:=hg
   rw [if_pos hg'] at ih
   simp -implicitDefEqProofs only [↓reduceIte,eq_self,ZF,ZG,ZH,ZI,ZJ,ZK,ZL,ZM,ZN,ZO,ZP,ZQ,ZR,ZS,ZT,ZU,ZV,ZW,ZX,ZY,Z2,Z3,Z4,Z5,Z6,Z7,Z8,Z9,Za,Zb,Zc,Zd,Ze,Zf,Zg,Zh,Nat.reduceAdd,Zi,if_true,if_false,Zl,Zm,Zn,Zo,Zp,Zq,Zr,Zs,Zt,Zu,Zv,Zw,Zx,Zy,Zz,ZA,ZB,ZC,ZD,ZE,if_pos (a1q (z:=s3+1) (by omega)),if_pos hup]
   rw [show s3+((m+1:Nat):Int)=s3+1+(m:Int) by omega]
   rw [if_pos hg'] at ih
   exact ih
  | false =>
   have hg':¬ eqB x.g g=true:=by rw [show eqB x.g g=false from hg]; simp
   rw [if_neg hg'] at ih
   simp -implicitDefEqProofs only [↓reduceIte,eq_self,ZF,ZG,ZH,ZI,ZJ,ZK,ZL,ZM,ZN,ZO,ZP,ZQ,ZR,ZS,ZT,ZU,ZV,ZW,ZX,ZY,Z2,Z3,Z4,Z5,Z6,Z7,Z8,Z9,Za,Zb,Zc,Zd,Ze,Zf,Zg,Zh,Nat.reduceAdd,Zi,if_true,if_false,Zl,Zm,Zn,Zo,Zp,Zq,Zr,Zs,Zt,Zu,Zv,Zw,Zx,Zy,Zz,ZA,ZB,ZC,ZD,ZE,if_pos hup]
   rw [if_neg hg'] at ih
   exact ih
include hP in
theorem c6V (g:Int) (x:Pr) (hx:l[5]?=some x) (hr:x.rng):∀ (m k:Nat),(k:Int)+m=w.f->k+m<=1000->∀ fuel (p1 p2 p3:Int),0<=p1->p1+1000*m<=1000000000000->0<=p2->p2+1000000*m<=1000000000000->0<=p3->p3+m<=1000000000000 ->
  saleroomref08_Sums_S.loop (a0B Tab n) (fuel+m+1) 1 (a3g σ P [g,p1,p2,p3,5,(k:Int)] w)=saleroomref08_Sums_S.loop (a0B Tab n) fuel 0 (a3g σ P [g,p1+m*x.p,p2+m*x.r,if eqB x.g g=true then p3+m else p3,5+1] w):=by
 obtain ⟨p1,p2,p3⟩:=a0C hP
 rw [Q2] at p1
 have hlt:5 < l.length:=(Qb.1 hx).1
 have hd:ltB 5 (l.length:Int)=true:=by rw [a0U]; omega
 have q2:a1z 5 5 2 P=some (.row x.row 2):=a0G (off:=2) (i:=5) hP (a1l hx)
 have q3:a1z 5 5 3 P=some (.row x.row 3):=a0G (off:=3) (i:=5) hP (a1l hx)
 have q4:a1z 5 5 4 P=some (.row x.row 4):=a0G (off:=4) (i:=5) hP (a1l hx)
 simp only [Pr.rng] at hr
 have e5:∀ a b:Int,eqB a b=decide (a=b):=fun _ _=>rfl
 intro m
 induction m with
 | zero =>
  intro k hk hk2 fuel s1 s2 s3 _ _ _ _ _ _
  have hk:ltB (k:Int) w.f=false:=by rw [a0I]; omega
  rw [Sys.loop,show saleroomref08_Sums_S.loops[1]?=some a0H from rfl]
  simp -implicitDefEqProofs only [Q0,a3g,a0H,↓reduceIte,eq_self,ZF,ZG,ZH,ZI,ZJ,ZK,ZL,ZM,ZN,ZO,ZP,ZQ,ZR,ZS,ZT,ZU,ZV,ZW,ZX,ZY,Z2,Z3,Z4,Z5,Z6,Z7,Z8,Z9,Za,Zb,Zc,Zd,Ze,Zf,Zg,Zh,Nat.reduceAdd,Zi,if_true,if_false,Zl,Zm,Zn,Zo,Zp,Zq,Zr,Zs,Zt,Zu,Zv,Zw,Zx,Zy,Zz,ZA,ZB,ZC,ZD,ZE,e5,Int.reduceEq,decide_true,decide_false,hk,Int.reduceAdd]
  simp
 | succ m ih =>
  intro k hk hk2 fuel s1 s2 s3 h1 h2 h3 h4 h5 h6
  have hk':ltB (k:Int) w.f=true:=by rw [a0U]; omega
  have hup:=a1y (show k<=1000000000 by omega)
  obtain ⟨d1,d2,d3,d4⟩:=dr5 (.str x.nm) (.int .i64 x.s) (.int .i64 x.r) (.int .i64 x.p) (.int .i64 x.g)
  have ih:=ih (k+1) (by omega) (by omega) fuel (s1+x.p) (s2+x.r) (if eqB x.g g=true then s3+1 else s3) (by omega) (by omega) (by omega) (by omega) (by split<;>omega) (by split<;>omega)
  have m1:s1+x.p+(m:Int)*x.p=s1+((m+1:Nat):Int)*x.p:=by rw [Q7,Q8]; simp; omega
  have m2:s2+x.r+(m:Int)*x.r=s2+((m+1:Nat):Int)*x.r:=by rw [Q7,Q8]; simp; omega
  rw [m1,m2,a0Q] at ih
  rw [show fuel+(m+1)+1=(fuel+m+1)+1 from rfl,Sys.loop,show saleroomref08_Sums_S.loops[1]?=some a0H from rfl]
  simp -implicitDefEqProofs only [Q0,a3g,a0H,↓reduceIte,eq_self,ZF,ZG,ZH,ZI,ZJ,ZK,ZL,ZM,ZN,ZO,ZP,ZQ,ZR,ZS,ZT,ZU,ZV,ZW,ZX,ZY,Z2,Z3,Z4,Z5,Z6,Z7,Z8,Z9,Za,Zb,Zc,Zd,Ze,Zf,Zg,Zh,Nat.reduceAdd,Zi,if_true,if_false,Zl,Zm,Zn,Zo,Zp,Zq,Zr,Zs,Zt,Zu,Zv,Zw,Zx,Zy,Zz,ZA,ZB,ZC,ZD,ZE,p1,e5,Int.reduceEq,decide_true,decide_false,hk',hd,q2,q3,q4,a2l,d2,d3,d4,Nat.reduceLeDiff,if_pos (a1q (z:=s1+x.p) (by omega)),if_pos (a1q (z:=s2+x.r) (by omega))]
  cases hg:decide (x.g=g) with
  | true =>
   have hg':eqB x.g g=true:=hg
   rw [if_pos hg'] at ih
   simp -implicitDefEqProofs only [↓reduceIte,eq_self,ZF,ZG,ZH,ZI,ZJ,ZK,ZL,ZM,ZN,ZO,ZP,ZQ,ZR,ZS,ZT,ZU,ZV,ZW,ZX,ZY,Z2,Z3,Z4,Z5,Z6,Z7,Z8,Z9,Za,Zb,Zc,Zd,Ze,Zf,Zg,Zh,Nat.reduceAdd,Zi,if_true,if_false,Zl,Zm,Zn,Zo,Zp,Zq,Zr,Zs,Zt,Zu,Zv,Zw,Zx,Zy,Zz,ZA,ZB,ZC,ZD,ZE,if_pos (a1q (z:=s3+1) (by omega)),if_pos hup]
   rw [show s3+((m+1:Nat):Int)=s3+1+(m:Int) by omega]
   rw [if_pos hg'] at ih
   exact ih
  | false =>
   have hg':¬ eqB x.g g=true:=by rw [show eqB x.g g=false from hg]; simp
   rw [if_neg hg'] at ih
   simp -implicitDefEqProofs only [↓reduceIte,eq_self,ZF,ZG,ZH,ZI,ZJ,ZK,ZL,ZM,ZN,ZO,ZP,ZQ,ZR,ZS,ZT,ZU,ZV,ZW,ZX,ZY,Z2,Z3,Z4,Z5,Z6,Z7,Z8,Z9,Za,Zb,Zc,Zd,Ze,Zf,Zg,Zh,Nat.reduceAdd,Zi,if_true,if_false,Zl,Zm,Zn,Zo,Zp,Zq,Zr,Zs,Zt,Zu,Zv,Zw,Zx,Zy,Zz,ZA,ZB,ZC,ZD,ZE,if_pos hup]
   rw [if_neg hg'] at ih
   exact ih
end
end Go.Proofs.Ytflcopaopimlpaa
