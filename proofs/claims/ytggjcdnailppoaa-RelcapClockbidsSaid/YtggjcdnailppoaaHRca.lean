/- The examples of the chapter on relative caps. -/
import Derived.Test.YtggjcdnailppoaaHSys
import Derived.Test.YtggjcdnailppoaaHTxe
import Derived.Test.YtggjcdnailppoaaHRvb
import Derived.Test.YtggjcdnailppoaaHGx
set_option linter.unusedSimpArgs false
set_option linter.unusedVariables false
open Go.Sx.BE renaming safe → Z2, pe → Z3, all → Zz
open Go.Sx.IE renaming pe → Z4
open Go.Sx renaming PEnv.at → Z5
open Go.Sx.PEnv renaming push → Zt
open List renaming getD_cons_zero → Z6, getD_cons_succ → Z7, getElem?_cons_zero → Z8, getElem?_cons_succ → Z9, drop_zero → Zf, length_cons → Zg, length_nil → Zh, take_succ_cons → Zm, take_zero → Zn, cons_append → Zu, nil_append → Zv, append_nil → Zw, map_cons → ZD, map_nil → ZE
open Go.Sx renaming a0i → Za, a0k → Zb, a0b → Zc, a0j → Zd, a0c → Zo, a0a → Zp, a0d → Zq, a0z → ZF, a0B → ZG, a0r → ZH, a0q → ZI, a0x → ZJ, a0w → ZK, a0o → ZL, a0A → ZM, a0p → ZN, a0u → ZO, a0m → ZP, a0v → ZQ, a0y → ZR, a0g → ZS, a0s → ZT, a0l → ZU, a0f → ZV, a0e → ZW, a0h → ZX, a0t → ZY
open Nat renaming add_zero → Ze, le_refl → Zi
open Bool renaming false_eq_true → Zl, and_self → ZA, not_true → ZB, not_false → ZC
open Option renaming map_some → Zr, bind_some → Zs
open Go.Sx.SV renaming pvs → Zx, pv → Zy
open Option renaming bind_some → Q0, map_some → Q2
open Bool renaming false_and → Q1, true_and → Q6, not_false → Q9
open List renaming append_nil → Q3, nil_append → Q4, cons_append → Q5, all_cons → Q7, all_nil → Q8, length_map → Qa, filter_nil → Qb, foldl_nil → Qd
open Int renaming cast_ofNat_Int → Qe
set_option maxRecDepth 100000
namespace Go.Proofs.Ytggjcdnailppoaa
open Go.Sx
theorem b9f:a0n Tab 40000 a5a [] []=some (.bool true,[]):=by kernel_rfl
end Go.Proofs.Ytggjcdnailppoaa
set_option maxRecDepth 100000
namespace Go.Proofs.Ytggjcdnailppoaa
open Go.Sx
structure Of where
 (n:Int) (w:W6) (v:Int)
def Of.row (o:Of):List PV:=.int .i64 o.n::(o.w.pv++[.int .i64 o.v])
theorem a2F (o:Of):o.row=[.int .i64 o.n,.int .i64 o.w.a,.int .i64 o.w.b,.int .i64 o.w.c,.int .i64 o.w.d,.int .i64 o.w.e,.int .i64 o.w.f,.int .i64 o.v]:=rfl
def Of.right (o:Of):Bool:=decide o.w.ok&&(!o.w.isZ&&(leB 1 o.v&&leB o.v 1000000))
theorem a2E {l:List Of} {i:Nat} {x:Of} (h:l[i]?=some x):(l.map Of.row)[i]?=some x.row:=by simp [h]
theorem b3r (w:W6):eqB (a5Y w) 0=decide w.ok:=by
 unfold a5Y
 by_cases h:w.ok
 ·rw [if_pos h,decide_eq_true h]; rfl
 ·rw [if_neg h,decide_eq_false h]; rfl
theorem a4z (σ:List MO) (o:Of) (n:Nat) (hn:2<=n):a0n Tab n a3a [.agg o.row] σ=some (.bool o.right,σ):=by
 obtain ⟨n,rfl⟩:∃ k,n=k+1:=⟨n-1,by omega⟩
 have c1:=a2H σ o.w n (by omega)
 have hb:=b3r o.w
 obtain ⟨b,⟨a',b',c',d',e',f'⟩,v⟩:=o
 generalize hy:a5Y ⟨a',b',c',d',e',f'⟩=y at *
 simp only [a2q,W6.pv] at c1
 simp only [a0n,a7j,Q0,Sys.run,a2F]
 show ((a0D [.sh (.agg [_,_,_,_,_,_,_,_])] _).bind _)=_
 simp only [a0D,a0d,a0c,Q2,Q0,Q3,Q4,Q5,if_true]
 show (PT.ev _ a2X _).bind _=_
 have hz:(eqB a' 0&&(eqB b' 0&&(eqB c' 0&&(eqB d' 0&&(eqB e' 0&&eqB f' 0)))))=(⟨a',b',c',d',e',f'⟩:W6).isZ:=rfl
 simp -implicitDefEqProofs only [a2X,↓reduceIte,eq_self,ZF,ZG,ZH,ZI,ZJ,ZK,ZL,ZM,ZN,ZO,ZP,ZQ,ZR,ZS,ZT,ZU,ZV,ZW,ZX,ZY,Z2,Z3,Z4,Z5,Z6,Z7,Z8,Z9,Za,Zb,Zc,Zd,Ze,Zf,Zg,Zh,Nat.reduceAdd,Zi,if_true,if_false,Zl,Zm,Zn,Zo,Zp,Zq,Zr,Zs,Zt,Zu,Zv,Zw,Zx,Zy,Zz,ZA,ZB,ZC,ZD,ZE,a0P,or_true,c1,hb,hz,Of.right]
 cases decide (⟨a',b',c',d',e',f'⟩:W6).ok<;>cases (⟨a',b',c',d',e',f'⟩:W6).isZ<;>cases leB 1 v<;>simp -implicitDefEqProofs only [↓reduceIte,eq_self,ZF,ZG,ZH,ZI,ZJ,ZK,ZL,ZM,ZN,ZO,ZP,ZQ,ZR,ZS,ZT,ZU,ZV,ZW,ZX,ZY,Z2,Z3,Z4,Z5,Z6,Z7,Z8,Z9,Za,Zb,Zc,Zd,Ze,Zf,Zg,Zh,Nat.reduceAdd,Zi,if_true,if_false,Zl,Zm,Zn,Zo,Zp,Zq,Zr,Zs,Zt,Zu,Zv,Zw,Zx,Zy,Zz,ZA,ZB,ZC,ZD,ZE,a0P,or_true,Q6,Q1,Bool.not_true,Q9]
theorem b8r (x:Ch):eqB (a5A [x] [] []) 4=!decide x.ok:=by
 unfold a5A
 by_cases h:x.ok
 ·rw [decide_eq_true h]
  simp only [Q7,Q8,decide_eq_true h,Bool.and_true,if_true]
  split
  ·split
   ·split<;>rfl
   ·split<;>rfl
  ·rfl
 ·rw [decide_eq_false h]
  simp only [Q7,Q8,decide_eq_false h,Q1]
  rfl
theorem b3S (σ:List MO) (l:List Ch) (P:PV) (hP:P.rowsOf 12=some (l.map Ch.row)) (n:Nat) (hn:l.length+500<=n) (hl:l.length<=1000000) :
  a0n Tab n a2d [P] σ=some (.bool (l.all fun x=>decide x.ok),σ):=by
 obtain ⟨n,rfl⟩:∃ k,n=k+1:=⟨n-1,by omega⟩
 obtain ⟨p1,p2,p3⟩:=a0O hP
 rw [Qa] at p1
 have loop:∀ (fuel i:Nat),l.length-i < fuel->i<=l.length->relcap_sound_S.loop (a0n Tab n) fuel 0 { i:=[(l.length:Int),(i:Int)],b:=[],v:=[P],m:=σ,k:=σ.length }=some (.bool ((l.drop i).all fun x=>decide x.ok),σ):=by
  intro fuel
  induction fuel with
  | zero=>intro i h; omega
  | succ fuel ihf =>
   intro i h1 h2
   rw [Sys.loop,show relcap_sound_S.loops[0]?=some a5u from rfl]
   simp -implicitDefEqProofs only [Q0,a5u,↓reduceIte,eq_self,ZF,ZG,ZH,ZI,ZJ,ZK,ZL,ZM,ZN,ZO,ZP,ZQ,ZR,ZS,ZT,ZU,ZV,ZW,ZX,ZY,Z2,Z3,Z4,Z5,Z6,Z7,Z8,Z9,Za,Zb,Zc,Zd,Ze,Zf,Zg,Zh,Nat.reduceAdd,Zi,if_true,if_false,Zl,Zm,Zn,Zo,Zp,Zq,Zr,Zs,Zt,Zu,Zv,Zw,Zx,Zy,Zz,ZA,ZB,ZC,ZD,ZE,a0E,decide_eq_true_eq]
   by_cases hlt:i < l.length
   ·obtain ⟨x,hx⟩:∃ x,l[i]?=some x:=⟨_,List.getElem?_eq_getElem hlt⟩
    rw [if_pos hlt,a2M hx,Q7]
    have hloc:=a0U (off:=0) hP (a1O hx)
    have c1:=b6x σ [x] (.sl 12 [x.row]) rfl [] [] .nilS .nilS rfl rfl (by simp) n (by simp; omega) (by simp) (by simp)
    have hv:=b8r x
    have:=ihf (i+1) (by omega) (by omega)
    rw [show ((i+1:Nat):Int)=(i:Int)+1 from by omega] at this
    have q1:(leB 0 (i:Int)&&decide (i < l.length))=true:=by simp [leB,hlt]
    have q2:(leB (-9223372036854775808) ((i:Int)+1)&&leB ((i:Int)+1) 9223372036854775807)=true:=by simp [leB]; omega
    generalize decide x.ok=q at *
    generalize a5A [x] [] []=y at *
    simp only [a6h,a1B] at c1
    have l1:(0+1:Nat)<=1000000:=by decide
    simp -implicitDefEqProofs only [p1,a0E,↓reduceIte,eq_self,ZF,ZG,ZH,ZI,ZJ,ZK,ZL,ZM,ZN,ZO,ZP,ZQ,ZR,ZS,ZT,ZU,ZV,ZW,ZX,ZY,Z2,Z3,Z4,Z5,Z6,Z7,Z8,Z9,Za,Zb,Zc,Zd,Ze,Zf,Zg,Zh,Nat.reduceAdd,Zi,if_true,if_false,Zl,Zm,Zn,Zo,Zp,Zq,Zr,Zs,Zt,Zu,Zv,Zw,Zx,Zy,Zz,ZA,ZB,ZC,ZD,ZE,a1s,List.mapM_cons,List.mapM_nil,List.reverse_cons,List.reverse_nil,Option.bind_eq_bind,Option.pure_def,if_pos l1,if_pos q1,hloc,a1B,c1]
    cases q with
    | false=>simp -implicitDefEqProofs only [↓reduceIte,eq_self,ZF,ZG,ZH,ZI,ZJ,ZK,ZL,ZM,ZN,ZO,ZP,ZQ,ZR,ZS,ZT,ZU,ZV,ZW,ZX,ZY,Z2,Z3,Z4,Z5,Z6,Z7,Z8,Z9,Za,Zb,Zc,Zd,Ze,Zf,Zg,Zh,Nat.reduceAdd,Zi,if_true,if_false,Zl,Zm,Zn,Zo,Zp,Zq,Zr,Zs,Zt,Zu,Zv,Zw,Zx,Zy,Zz,ZA,ZB,ZC,ZD,ZE,a0P,or_true,Q1,Q9,hv]
    | true =>
     simp -implicitDefEqProofs only [↓reduceIte,eq_self,ZF,ZG,ZH,ZI,ZJ,ZK,ZL,ZM,ZN,ZO,ZP,ZQ,ZR,ZS,ZT,ZU,ZV,ZW,ZX,ZY,Z2,Z3,Z4,Z5,Z6,Z7,Z8,Z9,Za,Zb,Zc,Zd,Ze,Zf,Zg,Zh,Nat.reduceAdd,Zi,if_true,if_false,Zl,Zm,Zn,Zo,Zp,Zq,Zr,Zs,Zt,Zu,Zv,Zw,Zx,Zy,Zz,ZA,ZB,ZC,ZD,ZE,if_pos q2,Q6,Bool.not_true,hv]
     exact this
   ·rw [if_neg hlt,show i=l.length by omega,List.drop_length]
    simp -implicitDefEqProofs only [↓reduceIte,eq_self,ZF,ZG,ZH,ZI,ZJ,ZK,ZL,ZM,ZN,ZO,ZP,ZQ,ZR,ZS,ZT,ZU,ZV,ZW,ZX,ZY,Z2,Z3,Z4,Z5,Z6,Z7,Z8,Z9,Za,Zb,Zc,Zd,Ze,Zf,Zg,Zh,Nat.reduceAdd,Zi,if_true,if_false,Zl,Zm,Zn,Zo,Zp,Zq,Zr,Zs,Zt,Zu,Zv,Zw,Zx,Zy,Zz,ZA,ZB,ZC,ZD,ZE,a0P,or_true,Q8]
 have h0:=loop n 0 (by omega) (Nat.zero_le _)
 simp only [a0n,b1L,Q0,Sys.run]
 show ((a0D [.sh (.one _)] _).bind _)=_
 simp -implicitDefEqProofs only [a0D,a0d,a0c,Q2,Q0,Q3,Q4,Q5,if_true,p3]
 show (PT.ev _ a5H _).bind _=_
 simp -implicitDefEqProofs only [a5H,↓reduceIte,eq_self,ZF,ZG,ZH,ZI,ZJ,ZK,ZL,ZM,ZN,ZO,ZP,ZQ,ZR,ZS,ZT,ZU,ZV,ZW,ZX,ZY,Z2,Z3,Z4,Z5,Z6,Z7,Z8,Z9,Za,Zb,Zc,Zd,Ze,Zf,Zg,Zh,Nat.reduceAdd,Zi,if_true,if_false,Zl,Zm,Zn,Zo,Zp,Zq,Zr,Zs,Zt,Zu,Zv,Zw,Zx,Zy,Zz,ZA,ZB,ZC,ZD,ZE,p1,p2]
 simpa using h0
end Go.Proofs.Ytggjcdnailppoaa
set_option maxRecDepth 100000
namespace Go.Proofs.Ytggjcdnailppoaa
open Go.Sx
def a5N (l:List Ch) (b:W6) (a:Int):Int:=l.foldl (fun m c=>if c.w.beq b=true then mxI m (a1C c.p b) else m) a
def a4i (bids:List Of) (b:W6) (a:Int):Int:=bids.foldl (fun m o=>if o.w.beq b=true then mxI m o.v else m) a
def fin (l:List Ch) (bids:List Of) (b:W6):Int:=a4i bids b (a5N l b 0)
theorem b3O (b:W6) {l:List Ch} {i:Nat} {x:Ch} (h:l[i]?=some x) (a:Int):a5N (l.take (i+1)) b a=if x.w.beq b=true then mxI (a5N (l.take i) b a) (a1C x.p b) else a5N (l.take i) b a:=a8W _ _ h
end Go.Proofs.Ytggjcdnailppoaa
set_option maxRecDepth 100000
namespace Go.Proofs.Ytggjcdnailppoaa
open Go.Sx
theorem b7P (σ:List MO) (l:List Ch) (P:PV) (hP:P.rowsOf 12=some (l.map Ch.row)) (bids:List Of) (B:PV) (hB:B.rowsOf 8=some (bids.map Of.row)) (hl:l.length<=1000) (hb:bids.length<=1000) (hok:∀ x∈l,x.ok) (b:W6) (n:Nat) (hn:2200<=n) :
  a0n Tab n a5e [P,B,.agg b.pv] σ=some (.int .i64 (fin l (bids.filter Of.right) b),σ):=by
 obtain ⟨n,rfl⟩:∃ k,n=k+1:=⟨n-1,by omega⟩
 obtain ⟨p1,p2,p3⟩:=a0O hP
 obtain ⟨b1,b2,b3⟩:=a0O hB
 rw [Qa] at p1 b1
 have s0:∀ i,i < l.length->∀ fuel,saleroomref40_Final_S.loop (a0n Tab n) (fuel+1) 0 { i:=[a5N (l.take i) b 0,(i:Int),b.a,b.b,b.c,b.d,b.e,b.f],b:=[],v:=[P,B],m:=σ,k:=σ.length } =
   saleroomref40_Final_S.loop (a0n Tab n) fuel 0 { i:=[a5N (l.take (i+1)) b 0,((i+1:Nat):Int),b.a,b.b,b.c,b.d,b.e,b.f],b:=[],v:=[P,B],m:=σ,k:=σ.length }:=by
  intro i hi fuel
  obtain ⟨x,hx⟩:=a4g hi
  have hxo:=hok x (List.mem_of_getElem? hx)
  have hloc:=a0U (off:=0) hP (a1O hx)
  have hloc6:=a0U (off:=6) hP (a1O hx)
  rw [b3O b hx,a2C,Sys.loop,show saleroomref40_Final_S.loops[0]?=some a1J from rfl]
  have hd:decide (i < l.length)=true:=decide_eq_true hi
  have hz:(eqB x.w.a b.a&&(eqB x.w.b b.b&&(eqB x.w.c b.c&&(eqB x.w.d b.d&&(eqB x.w.e b.e&&eqB x.w.f b.f)))))=x.w.beq b:=rfl
  simp -implicitDefEqProofs only [Q0,a1J,↓reduceIte,eq_self,ZF,ZG,ZH,ZI,ZJ,ZK,ZL,ZM,ZN,ZO,ZP,ZQ,ZR,ZS,ZT,ZU,ZV,ZW,ZX,ZY,Z2,Z3,Z4,Z5,Z6,Z7,Z8,Z9,Za,Zb,Zc,Zd,Ze,Zf,Zg,Zh,Nat.reduceAdd,Zi,if_true,if_false,Zl,Zm,Zn,Zo,Zp,Zq,Zr,Zs,Zt,Zu,Zv,Zw,Zx,Zy,Zz,ZA,ZB,ZC,ZD,ZE,a0E,hd,p1,p2,le0,hloc6,a1B,b6z,hz]
  cases hbb:x.w.beq b with
  | false=>simp -implicitDefEqProofs only [↓reduceIte,eq_self,ZF,ZG,ZH,ZI,ZJ,ZK,ZL,ZM,ZN,ZO,ZP,ZQ,ZR,ZS,ZT,ZU,ZV,ZW,ZX,ZY,Z2,Z3,Z4,Z5,Z6,Z7,Z8,Z9,Za,Zb,Zc,Zd,Ze,Zf,Zg,Zh,Nat.reduceAdd,Zi,if_true,if_false,Zl,Zm,Zn,Zo,Zp,Zq,Zr,Zs,Zt,Zu,Zv,Zw,Zx,Zy,Zz,ZA,ZB,ZC,ZD,ZE,if_pos (a2r (show i<=1000000000 by omega))]
  | true =>
   have e:=W6.beq_eq hbb
   have c1:=b0j σ x hxo.1 b (e▸hxo.2) n (by omega)
   simp only [a3v,W6.pv,a1B] at c1
   simp -implicitDefEqProofs only [↓reduceIte,eq_self,ZF,ZG,ZH,ZI,ZJ,ZK,ZL,ZM,ZN,ZO,ZP,ZQ,ZR,ZS,ZT,ZU,ZV,ZW,ZX,ZY,Z2,Z3,Z4,Z5,Z6,Z7,Z8,Z9,Za,Zb,Zc,Zd,Ze,Zf,Zg,Zh,Nat.reduceAdd,Zi,if_true,if_false,Zl,Zm,Zn,Zo,Zp,Zq,Zr,Zs,Zt,Zu,Zv,Zw,Zx,Zy,Zz,ZA,ZB,ZC,ZD,ZE,p1,a0E,hd,le0,hloc,a1B,c1,if_pos (a2r (show i<=1000000000 by omega))]
 have ft:∀ (i:Nat) x a,bids[i]?=some x->a4i ((bids.take (i+1)).filter Of.right) b a=if (x.right&&x.w.beq b)=true then mxI (a4i ((bids.take i).filter Of.right) b a) x.v else a4i ((bids.take i).filter Of.right) b a:=by
  intro i x a hx
  rw [List.take_add_one,hx,List.filter_append]
  simp only [a4i,Option.toList_some,List.foldl_append,List.filter_cons,Qb]
  cases x.right<;>simp
 have s1:∀ a,∀ i,i < bids.length->∀ fuel,saleroomref40_Final_S.loop (a0n Tab n) (fuel+1) 1 { i:=[a4i ((bids.take i).filter Of.right) b a,(i:Int),b.a,b.b,b.c,b.d,b.e,b.f],b:=[],v:=[B],m:=σ,k:=σ.length } =
   saleroomref40_Final_S.loop (a0n Tab n) fuel 1 { i:=[a4i ((bids.take (i+1)).filter Of.right) b a,((i+1:Nat):Int),b.a,b.b,b.c,b.d,b.e,b.f],b:=[],v:=[B],m:=σ,k:=σ.length }:=by
  intro a i hi fuel
  obtain ⟨x,hx⟩:=a4g hi
  have hloc:=a0U (off:=0) hB (a2E hx)
  have hloc1:=a0U (off:=1) hB (a2E hx)
  have hloc7:=a0U (off:=7) hB (a2E hx)
  have c1:=a4z σ x n (by omega)
  rw [ft i x a hx,a2C,Sys.loop,show saleroomref40_Final_S.loops[1]?=some a1L from rfl]
  have hd:decide (i < bids.length)=true:=decide_eq_true hi
  have hz:(eqB x.w.a b.a&&(eqB x.w.b b.b&&(eqB x.w.c b.c&&(eqB x.w.d b.d&&(eqB x.w.e b.e&&eqB x.w.f b.f)))))=x.w.beq b:=rfl
  generalize x.right=r at *
  simp only [a3a,a2F] at c1
  have dr1:∀ a b c d e f g h:PV,List.drop 1 [a,b,c,d,e,f,g,h]=[b,c,d,e,f,g,h]:=fun _ _ _ _ _ _ _ _=>rfl
  have dr7:∀ a b c d e f g h:PV,List.drop 7 [a,b,c,d,e,f,g,h]=[h]:=fun _ _ _ _ _ _ _ _=>rfl
  simp -implicitDefEqProofs only [Q0,a1L,↓reduceIte,eq_self,ZF,ZG,ZH,ZI,ZJ,ZK,ZL,ZM,ZN,ZO,ZP,ZQ,ZR,ZS,ZT,ZU,ZV,ZW,ZX,ZY,Z2,Z3,Z4,Z5,Z6,Z7,Z8,Z9,Za,Zb,Zc,Zd,Ze,Zf,Zg,Zh,Nat.reduceAdd,Zi,if_true,if_false,Zl,Zm,Zn,Zo,Zp,Zq,Zr,Zs,Zt,Zu,Zv,Zw,Zx,Zy,Zz,ZA,ZB,ZC,ZD,ZE,a0E,hd,b1,b2,le0,hloc,a2F,c1]
  cases r with
  | false=>simp -implicitDefEqProofs only [↓reduceIte,eq_self,ZF,ZG,ZH,ZI,ZJ,ZK,ZL,ZM,ZN,ZO,ZP,ZQ,ZR,ZS,ZT,ZU,ZV,ZW,ZX,ZY,Z2,Z3,Z4,Z5,Z6,Z7,Z8,Z9,Za,Zb,Zc,Zd,Ze,Zf,Zg,Zh,Nat.reduceAdd,Zi,if_true,if_false,Zl,Zm,Zn,Zo,Zp,Zq,Zr,Zs,Zt,Zu,Zv,Zw,Zx,Zy,Zz,ZA,ZB,ZC,ZD,ZE,Q1,if_pos (a2r (show i<=1000000000 by omega))]
  | true =>
   simp -implicitDefEqProofs only [↓reduceIte,eq_self,ZF,ZG,ZH,ZI,ZJ,ZK,ZL,ZM,ZN,ZO,ZP,ZQ,ZR,ZS,ZT,ZU,ZV,ZW,ZX,ZY,Z2,Z3,Z4,Z5,Z6,Z7,Z8,Z9,Za,Zb,Zc,Zd,Ze,Zf,Zg,Zh,Nat.reduceAdd,Zi,if_true,if_false,Zl,Zm,Zn,Zo,Zp,Zq,Zr,Zs,Zt,Zu,Zv,Zw,Zx,Zy,Zz,ZA,ZB,ZC,ZD,ZE,a0E,hd,b1,le0,hloc1,a2F,dr1,hz,Q6,Nat.reduceLeDiff]
   cases hbb:x.w.beq b with
   | false=>simp -implicitDefEqProofs only [↓reduceIte,eq_self,ZF,ZG,ZH,ZI,ZJ,ZK,ZL,ZM,ZN,ZO,ZP,ZQ,ZR,ZS,ZT,ZU,ZV,ZW,ZX,ZY,Z2,Z3,Z4,Z5,Z6,Z7,Z8,Z9,Za,Zb,Zc,Zd,Ze,Zf,Zg,Zh,Nat.reduceAdd,Zi,if_true,if_false,Zl,Zm,Zn,Zo,Zp,Zq,Zr,Zs,Zt,Zu,Zv,Zw,Zx,Zy,Zz,ZA,ZB,ZC,ZD,ZE,if_pos (a2r (show i<=1000000000 by omega))]
   | true=>simp -implicitDefEqProofs only [↓reduceIte,eq_self,ZF,ZG,ZH,ZI,ZJ,ZK,ZL,ZM,ZN,ZO,ZP,ZQ,ZR,ZS,ZT,ZU,ZV,ZW,ZX,ZY,Z2,Z3,Z4,Z5,Z6,Z7,Z8,Z9,Za,Zb,Zc,Zd,Ze,Zf,Zg,Zh,Nat.reduceAdd,Zi,if_true,if_false,Zl,Zm,Zn,Zo,Zp,Zq,Zr,Zs,Zt,Zu,Zv,Zw,Zx,Zy,Zz,ZA,ZB,ZC,ZD,ZE,a0E,hd,b1,le0,hloc7,a2F,dr7,if_pos (a2r (show i<=1000000000 by omega))]
 have hd0:decide (l.length < l.length)=false:=by simp
 have hd1:decide (bids.length < bids.length)=false:=by simp
 have x0:∀ fuel a,saleroomref40_Final_S.loop (a0n Tab n) (fuel+1) 0 { i:=[a,(l.length:Int),b.a,b.b,b.c,b.d,b.e,b.f],b:=[],v:=[P,B],m:=σ,k:=σ.length } =
   saleroomref40_Final_S.loop (a0n Tab n) fuel 1 { i:=[a,0,b.a,b.b,b.c,b.d,b.e,b.f],b:=[],v:=[B],m:=σ,k:=σ.length }:=by
  intro fuel a
  rw [Sys.loop,show saleroomref40_Final_S.loops[0]?=some a1J from rfl]
  simp -implicitDefEqProofs only [Q0,a1J,↓reduceIte,eq_self,ZF,ZG,ZH,ZI,ZJ,ZK,ZL,ZM,ZN,ZO,ZP,ZQ,ZR,ZS,ZT,ZU,ZV,ZW,ZX,ZY,Z2,Z3,Z4,Z5,Z6,Z7,Z8,Z9,Za,Zb,Zc,Zd,Ze,Zf,Zg,Zh,Nat.reduceAdd,Zi,if_true,if_false,Zl,Zm,Zn,Zo,Zp,Zq,Zr,Zs,Zt,Zu,Zv,Zw,Zx,Zy,Zz,ZA,ZB,ZC,ZD,ZE,a0E,hd0,p1,p2]
 have x1:∀ fuel a,saleroomref40_Final_S.loop (a0n Tab n) (fuel+1) 1 { i:=[a,(bids.length:Int),b.a,b.b,b.c,b.d,b.e,b.f],b:=[],v:=[B],m:=σ,k:=σ.length }=some (.int .i64 a,σ):=by
  intro fuel a
  rw [Sys.loop,show saleroomref40_Final_S.loops[1]?=some a1L from rfl]
  simp -implicitDefEqProofs only [Q0,a1L,↓reduceIte,eq_self,ZF,ZG,ZH,ZI,ZJ,ZK,ZL,ZM,ZN,ZO,ZP,ZQ,ZR,ZS,ZT,ZU,ZV,ZW,ZX,ZY,Z2,Z3,Z4,Z5,Z6,Z7,Z8,Z9,Za,Zb,Zc,Zd,Ze,Zf,Zg,Zh,Nat.reduceAdd,Zi,if_true,if_false,Zl,Zm,Zn,Zo,Zp,Zq,Zr,Zs,Zt,Zu,Zv,Zw,Zx,Zy,Zz,ZA,ZB,ZC,ZD,ZE,a0E,hd1,b1,b2,a0P,or_true]
 have r0:=a5D _ s0 n (by omega)
 have r1:=fun a=>a5D _ (s1 a) (n-l.length-1) (by omega)
 simp only [a0n,a7d,Q0,Sys.run,W6.pv]
 show ((a0D [.sh (.one _),.sh (.one _),.sh (.agg [_,_,_,_,_,_])] _).bind _)=_
 simp -implicitDefEqProofs only [a0D,a0d,a0c,Q2,Q0,Q3,Q4,Q5,if_true,p3,b3]
 show (PT.ev _ a3b _).bind _=_
 simp -implicitDefEqProofs only [a3b,↓reduceIte,eq_self,ZF,ZG,ZH,ZI,ZJ,ZK,ZL,ZM,ZN,ZO,ZP,ZQ,ZR,ZS,ZT,ZU,ZV,ZW,ZX,ZY,Z2,Z3,Z4,Z5,Z6,Z7,Z8,Z9,Za,Zb,Zc,Zd,Ze,Zf,Zg,Zh,Nat.reduceAdd,Zi,if_true,if_false,Zl,Zm,Zn,Zo,Zp,Zq,Zr,Zs,Zt,Zu,Zv,Zw,Zx,Zy,Zz,ZA,ZB,ZC,ZD,ZE]
 have t0:(List.take 0 l)=[]:=rfl
 have t1:(List.take 0 bids)=[]:=rfl
 simp only [t0,a5G,a5N,Qd,Qe] at r0
 simp only [t1,a5G,a4i,Qb,Qd,Qe] at r1
 refine r0.trans ?_
 rw [show n-l.length=(n-l.length-1)+1 by omega,x0]
 refine (r1 _).trans ?_
 rw [show n-l.length-1-bids.length=(n-l.length-1-bids.length-1)+1 by omega,x1]
 rfl
end Go.Proofs.Ytggjcdnailppoaa
set_option maxRecDepth 100000
namespace Go.Proofs.Ytggjcdnailppoaa
open Go.Sx
end Go.Proofs.Ytggjcdnailppoaa
set_option maxRecDepth 100000
namespace Go.Proofs.Ytggjcdnailppoaa
open Go.Sx
section
variable (σ:List MO) (l:List Ch) (P:PV) (hP:P.rowsOf 12=some (l.map Ch.row)) (bids:List Of) (B:PV) (hB:B.rowsOf 8=some (bids.map Of.row)) (hl:l.length<=1000) (hb:bids.length<=1000)
end
end Go.Proofs.Ytggjcdnailppoaa
set_option maxRecDepth 100000
namespace Go.Proofs.Ytggjcdnailppoaa
open Go.Sx
end Go.Proofs.Ytggjcdnailppoaa
