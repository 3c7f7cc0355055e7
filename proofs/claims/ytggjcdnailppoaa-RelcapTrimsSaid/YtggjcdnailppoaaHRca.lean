/- The examples of the chapter on relative caps. -/
import Derived.Test.YtggjcdnailppoaaHSys
import Derived.Test.YtggjcdnailppoaaHTxe
import Derived.Test.YtggjcdnailppoaaHRvb
import Derived.Test.YtggjcdnailppoaaHGx
set_option linter.unusedSimpArgs false
set_option linter.unusedVariables false
open Go.Sx.PT renaming ev → Z1
open Go.Sx.BE renaming safe → Z2, pe → Z3, all → Zz
open Go.Sx.IE renaming pe → Z4
open Go.Sx renaming PEnv.at → Z5
open Go.Sx.PEnv renaming push → Zt
open List renaming getD_cons_zero → Z6, getD_cons_succ → Z7, getElem?_cons_zero → Z8, getElem?_cons_succ → Z9, drop_zero → Zf, length_cons → Zg, length_nil → Zh, take_succ_cons → Zm, take_zero → Zn, cons_append → Zu, nil_append → Zv, append_nil → Zw, map_cons → ZD, map_nil → ZE
open Go.Sx renaming a0i → Za, a0k → Zb, a0b → Zc, a0j → Zd, a0c → Zo, a0a → Zp, a0d → Zq, a0z → ZF, a0B → ZG, a0r → ZH, a0q → ZI, a0x → ZJ, a0w → ZK, a0o → ZL, a0A → ZM, a0p → ZN, a0u → ZO, a0m → ZP, a0v → ZQ, a0y → ZR, a0g → ZS, a0s → ZT, a0l → ZU, a0f → ZV, a0e → ZW, a0h → ZX, a0t → ZY
open Nat renaming add_zero → Ze, le_refl → Zi
open Bool renaming false_eq_true → Zl, and_self → ZA, not_true → ZB, not_false → ZC
open Option renaming map_some → Zr, bind_some → Zs
open Go.Sx.SV renaming pvs → Zx, pv → Zy
open Option renaming bind_some → Q0, map_some → Q1
open List renaming nil_append → Q2, cons_append → Q3, append_nil → Q5, length_map → Q6, all_cons → Q8, all_nil → Q9, drop_length → Qa, mem_of_getElem? → Qd, take → Qe, foldl_nil → Qf, foldl_cons → Qh, mem_cons_of_mem → Qj, findIdx?_nil → Qm, drop_zero → Qn
open Int renaming cast_ofNat_Int → Q4
open Bool renaming false_and → Q7, not_false → Qg, and_eq_true → Qk
open Nat renaming add_zero → Qb
set_option maxRecDepth 100000
namespace Go.Proofs.Ytggjcdnailppoaa
open Go.Sx
theorem b9f:a0n Tab 40000 a5a [] []=some (.bool true,[]):=by kernel_rfl
end Go.Proofs.Ytggjcdnailppoaa
set_option maxRecDepth 100000
namespace Go.Proofs.Ytggjcdnailppoaa
open Go.Sx
structure Of where
 (n:Int) (w:W6) (v:Int)
def Of.row (o:Of):List PV:=.int .i64 o.n::(o.w.pv++[.int .i64 o.v])
theorem a2F (o:Of):o.row=[.int .i64 o.n,.int .i64 o.w.a,.int .i64 o.w.b,.int .i64 o.w.c,.int .i64 o.w.d,.int .i64 o.w.e,.int .i64 o.w.f,.int .i64 o.v]:=rfl
def Of.right (o:Of):Bool:=decide o.w.ok&&(!o.w.isZ&&(leB 1 o.v&&leB o.v 1000000))
theorem b7x {n:Nat} {ps:List PV} (h:a1f Try.prog n 33 ps):∃ x:Of,ps=x.row:=by
 obtain ⟨m,_,h⟩:=a9A Try.underlying33 h
 simp only [List.map_cons,List.map_nil,a3K] at h
 obtain ⟨_,_,rfl,h1,_,_,rfl,h2,_,_,rfl,h3,rfl⟩:=h
 obtain ⟨a,rfl,_⟩:=a2L (k:=.i64) (by kernel_rfl) h1
 obtain ⟨w,rfl⟩:=b0i Try.underlying29 (by kernel_rfl) h2
 obtain ⟨v,rfl,_⟩:=a2L (k:=.i64) (by kernel_rfl) h3
 exact ⟨⟨a,w,v⟩,by simp [Of.row]⟩
theorem b2a {n:Nat}:∀ (rows:List (List PV)),(∀ r∈rows,a1f Try.prog n 33 r)->∃ l:List Of,rows=l.map Of.row
 | [],_=>⟨[],rfl⟩
 | r::rows,h=>by
  obtain ⟨x,rfl⟩:=b7x (h r (by simp))
  obtain ⟨l,rfl⟩:=b2a rows (fun q hq=>h q (by simp [hq]))
  exact ⟨x::l,rfl⟩
theorem a2E {l:List Of} {i:Nat} {x:Of} (h:l[i]?=some x):(l.map Of.row)[i]?=some x.row:=by simp [h]
theorem b3r (w:W6):eqB (a5Y w) 0=decide w.ok:=by
 unfold a5Y
 by_cases h:w.ok
 ·rw [if_pos h,decide_eq_true h]; rfl
 ·rw [if_neg h,decide_eq_false h]; rfl
theorem b1y (σ:List MO) (o:Of) (n:Nat) (hn:2<=n):a0n Tab n a8k [.agg o.row] σ=some (.bool o.right,σ):=by
 obtain ⟨n,rfl⟩:∃ k,n=k+1:=⟨n-1,by omega⟩
 have c1:=a6X σ o.w n (by omega)
 have hb:=b3r o.w
 obtain ⟨b,⟨a',b',c',d',e',f'⟩,v⟩:=o
 generalize hy:a5Y ⟨a',b',c',d',e',f'⟩=y at *
 simp only [a5I,W6.pv] at c1
 simp only [a0n,b1Q,Q0,Sys.run,a2F]
 show ((a0D [.sh (.agg [_,_,_,_,_,_,_,_])] _).bind _)=_
 simp only [a0D,a0d,a0c,Q1,Q0,Q5,Q2,Q3,if_true]
 show (PT.ev _ a5M _).bind _=_
 have hz:(eqB a' 0&&(eqB b' 0&&(eqB c' 0&&(eqB d' 0&&(eqB e' 0&&eqB f' 0)))))=(⟨a',b',c',d',e',f'⟩:W6).isZ:=rfl
 simp -implicitDefEqProofs only [a5M,↓reduceIte,eq_self,ZF,ZG,ZH,ZI,ZJ,ZK,ZL,ZM,ZN,ZO,ZP,ZQ,ZR,ZS,ZT,ZU,ZV,ZW,ZX,ZY,Z2,Z3,Z4,Z5,Z6,Z7,Z8,Z9,Za,Zb,Zc,Zd,Ze,Zf,Zg,Zh,Nat.reduceAdd,Zi,if_true,if_false,Zl,Zm,Zn,Zo,Zp,Zq,Zr,Zs,Zt,Zu,Zv,Zw,Zx,Zy,Zz,ZA,ZB,ZC,ZD,ZE,a0P,or_true,c1,hb,hz,Of.right]
 cases decide (⟨a',b',c',d',e',f'⟩:W6).ok<;>cases (⟨a',b',c',d',e',f'⟩:W6).isZ<;>cases leB 1 v<;>simp -implicitDefEqProofs only [↓reduceIte,eq_self,ZF,ZG,ZH,ZI,ZJ,ZK,ZL,ZM,ZN,ZO,ZP,ZQ,ZR,ZS,ZT,ZU,ZV,ZW,ZX,ZY,Z2,Z3,Z4,Z5,Z6,Z7,Z8,Z9,Za,Zb,Zc,Zd,Ze,Zf,Zg,Zh,Nat.reduceAdd,Zi,if_true,if_false,Zl,Zm,Zn,Zo,Zp,Zq,Zr,Zs,Zt,Zu,Zv,Zw,Zx,Zy,Zz,ZA,ZB,ZC,ZD,ZE,a0P,or_true,Bool.true_and,Q7,Bool.not_true,Qg]
theorem b8r (x:Ch):eqB (a5A [x] [] []) 4=!decide x.ok:=by
 unfold a5A
 by_cases h:x.ok
 ·rw [decide_eq_true h]
  simp only [Q8,Q9,decide_eq_true h,Bool.and_true,if_true]
  split
  ·split
   ·split<;>rfl
   ·split<;>rfl
  ·rfl
 ·rw [decide_eq_false h]
  simp only [Q8,Q9,decide_eq_false h,Q7]
  rfl
theorem b3S (σ:List MO) (l:List Ch) (P:PV) (hP:P.rowsOf 12=some (l.map Ch.row)) (n:Nat) (hn:l.length+500<=n) (hl:l.length<=1000000) :
  a0n Tab n a2d [P] σ=some (.bool (l.all fun x=>decide x.ok),σ):=by
 obtain ⟨n,rfl⟩:∃ k,n=k+1:=⟨n-1,by omega⟩
 obtain ⟨p1,p2,p3⟩:=a0O hP
 rw [Q6] at p1
 have loop:∀ (fuel i:Nat),l.length-i < fuel->i<=l.length->relcap_sound_S.loop (a0n Tab n) fuel 0 { i:=[(l.length:Int),(i:Int)],b:=[],v:=[P],m:=σ,k:=σ.length }=some (.bool ((l.drop i).all fun x=>decide x.ok),σ):=by
  intro fuel
  induction fuel with
  | zero=>intro i h; omega
  | succ fuel ihf =>
   intro i h1 h2
   rw [Sys.loop,show relcap_sound_S.loops[0]?=some a5u from rfl]
   simp -implicitDefEqProofs only [Q0,a5u,↓reduceIte,eq_self,ZF,ZG,ZH,ZI,ZJ,ZK,ZL,ZM,ZN,ZO,ZP,ZQ,ZR,ZS,ZT,ZU,ZV,ZW,ZX,ZY,Z2,Z3,Z4,Z5,Z6,Z7,Z8,Z9,Za,Zb,Zc,Zd,Ze,Zf,Zg,Zh,Nat.reduceAdd,Zi,if_true,if_false,Zl,Zm,Zn,Zo,Zp,Zq,Zr,Zs,Zt,Zu,Zv,Zw,Zx,Zy,Zz,ZA,ZB,ZC,ZD,ZE,a0E,decide_eq_true_eq]
   by_cases hlt:i < l.length
   ·obtain ⟨x,hx⟩:∃ x,l[i]?=some x:=⟨_,List.getElem?_eq_getElem hlt⟩
    rw [if_pos hlt,a2M hx,Q8]
    have hloc:=a0U (off:=0) hP (a1O hx)
    have c1:=b6x σ [x] (.sl 12 [x.row]) rfl [] [] .nilS .nilS rfl rfl (by simp) n (by simp; omega) (by simp) (by simp)
    have hv:=b8r x
    have:=ihf (i+1) (by omega) (by omega)
    rw [show ((i+1:Nat):Int)=(i:Int)+1 from by omega] at this
    have q1:(leB 0 (i:Int)&&decide (i < l.length))=true:=by simp [leB,hlt]
    have q2:(leB (-9223372036854775808) ((i:Int)+1)&&leB ((i:Int)+1) 9223372036854775807)=true:=by simp [leB]; omega
    generalize decide x.ok=q at *
    generalize a5A [x] [] []=y at *
    simp only [a6h,a1B] at c1
    have l1:(0+1:Nat)<=1000000:=by decide
    simp -implicitDefEqProofs only [p1,a0E,↓reduceIte,eq_self,ZF,ZG,ZH,ZI,ZJ,ZK,ZL,ZM,ZN,ZO,ZP,ZQ,ZR,ZS,ZT,ZU,ZV,ZW,ZX,ZY,Z2,Z3,Z4,Z5,Z6,Z7,Z8,Z9,Za,Zb,Zc,Zd,Ze,Zf,Zg,Zh,Nat.reduceAdd,Zi,if_true,if_false,Zl,Zm,Zn,Zo,Zp,Zq,Zr,Zs,Zt,Zu,Zv,Zw,Zx,Zy,Zz,ZA,ZB,ZC,ZD,ZE,a1s,List.mapM_cons,List.mapM_nil,List.reverse_cons,List.reverse_nil,Option.bind_eq_bind,Option.pure_def,if_pos l1,if_pos q1,hloc,a1B,c1]
    cases q with
    | false=>simp -implicitDefEqProofs only [↓reduceIte,eq_self,ZF,ZG,ZH,ZI,ZJ,ZK,ZL,ZM,ZN,ZO,ZP,ZQ,ZR,ZS,ZT,ZU,ZV,ZW,ZX,ZY,Z2,Z3,Z4,Z5,Z6,Z7,Z8,Z9,Za,Zb,Zc,Zd,Ze,Zf,Zg,Zh,Nat.reduceAdd,Zi,if_true,if_false,Zl,Zm,Zn,Zo,Zp,Zq,Zr,Zs,Zt,Zu,Zv,Zw,Zx,Zy,Zz,ZA,ZB,ZC,ZD,ZE,a0P,or_true,Q7,Qg,hv]
    | true =>
     simp -implicitDefEqProofs only [↓reduceIte,eq_self,ZF,ZG,ZH,ZI,ZJ,ZK,ZL,ZM,ZN,ZO,ZP,ZQ,ZR,ZS,ZT,ZU,ZV,ZW,ZX,ZY,Z2,Z3,Z4,Z5,Z6,Z7,Z8,Z9,Za,Zb,Zc,Zd,Ze,Zf,Zg,Zh,Nat.reduceAdd,Zi,if_true,if_false,Zl,Zm,Zn,Zo,Zp,Zq,Zr,Zs,Zt,Zu,Zv,Zw,Zx,Zy,Zz,ZA,ZB,ZC,ZD,ZE,if_pos q2,Bool.true_and,Bool.not_true,hv]
     exact this
   ·rw [if_neg hlt,show i=l.length by omega,Qa]
    simp -implicitDefEqProofs only [↓reduceIte,eq_self,ZF,ZG,ZH,ZI,ZJ,ZK,ZL,ZM,ZN,ZO,ZP,ZQ,ZR,ZS,ZT,ZU,ZV,ZW,ZX,ZY,Z2,Z3,Z4,Z5,Z6,Z7,Z8,Z9,Za,Zb,Zc,Zd,Ze,Zf,Zg,Zh,Nat.reduceAdd,Zi,if_true,if_false,Zl,Zm,Zn,Zo,Zp,Zq,Zr,Zs,Zt,Zu,Zv,Zw,Zx,Zy,Zz,ZA,ZB,ZC,ZD,ZE,a0P,or_true,Q9]
 have h0:=loop n 0 (by omega) (Nat.zero_le _)
 simp only [a0n,b1L,Q0,Sys.run]
 show ((a0D [.sh (.one _)] _).bind _)=_
 simp -implicitDefEqProofs only [a0D,a0d,a0c,Q1,Q0,Q5,Q2,Q3,if_true,p3]
 show (PT.ev _ a5H _).bind _=_
 simp -implicitDefEqProofs only [a5H,↓reduceIte,eq_self,ZF,ZG,ZH,ZI,ZJ,ZK,ZL,ZM,ZN,ZO,ZP,ZQ,ZR,ZS,ZT,ZU,ZV,ZW,ZX,ZY,Z2,Z3,Z4,Z5,Z6,Z7,Z8,Z9,Za,Zb,Zc,Zd,Ze,Zf,Zg,Zh,Nat.reduceAdd,Zi,if_true,if_false,Zl,Zm,Zn,Zo,Zp,Zq,Zr,Zs,Zt,Zu,Zv,Zw,Zx,Zy,Zz,ZA,ZB,ZC,ZD,ZE,p1,p2]
 simpa using h0
end Go.Proofs.Ytggjcdnailppoaa
set_option maxRecDepth 100000
namespace Go.Proofs.Ytggjcdnailppoaa
open Go.Sx
def a5N (l:List Ch) (b:W6) (a:Int):Int:=l.foldl (fun m c=>if c.w.beq b=true then mxI m (a1C c.p b) else m) a
def a4i (bids:List Of) (b:W6) (a:Int):Int:=bids.foldl (fun m o=>if o.w.beq b=true then mxI m o.v else m) a
def fin (l:List Ch) (bids:List Of) (b:W6):Int:=a4i bids b (a5N l b 0)
def a2U (l:List Ch) (f:W6->Int) (b:W6):Int:=l.foldl (fun v c=>if c.w.beq b=true then v else mnI v (f c.w+a1C c.p b-a1C c.p c.w)) 1000000
theorem b3O (b:W6) {l:List Ch} {i:Nat} {x:Ch} (h:l[i]?=some x) (a:Int):a5N (l.take (i+1)) b a=if x.w.beq b=true then mxI (a5N (l.take i) b a) (a1C x.p b) else a5N (l.take i) b a:=a8W _ _ h
theorem b7n (b:W6) {l:List Of} {i:Nat} {x:Of} (h:l[i]?=some x) (a:Int):a4i (l.take (i+1)) b a=if x.w.beq b=true then mxI (a4i (l.take i) b a) x.v else a4i (l.take i) b a:=a8W _ _ h
theorem b1Z (f:W6->Int) (b:W6) {l:List Ch} {i:Nat} {x:Ch} (h:l[i]?=some x):a2U (l.take (i+1)) f b=if x.w.beq b=true then a2U (l.take i) f b else mnI (a2U (l.take i) f b) (f x.w+a1C x.p b-a1C x.p x.w):=a8W _ _ h
theorem b6M (σ:List MO) (P B:PV) (h1:P.one=true) (h2:B.one=true) (h3:P.low σ.length=true) (h4:B.low σ.length=true) (n:Nat) (hn:1<=n) (hσ:σ.all (MO.low σ.length)=true):a0n Tab n a7u [P,B] σ=some (.fn a1U [.cell [P] 0,.cell [B] 0],σ):=by
 obtain ⟨n,rfl⟩:∃ k,n=k+1:=⟨n-1,by omega⟩
 simp only [a0n,b0T,Q0,Sys.run]
 show ((a0D [.sh (.one _),.sh (.one _)] _).bind _)=_
 simp -implicitDefEqProofs only [a0D,a0d,a0c,Q1,Q0,Q5,Q2,Q3,if_true,h1,h2]
 show (PT.ev _ a5j _).bind _=_
 simp -implicitDefEqProofs only [a5j,↓reduceIte,eq_self,ZF,ZG,ZH,ZI,ZJ,ZK,ZL,ZM,ZN,ZO,ZP,ZQ,ZR,ZS,ZT,ZU,ZV,ZW,ZX,ZY,Z2,Z3,Z4,Z5,Z6,Z7,Z8,Z9,Za,Zb,Zc,Zd,Ze,Zf,Zg,Zh,Nat.reduceAdd,Zi,if_true,if_false,Zl,Zm,Zn,Zo,Zp,Zq,Zr,Zs,Zt,Zu,Zv,Zw,Zx,Zy,Zz,ZA,ZB,ZC,ZD,ZE,PV.on,b8Q,b8Z,Qb]
 have e1:¬ (false=true\/(σ++[MO.cells [P] 22,MO.cells [B] 25]).length=σ.length):=by simp
 have e2:¬ (σ.length < σ.length):=by omega
 have e3:¬ (σ.length+1 < σ.length):=by omega
 simp -implicitDefEqProofs only [a0P,if_neg e1,List.take_left',hσ,PV.frz,PV.frzs,if_neg e2,if_neg e3,a4N,a7o,a8M,MO.list,PV.frz_low _ h3,PV.frz_low _ h4,↓reduceIte,eq_self,Z1,Z2,Z3,Z4,Z5,Z6,Z7,Z8,Z9,Za,Zb,Zc,Zd,Ze,Zf,Zg,Zh,Nat.reduceAdd,Zi,if_true,if_false,Zl,Zm,Zn,Zo,Zp,Zq,Zr,Zs,Zt,Zu,Zv,Zw,Zx,Zy,Zz,ZA,ZB,ZC,ZD,ZE,List.take_append]
 simp [hσ]
theorem b7Z (σ:List MO) (l:List Ch) (P:PV) (hP:P.rowsOf 12=some (l.map Ch.row)) (bids:List Of) (B:PV) (hB:B.rowsOf 8=some (bids.map Of.row)) (hl:l.length<=1000) (hb:bids.length<=1000) (hok:∀ x∈l,x.ok) (b:W6) (n:Nat) (hn:2200<=n) :
  a0n Tab n a1U [.agg b.pv,.cell [P] 0,.cell [B] 0] σ=some (.int .i64 (fin l bids b),σ):=by
 obtain ⟨n,rfl⟩:∃ k,n=k+1:=⟨n-1,by omega⟩
 obtain ⟨p1,p2,p3⟩:=a0O hP
 obtain ⟨b1,b2,b3⟩:=a0O hB
 rw [Q6] at p1 b1
 have s0:∀ i,i < l.length->∀ fuel,relcap_finals_1_S.loop (a0n Tab n) (fuel+1) 0 { i:=[a5N (l.take i) b 0,(l.length:Int),(i:Int),b.a,b.b,b.c,b.d,b.e,b.f],b:=[],v:=[.cell [B] 0,P],m:=σ,k:=σ.length } =
   relcap_finals_1_S.loop (a0n Tab n) fuel 0 { i:=[a5N (l.take (i+1)) b 0,(l.length:Int),((i+1:Nat):Int),b.a,b.b,b.c,b.d,b.e,b.f],b:=[],v:=[.cell [B] 0,P],m:=σ,k:=σ.length }:=by
  intro i hi fuel
  obtain ⟨x,hx⟩:=a4g hi
  have hxo:=hok x (Qd hx)
  have hloc:=a0U (off:=0) hP (a1O hx)
  rw [b3O b hx,a2C,Sys.loop,show relcap_finals_1_S.loops[0]?=some a2m from rfl]
  have hd:decide (i < l.length)=true:=decide_eq_true hi
  have hz:(eqB x.w.a b.a&&(eqB x.w.b b.b&&(eqB x.w.c b.c&&(eqB x.w.d b.d&&(eqB x.w.e b.e&&eqB x.w.f b.f)))))=x.w.beq b:=rfl
  simp -implicitDefEqProofs only [Q0,a2m,↓reduceIte,eq_self,ZF,ZG,ZH,ZI,ZJ,ZK,ZL,ZM,ZN,ZO,ZP,ZQ,ZR,ZS,ZT,ZU,ZV,ZW,ZX,ZY,Z2,Z3,Z4,Z5,Z6,Z7,Z8,Z9,Za,Zb,Zc,Zd,Ze,Zf,Zg,Zh,Nat.reduceAdd,Zi,if_true,if_false,Zl,Zm,Zn,Zo,Zp,Zq,Zr,Zs,Zt,Zu,Zv,Zw,Zx,Zy,Zz,ZA,ZB,ZC,ZD,ZE,a0E,hd,p1,le0,hloc,a1B,hz]
  cases hbb:x.w.beq b with
  | false=>simp -implicitDefEqProofs only [↓reduceIte,eq_self,ZF,ZG,ZH,ZI,ZJ,ZK,ZL,ZM,ZN,ZO,ZP,ZQ,ZR,ZS,ZT,ZU,ZV,ZW,ZX,ZY,Z2,Z3,Z4,Z5,Z6,Z7,Z8,Z9,Za,Zb,Zc,Zd,Ze,Zf,Zg,Zh,Nat.reduceAdd,Zi,if_true,if_false,Zl,Zm,Zn,Zo,Zp,Zq,Zr,Zs,Zt,Zu,Zv,Zw,Zx,Zy,Zz,ZA,ZB,ZC,ZD,ZE,if_pos (a2r (show i<=1000000000 by omega))]
  | true =>
   have e:=W6.beq_eq hbb
   have c1:=a2n σ x.p b hxo.1 (e▸hxo.2) n (by omega)
   simp only [a3D,W6.pv] at c1
   simp -implicitDefEqProofs only [↓reduceIte,eq_self,ZF,ZG,ZH,ZI,ZJ,ZK,ZL,ZM,ZN,ZO,ZP,ZQ,ZR,ZS,ZT,ZU,ZV,ZW,ZX,ZY,Z2,Z3,Z4,Z5,Z6,Z7,Z8,Z9,Za,Zb,Zc,Zd,Ze,Zf,Zg,Zh,Nat.reduceAdd,Zi,if_true,if_false,Zl,Zm,Zn,Zo,Zp,Zq,Zr,Zs,Zt,Zu,Zv,Zw,Zx,Zy,Zz,ZA,ZB,ZC,ZD,ZE,c1,if_pos (a2r (show i<=1000000000 by omega))]
 have s1:∀ a,∀ i,i < bids.length->∀ fuel,relcap_finals_1_S.loop (a0n Tab n) (fuel+1) 1 { i:=[a4i (bids.take i) b a,(bids.length:Int),(i:Int),b.a,b.b,b.c,b.d,b.e,b.f],b:=[],v:=[B],m:=σ,k:=σ.length } =
   relcap_finals_1_S.loop (a0n Tab n) fuel 1 { i:=[a4i (bids.take (i+1)) b a,(bids.length:Int),((i+1:Nat):Int),b.a,b.b,b.c,b.d,b.e,b.f],b:=[],v:=[B],m:=σ,k:=σ.length }:=by
  intro a i hi fuel
  obtain ⟨x,hx⟩:=a4g hi
  have hloc:=a0U (off:=0) hB (a2E hx)
  rw [b7n b hx,a2C,Sys.loop,show relcap_finals_1_S.loops[1]?=some a2l from rfl]
  have hd:decide (i < bids.length)=true:=decide_eq_true hi
  have hz:(eqB x.w.a b.a&&(eqB x.w.b b.b&&(eqB x.w.c b.c&&(eqB x.w.d b.d&&(eqB x.w.e b.e&&eqB x.w.f b.f)))))=x.w.beq b:=rfl
  simp -implicitDefEqProofs only [Q0,a2l,↓reduceIte,eq_self,ZF,ZG,ZH,ZI,ZJ,ZK,ZL,ZM,ZN,ZO,ZP,ZQ,ZR,ZS,ZT,ZU,ZV,ZW,ZX,ZY,Z2,Z3,Z4,Z5,Z6,Z7,Z8,Z9,Za,Zb,Zc,Zd,Ze,Zf,Zg,Zh,Nat.reduceAdd,Zi,if_true,if_false,Zl,Zm,Zn,Zo,Zp,Zq,Zr,Zs,Zt,Zu,Zv,Zw,Zx,Zy,Zz,ZA,ZB,ZC,ZD,ZE,a0E,hd,b1,le0,hloc,a2F,hz]
  cases hbb:x.w.beq b with
  | false=>simp -implicitDefEqProofs only [↓reduceIte,eq_self,ZF,ZG,ZH,ZI,ZJ,ZK,ZL,ZM,ZN,ZO,ZP,ZQ,ZR,ZS,ZT,ZU,ZV,ZW,ZX,ZY,Z2,Z3,Z4,Z5,Z6,Z7,Z8,Z9,Za,Zb,Zc,Zd,Ze,Zf,Zg,Zh,Nat.reduceAdd,Zi,if_true,if_false,Zl,Zm,Zn,Zo,Zp,Zq,Zr,Zs,Zt,Zu,Zv,Zw,Zx,Zy,Zz,ZA,ZB,ZC,ZD,ZE,if_pos (a2r (show i<=1000000000 by omega))]
  | true=>simp -implicitDefEqProofs only [↓reduceIte,eq_self,ZF,ZG,ZH,ZI,ZJ,ZK,ZL,ZM,ZN,ZO,ZP,ZQ,ZR,ZS,ZT,ZU,ZV,ZW,ZX,ZY,Z2,Z3,Z4,Z5,Z6,Z7,Z8,Z9,Za,Zb,Zc,Zd,Ze,Zf,Zg,Zh,Nat.reduceAdd,Zi,if_true,if_false,Zl,Zm,Zn,Zo,Zp,Zq,Zr,Zs,Zt,Zu,Zv,Zw,Zx,Zy,Zz,ZA,ZB,ZC,ZD,ZE,if_pos (a2r (show i<=1000000000 by omega))]
 have hd0:decide (l.length < l.length)=false:=by simp
 have hd1:decide (bids.length < bids.length)=false:=by simp
 have x0:∀ fuel a,relcap_finals_1_S.loop (a0n Tab n) (fuel+1) 0 { i:=[a,(l.length:Int),(l.length:Int),b.a,b.b,b.c,b.d,b.e,b.f],b:=[],v:=[.cell [B] 0,P],m:=σ,k:=σ.length } =
   relcap_finals_1_S.loop (a0n Tab n) fuel 1 { i:=[a,(bids.length:Int),0,b.a,b.b,b.c,b.d,b.e,b.f],b:=[],v:=[B],m:=σ,k:=σ.length }:=by
  intro fuel a
  rw [Sys.loop,show relcap_finals_1_S.loops[0]?=some a2m from rfl]
  simp -implicitDefEqProofs only [Q0,a2m,↓reduceIte,eq_self,ZF,ZG,ZH,ZI,ZJ,ZK,ZL,ZM,ZN,ZO,ZP,ZQ,ZR,ZS,ZT,ZU,ZV,ZW,ZX,ZY,Z2,Z3,Z4,Z5,Z6,Z7,Z8,Z9,Za,Zb,Zc,Zd,Ze,Zf,Zg,Zh,Nat.reduceAdd,Zi,if_true,if_false,Zl,Zm,Zn,Zo,Zp,Zq,Zr,Zs,Zt,Zu,Zv,Zw,Zx,Zy,Zz,ZA,ZB,ZC,ZD,ZE,a0E,hd0,b1,b2,b3]
 have x1:∀ fuel a,relcap_finals_1_S.loop (a0n Tab n) (fuel+1) 1 { i:=[a,(bids.length:Int),(bids.length:Int),b.a,b.b,b.c,b.d,b.e,b.f],b:=[],v:=[B],m:=σ,k:=σ.length }=some (.int .i64 a,σ):=by
  intro fuel a
  rw [Sys.loop,show relcap_finals_1_S.loops[1]?=some a2l from rfl]
  simp -implicitDefEqProofs only [Q0,a2l,↓reduceIte,eq_self,ZF,ZG,ZH,ZI,ZJ,ZK,ZL,ZM,ZN,ZO,ZP,ZQ,ZR,ZS,ZT,ZU,ZV,ZW,ZX,ZY,Z2,Z3,Z4,Z5,Z6,Z7,Z8,Z9,Za,Zb,Zc,Zd,Ze,Zf,Zg,Zh,Nat.reduceAdd,Zi,if_true,if_false,Zl,Zm,Zn,Zo,Zp,Zq,Zr,Zs,Zt,Zu,Zv,Zw,Zx,Zy,Zz,ZA,ZB,ZC,ZD,ZE,a0E,hd1,a0P,true_or]
 have r0:=a5D _ s0 n (by omega)
 have r1:=fun a=>a5D _ (s1 a) (n-l.length-1) (by omega)
 simp only [a0n,a9P,Q0,Sys.run,W6.pv]
 show ((a0D [.sh (.agg [_,_,_,_,_,_]),.ptr,.ptr] _).bind _)=_
 simp -implicitDefEqProofs only [a0D,a0d,a0c,Q1,Q0,Q5,Q2,Q3,if_true,PV.isPtr]
 show (PT.ev _ a4B _).bind _=_
 simp -implicitDefEqProofs only [a4B,↓reduceIte,eq_self,ZF,ZG,ZH,ZI,ZJ,ZK,ZL,ZM,ZN,ZO,ZP,ZQ,ZR,ZS,ZT,ZU,ZV,ZW,ZX,ZY,Z2,Z3,Z4,Z5,Z6,Z7,Z8,Z9,Za,Zb,Zc,Zd,Ze,Zf,Zg,Zh,Nat.reduceAdd,Zi,if_true,if_false,Zl,Zm,Zn,Zo,Zp,Zq,Zr,Zs,Zt,Zu,Zv,Zw,Zx,Zy,Zz,ZA,ZB,ZC,ZD,ZE,p1,p2,p3]
 have t0:(Qe 0 l)=[]:=rfl
 have t1:(Qe 0 bids)=[]:=rfl
 simp only [t0,a5G,a5N,Qf,Q4] at r0
 simp only [t1,a5G,a4i,Qf,Q4] at r1
 refine r0.trans ?_
 rw [show n-l.length=(n-l.length-1)+1 by omega,x0]
 refine (r1 _).trans ?_
 rw [show n-l.length-1-bids.length=(n-l.length-1-bids.length-1)+1 by omega,x1]
 rfl
end Go.Proofs.Ytggjcdnailppoaa
set_option maxRecDepth 100000
namespace Go.Proofs.Ytggjcdnailppoaa
open Go.Sx
theorem b7Y (σ:List MO) (l:List Ch) (P:PV) (hP:P.rowsOf 12=some (l.map Ch.row)) (hl:l.length<=1000) (hok:∀ x∈l,x.ok) (g:Nat) (cap:List PV) (f:W6->Int) (b:W6) (hbk:b.ok) (n:Nat) (hn:1100<=n+1)
  (hf:∀ w,w.ok->a0n Tab n g ([.agg w.pv]++cap) σ=some (.int .i64 (f w),σ)) (hfb:∀ w,w.ok->0<=f w/\f w<=1000000000) :
  a0n Tab (n+1) a9y [P,.fn g cap,.agg b.pv] σ=some (.int .i64 (a2U l f b),σ):=by
 obtain ⟨p1,p2,p3⟩:=a0O hP
 rw [Q6] at p1
 have s0:∀ i,i < l.length->∀ fuel,relcap_most_S.loop (a0n Tab n) (fuel+1) 0 { i:=[a2U (l.take i) f b,(l.length:Int),(i:Int),b.a,b.b,b.c,b.d,b.e,b.f],b:=[],v:=[.fn g cap,P],m:=σ,k:=σ.length } =
   relcap_most_S.loop (a0n Tab n) fuel 0 { i:=[a2U (l.take (i+1)) f b,(l.length:Int),((i+1:Nat):Int),b.a,b.b,b.c,b.d,b.e,b.f],b:=[],v:=[.fn g cap,P],m:=σ,k:=σ.length }:=by
  intro i hi fuel
  obtain ⟨x,hx⟩:=a4g hi
  have hxo:=hok x (Qd hx)
  have hloc:=a0U (off:=0) hP (a1O hx)
  rw [b1Z f b hx,a2C,Sys.loop,show relcap_most_S.loops[0]?=some a2Z from rfl]
  have hd:decide (i < l.length)=true:=decide_eq_true hi
  have hz:(eqB x.w.a b.a&&(eqB x.w.b b.b&&(eqB x.w.c b.c&&(eqB x.w.d b.d&&(eqB x.w.e b.e&&eqB x.w.f b.f)))))=x.w.beq b:=rfl
  simp -implicitDefEqProofs only [Q0,a2Z,↓reduceIte,eq_self,ZF,ZG,ZH,ZI,ZJ,ZK,ZL,ZM,ZN,ZO,ZP,ZQ,ZR,ZS,ZT,ZU,ZV,ZW,ZX,ZY,Z2,Z3,Z4,Z5,Z6,Z7,Z8,Z9,Za,Zb,Zc,Zd,Ze,Zf,Zg,Zh,Nat.reduceAdd,Zi,if_true,if_false,Zl,Zm,Zn,Zo,Zp,Zq,Zr,Zs,Zt,Zu,Zv,Zw,Zx,Zy,Zz,ZA,ZB,ZC,ZD,ZE,a0E,hd,p1,le0,hloc,a1B,hz]
  cases hbb:x.w.beq b with
  | true=>simp -implicitDefEqProofs only [↓reduceIte,eq_self,ZF,ZG,ZH,ZI,ZJ,ZK,ZL,ZM,ZN,ZO,ZP,ZQ,ZR,ZS,ZT,ZU,ZV,ZW,ZX,ZY,Z2,Z3,Z4,Z5,Z6,Z7,Z8,Z9,Za,Zb,Zc,Zd,Ze,Zf,Zg,Zh,Nat.reduceAdd,Zi,if_true,if_false,Zl,Zm,Zn,Zo,Zp,Zq,Zr,Zs,Zt,Zu,Zv,Zw,Zx,Zy,Zz,ZA,ZB,ZC,ZD,ZE,if_pos (a2r (show i<=1000000000 by omega))]
  | false =>
   have c1:=a2n σ x.p b hxo.1 hbk n (by omega)
   have c2:=a2n σ x.p x.w hxo.1 hxo.2 n (by omega)
   have d1:=a4p hxo.1 hbk
   have d2:=a4p hxo.1 hxo.2
   have c3:=hf x.w hxo.2
   have d3:=hfb x.w hxo.2
   simp only [a3D,W6.pv,Q3,Q2] at c1 c2 c3
   have q1:=b2G (z:=f x.w+a1C x.p b) (by omega)
   have q2:=b2G (z:=f x.w+a1C x.p b-a1C x.p x.w) (by omega)
   simp -implicitDefEqProofs only [↓reduceIte,eq_self,ZF,ZG,ZH,ZI,ZJ,ZK,ZL,ZM,ZN,ZO,ZP,ZQ,ZR,ZS,ZT,ZU,ZV,ZW,ZX,ZY,Z2,Z3,Z4,Z5,Z6,Z7,Z8,Z9,Za,Zb,Zc,Zd,Ze,Zf,Zg,Zh,Nat.reduceAdd,Zi,if_true,if_false,Zl,Zm,Zn,Zo,Zp,Zq,Zr,Zs,Zt,Zu,Zv,Zw,Zx,Zy,Zz,ZA,ZB,ZC,ZD,ZE,c1,c2,c3,if_pos q1,if_pos q2,if_pos (a2r (show i<=1000000000 by omega))]
 have hd0:decide (l.length < l.length)=false:=by simp
 have x0:∀ fuel a,relcap_most_S.loop (a0n Tab n) (fuel+1) 0 { i:=[a,(l.length:Int),(l.length:Int),b.a,b.b,b.c,b.d,b.e,b.f],b:=[],v:=[.fn g cap,P],m:=σ,k:=σ.length }=some (.int .i64 a,σ):=by
  intro fuel a
  rw [Sys.loop,show relcap_most_S.loops[0]?=some a2Z from rfl]
  simp -implicitDefEqProofs only [Q0,a2Z,↓reduceIte,eq_self,ZF,ZG,ZH,ZI,ZJ,ZK,ZL,ZM,ZN,ZO,ZP,ZQ,ZR,ZS,ZT,ZU,ZV,ZW,ZX,ZY,Z2,Z3,Z4,Z5,Z6,Z7,Z8,Z9,Za,Zb,Zc,Zd,Ze,Zf,Zg,Zh,Nat.reduceAdd,Zi,if_true,if_false,Zl,Zm,Zn,Zo,Zp,Zq,Zr,Zs,Zt,Zu,Zv,Zw,Zx,Zy,Zz,ZA,ZB,ZC,ZD,ZE,a0E,hd0,a0P,or_true]
 have r0:=a5D _ s0 n (by omega)
 simp only [a0n,b2p,Q0,Sys.run,W6.pv]
 show ((a0D [.sh (.one _),.sh (.one _),.sh (.agg [_,_,_,_,_,_])] _).bind _)=_
 have hfo:(PV.fn g cap).one=true:=rfl
 simp -implicitDefEqProofs only [a0D,a0d,a0c,Q1,Q0,Q5,Q2,Q3,if_true,p3,hfo]
 show (PT.ev _ a6d _).bind _=_
 simp -implicitDefEqProofs only [a6d,↓reduceIte,eq_self,ZF,ZG,ZH,ZI,ZJ,ZK,ZL,ZM,ZN,ZO,ZP,ZQ,ZR,ZS,ZT,ZU,ZV,ZW,ZX,ZY,Z2,Z3,Z4,Z5,Z6,Z7,Z8,Z9,Za,Zb,Zc,Zd,Ze,Zf,Zg,Zh,Nat.reduceAdd,Zi,if_true,if_false,Zl,Zm,Zn,Zo,Zp,Zq,Zr,Zs,Zt,Zu,Zv,Zw,Zx,Zy,Zz,ZA,ZB,ZC,ZD,ZE,p1,p2,p3]
 have t0:(Qe 0 l)=[]:=rfl
 simp only [t0,a5G,a2U,Qf,Q4] at r0
 refine r0.trans ?_
 rw [show n-l.length=(n-l.length-1)+1 by omega,x0]
 rfl
end Go.Proofs.Ytggjcdnailppoaa
set_option maxRecDepth 100000
namespace Go.Proofs.Ytggjcdnailppoaa
open Go.Sx
theorem b2j (k:Nat) (l:List Of):PV.lowss k (l.map Of.row)=true:=by
 induction l with
 | nil=>rfl
 | cons z l ih=>simp [a2F,PV.lowss,PV.lows,PV.low,ih]
theorem b9Q (k:Nat) (l:List Ch):PV.lowss k (l.map Ch.row)=true:=by
 induction l with
 | nil=>rfl
 | cons z l ih=>simp [a1B,PV.lowss,PV.lows,PV.low,ih]
theorem b9t {l:List Ch} (hok:∀ x∈l,x.ok) (b:W6):∀ a,0<=a/\a<=24000000->0<=a5N l b a/\a5N l b a<=24000000:=by
 induction l with
 | nil=>intro a h; exact h
 | cons x l ih =>
  intro a h
  simp only [a5N,Qh]
  refine ih (fun y hy=>hok y (Qj _ hy)) _ ?_
  have hx:=hok x (by simp)
  by_cases hb:x.w.beq b=true
  ·rw [if_pos hb]
   have e:=W6.beq_eq hb
   have:=a4p hx.1 (e▸hx.2:b.ok)
   unfold mxI; split<;>omega
  ·rw [if_neg hb]; exact h
theorem b9p {l:List Of} (hok:∀ x∈l,x.v<=24000000) (b:W6):∀ a,0<=a/\a<=24000000->0<=a4i l b a/\a4i l b a<=24000000:=by
 induction l with
 | nil=>intro a h; exact h
 | cons x l ih =>
  intro a h
  simp only [a4i,Qh]
  refine ih (fun y hy=>hok y (Qj _ hy)) _ ?_
  have hx:=hok x (by simp)
  by_cases hb:x.w.beq b=true
  ·rw [if_pos hb]; unfold mxI; split<;>omega
  ·rw [if_neg hb]; exact h
theorem b7m {l:List Ch} (hok:∀ x∈l,x.ok) {bids:List Of} (hb:∀ x∈bids,x.right=true) (b:W6):0<=fin l bids b/\fin l bids b<=24000000 :=
 b9p (fun x hx=>by have:=hb x hx; simp only [Of.right,Qk,a2w] at this; omega) b _ (b9t hok b _ (by omega))
end Go.Proofs.Ytggjcdnailppoaa
set_option maxRecDepth 100000
namespace Go.Proofs.Ytggjcdnailppoaa
open Go.Sx
def p1F (o:Of):Bool:=!o.right
def p2F (l:List Ch) (bids:List Of) (o:Of):Bool:=ltB (a2U l (fin l bids) o.w) o.v
def a1Q (l:List Ch) (bids:List Of):Int × Int :=
 if (l.all fun x=>decide x.ok)=true then
  match bids.findIdx? p1F with
  | some i=>((i:Int),4)
  | none=>match bids.findIdx? (p2F l bids) with
   | some i=>((i:Int),16)
   | none=>(0,0)
 else (0,4)
def erT (r:Int × Int):PV:=.tup [.int .i64 r.1,.int .i64 r.2]
theorem a7B {α:Type} (p:α->Bool) {l:List α} {i:Nat} {x:α} (h:l[i]?=some x):(l.drop i).findIdx? p=if p x=true then some 0 else ((l.drop (i+1)).findIdx? p).map (·+1):=by
 rw [a2M h,List.findIdx?_cons]
theorem b4O {o:Of} (h:o.right=true):o.w.ok/\1<=o.v/\o.v<=1000000:=by
 simp only [Of.right,Qk,decide_eq_true_eq,a2w] at h
 exact ⟨h.1,h.2.2.1,h.2.2.2⟩
theorem b3H {bids:List Of} (h:bids.findIdx? p1F=none):∀ x∈bids,x.right=true:=by
 intro x hx
 have:=List.findIdx?_eq_none_iff.1 h x hx
 simpa [p1F] using this
section
variable (σ:List MO) (l:List Ch) (P:PV) (hP:P.rowsOf 12=some (l.map Ch.row)) (bids:List Of) (B:PV) (hB:B.rowsOf 8=some (bids.map Of.row)) (hl:l.length<=1000) (hb:bids.length<=1000)
include hP hB hl hb in
theorem b1e (hσ:σ.all (MO.low σ.length)=true) (hPl:P.low σ.length=true) (hBl:B.low σ.length=true) (n:Nat) (hn:5000<=n) :
  a0n Tab n a1c [P,B] σ=some (erT (a1Q l bids),σ):=by
 obtain ⟨n,rfl⟩:∃ k,n=k+1:=⟨n-1,by omega⟩
 obtain ⟨p1,p2,p3⟩:=a0O hP
 obtain ⟨b1,b2,b3⟩:=a0O hB
 rw [Q6] at p1 b1
 have c1:=b3S σ l P hP n (by omega) (by omega)
 simp only [a2d] at c1
 simp only [a0n,b1P,Q0,Sys.run]
 show ((a0D [.sh (.one _),.sh (.one _)] _).bind _)=_
 simp -implicitDefEqProofs only [a0D,a0d,a0c,Q1,Q0,Q5,Q2,Q3,if_true,p3,b3]
 show (PT.ev _ a5B _).bind _=_
 simp -implicitDefEqProofs only [a5B,↓reduceIte,eq_self,ZF,ZG,ZH,ZI,ZJ,ZK,ZL,ZM,ZN,ZO,ZP,ZQ,ZR,ZS,ZT,ZU,ZV,ZW,ZX,ZY,Z2,Z3,Z4,Z5,Z6,Z7,Z8,Z9,Za,Zb,Zc,Zd,Ze,Zf,Zg,Zh,Nat.reduceAdd,Zi,if_true,if_false,Zl,Zm,Zn,Zo,Zp,Zq,Zr,Zs,Zt,Zu,Zv,Zw,Zx,Zy,Zz,ZA,ZB,ZC,ZD,ZE,c1,a1Q]
 by_cases ha:(l.all fun x=>decide x.ok)=true
 case neg =>
  rw [if_neg ha]
  rw [Bool.not_eq_true] at ha
  rw [ha]
  simp -implicitDefEqProofs only [↓reduceIte,eq_self,ZF,ZG,ZH,ZI,ZJ,ZK,ZL,ZM,ZN,ZO,ZP,ZQ,ZR,ZS,ZT,ZU,ZV,ZW,ZX,ZY,Z2,Z3,Z4,Z5,Z6,Z7,Z8,Z9,Za,Zb,Zc,Zd,Ze,Zf,Zg,Zh,Nat.reduceAdd,Zi,if_true,if_false,Zl,Zm,Zn,Zo,Zp,Zq,Zr,Zs,Zt,Zu,Zv,Zw,Zx,Zy,Zz,ZA,ZB,ZC,ZD,ZE,a0P,or_true,erT]
 rw [if_pos ha]
 have hok:∀ x∈l,x.ok:=fun x hx=>by simpa using (List.all_eq_true.1 ha) x hx
 rw [ha]
 simp -implicitDefEqProofs only [↓reduceIte,eq_self,ZF,ZG,ZH,ZI,ZJ,ZK,ZL,ZM,ZN,ZO,ZP,ZQ,ZR,ZS,ZT,ZU,ZV,ZW,ZX,ZY,Z2,Z3,Z4,Z5,Z6,Z7,Z8,Z9,Za,Zb,Zc,Zd,Ze,Zf,Zg,Zh,Nat.reduceAdd,Zi,if_true,if_false,Zl,Zm,Zn,Zo,Zp,Zq,Zr,Zs,Zt,Zu,Zv,Zw,Zx,Zy,Zz,ZA,ZB,ZC,ZD,ZE,b1,b2]
 have L1:(∀ x∈bids,x.right=true)->∀ F,F=PV.fn a1U [.cell [P] 0,.cell [B] 0]->∀ d i,i+d=bids.length->∀ fuel,
   relcap_Check_S.loop (a0n Tab n) (fuel+d+1) 1 { i:=[(bids.length:Int),(i:Int)],b:=[],v:=[P,F,B],m:=σ,k:=σ.length } =
    some (erT (match (bids.drop i).findIdx? (p2F l bids) with | some j=>((i:Int)+(j:Int),16) | none=>(0,0)),σ):=by
  intro hr F hF d
  have hfin:=fun w=>b7Z σ l P hP bids B hB hl hb hok w (n-1) (by omega)
  have hfb:=b7m hok hr
  induction d with
  | zero =>
   intro i hi fuel
   rw [Qb] at hi; subst hi
   have hd:decide (bids.length < bids.length)=false:=by simp
   rw [Sys.loop,show relcap_Check_S.loops[1]?=some a2N from rfl,Qa]
   simp -implicitDefEqProofs only [Q0,a2N,↓reduceIte,eq_self,ZF,ZG,ZH,ZI,ZJ,ZK,ZL,ZM,ZN,ZO,ZP,ZQ,ZR,ZS,ZT,ZU,ZV,ZW,ZX,ZY,Z2,Z3,Z4,Z5,Z6,Z7,Z8,Z9,Za,Zb,Zc,Zd,Ze,Zf,Zg,Zh,Nat.reduceAdd,Zi,if_true,if_false,Zl,Zm,Zn,Zo,Zp,Zq,Zr,Zs,Zt,Zu,Zv,Zw,Zx,Zy,Zz,ZA,ZB,ZC,ZD,ZE,a0E,hd,a0P,or_true,Qm,erT]
  | succ d ih =>
   intro i hi fuel
   have hlt:i < bids.length:=by omega
   obtain ⟨x,hx⟩:=a4g hlt
   have hd:decide (i < bids.length)=true:=decide_eq_true hlt
   have hloc:=a0U (off:=0) hB (a2E hx)
   have hxr:=b4O (hr x (Qd hx))
   have e2:=b7Y σ l P hP hl hok a1U [.cell [P] 0,.cell [B] 0] (fin l bids) x.w hxr.1 (n-1) (by omega) (fun w _=>hfin w) (fun w _=>by have:=hfb w; omega)
   rw [show n-1+1=n by omega,<- hF] at e2
   rw [a7B _ hx,Sys.loop,show relcap_Check_S.loops[1]?=some a2N from rfl]
   have hp2:p2F l bids x=ltB (a2U l (fin l bids) x.w) x.v:=rfl
   rw [hp2]
   generalize a2U l (fin l bids) x.w=mm at *
   simp only [a9y,W6.pv] at e2
   simp -implicitDefEqProofs only [Q0,a2N,↓reduceIte,eq_self,ZF,ZG,ZH,ZI,ZJ,ZK,ZL,ZM,ZN,ZO,ZP,ZQ,ZR,ZS,ZT,ZU,ZV,ZW,ZX,ZY,Z2,Z3,Z4,Z5,Z6,Z7,Z8,Z9,Za,Zb,Zc,Zd,Ze,Zf,Zg,Zh,Nat.reduceAdd,Zi,if_true,if_false,Zl,Zm,Zn,Zo,Zp,Zq,Zr,Zs,Zt,Zu,Zv,Zw,Zx,Zy,Zz,ZA,ZB,ZC,ZD,ZE,a0E,hd,b1,le0,hloc,a2F,e2]
   cases ltB mm x.v with
   | true=>simp -implicitDefEqProofs only [↓reduceIte,eq_self,ZF,ZG,ZH,ZI,ZJ,ZK,ZL,ZM,ZN,ZO,ZP,ZQ,ZR,ZS,ZT,ZU,ZV,ZW,ZX,ZY,Z2,Z3,Z4,Z5,Z6,Z7,Z8,Z9,Za,Zb,Zc,Zd,Ze,Zf,Zg,Zh,Nat.reduceAdd,Zi,if_true,if_false,Zl,Zm,Zn,Zo,Zp,Zq,Zr,Zs,Zt,Zu,Zv,Zw,Zx,Zy,Zz,ZA,ZB,ZC,ZD,ZE,a0P,or_true,erT,Q4,Int.add_zero]
   | false =>
    have:=ih (i+1) (by omega) fuel
    rw [a2C] at this
    simp -implicitDefEqProofs only [↓reduceIte,eq_self,ZF,ZG,ZH,ZI,ZJ,ZK,ZL,ZM,ZN,ZO,ZP,ZQ,ZR,ZS,ZT,ZU,ZV,ZW,ZX,ZY,Z2,Z3,Z4,Z5,Z6,Z7,Z8,Z9,Za,Zb,Zc,Zd,Ze,Zf,Zg,Zh,Nat.reduceAdd,Zi,if_true,if_false,Zl,Zm,Zn,Zo,Zp,Zq,Zr,Zs,Zt,Zu,Zv,Zw,Zx,Zy,Zz,ZA,ZB,ZC,ZD,ZE,if_pos (a2r (show i<=1000000000 by omega))]
    refine this.trans ?_
    cases (bids.drop (i+1)).findIdx? (p2F l bids) with
    | none=>rfl
    | some j=>simp only [Q1,erT]; rw [show (i:Int)+1+(j:Int)=(i:Int)+((j+1:Nat):Int) by omega]
 have L0:∀ d i,i+d=bids.length->∀ fuel,
   relcap_Check_S.loop (a0n Tab n) (fuel+d+1) 0 { i:=[(bids.length:Int),(i:Int)],b:=[],v:=[P,B],m:=σ,k:=σ.length } =
    match (bids.drop i).findIdx? p1F with
    | some j=>some (erT ((i:Int)+(j:Int),4),σ)
    | none=>relcap_Check_S.loop (a0n Tab n) fuel 1 { i:=[(bids.length:Int),0],b:=[],v:=[P,PV.fn a1U [.cell [P] 0,.cell [B] 0],B],m:=σ,k:=σ.length }:=by
  intro d
  induction d with
  | zero =>
   intro i hi fuel
   rw [Qb] at hi; subst hi
   have hd:decide (bids.length < bids.length)=false:=by simp
   have e1:=b6M σ P B p3 b3 hPl hBl n (by omega) hσ
   simp only [a7u] at e1
   have hone:(PV.fn a1U [.cell [P] 0,.cell [B] 0]).one=true:=rfl
   rw [Sys.loop,show relcap_Check_S.loops[0]?=some a2O from rfl,Qa]
   simp -implicitDefEqProofs only [Q0,a2O,↓reduceIte,eq_self,ZF,ZG,ZH,ZI,ZJ,ZK,ZL,ZM,ZN,ZO,ZP,ZQ,ZR,ZS,ZT,ZU,ZV,ZW,ZX,ZY,Z2,Z3,Z4,Z5,Z6,Z7,Z8,Z9,Za,Zb,Zc,Zd,Ze,Zf,Zg,Zh,Nat.reduceAdd,Zi,if_true,if_false,Zl,Zm,Zn,Zo,Zp,Zq,Zr,Zs,Zt,Zu,Zv,Zw,Zx,Zy,Zz,ZA,ZB,ZC,ZD,ZE,a0E,hd,e1,hone,b1,b2,Qm]
  | succ d ih =>
   intro i hi fuel
   have hlt:i < bids.length:=by omega
   obtain ⟨x,hx⟩:=a4g hlt
   have hd:decide (i < bids.length)=true:=decide_eq_true hlt
   have hloc:=a0U (off:=0) hB (a2E hx)
   have c1:=b1y σ x n (by omega)
   rw [a7B _ hx,Sys.loop,show relcap_Check_S.loops[0]?=some a2O from rfl]
   have hp:p1F x=!x.right:=rfl
   rw [hp]
   generalize x.right=r at *
   simp only [a8k,a2F] at c1
   simp -implicitDefEqProofs only [Q0,a2O,↓reduceIte,eq_self,ZF,ZG,ZH,ZI,ZJ,ZK,ZL,ZM,ZN,ZO,ZP,ZQ,ZR,ZS,ZT,ZU,ZV,ZW,ZX,ZY,Z2,Z3,Z4,Z5,Z6,Z7,Z8,Z9,Za,Zb,Zc,Zd,Ze,Zf,Zg,Zh,Nat.reduceAdd,Zi,if_true,if_false,Zl,Zm,Zn,Zo,Zp,Zq,Zr,Zs,Zt,Zu,Zv,Zw,Zx,Zy,Zz,ZA,ZB,ZC,ZD,ZE,a0E,hd,b1,le0,hloc,a2F,c1]
   cases r with
   | false=>simp -implicitDefEqProofs only [↓reduceIte,eq_self,ZF,ZG,ZH,ZI,ZJ,ZK,ZL,ZM,ZN,ZO,ZP,ZQ,ZR,ZS,ZT,ZU,ZV,ZW,ZX,ZY,Z2,Z3,Z4,Z5,Z6,Z7,Z8,Z9,Za,Zb,Zc,Zd,Ze,Zf,Zg,Zh,Nat.reduceAdd,Zi,if_true,if_false,Zl,Zm,Zn,Zo,Zp,Zq,Zr,Zs,Zt,Zu,Zv,Zw,Zx,Zy,Zz,ZA,ZB,ZC,ZD,ZE,a0P,or_true,erT,Q4,Int.add_zero]
   | true =>
    have:=ih (i+1) (by omega) fuel
    rw [a2C] at this
    simp -implicitDefEqProofs only [↓reduceIte,eq_self,ZF,ZG,ZH,ZI,ZJ,ZK,ZL,ZM,ZN,ZO,ZP,ZQ,ZR,ZS,ZT,ZU,ZV,ZW,ZX,ZY,Z2,Z3,Z4,Z5,Z6,Z7,Z8,Z9,Za,Zb,Zc,Zd,Ze,Zf,Zg,Zh,Nat.reduceAdd,Zi,if_true,if_false,Zl,Zm,Zn,Zo,Zp,Zq,Zr,Zs,Zt,Zu,Zv,Zw,Zx,Zy,Zz,ZA,ZB,ZC,ZD,ZE,if_pos (a2r (show i<=1000000000 by omega))]
    refine this.trans ?_
    cases (bids.drop (i+1)).findIdx? p1F with
    | none=>rfl
    | some j=>simp only [Q1,erT]; rw [show (i:Int)+1+(j:Int)=(i:Int)+((j+1:Nat):Int) by omega]
 have r0:=L0 bids.length 0 (by omega) (n-bids.length-1)
 rw [show n-bids.length-1+bids.length+1=n by omega,Qn] at r0
 refine r0.trans ?_
 cases hf:bids.findIdx? p1F with
 | some j=>simp only [erT,Q4,Int.zero_add]
 | none =>
  have r1:=L1 (b3H hf) _ rfl bids.length 0 (by omega) (n-bids.length-1-bids.length-1)
  rw [show n-bids.length-1-bids.length-1+bids.length+1=n-bids.length-1 by omega,Qn] at r1
  refine r1.trans ?_
  cases bids.findIdx? (p2F l bids) with
  | none=>rfl
  | some j=>simp only [erT,Q4,Int.zero_add]
end
end Go.Proofs.Ytggjcdnailppoaa
set_option maxRecDepth 100000
namespace Go.Proofs.Ytggjcdnailppoaa
open Go.Sx
end Go.Proofs.Ytggjcdnailppoaa
