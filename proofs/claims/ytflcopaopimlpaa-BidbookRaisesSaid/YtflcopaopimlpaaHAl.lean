/- Units of a group in a bundle: the code's and the reference's. -/
import Derived.Test.YtflcopaopimlpaaHSu
set_option linter.unusedSimpArgs false
set_option linter.unusedVariables false
open Go.Sx.BE renaming safe → Z2, pe → Z3, all → Zz
open Go.Sx.IE renaming pe → Z4
open Go.Sx renaming PEnv.at → Z5
open Go.Sx.PEnv renaming push → Zt
open List renaming getD_cons_zero → Z6, getD_cons_succ → Z7, getElem?_cons_zero → Z8, getElem?_cons_succ → Z9, drop_zero → Zf, length_cons → Zg, length_nil → Zh, take_succ_cons → Zm, take_zero → Zn, cons_append → Zu, nil_append → Zv, append_nil → Zw, map_cons → ZD, map_nil → ZE
open Go.Sx renaming a0y → Za, a0A → Zb, a0o → Zc, a0z → Zd, a0w → Zo, a0p → Zp, a0x → Zq, a0r → ZF, a0t → ZG, a0n → ZH, a0j → ZI, a0s → ZJ, a0q → ZK, a0g → ZL, a0v → ZM, a0i → ZN, a0m → ZO, a0e → ZP, a0h → ZQ, a0u → ZR, a0a → ZS, a0k → ZT, a0f → ZU, a0b → ZV, a0c → ZW, a0d → ZX, a0l → ZY
open Nat renaming add_zero → Ze, le_refl → Zi
open Bool renaming false_eq_true → Zl, and_self → ZA, not_true → ZB, not_false → ZC
open Option renaming map_some → Zr, bind_some → Zs
open Go.Sx.SV renaming pvs → Zx, pv → Zy
open Option renaming bind_some → Q0, map_some → Q4, getD_some → Qh
open Bool renaming false_eq_true → Q1, not_true → Q8, false_and → Q9, not_false → Qa, true_and → Qb, true_or → Qf, false_or → Qg, not_eq_true → Qm
open List renaming length_map → Q2, getElem?_eq_some_iff → Q3, append_nil → Q5, nil_append → Q6, cons_append → Q7, mem_of_getElem? → Qe, drop_length → Qj, foldl_nil → Qk, drop → Qn, drop_eq_getElem_cons → Qp, foldl_cons → Qq
open Nat renaming add_zero → Qd
open Int renaming cast_ofNat_Int → Qr, toNat_natCast → Qs
set_option maxRecDepth 100000
namespace Go.Proofs.Ytflcopaopimlpaa
open Go.Sx
def un (g:Int) (x:Pr):Int:=if eqB x.g g=true then 1 else 0
theorem c2d (g:Int) (x:Pr):0<=un g x/\un g x<=1:=by unfold un; split<;>omega
def unV (l:List Pr) (g:Int) (w:W6):Int:=if eqB (a6j l) 0=true then (if eqB (a4u w) 0=true then ptS (un g) l w l.length else 0) else 0
theorem c6w (σ:List MO) (g:Int) (x:Pr) (n:Nat) (hn:1<=n):a0B Tab n a2S [.agg x.row,.ref σ.length 0] (σ++[.cells [.int .i64 g] 3])=some (.int .i64 (un g x),σ++[.cells [.int .i64 g] 3]):=by
 obtain ⟨n,rfl⟩:∃ k,n=k+1:=⟨n-1,by omega⟩
 have g0:(σ++[MO.cells [.int .i64 g] 3])[σ.length]?=some (.cells [.int .i64 g] 3):=by simp
 simp only [a0B,b2P,Q0,Sys.run,a2l]
 show ((a0E [.sh (.agg [_,_,_,_,_]),.ptr] _).bind _)=_
 simp -implicitDefEqProofs only [a0E,a0x,a0w,Q4,Q0,Q5,Q6,Q7,if_true,a1G]
 show (PT.ev _ a5S _).bind _=_
 simp -implicitDefEqProofs only [a5S,↓reduceIte,eq_self,ZF,ZG,ZH,ZI,ZJ,ZK,ZL,ZM,ZN,ZO,ZP,ZQ,ZR,ZS,ZT,ZU,ZV,ZW,ZX,ZY,Z2,Z3,Z4,Z5,Z6,Z7,Z8,Z9,Za,Zb,Zc,Zd,Ze,Zf,Zg,Zh,Nat.reduceAdd,Zi,if_true,if_false,Zl,Zm,Zn,Zo,Zp,Zq,Zr,Zs,Zt,Zu,Zv,Zw,Zx,Zy,Zz,ZA,ZB,ZC,ZD,ZE,g0,MO.list]
 unfold un
 cases eqB x.g g<;>simp -implicitDefEqProofs only [↓reduceIte,eq_self,ZF,ZG,ZH,ZI,ZJ,ZK,ZL,ZM,ZN,ZO,ZP,ZQ,ZR,ZS,ZT,ZU,ZV,ZW,ZX,ZY,Z2,Z3,Z4,Z5,Z6,Z7,Z8,Z9,Za,Zb,Zc,Zd,Ze,Zf,Zg,Zh,Nat.reduceAdd,Zi,if_true,if_false,Zl,Zm,Zn,Zo,Zp,Zq,Zr,Zs,Zt,Zu,Zv,Zw,Zx,Zy,Zz,ZA,ZB,ZC,ZD,ZE,a0D,or_true,true_or,if_true,Q1,if_false]
def c1G (σ:List MO) (P F:PV) (is:List Int) (w:W6):PEnv:={ i:=is++[w.a,w.b,w.c,w.d,w.e,w.f],b:=[],v:=[F,P],m:=σ,k:=σ.length }
theorem c1j (σ:List MO) (g:Int) (l:List Pr) (P:PV) (hP:P.rowsOf 5=some (l.map Pr.row)) (w:W6) (hw:w.ok) (hl:l.length<=6) (n:Nat) (hn:1<=n):∀ d i,i+d=l.length->∀ fuel,
  catalog_units_sum_S.loop (a0B Tab n) (fuel+d+1) 0 (c1G (σ++[.cells [.int .i64 g] 3]) P (.fn a2S [.ref σ.length 0]) [ptS (un g) l w i,(l.length:Int),(i:Int)] w)=some (.int .i64 (ptS (un g) l w l.length),σ++[.cells [.int .i64 g] 3]):=by
 obtain ⟨p1,p2,p3⟩:=a0C hP
 rw [Q2] at p1
 intro d
 induction d with
 | zero =>
  intro i hi fuel
  rw [Qd] at hi; subst hi
  have hd:decide (l.length < l.length)=false:=by simp
  rw [Sys.loop,show catalog_units_sum_S.loops[0]?=some a2O from rfl]
  simp -implicitDefEqProofs only [Q0,c1G,a2O,↓reduceIte,eq_self,ZF,ZG,ZH,ZI,ZJ,ZK,ZL,ZM,ZN,ZO,ZP,ZQ,ZR,ZS,ZT,ZU,ZV,ZW,ZX,ZY,Z2,Z3,Z4,Z5,Z6,Z7,Z8,Z9,Za,Zb,Zc,Zd,Ze,Zf,Zg,Zh,Nat.reduceAdd,Zi,if_true,if_false,Zl,Zm,Zn,Zo,Zp,Zq,Zr,Zs,Zt,Zu,Zv,Zw,Zx,Zy,Zz,ZA,ZB,ZC,ZD,ZE,p1,p2,a0F,hd,a0D,or_true]
 | succ d ih =>
  intro i hi fuel
  have hlt:i < l.length:=by omega
  obtain ⟨x,hx⟩:=a0W hlt
  have hd:decide (i < l.length)=true:=decide_eq_true hlt
  have hq:=a0G (off:=0) hP (a1l hx)
  have hw1:=b7m hw i
  have b1:=b3b (f:=un g) (l:=l) (b:=1) hw (by omega) (fun y hy=>c2d g y) i
  have c1:=c6w σ g x n hn
  have ih:=ih (i+1) (by omega) fuel
  rw [a0Q] at ih
  have k1:ptS (un g) l w (i+1)=ptS (un g) l w i+a4t w i*un g x:=by simp only [ptS,b0s,hx,Q4,Qh]
  have hu:=c2d g x
  have hm:0<=a4t w i*un g x/\a4t w i*un g x<=4*1:=⟨Int.mul_nonneg hw1.1 hu.1,Int.mul_le_mul hw1.2 hu.2 hu.1 (by omega)⟩
  rw [k1] at ih
  generalize ptS (un g) l w i=s1 at *
  generalize un g x=ux at *
  have q1:=a1q (z:=a4t w i*ux) (by omega)
  have q2:=a1q (z:=s1+a4t w i*ux) (by omega)
  simp only [a2S,a2l] at c1
  rw [<- ih,show fuel+(d+1)+1=(fuel+d+1)+1 from rfl,Sys.loop,show catalog_units_sum_S.loops[0]?=some a2O from rfl]
  simp -implicitDefEqProofs only [Q0,c1G,a2O,↓reduceIte,eq_self,ZF,ZG,ZH,ZI,ZJ,ZK,ZL,ZM,ZN,ZO,ZP,ZQ,ZR,ZS,ZT,ZU,ZV,ZW,ZX,ZY,Z2,Z3,Z4,Z5,Z6,Z7,Z8,Z9,Za,Zb,Zc,Zd,Ze,Zf,Zg,Zh,Nat.reduceAdd,Zi,if_true,if_false,Zl,Zm,Zn,Zo,Zp,Zq,Zr,Zs,Zt,Zu,Zv,Zw,Zx,Zy,Zz,ZA,ZB,ZC,ZD,ZE,p1,p2,a0F,hd,le0,hq,a2l,a1G,a2S,c1]
  obtain rfl | rfl | rfl | rfl | rfl | rfl:i=0\/i=1\/i=2\/i=3\/i=4\/i=5:=by omega
  all_goals
   simp only [a4t,wl,List.getElem?_cons_zero,List.getElem?_cons_succ,Qh] at q1 q2 ⊢
   have e5:∀ a b:Int,eqB a b=decide (a=b):=fun _ _=>rfl
   simp -implicitDefEqProofs only [↓reduceIte,eq_self,ZF,ZG,ZH,ZI,ZJ,ZK,ZL,ZM,ZN,ZO,ZP,ZQ,ZR,ZS,ZT,ZU,ZV,ZW,ZX,ZY,Z2,Z3,Z4,Z5,Z6,Z7,Z8,Z9,Za,Zb,Zc,Zd,Ze,Zf,Zg,Zh,Nat.reduceAdd,Zi,if_true,if_false,Zl,Zm,Zn,Zo,Zp,Zq,Zr,Zs,Zt,Zu,Zv,Zw,Zx,Zy,Zz,ZA,ZB,ZC,ZD,ZE,e5,Int.reduceEq,Qr,decide_true,decide_false,q1,q2,c1,Int.reduceAdd]
theorem c2W (σ:List MO) (hlow:σ.all (MO.low σ.length)=true) (l:List Pr) (P:PV) (hP:P.rowsOf 5=some (l.map Pr.row)) (g:Int) (w:W6) (n:Nat) (hn:100<=n):a0B Tab n b0d [P,.int .i64 g,.agg w.pv] σ=some (.int .i64 (unV l g w),σ):=by
 obtain ⟨n,rfl⟩:∃ k,n=k+1:=⟨n-1,by omega⟩
 obtain ⟨p1,p2,p3⟩:=a0C hP
 rw [Q2] at p1
 have c0:a0B Tab n a7d [.agg [P,.int .i64 w.a,.int .i64 w.b,.int .i64 w.c,.int .i64 w.d,.int .i64 w.e,.int .i64 w.f],.fn a2S [.ref σ.length 0]] (σ++[.cells [.int .i64 g] 3])=some (.int .i64 (unV l g w),σ++[.cells [.int .i64 g] 3]):=by
  obtain ⟨n,rfl⟩:∃ k,n=k+1:=⟨n-1,by omega⟩
  have c1:=b4D (σ++[.cells [.int .i64 g] 3]) l P hP n (by omega)
  have c2:=a6o (σ++[.cells [.int .i64 g] 3]) w n (by omega)
  simp only [a6M,a5K,W6.pv] at c1 c2
  rw [a0B]
  simp only [b1e,Q0,Sys.run]
  show ((a0E [.sh (.agg [_,_,_,_,_,_,_]),.sh (.one _)] _).bind _)=_
  simp -implicitDefEqProofs only [a0E,a0x,a0w,Q4,Q0,Q5,Q6,Q7,if_true,p3,c2J]
  show (PT.ev _ a5l _).bind _=_
  simp -implicitDefEqProofs only [a5l,↓reduceIte,eq_self,ZF,ZG,ZH,ZI,ZJ,ZK,ZL,ZM,ZN,ZO,ZP,ZQ,ZR,ZS,ZT,ZU,ZV,ZW,ZX,ZY,Z2,Z3,Z4,Z5,Z6,Z7,Z8,Z9,Za,Zb,Zc,Zd,Ze,Zf,Zg,Zh,Nat.reduceAdd,Zi,if_true,if_false,Zl,Zm,Zn,Zo,Zp,Zq,Zr,Zs,Zt,Zu,Zv,Zw,Zx,Zy,Zz,ZA,ZB,ZC,ZD,ZE,c1,unV]
  cases hc:eqB (a6j l) 0 with
  | false=>simp -implicitDefEqProofs only [↓reduceIte,eq_self,ZF,ZG,ZH,ZI,ZJ,ZK,ZL,ZM,ZN,ZO,ZP,ZQ,ZR,ZS,ZT,ZU,ZV,ZW,ZX,ZY,Z2,Z3,Z4,Z5,Z6,Z7,Z8,Z9,Za,Zb,Zc,Zd,Ze,Zf,Zg,Zh,Nat.reduceAdd,Zi,if_true,if_false,Zl,Zm,Zn,Zo,Zp,Zq,Zr,Zs,Zt,Zu,Zv,Zw,Zx,Zy,Zz,ZA,ZB,ZC,ZD,ZE,a0D,or_true]
  | true =>
   obtain ⟨hl,hr⟩:=a7M (a8O.1 hc)
   simp -implicitDefEqProofs only [↓reduceIte,eq_self,ZF,ZG,ZH,ZI,ZJ,ZK,ZL,ZM,ZN,ZO,ZP,ZQ,ZR,ZS,ZT,ZU,ZV,ZW,ZX,ZY,Z2,Z3,Z4,Z5,Z6,Z7,Z8,Z9,Za,Zb,Zc,Zd,Ze,Zf,Zg,Zh,Nat.reduceAdd,Zi,if_true,if_false,Zl,Zm,Zn,Zo,Zp,Zq,Zr,Zs,Zt,Zu,Zv,Zw,Zx,Zy,Zz,ZA,ZB,ZC,ZD,ZE,c2]
   cases hb:eqB (a4u w) 0 with
   | false=>simp -implicitDefEqProofs only [↓reduceIte,eq_self,ZF,ZG,ZH,ZI,ZJ,ZK,ZL,ZM,ZN,ZO,ZP,ZQ,ZR,ZS,ZT,ZU,ZV,ZW,ZX,ZY,Z2,Z3,Z4,Z5,Z6,Z7,Z8,Z9,Za,Zb,Zc,Zd,Ze,Zf,Zg,Zh,Nat.reduceAdd,Zi,if_true,if_false,Zl,Zm,Zn,Zo,Zp,Zq,Zr,Zs,Zt,Zu,Zv,Zw,Zx,Zy,Zz,ZA,ZB,ZC,ZD,ZE,a0D,or_true]
   | true =>
    have hw:w.ok:=by
     by_cases hw:w.ok
     ·exact hw
     ·unfold a4u at hb; rw [if_neg hw] at hb; cases hb
    obtain ⟨f,hf⟩:∃ f,n=f+l.length+1:=⟨n-l.length-1,by omega⟩
    have hu:=c1j σ g l P hP w hw hl n (by omega) l.length 0 (by omega) f
    rw [<- hf] at hu
    simp -implicitDefEqProofs only [↓reduceIte,eq_self,ZF,ZG,ZH,ZI,ZJ,ZK,ZL,ZM,ZN,ZO,ZP,ZQ,ZR,ZS,ZT,ZU,ZV,ZW,ZX,ZY,Z2,Z3,Z4,Z5,Z6,Z7,Z8,Z9,Za,Zb,Zc,Zd,Ze,Zf,Zg,Zh,Nat.reduceAdd,Zi,if_true,if_false,Zl,Zm,Zn,Zo,Zp,Zq,Zr,Zs,Zt,Zu,Zv,Zw,Zx,Zy,Zz,ZA,ZB,ZC,ZD,ZE,p1,p2]
    exact hu
 simp only [a7d] at c0
 rw [a0B]
 simp only [b4h,Q0,Sys.run,W6.pv]
 show ((a0E [.sh (.one _),.sh (.one _),.sh (.agg [_,_,_,_,_,_])] _).bind _)=_
 simp -implicitDefEqProofs only [a0E,a0x,a0w,Q4,Q0,Q5,Q6,Q7,if_true,p3]
 show (PT.ev _ a6U _).bind _=_
 simp -implicitDefEqProofs only [a2S] at c0
 have hr:∀ (is:List Int) (vs:List PV) (z:Int),a0D { i:=is,b:=[],v:=vs,m:=σ++[.cells [.int .i64 g] 3],k:=σ.length } false (.int .i64 z)=some (.int .i64 z,σ):=fun is vs z=>by
  unfold a0D
  dsimp only
  rw [if_neg (by simp),show List.take σ.length (σ++[MO.cells [.int .i64 g] 3])=σ from List.take_left,if_pos hlow]
  rfl
 have ho:PV.on 0 (.ref σ.length 0)=some (.ref σ.length 0):=rfl
 simp -implicitDefEqProofs only [a6U,↓reduceIte,eq_self,ZF,ZG,ZH,ZI,ZJ,ZK,ZL,ZM,ZN,ZO,ZP,ZQ,ZR,ZS,ZT,ZU,ZV,ZW,ZX,ZY,Z2,Z3,Z4,Z5,Z6,Z7,Z8,Z9,Za,Zb,Zc,Zd,Ze,Zf,Zg,Zh,Nat.reduceAdd,Zi,if_true,if_false,Zl,Zm,Zn,Zo,Zp,Zq,Zr,Zs,Zt,Zu,Zv,Zw,Zx,Zy,Zz,ZA,ZB,ZC,ZD,ZE,ho,c0,hr]
end Go.Proofs.Ytflcopaopimlpaa
set_option maxRecDepth 100000
namespace Go.Proofs.Ytflcopaopimlpaa
open Go.Sx
def W6.put (w:W6) (i v:Int):W6:=if i=0 then { w with a:=v } else if i=1 then { w with b:=v } else if i=2 then { w with c:=v } else if i=3 then { w with d:=v } else if i=4 then { w with e:=v } else { w with f:=v }
def W6.at6 (w:W6) (i:Int):Int:=if i=0 then w.a else if i=1 then w.b else if i=2 then w.c else if i=3 then w.d else if i=4 then w.e else w.f
def a3b (p:W6 × W6) (t:Tri):W6 × W6:=(p.1.put t.x (p.1.at6 t.x-t.z),p.2.put t.x t.y)
def W6.wide (w:W6) (m:Int):Prop:=-m<=w.a/\w.a<=4/\-m<=w.b/\w.b<=4/\-m<=w.c/\w.c<=4/\-m<=w.d/\w.d<=4/\-m<=w.e/\w.e<=4/\-m<=w.f/\w.f<=4
def Tri.aok (t:Tri):Prop:=0<=t.x/\t.x<=5/\1<=t.z/\t.z<=4
theorem a5A {x:Int} (h:0<=x/\x<=5):x=0\/x=1\/x=2\/x=3\/x=4\/x=5:=by omega
theorem b7G {o c:W6} {t:Tri} {m:Int} (h:o.wide m) (ht:t.aok) (hm:0<=m):(a3b (o,c) t).1.wide (m+4):=by
 obtain ⟨x,y,z⟩:=t
 obtain ⟨a,b,cc,d,e,f⟩:=o
 simp only [Tri.aok,W6.wide] at *
 rcases a5A ⟨ht.1,ht.2.1⟩ with rfl | rfl | rfl | rfl | rfl | rfl<;>simp [a3b,W6.put,W6.at6]<;>omega
def shF (ps:List Pr) (ad:List Tri):W6 × W6:=ad.foldl a3b (a1T ps,⟨0,0,0,0,0,0⟩)
section
variable (σ:List MO) (ad:List Tri) (P B C A:PV) (hA:A.rowsOf 3=some (ad.map Tri.row)) (n:Nat)
def b1V (σ:List MO) (P B C A:PV) (N i:Int) (o c:W6):PEnv:={ i:=[N,i,o.a,o.b,o.c,o.d,o.e,o.f,c.a,c.b,c.c,c.d,c.e,c.f],b:=[],v:=[A,P,B,C],m:=σ,k:=σ.length }
def b0r (σ:List MO) (P B C A:PV) (_N i:Int) (o c:W6):PEnv:={ i:=[i,o.a,o.b,o.c,o.d,o.e,o.f,c.a,c.b,c.c,c.d,c.e,c.f],b:=[],v:=[P,B,C,A],m:=σ,k:=σ.length }
include hA in
theorem c5X {i:Nat} {t:Tri} (hx:ad[i]?=some t) (ht:t.aok) (hi:i<=1000) (o c:W6) (ho:o.wide 1000) (fuel:Nat) :
  setup_shares_S.loop (a0B Tab n) (fuel+1) 0 (b1V σ P B C A (ad.length:Int) (i:Int) o c)=setup_shares_S.loop (a0B Tab n) fuel 0 (b1V σ P B C A (ad.length:Int) ((i:Int)+1) (a3b (o,c) t).1 (a3b (o,c) t).2):=by
 obtain ⟨p1,p2,p3⟩:=a0C hA
 rw [Q2] at p1
 have hlt:i < ad.length:=(Q3.1 hx).1
 have hd:decide (i < ad.length)=true:=decide_eq_true hlt
 have hq:=a0G (off:=0) hA (a2R hx)
 have hup:=a1y (show i<=1000000000 by omega)
 obtain ⟨x,y,z⟩:=t
 simp only [Tri.aok,W6.wide] at ht ho
 have u1:=a1q (z:=o.a-z) (by omega)
 have u2:=a1q (z:=o.b-z) (by omega)
 have u3:=a1q (z:=o.c-z) (by omega)
 have u4:=a1q (z:=o.d-z) (by omega)
 have u5:=a1q (z:=o.e-z) (by omega)
 have u6:=a1q (z:=o.f-z) (by omega)
 have e5:∀ a b:Int,eqB a b=decide (a=b):=fun _ _=>rfl
 rw [Sys.loop,show setup_shares_S.loops[0]?=some a4c from rfl]
 rcases a5A ⟨ht.1,ht.2.1⟩ with rfl | rfl | rfl | rfl | rfl | rfl
 all_goals
  simp -implicitDefEqProofs only [Q0,b1V,a4c,↓reduceIte,eq_self,ZF,ZG,ZH,ZI,ZJ,ZK,ZL,ZM,ZN,ZO,ZP,ZQ,ZR,ZS,ZT,ZU,ZV,ZW,ZX,ZY,Z2,Z3,Z4,Z5,Z6,Z7,Z8,Z9,Za,Zb,Zc,Zd,Ze,Zf,Zg,Zh,Nat.reduceAdd,Zi,if_true,if_false,Zl,Zm,Zn,Zo,Zp,Zq,Zr,Zs,Zt,Zu,Zv,Zw,Zx,Zy,Zz,ZA,ZB,ZC,ZD,ZE,p1,p2,a0F,hd,le0,hq,a3J,e5,Int.reduceEq,decide_true,decide_false,if_pos hup,if_pos u1,if_pos u2,if_pos u3,if_pos u4,if_pos u5,if_pos u6]
  rfl
include hA in
theorem c6i {i:Nat} {t:Tri} (hx:ad[i]?=some t) (ht:t.aok) (hi:i<=1000) (o c:W6) (ho:o.wide 1000) (fuel:Nat) :
  saleroomref10_Open_S.loop (a0B Tab n) (fuel+1) 1 (b0r σ P B C A (ad.length:Int) (i:Int) o c)=saleroomref10_Open_S.loop (a0B Tab n) fuel 1 (b0r σ P B C A (ad.length:Int) ((i:Int)+1) (a3b (o,c) t).1 (a3b (o,c) t).2):=by
 obtain ⟨p1,p2,p3⟩:=a0C hA
 rw [Q2] at p1
 have hlt:i < ad.length:=(Q3.1 hx).1
 have hd:decide (i < ad.length)=true:=decide_eq_true hlt
 have hq:=a0G (off:=0) hA (a2R hx)
 have hup:=a1y (show i<=1000000000 by omega)
 obtain ⟨x,y,z⟩:=t
 simp only [Tri.aok,W6.wide] at ht ho
 have u1:=a1q (z:=o.a-z) (by omega)
 have u2:=a1q (z:=o.b-z) (by omega)
 have u3:=a1q (z:=o.c-z) (by omega)
 have u4:=a1q (z:=o.d-z) (by omega)
 have u5:=a1q (z:=o.e-z) (by omega)
 have u6:=a1q (z:=o.f-z) (by omega)
 have e5:∀ a b:Int,eqB a b=decide (a=b):=fun _ _=>rfl
 rw [Sys.loop,show saleroomref10_Open_S.loops[1]?=some a2E from rfl]
 rcases a5A ⟨ht.1,ht.2.1⟩ with rfl | rfl | rfl | rfl | rfl | rfl
 all_goals
  simp -implicitDefEqProofs only [Q0,b0r,a2E,↓reduceIte,eq_self,ZF,ZG,ZH,ZI,ZJ,ZK,ZL,ZM,ZN,ZO,ZP,ZQ,ZR,ZS,ZT,ZU,ZV,ZW,ZX,ZY,Z2,Z3,Z4,Z5,Z6,Z7,Z8,Z9,Za,Zb,Zc,Zd,Ze,Zf,Zg,Zh,Nat.reduceAdd,Zi,if_true,if_false,Zl,Zm,Zn,Zo,Zp,Zq,Zr,Zs,Zt,Zu,Zv,Zw,Zx,Zy,Zz,ZA,ZB,ZC,ZD,ZE,p1,p2,a0F,hd,le0,hq,a3J,e5,Int.reduceEq,decide_true,decide_false,if_pos hup,if_pos u1,if_pos u2,if_pos u3,if_pos u4,if_pos u5,if_pos u6]
  rfl
include hA in
theorem c6R (o c:W6) (fuel:Nat):setup_shares_S.loop (a0B Tab n) (fuel+1) 0 (b1V σ P B C A (ad.length:Int) (ad.length:Int) o c)=some (.tup [.agg o.pv,.agg c.pv],σ):=by
 obtain ⟨p1,p2,p3⟩:=a0C hA
 rw [Q2] at p1
 have hd:decide (ad.length < ad.length)=false:=by simp
 have hb:PT.ev (a0B Tab n) a4a (b1V σ P B C A (ad.length:Int) (ad.length:Int) o c)=some (.ret (.tup [.agg o.pv,.agg c.pv]) σ):=by
  simp -implicitDefEqProofs only [a4a,b1V,↓reduceIte,eq_self,ZF,ZG,ZH,ZI,ZJ,ZK,ZL,ZM,ZN,ZO,ZP,ZQ,ZR,ZS,ZT,ZU,ZV,ZW,ZX,ZY,Z2,Z3,Z4,Z5,Z6,Z7,Z8,Z9,Za,Zb,Zc,Zd,Ze,Zf,Zg,Zh,Nat.reduceAdd,Zi,if_true,if_false,Zl,Zm,Zn,Zo,Zp,Zq,Zr,Zs,Zt,Zu,Zv,Zw,Zx,Zy,Zz,ZA,ZB,ZC,ZD,ZE,W6.pv,a0D,or_true]
 simp only [b1V] at hb
 rw [Sys.loop,show setup_shares_S.loops[0]?=some a4c from rfl]
 simp -implicitDefEqProofs only [Q0,b1V,a4c,↓reduceIte,eq_self,ZF,ZG,ZH,ZI,ZJ,ZK,ZL,ZM,ZN,ZO,ZP,ZQ,ZR,ZS,ZT,ZU,ZV,ZW,ZX,ZY,Z2,Z3,Z4,Z5,Z6,Z7,Z8,Z9,Za,Zb,Zc,Zd,Ze,Zf,Zg,Zh,Nat.reduceAdd,Zi,if_true,if_false,Zl,Zm,Zn,Zo,Zp,Zq,Zr,Zs,Zt,Zu,Zv,Zw,Zx,Zy,Zz,ZA,ZB,ZC,ZD,ZE,p1,p2,a0F,hd]
 rw [c6h hb hb]
 rfl
include hA in
theorem c6X (o c:W6) (fuel:Nat):saleroomref10_Open_S.loop (a0B Tab n) (fuel+1) 1 (b0r σ P B C A (ad.length:Int) (ad.length:Int) o c)=some (.tup [.agg o.pv,.agg c.pv],σ):=by
 obtain ⟨p1,p2,p3⟩:=a0C hA
 rw [Q2] at p1
 have hd:decide (ad.length < ad.length)=false:=by simp
 rw [Sys.loop,show saleroomref10_Open_S.loops[1]?=some a2E from rfl]
 simp -implicitDefEqProofs only [Q0,b0r,a2E,↓reduceIte,eq_self,ZF,ZG,ZH,ZI,ZJ,ZK,ZL,ZM,ZN,ZO,ZP,ZQ,ZR,ZS,ZT,ZU,ZV,ZW,ZX,ZY,Z2,Z3,Z4,Z5,Z6,Z7,Z8,Z9,Za,Zb,Zc,Zd,Ze,Zf,Zg,Zh,Nat.reduceAdd,Zi,if_true,if_false,Zl,Zm,Zn,Zo,Zp,Zq,Zr,Zs,Zt,Zu,Zv,Zw,Zx,Zy,Zz,ZA,ZB,ZC,ZD,ZE,p1,p2,a0F,hd,W6.pv,a0D,or_true]
include hA in
theorem c5Y (hb:∀ t∈ad,t.aok) (hl:ad.length<=6):∀ d i,i+d=ad.length->∀ (o c:W6),o.wide (4*i)->∀ fuel,
  setup_shares_S.loop (a0B Tab n) (fuel+d+1) 0 (b1V σ P B C A (ad.length:Int) (i:Int) o c)=some (.tup [.agg ((ad.drop i).foldl a3b (o,c)).1.pv,.agg ((ad.drop i).foldl a3b (o,c)).2.pv],σ):=by
 obtain ⟨p1,p2,p3⟩:=a0C hA
 rw [Q2] at p1
 intro d
 induction d with
 | zero =>
  intro i hi o c ho fuel
  rw [Qd] at hi; subst hi
  rw [Qj,Qk]
  exact c6R σ ad P B C A hA n o c _
 | succ d ih =>
  intro i hi o c ho fuel
  have hlt:i < ad.length:=by omega
  obtain ⟨t,hx⟩:=a0W hlt
  have ht:=hb t (Qe hx)
  have hw:o.wide 1000:=by simp only [W6.wide] at ho ⊢; omega
  have hw2:=b7G (c:=c) ho ht (by omega)
  have ih:=ih (i+1) (by omega) (a3b (o,c) t).1 (a3b (o,c) t).2 (by rw [show (4:Int)*((i+1:Nat):Int)=4*(i:Int)+4 by omega]; exact hw2) fuel
  rw [a0Q] at ih
  rw [show fuel+(d+1)+1=(fuel+d+1)+1 from rfl,c5X σ ad P B C A hA n hx ht (by omega) o c hw,ih,show ad.drop i=t::ad.drop (i+1) from by rw [Qp hlt]; congr 1; exact ((Q3.1 hx).2).symm▸rfl,Qq]
include hA in
theorem c5U (hb:∀ t∈ad,t.aok) (hl:ad.length<=6):∀ d i,i+d=ad.length->∀ (o c:W6),o.wide (4*i)->∀ fuel,
  saleroomref10_Open_S.loop (a0B Tab n) (fuel+d+1) 1 (b0r σ P B C A (ad.length:Int) (i:Int) o c)=some (.tup [.agg ((ad.drop i).foldl a3b (o,c)).1.pv,.agg ((ad.drop i).foldl a3b (o,c)).2.pv],σ):=by
 obtain ⟨p1,p2,p3⟩:=a0C hA
 rw [Q2] at p1
 intro d
 induction d with
 | zero =>
  intro i hi o c ho fuel
  rw [Qd] at hi; subst hi
  rw [Qj,Qk]
  exact c6X σ ad P B C A hA n o c _
 | succ d ih =>
  intro i hi o c ho fuel
  have hlt:i < ad.length:=by omega
  obtain ⟨t,hx⟩:=a0W hlt
  have ht:=hb t (Qe hx)
  have hw:o.wide 1000:=by simp only [W6.wide] at ho ⊢; omega
  have hw2:=b7G (c:=c) ho ht (by omega)
  have ih:=ih (i+1) (by omega) (a3b (o,c) t).1 (a3b (o,c) t).2 (by rw [show (4:Int)*((i+1:Nat):Int)=4*(i:Int)+4 by omega]; exact hw2) fuel
  rw [a0Q] at ih
  rw [show fuel+(d+1)+1=(fuel+d+1)+1 from rfl,c6i σ ad P B C A hA n hx ht (by omega) o c hw,ih,show ad.drop i=t::ad.drop (i+1) from by rw [Qp hlt]; congr 1; exact ((Q3.1 hx).2).symm▸rfl,Qq]
end
end Go.Proofs.Ytflcopaopimlpaa
set_option maxRecDepth 100000
namespace Go.Proofs.Ytflcopaopimlpaa
open Go.Sx
theorem b3C {ps:List Pr} (hr:∀ x∈ps,x.rng):(a1T ps).wide 0:=by
 have h:∀ i:Nat,-(0:Int)<=((ps.map Pr.s)[i]?).getD 0/\((ps.map Pr.s)[i]?).getD 0<=4:=fun i=>by
  rw [List.getElem?_map]
  cases hx:ps[i]? with
  | none=>simp
  | some x =>
   have:=hr x (Qe hx)
   simp only [Pr.rng] at this
   simp; omega
 exact ⟨(h 0).1,(h 0).2,(h 1).1,(h 1).2,(h 2).1,(h 2).2,(h 3).1,(h 3).2,(h 4).1,(h 4).2,(h 5).1,(h 5).2⟩
theorem b8A {ps:List Pr} {ad:List Tri} (hl:ps.length<=6) (hr:∀ x∈ps,x.rng) (h:asV ps ad=0):ad.length<=6/\∀ t∈ad,t.aok:=by
 unfold asV at h
 split at h
 ·cases h
 rename_i h6
 rw [Qm,a0I] at h6
 refine ⟨by omega,fun t ht=>?_⟩
 obtain ⟨k,hk⟩:=List.getElem?_of_mem ht
 have hb:=b5k _ _ h (by omega) k t (by omega) hk
 unfold a1A at hb
 repeat' split at hb
 all_goals first | cases hb | skip
 rename_i a1 a2 a3 a4 a5 a6 _
 rw [Qm] at a1 a2 a3 a4 a5 a6
 rw [a0I] at a1 a3 a4 a5 a6
 rw [a3H] at a2
 refine ⟨by omega,by omega,by omega,?_⟩
 have hx:∃ x,ps[t.x.toNat]?=some x:=a0W (by omega)
 obtain ⟨x,hx⟩:=hx
 have:=hr x (Qe hx)
 simp only [Pr.rng] at this
 rw [hx] at a6
 simp at a6
 omega
section
variable (σ:List MO) (ps:List Pr) (bs:List Bd) (cs ad:List Tri) (P B C A:PV) (hP:P.rowsOf 5=some (ps.map Pr.row)) (hB:B.rowsOf 4=some (bs.map Bd.row)) (hC:C.rowsOf 3=some (cs.map Tri.row)) (hA:A.rowsOf 3=some (ad.map Tri.row)) (n:Nat)
include hP hB hC hA in
theorem c1o (hl:ps.length<=6) (hr:∀ x∈ps,x.rng) (ha:asV ps ad=0) (hn:20<=n):a0B Tab n b1c [.agg [P,B,C,A]] σ=some (.tup [.agg (shF ps ad).1.pv,.agg (shF ps ad).2.pv],σ):=by
 obtain ⟨n,rfl⟩:∃ k,n=k+1:=⟨n-1,by omega⟩
 obtain ⟨p1,p2,p3⟩:=a0C hP
 obtain ⟨b1,b2,b3⟩:=a0C hB
 obtain ⟨c1,c2,c3⟩:=a0C hC
 obtain ⟨a1,a2,a3⟩:=a0C hA
 rw [Q2] at a1
 obtain ⟨h6,hb⟩:=b8A hl hr ha
 have k1:=b1M σ ps P hP hl n (by omega)
 obtain ⟨f,hf⟩:∃ f,n=f+ad.length+1:=⟨n-ad.length-1,by omega⟩
 have k2:=c5Y σ ad P B C A hA n hb h6 ad.length 0 (by omega) (a1T ps) ⟨0,0,0,0,0,0⟩ (by rw [show (4:Int)*((0:Nat):Int)=0 by rfl]; exact b3C hr) f
 rw [<- hf] at k2
 simp only [a4M,W6.pv] at k1
 rw [a0B]
 simp only [b4Y,Q0,Sys.run]
 show ((a0E [.sh (.agg [_,_,_,_])] _).bind _)=_
 simp -implicitDefEqProofs only [a0E,a0x,a0w,Q4,Q0,Q5,Q6,Q7,if_true,p3,b3,c3,a3]
 show (PT.ev _ a7t _).bind _=_
 simp -implicitDefEqProofs only [a7t,↓reduceIte,eq_self,ZF,ZG,ZH,ZI,ZJ,ZK,ZL,ZM,ZN,ZO,ZP,ZQ,ZR,ZS,ZT,ZU,ZV,ZW,ZX,ZY,Z2,Z3,Z4,Z5,Z6,Z7,Z8,Z9,Za,Zb,Zc,Zd,Ze,Zf,Zg,Zh,Nat.reduceAdd,Zi,if_true,if_false,Zl,Zm,Zn,Zo,Zp,Zq,Zr,Zs,Zt,Zu,Zv,Zw,Zx,Zy,Zz,ZA,ZB,ZC,ZD,ZE,k1,a1,a2]
 exact k2
def b3x (σ:List MO) (P B C A:PV) (i:Int) (o:W6):PEnv:={ i:=[i,o.a,o.b,o.c,o.d,o.e,o.f],b:=[],v:=[P,B,C,A],m:=σ,k:=σ.length }
include hP hB hC hA in
theorem c3Y (hv:a5j ps bs cs ad=0) (hl:ps.length<=6) (hr:∀ x∈ps,x.rng) (ha:asV ps ad=0) (hn:1100<=n):a0B Tab n a6L [.agg [P,B,C,A]] σ=some (.tup [.agg (shF ps ad).1.pv,.agg (shF ps ad).2.pv],σ):=by
 obtain ⟨n,rfl⟩:∃ k,n=k+1:=⟨n-1,by omega⟩
 have k0:=a5m σ ps bs cs ad P B C A hP hB hC hA n (by omega)
 obtain ⟨p1,p2,p3⟩:=a0C hP
 obtain ⟨b1,b2,b3⟩:=a0C hB
 obtain ⟨c1,c2,c3⟩:=a0C hC
 obtain ⟨a1,a2,a3⟩:=a0C hA
 rw [Q2] at a1 p1
 obtain ⟨h6,hb⟩:=b8A hl hr ha
 rw [hv] at k0
 simp only [a2B] at k0
 have step:∀ (i:Nat) (x:Pr),ps[i]?=some x->∀ fuel (w:W6),saleroomref10_Open_S.loop (a0B Tab n) (fuel+1) 0 (b3x σ P B C A (i:Int) w)=saleroomref10_Open_S.loop (a0B Tab n) fuel 0 (b3x σ P B C A ((i:Int)+1) (w.put (i:Int) x.s)):=by
  intro i x hx fuel w
  have hlt:i < ps.length:=(Q3.1 hx).1
  have hd:decide (i < ps.length)=true:=decide_eq_true hlt
  have h0:=a0G (off:=1) hP (a1l hx)
  have e5:∀ a b:Int,eqB a b=decide (a=b):=fun _ _=>rfl
  rw [Sys.loop,show saleroomref10_Open_S.loops[0]?=some a2C from rfl]
  obtain ⟨d1,d2,d3,d4⟩:=dr5 (.str x.nm) (.int .i64 x.s) (.int .i64 x.r) (.int .i64 x.p) (.int .i64 x.g)
  simp only [b3x]
  simp -implicitDefEqProofs only [Q0,a2C,↓reduceIte,eq_self,ZF,ZG,ZH,ZI,ZJ,ZK,ZL,ZM,ZN,ZO,ZP,ZQ,ZR,ZS,ZT,ZU,ZV,ZW,ZX,ZY,Z2,Z3,Z4,Z5,Z6,Z7,Z8,Z9,Za,Zb,Zc,Zd,Ze,Zf,Zg,Zh,Nat.reduceAdd,Zi,if_true,if_false,Zl,Zm,Zn,Zo,Zp,Zq,Zr,Zs,Zt,Zu,Zv,Zw,Zx,Zy,Zz,ZA,ZB,ZC,ZD,ZE,p1,p2,a0F,hd,le0,h0,a2l,d1]
  obtain rfl | rfl | rfl | rfl | rfl | rfl:i=0\/i=1\/i=2\/i=3\/i=4\/i=5:=by omega
  all_goals rfl
 have fin:∀ fuel (w:W6),saleroomref10_Open_S.loop (a0B Tab n) (fuel+1) 0 (b3x σ P B C A (ps.length:Int) w)=saleroomref10_Open_S.loop (a0B Tab n) fuel 1 (b0r σ P B C A (ad.length:Int) 0 w ⟨0,0,0,0,0,0⟩):=by
  intro fuel w
  have hd:decide (ps.length < ps.length)=false:=by simp
  rw [Sys.loop,show saleroomref10_Open_S.loops[0]?=some a2C from rfl]
  simp only [b3x]
  simp -implicitDefEqProofs only [Q0,a2C,↓reduceIte,eq_self,ZF,ZG,ZH,ZI,ZJ,ZK,ZL,ZM,ZN,ZO,ZP,ZQ,ZR,ZS,ZT,ZU,ZV,ZW,ZX,ZY,Z2,Z3,Z4,Z5,Z6,Z7,Z8,Z9,Za,Zb,Zc,Zd,Ze,Zf,Zg,Zh,Nat.reduceAdd,Zi,if_true,if_false,Zl,Zm,Zn,Zo,Zp,Zq,Zr,Zs,Zt,Zu,Zv,Zw,Zx,Zy,Zz,ZA,ZB,ZC,ZD,ZE,p1,p2,a0F,hd,b0r]
 have key:saleroomref10_Open_S.loop (a0B Tab n) n 0 (b3x σ P B C A 0 ⟨0,0,0,0,0,0⟩)=some (.tup [.agg (shF ps ad).1.pv,.agg (shF ps ad).2.pv],σ):=by
  have lp:∀ fuel,10<=fuel->saleroomref10_Open_S.loop (a0B Tab n) fuel 1 (b0r σ P B C A (ad.length:Int) 0 (a1T ps) ⟨0,0,0,0,0,0⟩)=some (.tup [.agg (shF ps ad).1.pv,.agg (shF ps ad).2.pv],σ):=fun fuel hfu=>by
   obtain ⟨f,rfl⟩:∃ f,fuel=f+ad.length+1:=⟨fuel-ad.length-1,by omega⟩
   exact c5U σ ad P B C A hA n hb h6 ad.length 0 (by omega) (a1T ps) ⟨0,0,0,0,0,0⟩ (by rw [show (4:Int)*((0:Nat):Int)=0 by rfl]; exact b3C hr) f
  obtain ⟨m,hm⟩:∃ m,n=m+7:=⟨n-7,by omega⟩
  have lp2:∀ k,k<=6->saleroomref10_Open_S.loop (a0B Tab n) (m+k) 1 (b0r σ P B C A (ad.length:Int) 0 (a1T ps) ⟨0,0,0,0,0,0⟩)=some (.tup [.agg (shF ps ad).1.pv,.agg (shF ps ad).2.pv],σ):=fun k _=>lp _ (by omega)
  rw [show saleroomref10_Open_S.loop (a0B Tab n) n 0 (b3x σ P B C A 0 ⟨0,0,0,0,0,0⟩)=saleroomref10_Open_S.loop (a0B Tab n) (m+7) 0 (b3x σ P B C A 0 ⟨0,0,0,0,0,0⟩) by rw [<- hm]]
  clear hm lp
  rcases ps with _ | ⟨a,_ | ⟨b,_ | ⟨c,_ | ⟨d,_ | ⟨e,_ | ⟨f,_ | ⟨z,r⟩⟩⟩⟩⟩⟩⟩
  ·exact (fin (m+6) _).trans (lp2 6 (by omega))
  ·exact (step 0 a rfl (m+6) _).trans ((fin (m+5) _).trans (lp2 5 (by omega)))
  ·exact (step 0 a rfl (m+6) _).trans ((step 1 b rfl (m+5) _).trans ((fin (m+4) _).trans (lp2 4 (by omega))))
  ·exact (step 0 a rfl (m+6) _).trans ((step 1 b rfl (m+5) _).trans ((step 2 c rfl (m+4) _).trans ((fin (m+3) _).trans (lp2 3 (by omega)))))
  ·exact (step 0 a rfl (m+6) _).trans ((step 1 b rfl (m+5) _).trans ((step 2 c rfl (m+4) _).trans ((step 3 d rfl (m+3) _).trans ((fin (m+2) _).trans (lp2 2 (by omega))))))
  ·exact (step 0 a rfl (m+6) _).trans ((step 1 b rfl (m+5) _).trans ((step 2 c rfl (m+4) _).trans ((step 3 d rfl (m+3) _).trans ((step 4 e rfl (m+2) _).trans ((fin (m+1) _).trans (lp2 1 (by omega)))))))
  ·exact (step 0 a rfl (m+6) _).trans ((step 1 b rfl (m+5) _).trans ((step 2 c rfl (m+4) _).trans ((step 3 d rfl (m+3) _).trans ((step 4 e rfl (m+2) _).trans ((step 5 f rfl (m+1) _).trans ((fin m _).trans (lp2 0 (by omega))))))))
  ·simp at hl
 rw [a0B]
 simp only [b0m,Q0,Sys.run]
 show ((a0E [.sh (.agg [_,_,_,_])] _).bind _)=_
 simp -implicitDefEqProofs only [a0E,a0x,a0w,Q4,Q0,Q5,Q6,Q7,if_true,p3,b3,c3,a3]
 show (PT.ev _ a4R _).bind _=_
 have e0:eqB 0 0=true:=rfl
 simp -implicitDefEqProofs only [a4R,↓reduceIte,eq_self,ZF,ZG,ZH,ZI,ZJ,ZK,ZL,ZM,ZN,ZO,ZP,ZQ,ZR,ZS,ZT,ZU,ZV,ZW,ZX,ZY,Z2,Z3,Z4,Z5,Z6,Z7,Z8,Z9,Za,Zb,Zc,Zd,Ze,Zf,Zg,Zh,Nat.reduceAdd,Zi,if_true,if_false,Zl,Zm,Zn,Zo,Zp,Zq,Zr,Zs,Zt,Zu,Zv,Zw,Zx,Zy,Zz,ZA,ZB,ZC,ZD,ZE,k0,e0]
 exact key
end
end Go.Proofs.Ytflcopaopimlpaa
set_option maxRecDepth 100000
namespace Go.Proofs.Ytflcopaopimlpaa
open Go.Sx
def oc (c bc b:Int):Int:=if eqB c 0=true then 0 else if eqB c bc=true then 0 else b
def b2g (c:W6) (bc:Int) (b:W6):W6:=⟨oc c.a bc b.a,oc c.b bc b.b,oc c.c bc b.c,oc c.d bc b.d,oc c.e bc b.e,oc c.f bc b.f⟩
def W6.le (a b:W6):Prop:=a.a<=b.a/\a.b<=b.b/\a.c<=b.c/\a.d<=b.d/\a.e<=b.e/\a.f<=b.f
instance (a b:W6):Decidable (a.le b):=by unfold W6.le; infer_instance
theorem c7q (x y:Int):eqB (mnI x y) x=decide (x<=y):=by
 unfold eqB mnI
 by_cases h:x<=y
 ·rw [if_neg (by omega),decide_eq_true rfl,decide_eq_true h]
 ·rw [if_pos (by omega),decide_eq_false h]; exact decide_eq_false (by omega)
theorem c8T (a b c d e f:Prop) [Decidable a] [Decidable b] [Decidable c] [Decidable d] [Decidable e] [Decidable f] [Decidable (a/\b/\c/\d/\e/\f)]:(decide a&&(decide b&&(decide c&&(decide d&&(decide e&&decide f)))))=decide (a/\b/\c/\d/\e/\f):=by
 simp only [Bool.decide_and]
theorem b6M (σ:List MO) (a b:W6) (n:Nat) (hn:2<=n):a0B Tab n a6Q [.agg a.pv,.agg b.pv] σ=some (.bool (decide (a.le b)),σ):=by
 obtain ⟨n,rfl⟩:∃ k,n=k+1+1:=⟨n-2,by omega⟩
 have k1:a0B Tab (n+1) b2G [.agg a.pv,.agg b.pv] σ=some (.agg [.int .i64 (mnI a.a b.a),.int .i64 (mnI a.b b.b),.int .i64 (mnI a.c b.c),.int .i64 (mnI a.d b.d),.int .i64 (mnI a.e b.e),.int .i64 (mnI a.f b.f)],σ):=by
  simp only [a0B,b5S,Q0,Sys.run,W6.pv]
  show ((a0E [.sh (.agg [_,_,_,_,_,_]),.sh (.agg [_,_,_,_,_,_])] _).bind _)=_
  simp only [a0E,a0x,a0w,Q4,Q0,Q5,Q6,Q7,if_true]
  show (PT.ev _ a7N _).bind _=_
  simp -implicitDefEqProofs only [a7N,↓reduceIte,eq_self,ZF,ZG,ZH,ZI,ZJ,ZK,ZL,ZM,ZN,ZO,ZP,ZQ,ZR,ZS,ZT,ZU,ZV,ZW,ZX,ZY,Z2,Z3,Z4,Z5,Z6,Z7,Z8,Z9,Za,Zb,Zc,Zd,Ze,Zf,Zg,Zh,Nat.reduceAdd,Zi,if_true,if_false,Zl,Zm,Zn,Zo,Zp,Zq,Zr,Zs,Zt,Zu,Zv,Zw,Zx,Zy,Zz,ZA,ZB,ZC,ZD,ZE,a0D,or_true]
 simp only [b2G,W6.pv] at k1
 rw [a0B]
 simp only [b4f,Q0,Sys.run,W6.pv]
 show ((a0E [.sh (.agg [_,_,_,_,_,_]),.sh (.agg [_,_,_,_,_,_])] _).bind _)=_
 simp only [a0E,a0x,a0w,Q4,Q0,Q5,Q6,Q7,if_true]
 show (PT.ev _ a7b _).bind _=_
 simp -implicitDefEqProofs only [a7b,↓reduceIte,eq_self,ZF,ZG,ZH,ZI,ZJ,ZK,ZL,ZM,ZN,ZO,ZP,ZQ,ZR,ZS,ZT,ZU,ZV,ZW,ZX,ZY,Z2,Z3,Z4,Z5,Z6,Z7,Z8,Z9,Za,Zb,Zc,Zd,Ze,Zf,Zg,Zh,Nat.reduceAdd,Zi,if_true,if_false,Zl,Zm,Zn,Zo,Zp,Zq,Zr,Zs,Zt,Zu,Zv,Zw,Zx,Zy,Zz,ZA,ZB,ZC,ZD,ZE,k1,c7q,a0D,or_true]
 congr 3
 rw [c8T]
 rfl
theorem bdr (a b c d:PV):Qn 1 [a,b,c,d]=[b,c,d]/\Qn 2 [a,b,c,d]=[c,d]/\Qn 3 [a,b,c,d]=[d]:=⟨rfl,rfl,rfl⟩
section
variable (σ:List MO) (bs:List Bd) (P B C A:PV) (hB:B.rowsOf 4=some (bs.map Bd.row)) (n:Nat)
def a4e (σ:List MO) (P B C A:PV) (i k:Int) (c b:W6):PEnv:={ i:=[i,k,c.a,c.b,c.c,c.d,c.e,c.f,b.a,b.b,b.c,b.d,b.e,b.f],b:=[],v:=[P,B,C,A],m:=σ,k:=σ.length }
include hB in
theorem c4O {i:Nat} {y:Bd} (hy:bs[i]?=some y) (c b:W6) (fuel:Nat) :
  setup_outside_S.loop (a0B Tab n) (fuel+1) 0 (a4e σ P B C A (i:Int) 0 c b)=setup_outside_S.loop (a0B Tab n) fuel 0 (a4e σ P B C A (i:Int) 1 c { b with a:=oc c.a y.c b.a }):=by
 obtain ⟨b1,b2,b3⟩:=a0C hB
 rw [Q2] at b1
 have hd:decide (i < bs.length)=true:=decide_eq_true (Q3.1 hy).1
 have h0:=a0G (off:=1) hB (a1J hy)
 have e5:∀ a b:Int,eqB a b=decide (a=b):=fun _ _=>rfl
 have e6:∀ a b:Int,ltB a b=decide (a < b):=fun _ _=>rfl
 have hd':decide ((i:Int) < (bs.length:Int))=true:=decide_eq_true (by have:=(Q3.1 hy).1; omega)
 obtain ⟨d1,d2,d3⟩:=bdr (.str y.nm) (.int .i64 y.c) (.int .i64 y.b) (.int .i64 y.p)
 rw [Sys.loop,show setup_outside_S.loops[0]?=some a1i from rfl]
 simp only [a4e,oc,e5]
 simp -implicitDefEqProofs only [Q0,a1i,↓reduceIte,eq_self,ZF,ZG,ZH,ZI,ZJ,ZK,ZL,ZM,ZN,ZO,ZP,ZQ,ZR,ZS,ZT,ZU,ZV,ZW,ZX,ZY,Z2,Z3,Z4,Z5,Z6,Z7,Z8,Z9,Za,Zb,Zc,Zd,Ze,Zf,Zg,Zh,Nat.reduceAdd,Zi,if_true,if_false,Zl,Zm,Zn,Zo,Zp,Zq,Zr,Zs,Zt,Zu,Zv,Zw,Zx,Zy,Zz,ZA,ZB,ZC,ZD,ZE,e5,e6,Int.reduceEq,Int.reduceLT,decide_true,decide_false,Nat.reduceLeDiff]
 cases decide (c.a=0) with
 | true=>simp -implicitDefEqProofs only [↓reduceIte,eq_self,ZF,ZG,ZH,ZI,ZJ,ZK,ZL,ZM,ZN,ZO,ZP,ZQ,ZR,ZS,ZT,ZU,ZV,ZW,ZX,ZY,Z2,Z3,Z4,Z5,Z6,Z7,Z8,Z9,Za,Zb,Zc,Zd,Ze,Zf,Zg,Zh,Nat.reduceAdd,Zi,if_true,if_false,Zl,Zm,Zn,Zo,Zp,Zq,Zr,Zs,Zt,Zu,Zv,Zw,Zx,Zy,Zz,ZA,ZB,ZC,ZD,ZE,if_true]
 | false =>
  simp -implicitDefEqProofs only [↓reduceIte,eq_self,ZF,ZG,ZH,ZI,ZJ,ZK,ZL,ZM,ZN,ZO,ZP,ZQ,ZR,ZS,ZT,ZU,ZV,ZW,ZX,ZY,Z2,Z3,Z4,Z5,Z6,Z7,Z8,Z9,Za,Zb,Zc,Zd,Ze,Zf,Zg,Zh,Nat.reduceAdd,Zi,if_true,if_false,Zl,Zm,Zn,Zo,Zp,Zq,Zr,Zs,Zt,Zu,Zv,Zw,Zx,Zy,Zz,ZA,ZB,ZC,ZD,ZE,e6,b1,le0,hd',h0,a1o,d1,e5,Nat.reduceLeDiff,Q1,if_false]
  cases decide (c.a=y.c)<;>simp -implicitDefEqProofs only [↓reduceIte,eq_self,ZF,ZG,ZH,ZI,ZJ,ZK,ZL,ZM,ZN,ZO,ZP,ZQ,ZR,ZS,ZT,ZU,ZV,ZW,ZX,ZY,Z2,Z3,Z4,Z5,Z6,Z7,Z8,Z9,Za,Zb,Zc,Zd,Ze,Zf,Zg,Zh,Nat.reduceAdd,Zi,if_true,if_false,Zl,Zm,Zn,Zo,Zp,Zq,Zr,Zs,Zt,Zu,Zv,Zw,Zx,Zy,Zz,ZA,ZB,ZC,ZD,ZE,if_true,Q1,if_false]
include hB in
theorem c3R {i:Nat} {y:Bd} (hy:bs[i]?=some y) (c b:W6) (fuel:Nat) :
  setup_outside_S.loop (a0B Tab n) (fuel+1) 0 (a4e σ P B C A (i:Int) 1 c b)=setup_outside_S.loop (a0B Tab n) fuel 0 (a4e σ P B C A (i:Int) 2 c { b with b:=oc c.b y.c b.b }):=by
 obtain ⟨b1,b2,b3⟩:=a0C hB
 rw [Q2] at b1
 have hd:decide (i < bs.length)=true:=decide_eq_true (Q3.1 hy).1
 have h0:=a0G (off:=1) hB (a1J hy)
 have e5:∀ a b:Int,eqB a b=decide (a=b):=fun _ _=>rfl
 have e6:∀ a b:Int,ltB a b=decide (a < b):=fun _ _=>rfl
 have hd':decide ((i:Int) < (bs.length:Int))=true:=decide_eq_true (by have:=(Q3.1 hy).1; omega)
 obtain ⟨d1,d2,d3⟩:=bdr (.str y.nm) (.int .i64 y.c) (.int .i64 y.b) (.int .i64 y.p)
 rw [Sys.loop,show setup_outside_S.loops[0]?=some a1i from rfl]
 simp only [a4e,oc,e5]
 simp -implicitDefEqProofs only [Q0,a1i,↓reduceIte,eq_self,ZF,ZG,ZH,ZI,ZJ,ZK,ZL,ZM,ZN,ZO,ZP,ZQ,ZR,ZS,ZT,ZU,ZV,ZW,ZX,ZY,Z2,Z3,Z4,Z5,Z6,Z7,Z8,Z9,Za,Zb,Zc,Zd,Ze,Zf,Zg,Zh,Nat.reduceAdd,Zi,if_true,if_false,Zl,Zm,Zn,Zo,Zp,Zq,Zr,Zs,Zt,Zu,Zv,Zw,Zx,Zy,Zz,ZA,ZB,ZC,ZD,ZE,e5,e6,Int.reduceEq,Int.reduceLT,decide_true,decide_false,Nat.reduceLeDiff]
 cases decide (c.b=0) with
 | true=>simp -implicitDefEqProofs only [↓reduceIte,eq_self,ZF,ZG,ZH,ZI,ZJ,ZK,ZL,ZM,ZN,ZO,ZP,ZQ,ZR,ZS,ZT,ZU,ZV,ZW,ZX,ZY,Z2,Z3,Z4,Z5,Z6,Z7,Z8,Z9,Za,Zb,Zc,Zd,Ze,Zf,Zg,Zh,Nat.reduceAdd,Zi,if_true,if_false,Zl,Zm,Zn,Zo,Zp,Zq,Zr,Zs,Zt,Zu,Zv,Zw,Zx,Zy,Zz,ZA,ZB,ZC,ZD,ZE,if_true]
 | false =>
  simp -implicitDefEqProofs only [↓reduceIte,eq_self,ZF,ZG,ZH,ZI,ZJ,ZK,ZL,ZM,ZN,ZO,ZP,ZQ,ZR,ZS,ZT,ZU,ZV,ZW,ZX,ZY,Z2,Z3,Z4,Z5,Z6,Z7,Z8,Z9,Za,Zb,Zc,Zd,Ze,Zf,Zg,Zh,Nat.reduceAdd,Zi,if_true,if_false,Zl,Zm,Zn,Zo,Zp,Zq,Zr,Zs,Zt,Zu,Zv,Zw,Zx,Zy,Zz,ZA,ZB,ZC,ZD,ZE,e6,b1,le0,hd',h0,a1o,d1,e5,Nat.reduceLeDiff,Q1,if_false]
  cases decide (c.b=y.c)<;>simp -implicitDefEqProofs only [↓reduceIte,eq_self,ZF,ZG,ZH,ZI,ZJ,ZK,ZL,ZM,ZN,ZO,ZP,ZQ,ZR,ZS,ZT,ZU,ZV,ZW,ZX,ZY,Z2,Z3,Z4,Z5,Z6,Z7,Z8,Z9,Za,Zb,Zc,Zd,Ze,Zf,Zg,Zh,Nat.reduceAdd,Zi,if_true,if_false,Zl,Zm,Zn,Zo,Zp,Zq,Zr,Zs,Zt,Zu,Zv,Zw,Zx,Zy,Zz,ZA,ZB,ZC,ZD,ZE,if_true,Q1,if_false]
include hB in
theorem c4o {i:Nat} {y:Bd} (hy:bs[i]?=some y) (c b:W6) (fuel:Nat) :
  setup_outside_S.loop (a0B Tab n) (fuel+1) 0 (a4e σ P B C A (i:Int) 2 c b)=setup_outside_S.loop (a0B Tab n) fuel 0 (a4e σ P B C A (i:Int) 3 c { b with c:=oc c.c y.c b.c }):=by
 obtain ⟨b1,b2,b3⟩:=a0C hB
 rw [Q2] at b1
 have hd:decide (i < bs.length)=true:=decide_eq_true (Q3.1 hy).1
 have h0:=a0G (off:=1) hB (a1J hy)
 have e5:∀ a b:Int,eqB a b=decide (a=b):=fun _ _=>rfl
 have e6:∀ a b:Int,ltB a b=decide (a < b):=fun _ _=>rfl
 have hd':decide ((i:Int) < (bs.length:Int))=true:=decide_eq_true (by have:=(Q3.1 hy).1; omega)
 obtain ⟨d1,d2,d3⟩:=bdr (.str y.nm) (.int .i64 y.c) (.int .i64 y.b) (.int .i64 y.p)
 rw [Sys.loop,show setup_outside_S.loops[0]?=some a1i from rfl]
 simp only [a4e,oc,e5]
 simp -implicitDefEqProofs only [Q0,a1i,↓reduceIte,eq_self,ZF,ZG,ZH,ZI,ZJ,ZK,ZL,ZM,ZN,ZO,ZP,ZQ,ZR,ZS,ZT,ZU,ZV,ZW,ZX,ZY,Z2,Z3,Z4,Z5,Z6,Z7,Z8,Z9,Za,Zb,Zc,Zd,Ze,Zf,Zg,Zh,Nat.reduceAdd,Zi,if_true,if_false,Zl,Zm,Zn,Zo,Zp,Zq,Zr,Zs,Zt,Zu,Zv,Zw,Zx,Zy,Zz,ZA,ZB,ZC,ZD,ZE,e5,e6,Int.reduceEq,Int.reduceLT,decide_true,decide_false,Nat.reduceLeDiff]
 cases decide (c.c=0) with
 | true=>simp -implicitDefEqProofs only [↓reduceIte,eq_self,ZF,ZG,ZH,ZI,ZJ,ZK,ZL,ZM,ZN,ZO,ZP,ZQ,ZR,ZS,ZT,ZU,ZV,ZW,ZX,ZY,Z2,Z3,Z4,Z5,Z6,Z7,Z8,Z9,Za,Zb,Zc,Zd,Ze,Zf,Zg,Zh,Nat.reduceAdd,Zi,if_true,if_false,Zl,Zm,Zn,Zo,Zp,Zq,Zr,Zs,Zt,Zu,Zv,Zw,Zx,Zy,Zz,ZA,ZB,ZC,ZD,ZE,if_true]
 | false =>
  simp -implicitDefEqProofs only [↓reduceIte,eq_self,ZF,ZG,ZH,ZI,ZJ,ZK,ZL,ZM,ZN,ZO,ZP,ZQ,ZR,ZS,ZT,ZU,ZV,ZW,ZX,ZY,Z2,Z3,Z4,Z5,Z6,Z7,Z8,Z9,Za,Zb,Zc,Zd,Ze,Zf,Zg,Zh,Nat.reduceAdd,Zi,if_true,if_false,Zl,Zm,Zn,Zo,Zp,Zq,Zr,Zs,Zt,Zu,Zv,Zw,Zx,Zy,Zz,ZA,ZB,ZC,ZD,ZE,e6,b1,le0,hd',h0,a1o,d1,e5,Nat.reduceLeDiff,Q1,if_false]
  cases decide (c.c=y.c)<;>simp -implicitDefEqProofs only [↓reduceIte,eq_self,ZF,ZG,ZH,ZI,ZJ,ZK,ZL,ZM,ZN,ZO,ZP,ZQ,ZR,ZS,ZT,ZU,ZV,ZW,ZX,ZY,Z2,Z3,Z4,Z5,Z6,Z7,Z8,Z9,Za,Zb,Zc,Zd,Ze,Zf,Zg,Zh,Nat.reduceAdd,Zi,if_true,if_false,Zl,Zm,Zn,Zo,Zp,Zq,Zr,Zs,Zt,Zu,Zv,Zw,Zx,Zy,Zz,ZA,ZB,ZC,ZD,ZE,if_true,Q1,if_false]
include hB in
theorem c4G {i:Nat} {y:Bd} (hy:bs[i]?=some y) (c b:W6) (fuel:Nat) :
  setup_outside_S.loop (a0B Tab n) (fuel+1) 0 (a4e σ P B C A (i:Int) 3 c b)=setup_outside_S.loop (a0B Tab n) fuel 0 (a4e σ P B C A (i:Int) 4 c { b with d:=oc c.d y.c b.d }):=by
 obtain ⟨b1,b2,b3⟩:=a0C hB
 rw [Q2] at b1
 have hd:decide (i < bs.length)=true:=decide_eq_true (Q3.1 hy).1
 have h0:=a0G (off:=1) hB (a1J hy)
 have e5:∀ a b:Int,eqB a b=decide (a=b):=fun _ _=>rfl
 have e6:∀ a b:Int,ltB a b=decide (a < b):=fun _ _=>rfl
 have hd':decide ((i:Int) < (bs.length:Int))=true:=decide_eq_true (by have:=(Q3.1 hy).1; omega)
 obtain ⟨d1,d2,d3⟩:=bdr (.str y.nm) (.int .i64 y.c) (.int .i64 y.b) (.int .i64 y.p)
 rw [Sys.loop,show setup_outside_S.loops[0]?=some a1i from rfl]
 simp only [a4e,oc,e5]
 simp -implicitDefEqProofs only [Q0,a1i,↓reduceIte,eq_self,ZF,ZG,ZH,ZI,ZJ,ZK,ZL,ZM,ZN,ZO,ZP,ZQ,ZR,ZS,ZT,ZU,ZV,ZW,ZX,ZY,Z2,Z3,Z4,Z5,Z6,Z7,Z8,Z9,Za,Zb,Zc,Zd,Ze,Zf,Zg,Zh,Nat.reduceAdd,Zi,if_true,if_false,Zl,Zm,Zn,Zo,Zp,Zq,Zr,Zs,Zt,Zu,Zv,Zw,Zx,Zy,Zz,ZA,ZB,ZC,ZD,ZE,e5,e6,Int.reduceEq,Int.reduceLT,decide_true,decide_false,Nat.reduceLeDiff]
 cases decide (c.d=0) with
 | true=>simp -implicitDefEqProofs only [↓reduceIte,eq_self,ZF,ZG,ZH,ZI,ZJ,ZK,ZL,ZM,ZN,ZO,ZP,ZQ,ZR,ZS,ZT,ZU,ZV,ZW,ZX,ZY,Z2,Z3,Z4,Z5,Z6,Z7,Z8,Z9,Za,Zb,Zc,Zd,Ze,Zf,Zg,Zh,Nat.reduceAdd,Zi,if_true,if_false,Zl,Zm,Zn,Zo,Zp,Zq,Zr,Zs,Zt,Zu,Zv,Zw,Zx,Zy,Zz,ZA,ZB,ZC,ZD,ZE,if_true]
 | false =>
  simp -implicitDefEqProofs only [↓reduceIte,eq_self,ZF,ZG,ZH,ZI,ZJ,ZK,ZL,ZM,ZN,ZO,ZP,ZQ,ZR,ZS,ZT,ZU,ZV,ZW,ZX,ZY,Z2,Z3,Z4,Z5,Z6,Z7,Z8,Z9,Za,Zb,Zc,Zd,Ze,Zf,Zg,Zh,Nat.reduceAdd,Zi,if_true,if_false,Zl,Zm,Zn,Zo,Zp,Zq,Zr,Zs,Zt,Zu,Zv,Zw,Zx,Zy,Zz,ZA,ZB,ZC,ZD,ZE,e6,b1,le0,hd',h0,a1o,d1,e5,Nat.reduceLeDiff,Q1,if_false]
  cases decide (c.d=y.c)<;>simp -implicitDefEqProofs only [↓reduceIte,eq_self,ZF,ZG,ZH,ZI,ZJ,ZK,ZL,ZM,ZN,ZO,ZP,ZQ,ZR,ZS,ZT,ZU,ZV,ZW,ZX,ZY,Z2,Z3,Z4,Z5,Z6,Z7,Z8,Z9,Za,Zb,Zc,Zd,Ze,Zf,Zg,Zh,Nat.reduceAdd,Zi,if_true,if_false,Zl,Zm,Zn,Zo,Zp,Zq,Zr,Zs,Zt,Zu,Zv,Zw,Zx,Zy,Zz,ZA,ZB,ZC,ZD,ZE,if_true,Q1,if_false]
include hB in
theorem c4R {i:Nat} {y:Bd} (hy:bs[i]?=some y) (c b:W6) (fuel:Nat) :
  setup_outside_S.loop (a0B Tab n) (fuel+1) 0 (a4e σ P B C A (i:Int) 4 c b)=setup_outside_S.loop (a0B Tab n) fuel 0 (a4e σ P B C A (i:Int) 5 c { b with e:=oc c.e y.c b.e }):=by
 obtain ⟨b1,b2,b3⟩:=a0C hB
 rw [Q2] at b1
 have hd:decide (i < bs.length)=true:=decide_eq_true (Q3.1 hy).1
 have h0:=a0G (off:=1) hB (a1J hy)
 have e5:∀ a b:Int,eqB a b=decide (a=b):=fun _ _=>rfl
 have e6:∀ a b:Int,ltB a b=decide (a < b):=fun _ _=>rfl
 have hd':decide ((i:Int) < (bs.length:Int))=true:=decide_eq_true (by have:=(Q3.1 hy).1; omega)
 obtain ⟨d1,d2,d3⟩:=bdr (.str y.nm) (.int .i64 y.c) (.int .i64 y.b) (.int .i64 y.p)
 rw [Sys.loop,show setup_outside_S.loops[0]?=some a1i from rfl]
 simp only [a4e,oc,e5]
 simp -implicitDefEqProofs only [Q0,a1i,↓reduceIte,eq_self,ZF,ZG,ZH,ZI,ZJ,ZK,ZL,ZM,ZN,ZO,ZP,ZQ,ZR,ZS,ZT,ZU,ZV,ZW,ZX,ZY,Z2,Z3,Z4,Z5,Z6,Z7,Z8,Z9,Za,Zb,Zc,Zd,Ze,Zf,Zg,Zh,Nat.reduceAdd,Zi,if_true,if_false,Zl,Zm,Zn,Zo,Zp,Zq,Zr,Zs,Zt,Zu,Zv,Zw,Zx,Zy,Zz,ZA,ZB,ZC,ZD,ZE,e5,e6,Int.reduceEq,Int.reduceLT,decide_true,decide_false,Nat.reduceLeDiff]
 cases decide (c.e=0) with
 | true=>simp -implicitDefEqProofs only [↓reduceIte,eq_self,ZF,ZG,ZH,ZI,ZJ,ZK,ZL,ZM,ZN,ZO,ZP,ZQ,ZR,ZS,ZT,ZU,ZV,ZW,ZX,ZY,Z2,Z3,Z4,Z5,Z6,Z7,Z8,Z9,Za,Zb,Zc,Zd,Ze,Zf,Zg,Zh,Nat.reduceAdd,Zi,if_true,if_false,Zl,Zm,Zn,Zo,Zp,Zq,Zr,Zs,Zt,Zu,Zv,Zw,Zx,Zy,Zz,ZA,ZB,ZC,ZD,ZE,if_true]
 | false =>
  simp -implicitDefEqProofs only [↓reduceIte,eq_self,ZF,ZG,ZH,ZI,ZJ,ZK,ZL,ZM,ZN,ZO,ZP,ZQ,ZR,ZS,ZT,ZU,ZV,ZW,ZX,ZY,Z2,Z3,Z4,Z5,Z6,Z7,Z8,Z9,Za,Zb,Zc,Zd,Ze,Zf,Zg,Zh,Nat.reduceAdd,Zi,if_true,if_false,Zl,Zm,Zn,Zo,Zp,Zq,Zr,Zs,Zt,Zu,Zv,Zw,Zx,Zy,Zz,ZA,ZB,ZC,ZD,ZE,e6,b1,le0,hd',h0,a1o,d1,e5,Nat.reduceLeDiff,Q1,if_false]
  cases decide (c.e=y.c)<;>simp -implicitDefEqProofs only [↓reduceIte,eq_self,ZF,ZG,ZH,ZI,ZJ,ZK,ZL,ZM,ZN,ZO,ZP,ZQ,ZR,ZS,ZT,ZU,ZV,ZW,ZX,ZY,Z2,Z3,Z4,Z5,Z6,Z7,Z8,Z9,Za,Zb,Zc,Zd,Ze,Zf,Zg,Zh,Nat.reduceAdd,Zi,if_true,if_false,Zl,Zm,Zn,Zo,Zp,Zq,Zr,Zs,Zt,Zu,Zv,Zw,Zx,Zy,Zz,ZA,ZB,ZC,ZD,ZE,if_true,Q1,if_false]
include hB in
theorem c4l {i:Nat} {y:Bd} (hy:bs[i]?=some y) (c b:W6) (fuel:Nat) :
  setup_outside_S.loop (a0B Tab n) (fuel+1) 0 (a4e σ P B C A (i:Int) 5 c b)=setup_outside_S.loop (a0B Tab n) fuel 0 (a4e σ P B C A (i:Int) 6 c { b with f:=oc c.f y.c b.f }):=by
 obtain ⟨b1,b2,b3⟩:=a0C hB
 rw [Q2] at b1
 have hd:decide (i < bs.length)=true:=decide_eq_true (Q3.1 hy).1
 have h0:=a0G (off:=1) hB (a1J hy)
 have e5:∀ a b:Int,eqB a b=decide (a=b):=fun _ _=>rfl
 have e6:∀ a b:Int,ltB a b=decide (a < b):=fun _ _=>rfl
 have hd':decide ((i:Int) < (bs.length:Int))=true:=decide_eq_true (by have:=(Q3.1 hy).1; omega)
 obtain ⟨d1,d2,d3⟩:=bdr (.str y.nm) (.int .i64 y.c) (.int .i64 y.b) (.int .i64 y.p)
 rw [Sys.loop,show setup_outside_S.loops[0]?=some a1i from rfl]
 simp only [a4e,oc,e5]
 simp -implicitDefEqProofs only [Q0,a1i,↓reduceIte,eq_self,ZF,ZG,ZH,ZI,ZJ,ZK,ZL,ZM,ZN,ZO,ZP,ZQ,ZR,ZS,ZT,ZU,ZV,ZW,ZX,ZY,Z2,Z3,Z4,Z5,Z6,Z7,Z8,Z9,Za,Zb,Zc,Zd,Ze,Zf,Zg,Zh,Nat.reduceAdd,Zi,if_true,if_false,Zl,Zm,Zn,Zo,Zp,Zq,Zr,Zs,Zt,Zu,Zv,Zw,Zx,Zy,Zz,ZA,ZB,ZC,ZD,ZE,e5,e6,Int.reduceEq,Int.reduceLT,decide_true,decide_false,Nat.reduceLeDiff]
 cases decide (c.f=0) with
 | true=>simp -implicitDefEqProofs only [↓reduceIte,eq_self,ZF,ZG,ZH,ZI,ZJ,ZK,ZL,ZM,ZN,ZO,ZP,ZQ,ZR,ZS,ZT,ZU,ZV,ZW,ZX,ZY,Z2,Z3,Z4,Z5,Z6,Z7,Z8,Z9,Za,Zb,Zc,Zd,Ze,Zf,Zg,Zh,Nat.reduceAdd,Zi,if_true,if_false,Zl,Zm,Zn,Zo,Zp,Zq,Zr,Zs,Zt,Zu,Zv,Zw,Zx,Zy,Zz,ZA,ZB,ZC,ZD,ZE,if_true]
 | false =>
  simp -implicitDefEqProofs only [↓reduceIte,eq_self,ZF,ZG,ZH,ZI,ZJ,ZK,ZL,ZM,ZN,ZO,ZP,ZQ,ZR,ZS,ZT,ZU,ZV,ZW,ZX,ZY,Z2,Z3,Z4,Z5,Z6,Z7,Z8,Z9,Za,Zb,Zc,Zd,Ze,Zf,Zg,Zh,Nat.reduceAdd,Zi,if_true,if_false,Zl,Zm,Zn,Zo,Zp,Zq,Zr,Zs,Zt,Zu,Zv,Zw,Zx,Zy,Zz,ZA,ZB,ZC,ZD,ZE,e6,b1,le0,hd',h0,a1o,d1,e5,Nat.reduceLeDiff,Q1,if_false]
  cases decide (c.f=y.c)<;>simp -implicitDefEqProofs only [↓reduceIte,eq_self,ZF,ZG,ZH,ZI,ZJ,ZK,ZL,ZM,ZN,ZO,ZP,ZQ,ZR,ZS,ZT,ZU,ZV,ZW,ZX,ZY,Z2,Z3,Z4,Z5,Z6,Z7,Z8,Z9,Za,Zb,Zc,Zd,Ze,Zf,Zg,Zh,Nat.reduceAdd,Zi,if_true,if_false,Zl,Zm,Zn,Zo,Zp,Zq,Zr,Zs,Zt,Zu,Zv,Zw,Zx,Zy,Zz,ZA,ZB,ZC,ZD,ZE,if_true,Q1,if_false]
include hB in
theorem b9V (hP:P.one=true) (hC:C.one=true) (hA:A.one=true) {i:Nat} {y:Bd} (hy:bs[i]?=some y) (c b:W6) (hn:10<=n):a0B Tab n b0g [.agg [P,B,C,A],.agg c.pv,.int .i64 (i:Int),.agg b.pv] σ=some (.agg (b2g c y.c b).pv,σ):=by
 obtain ⟨n,rfl⟩:∃ k,n=k+8:=⟨n-8,by omega⟩
 obtain ⟨b1,b2,b3⟩:=a0C hB
 have fin:∀ (w:W6) fuel,setup_outside_S.loop (a0B Tab (n+7)) (fuel+1) 0 (a4e σ P B C A (i:Int) 6 c w)=some (.agg w.pv,σ):=fun w fuel=>by
  have e6:ltB 6 6=false:=rfl
  rw [Sys.loop,show setup_outside_S.loops[0]?=some a1i from rfl]
  simp -implicitDefEqProofs only [Q0,a4e,a1i,↓reduceIte,eq_self,ZF,ZG,ZH,ZI,ZJ,ZK,ZL,ZM,ZN,ZO,ZP,ZQ,ZR,ZS,ZT,ZU,ZV,ZW,ZX,ZY,Z2,Z3,Z4,Z5,Z6,Z7,Z8,Z9,Za,Zb,Zc,Zd,Ze,Zf,Zg,Zh,Nat.reduceAdd,Zi,if_true,if_false,Zl,Zm,Zn,Zo,Zp,Zq,Zr,Zs,Zt,Zu,Zv,Zw,Zx,Zy,Zz,ZA,ZB,ZC,ZD,ZE,e6,W6.pv,a0D,or_true]
 have key:setup_outside_S.loop (a0B Tab (n+7)) (n+7) 0 (a4e σ P B C A (i:Int) 0 c b)=some (.agg (b2g c y.c b).pv,σ):=by
  rw [c4O σ bs P B C A hB _ hy c _ (n+6),c3R σ bs P B C A hB _ hy c _ (n+5),c4o σ bs P B C A hB _ hy c _ (n+4),c4G σ bs P B C A hB _ hy c _ (n+3),c4R σ bs P B C A hB _ hy c _ (n+2),c4l σ bs P B C A hB _ hy c _ (n+1)]
  exact fin _ n
 rw [a0B]
 simp only [b4t,Q0,Sys.run,W6.pv]
 show ((a0E [.sh (.agg [_,_,_,_]),.sh (.agg [_,_,_,_,_,_]),.sh (.one _),.sh (.agg [_,_,_,_,_,_])] _).bind _)=_
 simp -implicitDefEqProofs only [a0E,a0x,a0w,Q4,Q0,Q5,Q6,Q7,if_true,hP,b3,hC,hA]
 show (PT.ev _ a6H _).bind _=_
 simp -implicitDefEqProofs only [a6H,↓reduceIte,eq_self,ZF,ZG,ZH,ZI,ZJ,ZK,ZL,ZM,ZN,ZO,ZP,ZQ,ZR,ZS,ZT,ZU,ZV,ZW,ZX,ZY,Z2,Z3,Z4,Z5,Z6,Z7,Z8,Z9,Za,Zb,Zc,Zd,Ze,Zf,Zg,Zh,Nat.reduceAdd,Zi,if_true,if_false,Zl,Zm,Zn,Zo,Zp,Zq,Zr,Zs,Zt,Zu,Zv,Zw,Zx,Zy,Zz,ZA,ZB,ZC,ZD,ZE]
 exact key
end
theorem b9W (σ:List MO) (l:List Pr) (P:PV) (hP:P.rowsOf 5=some (l.map Pr.row)) (hl:l.length<=6) (n:Nat) (hn:10<=n):a0B Tab n a6b [P] σ=some (.agg (a1T l).pv,σ):=by
 obtain ⟨n,rfl⟩:∃ k,n=k+1:=⟨n-1,by omega⟩
 obtain ⟨p1,p2,p3⟩:=a0C hP
 rw [Q2] at p1
 have hq:∀ (i:Nat) (x:Pr),l[i]?=some x->a1z (i:Int) 5 1 P=some (.row x.row 1):=fun i x h=>a0G (off:=1) hP (a1l h)
 have e6:∀ a b:Int,ltB a b=decide (a < b):=fun _ _=>rfl
 have d1:∀ a b c d e:PV,Qn 1 [a,b,c,d,e]=[b,c,d,e]:=fun _ _ _ _ _=>rfl
 rw [a0B]
 simp only [a9v,Q0,Sys.run]
 show ((a0E [.sh (.one _)] _).bind _)=_
 simp -implicitDefEqProofs only [a0E,a0x,a0w,Q4,Q0,Q5,Q6,Q7,if_true,p3]
 show (PT.ev _ a4f _).bind _=_
 rcases l with _ | ⟨a,_ | ⟨b,_ | ⟨c,_ | ⟨d,_ | ⟨e,_ | ⟨f,_ | ⟨z,r⟩⟩⟩⟩⟩⟩⟩
 case cons.cons.cons.cons.cons.cons.cons=>simp at hl
 all_goals
  first | have h0:=hq 0 _ rfl | have h0:=p3
  first | have h1:=hq 1 _ rfl | have h1:=p3
  first | have h2:=hq 2 _ rfl | have h2:=p3
  first | have h3:=hq 3 _ rfl | have h3:=p3
  first | have h4:=hq 4 _ rfl | have h4:=p3
  first | have h5:=hq 5 _ rfl | have h5:=p3
  simp only [List.length_cons,List.length_nil,Nat.zero_add,Nat.reduceAdd,Qr] at *
  simp -implicitDefEqProofs only [a4f,↓reduceIte,eq_self,ZF,ZG,ZH,ZI,ZJ,ZK,ZL,ZM,ZN,ZO,ZP,ZQ,ZR,ZS,ZT,ZU,ZV,ZW,ZX,ZY,Z2,Z3,Z4,Z5,Z6,Z7,Z8,Z9,Za,Zb,Zc,Zd,Ze,Zf,Zg,Zh,Nat.reduceAdd,Zi,if_true,if_false,Zl,Zm,Zn,Zo,Zp,Zq,Zr,Zs,Zt,Zu,Zv,Zw,Zx,Zy,Zz,ZA,ZB,ZC,ZD,ZE,p1,p2,e6,Int.reduceLT,decide_true,decide_false,h0,h1,h2,h3,h4,h5,a2l,d1,Nat.reduceLeDiff,a0D,or_true]
  rfl
end Go.Proofs.Ytflcopaopimlpaa
set_option maxRecDepth 100000
namespace Go.Proofs.Ytflcopaopimlpaa
open Go.Sx
theorem a3v {α:Type} {l:List α} {k:Nat} {x:α} (h:l[k]?=some x):l.drop k=x::l.drop (k+1):=by
 obtain ⟨h1,h2⟩:=Q3.1 h
 rw [Qp h1,h2]
section
variable (σ:List MO) (l:List Pr) (P:PV) (hP:P.rowsOf 5=some (l.map Pr.row)) (n:Nat) (w:W6)
include hP in
theorem c6r (hw:w.ok) (g:Int) (hl:l.length<=6) (hr:∀ x∈l,x.rng):∀ d i,i+d=l.length->∀ fuel,1+d*6<=fuel ->
  saleroomref08_Sums_S.loop (a0B Tab n) fuel 0 (a3g σ P [g,ptS Pr.p l w i,ptS Pr.r l w i,ptS (un g) l w i,(i:Int)] w)=some (.tup [.int .i64 (ptS Pr.p l w l.length),.int .i64 (ptS Pr.r l w l.length),.int .i64 (ptS (un g) l w l.length)],σ):=by
 obtain ⟨p1,p2,p3⟩:=a0C hP
 rw [Q2] at p1
 intro d
 induction d with
 | zero =>
  intro i hi fuel hf
  rw [Qd] at hi; subst hi
  obtain ⟨fuel,rfl⟩:∃ k,fuel=k+1:=⟨fuel-1,by omega⟩
  have hd:decide (l.length < l.length)=false:=by simp
  rw [Sys.loop,show saleroomref08_Sums_S.loops[0]?=some a2G from rfl]
  simp -implicitDefEqProofs only [Q0,a3g,a2G,↓reduceIte,eq_self,ZF,ZG,ZH,ZI,ZJ,ZK,ZL,ZM,ZN,ZO,ZP,ZQ,ZR,ZS,ZT,ZU,ZV,ZW,ZX,ZY,Z2,Z3,Z4,Z5,Z6,Z7,Z8,Z9,Za,Zb,Zc,Zd,Ze,Zf,Zg,Zh,Nat.reduceAdd,Zi,if_true,if_false,Zl,Zm,Zn,Zo,Zp,Zq,Zr,Zs,Zt,Zu,Zv,Zw,Zx,Zy,Zz,ZA,ZB,ZC,ZD,ZE,p1,p2,a0F,hd,a0D,or_true]
 | succ d ih =>
  intro i hi fuel hf
  have hlt:i < l.length:=by omega
  obtain ⟨x,hx⟩:=a0W hlt
  have hd:decide (i < l.length)=true:=decide_eq_true hlt
  have hxr:=hr x (Qe hx)
  have hw1:=b7m hw i
  have hxr':=hxr
  simp only [Pr.rng] at hxr'
  have b1:=b3b (f:=Pr.p) (b:=1000) hw (by omega) (fun y hy=>by have:=hr y hy; simp only [Pr.rng] at this; omega) i
  have b2:=b3b (f:=Pr.r) (b:=1000000) hw (by omega) (fun y hy=>by have:=hr y hy; simp only [Pr.rng] at this; omega) i
  have b3:=b3b (f:=un g) (l:=l) (b:=1) hw (by omega) (fun y hy=>c2d g y) i
  obtain ⟨m,hm⟩:∃ m:Nat,(m:Int)=a4t w i:=⟨(a4t w i).toNat,by omega⟩
  have hu:=ih (i+1) (by omega)
  obtain ⟨fuel,rfl⟩:∃ k,fuel=(k+m+1)+1:=⟨fuel-m-2,by omega⟩
  have hu:=hu fuel (by omega)
  have k1:ptS Pr.p l w (i+1)=ptS Pr.p l w i+m*x.p:=by simp only [ptS,b0s,hx,Q4,Qh,hm]
  have k2:ptS Pr.r l w (i+1)=ptS Pr.r l w i+m*x.r:=by simp only [ptS,b0s,hx,Q4,Qh,hm]
  have k3:ptS (un g) l w (i+1)=if eqB x.g g=true then ptS (un g) l w i+m else ptS (un g) l w i:=by
   simp only [ptS,b0s,hx,Q4,Qh,<- hm,un]
   split<;>omega
  rw [k1,k2,k3,a0Q] at hu
  rw [<- hu,Sys.loop,show saleroomref08_Sums_S.loops[0]?=some a2G from rfl]
  simp -implicitDefEqProofs only [Q0,a3g,a2G,↓reduceIte,eq_self,ZF,ZG,ZH,ZI,ZJ,ZK,ZL,ZM,ZN,ZO,ZP,ZQ,ZR,ZS,ZT,ZU,ZV,ZW,ZX,ZY,Z2,Z3,Z4,Z5,Z6,Z7,Z8,Z9,Za,Zb,Zc,Zd,Ze,Zf,Zg,Zh,Nat.reduceAdd,Zi,if_true,if_false,Zl,Zm,Zn,Zo,Zp,Zq,Zr,Zs,Zt,Zu,Zv,Zw,Zx,Zy,Zz,ZA,ZB,ZC,ZD,ZE,p1,p2,a0F,hd]
  clear hu ih k1 k2 k3
  generalize ptS Pr.p l w i=s1 at *
  generalize ptS Pr.r l w i=s2 at *
  generalize ptS (un g) l w i=u at *
  obtain rfl | rfl | rfl | rfl | rfl | rfl:i=0\/i=1\/i=2\/i=3\/i=4\/i=5:=by omega
  ·exact c6P σ l P hP n w g x hx hxr m 0 (by rw [hm]; simp [a4t,wl]) (by omega) fuel s1 s2 u (by omega) (by omega) (by omega) (by omega) (by omega) (by omega)
  ·exact c7f σ l P hP n w g x hx hxr m 0 (by rw [hm]; simp [a4t,wl]) (by omega) fuel s1 s2 u (by omega) (by omega) (by omega) (by omega) (by omega) (by omega)
  ·exact c6H σ l P hP n w g x hx hxr m 0 (by rw [hm]; simp [a4t,wl]) (by omega) fuel s1 s2 u (by omega) (by omega) (by omega) (by omega) (by omega) (by omega)
  ·exact c6Q σ l P hP n w g x hx hxr m 0 (by rw [hm]; simp [a4t,wl]) (by omega) fuel s1 s2 u (by omega) (by omega) (by omega) (by omega) (by omega) (by omega)
  ·exact c6D σ l P hP n w g x hx hxr m 0 (by rw [hm]; simp [a4t,wl]) (by omega) fuel s1 s2 u (by omega) (by omega) (by omega) (by omega) (by omega) (by omega)
  ·exact c6V σ l P hP n w g x hx hxr m 0 (by rw [hm]; simp [a4t,wl]) (by omega) fuel s1 s2 u (by omega) (by omega) (by omega) (by omega) (by omega) (by omega)
include hP in
theorem c4u (g:Int) (hn:100<=n):∃ y z:Int,a0B Tab n a6O [P,.int .i64 g,.agg w.pv] σ=some (.tup [.int .i64 y,.int .i64 z,.int .i64 (unV l g w)],σ):=by
 obtain ⟨n,rfl⟩:∃ k,n=k+1:=⟨n-1,by omega⟩
 obtain ⟨p1,p2,p3⟩:=a0C hP
 have c1:=b3M σ l P hP n (by omega)
 have c2:=b3D σ w n (by omega)
 simp only [a4D,a4A,W6.pv] at c1 c2
 simp only [a0B,b0n,Q0,Sys.run,W6.pv]
 show ∃ y z:Int,((a0E [.sh (.one _),.sh (.one _),.sh (.agg [_,_,_,_,_,_])] _).bind _)=_
 simp -implicitDefEqProofs only [a0E,a0x,a0w,Q4,Q0,Q5,Q6,Q7,if_true,p3]
 show ∃ y z:Int,(PT.ev _ a4G _).bind _=_
 simp -implicitDefEqProofs only [a4G,↓reduceIte,eq_self,ZF,ZG,ZH,ZI,ZJ,ZK,ZL,ZM,ZN,ZO,ZP,ZQ,ZR,ZS,ZT,ZU,ZV,ZW,ZX,ZY,Z2,Z3,Z4,Z5,Z6,Z7,Z8,Z9,Za,Zb,Zc,Zd,Ze,Zf,Zg,Zh,Nat.reduceAdd,Zi,if_true,if_false,Zl,Zm,Zn,Zo,Zp,Zq,Zr,Zs,Zt,Zu,Zv,Zw,Zx,Zy,Zz,ZA,ZB,ZC,ZD,ZE,c1,unV]
 cases hc:eqB (a6j l) 0 with
 | false=>refine ⟨0,0,?_⟩; simp -implicitDefEqProofs only [↓reduceIte,eq_self,ZF,ZG,ZH,ZI,ZJ,ZK,ZL,ZM,ZN,ZO,ZP,ZQ,ZR,ZS,ZT,ZU,ZV,ZW,ZX,ZY,Z2,Z3,Z4,Z5,Z6,Z7,Z8,Z9,Za,Zb,Zc,Zd,Ze,Zf,Zg,Zh,Nat.reduceAdd,Zi,if_true,if_false,Zl,Zm,Zn,Zo,Zp,Zq,Zr,Zs,Zt,Zu,Zv,Zw,Zx,Zy,Zz,ZA,ZB,ZC,ZD,ZE,a0D,or_true]
 | true =>
  obtain ⟨hl,hr⟩:=a7M (a8O.1 hc)
  by_cases hw:w.ok
  ·have hb:eqB (a4u w) 0=true:=by unfold a4u; rw [if_pos hw]; rfl
   have hu:=c6r σ l P hP n w hw g hl hr l.length 0 (by omega) n (by omega)
   refine ⟨ptS Pr.p l w l.length,ptS Pr.r l w l.length,?_⟩
   rw [decide_eq_true hw] at c2
   simp -implicitDefEqProofs only [↓reduceIte,eq_self,ZF,ZG,ZH,ZI,ZJ,ZK,ZL,ZM,ZN,ZO,ZP,ZQ,ZR,ZS,ZT,ZU,ZV,ZW,ZX,ZY,Z2,Z3,Z4,Z5,Z6,Z7,Z8,Z9,Za,Zb,Zc,Zd,Ze,Zf,Zg,Zh,Nat.reduceAdd,Zi,if_true,if_false,Zl,Zm,Zn,Zo,Zp,Zq,Zr,Zs,Zt,Zu,Zv,Zw,Zx,Zy,Zz,ZA,ZB,ZC,ZD,ZE,c2,hb]
   exact hu
  ·have hb:eqB (a4u w) 0=false:=by unfold a4u; rw [if_neg hw]; rfl
   refine ⟨0,0,?_⟩
   rw [decide_eq_false hw] at c2
   simp -implicitDefEqProofs only [↓reduceIte,eq_self,ZF,ZG,ZH,ZI,ZJ,ZK,ZL,ZM,ZN,ZO,ZP,ZQ,ZR,ZS,ZT,ZU,ZV,ZW,ZX,ZY,Z2,Z3,Z4,Z5,Z6,Z7,Z8,Z9,Za,Zb,Zc,Zd,Ze,Zf,Zg,Zh,Nat.reduceAdd,Zi,if_true,if_false,Zl,Zm,Zn,Zo,Zp,Zq,Zr,Zs,Zt,Zu,Zv,Zw,Zx,Zy,Zz,ZA,ZB,ZC,ZD,ZE,c2,hb,a0D,or_true]
end
def b2Z (ps:List Pr) (i:Int) (b:W6) (c:Tri):Bool:=(eqB c.x (-1)||eqB c.x i)&&ltB c.z (unV ps c.y b)
def a5I (ps:List Pr) (i:Int) (b:W6) (l:List Tri):Int:=if l.any (b2Z ps i b)=true then 14 else 0
theorem a9R {ps:List Pr} {i:Int} {b:W6} {c:Tri} {l:List Tri} (h:b2Z ps i b c=true):a5I ps i b (c::l)=14:=by simp [a5I,h]
theorem a6z {ps:List Pr} {i:Int} {b:W6} {c:Tri} {l:List Tri} (h:b2Z ps i b c=false):a5I ps i b (c::l)=a5I ps i b l:=by simp [a5I,h]
section
variable (σ:List MO) (ps:List Pr) (cs:List Tri) (P B C A:PV) (hP:P.rowsOf 5=some (ps.map Pr.row)) (hC:C.rowsOf 3=some (cs.map Tri.row)) (n:Nat) (hcl:cs.length<=16)
def b8v (σ:List MO) (P B C A:PV) (i N k:Int) (b:W6):PEnv:={ i:=[i,N,k,b.a,b.b,b.c,b.d,b.e,b.f],b:=[],v:=[C,P,B,A],m:=σ,k:=σ.length }
def b6w (σ:List MO) (P B C A:PV) (i _N k:Int) (b:W6):PEnv:={ i:=[i,k,b.a,b.b,b.c,b.d,b.e,b.f],b:=[],v:=[P,B,C,A],m:=σ,k:=σ.length }
include hP hC hcl in
theorem c4q (hlow:σ.all (MO.low σ.length)=true) (i:Int) (b:W6) (hn:100<=n):∀ d k,k+d=cs.length->∀ fuel,setup_allowed_S.loop (a0B Tab n) (fuel+d+1) 0 (b8v σ P B C A i (cs.length:Int) (k:Int) b)=some (.int .i64 (a5I ps i b (cs.drop k)),σ):=by
 obtain ⟨p1,p2,p3⟩:=a0C hC
 rw [Q2] at p1
 intro d
 induction d with
 | zero =>
  intro k hk fuel
  rw [Qd] at hk; subst hk
  have hd:decide (cs.length < cs.length)=false:=by simp
  rw [Sys.loop,show setup_allowed_S.loops[0]?=some a3P from rfl,Qj]
  simp -implicitDefEqProofs only [Q0,b8v,a3P,↓reduceIte,eq_self,ZF,ZG,ZH,ZI,ZJ,ZK,ZL,ZM,ZN,ZO,ZP,ZQ,ZR,ZS,ZT,ZU,ZV,ZW,ZX,ZY,Z2,Z3,Z4,Z5,Z6,Z7,Z8,Z9,Za,Zb,Zc,Zd,Ze,Zf,Zg,Zh,Nat.reduceAdd,Zi,if_true,if_false,Zl,Zm,Zn,Zo,Zp,Zq,Zr,Zs,Zt,Zu,Zv,Zw,Zx,Zy,Zz,ZA,ZB,ZC,ZD,ZE,p1,p2,a0F,hd,a0D,or_true]
  rfl
 | succ d ih =>
  intro k hk fuel
  have hlt:k < cs.length:=by omega
  obtain ⟨c,hx⟩:=a0W hlt
  have hd:decide (k < cs.length)=true:=decide_eq_true hlt
  have hq:=a0G (off:=0) hC (a2R hx)
  have hup:=a1y (show k<=1000000000 by omega)
  have ih:=ih (k+1) (by omega) fuel
  rw [a0Q] at ih
  have k1:=c2W σ hlow ps P hP c.y b n hn
  simp only [b0d,W6.pv] at k1
  have hdr:=a3v hx
  rw [hdr,show fuel+(d+1)+1=(fuel+d+1)+1 from rfl,Sys.loop,show setup_allowed_S.loops[0]?=some a3P from rfl]
  have hh:b2Z ps i b c=((eqB c.x (-1)||eqB c.x i)&&ltB c.z (unV ps c.y b)):=rfl
  simp only [b8v] at ih ⊢
  simp -implicitDefEqProofs only [Q0,a3P,↓reduceIte,eq_self,ZF,ZG,ZH,ZI,ZJ,ZK,ZL,ZM,ZN,ZO,ZP,ZQ,ZR,ZS,ZT,ZU,ZV,ZW,ZX,ZY,Z2,Z3,Z4,Z5,Z6,Z7,Z8,Z9,Za,Zb,Zc,Zd,Ze,Zf,Zg,Zh,Nat.reduceAdd,Zi,if_true,if_false,Zl,Zm,Zn,Zo,Zp,Zq,Zr,Zs,Zt,Zu,Zv,Zw,Zx,Zy,Zz,ZA,ZB,ZC,ZD,ZE,p1,p2,a0F,hd,le0,hq,a3J]
  cases e1:eqB c.x (-1) with
  | true =>
   simp -implicitDefEqProofs only [↓reduceIte,eq_self,ZF,ZG,ZH,ZI,ZJ,ZK,ZL,ZM,ZN,ZO,ZP,ZQ,ZR,ZS,ZT,ZU,ZV,ZW,ZX,ZY,Z2,Z3,Z4,Z5,Z6,Z7,Z8,Z9,Za,Zb,Zc,Zd,Ze,Zf,Zg,Zh,Nat.reduceAdd,Zi,if_true,if_false,Zl,Zm,Zn,Zo,Zp,Zq,Zr,Zs,Zt,Zu,Zv,Zw,Zx,Zy,Zz,ZA,ZB,ZC,ZD,ZE,k1]
   cases e2:ltB c.z (unV ps c.y b) with
   | true=>rw [a9R (by rw [hh,e1,e2]; rfl)]; simp -implicitDefEqProofs only [↓reduceIte,eq_self,ZF,ZG,ZH,ZI,ZJ,ZK,ZL,ZM,ZN,ZO,ZP,ZQ,ZR,ZS,ZT,ZU,ZV,ZW,ZX,ZY,Z2,Z3,Z4,Z5,Z6,Z7,Z8,Z9,Za,Zb,Zc,Zd,Ze,Zf,Zg,Zh,Nat.reduceAdd,Zi,if_true,if_false,Zl,Zm,Zn,Zo,Zp,Zq,Zr,Zs,Zt,Zu,Zv,Zw,Zx,Zy,Zz,ZA,ZB,ZC,ZD,ZE,a0D,or_true]
   | false=>rw [a6z (by rw [hh,e1,e2]; rfl)]; simp -implicitDefEqProofs only [↓reduceIte,eq_self,ZF,ZG,ZH,ZI,ZJ,ZK,ZL,ZM,ZN,ZO,ZP,ZQ,ZR,ZS,ZT,ZU,ZV,ZW,ZX,ZY,Z2,Z3,Z4,Z5,Z6,Z7,Z8,Z9,Za,Zb,Zc,Zd,Ze,Zf,Zg,Zh,Nat.reduceAdd,Zi,if_true,if_false,Zl,Zm,Zn,Zo,Zp,Zq,Zr,Zs,Zt,Zu,Zv,Zw,Zx,Zy,Zz,ZA,ZB,ZC,ZD,ZE,if_pos hup]; exact ih
  | false =>
   simp -implicitDefEqProofs only [↓reduceIte,eq_self,ZF,ZG,ZH,ZI,ZJ,ZK,ZL,ZM,ZN,ZO,ZP,ZQ,ZR,ZS,ZT,ZU,ZV,ZW,ZX,ZY,Z2,Z3,Z4,Z5,Z6,Z7,Z8,Z9,Za,Zb,Zc,Zd,Ze,Zf,Zg,Zh,Nat.reduceAdd,Zi,if_true,if_false,Zl,Zm,Zn,Zo,Zp,Zq,Zr,Zs,Zt,Zu,Zv,Zw,Zx,Zy,Zz,ZA,ZB,ZC,ZD,ZE]
   cases e3:eqB c.x i with
   | true =>
    simp -implicitDefEqProofs only [↓reduceIte,eq_self,ZF,ZG,ZH,ZI,ZJ,ZK,ZL,ZM,ZN,ZO,ZP,ZQ,ZR,ZS,ZT,ZU,ZV,ZW,ZX,ZY,Z2,Z3,Z4,Z5,Z6,Z7,Z8,Z9,Za,Zb,Zc,Zd,Ze,Zf,Zg,Zh,Nat.reduceAdd,Zi,if_true,if_false,Zl,Zm,Zn,Zo,Zp,Zq,Zr,Zs,Zt,Zu,Zv,Zw,Zx,Zy,Zz,ZA,ZB,ZC,ZD,ZE,k1]
    cases e2:ltB c.z (unV ps c.y b) with
    | true=>rw [a9R (by rw [hh,e1,e2,e3]; rfl)]; simp -implicitDefEqProofs only [↓reduceIte,eq_self,ZF,ZG,ZH,ZI,ZJ,ZK,ZL,ZM,ZN,ZO,ZP,ZQ,ZR,ZS,ZT,ZU,ZV,ZW,ZX,ZY,Z2,Z3,Z4,Z5,Z6,Z7,Z8,Z9,Za,Zb,Zc,Zd,Ze,Zf,Zg,Zh,Nat.reduceAdd,Zi,if_true,if_false,Zl,Zm,Zn,Zo,Zp,Zq,Zr,Zs,Zt,Zu,Zv,Zw,Zx,Zy,Zz,ZA,ZB,ZC,ZD,ZE,a0D,or_true]
    | false=>rw [a6z (by rw [hh,e1,e2,e3]; rfl)]; simp -implicitDefEqProofs only [↓reduceIte,eq_self,ZF,ZG,ZH,ZI,ZJ,ZK,ZL,ZM,ZN,ZO,ZP,ZQ,ZR,ZS,ZT,ZU,ZV,ZW,ZX,ZY,Z2,Z3,Z4,Z5,Z6,Z7,Z8,Z9,Za,Zb,Zc,Zd,Ze,Zf,Zg,Zh,Nat.reduceAdd,Zi,if_true,if_false,Zl,Zm,Zn,Zo,Zp,Zq,Zr,Zs,Zt,Zu,Zv,Zw,Zx,Zy,Zz,ZA,ZB,ZC,ZD,ZE,if_pos hup]; exact ih
   | false=>rw [a6z (by rw [hh,e1,e3]; rfl)]; simp -implicitDefEqProofs only [↓reduceIte,eq_self,ZF,ZG,ZH,ZI,ZJ,ZK,ZL,ZM,ZN,ZO,ZP,ZQ,ZR,ZS,ZT,ZU,ZV,ZW,ZX,ZY,Z2,Z3,Z4,Z5,Z6,Z7,Z8,Z9,Za,Zb,Zc,Zd,Ze,Zf,Zg,Zh,Nat.reduceAdd,Zi,if_true,if_false,Zl,Zm,Zn,Zo,Zp,Zq,Zr,Zs,Zt,Zu,Zv,Zw,Zx,Zy,Zz,ZA,ZB,ZC,ZD,ZE,if_pos hup]; exact ih
include hP hC hcl in
theorem c4D (i:Int) (b:W6) (hn:100<=n):∀ d k,k+d=cs.length->∀ fuel,saleroomref10_Allowed_S.loop (a0B Tab n) (fuel+d+1) 1 (b6w σ P B C A i (cs.length:Int) (k:Int) b)=some (.int .i64 (a5I ps i b (cs.drop k)),σ):=by
 obtain ⟨p1,p2,p3⟩:=a0C hC
 rw [Q2] at p1
 intro d
 induction d with
 | zero =>
  intro k hk fuel
  rw [Qd] at hk; subst hk
  have hd:decide (cs.length < cs.length)=false:=by simp
  rw [Sys.loop,show saleroomref10_Allowed_S.loops[1]?=some a2e from rfl,Qj]
  simp -implicitDefEqProofs only [Q0,b6w,a2e,↓reduceIte,eq_self,ZF,ZG,ZH,ZI,ZJ,ZK,ZL,ZM,ZN,ZO,ZP,ZQ,ZR,ZS,ZT,ZU,ZV,ZW,ZX,ZY,Z2,Z3,Z4,Z5,Z6,Z7,Z8,Z9,Za,Zb,Zc,Zd,Ze,Zf,Zg,Zh,Nat.reduceAdd,Zi,if_true,if_false,Zl,Zm,Zn,Zo,Zp,Zq,Zr,Zs,Zt,Zu,Zv,Zw,Zx,Zy,Zz,ZA,ZB,ZC,ZD,ZE,p1,p2,a0F,hd,a0D,or_true]
  rfl
 | succ d ih =>
  intro k hk fuel
  have hlt:k < cs.length:=by omega
  obtain ⟨c,hx⟩:=a0W hlt
  have hd:decide (k < cs.length)=true:=decide_eq_true hlt
  have hq:=a0G (off:=0) hC (a2R hx)
  have hup:=a1y (show k<=1000000000 by omega)
  have ih:=ih (k+1) (by omega) fuel
  rw [a0Q] at ih
  obtain ⟨y,z,k1⟩:=c4u σ ps P hP n b c.y hn
  simp only [a6O,W6.pv] at k1
  have hdr:=a3v hx
  rw [hdr,show fuel+(d+1)+1=(fuel+d+1)+1 from rfl,Sys.loop,show saleroomref10_Allowed_S.loops[1]?=some a2e from rfl]
  have hh:b2Z ps i b c=((eqB c.x (-1)||eqB c.x i)&&ltB c.z (unV ps c.y b)):=rfl
  simp only [b6w] at ih ⊢
  simp -implicitDefEqProofs only [Q0,a2e,↓reduceIte,eq_self,ZF,ZG,ZH,ZI,ZJ,ZK,ZL,ZM,ZN,ZO,ZP,ZQ,ZR,ZS,ZT,ZU,ZV,ZW,ZX,ZY,Z2,Z3,Z4,Z5,Z6,Z7,Z8,Z9,Za,Zb,Zc,Zd,Ze,Zf,Zg,Zh,Nat.reduceAdd,Zi,if_true,if_false,Zl,Zm,Zn,Zo,Zp,Zq,Zr,Zs,Zt,Zu,Zv,Zw,Zx,Zy,Zz,ZA,ZB,ZC,ZD,ZE,p1,p2,a0F,hd,le0,hq,a3J,k1,a1w]
  cases e1:eqB c.x (-1) with
  | true =>
   simp -implicitDefEqProofs only [↓reduceIte,eq_self,ZF,ZG,ZH,ZI,ZJ,ZK,ZL,ZM,ZN,ZO,ZP,ZQ,ZR,ZS,ZT,ZU,ZV,ZW,ZX,ZY,Z2,Z3,Z4,Z5,Z6,Z7,Z8,Z9,Za,Zb,Zc,Zd,Ze,Zf,Zg,Zh,Nat.reduceAdd,Zi,if_true,if_false,Zl,Zm,Zn,Zo,Zp,Zq,Zr,Zs,Zt,Zu,Zv,Zw,Zx,Zy,Zz,ZA,ZB,ZC,ZD,ZE]
   cases e2:ltB c.z (unV ps c.y b) with
   | true=>rw [a9R (by rw [hh,e1,e2]; rfl)]; simp -implicitDefEqProofs only [↓reduceIte,eq_self,ZF,ZG,ZH,ZI,ZJ,ZK,ZL,ZM,ZN,ZO,ZP,ZQ,ZR,ZS,ZT,ZU,ZV,ZW,ZX,ZY,Z2,Z3,Z4,Z5,Z6,Z7,Z8,Z9,Za,Zb,Zc,Zd,Ze,Zf,Zg,Zh,Nat.reduceAdd,Zi,if_true,if_false,Zl,Zm,Zn,Zo,Zp,Zq,Zr,Zs,Zt,Zu,Zv,Zw,Zx,Zy,Zz,ZA,ZB,ZC,ZD,ZE,a0D,or_true]
   | false=>rw [a6z (by rw [hh,e1,e2]; rfl)]; simp -implicitDefEqProofs only [↓reduceIte,eq_self,ZF,ZG,ZH,ZI,ZJ,ZK,ZL,ZM,ZN,ZO,ZP,ZQ,ZR,ZS,ZT,ZU,ZV,ZW,ZX,ZY,Z2,Z3,Z4,Z5,Z6,Z7,Z8,Z9,Za,Zb,Zc,Zd,Ze,Zf,Zg,Zh,Nat.reduceAdd,Zi,if_true,if_false,Zl,Zm,Zn,Zo,Zp,Zq,Zr,Zs,Zt,Zu,Zv,Zw,Zx,Zy,Zz,ZA,ZB,ZC,ZD,ZE,if_pos hup]; exact ih
  | false =>
   simp -implicitDefEqProofs only [↓reduceIte,eq_self,ZF,ZG,ZH,ZI,ZJ,ZK,ZL,ZM,ZN,ZO,ZP,ZQ,ZR,ZS,ZT,ZU,ZV,ZW,ZX,ZY,Z2,Z3,Z4,Z5,Z6,Z7,Z8,Z9,Za,Zb,Zc,Zd,Ze,Zf,Zg,Zh,Nat.reduceAdd,Zi,if_true,if_false,Zl,Zm,Zn,Zo,Zp,Zq,Zr,Zs,Zt,Zu,Zv,Zw,Zx,Zy,Zz,ZA,ZB,ZC,ZD,ZE]
   cases e3:eqB c.x i with
   | true =>
    simp -implicitDefEqProofs only [↓reduceIte,eq_self,ZF,ZG,ZH,ZI,ZJ,ZK,ZL,ZM,ZN,ZO,ZP,ZQ,ZR,ZS,ZT,ZU,ZV,ZW,ZX,ZY,Z2,Z3,Z4,Z5,Z6,Z7,Z8,Z9,Za,Zb,Zc,Zd,Ze,Zf,Zg,Zh,Nat.reduceAdd,Zi,if_true,if_false,Zl,Zm,Zn,Zo,Zp,Zq,Zr,Zs,Zt,Zu,Zv,Zw,Zx,Zy,Zz,ZA,ZB,ZC,ZD,ZE]
    cases e2:ltB c.z (unV ps c.y b) with
    | true=>rw [a9R (by rw [hh,e1,e2,e3]; rfl)]; simp -implicitDefEqProofs only [↓reduceIte,eq_self,ZF,ZG,ZH,ZI,ZJ,ZK,ZL,ZM,ZN,ZO,ZP,ZQ,ZR,ZS,ZT,ZU,ZV,ZW,ZX,ZY,Z2,Z3,Z4,Z5,Z6,Z7,Z8,Z9,Za,Zb,Zc,Zd,Ze,Zf,Zg,Zh,Nat.reduceAdd,Zi,if_true,if_false,Zl,Zm,Zn,Zo,Zp,Zq,Zr,Zs,Zt,Zu,Zv,Zw,Zx,Zy,Zz,ZA,ZB,ZC,ZD,ZE,a0D,or_true]
    | false=>rw [a6z (by rw [hh,e1,e2,e3]; rfl)]; simp -implicitDefEqProofs only [↓reduceIte,eq_self,ZF,ZG,ZH,ZI,ZJ,ZK,ZL,ZM,ZN,ZO,ZP,ZQ,ZR,ZS,ZT,ZU,ZV,ZW,ZX,ZY,Z2,Z3,Z4,Z5,Z6,Z7,Z8,Z9,Za,Zb,Zc,Zd,Ze,Zf,Zg,Zh,Nat.reduceAdd,Zi,if_true,if_false,Zl,Zm,Zn,Zo,Zp,Zq,Zr,Zs,Zt,Zu,Zv,Zw,Zx,Zy,Zz,ZA,ZB,ZC,ZD,ZE,if_pos hup]; exact ih
   | false=>rw [a6z (by rw [hh,e1,e3]; rfl)]; simp -implicitDefEqProofs only [↓reduceIte,eq_self,ZF,ZG,ZH,ZI,ZJ,ZK,ZL,ZM,ZN,ZO,ZP,ZQ,ZR,ZS,ZT,ZU,ZV,ZW,ZX,ZY,Z2,Z3,Z4,Z5,Z6,Z7,Z8,Z9,Za,Zb,Zc,Zd,Ze,Zf,Zg,Zh,Nat.reduceAdd,Zi,if_true,if_false,Zl,Zm,Zn,Zo,Zp,Zq,Zr,Zs,Zt,Zu,Zv,Zw,Zx,Zy,Zz,ZA,ZB,ZC,ZD,ZE,if_pos hup]; exact ih
end
end Go.Proofs.Ytflcopaopimlpaa
set_option maxRecDepth 100000
namespace Go.Proofs.Ytflcopaopimlpaa
open Go.Sx
theorem c6f (w:W6) {i j v:Int} (hi:0<=i/\i<=5) (hj:0<=j/\j<=5):(w.put i v).at6 j=if i=j then v else w.at6 j:=by
 rcases a5A hi with rfl | rfl | rfl | rfl | rfl | rfl<;>rcases a5A hj with rfl | rfl | rfl | rfl | rfl | rfl<;>rfl
theorem c6y (ps:List Pr) {j:Int} (hj:0<=j/\j<=5):(a1T ps).at6 j=(((ps[j.toNat]?).map Pr.s).getD 0):=by
 rcases a5A hj with rfl | rfl | rfl | rfl | rfl | rfl<;>simp [W6.at6,a1T]
theorem c5f {ps:List Pr} {ad:List Tri} (h:asV ps ad=0) {k:Nat} {t:Tri} (hk:ad[k]?=some t):t.z<=(((ps[t.x.toNat]?).map Pr.s).getD 0)/\∀ d∈ad.take k,d.x≠t.x:=by
 unfold asV at h
 split at h
 ·cases h
 have hb:=b5k _ _ h (by omega) k t (by omega) hk
 unfold a1A at hb
 repeat' split at hb
 all_goals first | cases hb | skip
 rename_i a1 a2 a3 a4 a5 a6 a7
 rw [Qm] at a6
 rw [a0I] at a6
 refine ⟨by omega,fun d hd he=>a7 ?_⟩
 rw [List.any_eq_true]
 exact ⟨d,hd,by rw [he]; exact a7s _⟩
theorem c6g {ps:List Pr} {ad:List Tri} (hl:ps.length<=6) (hr:∀ x∈ps,x.rng) (h:asV ps ad=0):∀ k,k<=ad.length->∀ j:Int,0<=j/\j<=5 ->
  0<=((ad.take k).foldl a3b (a1T ps,⟨0,0,0,0,0,0⟩)).1.at6 j/\((∀ d∈ad.take k,d.x≠j)->((ad.take k).foldl a3b (a1T ps,⟨0,0,0,0,0,0⟩)).1.at6 j=(a1T ps).at6 j):=by
 obtain ⟨h6,hb⟩:=b8A hl hr h
 intro k
 induction k with
 | zero =>
  intro _ j hj
  refine ⟨?_,fun _=>rfl⟩
  have hw:=b3C hr
  simp only [W6.wide] at hw
  simp only [List.take_zero,Qk]
  rcases a5A hj with rfl | rfl | rfl | rfl | rfl | rfl<;>simp [W6.at6]<;>omega
 | succ k ih =>
  intro hk j hj
  obtain ⟨t,ht⟩:=a0W (show k < ad.length by omega)
  have hok:=hb t (Qe ht)
  simp only [Tri.aok] at hok
  obtain ⟨f1,f2⟩:=c5f h ht
  have ih:=ih (by omega)
  have htk:ad.take (k+1)=ad.take k++[t]:=by rw [List.take_add_one,ht]; rfl
  rw [htk,List.foldl_append,Qq,Qk]
  simp only [a3b]
  rw [c6f _ ⟨hok.1,hok.2.1⟩ hj]
  by_cases he:t.x=j
  ·rw [if_pos he]
   refine ⟨?_,fun hd=>absurd he (hd t (by simp))⟩
   rw [(ih t.x ⟨hok.1,hok.2.1⟩).2 f2,c6y ps ⟨hok.1,hok.2.1⟩]
   omega
  ·rw [if_neg he]
   exact ⟨(ih j hj).1,fun hd=>(ih j hj).2 fun d hm=>hd d (by simp [hm])⟩
theorem c2a {ps:List Pr} {ad:List Tri} (hl:ps.length<=6) (hr:∀ x∈ps,x.rng) (h:asV ps ad=0):0<=(shF ps ad).1.a/\0<=(shF ps ad).1.b/\0<=(shF ps ad).1.c/\0<=(shF ps ad).1.d/\0<=(shF ps ad).1.e/\0<=(shF ps ad).1.f:=by
 have:=c6g hl hr h ad.length (Nat.le_refl _)
 rw [List.take_length] at this
 exact ⟨(this 0 (by omega)).1,(this 1 (by omega)).1,(this 2 (by omega)).1,(this 3 (by omega)).1,(this 4 (by omega)).1,(this 5 (by omega)).1⟩
def a7W (ps:List Pr) (bs:List Bd) (cs ad:List Tri) (i:Int) (b:W6):Int :=
 if ltB i 0=true then 6 else if leB (bs.length:Int) i=true then 6 else if b.ok then
  if b.le (a1T ps)/\(b2g (shF ps ad).2 (((bs[i.toNat]?).map Bd.c).getD 0) b).le (shF ps ad).1 then a5I ps i b cs else 14
 else 4
def hit (c bc b o s:Int):Bool:=ltB s b||(!(eqB c 0)&&(!(eqB c bc)&&ltB o b))
theorem a5a {c bc b o s:Int} (ho:0<=o):hit c bc b o s=false↔b<=s/\oc c bc b<=o:=by
 unfold hit oc
 have e5:∀ a b:Int,eqB a b=decide (a=b):=fun _ _=>rfl
 have e6:∀ a b:Int,ltB a b=decide (a < b):=fun _ _=>rfl
 simp only [e5,e6,Bool.or_eq_false_iff,Bool.and_eq_false_imp,Bool.not_eq_true',decide_eq_false_iff_not,decide_eq_true_eq]
 by_cases h1:c=0
 ·first | (simp [h1]; omega; done) | simp [h1]
 ·by_cases h2:c=bc
  ·first | (simp [h1,h2]; omega; done) | simp [h1,h2]
  ·first | (simp [h1,h2]; omega; done) | simp [h1,h2]
theorem b3k {ps:List Pr} {bs:List Bd} {cs ad:List Tri} (hv:a5j ps bs cs ad=0):a6j ps=0/\a8D bs=0/\cs.length<=16/\asV ps ad=0:=by
 unfold a5j at hv
 by_cases h1:a6j ps=0
 ·rw [if_pos h1] at hv
  by_cases h2:a8D bs=0
  ·rw [if_pos h2] at hv
   by_cases h3:b0i (bs.length:Int) cs=0
   ·rw [if_pos h3] at hv
    refine ⟨h1,h2,?_,hv⟩
    unfold b0i at h3
    split at h3
    ·cases h3
    ·rename_i h; rw [Qm,a0I] at h; omega
   ·rw [if_neg h3] at hv; exact absurd hv h3
  ·rw [if_neg h2] at hv; exact absurd hv h2
 ·rw [if_neg h1] at hv; exact absurd hv h1
section
variable (σ:List MO) (ps:List Pr) (bs:List Bd) (cs ad:List Tri) (P B C A:PV) (hP:P.rowsOf 5=some (ps.map Pr.row)) (hB:B.rowsOf 4=some (bs.map Bd.row)) (hC:C.rowsOf 3=some (cs.map Tri.row)) (hA:A.rowsOf 3=some (ad.map Tri.row)) (n:Nat)
include hP hB hC hA in
theorem c0f (hlow:σ.all (MO.low σ.length)=true) (hv:a5j ps bs cs ad=0) (i:Int) (b:W6) (hn:1200<=n):a0B Tab n b0c [.agg [P,B,C,A],.int .i64 i,.agg b.pv] σ=some (.int .i64 (a7W ps bs cs ad i b),σ):=by
 obtain ⟨n,rfl⟩:∃ k,n=k+1:=⟨n-1,by omega⟩
 obtain ⟨v1,v2,v3,v4⟩:=b3k hv
 obtain ⟨hl,hr⟩:=a7M v1
 obtain ⟨p1,p2,p3⟩:=a0C hP
 obtain ⟨b1,b2,b3⟩:=a0C hB
 obtain ⟨c1,c2,c3⟩:=a0C hC
 obtain ⟨a1,a2,a3⟩:=a0C hA
 rw [Q2] at b1 c1
 have k1:=a9S σ ps bs cs ad P B C A hP hB hC hA n (by omega)
 have k2:a0B Tab n b0a [.agg [P,B,C,A],.int .i64 i,.agg b.pv] σ=some (.int .i64 (a7W ps bs cs ad i b),σ):=by
  obtain ⟨n,rfl⟩:∃ k,n=k+1:=⟨n-1,by omega⟩
  have q1:=a6o σ b n (by omega)
  have q2:=c1o σ ps bs cs ad P B C A hP hB hC hA n hl hr v4 (by omega)
  have q3:=b1M σ ps P hP hl n (by omega)
  have q4:=b6M σ b (a1T ps) n (by omega)
  simp only [a5K,b1c,a4M,a6Q,W6.pv] at q1 q2 q3 q4
  rw [a0B]
  simp only [b4u,Q0,Sys.run,W6.pv]
  show ((a0E [.sh (.agg [_,_,_,_]),.sh (.one _),.sh (.agg [_,_,_,_,_,_])] _).bind _)=_
  simp -implicitDefEqProofs only [a0E,a0x,a0w,Q4,Q0,Q5,Q6,Q7,if_true,p3,b3,c3,a3]
  show (PT.ev _ a6T _).bind _=_
  simp -implicitDefEqProofs only [a6T,↓reduceIte,eq_self,ZF,ZG,ZH,ZI,ZJ,ZK,ZL,ZM,ZN,ZO,ZP,ZQ,ZR,ZS,ZT,ZU,ZV,ZW,ZX,ZY,Z2,Z3,Z4,Z5,Z6,Z7,Z8,Z9,Za,Zb,Zc,Zd,Ze,Zf,Zg,Zh,Nat.reduceAdd,Zi,if_true,if_false,Zl,Zm,Zn,Zo,Zp,Zq,Zr,Zs,Zt,Zu,Zv,Zw,Zx,Zy,Zz,ZA,ZB,ZC,ZD,ZE,b1,b2,c1,c2,a7W]
  cases h1:ltB i 0 with
  | true=>simp -implicitDefEqProofs only [↓reduceIte,eq_self,ZF,ZG,ZH,ZI,ZJ,ZK,ZL,ZM,ZN,ZO,ZP,ZQ,ZR,ZS,ZT,ZU,ZV,ZW,ZX,ZY,Z2,Z3,Z4,Z5,Z6,Z7,Z8,Z9,Za,Zb,Zc,Zd,Ze,Zf,Zg,Zh,Nat.reduceAdd,Zi,if_true,if_false,Zl,Zm,Zn,Zo,Zp,Zq,Zr,Zs,Zt,Zu,Zv,Zw,Zx,Zy,Zz,ZA,ZB,ZC,ZD,ZE,a0D,or_true,if_true]
  | false =>
   cases h2:leB (bs.length:Int) i with
   | true=>simp -implicitDefEqProofs only [↓reduceIte,eq_self,ZF,ZG,ZH,ZI,ZJ,ZK,ZL,ZM,ZN,ZO,ZP,ZQ,ZR,ZS,ZT,ZU,ZV,ZW,ZX,ZY,Z2,Z3,Z4,Z5,Z6,Z7,Z8,Z9,Za,Zb,Zc,Zd,Ze,Zf,Zg,Zh,Nat.reduceAdd,Zi,if_true,if_false,Zl,Zm,Zn,Zo,Zp,Zq,Zr,Zs,Zt,Zu,Zv,Zw,Zx,Zy,Zz,ZA,ZB,ZC,ZD,ZE,a0D,or_true,if_true,Q1,if_false]
   | false =>
    rw [a0I] at h1
    rw [a3H] at h2
    obtain ⟨j,rfl⟩:∃ j:Nat,i=(j:Int):=⟨i.toNat,by omega⟩
    obtain ⟨y,hy⟩:=a0W (show j < bs.length by omega)
    have hbc:(((bs[(j:Int).toNat]?).map Bd.c).getD 0)=y.c:=by rw [Qs,hy]; rfl
    rw [hbc]
    have e5:∀ a b:Int,eqB a b=decide (a=b):=fun _ _=>rfl
    simp -implicitDefEqProofs only [↓reduceIte,eq_self,ZF,ZG,ZH,ZI,ZJ,ZK,ZL,ZM,ZN,ZO,ZP,ZQ,ZR,ZS,ZT,ZU,ZV,ZW,ZX,ZY,Z2,Z3,Z4,Z5,Z6,Z7,Z8,Z9,Za,Zb,Zc,Zd,Ze,Zf,Zg,Zh,Nat.reduceAdd,Zi,if_true,if_false,Zl,Zm,Zn,Zo,Zp,Zq,Zr,Zs,Zt,Zu,Zv,Zw,Zx,Zy,Zz,ZA,ZB,ZC,ZD,ZE,q1,if_true,Q1,if_false]
    by_cases hw:b.ok
    ·have hb:a4u b=0:=by unfold a4u; rw [if_pos hw]
     rw [if_pos hw,hb]
     have q5:=b9V σ bs P B C A hB n p3 c3 a3 hy (shF ps ad).2 b (by omega)
     have q6:=b6M σ (b2g (shF ps ad).2 y.c b) (shF ps ad).1 n (by omega)
     simp only [b0g,a6Q,W6.pv] at q5 q6
     obtain ⟨f,hf⟩:∃ f,n=f+cs.length+1:=⟨n-cs.length-1,by omega⟩
     have q7:=c4q σ ps cs P B C A hP hC n v3 hlow (j:Int) b (by omega) cs.length 0 (by omega) f
     rw [<- hf] at q7
     simp only [b8v] at q7
     simp -implicitDefEqProofs only [↓reduceIte,eq_self,ZF,ZG,ZH,ZI,ZJ,ZK,ZL,ZM,ZN,ZO,ZP,ZQ,ZR,ZS,ZT,ZU,ZV,ZW,ZX,ZY,Z2,Z3,Z4,Z5,Z6,Z7,Z8,Z9,Za,Zb,Zc,Zd,Ze,Zf,Zg,Zh,Nat.reduceAdd,Zi,if_true,if_false,Zl,Zm,Zn,Zo,Zp,Zq,Zr,Zs,Zt,Zu,Zv,Zw,Zx,Zy,Zz,ZA,ZB,ZC,ZD,ZE,show eqB 0 0=true from rfl,q2,a1w,q3,q4]
     by_cases w1:b.le (a1T ps)
     ·rw [decide_eq_true w1]
      simp -implicitDefEqProofs only [↓reduceIte,eq_self,ZF,ZG,ZH,ZI,ZJ,ZK,ZL,ZM,ZN,ZO,ZP,ZQ,ZR,ZS,ZT,ZU,ZV,ZW,ZX,ZY,Z2,Z3,Z4,Z5,Z6,Z7,Z8,Z9,Za,Zb,Zc,Zd,Ze,Zf,Zg,Zh,Nat.reduceAdd,Zi,if_true,if_false,Zl,Zm,Zn,Zo,Zp,Zq,Zr,Zs,Zt,Zu,Zv,Zw,Zx,Zy,Zz,ZA,ZB,ZC,ZD,ZE,q5,q6]
      by_cases w2:(b2g (shF ps ad).2 y.c b).le (shF ps ad).1
      ·rw [decide_eq_true w2,show (if b.le (a1T ps)/\(b2g (shF ps ad).2 y.c b).le (shF ps ad).1 then a5I ps (j:Int) b cs else 14)=a5I ps (j:Int) b cs from if_pos ⟨w1,w2⟩]
       simp -implicitDefEqProofs only [↓reduceIte,eq_self,ZF,ZG,ZH,ZI,ZJ,ZK,ZL,ZM,ZN,ZO,ZP,ZQ,ZR,ZS,ZT,ZU,ZV,ZW,ZX,ZY,Z2,Z3,Z4,Z5,Z6,Z7,Z8,Z9,Za,Zb,Zc,Zd,Ze,Zf,Zg,Zh,Nat.reduceAdd,Zi,if_true,if_false,Zl,Zm,Zn,Zo,Zp,Zq,Zr,Zs,Zt,Zu,Zv,Zw,Zx,Zy,Zz,ZA,ZB,ZC,ZD,ZE,c1,c2]
       exact q7
      ·rw [decide_eq_false w2,show (if b.le (a1T ps)/\(b2g (shF ps ad).2 y.c b).le (shF ps ad).1 then a5I ps (j:Int) b cs else 14)=14 from if_neg (fun h=>w2 h.2)]
       simp -implicitDefEqProofs only [↓reduceIte,eq_self,ZF,ZG,ZH,ZI,ZJ,ZK,ZL,ZM,ZN,ZO,ZP,ZQ,ZR,ZS,ZT,ZU,ZV,ZW,ZX,ZY,Z2,Z3,Z4,Z5,Z6,Z7,Z8,Z9,Za,Zb,Zc,Zd,Ze,Zf,Zg,Zh,Nat.reduceAdd,Zi,if_true,if_false,Zl,Zm,Zn,Zo,Zp,Zq,Zr,Zs,Zt,Zu,Zv,Zw,Zx,Zy,Zz,ZA,ZB,ZC,ZD,ZE,a0D,or_true]
     ·rw [decide_eq_false w1,show (if b.le (a1T ps)/\(b2g (shF ps ad).2 y.c b).le (shF ps ad).1 then a5I ps (j:Int) b cs else 14)=14 from if_neg (fun h=>w1 h.1)]
      simp -implicitDefEqProofs only [↓reduceIte,eq_self,ZF,ZG,ZH,ZI,ZJ,ZK,ZL,ZM,ZN,ZO,ZP,ZQ,ZR,ZS,ZT,ZU,ZV,ZW,ZX,ZY,Z2,Z3,Z4,Z5,Z6,Z7,Z8,Z9,Za,Zb,Zc,Zd,Ze,Zf,Zg,Zh,Nat.reduceAdd,Zi,if_true,if_false,Zl,Zm,Zn,Zo,Zp,Zq,Zr,Zs,Zt,Zu,Zv,Zw,Zx,Zy,Zz,ZA,ZB,ZC,ZD,ZE,a0D,or_true]
    ·have hb:a4u b=4:=by unfold a4u; rw [if_neg hw]
     rw [if_neg hw,hb]
     simp -implicitDefEqProofs only [↓reduceIte,eq_self,ZF,ZG,ZH,ZI,ZJ,ZK,ZL,ZM,ZN,ZO,ZP,ZQ,ZR,ZS,ZT,ZU,ZV,ZW,ZX,ZY,Z2,Z3,Z4,Z5,Z6,Z7,Z8,Z9,Za,Zb,Zc,Zd,Ze,Zf,Zg,Zh,Nat.reduceAdd,Zi,if_true,if_false,Zl,Zm,Zn,Zo,Zp,Zq,Zr,Zs,Zt,Zu,Zv,Zw,Zx,Zy,Zz,ZA,ZB,ZC,ZD,ZE,show eqB 4 0=false from rfl,a0D,or_true]
 rw [hv] at k1
 simp only [a7P,b0a,W6.pv] at k1 k2
 rw [a0B]
 simp only [b4r,Q0,Sys.run,W6.pv]
 show ((a0E [.sh (.agg [_,_,_,_]),.sh (.one _),.sh (.agg [_,_,_,_,_,_])] _).bind _)=_
 simp -implicitDefEqProofs only [a0E,a0x,a0w,Q4,Q0,Q5,Q6,Q7,if_true,p3,b3,c3,a3]
 show (PT.ev _ a6J _).bind _=_
 simp -implicitDefEqProofs only [a6J,↓reduceIte,eq_self,ZF,ZG,ZH,ZI,ZJ,ZK,ZL,ZM,ZN,ZO,ZP,ZQ,ZR,ZS,ZT,ZU,ZV,ZW,ZX,ZY,Z2,Z3,Z4,Z5,Z6,Z7,Z8,Z9,Za,Zb,Zc,Zd,Ze,Zf,Zg,Zh,Nat.reduceAdd,Zi,if_true,if_false,Zl,Zm,Zn,Zo,Zp,Zq,Zr,Zs,Zt,Zu,Zv,Zw,Zx,Zy,Zz,ZA,ZB,ZC,ZD,ZE,k1,k2,show eqB 0 0=true from rfl,a0D,or_true]
end
end Go.Proofs.Ytflcopaopimlpaa
set_option maxRecDepth 100000
namespace Go.Proofs.Ytflcopaopimlpaa
open Go.Sx
section
variable (σ:List MO) (bs:List Bd) (P B C A:PV) (hB:B.rowsOf 4=some (bs.map Bd.row)) (n:Nat)
def a3U (σ:List MO) (P B C A:PV) (i k:Int) (b o c s:W6):PEnv:={ i:=[i,k,b.a,b.b,b.c,b.d,b.e,b.f,o.a,o.b,o.c,o.d,o.e,o.f,c.a,c.b,c.c,c.d,c.e,c.f,s.a,s.b,s.c,s.d,s.e,s.f],b:=[],v:=[P,B,C,A],m:=σ,k:=σ.length }
include hB in
theorem c5k {i:Nat} {y:Bd} (hy:bs[i]?=some y) (b o c s:W6) (fuel:Nat) :
  saleroomref10_Allowed_S.loop (a0B Tab n) (fuel+1) 0 (a3U σ P B C A (i:Int) 0 b o c s)=if hit c.a y.c b.a o.a s.a=true then some (.int .i64 14,σ) else saleroomref10_Allowed_S.loop (a0B Tab n) fuel 0 (a3U σ P B C A (i:Int) 1 b o c s):=by
 obtain ⟨b1,b2,b3⟩:=a0C hB
 rw [Q2] at b1
 have h0:=a0G (off:=1) hB (a1J hy)
 have e5:∀ a b:Int,eqB a b=decide (a=b):=fun _ _=>rfl
 have e6:∀ a b:Int,ltB a b=decide (a < b):=fun _ _=>rfl
 have hd':decide ((i:Int) < (bs.length:Int))=true:=decide_eq_true (by have:=(Q3.1 hy).1; omega)
 obtain ⟨d1,d2,d3⟩:=bdr (.str y.nm) (.int .i64 y.c) (.int .i64 y.b) (.int .i64 y.p)
 rw [Sys.loop,show saleroomref10_Allowed_S.loops[0]?=some a0O from rfl]
 simp only [a3U,hit,e5,e6]
 simp -implicitDefEqProofs only [Q0,a0O,↓reduceIte,eq_self,ZF,ZG,ZH,ZI,ZJ,ZK,ZL,ZM,ZN,ZO,ZP,ZQ,ZR,ZS,ZT,ZU,ZV,ZW,ZX,ZY,Z2,Z3,Z4,Z5,Z6,Z7,Z8,Z9,Za,Zb,Zc,Zd,Ze,Zf,Zg,Zh,Nat.reduceAdd,Zi,if_true,if_false,Zl,Zm,Zn,Zo,Zp,Zq,Zr,Zs,Zt,Zu,Zv,Zw,Zx,Zy,Zz,ZA,ZB,ZC,ZD,ZE,e5,e6,Int.reduceEq,Int.reduceLT,decide_true,decide_false,Nat.reduceLeDiff]
 cases decide (s.a < b.a) with
 | true=>simp -implicitDefEqProofs only [↓reduceIte,eq_self,ZF,ZG,ZH,ZI,ZJ,ZK,ZL,ZM,ZN,ZO,ZP,ZQ,ZR,ZS,ZT,ZU,ZV,ZW,ZX,ZY,Z2,Z3,Z4,Z5,Z6,Z7,Z8,Z9,Za,Zb,Zc,Zd,Ze,Zf,Zg,Zh,Nat.reduceAdd,Zi,if_true,if_false,Zl,Zm,Zn,Zo,Zp,Zq,Zr,Zs,Zt,Zu,Zv,Zw,Zx,Zy,Zz,ZA,ZB,ZC,ZD,ZE,Qf,if_true,a0D,or_true]
 | false =>
  simp -implicitDefEqProofs only [↓reduceIte,eq_self,ZF,ZG,ZH,ZI,ZJ,ZK,ZL,ZM,ZN,ZO,ZP,ZQ,ZR,ZS,ZT,ZU,ZV,ZW,ZX,ZY,Z2,Z3,Z4,Z5,Z6,Z7,Z8,Z9,Za,Zb,Zc,Zd,Ze,Zf,Zg,Zh,Nat.reduceAdd,Zi,if_true,if_false,Zl,Zm,Zn,Zo,Zp,Zq,Zr,Zs,Zt,Zu,Zv,Zw,Zx,Zy,Zz,ZA,ZB,ZC,ZD,ZE,Qg]
  cases decide (c.a=0) with
  | true=>simp -implicitDefEqProofs only [↓reduceIte,eq_self,ZF,ZG,ZH,ZI,ZJ,ZK,ZL,ZM,ZN,ZO,ZP,ZQ,ZR,ZS,ZT,ZU,ZV,ZW,ZX,ZY,Z2,Z3,Z4,Z5,Z6,Z7,Z8,Z9,Za,Zb,Zc,Zd,Ze,Zf,Zg,Zh,Nat.reduceAdd,Zi,if_true,if_false,Zl,Zm,Zn,Zo,Zp,Zq,Zr,Zs,Zt,Zu,Zv,Zw,Zx,Zy,Zz,ZA,ZB,ZC,ZD,ZE,Q8,Q9,Q1,if_false]
  | false =>
   simp -implicitDefEqProofs only [↓reduceIte,eq_self,ZF,ZG,ZH,ZI,ZJ,ZK,ZL,ZM,ZN,ZO,ZP,ZQ,ZR,ZS,ZT,ZU,ZV,ZW,ZX,ZY,Z2,Z3,Z4,Z5,Z6,Z7,Z8,Z9,Za,Zb,Zc,Zd,Ze,Zf,Zg,Zh,Nat.reduceAdd,Zi,if_true,if_false,Zl,Zm,Zn,Zo,Zp,Zq,Zr,Zs,Zt,Zu,Zv,Zw,Zx,Zy,Zz,ZA,ZB,ZC,ZD,ZE,e6,b1,le0,hd',h0,a1o,d1,e5,Nat.reduceLeDiff,Qa,Qb]
   cases decide (c.a=y.c) with
   | true=>simp -implicitDefEqProofs only [↓reduceIte,eq_self,ZF,ZG,ZH,ZI,ZJ,ZK,ZL,ZM,ZN,ZO,ZP,ZQ,ZR,ZS,ZT,ZU,ZV,ZW,ZX,ZY,Z2,Z3,Z4,Z5,Z6,Z7,Z8,Z9,Za,Zb,Zc,Zd,Ze,Zf,Zg,Zh,Nat.reduceAdd,Zi,if_true,if_false,Zl,Zm,Zn,Zo,Zp,Zq,Zr,Zs,Zt,Zu,Zv,Zw,Zx,Zy,Zz,ZA,ZB,ZC,ZD,ZE,Q8,Q9,Q1,if_false]
   | false =>
    simp -implicitDefEqProofs only [↓reduceIte,eq_self,ZF,ZG,ZH,ZI,ZJ,ZK,ZL,ZM,ZN,ZO,ZP,ZQ,ZR,ZS,ZT,ZU,ZV,ZW,ZX,ZY,Z2,Z3,Z4,Z5,Z6,Z7,Z8,Z9,Za,Zb,Zc,Zd,Ze,Zf,Zg,Zh,Nat.reduceAdd,Zi,if_true,if_false,Zl,Zm,Zn,Zo,Zp,Zq,Zr,Zs,Zt,Zu,Zv,Zw,Zx,Zy,Zz,ZA,ZB,ZC,ZD,ZE,Qa,Qb]
    cases decide (o.a < b.a)<;>simp -implicitDefEqProofs only [↓reduceIte,eq_self,ZF,ZG,ZH,ZI,ZJ,ZK,ZL,ZM,ZN,ZO,ZP,ZQ,ZR,ZS,ZT,ZU,ZV,ZW,ZX,ZY,Z2,Z3,Z4,Z5,Z6,Z7,Z8,Z9,Za,Zb,Zc,Zd,Ze,Zf,Zg,Zh,Nat.reduceAdd,Zi,if_true,if_false,Zl,Zm,Zn,Zo,Zp,Zq,Zr,Zs,Zt,Zu,Zv,Zw,Zx,Zy,Zz,ZA,ZB,ZC,ZD,ZE,Q1,if_false,if_true,a0D,or_true]
include hB in
theorem c3L {i:Nat} {y:Bd} (hy:bs[i]?=some y) (b o c s:W6) (fuel:Nat) :
  saleroomref10_Allowed_S.loop (a0B Tab n) (fuel+1) 0 (a3U σ P B C A (i:Int) 1 b o c s)=if hit c.b y.c b.b o.b s.b=true then some (.int .i64 14,σ) else saleroomref10_Allowed_S.loop (a0B Tab n) fuel 0 (a3U σ P B C A (i:Int) 2 b o c s):=by
 obtain ⟨b1,b2,b3⟩:=a0C hB
 rw [Q2] at b1
 have h0:=a0G (off:=1) hB (a1J hy)
 have e5:∀ a b:Int,eqB a b=decide (a=b):=fun _ _=>rfl
 have e6:∀ a b:Int,ltB a b=decide (a < b):=fun _ _=>rfl
 have hd':decide ((i:Int) < (bs.length:Int))=true:=decide_eq_true (by have:=(Q3.1 hy).1; omega)
 obtain ⟨d1,d2,d3⟩:=bdr (.str y.nm) (.int .i64 y.c) (.int .i64 y.b) (.int .i64 y.p)
 rw [Sys.loop,show saleroomref10_Allowed_S.loops[0]?=some a0O from rfl]
 simp only [a3U,hit,e5,e6]
 simp -implicitDefEqProofs only [Q0,a0O,↓reduceIte,eq_self,ZF,ZG,ZH,ZI,ZJ,ZK,ZL,ZM,ZN,ZO,ZP,ZQ,ZR,ZS,ZT,ZU,ZV,ZW,ZX,ZY,Z2,Z3,Z4,Z5,Z6,Z7,Z8,Z9,Za,Zb,Zc,Zd,Ze,Zf,Zg,Zh,Nat.reduceAdd,Zi,if_true,if_false,Zl,Zm,Zn,Zo,Zp,Zq,Zr,Zs,Zt,Zu,Zv,Zw,Zx,Zy,Zz,ZA,ZB,ZC,ZD,ZE,e5,e6,Int.reduceEq,Int.reduceLT,decide_true,decide_false,Nat.reduceLeDiff]
 cases decide (s.b < b.b) with
 | true=>simp -implicitDefEqProofs only [↓reduceIte,eq_self,ZF,ZG,ZH,ZI,ZJ,ZK,ZL,ZM,ZN,ZO,ZP,ZQ,ZR,ZS,ZT,ZU,ZV,ZW,ZX,ZY,Z2,Z3,Z4,Z5,Z6,Z7,Z8,Z9,Za,Zb,Zc,Zd,Ze,Zf,Zg,Zh,Nat.reduceAdd,Zi,if_true,if_false,Zl,Zm,Zn,Zo,Zp,Zq,Zr,Zs,Zt,Zu,Zv,Zw,Zx,Zy,Zz,ZA,ZB,ZC,ZD,ZE,Qf,if_true,a0D,or_true]
 | false =>
  simp -implicitDefEqProofs only [↓reduceIte,eq_self,ZF,ZG,ZH,ZI,ZJ,ZK,ZL,ZM,ZN,ZO,ZP,ZQ,ZR,ZS,ZT,ZU,ZV,ZW,ZX,ZY,Z2,Z3,Z4,Z5,Z6,Z7,Z8,Z9,Za,Zb,Zc,Zd,Ze,Zf,Zg,Zh,Nat.reduceAdd,Zi,if_true,if_false,Zl,Zm,Zn,Zo,Zp,Zq,Zr,Zs,Zt,Zu,Zv,Zw,Zx,Zy,Zz,ZA,ZB,ZC,ZD,ZE,Qg]
  cases decide (c.b=0) with
  | true=>simp -implicitDefEqProofs only [↓reduceIte,eq_self,ZF,ZG,ZH,ZI,ZJ,ZK,ZL,ZM,ZN,ZO,ZP,ZQ,ZR,ZS,ZT,ZU,ZV,ZW,ZX,ZY,Z2,Z3,Z4,Z5,Z6,Z7,Z8,Z9,Za,Zb,Zc,Zd,Ze,Zf,Zg,Zh,Nat.reduceAdd,Zi,if_true,if_false,Zl,Zm,Zn,Zo,Zp,Zq,Zr,Zs,Zt,Zu,Zv,Zw,Zx,Zy,Zz,ZA,ZB,ZC,ZD,ZE,Q8,Q9,Q1,if_false]
  | false =>
   simp -implicitDefEqProofs only [↓reduceIte,eq_self,ZF,ZG,ZH,ZI,ZJ,ZK,ZL,ZM,ZN,ZO,ZP,ZQ,ZR,ZS,ZT,ZU,ZV,ZW,ZX,ZY,Z2,Z3,Z4,Z5,Z6,Z7,Z8,Z9,Za,Zb,Zc,Zd,Ze,Zf,Zg,Zh,Nat.reduceAdd,Zi,if_true,if_false,Zl,Zm,Zn,Zo,Zp,Zq,Zr,Zs,Zt,Zu,Zv,Zw,Zx,Zy,Zz,ZA,ZB,ZC,ZD,ZE,e6,b1,le0,hd',h0,a1o,d1,e5,Nat.reduceLeDiff,Qa,Qb]
   cases decide (c.b=y.c) with
   | true=>simp -implicitDefEqProofs only [↓reduceIte,eq_self,ZF,ZG,ZH,ZI,ZJ,ZK,ZL,ZM,ZN,ZO,ZP,ZQ,ZR,ZS,ZT,ZU,ZV,ZW,ZX,ZY,Z2,Z3,Z4,Z5,Z6,Z7,Z8,Z9,Za,Zb,Zc,Zd,Ze,Zf,Zg,Zh,Nat.reduceAdd,Zi,if_true,if_false,Zl,Zm,Zn,Zo,Zp,Zq,Zr,Zs,Zt,Zu,Zv,Zw,Zx,Zy,Zz,ZA,ZB,ZC,ZD,ZE,Q8,Q9,Q1,if_false]
   | false =>
    simp -implicitDefEqProofs only [↓reduceIte,eq_self,ZF,ZG,ZH,ZI,ZJ,ZK,ZL,ZM,ZN,ZO,ZP,ZQ,ZR,ZS,ZT,ZU,ZV,ZW,ZX,ZY,Z2,Z3,Z4,Z5,Z6,Z7,Z8,Z9,Za,Zb,Zc,Zd,Ze,Zf,Zg,Zh,Nat.reduceAdd,Zi,if_true,if_false,Zl,Zm,Zn,Zo,Zp,Zq,Zr,Zs,Zt,Zu,Zv,Zw,Zx,Zy,Zz,ZA,ZB,ZC,ZD,ZE,Qa,Qb]
    cases decide (o.b < b.b)<;>simp -implicitDefEqProofs only [↓reduceIte,eq_self,ZF,ZG,ZH,ZI,ZJ,ZK,ZL,ZM,ZN,ZO,ZP,ZQ,ZR,ZS,ZT,ZU,ZV,ZW,ZX,ZY,Z2,Z3,Z4,Z5,Z6,Z7,Z8,Z9,Za,Zb,Zc,Zd,Ze,Zf,Zg,Zh,Nat.reduceAdd,Zi,if_true,if_false,Zl,Zm,Zn,Zo,Zp,Zq,Zr,Zs,Zt,Zu,Zv,Zw,Zx,Zy,Zz,ZA,ZB,ZC,ZD,ZE,Q1,if_false,if_true,a0D,or_true]
include hB in
theorem c3I {i:Nat} {y:Bd} (hy:bs[i]?=some y) (b o c s:W6) (fuel:Nat) :
  saleroomref10_Allowed_S.loop (a0B Tab n) (fuel+1) 0 (a3U σ P B C A (i:Int) 2 b o c s)=if hit c.c y.c b.c o.c s.c=true then some (.int .i64 14,σ) else saleroomref10_Allowed_S.loop (a0B Tab n) fuel 0 (a3U σ P B C A (i:Int) 3 b o c s):=by
 obtain ⟨b1,b2,b3⟩:=a0C hB
 rw [Q2] at b1
 have h0:=a0G (off:=1) hB (a1J hy)
 have e5:∀ a b:Int,eqB a b=decide (a=b):=fun _ _=>rfl
 have e6:∀ a b:Int,ltB a b=decide (a < b):=fun _ _=>rfl
 have hd':decide ((i:Int) < (bs.length:Int))=true:=decide_eq_true (by have:=(Q3.1 hy).1; omega)
 obtain ⟨d1,d2,d3⟩:=bdr (.str y.nm) (.int .i64 y.c) (.int .i64 y.b) (.int .i64 y.p)
 rw [Sys.loop,show saleroomref10_Allowed_S.loops[0]?=some a0O from rfl]
 simp only [a3U,hit,e5,e6]
 simp -implicitDefEqProofs only [Q0,a0O,↓reduceIte,eq_self,ZF,ZG,ZH,ZI,ZJ,ZK,ZL,ZM,ZN,ZO,ZP,ZQ,ZR,ZS,ZT,ZU,ZV,ZW,ZX,ZY,Z2,Z3,Z4,Z5,Z6,Z7,Z8,Z9,Za,Zb,Zc,Zd,Ze,Zf,Zg,Zh,Nat.reduceAdd,Zi,if_true,if_false,Zl,Zm,Zn,Zo,Zp,Zq,Zr,Zs,Zt,Zu,Zv,Zw,Zx,Zy,Zz,ZA,ZB,ZC,ZD,ZE,e5,e6,Int.reduceEq,Int.reduceLT,decide_true,decide_false,Nat.reduceLeDiff]
 cases decide (s.c < b.c) with
 | true=>simp -implicitDefEqProofs only [↓reduceIte,eq_self,ZF,ZG,ZH,ZI,ZJ,ZK,ZL,ZM,ZN,ZO,ZP,ZQ,ZR,ZS,ZT,ZU,ZV,ZW,ZX,ZY,Z2,Z3,Z4,Z5,Z6,Z7,Z8,Z9,Za,Zb,Zc,Zd,Ze,Zf,Zg,Zh,Nat.reduceAdd,Zi,if_true,if_false,Zl,Zm,Zn,Zo,Zp,Zq,Zr,Zs,Zt,Zu,Zv,Zw,Zx,Zy,Zz,ZA,ZB,ZC,ZD,ZE,Qf,if_true,a0D,or_true]
 | false =>
  simp -implicitDefEqProofs only [↓reduceIte,eq_self,ZF,ZG,ZH,ZI,ZJ,ZK,ZL,ZM,ZN,ZO,ZP,ZQ,ZR,ZS,ZT,ZU,ZV,ZW,ZX,ZY,Z2,Z3,Z4,Z5,Z6,Z7,Z8,Z9,Za,Zb,Zc,Zd,Ze,Zf,Zg,Zh,Nat.reduceAdd,Zi,if_true,if_false,Zl,Zm,Zn,Zo,Zp,Zq,Zr,Zs,Zt,Zu,Zv,Zw,Zx,Zy,Zz,ZA,ZB,ZC,ZD,ZE,Qg]
  cases decide (c.c=0) with
  | true=>simp -implicitDefEqProofs only [↓reduceIte,eq_self,ZF,ZG,ZH,ZI,ZJ,ZK,ZL,ZM,ZN,ZO,ZP,ZQ,ZR,ZS,ZT,ZU,ZV,ZW,ZX,ZY,Z2,Z3,Z4,Z5,Z6,Z7,Z8,Z9,Za,Zb,Zc,Zd,Ze,Zf,Zg,Zh,Nat.reduceAdd,Zi,if_true,if_false,Zl,Zm,Zn,Zo,Zp,Zq,Zr,Zs,Zt,Zu,Zv,Zw,Zx,Zy,Zz,ZA,ZB,ZC,ZD,ZE,Q8,Q9,Q1,if_false]
  | false =>
   simp -implicitDefEqProofs only [↓reduceIte,eq_self,ZF,ZG,ZH,ZI,ZJ,ZK,ZL,ZM,ZN,ZO,ZP,ZQ,ZR,ZS,ZT,ZU,ZV,ZW,ZX,ZY,Z2,Z3,Z4,Z5,Z6,Z7,Z8,Z9,Za,Zb,Zc,Zd,Ze,Zf,Zg,Zh,Nat.reduceAdd,Zi,if_true,if_false,Zl,Zm,Zn,Zo,Zp,Zq,Zr,Zs,Zt,Zu,Zv,Zw,Zx,Zy,Zz,ZA,ZB,ZC,ZD,ZE,e6,b1,le0,hd',h0,a1o,d1,e5,Nat.reduceLeDiff,Qa,Qb]
   cases decide (c.c=y.c) with
   | true=>simp -implicitDefEqProofs only [↓reduceIte,eq_self,ZF,ZG,ZH,ZI,ZJ,ZK,ZL,ZM,ZN,ZO,ZP,ZQ,ZR,ZS,ZT,ZU,ZV,ZW,ZX,ZY,Z2,Z3,Z4,Z5,Z6,Z7,Z8,Z9,Za,Zb,Zc,Zd,Ze,Zf,Zg,Zh,Nat.reduceAdd,Zi,if_true,if_false,Zl,Zm,Zn,Zo,Zp,Zq,Zr,Zs,Zt,Zu,Zv,Zw,Zx,Zy,Zz,ZA,ZB,ZC,ZD,ZE,Q8,Q9,Q1,if_false]
   | false =>
    simp -implicitDefEqProofs only [↓reduceIte,eq_self,ZF,ZG,ZH,ZI,ZJ,ZK,ZL,ZM,ZN,ZO,ZP,ZQ,ZR,ZS,ZT,ZU,ZV,ZW,ZX,ZY,Z2,Z3,Z4,Z5,Z6,Z7,Z8,Z9,Za,Zb,Zc,Zd,Ze,Zf,Zg,Zh,Nat.reduceAdd,Zi,if_true,if_false,Zl,Zm,Zn,Zo,Zp,Zq,Zr,Zs,Zt,Zu,Zv,Zw,Zx,Zy,Zz,ZA,ZB,ZC,ZD,ZE,Qa,Qb]
    cases decide (o.c < b.c)<;>simp -implicitDefEqProofs only [↓reduceIte,eq_self,ZF,ZG,ZH,ZI,ZJ,ZK,ZL,ZM,ZN,ZO,ZP,ZQ,ZR,ZS,ZT,ZU,ZV,ZW,ZX,ZY,Z2,Z3,Z4,Z5,Z6,Z7,Z8,Z9,Za,Zb,Zc,Zd,Ze,Zf,Zg,Zh,Nat.reduceAdd,Zi,if_true,if_false,Zl,Zm,Zn,Zo,Zp,Zq,Zr,Zs,Zt,Zu,Zv,Zw,Zx,Zy,Zz,ZA,ZB,ZC,ZD,ZE,Q1,if_false,if_true,a0D,or_true]
include hB in
theorem c5m {i:Nat} {y:Bd} (hy:bs[i]?=some y) (b o c s:W6) (fuel:Nat) :
  saleroomref10_Allowed_S.loop (a0B Tab n) (fuel+1) 0 (a3U σ P B C A (i:Int) 3 b o c s)=if hit c.d y.c b.d o.d s.d=true then some (.int .i64 14,σ) else saleroomref10_Allowed_S.loop (a0B Tab n) fuel 0 (a3U σ P B C A (i:Int) 4 b o c s):=by
 obtain ⟨b1,b2,b3⟩:=a0C hB
 rw [Q2] at b1
 have h0:=a0G (off:=1) hB (a1J hy)
 have e5:∀ a b:Int,eqB a b=decide (a=b):=fun _ _=>rfl
 have e6:∀ a b:Int,ltB a b=decide (a < b):=fun _ _=>rfl
 have hd':decide ((i:Int) < (bs.length:Int))=true:=decide_eq_true (by have:=(Q3.1 hy).1; omega)
 obtain ⟨d1,d2,d3⟩:=bdr (.str y.nm) (.int .i64 y.c) (.int .i64 y.b) (.int .i64 y.p)
 rw [Sys.loop,show saleroomref10_Allowed_S.loops[0]?=some a0O from rfl]
 simp only [a3U,hit,e5,e6]
 simp -implicitDefEqProofs only [Q0,a0O,↓reduceIte,eq_self,ZF,ZG,ZH,ZI,ZJ,ZK,ZL,ZM,ZN,ZO,ZP,ZQ,ZR,ZS,ZT,ZU,ZV,ZW,ZX,ZY,Z2,Z3,Z4,Z5,Z6,Z7,Z8,Z9,Za,Zb,Zc,Zd,Ze,Zf,Zg,Zh,Nat.reduceAdd,Zi,if_true,if_false,Zl,Zm,Zn,Zo,Zp,Zq,Zr,Zs,Zt,Zu,Zv,Zw,Zx,Zy,Zz,ZA,ZB,ZC,ZD,ZE,e5,e6,Int.reduceEq,Int.reduceLT,decide_true,decide_false,Nat.reduceLeDiff]
 cases decide (s.d < b.d) with
 | true=>simp -implicitDefEqProofs only [↓reduceIte,eq_self,ZF,ZG,ZH,ZI,ZJ,ZK,ZL,ZM,ZN,ZO,ZP,ZQ,ZR,ZS,ZT,ZU,ZV,ZW,ZX,ZY,Z2,Z3,Z4,Z5,Z6,Z7,Z8,Z9,Za,Zb,Zc,Zd,Ze,Zf,Zg,Zh,Nat.reduceAdd,Zi,if_true,if_false,Zl,Zm,Zn,Zo,Zp,Zq,Zr,Zs,Zt,Zu,Zv,Zw,Zx,Zy,Zz,ZA,ZB,ZC,ZD,ZE,Qf,if_true,a0D,or_true]
 | false =>
  simp -implicitDefEqProofs only [↓reduceIte,eq_self,ZF,ZG,ZH,ZI,ZJ,ZK,ZL,ZM,ZN,ZO,ZP,ZQ,ZR,ZS,ZT,ZU,ZV,ZW,ZX,ZY,Z2,Z3,Z4,Z5,Z6,Z7,Z8,Z9,Za,Zb,Zc,Zd,Ze,Zf,Zg,Zh,Nat.reduceAdd,Zi,if_true,if_false,Zl,Zm,Zn,Zo,Zp,Zq,Zr,Zs,Zt,Zu,Zv,Zw,Zx,Zy,Zz,ZA,ZB,ZC,ZD,ZE,Qg]
  cases decide (c.d=0) with
  | true=>simp -implicitDefEqProofs only [↓reduceIte,eq_self,ZF,ZG,ZH,ZI,ZJ,ZK,ZL,ZM,ZN,ZO,ZP,ZQ,ZR,ZS,ZT,ZU,ZV,ZW,ZX,ZY,Z2,Z3,Z4,Z5,Z6,Z7,Z8,Z9,Za,Zb,Zc,Zd,Ze,Zf,Zg,Zh,Nat.reduceAdd,Zi,if_true,if_false,Zl,Zm,Zn,Zo,Zp,Zq,Zr,Zs,Zt,Zu,Zv,Zw,Zx,Zy,Zz,ZA,ZB,ZC,ZD,ZE,Q8,Q9,Q1,if_false]
  | false =>
   simp -implicitDefEqProofs only [↓reduceIte,eq_self,ZF,ZG,ZH,ZI,ZJ,ZK,ZL,ZM,ZN,ZO,ZP,ZQ,ZR,ZS,ZT,ZU,ZV,ZW,ZX,ZY,Z2,Z3,Z4,Z5,Z6,Z7,Z8,Z9,Za,Zb,Zc,Zd,Ze,Zf,Zg,Zh,Nat.reduceAdd,Zi,if_true,if_false,Zl,Zm,Zn,Zo,Zp,Zq,Zr,Zs,Zt,Zu,Zv,Zw,Zx,Zy,Zz,ZA,ZB,ZC,ZD,ZE,e6,b1,le0,hd',h0,a1o,d1,e5,Nat.reduceLeDiff,Qa,Qb]
   cases decide (c.d=y.c) with
   | true=>simp -implicitDefEqProofs only [↓reduceIte,eq_self,ZF,ZG,ZH,ZI,ZJ,ZK,ZL,ZM,ZN,ZO,ZP,ZQ,ZR,ZS,ZT,ZU,ZV,ZW,ZX,ZY,Z2,Z3,Z4,Z5,Z6,Z7,Z8,Z9,Za,Zb,Zc,Zd,Ze,Zf,Zg,Zh,Nat.reduceAdd,Zi,if_true,if_false,Zl,Zm,Zn,Zo,Zp,Zq,Zr,Zs,Zt,Zu,Zv,Zw,Zx,Zy,Zz,ZA,ZB,ZC,ZD,ZE,Q8,Q9,Q1,if_false]
   | false =>
    simp -implicitDefEqProofs only [↓reduceIte,eq_self,ZF,ZG,ZH,ZI,ZJ,ZK,ZL,ZM,ZN,ZO,ZP,ZQ,ZR,ZS,ZT,ZU,ZV,ZW,ZX,ZY,Z2,Z3,Z4,Z5,Z6,Z7,Z8,Z9,Za,Zb,Zc,Zd,Ze,Zf,Zg,Zh,Nat.reduceAdd,Zi,if_true,if_false,Zl,Zm,Zn,Zo,Zp,Zq,Zr,Zs,Zt,Zu,Zv,Zw,Zx,Zy,Zz,ZA,ZB,ZC,ZD,ZE,Qa,Qb]
    cases decide (o.d < b.d)<;>simp -implicitDefEqProofs only [↓reduceIte,eq_self,ZF,ZG,ZH,ZI,ZJ,ZK,ZL,ZM,ZN,ZO,ZP,ZQ,ZR,ZS,ZT,ZU,ZV,ZW,ZX,ZY,Z2,Z3,Z4,Z5,Z6,Z7,Z8,Z9,Za,Zb,Zc,Zd,Ze,Zf,Zg,Zh,Nat.reduceAdd,Zi,if_true,if_false,Zl,Zm,Zn,Zo,Zp,Zq,Zr,Zs,Zt,Zu,Zv,Zw,Zx,Zy,Zz,ZA,ZB,ZC,ZD,ZE,Q1,if_false,if_true,a0D,or_true]
include hB in
theorem c4S {i:Nat} {y:Bd} (hy:bs[i]?=some y) (b o c s:W6) (fuel:Nat) :
  saleroomref10_Allowed_S.loop (a0B Tab n) (fuel+1) 0 (a3U σ P B C A (i:Int) 4 b o c s)=if hit c.e y.c b.e o.e s.e=true then some (.int .i64 14,σ) else saleroomref10_Allowed_S.loop (a0B Tab n) fuel 0 (a3U σ P B C A (i:Int) 5 b o c s):=by
 obtain ⟨b1,b2,b3⟩:=a0C hB
 rw [Q2] at b1
 have h0:=a0G (off:=1) hB (a1J hy)
 have e5:∀ a b:Int,eqB a b=decide (a=b):=fun _ _=>rfl
 have e6:∀ a b:Int,ltB a b=decide (a < b):=fun _ _=>rfl
 have hd':decide ((i:Int) < (bs.length:Int))=true:=decide_eq_true (by have:=(Q3.1 hy).1; omega)
 obtain ⟨d1,d2,d3⟩:=bdr (.str y.nm) (.int .i64 y.c) (.int .i64 y.b) (.int .i64 y.p)
 rw [Sys.loop,show saleroomref10_Allowed_S.loops[0]?=some a0O from rfl]
 simp only [a3U,hit,e5,e6]
 simp -implicitDefEqProofs only [Q0,a0O,↓reduceIte,eq_self,ZF,ZG,ZH,ZI,ZJ,ZK,ZL,ZM,ZN,ZO,ZP,ZQ,ZR,ZS,ZT,ZU,ZV,ZW,ZX,ZY,Z2,Z3,Z4,Z5,Z6,Z7,Z8,Z9,Za,Zb,Zc,Zd,Ze,Zf,Zg,Zh,Nat.reduceAdd,Zi,if_true,if_false,Zl,Zm,Zn,Zo,Zp,Zq,Zr,Zs,Zt,Zu,Zv,Zw,Zx,Zy,Zz,ZA,ZB,ZC,ZD,ZE,e5,e6,Int.reduceEq,Int.reduceLT,decide_true,decide_false,Nat.reduceLeDiff]
 cases decide (s.e < b.e) with
 | true=>simp -implicitDefEqProofs only [↓reduceIte,eq_self,ZF,ZG,ZH,ZI,ZJ,ZK,ZL,ZM,ZN,ZO,ZP,ZQ,ZR,ZS,ZT,ZU,ZV,ZW,ZX,ZY,Z2,Z3,Z4,Z5,Z6,Z7,Z8,Z9,Za,Zb,Zc,Zd,Ze,Zf,Zg,Zh,Nat.reduceAdd,Zi,if_true,if_false,Zl,Zm,Zn,Zo,Zp,Zq,Zr,Zs,Zt,Zu,Zv,Zw,Zx,Zy,Zz,ZA,ZB,ZC,ZD,ZE,Qf,if_true,a0D,or_true]
 | false =>
  simp -implicitDefEqProofs only [↓reduceIte,eq_self,ZF,ZG,ZH,ZI,ZJ,ZK,ZL,ZM,ZN,ZO,ZP,ZQ,ZR,ZS,ZT,ZU,ZV,ZW,ZX,ZY,Z2,Z3,Z4,Z5,Z6,Z7,Z8,Z9,Za,Zb,Zc,Zd,Ze,Zf,Zg,Zh,Nat.reduceAdd,Zi,if_true,if_false,Zl,Zm,Zn,Zo,Zp,Zq,Zr,Zs,Zt,Zu,Zv,Zw,Zx,Zy,Zz,ZA,ZB,ZC,ZD,ZE,Qg]
  cases decide (c.e=0) with
  | true=>simp -implicitDefEqProofs only [↓reduceIte,eq_self,ZF,ZG,ZH,ZI,ZJ,ZK,ZL,ZM,ZN,ZO,ZP,ZQ,ZR,ZS,ZT,ZU,ZV,ZW,ZX,ZY,Z2,Z3,Z4,Z5,Z6,Z7,Z8,Z9,Za,Zb,Zc,Zd,Ze,Zf,Zg,Zh,Nat.reduceAdd,Zi,if_true,if_false,Zl,Zm,Zn,Zo,Zp,Zq,Zr,Zs,Zt,Zu,Zv,Zw,Zx,Zy,Zz,ZA,ZB,ZC,ZD,ZE,Q8,Q9,Q1,if_false]
  | false =>
   simp -implicitDefEqProofs only [↓reduceIte,eq_self,ZF,ZG,ZH,ZI,ZJ,ZK,ZL,ZM,ZN,ZO,ZP,ZQ,ZR,ZS,ZT,ZU,ZV,ZW,ZX,ZY,Z2,Z3,Z4,Z5,Z6,Z7,Z8,Z9,Za,Zb,Zc,Zd,Ze,Zf,Zg,Zh,Nat.reduceAdd,Zi,if_true,if_false,Zl,Zm,Zn,Zo,Zp,Zq,Zr,Zs,Zt,Zu,Zv,Zw,Zx,Zy,Zz,ZA,ZB,ZC,ZD,ZE,e6,b1,le0,hd',h0,a1o,d1,e5,Nat.reduceLeDiff,Qa,Qb]
   cases decide (c.e=y.c) with
   | true=>simp -implicitDefEqProofs only [↓reduceIte,eq_self,ZF,ZG,ZH,ZI,ZJ,ZK,ZL,ZM,ZN,ZO,ZP,ZQ,ZR,ZS,ZT,ZU,ZV,ZW,ZX,ZY,Z2,Z3,Z4,Z5,Z6,Z7,Z8,Z9,Za,Zb,Zc,Zd,Ze,Zf,Zg,Zh,Nat.reduceAdd,Zi,if_true,if_false,Zl,Zm,Zn,Zo,Zp,Zq,Zr,Zs,Zt,Zu,Zv,Zw,Zx,Zy,Zz,ZA,ZB,ZC,ZD,ZE,Q8,Q9,Q1,if_false]
   | false =>
    simp -implicitDefEqProofs only [↓reduceIte,eq_self,ZF,ZG,ZH,ZI,ZJ,ZK,ZL,ZM,ZN,ZO,ZP,ZQ,ZR,ZS,ZT,ZU,ZV,ZW,ZX,ZY,Z2,Z3,Z4,Z5,Z6,Z7,Z8,Z9,Za,Zb,Zc,Zd,Ze,Zf,Zg,Zh,Nat.reduceAdd,Zi,if_true,if_false,Zl,Zm,Zn,Zo,Zp,Zq,Zr,Zs,Zt,Zu,Zv,Zw,Zx,Zy,Zz,ZA,ZB,ZC,ZD,ZE,Qa,Qb]
    cases decide (o.e < b.e)<;>simp -implicitDefEqProofs only [↓reduceIte,eq_self,ZF,ZG,ZH,ZI,ZJ,ZK,ZL,ZM,ZN,ZO,ZP,ZQ,ZR,ZS,ZT,ZU,ZV,ZW,ZX,ZY,Z2,Z3,Z4,Z5,Z6,Z7,Z8,Z9,Za,Zb,Zc,Zd,Ze,Zf,Zg,Zh,Nat.reduceAdd,Zi,if_true,if_false,Zl,Zm,Zn,Zo,Zp,Zq,Zr,Zs,Zt,Zu,Zv,Zw,Zx,Zy,Zz,ZA,ZB,ZC,ZD,ZE,Q1,if_false,if_true,a0D,or_true]
include hB in
theorem c4W {i:Nat} {y:Bd} (hy:bs[i]?=some y) (b o c s:W6) (fuel:Nat) :
  saleroomref10_Allowed_S.loop (a0B Tab n) (fuel+1) 0 (a3U σ P B C A (i:Int) 5 b o c s)=if hit c.f y.c b.f o.f s.f=true then some (.int .i64 14,σ) else saleroomref10_Allowed_S.loop (a0B Tab n) fuel 0 (a3U σ P B C A (i:Int) 6 b o c s):=by
 obtain ⟨b1,b2,b3⟩:=a0C hB
 rw [Q2] at b1
 have h0:=a0G (off:=1) hB (a1J hy)
 have e5:∀ a b:Int,eqB a b=decide (a=b):=fun _ _=>rfl
 have e6:∀ a b:Int,ltB a b=decide (a < b):=fun _ _=>rfl
 have hd':decide ((i:Int) < (bs.length:Int))=true:=decide_eq_true (by have:=(Q3.1 hy).1; omega)
 obtain ⟨d1,d2,d3⟩:=bdr (.str y.nm) (.int .i64 y.c) (.int .i64 y.b) (.int .i64 y.p)
 rw [Sys.loop,show saleroomref10_Allowed_S.loops[0]?=some a0O from rfl]
 simp only [a3U,hit,e5,e6]
 simp -implicitDefEqProofs only [Q0,a0O,↓reduceIte,eq_self,ZF,ZG,ZH,ZI,ZJ,ZK,ZL,ZM,ZN,ZO,ZP,ZQ,ZR,ZS,ZT,ZU,ZV,ZW,ZX,ZY,Z2,Z3,Z4,Z5,Z6,Z7,Z8,Z9,Za,Zb,Zc,Zd,Ze,Zf,Zg,Zh,Nat.reduceAdd,Zi,if_true,if_false,Zl,Zm,Zn,Zo,Zp,Zq,Zr,Zs,Zt,Zu,Zv,Zw,Zx,Zy,Zz,ZA,ZB,ZC,ZD,ZE,e5,e6,Int.reduceEq,Int.reduceLT,decide_true,decide_false,Nat.reduceLeDiff]
 cases decide (s.f < b.f) with
 | true=>simp -implicitDefEqProofs only [↓reduceIte,eq_self,ZF,ZG,ZH,ZI,ZJ,ZK,ZL,ZM,ZN,ZO,ZP,ZQ,ZR,ZS,ZT,ZU,ZV,ZW,ZX,ZY,Z2,Z3,Z4,Z5,Z6,Z7,Z8,Z9,Za,Zb,Zc,Zd,Ze,Zf,Zg,Zh,Nat.reduceAdd,Zi,if_true,if_false,Zl,Zm,Zn,Zo,Zp,Zq,Zr,Zs,Zt,Zu,Zv,Zw,Zx,Zy,Zz,ZA,ZB,ZC,ZD,ZE,Qf,if_true,a0D,or_true]
 | false =>
  simp -implicitDefEqProofs only [↓reduceIte,eq_self,ZF,ZG,ZH,ZI,ZJ,ZK,ZL,ZM,ZN,ZO,ZP,ZQ,ZR,ZS,ZT,ZU,ZV,ZW,ZX,ZY,Z2,Z3,Z4,Z5,Z6,Z7,Z8,Z9,Za,Zb,Zc,Zd,Ze,Zf,Zg,Zh,Nat.reduceAdd,Zi,if_true,if_false,Zl,Zm,Zn,Zo,Zp,Zq,Zr,Zs,Zt,Zu,Zv,Zw,Zx,Zy,Zz,ZA,ZB,ZC,ZD,ZE,Qg]
  cases decide (c.f=0) with
  | true=>simp -implicitDefEqProofs only [↓reduceIte,eq_self,ZF,ZG,ZH,ZI,ZJ,ZK,ZL,ZM,ZN,ZO,ZP,ZQ,ZR,ZS,ZT,ZU,ZV,ZW,ZX,ZY,Z2,Z3,Z4,Z5,Z6,Z7,Z8,Z9,Za,Zb,Zc,Zd,Ze,Zf,Zg,Zh,Nat.reduceAdd,Zi,if_true,if_false,Zl,Zm,Zn,Zo,Zp,Zq,Zr,Zs,Zt,Zu,Zv,Zw,Zx,Zy,Zz,ZA,ZB,ZC,ZD,ZE,Q8,Q9,Q1,if_false]
  | false =>
   simp -implicitDefEqProofs only [↓reduceIte,eq_self,ZF,ZG,ZH,ZI,ZJ,ZK,ZL,ZM,ZN,ZO,ZP,ZQ,ZR,ZS,ZT,ZU,ZV,ZW,ZX,ZY,Z2,Z3,Z4,Z5,Z6,Z7,Z8,Z9,Za,Zb,Zc,Zd,Ze,Zf,Zg,Zh,Nat.reduceAdd,Zi,if_true,if_false,Zl,Zm,Zn,Zo,Zp,Zq,Zr,Zs,Zt,Zu,Zv,Zw,Zx,Zy,Zz,ZA,ZB,ZC,ZD,ZE,e6,b1,le0,hd',h0,a1o,d1,e5,Nat.reduceLeDiff,Qa,Qb]
   cases decide (c.f=y.c) with
   | true=>simp -implicitDefEqProofs only [↓reduceIte,eq_self,ZF,ZG,ZH,ZI,ZJ,ZK,ZL,ZM,ZN,ZO,ZP,ZQ,ZR,ZS,ZT,ZU,ZV,ZW,ZX,ZY,Z2,Z3,Z4,Z5,Z6,Z7,Z8,Z9,Za,Zb,Zc,Zd,Ze,Zf,Zg,Zh,Nat.reduceAdd,Zi,if_true,if_false,Zl,Zm,Zn,Zo,Zp,Zq,Zr,Zs,Zt,Zu,Zv,Zw,Zx,Zy,Zz,ZA,ZB,ZC,ZD,ZE,Q8,Q9,Q1,if_false]
   | false =>
    simp -implicitDefEqProofs only [↓reduceIte,eq_self,ZF,ZG,ZH,ZI,ZJ,ZK,ZL,ZM,ZN,ZO,ZP,ZQ,ZR,ZS,ZT,ZU,ZV,ZW,ZX,ZY,Z2,Z3,Z4,Z5,Z6,Z7,Z8,Z9,Za,Zb,Zc,Zd,Ze,Zf,Zg,Zh,Nat.reduceAdd,Zi,if_true,if_false,Zl,Zm,Zn,Zo,Zp,Zq,Zr,Zs,Zt,Zu,Zv,Zw,Zx,Zy,Zz,ZA,ZB,ZC,ZD,ZE,Qa,Qb]
    cases decide (o.f < b.f)<;>simp -implicitDefEqProofs only [↓reduceIte,eq_self,ZF,ZG,ZH,ZI,ZJ,ZK,ZL,ZM,ZN,ZO,ZP,ZQ,ZR,ZS,ZT,ZU,ZV,ZW,ZX,ZY,Z2,Z3,Z4,Z5,Z6,Z7,Z8,Z9,Za,Zb,Zc,Zd,Ze,Zf,Zg,Zh,Nat.reduceAdd,Zi,if_true,if_false,Zl,Zm,Zn,Zo,Zp,Zq,Zr,Zs,Zt,Zu,Zv,Zw,Zx,Zy,Zz,ZA,ZB,ZC,ZD,ZE,Q1,if_false,if_true,a0D,or_true]
end
section
variable (σ:List MO) (ps:List Pr) (bs:List Bd) (cs ad:List Tri) (P B C A:PV) (hP:P.rowsOf 5=some (ps.map Pr.row)) (hB:B.rowsOf 4=some (bs.map Bd.row)) (hC:C.rowsOf 3=some (cs.map Tri.row)) (hA:A.rowsOf 3=some (ad.map Tri.row)) (n:Nat)
include hP hB hC hA in
theorem b8V (hv:a5j ps bs cs ad=0) (i:Int) (b:W6) (hn:1200<=n):a0B Tab n a5Q [.agg [P,B,C,A],.int .i64 i,.agg b.pv] σ=some (.int .i64 (a7W ps bs cs ad i b),σ):=by
 obtain ⟨n,rfl⟩:∃ k,n=k+9:=⟨n-9,by omega⟩
 obtain ⟨v1,v2,v3,v4⟩:=b3k hv
 obtain ⟨hl,hr⟩:=a7M v1
 obtain ⟨p1,p2,p3⟩:=a0C hP
 obtain ⟨b1,b2,b3⟩:=a0C hB
 obtain ⟨c1,c2,c3⟩:=a0C hC
 obtain ⟨a1,a2,a3⟩:=a0C hA
 rw [Q2] at b1 c1
 have k1:=a5m σ ps bs cs ad P B C A hP hB hC hA (n+8) (by omega)
 have q1:=b3D σ b (n+8) (by omega)
 have q2:=c3Y σ ps bs cs ad P B C A hP hB hC hA (n+8) hv hl hr v4 (by omega)
 have q3:=b9W σ ps P hP hl (n+8) (by omega)
 rw [hv] at k1
 simp only [a2B,a4A,a6L,a6b,W6.pv] at k1 q1 q2 q3
 have key:∀ (j:Nat) (y:Bd),bs[j]?=some y->saleroomref10_Allowed_S.loop (a0B Tab (n+8)) (n+8) 0 (a3U σ P B C A (j:Int) 0 b (shF ps ad).1 (shF ps ad).2 (a1T ps))=some (.int .i64 (if b.le (a1T ps)/\(b2g (shF ps ad).2 y.c b).le (shF ps ad).1 then a5I ps (j:Int) b cs else 14),σ):=by
  intro j y hy
  obtain ⟨n1,n2,n3,n4,n5,n6⟩:=c2a hl hr v4
  generalize (shF ps ad).1=o at *
  generalize (shF ps ad).2=c at *
  generalize a1T ps=s at *
  have fin:∀ fuel,saleroomref10_Allowed_S.loop (a0B Tab (n+8)) (fuel+1) 0 (a3U σ P B C A (j:Int) 6 b o c s)=saleroomref10_Allowed_S.loop (a0B Tab (n+8)) fuel 1 (b6w σ P B C A (j:Int) (cs.length:Int) 0 b):=fun fuel=>by
   have e6:ltB 6 6=false:=rfl
   rw [Sys.loop,show saleroomref10_Allowed_S.loops[0]?=some a0O from rfl]
   simp -implicitDefEqProofs only [Q0,a3U,b6w,a0O,↓reduceIte,eq_self,ZF,ZG,ZH,ZI,ZJ,ZK,ZL,ZM,ZN,ZO,ZP,ZQ,ZR,ZS,ZT,ZU,ZV,ZW,ZX,ZY,Z2,Z3,Z4,Z5,Z6,Z7,Z8,Z9,Za,Zb,Zc,Zd,Ze,Zf,Zg,Zh,Nat.reduceAdd,Zi,if_true,if_false,Zl,Zm,Zn,Zo,Zp,Zq,Zr,Zs,Zt,Zu,Zv,Zw,Zx,Zy,Zz,ZA,ZB,ZC,ZD,ZE,e6]
  obtain ⟨f,hf⟩:∃ f,n+1=f+cs.length+1:=⟨n-cs.length,by omega⟩
  have q7:=c4D σ ps cs P B C A hP hC (n+8) v3 (j:Int) b (by omega) cs.length 0 (by omega) f
  rw [<- hf,show cs.drop 0=cs from rfl] at q7
  rw [c5k σ bs P B C A hB _ hy b o c s (n+7)]
  cases t1:hit c.a y.c b.a o.a s.a with
  | true=>rw [if_pos rfl,if_neg (fun h=>by rw [(a5a n1).2 ⟨h.1.1,h.2.1⟩] at t1; cases t1)]
  | false =>
  rw [if_neg (by simp),c3L σ bs P B C A hB _ hy b o c s (n+6)]
  cases t2:hit c.b y.c b.b o.b s.b with
  | true=>rw [if_pos rfl,if_neg (fun h=>by rw [(a5a n2).2 ⟨h.1.2.1,h.2.2.1⟩] at t2; cases t2)]
  | false =>
  rw [if_neg (by simp),c3I σ bs P B C A hB _ hy b o c s (n+5)]
  cases t3:hit c.c y.c b.c o.c s.c with
  | true=>rw [if_pos rfl,if_neg (fun h=>by rw [(a5a n3).2 ⟨h.1.2.2.1,h.2.2.2.1⟩] at t3; cases t3)]
  | false =>
  rw [if_neg (by simp),c5m σ bs P B C A hB _ hy b o c s (n+4)]
  cases t4:hit c.d y.c b.d o.d s.d with
  | true=>rw [if_pos rfl,if_neg (fun h=>by rw [(a5a n4).2 ⟨h.1.2.2.2.1,h.2.2.2.2.1⟩] at t4; cases t4)]
  | false =>
  rw [if_neg (by simp),c4S σ bs P B C A hB _ hy b o c s (n+3)]
  cases t5:hit c.e y.c b.e o.e s.e with
  | true=>rw [if_pos rfl,if_neg (fun h=>by rw [(a5a n5).2 ⟨h.1.2.2.2.2.1,h.2.2.2.2.2.1⟩] at t5; cases t5)]
  | false =>
  rw [if_neg (by simp),c4W σ bs P B C A hB _ hy b o c s (n+2)]
  cases t6:hit c.f y.c b.f o.f s.f with
  | true=>rw [if_pos rfl,if_neg (fun h=>by rw [(a5a n6).2 ⟨h.1.2.2.2.2.2,h.2.2.2.2.2.2⟩] at t6; cases t6)]
  | false =>
  have r1:=(a5a n1).1 t1
  have r2:=(a5a n2).1 t2
  have r3:=(a5a n3).1 t3
  have r4:=(a5a n4).1 t4
  have r5:=(a5a n5).1 t5
  have r6:=(a5a n6).1 t6
  rw [if_neg (by simp),fin (n+1),if_pos ⟨⟨r1.1,r2.1,r3.1,r4.1,r5.1,r6.1⟩,⟨r1.2,r2.2,r3.2,r4.2,r5.2,r6.2⟩⟩]
  exact q7
 rw [a0B]
 simp only [a8o,Q0,Sys.run,W6.pv]
 show ((a0E [.sh (.agg [_,_,_,_]),.sh (.one _),.sh (.agg [_,_,_,_,_,_])] _).bind _)=_
 simp -implicitDefEqProofs only [a0E,a0x,a0w,Q4,Q0,Q5,Q6,Q7,if_true,p3,b3,c3,a3]
 show (PT.ev _ a3R _).bind _=_
 simp -implicitDefEqProofs only [a3R,↓reduceIte,eq_self,ZF,ZG,ZH,ZI,ZJ,ZK,ZL,ZM,ZN,ZO,ZP,ZQ,ZR,ZS,ZT,ZU,ZV,ZW,ZX,ZY,Z2,Z3,Z4,Z5,Z6,Z7,Z8,Z9,Za,Zb,Zc,Zd,Ze,Zf,Zg,Zh,Nat.reduceAdd,Zi,if_true,if_false,Zl,Zm,Zn,Zo,Zp,Zq,Zr,Zs,Zt,Zu,Zv,Zw,Zx,Zy,Zz,ZA,ZB,ZC,ZD,ZE,k1,show eqB 0 0=true from rfl,b1,b2,a7W]
 cases h1:ltB i 0 with
 | true=>simp -implicitDefEqProofs only [↓reduceIte,eq_self,ZF,ZG,ZH,ZI,ZJ,ZK,ZL,ZM,ZN,ZO,ZP,ZQ,ZR,ZS,ZT,ZU,ZV,ZW,ZX,ZY,Z2,Z3,Z4,Z5,Z6,Z7,Z8,Z9,Za,Zb,Zc,Zd,Ze,Zf,Zg,Zh,Nat.reduceAdd,Zi,if_true,if_false,Zl,Zm,Zn,Zo,Zp,Zq,Zr,Zs,Zt,Zu,Zv,Zw,Zx,Zy,Zz,ZA,ZB,ZC,ZD,ZE,a0D,or_true,if_true]
 | false =>
  cases h2:leB (bs.length:Int) i with
  | true=>simp -implicitDefEqProofs only [↓reduceIte,eq_self,ZF,ZG,ZH,ZI,ZJ,ZK,ZL,ZM,ZN,ZO,ZP,ZQ,ZR,ZS,ZT,ZU,ZV,ZW,ZX,ZY,Z2,Z3,Z4,Z5,Z6,Z7,Z8,Z9,Za,Zb,Zc,Zd,Ze,Zf,Zg,Zh,Nat.reduceAdd,Zi,if_true,if_false,Zl,Zm,Zn,Zo,Zp,Zq,Zr,Zs,Zt,Zu,Zv,Zw,Zx,Zy,Zz,ZA,ZB,ZC,ZD,ZE,a0D,or_true,if_true,Q1,if_false]
  | false =>
   rw [a0I] at h1
   rw [a3H] at h2
   obtain ⟨j,rfl⟩:∃ j:Nat,i=(j:Int):=⟨i.toNat,by omega⟩
   obtain ⟨y,hy⟩:=a0W (show j < bs.length by omega)
   have hbc:(((bs[(j:Int).toNat]?).map Bd.c).getD 0)=y.c:=by rw [Qs,hy]; rfl
   rw [hbc]
   simp -implicitDefEqProofs only [↓reduceIte,eq_self,ZF,ZG,ZH,ZI,ZJ,ZK,ZL,ZM,ZN,ZO,ZP,ZQ,ZR,ZS,ZT,ZU,ZV,ZW,ZX,ZY,Z2,Z3,Z4,Z5,Z6,Z7,Z8,Z9,Za,Zb,Zc,Zd,Ze,Zf,Zg,Zh,Nat.reduceAdd,Zi,if_true,if_false,Zl,Zm,Zn,Zo,Zp,Zq,Zr,Zs,Zt,Zu,Zv,Zw,Zx,Zy,Zz,ZA,ZB,ZC,ZD,ZE,q1,if_true,Q1,if_false]
   by_cases hw:b.ok
   ·rw [decide_eq_true hw,if_pos hw]
    have key:=key j y hy
    simp only [a3U] at key
    simp -implicitDefEqProofs only [↓reduceIte,eq_self,ZF,ZG,ZH,ZI,ZJ,ZK,ZL,ZM,ZN,ZO,ZP,ZQ,ZR,ZS,ZT,ZU,ZV,ZW,ZX,ZY,Z2,Z3,Z4,Z5,Z6,Z7,Z8,Z9,Za,Zb,Zc,Zd,Ze,Zf,Zg,Zh,Nat.reduceAdd,Zi,if_true,if_false,Zl,Zm,Zn,Zo,Zp,Zq,Zr,Zs,Zt,Zu,Zv,Zw,Zx,Zy,Zz,ZA,ZB,ZC,ZD,ZE,q2,a1w,q3]
    exact key
   ·rw [decide_eq_false hw,if_neg hw]
    simp -implicitDefEqProofs only [↓reduceIte,eq_self,ZF,ZG,ZH,ZI,ZJ,ZK,ZL,ZM,ZN,ZO,ZP,ZQ,ZR,ZS,ZT,ZU,ZV,ZW,ZX,ZY,Z2,Z3,Z4,Z5,Z6,Z7,Z8,Z9,Za,Zb,Zc,Zd,Ze,Zf,Zg,Zh,Nat.reduceAdd,Zi,if_true,if_false,Zl,Zm,Zn,Zo,Zp,Zq,Zr,Zs,Zt,Zu,Zv,Zw,Zx,Zy,Zz,ZA,ZB,ZC,ZD,ZE,a0D,or_true]
end
end Go.Proofs.Ytflcopaopimlpaa
