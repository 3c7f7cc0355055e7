/- Books of offers: Put, the code's. -/
import Derived.Test.YtflcopaopimlpaaHAl
import Derived.Test.YtflcopaopimlpaaHBo
set_option linter.unusedSimpArgs false
set_option linter.unusedVariables false
open Go.Sx.PT renaming ev → Z1
open Go.Sx.BE renaming safe → Z2, pe → Z3, all → Zz
open Go.Sx.IE renaming pe → Z4
open Go.Sx renaming PEnv.at → Z5
open Go.Sx.PEnv renaming push → Zt
open List renaming getD_cons_zero → Z6, getD_cons_succ → Z7, getElem?_cons_zero → Z8, getElem?_cons_succ → Z9, drop_zero → Zf, length_cons → Zg, length_nil → Zh, take_succ_cons → Zm, take_zero → Zn, cons_append → Zu, nil_append → Zv, append_nil → Zw, map_cons → ZD, map_nil → ZE
open Go.Sx renaming a0y → Za, a0A → Zb, a0o → Zc, a0z → Zd, a0w → Zo, a0p → Zp, a0x → Zq, a0r → ZF, a0t → ZG, a0n → ZH, a0j → ZI, a0s → ZJ, a0q → ZK, a0g → ZL, a0v → ZM, a0i → ZN, a0m → ZO, a0e → ZP, a0h → ZQ, a0u → ZR, a0a → ZS, a0k → ZT, a0f → ZU, a0b → ZV, a0c → ZW, a0d → ZX, a0l → ZY
open Nat renaming add_zero → Ze, le_refl → Zi
open Bool renaming false_eq_true → Zl, and_self → ZA, not_true → ZB, not_false → ZC
open Option renaming map_some → Zr, bind_some → Zs
open Go.Sx.SV renaming pvs → Zx, pv → Zy
open Option renaming bind_some → Q0, map_some → Qd, bind_eq_bind → Qm, pure_def → Qn
open Bool renaming false_eq_true → Q1, not_true → Q4, not_false → Q5, true_and → Q6, false_and → Q7, and_false → Q8, and_self → Q9, and_eq_true → Qz
open Nat renaming zero_add → Q2, add_zero → Qq, succ_ne_zero → QM, one_ne_zero → QN
open List renaming drop_succ_cons → Q3, length_map → Qa, nil_append → Qb, append_nil → Qe, cons_append → Qf, mapM_cons → Qg, mapM_nil → Qh, reverse_cons → Qj, reverse_nil → Qk, getElem?_eq_some_iff → Qp, drop_length → Qr, replicate → Qs, drop_zero → Qv, findIdx?_cons → Qw, length_append → Qy, length_set → QB, getElem?_set_ne → QC, filter_eq_self → QD, getElem?_cons_zero → QE, pairwise_cons → QH, getElem?_map → QJ, append_assoc → QK, range_succ → QL, set_append_right → QP
open Int renaming toNat_natCast → Qt
open Option.some renaming injEq → Qu
open List.cons renaming injEq → QA
set_option maxRecDepth 100000
namespace Go.Proofs.Ytflcopaopimlpaa
open Go.Sx Go.Kv
def w0B (b:W6):Bool:=eqB b.a 0&&(eqB b.b 0&&(eqB b.c 0&&(eqB b.d 0&&(eqB b.e 0&&eqB b.f 0))))
def a6g (ps:List Pr) (bs:List Bd) (cs ad:List Tri) (kv:KV) (i:Int) (b:W6) (v:Int):Int :=
 if ltB v 1=true then 4 else if ltB 1000000 v=true then 4 else if a7W ps bs cs ad i b=0 then
  if w0B b=true then 4 else if (!(eqB (((bs[i.toNat]?).map Bd.b).getD 0) 0)&&ltB (((bs[i.toNat]?).map Bd.b).getD 0) v)=true then 17
  else if (!((a0K kv (wl b)).isSome)&&decide (40<=kv.length))=true then 3 else 0
 else a7W ps bs cs ad i b
def a7l (kv:KV) (b:W6) (v:Int):KV:=a3B kv (wl b) (mxI ((a0K kv (wl b)).getD 0) v)
section
variable (σ:List MO) (ps:List Pr) (bs:List Bd) (cs ad:List Tri) (P B C A:PV) (hP:P.rowsOf 5=some (ps.map Pr.row)) (hB:B.rowsOf 4=some (bs.map Bd.row)) (hC:C.rowsOf 3=some (cs.map Tri.row)) (hA:A.rowsOf 3=some (ad.map Tri.row)) (n:Nat)
include hP hB hC hA in
theorem d2t {hb:Nat} {hs:List Nat} {L:PV} (h:BkL σ hb hs [P,B,C,A,L] L) {i:Int} (hi:(leB 0 i&&ltB i (hs.length:Int))=false) (b:W6) (v:Int) (hn:2<=n) :
  a0B Tab n a5t [.ref hb 0,.int .i64 i,.agg b.pv,.int .i64 v] σ=some (.int .i64 6,σ):=by
 have _:=And.intro hP (And.intro hB (And.intro hC hA))
 obtain ⟨n,rfl⟩:∃ k,n=k+1+1:=⟨n-2,by omega⟩
 have k1:=b9o (T:=Tab) rfl n h i
 rw [hi] at k1
 rw [a0B]
 simp only [b1X,Q0,Sys.run,W6.pv]
 show ((a0E [.sh (.one _),.sh (.one _),.sh (.agg [_,_,_,_,_,_]),.sh (.one _)] _).bind _)=_
 simp -implicitDefEqProofs only [a0E,a0x,a0w,Qd,Q0,Qe,Qb,Qf,if_true,PV.one]
 show (PT.ev _ a5y _).bind _=_
 simp -implicitDefEqProofs only [a5y,↓reduceIte,eq_self,ZF,ZG,ZH,ZI,ZJ,ZK,ZL,ZM,ZN,ZO,ZP,ZQ,ZR,ZS,ZT,ZU,ZV,ZW,ZX,ZY,Z2,Z3,Z4,Z5,Z6,Z7,Z8,Z9,Za,Zb,Zc,Zd,Ze,Zf,Zg,Zh,Nat.reduceAdd,Zi,if_true,if_false,Zl,Zm,Zn,Zo,Zp,Zq,Zr,Zs,Zt,Zu,Zv,Zw,Zx,Zy,Zz,ZA,ZB,ZC,ZD,ZE,k1,a0D,or_true]
include hP hB hC hA in
theorem c6m (hlow:σ.all (MO.low σ.length)=true) (hv:a5j ps bs cs ad=0) {hb:Nat} {hs:List Nat} {L:PV} (h:BkL σ hb hs [P,B,C,A,L] L) (hsl:hs.length=bs.length) {j hh:Nat} (hj:hs[j]?=some hh) {kv:KV} {ver:Nat} (hkv:σ[hh]?=some (.mq kv ver)) (hw:a4E 6 kv=true) (b:W6) (v:Int) (hn:1300<=n) :
  a0B Tab n a5t [.ref hb 0,.int .i64 (j:Int),.agg b.pv,.int .i64 v] σ=some (.int .i64 (a6g ps bs cs ad kv (j:Int) b v),if a6g ps bs cs ad kv (j:Int) b v=0 then σ.set hh (.mq (a7l kv b v) (ver+1)) else σ):=by
 obtain ⟨n,rfl⟩:∃ k,n=k+1+1:=⟨n-2,by omega⟩
 have hjl:j < hs.length:=(Qp.1 hj).1
 have k1:=b9o (T:=Tab) rfl n h (j:Int)
 rw [show (leB 0 (j:Int)&&ltB (j:Int) (hs.length:Int))=true by rw [Qz,a2n,a0U]; omega] at k1
 have k2:=c0f σ ps bs cs ad P B C A hP hB hC hA (n+1) hlow hv (j:Int) b (by omega)
 obtain ⟨loc,hloc,hrd⟩:=h.rd j hh hj
 have hr:=hrd { i:=[],b:=[],v:=[],m:=σ,k:=0 } (fun _ _=>rfl)
 simp -implicitDefEqProofs only [↓reduceIte,eq_self,ZF,ZG,ZH,ZI,ZJ,ZK,ZL,ZM,ZN,ZO,ZP,ZQ,ZR,ZS,ZT,ZU,ZV,ZW,ZX,ZY,Z2,Z3,Z4,Z5,Z6,Z7,Z8,Z9,Za,Zb,Zc,Zd,Ze,Zf,Zg,Zh,Nat.reduceAdd,Zi,if_true,if_false,Zl,Zm,Zn,Zo,Zp,Zq,Zr,Zs,Zt,Zu,Zv,Zw,Zx,Zy,Zz,ZA,ZB,ZC,ZD,ZE,MO.list,Nat.reduceLeDiff] at hr
 obtain ⟨p,b',c,a,Ty,he,h0⟩:=h.five
 simp only [QA,and_true] at he
 obtain ⟨rfl,rfl,rfl,rfl⟩:=he
 obtain ⟨p1,p2,p3⟩:=a0C hP
 obtain ⟨b1,b2,b3⟩:=a0C hB
 obtain ⟨c1,c2,c3⟩:=a0C hC
 obtain ⟨a1,a2,a3⟩:=a0C hA
 rw [Qa] at b1
 obtain ⟨y,hy⟩:=a0W (show j < bs.length by omega)
 have hby:(((bs[(j:Int).toNat]?).map Bd.b).getD 0)=y.b:=by rw [Qt,hy]; rfl
 have hq:=a0G (off:=2) hB (a1J hy)
 have hd':ltB (j:Int) (bs.length:Int)=true:=by rw [a0U]; omega
 have hdh:ltB (j:Int) (hs.length:Int)=true:=by rw [a0U]; omega
 have g1:PV.isKind 1 (.ref hb 0)=true:=rfl
 obtain ⟨d1,d2,d3⟩:=bdr (.str y.nm) (.int .i64 y.c) (.int .i64 y.b) (.int .i64 y.p)
 simp only [b0c,W6.pv] at k2
 unfold a6g a7l
 rw [hby]
 rw [a0B]
 simp only [b1X,Q0,Sys.run,W6.pv]
 show ((a0E [.sh (.one _),.sh (.one _),.sh (.agg [_,_,_,_,_,_]),.sh (.one _)] _).bind _)=_
 simp -implicitDefEqProofs only [a0E,a0x,a0w,Qd,Q0,Qe,Qb,Qf,if_true,PV.one]
 show (PT.ev _ a5y _).bind _=_
 simp -implicitDefEqProofs only [a5y,↓reduceIte,eq_self,ZF,ZG,ZH,ZI,ZJ,ZK,ZL,ZM,ZN,ZO,ZP,ZQ,ZR,ZS,ZT,ZU,ZV,ZW,ZX,ZY,Z2,Z3,Z4,Z5,Z6,Z7,Z8,Z9,Za,Zb,Zc,Zd,Ze,Zf,Zg,Zh,Nat.reduceAdd,Zi,if_true,if_false,Zl,Zm,Zn,Zo,Zp,Zq,Zr,Zs,Zt,Zu,Zv,Zw,Zx,Zy,Zz,ZA,ZB,ZC,ZD,ZE,k1]
 cases e1:ltB v 1 with
 | true=>simp -implicitDefEqProofs only [↓reduceIte,eq_self,ZF,ZG,ZH,ZI,ZJ,ZK,ZL,ZM,ZN,ZO,ZP,ZQ,ZR,ZS,ZT,ZU,ZV,ZW,ZX,ZY,Z2,Z3,Z4,Z5,Z6,Z7,Z8,Z9,Za,Zb,Zc,Zd,Ze,Zf,Zg,Zh,Nat.reduceAdd,Zi,if_true,if_false,Zl,Zm,Zn,Zo,Zp,Zq,Zr,Zs,Zt,Zu,Zv,Zw,Zx,Zy,Zz,ZA,ZB,ZC,ZD,ZE,a0D,or_true,if_true]; rfl
 | false =>
 cases e2:ltB 1000000 v with
 | true=>simp -implicitDefEqProofs only [↓reduceIte,eq_self,ZF,ZG,ZH,ZI,ZJ,ZK,ZL,ZM,ZN,ZO,ZP,ZQ,ZR,ZS,ZT,ZU,ZV,ZW,ZX,ZY,Z2,Z3,Z4,Z5,Z6,Z7,Z8,Z9,Za,Zb,Zc,Zd,Ze,Zf,Zg,Zh,Nat.reduceAdd,Zi,if_true,if_false,Zl,Zm,Zn,Zo,Zp,Zq,Zr,Zs,Zt,Zu,Zv,Zw,Zx,Zy,Zz,ZA,ZB,ZC,ZD,ZE,a0D,or_true,if_true,Q1,if_false]; rfl
 | false =>
 simp -implicitDefEqProofs only [↓reduceIte,eq_self,ZF,ZG,ZH,ZI,ZJ,ZK,ZL,ZM,ZN,ZO,ZP,ZQ,ZR,ZS,ZT,ZU,ZV,ZW,ZX,ZY,Z2,Z3,Z4,Z5,Z6,Z7,Z8,Z9,Za,Zb,Zc,Zd,Ze,Zf,Zg,Zh,Nat.reduceAdd,Zi,if_true,if_false,Zl,Zm,Zn,Zo,Zp,Zq,Zr,Zs,Zt,Zu,Zv,Zw,Zx,Zy,Zz,ZA,ZB,ZC,ZD,ZE,g1,h0,MO.list,Nat.reduceLeDiff,k2,Q2,p3,b3,c3,a3,Q1,if_false]
 by_cases e3:a7W ps bs cs ad (j:Int) b=0
 case neg =>
  rw [show eqB (a7W ps bs cs ad (j:Int) b) 0=false from decide_eq_false e3]
  simp -implicitDefEqProofs only [↓reduceIte,eq_self,ZF,ZG,ZH,ZI,ZJ,ZK,ZL,ZM,ZN,ZO,ZP,ZQ,ZR,ZS,ZT,ZU,ZV,ZW,ZX,ZY,Z2,Z3,Z4,Z5,Z6,Z7,Z8,Z9,Za,Zb,Zc,Zd,Ze,Zf,Zg,Zh,Nat.reduceAdd,Zi,if_true,if_false,Zl,Zm,Zn,Zo,Zp,Zq,Zr,Zs,Zt,Zu,Zv,Zw,Zx,Zy,Zz,ZA,ZB,ZC,ZD,ZE,a0D,or_true,if_neg e3]
 rw [e3]
 have e0:eqB 0 0=true:=rfl
 have om:(PV.mp hh).one=true:=rfl
 simp only [wl,if_true]
 simp -implicitDefEqProofs only [↓reduceIte,eq_self,ZF,ZG,ZH,ZI,ZJ,ZK,ZL,ZM,ZN,ZO,ZP,ZQ,ZR,ZS,ZT,ZU,ZV,ZW,ZX,ZY,Z2,Z3,Z4,Z5,Z6,Z7,Z8,Z9,Za,Zb,Zc,Zd,Ze,Zf,Zg,Zh,Nat.reduceAdd,Zi,if_true,if_false,Zl,Zm,Zn,Zo,Zp,Zq,Zr,Zs,Zt,Zu,Zv,Zw,Zx,Zy,Zz,ZA,ZB,ZC,ZD,ZE,g1,h0,e0,MO.list,Nat.reduceLeDiff,Q2,Q3,h.one,h.len,hdh,le0,hloc,hr,om,c4V,hkv,hw,b1,hd',hq,a1o,d2,b3]
 have hz:(eqB b.a 0&&(eqB b.b 0&&(eqB b.c 0&&(eqB b.d 0&&(eqB b.e 0&&eqB b.f 0)))))=w0B b:=rfl
 rw [hz]
 have dich:∀ x:Bool,x=true\/x=false:=fun x=>by cases x<;>simp
 have lek:leB 40 (kv.length:Int)=decide (40<=kv.length):=by unfold leB; exact decide_eq_decide.2 (by omega)
 have hlen:∀ o:MO,(σ.set hh o).length=σ.length:=fun o=>QB
 rcases dich (w0B b) with k1 | k1
 ·simp -implicitDefEqProofs only [↓reduceIte,eq_self,ZF,ZG,ZH,ZI,ZJ,ZK,ZL,ZM,ZN,ZO,ZP,ZQ,ZR,ZS,ZT,ZU,ZV,ZW,ZX,ZY,Z2,Z3,Z4,Z5,Z6,Z7,Z8,Z9,Za,Zb,Zc,Zd,Ze,Zf,Zg,Zh,Nat.reduceAdd,Zi,if_true,if_false,Zl,Zm,Zn,Zo,Zp,Zq,Zr,Zs,Zt,Zu,Zv,Zw,Zx,Zy,Zz,ZA,ZB,ZC,ZD,ZE,k1,a0D,or_true,if_true,Int.reduceEq,if_false]
 rcases dich (eqB y.b 0) with k2 | k2
 ·rcases dich (a0K kv [b.a,b.b,b.c,b.d,b.e,b.f]).isSome with k3 | k3
  ·simp -implicitDefEqProofs only [↓reduceIte,eq_self,ZF,ZG,ZH,ZI,ZJ,ZK,ZL,ZM,ZN,ZO,ZP,ZQ,ZR,ZS,ZT,ZU,ZV,ZW,ZX,ZY,Z2,Z3,Z4,Z5,Z6,Z7,Z8,Z9,Za,Zb,Zc,Zd,Ze,Zf,Zg,Zh,Nat.reduceAdd,Zi,if_true,if_false,Zl,Zm,Zn,Zo,Zp,Zq,Zr,Zs,Zt,Zu,Zv,Zw,Zx,Zy,Zz,ZA,ZB,ZC,ZD,ZE,k1,k2,k3,g1,h0,MO.list,Nat.reduceLeDiff,Q2,Q3,h.one,h.len,hdh,le0,hloc,hr,om,a6f,a6m,hkv,hw,Q4,Q5,Q6,Q7,Q8,Q9,lek,if_true,a0D,hlen,or_true,Int.reduceEq,if_false,Q1]
  ·rcases dich (decide (40<=kv.length)) with k4 | k4
   ·simp -implicitDefEqProofs only [↓reduceIte,eq_self,ZF,ZG,ZH,ZI,ZJ,ZK,ZL,ZM,ZN,ZO,ZP,ZQ,ZR,ZS,ZT,ZU,ZV,ZW,ZX,ZY,Z2,Z3,Z4,Z5,Z6,Z7,Z8,Z9,Za,Zb,Zc,Zd,Ze,Zf,Zg,Zh,Nat.reduceAdd,Zi,if_true,if_false,Zl,Zm,Zn,Zo,Zp,Zq,Zr,Zs,Zt,Zu,Zv,Zw,Zx,Zy,Zz,ZA,ZB,ZC,ZD,ZE,k1,k2,k3,k4,g1,h0,MO.list,Nat.reduceLeDiff,Q2,Q3,h.one,h.len,hdh,le0,hloc,hr,om,a6f,a6m,hkv,hw,Q4,Q5,Q6,Q7,Q8,Q9,lek,if_true,a0D,hlen,or_true,Int.reduceEq,if_false,Q1]
   ·simp -implicitDefEqProofs only [↓reduceIte,eq_self,ZF,ZG,ZH,ZI,ZJ,ZK,ZL,ZM,ZN,ZO,ZP,ZQ,ZR,ZS,ZT,ZU,ZV,ZW,ZX,ZY,Z2,Z3,Z4,Z5,Z6,Z7,Z8,Z9,Za,Zb,Zc,Zd,Ze,Zf,Zg,Zh,Nat.reduceAdd,Zi,if_true,if_false,Zl,Zm,Zn,Zo,Zp,Zq,Zr,Zs,Zt,Zu,Zv,Zw,Zx,Zy,Zz,ZA,ZB,ZC,ZD,ZE,k1,k2,k3,k4,g1,h0,MO.list,Nat.reduceLeDiff,Q2,Q3,h.one,h.len,hdh,le0,hloc,hr,om,a6f,a6m,hkv,hw,Q4,Q5,Q6,Q7,Q8,Q9,lek,if_true,a0D,hlen,or_true,Int.reduceEq,if_false,Q1]
 ·rcases dich (ltB y.b v) with k5 | k5
  ·simp -implicitDefEqProofs only [↓reduceIte,eq_self,ZF,ZG,ZH,ZI,ZJ,ZK,ZL,ZM,ZN,ZO,ZP,ZQ,ZR,ZS,ZT,ZU,ZV,ZW,ZX,ZY,Z2,Z3,Z4,Z5,Z6,Z7,Z8,Z9,Za,Zb,Zc,Zd,Ze,Zf,Zg,Zh,Nat.reduceAdd,Zi,if_true,if_false,Zl,Zm,Zn,Zo,Zp,Zq,Zr,Zs,Zt,Zu,Zv,Zw,Zx,Zy,Zz,ZA,ZB,ZC,ZD,ZE,k1,k2,k5,g1,h0,MO.list,Nat.reduceLeDiff,Q2,Q3,h.one,h.len,hdh,le0,hloc,hr,om,a6f,a6m,hkv,hw,Q4,Q5,Q6,Q7,Q8,Q9,lek,if_true,a0D,hlen,or_true,Int.reduceEq,if_false,Q1]
  rcases dich (a0K kv [b.a,b.b,b.c,b.d,b.e,b.f]).isSome with k3 | k3
  ·simp -implicitDefEqProofs only [↓reduceIte,eq_self,ZF,ZG,ZH,ZI,ZJ,ZK,ZL,ZM,ZN,ZO,ZP,ZQ,ZR,ZS,ZT,ZU,ZV,ZW,ZX,ZY,Z2,Z3,Z4,Z5,Z6,Z7,Z8,Z9,Za,Zb,Zc,Zd,Ze,Zf,Zg,Zh,Nat.reduceAdd,Zi,if_true,if_false,Zl,Zm,Zn,Zo,Zp,Zq,Zr,Zs,Zt,Zu,Zv,Zw,Zx,Zy,Zz,ZA,ZB,ZC,ZD,ZE,k1,k2,k3,k5,g1,h0,MO.list,Nat.reduceLeDiff,Q2,Q3,h.one,h.len,hdh,le0,hloc,hr,om,a6f,a6m,hkv,hw,Q4,Q5,Q6,Q7,Q8,Q9,lek,if_true,a0D,hlen,or_true,Int.reduceEq,if_false,Q1]
  ·rcases dich (decide (40<=kv.length)) with k4 | k4
   ·simp -implicitDefEqProofs only [↓reduceIte,eq_self,ZF,ZG,ZH,ZI,ZJ,ZK,ZL,ZM,ZN,ZO,ZP,ZQ,ZR,ZS,ZT,ZU,ZV,ZW,ZX,ZY,Z2,Z3,Z4,Z5,Z6,Z7,Z8,Z9,Za,Zb,Zc,Zd,Ze,Zf,Zg,Zh,Nat.reduceAdd,Zi,if_true,if_false,Zl,Zm,Zn,Zo,Zp,Zq,Zr,Zs,Zt,Zu,Zv,Zw,Zx,Zy,Zz,ZA,ZB,ZC,ZD,ZE,k1,k2,k3,k4,k5,g1,h0,MO.list,Nat.reduceLeDiff,Q2,Q3,h.one,h.len,hdh,le0,hloc,hr,om,a6f,a6m,hkv,hw,Q4,Q5,Q6,Q7,Q8,Q9,lek,if_true,a0D,hlen,or_true,Int.reduceEq,if_false,Q1]
   ·simp -implicitDefEqProofs only [↓reduceIte,eq_self,ZF,ZG,ZH,ZI,ZJ,ZK,ZL,ZM,ZN,ZO,ZP,ZQ,ZR,ZS,ZT,ZU,ZV,ZW,ZX,ZY,Z2,Z3,Z4,Z5,Z6,Z7,Z8,Z9,Za,Zb,Zc,Zd,Ze,Zf,Zg,Zh,Nat.reduceAdd,Zi,if_true,if_false,Zl,Zm,Zn,Zo,Zp,Zq,Zr,Zs,Zt,Zu,Zv,Zw,Zx,Zy,Zz,ZA,ZB,ZC,ZD,ZE,k1,k2,k3,k4,k5,g1,h0,MO.list,Nat.reduceLeDiff,Q2,Q3,h.one,h.len,hdh,le0,hloc,hr,om,a6f,a6m,hkv,hw,Q4,Q5,Q6,Q7,Q8,Q9,lek,if_true,a0D,hlen,or_true,Int.reduceEq,if_false,Q1]
end
end Go.Proofs.Ytflcopaopimlpaa
set_option maxRecDepth 100000
namespace Go.Proofs.Ytflcopaopimlpaa
open Go.Sx Go.Kv
theorem c3e (x y:Int) (l m:List Int):a1F (x::l) (y::m)=if ltB x y=true then -1 else if ltB y x=true then 1 else a1F l m:=by
 unfold a1F ltB
 simp only [ltK]
 by_cases h1:x < y
 ·simp [h1]
 ·by_cases h2:y < x
  ·have h3:¬ x=y:=by omega
   have h4:¬ y=x:=by omega
   simp [h1,h2,h3]
  ·have h3:x=y:=by omega
   subst h3
   simp
theorem c4H:a1F [] []=0:=rfl
theorem c4B (σ:List MO) (a b:W6) (n:Nat) (hn:1<=n):a0B Tab n a5R [.agg a.pv,.agg b.pv] σ=some (.int .i64 (a1F (wl a) (wl b)),σ):=by
 obtain ⟨n,rfl⟩:∃ k,n=k+1:=⟨n-1,by omega⟩
 simp only [a0B,a8q,Q0,Sys.run,W6.pv]
 show ((a0E [.sh (.agg [_,_,_,_,_,_]),.sh (.agg [_,_,_,_,_,_])] _).bind _)=_
 simp only [a0E,a0x,a0w,Qd,Q0,Qe,Qb,Qf,if_true]
 show (PT.ev _ a3S _).bind _=_
 simp only [wl,c3e,c4H]
 simp -implicitDefEqProofs only [a3S,↓reduceIte,eq_self,ZF,ZG,ZH,ZI,ZJ,ZK,ZL,ZM,ZN,ZO,ZP,ZQ,ZR,ZS,ZT,ZU,ZV,ZW,ZX,ZY,Z2,Z3,Z4,Z5,Z6,Z7,Z8,Z9,Za,Zb,Zc,Zd,Ze,Zf,Zg,Zh,Nat.reduceAdd,Zi,if_true,if_false,Zl,Zm,Zn,Zo,Zp,Zq,Zr,Zs,Zt,Zu,Zv,Zw,Zx,Zy,Zz,ZA,ZB,ZC,ZD,ZE,a0D,or_true]
 cases ltB a.a b.a
 case true=>rfl
 cases ltB b.a a.a
 case true=>rfl
 cases ltB a.b b.b
 case true=>rfl
 cases ltB b.b a.b
 case true=>rfl
 cases ltB a.c b.c
 case true=>rfl
 cases ltB b.c a.c
 case true=>rfl
 cases ltB a.d b.d
 case true=>rfl
 cases ltB b.d a.d
 case true=>rfl
 cases ltB a.e b.e
 case true=>rfl
 cases ltB b.e a.e
 case true=>rfl
 cases ltB a.f b.f
 case true=>rfl
 cases ltB b.f a.f
 case true=>rfl
 rfl
theorem O8.w_eq (x:O8) (b:W6):(eqB x.w0 b.a&&(eqB x.w1 b.b&&(eqB x.w2 b.c&&(eqB x.w3 b.d&&(eqB x.w4 b.e&&eqB x.w5 b.f)))))=decide (x.w=wl b):=by
 have e5:∀ a b:Int,eqB a b=decide (a=b):=fun _ _=>rfl
 simp only [e5,O8.w,wl,QA,and_true,Bool.decide_and]
theorem a4z (x:O8):x.row=[.int .i64 x.b,.int .i64 x.w0,.int .i64 x.w1,.int .i64 x.w2,.int .i64 x.w3,.int .i64 x.w4,.int .i64 x.w5,.int .i64 x.v]:=rfl
theorem a2T {l:List O8} {i:Nat} {x:O8} (h:l[i]?=some x):(l.map O8.row)[i]?=some x.row:=by simp [h]
theorem dr8 (a b c d e f g h:PV):List.drop 1 [a,b,c,d,e,f,g,h]=[b,c,d,e,f,g,h]/\List.drop 7 [a,b,c,d,e,f,g,h]=[h]:=⟨rfl,rfl⟩
def plc (l:List O8) (k:List Int) (j:Nat):Int:=match (l.drop j).findIdx? (fun x=>decide (x.w=k)) with
  | some t=>((j+t:Nat):Int)
  | none=>-1
theorem c5A {l:List O8} {k:List Int} {j:Nat} {x:O8} (h:l[j]?=some x) (hw:x.w=k):plc l k j=(j:Int):=by
 unfold plc; rw [a3v h,Qw]; simp [hw]
theorem c4E {l:List O8} {k:List Int} {j:Nat} {x:O8} (h:l[j]?=some x) (hw:¬ x.w=k):plc l k j=plc l k (j+1):=by
 unfold plc; rw [a3v h,Qw,decide_eq_false hw]
 cases (l.drop (j+1)).findIdx? (fun x=>decide (x.w=k)) with
 | none=>simp
 | some t=>simp; omega
section
variable (σ:List MO) (l:List O8) (E:PV) (hE:E.rowsOf 8=some (l.map O8.row)) (b:W6) (n:Nat)
def c4v (σ:List MO) (E:PV) (b:W6) (j:Int):PEnv:={ i:=[j,b.a,b.b,b.c,b.d,b.e,b.f],b:=[],v:=[E],m:=σ,k:=σ.length }
include hE in
theorem c1u (hl:l.length<=1000):∀ d j,j+d=l.length->∀ fuel,saleroomref16_place_S.loop (a0B Tab n) (fuel+d+1) 0 (c4v σ E b (j:Int))=some (.int .i64 (plc l (wl b) j),σ):=by
 obtain ⟨p1,p2,p3⟩:=a0C hE
 rw [Qa] at p1
 intro d
 induction d with
 | zero =>
  intro j hj fuel
  rw [Qq] at hj; subst hj
  have hd:decide (l.length < l.length)=false:=by simp
  rw [Sys.loop,show saleroomref16_place_S.loops[0]?=some a2v from rfl]
  simp -implicitDefEqProofs only [Q0,c4v,a2v,↓reduceIte,eq_self,ZF,ZG,ZH,ZI,ZJ,ZK,ZL,ZM,ZN,ZO,ZP,ZQ,ZR,ZS,ZT,ZU,ZV,ZW,ZX,ZY,Z2,Z3,Z4,Z5,Z6,Z7,Z8,Z9,Za,Zb,Zc,Zd,Ze,Zf,Zg,Zh,Nat.reduceAdd,Zi,if_true,if_false,Zl,Zm,Zn,Zo,Zp,Zq,Zr,Zs,Zt,Zu,Zv,Zw,Zx,Zy,Zz,ZA,ZB,ZC,ZD,ZE,p1,p2,a0F,hd,a0D,or_true,plc,Qr,List.findIdx?_nil]
 | succ d ih =>
  intro j hj fuel
  have hlt:j < l.length:=by omega
  obtain ⟨x,hx⟩:=a0W hlt
  have hd:decide (j < l.length)=true:=decide_eq_true hlt
  have hq:=a0G (off:=1) hE (a2T hx)
  have hup:=a1y (show j<=1000000000 by omega)
  obtain ⟨d1,d7⟩:=dr8 (.int .i64 x.b) (.int .i64 x.w0) (.int .i64 x.w1) (.int .i64 x.w2) (.int .i64 x.w3) (.int .i64 x.w4) (.int .i64 x.w5) (.int .i64 x.v)
  rw [show fuel+(d+1)+1=(fuel+d+1)+1 from rfl,Sys.loop,show saleroomref16_place_S.loops[0]?=some a2v from rfl]
  have hz:=O8.w_eq x b
  simp -implicitDefEqProofs only [Q0,c4v,a2v,↓reduceIte,eq_self,ZF,ZG,ZH,ZI,ZJ,ZK,ZL,ZM,ZN,ZO,ZP,ZQ,ZR,ZS,ZT,ZU,ZV,ZW,ZX,ZY,Z2,Z3,Z4,Z5,Z6,Z7,Z8,Z9,Za,Zb,Zc,Zd,Ze,Zf,Zg,Zh,Nat.reduceAdd,Zi,if_true,if_false,Zl,Zm,Zn,Zo,Zp,Zq,Zr,Zs,Zt,Zu,Zv,Zw,Zx,Zy,Zz,ZA,ZB,ZC,ZD,ZE,p1,p2,a0F,hd,le0,hq,a4z,d1,Nat.reduceLeDiff,hz]
  by_cases hw:x.w=wl b
  ·rw [decide_eq_true hw,c5A hx hw]
   simp -implicitDefEqProofs only [↓reduceIte,eq_self,ZF,ZG,ZH,ZI,ZJ,ZK,ZL,ZM,ZN,ZO,ZP,ZQ,ZR,ZS,ZT,ZU,ZV,ZW,ZX,ZY,Z2,Z3,Z4,Z5,Z6,Z7,Z8,Z9,Za,Zb,Zc,Zd,Ze,Zf,Zg,Zh,Nat.reduceAdd,Zi,if_true,if_false,Zl,Zm,Zn,Zo,Zp,Zq,Zr,Zs,Zt,Zu,Zv,Zw,Zx,Zy,Zz,ZA,ZB,ZC,ZD,ZE,a0D,or_true]
  ·have ih:=ih (j+1) (by omega) fuel
   rw [a0Q] at ih
   rw [decide_eq_false hw,c4E hx hw]
   simp -implicitDefEqProofs only [↓reduceIte,eq_self,ZF,ZG,ZH,ZI,ZJ,ZK,ZL,ZM,ZN,ZO,ZP,ZQ,ZR,ZS,ZT,ZU,ZV,ZW,ZX,ZY,Z2,Z3,Z4,Z5,Z6,Z7,Z8,Z9,Za,Zb,Zc,Zd,Ze,Zf,Zg,Zh,Nat.reduceAdd,Zi,if_true,if_false,Zl,Zm,Zn,Zo,Zp,Zq,Zr,Zs,Zt,Zu,Zv,Zw,Zx,Zy,Zz,ZA,ZB,ZC,ZD,ZE,if_pos hup]
   exact ih
include hE in
theorem c3a (hl:l.length<=1000) (hn:1010<=n):a0B Tab n a6x [E,.agg b.pv] σ=some (.int .i64 (plc l (wl b) 0),σ):=by
 obtain ⟨n,rfl⟩:∃ k,n=k+1:=⟨n-1,by omega⟩
 obtain ⟨p1,p2,p3⟩:=a0C hE
 obtain ⟨f,hf⟩:∃ f,n=f+l.length+1:=⟨n-l.length-1,by omega⟩
 have k:=c1u σ l E hE b n hl l.length 0 (by omega) f
 rw [<- hf] at k
 simp only [a0B,a9C,Q0,Sys.run,W6.pv]
 show ((a0E [.sh (.one _),.sh (.agg [_,_,_,_,_,_])] _).bind _)=_
 simp -implicitDefEqProofs only [a0E,a0x,a0w,Qd,Q0,Qe,Qb,Qf,if_true,p3]
 show (PT.ev _ a4q _).bind _=_
 simp -implicitDefEqProofs only [a4q,↓reduceIte,eq_self,ZF,ZG,ZH,ZI,ZJ,ZK,ZL,ZM,ZN,ZO,ZP,ZQ,ZR,ZS,ZT,ZU,ZV,ZW,ZX,ZY,Z2,Z3,Z4,Z5,Z6,Z7,Z8,Z9,Za,Zb,Zc,Zd,Ze,Zf,Zg,Zh,Nat.reduceAdd,Zi,if_true,if_false,Zl,Zm,Zn,Zo,Zp,Zq,Zr,Zs,Zt,Zu,Zv,Zw,Zx,Zy,Zz,ZA,ZB,ZC,ZD,ZE]
 exact k
end
end Go.Proofs.Ytflcopaopimlpaa
set_option maxRecDepth 100000
namespace Go.Proofs.Ytflcopaopimlpaa
open Go.Sx Go.Kv
def a6k (k:Bool) (hx n:Nat):PV:=if k=true then .rsl hx n 1 else .msl hx 0 n n 1
def a2K (k:Bool) (T:Nat) (els:List PV):MO:=if k=true then .row (els.map fun e=>[e]) 1 T else .cells els T
theorem c0X {h i n c:Nat} (hi:i < n):a1z (i:Int) 1 0 (.msl h 0 n c 1)=some (.obj h i):=by
 simp only [a1z]
 rw [if_pos ⟨by omega,by omega,trivial⟩]
 simp
theorem c0D {h i n:Nat} (hi:i < n):a1z (i:Int) 1 0 (.rsl h n 1)=some (.elt h n i 1 0):=by
 simp only [a1z]
 rw [if_pos ⟨by omega,by omega,trivial⟩]
 simp
theorem c6v {l:List PV} {i:Nat} (h:i < l.length) (x:PV):a3T l i [x]=l.set i x:=by
 unfold a3T
 rw [List.set_eq_take_append_cons_drop,if_pos h]
 simp
section
variable (σ:List MO) (k:Bool) (xb hx T TR:Nat) (P B C A:PV) (els:List PV) (hbk:σ[xb]?=some (.cells [P,B,C,A,a6k k hx els.length] TR)) (hls:σ[hx]?=some (a2K k T els))
variable (l:List O8) (E:PV) (hE:E.rowsOf 8=some (l.map O8.row)) (hl:l.length<=1000) (n:Nat) (bi:Nat) (hbi:bi < els.length) (b:W6) (v t:Int)
def a4L (bi:Nat) (b:W6) (v:Int):O8:=⟨bi,b.a,b.b,b.c,b.d,b.e,b.f,v⟩
def a4T (σ:List MO) (xb:Nat) (E O:PV) (bi:Nat) (b:W6) (v t j:Int) (dn:Bool):PEnv:={ i:=[(bi:Int),v,t,j,b.a,b.b,b.c,b.d,b.e,b.f],b:=[dn],v:=[.ref xb 0,E,O],m:=σ,k:=σ.length }
include hbk hls hE hbi in
theorem c2L (dn:Bool) (O:PV) (o:List (List PV)) (hO:O.rowsOf 8=some o) (ho:o.length<=1000) (fuel:Nat) :
  saleroomref16_Book_Put_S.loop (a0B Tab n) (fuel+1) 0 (a4T σ xb E O bi b v t (l.length:Int) dn)=some (.int .i64 0,σ.set hx (a2K k T (els.set bi (if dn=true then O else .sl 8 (o++[(a4L bi b v).row]))))):=by
 obtain ⟨p1,p2,p3⟩:=a0C hE
 obtain ⟨o1,o2,o3⟩:=a0C hO
 rw [Qa] at p1
 have hd:decide (l.length < l.length)=false:=by simp
 have g1:PV.isKind 1 (.ref xb 0)=true:=rfl
 have hlt:ltB (bi:Int) (els.length:Int)=true:=by rw [a0U]; omega
 have hlen:∀ o:MO,(σ.set hx o).length=σ.length:=fun o=>QB
 have hsl:∀ r,PV.one (.sl 8 r)=true:=fun _=>rfl
 rw [Sys.loop,show saleroomref16_Book_Put_S.loops[0]?=some a1a from rfl]
 cases k with
 | false =>
  simp only [a6k,a2K,Q1,if_false] at hbk hls ⊢
  have q1:a1z (bi:Int) 1 0 (.msl hx 0 els.length els.length 1)=some (.obj hx bi):=c0X hbi
  have q2:∀ x,a3T els bi [x]=els.set bi x:=c6v hbi
  have q3:bi+1<=els.length:=hbi
  have q4:PV.len (.msl hx 0 els.length els.length 1)=(els.length:Int):=rfl
  have q5:PV.one (.msl hx 0 els.length els.length 1)=true:=rfl
  cases dn<;>simp -implicitDefEqProofs only [Q0,a4T,a1a,↓reduceIte,eq_self,ZF,ZG,ZH,ZI,ZJ,ZK,ZL,ZM,ZN,ZO,ZP,ZQ,ZR,ZS,ZT,ZU,ZV,ZW,ZX,ZY,Z2,Z3,Z4,Z5,Z6,Z7,Z8,Z9,Za,Zb,Zc,Zd,Ze,Zf,Zg,Zh,Nat.reduceAdd,Zi,if_true,if_false,Zl,Zm,Zn,Zo,Zp,Zq,Zr,Zs,Zt,Zu,Zv,Zw,Zx,Zy,Zz,ZA,ZB,ZC,ZD,ZE,a1f,Qg,Qh,Qj,Qk,Qm,Qn,p1,p2,a0F,hd,g1,hbk,hls,MO.list,Nat.reduceLeDiff,Q2,Q3,le0,hlt,q1,q2,q3,q4,q5,hO,if_pos (show o.length<=999999 by omega),if_pos (show o.length<=999998 by omega),if_true,Q1,if_false,a0D,hlen,or_true,a4L,a4z,hsl,o3,a1v]
 | true =>
  simp only [a6k,a2K,if_true] at hbk hls ⊢
  have q1:a1z (bi:Int) 1 0 (.rsl hx els.length 1)=some (.elt hx els.length bi 1 0):=c0D hbi
  have q4:PV.len (.rsl hx els.length 1)=(els.length:Int):=rfl
  have q5:PV.one (.rsl hx els.length 1)=true:=rfl
  have q6:(els.map fun e=>[e]).length=els.length:=Qa ..
  have q7:(els.map fun e=>[e])[bi]?=some [els[bi]]:=by simp [hbi]
  have q8:∀ x y:PV,a3T [x] 0 [y]=[y]:=fun _ _=>rfl
  have q9:∀ x,(els.map fun e=>[e]).set bi [x]=(els.set bi x).map fun e=>[e]:=fun x=>by rw [List.map_set]
  cases dn<;>simp -implicitDefEqProofs only [Q0,a4T,a1a,↓reduceIte,eq_self,ZF,ZG,ZH,ZI,ZJ,ZK,ZL,ZM,ZN,ZO,ZP,ZQ,ZR,ZS,ZT,ZU,ZV,ZW,ZX,ZY,Z2,Z3,Z4,Z5,Z6,Z7,Z8,Z9,Za,Zb,Zc,Zd,Ze,Zf,Zg,Zh,Nat.reduceAdd,Zi,if_true,if_false,Zl,Zm,Zn,Zo,Zp,Zq,Zr,Zs,Zt,Zu,Zv,Zw,Zx,Zy,Zz,ZA,ZB,ZC,ZD,ZE,a1f,Qg,Qh,Qj,Qk,Qm,Qn,p1,p2,a0F,hd,g1,hbk,hls,MO.list,Nat.reduceLeDiff,Q2,Q3,le0,hlt,q1,q4,q5,q6,q7,q8,q9,hO,if_pos (show o.length<=999999 by omega),if_pos (show o.length<=999998 by omega),if_true,Q1,if_false,a0D,hlen,or_true,a4L,a4z,hsl,o3,a1v,List.all_cons,List.all_nil,Bool.and_true,and_self]
include hE in
theorem c0I {j:Nat} {x:O8} (hx:l[j]?=some x) (hj:j<=1000) (dn:Bool) (hc:¬ t=(j:Int)/\(dn=true\/0<=t)) (O:PV) (o:List (List PV)) (hO:O.rowsOf 8=some o) (ho:o.length<=2000) (fuel:Nat) :
  saleroomref16_Book_Put_S.loop (a0B Tab n) (fuel+1) 0 (a4T σ xb E O bi b v t (j:Int) dn)=saleroomref16_Book_Put_S.loop (a0B Tab n) fuel 0 (a4T σ xb E (.sl 8 (o++[x.row])) bi b v t ((j:Int)+1) dn):=by
 obtain ⟨p1,p2,p3⟩:=a0C hE
 obtain ⟨o1,o2,o3⟩:=a0C hO
 rw [Qa] at p1
 have hd:decide (j < l.length)=true:=decide_eq_true (Qp.1 hx).1
 have hq:=a0G (off:=0) hE (a2T hx)
 have hup:=a1y (show j<=1000000000 by omega)
 have e1:eqB (j:Int) t=false:=decide_eq_false (fun h=>hc.1 h.symm)
 rw [Sys.loop,show saleroomref16_Book_Put_S.loops[0]?=some a1a from rfl]
 rcases hc.2 with rfl | ht
 ·simp -implicitDefEqProofs only [Q0,a4T,a1a,↓reduceIte,eq_self,ZF,ZG,ZH,ZI,ZJ,ZK,ZL,ZM,ZN,ZO,ZP,ZQ,ZR,ZS,ZT,ZU,ZV,ZW,ZX,ZY,Z2,Z3,Z4,Z5,Z6,Z7,Z8,Z9,Za,Zb,Zc,Zd,Ze,Zf,Zg,Zh,Nat.reduceAdd,Zi,if_true,if_false,Zl,Zm,Zn,Zo,Zp,Zq,Zr,Zs,Zt,Zu,Zv,Zw,Zx,Zy,Zz,ZA,ZB,ZC,ZD,ZE,a1f,Qg,Qh,Qj,Qk,Qm,Qn,p1,p2,a0F,hd,e1,le0,hq,hO,Nat.reduceLeDiff,if_pos (show o.length<=999999 by omega),if_pos (show o.length<=999998 by omega),if_pos hup,a4z,a1v,o3,p3]
 ·have e2:ltB t 0=false:=by rw [a0I]; omega
  cases dn<;>simp -implicitDefEqProofs only [Q0,a4T,a1a,↓reduceIte,eq_self,ZF,ZG,ZH,ZI,ZJ,ZK,ZL,ZM,ZN,ZO,ZP,ZQ,ZR,ZS,ZT,ZU,ZV,ZW,ZX,ZY,Z2,Z3,Z4,Z5,Z6,Z7,Z8,Z9,Za,Zb,Zc,Zd,Ze,Zf,Zg,Zh,Nat.reduceAdd,Zi,if_true,if_false,Zl,Zm,Zn,Zo,Zp,Zq,Zr,Zs,Zt,Zu,Zv,Zw,Zx,Zy,Zz,ZA,ZB,ZC,ZD,ZE,a1f,Qg,Qh,Qj,Qk,Qm,Qn,p1,p2,a0F,hd,e1,e2,le0,hq,hO,Nat.reduceLeDiff,if_pos (show o.length<=999999 by omega),if_pos (show o.length<=999998 by omega),if_pos hup,a4z,a1v,o3,p3]
  all_goals rfl
include hE in
theorem c6z {j:Nat} {x:O8} (hx:l[j]?=some x) (hj:j<=1000) (dn:Bool) (O:PV) (o:List (List PV)) (hO:O.rowsOf 8=some o) (ho:o.length<=2000) (fuel:Nat) :
  saleroomref16_Book_Put_S.loop (a0B Tab n) (fuel+1) 0 (a4T σ xb E O bi b v (j:Int) (j:Int) dn)=saleroomref16_Book_Put_S.loop (a0B Tab n) fuel 0 (a4T σ xb E (.sl 8 (o++[(a4L bi b (mxI x.v v)).row])) bi b v (j:Int) ((j:Int)+1) true):=by
 obtain ⟨p1,p2,p3⟩:=a0C hE
 obtain ⟨o1,o2,o3⟩:=a0C hO
 rw [Qa] at p1
 have hd:decide (j < l.length)=true:=decide_eq_true (Qp.1 hx).1
 have hq:=a0G (off:=7) hE (a2T hx)
 have hup:=a1y (show j<=1000000000 by omega)
 obtain ⟨d1,d7⟩:=dr8 (.int .i64 x.b) (.int .i64 x.w0) (.int .i64 x.w1) (.int .i64 x.w2) (.int .i64 x.w3) (.int .i64 x.w4) (.int .i64 x.w5) (.int .i64 x.v)
 rw [Sys.loop,show saleroomref16_Book_Put_S.loops[0]?=some a1a from rfl]
 simp -implicitDefEqProofs only [Q0,a4T,a1a,↓reduceIte,eq_self,ZF,ZG,ZH,ZI,ZJ,ZK,ZL,ZM,ZN,ZO,ZP,ZQ,ZR,ZS,ZT,ZU,ZV,ZW,ZX,ZY,Z2,Z3,Z4,Z5,Z6,Z7,Z8,Z9,Za,Zb,Zc,Zd,Ze,Zf,Zg,Zh,Nat.reduceAdd,Zi,if_true,if_false,Zl,Zm,Zn,Zo,Zp,Zq,Zr,Zs,Zt,Zu,Zv,Zw,Zx,Zy,Zz,ZA,ZB,ZC,ZD,ZE,a1f,Qg,Qh,Qj,Qk,Qm,Qn,p1,p2,a0F,hd,a7s,le0,hq,hO,Nat.reduceLeDiff,if_pos (show o.length<=999999 by omega),if_pos (show o.length<=999998 by omega),if_pos hup,a4z,a1v,o3,p3,d7,a4L]
include hE in
theorem c6O {j:Nat} {x:O8} (hx:l[j]?=some x) (hj:j<=1000) (ht:t < 0) (hn:1<=n) (O:PV) (o:List (List PV)) (hO:O.rowsOf 8=some o) (ho:o.length<=2000) (fuel:Nat) :
  saleroomref16_Book_Put_S.loop (a0B Tab n) (fuel+1) 0 (a4T σ xb E O bi b v t (j:Int) false) =
   if ltK (wl b) x.w=true then saleroomref16_Book_Put_S.loop (a0B Tab n) fuel 0 (a4T σ xb E (.sl 8 (o++[(a4L bi b v).row]++[x.row])) bi b v t ((j:Int)+1) true)
   else saleroomref16_Book_Put_S.loop (a0B Tab n) fuel 0 (a4T σ xb E (.sl 8 (o++[x.row])) bi b v t ((j:Int)+1) false):=by
 obtain ⟨p1,p2,p3⟩:=a0C hE
 obtain ⟨o1,o2,o3⟩:=a0C hO
 rw [Qa] at p1
 have hd:decide (j < l.length)=true:=decide_eq_true (Qp.1 hx).1
 have hq:=a0G (off:=0) hE (a2T hx)
 have hq1:=a0G (off:=1) hE (a2T hx)
 have hup:=a1y (show j<=1000000000 by omega)
 have e1:eqB (j:Int) t=false:=decide_eq_false (by omega)
 have e2:ltB t 0=true:=by rw [a0U]; omega
 obtain ⟨d1,d7⟩:=dr8 (.int .i64 x.b) (.int .i64 x.w0) (.int .i64 x.w1) (.int .i64 x.w2) (.int .i64 x.w3) (.int .i64 x.w4) (.int .i64 x.w5) (.int .i64 x.v)
 have k1:=c4B σ b ⟨x.w0,x.w1,x.w2,x.w3,x.w4,x.w5⟩ n hn
 have k2:ltB (a1F (wl b) (wl ⟨x.w0,x.w1,x.w2,x.w3,x.w4,x.w5⟩)) 0=ltK (wl b) x.w:=a8S _ _
 simp only [a5R,W6.pv] at k1
 rw [Sys.loop,show saleroomref16_Book_Put_S.loops[0]?=some a1a from rfl]
 simp -implicitDefEqProofs only [Q0,a4T,a1a,↓reduceIte,eq_self,ZF,ZG,ZH,ZI,ZJ,ZK,ZL,ZM,ZN,ZO,ZP,ZQ,ZR,ZS,ZT,ZU,ZV,ZW,ZX,ZY,Z2,Z3,Z4,Z5,Z6,Z7,Z8,Z9,Za,Zb,Zc,Zd,Ze,Zf,Zg,Zh,Nat.reduceAdd,Zi,if_true,if_false,Zl,Zm,Zn,Zo,Zp,Zq,Zr,Zs,Zt,Zu,Zv,Zw,Zx,Zy,Zz,ZA,ZB,ZC,ZD,ZE,a1f,Qg,Qh,Qj,Qk,Qm,Qn,p1,p2,a0F,hd,e1,e2,le0,hq1,Nat.reduceLeDiff,a4z,d1,k1,k2]
 have a1:(o++[(a4L bi b v).row]).length+1<=1000000:=by simp; omega
 cases ltK (wl b) x.w with
 | true =>
  simp -implicitDefEqProofs only [↓reduceIte,eq_self,ZF,ZG,ZH,ZI,ZJ,ZK,ZL,ZM,ZN,ZO,ZP,ZQ,ZR,ZS,ZT,ZU,ZV,ZW,ZX,ZY,Z2,Z3,Z4,Z5,Z6,Z7,Z8,Z9,Za,Zb,Zc,Zd,Ze,Zf,Zg,Zh,Nat.reduceAdd,Zi,if_true,if_false,Zl,Zm,Zn,Zo,Zp,Zq,Zr,Zs,Zt,Zu,Zv,Zw,Zx,Zy,Zz,ZA,ZB,ZC,ZD,ZE,a1f,Qg,Qh,Qj,Qk,Qm,Qn,p1,p2,a0F,hd,le0,hq,hO,Nat.reduceLeDiff,if_pos (show o.length<=999999 by omega),if_pos (show o.length<=999998 by omega),if_pos hup,a4z,a1v,o3,p3,if_true]
  rw [if_pos (by simp; omega)]
  rfl
 | false =>
  simp -implicitDefEqProofs only [↓reduceIte,eq_self,ZF,ZG,ZH,ZI,ZJ,ZK,ZL,ZM,ZN,ZO,ZP,ZQ,ZR,ZS,ZT,ZU,ZV,ZW,ZX,ZY,Z2,Z3,Z4,Z5,Z6,Z7,Z8,Z9,Za,Zb,Zc,Zd,Ze,Zf,Zg,Zh,Nat.reduceAdd,Zi,if_true,if_false,Zl,Zm,Zn,Zo,Zp,Zq,Zr,Zs,Zt,Zu,Zv,Zw,Zx,Zy,Zz,ZA,ZB,ZC,ZD,ZE,a1f,Qg,Qh,Qj,Qk,Qm,Qn,p1,p2,a0F,hd,le0,hq,hO,Nat.reduceLeDiff,if_pos (show o.length<=999999 by omega),if_pos (show o.length<=999998 by omega),if_pos hup,a4z,a1v,o3,p3,Q1,if_false]
end
end Go.Proofs.Ytflcopaopimlpaa
set_option maxRecDepth 100000
namespace Go.Proofs.Ytflcopaopimlpaa
open Go.Sx Go.Kv
def b9j (x:O8):List O8->List O8
 | []=>[x]
 | y::l=>if ltK x.w y.w=true then x::y::l else y::b9j x l
section
variable (σ:List MO) (k:Bool) (xb hx T TR:Nat) (P B C A:PV) (els:List PV) (hbk:σ[xb]?=some (.cells [P,B,C,A,a6k k hx els.length] TR)) (hls:σ[hx]?=some (a2K k T els))
variable (l:List O8) (E:PV) (hE:E.rowsOf 8=some (l.map O8.row)) (hl:l.length<=900) (n:Nat) (hn:1<=n) (bi:Nat) (hbi:bi < els.length) (b:W6) (v:Int)
include hbk hls hE hbi hl in
theorem c0S (t:Int):∀ d j,j+d=l.length->t < (j:Int)->∀ (O:PV) (o:List (List PV)),O.rowsOf 8=some o->o.length<=j+1->∀ fuel,
  ∃ O':PV,O'.rowsOf 8=some (o++(l.drop j).map O8.row)/\saleroomref16_Book_Put_S.loop (a0B Tab n) (fuel+d+1) 0 (a4T σ xb E O bi b v t (j:Int) true)=some (.int .i64 0,σ.set hx (a2K k T (els.set bi O'))):=by
 intro d
 induction d with
 | zero =>
  intro j hj ht O o hO ho fuel
  rw [Qq] at hj; subst hj
  refine ⟨O,by rw [Qr]; simpa using hO,?_⟩
  have:=c2L σ k xb hx T TR P B C A els hbk hls l E hE n bi hbi b v t true O o hO (by omega) fuel
  rw [if_pos rfl] at this
  exact this
 | succ d ih =>
  intro j hj ht O o hO ho fuel
  obtain ⟨x,hx'⟩:=a0W (show j < l.length by omega)
  obtain ⟨O',h1,h2⟩:=ih (j+1) (by omega) (by omega) (.sl 8 (o++[x.row])) (o++[x.row]) (a1v _ _) (by simp; omega) fuel
  refine ⟨O',by rw [h1,a3v hx']; simp,?_⟩
  rw [show fuel+(d+1)+1=(fuel+d+1)+1 from rfl,c0I σ xb l E hE n bi b v t hx' (by omega) true ⟨by omega,.inl rfl⟩ O o hO (by omega),<- a0Q]
  exact h2
include hbk hls hE hbi hl hn in
theorem c6I (t:Int) (ht:t < 0):∀ d j,j+d=l.length->∀ (O:PV) (o:List (List PV)),O.rowsOf 8=some o->o.length<=j->∀ fuel,
  ∃ O':PV,O'.rowsOf 8=some (o++(b9j (a4L bi b v) (l.drop j)).map O8.row)/\saleroomref16_Book_Put_S.loop (a0B Tab n) (fuel+d+1) 0 (a4T σ xb E O bi b v t (j:Int) false)=some (.int .i64 0,σ.set hx (a2K k T (els.set bi O'))):=by
 intro d
 induction d with
 | zero =>
  intro j hj O o hO ho fuel
  rw [Qq] at hj; subst hj
  refine ⟨.sl 8 (o++[(a4L bi b v).row]),by rw [Qr]; exact a1v _ _,?_⟩
  have:=c2L σ k xb hx T TR P B C A els hbk hls l E hE n bi hbi b v t false O o hO (by omega) fuel
  rw [if_neg (by simp)] at this
  exact this
 | succ d ih =>
  intro j hj O o hO ho fuel
  obtain ⟨x,hx'⟩:=a0W (show j < l.length by omega)
  have hs:=c6O σ xb l E hE n bi b v t hx' (by omega) ht hn O o hO (by omega) (fuel+d+1)
  rw [show fuel+(d+1)+1=(fuel+d+1)+1 from rfl,hs,a3v hx',b9j]
  have hwb:(a4L bi b v).w=wl b:=rfl
  rw [hwb]
  cases hk:ltK (wl b) x.w with
  | true =>
   obtain ⟨O',h1,h2⟩:=c0S σ k xb hx T TR P B C A els hbk hls l E hE hl n bi hbi b v t d (j+1) (by omega) (by omega) (.sl 8 (o++[(a4L bi b v).row]++[x.row])) (o++[(a4L bi b v).row]++[x.row]) (a1v _ _) (by simp; omega) fuel
   refine ⟨O',by rw [h1,if_pos rfl]; simp,?_⟩
   rw [if_pos rfl,<- a0Q]
   exact h2
  | false =>
   obtain ⟨O',h1,h2⟩:=ih (j+1) (by omega) (.sl 8 (o++[x.row])) (o++[x.row]) (a1v _ _) (by simp; omega) fuel
   refine ⟨O',by rw [h1,if_neg (by simp)]; simp,?_⟩
   rw [if_neg (by simp),<- a0Q]
   exact h2
include hbk hls hE hbi hl in
theorem c7c {t:Nat} {y:O8} (hy:l[t]?=some y):∀ d j,j+d=l.length->j<=t->∀ (O:PV) (o:List (List PV)),O.rowsOf 8=some o->o.length<=j->∀ fuel,
  ∃ O':PV,O'.rowsOf 8=some (o++((l.set t (a4L bi b (mxI y.v v))).drop j).map O8.row)/\saleroomref16_Book_Put_S.loop (a0B Tab n) (fuel+d+1) 0 (a4T σ xb E O bi b v (t:Int) (j:Int) false)=some (.int .i64 0,σ.set hx (a2K k T (els.set bi O'))):=by
 have htl:=(Qp.1 hy).1
 intro d
 induction d with
 | zero=>intro j hj h1; omega
 | succ d ih =>
  intro j hj hjt O o hO ho fuel
  by_cases he:j=t
  ·subst he
   obtain ⟨O',h1,h2⟩:=c0S σ k xb hx T TR P B C A els hbk hls l E hE hl n bi hbi b v (j:Int) d (j+1) (by omega) (by omega) (.sl 8 (o++[(a4L bi b (mxI y.v v)).row])) (o++[(a4L bi b (mxI y.v v)).row]) (a1v _ _) (by simp; omega) fuel
   refine ⟨O',?_,?_⟩
   ·rw [h1,a3v (l:=l.set j (a4L bi b (mxI y.v v))) (k:=j) (x:=a4L bi b (mxI y.v v)) (by simp [htl]),List.drop_set_of_lt (by omega)]
    simp
   ·rw [show fuel+(d+1)+1=(fuel+d+1)+1 from rfl,c6z σ xb l E hE n bi b v hy (by omega) false O o hO (by omega),<- a0Q]
    exact h2
  ·obtain ⟨x,hx'⟩:=a0W (show j < l.length by omega)
   obtain ⟨O',h1,h2⟩:=ih (j+1) (by omega) (by omega) (.sl 8 (o++[x.row])) (o++[x.row]) (a1v _ _) (by simp; omega) fuel
   refine ⟨O',?_,?_⟩
   ·rw [h1,a3v (l:=l.set t (a4L bi b (mxI y.v v))) (k:=j) (x:=x) (by rw [QC (fun h=>he h.symm)]; exact hx')]
    simp
   ·rw [show fuel+(d+1)+1=(fuel+d+1)+1 from rfl,c0I σ xb l E hE n bi b v (t:Int) hx' (by omega) false ⟨by omega,.inr (by omega)⟩ O o hO (by omega),<- a0Q]
    exact h2
end
end Go.Proofs.Ytflcopaopimlpaa
set_option maxRecDepth 100000
namespace Go.Proofs.Ytflcopaopimlpaa
open Go.Sx Go.Kv
theorem c0q (bi:Nat) (b:W6) (v:Int):a4L bi b v=kvO bi (wl b,v):=rfl
theorem lookQ_none {kv:KV} {k:List Int}:a0K kv k=none↔∀ p∈kv,p.1≠k:=by
 induction kv with
 | nil=>simp [a0K]
 | cons p l ih =>
  simp only [a0K]
  by_cases h:k=p.1
  ·rw [if_pos h]; simp [h]
  ·rw [if_neg h,ih]; simp; intro _ h2; exact h h2.symm
theorem c4N {kv:KV} (hs:∀ p∈kv,p.1.length=6) (i:Int) {k:List Int} (hk:k.length=6) (v:Int):b9j (kvO i (k,v)) (kv.map (kvO i))=(a3M kv (k,v)).map (kvO i):=by
 induction kv with
 | nil=>rfl
 | cons p l ih =>
  simp only [List.map_cons,b9j,a3M,b1I (i:=i) (p:=(k,v)) hk,b1I (i:=i) (hs p (by simp))]
  split
  ·simp
  ·rw [ih (fun q hq=>hs q (by simp [hq]))]; simp
theorem b8G {kv:KV} {k:List Int} (h:∀ p∈kv,p.1≠k):a3q kv k=kv:=by
 unfold a3q
 rw [QD]
 intro p hp
 simp [h p hp]
theorem b9t:∀ {kv:KV},Asc kv->∀ {t:Nat} {k:List Int} {v0:Int},kv[t]?=some (k,v0)->∀ v,a3B kv k v=kv.set t (k,v)
 | [],_,t,k,v0,h,v=>by simp at h
 | p::l,ha,0,k,v0,h,v=>by
  simp only [QE,Qu] at h
  subst h
  have h1:=QH.1 ha.lt
  have hd:a3q ((k,v0)::l) k=l:=by
   unfold a3q
   rw [List.filter_cons_of_neg (by simp),QD]
   intro q hq
   have:=h1.1 q hq
   simp only [Bool.not_eq_true',decide_eq_false_iff_not]
   intro he; rw [he,a3E] at this; cases this
  unfold a3B
  rw [hd,List.set_cons_zero]
  cases l with
  | nil=>rfl
  | cons q l=>simp only [a3M]; rw [if_pos (h1.1 q (by simp))]
 | p::l,ha,t+1,k,v0,h,v=>by
  simp only [List.getElem?_cons_succ] at h
  have h1:=QH.1 ha.lt
  have hlt:ltK p.1 k=true:=h1.1 (k,v0) (List.mem_of_getElem? h)
  have hne:¬ p.1=k:=fun he=>by rw [he,a3E] at hlt; cases hlt
  have hgt:ltK k p.1=false:=by
   cases hh:ltK k p.1 with
   | false=>rfl
   | true=>have:=a3X hlt hh; rw [a3E] at this; cases this
  have hd:a3q (p::l) k=p::a3q l k:=by unfold a3q; rw [List.filter_cons_of_pos (by simp [hne])]
  have ih:=b9t ha.tail h v
  unfold a3B at ih ⊢
  rw [hd,List.set_cons_succ,<- ih]
  simp only [a3M,hgt,Q1,if_false]
theorem b9v {kv:KV} (hs:∀ p∈kv,p.1.length=6) (i:Int) {k:List Int} (h:a0K kv k=none):plc (kv.map (kvO i)) k 0=-1:=by
 unfold plc
 rw [Qv,List.findIdx?_eq_none_iff.2]
 intro x hx
 obtain ⟨p,hp,rfl⟩:=List.mem_map.1 hx
 rw [b1I (hs p hp)]
 simp only [decide_eq_false_iff_not]
 exact lookQ_none.1 h p hp
theorem b5q {kv:KV} (hs:∀ p∈kv,p.1.length=6) (i:Int) {k:List Int} {v0:Int} (h:a0K kv k=some v0):∃ t:Nat,plc (kv.map (kvO i)) k 0=(t:Int)/\kv[t]?=some (k,v0):=by
 have key:∀ kv:KV,(∀ p∈kv,p.1.length=6)->a0K kv k=some v0->∃ t:Nat,(kv.map (kvO i)).findIdx? (fun x=>decide (x.w=k))=some t/\kv[t]?=some (k,v0):=by
  intro kv
  induction kv with
  | nil=>intro _ h; simp [a0K] at h
  | cons p l ih =>
   intro hs h
   simp only [a0K] at h
   rw [List.map_cons,Qw,b1I (hs p (by simp))]
   by_cases he:k=p.1
   ·rw [if_pos he] at h
    simp only [Qu] at h
    refine ⟨0,by simp [he],?_⟩
    rw [QE,he,<- h]
   ·rw [if_neg he] at h
    obtain ⟨t,h1,h2⟩:=ih (fun q hq=>hs q (by simp [hq])) h
    refine ⟨t+1,?_,by simpa using h2⟩
    rw [if_neg (by simp; exact fun h=>he h.symm),h1]; rfl
 obtain ⟨t,h1,h2⟩:=key kv hs h
 refine ⟨t,?_,h2⟩
 unfold plc
 rw [Qv,h1]
 simp
theorem b9J {kv:KV} (ha:Asc kv) {k:List Int} (v:Int):(a3B kv k v).length=if (a0K kv k).isSome=true then kv.length else kv.length+1:=by
 have hi:∀ (l:KV) (p:List Int × Int),(a3M l p).length=l.length+1:=by
  intro l p
  induction l with
  | nil=>rfl
  | cons q l ih=>simp only [a3M]; split<;>simp [ih]
 cases h:a0K kv k with
 | none=>unfold a3B; rw [hi,b8G (lookQ_none.1 h)]; simp
 | some v0 =>
  obtain ⟨t,_,h2⟩:=b5q ha.six 0 h
  rw [b9t ha h2]; simp
section
variable (σ:List MO) (k:Bool) (xb hx T TR:Nat) (ps:List Pr) (bs:List Bd) (cs ad:List Tri) (P B C A:PV) (hP:P.rowsOf 5=some (ps.map Pr.row)) (hB:B.rowsOf 4=some (bs.map Bd.row)) (hC:C.rowsOf 3=some (cs.map Tri.row)) (hA:A.rowsOf 3=some (ad.map Tri.row))
variable (els:List PV) (hbk:σ[xb]?=some (.cells [P,B,C,A,a6k k hx els.length] TR)) (hls:σ[hx]?=some (a2K k T els)) (n:Nat)
theorem b4W:(a6k k hx els.length).len=(els.length:Int)/\(a6k k hx els.length).isKind 0=true/\(a6k k hx els.length).one=true:=by cases k<;>exact ⟨rfl,rfl,rfl⟩
include hls in
theorem c3g {i:Nat} {e:PV} (he:els[i]?=some e) (h1:e.one=true):∃ loc,a1z (i:Int) 1 0 (a6k k hx els.length)=some loc/\a0o { i:=[],b:=[],v:=[],m:=σ,k:=0 } false 1 loc=some [e]:=by
 have hi:=(Qp.1 he).1
 cases k with
 | false =>
  simp only [a6k,a2K,Q1,if_false] at hls ⊢
  refine ⟨_,c0X hi,?_⟩
  simp only [a0o,Q1,if_false,hls,Q0,MO.list,a0z]
  rw [a3v he,if_pos (by simp)]
  simp
 | true =>
  simp only [a6k,a2K,if_true] at hls ⊢
  refine ⟨_,c0D hi,?_⟩
  simp only [a0o,Q1,if_false,hls,Q0,MO.elts,Qa,and_self,if_true]
  rw [QJ,he]
  simp [a0z]
end
end Go.Proofs.Ytflcopaopimlpaa
set_option maxRecDepth 100000
namespace Go.Proofs.Ytflcopaopimlpaa
open Go.Sx Go.Kv
section
variable (σ:List MO) (k:Bool) (xb hx T TR:Nat) (ps:List Pr) (bs:List Bd) (cs ad:List Tri) (P B C A:PV) (hP:P.rowsOf 5=some (ps.map Pr.row)) (hB:B.rowsOf 4=some (bs.map Bd.row)) (hC:C.rowsOf 3=some (cs.map Tri.row)) (hA:A.rowsOf 3=some (ad.map Tri.row))
variable (els:List PV) (hbk:σ[xb]?=some (.cells [P,B,C,A,a6k k hx els.length] TR)) (hls:σ[hx]?=some (a2K k T els)) (n:Nat)
include hbk in
theorem c6x {i:Int} (hi:(leB 0 i&&ltB i (els.length:Int))=false) (b:W6) (v:Int) (hn:2<=n) :
  a0B Tab n a1N [.ref xb 0,.int .i64 i,.agg b.pv,.int .i64 v] σ=some (.int .i64 6,σ):=by
 obtain ⟨n,rfl⟩:∃ k,n=k+1+1:=⟨n-2,by omega⟩
 obtain ⟨l1,l2,l3⟩:=b4W k hx els
 have g1:PV.isKind 1 (.ref xb 0)=true:=rfl
 rw [a0B]
 simp only [a4U,Q0,Sys.run,W6.pv]
 show ((a0E [.sh (.one _),.sh (.one _),.sh (.agg [_,_,_,_,_,_]),.sh (.one _)] _).bind _)=_
 simp -implicitDefEqProofs only [a0E,a0x,a0w,Qd,Q0,Qe,Qb,Qf,if_true,PV.one]
 show (PT.ev _ a0L _).bind _=_
 cases e1:ltB i 0 with
 | true=>simp -implicitDefEqProofs only [a0L,↓reduceIte,eq_self,ZF,ZG,ZH,ZI,ZJ,ZK,ZL,ZM,ZN,ZO,ZP,ZQ,ZR,ZS,ZT,ZU,ZV,ZW,ZX,ZY,Z2,Z3,Z4,Z5,Z6,Z7,Z8,Z9,Za,Zb,Zc,Zd,Ze,Zf,Zg,Zh,Nat.reduceAdd,Zi,if_true,if_false,Zl,Zm,Zn,Zo,Zp,Zq,Zr,Zs,Zt,Zu,Zv,Zw,Zx,Zy,Zz,ZA,ZB,ZC,ZD,ZE,e1,a0D,or_true]
 | false =>
  have e2:leB (els.length:Int) i=true:=by
   rw [a0I] at e1
   rw [a2n]
   rw [Bool.and_eq_false_iff] at hi
   rcases hi with h | h
   ·rw [a3H] at h; omega
   ·rw [a0I] at h; omega
  simp -implicitDefEqProofs only [a0L,↓reduceIte,eq_self,ZF,ZG,ZH,ZI,ZJ,ZK,ZL,ZM,ZN,ZO,ZP,ZQ,ZR,ZS,ZT,ZU,ZV,ZW,ZX,ZY,Z2,Z3,Z4,Z5,Z6,Z7,Z8,Z9,Za,Zb,Zc,Zd,Ze,Zf,Zg,Zh,Nat.reduceAdd,Zi,if_true,if_false,Zl,Zm,Zn,Zo,Zp,Zq,Zr,Zs,Zt,Zu,Zv,Zw,Zx,Zy,Zz,ZA,ZB,ZC,ZD,ZE,e1,e2,g1,hbk,MO.list,Nat.reduceLeDiff,Q2,Q3,l1,l2,l3,a0D,or_true]
set_option maxHeartbeats 4000000 in
include hP hB hC hA hbk hls in
theorem c4Z (hv:a5j ps bs cs ad=0) (hel:els.length=bs.length) {j:Nat} {E:PV} (hj:els[j]?=some E) {kv:KV} (hE:E.rowsOf 8=some ((kv.map (kvO j)).map O8.row)) (ha:Asc kv) (hk:kv.length<=40) (b:W6) (v:Int) (hn:1300<=n) :
  ∃ E':PV,E'.rowsOf 8=some (((a7l kv b v).map (kvO j)).map O8.row)/\a0B Tab n a1N [.ref xb 0,.int .i64 (j:Int),.agg b.pv,.int .i64 v] σ=some (.int .i64 (a6g ps bs cs ad kv (j:Int) b v),if a6g ps bs cs ad kv (j:Int) b v=0 then σ.set hx (a2K k T (els.set j E')) else σ):=by
 obtain ⟨n,rfl⟩:∃ k,n=k+1:=⟨n-1,by omega⟩
 have hjl:j < els.length:=(Qp.1 hj).1
 obtain ⟨l1,l2,l3⟩:=b4W k hx els
 obtain ⟨q1,q2,q3⟩:=a0C hE
 rw [Qa,Qa] at q1
 have k1:=b8V σ ps bs cs ad P B C A hP hB hC hA n hv (j:Int) b (by omega)
 have k2:=c3a σ (kv.map (kvO j)) E hE b n (by rw [Qa]; omega) (by omega)
 obtain ⟨loc,hloc,hr⟩:=c3g σ k hx T els hls hj q3
 simp -implicitDefEqProofs only [↓reduceIte,eq_self,ZF,ZG,ZH,ZI,ZJ,ZK,ZL,ZM,ZN,ZO,ZP,ZQ,ZR,ZS,ZT,ZU,ZV,ZW,ZX,ZY,Z2,Z3,Z4,Z5,Z6,Z7,Z8,Z9,Za,Zb,Zc,Zd,Ze,Zf,Zg,Zh,Nat.reduceAdd,Zi,if_true,if_false,Zl,Zm,Zn,Zo,Zp,Zq,Zr,Zs,Zt,Zu,Zv,Zw,Zx,Zy,Zz,ZA,ZB,ZC,ZD,ZE,MO.list,Nat.reduceLeDiff] at hr
 obtain ⟨p1,p2,p3⟩:=a0C hP
 obtain ⟨b1,b2,b3⟩:=a0C hB
 obtain ⟨c1,c2,c3⟩:=a0C hC
 obtain ⟨a1,a2,a3⟩:=a0C hA
 rw [Qa] at b1
 obtain ⟨y,hy⟩:=a0W (show j < bs.length by omega)
 have hby:(((bs[(j:Int).toNat]?).map Bd.b).getD 0)=y.b:=by rw [Qt,hy]; rfl
 have hq:=a0G (off:=2) hB (a1J hy)
 have hd':ltB (j:Int) (bs.length:Int)=true:=by rw [a0U]; omega
 have hdh:ltB (j:Int) (els.length:Int)=true:=by rw [a0U]; omega
 have hdl:leB (els.length:Int) (j:Int)=false:=by rw [a3H]; omega
 have hd0:ltB (j:Int) 0=false:=by rw [a0I]; omega
 have g1:PV.isKind 1 (.ref xb 0)=true:=rfl
 obtain ⟨d1,d2,d3⟩:=bdr (.str y.nm) (.int .i64 y.c) (.int .i64 y.b) (.int .i64 y.p)
 have lek:leB 40 (kv.length:Int)=decide (40<=kv.length):=by unfold leB; exact decide_eq_decide.2 (by omega)
 have fin:1<=v->∃ E':PV,E'.rowsOf 8=some (((a7l kv b v).map (kvO j)).map O8.row)/\saleroomref16_Book_Put_S.loop (a0B Tab n) n 0 (a4T σ xb E .nilS j b v (plc (kv.map (kvO j)) (wl b) 0) 0 false)=some (.int .i64 0,σ.set hx (a2K k T (els.set j E'))):=by
  intro hv1
  have hlm:(kv.map (kvO j)).length<=900:=by rw [Qa]; omega
  obtain ⟨f,hf⟩:∃ f,n=f+(kv.map (kvO j)).length+1:=⟨n-(kv.map (kvO j)).length-1,by omega⟩
  cases hlk:a0K kv (wl b) with
  | none =>
   have hp:=b9v ha.six j hlk
   rw [hp]
   obtain ⟨E',h1,h2⟩:=c6I σ k xb hx T TR P B C A els hbk hls (kv.map (kvO j)) E hE hlm n (by omega) j hjl b v (-1) (by omega) (kv.map (kvO j)).length 0 (by omega) .nilS [] rfl (by simp) f
   rw [<- hf] at h2
   refine ⟨E',?_,h2⟩
   rw [h1,Qv,c0q,c4N ha.six j rfl,a7l,hlk]
   have:mxI ((none:Option Int).getD 0) v=v:=by show mxI 0 v=v; unfold mxI; rw [if_pos (by omega)]
   rw [this,a3B,b8G (lookQ_none.1 hlk),Qb]
  | some v0 =>
   obtain ⟨t,hp,ht⟩:=b5q ha.six j hlk
   rw [hp]
   have hy':(kv.map (kvO j))[t]?=some (kvO j (wl b,v0)):=by rw [QJ,ht]; rfl
   obtain ⟨E',h1,h2⟩:=c7c σ k xb hx T TR P B C A els hbk hls (kv.map (kvO j)) E hE hlm n j hjl b v hy' (kv.map (kvO j)).length 0 (by omega) (Nat.zero_le _) .nilS [] rfl (by simp) f
   rw [<- hf] at h2
   refine ⟨E',?_,h2⟩
   rw [h1,Qv,c0q,a7l,hlk,Qb]
   have hv0:(kvO j (wl b,v0)).v=v0:=rfl
   rw [hv0,show (some v0).getD 0=v0 from rfl,b9t ha ht]
   simp only [List.map_set]
 simp only [a5Q,a6x,W6.pv] at k1 k2
 have dich:∀ x:Bool,x=true\/x=false:=fun x=>by cases x<;>simp
 have triv:∃ E':PV,E'.rowsOf 8=some (((a7l kv b v).map (kvO j)).map O8.row):=⟨.sl 8 _,a1v _ _⟩
 have hz:(eqB b.a 0&&(eqB b.b 0&&(eqB b.c 0&&(eqB b.d 0&&(eqB b.e 0&&eqB b.f 0)))))=w0B b:=rfl
 unfold a6g
 rw [hby,a0B]
 simp only [a4U,Q0,Sys.run,W6.pv]
 show ∃ E':PV,_/\((a0E [.sh (.one _),.sh (.one _),.sh (.agg [_,_,_,_,_,_]),.sh (.one _)] _).bind _)=_
 simp -implicitDefEqProofs only [a0E,a0x,a0w,Qd,Q0,Qe,Qb,Qf,if_true,PV.one]
 show ∃ E':PV,_/\(PT.ev _ a0L _).bind _=_
 rcases dich (ltB v 1) with e1 | e1
 ·refine triv.imp fun E' h=>⟨h,?_⟩
  simp -implicitDefEqProofs only [a0L,↓reduceIte,eq_self,ZF,ZG,ZH,ZI,ZJ,ZK,ZL,ZM,ZN,ZO,ZP,ZQ,ZR,ZS,ZT,ZU,ZV,ZW,ZX,ZY,Z2,Z3,Z4,Z5,Z6,Z7,Z8,Z9,Za,Zb,Zc,Zd,Ze,Zf,Zg,Zh,Nat.reduceAdd,Zi,if_true,if_false,Zl,Zm,Zn,Zo,Zp,Zq,Zr,Zs,Zt,Zu,Zv,Zw,Zx,Zy,Zz,ZA,ZB,ZC,ZD,ZE,e1,g1,hbk,MO.list,Nat.reduceLeDiff,Q2,Q3,l1,l2,l3,hdl,hd0,hdh,le0,hloc,hr,q3,b1,hd',hq,a1o,d2,b3,p3,c3,a3,k1,show eqB 0 0=true from rfl,a0D,or_true,if_true,if_false,Q1,Int.reduceEq,Q4,Q5,Q6,Q7,Q8,Q9]
 have hv1:1<=v:=by rw [a0I] at e1; omega
 rcases dich (ltB 1000000 v) with e2 | e2
 ·refine triv.imp fun E' h=>⟨h,?_⟩
  simp -implicitDefEqProofs only [a0L,↓reduceIte,eq_self,ZF,ZG,ZH,ZI,ZJ,ZK,ZL,ZM,ZN,ZO,ZP,ZQ,ZR,ZS,ZT,ZU,ZV,ZW,ZX,ZY,Z2,Z3,Z4,Z5,Z6,Z7,Z8,Z9,Za,Zb,Zc,Zd,Ze,Zf,Zg,Zh,Nat.reduceAdd,Zi,if_true,if_false,Zl,Zm,Zn,Zo,Zp,Zq,Zr,Zs,Zt,Zu,Zv,Zw,Zx,Zy,Zz,ZA,ZB,ZC,ZD,ZE,e1,e2,g1,hbk,MO.list,Nat.reduceLeDiff,Q2,Q3,l1,l2,l3,hdl,hd0,hdh,le0,hloc,hr,q3,b1,hd',hq,a1o,d2,b3,p3,c3,a3,k1,show eqB 0 0=true from rfl,a0D,or_true,if_true,if_false,Q1,Int.reduceEq,Q4,Q5,Q6,Q7,Q8,Q9]
 by_cases e3:a7W ps bs cs ad (j:Int) b=0
 case neg =>
  refine triv.imp fun E' h=>⟨h,?_⟩
  have e3':eqB (a7W ps bs cs ad (j:Int) b) 0=false:=decide_eq_false e3
  simp -implicitDefEqProofs only [a0L,↓reduceIte,eq_self,ZF,ZG,ZH,ZI,ZJ,ZK,ZL,ZM,ZN,ZO,ZP,ZQ,ZR,ZS,ZT,ZU,ZV,ZW,ZX,ZY,Z2,Z3,Z4,Z5,Z6,Z7,Z8,Z9,Za,Zb,Zc,Zd,Ze,Zf,Zg,Zh,Nat.reduceAdd,Zi,if_true,if_false,Zl,Zm,Zn,Zo,Zp,Zq,Zr,Zs,Zt,Zu,Zv,Zw,Zx,Zy,Zz,ZA,ZB,ZC,ZD,ZE,e1,e2,e3',if_neg e3,g1,hbk,MO.list,Nat.reduceLeDiff,Q2,Q3,l1,l2,l3,hdl,hd0,hdh,le0,hloc,hr,q3,b1,hd',hq,a1o,d2,b3,p3,c3,a3,k1,show eqB 0 0=true from rfl,a0D,or_true,if_true,if_false,Q1,Int.reduceEq,Q4,Q5,Q6,Q7,Q8,Q9]
 rw [e3] at k1
 rw [e3]
 rcases dich (w0B b) with e4 | e4
 ·refine triv.imp fun E' h=>⟨h,?_⟩
  simp -implicitDefEqProofs only [a0L,↓reduceIte,eq_self,ZF,ZG,ZH,ZI,ZJ,ZK,ZL,ZM,ZN,ZO,ZP,ZQ,ZR,ZS,ZT,ZU,ZV,ZW,ZX,ZY,Z2,Z3,Z4,Z5,Z6,Z7,Z8,Z9,Za,Zb,Zc,Zd,Ze,Zf,Zg,Zh,Nat.reduceAdd,Zi,if_true,if_false,Zl,Zm,Zn,Zo,Zp,Zq,Zr,Zs,Zt,Zu,Zv,Zw,Zx,Zy,Zz,ZA,ZB,ZC,ZD,ZE,e1,e2,hz,e4,g1,hbk,MO.list,Nat.reduceLeDiff,Q2,Q3,l1,l2,l3,hdl,hd0,hdh,le0,hloc,hr,q3,b1,hd',hq,a1o,d2,b3,p3,c3,a3,k1,show eqB 0 0=true from rfl,a0D,or_true,if_true,if_false,Q1,Int.reduceEq,Q4,Q5,Q6,Q7,Q8,Q9]
 have e40:ltB (-1) 0=true:=rfl
 obtain ⟨E',f1,f2⟩:=fin hv1
 simp only [a4T] at f2
 have bud:∀ c:Bool,eqB y.b 0=c->(c=true\/ltB y.b v=false)->∃ E':PV,E'.rowsOf 8=some (((a7l kv b v).map (kvO j)).map O8.row)/\(PT.ev (a0B Tab n) a0L { i:=[(j:Int),b.a,b.b,b.c,b.d,b.e,b.f,v],b:=[],v:=[.ref xb 0],m:=σ,k:=σ.length }).bind (fun x=>match x with
   | Res.ret r σ=>some (r,σ)
   | Res.jump q' ρ'=>Sys.loop (a0B Tab n) saleroomref16_Book_Put_S n q' ρ')=some (.int .i64 (if (!((a0K kv (wl b)).isSome)&&decide (40<=kv.length))=true then 3 else 0),if (if (!((a0K kv (wl b)).isSome)&&decide (40<=kv.length))=true then (3:Int) else 0)=0 then σ.set hx (a2K k T (els.set j E')) else σ):=by
  intro c hc hcv
  refine ⟨E',f1,?_⟩
  cases hlk:a0K kv (wl b) with
  | none =>
   have hp:=b9v ha.six j hlk
   rw [hp] at k2 f2
   have hs:(none:Option Int).isSome=false:=rfl
   rcases dich (decide (40<=kv.length)) with e5 | e5
   ·cases c with
    | true=>simp -implicitDefEqProofs only [a0L,↓reduceIte,eq_self,ZF,ZG,ZH,ZI,ZJ,ZK,ZL,ZM,ZN,ZO,ZP,ZQ,ZR,ZS,ZT,ZU,ZV,ZW,ZX,ZY,Z2,Z3,Z4,Z5,Z6,Z7,Z8,Z9,Za,Zb,Zc,Zd,Ze,Zf,Zg,Zh,Nat.reduceAdd,Zi,if_true,if_false,Zl,Zm,Zn,Zo,Zp,Zq,Zr,Zs,Zt,Zu,Zv,Zw,Zx,Zy,Zz,ZA,ZB,ZC,ZD,ZE,e1,e2,hz,e4,hc,e5,e40,hs,g1,hbk,MO.list,Nat.reduceLeDiff,Q2,Q3,l1,l2,l3,hdl,hd0,hdh,le0,hloc,hr,q1,q2,q3,b1,hd',hq,a1o,d2,b3,p3,c3,a3,k1,k2,lek,show eqB 0 0=true from rfl,a0D,or_true,if_true,if_false,Q1,Int.reduceEq,Q4,Q5,Q6,Q7,Q8,Q9]
    | false =>
     have hcv:ltB y.b v=false:=by simpa using hcv
     simp -implicitDefEqProofs only [a0L,↓reduceIte,eq_self,ZF,ZG,ZH,ZI,ZJ,ZK,ZL,ZM,ZN,ZO,ZP,ZQ,ZR,ZS,ZT,ZU,ZV,ZW,ZX,ZY,Z2,Z3,Z4,Z5,Z6,Z7,Z8,Z9,Za,Zb,Zc,Zd,Ze,Zf,Zg,Zh,Nat.reduceAdd,Zi,if_true,if_false,Zl,Zm,Zn,Zo,Zp,Zq,Zr,Zs,Zt,Zu,Zv,Zw,Zx,Zy,Zz,ZA,ZB,ZC,ZD,ZE,e1,e2,hz,e4,hc,hcv,e5,e40,hs,g1,hbk,MO.list,Nat.reduceLeDiff,Q2,Q3,l1,l2,l3,hdl,hd0,hdh,le0,hloc,hr,q1,q2,q3,b1,hd',hq,a1o,d2,b3,p3,c3,a3,k1,k2,lek,show eqB 0 0=true from rfl,a0D,or_true,if_true,if_false,Q1,Int.reduceEq,Q4,Q5,Q6,Q7,Q8,Q9]
   ·cases c with
    | true =>
     simp -implicitDefEqProofs only [a0L,↓reduceIte,eq_self,ZF,ZG,ZH,ZI,ZJ,ZK,ZL,ZM,ZN,ZO,ZP,ZQ,ZR,ZS,ZT,ZU,ZV,ZW,ZX,ZY,Z2,Z3,Z4,Z5,Z6,Z7,Z8,Z9,Za,Zb,Zc,Zd,Ze,Zf,Zg,Zh,Nat.reduceAdd,Zi,if_true,if_false,Zl,Zm,Zn,Zo,Zp,Zq,Zr,Zs,Zt,Zu,Zv,Zw,Zx,Zy,Zz,ZA,ZB,ZC,ZD,ZE,e1,e2,hz,e4,hc,e5,e40,hs,g1,hbk,MO.list,Nat.reduceLeDiff,Q2,Q3,l1,l2,l3,hdl,hd0,hdh,le0,hloc,hr,q1,q2,q3,b1,hd',hq,a1o,d2,b3,p3,c3,a3,k1,k2,lek,show eqB 0 0=true from rfl,a0D,or_true,if_true,if_false,Q1,Int.reduceEq,Q4,Q5,Q6,Q7,Q8,Q9]
     exact f2
    | false =>
     have hcv:ltB y.b v=false:=by simpa using hcv
     simp -implicitDefEqProofs only [a0L,↓reduceIte,eq_self,ZF,ZG,ZH,ZI,ZJ,ZK,ZL,ZM,ZN,ZO,ZP,ZQ,ZR,ZS,ZT,ZU,ZV,ZW,ZX,ZY,Z2,Z3,Z4,Z5,Z6,Z7,Z8,Z9,Za,Zb,Zc,Zd,Ze,Zf,Zg,Zh,Nat.reduceAdd,Zi,if_true,if_false,Zl,Zm,Zn,Zo,Zp,Zq,Zr,Zs,Zt,Zu,Zv,Zw,Zx,Zy,Zz,ZA,ZB,ZC,ZD,ZE,e1,e2,hz,e4,hc,hcv,e5,e40,hs,g1,hbk,MO.list,Nat.reduceLeDiff,Q2,Q3,l1,l2,l3,hdl,hd0,hdh,le0,hloc,hr,q1,q2,q3,b1,hd',hq,a1o,d2,b3,p3,c3,a3,k1,k2,lek,show eqB 0 0=true from rfl,a0D,or_true,if_true,if_false,Q1,Int.reduceEq,Q4,Q5,Q6,Q7,Q8,Q9]
     exact f2
  | some v0 =>
   obtain ⟨t,hp,ht⟩:=b5q ha.six j hlk
   rw [hp] at k2 f2
   have hs:(some v0).isSome=true:=rfl
   have e6:ltB (t:Int) 0=false:=by rw [a0I]; omega
   cases c with
   | true =>
    simp -implicitDefEqProofs only [a0L,↓reduceIte,eq_self,ZF,ZG,ZH,ZI,ZJ,ZK,ZL,ZM,ZN,ZO,ZP,ZQ,ZR,ZS,ZT,ZU,ZV,ZW,ZX,ZY,Z2,Z3,Z4,Z5,Z6,Z7,Z8,Z9,Za,Zb,Zc,Zd,Ze,Zf,Zg,Zh,Nat.reduceAdd,Zi,if_true,if_false,Zl,Zm,Zn,Zo,Zp,Zq,Zr,Zs,Zt,Zu,Zv,Zw,Zx,Zy,Zz,ZA,ZB,ZC,ZD,ZE,e1,e2,hz,e4,hc,e6,hs,g1,hbk,MO.list,Nat.reduceLeDiff,Q2,Q3,l1,l2,l3,hdl,hd0,hdh,le0,hloc,hr,q1,q2,q3,b1,hd',hq,a1o,d2,b3,p3,c3,a3,k1,k2,lek,show eqB 0 0=true from rfl,a0D,or_true,if_true,if_false,Q1,Int.reduceEq,Q4,Q5,Q6,Q7,Q8,Q9]
    exact f2
   | false =>
    have hcv:ltB y.b v=false:=by simpa using hcv
    simp -implicitDefEqProofs only [a0L,↓reduceIte,eq_self,ZF,ZG,ZH,ZI,ZJ,ZK,ZL,ZM,ZN,ZO,ZP,ZQ,ZR,ZS,ZT,ZU,ZV,ZW,ZX,ZY,Z2,Z3,Z4,Z5,Z6,Z7,Z8,Z9,Za,Zb,Zc,Zd,Ze,Zf,Zg,Zh,Nat.reduceAdd,Zi,if_true,if_false,Zl,Zm,Zn,Zo,Zp,Zq,Zr,Zs,Zt,Zu,Zv,Zw,Zx,Zy,Zz,ZA,ZB,ZC,ZD,ZE,e1,e2,hz,e4,hc,hcv,e6,hs,g1,hbk,MO.list,Nat.reduceLeDiff,Q2,Q3,l1,l2,l3,hdl,hd0,hdh,le0,hloc,hr,q1,q2,q3,b1,hd',hq,a1o,d2,b3,p3,c3,a3,k1,k2,lek,show eqB 0 0=true from rfl,a0D,or_true,if_true,if_false,Q1,Int.reduceEq,Q4,Q5,Q6,Q7,Q8,Q9]
    exact f2
 rcases dich (eqB y.b 0) with e7 | e7
 ·obtain ⟨E'',h1,h2⟩:=bud true e7 (.inl rfl)
  refine ⟨E'',h1,?_⟩
  simp only [e1,e2,e4,e7,Q1,if_false,if_true,Q4,Q7]
  exact h2
 ·rcases dich (ltB y.b v) with e8 | e8
  ·refine triv.imp fun E' h=>⟨h,?_⟩
   simp -implicitDefEqProofs only [a0L,↓reduceIte,eq_self,ZF,ZG,ZH,ZI,ZJ,ZK,ZL,ZM,ZN,ZO,ZP,ZQ,ZR,ZS,ZT,ZU,ZV,ZW,ZX,ZY,Z2,Z3,Z4,Z5,Z6,Z7,Z8,Z9,Za,Zb,Zc,Zd,Ze,Zf,Zg,Zh,Nat.reduceAdd,Zi,if_true,if_false,Zl,Zm,Zn,Zo,Zp,Zq,Zr,Zs,Zt,Zu,Zv,Zw,Zx,Zy,Zz,ZA,ZB,ZC,ZD,ZE,e1,e2,hz,e4,e7,e8,g1,hbk,MO.list,Nat.reduceLeDiff,Q2,Q3,l1,l2,l3,hdl,hd0,hdh,le0,hloc,hr,q1,q2,q3,b1,hd',hq,a1o,d2,b3,p3,c3,a3,k1,k2,lek,show eqB 0 0=true from rfl,a0D,or_true,if_true,if_false,Q1,Int.reduceEq,Q4,Q5,Q6,Q7,Q8,Q9]
  ·obtain ⟨E'',h1,h2⟩:=bud false e7 (.inr e8)
   refine ⟨E'',h1,?_⟩
   simp only [e1,e2,e4,e7,e8,Q1,if_false,if_true,Q5,Q6]
   exact h2
end
end Go.Proofs.Ytflcopaopimlpaa
set_option maxRecDepth 100000
namespace Go.Proofs.Ytflcopaopimlpaa
open Go.Sx Go.Kv
section
variable (σ:List MO) (l:List O8) (X Y:PV) (hX:X.rowsOf 8=some (l.map O8.row)) (hY:Y.rowsOf 8=some (l.map O8.row)) (hl:l.length<=1000) (n:Nat)
def c4L (σ:List MO) (X Y:PV) (j:Int):PEnv:={ i:=[j],b:=[],v:=[X,Y],m:=σ,k:=σ.length }
include hX hY hl in
theorem c2r:∀ d j,j+d=l.length->∀ fuel,saleroomref16_Same_S.loop (a0B Tab n) (fuel+d+1) 0 (c4L σ X Y (j:Int))=some (.bool true,σ):=by
 obtain ⟨p1,p2,p3⟩:=a0C hX
 obtain ⟨r1,r2,r3⟩:=a0C hY
 rw [Qa] at p1 r1
 intro d
 induction d with
 | zero =>
  intro j hj fuel
  rw [Qq] at hj; subst hj
  have hd:decide (l.length < l.length)=false:=by simp
  rw [Sys.loop,show saleroomref16_Same_S.loops[0]?=some a2F from rfl]
  simp -implicitDefEqProofs only [Q0,c4L,a2F,↓reduceIte,eq_self,ZF,ZG,ZH,ZI,ZJ,ZK,ZL,ZM,ZN,ZO,ZP,ZQ,ZR,ZS,ZT,ZU,ZV,ZW,ZX,ZY,Z2,Z3,Z4,Z5,Z6,Z7,Z8,Z9,Za,Zb,Zc,Zd,Ze,Zf,Zg,Zh,Nat.reduceAdd,Zi,if_true,if_false,Zl,Zm,Zn,Zo,Zp,Zq,Zr,Zs,Zt,Zu,Zv,Zw,Zx,Zy,Zz,ZA,ZB,ZC,ZD,ZE,p1,p2,a0F,hd,a0D,or_true]
 | succ d ih =>
  intro j hj fuel
  obtain ⟨x,hx⟩:=a0W (show j < l.length by omega)
  have hd:decide (j < l.length)=true:=decide_eq_true (by omega)
  have hq:=a0G (off:=0) hX (a2T hx)
  have hr:=a0G (off:=0) hY (a2T hx)
  have hup:=a1y (show j<=1000000000 by omega)
  have ih:=ih (j+1) (by omega) fuel
  rw [a0Q] at ih
  rw [<- ih,show fuel+(d+1)+1=(fuel+d+1)+1 from rfl,Sys.loop,show saleroomref16_Same_S.loops[0]?=some a2F from rfl]
  simp -implicitDefEqProofs only [Q0,c4L,a2F,↓reduceIte,eq_self,ZF,ZG,ZH,ZI,ZJ,ZK,ZL,ZM,ZN,ZO,ZP,ZQ,ZR,ZS,ZT,ZU,ZV,ZW,ZX,ZY,Z2,Z3,Z4,Z5,Z6,Z7,Z8,Z9,Za,Zb,Zc,Zd,Ze,Zf,Zg,Zh,Nat.reduceAdd,Zi,if_true,if_false,Zl,Zm,Zn,Zo,Zp,Zq,Zr,Zs,Zt,Zu,Zv,Zw,Zx,Zy,Zz,ZA,ZB,ZC,ZD,ZE,p1,p2,r1,r2,a0F,hd,le0,hq,hr,a4z,Nat.reduceLeDiff,a7s,if_pos hup]
include hX hY hl in
theorem b9k (hn:1010<=n):a0B Tab n a6P [X,Y] σ=some (.bool true,σ):=by
 obtain ⟨n,rfl⟩:∃ k,n=k+1:=⟨n-1,by omega⟩
 obtain ⟨p1,p2,p3⟩:=a0C hX
 obtain ⟨r1,r2,r3⟩:=a0C hY
 rw [Qa] at p1 r1
 obtain ⟨f,hf⟩:∃ f,n=f+l.length+1:=⟨n-l.length-1,by omega⟩
 have k:=c2r σ l X Y hX hY hl n l.length 0 (by omega) f
 rw [<- hf] at k
 rw [a0B]
 simp only [b0t,Q0,Sys.run]
 show ((a0E [.sh (.one _),.sh (.one _)] _).bind _)=_
 simp -implicitDefEqProofs only [a0E,a0x,a0w,Qd,Q0,Qe,Qb,Qf,if_true,p3,r3]
 show (PT.ev _ a4K _).bind _=_
 simp -implicitDefEqProofs only [a4K,↓reduceIte,eq_self,ZF,ZG,ZH,ZI,ZJ,ZK,ZL,ZM,ZN,ZO,ZP,ZQ,ZR,ZS,ZT,ZU,ZV,ZW,ZX,ZY,Z2,Z3,Z4,Z5,Z6,Z7,Z8,Z9,Za,Zb,Zc,Zd,Ze,Zf,Zg,Zh,Nat.reduceAdd,Zi,if_true,if_false,Zl,Zm,Zn,Zo,Zp,Zq,Zr,Zs,Zt,Zu,Zv,Zw,Zx,Zy,Zz,ZA,ZB,ZC,ZD,ZE,p1,p2,r1,r2,a7s]
 exact k
end
section
variable (σ:List MO) (ps:List Pr) (bs:List Bd) (cs ad:List Tri) (P B C A:PV) (hP:P.rowsOf 5=some (ps.map Pr.row)) (hB:B.rowsOf 4=some (bs.map Bd.row)) (hC:C.rowsOf 3=some (cs.map Tri.row)) (hA:A.rowsOf 3=some (ad.map Tri.row)) (n:Nat)
theorem c3K (n:Nat):(Qs n [PV.nilS]).flatten=Qs n .nilS:=by
 induction n with
 | zero=>rfl
 | succ n ih=>rw [List.replicate_succ,List.flatten_cons,ih]; rfl
include hP hB hC hA in
theorem d2Z (hv:¬ a5j ps bs cs ad=0) (hn:1200<=n):a0B Tab n a7f [.agg [P,B,C,A]] σ=some (.tup [.nilP,.int .i64 (a5j ps bs cs ad)],σ):=by
 obtain ⟨n,rfl⟩:∃ k,n=k+1:=⟨n-1,by omega⟩
 obtain ⟨p1,p2,p3⟩:=a0C hP
 obtain ⟨b1,b2,b3⟩:=a0C hB
 obtain ⟨c1,c2,c3⟩:=a0C hC
 obtain ⟨a1,a2,a3⟩:=a0C hA
 have k1:=a5m σ ps bs cs ad P B C A hP hB hC hA n (by omega)
 simp only [a2B] at k1
 have e1:eqB (a5j ps bs cs ad) 0=false:=decide_eq_false hv
 rw [a0B]
 simp only [b1m,Q0,Sys.run]
 show ((a0E [.sh (.agg [_,_,_,_])] _).bind _)=_
 simp -implicitDefEqProofs only [a0E,a0x,a0w,Qd,Q0,Qe,Qb,Qf,if_true,p3,b3,c3,a3]
 show (PT.ev _ a5e _).bind _=_
 simp -implicitDefEqProofs only [a5e,↓reduceIte,eq_self,ZF,ZG,ZH,ZI,ZJ,ZK,ZL,ZM,ZN,ZO,ZP,ZQ,ZR,ZS,ZT,ZU,ZV,ZW,ZX,ZY,Z2,Z3,Z4,Z5,Z6,Z7,Z8,Z9,Za,Zb,Zc,Zd,Ze,Zf,Zg,Zh,Nat.reduceAdd,Zi,if_true,if_false,Zl,Zm,Zn,Zo,Zp,Zq,Zr,Zs,Zt,Zu,Zv,Zw,Zx,Zy,Zz,ZA,ZB,ZC,ZD,ZE,k1,e1,a0D,true_or,if_true]
include hP hB hC hA in
theorem c3N (hv:a5j ps bs cs ad=0) (hbl:bs.length<=1000) (hn:1200<=n):a0B Tab n a7f [.agg [P,B,C,A]] σ=some (.tup [.ref (σ.length+1) 0,.int .i64 0],σ++[.cells (Qs bs.length .nilS) 41,.cells [P,B,C,A,.msl σ.length 0 bs.length bs.length 1] 72]):=by
 obtain ⟨n,rfl⟩:∃ k,n=k+1:=⟨n-1,by omega⟩
 obtain ⟨p1,p2,p3⟩:=a0C hP
 obtain ⟨b1,b2,b3⟩:=a0C hB
 obtain ⟨c1,c2,c3⟩:=a0C hC
 obtain ⟨a1,a2,a3⟩:=a0C hA
 rw [Qa] at b1
 have k1:=a5m σ ps bs cs ad P B C A hP hB hC hA n (by omega)
 rw [hv] at k1
 simp only [a2B] at k1
 have e1:eqB 0 0=true:=rfl
 have u1:(0:Int)<=(bs.length:Int)/\(bs.length:Int)<=1000000/\True:=⟨by omega,by omega,trivial⟩
 have u2:((bs.length:Int)).toNat=bs.length:=Qt _
 rw [a0B]
 simp only [b1m,Q0,Sys.run]
 show ((a0E [.sh (.agg [_,_,_,_])] _).bind _)=_
 simp -implicitDefEqProofs only [a0E,a0x,a0w,Qd,Q0,Qe,Qb,Qf,if_true,p3,b3,c3,a3]
 show (PT.ev _ a5e _).bind _=_
 simp -implicitDefEqProofs only [a5e,↓reduceIte,eq_self,ZF,ZG,ZH,ZI,ZJ,ZK,ZL,ZM,ZN,ZO,ZP,ZQ,ZR,ZS,ZT,ZU,ZV,ZW,ZX,ZY,Z2,Z3,Z4,Z5,Z6,Z7,Z8,Z9,Za,Zb,Zc,Zd,Ze,Zf,Zg,Zh,Nat.reduceAdd,Zi,if_true,if_false,Zl,Zm,Zn,Zo,Zp,Zq,Zr,Zs,Zt,Zu,Zv,Zw,Zx,Zy,Zz,ZA,ZB,ZC,ZD,ZE,k1,e1,b1,b2,if_pos u1,u2,c3K,a0D,true_or,if_true,Nat.reduceLeDiff,Qy,QK]
 rfl
end
end Go.Proofs.Ytflcopaopimlpaa
set_option maxRecDepth 100000
namespace Go.Proofs.Ytflcopaopimlpaa
open Go.Sx Go.Kv
theorem c2o (n:Nat) (σ:List MO) {p b c a:PV} (h1:clB 5 p=true) (h2:clB 4 b=true) (h3:clB 3 c=true) (h4:clB 3 a=true):a0B Tab (n+2) b0e [.agg [p,b,c,a]] σ=some (.agg [p,b,c,a],σ):=by
 obtain ⟨c1,o1⟩:=a3z h1
 obtain ⟨c2,o2⟩:=a3z h2
 obtain ⟨c3,o3⟩:=a3z h3
 obtain ⟨c4,o4⟩:=a3z h4
 have e1:a0B Tab (n+1) 46 [p] σ=some (p,σ):=c1 σ
 have e2:a0B Tab (n+1) 47 [b] σ=some (b,σ):=c2 σ
 have e3:a0B Tab (n+1) 48 [c] σ=some (c,σ):=c3 σ
 have e4:a0B Tab (n+1) 49 [a] σ=some (a,σ):=c4 σ
 rw [a0B]
 simp only [b4g,Q0,Sys.run]
 show ((a0E [.sh (.agg [_,_,_,_])] _).bind _)=_
 simp -implicitDefEqProofs only [a0E,a0x,a0w,Qd,Q0,Qe,Qb,Qf,if_true,o1,o2,o3,o4]
 show (PT.ev _ a3Z _).bind _=_
 simp -implicitDefEqProofs only [a3Z,↓reduceIte,eq_self,Z1,Z2,Z3,Z4,Z5,Z6,Z7,Z8,Z9,Za,Zb,Zc,Zd,Ze,Zf,Zg,Zh,Nat.reduceAdd,Zi,if_true,if_false,Zl,Zm,Zn,Zo,Zp,Zq,Zr,Zs,Zt,Zu,Zv,Zw,Zx,Zy,Zz,ZA,ZB,ZC,ZD,ZE,e1,e2,e3,e4,o1,o2,o3,o4,a0D,or_true]
def nh (k i:Nat):Nat:=if i=0 then k+1 else k+2+i
def a6c (k j:Nat):List (List PV):=(List.range j).map fun i=>[PV.mp (nh k i)]
def nbO (k:Nat) (p b c a:PV):Nat->List MO
 | 0=>[.cells [p,b,c,a,.nilS] 68]
 | j+1=>.cells [p,b,c,a,.rsl (k+2) (j+1) 1] 68::.mq [] 0::.row (a6c k (j+1)) 1 69::Qs j (.mq [] 0)
theorem c2z (k j:Nat):(a6c k j).length=j:=by simp [a6c]
theorem c1y (k j:Nat):a6c k (j+1)=a6c k j++[[.mp (nh k j)]]:=by simp [a6c,QL]
section
variable (σ:List MO) (P B C A:PV) (n:Nat)
def b7x (σ M:List MO) (N j:Int):PEnv:={ i:=[N,j],b:=[],v:=[.ref σ.length 0],m:=M,k:=σ.length }
theorem c6e {N:Nat} (j:Nat) (hj:j < N) (hN:N<=1000) (fuel:Nat) :
  bidbook_New_S.loop (a0B Tab n) (fuel+1) 0 (b7x σ (σ++nbO σ.length P B C A j) (N:Int) (j:Int))=bidbook_New_S.loop (a0B Tab n) fuel 0 (b7x σ (σ++nbO σ.length P B C A (j+1)) (N:Int) ((j:Int)+1)):=by
 have hd:decide (j < N)=true:=decide_eq_true hj
 have hup:=a1y (show j<=1000000000 by omega)
 rw [Sys.loop,show bidbook_New_S.loops[0]?=some a3I from rfl]
 cases j with
 | zero =>
  have f0:(σ++nbO σ.length P B C A 0)[σ.length]?=some (.cells [P,B,C,A,.nilS] 68):=by simp [nbO]
  have f1:(σ++nbO σ.length P B C A 0).length=σ.length+1:=by simp [nbO]
  have f2:(((σ++nbO σ.length P B C A 0)++[MO.mq [] 0])++[MO.row [[.mp (σ.length+1)]] 1 69])[σ.length]?=some (.cells [P,B,C,A,.nilS] 68):=by simp [nbO]
  have f3:(((σ++nbO σ.length P B C A 0)++[MO.mq [] 0])++[MO.row [[.mp (σ.length+1)]] 1 69]).set σ.length (.cells [P,B,C,A,.rsl (σ.length+2) 1 1] 68)=σ++nbO σ.length P B C A 1:=by
   simp [nbO,a6c,nh,QL]
  have s1:∀ x,a3T [P,B,C,A,.nilS] 4 [x]=[P,B,C,A,x]:=fun _=>rfl
  have z0:((0:Nat):Int)=0:=rfl
  have hd0:decide (0 < N)=true:=hd
  have on:PV.one .nilS=true:=rfl
  have ol:∀ x,PV.one (.sl 1 x)=true:=fun _=>rfl
  generalize hM:σ++nbO σ.length P B C A 0=M at *
  simp -implicitDefEqProofs only [on,Q0,b7x,a3I,↓reduceIte,eq_self,ZF,ZG,ZH,ZI,ZJ,ZK,ZL,ZM,ZN,ZO,ZP,ZQ,ZR,ZS,ZT,ZU,ZV,ZW,ZX,ZY,Z2,Z3,Z4,Z5,Z6,Z7,Z8,Z9,Za,Zb,Zc,Zd,Ze,Zf,Zg,Zh,Nat.reduceAdd,Zi,if_true,if_false,Zl,Zm,Zn,Zo,Zp,Zq,Zr,Zs,Zt,Zu,Zv,Zw,Zx,Zy,Zz,ZA,ZB,ZC,ZD,ZE,a1f,Qg,Qh,Qj,Qk,Qm,Qn,c0J,a0F,hd0,f0,f1,f2,f3,MO.list,Nat.reduceLeDiff,Q2,Q3,s1,if_pos hup,Qy,a1v,QM,if_false,QN]
 | succ j =>
  have h0:(σ++nbO σ.length P B C A (j+1))[σ.length]?=some (.cells [P,B,C,A,.rsl (σ.length+2) (j+1) 1] 68):=by simp [nbO]
  have f1:(σ++nbO σ.length P B C A (j+1)).length=σ.length+3+j:=by simp [nbO]; omega
  have f2:((σ++nbO σ.length P B C A (j+1))++[MO.mq [] 0])[σ.length+2]?=some (.row (a6c σ.length (j+1)) 1 69):=by simp [nbO]
  have f4:∀ r,(((σ++nbO σ.length P B C A (j+1))++[MO.mq [] 0]).set (σ.length+2) r)[σ.length]?=some (.cells [P,B,C,A,.rsl (σ.length+2) (j+1) 1] 68):=fun r=>by
   rw [QC (by omega)]; simp [nbO]
  have f3:(((σ++nbO σ.length P B C A (j+1))++[MO.mq [] 0]).set (σ.length+2) (.row (a6c σ.length (j+1)++[[.mp (σ.length+3+j)]]) 1 69)).set σ.length (.cells [P,B,C,A,.rsl (σ.length+2) (j+1+1) 1] 68)=σ++nbO σ.length P B C A (j+1+1):=by
   rw [show nbO σ.length P B C A (j+1+1)=.cells [P,B,C,A,.rsl (σ.length+2) (j+1+1) 1] 68::.mq [] 0::.row (a6c σ.length (j+1)++[[.mp (nh σ.length (j+1))]]) 1 69::Qs (j+1) (.mq [] 0) by rw [nbO,c1y σ.length (j+1)]]
   have:nh σ.length (j+1)=σ.length+3+j:=by unfold nh; rw [if_neg (by omega)]; omega
   rw [this,List.replicate_succ',nbO,QK,QP _ _ (by omega),QP _ _ (by omega)]
   simp
  have s1:∀ x y,a3T [P,B,C,A,y] 4 [x]=[P,B,C,A,x]:=fun _ _=>rfl
  have o1:PV.one (.rsl (σ.length+2) (j+1) 1)=true:=rfl
  have l1:=c2z σ.length (j+1)
  have cnd:(a6c σ.length (j+1)).length=j+1/\True/\True/\True/\j+1+1<=1000000:=⟨l1,trivial,trivial,trivial,by omega⟩
  generalize hM:σ++nbO σ.length P B C A (j+1)=M at *
  simp -implicitDefEqProofs only [Q0,b7x,a3I,↓reduceIte,eq_self,ZF,ZG,ZH,ZI,ZJ,ZK,ZL,ZM,ZN,ZO,ZP,ZQ,ZR,ZS,ZT,ZU,ZV,ZW,ZX,ZY,Z2,Z3,Z4,Z5,Z6,Z7,Z8,Z9,Za,Zb,Zc,Zd,Ze,Zf,Zg,Zh,Nat.reduceAdd,Zi,if_true,if_false,Zl,Zm,Zn,Zo,Zp,Zq,Zr,Zs,Zt,Zu,Zv,Zw,Zx,Zy,Zz,ZA,ZB,ZC,ZD,ZE,a1f,Qg,Qh,Qj,Qk,Qm,Qn,c0J,a0F,hd,h0,f1,f2,f4,o1,MO.list,Nat.reduceLeDiff,Q2,Q3,s1,if_pos hup,Qy,a1v,QM,if_false,QN]
  rw [if_pos ⟨l1,trivial,trivial,trivial,by omega⟩,f3]
  rfl
theorem c5O {N:Nat} (hN:N<=1000):∀ d j,j+d=N->∀ fuel,bidbook_New_S.loop (a0B Tab n) (fuel+d+1) 0 (b7x σ (σ++nbO σ.length P B C A j) (N:Int) (j:Int))=some (.tup [.ref σ.length 0,.int .i64 0],σ++nbO σ.length P B C A N):=by
 intro d
 induction d with
 | zero =>
  intro j hj fuel
  rw [Qq] at hj; subst hj
  have hd:decide (j < j)=false:=by simp
  have ho:PV.on 0 (.ref σ.length 0)=some (.ref σ.length 0):=rfl
  rw [Sys.loop,show bidbook_New_S.loops[0]?=some a3I from rfl]
  simp -implicitDefEqProofs only [Q0,b7x,a3I,↓reduceIte,eq_self,ZF,ZG,ZH,ZI,ZJ,ZK,ZL,ZM,ZN,ZO,ZP,ZQ,ZR,ZS,ZT,ZU,ZV,ZW,ZX,ZY,Z2,Z3,Z4,Z5,Z6,Z7,Z8,Z9,Za,Zb,Zc,Zd,Ze,Zf,Zg,Zh,Nat.reduceAdd,Zi,if_true,if_false,Zl,Zm,Zn,Zo,Zp,Zq,Zr,Zs,Zt,Zu,Zv,Zw,Zx,Zy,Zz,ZA,ZB,ZC,ZD,ZE,a0F,hd,ho,a0D,true_or,if_true]
 | succ d ih =>
  intro j hj fuel
  rw [show fuel+(d+1)+1=(fuel+d+1)+1 from rfl,c6e σ P B C A n j (by omega) hN,<- a0Q]
  exact ih (j+1) (by omega) fuel
end
section
variable (σ:List MO) (ps:List Pr) (bs:List Bd) (cs ad:List Tri) (P B C A:PV) (hP:P.rowsOf 5=some (ps.map Pr.row)) (hB:B.rowsOf 4=some (bs.map Bd.row)) (hC:C.rowsOf 3=some (cs.map Tri.row)) (hA:A.rowsOf 3=some (ad.map Tri.row)) (n:Nat)
include hP hB hC hA in
theorem d3b (hv:¬ a5j ps bs cs ad=0) (hn:1200<=n):a0B Tab n b2I [.agg [P,B,C,A]] σ=some (.tup [.nilP,.int .i64 (a5j ps bs cs ad)],σ):=by
 obtain ⟨n,rfl⟩:∃ k,n=k+1:=⟨n-1,by omega⟩
 obtain ⟨p1,p2,p3⟩:=a0C hP
 obtain ⟨b1,b2,b3⟩:=a0C hB
 obtain ⟨c1,c2,c3⟩:=a0C hC
 obtain ⟨a1,a2,a3⟩:=a0C hA
 have k1:=a9S σ ps bs cs ad P B C A hP hB hC hA n (by omega)
 simp only [a7P] at k1
 have e1:eqB (a5j ps bs cs ad) 0=false:=decide_eq_false hv
 rw [a0B]
 simp only [b6s,Q0,Sys.run]
 show ((a0E [.sh (.agg [_,_,_,_])] _).bind _)=_
 simp -implicitDefEqProofs only [a0E,a0x,a0w,Qd,Q0,Qe,Qb,Qf,if_true,p3,b3,c3,a3]
 show (PT.ev _ a7O _).bind _=_
 simp -implicitDefEqProofs only [a7O,↓reduceIte,eq_self,ZF,ZG,ZH,ZI,ZJ,ZK,ZL,ZM,ZN,ZO,ZP,ZQ,ZR,ZS,ZT,ZU,ZV,ZW,ZX,ZY,Z2,Z3,Z4,Z5,Z6,Z7,Z8,Z9,Za,Zb,Zc,Zd,Ze,Zf,Zg,Zh,Nat.reduceAdd,Zi,if_true,if_false,Zl,Zm,Zn,Zo,Zp,Zq,Zr,Zs,Zt,Zu,Zv,Zw,Zx,Zy,Zz,ZA,ZB,ZC,ZD,ZE,k1,e1,a0D,true_or,if_true]
include hP hB hC hA in
theorem c0n (hv:a5j ps bs cs ad=0) (hbl:bs.length<=1000) (h1:clB 5 P=true) (h2:clB 4 B=true) (h3:clB 3 C=true) (h4:clB 3 A=true) (hn:1200<=n):a0B Tab n b2I [.agg [P,B,C,A]] σ=some (.tup [.ref σ.length 0,.int .i64 0],σ++nbO σ.length P B C A bs.length):=by
 obtain ⟨n,rfl⟩:∃ k,n=k+1:=⟨n-1,by omega⟩
 obtain ⟨p1,p2,p3⟩:=a0C hP
 obtain ⟨b1,b2,b3⟩:=a0C hB
 obtain ⟨c1,c2,c3⟩:=a0C hC
 obtain ⟨a1,a2,a3⟩:=a0C hA
 rw [Qa] at b1
 have k1:=a9S σ ps bs cs ad P B C A hP hB hC hA n (by omega)
 obtain ⟨m,rfl⟩:∃ m,n=m+2:=⟨n-2,by omega⟩
 have k2:=c2o m σ h1 h2 h3 h4
 obtain ⟨f,hf⟩:∃ f,m+2=f+bs.length+1:=⟨m+2-bs.length-1,by omega⟩
 have k3:=c5O σ P B C A (m+2) hbl bs.length 0 (by omega) f
 rw [<- hf] at k3
 rw [hv] at k1
 simp only [a7P,b0e] at k1 k2
 have e1:eqB 0 0=true:=rfl
 rw [a0B]
 simp only [b6s,Q0,Sys.run]
 show ((a0E [.sh (.agg [_,_,_,_])] _).bind _)=_
 simp -implicitDefEqProofs only [a0E,a0x,a0w,Qd,Q0,Qe,Qb,Qf,if_true,p3,b3,c3,a3]
 show (PT.ev _ a7O _).bind _=_
 simp -implicitDefEqProofs only [a7O,↓reduceIte,eq_self,ZF,ZG,ZH,ZI,ZJ,ZK,ZL,ZM,ZN,ZO,ZP,ZQ,ZR,ZS,ZT,ZU,ZV,ZW,ZX,ZY,Z2,Z3,Z4,Z5,Z6,Z7,Z8,Z9,Za,Zb,Zc,Zd,Ze,Zf,Zg,Zh,Nat.reduceAdd,Zi,if_true,if_false,Zl,Zm,Zn,Zo,Zp,Zq,Zr,Zs,Zt,Zu,Zv,Zw,Zx,Zy,Zz,ZA,ZB,ZC,ZD,ZE,k1,e1,k2,p3,b3,c3,a3,b1,b2]
 exact k3
end
end Go.Proofs.Ytflcopaopimlpaa
set_option maxRecDepth 100000
namespace Go.Proofs.Ytflcopaopimlpaa
open Go.Sx Go.Kv
def a6h:Nat->List KV->List O8
 | _,[]=>[]
 | i,kv::r=>kv.map (kvO i)++a6h (i+1) r
theorem c2h (i:Int) (kv:KV):(b2l i kv).rowsOf 8=some ((kv.map (kvO i)).map O8.row)/\(b2l i kv).one=true:=by
 unfold b2l
 split
 ·rename_i h; subst h; exact ⟨rfl,rfl⟩
 ·exact ⟨by rw [a1v]; simp,rfl⟩
section
variable (σ:List MO) (hlow:σ.all (MO.low σ.length)=true) (hb:Nat) (hs:List Nat) (hbm:bkMs σ hb=some hs) (kvs:List KV) (hkl:kvs.length=hs.length)
variable (hkv:∀ (i h:Nat),hs[i]?=some h->∃ kv ver,kvs[i]?=some kv/\σ[h]?=some (.mq kv ver)/\Asc kv/\kv.length<=1000) (hN:hs.length<=100) (n:Nat)
def c5b (σ:List MO) (hb:Nat) (O:PV) (N i:Int):PEnv:={ i:=[N,i],b:=[],v:=[.ref hb 0,O],m:=σ,k:=σ.length }
include hlow hbm hkv in
theorem c2D {i:Nat} {kv:KV} (hi:kvs[i]?=some kv) (hil:i < hs.length) (hn:1<=n):a0B Tab n a6v [.ref hb 0,.int .i64 (i:Int)] σ=some (b2l i kv,σ):=by
 obtain ⟨n,rfl⟩:∃ k,n=k+1:=⟨n-1,by omega⟩
 obtain ⟨h,hh⟩:=a0W hil
 obtain ⟨kv',ver,k1,k2,k3,k4⟩:=hkv i h hh
 rw [hi] at k1
 simp only [Qu] at k1; subst k1
 show b1B [.ref hb 0,.int .i64 (i:Int)] σ=_
 simp only [b1B,hbm,Q0,hlow,if_true]
 rw [if_pos (by rw [Qz,a2n,a0U]; omega),Qt,hh]
 simp only [Q0,k2]
 rw [if_pos ⟨c0Z k3,k4⟩]
include hlow hbm hkv hkl hN in
theorem c4P (hn:1<=n):∀ d i,i+d=hs.length->∀ (O:PV) (o:List (List PV)),O.rowsOf 8=some o->o.length<=1000*i->∀ fuel,
  ∃ X:PV,X.rowsOf 8=some (o++(a6h i (kvs.drop i)).map O8.row)/\bidbook_Book_All_S.loop (a0B Tab n) (fuel+d+1) 0 (c5b σ hb O (hs.length:Int) (i:Int))=some (X,σ):=by
 intro d
 induction d with
 | zero =>
  intro i hi O o hO ho fuel
  rw [Qq] at hi; subst hi
  have hd:decide (hs.length < hs.length)=false:=by simp
  obtain ⟨o1,o2,o3⟩:=a0C hO
  refine ⟨O,by rw [<- hkl,Qr,a6h]; simpa using hO,?_⟩
  rw [Sys.loop,show bidbook_Book_All_S.loops[0]?=some a3a from rfl]
  simp -implicitDefEqProofs only [Q0,c5b,a3a,↓reduceIte,eq_self,ZF,ZG,ZH,ZI,ZJ,ZK,ZL,ZM,ZN,ZO,ZP,ZQ,ZR,ZS,ZT,ZU,ZV,ZW,ZX,ZY,Z2,Z3,Z4,Z5,Z6,Z7,Z8,Z9,Za,Zb,Zc,Zd,Ze,Zf,Zg,Zh,Nat.reduceAdd,Zi,if_true,if_false,Zl,Zm,Zn,Zo,Zp,Zq,Zr,Zs,Zt,Zu,Zv,Zw,Zx,Zy,Zz,ZA,ZB,ZC,ZD,ZE,a0F,hd,a0D,or_true]
 | succ d ih =>
  intro i hi O o hO ho fuel
  obtain ⟨kv,hi'⟩:=a0W (show i < kvs.length by omega)
  obtain ⟨h,hh⟩:=a0W (show i < hs.length by omega)
  obtain ⟨kv',ver,k1,k2,k3,k4⟩:=hkv i h hh
  rw [hi'] at k1
  simp only [Qu] at k1; subst k1
  have hd:decide (i < hs.length)=true:=decide_eq_true (by omega)
  obtain ⟨r1,r2⟩:=c2h (i:Int) kv
  have hof:=c2D σ hlow hb hs hbm kvs hkv n hi' (by omega) hn
  simp only [a6v] at hof
  have hup:=a1y (show i<=1000000000 by omega)
  obtain ⟨X,x1,x2⟩:=ih (i+1) (by omega) (.sl 8 (o++(kv.map (kvO i)).map O8.row)) _ (a1v _ _) (by simp; omega) fuel
  refine ⟨X,by rw [x1,a3v hi',a6h]; simp,?_⟩
  have hc:o.length+((kv.map (kvO (i:Int))).map O8.row).length<=1000000:=by simp; omega
  rw [a0Q] at x2
  rw [<- x2,show fuel+(d+1)+1=(fuel+d+1)+1 from rfl,Sys.loop,show bidbook_Book_All_S.loops[0]?=some a3a from rfl]
  simp -implicitDefEqProofs only [Q0,c5b,a3a,↓reduceIte,eq_self,ZF,ZG,ZH,ZI,ZJ,ZK,ZL,ZM,ZN,ZO,ZP,ZQ,ZR,ZS,ZT,ZU,ZV,ZW,ZX,ZY,Z2,Z3,Z4,Z5,Z6,Z7,Z8,Z9,Za,Zb,Zc,Zd,Ze,Zf,Zg,Zh,Nat.reduceAdd,Zi,if_true,if_false,Zl,Zm,Zn,Zo,Zp,Zq,Zr,Zs,Zt,Zu,Zv,Zw,Zx,Zy,Zz,ZA,ZB,ZC,ZD,ZE,a1f,Qg,Qh,Qj,Qk,Qm,Qn,a0F,hd,hof,r1,r2,hO,if_pos hc,if_pos hup]
include hlow hbm hkv hkl hN in
theorem c0z (hn:1010<=n):∃ X:PV,X.rowsOf 8=some ((a6h 0 kvs).map O8.row)/\a0B Tab n a7K [.ref hb 0] σ=some (X,σ):=by
 obtain ⟨n,rfl⟩:∃ k,n=k+1:=⟨n-1,by omega⟩
 obtain ⟨l,L,h⟩:=a9W hbm
 obtain ⟨p,b,c,a,Ty,rfl,h0⟩:=h.five
 obtain ⟨f,hf⟩:∃ f,n=f+hs.length+1:=⟨n-hs.length-1,by omega⟩
 obtain ⟨X,x1,x2⟩:=c4P σ hlow hb hs hbm kvs hkl hkv hN n (by omega) hs.length 0 (by omega) .nilS [] rfl (by simp) f
 rw [<- hf] at x2
 refine ⟨X,by simpa using x1,?_⟩
 have g1:PV.isKind 4 (.ref hb 0)=true:=rfl
 have g2:PV.isKind 1 (.ref hb 0)=true:=rfl
 have g3:PV.isNil (.ref hb 0)=false:=rfl
 have g4:PV.nilOk (.ref hb 0)=true:=rfl
 rw [a0B]
 simp only [b2o,Q0,Sys.run]
 show ((a0E [.sh (.one _)] _).bind _)=_
 simp -implicitDefEqProofs only [a0E,a0x,a0w,Qd,Q0,Qe,Qb,Qf,if_true,PV.one]
 show (PT.ev _ a5q _).bind _=_
 simp -implicitDefEqProofs only [a5q,↓reduceIte,eq_self,ZF,ZG,ZH,ZI,ZJ,ZK,ZL,ZM,ZN,ZO,ZP,ZQ,ZR,ZS,ZT,ZU,ZV,ZW,ZX,ZY,Z2,Z3,Z4,Z5,Z6,Z7,Z8,Z9,Za,Zb,Zc,Zd,Ze,Zf,Zg,Zh,Nat.reduceAdd,Zi,if_true,if_false,Zl,Zm,Zn,Zo,Zp,Zq,Zr,Zs,Zt,Zu,Zv,Zw,Zx,Zy,Zz,ZA,ZB,ZC,ZD,ZE,g1,g2,g3,g4,Q2,h0,MO.list,Q3,Nat.reduceLeDiff,h.one,h.kind,h.len]
 exact x2
end
section
variable (σ:List MO) (k:Bool) (xb hx T TR:Nat) (P B C A:PV) (els:List PV) (hbk:σ[xb]?=some (.cells [P,B,C,A,a6k k hx els.length] TR)) (hls:σ[hx]?=some (a2K k T els))
variable (kvs:List KV) (hkl:kvs.length=els.length) (hel:∀ (i:Nat) (E:PV),els[i]?=some E->∃ kv,kvs[i]?=some kv/\E.rowsOf 8=some ((kv.map (kvO i)).map O8.row)/\kv.length<=1000) (hN:els.length<=100) (n:Nat)
def c3Q (σ:List MO) (xb:Nat) (O:PV) (i:Int):PEnv:={ i:=[i],b:=[],v:=[.ref xb 0,O],m:=σ,k:=σ.length }
include hbk hls hkl hel hN in
theorem c3w:∀ d i,i+d=els.length->∀ (O:PV) (o:List (List PV)),O.rowsOf 8=some o->o.length<=1000*i->∀ fuel,
  ∃ X:PV,X.rowsOf 8=some (o++(a6h i (kvs.drop i)).map O8.row)/\saleroomref16_Book_All_S.loop (a0B Tab n) (fuel+d+1) 0 (c3Q σ xb O (i:Int))=some (X,σ):=by
 obtain ⟨l1,l2,l3⟩:=b4W k hx els
 have g1:PV.isKind 1 (.ref xb 0)=true:=rfl
 intro d
 induction d with
 | zero =>
  intro i hi O o hO ho fuel
  rw [Qq] at hi; subst hi
  have hd:decide (els.length < els.length)=false:=by simp
  refine ⟨O,by rw [<- hkl,Qr,a6h]; simpa using hO,?_⟩
  rw [Sys.loop,show saleroomref16_Book_All_S.loops[0]?=some a1Y from rfl]
  simp -implicitDefEqProofs only [Q0,c3Q,a1Y,↓reduceIte,eq_self,ZF,ZG,ZH,ZI,ZJ,ZK,ZL,ZM,ZN,ZO,ZP,ZQ,ZR,ZS,ZT,ZU,ZV,ZW,ZX,ZY,Z2,Z3,Z4,Z5,Z6,Z7,Z8,Z9,Za,Zb,Zc,Zd,Ze,Zf,Zg,Zh,Nat.reduceAdd,Zi,if_true,if_false,Zl,Zm,Zn,Zo,Zp,Zq,Zr,Zs,Zt,Zu,Zv,Zw,Zx,Zy,Zz,ZA,ZB,ZC,ZD,ZE,g1,hbk,MO.list,Nat.reduceLeDiff,Q2,Q3,l1,l2,l3,a0F,hd,a0D,or_true]
 | succ d ih =>
  intro i hi O o hO ho fuel
  obtain ⟨E,hE⟩:=a0W (show i < els.length by omega)
  obtain ⟨kv,k1,k2,k3⟩:=hel i E hE
  obtain ⟨q1,q2,q3⟩:=a0C k2
  have hd:decide (i < els.length)=true:=decide_eq_true (by omega)
  obtain ⟨loc,hloc,hr⟩:=c3g σ k hx T els hls hE q3
  simp -implicitDefEqProofs only [↓reduceIte,eq_self,ZF,ZG,ZH,ZI,ZJ,ZK,ZL,ZM,ZN,ZO,ZP,ZQ,ZR,ZS,ZT,ZU,ZV,ZW,ZX,ZY,Z2,Z3,Z4,Z5,Z6,Z7,Z8,Z9,Za,Zb,Zc,Zd,Ze,Zf,Zg,Zh,Nat.reduceAdd,Zi,if_true,if_false,Zl,Zm,Zn,Zo,Zp,Zq,Zr,Zs,Zt,Zu,Zv,Zw,Zx,Zy,Zz,ZA,ZB,ZC,ZD,ZE,MO.list,Nat.reduceLeDiff] at hr
  have hup:=a1y (show i<=1000000000 by omega)
  obtain ⟨X,x1,x2⟩:=ih (i+1) (by omega) (.sl 8 (o++(kv.map (kvO i)).map O8.row)) _ (a1v _ _) (by simp; omega) fuel
  refine ⟨X,by rw [x1,a3v k1,a6h]; simp,?_⟩
  have hc:o.length+((kv.map (kvO (i:Int))).map O8.row).length<=1000000:=by simp; omega
  rw [a0Q] at x2
  rw [<- x2,show fuel+(d+1)+1=(fuel+d+1)+1 from rfl,Sys.loop,show saleroomref16_Book_All_S.loops[0]?=some a1Y from rfl]
  simp -implicitDefEqProofs only [Q0,c3Q,a1Y,↓reduceIte,eq_self,ZF,ZG,ZH,ZI,ZJ,ZK,ZL,ZM,ZN,ZO,ZP,ZQ,ZR,ZS,ZT,ZU,ZV,ZW,ZX,ZY,Z2,Z3,Z4,Z5,Z6,Z7,Z8,Z9,Za,Zb,Zc,Zd,Ze,Zf,Zg,Zh,Nat.reduceAdd,Zi,if_true,if_false,Zl,Zm,Zn,Zo,Zp,Zq,Zr,Zs,Zt,Zu,Zv,Zw,Zx,Zy,Zz,ZA,ZB,ZC,ZD,ZE,a1f,Qg,Qh,Qj,Qk,Qm,Qn,g1,hbk,MO.list,Nat.reduceLeDiff,Q2,Q3,l1,l2,l3,a0F,hd,le0,hloc,hr,q3,k2,hO,if_pos hc,if_pos hup]
include hbk hls hkl hel hN in
theorem c4g (hn:1010<=n):∃ X:PV,X.rowsOf 8=some ((a6h 0 kvs).map O8.row)/\a0B Tab n a5p [.ref xb 0] σ=some (X,σ):=by
 obtain ⟨n,rfl⟩:∃ k,n=k+1:=⟨n-1,by omega⟩
 obtain ⟨f,hf⟩:∃ f,n=f+els.length+1:=⟨n-els.length-1,by omega⟩
 obtain ⟨X,x1,x2⟩:=c3w σ k xb hx T TR P B C A els hbk hls kvs hkl hel hN n els.length 0 (by omega) .nilS [] rfl (by simp) f
 rw [<- hf] at x2
 refine ⟨X,by simpa using x1,?_⟩
 rw [a0B]
 simp only [a8b,Q0,Sys.run]
 show ((a0E [.sh (.one _)] _).bind _)=_
 simp -implicitDefEqProofs only [a0E,a0x,a0w,Qd,Q0,Qe,Qb,Qf,if_true,PV.one]
 show (PT.ev _ a3K _).bind _=_
 simp -implicitDefEqProofs only [a3K,↓reduceIte,eq_self,ZF,ZG,ZH,ZI,ZJ,ZK,ZL,ZM,ZN,ZO,ZP,ZQ,ZR,ZS,ZT,ZU,ZV,ZW,ZX,ZY,Z2,Z3,Z4,Z5,Z6,Z7,Z8,Z9,Za,Zb,Zc,Zd,Ze,Zf,Zg,Zh,Nat.reduceAdd,Zi,if_true,if_false,Zl,Zm,Zn,Zo,Zp,Zq,Zr,Zs,Zt,Zu,Zv,Zw,Zx,Zy,Zz,ZA,ZB,ZC,ZD,ZE]
 exact x2
end
end Go.Proofs.Ytflcopaopimlpaa
