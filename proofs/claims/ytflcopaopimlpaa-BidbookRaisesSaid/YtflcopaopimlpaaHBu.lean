/- Any setup, offer, call. -/
import Derived.Test.YtflcopaopimlpaaHBs
import Derived.Test.YtflcopaopimlpaaRows
import Derived.WalkKit
import Derived.ProofKit
import Derived.OpenShut
import Derived.JoinedCond
import Derived.ShutString
import Derived.Test.YtflcopaopimlpaaHBq
set_option linter.unusedSimpArgs false
set_option linter.unusedVariables false
open Go.Sx.BE renaming safe → Z2, pe → Z3, all → Zz
open Go.Sx.IE renaming pe → Z4
open Go.Sx renaming PEnv.at → Z5
open Go.Sx.PEnv renaming push → Zt
open List renaming getD_cons_zero → Z6, getD_cons_succ → Z7, getElem?_cons_zero → Z8, getElem?_cons_succ → Z9, drop_zero → Zf, length_cons → Zg, length_nil → Zh, take_succ_cons → Zm, take_zero → Zn, cons_append → Zu, nil_append → Zv, append_nil → Zw, map_cons → ZD, map_nil → ZE
open Go.Sx renaming a0y → Za, a0A → Zb, a0o → Zc, a0z → Zd, a0w → Zo, a0p → Zp, a0x → Zq, a0r → ZF, a0t → ZG, a0n → ZH, a0j → ZI, a0s → ZJ, a0q → ZK, a0g → ZL, a0v → ZM, a0i → ZN, a0m → ZO, a0e → ZP, a0h → ZQ, a0u → ZR, a0a → ZS, a0k → ZT, a0f → ZU, a0b → ZV, a0c → ZW, a0d → ZX, a0l → ZY
open Nat renaming add_zero → Ze, le_refl → Zi
open Bool renaming false_eq_true → Zl, and_self → ZA, not_true → ZB, not_false → ZC
open Option renaming map_some → Zr, bind_some → Zs
open Go.Sx.SV renaming pvs → Zx, pv → Zy
open List renaming replicate → Q0, length_nil → Q1, length_map → Q4
open Option renaming bind_some → Q2
open Bool renaming not_eq_true' → Q3
set_option maxRecDepth 100000
namespace Go.Proofs.Ytflcopaopimlpaa
open Go.ChangeShapes Go.WideShapes Go.ChangeAt Go.RowKit Go.Sx
theorem c3z {n:Nat} {r:List PV} (h:a1m Try.prog n 52 r):∃ x:O8,r=x.row:=by
 obtain ⟨m,hm,hr⟩:=a3V Try.underlying52 h
 simp only [List.map_cons,List.map_nil,a3x] at hr
 obtain ⟨_,_,rfl,h1,_,_,rfl,h2,_,_,rfl,h3,rfl⟩:=hr
 obtain ⟨p,rfl,_⟩:=a1u (k:=.i64) (by kernel_rfl) h1
 obtain ⟨m',_,h⟩:=b9H Try.underlying40 h2
 simp only [Q0,a3x] at h
 obtain ⟨_,_,rfl,w1,_,_,rfl,w2,_,_,rfl,w3,_,_,rfl,w4,_,_,rfl,w5,_,_,rfl,w6,rfl⟩:=h
 obtain ⟨a,rfl,_⟩:=a1u (k:=.i64) (by kernel_rfl) w1
 obtain ⟨b,rfl,_⟩:=a1u (k:=.i64) (by kernel_rfl) w2
 obtain ⟨c,rfl,_⟩:=a1u (k:=.i64) (by kernel_rfl) w3
 obtain ⟨d,rfl,_⟩:=a1u (k:=.i64) (by kernel_rfl) w4
 obtain ⟨e,rfl,_⟩:=a1u (k:=.i64) (by kernel_rfl) w5
 obtain ⟨f,rfl,_⟩:=a1u (k:=.i64) (by kernel_rfl) w6
 obtain ⟨v,rfl,_⟩:=a1u (k:=.i64) (by kernel_rfl) h3
 exact ⟨⟨p,a,b,c,d,e,f,v⟩,rfl⟩
theorem d1M {n:Nat} {r:List PV} (h:a1m Try.prog n 43 r):∃ x:Sp,r=x.row:=by
 obtain ⟨m,hm,hr⟩:=a3V Try.underlying43 h
 simp only [List.map_cons,List.map_nil,a3x] at hr
 obtain ⟨_,_,rfl,h0,_,_,rfl,h1,_,_,rfl,h2,_,_,rfl,h3,_,_,rfl,h4,rfl⟩:=hr
 obtain ⟨k,rfl,_⟩:=a1u (k:=.i64) (by kernel_rfl) h0
 obtain ⟨p,rfl,_⟩:=a1u (k:=.i64) (by kernel_rfl) h1
 obtain ⟨m',_,h⟩:=b9H Try.underlying40 h2
 simp only [Q0,a3x] at h
 obtain ⟨_,_,rfl,w1,_,_,rfl,w2,_,_,rfl,w3,_,_,rfl,w4,_,_,rfl,w5,_,_,rfl,w6,rfl⟩:=h
 obtain ⟨a,rfl,_⟩:=a1u (k:=.i64) (by kernel_rfl) w1
 obtain ⟨b,rfl,_⟩:=a1u (k:=.i64) (by kernel_rfl) w2
 obtain ⟨c,rfl,_⟩:=a1u (k:=.i64) (by kernel_rfl) w3
 obtain ⟨d,rfl,_⟩:=a1u (k:=.i64) (by kernel_rfl) w4
 obtain ⟨e,rfl,_⟩:=a1u (k:=.i64) (by kernel_rfl) w5
 obtain ⟨f,rfl,_⟩:=a1u (k:=.i64) (by kernel_rfl) w6
 obtain ⟨v,rfl,_⟩:=a1u (k:=.i64) (by kernel_rfl) h3
 obtain ⟨_,rows,_,rfl,hrows⟩:=a6G Try.underlying41 h4
 have hc:Try.prog.cellsOf 52=8:=by kernel_rfl
 rw [hc]
 obtain ⟨l,rfl⟩:=a5c (row:=O8.row) (fun ps h=>c3z h) rows hrows
 exact ⟨⟨k,⟨p,a,b,c,d,e,f,v⟩,l⟩,rfl⟩
end Go.Proofs.Ytflcopaopimlpaa
set_option maxRecDepth 100000
namespace Go.Proofs.Ytflcopaopimlpaa
open Go.Sx Go.Kv
theorem d1R (P B C A:PV) (hp:∀ k,P.low k=true) (hb:∀ k,B.low k=true) (hc:∀ k,C.low k=true) (ha:∀ k,A.low k=true) (j TR:Nat) (σ1 σ2:List MO) (h1:σ1=[]++nbO 0 P B C A (j+1)) (h2:σ2=σ1++[MO.cells (Q0 (j+1) .nilS) 41,.cells [P,B,C,A,.msl σ1.length 0 (j+1) (j+1) 1] TR]) :
  Pair P B C A σ2 0 (σ1.length+1) (fun i=>i < σ2.length) (Q0 (j+1) [])/\σ2.all (MO.low σ2.length)=true:=by
 have l1:σ1.all (MO.low σ1.length)=true:=by rw [h1]; exact c0l (σ:=[]) rfl hp hb hc ha j
 have a1:BInv σ1 P B C A 0 2 ((List.range (j+1)).map (nh 0)) (Q0 (j+1) []):=by rw [h1]; exact c0k [] P B C A j
 have x1:=c4A σ1 P B C A (j+1) TR
 have l2:=c5c l1 hp hb hc ha (j+1) TR
 rw [<- h2] at x1 l2
 have hlen:σ2.length=σ1.length+2:=by rw [h2]; simp
 have a2:BInv σ2 P B C A 0 2 ((List.range (j+1)).map (nh 0)) (Q0 (j+1) []):=by rw [h2]; exact a1.app _
 have lt:∀ {i:Nat} {o:MO},σ1[i]?=some o->i < σ1.length:=fun h=>(List.getElem?_eq_some_iff.1 h).1
 refine ⟨⟨⟨fun i=>i < σ1.length,fun i=>σ1.length<=i/\i < σ2.length,⟨⟨2,_,a2,lt a1.row,fun x hx=>?_⟩,lt a1.book,fun i hi=>by omega⟩,⟨⟨_,_,_,_,_,x1,by omega,by omega⟩,⟨by omega,by omega⟩,fun i hi=>hi.2⟩,fun i hi hr=>by omega,fun i hi=>by show i < _; omega,fun i hi=>hi.2⟩,fun i hi=>hi⟩,l2⟩
 obtain ⟨_,_,hm⟩:=a1.mq hx
 exact lt hm
theorem d2l {l:List Sp} (h:d0Z l=true):∀ s∈l,s.l.length<=60:=by
 intro s hs
 have:=List.all_eq_true.1 h s hs
 simp only [Q3,a0I] at this
 omega
theorem d1p {kvs:List KV} {m:Nat} (h:kvs.length=m) (hm:1<=m):kvs≠[]:=by rintro rfl; simp at h; omega
section
variable (TW:Nat->Option Sx.Sys) (n:Nat) (up:∀ {f:Nat} {a:List PV} {m:List MO} {r:PV × List MO},a0B Tab n f a m=some r->a0B TW n f a m=some r) (aw:∀ σ,a0B TW n a0V [] σ=some (.bool true,σ))
variable (ps:List Pr) (bs:List Bd) (cs ad:List Tri) (P B C A:PV) (hP:P.rowsOf 5=some (ps.map Pr.row)) (hB:B.rowsOf 4=some (bs.map Bd.row)) (hC:C.rowsOf 3=some (cs.map Tri.row)) (hA:A.rowsOf 3=some (ad.map Tri.row)) (hv:a5j ps bs cs ad=0) (hn:1400<=n)
variable (hN:bs.length<=10) (hN1:1<=bs.length) (u1:clB 5 P=true) (u2:clB 4 B=true) (u3:clB 3 C=true) (u4:clB 3 A=true) (wP:∀ k,P.low k=true) (wB:∀ k,B.low k=true) (wC:∀ k,C.low k=true) (wA:∀ k,A.low k=true)
variable (l:List Sp) (hl:d0Z l=true) (hl60:l.length<=60)
def d3a (σ:List MO) (l:List Sp) (hb xb:Nat) (P B C A:PV) (i:Int):PEnv:={ i:=[i],b:=[],v:=[.sl 10 (l.map Sp.row),.ref hb 0,.ref xb 0,P,B,C,A],m:=σ,k:=0 }
include up aw hP hB hC hA hv hn hN hN1 u1 u2 u3 u4 wP wB wC wA hl hl60 in
theorem d3d {hb xb:Nat}:∀ d i,i+d=l.length->∀ (σ:List MO) (D:Nat->Prop) (kvs:List KV),Pair P B C A σ hb xb D kvs->kvs.length=bs.length->σ.all (MO.low σ.length)=true->∀ fuel,
  saleroomlaw16_BidbookRaises_S.loop (a0B TW n) (fuel+d+1) 0 (d3a σ l hb xb P B C A (i:Int))=some (.bool true,[]):=by
 have hE:=a1v 10 (l.map Sp.row)
 obtain ⟨p1,p2,p3⟩:=a0C hE
 rw [Q4] at p1
 obtain ⟨_,_,oP⟩:=a0C hP
 obtain ⟨_,_,oB⟩:=a0C hB
 obtain ⟨_,_,oC⟩:=a0C hC
 obtain ⟨_,_,oA⟩:=a0C hA
 intro d
 induction d with
 | zero =>
  intro i hi σ D kvs h hsl hlow fuel
  rw [Nat.add_zero] at hi; subst hi
  have hd:decide (l.length < l.length)=false:=by simp
  have aw1:=aw σ
  simp only [a0V] at aw1
  have hr:=c3O σ
  rw [Sys.loop,show saleroomlaw16_BidbookRaises_S.loops[0]?=some d2y from rfl]
  simp -implicitDefEqProofs only [Q2,d3a,d2y,↓reduceIte,eq_self,ZF,ZG,ZH,ZI,ZJ,ZK,ZL,ZM,ZN,ZO,ZP,ZQ,ZR,ZS,ZT,ZU,ZV,ZW,ZX,ZY,Z2,Z3,Z4,Z5,Z6,Z7,Z8,Z9,Za,Zb,Zc,Zd,Ze,Zf,Zg,Zh,Nat.reduceAdd,Zi,if_true,if_false,Zl,Zm,Zn,Zo,Zp,Zq,Zr,Zs,Zt,Zu,Zv,Zw,Zx,Zy,Zz,ZA,ZB,ZC,ZD,ZE,p1,p2,a0F,hd,aw1,hr]
 | succ d ih =>
  intro i hi σ D kvs h hsl hlow fuel
  obtain ⟨s,hs⟩:=a0W (show i < l.length by omega)
  have hd:decide (i < l.length)=true:=decide_eq_true (by omega)
  have q0:=a0G (off:=0) hE (d1D hs)
  have hup:=a1y (show i<=1000000000 by omega)
  have s60:=d2l hl s (List.mem_of_getElem? hs)
  obtain ⟨σ',k1,m1,t1⟩:=d2p ps bs cs ad P B C A hP hB hC hA hv n (by omega) (by omega) u1 u2 u3 u4 wP wB wC wA h hsl (d1p hsl hN1) hlow s (by omega)
  have hsl':(d1b ps bs cs ad kvs s).length=bs.length:=by rw [d1N]; exact hsl
  obtain ⟨Oc,Or,c1,r1,_⟩:=m1.ex
  have k2:=d3e t1.low n (by omega) bs hB oP oC oA c1 r1 hsl' hN (by omega)
  have k1:=up k1
  have k2:=up k2
  simp only [d0L,d2G,Sp.row] at k1 k2
  have os:PV.one (.sl 8 (s.l.map O8.row))=true:=rfl
  have ih:=ih (i+1) (by omega) σ' _ _ m1 hsl' t1.low fuel
  rw [a0Q] at ih
  rw [<- ih,show fuel+(d+1)+1=(fuel+d+1)+1 from rfl,Sys.loop,show saleroomlaw16_BidbookRaises_S.loops[0]?=some d2y from rfl]
  simp -implicitDefEqProofs only [Q2,d3a,d2y,↓reduceIte,eq_self,ZF,ZG,ZH,ZI,ZJ,ZK,ZL,ZM,ZN,ZO,ZP,ZQ,ZR,ZS,ZT,ZU,ZV,ZW,ZX,ZY,Z2,Z3,Z4,Z5,Z6,Z7,Z8,Z9,Za,Zb,Zc,Zd,Ze,Zf,Zg,Zh,Nat.reduceAdd,Zi,if_true,if_false,Zl,Zm,Zn,Zo,Zp,Zq,Zr,Zs,Zt,Zu,Zv,Zw,Zx,Zy,Zz,ZA,ZB,ZC,ZD,ZE,p1,p2,a0F,hd,le0,q0,d1x,os,Nat.reduceLeDiff,k1,k2,if_pos hup]
end
theorem d2V (TW:Nat->Option Sx.Sys) (n:Nat) (up:∀ {f:Nat} {a:List PV} {m:List MO} {r:PV × List MO},a0B Tab n f a m=some r->a0B TW n f a m=some r) (aw:∀ σ,a0B TW n a0V [] σ=some (.bool true,σ))
  (hT:TW d2C=some saleroomlaw16_BidbookRaises_S) (hn:1500<=n) (ps:List Pr) (bs:List Bd) (cs ad:List Tri) (l:List Sp) :
  a0B TW (n+1) d2C [.agg [.sl 5 (ps.map Pr.row),.sl 4 (bs.map Bd.row),.sl 3 (cs.map Tri.row),.sl 3 (ad.map Tri.row)],.sl 10 (l.map Sp.row)] []=some (.bool true,[]):=by
 have kf:=up (d2f [] l n (by omega))
 have hL3:PV.one (.sl 10 (l.map Sp.row))=true:=rfl
 generalize hPe:PV.sl 5 (ps.map Pr.row)=P
 generalize hBe:PV.sl 4 (bs.map Bd.row)=B
 generalize hCe:PV.sl 3 (cs.map Tri.row)=C
 generalize hAe:PV.sl 3 (ad.map Tri.row)=A
 have hP:P.rowsOf 5=some (ps.map Pr.row):=by rw [<- hPe]; exact a1v _ _
 have hB:B.rowsOf 4=some (bs.map Bd.row):=by rw [<- hBe]; exact a1v _ _
 have hC:C.rowsOf 3=some (cs.map Tri.row):=by rw [<- hCe]; exact a1v _ _
 have hA:A.rowsOf 3=some (ad.map Tri.row):=by rw [<- hAe]; exact a1v _ _
 have wP:∀ k,P.low k=true:=fun k=>by rw [<- hPe]; exact b6o (fun _ _=>rfl) _ _ _
 have wB:∀ k,B.low k=true:=fun k=>by rw [<- hBe]; exact b6o (fun _ _=>rfl) _ _ _
 have wC:∀ k,C.low k=true:=fun k=>by rw [<- hCe]; exact b6o (fun _ _=>rfl) _ _ _
 have wA:∀ k,A.low k=true:=fun k=>by rw [<- hAe]; exact b6o (fun _ _=>rfl) _ _ _
 obtain ⟨p1,p2,p3⟩:=a0C hP
 obtain ⟨b1,b2,b3⟩:=a0C hB
 obtain ⟨c1,c2,c3⟩:=a0C hC
 obtain ⟨a1,a2,a3⟩:=a0C hA
 rw [Q4] at p1 b1
 have aw0:=aw []
 have hr:∀ is b vs z,a0D { i:=is,b:=b,v:=vs,m:=[],k:=0 } false (.bool z)=some (.bool z,[]):=fun is b vs z=>c3O [] is b vs z
 simp only [a0V,d0S] at aw0 kf
 rw [a0B,hT]
 simp only [Q2,Sys.run]
 show ((a0E [.sh (.agg [_,_,_,_]),.sh (.one _)] _).bind _)=_
 simp -implicitDefEqProofs only [a0E,a0x,a0w,Option.map_some,Q2,List.append_nil,List.nil_append,List.cons_append,if_true,p3,b3,c3,a3,hL3]
 show (PT.ev _ d2w _).bind _=_
 have dich:∀ x:Bool,x=true\/x=false:=fun x=>by cases x<;>simp
 rcases dich (d1r l) with e1 | e1
 case inr=>simp -implicitDefEqProofs only [d2w,↓reduceIte,eq_self,ZF,ZG,ZH,ZI,ZJ,ZK,ZL,ZM,ZN,ZO,ZP,ZQ,ZR,ZS,ZT,ZU,ZV,ZW,ZX,ZY,Z2,Z3,Z4,Z5,Z6,Z7,Z8,Z9,Za,Zb,Zc,Zd,Ze,Zf,Zg,Zh,Nat.reduceAdd,Zi,if_true,if_false,Zl,Zm,Zn,Zo,Zp,Zq,Zr,Zs,Zt,Zu,Zv,Zw,Zx,Zy,Zz,ZA,ZB,ZC,ZD,ZE,kf,e1,aw0,hr,Q1]
 rcases dich (ltB 10 (bs.length:Int)) with e2 | e2
 ·simp -implicitDefEqProofs only [d2w,↓reduceIte,eq_self,ZF,ZG,ZH,ZI,ZJ,ZK,ZL,ZM,ZN,ZO,ZP,ZQ,ZR,ZS,ZT,ZU,ZV,ZW,ZX,ZY,Z2,Z3,Z4,Z5,Z6,Z7,Z8,Z9,Za,Zb,Zc,Zd,Ze,Zf,Zg,Zh,Nat.reduceAdd,Zi,if_true,if_false,Zl,Zm,Zn,Zo,Zp,Zq,Zr,Zs,Zt,Zu,Zv,Zw,Zx,Zy,Zz,ZA,ZB,ZC,ZD,ZE,kf,b1,b2,e1,e2,aw0,hr,Q1]
 rcases dich (ltB 8 (ps.length:Int)) with e3 | e3
 ·simp -implicitDefEqProofs only [d2w,↓reduceIte,eq_self,ZF,ZG,ZH,ZI,ZJ,ZK,ZL,ZM,ZN,ZO,ZP,ZQ,ZR,ZS,ZT,ZU,ZV,ZW,ZX,ZY,Z2,Z3,Z4,Z5,Z6,Z7,Z8,Z9,Za,Zb,Zc,Zd,Ze,Zf,Zg,Zh,Nat.reduceAdd,Zi,if_true,if_false,Zl,Zm,Zn,Zo,Zp,Zq,Zr,Zs,Zt,Zu,Zv,Zw,Zx,Zy,Zz,ZA,ZB,ZC,ZD,ZE,kf,b1,b2,p1,p2,e1,e2,e3,aw0,hr,Q1]
 by_cases hv:a5j ps bs cs ad=0
 case neg =>
  have e4:eqB (a5j ps bs cs ad) 0=false:=decide_eq_false hv
  have n1:=up (d3b [] ps bs cs ad P B C A hP hB hC hA n hv (by omega))
  have n2:=up (d2Z [] ps bs cs ad P B C A hP hB hC hA n hv (by omega))
  simp only [b2I,a7f] at n1 n2
  have g1:PV.isKind 4 .nilP=true:=rfl
  have g2:PV.isNil .nilP=true:=rfl
  have g3:PV.one .nilP=true:=rfl
  have g4:PV.nilOk .nilP=true:=rfl
  simp -implicitDefEqProofs only [d2w,↓reduceIte,eq_self,ZF,ZG,ZH,ZI,ZJ,ZK,ZL,ZM,ZN,ZO,ZP,ZQ,ZR,ZS,ZT,ZU,ZV,ZW,ZX,ZY,Z2,Z3,Z4,Z5,Z6,Z7,Z8,Z9,Za,Zb,Zc,Zd,Ze,Zf,Zg,Zh,Nat.reduceAdd,Zi,if_true,if_false,Zl,Zm,Zn,Zo,Zp,Zq,Zr,Zs,Zt,Zu,Zv,Zw,Zx,Zy,Zz,ZA,ZB,ZC,ZD,ZE,kf,b1,b2,p1,p2,e1,e2,e3,n1,n2,a1w,a7s,e4,g1,g2,g3,g4,aw0,hr,Q1]
 rw [a0I] at e2
 have hf:l.length<=60/\d0Z l=true:=by
  unfold d1r at e1
  rw [Bool.and_eq_true,Q3,a0I] at e1
  exact ⟨by omega,e1.2⟩
 obtain ⟨v1,v2,v3,v4⟩:=b3k hv
 obtain ⟨hl6,hr6⟩:=a7M v1
 obtain ⟨h6,_⟩:=b8A hl6 hr6 v4
 have hb1:1<=bs.length:=by
  rcases Nat.eq_zero_or_pos bs.length with h | h
  ·unfold a8D at v2; rw [h,if_pos (show eqB ((0:Nat):Int) 0=true from rfl)] at v2; cases v2
  ·exact h
 obtain ⟨j,hj⟩:∃ j,bs.length=j+1:=⟨bs.length-1,by omega⟩
 have u1:clB 5 P=true:=by rw [<- hPe]; exact b6E _ _ _ (by omega)
 have u2:clB 4 B=true:=by rw [<- hBe]; exact b6E _ _ _ (by omega)
 have u3:clB 3 C=true:=by rw [<- hCe]; exact b6E _ _ _ (by omega)
 have u4:clB 3 A=true:=by rw [<- hAe]; exact b6E _ _ _ (by omega)
 have n1:=up (c0n [] ps bs cs ad P B C A hP hB hC hA n hv (by omega) u1 u2 u3 u4 (by omega))
 generalize hs1:([]:List MO)++nbO ([]:List MO).length P B C A bs.length=σ1 at n1
 have n2:=up (c3N σ1 ps bs cs ad P B C A hP hB hC hA n hv (by omega) (by omega))
 generalize hs2:σ1++[MO.cells (Q0 bs.length .nilS) 41,.cells [P,B,C,A,.msl σ1.length 0 bs.length bs.length 1] 72]=σ2 at n2
 obtain ⟨pr,lw⟩:=d1R P B C A wP wB wC wA j 72 σ1 σ2 (by rw [<- hs1,hj]; rfl) (by rw [<- hs2,hj])
 obtain ⟨f,hf'⟩:∃ f,n=f+l.length+1:=⟨n-l.length-1,by omega⟩
 have fin:=d3d TW n up aw ps bs cs ad P B C A hP hB hC hA hv (by omega) (by omega) hb1 u1 u2 u3 u4 wP wB wC wA l hf.2 hf.1 l.length 0 (by omega) σ2 _ _ pr (by simp [hj]) lw f
 rw [<- hf'] at fin
 have g1:∀ h,PV.isKind 4 (.ref h 0)=true:=fun _=>rfl
 have g3:∀ h,PV.isNil (.ref h 0)=false:=fun _=>rfl
 have g4:∀ h,PV.nilOk (.ref h 0)=true:=fun _=>rfl
 have g5:∀ h,PV.one (.ref h 0)=true:=fun _=>rfl
 simp only [b2I,a7f,Q1] at n1 n2
 have e2':ltB 10 (bs.length:Int)=false:=by rw [a0I]; exact e2
 simp -implicitDefEqProofs only [d2w,↓reduceIte,eq_self,ZF,ZG,ZH,ZI,ZJ,ZK,ZL,ZM,ZN,ZO,ZP,ZQ,ZR,ZS,ZT,ZU,ZV,ZW,ZX,ZY,Z2,Z3,Z4,Z5,Z6,Z7,Z8,Z9,Za,Zb,Zc,Zd,Ze,Zf,Zg,Zh,Nat.reduceAdd,Zi,if_true,if_false,Zl,Zm,Zn,Zo,Zp,Zq,Zr,Zs,Zt,Zu,Zv,Zw,Zx,Zy,Zz,ZA,ZB,ZC,ZD,ZE,kf,b1,b2,p1,p2,e1,e2',e3,n1,n2,a1w,a7s,g1,g3,g4,g5,Q1]
 exact fin
end Go.Proofs.Ytflcopaopimlpaa
