/- RelcapTrims: what Trim leaves is accepted, is a part of the bids in order, and is everything if all bids are accepted, for all lists of at most 14 valid choices and 14 bids. -/
import Derived.Test.YtggjcdnailppoaaHRcb
import Derived.Test.YtggjcdnailppoaaRows
import Derived.WalkKit
import Derived.ProofKit
import Derived.OpenShut
import Derived.JoinedCond
import Derived.ShutString
set_option linter.unusedSimpArgs false
set_option linter.unusedVariables false
open Go.Sx.BE renaming safe → Z2, pe → Z3, all → Zz
open Go.Sx.IE renaming pe → Z4
open Go.Sx renaming PEnv.at → Z5
open Go.Sx.PEnv renaming push → Zt
open List renaming getD_cons_zero → Z6, getD_cons_succ → Z7, getElem?_cons_zero → Z8, getElem?_cons_succ → Z9, drop_zero → Zf, length_cons → Zg, length_nil → Zh, take_succ_cons → Zm, take_zero → Zn, cons_append → Zu, nil_append → Zv, append_nil → Zw, map_cons → ZD, map_nil → ZE
open Go.Sx renaming a0i → Za, a0k → Zb, a0b → Zc, a0j → Zd, a0c → Zo, a0a → Zp, a0d → Zq, a0z → ZF, a0B → ZG, a0r → ZH, a0q → ZI, a0x → ZJ, a0w → ZK, a0o → ZL, a0A → ZM, a0p → ZN, a0u → ZO, a0m → ZP, a0v → ZQ, a0y → ZR, a0g → ZS, a0s → ZT, a0l → ZU, a0f → ZV, a0e → ZW, a0h → ZX, a0t → ZY
open Nat renaming add_zero → Ze, le_refl → Zi
open Bool renaming false_eq_true → Zl, and_self → ZA, not_true → ZB, not_false → ZC
open Option renaming map_some → Zr, bind_some → Zs
open Go.Sx.SV renaming pvs → Zx, pv → Zy
open Option renaming bind_some → Q0
open List renaming length_nil → Q1, length_map → Q2, drop_zero → Q3
set_option maxRecDepth 100000
namespace Go.Proofs.Ytggjcdnailppoaa
open Go.ChangeShapes Go.WideShapes Go.ChangeAt Go.RowKit Go.Sx
theorem c2h (n0:Nat) (rows:List (List PV)) (hs:∀ r∈rows,a1f Try.prog n0 46 r) (n1:Nat) (rows1:List (List PV)) (hs1:∀ r∈rows1,a1f Try.prog n1 33 r) :
  a0n a8N 40001 c2a [.sl 12 rows,.sl 8 rows1] []=some (.bool true,[]):=by
 obtain ⟨l,rfl⟩:=b2N rows hs
 obtain ⟨bids,rfl⟩:=b2a rows1 hs1
 have hP:(PV.sl 12 (l.map Ch.row)).rowsOf 12=some (l.map Ch.row):=a2I _ _
 have hB:(PV.sl 8 (bids.map Of.row)).rowsOf 8=some (bids.map Of.row):=a2I _ _
 have hPl:(PV.sl 12 (l.map Ch.row)).low 0=true:=b9Q 0 l
 have hBl:(PV.sl 8 (bids.map Of.row)).low 0=true:=b2j 0 bids
 obtain ⟨p1,p2,p3⟩:=a0O hP
 obtain ⟨b1,b2,b3⟩:=a0O hB
 rw [Q2] at p1 b1
 have ll:=evW b9f
 simp only [a5a] at ll
 have hr:∀ is b vs z,a0P { i:=is,b:=b,v:=vs,m:=[],k:=0 } false (.bool z)=some (.bool z,[]):=fun _ _ _ _=>by simp [a0P]
 rw [a0n,show a8N c2a=some saleroomlaw40_RelcapTrims_S from b5P _ _ (by kernel_rfl)]
 simp only [Q0,Sys.run]
 show ((a0D [.sh (.one _),.sh (.one _)] _).bind _)=_
 simp -implicitDefEqProofs only [a0D,a0d,a0c,Option.map_some,Q0,List.append_nil,List.nil_append,List.cons_append,if_true,p3,b3]
 show (PT.ev _ c1Y _).bind _=_
 by_cases h1:14 < l.length
 ·have e1:ltB 14 (l.length:Int)=true:=by rw [a1E]; omega
  simp -implicitDefEqProofs only [c1Y,↓reduceIte,eq_self,ZF,ZG,ZH,ZI,ZJ,ZK,ZL,ZM,ZN,ZO,ZP,ZQ,ZR,ZS,ZT,ZU,ZV,ZW,ZX,ZY,Z2,Z3,Z4,Z5,Z6,Z7,Z8,Z9,Za,Zb,Zc,Zd,Ze,Zf,Zg,Zh,Nat.reduceAdd,Zi,if_true,if_false,Zl,Zm,Zn,Zo,Zp,Zq,Zr,Zs,Zt,Zu,Zv,Zw,Zx,Zy,Zz,ZA,ZB,ZC,ZD,ZE,p1,p2,e1,ll,hr,Q1]
 have e1:ltB 14 (l.length:Int)=false:=by rw [a3X]; omega
 by_cases h2:14 < bids.length
 ·have e2:ltB 14 (bids.length:Int)=true:=by rw [a1E]; omega
  simp -implicitDefEqProofs only [c1Y,↓reduceIte,eq_self,ZF,ZG,ZH,ZI,ZJ,ZK,ZL,ZM,ZN,ZO,ZP,ZQ,ZR,ZS,ZT,ZU,ZV,ZW,ZX,ZY,Z2,Z3,Z4,Z5,Z6,Z7,Z8,Z9,Za,Zb,Zc,Zd,Ze,Zf,Zg,Zh,Nat.reduceAdd,Zi,if_true,if_false,Zl,Zm,Zn,Zo,Zp,Zq,Zr,Zs,Zt,Zu,Zv,Zw,Zx,Zy,Zz,ZA,ZB,ZC,ZD,ZE,p1,p2,e1,b1,b2,e2,ll,hr,Q1]
 have e2:ltB 14 (bids.length:Int)=false:=by rw [a3X]; omega
 have c0:=evW (b1U [] l _ hP 40000 (by omega) (by omega))
 simp only [a2G] at c0
 by_cases ha:(l.all fun x=>decide x.ok)=true
 case neg =>
  rw [Bool.not_eq_true] at ha
  simp -implicitDefEqProofs only [c1Y,↓reduceIte,eq_self,ZF,ZG,ZH,ZI,ZJ,ZK,ZL,ZM,ZN,ZO,ZP,ZQ,ZR,ZS,ZT,ZU,ZV,ZW,ZX,ZY,Z2,Z3,Z4,Z5,Z6,Z7,Z8,Z9,Za,Zb,Zc,Zd,Ze,Zf,Zg,Zh,Nat.reduceAdd,Zi,if_true,if_false,Zl,Zm,Zn,Zo,Zp,Zq,Zr,Zs,Zt,Zu,Zv,Zw,Zx,Zy,Zz,ZA,ZB,ZC,ZD,ZE,p1,p2,e1,b1,b2,e2,c0,ha,ll,hr,Q1]
 have hok:∀ x∈l,x.ok:=fun x hx=>by simpa using (List.all_eq_true.1 ha) x hx
 have c3:=c0d l _ hP hPl (by omega) bids (by omega) 39999
 rw [if_pos ha] at c3
 generalize hT:a2z l bids.length bids=T at c3
 have hTl:T.length<=bids.length:=by rw [<- hT]; exact b7p ..
 have hT0:(a1Q l T).2=0:=by rw [<- hT]; exact c2j hok _ _ rfl
 have c1:=evW (b1e [] l _ hP bids _ hB (by omega) (by omega) rfl hPl hBl 40000 (by omega))
 have c2:=evW (b1e [] l _ hP T _ (a2I _ _) (by omega) (by omega) rfl hPl (b2j 0 T) 40000 (by omega))
 have e3:eqB (a1Q l T).2 0=true:=decide_eq_true hT0
 have o1:PV.one (.sl 8 (T.map Of.row))=true:=rfl
 obtain ⟨q1,q2,q3⟩:=a0O (a2I 8 (T.map Of.row))
 rw [Q2] at q1
 have c5:∀ h:(a1Q l bids).2=0,a0n a8N 40000 a3u [.sl 8 (T.map Of.row),.sl 8 (bids.map Of.row)] []=some (.bool true,[]):=fun h=>evW (b2s [] _ _ _ _ (a2I _ _) hB 40000 (by rw [<- hT]; exact c2k h) (by omega) (by omega))
 simp only [a1c,a1N,a3u,erT] at c1 c2 c3 c5
 have hend:∀ (a:Int) fuel,saleroomlaw40_RelcapTrims_S.loop (a0n a8N 40000) (fuel+1) 0 (c2d (.sl 12 (l.map Ch.row)) bids T a (T.length:Int))=some (.bool true,[]):=by
  intro a fuel
  have hd:decide (T.length < T.length)=false:=by simp
  rw [Sys.loop,show saleroomlaw40_RelcapTrims_S.loops[0]?=some c1X from rfl]
  by_cases h0:(a1Q l bids).2=0
  ·have e4:eqB (a1Q l bids).2 0=true:=decide_eq_true h0
   simp -implicitDefEqProofs only [Q0,c2d,c1X,↓reduceIte,eq_self,ZF,ZG,ZH,ZI,ZJ,ZK,ZL,ZM,ZN,ZO,ZP,ZQ,ZR,ZS,ZT,ZU,ZV,ZW,ZX,ZY,Z2,Z3,Z4,Z5,Z6,Z7,Z8,Z9,Za,Zb,Zc,Zd,Ze,Zf,Zg,Zh,Nat.reduceAdd,Zi,if_true,if_false,Zl,Zm,Zn,Zo,Zp,Zq,Zr,Zs,Zt,Zu,Zv,Zw,Zx,Zy,Zz,ZA,ZB,ZC,ZD,ZE,q1,q2,a0E,hd,c1,a1x,e4,c5 h0,ll,hr]
  ·have e4:eqB (a1Q l bids).2 0=false:=decide_eq_false h0
   simp -implicitDefEqProofs only [Q0,c2d,c1X,↓reduceIte,eq_self,ZF,ZG,ZH,ZI,ZJ,ZK,ZL,ZM,ZN,ZO,ZP,ZQ,ZR,ZS,ZT,ZU,ZV,ZW,ZX,ZY,Z2,Z3,Z4,Z5,Z6,Z7,Z8,Z9,Za,Zb,Zc,Zd,Ze,Zf,Zg,Zh,Nat.reduceAdd,Zi,if_true,if_false,Zl,Zm,Zn,Zo,Zp,Zq,Zr,Zs,Zt,Zu,Zv,Zw,Zx,Zy,Zz,ZA,ZB,ZC,ZD,ZE,q1,q2,a0E,hd,c1,a1x,e4,ll,hr]
 have fin:=(c2m a8N 40000 bids T (.sl 12 (l.map Ch.row)) (by omega) (by omega) hend bids.length 0 (by omega)).2 0 (by omega) (by rw [Q3,Q3,<- hT]; exact b3u ..) (40000-2*bids.length-2)
 rw [show 40000-2*bids.length-2+2*bids.length+2=40000 by omega] at fin
 simp -implicitDefEqProofs only [c1Y,↓reduceIte,eq_self,ZF,ZG,ZH,ZI,ZJ,ZK,ZL,ZM,ZN,ZO,ZP,ZQ,ZR,ZS,ZT,ZU,ZV,ZW,ZX,ZY,Z2,Z3,Z4,Z5,Z6,Z7,Z8,Z9,Za,Zb,Zc,Zd,Ze,Zf,Zg,Zh,Nat.reduceAdd,Zi,if_true,if_false,Zl,Zm,Zn,Zo,Zp,Zq,Zr,Zs,Zt,Zu,Zv,Zw,Zx,Zy,Zz,ZA,ZB,ZC,ZD,ZE,p1,p2,e1,b1,b2,e2,c0,ha,c3,o1,c2,a1x,e3,Q1]
 exact fin
theorem c2i:ownKnob Try.prog.godebug=none:=by kernel_rfl
theorem c2f:laidOutB Try.prog=true:=by kernel_rfl
theorem c2e:Go.Sx.closed Try.prog [22,25,46,33,44,29,3,2]=true:=by kernel_rfl
set_option maxRecDepth 100000 in
theorem c2g (os:Os) (started:os.Started) (H:Type) (enc:TypeId × Value->H) :
  ReturnsInHanded {} Try.checked os 7 .any (Rows.relcapTrimsSpec.pre6 enc Try.prog Try.f7 Rows.relcapTrimsRow.domain false) (Rows.relcapTrimsSpec.post enc Try.prog Try.f7 false true false false):=by
 refine returnsInHanded_of_change (C:=Try.checked) c2i started (by kernel_rfl) Try.func7
  (ChangeSpec.witness6 (enc:=enc) (C:=Try.checked) false ⟨#[],#[.slice none 0 0,.slice none 0 0],[]⟩ 8 (by kernel_rfl) (by kernel_rfl) (by kernel_rfl) (by kernel_rfl)) ?_
 intro W base args ds gs before hval0 hW hcnd _
 have hval:∀ (j:Nat) t v,Try.f7.params[j]?=some t->args[j]?=some v->Value.okWide Try.prog W .any base t v:=hval0
 have hW':=hW
 obtain ⟨p,q,hA0,hV,rfl,hfz,hnd⟩:=hW
 have hA:DataW.TrodAll enc Try.prog W 0 (fun _=>true) true Try.f7.params.toList args.toList ds p:=hA0
 rw [Try.params7] at hA hval
 obtain ⟨v0,vs0,d0,ds0,p0,q0,hargs,rfl,rfl,h0,r0⟩:=trodAll_cons hA
 obtain ⟨v1,vs1,d1,ds1,p1,q1,rfl,rfl,rfl,h1,r1⟩:=trodAll_cons r0
 obtain ⟨rfl,rfl,rfl⟩:=trodAll_nil r1
 obtain rfl:args=#[v0,v1]:=by cases args; simp_all
 obtain ⟨rfl,rfl⟩:=trodVars_none hV
 have k0:=h0
 have lt0:∀ x∈p0,x.block < W.heap.size:=by obtain ⟨m,hm⟩:=k0; exact DataW.trod_lt m _ _ _ hm
 obtain ⟨n0,a0,e0,s0,w0⟩:=b3y c2e (t:=22) (by decide) Try.underlying22 (hval 0 22 v0 rfl rfl) h0
 have k1:=h1
 have lt1:∀ x∈p1,x.block < W.heap.size:=by obtain ⟨m,hm⟩:=k1; exact DataW.trod_lt m _ _ _ hm
 obtain ⟨n1,a1,e1,s1,w1⟩:=b3y c2e (t:=25) (by decide) Try.underlying25 (hval 1 25 v1 rfl rfl) h1
 clear hA0 hval0
 rw [show Try.prog.cellsOf 46=12 by kernel_rfl] at e0
 rw [show Try.prog.cellsOf 33=8 by kernel_rfl] at e1
 have hr:Go.Sx.Reps (Go.Sx.hpOf W) [] [.sl 12 a0,.sl 8 a1] [v0,v1]:=⟨v0,_,rfl,e0,⟨v1,_,rfl,e1,rfl⟩⟩
 refine (Go.Sx.lift_true (Go.Sx.evalF_good b9w 40001 7) (c2h n0 a0 s0 n1 a1 s1) hr).mono fun e W' hh=>?_
 obtain ⟨rfl,bel⟩:=hh
 exact ⟨_,rfl,_,_,_,[],_,[],hW',trodAll_mk1 (shut_bool Try.underlying4 _),(trodAll_cons_mk (Below.trod c2f (by kernel_rfl) (of_decide_eq_true (by kernel_rfl)) k0 bel lt0) (trodAll_cons_mk (Below.trod c2f (by kernel_rfl) (of_decide_eq_true (by kernel_rfl)) k1 bel lt1) trodAll_mk0)),rfl,bel.frame _,fun h=>by cases h⟩
theorem relcapTrims_proved:Rows.RelcapTrimsSaid :=
 OpenClaim.holds_of_wide 7 Try.f7 rfl rfl rfl rfl rfl rfl rfl ⟨rfl,rfl,rfl,rfl,rfl⟩ rfl rfl rfl rfl rfl (by kernel_rfl) Try.func7 (by kernel_rfl)
  (of_decide_eq_true (by kernel_rfl)) (by unfold Func.isWrapper; first | (rw [if_pos (by decide +kernel)]; kernel_rfl) | (rw [if_neg (by decide +kernel)]; exact ⟨rfl,rfl⟩))
  (fun os started H enc _=>c2g os started H enc)
end Go.Proofs.Ytggjcdnailppoaa
