/- RelcapClockbids: the offers that the choices imply are those of the chapter, for all lists of at most 20 choices. -/
import Derived.Test.YtggjcdnailppoaaHRcc
import Derived.Test.YtggjcdnailppoaaRows
import Derived.WalkKit
import Derived.ProofKit
import Derived.OpenShut
import Derived.JoinedCond
import Derived.ShutString
set_option linter.unusedSimpArgs false
set_option linter.unusedVariables false
open Go.Sx.BE renaming safe → Z2, pe → Z3, all → Zz
open Go.Sx.IE renaming pe → Z4
open Go.Sx renaming PEnv.at → Z5
open Go.Sx.PEnv renaming push → Zt
open List renaming getD_cons_zero → Z6, getD_cons_succ → Z7, getElem?_cons_zero → Z8, getElem?_cons_succ → Z9, drop_zero → Zf, length_cons → Zg, length_nil → Zh, take_succ_cons → Zm, take_zero → Zn, cons_append → Zu, nil_append → Zv, append_nil → Zw, map_cons → ZD, map_nil → ZE
open Go.Sx renaming a0i → Za, a0k → Zb, a0b → Zc, a0j → Zd, a0c → Zo, a0a → Zp, a0d → Zq, a0z → ZF, a0B → ZG, a0r → ZH, a0q → ZI, a0x → ZJ, a0w → ZK, a0o → ZL, a0A → ZM, a0p → ZN, a0u → ZO, a0m → ZP, a0v → ZQ, a0y → ZR, a0g → ZS, a0s → ZT, a0l → ZU, a0f → ZV, a0e → ZW, a0h → ZX, a0t → ZY
open Nat renaming add_zero → Ze, le_refl → Zi
open Bool renaming false_eq_true → Zl, and_self → ZA, not_true → ZB, not_false → ZC
open Option renaming map_some → Zr, bind_some → Zs
open Go.Sx.SV renaming pvs → Zx, pv → Zy
open Option renaming bind_some → Q0
open List renaming length_nil → Q1
set_option maxRecDepth 100000
namespace Go.Proofs.Ytggjcdnailppoaa
open Go.ChangeShapes Go.WideShapes Go.ChangeAt Go.RowKit Go.Sx
def lvF:List PV->List MO->Option (PV × List MO):=a0n Tab 40000 a5a
def cbF:List PV->List MO->Option (PV × List MO):=a0n c2T 1100002 b7C
def rcF:List PV->List MO->Option (PV × List MO):=a0n Tab 1100001 c2r
def smF:List PV->List MO->Option (PV × List MO):=a0n Tab 5000 a3u
def c3k (f:Nat):Option Sx.Sys :=
 if f=c2y then some saleroomlaw40_RelcapClockbids_S else if f=a5a then some (prim lvF) else if f=b7C then some (prim cbF)
 else if f=c2r then some (prim rcF) else if f=a3u then some (prim smF) else none
theorem c4H:∀ f S,c3k f=some S->SysOk Try.prog f S:=by
 intro f S h
 unfold c3k at h
 split at h
 ·rename_i hf; subst hf; cases h; exact c2K
 split at h
 ·rename_i hf; subst hf; cases h; exact ⟨fun _ _ _=>evalF_good b2h 40000 a5a⟩
 split at h
 ·rename_i hf; subst hf; cases h; exact ⟨fun _ _ _=>evalF_good c4I 1100002 b7C⟩
 split at h
 ·rename_i hf; subst hf; cases h; exact ⟨fun _ _ _=>evalF_good b2h 1100001 c2r⟩
 split at h
 ·rename_i hf; subst hf; cases h; exact ⟨fun _ _ _=>evalF_good b2h 5000 a3u⟩
 ·cases h
theorem kev {f:Nat} {F:List PV->List MO->Option (PV × List MO)} (h:c3k f=some (prim F)) (n:Nat) (a:List PV) (σ:List MO):a0n c3k (n+1) f a σ=F a σ:=by
 rw [a0n,h,Q0,b9G]
theorem c3o (n0:Nat) (rows:List (List PV)) (hs:∀ r∈rows,a1f Try.prog n0 46 r) :
  a0n c3k 12 c2y [.sl 12 rows] []=some (.bool true,[]):=by
 obtain ⟨l,rfl⟩:=b2N rows hs
 have hP:(PV.sl 12 (l.map Ch.row)).rowsOf 12=some (l.map Ch.row):=a2I _ _
 obtain ⟨p1,p2,p3⟩:=a0O hP
 rw [List.length_map] at p1
 have ll:a0n c3k 11 a5a [] []=some (.bool true,[]):=by
  rw [kev (F:=lvF) (by kernel_rfl) 10]; exact b9f
 simp only [a5a] at ll
 have hr:∀ is b vs z,a0P { i:=is,b:=b,v:=vs,m:=[],k:=0 } false (.bool z)=some (.bool z,[]):=fun _ _ _ _=>by simp [a0P]
 rw [a0n,show c3k c2y=some saleroomlaw40_RelcapClockbids_S from if_pos rfl]
 simp only [Q0,Sys.run]
 show ((a0D [.sh (.one _)] _).bind _)=_
 simp -implicitDefEqProofs only [a0D,a0d,a0c,Option.map_some,Q0,List.append_nil,List.nil_append,List.cons_append,if_true,p3]
 show (PT.ev _ c2t _).bind _=_
 by_cases h1:20 < l.length
 ·have e1:ltB 20 (l.length:Int)=true:=by rw [a1E]; omega
  simp -implicitDefEqProofs only [c2t,↓reduceIte,eq_self,ZF,ZG,ZH,ZI,ZJ,ZK,ZL,ZM,ZN,ZO,ZP,ZQ,ZR,ZS,ZT,ZU,ZV,ZW,ZX,ZY,Z2,Z3,Z4,Z5,Z6,Z7,Z8,Z9,Za,Zb,Zc,Zd,Ze,Zf,Zg,Zh,Nat.reduceAdd,Zi,if_true,if_false,Zl,Zm,Zn,Zo,Zp,Zq,Zr,Zs,Zt,Zu,Zv,Zw,Zx,Zy,Zz,ZA,ZB,ZC,ZD,ZE,p1,p2,e1,ll,hr,Q1]
 have e1:ltB 20 (l.length:Int)=false:=by rw [a3X]; omega
 obtain ⟨X,x1,x2⟩:=c3P l _ hP (by omega) 1100000 (by omega)
 obtain ⟨Y,y1,y2⟩:=c3B [] l _ hP (by omega) 1100000 (by omega)
 have k1:a0n c3k 11 b7C [.sl 12 (l.map Ch.row)] []=some (X,[]):=by
  rw [kev (F:=cbF) (by kernel_rfl) 10]; exact x2
 have k2:a0n c3k 11 c2r [.sl 12 (l.map Ch.row)] []=some (Y,[]):=by
  rw [kev (F:=rcF) (by kernel_rfl) 10]; exact y2
 have hRl:∀ (s:List Ch) (o:List Of),(s.foldl (fun o c=>c2N l o c.w) o).length<=o.length+s.length:=by
  intro s
  induction s with
  | nil=>intro o; simp
  | cons c s ih=>intro o; have h1:=ih (c2N l o c.w); have h2:=c3L l o c.w; simp only [List.foldl_cons,List.length_cons]; omega
 have k3:a0n c3k 11 a3u [X,Y] []=some (.bool true,[]):=by
  rw [kev (F:=smF) (by kernel_rfl) 10]
  unfold smF
  by_cases ha:(l.all fun x=>decide x.ok)=true
  ·rw [if_pos ha] at x1 y1
   have hok:∀ x∈l,x.ok:=fun x hx=>by simpa using (List.all_eq_true.1 ha) x hx
   rw [c3V hok,b2d] at x1
   have:=hRl l []
   exact b2s [] _ _ X Y x1 y1 5000 rfl (by simp at this; omega) (by omega)
  ·rw [if_neg ha] at x1 y1
   exact b2s [] [] [] X Y x1 y1 5000 rfl (by simp) (by omega)
 obtain ⟨_,_,o1⟩:=a0O x1
 obtain ⟨_,_,o2⟩:=a0O y1
 simp only [b7C,c2r,a3u] at k1 k2 k3
 simp -implicitDefEqProofs only [c2t,↓reduceIte,eq_self,ZF,ZG,ZH,ZI,ZJ,ZK,ZL,ZM,ZN,ZO,ZP,ZQ,ZR,ZS,ZT,ZU,ZV,ZW,ZX,ZY,Z2,Z3,Z4,Z5,Z6,Z7,Z8,Z9,Za,Zb,Zc,Zd,Ze,Zf,Zg,Zh,Nat.reduceAdd,Zi,if_true,if_false,Zl,Zm,Zn,Zo,Zp,Zq,Zr,Zs,Zt,Zu,Zv,Zw,Zx,Zy,Zz,ZA,ZB,ZC,ZD,ZE,p1,p2,e1,k1,k2,o1,o2,k3,ll,hr,Q1]
theorem c3r:ownKnob Try.prog.godebug=none:=by kernel_rfl
theorem c3p:laidOutB Try.prog=true:=by kernel_rfl
theorem c3m:Go.Sx.closed Try.prog [22,46,44,29,2,3]=true:=by kernel_rfl
set_option maxRecDepth 100000 in
theorem c3h (os:Os) (started:os.Started) (H:Type) (enc:TypeId × Value->H) :
  ReturnsInHanded {} Try.checked os 3 .any (Rows.relcapClockbidsSpec.pre6 enc Try.prog Try.f3 Rows.relcapClockbidsRow.domain false) (Rows.relcapClockbidsSpec.post enc Try.prog Try.f3 false true false false):=by
 refine returnsInHanded_of_change (C:=Try.checked) c3r started (by kernel_rfl) Try.func3
  (ChangeSpec.witness6 (enc:=enc) (C:=Try.checked) false ⟨#[],#[.slice none 0 0],[]⟩ 8 (by kernel_rfl) (by kernel_rfl) (by kernel_rfl) (by kernel_rfl)) ?_
 intro W base args ds gs before hval0 hW hcnd _
 have hval:∀ (j:Nat) t v,Try.f3.params[j]?=some t->args[j]?=some v->Value.okWide Try.prog W .any base t v:=hval0
 have hW':=hW
 obtain ⟨p,q,hA0,hV,rfl,hfz,hnd⟩:=hW
 have hA:DataW.TrodAll enc Try.prog W 0 (fun _=>true) true Try.f3.params.toList args.toList ds p:=hA0
 rw [Try.params3] at hA hval
 obtain ⟨v0,vs0,d0,ds0,p0,q0,hargs,rfl,rfl,h0,r0⟩:=trodAll_cons hA
 obtain ⟨rfl,rfl,rfl⟩:=trodAll_nil r0
 obtain rfl:args=#[v0]:=by cases args; simp_all
 obtain ⟨rfl,rfl⟩:=trodVars_none hV
 have k0:=h0
 have lt0:∀ x∈p0,x.block < W.heap.size:=by obtain ⟨m,hm⟩:=k0; exact DataW.trod_lt m _ _ _ hm
 obtain ⟨n0,a0,e0,s0,w0⟩:=b3y c3m (t:=22) (by decide) Try.underlying22 (hval 0 22 v0 rfl rfl) h0
 clear hA0 hval0
 rw [show Try.prog.cellsOf 46=12 by kernel_rfl] at e0
 have hr:Go.Sx.Reps (Go.Sx.hpOf W) [] [.sl 12 a0] [v0]:=⟨v0,_,rfl,e0,rfl⟩
 refine (Go.Sx.lift_true (Go.Sx.evalF_good c4H 12 3) (c3o n0 a0 s0) hr).mono fun e W' hh=>?_
 obtain ⟨rfl,bel⟩:=hh
 exact ⟨_,rfl,_,_,_,[],_,[],hW',trodAll_mk1 (shut_bool Try.underlying4 _),(trodAll_cons_mk (Below.trod c3p (by kernel_rfl) (of_decide_eq_true (by kernel_rfl)) k0 bel lt0) trodAll_mk0),rfl,bel.frame _,fun h=>by cases h⟩
theorem relcapClockbids_proved:Rows.RelcapClockbidsSaid :=
 OpenClaim.holds_of_wide 3 Try.f3 rfl rfl rfl rfl rfl rfl rfl ⟨rfl,rfl,rfl,rfl,rfl⟩ rfl rfl rfl rfl rfl (by kernel_rfl) Try.func3 (by kernel_rfl)
  (of_decide_eq_true (by kernel_rfl)) (by unfold Func.isWrapper; first | (rw [if_pos (by decide +kernel)]; kernel_rfl) | (rw [if_neg (by decide +kernel)]; exact ⟨rfl,rfl⟩))
  (fun os started H enc _=>c3h os started H enc)
end Go.Proofs.Ytggjcdnailppoaa
