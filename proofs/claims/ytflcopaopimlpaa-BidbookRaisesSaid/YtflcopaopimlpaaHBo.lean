/- The order of bundles, walked: what bundle.Compare answers; the world grows, no more. -/
import Derived.Test.YtflcopaopimlpaaHTy
import Derived.Test.YtflcopaopimlpaaChecked
import Derived.Shelf.SlSortCmp.QuietGrown
import Derived.Test.YtflcopaopimlpaaHTab
import Derived.Shelf.SlSortCmp.WholeK
import Derived.Test.YtflcopaopimlpaaHTxe
import Derived.Test.YtflcopaopimlpaaHSaa
import Derived.Test.YtflcopaopimlpaaHSab
import Derived.Test.YtflcopaopimlpaaHSac
set_option linter.unusedSimpArgs false
set_option linter.unusedVariables false
open Go.Sx.PT renaming ev → Z1
open Go.Sx.BE renaming safe → Z2, pe → Z3, all → Zz
open Go.Sx.IE renaming pe → Z4
open Go.Sx renaming PEnv.at → Z5
open Go.Sx.PEnv renaming push → Zt
open List renaming getD_cons_zero → Z6, getD_cons_succ → Z7, getElem?_cons_zero → Z8, getElem?_cons_succ → Z9, drop_zero → Zf, length_cons → Zg, length_nil → Zh, take_succ_cons → Zm, take_zero → Zn, cons_append → Zu, nil_append → Zv, append_nil → Zw, map_cons → ZD, map_nil → ZE
open Go.Sx renaming a0y → Za, a0A → Zb, a0o → Zc, a0z → Zd, a0w → Zo, a0p → Zp, a0x → Zq
open Nat renaming add_zero → Ze, le_refl → Zi
open Bool renaming false_eq_true → Zl, and_self → ZA, not_true → ZB, not_false → ZC
open Option renaming map_some → Zr, bind_some → Zs
open Go.Sx.SV renaming pvs → Zx, pv → Zy
open List renaming nil_append → Q0, cons_append → Q1, append_nil → Q3, length_append → Q6, set_append_right → Q8, length_cons → Q9, getElem?_append_right → Qb, length_nil → Qd, append_assoc → Qf, getD_cons_zero → Qh, getElem?_eq_some_iff → Qj, getElem?_cons_zero → Qk, map_cons → Qn, getElem?_append_left → Qp, getD_cons_succ → Qq, map_nil → Qs, drop_succ_cons → Qv, getElem?_cons_succ → Qw
open Option.some renaming injEq → Q2
open Prod.mk renaming injEq → Q4
open Option renaming bind_some → Q5, map_some → Qa, bind_eq_some_iff → Qg, map_eq_some_iff → Qu
open Nat renaming zero_add → Q7, le_refl → Qe, sub_self → Qm, add_sub_cancel_left → Qt
open Bool renaming and_eq_true → Qr
namespace Go.Proofs.Ytflcopaopimlpaa
open Go.Shelf Go.RowKit Go.Lib Go.Sort Go.Sx Go.Proofs
def a1k (W w:World):Prop:=∃ q os',w=grow (W.drewN q) os'
theorem a1k.refl (W:World):a1k W W:=⟨0,#[],by rw [grow_empty]; rfl⟩
theorem a1k.drewN {W w:World} (h:a1k W w) (n:Nat):a1k W (w.drewN n):=by
 obtain ⟨q,os,rfl⟩:=h
 exact ⟨q+n,os,by rw [<- World.drewN_drewN]; rfl⟩
theorem a1k.alloc {W w:World} (h:a1k W w) (o:Obj):a1k W (w.alloc o):=by
 obtain ⟨q,os,rfl⟩:=h
 exact ⟨q,os++#[o],by rw [alloc_eq_grow,grow_grow]⟩
set_option maxHeartbeats 4000000 in
theorem c2x (a0 a1 a2 a3 a4 a5 b0 b1 b2 b3 b4 b5:Int) (W:World):Calls Try.prog 41 #[.agg #[.int .i64 a0,.int .i64 a1,.int .i64 a2,.int .i64 a3,.int .i64 a4,.int .i64 a5],.agg #[.int .i64 b0,.int .i64 b1,.int .i64 b2,.int .i64 b3,.int .i64 b4,.int .i64 b5]] W fun e w' =>
  e=.returned (.int .i64 (a1F [a0,a1,a2,a3,a4,a5] [b0,b1,b2,b3,b4,b5]))/\a1k W w':=by
 obtain ⟨r,hr⟩:∃ r,Hid (r=a1F [a0,a1,a2,a3,a4,a5] [b0,b1,b2,b3,b4,b5]):=⟨_,rfl⟩
 rw [<- hr.out]
 go_enter Try.func41,Try.ntmps41
 go_wp2
 refine wp_loop_rounds 7 ?_
 rw [rounds_succ]
 go_wp2
 by_cases h0:a0 < b0
 ·have hr1:Hid (r=-1):=by have hr:=hr.out; rw [hr]; show a1F _ _=_; simp [a1F,ltK,h0]; try omega
  clear hr
  go_quiet (fail)
  go_wp2
  go_ret
  refine ⟨?_,?_⟩
  ·have:=hr1.out; subst this; rfl
  ·repeat' first | exact a1k.refl _ | apply a1k.drewN | apply a1k.alloc
 go_quiet (fail)
 go_wp2
 by_cases g0:b0 < a0
 ·have hr1:Hid (r=1):=by have hr:=hr.out; rw [hr]; show a1F _ _=_; simp [a1F,ltK,h0,g0]; try omega
  clear hr
  go_quiet (fail)
  go_wp2
  go_ret
  refine ⟨?_,?_⟩
  ·have:=hr1.out; subst this; rfl
  ·repeat' first | exact a1k.refl _ | apply a1k.drewN | apply a1k.alloc
 go_quiet (fail)
 go_wp2
 obtain rfl:a0=b0:=by omega
 rw [rounds_succ]
 go_wp2
 by_cases h1:a1 < b1
 ·have hr1:Hid (r=-1):=by have hr:=hr.out; rw [hr]; show a1F _ _=_; simp [a1F,ltK,h1]; try omega
  clear hr
  go_quiet (fail)
  go_wp2
  go_ret
  refine ⟨?_,?_⟩
  ·have:=hr1.out; subst this; rfl
  ·repeat' first | exact a1k.refl _ | apply a1k.drewN | apply a1k.alloc
 go_quiet (fail)
 go_wp2
 by_cases g1:b1 < a1
 ·have hr1:Hid (r=1):=by have hr:=hr.out; rw [hr]; show a1F _ _=_; simp [a1F,ltK,h1,g1]; try omega
  clear hr
  go_quiet (fail)
  go_wp2
  go_ret
  refine ⟨?_,?_⟩
  ·have:=hr1.out; subst this; rfl
  ·repeat' first | exact a1k.refl _ | apply a1k.drewN | apply a1k.alloc
 go_quiet (fail)
 go_wp2
 obtain rfl:a1=b1:=by omega
 rw [rounds_succ]
 go_wp2
 by_cases h2:a2 < b2
 ·have hr1:Hid (r=-1):=by have hr:=hr.out; rw [hr]; show a1F _ _=_; simp [a1F,ltK,h2]; try omega
  clear hr
  go_quiet (fail)
  go_wp2
  go_ret
  refine ⟨?_,?_⟩
  ·have:=hr1.out; subst this; rfl
  ·repeat' first | exact a1k.refl _ | apply a1k.drewN | apply a1k.alloc
 go_quiet (fail)
 go_wp2
 by_cases g2:b2 < a2
 ·have hr1:Hid (r=1):=by have hr:=hr.out; rw [hr]; show a1F _ _=_; simp [a1F,ltK,h2,g2]; try omega
  clear hr
  go_quiet (fail)
  go_wp2
  go_ret
  refine ⟨?_,?_⟩
  ·have:=hr1.out; subst this; rfl
  ·repeat' first | exact a1k.refl _ | apply a1k.drewN | apply a1k.alloc
 go_quiet (fail)
 go_wp2
 obtain rfl:a2=b2:=by omega
 rw [rounds_succ]
 go_wp2
 by_cases h3:a3 < b3
 ·have hr1:Hid (r=-1):=by have hr:=hr.out; rw [hr]; show a1F _ _=_; simp [a1F,ltK,h3]; try omega
  clear hr
  go_quiet (fail)
  go_wp2
  go_ret
  refine ⟨?_,?_⟩
  ·have:=hr1.out; subst this; rfl
  ·repeat' first | exact a1k.refl _ | apply a1k.drewN | apply a1k.alloc
 go_quiet (fail)
 go_wp2
 by_cases g3:b3 < a3
 ·have hr1:Hid (r=1):=by have hr:=hr.out; rw [hr]; show a1F _ _=_; simp [a1F,ltK,h3,g3]; try omega
  clear hr
  go_quiet (fail)
  go_wp2
  go_ret
  refine ⟨?_,?_⟩
  ·have:=hr1.out; subst this; rfl
  ·repeat' first | exact a1k.refl _ | apply a1k.drewN | apply a1k.alloc
 go_quiet (fail)
 go_wp2
 obtain rfl:a3=b3:=by omega
 rw [rounds_succ]
 go_wp2
 by_cases h4:a4 < b4
 ·have hr1:Hid (r=-1):=by have hr:=hr.out; rw [hr]; show a1F _ _=_; simp [a1F,ltK,h4]; try omega
  clear hr
  go_quiet (fail)
  go_wp2
  go_ret
  refine ⟨?_,?_⟩
  ·have:=hr1.out; subst this; rfl
  ·repeat' first | exact a1k.refl _ | apply a1k.drewN | apply a1k.alloc
 go_quiet (fail)
 go_wp2
 by_cases g4:b4 < a4
 ·have hr1:Hid (r=1):=by have hr:=hr.out; rw [hr]; show a1F _ _=_; simp [a1F,ltK,h4,g4]; try omega
  clear hr
  go_quiet (fail)
  go_wp2
  go_ret
  refine ⟨?_,?_⟩
  ·have:=hr1.out; subst this; rfl
  ·repeat' first | exact a1k.refl _ | apply a1k.drewN | apply a1k.alloc
 go_quiet (fail)
 go_wp2
 obtain rfl:a4=b4:=by omega
 rw [rounds_succ]
 go_wp2
 by_cases h5:a5 < b5
 ·have hr1:Hid (r=-1):=by have hr:=hr.out; rw [hr]; show a1F _ _=_; simp [a1F,ltK,h5]; try omega
  clear hr
  go_quiet (fail)
  go_wp2
  go_ret
  refine ⟨?_,?_⟩
  ·have:=hr1.out; subst this; rfl
  ·repeat' first | exact a1k.refl _ | apply a1k.drewN | apply a1k.alloc
 go_quiet (fail)
 go_wp2
 by_cases g5:b5 < a5
 ·have hr1:Hid (r=1):=by have hr:=hr.out; rw [hr]; show a1F _ _=_; simp [a1F,ltK,h5,g5]; try omega
  clear hr
  go_quiet (fail)
  go_wp2
  go_ret
  refine ⟨?_,?_⟩
  ·have:=hr1.out; subst this; rfl
  ·repeat' first | exact a1k.refl _ | apply a1k.drewN | apply a1k.alloc
 go_quiet (fail)
 go_wp2
 obtain rfl:a5=b5:=by omega
 have hr1:Hid (r=0):=by have hr:=hr.out; rw [hr]; show a1F _ _=_; simp [a1F,ltK]
 clear hr
 rw [rounds_succ]
 go_wp2
 go_ret
 refine ⟨?_,?_⟩
 ·have:=hr1.out; subst this; rfl
 ·repeat' first | exact a1k.refl _ | apply a1k.drewN | apply a1k.alloc
theorem c2y (x y:O8) (W:World):Calls Try.prog 41 #[.agg #[.int .i64 x.w0,.int .i64 x.w1,.int .i64 x.w2,.int .i64 x.w3,.int .i64 x.w4,.int .i64 x.w5],.agg #[.int .i64 y.w0,.int .i64 y.w1,.int .i64 y.w2,.int .i64 y.w3,.int .i64 y.w4,.int .i64 y.w5]] W fun e w' =>
  e=.returned (.int .i64 (a1F x.w y.w))/\a1k W w':=c2x _ _ _ _ _ _ _ _ _ _ _ _ W
end Go.Proofs.Ytflcopaopimlpaa
namespace Go.Proofs
open Go.Shelf
def Try.sortOffers_ren:Go.Shelf.Ren:=⟨fun | 6=>39 | 15=>59 | 14=>58 | 28=>81 | 29=>82 | 20=>73 | 21=>74 | 22=>75 | 23=>76 | 24=>77 | 25=>78 | 26=>79 | 27=>80 | 46=>91 | 47=>92 | 48=>93 | 49=>94 | 50=>95 | 57=>97 | n=>n,fun | 22=>41 | 24=>52 | 25=>88 | 3=>3 | 39=>104 | 0=>0 | 53=>125 | 55=>127 | 4=>4 | 46=>119 | 45=>118 | 50=>94 | 5=>5 | 9=>9 | 66=>135 | 70=>139 | 76=>141 | 77=>142 | n=>n,fun | n=>n⟩
theorem Try.sortOffers:Go.Proofs.SlLaysF0.n6 Try.prog Try.sortOffers_ren where
 mixed:=by kernel_rfl
 f6 := ⟨Try.f39.name, by decide +kernel, Try.func39.trans (congrArg some (by kernel_rfl))⟩
 f14 := ⟨Try.f58.name, by decide +kernel, Try.func58.trans (congrArg some (by kernel_rfl))⟩
 f15:=Try.func59.trans (congrArg some (by kernel_rfl))
 f20 := ⟨Try.f73.name, by decide +kernel, Try.func73.trans (congrArg some (by kernel_rfl))⟩
 f21 := ⟨Try.f74.name, by decide +kernel, Try.func74.trans (congrArg some (by kernel_rfl))⟩
 f22 := ⟨Try.f75.name, by decide +kernel, Try.func75.trans (congrArg some (by kernel_rfl))⟩
 f23 := ⟨Try.f76.name, by decide +kernel, Try.func76.trans (congrArg some (by kernel_rfl))⟩
 f24 := ⟨Try.f77.name, by decide +kernel, Try.func77.trans (congrArg some (by kernel_rfl))⟩
 f25 := ⟨Try.f78.name, by decide +kernel, Try.func78.trans (congrArg some (by kernel_rfl))⟩
 f26 := ⟨Try.f79.name, by decide +kernel, Try.func79.trans (congrArg some (by kernel_rfl))⟩
 f27 := ⟨Try.f80.name, by decide +kernel, Try.func80.trans (congrArg some (by kernel_rfl))⟩
 f28:=Try.func81.trans (congrArg some (by kernel_rfl))
 f29:=Try.func82.trans (congrArg some (by kernel_rfl))
 f46 := ⟨Try.f91.name, by decide +kernel, Try.func91.trans (congrArg some (by kernel_rfl))⟩
 f47:=Try.func92.trans (congrArg some (by kernel_rfl))
 f48:=Try.func93.trans (congrArg some (by kernel_rfl))
 f49 := ⟨Try.f94.name, by decide +kernel, Try.func94.trans (congrArg some (by kernel_rfl))⟩
 f50 := ⟨Try.f95.name, by decide +kernel, Try.func95.trans (congrArg some (by kernel_rfl))⟩
 f57 := ⟨Try.f97.name, by decide +kernel, Try.func97.trans (congrArg some (by kernel_rfl))⟩
 t0:=Try.underlying0
 a0:=Try.isAgg0
 z0:=Try.sizeOf0
 v0:=Try.zeroValue0
 t3:=Try.underlying3
 a3:=Try.isAgg3
 z3:=Try.sizeOf3
 v3:=Try.zeroValue3
 t4:=Try.underlying4
 a4:=Try.isAgg4
 z4:=Try.sizeOf4
 v4:=Try.zeroValue4
 t5:=Try.underlying5
 a5:=Try.isAgg5
 z5:=Try.sizeOf5
 v5:=Try.zeroValue5
 t9:=Try.underlying9
 a9:=Try.isAgg9
 z9:=Try.sizeOf9
 v9:=Try.zeroValue9
 t22:=Try.underlying41
 a22:=Try.isAgg41
 z22:=Try.sizeOf41
 v22:=Try.zeroValue41
 t25:=Try.underlying88
 a25:=Try.isAgg88
 z25:=Try.sizeOf88
 v25:=Try.zeroValue88
 t39:=Try.underlying104
 a39:=Try.isAgg104
 z39:=Try.sizeOf104
 v39:=Try.zeroValue104
 t45:=Try.underlying118
 a45:=Try.isAgg118
 z45:=Try.sizeOf118
 v45:=Try.zeroValue118
 t46:=Try.underlying119
 a46:=Try.isAgg119
 z46:=Try.sizeOf119
 v46:=Try.zeroValue119
 t50:=Try.underlying94
 a50:=Try.isAgg94
 z50:=Try.sizeOf94
 v50:=Try.zeroValue94
 t53:=Try.underlying125
 a53:=Try.isAgg125
 z53:=Try.sizeOf125
 v53:=Try.zeroValue125
 t55:=Try.underlying127
 a55:=Try.isAgg127
 z55:=Try.sizeOf127
 v55:=Try.zeroValue127
 t66:=Try.underlying135
 a66:=Try.isAgg135
 z66:=Try.sizeOf135
 v66:=Try.zeroValue135
 t70:=Try.underlying139
 a70:=Try.isAgg139
 z70:=Try.sizeOf139
 v70:=Try.zeroValue139
 t76:=Try.underlying141
 a76:=Try.isAgg141
 z76:=Try.sizeOf141
 v76:=Try.zeroValue141
 t77:=Try.underlying142
 a77:=Try.isAgg142
 z77:=Try.sizeOf142
 v77:=Try.zeroValue142
end Go.Proofs
namespace Go.Proofs.Ytflcopaopimlpaa
open Go.Shelf Go.RowKit Go.Lib Go.Sort Go.Sx Go.Proofs
set_option maxHeartbeats 4000000 in
theorem c7C (x y:O8) (W:World):Calls Try.prog 40 #[.agg (O8.enc x).toArray,.agg (O8.enc y).toArray] W fun e w' =>
  e=.returned (.int .i64 (a1F x.w y.w))/\∃ q os',w'=grow (W.drewN q) os':=by
 have hcon:=fun W'=>c2y x y W'
 obtain ⟨b,w0,w1,w2,w3,w4,w5,v⟩:=x
 obtain ⟨b',u0,u1,u2,u3,u4,u5,v'⟩:=y
 simp only at hcon
 generalize a1F _ _=r at hcon ⊢
 simp only [O8.enc]
 go_enter Try.func40,Try.ntmps40
 go_wp2_with (go_at_call 41; refine (hcon _).mono ?_; rintro e w' ⟨rfl,hg⟩)
 go_ret
 refine ⟨rfl,?_⟩
 obtain ⟨q,os,rfl⟩:=hg
 exact ⟨q,_,by rw [alloc_eq_grow,alloc_eq_grow,grow_grow]; show grow (grow (W.drewN q) _) os=_; rw [grow_grow]⟩
def a2b:Sx.Sys:=⟨[],.stuck,[],some (b6q 40),none⟩
theorem a3c:SysOk Try.prog 39 a2b where
 ct Φ _ n:=c5x Try.sortOffers Try.isAgg52 Try.sizeOf52 (enters_of Try.func40 (by kernel_rfl) rfl) (enters_of Try.func39 (by kernel_rfl) rfl) c7C
end Go.Proofs.Ytflcopaopimlpaa
set_option maxRecDepth 100000
namespace Go.Proofs.Ytflcopaopimlpaa
open Go.Sx Go.Kv
def b3P (f:Nat):Option Sx.Sys :=
 if f=37 then some bidbook_Book_has_S else if f=39 then some a2b
 else if f=28 then some bidbook_clone_S else if f=46 then some slices_Clone_api_Product_api_Product_S
 else if f=47 then some slices_Clone_api_Bidder_api_Bidder_S else if f=48 then some slices_Clone_api_Cap_api_Cap_S
 else if f=49 then some slices_Clone_api_Aside_api_Aside_S else none
theorem c6d:∀ f S,b3P f=some S->SysOk Try.prog f S:=by
 intro f S h
 unfold b3P at h
 repeat' split at h
 all_goals first | (rename_i hf; subst hf; cases h; first | exact a7g | exact a3c | exact a6t | exact a4W | exact a5o | exact a6C | exact a5J) | cases h
theorem b3d (n f:Nat):CtP Try.prog f (a0B b3P n f):=evalF_good c6d n f
def c1N:List PV->Option Nat
 | [.mp h]=>some h
 | _=>none
def b2n:List (List PV)->Option (List Nat)
 | []=>some []
 | r::l=>(c1N r).bind fun h=>(b2n l).map (h::·)
theorem c2K {r:List PV} {h:Nat} (e:c1N r=some h):r=[.mp h]:=by
 unfold c1N at e
 split at e
 ·simp only [Q2] at e; subst e; rfl
 ·cases e
theorem b6a:∀ {rows:List (List PV)} {hs:List Nat},b2n rows=some hs->rows=hs.map fun h=>[.mp h]
 | [],hs,h=>by simp only [b2n,Q2] at h; subst h; rfl
 | r::rows,hs,h=>by
  simp only [b2n,Qg,Qu] at h
  obtain ⟨x,h1,l',h2,rfl⟩:=h
  rw [c2K h1,b6a h2]; rfl
theorem b7T:∀ hs:List Nat,b2n (hs.map fun h=>[.mp h])=some hs
 | []=>rfl
 | h::hs=>by simp only [Qn,b2n,c1N,b7T hs,Q5,Qa]
def bkMs (σ:List MO) (hb:Nat):Option (List Nat):=match σ[hb]? with
 | some (.cells [_,_,_,_,.nilS] _)=>some []
 | some (.cells [_,_,_,_,.rsl hl n 1] _)=>match σ[hl]? with
  | some (.row rows 1 _)=>if rows.length=n then b2n rows else none
  | _=>none
 | _=>none
structure BkL (σ:List MO) (hb:Nat) (hs:List Nat) (l:List PV) (L:PV):Prop where
 five:∃ p b c a T,l=[p,b,c,a,L]/\σ[hb]?=some (.cells [p,b,c,a,L] T)
 len:L.len=(hs.length:Int)
 kind:L.isKind 0=true
 one:L.one=true
 low:L.low σ.length=true
 rd:∀ (i:Nat) (h:Nat),hs[i]?=some h->∃ loc,a1z (i:Int) 1 0 L=some loc/\∀ ρ:PEnv,(∀ j,j < σ.length->ρ.m[j]?=σ[j]?)->a0o ρ false 1 loc=some [.mp h]
theorem a9W {σ:List MO} {hb:Nat} {hs:List Nat} (h:bkMs σ hb=some hs):∃ l L,BkL σ hb hs l L:=by
 unfold bkMs at h
 split at h
 ·rename_i p b c a T h0
  simp only [Q2] at h; subst h
  exact ⟨_,.nilS,⟨p,b,c,a,T,rfl,h0⟩,rfl,rfl,rfl,rfl,by simp⟩
 ·rename_i p b c a hl n T h0
  split at h
  case h_2=>cases h
  rename_i rows T' h1
  split at h
  case isFalse=>cases h
  rename_i hn
  subst hn
  have hr:=b6a h
  have hlt:=(Qj.1 h1).1
  have hlen:rows.length=hs.length:=by rw [hr]; simp
  refine ⟨_,.rsl hl rows.length 1,⟨p,b,c,a,T,rfl,h0⟩,by simp [PV.len,hlen],rfl,rfl,by simp [PV.low,hlt],fun i h hi=>?_⟩
  have hi2:=(Qj.1 hi).1
  refine ⟨.elt hl rows.length i 1 0,?_,fun ρ hρ=>?_⟩
  ·simp only [a1z]
   rw [if_pos (by refine ⟨by omega,by omega,?_⟩; trivial)]
   simp
  ·simp only [a0o,Bool.false_eq_true,if_false,hρ hl hlt,h1,Q5,MO.elts,and_self,if_true]
   have:rows[i]?=some [.mp h]:=by rw [hr]; simp [hi]
   rw [this]
   simp [a0z]
 ·cases h
theorem b9o {T:Nat->Option Sx.Sys} (hT:T 37=some bidbook_Book_has_S) (n:Nat) {σ:List MO} {hb:Nat} {hs:List Nat} {l:List PV} {L:PV} (h:BkL σ hb hs l L) (i:Int):a0B T (n+1) 37 [.ref hb 0,.int .i64 i] σ=some (.bool (leB 0 i&&ltB i (hs.length:Int)),σ):=by
 obtain ⟨p,b,c,a,Ty,rfl,h0⟩:=h.five
 rw [a0B,hT]
 simp only [Q5,Sys.run]
 show ((a0E [.sh (.one _),.sh (.one _)] _).bind _)=_
 simp -implicitDefEqProofs only [a0E,a0x,a0w,Qa,Q5,Q3,Q0,Q1,if_true,PV.one]
 show (PT.ev _ a3o _).bind _=_
 have g1:PV.isKind 4 (.ref hb 0)=true:=rfl
 have g2:PV.isKind 1 (.ref hb 0)=true:=rfl
 have g3:PV.isNil (.ref hb 0)=false:=rfl
 have g4:PV.nilOk (.ref hb 0)=true:=rfl
 simp -implicitDefEqProofs only [a3o,↓reduceIte,eq_self,Z1,Z2,Z3,Z4,Z5,Z6,Z7,Z8,Z9,Za,Zb,Zc,Zd,Ze,Zf,Zg,Zh,Nat.reduceAdd,Zi,if_true,if_false,Zl,Zm,Zn,Zo,Zp,Zq,Zr,Zs,Zt,Zu,Zv,Zw,Zx,Zy,Zz,ZA,ZB,ZC,ZD,ZE,g1,g2,g3,g4,a0D,or_true,Q7,h0,MO.list,Qv,h.one,h.kind,h.len]
 cases leB 0 i<;>simp -implicitDefEqProofs only [↓reduceIte,eq_self,Z1,Z2,Z3,Z4,Z5,Z6,Z7,Z8,Z9,Za,Zb,Zc,Zd,Ze,Zf,Zg,Zh,Nat.reduceAdd,Zi,if_true,if_false,Zl,Zm,Zn,Zo,Zp,Zq,Zr,Zs,Zt,Zu,Zv,Zw,Zx,Zy,Zz,ZA,ZB,ZC,ZD,ZE,g1,g2,g3,g4,a0D,or_true,Q7,h0,MO.list,Qv,h.one,h.kind,h.len,Bool.true_and,Bool.false_and]
theorem c5T {T:Nat->Option Sx.Sys} (hT:T 37=some bidbook_Book_has_S) (n:Nat) (σ:List MO) (i:Int):a0B T (n+1) 37 [.nilP,.int .i64 i] σ=some (.bool false,σ):=by
 rw [a0B,hT]
 simp only [Q5,Sys.run]
 show ((a0E [.sh (.one _),.sh (.one _)] _).bind _)=_
 simp -implicitDefEqProofs only [a0E,a0x,a0w,Qa,Q5,Q3,Q0,Q1,if_true,PV.one]
 show (PT.ev _ a3o _).bind _=_
 have g1:PV.isKind 4 .nilP=true:=rfl
 have g3:PV.isNil .nilP=true:=rfl
 have g4:PV.nilOk .nilP=true:=rfl
 simp -implicitDefEqProofs only [a3o,↓reduceIte,eq_self,Z1,Z2,Z3,Z4,Z5,Z6,Z7,Z8,Z9,Za,Zb,Zc,Zd,Ze,Zf,Zg,Zh,Nat.reduceAdd,Zi,if_true,if_false,Zl,Zm,Zn,Zo,Zp,Zq,Zr,Zs,Zt,Zu,Zv,Zw,Zx,Zy,Zz,ZA,ZB,ZC,ZD,ZE,g1,g3,g4,a0D,or_true]
def b2l (i:Int) (kv:KV):PV:=if kv=[] then .nilS else .sl 8 (kv.map fun p=>(kvO i p).row)
def b1B:List PV->List MO->Option (PV × List MO)
 | [.ref hb 0,.int .i64 i],σ=>(bkMs σ hb).bind fun hs =>
   if σ.all (MO.low σ.length)=true then (if (leB 0 i&&ltB i (hs.length:Int))=true then (hs[i.toNat]?).bind fun h=>match σ[h]? with
    | some (.mq kv _)=>if b4S kv=true/\kv.length<=1000 then some (b2l i kv,σ) else none
    | _=>none
   else some (.nilS,σ)) else none
 | [.nilP,.int .i64 _],σ=>if σ.all (MO.low σ.length)=true then some (.nilS,σ) else none
 | _,_=>none
def c0v:Sx.Sys:=⟨[],.stuck,[],some b1B,none⟩
theorem b8b (n:Nat) (a:List PV) (σ:List MO):a0B b3P (n+1) 39 a σ=b6q 40 a σ:=rfl
end Go.Proofs.Ytflcopaopimlpaa
set_option maxRecDepth 100000
namespace Go.Proofs.Ytflcopaopimlpaa
open Go.Sx Go.Kv
def b7v (k:Nat) (es:KV):PV:=if es=[] then .nilS else .rsl (k+1) es.length 8
def b2A (i:Int) (es:KV):List MO:=if es=[] then [] else [.row (es.map fun p=>(kvO i p).row) 8 52]
def a4o (σ:List MO) (h ver:Nat) (sn:List (List Int)) (i:Int) (es:KV):List MO:=σ++(MO.it h ver sn::b2A i es)
def b2W (σ:List MO) (i:Int) (es:KV):List MO:=σ++(MO.dead::b2A i es)
theorem c0W (σ:List MO) (h ver:Nat) (sn:List (List Int)) (i:Int) (es:KV):(a4o σ h ver sn i es)[σ.length]?=some (.it h ver sn):=by
 unfold a4o; rw [Qb (Qe _)]; simp
theorem b8T {σ:List MO} {j:Nat} (hj:j < σ.length) (h ver:Nat) (sn:List (List Int)) (i:Int) (es:KV):(a4o σ h ver sn i es)[j]?=σ[j]?:=by
 unfold a4o; rw [Qp hj]
theorem c5i (σ:List MO) (h ver:Nat) (sn sn':List (List Int)) (i:Int) (es:KV):(a4o σ h ver sn i es).set σ.length (.it h ver sn')=a4o σ h ver sn' i es:=by
 unfold a4o; rw [Q8 _ _ (Qe _)]; simp
theorem c2Y (σ:List MO) (h ver:Nat) (sn:List (List Int)) (i:Int) (es:KV):(a4o σ h ver sn i es).set σ.length .dead=b2W σ i es:=by
 unfold a4o b2W; rw [Q8 _ _ (Qe _)]; simp
theorem c0H (i a b c d e f v:Int):(kvO i ([a,b,c,d,e,f],v)).row=[.int .i64 i,.int .i64 a,.int .i64 b,.int .i64 c,.int .i64 d,.int .i64 e,.int .i64 f,.int .i64 v]:=rfl
theorem c3k {σ:List MO} {hb:Nat} {hs:List Nat} {l:List PV} {L:PV} (hk:BkL σ hb hs l L) (hlow:σ.all (MO.low σ.length)=true) {i:Int} {h:Nat} (hi:(leB 0 i&&ltB i (hs.length:Int))=true) (hh:hs[i.toNat]?=some h) {kv:KV} {ver:Nat}
  (h1:σ[h]?=some (.mq kv ver)) (hasc:Asc kv) (hlen:kv.length<=1000):CtD Try.prog 25 [.ref hb 0,.int .i64 i] σ (fun r σ'=>r=b2l i kv/\σ'=σ):=by
 have hhlt:=(Qj.1 h1).1
 have hn:=hasc.nd
 have htake:∀ x:List MO,(σ++x).take σ.length=σ:=fun x=>by simp
 refine a4k.dm (a0B b3P 5) (b3d 5) (kv.length+2) _ _ _ ?_
 have loop:∀ (n:Nat) (seen:List (List Int)) (es:KV),Went kv seen es->kv.length < seen.length+n ->
   bidbook_Book_Offers_S.loopD (a0B b3P 5) n 0 { i:=[i],b:=[],v:=[b7v σ.length es,.ref σ.length 0],m:=a4o σ h ver seen i es,k:=σ.length } (fun r σ'=>r=b2l i kv/\σ'=σ):=by
  intro n
  induction n with
  | zero=>intro seen es hw hlt; have:=hw.len hn; omega
  | succ n ih =>
   intro seen es hw hlt
   refine ⟨_,rfl,?_⟩
   show PT.wp _ a4d _ _
   unfold a4d
   refine c0F (i:=σ.length) (h:=h) (kv:=kv) (ver:=ver) (seen:=seen) rfl (c0W ..) ((b8T hhlt ..).trans h1) hasc.wide (fun hleft=>?_) (fun p hp=>?_)
   ·
    have hperm:=hw.over hn hleft
    obtain ⟨q1,q2⟩:=c4y hasc hperm i
    rw [c2Y]
    by_cases hes:es=[]
    ·subst hes
     have hkv:kv=[]:=by have:=hperm.length_eq; simpa using this.symm
     subst hkv
     refine a8z (aa:=[.nilS,.fn 40 []]) (r:=.tup []) (σ:=b2W σ i []) (z:=([],[],[])) rfl (by rw [b8b]; rfl) rfl ?_
     refine ⟨.nilS,rfl,(.nilS,σ),?_,rfl,rfl⟩
     simp only [a0D,PEnv.push,Q3,b2W,b2A,if_true]
     rw [if_neg (by simp),if_pos (by rw [htake]; exact hlow),htake]
     rfl
    ·have hlen2:es.length=kv.length:=hperm.length_eq
     have hkv:kv≠[]:=by rintro rfl; exact hes (List.length_eq_zero_iff.1 hlen2)
     have g1:(b2W σ i es)[σ.length+1]?=some (.row ((es.map (kvO i)).map O8.row) 8 52):=by
      unfold b2W b2A
      rw [if_neg hes,Qb (by omega),List.map_map]
      simp [Function.comp_def]
     have g2:(b2W σ i es).set (σ.length+1) (.row ((a3w (es.map (kvO i))).map O8.row) 8 52)=σ++[.dead,.row ((kv.map (kvO i)).map O8.row) 8 52]:=by
      unfold b2W b2A
      rw [if_neg hes,Q8 _ _ (by omega),q2]
      simp
     refine a8z (aa:=[.rsl (σ.length+1) es.length 8,.fn 40 []]) (r:=.tup []) (σ:=σ++[.dead,.row ((kv.map (kvO i)).map O8.row) 8 52]) (z:=([],[],[])) ?_ ?_ rfl ?_
     ·simp only [SV.pvs,SV.pv,b7v,if_neg hes,Qk,Q5,Qa,if_true]
     ·rw [b8b]
      simp only [b6q,g1,b7O,Q5]
      rw [if_pos (by simp [q1]; omega),g2]
     ·refine ⟨.rsl (σ.length+1) es.length 8,?_,(b2l i kv,σ),?_,rfl,rfl⟩
      ·simp only [SV.pv,PEnv.push,Q3,b7v,if_neg hes,Qk]
      ·simp only [a0D,PEnv.push,Q3]
       rw [if_neg (by simp),if_pos (by rw [htake]; exact hlow),htake]
       have g3:(σ++[.dead,.row ((kv.map (kvO i)).map O8.row) 8 52])[σ.length+1]?=some (.row ((kv.map (kvO i)).map O8.row) 8 52):=by
        rw [Qb (by omega)]; simp
       simp only [PV.frz,a8l,g3,Q5,b6B,Qa,MO.elts]
       rw [if_neg (by omega),if_pos (by simp [hlen2])]
       simp only [Qa,b2l,if_neg hkv,List.map_map]
       rfl
   ·obtain ⟨p1,p2⟩:=b0j.1 hp
    have hw':=hw.next hp
    obtain ⟨pk,pv⟩:=p
    have hk6:pk.length=6:=hasc.six _ p1
    have hlook:=(Kv.lookQ_some hn).2 p1
    obtain ⟨b0,b1,b2,b3,b4,b5,rfl⟩:=b6V hk6
    have hn2:=ih (seen++[[b0,b1,b2,b3,b4,b5]]) (es++[([b0,b1,b2,b3,b4,b5],pv)]) hw' (by simp; omega)
    have hel:es.length<=1000:=by
     have:=(List.Perm.length_eq (List.Perm.refl es)); have h9:=hw'.len hn; have h8:=congrArg List.length hw'.1
     simp at h8 h9; omega
    rw [c5i]
    refine b8L (i:=σ.length) (h:=h) (kv:=kv) (ver:=ver) (seen:=seen) (key:=[b0,b1,b2,b3,b4,b5]) (v:=pv) rfl (c0W ..) ((b8T hhlt ..).trans h1) hlook rfl ?_
    simp only [PEnv.push,Q1,Q0,Q3]
    simp only [PT.wp,a8Y,a1f,List.mapM_cons,List.mapM_nil,SV.pvs,SV.pv,IE.pe,Q5,Qa,Qh,Qq,Option.pure_def,Option.bind_eq_bind,Q0,Qd,Q9,Q7]
    refine ⟨[],rfl,[[.int .i64 i,.int .i64 b0,.int .i64 b1,.int .i64 b2,.int .i64 b3,.int .i64 b4,.int .i64 b5,.int .i64 pv]],rfl,?_⟩
    rw [if_pos (by simp)]
    simp only [Q0]
    by_cases hes:es=[]
    ·subst hes
     refine ⟨.nilS,rfl,_,rfl,?_⟩
     rw [if_pos (by simp),if_neg (by simp)]
     refine ⟨[],rfl,_,rfl,?_⟩
     have e1:(a4o σ h ver (seen++[[b0,b1,b2,b3,b4,b5]]) i []).length=σ.length+1:=by simp [a4o,b2A]
     have e2:a4o σ h ver (seen++[[b0,b1,b2,b3,b4,b5]]) i []++[MO.row [[PV.int .i64 i,.int .i64 b0,.int .i64 b1,.int .i64 b2,.int .i64 b3,.int .i64 b4,.int .i64 b5,.int .i64 pv]] 8 52]=a4o σ h ver (seen++[[b0,b1,b2,b3,b4,b5]]) i [([b0,b1,b2,b3,b4,b5],pv)]:=by
      simp [a4o,b2A,c0H]
     simp only [Qn,Qs,IE.pe,Qh,e1,e2,Q9,Qd,Q7]
     exact hn2
    ·refine ⟨.rsl (σ.length+1) es.length 8,by simp [b7v,hes],_,rfl,?_⟩
     have g1:(a4o σ h ver (seen++[[b0,b1,b2,b3,b4,b5]]) i es)[σ.length+1]?=some (.row (es.map fun p=>(kvO i p).row) 8 52):=by
      unfold a4o b2A
      rw [if_neg hes,Qb (by omega)]
      simp
     simp only [g1,List.length_map,Q9,Qd,Q7,true_and,and_self]
     rw [if_pos (by omega),if_neg (by omega)]
     refine ⟨[],rfl,_,rfl,?_⟩
     have e2:(a4o σ h ver (seen++[[b0,b1,b2,b3,b4,b5]]) i es).set (σ.length+1) (MO.row ((es.map fun p=>(kvO i p).row)++[[PV.int .i64 i,.int .i64 b0,.int .i64 b1,.int .i64 b2,.int .i64 b3,.int .i64 b4,.int .i64 b5,.int .i64 pv]]) 8 52)=a4o σ h ver (seen++[[b0,b1,b2,b3,b4,b5]]) i (es++[([b0,b1,b2,b3,b4,b5],pv)]):=by
      unfold a4o b2A
      rw [if_neg hes,if_neg (by simp),Q8 _ _ (by omega)]
      simp [c0H]
     have e3:b7v σ.length (es++[([b0,b1,b2,b3,b4,b5],pv)])=.rsl (σ.length+1) (es.length+1) 8:=by simp [b7v]
     simp only [Qn,Qs,IE.pe,Qh,Q9,Qd,Q7,e2]
     rw [e3] at hn2
     exact hn2
 obtain ⟨p,b,c,a,Ty,rfl,h0⟩:=hk.five
 obtain ⟨loc,r1,r2⟩:=hk.rd i.toNat h hh
 have hi2:=hi
 simp only [Qr,a2n,a0U] at hi2
 rw [show ((i.toNat:Nat):Int)=i by omega] at r1
 refine ⟨([i],[],[.ref hb 0]),rfl,?_⟩
 show PT.wp _ a1Q _ _
 unfold a1Q
 refine a8z (aa:=[.ref hb 0,.int .i64 i]) (r:=.bool true) (σ:=σ) (z:=([],[true],[])) rfl ((b9o rfl 4 hk i).trans (by rw [hi])) rfl ?_
 refine a4O rfl rfl ?_
 refine a1W rfl rfl ?_
 refine a8B (l:=.obj hb 4) (z:=[L]) (r:=([],[],[L])) rfl (b5V h0 rfl) (by simp [a0w,hk.one]) ?_
 simp only [PEnv.push,Q1,Q0,Q3]
 refine a1W rfl (by simp only [BE.pe,IE.pe,PEnv.at,Qh,Qq,hk.len]; exact hi) ?_
 refine a8B (l:=loc) (z:=[.mp h]) (r:=([],[],[.mp h])) (by simpa [a0y,IE.pe] using r1) (r2 _ (fun _ _=>rfl)) rfl ?_
 simp only [PEnv.push,Q1,Q0,Q3]
 refine c6U (h:=h) (kv:=kv) (ver:=ver) rfl h1 ?_
 simp only [Q1,Q0]
 refine b4a (b:=[]) (v:=[.nilS,.ref σ.length 0]) rfl rfl ?_
 have:=loop (kv.length+2) [] [] (.nil kv) (by simp)
 exact this
theorem c1q:SysOk Try.prog 25 c0v where
 ct Φ hΦ n aa σ r σ' hh:=by
  change b1B aa σ=some (r,σ') at hh
  unfold b1B at hh
  split at hh
  ·rename_i σ0 hb i
   rw [Qg] at hh
   obtain ⟨hs,h0,hh⟩:=hh
   obtain ⟨l,L,hk⟩:=a9W h0
   split at hh
   case isFalse=>cases hh
   rename_i hlow
   split at hh
   ·rename_i hi
    rw [Qg] at hh
    obtain ⟨h,h1,hh⟩:=hh
    split at hh
    case h_2=>cases hh
    rename_i kv ver h2
    split at hh
    case isFalse=>cases hh
    rename_i hc
    simp only [Q2,Q4] at hh
    obtain ⟨rfl,rfl⟩:=hh
    exact (c3k hk hlow hi h1 h2 (b3p hc.1) hc.2).one
   ·rename_i hi
    simp only [Q2,Q4] at hh
    obtain ⟨rfl,rfl⟩:=hh
    refine CtD.one (a4k.dm (a0B b3P 5) (b3d 5) 1 _ _ _ ?_)
    refine ⟨([i],[],[.ref hb 0]),rfl,?_⟩
    show PT.wp _ a1Q _ _
    unfold a1Q
    refine a8z (aa:=[.ref hb 0,.int .i64 i]) (r:=.bool false) (σ:=σ) (z:=([],[false],[])) rfl ((b9o rfl 4 hk i).trans (by rw [Bool.not_eq_true] at hi; rw [hi])) rfl ?_
    refine a4b rfl rfl ?_
    refine ⟨.nilS,rfl,(.nilS,σ),?_,rfl,rfl⟩
    simp [a0D,PEnv.push]
  ·rename_i σ0 i
   split at hh
   case isFalse=>cases hh
   rename_i hlow
   simp only [Q2,Q4] at hh
   obtain ⟨rfl,rfl⟩:=hh
   refine CtD.one (a4k.dm (a0B b3P 5) (b3d 5) 1 _ _ _ ?_)
   refine ⟨([i],[],[.nilP]),rfl,?_⟩
   show PT.wp _ a1Q _ _
   unfold a1Q
   refine a8z (aa:=[.nilP,.int .i64 i]) (r:=.bool false) (σ:=σ) (z:=([],[false],[])) rfl (c5T rfl 4 σ i) rfl ?_
   refine a4b rfl rfl ?_
   refine ⟨.nilS,rfl,(.nilS,σ),?_,rfl,rfl⟩
   simp [a0D,PEnv.push]
  ·cases hh
end Go.Proofs.Ytflcopaopimlpaa
set_option maxRecDepth 100000
namespace Go.Proofs.Ytflcopaopimlpaa
open Go.Sx Go.Kv
def a4p (sz:Nat):List PV->List MO->Option (PV × List MO)
 | [.nilS],σ=>some (.nilS,σ)
 | [.sl n rows],σ=>if n=sz/\rows.length<=1000000 then some (.sl n rows,σ) else none
 | _,_=>none
theorem c6S {s:Hp} {B:Inf} {n:Nat} {v:Value} (h:Rep s B .nilS v):Rep s B (.sl n []) v:=by
 simp only [Rep] at h ⊢
 subst h
 exact ⟨[],⟨by simp,none,0,rfl,Qe _,by simp⟩,rfl,by simp⟩
theorem b4c {P:Program} {f:Nat} {aa:List PV} {σ:List MO} {n:Nat} (h:CtD P f aa σ (fun r σ'=>(r=.nilS\/r=.sl n [])/\σ'=σ)):CtD P f aa σ (fun r σ'=>r=.sl n []/\σ'=σ):=by
 refine ⟨h.1,fun s m vs a b c w hs hm=>(h.2 s m vs a b c w hs hm).mono ?_⟩
 rintro e w' ⟨v,s',m',e1,e2,e3,e4,e5,e6,e7,r',σ'',⟨hr,rfl⟩,hq⟩
 refine ⟨v,s',m',e1,e2,e3,e4,e5,e6,e7,.sl n [],_,⟨rfl,rfl⟩,hq.1,?_,hq.2.2⟩
 rcases hr with rfl | rfl
 ·exact c6S hq.2.1
 ·exact hq.2.1
theorem a1U:SysIs Try.prog 46 slices_Clone_api_Product_api_Product_S:=a8F (c:=(cg [] [] [] false false false true)) (a0J _ _ _ _ _ _ _ _ _) Try.func46 Try.call46 (by kernel_rfl) a2J slices_Clone_api_Product_api_Product_S 5000 rfl (by kernel_rfl) (by kernel_rfl)
def a1X:Sx.Sys:=⟨[],.stuck,[],some (a4p 5),none⟩
theorem a2I:SysOk Try.prog 46 a1X where
 ct Φ hΦ n aa σ r σ' hh:=by
  change a4p 5 aa σ=some (r,σ') at hh
  unfold a4p at hh
  split at hh
  ·simp only [Q2,Q4] at hh
   obtain ⟨rfl,rfl⟩:=hh
   refine CtD.one (a1U.dm Φ hΦ 1 _ _ _ ⟨([],[],[.nilS]),rfl,?_⟩)
   show PT.wp _ a0Z _ _
   unfold a0Z
   refine a1W rfl rfl (a4b rfl rfl ⟨.nilS,rfl,(.nilS,_),?_,rfl,rfl⟩)
   simp [a0D]
  ·rename_i σ0 n rows
   split at hh
   case isFalse=>cases hh
   rename_i hc
   obtain ⟨rfl,hc⟩:=hc
   simp only [Q2,Q4] at hh
   obtain ⟨rfl,rfl⟩:=hh
   cases rows with
   | nil =>
    refine CtD.one (b4c (a1U.dm Φ hΦ 1 _ _ _ ⟨([],[],[.sl 5 []]),rfl,?_⟩))
    show PT.wp _ a0Z _ _
    unfold a0Z
    refine a1W rfl rfl ?_
    simp only [PT.wp]
    rw [if_neg (by simp [BE.safe,PEnv.at,PV.nilOk])]
    refine ⟨⟨.nilS,rfl,(.nilS,_),by simp [a0D],.inl rfl,rfl⟩,[],rfl,[],rfl,?_⟩
    rw [if_pos (by simp)]
    refine ⟨[],by simp [a8Y,PV.rowsOf],[],by simp [a1f,PV.rowsOf],?_⟩
    rw [if_pos (by simp)]
    exact ⟨.sl 5 [],rfl,(.sl 5 [],_),by simp [a0D],.inr rfl,rfl⟩
   | cons x rows =>
    refine CtD.one (a1U.dm Φ hΦ 1 _ _ _ ⟨([],[],[.sl 5 (x::rows)]),rfl,?_⟩)
    show PT.wp _ a0Z _ _
    unfold a0Z
    refine a1W rfl rfl (a4O rfl rfl ?_)
    simp only [PT.wp]
    refine ⟨[],rfl,[],rfl,?_⟩
    rw [if_pos (by simp)]
    refine ⟨[],by simp [a8Y,PV.rowsOf],x::rows,by simp [a1f,PV.rowsOf],?_⟩
    rw [if_pos (by simpa using hc)]
    exact ⟨.sl 5 (x::rows),rfl,(.sl 5 (x::rows),_),by simp [a0D],rfl,rfl⟩
  ·cases hh
theorem a2a:SysIs Try.prog 47 slices_Clone_api_Bidder_api_Bidder_S:=a8F (c:=(cg [] [] [] false false false true)) (a0J _ _ _ _ _ _ _ _ _) Try.func47 Try.call47 (by kernel_rfl) a2U slices_Clone_api_Bidder_api_Bidder_S 5000 rfl (by kernel_rfl) (by kernel_rfl)
def a2g:Sx.Sys:=⟨[],.stuck,[],some (a4p 4),none⟩
theorem a2V:SysOk Try.prog 47 a2g where
 ct Φ hΦ n aa σ r σ' hh:=by
  change a4p 4 aa σ=some (r,σ') at hh
  unfold a4p at hh
  split at hh
  ·simp only [Q2,Q4] at hh
   obtain ⟨rfl,rfl⟩:=hh
   refine CtD.one (a2a.dm Φ hΦ 1 _ _ _ ⟨([],[],[.nilS]),rfl,?_⟩)
   show PT.wp _ a1c _ _
   unfold a1c
   refine a1W rfl rfl (a4b rfl rfl ⟨.nilS,rfl,(.nilS,_),?_,rfl,rfl⟩)
   simp [a0D]
  ·rename_i σ0 n rows
   split at hh
   case isFalse=>cases hh
   rename_i hc
   obtain ⟨rfl,hc⟩:=hc
   simp only [Q2,Q4] at hh
   obtain ⟨rfl,rfl⟩:=hh
   cases rows with
   | nil =>
    refine CtD.one (b4c (a2a.dm Φ hΦ 1 _ _ _ ⟨([],[],[.sl 4 []]),rfl,?_⟩))
    show PT.wp _ a1c _ _
    unfold a1c
    refine a1W rfl rfl ?_
    simp only [PT.wp]
    rw [if_neg (by simp [BE.safe,PEnv.at,PV.nilOk])]
    refine ⟨⟨.nilS,rfl,(.nilS,_),by simp [a0D],.inl rfl,rfl⟩,[],rfl,[],rfl,?_⟩
    rw [if_pos (by simp)]
    refine ⟨[],by simp [a8Y,PV.rowsOf],[],by simp [a1f,PV.rowsOf],?_⟩
    rw [if_pos (by simp)]
    exact ⟨.sl 4 [],rfl,(.sl 4 [],_),by simp [a0D],.inr rfl,rfl⟩
   | cons x rows =>
    refine CtD.one (a2a.dm Φ hΦ 1 _ _ _ ⟨([],[],[.sl 4 (x::rows)]),rfl,?_⟩)
    show PT.wp _ a1c _ _
    unfold a1c
    refine a1W rfl rfl (a4O rfl rfl ?_)
    simp only [PT.wp]
    refine ⟨[],rfl,[],rfl,?_⟩
    rw [if_pos (by simp)]
    refine ⟨[],by simp [a8Y,PV.rowsOf],x::rows,by simp [a1f,PV.rowsOf],?_⟩
    rw [if_pos (by simpa using hc)]
    exact ⟨.sl 4 (x::rows),rfl,(.sl 4 (x::rows),_),by simp [a0D],rfl,rfl⟩
  ·cases hh
theorem a2H:SysIs Try.prog 48 slices_Clone_api_Cap_api_Cap_S:=a8F (c:=(cg [] [] [] false false false true)) (a0J _ _ _ _ _ _ _ _ _) Try.func48 Try.call48 (by kernel_rfl) a3F slices_Clone_api_Cap_api_Cap_S 5000 rfl (by kernel_rfl) (by kernel_rfl)
def a2Q:Sx.Sys:=⟨[],.stuck,[],some (a4p 3),none⟩
theorem a3G:SysOk Try.prog 48 a2Q where
 ct Φ hΦ n aa σ r σ' hh:=by
  change a4p 3 aa σ=some (r,σ') at hh
  unfold a4p at hh
  split at hh
  ·simp only [Q2,Q4] at hh
   obtain ⟨rfl,rfl⟩:=hh
   refine CtD.one (a2H.dm Φ hΦ 1 _ _ _ ⟨([],[],[.nilS]),rfl,?_⟩)
   show PT.wp _ a1n _ _
   unfold a1n
   refine a1W rfl rfl (a4b rfl rfl ⟨.nilS,rfl,(.nilS,_),?_,rfl,rfl⟩)
   simp [a0D]
  ·rename_i σ0 n rows
   split at hh
   case isFalse=>cases hh
   rename_i hc
   obtain ⟨rfl,hc⟩:=hc
   simp only [Q2,Q4] at hh
   obtain ⟨rfl,rfl⟩:=hh
   cases rows with
   | nil =>
    refine CtD.one (b4c (a2H.dm Φ hΦ 1 _ _ _ ⟨([],[],[.sl 3 []]),rfl,?_⟩))
    show PT.wp _ a1n _ _
    unfold a1n
    refine a1W rfl rfl ?_
    simp only [PT.wp]
    rw [if_neg (by simp [BE.safe,PEnv.at,PV.nilOk])]
    refine ⟨⟨.nilS,rfl,(.nilS,_),by simp [a0D],.inl rfl,rfl⟩,[],rfl,[],rfl,?_⟩
    rw [if_pos (by simp)]
    refine ⟨[],by simp [a8Y,PV.rowsOf],[],by simp [a1f,PV.rowsOf],?_⟩
    rw [if_pos (by simp)]
    exact ⟨.sl 3 [],rfl,(.sl 3 [],_),by simp [a0D],.inr rfl,rfl⟩
   | cons x rows =>
    refine CtD.one (a2H.dm Φ hΦ 1 _ _ _ ⟨([],[],[.sl 3 (x::rows)]),rfl,?_⟩)
    show PT.wp _ a1n _ _
    unfold a1n
    refine a1W rfl rfl (a4O rfl rfl ?_)
    simp only [PT.wp]
    refine ⟨[],rfl,[],rfl,?_⟩
    rw [if_pos (by simp)]
    refine ⟨[],by simp [a8Y,PV.rowsOf],x::rows,by simp [a1f,PV.rowsOf],?_⟩
    rw [if_pos (by simpa using hc)]
    exact ⟨.sl 3 (x::rows),rfl,(.sl 3 (x::rows),_),by simp [a0D],rfl,rfl⟩
  ·cases hh
theorem a2h:SysIs Try.prog 49 slices_Clone_api_Aside_api_Aside_S:=a8F (c:=(cg [] [] [] false false false true)) (a0J _ _ _ _ _ _ _ _ _) Try.func49 Try.call49 (by kernel_rfl) a3j slices_Clone_api_Aside_api_Aside_S 5000 rfl (by kernel_rfl) (by kernel_rfl)
def a2o:Sx.Sys:=⟨[],.stuck,[],some (a4p 3),none⟩
theorem a3i:SysOk Try.prog 49 a2o where
 ct Φ hΦ n aa σ r σ' hh:=by
  change a4p 3 aa σ=some (r,σ') at hh
  unfold a4p at hh
  split at hh
  ·simp only [Q2,Q4] at hh
   obtain ⟨rfl,rfl⟩:=hh
   refine CtD.one (a2h.dm Φ hΦ 1 _ _ _ ⟨([],[],[.nilS]),rfl,?_⟩)
   show PT.wp _ a1h _ _
   unfold a1h
   refine a1W rfl rfl (a4b rfl rfl ⟨.nilS,rfl,(.nilS,_),?_,rfl,rfl⟩)
   simp [a0D]
  ·rename_i σ0 n rows
   split at hh
   case isFalse=>cases hh
   rename_i hc
   obtain ⟨rfl,hc⟩:=hc
   simp only [Q2,Q4] at hh
   obtain ⟨rfl,rfl⟩:=hh
   cases rows with
   | nil =>
    refine CtD.one (b4c (a2h.dm Φ hΦ 1 _ _ _ ⟨([],[],[.sl 3 []]),rfl,?_⟩))
    show PT.wp _ a1h _ _
    unfold a1h
    refine a1W rfl rfl ?_
    simp only [PT.wp]
    rw [if_neg (by simp [BE.safe,PEnv.at,PV.nilOk])]
    refine ⟨⟨.nilS,rfl,(.nilS,_),by simp [a0D],.inl rfl,rfl⟩,[],rfl,[],rfl,?_⟩
    rw [if_pos (by simp)]
    refine ⟨[],by simp [a8Y,PV.rowsOf],[],by simp [a1f,PV.rowsOf],?_⟩
    rw [if_pos (by simp)]
    exact ⟨.sl 3 [],rfl,(.sl 3 [],_),by simp [a0D],.inr rfl,rfl⟩
   | cons x rows =>
    refine CtD.one (a2h.dm Φ hΦ 1 _ _ _ ⟨([],[],[.sl 3 (x::rows)]),rfl,?_⟩)
    show PT.wp _ a1h _ _
    unfold a1h
    refine a1W rfl rfl (a4O rfl rfl ?_)
    simp only [PT.wp]
    refine ⟨[],rfl,[],rfl,?_⟩
    rw [if_pos (by simp)]
    refine ⟨[],by simp [a8Y,PV.rowsOf],x::rows,by simp [a1f,PV.rowsOf],?_⟩
    rw [if_pos (by simpa using hc)]
    exact ⟨.sl 3 (x::rows),rfl,(.sl 3 (x::rows),_),by simp [a0D],rfl,rfl⟩
  ·cases hh
end Go.Proofs.Ytflcopaopimlpaa
set_option maxRecDepth 100000
namespace Go.Proofs.Ytflcopaopimlpaa
open Go.Sx Go.Kv
def a7i (f:Nat):Option Sx.Sys :=
 if f=28 then some bidbook_clone_S else if f=46 then some a1X
 else if f=47 then some a2g else if f=48 then some a2Q
 else if f=49 then some a2o else none
theorem c5N:∀ f S,a7i f=some S->SysOk Try.prog f S:=by
 intro f S h
 unfold a7i at h
 repeat' split at h
 all_goals first | (rename_i hf; subst hf; cases h; first | exact a6t | exact a2I | exact a2V | exact a3G | exact a3i) | cases h
theorem b7K (n f:Nat):CtP Try.prog f (a0B a7i n f):=evalF_good c5N n f
def clB (sz:Nat):PV->Bool
 | .nilS=>true
 | .sl n rows=>decide (n=sz)&&decide (rows.length<=1000000)
 | _=>false
theorem a3z {sz:Nat} {p:PV} (h:clB sz p=true):(∀ σ,a4p sz [p] σ=some (p,σ))/\p.one=true:=by
 unfold clB at h
 split at h
 ·exact ⟨fun _=>rfl,rfl⟩
 ·simp only [Qr,decide_eq_true_eq] at h
  exact ⟨fun σ=>by show (if _ then _ else _)=_; rw [if_pos h],rfl⟩
 ·cases h
theorem c4T (n:Nat) (σ:List MO) {p b c a:PV} (h1:clB 5 p=true) (h2:clB 4 b=true) (h3:clB 3 c=true) (h4:clB 3 a=true):a0B a7i (n+2) 28 [.agg [p,b,c,a]] σ=some (.agg [p,b,c,a],σ):=by
 obtain ⟨c1,o1⟩:=a3z h1
 obtain ⟨c2,o2⟩:=a3z h2
 obtain ⟨c3,o3⟩:=a3z h3
 obtain ⟨c4,o4⟩:=a3z h4
 have e1:a0B a7i (n+1) 46 [p] σ=some (p,σ):=c1 σ
 have e2:a0B a7i (n+1) 47 [b] σ=some (b,σ):=c2 σ
 have e3:a0B a7i (n+1) 48 [c] σ=some (c,σ):=c3 σ
 have e4:a0B a7i (n+1) 49 [a] σ=some (a,σ):=c4 σ
 rw [a0B,show a7i 28=some bidbook_clone_S from rfl]
 simp only [Q5,Sys.run]
 show ((a0E [.sh (.agg [_,_,_,_])] _).bind _)=_
 simp -implicitDefEqProofs only [a0E,a0x,a0w,Qa,Q5,Q3,Q0,Q1,if_true,o1,o2,o3,o4]
 show (PT.ev _ a3Z _).bind _=_
 simp -implicitDefEqProofs only [a3Z,↓reduceIte,eq_self,Z1,Z2,Z3,Z4,Z5,Z6,Z7,Z8,Z9,Za,Zb,Zc,Zd,Ze,Zf,Zg,Zh,Nat.reduceAdd,Zi,if_true,if_false,Zl,Zm,Zn,Zo,Zp,Zq,Zr,Zs,Zt,Zu,Zv,Zw,Zx,Zy,Zz,ZA,ZB,ZC,ZD,ZE,e1,e2,e3,e4,o1,o2,o3,o4,a0D,or_true]
def b2x (kvs:List KV):List MO:=kvs.flatMap fun kv=>[MO.mq kv kv.length,MO.dead]
def hnd (k i:Nat):Nat:=if i=0 then k+1 else k+2+2*i
def a7D (k j:Nat):List (List PV):=(List.range j).map fun i=>[PV.mp (hnd k i)]
def cpO (k:Nat) (pre:List PV):List KV->List MO
 | []=>[.cells (pre++[.nilS]) 68]
 | kv::kvs=>.cells (pre++[.rsl (k+3) (kvs.length+1) 1]) 68::.mq kv kv.length::.dead::.row (a7D k (kvs.length+1)) 1 69::b2x kvs
theorem c2M (kvs:List KV):(b2x kvs).length=2*kvs.length:=by
 induction kvs with
 | nil=>rfl
 | cons kv kvs ih=>simp only [b2x,List.flatMap_cons,Q6,Q9,Qd] at *; omega
theorem b6S (k:Nat) (pre:List PV) (kvs:List KV):k+(cpO k pre kvs).length=hnd k kvs.length:=by
 cases kvs with
 | nil=>simp [cpO,hnd]
 | cons kv kvs=>simp only [cpO,Q9,c2M,hnd]; rw [if_neg (by omega)]; omega
theorem c1w (k j:Nat):a7D k (j+1)=a7D k j++[[.mp (hnd k j)]]:=by simp [a7D,List.range_succ]
theorem c2G (k j:Nat):(a7D k j).length=j:=by simp [a7D]
def c4M (σ:List MO) (h:Nat):Option KV:=match σ[h]? with
 | some (.mq kv _)=>if b4S kv=true/\kv.length<=1000 then some kv else none
 | _=>none
def b6n (σ:List MO):List Nat->Option (List KV)
 | []=>some []
 | h::hs=>(c4M σ h).bind fun kv=>(b6n σ hs).map (kv::·)
theorem c3i {σ:List MO} {h:Nat} {kv:KV} (e:c4M σ h=some kv):∃ ver,σ[h]?=some (.mq kv ver)/\Asc kv/\kv.length<=1000:=by
 unfold c4M at e
 split at e
 case h_2=>cases e
 rename_i kv' ver h0
 split at e
 case isFalse=>cases e
 rename_i hc
 simp only [Q2] at e; subst e
 exact ⟨ver,h0,b3p hc.1,hc.2⟩
theorem b5P {σ:List MO}:∀ {hs:List Nat} {kvs:List KV},b6n σ hs=some kvs->kvs.length=hs.length/\∀ (i h:Nat),hs[i]?=some h->∃ kv ver,kvs[i]?=some kv/\σ[h]?=some (.mq kv ver)/\Asc kv/\kv.length<=1000
 | [],kvs,e=>by simp only [b6n,Q2] at e; subst e; exact ⟨rfl,by simp⟩
 | h::hs,kvs,e=>by
  simp only [b6n,Qg,Qu] at e
  obtain ⟨kv,h1,kvs',h2,rfl⟩:=e
  obtain ⟨e1,e2⟩:=b5P h2
  obtain ⟨ver,k1,k2,k3⟩:=c3i h1
  refine ⟨by simp [e1],fun i h' hi=>?_⟩
  cases i with
  | zero=>simp only [Qk,Q2] at hi; subst hi; exact ⟨kv,ver,rfl,k1,k2,k3⟩
  | succ i=>simpa using e2 i h' (by simpa using hi)
def c1d:List PV->List MO->Option (PV × List MO)
 | [.nilP],σ=>some (.nilP,σ)
 | [.ref hb 0],σ=>(bkMs σ hb).bind fun hs=>match σ[hb]? with
  | some (.cells [p,b,c,a,_] _)=>if clB 5 p&&clB 4 b&&clB 3 c&&clB 3 a then
    (b6n σ hs).bind fun kvs=>if kvs.length<=1000 then some (.ref σ.length 0,σ++cpO σ.length [p,b,c,a] kvs) else none
   else none
  | _=>none
 | _,_=>none
def c5w:Sx.Sys:=⟨[],.stuck,[],some c1d,none⟩
end Go.Proofs.Ytflcopaopimlpaa
set_option maxRecDepth 100000
namespace Go.Proofs.Ytflcopaopimlpaa
open Go.Sx Go.Kv
section
variable {Φ:Fns} {ρ:PEnv} {R:Res->Prop} {k:PT}
theorem c5Z {src:Src} {size:Nat} {es:List (List PV)} (h1:a1f ρ size src=some es) (h2:es.length<=1000000) (hk:k.wp Φ { ρ with v:=ρ.v++[.sl size es] } R):(PT.app none src size k).wp Φ ρ R :=
 ⟨[],rfl,es,h1,by rw [if_pos (by simpa using h2)]; exact hk⟩
theorem c4z {d:SV} {src:Src} {size T:Nat} {es:List (List PV)} (h0:d.pv ρ noOwn=some .nilS) (h1:a1f ρ size src=some es) (h2:es.length<=1000000) (h3:es.length≠0) (hk:k.wp Φ { ρ with v:=ρ.v++[.rsl ρ.m.length es.length size],m:=ρ.m++[.row es size T] } R):(PT.appM d src size T k).wp Φ ρ R :=
 ⟨.nilS,h0,es,h1,by simp only; rw [if_pos h2,if_neg h3]; exact hk⟩
theorem c5n {d:SV} {src:Src} {size T h len:Nat} {es rows:List (List PV)} (h0:d.pv ρ noOwn=some (.rsl h len size)) (h1:a1f ρ size src=some es) (h2:ρ.m[h]?=some (.row rows size T)) (h3:rows.length=len) (h4:len+es.length<=1000000) (h5:es.length≠0)
  (hk:k.wp Φ { ρ with v:=ρ.v++[.rsl h (len+es.length) size],m:=ρ.m.set h (.row (rows++es) size T) } R):(PT.appM d src size T k).wp Φ ρ R :=
 ⟨.rsl h len size,h0,es,h1,by simp only [h2]; rw [if_pos ⟨h3,trivial,trivial,trivial,h4⟩,if_neg h5]; exact hk⟩
theorem b7E {a:SV} {cs:List SV} {h off T:Nat} {l new:List PV} (h1:a0y ρ a=some (.obj h off)) (h2:ρ.m[h]?=some (.cells l T)) (h3:SV.pvs ρ noOwn cs=some new) (h4:off+new.length<=l.length) (hk:k.wp Φ { ρ with m:=ρ.m.set h (.cells (a3T l off new) T) } R):(PT.storeM a cs k).wp Φ ρ R:=by
 simp only [PT.wp,h1,h2]
 exact ⟨new,h3,by rw [if_pos h4]; exact hk⟩
end
def cpL (k j:Nat):PV:=if j=0 then .nilS else .rsl (k+3) j 1
theorem b6T (σ:List MO) (pre:List PV) (done:List KV) (X:List MO):(σ++cpO σ.length pre done++X)[σ.length]?=some (.cells (pre++[cpL σ.length done.length]) 68):=by
 rw [Qf,Qb (Qe _),Qm]
 cases done<;>simp [cpO,cpL]
theorem c8s (σ:List MO) (pre:List PV) (done:List KV) (x y:MO):(σ++cpO σ.length pre done++[x,y])[hnd σ.length done.length]?=some x/\(σ++cpO σ.length pre done++[x,y])[hnd σ.length done.length+1]?=some y:=by
 have h:=b6S σ.length pre done
 constructor
 ·rw [Qb (by rw [Q6]; omega),Q6,h,Qm]; rfl
 ·rw [Qb (by rw [Q6]; omega),Q6,h,Qt]; rfl
theorem c7e (σ:List MO) (pre:List PV) (done:List KV) (x y z:MO):(σ++cpO σ.length pre done++[x,y]).set (hnd σ.length done.length) z=σ++cpO σ.length pre done++[z,y]/\(σ++cpO σ.length pre done++[x,y]).set (hnd σ.length done.length+1) z=σ++cpO σ.length pre done++[x,z]:=by
 have h:=b6S σ.length pre done
 constructor
 ·rw [Q8 _ _ (by rw [Q6]; omega),Q6,h,Qm]; rfl
 ·rw [Q8 _ _ (by rw [Q6]; omega),Q6,h,Qt]; rfl
theorem b9p {σ:List MO} {h:Nat} (hl:h < σ.length) (pre:List PV) (done:List KV) (X:List MO):(σ++cpO σ.length pre done++X)[h]?=σ[h]?:=by
 rw [Qf,Qp hl]
theorem c1i (l:List KV) (kv:KV):b2x (l++[kv])=b2x l++[MO.mq kv kv.length,MO.dead]:=by simp [b2x]
theorem c4m (σ:List MO) (p b c a:PV) (kv:KV):(σ++cpO σ.length [p,b,c,a] []++[MO.mq kv kv.length,MO.dead]++[MO.row [[.mp (σ.length+1)]] 1 69]).set σ.length (.cells [p,b,c,a,.rsl (σ.length+3) 1 1] 68)=σ++cpO σ.length [p,b,c,a] [kv]:=by
 simp only [cpO,Qf,Q1,Q0]
 rw [Q8 _ _ (Qe _),Qm]
 simp [a7D,hnd,b2x]
theorem c6p (σ:List MO) (p b c a:PV) (d:KV) (ds:List KV) (kv:KV) :
  (σ++cpO σ.length [p,b,c,a] (d::ds)++[MO.mq kv kv.length,MO.dead])[σ.length+3]?=some (.row (a7D σ.length (ds.length+1)) 1 69) /\
  ((σ++cpO σ.length [p,b,c,a] (d::ds)++[MO.mq kv kv.length,MO.dead]).set (σ.length+3) (.row (a7D σ.length (ds.length+1)++[[PV.mp (hnd σ.length (ds.length+1))]]) 1 69)).set σ.length (.cells [p,b,c,a,.rsl (σ.length+3) (ds.length+1+1) 1] 68)=σ++cpO σ.length [p,b,c,a] (d::(ds++[kv])):=by
 constructor
 ·rw [Qf,Qb (by omega)]
  simp [cpO]
 ·simp only [cpO,Qf,Q1,Q0]
  rw [Q8 _ _ (by omega),Q8 _ _ (Qe _),Qm,Qt]
  simp [c1w,c1i]
theorem c6c {σ:List MO} {hb:Nat} {hs:List Nat} {p b c a L:PV} {T:Nat} (hk:BkL σ hb hs [p,b,c,a,L] L) (h0:σ[hb]?=some (.cells [p,b,c,a,L] T)) (c1:clB 5 p=true) (c2:clB 4 b=true) (c3:clB 3 c=true) (c4:clB 3 a=true) {kvs:List KV}
  (hl:kvs.length=hs.length) (hkv:∀ (i h:Nat),hs[i]?=some h->∃ kv ver,kvs[i]?=some kv/\σ[h]?=some (.mq kv ver)/\Asc kv/\kv.length<=1000) (hl2:kvs.length<=1000) :
  CtD Try.prog 15 [.ref hb 0] σ (fun r σ'=>r=.ref σ.length 0/\σ'=σ++cpO σ.length [p,b,c,a] kvs):=by
 obtain ⟨d1,o1⟩:=a3z c1
 obtain ⟨d2,o2⟩:=a3z c2
 obtain ⟨d3,o3⟩:=a3z c3
 obtain ⟨d4,o4⟩:=a3z c4
 refine a6R.dm (a0B a7i 5) (b7K 5) (2000*(kvs.length+1)) _ _ _ ?_
 have outer:∀ (d j:Nat),j+d=kvs.length->∀ fuel,2000*d+1<=fuel ->
   bidbook_Book_Copy_S.loopD (a0B a7i 5) fuel 0 { i:=[(kvs.length:Int),(j:Int)],b:=[],v:=[.ref σ.length 0,L],m:=σ++cpO σ.length [p,b,c,a] (kvs.take j),k:=σ.length } (fun r σ'=>r=.ref σ.length 0/\σ'=σ++cpO σ.length [p,b,c,a] kvs):=by
  intro d
  induction d with
  | zero =>
   intro j hj fuel hf
   obtain ⟨fuel,rfl⟩:∃ f,fuel=f+1:=⟨fuel-1,by omega⟩
   rw [Nat.add_zero] at hj; subst hj
   refine ⟨_,rfl,?_⟩
   show PT.wp _ a2L _ _
   unfold a2L
   refine a4O rfl (by simp [BE.pe,IE.pe,ltB]) ?_
   refine c0O (p:=.ref σ.length 0) rfl ⟨rfl,?_⟩
   show σ++cpO _ _ (kvs.take kvs.length)=_
   rw [List.take_length]
  | succ d ih =>
   intro j hj fuel hf
   obtain ⟨fuel,rfl⟩:∃ f,fuel=f+1:=⟨fuel-1,by omega⟩
   have hjlt:j < hs.length:=by omega
   obtain ⟨h,hh⟩:∃ h,hs[j]?=some h:=⟨_,List.getElem?_eq_getElem hjlt⟩
   obtain ⟨kv,ver,k1,k2,hasc,k3⟩:=hkv j h hh
   obtain ⟨loc,r1,r2⟩:=hk.rd j h hh
   have hhlt:=(Qj.1 k2).1
   have hn:=hasc.nd
   have htl:(kvs.take j).length=j:=by rw [List.length_take]; omega
   have htk:kvs.take (j+1)=kvs.take j++[kv]:=by rw [List.take_add_one,k1]; rfl
   have inner:∀ (n:Nat) (seen:List (List Int)) (es:KV),Went kv seen es->kv.length < seen.length+n ->
     bidbook_Book_Copy_S.loopD (a0B a7i 5) (n+(2000*d+1)) 1 { i:=[(kvs.length:Int),(j:Int)],b:=[],v:=[.ref σ.length 0,.mp (hnd σ.length j),L,.ref (hnd σ.length j+1) 0],m:=σ++cpO σ.length [p,b,c,a] (kvs.take j)++[MO.mq (b3c [] es) es.length,MO.it h ver seen],k:=σ.length } (fun r σ'=>r=.ref σ.length 0/\σ'=σ++cpO σ.length [p,b,c,a] kvs):=by
    intro n
    induction n with
    | zero=>intro seen es hw hlt; have:=hw.len hn; omega
    | succ n ih2 =>
     intro seen es hw hlt
     have q0:=fun x y=>c8s σ [p,b,c,a] (kvs.take j) x y
     have q1:=fun x y z=>c7e σ [p,b,c,a] (kvs.take j) x y z
     rw [htl] at q0 q1
     rw [show n+1+(2000*d+1)=(n+(2000*d+1))+1 by omega]
     refine ⟨_,rfl,?_⟩
     show PT.wp _ a4P _ _
     unfold a4P
     refine c0F (i:=hnd σ.length j+1) (h:=h) (kv:=kv) (ver:=ver) (seen:=seen) rfl (q0 _ _).2 ((b9p hhlt ..).trans k2) hasc.wide (fun hleft=>?_) (fun e he=>?_)
     ·have hperm:=hw.over hn hleft
      rw [(q1 _ _ _).2,c4s hasc hperm,hperm.length_eq]
      refine a8B (l:=.obj σ.length 4) (z:=[cpL σ.length j]) (r:=([],[],[cpL σ.length j])) rfl (b5V (by rw [b6T,htl]) rfl) (by unfold cpL; split<;>rfl) ?_
      simp only [PEnv.push,Q1,Q0,Q3]
      refine c5Z (es:=[[.mp (hnd σ.length j)]]) rfl (by simp) ?_
      simp only [Q1,Q0]
      have hup:(leB (-9223372036854775808) ((j:Int)+1)&&leB ((j:Int)+1) 9223372036854775807)=true:=by simp [leB]; omega
      have hih:=ih (j+1) (by omega) (n+(2000*d+1)) (by omega)
      have hj1:((j+1:Nat):Int)=(j:Int)+1:=by omega
      rw [htk,hj1] at hih
      cases hdn:kvs.take j with
      | nil =>
       have hj0:j=0:=by rw [<- htl,hdn]; rfl
       subst hj0
       rw [hdn,Q0,<- c4m σ p b c a kv] at hih
       have e1:(σ++cpO σ.length [p,b,c,a] []++[MO.mq kv kv.length,MO.dead]).length=σ.length+3:=by simp [cpO]
       have e3:(σ++cpO σ.length [p,b,c,a] []++[MO.mq kv kv.length,MO.dead]++[MO.row [[PV.mp (σ.length+1)]] 1 69])[σ.length]?=some (.cells [p,b,c,a,.nilS] 68):=by
        rw [Qf,b6T]; rfl
       refine c4z (es:=[[.mp (σ.length+1)]]) rfl rfl (by simp) (by simp) ?_
       simp only [e1,Q1,Q0]
       refine b7E (h:=σ.length) (off:=4) (new:=[.rsl (σ.length+3) 1 1]) rfl e3 rfl (by simp) ?_
       refine a1W rfl hup ?_
       exact b4a (b:=[]) (v:=[.ref σ.length 0,L]) rfl rfl hih
      | cons d0 ds =>
       have hjl:j=ds.length+1:=by rw [<- htl,hdn]; rfl
       obtain ⟨e1,e2⟩:=c6p σ p b c a d0 ds kv
       rw [hdn,Q1,<- e2,<- hjl] at hih
       rw [<- hjl] at e1
       have e0:cpL σ.length j=.rsl (σ.length+3) j 1:=by unfold cpL; rw [if_neg (by omega)]
       rw [e0]
       refine c5n (h:=σ.length+3) (len:=j) (es:=[[.mp (hnd σ.length j)]]) rfl rfl e1 (c2G _ _) (by simp; omega) (by simp) ?_
       simp only [Q1,Q0,Q9,Qd,Q7]
       have e3:((σ++cpO σ.length [p,b,c,a] (d0::ds)++[MO.mq kv kv.length,MO.dead]).set (σ.length+3) (.row (a7D σ.length j++[[PV.mp (hnd σ.length j)]]) 1 69))[σ.length]?=some (.cells [p,b,c,a,.rsl (σ.length+3) j 1] 68):=by
        rw [List.getElem?_set_ne (by omega),b6T]
        simp [cpL,hjl]
       refine b7E (h:=σ.length) (off:=4) (new:=[.rsl (σ.length+3) (j+1) 1]) rfl e3 rfl (by simp) ?_
       dsimp only
       rw [PT.wp,if_pos (by simp only [BE.safe,Bool.and_self]),if_pos (by simp only [BE.pe,IE.pe,Qh,Qq]; exact hup)]
       exact b4a (b:=[]) (v:=[.ref σ.length 0,L]) rfl rfl hih
     ·obtain ⟨p1,p2⟩:=b0j.1 he
      have hw':=hw.next he
      obtain ⟨pk,pv⟩:=e
      have hk6:pk.length=6:=hasc.six _ p1
      have hlook:=(Kv.lookQ_some hn).2 p1
      have hpw:a4E 6 (b3c [] es)=true:=(c0y es hw.2 (fun q hq=>hasc.six q (hw.sub q hq))).1.wide
      obtain ⟨b0,b1,b2,b3,b4,b5,rfl⟩:=b6V hk6
      have hn2:=ih2 (seen++[[b0,b1,b2,b3,b4,b5]]) (es++[([b0,b1,b2,b3,b4,b5],pv)]) hw' (by simp; omega)
      rw [(q1 _ _ _).2]
      refine b8L (i:=hnd σ.length j+1) (h:=h) (kv:=kv) (ver:=ver) (seen:=seen) (key:=[b0,b1,b2,b3,b4,b5]) (v:=pv) rfl (q0 _ _).2 ((b9p hhlt ..).trans k2) hlook rfl ?_
      simp only [PEnv.push,Q1,Q0,Q3]
      simp only [PT.wp,Qw,Qk,(q0 _ _).1,Q9,Qd,Q7,Nat.reduceAdd]
      rw [if_pos hpw]
      refine ⟨[],rfl,_,rfl,?_⟩
      rw [(q1 _ _ _).1]
      rw [b7N,Q6] at hn2
      exact hn2
   obtain ⟨n,rfl⟩:∃ n,fuel=n+(2000*d+1):=⟨fuel-(2000*d+1),by omega⟩
   have hin:=inner n [] [] (.nil kv) (by simp; omega)
   have hqq:=b6S σ.length [p,b,c,a] (kvs.take j)
   rw [htl] at hqq
   refine ⟨_,rfl,?_⟩
   show PT.wp _ a2L _ _
   unfold a2L
   have hlt1:ltB (j:Int) (kvs.length:Int)=true:=by rw [a0U]; omega
   have hlt2:(leB 0 (j:Int)&&ltB (j:Int) L.len)=true:=by rw [hk.len,Qr]; exact ⟨by rw [a2n]; omega,by rw [a0U]; omega⟩
   refine a4b rfl hlt1 (a1W rfl hlt2 ?_)
   refine a8B (l:=loc) (z:=[.mp h]) (r:=([],[],[.mp h])) r1 (r2 _ (fun q hq=>by show (σ++_)[q]?=_; rw [Qp hq])) rfl ?_
   simp only [PEnv.push,Q1,Q0,Q3]
   simp only [PT.wp,Q1,Q0,Qw,Qk,Q6,Q9,Qd,Q7]
   have ho:(σ++cpO σ.length [p,b,c,a] (kvs.take j)++[MO.mq [] 0])[h]?=some (.mq kv ver):=(b9p hhlt ..).trans k2
   simp only [ho]
   refine ⟨[],rfl,_,rfl,?_⟩
   rw [Qf (σ++_),hqq]
   exact hin
 have ho0:=outer kvs.length 0 (by omega) (2000*(kvs.length+1)) (by omega)
 have hlen2:L.len=(kvs.length:Int):=by rw [hk.len,hl]
 refine ⟨([],[],[.ref hb 0]),rfl,?_⟩
 show PT.wp _ a2Z _ _
 unfold a2Z
 have hbl:=(Qj.1 h0).1
 refine a1W rfl rfl (a4O rfl rfl (a1W rfl rfl ?_))
 refine a8B (l:=.obj hb 0) (z:=[p,b,c,a]) (r:=([],[],[p,b,c,a])) rfl (b5V h0 rfl) (by simp [a0w,o1,o2,o3,o4]) ?_
 simp only [PEnv.push,Q1,Q0,Q3]
 refine a8z (aa:=[.agg [p,b,c,a]]) (r:=.agg [p,b,c,a]) (σ:=σ) (z:=([],[],[p,b,c,a])) rfl (c4T 3 σ c1 c2 c3 c4) (by simp [a0p,a0x,a0w,o1,o2,o3,o4]) ?_
 simp only [PEnv.push,Q1,Q0,Q3]
 refine ⟨[p,b,c,a,.nilS],rfl,?_⟩
 simp only [Q1,Q0]
 refine a1W rfl rfl ?_
 refine a8B (l:=.obj hb 4) (z:=[L]) (r:=([],[],[L])) rfl (b5V ((Qp hbl).trans h0) rfl) (by simp [a0w,hk.one]) ?_
 simp only [PEnv.push,Q1,Q0,Q3]
 refine a1W rfl hk.kind ?_
 refine b4a (b:=[]) (v:=[.ref σ.length 0,L]) rfl rfl ?_
 rw [List.take_zero] at ho0
 simp only [Qn,Qs,IE.pe,PEnv.at,Qh,Qq,hlen2]
 exact ho0
theorem c4n:SysOk Try.prog 15 c5w where
 ct Φ hΦ n aa σ r σ' hh:=by
  change c1d aa σ=some (r,σ') at hh
  unfold c1d at hh
  split at hh
  ·simp only [Q2,Q4] at hh
   obtain ⟨rfl,rfl⟩:=hh
   refine CtD.one (a6R.dm (a0B a7i 5) (b7K 5) 1 _ _ _ ⟨([],[],[.nilP]),rfl,?_⟩)
   show PT.wp _ a2Z _ _
   unfold a2Z
   exact a1W rfl rfl (a4b rfl rfl (c0O (p:=.nilP) rfl ⟨rfl,rfl⟩))
  ·rename_i σ0 hb
   rw [Qg] at hh
   obtain ⟨hs,h0,hh⟩:=hh
   obtain ⟨l,L,hk⟩:=a9W h0
   split at hh
   case h_2=>cases hh
   rename_i p b c a L' T h1
   obtain ⟨p',b',c',a',T',e1,e2⟩:=hk.five
   rw [h1] at e2
   simp only [Q2,MO.cells.injEq,List.cons.injEq,and_true] at e2
   obtain ⟨⟨rfl,rfl,rfl,rfl,rfl⟩,rfl⟩:=e2
   subst e1
   split at hh
   case isFalse=>cases hh
   rename_i hc
   simp only [Qr] at hc
   rw [Qg] at hh
   obtain ⟨kvs,h2,hh⟩:=hh
   split at hh
   case isFalse=>cases hh
   rename_i hl2
   simp only [Q2,Q4] at hh
   obtain ⟨rfl,rfl⟩:=hh
   obtain ⟨k1,k2⟩:=b5P h2
   exact (c6c hk h1 hc.1.1.1 hc.1.1.2 hc.1.2 hc.2 k1 k2 hl2).one
  ·cases hh
end Go.Proofs.Ytflcopaopimlpaa
namespace Go.Proofs.Ytflcopaopimlpaa
open Go.Sx
def bidbook_Book_Copy_Q:Sx.Sys:=c5w
theorem b1o:SysOk Try.prog 15 bidbook_Book_Copy_Q:=c4n
def bidbook_Book_Offers_Q:Sx.Sys:=c0v
theorem a9z:SysOk Try.prog 25 bidbook_Book_Offers_Q:=c1q
def slices_Clone_api_Product_api_Product_Q:Sx.Sys:=a1X
theorem a4N:SysOk Try.prog 46 slices_Clone_api_Product_api_Product_Q:=a2I
def slices_Clone_api_Bidder_api_Bidder_Q:Sx.Sys:=a2g
theorem a5i:SysOk Try.prog 47 slices_Clone_api_Bidder_api_Bidder_Q:=a2V
def slices_Clone_api_Cap_api_Cap_Q:Sx.Sys:=a2Q
theorem a6i:SysOk Try.prog 48 slices_Clone_api_Cap_api_Cap_Q:=a3G
def slices_Clone_api_Aside_api_Aside_Q:Sx.Sys:=a2o
theorem a5D:SysOk Try.prog 49 slices_Clone_api_Aside_api_Aside_Q:=a3i
end Go.Proofs.Ytflcopaopimlpaa
