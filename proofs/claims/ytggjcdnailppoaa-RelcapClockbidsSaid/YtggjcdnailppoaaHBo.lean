/- The order of bundles, walked: what bundle.Compare answers; the world grows, no more. -/
import Derived.Test.YtggjcdnailppoaaHTy
import Derived.Test.YtggjcdnailppoaaChecked
import Derived.Shelf.SlSortCmp.QuietGrown
import Derived.Test.YtggjcdnailppoaaHTab
import Derived.Shelf.SlSortCmp.WholeK
set_option linter.unusedSimpArgs false
set_option linter.unusedVariables false
namespace Go.Proofs.Ytggjcdnailppoaa
open Go.Shelf Go.RowKit Go.Lib Go.Sort Go.Sx Go.Proofs
def c2p (W w:World):Prop:=∃ q os',w=grow (W.drewN q) os'
theorem c2p.refl (W:World):c2p W W:=⟨0,#[],by rw [grow_empty]; rfl⟩
theorem c2p.drewN {W w:World} (h:c2p W w) (n:Nat):c2p W (w.drewN n):=by
 obtain ⟨q,os,rfl⟩:=h
 exact ⟨q+n,os,by rw [<- World.drewN_drewN]; rfl⟩
theorem c2p.alloc {W w:World} (h:c2p W w) (o:Obj):c2p W (w.alloc o):=by
 obtain ⟨q,os,rfl⟩:=h
 exact ⟨q,os++#[o],by rw [alloc_eq_grow,grow_grow]⟩
set_option maxHeartbeats 4000000 in
theorem c4y (a0 a1 a2 a3 a4 a5 b0 b1 b2 b3 b4 b5:Int) (W:World):Calls Try.prog 32 #[.agg #[.int .i64 a0,.int .i64 a1,.int .i64 a2,.int .i64 a3,.int .i64 a4,.int .i64 a5],.agg #[.int .i64 b0,.int .i64 b1,.int .i64 b2,.int .i64 b3,.int .i64 b4,.int .i64 b5]] W fun e w' =>
  e=.returned (.int .i64 (c2q [a0,a1,a2,a3,a4,a5] [b0,b1,b2,b3,b4,b5]))/\c2p W w':=by
 obtain ⟨r,hr⟩:∃ r,Hid (r=c2q [a0,a1,a2,a3,a4,a5] [b0,b1,b2,b3,b4,b5]):=⟨_,rfl⟩
 rw [<- hr.out]
 go_enter Try.func32,Try.ntmps32
 go_wp2
 refine wp_loop_rounds 7 ?_
 rw [rounds_succ]
 go_wp2
 by_cases h0:a0 < b0
 ·have hr1:Hid (r=-1):=by have hr:=hr.out; rw [hr]; show c2q _ _=_; simp [c2q,ltK,h0]; try omega
  clear hr
  go_quiet (fail)
  go_wp2
  go_ret
  refine ⟨?_,?_⟩
  ·have:=hr1.out; subst this; rfl
  ·repeat' first | exact c2p.refl _ | apply c2p.drewN | apply c2p.alloc
 go_quiet (fail)
 go_wp2
 by_cases g0:b0 < a0
 ·have hr1:Hid (r=1):=by have hr:=hr.out; rw [hr]; show c2q _ _=_; simp [c2q,ltK,h0,g0]; try omega
  clear hr
  go_quiet (fail)
  go_wp2
  go_ret
  refine ⟨?_,?_⟩
  ·have:=hr1.out; subst this; rfl
  ·repeat' first | exact c2p.refl _ | apply c2p.drewN | apply c2p.alloc
 go_quiet (fail)
 go_wp2
 obtain rfl:a0=b0:=by omega
 rw [rounds_succ]
 go_wp2
 by_cases h1:a1 < b1
 ·have hr1:Hid (r=-1):=by have hr:=hr.out; rw [hr]; show c2q _ _=_; simp [c2q,ltK,h1]; try omega
  clear hr
  go_quiet (fail)
  go_wp2
  go_ret
  refine ⟨?_,?_⟩
  ·have:=hr1.out; subst this; rfl
  ·repeat' first | exact c2p.refl _ | apply c2p.drewN | apply c2p.alloc
 go_quiet (fail)
 go_wp2
 by_cases g1:b1 < a1
 ·have hr1:Hid (r=1):=by have hr:=hr.out; rw [hr]; show c2q _ _=_; simp [c2q,ltK,h1,g1]; try omega
  clear hr
  go_quiet (fail)
  go_wp2
  go_ret
  refine ⟨?_,?_⟩
  ·have:=hr1.out; subst this; rfl
  ·repeat' first | exact c2p.refl _ | apply c2p.drewN | apply c2p.alloc
 go_quiet (fail)
 go_wp2
 obtain rfl:a1=b1:=by omega
 rw [rounds_succ]
 go_wp2
 by_cases h2:a2 < b2
 ·have hr1:Hid (r=-1):=by have hr:=hr.out; rw [hr]; show c2q _ _=_; simp [c2q,ltK,h2]; try omega
  clear hr
  go_quiet (fail)
  go_wp2
  go_ret
  refine ⟨?_,?_⟩
  ·have:=hr1.out; subst this; rfl
  ·repeat' first | exact c2p.refl _ | apply c2p.drewN | apply c2p.alloc
 go_quiet (fail)
 go_wp2
 by_cases g2:b2 < a2
 ·have hr1:Hid (r=1):=by have hr:=hr.out; rw [hr]; show c2q _ _=_; simp [c2q,ltK,h2,g2]; try omega
  clear hr
  go_quiet (fail)
  go_wp2
  go_ret
  refine ⟨?_,?_⟩
  ·have:=hr1.out; subst this; rfl
  ·repeat' first | exact c2p.refl _ | apply c2p.drewN | apply c2p.alloc
 go_quiet (fail)
 go_wp2
 obtain rfl:a2=b2:=by omega
 rw [rounds_succ]
 go_wp2
 by_cases h3:a3 < b3
 ·have hr1:Hid (r=-1):=by have hr:=hr.out; rw [hr]; show c2q _ _=_; simp [c2q,ltK,h3]; try omega
  clear hr
  go_quiet (fail)
  go_wp2
  go_ret
  refine ⟨?_,?_⟩
  ·have:=hr1.out; subst this; rfl
  ·repeat' first | exact c2p.refl _ | apply c2p.drewN | apply c2p.alloc
 go_quiet (fail)
 go_wp2
 by_cases g3:b3 < a3
 ·have hr1:Hid (r=1):=by have hr:=hr.out; rw [hr]; show c2q _ _=_; simp [c2q,ltK,h3,g3]; try omega
  clear hr
  go_quiet (fail)
  go_wp2
  go_ret
  refine ⟨?_,?_⟩
  ·have:=hr1.out; subst this; rfl
  ·repeat' first | exact c2p.refl _ | apply c2p.drewN | apply c2p.alloc
 go_quiet (fail)
 go_wp2
 obtain rfl:a3=b3:=by omega
 rw [rounds_succ]
 go_wp2
 by_cases h4:a4 < b4
 ·have hr1:Hid (r=-1):=by have hr:=hr.out; rw [hr]; show c2q _ _=_; simp [c2q,ltK,h4]; try omega
  clear hr
  go_quiet (fail)
  go_wp2
  go_ret
  refine ⟨?_,?_⟩
  ·have:=hr1.out; subst this; rfl
  ·repeat' first | exact c2p.refl _ | apply c2p.drewN | apply c2p.alloc
 go_quiet (fail)
 go_wp2
 by_cases g4:b4 < a4
 ·have hr1:Hid (r=1):=by have hr:=hr.out; rw [hr]; show c2q _ _=_; simp [c2q,ltK,h4,g4]; try omega
  clear hr
  go_quiet (fail)
  go_wp2
  go_ret
  refine ⟨?_,?_⟩
  ·have:=hr1.out; subst this; rfl
  ·repeat' first | exact c2p.refl _ | apply c2p.drewN | apply c2p.alloc
 go_quiet (fail)
 go_wp2
 obtain rfl:a4=b4:=by omega
 rw [rounds_succ]
 go_wp2
 by_cases h5:a5 < b5
 ·have hr1:Hid (r=-1):=by have hr:=hr.out; rw [hr]; show c2q _ _=_; simp [c2q,ltK,h5]; try omega
  clear hr
  go_quiet (fail)
  go_wp2
  go_ret
  refine ⟨?_,?_⟩
  ·have:=hr1.out; subst this; rfl
  ·repeat' first | exact c2p.refl _ | apply c2p.drewN | apply c2p.alloc
 go_quiet (fail)
 go_wp2
 by_cases g5:b5 < a5
 ·have hr1:Hid (r=1):=by have hr:=hr.out; rw [hr]; show c2q _ _=_; simp [c2q,ltK,h5,g5]; try omega
  clear hr
  go_quiet (fail)
  go_wp2
  go_ret
  refine ⟨?_,?_⟩
  ·have:=hr1.out; subst this; rfl
  ·repeat' first | exact c2p.refl _ | apply c2p.drewN | apply c2p.alloc
 go_quiet (fail)
 go_wp2
 obtain rfl:a5=b5:=by omega
 have hr1:Hid (r=0):=by have hr:=hr.out; rw [hr]; show c2q _ _=_; simp [c2q,ltK]
 clear hr
 rw [rounds_succ]
 go_wp2
 go_ret
 refine ⟨?_,?_⟩
 ·have:=hr1.out; subst this; rfl
 ·repeat' first | exact c2p.refl _ | apply c2p.drewN | apply c2p.alloc
theorem c4v (x y:O8) (W:World):Calls Try.prog 32 #[.agg #[.int .i64 x.w0,.int .i64 x.w1,.int .i64 x.w2,.int .i64 x.w3,.int .i64 x.w4,.int .i64 x.w5],.agg #[.int .i64 y.w0,.int .i64 y.w1,.int .i64 y.w2,.int .i64 y.w3,.int .i64 y.w4,.int .i64 y.w5]] W fun e w' =>
  e=.returned (.int .i64 (c2q x.w y.w))/\c2p W w':=c4y _ _ _ _ _ _ _ _ _ _ _ _ W
end Go.Proofs.Ytggjcdnailppoaa
namespace Go.Proofs
open Go.Shelf
def Try.sortOffers_ren:Go.Shelf.Ren:=⟨fun | 6=>30 | 15=>49 | 14=>48 | 28=>62 | 29=>63 | 20=>54 | 21=>55 | 22=>56 | 23=>57 | 24=>58 | 25=>59 | 26=>60 | 27=>61 | 46=>64 | 47=>65 | 48=>66 | 49=>67 | 50=>68 | 57=>69 | n=>n,fun | 22=>25 | 24=>33 | 25=>58 | 3=>3 | 39=>73 | 0=>0 | 53=>85 | 55=>87 | 4=>4 | 46=>78 | 45=>77 | 50=>82 | 5=>5 | 9=>9 | 66=>89 | 70=>93 | 76=>95 | 77=>96 | n=>n,fun | n=>n⟩
theorem Try.sortOffers:Go.Proofs.SlLaysF0.n6 Try.prog Try.sortOffers_ren where
 mixed:=by kernel_rfl
 f6 := ⟨Try.f30.name, by decide +kernel, Try.func30.trans (congrArg some (by kernel_rfl))⟩
 f14 := ⟨Try.f48.name, by decide +kernel, Try.func48.trans (congrArg some (by kernel_rfl))⟩
 f15:=Try.func49.trans (congrArg some (by kernel_rfl))
 f20 := ⟨Try.f54.name, by decide +kernel, Try.func54.trans (congrArg some (by kernel_rfl))⟩
 f21 := ⟨Try.f55.name, by decide +kernel, Try.func55.trans (congrArg some (by kernel_rfl))⟩
 f22 := ⟨Try.f56.name, by decide +kernel, Try.func56.trans (congrArg some (by kernel_rfl))⟩
 f23 := ⟨Try.f57.name, by decide +kernel, Try.func57.trans (congrArg some (by kernel_rfl))⟩
 f24 := ⟨Try.f58.name, by decide +kernel, Try.func58.trans (congrArg some (by kernel_rfl))⟩
 f25 := ⟨Try.f59.name, by decide +kernel, Try.func59.trans (congrArg some (by kernel_rfl))⟩
 f26 := ⟨Try.f60.name, by decide +kernel, Try.func60.trans (congrArg some (by kernel_rfl))⟩
 f27 := ⟨Try.f61.name, by decide +kernel, Try.func61.trans (congrArg some (by kernel_rfl))⟩
 f28:=Try.func62.trans (congrArg some (by kernel_rfl))
 f29:=Try.func63.trans (congrArg some (by kernel_rfl))
 f46 := ⟨Try.f64.name, by decide +kernel, Try.func64.trans (congrArg some (by kernel_rfl))⟩
 f47:=Try.func65.trans (congrArg some (by kernel_rfl))
 f48:=Try.func66.trans (congrArg some (by kernel_rfl))
 f49 := ⟨Try.f67.name, by decide +kernel, Try.func67.trans (congrArg some (by kernel_rfl))⟩
 f50 := ⟨Try.f68.name, by decide +kernel, Try.func68.trans (congrArg some (by kernel_rfl))⟩
 f57 := ⟨Try.f69.name, by decide +kernel, Try.func69.trans (congrArg some (by kernel_rfl))⟩
 t0:=Try.underlying0
 a0:=Try.isAgg0
 z0:=Try.sizeOf0
 v0:=Try.zeroValue0
 t3:=Try.underlying3
 a3:=Try.isAgg3
 z3:=Try.sizeOf3
 v3:=Try.zeroValue3
 t4:=Try.underlying4
 a4:=Try.isAgg4
 z4:=Try.sizeOf4
 v4:=Try.zeroValue4
 t5:=Try.underlying5
 a5:=Try.isAgg5
 z5:=Try.sizeOf5
 v5:=Try.zeroValue5
 t9:=Try.underlying9
 a9:=Try.isAgg9
 z9:=Try.sizeOf9
 v9:=Try.zeroValue9
 t22:=Try.underlying25
 a22:=Try.isAgg25
 z22:=Try.sizeOf25
 v22:=Try.zeroValue25
 t25:=Try.underlying58
 a25:=Try.isAgg58
 z25:=Try.sizeOf58
 v25:=Try.zeroValue58
 t39:=Try.underlying73
 a39:=Try.isAgg73
 z39:=Try.sizeOf73
 v39:=Try.zeroValue73
 t45:=Try.underlying77
 a45:=Try.isAgg77
 z45:=Try.sizeOf77
 v45:=Try.zeroValue77
 t46:=Try.underlying78
 a46:=Try.isAgg78
 z46:=Try.sizeOf78
 v46:=Try.zeroValue78
 t50:=Try.underlying82
 a50:=Try.isAgg82
 z50:=Try.sizeOf82
 v50:=Try.zeroValue82
 t53:=Try.underlying85
 a53:=Try.isAgg85
 z53:=Try.sizeOf85
 v53:=Try.zeroValue85
 t55:=Try.underlying87
 a55:=Try.isAgg87
 z55:=Try.sizeOf87
 v55:=Try.zeroValue87
 t66:=Try.underlying89
 a66:=Try.isAgg89
 z66:=Try.sizeOf89
 v66:=Try.zeroValue89
 t70:=Try.underlying93
 a70:=Try.isAgg93
 z70:=Try.sizeOf93
 v70:=Try.zeroValue93
 t76:=Try.underlying95
 a76:=Try.isAgg95
 z76:=Try.sizeOf95
 v76:=Try.zeroValue95
 t77:=Try.underlying96
 a77:=Try.isAgg96
 z77:=Try.sizeOf96
 v77:=Try.zeroValue96
end Go.Proofs
namespace Go.Proofs.Ytggjcdnailppoaa
open Go.Shelf Go.RowKit Go.Lib Go.Sort Go.Sx Go.Proofs
set_option maxHeartbeats 4000000 in
theorem c4S (x y:O8) (W:World):Calls Try.prog 31 #[.agg (O8.enc x).toArray,.agg (O8.enc y).toArray] W fun e w' =>
  e=.returned (.int .i64 (c2q x.w y.w))/\∃ q os',w'=grow (W.drewN q) os':=by
 have hcon:=fun W'=>c4v x y W'
 obtain ⟨b,w0,w1,w2,w3,w4,w5,v⟩:=x
 obtain ⟨b',u0,u1,u2,u3,u4,u5,v'⟩:=y
 simp only at hcon
 generalize c2q _ _=r at hcon ⊢
 simp only [O8.enc]
 go_enter Try.func31,Try.ntmps31
 go_wp2_with (go_at_call 32; refine (hcon _).mono ?_; rintro e w' ⟨rfl,hg⟩)
 go_ret
 refine ⟨rfl,?_⟩
 obtain ⟨q,os,rfl⟩:=hg
 exact ⟨q,_,by rw [alloc_eq_grow,alloc_eq_grow,grow_grow]; show grow (grow (W.drewN q) _) os=_; rw [grow_grow]⟩
def c2u:Sx.Sys:=⟨[],.stuck,[],some (c3q 31),none⟩
theorem a3O:SysOk Try.prog 30 c2u where
 ct Φ _ n:=c4G Try.sortOffers Try.isAgg33 Try.sizeOf33 (enters_of Try.func31 (by kernel_rfl) rfl) (enters_of Try.func30 (by kernel_rfl) rfl) c4S
end Go.Proofs.Ytggjcdnailppoaa
