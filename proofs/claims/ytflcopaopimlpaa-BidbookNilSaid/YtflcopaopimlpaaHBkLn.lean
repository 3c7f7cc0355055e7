/- BidbookNil: a nil book returns errors and zero values. -/
import Derived.Test.YtflcopaopimlpaaHBk
import Derived.Test.YtflcopaopimlpaaHTxe
import Derived.Test.YtflcopaopimlpaaRows
import Derived.WalkKit
import Derived.ProofKit
import Derived.OpenShut
import Derived.JoinedCond
import Derived.ShutString
set_option linter.unusedSimpArgs false
set_option linter.unusedVariables false
set_option maxRecDepth 100000
namespace Go.Proofs.Ytflcopaopimlpaa
open Go.ChangeShapes Go.WideShapes Go.ChangeAt Go.RowKit Go.Sx
theorem b6S (i a b c d e f v:Int):a0U Tab 40001 a2f [.int .i64 i,.agg [.int .i64 a,.int .i64 b,.int .i64 c,.int .i64 d,.int .i64 e,.int .i64 f],.int .i64 v] []=some (.bool true,[]):=by kernel_rfl
theorem a9D (z0:Int) (_:loI .i64<=z0) (_:z0<=hiI .i64) (n1:Nat) (ps:List PV) (hs1:a0Y Try.prog n1 40 ps) (z2:Int) (_:loI .i64<=z2) (_:z2<=hiI .i64) :
  a0U Tab 40001 a2f [.int .i64 z0,.agg ps,.int .i64 z2] []=some (.bool true,[]):=by
 obtain ⟨m,_,h⟩:=b2g Try.underlying40 hs1
 simp only [List.replicate,a3x] at h
 obtain ⟨_,_,rfl,h1,_,_,rfl,h2,_,_,rfl,h3,_,_,rfl,h4,_,_,rfl,h5,_,_,rfl,h6,rfl⟩:=h
 obtain ⟨a,rfl,_⟩:=a2M (k:=.i64) (by kernel_rfl) h1
 obtain ⟨b,rfl,_⟩:=a2M (k:=.i64) (by kernel_rfl) h2
 obtain ⟨c,rfl,_⟩:=a2M (k:=.i64) (by kernel_rfl) h3
 obtain ⟨d,rfl,_⟩:=a2M (k:=.i64) (by kernel_rfl) h4
 obtain ⟨e,rfl,_⟩:=a2M (k:=.i64) (by kernel_rfl) h5
 obtain ⟨f,rfl,_⟩:=a2M (k:=.i64) (by kernel_rfl) h6
 exact b6S z0 a b c d e f z2
theorem b0C:ownKnob Try.prog.godebug=none:=by kernel_rfl
theorem a3j:laidOutB Try.prog=true:=by kernel_rfl
theorem a8B:Go.Sx.closed Try.prog [40,3]=true:=by kernel_rfl
set_option maxRecDepth 100000 in
theorem a8d (os:Os) (started:os.Started) (H:Type) (enc:TypeId × Value->H) :
  ReturnsInHanded {} Try.checked os 6 .any (Rows.bidbookNilSpec.pre6 enc Try.prog Try.f6 Rows.bidbookNilRow.domain false) (Rows.bidbookNilSpec.post enc Try.prog Try.f6 false true false false):=by
 refine returnsInHanded_of_change (C:=Try.checked) b0C started (by kernel_rfl) Try.func6
  (ChangeSpec.witness6 (enc:=enc) (C:=Try.checked) false ⟨#[],#[.int .i64 0,.agg #[.int .i64 0,.int .i64 0,.int .i64 0,.int .i64 0,.int .i64 0,.int .i64 0],.int .i64 0],[]⟩ 8 (by kernel_rfl) (by kernel_rfl) (by kernel_rfl) (by kernel_rfl)) ?_
 intro W base args ds gs before hval0 hW hcnd _
 have hval:∀ (j:Nat) t v,Try.f6.params[j]?=some t->args[j]?=some v->Value.okWide Try.prog W .any base t v:=hval0
 have hW':=hW
 obtain ⟨p,q,hA0,hV,rfl,hfz,hnd⟩:=hW
 have hA:DataW.TrodAll enc Try.prog W 0 (fun _=>true) true Try.f6.params.toList args.toList ds p:=hA0
 rw [Try.params6] at hA hval
 obtain ⟨v0,vs0,d0,ds0,p0,q0,hargs,rfl,rfl,h0,r0⟩:=trodAll_cons hA
 obtain ⟨v1,vs1,d1,ds1,p1,q1,rfl,rfl,rfl,h1,r1⟩:=trodAll_cons r0
 obtain ⟨v2,vs2,d2,ds2,p2,q2,rfl,rfl,rfl,h2,r2⟩:=trodAll_cons r1
 obtain ⟨rfl,rfl,rfl⟩:=trodAll_nil r2
 obtain rfl:args=#[v0,v1,v2]:=by cases args; simp_all
 obtain ⟨rfl,rfl⟩:=trodVars_none hV
 have k0:=h0
 have lt0:∀ x∈p0,x.block < W.heap.size:=by obtain ⟨m,hm⟩:=k0; exact DataW.trod_lt m _ _ _ hm
 obtain ⟨a0,e0,l0,u0⟩:=b3G Try.underlying3 (hval 0 3 v0 rfl rfl) h0
 have k1:=h1
 have lt1:∀ x∈p1,x.block < W.heap.size:=by obtain ⟨m,hm⟩:=k1; exact DataW.trod_lt m _ _ _ hm
 obtain ⟨n1,a1,e1,s1,w1⟩:=b5g a8B (t:=40) (by decide) Try.underlying40 (hval 1 40 v1 rfl rfl) h1
 have k2:=h2
 have lt2:∀ x∈p2,x.block < W.heap.size:=by obtain ⟨m,hm⟩:=k2; exact DataW.trod_lt m _ _ _ hm
 obtain ⟨a2,e2,l2,u2⟩:=b3G Try.underlying2 (hval 2 2 v2 rfl rfl) h2
 clear hA0 hval0
 have hr:Go.Sx.Reps (Go.Sx.hpOf W) [] [.int .i64 a0,.agg a1,.int .i64 a2] [v0,v1,v2]:=⟨v0,_,rfl,e0,⟨v1,_,rfl,e1,⟨v2,_,rfl,e2,rfl⟩⟩⟩
 refine (Go.Sx.lift_true (Go.Sx.evalF_good b7z 40001 6) (a9D a0 l0 u0 n1 a1 s1 a2 l2 u2) hr).mono fun e W' hh=>?_
 obtain ⟨rfl,bel⟩:=hh
 exact ⟨_,rfl,_,_,_,[],_,[],hW',trodAll_mk1 (shut_bool Try.underlying4 _),(trodAll_cons_mk (Below.trod a3j (by kernel_rfl) (of_decide_eq_true (by kernel_rfl)) k0 bel lt0) (trodAll_cons_mk (Below.trod a3j (by kernel_rfl) (of_decide_eq_true (by kernel_rfl)) k1 bel lt1) (trodAll_cons_mk (Below.trod a3j (by kernel_rfl) (of_decide_eq_true (by kernel_rfl)) k2 bel lt2) trodAll_mk0))),rfl,bel.frame _,fun h=>by cases h⟩
theorem bidbookNil_proved:Rows.BidbookNilSaid :=
 OpenClaim.holds_of_wide 6 Try.f6 rfl rfl rfl rfl rfl rfl rfl ⟨rfl,rfl,rfl,rfl,rfl⟩ rfl rfl rfl rfl rfl (by kernel_rfl) Try.func6 (by kernel_rfl)
  (of_decide_eq_true (by kernel_rfl)) (by unfold Func.isWrapper; first | (rw [if_pos (by decide +kernel)]; kernel_rfl) | (rw [if_neg (by decide +kernel)]; exact ⟨rfl,rfl⟩))
  (fun os started H enc _=>a8d os started H enc)
end Go.Proofs.Ytflcopaopimlpaa
