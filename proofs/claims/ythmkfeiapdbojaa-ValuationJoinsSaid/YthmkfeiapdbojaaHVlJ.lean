/- ValuationJoins: an exclusive-or is worth the maximum of its arguments, and an or at least that and at most their sum, for any expressions and any bundle. -/
import Derived.Test.YthmkfeiapdbojaaHVr
import Derived.Test.YthmkfeiapdbojaaRows
import Derived.WalkKit
import Derived.ProofKit
import Derived.OpenShut
import Derived.JoinedCond
import Derived.ShutString
set_option linter.unusedSimpArgs false
set_option linter.unusedVariables false
set_option maxRecDepth 100000
namespace Go.Proofs.Ythmkfeiapdbojaa
open Go.ChangeShapes Go.WideShapes Go.ChangeAt Go.RowKit Go.Sx
theorem d2Y (n0:Nat) (ps:List PV) (h:a1r Try.prog n0 26 ps) (n1:Nat) (qs:List PV) (h1:a1r Try.prog n1 26 qs) (n2:Nat) (rs:List PV) (h2:a1r Try.prog n2 23 rs):a0e a4u (PV.wts ps+PV.wts qs+5000001) d2N [.agg ps,.agg qs,.agg rs] []=some (.bool true,[]):=by
 obtain ⟨e,he,hw,hs⟩:=c6B n0 ps h
 obtain ⟨e',he',hw',hs'⟩:=c6B n1 qs h1
 obtain ⟨b,rfl⟩:=c1G h2
 exact d3d hw hw' he he' b (PV.wts ps+PV.wts qs+5000000) (by omega)
theorem d2Z:ownKnob Try.prog.godebug=none:=by kernel_rfl
theorem d2P:laidOutB Try.prog=true:=by kernel_rfl
theorem d2O:Go.Sx.closed Try.prog [26,23,3,2,24]=true:=by kernel_rfl
set_option maxRecDepth 100000 in
theorem d2X (os:Os) (started:os.Started) (H:Type) (enc:TypeId × Value->H) :
  ReturnsInHanded {} Try.checked os 7 .any (Rows.valuationJoinsSpec.pre6 enc Try.prog Try.f7 Rows.valuationJoinsRow.domain false) (Rows.valuationJoinsSpec.post enc Try.prog Try.f7 false true false false):=by
 refine returnsInHanded_of_change (C:=Try.checked) d2Z started (by kernel_rfl) Try.func7
  (ChangeSpec.witness6 (enc:=enc) (C:=Try.checked) false ⟨#[],#[.agg #[.int .i64 0,.int .i64 0,.int .i64 0,.int .i64 0,.int .i64 0,.int .i64 0,.int .i64 0,.int .i64 0,.slice none 0 0],.agg #[.int .i64 0,.int .i64 0,.int .i64 0,.int .i64 0,.int .i64 0,.int .i64 0,.int .i64 0,.int .i64 0,.slice none 0 0],.agg #[.int .i64 0,.int .i64 0,.int .i64 0,.int .i64 0,.int .i64 0,.int .i64 0]],[]⟩ 8 (by kernel_rfl) (by kernel_rfl) (by kernel_rfl) (by kernel_rfl)) ?_
 intro W base args ds gs before hval0 hW hcnd _
 have hval:∀ (j:Nat) t v,Try.f7.params[j]?=some t->args[j]?=some v->Value.okWide Try.prog W .any base t v:=hval0
 have hW':=hW
 obtain ⟨p,q,hA0,hV,rfl,hfz,hnd⟩:=hW
 have hA:DataW.TrodAll enc Try.prog W 0 (fun _=>true) true Try.f7.params.toList args.toList ds p:=hA0
 rw [Try.params7] at hA hval
 obtain ⟨v0,vs0,d0,ds0,p0,q0,hargs,rfl,rfl,h0,r0⟩:=trodAll_cons hA
 obtain ⟨v1,vs1,d1,ds1,p1,q1,rfl,rfl,rfl,h1,r1⟩:=trodAll_cons r0
 obtain ⟨v2,vs2,d2,ds2,p2,q2,rfl,rfl,rfl,h2,r2⟩:=trodAll_cons r1
 obtain ⟨rfl,rfl,rfl⟩:=trodAll_nil r2
 obtain rfl:args=#[v0,v1,v2]:=by cases args; simp_all
 obtain ⟨rfl,rfl⟩:=trodVars_none hV
 have k0:=h0
 have lt0:∀ x∈p0,x.block < W.heap.size:=by obtain ⟨m,hm⟩:=k0; exact DataW.trod_lt m _ _ _ hm
 obtain ⟨n0,a0,e0,s0,w0⟩:=c5m d2O (t:=26) (by decide) Try.underlying26 (hval 0 26 v0 rfl rfl) h0
 have k1:=h1
 have lt1:∀ x∈p1,x.block < W.heap.size:=by obtain ⟨m,hm⟩:=k1; exact DataW.trod_lt m _ _ _ hm
 obtain ⟨n1,a1,e1,s1,w1⟩:=c5m d2O (t:=26) (by decide) Try.underlying26 (hval 1 26 v1 rfl rfl) h1
 have k2:=h2
 have lt2:∀ x∈p2,x.block < W.heap.size:=by obtain ⟨m,hm⟩:=k2; exact DataW.trod_lt m _ _ _ hm
 obtain ⟨n2,a2,e2,s2,w2⟩:=c5v d2O (t:=23) (by decide) Try.underlying23 (hval 2 23 v2 rfl rfl) h2
 clear hA0 hval0
 have hr:Go.Sx.Reps (Go.Sx.hpOf W) [] [.agg a0,.agg a1,.agg a2] [v0,v1,v2]:=⟨v0,_,rfl,e0,⟨v1,_,rfl,e1,⟨v2,_,rfl,e2,rfl⟩⟩⟩
 refine (Go.Sx.lift_true (Go.Sx.evalF_good c9n (PV.wts a0+PV.wts a1+5000001) 7) (d2Y n0 a0 s0 n1 a1 s1 n2 a2 s2) hr).mono fun e W' hh=>?_
 obtain ⟨rfl,bel⟩:=hh
 exact ⟨_,rfl,_,_,_,[],_,[],hW',trodAll_mk1 (shut_bool Try.underlying4 _),(trodAll_cons_mk (Below.trod d2P (by kernel_rfl) (of_decide_eq_true (by kernel_rfl)) k0 bel lt0) (trodAll_cons_mk (Below.trod d2P (by kernel_rfl) (of_decide_eq_true (by kernel_rfl)) k1 bel lt1) (trodAll_cons_mk (Below.trod d2P (by kernel_rfl) (of_decide_eq_true (by kernel_rfl)) k2 bel lt2) trodAll_mk0))),rfl,bel.frame _,fun h=>by cases h⟩
theorem valuationJoins_proved:Rows.ValuationJoinsSaid :=
 OpenClaim.holds_of_wide 7 Try.f7 rfl rfl rfl rfl rfl rfl rfl ⟨rfl,rfl,rfl,rfl,rfl⟩ rfl rfl rfl rfl rfl (by kernel_rfl) Try.func7 (by kernel_rfl)
  (of_decide_eq_true (by kernel_rfl)) (by unfold Func.isWrapper; first | (rw [if_pos (by decide +kernel)]; kernel_rfl) | (rw [if_neg (by decide +kernel)]; exact ⟨rfl,rfl⟩))
  (fun os started H enc _=>d2X os started H enc)
end Go.Proofs.Ythmkfeiapdbojaa
