/- FlattenExprs: ToExpr returns the reference's result for any offers, with the value of the offers. -/
import Derived.Test.YthmkfeiapdbojaaHFlS
import Derived.Test.YthmkfeiapdbojaaHFw
import Derived.Test.YthmkfeiapdbojaaRows
import Derived.WalkKit
import Derived.ProofKit
import Derived.OpenShut
import Derived.JoinedCond
import Derived.ShutString
set_option linter.unusedSimpArgs false
set_option linter.unusedVariables false
set_option maxRecDepth 100000
namespace Go.Proofs.Ythmkfeiapdbojaa
open Go.ChangeShapes Go.WideShapes Go.ChangeAt Go.RowKit Go.Sx
theorem e2J (n0:Nat) (rows:List (List PV)) (h:∀ r∈rows,a1r Try.prog n0 59 r) (n1:Nat) (qs:List PV) (h1:a1r Try.prog n1 23 qs):a0e a4u 6000001 e2l [.sl 8 rows,.agg qs] []=some (.bool true,[]):=by
 obtain ⟨L,rfl⟩:=d5e h
 obtain ⟨b,rfl⟩:=c1G h1
 exact e2V (d5W L) b 6000000 (by omega)
theorem e2K:ownKnob Try.prog.godebug=none:=by kernel_rfl
theorem e2w:laidOutB Try.prog=true:=by kernel_rfl
theorem e2v:Go.Sx.closed Try.prog [44,23,59,3,2]=true:=by kernel_rfl
set_option maxRecDepth 100000 in
theorem e2I (os:Os) (started:os.Started) (H:Type) (enc:TypeId × Value->H) :
  ReturnsInHanded {} Try.checked os 12 .any (Rows.flattenExprsSpec.pre6 enc Try.prog Try.f12 Rows.flattenExprsRow.domain false) (Rows.flattenExprsSpec.post enc Try.prog Try.f12 false true false false):=by
 refine returnsInHanded_of_change (C:=Try.checked) e2K started (by kernel_rfl) Try.func12
  (ChangeSpec.witness6 (enc:=enc) (C:=Try.checked) false ⟨#[],#[.slice none 0 0,.agg #[.int .i64 0,.int .i64 0,.int .i64 0,.int .i64 0,.int .i64 0,.int .i64 0]],[]⟩ 8 (by kernel_rfl) (by kernel_rfl) (by kernel_rfl) (by kernel_rfl)) ?_
 intro W base args ds gs before hval0 hW hcnd _
 have hval:∀ (j:Nat) t v,Try.f12.params[j]?=some t->args[j]?=some v->Value.okWide Try.prog W .any base t v:=hval0
 have hW':=hW
 obtain ⟨p,q,hA0,hV,rfl,hfz,hnd⟩:=hW
 have hA:DataW.TrodAll enc Try.prog W 0 (fun _=>true) true Try.f12.params.toList args.toList ds p:=hA0
 rw [Try.params12] at hA hval
 obtain ⟨v0,vs0,d0,ds0,p0,q0,hargs,rfl,rfl,h0,r0⟩:=trodAll_cons hA
 obtain ⟨v1,vs1,d1,ds1,p1,q1,rfl,rfl,rfl,h1,r1⟩:=trodAll_cons r0
 obtain ⟨rfl,rfl,rfl⟩:=trodAll_nil r1
 obtain rfl:args=#[v0,v1]:=by cases args; simp_all
 obtain ⟨rfl,rfl⟩:=trodVars_none hV
 have k0:=h0
 have lt0:∀ x∈p0,x.block < W.heap.size:=by obtain ⟨m,hm⟩:=k0; exact DataW.trod_lt m _ _ _ hm
 obtain ⟨n0,a0,e0,s0,w0⟩:=d3L e2v (t:=44) (by decide) Try.underlying44 (hval 0 44 v0 rfl rfl) h0
 have k1:=h1
 have lt1:∀ x∈p1,x.block < W.heap.size:=by obtain ⟨m,hm⟩:=k1; exact DataW.trod_lt m _ _ _ hm
 obtain ⟨n1,a1,e1,s1,w1⟩:=c5v e2v (t:=23) (by decide) Try.underlying23 (hval 1 23 v1 rfl rfl) h1
 clear hA0 hval0
 rw [show Try.prog.cellsOf 59=8 by kernel_rfl] at e0
 have hr:Go.Sx.Reps (Go.Sx.hpOf W) [] [.sl 8 a0,.agg a1] [v0,v1]:=⟨v0,_,rfl,e0,⟨v1,_,rfl,e1,rfl⟩⟩
 refine (Go.Sx.lift_true (Go.Sx.evalF_good c9n 6000001 12) (e2J n0 a0 s0 n1 a1 s1) hr).mono fun e W' hh=>?_
 obtain ⟨rfl,bel⟩:=hh
 exact ⟨_,rfl,_,_,_,[],_,[],hW',trodAll_mk1 (shut_bool Try.underlying4 _),(trodAll_cons_mk (Below.trod e2w (by kernel_rfl) (of_decide_eq_true (by kernel_rfl)) k0 bel lt0) (trodAll_cons_mk (Below.trod e2w (by kernel_rfl) (of_decide_eq_true (by kernel_rfl)) k1 bel lt1) trodAll_mk0)),rfl,bel.frame _,fun h=>by cases h⟩
theorem flattenExprs_proved:Rows.FlattenExprsSaid :=
 OpenClaim.holds_of_wide 12 Try.f12 rfl rfl rfl rfl rfl rfl rfl ⟨rfl,rfl,rfl,rfl,rfl⟩ rfl rfl rfl rfl rfl (by kernel_rfl) Try.func12 (by kernel_rfl)
  (of_decide_eq_true (by kernel_rfl)) (by unfold Func.isWrapper; first | (rw [if_pos (by decide +kernel)]; kernel_rfl) | (rw [if_neg (by decide +kernel)]; exact ⟨rfl,rfl⟩))
  (fun os started H enc _=>e2I os started H enc)
end Go.Proofs.Ythmkfeiapdbojaa
