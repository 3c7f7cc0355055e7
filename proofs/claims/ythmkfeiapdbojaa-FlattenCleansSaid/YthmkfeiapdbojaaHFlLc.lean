/- FlattenCleans: Clean returns the reference's result for any offers, and keeps the value of every bundle for the offers of a bidder. -/
import Derived.Test.YthmkfeiapdbojaaHFlS
import Derived.Test.YthmkfeiapdbojaaHFl
import Derived.Test.YthmkfeiapdbojaaRows
import Derived.WalkKit
import Derived.ProofKit
import Derived.OpenShut
import Derived.JoinedCond
import Derived.ShutString
set_option linter.unusedSimpArgs false
set_option linter.unusedVariables false
set_option maxRecDepth 100000
namespace Go.Proofs.Ythmkfeiapdbojaa
open Go.ChangeShapes Go.WideShapes Go.ChangeAt Go.RowKit Go.Sx
theorem d6F (n0:Nat) (rows:List (List PV)) (h:∀ r∈rows,a1r Try.prog n0 59 r) (p:Int) (_:-9223372036854775808<=p) (_:p<=9223372036854775807) (n2:Nat) (qs:List PV) (h1:a1r Try.prog n2 23 qs):a0e a4u 3000001 d6i [.sl 8 rows,.int .i64 p,.agg qs] []=some (.bool true,[]):=by
 obtain ⟨L,rfl⟩:=d5e h
 obtain ⟨b,rfl⟩:=c1G h1
 exact d6Z (d5W L) p b 3000000 (by omega)
theorem d6J:ownKnob Try.prog.godebug=none:=by kernel_rfl
theorem d6l:laidOutB Try.prog=true:=by kernel_rfl
theorem d6p:Go.Sx.closed Try.prog [44,23,59,3,2]=true:=by kernel_rfl
set_option maxRecDepth 100000 in
theorem d6B (os:Os) (started:os.Started) (H:Type) (enc:TypeId × Value->H) :
  ReturnsInHanded {} Try.checked os 13 .any (Rows.flattenCleansSpec.pre6 enc Try.prog Try.f13 Rows.flattenCleansRow.domain false) (Rows.flattenCleansSpec.post enc Try.prog Try.f13 false true false false):=by
 refine returnsInHanded_of_change (C:=Try.checked) d6J started (by kernel_rfl) Try.func13
  (ChangeSpec.witness6 (enc:=enc) (C:=Try.checked) false ⟨#[],#[.slice none 0 0,.int .i64 0,.agg #[.int .i64 0,.int .i64 0,.int .i64 0,.int .i64 0,.int .i64 0,.int .i64 0]],[]⟩ 8 (by kernel_rfl) (by kernel_rfl) (by kernel_rfl) (by kernel_rfl)) ?_
 intro W base args ds gs before hval0 hW hcnd _
 have hval:∀ (j:Nat) t v,Try.f13.params[j]?=some t->args[j]?=some v->Value.okWide Try.prog W .any base t v:=hval0
 have hW':=hW
 obtain ⟨p,q,hA0,hV,rfl,hfz,hnd⟩:=hW
 have hA:DataW.TrodAll enc Try.prog W 0 (fun _=>true) true Try.f13.params.toList args.toList ds p:=hA0
 rw [Try.params13] at hA hval
 obtain ⟨v0,vs0,d0,ds0,p0,q0,hargs,rfl,rfl,h0,r0⟩:=trodAll_cons hA
 obtain ⟨v1,vs1,d1,ds1,p1,q1,rfl,rfl,rfl,h1,r1⟩:=trodAll_cons r0
 obtain ⟨v2,vs2,d2,ds2,p2,q2,rfl,rfl,rfl,h2,r2⟩:=trodAll_cons r1
 obtain ⟨rfl,rfl,rfl⟩:=trodAll_nil r2
 obtain rfl:args=#[v0,v1,v2]:=by cases args; simp_all
 obtain ⟨rfl,rfl⟩:=trodVars_none hV
 have k0:=h0
 have lt0:∀ x∈p0,x.block < W.heap.size:=by obtain ⟨m,hm⟩:=k0; exact DataW.trod_lt m _ _ _ hm
 obtain ⟨n0,a0,e0,s0,w0⟩:=d3L d6p (t:=44) (by decide) Try.underlying44 (hval 0 44 v0 rfl rfl) h0
 have k1:=h1
 have lt1:∀ x∈p1,x.block < W.heap.size:=by obtain ⟨m,hm⟩:=k1; exact DataW.trod_lt m _ _ _ hm
 obtain ⟨a1,e1,l1,u1⟩:=d7m Try.underlying3 (hval 1 3 v1 rfl rfl) h1
 have k2:=h2
 have lt2:∀ x∈p2,x.block < W.heap.size:=by obtain ⟨m,hm⟩:=k2; exact DataW.trod_lt m _ _ _ hm
 obtain ⟨n2,a2,e2,s2,w2⟩:=c5v d6p (t:=23) (by decide) Try.underlying23 (hval 2 23 v2 rfl rfl) h2
 clear hA0 hval0
 rw [show Try.prog.cellsOf 59=8 by kernel_rfl] at e0
 have hr:Go.Sx.Reps (Go.Sx.hpOf W) [] [.sl 8 a0,.int .i64 a1,.agg a2] [v0,v1,v2]:=⟨v0,_,rfl,e0,⟨v1,_,rfl,e1,⟨v2,_,rfl,e2,rfl⟩⟩⟩
 refine (Go.Sx.lift_true (Go.Sx.evalF_good c9n 3000001 13) (d6F n0 a0 s0 a1 l1 u1 n2 a2 s2) hr).mono fun e W' hh=>?_
 obtain ⟨rfl,bel⟩:=hh
 exact ⟨_,rfl,_,_,_,[],_,[],hW',trodAll_mk1 (shut_bool Try.underlying4 _),(trodAll_cons_mk (Below.trod d6l (by kernel_rfl) (of_decide_eq_true (by kernel_rfl)) k0 bel lt0) (trodAll_cons_mk (Below.trod d6l (by kernel_rfl) (of_decide_eq_true (by kernel_rfl)) k1 bel lt1) (trodAll_cons_mk (Below.trod d6l (by kernel_rfl) (of_decide_eq_true (by kernel_rfl)) k2 bel lt2) trodAll_mk0))),rfl,bel.frame _,fun h=>by cases h⟩
theorem flattenCleans_proved:Rows.FlattenCleansSaid :=
 OpenClaim.holds_of_wide 13 Try.f13 rfl rfl rfl rfl rfl rfl rfl ⟨rfl,rfl,rfl,rfl,rfl⟩ rfl rfl rfl rfl rfl (by kernel_rfl) Try.func13 (by kernel_rfl)
  (of_decide_eq_true (by kernel_rfl)) (by unfold Func.isWrapper; first | (rw [if_pos (by decide +kernel)]; kernel_rfl) | (rw [if_neg (by decide +kernel)]; exact ⟨rfl,rfl⟩))
  (fun os started H enc _=>d6B os started H enc)
end Go.Proofs.Ythmkfeiapdbojaa
