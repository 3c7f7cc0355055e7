/- FlattenTables: FromTable returns the reference's result for any table and supply. -/
import Derived.Test.YthmkfeiapdbojaaHFlS
import Derived.Test.YthmkfeiapdbojaaHFl
import Derived.Test.YthmkfeiapdbojaaRows
import Derived.WalkKit
import Derived.ProofKit
import Derived.OpenShut
import Derived.JoinedCond
import Derived.ShutString
set_option linter.unusedSimpArgs false
set_option linter.unusedVariables false
set_option maxRecDepth 100000
namespace Go.Proofs.Ythmkfeiapdbojaa
open Go.ChangeShapes Go.WideShapes Go.ChangeAt Go.RowKit Go.Sx
theorem d3H {n:Nat}:∀ {rows:List (List PV)},(∀ r∈rows,a1r Try.prog n 2 r)->∃ t,rows=a0P t
 | [],_=>⟨[],rfl⟩
 | r::rows,h=>by
  obtain ⟨z,rfl,_⟩:=a3W (k:=.i64) (by kernel_rfl) (h r (by simp))
  obtain ⟨t,rfl⟩:=d3H (rows:=rows) (fun r hr=>h r (by simp [hr]))
  exact ⟨z::t,rfl⟩
theorem d7O (n0:Nat) (rows:List (List PV)) (h:∀ r∈rows,a1r Try.prog n0 2 r) (n1:Nat) (qs:List PV) (h1:a1r Try.prog n1 23 qs):a0e a4u 5000001 d7u [.sl 1 rows,.agg qs] []=some (.bool true,[]):=by
 obtain ⟨t,rfl⟩:=d3H h
 obtain ⟨b,rfl⟩:=c1G h1
 exact d8e b t 5000000 (by omega)
theorem d7S:ownKnob Try.prog.godebug=none:=by kernel_rfl
theorem d7F:laidOutB Try.prog=true:=by kernel_rfl
theorem d7C:Go.Sx.closed Try.prog [37,23,2,3]=true:=by kernel_rfl
set_option maxRecDepth 100000 in
theorem d7M (os:Os) (started:os.Started) (H:Type) (enc:TypeId × Value->H) :
  ReturnsInHanded {} Try.checked os 9 .any (Rows.flattenTablesSpec.pre6 enc Try.prog Try.f9 Rows.flattenTablesRow.domain false) (Rows.flattenTablesSpec.post enc Try.prog Try.f9 false true false false):=by
 refine returnsInHanded_of_change (C:=Try.checked) d7S started (by kernel_rfl) Try.func9
  (ChangeSpec.witness6 (enc:=enc) (C:=Try.checked) false ⟨#[],#[.slice none 0 0,.agg #[.int .i64 0,.int .i64 0,.int .i64 0,.int .i64 0,.int .i64 0,.int .i64 0]],[]⟩ 8 (by kernel_rfl) (by kernel_rfl) (by kernel_rfl) (by kernel_rfl)) ?_
 intro W base args ds gs before hval0 hW hcnd _
 have hval:∀ (j:Nat) t v,Try.f9.params[j]?=some t->args[j]?=some v->Value.okWide Try.prog W .any base t v:=hval0
 have hW':=hW
 obtain ⟨p,q,hA0,hV,rfl,hfz,hnd⟩:=hW
 have hA:DataW.TrodAll enc Try.prog W 0 (fun _=>true) true Try.f9.params.toList args.toList ds p:=hA0
 rw [Try.params9] at hA hval
 obtain ⟨v0,vs0,d0,ds0,p0,q0,hargs,rfl,rfl,h0,r0⟩:=trodAll_cons hA
 obtain ⟨v1,vs1,d1,ds1,p1,q1,rfl,rfl,rfl,h1,r1⟩:=trodAll_cons r0
 obtain ⟨rfl,rfl,rfl⟩:=trodAll_nil r1
 obtain rfl:args=#[v0,v1]:=by cases args; simp_all
 obtain ⟨rfl,rfl⟩:=trodVars_none hV
 have k0:=h0
 have lt0:∀ x∈p0,x.block < W.heap.size:=by obtain ⟨m,hm⟩:=k0; exact DataW.trod_lt m _ _ _ hm
 obtain ⟨n0,a0,e0,s0,w0⟩:=d3L d7C (t:=37) (by decide) Try.underlying37 (hval 0 37 v0 rfl rfl) h0
 have k1:=h1
 have lt1:∀ x∈p1,x.block < W.heap.size:=by obtain ⟨m,hm⟩:=k1; exact DataW.trod_lt m _ _ _ hm
 obtain ⟨n1,a1,e1,s1,w1⟩:=c5v d7C (t:=23) (by decide) Try.underlying23 (hval 1 23 v1 rfl rfl) h1
 clear hA0 hval0
 rw [show Try.prog.cellsOf 2=1 by kernel_rfl] at e0
 have hr:Go.Sx.Reps (Go.Sx.hpOf W) [] [.sl 1 a0,.agg a1] [v0,v1]:=⟨v0,_,rfl,e0,⟨v1,_,rfl,e1,rfl⟩⟩
 refine (Go.Sx.lift_true (Go.Sx.evalF_good c9n 5000001 9) (d7O n0 a0 s0 n1 a1 s1) hr).mono fun e W' hh=>?_
 obtain ⟨rfl,bel⟩:=hh
 exact ⟨_,rfl,_,_,_,[],_,[],hW',trodAll_mk1 (shut_bool Try.underlying4 _),(trodAll_cons_mk (Below.trod d7F (by kernel_rfl) (of_decide_eq_true (by kernel_rfl)) k0 bel lt0) (trodAll_cons_mk (Below.trod d7F (by kernel_rfl) (of_decide_eq_true (by kernel_rfl)) k1 bel lt1) trodAll_mk0)),rfl,bel.frame _,fun h=>by cases h⟩
theorem flattenTables_proved:Rows.FlattenTablesSaid :=
 OpenClaim.holds_of_wide 9 Try.f9 rfl rfl rfl rfl rfl rfl rfl ⟨rfl,rfl,rfl,rfl,rfl⟩ rfl rfl rfl rfl rfl (by kernel_rfl) Try.func9 (by kernel_rfl)
  (of_decide_eq_true (by kernel_rfl)) (by unfold Func.isWrapper; first | (rw [if_pos (by decide +kernel)]; kernel_rfl) | (rw [if_neg (by decide +kernel)]; exact ⟨rfl,rfl⟩))
  (fun os started H enc _=>d7M os started H enc)
end Go.Proofs.Ythmkfeiapdbojaa
