/- BidbookBatches: PutAll has the effect of putting all offers one after another if none of them is refused, and otherwise returns the first error and changes nothing. -/
import Derived.Test.YtflcopaopimlpaaHBu
import Derived.Test.YtflcopaopimlpaaHBk
import Derived.Test.YtflcopaopimlpaaRows
import Derived.WalkKit
import Derived.ProofKit
import Derived.OpenShut
import Derived.JoinedCond
import Derived.ShutString
set_option linter.unusedSimpArgs false
set_option linter.unusedVariables false
set_option maxRecDepth 100000
namespace Go.Proofs.Ytflcopaopimlpaa
open Go.ChangeShapes Go.WideShapes Go.ChangeAt Go.RowKit Go.Sx
theorem d1u (n0:Nat) (ps:List PV) (hs:a1m Try.prog n0 27 ps) (n1:Nat) (rows:List (List PV)) (h1:∀ r∈rows,a1m Try.prog n1 43 r) (bi:Int) (_:loI .i64<=bi) (_:bi<=hiI .i64) (n2:Nat) (rows2:List (List PV)) (h2:∀ r∈rows2,a1m Try.prog n2 52 r) :
  a0B b1U 40001 c9Z [.agg ps,.sl 10 rows,.int .i64 bi,.sl 8 rows2] []=some (.bool true,[]):=by
 obtain ⟨l1,l2,l3,l4,rfl⟩:=c3f hs
 obtain ⟨l,rfl⟩:=a5c (row:=Sp.row) (fun ps h=>d1M h) rows h1
 obtain ⟨m,rfl⟩:=a5c (row:=O8.row) (fun ps h=>c3z h) rows2 h2
 exact d1y b1U 40000 evW (awW 39999) (c0U _ _ (by kernel_rfl)) (by omega) l1 l2 l3 l4 l bi m
theorem d1k:ownKnob Try.prog.godebug=none:=by kernel_rfl
theorem d0E:laidOutB Try.prog=true:=by kernel_rfl
theorem d0J:Go.Sx.closed Try.prog [27,28,41,22,23,24,25,43,52,80,83,76,78,3,40,2,9]=true:=by kernel_rfl
set_option maxRecDepth 100000 in
theorem d1e (os:Os) (started:os.Started) (H:Type) (enc:TypeId × Value->H) :
  ReturnsInHanded {} Try.checked os 7 .any (Rows.bidbookBatchesSpec.pre6 enc Try.prog Try.f7 Rows.bidbookBatchesRow.domain false) (Rows.bidbookBatchesSpec.post enc Try.prog Try.f7 false true false false):=by
 refine returnsInHanded_of_change (C:=Try.checked) d1k started (by kernel_rfl) Try.func7
  (ChangeSpec.witness6 (enc:=enc) (C:=Try.checked) false ⟨#[],#[.agg #[.slice none 0 0,.slice none 0 0,.slice none 0 0,.slice none 0 0],.slice none 0 0,.int .i64 0,.slice none 0 0],[]⟩ 8 (by kernel_rfl) (by kernel_rfl) (by kernel_rfl) (by kernel_rfl)) ?_
 intro W base args ds gs before hval0 hW hcnd _
 have hval:∀ (j:Nat) t v,Try.f7.params[j]?=some t->args[j]?=some v->Value.okWide Try.prog W .any base t v:=hval0
 have hW':=hW
 obtain ⟨p,q,hA0,hV,rfl,hfz,hnd⟩:=hW
 have hA:DataW.TrodAll enc Try.prog W 0 (fun _=>true) true Try.f7.params.toList args.toList ds p:=hA0
 rw [Try.params7] at hA hval
 obtain ⟨v0,vs0,d0,ds0,p0,q0,hargs,rfl,rfl,h0,r0⟩:=trodAll_cons hA
 obtain ⟨v1,vs1,d1,ds1,p1,q1,rfl,rfl,rfl,h1,r1⟩:=trodAll_cons r0
 obtain ⟨v2,vs2,d2,ds2,p2,q2,rfl,rfl,rfl,h2,r2⟩:=trodAll_cons r1
 obtain ⟨v3,vs3,d3,ds3,p3,q3,rfl,rfl,rfl,h3,r3⟩:=trodAll_cons r2
 obtain ⟨rfl,rfl,rfl⟩:=trodAll_nil r3
 obtain rfl:args=#[v0,v1,v2,v3]:=by cases args; simp_all
 obtain ⟨rfl,rfl⟩:=trodVars_none hV
 have k0:=h0
 have lt0:∀ x∈p0,x.block < W.heap.size:=by obtain ⟨m,hm⟩:=k0; exact DataW.trod_lt m _ _ _ hm
 obtain ⟨n0,a0,e0,s0,w0⟩:=c1r d0J (t:=27) (by decide) Try.underlying27 (hval 0 27 v0 rfl rfl) h0
 have k1:=h1
 have lt1:∀ x∈p1,x.block < W.heap.size:=by obtain ⟨m,hm⟩:=k1; exact DataW.trod_lt m _ _ _ hm
 obtain ⟨n1,a1,e1,s1,w1⟩:=c3E d0J (t:=28) (by decide) Try.underlying28 (hval 1 28 v1 rfl rfl) h1
 have k2:=h2
 have lt2:∀ x∈p2,x.block < W.heap.size:=by obtain ⟨m,hm⟩:=k2; exact DataW.trod_lt m _ _ _ hm
 obtain ⟨a2,e2,l2,u2⟩:=d2h Try.underlying3 (hval 2 3 v2 rfl rfl) h2
 have k3:=h3
 have lt3:∀ x∈p3,x.block < W.heap.size:=by obtain ⟨m,hm⟩:=k3; exact DataW.trod_lt m _ _ _ hm
 obtain ⟨n3,a3,e3,s3,w3⟩:=c3E d0J (t:=41) (by decide) Try.underlying41 (hval 3 41 v3 rfl rfl) h3
 clear hA0 hval0
 rw [show Try.prog.cellsOf 43=10 by kernel_rfl] at e1
 rw [show Try.prog.cellsOf 52=8 by kernel_rfl] at e3
 have hr:Go.Sx.Reps (Go.Sx.hpOf W) [] [.agg a0,.sl 10 a1,.int .i64 a2,.sl 8 a3] [v0,v1,v2,v3]:=⟨v0,_,rfl,e0,⟨v1,_,rfl,e1,⟨v2,_,rfl,e2,⟨v3,_,rfl,e3,rfl⟩⟩⟩⟩
 refine (Go.Sx.lift_true (Go.Sx.evalF_good c5Q 40001 7) (d1u n0 a0 s0 n1 a1 s1 a2 l2 u2 n3 a3 s3) hr).mono fun e W' hh=>?_
 obtain ⟨rfl,bel⟩:=hh
 exact ⟨_,rfl,_,_,_,[],_,[],hW',trodAll_mk1 (shut_bool Try.underlying4 _),(trodAll_cons_mk (Below.trod d0E (by kernel_rfl) (of_decide_eq_true (by kernel_rfl)) k0 bel lt0) (trodAll_cons_mk (Below.trod d0E (by kernel_rfl) (of_decide_eq_true (by kernel_rfl)) k1 bel lt1) (trodAll_cons_mk (Below.trod d0E (by kernel_rfl) (of_decide_eq_true (by kernel_rfl)) k2 bel lt2) (trodAll_cons_mk (Below.trod d0E (by kernel_rfl) (of_decide_eq_true (by kernel_rfl)) k3 bel lt3) trodAll_mk0)))),rfl,bel.frame _,fun h=>by cases h⟩
theorem bidbookBatches_proved:Rows.BidbookBatchesSaid :=
 OpenClaim.holds_of_wide 7 Try.f7 rfl rfl rfl rfl rfl rfl rfl ⟨rfl,rfl,rfl,rfl,rfl⟩ rfl rfl rfl rfl rfl (by kernel_rfl) Try.func7 (by kernel_rfl)
  (of_decide_eq_true (by kernel_rfl)) (by unfold Func.isWrapper; first | (rw [if_pos (by decide +kernel)]; kernel_rfl) | (rw [if_neg (by decide +kernel)]; exact ⟨rfl,rfl⟩))
  (fun os started H enc _=>d1e os started H enc)
end Go.Proofs.Ytflcopaopimlpaa
