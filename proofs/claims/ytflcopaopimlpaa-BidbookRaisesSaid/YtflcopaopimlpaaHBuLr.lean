/- BidbookRaises: after any sequence of calls the offers and the errors of the book are the specified ones. -/
import Derived.Test.YtflcopaopimlpaaHBu
import Derived.Test.YtflcopaopimlpaaHBk
import Derived.Test.YtflcopaopimlpaaRows
import Derived.WalkKit
import Derived.ProofKit
import Derived.OpenShut
import Derived.JoinedCond
import Derived.ShutString
set_option linter.unusedSimpArgs false
set_option linter.unusedVariables false
set_option maxRecDepth 100000
namespace Go.Proofs.Ytflcopaopimlpaa
open Go.ChangeShapes Go.WideShapes Go.ChangeAt Go.RowKit Go.Sx
theorem d2S (n0:Nat) (ps:List PV) (hs:a1m Try.prog n0 27 ps) (n1:Nat) (rows:List (List PV)) (h1:∀ r∈rows,a1m Try.prog n1 43 r) :
  a0B b1U 40001 d2C [.agg ps,.sl 10 rows] []=some (.bool true,[]):=by
 obtain ⟨l1,l2,l3,l4,rfl⟩:=c3f hs
 obtain ⟨l,rfl⟩:=a5c (row:=Sp.row) (fun ps h=>d1M h) rows h1
 exact d2V b1U 40000 evW (awW 39999) (c0U _ _ (by kernel_rfl)) (by omega) l1 l2 l3 l4 l
theorem d2R:ownKnob Try.prog.godebug=none:=by kernel_rfl
theorem d2L:laidOutB Try.prog=true:=by kernel_rfl
theorem d2J:Go.Sx.closed Try.prog [27,28,22,23,24,25,43,80,83,76,78,3,40,2,41,9,52]=true:=by kernel_rfl
set_option maxRecDepth 100000 in
theorem d2Q (os:Os) (started:os.Started) (H:Type) (enc:TypeId × Value->H) :
  ReturnsInHanded {} Try.checked os 3 .any (Rows.bidbookRaisesSpec.pre6 enc Try.prog Try.f3 Rows.bidbookRaisesRow.domain false) (Rows.bidbookRaisesSpec.post enc Try.prog Try.f3 false true false false):=by
 refine returnsInHanded_of_change (C:=Try.checked) d2R started (by kernel_rfl) Try.func3
  (ChangeSpec.witness6 (enc:=enc) (C:=Try.checked) false ⟨#[],#[.agg #[.slice none 0 0,.slice none 0 0,.slice none 0 0,.slice none 0 0],.slice none 0 0],[]⟩ 8 (by kernel_rfl) (by kernel_rfl) (by kernel_rfl) (by kernel_rfl)) ?_
 intro W base args ds gs before hval0 hW hcnd _
 have hval:∀ (j:Nat) t v,Try.f3.params[j]?=some t->args[j]?=some v->Value.okWide Try.prog W .any base t v:=hval0
 have hW':=hW
 obtain ⟨p,q,hA0,hV,rfl,hfz,hnd⟩:=hW
 have hA:DataW.TrodAll enc Try.prog W 0 (fun _=>true) true Try.f3.params.toList args.toList ds p:=hA0
 rw [Try.params3] at hA hval
 obtain ⟨v0,vs0,d0,ds0,p0,q0,hargs,rfl,rfl,h0,r0⟩:=trodAll_cons hA
 obtain ⟨v1,vs1,d1,ds1,p1,q1,rfl,rfl,rfl,h1,r1⟩:=trodAll_cons r0
 obtain ⟨rfl,rfl,rfl⟩:=trodAll_nil r1
 obtain rfl:args=#[v0,v1]:=by cases args; simp_all
 obtain ⟨rfl,rfl⟩:=trodVars_none hV
 have k0:=h0
 have lt0:∀ x∈p0,x.block < W.heap.size:=by obtain ⟨m,hm⟩:=k0; exact DataW.trod_lt m _ _ _ hm
 obtain ⟨n0,a0,e0,s0,w0⟩:=c1r d2J (t:=27) (by decide) Try.underlying27 (hval 0 27 v0 rfl rfl) h0
 have k1:=h1
 have lt1:∀ x∈p1,x.block < W.heap.size:=by obtain ⟨m,hm⟩:=k1; exact DataW.trod_lt m _ _ _ hm
 obtain ⟨n1,a1,e1,s1,w1⟩:=c3E d2J (t:=28) (by decide) Try.underlying28 (hval 1 28 v1 rfl rfl) h1
 clear hA0 hval0
 rw [show Try.prog.cellsOf 43=10 by kernel_rfl] at e1
 have hr:Go.Sx.Reps (Go.Sx.hpOf W) [] [.agg a0,.sl 10 a1] [v0,v1]:=⟨v0,_,rfl,e0,⟨v1,_,rfl,e1,rfl⟩⟩
 refine (Go.Sx.lift_true (Go.Sx.evalF_good c5Q 40001 3) (d2S n0 a0 s0 n1 a1 s1) hr).mono fun e W' hh=>?_
 obtain ⟨rfl,bel⟩:=hh
 exact ⟨_,rfl,_,_,_,[],_,[],hW',trodAll_mk1 (shut_bool Try.underlying4 _),(trodAll_cons_mk (Below.trod d2L (by kernel_rfl) (of_decide_eq_true (by kernel_rfl)) k0 bel lt0) (trodAll_cons_mk (Below.trod d2L (by kernel_rfl) (of_decide_eq_true (by kernel_rfl)) k1 bel lt1) trodAll_mk0)),rfl,bel.frame _,fun h=>by cases h⟩
theorem bidbookRaises_proved:Rows.BidbookRaisesSaid :=
 OpenClaim.holds_of_wide 3 Try.f3 rfl rfl rfl rfl rfl rfl rfl ⟨rfl,rfl,rfl,rfl,rfl⟩ rfl rfl rfl rfl rfl (by kernel_rfl) Try.func3 (by kernel_rfl)
  (of_decide_eq_true (by kernel_rfl)) (by unfold Func.isWrapper; first | (rw [if_pos (by decide +kernel)]; kernel_rfl) | (rw [if_neg (by decide +kernel)]; exact ⟨rfl,rfl⟩))
  (fun os started H enc _=>d2Q os started H enc)
end Go.Proofs.Ytflcopaopimlpaa
