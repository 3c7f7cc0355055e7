/- BidbookOrder: offers that are all accepted lead to the same book in the opposite order. -/
import Derived.Test.YtflcopaopimlpaaHBq
import Derived.Test.YtflcopaopimlpaaHBk
import Derived.Test.YtflcopaopimlpaaRows
import Derived.WalkKit
import Derived.ProofKit
import Derived.OpenShut
import Derived.JoinedCond
import Derived.ShutString
set_option linter.unusedSimpArgs false
set_option linter.unusedVariables false
set_option maxRecDepth 100000
namespace Go.Proofs.Ytflcopaopimlpaa
open Go.ChangeShapes Go.WideShapes Go.ChangeAt Go.RowKit Go.Sx
theorem c3z {n:Nat} {r:List PV} (h:a1m Try.prog n 52 r):∃ x:O8,r=x.row:=by
 obtain ⟨m,hm,hr⟩:=a3V Try.underlying52 h
 simp only [List.map_cons,List.map_nil,a3x] at hr
 obtain ⟨_,_,rfl,h1,_,_,rfl,h2,_,_,rfl,h3,rfl⟩:=hr
 obtain ⟨p,rfl,_⟩:=a1u (k:=.i64) (by kernel_rfl) h1
 obtain ⟨m',_,h⟩:=b9H Try.underlying40 h2
 simp only [List.replicate,a3x] at h
 obtain ⟨_,_,rfl,w1,_,_,rfl,w2,_,_,rfl,w3,_,_,rfl,w4,_,_,rfl,w5,_,_,rfl,w6,rfl⟩:=h
 obtain ⟨a,rfl,_⟩:=a1u (k:=.i64) (by kernel_rfl) w1
 obtain ⟨b,rfl,_⟩:=a1u (k:=.i64) (by kernel_rfl) w2
 obtain ⟨c,rfl,_⟩:=a1u (k:=.i64) (by kernel_rfl) w3
 obtain ⟨d,rfl,_⟩:=a1u (k:=.i64) (by kernel_rfl) w4
 obtain ⟨e,rfl,_⟩:=a1u (k:=.i64) (by kernel_rfl) w5
 obtain ⟨f,rfl,_⟩:=a1u (k:=.i64) (by kernel_rfl) w6
 obtain ⟨v,rfl,_⟩:=a1u (k:=.i64) (by kernel_rfl) h3
 exact ⟨⟨p,a,b,c,d,e,f,v⟩,rfl⟩
theorem c1U (n0:Nat) (ps:List PV) (hs:a1m Try.prog n0 27 ps) (n1:Nat) (rows:List (List PV)) (h1:∀ r∈rows,a1m Try.prog n1 52 r) :
  a0B b1U 40001 a3h [.agg ps,.sl 8 rows] []=some (.bool true,[]):=by
 obtain ⟨l1,l2,l3,l4,rfl⟩:=c3f hs
 obtain ⟨l,rfl⟩:=a5c (row:=O8.row) (fun ps h=>c3z h) rows h1
 exact c2v b1U 40000 evW (awW 39999) (c0U _ _ (by kernel_rfl)) (by omega) l1 l2 l3 l4 l
theorem b5l:ownKnob Try.prog.godebug=none:=by kernel_rfl
theorem a8e:laidOutB Try.prog=true:=by kernel_rfl
theorem a7L:Go.Sx.closed Try.prog [27,41,22,23,24,25,52,80,83,76,78,3,40,2,9]=true:=by kernel_rfl
set_option maxRecDepth 100000 in
theorem b2O (os:Os) (started:os.Started) (H:Type) (enc:TypeId × Value->H) :
  ReturnsInHanded {} Try.checked os 5 .any (Rows.bidbookOrderSpec.pre6 enc Try.prog Try.f5 Rows.bidbookOrderRow.domain false) (Rows.bidbookOrderSpec.post enc Try.prog Try.f5 false true false false):=by
 refine returnsInHanded_of_change (C:=Try.checked) b5l started (by kernel_rfl) Try.func5
  (ChangeSpec.witness6 (enc:=enc) (C:=Try.checked) false ⟨#[],#[.agg #[.slice none 0 0,.slice none 0 0,.slice none 0 0,.slice none 0 0],.slice none 0 0],[]⟩ 8 (by kernel_rfl) (by kernel_rfl) (by kernel_rfl) (by kernel_rfl)) ?_
 intro W base args ds gs before hval0 hW hcnd _
 have hval:∀ (j:Nat) t v,Try.f5.params[j]?=some t->args[j]?=some v->Value.okWide Try.prog W .any base t v:=hval0
 have hW':=hW
 obtain ⟨p,q,hA0,hV,rfl,hfz,hnd⟩:=hW
 have hA:DataW.TrodAll enc Try.prog W 0 (fun _=>true) true Try.f5.params.toList args.toList ds p:=hA0
 rw [Try.params5] at hA hval
 obtain ⟨v0,vs0,d0,ds0,p0,q0,hargs,rfl,rfl,h0,r0⟩:=trodAll_cons hA
 obtain ⟨v1,vs1,d1,ds1,p1,q1,rfl,rfl,rfl,h1,r1⟩:=trodAll_cons r0
 obtain ⟨rfl,rfl,rfl⟩:=trodAll_nil r1
 obtain rfl:args=#[v0,v1]:=by cases args; simp_all
 obtain ⟨rfl,rfl⟩:=trodVars_none hV
 have k0:=h0
 have lt0:∀ x∈p0,x.block < W.heap.size:=by obtain ⟨m,hm⟩:=k0; exact DataW.trod_lt m _ _ _ hm
 obtain ⟨n0,a0,e0,s0,w0⟩:=c1r a7L (t:=27) (by decide) Try.underlying27 (hval 0 27 v0 rfl rfl) h0
 have k1:=h1
 have lt1:∀ x∈p1,x.block < W.heap.size:=by obtain ⟨m,hm⟩:=k1; exact DataW.trod_lt m _ _ _ hm
 obtain ⟨n1,a1,e1,s1,w1⟩:=c3E a7L (t:=41) (by decide) Try.underlying41 (hval 1 41 v1 rfl rfl) h1
 clear hA0 hval0
 rw [show Try.prog.cellsOf 52=8 by kernel_rfl] at e1
 have hr:Go.Sx.Reps (Go.Sx.hpOf W) [] [.agg a0,.sl 8 a1] [v0,v1]:=⟨v0,_,rfl,e0,⟨v1,_,rfl,e1,rfl⟩⟩
 refine (Go.Sx.lift_true (Go.Sx.evalF_good c5Q 40001 5) (c1U n0 a0 s0 n1 a1 s1) hr).mono fun e W' hh=>?_
 obtain ⟨rfl,bel⟩:=hh
 exact ⟨_,rfl,_,_,_,[],_,[],hW',trodAll_mk1 (shut_bool Try.underlying4 _),(trodAll_cons_mk (Below.trod a8e (by kernel_rfl) (of_decide_eq_true (by kernel_rfl)) k0 bel lt0) (trodAll_cons_mk (Below.trod a8e (by kernel_rfl) (of_decide_eq_true (by kernel_rfl)) k1 bel lt1) trodAll_mk0)),rfl,bel.frame _,fun h=>by cases h⟩
theorem bidbookOrder_proved:Rows.BidbookOrderSaid :=
 OpenClaim.holds_of_wide 5 Try.f5 rfl rfl rfl rfl rfl rfl rfl ⟨rfl,rfl,rfl,rfl,rfl⟩ rfl rfl rfl rfl rfl (by kernel_rfl) Try.func5 (by kernel_rfl)
  (of_decide_eq_true (by kernel_rfl)) (by unfold Func.isWrapper; first | (rw [if_pos (by decide +kernel)]; kernel_rfl) | (rw [if_neg (by decide +kernel)]; exact ⟨rfl,rfl⟩))
  (fun os started H enc _=>b2O os started H enc)
end Go.Proofs.Ytflcopaopimlpaa
