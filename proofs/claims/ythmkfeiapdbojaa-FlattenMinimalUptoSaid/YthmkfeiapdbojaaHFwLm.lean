/- FlattenMinimal: the list of an expression contains no dominated offer and is the list of its expression, where what is read is of bulk at most 1048576. -/
import Derived.Test.YthmkfeiapdbojaaHFlS
import Derived.Test.YthmkfeiapdbojaaHFw
import Derived.Test.YthmkfeiapdbojaaRows
import Derived.WalkKit
import Derived.ProofKit
import Derived.OpenShut
import Derived.JoinedCond
import Derived.ShutString
set_option linter.unusedSimpArgs false
set_option linter.unusedVariables false
set_option maxRecDepth 100000
namespace Go.Proofs.Ythmkfeiapdbojaa
open Go.ChangeShapes Go.WideShapes Go.ChangeAt Go.RowKit Go.Sx
theorem e0L (n0:Nat) (ps:List PV) (h:a1r Try.prog n0 26 ps) (hb:PV.wts ps<=1048576) (n1:Nat) (qs:List PV) (h1:a1r Try.prog n1 23 qs) (hb1:PV.wts qs<=1048576):a0e a4u 6000001 e0v [.agg ps,.agg qs] []=some (.bool true,[]):=by
 obtain ⟨e,he,hw,hs⟩:=c6B n0 ps h
 obtain ⟨b,rfl⟩:=c1G h1
 exact e1p he (by omega) b 6000000 (by omega)
mutual
theorem e0y {H:Type}:∀ d:DataW H,Rows.uptoBulk d=Go.Sx.bulk d
 | .lit l=>by cases l<;>simp [Rows.uptoBulk,Go.Sx.bulk]
 | .nil=>by simp [Rows.uptoBulk,Go.Sx.bulk]
 | .ptr d=>by simp [Rows.uptoBulk,Go.Sx.bulk,e0y d]
 | .slice e s=>by simp [Rows.uptoBulk,Go.Sx.bulk,e0x e,e0x s]
 | .agg e=>by simp [Rows.uptoBulk,Go.Sx.bulk,e0x e]
 | .iface _ d=>by simp [Rows.uptoBulk,Go.Sx.bulk,e0y d]
 | .map e=>by simp [Rows.uptoBulk,Go.Sx.bulk,e0F e]
 | .held _=>by simp [Rows.uptoBulk,Go.Sx.bulk]
theorem e0x {H:Type}:∀ d:List (DataW H),Rows.uptoBulkAll d=Go.Sx.bulks d
 | []=>by simp [Rows.uptoBulkAll,Go.Sx.bulks]
 | d::r=>by simp [Rows.uptoBulkAll,Go.Sx.bulks,e0y d,e0x r]
theorem e0F {H:Type}:∀ d:List (Lit × DataW H),Rows.uptoBulkEntries d=Go.Sx.bulkEs d
 | []=>by simp [Rows.uptoBulkEntries,Go.Sx.bulkEs]
 | d::r=>by simp [Rows.uptoBulkEntries,Go.Sx.bulkEs,e0Q d,e0F r]
theorem e0Q {H:Type}:∀ d:Lit × DataW H,Rows.uptoBulkEntry d=Go.Sx.bulkE d
 | (k,d)=>by cases k<;>simp [Rows.uptoBulkEntry,Go.Sx.bulkE,e0y d]
end
theorem e0N:ownKnob Try.prog.godebug=none:=by kernel_rfl
theorem e0D:laidOutB Try.prog=true:=by kernel_rfl
theorem e0C:Go.Sx.closed Try.prog [26,23,3,2,24]=true:=by kernel_rfl
set_option maxRecDepth 100000 in
theorem e0J (os:Os) (started:os.Started) (H:Type) (enc:TypeId × Value->H) (F:Stop.Interp) :
  ReturnsInHanded {} Try.checked os 14 .any ((Rows.OpenSpec.upto Rows.flattenMinimalSpec).pre6 enc Try.prog Try.f14 Rows.flattenMinimalUptoRow.domain false) (((Rows.OpenSpec.upto Rows.flattenMinimalSpec).at F).post enc Try.prog Try.f14 false true false false):=by
 refine returnsInHanded_of_cond (C:=Try.checked) (s:=(Rows.OpenSpec.upto Rows.flattenMinimalSpec)) (k:=Rows.uptoSmall) rfl e0N started (by kernel_rfl) Try.func14
  (OpenSpec.witness (enc:=enc) (C:=Try.checked) (s:=(Rows.OpenSpec.upto Rows.flattenMinimalSpec)) (k:=Rows.uptoSmall) rfl false ⟨#[],#[.agg #[.int .i64 0,.int .i64 0,.int .i64 0,.int .i64 0,.int .i64 0,.int .i64 0,.int .i64 0,.int .i64 0,.slice none 0 0],.agg #[.int .i64 0,.int .i64 0,.int .i64 0,.int .i64 0,.int .i64 0,.int .i64 0]],[]⟩ 8 (by kernel_rfl) (by kernel_rfl) (by kernel_rfl)
   (x:=([.agg [.lit (.int .i64 0),.agg [.lit (.int .i64 0),.lit (.int .i64 0),.lit (.int .i64 0),.lit (.int .i64 0),.lit (.int .i64 0),.lit (.int .i64 0)],.lit (.int .i64 0),.nil],.agg [.lit (.int .i64 0),.lit (.int .i64 0),.lit (.int .i64 0),.lit (.int .i64 0),.lit (.int .i64 0),.lit (.int .i64 0)]],[],[])) (by kernel_rfl) rfl (by kernel_rfl)) ?_
 intro W base args ds gs before hval0 hW _ hk _
 suffices hz:Calls Try.prog 14 args W fun e W'=>∃ v,e=.returned v/\Rows.flattenMinimalSpec.post enc Try.prog Try.f14 false true false false W args v W' from hz
 have hval:∀ (j:Nat) t v,Try.f14.params[j]?=some t->args[j]?=some v->Value.okWide Try.prog W .any base t v:=hval0
 have hW':=hW
 obtain ⟨p,q,hA0,hV,rfl,hfz,hnd⟩:=hW
 have hA:DataW.TrodAll enc Try.prog W 0 (fun _=>true) true Try.f14.params.toList args.toList ds p:=hA0
 rw [Try.params14] at hA hval
 obtain ⟨v0,vs0,d0,ds0,p0,q0,hargs,rfl,rfl,h0,r0⟩:=trodAll_cons hA
 obtain ⟨v1,vs1,d1,ds1,p1,q1,rfl,rfl,rfl,h1,r1⟩:=trodAll_cons r0
 obtain ⟨rfl,rfl,rfl⟩:=trodAll_nil r1
 obtain rfl:args=#[v0,v1]:=by cases args; simp_all
 obtain ⟨rfl,rfl⟩:=trodVars_none hV
 have hb0:=of_decide_eq_true hk
 simp only [e0x,Go.Sx.bulks,List.append_nil] at hb0
 have k0:=h0
 have lt0:∀ x∈p0,x.block < W.heap.size:=by obtain ⟨m,hm⟩:=k0; exact DataW.trod_lt m _ _ _ hm
 obtain ⟨n0,a0,e0,s0,w0⟩:=c5m e0C (t:=26) (by decide) Try.underlying26 (hval 0 26 v0 rfl rfl) h0
 have k1:=h1
 have lt1:∀ x∈p1,x.block < W.heap.size:=by obtain ⟨m,hm⟩:=k1; exact DataW.trod_lt m _ _ _ hm
 obtain ⟨n1,a1,e1,s1,w1⟩:=c5v e0C (t:=23) (by decide) Try.underlying23 (hval 1 23 v1 rfl rfl) h1
 clear hA0 hval0
 have hr:Go.Sx.Reps (Go.Sx.hpOf W) [] [.agg a0,.agg a1] [v0,v1]:=⟨v0,_,rfl,e0,⟨v1,_,rfl,e1,rfl⟩⟩
 refine (Go.Sx.lift_true (Go.Sx.evalF_good c9n 6000001 14) (e0L n0 a0 s0 (by omega) n1 a1 s1 (by omega)) hr).mono fun e W' hh=>?_
 obtain ⟨rfl,bel⟩:=hh
 exact ⟨_,rfl,_,_,_,[],_,[],hW',trodAll_mk1 (shut_bool Try.underlying4 _),(trodAll_cons_mk (Below.trod e0D (by kernel_rfl) (of_decide_eq_true (by kernel_rfl)) k0 bel lt0) (trodAll_cons_mk (Below.trod e0D (by kernel_rfl) (of_decide_eq_true (by kernel_rfl)) k1 bel lt1) trodAll_mk0)),rfl,bel.frame _,fun h=>by cases h⟩
theorem flattenMinimal_proved:Rows.FlattenMinimalUptoSaid :=
 OpenClaim.holds_of_cond 14 Try.f14 rfl rfl rfl rfl rfl rfl rfl ⟨rfl,rfl,rfl,rfl,rfl⟩ rfl rfl rfl rfl rfl (by kernel_rfl) Try.func14 (by kernel_rfl)
  (of_decide_eq_true (by kernel_rfl)) (by unfold Func.isWrapper; first | (rw [if_pos (by decide +kernel)]; kernel_rfl) | (rw [if_neg (by decide +kernel)]; exact ⟨rfl,rfl⟩))
  (fun os started H enc _ F=>e0J os started H enc F)
end Go.Proofs.Ythmkfeiapdbojaa
