/- ValuationMonotone: the value of a bundle never exceeds that of a bundle that contains it, the empty bundle is worth 0, and no bundle is worth more than Most, for any expression and any bundles. -/
import Derived.Test.YthmkfeiapdbojaaHVr
import Derived.Test.YthmkfeiapdbojaaRows
import Derived.WalkKit
import Derived.ProofKit
import Derived.OpenShut
import Derived.JoinedCond
import Derived.ShutString
set_option linter.unusedSimpArgs false
set_option linter.unusedVariables false
set_option maxRecDepth 100000
namespace Go.Proofs.Ythmkfeiapdbojaa
open Go.ChangeShapes Go.WideShapes Go.ChangeAt Go.RowKit Go.Sx
theorem a8u (n0 : Nat) (ps : List PV) (h : a0J Try.prog n0 26 ps) (n1 : Nat) (qs : List PV) (h1 : a0J Try.prog n1 23 qs) (n2 : Nat) (rs : List PV) (h2 : a0J Try.prog n2 23 rs) :
  a0e a3M (PV.wts ps + 5000001) a1D [.agg ps, .agg qs, .agg rs] [] = some (.bool true, []) := by
 obtain ⟨e, he, hw, hs⟩ := c1U n0 ps h
 obtain ⟨b, rfl⟩ := b3o h1
 obtain ⟨c, rfl⟩ := b3o h2
 exact c1u hw he b c (PV.wts ps + 5000000) (by omega)
theorem a8K : ownKnob Try.prog.godebug = none := by kernel_rfl
theorem a2W : laidOutB Try.prog = true := by kernel_rfl
theorem a2I : Go.Sx.closed Try.prog [26, 23, 3, 2, 24] = true := by kernel_rfl
set_option maxRecDepth 100000 in
theorem a7w (os : Os) (started : os.Started) (H : Type) (enc : TypeId × Value -> H) :
  ReturnsInHanded {} Try.checked os 3 .any (Rows.valuationMonotoneSpec.pre6 enc Try.prog Try.f3 Rows.valuationMonotoneRow.domain false) (Rows.valuationMonotoneSpec.post enc Try.prog Try.f3 false true false false) := by
 refine returnsInHanded_of_change (C := Try.checked) a8K started (by kernel_rfl) Try.func3
  (ChangeSpec.witness6 (enc := enc) (C := Try.checked) false ⟨#[], #[.agg #[.int .i64 0, .int .i64 0, .int .i64 0, .int .i64 0, .int .i64 0, .int .i64 0, .int .i64 0, .int .i64 0, .slice none 0 0], .agg #[.int .i64 0, .int .i64 0, .int .i64 0, .int .i64 0, .int .i64 0, .int .i64 0], .agg #[.int .i64 0, .int .i64 0, .int .i64 0, .int .i64 0, .int .i64 0, .int .i64 0]], []⟩ 8 (by kernel_rfl) (by kernel_rfl) (by kernel_rfl) (by kernel_rfl)) ?_
 intro W base args ds gs before hval0 hW hcnd _
 have hval : ∀ (j : Nat) t v, Try.f3.params[j]? = some t -> args[j]? = some v -> Value.okWide Try.prog W .any base t v := hval0
 have hW' := hW
 obtain ⟨p, q, hA0, hV, rfl, hfz, hnd⟩ := hW
 have hA : DataW.TrodAll enc Try.prog W 0 (fun _ => true) true Try.f3.params.toList args.toList ds p := hA0
 rw [Try.params3] at hA hval
 obtain ⟨v0, vs0, d0, ds0, p0, q0, hargs, rfl, rfl, h0, r0⟩ := trodAll_cons hA
 obtain ⟨v1, vs1, d1, ds1, p1, q1, rfl, rfl, rfl, h1, r1⟩ := trodAll_cons r0
 obtain ⟨v2, vs2, d2, ds2, p2, q2, rfl, rfl, rfl, h2, r2⟩ := trodAll_cons r1
 obtain ⟨rfl, rfl, rfl⟩ := trodAll_nil r2
 obtain rfl : args = #[v0, v1, v2] := by cases args; simp_all
 obtain ⟨rfl, rfl⟩ := trodVars_none hV
 have k0 := h0
 have lt0 : ∀ x ∈ p0, x.block < W.heap.size := by obtain ⟨m, hm⟩ := k0; exact DataW.trod_lt m _ _ _ hm
 obtain ⟨n0, a0, e0, s0, w0⟩ := c0L a2I (t := 26) (by decide) Try.underlying26 (hval 0 26 v0 rfl rfl) h0
 have k1 := h1
 have lt1 : ∀ x ∈ p1, x.block < W.heap.size := by obtain ⟨m, hm⟩ := k1; exact DataW.trod_lt m _ _ _ hm
 obtain ⟨n1, a1, e1, s1, w1⟩ := b6b a2I (t := 23) (by decide) Try.underlying23 (hval 1 23 v1 rfl rfl) h1
 have k2 := h2
 have lt2 : ∀ x ∈ p2, x.block < W.heap.size := by obtain ⟨m, hm⟩ := k2; exact DataW.trod_lt m _ _ _ hm
 obtain ⟨n2, a2, e2, s2, w2⟩ := b6b a2I (t := 23) (by decide) Try.underlying23 (hval 2 23 v2 rfl rfl) h2
 clear hA0 hval0
 have hr : Go.Sx.Reps (Go.Sx.hpOf W) [] [.agg a0, .agg a1, .agg a2] [v0, v1, v2] := ⟨v0, _, rfl, e0, ⟨v1, _, rfl, e1, ⟨v2, _, rfl, e2, rfl⟩⟩⟩
 refine (Go.Sx.lift_true (Go.Sx.evalF_good c4Z (PV.wts a0+5000001) 3) (a8u n0 a0 s0 n1 a1 s1 n2 a2 s2) hr).mono fun e W' hh => ?_
 obtain ⟨rfl, bel⟩ := hh
 exact ⟨_, rfl, _, _, _, [], _, [], hW', trodAll_mk1 (shut_bool Try.underlying4 _), (trodAll_cons_mk (Below.trod a2W (by kernel_rfl) (of_decide_eq_true (by kernel_rfl)) k0 bel lt0) (trodAll_cons_mk (Below.trod a2W (by kernel_rfl) (of_decide_eq_true (by kernel_rfl)) k1 bel lt1) (trodAll_cons_mk (Below.trod a2W (by kernel_rfl) (of_decide_eq_true (by kernel_rfl)) k2 bel lt2) trodAll_mk0))), rfl, bel.frame _, fun h => by cases h⟩
theorem valuationMonotone_proved : Rows.ValuationMonotoneSaid :=
 OpenClaim.holds_of_wide 3 Try.f3 rfl rfl rfl rfl rfl rfl rfl ⟨rfl, rfl, rfl, rfl, rfl⟩ rfl rfl rfl rfl rfl (by kernel_rfl) Try.func3 (by kernel_rfl)
  (of_decide_eq_true (by kernel_rfl)) (by unfold Func.isWrapper; first | (rw [if_pos (by decide +kernel)]; kernel_rfl) | (rw [if_neg (by decide +kernel)]; exact ⟨rfl, rfl⟩))
  (fun os started H enc _ => a7w os started H enc)
end Go.Proofs.Ythmkfeiapdbojaa
