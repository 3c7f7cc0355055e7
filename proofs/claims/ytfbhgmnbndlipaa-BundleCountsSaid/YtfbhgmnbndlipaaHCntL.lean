/- The laws BundleCounts and BundleRanks, as their rows say them. -/
import Derived.Test.YtfbhgmnbndlipaaRows
import Derived.Test.YtfbhgmnbndlipaaHCntB
import Derived.WalkKit
import Derived.ProofKit
import Derived.Test.YtfbhgmnbndlipaaHSxP
namespace Go.Proofs.Ytfbhgmnbndlipaa
open Go.ChangeShapes Go.WideShapes Go.ChangeAt Go.RowKit Go.Sx Go.Bun
set_option linter.unusedVariables false

theorem bundleCounts_any (W : World) (a : List Int) (wa : okI (List.replicate 6 [.int .i64]).flatten a) (b : List Int) (wb : okI (List.replicate 6 [.int .i64]).flatten b) :
    Ct Try.prog 3 [.agg (cellsI (List.replicate 6 [.int .i64]).flatten a).toArray, .agg (cellsI (List.replicate 6 [.int .i64]).flatten b).toArray] (hpOf W) (fun v _ => v = .bool true) := by
  obtain ⟨x, hx, _⟩ := Bd.ofI wa
  obtain ⟨y, hy, _⟩ := Bd.ofI wb
  rw [hx, hy]
  exact bundleCounts_ct x y _
theorem bundleCounts_own : ownKnob Try.prog.godebug = none := by kernel_rfl
theorem bundleCounts_laid : laidOutB Try.prog = true := by kernel_rfl
set_option maxRecDepth 100000 in
theorem bundleCounts_lifted (os : Os) (started : os.Started) (H : Type) (enc : TypeId × Value → H) :
    ReturnsInHanded {} Try.checked os 3 .any (Rows.bundleCountsSpec.pre6 enc Try.prog Try.f3 Rows.bundleCountsRow.domain false) (Rows.bundleCountsSpec.post enc Try.prog Try.f3 false true false false) := by
  refine returnsInHanded_of_change (C := Try.checked) bundleCounts_own started (by kernel_rfl) Try.func3
    (ChangeSpec.witness6 (enc := enc) (C := Try.checked) false ⟨#[], #[.agg #[.int .i64 0, .int .i64 0, .int .i64 0, .int .i64 0, .int .i64 0, .int .i64 0], .agg #[.int .i64 0, .int .i64 0, .int .i64 0, .int .i64 0, .int .i64 0, .int .i64 0]], []⟩ 8 (by kernel_rfl) (by kernel_rfl) (by kernel_rfl) (by kernel_rfl)) ?_
  intro W base args ds gs before hval0 hW hcnd _
  have hval : ∀ (j : Nat) t v, Try.f3.params[j]? = some t → args[j]? = some v → Value.okWide Try.prog W .any base t v := hval0
  have hW' := hW
  obtain ⟨p, q, hA0, hV, rfl, hfz, hnd⟩ := hW
  have hA : DataW.TrodAll enc Try.prog W 0 (fun _ => true) true Try.f3.params.toList args.toList ds p := hA0
  rw [Try.params3] at hA hval
  obtain ⟨v0, vs0, d0, ds0, p0, q0, hargs, rfl, rfl, h0, r0⟩ := trodAll_cons hA
  obtain ⟨v1, vs1, d1, ds1, p1, q1, rfl, rfl, rfl, h1, r1⟩ := trodAll_cons r0
  obtain ⟨rfl, rfl, rfl⟩ := trodAll_nil r1
  obtain rfl : args = #[v0, v1] := by cases args; simp_all
  obtain ⟨rfl, rfl⟩ := trodVars_none hV
  have k0 := h0
  have lt0 : ∀ x ∈ p0, x.block < W.heap.size := by obtain ⟨m, hm⟩ := k0; exact DataW.trod_lt m _ _ _ hm
  obtain ⟨a0, w0, rfl⟩ := open_arr (ks := (List.replicate 6 [.int .i64]).flatten) Try.underlying23 (.arr Try.underlying23 (.int Try.underlying3 (by kernel_rfl)) (by kernel_rfl) (by kernel_rfl)) (hval 0 23 v0 rfl rfl) h0
  have k1 := h1
  have lt1 : ∀ x ∈ p1, x.block < W.heap.size := by obtain ⟨m, hm⟩ := k1; exact DataW.trod_lt m _ _ _ hm
  obtain ⟨a1, w1, rfl⟩ := open_arr (ks := (List.replicate 6 [.int .i64]).flatten) Try.underlying23 (.arr Try.underlying23 (.int Try.underlying3 (by kernel_rfl)) (by kernel_rfl) (by kernel_rfl)) (hval 1 23 v1 rfl rfl) h1
  clear hA0 hval0
  refine (bundleCounts_any W a0 w0 a1 w1 W (sub_hpOf W)).mono fun e W' hh => ?_
  obtain ⟨v, s', rfl, bel, _, _, _, rfl⟩ := hh
  exact ⟨_, rfl, _, _, _, [], _, [], hW', trodAll_mk1 (shut_bool Try.underlying4 _), (trodAll_cons_mk (Below.trod bundleCounts_laid (by kernel_rfl) (of_decide_eq_true (by kernel_rfl)) k0 bel lt0) (trodAll_cons_mk (Below.trod bundleCounts_laid (by kernel_rfl) (of_decide_eq_true (by kernel_rfl)) k1 bel lt1) trodAll_mk0)), rfl, bel.frame _, fun h => by cases h⟩

theorem bundleCounts_proved : Rows.BundleCountsSaid :=
  OpenClaim.holds_of_wide 3 Try.f3 rfl rfl rfl rfl rfl rfl rfl ⟨rfl, rfl, rfl, rfl, rfl⟩ rfl rfl rfl rfl rfl (by kernel_rfl) Try.func3 (by kernel_rfl)
    (of_decide_eq_true (by kernel_rfl)) (by unfold Func.isWrapper; first | (rw [if_pos (by decide +kernel)]; kernel_rfl) | (rw [if_neg (by decide +kernel)]; exact ⟨rfl, rfl⟩))
    (fun os started H enc _ => bundleCounts_lifted os started H enc)
theorem bundleRanks_any (W : World) (a : List Int) (wa : okI (List.replicate 6 [.int .i64]).flatten a) (n : Int) (wn : loI .i64 ≤ n ∧ n ≤ hiI .i64) (m : Int) (wm : loI .i64 ≤ m ∧ m ≤ hiI .i64) :
    Ct Try.prog 4 [.agg (cellsI (List.replicate 6 [.int .i64]).flatten a).toArray, .int .i64 n, .int .i64 m] (hpOf W) (fun v _ => v = .bool true) := by
  obtain ⟨x, hx, _⟩ := Bd.ofI wa
  rw [hx]
  exact bundleRanks_ct x n m wn.2 wm.2 _
theorem bundleRanks_own : ownKnob Try.prog.godebug = none := by kernel_rfl
theorem bundleRanks_laid : laidOutB Try.prog = true := by kernel_rfl
set_option maxRecDepth 100000 in
theorem bundleRanks_lifted (os : Os) (started : os.Started) (H : Type) (enc : TypeId × Value → H) :
    ReturnsInHanded {} Try.checked os 4 .any (Rows.bundleRanksSpec.pre6 enc Try.prog Try.f4 Rows.bundleRanksRow.domain false) (Rows.bundleRanksSpec.post enc Try.prog Try.f4 false true false false) := by
  refine returnsInHanded_of_change (C := Try.checked) bundleRanks_own started (by kernel_rfl) Try.func4
    (ChangeSpec.witness6 (enc := enc) (C := Try.checked) false ⟨#[], #[.agg #[.int .i64 0, .int .i64 0, .int .i64 0, .int .i64 0, .int .i64 0, .int .i64 0], .int .i64 0, .int .i64 0], []⟩ 8 (by kernel_rfl) (by kernel_rfl) (by kernel_rfl) (by kernel_rfl)) ?_
  intro W base args ds gs before hval0 hW hcnd _
  have hval : ∀ (j : Nat) t v, Try.f4.params[j]? = some t → args[j]? = some v → Value.okWide Try.prog W .any base t v := hval0
  have hW' := hW
  obtain ⟨p, q, hA0, hV, rfl, hfz, hnd⟩ := hW
  have hA : DataW.TrodAll enc Try.prog W 0 (fun _ => true) true Try.f4.params.toList args.toList ds p := hA0
  rw [Try.params4] at hA hval
  obtain ⟨v0, vs0, d0, ds0, p0, q0, hargs, rfl, rfl, h0, r0⟩ := trodAll_cons hA
  obtain ⟨v1, vs1, d1, ds1, p1, q1, rfl, rfl, rfl, h1, r1⟩ := trodAll_cons r0
  obtain ⟨v2, vs2, d2, ds2, p2, q2, rfl, rfl, rfl, h2, r2⟩ := trodAll_cons r1
  obtain ⟨rfl, rfl, rfl⟩ := trodAll_nil r2
  obtain rfl : args = #[v0, v1, v2] := by cases args; simp_all
  obtain ⟨rfl, rfl⟩ := trodVars_none hV
  have k0 := h0
  have lt0 : ∀ x ∈ p0, x.block < W.heap.size := by obtain ⟨m, hm⟩ := k0; exact DataW.trod_lt m _ _ _ hm
  obtain ⟨a0, w0, rfl⟩ := open_arr (ks := (List.replicate 6 [.int .i64]).flatten) Try.underlying23 (.arr Try.underlying23 (.int Try.underlying3 (by kernel_rfl)) (by kernel_rfl) (by kernel_rfl)) (hval 0 23 v0 rfl rfl) h0
  have k1 := h1
  have lt1 : ∀ x ∈ p1, x.block < W.heap.size := by obtain ⟨m, hm⟩ := k1; exact DataW.trod_lt m _ _ _ hm
  obtain ⟨a1, rfl, w1⟩ := open_num Try.underlying3 (hval 1 3 v1 rfl rfl) h1
  have k2 := h2
  have lt2 : ∀ x ∈ p2, x.block < W.heap.size := by obtain ⟨m, hm⟩ := k2; exact DataW.trod_lt m _ _ _ hm
  obtain ⟨a2, rfl, w2⟩ := open_num Try.underlying3 (hval 2 3 v2 rfl rfl) h2
  clear hA0 hval0
  refine (bundleRanks_any W a0 w0 a1 w1 a2 w2 W (sub_hpOf W)).mono fun e W' hh => ?_
  obtain ⟨v, s', rfl, bel, _, _, _, rfl⟩ := hh
  exact ⟨_, rfl, _, _, _, [], _, [], hW', trodAll_mk1 (shut_bool Try.underlying4 _), (trodAll_cons_mk (Below.trod bundleRanks_laid (by kernel_rfl) (of_decide_eq_true (by kernel_rfl)) k0 bel lt0) (trodAll_cons_mk (Below.trod bundleRanks_laid (by kernel_rfl) (of_decide_eq_true (by kernel_rfl)) k1 bel lt1) (trodAll_cons_mk (Below.trod bundleRanks_laid (by kernel_rfl) (of_decide_eq_true (by kernel_rfl)) k2 bel lt2) trodAll_mk0))), rfl, bel.frame _, fun h => by cases h⟩

theorem bundleRanks_proved : Rows.BundleRanksSaid :=
  OpenClaim.holds_of_wide 4 Try.f4 rfl rfl rfl rfl rfl rfl rfl ⟨rfl, rfl, rfl, rfl, rfl⟩ rfl rfl rfl rfl rfl (by kernel_rfl) Try.func4 (by kernel_rfl)
    (of_decide_eq_true (by kernel_rfl)) (by unfold Func.isWrapper; first | (rw [if_pos (by decide +kernel)]; kernel_rfl) | (rw [if_neg (by decide +kernel)]; exact ⟨rfl, rfl⟩))
    (fun os started H enc _ => bundleRanks_lifted os started H enc)
end Go.Proofs.Ytfbhgmnbndlipaa
