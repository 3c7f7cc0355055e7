/- The law BundleSplits of package bundle holds for every input, as its row says. No condition. -/
import Derived.Test.YtfbhgmnbndlipaaRows
import Derived.Test.YtfbhgmnbndlipaaHSplL
import Derived.WalkKit
import Derived.ProofKit
import Derived.Test.YtfbhgmnbndlipaaHSxP
namespace Go.Proofs.Ytfbhgmnbndlipaa
open Go.ChangeShapes Go.WideShapes Go.ChangeAt Go.RowKit Go.Sx Go.Bun
set_option linter.unusedVariables false

theorem bundleSplits_any (W : World) (a : List Int) (wa : okI (List.replicate 6 [.int .i64]).flatten a) :
    Ct Try.prog 8 [.agg (cellsI (List.replicate 6 [.int .i64]).flatten a).toArray] (hpOf W) (fun v _ => v = .bool true) := by
  obtain ⟨x, hx, _⟩ := Bd.ofI wa
  rw [hx]
  exact bundleSplits_walk x _
theorem bundleSplits_own : ownKnob Try.prog.godebug = none := by kernel_rfl
theorem bundleSplits_laid : laidOutB Try.prog = true := by kernel_rfl
set_option maxRecDepth 100000 in
theorem bundleSplits_lifted (os : Os) (started : os.Started) (H : Type) (enc : TypeId × Value → H) :
    ReturnsInHanded {} Try.checked os 8 .any (Rows.bundleSplitsSpec.pre6 enc Try.prog Try.f8 Rows.bundleSplitsRow.domain false) (Rows.bundleSplitsSpec.post enc Try.prog Try.f8 false true false false) := by
  refine returnsInHanded_of_change (C := Try.checked) bundleSplits_own started (by kernel_rfl) Try.func8
    (ChangeSpec.witness6 (enc := enc) (C := Try.checked) false ⟨#[], #[.agg #[.int .i64 0, .int .i64 0, .int .i64 0, .int .i64 0, .int .i64 0, .int .i64 0]], []⟩ 8 (by kernel_rfl) (by kernel_rfl) (by kernel_rfl) (by kernel_rfl)) ?_
  intro W base args ds gs before hval0 hW hcnd _
  have hval : ∀ (j : Nat) t v, Try.f8.params[j]? = some t → args[j]? = some v → Value.okWide Try.prog W .any base t v := hval0
  have hW' := hW
  obtain ⟨p, q, hA0, hV, rfl, hfz, hnd⟩ := hW
  have hA : DataW.TrodAll enc Try.prog W 0 (fun _ => true) true Try.f8.params.toList args.toList ds p := hA0
  rw [Try.params8] at hA hval
  obtain ⟨v0, vs0, d0, ds0, p0, q0, hargs, rfl, rfl, h0, r0⟩ := trodAll_cons hA
  obtain ⟨rfl, rfl, rfl⟩ := trodAll_nil r0
  obtain rfl : args = #[v0] := by cases args; simp_all
  obtain ⟨rfl, rfl⟩ := trodVars_none hV
  have k0 := h0
  have lt0 : ∀ x ∈ p0, x.block < W.heap.size := by obtain ⟨m, hm⟩ := k0; exact DataW.trod_lt m _ _ _ hm
  obtain ⟨a0, w0, rfl⟩ := open_arr (ks := (List.replicate 6 [.int .i64]).flatten) Try.underlying23 (.arr Try.underlying23 (.int Try.underlying3 (by kernel_rfl)) (by kernel_rfl) (by kernel_rfl)) (hval 0 23 v0 rfl rfl) h0
  clear hA0 hval0
  refine (bundleSplits_any W a0 w0 W (sub_hpOf W)).mono fun e W' hh => ?_
  obtain ⟨v, s', rfl, bel, _, _, _, rfl⟩ := hh
  exact ⟨_, rfl, _, _, _, [], _, [], hW', trodAll_mk1 (shut_bool Try.underlying4 _), (trodAll_cons_mk (Below.trod bundleSplits_laid (by kernel_rfl) (of_decide_eq_true (by kernel_rfl)) k0 bel lt0) trodAll_mk0), rfl, bel.frame _, fun h => by cases h⟩

theorem bundleSplits_proved : Rows.BundleSplitsSaid :=
  OpenClaim.holds_of_wide 8 Try.f8 rfl rfl rfl rfl rfl rfl rfl ⟨rfl, rfl, rfl, rfl, rfl⟩ rfl rfl rfl rfl rfl (by kernel_rfl) Try.func8 (by kernel_rfl)
    (of_decide_eq_true (by kernel_rfl)) (by unfold Func.isWrapper; first | (rw [if_pos (by decide +kernel)]; kernel_rfl) | (rw [if_neg (by decide +kernel)]; exact ⟨rfl, rfl⟩))
    (fun os started H enc _ => bundleSplits_lifted os started H enc)

end Go.Proofs.Ytfbhgmnbndlipaa
