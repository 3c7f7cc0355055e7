/- RevealedGains: the gain from a choice to another one is that of the chapter, for all choices. -/
import Derived.Test.YthjahianafohjaaHRvC
import Derived.Test.YthjahianafohjaaRows
import Derived.WalkKit
import Derived.ProofKit
import Derived.OpenShut
import Derived.JoinedCond
import Derived.ShutString
set_option linter.unusedSimpArgs false
set_option linter.unusedVariables false
set_option maxRecDepth 100000
namespace Go.Proofs.Ythjahianafohjaa
open Go.ChangeShapes Go.WideShapes Go.ChangeAt Go.RowKit Go.Sx
theorem revealedGains_true (n0 : Nat) (ps : List PV) (h : Shaped Try.prog n0 44 ps) (n1 : Nat) (ps1 : List PV) (h1 : Shaped Try.prog n1 44 ps1) :
    evalF Tab 3001 n_saleroomlaw36_RevealedGains [.agg ps, .agg ps1] [] = some (.bool true, []) := by
  obtain ⟨x, rfl⟩ := shaped_Ch h
  obtain ⟨y, rfl⟩ := shaped_Ch h1
  exact gains_true x y 3000 (by omega) lives_sem
theorem revealedGains_own : ownKnob Try.prog.godebug = none := by kernel_rfl
theorem revealedGains_laid : laidOutB Try.prog = true := by kernel_rfl
theorem revealedGains_types : Go.Sx.closed Try.prog [44, 40, 42, 2, 3] = true := by kernel_rfl
set_option maxRecDepth 100000 in
theorem revealedGains_lifted (os : Os) (started : os.Started) (H : Type) (enc : TypeId × Value → H) :
    ReturnsInHanded {} Try.checked os 6 .any (Rows.revealedGainsSpec.pre6 enc Try.prog Try.f6 Rows.revealedGainsRow.domain false) (Rows.revealedGainsSpec.post enc Try.prog Try.f6 false true false false) := by
  refine returnsInHanded_of_change (C := Try.checked) revealedGains_own started (by kernel_rfl) Try.func6
    (ChangeSpec.witness6 (enc := enc) (C := Try.checked) false ⟨#[], #[.agg #[.int .i64 0, .int .i64 0, .int .i64 0, .int .i64 0, .int .i64 0, .int .i64 0, .int .i64 0, .int .i64 0, .int .i64 0, .int .i64 0, .int .i64 0, .int .i64 0], .agg #[.int .i64 0, .int .i64 0, .int .i64 0, .int .i64 0, .int .i64 0, .int .i64 0, .int .i64 0, .int .i64 0, .int .i64 0, .int .i64 0, .int .i64 0, .int .i64 0]], []⟩ 8 (by kernel_rfl) (by kernel_rfl) (by kernel_rfl) (by kernel_rfl)) ?_
  intro W base args ds gs before hval0 hW hcnd _
  have hval : ∀ (j : Nat) t v, Try.f6.params[j]? = some t → args[j]? = some v → Value.okWide Try.prog W .any base t v := hval0
  have hW' := hW
  obtain ⟨p, q, hA0, hV, rfl, hfz, hnd⟩ := hW
  have hA : DataW.TrodAll enc Try.prog W 0 (fun _ => true) true Try.f6.params.toList args.toList ds p := hA0
  rw [Try.params6] at hA hval
  obtain ⟨v0, vs0, d0, ds0, p0, q0, hargs, rfl, rfl, h0, r0⟩ := trodAll_cons hA
  obtain ⟨v1, vs1, d1, ds1, p1, q1, rfl, rfl, rfl, h1, r1⟩ := trodAll_cons r0
  obtain ⟨rfl, rfl, rfl⟩ := trodAll_nil r1
  obtain rfl : args = #[v0, v1] := by cases args; simp_all
  obtain ⟨rfl, rfl⟩ := trodVars_none hV
  have k0 := h0
  have lt0 : ∀ x ∈ p0, x.block < W.heap.size := by obtain ⟨m, hm⟩ := k0; exact DataW.trod_lt m _ _ _ hm
  obtain ⟨n0, a0, e0, s0, w0⟩ := arg_struct revealedGains_types (t := 44) (by decide) Try.underlying44 (hval 0 44 v0 rfl rfl) h0
  have k1 := h1
  have lt1 : ∀ x ∈ p1, x.block < W.heap.size := by obtain ⟨m, hm⟩ := k1; exact DataW.trod_lt m _ _ _ hm
  obtain ⟨n1, a1, e1, s1, w1⟩ := arg_struct revealedGains_types (t := 44) (by decide) Try.underlying44 (hval 1 44 v1 rfl rfl) h1
  clear hA0 hval0
  have hr : Go.Sx.Reps (Go.Sx.hpOf W) [] [.agg a0, .agg a1] [v0, v1] := ⟨v0, _, rfl, e0, ⟨v1, _, rfl, e1, rfl⟩⟩
  refine (Go.Sx.lift_true (Go.Sx.evalF_good tab_ok 3001 6) (revealedGains_true n0 a0 s0 n1 a1 s1) hr).mono fun e W' hh => ?_
  obtain ⟨rfl, bel⟩ := hh
  exact ⟨_, rfl, _, _, _, [], _, [], hW', trodAll_mk1 (shut_bool Try.underlying4 _), (trodAll_cons_mk (Below.trod revealedGains_laid (by kernel_rfl) (of_decide_eq_true (by kernel_rfl)) k0 bel lt0) (trodAll_cons_mk (Below.trod revealedGains_laid (by kernel_rfl) (of_decide_eq_true (by kernel_rfl)) k1 bel lt1) trodAll_mk0)), rfl, bel.frame _, fun h => by cases h⟩
theorem revealedGains_proved : Rows.RevealedGainsSaid :=
  OpenClaim.holds_of_wide 6 Try.f6 rfl rfl rfl rfl rfl rfl rfl ⟨rfl, rfl, rfl, rfl, rfl⟩ rfl rfl rfl rfl rfl (by kernel_rfl) Try.func6 (by kernel_rfl)
    (of_decide_eq_true (by kernel_rfl)) (by unfold Func.isWrapper; first | (rw [if_pos (by decide +kernel)]; kernel_rfl) | (rw [if_neg (by decide +kernel)]; exact ⟨rfl, rfl⟩))
    (fun os started H enc _ => revealedGains_lifted os started H enc)
end Go.Proofs.Ythjahianafohjaa
