/- ExprSizes: Size, Depth and Products return the reference's results for any expression, where what is read is of bulk at most 1048576. -/
import Derived.Test.YtbmfegliomkkfaaHExK
import Derived.Test.YtbmfegliomkkfaaHExL
import Derived.Test.YtbmfegliomkkfaaRows
import Derived.WalkKit
import Derived.ProofKit
import Derived.OpenShut
import Derived.JoinedCond
import Derived.ShutString
set_option linter.unusedSimpArgs false
set_option linter.unusedVariables false
set_option maxRecDepth 100000
namespace Go.Proofs.Ytbmfegliomkkfaa
open Go.ChangeShapes Go.WideShapes Go.ChangeAt Go.RowKit Go.Sx
theorem exprSizes_true (n0 : Nat) (ps : List PV) (h : Shaped Try.prog n0 49 ps) (hb : PV.wts ps ≤ 1048576) : evalF Tab 1048651 n_saleroomlaw11_ExprSizes [.agg ps] [] = some (.bool true, []) := by
  obtain ⟨e, he, hs⟩ := shaped_E n0 ps h
  exact sizes_true e ps he 1048650 (by omega) (by omega) awake_sem
mutual
theorem exprSizes_bk {H : Type} : ∀ d : DataW H, Rows.uptoBulk d = Go.Sx.bulk d
  | .lit l => by cases l <;> simp [Rows.uptoBulk, Go.Sx.bulk]
  | .nil => by simp [Rows.uptoBulk, Go.Sx.bulk]
  | .ptr d => by simp [Rows.uptoBulk, Go.Sx.bulk, exprSizes_bk d]
  | .slice e s => by simp [Rows.uptoBulk, Go.Sx.bulk, exprSizes_bks e, exprSizes_bks s]
  | .agg e => by simp [Rows.uptoBulk, Go.Sx.bulk, exprSizes_bks e]
  | .iface _ d => by simp [Rows.uptoBulk, Go.Sx.bulk, exprSizes_bk d]
  | .map e => by simp [Rows.uptoBulk, Go.Sx.bulk, exprSizes_bke e]
  | .held _ => by simp [Rows.uptoBulk, Go.Sx.bulk]
theorem exprSizes_bks {H : Type} : ∀ d : List (DataW H), Rows.uptoBulkAll d = Go.Sx.bulks d
  | [] => by simp [Rows.uptoBulkAll, Go.Sx.bulks]
  | d :: r => by simp [Rows.uptoBulkAll, Go.Sx.bulks, exprSizes_bk d, exprSizes_bks r]
theorem exprSizes_bke {H : Type} : ∀ d : List (Lit × DataW H), Rows.uptoBulkEntries d = Go.Sx.bulkEs d
  | [] => by simp [Rows.uptoBulkEntries, Go.Sx.bulkEs]
  | d :: r => by simp [Rows.uptoBulkEntries, Go.Sx.bulkEs, exprSizes_bk1 d, exprSizes_bke r]
theorem exprSizes_bk1 {H : Type} : ∀ d : Lit × DataW H, Rows.uptoBulkEntry d = Go.Sx.bulkE d
  | (k, d) => by cases k <;> simp [Rows.uptoBulkEntry, Go.Sx.bulkE, exprSizes_bk d]
end
theorem exprSizes_own : ownKnob Try.prog.godebug = none := by kernel_rfl
theorem exprSizes_laid : laidOutB Try.prog = true := by kernel_rfl
theorem exprSizes_types : Go.Sx.closed Try.prog [49, 3, 26, 2, 47] = true := by kernel_rfl
set_option maxRecDepth 100000 in
theorem exprSizes_lifted (os : Os) (started : os.Started) (H : Type) (enc : TypeId × Value → H) (F : Stop.Interp) :
    ReturnsInHanded {} Try.checked os 9 .any ((Rows.OpenSpec.upto Rows.exprSizesSpec).pre6 enc Try.prog Try.f9 Rows.exprSizesUptoRow.domain false) (((Rows.OpenSpec.upto Rows.exprSizesSpec).at F).post enc Try.prog Try.f9 false true false false) := by
  refine returnsInHanded_of_cond (C := Try.checked) (s := (Rows.OpenSpec.upto Rows.exprSizesSpec)) (k := Rows.uptoSmall) rfl exprSizes_own started (by kernel_rfl) Try.func9
    (OpenSpec.witness (enc := enc) (C := Try.checked) (s := (Rows.OpenSpec.upto Rows.exprSizesSpec)) (k := Rows.uptoSmall) rfl false ⟨#[], #[.agg #[.int .i64 0, .int .i64 0, .int .i64 0, .int .i64 0, .int .i64 0, .int .i64 0, .int .i64 0, .int .i64 0, .slice none 0 0]], []⟩ 8 (by kernel_rfl) (by kernel_rfl) (by kernel_rfl)
      (x := ([.agg [.lit (.int .i64 0), .agg [.lit (.int .i64 0), .lit (.int .i64 0), .lit (.int .i64 0), .lit (.int .i64 0), .lit (.int .i64 0), .lit (.int .i64 0)], .lit (.int .i64 0), .nil]], [], [])) (by kernel_rfl) rfl (by kernel_rfl)) ?_
  intro W base args ds gs before hval0 hW _ hk _
  suffices hz : Calls Try.prog 9 args W fun e W' => ∃ v, e = .returned v ∧ Rows.exprSizesSpec.post enc Try.prog Try.f9 false true false false W args v W' from hz
  have hval : ∀ (j : Nat) t v, Try.f9.params[j]? = some t → args[j]? = some v → Value.okWide Try.prog W .any base t v := hval0
  have hW' := hW
  obtain ⟨p, q, hA0, hV, rfl, hfz, hnd⟩ := hW
  have hA : DataW.TrodAll enc Try.prog W 0 (fun _ => true) true Try.f9.params.toList args.toList ds p := hA0
  rw [Try.params9] at hA hval
  obtain ⟨v0, vs0, d0, ds0, p0, q0, hargs, rfl, rfl, h0, r0⟩ := trodAll_cons hA
  obtain ⟨rfl, rfl, rfl⟩ := trodAll_nil r0
  obtain rfl : args = #[v0] := by cases args; simp_all
  obtain ⟨rfl, rfl⟩ := trodVars_none hV
  have hb0 := of_decide_eq_true hk
  simp only [exprSizes_bks, Go.Sx.bulks, List.append_nil] at hb0
  have k0 := h0
  have lt0 : ∀ x ∈ p0, x.block < W.heap.size := by obtain ⟨m, hm⟩ := k0; exact DataW.trod_lt m _ _ _ hm
  obtain ⟨n0, a0, e0, s0, w0⟩ := arg_struct exprSizes_types (t := 49) (by decide) Try.underlying49 (hval 0 49 v0 rfl rfl) h0
  clear hA0 hval0
  have hr : Go.Sx.Reps (Go.Sx.hpOf W) [] [.agg a0] [v0] := ⟨v0, _, rfl, e0, rfl⟩
  refine (Go.Sx.lift_true (Go.Sx.evalF_good tab_ok 1048651 9) (exprSizes_true n0 a0 s0 (by omega)) hr).mono fun e W' hh => ?_
  obtain ⟨rfl, bel⟩ := hh
  exact ⟨_, rfl, _, _, _, [], _, [], hW', trodAll_mk1 (shut_bool Try.underlying4 _), (trodAll_cons_mk (Below.trod exprSizes_laid (by kernel_rfl) (of_decide_eq_true (by kernel_rfl)) k0 bel lt0) trodAll_mk0), rfl, bel.frame _, fun h => by cases h⟩
theorem exprSizes_proved : Rows.ExprSizesUptoSaid :=
  OpenClaim.holds_of_cond 9 Try.f9 rfl rfl rfl rfl rfl rfl rfl ⟨rfl, rfl, rfl, rfl, rfl⟩ rfl rfl rfl rfl rfl (by kernel_rfl) Try.func9 (by kernel_rfl)
    (of_decide_eq_true (by kernel_rfl)) (by unfold Func.isWrapper; first | (rw [if_pos (by decide +kernel)]; kernel_rfl) | (rw [if_neg (by decide +kernel)]; exact ⟨rfl, rfl⟩))
    (fun os started H enc _ F => exprSizes_lifted os started H enc F)
end Go.Proofs.Ytbmfegliomkkfaa
