/- The law DemandsetLaw of package demandset holds for every input, as its row says. No condition. -/
import Derived.Test.YtbmfegliomkkfaaRows
import Derived.Test.YtbmfegliomkkfaaHD15Law
import Derived.WalkKit
import Derived.ProofKit
import Derived.Test.YtbmfegliomkkfaaHSxP
namespace Go.Proofs.Ytbmfegliomkkfaa
open Go.ChangeShapes Go.WideShapes Go.ChangeAt Go.RowKit Go.Sx Go.Bun
set_option linter.unusedVariables false

abbrev ksO : List Kd := ([.int .i64] ++ ((List.replicate 6 [.int .i64]).flatten ++ ([.int .i64] ++ [])))
abbrev ksB : List Kd := (List.replicate 6 [.int .i64]).flatten
theorem ofs_of : ∀ (zss : List (List Int)), (∀ zs ∈ zss, okI ksO zs) → ∃ L : List Of, zss.map (cellsI ksO) = L.map Of.cs
  | [], _ => ⟨[], rfl⟩
  | zs :: l, h => by
    obtain ⟨L, hL⟩ := ofs_of l (fun z hz => h z (by simp [hz]))
    have h0 := h zs (by simp)
    match zs, h0 with
    | [n, a, b, c, d, e, f, v], _ => exact ⟨⟨n, ⟨a, b, c, d, e, f⟩, v⟩ :: L, by simp only [List.map_cons, hL]; rfl⟩
theorem bds_of : ∀ (zss : List (List Int)), (∀ zs ∈ zss, okI ksB zs) → ∃ L : List Bd, zss.map (cellsI ksB) = L.map Bd.cs
  | [], _ => ⟨[], rfl⟩
  | zs :: l, h => by
    obtain ⟨L, hL⟩ := bds_of l (fun z hz => h z (by simp [hz]))
    have h0 := h zs (by simp)
    match zs, h0 with
    | [a, b, c, d, e, f], _ => exact ⟨⟨a, b, c, d, e, f⟩ :: L, by simp only [List.map_cons, hL]; rfl⟩

theorem ll_any (W : World) (v : Value) (zss : List (List Int)) (wz : ∀ zs ∈ zss, okI ksO zs) (hs : SliceIn (hpOf W) ksO.length v (zss.map (cellsI ksO))) (a : List Int) (wa : okI ksB a) (b : List Int) (wb : okI ksB b)
    (k : Int) (wk : loI .u8 ≤ k ∧ k ≤ hiI .u8) (t : Int) (wt : loI .u32 ≤ t ∧ t ≤ hiI .u32) :
    Ct Try.prog 6 [v, .agg (cellsI ksB a).toArray, .agg (cellsI ksB b).toArray, .int .u8 k, .int .u32 t] (hpOf W) (fun v _ => v = .bool true) := by
  obtain ⟨L, hL⟩ := ofs_of zss wz
  obtain ⟨x, hx, _⟩ := Bd.ofI wa
  obtain ⟨y, hy, _⟩ := Bd.ofI wb
  rw [hx, hy]
  rw [hL] at hs
  simp only [loI, hiI, IntKind.signed, IntKind.bits] at wk wt
  exact ll_ct L v x y k t (by simp at wk; omega) (by simp at wt; omega) _ hs
theorem demandsetLaw_own : ownKnob Try.prog.godebug = none := by kernel_rfl
theorem demandsetLaw_laid : laidOutB Try.prog = true := by kernel_rfl
set_option maxRecDepth 100000 in
theorem demandsetLaw_lifted (os : Os) (started : os.Started) (H : Type) (enc : TypeId × Value → H) :
    ReturnsInHanded {} Try.checked os 6 .any (Rows.demandsetLawSpec.pre6 enc Try.prog Try.f6 Rows.demandsetLawRow.domain false) (Rows.demandsetLawSpec.post enc Try.prog Try.f6 false true false false) := by
  refine returnsInHanded_of_change (C := Try.checked) demandsetLaw_own started (by kernel_rfl) Try.func6
    (ChangeSpec.witness6 (enc := enc) (C := Try.checked) false ⟨#[], #[.slice none 0 0, .agg #[.int .i64 0, .int .i64 0, .int .i64 0, .int .i64 0, .int .i64 0, .int .i64 0], .agg #[.int .i64 0, .int .i64 0, .int .i64 0, .int .i64 0, .int .i64 0, .int .i64 0], .int .u8 0, .int .u32 0], []⟩ 8 (by kernel_rfl) (by kernel_rfl) (by kernel_rfl) (by kernel_rfl)) ?_
  intro W base args ds gs before hval0 hW hcnd _
  have hval : ∀ (j : Nat) t v, Try.f6.params[j]? = some t → args[j]? = some v → Value.okWide Try.prog W .any base t v := hval0
  have hW' := hW
  obtain ⟨p, q, hA0, hV, rfl, hfz, hnd⟩ := hW
  have hA : DataW.TrodAll enc Try.prog W 0 (fun _ => true) true Try.f6.params.toList args.toList ds p := hA0
  rw [Try.params6] at hA hval
  obtain ⟨v0, vs0, d0, ds0, p0, q0, hargs, rfl, rfl, h0, r0⟩ := trodAll_cons hA
  obtain ⟨v1, vs1, d1, ds1, p1, q1, rfl, rfl, rfl, h1, r1⟩ := trodAll_cons r0
  obtain ⟨v2, vs2, d2, ds2, p2, q2, rfl, rfl, rfl, h2, r2⟩ := trodAll_cons r1
  obtain ⟨v3, vs3, d3, ds3, p3, q3, rfl, rfl, rfl, h3, r3⟩ := trodAll_cons r2
  obtain ⟨v4, vs4, d4, ds4, p4, q4, rfl, rfl, rfl, h4, r4⟩ := trodAll_cons r3
  obtain ⟨rfl, rfl, rfl⟩ := trodAll_nil r4
  obtain rfl : args = #[v0, v1, v2, v3, v4] := by cases args; simp_all
  obtain ⟨rfl, rfl⟩ := trodVars_none hV
  have k0 := h0
  have lt0 : ∀ x ∈ p0, x.block < W.heap.size := by obtain ⟨m, hm⟩ := k0; exact DataW.trod_lt m _ _ _ hm
  obtain ⟨a0, w0, s0⟩ := open_sl (ks := ([.int .i64] ++ ((List.replicate 6 [.int .i64]).flatten ++ ([.int .i64] ++ [])))) Try.underlying22 (.st Try.underlying65 (.cons rfl (.int Try.underlying3 (by kernel_rfl)) (by kernel_rfl) (.cons rfl (.arr Try.underlying26 (.int Try.underlying3 (by kernel_rfl)) (by kernel_rfl) (by kernel_rfl)) (by kernel_rfl) (.cons rfl (.int Try.underlying2 (by kernel_rfl)) (by kernel_rfl) (.nil _)))) (by kernel_rfl)) (by kernel_rfl) (by decide) (hval 0 22 v0 rfl rfl) h0
  have k1 := h1
  have lt1 : ∀ x ∈ p1, x.block < W.heap.size := by obtain ⟨m, hm⟩ := k1; exact DataW.trod_lt m _ _ _ hm
  obtain ⟨a1, w1, rfl⟩ := open_arr (ks := (List.replicate 6 [.int .i64]).flatten) Try.underlying26 (.arr Try.underlying26 (.int Try.underlying3 (by kernel_rfl)) (by kernel_rfl) (by kernel_rfl)) (hval 1 26 v1 rfl rfl) h1
  have k2 := h2
  have lt2 : ∀ x ∈ p2, x.block < W.heap.size := by obtain ⟨m, hm⟩ := k2; exact DataW.trod_lt m _ _ _ hm
  obtain ⟨a2, w2, rfl⟩ := open_arr (ks := (List.replicate 6 [.int .i64]).flatten) Try.underlying24 (.arr Try.underlying24 (.int Try.underlying2 (by kernel_rfl)) (by kernel_rfl) (by kernel_rfl)) (hval 2 24 v2 rfl rfl) h2
  have k3 := h3
  have lt3 : ∀ x ∈ p3, x.block < W.heap.size := by obtain ⟨m, hm⟩ := k3; exact DataW.trod_lt m _ _ _ hm
  obtain ⟨a3, rfl, w3⟩ := open_num Try.underlying5 (hval 3 5 v3 rfl rfl) h3
  have k4 := h4
  have lt4 : ∀ x ∈ p4, x.block < W.heap.size := by obtain ⟨m, hm⟩ := k4; exact DataW.trod_lt m _ _ _ hm
  obtain ⟨a4, rfl, w4⟩ := open_num Try.underlying39 (hval 4 39 v4 rfl rfl) h4
  clear hA0 hval0
  refine (ll_any W v0 a0 w0 s0 a1 w1 a2 w2 a3 w3 a4 w4 W (sub_hpOf W)).mono fun e W' hh => ?_
  obtain ⟨v, s', rfl, bel, _, _, _, rfl⟩ := hh
  exact ⟨_, rfl, _, _, _, [], _, [], hW', trodAll_mk1 (shut_bool Try.underlying4 _), (trodAll_cons_mk (Below.trod demandsetLaw_laid (by kernel_rfl) (of_decide_eq_true (by kernel_rfl)) k0 bel lt0) (trodAll_cons_mk (Below.trod demandsetLaw_laid (by kernel_rfl) (of_decide_eq_true (by kernel_rfl)) k1 bel lt1) (trodAll_cons_mk (Below.trod demandsetLaw_laid (by kernel_rfl) (of_decide_eq_true (by kernel_rfl)) k2 bel lt2) (trodAll_cons_mk (Below.trod demandsetLaw_laid (by kernel_rfl) (of_decide_eq_true (by kernel_rfl)) k3 bel lt3) (trodAll_cons_mk (Below.trod demandsetLaw_laid (by kernel_rfl) (of_decide_eq_true (by kernel_rfl)) k4 bel lt4) trodAll_mk0))))), rfl, bel.frame _, fun h => by cases h⟩

theorem demandsetLaw_proved : Rows.DemandsetLawSaid :=
  OpenClaim.holds_of_wide 6 Try.f6 rfl rfl rfl rfl rfl rfl rfl ⟨rfl, rfl, rfl, rfl, rfl⟩ rfl rfl rfl rfl rfl (by kernel_rfl) Try.func6 (by kernel_rfl)
    (of_decide_eq_true (by kernel_rfl)) (by unfold Func.isWrapper; first | (rw [if_pos (by decide +kernel)]; kernel_rfl) | (rw [if_neg (by decide +kernel)]; exact ⟨rfl, rfl⟩))
    (fun os started H enc _ => demandsetLaw_lifted os started H enc)

end Go.Proofs.Ytbmfegliomkkfaa
