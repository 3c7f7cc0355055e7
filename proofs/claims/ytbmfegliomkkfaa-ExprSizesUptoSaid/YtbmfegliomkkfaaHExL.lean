/- Any expression that comes in is a tree. -/
import Derived.Test.YtbmfegliomkkfaaHExA
import Derived.Test.YtbmfegliomkkfaaHTxZ
set_option linter.unusedSimpArgs false
set_option linter.unusedVariables false
set_option maxRecDepth 100000
namespace Go.Proofs.Ytbmfegliomkkfaa
open Go.Sx
theorem isEs_of {rows : List (List PV)} (h : ∀ r ∈ rows, ∃ e, IsE e r ∧ 9 * e.size ≤ PV.wts r) : ∃ l, IsEs l rows ∧ 9 * sizes l ≤ PV.wtss rows := by
  induction rows with
  | nil => exact ⟨[], by simp [IsEs], by simp [sizes, PV.wtss]⟩
  | cons r rows ih =>
    obtain ⟨e, he, hs⟩ := h r (by simp)
    obtain ⟨l, hl, hls⟩ := ih (fun r hr => h r (by simp [hr]))
    exact ⟨e :: l, ⟨r, rows, rfl, he, hl⟩, by simp only [sizes, PV.wtss]; omega⟩
theorem shaped_want {n : Nat} {ps : List PV} (h : Shaped Try.prog n 26 ps) : ∃ a b c d e f, ps = [.int .i64 a, .int .i64 b, .int .i64 c, .int .i64 d, .int .i64 e, .int .i64 f] := by
  obtain ⟨m, _, h⟩ := shaped_array Try.underlying26 h
  simp only [List.replicate, Shapeds] at h
  obtain ⟨_, _, rfl, h1, _, _, rfl, h2, _, _, rfl, h3, _, _, rfl, h4, _, _, rfl, h5, _, _, rfl, h6, rfl⟩ := h
  obtain ⟨a, rfl, _⟩ := shaped_int (k := .i64) (by kernel_rfl) h1
  obtain ⟨b, rfl, _⟩ := shaped_int (k := .i64) (by kernel_rfl) h2
  obtain ⟨c, rfl, _⟩ := shaped_int (k := .i64) (by kernel_rfl) h3
  obtain ⟨d, rfl, _⟩ := shaped_int (k := .i64) (by kernel_rfl) h4
  obtain ⟨e, rfl, _⟩ := shaped_int (k := .i64) (by kernel_rfl) h5
  obtain ⟨f, rfl, _⟩ := shaped_int (k := .i64) (by kernel_rfl) h6
  exact ⟨a, b, c, d, e, f, rfl⟩
theorem shaped_E : ∀ (n : Nat) (ps : List PV), Shaped Try.prog n 49 ps → ∃ e, IsE e ps ∧ 9 * e.size ≤ PV.wts ps := by
  intro n
  induction n using Nat.strongRecOn with
  | _ n ih =>
  intro ps h
  obtain ⟨m, hm, h⟩ := shaped_struct Try.underlying49 h
  simp only [List.map_cons, List.map_nil, Shapeds] at h
  obtain ⟨_, _, rfl, h1, _, _, rfl, h2, _, _, rfl, h3, _, _, rfl, h4, rfl⟩ := h
  obtain ⟨op, rfl, _⟩ := shaped_int (k := .i64) (by kernel_rfl) h1
  obtain ⟨a, b, c, d, e, f, rfl⟩ := shaped_want h2
  obtain ⟨v, rfl, _⟩ := shaped_int (k := .i64) (by kernel_rfl) h3
  obtain ⟨k, rows, hk, rfl, hr⟩ := shaped_slice (e := 49) (by kernel_rfl) h4
  obtain ⟨l, hl, hs⟩ := isEs_of (fun r hr' => ih k (by omega) r (hr r hr'))
  have hc : Try.prog.cellsOf 49 = 9 := by kernel_rfl
  rw [hc]
  refine ⟨.node op a b c d e f v l, ?_, ?_⟩
  · simp only [IsE]
    exact ⟨_, rows, rfl, by simp [PV.rowsOf], hl⟩
  · simp only [Ex.size, List.cons_append, List.nil_append, List.append_nil, PV.wts, PV.wt]; omega
end Go.Proofs.Ytbmfegliomkkfaa
