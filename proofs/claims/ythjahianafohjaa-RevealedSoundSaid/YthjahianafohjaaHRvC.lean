/- What comes in: choices. -/
import Derived.Test.YthjahianafohjaaHRvB
set_option linter.unusedSimpArgs false
set_option linter.unusedVariables false
set_option maxRecDepth 100000
namespace Go.Proofs.Ythjahianafohjaa
open Go.Sx
theorem shaped_w6 {t i : Nat} (hu : Try.prog.underlying t = some (.array 6 i)) (hi : Try.prog.underlying i = some (.int .i64)) {n : Nat} {ps : List PV} (h : Shaped Try.prog n t ps) : ∃ w : W6, ps = w.pv := by
  obtain ⟨m, _, h⟩ := shaped_array hu h
  simp only [List.replicate, Shapeds] at h
  obtain ⟨_, _, rfl, h1, _, _, rfl, h2, _, _, rfl, h3, _, _, rfl, h4, _, _, rfl, h5, _, _, rfl, h6, rfl⟩ := h
  obtain ⟨a, rfl, _⟩ := shaped_int hi h1
  obtain ⟨b, rfl, _⟩ := shaped_int hi h2
  obtain ⟨c, rfl, _⟩ := shaped_int hi h3
  obtain ⟨d, rfl, _⟩ := shaped_int hi h4
  obtain ⟨e, rfl, _⟩ := shaped_int hi h5
  obtain ⟨f, rfl, _⟩ := shaped_int hi h6
  exact ⟨⟨a, b, c, d, e, f⟩, rfl⟩
theorem shaped_Ch {n : Nat} {ps : List PV} (h : Shaped Try.prog n 44 ps) : ∃ x : Ch, ps = x.row := by
  obtain ⟨m, _, h⟩ := shaped_struct Try.underlying44 h
  simp only [List.map_cons, List.map_nil, Shapeds] at h
  obtain ⟨_, _, rfl, h1, _, _, rfl, h2, rfl⟩ := h
  obtain ⟨p, rfl⟩ := shaped_w6 Try.underlying40 (by kernel_rfl) h1
  obtain ⟨w, rfl⟩ := shaped_w6 Try.underlying42 (by kernel_rfl) h2
  exact ⟨⟨p, w⟩, by simp [Ch.row]⟩
/-- The rows of a list of choices. -/
theorem shaped_Chs {n : Nat} : ∀ (rows : List (List PV)), (∀ r ∈ rows, Shaped Try.prog n 44 r) → ∃ l : List Ch, rows = l.map Ch.row
  | [], _ => ⟨[], rfl⟩
  | r :: rows, h => by
    obtain ⟨x, rfl⟩ := shaped_Ch (h r (by simp))
    obtain ⟨l, rfl⟩ := shaped_Chs rows (fun q hq => h q (by simp [hq]))
    exact ⟨x :: l, rfl⟩
/-- Lists of numbers. -/
def ints (l : List Int) : List (List PV) := l.map fun z => [.int .i64 z]
theorem shaped_ints {n t : Nat} (hi : Try.prog.underlying t = some (.int .i64)) : ∀ (rows : List (List PV)), (∀ r ∈ rows, Shaped Try.prog n t r) → ∃ l : List Int, rows = ints l ∧ ∀ z ∈ l, -9223372036854775808 ≤ z ∧ z ≤ 9223372036854775807
  | [], _ => ⟨[], rfl, by simp⟩
  | r :: rows, h => by
    obtain ⟨z, rfl, h1, h2⟩ := shaped_int hi (h r (by simp))
    obtain ⟨l, rfl, hl⟩ := shaped_ints hi rows (fun q hq => h q (by simp [hq]))
    refine ⟨z :: l, rfl, fun y hy => ?_⟩
    rcases List.mem_cons.1 hy with rfl | hy
    · simpa [loI, hiI, IntKind.signed, IntKind.bits] using And.intro h1 h2
    · exact hl y hy
end Go.Proofs.Ythjahianafohjaa
