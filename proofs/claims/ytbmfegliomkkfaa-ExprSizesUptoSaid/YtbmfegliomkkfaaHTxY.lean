/- TX: steps in plain values. -/
import Derived.Test.YtbmfegliomkkfaaHTxX
set_option linter.unusedSimpArgs false
set_option linter.unusedVariables false
namespace Go.Sx
/-- What a slice of elements reads as. -/
theorem rows_len {x : PV} {rows : List (List PV)} {n : Nat} (h : x.rowsOf n = some rows) : x.len = rows.length ∧ x.isKind 0 = true ∧ x.one = true := by
  cases x <;> simp only [PV.rowsOf, reduceCtorEq, Option.some.injEq] at h
  · subst h; exact ⟨rfl, rfl, rfl⟩
  · split at h
    · simp only [Option.some.injEq] at h; subst h; exact ⟨rfl, rfl, rfl⟩
    · cases h
theorem rows_get {x : PV} {rows : List (List PV)} {n off : Nat} (h : x.rowsOf n = some rows) {i : Nat} {r : List PV} (hr : rows[i]? = some r) : locEl (i : Int) n off x = some (.row r off) := by
  cases x <;> simp only [PV.rowsOf, reduceCtorEq, Option.some.injEq] at h
  · subst h; simp at hr
  · split at h
    · rename_i hn
      simp only [Option.some.injEq] at h; subst h
      simp [locEl, hn, hr]
    · cases h
theorem ltB_nat (a b : Nat) : ltB (a : Int) (b : Int) = decide (a < b) := by simp [ltB]
theorem drop_cons {α : Type} {l : List α} {i : Nat} {x : α} (h : l[i]? = some x) : l.drop i = x :: l.drop (i + 1) := by
  rw [List.drop_eq_getElem?_toList_append (i := i), h]; rfl
end Go.Sx
