/- Loops over lists, plain. -/
import Derived.Test.YthjahianafohjaaHTxd
set_option linter.unusedSimpArgs false
set_option linter.unusedVariables false
namespace Go.Sx
theorem loop_to {Φ : Fns} {S : Sys} {q N : Nat} (st : Nat → PEnv) (step : ∀ i, i < N → ∀ fuel, S.loop Φ (fuel + 1) q (st i) = S.loop Φ fuel q (st (i + 1))) :
    ∀ d i, i + d = N → ∀ fuel, S.loop Φ (fuel + d) q (st i) = S.loop Φ fuel q (st N) := by
  intro d
  induction d with
  | zero => intro i hi fuel; rw [Nat.add_zero] at hi; subst hi; rfl
  | succ d ih => intro i hi fuel; rw [show fuel + (d + 1) = (fuel + d) + 1 from rfl, step i (by omega)]; exact ih (i + 1) (by omega) fuel
/-- From the first round to the last, with fuel to spare. -/
theorem loop_all {Φ : Fns} {S : Sys} {q N : Nat} (st : Nat → PEnv) (step : ∀ i, i < N → ∀ fuel, S.loop Φ (fuel + 1) q (st i) = S.loop Φ fuel q (st (i + 1))) (fuel : Nat) (h : N ≤ fuel) :
    S.loop Φ fuel q (st 0) = S.loop Φ (fuel - N) q (st N) := by
  have := loop_to st step N 0 (by omega) (fuel - N)
  rwa [show fuel - N + N = fuel by omega] at this
/-- More fuel than it needs. -/
theorem Sys.loop_mono {Φ : Fns} {S : Sys} : ∀ {n m : Nat} {q : Nat} {ρ : PEnv} {r}, n ≤ m → S.loop Φ n q ρ = some r → S.loop Φ m q ρ = some r
  | 0, _, _, _, _, _, h => by simp [Sys.loop] at h
  | n + 1, 0, _, _, _, hm, _ => by omega
  | n + 1, m + 1, q, ρ, r, hm, h => by
    simp only [Sys.loop, Option.bind_eq_some_iff] at h ⊢
    obtain ⟨t, ht, x, hx, h⟩ := h
    refine ⟨t, ht, x, hx, ?_⟩
    cases x with
    | ret r σ => exact h
    | jump q ρ => exact Sys.loop_mono (by omega) h
theorem foldl_take {α β : Type} (f : β → α → β) (a : β) {l : List α} {i : Nat} {x : α} (h : l[i]? = some x) : (l.take (i + 1)).foldl f a = f ((l.take i).foldl f a) x := by
  rw [List.take_add_one, h]; simp
theorem take_all {α : Type} (l : List α) : l.take l.length = l := by simp
theorem nat_succ (i : Nat) : ((i + 1 : Nat) : Int) = (i : Int) + 1 := by omega
theorem sl_rows (n : Nat) (r : List (List PV)) : (PV.sl n r).rowsOf n = some r := by simp [PV.rowsOf]
theorem one_le : (1 : Nat) ≤ 1000000 := by decide
theorem le0 (i : Nat) : leB 0 (i : Int) = true := by simp [leB]
theorem in_idx {i n : Nat} (h : i < n) : (leB 0 (i : Int) && decide (i < n)) = true := by simp [leB, h]
theorem up_ok {i : Nat} (h : i ≤ 1000000000) : (leB (-9223372036854775808) ((i : Int) + 1) && leB ((i : Int) + 1) 9223372036854775807) = true := by simp [leB]; omega
theorem i64_ok {z : Int} (h : -9000000000000000000 ≤ z ∧ z ≤ 9000000000000000000) : (leB (-9223372036854775808) z && leB z 9223372036854775807) = true := by simp [leB]; omega
theorem get_ex {α : Type} {l : List α} {i : Nat} (h : i < l.length) : ∃ x, l[i]? = some x := ⟨_, List.getElem?_eq_getElem h⟩
end Go.Sx
