/- Consistent: values exceed no gain; what Check says, and what proofs say. -/
import Derived.Test.YthjahianafohjaaHRvP
set_option linter.unusedSimpArgs false
set_option linter.unusedVariables false
set_option maxRecDepth 100000
namespace Go.Proofs.Ythjahianafohjaa
open Go.Sx Go.Bf
def Pot (l : List Ch) : Prop := ∃ π : Nat → Int, ∀ x y, x < l.length → y < l.length → π y ≤ π x + gN l x y
theorem check_is (σ : List MO) (hσ : Flat σ) (l : List Ch) (P : PV) (hP : P.rowsOf 12 = some (l.map Ch.row)) (hl : l.length ≤ 30) (n : Nat) (hn : 30000 ≤ n) :
    ∃ w1 w2 b, evalF Tab n n_revealed_Check [P] σ = some (.tup [.agg [w1, w2], .bool b], σ) ∧ w1.one = true ∧ w2.one = true ∧ (b = true ↔ (∀ x ∈ l, x.ok) ∧ Pot l) := by
  obtain ⟨p, hp, he⟩ := check_sem σ hσ l P hP hl n hn
  rcases hp with ⟨hno, rfl⟩ | ⟨hok, vs, _, hst, _, rfl⟩ | ⟨hok, vs, fs, c, t, z, j, k, hfin, _, _, _, rfl⟩
  · exact ⟨_, _, _, he, rfl, rfl, by simp [hno]⟩
  · refine ⟨_, _, _, he, rfl, rfl, ?_⟩
    exact ⟨fun _ => ⟨hok, at' vs, hst⟩, fun _ => rfl⟩
  · refine ⟨_, _, _, he, rfl, rfl, ?_⟩
    constructor
    · intro h; cases h
    · rintro ⟨_, π, hπ⟩
      exact (hfin.none π hπ).elim
theorem gN_at (l : List Ch) {x y : Int} (hx : 0 ≤ x) (hy : 0 ≤ y) : gN l x.toNat y.toNat = gainC (chAt l x) (chAt l y) := by
  unfold gN; rw [Int.toNat_of_nonneg hx, Int.toNat_of_nonneg hy]
/-- Around a cycle the gains make up for the values. -/
theorem cyc_pot {l : List Ch} {cyc : List Int} (hc : ∀ z ∈ cyc, cycOk l.length z = true) {π : Nat → Int} (hπ : ∀ x y, x < l.length → y < l.length → π y ≤ π x + gN l x y) :
    ∀ i, i ≤ cyc.length → π ((cyc[i % cyc.length]?).getD 0).toNat - π ((cyc[0]?).getD 0).toNat ≤ cycSum l cyc i
  | 0, _ => by simp [cycSum]
  | i + 1, h => by
    have ih := cyc_pot hc hπ i (by omega)
    rw [Nat.mod_eq_of_lt (by omega : i < cyc.length)] at ih
    have hj : (i + 1) % cyc.length < cyc.length := Nat.mod_lt _ (by omega)
    have m1 : cyc[i]? = some cyc[i] := List.getElem?_eq_getElem (by omega)
    have m2 : cyc[(i + 1) % cyc.length]? = some cyc[(i + 1) % cyc.length] := List.getElem?_eq_getElem hj
    have c1 := hc _ (List.mem_of_getElem? m1)
    have c2 := hc _ (List.mem_of_getElem? m2)
    simp only [cycOk, decide_eq_true_eq] at c1 c2
    have := hπ (cyc[i]).toNat (cyc[(i + 1) % cyc.length]).toNat (by omega) (by omega)
    rw [gN_at l c1.1 c2.1] at this
    simp only [cycSum, cycG, m1, m2, Option.getD_some] at ih ⊢
    omega
/-- A refuting cycle is not one of consistent choices. -/
theorem verd_cyc {l : List Ch} {cyc : List Int} (h0 : cyc.length ≠ 0) (hv : verd l cyc [] = 0) : ¬ Pot l := by
  rintro ⟨π, hπ⟩
  unfold verd at hv
  split at hv
  · split at hv
    · rename_i _ hf
      split at hv
      · cases hv
      · rename_i hs
        simp only [formV, Bool.and_eq_true] at hf
        have := cyc_pot (List.all_eq_true.1 hf.1.2) hπ cyc.length (Nat.le_refl _)
        rw [Nat.mod_self] at this
        omega
    · cases hv
  · cases hv
/-- Values that explain are such. -/
theorem verd_vals {l : List Ch} {vals : List Int} (hv : verd l [] vals = 0) : (∀ x ∈ l, x.ok) ∧ Pot l := by
  unfold verd at hv
  split at hv
  · rename_i ha
    refine ⟨fun x hx => by simpa using (List.all_eq_true.1 ha) x hx, ?_⟩
    split at hv
    · rw [if_pos List.length_nil] at hv
      split at hv
      · rename_i he
        simp only [Bool.and_eq_true, decide_eq_true_eq, explP, List.all_eq_true] at he
        obtain ⟨hlen, he⟩ := he
        refine ⟨at' vals, fun x y hx hy => ?_⟩
        have zx := zip_at (chN hx) (at'_get (l := vals) (i := x) (by omega))
        have zy := zip_at (chN hy) (at'_get (l := vals) (i := y) (by omega))
        have := (innP_iff _ _).1 ((he _ (List.mem_of_getElem? zx)).2 _ (List.mem_of_getElem? zy))
        simp only at this
        unfold gN gainC
        omega
      · cases hv
    · cases hv
  · cases hv
end Go.Proofs.Ythjahianafohjaa
