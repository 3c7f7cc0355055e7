/- The empty demand. -/
import Derived.Test.YthjahianafohjaaHAcM
set_option linter.unusedSimpArgs false
set_option linter.unusedVariables false
set_option maxRecDepth 100000
namespace Go.Proofs.Ythjahianafohjaa
open Go.ChangeShapes Go.WideShapes Go.ChangeAt Go.RowKit Go.Sx
theorem w0_ok : w0.ok := by simp [w0, W6.ok]
theorem ptS_w0 (f : Pr → Int) (l : List Pr) : ∀ i, ptS f l w0 i = 0
  | 0 => rfl
  | i + 1 => by
    have : wlAt w0 i = 0 := by unfold wlAt wl w0; rcases i with _ | _ | _ | _ | _ | _ | i <;> simp
    simp [ptS, ptS_w0 f l i, this]
theorem ptsV_w0 (l : List Pr) : ptsV l w0 = 0 := by unfold ptsV; rw [ptS_w0]; split <;> (try split) <;> rfl
theorem ptsV_nonneg (l : List Pr) (w : W6) : 0 ≤ ptsV l w := by
  unfold ptsV
  split
  · split
    · rename_i h1 h2
      obtain ⟨_, hr⟩ := pchk_zero (eqB_true.1 h1)
      have hw : w.ok := by
        unfold bchk at h2
        by_cases hw : w.ok
        · exact hw
        · rw [if_neg hw] at h2; cases h2
      exact (ptS_bd (f := Pr.p) (b := 1000) hw (by omega) (fun y hy => by have := hr y hy; simp only [Pr.rng] at this; omega) _).1
    · omega
  · omega
theorem eligF_nonneg (ps : List Pr) : ∀ (l : List Ch) (a : Int), 0 ≤ a → 0 ≤ eligF ps l a
  | [], a, h => h
  | x :: l, a, h => eligF_nonneg ps l (mnI a (ptsV ps x.w)) (by have := ptsV_nonneg ps x.w; unfold mnI; split <;> omega)
theorem empty_w0 : emptyB w0 = true := rfl
/-- The empty demand fits always. -/
theorem leaves_pts {s : St} {k : Nat} {b : Bd} (hb : s.bs[k]? = some b) (hp : 0 ≤ b.p) (l : List Ch) (p : W6) (ag : Bool) : accV s 1 (k : Int) l ⟨p, w0⟩ ag = 0 := by
  have hk := (List.getElem?_eq_some_iff.1 hb).1
  have hh : hasB s (k : Int) = true := by simp only [hasB, Bool.and_eq_true, leB_true, ltB_true]; omega
  have hf : fitB s (k : Int) l ⟨p, w0⟩ = true := by
    unfold fitB eligV
    rw [if_pos hh, leB_true, Int.toNat_natCast, hb]
    show ptsV s.ps w0 ≤ eligF s.ps l b.p
    rw [ptsV_w0]
    exact eligF_nonneg _ _ _ hp
  unfold accV
  rw [hh, hf, show eqB (bchk (⟨p, w0⟩ : Ch).w) 0 = true from rfl, show emptyB (⟨p, w0⟩ : Ch).w = true from rfl]
  cases exitB l <;> rfl
theorem leaves_pref {s : St} {k : Nat} {b : Bd} (hb : s.bs[k]? = some b) (l : List Ch) (p : W6) : accV s 2 (k : Int) l ⟨p, w0⟩ true = 0 := by
  have hk := (List.getElem?_eq_some_iff.1 hb).1
  have hh : hasB s (k : Int) = true := by simp only [hasB, Bool.and_eq_true, leB_true, ltB_true]; omega
  unfold accV
  rw [hh, show eqB (bchk (⟨p, w0⟩ : Ch).w) 0 = true from rfl, show emptyB (⟨p, w0⟩ : Ch).w = true from rfl]
  cases exitB l <;> rfl
/-- No price was higher before. -/
def W6.leP (a b : W6) : Prop := a.a ≤ b.a ∧ a.b ≤ b.b ∧ a.c ≤ b.c ∧ a.d ≤ b.d ∧ a.e ≤ b.e ∧ a.f ≤ b.f
theorem cost_mono {a b w : W6} (h : a.leP b) (hw : w.ok) : costW a w ≤ costW b w := by
  obtain ⟨h1, h2, h3, h4, h5, h6⟩ := h
  simp only [W6.ok] at hw
  have m : ∀ {x y z : Int}, x ≤ y → 0 ≤ z → x * z ≤ y * z := fun h g => Int.mul_le_mul_of_nonneg_right h g
  have := m h1 hw.1
  have := m h2 hw.2.2.1
  have := m h3 hw.2.2.2.2.1
  have := m h4 hw.2.2.2.2.2.2.1
  have := m h5 hw.2.2.2.2.2.2.2.2.1
  have := m h6 hw.2.2.2.2.2.2.2.2.2.2.1
  simp only [costW]; omega
/-- An empty demand at higher prices stays consistent. -/
theorem pot_leave {l : List Ch} (hok : ∀ x ∈ l, x.ok) (h : Pot l) {p : W6} (hp : ∀ x ∈ l, x.p.leP p) : Pot (l ++ [⟨p, w0⟩]) := by
  obtain ⟨π, hπ⟩ := h
  have g : ∀ x y, x < l.length → y < l.length → π y ≤ π x + (costW (chx l x).p (chx l y).w - costW (chx l x).p (chx l x).w) := by
    intro x y hx hy
    have := hπ x y hx hy
    unfold gN gainC at this
    rwa [chAt_chx hx, chAt_chx hy] at this
  have mem : ∀ {x}, x < l.length → chx l x ∈ l := fun {x} hx => List.mem_of_getElem? (chx_mem hx)
  have base : ∃ v : Int, (∀ x, x < l.length → v ≤ π x - costW (chx l x).p (chx l x).w) ∧ (∀ y, y < l.length → π y ≤ v + costW p (chx l y).w) := by
    by_cases hne : l.length = 0
    · exact ⟨0, fun x hx => by omega, fun x hx => by omega⟩
    · have least : ∀ N, N ≤ l.length → 0 < N → ∃ x, x < N ∧ ∀ y, y < N → π x - costW (chx l x).p (chx l x).w ≤ π y - costW (chx l y).p (chx l y).w := by
        intro N
        induction N with
        | zero => intro _ h; omega
        | succ N ih =>
          intro hN _
          by_cases h0 : N = 0
          · subst h0
            exact ⟨0, by omega, fun y hy => by obtain rfl : y = 0 := by omega
                                               exact Int.le_refl _⟩
          · obtain ⟨x, hx, hm⟩ := ih (by omega) (by omega)
            by_cases hc : π x - costW (chx l x).p (chx l x).w ≤ π N - costW (chx l N).p (chx l N).w
            · refine ⟨x, by omega, fun y hy => ?_⟩
              by_cases hyN : y = N
              · subst hyN; exact hc
              · exact hm y (by omega)
            · refine ⟨N, by omega, fun y hy => ?_⟩
              by_cases hyN : y = N
              · subst hyN; exact Int.le_refl _
              · have := hm y (by omega); omega
      obtain ⟨x, hx, hm⟩ := least l.length (Nat.le_refl _) (by omega)
      refine ⟨π x - costW (chx l x).p (chx l x).w, hm, fun y hy => ?_⟩
      have h1 := g x y hx hy
      have h2 := cost_mono (hp _ (mem hx)) (hok _ (mem hy)).2
      omega
  obtain ⟨v, b1, b2⟩ := base
  refine ⟨fun x => if x < l.length then π x else v, fun x y hx hy => ?_⟩
  rw [List.length_append, List.length_singleton] at hx hy
  have ca : ∀ z, z < l.length → chAt (l ++ [⟨p, w0⟩]) (z : Int) = chx l z := fun z hz => by
    unfold chAt
    rw [Int.toNat_natCast, List.getElem?_append_left hz, chx_mem hz]; rfl
  have cb : chAt (l ++ [⟨p, w0⟩]) (l.length : Int) = ⟨p, w0⟩ := by
    unfold chAt
    rw [Int.toNat_natCast]; simp
  unfold gN gainC
  show (if y < l.length then π y else v) ≤ (if x < l.length then π x else v) + _
  by_cases hxl : x < l.length
  · by_cases hyl : y < l.length
    · rw [if_pos hxl, if_pos hyl, ca x hxl, ca y hyl]; exact g x y hxl hyl
    · obtain rfl : y = l.length := by omega
      rw [if_pos hxl, if_neg hyl, ca x hxl, cb]
      have := b1 x hxl
      rw [cost_w0]; omega
  · obtain rfl : x = l.length := by omega
    by_cases hyl : y < l.length
    · rw [if_neg hxl, if_pos hyl, ca y hyl, cb]
      have := b2 y hyl
      show π y ≤ v + (costW p (chx l y).w - costW p w0)
      rw [cost_w0]; omega
    · obtain rfl : y = l.length := by omega
      rw [if_neg hxl, cb]; omega
end Go.Proofs.Ythjahianafohjaa
