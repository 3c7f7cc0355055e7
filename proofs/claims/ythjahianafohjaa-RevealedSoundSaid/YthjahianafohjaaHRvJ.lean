/- revealed.cycle as a whole. -/
import Derived.Test.YthjahianafohjaaHRvI
set_option linter.unusedSimpArgs false
set_option linter.unusedVariables false
set_option maxRecDepth 100000
namespace Go.Proofs.Ythjahianafohjaa
open Go.Sx Go.Bf
theorem cycle_sem (σ : List MO) (hσ : Flat σ) (h : Nat) (fl : List Int) (T : Nat) (hm : σ[h]? = some (.cells (icell fl) T)) (hfl : fl.length ≤ 1000)
    {g : Nat → Nat → Int} {v : Nat → Int} {c t : Nat → Nat} {z : Nat} (hf : Go.Bf.Fin fl.length g v (at' fl) c t z) (n : Nat) (hnn : fl.length * 3 + 10 ≤ n) :
    ∃ j k, j < k ∧ k ≤ fl.length ∧ chain (at' fl) z k = chain (at' fl) z j ∧
      evalF Tab n n_revealed_cycle [.msl h 0 fl.length fl.length 1, .int .i64 (z : Int)] σ = some (.sl 1 (irows (ckeys (at' fl) z j (k - j)).reverse), σ) := by
  obtain ⟨n, rfl⟩ : ∃ k, n = k + 1 := ⟨n - 1, by omega⟩
  obtain ⟨j, k, _, hjk, hk, hn, he, h0⟩ := run0 σ n h fl T hm hf fl.length 0 (by omega) (Nat.zero_le _) (by simp)
  refine ⟨j, k, hjk, hk, he, ?_⟩
  have hl := ckeys_len (at' fl) z j (k - j)
  have h1 := fun fuel => run1 σ n h fl T hm hf j (k - j) hfl (by omega) (by rw [show j + (k - j) = k by omega]; exact hn) (k - j) 0 (by omega) fuel
  have h2 := fun fuel => run2 σ n (ckeys (at' fl) z j (k - j)) (by omega) (k - j) 0 (by omega) fuel
  have h3 := end2 σ n hσ (ckeys (at' fl) z j (k - j))
  have hc : ∀ fuel, revealed_cycle_S.loop (evalF Tab n) (fuel + 1) 1 (st1 σ h fl (backV σ (k - j)) (back fl (z := z) j (k - j)) (chain (at' fl) z (j + (k - j)))) = revealed_cycle_S.loop (evalF Tab n) fuel 2 (st2 σ (ckeys (at' fl) z j (k - j)) 0) := by
    intro fuel
    have hk0 : k - j ≠ 0 := by omega
    have hb3 : backV σ (k - j) = .rsl (σ.length + 1) (k - j) 1 := if_neg hk0
    have hb4 : back fl (z := z) j (k - j) = [.mp (ckeys (at' fl) z j (k - j)) (List.replicate (k - j) (.bool true)) .i64, .row (irows (ckeys (at' fl) z j (k - j))) 1 3] := by rw [back, if_neg hk0]
    have hlk := lookL_rep (ckeys (at' fl) z j (k - j)) (.bool true) (chain (at' fl) z k : Int)
    rw [hl, if_pos (mem_ckeys.2 ⟨0, by omega, by rw [he]; rfl⟩)] at hlk
    have hrep := icell_rep (k - j) 0
    have hle : (k - j : Nat) ≤ 1000000 := by omega
    rw [hb3, hb4, show j + (k - j) = k by omega, st1, st2, Sys.loop, show revealed_cycle_S.loops[1]? = some revealed_cycle_t1 from rfl, hl]
    generalize ckeys (at' fl) z j (k - j) = ks at *
    have e1 : List.replicate (k - j - 0) (0 : Int) ++ (ks.take 0).reverse = List.replicate (k - j) 0 := by simp
    have q1 : (0 ≤ ((k - j : Nat) : Int) ∧ ((k - j : Nat) : Int) ≤ 1000000 ∧ (8 : Nat) ≤ 100000000) := ⟨by omega, by omega, by omega⟩
    rw [e1]
    generalize k - j = L at *
    have hm2 : ∀ A B : MO, (σ ++ [A, B]).length = σ.length + 2 := fun A B => by simp
    have hm3 : ∀ A B C : MO, (σ ++ [A, B]) ++ [C] = σ ++ [A, B, C] := fun A B C => by simp
    simp -implicitDefEqProofs only [Option.bind_some, revealed_cycle_t1, ↓reduceIte, PT.ev, BE.safe, BE.pe, IE.pe, PEnv.at, List.getD_cons_zero, List.getD_cons_succ, List.getElem?_cons_zero, List.getElem?_cons_succ, locOf, locOn, readLoc, takeN, Nat.add_zero, List.drop_zero, List.length_cons, List.length_nil, Nat.reduceAdd, Nat.le_refl, if_true, if_false, Bool.false_eq_true, List.take_succ_cons, List.take_zero, bindK, bindRes, bind1, Option.map_some, Option.bind_some, PEnv.push, List.cons_append, List.nil_append, List.append_nil, SV.pvs, SV.pv, BE.all, Bool.and_self, Bool.not_true, Bool.not_false, List.map_cons, List.map_nil, get_0, set_0, hlk, Option.getD_some, PV.isKind, PV.len, Int.toNat_natCast, if_pos q1, hrep, hm2, hm3]
    rfl
  have e0 : st0 σ h fl (z := z) 0 = { i := [(z : Int)], b := [], v := [.msl h 0 fl.length fl.length 1, .mp σ.length], m := σ ++ [.mp [] [] .i64], k := σ.length } := rfl
  have e1 : st1 σ h fl .nilS [.mp [] [] .i64] (chain (at' fl) z j) = st1 σ h fl (backV σ 0) (back fl (z := z) j 0) (chain (at' fl) z (j + 0)) := rfl
  have tot : revealed_cycle_S.loop (evalF Tab n) n 0 (st0 σ h fl (z := z) 0) = some (.sl 1 (irows (ckeys (at' fl) z j (k - j)).reverse), σ) := by
    have hfu : n = (((((n - k - (k - j) - (k - j) - 3) + 1) + (k - j)) + 1) + (k - j)) + (k - 0) + 1 := by omega
    rw [hl] at h3
    generalize n - k - (k - j) - (k - j) - 3 = fu at *
    have hx := h0 (((((fu) + 1) + (k - j)) + 1) + (k - j))
    rw [← hfu] at hx
    rw [hx, e1, h1, hc, h2, hl]; exact h3 fu
  rw [e0] at tot
  simp only [evalF, tab_revealed_cycle, Option.bind_some, Sys.run]
  show ((bindPs [.sh (.one _), .sh (.one _)] _).bind _) = _
  simp -implicitDefEqProofs only [bindPs, bind1, bindK, Option.map_some, Option.bind_some, List.append_nil, List.nil_append, List.cons_append, if_true, PV.one]
  show (PT.ev _ revealed_cycle_s _).bind _ = _
  simp -implicitDefEqProofs only [revealed_cycle_s, ↓reduceIte, PT.ev, BE.safe, BE.pe, IE.pe, PEnv.at, List.getD_cons_zero, List.getD_cons_succ, List.getElem?_cons_zero, List.getElem?_cons_succ, locOf, locOn, readLoc, takeN, Nat.add_zero, List.drop_zero, List.length_cons, List.length_nil, Nat.reduceAdd, Nat.le_refl, if_true, if_false, Bool.false_eq_true, List.take_succ_cons, List.take_zero, bindK, bindRes, bind1, Option.map_some, Option.bind_some, PEnv.push, List.cons_append, List.nil_append, List.append_nil, SV.pvs, SV.pv, BE.all, Bool.and_self, Bool.not_true, Bool.not_false, List.map_cons, List.map_nil]
  exact tot
end Go.Proofs.Ythjahianafohjaa
