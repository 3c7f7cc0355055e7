/- Lowering values: the rounds. -/
import Derived.Test.YthjahianafohjaaHRvK
set_option linter.unusedSimpArgs false
set_option linter.unusedVariables false
set_option maxRecDepth 100000
namespace Go.Proofs.Ythjahianafohjaa
open Go.Sx Go.Bf
structure LS (l : List Ch) (vs fs : List Int) (ch : Int) (T R a b : Nat) : Prop where
  hv : vs.length = l.length
  hf : fs.length = l.length
  inv : ∃ c t, Inv l.length (gN l) (at' vs) (at' fs) c t T R a b ∧ ((ch = -1 ∧ ∀ x, x < l.length → c x ≠ R) ∨ ∃ z : Nat, z < l.length ∧ ch = (z : Int) ∧ c z = R)
theorem at'_upd {l : List Int} {b : Nat} (x : Int) (h : b < l.length) : at' (l.set b x) = upd (at' l) b x := by
  funext i; rw [at'_set x h]; rfl
theorem gN_self (l : List Ch) (x : Nat) : gN l x x = 0 := by unfold gN gainC; omega
theorem gN_bd {l : List Ch} (hok : ∀ x ∈ l, x.ok) {x y : Nat} (hx : x < l.length) (hy : y < l.length) : -24000000 ≤ gN l x y ∧ gN l x y ≤ 24000000 :=
  gain_bd (hok _ (List.mem_of_getElem? (chN hx))) (hok _ (List.mem_of_getElem? (chN hy)))
section
variable (σ : List MO) (l : List Ch) (P : PV) (hP : P.rowsOf 12 = some (l.map Ch.row)) (hok : ∀ x ∈ l, x.ok) (hl : l.length ≤ 30) (n : Nat) (hn : 2 ≤ n)
include hP hok hl hn in
theorem pair (r : Int) (vs fs : List Int) (ch : Int) (T R a b : Nat) (h : LS l vs fs ch T R a b) (hR : 1 ≤ R) (hT : T + 1 ≤ 27000) (ha : a < l.length) (hb : b < l.length) :
    ∃ vs' fs' ch', LS l vs' fs' ch' (T + 1) R a (b + 1) ∧ ∀ fuel, revealed_lowered_S.loop (evalF Tab n) (fuel + 1) 3 (lst σ P l.length vs fs [ch, (a : Int), (l.length : Int), r, (l.length : Int), (l.length : Int), (b : Int)]) =
      revealed_lowered_S.loop (evalF Tab n) fuel 3 (lst σ P l.length vs' fs' [ch', (a : Int), (l.length : Int), r, (l.length : Int), (l.length : Int), ((b + 1 : Nat) : Int)]) := by
  obtain ⟨hv, hf, c, t, hi, hch⟩ := h
  have hlow := hi.low a ha
  have step := fun fuel => low3 σ l P hP hok (by omega) n hn vs fs hv hf ch r a b fuel ha hb (by omega)
  by_cases hlt : at' vs a + gN l a b < at' vs b
  · simp only [if_pos hlt] at step
    refine ⟨_, _, _, ⟨by simp [hv], by simp [hf], upd c b R, upd t b (T + 1), ?_, .inr ⟨b, hb, rfl, upd_eq _ _ _⟩⟩, step⟩
    rw [at'_upd _ (by omega), at'_upd _ (by omega)]
    exact hi.lower ha hb hR (gN_bd hok ha hb).1 (gN_self l a) hlt
  · simp only [if_neg hlt] at step
    exact ⟨vs, fs, ch, ⟨hv, hf, c, t, hi.keep (by omega), hch⟩, step⟩
include hP hok hl hn in
theorem row3 (r : Int) (R a : Nat) (hR : 1 ≤ R) (ha : a < l.length) : ∀ d b vs fs ch T, b + d = l.length → LS l vs fs ch T R a b → T + d ≤ 27000 →
    ∃ vs' fs' ch', LS l vs' fs' ch' (T + d) R (a + 1) 0 ∧ ∀ fuel, revealed_lowered_S.loop (evalF Tab n) (fuel + d + 1) 3 (lst σ P l.length vs fs [ch, (a : Int), (l.length : Int), r, (l.length : Int), (l.length : Int), (b : Int)]) =
      revealed_lowered_S.loop (evalF Tab n) fuel 2 (lst σ P l.length vs' fs' [ch', (l.length : Int), r, (l.length : Int), ((a + 1 : Nat) : Int)]) := by
  intro d
  induction d with
  | zero =>
    intro b vs fs ch T hb h hT
    obtain rfl : b = l.length := by omega
    obtain ⟨hv, hf, c, t, hi, hch⟩ := h
    refine ⟨vs, fs, ch, ⟨hv, hf, c, t, hi.row, hch⟩, fun fuel => ?_⟩
    have hd : decide (l.length < l.length) = false := by simp
    have q4 : (leB (-9223372036854775808) ((a : Int) + 1) && leB ((a : Int) + 1) 9223372036854775807) = true := by simp [leB]; omega
    rw [Nat.add_zero, Sys.loop, show revealed_lowered_S.loops[3]? = some revealed_lowered_t3 from rfl]
    simp -implicitDefEqProofs only [Option.bind_some, revealed_lowered_t3, ↓reduceIte, evb_ret, evb_ite, evb_need, evb_load, evb_app, evb_cut, evb_call, evb_callv, evb_newM, evb_mkM, evb_storeM, evb_appM, evb_mkMap, evb_mapGet, evb_mapSet, evb_mapClr, evb_jump, BE.safe, BE.pe, IE.pe, PEnv.at, List.getD_cons_zero, List.getD_cons_succ, List.getElem?_cons_zero, List.getElem?_cons_succ, locOf, locOn, readLoc, takeN, Nat.add_zero, List.drop_zero, List.length_cons, List.length_nil, Nat.reduceAdd, Nat.le_refl, if_true, if_false, Bool.false_eq_true, List.take_succ_cons, List.take_zero, bindK, bindRes, bind1, Option.map_some, Option.bind_some, PEnv.push, List.cons_append, List.nil_append, List.append_nil, SV.pvs, SV.pv, BE.all, Bool.and_self, Bool.not_true, Bool.not_false, List.map_cons, List.map_nil, lst, ltB_nat, hd, if_pos q4, show ((a + 1 : Nat) : Int) = (a : Int) + 1 from by omega]
  | succ d ih =>
    intro b vs fs ch T hb h hT
    obtain ⟨vs1, fs1, ch1, h1, s1⟩ := pair σ l P hP hok hl n hn r vs fs ch T R a b h hR (by omega) ha (by omega)
    obtain ⟨vs2, fs2, ch2, h2, s2⟩ := ih (b + 1) vs1 fs1 ch1 (T + 1) (by omega) h1 (by omega)
    refine ⟨vs2, fs2, ch2, by rw [show T + (d + 1) = T + 1 + d by omega]; exact h2, fun fuel => ?_⟩
    rw [show fuel + (d + 1) + 1 = (fuel + d + 1) + 1 by omega, s1, s2]
include hP hok hl hn in
theorem rows2 (r : Int) (R : Nat) (hR : 1 ≤ R) : ∀ d a vs fs ch T, a + d = l.length → LS l vs fs ch T R a 0 → T + d * l.length ≤ 27000 →
    ∃ vs' fs' ch', LS l vs' fs' ch' (T + d * l.length) R l.length 0 ∧ ∀ fuel, revealed_lowered_S.loop (evalF Tab n) (fuel + d * (l.length + 2)) 2 (lst σ P l.length vs fs [ch, (l.length : Int), r, (l.length : Int), (a : Int)]) =
      revealed_lowered_S.loop (evalF Tab n) fuel 2 (lst σ P l.length vs' fs' [ch', (l.length : Int), r, (l.length : Int), (l.length : Int)]) := by
  intro d
  obtain ⟨p1, p2, p3⟩ := rows_len hP
  rw [List.length_map] at p1
  induction d with
  | zero =>
    intro a vs fs ch T ha h hT
    obtain rfl : a = l.length := by omega
    refine ⟨vs, fs, ch, by rw [Nat.zero_mul, Nat.add_zero]; exact h, fun fuel => ?_⟩
    rw [Nat.zero_mul, Nat.add_zero]
  | succ d ih =>
    intro a vs fs ch T ha h hT
    have e1 : (d + 1) * l.length = d * l.length + l.length := Nat.succ_mul _ _
    have e2 : (d + 1) * (l.length + 2) = d * (l.length + 2) + (l.length + 2) := Nat.succ_mul _ _
    obtain ⟨vs1, fs1, ch1, h1, s1⟩ := row3 σ l P hP hok hl n hn r R a hR (by omega) l.length 0 vs fs ch T (by omega) h (by omega)
    obtain ⟨vs2, fs2, ch2, h2, s2⟩ := ih (a + 1) vs1 fs1 ch1 (T + l.length) (by omega) h1 (by omega)
    refine ⟨vs2, fs2, ch2, by rw [e1, show T + (d * l.length + l.length) = T + l.length + d * l.length by omega]; exact h2, fun fuel => ?_⟩
    rw [e2, show fuel + (d * (l.length + 2) + (l.length + 2)) = ((fuel + d * (l.length + 2)) + l.length + 1) + 1 by omega, ← s2, ← s1]
    have hd : decide (a < l.length) = true := decide_eq_true (by omega)
    rw [Sys.loop, show revealed_lowered_S.loops[2]? = some revealed_lowered_t2 from rfl]
    simp -implicitDefEqProofs only [Option.bind_some, revealed_lowered_t2, ↓reduceIte, evb_ret, evb_ite, evb_need, evb_load, evb_app, evb_cut, evb_call, evb_callv, evb_newM, evb_mkM, evb_storeM, evb_appM, evb_mkMap, evb_mapGet, evb_mapSet, evb_mapClr, evb_jump, BE.safe, BE.pe, IE.pe, PEnv.at, List.getD_cons_zero, List.getD_cons_succ, List.getElem?_cons_zero, List.getElem?_cons_succ, locOf, locOn, readLoc, takeN, Nat.add_zero, List.drop_zero, List.length_cons, List.length_nil, Nat.reduceAdd, Nat.le_refl, if_true, if_false, Bool.false_eq_true, List.take_succ_cons, List.take_zero, bindK, bindRes, bind1, Option.map_some, Option.bind_some, PEnv.push, List.cons_append, List.nil_append, List.append_nil, SV.pvs, SV.pv, BE.all, Bool.and_self, Bool.not_true, Bool.not_false, List.map_cons, List.map_nil, lst, ltB_nat, hd, p1, p2]
    rfl
end
end Go.Proofs.Ythjahianafohjaa
