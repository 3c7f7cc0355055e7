/- The verdict on a proof, as the program and as the reference reckon it. -/
import Derived.Test.YthjahianafohjaaHRvF
set_option linter.unusedSimpArgs false
set_option linter.unusedVariables false
set_option maxRecDepth 100000
namespace Go.Proofs.Ythjahianafohjaa
open Go.Sx
def ch0 : Ch := ⟨⟨0, 0, 0, 0, 0, 0⟩, ⟨0, 0, 0, 0, 0, 0⟩⟩
def chAt (l : List Ch) (z : Int) : Ch := (l[z.toNat]?).getD ch0
def cycG (l : List Ch) (cyc : List Int) (i : Nat) : Int := gainC (chAt l ((cyc[i]?).getD 0)) (chAt l ((cyc[(i + 1) % cyc.length]?).getD 0))
def cycSum (l : List Ch) (cyc : List Int) : Nat → Int
  | 0 => 0
  | i + 1 => cycSum l cyc i + cycG l cyc i
def verd (l : List Ch) (cyc vals : List Int) : Int :=
  if (l.all fun x => decide x.ok) = true then
    if formV l.length cyc vals = true then
      if cyc.length = 0 then (if (decide (vals.length = l.length) && explP (l.zip vals)) = true then 0 else 13)
      else (if 0 ≤ cycSum l cyc cyc.length then 13 else 0)
    else 2
  else 4
theorem chAt_of {l : List Ch} {z : Int} {x : Ch} (h : l[z.toNat]? = some x) : chAt l z = x := by simp [chAt, h]
theorem chAt_get {l : List Ch} {z : Int} (h : cycOk l.length z = true) : ∃ k : Nat, z = (k : Int) ∧ k < l.length ∧ l[k]? = some (chAt l z) := by
  simp only [cycOk, decide_eq_true_eq] at h
  obtain ⟨k, rfl⟩ : ∃ k : Nat, z = (k : Int) := ⟨z.toNat, by omega⟩
  refine ⟨k, rfl, by omega, ?_⟩
  have hk : k < l.length := by omega
  simp [chAt, List.getElem?_eq_getElem hk]
theorem cyc_bd {l : List Ch} (hok : ∀ x ∈ l, x.ok) {cyc : List Int} (hc : ∀ z ∈ cyc, cycOk l.length z = true) : ∀ i, i ≤ cyc.length → -24000000 * (i : Int) ≤ cycSum l cyc i ∧ cycSum l cyc i ≤ 24000000 * (i : Int)
  | 0, _ => by simp [cycSum]
  | i + 1, h => by
    have ih := cyc_bd hok hc i (by omega)
    have hi : i < cyc.length := by omega
    have hj : (i + 1) % cyc.length < cyc.length := Nat.mod_lt _ (by omega)
    have m1 : cyc[i]? = some cyc[i] := List.getElem?_eq_getElem hi
    have m2 : cyc[(i + 1) % cyc.length]? = some cyc[(i + 1) % cyc.length] := List.getElem?_eq_getElem hj
    obtain ⟨k1, _, _, e1⟩ := chAt_get (hc _ (List.mem_of_getElem? m1))
    obtain ⟨k2, _, _, e2⟩ := chAt_get (hc _ (List.mem_of_getElem? m2))
    have := gain_bd (hok _ (List.mem_of_getElem? e1)) (hok _ (List.mem_of_getElem? e2))
    simp only [cycSum, cycG, m1, m2, Option.getD_some]
    omega
theorem tmod_nat (i m : Nat) : Int.tmod ((i : Int) + 1) (m : Int) = (((i + 1) % m : Nat) : Int) := by
  rw [show (i : Int) + 1 = ((i + 1 : Nat) : Int) from by omega]; exact (Int.ofNat_tmod _ _).symm
theorem verify_sem (σ : List MO) (l : List Ch) (P : PV) (hP : P.rowsOf 12 = some (l.map Ch.row)) (cyc vals : List Int) (C V : PV) (hC : C.rowsOf 1 = some (ints cyc)) (hV : V.rowsOf 1 = some (ints vals)) (hl : l.length ≤ 14) (n : Nat) (hn : cyc.length + vals.length + 420 ≤ n) (hc : cyc.length ≤ 1000000) (hv : vals.length ≤ 1000000) :
    evalF Tab n n_revealed_Verify [P, .agg [C, V]] σ = some (.int .i64 (verd l cyc vals), σ) := by
  obtain ⟨n, rfl⟩ : ∃ k, n = k + 1 := ⟨n - 1, by omega⟩
  obtain ⟨p1, p2, p3⟩ := rows_len hP
  obtain ⟨r1, r2, r3⟩ := rows_len hC
  obtain ⟨s1, s2, s3⟩ := rows_len hV
  rw [List.length_map] at p1
  rw [ints_len] at r1 s1
  have c1 := all_sem σ l P hP n (by omega) (by omega)
  have c2 := formed_sem σ l P hP cyc vals C V hC hV n (by omega) (by omega) (by omega)
  simp only [n_revealed_allValid, n_revealed_formed] at c1 c2
  simp only [evalF, tab_revealed_Verify, Option.bind_some, Sys.run]
  show ((bindPs [.sh (.one _), .sh (.agg [_, _])] _).bind _) = _
  simp -implicitDefEqProofs only [bindPs, bind1, bindK, Option.map_some, Option.bind_some, List.append_nil, List.nil_append, List.cons_append, if_true, p3, r3, s3]
  show (PT.ev _ revealed_Verify_s _).bind _ = _
  simp -implicitDefEqProofs only [revealed_Verify_s, ↓reduceIte, PT.ev, BE.safe, BE.pe, IE.pe, PEnv.at, List.getD_cons_zero, List.getD_cons_succ, List.getElem?_cons_zero, List.getElem?_cons_succ, locOf, locOn, readLoc, takeN, Nat.add_zero, List.drop_zero, List.length_cons, List.length_nil, Nat.reduceAdd, Nat.le_refl, if_true, if_false, Bool.false_eq_true, List.take_succ_cons, List.take_zero, bindK, bindRes, bind1, Option.map_some, Option.bind_some, PEnv.push, List.cons_append, List.nil_append, List.append_nil, SV.pvs, SV.pv, BE.all, Bool.and_self, Bool.not_true, Bool.not_false, List.map_cons, List.map_nil, c1]
  by_cases ha : (l.all fun x => decide x.ok) = true
  case neg =>
    rw [Bool.not_eq_true] at ha
    have hd : verd l cyc vals = 4 := by unfold verd; rw [ha]; rfl
    rw [ha, hd]
    simp -implicitDefEqProofs only [↓reduceIte, PT.ev, BE.safe, BE.pe, IE.pe, PEnv.at, List.getD_cons_zero, List.getD_cons_succ, List.getElem?_cons_zero, List.getElem?_cons_succ, locOf, locOn, readLoc, takeN, Nat.add_zero, List.drop_zero, List.length_cons, List.length_nil, Nat.reduceAdd, Nat.le_refl, if_true, if_false, Bool.false_eq_true, List.take_succ_cons, List.take_zero, bindK, bindRes, bind1, Option.map_some, Option.bind_some, PEnv.push, List.cons_append, List.nil_append, List.append_nil, SV.pvs, SV.pv, BE.all, Bool.and_self, Bool.not_true, Bool.not_false, List.map_cons, List.map_nil, retP, or_true]
  rw [ha]
  simp -implicitDefEqProofs only [↓reduceIte, PT.ev, BE.safe, BE.pe, IE.pe, PEnv.at, List.getD_cons_zero, List.getD_cons_succ, List.getElem?_cons_zero, List.getElem?_cons_succ, locOf, locOn, readLoc, takeN, Nat.add_zero, List.drop_zero, List.length_cons, List.length_nil, Nat.reduceAdd, Nat.le_refl, if_true, if_false, Bool.false_eq_true, List.take_succ_cons, List.take_zero, bindK, bindRes, bind1, Option.map_some, Option.bind_some, PEnv.push, List.cons_append, List.nil_append, List.append_nil, SV.pvs, SV.pv, BE.all, Bool.and_self, Bool.not_true, Bool.not_false, List.map_cons, List.map_nil, c2]
  cases hf : formV l.length cyc vals with
  | false =>
    have hd : verd l cyc vals = 2 := by unfold verd; rw [ha, hf]; rfl
    rw [hd]
    simp -implicitDefEqProofs only [↓reduceIte, PT.ev, BE.safe, BE.pe, IE.pe, PEnv.at, List.getD_cons_zero, List.getD_cons_succ, List.getElem?_cons_zero, List.getElem?_cons_succ, locOf, locOn, readLoc, takeN, Nat.add_zero, List.drop_zero, List.length_cons, List.length_nil, Nat.reduceAdd, Nat.le_refl, if_true, if_false, Bool.false_eq_true, List.take_succ_cons, List.take_zero, bindK, bindRes, bind1, Option.map_some, Option.bind_some, PEnv.push, List.cons_append, List.nil_append, List.append_nil, SV.pvs, SV.pv, BE.all, Bool.and_self, Bool.not_true, Bool.not_false, List.map_cons, List.map_nil, retP, or_true]
  | true =>
    have hok : ∀ x ∈ l, x.ok := fun x hx => by simpa using (List.all_eq_true.1 ha) x hx
    simp only [formV, Bool.and_eq_true] at hf
    have hcy : ∀ z ∈ cyc, cycOk l.length z = true := List.all_eq_true.1 hf.1.2
    have hva : ∀ z ∈ vals, valOk z = true := List.all_eq_true.1 hf.2
    have hf' : formV l.length cyc vals = true := by simp only [formV, Bool.and_eq_true]; exact hf
    simp -implicitDefEqProofs only [↓reduceIte, PT.ev, BE.safe, BE.pe, IE.pe, PEnv.at, List.getD_cons_zero, List.getD_cons_succ, List.getElem?_cons_zero, List.getElem?_cons_succ, locOf, locOn, readLoc, takeN, Nat.add_zero, List.drop_zero, List.length_cons, List.length_nil, Nat.reduceAdd, Nat.le_refl, if_true, if_false, Bool.false_eq_true, List.take_succ_cons, List.take_zero, bindK, bindRes, bind1, Option.map_some, Option.bind_some, PEnv.push, List.cons_append, List.nil_append, List.append_nil, SV.pvs, SV.pv, BE.all, Bool.and_self, Bool.not_true, Bool.not_false, List.map_cons, List.map_nil, r1, r2]
    by_cases h0 : cyc.length = 0
    · have c3 := expl_sem σ l P hP vals V hV hl hok hva n (by omega)
      have e0 : eqB (cyc.length : Int) 0 = true := by rw [h0]; rfl
      simp only [n_revealed_explains] at c3
      simp -implicitDefEqProofs only [↓reduceIte, PT.ev, BE.safe, BE.pe, IE.pe, PEnv.at, List.getD_cons_zero, List.getD_cons_succ, List.getElem?_cons_zero, List.getElem?_cons_succ, locOf, locOn, readLoc, takeN, Nat.add_zero, List.drop_zero, List.length_cons, List.length_nil, Nat.reduceAdd, Nat.le_refl, if_true, if_false, Bool.false_eq_true, List.take_succ_cons, List.take_zero, bindK, bindRes, bind1, Option.map_some, Option.bind_some, PEnv.push, List.cons_append, List.nil_append, List.append_nil, SV.pvs, SV.pv, BE.all, Bool.and_self, Bool.not_true, Bool.not_false, List.map_cons, List.map_nil, e0, c3]
      have hd : verd l cyc vals = if (decide (vals.length = l.length) && explP (l.zip vals)) = true then 0 else 13 := by unfold verd; rw [ha, hf', if_pos rfl, if_pos rfl, if_pos h0]
      rw [hd]
      generalize (decide (vals.length = l.length) && explP (l.zip vals)) = q
      cases q <;> simp -implicitDefEqProofs only [↓reduceIte, PT.ev, BE.safe, BE.pe, IE.pe, PEnv.at, List.getD_cons_zero, List.getD_cons_succ, List.getElem?_cons_zero, List.getElem?_cons_succ, locOf, locOn, readLoc, takeN, Nat.add_zero, List.drop_zero, List.length_cons, List.length_nil, Nat.reduceAdd, Nat.le_refl, if_true, if_false, Bool.false_eq_true, List.take_succ_cons, List.take_zero, bindK, bindRes, bind1, Option.map_some, Option.bind_some, PEnv.push, List.cons_append, List.nil_append, List.append_nil, SV.pvs, SV.pv, BE.all, Bool.and_self, Bool.not_true, Bool.not_false, List.map_cons, List.map_nil, retP, or_true, if_pos]
    · have e0 : eqB (cyc.length : Int) 0 = false := by rw [eqB_false]; omega
      simp -implicitDefEqProofs only [↓reduceIte, PT.ev, BE.safe, BE.pe, IE.pe, PEnv.at, List.getD_cons_zero, List.getD_cons_succ, List.getElem?_cons_zero, List.getElem?_cons_succ, locOf, locOn, readLoc, takeN, Nat.add_zero, List.drop_zero, List.length_cons, List.length_nil, Nat.reduceAdd, Nat.le_refl, if_true, if_false, Bool.false_eq_true, List.take_succ_cons, List.take_zero, bindK, bindRes, bind1, Option.map_some, Option.bind_some, PEnv.push, List.cons_append, List.nil_append, List.append_nil, SV.pvs, SV.pv, BE.all, Bool.and_self, Bool.not_true, Bool.not_false, List.map_cons, List.map_nil, e0]
      have hd : verd l cyc vals = if 0 ≤ cycSum l cyc cyc.length then 13 else 0 := by unfold verd; rw [ha, hf', if_pos rfl, if_pos rfl, if_neg h0]
      have loop : ∀ (fuel i : Nat), cyc.length - i < fuel → i ≤ cyc.length → revealed_Verify_S.loop (evalF Tab n) fuel 0 { i := [cycSum l cyc i, (cyc.length : Int), (i : Int)], b := [], v := [P, C, V], m := σ, k := σ.length } = some (.int .i64 (verd l cyc vals), σ) := by
        intro fuel
        induction fuel with
        | zero => intro i h; omega
        | succ fuel ihf =>
          intro i h1 h2
          rw [Sys.loop, show revealed_Verify_S.loops[0]? = some revealed_Verify_t0 from rfl]
          simp -implicitDefEqProofs only [Option.bind_some, revealed_Verify_t0, ↓reduceIte, PT.ev, BE.safe, BE.pe, IE.pe, PEnv.at, List.getD_cons_zero, List.getD_cons_succ, List.getElem?_cons_zero, List.getElem?_cons_succ, locOf, locOn, readLoc, takeN, Nat.add_zero, List.drop_zero, List.length_cons, List.length_nil, Nat.reduceAdd, Nat.le_refl, if_true, if_false, Bool.false_eq_true, List.take_succ_cons, List.take_zero, bindK, bindRes, bind1, Option.map_some, Option.bind_some, PEnv.push, List.cons_append, List.nil_append, List.append_nil, SV.pvs, SV.pv, BE.all, Bool.and_self, Bool.not_true, Bool.not_false, List.map_cons, List.map_nil, ltB_nat, decide_eq_true_eq]
          by_cases hlt : i < cyc.length
          · have hj : (i + 1) % cyc.length < cyc.length := Nat.mod_lt _ (by omega)
            have m1 : cyc[i]? = some cyc[i] := List.getElem?_eq_getElem hlt
            have m2 : cyc[(i + 1) % cyc.length]? = some cyc[(i + 1) % cyc.length] := List.getElem?_eq_getElem hj
            obtain ⟨k1, z1, l1, e1⟩ := chAt_get (hcy _ (List.mem_of_getElem? m1))
            obtain ⟨k2, z2, l2, e2⟩ := chAt_get (hcy _ (List.mem_of_getElem? m2))
            have g := ihf (i + 1) (by omega) (by omega)
            rw [show ((i + 1 : Nat) : Int) = (i : Int) + 1 from by omega] at g
            have b1 := cyc_bd hok hcy i (by omega)
            have b2 := cyc_bd hok hcy (i + 1) (by omega)
            simp only [cycSum, cycG, m1, m2, Option.getD_some] at g b2
            have c4 := gain0_sem σ _ _ (hok _ (List.mem_of_getElem? e1)) (hok _ (List.mem_of_getElem? e2)) n (by omega)
            have d1 := rows_get (off := 0) hC (ints_get m1)
            have d2 := rows_get (off := 0) hC (ints_get m2)
            have d3 := rows_get (off := 0) hP (rows_chs e1)
            have d4 := rows_get (off := 0) hP (rows_chs e2)
            generalize chAt l cyc[i] = x at *
            generalize chAt l cyc[(i + 1) % cyc.length] = y at *
            generalize gainC x y = gg at *
            rw [z1] at d1; rw [z2] at d2
            generalize cycSum l cyc i = acc at *
            generalize hj' : (i + 1) % cyc.length = j at *
            have t1 := tmod_nat i cyc.length
            rw [hj'] at t1
            have q1 : (leB 0 (i : Int) && decide (i < cyc.length)) = true := by simp [leB, hlt]
            have q2 : (leB (-9223372036854775808) ((i : Int) + 1) && leB ((i : Int) + 1) 9223372036854775807) = true := by simp [leB]; omega
            have q3 : (leB 0 (k1 : Int) && decide (k1 < l.length)) = true := by simp [leB, l1]
            have q4 : (leB 0 (k2 : Int) && decide (k2 < l.length)) = true := by simp [leB, l2]
            have q5 : (leB 0 (j : Int) && decide (j < cyc.length)) = true := by simp [leB, hj]
            have q6 : (leB (-9223372036854775808) (acc + gg) && leB (acc + gg) 9223372036854775807) = true := by simp [leB]; omega
            simp only [n_revealed_gain, row_eq] at c4
            rw [if_pos hlt]
            simp -implicitDefEqProofs only [p1, p2, r1, r2, ltB_nat, ↓reduceIte, PT.ev, BE.safe, BE.pe, IE.pe, PEnv.at, List.getD_cons_zero, List.getD_cons_succ, List.getElem?_cons_zero, List.getElem?_cons_succ, locOf, locOn, readLoc, takeN, Nat.add_zero, List.drop_zero, List.length_cons, List.length_nil, Nat.reduceAdd, Nat.le_refl, if_true, if_false, Bool.false_eq_true, List.take_succ_cons, List.take_zero, bindK, bindRes, bind1, Option.map_some, Option.bind_some, PEnv.push, List.cons_append, List.nil_append, List.append_nil, SV.pvs, SV.pv, BE.all, Bool.and_self, Bool.not_true, Bool.not_false, List.map_cons, List.map_nil, t1, e0, if_pos q1, if_pos q2, if_pos q3, if_pos q4, if_pos q5, if_pos q6, d1, d2, d3, d4, row_eq, c4]
            exact g
          · rw [if_neg hlt, hd]
            obtain rfl : i = cyc.length := by omega
            by_cases h3 : 0 ≤ cycSum l cyc cyc.length
            · have e3 : leB 0 (cycSum l cyc cyc.length) = true := leB_true.2 h3
              rw [if_pos h3]
              simp -implicitDefEqProofs only [↓reduceIte, PT.ev, BE.safe, BE.pe, IE.pe, PEnv.at, List.getD_cons_zero, List.getD_cons_succ, List.getElem?_cons_zero, List.getElem?_cons_succ, locOf, locOn, readLoc, takeN, Nat.add_zero, List.drop_zero, List.length_cons, List.length_nil, Nat.reduceAdd, Nat.le_refl, if_true, if_false, Bool.false_eq_true, List.take_succ_cons, List.take_zero, bindK, bindRes, bind1, Option.map_some, Option.bind_some, PEnv.push, List.cons_append, List.nil_append, List.append_nil, SV.pvs, SV.pv, BE.all, Bool.and_self, Bool.not_true, Bool.not_false, List.map_cons, List.map_nil, e3, retP, or_true]
            · have e3 : leB 0 (cycSum l cyc cyc.length) = false := leB_false.2 h3
              rw [if_neg h3]
              simp -implicitDefEqProofs only [↓reduceIte, PT.ev, BE.safe, BE.pe, IE.pe, PEnv.at, List.getD_cons_zero, List.getD_cons_succ, List.getElem?_cons_zero, List.getElem?_cons_succ, locOf, locOn, readLoc, takeN, Nat.add_zero, List.drop_zero, List.length_cons, List.length_nil, Nat.reduceAdd, Nat.le_refl, if_true, if_false, Bool.false_eq_true, List.take_succ_cons, List.take_zero, bindK, bindRes, bind1, Option.map_some, Option.bind_some, PEnv.push, List.cons_append, List.nil_append, List.append_nil, SV.pvs, SV.pv, BE.all, Bool.and_self, Bool.not_true, Bool.not_false, List.map_cons, List.map_nil, e3, retP, or_true]
      have g := loop n 0 (by omega) (Nat.zero_le _)
      simpa [cycSum] using g
end Go.Proofs.Ythjahianafohjaa
