/- The verdict on a proof, as the reference reckons it. -/
import Derived.Test.YthjahianafohjaaHRvG
set_option linter.unusedSimpArgs false
set_option linter.unusedVariables false
set_option maxRecDepth 100000
namespace Go.Proofs.Ythjahianafohjaa
open Go.Sx
theorem rverify_sem (σ : List MO) (l : List Ch) (P : PV) (hP : P.rowsOf 12 = some (l.map Ch.row)) (cyc vals : List Int) (C V : PV) (hC : C.rowsOf 1 = some (ints cyc)) (hV : V.rowsOf 1 = some (ints vals)) (hl : l.length ≤ 14) (n : Nat) (hn : cyc.length + cyc.length + vals.length + 420 ≤ n) (hc : cyc.length ≤ 1000000) (hv : vals.length ≤ 1000000) :
    evalF Tab n n_saleroomref36_Verify [P, .agg [C, V]] σ = some (.int .i64 (verd l cyc vals), σ) := by
  obtain ⟨n, rfl⟩ : ∃ k, n = k + 1 := ⟨n - 1, by omega⟩
  obtain ⟨p1, p2, p3⟩ := rows_len hP
  obtain ⟨r1, r2, r3⟩ := rows_len hC
  obtain ⟨s1, s2, s3⟩ := rows_len hV
  rw [List.length_map] at p1
  rw [ints_len] at r1 s1
  have c1 := rall_sem σ l P hP n (by omega) (by omega)
  simp only [n_saleroomref36_All] at c1
  simp only [evalF, tab_saleroomref36_Verify, Option.bind_some, Sys.run]
  show ((bindPs [.sh (.one _), .sh (.agg [_, _])] _).bind _) = _
  simp -implicitDefEqProofs only [bindPs, bind1, bindK, Option.map_some, Option.bind_some, List.append_nil, List.nil_append, List.cons_append, if_true, p3, r3, s3]
  show (PT.ev _ saleroomref36_Verify_s _).bind _ = _
  simp -implicitDefEqProofs only [saleroomref36_Verify_s, ↓reduceIte, PT.ev, BE.safe, BE.pe, IE.pe, PEnv.at, List.getD_cons_zero, List.getD_cons_succ, List.getElem?_cons_zero, List.getElem?_cons_succ, locOf, locOn, readLoc, takeN, Nat.add_zero, List.drop_zero, List.length_cons, List.length_nil, Nat.reduceAdd, Nat.le_refl, if_true, if_false, Bool.false_eq_true, List.take_succ_cons, List.take_zero, bindK, bindRes, bind1, Option.map_some, Option.bind_some, PEnv.push, List.cons_append, List.nil_append, List.append_nil, SV.pvs, SV.pv, BE.all, Bool.and_self, Bool.not_true, Bool.not_false, List.map_cons, List.map_nil, c1]
  by_cases ha : (l.all fun x => decide x.ok) = true
  case neg =>
    rw [Bool.not_eq_true] at ha
    have hd : verd l cyc vals = 4 := by unfold verd; rw [ha]; rfl
    rw [ha, hd]
    simp -implicitDefEqProofs only [↓reduceIte, PT.ev, BE.safe, BE.pe, IE.pe, PEnv.at, List.getD_cons_zero, List.getD_cons_succ, List.getElem?_cons_zero, List.getElem?_cons_succ, locOf, locOn, readLoc, takeN, Nat.add_zero, List.drop_zero, List.length_cons, List.length_nil, Nat.reduceAdd, Nat.le_refl, if_true, if_false, Bool.false_eq_true, List.take_succ_cons, List.take_zero, bindK, bindRes, bind1, Option.map_some, Option.bind_some, PEnv.push, List.cons_append, List.nil_append, List.append_nil, SV.pvs, SV.pv, BE.all, Bool.and_self, Bool.not_true, Bool.not_false, List.map_cons, List.map_nil, retP, or_true]
  have hok : ∀ x ∈ l, x.ok := fun x hx => by simpa using (List.all_eq_true.1 ha) x hx
  rw [ha]
  simp -implicitDefEqProofs only [↓reduceIte, PT.ev, BE.safe, BE.pe, IE.pe, PEnv.at, List.getD_cons_zero, List.getD_cons_succ, List.getElem?_cons_zero, List.getElem?_cons_succ, locOf, locOn, readLoc, takeN, Nat.add_zero, List.drop_zero, List.length_cons, List.length_nil, Nat.reduceAdd, Nat.le_refl, if_true, if_false, Bool.false_eq_true, List.take_succ_cons, List.take_zero, bindK, bindRes, bind1, Option.map_some, Option.bind_some, PEnv.push, List.cons_append, List.nil_append, List.append_nil, SV.pvs, SV.pv, BE.all, Bool.and_self, Bool.not_true, Bool.not_false, List.map_cons, List.map_nil, r1, r2]
  have loop2 : 0 < cyc.length → (∀ z ∈ cyc, cycOk l.length z = true) → ∀ (fuel i : Nat), cyc.length - i < fuel → i ≤ cyc.length → saleroomref36_Verify_S.loop (evalF Tab n) fuel 2 { i := [cycSum l cyc i, (i : Int)], b := [], v := [P, C, V], m := σ, k := σ.length } = some (.int .i64 (if 0 ≤ cycSum l cyc cyc.length then 13 else 0), σ) := by
    intro h0 hcy fuel
    have e0 : eqB (cyc.length : Int) 0 = false := by rw [eqB_false]; omega
    induction fuel with
    | zero => intro i h; omega
    | succ fuel ihf =>
      intro i h1 h2
      rw [Sys.loop, show saleroomref36_Verify_S.loops[2]? = some saleroomref36_Verify_t2 from rfl]
      simp -implicitDefEqProofs only [Option.bind_some, saleroomref36_Verify_t2, ↓reduceIte, PT.ev, BE.safe, BE.pe, IE.pe, PEnv.at, List.getD_cons_zero, List.getD_cons_succ, List.getElem?_cons_zero, List.getElem?_cons_succ, locOf, locOn, readLoc, takeN, Nat.add_zero, List.drop_zero, List.length_cons, List.length_nil, Nat.reduceAdd, Nat.le_refl, if_true, if_false, Bool.false_eq_true, List.take_succ_cons, List.take_zero, bindK, bindRes, bind1, Option.map_some, Option.bind_some, PEnv.push, List.cons_append, List.nil_append, List.append_nil, SV.pvs, SV.pv, BE.all, Bool.and_self, Bool.not_true, Bool.not_false, List.map_cons, List.map_nil, r1, r2, ltB_nat, decide_eq_true_eq]
      by_cases hlt : i < cyc.length
      · have hj : (i + 1) % cyc.length < cyc.length := Nat.mod_lt _ (by omega)
        have m1 : cyc[i]? = some cyc[i] := List.getElem?_eq_getElem hlt
        have m2 : cyc[(i + 1) % cyc.length]? = some cyc[(i + 1) % cyc.length] := List.getElem?_eq_getElem hj
        obtain ⟨k1, z1, l1, e1⟩ := chAt_get (hcy _ (List.mem_of_getElem? m1))
        obtain ⟨k2, z2, l2, e2⟩ := chAt_get (hcy _ (List.mem_of_getElem? m2))
        have g := ihf (i + 1) (by omega) (by omega)
        rw [show ((i + 1 : Nat) : Int) = (i : Int) + 1 from by omega] at g
        have b1 := cyc_bd hok hcy i (by omega)
        have b2 := cyc_bd hok hcy (i + 1) (by omega)
        generalize cycSum l cyc cyc.length = tot at *
        simp only [cycSum, cycG, m1, m2, Option.getD_some] at g b2
        have c4 := rgain_sem σ (chAt l cyc[i]) (chAt l cyc[(i + 1) % cyc.length]) n (by omega)
        rw [show gainV (chAt l cyc[i]) (chAt l cyc[(i + 1) % cyc.length]) = gainC (chAt l cyc[i]) (chAt l cyc[(i + 1) % cyc.length]) from if_pos ⟨hok _ (List.mem_of_getElem? e1), hok _ (List.mem_of_getElem? e2)⟩] at c4
        have d1 := rows_get (off := 0) hC (ints_get m1)
        have d2 := rows_get (off := 0) hC (ints_get m2)
        have d3 := rows_get (off := 0) hP (rows_chs e1)
        have d4 := rows_get (off := 0) hP (rows_chs e2)
        generalize chAt l cyc[i] = x at *
        generalize chAt l cyc[(i + 1) % cyc.length] = y at *
        generalize gainC x y = gg at *
        rw [z1] at d1; rw [z2] at d2
        generalize cycSum l cyc i = acc at *
        generalize hj' : (i + 1) % cyc.length = j at *
        have t1 := tmod_nat i cyc.length
        rw [hj'] at t1
        have q1 : (leB 0 (i : Int) && decide (i < cyc.length)) = true := by simp [leB, hlt]
        have q2 : (leB (-9223372036854775808) ((i : Int) + 1) && leB ((i : Int) + 1) 9223372036854775807) = true := by simp [leB]; omega
        have q3 : (leB 0 (k1 : Int) && decide (k1 < l.length)) = true := by simp [leB, l1]
        have q4 : (leB 0 (k2 : Int) && decide (k2 < l.length)) = true := by simp [leB, l2]
        have q5 : (leB 0 (j : Int) && decide (j < cyc.length)) = true := by simp [leB, hj]
        have q6 : (leB (-9223372036854775808) (acc + gg) && leB (acc + gg) 9223372036854775807) = true := by simp [leB]; omega
        simp only [n_saleroomref36_Gain, row_eq] at c4
        rw [if_pos hlt]
        simp -implicitDefEqProofs only [p1, p2, r1, r2, ltB_nat, ↓reduceIte, PT.ev, BE.safe, BE.pe, IE.pe, PEnv.at, List.getD_cons_zero, List.getD_cons_succ, List.getElem?_cons_zero, List.getElem?_cons_succ, locOf, locOn, readLoc, takeN, Nat.add_zero, List.drop_zero, List.length_cons, List.length_nil, Nat.reduceAdd, Nat.le_refl, if_true, if_false, Bool.false_eq_true, List.take_succ_cons, List.take_zero, bindK, bindRes, bind1, Option.map_some, Option.bind_some, PEnv.push, List.cons_append, List.nil_append, List.append_nil, SV.pvs, SV.pv, BE.all, Bool.and_self, Bool.not_true, Bool.not_false, List.map_cons, List.map_nil, t1, e0, if_pos q1, if_pos q2, if_pos q3, if_pos q4, if_pos q5, if_pos q6, d1, d2, d3, d4, row_eq, c4]
        exact g
      · rw [if_neg hlt]
        obtain rfl : i = cyc.length := by omega
        by_cases h3 : 0 ≤ cycSum l cyc cyc.length
        · have e3 : leB 0 (cycSum l cyc cyc.length) = true := leB_true.2 h3
          rw [if_pos h3]
          simp -implicitDefEqProofs only [↓reduceIte, PT.ev, BE.safe, BE.pe, IE.pe, PEnv.at, List.getD_cons_zero, List.getD_cons_succ, List.getElem?_cons_zero, List.getElem?_cons_succ, locOf, locOn, readLoc, takeN, Nat.add_zero, List.drop_zero, List.length_cons, List.length_nil, Nat.reduceAdd, Nat.le_refl, if_true, if_false, Bool.false_eq_true, List.take_succ_cons, List.take_zero, bindK, bindRes, bind1, Option.map_some, Option.bind_some, PEnv.push, List.cons_append, List.nil_append, List.append_nil, SV.pvs, SV.pv, BE.all, Bool.and_self, Bool.not_true, Bool.not_false, List.map_cons, List.map_nil, e3, retP, or_true]
        · have e3 : leB 0 (cycSum l cyc cyc.length) = false := leB_false.2 h3
          rw [if_neg h3]
          simp -implicitDefEqProofs only [↓reduceIte, PT.ev, BE.safe, BE.pe, IE.pe, PEnv.at, List.getD_cons_zero, List.getD_cons_succ, List.getElem?_cons_zero, List.getElem?_cons_succ, locOf, locOn, readLoc, takeN, Nat.add_zero, List.drop_zero, List.length_cons, List.length_nil, Nat.reduceAdd, Nat.le_refl, if_true, if_false, Bool.false_eq_true, List.take_succ_cons, List.take_zero, bindK, bindRes, bind1, Option.map_some, Option.bind_some, PEnv.push, List.cons_append, List.nil_append, List.append_nil, SV.pvs, SV.pv, BE.all, Bool.and_self, Bool.not_true, Bool.not_false, List.map_cons, List.map_nil, e3, retP, or_true]
  obtain ⟨R, hR⟩ : ∃ R : Int, R = if cyc.length = 0 then (if (decide (vals.length = l.length) && explP (l.zip vals)) = true then 0 else 13) else (if 0 ≤ cycSum l cyc cyc.length then 13 else 0) := ⟨_, rfl⟩
  have loop1 : (∀ z ∈ cyc, cycOk l.length z = true) → ∀ (fuel i : Nat), (vals.length - i) + cyc.length + 1 < fuel → i ≤ vals.length → (∀ j, j < i → ∀ z, vals[j]? = some z → valOk z = true) → saleroomref36_Verify_S.loop (evalF Tab n) fuel 1 { i := [(i : Int)], b := [], v := [P, C, V], m := σ, k := σ.length } = some (.int .i64 (if (vals.drop i).all valOk = true then R else 2), σ) := by
    intro hcy fuel
    induction fuel with
    | zero => intro i h; omega
    | succ fuel ihf =>
      intro i h1 h2 hpre
      rw [Sys.loop, show saleroomref36_Verify_S.loops[1]? = some saleroomref36_Verify_t1 from rfl]
      simp -implicitDefEqProofs only [Option.bind_some, saleroomref36_Verify_t1, ↓reduceIte, PT.ev, BE.safe, BE.pe, IE.pe, PEnv.at, List.getD_cons_zero, List.getD_cons_succ, List.getElem?_cons_zero, List.getElem?_cons_succ, locOf, locOn, readLoc, takeN, Nat.add_zero, List.drop_zero, List.length_cons, List.length_nil, Nat.reduceAdd, Nat.le_refl, if_true, if_false, Bool.false_eq_true, List.take_succ_cons, List.take_zero, bindK, bindRes, bind1, Option.map_some, Option.bind_some, PEnv.push, List.cons_append, List.nil_append, List.append_nil, SV.pvs, SV.pv, BE.all, Bool.and_self, Bool.not_true, Bool.not_false, List.map_cons, List.map_nil, s1, s2, ltB_nat, decide_eq_true_eq]
      by_cases hlt : i < vals.length
      · obtain ⟨z, hz⟩ : ∃ z, vals[i]? = some z := ⟨_, List.getElem?_eq_getElem hlt⟩
        rw [if_pos hlt, drop_cons hz, List.all_cons]
        have hloc := rows_get (off := 0) hV (ints_get hz)
        have q1 : (leB 0 (i : Int) && decide (i < vals.length)) = true := by simp [leB, hlt]
        have q2 : (leB (-9223372036854775808) ((i : Int) + 1) && leB ((i : Int) + 1) 9223372036854775807) = true := by simp [leB]; omega
        simp -implicitDefEqProofs only [s1, ltB_nat, ↓reduceIte, PT.ev, BE.safe, BE.pe, IE.pe, PEnv.at, List.getD_cons_zero, List.getD_cons_succ, List.getElem?_cons_zero, List.getElem?_cons_succ, locOf, locOn, readLoc, takeN, Nat.add_zero, List.drop_zero, List.length_cons, List.length_nil, Nat.reduceAdd, Nat.le_refl, if_true, if_false, Bool.false_eq_true, List.take_succ_cons, List.take_zero, bindK, bindRes, bind1, Option.map_some, Option.bind_some, PEnv.push, List.cons_append, List.nil_append, List.append_nil, SV.pvs, SV.pv, BE.all, Bool.and_self, Bool.not_true, Bool.not_false, List.map_cons, List.map_nil, if_pos q1, hloc]
        by_cases h3 : z < -1099511627776
        · have e3 : ltB z (-1099511627776) = true := ltB_true.2 h3
          have : valOk z = false := by simp [valOk]; omega
          simp -implicitDefEqProofs only [↓reduceIte, PT.ev, BE.safe, BE.pe, IE.pe, PEnv.at, List.getD_cons_zero, List.getD_cons_succ, List.getElem?_cons_zero, List.getElem?_cons_succ, locOf, locOn, readLoc, takeN, Nat.add_zero, List.drop_zero, List.length_cons, List.length_nil, Nat.reduceAdd, Nat.le_refl, if_true, if_false, Bool.false_eq_true, List.take_succ_cons, List.take_zero, bindK, bindRes, bind1, Option.map_some, Option.bind_some, PEnv.push, List.cons_append, List.nil_append, List.append_nil, SV.pvs, SV.pv, BE.all, Bool.and_self, Bool.not_true, Bool.not_false, List.map_cons, List.map_nil, e3, retP, or_true, this, Bool.false_and]
        · have e3 : ltB z (-1099511627776) = false := ltB_false.2 h3
          by_cases h4 : 1099511627776 < z
          · have e4 : ltB 1099511627776 z = true := ltB_true.2 h4
            have : valOk z = false := by simp [valOk]; omega
            simp -implicitDefEqProofs only [s1, ltB_nat, ↓reduceIte, PT.ev, BE.safe, BE.pe, IE.pe, PEnv.at, List.getD_cons_zero, List.getD_cons_succ, List.getElem?_cons_zero, List.getElem?_cons_succ, locOf, locOn, readLoc, takeN, Nat.add_zero, List.drop_zero, List.length_cons, List.length_nil, Nat.reduceAdd, Nat.le_refl, if_true, if_false, Bool.false_eq_true, List.take_succ_cons, List.take_zero, bindK, bindRes, bind1, Option.map_some, Option.bind_some, PEnv.push, List.cons_append, List.nil_append, List.append_nil, SV.pvs, SV.pv, BE.all, Bool.and_self, Bool.not_true, Bool.not_false, List.map_cons, List.map_nil, if_pos q1, hloc, e3, e4, retP, or_true, this, Bool.false_and]
          · have e4 : ltB 1099511627776 z = false := ltB_false.2 h4
            have h5 : valOk z = true := by simp [valOk]; omega
            simp -implicitDefEqProofs only [s1, ltB_nat, ↓reduceIte, PT.ev, BE.safe, BE.pe, IE.pe, PEnv.at, List.getD_cons_zero, List.getD_cons_succ, List.getElem?_cons_zero, List.getElem?_cons_succ, locOf, locOn, readLoc, takeN, Nat.add_zero, List.drop_zero, List.length_cons, List.length_nil, Nat.reduceAdd, Nat.le_refl, if_true, if_false, Bool.false_eq_true, List.take_succ_cons, List.take_zero, bindK, bindRes, bind1, Option.map_some, Option.bind_some, PEnv.push, List.cons_append, List.nil_append, List.append_nil, SV.pvs, SV.pv, BE.all, Bool.and_self, Bool.not_true, Bool.not_false, List.map_cons, List.map_nil, if_pos q1, if_pos q2, hloc, e3, e4, h5, Bool.true_and]
            have g := ihf (i + 1) (by omega) (by omega) (fun j hj w hw => by
              by_cases hji : j = i
              · subst hji; rw [hz] at hw; cases hw; exact h5
              · exact hpre j (by omega) w hw)
            rw [show ((i + 1 : Nat) : Int) = (i : Int) + 1 from by omega] at g
            exact g
      · rw [if_neg hlt]
        obtain rfl : i = vals.length := by omega
        have hva : ∀ z ∈ vals, valOk z = true := by
          intro z hz
          obtain ⟨j, hj, e⟩ := List.getElem_of_mem hz
          exact hpre j hj z (by rw [List.getElem?_eq_getElem hj, e])
        rw [List.drop_length, List.all_nil, if_pos rfl]
        simp -implicitDefEqProofs only [↓reduceIte, PT.ev, BE.safe, BE.pe, IE.pe, PEnv.at, List.getD_cons_zero, List.getD_cons_succ, List.getElem?_cons_zero, List.getElem?_cons_succ, locOf, locOn, readLoc, takeN, Nat.add_zero, List.drop_zero, List.length_cons, List.length_nil, Nat.reduceAdd, Nat.le_refl, if_true, if_false, Bool.false_eq_true, List.take_succ_cons, List.take_zero, bindK, bindRes, bind1, Option.map_some, Option.bind_some, PEnv.push, List.cons_append, List.nil_append, List.append_nil, SV.pvs, SV.pv, BE.all, Bool.and_self, Bool.not_true, Bool.not_false, List.map_cons, List.map_nil, r1, r2]
        by_cases h0 : cyc.length = 0
        · have c3 := rexpl_sem σ l P hP vals V hV hl hok hva n (by omega)
          have e0 : ltB 0 (cyc.length : Int) = false := by rw [ltB_false]; omega
          simp only [n_saleroomref36_explains] at c3
          rw [hR, if_pos h0, expl_eq]
          simp -implicitDefEqProofs only [↓reduceIte, PT.ev, BE.safe, BE.pe, IE.pe, PEnv.at, List.getD_cons_zero, List.getD_cons_succ, List.getElem?_cons_zero, List.getElem?_cons_succ, locOf, locOn, readLoc, takeN, Nat.add_zero, List.drop_zero, List.length_cons, List.length_nil, Nat.reduceAdd, Nat.le_refl, if_true, if_false, Bool.false_eq_true, List.take_succ_cons, List.take_zero, bindK, bindRes, bind1, Option.map_some, Option.bind_some, PEnv.push, List.cons_append, List.nil_append, List.append_nil, SV.pvs, SV.pv, BE.all, Bool.and_self, Bool.not_true, Bool.not_false, List.map_cons, List.map_nil, e0, c3]
          generalize (decide (vals.length = l.length) && explR (l.zip vals)) = q
          cases q <;> simp -implicitDefEqProofs only [↓reduceIte, PT.ev, BE.safe, BE.pe, IE.pe, PEnv.at, List.getD_cons_zero, List.getD_cons_succ, List.getElem?_cons_zero, List.getElem?_cons_succ, locOf, locOn, readLoc, takeN, Nat.add_zero, List.drop_zero, List.length_cons, List.length_nil, Nat.reduceAdd, Nat.le_refl, if_true, if_false, Bool.false_eq_true, List.take_succ_cons, List.take_zero, bindK, bindRes, bind1, Option.map_some, Option.bind_some, PEnv.push, List.cons_append, List.nil_append, List.append_nil, SV.pvs, SV.pv, BE.all, Bool.and_self, Bool.not_true, Bool.not_false, List.map_cons, List.map_nil, retP, or_true, if_pos] <;> simp
        · have e0 : ltB 0 (cyc.length : Int) = true := by rw [ltB_true]; omega
          rw [hR, if_neg h0]
          simp -implicitDefEqProofs only [↓reduceIte, PT.ev, BE.safe, BE.pe, IE.pe, PEnv.at, List.getD_cons_zero, List.getD_cons_succ, List.getElem?_cons_zero, List.getElem?_cons_succ, locOf, locOn, readLoc, takeN, Nat.add_zero, List.drop_zero, List.length_cons, List.length_nil, Nat.reduceAdd, Nat.le_refl, if_true, if_false, Bool.false_eq_true, List.take_succ_cons, List.take_zero, bindK, bindRes, bind1, Option.map_some, Option.bind_some, PEnv.push, List.cons_append, List.nil_append, List.append_nil, SV.pvs, SV.pv, BE.all, Bool.and_self, Bool.not_true, Bool.not_false, List.map_cons, List.map_nil, e0]
          have g := loop2 (by omega) hcy fuel 0 (by omega) (Nat.zero_le _)
          simpa [cycSum] using g
  have loop0 : ∀ (fuel i : Nat), (cyc.length - i) + vals.length + cyc.length + 2 < fuel → i ≤ cyc.length → (∀ j, j < i → ∀ z, cyc[j]? = some z → cycOk l.length z = true) → saleroomref36_Verify_S.loop (evalF Tab n) fuel 0 { i := [(i : Int)], b := [], v := [P, C, V], m := σ, k := σ.length } = some (.int .i64 (if (cyc.drop i).all (cycOk l.length) = true then (if vals.all valOk = true then R else 2) else 2), σ) := by
    intro fuel
    induction fuel with
    | zero => intro i h; omega
    | succ fuel ihf =>
      intro i h1 h2 hpre
      rw [Sys.loop, show saleroomref36_Verify_S.loops[0]? = some saleroomref36_Verify_t0 from rfl]
      simp -implicitDefEqProofs only [Option.bind_some, saleroomref36_Verify_t0, ↓reduceIte, PT.ev, BE.safe, BE.pe, IE.pe, PEnv.at, List.getD_cons_zero, List.getD_cons_succ, List.getElem?_cons_zero, List.getElem?_cons_succ, locOf, locOn, readLoc, takeN, Nat.add_zero, List.drop_zero, List.length_cons, List.length_nil, Nat.reduceAdd, Nat.le_refl, if_true, if_false, Bool.false_eq_true, List.take_succ_cons, List.take_zero, bindK, bindRes, bind1, Option.map_some, Option.bind_some, PEnv.push, List.cons_append, List.nil_append, List.append_nil, SV.pvs, SV.pv, BE.all, Bool.and_self, Bool.not_true, Bool.not_false, List.map_cons, List.map_nil, r1, r2, ltB_nat, decide_eq_true_eq]
      by_cases hlt : i < cyc.length
      · obtain ⟨z, hz⟩ : ∃ z, cyc[i]? = some z := ⟨_, List.getElem?_eq_getElem hlt⟩
        rw [if_pos hlt, drop_cons hz, List.all_cons]
        have hloc := rows_get (off := 0) hC (ints_get hz)
        have q1 : (leB 0 (i : Int) && decide (i < cyc.length)) = true := by simp [leB, hlt]
        have q2 : (leB (-9223372036854775808) ((i : Int) + 1) && leB ((i : Int) + 1) 9223372036854775807) = true := by simp [leB]; omega
        simp -implicitDefEqProofs only [r1, ltB_nat, ↓reduceIte, PT.ev, BE.safe, BE.pe, IE.pe, PEnv.at, List.getD_cons_zero, List.getD_cons_succ, List.getElem?_cons_zero, List.getElem?_cons_succ, locOf, locOn, readLoc, takeN, Nat.add_zero, List.drop_zero, List.length_cons, List.length_nil, Nat.reduceAdd, Nat.le_refl, if_true, if_false, Bool.false_eq_true, List.take_succ_cons, List.take_zero, bindK, bindRes, bind1, Option.map_some, Option.bind_some, PEnv.push, List.cons_append, List.nil_append, List.append_nil, SV.pvs, SV.pv, BE.all, Bool.and_self, Bool.not_true, Bool.not_false, List.map_cons, List.map_nil, if_pos q1, hloc]
        by_cases h3 : z < 0
        · have e3 : ltB z 0 = true := ltB_true.2 h3
          have : cycOk l.length z = false := by simp [cycOk]; omega
          simp -implicitDefEqProofs only [↓reduceIte, PT.ev, BE.safe, BE.pe, IE.pe, PEnv.at, List.getD_cons_zero, List.getD_cons_succ, List.getElem?_cons_zero, List.getElem?_cons_succ, locOf, locOn, readLoc, takeN, Nat.add_zero, List.drop_zero, List.length_cons, List.length_nil, Nat.reduceAdd, Nat.le_refl, if_true, if_false, Bool.false_eq_true, List.take_succ_cons, List.take_zero, bindK, bindRes, bind1, Option.map_some, Option.bind_some, PEnv.push, List.cons_append, List.nil_append, List.append_nil, SV.pvs, SV.pv, BE.all, Bool.and_self, Bool.not_true, Bool.not_false, List.map_cons, List.map_nil, e3, retP, or_true, this, Bool.false_and]
        · have e3 : ltB z 0 = false := ltB_false.2 h3
          by_cases h4 : (l.length : Int) ≤ z
          · have e4 : leB (l.length : Int) z = true := leB_true.2 h4
            have : cycOk l.length z = false := by simp [cycOk]; omega
            simp -implicitDefEqProofs only [p1, p2, r1, ltB_nat, ↓reduceIte, PT.ev, BE.safe, BE.pe, IE.pe, PEnv.at, List.getD_cons_zero, List.getD_cons_succ, List.getElem?_cons_zero, List.getElem?_cons_succ, locOf, locOn, readLoc, takeN, Nat.add_zero, List.drop_zero, List.length_cons, List.length_nil, Nat.reduceAdd, Nat.le_refl, if_true, if_false, Bool.false_eq_true, List.take_succ_cons, List.take_zero, bindK, bindRes, bind1, Option.map_some, Option.bind_some, PEnv.push, List.cons_append, List.nil_append, List.append_nil, SV.pvs, SV.pv, BE.all, Bool.and_self, Bool.not_true, Bool.not_false, List.map_cons, List.map_nil, if_pos q1, hloc, e3, e4, retP, or_true, this, Bool.false_and]
          · have e4 : leB (l.length : Int) z = false := leB_false.2 h4
            have h5 : cycOk l.length z = true := by simp [cycOk]; omega
            simp -implicitDefEqProofs only [p1, p2, r1, ltB_nat, ↓reduceIte, PT.ev, BE.safe, BE.pe, IE.pe, PEnv.at, List.getD_cons_zero, List.getD_cons_succ, List.getElem?_cons_zero, List.getElem?_cons_succ, locOf, locOn, readLoc, takeN, Nat.add_zero, List.drop_zero, List.length_cons, List.length_nil, Nat.reduceAdd, Nat.le_refl, if_true, if_false, Bool.false_eq_true, List.take_succ_cons, List.take_zero, bindK, bindRes, bind1, Option.map_some, Option.bind_some, PEnv.push, List.cons_append, List.nil_append, List.append_nil, SV.pvs, SV.pv, BE.all, Bool.and_self, Bool.not_true, Bool.not_false, List.map_cons, List.map_nil, if_pos q1, if_pos q2, hloc, e3, e4, h5, Bool.true_and]
            have g := ihf (i + 1) (by omega) (by omega) (fun j hj w hw => by
              by_cases hji : j = i
              · subst hji; rw [hz] at hw; cases hw; exact h5
              · exact hpre j (by omega) w hw)
            rw [show ((i + 1 : Nat) : Int) = (i : Int) + 1 from by omega] at g
            exact g
      · rw [if_neg hlt]
        obtain rfl : i = cyc.length := by omega
        have hcy : ∀ z ∈ cyc, cycOk l.length z = true := by
          intro z hz
          obtain ⟨j, hj, e⟩ := List.getElem_of_mem hz
          exact hpre j hj z (by rw [List.getElem?_eq_getElem hj, e])
        rw [List.drop_length, List.all_nil, if_pos rfl]
        simp -implicitDefEqProofs only [↓reduceIte, PT.ev, BE.safe, BE.pe, IE.pe, PEnv.at, List.getD_cons_zero, List.getD_cons_succ, List.getElem?_cons_zero, List.getElem?_cons_succ, locOf, locOn, readLoc, takeN, Nat.add_zero, List.drop_zero, List.length_cons, List.length_nil, Nat.reduceAdd, Nat.le_refl, if_true, if_false, Bool.false_eq_true, List.take_succ_cons, List.take_zero, bindK, bindRes, bind1, Option.map_some, Option.bind_some, PEnv.push, List.cons_append, List.nil_append, List.append_nil, SV.pvs, SV.pv, BE.all, Bool.and_self, Bool.not_true, Bool.not_false, List.map_cons, List.map_nil]
        have g := loop1 hcy fuel 0 (by omega) (Nat.zero_le _) (fun j hj => by omega)
        simpa using g
  have g0 := loop0 n 0 (by omega) (Nat.zero_le _) (fun j hj => by omega)
  rw [List.drop_zero] at g0
  have hd : verd l cyc vals = if formV l.length cyc vals = true then R else 2 := by unfold verd; rw [ha, if_pos rfl, hR]
  have hfin : verd l cyc vals = if (!(decide (0 < cyc.length ∧ 0 < vals.length) || decide (1000 < cyc.length))) = true then (if cyc.all (cycOk l.length) = true then (if vals.all valOk = true then R else 2) else 2) else 2 := by
    rw [hd]; unfold formV
    generalize cyc.all (cycOk l.length) = a
    generalize vals.all valOk = b
    generalize (!(decide (0 < cyc.length ∧ 0 < vals.length) || decide (1000 < cyc.length))) = c
    cases a <;> cases b <;> cases c <;> rfl
  by_cases h1 : 1000 < cyc.length
  · have e1 : ltB 1000 (cyc.length : Int) = true := by rw [ltB_true]; omega
    have e2 : ltB 0 (cyc.length : Int) = true := by rw [ltB_true]; omega
    have hv2 : verd l cyc vals = 2 := by rw [hfin, decide_eq_true h1]; simp
    rw [hv2]
    by_cases h2 : 0 < vals.length
    · have e3 : ltB 0 (vals.length : Int) = true := by rw [ltB_true]; omega
      simp -implicitDefEqProofs only [↓reduceIte, PT.ev, BE.safe, BE.pe, IE.pe, PEnv.at, List.getD_cons_zero, List.getD_cons_succ, List.getElem?_cons_zero, List.getElem?_cons_succ, locOf, locOn, readLoc, takeN, Nat.add_zero, List.drop_zero, List.length_cons, List.length_nil, Nat.reduceAdd, Nat.le_refl, if_true, if_false, Bool.false_eq_true, List.take_succ_cons, List.take_zero, bindK, bindRes, bind1, Option.map_some, Option.bind_some, PEnv.push, List.cons_append, List.nil_append, List.append_nil, SV.pvs, SV.pv, BE.all, Bool.and_self, Bool.not_true, Bool.not_false, List.map_cons, List.map_nil, r1, r2, s1, s2, e1, e2, e3, retP, or_true]
    · have e3 : ltB 0 (vals.length : Int) = false := by rw [ltB_false]; omega
      simp -implicitDefEqProofs only [↓reduceIte, PT.ev, BE.safe, BE.pe, IE.pe, PEnv.at, List.getD_cons_zero, List.getD_cons_succ, List.getElem?_cons_zero, List.getElem?_cons_succ, locOf, locOn, readLoc, takeN, Nat.add_zero, List.drop_zero, List.length_cons, List.length_nil, Nat.reduceAdd, Nat.le_refl, if_true, if_false, Bool.false_eq_true, List.take_succ_cons, List.take_zero, bindK, bindRes, bind1, Option.map_some, Option.bind_some, PEnv.push, List.cons_append, List.nil_append, List.append_nil, SV.pvs, SV.pv, BE.all, Bool.and_self, Bool.not_true, Bool.not_false, List.map_cons, List.map_nil, r1, r2, s1, s2, e1, e2, e3, retP, or_true]
  · have e1 : ltB 1000 (cyc.length : Int) = false := by rw [ltB_false]; omega
    by_cases h0 : 0 < cyc.length
    · have e2 : ltB 0 (cyc.length : Int) = true := by rw [ltB_true]; omega
      by_cases h2 : 0 < vals.length
      · have e3 : ltB 0 (vals.length : Int) = true := by rw [ltB_true]; omega
        have hv2 : verd l cyc vals = 2 := by rw [hfin, decide_eq_true ⟨h0, h2⟩]; simp
        rw [hv2]
        simp -implicitDefEqProofs only [↓reduceIte, PT.ev, BE.safe, BE.pe, IE.pe, PEnv.at, List.getD_cons_zero, List.getD_cons_succ, List.getElem?_cons_zero, List.getElem?_cons_succ, locOf, locOn, readLoc, takeN, Nat.add_zero, List.drop_zero, List.length_cons, List.length_nil, Nat.reduceAdd, Nat.le_refl, if_true, if_false, Bool.false_eq_true, List.take_succ_cons, List.take_zero, bindK, bindRes, bind1, Option.map_some, Option.bind_some, PEnv.push, List.cons_append, List.nil_append, List.append_nil, SV.pvs, SV.pv, BE.all, Bool.and_self, Bool.not_true, Bool.not_false, List.map_cons, List.map_nil, r1, r2, s1, s2, e1, e2, e3, retP, or_true]
      · have e3 : ltB 0 (vals.length : Int) = false := by rw [ltB_false]; omega
        rw [hfin, decide_eq_false (fun h => h2 h.2), decide_eq_false h1]
        simp -implicitDefEqProofs only [↓reduceIte, PT.ev, BE.safe, BE.pe, IE.pe, PEnv.at, List.getD_cons_zero, List.getD_cons_succ, List.getElem?_cons_zero, List.getElem?_cons_succ, locOf, locOn, readLoc, takeN, Nat.add_zero, List.drop_zero, List.length_cons, List.length_nil, Nat.reduceAdd, Nat.le_refl, if_true, if_false, Bool.false_eq_true, List.take_succ_cons, List.take_zero, bindK, bindRes, bind1, Option.map_some, Option.bind_some, PEnv.push, List.cons_append, List.nil_append, List.append_nil, SV.pvs, SV.pv, BE.all, Bool.and_self, Bool.not_true, Bool.not_false, List.map_cons, List.map_nil, r1, r2, s1, s2, e1, e2, e3]
        simpa using g0
    · have e2 : ltB 0 (cyc.length : Int) = false := by rw [ltB_false]; omega
      rw [hfin, decide_eq_false (fun h => h0 h.1), decide_eq_false h1]
      simp -implicitDefEqProofs only [↓reduceIte, PT.ev, BE.safe, BE.pe, IE.pe, PEnv.at, List.getD_cons_zero, List.getD_cons_succ, List.getElem?_cons_zero, List.getElem?_cons_succ, locOf, locOn, readLoc, takeN, Nat.add_zero, List.drop_zero, List.length_cons, List.length_nil, Nat.reduceAdd, Nat.le_refl, if_true, if_false, Bool.false_eq_true, List.take_succ_cons, List.take_zero, bindK, bindRes, bind1, Option.map_some, Option.bind_some, PEnv.push, List.cons_append, List.nil_append, List.append_nil, SV.pvs, SV.pv, BE.all, Bool.and_self, Bool.not_true, Bool.not_false, List.map_cons, List.map_nil, r1, r2, s1, s2, e1, e2]
      simpa using g0
end Go.Proofs.Ythjahianafohjaa
