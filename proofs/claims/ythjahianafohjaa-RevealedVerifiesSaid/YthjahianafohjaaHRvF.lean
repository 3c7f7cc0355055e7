/- Values that explain choices, as the reference reckons it. -/
import Derived.Test.YthjahianafohjaaHRvE
set_option linter.unusedSimpArgs false
set_option linter.unusedVariables false
set_option maxRecDepth 100000
namespace Go.Proofs.Ythjahianafohjaa
open Go.Sx
theorem drop6 {α : Type} (a b c d e f a' b' c' d' e' f' : α) : List.drop 6 [a, b, c, d, e, f, a', b', c', d', e', f'] = [a', b', c', d', e', f'] := rfl
theorem rexpl_sem (σ : List MO) (l : List Ch) (P : PV) (hP : P.rowsOf 12 = some (l.map Ch.row)) (vals : List Int) (V : PV) (hV : V.rowsOf 1 = some (ints vals)) (hl : l.length ≤ 14) (hok : ∀ x ∈ l, x.ok) (hvo : ∀ v ∈ vals, valOk v = true) (n : Nat) (hn : 400 ≤ n) :
    evalF Tab n n_saleroomref36_explains [P, V] σ = some (.bool (decide (vals.length = l.length) && explR (l.zip vals)), σ) := by
  obtain ⟨n, rfl⟩ : ∃ k, n = k + 1 := ⟨n - 1, by omega⟩
  obtain ⟨p1, p2, p3⟩ := rows_len hP
  obtain ⟨s1, s2, s3⟩ := rows_len hV
  rw [List.length_map] at p1
  rw [ints_len] at s1
  have loops : vals.length = l.length → ∀ fuel : Nat,
      (∀ i, i ≤ l.length → (l.length - i) * 20 + 1 ≤ fuel → saleroomref36_explains_S.loop (evalF Tab n) fuel 0 { i := [(i : Int)], b := [], v := [P, V], m := σ, k := σ.length } = some (.bool (((l.zip vals).drop i).all fun p => ownOk p && (l.zip vals).all (innR p)), σ)) ∧
      (∀ i k x v b0 b1 b2, l[i]? = some x → vals[i]? = some v → k ≤ l.length → (l.length - i - 1) * 20 + (l.length - k) + 3 ≤ fuel →
        saleroomref36_explains_S.loop (evalF Tab n) fuel 1 { i := [(i : Int), costW x.p x.w, (k : Int), (i : Int), x.w.a, x.w.b, x.w.c, x.w.d, x.w.e, x.w.f], b := [b0, b1, b2], v := [P, V], m := σ, k := σ.length } =
          some (.bool (((l.zip vals).drop k).all (innR (x, v)) && ((l.zip vals).drop (i + 1)).all fun p => ownOk p && (l.zip vals).all (innR p)), σ)) := by
    intro hvl fuel
    induction fuel with
    | zero => exact ⟨fun i h1 h2 => by omega, fun i k x v b0 b1 b2 hx hv h1 h2 => by omega⟩
    | succ fuel ih =>
      refine ⟨fun i h1 h2 => ?_, fun i k x v b0 b1 b2 hx hv h1 h2 => ?_⟩
      · rw [Sys.loop, show saleroomref36_explains_S.loops[0]? = some saleroomref36_explains_t0 from rfl]
        simp -implicitDefEqProofs only [Option.bind_some, saleroomref36_explains_t0, ↓reduceIte, PT.ev, BE.safe, BE.pe, IE.pe, PEnv.at, List.getD_cons_zero, List.getD_cons_succ, List.getElem?_cons_zero, List.getElem?_cons_succ, locOf, locOn, readLoc, takeN, Nat.add_zero, List.drop_zero, List.length_cons, List.length_nil, Nat.reduceAdd, Nat.le_refl, if_true, if_false, Bool.false_eq_true, List.take_succ_cons, List.take_zero, bindK, bindRes, bind1, Option.map_some, Option.bind_some, PEnv.push, List.cons_append, List.nil_append, List.append_nil, SV.pvs, SV.pv, BE.all, Bool.and_self, Bool.not_true, Bool.not_false, List.map_cons, List.map_nil, p1, p2, ltB_nat, decide_eq_true_eq]
        by_cases hlt : i < l.length
        · obtain ⟨x, hx⟩ : ∃ x, l[i]? = some x := ⟨_, List.getElem?_eq_getElem hlt⟩
          obtain ⟨v, hv⟩ : ∃ x, vals[i]? = some x := ⟨_, List.getElem?_eq_getElem (by omega)⟩
          rw [if_pos hlt, drop_cons (zip_at hx hv), List.all_cons]
          have hloc := rows_get (off := 0) hP (rows_chs hx)
          have hloc6 := rows_get (off := 6) hP (rows_chs hx)
          have hloc2 := rows_get (off := 0) hV (ints_get hv)
          have hxo := hok x (List.mem_of_getElem? hx)
          have c1 := rcost_sem σ x hxo.1 x.w hxo.2 n (by omega)
          have q1 : (leB 0 (i : Int) && decide (i < l.length)) = true := by simp [leB, hlt]
          have q3 : (leB 0 (i : Int) && decide (i < vals.length)) = true := by simp [leB]; omega
          have rcc := fun b0 b1 b2 => ih.2 i 0 x v b0 b1 b2 hx hv (Nat.zero_le _) (by omega)
          simp only [ownOk]
          generalize costW x.p x.w = u at *
          simp only [List.drop_zero, Int.cast_ofNat_Int] at rcc
          have hz : (eqB x.w.a 0 && (eqB x.w.b 0 && (eqB x.w.c 0 && (eqB x.w.d 0 && (eqB x.w.e 0 && eqB x.w.f 0))))) = x.w.isZ := rfl
          simp only [n_saleroomref36_Cost, W6.pv, row_eq] at c1
          simp -implicitDefEqProofs only [p1, p2, s1, ltB_nat, ↓reduceIte, PT.ev, BE.safe, BE.pe, IE.pe, PEnv.at, List.getD_cons_zero, List.getD_cons_succ, List.getElem?_cons_zero, List.getElem?_cons_succ, locOf, locOn, readLoc, takeN, Nat.add_zero, List.drop_zero, List.length_cons, List.length_nil, Nat.reduceAdd, Nat.le_refl, if_true, if_false, Bool.false_eq_true, List.take_succ_cons, List.take_zero, bindK, bindRes, bind1, Option.map_some, Option.bind_some, PEnv.push, List.cons_append, List.nil_append, List.append_nil, SV.pvs, SV.pv, BE.all, Bool.and_self, Bool.not_true, Bool.not_false, List.map_cons, List.map_nil, if_pos q1, if_pos q3, hloc, hloc6, hloc2, row_eq, drop6, c1, hz]
          by_cases h3 : v < u
          · have e3 : ltB v u = true := ltB_true.2 h3
            have e4 : decide (u ≤ v) = false := decide_eq_false (by omega)
            simp -implicitDefEqProofs only [e3, e4, ↓reduceIte, PT.ev, BE.safe, BE.pe, IE.pe, PEnv.at, List.getD_cons_zero, List.getD_cons_succ, List.getElem?_cons_zero, List.getElem?_cons_succ, locOf, locOn, readLoc, takeN, Nat.add_zero, List.drop_zero, List.length_cons, List.length_nil, Nat.reduceAdd, Nat.le_refl, if_true, if_false, Bool.false_eq_true, List.take_succ_cons, List.take_zero, bindK, bindRes, bind1, Option.map_some, Option.bind_some, PEnv.push, List.cons_append, List.nil_append, List.append_nil, SV.pvs, SV.pv, BE.all, Bool.and_self, Bool.not_true, Bool.not_false, List.map_cons, List.map_nil, retP, or_true, Bool.false_and]
          · have e3 : ltB v u = false := ltB_false.2 h3
            have e4 : decide (u ≤ v) = true := decide_eq_true (by omega)
            cases hzz : x.w.isZ with
            | false =>
              simp -implicitDefEqProofs only [e3, e4, ↓reduceIte, PT.ev, BE.safe, BE.pe, IE.pe, PEnv.at, List.getD_cons_zero, List.getD_cons_succ, List.getElem?_cons_zero, List.getElem?_cons_succ, locOf, locOn, readLoc, takeN, Nat.add_zero, List.drop_zero, List.length_cons, List.length_nil, Nat.reduceAdd, Nat.le_refl, if_true, if_false, Bool.false_eq_true, List.take_succ_cons, List.take_zero, bindK, bindRes, bind1, Option.map_some, Option.bind_some, PEnv.push, List.cons_append, List.nil_append, List.append_nil, SV.pvs, SV.pv, BE.all, Bool.and_self, Bool.not_true, Bool.not_false, List.map_cons, List.map_nil, p1, p2, if_pos q1, hloc6, row_eq, drop6, hz, hzz, Bool.true_and, Bool.true_or]
              have := rcc false false false
              exact this
            | true =>
              cases hv0 : eqB v 0 with
              | false => simp -implicitDefEqProofs only [e3, e4, ↓reduceIte, PT.ev, BE.safe, BE.pe, IE.pe, PEnv.at, List.getD_cons_zero, List.getD_cons_succ, List.getElem?_cons_zero, List.getElem?_cons_succ, locOf, locOn, readLoc, takeN, Nat.add_zero, List.drop_zero, List.length_cons, List.length_nil, Nat.reduceAdd, Nat.le_refl, if_true, if_false, Bool.false_eq_true, List.take_succ_cons, List.take_zero, bindK, bindRes, bind1, Option.map_some, Option.bind_some, PEnv.push, List.cons_append, List.nil_append, List.append_nil, SV.pvs, SV.pv, BE.all, Bool.and_self, Bool.not_true, Bool.not_false, List.map_cons, List.map_nil, p1, if_pos q1, hloc6, row_eq, drop6, hz, hzz, if_pos q3, hloc2, hv0, retP, or_true, Bool.true_and, Bool.or_self, Bool.false_and]
              | true =>
                simp -implicitDefEqProofs only [e3, e4, ↓reduceIte, PT.ev, BE.safe, BE.pe, IE.pe, PEnv.at, List.getD_cons_zero, List.getD_cons_succ, List.getElem?_cons_zero, List.getElem?_cons_succ, locOf, locOn, readLoc, takeN, Nat.add_zero, List.drop_zero, List.length_cons, List.length_nil, Nat.reduceAdd, Nat.le_refl, if_true, if_false, Bool.false_eq_true, List.take_succ_cons, List.take_zero, bindK, bindRes, bind1, Option.map_some, Option.bind_some, PEnv.push, List.cons_append, List.nil_append, List.append_nil, SV.pvs, SV.pv, BE.all, Bool.and_self, Bool.not_true, Bool.not_false, List.map_cons, List.map_nil, p1, if_pos q1, hloc6, row_eq, drop6, hz, hzz, if_pos q3, hloc2, hv0, p1, p2, Bool.true_and, Bool.or_true]
                have := rcc true true false
                exact this
        · rw [if_neg hlt, show i = l.length by omega, List.drop_eq_nil_of_le (by simp [hvl])]
          simp -implicitDefEqProofs only [↓reduceIte, PT.ev, BE.safe, BE.pe, IE.pe, PEnv.at, List.getD_cons_zero, List.getD_cons_succ, List.getElem?_cons_zero, List.getElem?_cons_succ, locOf, locOn, readLoc, takeN, Nat.add_zero, List.drop_zero, List.length_cons, List.length_nil, Nat.reduceAdd, Nat.le_refl, if_true, if_false, Bool.false_eq_true, List.take_succ_cons, List.take_zero, bindK, bindRes, bind1, Option.map_some, Option.bind_some, PEnv.push, List.cons_append, List.nil_append, List.append_nil, SV.pvs, SV.pv, BE.all, Bool.and_self, Bool.not_true, Bool.not_false, List.map_cons, List.map_nil, retP, or_true, List.all_nil]
      · rw [Sys.loop, show saleroomref36_explains_S.loops[1]? = some saleroomref36_explains_t1 from rfl]
        simp -implicitDefEqProofs only [Option.bind_some, saleroomref36_explains_t1, ↓reduceIte, PT.ev, BE.safe, BE.pe, IE.pe, PEnv.at, List.getD_cons_zero, List.getD_cons_succ, List.getElem?_cons_zero, List.getElem?_cons_succ, locOf, locOn, readLoc, takeN, Nat.add_zero, List.drop_zero, List.length_cons, List.length_nil, Nat.reduceAdd, Nat.le_refl, if_true, if_false, Bool.false_eq_true, List.take_succ_cons, List.take_zero, bindK, bindRes, bind1, Option.map_some, Option.bind_some, PEnv.push, List.cons_append, List.nil_append, List.append_nil, SV.pvs, SV.pv, BE.all, Bool.and_self, Bool.not_true, Bool.not_false, List.map_cons, List.map_nil, p1, p2, ltB_nat, decide_eq_true_eq]
        by_cases hlt : k < l.length
        · obtain ⟨y, hy⟩ : ∃ x, l[k]? = some x := ⟨_, List.getElem?_eq_getElem hlt⟩
          obtain ⟨u, hu⟩ : ∃ x, vals[k]? = some x := ⟨_, List.getElem?_eq_getElem (by omega)⟩
          rw [if_pos hlt, drop_cons (zip_at hy hu), List.all_cons]
          have hil := (List.getElem?_eq_some_iff.1 hx).1
          have hloc := rows_get (off := 6) hP (rows_chs hy)
          have hlocx := rows_get (off := 6) hP (rows_chs hx)
          have hlocx0 := rows_get (off := 0) hP (rows_chs hx)
          have hloc2 := rows_get (off := 0) hV (ints_get hu)
          have hloc3 := rows_get (off := 0) hV (ints_get hv)
          have hxo := hok x (List.mem_of_getElem? hx)
          have hyo := hok y (List.mem_of_getElem? hy)
          have c1 := rcost_sem σ x hxo.1 y.w hyo.2 n (by omega)
          have bd1 := cost_bd hxo.1 hyo.2
          have bd2 := cost_bd hxo.1 hxo.2
          have v1 := hvo v (List.mem_of_getElem? hv)
          have v2 := hvo u (List.mem_of_getElem? hu)
          simp only [valOk, decide_eq_true_eq] at v1 v2
          have q1 : (leB 0 (k : Int) && decide (k < l.length)) = true := by simp [leB, hlt]
          have q0 : (leB 0 (i : Int) && decide (i < l.length)) = true := by simp [leB, hil]
          have q3 : (leB 0 (k : Int) && decide (k < vals.length)) = true := by simp [leB]; omega
          have q4 : (leB 0 (i : Int) && decide (i < vals.length)) = true := by simp [leB]; omega
          have q2 : (leB (-9223372036854775808) ((k : Int) + 1) && leB ((k : Int) + 1) 9223372036854775807) = true := by simp [leB]; omega
          have q5 : (leB (-9223372036854775808) (v - costW x.p x.w) && leB (v - costW x.p x.w) 9223372036854775807) = true := by simp [leB]; omega
          have q6 : (leB (-9223372036854775808) (u - costW x.p y.w) && leB (u - costW x.p y.w) 9223372036854775807) = true := by simp [leB]; omega
          have rcc := ih.2 i (k + 1) x v b0 b1 b2 hx hv (by omega) (by omega)
          rw [show ((k + 1 : Nat) : Int) = (k : Int) + 1 from by omega] at rcc
          have hz : (eqB x.w.a y.w.a && (eqB x.w.b y.w.b && (eqB x.w.c y.w.c && (eqB x.w.d y.w.d && (eqB x.w.e y.w.e && eqB x.w.f y.w.f))))) = x.w.beq y.w := rfl
          simp only [innR] at rcc ⊢
          generalize costW x.p x.w = c at *
          generalize costW x.p y.w = d at *
          simp only [n_saleroomref36_Cost, W6.pv, row_eq] at c1
          simp -implicitDefEqProofs only [p1, p2, s1, ltB_nat, ↓reduceIte, PT.ev, BE.safe, BE.pe, IE.pe, PEnv.at, List.getD_cons_zero, List.getD_cons_succ, List.getElem?_cons_zero, List.getElem?_cons_succ, locOf, locOn, readLoc, takeN, Nat.add_zero, List.drop_zero, List.length_cons, List.length_nil, Nat.reduceAdd, Nat.le_refl, if_true, if_false, Bool.false_eq_true, List.take_succ_cons, List.take_zero, bindK, bindRes, bind1, Option.map_some, Option.bind_some, PEnv.push, List.cons_append, List.nil_append, List.append_nil, SV.pvs, SV.pv, BE.all, Bool.and_self, Bool.not_true, Bool.not_false, List.map_cons, List.map_nil, if_pos q0, if_pos q1, hloc, hlocx, row_eq, drop6, hz]
          have fin : ∀ q : Bool, (q = true → v = u) → True := fun _ _ => trivial
          by_cases h3 : v - c < u - d
          · have e3 : ltB (v - c) (u - d) = true := ltB_true.2 h3
            have e4 : decide (u - d ≤ v - c) = false := decide_eq_false (by omega)
            cases hbb : x.w.beq y.w with
            | false => simp -implicitDefEqProofs only [p1, s1, ltB_nat, ↓reduceIte, PT.ev, BE.safe, BE.pe, IE.pe, PEnv.at, List.getD_cons_zero, List.getD_cons_succ, List.getElem?_cons_zero, List.getElem?_cons_succ, locOf, locOn, readLoc, takeN, Nat.add_zero, List.drop_zero, List.length_cons, List.length_nil, Nat.reduceAdd, Nat.le_refl, if_true, if_false, Bool.false_eq_true, List.take_succ_cons, List.take_zero, bindK, bindRes, bind1, Option.map_some, Option.bind_some, PEnv.push, List.cons_append, List.nil_append, List.append_nil, SV.pvs, SV.pv, BE.all, Bool.and_self, Bool.not_true, Bool.not_false, List.map_cons, List.map_nil, if_pos q0, if_pos q1, if_pos q3, if_pos q4, if_pos q5, if_pos q6, hloc, hloc2, hloc3, hlocx0, row_eq, drop6, c1, e3, e4, retP, or_true, Bool.false_and, Bool.and_false]
            | true =>
              cases hv0 : eqB v u with
              | false => simp -implicitDefEqProofs only [p1, s1, ltB_nat, ↓reduceIte, PT.ev, BE.safe, BE.pe, IE.pe, PEnv.at, List.getD_cons_zero, List.getD_cons_succ, List.getElem?_cons_zero, List.getElem?_cons_succ, locOf, locOn, readLoc, takeN, Nat.add_zero, List.drop_zero, List.length_cons, List.length_nil, Nat.reduceAdd, Nat.le_refl, if_true, if_false, Bool.false_eq_true, List.take_succ_cons, List.take_zero, bindK, bindRes, bind1, Option.map_some, Option.bind_some, PEnv.push, List.cons_append, List.nil_append, List.append_nil, SV.pvs, SV.pv, BE.all, Bool.and_self, Bool.not_true, Bool.not_false, List.map_cons, List.map_nil, if_pos q3, if_pos q4, hloc2, hloc3, hv0, e4, retP, or_true, Bool.false_and, Bool.and_false]
              | true => simp -implicitDefEqProofs only [p1, s1, ltB_nat, ↓reduceIte, PT.ev, BE.safe, BE.pe, IE.pe, PEnv.at, List.getD_cons_zero, List.getD_cons_succ, List.getElem?_cons_zero, List.getElem?_cons_succ, locOf, locOn, readLoc, takeN, Nat.add_zero, List.drop_zero, List.length_cons, List.length_nil, Nat.reduceAdd, Nat.le_refl, if_true, if_false, Bool.false_eq_true, List.take_succ_cons, List.take_zero, bindK, bindRes, bind1, Option.map_some, Option.bind_some, PEnv.push, List.cons_append, List.nil_append, List.append_nil, SV.pvs, SV.pv, BE.all, Bool.and_self, Bool.not_true, Bool.not_false, List.map_cons, List.map_nil, if_pos q0, if_pos q1, if_pos q3, if_pos q4, if_pos q5, if_pos q6, hloc, hloc2, hloc3, hlocx0, row_eq, drop6, c1, hv0, e3, e4, retP, or_true, Bool.false_and, Bool.and_false]
          · have e3 : ltB (v - c) (u - d) = false := ltB_false.2 h3
            have e4 : decide (u - d ≤ v - c) = true := decide_eq_true (by omega)
            cases hbb : x.w.beq y.w with
            | false =>
              simp -implicitDefEqProofs only [p1, s1, ltB_nat, ↓reduceIte, PT.ev, BE.safe, BE.pe, IE.pe, PEnv.at, List.getD_cons_zero, List.getD_cons_succ, List.getElem?_cons_zero, List.getElem?_cons_succ, locOf, locOn, readLoc, takeN, Nat.add_zero, List.drop_zero, List.length_cons, List.length_nil, Nat.reduceAdd, Nat.le_refl, if_true, if_false, Bool.false_eq_true, List.take_succ_cons, List.take_zero, bindK, bindRes, bind1, Option.map_some, Option.bind_some, PEnv.push, List.cons_append, List.nil_append, List.append_nil, SV.pvs, SV.pv, BE.all, Bool.and_self, Bool.not_true, Bool.not_false, List.map_cons, List.map_nil, if_pos q0, if_pos q1, if_pos q2, if_pos q3, if_pos q4, if_pos q5, if_pos q6, hloc, hloc2, hloc3, hlocx0, row_eq, drop6, c1, e3, e4, Bool.not_false, Bool.true_or, Bool.true_and]
              exact rcc
            | true =>
              cases hv0 : eqB v u with
              | false => simp -implicitDefEqProofs only [p1, s1, ltB_nat, ↓reduceIte, PT.ev, BE.safe, BE.pe, IE.pe, PEnv.at, List.getD_cons_zero, List.getD_cons_succ, List.getElem?_cons_zero, List.getElem?_cons_succ, locOf, locOn, readLoc, takeN, Nat.add_zero, List.drop_zero, List.length_cons, List.length_nil, Nat.reduceAdd, Nat.le_refl, if_true, if_false, Bool.false_eq_true, List.take_succ_cons, List.take_zero, bindK, bindRes, bind1, Option.map_some, Option.bind_some, PEnv.push, List.cons_append, List.nil_append, List.append_nil, SV.pvs, SV.pv, BE.all, Bool.and_self, Bool.not_true, Bool.not_false, List.map_cons, List.map_nil, if_pos q3, if_pos q4, hloc2, hloc3, hv0, e4, retP, or_true, Bool.not_true, Bool.or_self, Bool.false_and, Bool.and_false]
              | true =>
                simp -implicitDefEqProofs only [p1, s1, ltB_nat, ↓reduceIte, PT.ev, BE.safe, BE.pe, IE.pe, PEnv.at, List.getD_cons_zero, List.getD_cons_succ, List.getElem?_cons_zero, List.getElem?_cons_succ, locOf, locOn, readLoc, takeN, Nat.add_zero, List.drop_zero, List.length_cons, List.length_nil, Nat.reduceAdd, Nat.le_refl, if_true, if_false, Bool.false_eq_true, List.take_succ_cons, List.take_zero, bindK, bindRes, bind1, Option.map_some, Option.bind_some, PEnv.push, List.cons_append, List.nil_append, List.append_nil, SV.pvs, SV.pv, BE.all, Bool.and_self, Bool.not_true, Bool.not_false, List.map_cons, List.map_nil, if_pos q0, if_pos q1, if_pos q2, if_pos q3, if_pos q4, if_pos q5, if_pos q6, hloc, hloc2, hloc3, hlocx0, row_eq, drop6, c1, hv0, e3, e4, Bool.not_true, Bool.or_true, Bool.true_and]
                exact rcc
        · have hk : k = l.length := by omega
          rw [if_neg hlt, hk, List.drop_eq_nil_of_le (by simp [hvl])]
          have hil := (List.getElem?_eq_some_iff.1 hx).1
          have q2 : (leB (-9223372036854775808) ((i : Int) + 1) && leB ((i : Int) + 1) 9223372036854775807) = true := by simp [leB]; omega
          have rcc := ih.1 (i + 1) (by omega) (by omega)
          rw [show ((i + 1 : Nat) : Int) = (i : Int) + 1 from by omega] at rcc
          simp -implicitDefEqProofs only [↓reduceIte, PT.ev, BE.safe, BE.pe, IE.pe, PEnv.at, List.getD_cons_zero, List.getD_cons_succ, List.getElem?_cons_zero, List.getElem?_cons_succ, locOf, locOn, readLoc, takeN, Nat.add_zero, List.drop_zero, List.length_cons, List.length_nil, Nat.reduceAdd, Nat.le_refl, if_true, if_false, Bool.false_eq_true, List.take_succ_cons, List.take_zero, bindK, bindRes, bind1, Option.map_some, Option.bind_some, PEnv.push, List.cons_append, List.nil_append, List.append_nil, SV.pvs, SV.pv, BE.all, Bool.and_self, Bool.not_true, Bool.not_false, List.map_cons, List.map_nil, if_pos q2, List.all_nil, Bool.true_and]
          exact rcc
  simp only [evalF, tab_saleroomref36_explains, Option.bind_some, Sys.run]
  show ((bindPs [.sh (.one _), .sh (.one _)] _).bind _) = _
  simp -implicitDefEqProofs only [bindPs, bind1, bindK, Option.map_some, Option.bind_some, List.append_nil, List.nil_append, List.cons_append, if_true, p3, s3]
  show (PT.ev _ saleroomref36_explains_s _).bind _ = _
  simp -implicitDefEqProofs only [saleroomref36_explains_s, ↓reduceIte, PT.ev, BE.safe, BE.pe, IE.pe, PEnv.at, List.getD_cons_zero, List.getD_cons_succ, List.getElem?_cons_zero, List.getElem?_cons_succ, locOf, locOn, readLoc, takeN, Nat.add_zero, List.drop_zero, List.length_cons, List.length_nil, Nat.reduceAdd, Nat.le_refl, if_true, if_false, Bool.false_eq_true, List.take_succ_cons, List.take_zero, bindK, bindRes, bind1, Option.map_some, Option.bind_some, PEnv.push, List.cons_append, List.nil_append, List.append_nil, SV.pvs, SV.pv, BE.all, Bool.and_self, Bool.not_true, Bool.not_false, List.map_cons, List.map_nil, p1, p2, s1, s2]
  have hee : eqB (vals.length : Int) (l.length : Int) = decide (vals.length = l.length) := by unfold eqB; congr 1; rw [eq_iff_iff]; omega
  by_cases hvl : vals.length = l.length
  · have h0 := (loops hvl n).1 0 (Nat.zero_le _) (by omega)
    have he2 : eqB (l.length : Int) (l.length : Int) = true := by rw [hvl] at hee; rw [hee]; exact decide_eq_true rfl
    simp -implicitDefEqProofs only [↓reduceIte, PT.ev, BE.safe, BE.pe, IE.pe, PEnv.at, List.getD_cons_zero, List.getD_cons_succ, List.getElem?_cons_zero, List.getElem?_cons_succ, locOf, locOn, readLoc, takeN, Nat.add_zero, List.drop_zero, List.length_cons, List.length_nil, Nat.reduceAdd, Nat.le_refl, if_true, if_false, Bool.false_eq_true, List.take_succ_cons, List.take_zero, bindK, bindRes, bind1, Option.map_some, Option.bind_some, PEnv.push, List.cons_append, List.nil_append, List.append_nil, SV.pvs, SV.pv, BE.all, Bool.and_self, Bool.not_true, Bool.not_false, List.map_cons, List.map_nil, p1, he2, hvl, decide_true, Bool.true_and]
    simpa [explR] using h0
  · simp -implicitDefEqProofs only [↓reduceIte, PT.ev, BE.safe, BE.pe, IE.pe, PEnv.at, List.getD_cons_zero, List.getD_cons_succ, List.getElem?_cons_zero, List.getElem?_cons_succ, locOf, locOn, readLoc, takeN, Nat.add_zero, List.drop_zero, List.length_cons, List.length_nil, Nat.reduceAdd, Nat.le_refl, if_true, if_false, Bool.false_eq_true, List.take_succ_cons, List.take_zero, bindK, bindRes, bind1, Option.map_some, Option.bind_some, PEnv.push, List.cons_append, List.nil_append, List.append_nil, SV.pvs, SV.pv, BE.all, Bool.and_self, Bool.not_true, Bool.not_false, List.map_cons, List.map_nil, hee, hvl, decide_false, retP, or_true, Bool.false_and]
end Go.Proofs.Ythjahianafohjaa
