/- Values that explain choices, as the program and as the reference reckon it. -/
import Derived.Test.YthjahianafohjaaHRvD
set_option linter.unusedSimpArgs false
set_option linter.unusedVariables false
set_option maxRecDepth 100000
namespace Go.Proofs.Ythjahianafohjaa
open Go.Sx
def W6.beq (x y : W6) : Bool := eqB x.a y.a && (eqB x.b y.b && (eqB x.c y.c && (eqB x.d y.d && (eqB x.e y.e && eqB x.f y.f))))
def W6.isZ (x : W6) : Bool := eqB x.a 0 && (eqB x.b 0 && (eqB x.c 0 && (eqB x.d 0 && (eqB x.e 0 && eqB x.f 0))))
theorem W6.beq_eq {x y : W6} (h : x.beq y = true) : x = y := by
  obtain ⟨a, b, c, d, e, f⟩ := x
  obtain ⟨a', b', c', d', e', f'⟩ := y
  simp only [W6.beq, Bool.and_eq_true, eqB_true] at h
  obtain ⟨rfl, rfl, rfl, rfl, rfl, rfl⟩ := h
  rfl
abbrev CV := Ch × Int
def ownOk (p : CV) : Bool := decide (costW p.1.p p.1.w ≤ p.2) && (!p.1.w.isZ || eqB p.2 0)
def innP (p q : CV) : Bool := decide (q.2 - p.2 ≤ gainC p.1 q.1)
def innR (p q : CV) : Bool := (!p.1.w.beq q.1.w || eqB p.2 q.2) && decide (q.2 - costW p.1.p q.1.w ≤ p.2 - costW p.1.p p.1.w)
def explP (z : List CV) : Bool := z.all fun p => ownOk p && z.all (innP p)
def explR (z : List CV) : Bool := z.all fun p => ownOk p && z.all (innR p)
theorem innP_iff (p q : CV) : innP p q = true ↔ q.2 - p.2 ≤ costW p.1.p q.1.w - costW p.1.p p.1.w := by
  unfold innP; rw [decide_eq_true_iff]; exact Iff.rfl
theorem innR_iff (p q : CV) : innR p q = true ↔ (p.1.w.beq q.1.w = true → p.2 = q.2) ∧ q.2 - costW p.1.p q.1.w ≤ p.2 - costW p.1.p p.1.w := by
  unfold innR
  rw [Bool.and_eq_true, decide_eq_true_iff, Bool.or_eq_true, eqB_true]
  cases p.1.w.beq q.1.w <;> simp
theorem expl_eq (z : List CV) : explP z = explR z := by
  rw [Bool.eq_iff_iff]
  simp only [explP, explR, List.all_eq_true, Bool.and_eq_true]
  constructor
  · intro h p hp
    refine ⟨(h p hp).1, fun q hq => ?_⟩
    have h1 := (innP_iff p q).1 ((h p hp).2 q hq)
    have h2 := (innP_iff q p).1 ((h q hq).2 p hp)
    refine (innR_iff p q).2 ⟨fun hb => ?_, by omega⟩
    have hw := W6.beq_eq hb
    rw [hw] at h1 h2
    omega
  · intro h p hp
    refine ⟨(h p hp).1, fun q hq => ?_⟩
    have h1 := (innR_iff p q).1 ((h p hp).2 q hq)
    exact (innP_iff p q).2 (by omega)
theorem zip_at {l : List Ch} {vals : List Int} {i : Nat} {x : Ch} {v : Int} (hx : l[i]? = some x) (hv : vals[i]? = some v) : (l.zip vals)[i]? = some (x, v) := by
  rw [List.getElem?_zip_eq_some]; exact ⟨hx, hv⟩
theorem expl_sem (σ : List MO) (l : List Ch) (P : PV) (hP : P.rowsOf 12 = some (l.map Ch.row)) (vals : List Int) (V : PV) (hV : V.rowsOf 1 = some (ints vals)) (hl : l.length ≤ 14) (hok : ∀ x ∈ l, x.ok) (hvo : ∀ v ∈ vals, valOk v = true) (n : Nat) (hn : 400 ≤ n) :
    evalF Tab n n_revealed_explains [P, V] σ = some (.bool (decide (vals.length = l.length) && explP (l.zip vals)), σ) := by
  obtain ⟨n, rfl⟩ : ∃ k, n = k + 1 := ⟨n - 1, by omega⟩
  obtain ⟨p1, p2, p3⟩ := rows_len hP
  obtain ⟨s1, s2, s3⟩ := rows_len hV
  rw [List.length_map] at p1
  rw [ints_len] at s1
  have loops : vals.length = l.length → ∀ fuel : Nat,
      (∀ i, i ≤ l.length → (l.length - i) * 20 + 1 ≤ fuel → revealed_explains_S.loop (evalF Tab n) fuel 0 { i := [(l.length : Int), (i : Int)], b := [], v := [P, V], m := σ, k := σ.length } = some (.bool (((l.zip vals).drop i).all fun p => ownOk p && (l.zip vals).all (innP p)), σ)) ∧
      (∀ i k x v b0 b1 b2, l[i]? = some x → vals[i]? = some v → k ≤ l.length → (l.length - i - 1) * 20 + (l.length - k) + 3 ≤ fuel →
        revealed_explains_S.loop (evalF Tab n) fuel 1 { i := [(i : Int), (l.length : Int), x.w.a, x.w.b, x.w.c, x.w.d, x.w.e, x.w.f, (l.length : Int), (k : Int), x.p.a, x.p.b, x.p.c, x.p.d, x.p.e, x.p.f], b := [b0, b1, b2], v := [P, V], m := σ, k := σ.length } =
          some (.bool (((l.zip vals).drop k).all (innP (x, v)) && ((l.zip vals).drop (i + 1)).all fun p => ownOk p && (l.zip vals).all (innP p)), σ)) := by
    intro hvl fuel
    induction fuel with
    | zero => exact ⟨fun i _ h => by omega, fun i k x v b0 b1 b2 _ _ _ h => by omega⟩
    | succ fuel ih =>
      refine ⟨fun i h1 h2 => ?_, fun i k x v b0 b1 b2 hx hv h1 h2 => ?_⟩
      · rw [Sys.loop, show revealed_explains_S.loops[0]? = some revealed_explains_t0 from rfl]
        simp -implicitDefEqProofs only [Option.bind_some, revealed_explains_t0, ↓reduceIte, PT.ev, BE.safe, BE.pe, IE.pe, PEnv.at, List.getD_cons_zero, List.getD_cons_succ, List.getElem?_cons_zero, List.getElem?_cons_succ, locOf, locOn, readLoc, takeN, Nat.add_zero, List.drop_zero, List.length_cons, List.length_nil, Nat.reduceAdd, Nat.le_refl, if_true, if_false, Bool.false_eq_true, List.take_succ_cons, List.take_zero, bindK, bindRes, bind1, Option.map_some, Option.bind_some, PEnv.push, List.cons_append, List.nil_append, List.append_nil, SV.pvs, SV.pv, BE.all, Bool.and_self, Bool.not_true, Bool.not_false, List.map_cons, List.map_nil, ltB_nat, decide_eq_true_eq]
        by_cases hlt : i < l.length
        · obtain ⟨x, hx⟩ : ∃ x, l[i]? = some x := ⟨_, List.getElem?_eq_getElem hlt⟩
          obtain ⟨v, hv⟩ : ∃ x, vals[i]? = some x := ⟨_, List.getElem?_eq_getElem (by omega)⟩
          rw [if_pos hlt, drop_cons (zip_at hx hv), List.all_cons]
          have hloc := rows_get (off := 0) hP (rows_chs hx)
          have hloc2 := rows_get (off := 0) hV (ints_get hv)
          have hxo := hok x (List.mem_of_getElem? hx)
          have c1 := bundle_Cost_sem σ x.p x.w hxo.1 hxo.2 n (by omega)
          have q1 : (leB 0 (i : Int) && decide (i < l.length)) = true := by simp [leB, hlt]
          have q3 : (leB 0 (i : Int) && decide (i < vals.length)) = true := by simp [leB]; omega
          have rcc := fun b0 b1 b2 => ih.2 i 0 x v b0 b1 b2 hx hv (Nat.zero_le _) (by omega)
          simp only [ownOk]
          generalize costW x.p x.w = u at *
          simp only [List.drop_zero, Int.cast_ofNat_Int] at rcc
          have hz : (eqB x.w.a 0 && (eqB x.w.b 0 && (eqB x.w.c 0 && (eqB x.w.d 0 && (eqB x.w.e 0 && eqB x.w.f 0))))) = x.w.isZ := rfl
          simp only [n_bundle_Cost, W6.pv] at c1
          simp -implicitDefEqProofs only [p1, p2, s1, ltB_nat, ↓reduceIte, PT.ev, BE.safe, BE.pe, IE.pe, PEnv.at, List.getD_cons_zero, List.getD_cons_succ, List.getElem?_cons_zero, List.getElem?_cons_succ, locOf, locOn, readLoc, takeN, Nat.add_zero, List.drop_zero, List.length_cons, List.length_nil, Nat.reduceAdd, Nat.le_refl, if_true, if_false, Bool.false_eq_true, List.take_succ_cons, List.take_zero, bindK, bindRes, bind1, Option.map_some, Option.bind_some, PEnv.push, List.cons_append, List.nil_append, List.append_nil, SV.pvs, SV.pv, BE.all, Bool.and_self, Bool.not_true, Bool.not_false, List.map_cons, List.map_nil, if_pos q1, if_pos q3, hloc, hloc2, row_eq, c1, hz]
          by_cases h3 : v < u
          · have e3 : ltB v u = true := ltB_true.2 h3
            have e4 : decide (u ≤ v) = false := decide_eq_false (by omega)
            simp -implicitDefEqProofs only [e3, e4, ↓reduceIte, PT.ev, BE.safe, BE.pe, IE.pe, PEnv.at, List.getD_cons_zero, List.getD_cons_succ, List.getElem?_cons_zero, List.getElem?_cons_succ, locOf, locOn, readLoc, takeN, Nat.add_zero, List.drop_zero, List.length_cons, List.length_nil, Nat.reduceAdd, Nat.le_refl, if_true, if_false, Bool.false_eq_true, List.take_succ_cons, List.take_zero, bindK, bindRes, bind1, Option.map_some, Option.bind_some, PEnv.push, List.cons_append, List.nil_append, List.append_nil, SV.pvs, SV.pv, BE.all, Bool.and_self, Bool.not_true, Bool.not_false, List.map_cons, List.map_nil, retP, or_true, Bool.false_and]
          · have e3 : ltB v u = false := ltB_false.2 h3
            have e4 : decide (u ≤ v) = true := decide_eq_true (by omega)
            cases hzz : x.w.isZ with
            | false =>
              simp -implicitDefEqProofs only [e3, e4, ↓reduceIte, PT.ev, BE.safe, BE.pe, IE.pe, PEnv.at, List.getD_cons_zero, List.getD_cons_succ, List.getElem?_cons_zero, List.getElem?_cons_succ, locOf, locOn, readLoc, takeN, Nat.add_zero, List.drop_zero, List.length_cons, List.length_nil, Nat.reduceAdd, Nat.le_refl, if_true, if_false, Bool.false_eq_true, List.take_succ_cons, List.take_zero, bindK, bindRes, bind1, Option.map_some, Option.bind_some, PEnv.push, List.cons_append, List.nil_append, List.append_nil, SV.pvs, SV.pv, BE.all, Bool.and_self, Bool.not_true, Bool.not_false, List.map_cons, List.map_nil, p1, p2, Bool.true_and, Bool.true_or]
              have := rcc false false false
              exact this
            | true =>
              cases hv0 : eqB v 0 with
              | false => simp -implicitDefEqProofs only [e3, e4, ↓reduceIte, PT.ev, BE.safe, BE.pe, IE.pe, PEnv.at, List.getD_cons_zero, List.getD_cons_succ, List.getElem?_cons_zero, List.getElem?_cons_succ, locOf, locOn, readLoc, takeN, Nat.add_zero, List.drop_zero, List.length_cons, List.length_nil, Nat.reduceAdd, Nat.le_refl, if_true, if_false, Bool.false_eq_true, List.take_succ_cons, List.take_zero, bindK, bindRes, bind1, Option.map_some, Option.bind_some, PEnv.push, List.cons_append, List.nil_append, List.append_nil, SV.pvs, SV.pv, BE.all, Bool.and_self, Bool.not_true, Bool.not_false, List.map_cons, List.map_nil, if_pos q3, hloc2, hv0, retP, or_true, Bool.true_and, Bool.or_self, Bool.false_and]
              | true =>
                simp -implicitDefEqProofs only [e3, e4, ↓reduceIte, PT.ev, BE.safe, BE.pe, IE.pe, PEnv.at, List.getD_cons_zero, List.getD_cons_succ, List.getElem?_cons_zero, List.getElem?_cons_succ, locOf, locOn, readLoc, takeN, Nat.add_zero, List.drop_zero, List.length_cons, List.length_nil, Nat.reduceAdd, Nat.le_refl, if_true, if_false, Bool.false_eq_true, List.take_succ_cons, List.take_zero, bindK, bindRes, bind1, Option.map_some, Option.bind_some, PEnv.push, List.cons_append, List.nil_append, List.append_nil, SV.pvs, SV.pv, BE.all, Bool.and_self, Bool.not_true, Bool.not_false, List.map_cons, List.map_nil, if_pos q3, hloc2, hv0, p1, p2, Bool.true_and, Bool.or_true]
                have := rcc true true false
                exact this
        · rw [if_neg hlt, show i = l.length by omega, List.drop_eq_nil_of_le (by simp [hvl])]
          simp -implicitDefEqProofs only [↓reduceIte, PT.ev, BE.safe, BE.pe, IE.pe, PEnv.at, List.getD_cons_zero, List.getD_cons_succ, List.getElem?_cons_zero, List.getElem?_cons_succ, locOf, locOn, readLoc, takeN, Nat.add_zero, List.drop_zero, List.length_cons, List.length_nil, Nat.reduceAdd, Nat.le_refl, if_true, if_false, Bool.false_eq_true, List.take_succ_cons, List.take_zero, bindK, bindRes, bind1, Option.map_some, Option.bind_some, PEnv.push, List.cons_append, List.nil_append, List.append_nil, SV.pvs, SV.pv, BE.all, Bool.and_self, Bool.not_true, Bool.not_false, List.map_cons, List.map_nil, retP, or_true, List.all_nil]
      · rw [Sys.loop, show revealed_explains_S.loops[1]? = some revealed_explains_t1 from rfl]
        simp -implicitDefEqProofs only [Option.bind_some, revealed_explains_t1, ↓reduceIte, PT.ev, BE.safe, BE.pe, IE.pe, PEnv.at, List.getD_cons_zero, List.getD_cons_succ, List.getElem?_cons_zero, List.getElem?_cons_succ, locOf, locOn, readLoc, takeN, Nat.add_zero, List.drop_zero, List.length_cons, List.length_nil, Nat.reduceAdd, Nat.le_refl, if_true, if_false, Bool.false_eq_true, List.take_succ_cons, List.take_zero, bindK, bindRes, bind1, Option.map_some, Option.bind_some, PEnv.push, List.cons_append, List.nil_append, List.append_nil, SV.pvs, SV.pv, BE.all, Bool.and_self, Bool.not_true, Bool.not_false, List.map_cons, List.map_nil, ltB_nat, decide_eq_true_eq]
        by_cases hlt : k < l.length
        · obtain ⟨y, hy⟩ : ∃ x, l[k]? = some x := ⟨_, List.getElem?_eq_getElem hlt⟩
          obtain ⟨u, hu⟩ : ∃ x, vals[k]? = some x := ⟨_, List.getElem?_eq_getElem (by omega)⟩
          rw [if_pos hlt, drop_cons (zip_at hy hu), List.all_cons]
          have hloc := rows_get (off := 0) hP (rows_chs hy)
          have hloc2 := rows_get (off := 0) hV (ints_get hu)
          have hloc3 := rows_get (off := 0) hV (ints_get hv)
          have hil := (List.getElem?_eq_some_iff.1 hx).1
          have hxo := hok x (List.mem_of_getElem? hx)
          have hyo := hok y (List.mem_of_getElem? hy)
          have c1 := gain0_sem σ x y hxo hyo n (by omega)
          have v1 := hvo v (List.mem_of_getElem? hv)
          have v2 := hvo u (List.mem_of_getElem? hu)
          simp only [valOk, decide_eq_true_eq] at v1 v2
          have q1 : (leB 0 (k : Int) && decide (k < l.length)) = true := by simp [leB, hlt]
          have q3 : (leB 0 (k : Int) && decide (k < vals.length)) = true := by simp [leB]; omega
          have q4 : (leB 0 (i : Int) && decide (i < vals.length)) = true := by simp [leB]; omega
          have q2 : (leB (-9223372036854775808) ((k : Int) + 1) && leB ((k : Int) + 1) 9223372036854775807) = true := by simp [leB]; omega
          have q5 : (leB (-9223372036854775808) (u - v) && leB (u - v) 9223372036854775807) = true := by simp [leB]; omega
          have rcc := ih.2 i (k + 1) x v b0 b1 b2 hx hv (by omega) (by omega)
          rw [show ((k + 1 : Nat) : Int) = (k : Int) + 1 from by omega] at rcc
          simp only [innP] at rcc ⊢
          generalize gainC x y = gg at *
          simp only [n_revealed_gain, row_eq] at c1
          simp -implicitDefEqProofs only [p1, p2, s1, ltB_nat, ↓reduceIte, PT.ev, BE.safe, BE.pe, IE.pe, PEnv.at, List.getD_cons_zero, List.getD_cons_succ, List.getElem?_cons_zero, List.getElem?_cons_succ, locOf, locOn, readLoc, takeN, Nat.add_zero, List.drop_zero, List.length_cons, List.length_nil, Nat.reduceAdd, Nat.le_refl, if_true, if_false, Bool.false_eq_true, List.take_succ_cons, List.take_zero, bindK, bindRes, bind1, Option.map_some, Option.bind_some, PEnv.push, List.cons_append, List.nil_append, List.append_nil, SV.pvs, SV.pv, BE.all, Bool.and_self, Bool.not_true, Bool.not_false, List.map_cons, List.map_nil, if_pos q1, if_pos q3, if_pos q4, if_pos q5, hloc, hloc2, hloc3, row_eq, c1]
          by_cases h3 : gg < u - v
          · have e3 : ltB gg (u - v) = true := ltB_true.2 h3
            have e4 : decide (u - v ≤ gg) = false := decide_eq_false (by omega)
            simp -implicitDefEqProofs only [e3, e4, ↓reduceIte, PT.ev, BE.safe, BE.pe, IE.pe, PEnv.at, List.getD_cons_zero, List.getD_cons_succ, List.getElem?_cons_zero, List.getElem?_cons_succ, locOf, locOn, readLoc, takeN, Nat.add_zero, List.drop_zero, List.length_cons, List.length_nil, Nat.reduceAdd, Nat.le_refl, if_true, if_false, Bool.false_eq_true, List.take_succ_cons, List.take_zero, bindK, bindRes, bind1, Option.map_some, Option.bind_some, PEnv.push, List.cons_append, List.nil_append, List.append_nil, SV.pvs, SV.pv, BE.all, Bool.and_self, Bool.not_true, Bool.not_false, List.map_cons, List.map_nil, retP, or_true, Bool.false_and]
          · have e3 : ltB gg (u - v) = false := ltB_false.2 h3
            have e4 : decide (u - v ≤ gg) = true := decide_eq_true (by omega)
            simp -implicitDefEqProofs only [e3, e4, ↓reduceIte, PT.ev, BE.safe, BE.pe, IE.pe, PEnv.at, List.getD_cons_zero, List.getD_cons_succ, List.getElem?_cons_zero, List.getElem?_cons_succ, locOf, locOn, readLoc, takeN, Nat.add_zero, List.drop_zero, List.length_cons, List.length_nil, Nat.reduceAdd, Nat.le_refl, if_true, if_false, Bool.false_eq_true, List.take_succ_cons, List.take_zero, bindK, bindRes, bind1, Option.map_some, Option.bind_some, PEnv.push, List.cons_append, List.nil_append, List.append_nil, SV.pvs, SV.pv, BE.all, Bool.and_self, Bool.not_true, Bool.not_false, List.map_cons, List.map_nil, if_pos q2, Bool.true_and]
            exact rcc
        · have hk : k = l.length := by omega
          rw [if_neg hlt, hk, List.drop_eq_nil_of_le (by simp [hvl])]
          have hil := (List.getElem?_eq_some_iff.1 hx).1
          have q2 : (leB (-9223372036854775808) ((i : Int) + 1) && leB ((i : Int) + 1) 9223372036854775807) = true := by simp [leB]; omega
          have rcc := ih.1 (i + 1) (by omega) (by omega)
          rw [show ((i + 1 : Nat) : Int) = (i : Int) + 1 from by omega] at rcc
          simp -implicitDefEqProofs only [↓reduceIte, PT.ev, BE.safe, BE.pe, IE.pe, PEnv.at, List.getD_cons_zero, List.getD_cons_succ, List.getElem?_cons_zero, List.getElem?_cons_succ, locOf, locOn, readLoc, takeN, Nat.add_zero, List.drop_zero, List.length_cons, List.length_nil, Nat.reduceAdd, Nat.le_refl, if_true, if_false, Bool.false_eq_true, List.take_succ_cons, List.take_zero, bindK, bindRes, bind1, Option.map_some, Option.bind_some, PEnv.push, List.cons_append, List.nil_append, List.append_nil, SV.pvs, SV.pv, BE.all, Bool.and_self, Bool.not_true, Bool.not_false, List.map_cons, List.map_nil, if_pos q2, List.all_nil, Bool.true_and]
          exact rcc
  simp only [evalF, tab_revealed_explains, Option.bind_some, Sys.run]
  show ((bindPs [.sh (.one _), .sh (.one _)] _).bind _) = _
  simp -implicitDefEqProofs only [bindPs, bind1, bindK, Option.map_some, Option.bind_some, List.append_nil, List.nil_append, List.cons_append, if_true, p3, s3]
  show (PT.ev _ revealed_explains_s _).bind _ = _
  simp -implicitDefEqProofs only [revealed_explains_s, ↓reduceIte, PT.ev, BE.safe, BE.pe, IE.pe, PEnv.at, List.getD_cons_zero, List.getD_cons_succ, List.getElem?_cons_zero, List.getElem?_cons_succ, locOf, locOn, readLoc, takeN, Nat.add_zero, List.drop_zero, List.length_cons, List.length_nil, Nat.reduceAdd, Nat.le_refl, if_true, if_false, Bool.false_eq_true, List.take_succ_cons, List.take_zero, bindK, bindRes, bind1, Option.map_some, Option.bind_some, PEnv.push, List.cons_append, List.nil_append, List.append_nil, SV.pvs, SV.pv, BE.all, Bool.and_self, Bool.not_true, Bool.not_false, List.map_cons, List.map_nil, p1, p2, s1, s2]
  have hee : eqB (vals.length : Int) (l.length : Int) = decide (vals.length = l.length) := by unfold eqB; congr 1; rw [eq_iff_iff]; omega
  by_cases hvl : vals.length = l.length
  · have h0 := (loops hvl n).1 0 (Nat.zero_le _) (by omega)
    have he2 : eqB (l.length : Int) (l.length : Int) = true := by rw [hvl] at hee; rw [hee]; exact decide_eq_true rfl
    simp -implicitDefEqProofs only [↓reduceIte, PT.ev, BE.safe, BE.pe, IE.pe, PEnv.at, List.getD_cons_zero, List.getD_cons_succ, List.getElem?_cons_zero, List.getElem?_cons_succ, locOf, locOn, readLoc, takeN, Nat.add_zero, List.drop_zero, List.length_cons, List.length_nil, Nat.reduceAdd, Nat.le_refl, if_true, if_false, Bool.false_eq_true, List.take_succ_cons, List.take_zero, bindK, bindRes, bind1, Option.map_some, Option.bind_some, PEnv.push, List.cons_append, List.nil_append, List.append_nil, SV.pvs, SV.pv, BE.all, Bool.and_self, Bool.not_true, Bool.not_false, List.map_cons, List.map_nil, p1, he2, hvl, decide_true, Bool.true_and]
    simpa [explP] using h0
  · simp -implicitDefEqProofs only [↓reduceIte, PT.ev, BE.safe, BE.pe, IE.pe, PEnv.at, List.getD_cons_zero, List.getD_cons_succ, List.getElem?_cons_zero, List.getElem?_cons_succ, locOf, locOn, readLoc, takeN, Nat.add_zero, List.drop_zero, List.length_cons, List.length_nil, Nat.reduceAdd, Nat.le_refl, if_true, if_false, Bool.false_eq_true, List.take_succ_cons, List.take_zero, bindK, bindRes, bind1, Option.map_some, Option.bind_some, PEnv.push, List.cons_append, List.nil_append, List.append_nil, SV.pvs, SV.pv, BE.all, Bool.and_self, Bool.not_true, Bool.not_false, List.map_cons, List.map_nil, hee, hvl, decide_false, retP, or_true, Bool.false_and]
end Go.Proofs.Ythjahianafohjaa
