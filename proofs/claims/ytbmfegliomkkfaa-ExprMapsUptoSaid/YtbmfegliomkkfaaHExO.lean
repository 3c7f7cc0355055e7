/- Equal, the program's and the reference's. -/
import Derived.Test.YtbmfegliomkkfaaHExI
import Derived.Test.YtbmfegliomkkfaaHTxZ
set_option linter.unusedSimpArgs false
set_option linter.unusedVariables false
set_option maxRecDepth 100000
namespace Go.Proofs.Ytbmfegliomkkfaa
open Go.Sx
mutual
def Ex.beq : Ex → Ex → Bool
  | .node op a b c d e f v l, .node op' a' b' c' d' e' f' v' l' => eqB op op' && (eqB a a' && (eqB b b' && (eqB c c' && (eqB d d' && (eqB e e' && eqB f f'))))) && eqB v v' && decide (l.length = l'.length) && beqs l l'
def beqs : List Ex → List Ex → Bool
  | [], _ => true
  | _ :: _, [] => true
  | x :: l, y :: m => x.beq y && beqs l m
end
theorem eqB_comm (x y : Int) : eqB x y = eqB y x := by unfold eqB; congr 1; rw [eq_iff_iff]; exact ⟨Eq.symm, Eq.symm⟩
mutual
theorem Ex.beq_refl : ∀ e : Ex, e.beq e = true
  | .node _ _ _ _ _ _ _ _ l => by simp [Ex.beq, eqB_self, beqs_refl l]
theorem beqs_refl : ∀ l : List Ex, beqs l l = true
  | [] => rfl
  | e :: l => by simp [beqs, e.beq_refl, beqs_refl l]
end
mutual
theorem Ex.beq_comm : ∀ e e' : Ex, e.beq e' = e'.beq e
  | .node op a b c d e f v l, .node op' a' b' c' d' e' f' v' l' => by
    simp only [Ex.beq, eqB_comm op, eqB_comm a, eqB_comm b, eqB_comm c, eqB_comm d, eqB_comm e, eqB_comm f, eqB_comm v, beqs_comm l l']
    rw [show decide (l.length = l'.length) = decide (l'.length = l.length) from by congr 1; rw [eq_iff_iff]; exact ⟨Eq.symm, Eq.symm⟩]
theorem beqs_comm : ∀ l l' : List Ex, beqs l l' = beqs l' l
  | [], [] => rfl
  | [], _ :: _ => rfl
  | _ :: _, [] => rfl
  | e :: l, e' :: l' => by simp only [beqs, e.beq_comm e', beqs_comm l l']
end
theorem equal_sem (σ : List MO) : ∀ (e : Ex) (row : List PV), IsE e row → ∀ (e2 : Ex) (row2 : List PV), IsE e2 row2 → ∀ n, e.size + 2 ≤ n → e.size ≤ 1000000 → evalF Tab n n_expr_Equal [.agg row, .agg row2] σ = some (.bool (e.beq e2), σ) := by
  intro e
  induction hN : e.size using Nat.strongRecOn generalizing e with
  | _ N ih =>
    subst hN
    intro row hrow e2 row2 hrow2 n hn hbig
    obtain ⟨op, a, b, c, d, e', f, v, l⟩ := e
    obtain ⟨op2, a2, b2, c2, d2, e2', f2, v2, l2⟩ := e2
    simp only [IsE] at hrow hrow2
    obtain ⟨x, rows, rfl, hx, hl⟩ := hrow
    obtain ⟨x1, x2, x3⟩ := rows_len hx
    obtain ⟨y, rows2, rfl, hy, hl2⟩ := hrow2
    obtain ⟨y1, y2, y3⟩ := rows_len hy
    simp only [Ex.size] at ih hn hbig
    obtain ⟨n, rfl⟩ : ∃ k, n = k + 1 := ⟨n - 1, by omega⟩
    have hlen := hl.length
    have hlen2 := hl2.length
    have hsl := sizes_len l
    have loop : l.length = l2.length → ∀ (fuel : Nat) (i : Nat) (is : List Int) (ys : List PV), l.length - i < fuel → i ≤ l.length → is.length = 16 →
        expr_Equal_S.loop (evalF Tab n) fuel 0 { i := [(rows.length : Int), (i : Int)] ++ is, b := [], v := [x, y], m := σ, k := σ.length } = some (.bool (beqs (l.drop i) (l2.drop i)), σ) := by
      intro hll fuel
      induction fuel with
      | zero => intro i is ys h; omega
      | succ fuel ihf =>
        intro i is ys h1 h2 h3
        match is, h3 with
        | [j0, j1, j2, j3, j4, j5, j6, j7, j8, j9, j10, j11, j12, j13, j14, j15], _ =>
        rw [Sys.loop, show expr_Equal_S.loops[0]? = some expr_Equal_t0 from rfl]
        simp -implicitDefEqProofs only [Option.bind_some, expr_Equal_t0, ↓reduceIte, PT.ev, BE.safe, BE.pe, IE.pe, PEnv.at, List.getD_cons_zero, List.getD_cons_succ, List.getElem?_cons_zero, List.getElem?_cons_succ, locOf, locOn, readLoc, takeN, Nat.add_zero, List.drop_zero, List.length_cons, List.length_nil, Nat.reduceAdd, Nat.le_refl, if_true, if_false, Bool.false_eq_true, List.take_succ_cons, List.take_zero, bindK, bindRes, bind1, Option.map_some, Option.bind_some, PEnv.push, List.cons_append, List.nil_append, List.append_nil, SV.pvs, SV.pv, BE.all, Bool.and_self, Bool.not_true, Bool.not_false, List.map_cons, List.map_nil, ltB_nat, decide_eq_true_eq]
        by_cases hlt : i < rows.length
        · obtain ⟨e1, he1⟩ : ∃ e1, l[i]? = some e1 := ⟨_, List.getElem?_eq_getElem (by omega)⟩
          obtain ⟨e3, he3⟩ : ∃ e1, l2[i]? = some e1 := ⟨_, List.getElem?_eq_getElem (by omega)⟩
          have hd := hl.split i
          have hd' := hl2.split i
          rw [drop_cons he1] at hd ⊢
          rw [drop_cons he3] at hd' ⊢
          simp only [IsEs] at hd hd'
          obtain ⟨r1, rs, hd1, hd2, hd3⟩ := hd
          obtain ⟨r3, rs3, hd4, hd5, hd6⟩ := hd'
          have hr : rows[i]? = some r1 := head_drop hd1
          have hr3 : rows2[i]? = some r3 := head_drop hd4
          have hloc := rows_get (off := 0) hx hr
          have hloc3 := rows_get (off := 0) hy hr3
          rw [if_pos hlt]
          have hsz := sizes_mem (List.mem_of_getElem? he1)
          have hcall := ih _ (Nat.lt_succ_of_le hsz) _ rfl _ hd2 e3 r3 hd5 n (by omega) (by omega)
          simp only [beqs]
          generalize e1.beq e3 = bq at *
          obtain ⟨op1, a1, b1, c1, d1, e1', f1, v1, l1⟩ := e1
          obtain ⟨op3, a3, b3, c3, d3, e3', f3, v3, l3⟩ := e3
          simp only [IsE] at hd2 hd5
          obtain ⟨z, rows1, rfl, hz, hl1⟩ := hd2
          obtain ⟨z1, z2, z3⟩ := rows_len hz
          obtain ⟨u, rows3, rfl, hu, hl3⟩ := hd5
          obtain ⟨u1, u2, u3⟩ := rows_len hu
          have q1 : (leB 0 (i : Int) && decide (i < rows.length)) = true := by simp [leB, hlt]
          have q3 : (leB 0 (i : Int) && decide (i < rows2.length)) = true := by simp [leB]; omega
          have q2 : (leB (-9223372036854775808) ((i : Int) + 1) && leB ((i : Int) + 1) 9223372036854775807) = true := by simp [leB]; omega
          simp only [n_expr_Equal] at hcall
          simp -implicitDefEqProofs only [x1, x2, y1, y2, ltB_nat, ↓reduceIte, PT.ev, BE.safe, BE.pe, IE.pe, PEnv.at, List.getD_cons_zero, List.getD_cons_succ, List.getElem?_cons_zero, List.getElem?_cons_succ, locOf, locOn, readLoc, takeN, Nat.add_zero, List.drop_zero, List.length_cons, List.length_nil, Nat.reduceAdd, Nat.le_refl, if_true, if_false, Bool.false_eq_true, List.take_succ_cons, List.take_zero, bindK, bindRes, bind1, Option.map_some, Option.bind_some, PEnv.push, List.cons_append, List.nil_append, List.append_nil, SV.pvs, SV.pv, BE.all, Bool.and_self, Bool.not_true, Bool.not_false, List.map_cons, List.map_nil, if_pos q1, if_pos q3, hloc, hloc3, z3, u3, hcall]
          cases bq with
          | false => simp -implicitDefEqProofs only [↓reduceIte, PT.ev, BE.safe, BE.pe, IE.pe, PEnv.at, List.getD_cons_zero, List.getD_cons_succ, List.getElem?_cons_zero, List.getElem?_cons_succ, locOf, locOn, readLoc, takeN, Nat.add_zero, List.drop_zero, List.length_cons, List.length_nil, Nat.reduceAdd, Nat.le_refl, if_true, if_false, Bool.false_eq_true, List.take_succ_cons, List.take_zero, bindK, bindRes, bind1, Option.map_some, Option.bind_some, PEnv.push, List.cons_append, List.nil_append, List.append_nil, SV.pvs, SV.pv, BE.all, Bool.and_self, Bool.not_true, Bool.not_false, List.map_cons, List.map_nil, retP, or_true, Bool.false_and]
          | true =>
            simp -implicitDefEqProofs only [↓reduceIte, PT.ev, BE.safe, BE.pe, IE.pe, PEnv.at, List.getD_cons_zero, List.getD_cons_succ, List.getElem?_cons_zero, List.getElem?_cons_succ, locOf, locOn, readLoc, takeN, Nat.add_zero, List.drop_zero, List.length_cons, List.length_nil, Nat.reduceAdd, Nat.le_refl, if_true, if_false, Bool.false_eq_true, List.take_succ_cons, List.take_zero, bindK, bindRes, bind1, Option.map_some, Option.bind_some, PEnv.push, List.cons_append, List.nil_append, List.append_nil, SV.pvs, SV.pv, BE.all, Bool.and_self, Bool.not_true, Bool.not_false, List.map_cons, List.map_nil, if_pos q2, Bool.true_and]
            have := ihf (i + 1) [j0, j1, j2, j3, j4, j5, j6, j7, j8, j9, j10, j11, j12, j13, j14, j15] ys (by omega) (by omega) rfl
            rw [show ((i + 1 : Nat) : Int) = (i : Int) + 1 from by omega] at this
            exact this
        · have hil : i = l.length := by omega
          rw [if_neg hlt]
          subst hil
          simp -implicitDefEqProofs only [↓reduceIte, PT.ev, BE.safe, BE.pe, IE.pe, PEnv.at, List.getD_cons_zero, List.getD_cons_succ, List.getElem?_cons_zero, List.getElem?_cons_succ, locOf, locOn, readLoc, takeN, Nat.add_zero, List.drop_zero, List.length_cons, List.length_nil, Nat.reduceAdd, Nat.le_refl, if_true, if_false, Bool.false_eq_true, List.take_succ_cons, List.take_zero, bindK, bindRes, bind1, Option.map_some, Option.bind_some, PEnv.push, List.cons_append, List.nil_append, List.append_nil, SV.pvs, SV.pv, BE.all, Bool.and_self, Bool.not_true, Bool.not_false, List.map_cons, List.map_nil, retP, or_true, List.drop_length, beqs]
    simp only [evalF, tab_expr_Equal, Option.bind_some, Sys.run]
    show ((bindPs [.sh (.agg [_, _, _, _, _, _, _, _, _]), .sh (.agg [_, _, _, _, _, _, _, _, _])] _).bind _) = _
    simp only [bindPs, bind1, bindK, Option.map_some, Option.bind_some, List.append_nil, List.nil_append, List.cons_append, if_true, x3, y3]
    show (PT.ev _ expr_Equal_s _).bind _ = _
    simp only [Ex.beq]
    generalize hw : (eqB a a2 && (eqB b b2 && (eqB c c2 && (eqB d d2 && (eqB e' e2' && eqB f f2))))) = w
    simp -implicitDefEqProofs only [expr_Equal_s, ↓reduceIte, PT.ev, BE.safe, BE.pe, IE.pe, PEnv.at, List.getD_cons_zero, List.getD_cons_succ, List.getElem?_cons_zero, List.getElem?_cons_succ, locOf, locOn, readLoc, takeN, Nat.add_zero, List.drop_zero, List.length_cons, List.length_nil, Nat.reduceAdd, Nat.le_refl, if_true, if_false, Bool.false_eq_true, List.take_succ_cons, List.take_zero, bindK, bindRes, bind1, Option.map_some, Option.bind_some, PEnv.push, List.cons_append, List.nil_append, List.append_nil, SV.pvs, SV.pv, BE.all, Bool.and_self, Bool.not_true, Bool.not_false, List.map_cons, List.map_nil, hw]
    cases h1 : eqB op op2 with
    | false => simp -implicitDefEqProofs only [↓reduceIte, PT.ev, BE.safe, BE.pe, IE.pe, PEnv.at, List.getD_cons_zero, List.getD_cons_succ, List.getElem?_cons_zero, List.getElem?_cons_succ, locOf, locOn, readLoc, takeN, Nat.add_zero, List.drop_zero, List.length_cons, List.length_nil, Nat.reduceAdd, Nat.le_refl, if_true, if_false, Bool.false_eq_true, List.take_succ_cons, List.take_zero, bindK, bindRes, bind1, Option.map_some, Option.bind_some, PEnv.push, List.cons_append, List.nil_append, List.append_nil, SV.pvs, SV.pv, BE.all, Bool.and_self, Bool.not_true, Bool.not_false, List.map_cons, List.map_nil, retP, or_true, Bool.false_and]
    | true =>
    cases w with
    | false => simp -implicitDefEqProofs only [↓reduceIte, PT.ev, BE.safe, BE.pe, IE.pe, PEnv.at, List.getD_cons_zero, List.getD_cons_succ, List.getElem?_cons_zero, List.getElem?_cons_succ, locOf, locOn, readLoc, takeN, Nat.add_zero, List.drop_zero, List.length_cons, List.length_nil, Nat.reduceAdd, Nat.le_refl, if_true, if_false, Bool.false_eq_true, List.take_succ_cons, List.take_zero, bindK, bindRes, bind1, Option.map_some, Option.bind_some, PEnv.push, List.cons_append, List.nil_append, List.append_nil, SV.pvs, SV.pv, BE.all, Bool.and_self, Bool.not_true, Bool.not_false, List.map_cons, List.map_nil, retP, or_true, Bool.false_and, Bool.and_false]
    | true =>
    cases h3 : eqB v v2 with
    | false => simp -implicitDefEqProofs only [↓reduceIte, PT.ev, BE.safe, BE.pe, IE.pe, PEnv.at, List.getD_cons_zero, List.getD_cons_succ, List.getElem?_cons_zero, List.getElem?_cons_succ, locOf, locOn, readLoc, takeN, Nat.add_zero, List.drop_zero, List.length_cons, List.length_nil, Nat.reduceAdd, Nat.le_refl, if_true, if_false, Bool.false_eq_true, List.take_succ_cons, List.take_zero, bindK, bindRes, bind1, Option.map_some, Option.bind_some, PEnv.push, List.cons_append, List.nil_append, List.append_nil, SV.pvs, SV.pv, BE.all, Bool.and_self, Bool.not_true, Bool.not_false, List.map_cons, List.map_nil, retP, or_true, Bool.false_and, Bool.and_false]
    | true =>
    have hee : eqB (rows.length : Int) (rows2.length : Int) = decide (l.length = l2.length) := by unfold eqB; rw [hlen, hlen2]; congr 1; rw [eq_iff_iff]; omega
    by_cases hll : l.length = l2.length
    · have h0 := loop hll n 0 [op, a, b, c, d, e', f, v, op2, a2, b2, c2, d2, e2', f2, v2] [] (by omega) (Nat.zero_le _) rfl
      simp -implicitDefEqProofs only [↓reduceIte, PT.ev, BE.safe, BE.pe, IE.pe, PEnv.at, List.getD_cons_zero, List.getD_cons_succ, List.getElem?_cons_zero, List.getElem?_cons_succ, locOf, locOn, readLoc, takeN, Nat.add_zero, List.drop_zero, List.length_cons, List.length_nil, Nat.reduceAdd, Nat.le_refl, if_true, if_false, Bool.false_eq_true, List.take_succ_cons, List.take_zero, bindK, bindRes, bind1, Option.map_some, Option.bind_some, PEnv.push, List.cons_append, List.nil_append, List.append_nil, SV.pvs, SV.pv, BE.all, Bool.and_self, Bool.not_true, Bool.not_false, List.map_cons, List.map_nil, x1, x2, y1, y2, hee, hll, decide_true, Bool.true_and]
      simpa using h0
    · simp -implicitDefEqProofs only [↓reduceIte, PT.ev, BE.safe, BE.pe, IE.pe, PEnv.at, List.getD_cons_zero, List.getD_cons_succ, List.getElem?_cons_zero, List.getElem?_cons_succ, locOf, locOn, readLoc, takeN, Nat.add_zero, List.drop_zero, List.length_cons, List.length_nil, Nat.reduceAdd, Nat.le_refl, if_true, if_false, Bool.false_eq_true, List.take_succ_cons, List.take_zero, bindK, bindRes, bind1, Option.map_some, Option.bind_some, PEnv.push, List.cons_append, List.nil_append, List.append_nil, SV.pvs, SV.pv, BE.all, Bool.and_self, Bool.not_true, Bool.not_false, List.map_cons, List.map_nil, x1, x2, y1, y2, hee, hll, decide_false, retP, or_true, Bool.false_and, Bool.and_false]
theorem requal_sem (σ : List MO) : ∀ (e : Ex) (row : List PV), IsE e row → ∀ (e2 : Ex) (row2 : List PV), IsE e2 row2 → ∀ n, e.size + 2 ≤ n → e.size ≤ 1000000 → evalF Tab n n_saleroomref11_Equal [.agg row, .agg row2] σ = some (.bool (e.beq e2), σ) := by
  intro e
  induction hN : e.size using Nat.strongRecOn generalizing e with
  | _ N ih =>
    subst hN
    intro row hrow e2 row2 hrow2 n hn hbig
    obtain ⟨op, a, b, c, d, e', f, v, l⟩ := e
    obtain ⟨op2, a2, b2, c2, d2, e2', f2, v2, l2⟩ := e2
    simp only [IsE] at hrow hrow2
    obtain ⟨x, rows, rfl, hx, hl⟩ := hrow
    obtain ⟨x1, x2, x3⟩ := rows_len hx
    obtain ⟨y, rows2, rfl, hy, hl2⟩ := hrow2
    obtain ⟨y1, y2, y3⟩ := rows_len hy
    simp only [Ex.size] at ih hn hbig
    obtain ⟨n, rfl⟩ : ∃ k, n = k + 1 := ⟨n - 1, by omega⟩
    have hlen := hl.length
    have hlen2 := hl2.length
    have hsl := sizes_len l
    have loop : l.length = l2.length → ∀ (fuel : Nat) (i : Nat) (is : List Int), l.length - i < fuel → i ≤ l.length → is.length = 16 →
        saleroomref11_Equal_S.loop (evalF Tab n) fuel 0 { i := [(i : Int)] ++ is, b := [], v := [x, y], m := σ, k := σ.length } = some (.bool (beqs (l.drop i) (l2.drop i)), σ) := by
      intro hll fuel
      induction fuel with
      | zero => intro i is h; omega
      | succ fuel ihf =>
        intro i is h1 h2 h3
        match is, h3 with
        | [j0, j1, j2, j3, j4, j5, j6, j7, j8, j9, j10, j11, j12, j13, j14, j15], _ =>
        rw [Sys.loop, show saleroomref11_Equal_S.loops[0]? = some saleroomref11_Equal_t0 from rfl]
        simp -implicitDefEqProofs only [Option.bind_some, saleroomref11_Equal_t0, ↓reduceIte, PT.ev, BE.safe, BE.pe, IE.pe, PEnv.at, List.getD_cons_zero, List.getD_cons_succ, List.getElem?_cons_zero, List.getElem?_cons_succ, locOf, locOn, readLoc, takeN, Nat.add_zero, List.drop_zero, List.length_cons, List.length_nil, Nat.reduceAdd, Nat.le_refl, if_true, if_false, Bool.false_eq_true, List.take_succ_cons, List.take_zero, bindK, bindRes, bind1, Option.map_some, Option.bind_some, PEnv.push, List.cons_append, List.nil_append, List.append_nil, SV.pvs, SV.pv, BE.all, Bool.and_self, Bool.not_true, Bool.not_false, List.map_cons, List.map_nil, x1, x2, ltB_nat, decide_eq_true_eq]
        by_cases hlt : i < rows.length
        · obtain ⟨e1, he1⟩ : ∃ e1, l[i]? = some e1 := ⟨_, List.getElem?_eq_getElem (by omega)⟩
          obtain ⟨e3, he3⟩ : ∃ e1, l2[i]? = some e1 := ⟨_, List.getElem?_eq_getElem (by omega)⟩
          have hd := hl.split i
          have hd' := hl2.split i
          rw [drop_cons he1] at hd ⊢
          rw [drop_cons he3] at hd' ⊢
          simp only [IsEs] at hd hd'
          obtain ⟨r1, rs, hd1, hd2, hd3⟩ := hd
          obtain ⟨r3, rs3, hd4, hd5, hd6⟩ := hd'
          have hr : rows[i]? = some r1 := head_drop hd1
          have hr3 : rows2[i]? = some r3 := head_drop hd4
          have hloc := rows_get (off := 0) hx hr
          have hloc3 := rows_get (off := 0) hy hr3
          rw [if_pos hlt]
          have hsz := sizes_mem (List.mem_of_getElem? he1)
          have hcall := ih _ (Nat.lt_succ_of_le hsz) _ rfl _ hd2 e3 r3 hd5 n (by omega) (by omega)
          simp only [beqs]
          generalize e1.beq e3 = bq at *
          obtain ⟨op1, a1, b1, c1, d1, e1', f1, v1, l1⟩ := e1
          obtain ⟨op3, a3, b3, c3, d3, e3', f3, v3, l3⟩ := e3
          simp only [IsE] at hd2 hd5
          obtain ⟨z, rows1, rfl, hz, hl1⟩ := hd2
          obtain ⟨z1, z2, z3⟩ := rows_len hz
          obtain ⟨u, rows3, rfl, hu, hl3⟩ := hd5
          obtain ⟨u1, u2, u3⟩ := rows_len hu
          have q1 : (leB 0 (i : Int) && decide (i < rows.length)) = true := by simp [leB, hlt]
          have q3 : (leB 0 (i : Int) && decide (i < rows2.length)) = true := by simp [leB]; omega
          have q2 : (leB (-9223372036854775808) ((i : Int) + 1) && leB ((i : Int) + 1) 9223372036854775807) = true := by simp [leB]; omega
          simp only [n_saleroomref11_Equal] at hcall
          simp -implicitDefEqProofs only [x1, x2, y1, y2, ltB_nat, ↓reduceIte, PT.ev, BE.safe, BE.pe, IE.pe, PEnv.at, List.getD_cons_zero, List.getD_cons_succ, List.getElem?_cons_zero, List.getElem?_cons_succ, locOf, locOn, readLoc, takeN, Nat.add_zero, List.drop_zero, List.length_cons, List.length_nil, Nat.reduceAdd, Nat.le_refl, if_true, if_false, Bool.false_eq_true, List.take_succ_cons, List.take_zero, bindK, bindRes, bind1, Option.map_some, Option.bind_some, PEnv.push, List.cons_append, List.nil_append, List.append_nil, SV.pvs, SV.pv, BE.all, Bool.and_self, Bool.not_true, Bool.not_false, List.map_cons, List.map_nil, if_pos q1, if_pos q3, hloc, hloc3, z3, u3, hcall]
          cases bq with
          | false => simp -implicitDefEqProofs only [↓reduceIte, PT.ev, BE.safe, BE.pe, IE.pe, PEnv.at, List.getD_cons_zero, List.getD_cons_succ, List.getElem?_cons_zero, List.getElem?_cons_succ, locOf, locOn, readLoc, takeN, Nat.add_zero, List.drop_zero, List.length_cons, List.length_nil, Nat.reduceAdd, Nat.le_refl, if_true, if_false, Bool.false_eq_true, List.take_succ_cons, List.take_zero, bindK, bindRes, bind1, Option.map_some, Option.bind_some, PEnv.push, List.cons_append, List.nil_append, List.append_nil, SV.pvs, SV.pv, BE.all, Bool.and_self, Bool.not_true, Bool.not_false, List.map_cons, List.map_nil, retP, or_true, Bool.false_and]
          | true =>
            simp -implicitDefEqProofs only [↓reduceIte, PT.ev, BE.safe, BE.pe, IE.pe, PEnv.at, List.getD_cons_zero, List.getD_cons_succ, List.getElem?_cons_zero, List.getElem?_cons_succ, locOf, locOn, readLoc, takeN, Nat.add_zero, List.drop_zero, List.length_cons, List.length_nil, Nat.reduceAdd, Nat.le_refl, if_true, if_false, Bool.false_eq_true, List.take_succ_cons, List.take_zero, bindK, bindRes, bind1, Option.map_some, Option.bind_some, PEnv.push, List.cons_append, List.nil_append, List.append_nil, SV.pvs, SV.pv, BE.all, Bool.and_self, Bool.not_true, Bool.not_false, List.map_cons, List.map_nil, if_pos q2, Bool.true_and]
            have := ihf (i + 1) [j0, j1, j2, j3, j4, j5, j6, j7, j8, j9, j10, j11, j12, j13, j14, j15] (by omega) (by omega) rfl
            rw [show ((i + 1 : Nat) : Int) = (i : Int) + 1 from by omega] at this
            exact this
        · have hil : i = l.length := by omega
          rw [if_neg hlt]
          subst hil
          simp -implicitDefEqProofs only [↓reduceIte, PT.ev, BE.safe, BE.pe, IE.pe, PEnv.at, List.getD_cons_zero, List.getD_cons_succ, List.getElem?_cons_zero, List.getElem?_cons_succ, locOf, locOn, readLoc, takeN, Nat.add_zero, List.drop_zero, List.length_cons, List.length_nil, Nat.reduceAdd, Nat.le_refl, if_true, if_false, Bool.false_eq_true, List.take_succ_cons, List.take_zero, bindK, bindRes, bind1, Option.map_some, Option.bind_some, PEnv.push, List.cons_append, List.nil_append, List.append_nil, SV.pvs, SV.pv, BE.all, Bool.and_self, Bool.not_true, Bool.not_false, List.map_cons, List.map_nil, retP, or_true, List.drop_length, beqs]
    simp only [evalF, tab_saleroomref11_Equal, Option.bind_some, Sys.run]
    show ((bindPs [.sh (.agg [_, _, _, _, _, _, _, _, _]), .sh (.agg [_, _, _, _, _, _, _, _, _])] _).bind _) = _
    simp only [bindPs, bind1, bindK, Option.map_some, Option.bind_some, List.append_nil, List.nil_append, List.cons_append, if_true, x3, y3]
    show (PT.ev _ saleroomref11_Equal_s _).bind _ = _
    simp only [Ex.beq]
    generalize hw : (eqB a a2 && (eqB b b2 && (eqB c c2 && (eqB d d2 && (eqB e' e2' && eqB f f2))))) = w
    simp -implicitDefEqProofs only [saleroomref11_Equal_s, ↓reduceIte, PT.ev, BE.safe, BE.pe, IE.pe, PEnv.at, List.getD_cons_zero, List.getD_cons_succ, List.getElem?_cons_zero, List.getElem?_cons_succ, locOf, locOn, readLoc, takeN, Nat.add_zero, List.drop_zero, List.length_cons, List.length_nil, Nat.reduceAdd, Nat.le_refl, if_true, if_false, Bool.false_eq_true, List.take_succ_cons, List.take_zero, bindK, bindRes, bind1, Option.map_some, Option.bind_some, PEnv.push, List.cons_append, List.nil_append, List.append_nil, SV.pvs, SV.pv, BE.all, Bool.and_self, Bool.not_true, Bool.not_false, List.map_cons, List.map_nil, hw]
    cases h1 : eqB op op2 with
    | false => simp -implicitDefEqProofs only [↓reduceIte, PT.ev, BE.safe, BE.pe, IE.pe, PEnv.at, List.getD_cons_zero, List.getD_cons_succ, List.getElem?_cons_zero, List.getElem?_cons_succ, locOf, locOn, readLoc, takeN, Nat.add_zero, List.drop_zero, List.length_cons, List.length_nil, Nat.reduceAdd, Nat.le_refl, if_true, if_false, Bool.false_eq_true, List.take_succ_cons, List.take_zero, bindK, bindRes, bind1, Option.map_some, Option.bind_some, PEnv.push, List.cons_append, List.nil_append, List.append_nil, SV.pvs, SV.pv, BE.all, Bool.and_self, Bool.not_true, Bool.not_false, List.map_cons, List.map_nil, retP, or_true, Bool.false_and]
    | true =>
    cases w with
    | false => simp -implicitDefEqProofs only [↓reduceIte, PT.ev, BE.safe, BE.pe, IE.pe, PEnv.at, List.getD_cons_zero, List.getD_cons_succ, List.getElem?_cons_zero, List.getElem?_cons_succ, locOf, locOn, readLoc, takeN, Nat.add_zero, List.drop_zero, List.length_cons, List.length_nil, Nat.reduceAdd, Nat.le_refl, if_true, if_false, Bool.false_eq_true, List.take_succ_cons, List.take_zero, bindK, bindRes, bind1, Option.map_some, Option.bind_some, PEnv.push, List.cons_append, List.nil_append, List.append_nil, SV.pvs, SV.pv, BE.all, Bool.and_self, Bool.not_true, Bool.not_false, List.map_cons, List.map_nil, retP, or_true, Bool.false_and, Bool.and_false]
    | true =>
    cases h3 : eqB v v2 with
    | false => simp -implicitDefEqProofs only [↓reduceIte, PT.ev, BE.safe, BE.pe, IE.pe, PEnv.at, List.getD_cons_zero, List.getD_cons_succ, List.getElem?_cons_zero, List.getElem?_cons_succ, locOf, locOn, readLoc, takeN, Nat.add_zero, List.drop_zero, List.length_cons, List.length_nil, Nat.reduceAdd, Nat.le_refl, if_true, if_false, Bool.false_eq_true, List.take_succ_cons, List.take_zero, bindK, bindRes, bind1, Option.map_some, Option.bind_some, PEnv.push, List.cons_append, List.nil_append, List.append_nil, SV.pvs, SV.pv, BE.all, Bool.and_self, Bool.not_true, Bool.not_false, List.map_cons, List.map_nil, retP, or_true, Bool.false_and, Bool.and_false]
    | true =>
    have hee : eqB (rows.length : Int) (rows2.length : Int) = decide (l.length = l2.length) := by unfold eqB; rw [hlen, hlen2]; congr 1; rw [eq_iff_iff]; omega
    by_cases hll : l.length = l2.length
    · have h0 := loop hll n 0 [op, a, b, c, d, e', f, v, op2, a2, b2, c2, d2, e2', f2, v2] (by omega) (Nat.zero_le _) rfl
      simp -implicitDefEqProofs only [↓reduceIte, PT.ev, BE.safe, BE.pe, IE.pe, PEnv.at, List.getD_cons_zero, List.getD_cons_succ, List.getElem?_cons_zero, List.getElem?_cons_succ, locOf, locOn, readLoc, takeN, Nat.add_zero, List.drop_zero, List.length_cons, List.length_nil, Nat.reduceAdd, Nat.le_refl, if_true, if_false, Bool.false_eq_true, List.take_succ_cons, List.take_zero, bindK, bindRes, bind1, Option.map_some, Option.bind_some, PEnv.push, List.cons_append, List.nil_append, List.append_nil, SV.pvs, SV.pv, BE.all, Bool.and_self, Bool.not_true, Bool.not_false, List.map_cons, List.map_nil, x1, x2, y1, y2, hee, hll, decide_true, Bool.true_and]
      simpa using h0
    · simp -implicitDefEqProofs only [↓reduceIte, PT.ev, BE.safe, BE.pe, IE.pe, PEnv.at, List.getD_cons_zero, List.getD_cons_succ, List.getElem?_cons_zero, List.getElem?_cons_succ, locOf, locOn, readLoc, takeN, Nat.add_zero, List.drop_zero, List.length_cons, List.length_nil, Nat.reduceAdd, Nat.le_refl, if_true, if_false, Bool.false_eq_true, List.take_succ_cons, List.take_zero, bindK, bindRes, bind1, Option.map_some, Option.bind_some, PEnv.push, List.cons_append, List.nil_append, List.append_nil, SV.pvs, SV.pv, BE.all, Bool.and_self, Bool.not_true, Bool.not_false, List.map_cons, List.map_nil, x1, x2, y1, y2, hee, hll, decide_false, retP, or_true, Bool.false_and, Bool.and_false]
theorem equals_true (e : Ex) (row : List PV) (hrow : IsE e row) (e2 : Ex) (row2 : List PV) (hrow2 : IsE e2 row2) (n : Nat) (hn : e.size + 100 ≤ n) (hbig : e.size ≤ 1000000) (hn2 : e2.size + 100 ≤ n) (hbig2 : e2.size ≤ 1000000) (haw : evalF Tab n n_saleroomlaw11_awake [] [] = some (.bool true, [])) :
    evalF Tab (n + 1) n_saleroomlaw11_ExprEqual [.agg row, .agg row2] [] = some (.bool true, []) := by
  have c1 := few_sem [] rfl e row hrow n (by omega) hbig
  have c2 := few_sem [] rfl e2 row2 hrow2 n (by omega) hbig2
  have c3 := equal_sem [] e row hrow e2 row2 hrow2 n (by omega) hbig
  have c4 := requal_sem [] e row hrow e2 row2 hrow2 n (by omega) hbig
  have c5 := equal_sem [] e row hrow e row hrow n (by omega) hbig
  have c6 := equal_sem [] e2 row2 hrow2 e row hrow n (by omega) hbig2
  rw [e.beq_refl] at c5
  rw [e2.beq_comm] at c6
  generalize e.beq e2 = w at *
  obtain ⟨op, a, b, c, d, e', f, v, l⟩ := e
  obtain ⟨op2, a2, b2, k2, d2, e2', f2, v2, l2⟩ := e2
  simp only [IsE] at hrow hrow2
  obtain ⟨x, rows, rfl, hx, hl⟩ := hrow
  obtain ⟨x1, x2, x3⟩ := rows_len hx
  obtain ⟨y, rows2, rfl, hy, hl2⟩ := hrow2
  obtain ⟨y1, y2, y3⟩ := rows_len hy
  generalize hy0 : Ex.node op a b c d e' f v l = t0 at *
  generalize hy1 : Ex.node op2 a2 b2 k2 d2 e2' f2 v2 l2 = t1 at *
  simp only [n_saleroomlaw11_few, n_expr_Equal, n_saleroomref11_Equal, n_saleroomlaw11_awake] at c1 c2 c3 c4 c5 c6 haw
  simp only [evalF, tab_saleroomlaw11_ExprEqual, Option.bind_some, Sys.run]
  show ((bindPs [.sh (.agg [_, _, _, _, _, _, _, _, _]), .sh (.agg [_, _, _, _, _, _, _, _, _])] _).bind _) = _
  simp only [bindPs, bind1, bindK, Option.map_some, Option.bind_some, List.append_nil, List.nil_append, List.cons_append, if_true, x3, y3]
  show (PT.ev _ saleroomlaw11_ExprEqual_s _).bind _ = _
  simp -implicitDefEqProofs only [saleroomlaw11_ExprEqual_s, ↓reduceIte, PT.ev, BE.safe, BE.pe, IE.pe, PEnv.at, List.getD_cons_zero, List.getD_cons_succ, List.getElem?_cons_zero, List.getElem?_cons_succ, locOf, locOn, readLoc, takeN, Nat.add_zero, List.drop_zero, List.length_cons, List.length_nil, Nat.reduceAdd, Nat.le_refl, if_true, if_false, Bool.false_eq_true, List.take_succ_cons, List.take_zero, bindK, bindRes, bind1, Option.map_some, Option.bind_some, PEnv.push, List.cons_append, List.nil_append, List.append_nil, SV.pvs, SV.pv, BE.all, Bool.and_self, Bool.not_true, Bool.not_false, List.map_cons, List.map_nil, c1]
  by_cases h : t0.size ≤ 400
  · simp -implicitDefEqProofs only [h, decide_true, ↓reduceIte, PT.ev, BE.safe, BE.pe, IE.pe, PEnv.at, List.getD_cons_zero, List.getD_cons_succ, List.getElem?_cons_zero, List.getElem?_cons_succ, locOf, locOn, readLoc, takeN, Nat.add_zero, List.drop_zero, List.length_cons, List.length_nil, Nat.reduceAdd, Nat.le_refl, if_true, if_false, Bool.false_eq_true, List.take_succ_cons, List.take_zero, bindK, bindRes, bind1, Option.map_some, Option.bind_some, PEnv.push, List.cons_append, List.nil_append, List.append_nil, SV.pvs, SV.pv, BE.all, Bool.and_self, Bool.not_true, Bool.not_false, List.map_cons, List.map_nil, c2]
    by_cases h' : t1.size ≤ 400
    · simp -implicitDefEqProofs only [h', decide_true, ↓reduceIte, PT.ev, BE.safe, BE.pe, IE.pe, PEnv.at, List.getD_cons_zero, List.getD_cons_succ, List.getElem?_cons_zero, List.getElem?_cons_succ, locOf, locOn, readLoc, takeN, Nat.add_zero, List.drop_zero, List.length_cons, List.length_nil, Nat.reduceAdd, Nat.le_refl, if_true, if_false, Bool.false_eq_true, List.take_succ_cons, List.take_zero, bindK, bindRes, bind1, Option.map_some, Option.bind_some, PEnv.push, List.cons_append, List.nil_append, List.append_nil, SV.pvs, SV.pv, BE.all, Bool.and_self, Bool.not_true, Bool.not_false, List.map_cons, List.map_nil, c3, c4, c5, c6, haw]
      cases w <;> simp -implicitDefEqProofs only [↓reduceIte, PT.ev, BE.safe, BE.pe, IE.pe, PEnv.at, List.getD_cons_zero, List.getD_cons_succ, List.getElem?_cons_zero, List.getElem?_cons_succ, locOf, locOn, readLoc, takeN, Nat.add_zero, List.drop_zero, List.length_cons, List.length_nil, Nat.reduceAdd, Nat.le_refl, if_true, if_false, Bool.false_eq_true, List.take_succ_cons, List.take_zero, bindK, bindRes, bind1, Option.map_some, Option.bind_some, PEnv.push, List.cons_append, List.nil_append, List.append_nil, SV.pvs, SV.pv, BE.all, Bool.and_self, Bool.not_true, Bool.not_false, List.map_cons, List.map_nil, c3, c4, c5, c6, haw, retP, or_true, Bool.or_true, Bool.true_or, Bool.and_true, Bool.true_and]
    · simp -implicitDefEqProofs only [h', decide_false, ↓reduceIte, PT.ev, BE.safe, BE.pe, IE.pe, PEnv.at, List.getD_cons_zero, List.getD_cons_succ, List.getElem?_cons_zero, List.getElem?_cons_succ, locOf, locOn, readLoc, takeN, Nat.add_zero, List.drop_zero, List.length_cons, List.length_nil, Nat.reduceAdd, Nat.le_refl, if_true, if_false, Bool.false_eq_true, List.take_succ_cons, List.take_zero, bindK, bindRes, bind1, Option.map_some, Option.bind_some, PEnv.push, List.cons_append, List.nil_append, List.append_nil, SV.pvs, SV.pv, BE.all, Bool.and_self, Bool.not_true, Bool.not_false, List.map_cons, List.map_nil, haw, retP, or_true]
  · simp -implicitDefEqProofs only [h, decide_false, ↓reduceIte, PT.ev, BE.safe, BE.pe, IE.pe, PEnv.at, List.getD_cons_zero, List.getD_cons_succ, List.getElem?_cons_zero, List.getElem?_cons_succ, locOf, locOn, readLoc, takeN, Nat.add_zero, List.drop_zero, List.length_cons, List.length_nil, Nat.reduceAdd, Nat.le_refl, if_true, if_false, Bool.false_eq_true, List.take_succ_cons, List.take_zero, bindK, bindRes, bind1, Option.map_some, Option.bind_some, PEnv.push, List.cons_append, List.nil_append, List.append_nil, SV.pvs, SV.pv, BE.all, Bool.and_self, Bool.not_true, Bool.not_false, List.map_cons, List.map_nil, haw, retP, or_true]
end Go.Proofs.Ytbmfegliomkkfaa
