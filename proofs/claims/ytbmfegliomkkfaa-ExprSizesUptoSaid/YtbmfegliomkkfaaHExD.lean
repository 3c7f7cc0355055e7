/- The reference's list of nodes, its size and depth. -/
import Derived.Test.YtbmfegliomkkfaaHExC
set_option linter.unusedSimpArgs false
set_option linter.unusedVariables false
set_option maxRecDepth 100000
namespace Go.Proofs.Ytbmfegliomkkfaa
open Go.Sx
mutual
theorem IsE.lows (k : Nat) : ∀ {e : Ex} {row : List PV}, IsE e row → PV.lows k row = true
  | .node op a b c d e f v l, row, h => by
    simp only [IsE] at h
    obtain ⟨x, rows, rfl, hx, hl⟩ := h
    have := IsEs.lowss k hl
    have hxl : PV.low k x = true := by
      cases x <;> simp only [PV.rowsOf, reduceCtorEq] at hx <;> simp only [PV.low]
      split at hx
      · simp only [Option.some.injEq] at hx; subst hx; exact this
      · cases hx
    simp [PV.lows, PV.low, hxl]
theorem IsEs.lowss (k : Nat) : ∀ {l : List Ex} {rows : List (List PV)}, IsEs l rows → PV.lowss k rows = true
  | [], rows, h => by simp only [IsEs] at h; subst h; rfl
  | e :: l, rows, h => by
    simp only [IsEs] at h
    obtain ⟨r, rs, rfl, h1, h2⟩ := h
    simp [PV.lowss, IsE.lows k h1, IsEs.lowss k h2]
end
theorem IsEs.append : ∀ {l m : List Ex} {rows rows' : List (List PV)}, IsEs l rows → IsEs m rows' → IsEs (l ++ m) (rows ++ rows')
  | [], m, rows, rows', h, h' => by simp only [IsEs] at h; subst h; exact h'
  | e :: l, m, rows, rows', h, h' => by
    simp only [IsEs] at h
    obtain ⟨r, rs, rfl, h1, h2⟩ := h
    exact ⟨r, _, rfl, h1, IsEs.append h2 h'⟩
theorem sl_one (n : Nat) (rows : List (List PV)) : (PV.sl n rows).one = true := by rw [PV.one] <;> simp
theorem rowsOf_sl (n : Nat) (rows : List (List PV)) : (PV.sl n rows).rowsOf n = some rows := by simp [PV.rowsOf]
theorem pre_sem (σ : List MO) : ∀ (e : Ex) (row : List PV), IsE e row → ∀ n, e.size + 2 ≤ n → e.size ≤ 1000000 → ∃ rows, evalF Tab n n_saleroomref11_Preorder [.agg row] σ = some (.sl 9 rows, σ) ∧ IsEs e.pre rows := by
  intro e
  induction hN : e.size using Nat.strongRecOn generalizing e with
  | _ N ih =>
    subst hN
    intro row hrow n hn hbig
    obtain ⟨op, a, b, c, d, e', f, v, l⟩ := e
    have hrow0 := hrow
    simp only [IsE] at hrow
    obtain ⟨x, rows, rfl, hx, hl⟩ := hrow
    obtain ⟨x1, x2, x3⟩ := rows_len hx
    simp only [Ex.size] at ih hn hbig
    obtain ⟨n, rfl⟩ : ∃ k, n = k + 1 := ⟨n - 1, by omega⟩
    have hlen := hl.length
    have loop : ∀ (fuel : Nat) (i : Nat) (done : List Ex) (acc : List (List PV)), l.length - i < fuel → i ≤ l.length → IsEs done acc → done.length + sizes (l.drop i) ≤ 1000000 →
        ∃ out, saleroomref11_Preorder_S.loop (evalF Tab n) fuel 0 { i := [(i : Int), op, a, b, c, d, e', f, v], b := [], v := [.sl 9 acc, x], m := σ, k := σ.length } = some (.sl 9 out, σ) ∧ IsEs (done ++ pres (l.drop i)) out := by
      intro fuel
      induction fuel with
      | zero => intro i done acc h; omega
      | succ fuel ihf =>
        intro i done acc h1 h2 h3 h4
        rw [Sys.loop, show saleroomref11_Preorder_S.loops[0]? = some saleroomref11_Preorder_t0 from rfl]
        simp -implicitDefEqProofs only [Option.bind_some, saleroomref11_Preorder_t0, PT.ev, BE.safe, BE.pe, IE.pe, PEnv.at, List.getD_cons_zero, List.getD_cons_succ, List.getElem?_cons_zero, List.getElem?_cons_succ, locOf, locOn, readLoc, takeN, Nat.add_zero, List.drop_zero, List.length_cons, List.length_nil, Nat.reduceAdd, Nat.le_refl, if_true, if_false, Bool.false_eq_true, List.take_succ_cons, List.take_zero, bindK, bindRes, bind1, Option.map_some, Option.bind_some, PEnv.push, List.cons_append, List.nil_append, List.append_nil, SV.pvs, SV.pv, BE.all, Bool.and_self, Bool.not_true, Bool.not_false, List.map_cons, List.map_nil, ltB_nat, decide_eq_true_eq, x1, x2]
        by_cases hlt : i < rows.length
        · obtain ⟨e1, he1⟩ : ∃ e1, l[i]? = some e1 := ⟨_, List.getElem?_eq_getElem (by omega)⟩
          have hdc := drop_cons he1
          have hd := hl.split i
          rw [hdc] at hd h4 ⊢
          simp only [IsEs] at hd
          obtain ⟨r1, rs, hd1, hd2, hd3⟩ := hd
          have hr : rows[i]? = some r1 := by
            have := congrArg (fun l => l[0]?) hd1
            simpa using this
          have hloc := rows_get (off := 0) hx hr
          rw [if_pos hlt]
          have hsz := sizes_mem (List.mem_of_getElem? he1)
          simp only [pres, sizes] at h4 ⊢
          obtain ⟨nrows, hcall, hnr⟩ := ih _ (Nat.lt_succ_of_le hsz) _ rfl _ hd2 n (by omega) (by omega)
          obtain ⟨op1, a1, b1, c1, d1, e1', f1, v1, l1⟩ := e1
          have hd2' := hd2
          simp only [IsE] at hd2'
          obtain ⟨y, rows1, rfl, hy, hl1⟩ := hd2'
          obtain ⟨y1, y2, y3⟩ := rows_len hy
          generalize hy0 : Ex.node op1 a1 b1 c1 d1 e1' f1 v1 l1 = y0 at *
          have hsl := sizes_len l
          have q1 : (leB 0 (i : Int) && decide (i < rows.length)) = true := by simp [leB, hlt]
          have q2 : (leB (-9223372036854775808) ((i : Int) + 1) && leB ((i : Int) + 1) 9223372036854775807) = true := by simp [leB]; omega
          have h3l := h3.length
          have hnl := hnr.length
          rw [Ex.pre_len] at hnl
          have q4 : acc.length + nrows.length ≤ 1000000 := by omega
          obtain ⟨out, ho1, ho2⟩ := ihf (i + 1) (done ++ y0.pre) (acc ++ nrows) (by omega) (by omega) (h3.append hnr) (by rw [List.length_append, Ex.pre_len]; omega)
          rw [show ((i + 1 : Nat) : Int) = (i : Int) + 1 from by omega] at ho1
          refine ⟨out, ?_, by rw [← List.append_assoc]; exact ho2⟩
          simp only [n_saleroomref11_Preorder] at hcall
          rw [if_pos q1]
          simp -implicitDefEqProofs only [PT.ev, BE.safe, BE.pe, IE.pe, PEnv.at, List.getD_cons_zero, List.getD_cons_succ, List.getElem?_cons_zero, List.getElem?_cons_succ, locOf, locOn, readLoc, takeN, Nat.add_zero, List.drop_zero, List.length_cons, List.length_nil, Nat.reduceAdd, Nat.le_refl, if_true, if_false, Bool.false_eq_true, List.take_succ_cons, List.take_zero, bindK, bindRes, bind1, Option.map_some, Option.bind_some, PEnv.push, List.cons_append, List.nil_append, List.append_nil, SV.pvs, SV.pv, BE.all, Bool.and_self, Bool.not_true, Bool.not_false, List.map_cons, List.map_nil, hloc, y3, hcall, sl_one, rowsOf_sl, srcRows, if_pos q4, if_pos q2]
          exact ho1
        · have hil : i = l.length := by omega
          rw [if_neg hlt]
          subst hil
          refine ⟨acc, ?_, by simpa [pres] using h3⟩
          simp -implicitDefEqProofs only [PT.ev, BE.safe, BE.pe, IE.pe, PEnv.at, List.getD_cons_zero, List.getD_cons_succ, List.getElem?_cons_zero, List.getElem?_cons_succ, locOf, locOn, readLoc, takeN, Nat.add_zero, List.drop_zero, List.length_cons, List.length_nil, Nat.reduceAdd, Nat.le_refl, if_true, if_false, Bool.false_eq_true, List.take_succ_cons, List.take_zero, bindK, bindRes, bind1, Option.map_some, Option.bind_some, PEnv.push, List.cons_append, List.nil_append, List.append_nil, SV.pvs, SV.pv, BE.all, Bool.and_self, Bool.not_true, Bool.not_false, List.map_cons, List.map_nil, retP, PV.frz, h3.lowss, if_pos]
          simp
    obtain ⟨out, ho1, ho2⟩ := loop n 0 [.node op a b c d e' f v l] [_] (by have := sizes_len l; omega) (Nat.zero_le _) ⟨_, [], rfl, hrow0, rfl⟩ (by simp only [List.length_cons, List.length_nil, List.drop_zero]; omega)
    refine ⟨out, ?_, by simpa [Ex.pre] using ho2⟩
    rw [← ho1]
    simp only [evalF, tab_saleroomref11_Preorder, Option.bind_some, Sys.run]
    show ((bindPs [.sh (.agg [_, _, _, _, _, _, _, _, _])] _).bind _) = _
    simp only [bindPs, bind1, bindK, Option.map_some, Option.bind_some, List.append_nil, List.nil_append, List.cons_append, if_true, x3]
    show (PT.ev _ saleroomref11_Preorder_s _).bind _ = _
    simp -implicitDefEqProofs only [saleroomref11_Preorder_s, PT.ev, BE.safe, BE.pe, IE.pe, PEnv.at, List.getD_cons_zero, List.getD_cons_succ, List.getElem?_cons_zero, List.getElem?_cons_succ, locOf, locOn, readLoc, takeN, Nat.add_zero, List.drop_zero, List.length_cons, List.length_nil, Nat.reduceAdd, Nat.le_refl, if_true, if_false, Bool.false_eq_true, List.take_succ_cons, List.take_zero, bindK, bindRes, bind1, Option.map_some, Option.bind_some, PEnv.push, List.cons_append, List.nil_append, List.append_nil, SV.pvs, SV.pv, BE.all, Bool.and_self, Bool.not_true, Bool.not_false, List.map_cons, List.map_nil, srcRows, List.mapM_cons, List.mapM_nil]
    simp
end Go.Proofs.Ytbmfegliomkkfaa
