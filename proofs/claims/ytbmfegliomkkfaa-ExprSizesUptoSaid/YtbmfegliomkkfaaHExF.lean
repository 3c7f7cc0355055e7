/- The reference's depth. -/
import Derived.Test.YtbmfegliomkkfaaHExE
set_option linter.unusedSimpArgs false
set_option linter.unusedVariables false
set_option maxRecDepth 100000
namespace Go.Proofs.Ytbmfegliomkkfaa
open Go.Sx
theorem rdepth_sem (σ : List MO) : ∀ (e : Ex) (row : List PV), IsE e row → ∀ n, e.size + 2 ≤ n → e.size ≤ 1000000 → evalF Tab n n_saleroomref11_Depth [.agg row] σ = some (.int .i64 e.depth, σ) := by
  intro e
  induction hN : e.size using Nat.strongRecOn generalizing e with
  | _ N ih =>
    subst hN
    intro row hrow n hn hbig
    obtain ⟨op, a, b, c, d, e', f, v, l⟩ := e
    simp only [IsE] at hrow
    obtain ⟨x, rows, rfl, hx, hl⟩ := hrow
    obtain ⟨x1, x2, x3⟩ := rows_len hx
    simp only [Ex.size] at ih hn hbig
    obtain ⟨n, rfl⟩ : ∃ k, n = k + 1 := ⟨n - 1, by omega⟩
    have hlen := hl.length
    have hsl := sizes_len l
    have loop : ∀ (fuel : Nat) (i : Nat) (acc : Int), l.length - i < fuel → i ≤ l.length → 0 ≤ acc → acc ≤ sizes l →
        saleroomref11_Depth_S.loop (evalF Tab n) fuel 0 { i := [acc, (i : Int), op, a, b, c, d, e', f, v], b := [], v := [x], m := σ, k := σ.length } = some (.int .i64 (depths acc (l.drop i) + 1), σ) := by
      intro fuel
      induction fuel with
      | zero => intro i acc h; omega
      | succ fuel ihf =>
        intro i acc h1 h2 h3 h4
        rw [Sys.loop, show saleroomref11_Depth_S.loops[0]? = some saleroomref11_Depth_t0 from rfl]
        simp -implicitDefEqProofs only [Option.bind_some, saleroomref11_Depth_t0, PT.ev, BE.safe, BE.pe, IE.pe, PEnv.at, List.getD_cons_zero, List.getD_cons_succ, List.getElem?_cons_zero, List.getElem?_cons_succ, locOf, locOn, readLoc, takeN, Nat.add_zero, List.drop_zero, List.length_cons, List.length_nil, Nat.reduceAdd, Nat.le_refl, if_true, if_false, Bool.false_eq_true, List.take_succ_cons, List.take_zero, bindK, bindRes, bind1, Option.map_some, Option.bind_some, PEnv.push, List.cons_append, List.nil_append, List.append_nil, SV.pvs, SV.pv, BE.all, Bool.and_self, Bool.not_true, Bool.not_false, List.map_cons, List.map_nil, ltB_nat, decide_eq_true_eq, x1, x2]
        by_cases hlt : i < rows.length
        · obtain ⟨e1, he1⟩ : ∃ e1, l[i]? = some e1 := ⟨_, List.getElem?_eq_getElem (by omega)⟩
          have hdc := drop_cons he1
          have hd := hl.split i
          rw [hdc] at hd ⊢
          simp only [IsEs] at hd
          obtain ⟨r1, rs, hd1, hd2, hd3⟩ := hd
          have hr : rows[i]? = some r1 := by
            have := congrArg (fun l => l[0]?) hd1
            simpa using this
          have hloc := rows_get (off := 0) hx hr
          rw [if_pos hlt]
          have hsz := sizes_mem (List.mem_of_getElem? he1)
          have hdl := Ex.depth_le e1
          have hcall := ih _ (Nat.lt_succ_of_le hsz) _ rfl _ hd2 n (by omega) (by omega)
          obtain ⟨op1, a1, b1, c1, d1, e1', f1, v1, l1⟩ := e1
          have hd2' := hd2
          simp only [IsE] at hd2'
          obtain ⟨y, rows1, rfl, hy, hl1⟩ := hd2'
          obtain ⟨y1, y2, y3⟩ := rows_len hy
          generalize hy0 : Ex.node op1 a1 b1 c1 d1 e1' f1 v1 l1 = y0 at *
          have q1 : (leB 0 (i : Int) && decide (i < rows.length)) = true := by simp [leB, hlt]
          have q2 : (leB (-9223372036854775808) ((i : Int) + 1) && leB ((i : Int) + 1) 9223372036854775807) = true := by simp [leB]; omega
          have := ihf (i + 1) (mxI acc y0.depth) (by omega) (by omega) (by simp only [mxI]; split <;> omega) (by simp only [mxI]; split <;> omega)
          rw [show ((i + 1 : Nat) : Int) = (i : Int) + 1 from by omega] at this
          simp only [n_saleroomref11_Depth] at hcall
          rw [if_pos q1]
          simp -implicitDefEqProofs only [PT.ev, BE.safe, BE.pe, IE.pe, PEnv.at, List.getD_cons_zero, List.getD_cons_succ, List.getElem?_cons_zero, List.getElem?_cons_succ, locOf, locOn, readLoc, takeN, Nat.add_zero, List.drop_zero, List.length_cons, List.length_nil, Nat.reduceAdd, Nat.le_refl, if_true, if_false, Bool.false_eq_true, List.take_succ_cons, List.take_zero, bindK, bindRes, bind1, Option.map_some, Option.bind_some, PEnv.push, List.cons_append, List.nil_append, List.append_nil, SV.pvs, SV.pv, BE.all, Bool.and_self, Bool.not_true, Bool.not_false, List.map_cons, List.map_nil, hloc, y3, hcall, if_pos q2]
          exact this
        · have hil : i = l.length := by omega
          rw [if_neg hlt]
          have q2 : (leB (-9223372036854775808) (acc + 1) && leB (acc + 1) 9223372036854775807) = true := by simp [leB]; omega
          subst hil
          simp -implicitDefEqProofs only [PT.ev, BE.safe, BE.pe, IE.pe, PEnv.at, List.getD_cons_zero, List.getD_cons_succ, List.getElem?_cons_zero, List.getElem?_cons_succ, locOf, locOn, readLoc, takeN, Nat.add_zero, List.drop_zero, List.length_cons, List.length_nil, Nat.reduceAdd, Nat.le_refl, if_true, if_false, Bool.false_eq_true, List.take_succ_cons, List.take_zero, bindK, bindRes, bind1, Option.map_some, Option.bind_some, PEnv.push, List.cons_append, List.nil_append, List.append_nil, SV.pvs, SV.pv, BE.all, Bool.and_self, Bool.not_true, Bool.not_false, List.map_cons, List.map_nil, retP, or_true, if_pos q2, List.drop_length, depths]
    have h0 := loop n 0 0 (by omega) (Nat.zero_le _) (Int.le_refl _) (by omega)
    simp only [evalF, tab_saleroomref11_Depth, Option.bind_some, Sys.run]
    show ((bindPs [.sh (.agg [_, _, _, _, _, _, _, _, _])] _).bind _) = _
    simp only [bindPs, bind1, bindK, Option.map_some, Option.bind_some, List.append_nil, List.nil_append, List.cons_append, if_true, x3]
    show (PT.ev _ saleroomref11_Depth_s _).bind _ = _
    simp -implicitDefEqProofs only [saleroomref11_Depth_s, PT.ev, BE.safe, BE.pe, IE.pe, PEnv.at, List.getD_cons_zero, List.getD_cons_succ, List.getElem?_cons_zero, List.getElem?_cons_succ, locOf, locOn, readLoc, takeN, Nat.add_zero, List.drop_zero, List.length_cons, List.length_nil, Nat.reduceAdd, Nat.le_refl, if_true, if_false, Bool.false_eq_true, List.take_succ_cons, List.take_zero, bindK, bindRes, bind1, Option.map_some, Option.bind_some, PEnv.push, List.cons_append, List.nil_append, List.append_nil, SV.pvs, SV.pv, BE.all, Bool.and_self, Bool.not_true, Bool.not_false, List.map_cons, List.map_nil]
    simpa [Ex.depth] using h0
end Go.Proofs.Ytbmfegliomkkfaa
