/- The greatest quantities, as the reference has them. -/
import Derived.Test.YtbmfegliomkkfaaHExH
set_option linter.unusedSimpArgs false
set_option linter.unusedVariables false
set_option maxRecDepth 100000
namespace Go.Proofs.Ytbmfegliomkkfaa
open Go.Sx
theorem rprod_sem (σ : List MO) (e : Ex) (row : List PV) (hrow : IsE e row) (n : Nat) (hn : e.size + 4 ≤ n) (hbig : e.size ≤ 1000000) :
    evalF Tab n n_saleroomref11_Products [.agg row] σ = some (.agg (prods ⟨0, 0, 0, 0, 0, 0⟩ e.pre).pv, σ) := by
  obtain ⟨n, rfl⟩ : ∃ k, n = k + 1 := ⟨n - 1, by omega⟩
  obtain ⟨nrows, hcall, hnr⟩ := pre_sem σ e row hrow n (by omega) hbig
  have hnl := hnr.length
  rw [Ex.pre_len] at hnl
  generalize hall : e.pre = all at *
  have hal : all.length = e.size := by rw [← hall, Ex.pre_len]
  obtain ⟨op, a, b, c, d, e', f, v, l⟩ := e
  simp only [IsE] at hrow
  obtain ⟨x, rows, rfl, hx, hl⟩ := hrow
  obtain ⟨x1, x2, x3⟩ := rows_len hx
  have z2 : (PV.sl 9 nrows).isKind 0 = true := rfl
  have z1 : (PV.sl 9 nrows).len = nrows.length := rfl
  generalize hsz : (Ex.node op a b c d e' f v l).size = sz at *
  have loop : ∀ (fuel : Nat) (i : Nat) (w : W6), all.length - i < fuel → i ≤ all.length →
      saleroomref11_Products_S.loop (evalF Tab n) fuel 0 { i := [(i : Int), op, a, b, c, d, e', f, v, w.a, w.b, w.c, w.d, w.e, w.f], b := [], v := [.sl 9 nrows, x], m := σ, k := σ.length } = some (.agg (prods w (all.drop i)).pv, σ) := by
    intro fuel
    induction fuel with
    | zero => intro i w h; omega
    | succ fuel ihf =>
      intro i w h1 h2
      rw [Sys.loop, show saleroomref11_Products_S.loops[0]? = some saleroomref11_Products_t0 from rfl]
      simp -implicitDefEqProofs only [Option.bind_some, saleroomref11_Products_t0, PT.ev, BE.safe, BE.pe, IE.pe, PEnv.at, List.getD_cons_zero, List.getD_cons_succ, List.getElem?_cons_zero, List.getElem?_cons_succ, locOf, locOn, readLoc, takeN, Nat.add_zero, List.drop_zero, List.length_cons, List.length_nil, Nat.reduceAdd, Nat.le_refl, if_true, if_false, Bool.false_eq_true, List.take_succ_cons, List.take_zero, bindK, bindRes, bind1, Option.map_some, Option.bind_some, PEnv.push, List.cons_append, List.nil_append, List.append_nil, SV.pvs, SV.pv, BE.all, Bool.and_self, Bool.not_true, Bool.not_false, List.map_cons, List.map_nil, ltB_nat, decide_eq_true_eq, z1, z2]
      by_cases hlt : i < nrows.length
      · obtain ⟨e1, he1⟩ : ∃ e1, all[i]? = some e1 := ⟨_, List.getElem?_eq_getElem (by omega)⟩
        have hdc := drop_cons he1
        have hd := hnr.split i
        rw [hdc] at hd ⊢
        simp only [IsEs] at hd
        obtain ⟨r1, rs, hd1, hd2, hd3⟩ := hd
        have hr : nrows[i]? = some r1 := by
          have := congrArg (fun l => l[0]?) hd1
          simpa using this
        have hloc : ∀ off, locEl (i : Int) 9 off (.sl 9 nrows) = some (.row r1 off) := fun off => rows_get (rowsOf_sl 9 nrows) hr
        rw [if_pos hlt]
        obtain ⟨op1, a1, b1, c1, d1, e1', f1, v1, l1⟩ := e1
        simp only [IsE] at hd2
        obtain ⟨y, rows1, rfl, hy, hl1⟩ := hd2
        have q1 : (leB 0 (i : Int) && decide (i < nrows.length)) = true := by simp [leB, hlt]
        have q2 : (leB (-9223372036854775808) ((i : Int) + 1) && leB ((i : Int) + 1) 9223372036854775807) = true := by simp [leB]; omega
        have := ihf (i + 1) (w.mx ⟨a1, b1, c1, d1, e1', f1⟩) (by omega) (by omega)
        rw [show ((i + 1 : Nat) : Int) = (i : Int) + 1 from by omega] at this
        simp only [W6.mx] at this
        simp -implicitDefEqProofs only [PT.ev, BE.safe, BE.pe, IE.pe, PEnv.at, List.getD_cons_zero, List.getD_cons_succ, List.getElem?_cons_zero, List.getElem?_cons_succ, locOf, locOn, readLoc, takeN, Nat.add_zero, List.drop_zero, List.length_cons, List.length_nil, Nat.reduceAdd, Nat.le_refl, if_true, if_false, Bool.false_eq_true, List.take_succ_cons, List.take_zero, bindK, bindRes, bind1, Option.map_some, Option.bind_some, PEnv.push, List.cons_append, List.nil_append, List.append_nil, SV.pvs, SV.pv, BE.all, Bool.and_self, Bool.not_true, Bool.not_false, List.map_cons, List.map_nil, q1, hloc, List.drop_succ_cons, if_pos q2, prods, List.foldl_cons, Ex.want, W6.mx]
        exact this
      · have hil : i = all.length := by omega
        rw [if_neg hlt]
        subst hil
        simp -implicitDefEqProofs only [PT.ev, BE.safe, BE.pe, IE.pe, PEnv.at, List.getD_cons_zero, List.getD_cons_succ, List.getElem?_cons_zero, List.getElem?_cons_succ, locOf, locOn, readLoc, takeN, Nat.add_zero, List.drop_zero, List.length_cons, List.length_nil, Nat.reduceAdd, Nat.le_refl, if_true, if_false, Bool.false_eq_true, List.take_succ_cons, List.take_zero, bindK, bindRes, bind1, Option.map_some, Option.bind_some, PEnv.push, List.cons_append, List.nil_append, List.append_nil, SV.pvs, SV.pv, BE.all, Bool.and_self, Bool.not_true, Bool.not_false, List.map_cons, List.map_nil, retP, or_true, List.drop_length, prods, List.foldl_nil, W6.pv]
  have h0 := loop n 0 ⟨0, 0, 0, 0, 0, 0⟩ (by omega) (Nat.zero_le _)
  simp only [n_saleroomref11_Preorder] at hcall
  simp only [evalF, tab_saleroomref11_Products, Option.bind_some, Sys.run]
  show ((bindPs [.sh (.agg [_, _, _, _, _, _, _, _, _])] _).bind _) = _
  simp only [bindPs, bind1, bindK, Option.map_some, Option.bind_some, List.append_nil, List.nil_append, List.cons_append, if_true, x3]
  show (PT.ev _ saleroomref11_Products_s _).bind _ = _
  simp -implicitDefEqProofs only [saleroomref11_Products_s, PT.ev, BE.safe, BE.pe, IE.pe, PEnv.at, List.getD_cons_zero, List.getD_cons_succ, List.getElem?_cons_zero, List.getElem?_cons_succ, locOf, locOn, readLoc, takeN, Nat.add_zero, List.drop_zero, List.length_cons, List.length_nil, Nat.reduceAdd, Nat.le_refl, if_true, if_false, Bool.false_eq_true, List.take_succ_cons, List.take_zero, bindK, bindRes, bind1, Option.map_some, Option.bind_some, PEnv.push, List.cons_append, List.nil_append, List.append_nil, SV.pvs, SV.pv, BE.all, Bool.and_self, Bool.not_true, Bool.not_false, List.map_cons, List.map_nil, hcall, sl_one]
  simpa using h0
end Go.Proofs.Ytbmfegliomkkfaa
