/- Trees as they are laid anew; Map and Copy. -/
import Derived.Test.YtbmfegliomkkfaaHExO
import Derived.Test.YtbmfegliomkkfaaHExM
set_option linter.unusedSimpArgs false
set_option linter.unusedVariables false
set_option maxRecDepth 100000
namespace Go.Proofs.Ytbmfegliomkkfaa
open Go.Sx
def cslOf : List (List PV) → PV
  | [] => .nilS
  | r :: rs => .sl 9 (r :: rs)
mutual
def Ex.crow : Ex → List PV
  | .node op a b c d e f v l => [.int .i64 op, .int .i64 a, .int .i64 b, .int .i64 c, .int .i64 d, .int .i64 e, .int .i64 f, .int .i64 v, cslOf (crows l)]
def crows : List Ex → List (List PV)
  | [] => []
  | e :: l => e.crow :: crows l
end
theorem cslOf_rows (r : List (List PV)) : (cslOf r).rowsOf 9 = some r := by cases r <;> simp [cslOf, PV.rowsOf]
theorem cslOf_one (r : List (List PV)) : (cslOf r).one = true := by cases r <;> rfl
theorem cslOf_kind (r : List (List PV)) : (cslOf r).isKind 0 = true := by cases r <;> rfl
theorem cslOf_len (r : List (List PV)) : (cslOf r).len = r.length := by cases r <;> rfl
theorem cslOf_snoc (r : List (List PV)) (x : List PV) : .sl 9 (r ++ [x]) = cslOf (r ++ [x]) := by cases r <;> rfl
theorem crows_append : ∀ l m, crows (l ++ m) = crows l ++ crows m
  | [], m => rfl
  | e :: l, m => by simp only [List.cons_append, crows, crows_append l m]
theorem crows_length : ∀ l, (crows l).length = l.length
  | [] => rfl
  | e :: l => by simp only [crows, List.length_cons, crows_length l]
mutual
theorem Ex.crow_is : ∀ e : Ex, IsE e e.crow
  | .node _ _ _ _ _ _ _ _ l => by
    simp only [IsE, Ex.crow]
    exact ⟨_, crows l, rfl, cslOf_rows _, crows_is l⟩
theorem crows_is : ∀ l : List Ex, IsEs l (crows l)
  | [] => rfl
  | e :: l => ⟨e.crow, crows l, rfl, e.crow_is, crows_is l⟩
end
mutual
def Ex.map (g : Ex → Ex) : Ex → Ex
  | .node op a b c d e f v l => g (.node op a b c d e f v (maps g l))
def maps (g : Ex → Ex) : List Ex → List Ex
  | [] => []
  | e :: l => e.map g :: maps g l
end
mutual
theorem Ex.map_id : ∀ e : Ex, e.map id = e
  | .node _ _ _ _ _ _ _ _ l => by simp only [Ex.map, maps_id l, id]
theorem maps_id : ∀ l : List Ex, maps id l = l
  | [] => rfl
  | e :: l => by simp only [maps, e.map_id, maps_id l]
end
theorem maps_length (g : Ex → Ex) : ∀ l, (maps g l).length = l.length
  | [] => rfl
  | e :: l => by simp only [maps, List.length_cons, maps_length g l]
/-- What a mapped function does at a node, after k nodes. -/
structure MapV (C : Nat) (caps : List PV) (n0 N : Nat) (st : Nat → List MO) (g : Ex → Ex) : Prop where
  len : ∀ k, (st k).length = (st 0).length
  at_ : ∀ k x, k < N → x.len ≤ N → ∀ n, n0 ≤ n → evalF Tab n C (.agg x.crow :: caps) (st k) = some (.agg (g x).crow, st (k + 1))
theorem map_sem {C : Nat} {caps : List PV} {n0 N : Nat} {st : Nat → List MO} {g : Ex → Ex} (hV : MapV C caps n0 N st g) (hN : N ≤ 1000000) :
    ∀ (e : Ex) (row : List PV), IsE e row → ∀ k, k + e.size ≤ N → ∀ n, e.size + n0 + 1 ≤ n → evalF Tab n n_expr_Map [.agg row, .fn C caps] (st k) = some (.agg (e.map g).crow, st (k + e.size)) := by
  intro e
  induction hM : e.size using Nat.strongRecOn generalizing e with
  | _ M ih =>
    subst hM
    intro row hrow k0 hk0 n hn
    obtain ⟨op, a, b, c, d, e', f, v, l⟩ := e
    simp only [IsE] at hrow
    obtain ⟨x, rows, rfl, hx, hl⟩ := hrow
    obtain ⟨x1, x2, x3⟩ := rows_len hx
    simp only [Ex.size] at ih hn hk0 ⊢
    obtain ⟨n, rfl⟩ : ∃ k, n = k + 1 := ⟨n - 1, by omega⟩
    have hlen := hl.length
    have hsl := sizes_len l
    have loop : ∀ (fuel : Nat) (i k : Nat) (done : List Ex), l.length - i < fuel → i ≤ l.length → done.length = i → k + sizes (l.drop i) + 1 ≤ N →
        expr_Map_S.loop (evalF Tab n) fuel 0 { i := [(rows.length : Int), (i : Int), op, a, b, c, d, e', f, v], b := [], v := [.fn C caps, cslOf (crows done), x], m := st k, k := (st k0).length } = some (.agg (g (.node op a b c d e' f v (done ++ maps g (l.drop i)))).crow, st (k + sizes (l.drop i) + 1)) := by
      intro fuel
      induction fuel with
      | zero => intro i k done h; omega
      | succ fuel ihf =>
        intro i k done h1 h2 h3 h4
        rw [Sys.loop, show expr_Map_S.loops[0]? = some expr_Map_t0 from rfl]
        simp -implicitDefEqProofs only [Option.bind_some, expr_Map_t0, ↓reduceIte, PT.ev, BE.safe, BE.pe, IE.pe, PEnv.at, List.getD_cons_zero, List.getD_cons_succ, List.getElem?_cons_zero, List.getElem?_cons_succ, locOf, locOn, readLoc, takeN, Nat.add_zero, List.drop_zero, List.length_cons, List.length_nil, Nat.reduceAdd, Nat.le_refl, if_true, if_false, Bool.false_eq_true, List.take_succ_cons, List.take_zero, bindK, bindRes, bind1, Option.map_some, Option.bind_some, PEnv.push, List.cons_append, List.nil_append, List.append_nil, SV.pvs, SV.pv, BE.all, Bool.and_self, Bool.not_true, Bool.not_false, List.map_cons, List.map_nil, ltB_nat, decide_eq_true_eq]
        by_cases hlt : i < rows.length
        · obtain ⟨e1, he1⟩ : ∃ e1, l[i]? = some e1 := ⟨_, List.getElem?_eq_getElem (by omega)⟩
          have hd := hl.split i
          rw [drop_cons he1] at hd h4 ⊢
          simp only [IsEs] at hd
          obtain ⟨r1, rs, hd1, hd2, hd3⟩ := hd
          have hr : rows[i]? = some r1 := head_drop hd1
          have hloc := rows_get (off := 0) hx hr
          rw [if_pos hlt]
          have hsz := sizes_mem (List.mem_of_getElem? he1)
          simp only [maps, sizes] at h4 ⊢
          have hcall := ih _ (Nat.lt_succ_of_le hsz) _ rfl _ hd2 k (by omega) n (by omega)
          have := ihf (i + 1) (k + e1.size) (done ++ [e1.map g]) (by omega) (by omega) (by rw [List.length_append, List.length_singleton, h3]) (by omega)
          rw [crows_append, show crows [e1.map g] = [(e1.map g).crow] from rfl, ← cslOf_snoc, List.append_assoc, show k + e1.size + sizes (l.drop (i + 1)) + 1 = k + (e1.size + sizes (l.drop (i + 1))) + 1 by omega] at this
          have hdl := crows_length done
          generalize crows done = acc at *
          generalize hmx : e1.map g = e1m at *
          obtain ⟨op1, a1, b1, c1, d1, e1', f1, v1, l1⟩ := e1
          obtain ⟨op2, a2, b2, c2, d2, e2', f2, v2, l2⟩ := e1m
          simp only [IsE] at hd2
          obtain ⟨y, rows1, rfl, hy, hl1⟩ := hd2
          obtain ⟨y1, y2, y3⟩ := rows_len hy
          have w3 := cslOf_one (crows l2)
          simp only [Ex.crow] at hcall this
          generalize cslOf (crows l2) = w at *
          have q1 : (leB 0 (i : Int) && decide (i < rows.length)) = true := by simp [leB, hlt]
          have q2 : (leB (-9223372036854775808) ((i : Int) + 1) && leB ((i : Int) + 1) 9223372036854775807) = true := by simp [leB]; omega
          have q4 : acc.length + 1 ≤ 1000000 := by omega
          have q5 : 1 ≤ 1000000 := by omega
          rw [show ((i + 1 : Nat) : Int) = (i : Int) + 1 from by omega] at this
          simp only [n_expr_Map] at hcall
          simp -implicitDefEqProofs only [x1, x2, ltB_nat, ↓reduceIte, PT.ev, BE.safe, BE.pe, IE.pe, PEnv.at, List.getD_cons_zero, List.getD_cons_succ, List.getElem?_cons_zero, List.getElem?_cons_succ, locOf, locOn, readLoc, takeN, Nat.add_zero, List.drop_zero, List.length_cons, List.length_nil, Nat.reduceAdd, Nat.le_refl, if_true, if_false, Bool.false_eq_true, List.take_succ_cons, List.take_zero, bindK, bindRes, bind1, Option.map_some, Option.bind_some, PEnv.push, List.cons_append, List.nil_append, List.append_nil, SV.pvs, SV.pv, BE.all, Bool.and_self, Bool.not_true, Bool.not_false, List.map_cons, List.map_nil, if_pos q1, hloc, y3, hcall, w3, cslOf_rows, rowsOf_sl, srcRows, List.mapM_cons, List.mapM_nil, Option.bind_eq_bind, Option.pure_def, if_pos q4, if_pos q5, if_pos q2, sl_one, cslOf_one]
          exact this
        · have hil : i = l.length := by omega
          rw [if_neg hlt]
          subst hil
          have hcl := hV.at_ k (.node op a b c d e' f v done) (by omega) (by simp only [Ex.len]; omega) n (by omega)
          rw [List.drop_length] at *
          simp only [maps, List.append_nil, sizes, Nat.add_zero]
          have hlk : (st (k + 1)).length = (st k0).length := by rw [hV.len, hV.len k0]
          generalize g (.node op a b c d e' f v done) = res at *
          obtain ⟨op2, a2, b2, c2, d2, e2', f2, v2, l2⟩ := res
          have w3 := cslOf_one (crows l2)
          simp only [Ex.crow] at hcl ⊢
          generalize cslOf (crows l2) = w at *
          simp -implicitDefEqProofs only [↓reduceIte, PT.ev, BE.safe, BE.pe, IE.pe, PEnv.at, List.getD_cons_zero, List.getD_cons_succ, List.getElem?_cons_zero, List.getElem?_cons_succ, locOf, locOn, readLoc, takeN, Nat.add_zero, List.drop_zero, List.length_cons, List.length_nil, Nat.reduceAdd, Nat.le_refl, if_true, if_false, Bool.false_eq_true, List.take_succ_cons, List.take_zero, bindK, bindRes, bind1, Option.map_some, Option.bind_some, PEnv.push, List.cons_append, List.nil_append, List.append_nil, SV.pvs, SV.pv, BE.all, Bool.and_self, Bool.not_true, Bool.not_false, List.map_cons, List.map_nil, hcl, w3, cslOf_one, retP, hlk, or_true]
    have h0 := loop n 0 k0 [] (by omega) (Nat.zero_le _) rfl (by rw [List.drop_zero]; omega)
    simp only [evalF, tab_expr_Map, Option.bind_some, Sys.run]
    show ((bindPs [.sh (.agg [_, _, _, _, _, _, _, _, _]), .sh (.one _)] _).bind _) = _
    have hf1 : (PV.fn C caps).one = true := rfl
    have hf2 : (PV.fn C caps).isKind 2 = true := rfl
    have hf3 : (PV.fn C caps).isNil = false := rfl
    have hf4 : (PV.fn C caps).nilOk = true := rfl
    simp only [bindPs, bind1, bindK, Option.map_some, Option.bind_some, List.append_nil, List.nil_append, List.cons_append, if_true, x3, hf1]
    show (PT.ev _ expr_Map_s _).bind _ = _
    simp -implicitDefEqProofs only [expr_Map_s, ↓reduceIte, PT.ev, BE.safe, BE.pe, IE.pe, PEnv.at, List.getD_cons_zero, List.getD_cons_succ, List.getElem?_cons_zero, List.getElem?_cons_succ, locOf, locOn, readLoc, takeN, Nat.add_zero, List.drop_zero, List.length_cons, List.length_nil, Nat.reduceAdd, Nat.le_refl, if_true, if_false, Bool.false_eq_true, List.take_succ_cons, List.take_zero, bindK, bindRes, bind1, Option.map_some, Option.bind_some, PEnv.push, List.cons_append, List.nil_append, List.append_nil, SV.pvs, SV.pv, BE.all, Bool.and_self, Bool.not_true, Bool.not_false, List.map_cons, List.map_nil, hf2, hf3, hf4, x1, x2]
    simp only [Ex.map, crows, cslOf, List.nil_append, List.drop_zero] at h0 ⊢
    rw [show k0 + (sizes l + 1) = k0 + sizes l + 1 by omega]
    simpa using h0
theorem copy_sem (σ : List MO) (e : Ex) (row : List PV) (hrow : IsE e row) (n : Nat) (hn : e.size + 3 ≤ n) (hbig : e.size ≤ 1000000) : evalF Tab n n_expr_Copy [.agg row] σ = some (.agg e.crow, σ) := by
  obtain ⟨n, rfl⟩ : ∃ k, n = k + 1 := ⟨n - 1, by omega⟩
  have hV : MapV n_expr_Copy_1 [] 1 1000000 (fun _ => σ) id := ⟨fun _ => rfl, fun k x _ _ n hn => by
    obtain ⟨n, rfl⟩ : ∃ k, n = k + 1 := ⟨n - 1, by omega⟩
    obtain ⟨op, a, b, c, d, e', f, v, l⟩ := x
    have w3 := cslOf_one (crows l)
    simp only [id, Ex.crow]
    generalize cslOf (crows l) = w at *
    simp only [evalF, tab_expr_Copy_1, Option.bind_some, Sys.run]
    show ((bindPs [.sh (.agg [_, _, _, _, _, _, _, _, _])] _).bind _) = _
    simp only [bindPs, bind1, bindK, Option.map_some, Option.bind_some, List.append_nil, List.nil_append, List.cons_append, if_true, w3]
    show (PT.ev _ expr_Copy_1_s _).bind _ = _
    simp -implicitDefEqProofs only [expr_Copy_1_s, ↓reduceIte, PT.ev, BE.safe, BE.pe, IE.pe, PEnv.at, List.getD_cons_zero, List.getD_cons_succ, List.getElem?_cons_zero, List.getElem?_cons_succ, locOf, locOn, readLoc, takeN, Nat.add_zero, List.drop_zero, List.length_cons, List.length_nil, Nat.reduceAdd, Nat.le_refl, if_true, if_false, Bool.false_eq_true, List.take_succ_cons, List.take_zero, bindK, bindRes, bind1, Option.map_some, Option.bind_some, PEnv.push, List.cons_append, List.nil_append, List.append_nil, SV.pvs, SV.pv, BE.all, Bool.and_self, Bool.not_true, Bool.not_false, List.map_cons, List.map_nil, retP, or_true]⟩
  have hm := map_sem hV (by omega) e row hrow 0 (by omega) n (by omega)
  rw [e.map_id] at hm
  have hcr : ∃ op a b c d e' f v w, e.crow = [.int .i64 op, .int .i64 a, .int .i64 b, .int .i64 c, .int .i64 d, .int .i64 e', .int .i64 f, .int .i64 v, w] ∧ w.one = true := by
    obtain ⟨op, a, b, c, d, e', f, v, l⟩ := e
    exact ⟨_, _, _, _, _, _, _, _, _, rfl, cslOf_one _⟩
  obtain ⟨op2, a2, b2, c2, d2, e2', f2, v2, w, hw, w3⟩ := hcr
  rw [hw] at hm ⊢
  obtain ⟨op, a, b, c, d, e', f, v, l⟩ := e
  simp only [IsE] at hrow
  obtain ⟨x, rows, rfl, hx, hl⟩ := hrow
  obtain ⟨x1, x2, x3⟩ := rows_len hx
  simp only [n_expr_Map, n_expr_Copy_1] at hm
  simp only [evalF, tab_expr_Copy, Option.bind_some, Sys.run]
  show ((bindPs [.sh (.agg [_, _, _, _, _, _, _, _, _])] _).bind _) = _
  simp only [bindPs, bind1, bindK, Option.map_some, Option.bind_some, List.append_nil, List.nil_append, List.cons_append, if_true, x3]
  show (PT.ev _ expr_Copy_s _).bind _ = _
  simp -implicitDefEqProofs only [expr_Copy_s, ↓reduceIte, PT.ev, BE.safe, BE.pe, IE.pe, PEnv.at, List.getD_cons_zero, List.getD_cons_succ, List.getElem?_cons_zero, List.getElem?_cons_succ, locOf, locOn, readLoc, takeN, Nat.add_zero, List.drop_zero, List.length_cons, List.length_nil, Nat.reduceAdd, Nat.le_refl, if_true, if_false, Bool.false_eq_true, List.take_succ_cons, List.take_zero, bindK, bindRes, bind1, Option.map_some, Option.bind_some, PEnv.push, List.cons_append, List.nil_append, List.append_nil, SV.pvs, SV.pv, BE.all, Bool.and_self, Bool.not_true, Bool.not_false, List.map_cons, List.map_nil, hm, w3, retP, or_true]
end Go.Proofs.Ytbmfegliomkkfaa
