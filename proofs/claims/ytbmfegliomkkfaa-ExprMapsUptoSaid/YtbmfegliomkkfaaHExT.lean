/- Map: the law. -/
import Derived.Test.YtbmfegliomkkfaaHExQ
import Derived.Test.YtbmfegliomkkfaaHExR
import Derived.Test.YtbmfegliomkkfaaHExG
set_option linter.unusedSimpArgs false
set_option linter.unusedVariables false
set_option maxRecDepth 100000
namespace Go.Proofs.Ytbmfegliomkkfaa
open Go.Sx
def wr64 (z : Int) : Int := IntKind.i64.wrap z
theorem wr64_id {z : Int} (h1 : -9223372036854775808 ≤ z) (h2 : z ≤ 9223372036854775807) : IntKind.i64.wrap z = z := by
  simp only [IntKind.wrap, IntKind.signed, IntKind.bits]
  simp
  omega
def Ex.val : Ex → Int | .node _ _ _ _ _ _ _ v _ => v
def chgV (v : Int) : List Ex → Int
  | [] => v
  | x :: l => chgV (IntKind.i64.wrap (IntKind.i64.wrap (v * 3) + x.val)) l
def chg (m : Int) : Ex → Ex
  | .node op a b c d e f v l => .node op a b c d e f (chgV (IntKind.i64.wrap (v + m)) l) (if 3 < l.length then l.take 3 else l)
theorem crows_take : ∀ (n : Nat) (l : List Ex), crows (l.take n) = (crows l).take n
  | 0, l => by simp [crows]
  | n + 1, [] => by simp [crows]
  | n + 1, e :: l => by simp only [List.take_succ_cons, crows, crows_take n l]
theorem change_sem (σ : List MO) (x : Ex) (m : Int) (hl : x.len ≤ 1000000) (n : Nat) (hn : x.len + 2 ≤ n) : evalF Tab n n_saleroomlaw11_change [.agg x.crow, .int .i64 m] σ = some (.agg (chg m x).crow, σ) := by
  obtain ⟨n, rfl⟩ : ∃ k, n = k + 1 := ⟨n - 1, by omega⟩
  obtain ⟨op, a, b, c, d, e, f, v, l⟩ := x
  simp only [Ex.len] at hl hn
  simp only [Ex.crow, chg]
  have hrl := crows_length l
  have hcl := cslOf_len (crows l)
  have hck := cslOf_kind (crows l)
  have hc1 := cslOf_one (crows l)
  have hcr := cslOf_rows (crows l)
  have loop : ∀ (fuel : Nat) (i : Nat) (w : Int) (is : List Int), l.length - i < fuel → i ≤ l.length → is.length = 0 →
      saleroomlaw11_change_S.loop (evalF Tab n) fuel 0 { i := [((crows l).length : Int), (i : Int), op, a, b, c, d, e, f, w] ++ is, b := [], v := [cslOf (crows l)], m := σ, k := σ.length } =
        some (.agg [.int .i64 op, .int .i64 a, .int .i64 b, .int .i64 c, .int .i64 d, .int .i64 e, .int .i64 f, .int .i64 (chgV w (l.drop i)), cslOf (crows (if 3 < l.length then l.take 3 else l))], σ) := by
    intro fuel
    induction fuel with
    | zero => intro i w is h; omega
    | succ fuel ihf =>
      intro i w is h1 h2 h3
      obtain rfl : is = [] := List.eq_nil_of_length_eq_zero h3
      rw [Sys.loop, show saleroomlaw11_change_S.loops[0]? = some saleroomlaw11_change_t0 from rfl]
      simp -implicitDefEqProofs only [Option.bind_some, saleroomlaw11_change_t0, ↓reduceIte, PT.ev, BE.safe, BE.pe, IE.pe, PEnv.at, List.getD_cons_zero, List.getD_cons_succ, List.getElem?_cons_zero, List.getElem?_cons_succ, locOf, locOn, readLoc, takeN, Nat.add_zero, List.drop_zero, List.length_cons, List.length_nil, Nat.reduceAdd, Nat.le_refl, if_true, if_false, Bool.false_eq_true, List.take_succ_cons, List.take_zero, bindK, bindRes, bind1, Option.map_some, Option.bind_some, PEnv.push, List.cons_append, List.nil_append, List.append_nil, SV.pvs, SV.pv, BE.all, Bool.and_self, Bool.not_true, Bool.not_false, List.map_cons, List.map_nil, ltB_nat, decide_eq_true_eq]
      by_cases hlt : i < (crows l).length
      · obtain ⟨e1, he1⟩ : ∃ e1, l[i]? = some e1 := ⟨_, List.getElem?_eq_getElem (by omega)⟩
        have hd := (crows_is l).split i
        rw [drop_cons he1] at hd ⊢
        simp only [IsEs] at hd
        obtain ⟨r1, rs, hd1, hd2, hd3⟩ := hd
        have hr : (crows l)[i]? = some r1 := head_drop hd1
        have hloc := rows_get (off := 0) hcr hr
        rw [if_pos hlt]
        have := ihf (i + 1) (IntKind.i64.wrap (IntKind.i64.wrap (w * 3) + e1.val)) [] (by omega) (by omega) rfl
        simp only [chgV]
        obtain ⟨op1, a1, b1, c1, d1, e1', f1, v1, l1⟩ := e1
        simp only [IsE] at hd2
        obtain ⟨y, rows1, rfl, hy, hl1⟩ := hd2
        obtain ⟨y1, y2, y3⟩ := rows_len hy
        have q1 : (leB 0 (i : Int) && decide (i < (crows l).length)) = true := by simp [leB, hlt]
        have q2 : IntKind.i64.wrap ((i : Int) + 1) = (i : Int) + 1 := wr64_id (by omega) (by omega)
        rw [show ((i + 1 : Nat) : Int) = (i : Int) + 1 from by omega] at this
        simp only [Ex.val] at this ⊢
        simp -implicitDefEqProofs only [hcl, ltB_nat, ↓reduceIte, PT.ev, BE.safe, BE.pe, IE.pe, PEnv.at, List.getD_cons_zero, List.getD_cons_succ, List.getElem?_cons_zero, List.getElem?_cons_succ, locOf, locOn, readLoc, takeN, Nat.add_zero, List.drop_zero, List.length_cons, List.length_nil, Nat.reduceAdd, Nat.le_refl, if_true, if_false, Bool.false_eq_true, List.take_succ_cons, List.take_zero, bindK, bindRes, bind1, Option.map_some, Option.bind_some, PEnv.push, List.cons_append, List.nil_append, List.append_nil, SV.pvs, SV.pv, BE.all, Bool.and_self, Bool.not_true, Bool.not_false, List.map_cons, List.map_nil, if_pos q1, hloc, y3, q2]
        exact this
      · have hil : i = l.length := by omega
        rw [if_neg hlt]
        subst hil
        rw [List.drop_length]
        simp only [chgV]
        simp -implicitDefEqProofs only [↓reduceIte, PT.ev, BE.safe, BE.pe, IE.pe, PEnv.at, List.getD_cons_zero, List.getD_cons_succ, List.getElem?_cons_zero, List.getElem?_cons_succ, locOf, locOn, readLoc, takeN, Nat.add_zero, List.drop_zero, List.length_cons, List.length_nil, Nat.reduceAdd, Nat.le_refl, if_true, if_false, Bool.false_eq_true, List.take_succ_cons, List.take_zero, bindK, bindRes, bind1, Option.map_some, Option.bind_some, PEnv.push, List.cons_append, List.nil_append, List.append_nil, SV.pvs, SV.pv, BE.all, Bool.and_self, Bool.not_true, Bool.not_false, List.map_cons, List.map_nil, hck, hcl, ltB_true]
        by_cases h3 : 3 < l.length
        · have hne : crows (l.take 3) = (crows l).take 3 := crows_take 3 l
          have hcut : PV.sl 9 ((crows l).take 3) = cslOf ((crows l).take 3) := by
            cases hc : (crows l).take 3 with
            | nil =>
              have := congrArg List.length hc
              simp only [List.length_take, List.length_nil] at this
              omega
            | cons r rs => rfl
          rw [if_pos (by omega), if_pos h3, hne]
          have qa : (0 : Int) ≤ 0 := by omega
          have qb : (0 : Int) ≤ 3 := by omega
          have qc : (3 : Int) ≤ (crows l).length := by omega
          simp -implicitDefEqProofs only [↓reduceIte, PT.ev, BE.safe, BE.pe, IE.pe, PEnv.at, List.getD_cons_zero, List.getD_cons_succ, List.getElem?_cons_zero, List.getElem?_cons_succ, locOf, locOn, readLoc, takeN, Nat.add_zero, List.drop_zero, List.length_cons, List.length_nil, Nat.reduceAdd, Nat.le_refl, if_true, if_false, Bool.false_eq_true, List.take_succ_cons, List.take_zero, bindK, bindRes, bind1, Option.map_some, Option.bind_some, PEnv.push, List.cons_append, List.nil_append, List.append_nil, SV.pvs, SV.pv, BE.all, Bool.and_self, Bool.not_true, Bool.not_false, List.map_cons, List.map_nil, hcr, loPe, hiPe, qa, qb, qc, and_self, retP, or_true, show Int.toNat 3 = 3 from rfl, show Int.toNat 0 = 0 from rfl, hcut]
        · rw [if_neg (by omega), if_neg h3]
          simp -implicitDefEqProofs only [↓reduceIte, PT.ev, BE.safe, BE.pe, IE.pe, PEnv.at, List.getD_cons_zero, List.getD_cons_succ, List.getElem?_cons_zero, List.getElem?_cons_succ, locOf, locOn, readLoc, takeN, Nat.add_zero, List.drop_zero, List.length_cons, List.length_nil, Nat.reduceAdd, Nat.le_refl, if_true, if_false, Bool.false_eq_true, List.take_succ_cons, List.take_zero, bindK, bindRes, bind1, Option.map_some, Option.bind_some, PEnv.push, List.cons_append, List.nil_append, List.append_nil, SV.pvs, SV.pv, BE.all, Bool.and_self, Bool.not_true, Bool.not_false, List.map_cons, List.map_nil, retP, or_true]
  have h0 := loop n 0 (IntKind.i64.wrap (v + m)) [] (by omega) (Nat.zero_le _) rfl
  simp only [evalF, tab_saleroomlaw11_change, Option.bind_some, Sys.run]
  show ((bindPs [.sh (.agg [_, _, _, _, _, _, _, _, _]), .sh (.one _)] _).bind _) = _
  simp -implicitDefEqProofs only [bindPs, bind1, bindK, Option.map_some, Option.bind_some, List.append_nil, List.nil_append, List.cons_append, if_true, hc1]
  show (PT.ev _ saleroomlaw11_change_s _).bind _ = _
  simp -implicitDefEqProofs only [saleroomlaw11_change_s, ↓reduceIte, PT.ev, BE.safe, BE.pe, IE.pe, PEnv.at, List.getD_cons_zero, List.getD_cons_succ, List.getElem?_cons_zero, List.getElem?_cons_succ, locOf, locOn, readLoc, takeN, Nat.add_zero, List.drop_zero, List.length_cons, List.length_nil, Nat.reduceAdd, Nat.le_refl, if_true, if_false, Bool.false_eq_true, List.take_succ_cons, List.take_zero, bindK, bindRes, bind1, Option.map_some, Option.bind_some, PEnv.push, List.cons_append, List.nil_append, List.append_nil, SV.pvs, SV.pv, BE.all, Bool.and_self, Bool.not_true, Bool.not_false, List.map_cons, List.map_nil, hck, hcl]
  simpa using h0
theorem mapped_sem (σ : List MO) (m : Int) : ∀ (e : Ex) (row : List PV), IsE e row → ∀ n, e.size + e.size + 4 ≤ n → e.size ≤ 1000000 → evalF Tab n n_saleroomlaw11_mapped [.agg row, .int .i64 m] σ = some (.agg (e.map (chg m)).crow, σ) := by
  intro e
  induction hM : e.size using Nat.strongRecOn generalizing e with
  | _ M ih =>
    subst hM
    intro row hrow n hn hbig
    obtain ⟨op, a, b, c, d, e', f, v, l⟩ := e
    simp only [IsE] at hrow
    obtain ⟨x, rows, rfl, hx, hl⟩ := hrow
    obtain ⟨x1, x2, x3⟩ := rows_len hx
    simp only [Ex.size] at ih hn hbig
    obtain ⟨n, rfl⟩ : ∃ k, n = k + 1 := ⟨n - 1, by omega⟩
    have hlen := hl.length
    have hsl := sizes_len l
    have loop : ∀ (fuel : Nat) (i : Nat) (done : List Ex), l.length - i < fuel → i ≤ l.length → done.length = i →
        saleroomlaw11_mapped_S.loop (evalF Tab n) fuel 0 { i := [m, (rows.length : Int), (i : Int), op, a, b, c, d, e', f, v], b := [], v := [cslOf (crows done), x], m := σ, k := σ.length } = some (.agg (chg m (.node op a b c d e' f v (done ++ maps (chg m) (l.drop i)))).crow, σ) := by
      intro fuel
      induction fuel with
      | zero => intro i done h; omega
      | succ fuel ihf =>
        intro i done h1 h2 h3
        rw [Sys.loop, show saleroomlaw11_mapped_S.loops[0]? = some saleroomlaw11_mapped_t0 from rfl]
        simp -implicitDefEqProofs only [Option.bind_some, saleroomlaw11_mapped_t0, ↓reduceIte, PT.ev, BE.safe, BE.pe, IE.pe, PEnv.at, List.getD_cons_zero, List.getD_cons_succ, List.getElem?_cons_zero, List.getElem?_cons_succ, locOf, locOn, readLoc, takeN, Nat.add_zero, List.drop_zero, List.length_cons, List.length_nil, Nat.reduceAdd, Nat.le_refl, if_true, if_false, Bool.false_eq_true, List.take_succ_cons, List.take_zero, bindK, bindRes, bind1, Option.map_some, Option.bind_some, PEnv.push, List.cons_append, List.nil_append, List.append_nil, SV.pvs, SV.pv, BE.all, Bool.and_self, Bool.not_true, Bool.not_false, List.map_cons, List.map_nil, ltB_nat, decide_eq_true_eq]
        by_cases hlt : i < rows.length
        · obtain ⟨e1, he1⟩ : ∃ e1, l[i]? = some e1 := ⟨_, List.getElem?_eq_getElem (by omega)⟩
          have hd := hl.split i
          rw [drop_cons he1] at hd ⊢
          simp only [IsEs] at hd
          obtain ⟨r1, rs, hd1, hd2, hd3⟩ := hd
          have hr : rows[i]? = some r1 := head_drop hd1
          have hloc := rows_get (off := 0) hx hr
          rw [if_pos hlt]
          have hsz := sizes_mem (List.mem_of_getElem? he1)
          simp only [maps]
          have hcall := ih _ (Nat.lt_succ_of_le hsz) _ rfl _ hd2 n (by omega) (by omega)
          have := ihf (i + 1) (done ++ [e1.map (chg m)]) (by omega) (by omega) (by rw [List.length_append, List.length_singleton, h3])
          rw [crows_append, show crows [e1.map (chg m)] = [(e1.map (chg m)).crow] from rfl, ← cslOf_snoc, List.append_assoc] at this
          have hdl := crows_length done
          generalize crows done = acc at *
          generalize hmx : e1.map (chg m) = e1m at *
          obtain ⟨op1, a1, b1, c1, d1, e1', f1, v1, l1⟩ := e1
          obtain ⟨op2, a2, b2, c2, d2, e2', f2, v2, l2⟩ := e1m
          simp only [IsE] at hd2
          obtain ⟨y, rows1, rfl, hy, hl1⟩ := hd2
          obtain ⟨y1, y2, y3⟩ := rows_len hy
          have w3 := cslOf_one (crows l2)
          simp only [Ex.crow] at hcall this
          generalize cslOf (crows l2) = w at *
          have q1 : (leB 0 (i : Int) && decide (i < rows.length)) = true := by simp [leB, hlt]
          have q2 : (leB (-9223372036854775808) ((i : Int) + 1) && leB ((i : Int) + 1) 9223372036854775807) = true := by simp [leB]; omega
          have q4 : acc.length + 1 ≤ 1000000 := by omega
          have q5 : 1 ≤ 1000000 := by omega
          rw [show ((i + 1 : Nat) : Int) = (i : Int) + 1 from by omega] at this
          simp only [n_saleroomlaw11_mapped] at hcall
          simp -implicitDefEqProofs only [x1, x2, ltB_nat, ↓reduceIte, PT.ev, BE.safe, BE.pe, IE.pe, PEnv.at, List.getD_cons_zero, List.getD_cons_succ, List.getElem?_cons_zero, List.getElem?_cons_succ, locOf, locOn, readLoc, takeN, Nat.add_zero, List.drop_zero, List.length_cons, List.length_nil, Nat.reduceAdd, Nat.le_refl, if_true, if_false, Bool.false_eq_true, List.take_succ_cons, List.take_zero, bindK, bindRes, bind1, Option.map_some, Option.bind_some, PEnv.push, List.cons_append, List.nil_append, List.append_nil, SV.pvs, SV.pv, BE.all, Bool.and_self, Bool.not_true, Bool.not_false, List.map_cons, List.map_nil, if_pos q1, hloc, y3, hcall, w3, cslOf_rows, rowsOf_sl, srcRows, List.mapM_cons, List.mapM_nil, Option.bind_eq_bind, Option.pure_def, if_pos q4, if_pos q5, if_pos q2, sl_one, cslOf_one]
          exact this
        · have hil : i = l.length := by omega
          rw [if_neg hlt]
          subst hil
          have hcl := change_sem σ (.node op a b c d e' f v done) m (by simp only [Ex.len]; omega) n (by simp only [Ex.len]; omega)
          rw [List.drop_length] at *
          simp only [maps, List.append_nil]
          generalize chg m (.node op a b c d e' f v done) = res at *
          obtain ⟨op2, a2, b2, c2, d2, e2', f2, v2, l2⟩ := res
          have w3 := cslOf_one (crows l2)
          simp only [Ex.crow, n_saleroomlaw11_change] at hcl ⊢
          generalize cslOf (crows l2) = w at *
          simp -implicitDefEqProofs only [↓reduceIte, PT.ev, BE.safe, BE.pe, IE.pe, PEnv.at, List.getD_cons_zero, List.getD_cons_succ, List.getElem?_cons_zero, List.getElem?_cons_succ, locOf, locOn, readLoc, takeN, Nat.add_zero, List.drop_zero, List.length_cons, List.length_nil, Nat.reduceAdd, Nat.le_refl, if_true, if_false, Bool.false_eq_true, List.take_succ_cons, List.take_zero, bindK, bindRes, bind1, Option.map_some, Option.bind_some, PEnv.push, List.cons_append, List.nil_append, List.append_nil, SV.pvs, SV.pv, BE.all, Bool.and_self, Bool.not_true, Bool.not_false, List.map_cons, List.map_nil, hcl, w3, cslOf_one, retP, or_true]
    have h0 := loop n 0 [] (by omega) (Nat.zero_le _) rfl
    simp only [evalF, tab_saleroomlaw11_mapped, Option.bind_some, Sys.run]
    show ((bindPs [.sh (.agg [_, _, _, _, _, _, _, _, _]), .sh (.one _)] _).bind _) = _
    simp -implicitDefEqProofs only [bindPs, bind1, bindK, Option.map_some, Option.bind_some, List.append_nil, List.nil_append, List.cons_append, if_true, x3]
    show (PT.ev _ saleroomlaw11_mapped_s _).bind _ = _
    simp -implicitDefEqProofs only [saleroomlaw11_mapped_s, ↓reduceIte, PT.ev, BE.safe, BE.pe, IE.pe, PEnv.at, List.getD_cons_zero, List.getD_cons_succ, List.getElem?_cons_zero, List.getElem?_cons_succ, locOf, locOn, readLoc, takeN, Nat.add_zero, List.drop_zero, List.length_cons, List.length_nil, Nat.reduceAdd, Nat.le_refl, if_true, if_false, Bool.false_eq_true, List.take_succ_cons, List.take_zero, bindK, bindRes, bind1, Option.map_some, Option.bind_some, PEnv.push, List.cons_append, List.nil_append, List.append_nil, SV.pvs, SV.pv, BE.all, Bool.and_self, Bool.not_true, Bool.not_false, List.map_cons, List.map_nil, x1, x2]
    simp only [Ex.map, crows, cslOf, List.nil_append, List.drop_zero] at h0 ⊢
    simpa using h0
theorem sizes_take : ∀ (n : Nat) (l : List Ex), sizes (l.take n) ≤ sizes l
  | 0, l => by simp [sizes]
  | n + 1, [] => by simp [sizes]
  | n + 1, e :: l => by have := sizes_take n l; simp only [List.take_succ_cons, sizes]; omega
mutual
theorem map_size (m : Int) : ∀ e : Ex, (e.map (chg m)).size ≤ e.size
  | .node op a b c d e f v l => by
    have h1 := maps_size m l
    have h2 := sizes_take 3 (maps (chg m) l)
    simp only [Ex.map, chg, Ex.size]
    split <;> omega
theorem maps_size (m : Int) : ∀ l : List Ex, sizes (maps (chg m) l) ≤ sizes l
  | [] => Nat.le_refl _
  | e :: l => by have := map_size m e; have := maps_size m l; simp only [maps, sizes]; omega
end
/-- The two objects: the number that is added, and how often the function was called. -/
def mpSt (m : Int) (k : Nat) : List MO := [.cells [.int .i64 m] 2, .cells [.int .i64 k] 3]
theorem maps_v (m : Int) : MapV n_saleroomlaw11_ExprMaps_1 [.ref 1 0, .ref 0 0] 405 400 (mpSt m) (chg m) where
  len k := rfl
  at_ k x hk hx n hn := by
    obtain ⟨n, rfl⟩ : ∃ k, n = k + 1 := ⟨n - 1, by omega⟩
    have hc := change_sem (mpSt m (k + 1)) x m (by omega) n (by omega)
    obtain ⟨op2, a2, b2, c2, d2, e2', f2, v2, w2, hw2, hw3⟩ := crow_shape (chg m x)
    obtain ⟨op1, a1, b1, c1, d1, e1', f1, v1, w1, hw1, hw4⟩ := crow_shape x
    rw [hw1, hw2] at hc
    rw [hw1, hw2]
    have hcast : ((k + 1 : Nat) : Int) = (k : Int) + 1 := by omega
    simp only [mpSt, hcast, n_saleroomlaw11_change] at hc ⊢
    have q2 : (leB (-9223372036854775808) ((k : Int) + 1) && leB ((k : Int) + 1) 9223372036854775807) = true := by simp [leB]; omega
    generalize (k : Int) = z at *
    simp only [evalF, tab_saleroomlaw11_ExprMaps_1, Option.bind_some, Sys.run]
    show ((bindPs [.sh (.agg [_, _, _, _, _, _, _, _, _]), .ptr, .ptr] _).bind _) = _
    have hptr : ∀ a b, (PV.ref a b).isPtr = true := fun _ _ => rfl
    simp -implicitDefEqProofs only [bindPs, bind1, bindK, Option.map_some, Option.bind_some, List.append_nil, List.nil_append, List.cons_append, if_true, hw4, hptr]
    show (PT.ev _ saleroomlaw11_ExprMaps_1_s _).bind _ = _
    have f2' : ∀ x y : PV, setP [x] 0 [y] = [y] := fun _ _ => rfl
    simp -implicitDefEqProofs only [saleroomlaw11_ExprMaps_1_s, ↓reduceIte, PT.ev, BE.safe, BE.pe, IE.pe, PEnv.at, List.getD_cons_zero, List.getD_cons_succ, List.getElem?_cons_zero, List.getElem?_cons_succ, locOf, locOn, readLoc, takeN, Nat.add_zero, List.drop_zero, List.length_cons, List.length_nil, Nat.reduceAdd, Nat.le_refl, if_true, if_false, Bool.false_eq_true, List.take_succ_cons, List.take_zero, bindK, bindRes, bind1, Option.map_some, Option.bind_some, PEnv.push, List.cons_append, List.nil_append, List.append_nil, SV.pvs, SV.pv, BE.all, Bool.and_self, Bool.not_true, Bool.not_false, List.map_cons, List.map_nil, MO.list, if_pos q2, f2', List.set_cons_succ, List.set_cons_zero, hc, hw3, retP, true_or, Nat.zero_add]
theorem id_v (σ : List MO) : MapV n_saleroomlaw11_ExprMaps_2 [] 1 1000000 (fun _ => σ) id where
  len _ := rfl
  at_ k x _ _ n hn := by
    obtain ⟨n, rfl⟩ : ∃ k, n = k + 1 := ⟨n - 1, by omega⟩
    obtain ⟨op, a, b, c, d, e', f, v, l⟩ := x
    have w3 := cslOf_one (crows l)
    simp only [id, Ex.crow]
    generalize cslOf (crows l) = w at *
    simp only [evalF, tab_saleroomlaw11_ExprMaps_2, Option.bind_some, Sys.run]
    show ((bindPs [.sh (.agg [_, _, _, _, _, _, _, _, _])] _).bind _) = _
    simp -implicitDefEqProofs only [bindPs, bind1, bindK, Option.map_some, Option.bind_some, List.append_nil, List.nil_append, List.cons_append, if_true, w3]
    show (PT.ev _ saleroomlaw11_ExprMaps_2_s _).bind _ = _
    simp -implicitDefEqProofs only [saleroomlaw11_ExprMaps_2_s, ↓reduceIte, PT.ev, BE.safe, BE.pe, IE.pe, PEnv.at, List.getD_cons_zero, List.getD_cons_succ, List.getElem?_cons_zero, List.getElem?_cons_succ, locOf, locOn, readLoc, takeN, Nat.add_zero, List.drop_zero, List.length_cons, List.length_nil, Nat.reduceAdd, Nat.le_refl, if_true, if_false, Bool.false_eq_true, List.take_succ_cons, List.take_zero, bindK, bindRes, bind1, Option.map_some, Option.bind_some, PEnv.push, List.cons_append, List.nil_append, List.append_nil, SV.pvs, SV.pv, BE.all, Bool.and_self, Bool.not_true, Bool.not_false, List.map_cons, List.map_nil, retP, or_true]
theorem mapNil_sem (σ : List MO) (e : Ex) (row : List PV) (hrow : IsE e row) (n : Nat) (hn : e.size + 4 ≤ n) (hbig : e.size ≤ 1000000) : evalF Tab n n_expr_Map [.agg row, .nilF] σ = some (.agg e.crow, σ) := by
  obtain ⟨n, rfl⟩ : ∃ k, n = k + 1 := ⟨n - 1, by omega⟩
  have hm := copy_sem σ e row hrow n (by omega) hbig
  obtain ⟨op2, a2, b2, c2, d2, e2', f2, v2, w2, hw2, w3⟩ := crow_shape e
  rw [hw2] at hm ⊢
  obtain ⟨op, a, b, c, d, e', f, v, l⟩ := e
  simp only [IsE] at hrow
  obtain ⟨x, rows, rfl, hx, hl⟩ := hrow
  obtain ⟨x1, x2, x3⟩ := rows_len hx
  simp only [n_expr_Copy] at hm
  simp only [evalF, tab_expr_Map, Option.bind_some, Sys.run]
  show ((bindPs [.sh (.agg [_, _, _, _, _, _, _, _, _]), .sh (.one _)] _).bind _) = _
  have hf1 : PV.nilF.one = true := rfl
  have hf2 : PV.nilF.isKind 2 = true := rfl
  have hf3 : PV.nilF.isNil = true := rfl
  have hf4 : PV.nilF.nilOk = true := rfl
  simp -implicitDefEqProofs only [bindPs, bind1, bindK, Option.map_some, Option.bind_some, List.append_nil, List.nil_append, List.cons_append, if_true, x3, hf1]
  show (PT.ev _ expr_Map_s _).bind _ = _
  simp -implicitDefEqProofs only [expr_Map_s, ↓reduceIte, PT.ev, BE.safe, BE.pe, IE.pe, PEnv.at, List.getD_cons_zero, List.getD_cons_succ, List.getElem?_cons_zero, List.getElem?_cons_succ, locOf, locOn, readLoc, takeN, Nat.add_zero, List.drop_zero, List.length_cons, List.length_nil, Nat.reduceAdd, Nat.le_refl, if_true, if_false, Bool.false_eq_true, List.take_succ_cons, List.take_zero, bindK, bindRes, bind1, Option.map_some, Option.bind_some, PEnv.push, List.cons_append, List.nil_append, List.append_nil, SV.pvs, SV.pv, BE.all, Bool.and_self, Bool.not_true, Bool.not_false, List.map_cons, List.map_nil, hf2, hf3, hf4, hm, w3, retP, or_true]
set_option maxHeartbeats 4000000 in
theorem mapsL_true (e : Ex) (row : List PV) (hrow : IsE e row) (m : Int) (n : Nat) (hn : e.size + 2000 ≤ n) (hbig : e.size ≤ 1000000) (haw : ∀ k : Int, evalF Tab n n_saleroomlaw11_awake [] [.cells [.int .i64 m] 2, .cells [.int .i64 k] 3] = some (.bool true, [.cells [.int .i64 m] 2, .cells [.int .i64 k] 3]))
    (haw1 : evalF Tab n n_saleroomlaw11_awake [] [.cells [.int .i64 m] 2] = some (.bool true, [.cells [.int .i64 m] 2])) :
    evalF Tab (n + 1) n_saleroomlaw11_ExprMaps [.agg row, .int .i64 m] [] = some (.bool true, []) := by
  have c1 := few_sem [.cells [.int .i64 m] 2] rfl e row hrow n (by omega) hbig
  by_cases hfew : e.size ≤ 400
  case neg =>
    obtain ⟨op, a, b, c, d, e', f, v, l⟩ := e
    simp only [IsE] at hrow
    obtain ⟨x, rows, rfl, hx, hl⟩ := hrow
    obtain ⟨x1, x2, x3⟩ := rows_len hx
    generalize hy0 : Ex.node op a b c d e' f v l = y0 at *
    simp only [n_saleroomlaw11_few, n_saleroomlaw11_awake] at c1 haw1
    simp only [evalF, tab_saleroomlaw11_ExprMaps, Option.bind_some, Sys.run]
    show ((bindPs [.sh (.agg [_, _, _, _, _, _, _, _, _]), .sh (.one _)] _).bind _) = _
    simp -implicitDefEqProofs only [bindPs, bind1, bindK, Option.map_some, Option.bind_some, List.append_nil, List.nil_append, List.cons_append, if_true, x3]
    show (PT.ev _ saleroomlaw11_ExprMaps_s _).bind _ = _
    simp -implicitDefEqProofs only [saleroomlaw11_ExprMaps_s, ↓reduceIte, PT.ev, BE.safe, BE.pe, IE.pe, PEnv.at, List.getD_cons_zero, List.getD_cons_succ, List.getElem?_cons_zero, List.getElem?_cons_succ, locOf, locOn, readLoc, takeN, Nat.add_zero, List.drop_zero, List.length_cons, List.length_nil, Nat.reduceAdd, Nat.le_refl, if_true, if_false, Bool.false_eq_true, List.take_succ_cons, List.take_zero, bindK, bindRes, bind1, Option.map_some, Option.bind_some, PEnv.push, List.cons_append, List.nil_append, List.append_nil, SV.pvs, SV.pv, BE.all, Bool.and_self, Bool.not_true, Bool.not_false, List.map_cons, List.map_nil, c1, hfew, decide_false, haw1, retP, PV.frz, List.take_zero, List.all_nil]
    rfl
  have hms := map_size m e
  have c2 := copy_sem [.cells [.int .i64 m] 2] e row hrow n (by omega) hbig
  have c3 := map_sem (maps_v m) (by omega) e row hrow 0 (by omega) n (by omega)
  have c4 := map_sem (id_v (mpSt m (0 + e.size))) (by omega) e row hrow 0 (by omega) n (by omega)
  rw [e.map_id] at c4
  have c5 := mapped_sem (mpSt m (0 + e.size)) m e row hrow n (by omega) hbig
  have c6 := requal_sem (mpSt m (0 + e.size)) (e.map (chg m)) _ (Ex.crow_is _) _ _ (Ex.crow_is (e.map (chg m))) n (by omega) (by omega)
  have c7 := rsize_sem (mpSt m (0 + e.size)) rfl e row hrow n (by omega) hbig
  have c8 := requal_sem (mpSt m (0 + e.size)) e _ (Ex.crow_is _) e row hrow n (by omega) hbig
  have c9 := mapNil_sem (mpSt m (0 + e.size)) e row hrow n (by omega) hbig
  have c10 := requal_sem (mpSt m (0 + e.size)) e row hrow e _ (Ex.crow_is _) n (by omega) hbig
  rw [Ex.beq_refl] at c6 c8 c10
  have haw2 := haw (e.size : Int)
  obtain ⟨op2, a2, b2, k2, d2, e2', f2, v2, w2, hw2, w3⟩ := crow_shape e
  obtain ⟨op3, a3, b3, k3, d3, e3', f3, v3, w4, hw4, w5⟩ := crow_shape (e.map (chg m))
  rw [hw2] at c2 c4 c8 c9 c10
  rw [hw4] at c3 c5 c6
  simp only [mpSt, Nat.zero_add, Int.cast_ofNat_Int] at c3 c4 c5 c6 c7 c8 c9 c10
  obtain ⟨op, a, b, c, d, e', f, v, l⟩ := e
  simp only [IsE] at hrow
  obtain ⟨x, rows, rfl, hx, hl⟩ := hrow
  obtain ⟨x1, x2, x3⟩ := rows_len hx
  generalize hy0 : Ex.node op a b c d e' f v l = y0 at *
  simp only [n_saleroomlaw11_few, n_expr_Copy, n_expr_Map, n_saleroomlaw11_ExprMaps_1, n_saleroomlaw11_ExprMaps_2, n_saleroomlaw11_mapped, n_saleroomref11_Equal, n_saleroomref11_Size, n_saleroomlaw11_awake] at c1 c2 c3 c4 c5 c6 c7 c8 c9 c10 haw2
  simp only [evalF, tab_saleroomlaw11_ExprMaps, Option.bind_some, Sys.run]
  show ((bindPs [.sh (.agg [_, _, _, _, _, _, _, _, _]), .sh (.one _)] _).bind _) = _
  simp -implicitDefEqProofs only [bindPs, bind1, bindK, Option.map_some, Option.bind_some, List.append_nil, List.nil_append, List.cons_append, if_true, x3]
  show (PT.ev _ saleroomlaw11_ExprMaps_s _).bind _ = _
  have f2' : ∀ x y : PV, setP [x] 0 [y] = [y] := fun _ _ => rfl
  have hfn : ∀ f l, (PV.fn f l).one = true := fun _ _ => rfl
  refine Option.bind_eq_some_iff.2 ⟨Res.ret (.bool true) [], ?_, rfl⟩
  unfold saleroomlaw11_ExprMaps_s
  simp -implicitDefEqProofs only [↓reduceIte, evb_ret, evb_ite, evb_need, evb_load, evb_app, evb_cut, evb_call, evb_callv, evb_newM, evb_mkM, evb_storeM, evb_appM, evb_jump, BE.safe, BE.pe, IE.pe, PEnv.at, List.getD_cons_zero, List.getD_cons_succ, List.getElem?_cons_zero, List.getElem?_cons_succ, locOf, locOn, readLoc, takeN, Nat.add_zero, List.drop_zero, List.length_cons, List.length_nil, Nat.reduceAdd, Nat.le_refl, if_true, if_false, Bool.false_eq_true, List.take_succ_cons, List.take_zero, bindK, bindRes, bind1, Option.map_some, Option.bind_some, PEnv.push, List.cons_append, List.nil_append, List.append_nil, SV.pvs, SV.pv, BE.all, Bool.and_self, Bool.not_true, Bool.not_false, List.map_cons, List.map_nil, c1, hfew, decide_true, c2, w3, w5, PV.on, MO.list, f2', List.set_cons_succ, List.set_cons_zero, c3, c4, c5, c6, hfn, Nat.zero_add]
  repeat' (first
    | with_reducible rfl
    | apply ev_both
    | (unfold saleroomlaw11_ExprMaps_s_b1; simp -implicitDefEqProofs only [↓reduceIte, evb_ret, evb_ite, evb_need, evb_load, evb_app, evb_cut, evb_call, evb_callv, evb_newM, evb_mkM, evb_storeM, evb_appM, evb_jump, BE.safe, BE.pe, IE.pe, PEnv.at, List.getD_cons_zero, List.getD_cons_succ, List.getElem?_cons_zero, List.getElem?_cons_succ, locOf, locOn, readLoc, takeN, Nat.add_zero, List.drop_zero, List.length_cons, List.length_nil, Nat.reduceAdd, Nat.le_refl, if_true, if_false, Bool.false_eq_true, List.take_succ_cons, List.take_zero, bindK, bindRes, bind1, Option.map_some, Option.bind_some, PEnv.push, List.cons_append, List.nil_append, List.append_nil, SV.pvs, SV.pv, BE.all, Bool.and_self, Bool.not_true, Bool.not_false, List.map_cons, List.map_nil, MO.list, c7, c8, c9, c10, haw2, w3, w5, eqB_self, retP, PV.frz, List.all_nil, false_or]; done)
    | (unfold saleroomlaw11_ExprMaps_s_b1; simp -implicitDefEqProofs only [↓reduceIte, evb_ret, evb_ite, evb_need, evb_load, evb_app, evb_cut, evb_call, evb_callv, evb_newM, evb_mkM, evb_storeM, evb_appM, evb_jump, BE.safe, BE.pe, IE.pe, PEnv.at, List.getD_cons_zero, List.getD_cons_succ, List.getElem?_cons_zero, List.getElem?_cons_succ, locOf, locOn, readLoc, takeN, Nat.add_zero, List.drop_zero, List.length_cons, List.length_nil, Nat.reduceAdd, Nat.le_refl, if_true, if_false, Bool.false_eq_true, List.take_succ_cons, List.take_zero, bindK, bindRes, bind1, Option.map_some, Option.bind_some, PEnv.push, List.cons_append, List.nil_append, List.append_nil, SV.pvs, SV.pv, BE.all, Bool.and_self, Bool.not_true, Bool.not_false, List.map_cons, List.map_nil, MO.list, c7, c8, c9, c10, haw2, w3, w5, eqB_self, retP, PV.frz, List.all_nil, false_or])
    | (unfold saleroomlaw11_ExprMaps_s_b2; simp -implicitDefEqProofs only [↓reduceIte, evb_ret, evb_ite, evb_need, evb_load, evb_app, evb_cut, evb_call, evb_callv, evb_newM, evb_mkM, evb_storeM, evb_appM, evb_jump, BE.safe, BE.pe, IE.pe, PEnv.at, List.getD_cons_zero, List.getD_cons_succ, List.getElem?_cons_zero, List.getElem?_cons_succ, locOf, locOn, readLoc, takeN, Nat.add_zero, List.drop_zero, List.length_cons, List.length_nil, Nat.reduceAdd, Nat.le_refl, if_true, if_false, Bool.false_eq_true, List.take_succ_cons, List.take_zero, bindK, bindRes, bind1, Option.map_some, Option.bind_some, PEnv.push, List.cons_append, List.nil_append, List.append_nil, SV.pvs, SV.pv, BE.all, Bool.and_self, Bool.not_true, Bool.not_false, List.map_cons, List.map_nil, MO.list, c7, c8, c9, c10, haw2, w3, w5, eqB_self, retP, PV.frz, List.all_nil, false_or]; done)
    | (unfold saleroomlaw11_ExprMaps_s_b2; simp -implicitDefEqProofs only [↓reduceIte, evb_ret, evb_ite, evb_need, evb_load, evb_app, evb_cut, evb_call, evb_callv, evb_newM, evb_mkM, evb_storeM, evb_appM, evb_jump, BE.safe, BE.pe, IE.pe, PEnv.at, List.getD_cons_zero, List.getD_cons_succ, List.getElem?_cons_zero, List.getElem?_cons_succ, locOf, locOn, readLoc, takeN, Nat.add_zero, List.drop_zero, List.length_cons, List.length_nil, Nat.reduceAdd, Nat.le_refl, if_true, if_false, Bool.false_eq_true, List.take_succ_cons, List.take_zero, bindK, bindRes, bind1, Option.map_some, Option.bind_some, PEnv.push, List.cons_append, List.nil_append, List.append_nil, SV.pvs, SV.pv, BE.all, Bool.and_self, Bool.not_true, Bool.not_false, List.map_cons, List.map_nil, MO.list, c7, c8, c9, c10, haw2, w3, w5, eqB_self, retP, PV.frz, List.all_nil, false_or]))
  all_goals rfl
end Go.Proofs.Ytbmfegliomkkfaa
