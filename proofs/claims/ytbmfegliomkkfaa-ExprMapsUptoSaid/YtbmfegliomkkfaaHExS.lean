/- Atoms: the law. -/
import Derived.Test.YtbmfegliomkkfaaHExR
set_option linter.unusedSimpArgs false
set_option linter.unusedVariables false
set_option maxRecDepth 100000
namespace Go.Proofs.Ytbmfegliomkkfaa
open Go.Sx
theorem at_one (L : Nat) (rs : List (List PV)) : (atV L rs).one = true := by cases rs <;> rfl
theorem at_ret (σ : List MO) (hσ : σ.all (MO.low σ.length) = true) (i : List Int) (b : List Bool) (v : List PV) (rs : List (List PV)) (h1 : PV.lowss σ.length rs = true) (h2 : ∀ l ∈ rs, l.all PV.one = true) :
    retP { i := i, b := b, v := v, m := atSt σ rs, k := σ.length } false (atV σ.length rs) = some (cslOf rs, σ) := by
  unfold retP
  rw [if_neg (by cases rs <;> simp [atSt, atO])]
  have ht : (atSt σ rs).take σ.length = σ := by simp [atSt]
  simp only [ht, hσ, if_true]
  cases rs with
  | nil => rfl
  | cons r rs =>
    have hl : (atSt σ (r :: rs))[σ.length + 1]? = some (.row (r :: rs) 9 49) := get_1 _ _ _ _
    have hn : ¬ σ.length + 1 < σ.length := by omega
    simp only [atV, PV.frz, if_neg hn, lookF, hl, Option.bind_some, PV.frzss_low (r :: rs) h1 h2, Option.map_some, MO.elts, and_self, if_true, cslOf]
theorem crows_lows (k : Nat) (l : List Ex) : PV.lowss k (crows l) = true := (crows_is l).lowss k
theorem crows_one : ∀ (l : List Ex) (r : List PV), r ∈ crows l → r.all PV.one = true
  | [], r, h => by simp [crows] at h
  | e :: l, r, h => by
    simp only [crows, List.mem_cons] at h
    rcases h with rfl | h
    · obtain ⟨op, a, b, c, d, e', f, v, w, hw, hw1⟩ := crow_shape e
      rw [hw]
      simp only [List.all_cons, List.all_nil, show ∀ k z, (PV.int k z).one = true from fun _ _ => rfl, hw1, Bool.and_self]
    · exact crows_one l r h
mutual
theorem pre_size : ∀ (e x : Ex), x ∈ e.pre → x.size ≤ e.size
  | .node op a b c d e f v l, x, h => by
    simp only [Ex.pre, List.mem_cons] at h
    rcases h with rfl | h
    · exact Nat.le_refl _
    · have := pres_size l x h; simp only [Ex.size]; omega
theorem pres_size : ∀ (l : List Ex) (x : Ex), x ∈ pres l → x.size ≤ sizes l
  | [], x, h => by simp [pres] at h
  | e :: l, x, h => by
    simp only [pres, List.mem_append] at h
    rcases h with h | h
    · have := pre_size e x h; simp only [sizes]; omega
    · have := pres_size l x h; simp only [sizes]; omega
end
theorem stop_true : ∀ (l p : List Ex), stopAt (fun _ _ => true) p l = none := by
  intro l
  induction l with
  | nil => intro p; rfl
  | cons x l ih => intro p; simp [stopAt, ih]
theorem atoms_sem (σ : List MO) (hσ : σ.all (MO.low σ.length) = true) (e : Ex) (row : List PV) (hrow : IsE e row) (n : Nat) (hn : e.size + (e.size + 4) + 3 ≤ n) (hbig : e.size ≤ 1000000) :
    evalF Tab n n_expr_Atoms [.agg row] σ = some (cslOf (crows (atomsOf e.pre)), σ) := by
  obtain ⟨n, rfl⟩ : ∃ k, n = k + 1 := ⟨n - 1, by omega⟩
  have hw := walk_sem (atoms_visits σ e.pre (by rw [Ex.pre_len]; exact hbig) (fun x hx => Nat.le_trans (pre_size e x hx) hbig) (e.size + 4) (fun x hx => by have := pre_size e x hx; omega)) e row [] [] (by simp) hrow n (by omega) hbig
  rw [stop_true] at hw
  simp only [visitR, List.nil_append, n_expr_walker_walk, n_expr_Atoms_1] at hw
  have hret := fun i b v => at_ret σ hσ i b v (crows (atomsOf e.pre)) (crows_lows _ _) (crows_one _)
  have hone := at_one σ.length (crows (atomsOf e.pre))
  have hst0 : atSt σ (crows (atomsOf [])) = σ ++ [.cells [.nilS] 47] := rfl
  rw [hst0] at hw
  generalize crows (atomsOf e.pre) = rs at *
  have hget : (atSt σ rs)[σ.length]? = some (.cells [atV σ.length rs] 47) := get_0 _ _ _
  generalize atSt σ rs = m at *
  generalize atV σ.length rs = av at *
  obtain ⟨op, a, b, c, d, e', f, v, l⟩ := e
  simp only [IsE] at hrow
  obtain ⟨x, rows, rfl, hx, hl⟩ := hrow
  obtain ⟨x1, x2, x3⟩ := rows_len hx
  simp only [evalF, tab_expr_Atoms, Option.bind_some, Sys.run]
  show ((bindPs [.sh (.agg [_, _, _, _, _, _, _, _, _])] _).bind _) = _
  simp only [bindPs, bind1, bindK, Option.map_some, Option.bind_some, List.append_nil, List.nil_append, List.cons_append, if_true, x3]
  show (PT.ev _ expr_Atoms_s _).bind _ = _
  simp -implicitDefEqProofs only [expr_Atoms_s, ↓reduceIte, PT.ev, BE.safe, BE.pe, IE.pe, PEnv.at, List.getD_cons_zero, List.getD_cons_succ, List.getElem?_cons_zero, List.getElem?_cons_succ, locOf, locOn, readLoc, takeN, Nat.add_zero, List.drop_zero, List.length_cons, List.length_nil, Nat.reduceAdd, Nat.le_refl, if_true, if_false, Bool.false_eq_true, List.take_succ_cons, List.take_zero, bindK, bindRes, bind1, Option.map_some, Option.bind_some, PEnv.push, List.cons_append, List.nil_append, List.append_nil, SV.pvs, SV.pv, BE.all, Bool.and_self, Bool.not_true, Bool.not_false, List.map_cons, List.map_nil, PV.on, hw, hget, MO.list, hone, hret]
theorem atomsOf_cons (x : Ex) (l : List Ex) : atomsOf (x :: l) = (if eqB x.op 1 = true then [x] else []) ++ atomsOf l := by
  simp only [atomsOf, List.filter_cons]
  split <;> simp
theorem ratoms_sem (σ : List MO) (e : Ex) (row : List PV) (hrow : IsE e row) (n : Nat) (hn : e.size + 4 ≤ n) (hbig : e.size ≤ 1000000) :
    ∃ rows, evalF Tab n n_saleroomref11_Atoms [.agg row] σ = some (cslOf rows, σ) ∧ IsEs (atomsOf e.pre) rows := by
  obtain ⟨n, rfl⟩ : ∃ k, n = k + 1 := ⟨n - 1, by omega⟩
  obtain ⟨nrows, hcall, hnr⟩ := pre_sem σ e row hrow n (by omega) hbig
  have hnl := hnr.length
  rw [Ex.pre_len] at hnl
  have hal := Ex.pre_len e
  generalize hall : e.pre = all at *
  have z2 : (PV.sl 9 nrows).isKind 0 = true := rfl
  have z1 : (PV.sl 9 nrows).len = nrows.length := rfl
  have z3 : (PV.sl 9 nrows).one = true := rfl
  have loop : ∀ (fuel : Nat) (i : Nat) (done : List Ex) (acc : List (List PV)) (is : List Int), all.length - i < fuel → i ≤ all.length → IsEs done acc → done.length ≤ i → is.length = 0 →
      ∃ out, saleroomref11_Atoms_S.loop (evalF Tab n) fuel 0 { i := (i : Int) :: is, b := [], v := [cslOf acc, .sl 9 nrows], m := σ, k := σ.length } = some (cslOf out, σ) ∧ IsEs (done ++ atomsOf (all.drop i)) out := by
    intro fuel
    induction fuel with
    | zero => intro i done acc is h; omega
    | succ fuel ihf =>
      intro i done acc is h1 h2 h3 h4 h5
      rw [Sys.loop, show saleroomref11_Atoms_S.loops[0]? = some saleroomref11_Atoms_t0 from rfl]
      simp -implicitDefEqProofs only [Option.bind_some, saleroomref11_Atoms_t0, ↓reduceIte, PT.ev, BE.safe, BE.pe, IE.pe, PEnv.at, List.getD_cons_zero, List.getD_cons_succ, List.getElem?_cons_zero, List.getElem?_cons_succ, locOf, locOn, readLoc, takeN, Nat.add_zero, List.drop_zero, List.length_cons, List.length_nil, Nat.reduceAdd, Nat.le_refl, if_true, if_false, Bool.false_eq_true, List.take_succ_cons, List.take_zero, bindK, bindRes, bind1, Option.map_some, Option.bind_some, PEnv.push, List.cons_append, List.nil_append, List.append_nil, SV.pvs, SV.pv, BE.all, Bool.and_self, Bool.not_true, Bool.not_false, List.map_cons, List.map_nil, ltB_nat, decide_eq_true_eq, z1, z2]
      by_cases hlt : i < nrows.length
      · obtain ⟨e1, he1⟩ : ∃ e1, all[i]? = some e1 := ⟨_, List.getElem?_eq_getElem (by omega)⟩
        have hd := hnr.split i
        rw [drop_cons he1] at hd ⊢
        simp only [IsEs] at hd
        obtain ⟨r1, rs, hd1, hd2, hd3⟩ := hd
        have hr : nrows[i]? = some r1 := head_drop hd1
        have hloc : ∀ off, locEl (i : Int) 9 off (.sl 9 nrows) = some (.row r1 off) := fun off => rows_get (rowsOf_sl 9 nrows) hr
        rw [if_pos hlt]
        have h3l := h3.length
        have n1 := ihf (i + 1) (done ++ [e1]) (acc ++ [r1]) is (by omega) (by omega) (h3.append ⟨r1, [], rfl, hd2, rfl⟩) (by simp only [List.length_append, List.length_singleton]; omega) h5
        have n2 := ihf (i + 1) done acc is (by omega) (by omega) h3 (by omega) h5
        rw [← cslOf_snoc] at n1
        rw [atomsOf_cons]
        obtain ⟨hb, hop⟩ : ∃ hb, eqB e1.op 1 = hb := ⟨_, rfl⟩
        rw [hop]
        obtain ⟨op1, a1, b1, c1, d1, e1', f1, v1, l1⟩ := e1
        have hop2 : eqB op1 1 = hb := hop
        clear hop
        have hd2' := hd2
        simp only [IsE] at hd2'
        obtain ⟨y, rows1, rfl, hy, hl1⟩ := hd2'
        obtain ⟨y1, y2, y3⟩ := rows_len hy
        generalize hy0 : Ex.node op1 a1 b1 c1 d1 e1' f1 v1 l1 = y0 at *
        have q1 : (leB 0 (i : Int) && decide (i < nrows.length)) = true := by simp [leB, hlt]
        have q2 : (leB (-9223372036854775808) ((i : Int) + 1) && leB ((i : Int) + 1) 9223372036854775807) = true := by simp [leB]; omega
        have q4 : acc.length + 1 ≤ 1000000 := by omega
        have q5 : 1 ≤ 1000000 := by omega
        have q19 : 1 ≤ 9 := by omega
        rw [show ((i + 1 : Nat) : Int) = (i : Int) + 1 from by omega] at n1 n2
        simp -implicitDefEqProofs only [↓reduceIte, PT.ev, BE.safe, BE.pe, IE.pe, PEnv.at, List.getD_cons_zero, List.getD_cons_succ, List.getElem?_cons_zero, List.getElem?_cons_succ, locOf, locOn, readLoc, takeN, Nat.add_zero, List.drop_zero, List.length_cons, List.length_nil, Nat.reduceAdd, Nat.le_refl, if_true, if_false, Bool.false_eq_true, List.take_succ_cons, List.take_zero, bindK, bindRes, bind1, Option.map_some, Option.bind_some, PEnv.push, List.cons_append, List.nil_append, List.append_nil, SV.pvs, SV.pv, BE.all, Bool.and_self, Bool.not_true, Bool.not_false, List.map_cons, List.map_nil, if_pos q1, hloc, if_pos q19]
        obtain rfl : is = [] := List.eq_nil_of_length_eq_zero h5
        cases hb with
        | true =>
          obtain ⟨out, o1, o2⟩ := n1
          refine ⟨out, ?_, by simpa using o2⟩
          simp -implicitDefEqProofs only [↓reduceIte, PT.ev, BE.safe, BE.pe, IE.pe, PEnv.at, List.getD_cons_zero, List.getD_cons_succ, List.getElem?_cons_zero, List.getElem?_cons_succ, locOf, locOn, readLoc, takeN, Nat.add_zero, List.drop_zero, List.length_cons, List.length_nil, Nat.reduceAdd, Nat.le_refl, if_true, if_false, Bool.false_eq_true, List.take_succ_cons, List.take_zero, bindK, bindRes, bind1, Option.map_some, Option.bind_some, PEnv.push, List.cons_append, List.nil_append, List.append_nil, SV.pvs, SV.pv, BE.all, Bool.and_self, Bool.not_true, Bool.not_false, List.map_cons, List.map_nil, hop2, if_pos q1, if_pos q19, hloc, y3, srcRows, List.mapM_cons, List.mapM_nil, Option.bind_eq_bind, Option.pure_def, rowsOf_sl, cslOf_rows, if_pos q4, if_pos q5, if_pos q2, sl_one]
          exact o1
        | false =>
          obtain ⟨out, o1, o2⟩ := n2
          refine ⟨out, ?_, by simpa using o2⟩
          simp -implicitDefEqProofs only [↓reduceIte, PT.ev, BE.safe, BE.pe, IE.pe, PEnv.at, List.getD_cons_zero, List.getD_cons_succ, List.getElem?_cons_zero, List.getElem?_cons_succ, locOf, locOn, readLoc, takeN, Nat.add_zero, List.drop_zero, List.length_cons, List.length_nil, Nat.reduceAdd, Nat.le_refl, if_true, if_false, Bool.false_eq_true, List.take_succ_cons, List.take_zero, bindK, bindRes, bind1, Option.map_some, Option.bind_some, PEnv.push, List.cons_append, List.nil_append, List.append_nil, SV.pvs, SV.pv, BE.all, Bool.and_self, Bool.not_true, Bool.not_false, List.map_cons, List.map_nil, hop2, if_pos q19, if_pos q2]
          exact o1
      · have hil : i = all.length := by omega
        rw [if_neg hlt]
        subst hil
        refine ⟨acc, ?_, by rw [List.drop_length]; simpa [atomsOf] using h3⟩
        simp -implicitDefEqProofs only [↓reduceIte, PT.ev, BE.safe, BE.pe, IE.pe, PEnv.at, List.getD_cons_zero, List.getD_cons_succ, List.getElem?_cons_zero, List.getElem?_cons_succ, locOf, locOn, readLoc, takeN, Nat.add_zero, List.drop_zero, List.length_cons, List.length_nil, Nat.reduceAdd, Nat.le_refl, if_true, if_false, Bool.false_eq_true, List.take_succ_cons, List.take_zero, bindK, bindRes, bind1, Option.map_some, Option.bind_some, PEnv.push, List.cons_append, List.nil_append, List.append_nil, SV.pvs, SV.pv, BE.all, Bool.and_self, Bool.not_true, Bool.not_false, List.map_cons, List.map_nil, retP, or_true]
  obtain ⟨out, h0, h0'⟩ := loop n 0 [] [] [] (by omega) (Nat.zero_le _) rfl (Nat.le_refl _) rfl
  refine ⟨out, ?_, by simpa using h0'⟩
  obtain ⟨op, a, b, c, d, e', f, v, l⟩ := e
  simp only [IsE] at hrow
  obtain ⟨x, rows, rfl, hx, hl⟩ := hrow
  obtain ⟨x1, x2, x3⟩ := rows_len hx
  generalize hy0 : Ex.node op a b c d e' f v l = y0 at *
  simp only [n_saleroomref11_Preorder] at hcall
  simp only [evalF, tab_saleroomref11_Atoms, Option.bind_some, Sys.run]
  show ((bindPs [.sh (.agg [_, _, _, _, _, _, _, _, _])] _).bind _) = _
  simp only [bindPs, bind1, bindK, Option.map_some, Option.bind_some, List.append_nil, List.nil_append, List.cons_append, if_true, x3]
  show (PT.ev _ saleroomref11_Atoms_s _).bind _ = _
  simp -implicitDefEqProofs only [saleroomref11_Atoms_s, ↓reduceIte, PT.ev, BE.safe, BE.pe, IE.pe, PEnv.at, List.getD_cons_zero, List.getD_cons_succ, List.getElem?_cons_zero, List.getElem?_cons_succ, locOf, locOn, readLoc, takeN, Nat.add_zero, List.drop_zero, List.length_cons, List.length_nil, Nat.reduceAdd, Nat.le_refl, if_true, if_false, Bool.false_eq_true, List.take_succ_cons, List.take_zero, bindK, bindRes, bind1, Option.map_some, Option.bind_some, PEnv.push, List.cons_append, List.nil_append, List.append_nil, SV.pvs, SV.pv, BE.all, Bool.and_self, Bool.not_true, Bool.not_false, List.map_cons, List.map_nil, hcall, sl_one]
  exact h0
theorem same_sem (σ : List MO) (l : List Ex) (r1 r2 : List (List PV)) (h1 : IsEs l r1) (h2 : IsEs l r2) (p1 p2 : PV) (hp1 : p1.rowsOf 9 = some r1) (hp2 : p2.rowsOf 9 = some r2) (n : Nat) (hn : sizes l + 4 ≤ n) (hbig : sizes l < 1000000) :
    evalF Tab n n_saleroomref11_Same [p1, p2] σ = some (.bool true, σ) := by
  obtain ⟨n, rfl⟩ : ∃ k, n = k + 1 := ⟨n - 1, by omega⟩
  have i1 : ∀ r p, IsEs l r → p.rowsOf 9 = some r → IsE (.node 0 0 0 0 0 0 0 0 l) [.int .i64 0, .int .i64 0, .int .i64 0, .int .i64 0, .int .i64 0, .int .i64 0, .int .i64 0, .int .i64 0, p] := fun r p h hp => by
    simp only [IsE]
    exact ⟨_, r, rfl, hp, h⟩
  have o1 := (rows_len hp1).2.2
  have o2 := (rows_len hp2).2.2
  have hc := requal_sem σ _ _ (i1 r1 p1 h1 hp1) _ _ (i1 r2 p2 h2 hp2) n (by simp only [Ex.size]; omega) (by simp only [Ex.size]; omega)
  rw [Ex.beq_refl] at hc
  simp only [n_saleroomref11_Equal] at hc
  simp only [evalF, tab_saleroomref11_Same, Option.bind_some, Sys.run]
  show ((bindPs [.sh (.one _), .sh (.one _)] _).bind _) = _
  simp only [bindPs, bind1, bindK, Option.map_some, Option.bind_some, List.append_nil, List.nil_append, List.cons_append, if_true, o1, o2]
  show (PT.ev _ saleroomref11_Same_s _).bind _ = _
  simp -implicitDefEqProofs only [saleroomref11_Same_s, ↓reduceIte, PT.ev, BE.safe, BE.pe, IE.pe, PEnv.at, List.getD_cons_zero, List.getD_cons_succ, List.getElem?_cons_zero, List.getElem?_cons_succ, locOf, locOn, readLoc, takeN, Nat.add_zero, List.drop_zero, List.length_cons, List.length_nil, Nat.reduceAdd, Nat.le_refl, if_true, if_false, Bool.false_eq_true, List.take_succ_cons, List.take_zero, bindK, bindRes, bind1, Option.map_some, Option.bind_some, PEnv.push, List.cons_append, List.nil_append, List.append_nil, SV.pvs, SV.pv, BE.all, Bool.and_self, Bool.not_true, Bool.not_false, List.map_cons, List.map_nil, hc, retP, or_true]
theorem sizes_filter (g : Ex → Bool) (M : Nat) : ∀ (l : List Ex), (∀ x ∈ l, x.size ≤ M) → sizes (l.filter g) ≤ l.length * M
  | [], _ => by simp [sizes]
  | x :: l, h => by
    have h1 := h x (by simp)
    have h2 := sizes_filter g M l (fun y hy => h y (by simp [hy]))
    simp only [List.filter_cons, List.length_cons, Nat.add_mul, Nat.one_mul]
    split
    · simp only [sizes]; omega
    · omega
theorem atoms_size (e : Ex) : sizes (atomsOf e.pre) ≤ e.size * e.size := by
  have := sizes_filter (fun x => eqB x.op 1) e.size e.pre (fun x hx => pre_size e x hx)
  rwa [Ex.pre_len] at this
theorem atomsOf_append (l m : List Ex) : atomsOf (l ++ m) = atomsOf l ++ atomsOf m := List.filter_append ..
theorem atoms_pre : ∀ e : Ex, atomsOf e.pre = (if eqB e.op 1 = true then [e] else []) ++ atomsOf (pres e.args)
  | .node _ _ _ _ _ _ _ _ _ => by rw [Ex.pre, atomsOf_cons]; rfl
theorem atoms_len (e : Ex) : (atomsOf e.pre).length ≤ e.size := by
  have := List.length_filter_le (fun x : Ex => eqB x.op 1) e.pre
  rwa [Ex.pre_len] at this
theorem atoms_true (e : Ex) (row : List PV) (hrow : IsE e row) (n : Nat) (hn : e.size + 200000 ≤ n) (hbig : e.size ≤ 1000000) (haw : evalF Tab n n_saleroomlaw11_awake [] [] = some (.bool true, [])) :
    evalF Tab (n + 1) n_saleroomlaw11_ExprAtoms [.agg row] [] = some (.bool true, []) := by
  have c1 := few_sem [] rfl e row hrow n (by omega) hbig
  by_cases hfew : e.size ≤ 400
  case neg =>
    obtain ⟨op, a, b, c, d, e', f, v, l⟩ := e
    simp only [IsE] at hrow
    obtain ⟨x, rows, rfl, hx, hl⟩ := hrow
    obtain ⟨x1, x2, x3⟩ := rows_len hx
    generalize hy0 : Ex.node op a b c d e' f v l = y0 at *
    simp only [n_saleroomlaw11_few, n_saleroomlaw11_awake] at c1 haw
    simp only [evalF, tab_saleroomlaw11_ExprAtoms, Option.bind_some, Sys.run]
    show ((bindPs [.sh (.agg [_, _, _, _, _, _, _, _, _])] _).bind _) = _
    simp only [bindPs, bind1, bindK, Option.map_some, Option.bind_some, List.append_nil, List.nil_append, List.cons_append, if_true, x3]
    show (PT.ev _ saleroomlaw11_ExprAtoms_s _).bind _ = _
    simp -implicitDefEqProofs only [saleroomlaw11_ExprAtoms_s, ↓reduceIte, PT.ev, BE.safe, BE.pe, IE.pe, PEnv.at, List.getD_cons_zero, List.getD_cons_succ, List.getElem?_cons_zero, List.getElem?_cons_succ, locOf, locOn, readLoc, takeN, Nat.add_zero, List.drop_zero, List.length_cons, List.length_nil, Nat.reduceAdd, Nat.le_refl, if_true, if_false, Bool.false_eq_true, List.take_succ_cons, List.take_zero, bindK, bindRes, bind1, Option.map_some, Option.bind_some, PEnv.push, List.cons_append, List.nil_append, List.append_nil, SV.pvs, SV.pv, BE.all, Bool.and_self, Bool.not_true, Bool.not_false, List.map_cons, List.map_nil, c1, hfew, decide_false, haw, retP, or_true]
  have hsq : e.size * e.size ≤ 160000 := Nat.mul_le_mul hfew hfew
  have hat := atoms_size e
  have c2 := atoms_sem [] rfl e row hrow n (by omega) hbig
  obtain ⟨rr, c3, hrr⟩ := ratoms_sem [] e row hrow n (by omega) hbig
  have c4 := same_sem [] _ _ _ (crows_is (atomsOf e.pre)) hrr _ _ (cslOf_rows _) (cslOf_rows _) n (by omega) (by omega)
  have hal := atoms_len e
  have hpre : (eqB e.op 1 = false → atomsOf e.pre = atomsOf (pres e.args)) ∧ (atomsOf (pres e.args)).length ≤ (atomsOf e.pre).length := by
    have := atoms_pre e
    refine ⟨fun h => by rw [this, h]; simp, by rw [this, List.length_append]; omega⟩
  generalize hA : atomsOf e.pre = A at *
  obtain ⟨op, a, b, c, d, e', f, v, l⟩ := e
  simp only [IsE] at hrow
  obtain ⟨x, rows, rfl, hx, hl⟩ := hrow
  obtain ⟨x1, x2, x3⟩ := rows_len hx
  simp only [Ex.op, Ex.args] at hpre
  have hsl : sizes l + 1 = (Ex.node op a b c d e' f v l).size := rfl
  generalize hy0 : Ex.node op a b c d e' f v l = y0 at *
  have hlen := hl.length
  simp only [n_saleroomlaw11_few, n_expr_Atoms, n_saleroomref11_Atoms, n_saleroomref11_Same, n_saleroomlaw11_awake] at c1 c2 c3 c4 haw
  have hlls := sizes_len l
  have loop : ∀ (fuel : Nat) (i : Nat) (done : List Ex) (acc : List (List PV)) (p : PV), l.length - i < fuel → i ≤ l.length → done ++ atomsOf (pres (l.drop i)) = atomsOf (pres l) → IsEs done acc → p.rowsOf 9 = some acc →
      saleroomlaw11_ExprAtoms_S.loop (evalF Tab n) fuel 0 { i := [(rows.length : Int), (i : Int), op, a, b, c, d, e', f, v], b := [], v := [cslOf (crows A), p, x], m := [], k := 0 } = some (.bool true, []) := by
    intro fuel
    induction fuel with
    | zero => intro i done acc p h; omega
    | succ fuel ihf =>
      intro i done acc p h1 h2 h3 hda hpa
      obtain ⟨p1, p2, p3⟩ := rows_len hpa
      rw [Sys.loop, show saleroomlaw11_ExprAtoms_S.loops[0]? = some saleroomlaw11_ExprAtoms_t0 from rfl]
      simp -implicitDefEqProofs only [Option.bind_some, saleroomlaw11_ExprAtoms_t0, ↓reduceIte, PT.ev, BE.safe, BE.pe, IE.pe, PEnv.at, List.getD_cons_zero, List.getD_cons_succ, List.getElem?_cons_zero, List.getElem?_cons_succ, locOf, locOn, readLoc, takeN, Nat.add_zero, List.drop_zero, List.length_cons, List.length_nil, Nat.reduceAdd, Nat.le_refl, if_true, if_false, Bool.false_eq_true, List.take_succ_cons, List.take_zero, bindK, bindRes, bind1, Option.map_some, Option.bind_some, PEnv.push, List.cons_append, List.nil_append, List.append_nil, SV.pvs, SV.pv, BE.all, Bool.and_self, Bool.not_true, Bool.not_false, List.map_cons, List.map_nil, ltB_nat, decide_eq_true_eq]
      by_cases hlt : i < rows.length
      · obtain ⟨e1, he1⟩ : ∃ e1, l[i]? = some e1 := ⟨_, List.getElem?_eq_getElem (by omega)⟩
        have hd := hl.split i
        rw [drop_cons he1] at hd h3
        simp only [IsEs] at hd
        obtain ⟨r1, rs, hd1, hd2, hd3⟩ := hd
        have hr : rows[i]? = some r1 := head_drop hd1
        have hloc := rows_get (off := 0) hx hr
        rw [if_pos hlt]
        have hsz := sizes_mem (List.mem_of_getElem? he1)
        have hc := atoms_sem [] rfl e1 r1 hd2 n (by omega) (by omega)
        simp only [pres, atomsOf_append] at h3
        have h3l := congrArg List.length h3
        have h3m : (atomsOf (pres l)).length ≤ A.length := hpre.2
        have := ihf (i + 1) (done ++ atomsOf e1.pre) (acc ++ crows (atomsOf e1.pre)) (.sl 9 (acc ++ crows (atomsOf e1.pre))) (by omega) (by omega) (by rw [List.append_assoc]; exact h3) (hda.append (crows_is _)) (rowsOf_sl 9 _)
        have hcl := crows_length (atomsOf e1.pre)
        have hdl := hda.length
        have q4 : acc.length + (crows (atomsOf e1.pre)).length ≤ 1000000 := by
          simp only [List.length_append] at h3l
          omega
        generalize crows (atomsOf e1.pre) = cr at *
        obtain ⟨op1, a1, b1, k1, d1, e1', f1, v1, l1⟩ := e1
        simp only [IsE] at hd2
        obtain ⟨y, rows1, rfl, hy, hl1⟩ := hd2
        obtain ⟨y1, y2, y3⟩ := rows_len hy
        have q1 : (leB 0 (i : Int) && decide (i < rows.length)) = true := by simp [leB, hlt]
        have q2 : (leB (-9223372036854775808) ((i : Int) + 1) && leB ((i : Int) + 1) 9223372036854775807) = true := by simp [leB]; omega
        rw [show ((i + 1 : Nat) : Int) = (i : Int) + 1 from by omega] at this
        simp only [n_expr_Atoms] at hc
        simp -implicitDefEqProofs only [x1, x2, ltB_nat, ↓reduceIte, PT.ev, BE.safe, BE.pe, IE.pe, PEnv.at, List.getD_cons_zero, List.getD_cons_succ, List.getElem?_cons_zero, List.getElem?_cons_succ, locOf, locOn, readLoc, takeN, Nat.add_zero, List.drop_zero, List.length_cons, List.length_nil, Nat.reduceAdd, Nat.le_refl, if_true, if_false, Bool.false_eq_true, List.take_succ_cons, List.take_zero, bindK, bindRes, bind1, Option.map_some, Option.bind_some, PEnv.push, List.cons_append, List.nil_append, List.append_nil, SV.pvs, SV.pv, BE.all, Bool.and_self, Bool.not_true, Bool.not_false, List.map_cons, List.map_nil, if_pos q1, hloc, y3, hc, cslOf_one, cslOf_rows, hpa, p3, srcRows, if_pos q4, if_pos q2, sl_one]
        exact this
      · have hil : i = l.length := by omega
        rw [if_neg hlt]
        subst hil
        rw [List.drop_length, show atomsOf (pres []) = [] from rfl, List.append_nil] at h3
        cases hop : eqB op 1 with
        | true => simp -implicitDefEqProofs only [↓reduceIte, PT.ev, BE.safe, BE.pe, IE.pe, PEnv.at, List.getD_cons_zero, List.getD_cons_succ, List.getElem?_cons_zero, List.getElem?_cons_succ, locOf, locOn, readLoc, takeN, Nat.add_zero, List.drop_zero, List.length_cons, List.length_nil, Nat.reduceAdd, Nat.le_refl, if_true, if_false, Bool.false_eq_true, List.take_succ_cons, List.take_zero, bindK, bindRes, bind1, Option.map_some, Option.bind_some, PEnv.push, List.cons_append, List.nil_append, List.append_nil, SV.pvs, SV.pv, BE.all, Bool.and_self, Bool.not_true, Bool.not_false, List.map_cons, List.map_nil, hop, haw, retP, List.length_nil, or_true]
        | false =>
          have hAd : A = done := by rw [hpre.1 hop, ← h3]
          have c5 := same_sem [] A _ _ (crows_is A) (hAd ▸ hda) _ p (cslOf_rows _) hpa n (by omega) (by omega)
          simp only [n_saleroomref11_Same] at c5
          simp -implicitDefEqProofs only [↓reduceIte, PT.ev, BE.safe, BE.pe, IE.pe, PEnv.at, List.getD_cons_zero, List.getD_cons_succ, List.getElem?_cons_zero, List.getElem?_cons_succ, locOf, locOn, readLoc, takeN, Nat.add_zero, List.drop_zero, List.length_cons, List.length_nil, Nat.reduceAdd, Nat.le_refl, if_true, if_false, Bool.false_eq_true, List.take_succ_cons, List.take_zero, bindK, bindRes, bind1, Option.map_some, Option.bind_some, PEnv.push, List.cons_append, List.nil_append, List.append_nil, SV.pvs, SV.pv, BE.all, Bool.and_self, Bool.not_true, Bool.not_false, List.map_cons, List.map_nil, hop, c5, haw, retP, List.length_nil, or_true]
  have h0 := loop n 0 [] [] .nilS (by omega) (Nat.zero_le _) rfl rfl rfl
  simp only [evalF, tab_saleroomlaw11_ExprAtoms, Option.bind_some, Sys.run]
  show ((bindPs [.sh (.agg [_, _, _, _, _, _, _, _, _])] _).bind _) = _
  simp only [bindPs, bind1, bindK, Option.map_some, Option.bind_some, List.append_nil, List.nil_append, List.cons_append, if_true, x3]
  show (PT.ev _ saleroomlaw11_ExprAtoms_s _).bind _ = _
  simp -implicitDefEqProofs only [saleroomlaw11_ExprAtoms_s, ↓reduceIte, PT.ev, BE.safe, BE.pe, IE.pe, PEnv.at, List.getD_cons_zero, List.getD_cons_succ, List.getElem?_cons_zero, List.getElem?_cons_succ, locOf, locOn, readLoc, takeN, Nat.add_zero, List.drop_zero, List.length_cons, List.length_nil, Nat.reduceAdd, Nat.le_refl, if_true, if_false, Bool.false_eq_true, List.take_succ_cons, List.take_zero, bindK, bindRes, bind1, Option.map_some, Option.bind_some, PEnv.push, List.cons_append, List.nil_append, List.append_nil, SV.pvs, SV.pv, BE.all, Bool.and_self, Bool.not_true, Bool.not_false, List.map_cons, List.map_nil, c1, hfew, decide_true, c2, c3, c4, cslOf_one, x1, x2]
  simpa using h0
end Go.Proofs.Ytbmfegliomkkfaa
