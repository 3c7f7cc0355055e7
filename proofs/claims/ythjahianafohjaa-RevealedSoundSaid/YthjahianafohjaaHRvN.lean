/- revealed.lowered as a whole. -/
import Derived.Test.YthjahianafohjaaHRvM
set_option linter.unusedSimpArgs false
set_option linter.unusedVariables false
set_option maxRecDepth 100000
namespace Go.Proofs.Ythjahianafohjaa
open Go.Sx Go.Bf
theorem isM (h o len cap sz : Nat) : PV.isKind 0 (.msl h o len cap sz) = true := rfl
structure LR (l : List Ch) (vs fs : List Int) (ch : Int) (T r : Nat) : Prop where
  hv : vs.length = l.length
  hf : fs.length = l.length
  inv : ∃ c t, Inv l.length (gN l) (at' vs) (at' fs) c t T (r + 1) 0 0 ∧ (∀ x, x < l.length → c x ≤ r) ∧ ((r = 0 ∧ ch = -1) ∨ ∃ z : Nat, z < l.length ∧ ch = (z : Int) ∧ c z = r)
/-- What comes of it. -/
def LowRes (σ : List MO) (l : List Ch) (res : PV × List MO) : Prop :=
  (∃ vs fs : List Int, vs.length = l.length ∧ fs.length = l.length ∧ (∀ x y, x < l.length → y < l.length → at' vs y ≤ at' vs x + gN l x y) ∧ (∀ x, x < l.length → -648000000000 ≤ at' vs x ∧ at' vs x ≤ 0) ∧
    res = (.tup [.msl σ.length 0 l.length l.length 1, .nilS], σ ++ [.cells (icell vs) 2, .cells (icell fs) 3])) ∨
  (∃ (vs fs : List Int) (c t : Nat → Nat) (z j k : Nat), vs.length = l.length ∧ fs.length = l.length ∧ Go.Bf.Fin l.length (gN l) (at' vs) (at' fs) c t z ∧ j < k ∧ k ≤ l.length ∧ chain (at' fs) z k = chain (at' fs) z j ∧
    res = (.tup [.nilS, .sl 1 (irows (ckeys (at' fs) z j (k - j)).reverse)], σ ++ [.cells (icell vs) 2, .cells (icell fs) 3]))
section
variable (σ : List MO) (hσ : Flat σ) (l : List Ch) (P : PV) (hP : P.rowsOf 12 = some (l.map Ch.row)) (hok : ∀ x ∈ l, x.ok) (hl : l.length ≤ 30) (n : Nat) (hn : 110 ≤ n)
theorem stableB (x : Nat) (T : Nat) (hT : T ≤ 27000) (v : Int) (h : -(24000000 * (T : Int)) ≤ v ∧ v ≤ 0) : -648000000000 ≤ v ∧ v ≤ 0 := by omega
include hσ hP hok hl hn in
theorem rounds : ∀ d r vs fs ch T, r + d = l.length → LR l vs fs ch T r → T ≤ r * (l.length * l.length) →
    ∃ res, LowRes σ l res ∧ ∀ fuel, revealed_lowered_S.loop (evalF Tab n) (fuel + d * (l.length * (l.length + 2) + 2) + 1) 1 (lst σ P l.length vs fs [ch, (l.length : Int), (r : Int)]) = some res := by
  intro d
  obtain ⟨p1, p2, p3⟩ := rows_len hP
  rw [List.length_map] at p1
  have hNN : l.length * (l.length * l.length) ≤ 27000 := by
    calc l.length * (l.length * l.length) ≤ 30 * (30 * 30) := Nat.mul_le_mul hl (Nat.mul_le_mul hl hl)
      _ = 27000 := rfl
  induction d with
  | zero =>
    intro r vs fs ch T hr h hT
    obtain rfl : r = l.length := by omega
    obtain ⟨hv, hf, c, t, hi, hc, hch⟩ := h
    have hd : decide (l.length < l.length) = false := by simp
    rcases hch with ⟨h0, rfl⟩ | ⟨z, hz, rfl, hcz⟩
    · refine ⟨_, .inl ⟨vs, fs, hv, hf, fun x y hx => by omega, fun x hx => by omega, rfl⟩, fun fuel => ?_⟩
      have e1 : ltB (-1) 0 = true := rfl
      rw [Nat.zero_mul, Nat.add_zero, Sys.loop, show revealed_lowered_S.loops[1]? = some revealed_lowered_t1 from rfl]
      simp -implicitDefEqProofs only [Option.bind_some, revealed_lowered_t1, ↓reduceIte, evb_ret, evb_ite, evb_need, evb_load, evb_app, evb_cut, evb_call, evb_callv, evb_newM, evb_mkM, evb_storeM, evb_appM, evb_mkMap, evb_mapGet, evb_mapSet, evb_mapClr, evb_jump, BE.safe, BE.pe, IE.pe, PEnv.at, List.getD_cons_zero, List.getD_cons_succ, List.getElem?_cons_zero, List.getElem?_cons_succ, locOf, locOn, readLoc, takeN, Nat.add_zero, List.drop_zero, List.length_cons, List.length_nil, Nat.reduceAdd, Nat.le_refl, if_true, if_false, Bool.false_eq_true, List.take_succ_cons, List.take_zero, bindK, bindRes, bind1, Option.map_some, Option.bind_some, PEnv.push, List.cons_append, List.nil_append, List.append_nil, SV.pvs, SV.pv, BE.all, Bool.and_self, Bool.not_true, Bool.not_false, List.map_cons, List.map_nil, lst, ltB_nat, hd, e1, retP, true_or]
    · have hfin : Go.Bf.Fin l.length (gN l) (at' vs) (at' fs) c t z := ⟨hi.par, hi.uniq, hz, by omega⟩
      have e1 : ltB (z : Int) 0 = false := by rw [ltB_false]; omega
      have hfl : Flat (σ ++ [.cells (icell vs) 2, .cells (icell fs) 3]) := by
        have := (hσ.snoc vs 2).snoc fs 3
        rw [List.append_assoc] at this; exact this
      rw [← hf] at hfin
      obtain ⟨j, k, hjk, hk, he, hev⟩ := cycle_sem (σ ++ [.cells (icell vs) 2, .cells (icell fs) 3]) hfl (σ.length + 1) fs 3 (get_1 _ _ _ _) (by omega) hfin n (by omega)
      rw [hf] at hfin hev
      refine ⟨_, .inr ⟨vs, fs, c, t, z, j, k, hv, hf, hfin, hjk, by omega, he, rfl⟩, fun fuel => ?_⟩
      simp only [n_revealed_cycle] at hev
      have ho : ∀ rows, (PV.sl 1 rows).one = true := fun _ => rfl
      rw [Nat.zero_mul, Nat.add_zero, Sys.loop, show revealed_lowered_S.loops[1]? = some revealed_lowered_t1 from rfl]
      simp -implicitDefEqProofs only [Option.bind_some, revealed_lowered_t1, ↓reduceIte, evb_ret, evb_ite, evb_need, evb_load, evb_app, evb_cut, evb_call, evb_callv, evb_newM, evb_mkM, evb_storeM, evb_appM, evb_mkMap, evb_mapGet, evb_mapSet, evb_mapClr, evb_jump, BE.safe, BE.pe, IE.pe, PEnv.at, List.getD_cons_zero, List.getD_cons_succ, List.getElem?_cons_zero, List.getElem?_cons_succ, locOf, locOn, readLoc, takeN, Nat.add_zero, List.drop_zero, List.length_cons, List.length_nil, Nat.reduceAdd, Nat.le_refl, if_true, if_false, Bool.false_eq_true, List.take_succ_cons, List.take_zero, bindK, bindRes, bind1, Option.map_some, Option.bind_some, PEnv.push, List.cons_append, List.nil_append, List.append_nil, SV.pvs, SV.pv, BE.all, Bool.and_self, Bool.not_true, Bool.not_false, List.map_cons, List.map_nil, lst, ltB_nat, hd, e1, hev, ho, retP, true_or]
  | succ d ih =>
    intro r vs fs ch T hr h hT
    obtain ⟨hv, hf, c, t, hi, hc, hch⟩ := h
    have hT2 : T + l.length * l.length ≤ (r + 1) * (l.length * l.length) := by rw [Nat.succ_mul]; omega
    have hT3 : (r + 1) * (l.length * l.length) ≤ l.length * (l.length * l.length) := Nat.mul_le_mul_right _ (by omega)
    have hLS : LS l vs fs (-1) T (r + 1) 0 0 := ⟨hv, hf, c, t, hi, .inl ⟨rfl, fun x hx => by have := hc x hx; omega⟩⟩
    obtain ⟨vs1, fs1, ch1, h1, s1⟩ := rows2 σ l P hP hok hl n (by omega) (r : Int) (r + 1) (by omega) l.length 0 vs fs (-1) T (by omega) hLS (by omega)
    obtain ⟨hv1, hf1, c1, t1, hi1, hch1⟩ := h1
    have hd : decide (r < l.length) = true := decide_eq_true (by omega)
    have hd2 : decide (l.length < l.length) = false := by simp
    have first : ∀ fuel, revealed_lowered_S.loop (evalF Tab n) ((fuel + l.length * (l.length + 2)) + 1) 1 (lst σ P l.length vs fs [ch, (l.length : Int), (r : Int)]) = revealed_lowered_S.loop (evalF Tab n) fuel 2 (lst σ P l.length vs1 fs1 [ch1, (l.length : Int), (r : Int), (l.length : Int), (l.length : Int)]) := by
      intro fuel
      rw [← s1, Sys.loop, show revealed_lowered_S.loops[1]? = some revealed_lowered_t1 from rfl]
      simp -implicitDefEqProofs only [Option.bind_some, revealed_lowered_t1, ↓reduceIte, evb_ret, evb_ite, evb_need, evb_load, evb_app, evb_cut, evb_call, evb_callv, evb_newM, evb_mkM, evb_storeM, evb_appM, evb_mkMap, evb_mapGet, evb_mapSet, evb_mapClr, evb_jump, BE.safe, BE.pe, IE.pe, PEnv.at, List.getD_cons_zero, List.getD_cons_succ, List.getElem?_cons_zero, List.getElem?_cons_succ, locOf, locOn, readLoc, takeN, Nat.add_zero, List.drop_zero, List.length_cons, List.length_nil, Nat.reduceAdd, Nat.le_refl, if_true, if_false, Bool.false_eq_true, List.take_succ_cons, List.take_zero, bindK, bindRes, bind1, Option.map_some, Option.bind_some, PEnv.push, List.cons_append, List.nil_append, List.append_nil, SV.pvs, SV.pv, BE.all, Bool.and_self, Bool.not_true, Bool.not_false, List.map_cons, List.map_nil, lst, ltB_nat, hd, p1, p2]
      rfl
    have e2 : (d + 1) * (l.length * (l.length + 2) + 2) = d * (l.length * (l.length + 2) + 2) + (l.length * (l.length + 2) + 2) := Nat.succ_mul _ _
    rcases hch1 with ⟨rfl, hno⟩ | ⟨z, hz, rfl, hcz⟩
    · have hst := hi1.stable hno
      refine ⟨_, .inl ⟨vs1, fs1, hv1, hf1, hst, fun x hx => stableB x _ (by omega) _ (hi1.low x hx), rfl⟩, fun fuel => ?_⟩
      have e1 : ltB (-1) 0 = true := rfl
      rw [e2, show fuel + (d * (l.length * (l.length + 2) + 2) + (l.length * (l.length + 2) + 2)) + 1 = ((fuel + d * (l.length * (l.length + 2) + 2) + 1 + 1) + l.length * (l.length + 2)) + 1 by omega, first]
      rw [Sys.loop, show revealed_lowered_S.loops[2]? = some revealed_lowered_t2 from rfl]
      simp -implicitDefEqProofs only [Option.bind_some, revealed_lowered_t2, ↓reduceIte, evb_ret, evb_ite, evb_need, evb_load, evb_app, evb_cut, evb_call, evb_callv, evb_newM, evb_mkM, evb_storeM, evb_appM, evb_mkMap, evb_mapGet, evb_mapSet, evb_mapClr, evb_jump, BE.safe, BE.pe, IE.pe, PEnv.at, List.getD_cons_zero, List.getD_cons_succ, List.getElem?_cons_zero, List.getElem?_cons_succ, locOf, locOn, readLoc, takeN, Nat.add_zero, List.drop_zero, List.length_cons, List.length_nil, Nat.reduceAdd, Nat.le_refl, if_true, if_false, Bool.false_eq_true, List.take_succ_cons, List.take_zero, bindK, bindRes, bind1, Option.map_some, Option.bind_some, PEnv.push, List.cons_append, List.nil_append, List.append_nil, SV.pvs, SV.pv, BE.all, Bool.and_self, Bool.not_true, Bool.not_false, List.map_cons, List.map_nil, lst, ltB_nat, hd2, e1, retP, true_or]
    · have e1 : ltB (z : Int) 0 = false := by rw [ltB_false]; omega
      have hLR : LR l vs1 fs1 (z : Int) (T + l.length * l.length) (r + 1) := ⟨hv1, hf1, c1, t1, hi1.round, hi1.cle, .inr ⟨z, hz, rfl, hcz⟩⟩
      obtain ⟨res, hres, hev⟩ := ih (r + 1) vs1 fs1 (z : Int) _ (by omega) hLR hT2
      refine ⟨res, hres, fun fuel => ?_⟩
      have q4 : (leB (-9223372036854775808) ((r : Int) + 1) && leB ((r : Int) + 1) 9223372036854775807) = true := by simp [leB]; omega
      rw [e2, show fuel + (d * (l.length * (l.length + 2) + 2) + (l.length * (l.length + 2) + 2)) + 1 = ((fuel + d * (l.length * (l.length + 2) + 2) + 1 + 1) + l.length * (l.length + 2)) + 1 by omega, first]
      rw [← hev fuel, Sys.loop, show revealed_lowered_S.loops[2]? = some revealed_lowered_t2 from rfl]
      simp -implicitDefEqProofs only [Option.bind_some, revealed_lowered_t2, ↓reduceIte, evb_ret, evb_ite, evb_need, evb_load, evb_app, evb_cut, evb_call, evb_callv, evb_newM, evb_mkM, evb_storeM, evb_appM, evb_mkMap, evb_mapGet, evb_mapSet, evb_mapClr, evb_jump, BE.safe, BE.pe, IE.pe, PEnv.at, List.getD_cons_zero, List.getD_cons_succ, List.getElem?_cons_zero, List.getElem?_cons_succ, locOf, locOn, readLoc, takeN, Nat.add_zero, List.drop_zero, List.length_cons, List.length_nil, Nat.reduceAdd, Nat.le_refl, if_true, if_false, Bool.false_eq_true, List.take_succ_cons, List.take_zero, bindK, bindRes, bind1, Option.map_some, Option.bind_some, PEnv.push, List.cons_append, List.nil_append, List.append_nil, SV.pvs, SV.pv, BE.all, Bool.and_self, Bool.not_true, Bool.not_false, List.map_cons, List.map_nil, lst, ltB_nat, hd2, e1, if_pos q4]
      rw [show ((r + 1 : Nat) : Int) = (r : Int) + 1 from by omega]
include hP hl in
/-- At first all links are none. -/
theorem links : ∀ d i, i + d = l.length → ∀ fuel, revealed_lowered_S.loop (evalF Tab n) (fuel + d + 1) 0 (lst σ P l.length (List.replicate l.length 0) (List.replicate i (-1) ++ List.replicate d 0) [(l.length : Int), (i : Int)]) = revealed_lowered_S.loop (evalF Tab n) fuel 1 (lst σ P l.length (List.replicate l.length 0) (List.replicate l.length (-1)) [-1, (l.length : Int), 0]) := by
  intro d
  obtain ⟨p1, p2, p3⟩ := rows_len hP
  rw [List.length_map] at p1
  induction d with
  | zero =>
    intro i hi fuel
    obtain rfl : i = l.length := by omega
    have hd2 : decide (l.length < l.length) = false := by simp
    rw [Sys.loop, show revealed_lowered_S.loops[0]? = some revealed_lowered_t0 from rfl]
    simp -implicitDefEqProofs only [Option.bind_some, revealed_lowered_t0, ↓reduceIte, evb_ret, evb_ite, evb_need, evb_load, evb_app, evb_cut, evb_call, evb_callv, evb_newM, evb_mkM, evb_storeM, evb_appM, evb_mkMap, evb_mapGet, evb_mapSet, evb_mapClr, evb_jump, BE.safe, BE.pe, IE.pe, PEnv.at, List.getD_cons_zero, List.getD_cons_succ, List.getElem?_cons_zero, List.getElem?_cons_succ, locOf, locOn, readLoc, takeN, Nat.add_zero, List.drop_zero, List.length_cons, List.length_nil, Nat.reduceAdd, Nat.le_refl, if_true, if_false, Bool.false_eq_true, List.take_succ_cons, List.take_zero, bindK, bindRes, bind1, Option.map_some, Option.bind_some, PEnv.push, List.cons_append, List.nil_append, List.append_nil, SV.pvs, SV.pv, BE.all, Bool.and_self, Bool.not_true, Bool.not_false, List.map_cons, List.map_nil, lst, ltB_nat, hd2, p1, p2, List.replicate_zero]
  | succ d ih =>
    intro i hi fuel
    have hd : decide (i < l.length) = true := decide_eq_true (by omega)
    have q1 : (leB 0 (i : Int) && true) = true := by simp [leB]
    have q4 : (leB (-9223372036854775808) ((i : Int) + 1) && leB ((i : Int) + 1) 9223372036854775807) = true := by simp [leB]; omega
    have mb2 := locEl_msl (h := σ.length + 1) (o := 0) (cap := l.length) (sz := 1) (off := 0) (i := i) (len := l.length) (by omega)
    have hset : (List.replicate i (-1 : Int) ++ List.replicate (d + 1) 0).set i (-1) = List.replicate (i + 1) (-1) ++ List.replicate d 0 := by
      rw [List.replicate_succ, List.replicate_succ', List.append_assoc]
      have := List.set_append_right (s := List.replicate i (-1 : Int)) (t := 0 :: List.replicate d 0) i (-1) (by simp)
      rw [this]; simp
    have sf := icell_set (l := List.replicate i (-1 : Int) ++ List.replicate (d + 1) 0) (i := i) (-1) (by simp)
    rw [hset] at sf
    have lf : i + 1 ≤ (icell (List.replicate i (-1 : Int) ++ List.replicate (d + 1) 0)).length := by rw [icell_len]; simp
    have := ih (i + 1) (by omega) fuel
    rw [← this, show fuel + (d + 1) + 1 = (fuel + d + 1) + 1 by omega, Sys.loop, show revealed_lowered_S.loops[0]? = some revealed_lowered_t0 from rfl]
    generalize icell (List.replicate l.length 0) = A at *
    simp only [lst]
    generalize icell (List.replicate i (-1 : Int) ++ List.replicate (d + 1) 0) = B at *
    generalize icell (List.replicate (i + 1) (-1 : Int) ++ List.replicate d 0) = B' at *
    simp -implicitDefEqProofs only [Option.bind_some, revealed_lowered_t0, ↓reduceIte, evb_ret, evb_ite, evb_need, evb_load, evb_app, evb_cut, evb_call, evb_callv, evb_newM, evb_mkM, evb_storeM, evb_appM, evb_mkMap, evb_mapGet, evb_mapSet, evb_mapClr, evb_jump, BE.safe, BE.pe, IE.pe, PEnv.at, List.getD_cons_zero, List.getD_cons_succ, List.getElem?_cons_zero, List.getElem?_cons_succ, locOf, locOn, readLoc, takeN, Nat.add_zero, List.drop_zero, List.length_cons, List.length_nil, Nat.reduceAdd, Nat.le_refl, if_true, if_false, Bool.false_eq_true, List.take_succ_cons, List.take_zero, bindK, bindRes, bind1, Option.map_some, Option.bind_some, PEnv.push, List.cons_append, List.nil_append, List.append_nil, SV.pvs, SV.pv, BE.all, Bool.and_self, Bool.not_true, Bool.not_false, List.map_cons, List.map_nil, ltB_nat, hd, lenM, if_pos q1, if_pos q4, mb2, get_1, set_1, Nat.mul_one, Nat.zero_add, lf, sf, show ((i + 1 : Nat) : Int) = (i : Int) + 1 from by omega]
include hσ hP hok hl hn in
theorem lowered_sem (hn2 : l.length * (l.length * (l.length + 2) + 2) + l.length + 10 < n) : ∃ res, LowRes σ l res ∧ evalF Tab (n + 1) n_revealed_lowered [P] σ = some res := by
  obtain ⟨p1, p2, p3⟩ := rows_len hP
  rw [List.length_map] at p1
  have hLR : LR l (List.replicate l.length 0) (List.replicate l.length (-1)) (-1) 0 0 := by
    refine ⟨by simp, by simp, fun _ => 0, fun _ => 0, Inv.start _ _ _ _ (fun x hx => by simp [at', hx]), fun _ _ => Nat.le_refl _, .inl ⟨rfl, rfl⟩⟩
  obtain ⟨res, hres, hev⟩ := rounds σ hσ l P hP hok hl n hn l.length 0 _ _ _ 0 (by omega) hLR (Nat.zero_le _)
  refine ⟨res, hres, ?_⟩
  have hlk := links σ l P hP hl n l.length 0 (by omega)
  have e := hev (n - (l.length * (l.length * (l.length + 2) + 2) + l.length + 2))
  rw [show ((0 : Nat) : Int) = 0 from rfl, ← hlk] at e
  rw [show n - (l.length * (l.length * (l.length + 2) + 2) + l.length + 2) + l.length * (l.length * (l.length + 2) + 2) + 1 + l.length + 1 = n by omega] at e
  simp only [evalF, tab_revealed_lowered, Option.bind_some, Sys.run]
  show ((bindPs [.sh (.one _)] _).bind _) = _
  simp -implicitDefEqProofs only [bindPs, bind1, bindK, Option.map_some, Option.bind_some, List.append_nil, List.nil_append, List.cons_append, if_true, p3]
  show (PT.ev _ revealed_lowered_s _).bind _ = _
  have q1 : (0 ≤ ((l.length : Nat) : Int) ∧ ((l.length : Nat) : Int) ≤ 1000000 ∧ (8 : Nat) ≤ 100000000) := ⟨by omega, by omega, by omega⟩
  have hrep := icell_rep l.length 0
  simp -implicitDefEqProofs only [revealed_lowered_s, ↓reduceIte, evb_ret, evb_ite, evb_need, evb_load, evb_app, evb_cut, evb_call, evb_callv, evb_newM, evb_mkM, evb_storeM, evb_appM, evb_mkMap, evb_mapGet, evb_mapSet, evb_mapClr, evb_jump, BE.safe, BE.pe, IE.pe, PEnv.at, List.getD_cons_zero, List.getD_cons_succ, List.getElem?_cons_zero, List.getElem?_cons_succ, locOf, locOn, readLoc, takeN, Nat.add_zero, List.drop_zero, List.length_cons, List.length_nil, Nat.reduceAdd, Nat.le_refl, if_true, if_false, Bool.false_eq_true, List.take_succ_cons, List.take_zero, bindK, bindRes, bind1, Option.map_some, Option.bind_some, PEnv.push, List.cons_append, List.nil_append, List.append_nil, SV.pvs, SV.pv, BE.all, Bool.and_self, Bool.not_true, Bool.not_false, List.map_cons, List.map_nil, p1, p2, if_pos q1, Int.toNat_natCast, hrep, len_1, app_1, isM, lenM]
  exact e
end
end Go.Proofs.Ythjahianafohjaa
