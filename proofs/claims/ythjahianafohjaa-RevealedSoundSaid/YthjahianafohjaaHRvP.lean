/- revealed.Check as a whole. -/
import Derived.Test.YthjahianafohjaaHRvO
set_option linter.unusedSimpArgs false
set_option linter.unusedVariables false
set_option maxRecDepth 100000
namespace Go.Proofs.Ythjahianafohjaa
open Go.Sx Go.Bf
theorem lowss_irows (k : Nat) (l : List Int) : PV.lowss k (irows l) = true := by
  induction l with
  | nil => rfl
  | cons z l ih => simpa [irows, PV.lowss, PV.lows, PV.low] using ih
def curR (vs : List Int) (r : Int) (i : Nat) : List Int := (vs.take i).map (· + r) ++ vs.drop i
theorem curR_len (vs : List Int) (r : Int) (i : Nat) : (curR vs r i).length = vs.length := by simp [curR]; omega
theorem curR_at {vs : List Int} {r : Int} {i : Nat} (h : i < vs.length) : at' (curR vs r i) i = at' vs i := by
  unfold at' curR
  rw [List.getElem?_append_right (by simp; omega)]
  simp [show min i vs.length = i by omega]
theorem curR_set {vs : List Int} {r : Int} {i : Nat} (h : i < vs.length) : (curR vs r i).set i (at' vs i + r) = curR vs r (i + 1) := by
  unfold curR
  rw [List.take_add_one, at'_get h, drop_cons (at'_get h)]
  have hl : i = ((vs.take i).map (· + r)).length := by simp; omega
  have := List.set_append_right (s := (vs.take i).map (· + r)) (t := at' vs i :: vs.drop (i + 1)) i (at' vs i + r) (by simp; omega)
  rw [this]
  simp [show min i vs.length = i by omega]
section
variable (σ : List MO) (hσ : Flat σ) (N : Nat) (hN : N ≤ 30) (n : Nat) (r : Int) (vs fs : List Int) (hvs : vs.length = N) (hr : 0 ≤ r ∧ r ≤ 648024000000) (hb : ∀ x, x < N → -648000000000 ≤ at' vs x ∧ at' vs x ≤ 0)
include hN in
theorem chk2 (i fuel : Nat) (hi : i < N) (cur : List Int) (hc : cur.length = N) (hq : -1000000000000 ≤ at' cur i + r ∧ at' cur i + r ≤ 1000000000000) :
    revealed_Check_S.loop (evalF Tab n) (fuel + 1) 2 (cst2 σ N cur fs [r, (N : Int), (i : Int)]) = revealed_Check_S.loop (evalF Tab n) fuel 2 (cst2 σ N (cur.set i (at' cur i + r)) fs [r, (N : Int), ((i + 1 : Nat) : Int)]) := by
  have dva := icell_drop (at'_get (l := cur) (i := i) (by omega))
  have ma := locEl_msl (h := σ.length) (o := 0) (cap := N) (sz := 1) (off := 0) hi
  have e2 : ((i + 1 : Nat) : Int) = (i : Int) + 1 := by omega
  have hd : decide (i < N) = true := decide_eq_true hi
  have q1 : (leB 0 (i : Int) && true) = true := by simp [leB]
  have q4 : (leB (-9223372036854775808) ((i : Int) + 1) && leB ((i : Int) + 1) 9223372036854775807) = true := by simp [leB]; omega
  have q5 : (leB (-9223372036854775808) (at' cur i + r) && leB (at' cur i + r) 9223372036854775807) = true := by simp [leB]; omega
  have sv := icell_set (l := cur) (i := i) (at' cur i + r) (by omega)
  have lv : i + 1 ≤ (icell cur).length := by rw [icell_len]; omega
  rw [e2, Sys.loop, show revealed_Check_S.loops[2]? = some revealed_Check_t2 from rfl, Option.bind_some]
  simp -implicitDefEqProofs only [revealed_Check_t2, ↓reduceIte, evb_ret, evb_ite, evb_need, evb_load, evb_app, evb_cut, evb_call, evb_callv, evb_newM, evb_mkM, evb_storeM, evb_appM, evb_mkMap, evb_mapGet, evb_mapSet, evb_mapClr, evb_jump, BE.safe, BE.pe, IE.pe, PEnv.at, List.getD_cons_zero, List.getD_cons_succ, List.getElem?_cons_zero, List.getElem?_cons_succ, locOf, locOn, readLoc, takeN, Nat.add_zero, List.drop_zero, List.length_cons, List.length_nil, Nat.reduceAdd, Nat.le_refl, if_true, if_false, Bool.false_eq_true, List.take_succ_cons, List.take_zero, bindK, bindRes, bind1, Option.map_some, Option.bind_some, PEnv.push, List.cons_append, List.nil_append, List.append_nil, SV.pvs, SV.pv, BE.all, Bool.and_self, Bool.not_true, Bool.not_false, List.map_cons, List.map_nil, cst2, lenM, ltB_nat, hd, if_pos q1, if_pos q4, if_pos q5, ma, get_0, set_0, MO.list, Nat.mul_one, Nat.zero_add, dva, Nat.le_add_left, lv, sv]
include hN hvs hr hb in
theorem chk2s : ∀ d i, i + d = N → ∀ fuel, revealed_Check_S.loop (evalF Tab n) (fuel + d) 2 (cst2 σ N (curR vs r i) fs [r, (N : Int), (i : Int)]) = revealed_Check_S.loop (evalF Tab n) fuel 2 (cst2 σ N (curR vs r N) fs [r, (N : Int), (N : Int)]) := by
  intro d
  induction d with
  | zero => intro i hi fuel; rw [Nat.add_zero] at hi; subst hi; rfl
  | succ d ih =>
    intro i hi fuel
    have hbi := hb i (by omega)
    have h := chk2 σ N hN n r fs i (fuel + d) (by omega) (curR vs r i) (by rw [curR_len, hvs]) (by rw [curR_at (by omega)]; omega)
    rw [curR_at (by omega), curR_set (by omega)] at h
    rw [show fuel + (d + 1) = (fuel + d) + 1 from rfl, h]
    exact ih (i + 1) (by omega) fuel
include hσ in
theorem chkEnd (cur : List Int) (hc : cur.length = N) (fuel : Nat) : revealed_Check_S.loop (evalF Tab n) (fuel + 1) 2 (cst2 σ N cur fs [r, (N : Int), (N : Int)]) = some (.tup [.agg [.nilS, .sl 1 (irows cur)], .bool true], σ) := by
  have hd : decide (N < N) = false := by simp
  have hr := rowsN_icell cur
  rw [hc] at hr
  rw [Sys.loop, show revealed_Check_S.loops[2]? = some revealed_Check_t2 from rfl]
  simp -implicitDefEqProofs only [Option.bind_some, revealed_Check_t2, ↓reduceIte, evb_ret, evb_ite, evb_need, evb_load, evb_app, evb_cut, evb_call, evb_callv, evb_newM, evb_mkM, evb_storeM, evb_appM, evb_mkMap, evb_mapGet, evb_mapSet, evb_mapClr, evb_jump, BE.safe, BE.pe, IE.pe, PEnv.at, List.getD_cons_zero, List.getD_cons_succ, List.getElem?_cons_zero, List.getElem?_cons_succ, locOf, locOn, readLoc, takeN, Nat.add_zero, List.drop_zero, List.length_cons, List.length_nil, Nat.reduceAdd, Nat.le_refl, if_true, if_false, Bool.false_eq_true, List.take_succ_cons, List.take_zero, bindK, bindRes, bind1, Option.map_some, Option.bind_some, PEnv.push, List.cons_append, List.nil_append, List.append_nil, SV.pvs, SV.pv, BE.all, Bool.and_self, Bool.not_true, Bool.not_false, List.map_cons, List.map_nil, cst2, ltB_nat, hd]
  have hm3 : (σ ++ [.cells (icell cur) 2, .cells (icell fs) 3] : List MO).length = σ.length + 2 := by simp
  have h1 : ¬ (false = true ∨ σ.length + 2 = σ.length) := by simp
  have h2 : ¬ (σ.length < σ.length) := by omega
  simp -implicitDefEqProofs only [retP, hm3, if_neg h1, List.take_left', hσ σ.length, PV.frz, PV.frzs, if_neg h2, lookF, get_0, frzs_icell, MO.list, hr, List.take_append, ↓reduceIte, PT.ev, BE.safe, BE.pe, IE.pe, PEnv.at, List.getD_cons_zero, List.getD_cons_succ, List.getElem?_cons_zero, List.getElem?_cons_succ, locOf, locOn, readLoc, takeN, Nat.add_zero, List.drop_zero, List.length_cons, List.length_nil, Nat.reduceAdd, Nat.le_refl, if_true, if_false, Bool.false_eq_true, List.take_succ_cons, List.take_zero, bindK, bindRes, bind1, Option.map_some, Option.bind_some, PEnv.push, List.cons_append, List.nil_append, List.append_nil, SV.pvs, SV.pv, BE.all, Bool.and_self, Bool.not_true, Bool.not_false, List.map_cons, List.map_nil]
  simp [hσ σ.length]
end
section
variable (σ : List MO) (hσ : Flat σ) (l : List Ch) (P : PV) (hP : P.rowsOf 12 = some (l.map Ch.row)) (hl : l.length ≤ 30) (n : Nat) (hn : 30000 ≤ n)
/-- What Check answers. -/
def ChkRes (l : List Ch) (p : PV) : Prop :=
  (¬ (∀ x ∈ l, x.ok) ∧ p = .tup [.agg [.nilS, .nilS], .bool false]) ∨
  ((∀ x ∈ l, x.ok) ∧ ∃ vs : List Int, vs.length = l.length ∧ (∀ x y, x < l.length → y < l.length → at' vs y ≤ at' vs x + gN l x y) ∧ (∀ x, x < l.length → -648000000000 ≤ at' vs x ∧ at' vs x ≤ 0) ∧
    p = .tup [.agg [.nilS, .sl 1 (irows (vs.map (· + raiseOf l vs)))], .bool true]) ∨
  ((∀ x ∈ l, x.ok) ∧ ∃ (vs fs : List Int) (c t : Nat → Nat) (z j k : Nat), Go.Bf.Fin l.length (gN l) (at' vs) (at' fs) c t z ∧ j < k ∧ k ≤ l.length ∧ chain (at' fs) z k = chain (at' fs) z j ∧
    p = .tup [.agg [.sl 1 (irows (ckeys (at' fs) z j (k - j)).reverse), .nilS], .bool false])
include hσ hP hl hn in
theorem check_sem : ∃ p, ChkRes l p ∧ evalF Tab n n_revealed_Check [P] σ = some (p, σ) := by
  obtain ⟨n, rfl⟩ : ∃ k, n = k + 1 := ⟨n - 1, by omega⟩
  obtain ⟨p1, p2, p3⟩ := rows_len hP
  rw [List.length_map] at p1
  have c1 := all_sem σ l P hP n (by omega) (by omega)
  simp only [n_revealed_allValid] at c1
  simp only [evalF, tab_revealed_Check, Option.bind_some, Sys.run]
  show ∃ p, ChkRes l p ∧ ((bindPs [.sh (.one _)] _).bind _) = _
  simp -implicitDefEqProofs only [bindPs, bind1, bindK, Option.map_some, Option.bind_some, List.append_nil, List.nil_append, List.cons_append, if_true, p3]
  show ∃ p, ChkRes l p ∧ (PT.ev _ revealed_Check_s _).bind _ = _
  simp -implicitDefEqProofs only [revealed_Check_s, ↓reduceIte, evb_ret, evb_ite, evb_need, evb_load, evb_app, evb_cut, evb_call, evb_callv, evb_newM, evb_mkM, evb_storeM, evb_appM, evb_mkMap, evb_mapGet, evb_mapSet, evb_mapClr, evb_jump, BE.safe, BE.pe, IE.pe, PEnv.at, List.getD_cons_zero, List.getD_cons_succ, List.getElem?_cons_zero, List.getElem?_cons_succ, locOf, locOn, readLoc, takeN, Nat.add_zero, List.drop_zero, List.length_cons, List.length_nil, Nat.reduceAdd, Nat.le_refl, if_true, if_false, Bool.false_eq_true, List.take_succ_cons, List.take_zero, bindK, bindRes, bind1, Option.map_some, Option.bind_some, PEnv.push, List.cons_append, List.nil_append, List.append_nil, SV.pvs, SV.pv, BE.all, Bool.and_self, Bool.not_true, Bool.not_false, List.map_cons, List.map_nil, c1]
  by_cases ha : (l.all fun x => decide x.ok) = true
  case neg =>
    have hno : ¬ ∀ x ∈ l, x.ok := fun h => ha (List.all_eq_true.2 fun x hx => decide_eq_true (h x hx))
    rw [Bool.not_eq_true] at ha
    rw [ha]
    refine ⟨_, .inl ⟨hno, rfl⟩, ?_⟩
    simp -implicitDefEqProofs only [↓reduceIte, evb_ret, evb_ite, evb_need, evb_load, evb_app, evb_cut, evb_call, evb_callv, evb_newM, evb_mkM, evb_storeM, evb_appM, evb_mkMap, evb_mapGet, evb_mapSet, evb_mapClr, evb_jump, BE.safe, BE.pe, IE.pe, PEnv.at, List.getD_cons_zero, List.getD_cons_succ, List.getElem?_cons_zero, List.getElem?_cons_succ, locOf, locOn, readLoc, takeN, Nat.add_zero, List.drop_zero, List.length_cons, List.length_nil, Nat.reduceAdd, Nat.le_refl, if_true, if_false, Bool.false_eq_true, List.take_succ_cons, List.take_zero, bindK, bindRes, bind1, Option.map_some, Option.bind_some, PEnv.push, List.cons_append, List.nil_append, List.append_nil, SV.pvs, SV.pv, BE.all, Bool.and_self, Bool.not_true, Bool.not_false, List.map_cons, List.map_nil, retP, or_true]
  have hok : ∀ x ∈ l, x.ok := fun x hx => by simpa using (List.all_eq_true.1 ha) x hx
  rw [ha]
  obtain ⟨m, rfl⟩ : ∃ k, n = k + 1 := ⟨n - 1, by omega⟩
  have hNN : l.length * (l.length * (l.length + 2) + 2) ≤ 28860 := by
    calc l.length * (l.length * (l.length + 2) + 2) ≤ 30 * (30 * (30 + 2) + 2) := Nat.mul_le_mul hl (Nat.add_le_add_right (Nat.mul_le_mul hl (by omega)) 2)
      _ = 28860 := rfl
  obtain ⟨res, hres, hev⟩ := lowered_sem σ hσ l P hP hok hl m (by omega) (by omega)
  simp only [n_revealed_lowered] at hev
  rcases hres with ⟨vs, fs, hvs, hfs, hst, hlow, rfl⟩ | ⟨vs, fs, c, t, z, j, k, hvs, hfs, hfin, hjk, hk, he, rfl⟩
  · refine ⟨_, .inr (.inl ⟨hok, vs, hvs, hst, hlow, rfl⟩), ?_⟩
    have ho : ∀ h o len cap sz, (PV.msl h o len cap sz).one = true := fun _ _ _ _ _ => rfl
    have hon : PV.nilS.one = true := rfl
    have hk0 : PV.isKind 0 .nilS = true := rfl
    have hno : PV.nilS.nilOk = true := rfl
    have hni : PV.nilS.isNil = true := rfl
    simp -implicitDefEqProofs only [↓reduceIte, evb_ret, evb_ite, evb_need, evb_load, evb_app, evb_cut, evb_call, evb_callv, evb_newM, evb_mkM, evb_storeM, evb_appM, evb_mkMap, evb_mapGet, evb_mapSet, evb_mapClr, evb_jump, BE.safe, BE.pe, IE.pe, PEnv.at, List.getD_cons_zero, List.getD_cons_succ, List.getElem?_cons_zero, List.getElem?_cons_succ, locOf, locOn, readLoc, takeN, Nat.add_zero, List.drop_zero, List.length_cons, List.length_nil, Nat.reduceAdd, Nat.le_refl, if_true, if_false, Bool.false_eq_true, List.take_succ_cons, List.take_zero, bindK, bindRes, bind1, Option.map_some, Option.bind_some, PEnv.push, List.cons_append, List.nil_append, List.append_nil, SV.pvs, SV.pv, BE.all, Bool.and_self, Bool.not_true, Bool.not_false, List.map_cons, List.map_nil, hev, bindShs, ho, hon, hk0, hno, hni, p1, p2]
    have b0 := rs0_bd hok hlow l.length (Nat.le_refl _)
    have b1 := rs1_bd hlow b0 l.length (Nat.le_refl _)
    have run0 : ∀ d i, i + d = l.length → ∀ fuel, revealed_Check_S.loop (evalF Tab (m + 1)) (fuel + d) 0 (cst σ P l.length vs fs [rs0 l vs i, (l.length : Int), (i : Int)]) = revealed_Check_S.loop (evalF Tab (m + 1)) fuel 0 (cst σ P l.length vs fs [rs0 l vs l.length, (l.length : Int), (l.length : Int)]) := by
      intro d
      induction d with
      | zero => intro i hi fuel; rw [Nat.add_zero] at hi; subst hi; rfl
      | succ d ih => intro i hi fuel; rw [show fuel + (d + 1) = (fuel + d) + 1 from rfl, chk0 σ l P hP hok hl (m + 1) (by omega) vs fs hvs hlow i _ (by omega)]; exact ih (i + 1) (by omega) fuel
    have run1 : ∀ d i, i + d = l.length → ∀ fuel, revealed_Check_S.loop (evalF Tab (m + 1)) (fuel + d) 1 (cst1 σ P l.length vs fs [rs1 l vs (rs0 l vs l.length) i, (l.length : Int), (i : Int)]) = revealed_Check_S.loop (evalF Tab (m + 1)) fuel 1 (cst1 σ P l.length vs fs [raiseOf l vs, (l.length : Int), (l.length : Int)]) := by
      intro d
      induction d with
      | zero => intro i hi fuel; rw [Nat.add_zero] at hi; subst hi; rfl
      | succ d ih => intro i hi fuel; rw [show fuel + (d + 1) = (fuel + d) + 1 from rfl, chk1 σ l P hP hl (m + 1) vs fs hvs hlow _ i _ (by omega)]; exact ih (i + 1) (by omega) fuel
    have hd : decide (l.length < l.length) = false := by simp
    have x0 : ∀ fuel, revealed_Check_S.loop (evalF Tab (m + 1)) (fuel + 1) 0 (cst σ P l.length vs fs [rs0 l vs l.length, (l.length : Int), (l.length : Int)]) = revealed_Check_S.loop (evalF Tab (m + 1)) fuel 1 (cst1 σ P l.length vs fs [rs0 l vs l.length, (l.length : Int), 0]) := by
      intro fuel
      rw [Sys.loop, show revealed_Check_S.loops[0]? = some revealed_Check_t0 from rfl]
      simp -implicitDefEqProofs only [Option.bind_some, revealed_Check_t0, ↓reduceIte, evb_ret, evb_ite, evb_need, evb_load, evb_app, evb_cut, evb_call, evb_callv, evb_newM, evb_mkM, evb_storeM, evb_appM, evb_mkMap, evb_mapGet, evb_mapSet, evb_mapClr, evb_jump, BE.safe, BE.pe, IE.pe, PEnv.at, List.getD_cons_zero, List.getD_cons_succ, List.getElem?_cons_zero, List.getElem?_cons_succ, locOf, locOn, readLoc, takeN, Nat.add_zero, List.drop_zero, List.length_cons, List.length_nil, Nat.reduceAdd, Nat.le_refl, if_true, if_false, Bool.false_eq_true, List.take_succ_cons, List.take_zero, bindK, bindRes, bind1, Option.map_some, Option.bind_some, PEnv.push, List.cons_append, List.nil_append, List.append_nil, SV.pvs, SV.pv, BE.all, Bool.and_self, Bool.not_true, Bool.not_false, List.map_cons, List.map_nil, cst, cst1, ltB_nat, hd, p1, p2]
    have x1 : ∀ fuel, revealed_Check_S.loop (evalF Tab (m + 1)) (fuel + 1) 1 (cst1 σ P l.length vs fs [raiseOf l vs, (l.length : Int), (l.length : Int)]) = revealed_Check_S.loop (evalF Tab (m + 1)) fuel 2 (cst2 σ l.length vs fs [raiseOf l vs, (l.length : Int), 0]) := by
      intro fuel
      rw [Sys.loop, show revealed_Check_S.loops[1]? = some revealed_Check_t1 from rfl]
      simp -implicitDefEqProofs only [Option.bind_some, revealed_Check_t1, ↓reduceIte, evb_ret, evb_ite, evb_need, evb_load, evb_app, evb_cut, evb_call, evb_callv, evb_newM, evb_mkM, evb_storeM, evb_appM, evb_mkMap, evb_mapGet, evb_mapSet, evb_mapClr, evb_jump, BE.safe, BE.pe, IE.pe, PEnv.at, List.getD_cons_zero, List.getD_cons_succ, List.getElem?_cons_zero, List.getElem?_cons_succ, locOf, locOn, readLoc, takeN, Nat.add_zero, List.drop_zero, List.length_cons, List.length_nil, Nat.reduceAdd, Nat.le_refl, if_true, if_false, Bool.false_eq_true, List.take_succ_cons, List.take_zero, bindK, bindRes, bind1, Option.map_some, Option.bind_some, PEnv.push, List.cons_append, List.nil_append, List.append_nil, SV.pvs, SV.pv, BE.all, Bool.and_self, Bool.not_true, Bool.not_false, List.map_cons, List.map_nil, cst1, cst2, ltB_nat, hd, isM, lenM]
    have run2 := chk2s σ l.length hl (m + 1) (raiseOf l vs) vs fs hvs b1 hlow l.length 0 (by omega)
    have hcur0 : curR vs (raiseOf l vs) 0 = vs := by simp [curR]
    have hcurN : curR vs (raiseOf l vs) l.length = vs.map (· + raiseOf l vs) := by rw [← hvs]; simp [curR]
    have fin := chkEnd σ hσ l.length (m + 1) (raiseOf l vs) fs (vs.map (· + raiseOf l vs)) (by simp [hvs])
    rw [hcur0, hcurN] at run2
    have e0 := run0 l.length 0 (by omega)
    have e1 := run1 l.length 0 (by omega)
    have tot := fin (m + 1 - 3 * l.length - 3)
    rw [← run2, show ((0 : Nat) : Int) = 0 from rfl, ← x1, ← e1] at tot
    have hs1 : rs1 l vs (rs0 l vs l.length) 0 = rs0 l vs l.length := rfl
    rw [hs1, show ((0 : Nat) : Int) = 0 from rfl, ← x0, ← e0] at tot
    rw [show m + 1 - 3 * l.length - 3 + 1 + l.length + 1 + l.length + 1 + l.length = m + 1 by omega] at tot
    exact tot
  · refine ⟨_, .inr (.inr ⟨hok, vs, fs, c, t, z, j, k, hfin, hjk, hk, he, rfl⟩), ?_⟩
    have hne : irows (ckeys (at' fs) z j (k - j)).reverse ≠ [] := by
      intro h
      have := congrArg List.length h
      simp [irows, ckeys_len] at this
      omega
    have hlw : PV.lowss σ.length (irows (ckeys (at' fs) z j (k - j)).reverse) = true := lowss_irows _ _
    generalize irows (ckeys (at' fs) z j (k - j)).reverse = rows at *
    have ho : (PV.sl 1 rows).one = true := rfl
    have hon : PV.nilS.one = true := rfl
    have hk0 : PV.isKind 0 (.sl 1 rows) = true := rfl
    have hno : (PV.sl 1 rows).nilOk = true := by cases rows with | nil => exact absurd rfl hne | cons a r => rfl
    have hni : (PV.sl 1 rows).isNil = false := rfl
    simp -implicitDefEqProofs only [↓reduceIte, evb_ret, evb_ite, evb_need, evb_load, evb_app, evb_cut, evb_call, evb_callv, evb_newM, evb_mkM, evb_storeM, evb_appM, evb_mkMap, evb_mapGet, evb_mapSet, evb_mapClr, evb_jump, BE.safe, BE.pe, IE.pe, PEnv.at, List.getD_cons_zero, List.getD_cons_succ, List.getElem?_cons_zero, List.getElem?_cons_succ, locOf, locOn, readLoc, takeN, Nat.add_zero, List.drop_zero, List.length_cons, List.length_nil, Nat.reduceAdd, Nat.le_refl, if_true, if_false, Bool.false_eq_true, List.take_succ_cons, List.take_zero, bindK, bindRes, bind1, Option.map_some, Option.bind_some, PEnv.push, List.cons_append, List.nil_append, List.append_nil, SV.pvs, SV.pv, BE.all, Bool.and_self, Bool.not_true, Bool.not_false, List.map_cons, List.map_nil, hev, bindShs, ho, hon, hk0, hno, hni, p1, p2]
    have hm3 : (σ ++ [.cells (icell vs) 2, .cells (icell fs) 3] : List MO).length = σ.length + 2 := by simp
    have h1 : ¬ (false = true ∨ σ.length + 2 = σ.length) := by simp
    simp -implicitDefEqProofs only [retP, hm3, if_neg h1, List.take_left', hσ σ.length, PV.frz, PV.frzs, hlw, ↓reduceIte, evb_ret, evb_ite, evb_need, evb_load, evb_app, evb_cut, evb_call, evb_callv, evb_newM, evb_mkM, evb_storeM, evb_appM, evb_mkMap, evb_mapGet, evb_mapSet, evb_mapClr, evb_jump, BE.safe, BE.pe, IE.pe, PEnv.at, List.getD_cons_zero, List.getD_cons_succ, List.getElem?_cons_zero, List.getElem?_cons_succ, locOf, locOn, readLoc, takeN, Nat.add_zero, List.drop_zero, List.length_cons, List.length_nil, Nat.reduceAdd, Nat.le_refl, if_true, if_false, Bool.false_eq_true, List.take_succ_cons, List.take_zero, bindK, bindRes, bind1, Option.map_some, Option.bind_some, PEnv.push, List.cons_append, List.nil_append, List.append_nil, SV.pvs, SV.pv, BE.all, Bool.and_self, Bool.not_true, Bool.not_false, List.map_cons, List.map_nil]
    simp [hσ σ.length]
end
end Go.Proofs.Ythjahianafohjaa
