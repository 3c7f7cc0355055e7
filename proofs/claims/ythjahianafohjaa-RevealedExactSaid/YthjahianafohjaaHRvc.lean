/- What Check returns is accepted. -/
import Derived.Test.YthjahianafohjaaHRvb
import Derived.Test.YthjahianafohjaaHGx
set_option linter.unusedSimpArgs false
set_option linter.unusedVariables false
open Go.Sx.PT renaming ev → J1
open Go.Sx.BE renaming safe → J2, pe → J3, all → Jz
open Go.Sx.IE renaming pe → J4
open Go.Sx renaming PEnv.at → J5
open Go.Sx.PEnv renaming push → Jt
open List renaming getD_cons_zero → J6, getD_cons_succ → J7, getElem?_cons_zero → J8, getElem?_cons_succ → J9, drop_zero → Jf, length_cons → Jg, length_nil → Jh, take_succ_cons → Jm, take_zero → Jn, cons_append → Ju, nil_append → Jv, append_nil → Jw, map_cons → JD, map_nil → JE
open Go.Sx renaming locOf → Ja, locOn → Jb, readLoc → Jc, takeN → Jd, bindK → Jo, bindRes → Jp, bind1 → Jq, evb_ret → JF, evb_ite → JG, evb_need → JH, evb_load → JI, evb_app → JJ, evb_cut → JK, evb_scut → JL, evb_chk → JM, evb_appF → JN, evb_call → JO, evb_callv → JP, evb_newM → JQ, evb_mkM → JR, evb_storeM → JS, evb_appM → JT, evb_mkMap → JU, evb_mapGet → JV, evb_mapSet → JW, evb_mapClr → JX, evb_jump → JY
open Nat renaming add_zero → Je, le_refl → Ji
open Bool renaming false_eq_true → Jl, and_self → JA, not_true → JB, not_false → JC
open Option renaming map_some → Jr, bind_some → Js
open Go.Sx.SV renaming pvs → Jx, pv → Jy
set_option maxRecDepth 100000
namespace Go.Proofs.Ythjahianafohjaa
open Go.Sx Go.Bf
theorem cyc_get {f : Nat → Int} {z j m i : Nat} (hi : i < m) : (ckeys f z j m).reverse[i]? = some (chain f z (j + (m - 1 - i)) : Int) := by
  rw [List.getElem?_reverse (by rw [ckeys_len]; exact hi), ckeys_len, ckeys_get (by omega)]
theorem gN_chain (l : List Ch) (x y : Nat) : gainC (chAt l (x : Int)) (chAt l (y : Int)) = gN l x y := rfl
/-- The cycle that is found refutes. -/
theorem cyc_neg {l : List Ch} {v f : Nat → Int} {c t : Nat → Nat} {z j k : Nat} (h : Go.Bf.Fin l.length (gN l) v f c t z) (hjk : j < k) (hk : k ≤ l.length) (he : chain f z k = chain f z j) :
    cycSum l (ckeys f z j (k - j)).reverse (ckeys f z j (k - j)).reverse.length < 0 := by
  obtain ⟨i0, a1, a2, a3⟩ := h.strict hjk hk he
  have len : (ckeys f z j (k - j)).reverse.length = k - j := by simp [ckeys_len]
  rw [len]
  have step : ∀ i, i + 1 < k - j → cycG l (ckeys f z j (k - j)).reverse i = gN l (chain f z (k - 2 - i + 1)) (chain f z (k - 2 - i)) := by
    intro i hi
    unfold cycG
    rw [len, Nat.mod_eq_of_lt hi, cyc_get (by omega), cyc_get hi]
    simp only [Option.getD_some]
    rw [gN_chain, show j + (k - j - 1 - i) = k - 2 - i + 1 by omega, show j + (k - j - 1 - (i + 1)) = k - 2 - i by omega]
  have last : cycG l (ckeys f z j (k - j)).reverse (k - j - 1) = gN l (chain f z (k - 1 + 1)) (chain f z (k - 1)) := by
    unfold cycG
    rw [len, show k - j - 1 + 1 = k - j by omega, Nat.mod_self, cyc_get (by omega), cyc_get (by omega)]
    simp only [Option.getD_some]
    rw [gN_chain, show j + (k - j - 1 - (k - j - 1)) = j by omega, show j + (k - j - 1 - 0) = k - 1 by omega, show k - 1 + 1 = k by omega, he]
  have key : ∀ i, i + 1 ≤ k - j → cycSum l (ckeys f z j (k - j)).reverse i + (if k - 1 - i ≤ i0 ∧ i0 < k - 1 then 1 else 0) ≤ v (chain f z (k - 1 - i)) - v (chain f z (k - 1)) := by
    intro i
    induction i with
    | zero =>
      intro _
      rw [if_neg (by omega)]
      simp [cycSum]
    | succ i ih =>
      intro hi
      have ih := ih (by omega)
      have l0 := h.link (i := k - 2 - i) (by omega)
      rw [cycSum, step i (by omega)]
      rw [show k - 1 - (i + 1) = k - 2 - i by omega]
      have e1 : k - 1 - i = k - 2 - i + 1 := by omega
      rw [e1] at ih
      by_cases hs : i0 = k - 2 - i
      · rw [if_neg (by omega)] at ih
        rw [if_pos (by omega)]
        rw [hs] at a3
        omega
      · by_cases hc : k - 2 - i + 1 ≤ i0 ∧ i0 < k - 1
        · rw [if_pos hc] at ih
          rw [if_pos (by omega)]
          have := l0.2.2.1
          omega
        · rw [if_neg hc] at ih
          rw [if_neg (by omega)]
          have := l0.2.2.1
          omega
  have k1 := key (k - j - 1) (by omega)
  obtain ⟨q, hq⟩ : ∃ q, k - j = q + 1 := ⟨k - j - 1, by omega⟩
  have k2 : cycSum l (ckeys f z j (k - j)).reverse (k - j) = cycSum l (ckeys f z j (k - j)).reverse (k - j - 1) + cycG l (ckeys f z j (k - j)).reverse (k - j - 1) := by
    conv => lhs; arg 3; rw [hq]
    rw [cycSum, show k - j - 1 = q by omega]
  rw [k2, last]
  have l1 := h.link (i := k - 1) (by omega)
  have e2 : k - 1 + 1 = k := by omega
  rw [show k - 1 - (k - j - 1) = j by omega] at k1
  have hve : v (chain f z k) = v (chain f z j) := by rw [he]
  rw [e2] at l1 ⊢
  by_cases hs : i0 = k - 1
  · rw [if_neg (by omega)] at k1
    rw [hs, e2] at a3
    omega
  · rw [if_pos (by omega)] at k1
    have := l1.2.2.1
    omega
theorem verd_of_cycle {l : List Ch} (hok : ∀ x ∈ l, x.ok) (hl : l.length ≤ 30) {v f : Nat → Int} {c t : Nat → Nat} {z j k : Nat} (h : Go.Bf.Fin l.length (gN l) v f c t z) (hjk : j < k) (hk : k ≤ l.length) (he : chain f z k = chain f z j) :
    verd l (ckeys f z j (k - j)).reverse [] = 0 := by
  have hall : (l.all fun x => decide x.ok) = true := List.all_eq_true.2 fun x hx => decide_eq_true (hok x hx)
  have len : (ckeys f z j (k - j)).reverse.length = k - j := by simp [ckeys_len]
  have hform : formV l.length (ckeys f z j (k - j)).reverse [] = true := by
    unfold formV
    rw [len]
    have h1 : (ckeys f z j (k - j)).reverse.all (cycOk l.length) = true := by
      rw [List.all_eq_true]
      intro x hx
      rw [List.mem_reverse, mem_ckeys] at hx
      obtain ⟨i, hi, rfl⟩ := hx
      have := (h.at_lt (j + i) (by omega)).1
      simp only [cycOk, decide_eq_true_eq]; omega
    rw [h1]
    simp; omega
  unfold verd
  rw [if_pos hall, if_pos hform, if_neg (by rw [len]; omega), if_neg (by have := cyc_neg h hjk hk he; omega)]
theorem rs0_ge (l : List Ch) (vs : List Int) : ∀ (N x : Nat), x < N → costW (chAt l (x : Int)).p (chAt l (x : Int)).w - at' vs x ≤ rs0 l vs N
  | 0, x, h => by omega
  | N + 1, x, h => by
    rw [rs0]
    by_cases e : x = N
    · subst e; unfold mxI; split <;> omega
    · have := rs0_ge l vs N x (by omega)
      unfold mxI; split <;> omega
theorem rs1_zero (l : List Ch) (vs : List Int) (r0 : Int) : ∀ N : Nat, (∃ x : Nat, x < N ∧ (chAt l (x : Int)).w.isZ = true ∧ rs1 l vs r0 N = 0 - at' vs x) ∨ ((∀ x : Nat, x < N → (chAt l (x : Int)).w.isZ = false) ∧ rs1 l vs r0 N = r0)
  | 0 => .inr ⟨fun x h => by omega, rfl⟩
  | N + 1 => by
    by_cases hz : (chAt l (N : Int)).w.isZ = true
    · exact .inl ⟨N, by omega, hz, by rw [rs1, if_pos hz]⟩
    · rcases rs1_zero l vs r0 N with ⟨x, h1, h2, h3⟩ | ⟨h1, h2⟩
      · exact .inl ⟨x, by omega, h2, by rw [rs1, if_neg hz]; exact h3⟩
      · refine .inr ⟨fun x hx => ?_, by rw [rs1, if_neg hz]; exact h2⟩
        by_cases e : x = N
        · subst e; exact Bool.not_eq_true _ ▸ hz
        · exact h1 x (by omega)
theorem ownOk_iff (p : CV) : ownOk p = true ↔ costW p.1.p p.1.w ≤ p.2 ∧ (p.1.w.isZ = true → p.2 = 0) := by
  unfold ownOk
  rw [Bool.and_eq_true, decide_eq_true_iff, Bool.or_eq_true, eqB_true]
  cases p.1.w.isZ <;> simp
theorem cost_isZ {w : W6} (h : w.isZ = true) (p : W6) : costW p w = 0 := by
  obtain ⟨a, b, c, d, e, f⟩ := w
  simp only [W6.isZ, Bool.and_eq_true, eqB_true] at h
  obtain ⟨rfl, rfl, rfl, rfl, rfl, rfl⟩ := h
  simp [costW]
theorem verd_of_vals {l : List Ch} (hok : ∀ x ∈ l, x.ok) {vs : List Int} (hvs : vs.length = l.length) (hst : ∀ x y, x < l.length → y < l.length → at' vs y ≤ at' vs x + gN l x y) (hb : ∀ x, x < l.length → -648000000000 ≤ at' vs x ∧ at' vs x ≤ 0) :
    verd l [] (vs.map (· + raiseOf l vs)) = 0 := by
  have hall : (l.all fun x => decide x.ok) = true := List.all_eq_true.2 fun x hx => decide_eq_true (hok x hx)
  have b0 := rs0_bd hok hb l.length (Nat.le_refl _)
  have b1 := rs1_bd hb b0 l.length (Nat.le_refl _)
  have hr : 0 ≤ raiseOf l vs ∧ raiseOf l vs ≤ 648024000000 := b1
  have hz := rs1_zero l vs (rs0 l vs l.length) l.length
  have hge := rs0_ge l vs l.length
  rw [show rs1 l vs (rs0 l vs l.length) l.length = raiseOf l vs from rfl] at hz
  generalize raiseOf l vs = r at *
  have gch : ∀ x y : Nat, gN l x y = costW (chAt l (x : Int)).p (chAt l (y : Int)).w - costW (chAt l (x : Int)).p (chAt l (x : Int)).w := fun _ _ => rfl
  have own : ∀ x : Nat, x < l.length → costW (chAt l (x : Int)).p (chAt l (x : Int)).w ≤ at' vs x + r ∧ ((chAt l (x : Int)).w.isZ = true → at' vs x + r = 0) := by
    intro x hx
    rcases hz with ⟨y, h1, h2, h3⟩ | ⟨h1, h2⟩
    · have g1 := hst x y hx h1
      rw [gch, cost_isZ h2] at g1
      refine ⟨by omega, fun hxz => ?_⟩
      have g2 := hst y x h1 hx
      rw [gch, cost_isZ h2, cost_isZ hxz] at g2
      rw [cost_isZ hxz] at g1
      omega
    · have := hge x hx
      refine ⟨by omega, fun hxz => ?_⟩
      rw [h1 x hx] at hxz; cases hxz
  have at_map : ∀ x : Nat, x < l.length → at' (vs.map (· + r)) x = at' vs x + r := fun x hx => by
    have := at'_get (l := vs) (i := x) (by omega)
    show ((vs.map (· + r))[x]?).getD 0 = _
    rw [List.getElem?_map, this]; rfl
  have hform : formV l.length [] (vs.map (· + r)) = true := by
    unfold formV
    have h1 : (vs.map (· + r)).all valOk = true := by
      rw [List.all_eq_true]
      intro z hz
      obtain ⟨y, hy, rfl⟩ := List.mem_map.1 hz
      obtain ⟨x, hx⟩ := List.mem_iff_getElem?.1 hy
      have hxl := (List.getElem?_eq_some_iff.1 hx).1
      have := hb x (by omega)
      have e : at' vs x = y := by simp [at', hx]
      rw [e] at this
      simp only [valOk, decide_eq_true_eq]; omega
    rw [h1]; rfl
  have hex : explP (l.zip (vs.map (· + r))) = true := by
    have at_zip : ∀ p ∈ l.zip (vs.map (· + r)), ∃ x : Nat, x < l.length ∧ p = (chAt l (x : Int), at' vs x + r) := by
      intro p hp
      obtain ⟨x, hx⟩ := List.mem_iff_getElem?.1 hp
      have hxl := (List.getElem?_eq_some_iff.1 hx).1
      rw [List.length_zip] at hxl
      have := zip_at (chN (x := x) (l := l) (by omega)) (at'_get (l := vs.map (· + r)) (i := x) (by omega))
      rw [hx] at this
      refine ⟨x, by omega, ?_⟩
      rw [Option.some.inj this, at_map x (by omega)]
    unfold explP
    rw [List.all_eq_true]
    intro p hp
    obtain ⟨x, hx, rfl⟩ := at_zip p hp
    rw [Bool.and_eq_true]
    constructor
    · obtain ⟨o1, o2⟩ := own x hx
      rw [ownOk_iff]
      exact ⟨o1, o2⟩
    · rw [List.all_eq_true]
      intro q hq
      obtain ⟨y, hy, rfl⟩ := at_zip q hq
      rw [innP_iff]
      have := hst x y hx hy
      rw [gch] at this
      simp only
      omega
  unfold verd
  rw [if_pos hall, if_pos hform, if_pos List.length_nil, hex, Bool.and_true, if_pos (by simp [hvs])]
end Go.Proofs.Ythjahianafohjaa
set_option maxRecDepth 100000
namespace Go.Proofs.Ythjahianafohjaa
open Go.Sx Go.Fw
/-- A square of numbers. -/
def MatOf (d : List (List Int)) (N : Nat) (F : Nat → Nat → Int) : Prop := d.length = N ∧ ∀ i, i < N → ∃ r, d[i]? = some r ∧ r.length = N ∧ ∀ j, j < N → at' r j = F i j
def cells (r : List Int) : MO := .cells (icell r) 2
def upd2 (F : Nat → Nat → Int) (i j : Nat) (z : Int) : Nat → Nat → Int := fun a b => if a = i ∧ b = j then z else F a b
theorem MatOf.set {d : List (List Int)} {N : Nat} {F : Nat → Nat → Int} (h : MatOf d N F) {i j : Nat} (hi : i < N) (hj : j < N) {r : List Int} (hr : d[i]? = some r) (z : Int) : MatOf (d.set i (r.set j z)) N (upd2 F i j z) := by
  refine ⟨by simpa using h.1, fun a ha => ?_⟩
  obtain ⟨q, h1, h2, h3⟩ := h.2 a ha
  by_cases e : a = i
  · subst e
    rw [hr] at h1; cases h1
    refine ⟨r.set j z, by simp [h.1, ha], by simpa using h2, fun b hb => ?_⟩
    rw [at'_set _ (by omega)]
    unfold upd2
    by_cases eb : b = j
    · rw [if_pos eb, if_pos ⟨rfl, eb⟩]
    · rw [if_neg eb, if_neg (fun h => eb h.2)]; exact h3 b hb
  · refine ⟨q, by rw [List.getElem?_set_ne (fun h => e h.symm)]; exact h1, h2, fun b hb => ?_⟩
    unfold upd2
    rw [if_neg (fun h => e h.1)]; exact h3 b hb
theorem MatOf.congr {d : List (List Int)} {N : Nat} {F G : Nat → Nat → Int} (h : MatOf d N F) (e : ∀ i j, i < N → j < N → F i j = G i j) : MatOf d N G :=
  ⟨h.1, fun i hi => by obtain ⟨r, h1, h2, h3⟩ := h.2 i hi; exact ⟨r, h1, h2, fun j hj => (h3 j hj).trans (e i j hi hj)⟩⟩
theorem MatOf.snoc {d : List (List Int)} {N i : Nat} {F : Nat → Nat → Int} (hd : d.length = i) (h : ∀ a, a < i → ∃ r, d[a]? = some r ∧ r.length = N ∧ ∀ j, j < N → at' r j = F a j) {r : List Int} (hl : r.length = N) (hr : ∀ j, j < N → at' r j = F i j) :
    ∀ a, a < i + 1 → ∃ q, (d ++ [r])[a]? = some q ∧ q.length = N ∧ ∀ j, j < N → at' q j = F a j := by
  intro a ha
  by_cases e : a = i
  · subst e
    exact ⟨r, by rw [← hd]; simp, hl, hr⟩
  · obtain ⟨q, h1, h2⟩ := h a (by omega)
    exact ⟨q, by rw [List.getElem?_append_left (by omega)]; exact h1, h2⟩
theorem mem_get (σ : List MO) (d : List (List Int)) {i : Nat} {r : List Int} (h : d[i]? = some r) : (σ ++ d.map cells)[σ.length + i]? = some (cells r) := by
  rw [List.getElem?_append_right (by omega)]
  simp [h]
theorem mem_set (σ : List MO) (d : List (List Int)) (i : Nat) (r : List Int) : (σ ++ d.map cells).set (σ.length + i) (cells r) = σ ++ (d.set i r).map cells := by
  rw [List.set_append_right _ _ (by omega)]
  simp [List.map_set]
/-- The outer slice of the first i rows. -/
def drows (b N i : Nat) : List (List PV) := (List.range i).map fun k => [.msl (b + k) 0 N N 1]
def dsl (b N : Nat) : Nat → PV
  | 0 => .nilS
  | i + 1 => .sl 1 (drows b N (i + 1))
theorem dsl_rows (b N i : Nat) : (dsl b N i).rowsOf 1 = some (drows b N i) := by cases i <;> simp [dsl, drows, PV.rowsOf]
theorem drows_get {b N i k : Nat} (h : k < i) : (drows b N i)[k]? = some [.msl (b + k) 0 N N 1] := by simp [drows, h]
theorem drows_len (b N i : Nat) : (drows b N i).length = i := by simp [drows]
theorem drows_succ (b N i : Nat) : PV.sl 1 (drows b N i ++ [[.msl (b + i) 0 N N 1]]) = dsl b N (i + 1) := by simp [dsl, drows, List.range_succ]
theorem one_msl (h o len cap sz : Nat) : (PV.msl h o len cap sz).one = true := rfl
section
variable (σ : List MO) (l : List Ch) (P : PV) (hP : P.rowsOf 12 = some (l.map Ch.row)) (hok : ∀ x ∈ l, x.ok) (hl : l.length ≤ 14) (n : Nat) (hn : 4 ≤ n)
include hP hok hl hn in
/-- A row of gains. -/
theorem sh1 (d : List (List Int)) (hd : d.length < l.length) : ∀ e j, j + e = l.length → ∀ (r : List Int), r.length = l.length → (∀ b, b < j → at' r b = gN l d.length b) →
    ∃ r', r'.length = l.length ∧ (∀ b, b < l.length → at' r' b = gN l d.length b) ∧ ∀ fuel, saleroomref36_Shortest_S.loop (evalF Tab n) (fuel + e + 1) 1 { i := [(l.length : Int), (d.length : Int), (j : Int)], b := [], v := [P, dsl σ.length l.length d.length, .msl (σ.length + d.length) 0 l.length l.length 1], m := σ ++ (d ++ [r]).map cells, k := σ.length } =
      saleroomref36_Shortest_S.loop (evalF Tab n) fuel 0 { i := [(l.length : Int), ((d.length + 1 : Nat) : Int)], b := [], v := [P, dsl σ.length l.length (d.length + 1)], m := σ ++ (d ++ [r']).map cells, k := σ.length } := by
  obtain ⟨p1, p2, p3⟩ := rows_len hP
  rw [List.length_map] at p1
  intro e
  induction e with
  | zero =>
    intro j hj r hr hg
    rw [Nat.add_zero] at hj; subst hj
    refine ⟨r, hr, hg, fun fuel => ?_⟩
    have hd' : decide (l.length < l.length) = false := by simp
    have hup := up_ok (show d.length ≤ 1000000000 by omega)
    have rl : (drows σ.length l.length d.length).length + 1 ≤ 1000000 := by rw [drows_len]; omega
    have ds := drows_succ σ.length l.length d.length
    rw [nat_succ, Sys.loop, show saleroomref36_Shortest_S.loops[1]? = some saleroomref36_Shortest_t1 from rfl, Option.bind_some]
    simp -implicitDefEqProofs only [saleroomref36_Shortest_t1, ↓reduceIte,eq_self,JF,JG,JH,JI,JJ,JK,JL,JM,JN,JO,JP,JQ,JR,JS,JT,JU,JV,JW,JX,JY,J2,J3,J4,J5,J6,J7,J8,J9,Ja,Jb,Jc,Jd,Je,Jf,Jg,Jh,Nat.reduceAdd,Ji,if_true,if_false,Jl,Jm,Jn,Jo,Jp,Jq,Jr,Js,Jt,Ju,Jv,Jw,Jx,Jy,Jz,JA,JB,JC,JD,JE, srcRows, List.mapM_cons, List.mapM_nil, List.reverse_cons, List.reverse_nil, Option.bind_eq_bind, Option.pure_def, ltB_nat, hd', dsl_rows, sl_rows, Nat.zero_add, if_pos one_le, if_pos rl, ds, if_pos hup]
  | succ e ih =>
    intro j hj r hr hg
    have hjl : j < l.length := by omega
    have hdj : decide (j < l.length) = true := decide_eq_true hjl
    have hdd : decide (d.length < l.length) = true := decide_eq_true hd
    have hup := up_ok (show j ≤ 1000000000 by omega)
    have hx := chN (l := l) hd
    have hy := chN (l := l) hjl
    have h0 := rows_get (off := 0) hP (rows_chs hx)
    have h1 := rows_get (off := 0) hP (rows_chs hy)
    have hge : (d ++ [r])[d.length]? = some r := by simp
    have mg := mem_get σ (d ++ [r]) hge
    have c1 := rgain_sem (σ ++ (d ++ [r]).map cells) (chAt l (d.length : Int)) (chAt l (j : Int)) n hn
    have hgv : gainV (chAt l (d.length : Int)) (chAt l (j : Int)) = gN l d.length j := if_pos ⟨hok _ (List.mem_of_getElem? hx), hok _ (List.mem_of_getElem? hy)⟩
    rw [hgv] at c1
    have ms := mem_set σ (d ++ [r]) d.length (r.set j (gN l d.length j))
    have e1 : (d ++ [r]).set d.length (r.set j (gN l d.length j)) = d ++ [r.set j (gN l d.length j)] := by simp
    rw [e1] at ms
    have mj := locEl_msl (h := σ.length + d.length) (o := 0) (cap := l.length) (sz := 1) (off := 0) hjl
    have sv := icell_set (l := r) (i := j) (gN l d.length j) (by omega)
    have lv : j + 1 ≤ (icell r).length := by rw [icell_len]; omega
    obtain ⟨r', q1, q2, q3⟩ := ih (j + 1) (by omega) (r.set j (gN l d.length j)) (by simpa using hr) (fun b hb => by
      rw [at'_set _ (by omega)]
      by_cases eb : b = j
      · rw [if_pos eb, eb]
      · rw [if_neg eb]; exact hg b (by omega))
    refine ⟨r', q1, q2, fun fuel => ?_⟩
    have q3 := q3 fuel
    rw [nat_succ j] at q3
    rw [← q3, show fuel + (e + 1) + 1 = (fuel + e + 1) + 1 from rfl]
    simp only [n_saleroomref36_Gain, row_eq] at c1
    simp only [cells] at mg ms
    rw [← ms]
    generalize gN l d.length j = z at *
    rw [Sys.loop, show saleroomref36_Shortest_S.loops[1]? = some saleroomref36_Shortest_t1 from rfl, Option.bind_some]
    generalize σ ++ (d ++ [r]).map cells = M at *
    simp -implicitDefEqProofs only [saleroomref36_Shortest_t1, ↓reduceIte,eq_self,JF,JG,JH,JI,JJ,JK,JL,JM,JN,JO,JP,JQ,JR,JS,JT,JU,JV,JW,JX,JY,J2,J3,J4,J5,J6,J7,J8,J9,Ja,Jb,Jc,Jd,Je,Jf,Jg,Jh,Nat.reduceAdd,Ji,if_true,if_false,Jl,Jm,Jn,Jo,Jp,Jq,Jr,Js,Jt,Ju,Jv,Jw,Jx,Jy,Jz,JA,JB,JC,JD,JE, p1, lenM, ltB_nat, hdj, hdd, le0, h0, h1, row_eq, c1, mj, mg, MO.list, Nat.mul_one, Nat.zero_add, lv, sv, if_pos hup]
include hP hok hl hn in
/-- All rows. -/
theorem sh0 : ∀ e i, i + e = l.length → ∀ (d : List (List Int)), d.length = i → (∀ a, a < i → ∃ r, d[a]? = some r ∧ r.length = l.length ∧ ∀ j, j < l.length → at' r j = gN l a j) →
    ∃ d', MatOf d' l.length (gN l) ∧ ∀ fuel, saleroomref36_Shortest_S.loop (evalF Tab n) (fuel + e * (l.length + 2) + 1) 0 { i := [(l.length : Int), (i : Int)], b := [], v := [P, dsl σ.length l.length i], m := σ ++ d.map cells, k := σ.length } =
      saleroomref36_Shortest_S.loop (evalF Tab n) fuel 2 { i := [(l.length : Int), 0], b := [], v := [dsl σ.length l.length l.length], m := σ ++ d'.map cells, k := σ.length } := by
  intro e
  induction e with
  | zero =>
    intro i hi d hd h
    rw [Nat.add_zero] at hi; subst hi
    refine ⟨d, ⟨hd, h⟩, fun fuel => ?_⟩
    have hd' : decide (l.length < l.length) = false := by simp
    rw [Nat.zero_mul, Nat.add_zero, Sys.loop, show saleroomref36_Shortest_S.loops[0]? = some saleroomref36_Shortest_t0 from rfl, Option.bind_some]
    simp -implicitDefEqProofs only [saleroomref36_Shortest_t0, ↓reduceIte,eq_self,JF,JG,JH,JI,JJ,JK,JL,JM,JN,JO,JP,JQ,JR,JS,JT,JU,JV,JW,JX,JY,J2,J3,J4,J5,J6,J7,J8,J9,Ja,Jb,Jc,Jd,Je,Jf,Jg,Jh,Nat.reduceAdd,Ji,if_true,if_false,Jl,Jm,Jn,Jo,Jp,Jq,Jr,Js,Jt,Ju,Jv,Jw,Jx,Jy,Jz,JA,JB,JC,JD,JE, ltB_nat, hd']
  | succ e ih =>
    intro i hi d hd h
    subst hd
    have hil : d.length < l.length := by omega
    have hdd : decide (d.length < l.length) = true := decide_eq_true hil
    obtain ⟨r', q1, q2, q3⟩ := sh1 σ l P hP hok hl n hn d hil l.length 0 (by omega) (List.replicate l.length 0) (by simp) (fun b hb => by omega)
    obtain ⟨d', k1, k2⟩ := ih (d.length + 1) (by omega) (d ++ [r']) (by simp) (MatOf.snoc rfl h q1 q2)
    refine ⟨d', k1, fun fuel => ?_⟩
    rw [show fuel + (e + 1) * (l.length + 2) + 1 = ((fuel + e * (l.length + 2) + 1) + l.length + 1) + 1 by rw [Nat.add_mul]; omega, ← k2, ← q3]
    have k0 : (0 : Int) ≤ (l.length : Int) ∧ (l.length : Int) ≤ 1000000 ∧ 8 ≤ 100000000 := by omega
    have hml : (σ ++ d.map cells).length = σ.length + d.length := by simp
    rw [Sys.loop, show saleroomref36_Shortest_S.loops[0]? = some saleroomref36_Shortest_t0 from rfl, Option.bind_some]
    simp -implicitDefEqProofs only [saleroomref36_Shortest_t0, ↓reduceIte,eq_self,JF,JG,JH,JI,JJ,JK,JL,JM,JN,JO,JP,JQ,JR,JS,JT,JU,JV,JW,JX,JY,J2,J3,J4,J5,J6,J7,J8,J9,Ja,Jb,Jc,Jd,Je,Jf,Jg,Jh,Nat.reduceAdd,Ji,if_true,if_false,Jl,Jm,Jn,Jo,Jp,Jq,Jr,Js,Jt,Ju,Jv,Jw,Jx,Jy,Jz,JA,JB,JC,JD,JE, ltB_nat, hdd, if_pos k0, Int.toNat_natCast, icell_rep, hml]
    have hmm : σ ++ (d ++ [List.replicate l.length (0 : Int)]).map cells = (σ ++ d.map cells) ++ [MO.cells (icell (List.replicate l.length 0)) 2] := by simp [cells]
    rw [hmm]
    rfl
end
section
variable (σ : List MO) (N : Nat) (hN : N ≤ 14) (n : Nat)
def fwSt (σ : List MO) (N : Nat) (d : List (List Int)) (is : List Int) : PEnv := { i := is, b := [], v := [dsl σ.length N N], m := σ ++ d.map cells, k := σ.length }
/-- The square in phase k before place i, j. -/
def curM (F : Nat → Nat → Int) (k i j : Nat) : Nat → Nat → Int := fun a b => if a < i ∨ (a = i ∧ b < j) then phase F k a b else F a b
theorem curM_next {F : Nat → Nat → Int} {k i j N : Nat} : ∀ a b, a < N → b < N → upd2 (curM F k i j) i j (phase F k i j) a b = curM F k i (j + 1) a b := by
  intro a b _ _
  unfold upd2 curM
  by_cases e : a = i ∧ b = j
  · obtain ⟨rfl, rfl⟩ := e
    rw [if_pos ⟨rfl, rfl⟩, if_pos (by omega)]
  · rw [if_neg e]
    by_cases h : a < i ∨ (a = i ∧ b < j)
    · rw [if_pos h, if_pos (by omega)]
    · rw [if_neg h, if_neg (by omega)]
theorem curM_row {F : Nat → Nat → Int} {k i N : Nat} : ∀ a b, a < N → b < N → curM F k i N a b = curM F k (i + 1) 0 a b := by
  intro a b _ hb
  unfold curM
  by_cases h : a < i ∨ (a = i ∧ b < N)
  · rw [if_pos h, if_pos (by omega)]
  · rw [if_neg h, if_neg (by omega)]
theorem curM_k {F : Nat → Nat → Int} {k i j : Nat} (h0 : 0 ≤ F k k) (b : Nat) : curM F k i j k b = F k b := by
  unfold curM
  split
  · exact phase_row h0 b
  · rfl
theorem curM_c {F : Nat → Nat → Int} {k i j : Nat} (h0 : 0 ≤ F k k) (a : Nat) : curM F k i j a k = F a k := by
  unfold curM
  split
  · exact phase_col h0 a
  · rfl
include hN in
theorem fw4 {F : Nat → Nat → Int} {k i : Nat} (hk : k < N) (hi : i < N) (h0 : 0 ≤ F k k) (hb : ∀ a b, a < N → b < N → -1000000000000 ≤ F a b ∧ F a b ≤ 1000000000000) : ∀ e j, j + e = N → ∀ d, MatOf d N (curM F k i j) →
    ∃ d', MatOf d' N (curM F k (i + 1) 0) ∧ ∀ fuel, saleroomref36_Shortest_S.loop (evalF Tab n) (fuel + e + 1) 4 (fwSt σ N d [(N : Int), (k : Int), (i : Int), (j : Int)]) = saleroomref36_Shortest_S.loop (evalF Tab n) fuel 3 (fwSt σ N d' [(N : Int), (k : Int), ((i + 1 : Nat) : Int)]) := by
  intro e
  induction e with
  | zero =>
    intro j hj d h
    rw [Nat.add_zero] at hj; subst hj
    refine ⟨d, h.congr curM_row, fun fuel => ?_⟩
    have hd : decide (j < j) = false := by simp
    have hup := up_ok (show i ≤ 1000000000 by omega)
    rw [nat_succ, Sys.loop, show saleroomref36_Shortest_S.loops[4]? = some saleroomref36_Shortest_t4 from rfl, Option.bind_some]
    simp -implicitDefEqProofs only [saleroomref36_Shortest_t4, ↓reduceIte,eq_self,JF,JG,JH,JI,JJ,JK,JL,JM,JN,JO,JP,JQ,JR,JS,JT,JU,JV,JW,JX,JY,J2,J3,J4,J5,J6,J7,J8,J9,Ja,Jb,Jc,Jd,Je,Jf,Jg,Jh,Nat.reduceAdd,Ji,if_true,if_false,Jl,Jm,Jn,Jo,Jp,Jq,Jr,Js,Jt,Ju,Jv,Jw,Jx,Jy,Jz,JA,JB,JC,JD,JE, fwSt, ltB_nat, hd, if_pos hup]
  | succ e ih =>
    intro j hj d h
    have hjl : j < N := by omega
    obtain ⟨ri, hri, hril, hriv⟩ := h.2 i hi
    obtain ⟨rk, hrk, hrkl, hrkv⟩ := h.2 k hk
    have v1 : at' ri j = F i j := by rw [hriv j hjl]; unfold curM; rw [if_neg (by omega)]
    have v2 : at' ri k = F i k := by rw [hriv k hk, curM_c h0]
    have v3 : at' rk j = F k j := by rw [hrkv j hjl, curM_k h0]
    obtain ⟨d', q1, q2⟩ := ih (j + 1) (by omega) (d.set i (ri.set j (phase F k i j))) ((h.set hi hjl hri _).congr curM_next)
    refine ⟨d', q1, fun fuel => ?_⟩
    have q2 := q2 fuel
    rw [nat_succ j] at q2
    rw [← q2, show fuel + (e + 1) + 1 = (fuel + e + 1) + 1 from rfl]
    have hD := dsl_rows σ.length N N
    obtain ⟨z1, z2, z3⟩ := rows_len hD
    rw [drows_len] at z1
    have gi := rows_get (off := 0) hD (drows_get (b := σ.length) (N := N) hi)
    have gk := rows_get (off := 0) hD (drows_get (b := σ.length) (N := N) hk)
    have di : decide (i < N) = true := decide_eq_true hi
    have dk : decide (k < N) = true := decide_eq_true hk
    have dj : decide (j < N) = true := decide_eq_true hjl
    have mi := mem_get σ d hri
    have mk := mem_get σ d hrk
    have ms := mem_set σ d i (ri.set j (phase F k i j))
    have eij := locEl_msl (h := σ.length + i) (o := 0) (cap := N) (sz := 1) (off := 0) hjl
    have eik := locEl_msl (h := σ.length + i) (o := 0) (cap := N) (sz := 1) (off := 0) hk
    have ekj := locEl_msl (h := σ.length + k) (o := 0) (cap := N) (sz := 1) (off := 0) hjl
    have d1 := icell_drop (at'_get (l := ri) (i := j) (by omega))
    have d2 := icell_drop (at'_get (l := ri) (i := k) (by omega))
    have d3 := icell_drop (at'_get (l := rk) (i := j) (by omega))
    rw [v1] at d1; rw [v2] at d2; rw [v3] at d3
    have b1 := hb i k hi hk
    have b2 := hb k j hk hjl
    have hmn : mnI (F i j) (F i k + F k j) = phase F k i j := by unfold mnI phase; split <;> omega
    have sv := icell_set (l := ri) (i := j) (phase F k i j) (by omega)
    have lv : j + 1 ≤ (icell ri).length := by rw [icell_len]; omega
    have o1 := i64_ok (z := F i k + F k j) (by omega)
    have hup := up_ok (show j ≤ 1000000000 by omega)
    simp only [cells] at mi mk ms
    rw [Sys.loop, show saleroomref36_Shortest_S.loops[4]? = some saleroomref36_Shortest_t4 from rfl, Option.bind_some]
    have E : PT.ev (evalF Tab n) saleroomref36_Shortest_t4 (fwSt σ N d [(N : Int), (k : Int), (i : Int), (j : Int)]) = some (.jump 4 (fwSt σ N (d.set i (ri.set j (phase F k i j))) [(N : Int), (k : Int), (i : Int), (j : Int) + 1])) := by
      unfold fwSt
      rw [← mem_set]
      simp only [cells]
      generalize σ ++ d.map cells = M at *
      simp -implicitDefEqProofs only [saleroomref36_Shortest_t4, ↓reduceIte,eq_self,JF,JG,JH,JI,JJ,JK,JL,JM,JN,JO,JP,JQ,JR,JS,JT,JU,JV,JW,JX,JY,J2,J3,J4,J5,J6,J7,J8,J9,Ja,Jb,Jc,Jd,Je,Jf,Jg,Jh,Nat.reduceAdd,Ji,if_true,if_false,Jl,Jm,Jn,Jo,Jp,Jq,Jr,Js,Jt,Ju,Jv,Jw,Jx,Jy,Jz,JA,JB,JC,JD,JE, z1, ltB_nat, di, dk, dj, le0, gi, gk, one_msl, lenM]
      repeat' (first
        | with_reducible rfl
        | apply ev_both
        | (unfold saleroomref36_Shortest_t4_b1; simp -implicitDefEqProofs only [↓reduceIte,eq_self,JF,JG,JH,JI,JJ,JK,JL,JM,JN,JO,JP,JQ,JR,JS,JT,JU,JV,JW,JX,JY,J2,J3,J4,J5,J6,J7,J8,J9,Ja,Jb,Jc,Jd,Je,Jf,Jg,Jh,Nat.reduceAdd,Ji,if_true,if_false,Jl,Jm,Jn,Jo,Jp,Jq,Jr,Js,Jt,Ju,Jv,Jw,Jx,Jy,Jz,JA,JB,JC,JD,JE, lenM, ltB_nat, dj, le0, eij, eik, ekj, mi, mk, MO.list, Nat.mul_one, Nat.zero_add, d1, d2, d3, Nat.le_add_left, if_pos o1, hmn, lv, sv, if_pos hup]; done)
        | (unfold saleroomref36_Shortest_t4_b1; simp -implicitDefEqProofs only [↓reduceIte,eq_self,JF,JG,JH,JI,JJ,JK,JL,JM,JN,JO,JP,JQ,JR,JS,JT,JU,JV,JW,JX,JY,J2,J3,J4,J5,J6,J7,J8,J9,Ja,Jb,Jc,Jd,Je,Jf,Jg,Jh,Nat.reduceAdd,Ji,if_true,if_false,Jl,Jm,Jn,Jo,Jp,Jq,Jr,Js,Jt,Ju,Jv,Jw,Jx,Jy,Jz,JA,JB,JC,JD,JE, lenM, ltB_nat, dj, le0, eij, eik, ekj, mi, mk, MO.list, Nat.mul_one, Nat.zero_add, d1, d2, d3, Nat.le_add_left, if_pos o1, hmn, lv, sv, if_pos hup])
        | (unfold saleroomref36_Shortest_t4_b2; simp -implicitDefEqProofs only [↓reduceIte,eq_self,JF,JG,JH,JI,JJ,JK,JL,JM,JN,JO,JP,JQ,JR,JS,JT,JU,JV,JW,JX,JY,J2,J3,J4,J5,J6,J7,J8,J9,Ja,Jb,Jc,Jd,Je,Jf,Jg,Jh,Nat.reduceAdd,Ji,if_true,if_false,Jl,Jm,Jn,Jo,Jp,Jq,Jr,Js,Jt,Ju,Jv,Jw,Jx,Jy,Jz,JA,JB,JC,JD,JE, lenM, ltB_nat, dj, le0, eij, eik, ekj, mi, mk, MO.list, Nat.mul_one, Nat.zero_add, d1, d2, d3, Nat.le_add_left, if_pos o1, hmn, lv, sv, if_pos hup]; done)
        | (unfold saleroomref36_Shortest_t4_b2; simp -implicitDefEqProofs only [↓reduceIte,eq_self,JF,JG,JH,JI,JJ,JK,JL,JM,JN,JO,JP,JQ,JR,JS,JT,JU,JV,JW,JX,JY,J2,J3,J4,J5,J6,J7,J8,J9,Ja,Jb,Jc,Jd,Je,Jf,Jg,Jh,Nat.reduceAdd,Ji,if_true,if_false,Jl,Jm,Jn,Jo,Jp,Jq,Jr,Js,Jt,Ju,Jv,Jw,Jx,Jy,Jz,JA,JB,JC,JD,JE, lenM, ltB_nat, dj, le0, eij, eik, ekj, mi, mk, MO.list, Nat.mul_one, Nat.zero_add, d1, d2, d3, Nat.le_add_left, if_pos o1, hmn, lv, sv, if_pos hup])
        | (unfold saleroomref36_Shortest_t4_b3; simp -implicitDefEqProofs only [↓reduceIte,eq_self,JF,JG,JH,JI,JJ,JK,JL,JM,JN,JO,JP,JQ,JR,JS,JT,JU,JV,JW,JX,JY,J2,J3,J4,J5,J6,J7,J8,J9,Ja,Jb,Jc,Jd,Je,Jf,Jg,Jh,Nat.reduceAdd,Ji,if_true,if_false,Jl,Jm,Jn,Jo,Jp,Jq,Jr,Js,Jt,Ju,Jv,Jw,Jx,Jy,Jz,JA,JB,JC,JD,JE, lenM, ltB_nat, dj, le0, eij, eik, ekj, mi, mk, MO.list, Nat.mul_one, Nat.zero_add, d1, d2, d3, Nat.le_add_left, if_pos o1, hmn, lv, sv, if_pos hup]; done)
        | (unfold saleroomref36_Shortest_t4_b3; simp -implicitDefEqProofs only [↓reduceIte,eq_self,JF,JG,JH,JI,JJ,JK,JL,JM,JN,JO,JP,JQ,JR,JS,JT,JU,JV,JW,JX,JY,J2,J3,J4,J5,J6,J7,J8,J9,Ja,Jb,Jc,Jd,Je,Jf,Jg,Jh,Nat.reduceAdd,Ji,if_true,if_false,Jl,Jm,Jn,Jo,Jp,Jq,Jr,Js,Jt,Ju,Jv,Jw,Jx,Jy,Jz,JA,JB,JC,JD,JE, lenM, ltB_nat, dj, le0, eij, eik, ekj, mi, mk, MO.list, Nat.mul_one, Nat.zero_add, d1, d2, d3, Nat.le_add_left, if_pos o1, hmn, lv, sv, if_pos hup])
        | (unfold saleroomref36_Shortest_t4_b4; simp -implicitDefEqProofs only [↓reduceIte,eq_self,JF,JG,JH,JI,JJ,JK,JL,JM,JN,JO,JP,JQ,JR,JS,JT,JU,JV,JW,JX,JY,J2,J3,J4,J5,J6,J7,J8,J9,Ja,Jb,Jc,Jd,Je,Jf,Jg,Jh,Nat.reduceAdd,Ji,if_true,if_false,Jl,Jm,Jn,Jo,Jp,Jq,Jr,Js,Jt,Ju,Jv,Jw,Jx,Jy,Jz,JA,JB,JC,JD,JE, lenM, ltB_nat, dj, le0, eij, eik, ekj, mi, mk, MO.list, Nat.mul_one, Nat.zero_add, d1, d2, d3, Nat.le_add_left, if_pos o1, hmn, lv, sv, if_pos hup]; done)
        | (unfold saleroomref36_Shortest_t4_b4; simp -implicitDefEqProofs only [↓reduceIte,eq_self,JF,JG,JH,JI,JJ,JK,JL,JM,JN,JO,JP,JQ,JR,JS,JT,JU,JV,JW,JX,JY,J2,J3,J4,J5,J6,J7,J8,J9,Ja,Jb,Jc,Jd,Je,Jf,Jg,Jh,Nat.reduceAdd,Ji,if_true,if_false,Jl,Jm,Jn,Jo,Jp,Jq,Jr,Js,Jt,Ju,Jv,Jw,Jx,Jy,Jz,JA,JB,JC,JD,JE, lenM, ltB_nat, dj, le0, eij, eik, ekj, mi, mk, MO.list, Nat.mul_one, Nat.zero_add, d1, d2, d3, Nat.le_add_left, if_pos o1, hmn, lv, sv, if_pos hup])
        | (unfold saleroomref36_Shortest_t4_b5; simp -implicitDefEqProofs only [↓reduceIte,eq_self,JF,JG,JH,JI,JJ,JK,JL,JM,JN,JO,JP,JQ,JR,JS,JT,JU,JV,JW,JX,JY,J2,J3,J4,J5,J6,J7,J8,J9,Ja,Jb,Jc,Jd,Je,Jf,Jg,Jh,Nat.reduceAdd,Ji,if_true,if_false,Jl,Jm,Jn,Jo,Jp,Jq,Jr,Js,Jt,Ju,Jv,Jw,Jx,Jy,Jz,JA,JB,JC,JD,JE, lenM, ltB_nat, dj, le0, eij, eik, ekj, mi, mk, MO.list, Nat.mul_one, Nat.zero_add, d1, d2, d3, Nat.le_add_left, if_pos o1, hmn, lv, sv, if_pos hup]; done)
        | (unfold saleroomref36_Shortest_t4_b5; simp -implicitDefEqProofs only [↓reduceIte,eq_self,JF,JG,JH,JI,JJ,JK,JL,JM,JN,JO,JP,JQ,JR,JS,JT,JU,JV,JW,JX,JY,J2,J3,J4,J5,J6,J7,J8,J9,Ja,Jb,Jc,Jd,Je,Jf,Jg,Jh,Nat.reduceAdd,Ji,if_true,if_false,Jl,Jm,Jn,Jo,Jp,Jq,Jr,Js,Jt,Ju,Jv,Jw,Jx,Jy,Jz,JA,JB,JC,JD,JE, lenM, ltB_nat, dj, le0, eij, eik, ekj, mi, mk, MO.list, Nat.mul_one, Nat.zero_add, d1, d2, d3, Nat.le_add_left, if_pos o1, hmn, lv, sv, if_pos hup])
        | (unfold saleroomref36_Shortest_t4_b6; simp -implicitDefEqProofs only [↓reduceIte,eq_self,JF,JG,JH,JI,JJ,JK,JL,JM,JN,JO,JP,JQ,JR,JS,JT,JU,JV,JW,JX,JY,J2,J3,J4,J5,J6,J7,J8,J9,Ja,Jb,Jc,Jd,Je,Jf,Jg,Jh,Nat.reduceAdd,Ji,if_true,if_false,Jl,Jm,Jn,Jo,Jp,Jq,Jr,Js,Jt,Ju,Jv,Jw,Jx,Jy,Jz,JA,JB,JC,JD,JE, lenM, ltB_nat, dj, le0, eij, eik, ekj, mi, mk, MO.list, Nat.mul_one, Nat.zero_add, d1, d2, d3, Nat.le_add_left, if_pos o1, hmn, lv, sv, if_pos hup]; done)
        | (unfold saleroomref36_Shortest_t4_b6; simp -implicitDefEqProofs only [↓reduceIte,eq_self,JF,JG,JH,JI,JJ,JK,JL,JM,JN,JO,JP,JQ,JR,JS,JT,JU,JV,JW,JX,JY,J2,J3,J4,J5,J6,J7,J8,J9,Ja,Jb,Jc,Jd,Je,Jf,Jg,Jh,Nat.reduceAdd,Ji,if_true,if_false,Jl,Jm,Jn,Jo,Jp,Jq,Jr,Js,Jt,Ju,Jv,Jw,Jx,Jy,Jz,JA,JB,JC,JD,JE, lenM, ltB_nat, dj, le0, eij, eik, ekj, mi, mk, MO.list, Nat.mul_one, Nat.zero_add, d1, d2, d3, Nat.le_add_left, if_pos o1, hmn, lv, sv, if_pos hup])
        | (unfold saleroomref36_Shortest_t4_b7; simp -implicitDefEqProofs only [↓reduceIte,eq_self,JF,JG,JH,JI,JJ,JK,JL,JM,JN,JO,JP,JQ,JR,JS,JT,JU,JV,JW,JX,JY,J2,J3,J4,J5,J6,J7,J8,J9,Ja,Jb,Jc,Jd,Je,Jf,Jg,Jh,Nat.reduceAdd,Ji,if_true,if_false,Jl,Jm,Jn,Jo,Jp,Jq,Jr,Js,Jt,Ju,Jv,Jw,Jx,Jy,Jz,JA,JB,JC,JD,JE, lenM, ltB_nat, dj, le0, eij, eik, ekj, mi, mk, MO.list, Nat.mul_one, Nat.zero_add, d1, d2, d3, Nat.le_add_left, if_pos o1, hmn, lv, sv, if_pos hup]; done)
        | (unfold saleroomref36_Shortest_t4_b7; simp -implicitDefEqProofs only [↓reduceIte,eq_self,JF,JG,JH,JI,JJ,JK,JL,JM,JN,JO,JP,JQ,JR,JS,JT,JU,JV,JW,JX,JY,J2,J3,J4,J5,J6,J7,J8,J9,Ja,Jb,Jc,Jd,Je,Jf,Jg,Jh,Nat.reduceAdd,Ji,if_true,if_false,Jl,Jm,Jn,Jo,Jp,Jq,Jr,Js,Jt,Ju,Jv,Jw,Jx,Jy,Jz,JA,JB,JC,JD,JE, lenM, ltB_nat, dj, le0, eij, eik, ekj, mi, mk, MO.list, Nat.mul_one, Nat.zero_add, d1, d2, d3, Nat.le_add_left, if_pos o1, hmn, lv, sv, if_pos hup])
        | (unfold saleroomref36_Shortest_t4_b8; simp -implicitDefEqProofs only [↓reduceIte,eq_self,JF,JG,JH,JI,JJ,JK,JL,JM,JN,JO,JP,JQ,JR,JS,JT,JU,JV,JW,JX,JY,J2,J3,J4,J5,J6,J7,J8,J9,Ja,Jb,Jc,Jd,Je,Jf,Jg,Jh,Nat.reduceAdd,Ji,if_true,if_false,Jl,Jm,Jn,Jo,Jp,Jq,Jr,Js,Jt,Ju,Jv,Jw,Jx,Jy,Jz,JA,JB,JC,JD,JE, lenM, ltB_nat, dj, le0, eij, eik, ekj, mi, mk, MO.list, Nat.mul_one, Nat.zero_add, d1, d2, d3, Nat.le_add_left, if_pos o1, hmn, lv, sv, if_pos hup]; done)
        | (unfold saleroomref36_Shortest_t4_b8; simp -implicitDefEqProofs only [↓reduceIte,eq_self,JF,JG,JH,JI,JJ,JK,JL,JM,JN,JO,JP,JQ,JR,JS,JT,JU,JV,JW,JX,JY,J2,J3,J4,J5,J6,J7,J8,J9,Ja,Jb,Jc,Jd,Je,Jf,Jg,Jh,Nat.reduceAdd,Ji,if_true,if_false,Jl,Jm,Jn,Jo,Jp,Jq,Jr,Js,Jt,Ju,Jv,Jw,Jx,Jy,Jz,JA,JB,JC,JD,JE, lenM, ltB_nat, dj, le0, eij, eik, ekj, mi, mk, MO.list, Nat.mul_one, Nat.zero_add, d1, d2, d3, Nat.le_add_left, if_pos o1, hmn, lv, sv, if_pos hup])
        | (unfold saleroomref36_Shortest_t4_b9; simp -implicitDefEqProofs only [↓reduceIte,eq_self,JF,JG,JH,JI,JJ,JK,JL,JM,JN,JO,JP,JQ,JR,JS,JT,JU,JV,JW,JX,JY,J2,J3,J4,J5,J6,J7,J8,J9,Ja,Jb,Jc,Jd,Je,Jf,Jg,Jh,Nat.reduceAdd,Ji,if_true,if_false,Jl,Jm,Jn,Jo,Jp,Jq,Jr,Js,Jt,Ju,Jv,Jw,Jx,Jy,Jz,JA,JB,JC,JD,JE, lenM, ltB_nat, dj, le0, eij, eik, ekj, mi, mk, MO.list, Nat.mul_one, Nat.zero_add, d1, d2, d3, Nat.le_add_left, if_pos o1, hmn, lv, sv, if_pos hup]; done)
        | (unfold saleroomref36_Shortest_t4_b9; simp -implicitDefEqProofs only [↓reduceIte,eq_self,JF,JG,JH,JI,JJ,JK,JL,JM,JN,JO,JP,JQ,JR,JS,JT,JU,JV,JW,JX,JY,J2,J3,J4,J5,J6,J7,J8,J9,Ja,Jb,Jc,Jd,Je,Jf,Jg,Jh,Nat.reduceAdd,Ji,if_true,if_false,Jl,Jm,Jn,Jo,Jp,Jq,Jr,Js,Jt,Ju,Jv,Jw,Jx,Jy,Jz,JA,JB,JC,JD,JE, lenM, ltB_nat, dj, le0, eij, eik, ekj, mi, mk, MO.list, Nat.mul_one, Nat.zero_add, d1, d2, d3, Nat.le_add_left, if_pos o1, hmn, lv, sv, if_pos hup])
        | (unfold saleroomref36_Shortest_t4_b10; simp -implicitDefEqProofs only [↓reduceIte,eq_self,JF,JG,JH,JI,JJ,JK,JL,JM,JN,JO,JP,JQ,JR,JS,JT,JU,JV,JW,JX,JY,J2,J3,J4,J5,J6,J7,J8,J9,Ja,Jb,Jc,Jd,Je,Jf,Jg,Jh,Nat.reduceAdd,Ji,if_true,if_false,Jl,Jm,Jn,Jo,Jp,Jq,Jr,Js,Jt,Ju,Jv,Jw,Jx,Jy,Jz,JA,JB,JC,JD,JE, lenM, ltB_nat, dj, le0, eij, eik, ekj, mi, mk, MO.list, Nat.mul_one, Nat.zero_add, d1, d2, d3, Nat.le_add_left, if_pos o1, hmn, lv, sv, if_pos hup]; done)
        | (unfold saleroomref36_Shortest_t4_b10; simp -implicitDefEqProofs only [↓reduceIte,eq_self,JF,JG,JH,JI,JJ,JK,JL,JM,JN,JO,JP,JQ,JR,JS,JT,JU,JV,JW,JX,JY,J2,J3,J4,J5,J6,J7,J8,J9,Ja,Jb,Jc,Jd,Je,Jf,Jg,Jh,Nat.reduceAdd,Ji,if_true,if_false,Jl,Jm,Jn,Jo,Jp,Jq,Jr,Js,Jt,Ju,Jv,Jw,Jx,Jy,Jz,JA,JB,JC,JD,JE, lenM, ltB_nat, dj, le0, eij, eik, ekj, mi, mk, MO.list, Nat.mul_one, Nat.zero_add, d1, d2, d3, Nat.le_add_left, if_pos o1, hmn, lv, sv, if_pos hup]))
    rw [E]
    rfl
end
end Go.Proofs.Ythjahianafohjaa
set_option maxRecDepth 100000
namespace Go.Proofs.Ythjahianafohjaa
open Go.Sx Go.Fw
section
variable (σ : List MO) (N : Nat) (hN : N ≤ 14) (n : Nat)
include hN in
theorem fw3 {F : Nat → Nat → Int} {k : Nat} (hk : k < N) (h0 : 0 ≤ F k k) (hb : ∀ a b, a < N → b < N → -1000000000000 ≤ F a b ∧ F a b ≤ 1000000000000) : ∀ e i, i + e = N → ∀ d, MatOf d N (curM F k i 0) →
    ∃ d', MatOf d' N (phase F k) ∧ ∀ fuel, saleroomref36_Shortest_S.loop (evalF Tab n) (fuel + e * (N + 2) + 1) 3 (fwSt σ N d [(N : Int), (k : Int), (i : Int)]) = saleroomref36_Shortest_S.loop (evalF Tab n) fuel 5 (fwSt σ N d' [(N : Int), (k : Int), 0]) := by
  intro e
  induction e with
  | zero =>
    intro i hi d h
    rw [Nat.add_zero] at hi; subst hi
    refine ⟨d, h.congr (fun a b ha _ => by unfold curM; rw [if_pos (by omega)]), fun fuel => ?_⟩
    have hd : decide (i < i) = false := by simp
    rw [Nat.zero_mul, Nat.add_zero, Sys.loop, show saleroomref36_Shortest_S.loops[3]? = some saleroomref36_Shortest_t3 from rfl, Option.bind_some]
    simp -implicitDefEqProofs only [saleroomref36_Shortest_t3, ↓reduceIte,eq_self,JF,JG,JH,JI,JJ,JK,JL,JM,JN,JO,JP,JQ,JR,JS,JT,JU,JV,JW,JX,JY,J2,J3,J4,J5,J6,J7,J8,J9,Ja,Jb,Jc,Jd,Je,Jf,Jg,Jh,Nat.reduceAdd,Ji,if_true,if_false,Jl,Jm,Jn,Jo,Jp,Jq,Jr,Js,Jt,Ju,Jv,Jw,Jx,Jy,Jz,JA,JB,JC,JD,JE, fwSt, ltB_nat, hd]
  | succ e ih =>
    intro i hi d h
    have hil : i < N := by omega
    obtain ⟨d1, q1, q2⟩ := fw4 σ N hN n hk hil h0 hb N 0 (by omega) d h
    obtain ⟨d2, k1, k2⟩ := ih (i + 1) (by omega) d1 q1
    refine ⟨d2, k1, fun fuel => ?_⟩
    have di : decide (i < N) = true := decide_eq_true hil
    rw [show fuel + (e + 1) * (N + 2) + 1 = ((fuel + e * (N + 2) + 1) + N + 1) + 1 by rw [Nat.add_mul]; omega, ← k2, ← q2]
    rw [Sys.loop, show saleroomref36_Shortest_S.loops[3]? = some saleroomref36_Shortest_t3 from rfl, Option.bind_some]
    simp -implicitDefEqProofs only [saleroomref36_Shortest_t3, ↓reduceIte,eq_self,JF,JG,JH,JI,JJ,JK,JL,JM,JN,JO,JP,JQ,JR,JS,JT,JU,JV,JW,JX,JY,J2,J3,J4,J5,J6,J7,J8,J9,Ja,Jb,Jc,Jd,Je,Jf,Jg,Jh,Nat.reduceAdd,Ji,if_true,if_false,Jl,Jm,Jn,Jo,Jp,Jq,Jr,Js,Jt,Ju,Jv,Jw,Jx,Jy,Jz,JA,JB,JC,JD,JE, fwSt, ltB_nat, di]
    rfl
include hN in
theorem fw5 {G : Nat → Nat → Int} {k : Nat} (hk : k < N) {d : List (List Int)} (h : MatOf d N G) : ∀ e i, i + e = N →
    ((∀ a, i ≤ a → a < N → 0 ≤ G a a) ∧ ∀ fuel, saleroomref36_Shortest_S.loop (evalF Tab n) (fuel + e + 1) 5 (fwSt σ N d [(N : Int), (k : Int), (i : Int)]) = saleroomref36_Shortest_S.loop (evalF Tab n) fuel 2 (fwSt σ N d [(N : Int), ((k + 1 : Nat) : Int)])) ∨
    ((∃ a, a < N ∧ G a a < 0) ∧ ∀ fuel, saleroomref36_Shortest_S.loop (evalF Tab n) (fuel + e + 1) 5 (fwSt σ N d [(N : Int), (k : Int), (i : Int)]) = some (.tup [.nilS, .bool false], σ ++ d.map cells)) := by
  intro e
  induction e with
  | zero =>
    intro i hi
    rw [Nat.add_zero] at hi; subst hi
    refine .inl ⟨fun a h1 h2 => by omega, fun fuel => ?_⟩
    have hd : decide (i < i) = false := by simp
    have hup := up_ok (show k ≤ 1000000000 by omega)
    rw [nat_succ k, Sys.loop, show saleroomref36_Shortest_S.loops[5]? = some saleroomref36_Shortest_t5 from rfl, Option.bind_some]
    simp -implicitDefEqProofs only [saleroomref36_Shortest_t5, ↓reduceIte,eq_self,JF,JG,JH,JI,JJ,JK,JL,JM,JN,JO,JP,JQ,JR,JS,JT,JU,JV,JW,JX,JY,J2,J3,J4,J5,J6,J7,J8,J9,Ja,Jb,Jc,Jd,Je,Jf,Jg,Jh,Nat.reduceAdd,Ji,if_true,if_false,Jl,Jm,Jn,Jo,Jp,Jq,Jr,Js,Jt,Ju,Jv,Jw,Jx,Jy,Jz,JA,JB,JC,JD,JE, fwSt, ltB_nat, hd, if_pos hup]
  | succ e ih =>
    intro i hi
    have hil : i < N := by omega
    obtain ⟨ri, hri, hril, hriv⟩ := h.2 i hil
    have hD := dsl_rows σ.length N N
    obtain ⟨z1, z2, z3⟩ := rows_len hD
    rw [drows_len] at z1
    have gi := rows_get (off := 0) hD (drows_get (b := σ.length) (N := N) hil)
    have di : decide (i < N) = true := decide_eq_true hil
    have mi := mem_get σ d hri
    have eii := locEl_msl (h := σ.length + i) (o := 0) (cap := N) (sz := 1) (off := 0) hil
    have d1 := icell_drop (at'_get (l := ri) (i := i) (by omega))
    rw [hriv i hil] at d1
    have hup := up_ok (show i ≤ 1000000000 by omega)
    simp only [cells] at mi
    have step : ∀ fuel, saleroomref36_Shortest_S.loop (evalF Tab n) (fuel + 1) 5 (fwSt σ N d [(N : Int), (k : Int), (i : Int)]) = if G i i < 0 then some (.tup [.nilS, .bool false], σ ++ d.map cells) else saleroomref36_Shortest_S.loop (evalF Tab n) fuel 5 (fwSt σ N d [(N : Int), (k : Int), ((i + 1 : Nat) : Int)]) := by
      intro fuel
      rw [nat_succ i, Sys.loop, show saleroomref36_Shortest_S.loops[5]? = some saleroomref36_Shortest_t5 from rfl, Option.bind_some]
      unfold fwSt
      generalize σ ++ d.map cells = M at *
      simp -implicitDefEqProofs only [saleroomref36_Shortest_t5, ↓reduceIte,eq_self,JF,JG,JH,JI,JJ,JK,JL,JM,JN,JO,JP,JQ,JR,JS,JT,JU,JV,JW,JX,JY,J2,J3,J4,J5,J6,J7,J8,J9,Ja,Jb,Jc,Jd,Je,Jf,Jg,Jh,Nat.reduceAdd,Ji,if_true,if_false,Jl,Jm,Jn,Jo,Jp,Jq,Jr,Js,Jt,Ju,Jv,Jw,Jx,Jy,Jz,JA,JB,JC,JD,JE, z1, lenM, ltB_nat, di, le0, gi, one_msl, eii, mi, MO.list, Nat.mul_one, Nat.zero_add, d1, Nat.le_add_left]
      by_cases hneg : G i i < 0
      · have e1 : ltB (G i i) 0 = true := ltB_true.2 hneg
        rw [if_pos hneg]
        simp -implicitDefEqProofs only [↓reduceIte,eq_self,JF,JG,JH,JI,JJ,JK,JL,JM,JN,JO,JP,JQ,JR,JS,JT,JU,JV,JW,JX,JY,J2,J3,J4,J5,J6,J7,J8,J9,Ja,Jb,Jc,Jd,Je,Jf,Jg,Jh,Nat.reduceAdd,Ji,if_true,if_false,Jl,Jm,Jn,Jo,Jp,Jq,Jr,Js,Jt,Ju,Jv,Jw,Jx,Jy,Jz,JA,JB,JC,JD,JE, e1, retP, true_or]
      · have e1 : ltB (G i i) 0 = false := ltB_false.2 hneg
        rw [if_neg hneg]
        simp -implicitDefEqProofs only [↓reduceIte,eq_self,JF,JG,JH,JI,JJ,JK,JL,JM,JN,JO,JP,JQ,JR,JS,JT,JU,JV,JW,JX,JY,J2,J3,J4,J5,J6,J7,J8,J9,Ja,Jb,Jc,Jd,Je,Jf,Jg,Jh,Nat.reduceAdd,Ji,if_true,if_false,Jl,Jm,Jn,Jo,Jp,Jq,Jr,Js,Jt,Ju,Jv,Jw,Jx,Jy,Jz,JA,JB,JC,JD,JE, e1, if_pos hup]
    by_cases hneg : G i i < 0
    · refine .inr ⟨⟨i, hil, hneg⟩, fun fuel => ?_⟩
      rw [show fuel + (e + 1) + 1 = (fuel + e + 1) + 1 from rfl, step, if_pos hneg]
    · rcases ih (i + 1) (by omega) with ⟨h1, h2⟩ | ⟨h1, h2⟩
      · refine .inl ⟨fun a ha hb => ?_, fun fuel => ?_⟩
        · by_cases e : a = i
          · subst e; omega
          · exact h1 a (by omega) hb
        · rw [show fuel + (e + 1) + 1 = (fuel + e + 1) + 1 from rfl, step, if_neg hneg, h2]
      · refine .inr ⟨h1, fun fuel => ?_⟩
        rw [show fuel + (e + 1) + 1 = (fuel + e + 1) + 1 from rfl, step, if_neg hneg, h2]
def fwK (N : Nat) : Nat := N * (N + 2) + N + 3
def fwB (k : Nat) : Int := 24000000 * ((2 ^ k : Nat) : Int)
theorem fwB_le {k : Nat} (h : k ≤ 14) : 0 ≤ fwB k ∧ fwB k ≤ 393216000000 := by
  unfold fwB
  have : 2 ^ k ≤ 2 ^ 14 := Nat.pow_le_pow_right (by omega) h
  have h6 : (2 : Nat) ^ 14 = 16384 := by decide
  generalize 2 ^ k = y at *
  omega
theorem fwB_succ (k : Nat) : fwB (k + 1) = 2 * fwB k := by unfold fwB; rw [Nat.pow_succ]; generalize 2 ^ k = y; omega
include hN in
theorem fw2 (g : Nat → Nat → Int) : ∀ e k, k + e = N → ∀ d F, MatOf d N F → (∀ i j, i < N → j < N → -fwB k ≤ F i j ∧ F i j ≤ 24000000) → Tri F N k → (∀ i, i < N → 0 ≤ F i i) → (∀ i j, i < N → j < N → F i j ≤ g i j) →
    ∃ b d', (∀ fuel, saleroomref36_Shortest_S.loop (evalF Tab n) (fuel + e * fwK N + 1) 2 (fwSt σ N d [(N : Int), (k : Int)]) = some (.tup [if b = true then dsl σ.length N N else .nilS, .bool b], σ ++ d'.map cells)) ∧
      (b = true → ∃ π : Nat → Int, ∀ x y, x < N → y < N → π y ≤ π x + g x y) ∧ (∀ π, Und π F N → b = true) ∧ (b = true → ∃ F', MatOf d' N F' ∧ ∀ i j, i < N → j < N → -393216000000 ≤ F' i j ∧ F' i j ≤ 24000000) := by
  intro e
  induction e with
  | zero =>
    intro k hk d F hm hb ht h0 hg
    rw [Nat.add_zero] at hk; subst hk
    refine ⟨true, d, fun fuel => ?_, fun _ => ht.pot hg, fun _ _ => rfl, fun _ => ⟨F, hm, fun i j hi hj => ?_⟩⟩
    · have hd : decide (k < k) = false := by simp
      rw [Nat.zero_mul, Nat.add_zero, Sys.loop, show saleroomref36_Shortest_S.loops[2]? = some saleroomref36_Shortest_t2 from rfl, Option.bind_some]
      simp -implicitDefEqProofs only [saleroomref36_Shortest_t2, ↓reduceIte,eq_self,JF,JG,JH,JI,JJ,JK,JL,JM,JN,JO,JP,JQ,JR,JS,JT,JU,JV,JW,JX,JY,J2,J3,J4,J5,J6,J7,J8,J9,Ja,Jb,Jc,Jd,Je,Jf,Jg,Jh,Nat.reduceAdd,Ji,if_true,if_false,Jl,Jm,Jn,Jo,Jp,Jq,Jr,Js,Jt,Ju,Jv,Jw,Jx,Jy,Jz,JA,JB,JC,JD,JE, fwSt, ltB_nat, hd, retP, true_or]
    · have := hb i j hi hj
      have := fwB_le hN
      omega
  | succ e ih =>
    intro k hk d F hm hb ht h0 hg
    have hkN : k < N := by omega
    have hB := fwB_le (k := k) (by omega)
    obtain ⟨d1, q1, q2⟩ := fw3 σ N hN n hkN (h0 k hkN) (fun a b ha hb' => by have := hb a b ha hb'; omega) N 0 (by omega) d (hm.congr (fun a b _ _ => by unfold curM; rw [if_neg (by omega)]))
    have dk : decide (k < N) = true := decide_eq_true hkN
    have enter : ∀ fuel, saleroomref36_Shortest_S.loop (evalF Tab n) (fuel + fwK N) 2 (fwSt σ N d [(N : Int), (k : Int)]) = saleroomref36_Shortest_S.loop (evalF Tab n) (fuel + N + 1) 5 (fwSt σ N d1 [(N : Int), (k : Int), 0]) := by
      intro fuel
      rw [← q2, show fuel + fwK N = ((fuel + N + 1) + N * (N + 2) + 1) + 1 by unfold fwK; omega]
      rw [Sys.loop, show saleroomref36_Shortest_S.loops[2]? = some saleroomref36_Shortest_t2 from rfl, Option.bind_some]
      simp -implicitDefEqProofs only [saleroomref36_Shortest_t2, ↓reduceIte,eq_self,JF,JG,JH,JI,JJ,JK,JL,JM,JN,JO,JP,JQ,JR,JS,JT,JU,JV,JW,JX,JY,J2,J3,J4,J5,J6,J7,J8,J9,Ja,Jb,Jc,Jd,Je,Jf,Jg,Jh,Nat.reduceAdd,Ji,if_true,if_false,Jl,Jm,Jn,Jo,Jp,Jq,Jr,Js,Jt,Ju,Jv,Jw,Jx,Jy,Jz,JA,JB,JC,JD,JE, fwSt, ltB_nat, dk]
      rfl
    rcases fw5 σ N hN n hkN q1 N 0 (by omega) with ⟨h1, h2⟩ | ⟨h1, h2⟩
    · have low := phase_low hB.1 hkN (fun i j hi hj => (hb i j hi hj).1)
      obtain ⟨b, d', r1, r2, r3, r4⟩ := ih (k + 1) (by omega) d1 (phase F k) q1 (fun i j hi hj => ⟨by rw [fwB_succ]; exact low i j hi hj, by have := phase_le F k i j; have := hb i j hi hj; omega⟩) (ht.phase hkN (h0 k hkN)) (fun i hi => h1 i (by omega) hi) (fun i j hi hj => by have := phase_le F k i j; have := hg i j hi hj; omega)
      refine ⟨b, d', fun fuel => ?_, r2, fun π hπ => r3 π (hπ.phase hkN), r4⟩
      rw [show fuel + (e + 1) * fwK N + 1 = (fuel + e * fwK N + 1) + fwK N by rw [Nat.add_mul]; omega, enter, ← r1 fuel]
      exact h2 _
    · refine ⟨false, d1, fun fuel => ?_, fun h => (by cases h), fun π hπ => ?_, fun h => (by cases h)⟩
      · rw [show fuel + (e + 1) * fwK N + 1 = (fuel + e * fwK N + 1) + fwK N by rw [Nat.add_mul]; omega, enter]
        exact h2 _
      · obtain ⟨a, ha, hneg⟩ := h1
        have := (hπ.phase hkN).diag ha
        omega
end
theorem shortest_sem (σ : List MO) (l : List Ch) (P : PV) (hP : P.rowsOf 12 = some (l.map Ch.row)) (hok : ∀ x ∈ l, x.ok) (hl : l.length ≤ 14) (n : Nat) (hn : 10000 ≤ n) :
    ∃ b d, evalF Tab n n_saleroomref36_Shortest [P] σ = some (.tup [if b = true then dsl σ.length l.length l.length else .nilS, .bool b], σ ++ d.map cells) ∧ (b = true ↔ Pot l) ∧
      (b = true → ∃ F, MatOf d l.length F ∧ ∀ i j, i < l.length → j < l.length → -393216000000 ≤ F i j ∧ F i j ≤ 24000000) := by
  obtain ⟨n, rfl⟩ : ∃ k, n = k + 1 := ⟨n - 1, by omega⟩
  obtain ⟨p1, p2, p3⟩ := rows_len hP
  rw [List.length_map] at p1
  obtain ⟨d, q1, q2⟩ := sh0 σ l P hP hok hl n (by omega) l.length 0 (by omega) [] rfl (fun a ha => by omega)
  have gb : ∀ i j, i < l.length → j < l.length → -24000000 ≤ gN l i j ∧ gN l i j ≤ 24000000 := fun i j hi hj => gain_bd (hok _ (List.mem_of_getElem? (chN hi))) (hok _ (List.mem_of_getElem? (chN hj)))
  have g0 : ∀ i, gN l i i = 0 := fun i => by unfold gN gainC; omega
  obtain ⟨b, d', r1, r2, r3, r4⟩ := fw2 σ l.length hl n (gN l) l.length 0 (by omega) d (gN l) q1 (fun i j hi hj => by have := gb i j hi hj; simp only [fwB]; omega) (Tri.zero _ _) (fun i _ => by rw [g0]; omega) (fun i j _ _ => Int.le_refl _)
  have hK : l.length * fwK l.length ≤ 14 * 241 := by
    refine Nat.mul_le_mul hl ?_
    unfold fwK
    have : l.length * (l.length + 2) ≤ 14 * (14 + 2) := Nat.mul_le_mul hl (by omega)
    omega
  have hK2 : l.length * (l.length + 2) ≤ 14 * 16 := Nat.mul_le_mul hl (by omega)
  refine ⟨b, d', ?_, ⟨r2, fun ⟨π, hπ⟩ => r3 π (fun i j hi hj => hπ i j hi hj)⟩, r4⟩
  have q2 := q2 (n - l.length * (l.length + 2) - 1)
  have r1 := r1 (n - l.length * (l.length + 2) - 1 - l.length * fwK l.length - 1)
  rw [show n - l.length * (l.length + 2) - 1 - l.length * fwK l.length - 1 + l.length * fwK l.length + 1 = n - l.length * (l.length + 2) - 1 by omega] at r1
  rw [show n - l.length * (l.length + 2) - 1 + l.length * (l.length + 2) + 1 = n by omega] at q2
  simp only [evalF, tab_saleroomref36_Shortest, Option.bind_some, Sys.run]
  show ((bindPs [.sh (.one _)] _).bind _) = _
  simp -implicitDefEqProofs only [bindPs, bind1, bindK, Option.map_some, Option.bind_some, List.append_nil, List.nil_append, List.cons_append, if_true, p3]
  show (PT.ev _ saleroomref36_Shortest_s _).bind _ = _
  simp -implicitDefEqProofs only [saleroomref36_Shortest_s, ↓reduceIte,eq_self,JF,JG,JH,JI,JJ,JK,JL,JM,JN,JO,JP,JQ,JR,JS,JT,JU,JV,JW,JX,JY,J2,J3,J4,J5,J6,J7,J8,J9,Ja,Jb,Jc,Jd,Je,Jf,Jg,Jh,Nat.reduceAdd,Ji,if_true,if_false,Jl,Jm,Jn,Jo,Jp,Jq,Jr,Js,Jt,Ju,Jv,Jw,Jx,Jy,Jz,JA,JB,JC,JD,JE, p1, p2]
  have e0 : σ ++ List.map cells [] = σ := by simp
  rw [e0] at q2
  exact q2.trans r1
end Go.Proofs.Ythjahianafohjaa
set_option maxRecDepth 100000
namespace Go.Proofs.Ythjahianafohjaa
open Go.Sx Go.Fw
/-- Values within bounds. -/
def Bnd (ws : List Int) (N : Nat) (lo hi : Int) : Prop := ws.length = N ∧ ∀ j, j < N → lo ≤ at' ws j ∧ at' ws j ≤ hi
theorem Bnd.set {ws : List Int} {N : Nat} {lo hi z : Int} (h : Bnd ws N lo hi) (j : Nat) (hj : j < N) (h1 : lo ≤ z) (h2 : z ≤ hi) : Bnd (ws.set j z) N lo hi := by
  refine ⟨by simpa using h.1, fun i hi' => ?_⟩
  rw [at'_set _ (by have := h.1; omega)]
  split
  · exact ⟨h1, h2⟩
  · exact h.2 i hi'
theorem Bnd.mono {ws : List Int} {N : Nat} {lo hi lo' hi' : Int} (h : Bnd ws N lo hi) (h1 : lo' ≤ lo) (h2 : hi ≤ hi') : Bnd ws N lo' hi' :=
  ⟨h.1, fun j hj => by have := h.2 j hj; omega⟩
def ckS (σ M : List MO) (ws : List Int) (is : List Int) (bs : List Bool) (vs : List PV) : PEnv := { i := is, b := bs, v := vs, m := M ++ [cells ws], k := σ.length }
section
variable (σ : List MO) (l : List Ch) (P : PV) (hP : P.rowsOf 12 = some (l.map Ch.row)) (hok : ∀ x ∈ l, x.ok) (hl : l.length ≤ 14) (n : Nat) (d : List (List Int)) (M : List MO) (hMd : M = σ ++ d.map cells)
include hP hl hMd in
theorem ck1 {F : Nat → Nat → Int} (hd : MatOf d l.length F) (hb : ∀ i j, i < l.length → j < l.length → -393216000000 ≤ F i j ∧ F i j ≤ 24000000) {j : Nat} (hj : j < l.length) : ∀ e i, i + e = l.length → ∀ ws, Bnd ws l.length (-393216000000) 0 →
    ∃ ws', Bnd ws' l.length (-393216000000) 0 ∧ ∀ fuel, saleroomref36_Check_S.loop (evalF Tab n) (fuel + e + 1) 1 (ckS σ M ws [(j : Int), (i : Int)] [] [P, dsl σ.length l.length l.length, .msl M.length 0 l.length l.length 1]) =
      saleroomref36_Check_S.loop (evalF Tab n) fuel 0 (ckS σ M ws' [((j + 1 : Nat) : Int)] [] [P, dsl σ.length l.length l.length, .msl M.length 0 l.length l.length 1]) := by
  obtain ⟨p1, p2, p3⟩ := rows_len hP
  rw [List.length_map] at p1
  intro e
  induction e with
  | zero =>
    intro i hi ws hw
    rw [Nat.add_zero] at hi; subst hi
    refine ⟨ws, hw, fun fuel => ?_⟩
    have hd : decide (l.length < l.length) = false := by simp
    have hup := up_ok (show j ≤ 1000000000 by omega)
    rw [nat_succ j, Sys.loop, show saleroomref36_Check_S.loops[1]? = some saleroomref36_Check_t1 from rfl, Option.bind_some]
    simp -implicitDefEqProofs only [saleroomref36_Check_t1, ↓reduceIte,eq_self,JF,JG,JH,JI,JJ,JK,JL,JM,JN,JO,JP,JQ,JR,JS,JT,JU,JV,JW,JX,JY,J2,J3,J4,J5,J6,J7,J8,J9,Ja,Jb,Jc,Jd,Je,Jf,Jg,Jh,Nat.reduceAdd,Ji,if_true,if_false,Jl,Jm,Jn,Jo,Jp,Jq,Jr,Js,Jt,Ju,Jv,Jw,Jx,Jy,Jz,JA,JB,JC,JD,JE, ckS, p1, p2, ltB_nat, hd, if_pos hup]
  | succ e ih =>
    intro i hi ws hw
    have hil : i < l.length := by omega
    obtain ⟨ri, hri, hril, hriv⟩ := hd.2 i hil
    have bF := hb i j hil hj
    have bw := hw.2 j hj
    obtain ⟨ws', q1, q2⟩ := ih (i + 1) (by omega) (ws.set j (mnI (at' ws j) (F i j))) (hw.set j hj (by unfold mnI; split <;> omega) (by unfold mnI; split <;> omega))
    refine ⟨ws', q1, fun fuel => ?_⟩
    have q2 := q2 fuel
    rw [nat_succ i] at q2
    rw [← q2, show fuel + (e + 1) + 1 = (fuel + e + 1) + 1 from rfl]
    have hD := dsl_rows σ.length l.length l.length
    obtain ⟨z1, z2, z3⟩ := rows_len hD
    rw [drows_len] at z1
    have gi := rows_get (off := 0) hD (drows_get (b := σ.length) (N := l.length) hil)
    have di : decide (i < l.length) = true := decide_eq_true hil
    have dj : decide (j < l.length) = true := decide_eq_true hj
    have mi : (M ++ [cells ws])[σ.length + i]? = some (cells ri) := get_old (by rw [hMd]; exact mem_get σ d hri)
    have mw := get_0 M (cells ws) []
    have sw := fun X => set_0 M (cells ws) X []
    have eij := locEl_msl (h := σ.length + i) (o := 0) (cap := l.length) (sz := 1) (off := 0) hj
    have ewj := locEl_msl (h := M.length) (o := 0) (cap := l.length) (sz := 1) (off := 0) hj
    have hwl := hw.1
    have d1 := icell_drop (at'_get (l := ri) (i := j) (by omega))
    have d2 := icell_drop (at'_get (l := ws) (i := j) (by omega))
    rw [hriv j hj] at d1
    have sv := icell_set (l := ws) (i := j) (mnI (at' ws j) (F i j)) (by omega)
    have lv : j + 1 ≤ (icell ws).length := by rw [icell_len]; omega
    have hup := up_ok (show i ≤ 1000000000 by omega)
    have E : PT.ev (evalF Tab n) saleroomref36_Check_t1 (ckS σ M ws [(j : Int), (i : Int)] [] [P, dsl σ.length l.length l.length, .msl M.length 0 l.length l.length 1]) = some (.jump 1 (ckS σ M (ws.set j (mnI (at' ws j) (F i j))) [(j : Int), (i : Int) + 1] [] [P, dsl σ.length l.length l.length, .msl M.length 0 l.length l.length 1])) := by
      unfold ckS
      simp only [cells] at mi mw sw ⊢
      generalize dsl σ.length l.length l.length = D at *
      simp -implicitDefEqProofs only [saleroomref36_Check_t1, ↓reduceIte,eq_self,JF,JG,JH,JI,JJ,JK,JL,JM,JN,JO,JP,JQ,JR,JS,JT,JU,JV,JW,JX,JY,J2,J3,J4,J5,J6,J7,J8,J9,Ja,Jb,Jc,Jd,Je,Jf,Jg,Jh,Nat.reduceAdd,Ji,if_true,if_false,Jl,Jm,Jn,Jo,Jp,Jq,Jr,Js,Jt,Ju,Jv,Jw,Jx,Jy,Jz,JA,JB,JC,JD,JE, p1, p2, z1, ltB_nat, di, dj, le0, gi, one_msl, lenM]
      repeat' (first
        | with_reducible rfl
        | apply ev_both
        | (unfold saleroomref36_Check_t1_b1; simp -implicitDefEqProofs only [↓reduceIte,eq_self,JF,JG,JH,JI,JJ,JK,JL,JM,JN,JO,JP,JQ,JR,JS,JT,JU,JV,JW,JX,JY,J2,J3,J4,J5,J6,J7,J8,J9,Ja,Jb,Jc,Jd,Je,Jf,Jg,Jh,Nat.reduceAdd,Ji,if_true,if_false,Jl,Jm,Jn,Jo,Jp,Jq,Jr,Js,Jt,Ju,Jv,Jw,Jx,Jy,Jz,JA,JB,JC,JD,JE, lenM, ltB_nat, dj, le0, eij, ewj, mi, mw, sw, MO.list, Nat.mul_one, Nat.zero_add, d1, d2, Nat.le_add_left, lv, sv, if_pos hup]; done)
        | (unfold saleroomref36_Check_t1_b1; simp -implicitDefEqProofs only [↓reduceIte,eq_self,JF,JG,JH,JI,JJ,JK,JL,JM,JN,JO,JP,JQ,JR,JS,JT,JU,JV,JW,JX,JY,J2,J3,J4,J5,J6,J7,J8,J9,Ja,Jb,Jc,Jd,Je,Jf,Jg,Jh,Nat.reduceAdd,Ji,if_true,if_false,Jl,Jm,Jn,Jo,Jp,Jq,Jr,Js,Jt,Ju,Jv,Jw,Jx,Jy,Jz,JA,JB,JC,JD,JE, lenM, ltB_nat, dj, le0, eij, ewj, mi, mw, sw, MO.list, Nat.mul_one, Nat.zero_add, d1, d2, Nat.le_add_left, lv, sv, if_pos hup])
        | (unfold saleroomref36_Check_t1_b2; simp -implicitDefEqProofs only [↓reduceIte,eq_self,JF,JG,JH,JI,JJ,JK,JL,JM,JN,JO,JP,JQ,JR,JS,JT,JU,JV,JW,JX,JY,J2,J3,J4,J5,J6,J7,J8,J9,Ja,Jb,Jc,Jd,Je,Jf,Jg,Jh,Nat.reduceAdd,Ji,if_true,if_false,Jl,Jm,Jn,Jo,Jp,Jq,Jr,Js,Jt,Ju,Jv,Jw,Jx,Jy,Jz,JA,JB,JC,JD,JE, lenM, ltB_nat, dj, le0, eij, ewj, mi, mw, sw, MO.list, Nat.mul_one, Nat.zero_add, d1, d2, Nat.le_add_left, lv, sv, if_pos hup]; done)
        | (unfold saleroomref36_Check_t1_b2; simp -implicitDefEqProofs only [↓reduceIte,eq_self,JF,JG,JH,JI,JJ,JK,JL,JM,JN,JO,JP,JQ,JR,JS,JT,JU,JV,JW,JX,JY,J2,J3,J4,J5,J6,J7,J8,J9,Ja,Jb,Jc,Jd,Je,Jf,Jg,Jh,Nat.reduceAdd,Ji,if_true,if_false,Jl,Jm,Jn,Jo,Jp,Jq,Jr,Js,Jt,Ju,Jv,Jw,Jx,Jy,Jz,JA,JB,JC,JD,JE, lenM, ltB_nat, dj, le0, eij, ewj, mi, mw, sw, MO.list, Nat.mul_one, Nat.zero_add, d1, d2, Nat.le_add_left, lv, sv, if_pos hup])
        | (unfold saleroomref36_Check_t1_b3; simp -implicitDefEqProofs only [↓reduceIte,eq_self,JF,JG,JH,JI,JJ,JK,JL,JM,JN,JO,JP,JQ,JR,JS,JT,JU,JV,JW,JX,JY,J2,J3,J4,J5,J6,J7,J8,J9,Ja,Jb,Jc,Jd,Je,Jf,Jg,Jh,Nat.reduceAdd,Ji,if_true,if_false,Jl,Jm,Jn,Jo,Jp,Jq,Jr,Js,Jt,Ju,Jv,Jw,Jx,Jy,Jz,JA,JB,JC,JD,JE, lenM, ltB_nat, dj, le0, eij, ewj, mi, mw, sw, MO.list, Nat.mul_one, Nat.zero_add, d1, d2, Nat.le_add_left, lv, sv, if_pos hup]; done)
        | (unfold saleroomref36_Check_t1_b3; simp -implicitDefEqProofs only [↓reduceIte,eq_self,JF,JG,JH,JI,JJ,JK,JL,JM,JN,JO,JP,JQ,JR,JS,JT,JU,JV,JW,JX,JY,J2,J3,J4,J5,J6,J7,J8,J9,Ja,Jb,Jc,Jd,Je,Jf,Jg,Jh,Nat.reduceAdd,Ji,if_true,if_false,Jl,Jm,Jn,Jo,Jp,Jq,Jr,Js,Jt,Ju,Jv,Jw,Jx,Jy,Jz,JA,JB,JC,JD,JE, lenM, ltB_nat, dj, le0, eij, ewj, mi, mw, sw, MO.list, Nat.mul_one, Nat.zero_add, d1, d2, Nat.le_add_left, lv, sv, if_pos hup])
        | (unfold saleroomref36_Check_t1_b4; simp -implicitDefEqProofs only [↓reduceIte,eq_self,JF,JG,JH,JI,JJ,JK,JL,JM,JN,JO,JP,JQ,JR,JS,JT,JU,JV,JW,JX,JY,J2,J3,J4,J5,J6,J7,J8,J9,Ja,Jb,Jc,Jd,Je,Jf,Jg,Jh,Nat.reduceAdd,Ji,if_true,if_false,Jl,Jm,Jn,Jo,Jp,Jq,Jr,Js,Jt,Ju,Jv,Jw,Jx,Jy,Jz,JA,JB,JC,JD,JE, lenM, ltB_nat, dj, le0, eij, ewj, mi, mw, sw, MO.list, Nat.mul_one, Nat.zero_add, d1, d2, Nat.le_add_left, lv, sv, if_pos hup]; done)
        | (unfold saleroomref36_Check_t1_b4; simp -implicitDefEqProofs only [↓reduceIte,eq_self,JF,JG,JH,JI,JJ,JK,JL,JM,JN,JO,JP,JQ,JR,JS,JT,JU,JV,JW,JX,JY,J2,J3,J4,J5,J6,J7,J8,J9,Ja,Jb,Jc,Jd,Je,Jf,Jg,Jh,Nat.reduceAdd,Ji,if_true,if_false,Jl,Jm,Jn,Jo,Jp,Jq,Jr,Js,Jt,Ju,Jv,Jw,Jx,Jy,Jz,JA,JB,JC,JD,JE, lenM, ltB_nat, dj, le0, eij, ewj, mi, mw, sw, MO.list, Nat.mul_one, Nat.zero_add, d1, d2, Nat.le_add_left, lv, sv, if_pos hup])
        | (unfold saleroomref36_Check_t1_b5; simp -implicitDefEqProofs only [↓reduceIte,eq_self,JF,JG,JH,JI,JJ,JK,JL,JM,JN,JO,JP,JQ,JR,JS,JT,JU,JV,JW,JX,JY,J2,J3,J4,J5,J6,J7,J8,J9,Ja,Jb,Jc,Jd,Je,Jf,Jg,Jh,Nat.reduceAdd,Ji,if_true,if_false,Jl,Jm,Jn,Jo,Jp,Jq,Jr,Js,Jt,Ju,Jv,Jw,Jx,Jy,Jz,JA,JB,JC,JD,JE, lenM, ltB_nat, dj, le0, eij, ewj, mi, mw, sw, MO.list, Nat.mul_one, Nat.zero_add, d1, d2, Nat.le_add_left, lv, sv, if_pos hup]; done)
        | (unfold saleroomref36_Check_t1_b5; simp -implicitDefEqProofs only [↓reduceIte,eq_self,JF,JG,JH,JI,JJ,JK,JL,JM,JN,JO,JP,JQ,JR,JS,JT,JU,JV,JW,JX,JY,J2,J3,J4,J5,J6,J7,J8,J9,Ja,Jb,Jc,Jd,Je,Jf,Jg,Jh,Nat.reduceAdd,Ji,if_true,if_false,Jl,Jm,Jn,Jo,Jp,Jq,Jr,Js,Jt,Ju,Jv,Jw,Jx,Jy,Jz,JA,JB,JC,JD,JE, lenM, ltB_nat, dj, le0, eij, ewj, mi, mw, sw, MO.list, Nat.mul_one, Nat.zero_add, d1, d2, Nat.le_add_left, lv, sv, if_pos hup])
        | (unfold saleroomref36_Check_t1_b6; simp -implicitDefEqProofs only [↓reduceIte,eq_self,JF,JG,JH,JI,JJ,JK,JL,JM,JN,JO,JP,JQ,JR,JS,JT,JU,JV,JW,JX,JY,J2,J3,J4,J5,J6,J7,J8,J9,Ja,Jb,Jc,Jd,Je,Jf,Jg,Jh,Nat.reduceAdd,Ji,if_true,if_false,Jl,Jm,Jn,Jo,Jp,Jq,Jr,Js,Jt,Ju,Jv,Jw,Jx,Jy,Jz,JA,JB,JC,JD,JE, lenM, ltB_nat, dj, le0, eij, ewj, mi, mw, sw, MO.list, Nat.mul_one, Nat.zero_add, d1, d2, Nat.le_add_left, lv, sv, if_pos hup]; done)
        | (unfold saleroomref36_Check_t1_b6; simp -implicitDefEqProofs only [↓reduceIte,eq_self,JF,JG,JH,JI,JJ,JK,JL,JM,JN,JO,JP,JQ,JR,JS,JT,JU,JV,JW,JX,JY,J2,J3,J4,J5,J6,J7,J8,J9,Ja,Jb,Jc,Jd,Je,Jf,Jg,Jh,Nat.reduceAdd,Ji,if_true,if_false,Jl,Jm,Jn,Jo,Jp,Jq,Jr,Js,Jt,Ju,Jv,Jw,Jx,Jy,Jz,JA,JB,JC,JD,JE, lenM, ltB_nat, dj, le0, eij, ewj, mi, mw, sw, MO.list, Nat.mul_one, Nat.zero_add, d1, d2, Nat.le_add_left, lv, sv, if_pos hup])
        | (unfold saleroomref36_Check_t1_b7; simp -implicitDefEqProofs only [↓reduceIte,eq_self,JF,JG,JH,JI,JJ,JK,JL,JM,JN,JO,JP,JQ,JR,JS,JT,JU,JV,JW,JX,JY,J2,J3,J4,J5,J6,J7,J8,J9,Ja,Jb,Jc,Jd,Je,Jf,Jg,Jh,Nat.reduceAdd,Ji,if_true,if_false,Jl,Jm,Jn,Jo,Jp,Jq,Jr,Js,Jt,Ju,Jv,Jw,Jx,Jy,Jz,JA,JB,JC,JD,JE, lenM, ltB_nat, dj, le0, eij, ewj, mi, mw, sw, MO.list, Nat.mul_one, Nat.zero_add, d1, d2, Nat.le_add_left, lv, sv, if_pos hup]; done)
        | (unfold saleroomref36_Check_t1_b7; simp -implicitDefEqProofs only [↓reduceIte,eq_self,JF,JG,JH,JI,JJ,JK,JL,JM,JN,JO,JP,JQ,JR,JS,JT,JU,JV,JW,JX,JY,J2,J3,J4,J5,J6,J7,J8,J9,Ja,Jb,Jc,Jd,Je,Jf,Jg,Jh,Nat.reduceAdd,Ji,if_true,if_false,Jl,Jm,Jn,Jo,Jp,Jq,Jr,Js,Jt,Ju,Jv,Jw,Jx,Jy,Jz,JA,JB,JC,JD,JE, lenM, ltB_nat, dj, le0, eij, ewj, mi, mw, sw, MO.list, Nat.mul_one, Nat.zero_add, d1, d2, Nat.le_add_left, lv, sv, if_pos hup])
        | (unfold saleroomref36_Check_t1_b8; simp -implicitDefEqProofs only [↓reduceIte,eq_self,JF,JG,JH,JI,JJ,JK,JL,JM,JN,JO,JP,JQ,JR,JS,JT,JU,JV,JW,JX,JY,J2,J3,J4,J5,J6,J7,J8,J9,Ja,Jb,Jc,Jd,Je,Jf,Jg,Jh,Nat.reduceAdd,Ji,if_true,if_false,Jl,Jm,Jn,Jo,Jp,Jq,Jr,Js,Jt,Ju,Jv,Jw,Jx,Jy,Jz,JA,JB,JC,JD,JE, lenM, ltB_nat, dj, le0, eij, ewj, mi, mw, sw, MO.list, Nat.mul_one, Nat.zero_add, d1, d2, Nat.le_add_left, lv, sv, if_pos hup]; done)
        | (unfold saleroomref36_Check_t1_b8; simp -implicitDefEqProofs only [↓reduceIte,eq_self,JF,JG,JH,JI,JJ,JK,JL,JM,JN,JO,JP,JQ,JR,JS,JT,JU,JV,JW,JX,JY,J2,J3,J4,J5,J6,J7,J8,J9,Ja,Jb,Jc,Jd,Je,Jf,Jg,Jh,Nat.reduceAdd,Ji,if_true,if_false,Jl,Jm,Jn,Jo,Jp,Jq,Jr,Js,Jt,Ju,Jv,Jw,Jx,Jy,Jz,JA,JB,JC,JD,JE, lenM, ltB_nat, dj, le0, eij, ewj, mi, mw, sw, MO.list, Nat.mul_one, Nat.zero_add, d1, d2, Nat.le_add_left, lv, sv, if_pos hup])
        | (unfold saleroomref36_Check_t1_b9; simp -implicitDefEqProofs only [↓reduceIte,eq_self,JF,JG,JH,JI,JJ,JK,JL,JM,JN,JO,JP,JQ,JR,JS,JT,JU,JV,JW,JX,JY,J2,J3,J4,J5,J6,J7,J8,J9,Ja,Jb,Jc,Jd,Je,Jf,Jg,Jh,Nat.reduceAdd,Ji,if_true,if_false,Jl,Jm,Jn,Jo,Jp,Jq,Jr,Js,Jt,Ju,Jv,Jw,Jx,Jy,Jz,JA,JB,JC,JD,JE, lenM, ltB_nat, dj, le0, eij, ewj, mi, mw, sw, MO.list, Nat.mul_one, Nat.zero_add, d1, d2, Nat.le_add_left, lv, sv, if_pos hup]; done)
        | (unfold saleroomref36_Check_t1_b9; simp -implicitDefEqProofs only [↓reduceIte,eq_self,JF,JG,JH,JI,JJ,JK,JL,JM,JN,JO,JP,JQ,JR,JS,JT,JU,JV,JW,JX,JY,J2,J3,J4,J5,J6,J7,J8,J9,Ja,Jb,Jc,Jd,Je,Jf,Jg,Jh,Nat.reduceAdd,Ji,if_true,if_false,Jl,Jm,Jn,Jo,Jp,Jq,Jr,Js,Jt,Ju,Jv,Jw,Jx,Jy,Jz,JA,JB,JC,JD,JE, lenM, ltB_nat, dj, le0, eij, ewj, mi, mw, sw, MO.list, Nat.mul_one, Nat.zero_add, d1, d2, Nat.le_add_left, lv, sv, if_pos hup])
        | (unfold saleroomref36_Check_t1_b10; simp -implicitDefEqProofs only [↓reduceIte,eq_self,JF,JG,JH,JI,JJ,JK,JL,JM,JN,JO,JP,JQ,JR,JS,JT,JU,JV,JW,JX,JY,J2,J3,J4,J5,J6,J7,J8,J9,Ja,Jb,Jc,Jd,Je,Jf,Jg,Jh,Nat.reduceAdd,Ji,if_true,if_false,Jl,Jm,Jn,Jo,Jp,Jq,Jr,Js,Jt,Ju,Jv,Jw,Jx,Jy,Jz,JA,JB,JC,JD,JE, lenM, ltB_nat, dj, le0, eij, ewj, mi, mw, sw, MO.list, Nat.mul_one, Nat.zero_add, d1, d2, Nat.le_add_left, lv, sv, if_pos hup]; done)
        | (unfold saleroomref36_Check_t1_b10; simp -implicitDefEqProofs only [↓reduceIte,eq_self,JF,JG,JH,JI,JJ,JK,JL,JM,JN,JO,JP,JQ,JR,JS,JT,JU,JV,JW,JX,JY,J2,J3,J4,J5,J6,J7,J8,J9,Ja,Jb,Jc,Jd,Je,Jf,Jg,Jh,Nat.reduceAdd,Ji,if_true,if_false,Jl,Jm,Jn,Jo,Jp,Jq,Jr,Js,Jt,Ju,Jv,Jw,Jx,Jy,Jz,JA,JB,JC,JD,JE, lenM, ltB_nat, dj, le0, eij, ewj, mi, mw, sw, MO.list, Nat.mul_one, Nat.zero_add, d1, d2, Nat.le_add_left, lv, sv, if_pos hup])
        | (unfold saleroomref36_Check_t1_b11; simp -implicitDefEqProofs only [↓reduceIte,eq_self,JF,JG,JH,JI,JJ,JK,JL,JM,JN,JO,JP,JQ,JR,JS,JT,JU,JV,JW,JX,JY,J2,J3,J4,J5,J6,J7,J8,J9,Ja,Jb,Jc,Jd,Je,Jf,Jg,Jh,Nat.reduceAdd,Ji,if_true,if_false,Jl,Jm,Jn,Jo,Jp,Jq,Jr,Js,Jt,Ju,Jv,Jw,Jx,Jy,Jz,JA,JB,JC,JD,JE, lenM, ltB_nat, dj, le0, eij, ewj, mi, mw, sw, MO.list, Nat.mul_one, Nat.zero_add, d1, d2, Nat.le_add_left, lv, sv, if_pos hup]; done)
        | (unfold saleroomref36_Check_t1_b11; simp -implicitDefEqProofs only [↓reduceIte,eq_self,JF,JG,JH,JI,JJ,JK,JL,JM,JN,JO,JP,JQ,JR,JS,JT,JU,JV,JW,JX,JY,J2,J3,J4,J5,J6,J7,J8,J9,Ja,Jb,Jc,Jd,Je,Jf,Jg,Jh,Nat.reduceAdd,Ji,if_true,if_false,Jl,Jm,Jn,Jo,Jp,Jq,Jr,Js,Jt,Ju,Jv,Jw,Jx,Jy,Jz,JA,JB,JC,JD,JE, lenM, ltB_nat, dj, le0, eij, ewj, mi, mw, sw, MO.list, Nat.mul_one, Nat.zero_add, d1, d2, Nat.le_add_left, lv, sv, if_pos hup])
        | (unfold saleroomref36_Check_t1_b12; simp -implicitDefEqProofs only [↓reduceIte,eq_self,JF,JG,JH,JI,JJ,JK,JL,JM,JN,JO,JP,JQ,JR,JS,JT,JU,JV,JW,JX,JY,J2,J3,J4,J5,J6,J7,J8,J9,Ja,Jb,Jc,Jd,Je,Jf,Jg,Jh,Nat.reduceAdd,Ji,if_true,if_false,Jl,Jm,Jn,Jo,Jp,Jq,Jr,Js,Jt,Ju,Jv,Jw,Jx,Jy,Jz,JA,JB,JC,JD,JE, lenM, ltB_nat, dj, le0, eij, ewj, mi, mw, sw, MO.list, Nat.mul_one, Nat.zero_add, d1, d2, Nat.le_add_left, lv, sv, if_pos hup]; done)
        | (unfold saleroomref36_Check_t1_b12; simp -implicitDefEqProofs only [↓reduceIte,eq_self,JF,JG,JH,JI,JJ,JK,JL,JM,JN,JO,JP,JQ,JR,JS,JT,JU,JV,JW,JX,JY,J2,J3,J4,J5,J6,J7,J8,J9,Ja,Jb,Jc,Jd,Je,Jf,Jg,Jh,Nat.reduceAdd,Ji,if_true,if_false,Jl,Jm,Jn,Jo,Jp,Jq,Jr,Js,Jt,Ju,Jv,Jw,Jx,Jy,Jz,JA,JB,JC,JD,JE, lenM, ltB_nat, dj, le0, eij, ewj, mi, mw, sw, MO.list, Nat.mul_one, Nat.zero_add, d1, d2, Nat.le_add_left, lv, sv, if_pos hup])
        | (unfold saleroomref36_Check_t1_b13; simp -implicitDefEqProofs only [↓reduceIte,eq_self,JF,JG,JH,JI,JJ,JK,JL,JM,JN,JO,JP,JQ,JR,JS,JT,JU,JV,JW,JX,JY,J2,J3,J4,J5,J6,J7,J8,J9,Ja,Jb,Jc,Jd,Je,Jf,Jg,Jh,Nat.reduceAdd,Ji,if_true,if_false,Jl,Jm,Jn,Jo,Jp,Jq,Jr,Js,Jt,Ju,Jv,Jw,Jx,Jy,Jz,JA,JB,JC,JD,JE, lenM, ltB_nat, dj, le0, eij, ewj, mi, mw, sw, MO.list, Nat.mul_one, Nat.zero_add, d1, d2, Nat.le_add_left, lv, sv, if_pos hup]; done)
        | (unfold saleroomref36_Check_t1_b13; simp -implicitDefEqProofs only [↓reduceIte,eq_self,JF,JG,JH,JI,JJ,JK,JL,JM,JN,JO,JP,JQ,JR,JS,JT,JU,JV,JW,JX,JY,J2,J3,J4,J5,J6,J7,J8,J9,Ja,Jb,Jc,Jd,Je,Jf,Jg,Jh,Nat.reduceAdd,Ji,if_true,if_false,Jl,Jm,Jn,Jo,Jp,Jq,Jr,Js,Jt,Ju,Jv,Jw,Jx,Jy,Jz,JA,JB,JC,JD,JE, lenM, ltB_nat, dj, le0, eij, ewj, mi, mw, sw, MO.list, Nat.mul_one, Nat.zero_add, d1, d2, Nat.le_add_left, lv, sv, if_pos hup])
        | (unfold saleroomref36_Check_t1_b14; simp -implicitDefEqProofs only [↓reduceIte,eq_self,JF,JG,JH,JI,JJ,JK,JL,JM,JN,JO,JP,JQ,JR,JS,JT,JU,JV,JW,JX,JY,J2,J3,J4,J5,J6,J7,J8,J9,Ja,Jb,Jc,Jd,Je,Jf,Jg,Jh,Nat.reduceAdd,Ji,if_true,if_false,Jl,Jm,Jn,Jo,Jp,Jq,Jr,Js,Jt,Ju,Jv,Jw,Jx,Jy,Jz,JA,JB,JC,JD,JE, lenM, ltB_nat, dj, le0, eij, ewj, mi, mw, sw, MO.list, Nat.mul_one, Nat.zero_add, d1, d2, Nat.le_add_left, lv, sv, if_pos hup]; done)
        | (unfold saleroomref36_Check_t1_b14; simp -implicitDefEqProofs only [↓reduceIte,eq_self,JF,JG,JH,JI,JJ,JK,JL,JM,JN,JO,JP,JQ,JR,JS,JT,JU,JV,JW,JX,JY,J2,J3,J4,J5,J6,J7,J8,J9,Ja,Jb,Jc,Jd,Je,Jf,Jg,Jh,Nat.reduceAdd,Ji,if_true,if_false,Jl,Jm,Jn,Jo,Jp,Jq,Jr,Js,Jt,Ju,Jv,Jw,Jx,Jy,Jz,JA,JB,JC,JD,JE, lenM, ltB_nat, dj, le0, eij, ewj, mi, mw, sw, MO.list, Nat.mul_one, Nat.zero_add, d1, d2, Nat.le_add_left, lv, sv, if_pos hup])
        | (unfold saleroomref36_Check_t1_b15; simp -implicitDefEqProofs only [↓reduceIte,eq_self,JF,JG,JH,JI,JJ,JK,JL,JM,JN,JO,JP,JQ,JR,JS,JT,JU,JV,JW,JX,JY,J2,J3,J4,J5,J6,J7,J8,J9,Ja,Jb,Jc,Jd,Je,Jf,Jg,Jh,Nat.reduceAdd,Ji,if_true,if_false,Jl,Jm,Jn,Jo,Jp,Jq,Jr,Js,Jt,Ju,Jv,Jw,Jx,Jy,Jz,JA,JB,JC,JD,JE, lenM, ltB_nat, dj, le0, eij, ewj, mi, mw, sw, MO.list, Nat.mul_one, Nat.zero_add, d1, d2, Nat.le_add_left, lv, sv, if_pos hup]; done)
        | (unfold saleroomref36_Check_t1_b15; simp -implicitDefEqProofs only [↓reduceIte,eq_self,JF,JG,JH,JI,JJ,JK,JL,JM,JN,JO,JP,JQ,JR,JS,JT,JU,JV,JW,JX,JY,J2,J3,J4,J5,J6,J7,J8,J9,Ja,Jb,Jc,Jd,Je,Jf,Jg,Jh,Nat.reduceAdd,Ji,if_true,if_false,Jl,Jm,Jn,Jo,Jp,Jq,Jr,Js,Jt,Ju,Jv,Jw,Jx,Jy,Jz,JA,JB,JC,JD,JE, lenM, ltB_nat, dj, le0, eij, ewj, mi, mw, sw, MO.list, Nat.mul_one, Nat.zero_add, d1, d2, Nat.le_add_left, lv, sv, if_pos hup])
        | (unfold saleroomref36_Check_t1_b16; simp -implicitDefEqProofs only [↓reduceIte,eq_self,JF,JG,JH,JI,JJ,JK,JL,JM,JN,JO,JP,JQ,JR,JS,JT,JU,JV,JW,JX,JY,J2,J3,J4,J5,J6,J7,J8,J9,Ja,Jb,Jc,Jd,Je,Jf,Jg,Jh,Nat.reduceAdd,Ji,if_true,if_false,Jl,Jm,Jn,Jo,Jp,Jq,Jr,Js,Jt,Ju,Jv,Jw,Jx,Jy,Jz,JA,JB,JC,JD,JE, lenM, ltB_nat, dj, le0, eij, ewj, mi, mw, sw, MO.list, Nat.mul_one, Nat.zero_add, d1, d2, Nat.le_add_left, lv, sv, if_pos hup]; done)
        | (unfold saleroomref36_Check_t1_b16; simp -implicitDefEqProofs only [↓reduceIte,eq_self,JF,JG,JH,JI,JJ,JK,JL,JM,JN,JO,JP,JQ,JR,JS,JT,JU,JV,JW,JX,JY,J2,J3,J4,J5,J6,J7,J8,J9,Ja,Jb,Jc,Jd,Je,Jf,Jg,Jh,Nat.reduceAdd,Ji,if_true,if_false,Jl,Jm,Jn,Jo,Jp,Jq,Jr,Js,Jt,Ju,Jv,Jw,Jx,Jy,Jz,JA,JB,JC,JD,JE, lenM, ltB_nat, dj, le0, eij, ewj, mi, mw, sw, MO.list, Nat.mul_one, Nat.zero_add, d1, d2, Nat.le_add_left, lv, sv, if_pos hup])
        | (unfold saleroomref36_Check_t1_b17; simp -implicitDefEqProofs only [↓reduceIte,eq_self,JF,JG,JH,JI,JJ,JK,JL,JM,JN,JO,JP,JQ,JR,JS,JT,JU,JV,JW,JX,JY,J2,J3,J4,J5,J6,J7,J8,J9,Ja,Jb,Jc,Jd,Je,Jf,Jg,Jh,Nat.reduceAdd,Ji,if_true,if_false,Jl,Jm,Jn,Jo,Jp,Jq,Jr,Js,Jt,Ju,Jv,Jw,Jx,Jy,Jz,JA,JB,JC,JD,JE, lenM, ltB_nat, dj, le0, eij, ewj, mi, mw, sw, MO.list, Nat.mul_one, Nat.zero_add, d1, d2, Nat.le_add_left, lv, sv, if_pos hup]; done)
        | (unfold saleroomref36_Check_t1_b17; simp -implicitDefEqProofs only [↓reduceIte,eq_self,JF,JG,JH,JI,JJ,JK,JL,JM,JN,JO,JP,JQ,JR,JS,JT,JU,JV,JW,JX,JY,J2,J3,J4,J5,J6,J7,J8,J9,Ja,Jb,Jc,Jd,Je,Jf,Jg,Jh,Nat.reduceAdd,Ji,if_true,if_false,Jl,Jm,Jn,Jo,Jp,Jq,Jr,Js,Jt,Ju,Jv,Jw,Jx,Jy,Jz,JA,JB,JC,JD,JE, lenM, ltB_nat, dj, le0, eij, ewj, mi, mw, sw, MO.list, Nat.mul_one, Nat.zero_add, d1, d2, Nat.le_add_left, lv, sv, if_pos hup])
        | (unfold saleroomref36_Check_t1_b18; simp -implicitDefEqProofs only [↓reduceIte,eq_self,JF,JG,JH,JI,JJ,JK,JL,JM,JN,JO,JP,JQ,JR,JS,JT,JU,JV,JW,JX,JY,J2,J3,J4,J5,J6,J7,J8,J9,Ja,Jb,Jc,Jd,Je,Jf,Jg,Jh,Nat.reduceAdd,Ji,if_true,if_false,Jl,Jm,Jn,Jo,Jp,Jq,Jr,Js,Jt,Ju,Jv,Jw,Jx,Jy,Jz,JA,JB,JC,JD,JE, lenM, ltB_nat, dj, le0, eij, ewj, mi, mw, sw, MO.list, Nat.mul_one, Nat.zero_add, d1, d2, Nat.le_add_left, lv, sv, if_pos hup]; done)
        | (unfold saleroomref36_Check_t1_b18; simp -implicitDefEqProofs only [↓reduceIte,eq_self,JF,JG,JH,JI,JJ,JK,JL,JM,JN,JO,JP,JQ,JR,JS,JT,JU,JV,JW,JX,JY,J2,J3,J4,J5,J6,J7,J8,J9,Ja,Jb,Jc,Jd,Je,Jf,Jg,Jh,Nat.reduceAdd,Ji,if_true,if_false,Jl,Jm,Jn,Jo,Jp,Jq,Jr,Js,Jt,Ju,Jv,Jw,Jx,Jy,Jz,JA,JB,JC,JD,JE, lenM, ltB_nat, dj, le0, eij, ewj, mi, mw, sw, MO.list, Nat.mul_one, Nat.zero_add, d1, d2, Nat.le_add_left, lv, sv, if_pos hup])
        | (unfold saleroomref36_Check_t1_b19; simp -implicitDefEqProofs only [↓reduceIte,eq_self,JF,JG,JH,JI,JJ,JK,JL,JM,JN,JO,JP,JQ,JR,JS,JT,JU,JV,JW,JX,JY,J2,J3,J4,J5,J6,J7,J8,J9,Ja,Jb,Jc,Jd,Je,Jf,Jg,Jh,Nat.reduceAdd,Ji,if_true,if_false,Jl,Jm,Jn,Jo,Jp,Jq,Jr,Js,Jt,Ju,Jv,Jw,Jx,Jy,Jz,JA,JB,JC,JD,JE, lenM, ltB_nat, dj, le0, eij, ewj, mi, mw, sw, MO.list, Nat.mul_one, Nat.zero_add, d1, d2, Nat.le_add_left, lv, sv, if_pos hup]; done)
        | (unfold saleroomref36_Check_t1_b19; simp -implicitDefEqProofs only [↓reduceIte,eq_self,JF,JG,JH,JI,JJ,JK,JL,JM,JN,JO,JP,JQ,JR,JS,JT,JU,JV,JW,JX,JY,J2,J3,J4,J5,J6,J7,J8,J9,Ja,Jb,Jc,Jd,Je,Jf,Jg,Jh,Nat.reduceAdd,Ji,if_true,if_false,Jl,Jm,Jn,Jo,Jp,Jq,Jr,Js,Jt,Ju,Jv,Jw,Jx,Jy,Jz,JA,JB,JC,JD,JE, lenM, ltB_nat, dj, le0, eij, ewj, mi, mw, sw, MO.list, Nat.mul_one, Nat.zero_add, d1, d2, Nat.le_add_left, lv, sv, if_pos hup]))
    rw [Sys.loop, show saleroomref36_Check_S.loops[1]? = some saleroomref36_Check_t1 from rfl, Option.bind_some, E]
    rfl
include hP hl hMd in
theorem ck0 {F : Nat → Nat → Int} (hd : MatOf d l.length F) (hb : ∀ i j, i < l.length → j < l.length → -393216000000 ≤ F i j ∧ F i j ≤ 24000000) : ∀ e j, j + e = l.length → ∀ ws, Bnd ws l.length (-393216000000) 0 →
    ∃ ws', Bnd ws' l.length (-393216000000) 0 ∧ ∀ fuel, saleroomref36_Check_S.loop (evalF Tab n) (fuel + e * (l.length + 2) + 1) 0 (ckS σ M ws [(j : Int)] [] [P, dsl σ.length l.length l.length, .msl M.length 0 l.length l.length 1]) =
      saleroomref36_Check_S.loop (evalF Tab n) fuel 2 (ckS σ M ws' [0, 0] [false] [P, .msl M.length 0 l.length l.length 1]) := by
  obtain ⟨p1, p2, p3⟩ := rows_len hP
  rw [List.length_map] at p1
  intro e
  induction e with
  | zero =>
    intro j hj ws hw
    rw [Nat.add_zero] at hj; subst hj
    refine ⟨ws, hw, fun fuel => ?_⟩
    have hd : decide (l.length < l.length) = false := by simp
    rw [Nat.zero_mul, Nat.add_zero, Sys.loop, show saleroomref36_Check_S.loops[0]? = some saleroomref36_Check_t0 from rfl, Option.bind_some]
    simp -implicitDefEqProofs only [saleroomref36_Check_t0, ↓reduceIte,eq_self,JF,JG,JH,JI,JJ,JK,JL,JM,JN,JO,JP,JQ,JR,JS,JT,JU,JV,JW,JX,JY,J2,J3,J4,J5,J6,J7,J8,J9,Ja,Jb,Jc,Jd,Je,Jf,Jg,Jh,Nat.reduceAdd,Ji,if_true,if_false,Jl,Jm,Jn,Jo,Jp,Jq,Jr,Js,Jt,Ju,Jv,Jw,Jx,Jy,Jz,JA,JB,JC,JD,JE, ckS, p1, p2, ltB_nat, hd]
  | succ e ih =>
    intro j hj ws hw
    have hjl : j < l.length := by omega
    have dj : decide (j < l.length) = true := decide_eq_true hjl
    obtain ⟨w1, q1, q2⟩ := ck1 σ l P hP hl n d M hMd hd hb hjl l.length 0 (by omega) ws hw
    obtain ⟨w2, k1, k2⟩ := ih (j + 1) (by omega) w1 q1
    refine ⟨w2, k1, fun fuel => ?_⟩
    rw [show fuel + (e + 1) * (l.length + 2) + 1 = ((fuel + e * (l.length + 2) + 1) + l.length + 1) + 1 by rw [Nat.add_mul]; omega, ← k2, ← q2]
    rw [Sys.loop, show saleroomref36_Check_S.loops[0]? = some saleroomref36_Check_t0 from rfl, Option.bind_some]
    simp -implicitDefEqProofs only [saleroomref36_Check_t0, ↓reduceIte,eq_self,JF,JG,JH,JI,JJ,JK,JL,JM,JN,JO,JP,JQ,JR,JS,JT,JU,JV,JW,JX,JY,J2,J3,J4,J5,J6,J7,J8,J9,Ja,Jb,Jc,Jd,Je,Jf,Jg,Jh,Nat.reduceAdd,Ji,if_true,if_false,Jl,Jm,Jn,Jo,Jp,Jq,Jr,Js,Jt,Ju,Jv,Jw,Jx,Jy,Jz,JA,JB,JC,JD,JE, ckS, p1, p2, ltB_nat, dj]
    rfl
include hP hl in
theorem ck2 {ws : List Int} (hw : Bnd ws l.length (-393216000000) 0) : ∀ e j, j + e = l.length → ∀ (s : Int) (fx : Bool), 0 ≤ s → s ≤ 393240000000 →
    ∃ (s' : Int) (fx' : Bool), 0 ≤ s' ∧ s' ≤ 393240000000 ∧ ∀ fuel, saleroomref36_Check_S.loop (evalF Tab n) (fuel + e + 1) 2 (ckS σ M ws [s, (j : Int)] [fx] [P, .msl M.length 0 l.length l.length 1]) =
      saleroomref36_Check_S.loop (evalF Tab n) fuel 3 (ckS σ M ws [s', 0] [fx'] [P, .msl M.length 0 l.length l.length 1]) := by
  obtain ⟨p1, p2, p3⟩ := rows_len hP
  rw [List.length_map] at p1
  intro e
  induction e with
  | zero =>
    intro j hj s fx h1 h2
    rw [Nat.add_zero] at hj; subst hj
    refine ⟨s, fx, h1, h2, fun fuel => ?_⟩
    have hd : decide (l.length < l.length) = false := by simp
    rw [Nat.add_zero, Sys.loop, show saleroomref36_Check_S.loops[2]? = some saleroomref36_Check_t2 from rfl, Option.bind_some]
    simp -implicitDefEqProofs only [saleroomref36_Check_t2, ↓reduceIte,eq_self,JF,JG,JH,JI,JJ,JK,JL,JM,JN,JO,JP,JQ,JR,JS,JT,JU,JV,JW,JX,JY,J2,J3,J4,J5,J6,J7,J8,J9,Ja,Jb,Jc,Jd,Je,Jf,Jg,Jh,Nat.reduceAdd,Ji,if_true,if_false,Jl,Jm,Jn,Jo,Jp,Jq,Jr,Js,Jt,Ju,Jv,Jw,Jx,Jy,Jz,JA,JB,JC,JD,JE, ckS, p1, p2, ltB_nat, hd]
  | succ e ih =>
    intro j hj s fx h1 h2
    have hjl : j < l.length := by omega
    have dj : decide (j < l.length) = true := decide_eq_true hjl
    have hx := chN (l := l) hjl
    have h6 := rows_get (off := 6) hP (rows_chs hx)
    have bw := hw.2 j hjl
    have hwl := hw.1
    have mw := get_0 M (cells ws) []
    have ewj := locEl_msl (h := M.length) (o := 0) (cap := l.length) (sz := 1) (off := 0) hjl
    have d2 := icell_drop (at'_get (l := ws) (i := j) (by omega))
    have hup := up_ok (show j ≤ 1000000000 by omega)
    have o1 := i64_ok (z := 0 - at' ws j) (by omega)
    have hz : (eqB (chAt l (j : Int)).w.a 0 && (eqB (chAt l (j : Int)).w.b 0 && (eqB (chAt l (j : Int)).w.c 0 && (eqB (chAt l (j : Int)).w.d 0 && (eqB (chAt l (j : Int)).w.e 0 && eqB (chAt l (j : Int)).w.f 0))))) = (chAt l (j : Int)).w.isZ := rfl
    simp only [cells] at mw
    cases hzz : (chAt l (j : Int)).w.isZ with
    | true =>
      rw [hzz] at hz
      obtain ⟨s', fx', a1, a2, a3⟩ := ih (j + 1) (by omega) (0 - at' ws j) true (by omega) (by omega)
      refine ⟨s', fx', a1, a2, fun fuel => ?_⟩
      have a3 := a3 fuel
      rw [nat_succ j] at a3
      rw [← a3, show fuel + (e + 1) + 1 = (fuel + e + 1) + 1 from rfl, Sys.loop, show saleroomref36_Check_S.loops[2]? = some saleroomref36_Check_t2 from rfl, Option.bind_some]
      simp -implicitDefEqProofs only [saleroomref36_Check_t2, ↓reduceIte,eq_self,JF,JG,JH,JI,JJ,JK,JL,JM,JN,JO,JP,JQ,JR,JS,JT,JU,JV,JW,JX,JY,J2,J3,J4,J5,J6,J7,J8,J9,Ja,Jb,Jc,Jd,Je,Jf,Jg,Jh,Nat.reduceAdd,Ji,if_true,if_false,Jl,Jm,Jn,Jo,Jp,Jq,Jr,Js,Jt,Ju,Jv,Jw,Jx,Jy,Jz,JA,JB,JC,JD,JE, ckS, cells, p1, p2, ltB_nat, dj, le0, h6, row_eq, drop6, hz, lenM, ewj, mw, MO.list, Nat.mul_one, Nat.zero_add, d2, Nat.le_add_left, if_pos o1, if_pos hup]
    | false =>
      rw [hzz] at hz
      obtain ⟨s', fx', a1, a2, a3⟩ := ih (j + 1) (by omega) s fx h1 h2
      refine ⟨s', fx', a1, a2, fun fuel => ?_⟩
      have a3 := a3 fuel
      rw [nat_succ j] at a3
      rw [← a3, show fuel + (e + 1) + 1 = (fuel + e + 1) + 1 from rfl, Sys.loop, show saleroomref36_Check_S.loops[2]? = some saleroomref36_Check_t2 from rfl, Option.bind_some]
      simp -implicitDefEqProofs only [saleroomref36_Check_t2, ↓reduceIte,eq_self,JF,JG,JH,JI,JJ,JK,JL,JM,JN,JO,JP,JQ,JR,JS,JT,JU,JV,JW,JX,JY,J2,J3,J4,J5,J6,J7,J8,J9,Ja,Jb,Jc,Jd,Je,Jf,Jg,Jh,Nat.reduceAdd,Ji,if_true,if_false,Jl,Jm,Jn,Jo,Jp,Jq,Jr,Js,Jt,Ju,Jv,Jw,Jx,Jy,Jz,JA,JB,JC,JD,JE, ckS, cells, p1, p2, ltB_nat, dj, le0, h6, row_eq, drop6, hz, if_pos hup]
include hP hok hl in
theorem ck3 (hn : 3 ≤ n) {ws : List Int} (hw : Bnd ws l.length (-393216000000) 0) (fx : Bool) : ∀ e j, j + e = l.length → ∀ (s : Int), 0 ≤ s → s ≤ 393240000000 →
    ∃ (s' : Int) (m : Nat), 0 ≤ s' ∧ s' ≤ 393240000000 ∧ m ≤ e ∧ ∀ fuel, saleroomref36_Check_S.loop (evalF Tab n) (fuel + m + 1) 3 (ckS σ M ws [s, (j : Int)] [fx] [P, .msl M.length 0 l.length l.length 1]) =
      saleroomref36_Check_S.loop (evalF Tab n) fuel 4 (ckS σ M ws [s', 0] [] [P, .msl M.length 0 l.length l.length 1]) := by
  obtain ⟨p1, p2, p3⟩ := rows_len hP
  rw [List.length_map] at p1
  intro e
  induction e with
  | zero =>
    intro j hj s h1 h2
    rw [Nat.add_zero] at hj; subst hj
    refine ⟨s, 0, h1, h2, Nat.le_refl _, fun fuel => ?_⟩
    have hd : decide (l.length < l.length) = false := by simp
    rw [Nat.add_zero, Sys.loop, show saleroomref36_Check_S.loops[3]? = some saleroomref36_Check_t3 from rfl, Option.bind_some]
    simp -implicitDefEqProofs only [saleroomref36_Check_t3, ↓reduceIte,eq_self,JF,JG,JH,JI,JJ,JK,JL,JM,JN,JO,JP,JQ,JR,JS,JT,JU,JV,JW,JX,JY,J2,J3,J4,J5,J6,J7,J8,J9,Ja,Jb,Jc,Jd,Je,Jf,Jg,Jh,Nat.reduceAdd,Ji,if_true,if_false,Jl,Jm,Jn,Jo,Jp,Jq,Jr,Js,Jt,Ju,Jv,Jw,Jx,Jy,Jz,JA,JB,JC,JD,JE, ckS, p1, p2, ltB_nat, hd]
  | succ e ih =>
    intro j hj s h1 h2
    have hjl : j < l.length := by omega
    have dj : decide (j < l.length) = true := decide_eq_true hjl
    cases fx with
    | true =>
      refine ⟨s, 0, h1, h2, Nat.zero_le _, fun fuel => ?_⟩
      rw [Nat.add_zero, Sys.loop, show saleroomref36_Check_S.loops[3]? = some saleroomref36_Check_t3 from rfl, Option.bind_some]
      simp -implicitDefEqProofs only [saleroomref36_Check_t3, ↓reduceIte,eq_self,JF,JG,JH,JI,JJ,JK,JL,JM,JN,JO,JP,JQ,JR,JS,JT,JU,JV,JW,JX,JY,J2,J3,J4,J5,J6,J7,J8,J9,Ja,Jb,Jc,Jd,Je,Jf,Jg,Jh,Nat.reduceAdd,Ji,if_true,if_false,Jl,Jm,Jn,Jo,Jp,Jq,Jr,Js,Jt,Ju,Jv,Jw,Jx,Jy,Jz,JA,JB,JC,JD,JE, ckS, p1, p2, ltB_nat, dj]
    | false =>
    have hx := chN (l := l) hjl
    have hxo := hok _ (List.mem_of_getElem? hx)
    have h0 := rows_get (off := 0) hP (rows_chs hx)
    have h6 := rows_get (off := 6) hP (rows_chs hx)
    have bw := hw.2 j hjl
    have hwl := hw.1
    have mw := get_0 M (cells ws) []
    have ewj := locEl_msl (h := M.length) (o := 0) (cap := l.length) (sz := 1) (off := 0) hjl
    have d2 := icell_drop (at'_get (l := ws) (i := j) (by omega))
    have hup := up_ok (show j ≤ 1000000000 by omega)
    have c1 := rcost_sem (M ++ [cells ws]) (chAt l (j : Int)) hxo.1 (chAt l (j : Int)).w hxo.2 n (by omega)
    have b1 := cost_bd hxo.1 hxo.2
    have o1 := i64_ok (z := costW (chAt l (j : Int)).p (chAt l (j : Int)).w - at' ws j) (by omega)
    obtain ⟨s', m, a1, a2, a3, a4⟩ := ih (j + 1) (by omega) (mxI s (costW (chAt l (j : Int)).p (chAt l (j : Int)).w - at' ws j)) (by unfold mxI; split <;> omega) (by unfold mxI; split <;> omega)
    refine ⟨s', m + 1, a1, a2, by omega, fun fuel => ?_⟩
    have a4 := a4 fuel
    rw [nat_succ j] at a4
    simp only [cells] at mw c1
    simp only [n_saleroomref36_Cost, row_eq, W6.pv] at c1
    rw [← a4, show fuel + (m + 1) + 1 = (fuel + m + 1) + 1 from rfl, Sys.loop, show saleroomref36_Check_S.loops[3]? = some saleroomref36_Check_t3 from rfl, Option.bind_some]
    generalize costW (chAt l (j : Int)).p (chAt l (j : Int)).w = cc at *
    have E : PT.ev (evalF Tab n) saleroomref36_Check_t3 (ckS σ M ws [s, (j : Int)] [false] [P, .msl M.length 0 l.length l.length 1]) = some (.jump 3 (ckS σ M ws [mxI s (cc - at' ws j), (j : Int) + 1] [false] [P, .msl M.length 0 l.length l.length 1])) := by
      simp -implicitDefEqProofs only [saleroomref36_Check_t3, ↓reduceIte,eq_self,JF,JG,JH,JI,JJ,JK,JL,JM,JN,JO,JP,JQ,JR,JS,JT,JU,JV,JW,JX,JY,J2,J3,J4,J5,J6,J7,J8,J9,Ja,Jb,Jc,Jd,Je,Jf,Jg,Jh,Nat.reduceAdd,Ji,if_true,if_false,Jl,Jm,Jn,Jo,Jp,Jq,Jr,Js,Jt,Ju,Jv,Jw,Jx,Jy,Jz,JA,JB,JC,JD,JE, ckS, cells, p1, p2, ltB_nat, dj, le0, h0, h6, row_eq, drop6, lenM, Nat.reduceLeDiff]
      first
      | (simp -implicitDefEqProofs only [↓reduceIte,eq_self,JF,JG,JH,JI,JJ,JK,JL,JM,JN,JO,JP,JQ,JR,JS,JT,JU,JV,JW,JX,JY,J2,J3,J4,J5,J6,J7,J8,J9,Ja,Jb,Jc,Jd,Je,Jf,Jg,Jh,Nat.reduceAdd,Ji,if_true,if_false,Jl,Jm,Jn,Jo,Jp,Jq,Jr,Js,Jt,Ju,Jv,Jw,Jx,Jy,Jz,JA,JB,JC,JD,JE, ewj, mw, MO.list, Nat.mul_one, Nat.zero_add, d2, Nat.le_add_left, c1, if_pos o1, if_pos hup]; done)
      | skip
      repeat' (first
        | with_reducible rfl
        | apply ev_both
        | (unfold saleroomref36_Check_t3_b1; simp -implicitDefEqProofs only [↓reduceIte,eq_self,JF,JG,JH,JI,JJ,JK,JL,JM,JN,JO,JP,JQ,JR,JS,JT,JU,JV,JW,JX,JY,J2,J3,J4,J5,J6,J7,J8,J9,Ja,Jb,Jc,Jd,Je,Jf,Jg,Jh,Nat.reduceAdd,Ji,if_true,if_false,Jl,Jm,Jn,Jo,Jp,Jq,Jr,Js,Jt,Ju,Jv,Jw,Jx,Jy,Jz,JA,JB,JC,JD,JE, ewj, mw, MO.list, Nat.mul_one, Nat.zero_add, d2, Nat.le_add_left, c1, if_pos o1, if_pos hup]; done)
        | (unfold saleroomref36_Check_t3_b1; simp -implicitDefEqProofs only [↓reduceIte,eq_self,JF,JG,JH,JI,JJ,JK,JL,JM,JN,JO,JP,JQ,JR,JS,JT,JU,JV,JW,JX,JY,J2,J3,J4,J5,J6,J7,J8,J9,Ja,Jb,Jc,Jd,Je,Jf,Jg,Jh,Nat.reduceAdd,Ji,if_true,if_false,Jl,Jm,Jn,Jo,Jp,Jq,Jr,Js,Jt,Ju,Jv,Jw,Jx,Jy,Jz,JA,JB,JC,JD,JE, ewj, mw, MO.list, Nat.mul_one, Nat.zero_add, d2, Nat.le_add_left, c1, if_pos o1, if_pos hup])
        | (unfold saleroomref36_Check_t3_b2; simp -implicitDefEqProofs only [↓reduceIte,eq_self,JF,JG,JH,JI,JJ,JK,JL,JM,JN,JO,JP,JQ,JR,JS,JT,JU,JV,JW,JX,JY,J2,J3,J4,J5,J6,J7,J8,J9,Ja,Jb,Jc,Jd,Je,Jf,Jg,Jh,Nat.reduceAdd,Ji,if_true,if_false,Jl,Jm,Jn,Jo,Jp,Jq,Jr,Js,Jt,Ju,Jv,Jw,Jx,Jy,Jz,JA,JB,JC,JD,JE, ewj, mw, MO.list, Nat.mul_one, Nat.zero_add, d2, Nat.le_add_left, c1, if_pos o1, if_pos hup]; done)
        | (unfold saleroomref36_Check_t3_b2; simp -implicitDefEqProofs only [↓reduceIte,eq_self,JF,JG,JH,JI,JJ,JK,JL,JM,JN,JO,JP,JQ,JR,JS,JT,JU,JV,JW,JX,JY,J2,J3,J4,J5,J6,J7,J8,J9,Ja,Jb,Jc,Jd,Je,Jf,Jg,Jh,Nat.reduceAdd,Ji,if_true,if_false,Jl,Jm,Jn,Jo,Jp,Jq,Jr,Js,Jt,Ju,Jv,Jw,Jx,Jy,Jz,JA,JB,JC,JD,JE, ewj, mw, MO.list, Nat.mul_one, Nat.zero_add, d2, Nat.le_add_left, c1, if_pos o1, if_pos hup]))
    rw [E]
    rfl
include hP hl in
theorem ck4 (hσ : Flat σ) (hM : M.take σ.length = σ) (hMl : M.length = σ.length + l.length) {s : Int} (h1 : 0 ≤ s) (h2 : s ≤ 393240000000) : ∀ e j, j + e = l.length → ∀ ws, ws.length = l.length → (∀ i, i < j → -393216000000 ≤ at' ws i ∧ at' ws i ≤ 393240000000) → (∀ i, j ≤ i → i < l.length → -393216000000 ≤ at' ws i ∧ at' ws i ≤ 0) →
    ∃ ws' : List Int, ∀ fuel, saleroomref36_Check_S.loop (evalF Tab n) (fuel + e + 1) 4 (ckS σ M ws [s, (j : Int)] [] [P, .msl M.length 0 l.length l.length 1]) = some (.tup [.agg [.nilS, .sl 1 (irows ws')], .bool true], σ) := by
  obtain ⟨p1, p2, p3⟩ := rows_len hP
  rw [List.length_map] at p1
  intro e
  induction e with
  | zero =>
    intro j hj ws hw _ _
    rw [Nat.add_zero] at hj; subst hj
    refine ⟨ws, fun fuel => ?_⟩
    have hd : decide (l.length < l.length) = false := by simp
    have hm3 : (M ++ [cells ws]).length = M.length + 1 := by simp
    have g1 : ¬ (False ∨ M.length + 1 = σ.length) := by simp; omega
    have g2 : ¬ (M.length < σ.length) := by omega
    have tk : (M ++ [cells ws]).take σ.length = σ := by rw [List.take_append_of_le_length (by omega)]; exact hM
    have mw := get_0 M (cells ws) []
    have hr := rowsN_icell ws
    rw [hw] at hr
    rw [Nat.add_zero, Sys.loop, show saleroomref36_Check_S.loops[4]? = some saleroomref36_Check_t4 from rfl, Option.bind_some]
    simp only [cells] at hm3 tk mw
    simp -implicitDefEqProofs only [saleroomref36_Check_t4, ↓reduceIte,eq_self,JF,JG,JH,JI,JJ,JK,JL,JM,JN,JO,JP,JQ,JR,JS,JT,JU,JV,JW,JX,JY,J2,J3,J4,J5,J6,J7,J8,J9,Ja,Jb,Jc,Jd,Je,Jf,Jg,Jh,Nat.reduceAdd,Ji,if_true,if_false,Jl,Jm,Jn,Jo,Jp,Jq,Jr,Js,Jt,Ju,Jv,Jw,Jx,Jy,Jz,JA,JB,JC,JD,JE, ckS, cells, p1, p2, ltB_nat, hd, retP, hm3, if_neg g1, tk, hσ σ.length, PV.frz, PV.frzs, if_neg g2, lookF, mw, frzs_icell, MO.list, hr]
  | succ e ih =>
    intro j hj ws hw hlo hhi
    have hjl : j < l.length := by omega
    have dj : decide (j < l.length) = true := decide_eq_true hjl
    have bw := hhi j (Nat.le_refl _) hjl
    have mw := get_0 M (cells ws) []
    have sw := fun X => set_0 M (cells ws) X []
    have ewj := locEl_msl (h := M.length) (o := 0) (cap := l.length) (sz := 1) (off := 0) hjl
    have d2 := icell_drop (at'_get (l := ws) (i := j) (by omega))
    have sv := icell_set (l := ws) (i := j) (at' ws j + s) (by omega)
    have lv : j + 1 ≤ (icell ws).length := by rw [icell_len]; omega
    have hup := up_ok (show j ≤ 1000000000 by omega)
    have o1 := i64_ok (z := at' ws j + s) (by omega)
    obtain ⟨ws', a1⟩ := ih (j + 1) (by omega) (ws.set j (at' ws j + s)) (by simpa using hw) (fun i hi => by
        rw [at'_set _ (by omega)]
        split
        · omega
        · exact hlo i (by omega)) (fun i h1 h2 => by
        rw [at'_set _ (by omega), if_neg (by omega)]
        exact hhi i (by omega) h2)
    refine ⟨ws', fun fuel => ?_⟩
    have a1 := a1 fuel
    rw [nat_succ j] at a1
    rw [← a1, show fuel + (e + 1) + 1 = (fuel + e + 1) + 1 from rfl]
    have E : PT.ev (evalF Tab n) saleroomref36_Check_t4 (ckS σ M ws [s, (j : Int)] [] [P, .msl M.length 0 l.length l.length 1]) = some (.jump 4 (ckS σ M (ws.set j (at' ws j + s)) [s, (j : Int) + 1] [] [P, .msl M.length 0 l.length l.length 1])) := by
      unfold ckS
      simp only [cells] at mw sw ⊢
      simp -implicitDefEqProofs only [saleroomref36_Check_t4, ↓reduceIte,eq_self,JF,JG,JH,JI,JJ,JK,JL,JM,JN,JO,JP,JQ,JR,JS,JT,JU,JV,JW,JX,JY,J2,J3,J4,J5,J6,J7,J8,J9,Ja,Jb,Jc,Jd,Je,Jf,Jg,Jh,Nat.reduceAdd,Ji,if_true,if_false,Jl,Jm,Jn,Jo,Jp,Jq,Jr,Js,Jt,Ju,Jv,Jw,Jx,Jy,Jz,JA,JB,JC,JD,JE, p1, p2, ltB_nat, dj]
      first
      | (simp -implicitDefEqProofs only [↓reduceIte,eq_self,JF,JG,JH,JI,JJ,JK,JL,JM,JN,JO,JP,JQ,JR,JS,JT,JU,JV,JW,JX,JY,J2,J3,J4,J5,J6,J7,J8,J9,Ja,Jb,Jc,Jd,Je,Jf,Jg,Jh,Nat.reduceAdd,Ji,if_true,if_false,Jl,Jm,Jn,Jo,Jp,Jq,Jr,Js,Jt,Ju,Jv,Jw,Jx,Jy,Jz,JA,JB,JC,JD,JE, lenM, ltB_nat, dj, le0, ewj, mw, sw, MO.list, Nat.mul_one, Nat.zero_add, d2, Nat.le_add_left, if_pos o1, lv, sv, if_pos hup]; done)
      | skip
      repeat' (first
        | with_reducible rfl
        | apply ev_both
        | (unfold saleroomref36_Check_t4_b1; simp -implicitDefEqProofs only [↓reduceIte,eq_self,JF,JG,JH,JI,JJ,JK,JL,JM,JN,JO,JP,JQ,JR,JS,JT,JU,JV,JW,JX,JY,J2,J3,J4,J5,J6,J7,J8,J9,Ja,Jb,Jc,Jd,Je,Jf,Jg,Jh,Nat.reduceAdd,Ji,if_true,if_false,Jl,Jm,Jn,Jo,Jp,Jq,Jr,Js,Jt,Ju,Jv,Jw,Jx,Jy,Jz,JA,JB,JC,JD,JE, lenM, ltB_nat, dj, le0, ewj, mw, sw, MO.list, Nat.mul_one, Nat.zero_add, d2, Nat.le_add_left, if_pos o1, lv, sv, if_pos hup]; done)
        | (unfold saleroomref36_Check_t4_b1; simp -implicitDefEqProofs only [↓reduceIte,eq_self,JF,JG,JH,JI,JJ,JK,JL,JM,JN,JO,JP,JQ,JR,JS,JT,JU,JV,JW,JX,JY,J2,J3,J4,J5,J6,J7,J8,J9,Ja,Jb,Jc,Jd,Je,Jf,Jg,Jh,Nat.reduceAdd,Ji,if_true,if_false,Jl,Jm,Jn,Jo,Jp,Jq,Jr,Js,Jt,Ju,Jv,Jw,Jx,Jy,Jz,JA,JB,JC,JD,JE, lenM, ltB_nat, dj, le0, ewj, mw, sw, MO.list, Nat.mul_one, Nat.zero_add, d2, Nat.le_add_left, if_pos o1, lv, sv, if_pos hup])
        | (unfold saleroomref36_Check_t4_b2; simp -implicitDefEqProofs only [↓reduceIte,eq_self,JF,JG,JH,JI,JJ,JK,JL,JM,JN,JO,JP,JQ,JR,JS,JT,JU,JV,JW,JX,JY,J2,J3,J4,J5,J6,J7,J8,J9,Ja,Jb,Jc,Jd,Je,Jf,Jg,Jh,Nat.reduceAdd,Ji,if_true,if_false,Jl,Jm,Jn,Jo,Jp,Jq,Jr,Js,Jt,Ju,Jv,Jw,Jx,Jy,Jz,JA,JB,JC,JD,JE, lenM, ltB_nat, dj, le0, ewj, mw, sw, MO.list, Nat.mul_one, Nat.zero_add, d2, Nat.le_add_left, if_pos o1, lv, sv, if_pos hup]; done)
        | (unfold saleroomref36_Check_t4_b2; simp -implicitDefEqProofs only [↓reduceIte,eq_self,JF,JG,JH,JI,JJ,JK,JL,JM,JN,JO,JP,JQ,JR,JS,JT,JU,JV,JW,JX,JY,J2,J3,J4,J5,J6,J7,J8,J9,Ja,Jb,Jc,Jd,Je,Jf,Jg,Jh,Nat.reduceAdd,Ji,if_true,if_false,Jl,Jm,Jn,Jo,Jp,Jq,Jr,Js,Jt,Ju,Jv,Jw,Jx,Jy,Jz,JA,JB,JC,JD,JE, lenM, ltB_nat, dj, le0, ewj, mw, sw, MO.list, Nat.mul_one, Nat.zero_add, d2, Nat.le_add_left, if_pos o1, lv, sv, if_pos hup])
        | (unfold saleroomref36_Check_t4_b3; simp -implicitDefEqProofs only [↓reduceIte,eq_self,JF,JG,JH,JI,JJ,JK,JL,JM,JN,JO,JP,JQ,JR,JS,JT,JU,JV,JW,JX,JY,J2,J3,J4,J5,J6,J7,J8,J9,Ja,Jb,Jc,Jd,Je,Jf,Jg,Jh,Nat.reduceAdd,Ji,if_true,if_false,Jl,Jm,Jn,Jo,Jp,Jq,Jr,Js,Jt,Ju,Jv,Jw,Jx,Jy,Jz,JA,JB,JC,JD,JE, lenM, ltB_nat, dj, le0, ewj, mw, sw, MO.list, Nat.mul_one, Nat.zero_add, d2, Nat.le_add_left, if_pos o1, lv, sv, if_pos hup]; done)
        | (unfold saleroomref36_Check_t4_b3; simp -implicitDefEqProofs only [↓reduceIte,eq_self,JF,JG,JH,JI,JJ,JK,JL,JM,JN,JO,JP,JQ,JR,JS,JT,JU,JV,JW,JX,JY,J2,J3,J4,J5,J6,J7,J8,J9,Ja,Jb,Jc,Jd,Je,Jf,Jg,Jh,Nat.reduceAdd,Ji,if_true,if_false,Jl,Jm,Jn,Jo,Jp,Jq,Jr,Js,Jt,Ju,Jv,Jw,Jx,Jy,Jz,JA,JB,JC,JD,JE, lenM, ltB_nat, dj, le0, ewj, mw, sw, MO.list, Nat.mul_one, Nat.zero_add, d2, Nat.le_add_left, if_pos o1, lv, sv, if_pos hup]))
    rw [Sys.loop, show saleroomref36_Check_S.loops[4]? = some saleroomref36_Check_t4 from rfl, Option.bind_some, E]
    rfl
end
theorem rcheck36_sem (σ : List MO) (hσ : Flat σ) (l : List Ch) (P : PV) (hP : P.rowsOf 12 = some (l.map Ch.row)) (hl : l.length ≤ 14) (n : Nat) (hn : 20000 ≤ n) :
    ∃ w1 w2 b, evalF Tab n n_saleroomref36_Check [P] σ = some (.tup [.agg [w1, w2], .bool b], σ) ∧ w1.one = true ∧ w2.one = true ∧ (b = true ↔ (∀ x ∈ l, x.ok) ∧ Pot l) := by
  obtain ⟨n, rfl⟩ : ∃ k, n = k + 1 := ⟨n - 1, by omega⟩
  obtain ⟨p1, p2, p3⟩ := rows_len hP
  rw [List.length_map] at p1
  have c1 := rall_sem σ l P hP n (by omega) (by omega)
  simp only [n_saleroomref36_All] at c1
  have body : ∃ w1 w2 b, (PT.ev (evalF Tab n) saleroomref36_Check_s { i := [], b := [], v := [P], m := σ, k := σ.length }).bind (fun x => match x with | .ret r σ => some (r, σ) | .jump q ρ => saleroomref36_Check_S.loop (evalF Tab n) n q ρ) = some (.tup [.agg [w1, w2], .bool b], σ) ∧ w1.one = true ∧ w2.one = true ∧ (b = true ↔ (∀ x ∈ l, x.ok) ∧ Pot l) := by
    simp -implicitDefEqProofs only [saleroomref36_Check_s, ↓reduceIte,eq_self,JF,JG,JH,JI,JJ,JK,JL,JM,JN,JO,JP,JQ,JR,JS,JT,JU,JV,JW,JX,JY,J2,J3,J4,J5,J6,J7,J8,J9,Ja,Jb,Jc,Jd,Je,Jf,Jg,Jh,Nat.reduceAdd,Ji,if_true,if_false,Jl,Jm,Jn,Jo,Jp,Jq,Jr,Js,Jt,Ju,Jv,Jw,Jx,Jy,Jz,JA,JB,JC,JD,JE, c1]
    by_cases ha : (l.all fun x => decide x.ok) = true
    case neg =>
      rw [Bool.not_eq_true] at ha
      have hno : ¬ ∀ x ∈ l, x.ok := fun h => by
        have : (l.all fun x => decide x.ok) = true := List.all_eq_true.2 fun x hx => decide_eq_true (h x hx)
        rw [ha] at this; cases this
      rw [ha]
      refine ⟨.nilS, .nilS, false, ?_, rfl, rfl, by simp [hno]⟩
      simp -implicitDefEqProofs only [↓reduceIte,eq_self,JF,JG,JH,JI,JJ,JK,JL,JM,JN,JO,JP,JQ,JR,JS,JT,JU,JV,JW,JX,JY,J2,J3,J4,J5,J6,J7,J8,J9,Ja,Jb,Jc,Jd,Je,Jf,Jg,Jh,Nat.reduceAdd,Ji,if_true,if_false,Jl,Jm,Jn,Jo,Jp,Jq,Jr,Js,Jt,Ju,Jv,Jw,Jx,Jy,Jz,JA,JB,JC,JD,JE, retP, or_true]
    have hok : ∀ x ∈ l, x.ok := fun x hx => by simpa using (List.all_eq_true.1 ha) x hx
    rw [ha]
    obtain ⟨b, d, q1, q2, q3⟩ := shortest_sem σ l P hP hok hl n (by omega)
    simp only [n_saleroomref36_Shortest] at q1
    have od : (if b = true then dsl σ.length l.length l.length else PV.nilS).one = true := by
      cases b
      · rfl
      · rw [if_pos rfl]; cases l.length <;> rfl
    cases b with
    | false =>
      refine ⟨.nilS, .nilS, false, ?_, rfl, rfl, ?_⟩
      · have hF : (if false = true then dsl σ.length l.length l.length else PV.nilS) = PV.nilS := by simp
        rw [hF] at q1 od
        simp -implicitDefEqProofs only [↓reduceIte,eq_self,JF,JG,JH,JI,JJ,JK,JL,JM,JN,JO,JP,JQ,JR,JS,JT,JU,JV,JW,JX,JY,J2,J3,J4,J5,J6,J7,J8,J9,Ja,Jb,Jc,Jd,Je,Jf,Jg,Jh,Nat.reduceAdd,Ji,if_true,if_false,Jl,Jm,Jn,Jo,Jp,Jq,Jr,Js,Jt,Ju,Jv,Jw,Jx,Jy,Jz,JA,JB,JC,JD,JE, bindShs, q1, od]
        by_cases h0 : d.length = 0
        · have e0 : d = [] := List.length_eq_zero_iff.1 h0
          subst e0
          simp [retP]
        · have hm : (σ ++ d.map cells).length = σ.length + d.length := by simp
          have g1 : ¬ (False ∨ σ.length + d.length = σ.length) := fun h => h.elim id (fun h => h0 (by omega))
          have tk : (σ ++ d.map cells).take σ.length = σ := by simp
          simp -implicitDefEqProofs only [↓reduceIte,eq_self,JF,JG,JH,JI,JJ,JK,JL,JM,JN,JO,JP,JQ,JR,JS,JT,JU,JV,JW,JX,JY,J2,J3,J4,J5,J6,J7,J8,J9,Ja,Jb,Jc,Jd,Je,Jf,Jg,Jh,Nat.reduceAdd,Ji,if_true,if_false,Jl,Jm,Jn,Jo,Jp,Jq,Jr,Js,Jt,Ju,Jv,Jw,Jx,Jy,Jz,JA,JB,JC,JD,JE, retP, hm, if_neg g1, tk, hσ σ.length, PV.frz, PV.frzs]
      · have : ¬ Pot l := fun h => by have := q2.2 h; cases this
        simp [this]
    | true =>
      obtain ⟨F, hF, hB⟩ := q3 rfl
      have hT : (if true = true then dsl σ.length l.length l.length else PV.nilS) = dsl σ.length l.length l.length := by simp
      rw [hT] at q1 od
      have hMl : (σ ++ d.map cells).length = σ.length + l.length := by simp [hF.1]
      have hMt : (σ ++ d.map cells).take σ.length = σ := by simp
      generalize hM : σ ++ d.map cells = M at *
      have b0 : Bnd (List.replicate l.length 0) l.length (-393216000000) 0 := ⟨by simp, fun j hj => by simp [at', List.getElem?_replicate, hj]⟩
      obtain ⟨w1, r1, r2⟩ := ck0 σ l P hP hl n d M hM.symm hF hB l.length 0 (by omega) _ b0
      obtain ⟨s2, fx, s3, s4, s5⟩ := ck2 σ l P hP hl n M r1 l.length 0 (by omega) 0 false (by omega) (by omega)
      obtain ⟨s6, m, s7, s8, s9, s10⟩ := ck3 σ l P hP hok hl n M (by omega) r1 fx l.length 0 (by omega) s2 s3 s4
      obtain ⟨w2, s11⟩ := ck4 σ l P hP hl n M hσ hMt hMl s7 s8 l.length 0 (by omega) w1 r1.1 (fun i hi => by omega) (fun i _ hi => r1.2 i hi)
      refine ⟨.nilS, .sl 1 (irows w2), true, ?_, rfl, rfl, ⟨fun _ => ⟨hok, q2.1 rfl⟩, fun _ => rfl⟩⟩
      have hK : l.length * (l.length + 2) ≤ 14 * 16 := Nat.mul_le_mul hl (by omega)
      have t4 := s11 (n - l.length * (l.length + 2) - 1 - l.length - 1 - m - 1 - l.length - 1)
      rw [show n - l.length * (l.length + 2) - 1 - l.length - 1 - m - 1 - l.length - 1 + l.length + 1 = n - l.length * (l.length + 2) - 1 - l.length - 1 - m - 1 by omega, show ((0 : Nat) : Int) = 0 from rfl, ← s10] at t4
      rw [show n - l.length * (l.length + 2) - 1 - l.length - 1 - m - 1 + m + 1 = n - l.length * (l.length + 2) - 1 - l.length - 1 by omega, show ((0 : Nat) : Int) = 0 from rfl, ← s5] at t4
      rw [show n - l.length * (l.length + 2) - 1 - l.length - 1 + l.length + 1 = n - l.length * (l.length + 2) - 1 by omega, show ((0 : Nat) : Int) = 0 from rfl, ← r2] at t4
      rw [show n - l.length * (l.length + 2) - 1 + l.length * (l.length + 2) + 1 = n by omega] at t4
      have k0 : (0 : Int) ≤ (l.length : Int) ∧ (l.length : Int) ≤ 1000000 ∧ 8 ≤ 100000000 := by omega
      simp -implicitDefEqProofs only [↓reduceIte,eq_self,JF,JG,JH,JI,JJ,JK,JL,JM,JN,JO,JP,JQ,JR,JS,JT,JU,JV,JW,JX,JY,J2,J3,J4,J5,J6,J7,J8,J9,Ja,Jb,Jc,Jd,Je,Jf,Jg,Jh,Nat.reduceAdd,Ji,if_true,if_false,Jl,Jm,Jn,Jo,Jp,Jq,Jr,Js,Jt,Ju,Jv,Jw,Jx,Jy,Jz,JA,JB,JC,JD,JE, bindShs, q1, od, p1, p2, if_pos k0, Int.toNat_natCast, icell_rep]
      exact t4
  obtain ⟨w1, w2, b, h1, h2, h3, h4⟩ := body
  refine ⟨w1, w2, b, ?_, h2, h3, h4⟩
  simp only [evalF, tab_saleroomref36_Check, Option.bind_some, Sys.run]
  show ((bindPs [.sh (.one _)] _).bind _) = _
  simp -implicitDefEqProofs only [bindPs, bind1, bindK, Option.map_some, Option.bind_some, List.append_nil, List.nil_append, List.cons_append, if_true, p3]
  exact h1
end Go.Proofs.Ythjahianafohjaa
