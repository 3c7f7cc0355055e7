/- The bundle of maximum utility; straightforward choices. -/
import Derived.Test.YthjahianafohjaaHAcN
set_option linter.unusedSimpArgs false
set_option linter.unusedVariables false
open Go.Sx.PT renaming ev → J1
open Go.Sx.BE renaming safe → J2, pe → J3, all → Jz
open Go.Sx.IE renaming pe → J4
open Go.Sx renaming PEnv.at → J5
open Go.Sx.PEnv renaming push → Jt
open List renaming getD_cons_zero → J6, getD_cons_succ → J7, getElem?_cons_zero → J8, getElem?_cons_succ → J9, drop_zero → Jf, length_cons → Jg, length_nil → Jh, take_succ_cons → Jm, take_zero → Jn, cons_append → Ju, nil_append → Jv, append_nil → Jw, map_cons → JD, map_nil → JE
open Go.Sx renaming locOf → Ja, locOn → Jb, readLoc → Jc, takeN → Jd, bindK → Jo, bindRes → Jp, bind1 → Jq, evb_ret → JF, evb_ite → JG, evb_need → JH, evb_load → JI, evb_app → JJ, evb_cut → JK, evb_scut → JL, evb_chk → JM, evb_appF → JN, evb_call → JO, evb_callv → JP, evb_newM → JQ, evb_mkM → JR, evb_storeM → JS, evb_appM → JT, evb_mkMap → JU, evb_mapGet → JV, evb_mapSet → JW, evb_mapClr → JX, evb_jump → JY
open Nat renaming add_zero → Je, le_refl → Ji
open Bool renaming false_eq_true → Jl, and_self → JA, not_true → JB, not_false → JC
open Option renaming map_some → Jr, bind_some → Js
open Go.Sx.SV renaming pvs → Jx, pv → Jy
set_option maxRecDepth 100000
namespace Go.Proofs.Ythjahianafohjaa
open Go.Sx Go.Bf
def kn (vals : List Int) (i j : Nat) : Prop := i + j ≠ 0 ∧ 4 * i + j < vals.length ∧ 0 ≤ at' vals (4 * i + j) ∧ at' vals (4 * i + j) ≤ 1000000
def ut (vals : List Int) (p q : Int) (i j : Nat) : Int := at' vals (4 * i + j) - (i : Int) * p - (j : Int) * q
/-- Before the pair i, j. -/
structure DI (vals : List Int) (p q most : Int) (a b i j : Nat) : Prop where
  pos : 0 ≤ most
  best : (a = 0 ∧ b = 0 ∧ most = 0) ∨ (a < 4 ∧ b < 4 ∧ kn vals a b ∧ most = ut vals p q a b ∧ 0 < most)
  all : ∀ x y, x < 4 → y < 4 → (x < i ∨ x = i ∧ y < j) → kn vals x y → ut vals p q x y ≤ most
theorem DI.skip {vals : List Int} {p q most : Int} {a b i j : Nat} (h : DI vals p q most a b i j) (hs : kn vals i j → ut vals p q i j ≤ most) : DI vals p q most a b i (j + 1) where
  pos := h.pos
  best := h.best
  all := fun x y hx hy hd hk => by
    by_cases e : x = i ∧ y = j
    · obtain ⟨rfl, rfl⟩ := e; exact hs hk
    · exact h.all x y hx hy (by omega) hk
theorem DI.take {vals : List Int} {p q most : Int} {a b i j : Nat} (h : DI vals p q most a b i j) (hi : i < 4) (hj : j < 4) (hk : kn vals i j) (hu : most < ut vals p q i j) : DI vals p q (ut vals p q i j) i j i (j + 1) where
  pos := by have := h.pos; omega
  best := .inr ⟨hi, hj, hk, rfl, by have := h.pos; omega⟩
  all := fun x y hx hy hd hkn => by
    by_cases e : x = i ∧ y = j
    · obtain ⟨rfl, rfl⟩ := e; exact Int.le_refl _
    · have := h.all x y hx hy (by omega) hkn; omega
theorem DI.row {vals : List Int} {p q most : Int} {a b i : Nat} (h : DI vals p q most a b i 4) : DI vals p q most a b (i + 1) 0 where
  pos := h.pos
  best := h.best
  all := fun x y hx hy hd hk => h.all x y hx hy (by omega) hk
theorem mul3_bd {i : Nat} {p : Int} (hi : i < 4) (h1 : 0 ≤ p) (h2 : p ≤ 1000) : 0 ≤ (i : Int) * p ∧ (i : Int) * p ≤ 3000 :=
  ⟨Int.mul_nonneg (by omega) h1, by
    calc (i : Int) * p ≤ 3 * 1000 := Int.mul_le_mul (by omega) h2 h1 (by omega)
      _ = 3000 := rfl⟩
section
variable (σ : List MO) (vals : List Int) (V : PV) (hV : V.rowsOf 1 = some (ints vals)) (p q : Int) (hp : 0 ≤ p ∧ p ≤ 1000) (hq : 0 ≤ q ∧ q ≤ 1000) (n : Nat)
def dmS (σ : List MO) (V : PV) (p q : Int) (is : List Int) (a b : Nat) : PEnv := { i := is ++ [p, q, 0, 0, 0, 0, (a : Int), (b : Int)], b := [], v := [V], m := σ, k := σ.length }
include hV hp hq in
theorem dm1 {most : Int} {a b i j : Nat} (h : DI vals p q most a b i j) (hi : i < 4) (hj : j < 4) :
    ∃ most' a' b', DI vals p q most' a' b' i (j + 1) ∧ ∀ fuel, saleroomlaw37_demand_S.loop (evalF Tab n) (fuel + 1) 1 (dmS σ V p q [most, (i : Int), (j : Int)] a b) = saleroomlaw37_demand_S.loop (evalF Tab n) fuel 1 (dmS σ V p q [most', (i : Int), ((j + 1 : Nat) : Int)] a' b') := by
  obtain ⟨r1, r2, r3⟩ := rows_len hV
  rw [ints_len] at r1
  have hj4 : ltB (j : Int) 4 = true := by rw [ltB_true]; omega
  have o1 := i64_ok (z := (i : Int) + (j : Int)) (by omega)
  have o2 := i64_ok (z := 4 * (i : Int)) (by omega)
  have o3 := i64_ok (z := 4 * (i : Int) + (j : Int)) (by omega)
  have hup := up_ok (show j ≤ 1000000000 by omega)
  have eidx : ((4 * i + j : Nat) : Int) = 4 * (i : Int) + (j : Int) := by omega
  rw [nat_succ j]
  by_cases hz : i + j = 0
  · refine ⟨most, a, b, h.skip (fun hk => absurd hz hk.1), fun fuel => ?_⟩
    have e0 : eqB ((i : Int) + (j : Int)) 0 = true := by rw [eqB_true]; omega
    rw [Sys.loop, show saleroomlaw37_demand_S.loops[1]? = some saleroomlaw37_demand_t1 from rfl, Option.bind_some]
    simp -implicitDefEqProofs only [saleroomlaw37_demand_t1, ↓reduceIte,eq_self,JF,JG,JH,JI,JJ,JK,JL,JM,JN,JO,JP,JQ,JR,JS,JT,JU,JV,JW,JX,JY,J2,J3,J4,J5,J6,J7,J8,J9,Ja,Jb,Jc,Jd,Je,Jf,Jg,Jh,Nat.reduceAdd,Ji,if_true,if_false,Jl,Jm,Jn,Jo,Jp,Jq,Jr,Js,Jt,Ju,Jv,Jw,Jx,Jy,Jz,JA,JB,JC,JD,JE, dmS, hj4, if_pos o1, e0, if_pos hup]
  have e0 : eqB ((i : Int) + (j : Int)) 0 = false := by rw [eqB_false]; omega
  by_cases hln : vals.length ≤ 4 * i + j
  · refine ⟨most, a, b, h.skip (fun hk => absurd hk.2.1 (by omega)), fun fuel => ?_⟩
    have e1 : leB (vals.length : Int) (4 * (i : Int) + (j : Int)) = true := by rw [leB_true]; omega
    rw [Sys.loop, show saleroomlaw37_demand_S.loops[1]? = some saleroomlaw37_demand_t1 from rfl, Option.bind_some]
    simp -implicitDefEqProofs only [saleroomlaw37_demand_t1, ↓reduceIte,eq_self,JF,JG,JH,JI,JJ,JK,JL,JM,JN,JO,JP,JQ,JR,JS,JT,JU,JV,JW,JX,JY,J2,J3,J4,J5,J6,J7,J8,J9,Ja,Jb,Jc,Jd,Je,Jf,Jg,Jh,Nat.reduceAdd,Ji,if_true,if_false,Jl,Jm,Jn,Jo,Jp,Jq,Jr,Js,Jt,Ju,Jv,Jw,Jx,Jy,Jz,JA,JB,JC,JD,JE, dmS, hj4, if_pos o1, e0, if_pos o2, if_pos o3, r1, r2, e1, if_pos hup]
  have e1 : leB (vals.length : Int) (4 * (i : Int) + (j : Int)) = false := by rw [leB_false]; omega
  have hlt : 4 * i + j < vals.length := by omega
  have hloc := rows_get (off := 0) hV (ints_get (at'_get hlt))
  rw [eidx] at hloc
  have e2 : leB 0 (4 * (i : Int) + (j : Int)) = true := by rw [leB_true]; omega
  have e3 : ltB (4 * (i : Int) + (j : Int)) (vals.length : Int) = true := by rw [ltB_true]; omega
  by_cases hbig : 1000000 < at' vals (4 * i + j)
  · refine ⟨most, a, b, h.skip (fun hk => absurd hk.2.2.2 (by omega)), fun fuel => ?_⟩
    have e4 : ltB 1000000 (at' vals (4 * i + j)) = true := ltB_true.2 hbig
    rw [Sys.loop, show saleroomlaw37_demand_S.loops[1]? = some saleroomlaw37_demand_t1 from rfl, Option.bind_some]
    simp -implicitDefEqProofs only [saleroomlaw37_demand_t1, ↓reduceIte,eq_self,JF,JG,JH,JI,JJ,JK,JL,JM,JN,JO,JP,JQ,JR,JS,JT,JU,JV,JW,JX,JY,J2,J3,J4,J5,J6,J7,J8,J9,Ja,Jb,Jc,Jd,Je,Jf,Jg,Jh,Nat.reduceAdd,Ji,if_true,if_false,Jl,Jm,Jn,Jo,Jp,Jq,Jr,Js,Jt,Ju,Jv,Jw,Jx,Jy,Jz,JA,JB,JC,JD,JE, dmS, hj4, if_pos o1, e0, if_pos o2, if_pos o3, r1, r2, e1, e2, e3, hloc, e4, if_pos hup]
  have e4 : ltB 1000000 (at' vals (4 * i + j)) = false := ltB_false.2 hbig
  by_cases hneg : at' vals (4 * i + j) < 0
  · refine ⟨most, a, b, h.skip (fun hk => absurd hk.2.2.1 (by omega)), fun fuel => ?_⟩
    have e5 : ltB (at' vals (4 * i + j)) 0 = true := ltB_true.2 hneg
    rw [Sys.loop, show saleroomlaw37_demand_S.loops[1]? = some saleroomlaw37_demand_t1 from rfl, Option.bind_some]
    simp -implicitDefEqProofs only [saleroomlaw37_demand_t1, ↓reduceIte,eq_self,JF,JG,JH,JI,JJ,JK,JL,JM,JN,JO,JP,JQ,JR,JS,JT,JU,JV,JW,JX,JY,J2,J3,J4,J5,J6,J7,J8,J9,Ja,Jb,Jc,Jd,Je,Jf,Jg,Jh,Nat.reduceAdd,Ji,if_true,if_false,Jl,Jm,Jn,Jo,Jp,Jq,Jr,Js,Jt,Ju,Jv,Jw,Jx,Jy,Jz,JA,JB,JC,JD,JE, dmS, hj4, if_pos o1, e0, if_pos o2, if_pos o3, r1, r2, e1, e2, e3, hloc, e4, e5, if_pos hup]
  have e5 : ltB (at' vals (4 * i + j)) 0 = false := ltB_false.2 hneg
  have m1 := mul3_bd hi hp.1 hp.2
  have m2 := mul3_bd hj hq.1 hq.2
  have hkn : kn vals i j := ⟨hz, hlt, by omega, by omega⟩
  have hut : ut vals p q i j = at' vals (4 * i + j) - (i : Int) * p - (j : Int) * q := rfl
  have o4 := i64_ok (z := (i : Int) * p) (by omega)
  have o5 := i64_ok (z := (j : Int) * q) (by omega)
  have o6 := i64_ok (z := at' vals (4 * i + j) - (i : Int) * p) (by omega)
  have o7 := i64_ok (z := at' vals (4 * i + j) - (i : Int) * p - (j : Int) * q) (by omega)
  rw [← hut] at o7
  by_cases hu : most < ut vals p q i j
  · refine ⟨ut vals p q i j, i, j, h.take hi hj hkn hu, fun fuel => ?_⟩
    have e6 : ltB most (ut vals p q i j) = true := ltB_true.2 hu
    rw [Sys.loop, show saleroomlaw37_demand_S.loops[1]? = some saleroomlaw37_demand_t1 from rfl, Option.bind_some]
    simp -implicitDefEqProofs only [saleroomlaw37_demand_t1, ↓reduceIte,eq_self,JF,JG,JH,JI,JJ,JK,JL,JM,JN,JO,JP,JQ,JR,JS,JT,JU,JV,JW,JX,JY,J2,J3,J4,J5,J6,J7,J8,J9,Ja,Jb,Jc,Jd,Je,Jf,Jg,Jh,Nat.reduceAdd,Ji,if_true,if_false,Jl,Jm,Jn,Jo,Jp,Jq,Jr,Js,Jt,Ju,Jv,Jw,Jx,Jy,Jz,JA,JB,JC,JD,JE, dmS, hj4, if_pos o1, e0, if_pos o2, if_pos o3, r1, r2, e1, e2, e3, hloc, e4, e5, if_pos o4, if_pos o5, if_pos o6, ← hut, if_pos o7, e6, if_pos hup]
  · refine ⟨most, a, b, h.skip (fun _ => by omega), fun fuel => ?_⟩
    have e6 : ltB most (ut vals p q i j) = false := ltB_false.2 hu
    rw [Sys.loop, show saleroomlaw37_demand_S.loops[1]? = some saleroomlaw37_demand_t1 from rfl, Option.bind_some]
    simp -implicitDefEqProofs only [saleroomlaw37_demand_t1, ↓reduceIte,eq_self,JF,JG,JH,JI,JJ,JK,JL,JM,JN,JO,JP,JQ,JR,JS,JT,JU,JV,JW,JX,JY,J2,J3,J4,J5,J6,J7,J8,J9,Ja,Jb,Jc,Jd,Je,Jf,Jg,Jh,Nat.reduceAdd,Ji,if_true,if_false,Jl,Jm,Jn,Jo,Jp,Jq,Jr,Js,Jt,Ju,Jv,Jw,Jx,Jy,Jz,JA,JB,JC,JD,JE, dmS, hj4, if_pos o1, e0, if_pos o2, if_pos o3, r1, r2, e1, e2, e3, hloc, e4, e5, if_pos o4, if_pos o5, if_pos o6, ← hut, if_pos o7, e6, if_pos hup]
include hV hp hq in
theorem dm1s {i : Nat} (hi : i < 4) : ∀ e j, j + e = 4 → ∀ most a b, DI vals p q most a b i j →
    ∃ most' a' b', DI vals p q most' a' b' (i + 1) 0 ∧ ∀ fuel, saleroomlaw37_demand_S.loop (evalF Tab n) (fuel + e + 1) 1 (dmS σ V p q [most, (i : Int), (j : Int)] a b) = saleroomlaw37_demand_S.loop (evalF Tab n) fuel 0 (dmS σ V p q [most', ((i + 1 : Nat) : Int)] a' b') := by
  intro e
  induction e with
  | zero =>
    intro j hj most a b h
    rw [Nat.add_zero] at hj; subst hj
    refine ⟨most, a, b, h.row, fun fuel => ?_⟩
    have hup := up_ok (show i ≤ 1000000000 by omega)
    have e4 : ltB ((4 : Nat) : Int) 4 = false := rfl
    rw [nat_succ i, Nat.add_zero, Sys.loop, show saleroomlaw37_demand_S.loops[1]? = some saleroomlaw37_demand_t1 from rfl, Option.bind_some]
    simp -implicitDefEqProofs only [saleroomlaw37_demand_t1, ↓reduceIte,eq_self,JF,JG,JH,JI,JJ,JK,JL,JM,JN,JO,JP,JQ,JR,JS,JT,JU,JV,JW,JX,JY,J2,J3,J4,J5,J6,J7,J8,J9,Ja,Jb,Jc,Jd,Je,Jf,Jg,Jh,Nat.reduceAdd,Ji,if_true,if_false,Jl,Jm,Jn,Jo,Jp,Jq,Jr,Js,Jt,Ju,Jv,Jw,Jx,Jy,Jz,JA,JB,JC,JD,JE, dmS, e4, if_pos hup]
  | succ e ih =>
    intro j hj most a b h
    obtain ⟨m1, a1, b1, h1, h2⟩ := dm1 σ vals V hV p q hp hq n h hi (by omega)
    obtain ⟨m2, a2, b2, k1, k2⟩ := ih (j + 1) (by omega) m1 a1 b1 h1
    exact ⟨m2, a2, b2, k1, fun fuel => by rw [show fuel + (e + 1) + 1 = (fuel + e + 1) + 1 from rfl, h2, k2]⟩
include hV hp hq in
theorem dm0s : ∀ e i, i + e = 4 → ∀ most a b, DI vals p q most a b i 0 →
    ∃ most' a' b', DI vals p q most' a' b' 4 0 ∧ ∀ fuel, saleroomlaw37_demand_S.loop (evalF Tab n) (fuel + e * 6 + 1) 0 (dmS σ V p q [most, (i : Int)] a b) = some (.agg (⟨(a' : Int), (b' : Int), 0, 0, 0, 0⟩ : W6).pv, σ) := by
  intro e
  induction e with
  | zero =>
    intro i hi most a b h
    rw [Nat.add_zero] at hi; subst hi
    refine ⟨most, a, b, h, fun fuel => ?_⟩
    have e4 : ltB ((4 : Nat) : Int) 4 = false := rfl
    rw [Nat.zero_mul, Nat.add_zero, Sys.loop, show saleroomlaw37_demand_S.loops[0]? = some saleroomlaw37_demand_t0 from rfl, Option.bind_some]
    simp -implicitDefEqProofs only [saleroomlaw37_demand_t0, ↓reduceIte,eq_self,JF,JG,JH,JI,JJ,JK,JL,JM,JN,JO,JP,JQ,JR,JS,JT,JU,JV,JW,JX,JY,J2,J3,J4,J5,J6,J7,J8,J9,Ja,Jb,Jc,Jd,Je,Jf,Jg,Jh,Nat.reduceAdd,Ji,if_true,if_false,Jl,Jm,Jn,Jo,Jp,Jq,Jr,Js,Jt,Ju,Jv,Jw,Jx,Jy,Jz,JA,JB,JC,JD,JE, dmS, e4, retP, or_true, W6.pv]
  | succ e ih =>
    intro i hi most a b h
    obtain ⟨m1, a1, b1, h1, h2⟩ := dm1s σ vals V hV p q hp hq n (i := i) (by omega) 4 0 (by omega) most a b h
    obtain ⟨m2, a2, b2, k1, k2⟩ := ih (i + 1) (by omega) m1 a1 b1 h1
    refine ⟨m2, a2, b2, k1, fun fuel => ?_⟩
    have e4 : ltB (i : Int) 4 = true := by rw [ltB_true]; omega
    rw [← k2 fuel, show fuel + (e + 1) * 6 + 1 = ((fuel + e * 6 + 1) + 4 + 1) + 1 by omega, ← h2]
    rw [Sys.loop, show saleroomlaw37_demand_S.loops[0]? = some saleroomlaw37_demand_t0 from rfl, Option.bind_some]
    simp -implicitDefEqProofs only [saleroomlaw37_demand_t0, ↓reduceIte,eq_self,JF,JG,JH,JI,JJ,JK,JL,JM,JN,JO,JP,JQ,JR,JS,JT,JU,JV,JW,JX,JY,J2,J3,J4,J5,J6,J7,J8,J9,Ja,Jb,Jc,Jd,Je,Jf,Jg,Jh,Nat.reduceAdd,Ji,if_true,if_false,Jl,Jm,Jn,Jo,Jp,Jq,Jr,Js,Jt,Ju,Jv,Jw,Jx,Jy,Jz,JA,JB,JC,JD,JE, dmS, e4, Int.cast_ofNat_Int]
include hV hp hq in
theorem demand_sem (hn : 40 ≤ n) : ∃ most a b, DI vals p q most a b 4 0 ∧ evalF Tab n n_saleroomlaw37_demand [V, .agg (⟨p, q, 0, 0, 0, 0⟩ : W6).pv] σ = some (.agg (⟨(a : Int), (b : Int), 0, 0, 0, 0⟩ : W6).pv, σ) := by
  obtain ⟨n, rfl⟩ : ∃ k, n = k + 1 := ⟨n - 1, by omega⟩
  obtain ⟨r1, r2, r3⟩ := rows_len hV
  obtain ⟨m, a, b, h1, h2⟩ := dm0s σ vals V hV p q hp hq n 4 0 (by omega) 0 0 0 ⟨by omega, .inl ⟨rfl, rfl, rfl⟩, fun x y _ _ hd => by omega⟩
  refine ⟨m, a, b, h1, ?_⟩
  have h2 := h2 (n - 25)
  rw [show n - 25 + 4 * 6 + 1 = n by omega] at h2
  simp only [evalF, tab_saleroomlaw37_demand, Option.bind_some, Sys.run, W6.pv]
  show ((bindPs [.sh (.one _), .sh (.agg [_, _, _, _, _, _])] _).bind _) = _
  simp -implicitDefEqProofs only [bindPs, bind1, bindK, Option.map_some, Option.bind_some, List.append_nil, List.nil_append, List.cons_append, if_true, r3]
  show (PT.ev _ saleroomlaw37_demand_s _).bind _ = _
  simp -implicitDefEqProofs only [saleroomlaw37_demand_s, ↓reduceIte,eq_self,JF,JG,JH,JI,JJ,JK,JL,JM,JN,JO,JP,JQ,JR,JS,JT,JU,JV,JW,JX,JY,J2,J3,J4,J5,J6,J7,J8,J9,Ja,Jb,Jc,Jd,Je,Jf,Jg,Jh,Nat.reduceAdd,Ji,if_true,if_false,Jl,Jm,Jn,Jo,Jp,Jq,Jr,Js,Jt,Ju,Jv,Jw,Jx,Jy,Jz,JA,JB,JC,JD,JE]
  exact h2
end
/-- A straightforward choice. -/
def Str (vals : List Int) (x : Ch) : Prop := ∃ (p q most : Int) (a b : Nat), x = ⟨⟨p, q, 0, 0, 0, 0⟩, ⟨(a : Int), (b : Int), 0, 0, 0, 0⟩⟩ ∧ (0 ≤ p ∧ p ≤ 1000) ∧ (0 ≤ q ∧ q ≤ 1000) ∧ DI vals p q most a b 4 0
theorem DI.lt {vals : List Int} {p q most : Int} {a b i j : Nat} (h : DI vals p q most a b i j) : a < 4 ∧ b < 4 := by
  rcases h.best with ⟨rfl, rfl, _⟩ | ⟨h1, h2, _⟩
  · omega
  · exact ⟨h1, h2⟩
theorem Str.ok {vals : List Int} {x : Ch} (h : Str vals x) : x.ok := by
  obtain ⟨p, q, most, a, b, rfl, hp, hq, h⟩ := h
  have := h.lt
  simp only [Ch.ok, W6.pok, W6.ok]
  omega
def vlC (vals : List Int) (x : Ch) : Int := if x.w.a = 0 ∧ x.w.b = 0 then 0 else at' vals (4 * x.w.a + x.w.b).toNat
theorem cost2 (p q : Int) (a b : Nat) : costW ⟨p, q, 0, 0, 0, 0⟩ ⟨(a : Int), (b : Int), 0, 0, 0, 0⟩ = (a : Int) * p + (b : Int) * q := by
  simp only [costW, Int.mul_zero, Int.add_zero]
  rw [Int.mul_comm p, Int.mul_comm q]
/-- The value of a bundle less its cost. -/
theorem vl_ut {vals : List Int} {a b : Nat} (p q : Int) (P : W6) (hk : kn vals a b) : vlC vals ⟨P, ⟨(a : Int), (b : Int), 0, 0, 0, 0⟩⟩ - costW ⟨p, q, 0, 0, 0, 0⟩ ⟨(a : Int), (b : Int), 0, 0, 0, 0⟩ = ut vals p q a b := by
  unfold vlC ut
  have h0 := hk.1
  rw [cost2, if_neg (by simp only; omega)]
  have : (4 * (a : Int) + (b : Int)).toNat = 4 * a + b := by omega
  simp only [this]
  omega
theorem vl_zero {vals : List Int} (p q : Int) (P : W6) : vlC vals ⟨P, ⟨((0 : Nat) : Int), ((0 : Nat) : Int), 0, 0, 0, 0⟩⟩ - costW ⟨p, q, 0, 0, 0, 0⟩ ⟨((0 : Nat) : Int), ((0 : Nat) : Int), 0, 0, 0, 0⟩ = 0 := by
  rw [cost2]
  simp [vlC]
theorem Str.opt {vals : List Int} {x y : Ch} (hx : Str vals x) (hy : Str vals y) : vlC vals y - costW x.p y.w ≤ vlC vals x - costW x.p x.w := by
  obtain ⟨p, q, m, a, b, rfl, hp, hq, h⟩ := hx
  obtain ⟨p', q', m', a', b', rfl, hp', hq', h'⟩ := hy
  have hy : vlC vals ⟨⟨p', q', 0, 0, 0, 0⟩, ⟨(a' : Int), (b' : Int), 0, 0, 0, 0⟩⟩ - costW ⟨p, q, 0, 0, 0, 0⟩ ⟨(a' : Int), (b' : Int), 0, 0, 0, 0⟩ ≤ m := by
    rcases h'.best with ⟨rfl, rfl, _⟩ | ⟨h1, h2, h3, _⟩
    · rw [vl_zero]; exact h.pos
    · rw [vl_ut p q _ h3]
      exact h.all a' b' h1 h2 (.inl h1) h3
  have hx : vlC vals ⟨⟨p, q, 0, 0, 0, 0⟩, ⟨(a : Int), (b : Int), 0, 0, 0, 0⟩⟩ - costW ⟨p, q, 0, 0, 0, 0⟩ ⟨(a : Int), (b : Int), 0, 0, 0, 0⟩ = m := by
    rcases h.best with ⟨rfl, rfl, h3⟩ | ⟨h1, h2, h3, h4, _⟩
    · rw [vl_zero, h3]
    · rw [vl_ut p q _ h3, h4]
  show _ ≤ _
  simp only
  omega
theorem str_pot {vals : List Int} {l : List Ch} (h : ∀ x ∈ l, Str vals x) : Pot l := by
  refine ⟨fun x => vlC vals (chx l x), fun x y hx hy => ?_⟩
  have := (h _ (List.mem_of_getElem? (chx_mem hx))).opt (h _ (List.mem_of_getElem? (chx_mem hy)))
  unfold gN gainC
  rw [chAt_chx hx, chAt_chx hy]
  show vlC vals (chx l y) ≤ vlC vals (chx l x) + _
  omega
/-- Who has left stays away. -/
theorem Str.stay {vals : List Int} {x y : Ch} (hx : Str vals x) (hy : Str vals y) (hle : x.p.leP y.p) (he : emptyB x.w = true) : emptyB y.w = true := by
  obtain ⟨p, q, m, a, b, rfl, hp, hq, h⟩ := hx
  obtain ⟨p', q', m', a', b', rfl, hp', hq', h'⟩ := hy
  simp only [emptyB, Bool.and_eq_true, eqB_true] at he
  have hm : m = 0 := by
    rcases h.best with ⟨_, _, h3⟩ | ⟨_, _, h3, _⟩
    · exact h3
    · have := h3.1; omega
  rcases h'.best with ⟨rfl, rfl, _⟩ | ⟨h1, h2, h3, h4, h5⟩
  · rfl
  · exfalso
    have k := h.all a' b' h1 h2 (.inl h1) h3
    have d1 : p ≤ p' := hle.1
    have d2 : q ≤ q' := hle.2.1
    have e1 : (a' : Int) * p ≤ (a' : Int) * p' := Int.mul_le_mul_of_nonneg_left d1 (by omega)
    have e2 : (b' : Int) * q ≤ (b' : Int) * q' := Int.mul_le_mul_of_nonneg_left d2 (by omega)
    unfold ut at *
    omega
end Go.Proofs.Ythjahianafohjaa
