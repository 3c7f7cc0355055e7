/- The examples of the chapter on revealed preference. -/
import Derived.Test.YthjahianafohjaaHSac
import Derived.Test.YthjahianafohjaaHTxd
set_option linter.unusedSimpArgs false
set_option linter.unusedVariables false
open Go.Sx.PT renaming ev → J1
open Go.Sx.BE renaming safe → J2, pe → J3, all → Jz
open Go.Sx.IE renaming pe → J4
open Go.Sx renaming PEnv.at → J5
open Go.Sx.PEnv renaming push → Jt
open List renaming getD_cons_zero → J6, getD_cons_succ → J7, getElem?_cons_zero → J8, getElem?_cons_succ → J9, drop_zero → Jf, length_cons → Jg, length_nil → Jh, take_succ_cons → Jm, take_zero → Jn, cons_append → Ju, nil_append → Jv, append_nil → Jw, map_cons → JD, map_nil → JE
open Go.Sx renaming locOf → Ja, locOn → Jb, readLoc → Jc, takeN → Jd, bindK → Jo, bindRes → Jp, bind1 → Jq, evb_ret → JF, evb_ite → JG, evb_need → JH, evb_load → JI, evb_app → JJ, evb_cut → JK, evb_scut → JL, evb_chk → JM, evb_appF → JN, evb_call → JO, evb_callv → JP, evb_newM → JQ, evb_mkM → JR, evb_storeM → JS, evb_appM → JT, evb_mkMap → JU, evb_mapGet → JV, evb_mapSet → JW, evb_mapClr → JX, evb_jump → JY
open Nat renaming add_zero → Je, le_refl → Ji
open Bool renaming false_eq_true → Jl, and_self → JA, not_true → JB, not_false → JC
open Option renaming map_some → Jr, bind_some → Js
open Go.Sx.SV renaming pvs → Jx, pv → Jy
set_option maxRecDepth 100000
namespace Go.Proofs.Ythjahianafohjaa
open Go.Sx
end Go.Proofs.Ythjahianafohjaa
set_option maxRecDepth 100000
namespace Go.Proofs.Ythjahianafohjaa
open Go.Sx
structure W6 where
 (a b c d e f : Int)
def W6.pv (x : W6) : List PV := [.int .i64 x.a, .int .i64 x.b, .int .i64 x.c, .int .i64 x.d, .int .i64 x.e, .int .i64 x.f]
def W6.ok (w : W6) : Prop := 0 <= w.a /\ w.a <= 4 /\ 0 <= w.b /\ w.b <= 4 /\ 0 <= w.c /\ w.c <= 4 /\ 0 <= w.d /\ w.d <= 4 /\ 0 <= w.e /\ w.e <= 4 /\ 0 <= w.f /\ w.f <= 4
instance (w : W6) : Decidable w.ok := by unfold W6.ok; infer_instance
def W6.pok (w : W6) : Prop := 0 <= w.a /\ w.a <= 1000000 /\ 0 <= w.b /\ w.b <= 1000000 /\ 0 <= w.c /\ w.c <= 1000000 /\ 0 <= w.d /\ w.d <= 1000000 /\ 0 <= w.e /\ w.e <= 1000000 /\ 0 <= w.f /\ w.f <= 1000000
instance (w : W6) : Decidable w.pok := by unfold W6.pok; infer_instance
def bchk (w : W6) : Int := if w.ok then 0 else 4
def costW (p w : W6) : Int := p.a * w.a + p.b * w.b + p.c * w.c + p.d * w.d + p.e * w.e + p.f * w.f
structure Ch where
 (p w : W6)
def Ch.row (c : Ch) : List PV := c.p.pv ++ c.w.pv
def Ch.ok (c : Ch) : Prop := c.p.pok /\ c.w.ok
instance (c : Ch) : Decidable c.ok := by unfold Ch.ok; infer_instance
theorem Ch.ok_dec (x : Ch) : decide x.ok = (decide x.p.pok && decide x.w.ok) := by
 rw [Bool.eq_iff_iff, decide_eq_true_iff, Bool.and_eq_true, decide_eq_true_iff, decide_eq_true_iff]; exact Iff.rfl
def gainC (a b : Ch) : Int := costW a.p b.w - costW a.p a.w
theorem mul_bd {x y : Int} (h1 : 0 <= x) (h2 : x <= 1000000) (h3 : 0 <= y) (h4 : y <= 4) : 0 <= x * y /\ x * y <= 4000000 := by
 constructor
 ·exact Int.mul_nonneg h1 h3
 ·calc x * y <= 1000000 * 4 := Int.mul_le_mul h2 h4 h3 (by omega)
   _ = 4000000 := by decide
theorem cost_bounds {p w : W6} (hp : p.pok) (hw : w.ok) : (0 <= p.a * w.a /\ p.a * w.a <= 4000000) /\ (0 <= p.b * w.b /\ p.b * w.b <= 4000000) /\ (0 <= p.c * w.c /\ p.c * w.c <= 4000000) /\ (0 <= p.d * w.d /\ p.d * w.d <= 4000000) /\ (0 <= p.e * w.e /\ p.e * w.e <= 4000000) /\ (0 <= p.f * w.f /\ p.f * w.f <= 4000000) := by
 simp only [W6.pok, W6.ok] at hp hw
 exact ⟨mul_bd (by omega) (by omega) (by omega) (by omega), mul_bd (by omega) (by omega) (by omega) (by omega), mul_bd (by omega) (by omega) (by omega) (by omega), mul_bd (by omega) (by omega) (by omega) (by omega), mul_bd (by omega) (by omega) (by omega) (by omega), mul_bd (by omega) (by omega) (by omega) (by omega)⟩
theorem cost_bd {p w : W6} (hp : p.pok) (hw : w.ok) : 0 <= costW p w /\ costW p w <= 24000000 := by
 have := cost_bounds hp hw
 simp only [costW]; omega
theorem gain_bd {a b : Ch} (ha : a.ok) (hb : b.ok) : -24000000 <= gainC a b /\ gainC a b <= 24000000 := by
 have := cost_bd ha.1 hb.2
 have := cost_bd ha.1 ha.2
 simp only [gainC]; omega
theorem bundle_Check_sem (σ : List MO) (w : W6) (n : Nat) (hn : 1 <= n) : evalF Tab n n_bundle_Check [.agg w.pv] σ = some (.int .i64 (bchk w), σ) := by
 obtain ⟨n, rfl⟩ : ∃ k, n = k + 1 := ⟨n - 1, by omega⟩
 simp only [evalF, tab_bundle_Check, Option.bind_some, Sys.run, W6.pv]
 show ((bindPs [.sh (.agg [_, _, _, _, _, _])] _).bind _) = _
 simp only [bindPs, bind1, bindK, Option.map_some, Option.bind_some, List.append_nil, List.nil_append, List.cons_append, if_true]
 show (PT.ev _ bundle_Check_s _).bind _ = _
 simp -implicitDefEqProofs only [bundle_Check_s, ↓reduceIte,eq_self,J1,J2,J3,J4,J5,J6,J7,J8,J9,Ja,Jb,Jc,Jd,Je,Jf,Jg,Jh,Nat.reduceAdd,Ji,if_true,if_false,Jl,Jm,Jn,Jo,Jp,Jq,Jr,Js,Jt,Ju,Jv,Jw,Jx,Jy,Jz,JA,JB,JC,JD,JE, retP, or_true]
 obtain ⟨a, b, c, d, e, f⟩ := w
 simp only [ltB_true, bchk]
 by_cases hok : (⟨a, b, c, d, e, f⟩ : W6).ok
 ·rw [if_pos hok]
  simp only [W6.ok] at hok
  repeat rw [if_neg (by omega)]
  rfl
 ·rw [if_neg hok]
  simp only [W6.ok] at hok
  by_cases h1 : a < 0
  ·rw [if_pos h1]; rfl
  rw [if_neg h1]
  by_cases h2 : 4 < a
  ·rw [if_pos h2]; rfl
  rw [if_neg h2]
  by_cases h3 : b < 0
  ·rw [if_pos h3]; rfl
  rw [if_neg h3]
  by_cases h4 : 4 < b
  ·rw [if_pos h4]; rfl
  rw [if_neg h4]
  by_cases h5 : c < 0
  ·rw [if_pos h5]; rfl
  rw [if_neg h5]
  by_cases h6 : 4 < c
  ·rw [if_pos h6]; rfl
  rw [if_neg h6]
  by_cases h7 : d < 0
  ·rw [if_pos h7]; rfl
  rw [if_neg h7]
  by_cases h8 : 4 < d
  ·rw [if_pos h8]; rfl
  rw [if_neg h8]
  by_cases h9 : e < 0
  ·rw [if_pos h9]; rfl
  rw [if_neg h9]
  by_cases h10 : 4 < e
  ·rw [if_pos h10]; rfl
  rw [if_neg h10]
  by_cases h11 : f < 0
  ·rw [if_pos h11]; rfl
  rw [if_neg h11]
  by_cases h12 : 4 < f
  ·rw [if_pos h12]; rfl
  rw [if_neg h12]
  exfalso; omega
theorem saleroomref07_Check_sem (σ : List MO) (w : W6) (n : Nat) (hn : 1 <= n) : evalF Tab n n_saleroomref07_Check [.agg w.pv] σ = some (.int .i64 (bchk w), σ) := by
 obtain ⟨n, rfl⟩ : ∃ k, n = k + 1 := ⟨n - 1, by omega⟩
 simp only [evalF, tab_saleroomref07_Check, Option.bind_some, Sys.run, W6.pv]
 show ((bindPs [.sh (.agg [_, _, _, _, _, _])] _).bind _) = _
 simp only [bindPs, bind1, bindK, Option.map_some, Option.bind_some, List.append_nil, List.nil_append, List.cons_append, if_true]
 show (PT.ev _ saleroomref07_Check_s _).bind _ = _
 simp -implicitDefEqProofs only [saleroomref07_Check_s, ↓reduceIte,eq_self,J1,J2,J3,J4,J5,J6,J7,J8,J9,Ja,Jb,Jc,Jd,Je,Jf,Jg,Jh,Nat.reduceAdd,Ji,if_true,if_false,Jl,Jm,Jn,Jo,Jp,Jq,Jr,Js,Jt,Ju,Jv,Jw,Jx,Jy,Jz,JA,JB,JC,JD,JE, retP, or_true]
 obtain ⟨a, b, c, d, e, f⟩ := w
 simp only [ltB_true, bchk]
 by_cases hok : (⟨a, b, c, d, e, f⟩ : W6).ok
 ·rw [if_pos hok]
  simp only [W6.ok] at hok
  repeat rw [if_neg (by omega)]
  rfl
 ·rw [if_neg hok]
  simp only [W6.ok] at hok
  by_cases h1 : a < 0
  ·rw [if_pos h1]; rfl
  rw [if_neg h1]
  by_cases h2 : 4 < a
  ·rw [if_pos h2]; rfl
  rw [if_neg h2]
  by_cases h3 : b < 0
  ·rw [if_pos h3]; rfl
  rw [if_neg h3]
  by_cases h4 : 4 < b
  ·rw [if_pos h4]; rfl
  rw [if_neg h4]
  by_cases h5 : c < 0
  ·rw [if_pos h5]; rfl
  rw [if_neg h5]
  by_cases h6 : 4 < c
  ·rw [if_pos h6]; rfl
  rw [if_neg h6]
  by_cases h7 : d < 0
  ·rw [if_pos h7]; rfl
  rw [if_neg h7]
  by_cases h8 : 4 < d
  ·rw [if_pos h8]; rfl
  rw [if_neg h8]
  by_cases h9 : e < 0
  ·rw [if_pos h9]; rfl
  rw [if_neg h9]
  by_cases h10 : 4 < e
  ·rw [if_pos h10]; rfl
  rw [if_neg h10]
  by_cases h11 : f < 0
  ·rw [if_pos h11]; rfl
  rw [if_neg h11]
  by_cases h12 : 4 < f
  ·rw [if_pos h12]; rfl
  rw [if_neg h12]
  exfalso; omega
theorem bundle_Cost_sem (σ : List MO) (p w : W6) (hp : p.pok) (hw : w.ok) (n : Nat) (hn : 1 <= n) : evalF Tab n n_bundle_Cost [.agg p.pv, .agg w.pv] σ = some (.int .i64 (costW p w), σ) := by
 obtain ⟨n, rfl⟩ : ∃ k, n = k + 1 := ⟨n - 1, by omega⟩
 simp only [evalF, tab_bundle_Cost, Option.bind_some, Sys.run, W6.pv]
 show ((bindPs [.sh (.agg [_, _, _, _, _, _]), .sh (.agg [_, _, _, _, _, _])] _).bind _) = _
 simp only [bindPs, bind1, bindK, Option.map_some, Option.bind_some, List.append_nil, List.nil_append, List.cons_append, if_true]
 show (PT.ev _ bundle_Cost_s _).bind _ = _
 obtain ⟨b0, b1, b2, b3, b4, b5⟩ := cost_bounds hp hw
 obtain ⟨a, b, c, d, e, f⟩ := p
 obtain ⟨a', b', c', d', e', f'⟩ := w
 simp only at b0 b1 b2 b3 b4 b5
 simp -implicitDefEqProofs only [bundle_Cost_s, ↓reduceIte,eq_self,J1,J2,J3,J4,J5,J6,J7,J8,J9,Ja,Jb,Jc,Jd,Je,Jf,Jg,Jh,Nat.reduceAdd,Ji,if_true,if_false,Jl,Jm,Jn,Jo,Jp,Jq,Jr,Js,Jt,Ju,Jv,Jw,Jx,Jy,Jz,JA,JB,JC,JD,JE, retP, or_true, Bool.and_eq_true, leB_true, costW]
 generalize a * a' = x0 at *
 generalize b * b' = x1 at *
 generalize c * c' = x2 at *
 generalize d * d' = x3 at *
 generalize e * e' = x4 at *
 generalize f * f' = x5 at *
 repeat rw [if_pos (by omega)]
 rfl
theorem prices_sem (σ : List MO) (w : W6) (n : Nat) (hn : 1 <= n) : evalF Tab n n_saleroomref07_Prices [.agg w.pv] σ = some (.bool (decide w.pok), σ) := by
 obtain ⟨n, rfl⟩ : ∃ k, n = k + 1 := ⟨n - 1, by omega⟩
 simp only [evalF, tab_saleroomref07_Prices, Option.bind_some, Sys.run, W6.pv]
 show ((bindPs [.sh (.agg [_, _, _, _, _, _])] _).bind _) = _
 simp only [bindPs, bind1, bindK, Option.map_some, Option.bind_some, List.append_nil, List.nil_append, List.cons_append, if_true]
 show (PT.ev _ saleroomref07_Prices_s _).bind _ = _
 simp -implicitDefEqProofs only [saleroomref07_Prices_s, ↓reduceIte,eq_self,J1,J2,J3,J4,J5,J6,J7,J8,J9,Ja,Jb,Jc,Jd,Je,Jf,Jg,Jh,Nat.reduceAdd,Ji,if_true,if_false,Jl,Jm,Jn,Jo,Jp,Jq,Jr,Js,Jt,Ju,Jv,Jw,Jx,Jy,Jz,JA,JB,JC,JD,JE, retP, or_true]
 obtain ⟨a, b, c, d, e, f⟩ := w
 simp only [ltB_true]
 by_cases hok : (⟨a, b, c, d, e, f⟩ : W6).pok
 ·rw [decide_eq_true hok]
  simp only [W6.pok] at hok
  repeat rw [if_neg (by omega)]
  rfl
 ·rw [decide_eq_false hok]
  simp only [W6.pok] at hok
  by_cases h1 : a < 0
  ·rw [if_pos h1]; rfl
  rw [if_neg h1]
  by_cases h2 : 1000000 < a
  ·rw [if_pos h2]; rfl
  rw [if_neg h2]
  by_cases h3 : b < 0
  ·rw [if_pos h3]; rfl
  rw [if_neg h3]
  by_cases h4 : 1000000 < b
  ·rw [if_pos h4]; rfl
  rw [if_neg h4]
  by_cases h5 : c < 0
  ·rw [if_pos h5]; rfl
  rw [if_neg h5]
  by_cases h6 : 1000000 < c
  ·rw [if_pos h6]; rfl
  rw [if_neg h6]
  by_cases h7 : d < 0
  ·rw [if_pos h7]; rfl
  rw [if_neg h7]
  by_cases h8 : 1000000 < d
  ·rw [if_pos h8]; rfl
  rw [if_neg h8]
  by_cases h9 : e < 0
  ·rw [if_pos h9]; rfl
  rw [if_neg h9]
  by_cases h10 : 1000000 < e
  ·rw [if_pos h10]; rfl
  rw [if_neg h10]
  by_cases h11 : f < 0
  ·rw [if_pos h11]; rfl
  rw [if_neg h11]
  by_cases h12 : 1000000 < f
  ·rw [if_pos h12]; rfl
  rw [if_neg h12]
  exfalso; omega
theorem valid_sem (σ : List MO) (x : Ch) (n : Nat) (hn : 2 <= n) : evalF Tab n n_revealed_valid [.agg x.row] σ = some (.bool (decide x.ok), σ) := by
 obtain ⟨n, rfl⟩ : ∃ k, n = k + 1 := ⟨n - 1, by omega⟩
 have c1 := bundle_Check_sem σ x.w n (by omega)
 obtain ⟨⟨a, b, c, d, e, f⟩, ⟨a', b', c', d', e', f'⟩⟩ := x
 generalize hy : bchk ⟨a', b', c', d', e', f'⟩ = y at *
 simp only [n_bundle_Check, W6.pv] at c1
 simp only [evalF, tab_revealed_valid, Option.bind_some, Sys.run, W6.pv, Ch.row, List.cons_append, List.nil_append]
 show ((bindPs [.sh (.agg [_, _, _, _, _, _, _, _, _, _, _, _])] _).bind _) = _
 simp only [bindPs, bind1, bindK, Option.map_some, Option.bind_some, List.append_nil, List.nil_append, List.cons_append, if_true]
 show (PT.ev _ revealed_valid_s _).bind _ = _
 simp -implicitDefEqProofs only [revealed_valid_s, ↓reduceIte,eq_self,J1,J2,J3,J4,J5,J6,J7,J8,J9,Ja,Jb,Jc,Jd,Je,Jf,Jg,Jh,Nat.reduceAdd,Ji,if_true,if_false,Jl,Jm,Jn,Jo,Jp,Jq,Jr,Js,Jt,Ju,Jv,Jw,Jx,Jy,Jz,JA,JB,JC,JD,JE, retP, or_true, c1]
 simp only [ltB_true]
 have hyd : eqB y 0 = decide (⟨a', b', c', d', e', f'⟩ : W6).ok := by
  rw [<- hy]; unfold bchk
  by_cases h : (⟨a', b', c', d', e', f'⟩ : W6).ok
  ·rw [if_pos h, decide_eq_true h]; rfl
  ·rw [if_neg h, decide_eq_false h]; rfl
 have hsp : decide (Ch.ok ⟨⟨a, b, c, d, e, f⟩, ⟨a', b', c', d', e', f'⟩⟩) = (decide (⟨a, b, c, d, e, f⟩ : W6).pok && decide (⟨a', b', c', d', e', f'⟩ : W6).ok) := Ch.ok_dec _
 rw [hsp, hyd]
 generalize decide (⟨a', b', c', d', e', f'⟩ : W6).ok = q
 by_cases hok : (⟨a, b, c, d, e, f⟩ : W6).pok
 ·rw [decide_eq_true hok]
  simp only [W6.pok] at hok
  repeat rw [if_neg (by omega)]
  simp
 ·rw [decide_eq_false hok]
  simp only [W6.pok] at hok
  by_cases h1 : a < 0
  ·rw [if_pos h1]; rfl
  rw [if_neg h1]
  by_cases h2 : 1000000 < a
  ·rw [if_pos h2]; rfl
  rw [if_neg h2]
  by_cases h3 : b < 0
  ·rw [if_pos h3]; rfl
  rw [if_neg h3]
  by_cases h4 : 1000000 < b
  ·rw [if_pos h4]; rfl
  rw [if_neg h4]
  by_cases h5 : c < 0
  ·rw [if_pos h5]; rfl
  rw [if_neg h5]
  by_cases h6 : 1000000 < c
  ·rw [if_pos h6]; rfl
  rw [if_neg h6]
  by_cases h7 : d < 0
  ·rw [if_pos h7]; rfl
  rw [if_neg h7]
  by_cases h8 : 1000000 < d
  ·rw [if_pos h8]; rfl
  rw [if_neg h8]
  by_cases h9 : e < 0
  ·rw [if_pos h9]; rfl
  rw [if_neg h9]
  by_cases h10 : 1000000 < e
  ·rw [if_pos h10]; rfl
  rw [if_neg h10]
  by_cases h11 : f < 0
  ·rw [if_pos h11]; rfl
  rw [if_neg h11]
  by_cases h12 : 1000000 < f
  ·rw [if_pos h12]; rfl
  rw [if_neg h12]
  exfalso; omega
theorem rvalid_sem (σ : List MO) (x : Ch) (n : Nat) (hn : 2 <= n) : evalF Tab n n_saleroomref36_Valid [.agg x.row] σ = some (.bool (decide x.ok), σ) := by
 obtain ⟨n, rfl⟩ : ∃ k, n = k + 1 := ⟨n - 1, by omega⟩
 have c1 := saleroomref07_Check_sem σ x.w n (by omega)
 have c2 := prices_sem σ x.p n (by omega)
 obtain ⟨⟨a, b, c, d, e, f⟩, ⟨a', b', c', d', e', f'⟩⟩ := x
 have hsp : decide (Ch.ok ⟨⟨a, b, c, d, e, f⟩, ⟨a', b', c', d', e', f'⟩⟩) = (decide (⟨a, b, c, d, e, f⟩ : W6).pok && decide (⟨a', b', c', d', e', f'⟩ : W6).ok) := Ch.ok_dec _
 rw [hsp]
 simp only [n_saleroomref07_Check, n_saleroomref07_Prices, W6.pv] at c1 c2
 simp only [evalF, tab_saleroomref36_Valid, Option.bind_some, Sys.run, W6.pv, Ch.row, List.cons_append, List.nil_append]
 show ((bindPs [.sh (.agg [_, _, _, _, _, _, _, _, _, _, _, _])] _).bind _) = _
 simp only [bindPs, bind1, bindK, Option.map_some, Option.bind_some, List.append_nil, List.nil_append, List.cons_append, if_true]
 show (PT.ev _ saleroomref36_Valid_s _).bind _ = _
 by_cases h : (⟨a', b', c', d', e', f'⟩ : W6).ok
 ·rw [decide_eq_true h, Bool.and_true]
  simp only [bchk, if_pos h] at c1
  simp -implicitDefEqProofs only [saleroomref36_Valid_s, ↓reduceIte,eq_self,J1,J2,J3,J4,J5,J6,J7,J8,J9,Ja,Jb,Jc,Jd,Je,Jf,Jg,Jh,Nat.reduceAdd,Ji,if_true,if_false,Jl,Jm,Jn,Jo,Jp,Jq,Jr,Js,Jt,Ju,Jv,Jw,Jx,Jy,Jz,JA,JB,JC,JD,JE, retP, or_true, c1, eqB_self, c2]
 ·rw [decide_eq_false h, Bool.and_false]
  simp only [bchk, if_neg h] at c1
  have e4 : eqB 4 0 = false := rfl
  simp -implicitDefEqProofs only [saleroomref36_Valid_s, ↓reduceIte,eq_self,J1,J2,J3,J4,J5,J6,J7,J8,J9,Ja,Jb,Jc,Jd,Je,Jf,Jg,Jh,Nat.reduceAdd,Ji,if_true,if_false,Jl,Jm,Jn,Jo,Jp,Jq,Jr,Js,Jt,Ju,Jv,Jw,Jx,Jy,Jz,JA,JB,JC,JD,JE, retP, or_true, c1, e4]
theorem gain0_sem (σ : List MO) (x y : Ch) (hx : x.ok) (hy : y.ok) (n : Nat) (hn : 2 <= n) : evalF Tab n n_revealed_gain [.agg x.row, .agg y.row] σ = some (.int .i64 (gainC x y), σ) := by
 obtain ⟨n, rfl⟩ : ∃ k, n = k + 1 := ⟨n - 1, by omega⟩
 have c1 := bundle_Cost_sem σ x.p y.w hx.1 hy.2 n (by omega)
 have c2 := bundle_Cost_sem σ x.p x.w hx.1 hx.2 n (by omega)
 have b1 := cost_bd hx.1 hy.2
 have b2 := cost_bd hx.1 hx.2
 simp only [gainC]
 generalize costW x.p y.w = u at *
 generalize costW x.p x.w = v at *
 obtain ⟨⟨a, b, c, d, e, f⟩, ⟨a', b', c', d', e', f'⟩⟩ := x
 obtain ⟨⟨a1, b1', c1', d1, e1, f1⟩, ⟨a1', b1'', c1'', d1', e1', f1'⟩⟩ := y
 simp only [n_bundle_Cost, W6.pv] at c1 c2
 simp only [evalF, tab_revealed_gain, Option.bind_some, Sys.run, W6.pv, Ch.row, List.cons_append, List.nil_append]
 show ((bindPs [.sh (.agg [_, _, _, _, _, _, _, _, _, _, _, _]), .sh (.agg [_, _, _, _, _, _, _, _, _, _, _, _])] _).bind _) = _
 simp only [bindPs, bind1, bindK, Option.map_some, Option.bind_some, List.append_nil, List.nil_append, List.cons_append, if_true]
 show (PT.ev _ revealed_gain_s _).bind _ = _
 have q : (leB (-9223372036854775808) (u - v) && leB (u - v) 9223372036854775807) = true := by simp [leB]; omega
 simp -implicitDefEqProofs only [revealed_gain_s, ↓reduceIte,eq_self,J1,J2,J3,J4,J5,J6,J7,J8,J9,Ja,Jb,Jc,Jd,Je,Jf,Jg,Jh,Nat.reduceAdd,Ji,if_true,if_false,Jl,Jm,Jn,Jo,Jp,Jq,Jr,Js,Jt,Ju,Jv,Jw,Jx,Jy,Jz,JA,JB,JC,JD,JE, retP, or_true, c1, c2, if_pos q]
end Go.Proofs.Ythjahianafohjaa
set_option maxRecDepth 100000
namespace Go.Proofs.Ythjahianafohjaa
open Go.Sx
theorem shaped_w6 {t i : Nat} (hu : Try.prog.underlying t = some (.array 6 i)) (hi : Try.prog.underlying i = some (.int .i64)) {n : Nat} {ps : List PV} (h : Shaped Try.prog n t ps) : ∃ w : W6, ps = w.pv := by
 obtain ⟨m, _, h⟩ := shaped_array hu h
 simp only [List.replicate, Shapeds] at h
 obtain ⟨_, _, rfl, h1, _, _, rfl, h2, _, _, rfl, h3, _, _, rfl, h4, _, _, rfl, h5, _, _, rfl, h6, rfl⟩ := h
 obtain ⟨a, rfl, _⟩ := shaped_int hi h1
 obtain ⟨b, rfl, _⟩ := shaped_int hi h2
 obtain ⟨c, rfl, _⟩ := shaped_int hi h3
 obtain ⟨d, rfl, _⟩ := shaped_int hi h4
 obtain ⟨e, rfl, _⟩ := shaped_int hi h5
 obtain ⟨f, rfl, _⟩ := shaped_int hi h6
 exact ⟨⟨a, b, c, d, e, f⟩, rfl⟩
end Go.Proofs.Ythjahianafohjaa
set_option maxRecDepth 100000
namespace Go.Proofs.Ythjahianafohjaa
open Go.Sx
theorem row_eq (x : Ch) : x.row = [.int .i64 x.p.a, .int .i64 x.p.b, .int .i64 x.p.c, .int .i64 x.p.d, .int .i64 x.p.e, .int .i64 x.p.f, .int .i64 x.w.a, .int .i64 x.w.b, .int .i64 x.w.c, .int .i64 x.w.d, .int .i64 x.w.e, .int .i64 x.w.f] := rfl
theorem rows_chs {l : List Ch} {i : Nat} {x : Ch} (h : l[i]? = some x) : (l.map Ch.row)[i]? = some x.row := by simp [h]
theorem all_sem (σ : List MO) (l : List Ch) (P : PV) (hP : P.rowsOf 12 = some (l.map Ch.row)) (n : Nat) (hn : l.length + 5 <= n) (hl : l.length <= 1000000) :
  evalF Tab n n_revealed_allValid [P] σ = some (.bool (l.all fun x => decide x.ok), σ) := by
 obtain ⟨n, rfl⟩ : ∃ k, n = k + 1 := ⟨n - 1, by omega⟩
 obtain ⟨p1, p2, p3⟩ := rows_len hP
 rw [List.length_map] at p1
 have loop : ∀ (fuel i : Nat), l.length - i < fuel -> i <= l.length -> revealed_allValid_S.loop (evalF Tab n) fuel 0 { i := [(l.length : Int), (i : Int)], b := [], v := [P], m := σ, k := σ.length } = some (.bool ((l.drop i).all fun x => decide x.ok), σ) := by
  intro fuel
  induction fuel with
  | zero => intro i h; omega
  | succ fuel ihf =>
   intro i h1 h2
   rw [Sys.loop, show revealed_allValid_S.loops[0]? = some revealed_allValid_t0 from rfl]
   simp -implicitDefEqProofs only [Option.bind_some, revealed_allValid_t0, ↓reduceIte,eq_self,J1,J2,J3,J4,J5,J6,J7,J8,J9,Ja,Jb,Jc,Jd,Je,Jf,Jg,Jh,Nat.reduceAdd,Ji,if_true,if_false,Jl,Jm,Jn,Jo,Jp,Jq,Jr,Js,Jt,Ju,Jv,Jw,Jx,Jy,Jz,JA,JB,JC,JD,JE, ltB_nat, decide_eq_true_eq]
   by_cases hlt : i < l.length
   ·obtain ⟨x, hx⟩ : ∃ x, l[i]? = some x := ⟨_, List.getElem?_eq_getElem hlt⟩
    rw [if_pos hlt, drop_cons hx, List.all_cons]
    have hloc := rows_get (off := 0) hP (rows_chs hx)
    have c1 := valid_sem σ x n (by omega)
    have := ihf (i + 1) (by omega) (by omega)
    rw [show ((i + 1 : Nat) : Int) = (i : Int) + 1 from by omega] at this
    have q1 : (leB 0 (i : Int) && decide (i < l.length)) = true := by simp [leB, hlt]
    have q2 : (leB (-9223372036854775808) ((i : Int) + 1) && leB ((i : Int) + 1) 9223372036854775807) = true := by simp [leB]; omega
    generalize decide x.ok = q at *
    simp only [n_revealed_valid, row_eq] at c1
    simp -implicitDefEqProofs only [p1, ltB_nat, ↓reduceIte,eq_self,J1,J2,J3,J4,J5,J6,J7,J8,J9,Ja,Jb,Jc,Jd,Je,Jf,Jg,Jh,Nat.reduceAdd,Ji,if_true,if_false,Jl,Jm,Jn,Jo,Jp,Jq,Jr,Js,Jt,Ju,Jv,Jw,Jx,Jy,Jz,JA,JB,JC,JD,JE, if_pos q1, hloc, row_eq, c1]
    cases q with
    | false => simp -implicitDefEqProofs only [↓reduceIte,eq_self,J1,J2,J3,J4,J5,J6,J7,J8,J9,Ja,Jb,Jc,Jd,Je,Jf,Jg,Jh,Nat.reduceAdd,Ji,if_true,if_false,Jl,Jm,Jn,Jo,Jp,Jq,Jr,Js,Jt,Ju,Jv,Jw,Jx,Jy,Jz,JA,JB,JC,JD,JE, retP, or_true, Bool.false_and]
    | true =>
     simp -implicitDefEqProofs only [↓reduceIte,eq_self,J1,J2,J3,J4,J5,J6,J7,J8,J9,Ja,Jb,Jc,Jd,Je,Jf,Jg,Jh,Nat.reduceAdd,Ji,if_true,if_false,Jl,Jm,Jn,Jo,Jp,Jq,Jr,Js,Jt,Ju,Jv,Jw,Jx,Jy,Jz,JA,JB,JC,JD,JE, if_pos q2, Bool.true_and]
     exact this
   ·rw [if_neg hlt, show i = l.length by omega, List.drop_length]
    simp -implicitDefEqProofs only [↓reduceIte,eq_self,J1,J2,J3,J4,J5,J6,J7,J8,J9,Ja,Jb,Jc,Jd,Je,Jf,Jg,Jh,Nat.reduceAdd,Ji,if_true,if_false,Jl,Jm,Jn,Jo,Jp,Jq,Jr,Js,Jt,Ju,Jv,Jw,Jx,Jy,Jz,JA,JB,JC,JD,JE, retP, or_true, List.all_nil]
 have h0 := loop n 0 (by omega) (Nat.zero_le _)
 simp only [evalF, tab_revealed_allValid, Option.bind_some, Sys.run]
 show ((bindPs [.sh (.one _)] _).bind _) = _
 simp -implicitDefEqProofs only [bindPs, bind1, bindK, Option.map_some, Option.bind_some, List.append_nil, List.nil_append, List.cons_append, if_true, p3]
 show (PT.ev _ revealed_allValid_s _).bind _ = _
 simp -implicitDefEqProofs only [revealed_allValid_s, ↓reduceIte,eq_self,J1,J2,J3,J4,J5,J6,J7,J8,J9,Ja,Jb,Jc,Jd,Je,Jf,Jg,Jh,Nat.reduceAdd,Ji,if_true,if_false,Jl,Jm,Jn,Jo,Jp,Jq,Jr,Js,Jt,Ju,Jv,Jw,Jx,Jy,Jz,JA,JB,JC,JD,JE, p1, p2]
 simpa using h0
theorem rall_sem (σ : List MO) (l : List Ch) (P : PV) (hP : P.rowsOf 12 = some (l.map Ch.row)) (n : Nat) (hn : l.length + 5 <= n) (hl : l.length <= 1000000) :
  evalF Tab n n_saleroomref36_All [P] σ = some (.bool (l.all fun x => decide x.ok), σ) := by
 obtain ⟨n, rfl⟩ : ∃ k, n = k + 1 := ⟨n - 1, by omega⟩
 obtain ⟨p1, p2, p3⟩ := rows_len hP
 rw [List.length_map] at p1
 have loop : ∀ (fuel i : Nat), l.length - i < fuel -> i <= l.length -> saleroomref36_All_S.loop (evalF Tab n) fuel 0 { i := [(i : Int)], b := [], v := [P], m := σ, k := σ.length } = some (.bool ((l.drop i).all fun x => decide x.ok), σ) := by
  intro fuel
  induction fuel with
  | zero => intro i h; omega
  | succ fuel ihf =>
   intro i h1 h2
   rw [Sys.loop, show saleroomref36_All_S.loops[0]? = some saleroomref36_All_t0 from rfl]
   simp -implicitDefEqProofs only [Option.bind_some, saleroomref36_All_t0, ↓reduceIte,eq_self,J1,J2,J3,J4,J5,J6,J7,J8,J9,Ja,Jb,Jc,Jd,Je,Jf,Jg,Jh,Nat.reduceAdd,Ji,if_true,if_false,Jl,Jm,Jn,Jo,Jp,Jq,Jr,Js,Jt,Ju,Jv,Jw,Jx,Jy,Jz,JA,JB,JC,JD,JE, p1, p2, ltB_nat, decide_eq_true_eq]
   by_cases hlt : i < l.length
   ·obtain ⟨x, hx⟩ : ∃ x, l[i]? = some x := ⟨_, List.getElem?_eq_getElem hlt⟩
    rw [if_pos hlt, drop_cons hx, List.all_cons]
    have hloc := rows_get (off := 0) hP (rows_chs hx)
    have c1 := rvalid_sem σ x n (by omega)
    have := ihf (i + 1) (by omega) (by omega)
    rw [show ((i + 1 : Nat) : Int) = (i : Int) + 1 from by omega] at this
    have q1 : (leB 0 (i : Int) && decide (i < l.length)) = true := by simp [leB, hlt]
    have q2 : (leB (-9223372036854775808) ((i : Int) + 1) && leB ((i : Int) + 1) 9223372036854775807) = true := by simp [leB]; omega
    generalize decide x.ok = q at *
    simp only [n_saleroomref36_Valid, row_eq] at c1
    simp -implicitDefEqProofs only [p1, ltB_nat, ↓reduceIte,eq_self,J1,J2,J3,J4,J5,J6,J7,J8,J9,Ja,Jb,Jc,Jd,Je,Jf,Jg,Jh,Nat.reduceAdd,Ji,if_true,if_false,Jl,Jm,Jn,Jo,Jp,Jq,Jr,Js,Jt,Ju,Jv,Jw,Jx,Jy,Jz,JA,JB,JC,JD,JE, if_pos q1, hloc, row_eq, c1]
    cases q with
    | false => simp -implicitDefEqProofs only [↓reduceIte,eq_self,J1,J2,J3,J4,J5,J6,J7,J8,J9,Ja,Jb,Jc,Jd,Je,Jf,Jg,Jh,Nat.reduceAdd,Ji,if_true,if_false,Jl,Jm,Jn,Jo,Jp,Jq,Jr,Js,Jt,Ju,Jv,Jw,Jx,Jy,Jz,JA,JB,JC,JD,JE, retP, or_true, Bool.false_and]
    | true =>
     simp -implicitDefEqProofs only [↓reduceIte,eq_self,J1,J2,J3,J4,J5,J6,J7,J8,J9,Ja,Jb,Jc,Jd,Je,Jf,Jg,Jh,Nat.reduceAdd,Ji,if_true,if_false,Jl,Jm,Jn,Jo,Jp,Jq,Jr,Js,Jt,Ju,Jv,Jw,Jx,Jy,Jz,JA,JB,JC,JD,JE, if_pos q2, Bool.true_and]
     exact this
   ·rw [if_neg hlt, show i = l.length by omega, List.drop_length]
    simp -implicitDefEqProofs only [↓reduceIte,eq_self,J1,J2,J3,J4,J5,J6,J7,J8,J9,Ja,Jb,Jc,Jd,Je,Jf,Jg,Jh,Nat.reduceAdd,Ji,if_true,if_false,Jl,Jm,Jn,Jo,Jp,Jq,Jr,Js,Jt,Ju,Jv,Jw,Jx,Jy,Jz,JA,JB,JC,JD,JE, retP, or_true, List.all_nil]
 have h0 := loop n 0 (by omega) (Nat.zero_le _)
 simp only [evalF, tab_saleroomref36_All, Option.bind_some, Sys.run]
 show ((bindPs [.sh (.one _)] _).bind _) = _
 simp -implicitDefEqProofs only [bindPs, bind1, bindK, Option.map_some, Option.bind_some, List.append_nil, List.nil_append, List.cons_append, if_true, p3]
 show (PT.ev _ saleroomref36_All_s _).bind _ = _
 simp -implicitDefEqProofs only [saleroomref36_All_s, ↓reduceIte,eq_self,J1,J2,J3,J4,J5,J6,J7,J8,J9,Ja,Jb,Jc,Jd,Je,Jf,Jg,Jh,Nat.reduceAdd,Ji,if_true,if_false,Jl,Jm,Jn,Jo,Jp,Jq,Jr,Js,Jt,Ju,Jv,Jw,Jx,Jy,Jz,JA,JB,JC,JD,JE]
 simpa using h0
end Go.Proofs.Ythjahianafohjaa
set_option maxRecDepth 100000
namespace Go.Proofs.Ythjahianafohjaa
open Go.Sx
def W6.beq (x y : W6) : Bool := eqB x.a y.a && (eqB x.b y.b && (eqB x.c y.c && (eqB x.d y.d && (eqB x.e y.e && eqB x.f y.f))))
def W6.isZ (x : W6) : Bool := eqB x.a 0 && (eqB x.b 0 && (eqB x.c 0 && (eqB x.d 0 && (eqB x.e 0 && eqB x.f 0))))
theorem W6.beq_eq {x y : W6} (h : x.beq y = true) : x = y := by
 obtain ⟨a, b, c, d, e, f⟩ := x
 obtain ⟨a', b', c', d', e', f'⟩ := y
 simp only [W6.beq, Bool.and_eq_true, eqB_true] at h
 obtain ⟨rfl, rfl, rfl, rfl, rfl, rfl⟩ := h
 rfl
abbrev CV := Ch × Int
end Go.Proofs.Ythjahianafohjaa
set_option maxRecDepth 100000
namespace Go.Proofs.Ythjahianafohjaa
open Go.Sx
end Go.Proofs.Ythjahianafohjaa
set_option maxRecDepth 100000
namespace Go.Proofs.Ythjahianafohjaa
open Go.Sx
def ch0 : Ch := ⟨⟨0, 0, 0, 0, 0, 0⟩, ⟨0, 0, 0, 0, 0, 0⟩⟩
def chAt (l : List Ch) (z : Int) : Ch := (l[z.toNat]?).getD ch0
end Go.Proofs.Ythjahianafohjaa
set_option maxRecDepth 100000
namespace Go.Proofs.Ythjahianafohjaa
open Go.Sx
theorem lives_more : evalF Tab 40000 n_saleroomlaw36_lives [] [] = some (.bool true, []) := by kernel_rfl
end Go.Proofs.Ythjahianafohjaa
