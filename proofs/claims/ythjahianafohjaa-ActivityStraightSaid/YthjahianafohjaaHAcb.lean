/- Eligibility, exits. -/
import Derived.Test.YthjahianafohjaaHAca
import Derived.Test.YthjahianafohjaaHRvb
import Derived.Test.YthjahianafohjaaHGx
set_option linter.unusedSimpArgs false
set_option linter.unusedVariables false
open Go.Sx.PT renaming ev → J1
open Go.Sx.BE renaming safe → J2, pe → J3, all → Jz
open Go.Sx.IE renaming pe → J4
open Go.Sx renaming PEnv.at → J5
open Go.Sx.PEnv renaming push → Jt
open List renaming getD_cons_zero → J6, getD_cons_succ → J7, getElem?_cons_zero → J8, getElem?_cons_succ → J9, drop_zero → Jf, length_cons → Jg, length_nil → Jh, take_succ_cons → Jm, take_zero → Jn, cons_append → Ju, nil_append → Jv, append_nil → Jw, map_cons → JD, map_nil → JE
open Go.Sx renaming locOf → Ja, locOn → Jb, readLoc → Jc, takeN → Jd, bindK → Jo, bindRes → Jp, bind1 → Jq, evb_ret → JF, evb_ite → JG, evb_need → JH, evb_load → JI, evb_app → JJ, evb_cut → JK, evb_scut → JL, evb_chk → JM, evb_appF → JN, evb_call → JO, evb_callv → JP, evb_newM → JQ, evb_mkM → JR, evb_storeM → JS, evb_appM → JT, evb_mkMap → JU, evb_mapGet → JV, evb_mapSet → JW, evb_mapClr → JX, evb_jump → JY
open Nat renaming add_zero → Je, le_refl → Ji
open Bool renaming false_eq_true → Jl, and_self → JA, not_true → JB, not_false → JC
open Option renaming map_some → Jr, bind_some → Js
open Go.Sx.SV renaming pvs → Jx, pv → Jy
set_option maxRecDepth 100000
namespace Go.Proofs.Ythjahianafohjaa
open Go.Sx
theorem usum_sem (σ : List MO) (l : List Pr) (P : PV) (hP : P.rowsOf 5 = some (l.map Pr.row)) (w : W6) (n : Nat) (hn : 80 ≤ n) : evalF Tab n n_catalog_units_sum [.agg (P :: w.pv), .fn n_catalog_Points_1 []] σ = some (.int .i64 (ptsV l w), σ) := by
  obtain ⟨n, rfl⟩ : ∃ k, n = k + 1 := ⟨n - 1, by omega⟩
  obtain ⟨p1, p2, p3⟩ := rows_len hP
  rw [List.length_map] at p1
  have c1 := check08_sem σ l P hP n (by omega)
  have c2 := bundle_Check_sem σ w n (by omega)
  simp only [n_catalog_Check, n_bundle_Check, W6.pv] at c1 c2
  simp only [evalF, tab_catalog_units_sum, Option.bind_some, Sys.run, W6.pv]
  show ((bindPs [.sh (.agg [_, _, _, _, _, _, _]), .sh (.one _)] _).bind _) = _
  simp -implicitDefEqProofs only [bindPs, bind1, bindK, Option.map_some, Option.bind_some, List.append_nil, List.nil_append, List.cons_append, if_true, p3, one_fn]
  show (PT.ev _ catalog_units_sum_s _).bind _ = _
  simp -implicitDefEqProofs only [catalog_units_sum_s, ↓reduceIte,eq_self,JF,JG,JH,JI,JJ,JK,JL,JM,JN,JO,JP,JQ,JR,JS,JT,JU,JV,JW,JX,JY,J2,J3,J4,J5,J6,J7,J8,J9,Ja,Jb,Jc,Jd,Je,Jf,Jg,Jh,Nat.reduceAdd,Ji,if_true,if_false,Jl,Jm,Jn,Jo,Jp,Jq,Jr,Js,Jt,Ju,Jv,Jw,Jx,Jy,Jz,JA,JB,JC,JD,JE, c1, ptsV]
  cases hc : eqB (pchk l) 0 with
  | false => simp -implicitDefEqProofs only [↓reduceIte,eq_self,JF,JG,JH,JI,JJ,JK,JL,JM,JN,JO,JP,JQ,JR,JS,JT,JU,JV,JW,JX,JY,J2,J3,J4,J5,J6,J7,J8,J9,Ja,Jb,Jc,Jd,Je,Jf,Jg,Jh,Nat.reduceAdd,Ji,if_true,if_false,Jl,Jm,Jn,Jo,Jp,Jq,Jr,Js,Jt,Ju,Jv,Jw,Jx,Jy,Jz,JA,JB,JC,JD,JE, retP, or_true]
  | true =>
    obtain ⟨hl, hr⟩ := pchk_zero (eqB_true.1 hc)
    simp -implicitDefEqProofs only [↓reduceIte,eq_self,JF,JG,JH,JI,JJ,JK,JL,JM,JN,JO,JP,JQ,JR,JS,JT,JU,JV,JW,JX,JY,J2,J3,J4,J5,J6,J7,J8,J9,Ja,Jb,Jc,Jd,Je,Jf,Jg,Jh,Nat.reduceAdd,Ji,if_true,if_false,Jl,Jm,Jn,Jo,Jp,Jq,Jr,Js,Jt,Ju,Jv,Jw,Jx,Jy,Jz,JA,JB,JC,JD,JE, c2]
    by_cases hw : w.ok
    · have hb : eqB (bchk w) 0 = true := by unfold bchk; rw [if_pos hw]; rfl
      have := usum_loop σ l P hP w hw hl hr n (by omega) l.length 0 (by omega) (n - l.length - 1)
      rw [show n - l.length - 1 + l.length + 1 = n by omega] at this
      simp -implicitDefEqProofs only [↓reduceIte,eq_self,JF,JG,JH,JI,JJ,JK,JL,JM,JN,JO,JP,JQ,JR,JS,JT,JU,JV,JW,JX,JY,J2,J3,J4,J5,J6,J7,J8,J9,Ja,Jb,Jc,Jd,Je,Jf,Jg,Jh,Nat.reduceAdd,Ji,if_true,if_false,Jl,Jm,Jn,Jo,Jp,Jq,Jr,Js,Jt,Ju,Jv,Jw,Jx,Jy,Jz,JA,JB,JC,JD,JE, hb, p1, p2]
      exact this
    · have hb : eqB (bchk w) 0 = false := by unfold bchk; rw [if_neg hw]; rfl
      simp -implicitDefEqProofs only [↓reduceIte,eq_self,JF,JG,JH,JI,JJ,JK,JL,JM,JN,JO,JP,JQ,JR,JS,JT,JU,JV,JW,JX,JY,J2,J3,J4,J5,J6,J7,J8,J9,Ja,Jb,Jc,Jd,Je,Jf,Jg,Jh,Nat.reduceAdd,Ji,if_true,if_false,Jl,Jm,Jn,Jo,Jp,Jq,Jr,Js,Jt,Ju,Jv,Jw,Jx,Jy,Jz,JA,JB,JC,JD,JE, hb, retP, or_true]
theorem points_sem (σ : List MO) (l : List Pr) (P : PV) (hP : P.rowsOf 5 = some (l.map Pr.row)) (w : W6) (n : Nat) (hn : 90 ≤ n) : evalF Tab n n_catalog_Points [P, .agg w.pv] σ = some (.int .i64 (ptsV l w), σ) := by
  obtain ⟨n, rfl⟩ : ∃ k, n = k + 1 := ⟨n - 1, by omega⟩
  obtain ⟨p1, p2, p3⟩ := rows_len hP
  have c1 := usum_sem σ l P hP w n (by omega)
  simp only [n_catalog_units_sum, n_catalog_Points_1, W6.pv] at c1
  simp only [evalF, tab_catalog_Points, Option.bind_some, Sys.run, W6.pv]
  show ((bindPs [.sh (.one _), .sh (.agg [_, _, _, _, _, _])] _).bind _) = _
  simp -implicitDefEqProofs only [bindPs, bind1, bindK, Option.map_some, Option.bind_some, List.append_nil, List.nil_append, List.cons_append, if_true, p3]
  show (PT.ev _ catalog_Points_s _).bind _ = _
  simp -implicitDefEqProofs only [catalog_Points_s, ↓reduceIte,eq_self,JF,JG,JH,JI,JJ,JK,JL,JM,JN,JO,JP,JQ,JR,JS,JT,JU,JV,JW,JX,JY,J2,J3,J4,J5,J6,J7,J8,J9,Ja,Jb,Jc,Jd,Je,Jf,Jg,Jh,Nat.reduceAdd,Ji,if_true,if_false,Jl,Jm,Jn,Jo,Jp,Jq,Jr,Js,Jt,Ju,Jv,Jw,Jx,Jy,Jz,JA,JB,JC,JD,JE, c1, retP, or_true]
/-- A history: setup, bidder, choices. -/
def hist (s : St) (i : Int) (L : PV) : List PV := [s.P, s.B, s.C, s.A, .int .i64 i, L]
theorem hpoints_sem (σ : List MO) (s : St) (hs : s.Ok) (i : Int) (L : PV) (hL : L.one = true) (x : Ch) (n : Nat) (hn : 100 ≤ n) : evalF Tab n n_activity_history_points [.agg (hist s i L), .agg x.row] σ = some (.int .i64 (ptsV s.ps x.w), σ) := by
  obtain ⟨n, rfl⟩ : ∃ k, n = k + 1 := ⟨n - 1, by omega⟩
  obtain ⟨p1, p2, p3⟩ := rows_len hs.P
  obtain ⟨b1, b2, b3⟩ := rows_len hs.B
  have c1 := points_sem σ s.ps s.P hs.P x.w n (by omega)
  simp only [n_catalog_Points, W6.pv] at c1
  simp only [evalF, tab_activity_history_points, Option.bind_some, Sys.run, hist, row_eq]
  show ((bindPs [.sh (.agg [_, _, _, _, _, _]), .sh (.agg [_, _, _, _, _, _, _, _, _, _, _, _])] _).bind _) = _
  simp -implicitDefEqProofs only [bindPs, bind1, bindK, Option.map_some, Option.bind_some, List.append_nil, List.nil_append, List.cons_append, if_true, p3, b3, hs.C, hs.A, hL]
  show (PT.ev _ activity_history_points_s _).bind _ = _
  simp -implicitDefEqProofs only [activity_history_points_s, ↓reduceIte,eq_self,JF,JG,JH,JI,JJ,JK,JL,JM,JN,JO,JP,JQ,JR,JS,JT,JU,JV,JW,JX,JY,J2,J3,J4,J5,J6,J7,J8,J9,Ja,Jb,Jc,Jd,Je,Jf,Jg,Jh,Nat.reduceAdd,Ji,if_true,if_false,Jl,Jm,Jn,Jo,Jp,Jq,Jr,Js,Jt,Ju,Jv,Jw,Jx,Jy,Jz,JA,JB,JC,JD,JE, c1, retP, or_true]
def eligF (ps : List Pr) (l : List Ch) (a : Int) : Int := l.foldl (fun m x => mnI m (ptsV ps x.w)) a
def eligV (s : St) (i : Int) (l : List Ch) : Int := if hasB s i = true then eligF s.ps l (((s.bs[i.toNat]?).map Bd.p).getD 0) else 0
theorem elig_sem (σ : List MO) (s : St) (hs : s.Ok) (i : Int) (l : List Ch) (L : PV) (hL : L.rowsOf 12 = some (l.map Ch.row)) (hl : l.length ≤ 1000) (n : Nat) (hn : 1200 ≤ n) :
    evalF Tab n n_activity_Eligibility [.agg s.pv, .int .i64 i, L] σ = some (.int .i64 (eligV s i l), σ) := by
  obtain ⟨n, rfl⟩ : ∃ k, n = k + 1 := ⟨n - 1, by omega⟩
  obtain ⟨p1, p2, p3⟩ := rows_len hs.P
  obtain ⟨b1, b2, b3⟩ := rows_len hs.B
  obtain ⟨l1, l2, l3⟩ := rows_len hL
  rw [List.length_map] at b1 l1
  have c1 := activity_has_sem σ s hs i n (by omega)
  simp only [n_activity_has, St.pv] at c1
  have loop : ∀ d k, k + d = l.length → ∀ fuel (a : Int), activity_Eligibility_S.loop (evalF Tab n) (fuel + d + 1) 0 { i := [i, a, (l.length : Int), (k : Int)], b := [], v := [s.P, s.B, s.C, s.A, L], m := σ, k := σ.length } = some (.int .i64 (eligF s.ps (l.drop k) a), σ) := by
    intro d
    induction d with
    | zero =>
      intro k hk fuel a
      rw [Nat.add_zero] at hk; subst hk
      have hd : decide (l.length < l.length) = false := by simp
      rw [Sys.loop, show activity_Eligibility_S.loops[0]? = some activity_Eligibility_t0 from rfl, List.drop_length]
      simp -implicitDefEqProofs only [Option.bind_some, activity_Eligibility_t0, ↓reduceIte,eq_self,JF,JG,JH,JI,JJ,JK,JL,JM,JN,JO,JP,JQ,JR,JS,JT,JU,JV,JW,JX,JY,J2,J3,J4,J5,J6,J7,J8,J9,Ja,Jb,Jc,Jd,Je,Jf,Jg,Jh,Nat.reduceAdd,Ji,if_true,if_false,Jl,Jm,Jn,Jo,Jp,Jq,Jr,Js,Jt,Ju,Jv,Jw,Jx,Jy,Jz,JA,JB,JC,JD,JE, ltB_nat, hd, retP, or_true, eligF, List.foldl_nil]
    | succ d ih =>
      intro k hk fuel a
      have hlt : k < l.length := by omega
      obtain ⟨x, hx⟩ := get_ex hlt
      have hd : decide (k < l.length) = true := decide_eq_true hlt
      have h0 := rows_get (off := 0) hL (rows_chs hx)
      have hup := up_ok (show k ≤ 1000000000 by omega)
      have c2 := hpoints_sem σ s hs i L l3 x n (by omega)
      simp only [n_activity_history_points, hist, row_eq] at c2
      have ih := ih (k + 1) (by omega) fuel (mnI a (ptsV s.ps x.w))
      rw [nat_succ] at ih
      rw [drop_cons hx, show eligF s.ps (x :: l.drop (k + 1)) a = eligF s.ps (l.drop (k + 1)) (mnI a (ptsV s.ps x.w)) from rfl, ← ih, show fuel + (d + 1) + 1 = (fuel + d + 1) + 1 from rfl, Sys.loop, show activity_Eligibility_S.loops[0]? = some activity_Eligibility_t0 from rfl]
      simp -implicitDefEqProofs only [Option.bind_some, activity_Eligibility_t0, ↓reduceIte,eq_self,JF,JG,JH,JI,JJ,JK,JL,JM,JN,JO,JP,JQ,JR,JS,JT,JU,JV,JW,JX,JY,J2,J3,J4,J5,J6,J7,J8,J9,Ja,Jb,Jc,Jd,Je,Jf,Jg,Jh,Nat.reduceAdd,Ji,if_true,if_false,Jl,Jm,Jn,Jo,Jp,Jq,Jr,Js,Jt,Ju,Jv,Jw,Jx,Jy,Jz,JA,JB,JC,JD,JE, l1, ltB_nat, hd, le0, h0, row_eq, c2, if_pos hup]
  simp only [evalF, tab_activity_Eligibility, Option.bind_some, Sys.run, St.pv]
  show ((bindPs [.sh (.agg [_, _, _, _]), .sh (.one _), .sh (.one _)] _).bind _) = _
  simp -implicitDefEqProofs only [bindPs, bind1, bindK, Option.map_some, Option.bind_some, List.append_nil, List.nil_append, List.cons_append, if_true, p3, b3, l3, hs.C, hs.A]
  show (PT.ev _ activity_Eligibility_s _).bind _ = _
  simp -implicitDefEqProofs only [activity_Eligibility_s, ↓reduceIte,eq_self,JF,JG,JH,JI,JJ,JK,JL,JM,JN,JO,JP,JQ,JR,JS,JT,JU,JV,JW,JX,JY,J2,J3,J4,J5,J6,J7,J8,J9,Ja,Jb,Jc,Jd,Je,Jf,Jg,Jh,Nat.reduceAdd,Ji,if_true,if_false,Jl,Jm,Jn,Jo,Jp,Jq,Jr,Js,Jt,Ju,Jv,Jw,Jx,Jy,Jz,JA,JB,JC,JD,JE, c1, eligV]
  cases hh : hasB s i with
  | false => simp -implicitDefEqProofs only [↓reduceIte,eq_self,JF,JG,JH,JI,JJ,JK,JL,JM,JN,JO,JP,JQ,JR,JS,JT,JU,JV,JW,JX,JY,J2,J3,J4,J5,J6,J7,J8,J9,Ja,Jb,Jc,Jd,Je,Jf,Jg,Jh,Nat.reduceAdd,Ji,if_true,if_false,Jl,Jm,Jn,Jo,Jp,Jq,Jr,Js,Jt,Ju,Jv,Jw,Jx,Jy,Jz,JA,JB,JC,JD,JE, retP, or_true]
  | true =>
    obtain ⟨k, rfl, hk, hkn⟩ := has_get hh
    obtain ⟨b, hb⟩ := get_ex hk
    have hloc := rows_get (off := 3) hs.B (rows_bds hb)
    have hd : decide (k < s.bs.length) = true := decide_eq_true hk
    have dr : ∀ a b c d : PV, List.drop 3 [a, b, c, d] = [d] := fun _ _ _ _ => rfl
    have := loop l.length 0 (by omega) (n - l.length - 1) b.p
    rw [show n - l.length - 1 + l.length + 1 = n by omega, List.drop_zero] at this
    rw [hkn, hb]
    simp -implicitDefEqProofs only [↓reduceIte,eq_self,JF,JG,JH,JI,JJ,JK,JL,JM,JN,JO,JP,JQ,JR,JS,JT,JU,JV,JW,JX,JY,J2,J3,J4,J5,J6,J7,J8,J9,Ja,Jb,Jc,Jd,Je,Jf,Jg,Jh,Nat.reduceAdd,Ji,if_true,if_false,Jl,Jm,Jn,Jo,Jp,Jq,Jr,Js,Jt,Ju,Jv,Jw,Jx,Jy,Jz,JA,JB,JC,JD,JE, b1, l1, l2, ltB_nat, hd, le0, hloc, bd_row, dr, Option.getD_some]
    exact this
theorem relig_sem (σ : List MO) (s : St) (hs : s.Ok) (i : Int) (l : List Ch) (L : PV) (hL : L.rowsOf 12 = some (l.map Ch.row)) (hl : l.length ≤ 1000) (n : Nat) (hn : 1200 ≤ n) :
    evalF Tab n n_saleroomref37_Eligibility [.agg s.pv, .int .i64 i, L] σ = some (.int .i64 (eligV s i l), σ) := by
  obtain ⟨n, rfl⟩ : ∃ k, n = k + 1 := ⟨n - 1, by omega⟩
  obtain ⟨p1, p2, p3⟩ := rows_len hs.P
  obtain ⟨b1, b2, b3⟩ := rows_len hs.B
  obtain ⟨l1, l2, l3⟩ := rows_len hL
  rw [List.length_map] at b1 l1
  have c1 := saleroomref37_bidder_sem σ s hs i n (by omega)
  simp only [n_saleroomref37_bidder, St.pv] at c1
  have loop : ∀ d k, k + d = l.length → ∀ fuel (a : Int), saleroomref37_Eligibility_S.loop (evalF Tab n) (fuel + d + 1) 0 { i := [a, (k : Int)], b := [], v := [L, s.P, s.B, s.C, s.A], m := σ, k := σ.length } = some (.int .i64 (eligF s.ps (l.drop k) a), σ) := by
    intro d
    induction d with
    | zero =>
      intro k hk fuel a
      rw [Nat.add_zero] at hk; subst hk
      have hd : decide (l.length < l.length) = false := by simp
      rw [Sys.loop, show saleroomref37_Eligibility_S.loops[0]? = some saleroomref37_Eligibility_t0 from rfl, List.drop_length]
      simp -implicitDefEqProofs only [Option.bind_some, saleroomref37_Eligibility_t0, ↓reduceIte,eq_self,JF,JG,JH,JI,JJ,JK,JL,JM,JN,JO,JP,JQ,JR,JS,JT,JU,JV,JW,JX,JY,J2,J3,J4,J5,J6,J7,J8,J9,Ja,Jb,Jc,Jd,Je,Jf,Jg,Jh,Nat.reduceAdd,Ji,if_true,if_false,Jl,Jm,Jn,Jo,Jp,Jq,Jr,Js,Jt,Ju,Jv,Jw,Jx,Jy,Jz,JA,JB,JC,JD,JE, l1, l2, ltB_nat, hd, retP, or_true, eligF, List.foldl_nil]
    | succ d ih =>
      intro k hk fuel a
      have hlt : k < l.length := by omega
      obtain ⟨x, hx⟩ := get_ex hlt
      have hd : decide (k < l.length) = true := decide_eq_true hlt
      have h0 := rows_get (off := 6) hL (rows_chs hx)
      have hup := up_ok (show k ≤ 1000000000 by omega)
      have c2 := rpoints_sem σ s hs x.w n (by omega)
      simp only [n_saleroomref37_points, St.pv, W6.pv] at c2
      have ih := ih (k + 1) (by omega) fuel (mnI a (ptsV s.ps x.w))
      rw [nat_succ] at ih
      rw [drop_cons hx, show eligF s.ps (x :: l.drop (k + 1)) a = eligF s.ps (l.drop (k + 1)) (mnI a (ptsV s.ps x.w)) from rfl, ← ih, show fuel + (d + 1) + 1 = (fuel + d + 1) + 1 from rfl, Sys.loop, show saleroomref37_Eligibility_S.loops[0]? = some saleroomref37_Eligibility_t0 from rfl]
      simp -implicitDefEqProofs only [Option.bind_some, saleroomref37_Eligibility_t0, ↓reduceIte,eq_self,JF,JG,JH,JI,JJ,JK,JL,JM,JN,JO,JP,JQ,JR,JS,JT,JU,JV,JW,JX,JY,J2,J3,J4,J5,J6,J7,J8,J9,Ja,Jb,Jc,Jd,Je,Jf,Jg,Jh,Nat.reduceAdd,Ji,if_true,if_false,Jl,Jm,Jn,Jo,Jp,Jq,Jr,Js,Jt,Ju,Jv,Jw,Jx,Jy,Jz,JA,JB,JC,JD,JE, l1, l2, ltB_nat, hd, le0, h0, row_eq, drop6, c2, if_pos hup]
  simp only [evalF, tab_saleroomref37_Eligibility, Option.bind_some, Sys.run, St.pv]
  show ((bindPs [.sh (.agg [_, _, _, _]), .sh (.one _), .sh (.one _)] _).bind _) = _
  simp -implicitDefEqProofs only [bindPs, bind1, bindK, Option.map_some, Option.bind_some, List.append_nil, List.nil_append, List.cons_append, if_true, p3, b3, l3, hs.C, hs.A]
  show (PT.ev _ saleroomref37_Eligibility_s _).bind _ = _
  simp -implicitDefEqProofs only [saleroomref37_Eligibility_s, ↓reduceIte,eq_self,JF,JG,JH,JI,JJ,JK,JL,JM,JN,JO,JP,JQ,JR,JS,JT,JU,JV,JW,JX,JY,J2,J3,J4,J5,J6,J7,J8,J9,Ja,Jb,Jc,Jd,Je,Jf,Jg,Jh,Nat.reduceAdd,Ji,if_true,if_false,Jl,Jm,Jn,Jo,Jp,Jq,Jr,Js,Jt,Ju,Jv,Jw,Jx,Jy,Jz,JA,JB,JC,JD,JE, c1, eligV]
  cases hh : hasB s i with
  | false => simp -implicitDefEqProofs only [↓reduceIte,eq_self,JF,JG,JH,JI,JJ,JK,JL,JM,JN,JO,JP,JQ,JR,JS,JT,JU,JV,JW,JX,JY,J2,J3,J4,J5,J6,J7,J8,J9,Ja,Jb,Jc,Jd,Je,Jf,Jg,Jh,Nat.reduceAdd,Ji,if_true,if_false,Jl,Jm,Jn,Jo,Jp,Jq,Jr,Js,Jt,Ju,Jv,Jw,Jx,Jy,Jz,JA,JB,JC,JD,JE, retP, or_true]
  | true =>
    obtain ⟨k, rfl, hk, hkn⟩ := has_get hh
    obtain ⟨b, hb⟩ := get_ex hk
    have hloc := rows_get (off := 3) hs.B (rows_bds hb)
    have hd : decide (k < s.bs.length) = true := decide_eq_true hk
    have dr : ∀ a b c d : PV, List.drop 3 [a, b, c, d] = [d] := fun _ _ _ _ => rfl
    have := loop l.length 0 (by omega) (n - l.length - 1) b.p
    rw [show n - l.length - 1 + l.length + 1 = n by omega, List.drop_zero] at this
    rw [hkn, hb]
    simp -implicitDefEqProofs only [↓reduceIte,eq_self,JF,JG,JH,JI,JJ,JK,JL,JM,JN,JO,JP,JQ,JR,JS,JT,JU,JV,JW,JX,JY,J2,J3,J4,J5,J6,J7,J8,J9,Ja,Jb,Jc,Jd,Je,Jf,Jg,Jh,Nat.reduceAdd,Ji,if_true,if_false,Jl,Jm,Jn,Jo,Jp,Jq,Jr,Js,Jt,Ju,Jv,Jw,Jx,Jy,Jz,JA,JB,JC,JD,JE, b1, ltB_nat, hd, le0, hloc, bd_row, dr, Option.getD_some]
    exact this
def emptyB (w : W6) : Bool := eqB w.a 0 && (eqB w.b 0 && (eqB w.c 0 && (eqB w.d 0 && (eqB w.e 0 && eqB w.f 0))))
def exitB (l : List Ch) : Bool := match l.getLast? with | some x => emptyB x.w | none => false
theorem activity_Exited_sem (σ : List MO) (l : List Ch) (L : PV) (hL : L.rowsOf 12 = some (l.map Ch.row)) (hl : l.length ≤ 1000) (n : Nat) (hn : 1 ≤ n) : evalF Tab n n_activity_Exited [L] σ = some (.bool (exitB l), σ) := by
  obtain ⟨n, rfl⟩ : ∃ k, n = k + 1 := ⟨n - 1, by omega⟩
  obtain ⟨l1, l2, l3⟩ := rows_len hL
  rw [List.length_map] at l1
  simp only [evalF, tab_activity_Exited, Option.bind_some, Sys.run]
  show ((bindPs [.sh (.one _)] _).bind _) = _
  simp -implicitDefEqProofs only [bindPs, bind1, bindK, Option.map_some, Option.bind_some, List.append_nil, List.nil_append, List.cons_append, if_true, l3]
  show (PT.ev _ activity_Exited_s _).bind _ = _
  simp -implicitDefEqProofs only [activity_Exited_s, ↓reduceIte,eq_self,JF,JG,JH,JI,JJ,JK,JL,JM,JN,JO,JP,JQ,JR,JS,JT,JU,JV,JW,JX,JY,J2,J3,J4,J5,J6,J7,J8,J9,Ja,Jb,Jc,Jd,Je,Jf,Jg,Jh,Nat.reduceAdd,Ji,if_true,if_false,Jl,Jm,Jn,Jo,Jp,Jq,Jr,Js,Jt,Ju,Jv,Jw,Jx,Jy,Jz,JA,JB,JC,JD,JE, l1, l2]
  by_cases h0 : l.length = 0
  · have hn : l = [] := List.length_eq_zero_iff.1 h0
    subst hn
    have h1 : ltB 0 (([] : List Ch).length : Int) = false := rfl
    rw [h1]
    simp -implicitDefEqProofs only [↓reduceIte,eq_self,JF,JG,JH,JI,JJ,JK,JL,JM,JN,JO,JP,JQ,JR,JS,JT,JU,JV,JW,JX,JY,J2,J3,J4,J5,J6,J7,J8,J9,Ja,Jb,Jc,Jd,Je,Jf,Jg,Jh,Nat.reduceAdd,Ji,if_true,if_false,Jl,Jm,Jn,Jo,Jp,Jq,Jr,Js,Jt,Ju,Jv,Jw,Jx,Jy,Jz,JA,JB,JC,JD,JE, retP, or_true]
    rfl
  · have h1 : ltB 0 (l.length : Int) = true := by rw [ltB_true]; omega
    obtain ⟨x, hx⟩ := get_ex (show l.length - 1 < l.length by omega)
    have h2 := rows_get (off := 6) hL (rows_chs hx)
    have e : ((l.length - 1 : Nat) : Int) = (l.length : Int) - 1 := by omega
    rw [e] at h2
    have h4 : leB 0 ((l.length : Int) - 1) = true := by rw [leB_true]; omega
    have h5 : ltB ((l.length : Int) - 1) (l.length : Int) = true := by rw [ltB_true]; omega
    have h6 : exitB l = emptyB x.w := by unfold exitB; rw [List.getLast?_eq_getElem?, hx]
    rw [h1, h6]
    simp -implicitDefEqProofs only [↓reduceIte,eq_self,JF,JG,JH,JI,JJ,JK,JL,JM,JN,JO,JP,JQ,JR,JS,JT,JU,JV,JW,JX,JY,J2,J3,J4,J5,J6,J7,J8,J9,Ja,Jb,Jc,Jd,Je,Jf,Jg,Jh,Nat.reduceAdd,Ji,if_true,if_false,Jl,Jm,Jn,Jo,Jp,Jq,Jr,Js,Jt,Ju,Jv,Jw,Jx,Jy,Jz,JA,JB,JC,JD,JE, l1, l2, if_pos (i64_ok (z := (l.length : Int) - 1) (by omega)), h4, h5, h2, row_eq, drop6, retP, or_true, emptyB]
theorem saleroomref37_Exited_sem (σ : List MO) (l : List Ch) (L : PV) (hL : L.rowsOf 12 = some (l.map Ch.row)) (hl : l.length ≤ 1000) (n : Nat) (hn : 1 ≤ n) : evalF Tab n n_saleroomref37_Exited [L] σ = some (.bool (exitB l), σ) := by
  obtain ⟨n, rfl⟩ : ∃ k, n = k + 1 := ⟨n - 1, by omega⟩
  obtain ⟨l1, l2, l3⟩ := rows_len hL
  rw [List.length_map] at l1
  simp only [evalF, tab_saleroomref37_Exited, Option.bind_some, Sys.run]
  show ((bindPs [.sh (.one _)] _).bind _) = _
  simp -implicitDefEqProofs only [bindPs, bind1, bindK, Option.map_some, Option.bind_some, List.append_nil, List.nil_append, List.cons_append, if_true, l3]
  show (PT.ev _ saleroomref37_Exited_s _).bind _ = _
  simp -implicitDefEqProofs only [saleroomref37_Exited_s, ↓reduceIte,eq_self,JF,JG,JH,JI,JJ,JK,JL,JM,JN,JO,JP,JQ,JR,JS,JT,JU,JV,JW,JX,JY,J2,J3,J4,J5,J6,J7,J8,J9,Ja,Jb,Jc,Jd,Je,Jf,Jg,Jh,Nat.reduceAdd,Ji,if_true,if_false,Jl,Jm,Jn,Jo,Jp,Jq,Jr,Js,Jt,Ju,Jv,Jw,Jx,Jy,Jz,JA,JB,JC,JD,JE, l1, l2]
  by_cases h0 : l.length = 0
  · have hn : l = [] := List.length_eq_zero_iff.1 h0
    subst hn
    have h1 : ltB 0 (([] : List Ch).length : Int) = false := rfl
    rw [h1]
    simp -implicitDefEqProofs only [↓reduceIte,eq_self,JF,JG,JH,JI,JJ,JK,JL,JM,JN,JO,JP,JQ,JR,JS,JT,JU,JV,JW,JX,JY,J2,J3,J4,J5,J6,J7,J8,J9,Ja,Jb,Jc,Jd,Je,Jf,Jg,Jh,Nat.reduceAdd,Ji,if_true,if_false,Jl,Jm,Jn,Jo,Jp,Jq,Jr,Js,Jt,Ju,Jv,Jw,Jx,Jy,Jz,JA,JB,JC,JD,JE, retP, or_true]
    rfl
  · have h1 : ltB 0 (l.length : Int) = true := by rw [ltB_true]; omega
    obtain ⟨x, hx⟩ := get_ex (show l.length - 1 < l.length by omega)
    have h2 := rows_get (off := 6) hL (rows_chs hx)
    have e : ((l.length - 1 : Nat) : Int) = (l.length : Int) - 1 := by omega
    rw [e] at h2
    have h4 : leB 0 ((l.length : Int) - 1) = true := by rw [leB_true]; omega
    have h5 : ltB ((l.length : Int) - 1) (l.length : Int) = true := by rw [ltB_true]; omega
    have h6 : exitB l = emptyB x.w := by unfold exitB; rw [List.getLast?_eq_getElem?, hx]
    rw [h1, h6]
    simp -implicitDefEqProofs only [↓reduceIte,eq_self,JF,JG,JH,JI,JJ,JK,JL,JM,JN,JO,JP,JQ,JR,JS,JT,JU,JV,JW,JX,JY,J2,J3,J4,J5,J6,J7,J8,J9,Ja,Jb,Jc,Jd,Je,Jf,Jg,Jh,Nat.reduceAdd,Ji,if_true,if_false,Jl,Jm,Jn,Jo,Jp,Jq,Jr,Js,Jt,Ju,Jv,Jw,Jx,Jy,Jz,JA,JB,JC,JD,JE, l1, l2, if_pos (i64_ok (z := (l.length : Int) - 1) (by omega)), h4, h5, h2, row_eq, drop6, retP, or_true, emptyB]
end Go.Proofs.Ythjahianafohjaa
set_option maxRecDepth 100000
namespace Go.Proofs.Ythjahianafohjaa
open Go.Sx Go.Bf
def w0 : W6 := ⟨0, 0, 0, 0, 0, 0⟩
def wants (l : List Ch) : List W6 := w0 :: l.map Ch.w
def wa (W : List W6) (k : Nat) : W6 := (W[k]?).getD w0
def chx (l : List Ch) (i : Nat) : Ch := (l[i]?).getD ⟨w0, w0⟩
theorem w6_eq (a b : W6) : (eqB a.a b.a && (eqB a.b b.b && (eqB a.c b.c && (eqB a.d b.d && (eqB a.e b.e && eqB a.f b.f))))) = true ↔ a = b := by
  obtain ⟨a1, a2, a3, a4, a5, a6⟩ := a
  obtain ⟨b1, b2, b3, b4, b5, b6⟩ := b
  simp [Bool.and_eq_true, eqB_true]
theorem chx_get {l : List Ch} {i : Nat} {x : Ch} (h : l[i]? = some x) : chx l i = x := by simp [chx, h]
theorem wa_get {W : List W6} {i : Nat} {x : W6} (h : W[i]? = some x) : wa W i = x := by simp [wa, h]
theorem wants_len (l : List Ch) : (wants l).length = l.length + 1 := by simp [wants]
theorem wants_succ (l : List Ch) {i : Nat} (h : i < l.length) : wa (wants l) (i + 1) = (chx l i).w := by
  obtain ⟨x, hx⟩ := get_ex h
  simp [wants, wa, chx, hx]
theorem wants_ok {l : List Ch} (hok : ∀ x ∈ l, x.ok) (k : Nat) : (wa (wants l) k).ok := by
  have h0 : w0.ok := by simp [w0, W6.ok]
  cases k with
  | zero => exact h0
  | succ k =>
    by_cases h : k < l.length
    · rw [wants_succ l h]
      obtain ⟨x, hx⟩ := get_ex h
      rw [chx_get hx]; exact (hok x (List.mem_of_getElem? hx)).2
    · have : (wants l)[k + 1]? = none := List.getElem?_eq_none_iff.2 (by rw [wants_len]; omega)
      simp only [wa, this]; exact h0
section
variable (l : List Ch)
def qSrc (q : Nat) : Nat := (q / (l.length + 1)) % (l.length + 1)
def qDst (q : Nat) : Nat := q % (l.length + 1)
def qIdx (q : Nat) : Nat := q / (l.length + 1) / (l.length + 1)
def qEd (q : Nat) : Prop := wa (wants l) (qDst l q) = (chx l (qIdx l q)).w
def qWt (q : Nat) : Int := costW (chx l (qIdx l q)).p (wa (wants l) (qSrc l q)) - costW (chx l (qIdx l q)).p (chx l (qIdx l q)).w
def qM : Nat := l.length * (l.length + 1) * (l.length + 1)
def qQ (i k j : Nat) : Nat := (i * (l.length + 1) + k) * (l.length + 1) + j
end
theorem qDst_q {l : List Ch} {i k j : Nat} (hj : j < l.length + 1) : qDst l (qQ l i k j) = j := by
  unfold qDst qQ; rw [Nat.mul_add_mod', Nat.mod_eq_of_lt hj]
theorem q_div {l : List Ch} {i k j : Nat} (hj : j < l.length + 1) : qQ l i k j / (l.length + 1) = i * (l.length + 1) + k := by
  unfold qQ
  rw [Nat.mul_comm, Nat.mul_add_div (by omega), Nat.div_eq_of_lt hj, Nat.add_zero]
theorem qSrc_q {l : List Ch} {i k j : Nat} (hj : j < l.length + 1) (hk : k < l.length + 1) : qSrc l (qQ l i k j) = k := by
  unfold qSrc; rw [q_div hj, Nat.mul_add_mod', Nat.mod_eq_of_lt hk]
theorem qIdx_q {l : List Ch} {i k j : Nat} (hj : j < l.length + 1) (hk : k < l.length + 1) : qIdx l (qQ l i k j) = i := by
  unfold qIdx
  rw [q_div hj, Nat.mul_comm, Nat.mul_add_div (by omega), Nat.div_eq_of_lt hk, Nat.add_zero]
theorem q_lt {l : List Ch} {i k j : Nat} (hi : i < l.length) (hk : k < l.length + 1) (hj : j < l.length + 1) : qQ l i k j < qM l := by
  unfold qQ qM
  have h1 : i * (l.length + 1) + k + 1 ≤ l.length * (l.length + 1) := by
    calc i * (l.length + 1) + k + 1 ≤ i * (l.length + 1) + (l.length + 1) := by omega
      _ = (i + 1) * (l.length + 1) := by rw [Nat.add_mul]; omega
      _ ≤ l.length * (l.length + 1) := Nat.mul_le_mul_right _ (by omega)
  calc (i * (l.length + 1) + k) * (l.length + 1) + j < (i * (l.length + 1) + k) * (l.length + 1) + (l.length + 1) := by omega
    _ = (i * (l.length + 1) + k + 1) * (l.length + 1) := by rw [Nat.add_mul (i * (l.length + 1) + k)]; omega
    _ ≤ l.length * (l.length + 1) * (l.length + 1) := Nat.mul_le_mul_right _ h1
theorem q_nextk (l : List Ch) (i k : Nat) : qQ l i k (l.length + 1) = qQ l i (k + 1) 0 := by
  unfold qQ; rw [← Nat.add_assoc (i * (l.length + 1)) k 1, Nat.add_mul (i * (l.length + 1) + k) 1, Nat.one_mul]; rfl
theorem q_nexti (l : List Ch) (i : Nat) : qQ l i (l.length + 1) 0 = qQ l (i + 1) 0 0 := by
  unfold qQ; simp [Nat.add_mul]
theorem q_all (l : List Ch) : qQ l l.length 0 0 = qM l := by unfold qQ qM; simp
theorem q_zero (l : List Ch) : qQ l 0 0 0 = 0 := by unfold qQ; simp
theorem qM_le {l : List Ch} (hl : l.length ≤ 30) : qM l ≤ 28830 := by
  unfold qM
  calc l.length * (l.length + 1) * (l.length + 1) ≤ 30 * (30 + 1) * (30 + 1) := Nat.mul_le_mul (Nat.mul_le_mul hl (by omega)) (by omega)
    _ = 28830 := rfl
/-- Every number below is one. -/
theorem q_ex {l : List Ch} {q : Nat} (h : q < qM l) : ∃ i k j, i < l.length ∧ k < l.length + 1 ∧ j < l.length + 1 ∧ q = qQ l i k j := by
  refine ⟨qIdx l q, qSrc l q, qDst l q, ?_, Nat.mod_lt _ (by omega), Nat.mod_lt _ (by omega), ?_⟩
  · unfold qIdx qM at *
    rw [Nat.div_div_eq_div_mul, Nat.div_lt_iff_lt_mul (Nat.mul_pos (by omega) (by omega)), ← Nat.mul_assoc]; exact h
  · unfold qIdx qSrc qDst qQ
    rw [Nat.div_add_mod', Nat.div_add_mod']
/-- Before requirement q in round r: the values reckoned, and whether the round is calm so far. -/
def CG (l : List Ch) (vs : List Int) (b : Bool) (T r q : Nat) : Prop :=
  vs.length = l.length + 1 ∧ T + qM l ≤ q + r * 28830 ∧ ∃ c t pe, EInv (l.length + 1) (qM l) (qSrc l) (qDst l) (qEd l) (qWt l) (fun x => -at' vs x) c t pe T r q ∧ (b = true ↔ ∀ x, x < l.length + 1 → c x ≠ r)
theorem CG.bd {l : List Ch} {vs : List Int} {b : Bool} {T r q : Nat} (h : CG l vs b T r q) (hq : q ≤ qM l) (hr : r ≤ 32) {x : Nat} (hx : x < l.length + 1) : 0 ≤ at' vs x ∧ at' vs x ≤ 24000000000000 := by
  obtain ⟨_, h1, c, t, pe, h2, _⟩ := h
  have := h2.low x hx
  have hT : T ≤ 1000000 := by omega
  omega
section
variable (l : List Ch) (hok : ∀ x ∈ l, x.ok)
include hok
theorem wt_bd {q : Nat} (hq : q < qM l) : -24000000 ≤ qWt l q ∧ qWt l q ≤ 24000000 := by
  obtain ⟨i, k, j, hi, hk, hj, rfl⟩ := q_ex hq
  unfold qWt
  rw [qIdx_q hj hk, qSrc_q hj hk]
  obtain ⟨x, hx⟩ := get_ex hi
  have hxo := hok x (List.mem_of_getElem? hx)
  rw [chx_get hx]
  have a1 := cost_bd hxo.1 (wants_ok hok k)
  have a2 := cost_bd hxo.1 hxo.2
  omega
/-- A value is raised. -/
theorem CG.raise {vs : List Int} {b : Bool} {T r i k j : Nat} (h : CG l vs b T r (qQ l i k j)) (hr : 1 ≤ r) (hi : i < l.length) (hk : k < l.length + 1) (hj : j < l.length + 1) (hw : wa (wants l) j = (chx l i).w)
    (hlt : at' vs j < at' vs k + costW (chx l i).p (chx l i).w - costW (chx l i).p (wa (wants l) k)) :
    j ≠ k ∧ CG l (vs.set j (at' vs k + costW (chx l i).p (chx l i).w - costW (chx l i).p (wa (wants l) k))) false (T + 1) r (qQ l i k j + 1) := by
  obtain ⟨h0, h1, c, t, pe, h2, h3⟩ := h
  have hed : qEd l (qQ l i k j) := by unfold qEd; rw [qDst_q hj, qIdx_q hj hk]; exact hw
  have hwt : qWt l (qQ l i k j) = costW (chx l i).p (wa (wants l) k) - costW (chx l i).p (chx l i).w := by unfold qWt; rw [qIdx_q hj hk, qSrc_q hj hk]
  have hq := q_lt hi hk hj
  have hjk : j ≠ k := by rintro rfl; rw [hw] at hlt; omega
  refine ⟨hjk, by simpa using h0, by omega, upd c j r, upd t j (T + 1), upd pe j (qQ l i k j), ?_, ?_⟩
  · have hl := h2.lower hq hed (by rw [qSrc_q hj hk]; exact hk) (by rw [qDst_q hj]; exact hj) hr (wt_bd l hok hq).1 (by rw [qSrc_q hj hk, qDst_q hj]; intro e; exact absurd e.symm hjk) (by simp only [qSrc_q hj hk, qDst_q hj, hwt]; omega)
    rw [qSrc_q hj hk, qDst_q hj, hwt] at hl
    have hu : upd (fun x => -at' vs x) j (-at' vs k + (costW (chx l i).p (wa (wants l) k) - costW (chx l i).p (chx l i).w)) = fun x => -at' (vs.set j (at' vs k + costW (chx l i).p (chx l i).w - costW (chx l i).p (wa (wants l) k))) x := by
      funext x
      rw [at'_set _ (by omega)]
      simp only [upd]
      split <;> omega
    rw [hu] at hl
    exact hl
  · constructor
    · intro h; cases h
    · intro h; exact absurd (upd_eq c j r) (h j hj)
omit hok in
/-- Nothing is raised. -/
theorem CG.hold {vs : List Int} {b : Bool} {T r i k j : Nat} (h : CG l vs b T r (qQ l i k j)) (hk : k < l.length + 1) (hj : j < l.length + 1)
    (hno : wa (wants l) j = (chx l i).w → at' vs k + costW (chx l i).p (chx l i).w - costW (chx l i).p (wa (wants l) k) ≤ at' vs j) : CG l vs b (T + 1) r (qQ l i k j + 1) := by
  obtain ⟨h0, h1, c, t, pe, h2, h3⟩ := h
  refine ⟨h0, by omega, c, t, pe, h2.keep ?_, h3⟩
  intro hed
  unfold qEd at hed
  rw [qDst_q hj, qIdx_q hj hk] at hed
  have := hno hed
  simp only [qSrc_q hj hk, qDst_q hj]
  unfold qWt
  rw [qIdx_q hj hk, qSrc_q hj hk]
  omega
end
/-- The next round. -/
theorem CG.next {l : List Ch} {vs : List Int} {b : Bool} {T r : Nat} (hl : l.length ≤ 30) (h : CG l vs b T r (qM l)) : CG l vs true T (r + 1) 0 := by
  obtain ⟨h0, h1, c, t, pe, h2, h3⟩ := h
  have := qM_le hl
  refine ⟨h0, by omega, c, t, pe, h2.round, ?_⟩
  exact ⟨fun _ x hx hc => (by have := h2.cle x hx; omega), fun _ => rfl⟩
theorem CG.start (l : List Ch) (hl : l.length ≤ 30) : CG l (List.replicate (l.length + 1) 0) true 0 1 0 := by
  have := qM_le hl
  refine ⟨by simp, by omega, _, _, _, EInv.start _ _ _ _ _ _ _ ?_, ?_⟩
  · intro x hx
    simp [at', List.getElem?_replicate, hx]
  · exact ⟨fun _ x hx hc => (by cases hc), fun _ => rfl⟩
/-- A calm round shows values. -/
theorem CG.calm {l : List Ch} {vs : List Int} {T r : Nat} (h : CG l vs true T r (qM l)) : Pot l := by
  obtain ⟨h0, h1, c, t, pe, h2, h3⟩ := h
  have hs := h2.stable (fun e _ => Nat.mod_lt _ (by omega)) (h3.1 rfl)
  refine ⟨fun x => at' vs (x + 1), fun x y hx hy => ?_⟩
  have hq := q_lt (l := l) (i := x) (k := y + 1) (j := x + 1) hx (by omega) (by omega)
  have := hs _ hq (by unfold qEd; rw [qDst_q (by omega), qIdx_q (by omega) (by omega), wants_succ l hx])
  unfold qWt at this
  simp only [qDst_q (l := l) (i := x) (k := y + 1) (j := x + 1) (by omega), qSrc_q (l := l) (i := x) (k := y + 1) (j := x + 1) (by omega) (by omega), qIdx_q (l := l) (i := x) (k := y + 1) (j := x + 1) (by omega) (by omega), wants_succ l hy] at this
  have e1 : ∀ z, z < l.length → chAt l (z : Int) = chx l z := by
    intro z hz
    obtain ⟨c, hc⟩ := get_ex hz
    rw [chx_get hc]
    simp [chAt, hc]
  unfold gN gainC
  rw [e1 x hx, e1 y hy]
  show at' vs (y + 1) ≤ at' vs (x + 1) + _
  omega
end Go.Proofs.Ythjahianafohjaa
set_option maxRecDepth 100000
namespace Go.Proofs.Ythjahianafohjaa
open Go.Sx Go.Bf
theorem low_ex (f : Nat → Int) : ∀ N, ∃ M : Int, ∀ x, x < N → M ≤ f x
  | 0 => ⟨0, fun x h => by omega⟩
  | N + 1 => by
    obtain ⟨M, h⟩ := low_ex f N
    refine ⟨min M (f N), fun x hx => ?_⟩
    by_cases e : x = N
    · subst e; omega
    · have := h x (by omega); omega
theorem chAt_chx {l : List Ch} {z : Nat} (hz : z < l.length) : chAt l (z : Int) = chx l z := by
  obtain ⟨c, hc⟩ := get_ex hz
  rw [chx_get hc]
  simp [chAt, hc]
theorem cost_w0 (p : W6) : costW p w0 = 0 := by simp [costW, w0]
def vf (v0 : Int) (p : Nat → Int) : Nat → Int
  | 0 => -v0
  | x + 1 => -p x
/-- Values that exceed no gain meet all requirements. -/
theorem pot_req {l : List Ch} (h : Pot l) : ∃ π : Nat → Int, ∀ e, e < qM l → qEd l e → π (qDst l e) ≤ π (qSrc l e) + qWt l e := by
  obtain ⟨p, hp⟩ := h
  have hp : ∀ x y, x < l.length → y < l.length → p y ≤ p x + (costW (chx l x).p (chx l y).w - costW (chx l x).p (chx l x).w) := by
    intro x y hx hy
    have := hp x y hx hy
    unfold gN gainC at this
    rwa [chAt_chx hx, chAt_chx hy] at this
  have same : ∀ x y, x < l.length → y < l.length → (chx l x).w = (chx l y).w → p x = p y := by
    intro x y hx hy e
    have h1 := hp x y hx hy
    have h2 := hp y x hy hx
    rw [e] at h1 h2
    omega
  obtain ⟨M, hM⟩ := low_ex (fun x => p x - costW (chx l x).p (chx l x).w) l.length
  have base : ∃ v0 : Int, (∀ y, y < l.length → (chx l y).w = w0 → v0 = p y) ∧ (∀ x, x < l.length → v0 ≤ p x - costW (chx l x).p (chx l x).w) := by
    by_cases hz : ∃ y, y < l.length ∧ (chx l y).w = w0
    · obtain ⟨y, hy, hw⟩ := hz
      refine ⟨p y, fun z hz hzw => same y z hy hz (hw.trans hzw.symm), fun x hx => ?_⟩
      have := hp x y hx hy
      rw [hw, cost_w0] at this; omega
    · exact ⟨M, fun y hy hw => absurd ⟨y, hy, hw⟩ hz, hM⟩
  obtain ⟨v0, b1, b2⟩ := base
  refine ⟨vf v0 p, fun e he hed => ?_⟩
  obtain ⟨i, k, j, hi, hk, hj, rfl⟩ := q_ex he
  unfold qEd at hed
  unfold qWt
  rw [qDst_q hj, qIdx_q hj hk] at hed
  rw [qDst_q hj, qSrc_q hj hk, qIdx_q hj hk]
  have e1 : vf v0 p j = -p i := by
    cases j with
    | zero => have := b1 i hi hed.symm; simp only [vf]; omega
    | succ x =>
      rw [wants_succ l (by omega)] at hed
      have := same x i (by omega) hi hed
      simp only [vf]; omega
  rw [e1]
  cases k with
  | zero =>
    have := b2 i hi
    rw [show wa (wants l) 0 = w0 from rfl, cost_w0]
    simp only [vf]; omega
  | succ y =>
    rw [wants_succ l (by omega)]
    have := hp i y hi (by omega)
    simp only [vf]; omega
def wrows (l : List Ch) : List (List PV) := (wants l).map fun w => w.pv
def cn (σ : List MO) (l : List Ch) (P : PV) (vs : List Int) (is : List Int) (bs : List Bool) : PEnv :=
  { i := is, b := bs, v := [P, .sl 6 (wrows l), .msl σ.length 0 (l.length + 1) (l.length + 1) 1], m := σ ++ [.cells (icell vs) 2], k := σ.length }
theorem wrows_get {l : List Ch} {k : Nat} (h : k < l.length + 1) : (wrows l)[k]? = some (wa (wants l) k).pv := by
  obtain ⟨w, hw⟩ := get_ex (l := wants l) (i := k) (by rw [wants_len]; exact h)
  simp [wrows, wa, hw]
theorem chx_mem {l : List Ch} {i : Nat} (h : i < l.length) : l[i]? = some (chx l i) := by
  obtain ⟨x, hx⟩ := get_ex h
  rw [hx, chx_get hx]
section
variable (σ : List MO) (l : List Ch) (P : PV) (hP : P.rowsOf 12 = some (l.map Ch.row)) (hok : ∀ x ∈ l, x.ok) (hl : l.length ≤ 30) (n : Nat) (hn : 1 ≤ n)
include hP hok hl in
theorem cn4 {vs : List Int} {b : Bool} {T r i k j : Nat} (h : CG l vs b T r (qQ l i k j)) (hr : 1 ≤ r) (hi : i < l.length) (hk : k < l.length + 1) (hj : j < l.length + 1) (R : Int) (z : Int)
    (hz : z = at' vs k + costW (chx l i).p (chx l i).w - costW (chx l i).p (wa (wants l) k)) :
    ∃ vs' b', CG l vs' b' (T + 1) r (qQ l i k j + 1) ∧ at' vs' k = at' vs k ∧ ∀ fuel, saleroomref37_Consistent_S.loop (evalF Tab n) (fuel + 1) 4 (cn σ l P vs [R, (i : Int), (k : Int), z, (j : Int)] [b]) = saleroomref37_Consistent_S.loop (evalF Tab n) fuel 4 (cn σ l P vs' [R, (i : Int), (k : Int), z, ((j + 1 : Nat) : Int)] [b']) := by
  obtain ⟨p1, p2, p3⟩ := rows_len hP
  rw [List.length_map] at p1
  have hW : (PV.sl 6 (wrows l)).rowsOf 6 = some (wrows l) := sl_rows _ _
  obtain ⟨q1, q2, q3⟩ := rows_len hW
  rw [show (wrows l).length = l.length + 1 by simp [wrows, wants_len]] at q1
  have h6 := rows_get (off := 6) hP (rows_chs (chx_mem hi))
  have hj0 := rows_get (off := 0) hW (wrows_get hj)
  have di : decide (i < l.length) = true := decide_eq_true hi
  have dj : decide (j < l.length + 1) = true := decide_eq_true hj
  have hup := up_ok (show j ≤ 1000000000 by omega)
  have hvs : vs.length = l.length + 1 := h.1
  have mj := locEl_msl (h := σ.length) (o := 0) (cap := l.length + 1) (sz := 1) (off := 0) hj
  have dv := icell_drop (at'_get (l := vs) (i := j) (by omega))
  have sv := icell_set (l := vs) (i := j) z (by omega)
  have lv : j + 1 ≤ (icell vs).length := by rw [icell_len]; omega
  have hwe := w6_eq (wa (wants l) j) (chx l i).w
  have d6 : (6 : Nat) ≤ 12 - 6 := by decide
  simp only [nat_succ j]
  generalize hE : (eqB (wa (wants l) j).a (chx l i).w.a && (eqB (wa (wants l) j).b (chx l i).w.b && (eqB (wa (wants l) j).c (chx l i).w.c && (eqB (wa (wants l) j).d (chx l i).w.d && (eqB (wa (wants l) j).e (chx l i).w.e && eqB (wa (wants l) j).f (chx l i).w.f))))) = E at *
  cases E with
  | false =>
    have hne : wa (wants l) j ≠ (chx l i).w := fun e => by have := hwe.2 e; cases this
    refine ⟨vs, b, h.hold l hk hj (fun e => absurd e hne), rfl, fun fuel => ?_⟩
    rw [Sys.loop, show saleroomref37_Consistent_S.loops[4]? = some saleroomref37_Consistent_t4 from rfl, Option.bind_some]
    simp -implicitDefEqProofs only [saleroomref37_Consistent_t4, ↓reduceIte,eq_self,JF,JG,JH,JI,JJ,JK,JL,JM,JN,JO,JP,JQ,JR,JS,JT,JU,JV,JW,JX,JY,J2,J3,J4,J5,J6,J7,J8,J9,Ja,Jb,Jc,Jd,Je,Jf,Jg,Jh,Nat.reduceAdd,Ji,if_true,if_false,Jl,Jm,Jn,Jo,Jp,Jq,Jr,Js,Jt,Ju,Jv,Jw,Jx,Jy,Jz,JA,JB,JC,JD,JE, cn, p1, q1, q2, ltB_nat, di, dj, le0, h6, hj0, row_eq, drop6, W6.pv, hE, if_pos hup]
  | true =>
    have hw := hwe.1 rfl
    by_cases hlt : at' vs j < z
    · have e1 : ltB (at' vs j) z = true := ltB_true.2 hlt
      obtain ⟨hjk, hc⟩ := h.raise l hok hr hi hk hj hw (by rw [← hz]; exact hlt)
      rw [← hz] at hc
      refine ⟨vs.set j z, false, hc, ?_, fun fuel => ?_⟩
      · rw [at'_set _ (by omega), if_neg (fun e => hjk e.symm)]
      · rw [Sys.loop, show saleroomref37_Consistent_S.loops[4]? = some saleroomref37_Consistent_t4 from rfl, Option.bind_some]
        simp -implicitDefEqProofs only [saleroomref37_Consistent_t4, ↓reduceIte,eq_self,JF,JG,JH,JI,JJ,JK,JL,JM,JN,JO,JP,JQ,JR,JS,JT,JU,JV,JW,JX,JY,J2,J3,J4,J5,J6,J7,J8,J9,Ja,Jb,Jc,Jd,Je,Jf,Jg,Jh,Nat.reduceAdd,Ji,if_true,if_false,Jl,Jm,Jn,Jo,Jp,Jq,Jr,Js,Jt,Ju,Jv,Jw,Jx,Jy,Jz,JA,JB,JC,JD,JE, cn, p1, q1, q2, lenM, ltB_nat, di, dj, le0, h6, hj0, row_eq, drop6, W6.pv, hE, mj, get_0, set_0, MO.list, Nat.mul_one, Nat.zero_add, dv, Nat.le_add_left, e1, lv, sv, if_pos hup]
    · have e1 : ltB (at' vs j) z = false := ltB_false.2 hlt
      refine ⟨vs, b, h.hold l hk hj (fun _ => by rw [← hz]; omega), rfl, fun fuel => ?_⟩
      rw [Sys.loop, show saleroomref37_Consistent_S.loops[4]? = some saleroomref37_Consistent_t4 from rfl, Option.bind_some]
      simp -implicitDefEqProofs only [saleroomref37_Consistent_t4, ↓reduceIte,eq_self,JF,JG,JH,JI,JJ,JK,JL,JM,JN,JO,JP,JQ,JR,JS,JT,JU,JV,JW,JX,JY,J2,J3,J4,J5,J6,J7,J8,J9,Ja,Jb,Jc,Jd,Je,Jf,Jg,Jh,Nat.reduceAdd,Ji,if_true,if_false,Jl,Jm,Jn,Jo,Jp,Jq,Jr,Js,Jt,Ju,Jv,Jw,Jx,Jy,Jz,JA,JB,JC,JD,JE, cn, p1, q1, q2, lenM, ltB_nat, di, dj, le0, h6, hj0, row_eq, drop6, W6.pv, hE, mj, get_0, MO.list, Nat.mul_one, Nat.zero_add, dv, Nat.le_add_left, e1, if_pos hup]
include hP hok hl in
theorem cn4s {r i k : Nat} (hr : 1 ≤ r) (hi : i < l.length) (hk : k < l.length + 1) (R z : Int) : ∀ d j, j + d = l.length + 1 → ∀ (vs : List Int) (b : Bool) (T : Nat), CG l vs b T r (qQ l i k j) →
    z = at' vs k + costW (chx l i).p (chx l i).w - costW (chx l i).p (wa (wants l) k) →
    ∃ vs' b' T', CG l vs' b' T' r (qQ l i (k + 1) 0) ∧ ∀ fuel, saleroomref37_Consistent_S.loop (evalF Tab n) (fuel + d + 1) 4 (cn σ l P vs [R, (i : Int), (k : Int), z, (j : Int)] [b]) = saleroomref37_Consistent_S.loop (evalF Tab n) fuel 3 (cn σ l P vs' [R, (i : Int), ((k + 1 : Nat) : Int)] [b']) := by
  intro d
  induction d with
  | zero =>
    intro j hj vs b T h hz
    rw [Nat.add_zero] at hj; subst hj
    refine ⟨vs, b, T, by rw [← q_nextk]; exact h, fun fuel => ?_⟩
    have hW : (PV.sl 6 (wrows l)).rowsOf 6 = some (wrows l) := sl_rows _ _
    obtain ⟨q1, q2, q3⟩ := rows_len hW
    rw [show (wrows l).length = l.length + 1 by simp [wrows, wants_len]] at q1
    have dj : decide (l.length + 1 < l.length + 1) = false := by simp
    have hup := up_ok (show k ≤ 1000000000 by omega)
    rw [nat_succ k, Sys.loop, show saleroomref37_Consistent_S.loops[4]? = some saleroomref37_Consistent_t4 from rfl, Option.bind_some]
    simp -implicitDefEqProofs only [saleroomref37_Consistent_t4, ↓reduceIte,eq_self,JF,JG,JH,JI,JJ,JK,JL,JM,JN,JO,JP,JQ,JR,JS,JT,JU,JV,JW,JX,JY,J2,J3,J4,J5,J6,J7,J8,J9,Ja,Jb,Jc,Jd,Je,Jf,Jg,Jh,Nat.reduceAdd,Ji,if_true,if_false,Jl,Jm,Jn,Jo,Jp,Jq,Jr,Js,Jt,Ju,Jv,Jw,Jx,Jy,Jz,JA,JB,JC,JD,JE, cn, q1, q2, ltB_nat, dj, if_pos hup]
  | succ d ih =>
    intro j hj vs b T h hz
    obtain ⟨vs1, b1, g1, g2, g3⟩ := cn4 σ l P hP hok hl n h hr hi hk (by omega) R z hz
    obtain ⟨vs2, b2, T2, k1, k2⟩ := ih (j + 1) (by omega) vs1 b1 (T + 1) g1 (by rw [g2]; exact hz)
    refine ⟨vs2, b2, T2, k1, fun fuel => ?_⟩
    rw [show fuel + (d + 1) + 1 = (fuel + d + 1) + 1 from rfl, g3, k2]
include hP hok hl hn in
theorem cn3s {r i : Nat} (hr : 1 ≤ r) (hr2 : r ≤ 32) (hi : i < l.length) (R : Int) : ∀ d k, k + d = l.length + 1 → ∀ (vs : List Int) (b : Bool) (T : Nat), CG l vs b T r (qQ l i k 0) →
    ∃ vs' b' T', CG l vs' b' T' r (qQ l (i + 1) 0 0) ∧ ∀ fuel, saleroomref37_Consistent_S.loop (evalF Tab n) (fuel + d * (l.length + 3) + 1) 3 (cn σ l P vs [R, (i : Int), (k : Int)] [b]) = saleroomref37_Consistent_S.loop (evalF Tab n) fuel 2 (cn σ l P vs' [R, ((i + 1 : Nat) : Int)] [b']) := by
  obtain ⟨p1, p2, p3⟩ := rows_len hP
  rw [List.length_map] at p1
  have hW : (PV.sl 6 (wrows l)).rowsOf 6 = some (wrows l) := sl_rows _ _
  obtain ⟨q1, q2, q3⟩ := rows_len hW
  rw [show (wrows l).length = l.length + 1 by simp [wrows, wants_len]] at q1
  intro d
  induction d with
  | zero =>
    intro k hk vs b T h
    rw [Nat.add_zero] at hk; subst hk
    refine ⟨vs, b, T, by rw [← q_nexti]; exact h, fun fuel => ?_⟩
    have dj : decide (l.length + 1 < l.length + 1) = false := by simp
    have hup := up_ok (show i ≤ 1000000000 by omega)
    rw [nat_succ i, Nat.zero_mul, Nat.add_zero, Sys.loop, show saleroomref37_Consistent_S.loops[3]? = some saleroomref37_Consistent_t3 from rfl, Option.bind_some]
    simp -implicitDefEqProofs only [saleroomref37_Consistent_t3, ↓reduceIte,eq_self,JF,JG,JH,JI,JJ,JK,JL,JM,JN,JO,JP,JQ,JR,JS,JT,JU,JV,JW,JX,JY,J2,J3,J4,J5,J6,J7,J8,J9,Ja,Jb,Jc,Jd,Je,Jf,Jg,Jh,Nat.reduceAdd,Ji,if_true,if_false,Jl,Jm,Jn,Jo,Jp,Jq,Jr,Js,Jt,Ju,Jv,Jw,Jx,Jy,Jz,JA,JB,JC,JD,JE, cn, q1, q2, ltB_nat, dj, if_pos hup]
  | succ d ih =>
    intro k hk vs b T h
    have hkl : k < l.length + 1 := by omega
    have hbd := h.bd (by have := q_lt (l := l) (i := i) (k := k) (j := 0) hi hkl (by omega); omega) hr2 hkl
    obtain ⟨vs1, b1, T1, g1, g2⟩ := cn4s σ l P hP hok hl n hr hi hkl R _ (l.length + 1) 0 (by omega) vs b T h rfl
    obtain ⟨vs2, b2, T2, k1, k2⟩ := ih (k + 1) (by omega) vs1 b1 T1 g1
    refine ⟨vs2, b2, T2, k1, fun fuel => ?_⟩
    rw [show fuel + (d + 1) * (l.length + 3) + 1 = ((fuel + d * (l.length + 3) + 1) + (l.length + 1) + 1) + 1 by rw [Nat.add_mul]; omega, ← k2, ← g2]
    have hvs : vs.length = l.length + 1 := h.1
    have hx := chx_mem hi
    have hxo := hok _ (List.mem_of_getElem? hx)
    have hwo := wants_ok hok k
    have h0 := rows_get (off := 0) hP (rows_chs hx)
    have h6 := rows_get (off := 6) hP (rows_chs hx)
    have hk0 := rows_get (off := 0) hW (wrows_get hkl)
    have di : decide (i < l.length) = true := decide_eq_true hi
    have dk : decide (k < l.length + 1) = true := decide_eq_true hkl
    have mk := locEl_msl (h := σ.length) (o := 0) (cap := l.length + 1) (sz := 1) (off := 0) hkl
    have dv := icell_drop (at'_get (l := vs) (i := k) (by omega))
    have c1 := rcost37_sem (σ ++ [.cells (icell vs) 2]) (chx l i).p (chx l i).w hxo.1 hxo.2 n hn
    have c2 := rcost37_sem (σ ++ [.cells (icell vs) 2]) (chx l i).p (wa (wants l) k) hxo.1 hwo n hn
    have b1 := cost_bd hxo.1 hxo.2
    have b2 := cost_bd hxo.1 hwo
    have t1 : ∀ a b c d e f g h i j k l : PV, List.take 6 [a, b, c, d, e, f, g, h, i, j, k, l] = [a, b, c, d, e, f] := fun _ _ _ _ _ _ _ _ _ _ _ _ => rfl
    generalize costW (chx l i).p (chx l i).w = z1 at *
    generalize costW (chx l i).p (wa (wants l) k) = z2 at *
    have o1 := i64_ok (z := at' vs k + z1) (by omega)
    have o2 := i64_ok (z := at' vs k + z1 - z2) (by omega)
    simp only [n_saleroomref37_cost, W6.pv] at c1 c2
    rw [Sys.loop, show saleroomref37_Consistent_S.loops[3]? = some saleroomref37_Consistent_t3 from rfl, Option.bind_some]
    have E : PT.ev (evalF Tab n) saleroomref37_Consistent_t3 (cn σ l P vs [R, (i : Int), (k : Int)] [b]) = some (.jump 4 (cn σ l P vs [R, (i : Int), (k : Int), at' vs k + z1 - z2, 0] [b])) := by
      simp -implicitDefEqProofs only [saleroomref37_Consistent_t3, ↓reduceIte,eq_self,JF,JG,JH,JI,JJ,JK,JL,JM,JN,JO,JP,JQ,JR,JS,JT,JU,JV,JW,JX,JY,J2,J3,J4,J5,J6,J7,J8,J9,Ja,Jb,Jc,Jd,Je,Jf,Jg,Jh,Nat.reduceAdd,Ji,if_true,if_false,Jl,Jm,Jn,Jo,Jp,Jq,Jr,Js,Jt,Ju,Jv,Jw,Jx,Jy,Jz,JA,JB,JC,JD,JE, cn, p1, q1, q2, lenM, ltB_nat, di, dk, le0, h0, h6, hk0, row_eq, drop6, t1, W6.pv, Nat.reduceLeDiff]
      repeat' (first
        | with_reducible rfl
        | apply ev_both
        | (unfold saleroomref37_Consistent_t3_b1; simp -implicitDefEqProofs only [↓reduceIte,eq_self,JF,JG,JH,JI,JJ,JK,JL,JM,JN,JO,JP,JQ,JR,JS,JT,JU,JV,JW,JX,JY,J2,J3,J4,J5,J6,J7,J8,J9,Ja,Jb,Jc,Jd,Je,Jf,Jg,Jh,Nat.reduceAdd,Ji,if_true,if_false,Jl,Jm,Jn,Jo,Jp,Jq,Jr,Js,Jt,Ju,Jv,Jw,Jx,Jy,Jz,JA,JB,JC,JD,JE, mk, get_0, MO.list, Nat.mul_one, Nat.zero_add, dv, Nat.le_add_left, c1, c2, if_pos o1, if_pos o2]; done)
        | (unfold saleroomref37_Consistent_t3_b1; simp -implicitDefEqProofs only [↓reduceIte,eq_self,JF,JG,JH,JI,JJ,JK,JL,JM,JN,JO,JP,JQ,JR,JS,JT,JU,JV,JW,JX,JY,J2,J3,J4,J5,J6,J7,J8,J9,Ja,Jb,Jc,Jd,Je,Jf,Jg,Jh,Nat.reduceAdd,Ji,if_true,if_false,Jl,Jm,Jn,Jo,Jp,Jq,Jr,Js,Jt,Ju,Jv,Jw,Jx,Jy,Jz,JA,JB,JC,JD,JE, mk, get_0, MO.list, Nat.mul_one, Nat.zero_add, dv, Nat.le_add_left, c1, c2, if_pos o1, if_pos o2])
        | (unfold saleroomref37_Consistent_t3_b2; simp -implicitDefEqProofs only [↓reduceIte,eq_self,JF,JG,JH,JI,JJ,JK,JL,JM,JN,JO,JP,JQ,JR,JS,JT,JU,JV,JW,JX,JY,J2,J3,J4,J5,J6,J7,J8,J9,Ja,Jb,Jc,Jd,Je,Jf,Jg,Jh,Nat.reduceAdd,Ji,if_true,if_false,Jl,Jm,Jn,Jo,Jp,Jq,Jr,Js,Jt,Ju,Jv,Jw,Jx,Jy,Jz,JA,JB,JC,JD,JE, mk, get_0, MO.list, Nat.mul_one, Nat.zero_add, dv, Nat.le_add_left, c1, c2, if_pos o1, if_pos o2]; done)
        | (unfold saleroomref37_Consistent_t3_b2; simp -implicitDefEqProofs only [↓reduceIte,eq_self,JF,JG,JH,JI,JJ,JK,JL,JM,JN,JO,JP,JQ,JR,JS,JT,JU,JV,JW,JX,JY,J2,J3,J4,J5,J6,J7,J8,J9,Ja,Jb,Jc,Jd,Je,Jf,Jg,Jh,Nat.reduceAdd,Ji,if_true,if_false,Jl,Jm,Jn,Jo,Jp,Jq,Jr,Js,Jt,Ju,Jv,Jw,Jx,Jy,Jz,JA,JB,JC,JD,JE, mk, get_0, MO.list, Nat.mul_one, Nat.zero_add, dv, Nat.le_add_left, c1, c2, if_pos o1, if_pos o2])
        | (unfold saleroomref37_Consistent_t3_b3; simp -implicitDefEqProofs only [↓reduceIte,eq_self,JF,JG,JH,JI,JJ,JK,JL,JM,JN,JO,JP,JQ,JR,JS,JT,JU,JV,JW,JX,JY,J2,J3,J4,J5,J6,J7,J8,J9,Ja,Jb,Jc,Jd,Je,Jf,Jg,Jh,Nat.reduceAdd,Ji,if_true,if_false,Jl,Jm,Jn,Jo,Jp,Jq,Jr,Js,Jt,Ju,Jv,Jw,Jx,Jy,Jz,JA,JB,JC,JD,JE, mk, get_0, MO.list, Nat.mul_one, Nat.zero_add, dv, Nat.le_add_left, c1, c2, if_pos o1, if_pos o2]; done)
        | (unfold saleroomref37_Consistent_t3_b3; simp -implicitDefEqProofs only [↓reduceIte,eq_self,JF,JG,JH,JI,JJ,JK,JL,JM,JN,JO,JP,JQ,JR,JS,JT,JU,JV,JW,JX,JY,J2,J3,J4,J5,J6,J7,J8,J9,Ja,Jb,Jc,Jd,Je,Jf,Jg,Jh,Nat.reduceAdd,Ji,if_true,if_false,Jl,Jm,Jn,Jo,Jp,Jq,Jr,Js,Jt,Ju,Jv,Jw,Jx,Jy,Jz,JA,JB,JC,JD,JE, mk, get_0, MO.list, Nat.mul_one, Nat.zero_add, dv, Nat.le_add_left, c1, c2, if_pos o1, if_pos o2])
        | (unfold saleroomref37_Consistent_t3_b4; simp -implicitDefEqProofs only [↓reduceIte,eq_self,JF,JG,JH,JI,JJ,JK,JL,JM,JN,JO,JP,JQ,JR,JS,JT,JU,JV,JW,JX,JY,J2,J3,J4,J5,J6,J7,J8,J9,Ja,Jb,Jc,Jd,Je,Jf,Jg,Jh,Nat.reduceAdd,Ji,if_true,if_false,Jl,Jm,Jn,Jo,Jp,Jq,Jr,Js,Jt,Ju,Jv,Jw,Jx,Jy,Jz,JA,JB,JC,JD,JE, mk, get_0, MO.list, Nat.mul_one, Nat.zero_add, dv, Nat.le_add_left, c1, c2, if_pos o1, if_pos o2]; done)
        | (unfold saleroomref37_Consistent_t3_b4; simp -implicitDefEqProofs only [↓reduceIte,eq_self,JF,JG,JH,JI,JJ,JK,JL,JM,JN,JO,JP,JQ,JR,JS,JT,JU,JV,JW,JX,JY,J2,J3,J4,J5,J6,J7,J8,J9,Ja,Jb,Jc,Jd,Je,Jf,Jg,Jh,Nat.reduceAdd,Ji,if_true,if_false,Jl,Jm,Jn,Jo,Jp,Jq,Jr,Js,Jt,Ju,Jv,Jw,Jx,Jy,Jz,JA,JB,JC,JD,JE, mk, get_0, MO.list, Nat.mul_one, Nat.zero_add, dv, Nat.le_add_left, c1, c2, if_pos o1, if_pos o2]))
    rw [E]
    rfl
include hP hok hl hn in
theorem cn2s {r : Nat} (hr : 1 ≤ r) (hr2 : r ≤ 32) (R : Int) : ∀ d i, i + d = l.length → ∀ (vs : List Int) (b : Bool) (T : Nat), CG l vs b T r (qQ l i 0 0) →
    ∃ vs' b' T', CG l vs' b' T' r (qM l) ∧ ∀ fuel, saleroomref37_Consistent_S.loop (evalF Tab n) (fuel + d * ((l.length + 1) * (l.length + 3) + 2)) 2 (cn σ l P vs [R, (i : Int)] [b]) = saleroomref37_Consistent_S.loop (evalF Tab n) fuel 2 (cn σ l P vs' [R, (l.length : Int)] [b']) := by
  obtain ⟨p1, p2, p3⟩ := rows_len hP
  rw [List.length_map] at p1
  intro d
  induction d with
  | zero =>
    intro i hi vs b T h
    rw [Nat.add_zero] at hi; subst hi
    exact ⟨vs, b, T, by rw [← q_all]; exact h, fun fuel => by rw [Nat.zero_mul, Nat.add_zero]⟩
  | succ d ih =>
    intro i hi vs b T h
    have hil : i < l.length := by omega
    have di : decide (i < l.length) = true := decide_eq_true hil
    obtain ⟨vs1, b1, T1, g1, g2⟩ := cn3s σ l P hP hok hl n hn hr hr2 hil R (l.length + 1) 0 (by omega) vs b T h
    obtain ⟨vs2, b2, T2, k1, k2⟩ := ih (i + 1) (by omega) vs1 b1 T1 g1
    refine ⟨vs2, b2, T2, k1, fun fuel => ?_⟩
    rw [show fuel + (d + 1) * ((l.length + 1) * (l.length + 3) + 2) = ((fuel + d * ((l.length + 1) * (l.length + 3) + 2)) + (l.length + 1) * (l.length + 3) + 1) + 1 by rw [Nat.add_mul]; omega, ← k2, ← g2]
    rw [Sys.loop, show saleroomref37_Consistent_S.loops[2]? = some saleroomref37_Consistent_t2 from rfl, Option.bind_some]
    simp -implicitDefEqProofs only [saleroomref37_Consistent_t2, ↓reduceIte,eq_self,JF,JG,JH,JI,JJ,JK,JL,JM,JN,JO,JP,JQ,JR,JS,JT,JU,JV,JW,JX,JY,J2,J3,J4,J5,J6,J7,J8,J9,Ja,Jb,Jc,Jd,Je,Jf,Jg,Jh,Nat.reduceAdd,Ji,if_true,if_false,Jl,Jm,Jn,Jo,Jp,Jq,Jr,Js,Jt,Ju,Jv,Jw,Jx,Jy,Jz,JA,JB,JC,JD,JE, cn, p1, p2, ltB_nat, di, Int.cast_ofNat_Int]
end
end Go.Proofs.Ythjahianafohjaa
set_option maxRecDepth 100000
namespace Go.Proofs.Ythjahianafohjaa
open Go.Sx Go.Bf
section
variable (σ : List MO) (hσ : Flat σ) (l : List Ch) (P : PV) (hP : P.rowsOf 12 = some (l.map Ch.row)) (hok : ∀ x ∈ l, x.ok) (hl : l.length ≤ 30) (n : Nat) (hn : 1 ≤ n)
def cnK (l : List Ch) : Nat := l.length * ((l.length + 1) * (l.length + 3) + 2) + 2
include hσ hP hok hl hn in
theorem cn1s : ∀ d R, R + d = l.length + 2 → ∀ (vs : List Int) (T : Nat), CG l vs true T (R + 1) 0 →
    ∃ b, (∀ fuel, saleroomref37_Consistent_S.loop (evalF Tab n) (fuel + d * cnK l + 1) 1 (cn σ l P vs [(R : Int)] []) = some (.bool b, σ)) ∧ (b = true → Pot l) ∧ (1 ≤ d → b = false → ¬ Pot l) := by
  obtain ⟨p1, p2, p3⟩ := rows_len hP
  rw [List.length_map] at p1
  have hW : (PV.sl 6 (wrows l)).rowsOf 6 = some (wrows l) := sl_rows _ _
  obtain ⟨q1, q2, q3⟩ := rows_len hW
  rw [show (wrows l).length = l.length + 1 by simp [wrows, wants_len]] at q1
  have hm : ∀ vs : List Int, (σ ++ [.cells (icell vs) 2] : List MO).length = σ.length + 1 := by simp
  have h1 : ¬ (false = true ∨ σ.length + 1 = σ.length) := by simp
  intro d
  induction d with
  | zero =>
    intro R hR vs T h
    refine ⟨false, fun fuel => ?_, fun e => (by cases e), fun e => (by omega)⟩
    have hd : leB (R : Int) ((l.length + 1 : Nat) : Int) = false := by rw [leB_false]; omega
    rw [Nat.zero_mul, Nat.add_zero, Sys.loop, show saleroomref37_Consistent_S.loops[1]? = some saleroomref37_Consistent_t1 from rfl, Option.bind_some]
    simp -implicitDefEqProofs only [saleroomref37_Consistent_t1, ↓reduceIte,eq_self,JF,JG,JH,JI,JJ,JK,JL,JM,JN,JO,JP,JQ,JR,JS,JT,JU,JV,JW,JX,JY,J2,J3,J4,J5,J6,J7,J8,J9,Ja,Jb,Jc,Jd,Je,Jf,Jg,Jh,Nat.reduceAdd,Ji,if_true,if_false,Jl,Jm,Jn,Jo,Jp,Jq,Jr,Js,Jt,Ju,Jv,Jw,Jx,Jy,Jz,JA,JB,JC,JD,JE, cn, q1, q2, hd, retP, hm, if_neg h1, List.take_left', hσ σ.length, PV.frz]
    simp [hσ σ.length]
  | succ d ih =>
    intro R hR vs T h
    have hd : leB (R : Int) ((l.length + 1 : Nat) : Int) = true := by rw [leB_true]; omega
    obtain ⟨vs1, b1, T1, g1, g2⟩ := cn2s σ l P hP hok hl n hn (r := R + 1) (by omega) (by omega) (R : Int) l.length 0 (by omega) vs true T (by rw [q_zero]; exact h)
    have dl : decide (l.length < l.length) = false := by simp
    have hup := up_ok (show R ≤ 1000000000 by omega)
    have enter : ∀ fuel, saleroomref37_Consistent_S.loop (evalF Tab n) (fuel + cnK l + 1) 1 (cn σ l P vs [(R : Int)] []) = saleroomref37_Consistent_S.loop (evalF Tab n) (fuel + 2) 2 (cn σ l P vs1 [(R : Int), (l.length : Int)] [b1]) := by
      intro fuel
      rw [← g2, show fuel + cnK l + 1 = (fuel + 2 + l.length * ((l.length + 1) * (l.length + 3) + 2)) + 1 by unfold cnK; omega]
      rw [Sys.loop, show saleroomref37_Consistent_S.loops[1]? = some saleroomref37_Consistent_t1 from rfl, Option.bind_some]
      simp -implicitDefEqProofs only [saleroomref37_Consistent_t1, ↓reduceIte,eq_self,JF,JG,JH,JI,JJ,JK,JL,JM,JN,JO,JP,JQ,JR,JS,JT,JU,JV,JW,JX,JY,J2,J3,J4,J5,J6,J7,J8,J9,Ja,Jb,Jc,Jd,Je,Jf,Jg,Jh,Nat.reduceAdd,Ji,if_true,if_false,Jl,Jm,Jn,Jo,Jp,Jq,Jr,Js,Jt,Ju,Jv,Jw,Jx,Jy,Jz,JA,JB,JC,JD,JE, cn, q1, q2, hd, Int.cast_ofNat_Int]
    cases b1 with
    | true =>
      refine ⟨true, fun fuel => ?_, fun _ => g1.calm, fun _ e => (by cases e)⟩
      rw [show fuel + (d + 1) * cnK l + 1 = (fuel + d * cnK l) + cnK l + 1 by rw [Nat.add_mul]; omega, enter, show fuel + d * cnK l + 2 = (fuel + d * cnK l + 1) + 1 from rfl]
      rw [Sys.loop, show saleroomref37_Consistent_S.loops[2]? = some saleroomref37_Consistent_t2 from rfl, Option.bind_some]
      simp -implicitDefEqProofs only [saleroomref37_Consistent_t2, ↓reduceIte,eq_self,JF,JG,JH,JI,JJ,JK,JL,JM,JN,JO,JP,JQ,JR,JS,JT,JU,JV,JW,JX,JY,J2,J3,J4,J5,J6,J7,J8,J9,Ja,Jb,Jc,Jd,Je,Jf,Jg,Jh,Nat.reduceAdd,Ji,if_true,if_false,Jl,Jm,Jn,Jo,Jp,Jq,Jr,Js,Jt,Ju,Jv,Jw,Jx,Jy,Jz,JA,JB,JC,JD,JE, cn, p1, p2, ltB_nat, dl, retP, hm, if_neg h1, List.take_left', hσ σ.length, PV.frz]
      simp [hσ σ.length]
    | false =>
      obtain ⟨b, k1, k2, k3⟩ := ih (R + 1) (by omega) vs1 T1 (g1.next hl)
      refine ⟨b, fun fuel => ?_, k2, fun _ e => ?_⟩
      · rw [show fuel + (d + 1) * cnK l + 1 = (fuel + d * cnK l) + cnK l + 1 by rw [Nat.add_mul]; omega, enter, ← k1 fuel, show fuel + d * cnK l + 2 = (fuel + d * cnK l + 1) + 1 from rfl]
        rw [Sys.loop, show saleroomref37_Consistent_S.loops[2]? = some saleroomref37_Consistent_t2 from rfl, Option.bind_some, nat_succ]
        simp -implicitDefEqProofs only [saleroomref37_Consistent_t2, ↓reduceIte,eq_self,JF,JG,JH,JI,JJ,JK,JL,JM,JN,JO,JP,JQ,JR,JS,JT,JU,JV,JW,JX,JY,J2,J3,J4,J5,J6,J7,J8,J9,Ja,Jb,Jc,Jd,Je,Jf,Jg,Jh,Nat.reduceAdd,Ji,if_true,if_false,Jl,Jm,Jn,Jo,Jp,Jq,Jr,Js,Jt,Ju,Jv,Jw,Jx,Jy,Jz,JA,JB,JC,JD,JE, cn, p1, p2, ltB_nat, dl, if_pos hup]
      · by_cases hd1 : 1 ≤ d
        · exact k3 hd1 e
        · intro hp
          obtain ⟨π, hπ⟩ := pot_req hp
          obtain ⟨_, _, c, t, pe, h2, h3⟩ := g1
          have hne : ¬ ∀ x, x < l.length + 1 → c x ≠ R + 1 := fun hall => by have := h3.2 hall; cases this
          have : ∃ x, x < l.length + 1 ∧ c x = R + 1 := by
            refine Classical.byContradiction fun hno => hne fun x hx hc => hno ⟨x, hx, hc⟩
          obtain ⟨x, hx, hc⟩ := this
          exact h2.none hx hc (by omega) π hπ
include hP hl in
theorem cn0s : ∀ d i, i + d = l.length → ∀ fuel, saleroomref37_Consistent_S.loop (evalF Tab n) (fuel + d + 1) 0 { i := [(i : Int)], b := [], v := [P, .sl 6 (((wants l).take (i + 1)).map fun w => w.pv)], m := σ, k := σ.length } = saleroomref37_Consistent_S.loop (evalF Tab n) fuel 1 (cn σ l P (List.replicate (l.length + 1) 0) [0] []) := by
  obtain ⟨p1, p2, p3⟩ := rows_len hP
  rw [List.length_map] at p1
  intro d
  induction d with
  | zero =>
    intro i hi fuel
    rw [Nat.add_zero] at hi; subst hi
    have hd : decide (l.length < l.length) = false := by simp
    have hWt : (wants l).take (l.length + 1) = wants l := by rw [← wants_len]; exact List.take_length
    have hW : (PV.sl 6 (wrows l)).rowsOf 6 = some (wrows l) := sl_rows _ _
    obtain ⟨q1, q2, q3⟩ := rows_len hW
    rw [show (wrows l).length = l.length + 1 by simp [wrows, wants_len]] at q1
    have k1 : (0 : Int) ≤ ((l.length + 1 : Nat) : Int) ∧ ((l.length + 1 : Nat) : Int) ≤ 1000000 ∧ 8 ≤ 100000000 := by omega
    rw [hWt, show ((wants l).map fun w => w.pv) = wrows l from rfl, Sys.loop, show saleroomref37_Consistent_S.loops[0]? = some saleroomref37_Consistent_t0 from rfl, Option.bind_some]
    simp -implicitDefEqProofs only [saleroomref37_Consistent_t0, ↓reduceIte,eq_self,JF,JG,JH,JI,JJ,JK,JL,JM,JN,JO,JP,JQ,JR,JS,JT,JU,JV,JW,JX,JY,J2,J3,J4,J5,J6,J7,J8,J9,Ja,Jb,Jc,Jd,Je,Jf,Jg,Jh,Nat.reduceAdd,Ji,if_true,if_false,Jl,Jm,Jn,Jo,Jp,Jq,Jr,Js,Jt,Ju,Jv,Jw,Jx,Jy,Jz,JA,JB,JC,JD,JE, cn, p1, p2, q1, q2, ltB_nat, hd, if_pos k1, Int.toNat_natCast, icell_rep]
  | succ d ih =>
    intro i hi fuel
    have hil : i < l.length := by omega
    have hd : decide (i < l.length) = true := decide_eq_true hil
    have hx := chx_mem hil
    have h6 := rows_get (off := 6) hP (rows_chs hx)
    have hup := up_ok (show i ≤ 1000000000 by omega)
    have ih := ih (i + 1) (by omega) fuel
    have ht : ((wants l).take (i + 1 + 1)).map (fun w => w.pv) = ((wants l).take (i + 1)).map (fun w => w.pv) ++ [(chx l i).w.pv] := by
      rw [List.take_add_one]
      have : (wants l)[i + 1]? = some (chx l i).w := by simp [wants, hx]
      rw [this]; simp
    rw [ht, nat_succ] at ih
    have rl : (((wants l).take (i + 1)).map (fun w => w.pv)).length + 1 ≤ 1000000 := by simp [wants_len]; omega
    rw [← ih, show fuel + (d + 1) + 1 = (fuel + d + 1) + 1 from rfl, Sys.loop, show saleroomref37_Consistent_S.loops[0]? = some saleroomref37_Consistent_t0 from rfl, Option.bind_some]
    generalize ((wants l).take (i + 1)).map (fun w => w.pv) = L at *
    simp -implicitDefEqProofs only [saleroomref37_Consistent_t0, ↓reduceIte,eq_self,JF,JG,JH,JI,JJ,JK,JL,JM,JN,JO,JP,JQ,JR,JS,JT,JU,JV,JW,JX,JY,J2,J3,J4,J5,J6,J7,J8,J9,Ja,Jb,Jc,Jd,Je,Jf,Jg,Jh,Nat.reduceAdd,Ji,if_true,if_false,Jl,Jm,Jn,Jo,Jp,Jq,Jr,Js,Jt,Ju,Jv,Jw,Jx,Jy,Jz,JA,JB,JC,JD,JE, srcRows, List.mapM_cons, List.mapM_nil, List.reverse_cons, List.reverse_nil, Option.bind_eq_bind, Option.pure_def, p1, p2, ltB_nat, hd, le0, h6, row_eq, drop6, sl_rows, W6.pv, Nat.zero_add, if_pos one_le, if_pos rl, if_pos hup]
include hσ hP hok hl in
theorem consistent_sem (hn2 : 1100000 ≤ n) : ∃ b, evalF Tab n n_saleroomref37_Consistent [P] σ = some (.bool b, σ) ∧ (b = true ↔ Pot l) := by
  obtain ⟨n, rfl⟩ : ∃ k, n = k + 1 := ⟨n - 1, by omega⟩
  obtain ⟨p1, p2, p3⟩ := rows_len hP
  have hK : cnK l ≤ 30752 := by
    unfold cnK
    have : l.length * ((l.length + 1) * (l.length + 3) + 2) ≤ 30 * ((30 + 1) * (30 + 3) + 2) := Nat.mul_le_mul hl (Nat.add_le_add_right (Nat.mul_le_mul (by omega) (by omega)) 2)
    omega
  obtain ⟨b, k1, k2, k3⟩ := cn1s σ hσ l P hP hok hl n (by omega) (l.length + 2) 0 (by omega) (List.replicate (l.length + 1) 0) 0 (CG.start l hl)
  have hF : (l.length + 2) * cnK l ≤ 32 * 30752 := Nat.mul_le_mul (by omega) hK
  have k0 := cn0s σ l P hP hl n l.length 0 (by omega) (n - l.length - 1)
  have k1 := k1 (n - l.length - 1 - (l.length + 2) * cnK l - 1)
  rw [show n - l.length - 1 - (l.length + 2) * cnK l - 1 + (l.length + 2) * cnK l + 1 = n - l.length - 1 by omega] at k1
  rw [show n - l.length - 1 + l.length + 1 = n by omega] at k0
  refine ⟨b, ?_, ⟨k2, fun hp => ?_⟩⟩
  · simp only [evalF, tab_saleroomref37_Consistent, Option.bind_some, Sys.run]
    show ((bindPs [.sh (.one _)] _).bind _) = _
    simp -implicitDefEqProofs only [bindPs, bind1, bindK, Option.map_some, Option.bind_some, List.append_nil, List.nil_append, List.cons_append, if_true, p3]
    show (PT.ev _ saleroomref37_Consistent_s _).bind _ = _
    simp -implicitDefEqProofs only [saleroomref37_Consistent_s, ↓reduceIte,eq_self,JF,JG,JH,JI,JJ,JK,JL,JM,JN,JO,JP,JQ,JR,JS,JT,JU,JV,JW,JX,JY,J2,J3,J4,J5,J6,J7,J8,J9,Ja,Jb,Jc,Jd,Je,Jf,Jg,Jh,Nat.reduceAdd,Ji,if_true,if_false,Jl,Jm,Jn,Jo,Jp,Jq,Jr,Js,Jt,Ju,Jv,Jw,Jx,Jy,Jz,JA,JB,JC,JD,JE, srcRows, List.mapM_cons, List.mapM_nil, List.reverse_cons, List.reverse_nil, Option.bind_eq_bind, Option.pure_def, Nat.zero_add, if_pos one_le]
    exact k0.trans k1
  · cases b with
    | true => rfl
    | false => exact absurd hp (k3 (by omega) rfl)
end
end Go.Proofs.Ythjahianafohjaa
