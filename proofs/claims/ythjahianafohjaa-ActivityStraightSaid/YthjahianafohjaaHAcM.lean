/- Accept, the code's and the reference's. -/
import Derived.Test.YthjahianafohjaaHAcb
set_option linter.unusedSimpArgs false
set_option linter.unusedVariables false
open Go.Sx.PT renaming ev → J1
open Go.Sx.BE renaming safe → J2, pe → J3, all → Jz
open Go.Sx.IE renaming pe → J4
open Go.Sx renaming PEnv.at → J5
open Go.Sx.PEnv renaming push → Jt
open List renaming getD_cons_zero → J6, getD_cons_succ → J7, getElem?_cons_zero → J8, getElem?_cons_succ → J9, drop_zero → Jf, length_cons → Jg, length_nil → Jh, take_succ_cons → Jm, take_zero → Jn, cons_append → Ju, nil_append → Jv, append_nil → Jw, map_cons → JD, map_nil → JE
open Go.Sx renaming locOf → Ja, locOn → Jb, readLoc → Jc, takeN → Jd, bindK → Jo, bindRes → Jp, bind1 → Jq, evb_ret → JF, evb_ite → JG, evb_need → JH, evb_load → JI, evb_app → JJ, evb_cut → JK, evb_scut → JL, evb_chk → JM, evb_appF → JN, evb_call → JO, evb_callv → JP, evb_newM → JQ, evb_mkM → JR, evb_storeM → JS, evb_appM → JT, evb_mkMap → JU, evb_mapGet → JV, evb_mapSet → JW, evb_mapClr → JX, evb_jump → JY
open Nat renaming add_zero → Je, le_refl → Ji
open Bool renaming false_eq_true → Jl, and_self → JA, not_true → JB, not_false → JC
open Option renaming map_some → Jr, bind_some → Js
open Go.Sx.SV renaming pvs → Jx, pv → Jy
set_option maxRecDepth 100000
namespace Go.Proofs.Ythjahianafohjaa
open Go.Sx Go.Bf
theorem awake_more : evalF Tab 2000000 n_saleroomlaw37_awake [] [] = some (.bool true, []) := by kernel_rfl
def fitB (s : St) (i : Int) (l : List Ch) (x : Ch) : Bool := leB (ptsV s.ps x.w) (eligV s i l)
section
variable (σ : List MO) (s : St) (hs : s.Ok) (i : Int) (l : List Ch) (L : PV) (hL : L.rowsOf 12 = some (l.map Ch.row)) (hl : l.length ≤ 29) (x : Ch) (n : Nat)
include hs hL hl in
theorem fits_sem (hn : 1300 ≤ n) : evalF Tab n n_activity_history_fits [.agg (hist s i L), .agg x.row] σ = some (.bool (fitB s i l x), σ) := by
  obtain ⟨n, rfl⟩ : ∃ k, n = k + 1 := ⟨n - 1, by omega⟩
  obtain ⟨p1, p2, p3⟩ := rows_len hs.P
  obtain ⟨b1, b2, b3⟩ := rows_len hs.B
  obtain ⟨l1, l2, l3⟩ := rows_len hL
  have c1 := hpoints_sem σ s hs i L l3 x n (by omega)
  have c2 := elig_sem σ s hs i l L hL (by omega) n (by omega)
  simp only [n_activity_history_points, n_activity_Eligibility, hist, St.pv, row_eq] at c1 c2
  simp only [evalF, tab_activity_history_fits, Option.bind_some, Sys.run, hist, row_eq]
  show ((bindPs [.sh (.agg [_, _, _, _, _, _]), .sh (.agg [_, _, _, _, _, _, _, _, _, _, _, _])] _).bind _) = _
  simp -implicitDefEqProofs only [bindPs, bind1, bindK, Option.map_some, Option.bind_some, List.append_nil, List.nil_append, List.cons_append, if_true, p3, b3, hs.C, hs.A, l3]
  show (PT.ev _ activity_history_fits_s _).bind _ = _
  simp -implicitDefEqProofs only [activity_history_fits_s, ↓reduceIte,eq_self,JF,JG,JH,JI,JJ,JK,JL,JM,JN,JO,JP,JQ,JR,JS,JT,JU,JV,JW,JX,JY,J2,J3,J4,J5,J6,J7,J8,J9,Ja,Jb,Jc,Jd,Je,Jf,Jg,Jh,Nat.reduceAdd,Ji,if_true,if_false,Jl,Jm,Jn,Jo,Jp,Jq,Jr,Js,Jt,Ju,Jv,Jw,Jx,Jy,Jz,JA,JB,JC,JD,JE, c1, c2, retP, or_true, fitB]
include hs hL hl in
theorem agrees_sem (hσ : Flat σ) (hn : 31000 ≤ n) : ∃ b, evalF Tab n n_activity_history_agrees [.agg (hist s i L), .agg x.row] σ = some (.bool b, σ) ∧ (b = true ↔ (∀ y ∈ l ++ [x], y.ok) ∧ Pot (l ++ [x])) := by
  obtain ⟨n, rfl⟩ : ∃ k, n = k + 1 := ⟨n - 1, by omega⟩
  obtain ⟨p1, p2, p3⟩ := rows_len hs.P
  obtain ⟨b1, b2, b3⟩ := rows_len hs.B
  obtain ⟨l1, l2, l3⟩ := rows_len hL
  obtain ⟨w1, w2, b, c1, o1, o2, hb⟩ := check_is σ hσ (l ++ [x]) (.sl 12 ((l ++ [x]).map Ch.row)) (sl_rows _ _) (by simp; omega) n (by omega)
  refine ⟨b, ?_, hb⟩
  have a2 : (l ++ [x]).map Ch.row = l.map Ch.row ++ [x.row] := by simp
  rw [a2] at c1
  have r1 : ((1 : Nat) ≠ 0) ∧ (l.map Ch.row).length + 1 ≤ 1000000 := by simp; omega
  have one1 : ∀ r : List PV, [r].length = 1 := fun _ => rfl
  simp only [n_revealed_Check, row_eq] at c1
  simp only [evalF, tab_activity_history_agrees, Option.bind_some, Sys.run, hist, row_eq]
  show ((bindPs [.sh (.agg [_, _, _, _, _, _]), .sh (.agg [_, _, _, _, _, _, _, _, _, _, _, _])] _).bind _) = _
  simp -implicitDefEqProofs only [bindPs, bind1, bindK, Option.map_some, Option.bind_some, List.append_nil, List.nil_append, List.cons_append, if_true, p3, b3, hs.C, hs.A, l3]
  generalize l.map Ch.row = R at *
  have E : PT.ev (evalF Tab n) activity_history_agrees_s { i := [i, x.p.a, x.p.b, x.p.c, x.p.d, x.p.e, x.p.f, x.w.a, x.w.b, x.w.c, x.w.d, x.w.e, x.w.f], b := [], v := [s.P, s.B, s.C, s.A, L], m := σ, k := σ.length } = some (.ret (.bool b) σ) := by
    simp -implicitDefEqProofs only [activity_history_agrees_s, ↓reduceIte,eq_self,JF,JG,JH,JI,JJ,JK,JL,JM,JN,JO,JP,JQ,JR,JS,JT,JU,JV,JW,JX,JY,J2,J3,J4,J5,J6,J7,J8,J9,Ja,Jb,Jc,Jd,Je,Jf,Jg,Jh,Nat.reduceAdd,Ji,if_true,if_false,Jl,Jm,Jn,Jo,Jp,Jq,Jr,Js,Jt,Ju,Jv,Jw,Jx,Jy,Jz,JA,JB,JC,JD,JE, l2, hL]
    repeat' (first
      | with_reducible rfl
      | apply ev_both
      | (unfold activity_history_agrees_s_b1; simp -implicitDefEqProofs only [↓reduceIte,eq_self,JF,JG,JH,JI,JJ,JK,JL,JM,JN,JO,JP,JQ,JR,JS,JT,JU,JV,JW,JX,JY,J2,J3,J4,J5,J6,J7,J8,J9,Ja,Jb,Jc,Jd,Je,Jf,Jg,Jh,Nat.reduceAdd,Ji,if_true,if_false,Jl,Jm,Jn,Jo,Jp,Jq,Jr,Js,Jt,Ju,Jv,Jw,Jx,Jy,Jz,JA,JB,JC,JD,JE, srcRows, List.mapM_cons, List.mapM_nil, List.reverse_cons, List.reverse_nil, Option.bind_eq_bind, Option.pure_def, List.reverse_nil, sl_rows, hL, Nat.zero_add, if_pos one_le, if_pos r1, if_pos r1.2, bindShs, c1, o1, o2, retP, or_true]; done)
      | (unfold activity_history_agrees_s_b1; simp -implicitDefEqProofs only [↓reduceIte,eq_self,JF,JG,JH,JI,JJ,JK,JL,JM,JN,JO,JP,JQ,JR,JS,JT,JU,JV,JW,JX,JY,J2,J3,J4,J5,J6,J7,J8,J9,Ja,Jb,Jc,Jd,Je,Jf,Jg,Jh,Nat.reduceAdd,Ji,if_true,if_false,Jl,Jm,Jn,Jo,Jp,Jq,Jr,Js,Jt,Ju,Jv,Jw,Jx,Jy,Jz,JA,JB,JC,JD,JE, srcRows, List.mapM_cons, List.mapM_nil, List.reverse_cons, List.reverse_nil, Option.bind_eq_bind, Option.pure_def, List.reverse_nil, sl_rows, hL, Nat.zero_add, if_pos one_le, if_pos r1, if_pos r1.2, bindShs, c1, o1, o2, retP, or_true])
      | (unfold activity_history_agrees_s_b2; simp -implicitDefEqProofs only [↓reduceIte,eq_self,JF,JG,JH,JI,JJ,JK,JL,JM,JN,JO,JP,JQ,JR,JS,JT,JU,JV,JW,JX,JY,J2,J3,J4,J5,J6,J7,J8,J9,Ja,Jb,Jc,Jd,Je,Jf,Jg,Jh,Nat.reduceAdd,Ji,if_true,if_false,Jl,Jm,Jn,Jo,Jp,Jq,Jr,Js,Jt,Ju,Jv,Jw,Jx,Jy,Jz,JA,JB,JC,JD,JE, srcRows, List.mapM_cons, List.mapM_nil, List.reverse_cons, List.reverse_nil, Option.bind_eq_bind, Option.pure_def, List.reverse_nil, sl_rows, hL, Nat.zero_add, if_pos one_le, if_pos r1, if_pos r1.2, bindShs, c1, o1, o2, retP, or_true]; done)
      | (unfold activity_history_agrees_s_b2; simp -implicitDefEqProofs only [↓reduceIte,eq_self,JF,JG,JH,JI,JJ,JK,JL,JM,JN,JO,JP,JQ,JR,JS,JT,JU,JV,JW,JX,JY,J2,J3,J4,J5,J6,J7,J8,J9,Ja,Jb,Jc,Jd,Je,Jf,Jg,Jh,Nat.reduceAdd,Ji,if_true,if_false,Jl,Jm,Jn,Jo,Jp,Jq,Jr,Js,Jt,Ju,Jv,Jw,Jx,Jy,Jz,JA,JB,JC,JD,JE, srcRows, List.mapM_cons, List.mapM_nil, List.reverse_cons, List.reverse_nil, Option.bind_eq_bind, Option.pure_def, List.reverse_nil, sl_rows, hL, Nat.zero_add, if_pos one_le, if_pos r1, if_pos r1.2, bindShs, c1, o1, o2, retP, or_true])
      | (unfold activity_history_agrees_s_b3; simp -implicitDefEqProofs only [↓reduceIte,eq_self,JF,JG,JH,JI,JJ,JK,JL,JM,JN,JO,JP,JQ,JR,JS,JT,JU,JV,JW,JX,JY,J2,J3,J4,J5,J6,J7,J8,J9,Ja,Jb,Jc,Jd,Je,Jf,Jg,Jh,Nat.reduceAdd,Ji,if_true,if_false,Jl,Jm,Jn,Jo,Jp,Jq,Jr,Js,Jt,Ju,Jv,Jw,Jx,Jy,Jz,JA,JB,JC,JD,JE, srcRows, List.mapM_cons, List.mapM_nil, List.reverse_cons, List.reverse_nil, Option.bind_eq_bind, Option.pure_def, List.reverse_nil, sl_rows, hL, Nat.zero_add, if_pos one_le, if_pos r1, if_pos r1.2, bindShs, c1, o1, o2, retP, or_true]; done)
      | (unfold activity_history_agrees_s_b3; simp -implicitDefEqProofs only [↓reduceIte,eq_self,JF,JG,JH,JI,JJ,JK,JL,JM,JN,JO,JP,JQ,JR,JS,JT,JU,JV,JW,JX,JY,J2,J3,J4,J5,J6,J7,J8,J9,Ja,Jb,Jc,Jd,Je,Jf,Jg,Jh,Nat.reduceAdd,Ji,if_true,if_false,Jl,Jm,Jn,Jo,Jp,Jq,Jr,Js,Jt,Ju,Jv,Jw,Jx,Jy,Jz,JA,JB,JC,JD,JE, srcRows, List.mapM_cons, List.mapM_nil, List.reverse_cons, List.reverse_nil, Option.bind_eq_bind, Option.pure_def, List.reverse_nil, sl_rows, hL, Nat.zero_add, if_pos one_le, if_pos r1, if_pos r1.2, bindShs, c1, o1, o2, retP, or_true])
      | (unfold activity_history_agrees_s_b4; simp -implicitDefEqProofs only [↓reduceIte,eq_self,JF,JG,JH,JI,JJ,JK,JL,JM,JN,JO,JP,JQ,JR,JS,JT,JU,JV,JW,JX,JY,J2,J3,J4,J5,J6,J7,J8,J9,Ja,Jb,Jc,Jd,Je,Jf,Jg,Jh,Nat.reduceAdd,Ji,if_true,if_false,Jl,Jm,Jn,Jo,Jp,Jq,Jr,Js,Jt,Ju,Jv,Jw,Jx,Jy,Jz,JA,JB,JC,JD,JE, srcRows, List.mapM_cons, List.mapM_nil, List.reverse_cons, List.reverse_nil, Option.bind_eq_bind, Option.pure_def, List.reverse_nil, sl_rows, hL, Nat.zero_add, if_pos one_le, if_pos r1, if_pos r1.2, bindShs, c1, o1, o2, retP, or_true]; done)
      | (unfold activity_history_agrees_s_b4; simp -implicitDefEqProofs only [↓reduceIte,eq_self,JF,JG,JH,JI,JJ,JK,JL,JM,JN,JO,JP,JQ,JR,JS,JT,JU,JV,JW,JX,JY,J2,J3,J4,J5,J6,J7,J8,J9,Ja,Jb,Jc,Jd,Je,Jf,Jg,Jh,Nat.reduceAdd,Ji,if_true,if_false,Jl,Jm,Jn,Jo,Jp,Jq,Jr,Js,Jt,Ju,Jv,Jw,Jx,Jy,Jz,JA,JB,JC,JD,JE, srcRows, List.mapM_cons, List.mapM_nil, List.reverse_cons, List.reverse_nil, Option.bind_eq_bind, Option.pure_def, List.reverse_nil, sl_rows, hL, Nat.zero_add, if_pos one_le, if_pos r1, if_pos r1.2, bindShs, c1, o1, o2, retP, or_true])
      | (unfold activity_history_agrees_s_b5; simp -implicitDefEqProofs only [↓reduceIte,eq_self,JF,JG,JH,JI,JJ,JK,JL,JM,JN,JO,JP,JQ,JR,JS,JT,JU,JV,JW,JX,JY,J2,J3,J4,J5,J6,J7,J8,J9,Ja,Jb,Jc,Jd,Je,Jf,Jg,Jh,Nat.reduceAdd,Ji,if_true,if_false,Jl,Jm,Jn,Jo,Jp,Jq,Jr,Js,Jt,Ju,Jv,Jw,Jx,Jy,Jz,JA,JB,JC,JD,JE, srcRows, List.mapM_cons, List.mapM_nil, List.reverse_cons, List.reverse_nil, Option.bind_eq_bind, Option.pure_def, List.reverse_nil, sl_rows, hL, Nat.zero_add, if_pos one_le, if_pos r1, if_pos r1.2, bindShs, c1, o1, o2, retP, or_true]; done)
      | (unfold activity_history_agrees_s_b5; simp -implicitDefEqProofs only [↓reduceIte,eq_self,JF,JG,JH,JI,JJ,JK,JL,JM,JN,JO,JP,JQ,JR,JS,JT,JU,JV,JW,JX,JY,J2,J3,J4,J5,J6,J7,J8,J9,Ja,Jb,Jc,Jd,Je,Jf,Jg,Jh,Nat.reduceAdd,Ji,if_true,if_false,Jl,Jm,Jn,Jo,Jp,Jq,Jr,Js,Jt,Ju,Jv,Jw,Jx,Jy,Jz,JA,JB,JC,JD,JE, srcRows, List.mapM_cons, List.mapM_nil, List.reverse_cons, List.reverse_nil, Option.bind_eq_bind, Option.pure_def, List.reverse_nil, sl_rows, hL, Nat.zero_add, if_pos one_le, if_pos r1, if_pos r1.2, bindShs, c1, o1, o2, retP, or_true]))
  show ((PT.ev (evalF Tab n) activity_history_agrees_s _).bind _) = _
  exact (congrArg (Option.bind · _) E).trans rfl
end
theorem acc1_sem (σ : List MO) (x : Ch) (n : Nat) (hn : 1 ≤ n) : evalF Tab n n_activity_Accept_1 [.agg x.row] σ = some (.bool (emptyB x.w), σ) := by
  obtain ⟨n, rfl⟩ : ∃ k, n = k + 1 := ⟨n - 1, by omega⟩
  simp only [evalF, tab_activity_Accept_1, Option.bind_some, Sys.run, row_eq]
  show ((bindPs [.sh (.agg [_, _, _, _, _, _, _, _, _, _, _, _])] _).bind _) = _
  simp -implicitDefEqProofs only [bindPs, bind1, bindK, Option.map_some, Option.bind_some, List.append_nil, List.nil_append, List.cons_append, if_true]
  show (PT.ev _ activity_Accept_1_s _).bind _ = _
  simp -implicitDefEqProofs only [activity_Accept_1_s, ↓reduceIte,eq_self,JF,JG,JH,JI,JJ,JK,JL,JM,JN,JO,JP,JQ,JR,JS,JT,JU,JV,JW,JX,JY,J2,J3,J4,J5,J6,J7,J8,J9,Ja,Jb,Jc,Jd,Je,Jf,Jg,Jh,Nat.reduceAdd,Ji,if_true,if_false,Jl,Jm,Jn,Jo,Jp,Jq,Jr,Js,Jt,Ju,Jv,Jw,Jx,Jy,Jz,JA,JB,JC,JD,JE, retP, or_true, emptyB]
/-- What Accept answers; ag: whether the choices remain consistent. -/
def accV (s : St) (rule i : Int) (l : List Ch) (x : Ch) (ag : Bool) : Int :=
  if (eqB rule 1 || (eqB rule 2 || eqB rule 3)) = true then (if hasB s i = true then (if eqB (bchk x.w) 0 = true then
    (if exitB l = true then (if emptyB x.w = true then 0 else 15) else (if (if eqB rule 1 = true then fitB s i l x else if eqB rule 2 = true then ag else (fitB s i l x || ag)) = true then 0 else 15)) else bchk x.w) else 6) else 4
section
variable (σ : List MO) (s : St) (hs : s.Ok) (rule i : Int) (l : List Ch) (L : PV) (hL : L.rowsOf 12 = some (l.map Ch.row)) (hl : l.length ≤ 29) (x : Ch) (n : Nat) (ag : Bool)
include hs hL hl in
theorem either_sem (hn : 1301 ≤ n) (hag : ∀ m, n ≤ m + 1 → m ≤ n → evalF Tab m n_activity_history_agrees [.agg (hist s i L), .agg x.row] σ = some (.bool ag, σ)) : evalF Tab n n_activity_history_either [.agg (hist s i L), .agg x.row] σ = some (.bool (fitB s i l x || ag), σ) := by
  obtain ⟨n, rfl⟩ : ∃ k, n = k + 1 := ⟨n - 1, by omega⟩
  obtain ⟨p1, p2, p3⟩ := rows_len hs.P
  obtain ⟨b1, b2, b3⟩ := rows_len hs.B
  obtain ⟨l1, l2, l3⟩ := rows_len hL
  have c1 := fits_sem σ s hs i l L hL hl x n (by omega)
  have c2 := hag n (by omega) (by omega)
  simp only [n_activity_history_fits, n_activity_history_agrees, hist, row_eq] at c1 c2
  simp only [evalF, tab_activity_history_either, Option.bind_some, Sys.run, hist, row_eq]
  show ((bindPs [.sh (.agg [_, _, _, _, _, _]), .sh (.agg [_, _, _, _, _, _, _, _, _, _, _, _])] _).bind _) = _
  simp -implicitDefEqProofs only [bindPs, bind1, bindK, Option.map_some, Option.bind_some, List.append_nil, List.nil_append, List.cons_append, if_true, p3, b3, hs.C, hs.A, l3]
  show (PT.ev _ activity_history_either_s _).bind _ = _
  simp -implicitDefEqProofs only [activity_history_either_s, ↓reduceIte,eq_self,JF,JG,JH,JI,JJ,JK,JL,JM,JN,JO,JP,JQ,JR,JS,JT,JU,JV,JW,JX,JY,J2,J3,J4,J5,J6,J7,J8,J9,Ja,Jb,Jc,Jd,Je,Jf,Jg,Jh,Nat.reduceAdd,Ji,if_true,if_false,Jl,Jm,Jn,Jo,Jp,Jq,Jr,Js,Jt,Ju,Jv,Jw,Jx,Jy,Jz,JA,JB,JC,JD,JE, c1]
  cases fitB s i l x <;> simp -implicitDefEqProofs only [↓reduceIte,eq_self,JF,JG,JH,JI,JJ,JK,JL,JM,JN,JO,JP,JQ,JR,JS,JT,JU,JV,JW,JX,JY,J2,J3,J4,J5,J6,J7,J8,J9,Ja,Jb,Jc,Jd,Je,Jf,Jg,Jh,Nat.reduceAdd,Ji,if_true,if_false,Jl,Jm,Jn,Jo,Jp,Jq,Jr,Js,Jt,Ju,Jv,Jw,Jx,Jy,Jz,JA,JB,JC,JD,JE, c2, retP, or_true, Bool.true_or, Bool.false_or]
include hs hL hl in
theorem accept_sem (hn : 1400 ≤ n) (hag : ∀ m, n ≤ m + 2 → m ≤ n → evalF Tab m n_activity_history_agrees [.agg (hist s i L), .agg x.row] σ = some (.bool ag, σ)) : evalF Tab n n_activity_Accept [.agg s.pv, .int .i64 rule, .int .i64 i, L, .agg x.row] σ = some (.int .i64 (accV s rule i l x ag), σ) := by
  obtain ⟨n, rfl⟩ : ∃ k, n = k + 1 := ⟨n - 1, by omega⟩
  obtain ⟨p1, p2, p3⟩ := rows_len hs.P
  obtain ⟨b1, b2, b3⟩ := rows_len hs.B
  obtain ⟨l1, l2, l3⟩ := rows_len hL
  have c1 := activity_has_sem σ s hs i n (by omega)
  have c2 := bundle_Check_sem σ x.w n (by omega)
  have c3 := activity_Exited_sem σ l L hL (by omega) n (by omega)
  have c4 := acc1_sem σ x n (by omega)
  have c5 := fits_sem σ s hs i l L hL hl x n (by omega)
  have c6 := hag n (by omega) (by omega)
  have c7 := either_sem σ s hs i l L hL hl x n ag (by omega) (fun m h1 h2 => hag m (by omega) (by omega))
  simp only [n_activity_has, n_bundle_Check, n_activity_Exited, n_activity_Accept_1, n_activity_history_fits, n_activity_history_agrees, n_activity_history_either, hist, St.pv, row_eq, W6.pv] at c1 c2 c3 c4 c5 c6 c7
  simp only [evalF, tab_activity_Accept, Option.bind_some, Sys.run, St.pv, row_eq]
  show ((bindPs [.sh (.agg [_, _, _, _]), .sh (.one _), .sh (.one _), .sh (.one _), .sh (.agg [_, _, _, _, _, _, _, _, _, _, _, _])] _).bind _) = _
  simp -implicitDefEqProofs only [bindPs, bind1, bindK, Option.map_some, Option.bind_some, List.append_nil, List.nil_append, List.cons_append, if_true, p3, b3, hs.C, hs.A, l3]
  show (PT.ev _ activity_Accept_s _).bind _ = _
  simp -implicitDefEqProofs only [activity_Accept_s, ↓reduceIte,eq_self,JF,JG,JH,JI,JJ,JK,JL,JM,JN,JO,JP,JQ,JR,JS,JT,JU,JV,JW,JX,JY,J2,J3,J4,J5,J6,J7,J8,J9,Ja,Jb,Jc,Jd,Je,Jf,Jg,Jh,Nat.reduceAdd,Ji,if_true,if_false,Jl,Jm,Jn,Jo,Jp,Jq,Jr,Js,Jt,Ju,Jv,Jw,Jx,Jy,Jz,JA,JB,JC,JD,JE]
  unfold accV
  generalize fitB s i l x = ft at *
  generalize hasB s i = hb at *
  generalize exitB l = ex at *
  generalize emptyB x.w = em at *
  generalize bchk x.w = bc at *
  cases eqB rule 1 with
  | true =>
    cases hb with
    | false => simp -implicitDefEqProofs only [↓reduceIte,eq_self,JF,JG,JH,JI,JJ,JK,JL,JM,JN,JO,JP,JQ,JR,JS,JT,JU,JV,JW,JX,JY,J2,J3,J4,J5,J6,J7,J8,J9,Ja,Jb,Jc,Jd,Je,Jf,Jg,Jh,Nat.reduceAdd,Ji,if_true,if_false,Jl,Jm,Jn,Jo,Jp,Jq,Jr,Js,Jt,Ju,Jv,Jw,Jx,Jy,Jz,JA,JB,JC,JD,JE, c1, retP, or_true, Bool.true_or]
    | true =>
    simp -implicitDefEqProofs only [↓reduceIte,eq_self,JF,JG,JH,JI,JJ,JK,JL,JM,JN,JO,JP,JQ,JR,JS,JT,JU,JV,JW,JX,JY,J2,J3,J4,J5,J6,J7,J8,J9,Ja,Jb,Jc,Jd,Je,Jf,Jg,Jh,Nat.reduceAdd,Ji,if_true,if_false,Jl,Jm,Jn,Jo,Jp,Jq,Jr,Js,Jt,Ju,Jv,Jw,Jx,Jy,Jz,JA,JB,JC,JD,JE, c1, c2, Bool.true_or]
    cases hbc : eqB bc 0 with
    | false => simp -implicitDefEqProofs only [↓reduceIte,eq_self,JF,JG,JH,JI,JJ,JK,JL,JM,JN,JO,JP,JQ,JR,JS,JT,JU,JV,JW,JX,JY,J2,J3,J4,J5,J6,J7,J8,J9,Ja,Jb,Jc,Jd,Je,Jf,Jg,Jh,Nat.reduceAdd,Ji,if_true,if_false,Jl,Jm,Jn,Jo,Jp,Jq,Jr,Js,Jt,Ju,Jv,Jw,Jx,Jy,Jz,JA,JB,JC,JD,JE, retP, or_true]
    | true =>
    simp -implicitDefEqProofs only [↓reduceIte,eq_self,JF,JG,JH,JI,JJ,JK,JL,JM,JN,JO,JP,JQ,JR,JS,JT,JU,JV,JW,JX,JY,J2,J3,J4,J5,J6,J7,J8,J9,Ja,Jb,Jc,Jd,Je,Jf,Jg,Jh,Nat.reduceAdd,Ji,if_true,if_false,Jl,Jm,Jn,Jo,Jp,Jq,Jr,Js,Jt,Ju,Jv,Jw,Jx,Jy,Jz,JA,JB,JC,JD,JE, c3]
    cases ex with
    | true => simp -implicitDefEqProofs only [↓reduceIte,eq_self,JF,JG,JH,JI,JJ,JK,JL,JM,JN,JO,JP,JQ,JR,JS,JT,JU,JV,JW,JX,JY,J2,J3,J4,J5,J6,J7,J8,J9,Ja,Jb,Jc,Jd,Je,Jf,Jg,Jh,Nat.reduceAdd,Ji,if_true,if_false,Jl,Jm,Jn,Jo,Jp,Jq,Jr,Js,Jt,Ju,Jv,Jw,Jx,Jy,Jz,JA,JB,JC,JD,JE, c4]; cases em <;> simp -implicitDefEqProofs only [↓reduceIte,eq_self,JF,JG,JH,JI,JJ,JK,JL,JM,JN,JO,JP,JQ,JR,JS,JT,JU,JV,JW,JX,JY,J2,J3,J4,J5,J6,J7,J8,J9,Ja,Jb,Jc,Jd,Je,Jf,Jg,Jh,Nat.reduceAdd,Ji,if_true,if_false,Jl,Jm,Jn,Jo,Jp,Jq,Jr,Js,Jt,Ju,Jv,Jw,Jx,Jy,Jz,JA,JB,JC,JD,JE, retP, or_true]
    | false =>
    simp -implicitDefEqProofs only [↓reduceIte,eq_self,JF,JG,JH,JI,JJ,JK,JL,JM,JN,JO,JP,JQ,JR,JS,JT,JU,JV,JW,JX,JY,J2,J3,J4,J5,J6,J7,J8,J9,Ja,Jb,Jc,Jd,Je,Jf,Jg,Jh,Nat.reduceAdd,Ji,if_true,if_false,Jl,Jm,Jn,Jo,Jp,Jq,Jr,Js,Jt,Ju,Jv,Jw,Jx,Jy,Jz,JA,JB,JC,JD,JE, c5]
    cases ft <;> simp -implicitDefEqProofs only [↓reduceIte,eq_self,JF,JG,JH,JI,JJ,JK,JL,JM,JN,JO,JP,JQ,JR,JS,JT,JU,JV,JW,JX,JY,J2,J3,J4,J5,J6,J7,J8,J9,Ja,Jb,Jc,Jd,Je,Jf,Jg,Jh,Nat.reduceAdd,Ji,if_true,if_false,Jl,Jm,Jn,Jo,Jp,Jq,Jr,Js,Jt,Ju,Jv,Jw,Jx,Jy,Jz,JA,JB,JC,JD,JE, retP, or_true]
  | false =>
    cases eqB rule 2 with
    | true =>
      cases hb with
      | false => simp -implicitDefEqProofs only [↓reduceIte,eq_self,JF,JG,JH,JI,JJ,JK,JL,JM,JN,JO,JP,JQ,JR,JS,JT,JU,JV,JW,JX,JY,J2,J3,J4,J5,J6,J7,J8,J9,Ja,Jb,Jc,Jd,Je,Jf,Jg,Jh,Nat.reduceAdd,Ji,if_true,if_false,Jl,Jm,Jn,Jo,Jp,Jq,Jr,Js,Jt,Ju,Jv,Jw,Jx,Jy,Jz,JA,JB,JC,JD,JE, c1, retP, or_true, Bool.true_or, Bool.false_or]
      | true =>
      simp -implicitDefEqProofs only [↓reduceIte,eq_self,JF,JG,JH,JI,JJ,JK,JL,JM,JN,JO,JP,JQ,JR,JS,JT,JU,JV,JW,JX,JY,J2,J3,J4,J5,J6,J7,J8,J9,Ja,Jb,Jc,Jd,Je,Jf,Jg,Jh,Nat.reduceAdd,Ji,if_true,if_false,Jl,Jm,Jn,Jo,Jp,Jq,Jr,Js,Jt,Ju,Jv,Jw,Jx,Jy,Jz,JA,JB,JC,JD,JE, c1, c2, Bool.true_or, Bool.false_or]
      cases hbc : eqB bc 0 with
      | false => simp -implicitDefEqProofs only [↓reduceIte,eq_self,JF,JG,JH,JI,JJ,JK,JL,JM,JN,JO,JP,JQ,JR,JS,JT,JU,JV,JW,JX,JY,J2,J3,J4,J5,J6,J7,J8,J9,Ja,Jb,Jc,Jd,Je,Jf,Jg,Jh,Nat.reduceAdd,Ji,if_true,if_false,Jl,Jm,Jn,Jo,Jp,Jq,Jr,Js,Jt,Ju,Jv,Jw,Jx,Jy,Jz,JA,JB,JC,JD,JE, retP, or_true]
      | true =>
      simp -implicitDefEqProofs only [↓reduceIte,eq_self,JF,JG,JH,JI,JJ,JK,JL,JM,JN,JO,JP,JQ,JR,JS,JT,JU,JV,JW,JX,JY,J2,J3,J4,J5,J6,J7,J8,J9,Ja,Jb,Jc,Jd,Je,Jf,Jg,Jh,Nat.reduceAdd,Ji,if_true,if_false,Jl,Jm,Jn,Jo,Jp,Jq,Jr,Js,Jt,Ju,Jv,Jw,Jx,Jy,Jz,JA,JB,JC,JD,JE, c3]
      cases ex with
      | true => simp -implicitDefEqProofs only [↓reduceIte,eq_self,JF,JG,JH,JI,JJ,JK,JL,JM,JN,JO,JP,JQ,JR,JS,JT,JU,JV,JW,JX,JY,J2,J3,J4,J5,J6,J7,J8,J9,Ja,Jb,Jc,Jd,Je,Jf,Jg,Jh,Nat.reduceAdd,Ji,if_true,if_false,Jl,Jm,Jn,Jo,Jp,Jq,Jr,Js,Jt,Ju,Jv,Jw,Jx,Jy,Jz,JA,JB,JC,JD,JE, c4]; cases em <;> simp -implicitDefEqProofs only [↓reduceIte,eq_self,JF,JG,JH,JI,JJ,JK,JL,JM,JN,JO,JP,JQ,JR,JS,JT,JU,JV,JW,JX,JY,J2,J3,J4,J5,J6,J7,J8,J9,Ja,Jb,Jc,Jd,Je,Jf,Jg,Jh,Nat.reduceAdd,Ji,if_true,if_false,Jl,Jm,Jn,Jo,Jp,Jq,Jr,Js,Jt,Ju,Jv,Jw,Jx,Jy,Jz,JA,JB,JC,JD,JE, retP, or_true]
      | false =>
      simp -implicitDefEqProofs only [↓reduceIte,eq_self,JF,JG,JH,JI,JJ,JK,JL,JM,JN,JO,JP,JQ,JR,JS,JT,JU,JV,JW,JX,JY,J2,J3,J4,J5,J6,J7,J8,J9,Ja,Jb,Jc,Jd,Je,Jf,Jg,Jh,Nat.reduceAdd,Ji,if_true,if_false,Jl,Jm,Jn,Jo,Jp,Jq,Jr,Js,Jt,Ju,Jv,Jw,Jx,Jy,Jz,JA,JB,JC,JD,JE, c6]
      cases ag <;> simp -implicitDefEqProofs only [↓reduceIte,eq_self,JF,JG,JH,JI,JJ,JK,JL,JM,JN,JO,JP,JQ,JR,JS,JT,JU,JV,JW,JX,JY,J2,J3,J4,J5,J6,J7,J8,J9,Ja,Jb,Jc,Jd,Je,Jf,Jg,Jh,Nat.reduceAdd,Ji,if_true,if_false,Jl,Jm,Jn,Jo,Jp,Jq,Jr,Js,Jt,Ju,Jv,Jw,Jx,Jy,Jz,JA,JB,JC,JD,JE, retP, or_true]
    | false =>
      cases eqB rule 3 with
      | true =>
        cases hb with
        | false => simp -implicitDefEqProofs only [↓reduceIte,eq_self,JF,JG,JH,JI,JJ,JK,JL,JM,JN,JO,JP,JQ,JR,JS,JT,JU,JV,JW,JX,JY,J2,J3,J4,J5,J6,J7,J8,J9,Ja,Jb,Jc,Jd,Je,Jf,Jg,Jh,Nat.reduceAdd,Ji,if_true,if_false,Jl,Jm,Jn,Jo,Jp,Jq,Jr,Js,Jt,Ju,Jv,Jw,Jx,Jy,Jz,JA,JB,JC,JD,JE, c1, retP, or_true, Bool.true_or, Bool.false_or]
        | true =>
        simp -implicitDefEqProofs only [↓reduceIte,eq_self,JF,JG,JH,JI,JJ,JK,JL,JM,JN,JO,JP,JQ,JR,JS,JT,JU,JV,JW,JX,JY,J2,J3,J4,J5,J6,J7,J8,J9,Ja,Jb,Jc,Jd,Je,Jf,Jg,Jh,Nat.reduceAdd,Ji,if_true,if_false,Jl,Jm,Jn,Jo,Jp,Jq,Jr,Js,Jt,Ju,Jv,Jw,Jx,Jy,Jz,JA,JB,JC,JD,JE, c1, c2, Bool.true_or, Bool.false_or]
        cases hbc : eqB bc 0 with
        | false => simp -implicitDefEqProofs only [↓reduceIte,eq_self,JF,JG,JH,JI,JJ,JK,JL,JM,JN,JO,JP,JQ,JR,JS,JT,JU,JV,JW,JX,JY,J2,J3,J4,J5,J6,J7,J8,J9,Ja,Jb,Jc,Jd,Je,Jf,Jg,Jh,Nat.reduceAdd,Ji,if_true,if_false,Jl,Jm,Jn,Jo,Jp,Jq,Jr,Js,Jt,Ju,Jv,Jw,Jx,Jy,Jz,JA,JB,JC,JD,JE, retP, or_true]
        | true =>
        simp -implicitDefEqProofs only [↓reduceIte,eq_self,JF,JG,JH,JI,JJ,JK,JL,JM,JN,JO,JP,JQ,JR,JS,JT,JU,JV,JW,JX,JY,J2,J3,J4,J5,J6,J7,J8,J9,Ja,Jb,Jc,Jd,Je,Jf,Jg,Jh,Nat.reduceAdd,Ji,if_true,if_false,Jl,Jm,Jn,Jo,Jp,Jq,Jr,Js,Jt,Ju,Jv,Jw,Jx,Jy,Jz,JA,JB,JC,JD,JE, c3]
        cases ex with
        | true => simp -implicitDefEqProofs only [↓reduceIte,eq_self,JF,JG,JH,JI,JJ,JK,JL,JM,JN,JO,JP,JQ,JR,JS,JT,JU,JV,JW,JX,JY,J2,J3,J4,J5,J6,J7,J8,J9,Ja,Jb,Jc,Jd,Je,Jf,Jg,Jh,Nat.reduceAdd,Ji,if_true,if_false,Jl,Jm,Jn,Jo,Jp,Jq,Jr,Js,Jt,Ju,Jv,Jw,Jx,Jy,Jz,JA,JB,JC,JD,JE, c4]; cases em <;> simp -implicitDefEqProofs only [↓reduceIte,eq_self,JF,JG,JH,JI,JJ,JK,JL,JM,JN,JO,JP,JQ,JR,JS,JT,JU,JV,JW,JX,JY,J2,J3,J4,J5,J6,J7,J8,J9,Ja,Jb,Jc,Jd,Je,Jf,Jg,Jh,Nat.reduceAdd,Ji,if_true,if_false,Jl,Jm,Jn,Jo,Jp,Jq,Jr,Js,Jt,Ju,Jv,Jw,Jx,Jy,Jz,JA,JB,JC,JD,JE, retP, or_true]
        | false =>
        simp -implicitDefEqProofs only [↓reduceIte,eq_self,JF,JG,JH,JI,JJ,JK,JL,JM,JN,JO,JP,JQ,JR,JS,JT,JU,JV,JW,JX,JY,J2,J3,J4,J5,J6,J7,J8,J9,Ja,Jb,Jc,Jd,Je,Jf,Jg,Jh,Nat.reduceAdd,Ji,if_true,if_false,Jl,Jm,Jn,Jo,Jp,Jq,Jr,Js,Jt,Ju,Jv,Jw,Jx,Jy,Jz,JA,JB,JC,JD,JE, c7]
        cases (ft || ag) <;> simp -implicitDefEqProofs only [↓reduceIte,eq_self,JF,JG,JH,JI,JJ,JK,JL,JM,JN,JO,JP,JQ,JR,JS,JT,JU,JV,JW,JX,JY,J2,J3,J4,J5,J6,J7,J8,J9,Ja,Jb,Jc,Jd,Je,Jf,Jg,Jh,Nat.reduceAdd,Ji,if_true,if_false,Jl,Jm,Jn,Jo,Jp,Jq,Jr,Js,Jt,Ju,Jv,Jw,Jx,Jy,Jz,JA,JB,JC,JD,JE, retP, or_true]
      | false => simp -implicitDefEqProofs only [↓reduceIte,eq_self,JF,JG,JH,JI,JJ,JK,JL,JM,JN,JO,JP,JQ,JR,JS,JT,JU,JV,JW,JX,JY,J2,J3,J4,J5,J6,J7,J8,J9,Ja,Jb,Jc,Jd,Je,Jf,Jg,Jh,Nat.reduceAdd,Ji,if_true,if_false,Jl,Jm,Jn,Jo,Jp,Jq,Jr,Js,Jt,Ju,Jv,Jw,Jx,Jy,Jz,JA,JB,JC,JD,JE, retP, or_true, Bool.false_or]
include hs hL hl in
theorem raccept_sem (hn : 1400 ≤ n) (hag : x.w.ok → ∀ m, n ≤ m + 2 → m ≤ n → evalF Tab m n_saleroomref37_Consistent [.sl 12 ((l ++ [x]).map Ch.row)] σ = some (.bool ag, σ)) : evalF Tab n n_saleroomref37_Accept [.agg s.pv, .int .i64 rule, .int .i64 i, L, .agg x.row] σ = some (.int .i64 (accV s rule i l x ag), σ) := by
  obtain ⟨n, rfl⟩ : ∃ k, n = k + 1 := ⟨n - 1, by omega⟩
  obtain ⟨p1, p2, p3⟩ := rows_len hs.P
  obtain ⟨b1, b2, b3⟩ := rows_len hs.B
  obtain ⟨l1, l2, l3⟩ := rows_len hL
  have c1 := saleroomref37_bidder_sem σ s hs i n (by omega)
  have c2 := saleroomref07_Check_sem σ x.w n (by omega)
  have c3 := saleroomref37_Exited_sem σ l L hL (by omega) n (by omega)
  have c4 := rpoints_sem σ s hs x.w n (by omega)
  have c5 := relig_sem σ s hs i l L hL (by omega) n (by omega)
  have c6 := fun h => hag h n (by omega) (by omega)
  have a2 : (l ++ [x]).map Ch.row = l.map Ch.row ++ [x.row] := by simp
  rw [a2] at c6
  have r1 : (l.map Ch.row).length ≤ 1000000 := by simp; omega
  have r2 : (l.map Ch.row).length + 1 ≤ 1000000 := by simp; omega
  have t5 : (0 : Nat) ≤ 1000000 := by decide
  have hbw : eqB (bchk x.w) 0 = true → x.w.ok := fun h => by
    unfold bchk at h
    by_cases hw : x.w.ok
    · exact hw
    · rw [if_neg hw] at h; cases h
  simp only [n_saleroomref37_bidder, n_saleroomref07_Check, n_saleroomref37_Exited, n_saleroomref37_points, n_saleroomref37_Eligibility, n_saleroomref37_Consistent, St.pv, row_eq, W6.pv] at c1 c2 c3 c4 c5 c6
  simp only [evalF, tab_saleroomref37_Accept, Option.bind_some, Sys.run, St.pv, row_eq]
  show ((bindPs [.sh (.agg [_, _, _, _]), .sh (.one _), .sh (.one _), .sh (.one _), .sh (.agg [_, _, _, _, _, _, _, _, _, _, _, _])] _).bind _) = _
  simp -implicitDefEqProofs only [bindPs, bind1, bindK, Option.map_some, Option.bind_some, List.append_nil, List.nil_append, List.cons_append, if_true, p3, b3, hs.C, hs.A, l3]
  generalize l.map Ch.row = R at *
  have E : PT.ev (evalF Tab n) saleroomref37_Accept_s { i := [rule, i, x.p.a, x.p.b, x.p.c, x.p.d, x.p.e, x.p.f, x.w.a, x.w.b, x.w.c, x.w.d, x.w.e, x.w.f], b := [], v := [s.P, s.B, s.C, s.A, L], m := σ, k := σ.length } = some (.ret (.int .i64 (accV s rule i l x ag)) σ) := by
    simp -implicitDefEqProofs only [saleroomref37_Accept_s, ↓reduceIte,eq_self,JF,JG,JH,JI,JJ,JK,JL,JM,JN,JO,JP,JQ,JR,JS,JT,JU,JV,JW,JX,JY,J2,J3,J4,J5,J6,J7,J8,J9,Ja,Jb,Jc,Jd,Je,Jf,Jg,Jh,Nat.reduceAdd,Ji,if_true,if_false,Jl,Jm,Jn,Jo,Jp,Jq,Jr,Js,Jt,Ju,Jv,Jw,Jx,Jy,Jz,JA,JB,JC,JD,JE]
    by_cases h1 : rule < 1
    · have e1 : ltB rule 1 = true := ltB_true.2 h1
      have hv : accV s rule i l x ag = 4 := by
        unfold accV
        rw [show eqB rule 1 = false by rw [eqB_false]; omega, show eqB rule 2 = false by rw [eqB_false]; omega, show eqB rule 3 = false by rw [eqB_false]; omega]; rfl
      rw [hv]
      simp -implicitDefEqProofs only [↓reduceIte,eq_self,JF,JG,JH,JI,JJ,JK,JL,JM,JN,JO,JP,JQ,JR,JS,JT,JU,JV,JW,JX,JY,J2,J3,J4,J5,J6,J7,J8,J9,Ja,Jb,Jc,Jd,Je,Jf,Jg,Jh,Nat.reduceAdd,Ji,if_true,if_false,Jl,Jm,Jn,Jo,Jp,Jq,Jr,Js,Jt,Ju,Jv,Jw,Jx,Jy,Jz,JA,JB,JC,JD,JE, e1, retP, or_true]
    by_cases h3 : 3 < rule
    · have e1 : ltB rule 1 = false := ltB_false.2 h1
      have e3 : ltB 3 rule = true := ltB_true.2 h3
      have hv : accV s rule i l x ag = 4 := by
        unfold accV
        rw [show eqB rule 1 = false by rw [eqB_false]; omega, show eqB rule 2 = false by rw [eqB_false]; omega, show eqB rule 3 = false by rw [eqB_false]; omega]; rfl
      rw [hv]
      simp -implicitDefEqProofs only [↓reduceIte,eq_self,JF,JG,JH,JI,JJ,JK,JL,JM,JN,JO,JP,JQ,JR,JS,JT,JU,JV,JW,JX,JY,J2,J3,J4,J5,J6,J7,J8,J9,Ja,Jb,Jc,Jd,Je,Jf,Jg,Jh,Nat.reduceAdd,Ji,if_true,if_false,Jl,Jm,Jn,Jo,Jp,Jq,Jr,Js,Jt,Ju,Jv,Jw,Jx,Jy,Jz,JA,JB,JC,JD,JE, e1, e3, retP, or_true]
    have e1 : ltB rule 1 = false := ltB_false.2 h1
    have e3 : ltB 3 rule = false := ltB_false.2 h3
    simp -implicitDefEqProofs only [↓reduceIte,eq_self,JF,JG,JH,JI,JJ,JK,JL,JM,JN,JO,JP,JQ,JR,JS,JT,JU,JV,JW,JX,JY,J2,J3,J4,J5,J6,J7,J8,J9,Ja,Jb,Jc,Jd,Je,Jf,Jg,Jh,Nat.reduceAdd,Ji,if_true,if_false,Jl,Jm,Jn,Jo,Jp,Jq,Jr,Js,Jt,Ju,Jv,Jw,Jx,Jy,Jz,JA,JB,JC,JD,JE, e1, e3]
    have hemp : (eqB x.w.a 0 && (eqB x.w.b 0 && (eqB x.w.c 0 && (eqB x.w.d 0 && (eqB x.w.e 0 && eqB x.w.f 0))))) = emptyB x.w := rfl
    have hfit : leB (ptsV s.ps x.w) (eligV s i l) = fitB s i l x := rfl
    rw [hemp]
    unfold accV
    generalize emptyB x.w = em at *
    generalize hasB s i = hb at *
    generalize exitB l = ex at *
    cases hb with
    | false =>
      have : (eqB rule 1 || (eqB rule 2 || eqB rule 3)) = true := by simp only [Bool.or_eq_true, eqB_true]; omega
      rw [this]
      simp -implicitDefEqProofs only [↓reduceIte,eq_self,JF,JG,JH,JI,JJ,JK,JL,JM,JN,JO,JP,JQ,JR,JS,JT,JU,JV,JW,JX,JY,J2,J3,J4,J5,J6,J7,J8,J9,Ja,Jb,Jc,Jd,Je,Jf,Jg,Jh,Nat.reduceAdd,Ji,if_true,if_false,Jl,Jm,Jn,Jo,Jp,Jq,Jr,Js,Jt,Ju,Jv,Jw,Jx,Jy,Jz,JA,JB,JC,JD,JE, c1, retP, or_true]
    | true =>
    have h123 : (eqB rule 1 || (eqB rule 2 || eqB rule 3)) = true := by simp only [Bool.or_eq_true, eqB_true]; omega
    rw [h123]
    simp -implicitDefEqProofs only [↓reduceIte,eq_self,JF,JG,JH,JI,JJ,JK,JL,JM,JN,JO,JP,JQ,JR,JS,JT,JU,JV,JW,JX,JY,J2,J3,J4,J5,J6,J7,J8,J9,Ja,Jb,Jc,Jd,Je,Jf,Jg,Jh,Nat.reduceAdd,Ji,if_true,if_false,Jl,Jm,Jn,Jo,Jp,Jq,Jr,Js,Jt,Ju,Jv,Jw,Jx,Jy,Jz,JA,JB,JC,JD,JE, c1, c2]
    cases hbc : eqB (bchk x.w) 0 with
    | false => simp -implicitDefEqProofs only [↓reduceIte,eq_self,JF,JG,JH,JI,JJ,JK,JL,JM,JN,JO,JP,JQ,JR,JS,JT,JU,JV,JW,JX,JY,J2,J3,J4,J5,J6,J7,J8,J9,Ja,Jb,Jc,Jd,Je,Jf,Jg,Jh,Nat.reduceAdd,Ji,if_true,if_false,Jl,Jm,Jn,Jo,Jp,Jq,Jr,Js,Jt,Ju,Jv,Jw,Jx,Jy,Jz,JA,JB,JC,JD,JE, retP, or_true]
    | true =>
    have c6 := c6 (hbw hbc)
    simp -implicitDefEqProofs only [↓reduceIte,eq_self,JF,JG,JH,JI,JJ,JK,JL,JM,JN,JO,JP,JQ,JR,JS,JT,JU,JV,JW,JX,JY,J2,J3,J4,J5,J6,J7,J8,J9,Ja,Jb,Jc,Jd,Je,Jf,Jg,Jh,Nat.reduceAdd,Ji,if_true,if_false,Jl,Jm,Jn,Jo,Jp,Jq,Jr,Js,Jt,Ju,Jv,Jw,Jx,Jy,Jz,JA,JB,JC,JD,JE, c3]
    cases ex with
    | true => cases em <;> simp -implicitDefEqProofs only [↓reduceIte,eq_self,JF,JG,JH,JI,JJ,JK,JL,JM,JN,JO,JP,JQ,JR,JS,JT,JU,JV,JW,JX,JY,J2,J3,J4,J5,J6,J7,J8,J9,Ja,Jb,Jc,Jd,Je,Jf,Jg,Jh,Nat.reduceAdd,Ji,if_true,if_false,Jl,Jm,Jn,Jo,Jp,Jq,Jr,Js,Jt,Ju,Jv,Jw,Jx,Jy,Jz,JA,JB,JC,JD,JE, retP, or_true]
    | false =>
    obtain rfl | rfl | rfl : rule = 1 ∨ rule = 2 ∨ rule = 3 := by omega
    · have f1 : eqB 1 1 = true := rfl
      have f2 : eqB 1 2 = false := rfl
      rw [f1, f2]
      simp -implicitDefEqProofs only [↓reduceIte,eq_self,JF,JG,JH,JI,JJ,JK,JL,JM,JN,JO,JP,JQ,JR,JS,JT,JU,JV,JW,JX,JY,J2,J3,J4,J5,J6,J7,J8,J9,Ja,Jb,Jc,Jd,Je,Jf,Jg,Jh,Nat.reduceAdd,Ji,if_true,if_false,Jl,Jm,Jn,Jo,Jp,Jq,Jr,Js,Jt,Ju,Jv,Jw,Jx,Jy,Jz,JA,JB,JC,JD,JE, c4, c5, hfit]
      cases fitB s i l x <;> simp -implicitDefEqProofs only [↓reduceIte,eq_self,JF,JG,JH,JI,JJ,JK,JL,JM,JN,JO,JP,JQ,JR,JS,JT,JU,JV,JW,JX,JY,J2,J3,J4,J5,J6,J7,J8,J9,Ja,Jb,Jc,Jd,Je,Jf,Jg,Jh,Nat.reduceAdd,Ji,if_true,if_false,Jl,Jm,Jn,Jo,Jp,Jq,Jr,Js,Jt,Ju,Jv,Jw,Jx,Jy,Jz,JA,JB,JC,JD,JE, retP, or_true]
    · have f1 : eqB 2 1 = false := rfl
      have f2 : eqB 2 2 = true := rfl
      rw [f1, f2]
      simp -implicitDefEqProofs only [↓reduceIte,eq_self,JF,JG,JH,JI,JJ,JK,JL,JM,JN,JO,JP,JQ,JR,JS,JT,JU,JV,JW,JX,JY,J2,J3,J4,J5,J6,J7,J8,J9,Ja,Jb,Jc,Jd,Je,Jf,Jg,Jh,Nat.reduceAdd,Ji,if_true,if_false,Jl,Jm,Jn,Jo,Jp,Jq,Jr,Js,Jt,Ju,Jv,Jw,Jx,Jy,Jz,JA,JB,JC,JD,JE]
      cases ag
      all_goals
        repeat' (first
          | with_reducible rfl
          | apply ev_both
          | (unfold saleroomref37_Accept_s_b1; simp -implicitDefEqProofs only [↓reduceIte,eq_self,JF,JG,JH,JI,JJ,JK,JL,JM,JN,JO,JP,JQ,JR,JS,JT,JU,JV,JW,JX,JY,J2,J3,J4,J5,J6,J7,J8,J9,Ja,Jb,Jc,Jd,Je,Jf,Jg,Jh,Nat.reduceAdd,Ji,if_true,if_false,Jl,Jm,Jn,Jo,Jp,Jq,Jr,Js,Jt,Ju,Jv,Jw,Jx,Jy,Jz,JA,JB,JC,JD,JE, srcRows, List.mapM_cons, List.mapM_nil, List.reverse_cons, List.reverse_nil, Option.bind_eq_bind, Option.pure_def, List.reverse_nil, sl_rows, hL, List.length_nil, Nat.zero_add, if_pos t5, if_pos one_le, if_pos r1, if_pos r2, List.nil_append, c6, retP, or_true]; done)
          | (unfold saleroomref37_Accept_s_b1; simp -implicitDefEqProofs only [↓reduceIte,eq_self,JF,JG,JH,JI,JJ,JK,JL,JM,JN,JO,JP,JQ,JR,JS,JT,JU,JV,JW,JX,JY,J2,J3,J4,J5,J6,J7,J8,J9,Ja,Jb,Jc,Jd,Je,Jf,Jg,Jh,Nat.reduceAdd,Ji,if_true,if_false,Jl,Jm,Jn,Jo,Jp,Jq,Jr,Js,Jt,Ju,Jv,Jw,Jx,Jy,Jz,JA,JB,JC,JD,JE, srcRows, List.mapM_cons, List.mapM_nil, List.reverse_cons, List.reverse_nil, Option.bind_eq_bind, Option.pure_def, List.reverse_nil, sl_rows, hL, List.length_nil, Nat.zero_add, if_pos t5, if_pos one_le, if_pos r1, if_pos r2, List.nil_append, c6, retP, or_true])
          | (unfold saleroomref37_Accept_s_b2; simp -implicitDefEqProofs only [↓reduceIte,eq_self,JF,JG,JH,JI,JJ,JK,JL,JM,JN,JO,JP,JQ,JR,JS,JT,JU,JV,JW,JX,JY,J2,J3,J4,J5,J6,J7,J8,J9,Ja,Jb,Jc,Jd,Je,Jf,Jg,Jh,Nat.reduceAdd,Ji,if_true,if_false,Jl,Jm,Jn,Jo,Jp,Jq,Jr,Js,Jt,Ju,Jv,Jw,Jx,Jy,Jz,JA,JB,JC,JD,JE, srcRows, List.mapM_cons, List.mapM_nil, List.reverse_cons, List.reverse_nil, Option.bind_eq_bind, Option.pure_def, List.reverse_nil, sl_rows, hL, List.length_nil, Nat.zero_add, if_pos t5, if_pos one_le, if_pos r1, if_pos r2, List.nil_append, c6, retP, or_true]; done)
          | (unfold saleroomref37_Accept_s_b2; simp -implicitDefEqProofs only [↓reduceIte,eq_self,JF,JG,JH,JI,JJ,JK,JL,JM,JN,JO,JP,JQ,JR,JS,JT,JU,JV,JW,JX,JY,J2,J3,J4,J5,J6,J7,J8,J9,Ja,Jb,Jc,Jd,Je,Jf,Jg,Jh,Nat.reduceAdd,Ji,if_true,if_false,Jl,Jm,Jn,Jo,Jp,Jq,Jr,Js,Jt,Ju,Jv,Jw,Jx,Jy,Jz,JA,JB,JC,JD,JE, srcRows, List.mapM_cons, List.mapM_nil, List.reverse_cons, List.reverse_nil, Option.bind_eq_bind, Option.pure_def, List.reverse_nil, sl_rows, hL, List.length_nil, Nat.zero_add, if_pos t5, if_pos one_le, if_pos r1, if_pos r2, List.nil_append, c6, retP, or_true])
          | (unfold saleroomref37_Accept_s_b3; simp -implicitDefEqProofs only [↓reduceIte,eq_self,JF,JG,JH,JI,JJ,JK,JL,JM,JN,JO,JP,JQ,JR,JS,JT,JU,JV,JW,JX,JY,J2,J3,J4,J5,J6,J7,J8,J9,Ja,Jb,Jc,Jd,Je,Jf,Jg,Jh,Nat.reduceAdd,Ji,if_true,if_false,Jl,Jm,Jn,Jo,Jp,Jq,Jr,Js,Jt,Ju,Jv,Jw,Jx,Jy,Jz,JA,JB,JC,JD,JE, srcRows, List.mapM_cons, List.mapM_nil, List.reverse_cons, List.reverse_nil, Option.bind_eq_bind, Option.pure_def, List.reverse_nil, sl_rows, hL, List.length_nil, Nat.zero_add, if_pos t5, if_pos one_le, if_pos r1, if_pos r2, List.nil_append, c6, retP, or_true]; done)
          | (unfold saleroomref37_Accept_s_b3; simp -implicitDefEqProofs only [↓reduceIte,eq_self,JF,JG,JH,JI,JJ,JK,JL,JM,JN,JO,JP,JQ,JR,JS,JT,JU,JV,JW,JX,JY,J2,J3,J4,J5,J6,J7,J8,J9,Ja,Jb,Jc,Jd,Je,Jf,Jg,Jh,Nat.reduceAdd,Ji,if_true,if_false,Jl,Jm,Jn,Jo,Jp,Jq,Jr,Js,Jt,Ju,Jv,Jw,Jx,Jy,Jz,JA,JB,JC,JD,JE, srcRows, List.mapM_cons, List.mapM_nil, List.reverse_cons, List.reverse_nil, Option.bind_eq_bind, Option.pure_def, List.reverse_nil, sl_rows, hL, List.length_nil, Nat.zero_add, if_pos t5, if_pos one_le, if_pos r1, if_pos r2, List.nil_append, c6, retP, or_true])
          | (unfold saleroomref37_Accept_s_b4; simp -implicitDefEqProofs only [↓reduceIte,eq_self,JF,JG,JH,JI,JJ,JK,JL,JM,JN,JO,JP,JQ,JR,JS,JT,JU,JV,JW,JX,JY,J2,J3,J4,J5,J6,J7,J8,J9,Ja,Jb,Jc,Jd,Je,Jf,Jg,Jh,Nat.reduceAdd,Ji,if_true,if_false,Jl,Jm,Jn,Jo,Jp,Jq,Jr,Js,Jt,Ju,Jv,Jw,Jx,Jy,Jz,JA,JB,JC,JD,JE, srcRows, List.mapM_cons, List.mapM_nil, List.reverse_cons, List.reverse_nil, Option.bind_eq_bind, Option.pure_def, List.reverse_nil, sl_rows, hL, List.length_nil, Nat.zero_add, if_pos t5, if_pos one_le, if_pos r1, if_pos r2, List.nil_append, c6, retP, or_true]; done)
          | (unfold saleroomref37_Accept_s_b4; simp -implicitDefEqProofs only [↓reduceIte,eq_self,JF,JG,JH,JI,JJ,JK,JL,JM,JN,JO,JP,JQ,JR,JS,JT,JU,JV,JW,JX,JY,J2,J3,J4,J5,J6,J7,J8,J9,Ja,Jb,Jc,Jd,Je,Jf,Jg,Jh,Nat.reduceAdd,Ji,if_true,if_false,Jl,Jm,Jn,Jo,Jp,Jq,Jr,Js,Jt,Ju,Jv,Jw,Jx,Jy,Jz,JA,JB,JC,JD,JE, srcRows, List.mapM_cons, List.mapM_nil, List.reverse_cons, List.reverse_nil, Option.bind_eq_bind, Option.pure_def, List.reverse_nil, sl_rows, hL, List.length_nil, Nat.zero_add, if_pos t5, if_pos one_le, if_pos r1, if_pos r2, List.nil_append, c6, retP, or_true])
          | (unfold saleroomref37_Accept_s_b5; simp -implicitDefEqProofs only [↓reduceIte,eq_self,JF,JG,JH,JI,JJ,JK,JL,JM,JN,JO,JP,JQ,JR,JS,JT,JU,JV,JW,JX,JY,J2,J3,J4,J5,J6,J7,J8,J9,Ja,Jb,Jc,Jd,Je,Jf,Jg,Jh,Nat.reduceAdd,Ji,if_true,if_false,Jl,Jm,Jn,Jo,Jp,Jq,Jr,Js,Jt,Ju,Jv,Jw,Jx,Jy,Jz,JA,JB,JC,JD,JE, srcRows, List.mapM_cons, List.mapM_nil, List.reverse_cons, List.reverse_nil, Option.bind_eq_bind, Option.pure_def, List.reverse_nil, sl_rows, hL, List.length_nil, Nat.zero_add, if_pos t5, if_pos one_le, if_pos r1, if_pos r2, List.nil_append, c6, retP, or_true]; done)
          | (unfold saleroomref37_Accept_s_b5; simp -implicitDefEqProofs only [↓reduceIte,eq_self,JF,JG,JH,JI,JJ,JK,JL,JM,JN,JO,JP,JQ,JR,JS,JT,JU,JV,JW,JX,JY,J2,J3,J4,J5,J6,J7,J8,J9,Ja,Jb,Jc,Jd,Je,Jf,Jg,Jh,Nat.reduceAdd,Ji,if_true,if_false,Jl,Jm,Jn,Jo,Jp,Jq,Jr,Js,Jt,Ju,Jv,Jw,Jx,Jy,Jz,JA,JB,JC,JD,JE, srcRows, List.mapM_cons, List.mapM_nil, List.reverse_cons, List.reverse_nil, Option.bind_eq_bind, Option.pure_def, List.reverse_nil, sl_rows, hL, List.length_nil, Nat.zero_add, if_pos t5, if_pos one_le, if_pos r1, if_pos r2, List.nil_append, c6, retP, or_true])
          | (unfold saleroomref37_Accept_s_b6; simp -implicitDefEqProofs only [↓reduceIte,eq_self,JF,JG,JH,JI,JJ,JK,JL,JM,JN,JO,JP,JQ,JR,JS,JT,JU,JV,JW,JX,JY,J2,J3,J4,J5,J6,J7,J8,J9,Ja,Jb,Jc,Jd,Je,Jf,Jg,Jh,Nat.reduceAdd,Ji,if_true,if_false,Jl,Jm,Jn,Jo,Jp,Jq,Jr,Js,Jt,Ju,Jv,Jw,Jx,Jy,Jz,JA,JB,JC,JD,JE, srcRows, List.mapM_cons, List.mapM_nil, List.reverse_cons, List.reverse_nil, Option.bind_eq_bind, Option.pure_def, List.reverse_nil, sl_rows, hL, List.length_nil, Nat.zero_add, if_pos t5, if_pos one_le, if_pos r1, if_pos r2, List.nil_append, c6, retP, or_true]; done)
          | (unfold saleroomref37_Accept_s_b6; simp -implicitDefEqProofs only [↓reduceIte,eq_self,JF,JG,JH,JI,JJ,JK,JL,JM,JN,JO,JP,JQ,JR,JS,JT,JU,JV,JW,JX,JY,J2,J3,J4,J5,J6,J7,J8,J9,Ja,Jb,Jc,Jd,Je,Jf,Jg,Jh,Nat.reduceAdd,Ji,if_true,if_false,Jl,Jm,Jn,Jo,Jp,Jq,Jr,Js,Jt,Ju,Jv,Jw,Jx,Jy,Jz,JA,JB,JC,JD,JE, srcRows, List.mapM_cons, List.mapM_nil, List.reverse_cons, List.reverse_nil, Option.bind_eq_bind, Option.pure_def, List.reverse_nil, sl_rows, hL, List.length_nil, Nat.zero_add, if_pos t5, if_pos one_le, if_pos r1, if_pos r2, List.nil_append, c6, retP, or_true])
          | (unfold saleroomref37_Accept_s_b7; simp -implicitDefEqProofs only [↓reduceIte,eq_self,JF,JG,JH,JI,JJ,JK,JL,JM,JN,JO,JP,JQ,JR,JS,JT,JU,JV,JW,JX,JY,J2,J3,J4,J5,J6,J7,J8,J9,Ja,Jb,Jc,Jd,Je,Jf,Jg,Jh,Nat.reduceAdd,Ji,if_true,if_false,Jl,Jm,Jn,Jo,Jp,Jq,Jr,Js,Jt,Ju,Jv,Jw,Jx,Jy,Jz,JA,JB,JC,JD,JE, srcRows, List.mapM_cons, List.mapM_nil, List.reverse_cons, List.reverse_nil, Option.bind_eq_bind, Option.pure_def, List.reverse_nil, sl_rows, hL, List.length_nil, Nat.zero_add, if_pos t5, if_pos one_le, if_pos r1, if_pos r2, List.nil_append, c6, retP, or_true]; done)
          | (unfold saleroomref37_Accept_s_b7; simp -implicitDefEqProofs only [↓reduceIte,eq_self,JF,JG,JH,JI,JJ,JK,JL,JM,JN,JO,JP,JQ,JR,JS,JT,JU,JV,JW,JX,JY,J2,J3,J4,J5,J6,J7,J8,J9,Ja,Jb,Jc,Jd,Je,Jf,Jg,Jh,Nat.reduceAdd,Ji,if_true,if_false,Jl,Jm,Jn,Jo,Jp,Jq,Jr,Js,Jt,Ju,Jv,Jw,Jx,Jy,Jz,JA,JB,JC,JD,JE, srcRows, List.mapM_cons, List.mapM_nil, List.reverse_cons, List.reverse_nil, Option.bind_eq_bind, Option.pure_def, List.reverse_nil, sl_rows, hL, List.length_nil, Nat.zero_add, if_pos t5, if_pos one_le, if_pos r1, if_pos r2, List.nil_append, c6, retP, or_true])
          | (unfold saleroomref37_Accept_s_b8; simp -implicitDefEqProofs only [↓reduceIte,eq_self,JF,JG,JH,JI,JJ,JK,JL,JM,JN,JO,JP,JQ,JR,JS,JT,JU,JV,JW,JX,JY,J2,J3,J4,J5,J6,J7,J8,J9,Ja,Jb,Jc,Jd,Je,Jf,Jg,Jh,Nat.reduceAdd,Ji,if_true,if_false,Jl,Jm,Jn,Jo,Jp,Jq,Jr,Js,Jt,Ju,Jv,Jw,Jx,Jy,Jz,JA,JB,JC,JD,JE, srcRows, List.mapM_cons, List.mapM_nil, List.reverse_cons, List.reverse_nil, Option.bind_eq_bind, Option.pure_def, List.reverse_nil, sl_rows, hL, List.length_nil, Nat.zero_add, if_pos t5, if_pos one_le, if_pos r1, if_pos r2, List.nil_append, c6, retP, or_true]; done)
          | (unfold saleroomref37_Accept_s_b8; simp -implicitDefEqProofs only [↓reduceIte,eq_self,JF,JG,JH,JI,JJ,JK,JL,JM,JN,JO,JP,JQ,JR,JS,JT,JU,JV,JW,JX,JY,J2,J3,J4,J5,J6,J7,J8,J9,Ja,Jb,Jc,Jd,Je,Jf,Jg,Jh,Nat.reduceAdd,Ji,if_true,if_false,Jl,Jm,Jn,Jo,Jp,Jq,Jr,Js,Jt,Ju,Jv,Jw,Jx,Jy,Jz,JA,JB,JC,JD,JE, srcRows, List.mapM_cons, List.mapM_nil, List.reverse_cons, List.reverse_nil, Option.bind_eq_bind, Option.pure_def, List.reverse_nil, sl_rows, hL, List.length_nil, Nat.zero_add, if_pos t5, if_pos one_le, if_pos r1, if_pos r2, List.nil_append, c6, retP, or_true]))
    · have f1 : eqB 3 1 = false := rfl
      have f2 : eqB 3 2 = false := rfl
      rw [f1, f2]
      simp -implicitDefEqProofs only [↓reduceIte,eq_self,JF,JG,JH,JI,JJ,JK,JL,JM,JN,JO,JP,JQ,JR,JS,JT,JU,JV,JW,JX,JY,J2,J3,J4,J5,J6,J7,J8,J9,Ja,Jb,Jc,Jd,Je,Jf,Jg,Jh,Nat.reduceAdd,Ji,if_true,if_false,Jl,Jm,Jn,Jo,Jp,Jq,Jr,Js,Jt,Ju,Jv,Jw,Jx,Jy,Jz,JA,JB,JC,JD,JE, c4, c5, hfit]
      cases fitB s i l x with
      | true => simp -implicitDefEqProofs only [↓reduceIte,eq_self,JF,JG,JH,JI,JJ,JK,JL,JM,JN,JO,JP,JQ,JR,JS,JT,JU,JV,JW,JX,JY,J2,J3,J4,J5,J6,J7,J8,J9,Ja,Jb,Jc,Jd,Je,Jf,Jg,Jh,Nat.reduceAdd,Ji,if_true,if_false,Jl,Jm,Jn,Jo,Jp,Jq,Jr,Js,Jt,Ju,Jv,Jw,Jx,Jy,Jz,JA,JB,JC,JD,JE, retP, or_true, Bool.true_or]
      | false =>
        simp -implicitDefEqProofs only [↓reduceIte,eq_self,JF,JG,JH,JI,JJ,JK,JL,JM,JN,JO,JP,JQ,JR,JS,JT,JU,JV,JW,JX,JY,J2,J3,J4,J5,J6,J7,J8,J9,Ja,Jb,Jc,Jd,Je,Jf,Jg,Jh,Nat.reduceAdd,Ji,if_true,if_false,Jl,Jm,Jn,Jo,Jp,Jq,Jr,Js,Jt,Ju,Jv,Jw,Jx,Jy,Jz,JA,JB,JC,JD,JE, Bool.false_or]
        cases ag
        all_goals
          repeat' (first
            | with_reducible rfl
            | apply ev_both
            | (unfold saleroomref37_Accept_s_b1; simp -implicitDefEqProofs only [↓reduceIte,eq_self,JF,JG,JH,JI,JJ,JK,JL,JM,JN,JO,JP,JQ,JR,JS,JT,JU,JV,JW,JX,JY,J2,J3,J4,J5,J6,J7,J8,J9,Ja,Jb,Jc,Jd,Je,Jf,Jg,Jh,Nat.reduceAdd,Ji,if_true,if_false,Jl,Jm,Jn,Jo,Jp,Jq,Jr,Js,Jt,Ju,Jv,Jw,Jx,Jy,Jz,JA,JB,JC,JD,JE, srcRows, List.mapM_cons, List.mapM_nil, List.reverse_cons, List.reverse_nil, Option.bind_eq_bind, Option.pure_def, List.reverse_nil, sl_rows, hL, List.length_nil, Nat.zero_add, if_pos t5, if_pos one_le, if_pos r1, if_pos r2, List.nil_append, c6, retP, or_true]; done)
            | (unfold saleroomref37_Accept_s_b1; simp -implicitDefEqProofs only [↓reduceIte,eq_self,JF,JG,JH,JI,JJ,JK,JL,JM,JN,JO,JP,JQ,JR,JS,JT,JU,JV,JW,JX,JY,J2,J3,J4,J5,J6,J7,J8,J9,Ja,Jb,Jc,Jd,Je,Jf,Jg,Jh,Nat.reduceAdd,Ji,if_true,if_false,Jl,Jm,Jn,Jo,Jp,Jq,Jr,Js,Jt,Ju,Jv,Jw,Jx,Jy,Jz,JA,JB,JC,JD,JE, srcRows, List.mapM_cons, List.mapM_nil, List.reverse_cons, List.reverse_nil, Option.bind_eq_bind, Option.pure_def, List.reverse_nil, sl_rows, hL, List.length_nil, Nat.zero_add, if_pos t5, if_pos one_le, if_pos r1, if_pos r2, List.nil_append, c6, retP, or_true])
            | (unfold saleroomref37_Accept_s_b2; simp -implicitDefEqProofs only [↓reduceIte,eq_self,JF,JG,JH,JI,JJ,JK,JL,JM,JN,JO,JP,JQ,JR,JS,JT,JU,JV,JW,JX,JY,J2,J3,J4,J5,J6,J7,J8,J9,Ja,Jb,Jc,Jd,Je,Jf,Jg,Jh,Nat.reduceAdd,Ji,if_true,if_false,Jl,Jm,Jn,Jo,Jp,Jq,Jr,Js,Jt,Ju,Jv,Jw,Jx,Jy,Jz,JA,JB,JC,JD,JE, srcRows, List.mapM_cons, List.mapM_nil, List.reverse_cons, List.reverse_nil, Option.bind_eq_bind, Option.pure_def, List.reverse_nil, sl_rows, hL, List.length_nil, Nat.zero_add, if_pos t5, if_pos one_le, if_pos r1, if_pos r2, List.nil_append, c6, retP, or_true]; done)
            | (unfold saleroomref37_Accept_s_b2; simp -implicitDefEqProofs only [↓reduceIte,eq_self,JF,JG,JH,JI,JJ,JK,JL,JM,JN,JO,JP,JQ,JR,JS,JT,JU,JV,JW,JX,JY,J2,J3,J4,J5,J6,J7,J8,J9,Ja,Jb,Jc,Jd,Je,Jf,Jg,Jh,Nat.reduceAdd,Ji,if_true,if_false,Jl,Jm,Jn,Jo,Jp,Jq,Jr,Js,Jt,Ju,Jv,Jw,Jx,Jy,Jz,JA,JB,JC,JD,JE, srcRows, List.mapM_cons, List.mapM_nil, List.reverse_cons, List.reverse_nil, Option.bind_eq_bind, Option.pure_def, List.reverse_nil, sl_rows, hL, List.length_nil, Nat.zero_add, if_pos t5, if_pos one_le, if_pos r1, if_pos r2, List.nil_append, c6, retP, or_true])
            | (unfold saleroomref37_Accept_s_b3; simp -implicitDefEqProofs only [↓reduceIte,eq_self,JF,JG,JH,JI,JJ,JK,JL,JM,JN,JO,JP,JQ,JR,JS,JT,JU,JV,JW,JX,JY,J2,J3,J4,J5,J6,J7,J8,J9,Ja,Jb,Jc,Jd,Je,Jf,Jg,Jh,Nat.reduceAdd,Ji,if_true,if_false,Jl,Jm,Jn,Jo,Jp,Jq,Jr,Js,Jt,Ju,Jv,Jw,Jx,Jy,Jz,JA,JB,JC,JD,JE, srcRows, List.mapM_cons, List.mapM_nil, List.reverse_cons, List.reverse_nil, Option.bind_eq_bind, Option.pure_def, List.reverse_nil, sl_rows, hL, List.length_nil, Nat.zero_add, if_pos t5, if_pos one_le, if_pos r1, if_pos r2, List.nil_append, c6, retP, or_true]; done)
            | (unfold saleroomref37_Accept_s_b3; simp -implicitDefEqProofs only [↓reduceIte,eq_self,JF,JG,JH,JI,JJ,JK,JL,JM,JN,JO,JP,JQ,JR,JS,JT,JU,JV,JW,JX,JY,J2,J3,J4,J5,J6,J7,J8,J9,Ja,Jb,Jc,Jd,Je,Jf,Jg,Jh,Nat.reduceAdd,Ji,if_true,if_false,Jl,Jm,Jn,Jo,Jp,Jq,Jr,Js,Jt,Ju,Jv,Jw,Jx,Jy,Jz,JA,JB,JC,JD,JE, srcRows, List.mapM_cons, List.mapM_nil, List.reverse_cons, List.reverse_nil, Option.bind_eq_bind, Option.pure_def, List.reverse_nil, sl_rows, hL, List.length_nil, Nat.zero_add, if_pos t5, if_pos one_le, if_pos r1, if_pos r2, List.nil_append, c6, retP, or_true])
            | (unfold saleroomref37_Accept_s_b4; simp -implicitDefEqProofs only [↓reduceIte,eq_self,JF,JG,JH,JI,JJ,JK,JL,JM,JN,JO,JP,JQ,JR,JS,JT,JU,JV,JW,JX,JY,J2,J3,J4,J5,J6,J7,J8,J9,Ja,Jb,Jc,Jd,Je,Jf,Jg,Jh,Nat.reduceAdd,Ji,if_true,if_false,Jl,Jm,Jn,Jo,Jp,Jq,Jr,Js,Jt,Ju,Jv,Jw,Jx,Jy,Jz,JA,JB,JC,JD,JE, srcRows, List.mapM_cons, List.mapM_nil, List.reverse_cons, List.reverse_nil, Option.bind_eq_bind, Option.pure_def, List.reverse_nil, sl_rows, hL, List.length_nil, Nat.zero_add, if_pos t5, if_pos one_le, if_pos r1, if_pos r2, List.nil_append, c6, retP, or_true]; done)
            | (unfold saleroomref37_Accept_s_b4; simp -implicitDefEqProofs only [↓reduceIte,eq_self,JF,JG,JH,JI,JJ,JK,JL,JM,JN,JO,JP,JQ,JR,JS,JT,JU,JV,JW,JX,JY,J2,J3,J4,J5,J6,J7,J8,J9,Ja,Jb,Jc,Jd,Je,Jf,Jg,Jh,Nat.reduceAdd,Ji,if_true,if_false,Jl,Jm,Jn,Jo,Jp,Jq,Jr,Js,Jt,Ju,Jv,Jw,Jx,Jy,Jz,JA,JB,JC,JD,JE, srcRows, List.mapM_cons, List.mapM_nil, List.reverse_cons, List.reverse_nil, Option.bind_eq_bind, Option.pure_def, List.reverse_nil, sl_rows, hL, List.length_nil, Nat.zero_add, if_pos t5, if_pos one_le, if_pos r1, if_pos r2, List.nil_append, c6, retP, or_true])
            | (unfold saleroomref37_Accept_s_b5; simp -implicitDefEqProofs only [↓reduceIte,eq_self,JF,JG,JH,JI,JJ,JK,JL,JM,JN,JO,JP,JQ,JR,JS,JT,JU,JV,JW,JX,JY,J2,J3,J4,J5,J6,J7,J8,J9,Ja,Jb,Jc,Jd,Je,Jf,Jg,Jh,Nat.reduceAdd,Ji,if_true,if_false,Jl,Jm,Jn,Jo,Jp,Jq,Jr,Js,Jt,Ju,Jv,Jw,Jx,Jy,Jz,JA,JB,JC,JD,JE, srcRows, List.mapM_cons, List.mapM_nil, List.reverse_cons, List.reverse_nil, Option.bind_eq_bind, Option.pure_def, List.reverse_nil, sl_rows, hL, List.length_nil, Nat.zero_add, if_pos t5, if_pos one_le, if_pos r1, if_pos r2, List.nil_append, c6, retP, or_true]; done)
            | (unfold saleroomref37_Accept_s_b5; simp -implicitDefEqProofs only [↓reduceIte,eq_self,JF,JG,JH,JI,JJ,JK,JL,JM,JN,JO,JP,JQ,JR,JS,JT,JU,JV,JW,JX,JY,J2,J3,J4,J5,J6,J7,J8,J9,Ja,Jb,Jc,Jd,Je,Jf,Jg,Jh,Nat.reduceAdd,Ji,if_true,if_false,Jl,Jm,Jn,Jo,Jp,Jq,Jr,Js,Jt,Ju,Jv,Jw,Jx,Jy,Jz,JA,JB,JC,JD,JE, srcRows, List.mapM_cons, List.mapM_nil, List.reverse_cons, List.reverse_nil, Option.bind_eq_bind, Option.pure_def, List.reverse_nil, sl_rows, hL, List.length_nil, Nat.zero_add, if_pos t5, if_pos one_le, if_pos r1, if_pos r2, List.nil_append, c6, retP, or_true])
            | (unfold saleroomref37_Accept_s_b6; simp -implicitDefEqProofs only [↓reduceIte,eq_self,JF,JG,JH,JI,JJ,JK,JL,JM,JN,JO,JP,JQ,JR,JS,JT,JU,JV,JW,JX,JY,J2,J3,J4,J5,J6,J7,J8,J9,Ja,Jb,Jc,Jd,Je,Jf,Jg,Jh,Nat.reduceAdd,Ji,if_true,if_false,Jl,Jm,Jn,Jo,Jp,Jq,Jr,Js,Jt,Ju,Jv,Jw,Jx,Jy,Jz,JA,JB,JC,JD,JE, srcRows, List.mapM_cons, List.mapM_nil, List.reverse_cons, List.reverse_nil, Option.bind_eq_bind, Option.pure_def, List.reverse_nil, sl_rows, hL, List.length_nil, Nat.zero_add, if_pos t5, if_pos one_le, if_pos r1, if_pos r2, List.nil_append, c6, retP, or_true]; done)
            | (unfold saleroomref37_Accept_s_b6; simp -implicitDefEqProofs only [↓reduceIte,eq_self,JF,JG,JH,JI,JJ,JK,JL,JM,JN,JO,JP,JQ,JR,JS,JT,JU,JV,JW,JX,JY,J2,J3,J4,J5,J6,J7,J8,J9,Ja,Jb,Jc,Jd,Je,Jf,Jg,Jh,Nat.reduceAdd,Ji,if_true,if_false,Jl,Jm,Jn,Jo,Jp,Jq,Jr,Js,Jt,Ju,Jv,Jw,Jx,Jy,Jz,JA,JB,JC,JD,JE, srcRows, List.mapM_cons, List.mapM_nil, List.reverse_cons, List.reverse_nil, Option.bind_eq_bind, Option.pure_def, List.reverse_nil, sl_rows, hL, List.length_nil, Nat.zero_add, if_pos t5, if_pos one_le, if_pos r1, if_pos r2, List.nil_append, c6, retP, or_true])
            | (unfold saleroomref37_Accept_s_b7; simp -implicitDefEqProofs only [↓reduceIte,eq_self,JF,JG,JH,JI,JJ,JK,JL,JM,JN,JO,JP,JQ,JR,JS,JT,JU,JV,JW,JX,JY,J2,J3,J4,J5,J6,J7,J8,J9,Ja,Jb,Jc,Jd,Je,Jf,Jg,Jh,Nat.reduceAdd,Ji,if_true,if_false,Jl,Jm,Jn,Jo,Jp,Jq,Jr,Js,Jt,Ju,Jv,Jw,Jx,Jy,Jz,JA,JB,JC,JD,JE, srcRows, List.mapM_cons, List.mapM_nil, List.reverse_cons, List.reverse_nil, Option.bind_eq_bind, Option.pure_def, List.reverse_nil, sl_rows, hL, List.length_nil, Nat.zero_add, if_pos t5, if_pos one_le, if_pos r1, if_pos r2, List.nil_append, c6, retP, or_true]; done)
            | (unfold saleroomref37_Accept_s_b7; simp -implicitDefEqProofs only [↓reduceIte,eq_self,JF,JG,JH,JI,JJ,JK,JL,JM,JN,JO,JP,JQ,JR,JS,JT,JU,JV,JW,JX,JY,J2,J3,J4,J5,J6,J7,J8,J9,Ja,Jb,Jc,Jd,Je,Jf,Jg,Jh,Nat.reduceAdd,Ji,if_true,if_false,Jl,Jm,Jn,Jo,Jp,Jq,Jr,Js,Jt,Ju,Jv,Jw,Jx,Jy,Jz,JA,JB,JC,JD,JE, srcRows, List.mapM_cons, List.mapM_nil, List.reverse_cons, List.reverse_nil, Option.bind_eq_bind, Option.pure_def, List.reverse_nil, sl_rows, hL, List.length_nil, Nat.zero_add, if_pos t5, if_pos one_le, if_pos r1, if_pos r2, List.nil_append, c6, retP, or_true])
            | (unfold saleroomref37_Accept_s_b8; simp -implicitDefEqProofs only [↓reduceIte,eq_self,JF,JG,JH,JI,JJ,JK,JL,JM,JN,JO,JP,JQ,JR,JS,JT,JU,JV,JW,JX,JY,J2,J3,J4,J5,J6,J7,J8,J9,Ja,Jb,Jc,Jd,Je,Jf,Jg,Jh,Nat.reduceAdd,Ji,if_true,if_false,Jl,Jm,Jn,Jo,Jp,Jq,Jr,Js,Jt,Ju,Jv,Jw,Jx,Jy,Jz,JA,JB,JC,JD,JE, srcRows, List.mapM_cons, List.mapM_nil, List.reverse_cons, List.reverse_nil, Option.bind_eq_bind, Option.pure_def, List.reverse_nil, sl_rows, hL, List.length_nil, Nat.zero_add, if_pos t5, if_pos one_le, if_pos r1, if_pos r2, List.nil_append, c6, retP, or_true]; done)
            | (unfold saleroomref37_Accept_s_b8; simp -implicitDefEqProofs only [↓reduceIte,eq_self,JF,JG,JH,JI,JJ,JK,JL,JM,JN,JO,JP,JQ,JR,JS,JT,JU,JV,JW,JX,JY,J2,J3,J4,J5,J6,J7,J8,J9,Ja,Jb,Jc,Jd,Je,Jf,Jg,Jh,Nat.reduceAdd,Ji,if_true,if_false,Jl,Jm,Jn,Jo,Jp,Jq,Jr,Js,Jt,Ju,Jv,Jw,Jx,Jy,Jz,JA,JB,JC,JD,JE, srcRows, List.mapM_cons, List.mapM_nil, List.reverse_cons, List.reverse_nil, Option.bind_eq_bind, Option.pure_def, List.reverse_nil, sl_rows, hL, List.length_nil, Nat.zero_add, if_pos t5, if_pos one_le, if_pos r1, if_pos r2, List.nil_append, c6, retP, or_true]))
  show ((PT.ev (evalF Tab n) saleroomref37_Accept_s _).bind _) = _
  exact (congrArg (Option.bind · _) E).trans rfl
end
end Go.Proofs.Ythjahianafohjaa
