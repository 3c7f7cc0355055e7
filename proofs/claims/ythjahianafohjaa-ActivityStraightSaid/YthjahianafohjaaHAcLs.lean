/- ActivityStraight: a bidder who always demands the bundle of maximum utility, at prices that never fall, is accepted by revealed preference in every round. -/
import Derived.Test.YthjahianafohjaaHAcO
import Derived.Test.YthjahianafohjaaRows
import Derived.WalkKit
import Derived.ProofKit
import Derived.OpenShut
import Derived.JoinedCond
import Derived.ShutString
set_option linter.unusedSimpArgs false
set_option linter.unusedVariables false
open Go.Sx.PT renaming ev → J1
open Go.Sx.BE renaming safe → J2, pe → J3, all → Jz
open Go.Sx.IE renaming pe → J4
open Go.Sx renaming PEnv.at → J5
open Go.Sx.PEnv renaming push → Jt
open List renaming getD_cons_zero → J6, getD_cons_succ → J7, getElem?_cons_zero → J8, getElem?_cons_succ → J9, drop_zero → Jf, length_cons → Jg, length_nil → Jh, take_succ_cons → Jm, take_zero → Jn, cons_append → Ju, nil_append → Jv, append_nil → Jw, map_cons → JD, map_nil → JE
open Go.Sx renaming locOf → Ja, locOn → Jb, readLoc → Jc, takeN → Jd, bindK → Jo, bindRes → Jp, bind1 → Jq, evb_ret → JF, evb_ite → JG, evb_need → JH, evb_load → JI, evb_app → JJ, evb_cut → JK, evb_scut → JL, evb_chk → JM, evb_appF → JN, evb_call → JO, evb_callv → JP, evb_newM → JQ, evb_mkM → JR, evb_storeM → JS, evb_appM → JT, evb_mkMap → JU, evb_mapGet → JV, evb_mapSet → JW, evb_mapClr → JX, evb_jump → JY
open Nat renaming add_zero → Je, le_refl → Ji
open Bool renaming false_eq_true → Jl, and_self → JA, not_true → JB, not_false → JC
open Option renaming map_some → Jr, bind_some → Js
open Go.Sx.SV renaming pvs → Jx, pv → Jy
set_option maxRecDepth 100000
namespace Go.Proofs.Ythjahianafohjaa
open Go.ChangeShapes Go.WideShapes Go.ChangeAt Go.RowKit Go.Sx
def cs12 : List (List PV) → PV
  | [] => .nilS
  | r => .sl 12 r
theorem cs12_rows (r : List (List PV)) : (cs12 r).rowsOf 12 = some r := by cases r <;> simp [cs12, PV.rowsOf]
theorem cs12_snoc (r : List (List PV)) (x : List PV) : PV.sl 12 (r ++ [x]) = cs12 (r ++ [x]) := by cases r <;> rfl
theorem accV_ok (s : St) (hh : hasB s 0 = true) (rule : Int) (hr : rule = 2 ∨ rule = 3) (l : List Ch) (x : Ch) (hx : x.w.ok) (he : exitB l = true → emptyB x.w = true) : accV s rule 0 l x true = 0 := by
  have hb : eqB (bchk x.w) 0 = true := by unfold bchk; rw [if_pos hx]; rfl
  unfold accV
  rw [hh, hb]
  cases hex : exitB l with
  | true =>
    rw [he hex]
    rcases hr with rfl | rfl <;> rfl
  | false =>
    rcases hr with rfl | rfl
    · rfl
    · cases fitB s 0 l x <;> rfl
/-- A straightforward choice is accepted. -/
theorem str_accept (s : St) (hs : s.Ok) (hh : hasB s 0 = true) (rule : Int) (hr : rule = 2 ∨ rule = 3) (vals : List Int) (l : List Ch) (L : PV) (hL : L.rowsOf 12 = some (l.map Ch.row)) (hl : l.length ≤ 29) (hstr : ∀ y ∈ l, Str vals y) (x : Ch) (hx : Str vals x) (hle : ∀ y ∈ l, y.p.leP x.p) :
    evalF Tab 2000000 n_activity_Accept [.agg s.pv, .int .i64 rule, .int .i64 0, L, .agg x.row] [] = some (.int .i64 0, []) := by
  have hall : ∀ y ∈ l ++ [x], Str vals y := fun y hy => by
    rw [List.mem_append, List.mem_singleton] at hy
    rcases hy with hy | rfl
    · exact hstr y hy
    · exact hx
  have ag : ∀ m, 31000 ≤ m → evalF Tab m n_activity_history_agrees [.agg (hist s 0 L), .agg x.row] [] = some (.bool true, []) := fun m hm => by
    obtain ⟨b, h1, h2⟩ := agrees_sem [] s hs 0 l L hL hl x m flat_nil hm
    have : b = true := h2.2 ⟨fun y hy => (hall y hy).ok, str_pot hall⟩
    rw [h1, this]
  have h := accept_sem [] s hs rule 0 l L hL hl x 2000000 true (by omega) (fun m h1 h2 => ag m (by omega))
  rw [accV_ok s hh rule hr l x hx.ok.2 ?_] at h
  · exact h
  · intro hex
    unfold exitB at hex
    cases hlast : l.getLast? with
    | none => rw [hlast] at hex; cases hex
    | some y =>
      rw [hlast] at hex
      have hy : y ∈ l := List.mem_of_getLast? hlast
      exact (hstr y hy).stay hx (hle y hy) hex
theorem straight_true (n0 : Nat) (ps : List PV) (hs : Shaped Try.prog n0 53 ps) (n1 : Nat) (rows : List (List PV)) (hs1 : ∀ r ∈ rows, Shaped Try.prog n1 2 r) (n2 : Nat) (rows2 : List (List PV)) (hs2 : ∀ r ∈ rows2, Shaped Try.prog n2 40 r) :
    evalF Tab 2000001 n_saleroomlaw37_ActivityStraight [.agg ps, .sl 1 rows, .sl 6 rows2] [] = some (.bool true, []) := by
  obtain ⟨s, rfl, hS, _, _⟩ := shaped_St hs
  obtain ⟨vals, rfl, _⟩ := shaped_ints (by kernel_rfl) rows hs1
  obtain ⟨prs, rfl⟩ := shaped_rows (row := W6.pv) (fun ps h => shaped_w6 Try.underlying40 (by kernel_rfl) h) rows2 hs2
  have hV : (PV.sl 1 (ints vals)).rowsOf 1 = some (ints vals) := sl_rows _ _
  have hR : (PV.sl 6 (prs.map W6.pv)).rowsOf 6 = some (prs.map W6.pv) := sl_rows _ _
  obtain ⟨p1, p2, p3⟩ := rows_len hS.P
  obtain ⟨b1, b2, b3⟩ := rows_len hS.B
  obtain ⟨v1, v2, v3⟩ := rows_len hV
  obtain ⟨r1, r2, r3⟩ := rows_len hR
  rw [List.length_map] at r1 b1
  rw [ints_len] at v1
  have ll := awake_more
  have c1 := few_sem [] s hS 2000000 (by omega)
  have c2 := rcheck08_sem [] s.ps s.P hS.P 2000000 (by omega)
  have dem := fun (p q : Int) (hp : 0 ≤ p ∧ p ≤ 1000) (hq : 0 ≤ q ∧ q ≤ 1000) => demand_sem [] vals (.sl 1 (ints vals)) hV p q hp hq 2000000 (by omega)
  have acc := fun (hh : hasB s 0 = true) (rule : Int) (hr : rule = 2 ∨ rule = 3) (l : List Ch) (hl : l.length ≤ 29) (hstr : ∀ y ∈ l, Str vals y) (x : Ch) (hx : Str vals x) (hle : ∀ y ∈ l, y.p.leP x.p) =>
    str_accept s hS hh rule hr vals l (cs12 (l.map Ch.row)) (cs12_rows _) hl hstr x hx hle
  generalize (PV.sl 1 (ints vals)) = V at *
  generalize (PV.sl 6 (prs.map W6.pv)) = R at *
  generalize fewB s = fw at *
  generalize pchk s.ps = pc at *
  simp only [n_saleroomlaw37_awake, n_saleroomlaw37_few, n_saleroomref08_Check, n_activity_Accept, n_saleroomlaw37_demand, St.pv, W6.pv, row_eq] at ll c1 c2 dem acc
  rw [evalF]
  simp only [tab_saleroomlaw37_ActivityStraight, Option.bind_some, Sys.run, St.pv]
  show ((bindPs [.sh (.agg [_, _, _, _]), .sh (.one _), .sh (.one _)] _).bind _) = _
  simp -implicitDefEqProofs only [bindPs, bind1, bindK, Option.map_some, Option.bind_some, List.append_nil, List.nil_append, List.cons_append, if_true, p3, b3, v3, r3, hS.C, hS.A]
  show (PT.ev _ saleroomlaw37_ActivityStraight_s _).bind _ = _
  simp -implicitDefEqProofs only [saleroomlaw37_ActivityStraight_s, ↓reduceIte,eq_self,JF,JG,JH,JI,JJ,JK,JL,JM,JN,JO,JP,JQ,JR,JS,JT,JU,JV,JW,JX,JY,J2,J3,J4,J5,J6,J7,J8,J9,Ja,Jb,Jc,Jd,Je,Jf,Jg,Jh,Nat.reduceAdd,Ji,if_true,if_false,Jl,Jm,Jn,Jo,Jp,Jq,Jr,Js,Jt,Ju,Jv,Jw,Jx,Jy,Jz,JA,JB,JC,JD,JE, c1]
  cases fw with
  | false => simp -implicitDefEqProofs only [↓reduceIte,eq_self,JF,JG,JH,JI,JJ,JK,JL,JM,JN,JO,JP,JQ,JR,JS,JT,JU,JV,JW,JX,JY,J2,J3,J4,J5,J6,J7,J8,J9,Ja,Jb,Jc,Jd,Je,Jf,Jg,Jh,Nat.reduceAdd,Ji,if_true,if_false,Jl,Jm,Jn,Jo,Jp,Jq,Jr,Js,Jt,Ju,Jv,Jw,Jx,Jy,Jz,JA,JB,JC,JD,JE, ll, retP, or_true]
  | true =>
  simp -implicitDefEqProofs only [↓reduceIte,eq_self,JF,JG,JH,JI,JJ,JK,JL,JM,JN,JO,JP,JQ,JR,JS,JT,JU,JV,JW,JX,JY,J2,J3,J4,J5,J6,J7,J8,J9,Ja,Jb,Jc,Jd,Je,Jf,Jg,Jh,Nat.reduceAdd,Ji,if_true,if_false,Jl,Jm,Jn,Jo,Jp,Jq,Jr,Js,Jt,Ju,Jv,Jw,Jx,Jy,Jz,JA,JB,JC,JD,JE, b1, b2]
  by_cases hb0 : s.bs.length = 0
  · have e1 : eqB (s.bs.length : Int) 0 = true := by rw [eqB_true]; omega
    simp -implicitDefEqProofs only [↓reduceIte,eq_self,JF,JG,JH,JI,JJ,JK,JL,JM,JN,JO,JP,JQ,JR,JS,JT,JU,JV,JW,JX,JY,J2,J3,J4,J5,J6,J7,J8,J9,Ja,Jb,Jc,Jd,Je,Jf,Jg,Jh,Nat.reduceAdd,Ji,if_true,if_false,Jl,Jm,Jn,Jo,Jp,Jq,Jr,Js,Jt,Ju,Jv,Jw,Jx,Jy,Jz,JA,JB,JC,JD,JE, e1, ll, retP, or_true]
  have e1 : eqB (s.bs.length : Int) 0 = false := by rw [eqB_false]; omega
  have hh : hasB s 0 = true := by simp only [hasB, Bool.and_eq_true, leB_true, ltB_true]; omega
  simp -implicitDefEqProofs only [↓reduceIte,eq_self,JF,JG,JH,JI,JJ,JK,JL,JM,JN,JO,JP,JQ,JR,JS,JT,JU,JV,JW,JX,JY,J2,J3,J4,J5,J6,J7,J8,J9,Ja,Jb,Jc,Jd,Je,Jf,Jg,Jh,Nat.reduceAdd,Ji,if_true,if_false,Jl,Jm,Jn,Jo,Jp,Jq,Jr,Js,Jt,Ju,Jv,Jw,Jx,Jy,Jz,JA,JB,JC,JD,JE, e1, v1, v2]
  by_cases h20 : 20 < vals.length
  · have e2 : ltB 20 (vals.length : Int) = true := by rw [ltB_true]; omega
    simp -implicitDefEqProofs only [↓reduceIte,eq_self,JF,JG,JH,JI,JJ,JK,JL,JM,JN,JO,JP,JQ,JR,JS,JT,JU,JV,JW,JX,JY,J2,J3,J4,J5,J6,J7,J8,J9,Ja,Jb,Jc,Jd,Je,Jf,Jg,Jh,Nat.reduceAdd,Ji,if_true,if_false,Jl,Jm,Jn,Jo,Jp,Jq,Jr,Js,Jt,Ju,Jv,Jw,Jx,Jy,Jz,JA,JB,JC,JD,JE, e2, ll, retP, or_true]
  have e2 : ltB 20 (vals.length : Int) = false := by rw [ltB_false]; omega
  simp -implicitDefEqProofs only [↓reduceIte,eq_self,JF,JG,JH,JI,JJ,JK,JL,JM,JN,JO,JP,JQ,JR,JS,JT,JU,JV,JW,JX,JY,J2,J3,J4,J5,J6,J7,J8,J9,Ja,Jb,Jc,Jd,Je,Jf,Jg,Jh,Nat.reduceAdd,Ji,if_true,if_false,Jl,Jm,Jn,Jo,Jp,Jq,Jr,Js,Jt,Ju,Jv,Jw,Jx,Jy,Jz,JA,JB,JC,JD,JE, e2, r1, r2]
  by_cases h30 : 30 < prs.length
  · have e3 : ltB 30 (prs.length : Int) = true := by rw [ltB_true]; omega
    simp -implicitDefEqProofs only [↓reduceIte,eq_self,JF,JG,JH,JI,JJ,JK,JL,JM,JN,JO,JP,JQ,JR,JS,JT,JU,JV,JW,JX,JY,J2,J3,J4,J5,J6,J7,J8,J9,Ja,Jb,Jc,Jd,Je,Jf,Jg,Jh,Nat.reduceAdd,Ji,if_true,if_false,Jl,Jm,Jn,Jo,Jp,Jq,Jr,Js,Jt,Ju,Jv,Jw,Jx,Jy,Jz,JA,JB,JC,JD,JE, e3, ll, retP, or_true]
  have e3 : ltB 30 (prs.length : Int) = false := by rw [ltB_false]; omega
  simp -implicitDefEqProofs only [↓reduceIte,eq_self,JF,JG,JH,JI,JJ,JK,JL,JM,JN,JO,JP,JQ,JR,JS,JT,JU,JV,JW,JX,JY,J2,J3,J4,J5,J6,J7,J8,J9,Ja,Jb,Jc,Jd,Je,Jf,Jg,Jh,Nat.reduceAdd,Ji,if_true,if_false,Jl,Jm,Jn,Jo,Jp,Jq,Jr,Js,Jt,Ju,Jv,Jw,Jx,Jy,Jz,JA,JB,JC,JD,JE, e3, c2]
  cases hpc : eqB pc 0 with
  | false => simp -implicitDefEqProofs only [↓reduceIte,eq_self,JF,JG,JH,JI,JJ,JK,JL,JM,JN,JO,JP,JQ,JR,JS,JT,JU,JV,JW,JX,JY,J2,J3,J4,J5,J6,J7,J8,J9,Ja,Jb,Jc,Jd,Je,Jf,Jg,Jh,Nat.reduceAdd,Ji,if_true,if_false,Jl,Jm,Jn,Jo,Jp,Jq,Jr,Js,Jt,Ju,Jv,Jw,Jx,Jy,Jz,JA,JB,JC,JD,JE, ll, retP, or_true]
  | true =>
  simp -implicitDefEqProofs only [↓reduceIte,eq_self,JF,JG,JH,JI,JJ,JK,JL,JM,JN,JO,JP,JQ,JR,JS,JT,JU,JV,JW,JX,JY,J2,J3,J4,J5,J6,J7,J8,J9,Ja,Jb,Jc,Jd,Je,Jf,Jg,Jh,Nat.reduceAdd,Ji,if_true,if_false,Jl,Jm,Jn,Jo,Jp,Jq,Jr,Js,Jt,Ju,Jv,Jw,Jx,Jy,Jz,JA,JB,JC,JD,JE]
  have loop : ∀ d i, i + d = prs.length → ∀ (l : List Ch) (p q : Int), l.length = i → (∀ x ∈ l, Str vals x) → (∀ x ∈ l, x.p.leP ⟨p, q, 0, 0, 0, 0⟩) → 0 ≤ p → p ≤ 1000 → 0 ≤ q → q ≤ 1000 → ∀ fuel,
      saleroomlaw37_ActivityStraight_S.loop (evalF Tab 2000000) (fuel + d + 1) 0 { i := [(i : Int), p, q], b := [], v := [V, R, cs12 (l.map Ch.row), s.P, s.B, s.C, s.A], m := [], k := 0 } = some (.bool true, []) := by
    intro d
    induction d with
    | zero =>
      intro i hi l p q _ _ _ _ _ _ _ fuel
      rw [Nat.add_zero] at hi; subst hi
      have hd : decide (prs.length < prs.length) = false := by simp
      rw [Nat.add_zero, Sys.loop, show saleroomlaw37_ActivityStraight_S.loops[0]? = some saleroomlaw37_ActivityStraight_t0 from rfl, Option.bind_some]
      simp -implicitDefEqProofs only [saleroomlaw37_ActivityStraight_t0, ↓reduceIte,eq_self,JF,JG,JH,JI,JJ,JK,JL,JM,JN,JO,JP,JQ,JR,JS,JT,JU,JV,JW,JX,JY,J2,J3,J4,J5,J6,J7,J8,J9,Ja,Jb,Jc,Jd,Je,Jf,Jg,Jh,Nat.reduceAdd,Ji,if_true,if_false,Jl,Jm,Jn,Jo,Jp,Jq,Jr,Js,Jt,Ju,Jv,Jw,Jx,Jy,Jz,JA,JB,JC,JD,JE, r1, r2, ltB_nat, hd, ll, retP, or_true]
    | succ d ih =>
      intro i hi l p q hl hstr hle hp0 hp1 hq0 hq1 fuel
      have hlt : i < prs.length := by omega
      obtain ⟨w, hw⟩ := get_ex hlt
      have hwr : (prs.map W6.pv)[i]? = some w.pv := by simp [hw]
      have hd : decide (i < prs.length) = true := decide_eq_true hlt
      have h0 := rows_get (off := 0) hR hwr
      have h1 := rows_get (off := 1) hR hwr
      have hup := up_ok (show i ≤ 1000000000 by omega)
      have dr1 : ∀ a b c d e f : PV, List.drop 1 [a, b, c, d, e, f] = [b, c, d, e, f] := fun _ _ _ _ _ _ => rfl
      rw [show fuel + (d + 1) + 1 = (fuel + d + 1) + 1 from rfl, Sys.loop, show saleroomlaw37_ActivityStraight_S.loops[0]? = some saleroomlaw37_ActivityStraight_t0 from rfl, Option.bind_some]
      simp -implicitDefEqProofs only [saleroomlaw37_ActivityStraight_t0, ↓reduceIte,eq_self,JF,JG,JH,JI,JJ,JK,JL,JM,JN,JO,JP,JQ,JR,JS,JT,JU,JV,JW,JX,JY,J2,J3,J4,J5,J6,J7,J8,J9,Ja,Jb,Jc,Jd,Je,Jf,Jg,Jh,Nat.reduceAdd,Ji,if_true,if_false,Jl,Jm,Jn,Jo,Jp,Jq,Jr,Js,Jt,Ju,Jv,Jw,Jx,Jy,Jz,JA,JB,JC,JD,JE, r1, r2, ltB_nat, hd, le0, h0, h1, W6.pv, dr1, Nat.reduceLeDiff]
      by_cases g1 : w.a < 0
      · have f1 : ltB w.a 0 = true := ltB_true.2 g1
        simp -implicitDefEqProofs only [↓reduceIte,eq_self,JF,JG,JH,JI,JJ,JK,JL,JM,JN,JO,JP,JQ,JR,JS,JT,JU,JV,JW,JX,JY,J2,J3,J4,J5,J6,J7,J8,J9,Ja,Jb,Jc,Jd,Je,Jf,Jg,Jh,Nat.reduceAdd,Ji,if_true,if_false,Jl,Jm,Jn,Jo,Jp,Jq,Jr,Js,Jt,Ju,Jv,Jw,Jx,Jy,Jz,JA,JB,JC,JD,JE, f1, ll, retP, or_true]
      have f1 : ltB w.a 0 = false := ltB_false.2 g1
      by_cases g2 : 1000 < w.a
      · have f2 : ltB 1000 w.a = true := ltB_true.2 g2
        simp -implicitDefEqProofs only [↓reduceIte,eq_self,JF,JG,JH,JI,JJ,JK,JL,JM,JN,JO,JP,JQ,JR,JS,JT,JU,JV,JW,JX,JY,J2,J3,J4,J5,J6,J7,J8,J9,Ja,Jb,Jc,Jd,Je,Jf,Jg,Jh,Nat.reduceAdd,Ji,if_true,if_false,Jl,Jm,Jn,Jo,Jp,Jq,Jr,Js,Jt,Ju,Jv,Jw,Jx,Jy,Jz,JA,JB,JC,JD,JE, f1, f2, ll, retP, or_true]
      have f2 : ltB 1000 w.a = false := ltB_false.2 g2
      by_cases g3 : w.b < 0
      · have f3 : ltB w.b 0 = true := ltB_true.2 g3
        simp -implicitDefEqProofs only [↓reduceIte,eq_self,JF,JG,JH,JI,JJ,JK,JL,JM,JN,JO,JP,JQ,JR,JS,JT,JU,JV,JW,JX,JY,J2,J3,J4,J5,J6,J7,J8,J9,Ja,Jb,Jc,Jd,Je,Jf,Jg,Jh,Nat.reduceAdd,Ji,if_true,if_false,Jl,Jm,Jn,Jo,Jp,Jq,Jr,Js,Jt,Ju,Jv,Jw,Jx,Jy,Jz,JA,JB,JC,JD,JE, f1, f2, f3, ll, retP, or_true]
      have f3 : ltB w.b 0 = false := ltB_false.2 g3
      by_cases g4 : 1000 < w.b
      · have f4 : ltB 1000 w.b = true := ltB_true.2 g4
        simp -implicitDefEqProofs only [↓reduceIte,eq_self,JF,JG,JH,JI,JJ,JK,JL,JM,JN,JO,JP,JQ,JR,JS,JT,JU,JV,JW,JX,JY,J2,J3,J4,J5,J6,J7,J8,J9,Ja,Jb,Jc,Jd,Je,Jf,Jg,Jh,Nat.reduceAdd,Ji,if_true,if_false,Jl,Jm,Jn,Jo,Jp,Jq,Jr,Js,Jt,Ju,Jv,Jw,Jx,Jy,Jz,JA,JB,JC,JD,JE, f1, f2, f3, f4, ll, retP, or_true]
      have f4 : ltB 1000 w.b = false := ltB_false.2 g4
      have a1 : p ≤ mxI p w.a ∧ 0 ≤ mxI p w.a ∧ mxI p w.a ≤ 1000 := by unfold mxI; split <;> omega
      have a2 : q ≤ mxI q w.b ∧ 0 ≤ mxI q w.b ∧ mxI q w.b ≤ 1000 := by unfold mxI; split <;> omega
      generalize hp' : mxI p w.a = p' at *
      generalize hq' : mxI q w.b = q' at *
      obtain ⟨most, a, b, hdi, m1⟩ := dem p' q' ⟨a1.2.1, a1.2.2⟩ ⟨a2.2.1, a2.2.2⟩
      have hx : Str vals ⟨⟨p', q', 0, 0, 0, 0⟩, ⟨(a : Int), (b : Int), 0, 0, 0, 0⟩⟩ := ⟨p', q', most, a, b, rfl, ⟨a1.2.1, a1.2.2⟩, ⟨a2.2.1, a2.2.2⟩, hdi⟩
      have hle' : ∀ y ∈ l, y.p.leP (⟨⟨p', q', 0, 0, 0, 0⟩, ⟨(a : Int), (b : Int), 0, 0, 0, 0⟩⟩ : Ch).p := fun y hy => by
        obtain ⟨k1, k2, k3, k4, k5, k6⟩ := hle y hy
        exact ⟨by have : y.p.a ≤ p := k1; show y.p.a ≤ p'; omega, by have : y.p.b ≤ q := k2; show y.p.b ≤ q'; omega, k3, k4, k5, k6⟩
      have m2 := acc hh 2 (.inl rfl) l (by omega) hstr _ hx hle'
      have m3 := acc hh 3 (.inr rfl) l (by omega) hstr _ hx hle'
      have hsn := cs12_snoc (l.map Ch.row) (⟨⟨p', q', 0, 0, 0, 0⟩, ⟨(a : Int), (b : Int), 0, 0, 0, 0⟩⟩ : Ch).row
      have hmap : (l ++ [(⟨⟨p', q', 0, 0, 0, 0⟩, ⟨(a : Int), (b : Int), 0, 0, 0, 0⟩⟩ : Ch)]).map Ch.row = l.map Ch.row ++ [(⟨⟨p', q', 0, 0, 0, 0⟩, ⟨(a : Int), (b : Int), 0, 0, 0, 0⟩⟩ : Ch).row] := by simp
      have rl : (l.map Ch.row).length + 1 ≤ 1000000 := by rw [List.length_map]; omega
      have ih := ih (i + 1) (by omega) (l ++ [⟨⟨p', q', 0, 0, 0, 0⟩, ⟨(a : Int), (b : Int), 0, 0, 0, 0⟩⟩]) p' q' (by simp [hl]) (fun y hy => by
          rw [List.mem_append, List.mem_singleton] at hy
          rcases hy with hy | rfl
          · exact hstr y hy
          · exact hx) (fun y hy => by
          rw [List.mem_append, List.mem_singleton] at hy
          rcases hy with hy | rfl
          · exact hle' y hy
          · exact ⟨Int.le_refl _, Int.le_refl _, Int.le_refl _, Int.le_refl _, Int.le_refl _, Int.le_refl _⟩) a1.2.1 a1.2.2 a2.2.1 a2.2.2 fuel
      rw [nat_succ i, hmap, ← hsn] at ih
      rw [row_eq] at ih
      have hcr := cs12_rows (l.map Ch.row)
      generalize cs12 (l.map Ch.row) = L at *
      simp -implicitDefEqProofs only [↓reduceIte,eq_self,JF,JG,JH,JI,JJ,JK,JL,JM,JN,JO,JP,JQ,JR,JS,JT,JU,JV,JW,JX,JY,J2,J3,J4,J5,J6,J7,J8,J9,Ja,Jb,Jc,Jd,Je,Jf,Jg,Jh,Nat.reduceAdd,Ji,if_true,if_false,Jl,Jm,Jn,Jo,Jp,Jq,Jr,Js,Jt,Ju,Jv,Jw,Jx,Jy,Jz,JA,JB,JC,JD,JE, f1, f2, f3, f4]
      have E : PT.ev (evalF Tab 2000000) saleroomlaw37_ActivityStraight_t0_b1 { i := [(i : Int), p, q, w.a, w.a, w.a, w.b, w.b, w.b], b := [], v := [V, R, L, s.P, s.B, s.C, s.A], m := [], k := 0 } = some (.jump 0 { i := [(i : Int) + 1, p', q'], b := [], v := [V, R, .sl 12 (l.map Ch.row ++ [[.int .i64 p', .int .i64 q', .int .i64 0, .int .i64 0, .int .i64 0, .int .i64 0, .int .i64 (a : Int), .int .i64 (b : Int), .int .i64 0, .int .i64 0, .int .i64 0, .int .i64 0]]), s.P, s.B, s.C, s.A], m := [], k := 0 }) := by
        have e0 : eqB 0 0 = true := rfl
        simp -implicitDefEqProofs only [saleroomlaw37_ActivityStraight_t0_b1, ↓reduceIte,eq_self,JF,JG,JH,JI,JJ,JK,JL,JM,JN,JO,JP,JQ,JR,JS,JT,JU,JV,JW,JX,JY,J2,J3,J4,J5,J6,J7,J8,J9,Ja,Jb,Jc,Jd,Je,Jf,Jg,Jh,Nat.reduceAdd,Ji,if_true,if_false,Jl,Jm,Jn,Jo,Jp,Jq,Jr,Js,Jt,Ju,Jv,Jw,Jx,Jy,Jz,JA,JB,JC,JD,JE, srcRows, List.mapM_cons, List.mapM_nil, List.reverse_cons, List.reverse_nil, Option.bind_eq_bind, Option.pure_def, hp', hq', m1, m2, m3, e0, hcr, sl_rows, Nat.zero_add, if_pos one_le, if_pos rl, if_pos hup]
      rw [ev_both E E]
      exact ih
  have := loop prs.length 0 (by omega) [] 0 0 rfl (fun x h => by cases h) (fun x h => by cases h) (by omega) (by omega) (by omega) (by omega) (2000000 - prs.length - 1)
  rw [show 2000000 - prs.length - 1 + prs.length + 1 = 2000000 by omega] at this
  exact this
theorem activityStraight_own : ownKnob Try.prog.godebug = none := by kernel_rfl
theorem activityStraight_laid : laidOutB Try.prog = true := by kernel_rfl
theorem activityStraight_types : Go.Sx.closed Try.prog [53, 25, 61, 48, 49, 50, 51, 2, 40, 90, 66, 140, 142, 9, 3] = true := by kernel_rfl
set_option maxRecDepth 100000 in
theorem activityStraight_lifted (os : Os) (started : os.Started) (H : Type) (enc : TypeId × Value → H) :
    ReturnsInHanded {} Try.checked os 11 .any (Rows.activityStraightSpec.pre6 enc Try.prog Try.f11 Rows.activityStraightRow.domain false) (Rows.activityStraightSpec.post enc Try.prog Try.f11 false true false false) := by
  refine returnsInHanded_of_change (C := Try.checked) activityStraight_own started (by kernel_rfl) Try.func11
    (ChangeSpec.witness6 (enc := enc) (C := Try.checked) false ⟨#[], #[.agg #[.slice none 0 0, .slice none 0 0, .slice none 0 0, .slice none 0 0], .slice none 0 0, .slice none 0 0], []⟩ 8 (by kernel_rfl) (by kernel_rfl) (by kernel_rfl) (by kernel_rfl)) ?_
  intro W base args ds gs before hval0 hW hcnd _
  have hval : ∀ (j : Nat) t v, Try.f11.params[j]? = some t → args[j]? = some v → Value.okWide Try.prog W .any base t v := hval0
  have hW' := hW
  obtain ⟨p, q, hA0, hV, rfl, hfz, hnd⟩ := hW
  have hA : DataW.TrodAll enc Try.prog W 0 (fun _ => true) true Try.f11.params.toList args.toList ds p := hA0
  rw [Try.params11] at hA hval
  obtain ⟨v0, vs0, d0, ds0, p0, q0, hargs, rfl, rfl, h0, r0⟩ := trodAll_cons hA
  obtain ⟨v1, vs1, d1, ds1, p1, q1, rfl, rfl, rfl, h1, r1⟩ := trodAll_cons r0
  obtain ⟨v2, vs2, d2, ds2, p2, q2, rfl, rfl, rfl, h2, r2⟩ := trodAll_cons r1
  obtain ⟨rfl, rfl, rfl⟩ := trodAll_nil r2
  obtain rfl : args = #[v0, v1, v2] := by cases args; simp_all
  obtain ⟨rfl, rfl⟩ := trodVars_none hV
  have k0 := h0
  have lt0 : ∀ x ∈ p0, x.block < W.heap.size := by obtain ⟨m, hm⟩ := k0; exact DataW.trod_lt m _ _ _ hm
  obtain ⟨n0, a0, e0, s0, w0⟩ := arg_struct activityStraight_types (t := 53) (by decide) Try.underlying53 (hval 0 53 v0 rfl rfl) h0
  have k1 := h1
  have lt1 : ∀ x ∈ p1, x.block < W.heap.size := by obtain ⟨m, hm⟩ := k1; exact DataW.trod_lt m _ _ _ hm
  obtain ⟨n1, a1, e1, s1, w1⟩ := arg_slice activityStraight_types (t := 25) (by decide) Try.underlying25 (hval 1 25 v1 rfl rfl) h1
  have k2 := h2
  have lt2 : ∀ x ∈ p2, x.block < W.heap.size := by obtain ⟨m, hm⟩ := k2; exact DataW.trod_lt m _ _ _ hm
  obtain ⟨n2, a2, e2, s2, w2⟩ := arg_slice activityStraight_types (t := 61) (by decide) Try.underlying61 (hval 2 61 v2 rfl rfl) h2
  clear hA0 hval0
  rw [show Try.prog.cellsOf 2 = 1 by kernel_rfl] at e1
  rw [show Try.prog.cellsOf 40 = 6 by kernel_rfl] at e2
  have hr : Go.Sx.Reps (Go.Sx.hpOf W) [] [.agg a0, .sl 1 a1, .sl 6 a2] [v0, v1, v2] := ⟨v0, _, rfl, e0, ⟨v1, _, rfl, e1, ⟨v2, _, rfl, e2, rfl⟩⟩⟩
  refine (Go.Sx.lift_true (Go.Sx.evalF_good tab_ok 2000001 11) (straight_true n0 a0 s0 n1 a1 s1 n2 a2 s2) hr).mono fun e W' hh => ?_
  obtain ⟨rfl, bel⟩ := hh
  exact ⟨_, rfl, _, _, _, [], _, [], hW', trodAll_mk1 (shut_bool Try.underlying4 _), (trodAll_cons_mk (Below.trod activityStraight_laid (by kernel_rfl) (of_decide_eq_true (by kernel_rfl)) k0 bel lt0) (trodAll_cons_mk (Below.trod activityStraight_laid (by kernel_rfl) (of_decide_eq_true (by kernel_rfl)) k1 bel lt1) (trodAll_cons_mk (Below.trod activityStraight_laid (by kernel_rfl) (of_decide_eq_true (by kernel_rfl)) k2 bel lt2) trodAll_mk0))), rfl, bel.frame _, fun h => by cases h⟩
theorem activityStraight_proved : Rows.ActivityStraightSaid :=
  OpenClaim.holds_of_wide 11 Try.f11 rfl rfl rfl rfl rfl rfl rfl ⟨rfl, rfl, rfl, rfl, rfl⟩ rfl rfl rfl rfl rfl (by kernel_rfl) Try.func11 (by kernel_rfl)
    (of_decide_eq_true (by kernel_rfl)) (by unfold Func.isWrapper; first | (rw [if_pos (by decide +kernel)]; kernel_rfl) | (rw [if_neg (by decide +kernel)]; exact ⟨rfl, rfl⟩))
    (fun os started H enc _ => activityStraight_lifted os started H enc)
end Go.Proofs.Ythjahianafohjaa
