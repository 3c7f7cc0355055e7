/- ActivityExact: a demand is accepted exactly if the rule allows it, and the errors are the specified ones. -/
import Derived.Test.YthjahianafohjaaHAcM
import Derived.Test.YthjahianafohjaaRows
import Derived.WalkKit
import Derived.ProofKit
import Derived.OpenShut
import Derived.JoinedCond
import Derived.ShutString
set_option linter.unusedSimpArgs false
set_option linter.unusedVariables false
open Go.Sx.PT renaming ev → J1
open Go.Sx.BE renaming safe → J2, pe → J3, all → Jz
open Go.Sx.IE renaming pe → J4
open Go.Sx renaming PEnv.at → J5
open Go.Sx.PEnv renaming push → Jt
open List renaming getD_cons_zero → J6, getD_cons_succ → J7, getElem?_cons_zero → J8, getElem?_cons_succ → J9, drop_zero → Jf, length_cons → Jg, length_nil → Jh, take_succ_cons → Jm, take_zero → Jn, cons_append → Ju, nil_append → Jv, append_nil → Jw, map_cons → JD, map_nil → JE
open Go.Sx renaming locOf → Ja, locOn → Jb, readLoc → Jc, takeN → Jd, bindK → Jo, bindRes → Jp, bind1 → Jq, evb_ret → JF, evb_ite → JG, evb_need → JH, evb_load → JI, evb_app → JJ, evb_cut → JK, evb_scut → JL, evb_chk → JM, evb_appF → JN, evb_call → JO, evb_callv → JP, evb_newM → JQ, evb_mkM → JR, evb_storeM → JS, evb_appM → JT, evb_mkMap → JU, evb_mapGet → JV, evb_mapSet → JW, evb_mapClr → JX, evb_jump → JY
open Nat renaming add_zero → Je, le_refl → Ji
open Bool renaming false_eq_true → Jl, and_self → JA, not_true → JB, not_false → JC
open Option renaming map_some → Jr, bind_some → Js
open Go.Sx.SV renaming pvs → Jx, pv → Jy
set_option maxRecDepth 100000
namespace Go.Proofs.Ythjahianafohjaa
open Go.ChangeShapes Go.WideShapes Go.ChangeAt Go.RowKit Go.Sx
theorem modB_true {l : List Ch} (h : modB l = true) : l.length ≤ 30 ∧ ∀ x ∈ l, x.ok := by
  simp only [modB, Bool.and_eq_true, Bool.not_eq_true', ltB_false, List.all_eq_true, decide_eq_true_eq] at h
  exact ⟨by omega, h.2⟩
/-- Both Accepts answer alike. -/
theorem accepts (s : St) (hs : s.Ok) (rule i : Int) (l : List Ch) (L : PV) (hL : L.rowsOf 12 = some (l.map Ch.row)) (hl : l.length ≤ 29) (hok : ∀ y ∈ l, y.ok) (x : Ch) (hx : x.p.pok) :
    ∃ ag : Bool, (x.w.ok → (ag = true ↔ Pot (l ++ [x]))) ∧ evalF Tab 2000000 n_activity_Accept [.agg s.pv, .int .i64 rule, .int .i64 i, L, .agg x.row] [] = some (.int .i64 (accV s rule i l x ag), []) ∧
      evalF Tab 2000000 n_saleroomref37_Accept [.agg s.pv, .int .i64 rule, .int .i64 i, L, .agg x.row] [] = some (.int .i64 (accV s rule i l x ag), []) := by
  have hall : x.w.ok → ∀ y ∈ l ++ [x], y.ok := fun hw y hy => by
    rw [List.mem_append, List.mem_singleton] at hy
    rcases hy with hy | rfl
    · exact hok y hy
    · exact ⟨hx, hw⟩
  obtain ⟨b0, _, h0⟩ := agrees_sem [] s hs i l L hL hl x 2000000 flat_nil (by omega)
  have ag : ∀ m, 31000 ≤ m → evalF Tab m n_activity_history_agrees [.agg (hist s i L), .agg x.row] [] = some (.bool b0, []) := fun m hm => by
    obtain ⟨b, h1, h2⟩ := agrees_sem [] s hs i l L hL hl x m flat_nil hm
    have : b = b0 := by
      cases b <;> cases b0 <;> simp_all
    rw [h1, this]
  have cs : x.w.ok → ∀ m, 1100000 ≤ m → evalF Tab m n_saleroomref37_Consistent [.sl 12 ((l ++ [x]).map Ch.row)] [] = some (.bool b0, []) := fun hw m hm => by
    obtain ⟨b, h1, h2⟩ := consistent_sem [] flat_nil (l ++ [x]) _ (sl_rows _ _) (hall hw) (by simp; omega) m hm
    have h3 : b0 = true ↔ Pot (l ++ [x]) := h0.trans ⟨fun h => h.2, fun h => ⟨hall hw, h⟩⟩
    have : b = b0 := by
      cases b <;> cases b0 <;> simp_all
    rw [h1, this]
  refine ⟨b0, fun hw => h0.trans ⟨fun h => h.2, fun h => ⟨hall hw, h⟩⟩, ?_, ?_⟩
  · exact accept_sem [] s hs rule i l L hL hl x 2000000 b0 (by omega) (fun m h1 h2 => ag m (by omega))
  · exact raccept_sem [] s hs rule i l L hL hl x 2000000 b0 (by omega) (fun hw m h1 h2 => cs hw m (by omega))
theorem exact_true (n0 : Nat) (ps : List PV) (hs : Shaped Try.prog n0 53 ps) (rule : Int) (hr0 : loI .i64 ≤ rule) (hr1 : rule ≤ hiI .i64) (i : Int) (hi0 : loI .i64 ≤ i) (hi1 : i ≤ hiI .i64) (n1 : Nat) (rows : List (List PV)) (hs1 : ∀ r ∈ rows, Shaped Try.prog n1 44 r) (n2 : Nat) (pc : List PV) (hs2 : Shaped Try.prog n2 44 pc) :
    evalF Tab 2000001 n_saleroomlaw37_ActivityExact [.agg ps, .int .i64 rule, .int .i64 i, .sl 12 rows, .agg pc] [] = some (.bool true, []) := by
  obtain ⟨s, rfl, hS, _, _⟩ := shaped_St hs
  obtain ⟨l, rfl⟩ := shaped_Chs rows hs1
  obtain ⟨x, rfl⟩ := shaped_Ch hs2
  have hP : (PV.sl 12 (l.map Ch.row)).rowsOf 12 = some (l.map Ch.row) := sl_rows _ _
  obtain ⟨p1, p2, p3⟩ := rows_len hS.P
  obtain ⟨b1, b2, b3⟩ := rows_len hS.B
  obtain ⟨l1, l2, l3⟩ := rows_len hP
  rw [List.length_map] at l1
  have ll := awake_more
  have c1 := few_sem [] s hS 2000000 (by omega)
  have c2 := mod_sem [] l (.sl 12 (l.map Ch.row)) (sl_rows _ _) 2000000 (by omega)
  have c3 := mod_sem [] [⟨x.p, w0⟩] (.sl 12 ([(⟨x.p, w0⟩ : Ch)].map Ch.row)) (sl_rows _ _) 2000000 (by omega)
  simp only [List.map_cons, List.map_nil] at c3
  have main : modB l = true → modB [(⟨x.p, w0⟩ : Ch)] = true → l.length ≤ 29 → ∃ z : Int, evalF Tab 2000000 n_activity_Accept [.agg s.pv, .int .i64 rule, .int .i64 i, .sl 12 (l.map Ch.row), .agg x.row] [] = some (.int .i64 z, []) ∧
      evalF Tab 2000000 n_saleroomref37_Accept [.agg s.pv, .int .i64 rule, .int .i64 i, .sl 12 (l.map Ch.row), .agg x.row] [] = some (.int .i64 z, []) := fun h1 h2 h3 => by
    obtain ⟨ag, _, k1, k2⟩ := accepts s hS rule i l (.sl 12 (l.map Ch.row)) hP h3 (modB_true h1).2 x ((modB_true h2).2 _ (List.mem_singleton.2 rfl)).1
    exact ⟨_, k1, k2⟩
  generalize fewB s = fw at *
  generalize modB [(⟨x.p, w0⟩ : Ch)] = md2 at *
  generalize modB l = md at *
  simp only [n_saleroomlaw37_awake, n_saleroomlaw37_few, n_saleroomref37_Moderate, n_activity_Accept, n_saleroomref37_Accept, St.pv, row_eq, w0] at ll c1 c2 c3 main
  rw [evalF]
  simp only [tab_saleroomlaw37_ActivityExact, Option.bind_some, Sys.run, St.pv, row_eq]
  show ((bindPs [.sh (.agg [_, _, _, _]), .sh (.one _), .sh (.one _), .sh (.one _), .sh (.agg [_, _, _, _, _, _, _, _, _, _, _, _])] _).bind _) = _
  simp -implicitDefEqProofs only [bindPs, bind1, bindK, Option.map_some, Option.bind_some, List.append_nil, List.nil_append, List.cons_append, if_true, p3, b3, l3, hS.C, hS.A]
  show (PT.ev _ saleroomlaw37_ActivityExact_s _).bind _ = _
  simp -implicitDefEqProofs only [saleroomlaw37_ActivityExact_s, ↓reduceIte,eq_self,JF,JG,JH,JI,JJ,JK,JL,JM,JN,JO,JP,JQ,JR,JS,JT,JU,JV,JW,JX,JY,J2,J3,J4,J5,J6,J7,J8,J9,Ja,Jb,Jc,Jd,Je,Jf,Jg,Jh,Nat.reduceAdd,Ji,if_true,if_false,Jl,Jm,Jn,Jo,Jp,Jq,Jr,Js,Jt,Ju,Jv,Jw,Jx,Jy,Jz,JA,JB,JC,JD,JE, c1]
  cases fw with
  | false => simp -implicitDefEqProofs only [↓reduceIte,eq_self,JF,JG,JH,JI,JJ,JK,JL,JM,JN,JO,JP,JQ,JR,JS,JT,JU,JV,JW,JX,JY,J2,J3,J4,J5,J6,J7,J8,J9,Ja,Jb,Jc,Jd,Je,Jf,Jg,Jh,Nat.reduceAdd,Ji,if_true,if_false,Jl,Jm,Jn,Jo,Jp,Jq,Jr,Js,Jt,Ju,Jv,Jw,Jx,Jy,Jz,JA,JB,JC,JD,JE, ll, retP, or_true]
  | true =>
  simp -implicitDefEqProofs only [↓reduceIte,eq_self,JF,JG,JH,JI,JJ,JK,JL,JM,JN,JO,JP,JQ,JR,JS,JT,JU,JV,JW,JX,JY,J2,J3,J4,J5,J6,J7,J8,J9,Ja,Jb,Jc,Jd,Je,Jf,Jg,Jh,Nat.reduceAdd,Ji,if_true,if_false,Jl,Jm,Jn,Jo,Jp,Jq,Jr,Js,Jt,Ju,Jv,Jw,Jx,Jy,Jz,JA,JB,JC,JD,JE, l1, l2]
  by_cases h29 : 29 < l.length
  · have e1 : ltB 29 (l.length : Int) = true := by rw [ltB_true]; omega
    simp -implicitDefEqProofs only [↓reduceIte,eq_self,JF,JG,JH,JI,JJ,JK,JL,JM,JN,JO,JP,JQ,JR,JS,JT,JU,JV,JW,JX,JY,J2,J3,J4,J5,J6,J7,J8,J9,Ja,Jb,Jc,Jd,Je,Jf,Jg,Jh,Nat.reduceAdd,Ji,if_true,if_false,Jl,Jm,Jn,Jo,Jp,Jq,Jr,Js,Jt,Ju,Jv,Jw,Jx,Jy,Jz,JA,JB,JC,JD,JE, e1, ll, retP, or_true]
  have e1 : ltB 29 (l.length : Int) = false := by rw [ltB_false]; omega
  simp -implicitDefEqProofs only [↓reduceIte,eq_self,JF,JG,JH,JI,JJ,JK,JL,JM,JN,JO,JP,JQ,JR,JS,JT,JU,JV,JW,JX,JY,J2,J3,J4,J5,J6,J7,J8,J9,Ja,Jb,Jc,Jd,Je,Jf,Jg,Jh,Nat.reduceAdd,Ji,if_true,if_false,Jl,Jm,Jn,Jo,Jp,Jq,Jr,Js,Jt,Ju,Jv,Jw,Jx,Jy,Jz,JA,JB,JC,JD,JE, e1, c2]
  cases md with
  | false => simp -implicitDefEqProofs only [↓reduceIte,eq_self,JF,JG,JH,JI,JJ,JK,JL,JM,JN,JO,JP,JQ,JR,JS,JT,JU,JV,JW,JX,JY,J2,J3,J4,J5,J6,J7,J8,J9,Ja,Jb,Jc,Jd,Je,Jf,Jg,Jh,Nat.reduceAdd,Ji,if_true,if_false,Jl,Jm,Jn,Jo,Jp,Jq,Jr,Js,Jt,Ju,Jv,Jw,Jx,Jy,Jz,JA,JB,JC,JD,JE, ll, retP, or_true]
  | true =>
  simp -implicitDefEqProofs only [↓reduceIte,eq_self,JF,JG,JH,JI,JJ,JK,JL,JM,JN,JO,JP,JQ,JR,JS,JT,JU,JV,JW,JX,JY,J2,J3,J4,J5,J6,J7,J8,J9,Ja,Jb,Jc,Jd,Je,Jf,Jg,Jh,Nat.reduceAdd,Ji,if_true,if_false,Jl,Jm,Jn,Jo,Jp,Jq,Jr,Js,Jt,Ju,Jv,Jw,Jx,Jy,Jz,JA,JB,JC,JD,JE, srcRows, List.mapM_cons, List.mapM_nil, List.reverse_cons, List.reverse_nil, Option.bind_eq_bind, Option.pure_def, Nat.zero_add, if_pos one_le, c3]
  cases md2 with
  | false => simp -implicitDefEqProofs only [↓reduceIte,eq_self,JF,JG,JH,JI,JJ,JK,JL,JM,JN,JO,JP,JQ,JR,JS,JT,JU,JV,JW,JX,JY,J2,J3,J4,J5,J6,J7,J8,J9,Ja,Jb,Jc,Jd,Je,Jf,Jg,Jh,Nat.reduceAdd,Ji,if_true,if_false,Jl,Jm,Jn,Jo,Jp,Jq,Jr,Js,Jt,Ju,Jv,Jw,Jx,Jy,Jz,JA,JB,JC,JD,JE, ll, retP, or_true]
  | true =>
  obtain ⟨z, m1, m2⟩ := main rfl rfl (by omega)
  simp -implicitDefEqProofs only [↓reduceIte,eq_self,JF,JG,JH,JI,JJ,JK,JL,JM,JN,JO,JP,JQ,JR,JS,JT,JU,JV,JW,JX,JY,J2,J3,J4,J5,J6,J7,J8,J9,Ja,Jb,Jc,Jd,Je,Jf,Jg,Jh,Nat.reduceAdd,Ji,if_true,if_false,Jl,Jm,Jn,Jo,Jp,Jq,Jr,Js,Jt,Ju,Jv,Jw,Jx,Jy,Jz,JA,JB,JC,JD,JE, m1, m2, eqB_self, ll, retP, or_true]
theorem activityExact_own : ownKnob Try.prog.godebug = none := by kernel_rfl
theorem activityExact_laid : laidOutB Try.prog = true := by kernel_rfl
theorem activityExact_types : Go.Sx.closed Try.prog [53, 22, 44, 48, 49, 50, 51, 40, 42, 90, 66, 140, 142, 2, 3, 9] = true := by kernel_rfl
set_option maxRecDepth 100000 in
theorem activityExact_lifted (os : Os) (started : os.Started) (H : Type) (enc : TypeId × Value → H) :
    ReturnsInHanded {} Try.checked os 8 .any (Rows.activityExactSpec.pre6 enc Try.prog Try.f8 Rows.activityExactRow.domain false) (Rows.activityExactSpec.post enc Try.prog Try.f8 false true false false) := by
  refine returnsInHanded_of_change (C := Try.checked) activityExact_own started (by kernel_rfl) Try.func8
    (ChangeSpec.witness6 (enc := enc) (C := Try.checked) false ⟨#[], #[.agg #[.slice none 0 0, .slice none 0 0, .slice none 0 0, .slice none 0 0], .int .i64 0, .int .i64 0, .slice none 0 0, .agg #[.int .i64 0, .int .i64 0, .int .i64 0, .int .i64 0, .int .i64 0, .int .i64 0, .int .i64 0, .int .i64 0, .int .i64 0, .int .i64 0, .int .i64 0, .int .i64 0]], []⟩ 8 (by kernel_rfl) (by kernel_rfl) (by kernel_rfl) (by kernel_rfl)) ?_
  intro W base args ds gs before hval0 hW hcnd _
  have hval : ∀ (j : Nat) t v, Try.f8.params[j]? = some t → args[j]? = some v → Value.okWide Try.prog W .any base t v := hval0
  have hW' := hW
  obtain ⟨p, q, hA0, hV, rfl, hfz, hnd⟩ := hW
  have hA : DataW.TrodAll enc Try.prog W 0 (fun _ => true) true Try.f8.params.toList args.toList ds p := hA0
  rw [Try.params8] at hA hval
  obtain ⟨v0, vs0, d0, ds0, p0, q0, hargs, rfl, rfl, h0, r0⟩ := trodAll_cons hA
  obtain ⟨v1, vs1, d1, ds1, p1, q1, rfl, rfl, rfl, h1, r1⟩ := trodAll_cons r0
  obtain ⟨v2, vs2, d2, ds2, p2, q2, rfl, rfl, rfl, h2, r2⟩ := trodAll_cons r1
  obtain ⟨v3, vs3, d3, ds3, p3, q3, rfl, rfl, rfl, h3, r3⟩ := trodAll_cons r2
  obtain ⟨v4, vs4, d4, ds4, p4, q4, rfl, rfl, rfl, h4, r4⟩ := trodAll_cons r3
  obtain ⟨rfl, rfl, rfl⟩ := trodAll_nil r4
  obtain rfl : args = #[v0, v1, v2, v3, v4] := by cases args; simp_all
  obtain ⟨rfl, rfl⟩ := trodVars_none hV
  have k0 := h0
  have lt0 : ∀ x ∈ p0, x.block < W.heap.size := by obtain ⟨m, hm⟩ := k0; exact DataW.trod_lt m _ _ _ hm
  obtain ⟨n0, a0, e0, s0, w0⟩ := arg_struct activityExact_types (t := 53) (by decide) Try.underlying53 (hval 0 53 v0 rfl rfl) h0
  have k1 := h1
  have lt1 : ∀ x ∈ p1, x.block < W.heap.size := by obtain ⟨m, hm⟩ := k1; exact DataW.trod_lt m _ _ _ hm
  obtain ⟨a1, e1, l1, u1⟩ := arg_int Try.underlying3 (hval 1 3 v1 rfl rfl) h1
  have k2 := h2
  have lt2 : ∀ x ∈ p2, x.block < W.heap.size := by obtain ⟨m, hm⟩ := k2; exact DataW.trod_lt m _ _ _ hm
  obtain ⟨a2, e2, l2, u2⟩ := arg_int Try.underlying3 (hval 2 3 v2 rfl rfl) h2
  have k3 := h3
  have lt3 : ∀ x ∈ p3, x.block < W.heap.size := by obtain ⟨m, hm⟩ := k3; exact DataW.trod_lt m _ _ _ hm
  obtain ⟨n3, a3, e3, s3, w3⟩ := arg_slice activityExact_types (t := 22) (by decide) Try.underlying22 (hval 3 22 v3 rfl rfl) h3
  have k4 := h4
  have lt4 : ∀ x ∈ p4, x.block < W.heap.size := by obtain ⟨m, hm⟩ := k4; exact DataW.trod_lt m _ _ _ hm
  obtain ⟨n4, a4, e4, s4, w4⟩ := arg_struct activityExact_types (t := 44) (by decide) Try.underlying44 (hval 4 44 v4 rfl rfl) h4
  clear hA0 hval0
  rw [show Try.prog.cellsOf 44 = 12 by kernel_rfl] at e3
  have hr : Go.Sx.Reps (Go.Sx.hpOf W) [] [.agg a0, .int .i64 a1, .int .i64 a2, .sl 12 a3, .agg a4] [v0, v1, v2, v3, v4] := ⟨v0, _, rfl, e0, ⟨v1, _, rfl, e1, ⟨v2, _, rfl, e2, ⟨v3, _, rfl, e3, ⟨v4, _, rfl, e4, rfl⟩⟩⟩⟩⟩
  refine (Go.Sx.lift_true (Go.Sx.evalF_good tab_ok 2000001 8) (exact_true n0 a0 s0 a1 l1 u1 a2 l2 u2 n3 a3 s3 n4 a4 s4) hr).mono fun e W' hh => ?_
  obtain ⟨rfl, bel⟩ := hh
  exact ⟨_, rfl, _, _, _, [], _, [], hW', trodAll_mk1 (shut_bool Try.underlying4 _), (trodAll_cons_mk (Below.trod activityExact_laid (by kernel_rfl) (of_decide_eq_true (by kernel_rfl)) k0 bel lt0) (trodAll_cons_mk (Below.trod activityExact_laid (by kernel_rfl) (of_decide_eq_true (by kernel_rfl)) k1 bel lt1) (trodAll_cons_mk (Below.trod activityExact_laid (by kernel_rfl) (of_decide_eq_true (by kernel_rfl)) k2 bel lt2) (trodAll_cons_mk (Below.trod activityExact_laid (by kernel_rfl) (of_decide_eq_true (by kernel_rfl)) k3 bel lt3) (trodAll_cons_mk (Below.trod activityExact_laid (by kernel_rfl) (of_decide_eq_true (by kernel_rfl)) k4 bel lt4) trodAll_mk0))))), rfl, bel.frame _, fun h => by cases h⟩
theorem activityExact_proved : Rows.ActivityExactSaid :=
  OpenClaim.holds_of_wide 8 Try.f8 rfl rfl rfl rfl rfl rfl rfl ⟨rfl, rfl, rfl, rfl, rfl⟩ rfl rfl rfl rfl rfl (by kernel_rfl) Try.func8 (by kernel_rfl)
    (of_decide_eq_true (by kernel_rfl)) (by unfold Func.isWrapper; first | (rw [if_pos (by decide +kernel)]; kernel_rfl) | (rw [if_neg (by decide +kernel)]; exact ⟨rfl, rfl⟩))
    (fun os started H enc _ => activityExact_lifted os started H enc)
end Go.Proofs.Ythjahianafohjaa
