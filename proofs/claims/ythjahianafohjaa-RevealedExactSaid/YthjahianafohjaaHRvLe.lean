/- RevealedExact: choices are consistent exactly if some values explain them, and the proof that is returned is accepted by the reference, for all lists of at most 14 choices. -/
import Derived.Test.YthjahianafohjaaHRvc
import Derived.Test.YthjahianafohjaaHRvAb
import Derived.Test.YthjahianafohjaaHRva
import Derived.Test.YthjahianafohjaaRows
import Derived.WalkKit
import Derived.ProofKit
import Derived.OpenShut
import Derived.JoinedCond
import Derived.ShutString
set_option linter.unusedSimpArgs false
set_option linter.unusedVariables false
open Go.Sx.PT renaming ev → J1
open Go.Sx.BE renaming safe → J2, pe → J3, all → Jz
open Go.Sx.IE renaming pe → J4
open Go.Sx renaming PEnv.at → J5
open Go.Sx.PEnv renaming push → Jt
open List renaming getD_cons_zero → J6, getD_cons_succ → J7, getElem?_cons_zero → J8, getElem?_cons_succ → J9, drop_zero → Jf, length_cons → Jg, length_nil → Jh, take_succ_cons → Jm, take_zero → Jn, cons_append → Ju, nil_append → Jv, append_nil → Jw, map_cons → JD, map_nil → JE
open Go.Sx renaming locOf → Ja, locOn → Jb, readLoc → Jc, takeN → Jd, bindK → Jo, bindRes → Jp, bind1 → Jq, evb_ret → JF, evb_ite → JG, evb_need → JH, evb_load → JI, evb_app → JJ, evb_cut → JK, evb_scut → JL, evb_chk → JM, evb_appF → JN, evb_call → JO, evb_callv → JP, evb_newM → JQ, evb_mkM → JR, evb_storeM → JS, evb_appM → JT, evb_mkMap → JU, evb_mapGet → JV, evb_mapSet → JW, evb_mapClr → JX, evb_jump → JY
open Nat renaming add_zero → Je, le_refl → Ji
open Bool renaming false_eq_true → Jl, and_self → JA, not_true → JB, not_false → JC
open Option renaming map_some → Jr, bind_some → Js
open Go.Sx.SV renaming pvs → Jx, pv → Jy
set_option maxRecDepth 100000
namespace Go.Proofs.Ythjahianafohjaa
open Go.ChangeShapes Go.WideShapes Go.ChangeAt Go.RowKit Go.Sx
theorem irows_ints (l : List Int) : irows l = ints l := rfl
theorem exact36_true (n0 : Nat) (rows : List (List PV)) (hs : ∀ r ∈ rows, Shaped Try.prog n0 44 r) :
    evalF Tab 40001 n_saleroomlaw36_RevealedExact [.sl 12 rows] [] = some (.bool true, []) := by
  obtain ⟨l, rfl⟩ := shaped_Chs rows hs
  have hP : (PV.sl 12 (l.map Ch.row)).rowsOf 12 = some (l.map Ch.row) := sl_rows _ _
  obtain ⟨p1, p2, p3⟩ := rows_len hP
  rw [List.length_map] at p1
  have ll := lives_more
  simp only [n_saleroomlaw36_lives] at ll
  have c1 := fun h : l.length ≤ 14 => check_sem [] flat_nil l _ hP (by omega) 40000 (by omega)
  have c2 := fun h : l.length ≤ 14 => rcheck36_sem [] flat_nil l _ hP h 40000 (by omega)
  have c3 := fun h : l.length ≤ 14 => rall_sem [] l _ hP 40000 (by omega) (by omega)
  have c4 := fun (h : l.length ≤ 14) (cyc vals : List Int) (C V : PV) (hC : C.rowsOf 1 = some (ints cyc)) (hV : V.rowsOf 1 = some (ints vals)) (h1 : cyc.length ≤ 1000) (h2 : vals.length ≤ 1000) => rverify_sem [] l _ hP cyc vals C V hC hV h 40000 (by omega) (by omega) (by omega)
  generalize (PV.sl 12 (l.map Ch.row)) = P at *
  simp only [n_revealed_Check, n_saleroomref36_Check, n_saleroomref36_All, n_saleroomref36_Verify] at c1 c2 c3 c4
  rw [evalF]
  simp only [tab_saleroomlaw36_RevealedExact, Option.bind_some, Sys.run]
  show ((bindPs [.sh (.one _)] _).bind _) = _
  simp -implicitDefEqProofs only [bindPs, bind1, bindK, Option.map_some, Option.bind_some, List.append_nil, List.nil_append, List.cons_append, if_true, p3]
  show (PT.ev _ saleroomlaw36_RevealedExact_s _).bind _ = _
  simp -implicitDefEqProofs only [saleroomlaw36_RevealedExact_s, ↓reduceIte,eq_self,JF,JG,JH,JI,JJ,JK,JL,JM,JN,JO,JP,JQ,JR,JS,JT,JU,JV,JW,JX,JY,J2,J3,J4,J5,J6,J7,J8,J9,Ja,Jb,Jc,Jd,Je,Jf,Jg,Jh,Nat.reduceAdd,Ji,if_true,if_false,Jl,Jm,Jn,Jo,Jp,Jq,Jr,Js,Jt,Ju,Jv,Jw,Jx,Jy,Jz,JA,JB,JC,JD,JE, p1, p2]
  by_cases h14 : 14 < l.length
  · have e1 : ltB 14 (l.length : Int) = true := by rw [ltB_true]; omega
    simp -implicitDefEqProofs only [↓reduceIte,eq_self,JF,JG,JH,JI,JJ,JK,JL,JM,JN,JO,JP,JQ,JR,JS,JT,JU,JV,JW,JX,JY,J2,J3,J4,J5,J6,J7,J8,J9,Ja,Jb,Jc,Jd,Je,Jf,Jg,Jh,Nat.reduceAdd,Ji,if_true,if_false,Jl,Jm,Jn,Jo,Jp,Jq,Jr,Js,Jt,Ju,Jv,Jw,Jx,Jy,Jz,JA,JB,JC,JD,JE, e1, ll, retP, or_true]
  have e1 : ltB 14 (l.length : Int) = false := by rw [ltB_false]; omega
  have hl : l.length ≤ 14 := by omega
  obtain ⟨p, hp, m1⟩ := c1 hl
  obtain ⟨w3, w4, b1, m2, o3, o4, hb⟩ := c2 hl
  have m3 := c3 hl
  have hall : (l.all fun x => decide x.ok) = true ↔ ∀ x ∈ l, x.ok := ⟨fun h x hx => by simpa using (List.all_eq_true.1 h) x hx, fun h => List.all_eq_true.2 fun x hx => decide_eq_true (h x hx)⟩
  have lenN : PV.nilS.len = 0 := rfl
  have isN : PV.isKind 0 .nilS = true := rfl
  have oneN : PV.nilS.one = true := rfl
  rcases hp with ⟨hno, rfl⟩ | ⟨hok, vs, hvs, hst, hlow, rfl⟩ | ⟨hok, vs, fs, c, t, z, j, k, hfin, hjk, hk, he, rfl⟩
  · have hb1 : b1 = false := by
      cases b1 with
      | false => rfl
      | true => exact absurd (hb.1 rfl).1 hno
    have ha : (l.all fun x => decide x.ok) = false := by rw [Bool.eq_false_iff]; exact fun h => hno (hall.1 h)
    rw [ha] at m3
    subst hb1
    have q0 : (leB (-9223372036854775808) ((0 : Int) + 0) && leB ((0 : Int) + 0) 9223372036854775807) = true := by decide
    have q1 : eqB ((0 : Int) + 0) 0 = true := by decide
    simp -implicitDefEqProofs only [↓reduceIte,eq_self,JF,JG,JH,JI,JJ,JK,JL,JM,JN,JO,JP,JQ,JR,JS,JT,JU,JV,JW,JX,JY,J2,J3,J4,J5,J6,J7,J8,J9,Ja,Jb,Jc,Jd,Je,Jf,Jg,Jh,Nat.reduceAdd,Ji,if_true,if_false,Jl,Jm,Jn,Jo,Jp,Jq,Jr,Js,Jt,Ju,Jv,Jw,Jx,Jy,Jz,JA,JB,JC,JD,JE, e1, m1, m2, m3, bindShs, oneN, o3, o4, lenN, isN, if_pos q0, q1, Bool.and_self, Bool.or_true, ll, retP, or_true]
  · have hb1 : b1 = true := hb.2 ⟨hok, at' vs, hst⟩
    subst hb1
    rw [hall.2 hok] at m3
    have hv := verd_of_vals hok hvs hst hlow
    have m4 := c4 hl [] (vs.map (· + raiseOf l vs)) .nilS (.sl 1 (irows (vs.map (· + raiseOf l vs)))) rfl (sl_rows _ _) (by simp) (by simp; omega)
    rw [hv] at m4
    have os : (PV.sl 1 (irows (vs.map (· + raiseOf l vs)))).one = true := rfl
    generalize (PV.sl 1 (irows (vs.map (· + raiseOf l vs)))) = V at *
    have q1 : eqB (0 : Int) 0 = true := rfl
    simp -implicitDefEqProofs only [↓reduceIte,eq_self,JF,JG,JH,JI,JJ,JK,JL,JM,JN,JO,JP,JQ,JR,JS,JT,JU,JV,JW,JX,JY,J2,J3,J4,J5,J6,J7,J8,J9,Ja,Jb,Jc,Jd,Je,Jf,Jg,Jh,Nat.reduceAdd,Ji,if_true,if_false,Jl,Jm,Jn,Jo,Jp,Jq,Jr,Js,Jt,Ju,Jv,Jw,Jx,Jy,Jz,JA,JB,JC,JD,JE, e1, m1, m2, m3, m4, bindShs, oneN, os, o3, o4, lenN, isN, q1, Bool.and_self, Bool.true_or, Bool.not_true, ll, retP, or_true]
  · have hnp : ¬ Pot l := fun ⟨π, hπ⟩ => hfin.none π hπ
    have hb1 : b1 = false := by
      cases b1 with
      | false => rfl
      | true => exact absurd (hb.1 rfl).2 hnp
    subst hb1
    rw [hall.2 hok] at m3
    have hv := verd_of_cycle hok (by omega) hfin hjk hk he
    have hlen : (irows (ckeys (at' fs) z j (k - j)).reverse).length = k - j := by simp [irows, ckeys_len]
    have m4 := c4 hl (ckeys (at' fs) z j (k - j)).reverse [] (.sl 1 (irows (ckeys (at' fs) z j (k - j)).reverse)) .nilS (sl_rows _ _) rfl (by simp [ckeys_len]; omega) (by simp)
    rw [hv] at m4
    have os : (PV.sl 1 (irows (ckeys (at' fs) z j (k - j)).reverse)).one = true := rfl
    have ok0 : PV.isKind 0 (PV.sl 1 (irows (ckeys (at' fs) z j (k - j)).reverse)) = true := rfl
    have hcl : (PV.sl 1 (irows (ckeys (at' fs) z j (k - j)).reverse)).len = ((k - j : Nat) : Int) := by
      show ((irows (ckeys (at' fs) z j (k - j)).reverse).length : Int) = _
      rw [hlen]
    generalize (PV.sl 1 (irows (ckeys (at' fs) z j (k - j)).reverse)) = C at *
    have q1 : eqB (((k - j : Nat) : Int)) 0 = false := by rw [eqB_false]; omega
    have q2 : eqB (0 : Int) 0 = true := rfl
    simp -implicitDefEqProofs only [↓reduceIte,eq_self,JF,JG,JH,JI,JJ,JK,JL,JM,JN,JO,JP,JQ,JR,JS,JT,JU,JV,JW,JX,JY,J2,J3,J4,J5,J6,J7,J8,J9,Ja,Jb,Jc,Jd,Je,Jf,Jg,Jh,Nat.reduceAdd,Ji,if_true,if_false,Jl,Jm,Jn,Jo,Jp,Jq,Jr,Js,Jt,Ju,Jv,Jw,Jx,Jy,Jz,JA,JB,JC,JD,JE, e1, m1, m2, m3, m4, bindShs, oneN, os, o3, o4, ok0, hcl, isN, q1, q2, Bool.and_self, Bool.or_true, Bool.false_and, Bool.not_false, ll, retP, or_true]
theorem revealedExact_own : ownKnob Try.prog.godebug = none := by kernel_rfl
theorem revealedExact_laid : laidOutB Try.prog = true := by kernel_rfl
theorem revealedExact_types : Go.Sx.closed Try.prog [22, 44, 40, 42, 2, 3] = true := by kernel_rfl
set_option maxRecDepth 100000 in
theorem revealedExact_lifted (os : Os) (started : os.Started) (H : Type) (enc : TypeId × Value → H) :
    ReturnsInHanded {} Try.checked os 3 .any (Rows.revealedExactSpec.pre6 enc Try.prog Try.f3 Rows.revealedExactRow.domain false) (Rows.revealedExactSpec.post enc Try.prog Try.f3 false true false false) := by
  refine returnsInHanded_of_change (C := Try.checked) revealedExact_own started (by kernel_rfl) Try.func3
    (ChangeSpec.witness6 (enc := enc) (C := Try.checked) false ⟨#[], #[.slice none 0 0], []⟩ 8 (by kernel_rfl) (by kernel_rfl) (by kernel_rfl) (by kernel_rfl)) ?_
  intro W base args ds gs before hval0 hW hcnd _
  have hval : ∀ (j : Nat) t v, Try.f3.params[j]? = some t → args[j]? = some v → Value.okWide Try.prog W .any base t v := hval0
  have hW' := hW
  obtain ⟨p, q, hA0, hV, rfl, hfz, hnd⟩ := hW
  have hA : DataW.TrodAll enc Try.prog W 0 (fun _ => true) true Try.f3.params.toList args.toList ds p := hA0
  rw [Try.params3] at hA hval
  obtain ⟨v0, vs0, d0, ds0, p0, q0, hargs, rfl, rfl, h0, r0⟩ := trodAll_cons hA
  obtain ⟨rfl, rfl, rfl⟩ := trodAll_nil r0
  obtain rfl : args = #[v0] := by cases args; simp_all
  obtain ⟨rfl, rfl⟩ := trodVars_none hV
  have k0 := h0
  have lt0 : ∀ x ∈ p0, x.block < W.heap.size := by obtain ⟨m, hm⟩ := k0; exact DataW.trod_lt m _ _ _ hm
  obtain ⟨n0, a0, e0, s0, w0⟩ := arg_slice revealedExact_types (t := 22) (by decide) Try.underlying22 (hval 0 22 v0 rfl rfl) h0
  clear hA0 hval0
  rw [show Try.prog.cellsOf 44 = 12 by kernel_rfl] at e0
  have hr : Go.Sx.Reps (Go.Sx.hpOf W) [] [.sl 12 a0] [v0] := ⟨v0, _, rfl, e0, rfl⟩
  refine (Go.Sx.lift_true (Go.Sx.evalF_good tab_ok 40001 3) (exact36_true n0 a0 s0) hr).mono fun e W' hh => ?_
  obtain ⟨rfl, bel⟩ := hh
  exact ⟨_, rfl, _, _, _, [], _, [], hW', trodAll_mk1 (shut_bool Try.underlying4 _), (trodAll_cons_mk (Below.trod revealedExact_laid (by kernel_rfl) (of_decide_eq_true (by kernel_rfl)) k0 bel lt0) trodAll_mk0), rfl, bel.frame _, fun h => by cases h⟩
theorem revealedExact_proved : Rows.RevealedExactSaid :=
  OpenClaim.holds_of_wide 3 Try.f3 rfl rfl rfl rfl rfl rfl rfl ⟨rfl, rfl, rfl, rfl, rfl⟩ rfl rfl rfl rfl rfl (by kernel_rfl) Try.func3 (by kernel_rfl)
    (of_decide_eq_true (by kernel_rfl)) (by unfold Func.isWrapper; first | (rw [if_pos (by decide +kernel)]; kernel_rfl) | (rw [if_neg (by decide +kernel)]; exact ⟨rfl, rfl⟩))
    (fun os started H enc _ => revealedExact_lifted os started H enc)
end Go.Proofs.Ythjahianafohjaa
