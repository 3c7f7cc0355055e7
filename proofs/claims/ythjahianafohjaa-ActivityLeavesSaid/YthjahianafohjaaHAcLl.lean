/- ActivityLeaves: the empty demand is accepted by points always, and by preference if the choices so far are consistent and no price was higher before. -/
import Derived.Test.YthjahianafohjaaHAcN
import Derived.Test.YthjahianafohjaaHAcLe
set_option linter.unusedSimpArgs false
set_option linter.unusedVariables false
open Go.Sx.PT renaming ev → J1
open Go.Sx.BE renaming safe → J2, pe → J3, all → Jz
open Go.Sx.IE renaming pe → J4
open Go.Sx renaming PEnv.at → J5
open Go.Sx.PEnv renaming push → Jt
open List renaming getD_cons_zero → J6, getD_cons_succ → J7, getElem?_cons_zero → J8, getElem?_cons_succ → J9, drop_zero → Jf, length_cons → Jg, length_nil → Jh, take_succ_cons → Jm, take_zero → Jn, cons_append → Ju, nil_append → Jv, append_nil → Jw, map_cons → JD, map_nil → JE
open Go.Sx renaming locOf → Ja, locOn → Jb, readLoc → Jc, takeN → Jd, bindK → Jo, bindRes → Jp, bind1 → Jq, evb_ret → JF, evb_ite → JG, evb_need → JH, evb_load → JI, evb_app → JJ, evb_cut → JK, evb_scut → JL, evb_chk → JM, evb_appF → JN, evb_call → JO, evb_callv → JP, evb_newM → JQ, evb_mkM → JR, evb_storeM → JS, evb_appM → JT, evb_mkMap → JU, evb_mapGet → JV, evb_mapSet → JW, evb_mapClr → JX, evb_jump → JY
open Nat renaming add_zero → Je, le_refl → Ji
open Bool renaming false_eq_true → Jl, and_self → JA, not_true → JB, not_false → JC
open Option renaming map_some → Jr, bind_some → Js
open Go.Sx.SV renaming pvs → Jx, pv → Jy
set_option maxRecDepth 100000
namespace Go.Proofs.Ythjahianafohjaa
open Go.ChangeShapes Go.WideShapes Go.ChangeAt Go.RowKit Go.Sx
theorem leaves_true (n0 : Nat) (ps : List PV) (hs : Shaped Try.prog n0 53 ps) (i : Int) (hi0 : loI .i64 ≤ i) (hi1 : i ≤ hiI .i64) (n1 : Nat) (rows : List (List PV)) (hs1 : ∀ r ∈ rows, Shaped Try.prog n1 44 r) (n2 : Nat) (pc : List PV) (hs2 : Shaped Try.prog n2 40 pc) :
    evalF Tab 2000001 n_saleroomlaw37_ActivityLeaves [.agg ps, .int .i64 i, .sl 12 rows, .agg pc] [] = some (.bool true, []) := by
  obtain ⟨s, rfl, hS, _, _⟩ := shaped_St hs
  obtain ⟨l, rfl⟩ := shaped_Chs rows hs1
  obtain ⟨p, rfl⟩ := shaped_w6 Try.underlying40 (by kernel_rfl) hs2
  have hP : (PV.sl 12 (l.map Ch.row)).rowsOf 12 = some (l.map Ch.row) := sl_rows _ _
  obtain ⟨p1, p2, p3⟩ := rows_len hS.P
  obtain ⟨b1, b2, b3⟩ := rows_len hS.B
  obtain ⟨l1, l2, l3⟩ := rows_len hP
  rw [List.length_map] at l1 b1
  have ll := awake_more
  have c1 := few_sem [] s hS 2000000 (by omega)
  have c2 := mod_sem [] l (.sl 12 (l.map Ch.row)) (sl_rows _ _) 2000000 (by omega)
  have c3 := mod_sem [] [⟨p, w0⟩] (.sl 12 ([(⟨p, w0⟩ : Ch)].map Ch.row)) (sl_rows _ _) 2000000 (by omega)
  have c4 := saleroomref07_Check_sem [] w0 2000000 (by omega)
  rw [show bchk w0 = 0 from rfl] at c4
  simp only [List.map_cons, List.map_nil] at c3
  have main : modB l = true → modB [(⟨p, w0⟩ : Ch)] = true → l.length ≤ 29 → ∀ rule : Int, ∃ ag : Bool, (ag = true ↔ Pot (l ++ [⟨p, w0⟩])) ∧ evalF Tab 2000000 n_activity_Accept [.agg s.pv, .int .i64 rule, .int .i64 i, .sl 12 (l.map Ch.row), .agg (⟨p, w0⟩ : Ch).row] [] = some (.int .i64 (accV s rule i l ⟨p, w0⟩ ag), []) := fun h1 h2 h3 rule => by
    obtain ⟨ag, k0, k1, _⟩ := accepts s hS rule i l (.sl 12 (l.map Ch.row)) hP h3 (modB_true h1).2 ⟨p, w0⟩ ((modB_true h2).2 _ (List.mem_singleton.2 rfl)).1
    exact ⟨ag, k0 w0_ok, k1⟩
  have cons : modB l = true → ∃ b, evalF Tab 2000000 n_saleroomref37_Consistent [.sl 12 (l.map Ch.row)] [] = some (.bool b, []) ∧ (b = true ↔ Pot l) := fun h1 =>
    consistent_sem [] flat_nil l _ hP (modB_true h1).2 (modB_true h1).1 2000000 (by omega)
  have hok := fun h => (modB_true (l := l) h).2
  have hl30 := fun h => (modB_true (l := l) h).1
  generalize fewB s = fw at *
  generalize modB [(⟨p, w0⟩ : Ch)] = md2 at *
  generalize modB l = md at *
  simp only [n_saleroomlaw37_awake, n_saleroomlaw37_few, n_saleroomref37_Moderate, n_activity_Accept, n_saleroomref37_Consistent, n_saleroomref07_Check, St.pv, W6.pv, row_eq, w0] at ll c1 c2 c3 c4 main cons
  rw [evalF]
  simp only [tab_saleroomlaw37_ActivityLeaves, Option.bind_some, Sys.run, St.pv, W6.pv]
  show ((bindPs [.sh (.agg [_, _, _, _]), .sh (.one _), .sh (.one _), .sh (.agg [_, _, _, _, _, _])] _).bind _) = _
  simp -implicitDefEqProofs only [bindPs, bind1, bindK, Option.map_some, Option.bind_some, List.append_nil, List.nil_append, List.cons_append, if_true, p3, b3, l3, hS.C, hS.A]
  show (PT.ev _ saleroomlaw37_ActivityLeaves_s _).bind _ = _
  simp -implicitDefEqProofs only [saleroomlaw37_ActivityLeaves_s, ↓reduceIte,eq_self,JF,JG,JH,JI,JJ,JK,JL,JM,JN,JO,JP,JQ,JR,JS,JT,JU,JV,JW,JX,JY,J2,J3,J4,J5,J6,J7,J8,J9,Ja,Jb,Jc,Jd,Je,Jf,Jg,Jh,Nat.reduceAdd,Ji,if_true,if_false,Jl,Jm,Jn,Jo,Jp,Jq,Jr,Js,Jt,Ju,Jv,Jw,Jx,Jy,Jz,JA,JB,JC,JD,JE, c1]
  cases fw with
  | false => simp -implicitDefEqProofs only [↓reduceIte,eq_self,JF,JG,JH,JI,JJ,JK,JL,JM,JN,JO,JP,JQ,JR,JS,JT,JU,JV,JW,JX,JY,J2,J3,J4,J5,J6,J7,J8,J9,Ja,Jb,Jc,Jd,Je,Jf,Jg,Jh,Nat.reduceAdd,Ji,if_true,if_false,Jl,Jm,Jn,Jo,Jp,Jq,Jr,Js,Jt,Ju,Jv,Jw,Jx,Jy,Jz,JA,JB,JC,JD,JE, ll, retP, or_true]
  | true =>
  simp -implicitDefEqProofs only [↓reduceIte,eq_self,JF,JG,JH,JI,JJ,JK,JL,JM,JN,JO,JP,JQ,JR,JS,JT,JU,JV,JW,JX,JY,J2,J3,J4,J5,J6,J7,J8,J9,Ja,Jb,Jc,Jd,Je,Jf,Jg,Jh,Nat.reduceAdd,Ji,if_true,if_false,Jl,Jm,Jn,Jo,Jp,Jq,Jr,Js,Jt,Ju,Jv,Jw,Jx,Jy,Jz,JA,JB,JC,JD,JE, l1, l2]
  by_cases h29 : 29 < l.length
  · have e1 : ltB 29 (l.length : Int) = true := by rw [ltB_true]; omega
    simp -implicitDefEqProofs only [↓reduceIte,eq_self,JF,JG,JH,JI,JJ,JK,JL,JM,JN,JO,JP,JQ,JR,JS,JT,JU,JV,JW,JX,JY,J2,J3,J4,J5,J6,J7,J8,J9,Ja,Jb,Jc,Jd,Je,Jf,Jg,Jh,Nat.reduceAdd,Ji,if_true,if_false,Jl,Jm,Jn,Jo,Jp,Jq,Jr,Js,Jt,Ju,Jv,Jw,Jx,Jy,Jz,JA,JB,JC,JD,JE, e1, ll, retP, or_true]
  have e1 : ltB 29 (l.length : Int) = false := by rw [ltB_false]; omega
  simp -implicitDefEqProofs only [↓reduceIte,eq_self,JF,JG,JH,JI,JJ,JK,JL,JM,JN,JO,JP,JQ,JR,JS,JT,JU,JV,JW,JX,JY,J2,J3,J4,J5,J6,J7,J8,J9,Ja,Jb,Jc,Jd,Je,Jf,Jg,Jh,Nat.reduceAdd,Ji,if_true,if_false,Jl,Jm,Jn,Jo,Jp,Jq,Jr,Js,Jt,Ju,Jv,Jw,Jx,Jy,Jz,JA,JB,JC,JD,JE, e1, c2]
  cases md with
  | false => simp -implicitDefEqProofs only [↓reduceIte,eq_self,JF,JG,JH,JI,JJ,JK,JL,JM,JN,JO,JP,JQ,JR,JS,JT,JU,JV,JW,JX,JY,J2,J3,J4,J5,J6,J7,J8,J9,Ja,Jb,Jc,Jd,Je,Jf,Jg,Jh,Nat.reduceAdd,Ji,if_true,if_false,Jl,Jm,Jn,Jo,Jp,Jq,Jr,Js,Jt,Ju,Jv,Jw,Jx,Jy,Jz,JA,JB,JC,JD,JE, ll, retP, or_true]
  | true =>
  simp -implicitDefEqProofs only [↓reduceIte,eq_self,JF,JG,JH,JI,JJ,JK,JL,JM,JN,JO,JP,JQ,JR,JS,JT,JU,JV,JW,JX,JY,J2,J3,J4,J5,J6,J7,J8,J9,Ja,Jb,Jc,Jd,Je,Jf,Jg,Jh,Nat.reduceAdd,Ji,if_true,if_false,Jl,Jm,Jn,Jo,Jp,Jq,Jr,Js,Jt,Ju,Jv,Jw,Jx,Jy,Jz,JA,JB,JC,JD,JE, srcRows, List.mapM_cons, List.mapM_nil, List.reverse_cons, List.reverse_nil, Option.bind_eq_bind, Option.pure_def, Nat.zero_add, if_pos one_le, c3]
  cases md2 with
  | false => simp -implicitDefEqProofs only [↓reduceIte,eq_self,JF,JG,JH,JI,JJ,JK,JL,JM,JN,JO,JP,JQ,JR,JS,JT,JU,JV,JW,JX,JY,J2,J3,J4,J5,J6,J7,J8,J9,Ja,Jb,Jc,Jd,Je,Jf,Jg,Jh,Nat.reduceAdd,Ji,if_true,if_false,Jl,Jm,Jn,Jo,Jp,Jq,Jr,Js,Jt,Ju,Jv,Jw,Jx,Jy,Jz,JA,JB,JC,JD,JE, ll, retP, or_true]
  | true =>
  simp -implicitDefEqProofs only [↓reduceIte,eq_self,JF,JG,JH,JI,JJ,JK,JL,JM,JN,JO,JP,JQ,JR,JS,JT,JU,JV,JW,JX,JY,J2,J3,J4,J5,J6,J7,J8,J9,Ja,Jb,Jc,Jd,Je,Jf,Jg,Jh,Nat.reduceAdd,Ji,if_true,if_false,Jl,Jm,Jn,Jo,Jp,Jq,Jr,Js,Jt,Ju,Jv,Jw,Jx,Jy,Jz,JA,JB,JC,JD,JE]
  by_cases hi : i < 0
  · have e2 : ltB i 0 = true := ltB_true.2 hi
    simp -implicitDefEqProofs only [↓reduceIte,eq_self,JF,JG,JH,JI,JJ,JK,JL,JM,JN,JO,JP,JQ,JR,JS,JT,JU,JV,JW,JX,JY,J2,J3,J4,J5,J6,J7,J8,J9,Ja,Jb,Jc,Jd,Je,Jf,Jg,Jh,Nat.reduceAdd,Ji,if_true,if_false,Jl,Jm,Jn,Jo,Jp,Jq,Jr,Js,Jt,Ju,Jv,Jw,Jx,Jy,Jz,JA,JB,JC,JD,JE, e2, ll, retP, or_true]
  have e2 : ltB i 0 = false := ltB_false.2 hi
  simp -implicitDefEqProofs only [↓reduceIte,eq_self,JF,JG,JH,JI,JJ,JK,JL,JM,JN,JO,JP,JQ,JR,JS,JT,JU,JV,JW,JX,JY,J2,J3,J4,J5,J6,J7,J8,J9,Ja,Jb,Jc,Jd,Je,Jf,Jg,Jh,Nat.reduceAdd,Ji,if_true,if_false,Jl,Jm,Jn,Jo,Jp,Jq,Jr,Js,Jt,Ju,Jv,Jw,Jx,Jy,Jz,JA,JB,JC,JD,JE, e2, b1, b2]
  by_cases hib : (s.bs.length : Int) ≤ i
  · have e3 : leB (s.bs.length : Int) i = true := leB_true.2 hib
    simp -implicitDefEqProofs only [↓reduceIte,eq_self,JF,JG,JH,JI,JJ,JK,JL,JM,JN,JO,JP,JQ,JR,JS,JT,JU,JV,JW,JX,JY,J2,J3,J4,J5,J6,J7,J8,J9,Ja,Jb,Jc,Jd,Je,Jf,Jg,Jh,Nat.reduceAdd,Ji,if_true,if_false,Jl,Jm,Jn,Jo,Jp,Jq,Jr,Js,Jt,Ju,Jv,Jw,Jx,Jy,Jz,JA,JB,JC,JD,JE, e3, ll, retP, or_true]
  have e3 : leB (s.bs.length : Int) i = false := leB_false.2 hib
  obtain ⟨k, rfl⟩ : ∃ k : Nat, i = (k : Int) := ⟨i.toNat, by omega⟩
  have hk : k < s.bs.length := by omega
  obtain ⟨b, hb⟩ := get_ex hk
  have hloc := rows_get (off := 3) hS.B (rows_bds hb)
  have hd : decide (k < s.bs.length) = true := decide_eq_true hk
  have dr : ∀ a b c d : PV, List.drop 3 [a, b, c, d] = [d] := fun _ _ _ _ => rfl
  simp -implicitDefEqProofs only [↓reduceIte,eq_self,JF,JG,JH,JI,JJ,JK,JL,JM,JN,JO,JP,JQ,JR,JS,JT,JU,JV,JW,JX,JY,J2,J3,J4,J5,J6,J7,J8,J9,Ja,Jb,Jc,Jd,Je,Jf,Jg,Jh,Nat.reduceAdd,Ji,if_true,if_false,Jl,Jm,Jn,Jo,Jp,Jq,Jr,Js,Jt,Ju,Jv,Jw,Jx,Jy,Jz,JA,JB,JC,JD,JE, e3, b1, ltB_nat, hd, le0, hloc, bd_row, dr, Nat.reduceLeDiff]
  by_cases hp : b.p < 0
  · have e4 : ltB b.p 0 = true := ltB_true.2 hp
    simp -implicitDefEqProofs only [↓reduceIte,eq_self,JF,JG,JH,JI,JJ,JK,JL,JM,JN,JO,JP,JQ,JR,JS,JT,JU,JV,JW,JX,JY,J2,J3,J4,J5,J6,J7,J8,J9,Ja,Jb,Jc,Jd,Je,Jf,Jg,Jh,Nat.reduceAdd,Ji,if_true,if_false,Jl,Jm,Jn,Jo,Jp,Jq,Jr,Js,Jt,Ju,Jv,Jw,Jx,Jy,Jz,JA,JB,JC,JD,JE, e4, ll, retP, or_true]
  have e4 : ltB b.p 0 = false := ltB_false.2 hp
  obtain ⟨ag1, _, m1⟩ := main rfl rfl (by omega) 1
  obtain ⟨ag2, hag, m2⟩ := main rfl rfl (by omega) 2
  obtain ⟨cb, m3, hcb⟩ := cons rfl
  have v1 := leaves_pts hb (by omega) l p ag1
  simp only [w0] at v1
  rw [v1] at m1
  simp -implicitDefEqProofs only [↓reduceIte,eq_self,JF,JG,JH,JI,JJ,JK,JL,JM,JN,JO,JP,JQ,JR,JS,JT,JU,JV,JW,JX,JY,J2,J3,J4,J5,J6,J7,J8,J9,Ja,Jb,Jc,Jd,Je,Jf,Jg,Jh,Nat.reduceAdd,Ji,if_true,if_false,Jl,Jm,Jn,Jo,Jp,Jq,Jr,Js,Jt,Ju,Jv,Jw,Jx,Jy,Jz,JA,JB,JC,JD,JE, e4, c4, eqB_self, m1]
  have loop : ∀ d j, j + d = l.length → (∀ x ∈ l.take j, x.p.leP p) → ∀ fuel, saleroomlaw37_ActivityLeaves_S.loop (evalF Tab 2000000) (fuel + d + 1) 0 { i := [(k : Int), (j : Int), p.a, p.b, p.c, p.d, p.e, p.f], b := [], v := [.sl 12 (l.map Ch.row), s.P, s.B, s.C, s.A], m := [], k := 0 } = some (.bool true, []) := by
    intro d
    induction d with
    | zero =>
      intro j hj hle fuel
      rw [Nat.add_zero] at hj; subst hj
      have hd : decide (l.length < l.length) = false := by simp
      rw [Sys.loop, show saleroomlaw37_ActivityLeaves_S.loops[0]? = some saleroomlaw37_ActivityLeaves_t0 from rfl]
      simp -implicitDefEqProofs only [Option.bind_some, saleroomlaw37_ActivityLeaves_t0, ↓reduceIte,eq_self,JF,JG,JH,JI,JJ,JK,JL,JM,JN,JO,JP,JQ,JR,JS,JT,JU,JV,JW,JX,JY,J2,J3,J4,J5,J6,J7,J8,J9,Ja,Jb,Jc,Jd,Je,Jf,Jg,Jh,Nat.reduceAdd,Ji,if_true,if_false,Jl,Jm,Jn,Jo,Jp,Jq,Jr,Js,Jt,Ju,Jv,Jw,Jx,Jy,Jz,JA,JB,JC,JD,JE, l1, l2, ltB_nat, hd, m3]
      cases cb with
      | false => simp -implicitDefEqProofs only [↓reduceIte,eq_self,JF,JG,JH,JI,JJ,JK,JL,JM,JN,JO,JP,JQ,JR,JS,JT,JU,JV,JW,JX,JY,J2,J3,J4,J5,J6,J7,J8,J9,Ja,Jb,Jc,Jd,Je,Jf,Jg,Jh,Nat.reduceAdd,Ji,if_true,if_false,Jl,Jm,Jn,Jo,Jp,Jq,Jr,Js,Jt,Ju,Jv,Jw,Jx,Jy,Jz,JA,JB,JC,JD,JE, ll, retP, or_true]
      | true =>
        rw [take_all] at hle
        have hpot := pot_leave (hok rfl) (hcb.1 rfl) hle
        have hag2 : ag2 = true := hag.2 hpot
        subst hag2
        have v2 := leaves_pref hb l p
        simp only [w0] at v2
        rw [v2] at m2
        simp -implicitDefEqProofs only [↓reduceIte,eq_self,JF,JG,JH,JI,JJ,JK,JL,JM,JN,JO,JP,JQ,JR,JS,JT,JU,JV,JW,JX,JY,J2,J3,J4,J5,J6,J7,J8,J9,Ja,Jb,Jc,Jd,Je,Jf,Jg,Jh,Nat.reduceAdd,Ji,if_true,if_false,Jl,Jm,Jn,Jo,Jp,Jq,Jr,Js,Jt,Ju,Jv,Jw,Jx,Jy,Jz,JA,JB,JC,JD,JE, m2, eqB_self, ll, retP, or_true]
    | succ d ih =>
      intro j hj hle fuel
      have hlt : j < l.length := by omega
      obtain ⟨x, hx⟩ := get_ex hlt
      have hdj : decide (j < l.length) = true := decide_eq_true hlt
      have hup := up_ok (show j ≤ 1000000000 by omega)
      have h0 := rows_get (off := 0) hP (rows_chs hx)
      have h1 := rows_get (off := 1) hP (rows_chs hx)
      have h2 := rows_get (off := 2) hP (rows_chs hx)
      have h3 := rows_get (off := 3) hP (rows_chs hx)
      have h4 := rows_get (off := 4) hP (rows_chs hx)
      have h5 := rows_get (off := 5) hP (rows_chs hx)
      have ih := ih (j + 1) (by omega)
      obtain ⟨⟨a, b', c, d', e', f⟩, w⟩ := x
      obtain ⟨g1, g2, g3, g4, g5⟩ := dr12 (.int .i64 a) (.int .i64 b') (.int .i64 c) (.int .i64 d') (.int .i64 e') (.int .i64 f) (.int .i64 w.a) (.int .i64 w.b) (.int .i64 w.c) (.int .i64 w.d) (.int .i64 w.e) (.int .i64 w.f)
      rw [show fuel + (d + 1) + 1 = (fuel + d + 1) + 1 from rfl, Sys.loop, show saleroomlaw37_ActivityLeaves_S.loops[0]? = some saleroomlaw37_ActivityLeaves_t0 from rfl]
      simp -implicitDefEqProofs only [Option.bind_some, saleroomlaw37_ActivityLeaves_t0, ↓reduceIte,eq_self,JF,JG,JH,JI,JJ,JK,JL,JM,JN,JO,JP,JQ,JR,JS,JT,JU,JV,JW,JX,JY,J2,J3,J4,J5,J6,J7,J8,J9,Ja,Jb,Jc,Jd,Je,Jf,Jg,Jh,Nat.reduceAdd,Ji,if_true,if_false,Jl,Jm,Jn,Jo,Jp,Jq,Jr,Js,Jt,Ju,Jv,Jw,Jx,Jy,Jz,JA,JB,JC,JD,JE, l1, l2, ltB_nat, hdj, le0, h0, row_eq, Nat.reduceLeDiff]
      cases f1 : ltB p.a a with
      | true => simp -implicitDefEqProofs only [↓reduceIte,eq_self,JF,JG,JH,JI,JJ,JK,JL,JM,JN,JO,JP,JQ,JR,JS,JT,JU,JV,JW,JX,JY,J2,J3,J4,J5,J6,J7,J8,J9,Ja,Jb,Jc,Jd,Je,Jf,Jg,Jh,Nat.reduceAdd,Ji,if_true,if_false,Jl,Jm,Jn,Jo,Jp,Jq,Jr,Js,Jt,Ju,Jv,Jw,Jx,Jy,Jz,JA,JB,JC,JD,JE, ll, retP, or_true]
      | false =>
      simp -implicitDefEqProofs only [↓reduceIte,eq_self,JF,JG,JH,JI,JJ,JK,JL,JM,JN,JO,JP,JQ,JR,JS,JT,JU,JV,JW,JX,JY,J2,J3,J4,J5,J6,J7,J8,J9,Ja,Jb,Jc,Jd,Je,Jf,Jg,Jh,Nat.reduceAdd,Ji,if_true,if_false,Jl,Jm,Jn,Jo,Jp,Jq,Jr,Js,Jt,Ju,Jv,Jw,Jx,Jy,Jz,JA,JB,JC,JD,JE, l1, ltB_nat, hdj, le0, h1, row_eq, g1, Nat.reduceLeDiff]
      cases f2 : ltB p.b b' with
      | true => simp -implicitDefEqProofs only [↓reduceIte,eq_self,JF,JG,JH,JI,JJ,JK,JL,JM,JN,JO,JP,JQ,JR,JS,JT,JU,JV,JW,JX,JY,J2,J3,J4,J5,J6,J7,J8,J9,Ja,Jb,Jc,Jd,Je,Jf,Jg,Jh,Nat.reduceAdd,Ji,if_true,if_false,Jl,Jm,Jn,Jo,Jp,Jq,Jr,Js,Jt,Ju,Jv,Jw,Jx,Jy,Jz,JA,JB,JC,JD,JE, ll, retP, or_true]
      | false =>
      simp -implicitDefEqProofs only [↓reduceIte,eq_self,JF,JG,JH,JI,JJ,JK,JL,JM,JN,JO,JP,JQ,JR,JS,JT,JU,JV,JW,JX,JY,J2,J3,J4,J5,J6,J7,J8,J9,Ja,Jb,Jc,Jd,Je,Jf,Jg,Jh,Nat.reduceAdd,Ji,if_true,if_false,Jl,Jm,Jn,Jo,Jp,Jq,Jr,Js,Jt,Ju,Jv,Jw,Jx,Jy,Jz,JA,JB,JC,JD,JE, l1, ltB_nat, hdj, le0, h2, row_eq, g2, Nat.reduceLeDiff]
      cases f3 : ltB p.c c with
      | true => simp -implicitDefEqProofs only [↓reduceIte,eq_self,JF,JG,JH,JI,JJ,JK,JL,JM,JN,JO,JP,JQ,JR,JS,JT,JU,JV,JW,JX,JY,J2,J3,J4,J5,J6,J7,J8,J9,Ja,Jb,Jc,Jd,Je,Jf,Jg,Jh,Nat.reduceAdd,Ji,if_true,if_false,Jl,Jm,Jn,Jo,Jp,Jq,Jr,Js,Jt,Ju,Jv,Jw,Jx,Jy,Jz,JA,JB,JC,JD,JE, ll, retP, or_true]
      | false =>
      simp -implicitDefEqProofs only [↓reduceIte,eq_self,JF,JG,JH,JI,JJ,JK,JL,JM,JN,JO,JP,JQ,JR,JS,JT,JU,JV,JW,JX,JY,J2,J3,J4,J5,J6,J7,J8,J9,Ja,Jb,Jc,Jd,Je,Jf,Jg,Jh,Nat.reduceAdd,Ji,if_true,if_false,Jl,Jm,Jn,Jo,Jp,Jq,Jr,Js,Jt,Ju,Jv,Jw,Jx,Jy,Jz,JA,JB,JC,JD,JE, l1, ltB_nat, hdj, le0, h3, row_eq, g3, Nat.reduceLeDiff]
      cases f4 : ltB p.d d' with
      | true => simp -implicitDefEqProofs only [↓reduceIte,eq_self,JF,JG,JH,JI,JJ,JK,JL,JM,JN,JO,JP,JQ,JR,JS,JT,JU,JV,JW,JX,JY,J2,J3,J4,J5,J6,J7,J8,J9,Ja,Jb,Jc,Jd,Je,Jf,Jg,Jh,Nat.reduceAdd,Ji,if_true,if_false,Jl,Jm,Jn,Jo,Jp,Jq,Jr,Js,Jt,Ju,Jv,Jw,Jx,Jy,Jz,JA,JB,JC,JD,JE, ll, retP, or_true]
      | false =>
      simp -implicitDefEqProofs only [↓reduceIte,eq_self,JF,JG,JH,JI,JJ,JK,JL,JM,JN,JO,JP,JQ,JR,JS,JT,JU,JV,JW,JX,JY,J2,J3,J4,J5,J6,J7,J8,J9,Ja,Jb,Jc,Jd,Je,Jf,Jg,Jh,Nat.reduceAdd,Ji,if_true,if_false,Jl,Jm,Jn,Jo,Jp,Jq,Jr,Js,Jt,Ju,Jv,Jw,Jx,Jy,Jz,JA,JB,JC,JD,JE, l1, ltB_nat, hdj, le0, h4, row_eq, g4, Nat.reduceLeDiff]
      cases f5 : ltB p.e e' with
      | true => simp -implicitDefEqProofs only [↓reduceIte,eq_self,JF,JG,JH,JI,JJ,JK,JL,JM,JN,JO,JP,JQ,JR,JS,JT,JU,JV,JW,JX,JY,J2,J3,J4,J5,J6,J7,J8,J9,Ja,Jb,Jc,Jd,Je,Jf,Jg,Jh,Nat.reduceAdd,Ji,if_true,if_false,Jl,Jm,Jn,Jo,Jp,Jq,Jr,Js,Jt,Ju,Jv,Jw,Jx,Jy,Jz,JA,JB,JC,JD,JE, ll, retP, or_true]
      | false =>
      simp -implicitDefEqProofs only [↓reduceIte,eq_self,JF,JG,JH,JI,JJ,JK,JL,JM,JN,JO,JP,JQ,JR,JS,JT,JU,JV,JW,JX,JY,J2,J3,J4,J5,J6,J7,J8,J9,Ja,Jb,Jc,Jd,Je,Jf,Jg,Jh,Nat.reduceAdd,Ji,if_true,if_false,Jl,Jm,Jn,Jo,Jp,Jq,Jr,Js,Jt,Ju,Jv,Jw,Jx,Jy,Jz,JA,JB,JC,JD,JE, l1, ltB_nat, hdj, le0, h5, row_eq, g5, Nat.reduceLeDiff]
      cases f6 : ltB p.f f with
      | true => simp -implicitDefEqProofs only [↓reduceIte,eq_self,JF,JG,JH,JI,JJ,JK,JL,JM,JN,JO,JP,JQ,JR,JS,JT,JU,JV,JW,JX,JY,J2,J3,J4,J5,J6,J7,J8,J9,Ja,Jb,Jc,Jd,Je,Jf,Jg,Jh,Nat.reduceAdd,Ji,if_true,if_false,Jl,Jm,Jn,Jo,Jp,Jq,Jr,Js,Jt,Ju,Jv,Jw,Jx,Jy,Jz,JA,JB,JC,JD,JE, ll, retP, or_true]
      | false =>
      simp only [ltB_false] at f1 f2 f3 f4 f5 f6
      have ih := ih (by
        intro y hy
        rw [List.take_add_one, hx] at hy
        simp only [Option.toList_some, List.mem_append, List.mem_singleton] at hy
        rcases hy with hy | rfl
        · exact hle y hy
        · exact ⟨by simp only; omega, by simp only; omega, by simp only; omega, by simp only; omega, by simp only; omega, by simp only; omega⟩) fuel
      rw [nat_succ] at ih
      simp -implicitDefEqProofs only [↓reduceIte,eq_self,JF,JG,JH,JI,JJ,JK,JL,JM,JN,JO,JP,JQ,JR,JS,JT,JU,JV,JW,JX,JY,J2,J3,J4,J5,J6,J7,J8,J9,Ja,Jb,Jc,Jd,Je,Jf,Jg,Jh,Nat.reduceAdd,Ji,if_true,if_false,Jl,Jm,Jn,Jo,Jp,Jq,Jr,Js,Jt,Ju,Jv,Jw,Jx,Jy,Jz,JA,JB,JC,JD,JE, if_pos hup]
      exact ih
  have := loop l.length 0 (by omega) (by simp) (2000000 - l.length - 1)
  rw [show 2000000 - l.length - 1 + l.length + 1 = 2000000 by omega] at this
  exact this
theorem activityLeaves_own : ownKnob Try.prog.godebug = none := by kernel_rfl
theorem activityLeaves_laid : laidOutB Try.prog = true := by kernel_rfl
theorem activityLeaves_types : Go.Sx.closed Try.prog [53, 22, 40, 48, 49, 50, 51, 44, 2, 90, 66, 140, 142, 42, 9, 3] = true := by kernel_rfl
set_option maxRecDepth 100000 in
theorem activityLeaves_lifted (os : Os) (started : os.Started) (H : Type) (enc : TypeId × Value → H) :
    ReturnsInHanded {} Try.checked os 12 .any (Rows.activityLeavesSpec.pre6 enc Try.prog Try.f12 Rows.activityLeavesRow.domain false) (Rows.activityLeavesSpec.post enc Try.prog Try.f12 false true false false) := by
  refine returnsInHanded_of_change (C := Try.checked) activityLeaves_own started (by kernel_rfl) Try.func12
    (ChangeSpec.witness6 (enc := enc) (C := Try.checked) false ⟨#[], #[.agg #[.slice none 0 0, .slice none 0 0, .slice none 0 0, .slice none 0 0], .int .i64 0, .slice none 0 0, .agg #[.int .i64 0, .int .i64 0, .int .i64 0, .int .i64 0, .int .i64 0, .int .i64 0]], []⟩ 8 (by kernel_rfl) (by kernel_rfl) (by kernel_rfl) (by kernel_rfl)) ?_
  intro W base args ds gs before hval0 hW hcnd _
  have hval : ∀ (j : Nat) t v, Try.f12.params[j]? = some t → args[j]? = some v → Value.okWide Try.prog W .any base t v := hval0
  have hW' := hW
  obtain ⟨p, q, hA0, hV, rfl, hfz, hnd⟩ := hW
  have hA : DataW.TrodAll enc Try.prog W 0 (fun _ => true) true Try.f12.params.toList args.toList ds p := hA0
  rw [Try.params12] at hA hval
  obtain ⟨v0, vs0, d0, ds0, p0, q0, hargs, rfl, rfl, h0, r0⟩ := trodAll_cons hA
  obtain ⟨v1, vs1, d1, ds1, p1, q1, rfl, rfl, rfl, h1, r1⟩ := trodAll_cons r0
  obtain ⟨v2, vs2, d2, ds2, p2, q2, rfl, rfl, rfl, h2, r2⟩ := trodAll_cons r1
  obtain ⟨v3, vs3, d3, ds3, p3, q3, rfl, rfl, rfl, h3, r3⟩ := trodAll_cons r2
  obtain ⟨rfl, rfl, rfl⟩ := trodAll_nil r3
  obtain rfl : args = #[v0, v1, v2, v3] := by cases args; simp_all
  obtain ⟨rfl, rfl⟩ := trodVars_none hV
  have k0 := h0
  have lt0 : ∀ x ∈ p0, x.block < W.heap.size := by obtain ⟨m, hm⟩ := k0; exact DataW.trod_lt m _ _ _ hm
  obtain ⟨n0, a0, e0, s0, w0⟩ := arg_struct activityLeaves_types (t := 53) (by decide) Try.underlying53 (hval 0 53 v0 rfl rfl) h0
  have k1 := h1
  have lt1 : ∀ x ∈ p1, x.block < W.heap.size := by obtain ⟨m, hm⟩ := k1; exact DataW.trod_lt m _ _ _ hm
  obtain ⟨a1, e1, l1, u1⟩ := arg_int Try.underlying3 (hval 1 3 v1 rfl rfl) h1
  have k2 := h2
  have lt2 : ∀ x ∈ p2, x.block < W.heap.size := by obtain ⟨m, hm⟩ := k2; exact DataW.trod_lt m _ _ _ hm
  obtain ⟨n2, a2, e2, s2, w2⟩ := arg_slice activityLeaves_types (t := 22) (by decide) Try.underlying22 (hval 2 22 v2 rfl rfl) h2
  have k3 := h3
  have lt3 : ∀ x ∈ p3, x.block < W.heap.size := by obtain ⟨m, hm⟩ := k3; exact DataW.trod_lt m _ _ _ hm
  obtain ⟨n3, a3, e3, s3, w3⟩ := arg_array activityLeaves_types (t := 40) (by decide) Try.underlying40 (hval 3 40 v3 rfl rfl) h3
  clear hA0 hval0
  rw [show Try.prog.cellsOf 44 = 12 by kernel_rfl] at e2
  have hr : Go.Sx.Reps (Go.Sx.hpOf W) [] [.agg a0, .int .i64 a1, .sl 12 a2, .agg a3] [v0, v1, v2, v3] := ⟨v0, _, rfl, e0, ⟨v1, _, rfl, e1, ⟨v2, _, rfl, e2, ⟨v3, _, rfl, e3, rfl⟩⟩⟩⟩
  refine (Go.Sx.lift_true (Go.Sx.evalF_good tab_ok 2000001 12) (leaves_true n0 a0 s0 a1 l1 u1 n2 a2 s2 n3 a3 s3) hr).mono fun e W' hh => ?_
  obtain ⟨rfl, bel⟩ := hh
  exact ⟨_, rfl, _, _, _, [], _, [], hW', trodAll_mk1 (shut_bool Try.underlying4 _), (trodAll_cons_mk (Below.trod activityLeaves_laid (by kernel_rfl) (of_decide_eq_true (by kernel_rfl)) k0 bel lt0) (trodAll_cons_mk (Below.trod activityLeaves_laid (by kernel_rfl) (of_decide_eq_true (by kernel_rfl)) k1 bel lt1) (trodAll_cons_mk (Below.trod activityLeaves_laid (by kernel_rfl) (of_decide_eq_true (by kernel_rfl)) k2 bel lt2) (trodAll_cons_mk (Below.trod activityLeaves_laid (by kernel_rfl) (of_decide_eq_true (by kernel_rfl)) k3 bel lt3) trodAll_mk0)))), rfl, bel.frame _, fun h => by cases h⟩
theorem activityLeaves_proved : Rows.ActivityLeavesSaid :=
  OpenClaim.holds_of_wide 12 Try.f12 rfl rfl rfl rfl rfl rfl rfl ⟨rfl, rfl, rfl, rfl, rfl⟩ rfl rfl rfl rfl rfl (by kernel_rfl) Try.func12 (by kernel_rfl)
    (of_decide_eq_true (by kernel_rfl)) (by unfold Func.isWrapper; first | (rw [if_pos (by decide +kernel)]; kernel_rfl) | (rw [if_neg (by decide +kernel)]; exact ⟨rfl, rfl⟩))
    (fun os started H enc _ => activityLeaves_lifted os started H enc)
end Go.Proofs.Ythjahianafohjaa
