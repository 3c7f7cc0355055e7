/- RevealedTruthful: the choices of a straightforward bidder are consistent, for all lists of at most 20 offers, supplies of at most 60 bundles, and at most 8 valid prices. -/
import Derived.Test.YthjahianafohjaaHRvb
import Derived.Test.YthjahianafohjaaHRva
import Derived.Test.YthjahianafohjaaRows
import Derived.WalkKit
import Derived.ProofKit
import Derived.OpenShut
import Derived.JoinedCond
import Derived.ShutString
set_option linter.unusedSimpArgs false
set_option linter.unusedVariables false
open Go.Sx.PT renaming ev → J1
open Go.Sx.BE renaming safe → J2, pe → J3, all → Jz
open Go.Sx.IE renaming pe → J4
open Go.Sx renaming PEnv.at → J5
open Go.Sx.PEnv renaming push → Jt
open List renaming getD_cons_zero → J6, getD_cons_succ → J7, getElem?_cons_zero → J8, getElem?_cons_succ → J9, drop_zero → Jf, length_cons → Jg, length_nil → Jh, take_succ_cons → Jm, take_zero → Jn, cons_append → Ju, nil_append → Jv, append_nil → Jw, map_cons → JD, map_nil → JE
open Go.Sx renaming locOf → Ja, locOn → Jb, readLoc → Jc, takeN → Jd, bindK → Jo, bindRes → Jp, bind1 → Jq, evb_ret → JF, evb_ite → JG, evb_need → JH, evb_load → JI, evb_app → JJ, evb_cut → JK, evb_scut → JL, evb_chk → JM, evb_appF → JN, evb_call → JO, evb_callv → JP, evb_newM → JQ, evb_mkM → JR, evb_storeM → JS, evb_appM → JT, evb_mkMap → JU, evb_mapGet → JV, evb_mapSet → JW, evb_mapClr → JX, evb_jump → JY
open Nat renaming add_zero → Je, le_refl → Ji
open Bool renaming false_eq_true → Jl, and_self → JA, not_true → JB, not_false → JC
open Option renaming map_some → Jr, bind_some → Js
open Go.Sx.SV renaming pvs → Jx, pv → Jy
set_option maxRecDepth 100000
namespace Go.Proofs.Ythjahianafohjaa
open Go.ChangeShapes Go.WideShapes Go.ChangeAt Go.RowKit Go.Sx
def toW (b : Go.Bun.Bd) : W6 := ⟨b.a, b.b, b.c, b.d, b.e, b.f⟩
def toC (x : Go.Bun.Ch) : Ch := ⟨toW x.p, toW x.w⟩
theorem toC_row (x : Go.Bun.Ch) : (toC x).row = chR x := rfl
theorem cost_toW (p b : Go.Bun.Bd) : costW (toW p) (toW b) = p.cost b := rfl
theorem pok_toW {p : Go.Bun.Bd} (h : (toW p).pok) : Go.Bun.pok p := by
 simp only [W6.pok, toW] at h
 unfold Go.Bun.pok Go.Bun.Bd.all
 omega
theorem path_pot (L : List Go.Bun.Of) (S : Go.Bun.Bd) (Ps : List Go.Bun.Bd) (hok : ∀ x ∈ (Go.Bun.path L S Ps).map toC, x.ok) : Pot ((Go.Bun.path L S Ps).map toC) := by
 have at_ch : ∀ x, x < ((Go.Bun.path L S Ps).map toC).length -> ∃ p, Go.Bun.pok p /\ chAt ((Go.Bun.path L S Ps).map toC) (x : Int) = toC ⟨p, (Go.Bun.best L S p).1⟩ := by
  intro x hx
  have hc := chN hx
  have hm := List.mem_of_getElem? hc
  have ho := hok _ hm
  obtain ⟨y, hy, he⟩ := List.mem_map.1 hm
  unfold Go.Bun.path at hy
  obtain ⟨p, _, rfl⟩ := List.mem_map.1 hy
  rw [<- he] at ho
  exact ⟨p, pok_toW ho.1, he.symm⟩
 by_cases hS : S.list = []
 ·refine ⟨fun _ => 0, fun x y hx hy => ?_⟩
  obtain ⟨p, _, e1⟩ := at_ch x hx
  obtain ⟨q, _, e2⟩ := at_ch y hy
  unfold gN gainC
  rw [e1, e2, Go.Bun.best_nil L S p hS, Go.Bun.best_nil L S q hS]
  simp only [toC]
  omega
 ·refine ⟨fun x => Go.Bun.val (Go.Bun.counting L) ⟨(chAt ((Go.Bun.path L S Ps).map toC) (x : Int)).w.a, (chAt ((Go.Bun.path L S Ps).map toC) (x : Int)).w.b, (chAt ((Go.Bun.path L S Ps).map toC) (x : Int)).w.c, (chAt ((Go.Bun.path L S Ps).map toC) (x : Int)).w.d, (chAt ((Go.Bun.path L S Ps).map toC) (x : Int)).w.e, (chAt ((Go.Bun.path L S Ps).map toC) (x : Int)).w.f⟩, fun x y hx hy => ?_⟩
  obtain ⟨p, hp, e1⟩ := at_ch x hx
  obtain ⟨q, hq, e2⟩ := at_ch y hy
  obtain ⟨_, _, h1, _, h3, _⟩ := Go.Bun.demand_spec L S p hp hS
  obtain ⟨_, _, _, _, _, h6⟩ := Go.Bun.demand_spec L S q hq hS
  have := h3 _ h6
  rw [<- h1] at this
  unfold Go.Bun.util at this
  unfold gN gainC
  simp only [e1, e2, toC, cost_toW]
  show Go.Bun.val (Go.Bun.counting L) (Go.Bun.best L S q).1 <= Go.Bun.val (Go.Bun.counting L) (Go.Bun.best L S p).1 + _
  omega
theorem shapedB {t i : Nat} (hu : Try.prog.underlying t = some (.array 6 i)) (hi : Try.prog.underlying i = some (.int .i64)) {n : Nat} {ps : List PV} (h : Shaped Try.prog n t ps) : ∃ w : Go.Bun.Bd, ps = bdR w := by
 obtain ⟨w, rfl⟩ := shaped_w6 hu hi h
 exact ⟨⟨w.a, w.b, w.c, w.d, w.e, w.f⟩, rfl⟩
theorem shapedO {n : Nat} {ps : List PV} (h : Shaped Try.prog n 113 ps) : ∃ x : Go.Bun.Of, ps = ofR x := by
 obtain ⟨m, _, h⟩ := shaped_struct Try.underlying113 h
 simp only [List.map_cons, List.map_nil, Shapeds] at h
 obtain ⟨_, _, rfl, h1, _, _, rfl, h2, _, _, rfl, h3, rfl⟩ := h
 obtain ⟨a, rfl, _⟩ := shaped_int (k := .i64) (by kernel_rfl) h1
 obtain ⟨w, rfl⟩ := shapedB Try.underlying42 (by kernel_rfl) h2
 obtain ⟨c, rfl, _⟩ := shaped_int (k := .i64) (by kernel_rfl) h3
 exact ⟨⟨a, w, c⟩, rfl⟩
theorem shapedR {α : Type} {row : α -> List PV} {P : Program} {n : Nat} {t : TypeId} (h1 : ∀ ps, Shaped P n t ps -> ∃ x : α, ps = row x) : ∀ (rows : List (List PV)), (∀ r ∈ rows, Shaped P n t r) -> ∃ l : List α, rows = l.map row
 | [], _ => ⟨[], rfl⟩
 | r :: rows, h => by
  obtain ⟨x, rfl⟩ := h1 r (h r (by simp))
  obtain ⟨l, rfl⟩ := shapedR h1 rows (fun q hq => h q (by simp [hq]))
  exact ⟨x :: l, rfl⟩
theorem truthful_true (n0 : Nat) (rows : List (List PV)) (hs : ∀ r ∈ rows, Shaped Try.prog n0 113 r) (n1 : Nat) (ps : List PV) (hs1 : Shaped Try.prog n1 42 ps) (n2 : Nat) (rows2 : List (List PV)) (hs2 : ∀ r ∈ rows2, Shaped Try.prog n2 40 r) :
  evalF Tab 40001 n_saleroomlaw36_RevealedTruthful [.sl 8 rows, .agg ps, .sl 6 rows2] [] = some (.bool true, []) := by
 obtain ⟨L, rfl⟩ := shapedR (row := ofR) (fun ps h => shapedO h) rows hs
 obtain ⟨S, rfl⟩ := shapedB Try.underlying42 (by kernel_rfl) hs1
 obtain ⟨Ps, rfl⟩ := shapedR (row := bdR) (fun ps h => shapedB Try.underlying40 (by kernel_rfl) h) rows2 hs2
 have hP : (PV.sl 8 (L.map ofR)).rowsOf 8 = some (L.map ofR) := by simp [PV.rowsOf]
 have hR : (PV.sl 6 (Ps.map bdR)).rowsOf 6 = some (Ps.map bdR) := by simp [PV.rowsOf]
 obtain ⟨p1, p2, p3⟩ := rows_len hP
 obtain ⟨r1, r2, r3⟩ := rows_len hR
 rw [List.length_map] at p1 r1
 have ll := lives_more
 simp only [n_saleroomlaw36_lives] at ll
 obtain ⟨C, hC⟩ : ∃ C, C = (Go.Bun.path L S Ps).map toC := ⟨_, rfl⟩
 have hCl : C.length = Ps.length := by rw [hC]; simp [Go.Bun.path]
 have hCr : (Go.Bun.path L S Ps).map chR = C.map Ch.row := by
  rw [hC, List.map_map]; rfl
 have path : L.length <= 1000 -> Ps.length <= 1000 -> evalF Tab 40000 37 [.sl 8 (L.map ofR), .agg (bdR S), .sl 6 (Ps.map bdR)] [] = some (.sl 12 (C.map Ch.row), []) := fun h1 h2 => by
  rw [evalF, tab_demandset_Path]
  simp only [Option.bind_some, Sys.run, demandset_Path_S, pathF, mapM_back dOf_ofR, mapM_back dBd_bdR, dBd_bdR]
  rw [if_pos ⟨h1, h2⟩, hCr]
 have hc12 : (PV.sl 12 (C.map Ch.row)).rowsOf 12 = some (C.map Ch.row) := by simp [PV.rowsOf]
 obtain ⟨q1, q2, q3⟩ := rows_len hc12
 rw [List.length_map] at q1
 have c1 := fun h : C.length <= 8 => rall_sem [] C _ hc12 40000 (by omega) (by omega)
 have c2 := fun h : C.length <= 8 => check_is [] flat_nil C _ hc12 (by omega) 40000 (by omega)
 have hpot := path_pot L S Ps
 rw [<- hC] at hpot
 generalize (PV.sl 8 (L.map ofR)) = P at *
 generalize (PV.sl 6 (Ps.map bdR)) = R at *
 generalize (PV.sl 12 (C.map Ch.row)) = V at *
 simp only [n_revealed_Check, n_saleroomref36_All, bdR] at c1 c2 path
 rw [evalF]
 simp only [tab_saleroomlaw36_RevealedTruthful, Option.bind_some, Sys.run, bdR]
 show ((bindPs [.sh (.one _), .sh (.agg [_, _, _, _, _, _]), .sh (.one _)] _).bind _) = _
 simp -implicitDefEqProofs only [bindPs, bind1, bindK, Option.map_some, Option.bind_some, List.append_nil, List.nil_append, List.cons_append, if_true, p3, r3]
 show (PT.ev _ saleroomlaw36_RevealedTruthful_s _).bind _ = _
 simp -implicitDefEqProofs only [saleroomlaw36_RevealedTruthful_s, ↓reduceIte,eq_self,JF,JG,JH,JI,JJ,JK,JL,JM,JN,JO,JP,JQ,JR,JS,JT,JU,JV,JW,JX,JY,J2,J3,J4,J5,J6,J7,J8,J9,Ja,Jb,Jc,Jd,Je,Jf,Jg,Jh,Nat.reduceAdd,Ji,if_true,if_false,Jl,Jm,Jn,Jo,Jp,Jq,Jr,Js,Jt,Ju,Jv,Jw,Jx,Jy,Jz,JA,JB,JC,JD,JE, p1, p2]
 by_cases h20 : 20 < L.length
 ·have e1 : ltB 20 (L.length : Int) = true := by rw [ltB_true]; omega
  simp -implicitDefEqProofs only [↓reduceIte,eq_self,JF,JG,JH,JI,JJ,JK,JL,JM,JN,JO,JP,JQ,JR,JS,JT,JU,JV,JW,JX,JY,J2,J3,J4,J5,J6,J7,J8,J9,Ja,Jb,Jc,Jd,Je,Jf,Jg,Jh,Nat.reduceAdd,Ji,if_true,if_false,Jl,Jm,Jn,Jo,Jp,Jq,Jr,Js,Jt,Ju,Jv,Jw,Jx,Jy,Jz,JA,JB,JC,JD,JE, e1, ll, retP, or_true]
 have e1 : ltB 20 (L.length : Int) = false := by rw [ltB_false]; omega
 simp -implicitDefEqProofs only [↓reduceIte,eq_self,JF,JG,JH,JI,JJ,JK,JL,JM,JN,JO,JP,JQ,JR,JS,JT,JU,JV,JW,JX,JY,J2,J3,J4,J5,J6,J7,J8,J9,Ja,Jb,Jc,Jd,Je,Jf,Jg,Jh,Nat.reduceAdd,Ji,if_true,if_false,Jl,Jm,Jn,Jo,Jp,Jq,Jr,Js,Jt,Ju,Jv,Jw,Jx,Jy,Jz,JA,JB,JC,JD,JE, e1, r1, r2]
 by_cases h8 : 8 < Ps.length
 ·have e2 : ltB 8 (Ps.length : Int) = true := by rw [ltB_true]; omega
  simp -implicitDefEqProofs only [↓reduceIte,eq_self,JF,JG,JH,JI,JJ,JK,JL,JM,JN,JO,JP,JQ,JR,JS,JT,JU,JV,JW,JX,JY,J2,J3,J4,J5,J6,J7,J8,J9,Ja,Jb,Jc,Jd,Je,Jf,Jg,Jh,Nat.reduceAdd,Ji,if_true,if_false,Jl,Jm,Jn,Jo,Jp,Jq,Jr,Js,Jt,Ju,Jv,Jw,Jx,Jy,Jz,JA,JB,JC,JD,JE, e2, ll, retP, or_true]
 have e2 : ltB 8 (Ps.length : Int) = false := by rw [ltB_false]; omega
 have m1 := path (by omega) (by omega)
 have m2 := c1 (by omega)
 obtain ⟨w1, w2, b, m3, o1, o2, hb⟩ := c2 (by omega)
 have e3 : eqB (C.length : Int) (Ps.length : Int) = true := by rw [eqB_true]; omega
 simp -implicitDefEqProofs only [↓reduceIte,eq_self,JF,JG,JH,JI,JJ,JK,JL,JM,JN,JO,JP,JQ,JR,JS,JT,JU,JV,JW,JX,JY,J2,J3,J4,J5,J6,J7,J8,J9,Ja,Jb,Jc,Jd,Je,Jf,Jg,Jh,Nat.reduceAdd,Ji,if_true,if_false,Jl,Jm,Jn,Jo,Jp,Jq,Jr,Js,Jt,Ju,Jv,Jw,Jx,Jy,Jz,JA,JB,JC,JD,JE, e2, m1, q1, q2, q3, r1, r2, e3, m2]
 by_cases ha : (C.all fun x => decide x.ok) = true
 ·have hall : ∀ x ∈ C, x.ok := fun x hx => by simpa using (List.all_eq_true.1 ha) x hx
  have hbt : b = true := hb.2 ⟨hall, hpot hall⟩
  subst hbt
  rw [ha]
  simp -implicitDefEqProofs only [↓reduceIte,eq_self,JF,JG,JH,JI,JJ,JK,JL,JM,JN,JO,JP,JQ,JR,JS,JT,JU,JV,JW,JX,JY,J2,J3,J4,J5,J6,J7,J8,J9,Ja,Jb,Jc,Jd,Je,Jf,Jg,Jh,Nat.reduceAdd,Ji,if_true,if_false,Jl,Jm,Jn,Jo,Jp,Jq,Jr,Js,Jt,Ju,Jv,Jw,Jx,Jy,Jz,JA,JB,JC,JD,JE, bindShs, m3, o1, o2, ll, retP, or_true]
 ·rw [Bool.not_eq_true] at ha
  rw [ha]
  simp -implicitDefEqProofs only [↓reduceIte,eq_self,JF,JG,JH,JI,JJ,JK,JL,JM,JN,JO,JP,JQ,JR,JS,JT,JU,JV,JW,JX,JY,J2,J3,J4,J5,J6,J7,J8,J9,Ja,Jb,Jc,Jd,Je,Jf,Jg,Jh,Nat.reduceAdd,Ji,if_true,if_false,Jl,Jm,Jn,Jo,Jp,Jq,Jr,Js,Jt,Ju,Jv,Jw,Jx,Jy,Jz,JA,JB,JC,JD,JE, ll, retP, or_true]
theorem revealedTruthful_own : ownKnob Try.prog.godebug = none := by kernel_rfl
theorem revealedTruthful_laid : laidOutB Try.prog = true := by kernel_rfl
theorem revealedTruthful_types : Go.Sx.closed Try.prog [69, 42, 61, 113, 3, 40, 2] = true := by kernel_rfl
set_option maxRecDepth 100000 in
theorem revealedTruthful_lifted (os : Os) (started : os.Started) (H : Type) (enc : TypeId × Value -> H) :
  ReturnsInHanded {} Try.checked os 13 .any (Rows.revealedTruthfulSpec.pre6 enc Try.prog Try.f13 Rows.revealedTruthfulRow.domain false) (Rows.revealedTruthfulSpec.post enc Try.prog Try.f13 false true false false) := by
 refine returnsInHanded_of_change (C := Try.checked) revealedTruthful_own started (by kernel_rfl) Try.func13
  (ChangeSpec.witness6 (enc := enc) (C := Try.checked) false ⟨#[], #[.slice none 0 0, .agg #[.int .i64 0, .int .i64 0, .int .i64 0, .int .i64 0, .int .i64 0, .int .i64 0], .slice none 0 0], []⟩ 8 (by kernel_rfl) (by kernel_rfl) (by kernel_rfl) (by kernel_rfl)) ?_
 intro W base args ds gs before hval0 hW hcnd _
 have hval : ∀ (j : Nat) t v, Try.f13.params[j]? = some t -> args[j]? = some v -> Value.okWide Try.prog W .any base t v := hval0
 have hW' := hW
 obtain ⟨p, q, hA0, hV, rfl, hfz, hnd⟩ := hW
 have hA : DataW.TrodAll enc Try.prog W 0 (fun _ => true) true Try.f13.params.toList args.toList ds p := hA0
 rw [Try.params13] at hA hval
 obtain ⟨v0, vs0, d0, ds0, p0, q0, hargs, rfl, rfl, h0, r0⟩ := trodAll_cons hA
 obtain ⟨v1, vs1, d1, ds1, p1, q1, rfl, rfl, rfl, h1, r1⟩ := trodAll_cons r0
 obtain ⟨v2, vs2, d2, ds2, p2, q2, rfl, rfl, rfl, h2, r2⟩ := trodAll_cons r1
 obtain ⟨rfl, rfl, rfl⟩ := trodAll_nil r2
 obtain rfl : args = #[v0, v1, v2] := by cases args; simp_all
 obtain ⟨rfl, rfl⟩ := trodVars_none hV
 have k0 := h0
 have lt0 : ∀ x ∈ p0, x.block < W.heap.size := by obtain ⟨m, hm⟩ := k0; exact DataW.trod_lt m _ _ _ hm
 obtain ⟨n0, a0, e0, s0, w0⟩ := arg_slice revealedTruthful_types (t := 69) (by decide) Try.underlying69 (hval 0 69 v0 rfl rfl) h0
 have k1 := h1
 have lt1 : ∀ x ∈ p1, x.block < W.heap.size := by obtain ⟨m, hm⟩ := k1; exact DataW.trod_lt m _ _ _ hm
 obtain ⟨n1, a1, e1, s1, w1⟩ := arg_array revealedTruthful_types (t := 42) (by decide) Try.underlying42 (hval 1 42 v1 rfl rfl) h1
 have k2 := h2
 have lt2 : ∀ x ∈ p2, x.block < W.heap.size := by obtain ⟨m, hm⟩ := k2; exact DataW.trod_lt m _ _ _ hm
 obtain ⟨n2, a2, e2, s2, w2⟩ := arg_slice revealedTruthful_types (t := 61) (by decide) Try.underlying61 (hval 2 61 v2 rfl rfl) h2
 clear hA0 hval0
 rw [show Try.prog.cellsOf 113 = 8 by kernel_rfl] at e0
 rw [show Try.prog.cellsOf 40 = 6 by kernel_rfl] at e2
 have hr : Go.Sx.Reps (Go.Sx.hpOf W) [] [.sl 8 a0, .agg a1, .sl 6 a2] [v0, v1, v2] := ⟨v0, _, rfl, e0, ⟨v1, _, rfl, e1, ⟨v2, _, rfl, e2, rfl⟩⟩⟩
 refine (Go.Sx.lift_true (Go.Sx.evalF_good tab_ok 40001 13) (truthful_true n0 a0 s0 n1 a1 s1 n2 a2 s2) hr).mono fun e W' hh => ?_
 obtain ⟨rfl, bel⟩ := hh
 exact ⟨_, rfl, _, _, _, [], _, [], hW', trodAll_mk1 (shut_bool Try.underlying4 _), (trodAll_cons_mk (Below.trod revealedTruthful_laid (by kernel_rfl) (of_decide_eq_true (by kernel_rfl)) k0 bel lt0) (trodAll_cons_mk (Below.trod revealedTruthful_laid (by kernel_rfl) (of_decide_eq_true (by kernel_rfl)) k1 bel lt1) (trodAll_cons_mk (Below.trod revealedTruthful_laid (by kernel_rfl) (of_decide_eq_true (by kernel_rfl)) k2 bel lt2) trodAll_mk0))), rfl, bel.frame _, fun h => by cases h⟩
theorem revealedTruthful_proved : Rows.RevealedTruthfulSaid :=
 OpenClaim.holds_of_wide 13 Try.f13 rfl rfl rfl rfl rfl rfl rfl ⟨rfl, rfl, rfl, rfl, rfl⟩ rfl rfl rfl rfl rfl (by kernel_rfl) Try.func13 (by kernel_rfl)
  (of_decide_eq_true (by kernel_rfl)) (by unfold Func.isWrapper; first | (rw [if_pos (by decide +kernel)]; kernel_rfl) | (rw [if_neg (by decide +kernel)]; exact ⟨rfl, rfl⟩))
  (fun os started H enc _ => revealedTruthful_lifted os started H enc)
end Go.Proofs.Ythjahianafohjaa
