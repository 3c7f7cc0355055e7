/- RevealedSound: whoever has values that explain choices is never refuted, and whoever has a refuting cycle is never explained, for all lists of at most 14 choices, values and cycles. -/
import Derived.Test.YthjahianafohjaaHRvQ
import Derived.Test.YthjahianafohjaaHRvAb
import Derived.Test.YthjahianafohjaaRows
import Derived.WalkKit
import Derived.ProofKit
import Derived.OpenShut
import Derived.JoinedCond
import Derived.ShutString
set_option linter.unusedSimpArgs false
set_option linter.unusedVariables false
set_option maxRecDepth 100000
namespace Go.Proofs.Ythjahianafohjaa
open Go.ChangeShapes Go.WideShapes Go.ChangeAt Go.RowKit Go.Sx
theorem revealedSound_true (n0 : Nat) (rows : List (List PV)) (hs : ∀ r ∈ rows, Shaped Try.prog n0 44 r) (n1 : Nat) (rows1 : List (List PV)) (hs1 : ∀ r ∈ rows1, Shaped Try.prog n1 2 r) (n2 : Nat) (rows2 : List (List PV)) (hs2 : ∀ r ∈ rows2, Shaped Try.prog n2 3 r) :
    evalF Tab 40001 n_saleroomlaw36_RevealedSound [.sl 12 rows, .sl 1 rows1, .sl 1 rows2] [] = some (.bool true, []) := by
  obtain ⟨l, rfl⟩ := shaped_Chs rows hs
  obtain ⟨vals, rfl, _⟩ := shaped_ints (by kernel_rfl) rows1 hs1
  obtain ⟨cyc, rfl, _⟩ := shaped_ints (by kernel_rfl) rows2 hs2
  have hP : (PV.sl 12 (l.map Ch.row)).rowsOf 12 = some (l.map Ch.row) := by simp [PV.rowsOf]
  have hC : (PV.sl 1 (ints cyc)).rowsOf 1 = some (ints cyc) := by simp [PV.rowsOf]
  have hV : (PV.sl 1 (ints vals)).rowsOf 1 = some (ints vals) := by simp [PV.rowsOf]
  have hN : PV.nilS.rowsOf 1 = some (ints []) := rfl
  obtain ⟨p1, p2, p3⟩ := rows_len hP
  obtain ⟨r1, r2, r3⟩ := rows_len hC
  obtain ⟨s1, s2, s3⟩ := rows_len hV
  rw [List.length_map] at p1
  rw [ints_len] at r1 s1
  have ll := lives_more
  simp only [n_saleroomlaw36_lives] at ll
  have main : l.length ≤ 14 → cyc.length ≤ 1000 → vals.length ≤ 40 →
      (∃ w1 w2 b, evalF Tab 40000 n_revealed_Check [.sl 12 (l.map Ch.row)] [] = some (.tup [.agg [w1, w2], .bool b], []) ∧ w1.one = true ∧ w2.one = true ∧ (b = true ↔ (∀ x ∈ l, x.ok) ∧ Pot l)) ∧
      evalF Tab 40000 n_revealed_Verify [.sl 12 (l.map Ch.row), .agg [.nilS, .sl 1 (ints vals)]] [] = some (.int .i64 (verd l [] vals), []) ∧
      evalF Tab 40000 n_revealed_Verify [.sl 12 (l.map Ch.row), .agg [.sl 1 (ints cyc), .nilS]] [] = some (.int .i64 (verd l cyc []), []) := fun h1 h2 h3 =>
    ⟨check_is [] flat_nil l _ hP (by omega) 40000 (by omega), verify_sem [] l _ hP [] vals _ _ hN hV h1 40000 (by simp; omega) (by simp) (by omega), verify_sem [] l _ hP cyc [] _ _ hC hN h1 40000 (by simp; omega) (by omega) (by simp)⟩
  generalize (PV.sl 12 (l.map Ch.row)) = P at *
  generalize (PV.sl 1 (ints cyc)) = C at *
  generalize (PV.sl 1 (ints vals)) = V at *
  simp only [n_revealed_Verify, n_revealed_Check] at main
  rw [evalF]
  simp only [tab_saleroomlaw36_RevealedSound, Option.bind_some, Sys.run]
  show ((bindPs [.sh (.one _), .sh (.one _), .sh (.one _)] _).bind _) = _
  simp -implicitDefEqProofs only [bindPs, bind1, bindK, Option.map_some, Option.bind_some, List.append_nil, List.nil_append, List.cons_append, if_true, p3, r3, s3]
  show (PT.ev _ saleroomlaw36_RevealedSound_s _).bind _ = _
  simp -implicitDefEqProofs only [saleroomlaw36_RevealedSound_s, ↓reduceIte, PT.ev, BE.safe, BE.pe, IE.pe, PEnv.at, List.getD_cons_zero, List.getD_cons_succ, List.getElem?_cons_zero, List.getElem?_cons_succ, locOf, locOn, readLoc, takeN, Nat.add_zero, List.drop_zero, List.length_cons, List.length_nil, Nat.reduceAdd, Nat.le_refl, if_true, if_false, Bool.false_eq_true, List.take_succ_cons, List.take_zero, bindK, bindRes, bind1, Option.map_some, Option.bind_some, PEnv.push, List.cons_append, List.nil_append, List.append_nil, SV.pvs, SV.pv, BE.all, Bool.and_self, Bool.not_true, Bool.not_false, List.map_cons, List.map_nil, p1, p2, r1, r2, s1, s2]
  by_cases h1 : 14 < l.length
  · have e1 : ltB 14 (l.length : Int) = true := by rw [ltB_true]; omega
    simp -implicitDefEqProofs only [↓reduceIte, PT.ev, BE.safe, BE.pe, IE.pe, PEnv.at, List.getD_cons_zero, List.getD_cons_succ, List.getElem?_cons_zero, List.getElem?_cons_succ, locOf, locOn, readLoc, takeN, Nat.add_zero, List.drop_zero, List.length_cons, List.length_nil, Nat.reduceAdd, Nat.le_refl, if_true, if_false, Bool.false_eq_true, List.take_succ_cons, List.take_zero, bindK, bindRes, bind1, Option.map_some, Option.bind_some, PEnv.push, List.cons_append, List.nil_append, List.append_nil, SV.pvs, SV.pv, BE.all, Bool.and_self, Bool.not_true, Bool.not_false, List.map_cons, List.map_nil, e1, ll, retP, or_true]
  have e1 : ltB 14 (l.length : Int) = false := by rw [ltB_false]; omega
  by_cases h3 : 40 < vals.length
  · have e3 : ltB 40 (vals.length : Int) = true := by rw [ltB_true]; omega
    simp -implicitDefEqProofs only [↓reduceIte, PT.ev, BE.safe, BE.pe, IE.pe, PEnv.at, List.getD_cons_zero, List.getD_cons_succ, List.getElem?_cons_zero, List.getElem?_cons_succ, locOf, locOn, readLoc, takeN, Nat.add_zero, List.drop_zero, List.length_cons, List.length_nil, Nat.reduceAdd, Nat.le_refl, if_true, if_false, Bool.false_eq_true, List.take_succ_cons, List.take_zero, bindK, bindRes, bind1, Option.map_some, Option.bind_some, PEnv.push, List.cons_append, List.nil_append, List.append_nil, SV.pvs, SV.pv, BE.all, Bool.and_self, Bool.not_true, Bool.not_false, List.map_cons, List.map_nil, e1, s1, s2, e3, ll, retP, or_true]
  have e3 : ltB 40 (vals.length : Int) = false := by rw [ltB_false]; omega
  by_cases h2 : 1000 < cyc.length
  · have e2 : ltB 1000 (cyc.length : Int) = true := by rw [ltB_true]; omega
    simp -implicitDefEqProofs only [↓reduceIte, PT.ev, BE.safe, BE.pe, IE.pe, PEnv.at, List.getD_cons_zero, List.getD_cons_succ, List.getElem?_cons_zero, List.getElem?_cons_succ, locOf, locOn, readLoc, takeN, Nat.add_zero, List.drop_zero, List.length_cons, List.length_nil, Nat.reduceAdd, Nat.le_refl, if_true, if_false, Bool.false_eq_true, List.take_succ_cons, List.take_zero, bindK, bindRes, bind1, Option.map_some, Option.bind_some, PEnv.push, List.cons_append, List.nil_append, List.append_nil, SV.pvs, SV.pv, BE.all, Bool.and_self, Bool.not_true, Bool.not_false, List.map_cons, List.map_nil, e1, r1, r2, s1, s2, e2, e3, ll, retP, or_true]
  have e2 : ltB 1000 (cyc.length : Int) = false := by rw [ltB_false]; omega
  by_cases h4 : cyc.length = 0
  · have e4 : eqB (cyc.length : Int) 0 = true := by rw [h4]; rfl
    simp -implicitDefEqProofs only [↓reduceIte, PT.ev, BE.safe, BE.pe, IE.pe, PEnv.at, List.getD_cons_zero, List.getD_cons_succ, List.getElem?_cons_zero, List.getElem?_cons_succ, locOf, locOn, readLoc, takeN, Nat.add_zero, List.drop_zero, List.length_cons, List.length_nil, Nat.reduceAdd, Nat.le_refl, if_true, if_false, Bool.false_eq_true, List.take_succ_cons, List.take_zero, bindK, bindRes, bind1, Option.map_some, Option.bind_some, PEnv.push, List.cons_append, List.nil_append, List.append_nil, SV.pvs, SV.pv, BE.all, Bool.and_self, Bool.not_true, Bool.not_false, List.map_cons, List.map_nil, e1, r1, r2, s1, s2, e2, e3, e4, ll, retP, or_true]
  have e4 : eqB (cyc.length : Int) 0 = false := by rw [eqB_false]; omega
  obtain ⟨⟨w1, w2, b, m1, o1, o2, hb⟩, m2, m3⟩ := main (by omega) (by omega) (by omega)
  have f1 : verd l [] vals = 0 → b = true := fun h => hb.2 (verd_vals h)
  have f2 : verd l cyc [] = 0 → b = false := fun h => by
    cases b with
    | false => rfl
    | true => exact absurd (hb.1 rfl).2 (verd_cyc h4 h)
  generalize verd l [] vals = d1 at *
  generalize verd l cyc [] = d2 at *
  by_cases g1 : d1 = 0
  · have hbt := f1 g1
    have g2 : d2 ≠ 0 := fun h => by rw [f2 h] at hbt; cases hbt
    have x1 : eqB d1 0 = true := eqB_true.2 g1
    have x2 : eqB d2 0 = false := eqB_false.2 g2
    subst hbt
    simp -implicitDefEqProofs only [↓reduceIte, PT.ev, BE.safe, BE.pe, IE.pe, PEnv.at, List.getD_cons_zero, List.getD_cons_succ, List.getElem?_cons_zero, List.getElem?_cons_succ, locOf, locOn, readLoc, takeN, Nat.add_zero, List.drop_zero, List.length_cons, List.length_nil, Nat.reduceAdd, Nat.le_refl, if_true, if_false, Bool.false_eq_true, List.take_succ_cons, List.take_zero, bindK, bindRes, bind1, Option.map_some, Option.bind_some, PEnv.push, List.cons_append, List.nil_append, List.append_nil, SV.pvs, SV.pv, BE.all, Bool.and_self, Bool.not_true, Bool.not_false, List.map_cons, List.map_nil, e1, r1, r2, s1, s2, e2, e3, e4, m1, o1, o2, m2, m3, bindShs, x1, x2, ll, retP, or_true]
  · have x1 : eqB d1 0 = false := eqB_false.2 g1
    by_cases g2 : d2 = 0
    · have hbf := f2 g2
      have x2 : eqB d2 0 = true := eqB_true.2 g2
      subst hbf
      simp -implicitDefEqProofs only [↓reduceIte, PT.ev, BE.safe, BE.pe, IE.pe, PEnv.at, List.getD_cons_zero, List.getD_cons_succ, List.getElem?_cons_zero, List.getElem?_cons_succ, locOf, locOn, readLoc, takeN, Nat.add_zero, List.drop_zero, List.length_cons, List.length_nil, Nat.reduceAdd, Nat.le_refl, if_true, if_false, Bool.false_eq_true, List.take_succ_cons, List.take_zero, bindK, bindRes, bind1, Option.map_some, Option.bind_some, PEnv.push, List.cons_append, List.nil_append, List.append_nil, SV.pvs, SV.pv, BE.all, Bool.and_self, Bool.not_true, Bool.not_false, List.map_cons, List.map_nil, e1, r1, r2, s1, s2, e2, e3, e4, m1, o1, o2, m2, m3, bindShs, x1, x2, ll, retP, or_true]
    · have x2 : eqB d2 0 = false := eqB_false.2 g2
      simp -implicitDefEqProofs only [↓reduceIte, PT.ev, BE.safe, BE.pe, IE.pe, PEnv.at, List.getD_cons_zero, List.getD_cons_succ, List.getElem?_cons_zero, List.getElem?_cons_succ, locOf, locOn, readLoc, takeN, Nat.add_zero, List.drop_zero, List.length_cons, List.length_nil, Nat.reduceAdd, Nat.le_refl, if_true, if_false, Bool.false_eq_true, List.take_succ_cons, List.take_zero, bindK, bindRes, bind1, Option.map_some, Option.bind_some, PEnv.push, List.cons_append, List.nil_append, List.append_nil, SV.pvs, SV.pv, BE.all, Bool.and_self, Bool.not_true, Bool.not_false, List.map_cons, List.map_nil, e1, r1, r2, s1, s2, e2, e3, e4, m1, o1, o2, m2, m3, bindShs, x1, x2, ll, retP, or_true]
theorem revealedSound_own : ownKnob Try.prog.godebug = none := by kernel_rfl
theorem revealedSound_laid : laidOutB Try.prog = true := by kernel_rfl
theorem revealedSound_types : Go.Sx.closed Try.prog [22, 25, 24, 44, 2, 3, 40, 42] = true := by kernel_rfl
set_option maxRecDepth 100000 in
theorem revealedSound_lifted (os : Os) (started : os.Started) (H : Type) (enc : TypeId × Value → H) :
    ReturnsInHanded {} Try.checked os 5 .any (Rows.revealedSoundSpec.pre6 enc Try.prog Try.f5 Rows.revealedSoundRow.domain false) (Rows.revealedSoundSpec.post enc Try.prog Try.f5 false true false false) := by
  refine returnsInHanded_of_change (C := Try.checked) revealedSound_own started (by kernel_rfl) Try.func5
    (ChangeSpec.witness6 (enc := enc) (C := Try.checked) false ⟨#[], #[.slice none 0 0, .slice none 0 0, .slice none 0 0], []⟩ 8 (by kernel_rfl) (by kernel_rfl) (by kernel_rfl) (by kernel_rfl)) ?_
  intro W base args ds gs before hval0 hW hcnd _
  have hval : ∀ (j : Nat) t v, Try.f5.params[j]? = some t → args[j]? = some v → Value.okWide Try.prog W .any base t v := hval0
  have hW' := hW
  obtain ⟨p, q, hA0, hV, rfl, hfz, hnd⟩ := hW
  have hA : DataW.TrodAll enc Try.prog W 0 (fun _ => true) true Try.f5.params.toList args.toList ds p := hA0
  rw [Try.params5] at hA hval
  obtain ⟨v0, vs0, d0, ds0, p0, q0, hargs, rfl, rfl, h0, r0⟩ := trodAll_cons hA
  obtain ⟨v1, vs1, d1, ds1, p1, q1, rfl, rfl, rfl, h1, r1⟩ := trodAll_cons r0
  obtain ⟨v2, vs2, d2, ds2, p2, q2, rfl, rfl, rfl, h2, r2⟩ := trodAll_cons r1
  obtain ⟨rfl, rfl, rfl⟩ := trodAll_nil r2
  obtain rfl : args = #[v0, v1, v2] := by cases args; simp_all
  obtain ⟨rfl, rfl⟩ := trodVars_none hV
  have k0 := h0
  have lt0 : ∀ x ∈ p0, x.block < W.heap.size := by obtain ⟨m, hm⟩ := k0; exact DataW.trod_lt m _ _ _ hm
  obtain ⟨n0, a0, e0, s0, w0⟩ := arg_slice revealedSound_types (t := 22) (by decide) Try.underlying22 (hval 0 22 v0 rfl rfl) h0
  have k1 := h1
  have lt1 : ∀ x ∈ p1, x.block < W.heap.size := by obtain ⟨m, hm⟩ := k1; exact DataW.trod_lt m _ _ _ hm
  obtain ⟨n1, a1, e1, s1, w1⟩ := arg_slice revealedSound_types (t := 25) (by decide) Try.underlying25 (hval 1 25 v1 rfl rfl) h1
  have k2 := h2
  have lt2 : ∀ x ∈ p2, x.block < W.heap.size := by obtain ⟨m, hm⟩ := k2; exact DataW.trod_lt m _ _ _ hm
  obtain ⟨n2, a2, e2, s2, w2⟩ := arg_slice revealedSound_types (t := 24) (by decide) Try.underlying24 (hval 2 24 v2 rfl rfl) h2
  clear hA0 hval0
  rw [show Try.prog.cellsOf 44 = 12 by kernel_rfl] at e0
  rw [show Try.prog.cellsOf 2 = 1 by kernel_rfl] at e1
  rw [show Try.prog.cellsOf 3 = 1 by kernel_rfl] at e2
  have hr : Go.Sx.Reps (Go.Sx.hpOf W) [] [.sl 12 a0, .sl 1 a1, .sl 1 a2] [v0, v1, v2] := ⟨v0, _, rfl, e0, ⟨v1, _, rfl, e1, ⟨v2, _, rfl, e2, rfl⟩⟩⟩
  refine (Go.Sx.lift_true (Go.Sx.evalF_good tab_ok 40001 5) (revealedSound_true n0 a0 s0 n1 a1 s1 n2 a2 s2) hr).mono fun e W' hh => ?_
  obtain ⟨rfl, bel⟩ := hh
  exact ⟨_, rfl, _, _, _, [], _, [], hW', trodAll_mk1 (shut_bool Try.underlying4 _), (trodAll_cons_mk (Below.trod revealedSound_laid (by kernel_rfl) (of_decide_eq_true (by kernel_rfl)) k0 bel lt0) (trodAll_cons_mk (Below.trod revealedSound_laid (by kernel_rfl) (of_decide_eq_true (by kernel_rfl)) k1 bel lt1) (trodAll_cons_mk (Below.trod revealedSound_laid (by kernel_rfl) (of_decide_eq_true (by kernel_rfl)) k2 bel lt2) trodAll_mk0))), rfl, bel.frame _, fun h => by cases h⟩
theorem revealedSound_proved : Rows.RevealedSoundSaid :=
  OpenClaim.holds_of_wide 5 Try.f5 rfl rfl rfl rfl rfl rfl rfl ⟨rfl, rfl, rfl, rfl, rfl⟩ rfl rfl rfl rfl rfl (by kernel_rfl) Try.func5 (by kernel_rfl)
    (of_decide_eq_true (by kernel_rfl)) (by unfold Func.isWrapper; first | (rw [if_pos (by decide +kernel)]; kernel_rfl) | (rw [if_neg (by decide +kernel)]; exact ⟨rfl, rfl⟩))
    (fun os started H enc _ => revealedSound_lifted os started H enc)
end Go.Proofs.Ythjahianafohjaa
