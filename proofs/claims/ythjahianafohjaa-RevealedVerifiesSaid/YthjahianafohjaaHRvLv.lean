/- RevealedVerifies: Verify accepts exactly the proofs of the chapter, and returns its errors, for all lists of at most 14 choices and all proofs. -/
import Derived.Test.YthjahianafohjaaHRvH
import Derived.Test.YthjahianafohjaaRows
import Derived.WalkKit
import Derived.ProofKit
import Derived.OpenShut
import Derived.JoinedCond
import Derived.ShutString
set_option linter.unusedSimpArgs false
set_option linter.unusedVariables false
set_option maxRecDepth 100000
namespace Go.Proofs.Ythjahianafohjaa
open Go.ChangeShapes Go.WideShapes Go.ChangeAt Go.RowKit Go.Sx
theorem shaped_Wit {n : Nat} {ps : List PV} (h : Shaped Try.prog n 27 ps) : ∃ cyc vals : List Int, ps = [.sl 1 (ints cyc), .sl 1 (ints vals)] := by
  obtain ⟨m, _, h⟩ := shaped_struct Try.underlying27 h
  simp only [List.map_cons, List.map_nil, Shapeds] at h
  obtain ⟨_, _, rfl, h1, _, _, rfl, h2, rfl⟩ := h
  obtain ⟨m1, rows1, _, rfl, k1⟩ := shaped_slice Try.underlying24 h1
  obtain ⟨m2, rows2, _, rfl, k2⟩ := shaped_slice Try.underlying25 h2
  obtain ⟨cyc, rfl, _⟩ := shaped_ints (by kernel_rfl) rows1 k1
  obtain ⟨vals, rfl, _⟩ := shaped_ints (by kernel_rfl) rows2 k2
  exact ⟨cyc, vals, rfl⟩
theorem revealedVerifies_true (n0 : Nat) (rows : List (List PV)) (hs : ∀ r ∈ rows, Shaped Try.prog n0 44 r) (n1 : Nat) (ps1 : List PV) (h1 : Shaped Try.prog n1 27 ps1) :
    evalF Tab 3001 n_saleroomlaw36_RevealedVerifies [.sl 12 rows, .agg ps1] [] = some (.bool true, []) := by
  obtain ⟨l, rfl⟩ := shaped_Chs rows hs
  obtain ⟨cyc, vals, rfl⟩ := shaped_Wit h1
  have hP : (PV.sl 12 (l.map Ch.row)).rowsOf 12 = some (l.map Ch.row) := by simp [PV.rowsOf]
  have hC : (PV.sl 1 (ints cyc)).rowsOf 1 = some (ints cyc) := by simp [PV.rowsOf]
  have hV : (PV.sl 1 (ints vals)).rowsOf 1 = some (ints vals) := by simp [PV.rowsOf]
  obtain ⟨p1, p2, p3⟩ := rows_len hP
  obtain ⟨r1, r2, r3⟩ := rows_len hC
  obtain ⟨s1, s2, s3⟩ := rows_len hV
  rw [List.length_map] at p1
  rw [ints_len] at r1 s1
  have ll := lives_sem
  simp only [n_saleroomlaw36_lives] at ll
  have main : l.length ≤ 14 → cyc.length ≤ 1100 → vals.length ≤ 40 →
      evalF Tab 3000 n_revealed_Verify [.sl 12 (l.map Ch.row), .agg [.sl 1 (ints cyc), .sl 1 (ints vals)]] [] = some (.int .i64 (verd l cyc vals), []) ∧
      evalF Tab 3000 n_saleroomref36_Verify [.sl 12 (l.map Ch.row), .agg [.sl 1 (ints cyc), .sl 1 (ints vals)]] [] = some (.int .i64 (verd l cyc vals), []) := fun h1 h2 h3 =>
    ⟨verify_sem [] l _ hP cyc vals _ _ hC hV h1 3000 (by omega) (by omega) (by omega), rverify_sem [] l _ hP cyc vals _ _ hC hV h1 3000 (by omega) (by omega) (by omega)⟩
  generalize (PV.sl 12 (l.map Ch.row)) = P at *
  generalize (PV.sl 1 (ints cyc)) = C at *
  generalize (PV.sl 1 (ints vals)) = V at *
  simp only [n_revealed_Verify, n_saleroomref36_Verify] at main
  rw [evalF]
  simp only [tab_saleroomlaw36_RevealedVerifies, Option.bind_some, Sys.run]
  show ((bindPs [.sh (.one _), .sh (.agg [_, _])] _).bind _) = _
  simp -implicitDefEqProofs only [bindPs, bind1, bindK, Option.map_some, Option.bind_some, List.append_nil, List.nil_append, List.cons_append, if_true, p3, r3, s3]
  show (PT.ev _ saleroomlaw36_RevealedVerifies_s _).bind _ = _
  simp -implicitDefEqProofs only [saleroomlaw36_RevealedVerifies_s, ↓reduceIte, PT.ev, BE.safe, BE.pe, IE.pe, PEnv.at, List.getD_cons_zero, List.getD_cons_succ, List.getElem?_cons_zero, List.getElem?_cons_succ, locOf, locOn, readLoc, takeN, Nat.add_zero, List.drop_zero, List.length_cons, List.length_nil, Nat.reduceAdd, Nat.le_refl, if_true, if_false, Bool.false_eq_true, List.take_succ_cons, List.take_zero, bindK, bindRes, bind1, Option.map_some, Option.bind_some, PEnv.push, List.cons_append, List.nil_append, List.append_nil, SV.pvs, SV.pv, BE.all, Bool.and_self, Bool.not_true, Bool.not_false, List.map_cons, List.map_nil, p1, p2, r1, r2, s1, s2]
  by_cases h1 : 14 < l.length
  · have e1 : ltB 14 (l.length : Int) = true := by rw [ltB_true]; omega
    simp -implicitDefEqProofs only [↓reduceIte, PT.ev, BE.safe, BE.pe, IE.pe, PEnv.at, List.getD_cons_zero, List.getD_cons_succ, List.getElem?_cons_zero, List.getElem?_cons_succ, locOf, locOn, readLoc, takeN, Nat.add_zero, List.drop_zero, List.length_cons, List.length_nil, Nat.reduceAdd, Nat.le_refl, if_true, if_false, Bool.false_eq_true, List.take_succ_cons, List.take_zero, bindK, bindRes, bind1, Option.map_some, Option.bind_some, PEnv.push, List.cons_append, List.nil_append, List.append_nil, SV.pvs, SV.pv, BE.all, Bool.and_self, Bool.not_true, Bool.not_false, List.map_cons, List.map_nil, e1, ll, retP, or_true]
  have e1 : ltB 14 (l.length : Int) = false := by rw [ltB_false]; omega
  by_cases h2 : 1100 < cyc.length
  · have e2 : ltB 1100 (cyc.length : Int) = true := by rw [ltB_true]; omega
    simp -implicitDefEqProofs only [↓reduceIte, PT.ev, BE.safe, BE.pe, IE.pe, PEnv.at, List.getD_cons_zero, List.getD_cons_succ, List.getElem?_cons_zero, List.getElem?_cons_succ, locOf, locOn, readLoc, takeN, Nat.add_zero, List.drop_zero, List.length_cons, List.length_nil, Nat.reduceAdd, Nat.le_refl, if_true, if_false, Bool.false_eq_true, List.take_succ_cons, List.take_zero, bindK, bindRes, bind1, Option.map_some, Option.bind_some, PEnv.push, List.cons_append, List.nil_append, List.append_nil, SV.pvs, SV.pv, BE.all, Bool.and_self, Bool.not_true, Bool.not_false, List.map_cons, List.map_nil, e1, r1, r2, e2, ll, retP, or_true]
  have e2 : ltB 1100 (cyc.length : Int) = false := by rw [ltB_false]; omega
  by_cases h3 : 40 < vals.length
  · have e3 : ltB 40 (vals.length : Int) = true := by rw [ltB_true]; omega
    simp -implicitDefEqProofs only [↓reduceIte, PT.ev, BE.safe, BE.pe, IE.pe, PEnv.at, List.getD_cons_zero, List.getD_cons_succ, List.getElem?_cons_zero, List.getElem?_cons_succ, locOf, locOn, readLoc, takeN, Nat.add_zero, List.drop_zero, List.length_cons, List.length_nil, Nat.reduceAdd, Nat.le_refl, if_true, if_false, Bool.false_eq_true, List.take_succ_cons, List.take_zero, bindK, bindRes, bind1, Option.map_some, Option.bind_some, PEnv.push, List.cons_append, List.nil_append, List.append_nil, SV.pvs, SV.pv, BE.all, Bool.and_self, Bool.not_true, Bool.not_false, List.map_cons, List.map_nil, e1, r1, r2, s1, s2, e2, e3, ll, retP, or_true]
  have e3 : ltB 40 (vals.length : Int) = false := by rw [ltB_false]; omega
  obtain ⟨m1, m2⟩ := main (by omega) (by omega) (by omega)
  have ee : eqB (verd l cyc vals) (verd l cyc vals) = true := by rw [eqB_true]
  generalize verd l cyc vals = d at *
  simp -implicitDefEqProofs only [↓reduceIte, PT.ev, BE.safe, BE.pe, IE.pe, PEnv.at, List.getD_cons_zero, List.getD_cons_succ, List.getElem?_cons_zero, List.getElem?_cons_succ, locOf, locOn, readLoc, takeN, Nat.add_zero, List.drop_zero, List.length_cons, List.length_nil, Nat.reduceAdd, Nat.le_refl, if_true, if_false, Bool.false_eq_true, List.take_succ_cons, List.take_zero, bindK, bindRes, bind1, Option.map_some, Option.bind_some, PEnv.push, List.cons_append, List.nil_append, List.append_nil, SV.pvs, SV.pv, BE.all, Bool.and_self, Bool.not_true, Bool.not_false, List.map_cons, List.map_nil, e1, r1, r2, s1, s2, e2, e3, m1, m2, ee, ll, retP, or_true]
theorem revealedVerifies_own : ownKnob Try.prog.godebug = none := by kernel_rfl
theorem revealedVerifies_laid : laidOutB Try.prog = true := by kernel_rfl
theorem revealedVerifies_types : Go.Sx.closed Try.prog [22, 27, 44, 24, 25, 40, 42, 3, 2] = true := by kernel_rfl
set_option maxRecDepth 100000 in
theorem revealedVerifies_lifted (os : Os) (started : os.Started) (H : Type) (enc : TypeId × Value → H) :
    ReturnsInHanded {} Try.checked os 4 .any (Rows.revealedVerifiesSpec.pre6 enc Try.prog Try.f4 Rows.revealedVerifiesRow.domain false) (Rows.revealedVerifiesSpec.post enc Try.prog Try.f4 false true false false) := by
  refine returnsInHanded_of_change (C := Try.checked) revealedVerifies_own started (by kernel_rfl) Try.func4
    (ChangeSpec.witness6 (enc := enc) (C := Try.checked) false ⟨#[], #[.slice none 0 0, .agg #[.slice none 0 0, .slice none 0 0]], []⟩ 8 (by kernel_rfl) (by kernel_rfl) (by kernel_rfl) (by kernel_rfl)) ?_
  intro W base args ds gs before hval0 hW hcnd _
  have hval : ∀ (j : Nat) t v, Try.f4.params[j]? = some t → args[j]? = some v → Value.okWide Try.prog W .any base t v := hval0
  have hW' := hW
  obtain ⟨p, q, hA0, hV, rfl, hfz, hnd⟩ := hW
  have hA : DataW.TrodAll enc Try.prog W 0 (fun _ => true) true Try.f4.params.toList args.toList ds p := hA0
  rw [Try.params4] at hA hval
  obtain ⟨v0, vs0, d0, ds0, p0, q0, hargs, rfl, rfl, h0, r0⟩ := trodAll_cons hA
  obtain ⟨v1, vs1, d1, ds1, p1, q1, rfl, rfl, rfl, h1, r1⟩ := trodAll_cons r0
  obtain ⟨rfl, rfl, rfl⟩ := trodAll_nil r1
  obtain rfl : args = #[v0, v1] := by cases args; simp_all
  obtain ⟨rfl, rfl⟩ := trodVars_none hV
  have k0 := h0
  have lt0 : ∀ x ∈ p0, x.block < W.heap.size := by obtain ⟨m, hm⟩ := k0; exact DataW.trod_lt m _ _ _ hm
  obtain ⟨n0, a0, e0, s0, w0⟩ := arg_slice revealedVerifies_types (t := 22) (by decide) Try.underlying22 (hval 0 22 v0 rfl rfl) h0
  have k1 := h1
  have lt1 : ∀ x ∈ p1, x.block < W.heap.size := by obtain ⟨m, hm⟩ := k1; exact DataW.trod_lt m _ _ _ hm
  obtain ⟨n1, a1, e1, s1, w1⟩ := arg_struct revealedVerifies_types (t := 27) (by decide) Try.underlying27 (hval 1 27 v1 rfl rfl) h1
  clear hA0 hval0
  rw [show Try.prog.cellsOf 44 = 12 by kernel_rfl] at e0
  have hr : Go.Sx.Reps (Go.Sx.hpOf W) [] [.sl 12 a0, .agg a1] [v0, v1] := ⟨v0, _, rfl, e0, ⟨v1, _, rfl, e1, rfl⟩⟩
  refine (Go.Sx.lift_true (Go.Sx.evalF_good tab_ok 3001 4) (revealedVerifies_true n0 a0 s0 n1 a1 s1) hr).mono fun e W' hh => ?_
  obtain ⟨rfl, bel⟩ := hh
  exact ⟨_, rfl, _, _, _, [], _, [], hW', trodAll_mk1 (shut_bool Try.underlying4 _), (trodAll_cons_mk (Below.trod revealedVerifies_laid (by kernel_rfl) (of_decide_eq_true (by kernel_rfl)) k0 bel lt0) (trodAll_cons_mk (Below.trod revealedVerifies_laid (by kernel_rfl) (of_decide_eq_true (by kernel_rfl)) k1 bel lt1) trodAll_mk0)), rfl, bel.frame _, fun h => by cases h⟩
theorem revealedVerifies_proved : Rows.RevealedVerifiesSaid :=
  OpenClaim.holds_of_wide 4 Try.f4 rfl rfl rfl rfl rfl rfl rfl ⟨rfl, rfl, rfl, rfl, rfl⟩ rfl rfl rfl rfl rfl (by kernel_rfl) Try.func4 (by kernel_rfl)
    (of_decide_eq_true (by kernel_rfl)) (by unfold Func.isWrapper; first | (rw [if_pos (by decide +kernel)]; kernel_rfl) | (rw [if_neg (by decide +kernel)]; exact ⟨rfl, rfl⟩))
    (fun os started H enc _ => revealedVerifies_lifted os started H enc)
end Go.Proofs.Ythjahianafohjaa
