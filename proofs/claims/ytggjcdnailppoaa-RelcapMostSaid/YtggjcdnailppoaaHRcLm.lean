/- RelcapMost: the relative cap of every bundle is that of the chapter, for all lists of at most 20 choices and 20 bids, and all bundles. -/
import Derived.Test.YtggjcdnailppoaaHRca
import Derived.Test.YtggjcdnailppoaaRows
import Derived.WalkKit
import Derived.ProofKit
import Derived.OpenShut
import Derived.JoinedCond
import Derived.ShutString
set_option linter.unusedSimpArgs false
set_option linter.unusedVariables false
set_option maxRecDepth 100000
namespace Go.Proofs.Ytggjcdnailppoaa
open Go.ChangeShapes Go.WideShapes Go.ChangeAt Go.RowKit Go.Sx
theorem relcapMost_true (n0 : Nat) (rows : List (List PV)) (hs : ∀ r ∈ rows, Shaped Try.prog n0 46 r) (n1 : Nat) (rows1 : List (List PV)) (hs1 : ∀ r ∈ rows1, Shaped Try.prog n1 33 r) (n2 : Nat) (ps : List PV) (hs2 : Shaped Try.prog n2 29 ps) :
    evalF Tab 40001 n_saleroomlaw40_RelcapMost [.sl 12 rows, .sl 8 rows1, .agg ps] [] = some (.bool true, []) := by
  obtain ⟨l, rfl⟩ := shaped_Chs rows hs
  obtain ⟨bids, rfl⟩ := shaped_Ofs rows1 hs1
  obtain ⟨b, rfl⟩ := shaped_w6 Try.underlying29 (by kernel_rfl) hs2
  have hP : (PV.sl 12 (l.map Ch.row)).rowsOf 12 = some (l.map Ch.row) := sl_rows _ _
  have hB : (PV.sl 8 (bids.map Of.row)).rowsOf 8 = some (bids.map Of.row) := sl_rows _ _
  have hPl : (PV.sl 12 (l.map Ch.row)).low 0 = true := low_ch 0 l
  obtain ⟨p1, p2, p3⟩ := rows_len hP
  obtain ⟨b1, b2, b3⟩ := rows_len hB
  rw [List.length_map] at p1 b1
  have ll := lives40
  simp only [n_saleroomlaw40_lives] at ll
  have c1 := fun h1 h2 => capv_sem [] rfl l _ hP hPl bids _ hB h1 h2 b 40000 (by omega)
  have c2 := fun h1 h2 => rcapv_sem [] l _ hP bids _ hB h1 h2 b 40000 (by omega)
  generalize (PV.sl 12 (l.map Ch.row)) = P at *
  generalize (PV.sl 8 (bids.map Of.row)) = B at *
  generalize capV l bids b = z at *
  simp only [n_relcap_Most, n_saleroomref40_Most, W6.pv] at c1 c2
  rw [evalF]
  simp only [tab_saleroomlaw40_RelcapMost, Option.bind_some, Sys.run, W6.pv]
  show ((bindPs [.sh (.one _), .sh (.one _), .sh (.agg [_, _, _, _, _, _])] _).bind _) = _
  simp -implicitDefEqProofs only [bindPs, bind1, bindK, Option.map_some, Option.bind_some, List.append_nil, List.nil_append, List.cons_append, if_true, p3, b3]
  show (PT.ev _ saleroomlaw40_RelcapMost_s _).bind _ = _
  simp -implicitDefEqProofs only [saleroomlaw40_RelcapMost_s, ↓reduceIte, PT.ev, BE.safe, BE.pe, IE.pe, PEnv.at, List.getD_cons_zero, List.getD_cons_succ, List.getElem?_cons_zero, List.getElem?_cons_succ, locOf, locOn, readLoc, takeN, Nat.add_zero, List.drop_zero, List.length_cons, List.length_nil, Nat.reduceAdd, Nat.le_refl, if_true, if_false, Bool.false_eq_true, List.take_succ_cons, List.take_zero, bindK, bindRes, bind1, Option.map_some, Option.bind_some, PEnv.push, List.cons_append, List.nil_append, List.append_nil, SV.pvs, SV.pv, BE.all, Bool.and_self, Bool.not_true, Bool.not_false, List.map_cons, List.map_nil, p1, p2, b1, b2]
  by_cases h1 : 20 < l.length
  · have e1 : ltB 20 (l.length : Int) = true := by rw [ltB_true]; omega
    simp -implicitDefEqProofs only [↓reduceIte, PT.ev, BE.safe, BE.pe, IE.pe, PEnv.at, List.getD_cons_zero, List.getD_cons_succ, List.getElem?_cons_zero, List.getElem?_cons_succ, locOf, locOn, readLoc, takeN, Nat.add_zero, List.drop_zero, List.length_cons, List.length_nil, Nat.reduceAdd, Nat.le_refl, if_true, if_false, Bool.false_eq_true, List.take_succ_cons, List.take_zero, bindK, bindRes, bind1, Option.map_some, Option.bind_some, PEnv.push, List.cons_append, List.nil_append, List.append_nil, SV.pvs, SV.pv, BE.all, Bool.and_self, Bool.not_true, Bool.not_false, List.map_cons, List.map_nil, e1, ll, retP, or_true]
  have e1 : ltB 20 (l.length : Int) = false := by rw [ltB_false]; omega
  by_cases h2 : 20 < bids.length
  · have e2 : ltB 20 (bids.length : Int) = true := by rw [ltB_true]; omega
    simp -implicitDefEqProofs only [↓reduceIte, PT.ev, BE.safe, BE.pe, IE.pe, PEnv.at, List.getD_cons_zero, List.getD_cons_succ, List.getElem?_cons_zero, List.getElem?_cons_succ, locOf, locOn, readLoc, takeN, Nat.add_zero, List.drop_zero, List.length_cons, List.length_nil, Nat.reduceAdd, Nat.le_refl, if_true, if_false, Bool.false_eq_true, List.take_succ_cons, List.take_zero, bindK, bindRes, bind1, Option.map_some, Option.bind_some, PEnv.push, List.cons_append, List.nil_append, List.append_nil, SV.pvs, SV.pv, BE.all, Bool.and_self, Bool.not_true, Bool.not_false, List.map_cons, List.map_nil, e1, b1, b2, e2, ll, retP, or_true]
  have e2 : ltB 20 (bids.length : Int) = false := by rw [ltB_false]; omega
  simp -implicitDefEqProofs only [↓reduceIte, PT.ev, BE.safe, BE.pe, IE.pe, PEnv.at, List.getD_cons_zero, List.getD_cons_succ, List.getElem?_cons_zero, List.getElem?_cons_succ, locOf, locOn, readLoc, takeN, Nat.add_zero, List.drop_zero, List.length_cons, List.length_nil, Nat.reduceAdd, Nat.le_refl, if_true, if_false, Bool.false_eq_true, List.take_succ_cons, List.take_zero, bindK, bindRes, bind1, Option.map_some, Option.bind_some, PEnv.push, List.cons_append, List.nil_append, List.append_nil, SV.pvs, SV.pv, BE.all, Bool.and_self, Bool.not_true, Bool.not_false, List.map_cons, List.map_nil, e1, b1, b2, e2, c1 (by omega) (by omega), c2 (by omega) (by omega), eqB_self, ll, retP, or_true]
theorem relcapMost_own : ownKnob Try.prog.godebug = none := by kernel_rfl
theorem relcapMost_laid : laidOutB Try.prog = true := by kernel_rfl
theorem relcapMost_types : Go.Sx.closed Try.prog [22, 25, 29, 46, 33, 3, 44, 2] = true := by kernel_rfl
set_option maxRecDepth 100000 in
theorem relcapMost_lifted (os : Os) (started : os.Started) (H : Type) (enc : TypeId × Value → H) :
    ReturnsInHanded {} Try.checked os 4 .any (Rows.relcapMostSpec.pre6 enc Try.prog Try.f4 Rows.relcapMostRow.domain false) (Rows.relcapMostSpec.post enc Try.prog Try.f4 false true false false) := by
  refine returnsInHanded_of_change (C := Try.checked) relcapMost_own started (by kernel_rfl) Try.func4
    (ChangeSpec.witness6 (enc := enc) (C := Try.checked) false ⟨#[], #[.slice none 0 0, .slice none 0 0, .agg #[.int .i64 0, .int .i64 0, .int .i64 0, .int .i64 0, .int .i64 0, .int .i64 0]], []⟩ 8 (by kernel_rfl) (by kernel_rfl) (by kernel_rfl) (by kernel_rfl)) ?_
  intro W base args ds gs before hval0 hW hcnd _
  have hval : ∀ (j : Nat) t v, Try.f4.params[j]? = some t → args[j]? = some v → Value.okWide Try.prog W .any base t v := hval0
  have hW' := hW
  obtain ⟨p, q, hA0, hV, rfl, hfz, hnd⟩ := hW
  have hA : DataW.TrodAll enc Try.prog W 0 (fun _ => true) true Try.f4.params.toList args.toList ds p := hA0
  rw [Try.params4] at hA hval
  obtain ⟨v0, vs0, d0, ds0, p0, q0, hargs, rfl, rfl, h0, r0⟩ := trodAll_cons hA
  obtain ⟨v1, vs1, d1, ds1, p1, q1, rfl, rfl, rfl, h1, r1⟩ := trodAll_cons r0
  obtain ⟨v2, vs2, d2, ds2, p2, q2, rfl, rfl, rfl, h2, r2⟩ := trodAll_cons r1
  obtain ⟨rfl, rfl, rfl⟩ := trodAll_nil r2
  obtain rfl : args = #[v0, v1, v2] := by cases args; simp_all
  obtain ⟨rfl, rfl⟩ := trodVars_none hV
  have k0 := h0
  have lt0 : ∀ x ∈ p0, x.block < W.heap.size := by obtain ⟨m, hm⟩ := k0; exact DataW.trod_lt m _ _ _ hm
  obtain ⟨n0, a0, e0, s0, w0⟩ := arg_slice relcapMost_types (t := 22) (by decide) Try.underlying22 (hval 0 22 v0 rfl rfl) h0
  have k1 := h1
  have lt1 : ∀ x ∈ p1, x.block < W.heap.size := by obtain ⟨m, hm⟩ := k1; exact DataW.trod_lt m _ _ _ hm
  obtain ⟨n1, a1, e1, s1, w1⟩ := arg_slice relcapMost_types (t := 25) (by decide) Try.underlying25 (hval 1 25 v1 rfl rfl) h1
  have k2 := h2
  have lt2 : ∀ x ∈ p2, x.block < W.heap.size := by obtain ⟨m, hm⟩ := k2; exact DataW.trod_lt m _ _ _ hm
  obtain ⟨n2, a2, e2, s2, w2⟩ := arg_array relcapMost_types (t := 29) (by decide) Try.underlying29 (hval 2 29 v2 rfl rfl) h2
  clear hA0 hval0
  rw [show Try.prog.cellsOf 46 = 12 by kernel_rfl] at e0
  rw [show Try.prog.cellsOf 33 = 8 by kernel_rfl] at e1
  have hr : Go.Sx.Reps (Go.Sx.hpOf W) [] [.sl 12 a0, .sl 8 a1, .agg a2] [v0, v1, v2] := ⟨v0, _, rfl, e0, ⟨v1, _, rfl, e1, ⟨v2, _, rfl, e2, rfl⟩⟩⟩
  refine (Go.Sx.lift_true (Go.Sx.evalF_good tab_ok 40001 4) (relcapMost_true n0 a0 s0 n1 a1 s1 n2 a2 s2) hr).mono fun e W' hh => ?_
  obtain ⟨rfl, bel⟩ := hh
  exact ⟨_, rfl, _, _, _, [], _, [], hW', trodAll_mk1 (shut_bool Try.underlying4 _), (trodAll_cons_mk (Below.trod relcapMost_laid (by kernel_rfl) (of_decide_eq_true (by kernel_rfl)) k0 bel lt0) (trodAll_cons_mk (Below.trod relcapMost_laid (by kernel_rfl) (of_decide_eq_true (by kernel_rfl)) k1 bel lt1) (trodAll_cons_mk (Below.trod relcapMost_laid (by kernel_rfl) (of_decide_eq_true (by kernel_rfl)) k2 bel lt2) trodAll_mk0))), rfl, bel.frame _, fun h => by cases h⟩
theorem relcapMost_proved : Rows.RelcapMostSaid :=
  OpenClaim.holds_of_wide 4 Try.f4 rfl rfl rfl rfl rfl rfl rfl ⟨rfl, rfl, rfl, rfl, rfl⟩ rfl rfl rfl rfl rfl (by kernel_rfl) Try.func4 (by kernel_rfl)
    (of_decide_eq_true (by kernel_rfl)) (by unfold Func.isWrapper; first | (rw [if_pos (by decide +kernel)]; kernel_rfl) | (rw [if_neg (by decide +kernel)]; exact ⟨rfl, rfl⟩))
    (fun os started H enc _ => relcapMost_lifted os started H enc)
end Go.Proofs.Ytggjcdnailppoaa
