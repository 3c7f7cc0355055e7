/- The reference's list of bundles: what it holds. -/
import Derived.Test.YtbmfegliomkkfaaHList
import Derived.Test.YtbmfegliomkkfaaHSxS
import Derived.Test.YtbmfegliomkkfaaHBunL
set_option linter.unusedSimpArgs false
set_option linter.unusedVariables false
namespace Go.Proofs.Ytbmfegliomkkfaa
open Go.Sx Go.Bun

def LI (S : Bd) (i : Nat) : List Int → List Bool → List Value → Hp → Prop := fun is bs vs s =>
  ∃ (k q : Nat) (v0 v1 : Value), is = (k : Int) :: (q : Int) :: S.l ∧ k < (Lk S i).length ∧ q ≤ (S.l.getD i 0).toNat + 1 ∧ vs = [v0, v1] ∧
    SliceIn s 6 v0 ((Lk S i).map cI) ∧ SliceIn s 6 v1 ((bpart i ((S.l.getD i 0).toNat + 1) (Lk S i) k q).map cI)
def LM (S : Bd) (i : Nat) : List Int → List Bool → List Value → Nat := fun is bs vs =>
  ((Lk S i).length - (is.getD 0 0).toNat) * ((S.l.getD i 0).toNat + 2) + ((S.l.getD i 0).toNat + 1) - (is.getD 1 0).toNat
theorem LM_q {S : Bd} {i k q : Nat} {l l' : List Int} {b b' : List Bool} {v v' : List Value} (hk : k < (Lk S i).length) (hq : q < (S.l.getD i 0).toNat + 1) : LM S i ((k : Int) :: ((q : Int) + 1) :: l) b v < LM S i ((k : Int) :: (q : Int) :: l') b' v' := by
  simp only [LM, List.getD_cons_zero, List.getD_cons_succ, Int.toNat_natCast]
  have : ((q : Int) + 1).toNat = q + 1 := by omega
  rw [this]; omega
theorem LM_k {S : Bd} {i k q : Nat} {l l' : List Int} {b b' : List Bool} {v v' : List Value} (hk : k < (Lk S i).length) (hq : q ≤ (S.l.getD i 0).toNat + 1) : LM S i (((k : Int) + 1) :: (0 : Int) :: l) b v < LM S i ((k : Int) :: (q : Int) :: l') b' v' := by
  simp only [LM, List.getD_cons_zero, List.getD_cons_succ, Int.toNat_natCast]
  have : ((k : Int) + 1).toNat = k + 1 := by omega
  rw [this]
  have h2 : (Lk S i).length - k = ((Lk S i).length - (k + 1)) + 1 := by omega
  have h0 : (0 : Int).toNat = 0 := rfl
  rw [h2, Nat.add_mul, h0]
  generalize ((Lk S i).length - (k + 1)) * ((S.l.getD i 0).toNat + 2) = z
  omega
theorem cI_app (L : List (List Int)) (x : List Int) : (L ++ [x]).map cI = L.map cI ++ [cI x] := by simp


theorem li_r5 (S : Bd) (hS : S.Ok) (hc : S.list = Lk S 6) {w0 : World} {s0 : Hp} : ∀ (A : Asg) (g : Cfg) (r : Env) (s : Hp), Go.Sx.fits ⟨0, 0, 0, 0⟩ A li_p5 g = true → LI S 5 (A.is.map (IE.den r)) (A.bs.map (BE.den r)) (SV.dens r id A.vs) s →
    Go.Sx.Reach Try.prog 25 (Ret (fun v s' => SliceIn s' 6 v (S.list.map cI)) s0 w0) (fnOf Try.f25).body w0 s0 g r s := by
  refine li_l5 (LI S 5) (LM S 5) (fun is bs vs js s1 l1 l2 l3 hI ih => ?_)
  obtain ⟨k, q, v0, v1, rfl, hk, hq, rfl, h0, h1⟩ := hI
  obtain rfl : bs = [] := List.length_eq_zero_iff.1 l2
  have hm := hS.at 5
  have hm' : S.l.getD 5 0 = S.f := rfl
  have hL : (Lk S 5).length ≤ 3125 := Lk_le S hS 5
  have hp := bpart_len 5 ((S.l.getD 5 0).toNat + 1) (Lk S 5) k q (by omega)
  have hkm : k * ((S.l.getD 5 0).toNat + 1) ≤ 3125 * 5 := Nat.mul_le_mul (by omega) (by omega)
  unfold li_o5
  conv => arg 5; simp only [Bd.l]
  refine vc_ite (fun h => ?_) (fun h => ?_)
  · simp only [BE.den, IE.den, SV.den, SV.dens, List.getD_cons_zero, List.getD_cons_succ, List.cons_append, List.nil_append, List.append_assoc, ltB_true, leB_true, eqB_true, ltB_false, leB_false, eqB_false, Bool.not_eq_true', Bool.not_eq_false', Bool.and_eq_true, Bool.or_eq_true, Bool.and_eq_false_iff, Bool.or_eq_false_iff] at h
    refine vc_need (by simp only [BE.den, IE.den, SV.den, SV.dens, List.getD_cons_zero, List.getD_cons_succ, List.cons_append, List.nil_append, List.append_assoc, ltB_true, leB_true, eqB_true, ltB_false, leB_false, eqB_false, Bool.not_eq_true', Bool.not_eq_false', Bool.and_eq_true, Bool.or_eq_true, Bool.and_eq_false_iff, Bool.or_eq_false_iff, h0.len, List.length_map]; omega) (fun _ => ?_)
    obtain ⟨x, hx⟩ : ∃ x, (Lk S 5)[k]? = some x := ⟨_, List.getElem?_eq_getElem hk⟩
    have hx6 := Lk_mem S 5 x (List.mem_of_getElem? hx)
    have hxd : (Lk S 5).getD k [] = x := by simp [List.getD, hx]
    match x, hx6, hx, hxd with
    | [x0, x1, x2, x3, x4, x5], _, hx, hxd =>
    refine vc_load [x0, x1, x2, x3, x4, x5] [] [] (cI [x0, x1, x2, x3, x4, x5]) (h0.at rfl rfl (by rw [List.getElem?_map, hx]; rfl)) rfl rfl rfl rfl rfl ?_
    conv => arg 5; simp only [List.cons_append, List.nil_append, List.append_nil, Bd.l]
    refine vc_app ((bpart 5 ((S.l.getD 5 0).toNat + 1) (Lk S 5) k q).map cI) (cI ([x0, x1, x2, x3, x4, x5].set 5 (q : Int))) h1 rfl (by rw [List.length_map, hp]; omega) (by rw [List.length_map, hp]; unfold maxLen; omega) (fun v s' hs hv => ?_)
    conv => arg 5; simp only [List.cons_append, List.nil_append, List.append_nil, Bd.l]
    refine vc_need (by simp only [BE.den, IE.den, SV.den, SV.dens, List.getD_cons_zero, List.getD_cons_succ, List.cons_append, List.nil_append, List.append_assoc, ltB_true, leB_true, eqB_true, ltB_false, leB_false, eqB_false, Bool.not_eq_true', Bool.not_eq_false', Bool.and_eq_true, Bool.or_eq_true, Bool.and_eq_false_iff, Bool.or_eq_false_iff]; omega) (fun _ => vc_stop ?_)
    refine ih li_a5_0 _ _ _ hs (by kernel_rfl) ⟨k, q + 1, v0, v, rfl, hk, by omega, rfl, h0.mono hs, ?_⟩ (LM_q hk (by omega))
    rw [bpart_succ, hxd, cI_app]; exact hv
  · simp only [BE.den, IE.den, SV.den, SV.dens, List.getD_cons_zero, List.getD_cons_succ, List.cons_append, List.nil_append, List.append_assoc, ltB_true, leB_true, eqB_true, ltB_false, leB_false, eqB_false, Bool.not_eq_true', Bool.not_eq_false', Bool.and_eq_true, Bool.or_eq_true, Bool.and_eq_false_iff, Bool.or_eq_false_iff] at h
    have hqm : q = (S.l.getD 5 0).toNat + 1 := by omega
    refine vc_need (by simp only [BE.den, IE.den, SV.den, SV.dens, List.getD_cons_zero, List.getD_cons_succ, List.cons_append, List.nil_append, List.append_assoc, ltB_true, leB_true, eqB_true, ltB_false, leB_false, eqB_false, Bool.not_eq_true', Bool.not_eq_false', Bool.and_eq_true, Bool.or_eq_true, Bool.and_eq_false_iff, Bool.or_eq_false_iff]; omega) (fun _ => ?_)
    refine vc_need h0.kind (fun _ => ?_)
    refine vc_ite (fun h2 => vc_stop ?_) (fun h2 => ?_)
    · simp only [BE.den, IE.den, SV.den, SV.dens, List.getD_cons_zero, List.getD_cons_succ, List.cons_append, List.nil_append, List.append_assoc, ltB_true, leB_true, eqB_true, ltB_false, leB_false, eqB_false, Bool.not_eq_true', Bool.not_eq_false', Bool.and_eq_true, Bool.or_eq_true, Bool.and_eq_false_iff, Bool.or_eq_false_iff, h0.len, List.length_map] at h2
      refine ih li_a5_1 _ _ _ (fun _ _ _ h => h) (by kernel_rfl) ⟨k + 1, 0, v0, v1, rfl, by omega, by omega, rfl, h0, ?_⟩ (LM_k hk hq)
      rw [hqm] at h1; rw [bpart_next _ _ _ _ hk]; exact h1
    · simp only [BE.den, IE.den, SV.den, SV.dens, List.getD_cons_zero, List.getD_cons_succ, List.cons_append, List.nil_append, List.append_assoc, ltB_true, leB_true, eqB_true, ltB_false, leB_false, eqB_false, Bool.not_eq_true', Bool.not_eq_false', Bool.and_eq_true, Bool.or_eq_true, Bool.and_eq_false_iff, Bool.or_eq_false_iff, h0.len, List.length_map] at h2
      have hall : bpart 5 ((S.l.getD 5 0).toNat + 1) (Lk S 5) k q = bstep 5 ((S.l.getD 5 0).toNat + 1) (Lk S 5) := by
        rw [hqm, ← bpart_next _ _ _ _ hk, bpart_all _ _ _ _ (by omega)]
      refine vc_ret (fun β s' hs _ => ?_)
      rw [hall] at h1
      rw [hc]
      exact h1.mono hs


theorem li_r4 (S : Bd) (hS : S.Ok) (hc : S.list = Lk S 6) {w0 : World} {s0 : Hp} : ∀ (A : Asg) (g : Cfg) (r : Env) (s : Hp), Go.Sx.fits ⟨0, 0, 0, 0⟩ A li_p4 g = true → LI S 4 (A.is.map (IE.den r)) (A.bs.map (BE.den r)) (SV.dens r id A.vs) s →
    Go.Sx.Reach Try.prog 25 (Ret (fun v s' => SliceIn s' 6 v (S.list.map cI)) s0 w0) (fnOf Try.f25).body w0 s0 g r s := by
  refine li_l4 (LI S 4) (LM S 4) (fun is bs vs js s1 l1 l2 l3 hI ih => ?_)
  obtain ⟨k, q, v0, v1, rfl, hk, hq, rfl, h0, h1⟩ := hI
  obtain rfl : bs = [] := List.length_eq_zero_iff.1 l2
  have hm := hS.at 4
  have hm' : S.l.getD 4 0 = S.e := rfl
  have hL : (Lk S 4).length ≤ 625 := Lk_le S hS 4
  have hp := bpart_len 4 ((S.l.getD 4 0).toNat + 1) (Lk S 4) k q (by omega)
  have hkm : k * ((S.l.getD 4 0).toNat + 1) ≤ 625 * 5 := Nat.mul_le_mul (by omega) (by omega)
  unfold li_o4
  conv => arg 5; simp only [Bd.l]
  refine vc_ite (fun h => ?_) (fun h => ?_)
  · simp only [BE.den, IE.den, SV.den, SV.dens, List.getD_cons_zero, List.getD_cons_succ, List.cons_append, List.nil_append, List.append_assoc, ltB_true, leB_true, eqB_true, ltB_false, leB_false, eqB_false, Bool.not_eq_true', Bool.not_eq_false', Bool.and_eq_true, Bool.or_eq_true, Bool.and_eq_false_iff, Bool.or_eq_false_iff] at h
    refine vc_need (by simp only [BE.den, IE.den, SV.den, SV.dens, List.getD_cons_zero, List.getD_cons_succ, List.cons_append, List.nil_append, List.append_assoc, ltB_true, leB_true, eqB_true, ltB_false, leB_false, eqB_false, Bool.not_eq_true', Bool.not_eq_false', Bool.and_eq_true, Bool.or_eq_true, Bool.and_eq_false_iff, Bool.or_eq_false_iff, h0.len, List.length_map]; omega) (fun _ => ?_)
    obtain ⟨x, hx⟩ : ∃ x, (Lk S 4)[k]? = some x := ⟨_, List.getElem?_eq_getElem hk⟩
    have hx6 := Lk_mem S 4 x (List.mem_of_getElem? hx)
    have hxd : (Lk S 4).getD k [] = x := by simp [List.getD, hx]
    match x, hx6, hx, hxd with
    | [x0, x1, x2, x3, x4, x5], _, hx, hxd =>
    refine vc_load [x0, x1, x2, x3, x4, x5] [] [] (cI [x0, x1, x2, x3, x4, x5]) (h0.at rfl rfl (by rw [List.getElem?_map, hx]; rfl)) rfl rfl rfl rfl rfl ?_
    conv => arg 5; simp only [List.cons_append, List.nil_append, List.append_nil, Bd.l]
    refine vc_app ((bpart 4 ((S.l.getD 4 0).toNat + 1) (Lk S 4) k q).map cI) (cI ([x0, x1, x2, x3, x4, x5].set 4 (q : Int))) h1 rfl (by rw [List.length_map, hp]; omega) (by rw [List.length_map, hp]; unfold maxLen; omega) (fun v s' hs hv => ?_)
    conv => arg 5; simp only [List.cons_append, List.nil_append, List.append_nil, Bd.l]
    refine vc_need (by simp only [BE.den, IE.den, SV.den, SV.dens, List.getD_cons_zero, List.getD_cons_succ, List.cons_append, List.nil_append, List.append_assoc, ltB_true, leB_true, eqB_true, ltB_false, leB_false, eqB_false, Bool.not_eq_true', Bool.not_eq_false', Bool.and_eq_true, Bool.or_eq_true, Bool.and_eq_false_iff, Bool.or_eq_false_iff]; omega) (fun _ => vc_stop ?_)
    refine ih li_a4_0 _ _ _ hs (by kernel_rfl) ⟨k, q + 1, v0, v, rfl, hk, by omega, rfl, h0.mono hs, ?_⟩ (LM_q hk (by omega))
    rw [bpart_succ, hxd, cI_app]; exact hv
  · simp only [BE.den, IE.den, SV.den, SV.dens, List.getD_cons_zero, List.getD_cons_succ, List.cons_append, List.nil_append, List.append_assoc, ltB_true, leB_true, eqB_true, ltB_false, leB_false, eqB_false, Bool.not_eq_true', Bool.not_eq_false', Bool.and_eq_true, Bool.or_eq_true, Bool.and_eq_false_iff, Bool.or_eq_false_iff] at h
    have hqm : q = (S.l.getD 4 0).toNat + 1 := by omega
    refine vc_need (by simp only [BE.den, IE.den, SV.den, SV.dens, List.getD_cons_zero, List.getD_cons_succ, List.cons_append, List.nil_append, List.append_assoc, ltB_true, leB_true, eqB_true, ltB_false, leB_false, eqB_false, Bool.not_eq_true', Bool.not_eq_false', Bool.and_eq_true, Bool.or_eq_true, Bool.and_eq_false_iff, Bool.or_eq_false_iff]; omega) (fun _ => ?_)
    refine vc_need h0.kind (fun _ => ?_)
    refine vc_ite (fun h2 => vc_stop ?_) (fun h2 => ?_)
    · simp only [BE.den, IE.den, SV.den, SV.dens, List.getD_cons_zero, List.getD_cons_succ, List.cons_append, List.nil_append, List.append_assoc, ltB_true, leB_true, eqB_true, ltB_false, leB_false, eqB_false, Bool.not_eq_true', Bool.not_eq_false', Bool.and_eq_true, Bool.or_eq_true, Bool.and_eq_false_iff, Bool.or_eq_false_iff, h0.len, List.length_map] at h2
      refine ih li_a4_1 _ _ _ (fun _ _ _ h => h) (by kernel_rfl) ⟨k + 1, 0, v0, v1, rfl, by omega, by omega, rfl, h0, ?_⟩ (LM_k hk hq)
      rw [hqm] at h1; rw [bpart_next _ _ _ _ hk]; exact h1
    · simp only [BE.den, IE.den, SV.den, SV.dens, List.getD_cons_zero, List.getD_cons_succ, List.cons_append, List.nil_append, List.append_assoc, ltB_true, leB_true, eqB_true, ltB_false, leB_false, eqB_false, Bool.not_eq_true', Bool.not_eq_false', Bool.and_eq_true, Bool.or_eq_true, Bool.and_eq_false_iff, Bool.or_eq_false_iff, h0.len, List.length_map] at h2
      have hall : bpart 4 ((S.l.getD 4 0).toNat + 1) (Lk S 4) k q = bstep 4 ((S.l.getD 4 0).toNat + 1) (Lk S 4) := by
        rw [hqm, ← bpart_next _ _ _ _ hk, bpart_all _ _ _ _ (by omega)]
      refine vc_need h1.kind (fun _ => ?_)
      refine vc_ite (fun _ => vc_stop ?_) (fun h3 => ?_)
      · refine li_r5 S hS hc li_a4_2 _ _ _ (by kernel_rfl) ⟨0, 0, v1, .slice none 0 0, rfl, Lk_pos S 5, by omega, rfl, ?_, by rw [bpart_zero]; exact SliceIn.nil _ _⟩
        rw [hall] at h1; exact h1
      · exfalso
        simp only [BE.den, IE.den, SV.den, SV.dens, List.getD_cons_zero, List.getD_cons_succ, List.cons_append, List.nil_append, List.append_assoc, ltB_true, leB_true, eqB_true, ltB_false, leB_false, eqB_false, Bool.not_eq_true', Bool.not_eq_false', Bool.and_eq_true, Bool.or_eq_true, Bool.and_eq_false_iff, Bool.or_eq_false_iff, h1.len, List.length_map] at h3
        rw [hall, show bstep 4 ((S.l.getD 4 0).toNat + 1) (Lk S 4) = Lk S 5 from rfl] at h3
        have := Lk_pos S 5
        omega


theorem li_r3 (S : Bd) (hS : S.Ok) (hc : S.list = Lk S 6) {w0 : World} {s0 : Hp} : ∀ (A : Asg) (g : Cfg) (r : Env) (s : Hp), Go.Sx.fits ⟨0, 0, 0, 0⟩ A li_p3 g = true → LI S 3 (A.is.map (IE.den r)) (A.bs.map (BE.den r)) (SV.dens r id A.vs) s →
    Go.Sx.Reach Try.prog 25 (Ret (fun v s' => SliceIn s' 6 v (S.list.map cI)) s0 w0) (fnOf Try.f25).body w0 s0 g r s := by
  refine li_l3 (LI S 3) (LM S 3) (fun is bs vs js s1 l1 l2 l3 hI ih => ?_)
  obtain ⟨k, q, v0, v1, rfl, hk, hq, rfl, h0, h1⟩ := hI
  obtain rfl : bs = [] := List.length_eq_zero_iff.1 l2
  have hm := hS.at 3
  have hm' : S.l.getD 3 0 = S.d := rfl
  have hL : (Lk S 3).length ≤ 125 := Lk_le S hS 3
  have hp := bpart_len 3 ((S.l.getD 3 0).toNat + 1) (Lk S 3) k q (by omega)
  have hkm : k * ((S.l.getD 3 0).toNat + 1) ≤ 125 * 5 := Nat.mul_le_mul (by omega) (by omega)
  unfold li_o3
  conv => arg 5; simp only [Bd.l]
  refine vc_ite (fun h => ?_) (fun h => ?_)
  · simp only [BE.den, IE.den, SV.den, SV.dens, List.getD_cons_zero, List.getD_cons_succ, List.cons_append, List.nil_append, List.append_assoc, ltB_true, leB_true, eqB_true, ltB_false, leB_false, eqB_false, Bool.not_eq_true', Bool.not_eq_false', Bool.and_eq_true, Bool.or_eq_true, Bool.and_eq_false_iff, Bool.or_eq_false_iff] at h
    refine vc_need (by simp only [BE.den, IE.den, SV.den, SV.dens, List.getD_cons_zero, List.getD_cons_succ, List.cons_append, List.nil_append, List.append_assoc, ltB_true, leB_true, eqB_true, ltB_false, leB_false, eqB_false, Bool.not_eq_true', Bool.not_eq_false', Bool.and_eq_true, Bool.or_eq_true, Bool.and_eq_false_iff, Bool.or_eq_false_iff, h0.len, List.length_map]; omega) (fun _ => ?_)
    obtain ⟨x, hx⟩ : ∃ x, (Lk S 3)[k]? = some x := ⟨_, List.getElem?_eq_getElem hk⟩
    have hx6 := Lk_mem S 3 x (List.mem_of_getElem? hx)
    have hxd : (Lk S 3).getD k [] = x := by simp [List.getD, hx]
    match x, hx6, hx, hxd with
    | [x0, x1, x2, x3, x4, x5], _, hx, hxd =>
    refine vc_load [x0, x1, x2, x3, x4, x5] [] [] (cI [x0, x1, x2, x3, x4, x5]) (h0.at rfl rfl (by rw [List.getElem?_map, hx]; rfl)) rfl rfl rfl rfl rfl ?_
    conv => arg 5; simp only [List.cons_append, List.nil_append, List.append_nil, Bd.l]
    refine vc_app ((bpart 3 ((S.l.getD 3 0).toNat + 1) (Lk S 3) k q).map cI) (cI ([x0, x1, x2, x3, x4, x5].set 3 (q : Int))) h1 rfl (by rw [List.length_map, hp]; omega) (by rw [List.length_map, hp]; unfold maxLen; omega) (fun v s' hs hv => ?_)
    conv => arg 5; simp only [List.cons_append, List.nil_append, List.append_nil, Bd.l]
    refine vc_need (by simp only [BE.den, IE.den, SV.den, SV.dens, List.getD_cons_zero, List.getD_cons_succ, List.cons_append, List.nil_append, List.append_assoc, ltB_true, leB_true, eqB_true, ltB_false, leB_false, eqB_false, Bool.not_eq_true', Bool.not_eq_false', Bool.and_eq_true, Bool.or_eq_true, Bool.and_eq_false_iff, Bool.or_eq_false_iff]; omega) (fun _ => vc_stop ?_)
    refine ih li_a3_0 _ _ _ hs (by kernel_rfl) ⟨k, q + 1, v0, v, rfl, hk, by omega, rfl, h0.mono hs, ?_⟩ (LM_q hk (by omega))
    rw [bpart_succ, hxd, cI_app]; exact hv
  · simp only [BE.den, IE.den, SV.den, SV.dens, List.getD_cons_zero, List.getD_cons_succ, List.cons_append, List.nil_append, List.append_assoc, ltB_true, leB_true, eqB_true, ltB_false, leB_false, eqB_false, Bool.not_eq_true', Bool.not_eq_false', Bool.and_eq_true, Bool.or_eq_true, Bool.and_eq_false_iff, Bool.or_eq_false_iff] at h
    have hqm : q = (S.l.getD 3 0).toNat + 1 := by omega
    refine vc_need (by simp only [BE.den, IE.den, SV.den, SV.dens, List.getD_cons_zero, List.getD_cons_succ, List.cons_append, List.nil_append, List.append_assoc, ltB_true, leB_true, eqB_true, ltB_false, leB_false, eqB_false, Bool.not_eq_true', Bool.not_eq_false', Bool.and_eq_true, Bool.or_eq_true, Bool.and_eq_false_iff, Bool.or_eq_false_iff]; omega) (fun _ => ?_)
    refine vc_need h0.kind (fun _ => ?_)
    refine vc_ite (fun h2 => vc_stop ?_) (fun h2 => ?_)
    · simp only [BE.den, IE.den, SV.den, SV.dens, List.getD_cons_zero, List.getD_cons_succ, List.cons_append, List.nil_append, List.append_assoc, ltB_true, leB_true, eqB_true, ltB_false, leB_false, eqB_false, Bool.not_eq_true', Bool.not_eq_false', Bool.and_eq_true, Bool.or_eq_true, Bool.and_eq_false_iff, Bool.or_eq_false_iff, h0.len, List.length_map] at h2
      refine ih li_a3_1 _ _ _ (fun _ _ _ h => h) (by kernel_rfl) ⟨k + 1, 0, v0, v1, rfl, by omega, by omega, rfl, h0, ?_⟩ (LM_k hk hq)
      rw [hqm] at h1; rw [bpart_next _ _ _ _ hk]; exact h1
    · simp only [BE.den, IE.den, SV.den, SV.dens, List.getD_cons_zero, List.getD_cons_succ, List.cons_append, List.nil_append, List.append_assoc, ltB_true, leB_true, eqB_true, ltB_false, leB_false, eqB_false, Bool.not_eq_true', Bool.not_eq_false', Bool.and_eq_true, Bool.or_eq_true, Bool.and_eq_false_iff, Bool.or_eq_false_iff, h0.len, List.length_map] at h2
      have hall : bpart 3 ((S.l.getD 3 0).toNat + 1) (Lk S 3) k q = bstep 3 ((S.l.getD 3 0).toNat + 1) (Lk S 3) := by
        rw [hqm, ← bpart_next _ _ _ _ hk, bpart_all _ _ _ _ (by omega)]
      refine vc_need h1.kind (fun _ => ?_)
      refine vc_ite (fun _ => vc_stop ?_) (fun h3 => ?_)
      · refine li_r4 S hS hc li_a3_2 _ _ _ (by kernel_rfl) ⟨0, 0, v1, .slice none 0 0, rfl, Lk_pos S 4, by omega, rfl, ?_, by rw [bpart_zero]; exact SliceIn.nil _ _⟩
        rw [hall] at h1; exact h1
      · exfalso
        simp only [BE.den, IE.den, SV.den, SV.dens, List.getD_cons_zero, List.getD_cons_succ, List.cons_append, List.nil_append, List.append_assoc, ltB_true, leB_true, eqB_true, ltB_false, leB_false, eqB_false, Bool.not_eq_true', Bool.not_eq_false', Bool.and_eq_true, Bool.or_eq_true, Bool.and_eq_false_iff, Bool.or_eq_false_iff, h1.len, List.length_map] at h3
        rw [hall, show bstep 3 ((S.l.getD 3 0).toNat + 1) (Lk S 3) = Lk S 4 from rfl] at h3
        have := Lk_pos S 4
        omega


theorem li_r2 (S : Bd) (hS : S.Ok) (hc : S.list = Lk S 6) {w0 : World} {s0 : Hp} : ∀ (A : Asg) (g : Cfg) (r : Env) (s : Hp), Go.Sx.fits ⟨0, 0, 0, 0⟩ A li_p2 g = true → LI S 2 (A.is.map (IE.den r)) (A.bs.map (BE.den r)) (SV.dens r id A.vs) s →
    Go.Sx.Reach Try.prog 25 (Ret (fun v s' => SliceIn s' 6 v (S.list.map cI)) s0 w0) (fnOf Try.f25).body w0 s0 g r s := by
  refine li_l2 (LI S 2) (LM S 2) (fun is bs vs js s1 l1 l2 l3 hI ih => ?_)
  obtain ⟨k, q, v0, v1, rfl, hk, hq, rfl, h0, h1⟩ := hI
  obtain rfl : bs = [] := List.length_eq_zero_iff.1 l2
  have hm := hS.at 2
  have hm' : S.l.getD 2 0 = S.c := rfl
  have hL : (Lk S 2).length ≤ 25 := Lk_le S hS 2
  have hp := bpart_len 2 ((S.l.getD 2 0).toNat + 1) (Lk S 2) k q (by omega)
  have hkm : k * ((S.l.getD 2 0).toNat + 1) ≤ 25 * 5 := Nat.mul_le_mul (by omega) (by omega)
  unfold li_o2
  conv => arg 5; simp only [Bd.l]
  refine vc_ite (fun h => ?_) (fun h => ?_)
  · simp only [BE.den, IE.den, SV.den, SV.dens, List.getD_cons_zero, List.getD_cons_succ, List.cons_append, List.nil_append, List.append_assoc, ltB_true, leB_true, eqB_true, ltB_false, leB_false, eqB_false, Bool.not_eq_true', Bool.not_eq_false', Bool.and_eq_true, Bool.or_eq_true, Bool.and_eq_false_iff, Bool.or_eq_false_iff] at h
    refine vc_need (by simp only [BE.den, IE.den, SV.den, SV.dens, List.getD_cons_zero, List.getD_cons_succ, List.cons_append, List.nil_append, List.append_assoc, ltB_true, leB_true, eqB_true, ltB_false, leB_false, eqB_false, Bool.not_eq_true', Bool.not_eq_false', Bool.and_eq_true, Bool.or_eq_true, Bool.and_eq_false_iff, Bool.or_eq_false_iff, h0.len, List.length_map]; omega) (fun _ => ?_)
    obtain ⟨x, hx⟩ : ∃ x, (Lk S 2)[k]? = some x := ⟨_, List.getElem?_eq_getElem hk⟩
    have hx6 := Lk_mem S 2 x (List.mem_of_getElem? hx)
    have hxd : (Lk S 2).getD k [] = x := by simp [List.getD, hx]
    match x, hx6, hx, hxd with
    | [x0, x1, x2, x3, x4, x5], _, hx, hxd =>
    refine vc_load [x0, x1, x2, x3, x4, x5] [] [] (cI [x0, x1, x2, x3, x4, x5]) (h0.at rfl rfl (by rw [List.getElem?_map, hx]; rfl)) rfl rfl rfl rfl rfl ?_
    conv => arg 5; simp only [List.cons_append, List.nil_append, List.append_nil, Bd.l]
    refine vc_app ((bpart 2 ((S.l.getD 2 0).toNat + 1) (Lk S 2) k q).map cI) (cI ([x0, x1, x2, x3, x4, x5].set 2 (q : Int))) h1 rfl (by rw [List.length_map, hp]; omega) (by rw [List.length_map, hp]; unfold maxLen; omega) (fun v s' hs hv => ?_)
    conv => arg 5; simp only [List.cons_append, List.nil_append, List.append_nil, Bd.l]
    refine vc_need (by simp only [BE.den, IE.den, SV.den, SV.dens, List.getD_cons_zero, List.getD_cons_succ, List.cons_append, List.nil_append, List.append_assoc, ltB_true, leB_true, eqB_true, ltB_false, leB_false, eqB_false, Bool.not_eq_true', Bool.not_eq_false', Bool.and_eq_true, Bool.or_eq_true, Bool.and_eq_false_iff, Bool.or_eq_false_iff]; omega) (fun _ => vc_stop ?_)
    refine ih li_a2_0 _ _ _ hs (by kernel_rfl) ⟨k, q + 1, v0, v, rfl, hk, by omega, rfl, h0.mono hs, ?_⟩ (LM_q hk (by omega))
    rw [bpart_succ, hxd, cI_app]; exact hv
  · simp only [BE.den, IE.den, SV.den, SV.dens, List.getD_cons_zero, List.getD_cons_succ, List.cons_append, List.nil_append, List.append_assoc, ltB_true, leB_true, eqB_true, ltB_false, leB_false, eqB_false, Bool.not_eq_true', Bool.not_eq_false', Bool.and_eq_true, Bool.or_eq_true, Bool.and_eq_false_iff, Bool.or_eq_false_iff] at h
    have hqm : q = (S.l.getD 2 0).toNat + 1 := by omega
    refine vc_need (by simp only [BE.den, IE.den, SV.den, SV.dens, List.getD_cons_zero, List.getD_cons_succ, List.cons_append, List.nil_append, List.append_assoc, ltB_true, leB_true, eqB_true, ltB_false, leB_false, eqB_false, Bool.not_eq_true', Bool.not_eq_false', Bool.and_eq_true, Bool.or_eq_true, Bool.and_eq_false_iff, Bool.or_eq_false_iff]; omega) (fun _ => ?_)
    refine vc_need h0.kind (fun _ => ?_)
    refine vc_ite (fun h2 => vc_stop ?_) (fun h2 => ?_)
    · simp only [BE.den, IE.den, SV.den, SV.dens, List.getD_cons_zero, List.getD_cons_succ, List.cons_append, List.nil_append, List.append_assoc, ltB_true, leB_true, eqB_true, ltB_false, leB_false, eqB_false, Bool.not_eq_true', Bool.not_eq_false', Bool.and_eq_true, Bool.or_eq_true, Bool.and_eq_false_iff, Bool.or_eq_false_iff, h0.len, List.length_map] at h2
      refine ih li_a2_1 _ _ _ (fun _ _ _ h => h) (by kernel_rfl) ⟨k + 1, 0, v0, v1, rfl, by omega, by omega, rfl, h0, ?_⟩ (LM_k hk hq)
      rw [hqm] at h1; rw [bpart_next _ _ _ _ hk]; exact h1
    · simp only [BE.den, IE.den, SV.den, SV.dens, List.getD_cons_zero, List.getD_cons_succ, List.cons_append, List.nil_append, List.append_assoc, ltB_true, leB_true, eqB_true, ltB_false, leB_false, eqB_false, Bool.not_eq_true', Bool.not_eq_false', Bool.and_eq_true, Bool.or_eq_true, Bool.and_eq_false_iff, Bool.or_eq_false_iff, h0.len, List.length_map] at h2
      have hall : bpart 2 ((S.l.getD 2 0).toNat + 1) (Lk S 2) k q = bstep 2 ((S.l.getD 2 0).toNat + 1) (Lk S 2) := by
        rw [hqm, ← bpart_next _ _ _ _ hk, bpart_all _ _ _ _ (by omega)]
      refine vc_need h1.kind (fun _ => ?_)
      refine vc_ite (fun _ => vc_stop ?_) (fun h3 => ?_)
      · refine li_r3 S hS hc li_a2_2 _ _ _ (by kernel_rfl) ⟨0, 0, v1, .slice none 0 0, rfl, Lk_pos S 3, by omega, rfl, ?_, by rw [bpart_zero]; exact SliceIn.nil _ _⟩
        rw [hall] at h1; exact h1
      · exfalso
        simp only [BE.den, IE.den, SV.den, SV.dens, List.getD_cons_zero, List.getD_cons_succ, List.cons_append, List.nil_append, List.append_assoc, ltB_true, leB_true, eqB_true, ltB_false, leB_false, eqB_false, Bool.not_eq_true', Bool.not_eq_false', Bool.and_eq_true, Bool.or_eq_true, Bool.and_eq_false_iff, Bool.or_eq_false_iff, h1.len, List.length_map] at h3
        rw [hall, show bstep 2 ((S.l.getD 2 0).toNat + 1) (Lk S 2) = Lk S 3 from rfl] at h3
        have := Lk_pos S 3
        omega


theorem li_r1 (S : Bd) (hS : S.Ok) (hc : S.list = Lk S 6) {w0 : World} {s0 : Hp} : ∀ (A : Asg) (g : Cfg) (r : Env) (s : Hp), Go.Sx.fits ⟨0, 0, 0, 0⟩ A li_p1 g = true → LI S 1 (A.is.map (IE.den r)) (A.bs.map (BE.den r)) (SV.dens r id A.vs) s →
    Go.Sx.Reach Try.prog 25 (Ret (fun v s' => SliceIn s' 6 v (S.list.map cI)) s0 w0) (fnOf Try.f25).body w0 s0 g r s := by
  refine li_l1 (LI S 1) (LM S 1) (fun is bs vs js s1 l1 l2 l3 hI ih => ?_)
  obtain ⟨k, q, v0, v1, rfl, hk, hq, rfl, h0, h1⟩ := hI
  obtain rfl : bs = [] := List.length_eq_zero_iff.1 l2
  have hm := hS.at 1
  have hm' : S.l.getD 1 0 = S.b := rfl
  have hL : (Lk S 1).length ≤ 5 := Lk_le S hS 1
  have hp := bpart_len 1 ((S.l.getD 1 0).toNat + 1) (Lk S 1) k q (by omega)
  have hkm : k * ((S.l.getD 1 0).toNat + 1) ≤ 5 * 5 := Nat.mul_le_mul (by omega) (by omega)
  unfold li_o1
  conv => arg 5; simp only [Bd.l]
  refine vc_ite (fun h => ?_) (fun h => ?_)
  · simp only [BE.den, IE.den, SV.den, SV.dens, List.getD_cons_zero, List.getD_cons_succ, List.cons_append, List.nil_append, List.append_assoc, ltB_true, leB_true, eqB_true, ltB_false, leB_false, eqB_false, Bool.not_eq_true', Bool.not_eq_false', Bool.and_eq_true, Bool.or_eq_true, Bool.and_eq_false_iff, Bool.or_eq_false_iff] at h
    refine vc_need (by simp only [BE.den, IE.den, SV.den, SV.dens, List.getD_cons_zero, List.getD_cons_succ, List.cons_append, List.nil_append, List.append_assoc, ltB_true, leB_true, eqB_true, ltB_false, leB_false, eqB_false, Bool.not_eq_true', Bool.not_eq_false', Bool.and_eq_true, Bool.or_eq_true, Bool.and_eq_false_iff, Bool.or_eq_false_iff, h0.len, List.length_map]; omega) (fun _ => ?_)
    obtain ⟨x, hx⟩ : ∃ x, (Lk S 1)[k]? = some x := ⟨_, List.getElem?_eq_getElem hk⟩
    have hx6 := Lk_mem S 1 x (List.mem_of_getElem? hx)
    have hxd : (Lk S 1).getD k [] = x := by simp [List.getD, hx]
    match x, hx6, hx, hxd with
    | [x0, x1, x2, x3, x4, x5], _, hx, hxd =>
    refine vc_load [x0, x1, x2, x3, x4, x5] [] [] (cI [x0, x1, x2, x3, x4, x5]) (h0.at rfl rfl (by rw [List.getElem?_map, hx]; rfl)) rfl rfl rfl rfl rfl ?_
    conv => arg 5; simp only [List.cons_append, List.nil_append, List.append_nil, Bd.l]
    refine vc_app ((bpart 1 ((S.l.getD 1 0).toNat + 1) (Lk S 1) k q).map cI) (cI ([x0, x1, x2, x3, x4, x5].set 1 (q : Int))) h1 rfl (by rw [List.length_map, hp]; omega) (by rw [List.length_map, hp]; unfold maxLen; omega) (fun v s' hs hv => ?_)
    conv => arg 5; simp only [List.cons_append, List.nil_append, List.append_nil, Bd.l]
    refine vc_need (by simp only [BE.den, IE.den, SV.den, SV.dens, List.getD_cons_zero, List.getD_cons_succ, List.cons_append, List.nil_append, List.append_assoc, ltB_true, leB_true, eqB_true, ltB_false, leB_false, eqB_false, Bool.not_eq_true', Bool.not_eq_false', Bool.and_eq_true, Bool.or_eq_true, Bool.and_eq_false_iff, Bool.or_eq_false_iff]; omega) (fun _ => vc_stop ?_)
    refine ih li_a1_0 _ _ _ hs (by kernel_rfl) ⟨k, q + 1, v0, v, rfl, hk, by omega, rfl, h0.mono hs, ?_⟩ (LM_q hk (by omega))
    rw [bpart_succ, hxd, cI_app]; exact hv
  · simp only [BE.den, IE.den, SV.den, SV.dens, List.getD_cons_zero, List.getD_cons_succ, List.cons_append, List.nil_append, List.append_assoc, ltB_true, leB_true, eqB_true, ltB_false, leB_false, eqB_false, Bool.not_eq_true', Bool.not_eq_false', Bool.and_eq_true, Bool.or_eq_true, Bool.and_eq_false_iff, Bool.or_eq_false_iff] at h
    have hqm : q = (S.l.getD 1 0).toNat + 1 := by omega
    refine vc_need (by simp only [BE.den, IE.den, SV.den, SV.dens, List.getD_cons_zero, List.getD_cons_succ, List.cons_append, List.nil_append, List.append_assoc, ltB_true, leB_true, eqB_true, ltB_false, leB_false, eqB_false, Bool.not_eq_true', Bool.not_eq_false', Bool.and_eq_true, Bool.or_eq_true, Bool.and_eq_false_iff, Bool.or_eq_false_iff]; omega) (fun _ => ?_)
    refine vc_need h0.kind (fun _ => ?_)
    refine vc_ite (fun h2 => vc_stop ?_) (fun h2 => ?_)
    · simp only [BE.den, IE.den, SV.den, SV.dens, List.getD_cons_zero, List.getD_cons_succ, List.cons_append, List.nil_append, List.append_assoc, ltB_true, leB_true, eqB_true, ltB_false, leB_false, eqB_false, Bool.not_eq_true', Bool.not_eq_false', Bool.and_eq_true, Bool.or_eq_true, Bool.and_eq_false_iff, Bool.or_eq_false_iff, h0.len, List.length_map] at h2
      refine ih li_a1_1 _ _ _ (fun _ _ _ h => h) (by kernel_rfl) ⟨k + 1, 0, v0, v1, rfl, by omega, by omega, rfl, h0, ?_⟩ (LM_k hk hq)
      rw [hqm] at h1; rw [bpart_next _ _ _ _ hk]; exact h1
    · simp only [BE.den, IE.den, SV.den, SV.dens, List.getD_cons_zero, List.getD_cons_succ, List.cons_append, List.nil_append, List.append_assoc, ltB_true, leB_true, eqB_true, ltB_false, leB_false, eqB_false, Bool.not_eq_true', Bool.not_eq_false', Bool.and_eq_true, Bool.or_eq_true, Bool.and_eq_false_iff, Bool.or_eq_false_iff, h0.len, List.length_map] at h2
      have hall : bpart 1 ((S.l.getD 1 0).toNat + 1) (Lk S 1) k q = bstep 1 ((S.l.getD 1 0).toNat + 1) (Lk S 1) := by
        rw [hqm, ← bpart_next _ _ _ _ hk, bpart_all _ _ _ _ (by omega)]
      refine vc_need h1.kind (fun _ => ?_)
      refine vc_ite (fun _ => vc_stop ?_) (fun h3 => ?_)
      · refine li_r2 S hS hc li_a1_2 _ _ _ (by kernel_rfl) ⟨0, 0, v1, .slice none 0 0, rfl, Lk_pos S 2, by omega, rfl, ?_, by rw [bpart_zero]; exact SliceIn.nil _ _⟩
        rw [hall] at h1; exact h1
      · exfalso
        simp only [BE.den, IE.den, SV.den, SV.dens, List.getD_cons_zero, List.getD_cons_succ, List.cons_append, List.nil_append, List.append_assoc, ltB_true, leB_true, eqB_true, ltB_false, leB_false, eqB_false, Bool.not_eq_true', Bool.not_eq_false', Bool.and_eq_true, Bool.or_eq_true, Bool.and_eq_false_iff, Bool.or_eq_false_iff, h1.len, List.length_map] at h3
        rw [hall, show bstep 1 ((S.l.getD 1 0).toNat + 1) (Lk S 1) = Lk S 2 from rfl] at h3
        have := Lk_pos S 2
        omega


def LI0 (S : Bd) : List Int → List Bool → List Value → Hp → Prop := fun is bs vs s =>
  ∃ (q : Nat) (v1 : Value), is = (q : Int) :: S.l ∧ q ≤ S.a.toNat + 1 ∧ vs = [v1] ∧ SliceIn s 6 v1 ((brow 0 [0, 0, 0, 0, 0, 0] q).map cI)
theorem li_r0 (S : Bd) (hS : S.Ok) (hc : S.list = Lk S 6) {w0 : World} {s0 : Hp} : ∀ (A : Asg) (g : Cfg) (r : Env) (s : Hp), Go.Sx.fits ⟨0, 0, 0, 0⟩ A li_p0 g = true → LI0 S (A.is.map (IE.den r)) (A.bs.map (BE.den r)) (SV.dens r id A.vs) s →
    Go.Sx.Reach Try.prog 25 (Ret (fun v s' => SliceIn s' 6 v (S.list.map cI)) s0 w0) (fnOf Try.f25).body w0 s0 g r s := by
  refine li_l0 (LI0 S) (fun is _ _ => S.a.toNat + 1 - (is.getD 0 0).toNat) (fun is bs vs js s1 l1 l2 l3 hI ih => ?_)
  obtain ⟨q, v1, rfl, hq, rfl, h1⟩ := hI
  obtain rfl : bs = [] := List.length_eq_zero_iff.1 l2
  have hm := hS.at 0
  have hm' : S.l.getD 0 0 = S.a := rfl
  have hL1 : Lk S 1 = brow 0 [0, 0, 0, 0, 0, 0] (S.a.toNat + 1) := by simp [Lk, bstep, Bd.l]
  unfold li_o0
  conv => arg 5; simp only [Bd.l]
  refine vc_ite (fun h => ?_) (fun h => ?_)
  · simp only [BE.den, IE.den, SV.den, SV.dens, List.getD_cons_zero, List.getD_cons_succ, List.cons_append, List.nil_append, List.append_assoc, ltB_true, leB_true, eqB_true, ltB_false, leB_false, eqB_false, Bool.not_eq_true', Bool.not_eq_false', Bool.and_eq_true, Bool.or_eq_true, Bool.and_eq_false_iff, Bool.or_eq_false_iff] at h
    refine vc_app ((brow 0 [0, 0, 0, 0, 0, 0] q).map cI) (cI (([0, 0, 0, 0, 0, 0] : List Int).set 0 (q : Int))) h1 rfl (by rw [List.length_map, brow_len]; omega) (by rw [List.length_map, brow_len]; unfold maxLen; omega) (fun v s' hs hv => ?_)
    conv => arg 5; simp only [List.cons_append, List.nil_append, List.append_nil, Bd.l]
    refine vc_need (by simp only [BE.den, IE.den, SV.den, SV.dens, List.getD_cons_zero, List.getD_cons_succ, List.cons_append, List.nil_append, List.append_assoc, ltB_true, leB_true, eqB_true, ltB_false, leB_false, eqB_false, Bool.not_eq_true', Bool.not_eq_false', Bool.and_eq_true, Bool.or_eq_true, Bool.and_eq_false_iff, Bool.or_eq_false_iff]; omega) (fun _ => vc_stop ?_)
    refine ih li_a0_0 _ _ _ hs (by kernel_rfl) ⟨q + 1, v, rfl, by omega, rfl, ?_⟩ ?_
    · rw [brow_succ, cI_app]; exact hv
    · show S.a.toNat + 1 - ((q : Int) + 1).toNat < S.a.toNat + 1 - (q : Int).toNat
      omega
  · simp only [BE.den, IE.den, SV.den, SV.dens, List.getD_cons_zero, List.getD_cons_succ, List.cons_append, List.nil_append, List.append_assoc, ltB_true, leB_true, eqB_true, ltB_false, leB_false, eqB_false, Bool.not_eq_true', Bool.not_eq_false', Bool.and_eq_true, Bool.or_eq_true, Bool.and_eq_false_iff, Bool.or_eq_false_iff] at h
    have hqm : q = S.a.toNat + 1 := by omega
    rw [hqm, ← hL1] at h1
    refine vc_need h1.kind (fun _ => ?_)
    refine vc_ite (fun _ => vc_stop ?_) (fun h3 => ?_)
    · exact li_r1 S hS hc li_a0_1 _ _ _ (by kernel_rfl) ⟨0, 0, v1, .slice none 0 0, rfl, Lk_pos S 1, by omega, rfl, h1, by rw [bpart_zero]; exact SliceIn.nil _ _⟩
    · exfalso
      simp only [BE.den, IE.den, SV.den, SV.dens, List.getD_cons_zero, List.getD_cons_succ, List.cons_append, List.nil_append, List.append_assoc, ltB_true, leB_true, eqB_true, ltB_false, leB_false, eqB_false, Bool.not_eq_true', Bool.not_eq_false', Bool.and_eq_true, Bool.or_eq_true, Bool.and_eq_false_iff, Bool.or_eq_false_iff, h1.len, List.length_map] at h3
      have := Lk_pos S 1
      omega

theorem li_ct (S : Bd) (s : Hp) : Ct Try.prog 25 [S.v] s (fun v s' => SliceIn s' 6 v (S.list.map cI)) := by
  refine li_o_ct S.l [] [] rfl rfl rfl rfl (fun w0 => ?_)
  unfold li_o
  conv => arg 5; simp only [Bd.l]
  refine vc_call _ _ [S.cnt] [] [] (fun s1 _ => rcount_ct S s1) (fun _ => rfl) rfl rfl rfl rfl rfl (fun s1 _ => ?_)
  conv => arg 5; simp only [List.cons_append, List.nil_append, List.append_nil, Bd.l]
  refine vc_ite (fun h => ?_) (fun h => vc_stop ?_)
  · simp only [BE.den, IE.den, SV.den, SV.dens, List.getD_cons_zero, List.getD_cons_succ, List.cons_append, List.nil_append, List.append_assoc, ltB_true, leB_true, eqB_true, ltB_false, leB_false, eqB_false, Bool.not_eq_true', Bool.not_eq_false', Bool.and_eq_true, Bool.or_eq_true, Bool.and_eq_false_iff, Bool.or_eq_false_iff] at h
    refine vc_ret (fun β s' hs _ => ?_)
    rw [Bd.list, if_pos h]
    exact SliceIn.nil _ _
  · simp only [BE.den, IE.den, SV.den, SV.dens, List.getD_cons_zero, List.getD_cons_succ, List.cons_append, List.nil_append, List.append_assoc, ltB_true, leB_true, eqB_true, ltB_false, leB_false, eqB_false, Bool.not_eq_true', Bool.not_eq_false', Bool.and_eq_true, Bool.or_eq_true, Bool.and_eq_false_iff, Bool.or_eq_false_iff] at h
    have hc : S.cnt ≠ 0 := h
    exact li_r0 S (Bd.ok_of_cnt hc) (by rw [Bd.list, if_neg hc]) li_a_0 _ _ _ (by kernel_rfl) ⟨0, .slice none 0 0, rfl, by omega, rfl, by simp only [brow, List.range_zero, List.map_nil]; exact SliceIn.nil _ _⟩


end Go.Proofs.Ytbmfegliomkkfaa
