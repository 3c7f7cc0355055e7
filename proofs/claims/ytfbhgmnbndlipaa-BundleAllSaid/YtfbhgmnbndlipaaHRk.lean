/- The reference's Rank and Unrank. -/
import Derived.Test.YtfbhgmnbndlipaaHListL
set_option linter.unusedSimpArgs false
set_option linter.unusedVariables false
namespace Go.Proofs.Ytfbhgmnbndlipaa
open Go.Sx Go.Bun
def rk_o : Out :=
  (.call 35 [(.agg [(.int .i64 (.a 0)), (.int .i64 (.a 1)), (.int .i64 (.a 2)), (.int .i64 (.a 3)), (.int .i64 (.a 4)), (.int .i64 (.a 5))])] [] (.va 0) 0 0 1
  (.stop { todo := [(.code [false, false, true, false, true, true]), (.inLoop [false, false, true, false, true, true]), (.inBlock 0), (.code [true, true, true])], sl := [(.agg [(.int .i64 (.a 0)), (.int .i64 (.a 1)), (.int .i64 (.a 2)), (.int .i64 (.a 3)), (.int .i64 (.a 4)), (.int .i64 (.a 5))]), (.agg [(.int .i64 (.a 6)), (.int .i64 (.a 7)), (.int .i64 (.a 8)), (.int .i64 (.a 9)), (.int .i64 (.a 10)), (.int .i64 (.a 11))]), (.ptr 0 0), (.ptr 1 0), (.int .i64 (.l 0)), (.int .i64 (.l 0)), (.va 0), (.int .i64 (.l 0)), (.agg [(.int .i64 (.a 0)), (.int .i64 (.a 1)), (.int .i64 (.a 2)), (.int .i64 (.a 3)), (.int .i64 (.a 4)), (.int .i64 (.a 5))]), (.va 0), .undef, .undef, .undef, .undef, .undef, .undef, .undef, .undef, .undef, .undef, .undef, .undef, .undef], H := [(.cells [(.int .i64 (.a 0)), (.int .i64 (.a 1)), (.int .i64 (.a 2)), (.int .i64 (.a 3)), (.int .i64 (.a 4)), (.int .i64 (.a 5))] 23 false), (.cells [(.int .i64 (.a 6)), (.int .i64 (.a 7)), (.int .i64 (.a 8)), (.int .i64 (.a 9)), (.int .i64 (.a 10)), (.int .i64 (.a 11))] 23 false)], ni := 12, nb := 0, nv := 1, nj := 0 }))
theorem rk_o_eq : run (cx true [[false, false, true, false, true, true]] []) (fnOf Try.f10) 5000 (startCfg Try.f10.ntmps [b6 0, b6 6] 12 0 0) = rk_o := by kernel_rfl
theorem rk_o_ct {Q : Value → Hp → Prop} {s : Hp} (i : List Int) (b : List Bool) (v : List Value) (hi : i.length = 12) (hb : b.length = 0) (hv : v.length = 0) (hok : v.all fineV = true)
    (h : ∀ w0, VC Try.prog Q (Go.Sx.Reach Try.prog 10 (Ret Q s w0) (fnOf Try.f10).body w0 s) rk_o ⟨i, b, v, []⟩ s) : Ct Try.prog 10 (SV.dens ⟨i, b, v, []⟩ id [b6 0, b6 6]) s Q := by
  refine ct_run (fn := fnOf Try.f10) (progOk true [[false, false, true, false, true, true]] []) Try.func10 rfl rfl 5000 (fun x hx => List.all_eq_true.1 hok x hx) rfl (fun w0 => ?_)
  rw [hi, hb, hv, rk_o_eq]
  exact h w0
def rk_a_0 : Asg :=
  ⟨[(.l 0), (.a 0), (.a 1), (.a 2), (.a 3), (.a 4), (.a 5), (.a 6), (.a 7), (.a 8), (.a 9), (.a 10), (.a 11)], [], [(.va 0)], [(.agg [(.int .i64 (.a 0)), (.int .i64 (.a 1)), (.int .i64 (.a 2)), (.int .i64 (.a 3)), (.int .i64 (.a 4)), (.int .i64 (.a 5))]), (.agg [(.int .i64 (.a 6)), (.int .i64 (.a 7)), (.int .i64 (.a 8)), (.int .i64 (.a 9)), (.int .i64 (.a 10)), (.int .i64 (.a 11))]), (.agg [(.int .i64 (.a 0)), (.int .i64 (.a 1)), (.int .i64 (.a 2)), (.int .i64 (.a 3)), (.int .i64 (.a 4)), (.int .i64 (.a 5))]), (.va 0), .undef, .undef, .undef, .undef, .undef, .undef, .undef, .undef, .undef, .undef, .undef, .undef]⟩
def rk_p0 : Cfg :=
  { todo := [(.code [false, false, true, false, true, true]), (.inLoop [false, false, true, false, true, true]), (.inBlock 0), (.code [true, true, true])], sl := [(.junk 0), (.junk 1), (.ptr 0 0), (.ptr 1 0), (.int .i64 (.l 0)), (.int .i64 (.l 0)), (.va 0), (.int .i64 (.a 0)), (.junk 2), (.junk 3), (.junk 4), (.junk 5), (.junk 6), (.junk 7), (.junk 8), (.junk 9), (.junk 10), (.junk 11), (.junk 12), (.junk 13), (.junk 14), (.junk 15), .undef], H := [(.cells [(.int .i64 (.a 1)), (.int .i64 (.a 2)), (.int .i64 (.a 3)), (.int .i64 (.a 4)), (.int .i64 (.a 5)), (.int .i64 (.a 6))] 23 false), (.cells [(.int .i64 (.a 7)), (.int .i64 (.a 8)), (.int .i64 (.a 9)), (.int .i64 (.a 10)), (.int .i64 (.a 11)), (.int .i64 (.a 12))] 23 false)], ni := 13, nb := 0, nv := 1, nj := 16 }
def rk_o0 : Out :=
  (.need (.is 0 0)
  (.ite (.lt (.a 0) (.slen 0))
  (.need (.and (.le (.l 0) (.a 0)) (.lt (.a 0) (.slen 0)))
  (.load (.ea 0 (.a 0) 6 0) [(.int .i64 (.a 13)), (.int .i64 (.a 14)), (.int .i64 (.a 15)), (.int .i64 (.a 16)), (.int .i64 (.a 17)), (.int .i64 (.a 18))] 6 0 0
  (.ite (.and (.eq (.a 13) (.a 7)) (.and (.eq (.a 14) (.a 8)) (.and (.eq (.a 15) (.a 9)) (.and (.eq (.a 16) (.a 10)) (.and (.eq (.a 17) (.a 11)) (.eq (.a 18) (.a 12)))))))
  (.ret (.tup [(.int .i64 (.a 0)), (.int .i64 (.l 0))]) [])
  (.need (.and (.le (.l (-9223372036854775808)) (.add (.a 0) (.l 1))) (.le (.add (.a 0) (.l 1)) (.l 9223372036854775807)))
  (.stop { todo := [(.code [false, false, true, false, true, true]), (.inLoop [false, false, true, false, true, true]), (.inBlock 0), (.code [true, true, true])], sl := [(.junk 0), (.junk 1), (.ptr 0 0), (.ptr 1 0), (.int .i64 (.l 0)), (.int .i64 (.l 0)), (.va 0), (.int .i64 (.add (.a 0) (.l 1))), (.junk 2), (.junk 3), (.int .i64 (.a 0)), (.va 0), (.int .i64 (.slen 0)), (.bool (.lt (.a 0) (.slen 0))), (.int .i64 (.a 0)), (.int .i64 (.add (.a 0) (.l 1))), (.va 0), (.int .i64 (.a 0)), (.ea 0 (.a 0) 6 0), (.agg [(.int .i64 (.a 13)), (.int .i64 (.a 14)), (.int .i64 (.a 15)), (.int .i64 (.a 16)), (.int .i64 (.a 17)), (.int .i64 (.a 18))]), (.agg [(.int .i64 (.a 7)), (.int .i64 (.a 8)), (.int .i64 (.a 9)), (.int .i64 (.a 10)), (.int .i64 (.a 11)), (.int .i64 (.a 12))]), (.bool (.and (.eq (.a 13) (.a 7)) (.and (.eq (.a 14) (.a 8)) (.and (.eq (.a 15) (.a 9)) (.and (.eq (.a 16) (.a 10)) (.and (.eq (.a 17) (.a 11)) (.eq (.a 18) (.a 12)))))))), .undef], H := [(.cells [(.int .i64 (.a 1)), (.int .i64 (.a 2)), (.int .i64 (.a 3)), (.int .i64 (.a 4)), (.int .i64 (.a 5)), (.int .i64 (.a 6))] 23 false), (.cells [(.int .i64 (.a 7)), (.int .i64 (.a 8)), (.int .i64 (.a 9)), (.int .i64 (.a 10)), (.int .i64 (.a 11)), (.int .i64 (.a 12))] 23 false)], ni := 19, nb := 0, nv := 1, nj := 16 })))))
  (.ret (.tup [(.int .i64 (.l 0)), (.int .i64 (.l 4))]) [])))
theorem rk_o0_eq : run (cx true [[false, false, true, false, true, true]] []) (fnOf Try.f10) 5000 rk_p0 = rk_o0 := by kernel_rfl
theorem rk_l0 {Q : Value → Hp → Prop} {w0 : World} {s0 : Hp} (I : List Int → List Bool → List Value → Hp → Prop) (m : List Int → List Bool → List Value → Nat)
    (round : ∀ is bs vs js s1, is.length = 13 → bs.length = 0 → vs.length = 1 → I is bs vs s1 →
      (∀ (A : Asg) g r s, s1.le s → Go.Sx.fits ⟨0, 0, 0, 0⟩ A rk_p0 g = true → I (A.is.map (IE.den r)) (A.bs.map (BE.den r)) (SV.dens r id A.vs) s → m (A.is.map (IE.den r)) (A.bs.map (BE.den r)) (SV.dens r id A.vs) < m is bs vs →
        Go.Sx.Reach Try.prog 10 (Ret Q s0 w0) (fnOf Try.f10).body w0 s0 g r s) → VC Try.prog Q (Go.Sx.Reach Try.prog 10 (Ret Q s0 w0) (fnOf Try.f10).body w0 s0) rk_o0 ⟨is, bs, vs, js⟩ s1) :
    ∀ (A : Asg) (g : Cfg) (r : Env) (s : Hp), Go.Sx.fits ⟨0, 0, 0, 0⟩ A rk_p0 g = true → I (A.is.map (IE.den r)) (A.bs.map (BE.den r)) (SV.dens r id A.vs) s → Go.Sx.Reach Try.prog 10 (Ret Q s0 w0) (fnOf Try.f10).body w0 s0 g r s :=
  loop0 (fn := fnOf Try.f10) (progOk true [[false, false, true, false, true, true]] []) Try.func10 rfl 5000 rk_p0 I m (fun _ _ _ _ h => by cases h) (fun is bs vs js s1 h1 h2 h3 _ h ih => by
    rw [rk_o0_eq]
    exact round is bs vs js s1 h1 h2 h3 h ih)
def rk_a0_0 : Asg :=
  ⟨[(.add (.a 0) (.l 1)), (.a 1), (.a 2), (.a 3), (.a 4), (.a 5), (.a 6), (.a 7), (.a 8), (.a 9), (.a 10), (.a 11), (.a 12)], [], [(.va 0)], [(.junk 0), (.junk 1), (.junk 2), (.junk 3), (.int .i64 (.a 0)), (.va 0), (.int .i64 (.slen 0)), (.bool (.lt (.a 0) (.slen 0))), (.int .i64 (.a 0)), (.int .i64 (.add (.a 0) (.l 1))), (.va 0), (.int .i64 (.a 0)), (.ea 0 (.a 0) 6 0), (.agg [(.int .i64 (.a 13)), (.int .i64 (.a 14)), (.int .i64 (.a 15)), (.int .i64 (.a 16)), (.int .i64 (.a 17)), (.int .i64 (.a 18))]), (.agg [(.int .i64 (.a 7)), (.int .i64 (.a 8)), (.int .i64 (.a 9)), (.int .i64 (.a 10)), (.int .i64 (.a 11)), (.int .i64 (.a 12))]), (.bool (.and (.eq (.a 13) (.a 7)) (.and (.eq (.a 14) (.a 8)) (.and (.eq (.a 15) (.a 9)) (.and (.eq (.a 16) (.a 10)) (.and (.eq (.a 17) (.a 11)) (.eq (.a 18) (.a 12))))))))]⟩


def RkQ (S b : Bd) : Value → Hp → Prop := fun v _ =>
  (∃ i : Nat, S.list[i]? = some b.l ∧ v = .tuple #[.int .i64 (i : Int), .int .i64 0]) ∨ ((∀ i : Nat, S.list[i]? ≠ some b.l) ∧ v = .tuple #[.int .i64 0, .int .i64 4])
theorem list_le (S : Bd) : S.list.length ≤ 15625 := by
  unfold Bd.list
  split
  · simp
  · rename_i h
    exact Lk_le S (Bd.ok_of_cnt h) 6
theorem list_mem (S : Bd) : ∀ x ∈ S.list, x.length = 6 := by
  unfold Bd.list
  split
  · simp
  · exact Lk_mem S 6
def RkI (S b : Bd) : List Int → List Bool → List Value → Hp → Prop := fun is bs vs s =>
  ∃ (i : Nat) (v : Value), is = (i : Int) :: (S.l ++ b.l) ∧ vs = [v] ∧ i ≤ S.list.length ∧ SliceIn s 6 v (S.list.map cI) ∧ ∀ j, j < i → S.list[j]? ≠ some b.l

theorem rk_r0 (S b : Bd) {w0 : World} {s0 : Hp} : ∀ (A : Asg) (g : Cfg) (r : Env) (s : Hp), Go.Sx.fits ⟨0, 0, 0, 0⟩ A rk_p0 g = true → RkI S b (A.is.map (IE.den r)) (A.bs.map (BE.den r)) (SV.dens r id A.vs) s →
    Go.Sx.Reach Try.prog 10 (Ret (RkQ S b) s0 w0) (fnOf Try.f10).body w0 s0 g r s := by
  refine rk_l0 (RkI S b) (fun is _ _ => S.list.length - (is.getD 0 0).toNat) (fun is bs vs js s1 l1 l2 l3 hI ih => ?_)
  obtain ⟨i, v, rfl, rfl, hi, h0, hno⟩ := hI
  obtain rfl : bs = [] := List.length_eq_zero_iff.1 l2
  have hle := list_le S
  unfold rk_o0
  conv => arg 5; simp only [Bd.l, List.cons_append, List.nil_append]
  refine vc_need h0.kind (fun _ => ?_)
  refine vc_ite (fun h => ?_) (fun h => ?_)
  · simp only [BE.den, IE.den, SV.den, SV.dens, List.getD_cons_zero, List.getD_cons_succ, List.cons_append, List.nil_append, List.append_assoc, ltB_true, leB_true, eqB_true, ltB_false, leB_false, eqB_false, Bool.not_eq_true', Bool.not_eq_false', Bool.and_eq_true, Bool.or_eq_true, Bool.and_eq_false_iff, Bool.or_eq_false_iff, h0.len, List.length_map] at h
    refine vc_need (by simp only [BE.den, IE.den, SV.den, SV.dens, List.getD_cons_zero, List.getD_cons_succ, List.cons_append, List.nil_append, List.append_assoc, ltB_true, leB_true, eqB_true, ltB_false, leB_false, eqB_false, Bool.not_eq_true', Bool.not_eq_false', Bool.and_eq_true, Bool.or_eq_true, Bool.and_eq_false_iff, Bool.or_eq_false_iff, h0.len, List.length_map]; omega) (fun _ => ?_)
    obtain ⟨x, hx⟩ : ∃ x, S.list[i]? = some x := ⟨_, List.getElem?_eq_getElem (by omega)⟩
    have hx6 := list_mem S x (List.mem_of_getElem? hx)
    match x, hx6, hx with
    | [x0, x1, x2, x3, x4, x5], _, hx =>
    refine vc_load [x0, x1, x2, x3, x4, x5] [] [] (cI [x0, x1, x2, x3, x4, x5]) (h0.at rfl rfl (by rw [List.getElem?_map, hx]; rfl)) rfl rfl rfl rfl rfl ?_
    conv => arg 5; simp only [List.cons_append, List.nil_append, List.append_nil, Bd.l]
    refine vc_ite (fun h => ?_) (fun h => ?_)
    · simp only [BE.den, IE.den, SV.den, SV.dens, List.getD_cons_zero, List.getD_cons_succ, List.cons_append, List.nil_append, List.append_assoc, ltB_true, leB_true, eqB_true, ltB_false, leB_false, eqB_false, Bool.not_eq_true', Bool.not_eq_false', Bool.and_eq_true, Bool.or_eq_true, Bool.and_eq_false_iff, Bool.or_eq_false_iff] at h
      obtain ⟨rfl, rfl, rfl, rfl, rfl, rfl⟩ := h
      exact vc_ret (fun β s' hs _ => Or.inl ⟨i, hx, rfl⟩)
    · simp only [BE.den, IE.den, SV.den, SV.dens, List.getD_cons_zero, List.getD_cons_succ, List.cons_append, List.nil_append, List.append_assoc, ltB_true, leB_true, eqB_true, ltB_false, leB_false, eqB_false, Bool.not_eq_true', Bool.not_eq_false', Bool.and_eq_true, Bool.or_eq_true, Bool.and_eq_false_iff, Bool.or_eq_false_iff] at h
      refine vc_need (by simp only [BE.den, IE.den, SV.den, SV.dens, List.getD_cons_zero, List.getD_cons_succ, List.cons_append, List.nil_append, List.append_assoc, ltB_true, leB_true, eqB_true, ltB_false, leB_false, eqB_false, Bool.not_eq_true', Bool.not_eq_false', Bool.and_eq_true, Bool.or_eq_true, Bool.and_eq_false_iff, Bool.or_eq_false_iff]; omega) (fun _ => vc_stop ?_)
      refine ih rk_a0_0 _ _ _ (fun _ _ _ h => h) (by kernel_rfl) ⟨i + 1, v, rfl, rfl, by omega, h0, fun j hj => ?_⟩ ?_
      · rcases Nat.lt_succ_iff_lt_or_eq.1 hj with hj | rfl
        · exact hno j hj
        · rw [hx]
          intro he
          simp only [Option.some.injEq, Bd.l, List.cons.injEq] at he
          omega
      · show S.list.length - ((i : Int) + 1).toNat < S.list.length - (i : Int).toNat
        omega
  · simp only [BE.den, IE.den, SV.den, SV.dens, List.getD_cons_zero, List.getD_cons_succ, List.cons_append, List.nil_append, List.append_assoc, ltB_true, leB_true, eqB_true, ltB_false, leB_false, eqB_false, Bool.not_eq_true', Bool.not_eq_false', Bool.and_eq_true, Bool.or_eq_true, Bool.and_eq_false_iff, Bool.or_eq_false_iff, h0.len, List.length_map] at h
    refine vc_ret (fun β s' hs _ => Or.inr ⟨fun j => ?_, rfl⟩)
    by_cases hj : j < i
    · exact hno j hj
    · rw [List.getElem?_eq_none (by omega)]; simp

theorem rk_ct (S b : Bd) (s : Hp) : Ct Try.prog 10 [S.v, b.v] s (RkQ S b) := by
  refine rk_o_ct (S.l ++ b.l) [] [] rfl rfl rfl rfl (fun w0 => ?_)
  unfold rk_o
  conv => arg 5; simp only [Bd.l, List.cons_append, List.nil_append]
  refine vc_callS _ _ _ (fun s1 _ => li_ct S s1) (fun _ => rfl) rfl (fun v s1 _ h0 => vc_stop ?_)
  exact rk_r0 S b rk_a_0 _ _ _ (by kernel_rfl) ⟨0, v, rfl, rfl, Nat.zero_le _, h0, by omega⟩

def o_runrank : Out :=
  (.call 35 [(.agg [(.int .i64 (.a 0)), (.int .i64 (.a 1)), (.int .i64 (.a 2)), (.int .i64 (.a 3)), (.int .i64 (.a 4)), (.int .i64 (.a 5))])] [] (.va 0) 0 0 1
  (.ite (.lt (.a 6) (.l 0))
  (.ret (.tup [(.agg [(.int .i64 (.l 0)), (.int .i64 (.l 0)), (.int .i64 (.l 0)), (.int .i64 (.l 0)), (.int .i64 (.l 0)), (.int .i64 (.l 0))]), (.int .i64 (.l 4))]) [])
  (.need (.is 0 0)
  (.ite (.le (.slen 0) (.a 6))
  (.ret (.tup [(.agg [(.int .i64 (.l 0)), (.int .i64 (.l 0)), (.int .i64 (.l 0)), (.int .i64 (.l 0)), (.int .i64 (.l 0)), (.int .i64 (.l 0))]), (.int .i64 (.l 4))]) [])
  (.need (.and (.le (.l 0) (.a 6)) (.lt (.a 6) (.slen 0)))
  (.load (.ea 0 (.a 6) 6 0) [(.int .i64 (.a 7)), (.int .i64 (.a 8)), (.int .i64 (.a 9)), (.int .i64 (.a 10)), (.int .i64 (.a 11)), (.int .i64 (.a 12))] 6 0 0
  (.ret (.tup [(.agg [(.int .i64 (.a 7)), (.int .i64 (.a 8)), (.int .i64 (.a 9)), (.int .i64 (.a 10)), (.int .i64 (.a 11)), (.int .i64 (.a 12))]), (.int .i64 (.l 0))]) [])))))))
theorem o_runrank_eq : run (cx true [] []) (fnOf Try.f15) 5000 (startCfg Try.f15.ntmps [b6 0, iA 6] 7 0 0) = o_runrank := by kernel_rfl
theorem o_runrank_ct {Q : Value → Hp → Prop} {s : Hp} (i : List Int) (b : List Bool) (v : List Value) (hi : i.length = 7) (hb : b.length = 0) (hv : v.length = 0) (hok : v.all fineV = true)
    (h : ∀ w0, VC Try.prog Q (Go.Sx.Reach Try.prog 15 (Ret Q s w0) (fnOf Try.f15).body w0 s) o_runrank ⟨i, b, v, []⟩ s) : Ct Try.prog 15 (SV.dens ⟨i, b, v, []⟩ id [b6 0, iA 6]) s Q := by
  refine ct_run (fn := fnOf Try.f15) (progOk true [] []) Try.func15 rfl rfl 5000 (fun x hx => List.all_eq_true.1 hok x hx) rfl (fun w0 => ?_)
  rw [hi, hb, hv, o_runrank_eq]
  exact h w0

def UrQ (S : Bd) (n : Int) : Value → Hp → Prop := fun v _ =>
  (∃ b : Bd, 0 ≤ n ∧ S.list[n.toNat]? = some b.l ∧ v = .tuple #[b.v, .int .i64 0]) ∨ ((n < 0 ∨ (S.list.length : Int) ≤ n) ∧ v = .tuple #[Bd.zero.v, .int .i64 4])
theorem ur_ct (S : Bd) (n : Int) (s : Hp) : Ct Try.prog 15 [S.v, .int .i64 n] s (UrQ S n) := by
  refine o_runrank_ct (S.l ++ [n]) [] [] rfl rfl rfl rfl (fun w0 => ?_)
  unfold o_runrank
  conv => arg 5; simp only [Bd.l, List.cons_append, List.nil_append]
  refine vc_callS _ _ _ (fun s1 _ => li_ct S s1) (fun _ => rfl) rfl (fun v s1 _ h0 => ?_)
  conv => arg 5; simp only [List.cons_append, List.nil_append, List.append_nil, Bd.l]
  have hle := list_le S
  refine vc_ite (fun h => ?_) (fun h => ?_)
  · simp only [BE.den, IE.den, SV.den, SV.dens, List.getD_cons_zero, List.getD_cons_succ, List.cons_append, List.nil_append, List.append_assoc, ltB_true, leB_true, eqB_true, ltB_false, leB_false, eqB_false, Bool.not_eq_true', Bool.not_eq_false', Bool.and_eq_true, Bool.or_eq_true, Bool.and_eq_false_iff, Bool.or_eq_false_iff] at h
    exact vc_ret (fun β s' hs _ => Or.inr ⟨.inl h, rfl⟩)
  · simp only [BE.den, IE.den, SV.den, SV.dens, List.getD_cons_zero, List.getD_cons_succ, List.cons_append, List.nil_append, List.append_assoc, ltB_true, leB_true, eqB_true, ltB_false, leB_false, eqB_false, Bool.not_eq_true', Bool.not_eq_false', Bool.and_eq_true, Bool.or_eq_true, Bool.and_eq_false_iff, Bool.or_eq_false_iff] at h
    refine vc_need h0.kind (fun _ => ?_)
    refine vc_ite (fun h2 => ?_) (fun h2 => ?_)
    · simp only [BE.den, IE.den, SV.den, SV.dens, List.getD_cons_zero, List.getD_cons_succ, List.cons_append, List.nil_append, List.append_assoc, ltB_true, leB_true, eqB_true, ltB_false, leB_false, eqB_false, Bool.not_eq_true', Bool.not_eq_false', Bool.and_eq_true, Bool.or_eq_true, Bool.and_eq_false_iff, Bool.or_eq_false_iff, h0.len, List.length_map] at h2
      exact vc_ret (fun β s' hs _ => Or.inr ⟨.inr h2, rfl⟩)
    · simp only [BE.den, IE.den, SV.den, SV.dens, List.getD_cons_zero, List.getD_cons_succ, List.cons_append, List.nil_append, List.append_assoc, ltB_true, leB_true, eqB_true, ltB_false, leB_false, eqB_false, Bool.not_eq_true', Bool.not_eq_false', Bool.and_eq_true, Bool.or_eq_true, Bool.and_eq_false_iff, Bool.or_eq_false_iff, h0.len, List.length_map] at h2
      refine vc_need (by simp only [BE.den, IE.den, SV.den, SV.dens, List.getD_cons_zero, List.getD_cons_succ, List.cons_append, List.nil_append, List.append_assoc, ltB_true, leB_true, eqB_true, ltB_false, leB_false, eqB_false, Bool.not_eq_true', Bool.not_eq_false', Bool.and_eq_true, Bool.or_eq_true, Bool.and_eq_false_iff, Bool.or_eq_false_iff, h0.len, List.length_map]; omega) (fun _ => ?_)
      obtain ⟨x, hx⟩ : ∃ x, S.list[n.toNat]? = some x := ⟨_, List.getElem?_eq_getElem (by omega)⟩
      have hx6 := list_mem S x (List.mem_of_getElem? hx)
      match x, hx6, hx with
      | [x0, x1, x2, x3, x4, x5], _, hx =>
      refine vc_load [x0, x1, x2, x3, x4, x5] [] [] (cI [x0, x1, x2, x3, x4, x5]) (h0.at (k := n.toNat) rfl (by show n = _; omega) (by rw [List.getElem?_map, hx]; rfl)) rfl rfl rfl rfl rfl ?_
      exact vc_ret (fun β s' hs _ => Or.inl ⟨⟨x0, x1, x2, x3, x4, x5⟩, by omega, hx, rfl⟩)
end Go.Proofs.Ytfbhgmnbndlipaa
