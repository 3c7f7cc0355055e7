/- Path; what the laws' examples are. -/
import Derived.Test.YtbmfegliomkkfaaHD15B
import Derived.Test.YtbmfegliomkkfaaHBunE
set_option linter.unusedSimpArgs false
set_option linter.unusedVariables false
namespace Go.Proofs.Ytbmfegliomkkfaa
open Go.Sx Go.Bun
abbrev ChIn (s : Hp) (v : Value) (C : List Ch) : Prop := SliceIn s 12 v (C.map Ch.cs)

def pa_o : Out :=
  (.need (.is 0 1)
  (.stop { todo := [(.code [false, false, true, false, true, true]), (.inLoop [false, false, true, false, true, true]), (.inBlock 0), (.code [true, true, true])], sl := [(.va 0), (.agg [(.int .i64 (.a 0)), (.int .i64 (.a 1)), (.int .i64 (.a 2)), (.int .i64 (.a 3)), (.int .i64 (.a 4)), (.int .i64 (.a 5))]), (.va 1), .undef, (.ptr 0 0), .undef, .nilS, .nilS, .undef, .undef, .undef, .undef, (.va 1), (.int .i64 (.slen 1)), (.int .i64 (.l 0)), .undef, .undef, .undef, .undef, .undef, .undef, .undef, .undef, .undef, .undef, .undef, .undef, .undef, .undef, .undef, .undef, .undef, .undef], H := [(.cells [(.int .i64 (.a 0)), (.int .i64 (.a 1)), (.int .i64 (.a 2)), (.int .i64 (.a 3)), (.int .i64 (.a 4)), (.int .i64 (.a 5))] 26 false)], ni := 6, nb := 0, nv := 2, nj := 0 }))
theorem pa_o_eq : run (cx true [[false, false, true, false, true, true]] []) (fnOf Try.f26) 5000 (startCfg Try.f26.ntmps [.va 0, b6 0, .va 1] 6 0 2) = pa_o := by kernel_rfl
theorem pa_o_ct {Q : Value → Hp → Prop} {s : Hp} (i : List Int) (b : List Bool) (v : List Value) (hi : i.length = 6) (hb : b.length = 0) (hv : v.length = 2) (hok : v.all fineV = true)
    (h : ∀ w0, VC Try.prog Q (Go.Sx.Reach Try.prog 26 (Ret Q s w0) (fnOf Try.f26).body w0 s) pa_o ⟨i, b, v, []⟩ s) : Ct Try.prog 26 (SV.dens ⟨i, b, v, []⟩ id [.va 0, b6 0, .va 1]) s Q := by
  refine ct_run (fn := fnOf Try.f26) (progOk true [[false, false, true, false, true, true]] []) Try.func26 rfl rfl 5000 (fun x hx => List.all_eq_true.1 hok x hx) rfl (fun w0 => ?_)
  rw [hi, hb, hv, pa_o_eq]
  exact h w0
def pa_a_0 : Asg :=
  ⟨[(.a 0), (.a 1), (.a 2), (.a 3), (.a 4), (.a 5), (.slen 1), (.l 0)], [], [(.va 0), (.va 1), .nilS], [.undef, .undef, .undef, .undef, .undef, .undef, .undef, .undef, .undef, .undef, .undef, .undef, .undef, .undef, .undef, .undef, .undef, .undef, .undef, .undef]⟩
def pa_p0 : Cfg :=
  { todo := [(.code [false, false, true, false, true, true]), (.inLoop [false, false, true, false, true, true]), (.inBlock 0), (.code [true, true, true])], sl := [(.va 0), (.agg [(.int .i64 (.a 0)), (.int .i64 (.a 1)), (.int .i64 (.a 2)), (.int .i64 (.a 3)), (.int .i64 (.a 4)), (.int .i64 (.a 5))]), (.va 1), .undef, (.ptr 0 0), .undef, .nilS, (.va 2), .undef, (.junk 0), (.junk 1), (.junk 2), (.va 1), (.int .i64 (.a 6)), (.int .i64 (.a 7)), (.junk 3), (.junk 4), (.junk 5), (.junk 6), (.junk 7), (.junk 8), (.junk 9), (.junk 10), (.junk 11), (.junk 12), (.junk 13), (.junk 14), (.junk 15), (.junk 16), (.junk 17), (.junk 18), (.junk 19), .undef], H := [(.cells [(.int .i64 (.a 0)), (.int .i64 (.a 1)), (.int .i64 (.a 2)), (.int .i64 (.a 3)), (.int .i64 (.a 4)), (.int .i64 (.a 5))] 26 false), (.row 2 45 12)], ni := 8, nb := 0, nv := 3, nj := 20 }
def pa_o0 : Out :=
  (.ite (.lt (.a 7) (.a 6))
  (.need (.and (.le (.l 0) (.a 7)) (.lt (.a 7) (.slen 1)))
  (.load (.ea 1 (.a 7) 6 0) [(.int .i64 (.a 8)), (.int .i64 (.a 9)), (.int .i64 (.a 10)), (.int .i64 (.a 11)), (.int .i64 (.a 12)), (.int .i64 (.a 13))] 6 0 0
  (.call 19 [(.va 0), (.agg [(.int .i64 (.a 0)), (.int .i64 (.a 1)), (.int .i64 (.a 2)), (.int .i64 (.a 3)), (.int .i64 (.a 4)), (.int .i64 (.a 5))]), (.agg [(.int .i64 (.a 8)), (.int .i64 (.a 9)), (.int .i64 (.a 10)), (.int .i64 (.a 11)), (.int .i64 (.a 12)), (.int .i64 (.a 13))])] [] (.tup [(.agg [(.int .i64 (.a 14)), (.int .i64 (.a 15)), (.int .i64 (.a 16)), (.int .i64 (.a 17)), (.int .i64 (.a 18)), (.int .i64 (.a 19))]), (.int .i64 (.a 20))]) 7 0 0
  (.app (some 2) (.lit [[(.int .i64 (.a 8)), (.int .i64 (.a 9)), (.int .i64 (.a 10)), (.int .i64 (.a 11)), (.int .i64 (.a 12)), (.int .i64 (.a 13)), (.int .i64 (.a 14)), (.int .i64 (.a 15)), (.int .i64 (.a 16)), (.int .i64 (.a 17)), (.int .i64 (.a 18)), (.int .i64 (.a 19))]]) 12 96
  (.need (.and (.le (.l (-9223372036854775808)) (.add (.a 7) (.l 1))) (.le (.add (.a 7) (.l 1)) (.l 9223372036854775807)))
  (.stop { todo := [(.code [false, false, true, false, true, true]), (.inLoop [false, false, true, false, true, true]), (.inBlock 0), (.code [true, true, true])], sl := [(.va 0), (.agg [(.int .i64 (.a 0)), (.int .i64 (.a 1)), (.int .i64 (.a 2)), (.int .i64 (.a 3)), (.int .i64 (.a 4)), (.int .i64 (.a 5))]), (.va 1), .undef, (.ptr 0 0), .undef, .nilS, (.va 3), .undef, (.ptr 2 0), (.ptr 3 0), (.int .i64 (.a 20)), (.va 1), (.int .i64 (.a 6)), (.int .i64 (.add (.a 7) (.l 1))), (.bool (.lt (.a 7) (.a 6))), (.ea 1 (.a 7) 6 0), (.agg [(.int .i64 (.a 8)), (.int .i64 (.a 9)), (.int .i64 (.a 10)), (.int .i64 (.a 11)), (.int .i64 (.a 12)), (.int .i64 (.a 13))]), (.tup [(.agg [(.int .i64 (.a 14)), (.int .i64 (.a 15)), (.int .i64 (.a 16)), (.int .i64 (.a 17)), (.int .i64 (.a 18)), (.int .i64 (.a 19))]), (.int .i64 (.a 20))]), (.va 0), (.agg [(.int .i64 (.a 0)), (.int .i64 (.a 1)), (.int .i64 (.a 2)), (.int .i64 (.a 3)), (.int .i64 (.a 4)), (.int .i64 (.a 5))]), (.agg [(.int .i64 (.a 8)), (.int .i64 (.a 9)), (.int .i64 (.a 10)), (.int .i64 (.a 11)), (.int .i64 (.a 12)), (.int .i64 (.a 13))]), (.tup [(.agg [(.int .i64 (.a 14)), (.int .i64 (.a 15)), (.int .i64 (.a 16)), (.int .i64 (.a 17)), (.int .i64 (.a 18)), (.int .i64 (.a 19))]), (.int .i64 (.a 20))]), (.agg [(.int .i64 (.a 14)), (.int .i64 (.a 15)), (.int .i64 (.a 16)), (.int .i64 (.a 17)), (.int .i64 (.a 18)), (.int .i64 (.a 19))]), (.int .i64 (.a 20)), (.va 2), (.agg [(.int .i64 (.a 8)), (.int .i64 (.a 9)), (.int .i64 (.a 10)), (.int .i64 (.a 11)), (.int .i64 (.a 12)), (.int .i64 (.a 13))]), (.agg [(.int .i64 (.a 14)), (.int .i64 (.a 15)), (.int .i64 (.a 16)), (.int .i64 (.a 17)), (.int .i64 (.a 18)), (.int .i64 (.a 19))]), (.agg [(.int .i64 (.a 8)), (.int .i64 (.a 9)), (.int .i64 (.a 10)), (.int .i64 (.a 11)), (.int .i64 (.a 12)), (.int .i64 (.a 13)), (.int .i64 (.a 14)), (.int .i64 (.a 15)), (.int .i64 (.a 16)), (.int .i64 (.a 17)), (.int .i64 (.a 18)), (.int .i64 (.a 19))]), (.sl 4 1), (.va 3), (.int .i64 (.add (.a 7) (.l 1))), .undef], H := [(.cells [(.int .i64 (.a 0)), (.int .i64 (.a 1)), (.int .i64 (.a 2)), (.int .i64 (.a 3)), (.int .i64 (.a 4)), (.int .i64 (.a 5))] 26 false), (.row 3 45 12), (.cells [(.int .i64 (.a 8)), (.int .i64 (.a 9)), (.int .i64 (.a 10)), (.int .i64 (.a 11)), (.int .i64 (.a 12)), (.int .i64 (.a 13))] 24 false), (.cells [(.int .i64 (.a 14)), (.int .i64 (.a 15)), (.int .i64 (.a 16)), (.int .i64 (.a 17)), (.int .i64 (.a 18)), (.int .i64 (.a 19))] 26 false), (.cells [(.int .i64 (.a 8)), (.int .i64 (.a 9)), (.int .i64 (.a 10)), (.int .i64 (.a 11)), (.int .i64 (.a 12)), (.int .i64 (.a 13)), (.int .i64 (.a 14)), (.int .i64 (.a 15)), (.int .i64 (.a 16)), (.int .i64 (.a 17)), (.int .i64 (.a 18)), (.int .i64 (.a 19))] 45 false)], ni := 21, nb := 0, nv := 4, nj := 20 }))))))
  (.ret (.va 2) []))
theorem pa_o0_eq : run (cx true [[false, false, true, false, true, true]] []) (fnOf Try.f26) 5000 pa_p0 = pa_o0 := by kernel_rfl
theorem pa_l0 {Q : Value → Hp → Prop} {w0 : World} {s0 : Hp} (I : List Int → List Bool → List Value → Hp → Prop) (m : List Int → List Bool → List Value → Nat)
    (round : ∀ is bs vs js s1, is.length = 8 → bs.length = 0 → vs.length = 3 → I is bs vs s1 →
      (∀ (A : Asg) g r s, s1.le s → Go.Sx.fits ⟨0, 0, 0, 0⟩ A pa_p0 g = true → I (A.is.map (IE.den r)) (A.bs.map (BE.den r)) (SV.dens r id A.vs) s → m (A.is.map (IE.den r)) (A.bs.map (BE.den r)) (SV.dens r id A.vs) < m is bs vs →
        Go.Sx.Reach Try.prog 26 (Ret Q s0 w0) (fnOf Try.f26).body w0 s0 g r s) → VC Try.prog Q (Go.Sx.Reach Try.prog 26 (Ret Q s0 w0) (fnOf Try.f26).body w0 s0) pa_o0 ⟨is, bs, vs, js⟩ s1) :
    ∀ (A : Asg) (g : Cfg) (r : Env) (s : Hp), Go.Sx.fits ⟨0, 0, 0, 0⟩ A pa_p0 g = true → I (A.is.map (IE.den r)) (A.bs.map (BE.den r)) (SV.dens r id A.vs) s → Go.Sx.Reach Try.prog 26 (Ret Q s0 w0) (fnOf Try.f26).body w0 s0 g r s :=
  loop0 (fn := fnOf Try.f26) (progOk true [[false, false, true, false, true, true]] []) Try.func26 rfl 5000 pa_p0 I m (fun _ _ _ _ h => by cases h) (fun is bs vs js s1 h1 h2 h3 _ h ih => by
    rw [pa_o0_eq]
    exact round is bs vs js s1 h1 h2 h3 h ih)
def pa_a0_0 : Asg :=
  ⟨[(.a 0), (.a 1), (.a 2), (.a 3), (.a 4), (.a 5), (.a 6), (.add (.a 7) (.l 1))], [], [(.va 0), (.va 1), (.va 3)], [(.ptr 2 0), (.ptr 3 0), (.int .i64 (.a 20)), (.bool (.lt (.a 7) (.a 6))), (.ea 1 (.a 7) 6 0), (.agg [(.int .i64 (.a 8)), (.int .i64 (.a 9)), (.int .i64 (.a 10)), (.int .i64 (.a 11)), (.int .i64 (.a 12)), (.int .i64 (.a 13))]), (.tup [(.agg [(.int .i64 (.a 14)), (.int .i64 (.a 15)), (.int .i64 (.a 16)), (.int .i64 (.a 17)), (.int .i64 (.a 18)), (.int .i64 (.a 19))]), (.int .i64 (.a 20))]), (.va 0), (.agg [(.int .i64 (.a 0)), (.int .i64 (.a 1)), (.int .i64 (.a 2)), (.int .i64 (.a 3)), (.int .i64 (.a 4)), (.int .i64 (.a 5))]), (.agg [(.int .i64 (.a 8)), (.int .i64 (.a 9)), (.int .i64 (.a 10)), (.int .i64 (.a 11)), (.int .i64 (.a 12)), (.int .i64 (.a 13))]), (.tup [(.agg [(.int .i64 (.a 14)), (.int .i64 (.a 15)), (.int .i64 (.a 16)), (.int .i64 (.a 17)), (.int .i64 (.a 18)), (.int .i64 (.a 19))]), (.int .i64 (.a 20))]), (.agg [(.int .i64 (.a 14)), (.int .i64 (.a 15)), (.int .i64 (.a 16)), (.int .i64 (.a 17)), (.int .i64 (.a 18)), (.int .i64 (.a 19))]), (.int .i64 (.a 20)), (.va 2), (.agg [(.int .i64 (.a 8)), (.int .i64 (.a 9)), (.int .i64 (.a 10)), (.int .i64 (.a 11)), (.int .i64 (.a 12)), (.int .i64 (.a 13))]), (.agg [(.int .i64 (.a 14)), (.int .i64 (.a 15)), (.int .i64 (.a 16)), (.int .i64 (.a 17)), (.int .i64 (.a 18)), (.int .i64 (.a 19))]), (.agg [(.int .i64 (.a 8)), (.int .i64 (.a 9)), (.int .i64 (.a 10)), (.int .i64 (.a 11)), (.int .i64 (.a 12)), (.int .i64 (.a 13)), (.int .i64 (.a 14)), (.int .i64 (.a 15)), (.int .i64 (.a 16)), (.int .i64 (.a 17)), (.int .i64 (.a 18)), (.int .i64 (.a 19))]), (.sl 4 1), (.va 3), (.int .i64 (.add (.a 7) (.l 1)))]⟩

def PaI (L : List Of) (S : Bd) (Ps : List Bd) (lv pv : Value) : List Int → List Bool → List Value → Hp → Prop := fun is bs vs s =>
  ∃ (i : Nat) (out : Value), is = S.l ++ [(Ps.length : Int), (i : Int)] ∧ vs = [lv, pv, out] ∧ i ≤ Ps.length ∧ OfIn s lv L ∧ BdIn s pv Ps ∧ ChIn s out (path L S (Ps.take i))
theorem path_take (L : List Of) (S : Bd) (Ps : List Bd) (i : Nat) (p : Bd) (h : Ps[i]? = some p) : path L S (Ps.take (i + 1)) = path L S (Ps.take i) ++ [⟨p, (best L S p).1⟩] := by
  unfold path
  rw [List.take_add_one, h, Option.toList_some, List.map_append]; rfl
theorem pa_r0 (L : List Of) (hL : L.length ≤ 1000) (S : Bd) (Ps : List Bd) (hP : Ps.length ≤ 1000) (lv pv : Value) {w0 : World} {s0 : Hp} : ∀ (A : Asg) (g : Cfg) (r : Env) (s : Hp), Go.Sx.fits ⟨0, 0, 0, 0⟩ A pa_p0 g = true → PaI L S Ps lv pv (A.is.map (IE.den r)) (A.bs.map (BE.den r)) (SV.dens r id A.vs) s →
    Go.Sx.Reach Try.prog 26 (Ret (fun v s => ChIn s v (path L S Ps)) s0 w0) (fnOf Try.f26).body w0 s0 g r s := by
  refine pa_l0 (PaI L S Ps lv pv) (fun is _ _ => Ps.length - (is.getD 7 0).toNat) (fun is bs vs js s1 l1 l2 l3 hI ih => ?_)
  obtain ⟨i, out, rfl, rfl, hi, h0, h1, h2⟩ := hI
  obtain rfl : bs = [] := List.length_eq_zero_iff.1 l2
  unfold pa_o0
  conv => arg 5; simp only [Bd.l, List.cons_append, List.nil_append]
  refine vc_ite (fun h => ?_) (fun h => ?_) <;> simp only [BE.den, IE.den, SV.den, SV.dens, List.getD_cons_zero, List.getD_cons_succ, List.cons_append, List.nil_append, List.append_assoc, ltB_true, leB_true, eqB_true, ltB_false, leB_false, eqB_false, Bool.not_eq_true', Bool.not_eq_false', Bool.and_eq_true, Bool.or_eq_true, Bool.and_eq_false_iff, Bool.or_eq_false_iff] at h
  · have hlt : i < Ps.length := by omega
    refine vc_need (by simp only [BE.den, IE.den, SV.den, SV.dens, List.getD_cons_zero, List.getD_cons_succ, List.cons_append, List.nil_append, List.append_assoc, ltB_true, leB_true, eqB_true, ltB_false, leB_false, eqB_false, Bool.not_eq_true', Bool.not_eq_false', Bool.and_eq_true, Bool.or_eq_true, Bool.and_eq_false_iff, Bool.or_eq_false_iff, h1.len, List.length_map]; omega) (fun _ => ?_)
    obtain ⟨p, hp⟩ : ∃ p, Ps[i]? = some p := ⟨_, List.getElem?_eq_getElem hlt⟩
    refine vc_load p.l [] [] p.cs (h1.at rfl rfl (by rw [List.getElem?_map, hp]; rfl)) rfl rfl rfl rfl rfl ?_
    conv => arg 5; simp only [List.cons_append, List.nil_append, List.append_nil, Bd.l]
    have hpt := path_take L S Ps i p hp
    obtain ⟨x, hx⟩ : ∃ x, x = best L S p := ⟨_, rfl⟩
    rw [← hx] at hpt
    obtain ⟨b, m⟩ := x
    have hct : ∀ s2, s1.le s2 → Ct Try.prog 19 [lv, S.v, p.v] s2 (fun v _ => v = bestV (b, m)) := fun s2 hs2 => by rw [hx]; exact best_ct L hL lv S p s2 (h0.mono hs2)
    refine vc_call _ _ (b.l ++ [m]) [] [] hct (fun _ => rfl) rfl rfl rfl rfl rfl (fun s2 hs2 => ?_)
    conv => arg 5; simp only [List.cons_append, List.nil_append, List.append_nil, Bd.l]
    have hpl : (path L S (Ps.take i)).length ≤ 1000 := by
      unfold path; rw [List.length_map]; have := List.length_take_le i Ps; omega
    refine vc_app ((path L S (Ps.take i)).map Ch.cs) (Ch.cs ⟨p, b⟩) (h2.mono hs2) rfl (by rw [List.length_map]; omega) (by rw [List.length_map]; simp only [maxLen]; omega) (fun g' s4 hs4 hg' => ?_)
    conv => arg 5; simp only [List.cons_append, List.nil_append, List.append_nil]
    refine vc_need (by simp only [BE.den, IE.den, SV.den, SV.dens, List.getD_cons_zero, List.getD_cons_succ, List.cons_append, List.nil_append, List.append_assoc, ltB_true, leB_true, eqB_true, ltB_false, leB_false, eqB_false, Bool.not_eq_true', Bool.not_eq_false', Bool.and_eq_true, Bool.or_eq_true, Bool.and_eq_false_iff, Bool.or_eq_false_iff]; omega) (fun _ => vc_stop ?_)
    refine ih pa_a0_0 _ _ _ (Hp.le_trans hs2 hs4) (by kernel_rfl) ⟨i + 1, g', rfl, rfl, by omega, (h0.mono hs2).mono hs4, (h1.mono hs2).mono hs4, ?_⟩ (show Ps.length - ((i : Int) + 1).toNat < Ps.length - (i : Int).toNat by omega)
    rw [hpt]
    unfold ChIn
    rw [List.map_append]
    exact hg'
  · refine vc_ret (fun β s' hs _ => ?_)
    have : Ps.take i = Ps := List.take_of_length_le (by omega)
    rw [this] at h2
    exact h2.mono hs
theorem path_ct (L : List Of) (hL : L.length ≤ 1000) (S : Bd) (Ps : List Bd) (hP : Ps.length ≤ 1000) (lv pv : Value) (s : Hp) (hl : OfIn s lv L) (hp : BdIn s pv Ps) : Ct Try.prog 26 [lv, S.v, pv] s (fun v s' => ChIn s' v (path L S Ps)) := by
  refine pa_o_ct S.l [] [lv, pv] rfl rfl rfl (by simp [hl.fine, hp.fine]) (fun w0 => ?_)
  unfold pa_o
  refine vc_need hp.kind (fun _ => vc_stop ?_)
  refine pa_r0 L hL S Ps hP lv pv pa_a_0 _ _ _ (by kernel_rfl) ⟨0, .slice none 0 0, ?_, rfl, Nat.zero_le _, hl, hp, SliceIn.nil _ _⟩
  have hn := hp.len
  simp only [List.length_map] at hn
  show [_, _, _, _, _, _, sliceLen pv, _] = _
  rw [hn]; rfl

def rp_o : Out :=
  (.stop { todo := [(.code [false, false, true, false, true, true]), (.inLoop [false, false, true, false, true, true]), (.inBlock 0), (.code [true, true, true])], sl := [(.va 0), (.agg [(.int .i64 (.a 0)), (.int .i64 (.a 1)), (.int .i64 (.a 2)), (.int .i64 (.a 3)), (.int .i64 (.a 4)), (.int .i64 (.a 5))]), (.va 1), .undef, (.ptr 0 0), .undef, .nilS, .nilS, (.int .i64 (.l 0)), .undef, .undef, .undef, .undef, .undef, .undef, .undef, .undef, .undef, .undef, .undef, .undef, .undef, .undef, .undef, .undef, .undef, .undef, .undef, .undef, .undef, .undef, .undef, .undef, .undef, .undef, .undef, .undef], H := [(.cells [(.int .i64 (.a 0)), (.int .i64 (.a 1)), (.int .i64 (.a 2)), (.int .i64 (.a 3)), (.int .i64 (.a 4)), (.int .i64 (.a 5))] 26 false)], ni := 6, nb := 0, nv := 2, nj := 0 })
theorem rp_o_eq : run (cx true [[false, false, true, false, true, true]] []) (fnOf Try.f27) 5000 (startCfg Try.f27.ntmps [.va 0, b6 0, .va 1] 6 0 2) = rp_o := by kernel_rfl
theorem rp_o_ct {Q : Value → Hp → Prop} {s : Hp} (i : List Int) (b : List Bool) (v : List Value) (hi : i.length = 6) (hb : b.length = 0) (hv : v.length = 2) (hok : v.all fineV = true)
    (h : ∀ w0, VC Try.prog Q (Go.Sx.Reach Try.prog 27 (Ret Q s w0) (fnOf Try.f27).body w0 s) rp_o ⟨i, b, v, []⟩ s) : Ct Try.prog 27 (SV.dens ⟨i, b, v, []⟩ id [.va 0, b6 0, .va 1]) s Q := by
  refine ct_run (fn := fnOf Try.f27) (progOk true [[false, false, true, false, true, true]] []) Try.func27 rfl rfl 5000 (fun x hx => List.all_eq_true.1 hok x hx) rfl (fun w0 => ?_)
  rw [hi, hb, hv, rp_o_eq]
  exact h w0
def rp_a_0 : Asg :=
  ⟨[(.a 0), (.a 1), (.a 2), (.a 3), (.a 4), (.a 5), (.l 0)], [], [(.va 0), (.va 1), .nilS], [.undef, .undef, .undef, .undef, .undef, .undef, .undef, .undef, .undef, .undef, .undef, .undef, .undef, .undef, .undef, .undef, .undef, .undef, .undef, .undef, .undef, .undef, .undef, .undef, .undef, .undef, .undef]⟩
def rp_p0 : Cfg :=
  { todo := [(.code [false, false, true, false, true, true]), (.inLoop [false, false, true, false, true, true]), (.inBlock 0), (.code [true, true, true])], sl := [(.va 0), (.agg [(.int .i64 (.a 0)), (.int .i64 (.a 1)), (.int .i64 (.a 2)), (.int .i64 (.a 3)), (.int .i64 (.a 4)), (.int .i64 (.a 5))]), (.va 1), .undef, (.ptr 0 0), .undef, .nilS, (.va 2), (.int .i64 (.a 6)), (.junk 0), (.junk 1), (.junk 2), (.junk 3), (.junk 4), (.junk 5), (.junk 6), (.junk 7), (.junk 8), (.junk 9), (.junk 10), (.junk 11), (.junk 12), (.junk 13), (.junk 14), (.junk 15), (.junk 16), (.junk 17), (.junk 18), (.junk 19), (.junk 20), (.junk 21), (.junk 22), (.junk 23), (.junk 24), (.junk 25), (.junk 26), .undef], H := [(.cells [(.int .i64 (.a 0)), (.int .i64 (.a 1)), (.int .i64 (.a 2)), (.int .i64 (.a 3)), (.int .i64 (.a 4)), (.int .i64 (.a 5))] 26 false), (.row 2 45 12)], ni := 7, nb := 0, nv := 3, nj := 27 }
def rp_o0 : Out :=
  (.need (.is 0 1)
  (.ite (.lt (.a 6) (.slen 1))
  (.need (.and (.le (.l 0) (.a 6)) (.lt (.a 6) (.slen 1)))
  (.load (.ea 1 (.a 6) 6 0) [(.int .i64 (.a 7)), (.int .i64 (.a 8)), (.int .i64 (.a 9)), (.int .i64 (.a 10)), (.int .i64 (.a 11)), (.int .i64 (.a 12))] 6 0 0
  (.both
  (.both
  (.call 20 [(.va 0), (.agg [(.int .i64 (.a 0)), (.int .i64 (.a 1)), (.int .i64 (.a 2)), (.int .i64 (.a 3)), (.int .i64 (.a 4)), (.int .i64 (.a 5))]), (.agg [(.int .i64 (.a 7)), (.int .i64 (.a 8)), (.int .i64 (.a 9)), (.int .i64 (.a 10)), (.int .i64 (.a 11)), (.int .i64 (.a 12))])] [] (.tup [(.agg [(.int .i64 (.a 13)), (.int .i64 (.a 14)), (.int .i64 (.a 15)), (.int .i64 (.a 16)), (.int .i64 (.a 17)), (.int .i64 (.a 18))]), (.int .i64 (.a 19))]) 7 0 0
  (.need (.and (.le (.l 0) (.a 6)) (.lt (.a 6) (.slen 1)))
  (.load (.ea 1 (.a 6) 6 0) [(.int .i64 (.a 20)), (.int .i64 (.a 21)), (.int .i64 (.a 22)), (.int .i64 (.a 23)), (.int .i64 (.a 24)), (.int .i64 (.a 25))] 6 0 0
  (.app (some 2) (.lit [[(.int .i64 (.a 20)), (.int .i64 (.a 21)), (.int .i64 (.a 22)), (.int .i64 (.a 23)), (.int .i64 (.a 24)), (.int .i64 (.a 25)), (.int .i64 (.a 13)), (.int .i64 (.a 14)), (.int .i64 (.a 15)), (.int .i64 (.a 16)), (.int .i64 (.a 17)), (.int .i64 (.a 18))]]) 12 96
  (.need (.and (.le (.l (-9223372036854775808)) (.add (.a 6) (.l 1))) (.le (.add (.a 6) (.l 1)) (.l 9223372036854775807)))
  (.stop { todo := [(.code [false, false, true, false, true, true]), (.inLoop [false, false, true, false, true, true]), (.inBlock 0), (.code [true, true, true])], sl := [(.va 0), (.agg [(.int .i64 (.a 0)), (.int .i64 (.a 1)), (.int .i64 (.a 2)), (.int .i64 (.a 3)), (.int .i64 (.a 4)), (.int .i64 (.a 5))]), (.va 1), .undef, (.ptr 0 0), .undef, .nilS, (.va 3), (.int .i64 (.add (.a 6) (.l 1))), (.ptr 2 0), (.int .i64 (.a 19)), (.int .i64 (.a 6)), (.va 1), (.int .i64 (.slen 1)), (.bool (.lt (.a 6) (.slen 1))), (.int .i64 (.a 6)), (.int .i64 (.add (.a 6) (.l 1))), (.tup [(.agg [(.int .i64 (.a 13)), (.int .i64 (.a 14)), (.int .i64 (.a 15)), (.int .i64 (.a 16)), (.int .i64 (.a 17)), (.int .i64 (.a 18))]), (.int .i64 (.a 19))]), (.va 0), (.agg [(.int .i64 (.a 0)), (.int .i64 (.a 1)), (.int .i64 (.a 2)), (.int .i64 (.a 3)), (.int .i64 (.a 4)), (.int .i64 (.a 5))]), (.va 1), (.int .i64 (.a 6)), (.ea 1 (.a 6) 6 0), (.agg [(.int .i64 (.a 7)), (.int .i64 (.a 8)), (.int .i64 (.a 9)), (.int .i64 (.a 10)), (.int .i64 (.a 11)), (.int .i64 (.a 12))]), (.tup [(.agg [(.int .i64 (.a 13)), (.int .i64 (.a 14)), (.int .i64 (.a 15)), (.int .i64 (.a 16)), (.int .i64 (.a 17)), (.int .i64 (.a 18))]), (.int .i64 (.a 19))]), (.agg [(.int .i64 (.a 13)), (.int .i64 (.a 14)), (.int .i64 (.a 15)), (.int .i64 (.a 16)), (.int .i64 (.a 17)), (.int .i64 (.a 18))]), (.int .i64 (.a 19)), (.va 2), (.va 1), (.int .i64 (.a 6)), (.ea 1 (.a 6) 6 0), (.agg [(.int .i64 (.a 20)), (.int .i64 (.a 21)), (.int .i64 (.a 22)), (.int .i64 (.a 23)), (.int .i64 (.a 24)), (.int .i64 (.a 25))]), (.agg [(.int .i64 (.a 13)), (.int .i64 (.a 14)), (.int .i64 (.a 15)), (.int .i64 (.a 16)), (.int .i64 (.a 17)), (.int .i64 (.a 18))]), (.agg [(.int .i64 (.a 20)), (.int .i64 (.a 21)), (.int .i64 (.a 22)), (.int .i64 (.a 23)), (.int .i64 (.a 24)), (.int .i64 (.a 25)), (.int .i64 (.a 13)), (.int .i64 (.a 14)), (.int .i64 (.a 15)), (.int .i64 (.a 16)), (.int .i64 (.a 17)), (.int .i64 (.a 18))]), (.sl 3 1), (.va 3), .undef], H := [(.cells [(.int .i64 (.a 0)), (.int .i64 (.a 1)), (.int .i64 (.a 2)), (.int .i64 (.a 3)), (.int .i64 (.a 4)), (.int .i64 (.a 5))] 26 false), (.row 3 45 12), (.cells [(.int .i64 (.a 13)), (.int .i64 (.a 14)), (.int .i64 (.a 15)), (.int .i64 (.a 16)), (.int .i64 (.a 17)), (.int .i64 (.a 18))] 26 false), (.cells [(.int .i64 (.a 20)), (.int .i64 (.a 21)), (.int .i64 (.a 22)), (.int .i64 (.a 23)), (.int .i64 (.a 24)), (.int .i64 (.a 25)), (.int .i64 (.a 13)), (.int .i64 (.a 14)), (.int .i64 (.a 15)), (.int .i64 (.a 16)), (.int .i64 (.a 17)), (.int .i64 (.a 18))] 45 false)], ni := 26, nb := 0, nv := 4, nj := 27 }))))))
  (.call 20 [(.va 0), (.agg [(.int .i64 (.a 0)), (.int .i64 (.a 1)), (.int .i64 (.a 2)), (.int .i64 (.a 3)), (.int .i64 (.a 4)), (.int .i64 (.a 5))]), (.agg [(.int .i64 (.a 7)), (.int .i64 (.a 8)), (.int .i64 (.a 9)), (.int .i64 (.a 10)), (.int .i64 (.a 11)), (.int .i64 (.a 12))])] [] (.tup [(.agg [(.int .i64 (.a 13)), (.int .i64 (.a 14)), (.int .i64 (.a 15)), (.int .i64 (.a 16)), (.int .i64 (.a 17)), (.int .i64 (.a 18))]), (.int .i64 (.a 19))]) 7 0 0
  (.need (.and (.le (.l 0) (.a 6)) (.lt (.a 6) (.slen 1)))
  (.load (.ea 1 (.a 6) 6 0) [(.int .i64 (.a 20)), (.int .i64 (.a 21)), (.int .i64 (.a 22)), (.int .i64 (.a 23)), (.int .i64 (.a 24)), (.int .i64 (.a 25))] 6 0 0
  (.app (some 2) (.lit [[(.int .i64 (.a 20)), (.int .i64 (.a 21)), (.int .i64 (.a 22)), (.int .i64 (.a 23)), (.int .i64 (.a 24)), (.int .i64 (.a 25)), (.int .i64 (.a 13)), (.int .i64 (.a 14)), (.int .i64 (.a 15)), (.int .i64 (.a 16)), (.int .i64 (.a 17)), (.int .i64 (.a 18))]]) 12 96
  (.need (.and (.le (.l (-9223372036854775808)) (.add (.a 6) (.l 1))) (.le (.add (.a 6) (.l 1)) (.l 9223372036854775807)))
  (.stop { todo := [(.code [false, false, true, false, true, true]), (.inLoop [false, false, true, false, true, true]), (.inBlock 0), (.code [true, true, true])], sl := [(.va 0), (.agg [(.int .i64 (.a 0)), (.int .i64 (.a 1)), (.int .i64 (.a 2)), (.int .i64 (.a 3)), (.int .i64 (.a 4)), (.int .i64 (.a 5))]), (.va 1), .undef, (.ptr 0 0), .undef, .nilS, (.va 3), (.int .i64 (.add (.a 6) (.l 1))), (.ptr 2 0), (.int .i64 (.a 19)), (.int .i64 (.a 6)), (.va 1), (.int .i64 (.slen 1)), (.bool (.lt (.a 6) (.slen 1))), (.int .i64 (.a 6)), (.int .i64 (.add (.a 6) (.l 1))), (.tup [(.agg [(.int .i64 (.a 13)), (.int .i64 (.a 14)), (.int .i64 (.a 15)), (.int .i64 (.a 16)), (.int .i64 (.a 17)), (.int .i64 (.a 18))]), (.int .i64 (.a 19))]), (.va 0), (.agg [(.int .i64 (.a 0)), (.int .i64 (.a 1)), (.int .i64 (.a 2)), (.int .i64 (.a 3)), (.int .i64 (.a 4)), (.int .i64 (.a 5))]), (.va 1), (.int .i64 (.a 6)), (.ea 1 (.a 6) 6 0), (.agg [(.int .i64 (.a 7)), (.int .i64 (.a 8)), (.int .i64 (.a 9)), (.int .i64 (.a 10)), (.int .i64 (.a 11)), (.int .i64 (.a 12))]), (.tup [(.agg [(.int .i64 (.a 13)), (.int .i64 (.a 14)), (.int .i64 (.a 15)), (.int .i64 (.a 16)), (.int .i64 (.a 17)), (.int .i64 (.a 18))]), (.int .i64 (.a 19))]), (.agg [(.int .i64 (.a 13)), (.int .i64 (.a 14)), (.int .i64 (.a 15)), (.int .i64 (.a 16)), (.int .i64 (.a 17)), (.int .i64 (.a 18))]), (.int .i64 (.a 19)), (.va 2), (.va 1), (.int .i64 (.a 6)), (.ea 1 (.a 6) 6 0), (.agg [(.int .i64 (.a 20)), (.int .i64 (.a 21)), (.int .i64 (.a 22)), (.int .i64 (.a 23)), (.int .i64 (.a 24)), (.int .i64 (.a 25))]), (.agg [(.int .i64 (.a 13)), (.int .i64 (.a 14)), (.int .i64 (.a 15)), (.int .i64 (.a 16)), (.int .i64 (.a 17)), (.int .i64 (.a 18))]), (.agg [(.int .i64 (.a 20)), (.int .i64 (.a 21)), (.int .i64 (.a 22)), (.int .i64 (.a 23)), (.int .i64 (.a 24)), (.int .i64 (.a 25)), (.int .i64 (.a 13)), (.int .i64 (.a 14)), (.int .i64 (.a 15)), (.int .i64 (.a 16)), (.int .i64 (.a 17)), (.int .i64 (.a 18))]), (.sl 3 1), (.va 3), .undef], H := [(.cells [(.int .i64 (.a 0)), (.int .i64 (.a 1)), (.int .i64 (.a 2)), (.int .i64 (.a 3)), (.int .i64 (.a 4)), (.int .i64 (.a 5))] 26 false), (.row 3 45 12), (.cells [(.int .i64 (.a 13)), (.int .i64 (.a 14)), (.int .i64 (.a 15)), (.int .i64 (.a 16)), (.int .i64 (.a 17)), (.int .i64 (.a 18))] 26 false), (.cells [(.int .i64 (.a 20)), (.int .i64 (.a 21)), (.int .i64 (.a 22)), (.int .i64 (.a 23)), (.int .i64 (.a 24)), (.int .i64 (.a 25)), (.int .i64 (.a 13)), (.int .i64 (.a 14)), (.int .i64 (.a 15)), (.int .i64 (.a 16)), (.int .i64 (.a 17)), (.int .i64 (.a 18))] 45 false)], ni := 26, nb := 0, nv := 4, nj := 27 })))))))
  (.call 20 [(.va 0), (.agg [(.int .i64 (.a 0)), (.int .i64 (.a 1)), (.int .i64 (.a 2)), (.int .i64 (.a 3)), (.int .i64 (.a 4)), (.int .i64 (.a 5))]), (.agg [(.int .i64 (.a 7)), (.int .i64 (.a 8)), (.int .i64 (.a 9)), (.int .i64 (.a 10)), (.int .i64 (.a 11)), (.int .i64 (.a 12))])] [] (.tup [(.agg [(.int .i64 (.a 13)), (.int .i64 (.a 14)), (.int .i64 (.a 15)), (.int .i64 (.a 16)), (.int .i64 (.a 17)), (.int .i64 (.a 18))]), (.int .i64 (.a 19))]) 7 0 0
  (.need (.and (.le (.l 0) (.a 6)) (.lt (.a 6) (.slen 1)))
  (.load (.ea 1 (.a 6) 6 0) [(.int .i64 (.a 20)), (.int .i64 (.a 21)), (.int .i64 (.a 22)), (.int .i64 (.a 23)), (.int .i64 (.a 24)), (.int .i64 (.a 25))] 6 0 0
  (.app (some 2) (.lit [[(.int .i64 (.a 20)), (.int .i64 (.a 21)), (.int .i64 (.a 22)), (.int .i64 (.a 23)), (.int .i64 (.a 24)), (.int .i64 (.a 25)), (.int .i64 (.a 13)), (.int .i64 (.a 14)), (.int .i64 (.a 15)), (.int .i64 (.a 16)), (.int .i64 (.a 17)), (.int .i64 (.a 18))]]) 12 96
  (.need (.and (.le (.l (-9223372036854775808)) (.add (.a 6) (.l 1))) (.le (.add (.a 6) (.l 1)) (.l 9223372036854775807)))
  (.stop { todo := [(.code [false, false, true, false, true, true]), (.inLoop [false, false, true, false, true, true]), (.inBlock 0), (.code [true, true, true])], sl := [(.va 0), (.agg [(.int .i64 (.a 0)), (.int .i64 (.a 1)), (.int .i64 (.a 2)), (.int .i64 (.a 3)), (.int .i64 (.a 4)), (.int .i64 (.a 5))]), (.va 1), .undef, (.ptr 0 0), .undef, .nilS, (.va 3), (.int .i64 (.add (.a 6) (.l 1))), (.ptr 2 0), (.int .i64 (.a 19)), (.int .i64 (.a 6)), (.va 1), (.int .i64 (.slen 1)), (.bool (.lt (.a 6) (.slen 1))), (.int .i64 (.a 6)), (.int .i64 (.add (.a 6) (.l 1))), (.tup [(.agg [(.int .i64 (.a 13)), (.int .i64 (.a 14)), (.int .i64 (.a 15)), (.int .i64 (.a 16)), (.int .i64 (.a 17)), (.int .i64 (.a 18))]), (.int .i64 (.a 19))]), (.va 0), (.agg [(.int .i64 (.a 0)), (.int .i64 (.a 1)), (.int .i64 (.a 2)), (.int .i64 (.a 3)), (.int .i64 (.a 4)), (.int .i64 (.a 5))]), (.va 1), (.int .i64 (.a 6)), (.ea 1 (.a 6) 6 0), (.agg [(.int .i64 (.a 7)), (.int .i64 (.a 8)), (.int .i64 (.a 9)), (.int .i64 (.a 10)), (.int .i64 (.a 11)), (.int .i64 (.a 12))]), (.tup [(.agg [(.int .i64 (.a 13)), (.int .i64 (.a 14)), (.int .i64 (.a 15)), (.int .i64 (.a 16)), (.int .i64 (.a 17)), (.int .i64 (.a 18))]), (.int .i64 (.a 19))]), (.agg [(.int .i64 (.a 13)), (.int .i64 (.a 14)), (.int .i64 (.a 15)), (.int .i64 (.a 16)), (.int .i64 (.a 17)), (.int .i64 (.a 18))]), (.int .i64 (.a 19)), (.va 2), (.va 1), (.int .i64 (.a 6)), (.ea 1 (.a 6) 6 0), (.agg [(.int .i64 (.a 20)), (.int .i64 (.a 21)), (.int .i64 (.a 22)), (.int .i64 (.a 23)), (.int .i64 (.a 24)), (.int .i64 (.a 25))]), (.agg [(.int .i64 (.a 13)), (.int .i64 (.a 14)), (.int .i64 (.a 15)), (.int .i64 (.a 16)), (.int .i64 (.a 17)), (.int .i64 (.a 18))]), (.agg [(.int .i64 (.a 20)), (.int .i64 (.a 21)), (.int .i64 (.a 22)), (.int .i64 (.a 23)), (.int .i64 (.a 24)), (.int .i64 (.a 25)), (.int .i64 (.a 13)), (.int .i64 (.a 14)), (.int .i64 (.a 15)), (.int .i64 (.a 16)), (.int .i64 (.a 17)), (.int .i64 (.a 18))]), (.sl 3 1), (.va 3), .undef], H := [(.cells [(.int .i64 (.a 0)), (.int .i64 (.a 1)), (.int .i64 (.a 2)), (.int .i64 (.a 3)), (.int .i64 (.a 4)), (.int .i64 (.a 5))] 26 false), (.row 3 45 12), (.cells [(.int .i64 (.a 13)), (.int .i64 (.a 14)), (.int .i64 (.a 15)), (.int .i64 (.a 16)), (.int .i64 (.a 17)), (.int .i64 (.a 18))] 26 false), (.cells [(.int .i64 (.a 20)), (.int .i64 (.a 21)), (.int .i64 (.a 22)), (.int .i64 (.a 23)), (.int .i64 (.a 24)), (.int .i64 (.a 25)), (.int .i64 (.a 13)), (.int .i64 (.a 14)), (.int .i64 (.a 15)), (.int .i64 (.a 16)), (.int .i64 (.a 17)), (.int .i64 (.a 18))] 45 false)], ni := 26, nb := 0, nv := 4, nj := 27 })))))))))
  (.ret (.va 2) [])))
theorem rp_o0_eq : run (cx true [[false, false, true, false, true, true]] []) (fnOf Try.f27) 5000 rp_p0 = rp_o0 := by kernel_rfl
theorem rp_l0 {Q : Value → Hp → Prop} {w0 : World} {s0 : Hp} (I : List Int → List Bool → List Value → Hp → Prop) (m : List Int → List Bool → List Value → Nat)
    (round : ∀ is bs vs js s1, is.length = 7 → bs.length = 0 → vs.length = 3 → I is bs vs s1 →
      (∀ (A : Asg) g r s, s1.le s → Go.Sx.fits ⟨0, 0, 0, 0⟩ A rp_p0 g = true → I (A.is.map (IE.den r)) (A.bs.map (BE.den r)) (SV.dens r id A.vs) s → m (A.is.map (IE.den r)) (A.bs.map (BE.den r)) (SV.dens r id A.vs) < m is bs vs →
        Go.Sx.Reach Try.prog 27 (Ret Q s0 w0) (fnOf Try.f27).body w0 s0 g r s) → VC Try.prog Q (Go.Sx.Reach Try.prog 27 (Ret Q s0 w0) (fnOf Try.f27).body w0 s0) rp_o0 ⟨is, bs, vs, js⟩ s1) :
    ∀ (A : Asg) (g : Cfg) (r : Env) (s : Hp), Go.Sx.fits ⟨0, 0, 0, 0⟩ A rp_p0 g = true → I (A.is.map (IE.den r)) (A.bs.map (BE.den r)) (SV.dens r id A.vs) s → Go.Sx.Reach Try.prog 27 (Ret Q s0 w0) (fnOf Try.f27).body w0 s0 g r s :=
  loop0 (fn := fnOf Try.f27) (progOk true [[false, false, true, false, true, true]] []) Try.func27 rfl 5000 rp_p0 I m (fun _ _ _ _ h => by cases h) (fun is bs vs js s1 h1 h2 h3 _ h ih => by
    rw [rp_o0_eq]
    exact round is bs vs js s1 h1 h2 h3 h ih)
def rp_a0_0 : Asg :=
  ⟨[(.a 0), (.a 1), (.a 2), (.a 3), (.a 4), (.a 5), (.add (.a 6) (.l 1))], [], [(.va 0), (.va 1), (.va 3)], [(.ptr 2 0), (.int .i64 (.a 19)), (.int .i64 (.a 6)), (.va 1), (.int .i64 (.slen 1)), (.bool (.lt (.a 6) (.slen 1))), (.int .i64 (.a 6)), (.int .i64 (.add (.a 6) (.l 1))), (.tup [(.agg [(.int .i64 (.a 13)), (.int .i64 (.a 14)), (.int .i64 (.a 15)), (.int .i64 (.a 16)), (.int .i64 (.a 17)), (.int .i64 (.a 18))]), (.int .i64 (.a 19))]), (.va 0), (.agg [(.int .i64 (.a 0)), (.int .i64 (.a 1)), (.int .i64 (.a 2)), (.int .i64 (.a 3)), (.int .i64 (.a 4)), (.int .i64 (.a 5))]), (.va 1), (.int .i64 (.a 6)), (.ea 1 (.a 6) 6 0), (.agg [(.int .i64 (.a 7)), (.int .i64 (.a 8)), (.int .i64 (.a 9)), (.int .i64 (.a 10)), (.int .i64 (.a 11)), (.int .i64 (.a 12))]), (.tup [(.agg [(.int .i64 (.a 13)), (.int .i64 (.a 14)), (.int .i64 (.a 15)), (.int .i64 (.a 16)), (.int .i64 (.a 17)), (.int .i64 (.a 18))]), (.int .i64 (.a 19))]), (.agg [(.int .i64 (.a 13)), (.int .i64 (.a 14)), (.int .i64 (.a 15)), (.int .i64 (.a 16)), (.int .i64 (.a 17)), (.int .i64 (.a 18))]), (.int .i64 (.a 19)), (.va 2), (.va 1), (.int .i64 (.a 6)), (.ea 1 (.a 6) 6 0), (.agg [(.int .i64 (.a 20)), (.int .i64 (.a 21)), (.int .i64 (.a 22)), (.int .i64 (.a 23)), (.int .i64 (.a 24)), (.int .i64 (.a 25))]), (.agg [(.int .i64 (.a 13)), (.int .i64 (.a 14)), (.int .i64 (.a 15)), (.int .i64 (.a 16)), (.int .i64 (.a 17)), (.int .i64 (.a 18))]), (.agg [(.int .i64 (.a 20)), (.int .i64 (.a 21)), (.int .i64 (.a 22)), (.int .i64 (.a 23)), (.int .i64 (.a 24)), (.int .i64 (.a 25)), (.int .i64 (.a 13)), (.int .i64 (.a 14)), (.int .i64 (.a 15)), (.int .i64 (.a 16)), (.int .i64 (.a 17)), (.int .i64 (.a 18))]), (.sl 3 1), (.va 3)]⟩
def rp_a0_1 : Asg :=
  ⟨[(.a 0), (.a 1), (.a 2), (.a 3), (.a 4), (.a 5), (.add (.a 6) (.l 1))], [], [(.va 0), (.va 1), (.va 3)], [(.ptr 2 0), (.int .i64 (.a 19)), (.int .i64 (.a 6)), (.va 1), (.int .i64 (.slen 1)), (.bool (.lt (.a 6) (.slen 1))), (.int .i64 (.a 6)), (.int .i64 (.add (.a 6) (.l 1))), (.tup [(.agg [(.int .i64 (.a 13)), (.int .i64 (.a 14)), (.int .i64 (.a 15)), (.int .i64 (.a 16)), (.int .i64 (.a 17)), (.int .i64 (.a 18))]), (.int .i64 (.a 19))]), (.va 0), (.agg [(.int .i64 (.a 0)), (.int .i64 (.a 1)), (.int .i64 (.a 2)), (.int .i64 (.a 3)), (.int .i64 (.a 4)), (.int .i64 (.a 5))]), (.va 1), (.int .i64 (.a 6)), (.ea 1 (.a 6) 6 0), (.agg [(.int .i64 (.a 7)), (.int .i64 (.a 8)), (.int .i64 (.a 9)), (.int .i64 (.a 10)), (.int .i64 (.a 11)), (.int .i64 (.a 12))]), (.tup [(.agg [(.int .i64 (.a 13)), (.int .i64 (.a 14)), (.int .i64 (.a 15)), (.int .i64 (.a 16)), (.int .i64 (.a 17)), (.int .i64 (.a 18))]), (.int .i64 (.a 19))]), (.agg [(.int .i64 (.a 13)), (.int .i64 (.a 14)), (.int .i64 (.a 15)), (.int .i64 (.a 16)), (.int .i64 (.a 17)), (.int .i64 (.a 18))]), (.int .i64 (.a 19)), (.va 2), (.va 1), (.int .i64 (.a 6)), (.ea 1 (.a 6) 6 0), (.agg [(.int .i64 (.a 20)), (.int .i64 (.a 21)), (.int .i64 (.a 22)), (.int .i64 (.a 23)), (.int .i64 (.a 24)), (.int .i64 (.a 25))]), (.agg [(.int .i64 (.a 13)), (.int .i64 (.a 14)), (.int .i64 (.a 15)), (.int .i64 (.a 16)), (.int .i64 (.a 17)), (.int .i64 (.a 18))]), (.agg [(.int .i64 (.a 20)), (.int .i64 (.a 21)), (.int .i64 (.a 22)), (.int .i64 (.a 23)), (.int .i64 (.a 24)), (.int .i64 (.a 25)), (.int .i64 (.a 13)), (.int .i64 (.a 14)), (.int .i64 (.a 15)), (.int .i64 (.a 16)), (.int .i64 (.a 17)), (.int .i64 (.a 18))]), (.sl 3 1), (.va 3)]⟩
def rp_a0_2 : Asg :=
  ⟨[(.a 0), (.a 1), (.a 2), (.a 3), (.a 4), (.a 5), (.add (.a 6) (.l 1))], [], [(.va 0), (.va 1), (.va 3)], [(.ptr 2 0), (.int .i64 (.a 19)), (.int .i64 (.a 6)), (.va 1), (.int .i64 (.slen 1)), (.bool (.lt (.a 6) (.slen 1))), (.int .i64 (.a 6)), (.int .i64 (.add (.a 6) (.l 1))), (.tup [(.agg [(.int .i64 (.a 13)), (.int .i64 (.a 14)), (.int .i64 (.a 15)), (.int .i64 (.a 16)), (.int .i64 (.a 17)), (.int .i64 (.a 18))]), (.int .i64 (.a 19))]), (.va 0), (.agg [(.int .i64 (.a 0)), (.int .i64 (.a 1)), (.int .i64 (.a 2)), (.int .i64 (.a 3)), (.int .i64 (.a 4)), (.int .i64 (.a 5))]), (.va 1), (.int .i64 (.a 6)), (.ea 1 (.a 6) 6 0), (.agg [(.int .i64 (.a 7)), (.int .i64 (.a 8)), (.int .i64 (.a 9)), (.int .i64 (.a 10)), (.int .i64 (.a 11)), (.int .i64 (.a 12))]), (.tup [(.agg [(.int .i64 (.a 13)), (.int .i64 (.a 14)), (.int .i64 (.a 15)), (.int .i64 (.a 16)), (.int .i64 (.a 17)), (.int .i64 (.a 18))]), (.int .i64 (.a 19))]), (.agg [(.int .i64 (.a 13)), (.int .i64 (.a 14)), (.int .i64 (.a 15)), (.int .i64 (.a 16)), (.int .i64 (.a 17)), (.int .i64 (.a 18))]), (.int .i64 (.a 19)), (.va 2), (.va 1), (.int .i64 (.a 6)), (.ea 1 (.a 6) 6 0), (.agg [(.int .i64 (.a 20)), (.int .i64 (.a 21)), (.int .i64 (.a 22)), (.int .i64 (.a 23)), (.int .i64 (.a 24)), (.int .i64 (.a 25))]), (.agg [(.int .i64 (.a 13)), (.int .i64 (.a 14)), (.int .i64 (.a 15)), (.int .i64 (.a 16)), (.int .i64 (.a 17)), (.int .i64 (.a 18))]), (.agg [(.int .i64 (.a 20)), (.int .i64 (.a 21)), (.int .i64 (.a 22)), (.int .i64 (.a 23)), (.int .i64 (.a 24)), (.int .i64 (.a 25)), (.int .i64 (.a 13)), (.int .i64 (.a 14)), (.int .i64 (.a 15)), (.int .i64 (.a 16)), (.int .i64 (.a 17)), (.int .i64 (.a 18))]), (.sl 3 1), (.va 3)]⟩

def RpI (L : List Of) (S : Bd) (Ps : List Bd) (lv pv : Value) : List Int → List Bool → List Value → Hp → Prop := fun is bs vs s =>
  ∃ (i : Nat) (out : Value), is = S.l ++ [(i : Int)] ∧ vs = [lv, pv, out] ∧ i ≤ Ps.length ∧ OfIn s lv L ∧ BdIn s pv Ps ∧ ChIn s out (path L S (Ps.take i))
theorem rp_r0 (L : List Of) (hL : L.length ≤ 1000) (S : Bd) (Ps : List Bd) (hP : Ps.length ≤ 1000) (lv pv : Value) {w0 : World} {s0 : Hp} : ∀ (A : Asg) (g : Cfg) (r : Env) (s : Hp), Go.Sx.fits ⟨0, 0, 0, 0⟩ A rp_p0 g = true → RpI L S Ps lv pv (A.is.map (IE.den r)) (A.bs.map (BE.den r)) (SV.dens r id A.vs) s →
    Go.Sx.Reach Try.prog 27 (Ret (fun v s => ChIn s v (path L S Ps)) s0 w0) (fnOf Try.f27).body w0 s0 g r s := by
  refine rp_l0 (RpI L S Ps lv pv) (fun is _ _ => Ps.length - (is.getD 6 0).toNat) (fun is bs vs js s1 l1 l2 l3 hI ih => ?_)
  obtain ⟨i, out, rfl, rfl, hi, h0, h1, h2⟩ := hI
  obtain rfl : bs = [] := List.length_eq_zero_iff.1 l2
  unfold rp_o0
  conv => arg 5; simp only [Bd.l, List.cons_append, List.nil_append]
  refine vc_need h1.kind (fun _ => ?_)
  refine vc_ite (fun h => ?_) (fun h => ?_) <;> simp only [BE.den, IE.den, SV.den, SV.dens, List.getD_cons_zero, List.getD_cons_succ, List.cons_append, List.nil_append, List.append_assoc, ltB_true, leB_true, eqB_true, ltB_false, leB_false, eqB_false, Bool.not_eq_true', Bool.not_eq_false', Bool.and_eq_true, Bool.or_eq_true, Bool.and_eq_false_iff, Bool.or_eq_false_iff, h1.len, List.length_map] at h
  · have hlt : i < Ps.length := by omega
    refine vc_need (by simp only [BE.den, IE.den, SV.den, SV.dens, List.getD_cons_zero, List.getD_cons_succ, List.cons_append, List.nil_append, List.append_assoc, ltB_true, leB_true, eqB_true, ltB_false, leB_false, eqB_false, Bool.not_eq_true', Bool.not_eq_false', Bool.and_eq_true, Bool.or_eq_true, Bool.and_eq_false_iff, Bool.or_eq_false_iff, h1.len, List.length_map]; omega) (fun _ => ?_)
    obtain ⟨p, hp⟩ : ∃ p, Ps[i]? = some p := ⟨_, List.getElem?_eq_getElem hlt⟩
    refine vc_load p.l [] [] p.cs (h1.at rfl rfl (by rw [List.getElem?_map, hp]; rfl)) rfl rfl rfl rfl rfl ?_
    conv => arg 5; simp only [List.cons_append, List.nil_append, List.append_nil, Bd.l]
    have hpt := path_take L S Ps i p hp
    obtain ⟨x, hx⟩ : ∃ x, x = best L S p := ⟨_, rfl⟩
    rw [← hx] at hpt
    obtain ⟨b, m⟩ := x
    have hct : ∀ s2, s1.le s2 → Ct Try.prog 20 [lv, S.v, p.v] s2 (fun v _ => v = bestV (b, m)) := fun s2 hs2 => by rw [hx]; exact rbest_ct L hL lv S p s2 (h0.mono hs2)
    have hpl : (path L S (Ps.take i)).length ≤ 1000 := by
      unfold path; rw [List.length_map]; have := List.length_take_le i Ps; omega
    refine vc_both (vc_both ?_ ?_) ?_
    all_goals
      refine vc_call _ _ (b.l ++ [m]) [] [] hct (fun _ => rfl) rfl rfl rfl rfl rfl (fun s2 hs2 => ?_)
      conv => arg 5; simp only [List.cons_append, List.nil_append, List.append_nil, Bd.l]
      have h1' := h1.mono hs2
      refine vc_need (by simp only [BE.den, IE.den, SV.den, SV.dens, List.getD_cons_zero, List.getD_cons_succ, List.cons_append, List.nil_append, List.append_assoc, ltB_true, leB_true, eqB_true, ltB_false, leB_false, eqB_false, Bool.not_eq_true', Bool.not_eq_false', Bool.and_eq_true, Bool.or_eq_true, Bool.and_eq_false_iff, Bool.or_eq_false_iff, h1'.len, List.length_map]; omega) (fun _ => ?_)
      refine vc_load p.l [] [] p.cs (h1'.at rfl rfl (by rw [List.getElem?_map, hp]; rfl)) rfl rfl rfl rfl rfl ?_
      conv => arg 5; simp only [List.cons_append, List.nil_append, List.append_nil, Bd.l]
      refine vc_app ((path L S (Ps.take i)).map Ch.cs) (Ch.cs ⟨p, b⟩) (h2.mono hs2) rfl (by rw [List.length_map]; omega) (by rw [List.length_map]; simp only [maxLen]; omega) (fun g' s4 hs4 hg' => ?_)
      conv => arg 5; simp only [List.cons_append, List.nil_append, List.append_nil]
      refine vc_need (by simp only [BE.den, IE.den, SV.den, SV.dens, List.getD_cons_zero, List.getD_cons_succ, List.cons_append, List.nil_append, List.append_assoc, ltB_true, leB_true, eqB_true, ltB_false, leB_false, eqB_false, Bool.not_eq_true', Bool.not_eq_false', Bool.and_eq_true, Bool.or_eq_true, Bool.and_eq_false_iff, Bool.or_eq_false_iff]; omega) (fun _ => vc_stop ?_)
      have hgg : ChIn s4 g' (path L S (Ps.take (i + 1))) := by
        rw [hpt]
        unfold ChIn
        rw [List.map_append]
        exact hg'
      have hm : Ps.length - ((i : Int) + 1).toNat < Ps.length - (i : Int).toNat := by omega
      first
        | exact ih rp_a0_0 _ _ _ (Hp.le_trans hs2 hs4) (by kernel_rfl) ⟨i + 1, g', rfl, rfl, by omega, (h0.mono hs2).mono hs4, h1'.mono hs4, hgg⟩ hm
        | exact ih rp_a0_1 _ _ _ (Hp.le_trans hs2 hs4) (by kernel_rfl) ⟨i + 1, g', rfl, rfl, by omega, (h0.mono hs2).mono hs4, h1'.mono hs4, hgg⟩ hm
        | exact ih rp_a0_2 _ _ _ (Hp.le_trans hs2 hs4) (by kernel_rfl) ⟨i + 1, g', rfl, rfl, by omega, (h0.mono hs2).mono hs4, h1'.mono hs4, hgg⟩ hm
  · refine vc_ret (fun β s' hs _ => ?_)
    have : Ps.take i = Ps := List.take_of_length_le (by omega)
    rw [this] at h2
    exact h2.mono hs
theorem rpath_ct (L : List Of) (hL : L.length ≤ 1000) (S : Bd) (Ps : List Bd) (hP : Ps.length ≤ 1000) (lv pv : Value) (s : Hp) (hl : OfIn s lv L) (hp : BdIn s pv Ps) : Ct Try.prog 27 [lv, S.v, pv] s (fun v s' => ChIn s' v (path L S Ps)) := by
  refine rp_o_ct S.l [] [lv, pv] rfl rfl rfl (by simp [hl.fine, hp.fine]) (fun w0 => ?_)
  unfold rp_o
  exact vc_stop (rp_r0 L hL S Ps hP lv pv rp_a_0 _ _ _ (by kernel_rfl) ⟨0, .slice none 0 0, rfl, rfl, Nat.zero_le _, hl, hp, SliceIn.nil _ _⟩)

/- The examples. -/
def exL : List Of := [⟨0, ⟨1, 0, 0, 0, 0, 0⟩, 10⟩, ⟨0, ⟨1, 1, 0, 0, 0, 0⟩, 12⟩]
def exP : Bd := ⟨3, 2, 0, 0, 0, 0⟩
def exS : Bd := ⟨1, 1, 0, 0, 0, 0⟩
theorem ex_best : best exL exS exP = (⟨1, 0, 0, 0, 0, 0⟩, 7) := by decide +kernel
theorem ex_demand : demand exL exS exP = [⟨1, 0, 0, 0, 0, 0⟩, ⟨1, 1, 0, 0, 0, 0⟩] := by decide +kernel
theorem ex_util : utility exL exP exS = 7 := by decide +kernel
theorem ex_util1 : utility (exL.take 1) exP exS = 5 := by decide +kernel
theorem exL_in {s : Hp} {b n cap : Nat} (hn : n ≤ 2) (hc : n ≤ cap) (h : ∀ (o : Nat) (u : Value), (exL.map Of.cs).flatten[o]? = some u → s b o = some u) : OfIn s (.slice (some ⟨b, 0, none⟩) n cap) (exL.take n) := by
  have hl : (exL.take n).length = n := by simp [exL]; omega
  refine ⟨by intro x hx; simp only [List.mem_map] at hx; obtain ⟨o, _, rfl⟩ := hx; rfl, some ⟨b, 0, none⟩, cap, by rw [List.length_map, hl], by rw [List.length_map, hl]; exact hc, fun _ => ⟨b, 0, rfl, fun i x hi j u hj => ?_⟩⟩
  rw [List.getElem?_map, Option.map_eq_some_iff] at hi
  obtain ⟨o, ho, rfl⟩ := hi
  have hi2 : i < 2 := by have := (List.getElem?_eq_some_iff.1 ho).1; omega
  have hj8 : j < 8 := (List.getElem?_eq_some_iff.1 hj).1
  refine h _ _ ?_
  rw [List.getElem?_take] at ho
  split at ho
  case isFalse => simp at ho
  have h2 := flat_of 8 (exL.map Of.cs) (by intro e he; simp only [List.mem_map] at he; obtain ⟨o, _, rfl⟩ := he; rfl) i o.cs j u (by rw [List.getElem?_map, ho]; rfl) hj
  rw [show 0 + i * 8 + j = i * 8 + j by omega]
  exact h2
theorem exP_in {s : Hp} {b : Nat} (h : ∀ (o : Nat) (u : Value), exP.cs[o]? = some u → s b o = some u) : BdIn s (.slice (some ⟨b, 0, none⟩) 1 1) [exP] := by
  refine ⟨by intro x hx; simp only [List.map_cons, List.map_nil, List.mem_singleton] at hx; subst hx; rfl, some ⟨b, 0, none⟩, 1, rfl, Nat.le_refl _, fun _ => ⟨b, 0, rfl, fun i x hi j u hj => ?_⟩⟩
  match i with
  | 0 =>
    simp only [List.map_cons, List.getElem?_cons_zero, Option.some.injEq] at hi
    subst hi
    rw [show 0 + 0 * 6 + j = j by omega]
    exact h j u hj
  | i + 1 => simp at hi

end Go.Proofs.Ytbmfegliomkkfaa
