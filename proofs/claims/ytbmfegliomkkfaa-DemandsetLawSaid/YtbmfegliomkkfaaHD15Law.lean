/- The law DemandsetLaw, walked. -/
import Derived.Test.YtbmfegliomkkfaaHD15D
import Derived.Test.YtbmfegliomkkfaaHBunE
set_option linter.unusedSimpArgs false
set_option linter.unusedVariables false
namespace Go.Proofs.Ytbmfegliomkkfaa
open Go.Sx Go.Bun
def o_ll : Out :=
  (.need (.is 0 0)
  (.ite (.lt (.l 60) (.slen 0))
  (.call 15 [] [] (.bool (.a 0)) 0 1 0
  (.ret (.bool (.a 0)) []))
  (.call 23 [(.agg [(.int .i64 (.a 6)), (.int .i64 (.a 7)), (.int .i64 (.a 8)), (.int .i64 (.a 9)), (.int .i64 (.a 10)), (.int .i64 (.a 11))])] [] (.bool (.a 0)) 0 1 0
  (.ite (.not (.a 0))
  (.call 15 [] [] (.bool (.a 1)) 0 1 0
  (.ret (.bool (.a 1)) []))
  (.call 18 [(.agg [(.int .i64 (.a 0)), (.int .i64 (.a 1)), (.int .i64 (.a 2)), (.int .i64 (.a 3)), (.int .i64 (.a 4)), (.int .i64 (.a 5))])] [] (.int .i64 (.a 14)) 1 0 0
  (.ite (.lt (.l 200) (.a 14))
  (.call 15 [] [] (.bool (.a 1)) 0 1 0
  (.ret (.bool (.a 1)) []))
  (.need (.and (.le (.l (-9223372036854775808)) (.tmod (.a 12) (.l 6))) (.le (.tmod (.a 12) (.l 6)) (.l 9223372036854775807)))
  (.ite (.eq (.tmod (.a 12) (.l 6)) (.l 5))
  (.need (.and (.le (.l (-9223372036854775808)) (.tmod (.a 13) (.l 100000))) (.le (.tmod (.a 13) (.l 100000)) (.l 9223372036854775807)))
  (.need (.and (.le (.l (-9223372036854775808)) (.add (.a 11) (.tmod (.a 13) (.l 100000)))) (.le (.add (.a 11) (.tmod (.a 13) (.l 100000))) (.l 9223372036854775807)))
  (.call 23 [(.agg [(.int .i64 (.a 6)), (.int .i64 (.a 7)), (.int .i64 (.a 8)), (.int .i64 (.a 9)), (.int .i64 (.a 10)), (.int .i64 (.add (.a 11) (.tmod (.a 13) (.l 100000))))])] [] (.bool (.a 1)) 0 1 0
  (.ite (.not (.a 1))
  (.call 15 [] [] (.bool (.a 2)) 0 1 0
  (.ret (.bool (.a 2)) []))
  (.call 19 [(.va 0), (.agg [(.int .i64 (.a 0)), (.int .i64 (.a 1)), (.int .i64 (.a 2)), (.int .i64 (.a 3)), (.int .i64 (.a 4)), (.int .i64 (.a 5))]), (.agg [(.int .i64 (.a 6)), (.int .i64 (.a 7)), (.int .i64 (.a 8)), (.int .i64 (.a 9)), (.int .i64 (.a 10)), (.int .i64 (.a 11))])] [] (.tup [(.agg [(.int .i64 (.a 15)), (.int .i64 (.a 16)), (.int .i64 (.a 17)), (.int .i64 (.a 18)), (.int .i64 (.a 19)), (.int .i64 (.a 20))]), (.int .i64 (.a 21))]) 7 0 0
  (.call 19 [(.va 0), (.agg [(.int .i64 (.a 0)), (.int .i64 (.a 1)), (.int .i64 (.a 2)), (.int .i64 (.a 3)), (.int .i64 (.a 4)), (.int .i64 (.a 5))]), (.agg [(.int .i64 (.a 6)), (.int .i64 (.a 7)), (.int .i64 (.a 8)), (.int .i64 (.a 9)), (.int .i64 (.a 10)), (.int .i64 (.add (.a 11) (.tmod (.a 13) (.l 100000))))])] [] (.tup [(.agg [(.int .i64 (.a 22)), (.int .i64 (.a 23)), (.int .i64 (.a 24)), (.int .i64 (.a 25)), (.int .i64 (.a 26)), (.int .i64 (.a 27))]), (.int .i64 (.a 28))]) 7 0 0
  (.ite (.and (.eq (.a 6) (.a 6)) (.and (.eq (.a 7) (.a 7)) (.and (.eq (.a 8) (.a 8)) (.and (.eq (.a 9) (.a 9)) (.and (.eq (.a 10) (.a 10)) (.eq (.a 11) (.add (.a 11) (.tmod (.a 13) (.l 100000)))))))))
  (.call 15 [] [] (.bool (.a 2)) 0 1 0
  (.ret (.bool (.a 2)) []))
  (.ite (.le (.a 27) (.a 20))
  (.call 15 [] [] (.bool (.a 2)) 0 1 0
  (.ret (.bool (.a 2)) []))
  (.ret (.bool (.t false)) [])))))))))
  (.ite (.eq (.tmod (.a 12) (.l 6)) (.l 4))
  (.need (.and (.le (.l (-9223372036854775808)) (.tmod (.a 13) (.l 100000))) (.le (.tmod (.a 13) (.l 100000)) (.l 9223372036854775807)))
  (.need (.and (.le (.l (-9223372036854775808)) (.add (.a 10) (.tmod (.a 13) (.l 100000)))) (.le (.add (.a 10) (.tmod (.a 13) (.l 100000))) (.l 9223372036854775807)))
  (.call 23 [(.agg [(.int .i64 (.a 6)), (.int .i64 (.a 7)), (.int .i64 (.a 8)), (.int .i64 (.a 9)), (.int .i64 (.add (.a 10) (.tmod (.a 13) (.l 100000)))), (.int .i64 (.a 11))])] [] (.bool (.a 1)) 0 1 0
  (.ite (.not (.a 1))
  (.call 15 [] [] (.bool (.a 2)) 0 1 0
  (.ret (.bool (.a 2)) []))
  (.call 19 [(.va 0), (.agg [(.int .i64 (.a 0)), (.int .i64 (.a 1)), (.int .i64 (.a 2)), (.int .i64 (.a 3)), (.int .i64 (.a 4)), (.int .i64 (.a 5))]), (.agg [(.int .i64 (.a 6)), (.int .i64 (.a 7)), (.int .i64 (.a 8)), (.int .i64 (.a 9)), (.int .i64 (.a 10)), (.int .i64 (.a 11))])] [] (.tup [(.agg [(.int .i64 (.a 15)), (.int .i64 (.a 16)), (.int .i64 (.a 17)), (.int .i64 (.a 18)), (.int .i64 (.a 19)), (.int .i64 (.a 20))]), (.int .i64 (.a 21))]) 7 0 0
  (.call 19 [(.va 0), (.agg [(.int .i64 (.a 0)), (.int .i64 (.a 1)), (.int .i64 (.a 2)), (.int .i64 (.a 3)), (.int .i64 (.a 4)), (.int .i64 (.a 5))]), (.agg [(.int .i64 (.a 6)), (.int .i64 (.a 7)), (.int .i64 (.a 8)), (.int .i64 (.a 9)), (.int .i64 (.add (.a 10) (.tmod (.a 13) (.l 100000)))), (.int .i64 (.a 11))])] [] (.tup [(.agg [(.int .i64 (.a 22)), (.int .i64 (.a 23)), (.int .i64 (.a 24)), (.int .i64 (.a 25)), (.int .i64 (.a 26)), (.int .i64 (.a 27))]), (.int .i64 (.a 28))]) 7 0 0
  (.ite (.and (.eq (.a 6) (.a 6)) (.and (.eq (.a 7) (.a 7)) (.and (.eq (.a 8) (.a 8)) (.and (.eq (.a 9) (.a 9)) (.and (.eq (.a 10) (.add (.a 10) (.tmod (.a 13) (.l 100000)))) (.eq (.a 11) (.a 11)))))))
  (.call 15 [] [] (.bool (.a 2)) 0 1 0
  (.ret (.bool (.a 2)) []))
  (.ite (.le (.a 26) (.a 19))
  (.call 15 [] [] (.bool (.a 2)) 0 1 0
  (.ret (.bool (.a 2)) []))
  (.ret (.bool (.t false)) [])))))))))
  (.ite (.eq (.tmod (.a 12) (.l 6)) (.l 3))
  (.need (.and (.le (.l (-9223372036854775808)) (.tmod (.a 13) (.l 100000))) (.le (.tmod (.a 13) (.l 100000)) (.l 9223372036854775807)))
  (.need (.and (.le (.l (-9223372036854775808)) (.add (.a 9) (.tmod (.a 13) (.l 100000)))) (.le (.add (.a 9) (.tmod (.a 13) (.l 100000))) (.l 9223372036854775807)))
  (.call 23 [(.agg [(.int .i64 (.a 6)), (.int .i64 (.a 7)), (.int .i64 (.a 8)), (.int .i64 (.add (.a 9) (.tmod (.a 13) (.l 100000)))), (.int .i64 (.a 10)), (.int .i64 (.a 11))])] [] (.bool (.a 1)) 0 1 0
  (.ite (.not (.a 1))
  (.call 15 [] [] (.bool (.a 2)) 0 1 0
  (.ret (.bool (.a 2)) []))
  (.call 19 [(.va 0), (.agg [(.int .i64 (.a 0)), (.int .i64 (.a 1)), (.int .i64 (.a 2)), (.int .i64 (.a 3)), (.int .i64 (.a 4)), (.int .i64 (.a 5))]), (.agg [(.int .i64 (.a 6)), (.int .i64 (.a 7)), (.int .i64 (.a 8)), (.int .i64 (.a 9)), (.int .i64 (.a 10)), (.int .i64 (.a 11))])] [] (.tup [(.agg [(.int .i64 (.a 15)), (.int .i64 (.a 16)), (.int .i64 (.a 17)), (.int .i64 (.a 18)), (.int .i64 (.a 19)), (.int .i64 (.a 20))]), (.int .i64 (.a 21))]) 7 0 0
  (.call 19 [(.va 0), (.agg [(.int .i64 (.a 0)), (.int .i64 (.a 1)), (.int .i64 (.a 2)), (.int .i64 (.a 3)), (.int .i64 (.a 4)), (.int .i64 (.a 5))]), (.agg [(.int .i64 (.a 6)), (.int .i64 (.a 7)), (.int .i64 (.a 8)), (.int .i64 (.add (.a 9) (.tmod (.a 13) (.l 100000)))), (.int .i64 (.a 10)), (.int .i64 (.a 11))])] [] (.tup [(.agg [(.int .i64 (.a 22)), (.int .i64 (.a 23)), (.int .i64 (.a 24)), (.int .i64 (.a 25)), (.int .i64 (.a 26)), (.int .i64 (.a 27))]), (.int .i64 (.a 28))]) 7 0 0
  (.ite (.and (.eq (.a 6) (.a 6)) (.and (.eq (.a 7) (.a 7)) (.and (.eq (.a 8) (.a 8)) (.and (.eq (.a 9) (.add (.a 9) (.tmod (.a 13) (.l 100000)))) (.and (.eq (.a 10) (.a 10)) (.eq (.a 11) (.a 11)))))))
  (.call 15 [] [] (.bool (.a 2)) 0 1 0
  (.ret (.bool (.a 2)) []))
  (.ite (.le (.a 25) (.a 18))
  (.call 15 [] [] (.bool (.a 2)) 0 1 0
  (.ret (.bool (.a 2)) []))
  (.ret (.bool (.t false)) [])))))))))
  (.ite (.eq (.tmod (.a 12) (.l 6)) (.l 2))
  (.need (.and (.le (.l (-9223372036854775808)) (.tmod (.a 13) (.l 100000))) (.le (.tmod (.a 13) (.l 100000)) (.l 9223372036854775807)))
  (.need (.and (.le (.l (-9223372036854775808)) (.add (.a 8) (.tmod (.a 13) (.l 100000)))) (.le (.add (.a 8) (.tmod (.a 13) (.l 100000))) (.l 9223372036854775807)))
  (.call 23 [(.agg [(.int .i64 (.a 6)), (.int .i64 (.a 7)), (.int .i64 (.add (.a 8) (.tmod (.a 13) (.l 100000)))), (.int .i64 (.a 9)), (.int .i64 (.a 10)), (.int .i64 (.a 11))])] [] (.bool (.a 1)) 0 1 0
  (.ite (.not (.a 1))
  (.call 15 [] [] (.bool (.a 2)) 0 1 0
  (.ret (.bool (.a 2)) []))
  (.call 19 [(.va 0), (.agg [(.int .i64 (.a 0)), (.int .i64 (.a 1)), (.int .i64 (.a 2)), (.int .i64 (.a 3)), (.int .i64 (.a 4)), (.int .i64 (.a 5))]), (.agg [(.int .i64 (.a 6)), (.int .i64 (.a 7)), (.int .i64 (.a 8)), (.int .i64 (.a 9)), (.int .i64 (.a 10)), (.int .i64 (.a 11))])] [] (.tup [(.agg [(.int .i64 (.a 15)), (.int .i64 (.a 16)), (.int .i64 (.a 17)), (.int .i64 (.a 18)), (.int .i64 (.a 19)), (.int .i64 (.a 20))]), (.int .i64 (.a 21))]) 7 0 0
  (.call 19 [(.va 0), (.agg [(.int .i64 (.a 0)), (.int .i64 (.a 1)), (.int .i64 (.a 2)), (.int .i64 (.a 3)), (.int .i64 (.a 4)), (.int .i64 (.a 5))]), (.agg [(.int .i64 (.a 6)), (.int .i64 (.a 7)), (.int .i64 (.add (.a 8) (.tmod (.a 13) (.l 100000)))), (.int .i64 (.a 9)), (.int .i64 (.a 10)), (.int .i64 (.a 11))])] [] (.tup [(.agg [(.int .i64 (.a 22)), (.int .i64 (.a 23)), (.int .i64 (.a 24)), (.int .i64 (.a 25)), (.int .i64 (.a 26)), (.int .i64 (.a 27))]), (.int .i64 (.a 28))]) 7 0 0
  (.ite (.and (.eq (.a 6) (.a 6)) (.and (.eq (.a 7) (.a 7)) (.and (.eq (.a 8) (.add (.a 8) (.tmod (.a 13) (.l 100000)))) (.and (.eq (.a 9) (.a 9)) (.and (.eq (.a 10) (.a 10)) (.eq (.a 11) (.a 11)))))))
  (.call 15 [] [] (.bool (.a 2)) 0 1 0
  (.ret (.bool (.a 2)) []))
  (.ite (.le (.a 24) (.a 17))
  (.call 15 [] [] (.bool (.a 2)) 0 1 0
  (.ret (.bool (.a 2)) []))
  (.ret (.bool (.t false)) [])))))))))
  (.ite (.eq (.tmod (.a 12) (.l 6)) (.l 1))
  (.need (.and (.le (.l (-9223372036854775808)) (.tmod (.a 13) (.l 100000))) (.le (.tmod (.a 13) (.l 100000)) (.l 9223372036854775807)))
  (.need (.and (.le (.l (-9223372036854775808)) (.add (.a 7) (.tmod (.a 13) (.l 100000)))) (.le (.add (.a 7) (.tmod (.a 13) (.l 100000))) (.l 9223372036854775807)))
  (.call 23 [(.agg [(.int .i64 (.a 6)), (.int .i64 (.add (.a 7) (.tmod (.a 13) (.l 100000)))), (.int .i64 (.a 8)), (.int .i64 (.a 9)), (.int .i64 (.a 10)), (.int .i64 (.a 11))])] [] (.bool (.a 1)) 0 1 0
  (.ite (.not (.a 1))
  (.call 15 [] [] (.bool (.a 2)) 0 1 0
  (.ret (.bool (.a 2)) []))
  (.call 19 [(.va 0), (.agg [(.int .i64 (.a 0)), (.int .i64 (.a 1)), (.int .i64 (.a 2)), (.int .i64 (.a 3)), (.int .i64 (.a 4)), (.int .i64 (.a 5))]), (.agg [(.int .i64 (.a 6)), (.int .i64 (.a 7)), (.int .i64 (.a 8)), (.int .i64 (.a 9)), (.int .i64 (.a 10)), (.int .i64 (.a 11))])] [] (.tup [(.agg [(.int .i64 (.a 15)), (.int .i64 (.a 16)), (.int .i64 (.a 17)), (.int .i64 (.a 18)), (.int .i64 (.a 19)), (.int .i64 (.a 20))]), (.int .i64 (.a 21))]) 7 0 0
  (.call 19 [(.va 0), (.agg [(.int .i64 (.a 0)), (.int .i64 (.a 1)), (.int .i64 (.a 2)), (.int .i64 (.a 3)), (.int .i64 (.a 4)), (.int .i64 (.a 5))]), (.agg [(.int .i64 (.a 6)), (.int .i64 (.add (.a 7) (.tmod (.a 13) (.l 100000)))), (.int .i64 (.a 8)), (.int .i64 (.a 9)), (.int .i64 (.a 10)), (.int .i64 (.a 11))])] [] (.tup [(.agg [(.int .i64 (.a 22)), (.int .i64 (.a 23)), (.int .i64 (.a 24)), (.int .i64 (.a 25)), (.int .i64 (.a 26)), (.int .i64 (.a 27))]), (.int .i64 (.a 28))]) 7 0 0
  (.ite (.and (.eq (.a 6) (.a 6)) (.and (.eq (.a 7) (.add (.a 7) (.tmod (.a 13) (.l 100000)))) (.and (.eq (.a 8) (.a 8)) (.and (.eq (.a 9) (.a 9)) (.and (.eq (.a 10) (.a 10)) (.eq (.a 11) (.a 11)))))))
  (.call 15 [] [] (.bool (.a 2)) 0 1 0
  (.ret (.bool (.a 2)) []))
  (.ite (.le (.a 23) (.a 16))
  (.call 15 [] [] (.bool (.a 2)) 0 1 0
  (.ret (.bool (.a 2)) []))
  (.ret (.bool (.t false)) [])))))))))
  (.ite (.eq (.tmod (.a 12) (.l 6)) (.l 0))
  (.need (.and (.le (.l (-9223372036854775808)) (.tmod (.a 13) (.l 100000))) (.le (.tmod (.a 13) (.l 100000)) (.l 9223372036854775807)))
  (.need (.and (.le (.l (-9223372036854775808)) (.add (.a 6) (.tmod (.a 13) (.l 100000)))) (.le (.add (.a 6) (.tmod (.a 13) (.l 100000))) (.l 9223372036854775807)))
  (.call 23 [(.agg [(.int .i64 (.add (.a 6) (.tmod (.a 13) (.l 100000)))), (.int .i64 (.a 7)), (.int .i64 (.a 8)), (.int .i64 (.a 9)), (.int .i64 (.a 10)), (.int .i64 (.a 11))])] [] (.bool (.a 1)) 0 1 0
  (.ite (.not (.a 1))
  (.call 15 [] [] (.bool (.a 2)) 0 1 0
  (.ret (.bool (.a 2)) []))
  (.call 19 [(.va 0), (.agg [(.int .i64 (.a 0)), (.int .i64 (.a 1)), (.int .i64 (.a 2)), (.int .i64 (.a 3)), (.int .i64 (.a 4)), (.int .i64 (.a 5))]), (.agg [(.int .i64 (.a 6)), (.int .i64 (.a 7)), (.int .i64 (.a 8)), (.int .i64 (.a 9)), (.int .i64 (.a 10)), (.int .i64 (.a 11))])] [] (.tup [(.agg [(.int .i64 (.a 15)), (.int .i64 (.a 16)), (.int .i64 (.a 17)), (.int .i64 (.a 18)), (.int .i64 (.a 19)), (.int .i64 (.a 20))]), (.int .i64 (.a 21))]) 7 0 0
  (.call 19 [(.va 0), (.agg [(.int .i64 (.a 0)), (.int .i64 (.a 1)), (.int .i64 (.a 2)), (.int .i64 (.a 3)), (.int .i64 (.a 4)), (.int .i64 (.a 5))]), (.agg [(.int .i64 (.add (.a 6) (.tmod (.a 13) (.l 100000)))), (.int .i64 (.a 7)), (.int .i64 (.a 8)), (.int .i64 (.a 9)), (.int .i64 (.a 10)), (.int .i64 (.a 11))])] [] (.tup [(.agg [(.int .i64 (.a 22)), (.int .i64 (.a 23)), (.int .i64 (.a 24)), (.int .i64 (.a 25)), (.int .i64 (.a 26)), (.int .i64 (.a 27))]), (.int .i64 (.a 28))]) 7 0 0
  (.ite (.and (.eq (.a 6) (.add (.a 6) (.tmod (.a 13) (.l 100000)))) (.and (.eq (.a 7) (.a 7)) (.and (.eq (.a 8) (.a 8)) (.and (.eq (.a 9) (.a 9)) (.and (.eq (.a 10) (.a 10)) (.eq (.a 11) (.a 11)))))))
  (.call 15 [] [] (.bool (.a 2)) 0 1 0
  (.ret (.bool (.a 2)) []))
  (.ite (.le (.a 22) (.a 15))
  (.call 15 [] [] (.bool (.a 2)) 0 1 0
  (.ret (.bool (.a 2)) []))
  (.ret (.bool (.t false)) [])))))))))
  (.fail "index"))))))))))))))
theorem o_ll_eq : run (cx true [] []) (fnOf Try.f6) 5000 (startCfg Try.f6.ntmps [.va 0, b6 0, b6 6, .int .u8 (.a 12), .int .u32 (.a 13)] 14 0 1) = o_ll := by kernel_rfl
theorem o_ll_ct {Q : Value → Hp → Prop} {s : Hp} (i : List Int) (b : List Bool) (v : List Value) (hi : i.length = 14) (hb : b.length = 0) (hv : v.length = 1) (hok : v.all fineV = true)
    (h : ∀ w0, VC Try.prog Q (Go.Sx.Reach Try.prog 6 (Ret Q s w0) (fnOf Try.f6).body w0 s) o_ll ⟨i, b, v, []⟩ s) : Ct Try.prog 6 (SV.dens ⟨i, b, v, []⟩ id [.va 0, b6 0, b6 6, .int .u8 (.a 12), .int .u32 (.a 13)]) s Q := by
  refine ct_run (fn := fnOf Try.f6) (progOk true [] []) Try.func6 rfl rfl 5000 (fun x hx => List.all_eq_true.1 hok x hx) rfl (fun w0 => ?_)
  rw [hi, hb, hv, o_ll_eq]
  exact h w0


theorem ll_ct (L : List Of) (lv : Value) (S p : Bd) (k t : Int) (hk : 0 ≤ k ∧ k ≤ 255) (ht : 0 ≤ t ∧ t ≤ 4294967295) (s : Hp) (hl : OfIn s lv L) : Ct Try.prog 6 [lv, S.v, p.v, .int .u8 k, .int .u32 t] s (fun v s' => v = .bool true) := by
  refine o_ll_ct (S.l ++ p.l ++ [k, t]) [] [lv] rfl rfl rfl (by simp [hl.fine]) (fun w0 => ?_)
  have hr0 : 0 ≤ t.tmod 100000 := Int.tmod_nonneg _ ht.1
  have hr1 : t.tmod 100000 < 100000 := Int.tmod_lt_of_pos _ (by omega)
  have hk0 : 0 ≤ k.tmod 6 := Int.tmod_nonneg _ hk.1
  have hk1 : k.tmod 6 < 6 := Int.tmod_lt_of_pos _ (by omega)
  unfold o_ll
  conv => arg 5; simp only [Bd.l, List.cons_append, List.nil_append]
  refine vc_need hl.kind (fun _ => ?_)
  refine vc_ite (fun h => ?_) (fun h => ?_) <;> simp only [BE.den, IE.den, SV.den, SV.dens, List.getD_cons_zero, List.getD_cons_succ, List.cons_append, List.nil_append, List.append_assoc, ltB_true, leB_true, eqB_true, ltB_false, leB_false, eqB_false, Bool.not_eq_true', Bool.not_eq_false', Bool.and_eq_true, Bool.or_eq_true, Bool.and_eq_false_iff, Bool.or_eq_false_iff, hl.len, List.length_map] at h
  · exact (vc_call _ _ [] [true] [] (fun s1 _ => lives_ct s1) (fun _ => rfl) rfl rfl rfl rfl rfl (fun s1 _ => vc_ret (fun _ _ _ _ => rfl)))
  have hL : L.length ≤ 1000 := by omega
  obtain ⟨q, hq⟩ : ∃ q, q = decide (pok p) := ⟨_, rfl⟩
  have hct : ∀ s1, Ct Try.prog 23 [p.v] s1 (fun v _ => v = .bool q) := fun s1 => by rw [hq]; exact rprices_ct p s1
  refine vc_call _ _ [] [q] [] (fun s1 _ => hct s1) (fun _ => rfl) rfl rfl rfl rfl rfl (fun s1 hs1 => ?_)
  conv => arg 5; simp only [List.cons_append, List.nil_append, List.append_nil]
  refine vc_ite (fun h => ?_) (fun h => ?_)
  · exact (vc_call _ _ [] [true] [] (fun s1 _ => lives_ct s1) (fun _ => rfl) rfl rfl rfl rfl rfl (fun s1 _ => vc_ret (fun _ _ _ _ => rfl)))
  simp only [BE.den, List.getD_cons_zero, Bool.not_eq_false'] at h
  subst h
  have hp := of_decide_eq_true hq.symm
  have hpb := hp
  unfold pok Bd.all at hpb
  obtain ⟨n, hn⟩ : ∃ n, n = S.cnt := ⟨_, rfl⟩
  have hct : ∀ s1, Ct Try.prog 18 [S.v] s1 (fun v _ => v = .int .i64 n) := fun s1 => by rw [hn]; exact rcount_ct S s1
  refine vc_call _ _ [n] [] [] (fun s1 _ => hct s1) (fun _ => rfl) rfl rfl rfl rfl rfl (fun s2 hs2 => ?_)
  conv => arg 5; simp only [List.cons_append, List.nil_append, List.append_nil]
  refine vc_ite (fun h => ?_) (fun h => ?_)
  · exact (vc_call _ _ [] [true] [] (fun s1 _ => lives_ct s1) (fun _ => rfl) rfl rfl rfl rfl rfl (fun s1 _ => vc_ret (fun _ _ _ _ => rfl)))
  have hl2 := (hl.mono hs1).mono hs2
  refine vc_need (by simp only [BE.den, IE.den, SV.den, SV.dens, List.getD_cons_zero, List.getD_cons_succ, List.cons_append, List.nil_append, List.append_assoc, ltB_true, leB_true, eqB_true, ltB_false, leB_false, eqB_false, Bool.not_eq_true', Bool.not_eq_false', Bool.and_eq_true, Bool.or_eq_true, Bool.and_eq_false_iff, Bool.or_eq_false_iff]; omega) (fun _ => ?_)
  refine vc_ite (fun hj => ?_) (fun hj5 => ?_)
  · skip
    refine vc_need (by simp only [BE.den, IE.den, SV.den, SV.dens, List.getD_cons_zero, List.getD_cons_succ, List.cons_append, List.nil_append, List.append_assoc, ltB_true, leB_true, eqB_true, ltB_false, leB_false, eqB_false, Bool.not_eq_true', Bool.not_eq_false', Bool.and_eq_true, Bool.or_eq_true, Bool.and_eq_false_iff, Bool.or_eq_false_iff]; omega) (fun _ => ?_)
    refine vc_need (by simp only [BE.den, IE.den, SV.den, SV.dens, List.getD_cons_zero, List.getD_cons_succ, List.cons_append, List.nil_append, List.append_assoc, ltB_true, leB_true, eqB_true, ltB_false, leB_false, eqB_false, Bool.not_eq_true', Bool.not_eq_false', Bool.and_eq_true, Bool.or_eq_true, Bool.and_eq_false_iff, Bool.or_eq_false_iff]; omega) (fun _ => ?_)
    obtain ⟨q, hq⟩ : ∃ q, q = decide (pok (p.bump (t.tmod 100000) 5)) := ⟨_, rfl⟩
    have hct : ∀ s1, Ct Try.prog 23 [(p.bump (t.tmod 100000) 5).v] s1 (fun v _ => v = .bool q) := fun s1 => by rw [hq]; exact rprices_ct _ s1
    refine vc_call _ _ [] [q] [] (fun s1 _ => hct s1) (fun _ => rfl) rfl rfl rfl rfl rfl (fun s3 hs3 => ?_)
    conv => arg 5; simp only [List.cons_append, List.nil_append, List.append_nil]
    refine vc_ite (fun h => ?_) (fun h => ?_)
    · exact (vc_call _ _ [] [true] [] (fun s1 _ => lives_ct s1) (fun _ => rfl) rfl rfl rfl rfl rfl (fun s1 _ => vc_ret (fun _ _ _ _ => rfl)))
    simp only [BE.den, List.getD_cons_zero, List.getD_cons_succ, Bool.not_eq_false'] at h
    subst h
    have hpq := of_decide_eq_true hq.symm
    have hl3 := hl2.mono hs3
    have hlaw : 0 < t.tmod 100000 → (best L S (p.bump (t.tmod 100000) 5)).1.at 5 ≤ (best L S p).1.at 5 := fun h0 => demand_law L S p _ h0 5 hp hpq
    obtain ⟨x, hx⟩ : ∃ x, x = best L S p := ⟨_, rfl⟩
    obtain ⟨z, hz⟩ : ∃ z, z = best L S (p.bump (t.tmod 100000) 5) := ⟨_, rfl⟩
    rw [← hx, ← hz] at hlaw
    obtain ⟨b, m⟩ := x
    obtain ⟨d, m2⟩ := z
    have hct : ∀ s4, s3.le s4 → Ct Try.prog 19 [lv, S.v, p.v] s4 (fun v _ => v = bestV (b, m)) := fun s2 hs2 => by rw [hx]; exact best_ct L hL lv S p s2 (hl3.mono hs2)
    refine vc_call _ _ (b.l ++ [m]) [] [] hct (fun _ => rfl) rfl rfl rfl rfl rfl (fun s4 hs4 => ?_)
    conv => arg 5; simp only [List.cons_append, List.nil_append, List.append_nil, Bd.l]
    have hl4 := hl3.mono hs4
    have hct : ∀ s5, s4.le s5 → Ct Try.prog 19 [lv, S.v, (p.bump (t.tmod 100000) 5).v] s5 (fun v _ => v = bestV (d, m2)) := fun s2 hs2 => by rw [hz]; exact best_ct L hL lv S _ s2 (hl4.mono hs2)
    refine vc_call _ _ (d.l ++ [m2]) [] [] hct (fun _ => rfl) rfl rfl rfl rfl rfl (fun s5 hs5 => ?_)
    conv => arg 5; simp only [List.cons_append, List.nil_append, List.append_nil, Bd.l]
    refine vc_ite (fun h => ?_) (fun h => ?_)
    · exact (vc_call _ _ [] [true] [] (fun s1 _ => lives_ct s1) (fun _ => rfl) rfl rfl rfl rfl rfl (fun s1 _ => vc_ret (fun _ _ _ _ => rfl)))
    refine vc_ite (fun h6 => ?_) (fun h6 => ?_)
    · exact (vc_call _ _ [] [true] [] (fun s1 _ => lives_ct s1) (fun _ => rfl) rfl rfl rfl rfl rfl (fun s1 _ => vc_ret (fun _ _ _ _ => rfl)))
    · exfalso
      simp only [BE.den, IE.den, SV.den, SV.dens, List.getD_cons_zero, List.getD_cons_succ, List.cons_append, List.nil_append, List.append_assoc, ltB_true, leB_true, eqB_true, ltB_false, leB_false, eqB_false, Bool.not_eq_true', Bool.not_eq_false', Bool.and_eq_true, Bool.or_eq_true, Bool.and_eq_false_iff, Bool.or_eq_false_iff] at h h6
      have h7 : 0 < t.tmod 100000 := by
        rcases Int.lt_or_eq_of_le hr0 with h8 | h8
        · exact h8
        · exfalso; rw [← h8] at h; simp at h
      have := hlaw h7
      simp only [Bd.at] at this
      omega
  refine vc_ite (fun hj => ?_) (fun hj4 => ?_)
  · skip
    refine vc_need (by simp only [BE.den, IE.den, SV.den, SV.dens, List.getD_cons_zero, List.getD_cons_succ, List.cons_append, List.nil_append, List.append_assoc, ltB_true, leB_true, eqB_true, ltB_false, leB_false, eqB_false, Bool.not_eq_true', Bool.not_eq_false', Bool.and_eq_true, Bool.or_eq_true, Bool.and_eq_false_iff, Bool.or_eq_false_iff]; omega) (fun _ => ?_)
    refine vc_need (by simp only [BE.den, IE.den, SV.den, SV.dens, List.getD_cons_zero, List.getD_cons_succ, List.cons_append, List.nil_append, List.append_assoc, ltB_true, leB_true, eqB_true, ltB_false, leB_false, eqB_false, Bool.not_eq_true', Bool.not_eq_false', Bool.and_eq_true, Bool.or_eq_true, Bool.and_eq_false_iff, Bool.or_eq_false_iff]; omega) (fun _ => ?_)
    obtain ⟨q, hq⟩ : ∃ q, q = decide (pok (p.bump (t.tmod 100000) 4)) := ⟨_, rfl⟩
    have hct : ∀ s1, Ct Try.prog 23 [(p.bump (t.tmod 100000) 4).v] s1 (fun v _ => v = .bool q) := fun s1 => by rw [hq]; exact rprices_ct _ s1
    refine vc_call _ _ [] [q] [] (fun s1 _ => hct s1) (fun _ => rfl) rfl rfl rfl rfl rfl (fun s3 hs3 => ?_)
    conv => arg 5; simp only [List.cons_append, List.nil_append, List.append_nil]
    refine vc_ite (fun h => ?_) (fun h => ?_)
    · exact (vc_call _ _ [] [true] [] (fun s1 _ => lives_ct s1) (fun _ => rfl) rfl rfl rfl rfl rfl (fun s1 _ => vc_ret (fun _ _ _ _ => rfl)))
    simp only [BE.den, List.getD_cons_zero, List.getD_cons_succ, Bool.not_eq_false'] at h
    subst h
    have hpq := of_decide_eq_true hq.symm
    have hl3 := hl2.mono hs3
    have hlaw : 0 < t.tmod 100000 → (best L S (p.bump (t.tmod 100000) 4)).1.at 4 ≤ (best L S p).1.at 4 := fun h0 => demand_law L S p _ h0 4 hp hpq
    obtain ⟨x, hx⟩ : ∃ x, x = best L S p := ⟨_, rfl⟩
    obtain ⟨z, hz⟩ : ∃ z, z = best L S (p.bump (t.tmod 100000) 4) := ⟨_, rfl⟩
    rw [← hx, ← hz] at hlaw
    obtain ⟨b, m⟩ := x
    obtain ⟨d, m2⟩ := z
    have hct : ∀ s4, s3.le s4 → Ct Try.prog 19 [lv, S.v, p.v] s4 (fun v _ => v = bestV (b, m)) := fun s2 hs2 => by rw [hx]; exact best_ct L hL lv S p s2 (hl3.mono hs2)
    refine vc_call _ _ (b.l ++ [m]) [] [] hct (fun _ => rfl) rfl rfl rfl rfl rfl (fun s4 hs4 => ?_)
    conv => arg 5; simp only [List.cons_append, List.nil_append, List.append_nil, Bd.l]
    have hl4 := hl3.mono hs4
    have hct : ∀ s5, s4.le s5 → Ct Try.prog 19 [lv, S.v, (p.bump (t.tmod 100000) 4).v] s5 (fun v _ => v = bestV (d, m2)) := fun s2 hs2 => by rw [hz]; exact best_ct L hL lv S _ s2 (hl4.mono hs2)
    refine vc_call _ _ (d.l ++ [m2]) [] [] hct (fun _ => rfl) rfl rfl rfl rfl rfl (fun s5 hs5 => ?_)
    conv => arg 5; simp only [List.cons_append, List.nil_append, List.append_nil, Bd.l]
    refine vc_ite (fun h => ?_) (fun h => ?_)
    · exact (vc_call _ _ [] [true] [] (fun s1 _ => lives_ct s1) (fun _ => rfl) rfl rfl rfl rfl rfl (fun s1 _ => vc_ret (fun _ _ _ _ => rfl)))
    refine vc_ite (fun h6 => ?_) (fun h6 => ?_)
    · exact (vc_call _ _ [] [true] [] (fun s1 _ => lives_ct s1) (fun _ => rfl) rfl rfl rfl rfl rfl (fun s1 _ => vc_ret (fun _ _ _ _ => rfl)))
    · exfalso
      simp only [BE.den, IE.den, SV.den, SV.dens, List.getD_cons_zero, List.getD_cons_succ, List.cons_append, List.nil_append, List.append_assoc, ltB_true, leB_true, eqB_true, ltB_false, leB_false, eqB_false, Bool.not_eq_true', Bool.not_eq_false', Bool.and_eq_true, Bool.or_eq_true, Bool.and_eq_false_iff, Bool.or_eq_false_iff] at h h6
      have h7 : 0 < t.tmod 100000 := by
        rcases Int.lt_or_eq_of_le hr0 with h8 | h8
        · exact h8
        · exfalso; rw [← h8] at h; simp at h
      have := hlaw h7
      simp only [Bd.at] at this
      omega
  refine vc_ite (fun hj => ?_) (fun hj3 => ?_)
  · skip
    refine vc_need (by simp only [BE.den, IE.den, SV.den, SV.dens, List.getD_cons_zero, List.getD_cons_succ, List.cons_append, List.nil_append, List.append_assoc, ltB_true, leB_true, eqB_true, ltB_false, leB_false, eqB_false, Bool.not_eq_true', Bool.not_eq_false', Bool.and_eq_true, Bool.or_eq_true, Bool.and_eq_false_iff, Bool.or_eq_false_iff]; omega) (fun _ => ?_)
    refine vc_need (by simp only [BE.den, IE.den, SV.den, SV.dens, List.getD_cons_zero, List.getD_cons_succ, List.cons_append, List.nil_append, List.append_assoc, ltB_true, leB_true, eqB_true, ltB_false, leB_false, eqB_false, Bool.not_eq_true', Bool.not_eq_false', Bool.and_eq_true, Bool.or_eq_true, Bool.and_eq_false_iff, Bool.or_eq_false_iff]; omega) (fun _ => ?_)
    obtain ⟨q, hq⟩ : ∃ q, q = decide (pok (p.bump (t.tmod 100000) 3)) := ⟨_, rfl⟩
    have hct : ∀ s1, Ct Try.prog 23 [(p.bump (t.tmod 100000) 3).v] s1 (fun v _ => v = .bool q) := fun s1 => by rw [hq]; exact rprices_ct _ s1
    refine vc_call _ _ [] [q] [] (fun s1 _ => hct s1) (fun _ => rfl) rfl rfl rfl rfl rfl (fun s3 hs3 => ?_)
    conv => arg 5; simp only [List.cons_append, List.nil_append, List.append_nil]
    refine vc_ite (fun h => ?_) (fun h => ?_)
    · exact (vc_call _ _ [] [true] [] (fun s1 _ => lives_ct s1) (fun _ => rfl) rfl rfl rfl rfl rfl (fun s1 _ => vc_ret (fun _ _ _ _ => rfl)))
    simp only [BE.den, List.getD_cons_zero, List.getD_cons_succ, Bool.not_eq_false'] at h
    subst h
    have hpq := of_decide_eq_true hq.symm
    have hl3 := hl2.mono hs3
    have hlaw : 0 < t.tmod 100000 → (best L S (p.bump (t.tmod 100000) 3)).1.at 3 ≤ (best L S p).1.at 3 := fun h0 => demand_law L S p _ h0 3 hp hpq
    obtain ⟨x, hx⟩ : ∃ x, x = best L S p := ⟨_, rfl⟩
    obtain ⟨z, hz⟩ : ∃ z, z = best L S (p.bump (t.tmod 100000) 3) := ⟨_, rfl⟩
    rw [← hx, ← hz] at hlaw
    obtain ⟨b, m⟩ := x
    obtain ⟨d, m2⟩ := z
    have hct : ∀ s4, s3.le s4 → Ct Try.prog 19 [lv, S.v, p.v] s4 (fun v _ => v = bestV (b, m)) := fun s2 hs2 => by rw [hx]; exact best_ct L hL lv S p s2 (hl3.mono hs2)
    refine vc_call _ _ (b.l ++ [m]) [] [] hct (fun _ => rfl) rfl rfl rfl rfl rfl (fun s4 hs4 => ?_)
    conv => arg 5; simp only [List.cons_append, List.nil_append, List.append_nil, Bd.l]
    have hl4 := hl3.mono hs4
    have hct : ∀ s5, s4.le s5 → Ct Try.prog 19 [lv, S.v, (p.bump (t.tmod 100000) 3).v] s5 (fun v _ => v = bestV (d, m2)) := fun s2 hs2 => by rw [hz]; exact best_ct L hL lv S _ s2 (hl4.mono hs2)
    refine vc_call _ _ (d.l ++ [m2]) [] [] hct (fun _ => rfl) rfl rfl rfl rfl rfl (fun s5 hs5 => ?_)
    conv => arg 5; simp only [List.cons_append, List.nil_append, List.append_nil, Bd.l]
    refine vc_ite (fun h => ?_) (fun h => ?_)
    · exact (vc_call _ _ [] [true] [] (fun s1 _ => lives_ct s1) (fun _ => rfl) rfl rfl rfl rfl rfl (fun s1 _ => vc_ret (fun _ _ _ _ => rfl)))
    refine vc_ite (fun h6 => ?_) (fun h6 => ?_)
    · exact (vc_call _ _ [] [true] [] (fun s1 _ => lives_ct s1) (fun _ => rfl) rfl rfl rfl rfl rfl (fun s1 _ => vc_ret (fun _ _ _ _ => rfl)))
    · exfalso
      simp only [BE.den, IE.den, SV.den, SV.dens, List.getD_cons_zero, List.getD_cons_succ, List.cons_append, List.nil_append, List.append_assoc, ltB_true, leB_true, eqB_true, ltB_false, leB_false, eqB_false, Bool.not_eq_true', Bool.not_eq_false', Bool.and_eq_true, Bool.or_eq_true, Bool.and_eq_false_iff, Bool.or_eq_false_iff] at h h6
      have h7 : 0 < t.tmod 100000 := by
        rcases Int.lt_or_eq_of_le hr0 with h8 | h8
        · exact h8
        · exfalso; rw [← h8] at h; simp at h
      have := hlaw h7
      simp only [Bd.at] at this
      omega
  refine vc_ite (fun hj => ?_) (fun hj2 => ?_)
  · skip
    refine vc_need (by simp only [BE.den, IE.den, SV.den, SV.dens, List.getD_cons_zero, List.getD_cons_succ, List.cons_append, List.nil_append, List.append_assoc, ltB_true, leB_true, eqB_true, ltB_false, leB_false, eqB_false, Bool.not_eq_true', Bool.not_eq_false', Bool.and_eq_true, Bool.or_eq_true, Bool.and_eq_false_iff, Bool.or_eq_false_iff]; omega) (fun _ => ?_)
    refine vc_need (by simp only [BE.den, IE.den, SV.den, SV.dens, List.getD_cons_zero, List.getD_cons_succ, List.cons_append, List.nil_append, List.append_assoc, ltB_true, leB_true, eqB_true, ltB_false, leB_false, eqB_false, Bool.not_eq_true', Bool.not_eq_false', Bool.and_eq_true, Bool.or_eq_true, Bool.and_eq_false_iff, Bool.or_eq_false_iff]; omega) (fun _ => ?_)
    obtain ⟨q, hq⟩ : ∃ q, q = decide (pok (p.bump (t.tmod 100000) 2)) := ⟨_, rfl⟩
    have hct : ∀ s1, Ct Try.prog 23 [(p.bump (t.tmod 100000) 2).v] s1 (fun v _ => v = .bool q) := fun s1 => by rw [hq]; exact rprices_ct _ s1
    refine vc_call _ _ [] [q] [] (fun s1 _ => hct s1) (fun _ => rfl) rfl rfl rfl rfl rfl (fun s3 hs3 => ?_)
    conv => arg 5; simp only [List.cons_append, List.nil_append, List.append_nil]
    refine vc_ite (fun h => ?_) (fun h => ?_)
    · exact (vc_call _ _ [] [true] [] (fun s1 _ => lives_ct s1) (fun _ => rfl) rfl rfl rfl rfl rfl (fun s1 _ => vc_ret (fun _ _ _ _ => rfl)))
    simp only [BE.den, List.getD_cons_zero, List.getD_cons_succ, Bool.not_eq_false'] at h
    subst h
    have hpq := of_decide_eq_true hq.symm
    have hl3 := hl2.mono hs3
    have hlaw : 0 < t.tmod 100000 → (best L S (p.bump (t.tmod 100000) 2)).1.at 2 ≤ (best L S p).1.at 2 := fun h0 => demand_law L S p _ h0 2 hp hpq
    obtain ⟨x, hx⟩ : ∃ x, x = best L S p := ⟨_, rfl⟩
    obtain ⟨z, hz⟩ : ∃ z, z = best L S (p.bump (t.tmod 100000) 2) := ⟨_, rfl⟩
    rw [← hx, ← hz] at hlaw
    obtain ⟨b, m⟩ := x
    obtain ⟨d, m2⟩ := z
    have hct : ∀ s4, s3.le s4 → Ct Try.prog 19 [lv, S.v, p.v] s4 (fun v _ => v = bestV (b, m)) := fun s2 hs2 => by rw [hx]; exact best_ct L hL lv S p s2 (hl3.mono hs2)
    refine vc_call _ _ (b.l ++ [m]) [] [] hct (fun _ => rfl) rfl rfl rfl rfl rfl (fun s4 hs4 => ?_)
    conv => arg 5; simp only [List.cons_append, List.nil_append, List.append_nil, Bd.l]
    have hl4 := hl3.mono hs4
    have hct : ∀ s5, s4.le s5 → Ct Try.prog 19 [lv, S.v, (p.bump (t.tmod 100000) 2).v] s5 (fun v _ => v = bestV (d, m2)) := fun s2 hs2 => by rw [hz]; exact best_ct L hL lv S _ s2 (hl4.mono hs2)
    refine vc_call _ _ (d.l ++ [m2]) [] [] hct (fun _ => rfl) rfl rfl rfl rfl rfl (fun s5 hs5 => ?_)
    conv => arg 5; simp only [List.cons_append, List.nil_append, List.append_nil, Bd.l]
    refine vc_ite (fun h => ?_) (fun h => ?_)
    · exact (vc_call _ _ [] [true] [] (fun s1 _ => lives_ct s1) (fun _ => rfl) rfl rfl rfl rfl rfl (fun s1 _ => vc_ret (fun _ _ _ _ => rfl)))
    refine vc_ite (fun h6 => ?_) (fun h6 => ?_)
    · exact (vc_call _ _ [] [true] [] (fun s1 _ => lives_ct s1) (fun _ => rfl) rfl rfl rfl rfl rfl (fun s1 _ => vc_ret (fun _ _ _ _ => rfl)))
    · exfalso
      simp only [BE.den, IE.den, SV.den, SV.dens, List.getD_cons_zero, List.getD_cons_succ, List.cons_append, List.nil_append, List.append_assoc, ltB_true, leB_true, eqB_true, ltB_false, leB_false, eqB_false, Bool.not_eq_true', Bool.not_eq_false', Bool.and_eq_true, Bool.or_eq_true, Bool.and_eq_false_iff, Bool.or_eq_false_iff] at h h6
      have h7 : 0 < t.tmod 100000 := by
        rcases Int.lt_or_eq_of_le hr0 with h8 | h8
        · exact h8
        · exfalso; rw [← h8] at h; simp at h
      have := hlaw h7
      simp only [Bd.at] at this
      omega
  refine vc_ite (fun hj => ?_) (fun hj1 => ?_)
  · skip
    refine vc_need (by simp only [BE.den, IE.den, SV.den, SV.dens, List.getD_cons_zero, List.getD_cons_succ, List.cons_append, List.nil_append, List.append_assoc, ltB_true, leB_true, eqB_true, ltB_false, leB_false, eqB_false, Bool.not_eq_true', Bool.not_eq_false', Bool.and_eq_true, Bool.or_eq_true, Bool.and_eq_false_iff, Bool.or_eq_false_iff]; omega) (fun _ => ?_)
    refine vc_need (by simp only [BE.den, IE.den, SV.den, SV.dens, List.getD_cons_zero, List.getD_cons_succ, List.cons_append, List.nil_append, List.append_assoc, ltB_true, leB_true, eqB_true, ltB_false, leB_false, eqB_false, Bool.not_eq_true', Bool.not_eq_false', Bool.and_eq_true, Bool.or_eq_true, Bool.and_eq_false_iff, Bool.or_eq_false_iff]; omega) (fun _ => ?_)
    obtain ⟨q, hq⟩ : ∃ q, q = decide (pok (p.bump (t.tmod 100000) 1)) := ⟨_, rfl⟩
    have hct : ∀ s1, Ct Try.prog 23 [(p.bump (t.tmod 100000) 1).v] s1 (fun v _ => v = .bool q) := fun s1 => by rw [hq]; exact rprices_ct _ s1
    refine vc_call _ _ [] [q] [] (fun s1 _ => hct s1) (fun _ => rfl) rfl rfl rfl rfl rfl (fun s3 hs3 => ?_)
    conv => arg 5; simp only [List.cons_append, List.nil_append, List.append_nil]
    refine vc_ite (fun h => ?_) (fun h => ?_)
    · exact (vc_call _ _ [] [true] [] (fun s1 _ => lives_ct s1) (fun _ => rfl) rfl rfl rfl rfl rfl (fun s1 _ => vc_ret (fun _ _ _ _ => rfl)))
    simp only [BE.den, List.getD_cons_zero, List.getD_cons_succ, Bool.not_eq_false'] at h
    subst h
    have hpq := of_decide_eq_true hq.symm
    have hl3 := hl2.mono hs3
    have hlaw : 0 < t.tmod 100000 → (best L S (p.bump (t.tmod 100000) 1)).1.at 1 ≤ (best L S p).1.at 1 := fun h0 => demand_law L S p _ h0 1 hp hpq
    obtain ⟨x, hx⟩ : ∃ x, x = best L S p := ⟨_, rfl⟩
    obtain ⟨z, hz⟩ : ∃ z, z = best L S (p.bump (t.tmod 100000) 1) := ⟨_, rfl⟩
    rw [← hx, ← hz] at hlaw
    obtain ⟨b, m⟩ := x
    obtain ⟨d, m2⟩ := z
    have hct : ∀ s4, s3.le s4 → Ct Try.prog 19 [lv, S.v, p.v] s4 (fun v _ => v = bestV (b, m)) := fun s2 hs2 => by rw [hx]; exact best_ct L hL lv S p s2 (hl3.mono hs2)
    refine vc_call _ _ (b.l ++ [m]) [] [] hct (fun _ => rfl) rfl rfl rfl rfl rfl (fun s4 hs4 => ?_)
    conv => arg 5; simp only [List.cons_append, List.nil_append, List.append_nil, Bd.l]
    have hl4 := hl3.mono hs4
    have hct : ∀ s5, s4.le s5 → Ct Try.prog 19 [lv, S.v, (p.bump (t.tmod 100000) 1).v] s5 (fun v _ => v = bestV (d, m2)) := fun s2 hs2 => by rw [hz]; exact best_ct L hL lv S _ s2 (hl4.mono hs2)
    refine vc_call _ _ (d.l ++ [m2]) [] [] hct (fun _ => rfl) rfl rfl rfl rfl rfl (fun s5 hs5 => ?_)
    conv => arg 5; simp only [List.cons_append, List.nil_append, List.append_nil, Bd.l]
    refine vc_ite (fun h => ?_) (fun h => ?_)
    · exact (vc_call _ _ [] [true] [] (fun s1 _ => lives_ct s1) (fun _ => rfl) rfl rfl rfl rfl rfl (fun s1 _ => vc_ret (fun _ _ _ _ => rfl)))
    refine vc_ite (fun h6 => ?_) (fun h6 => ?_)
    · exact (vc_call _ _ [] [true] [] (fun s1 _ => lives_ct s1) (fun _ => rfl) rfl rfl rfl rfl rfl (fun s1 _ => vc_ret (fun _ _ _ _ => rfl)))
    · exfalso
      simp only [BE.den, IE.den, SV.den, SV.dens, List.getD_cons_zero, List.getD_cons_succ, List.cons_append, List.nil_append, List.append_assoc, ltB_true, leB_true, eqB_true, ltB_false, leB_false, eqB_false, Bool.not_eq_true', Bool.not_eq_false', Bool.and_eq_true, Bool.or_eq_true, Bool.and_eq_false_iff, Bool.or_eq_false_iff] at h h6
      have h7 : 0 < t.tmod 100000 := by
        rcases Int.lt_or_eq_of_le hr0 with h8 | h8
        · exact h8
        · exfalso; rw [← h8] at h; simp at h
      have := hlaw h7
      simp only [Bd.at] at this
      omega
  refine vc_ite (fun hj => ?_) (fun hj0 => ?_)
  · skip
    refine vc_need (by simp only [BE.den, IE.den, SV.den, SV.dens, List.getD_cons_zero, List.getD_cons_succ, List.cons_append, List.nil_append, List.append_assoc, ltB_true, leB_true, eqB_true, ltB_false, leB_false, eqB_false, Bool.not_eq_true', Bool.not_eq_false', Bool.and_eq_true, Bool.or_eq_true, Bool.and_eq_false_iff, Bool.or_eq_false_iff]; omega) (fun _ => ?_)
    refine vc_need (by simp only [BE.den, IE.den, SV.den, SV.dens, List.getD_cons_zero, List.getD_cons_succ, List.cons_append, List.nil_append, List.append_assoc, ltB_true, leB_true, eqB_true, ltB_false, leB_false, eqB_false, Bool.not_eq_true', Bool.not_eq_false', Bool.and_eq_true, Bool.or_eq_true, Bool.and_eq_false_iff, Bool.or_eq_false_iff]; omega) (fun _ => ?_)
    obtain ⟨q, hq⟩ : ∃ q, q = decide (pok (p.bump (t.tmod 100000) 0)) := ⟨_, rfl⟩
    have hct : ∀ s1, Ct Try.prog 23 [(p.bump (t.tmod 100000) 0).v] s1 (fun v _ => v = .bool q) := fun s1 => by rw [hq]; exact rprices_ct _ s1
    refine vc_call _ _ [] [q] [] (fun s1 _ => hct s1) (fun _ => rfl) rfl rfl rfl rfl rfl (fun s3 hs3 => ?_)
    conv => arg 5; simp only [List.cons_append, List.nil_append, List.append_nil]
    refine vc_ite (fun h => ?_) (fun h => ?_)
    · exact (vc_call _ _ [] [true] [] (fun s1 _ => lives_ct s1) (fun _ => rfl) rfl rfl rfl rfl rfl (fun s1 _ => vc_ret (fun _ _ _ _ => rfl)))
    simp only [BE.den, List.getD_cons_zero, List.getD_cons_succ, Bool.not_eq_false'] at h
    subst h
    have hpq := of_decide_eq_true hq.symm
    have hl3 := hl2.mono hs3
    have hlaw : 0 < t.tmod 100000 → (best L S (p.bump (t.tmod 100000) 0)).1.at 0 ≤ (best L S p).1.at 0 := fun h0 => demand_law L S p _ h0 0 hp hpq
    obtain ⟨x, hx⟩ : ∃ x, x = best L S p := ⟨_, rfl⟩
    obtain ⟨z, hz⟩ : ∃ z, z = best L S (p.bump (t.tmod 100000) 0) := ⟨_, rfl⟩
    rw [← hx, ← hz] at hlaw
    obtain ⟨b, m⟩ := x
    obtain ⟨d, m2⟩ := z
    have hct : ∀ s4, s3.le s4 → Ct Try.prog 19 [lv, S.v, p.v] s4 (fun v _ => v = bestV (b, m)) := fun s2 hs2 => by rw [hx]; exact best_ct L hL lv S p s2 (hl3.mono hs2)
    refine vc_call _ _ (b.l ++ [m]) [] [] hct (fun _ => rfl) rfl rfl rfl rfl rfl (fun s4 hs4 => ?_)
    conv => arg 5; simp only [List.cons_append, List.nil_append, List.append_nil, Bd.l]
    have hl4 := hl3.mono hs4
    have hct : ∀ s5, s4.le s5 → Ct Try.prog 19 [lv, S.v, (p.bump (t.tmod 100000) 0).v] s5 (fun v _ => v = bestV (d, m2)) := fun s2 hs2 => by rw [hz]; exact best_ct L hL lv S _ s2 (hl4.mono hs2)
    refine vc_call _ _ (d.l ++ [m2]) [] [] hct (fun _ => rfl) rfl rfl rfl rfl rfl (fun s5 hs5 => ?_)
    conv => arg 5; simp only [List.cons_append, List.nil_append, List.append_nil, Bd.l]
    refine vc_ite (fun h => ?_) (fun h => ?_)
    · exact (vc_call _ _ [] [true] [] (fun s1 _ => lives_ct s1) (fun _ => rfl) rfl rfl rfl rfl rfl (fun s1 _ => vc_ret (fun _ _ _ _ => rfl)))
    refine vc_ite (fun h6 => ?_) (fun h6 => ?_)
    · exact (vc_call _ _ [] [true] [] (fun s1 _ => lives_ct s1) (fun _ => rfl) rfl rfl rfl rfl rfl (fun s1 _ => vc_ret (fun _ _ _ _ => rfl)))
    · exfalso
      simp only [BE.den, IE.den, SV.den, SV.dens, List.getD_cons_zero, List.getD_cons_succ, List.cons_append, List.nil_append, List.append_assoc, ltB_true, leB_true, eqB_true, ltB_false, leB_false, eqB_false, Bool.not_eq_true', Bool.not_eq_false', Bool.and_eq_true, Bool.or_eq_true, Bool.and_eq_false_iff, Bool.or_eq_false_iff] at h h6
      have h7 : 0 < t.tmod 100000 := by
        rcases Int.lt_or_eq_of_le hr0 with h8 | h8
        · exact h8
        · exfalso; rw [← h8] at h; simp at h
      have := hlaw h7
      simp only [Bd.at] at this
      omega
  exfalso
  simp only [BE.den, IE.den, SV.den, SV.dens, List.getD_cons_zero, List.getD_cons_succ, List.cons_append, List.nil_append, List.append_assoc, ltB_true, leB_true, eqB_true, ltB_false, leB_false, eqB_false, Bool.not_eq_true', Bool.not_eq_false', Bool.and_eq_true, Bool.or_eq_true, Bool.and_eq_false_iff, Bool.or_eq_false_iff] at hj0 hj1 hj2 hj3 hj4 hj5
  omega

end Go.Proofs.Ytbmfegliomkkfaa
