/- The laws BundleCounts and BundleRanks: the executor's trees. -/
import Derived.Test.YtfbhgmnbndlipaaHRk
import Derived.Test.YtfbhgmnbndlipaaHBunM
set_option linter.unusedSimpArgs false
set_option linter.unusedVariables false
namespace Go.Proofs.Ytfbhgmnbndlipaa
open Go.Sx Go.Bun
theorem ct_mono {P : Program} {f : FuncId} {args : List Value} {s : Hp} {Q Q' : Value → Hp → Prop} (h : Ct P f args s Q) (hq : ∀ v s', Q v s' → Q' v s') : Ct P f args s Q' :=
  fun w hw => (h w hw).mono fun e w' ⟨v, s', h1, h2, h3, h4, h5, h6⟩ => ⟨v, s', h1, h2, h3, h4, h5, hq v s' h6⟩
theorem rrank_ct (S b : Bd) (s : Hp) : Ct Try.prog 10 [S.v, b.v] s (fun v _ => v = .tuple #[.int .i64 (S.rank b).1, .int .i64 (S.rank b).2]) :=
  ct_mono (rk_ct S b s) fun v s' h => by
    rcases h with ⟨i, h1, rfl⟩ | ⟨h1, rfl⟩
    · rw [rank_found h1]
    · rw [rank_none h1]
theorem runrank_ct (S : Bd) (n : Int) (s : Hp) : Ct Try.prog 15 [S.v, .int .i64 n] s (fun v _ => v = .tuple #[(S.unrank n).1.v, .int .i64 (S.unrank n).2]) :=
  ct_mono (ur_ct S n s) fun v s' h => by
    rcases h with ⟨b, h0, h1, rfl⟩ | ⟨h1, rfl⟩
    · rw [unrank_found h0 h1]
    · rw [unrank_none h1]
def o_bundleCounts : Out :=
  (.call 9 [(.agg [(.int .i64 (.a 0)), (.int .i64 (.a 1)), (.int .i64 (.a 2)), (.int .i64 (.a 3)), (.int .i64 (.a 4)), (.int .i64 (.a 5))]), (.agg [(.int .i64 (.a 6)), (.int .i64 (.a 7)), (.int .i64 (.a 8)), (.int .i64 (.a 9)), (.int .i64 (.a 10)), (.int .i64 (.a 11))])] [] (.tup [(.int .i64 (.a 12)), (.int .i64 (.a 13))]) 2 0 0
  (.call 10 [(.agg [(.int .i64 (.a 0)), (.int .i64 (.a 1)), (.int .i64 (.a 2)), (.int .i64 (.a 3)), (.int .i64 (.a 4)), (.int .i64 (.a 5))]), (.agg [(.int .i64 (.a 6)), (.int .i64 (.a 7)), (.int .i64 (.a 8)), (.int .i64 (.a 9)), (.int .i64 (.a 10)), (.int .i64 (.a 11))])] [] (.tup [(.int .i64 (.a 14)), (.int .i64 (.a 15))]) 2 0 0
  (.call 11 [(.agg [(.int .i64 (.a 0)), (.int .i64 (.a 1)), (.int .i64 (.a 2)), (.int .i64 (.a 3)), (.int .i64 (.a 4)), (.int .i64 (.a 5))])] [] (.int .i64 (.a 16)) 1 0 0
  (.call 12 [(.agg [(.int .i64 (.a 0)), (.int .i64 (.a 1)), (.int .i64 (.a 2)), (.int .i64 (.a 3)), (.int .i64 (.a 4)), (.int .i64 (.a 5))])] [] (.int .i64 (.a 17)) 1 0 0
  (.ite (.eq (.a 16) (.a 17))
  (.ite (.eq (.a 13) (.a 15))
  (.ite (.eq (.a 12) (.a 14))
  (.call 13 [] [] (.bool (.a 0)) 0 1 0
  (.ret (.bool (.a 0)) []))
  (.ret (.bool (.t false)) []))
  (.ret (.bool (.t false)) []))
  (.ret (.bool (.t false)) []))))))
theorem o_bundleCounts_eq : run (cx true [] []) (fnOf Try.f3) 5000 (startCfg Try.f3.ntmps [b6 0, b6 6] 12 0 0) = o_bundleCounts := by kernel_rfl
theorem o_bundleCounts_ct {Q : Value → Hp → Prop} {s : Hp} (i : List Int) (b : List Bool) (v : List Value) (hi : i.length = 12) (hb : b.length = 0) (hv : v.length = 0) (hok : v.all fineV = true)
    (h : ∀ w0, VC Try.prog Q (Go.Sx.Reach Try.prog 3 (Ret Q s w0) (fnOf Try.f3).body w0 s) o_bundleCounts ⟨i, b, v, []⟩ s) : Ct Try.prog 3 (SV.dens ⟨i, b, v, []⟩ id [b6 0, b6 6]) s Q := by
  refine ct_run (fn := fnOf Try.f3) (progOk true [] []) Try.func3 rfl rfl 5000 (fun x hx => List.all_eq_true.1 hok x hx) rfl (fun w0 => ?_)
  rw [hi, hb, hv, o_bundleCounts_eq]
  exact h w0

def o_bundleRanks : Out :=
  (.call 14 [(.agg [(.int .i64 (.a 0)), (.int .i64 (.a 1)), (.int .i64 (.a 2)), (.int .i64 (.a 3)), (.int .i64 (.a 4)), (.int .i64 (.a 5))]), (.int .i64 (.a 6))] [] (.tup [(.agg [(.int .i64 (.a 8)), (.int .i64 (.a 9)), (.int .i64 (.a 10)), (.int .i64 (.a 11)), (.int .i64 (.a 12)), (.int .i64 (.a 13))]), (.int .i64 (.a 14))]) 7 0 0
  (.call 15 [(.agg [(.int .i64 (.a 0)), (.int .i64 (.a 1)), (.int .i64 (.a 2)), (.int .i64 (.a 3)), (.int .i64 (.a 4)), (.int .i64 (.a 5))]), (.int .i64 (.a 6))] [] (.tup [(.agg [(.int .i64 (.a 15)), (.int .i64 (.a 16)), (.int .i64 (.a 17)), (.int .i64 (.a 18)), (.int .i64 (.a 19)), (.int .i64 (.a 20))]), (.int .i64 (.a 21))]) 7 0 0
  (.ite (.not (.eq (.a 14) (.a 21)))
  (.ret (.bool (.t false)) [])
  (.ite (.not (.and (.eq (.a 8) (.a 15)) (.and (.eq (.a 9) (.a 16)) (.and (.eq (.a 10) (.a 17)) (.and (.eq (.a 11) (.a 18)) (.and (.eq (.a 12) (.a 19)) (.eq (.a 13) (.a 20))))))))
  (.ret (.bool (.t false)) [])
  (.ite (.not (.eq (.a 14) (.l 0)))
  (.call 13 [] [] (.bool (.a 0)) 0 1 0
  (.ret (.bool (.a 0)) []))
  (.call 9 [(.agg [(.int .i64 (.a 0)), (.int .i64 (.a 1)), (.int .i64 (.a 2)), (.int .i64 (.a 3)), (.int .i64 (.a 4)), (.int .i64 (.a 5))]), (.agg [(.int .i64 (.a 8)), (.int .i64 (.a 9)), (.int .i64 (.a 10)), (.int .i64 (.a 11)), (.int .i64 (.a 12)), (.int .i64 (.a 13))])] [] (.tup [(.int .i64 (.a 22)), (.int .i64 (.a 23))]) 2 0 0
  (.ite (.not (.eq (.a 23) (.l 0)))
  (.ret (.bool (.t false)) [])
  (.ite (.not (.eq (.a 22) (.a 6)))
  (.ret (.bool (.t false)) [])
  (.call 14 [(.agg [(.int .i64 (.a 0)), (.int .i64 (.a 1)), (.int .i64 (.a 2)), (.int .i64 (.a 3)), (.int .i64 (.a 4)), (.int .i64 (.a 5))]), (.int .i64 (.a 7))] [] (.tup [(.agg [(.int .i64 (.a 24)), (.int .i64 (.a 25)), (.int .i64 (.a 26)), (.int .i64 (.a 27)), (.int .i64 (.a 28)), (.int .i64 (.a 29))]), (.int .i64 (.a 30))]) 7 0 0
  (.ite (.not (.eq (.a 30) (.l 0)))
  (.call 13 [] [] (.bool (.a 0)) 0 1 0
  (.ret (.bool (.a 0)) []))
  (.ite (.lt (.a 6) (.a 7))
  (.call 16 [(.agg [(.int .i64 (.a 8)), (.int .i64 (.a 9)), (.int .i64 (.a 10)), (.int .i64 (.a 11)), (.int .i64 (.a 12)), (.int .i64 (.a 13))]), (.agg [(.int .i64 (.a 24)), (.int .i64 (.a 25)), (.int .i64 (.a 26)), (.int .i64 (.a 27)), (.int .i64 (.a 28)), (.int .i64 (.a 29))])] [] (.int .i64 (.a 31)) 1 0 0
  (.ite (.eq (.a 31) (.l (-1)))
  (.call 13 [] [] (.bool (.a 0)) 0 1 0
  (.ret (.bool (.a 0)) []))
  (.ret (.bool (.t false)) [])))
  (.ite (.lt (.a 7) (.a 6))
  (.call 16 [(.agg [(.int .i64 (.a 8)), (.int .i64 (.a 9)), (.int .i64 (.a 10)), (.int .i64 (.a 11)), (.int .i64 (.a 12)), (.int .i64 (.a 13))]), (.agg [(.int .i64 (.a 24)), (.int .i64 (.a 25)), (.int .i64 (.a 26)), (.int .i64 (.a 27)), (.int .i64 (.a 28)), (.int .i64 (.a 29))])] [] (.int .i64 (.a 31)) 1 0 0
  (.ite (.eq (.a 31) (.l 1))
  (.call 13 [] [] (.bool (.a 0)) 0 1 0
  (.ret (.bool (.a 0)) []))
  (.ret (.bool (.t false)) [])))
  (.call 16 [(.agg [(.int .i64 (.a 8)), (.int .i64 (.a 9)), (.int .i64 (.a 10)), (.int .i64 (.a 11)), (.int .i64 (.a 12)), (.int .i64 (.a 13))]), (.agg [(.int .i64 (.a 24)), (.int .i64 (.a 25)), (.int .i64 (.a 26)), (.int .i64 (.a 27)), (.int .i64 (.a 28)), (.int .i64 (.a 29))])] [] (.int .i64 (.a 31)) 1 0 0
  (.ite (.eq (.a 31) (.l 0))
  (.call 13 [] [] (.bool (.a 0)) 0 1 0
  (.ret (.bool (.a 0)) []))
  (.ret (.bool (.t false)) [])))))))))))))))
theorem o_bundleRanks_eq : run (cx true [] []) (fnOf Try.f4) 5000 (startCfg Try.f4.ntmps [b6 0, iA 6, iA 7] 8 0 0) = o_bundleRanks := by kernel_rfl
theorem o_bundleRanks_ct {Q : Value → Hp → Prop} {s : Hp} (i : List Int) (b : List Bool) (v : List Value) (hi : i.length = 8) (hb : b.length = 0) (hv : v.length = 0) (hok : v.all fineV = true)
    (h : ∀ w0, VC Try.prog Q (Go.Sx.Reach Try.prog 4 (Ret Q s w0) (fnOf Try.f4).body w0 s) o_bundleRanks ⟨i, b, v, []⟩ s) : Ct Try.prog 4 (SV.dens ⟨i, b, v, []⟩ id [b6 0, iA 6, iA 7]) s Q := by
  refine ct_run (fn := fnOf Try.f4) (progOk true [] []) Try.func4 rfl rfl 5000 (fun x hx => List.all_eq_true.1 hok x hx) rfl (fun w0 => ?_)
  rw [hi, hb, hv, o_bundleRanks_eq]
  exact h w0

end Go.Proofs.Ytfbhgmnbndlipaa
