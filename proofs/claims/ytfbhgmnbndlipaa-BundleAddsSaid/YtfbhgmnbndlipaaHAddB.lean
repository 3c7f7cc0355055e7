/- The law BundleAdds: true, whatever comes in. -/
import Derived.Test.YtfbhgmnbndlipaaHAdd
set_option linter.unusedSimpArgs false
set_option linter.unusedVariables false
namespace Go.Proofs.Ytfbhgmnbndlipaa
open Go.Sx Go.Bun

def o_bundleAdds : Out :=
  (.call 26 [(.agg [(.int .i64 (.a 0)), (.int .i64 (.a 1)), (.int .i64 (.a 2)), (.int .i64 (.a 3)), (.int .i64 (.a 4)), (.int .i64 (.a 5))])] [] (.bool (.a 0)) 0 1 0
  (.ite (.not (.a 0))
  (.call 13 [] [] (.bool (.a 1)) 0 1 0
  (.ret (.bool (.a 1)) []))
  (.call 26 [(.agg [(.int .i64 (.a 6)), (.int .i64 (.a 7)), (.int .i64 (.a 8)), (.int .i64 (.a 9)), (.int .i64 (.a 10)), (.int .i64 (.a 11))])] [] (.bool (.a 1)) 0 1 0
  (.ite (.not (.a 1))
  (.call 13 [] [] (.bool (.a 2)) 0 1 0
  (.ret (.bool (.a 2)) []))
  (.ite (.lt (.a 12) (.l (-1000000000)))
  (.call 13 [] [] (.bool (.a 2)) 0 1 0
  (.ret (.bool (.a 2)) []))
  (.ite (.lt (.l 1000000000) (.a 12))
  (.call 13 [] [] (.bool (.a 2)) 0 1 0
  (.ret (.bool (.a 2)) []))
  (.ite (.lt (.a 13) (.l (-1000000000)))
  (.call 13 [] [] (.bool (.a 2)) 0 1 0
  (.ret (.bool (.a 2)) []))
  (.ite (.lt (.l 1000000000) (.a 13))
  (.call 13 [] [] (.bool (.a 2)) 0 1 0
  (.ret (.bool (.a 2)) []))
  (.ite (.lt (.a 14) (.l (-1000000000)))
  (.call 13 [] [] (.bool (.a 2)) 0 1 0
  (.ret (.bool (.a 2)) []))
  (.ite (.lt (.l 1000000000) (.a 14))
  (.call 13 [] [] (.bool (.a 2)) 0 1 0
  (.ret (.bool (.a 2)) []))
  (.ite (.lt (.a 15) (.l (-1000000000)))
  (.call 13 [] [] (.bool (.a 2)) 0 1 0
  (.ret (.bool (.a 2)) []))
  (.ite (.lt (.l 1000000000) (.a 15))
  (.call 13 [] [] (.bool (.a 2)) 0 1 0
  (.ret (.bool (.a 2)) []))
  (.ite (.lt (.a 16) (.l (-1000000000)))
  (.call 13 [] [] (.bool (.a 2)) 0 1 0
  (.ret (.bool (.a 2)) []))
  (.ite (.lt (.l 1000000000) (.a 16))
  (.call 13 [] [] (.bool (.a 2)) 0 1 0
  (.ret (.bool (.a 2)) []))
  (.ite (.lt (.a 17) (.l (-1000000000)))
  (.call 13 [] [] (.bool (.a 2)) 0 1 0
  (.ret (.bool (.a 2)) []))
  (.ite (.lt (.l 1000000000) (.a 17))
  (.call 13 [] [] (.bool (.a 2)) 0 1 0
  (.ret (.bool (.a 2)) []))
  (.call 27 [(.agg [(.int .i64 (.a 0)), (.int .i64 (.a 1)), (.int .i64 (.a 2)), (.int .i64 (.a 3)), (.int .i64 (.a 4)), (.int .i64 (.a 5))]), (.agg [(.int .i64 (.a 6)), (.int .i64 (.a 7)), (.int .i64 (.a 8)), (.int .i64 (.a 9)), (.int .i64 (.a 10)), (.int .i64 (.a 11))])] [] (.agg [(.int .i64 (.a 18)), (.int .i64 (.a 19)), (.int .i64 (.a 20)), (.int .i64 (.a 21)), (.int .i64 (.a 22)), (.int .i64 (.a 23))]) 6 0 0
  (.call 28 [(.agg [(.int .i64 (.a 0)), (.int .i64 (.a 1)), (.int .i64 (.a 2)), (.int .i64 (.a 3)), (.int .i64 (.a 4)), (.int .i64 (.a 5))]), (.agg [(.int .i64 (.a 6)), (.int .i64 (.a 7)), (.int .i64 (.a 8)), (.int .i64 (.a 9)), (.int .i64 (.a 10)), (.int .i64 (.a 11))])] [] (.agg [(.int .i64 (.a 24)), (.int .i64 (.a 25)), (.int .i64 (.a 26)), (.int .i64 (.a 27)), (.int .i64 (.a 28)), (.int .i64 (.a 29))]) 6 0 0
  (.ite (.and (.eq (.a 18) (.a 24)) (.and (.eq (.a 19) (.a 25)) (.and (.eq (.a 20) (.a 26)) (.and (.eq (.a 21) (.a 27)) (.and (.eq (.a 22) (.a 28)) (.eq (.a 23) (.a 29)))))))
  (.call 29 [(.agg [(.int .i64 (.a 0)), (.int .i64 (.a 1)), (.int .i64 (.a 2)), (.int .i64 (.a 3)), (.int .i64 (.a 4)), (.int .i64 (.a 5))]), (.agg [(.int .i64 (.a 6)), (.int .i64 (.a 7)), (.int .i64 (.a 8)), (.int .i64 (.a 9)), (.int .i64 (.a 10)), (.int .i64 (.a 11))])] [] (.agg [(.int .i64 (.a 30)), (.int .i64 (.a 31)), (.int .i64 (.a 32)), (.int .i64 (.a 33)), (.int .i64 (.a 34)), (.int .i64 (.a 35))]) 6 0 0
  (.call 30 [(.agg [(.int .i64 (.a 0)), (.int .i64 (.a 1)), (.int .i64 (.a 2)), (.int .i64 (.a 3)), (.int .i64 (.a 4)), (.int .i64 (.a 5))]), (.agg [(.int .i64 (.a 6)), (.int .i64 (.a 7)), (.int .i64 (.a 8)), (.int .i64 (.a 9)), (.int .i64 (.a 10)), (.int .i64 (.a 11))])] [] (.agg [(.int .i64 (.a 36)), (.int .i64 (.a 37)), (.int .i64 (.a 38)), (.int .i64 (.a 39)), (.int .i64 (.a 40)), (.int .i64 (.a 41))]) 6 0 0
  (.ite (.and (.eq (.a 30) (.a 36)) (.and (.eq (.a 31) (.a 37)) (.and (.eq (.a 32) (.a 38)) (.and (.eq (.a 33) (.a 39)) (.and (.eq (.a 34) (.a 40)) (.eq (.a 35) (.a 41)))))))
  (.call 31 [(.agg [(.int .i64 (.a 0)), (.int .i64 (.a 1)), (.int .i64 (.a 2)), (.int .i64 (.a 3)), (.int .i64 (.a 4)), (.int .i64 (.a 5))])] [] (.int .i64 (.a 42)) 1 0 0
  (.call 32 [(.agg [(.int .i64 (.a 0)), (.int .i64 (.a 1)), (.int .i64 (.a 2)), (.int .i64 (.a 3)), (.int .i64 (.a 4)), (.int .i64 (.a 5))])] [] (.int .i64 (.a 43)) 1 0 0
  (.ite (.eq (.a 42) (.a 43))
  (.call 33 [(.agg [(.int .i64 (.a 12)), (.int .i64 (.a 13)), (.int .i64 (.a 14)), (.int .i64 (.a 15)), (.int .i64 (.a 16)), (.int .i64 (.a 17))]), (.agg [(.int .i64 (.a 0)), (.int .i64 (.a 1)), (.int .i64 (.a 2)), (.int .i64 (.a 3)), (.int .i64 (.a 4)), (.int .i64 (.a 5))])] [] (.int .i64 (.a 44)) 1 0 0
  (.call 34 [(.agg [(.int .i64 (.a 12)), (.int .i64 (.a 13)), (.int .i64 (.a 14)), (.int .i64 (.a 15)), (.int .i64 (.a 16)), (.int .i64 (.a 17))]), (.agg [(.int .i64 (.a 0)), (.int .i64 (.a 1)), (.int .i64 (.a 2)), (.int .i64 (.a 3)), (.int .i64 (.a 4)), (.int .i64 (.a 5))])] [] (.int .i64 (.a 45)) 1 0 0
  (.ite (.eq (.a 44) (.a 45))
  (.call 19 [(.agg [(.int .i64 (.a 0)), (.int .i64 (.a 1)), (.int .i64 (.a 2)), (.int .i64 (.a 3)), (.int .i64 (.a 4)), (.int .i64 (.a 5))]), (.agg [(.int .i64 (.a 6)), (.int .i64 (.a 7)), (.int .i64 (.a 8)), (.int .i64 (.a 9)), (.int .i64 (.a 10)), (.int .i64 (.a 11))])] [] (.agg [(.int .i64 (.a 46)), (.int .i64 (.a 47)), (.int .i64 (.a 48)), (.int .i64 (.a 49)), (.int .i64 (.a 50)), (.int .i64 (.a 51))]) 6 0 0
  (.call 21 [(.agg [(.int .i64 (.a 0)), (.int .i64 (.a 1)), (.int .i64 (.a 2)), (.int .i64 (.a 3)), (.int .i64 (.a 4)), (.int .i64 (.a 5))]), (.agg [(.int .i64 (.a 6)), (.int .i64 (.a 7)), (.int .i64 (.a 8)), (.int .i64 (.a 9)), (.int .i64 (.a 10)), (.int .i64 (.a 11))])] [] (.agg [(.int .i64 (.a 52)), (.int .i64 (.a 53)), (.int .i64 (.a 54)), (.int .i64 (.a 55)), (.int .i64 (.a 56)), (.int .i64 (.a 57))]) 6 0 0
  (.call 27 [(.agg [(.int .i64 (.a 46)), (.int .i64 (.a 47)), (.int .i64 (.a 48)), (.int .i64 (.a 49)), (.int .i64 (.a 50)), (.int .i64 (.a 51))]), (.agg [(.int .i64 (.a 52)), (.int .i64 (.a 53)), (.int .i64 (.a 54)), (.int .i64 (.a 55)), (.int .i64 (.a 56)), (.int .i64 (.a 57))])] [] (.agg [(.int .i64 (.a 58)), (.int .i64 (.a 59)), (.int .i64 (.a 60)), (.int .i64 (.a 61)), (.int .i64 (.a 62)), (.int .i64 (.a 63))]) 6 0 0
  (.ite (.and (.eq (.a 58) (.a 18)) (.and (.eq (.a 59) (.a 19)) (.and (.eq (.a 60) (.a 20)) (.and (.eq (.a 61) (.a 21)) (.and (.eq (.a 62) (.a 22)) (.eq (.a 63) (.a 23)))))))
  (.call 13 [] [] (.bool (.a 2)) 0 1 0
  (.ret (.bool (.a 2)) []))
  (.ret (.bool (.t false)) [])))))
  (.ret (.bool (.t false)) []))))
  (.ret (.bool (.t false)) []))))
  (.ret (.bool (.t false)) []))))
  (.ret (.bool (.t false)) []))))))))))))))))))))
theorem o_bundleAdds_eq : run (cx true [] []) (fnOf Try.f6) 5000 (startCfg Try.f6.ntmps [b6 0, b6 6, b6 12] 18 0 0) = o_bundleAdds := by kernel_rfl
theorem o_bundleAdds_ct {Q : Value → Hp → Prop} {s : Hp} (i : List Int) (b : List Bool) (v : List Value) (hi : i.length = 18) (hb : b.length = 0) (hv : v.length = 0) (hok : v.all fineV = true)
    (h : ∀ w0, VC Try.prog Q (Go.Sx.Reach Try.prog 6 (Ret Q s w0) (fnOf Try.f6).body w0 s) o_bundleAdds ⟨i, b, v, []⟩ s) : Ct Try.prog 6 (SV.dens ⟨i, b, v, []⟩ id [b6 0, b6 6, b6 12]) s Q := by
  refine ct_run (fn := fnOf Try.f6) (progOk true [] []) Try.func6 rfl rfl 5000 (fun x hx => List.all_eq_true.1 hok x hx) rfl (fun w0 => ?_)
  rw [hi, hb, hv, o_bundleAdds_eq]
  exact h w0

end Go.Proofs.Ytfbhgmnbndlipaa
