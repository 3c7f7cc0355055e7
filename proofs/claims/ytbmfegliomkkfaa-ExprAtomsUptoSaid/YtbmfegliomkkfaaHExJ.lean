/- The examples of the chapter. -/
import Derived.Test.YtbmfegliomkkfaaHExI
set_option linter.unusedSimpArgs false
set_option linter.unusedVariables false
set_option maxRecDepth 100000
namespace Go.Proofs.Ytbmfegliomkkfaa
open Go.Sx
theorem awake_sem : evalF Tab 1048650 n_saleroomlaw11_awake [] [] = some (.bool true, []) := by kernel_rfl
theorem awake_sem2 : evalF Tab 1400000 n_saleroomlaw11_awake [] [] = some (.bool true, []) := by kernel_rfl
end Go.Proofs.Ytbmfegliomkkfaa
