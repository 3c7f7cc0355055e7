/- The examples of the chapter on revealed preference. -/
import Derived.Test.YthjahianafohjaaHSys
import Derived.Test.YthjahianafohjaaHTxZ
set_option linter.unusedSimpArgs false
set_option linter.unusedVariables false
set_option maxRecDepth 100000
namespace Go.Proofs.Ythjahianafohjaa
open Go.Sx
theorem lives_sem : evalF Tab 3000 n_saleroomlaw36_lives [] [] = some (.bool true, []) := by kernel_rfl
end Go.Proofs.Ythjahianafohjaa
