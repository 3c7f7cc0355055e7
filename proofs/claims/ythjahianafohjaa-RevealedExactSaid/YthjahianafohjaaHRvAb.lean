/- The examples of the chapter hold, with more fuel. -/
import Derived.Test.YthjahianafohjaaHSac
set_option linter.unusedSimpArgs false
set_option linter.unusedVariables false
set_option maxRecDepth 100000
namespace Go.Proofs.Ythjahianafohjaa
open Go.Sx
theorem lives_more : evalF Tab 40000 n_saleroomlaw36_lives [] [] = some (.bool true, []) := by kernel_rfl
end Go.Proofs.Ythjahianafohjaa
