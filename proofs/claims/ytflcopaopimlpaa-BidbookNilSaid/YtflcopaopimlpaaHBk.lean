/- The examples of the chapter on books of offers. -/
import Derived.Test.YtflcopaopimlpaaHSys
set_option linter.unusedSimpArgs false
set_option linter.unusedVariables false
set_option maxRecDepth 100000
namespace Go.Proofs.Ytflcopaopimlpaa
open Go.Sx
end Go.Proofs.Ytflcopaopimlpaa
