/- Any offers that come in are a list of offers. -/
import Derived.Test.YthmkfeiapdbojaaHFl
import Derived.Test.YthmkfeiapdbojaaHVr
set_option linter.unusedSimpArgs false
set_option linter.unusedVariables false
set_option maxRecDepth 100000
namespace Go.Proofs.Ythmkfeiapdbojaa
open Go.Sx Go.Bun
end Go.Proofs.Ythmkfeiapdbojaa
