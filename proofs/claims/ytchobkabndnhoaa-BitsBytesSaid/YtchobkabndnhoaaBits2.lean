/- What the functions of the reference of package bits compute: one contract each. -/
import Derived.Test.YtchobkabndnhoaaBits1
import Derived.BigQuiet
import Derived.Outline
import Derived.Deep.QuietTactic
namespace Go.Proofs.Ytchobkabndnhoaa
open Go.RowKit
set_option linter.unusedVariables false
set_option maxHeartbeats 400000
end Go.Proofs.Ytchobkabndnhoaa
