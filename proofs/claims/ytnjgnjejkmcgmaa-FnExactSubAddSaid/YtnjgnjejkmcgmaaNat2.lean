/- Functions of the library that are told by what they compute. -/
import Derived.Test.YtnjgnjejkmcgmaaEngC
import Derived.Test.YtnjgnjejkmcgmaaNat0
namespace Go.Proofs.Ytnjgnjejkmcgmaa.VS
set_option linter.unusedVariables false
set_option linter.unusedSimpArgs false
end Go.Proofs.Ytnjgnjejkmcgmaa.VS
