/- Functions of the library that are told by what they compute. -/
import Derived.Test.YtnjgnjejkmcgmaaEngD
import Derived.Test.YtnjgnjejkmcgmaaNat0
import Derived.Below
namespace Go.Proofs.Ytnjgnjejkmcgmaa.VS
open Go.RowKit (Below)
set_option linter.unusedVariables false
set_option linter.unusedSimpArgs false
variable {P : Program} {fid : Nat → FuncId}
end Go.Proofs.Ytnjgnjejkmcgmaa.VS
