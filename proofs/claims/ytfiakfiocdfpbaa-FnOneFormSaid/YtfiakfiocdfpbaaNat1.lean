/- Functions of the library that are told by what they compute. -/
import Derived.Test.YtfiakfiocdfpbaaEngD
import Derived.Test.YtfiakfiocdfpbaaNat0
import Derived.Below
set_option linter.unusedSimpArgs false
set_option linter.unusedVariables false
namespace Go.Proofs.Ytfiakfiocdfpbaa.VS
open Go.RowKit (Below)
variable {P:Program} {fid:Nat->FuncId}
end Go.Proofs.Ytfiakfiocdfpbaa.VS
