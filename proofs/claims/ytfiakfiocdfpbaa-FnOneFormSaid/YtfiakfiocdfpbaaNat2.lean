/- Functions of the library that are told by what they compute. -/
import Derived.Test.YtfiakfiocdfpbaaEngC
import Derived.Test.YtfiakfiocdfpbaaNat0
set_option linter.unusedSimpArgs false
set_option linter.unusedVariables false
namespace Go.Proofs.Ytfiakfiocdfpbaa.VS
end Go.Proofs.Ytfiakfiocdfpbaa.VS
