/- Contracts of the program's functions on the evaluator without names, and plain lemmas: XBefore. -/
import Derived.Test.YtcffalienbbohaaXSame
namespace Go.Proofs.Ytcffalienbbohaa.VS
set_option linter.unusedVariables false
set_option linter.unusedSimpArgs false
end Go.Proofs.Ytcffalienbbohaa.VS
