/- Contracts of the program's functions on the evaluator without names, and plain lemmas: XWeight. -/
import Derived.Test.YtcffalienbbohaaXSig
import Derived.Test.YtcffalienbbohaaXCount
namespace Go.Proofs.Ytcffalienbbohaa.VS
set_option linter.unusedVariables false
set_option linter.unusedSimpArgs false
def wW (l : List SymL) (x : T) : Int := if blindB l x.f = true ∧ 0 < x.kids.length then (x.kids.length : Int) - 1 else 1
def cellsT (f v : Int) (ks : List T) : Boxs := [some [.d (.int .i64 f), .d (.int .i64 v), .d (terms .sub ks)]]
end Go.Proofs.Ytcffalienbbohaa.VS
