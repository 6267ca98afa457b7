/-
  NARROWER THAN 'FOR EVERY INPUT', by the rows' own cells (each row's printed sentence says how): FnExactOriented: loops.
  DERIVED. THE GIVEN ROWS OF THIS SEAT. 3 by the template 'for every input the law returns true; each argument reads behind the call as it read before'; 0 by the template 'total and deterministic' (their statements: YtficfeekkljoeaaTotals.lean).
  GIVEN WITH THE SEED: the statements are not yours to turn. If you find one false, say at which input.
  Laid BY PROGRAM, IN A SANDBOX (cutbox-rows.mjs): the forced cells as the released guide's own fill.sh prints them over the translation 100c360ab0eaf725… (all of the seat's roots in one cut). By AI agents, Wed Nov 11 2026. No macro, syntax, notation, axiom, sorry.
-/
import Derived.Test.YtficfeekkljoeaaChecked
import GoSem.Claim
import GoSem.ClaimJoined
import GoSem.ClaimMapViews
import Derived.JoinedTies
import Derived.KernelRfl
namespace Go.Proofs.Ytficfeekkljoeaa
/- THE CELL 'sum', in the pinned program and in every row, IS THE sha256 OF THE DUMP (.gsa) THAT YtficfeekkljoeaaProg.lean LOADS. Nothing in Lean hashes anything: it is a label: what it is worth is what the hold of that sum in a sandbox is worth. -/
noncomputable def Try.pinned : Pinned := { name := "ytficfeekkljoeaa", sum := "100c360ab0eaf725d2c923e3807701a8f6455e061e95e6650a6b3e9dcc44deca", checked := Try.checked }
namespace Rows
def none {H : Type} : Left H := { results := [], args := [] }

/-- 'laws.FnExactBasis': WHATEVER THE INPUT: true; the input reads as it did. -/
def fnExactBasisSpec : ChangeSpec := { name := "fnExactBasis", fn := fun _ => fun
  | [d1, d2] => { results := [.lit (.bool true)], args := [d1, d2] }
  | _ => none }
def fnExactBasisRow : OpenClaim := { program := "ytficfeekkljoeaa", sum := "100c360ab0eaf725d2c923e3807701a8f6455e061e95e6650a6b3e9dcc44deca", func := "loop.example/g00461/laws.FnExactBasis", spec := "fnExactBasis", unfollowed := true, recurses := true, apart := false }
def FnExactBasisSaid : Prop := fnExactBasisRow.holds Try.pinned (OpenSpec.ofChange fnExactBasisSpec)

/-- ITS FALSE NEIGHBOUR: 'it returns false'. Refute it at one input. -/
def fnExactBasisWrong : ChangeSpec := { name := "fnExactBasis", fn := fun _ => fun
  | [d1, d2] => { results := [.lit (.bool false)], args := [d1, d2] }
  | _ => none }
def FnExactBasisWrongFalsely : Prop := fnExactBasisRow.holds Try.pinned (OpenSpec.ofChange fnExactBasisWrong)

/-- 'laws.FnBasisSums': WHATEVER THE INPUT: true; the input reads as it did. -/
def fnBasisSumsSpec : ChangeSpec := { name := "fnBasisSums", fn := fun _ => fun
  | [d] => { results := [.lit (.bool true)], args := [d] }
  | _ => none }
def fnBasisSumsRow : OpenClaim := { program := "ytficfeekkljoeaa", sum := "100c360ab0eaf725d2c923e3807701a8f6455e061e95e6650a6b3e9dcc44deca", func := "loop.example/g00461/laws.FnBasisSums", spec := "fnBasisSums", unfollowed := true, recurses := true, apart := false }
def FnBasisSumsSaid : Prop := fnBasisSumsRow.holds Try.pinned (OpenSpec.ofChange fnBasisSumsSpec)

/-- ITS FALSE NEIGHBOUR: 'it returns false'. Refute it at one input. -/
def fnBasisSumsWrong : ChangeSpec := { name := "fnBasisSums", fn := fun _ => fun
  | [d] => { results := [.lit (.bool false)], args := [d] }
  | _ => none }
def FnBasisSumsWrongFalsely : Prop := fnBasisSumsRow.holds Try.pinned (OpenSpec.ofChange fnBasisSumsWrong)

/-- 'laws.FnExactOriented': WHATEVER THE INPUT: true; the input reads as it did. -/
def fnExactOrientedSpec : ChangeSpec := { name := "fnExactOriented", fn := fun _ => fun
  | [d1, d2, d3] => { results := [.lit (.bool true)], args := [d1, d2, d3] }
  | _ => none }
def fnExactOrientedRow : OpenClaim := { program := "ytficfeekkljoeaa", sum := "100c360ab0eaf725d2c923e3807701a8f6455e061e95e6650a6b3e9dcc44deca", func := "loop.example/g00461/laws.FnExactOriented", spec := "fnExactOriented", inPlace := ["slices.overlaps[int]"], unfollowed := true, recurses := true, loops := true, apart := false }
def FnExactOrientedSaid : Prop := fnExactOrientedRow.holds Try.pinned (OpenSpec.ofChange fnExactOrientedSpec)

/-- ITS FALSE NEIGHBOUR: 'it returns false'. Refute it at one input. -/
def fnExactOrientedWrong : ChangeSpec := { name := "fnExactOriented", fn := fun _ => fun
  | [d1, d2, d3] => { results := [.lit (.bool false)], args := [d1, d2, d3] }
  | _ => none }
def FnExactOrientedWrongFalsely : Prop := fnExactOrientedRow.holds Try.pinned (OpenSpec.ofChange fnExactOrientedWrong)

/- THE SECOND FORM. 'bulk': how many values and letters a reading holds, each counted each time it is reached (what is shared counts as often as it is met; a slice's spare places count too). A statement '..UptoSaid' is the law's where the arguments, and the package variables that the reading takes, are together of bulk at most 1048576: NARROWER than '..Said'. Prove '..Said' where nothing that the law and all that it calls make is longer than what came in: it says more and counts as full. Else prove '..UptoSaid'. A law counts once. -/
mutual
def uptoBulk {H : Type} : DataW H → Nat
  | .lit (.string bytes) => bytes.length + 1
  | .lit _ => 1
  | .nil => 1
  | .ptr d => uptoBulk d + 1
  | .slice elems spare => uptoBulkAll elems + uptoBulkAll spare + 1
  | .agg parts => uptoBulkAll parts + 1
  | .iface _ d => uptoBulk d + 1
  | .map entries => uptoBulkEntries entries + 1
  | .held _ => 1
def uptoBulkAll {H : Type} : List (DataW H) → Nat
  | [] => 0
  | d :: r => uptoBulk d + uptoBulkAll r
def uptoBulkEntries {H : Type} : List (Lit × DataW H) → Nat
  | [] => 0
  | x :: r => uptoBulkEntry x + uptoBulkEntries r
def uptoBulkEntry {H : Type} : Lit × DataW H → Nat
  | (.string bytes, d) => bytes.length + uptoBulk d + 1
  | (_, d) => uptoBulk d + 1
 end
def uptoSmall : (H : Type) → List (DataW H) → Bool := fun _ ds => decide (uptoBulkAll ds ≤ 1048576)
def OpenSpec.upto (s : _root_.Go.ChangeSpec) : _root_.Go.OpenSpec := { _root_.Go.OpenSpec.ofChange s with cond := some uptoSmall }

/-- 'laws.FnExactBasis', WHERE WHAT IT READS IS OF BULK AT MOST 1048576: true; the input reads as it did. -/
def fnExactBasisUptoRow : OpenClaim := { program := "ytficfeekkljoeaa", sum := "100c360ab0eaf725d2c923e3807701a8f6455e061e95e6650a6b3e9dcc44deca", func := "loop.example/g00461/laws.FnExactBasis", spec := "fnExactBasis", unfollowed := true, recurses := true, apart := false, narrowed := true }
def FnExactBasisUptoSaid : Prop := fnExactBasisUptoRow.holds Try.pinned (OpenSpec.upto fnExactBasisSpec)

/-- 'laws.FnBasisSums', WHERE WHAT IT READS IS OF BULK AT MOST 1048576: true; the input reads as it did. -/
def fnBasisSumsUptoRow : OpenClaim := { program := "ytficfeekkljoeaa", sum := "100c360ab0eaf725d2c923e3807701a8f6455e061e95e6650a6b3e9dcc44deca", func := "loop.example/g00461/laws.FnBasisSums", spec := "fnBasisSums", unfollowed := true, recurses := true, apart := false, narrowed := true }
def FnBasisSumsUptoSaid : Prop := fnBasisSumsUptoRow.holds Try.pinned (OpenSpec.upto fnBasisSumsSpec)

/-- 'laws.FnExactOriented', WHERE WHAT IT READS IS OF BULK AT MOST 1048576: true; the input reads as it did. -/
def fnExactOrientedUptoRow : OpenClaim := { program := "ytficfeekkljoeaa", sum := "100c360ab0eaf725d2c923e3807701a8f6455e061e95e6650a6b3e9dcc44deca", func := "loop.example/g00461/laws.FnExactOriented", spec := "fnExactOriented", inPlace := ["slices.overlaps[int]"], unfollowed := true, recurses := true, loops := true, apart := false, narrowed := true }
def FnExactOrientedUptoSaid : Prop := fnExactOrientedUptoRow.holds Try.pinned (OpenSpec.upto fnExactOrientedSpec)

end Rows
end Go.Proofs.Ytficfeekkljoeaa
