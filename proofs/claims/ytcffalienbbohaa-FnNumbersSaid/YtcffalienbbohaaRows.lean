/-
  No cell of these rows narrows 'for every input' (looked for: loops, veiled, ifaces, maps, wideKeys, modest, calm, conditions, laid).
  DERIVED. THE GIVEN ROWS OF THIS SEAT. 5 by the template 'for every input the law returns true; each argument reads behind the call as it read before'; 0 by the template 'total and deterministic' (their statements: YtcffalienbbohaaTotals.lean).
  GIVEN WITH THE SEED: the statements are not yours to turn. If you find one false, say at which input.
  Laid BY PROGRAM, IN A SANDBOX (cutbox-rows.mjs): the forced cells as the released guide's own fill.sh prints them over the translation 1a0084443d42a617… (all of the seat's roots in one cut). By AI agents, Wed Nov 11 2026. No macro, syntax, notation, axiom, sorry.
-/
import Derived.Test.YtcffalienbbohaaChecked
import GoSem.Claim
import GoSem.ClaimJoined
import GoSem.ClaimMapViews
import Derived.JoinedTies
import Derived.KernelRfl
namespace Go.Proofs.Ytcffalienbbohaa
/- THE CELL 'sum', in the pinned program and in every row, IS THE sha256 OF THE DUMP (.gsa) THAT YtcffalienbbohaaProg.lean LOADS. Nothing in Lean hashes anything: it is a label: what it is worth is what the hold of that sum in a sandbox is worth. -/
noncomputable def Try.pinned : Pinned := { name := "ytcffalienbbohaa", sum := "1a0084443d42a617126f0a29cf3863b753d0c851aeb87c40583e8fed1e26727e", checked := Try.checked }
namespace Rows
def none {H : Type} : Left H := { results := [], args := [] }

/-- 'laws.FnExactBasis': WHATEVER THE INPUT: true; the input reads as it did. -/
def fnExactBasisSpec : ChangeSpec := { name := "fnExactBasis", fn := fun _ => fun
  | [d1, d2] => { results := [.lit (.bool true)], args := [d1, d2] }
  | _ => none }
def fnExactBasisRow : OpenClaim := { program := "ytcffalienbbohaa", sum := "1a0084443d42a617126f0a29cf3863b753d0c851aeb87c40583e8fed1e26727e", func := "loop.example/g00461/laws.FnExactBasis", spec := "fnExactBasis", unfollowed := true, recurses := true, apart := false }
def FnExactBasisSaid : Prop := fnExactBasisRow.holds Try.pinned (OpenSpec.ofChange fnExactBasisSpec)

/-- ITS FALSE NEIGHBOUR: 'it returns false'. Refute it at one input. -/
def fnExactBasisWrong : ChangeSpec := { name := "fnExactBasis", fn := fun _ => fun
  | [d1, d2] => { results := [.lit (.bool false)], args := [d1, d2] }
  | _ => none }
def FnExactBasisWrongFalsely : Prop := fnExactBasisRow.holds Try.pinned (OpenSpec.ofChange fnExactBasisWrong)

/-- 'laws.FnSigs': WHATEVER THE INPUT: true; the input reads as it did. -/
def fnSigsSpec : ChangeSpec := { name := "fnSigs", fn := fun _ => fun
  | [d] => { results := [.lit (.bool true)], args := [d] }
  | _ => none }
def fnSigsRow : OpenClaim := { program := "ytcffalienbbohaa", sum := "1a0084443d42a617126f0a29cf3863b753d0c851aeb87c40583e8fed1e26727e", func := "loop.example/g00461/laws.FnSigs", spec := "fnSigs", inPlace := ["internal/abi.NoEscape", "internal/bytealg.MakeNoZero"], unfollowed := true, recurses := true, apart := false }
def FnSigsSaid : Prop := fnSigsRow.holds Try.pinned (OpenSpec.ofChange fnSigsSpec)

/-- ITS FALSE NEIGHBOUR: 'it returns false'. Refute it at one input. -/
def fnSigsWrong : ChangeSpec := { name := "fnSigs", fn := fun _ => fun
  | [d] => { results := [.lit (.bool false)], args := [d] }
  | _ => none }
def FnSigsWrongFalsely : Prop := fnSigsRow.holds Try.pinned (OpenSpec.ofChange fnSigsWrong)

/-- 'laws.FnBasisSums': WHATEVER THE INPUT: true; the input reads as it did. -/
def fnBasisSumsSpec : ChangeSpec := { name := "fnBasisSums", fn := fun _ => fun
  | [d] => { results := [.lit (.bool true)], args := [d] }
  | _ => none }
def fnBasisSumsRow : OpenClaim := { program := "ytcffalienbbohaa", sum := "1a0084443d42a617126f0a29cf3863b753d0c851aeb87c40583e8fed1e26727e", func := "loop.example/g00461/laws.FnBasisSums", spec := "fnBasisSums", unfollowed := true, recurses := true, apart := false }
def FnBasisSumsSaid : Prop := fnBasisSumsRow.holds Try.pinned (OpenSpec.ofChange fnBasisSumsSpec)

/-- ITS FALSE NEIGHBOUR: 'it returns false'. Refute it at one input. -/
def fnBasisSumsWrong : ChangeSpec := { name := "fnBasisSums", fn := fun _ => fun
  | [d] => { results := [.lit (.bool false)], args := [d] }
  | _ => none }
def FnBasisSumsWrongFalsely : Prop := fnBasisSumsRow.holds Try.pinned (OpenSpec.ofChange fnBasisSumsWrong)

/-- 'laws.FnBasis': WHATEVER THE INPUT: true; the input reads as it did. -/
def fnBasisSpec : ChangeSpec := { name := "fnBasis", fn := fun _ => fun
  | [d] => { results := [.lit (.bool true)], args := [d] }
  | _ => none }
def fnBasisRow : OpenClaim := { program := "ytcffalienbbohaa", sum := "1a0084443d42a617126f0a29cf3863b753d0c851aeb87c40583e8fed1e26727e", func := "loop.example/g00461/laws.FnBasis", spec := "fnBasis", unfollowed := true, recurses := true, apart := false }
def FnBasisSaid : Prop := fnBasisRow.holds Try.pinned (OpenSpec.ofChange fnBasisSpec)

/-- ITS FALSE NEIGHBOUR: 'it returns false'. Refute it at one input. -/
def fnBasisWrong : ChangeSpec := { name := "fnBasis", fn := fun _ => fun
  | [d] => { results := [.lit (.bool false)], args := [d] }
  | _ => none }
def FnBasisWrongFalsely : Prop := fnBasisRow.holds Try.pinned (OpenSpec.ofChange fnBasisWrong)

/-- 'laws.FnNumbers': WHATEVER THE INPUT: true; the input reads as it did. -/
def fnNumbersSpec : ChangeSpec := { name := "fnNumbers", fn := fun _ => fun
  | [d] => { results := [.lit (.bool true)], args := [d] }
  | _ => none }
def fnNumbersRow : OpenClaim := { program := "ytcffalienbbohaa", sum := "1a0084443d42a617126f0a29cf3863b753d0c851aeb87c40583e8fed1e26727e", func := "loop.example/g00461/laws.FnNumbers", spec := "fnNumbers", inPlace := ["slices.overlaps[int]", "internal/abi.NoEscape", "internal/bytealg.MakeNoZero"], unfollowed := true, recurses := true, apart := false }
def FnNumbersSaid : Prop := fnNumbersRow.holds Try.pinned (OpenSpec.ofChange fnNumbersSpec)

/-- ITS FALSE NEIGHBOUR: 'it returns false'. Refute it at one input. -/
def fnNumbersWrong : ChangeSpec := { name := "fnNumbers", fn := fun _ => fun
  | [d] => { results := [.lit (.bool false)], args := [d] }
  | _ => none }
def FnNumbersWrongFalsely : Prop := fnNumbersRow.holds Try.pinned (OpenSpec.ofChange fnNumbersWrong)

/- THE SECOND FORM. 'bulk': how many values and letters a reading holds, each counted each time it is reached (what is shared counts as often as it is met; a slice's spare places count too). A statement '..UptoSaid' is the law's where the arguments, and the package variables that the reading takes, are together of bulk at most 1048576: NARROWER than '..Said'. Prove '..Said' where nothing that the law and all that it calls make is longer than what came in: it says more and counts as full. Else prove '..UptoSaid'. A law counts once. -/
mutual
def uptoBulk {H : Type} : DataW H → Nat
  | .lit (.string bytes) => bytes.length + 1
  | .lit _ => 1
  | .nil => 1
  | .ptr d => uptoBulk d + 1
  | .slice elems spare => uptoBulkAll elems + uptoBulkAll spare + 1
  | .agg parts => uptoBulkAll parts + 1
  | .iface _ d => uptoBulk d + 1
  | .map entries => uptoBulkEntries entries + 1
  | .held _ => 1
def uptoBulkAll {H : Type} : List (DataW H) → Nat
  | [] => 0
  | d :: r => uptoBulk d + uptoBulkAll r
def uptoBulkEntries {H : Type} : List (Lit × DataW H) → Nat
  | [] => 0
  | x :: r => uptoBulkEntry x + uptoBulkEntries r
def uptoBulkEntry {H : Type} : Lit × DataW H → Nat
  | (.string bytes, d) => bytes.length + uptoBulk d + 1
  | (_, d) => uptoBulk d + 1
 end
def uptoSmall : (H : Type) → List (DataW H) → Bool := fun _ ds => decide (uptoBulkAll ds ≤ 1048576)
def OpenSpec.upto (s : _root_.Go.ChangeSpec) : _root_.Go.OpenSpec := { _root_.Go.OpenSpec.ofChange s with cond := some uptoSmall }

/-- 'laws.FnExactBasis', WHERE WHAT IT READS IS OF BULK AT MOST 1048576: true; the input reads as it did. -/
def fnExactBasisUptoRow : OpenClaim := { program := "ytcffalienbbohaa", sum := "1a0084443d42a617126f0a29cf3863b753d0c851aeb87c40583e8fed1e26727e", func := "loop.example/g00461/laws.FnExactBasis", spec := "fnExactBasis", unfollowed := true, recurses := true, apart := false, narrowed := true }
def FnExactBasisUptoSaid : Prop := fnExactBasisUptoRow.holds Try.pinned (OpenSpec.upto fnExactBasisSpec)

/-- 'laws.FnSigs', WHERE WHAT IT READS IS OF BULK AT MOST 1048576: true; the input reads as it did. -/
def fnSigsUptoRow : OpenClaim := { program := "ytcffalienbbohaa", sum := "1a0084443d42a617126f0a29cf3863b753d0c851aeb87c40583e8fed1e26727e", func := "loop.example/g00461/laws.FnSigs", spec := "fnSigs", inPlace := ["internal/abi.NoEscape", "internal/bytealg.MakeNoZero"], unfollowed := true, recurses := true, apart := false, narrowed := true }
def FnSigsUptoSaid : Prop := fnSigsUptoRow.holds Try.pinned (OpenSpec.upto fnSigsSpec)

/-- 'laws.FnBasisSums', WHERE WHAT IT READS IS OF BULK AT MOST 1048576: true; the input reads as it did. -/
def fnBasisSumsUptoRow : OpenClaim := { program := "ytcffalienbbohaa", sum := "1a0084443d42a617126f0a29cf3863b753d0c851aeb87c40583e8fed1e26727e", func := "loop.example/g00461/laws.FnBasisSums", spec := "fnBasisSums", unfollowed := true, recurses := true, apart := false, narrowed := true }
def FnBasisSumsUptoSaid : Prop := fnBasisSumsUptoRow.holds Try.pinned (OpenSpec.upto fnBasisSumsSpec)

/-- 'laws.FnBasis', WHERE WHAT IT READS IS OF BULK AT MOST 1048576: true; the input reads as it did. -/
def fnBasisUptoRow : OpenClaim := { program := "ytcffalienbbohaa", sum := "1a0084443d42a617126f0a29cf3863b753d0c851aeb87c40583e8fed1e26727e", func := "loop.example/g00461/laws.FnBasis", spec := "fnBasis", unfollowed := true, recurses := true, apart := false, narrowed := true }
def FnBasisUptoSaid : Prop := fnBasisUptoRow.holds Try.pinned (OpenSpec.upto fnBasisSpec)

/-- 'laws.FnNumbers', WHERE WHAT IT READS IS OF BULK AT MOST 1048576: true; the input reads as it did. -/
def fnNumbersUptoRow : OpenClaim := { program := "ytcffalienbbohaa", sum := "1a0084443d42a617126f0a29cf3863b753d0c851aeb87c40583e8fed1e26727e", func := "loop.example/g00461/laws.FnNumbers", spec := "fnNumbers", inPlace := ["slices.overlaps[int]", "internal/abi.NoEscape", "internal/bytealg.MakeNoZero"], unfollowed := true, recurses := true, apart := false, narrowed := true }
def FnNumbersUptoSaid : Prop := fnNumbersUptoRow.holds Try.pinned (OpenSpec.upto fnNumbersSpec)

end Rows
end Go.Proofs.Ytcffalienbbohaa
