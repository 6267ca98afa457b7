/-
  NARROWER THAN 'FOR EVERY INPUT', by the rows' own cells (each row's printed sentence says how): FnExactLook: loops · FnExactVarsOf: loops · FnExactGreater: loops · FnExactOriented: loops.
  DERIVED. THE GIVEN ROWS OF THIS SEAT. 6 by the template 'for every input the law returns true; each argument reads behind the call as it read before'; 0 by the template 'total and deterministic' (their statements: YtanfjghdjkiggaaTotals.lean).
  GIVEN WITH THE SEED: the statements are not yours to turn. If you find one false, say at which input.
  Laid BY PROGRAM, IN A SANDBOX (cutbox-rows.mjs): the forced cells as the released guide's own fill.sh prints them over the translation c20f62e550cf08c8… (all of the seat's roots in one cut). By AI agents, Wed Nov 11 2026. No macro, syntax, notation, axiom, sorry.
-/
import Derived.Test.YtanfjghdjkiggaaChecked
import GoSem.Claim
import GoSem.ClaimJoined
import GoSem.ClaimMapViews
import Derived.JoinedTies
import Derived.KernelRfl
namespace Go.Proofs.Ytanfjghdjkiggaa
/- THE CELL 'sum', in the pinned program and in every row, IS THE sha256 OF THE DUMP (.gsa) THAT YtanfjghdjkiggaaProg.lean LOADS. Nothing in Lean hashes anything: it is a label: what it is worth is what the hold of that sum in a sandbox is worth. -/
noncomputable def Try.pinned : Pinned := { name := "ytanfjghdjkiggaa", sum := "c20f62e550cf08c862000fc4fd1321edf7980476bf516445198e4dcc54ac140c", checked := Try.checked }
namespace Rows
def none {H : Type} : Left H := { results := [], args := [] }

/-- 'laws.FnExactSum': WHATEVER THE INPUT: true; the input reads as it did. -/
def fnExactSumSpec : ChangeSpec := { name := "fnExactSum", fn := fun _ => fun
  | [d1, d2] => { results := [.lit (.bool true)], args := [d1, d2] }
  | _ => none }
def fnExactSumRow : OpenClaim := { program := "ytanfjghdjkiggaa", sum := "c20f62e550cf08c862000fc4fd1321edf7980476bf516445198e4dcc54ac140c", func := "loop.example/g00461/laws.FnExactSum", spec := "fnExactSum", apart := false }
def FnExactSumSaid : Prop := fnExactSumRow.holds Try.pinned (OpenSpec.ofChange fnExactSumSpec)

/-- ITS FALSE NEIGHBOUR: 'it returns false'. Refute it at one input. -/
def fnExactSumWrong : ChangeSpec := { name := "fnExactSum", fn := fun _ => fun
  | [d1, d2] => { results := [.lit (.bool false)], args := [d1, d2] }
  | _ => none }
def FnExactSumWrongFalsely : Prop := fnExactSumRow.holds Try.pinned (OpenSpec.ofChange fnExactSumWrong)

/-- 'laws.FnExactNumAdd': WHATEVER THE INPUT: true; the input reads as it did. -/
def fnExactNumAddSpec : ChangeSpec := { name := "fnExactNumAdd", fn := fun _ => fun
  | [d1, d2] => { results := [.lit (.bool true)], args := [d1, d2] }
  | _ => none }
def fnExactNumAddRow : OpenClaim := { program := "ytanfjghdjkiggaa", sum := "c20f62e550cf08c862000fc4fd1321edf7980476bf516445198e4dcc54ac140c", func := "loop.example/g00461/laws.FnExactNumAdd", spec := "fnExactNumAdd", inPlace := ["slices.overlaps[int]"], unfollowed := true, recurses := true, apart := false }
def FnExactNumAddSaid : Prop := fnExactNumAddRow.holds Try.pinned (OpenSpec.ofChange fnExactNumAddSpec)

/-- ITS FALSE NEIGHBOUR: 'it returns false'. Refute it at one input. -/
def fnExactNumAddWrong : ChangeSpec := { name := "fnExactNumAdd", fn := fun _ => fun
  | [d1, d2] => { results := [.lit (.bool false)], args := [d1, d2] }
  | _ => none }
def FnExactNumAddWrongFalsely : Prop := fnExactNumAddRow.holds Try.pinned (OpenSpec.ofChange fnExactNumAddWrong)

/-- 'laws.FnExactLook': WHATEVER THE INPUT: true; the input reads as it did. -/
def fnExactLookSpec : ChangeSpec := { name := "fnExactLook", fn := fun _ => fun
  | [d1, d2] => { results := [.lit (.bool true)], args := [d1, d2] }
  | _ => none }
def fnExactLookRow : OpenClaim := { program := "ytanfjghdjkiggaa", sum := "c20f62e550cf08c862000fc4fd1321edf7980476bf516445198e4dcc54ac140c", func := "loop.example/g00461/laws.FnExactLook", spec := "fnExactLook", recurses := true, loops := true, apart := false }
def FnExactLookSaid : Prop := fnExactLookRow.holds Try.pinned (OpenSpec.ofChange fnExactLookSpec)

/-- ITS FALSE NEIGHBOUR: 'it returns false'. Refute it at one input. -/
def fnExactLookWrong : ChangeSpec := { name := "fnExactLook", fn := fun _ => fun
  | [d1, d2] => { results := [.lit (.bool false)], args := [d1, d2] }
  | _ => none }
def FnExactLookWrongFalsely : Prop := fnExactLookRow.holds Try.pinned (OpenSpec.ofChange fnExactLookWrong)

/-- 'laws.FnExactVarsOf': WHATEVER THE INPUT: true; the input reads as it did. -/
def fnExactVarsOfSpec : ChangeSpec := { name := "fnExactVarsOf", fn := fun _ => fun
  | [d] => { results := [.lit (.bool true)], args := [d] }
  | _ => none }
def fnExactVarsOfRow : OpenClaim := { program := "ytanfjghdjkiggaa", sum := "c20f62e550cf08c862000fc4fd1321edf7980476bf516445198e4dcc54ac140c", func := "loop.example/g00461/laws.FnExactVarsOf", spec := "fnExactVarsOf", inPlace := ["slices.overlaps[int]"], unfollowed := true, recurses := true, loops := true, apart := false }
def FnExactVarsOfSaid : Prop := fnExactVarsOfRow.holds Try.pinned (OpenSpec.ofChange fnExactVarsOfSpec)

/-- ITS FALSE NEIGHBOUR: 'it returns false'. Refute it at one input. -/
def fnExactVarsOfWrong : ChangeSpec := { name := "fnExactVarsOf", fn := fun _ => fun
  | [d] => { results := [.lit (.bool false)], args := [d] }
  | _ => none }
def FnExactVarsOfWrongFalsely : Prop := fnExactVarsOfRow.holds Try.pinned (OpenSpec.ofChange fnExactVarsOfWrong)

/-- 'laws.FnExactGreater': WHATEVER THE INPUT: true; the input reads as it did. -/
def fnExactGreaterSpec : ChangeSpec := { name := "fnExactGreater", fn := fun _ => fun
  | [d1, d2, d3] => { results := [.lit (.bool true)], args := [d1, d2, d3] }
  | _ => none }
def fnExactGreaterRow : OpenClaim := { program := "ytanfjghdjkiggaa", sum := "c20f62e550cf08c862000fc4fd1321edf7980476bf516445198e4dcc54ac140c", func := "loop.example/g00461/laws.FnExactGreater", spec := "fnExactGreater", inPlace := ["slices.overlaps[int]"], unfollowed := true, recurses := true, loops := true, apart := false }
def FnExactGreaterSaid : Prop := fnExactGreaterRow.holds Try.pinned (OpenSpec.ofChange fnExactGreaterSpec)

/-- ITS FALSE NEIGHBOUR: 'it returns false'. Refute it at one input. -/
def fnExactGreaterWrong : ChangeSpec := { name := "fnExactGreater", fn := fun _ => fun
  | [d1, d2, d3] => { results := [.lit (.bool false)], args := [d1, d2, d3] }
  | _ => none }
def FnExactGreaterWrongFalsely : Prop := fnExactGreaterRow.holds Try.pinned (OpenSpec.ofChange fnExactGreaterWrong)

/-- 'laws.FnExactOriented': WHATEVER THE INPUT: true; the input reads as it did. -/
def fnExactOrientedSpec : ChangeSpec := { name := "fnExactOriented", fn := fun _ => fun
  | [d1, d2, d3] => { results := [.lit (.bool true)], args := [d1, d2, d3] }
  | _ => none }
def fnExactOrientedRow : OpenClaim := { program := "ytanfjghdjkiggaa", sum := "c20f62e550cf08c862000fc4fd1321edf7980476bf516445198e4dcc54ac140c", func := "loop.example/g00461/laws.FnExactOriented", spec := "fnExactOriented", inPlace := ["slices.overlaps[int]"], unfollowed := true, recurses := true, loops := true, apart := false }
def FnExactOrientedSaid : Prop := fnExactOrientedRow.holds Try.pinned (OpenSpec.ofChange fnExactOrientedSpec)

/-- ITS FALSE NEIGHBOUR: 'it returns false'. Refute it at one input. -/
def fnExactOrientedWrong : ChangeSpec := { name := "fnExactOriented", fn := fun _ => fun
  | [d1, d2, d3] => { results := [.lit (.bool false)], args := [d1, d2, d3] }
  | _ => none }
def FnExactOrientedWrongFalsely : Prop := fnExactOrientedRow.holds Try.pinned (OpenSpec.ofChange fnExactOrientedWrong)

/- THE SECOND FORM. 'bulk': how many values and letters a reading holds, each counted each time it is reached (what is shared counts as often as it is met; a slice's spare places count too). A statement '..UptoSaid' is the law's where the arguments, and the package variables that the reading takes, are together of bulk at most 1048576: NARROWER than '..Said'. Prove '..Said' where nothing that the law and all that it calls make is longer than what came in: it says more and counts as full. Else prove '..UptoSaid'. A law counts once. -/
mutual
def uptoBulk {H : Type} : DataW H → Nat
  | .lit (.string bytes) => bytes.length + 1
  | .lit _ => 1
  | .nil => 1
  | .ptr d => uptoBulk d + 1
  | .slice elems spare => uptoBulkAll elems + uptoBulkAll spare + 1
  | .agg parts => uptoBulkAll parts + 1
  | .iface _ d => uptoBulk d + 1
  | .map entries => uptoBulkEntries entries + 1
  | .held _ => 1
def uptoBulkAll {H : Type} : List (DataW H) → Nat
  | [] => 0
  | d :: r => uptoBulk d + uptoBulkAll r
def uptoBulkEntries {H : Type} : List (Lit × DataW H) → Nat
  | [] => 0
  | x :: r => uptoBulkEntry x + uptoBulkEntries r
def uptoBulkEntry {H : Type} : Lit × DataW H → Nat
  | (.string bytes, d) => bytes.length + uptoBulk d + 1
  | (_, d) => uptoBulk d + 1
 end
def uptoSmall : (H : Type) → List (DataW H) → Bool := fun _ ds => decide (uptoBulkAll ds ≤ 1048576)
def OpenSpec.upto (s : _root_.Go.ChangeSpec) : _root_.Go.OpenSpec := { _root_.Go.OpenSpec.ofChange s with cond := some uptoSmall }

/-- 'laws.FnExactSum', WHERE WHAT IT READS IS OF BULK AT MOST 1048576: true; the input reads as it did. -/
def fnExactSumUptoRow : OpenClaim := { program := "ytanfjghdjkiggaa", sum := "c20f62e550cf08c862000fc4fd1321edf7980476bf516445198e4dcc54ac140c", func := "loop.example/g00461/laws.FnExactSum", spec := "fnExactSum", apart := false, narrowed := true }
def FnExactSumUptoSaid : Prop := fnExactSumUptoRow.holds Try.pinned (OpenSpec.upto fnExactSumSpec)

/-- 'laws.FnExactNumAdd', WHERE WHAT IT READS IS OF BULK AT MOST 1048576: true; the input reads as it did. -/
def fnExactNumAddUptoRow : OpenClaim := { program := "ytanfjghdjkiggaa", sum := "c20f62e550cf08c862000fc4fd1321edf7980476bf516445198e4dcc54ac140c", func := "loop.example/g00461/laws.FnExactNumAdd", spec := "fnExactNumAdd", inPlace := ["slices.overlaps[int]"], unfollowed := true, recurses := true, apart := false, narrowed := true }
def FnExactNumAddUptoSaid : Prop := fnExactNumAddUptoRow.holds Try.pinned (OpenSpec.upto fnExactNumAddSpec)

/-- 'laws.FnExactLook', WHERE WHAT IT READS IS OF BULK AT MOST 1048576: true; the input reads as it did. -/
def fnExactLookUptoRow : OpenClaim := { program := "ytanfjghdjkiggaa", sum := "c20f62e550cf08c862000fc4fd1321edf7980476bf516445198e4dcc54ac140c", func := "loop.example/g00461/laws.FnExactLook", spec := "fnExactLook", recurses := true, loops := true, apart := false, narrowed := true }
def FnExactLookUptoSaid : Prop := fnExactLookUptoRow.holds Try.pinned (OpenSpec.upto fnExactLookSpec)

/-- 'laws.FnExactVarsOf', WHERE WHAT IT READS IS OF BULK AT MOST 1048576: true; the input reads as it did. -/
def fnExactVarsOfUptoRow : OpenClaim := { program := "ytanfjghdjkiggaa", sum := "c20f62e550cf08c862000fc4fd1321edf7980476bf516445198e4dcc54ac140c", func := "loop.example/g00461/laws.FnExactVarsOf", spec := "fnExactVarsOf", inPlace := ["slices.overlaps[int]"], unfollowed := true, recurses := true, loops := true, apart := false, narrowed := true }
def FnExactVarsOfUptoSaid : Prop := fnExactVarsOfUptoRow.holds Try.pinned (OpenSpec.upto fnExactVarsOfSpec)

/-- 'laws.FnExactGreater', WHERE WHAT IT READS IS OF BULK AT MOST 1048576: true; the input reads as it did. -/
def fnExactGreaterUptoRow : OpenClaim := { program := "ytanfjghdjkiggaa", sum := "c20f62e550cf08c862000fc4fd1321edf7980476bf516445198e4dcc54ac140c", func := "loop.example/g00461/laws.FnExactGreater", spec := "fnExactGreater", inPlace := ["slices.overlaps[int]"], unfollowed := true, recurses := true, loops := true, apart := false, narrowed := true }
def FnExactGreaterUptoSaid : Prop := fnExactGreaterUptoRow.holds Try.pinned (OpenSpec.upto fnExactGreaterSpec)

/-- 'laws.FnExactOriented', WHERE WHAT IT READS IS OF BULK AT MOST 1048576: true; the input reads as it did. -/
def fnExactOrientedUptoRow : OpenClaim := { program := "ytanfjghdjkiggaa", sum := "c20f62e550cf08c862000fc4fd1321edf7980476bf516445198e4dcc54ac140c", func := "loop.example/g00461/laws.FnExactOriented", spec := "fnExactOriented", inPlace := ["slices.overlaps[int]"], unfollowed := true, recurses := true, loops := true, apart := false, narrowed := true }
def FnExactOrientedUptoSaid : Prop := fnExactOrientedUptoRow.holds Try.pinned (OpenSpec.upto fnExactOrientedSpec)

end Rows
end Go.Proofs.Ytanfjghdjkiggaa
