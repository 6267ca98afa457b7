/-
  No cell of these rows narrows 'for every input' (looked for: loops, veiled, ifaces, maps, wideKeys, modest, calm, conditions, laid).
  DERIVED. THE GIVEN ROWS OF THIS SEAT. 6 by the template 'for every input the law returns true; each argument reads behind the call as it read before'; 0 by the template 'total and deterministic' (their statements: YtfiakfiocdfpbaaTotals.lean).
  GIVEN WITH THE SEED: the statements are not yours to turn. If you find one false, say at which input.
  Laid BY PROGRAM, IN A SANDBOX (cutbox-rows.mjs): the forced cells as the released guide's own fill.sh prints them over the translation 704d246ad3e62593… (all of the seat's roots in one cut). By AI agents, Wed Nov 11 2026. No macro, syntax, notation, axiom, sorry.
-/
import Derived.Test.YtfiakfiocdfpbaaChecked
import GoSem.Claim
import GoSem.ClaimJoined
import GoSem.ClaimMapViews
import Derived.JoinedTies
import Derived.KernelRfl
namespace Go.Proofs.Ytfiakfiocdfpbaa
/- THE CELL 'sum', in the pinned program and in every row, IS THE sha256 OF THE DUMP (.gsa) THAT YtfiakfiocdfpbaaProg.lean LOADS. Nothing in Lean hashes anything: it is a label: what it is worth is what the hold of that sum in a sandbox is worth. -/
noncomputable def Try.pinned : Pinned := { name := "ytfiakfiocdfpbaa", sum := "704d246ad3e6259309242d62a89171a0569f0430f193eb715350506259a83eea", checked := Try.checked }
namespace Rows
def none {H : Type} : Left H := { results := [], args := [] }

/-- 'laws.FnOneForm': WHATEVER THE INPUT: true; the input reads as it did. -/
def fnOneFormSpec : ChangeSpec := { name := "fnOneForm", fn := fun _ => fun
  | [d] => { results := [.lit (.bool true)], args := [d] }
  | _ => none }
def fnOneFormRow : OpenClaim := { program := "ytfiakfiocdfpbaa", sum := "704d246ad3e6259309242d62a89171a0569f0430f193eb715350506259a83eea", func := "loop.example/g00461/laws.FnOneForm", spec := "fnOneForm", unfollowed := true, recurses := true, apart := false }
def FnOneFormSaid : Prop := fnOneFormRow.holds Try.pinned (OpenSpec.ofChange fnOneFormSpec)

/-- ITS FALSE NEIGHBOUR: 'it returns false'. Refute it at one input. -/
def fnOneFormWrong : ChangeSpec := { name := "fnOneForm", fn := fun _ => fun
  | [d] => { results := [.lit (.bool false)], args := [d] }
  | _ => none }
def FnOneFormWrongFalsely : Prop := fnOneFormRow.holds Try.pinned (OpenSpec.ofChange fnOneFormWrong)

/-- 'laws.FnRightTerms': WHATEVER THE INPUT: true; the input reads as it did. -/
def fnRightTermsSpec : ChangeSpec := { name := "fnRightTerms", fn := fun _ => fun
  | [d] => { results := [.lit (.bool true)], args := [d] }
  | _ => none }
def fnRightTermsRow : OpenClaim := { program := "ytfiakfiocdfpbaa", sum := "704d246ad3e6259309242d62a89171a0569f0430f193eb715350506259a83eea", func := "loop.example/g00461/laws.FnRightTerms", spec := "fnRightTerms", unfollowed := true, recurses := true, apart := false }
def FnRightTermsSaid : Prop := fnRightTermsRow.holds Try.pinned (OpenSpec.ofChange fnRightTermsSpec)

/-- ITS FALSE NEIGHBOUR: 'it returns false'. Refute it at one input. -/
def fnRightTermsWrong : ChangeSpec := { name := "fnRightTerms", fn := fun _ => fun
  | [d] => { results := [.lit (.bool false)], args := [d] }
  | _ => none }
def FnRightTermsWrongFalsely : Prop := fnRightTermsRow.holds Try.pinned (OpenSpec.ofChange fnRightTermsWrong)

/-- 'laws.FnGroundTotal': WHATEVER THE INPUT: true; the input reads as it did. -/
def fnGroundTotalSpec : ChangeSpec := { name := "fnGroundTotal", fn := fun _ => fun
  | [d] => { results := [.lit (.bool true)], args := [d] }
  | _ => none }
def fnGroundTotalRow : OpenClaim := { program := "ytfiakfiocdfpbaa", sum := "704d246ad3e6259309242d62a89171a0569f0430f193eb715350506259a83eea", func := "loop.example/g00461/laws.FnGroundTotal", spec := "fnGroundTotal", inPlace := ["slices.overlaps[int]"], unfollowed := true, recurses := true, apart := false }
def FnGroundTotalSaid : Prop := fnGroundTotalRow.holds Try.pinned (OpenSpec.ofChange fnGroundTotalSpec)

/-- ITS FALSE NEIGHBOUR: 'it returns false'. Refute it at one input. -/
def fnGroundTotalWrong : ChangeSpec := { name := "fnGroundTotal", fn := fun _ => fun
  | [d] => { results := [.lit (.bool false)], args := [d] }
  | _ => none }
def FnGroundTotalWrongFalsely : Prop := fnGroundTotalRow.holds Try.pinned (OpenSpec.ofChange fnGroundTotalWrong)

/-- 'laws.FnGreater': WHATEVER THE INPUT: true; the input reads as it did. -/
def fnGreaterSpec : ChangeSpec := { name := "fnGreater", fn := fun _ => fun
  | [d] => { results := [.lit (.bool true)], args := [d] }
  | _ => none }
def fnGreaterRow : OpenClaim := { program := "ytfiakfiocdfpbaa", sum := "704d246ad3e6259309242d62a89171a0569f0430f193eb715350506259a83eea", func := "loop.example/g00461/laws.FnGreater", spec := "fnGreater", inPlace := ["slices.overlaps[int]"], unfollowed := true, recurses := true, apart := false }
def FnGreaterSaid : Prop := fnGreaterRow.holds Try.pinned (OpenSpec.ofChange fnGreaterSpec)

/-- ITS FALSE NEIGHBOUR: 'it returns false'. Refute it at one input. -/
def fnGreaterWrong : ChangeSpec := { name := "fnGreater", fn := fun _ => fun
  | [d] => { results := [.lit (.bool false)], args := [d] }
  | _ => none }
def FnGreaterWrongFalsely : Prop := fnGreaterRow.holds Try.pinned (OpenSpec.ofChange fnGreaterWrong)

/-- 'laws.FnGreaterStays': WHATEVER THE INPUT: true; the input reads as it did. -/
def fnGreaterStaysSpec : ChangeSpec := { name := "fnGreaterStays", fn := fun _ => fun
  | [d] => { results := [.lit (.bool true)], args := [d] }
  | _ => none }
def fnGreaterStaysRow : OpenClaim := { program := "ytfiakfiocdfpbaa", sum := "704d246ad3e6259309242d62a89171a0569f0430f193eb715350506259a83eea", func := "loop.example/g00461/laws.FnGreaterStays", spec := "fnGreaterStays", inPlace := ["slices.overlaps[int]"], unfollowed := true, recurses := true, apart := false }
def FnGreaterStaysSaid : Prop := fnGreaterStaysRow.holds Try.pinned (OpenSpec.ofChange fnGreaterStaysSpec)

/-- ITS FALSE NEIGHBOUR: 'it returns false'. Refute it at one input. -/
def fnGreaterStaysWrong : ChangeSpec := { name := "fnGreaterStays", fn := fun _ => fun
  | [d] => { results := [.lit (.bool false)], args := [d] }
  | _ => none }
def FnGreaterStaysWrongFalsely : Prop := fnGreaterStaysRow.holds Try.pinned (OpenSpec.ofChange fnGreaterStaysWrong)

/-- 'laws.FnSubs': WHATEVER THE INPUT: true; the input reads as it did. -/
def fnSubsSpec : ChangeSpec := { name := "fnSubs", fn := fun _ => fun
  | [d] => { results := [.lit (.bool true)], args := [d] }
  | _ => none }
def fnSubsRow : OpenClaim := { program := "ytfiakfiocdfpbaa", sum := "704d246ad3e6259309242d62a89171a0569f0430f193eb715350506259a83eea", func := "loop.example/g00461/laws.FnSubs", spec := "fnSubs", inPlace := ["internal/abi.NoEscape", "internal/bytealg.MakeNoZero"], unfollowed := true, recurses := true, apart := false }
def FnSubsSaid : Prop := fnSubsRow.holds Try.pinned (OpenSpec.ofChange fnSubsSpec)

/-- ITS FALSE NEIGHBOUR: 'it returns false'. Refute it at one input. -/
def fnSubsWrong : ChangeSpec := { name := "fnSubs", fn := fun _ => fun
  | [d] => { results := [.lit (.bool false)], args := [d] }
  | _ => none }
def FnSubsWrongFalsely : Prop := fnSubsRow.holds Try.pinned (OpenSpec.ofChange fnSubsWrong)

/- THE SECOND FORM. 'bulk': how many values and letters a reading holds, each counted each time it is reached (what is shared counts as often as it is met; a slice's spare places count too). A statement '..UptoSaid' is the law's where the arguments, and the package variables that the reading takes, are together of bulk at most 1048576: NARROWER than '..Said'. Prove '..Said' where nothing that the law and all that it calls make is longer than what came in: it says more and counts as full. Else prove '..UptoSaid'. A law counts once. -/
mutual
def uptoBulk {H : Type} : DataW H → Nat
  | .lit (.string bytes) => bytes.length + 1
  | .lit _ => 1
  | .nil => 1
  | .ptr d => uptoBulk d + 1
  | .slice elems spare => uptoBulkAll elems + uptoBulkAll spare + 1
  | .agg parts => uptoBulkAll parts + 1
  | .iface _ d => uptoBulk d + 1
  | .map entries => uptoBulkEntries entries + 1
  | .held _ => 1
def uptoBulkAll {H : Type} : List (DataW H) → Nat
  | [] => 0
  | d :: r => uptoBulk d + uptoBulkAll r
def uptoBulkEntries {H : Type} : List (Lit × DataW H) → Nat
  | [] => 0
  | x :: r => uptoBulkEntry x + uptoBulkEntries r
def uptoBulkEntry {H : Type} : Lit × DataW H → Nat
  | (.string bytes, d) => bytes.length + uptoBulk d + 1
  | (_, d) => uptoBulk d + 1
 end
def uptoSmall : (H : Type) → List (DataW H) → Bool := fun _ ds => decide (uptoBulkAll ds ≤ 1048576)
def OpenSpec.upto (s : _root_.Go.ChangeSpec) : _root_.Go.OpenSpec := { _root_.Go.OpenSpec.ofChange s with cond := some uptoSmall }

/-- 'laws.FnOneForm', WHERE WHAT IT READS IS OF BULK AT MOST 1048576: true; the input reads as it did. -/
def fnOneFormUptoRow : OpenClaim := { program := "ytfiakfiocdfpbaa", sum := "704d246ad3e6259309242d62a89171a0569f0430f193eb715350506259a83eea", func := "loop.example/g00461/laws.FnOneForm", spec := "fnOneForm", unfollowed := true, recurses := true, apart := false, narrowed := true }
def FnOneFormUptoSaid : Prop := fnOneFormUptoRow.holds Try.pinned (OpenSpec.upto fnOneFormSpec)

/-- 'laws.FnRightTerms', WHERE WHAT IT READS IS OF BULK AT MOST 1048576: true; the input reads as it did. -/
def fnRightTermsUptoRow : OpenClaim := { program := "ytfiakfiocdfpbaa", sum := "704d246ad3e6259309242d62a89171a0569f0430f193eb715350506259a83eea", func := "loop.example/g00461/laws.FnRightTerms", spec := "fnRightTerms", unfollowed := true, recurses := true, apart := false, narrowed := true }
def FnRightTermsUptoSaid : Prop := fnRightTermsUptoRow.holds Try.pinned (OpenSpec.upto fnRightTermsSpec)

/-- 'laws.FnGroundTotal', WHERE WHAT IT READS IS OF BULK AT MOST 1048576: true; the input reads as it did. -/
def fnGroundTotalUptoRow : OpenClaim := { program := "ytfiakfiocdfpbaa", sum := "704d246ad3e6259309242d62a89171a0569f0430f193eb715350506259a83eea", func := "loop.example/g00461/laws.FnGroundTotal", spec := "fnGroundTotal", inPlace := ["slices.overlaps[int]"], unfollowed := true, recurses := true, apart := false, narrowed := true }
def FnGroundTotalUptoSaid : Prop := fnGroundTotalUptoRow.holds Try.pinned (OpenSpec.upto fnGroundTotalSpec)

/-- 'laws.FnGreater', WHERE WHAT IT READS IS OF BULK AT MOST 1048576: true; the input reads as it did. -/
def fnGreaterUptoRow : OpenClaim := { program := "ytfiakfiocdfpbaa", sum := "704d246ad3e6259309242d62a89171a0569f0430f193eb715350506259a83eea", func := "loop.example/g00461/laws.FnGreater", spec := "fnGreater", inPlace := ["slices.overlaps[int]"], unfollowed := true, recurses := true, apart := false, narrowed := true }
def FnGreaterUptoSaid : Prop := fnGreaterUptoRow.holds Try.pinned (OpenSpec.upto fnGreaterSpec)

/-- 'laws.FnGreaterStays', WHERE WHAT IT READS IS OF BULK AT MOST 1048576: true; the input reads as it did. -/
def fnGreaterStaysUptoRow : OpenClaim := { program := "ytfiakfiocdfpbaa", sum := "704d246ad3e6259309242d62a89171a0569f0430f193eb715350506259a83eea", func := "loop.example/g00461/laws.FnGreaterStays", spec := "fnGreaterStays", inPlace := ["slices.overlaps[int]"], unfollowed := true, recurses := true, apart := false, narrowed := true }
def FnGreaterStaysUptoSaid : Prop := fnGreaterStaysUptoRow.holds Try.pinned (OpenSpec.upto fnGreaterStaysSpec)

/-- 'laws.FnSubs', WHERE WHAT IT READS IS OF BULK AT MOST 1048576: true; the input reads as it did. -/
def fnSubsUptoRow : OpenClaim := { program := "ytfiakfiocdfpbaa", sum := "704d246ad3e6259309242d62a89171a0569f0430f193eb715350506259a83eea", func := "loop.example/g00461/laws.FnSubs", spec := "fnSubs", inPlace := ["internal/abi.NoEscape", "internal/bytealg.MakeNoZero"], unfollowed := true, recurses := true, apart := false, narrowed := true }
def FnSubsUptoSaid : Prop := fnSubsUptoRow.holds Try.pinned (OpenSpec.upto fnSubsSpec)

end Rows
end Go.Proofs.Ytfiakfiocdfpbaa
