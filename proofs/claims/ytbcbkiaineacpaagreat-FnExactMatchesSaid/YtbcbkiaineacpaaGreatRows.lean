/-
  NARROWER THAN 'FOR EVERY INPUT', by the rows' own cells (each row's printed sentence says how): FnExactInstance: loops · FnExactMatchOne: loops · FnExactMatches: loops.
  DERIVED. THE GIVEN ROWS OF THIS SEAT. 3 by the template 'for every input the law returns true; each argument reads behind the call as it read before'; 0 by the template 'total and deterministic' (their statements: YtbcbkiaineacpaaGreatTotals.lean).
  GIVEN WITH THE SEED: the statements are not yours to turn. If you find one false, say at which input.
  Laid BY PROGRAM, IN A SANDBOX (cutbox-rows.mjs): the forced cells as the released guide's own fill.sh prints them over the translation f463a2918ca354de… (all of the seat's roots in one cut). By AI agents, Wed Nov 11 2026. No macro, syntax, notation, axiom, sorry.
-/
import Derived.Test.YtbcbkiaineacpaaGreatChecked
import GoSem.Claim
import GoSem.ClaimJoined
import GoSem.ClaimMapViews
import Derived.JoinedTies
import Derived.KernelRfl
namespace Go.Proofs.YtbcbkiaineacpaaGreat
/- THE CELL 'sum', in the pinned program and in every row, IS THE sha256 OF THE DUMP (.gsa) THAT YtbcbkiaineacpaaGreatProg.lean LOADS. Nothing in Lean hashes anything: it is a label: what it is worth is what the hold of that sum in a sandbox is worth. -/
noncomputable def Tryz.pinned : Pinned := { name := "ytbcbkiaineacpaagreat", sum := "f463a2918ca354debb7331713215e0cec2a525b54f82598c60f9954bf3499f47", checked := Tryz.checked }
namespace Rows
def none {H : Type} : Left H := { results := [], args := [] }

/-- 'laws.FnExactInstance': WHATEVER THE INPUT: true; the input reads as it did. -/
def fnExactInstanceSpec : ChangeSpec := { name := "fnExactInstance", fn := fun _ => fun
  | [d1, d2, d3] => { results := [.lit (.bool true)], args := [d1, d2, d3] }
  | _ => none }
def fnExactInstanceRow : OpenClaim := { program := "ytbcbkiaineacpaagreat", sum := "f463a2918ca354debb7331713215e0cec2a525b54f82598c60f9954bf3499f47", func := "loop.example/g00461/laws.FnExactInstance", spec := "fnExactInstance", inPlace := ["slices.overlaps[loop.example/g00461/impl.Bind]"], unfollowed := true, recurses := true, loops := true, apart := false }
def FnExactInstanceSaid : Prop := fnExactInstanceRow.holds Tryz.pinned (OpenSpec.ofChange fnExactInstanceSpec)

/-- ITS FALSE NEIGHBOUR: 'it returns false'. Refute it at one input. -/
def fnExactInstanceWrong : ChangeSpec := { name := "fnExactInstance", fn := fun _ => fun
  | [d1, d2, d3] => { results := [.lit (.bool false)], args := [d1, d2, d3] }
  | _ => none }
def FnExactInstanceWrongFalsely : Prop := fnExactInstanceRow.holds Tryz.pinned (OpenSpec.ofChange fnExactInstanceWrong)

/-- 'laws.FnExactMatchOne': WHATEVER THE INPUT: true; the input reads as it did. -/
def fnExactMatchOneSpec : ChangeSpec := { name := "fnExactMatchOne", fn := fun _ => fun
  | [d1, d2, d3] => { results := [.lit (.bool true)], args := [d1, d2, d3] }
  | _ => none }
def fnExactMatchOneRow : OpenClaim := { program := "ytbcbkiaineacpaagreat", sum := "f463a2918ca354debb7331713215e0cec2a525b54f82598c60f9954bf3499f47", func := "loop.example/g00461/laws.FnExactMatchOne", spec := "fnExactMatchOne", inPlace := ["slices.overlaps[loop.example/g00461/impl.Bind]"], unfollowed := true, recurses := true, loops := true, apart := false }
def FnExactMatchOneSaid : Prop := fnExactMatchOneRow.holds Tryz.pinned (OpenSpec.ofChange fnExactMatchOneSpec)

/-- ITS FALSE NEIGHBOUR: 'it returns false'. Refute it at one input. -/
def fnExactMatchOneWrong : ChangeSpec := { name := "fnExactMatchOne", fn := fun _ => fun
  | [d1, d2, d3] => { results := [.lit (.bool false)], args := [d1, d2, d3] }
  | _ => none }
def FnExactMatchOneWrongFalsely : Prop := fnExactMatchOneRow.holds Tryz.pinned (OpenSpec.ofChange fnExactMatchOneWrong)

/-- 'laws.FnExactMatches': WHATEVER THE INPUT: true; the input reads as it did. -/
def fnExactMatchesSpec : ChangeSpec := { name := "fnExactMatches", fn := fun _ => fun
  | [d1, d2, d3] => { results := [.lit (.bool true)], args := [d1, d2, d3] }
  | _ => none }
def fnExactMatchesRow : OpenClaim := { program := "ytbcbkiaineacpaagreat", sum := "f463a2918ca354debb7331713215e0cec2a525b54f82598c60f9954bf3499f47", func := "loop.example/g00461/laws.FnExactMatches", spec := "fnExactMatches", inPlace := ["slices.overlaps[loop.example/g00461/impl.Bind]"], unfollowed := true, recurses := true, loops := true, apart := false }
def FnExactMatchesSaid : Prop := fnExactMatchesRow.holds Tryz.pinned (OpenSpec.ofChange fnExactMatchesSpec)

/-- ITS FALSE NEIGHBOUR: 'it returns false'. Refute it at one input. -/
def fnExactMatchesWrong : ChangeSpec := { name := "fnExactMatches", fn := fun _ => fun
  | [d1, d2, d3] => { results := [.lit (.bool false)], args := [d1, d2, d3] }
  | _ => none }
def FnExactMatchesWrongFalsely : Prop := fnExactMatchesRow.holds Tryz.pinned (OpenSpec.ofChange fnExactMatchesWrong)

/- THE SECOND FORM. 'bulk': how many values and letters a reading holds, each counted each time it is reached (what is shared counts as often as it is met; a slice's spare places count too). A statement '..UptoSaid' is the law's where the arguments, and the package variables that the reading takes, are together of bulk at most 1048576: NARROWER than '..Said'. Prove '..Said' where nothing that the law and all that it calls make is longer than what came in: it says more and counts as full. Else prove '..UptoSaid'. A law counts once. -/
mutual
def uptoBulk {H : Type} : DataW H → Nat
  | .lit (.string bytes) => bytes.length + 1
  | .lit _ => 1
  | .nil => 1
  | .ptr d => uptoBulk d + 1
  | .slice elems spare => uptoBulkAll elems + uptoBulkAll spare + 1
  | .agg parts => uptoBulkAll parts + 1
  | .iface _ d => uptoBulk d + 1
  | .map entries => uptoBulkEntries entries + 1
  | .held _ => 1
def uptoBulkAll {H : Type} : List (DataW H) → Nat
  | [] => 0
  | d :: r => uptoBulk d + uptoBulkAll r
def uptoBulkEntries {H : Type} : List (Lit × DataW H) → Nat
  | [] => 0
  | x :: r => uptoBulkEntry x + uptoBulkEntries r
def uptoBulkEntry {H : Type} : Lit × DataW H → Nat
  | (.string bytes, d) => bytes.length + uptoBulk d + 1
  | (_, d) => uptoBulk d + 1
 end
def uptoSmall : (H : Type) → List (DataW H) → Bool := fun _ ds => decide (uptoBulkAll ds ≤ 1048576)
def OpenSpec.upto (s : _root_.Go.ChangeSpec) : _root_.Go.OpenSpec := { _root_.Go.OpenSpec.ofChange s with cond := some uptoSmall }

/-- 'laws.FnExactInstance', WHERE WHAT IT READS IS OF BULK AT MOST 1048576: true; the input reads as it did. -/
def fnExactInstanceUptoRow : OpenClaim := { program := "ytbcbkiaineacpaagreat", sum := "f463a2918ca354debb7331713215e0cec2a525b54f82598c60f9954bf3499f47", func := "loop.example/g00461/laws.FnExactInstance", spec := "fnExactInstance", inPlace := ["slices.overlaps[loop.example/g00461/impl.Bind]"], unfollowed := true, recurses := true, loops := true, apart := false, narrowed := true }
def FnExactInstanceUptoSaid : Prop := fnExactInstanceUptoRow.holds Tryz.pinned (OpenSpec.upto fnExactInstanceSpec)

/-- 'laws.FnExactMatchOne', WHERE WHAT IT READS IS OF BULK AT MOST 1048576: true; the input reads as it did. -/
def fnExactMatchOneUptoRow : OpenClaim := { program := "ytbcbkiaineacpaagreat", sum := "f463a2918ca354debb7331713215e0cec2a525b54f82598c60f9954bf3499f47", func := "loop.example/g00461/laws.FnExactMatchOne", spec := "fnExactMatchOne", inPlace := ["slices.overlaps[loop.example/g00461/impl.Bind]"], unfollowed := true, recurses := true, loops := true, apart := false, narrowed := true }
def FnExactMatchOneUptoSaid : Prop := fnExactMatchOneUptoRow.holds Tryz.pinned (OpenSpec.upto fnExactMatchOneSpec)

/-- 'laws.FnExactMatches', WHERE WHAT IT READS IS OF BULK AT MOST 1048576: true; the input reads as it did. -/
def fnExactMatchesUptoRow : OpenClaim := { program := "ytbcbkiaineacpaagreat", sum := "f463a2918ca354debb7331713215e0cec2a525b54f82598c60f9954bf3499f47", func := "loop.example/g00461/laws.FnExactMatches", spec := "fnExactMatches", inPlace := ["slices.overlaps[loop.example/g00461/impl.Bind]"], unfollowed := true, recurses := true, loops := true, apart := false, narrowed := true }
def FnExactMatchesUptoSaid : Prop := fnExactMatchesUptoRow.holds Tryz.pinned (OpenSpec.upto fnExactMatchesSpec)

end Rows
end Go.Proofs.YtbcbkiaineacpaaGreat
