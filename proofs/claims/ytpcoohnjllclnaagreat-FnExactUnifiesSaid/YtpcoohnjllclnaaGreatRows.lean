/-
  NARROWER THAN 'FOR EVERY INPUT', by the rows' own cells (each row's printed sentence says how): FnExactUnifies: loops · FnExactUnify: loops · FnExactUnifyAll: loops.
  DERIVED. THE GIVEN ROWS OF THIS SEAT. 10 by the template 'for every input the law returns true; each argument reads behind the call as it read before'; 0 by the template 'total and deterministic' (their statements: YtpcoohnjllclnaaGreatTotals.lean).
  GIVEN WITH THE SEED: the statements are not yours to turn. If you find one false, say at which input.
  Laid BY PROGRAM, IN A SANDBOX (cutbox-rows.mjs): the forced cells as the released guide's own fill.sh prints them over the translation 33cd3333c1cc215b… (all of the seat's roots in one cut). By AI agents, Wed Nov 11 2026. No macro, syntax, notation, axiom, sorry.
-/
import Derived.Test.YtpcoohnjllclnaaGreatChecked
import GoSem.Claim
import GoSem.ClaimJoined
import GoSem.ClaimMapViews
import Derived.JoinedTies
import Derived.KernelRfl
namespace Go.Proofs.YtpcoohnjllclnaaGreat
/- THE CELL 'sum', in the pinned program and in every row, IS THE sha256 OF THE DUMP (.gsa) THAT YtpcoohnjllclnaaGreatProg.lean LOADS. Nothing in Lean hashes anything: it is a label: what it is worth is what the hold of that sum in a sandbox is worth. -/
noncomputable def Tryz.pinned : Pinned := { name := "ytpcoohnjllclnaagreat", sum := "33cd3333c1cc215b2663baef94a7932dc6c70157bafbe4599bddb15bc9c21753", checked := Tryz.checked }
namespace Rows
def none {H : Type} : Left H := { results := [], args := [] }

/-- 'laws.FnMatchesAll': WHATEVER THE INPUT: true; the input reads as it did. -/
def fnMatchesAllSpec : ChangeSpec := { name := "fnMatchesAll", fn := fun _ => fun
  | [d] => { results := [.lit (.bool true)], args := [d] }
  | _ => none }
def fnMatchesAllRow : OpenClaim := { program := "ytpcoohnjllclnaagreat", sum := "33cd3333c1cc215b2663baef94a7932dc6c70157bafbe4599bddb15bc9c21753", func := "loop.example/g00461/laws.FnMatchesAll", spec := "fnMatchesAll", inPlace := ["slices.overlaps[int]", "slices.overlaps[loop.example/g00461/impl.Bind]"], unfollowed := true, recurses := true, apart := false }
def FnMatchesAllSaid : Prop := fnMatchesAllRow.holds Tryz.pinned (OpenSpec.ofChange fnMatchesAllSpec)

/-- ITS FALSE NEIGHBOUR: 'it returns false'. Refute it at one input. -/
def fnMatchesAllWrong : ChangeSpec := { name := "fnMatchesAll", fn := fun _ => fun
  | [d] => { results := [.lit (.bool false)], args := [d] }
  | _ => none }
def FnMatchesAllWrongFalsely : Prop := fnMatchesAllRow.holds Tryz.pinned (OpenSpec.ofChange fnMatchesAllWrong)

/-- 'laws.FnUnifiersSolve': WHATEVER THE INPUT: true; the input reads as it did. -/
def fnUnifiersSolveSpec : ChangeSpec := { name := "fnUnifiersSolve", fn := fun _ => fun
  | [d] => { results := [.lit (.bool true)], args := [d] }
  | _ => none }
def fnUnifiersSolveRow : OpenClaim := { program := "ytpcoohnjllclnaagreat", sum := "33cd3333c1cc215b2663baef94a7932dc6c70157bafbe4599bddb15bc9c21753", func := "loop.example/g00461/laws.FnUnifiersSolve", spec := "fnUnifiersSolve", inPlace := ["slices.overlaps[int]"], unfollowed := true, recurses := true, apart := false }
def FnUnifiersSolveSaid : Prop := fnUnifiersSolveRow.holds Tryz.pinned (OpenSpec.ofChange fnUnifiersSolveSpec)

/-- ITS FALSE NEIGHBOUR: 'it returns false'. Refute it at one input. -/
def fnUnifiersSolveWrong : ChangeSpec := { name := "fnUnifiersSolve", fn := fun _ => fun
  | [d] => { results := [.lit (.bool false)], args := [d] }
  | _ => none }
def FnUnifiersSolveWrongFalsely : Prop := fnUnifiersSolveRow.holds Tryz.pinned (OpenSpec.ofChange fnUnifiersSolveWrong)

/-- 'laws.FnUnifiersAll': WHATEVER THE INPUT: true; the input reads as it did. -/
def fnUnifiersAllSpec : ChangeSpec := { name := "fnUnifiersAll", fn := fun _ => fun
  | [d] => { results := [.lit (.bool true)], args := [d] }
  | _ => none }
def fnUnifiersAllRow : OpenClaim := { program := "ytpcoohnjllclnaagreat", sum := "33cd3333c1cc215b2663baef94a7932dc6c70157bafbe4599bddb15bc9c21753", func := "loop.example/g00461/laws.FnUnifiersAll", spec := "fnUnifiersAll", inPlace := ["slices.overlaps[int]", "slices.overlaps[loop.example/g00461/impl.Bind]"], unfollowed := true, recurses := true, apart := false }
def FnUnifiersAllSaid : Prop := fnUnifiersAllRow.holds Tryz.pinned (OpenSpec.ofChange fnUnifiersAllSpec)

/-- ITS FALSE NEIGHBOUR: 'it returns false'. Refute it at one input. -/
def fnUnifiersAllWrong : ChangeSpec := { name := "fnUnifiersAll", fn := fun _ => fun
  | [d] => { results := [.lit (.bool false)], args := [d] }
  | _ => none }
def FnUnifiersAllWrongFalsely : Prop := fnUnifiersAllRow.holds Tryz.pinned (OpenSpec.ofChange fnUnifiersAllWrong)

/-- 'laws.FnUnifyGround': WHATEVER THE INPUT: true; the input reads as it did. -/
def fnUnifyGroundSpec : ChangeSpec := { name := "fnUnifyGround", fn := fun _ => fun
  | [d] => { results := [.lit (.bool true)], args := [d] }
  | _ => none }
def fnUnifyGroundRow : OpenClaim := { program := "ytpcoohnjllclnaagreat", sum := "33cd3333c1cc215b2663baef94a7932dc6c70157bafbe4599bddb15bc9c21753", func := "loop.example/g00461/laws.FnUnifyGround", spec := "fnUnifyGround", inPlace := ["slices.overlaps[int]"], unfollowed := true, recurses := true, apart := false }
def FnUnifyGroundSaid : Prop := fnUnifyGroundRow.holds Tryz.pinned (OpenSpec.ofChange fnUnifyGroundSpec)

/-- ITS FALSE NEIGHBOUR: 'it returns false'. Refute it at one input. -/
def fnUnifyGroundWrong : ChangeSpec := { name := "fnUnifyGround", fn := fun _ => fun
  | [d] => { results := [.lit (.bool false)], args := [d] }
  | _ => none }
def FnUnifyGroundWrongFalsely : Prop := fnUnifyGroundRow.holds Tryz.pinned (OpenSpec.ofChange fnUnifyGroundWrong)

/-- 'laws.FnMatchesSound': WHATEVER THE INPUT: true; the input reads as it did. -/
def fnMatchesSoundSpec : ChangeSpec := { name := "fnMatchesSound", fn := fun _ => fun
  | [d] => { results := [.lit (.bool true)], args := [d] }
  | _ => none }
def fnMatchesSoundRow : OpenClaim := { program := "ytpcoohnjllclnaagreat", sum := "33cd3333c1cc215b2663baef94a7932dc6c70157bafbe4599bddb15bc9c21753", func := "loop.example/g00461/laws.FnMatchesSound", spec := "fnMatchesSound", inPlace := ["slices.overlaps[loop.example/g00461/impl.Bind]", "slices.overlaps[int]"], unfollowed := true, recurses := true, apart := false }
def FnMatchesSoundSaid : Prop := fnMatchesSoundRow.holds Tryz.pinned (OpenSpec.ofChange fnMatchesSoundSpec)

/-- ITS FALSE NEIGHBOUR: 'it returns false'. Refute it at one input. -/
def fnMatchesSoundWrong : ChangeSpec := { name := "fnMatchesSound", fn := fun _ => fun
  | [d] => { results := [.lit (.bool false)], args := [d] }
  | _ => none }
def FnMatchesSoundWrongFalsely : Prop := fnMatchesSoundRow.holds Tryz.pinned (OpenSpec.ofChange fnMatchesSoundWrong)

/-- 'laws.FnUnifyBothWays': WHATEVER THE INPUT: true; the input reads as it did. -/
def fnUnifyBothWaysSpec : ChangeSpec := { name := "fnUnifyBothWays", fn := fun _ => fun
  | [d] => { results := [.lit (.bool true)], args := [d] }
  | _ => none }
def fnUnifyBothWaysRow : OpenClaim := { program := "ytpcoohnjllclnaagreat", sum := "33cd3333c1cc215b2663baef94a7932dc6c70157bafbe4599bddb15bc9c21753", func := "loop.example/g00461/laws.FnUnifyBothWays", spec := "fnUnifyBothWays", inPlace := ["slices.overlaps[int]"], unfollowed := true, recurses := true, apart := false }
def FnUnifyBothWaysSaid : Prop := fnUnifyBothWaysRow.holds Tryz.pinned (OpenSpec.ofChange fnUnifyBothWaysSpec)

/-- ITS FALSE NEIGHBOUR: 'it returns false'. Refute it at one input. -/
def fnUnifyBothWaysWrong : ChangeSpec := { name := "fnUnifyBothWays", fn := fun _ => fun
  | [d] => { results := [.lit (.bool false)], args := [d] }
  | _ => none }
def FnUnifyBothWaysWrongFalsely : Prop := fnUnifyBothWaysRow.holds Tryz.pinned (OpenSpec.ofChange fnUnifyBothWaysWrong)

/-- 'laws.FnExactUnifies': WHATEVER THE INPUT: true; the input reads as it did. -/
def fnExactUnifiesSpec : ChangeSpec := { name := "fnExactUnifies", fn := fun _ => fun
  | [d1, d2, d3] => { results := [.lit (.bool true)], args := [d1, d2, d3] }
  | _ => none }
def fnExactUnifiesRow : OpenClaim := { program := "ytpcoohnjllclnaagreat", sum := "33cd3333c1cc215b2663baef94a7932dc6c70157bafbe4599bddb15bc9c21753", func := "loop.example/g00461/laws.FnExactUnifies", spec := "fnExactUnifies", inPlace := ["slices.overlaps[int]"], unfollowed := true, recurses := true, loops := true, apart := false }
def FnExactUnifiesSaid : Prop := fnExactUnifiesRow.holds Tryz.pinned (OpenSpec.ofChange fnExactUnifiesSpec)

/-- ITS FALSE NEIGHBOUR: 'it returns false'. Refute it at one input. -/
def fnExactUnifiesWrong : ChangeSpec := { name := "fnExactUnifies", fn := fun _ => fun
  | [d1, d2, d3] => { results := [.lit (.bool false)], args := [d1, d2, d3] }
  | _ => none }
def FnExactUnifiesWrongFalsely : Prop := fnExactUnifiesRow.holds Tryz.pinned (OpenSpec.ofChange fnExactUnifiesWrong)

/-- 'laws.FnUnifyAll': WHATEVER THE INPUT: true; the input reads as it did. -/
def fnUnifyAllSpec : ChangeSpec := { name := "fnUnifyAll", fn := fun _ => fun
  | [d] => { results := [.lit (.bool true)], args := [d] }
  | _ => none }
def fnUnifyAllRow : OpenClaim := { program := "ytpcoohnjllclnaagreat", sum := "33cd3333c1cc215b2663baef94a7932dc6c70157bafbe4599bddb15bc9c21753", func := "loop.example/g00461/laws.FnUnifyAll", spec := "fnUnifyAll", inPlace := ["slices.overlaps[int]"], unfollowed := true, recurses := true, apart := false }
def FnUnifyAllSaid : Prop := fnUnifyAllRow.holds Tryz.pinned (OpenSpec.ofChange fnUnifyAllSpec)

/-- ITS FALSE NEIGHBOUR: 'it returns false'. Refute it at one input. -/
def fnUnifyAllWrong : ChangeSpec := { name := "fnUnifyAll", fn := fun _ => fun
  | [d] => { results := [.lit (.bool false)], args := [d] }
  | _ => none }
def FnUnifyAllWrongFalsely : Prop := fnUnifyAllRow.holds Tryz.pinned (OpenSpec.ofChange fnUnifyAllWrong)

/-- 'laws.FnExactUnify': WHATEVER THE INPUT: true; the input reads as it did. -/
def fnExactUnifySpec : ChangeSpec := { name := "fnExactUnify", fn := fun _ => fun
  | [d1, d2, d3] => { results := [.lit (.bool true)], args := [d1, d2, d3] }
  | _ => none }
def fnExactUnifyRow : OpenClaim := { program := "ytpcoohnjllclnaagreat", sum := "33cd3333c1cc215b2663baef94a7932dc6c70157bafbe4599bddb15bc9c21753", func := "loop.example/g00461/laws.FnExactUnify", spec := "fnExactUnify", inPlace := ["slices.overlaps[int]"], unfollowed := true, recurses := true, loops := true, apart := false }
def FnExactUnifySaid : Prop := fnExactUnifyRow.holds Tryz.pinned (OpenSpec.ofChange fnExactUnifySpec)

/-- ITS FALSE NEIGHBOUR: 'it returns false'. Refute it at one input. -/
def fnExactUnifyWrong : ChangeSpec := { name := "fnExactUnify", fn := fun _ => fun
  | [d1, d2, d3] => { results := [.lit (.bool false)], args := [d1, d2, d3] }
  | _ => none }
def FnExactUnifyWrongFalsely : Prop := fnExactUnifyRow.holds Tryz.pinned (OpenSpec.ofChange fnExactUnifyWrong)

/-- 'laws.FnExactUnifyAll': WHATEVER THE INPUT: true; the input reads as it did. -/
def fnExactUnifyAllSpec : ChangeSpec := { name := "fnExactUnifyAll", fn := fun _ => fun
  | [d1, d2, d3] => { results := [.lit (.bool true)], args := [d1, d2, d3] }
  | _ => none }
def fnExactUnifyAllRow : OpenClaim := { program := "ytpcoohnjllclnaagreat", sum := "33cd3333c1cc215b2663baef94a7932dc6c70157bafbe4599bddb15bc9c21753", func := "loop.example/g00461/laws.FnExactUnifyAll", spec := "fnExactUnifyAll", inPlace := ["slices.overlaps[int]"], unfollowed := true, recurses := true, loops := true, apart := false }
def FnExactUnifyAllSaid : Prop := fnExactUnifyAllRow.holds Tryz.pinned (OpenSpec.ofChange fnExactUnifyAllSpec)

/-- ITS FALSE NEIGHBOUR: 'it returns false'. Refute it at one input. -/
def fnExactUnifyAllWrong : ChangeSpec := { name := "fnExactUnifyAll", fn := fun _ => fun
  | [d1, d2, d3] => { results := [.lit (.bool false)], args := [d1, d2, d3] }
  | _ => none }
def FnExactUnifyAllWrongFalsely : Prop := fnExactUnifyAllRow.holds Tryz.pinned (OpenSpec.ofChange fnExactUnifyAllWrong)

/- THE SECOND FORM. 'bulk': how many values and letters a reading holds, each counted each time it is reached (what is shared counts as often as it is met; a slice's spare places count too). A statement '..UptoSaid' is the law's where the arguments, and the package variables that the reading takes, are together of bulk at most 1048576: NARROWER than '..Said'. Prove '..Said' where nothing that the law and all that it calls make is longer than what came in: it says more and counts as full. Else prove '..UptoSaid'. A law counts once. -/
mutual
def uptoBulk {H : Type} : DataW H → Nat
  | .lit (.string bytes) => bytes.length + 1
  | .lit _ => 1
  | .nil => 1
  | .ptr d => uptoBulk d + 1
  | .slice elems spare => uptoBulkAll elems + uptoBulkAll spare + 1
  | .agg parts => uptoBulkAll parts + 1
  | .iface _ d => uptoBulk d + 1
  | .map entries => uptoBulkEntries entries + 1
  | .held _ => 1
def uptoBulkAll {H : Type} : List (DataW H) → Nat
  | [] => 0
  | d :: r => uptoBulk d + uptoBulkAll r
def uptoBulkEntries {H : Type} : List (Lit × DataW H) → Nat
  | [] => 0
  | x :: r => uptoBulkEntry x + uptoBulkEntries r
def uptoBulkEntry {H : Type} : Lit × DataW H → Nat
  | (.string bytes, d) => bytes.length + uptoBulk d + 1
  | (_, d) => uptoBulk d + 1
 end
def uptoSmall : (H : Type) → List (DataW H) → Bool := fun _ ds => decide (uptoBulkAll ds ≤ 1048576)
def OpenSpec.upto (s : _root_.Go.ChangeSpec) : _root_.Go.OpenSpec := { _root_.Go.OpenSpec.ofChange s with cond := some uptoSmall }

/-- 'laws.FnMatchesAll', WHERE WHAT IT READS IS OF BULK AT MOST 1048576: true; the input reads as it did. -/
def fnMatchesAllUptoRow : OpenClaim := { program := "ytpcoohnjllclnaagreat", sum := "33cd3333c1cc215b2663baef94a7932dc6c70157bafbe4599bddb15bc9c21753", func := "loop.example/g00461/laws.FnMatchesAll", spec := "fnMatchesAll", inPlace := ["slices.overlaps[int]", "slices.overlaps[loop.example/g00461/impl.Bind]"], unfollowed := true, recurses := true, apart := false, narrowed := true }
def FnMatchesAllUptoSaid : Prop := fnMatchesAllUptoRow.holds Tryz.pinned (OpenSpec.upto fnMatchesAllSpec)

/-- 'laws.FnUnifiersSolve', WHERE WHAT IT READS IS OF BULK AT MOST 1048576: true; the input reads as it did. -/
def fnUnifiersSolveUptoRow : OpenClaim := { program := "ytpcoohnjllclnaagreat", sum := "33cd3333c1cc215b2663baef94a7932dc6c70157bafbe4599bddb15bc9c21753", func := "loop.example/g00461/laws.FnUnifiersSolve", spec := "fnUnifiersSolve", inPlace := ["slices.overlaps[int]"], unfollowed := true, recurses := true, apart := false, narrowed := true }
def FnUnifiersSolveUptoSaid : Prop := fnUnifiersSolveUptoRow.holds Tryz.pinned (OpenSpec.upto fnUnifiersSolveSpec)

/-- 'laws.FnUnifiersAll', WHERE WHAT IT READS IS OF BULK AT MOST 1048576: true; the input reads as it did. -/
def fnUnifiersAllUptoRow : OpenClaim := { program := "ytpcoohnjllclnaagreat", sum := "33cd3333c1cc215b2663baef94a7932dc6c70157bafbe4599bddb15bc9c21753", func := "loop.example/g00461/laws.FnUnifiersAll", spec := "fnUnifiersAll", inPlace := ["slices.overlaps[int]", "slices.overlaps[loop.example/g00461/impl.Bind]"], unfollowed := true, recurses := true, apart := false, narrowed := true }
def FnUnifiersAllUptoSaid : Prop := fnUnifiersAllUptoRow.holds Tryz.pinned (OpenSpec.upto fnUnifiersAllSpec)

/-- 'laws.FnUnifyGround', WHERE WHAT IT READS IS OF BULK AT MOST 1048576: true; the input reads as it did. -/
def fnUnifyGroundUptoRow : OpenClaim := { program := "ytpcoohnjllclnaagreat", sum := "33cd3333c1cc215b2663baef94a7932dc6c70157bafbe4599bddb15bc9c21753", func := "loop.example/g00461/laws.FnUnifyGround", spec := "fnUnifyGround", inPlace := ["slices.overlaps[int]"], unfollowed := true, recurses := true, apart := false, narrowed := true }
def FnUnifyGroundUptoSaid : Prop := fnUnifyGroundUptoRow.holds Tryz.pinned (OpenSpec.upto fnUnifyGroundSpec)

/-- 'laws.FnMatchesSound', WHERE WHAT IT READS IS OF BULK AT MOST 1048576: true; the input reads as it did. -/
def fnMatchesSoundUptoRow : OpenClaim := { program := "ytpcoohnjllclnaagreat", sum := "33cd3333c1cc215b2663baef94a7932dc6c70157bafbe4599bddb15bc9c21753", func := "loop.example/g00461/laws.FnMatchesSound", spec := "fnMatchesSound", inPlace := ["slices.overlaps[loop.example/g00461/impl.Bind]", "slices.overlaps[int]"], unfollowed := true, recurses := true, apart := false, narrowed := true }
def FnMatchesSoundUptoSaid : Prop := fnMatchesSoundUptoRow.holds Tryz.pinned (OpenSpec.upto fnMatchesSoundSpec)

/-- 'laws.FnUnifyBothWays', WHERE WHAT IT READS IS OF BULK AT MOST 1048576: true; the input reads as it did. -/
def fnUnifyBothWaysUptoRow : OpenClaim := { program := "ytpcoohnjllclnaagreat", sum := "33cd3333c1cc215b2663baef94a7932dc6c70157bafbe4599bddb15bc9c21753", func := "loop.example/g00461/laws.FnUnifyBothWays", spec := "fnUnifyBothWays", inPlace := ["slices.overlaps[int]"], unfollowed := true, recurses := true, apart := false, narrowed := true }
def FnUnifyBothWaysUptoSaid : Prop := fnUnifyBothWaysUptoRow.holds Tryz.pinned (OpenSpec.upto fnUnifyBothWaysSpec)

/-- 'laws.FnExactUnifies', WHERE WHAT IT READS IS OF BULK AT MOST 1048576: true; the input reads as it did. -/
def fnExactUnifiesUptoRow : OpenClaim := { program := "ytpcoohnjllclnaagreat", sum := "33cd3333c1cc215b2663baef94a7932dc6c70157bafbe4599bddb15bc9c21753", func := "loop.example/g00461/laws.FnExactUnifies", spec := "fnExactUnifies", inPlace := ["slices.overlaps[int]"], unfollowed := true, recurses := true, loops := true, apart := false, narrowed := true }
def FnExactUnifiesUptoSaid : Prop := fnExactUnifiesUptoRow.holds Tryz.pinned (OpenSpec.upto fnExactUnifiesSpec)

/-- 'laws.FnUnifyAll', WHERE WHAT IT READS IS OF BULK AT MOST 1048576: true; the input reads as it did. -/
def fnUnifyAllUptoRow : OpenClaim := { program := "ytpcoohnjllclnaagreat", sum := "33cd3333c1cc215b2663baef94a7932dc6c70157bafbe4599bddb15bc9c21753", func := "loop.example/g00461/laws.FnUnifyAll", spec := "fnUnifyAll", inPlace := ["slices.overlaps[int]"], unfollowed := true, recurses := true, apart := false, narrowed := true }
def FnUnifyAllUptoSaid : Prop := fnUnifyAllUptoRow.holds Tryz.pinned (OpenSpec.upto fnUnifyAllSpec)

/-- 'laws.FnExactUnify', WHERE WHAT IT READS IS OF BULK AT MOST 1048576: true; the input reads as it did. -/
def fnExactUnifyUptoRow : OpenClaim := { program := "ytpcoohnjllclnaagreat", sum := "33cd3333c1cc215b2663baef94a7932dc6c70157bafbe4599bddb15bc9c21753", func := "loop.example/g00461/laws.FnExactUnify", spec := "fnExactUnify", inPlace := ["slices.overlaps[int]"], unfollowed := true, recurses := true, loops := true, apart := false, narrowed := true }
def FnExactUnifyUptoSaid : Prop := fnExactUnifyUptoRow.holds Tryz.pinned (OpenSpec.upto fnExactUnifySpec)

/-- 'laws.FnExactUnifyAll', WHERE WHAT IT READS IS OF BULK AT MOST 1048576: true; the input reads as it did. -/
def fnExactUnifyAllUptoRow : OpenClaim := { program := "ytpcoohnjllclnaagreat", sum := "33cd3333c1cc215b2663baef94a7932dc6c70157bafbe4599bddb15bc9c21753", func := "loop.example/g00461/laws.FnExactUnifyAll", spec := "fnExactUnifyAll", inPlace := ["slices.overlaps[int]"], unfollowed := true, recurses := true, loops := true, apart := false, narrowed := true }
def FnExactUnifyAllUptoSaid : Prop := fnExactUnifyAllUptoRow.holds Tryz.pinned (OpenSpec.upto fnExactUnifyAllSpec)

end Rows
end Go.Proofs.YtpcoohnjllclnaaGreat
