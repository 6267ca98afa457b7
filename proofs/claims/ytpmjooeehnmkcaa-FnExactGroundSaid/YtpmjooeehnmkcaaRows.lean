/-
  NARROWER THAN 'FOR EVERY INPUT', by the rows' own cells (each row's printed sentence says how): FnExactCount: loops · FnExactBefore: loops · FnExactLitSame: loops · FnExactWeight: loops · FnExactGround: loops · FnExactTermText: loops · FnExactTermOk: loops · FnExactSubText: loops · FnExactSubOk: loops.
  DERIVED. THE GIVEN ROWS OF THIS SEAT. 12 by the template 'for every input the law returns true; each argument reads behind the call as it read before'; 0 by the template 'total and deterministic' (their statements: YtpmjooeehnmkcaaTotals.lean).
  GIVEN WITH THE SEED: the statements are not yours to turn. If you find one false, say at which input.
  Laid BY PROGRAM, IN A SANDBOX (cutbox-rows.mjs): the forced cells as the released guide's own fill.sh prints them over the translation 630a1af6b27b1e85… (all of the seat's roots in one cut). By AI agents, Wed Nov 11 2026. No macro, syntax, notation, axiom, sorry.
-/
import Derived.Test.YtpmjooeehnmkcaaChecked
import GoSem.Claim
import GoSem.ClaimJoined
import GoSem.ClaimMapViews
import Derived.JoinedTies
import Derived.KernelRfl
namespace Go.Proofs.Ytpmjooeehnmkcaa
/- THE CELL 'sum', in the pinned program and in every row, IS THE sha256 OF THE DUMP (.gsa) THAT YtpmjooeehnmkcaaProg.lean LOADS. Nothing in Lean hashes anything: it is a label: what it is worth is what the hold of that sum in a sandbox is worth. -/
noncomputable def Try.pinned : Pinned := { name := "ytpmjooeehnmkcaa", sum := "630a1af6b27b1e8557c776c841aa5a089f8c7fd315e4acccd093b29aa2fb041e", checked := Try.checked }
namespace Rows
def none {H : Type} : Left H := { results := [], args := [] }

/-- 'laws.FnExactCount': WHATEVER THE INPUT: true; the input reads as it did. -/
def fnExactCountSpec : ChangeSpec := { name := "fnExactCount", fn := fun _ => fun
  | [d1, d2] => { results := [.lit (.bool true)], args := [d1, d2] }
  | _ => none }
def fnExactCountRow : OpenClaim := { program := "ytpmjooeehnmkcaa", sum := "630a1af6b27b1e8557c776c841aa5a089f8c7fd315e4acccd093b29aa2fb041e", func := "loop.example/g00461/laws.FnExactCount", spec := "fnExactCount", unfollowed := true, recurses := true, loops := true, apart := false }
def FnExactCountSaid : Prop := fnExactCountRow.holds Try.pinned (OpenSpec.ofChange fnExactCountSpec)

/-- ITS FALSE NEIGHBOUR: 'it returns false'. Refute it at one input. -/
def fnExactCountWrong : ChangeSpec := { name := "fnExactCount", fn := fun _ => fun
  | [d1, d2] => { results := [.lit (.bool false)], args := [d1, d2] }
  | _ => none }
def FnExactCountWrongFalsely : Prop := fnExactCountRow.holds Try.pinned (OpenSpec.ofChange fnExactCountWrong)

/-- 'laws.FnExactBefore': WHATEVER THE INPUT: true; the input reads as it did. -/
def fnExactBeforeSpec : ChangeSpec := { name := "fnExactBefore", fn := fun _ => fun
  | [d1, d2] => { results := [.lit (.bool true)], args := [d1, d2] }
  | _ => none }
def fnExactBeforeRow : OpenClaim := { program := "ytpmjooeehnmkcaa", sum := "630a1af6b27b1e8557c776c841aa5a089f8c7fd315e4acccd093b29aa2fb041e", func := "loop.example/g00461/laws.FnExactBefore", spec := "fnExactBefore", recurses := true, loops := true, apart := false }
def FnExactBeforeSaid : Prop := fnExactBeforeRow.holds Try.pinned (OpenSpec.ofChange fnExactBeforeSpec)

/-- ITS FALSE NEIGHBOUR: 'it returns false'. Refute it at one input. -/
def fnExactBeforeWrong : ChangeSpec := { name := "fnExactBefore", fn := fun _ => fun
  | [d1, d2] => { results := [.lit (.bool false)], args := [d1, d2] }
  | _ => none }
def FnExactBeforeWrongFalsely : Prop := fnExactBeforeRow.holds Try.pinned (OpenSpec.ofChange fnExactBeforeWrong)

/-- 'laws.FnExactSigOk': WHATEVER THE INPUT: true; the input reads as it did. -/
def fnExactSigOkSpec : ChangeSpec := { name := "fnExactSigOk", fn := fun _ => fun
  | [d] => { results := [.lit (.bool true)], args := [d] }
  | _ => none }
def fnExactSigOkRow : OpenClaim := { program := "ytpmjooeehnmkcaa", sum := "630a1af6b27b1e8557c776c841aa5a089f8c7fd315e4acccd093b29aa2fb041e", func := "loop.example/g00461/laws.FnExactSigOk", spec := "fnExactSigOk", unfollowed := true, recurses := true, apart := false }
def FnExactSigOkSaid : Prop := fnExactSigOkRow.holds Try.pinned (OpenSpec.ofChange fnExactSigOkSpec)

/-- ITS FALSE NEIGHBOUR: 'it returns false'. Refute it at one input. -/
def fnExactSigOkWrong : ChangeSpec := { name := "fnExactSigOk", fn := fun _ => fun
  | [d] => { results := [.lit (.bool false)], args := [d] }
  | _ => none }
def FnExactSigOkWrongFalsely : Prop := fnExactSigOkRow.holds Try.pinned (OpenSpec.ofChange fnExactSigOkWrong)

/-- 'laws.FnExactLitSame': WHATEVER THE INPUT: true; the input reads as it did. -/
def fnExactLitSameSpec : ChangeSpec := { name := "fnExactLitSame", fn := fun _ => fun
  | [d1, d2] => { results := [.lit (.bool true)], args := [d1, d2] }
  | _ => none }
def fnExactLitSameRow : OpenClaim := { program := "ytpmjooeehnmkcaa", sum := "630a1af6b27b1e8557c776c841aa5a089f8c7fd315e4acccd093b29aa2fb041e", func := "loop.example/g00461/laws.FnExactLitSame", spec := "fnExactLitSame", recurses := true, loops := true, apart := false }
def FnExactLitSameSaid : Prop := fnExactLitSameRow.holds Try.pinned (OpenSpec.ofChange fnExactLitSameSpec)

/-- ITS FALSE NEIGHBOUR: 'it returns false'. Refute it at one input. -/
def fnExactLitSameWrong : ChangeSpec := { name := "fnExactLitSame", fn := fun _ => fun
  | [d1, d2] => { results := [.lit (.bool false)], args := [d1, d2] }
  | _ => none }
def FnExactLitSameWrongFalsely : Prop := fnExactLitSameRow.holds Try.pinned (OpenSpec.ofChange fnExactLitSameWrong)

/-- 'laws.FnExactNumsText': WHATEVER THE INPUT: true; the input reads as it did. -/
def fnExactNumsTextSpec : ChangeSpec := { name := "fnExactNumsText", fn := fun _ => fun
  | [d] => { results := [.lit (.bool true)], args := [d] }
  | _ => none }
def fnExactNumsTextRow : OpenClaim := { program := "ytpmjooeehnmkcaa", sum := "630a1af6b27b1e8557c776c841aa5a089f8c7fd315e4acccd093b29aa2fb041e", func := "loop.example/g00461/laws.FnExactNumsText", spec := "fnExactNumsText", inPlace := ["internal/abi.NoEscape", "internal/bytealg.MakeNoZero"], recurses := true, apart := false }
def FnExactNumsTextSaid : Prop := fnExactNumsTextRow.holds Try.pinned (OpenSpec.ofChange fnExactNumsTextSpec)

/-- ITS FALSE NEIGHBOUR: 'it returns false'. Refute it at one input. -/
def fnExactNumsTextWrong : ChangeSpec := { name := "fnExactNumsText", fn := fun _ => fun
  | [d] => { results := [.lit (.bool false)], args := [d] }
  | _ => none }
def FnExactNumsTextWrongFalsely : Prop := fnExactNumsTextRow.holds Try.pinned (OpenSpec.ofChange fnExactNumsTextWrong)

/-- 'laws.FnExactWeight': WHATEVER THE INPUT: true; the input reads as it did. -/
def fnExactWeightSpec : ChangeSpec := { name := "fnExactWeight", fn := fun _ => fun
  | [d1, d2] => { results := [.lit (.bool true)], args := [d1, d2] }
  | _ => none }
def fnExactWeightRow : OpenClaim := { program := "ytpmjooeehnmkcaa", sum := "630a1af6b27b1e8557c776c841aa5a089f8c7fd315e4acccd093b29aa2fb041e", func := "loop.example/g00461/laws.FnExactWeight", spec := "fnExactWeight", recurses := true, loops := true, apart := false }
def FnExactWeightSaid : Prop := fnExactWeightRow.holds Try.pinned (OpenSpec.ofChange fnExactWeightSpec)

/-- ITS FALSE NEIGHBOUR: 'it returns false'. Refute it at one input. -/
def fnExactWeightWrong : ChangeSpec := { name := "fnExactWeight", fn := fun _ => fun
  | [d1, d2] => { results := [.lit (.bool false)], args := [d1, d2] }
  | _ => none }
def FnExactWeightWrongFalsely : Prop := fnExactWeightRow.holds Try.pinned (OpenSpec.ofChange fnExactWeightWrong)

/-- 'laws.FnExactSigText': WHATEVER THE INPUT: true; the input reads as it did. -/
def fnExactSigTextSpec : ChangeSpec := { name := "fnExactSigText", fn := fun _ => fun
  | [d] => { results := [.lit (.bool true)], args := [d] }
  | _ => none }
def fnExactSigTextRow : OpenClaim := { program := "ytpmjooeehnmkcaa", sum := "630a1af6b27b1e8557c776c841aa5a089f8c7fd315e4acccd093b29aa2fb041e", func := "loop.example/g00461/laws.FnExactSigText", spec := "fnExactSigText", inPlace := ["internal/abi.NoEscape", "internal/bytealg.MakeNoZero"], recurses := true, apart := false }
def FnExactSigTextSaid : Prop := fnExactSigTextRow.holds Try.pinned (OpenSpec.ofChange fnExactSigTextSpec)

/-- ITS FALSE NEIGHBOUR: 'it returns false'. Refute it at one input. -/
def fnExactSigTextWrong : ChangeSpec := { name := "fnExactSigText", fn := fun _ => fun
  | [d] => { results := [.lit (.bool false)], args := [d] }
  | _ => none }
def FnExactSigTextWrongFalsely : Prop := fnExactSigTextRow.holds Try.pinned (OpenSpec.ofChange fnExactSigTextWrong)

/-- 'laws.FnExactGround': WHATEVER THE INPUT: true; the input reads as it did. -/
def fnExactGroundSpec : ChangeSpec := { name := "fnExactGround", fn := fun _ => fun
  | [d] => { results := [.lit (.bool true)], args := [d] }
  | _ => none }
def fnExactGroundRow : OpenClaim := { program := "ytpmjooeehnmkcaa", sum := "630a1af6b27b1e8557c776c841aa5a089f8c7fd315e4acccd093b29aa2fb041e", func := "loop.example/g00461/laws.FnExactGround", spec := "fnExactGround", inPlace := ["slices.overlaps[int]"], unfollowed := true, recurses := true, loops := true, apart := false }
def FnExactGroundSaid : Prop := fnExactGroundRow.holds Try.pinned (OpenSpec.ofChange fnExactGroundSpec)

/-- ITS FALSE NEIGHBOUR: 'it returns false'. Refute it at one input. -/
def fnExactGroundWrong : ChangeSpec := { name := "fnExactGround", fn := fun _ => fun
  | [d] => { results := [.lit (.bool false)], args := [d] }
  | _ => none }
def FnExactGroundWrongFalsely : Prop := fnExactGroundRow.holds Try.pinned (OpenSpec.ofChange fnExactGroundWrong)

/-- 'laws.FnExactTermText': WHATEVER THE INPUT: true; the input reads as it did. -/
def fnExactTermTextSpec : ChangeSpec := { name := "fnExactTermText", fn := fun _ => fun
  | [d1, d2] => { results := [.lit (.bool true)], args := [d1, d2] }
  | _ => none }
def fnExactTermTextRow : OpenClaim := { program := "ytpmjooeehnmkcaa", sum := "630a1af6b27b1e8557c776c841aa5a089f8c7fd315e4acccd093b29aa2fb041e", func := "loop.example/g00461/laws.FnExactTermText", spec := "fnExactTermText", inPlace := ["internal/abi.NoEscape", "internal/bytealg.MakeNoZero"], recurses := true, loops := true, apart := false }
def FnExactTermTextSaid : Prop := fnExactTermTextRow.holds Try.pinned (OpenSpec.ofChange fnExactTermTextSpec)

/-- ITS FALSE NEIGHBOUR: 'it returns false'. Refute it at one input. -/
def fnExactTermTextWrong : ChangeSpec := { name := "fnExactTermText", fn := fun _ => fun
  | [d1, d2] => { results := [.lit (.bool false)], args := [d1, d2] }
  | _ => none }
def FnExactTermTextWrongFalsely : Prop := fnExactTermTextRow.holds Try.pinned (OpenSpec.ofChange fnExactTermTextWrong)

/-- 'laws.FnExactTermOk': WHATEVER THE INPUT: true; the input reads as it did. -/
def fnExactTermOkSpec : ChangeSpec := { name := "fnExactTermOk", fn := fun _ => fun
  | [d1, d2] => { results := [.lit (.bool true)], args := [d1, d2] }
  | _ => none }
def fnExactTermOkRow : OpenClaim := { program := "ytpmjooeehnmkcaa", sum := "630a1af6b27b1e8557c776c841aa5a089f8c7fd315e4acccd093b29aa2fb041e", func := "loop.example/g00461/laws.FnExactTermOk", spec := "fnExactTermOk", unfollowed := true, recurses := true, loops := true, apart := false }
def FnExactTermOkSaid : Prop := fnExactTermOkRow.holds Try.pinned (OpenSpec.ofChange fnExactTermOkSpec)

/-- ITS FALSE NEIGHBOUR: 'it returns false'. Refute it at one input. -/
def fnExactTermOkWrong : ChangeSpec := { name := "fnExactTermOk", fn := fun _ => fun
  | [d1, d2] => { results := [.lit (.bool false)], args := [d1, d2] }
  | _ => none }
def FnExactTermOkWrongFalsely : Prop := fnExactTermOkRow.holds Try.pinned (OpenSpec.ofChange fnExactTermOkWrong)

/-- 'laws.FnExactSubText': WHATEVER THE INPUT: true; the input reads as it did. -/
def fnExactSubTextSpec : ChangeSpec := { name := "fnExactSubText", fn := fun _ => fun
  | [d1, d2] => { results := [.lit (.bool true)], args := [d1, d2] }
  | _ => none }
def fnExactSubTextRow : OpenClaim := { program := "ytpmjooeehnmkcaa", sum := "630a1af6b27b1e8557c776c841aa5a089f8c7fd315e4acccd093b29aa2fb041e", func := "loop.example/g00461/laws.FnExactSubText", spec := "fnExactSubText", inPlace := ["internal/abi.NoEscape", "internal/bytealg.MakeNoZero"], recurses := true, loops := true, apart := false }
def FnExactSubTextSaid : Prop := fnExactSubTextRow.holds Try.pinned (OpenSpec.ofChange fnExactSubTextSpec)

/-- ITS FALSE NEIGHBOUR: 'it returns false'. Refute it at one input. -/
def fnExactSubTextWrong : ChangeSpec := { name := "fnExactSubText", fn := fun _ => fun
  | [d1, d2] => { results := [.lit (.bool false)], args := [d1, d2] }
  | _ => none }
def FnExactSubTextWrongFalsely : Prop := fnExactSubTextRow.holds Try.pinned (OpenSpec.ofChange fnExactSubTextWrong)

/-- 'laws.FnExactSubOk': WHATEVER THE INPUT: true; the input reads as it did. -/
def fnExactSubOkSpec : ChangeSpec := { name := "fnExactSubOk", fn := fun _ => fun
  | [d1, d2] => { results := [.lit (.bool true)], args := [d1, d2] }
  | _ => none }
def fnExactSubOkRow : OpenClaim := { program := "ytpmjooeehnmkcaa", sum := "630a1af6b27b1e8557c776c841aa5a089f8c7fd315e4acccd093b29aa2fb041e", func := "loop.example/g00461/laws.FnExactSubOk", spec := "fnExactSubOk", unfollowed := true, recurses := true, loops := true, apart := false }
def FnExactSubOkSaid : Prop := fnExactSubOkRow.holds Try.pinned (OpenSpec.ofChange fnExactSubOkSpec)

/-- ITS FALSE NEIGHBOUR: 'it returns false'. Refute it at one input. -/
def fnExactSubOkWrong : ChangeSpec := { name := "fnExactSubOk", fn := fun _ => fun
  | [d1, d2] => { results := [.lit (.bool false)], args := [d1, d2] }
  | _ => none }
def FnExactSubOkWrongFalsely : Prop := fnExactSubOkRow.holds Try.pinned (OpenSpec.ofChange fnExactSubOkWrong)

/- THE SECOND FORM. 'bulk': how many values and letters a reading holds, each counted each time it is reached (what is shared counts as often as it is met; a slice's spare places count too). A statement '..UptoSaid' is the law's where the arguments, and the package variables that the reading takes, are together of bulk at most 1048576: NARROWER than '..Said'. Prove '..Said' where nothing that the law and all that it calls make is longer than what came in: it says more and counts as full. Else prove '..UptoSaid'. A law counts once. -/
mutual
def uptoBulk {H : Type} : DataW H → Nat
  | .lit (.string bytes) => bytes.length + 1
  | .lit _ => 1
  | .nil => 1
  | .ptr d => uptoBulk d + 1
  | .slice elems spare => uptoBulkAll elems + uptoBulkAll spare + 1
  | .agg parts => uptoBulkAll parts + 1
  | .iface _ d => uptoBulk d + 1
  | .map entries => uptoBulkEntries entries + 1
  | .held _ => 1
def uptoBulkAll {H : Type} : List (DataW H) → Nat
  | [] => 0
  | d :: r => uptoBulk d + uptoBulkAll r
def uptoBulkEntries {H : Type} : List (Lit × DataW H) → Nat
  | [] => 0
  | x :: r => uptoBulkEntry x + uptoBulkEntries r
def uptoBulkEntry {H : Type} : Lit × DataW H → Nat
  | (.string bytes, d) => bytes.length + uptoBulk d + 1
  | (_, d) => uptoBulk d + 1
 end
def uptoSmall : (H : Type) → List (DataW H) → Bool := fun _ ds => decide (uptoBulkAll ds ≤ 1048576)
def OpenSpec.upto (s : _root_.Go.ChangeSpec) : _root_.Go.OpenSpec := { _root_.Go.OpenSpec.ofChange s with cond := some uptoSmall }

/-- 'laws.FnExactCount', WHERE WHAT IT READS IS OF BULK AT MOST 1048576: true; the input reads as it did. -/
def fnExactCountUptoRow : OpenClaim := { program := "ytpmjooeehnmkcaa", sum := "630a1af6b27b1e8557c776c841aa5a089f8c7fd315e4acccd093b29aa2fb041e", func := "loop.example/g00461/laws.FnExactCount", spec := "fnExactCount", unfollowed := true, recurses := true, loops := true, apart := false, narrowed := true }
def FnExactCountUptoSaid : Prop := fnExactCountUptoRow.holds Try.pinned (OpenSpec.upto fnExactCountSpec)

/-- 'laws.FnExactBefore', WHERE WHAT IT READS IS OF BULK AT MOST 1048576: true; the input reads as it did. -/
def fnExactBeforeUptoRow : OpenClaim := { program := "ytpmjooeehnmkcaa", sum := "630a1af6b27b1e8557c776c841aa5a089f8c7fd315e4acccd093b29aa2fb041e", func := "loop.example/g00461/laws.FnExactBefore", spec := "fnExactBefore", recurses := true, loops := true, apart := false, narrowed := true }
def FnExactBeforeUptoSaid : Prop := fnExactBeforeUptoRow.holds Try.pinned (OpenSpec.upto fnExactBeforeSpec)

/-- 'laws.FnExactSigOk', WHERE WHAT IT READS IS OF BULK AT MOST 1048576: true; the input reads as it did. -/
def fnExactSigOkUptoRow : OpenClaim := { program := "ytpmjooeehnmkcaa", sum := "630a1af6b27b1e8557c776c841aa5a089f8c7fd315e4acccd093b29aa2fb041e", func := "loop.example/g00461/laws.FnExactSigOk", spec := "fnExactSigOk", unfollowed := true, recurses := true, apart := false, narrowed := true }
def FnExactSigOkUptoSaid : Prop := fnExactSigOkUptoRow.holds Try.pinned (OpenSpec.upto fnExactSigOkSpec)

/-- 'laws.FnExactLitSame', WHERE WHAT IT READS IS OF BULK AT MOST 1048576: true; the input reads as it did. -/
def fnExactLitSameUptoRow : OpenClaim := { program := "ytpmjooeehnmkcaa", sum := "630a1af6b27b1e8557c776c841aa5a089f8c7fd315e4acccd093b29aa2fb041e", func := "loop.example/g00461/laws.FnExactLitSame", spec := "fnExactLitSame", recurses := true, loops := true, apart := false, narrowed := true }
def FnExactLitSameUptoSaid : Prop := fnExactLitSameUptoRow.holds Try.pinned (OpenSpec.upto fnExactLitSameSpec)

/-- 'laws.FnExactNumsText', WHERE WHAT IT READS IS OF BULK AT MOST 1048576: true; the input reads as it did. -/
def fnExactNumsTextUptoRow : OpenClaim := { program := "ytpmjooeehnmkcaa", sum := "630a1af6b27b1e8557c776c841aa5a089f8c7fd315e4acccd093b29aa2fb041e", func := "loop.example/g00461/laws.FnExactNumsText", spec := "fnExactNumsText", inPlace := ["internal/abi.NoEscape", "internal/bytealg.MakeNoZero"], recurses := true, apart := false, narrowed := true }
def FnExactNumsTextUptoSaid : Prop := fnExactNumsTextUptoRow.holds Try.pinned (OpenSpec.upto fnExactNumsTextSpec)

/-- 'laws.FnExactWeight', WHERE WHAT IT READS IS OF BULK AT MOST 1048576: true; the input reads as it did. -/
def fnExactWeightUptoRow : OpenClaim := { program := "ytpmjooeehnmkcaa", sum := "630a1af6b27b1e8557c776c841aa5a089f8c7fd315e4acccd093b29aa2fb041e", func := "loop.example/g00461/laws.FnExactWeight", spec := "fnExactWeight", recurses := true, loops := true, apart := false, narrowed := true }
def FnExactWeightUptoSaid : Prop := fnExactWeightUptoRow.holds Try.pinned (OpenSpec.upto fnExactWeightSpec)

/-- 'laws.FnExactSigText', WHERE WHAT IT READS IS OF BULK AT MOST 1048576: true; the input reads as it did. -/
def fnExactSigTextUptoRow : OpenClaim := { program := "ytpmjooeehnmkcaa", sum := "630a1af6b27b1e8557c776c841aa5a089f8c7fd315e4acccd093b29aa2fb041e", func := "loop.example/g00461/laws.FnExactSigText", spec := "fnExactSigText", inPlace := ["internal/abi.NoEscape", "internal/bytealg.MakeNoZero"], recurses := true, apart := false, narrowed := true }
def FnExactSigTextUptoSaid : Prop := fnExactSigTextUptoRow.holds Try.pinned (OpenSpec.upto fnExactSigTextSpec)

/-- 'laws.FnExactGround', WHERE WHAT IT READS IS OF BULK AT MOST 1048576: true; the input reads as it did. -/
def fnExactGroundUptoRow : OpenClaim := { program := "ytpmjooeehnmkcaa", sum := "630a1af6b27b1e8557c776c841aa5a089f8c7fd315e4acccd093b29aa2fb041e", func := "loop.example/g00461/laws.FnExactGround", spec := "fnExactGround", inPlace := ["slices.overlaps[int]"], unfollowed := true, recurses := true, loops := true, apart := false, narrowed := true }
def FnExactGroundUptoSaid : Prop := fnExactGroundUptoRow.holds Try.pinned (OpenSpec.upto fnExactGroundSpec)

/-- 'laws.FnExactTermText', WHERE WHAT IT READS IS OF BULK AT MOST 1048576: true; the input reads as it did. -/
def fnExactTermTextUptoRow : OpenClaim := { program := "ytpmjooeehnmkcaa", sum := "630a1af6b27b1e8557c776c841aa5a089f8c7fd315e4acccd093b29aa2fb041e", func := "loop.example/g00461/laws.FnExactTermText", spec := "fnExactTermText", inPlace := ["internal/abi.NoEscape", "internal/bytealg.MakeNoZero"], recurses := true, loops := true, apart := false, narrowed := true }
def FnExactTermTextUptoSaid : Prop := fnExactTermTextUptoRow.holds Try.pinned (OpenSpec.upto fnExactTermTextSpec)

/-- 'laws.FnExactTermOk', WHERE WHAT IT READS IS OF BULK AT MOST 1048576: true; the input reads as it did. -/
def fnExactTermOkUptoRow : OpenClaim := { program := "ytpmjooeehnmkcaa", sum := "630a1af6b27b1e8557c776c841aa5a089f8c7fd315e4acccd093b29aa2fb041e", func := "loop.example/g00461/laws.FnExactTermOk", spec := "fnExactTermOk", unfollowed := true, recurses := true, loops := true, apart := false, narrowed := true }
def FnExactTermOkUptoSaid : Prop := fnExactTermOkUptoRow.holds Try.pinned (OpenSpec.upto fnExactTermOkSpec)

/-- 'laws.FnExactSubText', WHERE WHAT IT READS IS OF BULK AT MOST 1048576: true; the input reads as it did. -/
def fnExactSubTextUptoRow : OpenClaim := { program := "ytpmjooeehnmkcaa", sum := "630a1af6b27b1e8557c776c841aa5a089f8c7fd315e4acccd093b29aa2fb041e", func := "loop.example/g00461/laws.FnExactSubText", spec := "fnExactSubText", inPlace := ["internal/abi.NoEscape", "internal/bytealg.MakeNoZero"], recurses := true, loops := true, apart := false, narrowed := true }
def FnExactSubTextUptoSaid : Prop := fnExactSubTextUptoRow.holds Try.pinned (OpenSpec.upto fnExactSubTextSpec)

/-- 'laws.FnExactSubOk', WHERE WHAT IT READS IS OF BULK AT MOST 1048576: true; the input reads as it did. -/
def fnExactSubOkUptoRow : OpenClaim := { program := "ytpmjooeehnmkcaa", sum := "630a1af6b27b1e8557c776c841aa5a089f8c7fd315e4acccd093b29aa2fb041e", func := "loop.example/g00461/laws.FnExactSubOk", spec := "fnExactSubOk", unfollowed := true, recurses := true, loops := true, apart := false, narrowed := true }
def FnExactSubOkUptoSaid : Prop := fnExactSubOkUptoRow.holds Try.pinned (OpenSpec.upto fnExactSubOkSpec)

end Rows
end Go.Proofs.Ytpmjooeehnmkcaa
