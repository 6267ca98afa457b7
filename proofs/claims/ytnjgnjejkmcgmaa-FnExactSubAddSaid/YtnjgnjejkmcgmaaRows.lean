/-
  NARROWER THAN 'FOR EVERY INPUT', by the rows' own cells (each row's printed sentence says how): FnExactNorm: loops · FnExactMake: loops · FnExactApply: loops · FnExactSubAdd: loops · FnExactSolved: loops.
  DERIVED. THE GIVEN ROWS OF THIS SEAT. 5 by the template 'for every input the law returns true; each argument reads behind the call as it read before'; 0 by the template 'total and deterministic' (their statements: YtnjgnjejkmcgmaaTotals.lean).
  GIVEN WITH THE SEED: the statements are not yours to turn. If you find one false, say at which input.
  Laid BY PROGRAM, IN A SANDBOX (cutbox-rows.mjs): the forced cells as the released guide's own fill.sh prints them over the translation a19cb77689ab22ba… (all of the seat's roots in one cut). By AI agents, Wed Nov 11 2026. No macro, syntax, notation, axiom, sorry.
-/
import Derived.Test.YtnjgnjejkmcgmaaChecked
import GoSem.Claim
import GoSem.ClaimJoined
import GoSem.ClaimMapViews
import Derived.JoinedTies
import Derived.KernelRfl
namespace Go.Proofs.Ytnjgnjejkmcgmaa
/- THE CELL 'sum', in the pinned program and in every row, IS THE sha256 OF THE DUMP (.gsa) THAT YtnjgnjejkmcgmaaProg.lean LOADS. Nothing in Lean hashes anything: it is a label: what it is worth is what the hold of that sum in a sandbox is worth. -/
noncomputable def Try.pinned : Pinned := { name := "ytnjgnjejkmcgmaa", sum := "a19cb77689ab22bae915db79383e5ae2c034c1c41ca45b756d0b6e2032bac6b6", checked := Try.checked }
namespace Rows
def none {H : Type} : Left H := { results := [], args := [] }

/-- 'laws.FnExactNorm': WHATEVER THE INPUT: true; the input reads as it did. -/
def fnExactNormSpec : ChangeSpec := { name := "fnExactNorm", fn := fun _ => fun
  | [d1, d2] => { results := [.lit (.bool true)], args := [d1, d2] }
  | _ => none }
def fnExactNormRow : OpenClaim := { program := "ytnjgnjejkmcgmaa", sum := "a19cb77689ab22bae915db79383e5ae2c034c1c41ca45b756d0b6e2032bac6b6", func := "loop.example/g00461/laws.FnExactNorm", spec := "fnExactNorm", unfollowed := true, recurses := true, loops := true, apart := false }
def FnExactNormSaid : Prop := fnExactNormRow.holds Try.pinned (OpenSpec.ofChange fnExactNormSpec)

/-- ITS FALSE NEIGHBOUR: 'it returns false'. Refute it at one input. -/
def fnExactNormWrong : ChangeSpec := { name := "fnExactNorm", fn := fun _ => fun
  | [d1, d2] => { results := [.lit (.bool false)], args := [d1, d2] }
  | _ => none }
def FnExactNormWrongFalsely : Prop := fnExactNormRow.holds Try.pinned (OpenSpec.ofChange fnExactNormWrong)

/-- 'laws.FnExactMake': WHATEVER THE INPUT: true; the input reads as it did. -/
def fnExactMakeSpec : ChangeSpec := { name := "fnExactMake", fn := fun _ => fun
  | [d1, d2, d3] => { results := [.lit (.bool true)], args := [d1, d2, d3] }
  | _ => none }
def fnExactMakeRow : OpenClaim := { program := "ytnjgnjejkmcgmaa", sum := "a19cb77689ab22bae915db79383e5ae2c034c1c41ca45b756d0b6e2032bac6b6", func := "loop.example/g00461/laws.FnExactMake", spec := "fnExactMake", unfollowed := true, recurses := true, loops := true, apart := false }
def FnExactMakeSaid : Prop := fnExactMakeRow.holds Try.pinned (OpenSpec.ofChange fnExactMakeSpec)

/-- ITS FALSE NEIGHBOUR: 'it returns false'. Refute it at one input. -/
def fnExactMakeWrong : ChangeSpec := { name := "fnExactMake", fn := fun _ => fun
  | [d1, d2, d3] => { results := [.lit (.bool false)], args := [d1, d2, d3] }
  | _ => none }
def FnExactMakeWrongFalsely : Prop := fnExactMakeRow.holds Try.pinned (OpenSpec.ofChange fnExactMakeWrong)

/-- 'laws.FnExactApply': WHATEVER THE INPUT: true; the input reads as it did. -/
def fnExactApplySpec : ChangeSpec := { name := "fnExactApply", fn := fun _ => fun
  | [d1, d2, d3] => { results := [.lit (.bool true)], args := [d1, d2, d3] }
  | _ => none }
def fnExactApplyRow : OpenClaim := { program := "ytnjgnjejkmcgmaa", sum := "a19cb77689ab22bae915db79383e5ae2c034c1c41ca45b756d0b6e2032bac6b6", func := "loop.example/g00461/laws.FnExactApply", spec := "fnExactApply", unfollowed := true, recurses := true, loops := true, apart := false }
def FnExactApplySaid : Prop := fnExactApplyRow.holds Try.pinned (OpenSpec.ofChange fnExactApplySpec)

/-- ITS FALSE NEIGHBOUR: 'it returns false'. Refute it at one input. -/
def fnExactApplyWrong : ChangeSpec := { name := "fnExactApply", fn := fun _ => fun
  | [d1, d2, d3] => { results := [.lit (.bool false)], args := [d1, d2, d3] }
  | _ => none }
def FnExactApplyWrongFalsely : Prop := fnExactApplyRow.holds Try.pinned (OpenSpec.ofChange fnExactApplyWrong)

/-- 'laws.FnExactSubAdd': WHATEVER THE INPUT: true; the input reads as it did. -/
def fnExactSubAddSpec : ChangeSpec := { name := "fnExactSubAdd", fn := fun _ => fun
  | [d1, d2, d3, d4] => { results := [.lit (.bool true)], args := [d1, d2, d3, d4] }
  | _ => none }
def fnExactSubAddRow : OpenClaim := { program := "ytnjgnjejkmcgmaa", sum := "a19cb77689ab22bae915db79383e5ae2c034c1c41ca45b756d0b6e2032bac6b6", func := "loop.example/g00461/laws.FnExactSubAdd", spec := "fnExactSubAdd", unfollowed := true, recurses := true, loops := true, apart := false }
def FnExactSubAddSaid : Prop := fnExactSubAddRow.holds Try.pinned (OpenSpec.ofChange fnExactSubAddSpec)

/-- ITS FALSE NEIGHBOUR: 'it returns false'. Refute it at one input. -/
def fnExactSubAddWrong : ChangeSpec := { name := "fnExactSubAdd", fn := fun _ => fun
  | [d1, d2, d3, d4] => { results := [.lit (.bool false)], args := [d1, d2, d3, d4] }
  | _ => none }
def FnExactSubAddWrongFalsely : Prop := fnExactSubAddRow.holds Try.pinned (OpenSpec.ofChange fnExactSubAddWrong)

/-- 'laws.FnExactSolved': WHATEVER THE INPUT: true; the input reads as it did. -/
def fnExactSolvedSpec : ChangeSpec := { name := "fnExactSolved", fn := fun _ => fun
  | [d1, d2, d3, d4] => { results := [.lit (.bool true)], args := [d1, d2, d3, d4] }
  | _ => none }
def fnExactSolvedRow : OpenClaim := { program := "ytnjgnjejkmcgmaa", sum := "a19cb77689ab22bae915db79383e5ae2c034c1c41ca45b756d0b6e2032bac6b6", func := "loop.example/g00461/laws.FnExactSolved", spec := "fnExactSolved", unfollowed := true, recurses := true, loops := true, apart := false }
def FnExactSolvedSaid : Prop := fnExactSolvedRow.holds Try.pinned (OpenSpec.ofChange fnExactSolvedSpec)

/-- ITS FALSE NEIGHBOUR: 'it returns false'. Refute it at one input. -/
def fnExactSolvedWrong : ChangeSpec := { name := "fnExactSolved", fn := fun _ => fun
  | [d1, d2, d3, d4] => { results := [.lit (.bool false)], args := [d1, d2, d3, d4] }
  | _ => none }
def FnExactSolvedWrongFalsely : Prop := fnExactSolvedRow.holds Try.pinned (OpenSpec.ofChange fnExactSolvedWrong)

/- THE SECOND FORM. 'bulk': how many values and letters a reading holds, each counted each time it is reached (what is shared counts as often as it is met; a slice's spare places count too). A statement '..UptoSaid' is the law's where the arguments, and the package variables that the reading takes, are together of bulk at most 1048576: NARROWER than '..Said'. Prove '..Said' where nothing that the law and all that it calls make is longer than what came in: it says more and counts as full. Else prove '..UptoSaid'. A law counts once. -/
mutual
def uptoBulk {H : Type} : DataW H → Nat
  | .lit (.string bytes) => bytes.length + 1
  | .lit _ => 1
  | .nil => 1
  | .ptr d => uptoBulk d + 1
  | .slice elems spare => uptoBulkAll elems + uptoBulkAll spare + 1
  | .agg parts => uptoBulkAll parts + 1
  | .iface _ d => uptoBulk d + 1
  | .map entries => uptoBulkEntries entries + 1
  | .held _ => 1
def uptoBulkAll {H : Type} : List (DataW H) → Nat
  | [] => 0
  | d :: r => uptoBulk d + uptoBulkAll r
def uptoBulkEntries {H : Type} : List (Lit × DataW H) → Nat
  | [] => 0
  | x :: r => uptoBulkEntry x + uptoBulkEntries r
def uptoBulkEntry {H : Type} : Lit × DataW H → Nat
  | (.string bytes, d) => bytes.length + uptoBulk d + 1
  | (_, d) => uptoBulk d + 1
 end
def uptoSmall : (H : Type) → List (DataW H) → Bool := fun _ ds => decide (uptoBulkAll ds ≤ 1048576)
def OpenSpec.upto (s : _root_.Go.ChangeSpec) : _root_.Go.OpenSpec := { _root_.Go.OpenSpec.ofChange s with cond := some uptoSmall }

/-- 'laws.FnExactNorm', WHERE WHAT IT READS IS OF BULK AT MOST 1048576: true; the input reads as it did. -/
def fnExactNormUptoRow : OpenClaim := { program := "ytnjgnjejkmcgmaa", sum := "a19cb77689ab22bae915db79383e5ae2c034c1c41ca45b756d0b6e2032bac6b6", func := "loop.example/g00461/laws.FnExactNorm", spec := "fnExactNorm", unfollowed := true, recurses := true, loops := true, apart := false, narrowed := true }
def FnExactNormUptoSaid : Prop := fnExactNormUptoRow.holds Try.pinned (OpenSpec.upto fnExactNormSpec)

/-- 'laws.FnExactMake', WHERE WHAT IT READS IS OF BULK AT MOST 1048576: true; the input reads as it did. -/
def fnExactMakeUptoRow : OpenClaim := { program := "ytnjgnjejkmcgmaa", sum := "a19cb77689ab22bae915db79383e5ae2c034c1c41ca45b756d0b6e2032bac6b6", func := "loop.example/g00461/laws.FnExactMake", spec := "fnExactMake", unfollowed := true, recurses := true, loops := true, apart := false, narrowed := true }
def FnExactMakeUptoSaid : Prop := fnExactMakeUptoRow.holds Try.pinned (OpenSpec.upto fnExactMakeSpec)

/-- 'laws.FnExactApply', WHERE WHAT IT READS IS OF BULK AT MOST 1048576: true; the input reads as it did. -/
def fnExactApplyUptoRow : OpenClaim := { program := "ytnjgnjejkmcgmaa", sum := "a19cb77689ab22bae915db79383e5ae2c034c1c41ca45b756d0b6e2032bac6b6", func := "loop.example/g00461/laws.FnExactApply", spec := "fnExactApply", unfollowed := true, recurses := true, loops := true, apart := false, narrowed := true }
def FnExactApplyUptoSaid : Prop := fnExactApplyUptoRow.holds Try.pinned (OpenSpec.upto fnExactApplySpec)

/-- 'laws.FnExactSubAdd', WHERE WHAT IT READS IS OF BULK AT MOST 1048576: true; the input reads as it did. -/
def fnExactSubAddUptoRow : OpenClaim := { program := "ytnjgnjejkmcgmaa", sum := "a19cb77689ab22bae915db79383e5ae2c034c1c41ca45b756d0b6e2032bac6b6", func := "loop.example/g00461/laws.FnExactSubAdd", spec := "fnExactSubAdd", unfollowed := true, recurses := true, loops := true, apart := false, narrowed := true }
def FnExactSubAddUptoSaid : Prop := fnExactSubAddUptoRow.holds Try.pinned (OpenSpec.upto fnExactSubAddSpec)

/-- 'laws.FnExactSolved', WHERE WHAT IT READS IS OF BULK AT MOST 1048576: true; the input reads as it did. -/
def fnExactSolvedUptoRow : OpenClaim := { program := "ytnjgnjejkmcgmaa", sum := "a19cb77689ab22bae915db79383e5ae2c034c1c41ca45b756d0b6e2032bac6b6", func := "loop.example/g00461/laws.FnExactSolved", spec := "fnExactSolved", unfollowed := true, recurses := true, loops := true, apart := false, narrowed := true }
def FnExactSolvedUptoSaid : Prop := fnExactSolvedUptoRow.holds Try.pinned (OpenSpec.upto fnExactSolvedSpec)

end Rows
end Go.Proofs.Ytnjgnjejkmcgmaa
