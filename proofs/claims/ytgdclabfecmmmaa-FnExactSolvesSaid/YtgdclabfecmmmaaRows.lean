/-
  NARROWER THAN 'FOR EVERY INPUT', by the rows' own cells (each row's printed sentence says how): FnExactParts: loops · FnExactTermSame: loops.
  DERIVED. THE GIVEN ROWS OF THIS SEAT. 12 by the template 'for every input the law returns true; each argument reads behind the call as it read before'; 0 by the template 'total and deterministic' (their statements: YtgdclabfecmmmaaTotals.lean).
  GIVEN WITH THE SEED: the statements are not yours to turn. If you find one false, say at which input.
  Laid BY PROGRAM, IN A SANDBOX (cutbox-rows.mjs): the forced cells as the released guide's own fill.sh prints them over the translation b255af8ce5d1078d… (all of the seat's roots in one cut). By AI agents, Wed Nov 11 2026. No macro, syntax, notation, axiom, sorry.
-/
import Derived.Test.YtgdclabfecmmmaaChecked
import GoSem.Claim
import GoSem.ClaimJoined
import GoSem.ClaimMapViews
import Derived.JoinedTies
import Derived.KernelRfl
namespace Go.Proofs.Ytgdclabfecmmmaa
/- THE CELL 'sum', in the pinned program and in every row, IS THE sha256 OF THE DUMP (.gsa) THAT YtgdclabfecmmmaaProg.lean LOADS. Nothing in Lean hashes anything: it is a label: what it is worth is what the hold of that sum in a sandbox is worth. -/
noncomputable def Try.pinned : Pinned := { name := "ytgdclabfecmmmaa", sum := "b255af8ce5d1078dfb13b590bddff97225e253ccac92d05eb7bdc7a7419cc460", checked := Try.checked }
namespace Rows
def none {H : Type} : Left H := { results := [], args := [] }

/-- 'laws.FnExactConstants': WHATEVER THE INPUT: true; the input reads as it did. -/
def fnExactConstantsSpec : ChangeSpec := { name := "fnExactConstants", fn := fun _ => fun
  | [] => { results := [.lit (.bool true)], args := [] }
  | _ => none }
def fnExactConstantsRow : OpenClaim := { program := "ytgdclabfecmmmaa", sum := "b255af8ce5d1078dfb13b590bddff97225e253ccac92d05eb7bdc7a7419cc460", func := "loop.example/g00461/laws.FnExactConstants", spec := "fnExactConstants", apart := false }
def FnExactConstantsSaid : Prop := fnExactConstantsRow.holds Try.pinned (OpenSpec.ofChange fnExactConstantsSpec)

/-- ITS FALSE NEIGHBOUR: 'it returns false'. Refute it at one input. -/
def fnExactConstantsWrong : ChangeSpec := { name := "fnExactConstants", fn := fun _ => fun
  | [] => { results := [.lit (.bool false)], args := [] }
  | _ => none }
def FnExactConstantsWrongFalsely : Prop := fnExactConstantsRow.holds Try.pinned (OpenSpec.ofChange fnExactConstantsWrong)

/-- 'laws.FnExactNameOk': WHATEVER THE INPUT: true; the input reads as it did. -/
def fnExactNameOkSpec : ChangeSpec := { name := "fnExactNameOk", fn := fun _ => fun
  | [d] => { results := [.lit (.bool true)], args := [d] }
  | _ => none }
def fnExactNameOkRow : OpenClaim := { program := "ytgdclabfecmmmaa", sum := "b255af8ce5d1078dfb13b590bddff97225e253ccac92d05eb7bdc7a7419cc460", func := "loop.example/g00461/laws.FnExactNameOk", spec := "fnExactNameOk", apart := false }
def FnExactNameOkSaid : Prop := fnExactNameOkRow.holds Try.pinned (OpenSpec.ofChange fnExactNameOkSpec)

/-- ITS FALSE NEIGHBOUR: 'it returns false'. Refute it at one input. -/
def fnExactNameOkWrong : ChangeSpec := { name := "fnExactNameOk", fn := fun _ => fun
  | [d] => { results := [.lit (.bool false)], args := [d] }
  | _ => none }
def FnExactNameOkWrongFalsely : Prop := fnExactNameOkRow.holds Try.pinned (OpenSpec.ofChange fnExactNameOkWrong)

/-- 'laws.FnExactDigits': WHATEVER THE INPUT: true; the input reads as it did. -/
def fnExactDigitsSpec : ChangeSpec := { name := "fnExactDigits", fn := fun _ => fun
  | [d] => { results := [.lit (.bool true)], args := [d] }
  | _ => none }
def fnExactDigitsRow : OpenClaim := { program := "ytgdclabfecmmmaa", sum := "b255af8ce5d1078dfb13b590bddff97225e253ccac92d05eb7bdc7a7419cc460", func := "loop.example/g00461/laws.FnExactDigits", spec := "fnExactDigits", recurses := true, apart := false }
def FnExactDigitsSaid : Prop := fnExactDigitsRow.holds Try.pinned (OpenSpec.ofChange fnExactDigitsSpec)

/-- ITS FALSE NEIGHBOUR: 'it returns false'. Refute it at one input. -/
def fnExactDigitsWrong : ChangeSpec := { name := "fnExactDigits", fn := fun _ => fun
  | [d] => { results := [.lit (.bool false)], args := [d] }
  | _ => none }
def FnExactDigitsWrongFalsely : Prop := fnExactDigitsRow.holds Try.pinned (OpenSpec.ofChange fnExactDigitsWrong)

/-- 'laws.FnExactNumIn': WHATEVER THE INPUT: true; the input reads as it did. -/
def fnExactNumInSpec : ChangeSpec := { name := "fnExactNumIn", fn := fun _ => fun
  | [d1, d2] => { results := [.lit (.bool true)], args := [d1, d2] }
  | _ => none }
def fnExactNumInRow : OpenClaim := { program := "ytgdclabfecmmmaa", sum := "b255af8ce5d1078dfb13b590bddff97225e253ccac92d05eb7bdc7a7419cc460", func := "loop.example/g00461/laws.FnExactNumIn", spec := "fnExactNumIn", apart := false }
def FnExactNumInSaid : Prop := fnExactNumInRow.holds Try.pinned (OpenSpec.ofChange fnExactNumInSpec)

/-- ITS FALSE NEIGHBOUR: 'it returns false'. Refute it at one input. -/
def fnExactNumInWrong : ChangeSpec := { name := "fnExactNumIn", fn := fun _ => fun
  | [d1, d2] => { results := [.lit (.bool false)], args := [d1, d2] }
  | _ => none }
def FnExactNumInWrongFalsely : Prop := fnExactNumInRow.holds Try.pinned (OpenSpec.ofChange fnExactNumInWrong)

/-- 'laws.FnExactLeast': WHATEVER THE INPUT: true; the input reads as it did. -/
def fnExactLeastSpec : ChangeSpec := { name := "fnExactLeast", fn := fun _ => fun
  | [d1, d2] => { results := [.lit (.bool true)], args := [d1, d2] }
  | _ => none }
def fnExactLeastRow : OpenClaim := { program := "ytgdclabfecmmmaa", sum := "b255af8ce5d1078dfb13b590bddff97225e253ccac92d05eb7bdc7a7419cc460", func := "loop.example/g00461/laws.FnExactLeast", spec := "fnExactLeast", apart := false }
def FnExactLeastSaid : Prop := fnExactLeastRow.holds Try.pinned (OpenSpec.ofChange fnExactLeastSpec)

/-- ITS FALSE NEIGHBOUR: 'it returns false'. Refute it at one input. -/
def fnExactLeastWrong : ChangeSpec := { name := "fnExactLeast", fn := fun _ => fun
  | [d1, d2] => { results := [.lit (.bool false)], args := [d1, d2] }
  | _ => none }
def FnExactLeastWrongFalsely : Prop := fnExactLeastRow.holds Try.pinned (OpenSpec.ofChange fnExactLeastWrong)

/-- 'laws.FnExactSolves': WHATEVER THE INPUT: true; the input reads as it did. -/
def fnExactSolvesSpec : ChangeSpec := { name := "fnExactSolves", fn := fun _ => fun
  | [d1, d2, d3] => { results := [.lit (.bool true)], args := [d1, d2, d3] }
  | _ => none }
def fnExactSolvesRow : OpenClaim := { program := "ytgdclabfecmmmaa", sum := "b255af8ce5d1078dfb13b590bddff97225e253ccac92d05eb7bdc7a7419cc460", func := "loop.example/g00461/laws.FnExactSolves", spec := "fnExactSolves", unfollowed := true, recurses := true, apart := false }
def FnExactSolvesSaid : Prop := fnExactSolvesRow.holds Try.pinned (OpenSpec.ofChange fnExactSolvesSpec)

/-- ITS FALSE NEIGHBOUR: 'it returns false'. Refute it at one input. -/
def fnExactSolvesWrong : ChangeSpec := { name := "fnExactSolves", fn := fun _ => fun
  | [d1, d2, d3] => { results := [.lit (.bool false)], args := [d1, d2, d3] }
  | _ => none }
def FnExactSolvesWrongFalsely : Prop := fnExactSolvesRow.holds Try.pinned (OpenSpec.ofChange fnExactSolvesWrong)

/-- 'laws.FnExactNumber': WHATEVER THE INPUT: true; the input reads as it did. -/
def fnExactNumberSpec : ChangeSpec := { name := "fnExactNumber", fn := fun _ => fun
  | [d] => { results := [.lit (.bool true)], args := [d] }
  | _ => none }
def fnExactNumberRow : OpenClaim := { program := "ytgdclabfecmmmaa", sum := "b255af8ce5d1078dfb13b590bddff97225e253ccac92d05eb7bdc7a7419cc460", func := "loop.example/g00461/laws.FnExactNumber", spec := "fnExactNumber", recurses := true, apart := false }
def FnExactNumberSaid : Prop := fnExactNumberRow.holds Try.pinned (OpenSpec.ofChange fnExactNumberSpec)

/-- ITS FALSE NEIGHBOUR: 'it returns false'. Refute it at one input. -/
def fnExactNumberWrong : ChangeSpec := { name := "fnExactNumber", fn := fun _ => fun
  | [d] => { results := [.lit (.bool false)], args := [d] }
  | _ => none }
def FnExactNumberWrongFalsely : Prop := fnExactNumberRow.holds Try.pinned (OpenSpec.ofChange fnExactNumberWrong)

/-- 'laws.FnExactBlind': WHATEVER THE INPUT: true; the input reads as it did. -/
def fnExactBlindSpec : ChangeSpec := { name := "fnExactBlind", fn := fun _ => fun
  | [d1, d2] => { results := [.lit (.bool true)], args := [d1, d2] }
  | _ => none }
def fnExactBlindRow : OpenClaim := { program := "ytgdclabfecmmmaa", sum := "b255af8ce5d1078dfb13b590bddff97225e253ccac92d05eb7bdc7a7419cc460", func := "loop.example/g00461/laws.FnExactBlind", spec := "fnExactBlind", apart := false }
def FnExactBlindSaid : Prop := fnExactBlindRow.holds Try.pinned (OpenSpec.ofChange fnExactBlindSpec)

/-- ITS FALSE NEIGHBOUR: 'it returns false'. Refute it at one input. -/
def fnExactBlindWrong : ChangeSpec := { name := "fnExactBlind", fn := fun _ => fun
  | [d1, d2] => { results := [.lit (.bool false)], args := [d1, d2] }
  | _ => none }
def FnExactBlindWrongFalsely : Prop := fnExactBlindRow.holds Try.pinned (OpenSpec.ofChange fnExactBlindWrong)

/-- 'laws.FnExactArityOf': WHATEVER THE INPUT: true; the input reads as it did. -/
def fnExactArityOfSpec : ChangeSpec := { name := "fnExactArityOf", fn := fun _ => fun
  | [d1, d2] => { results := [.lit (.bool true)], args := [d1, d2] }
  | _ => none }
def fnExactArityOfRow : OpenClaim := { program := "ytgdclabfecmmmaa", sum := "b255af8ce5d1078dfb13b590bddff97225e253ccac92d05eb7bdc7a7419cc460", func := "loop.example/g00461/laws.FnExactArityOf", spec := "fnExactArityOf", apart := false }
def FnExactArityOfSaid : Prop := fnExactArityOfRow.holds Try.pinned (OpenSpec.ofChange fnExactArityOfSpec)

/-- ITS FALSE NEIGHBOUR: 'it returns false'. Refute it at one input. -/
def fnExactArityOfWrong : ChangeSpec := { name := "fnExactArityOf", fn := fun _ => fun
  | [d1, d2] => { results := [.lit (.bool false)], args := [d1, d2] }
  | _ => none }
def FnExactArityOfWrongFalsely : Prop := fnExactArityOfRow.holds Try.pinned (OpenSpec.ofChange fnExactArityOfWrong)

/-- 'laws.FnExactParts': WHATEVER THE INPUT: true; the input reads as it did. -/
def fnExactPartsSpec : ChangeSpec := { name := "fnExactParts", fn := fun _ => fun
  | [d] => { results := [.lit (.bool true)], args := [d] }
  | _ => none }
def fnExactPartsRow : OpenClaim := { program := "ytgdclabfecmmmaa", sum := "b255af8ce5d1078dfb13b590bddff97225e253ccac92d05eb7bdc7a7419cc460", func := "loop.example/g00461/laws.FnExactParts", spec := "fnExactParts", unfollowed := true, recurses := true, loops := true, apart := false }
def FnExactPartsSaid : Prop := fnExactPartsRow.holds Try.pinned (OpenSpec.ofChange fnExactPartsSpec)

/-- ITS FALSE NEIGHBOUR: 'it returns false'. Refute it at one input. -/
def fnExactPartsWrong : ChangeSpec := { name := "fnExactParts", fn := fun _ => fun
  | [d] => { results := [.lit (.bool false)], args := [d] }
  | _ => none }
def FnExactPartsWrongFalsely : Prop := fnExactPartsRow.holds Try.pinned (OpenSpec.ofChange fnExactPartsWrong)

/-- 'laws.FnExactSymOf': WHATEVER THE INPUT: true; the input reads as it did. -/
def fnExactSymOfSpec : ChangeSpec := { name := "fnExactSymOf", fn := fun _ => fun
  | [d1, d2] => { results := [.lit (.bool true)], args := [d1, d2] }
  | _ => none }
def fnExactSymOfRow : OpenClaim := { program := "ytgdclabfecmmmaa", sum := "b255af8ce5d1078dfb13b590bddff97225e253ccac92d05eb7bdc7a7419cc460", func := "loop.example/g00461/laws.FnExactSymOf", spec := "fnExactSymOf", unfollowed := true, recurses := true, apart := false }
def FnExactSymOfSaid : Prop := fnExactSymOfRow.holds Try.pinned (OpenSpec.ofChange fnExactSymOfSpec)

/-- ITS FALSE NEIGHBOUR: 'it returns false'. Refute it at one input. -/
def fnExactSymOfWrong : ChangeSpec := { name := "fnExactSymOf", fn := fun _ => fun
  | [d1, d2] => { results := [.lit (.bool false)], args := [d1, d2] }
  | _ => none }
def FnExactSymOfWrongFalsely : Prop := fnExactSymOfRow.holds Try.pinned (OpenSpec.ofChange fnExactSymOfWrong)

/-- 'laws.FnExactTermSame': WHATEVER THE INPUT: true; the input reads as it did. -/
def fnExactTermSameSpec : ChangeSpec := { name := "fnExactTermSame", fn := fun _ => fun
  | [d1, d2] => { results := [.lit (.bool true)], args := [d1, d2] }
  | _ => none }
def fnExactTermSameRow : OpenClaim := { program := "ytgdclabfecmmmaa", sum := "b255af8ce5d1078dfb13b590bddff97225e253ccac92d05eb7bdc7a7419cc460", func := "loop.example/g00461/laws.FnExactTermSame", spec := "fnExactTermSame", recurses := true, loops := true, apart := false }
def FnExactTermSameSaid : Prop := fnExactTermSameRow.holds Try.pinned (OpenSpec.ofChange fnExactTermSameSpec)

/-- ITS FALSE NEIGHBOUR: 'it returns false'. Refute it at one input. -/
def fnExactTermSameWrong : ChangeSpec := { name := "fnExactTermSame", fn := fun _ => fun
  | [d1, d2] => { results := [.lit (.bool false)], args := [d1, d2] }
  | _ => none }
def FnExactTermSameWrongFalsely : Prop := fnExactTermSameRow.holds Try.pinned (OpenSpec.ofChange fnExactTermSameWrong)

/- THE SECOND FORM. 'bulk': how many values and letters a reading holds, each counted each time it is reached (what is shared counts as often as it is met; a slice's spare places count too). A statement '..UptoSaid' is the law's where the arguments, and the package variables that the reading takes, are together of bulk at most 1048576: NARROWER than '..Said'. Prove '..Said' where nothing that the law and all that it calls make is longer than what came in: it says more and counts as full. Else prove '..UptoSaid'. A law counts once. -/
mutual
def uptoBulk {H : Type} : DataW H → Nat
  | .lit (.string bytes) => bytes.length + 1
  | .lit _ => 1
  | .nil => 1
  | .ptr d => uptoBulk d + 1
  | .slice elems spare => uptoBulkAll elems + uptoBulkAll spare + 1
  | .agg parts => uptoBulkAll parts + 1
  | .iface _ d => uptoBulk d + 1
  | .map entries => uptoBulkEntries entries + 1
  | .held _ => 1
def uptoBulkAll {H : Type} : List (DataW H) → Nat
  | [] => 0
  | d :: r => uptoBulk d + uptoBulkAll r
def uptoBulkEntries {H : Type} : List (Lit × DataW H) → Nat
  | [] => 0
  | x :: r => uptoBulkEntry x + uptoBulkEntries r
def uptoBulkEntry {H : Type} : Lit × DataW H → Nat
  | (.string bytes, d) => bytes.length + uptoBulk d + 1
  | (_, d) => uptoBulk d + 1
 end
def uptoSmall : (H : Type) → List (DataW H) → Bool := fun _ ds => decide (uptoBulkAll ds ≤ 1048576)
def OpenSpec.upto (s : _root_.Go.ChangeSpec) : _root_.Go.OpenSpec := { _root_.Go.OpenSpec.ofChange s with cond := some uptoSmall }

/-- 'laws.FnExactConstants', WHERE WHAT IT READS IS OF BULK AT MOST 1048576: true; the input reads as it did. -/
def fnExactConstantsUptoRow : OpenClaim := { program := "ytgdclabfecmmmaa", sum := "b255af8ce5d1078dfb13b590bddff97225e253ccac92d05eb7bdc7a7419cc460", func := "loop.example/g00461/laws.FnExactConstants", spec := "fnExactConstants", apart := false, narrowed := true }
def FnExactConstantsUptoSaid : Prop := fnExactConstantsUptoRow.holds Try.pinned (OpenSpec.upto fnExactConstantsSpec)

/-- 'laws.FnExactNameOk', WHERE WHAT IT READS IS OF BULK AT MOST 1048576: true; the input reads as it did. -/
def fnExactNameOkUptoRow : OpenClaim := { program := "ytgdclabfecmmmaa", sum := "b255af8ce5d1078dfb13b590bddff97225e253ccac92d05eb7bdc7a7419cc460", func := "loop.example/g00461/laws.FnExactNameOk", spec := "fnExactNameOk", apart := false, narrowed := true }
def FnExactNameOkUptoSaid : Prop := fnExactNameOkUptoRow.holds Try.pinned (OpenSpec.upto fnExactNameOkSpec)

/-- 'laws.FnExactDigits', WHERE WHAT IT READS IS OF BULK AT MOST 1048576: true; the input reads as it did. -/
def fnExactDigitsUptoRow : OpenClaim := { program := "ytgdclabfecmmmaa", sum := "b255af8ce5d1078dfb13b590bddff97225e253ccac92d05eb7bdc7a7419cc460", func := "loop.example/g00461/laws.FnExactDigits", spec := "fnExactDigits", recurses := true, apart := false, narrowed := true }
def FnExactDigitsUptoSaid : Prop := fnExactDigitsUptoRow.holds Try.pinned (OpenSpec.upto fnExactDigitsSpec)

/-- 'laws.FnExactNumIn', WHERE WHAT IT READS IS OF BULK AT MOST 1048576: true; the input reads as it did. -/
def fnExactNumInUptoRow : OpenClaim := { program := "ytgdclabfecmmmaa", sum := "b255af8ce5d1078dfb13b590bddff97225e253ccac92d05eb7bdc7a7419cc460", func := "loop.example/g00461/laws.FnExactNumIn", spec := "fnExactNumIn", apart := false, narrowed := true }
def FnExactNumInUptoSaid : Prop := fnExactNumInUptoRow.holds Try.pinned (OpenSpec.upto fnExactNumInSpec)

/-- 'laws.FnExactLeast', WHERE WHAT IT READS IS OF BULK AT MOST 1048576: true; the input reads as it did. -/
def fnExactLeastUptoRow : OpenClaim := { program := "ytgdclabfecmmmaa", sum := "b255af8ce5d1078dfb13b590bddff97225e253ccac92d05eb7bdc7a7419cc460", func := "loop.example/g00461/laws.FnExactLeast", spec := "fnExactLeast", apart := false, narrowed := true }
def FnExactLeastUptoSaid : Prop := fnExactLeastUptoRow.holds Try.pinned (OpenSpec.upto fnExactLeastSpec)

/-- 'laws.FnExactSolves', WHERE WHAT IT READS IS OF BULK AT MOST 1048576: true; the input reads as it did. -/
def fnExactSolvesUptoRow : OpenClaim := { program := "ytgdclabfecmmmaa", sum := "b255af8ce5d1078dfb13b590bddff97225e253ccac92d05eb7bdc7a7419cc460", func := "loop.example/g00461/laws.FnExactSolves", spec := "fnExactSolves", unfollowed := true, recurses := true, apart := false, narrowed := true }
def FnExactSolvesUptoSaid : Prop := fnExactSolvesUptoRow.holds Try.pinned (OpenSpec.upto fnExactSolvesSpec)

/-- 'laws.FnExactNumber', WHERE WHAT IT READS IS OF BULK AT MOST 1048576: true; the input reads as it did. -/
def fnExactNumberUptoRow : OpenClaim := { program := "ytgdclabfecmmmaa", sum := "b255af8ce5d1078dfb13b590bddff97225e253ccac92d05eb7bdc7a7419cc460", func := "loop.example/g00461/laws.FnExactNumber", spec := "fnExactNumber", recurses := true, apart := false, narrowed := true }
def FnExactNumberUptoSaid : Prop := fnExactNumberUptoRow.holds Try.pinned (OpenSpec.upto fnExactNumberSpec)

/-- 'laws.FnExactBlind', WHERE WHAT IT READS IS OF BULK AT MOST 1048576: true; the input reads as it did. -/
def fnExactBlindUptoRow : OpenClaim := { program := "ytgdclabfecmmmaa", sum := "b255af8ce5d1078dfb13b590bddff97225e253ccac92d05eb7bdc7a7419cc460", func := "loop.example/g00461/laws.FnExactBlind", spec := "fnExactBlind", apart := false, narrowed := true }
def FnExactBlindUptoSaid : Prop := fnExactBlindUptoRow.holds Try.pinned (OpenSpec.upto fnExactBlindSpec)

/-- 'laws.FnExactArityOf', WHERE WHAT IT READS IS OF BULK AT MOST 1048576: true; the input reads as it did. -/
def fnExactArityOfUptoRow : OpenClaim := { program := "ytgdclabfecmmmaa", sum := "b255af8ce5d1078dfb13b590bddff97225e253ccac92d05eb7bdc7a7419cc460", func := "loop.example/g00461/laws.FnExactArityOf", spec := "fnExactArityOf", apart := false, narrowed := true }
def FnExactArityOfUptoSaid : Prop := fnExactArityOfUptoRow.holds Try.pinned (OpenSpec.upto fnExactArityOfSpec)

/-- 'laws.FnExactParts', WHERE WHAT IT READS IS OF BULK AT MOST 1048576: true; the input reads as it did. -/
def fnExactPartsUptoRow : OpenClaim := { program := "ytgdclabfecmmmaa", sum := "b255af8ce5d1078dfb13b590bddff97225e253ccac92d05eb7bdc7a7419cc460", func := "loop.example/g00461/laws.FnExactParts", spec := "fnExactParts", unfollowed := true, recurses := true, loops := true, apart := false, narrowed := true }
def FnExactPartsUptoSaid : Prop := fnExactPartsUptoRow.holds Try.pinned (OpenSpec.upto fnExactPartsSpec)

/-- 'laws.FnExactSymOf', WHERE WHAT IT READS IS OF BULK AT MOST 1048576: true; the input reads as it did. -/
def fnExactSymOfUptoRow : OpenClaim := { program := "ytgdclabfecmmmaa", sum := "b255af8ce5d1078dfb13b590bddff97225e253ccac92d05eb7bdc7a7419cc460", func := "loop.example/g00461/laws.FnExactSymOf", spec := "fnExactSymOf", unfollowed := true, recurses := true, apart := false, narrowed := true }
def FnExactSymOfUptoSaid : Prop := fnExactSymOfUptoRow.holds Try.pinned (OpenSpec.upto fnExactSymOfSpec)

/-- 'laws.FnExactTermSame', WHERE WHAT IT READS IS OF BULK AT MOST 1048576: true; the input reads as it did. -/
def fnExactTermSameUptoRow : OpenClaim := { program := "ytgdclabfecmmmaa", sum := "b255af8ce5d1078dfb13b590bddff97225e253ccac92d05eb7bdc7a7419cc460", func := "loop.example/g00461/laws.FnExactTermSame", spec := "fnExactTermSame", recurses := true, loops := true, apart := false, narrowed := true }
def FnExactTermSameUptoSaid : Prop := fnExactTermSameUptoRow.holds Try.pinned (OpenSpec.upto fnExactTermSameSpec)

end Rows
end Go.Proofs.Ytgdclabfecmmmaa
