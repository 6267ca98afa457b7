/- Contracts of the program's functions on the evaluator without names, and plain lemmas: part 4. -/
import Derived.Test.YtfiakfiocdfpbaaXP3
set_option linter.unusedSimpArgs false
set_option linter.unusedVariables false
namespace Go.Proofs.Ytfiakfiocdfpbaa.VS
open Go.RowKit
variable {P : Program} {fid : Nat → FuncId}
structure IntsAt (w : World) (base : Option Addr) (n c : Nat) (xs : List Int) : Prop where
 len : xs.length = n
 cap : n ≤ c
 lim : (n + 1) * 8 ≤ 140737488355328
 capm : c ≤ maxLen
 nil : base = none → n = 0 ∧ c = 0
 cell : ∀ ad, base = some ad → 0 < n → ad.spot = none ∧ ∀ (j : Nat) (x : Int), xs[j]? = some x → w.cell? ⟨ad.block, ad.off + j, none⟩ = some (.int .i64 x)
theorem cell_lt {w : World} {b o : Nat} {v : Value} (h : w.cell? ⟨b, o, none⟩ = some v) : b < w.heap.size := by
 unfold World.cell? at h
 split at h
 ·rename_i h1; exact (Array.getElem?_eq_some_iff.1 h1).1
 ·simp at h
theorem IntsAt.lt {w : World} {base : Option Addr} {n c : Nat} {xs : List Int} (h : IntsAt w base n c xs) {ad : Addr} (hb : base = some ad) (hn : 0 < n) : ad.block < w.heap.size := by
 have h0 : xs[0]? = some xs[0]! := by have := h.len; cases xs with | nil => simp at this; omega | cons a r => simp
 exact cell_lt ((h.cell ad hb hn).2 0 _ h0)
end Go.Proofs.Ytfiakfiocdfpbaa.VS
