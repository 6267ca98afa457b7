/- Contracts of the program's functions on the evaluator without names, and plain lemmas: XSig. -/
import Derived.Test.YtcffalienbbohaaXSame
namespace Go.Proofs.Ytcffalienbbohaa.VS
set_option linter.unusedVariables false
set_option linter.unusedSimpArgs false
/-! ### Rows that are filled, of any elements -/
def rowG (es : List DV) (z : DV) (i : Nat) : List AV := rowCells (Go.Proofs.Ytcffalienbbohaa.VS.filled es z i)
theorem rowG_len {sz : Nat} {es : List DV} {z : DV} (h : ∀ x : DV, x ∈ es → x.cells.length = sz) (hz : z.cells.length = sz) (i : Nat) : (rowG es z i).length = es.length * sz := by
  unfold rowG; rw [rowCells_len (filled_cells h hz i), filled_len]
theorem rowG_set {sz : Nat} {es : List DV} {z : DV} (h : ∀ x : DV, x ∈ es → x.cells.length = sz) (hz : z.cells.length = sz) (i : Nat) (hi : i < es.length) : splice (rowG es z i) (i * sz) (es[i].cells.map .d) = rowG es z (i + 1) := by
  have h1 := splice_row (i := i) (filled_cells h hz i) (e := es[i]) (h _ (List.getElem_mem hi)) (by rw [filled_len]; exact hi)
  unfold rowG
  rw [h1, filled_set es z i hi]
theorem rowG_zero (es : List DV) (z : DV) : rowG es z 0 = ((List.replicate es.length z).flatMap DV.cells).map .d := by
  unfold rowG; rw [filled_zero]; simp [rowCells, flat]
theorem rowG_all (es : List DV) (z : DV) : rowG es z es.length = rowCells es := by
  unfold rowG; rw [filled_all]
theorem run_on (k i : Nat) : runN (fun (_ : Unit) (_ : Nat) => (Sum.inl () : Unit ⊕ Unit)) k () i = .inl () := by
  induction k generalizing i with
  | zero => rfl
  | succ k ih => simp [runN, ih]
/-! ### Sizes -/
def stepW (w : Nat → Nat) (left : Int) (i : Nat) : Int ⊕ Unit := if left - w i < 0 then .inr () else .inl (left - w i)
def sumW (w : Nat → Nat) : Nat → Nat → Nat
  | _, 0 => 0
  | i, k + 1 => w i + sumW w (i + 1) k
theorem runW (w : Nat → Nat) : ∀ (k i : Nat) (left : Int), 0 ≤ left → runN (stepW w) k left i = if left - sumW w i k < 0 then .inr () else .inl (left - sumW w i k)
  | 0, i, left, h0 => by
    have h1 : ¬ left < 0 := by omega
    simp [runN, sumW, h1]
  | k + 1, i, left, h0 => by
    simp only [runN, stepW, sumW]
    by_cases h1 : left - w i < 0
    · have h2 : left - (w i + sumW w (i + 1) k : Nat) < 0 := by omega
      simp only [h1, h2, if_true]
    · simp only [h1, if_false]
      rw [runW w k _ _ (by omega)]
      have e : left - w i - (sumW w (i + 1) k : Int) = left - (w i + sumW w (i + 1) k : Nat) := by omega
      rw [e]; rfl
/-! ### Signatures -/
@[simp] theorem isAgg_agg (cs : List DV) : isAgg (.agg cs) = true := rfl
@[simp] theorem isAgg_int (k : IntKind) (n : Int) : isAgg (.int k n) = false := rfl
@[simp] theorem cn_symE (s : SymL) : s.enc.cn = s.enc := by simp [SymL.enc, SymL.cells]
@[simp] theorem isAgg_sym (s : SymL) : isAgg s.enc = true := rfl
@[simp] theorem clr_symE (s : SymL) : s.enc.clr = s.enc := by simp [SymL.enc, SymL.cells]
@[simp] theorem cells_symE (s : SymL) : s.enc.cells = [.str s.name, .int .i64 s.arity, .bool s.ac] := rfl
@[simp] theorem cellsA_symE (s : SymL) : (AV.d s.enc).cells = [.d (.str s.name), .d (.int .i64 s.arity), .d (.bool s.ac)] := rfl
@[simp] theorem isCell_symE (s : SymL) : s.enc.isCell = false := rfl
@[simp] theorem agg_symE (n : ByteArray) (a : Int) (b : Bool) : DV.agg [.str n, .int .i64 a, .bool b] = SymL.enc ⟨n, a, b⟩ := rfl
@[simp high] theorem clr_symsE (l : List SymL) : (l.map SymL.enc).map DV.clr = l.map SymL.enc := by simp [List.map_map, Function.comp_def]
def symAt (l : List SymL) (i : Nat) : SymL := (l[i]?).getD ⟨⟨#[]⟩, 0, false⟩
theorem symAt_lt {l : List SymL} {i : Nat} (h : i < l.length) : l[i] = symAt l i := by simp [symAt, h]
theorem symAt_mem {l : List SymL} {i : Nat} (h : i < l.length) : symAt l i ∈ l := by rw [← symAt_lt h]; exact List.getElem_mem h
abbrev sg (l : List SymL) : DV := .sl .sub (l.map SymL.enc)
def symsSize (l : List SymL) : Nat := l.length + sumW (fun i => (symAt l i).name.size) 0 l.length
theorem symEncs_ok (l : List SymL) : ∀ x : DV, x ∈ l.map SymL.enc → elemOK true 3 x := by
  intro x hx; simp only [List.mem_map] at hx; obtain ⟨n, _, rfl⟩ := hx; exact ⟨rfl, rfl, fun _ => ⟨_, rfl⟩, by simp⟩
def zS : DV := .agg [.str ⟨#[]⟩, .int .i64 0, .bool false]
theorem strEq_self (a : ByteArray) : strEq a a = true := by simp [strEq]
@[simp] theorem evBin_seq (a b : ByteArray) : evBin .eql (.str a) (.str b) = some (.bool (strEq a b)) := rfl
@[simp] theorem evBin_sne (a b : ByteArray) : evBin .neq (.str a) (.str b) = some (.bool !(strEq a b)) := rfl
/-! from, l1In, isSym, Blind, ArityOf -/
def inB (x lo hi : Int) : Bool := decide (lo ≤ x) && decide (x ≤ hi)
theorem from_eq (x lo hi : Int) : callX XV 30 [.d (.int .i64 x), .d (.int .i64 lo), .d (.int .i64 hi)] [] = some (.d (.bool (inB x lo hi)), []) := by
  rw [z_call XV _ _ _ v30 rfl xcode_30 rfl]
  unfold inB
  by_cases h : lo ≤ x
  · have h' : x ≥ lo := h
    simp [v30, r30_0, r30_1, h]
  · have h' : ¬ x ≥ lo := h
    simp [v30, r30_0, r30_1, h]
theorem l1In_eq (x lo hi : Int) : callX XV 31 [.d (.int .i64 x), .d (.int .i64 lo), .d (.int .i64 hi)] [] = some (.d (.bool (inB x lo hi)), []) := by
  rw [z_call XV _ _ _ v31 rfl xcode_31 rfl]
  unfold inB
  by_cases h : lo ≤ x
  · simp [v31, r31_0, r31_1, h]
  · simp [v31, r31_0, r31_1, h]
def symIn (l : List SymL) (f : Int) : Bool := inB f 0 (l.length - 1)
theorem symIn_lt {l : List SymL} {f : Int} (h : symIn l f = true) : 0 ≤ f ∧ f.toNat < l.length := by
  simp [symIn, inB] at h; omega
theorem isSym_eq (l : List SymL) (hl : l.length ≤ 1048576) (f : Int) : callX XV 29 [.d (sg l), .d (.int .i64 f)] [] = some (.d (.bool (symIn l f)), []) := by
  rw [z_call XV _ _ _ v29 rfl xcode_29 rfl]
  have hw : IntKind.i64.wrap ((l.length : Int) - 1) = l.length - 1 := wrap_i64 (by omega) (by omega)
  have h := from_eq f 0 (l.length - 1)
  simp [v29, r29_0, r29_1, hw, h, symIn]
def blindB (l : List SymL) (f : Int) : Bool := symIn l f && (symAt l f.toNat).ac
theorem implBlind_eq (l : List SymL) (hl : l.length ≤ 1048576) (f : Int) : callX XV 34 [.d (sg l), .d (.int .i64 f)] [] = some (.d (.bool (blindB l f)), []) := by
  rw [z_call XV _ _ _ v34 rfl xcode_34 rfl]
  have h := isSym_eq l hl f
  unfold blindB
  cases hs : symIn l f with
  | false =>
    rw [hs] at h
    simp [v34, r34_0, r34_1, h]
  | true =>
    rw [hs] at h
    obtain ⟨h1, h2⟩ := symIn_lt hs
    simp [v34, r34_0, r34_1, h, h1, h2, symAt_lt h2, cut]
theorem specBlind_eq (l : List SymL) (hl : l.length ≤ 1048576) (f : Int) : callX XV 33 [.d (sg l), .d (.int .i64 f)] [] = some (.d (.bool (blindB l f)), []) := by
  rw [z_call XV _ _ _ v33 rfl xcode_33 rfl]
  have hw : IntKind.i64.wrap ((l.length : Int) - 1) = l.length - 1 := wrap_i64 (by omega) (by omega)
  have h := l1In_eq f 0 (l.length - 1)
  unfold blindB symIn
  cases hs : inB f 0 (l.length - 1) with
  | false =>
    rw [hs] at h
    simp [v33, r33_0, r33_1, h, hw]
  | true =>
    rw [hs] at h
    obtain ⟨h1, h2⟩ := symIn_lt (l := l) (f := f) hs
    simp [v33, r33_0, r33_1, h, hw, h1, h2, symAt_lt h2, cut]
end Go.Proofs.Ytcffalienbbohaa.VS
