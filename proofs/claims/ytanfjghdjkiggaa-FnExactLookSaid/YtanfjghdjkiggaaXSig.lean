/- Contracts of the program's functions on the evaluator without names, and plain lemmas: XSig. -/
import Derived.Test.YtanfjghdjkiggaaXSame
namespace Go.Proofs.Ytanfjghdjkiggaa.VS
set_option linter.unusedVariables false
set_option linter.unusedSimpArgs false
/-! ### Rows that are filled, of any elements -/
def rowG (es : List DV) (z : DV) (i : Nat) : List AV := rowCells (Go.Proofs.Ytanfjghdjkiggaa.VS.filled es z i)
theorem rowG_len {sz : Nat} {es : List DV} {z : DV} (h : ∀ x : DV, x ∈ es → x.cells.length = sz) (hz : z.cells.length = sz) (i : Nat) : (rowG es z i).length = es.length * sz := by
  unfold rowG; rw [rowCells_len (filled_cells h hz i), filled_len]
theorem rowG_set {sz : Nat} {es : List DV} {z : DV} (h : ∀ x : DV, x ∈ es → x.cells.length = sz) (hz : z.cells.length = sz) (i : Nat) (hi : i < es.length) : splice (rowG es z i) (i * sz) (es[i].cells.map .d) = rowG es z (i + 1) := by
  have h1 := splice_row (i := i) (filled_cells h hz i) (e := es[i]) (h _ (List.getElem_mem hi)) (by rw [filled_len]; exact hi)
  unfold rowG
  rw [h1, filled_set es z i hi]
theorem rowG_zero (es : List DV) (z : DV) : rowG es z 0 = ((List.replicate es.length z).flatMap DV.cells).map .d := by
  unfold rowG; rw [filled_zero]; simp [rowCells, flat]
theorem rowG_all (es : List DV) (z : DV) : rowG es z es.length = rowCells es := by
  unfold rowG; rw [filled_all]
theorem run_on (k i : Nat) : runN (fun (_ : Unit) (_ : Nat) => (Sum.inl () : Unit ⊕ Unit)) k () i = .inl () := by
  induction k generalizing i with
  | zero => rfl
  | succ k ih => simp [runN, ih]
/-! ### Sizes -/
def stepW (w : Nat → Nat) (left : Int) (i : Nat) : Int ⊕ Unit := if left - w i < 0 then .inr () else .inl (left - w i)
def sumW (w : Nat → Nat) : Nat → Nat → Nat
  | _, 0 => 0
  | i, k + 1 => w i + sumW w (i + 1) k
theorem runW (w : Nat → Nat) : ∀ (k i : Nat) (left : Int), 0 ≤ left → runN (stepW w) k left i = if left - sumW w i k < 0 then .inr () else .inl (left - sumW w i k)
  | 0, i, left, h0 => by
    have h1 : ¬ left < 0 := by omega
    simp [runN, sumW, h1]
  | k + 1, i, left, h0 => by
    simp only [runN, stepW, sumW]
    by_cases h1 : left - w i < 0
    · have h2 : left - (w i + sumW w (i + 1) k : Nat) < 0 := by omega
      simp only [h1, h2, if_true]
    · simp only [h1, if_false]
      rw [runW w k _ _ (by omega)]
      have e : left - w i - (sumW w (i + 1) k : Int) = left - (w i + sumW w (i + 1) k : Nat) := by omega
      rw [e]; rfl
/-! ### Signatures -/
@[simp] theorem isAgg_agg (cs : List DV) : isAgg (.agg cs) = true := rfl
@[simp] theorem isAgg_int (k : IntKind) (n : Int) : isAgg (.int k n) = false := rfl
@[simp] theorem cn_symE (s : SymL) : s.enc.cn = s.enc := by simp [SymL.enc, SymL.cells]
@[simp] theorem isAgg_sym (s : SymL) : isAgg s.enc = true := rfl
@[simp] theorem clr_symE (s : SymL) : s.enc.clr = s.enc := by simp [SymL.enc, SymL.cells]
@[simp] theorem cells_symE (s : SymL) : s.enc.cells = [.str s.name, .int .i64 s.arity, .bool s.ac] := rfl
@[simp] theorem cellsA_symE (s : SymL) : (AV.d s.enc).cells = [.d (.str s.name), .d (.int .i64 s.arity), .d (.bool s.ac)] := rfl
@[simp] theorem isCell_symE (s : SymL) : s.enc.isCell = false := rfl
@[simp] theorem agg_symE (n : ByteArray) (a : Int) (b : Bool) : DV.agg [.str n, .int .i64 a, .bool b] = SymL.enc ⟨n, a, b⟩ := rfl
@[simp high] theorem clr_symsE (l : List SymL) : (l.map SymL.enc).map DV.clr = l.map SymL.enc := by simp [List.map_map, Function.comp_def]
def symAt (l : List SymL) (i : Nat) : SymL := (l[i]?).getD ⟨⟨#[]⟩, 0, false⟩
theorem symAt_lt {l : List SymL} {i : Nat} (h : i < l.length) : l[i] = symAt l i := by simp [symAt, h]
theorem symAt_mem {l : List SymL} {i : Nat} (h : i < l.length) : symAt l i ∈ l := by rw [← symAt_lt h]; exact List.getElem_mem h
abbrev sg (l : List SymL) : DV := .sl .sub (l.map SymL.enc)
theorem szSym_eq (s : SymL) (left : Int) (h0 : 0 ≤ left) (h1 : left ≤ 1048576) (hs : s.name.size ≤ maxLen) : callX XV 17 [.d s.enc, .d (.int .i64 left)] [] = some (.d (.int .i64 (leftOf left s.name.size)), []) := by
  rw [z_call XV _ _ _ v17 rfl xcode_17 rfl]
  have hw : IntKind.i64.wrap (left - s.name.size) = left - s.name.size := wrap_i64 (by unfold maxLen at hs; omega) (by omega)
  unfold leftOf
  by_cases h : left - s.name.size < 0
  · simp [v17, r17_0, r17_1, r17_2, r17_3, r17_4, hw, h]
  · simp [v17, r17_0, r17_1, r17_2, r17_3, r17_4, hw, h]
def symsSize (l : List SymL) : Nat := l.length + sumW (fun i => (symAt l i).name.size) 0 l.length
theorem szSymS_eq (l : List SymL) (left : Int) (hl : l.length ≤ maxLen) (ho : ∀ s, s ∈ l → s.ok) (h0 : 0 ≤ left) (h1 : left ≤ 1048576) : callX XV 11 [.d (sg l), .d (.int .i64 left)] [] = some (.d (.int .i64 (leftOf left (symsSize l))), []) := by
  rw [z_call XV _ _ _ v11 rfl xcode_11 rfl]
  have hw : IntKind.i64.wrap (left - l.length) = left - l.length := wrap_i64 (by unfold maxLen at hl; omega) (by omega)
  unfold symsSize
  generalize hwd : (fun i => (symAt l i).name.size) = w
  by_cases h : left - l.length < 0
  · rw [leftOf_neg (by omega)]
    simp [v11, r11_0, r11_1, r11_2, r11_3, r11_4, r11_5, r11_7, r11_8, r11_9, r11_6, r11_10, hw, h]
  · have hloop := loopX_inv (X := XV) (T := []) (L := 0) (live := [0, 1, 5]) (b := b11_0) (n := l.length) (γ := Unit) (st := fun (left : Int) i => ⟨[(0, .d (sg l)), (1, .d (.int .i64 left)), (5, .d (.int .i64 i))], []⟩) (step := stepW w)
      (F := fun left => (.exit 0, ⟨[(0, .d (sg l)), (1, .d (.int .i64 left)), (5, .d (.int .i64 l.length)), (15, .d (.bool false))], []⟩)) (R := fun _ => (.ret, ⟨[(4, .d (.int .i64 (-1)))], []⟩))
      (fun left _ => 0 ≤ left ∧ left ≤ 1048576)
      (fun left _ => ⟨by simp, by simp [b11_0, r11_0, r11_1, r11_2, r11_3, r11_4, r11_5, r11_7, r11_8, r11_9, r11_6, r11_10]⟩)
      (fun left i hi hinv => by
        have hw := wrap_succ (n := i) (by unfold maxLen at hl; omega)
        have hc' := szSym_eq (symAt l i) left hinv.1 hinv.2 (ho _ (symAt_mem hi)).1
        subst hwd
        unfold stepW
        simp only
        by_cases h2 : left - (symAt l i).name.size < 0
        · rw [leftOf_neg h2] at hc'
          simp only [h2, if_true]
          refine ⟨⟨by simp, ?_⟩, fun a' h => by simp at h⟩
          simp [b11_0, r11_0, r11_1, r11_2, r11_3, r11_4, r11_5, r11_7, r11_8, r11_9, r11_6, r11_10, hi, hw, cut, symAt_lt hi, hc']
        · rw [leftOf_pos h2] at hc'
          simp only [h2, if_false]
          refine ⟨⟨_, by simp [b11_0, r11_0, r11_1, r11_2, r11_3, r11_4, r11_5, r11_7, r11_8, r11_9, r11_6, r11_10, hi, hw, cut, symAt_lt hi, hc', h2]; rfl, by simp [xheadOf, safeRegs]⟩, fun a' h => by simp at h; subst h; exact ⟨by omega, by omega⟩⟩)
      l.length (left - l.length) 0 ⟨[(0, .d (sg l)), (1, .d (.int .i64 (left - l.length))), (5, .d (.int .i64 0))], []⟩ (by omega) ⟨by omega, by omega⟩ (by simp [xheadOf, safeRegs])
    rw [runW _ _ _ _ (by omega)] at hloop
    simp [v11, r11_0, r11_1, r11_2, r11_3, r11_4, r11_5, r11_7, r11_8, r11_9, r11_6, r11_10, hw, h]
    rw [hloop]
    by_cases h3 : left - l.length - sumW w 0 l.length < 0
    · rw [leftOf_neg (by omega)]; simp [h3]
    · rw [leftOf_pos (by omega)]
      simp [h3, v11, r11_0, r11_1, r11_2, r11_3, r11_4, r11_5, r11_7, r11_8, r11_9, r11_6, r11_10]; omega
theorem symEncs_ok (l : List SymL) : ∀ x : DV, x ∈ l.map SymL.enc → elemOK true 3 x := by
  intro x hx; simp only [List.mem_map] at hx; obtain ⟨n, _, rfl⟩ := hx; exact ⟨rfl, rfl, fun _ => ⟨_, rfl⟩, by simp⟩
theorem toSym_eq (s : SymL) : callX XV 16 [.d s.enc] [] = some (.d s.enc, []) := by
  rw [z_call XV _ _ _ v16 rfl xcode_16 rfl]
  simp [v16, r16_0, r16_1, r16_2, r16_3, r16_4, r16_5, splice]
def zS : DV := .agg [.str ⟨#[]⟩, .int .i64 0, .bool false]
theorem toSymS_eq (l : List SymL) (hl : l.length ≤ 1048576) : callX XV 12 [.d (sg l)] [] = some (.d (.sl U (l.map SymL.enc)), []) := by
  rw [z_call XV _ _ _ v12 rfl xcode_12 rfl]
  have hcell : ∀ x : DV, x ∈ l.map SymL.enc → x.cells.length = 3 := fun x hx => (symEncs_ok l x hx).1
  have hloop := loopX_upto (X := XV) (T := XV.lin 12) (L := 1) (live := [0, 3, 4]) (b := b12_0) (n := l.length) (γ := Unit) (st := fun (_ : Unit) i => ⟨[(0, .d (sg l)), (3, .bsl [] true 0 3 l.length), (4, .d (.int .i64 i))], [some (rowG (l.map SymL.enc) zS i)]⟩) (step := fun _ _ => .inl ())
    (F := fun _ => (.exit 0, ⟨[(0, .d (sg l)), (3, .bsl [] true 0 3 l.length), (4, .d (.int .i64 l.length)), (11, .d (.bool false))], [some (rowG (l.map SymL.enc) zS l.length)]⟩)) (R := fun _ => (.ret, ⟨[], []⟩))
    (fun _ => ⟨by simp, by simp [b12_0, r12_0, r12_1, r12_2, r12_3, r12_5, r12_4, r12_6]⟩)
    (fun _ i hi => by
      have hw := wrap_succ (n := i) (by omega)
      have hlen := rowG_len (z := zS) hcell rfl i
      have hset := rowG_set (z := zS) hcell rfl i (by simpa using hi)
      simp only [List.getElem_map, symAt_lt hi, cells_symE, List.map_cons, List.map_nil, List.length_map] at hset hlen
      have hle : i * 3 + 3 ≤ l.length * 3 := by omega
      have hc' := toSym_eq (symAt l i)
      exact ⟨_, by simp [b12_0, r12_0, r12_1, r12_2, r12_3, r12_5, r12_4, r12_6, hi, hw, cut, symAt_lt hi, hc', hlen, hle, hset]; rfl, by simp [xheadOf, safeRegs]⟩)
    l.length () 0 ⟨[(0, .d (sg l)), (3, .bsl [] true 0 3 l.length), (4, .d (.int .i64 0))], [some (rowG (l.map SymL.enc) zS 0)]⟩ (by omega) (by simp [xheadOf, safeRegs])
  rw [run_on, rowG_zero] at hloop
  have hch := chunks_row (l.map SymL.enc) (symEncs_ok l)
  have hfl : (flat (l.map SymL.enc)).length = l.length * 3 := by rw [flat_len hcell]; simp
  have hall := rowG_all (l.map SymL.enc) zS
  rw [List.length_map] at hch hall
  simp only [zS, lin_12, List.length_map] at hloop hall
  have hle2 : l.length * 32 ≤ 140737488355328 := by omega
  have hlt : (l.length : Int) < 9223372036854775808 := by omega
  have hlt2 : l.length < 9223372036854775808 := by omega
  simp [v12, r12_0, r12_1, r12_2, r12_3, r12_5, r12_4, r12_6, hle2, hlt]
  simp at hloop
  rw [hloop]
  simp at hall
  simp [hall, datas_row, hch, hfl, hlt2, v12, r12_0, r12_1, r12_2, r12_3, r12_5, r12_4, r12_6]

theorem strEq_self (a : ByteArray) : strEq a a = true := by simp [strEq]
@[simp] theorem evBin_seq (a b : ByteArray) : evBin .eql (.str a) (.str b) = some (.bool (strEq a b)) := rfl
@[simp] theorem evBin_sne (a b : ByteArray) : evBin .neq (.str a) (.str b) = some (.bool !(strEq a b)) := rfl
theorem eqSym_self (s : SymL) : callX XV 20 [.d s.enc, .d s.enc] [] = some (.d (.bool true), []) := by
  rw [z_call XV _ _ _ v20 rfl xcode_20 rfl]
  simp [v20, r20_0, r20_1, r20_2, r20_3, r20_4, r20_5, r20_6, r20_7, strEq_self]
theorem eqSymS_self (l : List SymL) (hl : l.length ≤ 1048576) : callX XV 15 [.d (sg l), .d (sg l)] [] = some (.d (.bool true), []) := by
  rw [z_call XV _ _ _ v15 rfl xcode_15 rfl]
  have hloop := loopX_upto (X := XV) (T := []) (L := 0) (live := [0, 1, 5]) (b := b15_0) (n := l.length) (γ := Unit) (st := fun (_ : Unit) i => ⟨[(0, .d (sg l)), (1, .d (sg l)), (5, .d (.int .i64 i))], []⟩) (step := fun _ _ => .inl ())
    (F := fun _ => (.exit 0, ⟨[(0, .d (sg l)), (1, .d (sg l)), (5, .d (.int .i64 l.length)), (14, .d (.bool false))], []⟩)) (R := fun _ => (.ret, ⟨[], []⟩))
    (fun _ => ⟨by simp, by simp [b15_0, r15_0, r15_1, r15_2, r15_3, r15_4, d15_6, r15_7, r15_5, r15_8]⟩)
    (fun _ i hi => by
      have hw := wrap_succ (n := i) (by omega)
      have hc' := eqSym_self (symAt l i)
      exact ⟨_, by simp [b15_0, r15_0, r15_1, r15_2, r15_3, r15_4, d15_6, r15_7, r15_5, r15_8, hi, hw, cut, symAt_lt hi, hc']; rfl, by simp [xheadOf, safeRegs]⟩)
    l.length () 0 ⟨[(0, .d (sg l)), (1, .d (sg l)), (5, .d (.int .i64 0))], []⟩ (by omega) (by simp [xheadOf, safeRegs])
  rw [run_on] at hloop
  simp [v15, r15_0, r15_1, r15_2, r15_3, r15_4, d15_6, r15_7, r15_5, r15_8]
  rw [hloop]
  simp [v15, r15_0, r15_1, r15_2, r15_3, r15_4, d15_6, r15_7, r15_5, r15_8]
/-! from, l1In, isSym, Blind, ArityOf -/
def inB (x lo hi : Int) : Bool := decide (lo ≤ x) && decide (x ≤ hi)
theorem from_eq (x lo hi : Int) : callX XV 30 [.d (.int .i64 x), .d (.int .i64 lo), .d (.int .i64 hi)] [] = some (.d (.bool (inB x lo hi)), []) := by
  rw [z_call XV _ _ _ v30 rfl xcode_30 rfl]
  unfold inB
  by_cases h : lo ≤ x
  · have h' : x ≥ lo := h
    simp [v30, r30_0, r30_1, h]
  · have h' : ¬ x ≥ lo := h
    simp [v30, r30_0, r30_1, h]
theorem l1In_eq (x lo hi : Int) : callX XV 31 [.d (.int .i64 x), .d (.int .i64 lo), .d (.int .i64 hi)] [] = some (.d (.bool (inB x lo hi)), []) := by
  rw [z_call XV _ _ _ v31 rfl xcode_31 rfl]
  unfold inB
  by_cases h : lo ≤ x
  · simp [v31, r31_0, r31_1, h]
  · simp [v31, r31_0, r31_1, h]
def symIn (l : List SymL) (f : Int) : Bool := inB f 0 (l.length - 1)
theorem symIn_lt {l : List SymL} {f : Int} (h : symIn l f = true) : 0 ≤ f ∧ f.toNat < l.length := by
  simp [symIn, inB] at h; omega
theorem isSym_eq (l : List SymL) (hl : l.length ≤ 1048576) (f : Int) : callX XV 29 [.d (sg l), .d (.int .i64 f)] [] = some (.d (.bool (symIn l f)), []) := by
  rw [z_call XV _ _ _ v29 rfl xcode_29 rfl]
  have hw : IntKind.i64.wrap ((l.length : Int) - 1) = l.length - 1 := wrap_i64 (by omega) (by omega)
  have h := from_eq f 0 (l.length - 1)
  simp [v29, r29_0, r29_1, hw, h, symIn]
def blindB (l : List SymL) (f : Int) : Bool := symIn l f && (symAt l f.toNat).ac
theorem implBlind_eq (l : List SymL) (hl : l.length ≤ 1048576) (f : Int) : callX XV 34 [.d (sg l), .d (.int .i64 f)] [] = some (.d (.bool (blindB l f)), []) := by
  rw [z_call XV _ _ _ v34 rfl xcode_34 rfl]
  have h := isSym_eq l hl f
  unfold blindB
  cases hs : symIn l f with
  | false =>
    rw [hs] at h
    simp [v34, r34_0, r34_1, h]
  | true =>
    rw [hs] at h
    obtain ⟨h1, h2⟩ := symIn_lt hs
    simp [v34, r34_0, r34_1, h, h1, h2, symAt_lt h2, cut]
theorem specBlind_eq (l : List SymL) (hl : l.length ≤ 1048576) (f : Int) : callX XV 33 [.d (sg l), .d (.int .i64 f)] [] = some (.d (.bool (blindB l f)), []) := by
  rw [z_call XV _ _ _ v33 rfl xcode_33 rfl]
  have hw : IntKind.i64.wrap ((l.length : Int) - 1) = l.length - 1 := wrap_i64 (by omega) (by omega)
  have h := l1In_eq f 0 (l.length - 1)
  unfold blindB symIn
  cases hs : inB f 0 (l.length - 1) with
  | false =>
    rw [hs] at h
    simp [v33, r33_0, r33_1, h, hw]
  | true =>
    rw [hs] at h
    obtain ⟨h1, h2⟩ := symIn_lt (l := l) (f := f) hs
    simp [v33, r33_0, r33_1, h, hw, h1, h2, symAt_lt h2, cut]
end Go.Proofs.Ytanfjghdjkiggaa.VS
