/- Contracts of the program's functions on the evaluator without names, and plain lemmas: part 1. -/
import Derived.Test.YtficfeekkljoeaaLin
namespace Go.Proofs.Ytficfeekkljoeaa.VS
set_option linter.unusedVariables false
set_option linter.unusedSimpArgs false
/-- A term. -/
inductive T where
  | node (f v : Int) (kids : List T)
  deriving Inhabited
def T.f : T → Int | .node f _ _ => f
def T.v : T → Int | .node _ v _ => v
def T.kids : T → List T | .node _ _ k => k
mutual
def T.enc (g : Tag) : T → DV
  | .node f v ks => .agg [.int .i64 f, .int .i64 v, .sl g (T.encs g ks)]
def T.encs (g : Tag) : List T → List DV
  | [] => []
  | t :: r => t.enc g :: T.encs g r
end
theorem T.encs_map (g : Tag) : ∀ l : List T, T.encs g l = l.map (T.enc g)
  | [] => by unfold T.encs; rfl
  | t :: r => by unfold T.encs; simp [T.encs_map g r]
abbrev terms (g : Tag) (l : List T) : DV := .sl g (l.map (T.enc g))
theorem T.enc_eq (g : Tag) (t : T) : t.enc g = .agg [.int .i64 t.f, .int .i64 t.v, terms g t.kids] := by
  cases t; simp [T.enc, T.encs_map, terms, T.f, T.v, T.kids]
@[simp] theorem agg_enc (g : Tag) (f v : Int) (ks : List T) : DV.agg [.int .i64 f, .int .i64 v, terms g ks] = (T.node f v ks).enc g := by
  simp [T.enc, T.encs_map, terms]
@[simp] theorem T.eta (t : T) : T.node t.f t.v t.kids = t := by cases t; rfl
@[simp] theorem T.f_node (f v : Int) (k : List T) : (T.node f v k).f = f := rfl
@[simp] theorem T.v_node (f v : Int) (k : List T) : (T.node f v k).v = v := rfl
@[simp] theorem T.kids_node (f v : Int) (k : List T) : (T.node f v k).kids = k := rfl
@[simp] theorem T.cells_enc (g : Tag) (t : T) : (t.enc g).cells = [.int .i64 t.f, .int .i64 t.v, terms g t.kids] := by rw [T.enc_eq]; rfl
@[simp] theorem T.cellsA_enc (g : Tag) (t : T) : (AV.d (t.enc g)).cells = [.d (.int .i64 t.f), .d (.int .i64 t.v), .d (terms g t.kids)] := by rw [T.enc_eq]; rfl
@[simp] theorem T.isCell_enc (g : Tag) (t : T) : (t.enc g).isCell = false := by rw [T.enc_eq]; rfl
mutual
theorem T.clr_enc (g : Tag) : ∀ t : T, (t.enc g).clr = t.enc .sub
  | .node f v ks => by simp only [T.enc, DV.clr, DV.clrs, T.clr_encs g ks]
theorem T.clr_encs (g : Tag) : ∀ l : List T, DV.clrs (T.encs g l) = T.encs .sub l
  | [] => by simp only [T.encs, DV.clrs]
  | t :: r => by simp only [T.encs, DV.clrs, T.clr_enc g t, T.clr_encs g r]
end
attribute [simp] T.clr_enc
@[simp high] theorem clr_terms (g : Tag) (l : List T) : (l.map (T.enc g)).map DV.clr = l.map (T.enc .sub) := by
  rw [← T.encs_map, ← T.encs_map, ← DV.clrs_map, T.clr_encs]
def tAt (l : List T) (i : Nat) : T := (l[i]?).getD (.node 0 0 [])
theorem tAt_get {l : List T} {i : Nat} (h : i < l.length) : l[i]? = some (tAt l i) := by simp [tAt, h]
@[simp] theorem terms_get (g : Tag) {l : List T} {i : Nat} (h : i < l.length) : (l.map (T.enc g))[i]? = some ((tAt l i).enc g) := by simp [tAt_get h]
end Go.Proofs.Ytficfeekkljoeaa.VS
namespace Go.Proofs.Ytficfeekkljoeaa.VS
set_option linter.unusedVariables false
set_option linter.unusedSimpArgs false
mutual
/-- No row is longer than Go allows. -/
def T.ok : T → Prop
  | .node _ _ ks => ks.length ≤ maxLen ∧ T.oks ks
def T.oks : List T → Prop
  | [] => True
  | t :: r => t.ok ∧ T.oks r
end
/-! toTerm: the same term -/
end Go.Proofs.Ytficfeekkljoeaa.VS
namespace Go.Proofs.Ytficfeekkljoeaa.VS
set_option profiler true
set_option profiler.threshold 2000
set_option linter.unusedVariables false
set_option linter.unusedSimpArgs false
/-! eqTerm, of a term with itself -/
/-! ### The order of terms -/
mutual
def T.cmp : T → T → Int
  | .node f v ks, .node f' v' ks' =>
    if f < f' then -1 else if f > f' then 1 else if v < v' then -1 else if v > v' then 1 else
    if ks.length < ks'.length then -1 else if ks.length > ks'.length then 1 else T.cmps ks ks'
def T.cmps : List T → List T → Int
  | a :: as, b :: bs => if T.cmp a b ≠ 0 then T.cmp a b else T.cmps as bs
  | _, _ => 0
end
end Go.Proofs.Ytficfeekkljoeaa.VS
namespace Go.Proofs.Ytficfeekkljoeaa.VS
set_option linter.unusedVariables false
set_option linter.unusedSimpArgs false
theorem set_at {α : Type} (B : List α) (x v : α) (r : List α) : (B ++ x :: r).set B.length v = B ++ v :: r := by simp
theorem get_at {α : Type} (B : List α) (x : α) (r : List α) : (B ++ x :: r)[B.length]? = some x := by simp
theorem take_at {α : Type} (B r : List α) : (B ++ r).take B.length = B := by simp
theorem head_cut {L : Nat} {live : List Nat} {s : XS} {r' : List (Nat × AV)} {B e : Boxs} (h : keep s.r live = r') (hs : safeRegs L r' = true) (hl : B.length = L) (he : s.B = B ++ e) : xheadOf L live s = some ⟨r', B⟩ := by
  unfold xheadOf
  rw [h, he, if_pos ⟨hs, by simp; omega⟩, ← hl, take_at]
end Go.Proofs.Ytficfeekkljoeaa.VS
namespace Go.Proofs.Ytficfeekkljoeaa.VS
set_option linter.unusedVariables false
set_option linter.unusedSimpArgs false
end Go.Proofs.Ytficfeekkljoeaa.VS
namespace Go.Proofs.Ytficfeekkljoeaa.VS
set_option linter.unusedVariables false
set_option linter.unusedSimpArgs false
/-! Parts -/
end Go.Proofs.Ytficfeekkljoeaa.VS
namespace Go.Proofs.Ytficfeekkljoeaa.VS
set_option linter.unusedVariables false
set_option linter.unusedSimpArgs false
end Go.Proofs.Ytficfeekkljoeaa.VS
namespace Go.Proofs.Ytficfeekkljoeaa.VS
set_option linter.unusedVariables false
set_option linter.unusedSimpArgs false
/-! ### Rows that are filled, of any elements -/
def rowG (es : List DV) (z : DV) (i : Nat) : List AV := rowCells (Go.Proofs.Ytficfeekkljoeaa.VS.filled es z i)
theorem rowG_len {sz : Nat} {es : List DV} {z : DV} (h : ∀ x : DV, x ∈ es → x.cells.length = sz) (hz : z.cells.length = sz) (i : Nat) : (rowG es z i).length = es.length * sz := by
  unfold rowG; rw [rowCells_len (filled_cells h hz i), filled_len]
theorem rowG_set {sz : Nat} {es : List DV} {z : DV} (h : ∀ x : DV, x ∈ es → x.cells.length = sz) (hz : z.cells.length = sz) (i : Nat) (hi : i < es.length) : splice (rowG es z i) (i * sz) (es[i].cells.map .d) = rowG es z (i + 1) := by
  have h1 := splice_row (i := i) (filled_cells h hz i) (e := es[i]) (h _ (List.getElem_mem hi)) (by rw [filled_len]; exact hi)
  unfold rowG
  rw [h1, filled_set es z i hi]
theorem rowG_zero (es : List DV) (z : DV) : rowG es z 0 = ((List.replicate es.length z).flatMap DV.cells).map .d := by
  unfold rowG; rw [filled_zero]; simp [rowCells, flat]
theorem rowG_all (es : List DV) (z : DV) : rowG es z es.length = rowCells es := by
  unfold rowG; rw [filled_all]
theorem run_on (k i : Nat) : runN (fun (_ : Unit) (_ : Nat) => (Sum.inl () : Unit ⊕ Unit)) k () i = .inl () := by
  induction k generalizing i with
  | zero => rfl
  | succ k ih => simp [runN, ih]
/-! ### Sizes -/
def sumW (w : Nat → Nat) : Nat → Nat → Nat
  | _, 0 => 0
  | i, k + 1 => w i + sumW w (i + 1) k
/-! ### Signatures -/
@[simp] theorem isAgg_agg (cs : List DV) : isAgg (.agg cs) = true := rfl
@[simp] theorem isAgg_int (k : IntKind) (n : Int) : isAgg (.int k n) = false := rfl
@[simp] theorem cn_symE (s : SymL) : s.enc.cn = s.enc := by simp [SymL.enc, SymL.cells]
@[simp] theorem isAgg_sym (s : SymL) : isAgg s.enc = true := rfl
@[simp] theorem clr_symE (s : SymL) : s.enc.clr = s.enc := by simp [SymL.enc, SymL.cells]
@[simp] theorem cells_symE (s : SymL) : s.enc.cells = [.str s.name, .int .i64 s.arity, .bool s.ac] := rfl
@[simp] theorem cellsA_symE (s : SymL) : (AV.d s.enc).cells = [.d (.str s.name), .d (.int .i64 s.arity), .d (.bool s.ac)] := rfl
@[simp] theorem isCell_symE (s : SymL) : s.enc.isCell = false := rfl
@[simp] theorem agg_symE (n : ByteArray) (a : Int) (b : Bool) : DV.agg [.str n, .int .i64 a, .bool b] = SymL.enc ⟨n, a, b⟩ := rfl
@[simp high] theorem clr_symsE (l : List SymL) : (l.map SymL.enc).map DV.clr = l.map SymL.enc := by simp [List.map_map, Function.comp_def]
def symAt (l : List SymL) (i : Nat) : SymL := (l[i]?).getD ⟨⟨#[]⟩, 0, false⟩
@[simp] theorem evBin_seq (a b : ByteArray) : evBin .eql (.str a) (.str b) = some (.bool (strEq a b)) := rfl
@[simp] theorem evBin_sne (a b : ByteArray) : evBin .neq (.str a) (.str b) = some (.bool !(strEq a b)) := rfl
/-! from, l1In, isSym, Blind, ArityOf -/
def inB (x lo hi : Int) : Bool := decide (lo ≤ x) && decide (x ≤ hi)
theorem from_eq (x lo hi : Int) : callX XV 30 [.d (.int .i64 x), .d (.int .i64 lo), .d (.int .i64 hi)] [] = some (.d (.bool (inB x lo hi)), []) := by
  rw [z_call XV _ _ _ v30 rfl xcode_30 rfl]
  unfold inB
  by_cases h : lo ≤ x
  · have h' : x ≥ lo := h
    simp [v30, r30_0, r30_1, h]
  · have h' : ¬ x ≥ lo := h
    simp [v30, r30_0, r30_1, h]
theorem l1In_eq (x lo hi : Int) : callX XV 31 [.d (.int .i64 x), .d (.int .i64 lo), .d (.int .i64 hi)] [] = some (.d (.bool (inB x lo hi)), []) := by
  rw [z_call XV _ _ _ v31 rfl xcode_31 rfl]
  unfold inB
  by_cases h : lo ≤ x
  · simp [v31, r31_0, r31_1, h]
  · simp [v31, r31_0, r31_1, h]
def symIn (l : List SymL) (f : Int) : Bool := inB f 0 (l.length - 1)
end Go.Proofs.Ytficfeekkljoeaa.VS
namespace Go.Proofs.Ytficfeekkljoeaa.VS
set_option linter.unusedVariables false
set_option linter.unusedSimpArgs false
/-! ## Rows of whole numbers -/
abbrev is (l : List Int) : DV := .sl .sub (l.map (.int .i64))
def iAt (l : List Int) (i : Nat) : Int := (l[i]?).getD 0
theorem iAt_lt {l : List Int} {i : Nat} (h : i < l.length) : l[i] = iAt l i := by simp [iAt, h]
theorem intEncs_ok (l : List Int) : ∀ x : DV, x ∈ l.map (.int .i64) → elemOK false 1 x := by
  intro x hx; simp only [List.mem_map] at hx; obtain ⟨n, _, rfl⟩ := hx; exact ⟨rfl, rfl, fun h => by simp at h, by simp⟩
@[simp high] theorem clr_intsE (l : List Int) : (l.map (DV.int .i64)).map DV.clr = l.map (DV.int .i64) := by simp [List.map_map, Function.comp_def]
theorem toIntS_eq (l : List Int) (hl : l.length ≤ 1099511627776) : callX XV 41 [.d (is l)] [] = some (.d (.sl U (l.map (.int .i64))), []) := by
  rw [z_call XV _ _ _ v41 rfl xcode_41 rfl]
  have hcell : ∀ x : DV, x ∈ l.map (DV.int .i64) → x.cells.length = 1 := fun x hx => (intEncs_ok l x hx).1
  have hloop := loopX_upto (X := XV) (T := XV.lin 41) (L := 1) (live := [0, 3, 4]) (b := b41_0) (n := l.length) (γ := Unit) (st := fun (_ : Unit) i => ⟨[(0, .d (is l)), (3, .bsl [] false 0 1 l.length), (4, .d (.int .i64 i))], [some (rowG (l.map (.int .i64)) (.int .i64 0) i)]⟩) (step := fun _ _ => .inl ())
    (F := fun _ => (.exit 0, ⟨[(0, .d (is l)), (3, .bsl [] false 0 1 l.length), (4, .d (.int .i64 l.length)), (11, .d (.bool false))], [some (rowG (l.map (.int .i64)) (.int .i64 0) l.length)]⟩)) (R := fun _ => (.ret, ⟨[], []⟩))
    (fun _ => ⟨by simp, by simp [b41_0, r41_0, r41_1, r41_2, r41_3, r41_5, r41_4, r41_6]⟩)
    (fun _ i hi => by
      have hw := wrap_succ (n := i) (by omega)
      have hlen := rowG_len (z := .int .i64 0) hcell rfl i
      have hset := rowG_set (z := .int .i64 0) hcell rfl i (by simpa using hi)
      simp only [List.getElem_map, iAt_lt hi, cells_int, List.map_cons, List.map_nil, List.length_map, Nat.mul_one] at hset hlen
      have hle : i + 1 ≤ l.length := by omega
      exact ⟨_, by simp [b41_0, r41_0, r41_1, r41_2, r41_3, r41_5, r41_4, r41_6, hi, hw, cut, iAt_lt hi, hlen, hle, hset]; rfl, by simp [xheadOf, safeRegs]⟩)
    l.length () 0 ⟨[(0, .d (is l)), (3, .bsl [] false 0 1 l.length), (4, .d (.int .i64 0))], [some (rowG (l.map (.int .i64)) (.int .i64 0) 0)]⟩ (by omega) (by simp [xheadOf, safeRegs])
  rw [run_on, rowG_zero] at hloop
  have hch := chunks_row (l.map (DV.int .i64)) (intEncs_ok l)
  have hfl : (flat (l.map (DV.int .i64))).length = l.length * 1 := by rw [flat_len hcell]; simp
  have hall := rowG_all (l.map (DV.int .i64)) (.int .i64 0)
  rw [List.length_map] at hch hall
  simp only [lin_41, List.length_map] at hloop hall
  have hle2 : l.length * 8 ≤ 140737488355328 := by omega
  have hlt : (l.length : Int) < 9223372036854775808 := by omega
  have hlt2 : l.length < 9223372036854775808 := by omega
  simp [v41, r41_0, r41_1, r41_2, r41_3, r41_5, r41_4, r41_6, hle2, hlt]
  rw [hloop]
  simp [hall, datas_row, hch, hfl, hlt2, v41, r41_0, r41_1, r41_2, r41_3, r41_5, r41_4, r41_6]
theorem eqIntS_self (l : List Int) (hl : l.length ≤ 1099511627776) : callX XV 44 [.d (is l), .d (is l)] [] = some (.d (.bool true), []) := by
  rw [z_call XV _ _ _ v44 rfl xcode_44 rfl]
  have hloop := loopX_upto (X := XV) (T := []) (L := 0) (live := [0, 1, 5]) (b := b44_0) (n := l.length) (γ := Unit) (st := fun (_ : Unit) i => ⟨[(0, .d (is l)), (1, .d (is l)), (5, .d (.int .i64 i))], []⟩) (step := fun _ _ => .inl ())
    (F := fun _ => (.exit 0, ⟨[(0, .d (is l)), (1, .d (is l)), (5, .d (.int .i64 l.length)), (14, .d (.bool false))], []⟩)) (R := fun _ => (.ret, ⟨[], []⟩))
    (fun _ => ⟨by simp, by simp [b44_0, r44_0, r44_1, r44_2, r44_3, r44_4, d44_6, r44_7, r44_5, r44_8]⟩)
    (fun _ i hi => by
      have hw := wrap_succ (n := i) (by omega)
      exact ⟨_, by simp [b44_0, r44_0, r44_1, r44_2, r44_3, r44_4, d44_6, r44_7, r44_5, r44_8, hi, hw, cut, iAt_lt hi]; rfl, by simp [xheadOf, safeRegs]⟩)
    l.length () 0 ⟨[(0, .d (is l)), (1, .d (is l)), (5, .d (.int .i64 0))], []⟩ (by omega) (by simp [xheadOf, safeRegs])
  rw [run_on] at hloop
  simp [v44, r44_0, r44_1, r44_2, r44_3, r44_4, d44_6, r44_7, r44_5, r44_8]
  rw [hloop]
  simp [v44, r44_0, r44_1, r44_2, r44_3, r44_4, d44_6, r44_7, r44_5, r44_8]
end Go.Proofs.Ytficfeekkljoeaa.VS
namespace Go.Proofs.Ytficfeekkljoeaa.VS
set_option linter.unusedVariables false
set_option linter.unusedSimpArgs false
end Go.Proofs.Ytficfeekkljoeaa.VS
namespace Go.Proofs.Ytficfeekkljoeaa.VS
set_option linter.unusedVariables false
set_option linter.unusedSimpArgs false
/-- The first place from i on where it holds, in k places. -/
def findAt (q : Nat → Bool) : Nat → Nat → Option Nat
  | 0, _ => none
  | k + 1, i => if q i then some i else findAt q k (i + 1)
def stepF (q : Nat → Bool) (_ : Unit) (i : Nat) : Unit ⊕ Nat := if q i then .inr i else .inl ()
theorem runF (q : Nat → Bool) : ∀ (k i : Nat), runN (stepF q) k () i = match findAt q k i with | some j => .inr j | none => .inl ()
  | 0, i => rfl
  | k + 1, i => by
    simp only [runN, stepF, findAt]
    cases h : q i
    · simp [runF q k (i + 1)]
    · simp
def orNeg : Option Nat → Int
  | some j => j
  | none => -1
theorem findAt_lt (q : Nat → Bool) : ∀ (k i j : Nat), findAt q k i = some j → i ≤ j ∧ j < i + k ∧ q j = true
  | 0, i, j, h => by simp [findAt] at h
  | k + 1, i, j, h => by
    simp only [findAt] at h
    split at h
    · simp at h; subst h; exact ⟨Nat.le_refl _, by omega, by assumption⟩
    · obtain ⟨h1, h2, h3⟩ := findAt_lt q k (i + 1) j h; exact ⟨by omega, by omega, h3⟩
/-! SigOk -/
end Go.Proofs.Ytficfeekkljoeaa.VS
namespace Go.Proofs.Ytficfeekkljoeaa.VS
set_option linter.unusedVariables false
set_option linter.unusedSimpArgs false
/-! ## Where a number stands; the first number that is greater (whatever the native functions are) -/
theorem findAt_none (q : Nat → Bool) : ∀ (k i j : Nat), findAt q k i = none → i ≤ j → j < i + k → q j = false
  | 0, i, j, _, h1, h2 => by omega
  | k + 1, i, j, hf, h1, h2 => by
    simp only [findAt] at hf
    split at hf
    · simp at hf
    · rename_i hq
      by_cases he : j = i
      · subst he; simpa using hq
      · exact findAt_none q k (i + 1) j hf (by omega) (by omega)
section
variable (X : XEnv)
end
end Go.Proofs.Ytficfeekkljoeaa.VS
namespace Go.Proofs.Ytficfeekkljoeaa.VS
set_option linter.unusedVariables false
set_option linter.unusedSimpArgs false
/-! ## A fold over all terms within a term, with what holds of its state -/
/-! ## A number put into a list, both -/
theorem all_one (l : List Int) : (l.map (DV.int .i64)).all (fun e => decide (e.cells.length = 1)) = true := by simp [cells_int]
theorem all_cell (l : List Int) : (l.map (DV.int .i64)).all (fun e => decide (e.cells.length = 1 ∧ e.cells.all DV.isCell = true)) = true := by simp [cells_int, isCell_int]
theorem app_ints (a b : List Int) (g : Tag) (h : (a.length + b.length) * 8 ≤ 140737488355328) : xappend 1 8 (.sl U (a.map (.int .i64))) (.sl g (b.map (.int .i64))) = some (.sl U ((a ++ b).map (.int .i64))) := by
  unfold xappend
  simp only
  rw [if_pos (all_cell b)]
  cases b with
  | nil => simp
  | cons x r =>
    simp only [List.map_cons, List.isEmpty_cons, Bool.false_eq_true, if_false]
    rw [if_pos ⟨by simpa using h, trivial, all_one a⟩]
    simp
/-! ## The variables of a term, both -/
end Go.Proofs.Ytficfeekkljoeaa.VS
namespace Go.Proofs.Ytficfeekkljoeaa.VS
set_option linter.unusedVariables false
set_option linter.unusedSimpArgs false
/-! ## Rows of whole numbers that lie in boxes: marks -/
def cI (l : List Int) : List AV := l.map fun x => .d (.int .i64 x)
def tI (b : Nat) (l : List Int) : AV := if l = [] then .d (is []) else .tsl false b 1 l.length
def bI (l : List Int) : Boxs := if l = [] then [] else [some (cI l)]
def mk : Nat → Nat → List Int
  | 0, _ => []
  | n + 1, k => (k : Int) :: mk n (k + 1)
theorem mk_len : ∀ (n k : Nat), (mk n k).length = n
  | 0, _ => rfl
  | n + 1, k => by simp [mk, mk_len n (k + 1)]
theorem mk_at : ∀ (n k i : Nat), i < n → (mk n k)[i]? = some ((k + i : Nat) : Int)
  | 0, _, _, h => by omega
  | n + 1, k, 0, _ => by simp [mk]
  | n + 1, k, i + 1, h => by simp only [mk, List.getElem?_cons_succ]; rw [mk_at n (k + 1) i (by omega), show k + 1 + i = k + (i + 1) by omega]
theorem thws_ints (b : Nat) : ∀ l : List Int, thws b (l.map (.int .i64)) = (cI l, [])
  | [] => rfl
  | x :: r => by simp [thws, thw, thws_ints b r, cI]
theorem thaw_ints (b : Nat) (l : List Int) : (DV.sl .sub (l.map (.int .i64))).thaw b = (tI b l, bI l) := by
  cases l with
  | nil => rfl
  | cons x r =>
    have h := thws_ints b (x :: r)
    simp only [List.map_cons] at h
    simp only [DV.thaw, thawOne, thw, List.map_cons, h, tI, bI, isAgD]
    simp [DV.cells]
theorem frzL_ints (f : AV → Option DV) (hf : ∀ v, f (.d v) = some v) : ∀ l : List Int, frzL f (cI l) = some (l.map (.int .i64))
  | [] => rfl
  | x :: r => by
    have := frzL_ints f hf r
    simp only [cI] at this
    simp [cI, frzL, hf, this]
theorem chunk_ints : ∀ (l : List Int), chunks false 1 l.length (l.map (.int .i64)) = some (l.map (.int .i64))
  | [] => rfl
  | x :: r => by simp [chunks, cut, chunk_ints r, DV.cells, DV.isCell]
theorem frzC_d (B : Boxs) (n : Nat) (v : DV) : AV.frzC B n (.d v) = some v := by cases n <;> simp only [AV.frzC]
theorem frzC_tI (B : Boxs) (b n : Nat) (l : List Int) (hb : l ≠ [] → B[b]? = some (some (cI l))) (hn : 0 < n) : AV.frzC B n (tI b l) = some (is l) := by
  obtain ⟨m, rfl⟩ : ∃ m, n = m + 1 := ⟨n - 1, by omega⟩
  unfold tI
  by_cases hl : l = []
  · subst hl; simp [AV.frzC]
  · rw [if_neg hl]
    simp only [AV.frzC]
    rw [show bget B b = some (cI l) by unfold bget; rw [hb hl]]
    simp only [Option.bind_some, frzL_ints _ (frzC_d B m)]
    rw [if_pos (by simp), chunk_ints]; rfl
theorem frz_tI (B0 B1 : Boxs) (l : List Int) : AV.frz (B0 ++ bI l ++ B1) (tI B0.length l) = some (is l) := by
  have h : AV.frz (B0 ++ bI l ++ B1) (tI B0.length l) = AV.frzC (B0 ++ bI l ++ B1) (B0 ++ bI l ++ B1).length (tI B0.length l) := by
    unfold tI; split <;> simp only [AV.frz]
  rw [h]
  by_cases hl : l = []
  · subst hl; simp only [tI, if_true]; exact frzC_d _ _ _
  · refine frzC_tI _ _ _ _ (fun _ => by simp [bI, hl]) ?_
    simp [bI, hl]; omega
theorem clr_tI (b : Nat) (l : List Int) : (tI b l).clr = tI b l := by
  unfold tI; split
  · simp [AV.clr, DV.clr, DV.clrs]
  · simp only [AV.clr]
theorem tI_len (b : Nat) (l l' : List Int) (h : l.length = l'.length) : tI b l = tI b l' := by
  unfold tI
  cases l <;> cases l' <;> simp at h <;> simp [h]
/-- Marked up to i. -/
def upI (l : List Int) (k i : Nat) : List Int := mk i k ++ l.drop i
theorem upI_zero (l : List Int) (k : Nat) : upI l k 0 = l := by simp [upI, mk]
theorem upI_all (l : List Int) (k : Nat) : upI l k l.length = mk l.length k := by simp [upI]
theorem mk_succ : ∀ (n k : Nat), mk (n + 1) k = mk n k ++ [((k + n : Nat) : Int)]
  | 0, k => by simp [mk]
  | n + 1, k => by
    rw [mk, mk_succ n (k + 1), mk]
    simp
    omega
theorem upI_step (l : List Int) (k i : Nat) (hi : i < l.length) : splice (cI (upI l k i)) i [.d (.int .i64 ((k + i : Nat) : Int))] = cI (upI l k (i + 1)) := by
  have h1 : (mk i k).length = i := mk_len i k
  unfold upI splice cI
  rw [List.drop_eq_getElem_cons hi, mk_succ]
  simp only [List.map_append, List.map_cons]
  rw [List.take_append_of_le_length (by simp [h1]), List.take_of_length_le (by simp [h1]), List.drop_append, List.drop_of_length_le (by simp [h1])]
  simp [h1]
theorem markInts_eq (l : List Int) (k : Nat) (hk : k + l.length ≤ 4611686018427387904) (B0 B1 : Boxs) :
    callX XV 344 [tI B0.length l, .d (.int .i64 k)] (B0 ++ bI l ++ B1) = some (.d (.int .i64 ((k + l.length : Nat) : Int)), B0 ++ bI (mk l.length k) ++ B1) := by
  rw [z_call XV _ _ _ v344 rfl xcode_344 rfl]
  cases hl : l with
  | nil =>
    have h := loopX_upto (X := XV) (T := []) (L := (B0 ++ B1).length) (live := [0, 1, 5]) (b := b344_0) (n := 0) (β := Unit) (γ := Unit) (st := fun _ i => ⟨[(0, .d (is [])), (1, .d (.int .i64 k)), (5, .d (.int .i64 i))], B0 ++ B1⟩) (step := fun _ _ => .inl ())
      (F := fun _ => (.exit 0, ⟨[(0, .d (is [])), (1, .d (.int .i64 k)), (5, .d (.int .i64 0)), (9, .d (.bool false))], B0 ++ B1⟩)) (R := fun _ => (.ret, ⟨[], []⟩)) (fun a => ⟨by simp, by simp [b344_0, r344_0, r344_1, r344_2, r344_4, r344_5, r344_3, r344_6]⟩) (fun a i hi => by omega) 0 () 0 ⟨[(0, .d (is [])), (1, .d (.int .i64 k)), (5, .d (.int .i64 0))], B0 ++ B1⟩ rfl (head_cut (e := []) (by simp) (by simp [safeRegs]) rfl (by simp))
    simp only [runN, List.length_append, List.map_nil, is] at h
    have htk : List.take (B0.length + B1.length) (B0 ++ B1) = B0 ++ B1 := List.take_of_length_le (by simp)
    simp [tI, bI, mk, is, v344, r344_0, r344_1, r344_2, r344_4, r344_5, r344_3, r344_6]
    rw [h]
    simp [htk, v344, r344_0, r344_1, r344_2, r344_4, r344_5, r344_3, r344_6]
  | cons x r =>
    rw [← hl]
    have hne : l ≠ [] := by rw [hl]; simp
    have hlen : ∀ i, i ≤ l.length → (cI (upI l k i)).length = l.length := fun i hi => by simp [cI, upI, mk_len]; omega
    have hget : ∀ (c : List AV) (r : Boxs), (B0 ++ some c :: r)[B0.length]? = some (some c) := fun c r => get_at B0 (some c) r
    have hset : ∀ (c d : List AV) (r : Boxs), (B0 ++ some c :: r).set B0.length (some d) = B0 ++ some d :: r := fun c d r => set_at B0 (some c) (some d) r
    have h := loopX_upto (X := XV) (T := []) (L := B0.length + (B1.length + 1)) (live := [0, 1, 5]) (b := b344_0) (n := l.length) (γ := Unit) (st := fun (_ : Unit) i => ⟨[(0, .tsl false B0.length 1 l.length), (1, .d (.int .i64 ((k + i : Nat) : Int))), (5, .d (.int .i64 i))], B0 ++ some (cI (upI l k i)) :: B1⟩) (step := fun _ _ => .inl ())
      (F := fun _ => (.exit 0, ⟨[(0, .tsl false B0.length 1 l.length), (1, .d (.int .i64 ((k + l.length : Nat) : Int))), (5, .d (.int .i64 l.length)), (9, .d (.bool false))], B0 ++ some (cI (upI l k l.length)) :: B1⟩)) (R := fun _ => (.ret, ⟨[], []⟩))
      (fun _ => ⟨by simp, by simp [b344_0, r344_0, r344_1, r344_2, r344_4, r344_5, r344_3, r344_6]⟩)
      (fun _ i hi => by
        have hw := wrap_succ (n := i) (by omega)
        have hw2 := wrap_succ (n := k + i) (by omega)
        have hc := hlen i (by omega)
        have hs := upI_step l k i hi
        have hle : i + 1 ≤ l.length := by omega
        exact ⟨⟨[(0, .tsl false B0.length 1 l.length), (1, .d (.int .i64 ((k + (i + 1) : Nat) : Int))), (5, .d (.int .i64 ((i + 1 : Nat) : Int)))], B0 ++ some (cI (upI l k (i + 1))) :: B1⟩, by
          generalize hkk : k + i = kk at hw2 hs
          rw [show k + (i + 1) = kk + 1 by omega]
          simp [b344_0, r344_0, r344_1, r344_2, r344_4, r344_5, r344_3, r344_6, hi, hw, hw2, hc, hle, hget, hset, hs], head_cut (e := []) (by simp) (by simp [safeRegs, safe_tsl]) (by simp) (by simp)⟩)
      l.length () 0 ⟨[(0, .tsl false B0.length 1 l.length), (1, .d (.int .i64 k)), (5, .d (.int .i64 0))], B0 ++ some (cI l) :: B1⟩ (by omega) (head_cut (e := []) (by simp) (by simp [safeRegs, safe_tsl]) (by simp) (by simp [upI_zero]))
    rw [run_on, upI_all] at h
    have htk : ∀ c : List AV, List.take (B0.length + (B1.length + 1)) (B0 ++ some c :: B1) = B0 ++ some c :: B1 := fun c => List.take_of_length_le (by simp)
    simp [tI, bI, hne, v344, r344_0, r344_1, r344_2, r344_4, r344_5, r344_3, r344_6]
    rw [h]
    have hne2 : mk l.length k ≠ [] := by intro he; have := mk_len l.length k; rw [he] at this; simp at this; exact hne (List.length_eq_zero_iff.1 this.symm)
    simp [v344, r344_0, r344_1, r344_2, r344_4, r344_5, r344_3, r344_6, hne2, htk]
theorem mkAt (n k i : Nat) (h : i < n) : (cI (mk n k))[i]? = some (.d (.int .i64 ((k + i : Nat) : Int))) := by simp [cI, mk_at n k i h]
theorem heldInts_eq (n k : Nat) (hk : k + n ≤ 4611686018427387904) (B0 B1 : Boxs) :
    callX XV 345 [tI B0.length (mk n k), .d (.int .i64 k)] (B0 ++ bI (mk n k) ++ B1) = some (.d (.int .i64 ((k + n : Nat) : Int)), B0 ++ bI (mk n k) ++ B1) := by
  rw [z_call XV _ _ _ v345 rfl xcode_345 rfl]
  cases hn : n with
  | zero =>
    have h := loopX_upto (X := XV) (T := []) (L := (B0 ++ B1).length) (live := [0, 1, 5]) (b := b345_0) (n := 0) (β := Unit) (γ := Unit) (st := fun _ i => ⟨[(0, .d (is [])), (1, .d (.int .i64 k)), (5, .d (.int .i64 i))], B0 ++ B1⟩) (step := fun _ _ => .inl ())
      (F := fun _ => (.exit 0, ⟨[(0, .d (is [])), (1, .d (.int .i64 k)), (5, .d (.int .i64 0)), (9, .d (.bool false))], B0 ++ B1⟩)) (R := fun _ => (.ret, ⟨[], []⟩)) (fun a => ⟨by simp, by simp [b345_0, r345_0, r345_1, r345_2, r345_4, r345_5, r345_6, r345_3, r345_7]⟩) (fun a i hi => by omega) 0 () 0 ⟨[(0, .d (is [])), (1, .d (.int .i64 k)), (5, .d (.int .i64 0))], B0 ++ B1⟩ rfl (head_cut (e := []) (by simp) (by simp [safeRegs]) rfl (by simp))
    simp only [runN, List.length_append, List.map_nil, is] at h
    have htk : List.take (B0.length + B1.length) (B0 ++ B1) = B0 ++ B1 := List.take_of_length_le (by simp)
    simp [tI, bI, mk, is, v345, r345_0, r345_1, r345_2, r345_4, r345_5, r345_6, r345_3, r345_7]
    rw [h]
    simp [htk, v345, r345_0, r345_1, r345_2, r345_4, r345_5, r345_6, r345_3, r345_7]
  | succ n' =>
    rw [← hn]
    have hne : mk n k ≠ [] := by intro he; have := mk_len n k; rw [he] at this; simp at this; omega
    have hlen : (cI (mk n k)).length = n := by simp [cI, mk_len]
    have hget : ∀ (c : List AV) (r : Boxs), (B0 ++ some c :: r)[B0.length]? = some (some c) := fun c r => get_at B0 (some c) r
    have h := loopX_upto (X := XV) (T := []) (L := B0.length + (B1.length + 1)) (live := [0, 1, 5]) (b := b345_0) (n := n) (γ := Unit) (st := fun (_ : Unit) i => ⟨[(0, .tsl false B0.length 1 n), (1, .d (.int .i64 ((k + i : Nat) : Int))), (5, .d (.int .i64 i))], B0 ++ some (cI (mk n k)) :: B1⟩) (step := fun _ _ => .inl ())
      (F := fun _ => (.exit 0, ⟨[(0, .tsl false B0.length 1 n), (1, .d (.int .i64 ((k + n : Nat) : Int))), (5, .d (.int .i64 n)), (9, .d (.bool false))], B0 ++ some (cI (mk n k)) :: B1⟩)) (R := fun _ => (.ret, ⟨[], []⟩))
      (fun _ => ⟨by simp, by simp [b345_0, r345_0, r345_1, r345_2, r345_4, r345_5, r345_6, r345_3, r345_7]⟩)
      (fun _ i hi => by
        have hw := wrap_succ (n := i) (by omega)
        have hw2 := wrap_succ (n := k + i) (by omega)
        have ha := mkAt n k i hi
        exact ⟨⟨[(0, .tsl false B0.length 1 n), (1, .d (.int .i64 ((k + (i + 1) : Nat) : Int))), (5, .d (.int .i64 ((i + 1 : Nat) : Int)))], B0 ++ some (cI (mk n k)) :: B1⟩, by
          generalize hkk : k + i = kk at hw2 ha
          rw [show k + (i + 1) = kk + 1 by omega]
          simp [b345_0, r345_0, r345_1, r345_2, r345_4, r345_5, r345_6, r345_3, r345_7, hi, hw, hw2, hget, ha], head_cut (e := []) (by simp) (by simp [safeRegs, safe_tsl]) (by simp) (by simp)⟩)
      n () 0 ⟨[(0, .tsl false B0.length 1 n), (1, .d (.int .i64 k)), (5, .d (.int .i64 0))], B0 ++ some (cI (mk n k)) :: B1⟩ (by omega) (head_cut (e := []) (by simp) (by simp [safeRegs, safe_tsl]) (by simp) (by simp))
    rw [run_on] at h
    have htk : ∀ c : List AV, List.take (B0.length + (B1.length + 1)) (B0 ++ some c :: B1) = B0 ++ some c :: B1 := fun c => List.take_of_length_le (by simp)
    simp [tI, bI, hne, mk_len, v345, r345_0, r345_1, r345_2, r345_4, r345_5, r345_6, r345_3, r345_7]
    rw [h]
    simp [v345, r345_0, r345_1, r345_2, r345_4, r345_5, r345_6, r345_3, r345_7, htk]
end Go.Proofs.Ytficfeekkljoeaa.VS
namespace Go.Proofs.Ytficfeekkljoeaa.VS
set_option linter.unusedVariables false
set_option linter.unusedSimpArgs false
theorem eqIntS_same (l : List Int) (hl : l.length ≤ 4398046511104) : callX XV 44 [.d (is l), .d (is l)] [] = some (.d (.bool true), []) := by
  rw [z_call XV _ _ _ v44 rfl xcode_44 rfl]
  have hloop := loopX_upto (X := XV) (T := []) (L := 0) (live := [0, 1, 5]) (b := b44_0) (n := l.length) (γ := Unit) (st := fun (_ : Unit) i => ⟨[(0, .d (is l)), (1, .d (is l)), (5, .d (.int .i64 i))], []⟩) (step := fun _ _ => .inl ())
    (F := fun _ => (.exit 0, ⟨[(0, .d (is l)), (1, .d (is l)), (5, .d (.int .i64 l.length)), (14, .d (.bool false))], []⟩)) (R := fun _ => (.ret, ⟨[], []⟩))
    (fun _ => ⟨by simp, by simp [b44_0, r44_0, r44_1, r44_2, r44_3, r44_4, d44_6, r44_7, r44_5, r44_8]⟩)
    (fun _ i hi => by
      have hw := wrap_succ (n := i) (by omega)
      exact ⟨_, by simp [b44_0, r44_0, r44_1, r44_2, r44_3, r44_4, d44_6, r44_7, r44_5, r44_8, hi, hw, cut, iAt_lt hi]; rfl, by simp [xheadOf, safeRegs]⟩)
    l.length () 0 ⟨[(0, .d (is l)), (1, .d (is l)), (5, .d (.int .i64 0))], []⟩ (by omega) (by simp [xheadOf, safeRegs])
  rw [run_on] at hloop
  simp [v44, r44_0, r44_1, r44_2, r44_3, r44_4, d44_6, r44_7, r44_5, r44_8]
  rw [hloop]
  simp [v44, r44_0, r44_1, r44_2, r44_3, r44_4, d44_6, r44_7, r44_5, r44_8]
theorem allU_ints (l : List Int) : (DV.sl U (l.map (.int .i64))).allUT = true := by
  have h : ∀ l : List Int, DV.allUs (l.map (.int .i64)) = true := by
    intro l
    induction l with
    | nil => rfl
    | cons x r ih => simp [DV.allUs, DV.allU, ih]
  cases l with
  | nil => rfl
  | cons x r => simpa [DV.allUT, DV.allU] using h (x :: r)
theorem allU_bool (b : Bool) : (DV.bool b).allUT = true := rfl
end Go.Proofs.Ytficfeekkljoeaa.VS
namespace Go.Proofs.Ytficfeekkljoeaa.VS
set_option linter.unusedVariables false
set_option linter.unusedSimpArgs false
/-! ## Rows of rows of whole numbers; their sums -/
@[simp] theorem ints_eq (g : Tag) (l : List Int) : ints g l = .sl g (l.map (.int .i64)) := rfl
abbrev iss (g : Tag) (ps : List (List Int)) : DV := .sl g (ps.map (ints g))
def rAt (l : List (List Int)) (i : Nat) : List Int := (l[i]?).getD []
theorem rAt_lt {l : List (List Int)} {i : Nat} (h : i < l.length) : l[i] = rAt l i := by simp [rAt, h]
@[simp high] theorem clr_iss (g : Tag) (l : List (List Int)) : (l.map (ints g)).map DV.clr = l.map (ints .sub) := by
  simp [List.map_map, Function.comp_def, DV.clr, DV.clrs_map]
def issSize (l : List (List Int)) : Nat := l.length + sumW (fun i => (rAt l i).length) 0 l.length
theorem issEncs_ok (g : Tag) (l : List (List Int)) : ∀ x : DV, x ∈ l.map (ints g) → elemOK false 1 x := by
  intro x hx; simp only [List.mem_map] at hx; obtain ⟨n, _, rfl⟩ := hx; exact ⟨rfl, rfl, fun h => by simp at h, by simp⟩
theorem eqIntSS_self (l : List (List Int)) (hl : l.length ≤ 1099511627776) (hb : ∀ i, i < l.length → (rAt l i).length ≤ 1099511627776) : callX XV 351 [.d (iss .sub l), .d (iss .sub l)] [] = some (.d (.bool true), []) := by
  rw [z_call XV _ _ _ v351 rfl xcode_351 rfl]
  have hloop := loopX_upto (X := XV) (T := []) (L := 0) (live := [0, 1, 5]) (b := b351_0) (n := l.length) (γ := Unit) (st := fun (_ : Unit) i => ⟨[(0, .d (iss .sub l)), (1, .d (iss .sub l)), (5, .d (.int .i64 i))], []⟩) (step := fun _ _ => .inl ())
    (F := fun _ => (.exit 0, ⟨[(0, .d (iss .sub l)), (1, .d (iss .sub l)), (5, .d (.int .i64 l.length)), (14, .d (.bool false))], []⟩)) (R := fun _ => (.ret, ⟨[], []⟩))
    (fun _ => ⟨by simp, by simp [b351_0, r351_0, r351_1, r351_2, r351_3, r351_4, d351_6, r351_7, r351_5, r351_8]⟩)
    (fun _ i hi => by
      have hw := wrap_succ (n := i) (by omega)
      have hc' := eqIntS_self (rAt l i) (hb i hi)
      exact ⟨_, by simp [b351_0, r351_0, r351_1, r351_2, r351_3, r351_4, d351_6, r351_7, r351_5, r351_8, hi, hw, cut, rAt_lt hi, hc']; rfl, by simp [xheadOf, safeRegs]⟩)
    l.length () 0 ⟨[(0, .d (iss .sub l)), (1, .d (iss .sub l)), (5, .d (.int .i64 0))], []⟩ (by omega) (by simp [xheadOf, safeRegs])
  rw [run_on] at hloop
  simp [v351, r351_0, r351_1, r351_2, r351_3, r351_4, d351_6, r351_7, r351_5, r351_8]
  rw [hloop]
  simp [v351, r351_0, r351_1, r351_2, r351_3, r351_4, d351_6, r351_7, r351_5, r351_8]
end Go.Proofs.Ytficfeekkljoeaa.VS
namespace Go.Proofs.Ytficfeekkljoeaa.VS
set_option linter.unusedVariables false
set_option linter.unusedSimpArgs false
/-! the program's -/
end Go.Proofs.Ytficfeekkljoeaa.VS
namespace Go.Proofs.Ytficfeekkljoeaa.VS
set_option linter.unusedVariables false
set_option linter.unusedSimpArgs false
/-! ## The reference's sum; marks in rows of rows -/
end Go.Proofs.Ytficfeekkljoeaa.VS
namespace Go.Proofs.Ytficfeekkljoeaa.VS
set_option linter.unusedVariables false
set_option linter.unusedSimpArgs false
/-! ## Rows of rows of whole numbers that lie in boxes -/
def ibs (ps : List (List Int)) : Boxs := match ps with
  | [] => []
  | r :: q => bI r ++ ibs q
def iCells (b : Nat) : List (List Int) → List AV
  | [] => []
  | r :: q => tI b r :: iCells (b + (bI r).length) q
def tS (b : Nat) (ps : List (List Int)) : AV := if ps = [] then .d (iss .sub []) else .tsl false (b + (ibs ps).length) 1 ps.length
def bS (b : Nat) (ps : List (List Int)) : Boxs := if ps = [] then [] else ibs ps ++ [some (iCells b ps)]
theorem iCells_len : ∀ (ps : List (List Int)) (b : Nat), (iCells b ps).length = ps.length
  | [], b => rfl
  | r :: q, b => by simp [iCells, iCells_len q]
theorem ibs_append : ∀ (a c : List (List Int)), ibs (a ++ c) = ibs a ++ ibs c
  | [], c => by simp [ibs]
  | r :: q, c => by simp [ibs, ibs_append q c]
theorem iCells_append : ∀ (a c : List (List Int)) (b : Nat), iCells b (a ++ c) = iCells b a ++ iCells (b + (ibs a).length) c
  | [], c, b => by simp [iCells, ibs]
  | r :: q, c, b => by simp [iCells, iCells_append q c, ibs, Nat.add_assoc]
theorem thw_ints (b : Nat) (l : List Int) : thw b (ints .sub l) = ([tI b l], bI l) := by
  cases l with
  | nil => rfl
  | cons x r =>
    have h := thws_ints b (x :: r)
    simp only [List.map_cons] at h
    simp only [ints_eq, thw, List.map_cons, h, tI, bI, isAgD]
    simp [DV.cells]
theorem thws_iss : ∀ (ps : List (List Int)) (b : Nat), thws b (ps.map (ints .sub)) = (iCells b ps, ibs ps)
  | [], b => rfl
  | r :: q, b => by
    rw [List.map_cons]
    simp only [thws, thw_ints]
    rw [thws_iss q]
    rfl
theorem thaw_iss (b : Nat) (ps : List (List Int)) : (iss .sub ps).thaw b = (tS b ps, bS b ps) := by
  cases ps with
  | nil => rfl
  | cons r q =>
    have h := thws_iss (r :: q) b
    simp only [List.map_cons] at h
    show thawOne b (.sl .sub (ints .sub r :: q.map (ints .sub))) = _
    simp only [thawOne, thw, h, tS, bS]
    simp [isAgD, DV.cells]
theorem frzCs (n : Nat) (hn : 0 < n) : ∀ (ps : List (List Int)) (P Q : Boxs), frzL (AV.frzC (P ++ ibs ps ++ Q) n) (iCells P.length ps) = some (ps.map (ints .sub))
  | [], P, Q => rfl
  | r :: q, P, Q => by
    have h1 : AV.frzC (P ++ bI r ++ (ibs q ++ Q)) n (tI P.length r) = some (is r) := frzC_tI _ _ _ _ (fun hr => by simp [bI, hr]) hn
    have h2 := frzCs n hn q (P ++ bI r) Q
    rw [List.length_append] at h2
    have e1 : P ++ bI r ++ (ibs q ++ Q) = P ++ ibs (r :: q) ++ Q := by simp [ibs]
    have e2 : P ++ bI r ++ ibs q ++ Q = P ++ ibs (r :: q) ++ Q := by simp [ibs]
    rw [e1] at h1; rw [e2] at h2
    simp only [iCells, frzL_cons, h1, h2, frzO_some, List.map_cons]
    rfl
theorem flat_iss (g : Tag) (ps : List (List Int)) : flat (ps.map (ints g)) = ps.map (ints g) := by
  induction ps with
  | nil => rfl
  | cons r q ih => simp [flat, cells_sl] at ih ⊢; exact ih
theorem frz_tS (ps : List (List Int)) (P Q : Boxs) : AV.frz (P ++ bS P.length ps ++ Q) (tS P.length ps) = some (iss .sub ps) := by
  by_cases hp : ps = []
  · subst hp; simp [tS, bS, AV.frz, frzC_d]
  · have hb : P ++ bS P.length ps ++ Q = P ++ ibs ps ++ (some (iCells P.length ps) :: Q) := by simp [bS, hp]
    have hg : bget (P ++ ibs ps ++ (some (iCells P.length ps) :: Q)) (P.length + (ibs ps).length) = some (iCells P.length ps) := by
      unfold bget; rw [← List.length_append, get_at]
    rw [hb]
    have hne : P ++ ibs ps ++ (some (iCells P.length ps) :: Q) ≠ [] := by simp
    unfold tS
    rw [if_neg hp]
    by_cases h1 : ∃ m, (P ++ ibs ps ++ (some (iCells P.length ps) :: Q)).length = m + 2
    · obtain ⟨m, hm⟩ := h1
      simp only [AV.frz]
      rw [hm]
      simp only [AV.frzC]
      rw [hg, Option.bind_some, frzCs (m + 1) (by omega) ps P _, Option.bind_some, if_pos (by simp)]
      have hch := chunks_row (ps.map (ints .sub)) (issEncs_ok .sub ps)
      rw [List.length_map, flat_iss] at hch
      rw [hch]; rfl
    · -- all rows are empty
      have hP : P = [] ∧ ibs ps = [] ∧ Q = [] := by
        have : P.length + ((ibs ps).length + (Q.length + 1)) < 2 := by
          apply Classical.byContradiction; intro hh
          exact h1 ⟨P.length + ((ibs ps).length + (Q.length + 1)) - 2, by simp; omega⟩
        exact ⟨List.length_eq_zero_iff.1 (by omega), List.length_eq_zero_iff.1 (by omega), List.length_eq_zero_iff.1 (by omega)⟩
      obtain ⟨rfl, h2, rfl⟩ := hP
      have hall : ∀ (qs : List (List Int)) (b n : Nat) (B : Boxs), ibs qs = [] → frzL (AV.frzC B n) (iCells b qs) = some (qs.map (ints .sub)) := by
        intro qs
        induction qs with
        | nil => intros; rfl
        | cons r q ih =>
          intro b n B hq
          have hr : r = [] := by
            apply Classical.byContradiction; intro hr
            simp [ibs, bI, hr] at hq
          subst hr
          have := ih b n B (by simpa [ibs, bI] using hq)
          simp only [iCells, frzL_cons, tI, if_true, frzC_d, frzO_some]
          simp only [bI, if_true, List.length_nil, Nat.add_zero]
          rw [this]; rfl
      simp only [AV.frz, h2, List.nil_append, List.append_nil, List.length_cons, List.length_nil, Nat.zero_add, AV.frzC]
      rw [h2] at hg
      simp only [List.nil_append, List.append_nil, List.length_nil, Nat.add_zero] at hg
      rw [hg, Option.bind_some, hall ps _ _ _ h2, Option.bind_some, if_pos (by simp)]
      have hch := chunks_row (ps.map (ints .sub)) (issEncs_ok .sub ps)
      rw [List.length_map, flat_iss] at hch
      rw [hch]; rfl
theorem clr_tS (b : Nat) (ps : List (List Int)) : (tS b ps).clr = tS b ps := by
  unfold tS; split
  · simp [AV.clr, DV.clr, DV.clrs]
  · simp only [AV.clr]
/-! ### Marks -/
def mkS : List (List Int) → Nat → List (List Int)
  | [], _ => []
  | r :: q, k => mk r.length k :: mkS q (k + r.length)
def cntS : List (List Int) → Nat
  | [] => 0
  | r :: q => r.length + cntS q
theorem mkS_snoc : ∀ (ps : List (List Int)) (k : Nat) (r : List Int), mkS (ps ++ [r]) k = mkS ps k ++ [mk r.length (k + cntS ps)]
  | [], k, r => by simp [mkS, cntS]
  | a :: q, k, r => by simp [mkS, mkS_snoc q, cntS, Nat.add_assoc]
theorem bI_same (l l' : List Int) (h : l.length = l'.length) : (bI l).length = (bI l').length := by unfold bI; cases l <;> cases l' <;> simp at h <;> simp
theorem mkS_ibs : ∀ (ps : List (List Int)) (k : Nat), (ibs (mkS ps k)).length = (ibs ps).length
  | [], k => rfl
  | r :: q, k => by simp [mkS, ibs, mkS_ibs q, bI_same (mk r.length k) r (mk_len _ _)]
theorem cntS_snoc : ∀ (ps : List (List Int)) (r : List Int), cntS (ps ++ [r]) = cntS ps + r.length
  | [], r => by simp [cntS]
  | a :: q, r => by simp [cntS, cntS_snoc q, Nat.add_assoc]
theorem cntS_append : ∀ (a c : List (List Int)), cntS (a ++ c) = cntS a + cntS c
  | [], c => by simp [cntS]
  | r :: q, c => by simp [cntS, cntS_append q c, Nat.add_assoc]
def upS (ps : List (List Int)) (k i : Nat) : List (List Int) := mkS (ps.take i) k ++ ps.drop i
theorem upS_zero (ps : List (List Int)) (k : Nat) : upS ps k 0 = ps := by simp [upS, mkS]
theorem upS_all (ps : List (List Int)) (k : Nat) : upS ps k ps.length = mkS ps k := by simp [upS]
theorem upS_ibs (ps : List (List Int)) (k i : Nat) : (ibs (upS ps k i)).length = (ibs ps).length := by
  unfold upS; rw [ibs_append, List.length_append, mkS_ibs, ← List.length_append, ← ibs_append, List.take_append_drop]
theorem rTake (ps : List (List Int)) (i : Nat) (hi : i < ps.length) : ps.take (i + 1) = ps.take i ++ [rAt ps i] := by
  rw [← rAt_lt hi, List.take_append_getElem hi]
theorem markIss_eq (ps : List (List Int)) (k : Nat) (hl : ps.length ≤ 1099511627776) (hk : k + cntS ps ≤ 4611686018427387904) (B0 B1 : Boxs) :
    callX XV 352 [tS B0.length ps, .d (.int .i64 k)] (B0 ++ bS B0.length ps ++ B1) = some (.d (.int .i64 ((k + cntS ps : Nat) : Int)), B0 ++ (if ps = [] then [] else ibs (mkS ps k) ++ [some (iCells B0.length ps)]) ++ B1) := by
  rw [z_call XV _ _ _ v352 rfl xcode_352 rfl]
  by_cases hp : ps = []
  · subst hp
    have h := loopX_upto (X := XV) (T := []) (L := (B0 ++ B1).length) (live := [0, 1, 5]) (b := b352_0) (n := 0) (β := Unit) (γ := Unit) (st := fun _ i => ⟨[(0, .d (.sl .sub [])), (1, .d (.int .i64 k)), (5, .d (.int .i64 i))], B0 ++ B1⟩) (step := fun _ _ => .inl ())
      (F := fun _ => (.exit 0, ⟨[(0, .d (.sl .sub [])), (1, .d (.int .i64 k)), (5, .d (.int .i64 0)), (9, .d (.bool false))], B0 ++ B1⟩)) (R := fun _ => (.ret, ⟨[], []⟩)) (fun a => ⟨by simp, by simp [b352_0, r352_0, r352_1, r352_2, r352_4, r352_3, r352_5]⟩) (fun a i hi => by omega) 0 () 0 ⟨[(0, .d (.sl .sub [])), (1, .d (.int .i64 k)), (5, .d (.int .i64 0))], B0 ++ B1⟩ rfl (head_cut (e := []) (by simp) (by simp [safeRegs]) rfl (by simp))
    simp only [runN, List.length_append] at h
    have htk : List.take (B0.length + B1.length) (B0 ++ B1) = B0 ++ B1 := List.take_of_length_le (by simp)
    simp [tS, bS, cntS, iss, v352, r352_0, r352_1, r352_2, r352_4, r352_3, r352_5]
    rw [h]
    simp [htk, v352, r352_0, r352_1, r352_2, r352_4, r352_3, r352_5]
  · have hlen : ∀ i, (B0 ++ ibs (upS ps k i)).length = B0.length + (ibs ps).length := fun i => by rw [List.length_append, upS_ibs]
    have h := loopX_upto (X := XV) (T := []) (L := B0.length + (ibs ps).length + (B1.length + 1)) (live := [0, 1, 5]) (b := b352_0) (n := ps.length) (γ := Unit) (st := fun (_ : Unit) i => ⟨[(0, .tsl false (B0.length + (ibs ps).length) 1 ps.length), (1, .d (.int .i64 ((k + cntS (ps.take i) : Nat) : Int))), (5, .d (.int .i64 i))], (B0 ++ ibs (upS ps k i)) ++ some (iCells B0.length ps) :: B1⟩) (step := fun _ _ => .inl ())
      (F := fun _ => (.exit 0, ⟨[(0, .tsl false (B0.length + (ibs ps).length) 1 ps.length), (1, .d (.int .i64 ((k + cntS ps : Nat) : Int))), (5, .d (.int .i64 ps.length)), (9, .d (.bool false))], (B0 ++ ibs (upS ps k ps.length)) ++ some (iCells B0.length ps) :: B1⟩)) (R := fun _ => (.ret, ⟨[], []⟩))
      (fun _ => ⟨by simp, by rw [List.take_length]; generalize ((k + cntS ps : Nat) : Int) = K; simp [b352_0, r352_0, r352_1, r352_2, r352_4, r352_3, r352_5]⟩)
      (fun _ i hi => by
        have hw := wrap_succ (n := i) (by omega)
        have hspl : ps = ps.take i ++ rAt ps i :: ps.drop (i + 1) := by
          rw [← rAt_lt hi, ← List.drop_eq_getElem_cons hi, List.take_append_drop]
        have hcs := cntS_snoc (ps.take i) (rAt ps i)
        rw [← rTake ps i hi] at hcs
        have hcl : cntS (ps.take (i + 1)) ≤ cntS ps := by
          have := cntS_append (ps.take (i + 1)) (ps.drop (i + 1)); rw [List.take_append_drop] at this; omega
        have hm := markInts_eq (rAt ps i) (k + cntS (ps.take i)) (by omega) (B0 ++ ibs (mkS (ps.take i) k)) (ibs (ps.drop (i + 1)) ++ some (iCells B0.length ps) :: B1)
        rw [List.length_append, mkS_ibs] at hm
        have e1 : B0 ++ ibs (mkS (ps.take i) k) ++ bI (rAt ps i) ++ (ibs (ps.drop (i + 1)) ++ some (iCells B0.length ps) :: B1) = (B0 ++ ibs (upS ps k i)) ++ some (iCells B0.length ps) :: B1 := by
          unfold upS; rw [ibs_append, List.drop_eq_getElem_cons hi, rAt_lt hi]; simp [ibs]
        have e2 : B0 ++ ibs (mkS (ps.take i) k) ++ bI (mk (rAt ps i).length (k + cntS (ps.take i))) ++ (ibs (ps.drop (i + 1)) ++ some (iCells B0.length ps) :: B1) = (B0 ++ ibs (upS ps k (i + 1))) ++ some (iCells B0.length ps) :: B1 := by
          unfold upS; rw [ibs_append, rTake ps i hi, mkS_snoc, ibs_append]; simp [ibs]
        rw [e1, e2, show k + cntS (ps.take i) + (rAt ps i).length = k + cntS (ps.take (i + 1)) by omega] at hm
        have hcell : (iCells B0.length ps)[i]? = some (tI (B0.length + (ibs (ps.take i)).length) (rAt ps i)) := by
          rw [hspl, iCells_append]
          have hti : (ps.take i).length = i := by simp; omega
          rw [← hspl, List.getElem?_append_right (by rw [iCells_len]; omega), iCells_len, hti, Nat.sub_self]
          simp [iCells]
        have hcl2 := clr_tI (B0.length + (ibs (ps.take i)).length) (rAt ps i)
        have hl1 := hlen i
        have hl2 := hlen (i + 1)
        generalize tI (B0.length + (ibs (ps.take i)).length) (rAt ps i) = y at hm hcell hcl2
        generalize iCells B0.length ps = cs at hm hcell ⊢
        generalize ((k + cntS (ps.take i) : Nat) : Int) = K0 at hm ⊢
        generalize hK1 : ((k + cntS (ps.take (i + 1)) : Nat) : Int) = K1 at hm
        generalize B0 ++ ibs (upS ps k i) = Bi at hm hl1 ⊢
        generalize hBj : B0 ++ ibs (upS ps k (i + 1)) = Bj at hm hl2
        rw [← hl1]
        have hget : ∀ (c : List AV) (r : Boxs), (Bi ++ some c :: r)[Bi.length]? = some (some c) := fun c r => get_at Bi (some c) r
        exact ⟨⟨[(0, .tsl false Bi.length 1 ps.length), (1, .d (.int .i64 K1)), (5, .d (.int .i64 ((i + 1 : Nat) : Int)))], Bj ++ some cs :: B1⟩, by
          simp [b352_0, r352_0, r352_1, r352_2, r352_4, r352_3, r352_5, hi, hw, hget, hcell, hcl2, hm], head_cut (e := []) (by rw [← hK1, hl1]; rfl) (by simp [safeRegs, safe_tsl]) (by rw [hBj, List.length_append, hl2, hl1]; rfl) (by rw [hBj]; simp)⟩)
      ps.length () 0 ⟨[(0, .tsl false (B0.length + (ibs ps).length) 1 ps.length), (1, .d (.int .i64 (k : Int))), (5, .d (.int .i64 0))], (B0 ++ ibs ps) ++ some (iCells B0.length ps) :: B1⟩ (by omega) (head_cut (e := []) (by simp [cntS]) (by simp [safeRegs, safe_tsl]) (by rw [upS_zero]; simp; omega) (by simp [upS_zero]))
    rw [run_on, upS_all] at h
    rw [if_neg hp]
    have hap : ∀ (X : Boxs) (c : List AV), B0 ++ (X ++ [some c]) ++ B1 = (B0 ++ X) ++ some c :: B1 := fun X c => by simp
    have hln2 : ((B0 ++ ibs ps) ++ some (iCells B0.length ps) :: B1).length = B0.length + (ibs ps).length + (B1.length + 1) := by simp; omega
    have hln3 : ((B0 ++ ibs (mkS ps k)) ++ some (iCells B0.length ps) :: B1).length = B0.length + (ibs ps).length + (B1.length + 1) := by simp [mkS_ibs]; omega
    simp only [tS, bS, if_neg hp]
    rw [hap, hap]
    generalize hQ : (B0 ++ ibs ps) ++ some (iCells B0.length ps) :: B1 = Q at h hln2 ⊢
    generalize hQ' : (B0 ++ ibs (mkS ps k)) ++ some (iCells B0.length ps) :: B1 = Q' at h hln3 ⊢
    generalize ((k + cntS ps : Nat) : Int) = Kn at h ⊢
    rw [← hln2] at h
    have htk : List.take Q.length Q' = Q' := List.take_of_length_le (by omega)
    simp [v352, r352_0, r352_1, r352_2, r352_4, r352_3, r352_5]
    rw [h]
    simp [v352, r352_0, r352_1, r352_2, r352_4, r352_3, r352_5, htk]
end Go.Proofs.Ytficfeekkljoeaa.VS
namespace Go.Proofs.Ytficfeekkljoeaa.VS
set_option linter.unusedVariables false
set_option linter.unusedSimpArgs false
/-! ## What solves an equation -/
abbrev W (x : Int) : Int := IntKind.i64.wrap x
theorem W_eq (x : Int) : IntKind.i64.wrap x = if x % 18446744073709551616 ≥ 9223372036854775808 then x % 18446744073709551616 - 18446744073709551616 else x % 18446744073709551616 := by
  simp [IntKind.wrap, IntKind.bits, IntKind.signed]
theorem W_add (x y : Int) : W (W x + W y) = W (x + y) := by
  simp only [W, W_eq]
  split <;> split <;> split <;> split <;> omega
theorem W_sub (x y : Int) : W (W x - W y) = W (x - y) := by
  simp only [W, W_eq]
  split <;> split <;> split <;> split <;> omega
theorem W_beq (x y : Int) : (W x == W y) = (W (x - y) == 0) := by
  have : (W x = W y) ↔ (W (x - y) = 0) := by
    simp only [W, W_eq]
    split <;> split <;> split <;> omega
  rw [Bool.eq_iff_iff]; simpa using this
def dotS (a x : List Int) (o : Nat) : Nat → Nat → Int
  | _, 0 => 0
  | i, k + 1 => iAt a i * iAt x (o + i) + dotS a x o (i + 1) k
def stepT7 (a x : List Int) (o : Nat) (t : Int) (i : Nat) : Int ⊕ Unit := .inl (W (t + W (iAt a i * iAt x (o + i))))
def stepM7 (a x : List Int) (o : Nat) (t : Int) (i : Nat) : Int ⊕ Unit := .inl (W (t - W (iAt a i * iAt x (o + i))))
theorem runT7 (a x : List Int) (o : Nat) : ∀ (k i : Nat) (d : Int), runN (stepT7 a x o) k (W d) i = .inl (W (d + dotS a x o i k))
  | 0, i, d => by simp [runN, dotS]
  | k + 1, i, d => by
    simp only [runN, stepT7, W_add, dotS]
    rw [runT7 a x o k (i + 1) _]
    congr 2; omega
theorem runM7 (a x : List Int) (o : Nat) : ∀ (k i : Nat) (d : Int), runN (stepM7 a x o) k (W d) i = .inl (W (d - dotS a x o i k))
  | 0, i, d => by simp [runN, dotS]
  | k + 1, i, d => by
    simp only [runN, stepM7, W_sub, dotS]
    rw [runM7 a x o k (i + 1) _]
    congr 2; omega
theorem W_zero : W 0 = 0 := rfl
theorem total_eq (a x : List Int) (o : Nat) (ha : a.length ≤ 1099511627776) (hx : x.length ≤ 2199023255552) (h : o + a.length ≤ x.length) : callX XV 48 [.d (is a), .d (is x), .d (.int .i64 o)] [] = some (.d (.int .i64 (W (dotS a x o 0 a.length))), []) := by
  rw [z_call XV _ _ _ v48 rfl xcode_48 rfl]
  have hloop := loopX_upto (X := XV) (T := []) (L := 0) (live := [0, 1, 2, 7, 8]) (b := b48_0) (n := a.length) (γ := Unit) (st := fun (t : Int) i => ⟨[(0, .d (is a)), (1, .d (is x)), (2, .d (.int .i64 o)), (7, .d (.int .i64 t)), (8, .d (.int .i64 i))], []⟩) (step := stepT7 a x o)
    (F := fun t => (.exit 0, ⟨[(0, .d (is a)), (1, .d (is x)), (2, .d (.int .i64 o)), (7, .d (.int .i64 t)), (8, .d (.int .i64 a.length)), (12, .d (.bool false))], []⟩)) (R := fun _ => (.ret, ⟨[], []⟩))
    (fun _ => ⟨by simp, by simp [b48_0, r48_0, r48_1, r48_2, r48_3, d48_5, r48_4, r48_6]⟩)
    (fun t i hi => by
      have hw := wrap_succ (n := i) (by omega)
      have hw2 : IntKind.i64.wrap ((o : Int) + i) = (o : Int) + i := wrap_i64 (by omega) (by omega)
      have hp : (0 : Int) ≤ (o : Int) + i := by omega
      have ht : ((o : Int) + i).toNat = o + i := by omega
      have hx3 : (o : Int) + i < x.length := by omega
      have hx2 : o + i < x.length := by omega
      exact ⟨_, by simp [b48_0, r48_0, r48_1, r48_2, r48_3, d48_5, r48_4, r48_6, hi, hw, hw2, hp, ht, hx2, hx3, cut, iAt_lt hi, iAt_lt hx2]; rfl, by simp [xheadOf, safeRegs]⟩)
    a.length 0 0 ⟨[(0, .d (is a)), (1, .d (is x)), (2, .d (.int .i64 o)), (7, .d (.int .i64 0)), (8, .d (.int .i64 0))], []⟩ (by omega) (by simp [xheadOf, safeRegs])
  have hr := runT7 a x o a.length 0 0
  rw [W_zero, Int.zero_add] at hr
  rw [hr] at hloop
  simp [v48, r48_0, r48_1, r48_2, r48_3, d48_5, r48_4, r48_6]
  rw [hloop]
  simp [v48, r48_0, r48_1, r48_2, r48_3, d48_5, r48_4, r48_6]
def negAt (x : List Int) (i : Nat) : Bool := decide (iAt x i < 0)
def solvesB (a b x : List Int) : Bool :=
  decide (x.length = a.length + b.length) && ((findAt (negAt x) x.length 0).isNone && (W (dotS a x 0 0 a.length) == W (dotS b x a.length 0 b.length)))
theorem neg1_eq (n : Int) : callX XV 46 [.d (.int .i64 n)] [] = some (.d (.bool (decide (n < 0))), []) := by
  rw [z_call XV _ _ _ v46 rfl xcode_46 rfl]
  simp [v46, r46_0, r46_1]
theorem indexNeg_eq (l : List Int) (hl : l.length ≤ 1099511627776) : callX XV 47 [.d (is l), .fn 46 []] [] = some (.d (.int .i64 (orNeg (findAt (negAt l) l.length 0))), []) := by
  rw [z_call XV _ _ _ v47 rfl xcode_47 rfl]
  have h := loopX_upto (X := XV) (T := XV.lin 47) (L := 0) (live := [0, 1, 7, 8]) (b := b47_0) (n := l.length) (γ := Nat) (st := fun (_ : Unit) i => ⟨[(0, .d (is l)), (1, .fn 46 []), (7, .d (.int .i64 l.length)), (8, .d (.int .i64 i))], []⟩) (step := stepF (negAt l))
    (F := fun _ => (.exit 0, ⟨[(0, .d (is l)), (1, .fn 46 []), (7, .d (.int .i64 l.length)), (8, .d (.int .i64 l.length)), (9, .d (.bool false))], []⟩)) (R := fun (j : Nat) => (.ret, ⟨[(4, .d (.int .i64 j))], []⟩))
    (fun _ => ⟨by simp, by simp [b47_0, r47_0, r47_1, r47_2, r47_3, r47_4, r47_5, r47_6, r47_7]⟩)
    (fun _ i hi => by
      have hw := wrap_succ (n := i) (by omega)
      have hc := neg1_eq (iAt l i)
      unfold stepF negAt
      by_cases hn : iAt l i < 0
      · simp only [hn, decide_true, if_true] at hc ⊢
        exact ⟨by simp, by simp [b47_0, r47_0, r47_1, r47_2, r47_3, r47_4, r47_5, r47_6, r47_7, hi, hw, cut, iAt_lt hi, hc]⟩
      · simp only [hn, decide_false] at hc ⊢
        exact ⟨_, by simp [b47_0, r47_0, r47_1, r47_2, r47_3, r47_4, r47_5, r47_6, r47_7, hi, hw, cut, iAt_lt hi, hc]; rfl, by simp [xheadOf, safeRegs]⟩)
    l.length () 0 ⟨[(0, .d (is l)), (1, .fn 46 []), (7, .d (.int .i64 l.length)), (8, .d (.int .i64 0))], []⟩ (by omega) (by simp [xheadOf, safeRegs])
  rw [runF] at h
  simp only [lin_47] at h
  simp [v47, r47_0, r47_1, r47_2, r47_3, r47_4, r47_5, r47_6, r47_7]
  rw [h]
  cases hq : findAt (negAt l) l.length 0 <;> simp [orNeg, v47, r47_0, r47_1, r47_2, r47_3, r47_4, r47_5, r47_6, r47_7]
theorem containsNeg_eq (l : List Int) (hl : l.length ≤ 1099511627776) : callX XV 45 [.d (is l), .fn 46 []] [] = some (.d (.bool (!(findAt (negAt l) l.length 0).isNone)), []) := by
  rw [z_call XV _ _ _ v45 rfl xcode_45 rfl]
  have h := indexNeg_eq l hl
  cases hq : findAt (negAt l) l.length 0 with
  | none => rw [hq] at h; simp [v45, r45_0, r45_1, h, orNeg]
  | some j => rw [hq] at h; simp [v45, r45_0, r45_1, h, orNeg]
theorem implSolves_eq (a b x : List Int) (ha : a.length ≤ 1099511627776) (hb : b.length ≤ 1099511627776) (hx : x.length ≤ 1099511627776) : callX XV 43 [.d (is a), .d (is b), .d (is x)] [] = some (.d (.bool (solvesB a b x)), []) := by
  rw [z_call XV _ _ _ v43 rfl xcode_43 rfl]
  have hw : IntKind.i64.wrap ((a.length : Int) + b.length) = (a.length : Int) + b.length := wrap_i64 (by omega) (by omega)
  unfold solvesB
  by_cases c : x.length = a.length + b.length
  case neg =>
    have c' : ((x.length : Int) != (a.length : Int) + b.length) = true := by simp; omega
    simp [v43, r43_0, r43_1, r43_2, r43_3, r43_4, r43_5, r43_6, r43_7, r43_8, r43_9, r43_10, r43_11, r43_12, r43_13, r43_14, hw, c, c']
  have c' : ((x.length : Int) != (a.length : Int) + b.length) = false := by simp; omega
  have hn := containsNeg_eq x hx
  cases hq : findAt (negAt x) x.length 0 with
  | some j =>
    rw [hq] at hn
    simp [v43, r43_0, r43_1, r43_2, r43_3, r43_4, r43_5, r43_6, r43_7, r43_8, r43_9, r43_10, r43_11, r43_12, r43_13, r43_14, hw, c, c', hn]
  | none =>
    rw [hq] at hn
    have l1 := loopX_upto (X := XV) (T := XV.lin 43) (L := 0) (live := [0, 1, 2, 7, 24, 25, 26]) (b := b43_0) (n := a.length) (γ := Unit) (st := fun (t : Int) i => ⟨[(0, .d (is a)), (1, .d (is b)), (2, .d (is x)), (7, .d (.int .i64 t)), (24, .d (is a)), (25, .d (.int .i64 a.length)), (26, .d (.int .i64 i))], []⟩) (step := stepT7 a x 0)
      (F := fun t => (.exit 0, ⟨[(0, .d (is a)), (1, .d (is b)), (2, .d (is x)), (7, .d (.int .i64 t)), (24, .d (is a)), (25, .d (.int .i64 a.length)), (26, .d (.int .i64 a.length)), (27, .d (.bool false))], []⟩)) (R := fun _ => (.ret, ⟨[], []⟩))
      (fun _ => ⟨by simp, by simp [b43_0, r43_0, r43_1, r43_2, r43_3, r43_4, r43_5, r43_6, r43_7, r43_8, r43_9, r43_10, r43_11, r43_12, r43_13, r43_14]⟩)
      (fun t i hi => by
        have hw := wrap_succ (n := i) (by omega)
        have hx2 : i < x.length := by omega
        exact ⟨_, by simp [b43_0, r43_0, r43_1, r43_2, r43_3, r43_4, r43_5, r43_6, r43_7, r43_8, r43_9, r43_10, r43_11, r43_12, r43_13, r43_14, hi, hw, hx2, cut, iAt_lt hi, iAt_lt hx2]; rfl, by simp [xheadOf, safeRegs]⟩)
      a.length 0 0 ⟨[(0, .d (is a)), (1, .d (is b)), (2, .d (is x)), (7, .d (.int .i64 0)), (24, .d (is a)), (25, .d (.int .i64 a.length)), (26, .d (.int .i64 0))], []⟩ (by omega) (by simp [xheadOf, safeRegs])
    have hr := runT7 a x 0 a.length 0 0
    rw [W_zero, Int.zero_add] at hr
    rw [hr] at l1
    have l2 := loopX_upto (X := XV) (T := XV.lin 43) (L := 0) (live := [0, 2, 7, 40, 41, 42]) (b := b43_1) (n := b.length) (γ := Unit) (st := fun (t : Int) i => ⟨[(0, .d (is a)), (2, .d (is x)), (7, .d (.int .i64 t)), (40, .d (is b)), (41, .d (.int .i64 b.length)), (42, .d (.int .i64 i))], []⟩) (step := stepM7 b x a.length)
      (F := fun t => (.exit 2, ⟨[(0, .d (is a)), (2, .d (is x)), (7, .d (.int .i64 t)), (40, .d (is b)), (41, .d (.int .i64 b.length)), (42, .d (.int .i64 b.length)), (43, .d (.bool false))], []⟩)) (R := fun _ => (.ret, ⟨[], []⟩))
      (fun _ => ⟨by simp, by simp [b43_1, r43_0, r43_1, r43_2, r43_3, r43_4, r43_5, r43_6, r43_7, r43_8, r43_9, r43_10, r43_11, r43_12, r43_13, r43_14]⟩)
      (fun t i hi => by
        have hw := wrap_succ (n := i) (by omega)
        have hw2 : IntKind.i64.wrap ((a.length : Int) + i) = (a.length : Int) + i := wrap_i64 (by omega) (by omega)
        have hp : (0 : Int) ≤ (a.length : Int) + i := by omega
        have ht : ((a.length : Int) + i).toNat = a.length + i := by omega
        have hx2 : a.length + i < x.length := by omega
        have hx3 : (a.length : Int) + i < x.length := by omega
        exact ⟨_, by simp [b43_1, r43_0, r43_1, r43_2, r43_3, r43_4, r43_5, r43_6, r43_7, r43_8, r43_9, r43_10, r43_11, r43_12, r43_13, r43_14, hi, hw, hw2, hp, ht, hx2, hx3, cut, iAt_lt hi, iAt_lt hx2]; rfl, by simp [xheadOf, safeRegs]⟩)
      b.length (W (dotS a x 0 0 a.length)) 0 ⟨[(0, .d (is a)), (2, .d (is x)), (7, .d (.int .i64 (W (dotS a x 0 0 a.length)))), (40, .d (is b)), (41, .d (.int .i64 b.length)), (42, .d (.int .i64 0))], []⟩ (by omega) (by simp [xheadOf, safeRegs])
    rw [runM7] at l2
    simp only [lin_43] at l1 l2
    rw [W_beq]
    simp [v43, r43_0, r43_1, r43_2, r43_3, r43_4, hw, c', hn]
    rw [l1]
    simp [v43, r43_0, r43_1, r43_2, r43_3, r43_4, r43_5, r43_6, r43_7, r43_8, r43_9, r43_10, r43_11, r43_12, r43_13, r43_14]
    rw [l2]
    simp [v43, r43_0, r43_1, r43_2, r43_3, r43_4, r43_5, r43_6, r43_7, r43_8, r43_9, r43_10, r43_11, r43_12, r43_13, r43_14, c]
end Go.Proofs.Ytficfeekkljoeaa.VS
namespace Go.Proofs.Ytficfeekkljoeaa.VS
set_option linter.unusedVariables false
set_option linter.unusedSimpArgs false
/-! ## The greatest of some numbers; small numbers; which row is less -/
def stepMx (l : List Int) (m : Int) (i : Nat) : Int ⊕ Unit := .inl (if iAt l i > m then iAt l i else m)
def mxF (l : List Int) : Nat → Nat → Int → Int
  | _, 0, m => m
  | i, k + 1, m => mxF l (i + 1) k (if iAt l i > m then iAt l i else m)
theorem runMx (l : List Int) : ∀ (k i : Nat) (m : Int), runN (stepMx l) k m i = .inl (mxF l i k m)
  | 0, i, m => rfl
  | k + 1, i, m => by simp only [runN, stepMx, mxF]; exact runMx l k (i + 1) _
def maxL (l : List Int) : Int := mxF l 1 (l.length - 1) (iAt l 0)
def topL (l : List Int) : Int := mxF l 0 l.length 0
theorem max_eq (l : List Int) (hl : l.length ≤ 1099511627776) (h0 : 0 < l.length) : callX XV 223 [.d (is l)] [] = some (.d (.int .i64 (maxL l)), []) := by
  rw [z_call XV _ _ _ v223 rfl xcode_223 rfl]
  have h := loopX_upto (X := XV) (T := XV.lin 223) (L := 0) (live := [0, 3, 4]) (b := b223_0) (n := l.length) (γ := Unit) (st := fun (m : Int) i => ⟨[(0, .d (is l)), (3, .d (.int .i64 m)), (4, .d (.int .i64 i))], []⟩) (step := stepMx l)
    (F := fun m => (.exit 0, ⟨[(0, .d (is l)), (3, .d (.int .i64 m)), (4, .d (.int .i64 l.length)), (15, .d (.bool false))], []⟩)) (R := fun _ => (.ret, ⟨[], []⟩))
    (fun _ => ⟨by simp, by simp [b223_0, r223_0, r223_1, r223_2, r223_3, r223_4, r223_5, r223_7, r223_6, r223_8]⟩)
    (fun m i hi => by
      have hw := wrap_succ (n := i) (by omega)
      exact ⟨_, by simp [b223_0, r223_0, r223_1, r223_2, r223_3, r223_4, r223_5, r223_7, r223_6, r223_8, hi, hw, cut, iAt_lt hi]; rfl, by simp [xheadOf, safeRegs]⟩)
    (l.length - 1) (iAt l 0) 1 ⟨[(0, .d (is l)), (3, .d (.int .i64 (iAt l 0))), (4, .d (.int .i64 1))], []⟩ (by omega) (by simp [xheadOf, safeRegs])
  rw [runMx] at h
  simp only [lin_223] at h
  have h1 : ¬ ((l.length : Int) < 1) := by omega
  have h2 : (0 : Int) < l.length := by omega
  simp [v223, r223_0, r223_1, r223_2, r223_3, r223_4, r223_5, r223_7, r223_6, r223_8, h1, h0, h2, cut, iAt_lt h0]
  rw [h]
  simp [v223, r223_0, r223_1, r223_2, r223_3, r223_4, r223_5, r223_7, r223_6, r223_8, maxL]
theorem l1Max_eq (x y : Int) : callX XV 221 [.d (.int .i64 x), .d (.int .i64 y)] [] = some (.d (.int .i64 (if y > x then y else x)), []) := by
  rw [z_call XV _ _ _ v221 rfl xcode_221 rfl]
  by_cases h : x > y
  · rw [if_neg (by omega)]
    have : y < x := h
    simp [v221, r221_0, r221_1, r221_2, r221_3, this]
  · have h' : ¬ y < x := h
    simp [v221, r221_0, r221_1, r221_2, r221_3, h']
    intro; omega
theorem top_eq (l : List Int) (hl : l.length ≤ 1099511627776) : callX XV 219 [.d (is l)] [] = some (.d (.int .i64 (topL l)), []) := by
  rw [z_call XV _ _ _ v219 rfl xcode_219 rfl]
  have h := loopX_upto (X := XV) (T := XV.lin 219) (L := 0) (live := [0, 3, 4]) (b := b219_0) (n := l.length) (γ := Unit) (st := fun (m : Int) i => ⟨[(0, .d (is l)), (3, .d (.int .i64 m)), (4, .d (.int .i64 i))], []⟩) (step := stepMx l)
    (F := fun m => (.exit 0, ⟨[(0, .d (is l)), (3, .d (.int .i64 m)), (4, .d (.int .i64 l.length)), (8, .d (.bool false))], []⟩)) (R := fun _ => (.ret, ⟨[], []⟩))
    (fun _ => ⟨by simp, by simp [b219_0, r219_0, r219_1, r219_2, r219_3, r219_5, r219_4, r219_6]⟩)
    (fun m i hi => by
      have hw := wrap_succ (n := i) (by omega)
      have hc := l1Max_eq m (iAt l i)
      exact ⟨_, by simp [b219_0, r219_0, r219_1, r219_2, r219_3, r219_5, r219_4, r219_6, hi, hw, cut, iAt_lt hi, hc]; rfl, by simp [xheadOf, safeRegs]⟩)
    l.length 0 0 ⟨[(0, .d (is l)), (3, .d (.int .i64 0)), (4, .d (.int .i64 0))], []⟩ (by omega) (by simp [xheadOf, safeRegs])
  rw [runMx] at h
  simp only [lin_219] at h
  simp [v219, r219_0, r219_1, r219_2, r219_3, r219_5, r219_4, r219_6]
  rw [h]
  simp [v219, r219_0, r219_1, r219_2, r219_3, r219_5, r219_4, r219_6, topL]
/-- A place of a number that is not in 1..4. -/
def offAt (l : List Int) (i : Nat) : Bool := !inB (iAt l i) 1 4
def fineB (l : List Int) : Bool := (findAt (offAt l) l.length 0).isNone && inB l.length 1 5
theorem off1_eq (n : Int) : callX XV 230 [.d (.int .i64 n)] [] = some (.d (.bool (!inB n 1 4)), []) := by
  rw [z_call XV _ _ _ v230 rfl xcode_230 rfl]
  have h := from_eq n 1 4
  simp [v230, r230_0, r230_1, h]
theorem indexOff_eq (l : List Int) (hl : l.length ≤ 1099511627776) : callX XV 47 [.d (is l), .fn 230 []] [] = some (.d (.int .i64 (orNeg (findAt (offAt l) l.length 0))), []) := by
  rw [z_call XV _ _ _ v47 rfl xcode_47 rfl]
  have h := loopX_upto (X := XV) (T := XV.lin 47) (L := 0) (live := [0, 1, 7, 8]) (b := b47_0) (n := l.length) (γ := Nat) (st := fun (_ : Unit) i => ⟨[(0, .d (is l)), (1, .fn 230 []), (7, .d (.int .i64 l.length)), (8, .d (.int .i64 i))], []⟩) (step := stepF (offAt l))
    (F := fun _ => (.exit 0, ⟨[(0, .d (is l)), (1, .fn 230 []), (7, .d (.int .i64 l.length)), (8, .d (.int .i64 l.length)), (9, .d (.bool false))], []⟩)) (R := fun (j : Nat) => (.ret, ⟨[(4, .d (.int .i64 j))], []⟩))
    (fun _ => ⟨by simp, by simp [b47_0, r47_0, r47_1, r47_2, r47_3, r47_4, r47_5, r47_6, r47_7]⟩)
    (fun _ i hi => by
      have hw := wrap_succ (n := i) (by omega)
      have hc := off1_eq (iAt l i)
      unfold stepF offAt
      cases hn : inB (iAt l i) 1 4 with
      | false =>
        rw [hn] at hc
        simp only [Bool.not_false, if_true] at hc ⊢
        exact ⟨by simp, by simp [b47_0, r47_0, r47_1, r47_2, r47_3, r47_4, r47_5, r47_6, r47_7, hi, hw, cut, iAt_lt hi, hc]⟩
      | true =>
        rw [hn] at hc
        simp only [Bool.not_true] at hc ⊢
        exact ⟨_, by simp [b47_0, r47_0, r47_1, r47_2, r47_3, r47_4, r47_5, r47_6, r47_7, hi, hw, cut, iAt_lt hi, hc]; rfl, by simp [xheadOf, safeRegs]⟩)
    l.length () 0 ⟨[(0, .d (is l)), (1, .fn 230 []), (7, .d (.int .i64 l.length)), (8, .d (.int .i64 0))], []⟩ (by omega) (by simp [xheadOf, safeRegs])
  rw [runF] at h
  simp only [lin_47] at h
  simp [v47, r47_0, r47_1, r47_2, r47_3, r47_4, r47_5, r47_6, r47_7]
  rw [h]
  cases hq : findAt (offAt l) l.length 0 <;> simp [orNeg, v47, r47_0, r47_1, r47_2, r47_3, r47_4, r47_5, r47_6, r47_7]
theorem containsOff_eq (l : List Int) (hl : l.length ≤ 1099511627776) : callX XV 45 [.d (is l), .fn 230 []] [] = some (.d (.bool (!(findAt (offAt l) l.length 0).isNone)), []) := by
  rw [z_call XV _ _ _ v45 rfl xcode_45 rfl]
  have h := indexOff_eq l hl
  cases hq : findAt (offAt l) l.length 0 with
  | none => rw [hq] at h; simp [v45, r45_0, r45_1, h, orNeg]
  | some j => rw [hq] at h; simp [v45, r45_0, r45_1, h, orNeg]
theorem small_eq (l : List Int) (hl : l.length ≤ 1099511627776) : callX XV 222 [.d (is l)] [] = some (.d (.bool (fineB l)), []) := by
  rw [z_call XV _ _ _ v222 rfl xcode_222 rfl]
  have h1 := from_eq (l.length : Int) 1 5
  have h2 := containsOff_eq l hl
  unfold fineB
  cases hq : inB (l.length : Int) 1 5 with
  | false => rw [hq] at h1; simp [v222, r222_0, r222_1, h1]
  | true => rw [hq] at h1; simp [v222, r222_0, r222_1, h1, h2]
theorem fine_eq (l : List Int) (hl : l.length ≤ 1099511627776) : callX XV 217 [.d (is l)] [] = some (.d (.bool (fineB l)), []) := by
  rw [z_call XV _ _ _ v217 rfl xcode_217 rfl]
  have h := loopX_upto (X := XV) (T := XV.lin 217) (L := 0) (live := [0, 3]) (b := b217_0) (n := l.length) (γ := Nat) (st := fun (_ : Unit) i => ⟨[(0, .d (is l)), (3, .d (.int .i64 i))], []⟩) (step := stepF (offAt l))
    (F := fun _ => (.exit 0, ⟨[(0, .d (is l)), (3, .d (.int .i64 l.length)), (7, .d (.bool false))], []⟩)) (R := fun (j : Nat) => (.ret, ⟨[(2, .d (.bool false))], []⟩))
    (fun _ => ⟨by simp, by simp [b217_0, r217_0, r217_1, r217_2, r217_4, r217_5, r217_3, r217_6]⟩)
    (fun _ i hi => by
      have hw := wrap_succ (n := i) (by omega)
      have hc := l1In_eq (iAt l i) 1 4
      unfold stepF offAt
      cases hn : inB (iAt l i) 1 4 with
      | false =>
        rw [hn] at hc
        simp only [Bool.not_false, if_true]
        exact ⟨by simp, by simp [b217_0, r217_0, r217_1, r217_2, r217_4, r217_5, r217_3, r217_6, hi, hw, cut, iAt_lt hi, hc]⟩
      | true =>
        rw [hn] at hc
        simp only [Bool.not_true]
        exact ⟨_, by simp [b217_0, r217_0, r217_1, r217_2, r217_4, r217_5, r217_3, r217_6, hi, hw, cut, iAt_lt hi, hc]; rfl, by simp [xheadOf, safeRegs]⟩)
    l.length () 0 ⟨[(0, .d (is l)), (3, .d (.int .i64 0))], []⟩ (by omega) (by simp [xheadOf, safeRegs])
  rw [runF] at h
  simp only [lin_217] at h
  have h1 := l1In_eq (l.length : Int) 1 5
  unfold fineB
  simp [v217, r217_0, r217_1, r217_2, r217_4, r217_5, r217_3, r217_6]
  rw [h]
  cases hq : findAt (offAt l) l.length 0 <;> simp [v217, r217_0, r217_1, r217_2, r217_4, r217_5, r217_3, r217_6, h1]
end Go.Proofs.Ytficfeekkljoeaa.VS
namespace Go.Proofs.Ytficfeekkljoeaa.VS
set_option linter.unusedVariables false
set_option linter.unusedSimpArgs false
/-! ## All lists of so many numbers that come to at most so much -/
def ways : Nat → Nat → List (List Int)
  | 0, _ => [[]]
  | n + 1, m => (List.range (m + 1)).flatMap fun k => (ways n (m - k)).map fun r => (k : Int) :: r
def waysTo (n m k : Nat) : List (List Int) := (List.range k).flatMap fun j => (ways n (m - j)).map fun r => (j : Int) :: r
theorem waysTo_succ (n m k : Nat) : waysTo n m (k + 1) = waysTo n m k ++ (ways n (m - k)).map fun r => (k : Int) :: r := by
  unfold waysTo; rw [List.range_succ, List.flatMap_append]; simp
theorem app_row (L : List (List Int)) (h g t : Tag) (r : List Int) (hl : (L.length + 1) * 24 ≤ 140737488355328) : xappend 1 24 (.sl U (L.map (ints h))) (.sl t [ints g r]) = some (.sl U (L.map (ints h) ++ [ints g r])) := by
  have h2 : ∀ x : DV, x ∈ L.map (ints h) → x.cells.length = 1 := fun x hx => (issEncs_ok h L x hx).1
  have h3 : (ints g r).cells = [ints g r] := rfl
  have h4 : (ints g r).isCell = true := rfl
  simp only [xappend, List.all_cons, List.all_nil, h3, h4, List.length_map, List.length_cons, List.length_nil]
  simp [hl]
theorem app_num (k : Int) (r : List Int) (g : Tag) (hr : r.length ≤ 1099511627776) : xappend 1 8 (.sl U [.int .i64 k]) (.sl g (r.map (.int .i64))) = some (.sl U ((k :: r).map (.int .i64))) := by
  have h : (1 + r.length) * 8 ≤ 140737488355328 := by omega
  simp only [xappend, List.length_map, List.length_cons, List.length_nil]
  cases r with
  | nil => simp
  | cons a b => simp [cells_int, isCell_int]; simp at h; omega
theorem ways_len : ∀ n m, n ≤ 5 → m ≤ 4 → (ways n m).length ≤ 126 := by
  have : ∀ n, n < 6 → ∀ m, m < 5 → (ways n m).length ≤ 126 := by decide +kernel
  intro n m h1 h2; exact this n (by omega) m (by omega)
theorem ways_row : ∀ (n m : Nat) (r : List Int), r ∈ ways n m → r.length = n
  | 0, m, r, h => by simp [ways] at h; subst h; rfl
  | n + 1, m, r, h => by
    simp only [ways, List.mem_flatMap, List.mem_map] at h
    obtain ⟨k, _, r', h', rfl⟩ := h
    simp [ways_row n _ r' h']
theorem waysTo_len (n m k : Nat) (hn : n ≤ 4) (hm : m ≤ 4) (hk : k ≤ m + 1) : (waysTo n m k).length ≤ 126 * k := by
  induction k with
  | zero => simp [waysTo]
  | succ k ih =>
    rw [waysTo_succ, List.length_append, List.length_map]
    have := ih (by omega)
    have := ways_len n (m - k) (by omega) (by omega)
    omega
def stepWi (k : Int) (rows : List (List Int)) (acc : List (List Int)) (i : Nat) : List (List Int) ⊕ Unit := .inl (acc ++ [k :: rAt rows i])
theorem runWi (k : Int) (rows : List (List Int)) : ∀ (j : Nat) (acc : List (List Int)), j ≤ rows.length → runN (stepWi k rows) j acc (rows.length - j) = .inl (acc ++ (rows.drop (rows.length - j)).map fun r => k :: r)
  | 0, acc, _ => by simp [runN]
  | j + 1, acc, h => by
    simp only [runN, stepWi]
    have hi : rows.length - (j + 1) < rows.length := by omega
    rw [show rows.length - (j + 1) + 1 = rows.length - j by omega, runWi k rows j _ (by omega), List.drop_eq_getElem_cons hi, rAt_lt hi]
    rw [show rows.length - (j + 1) + 1 = rows.length - j by omega]
    simp
def stepWo (n m : Nat) (acc : List (List Int)) (k : Nat) : List (List Int) ⊕ Unit := .inl (acc ++ (ways n (m - k)).map fun r => (k : Int) :: r)
theorem runWo (n m : Nat) : ∀ (j k : Nat), runN (stepWo n m) j (waysTo n m k) k = .inl (waysTo n m (k + j))
  | 0, k => rfl
  | j + 1, k => by
    simp only [runN, stepWo]
    rw [← waysTo_succ, runWo n m j (k + 1)]
    congr 2; omega
theorem sumsIn_eq (n m k : Nat) (rows acc : List (List Int)) (hr : rows.length ≤ 1000) (ha : acc.length ≤ 1000000) (hrl : ∀ i, i < rows.length → (rAt rows i).length ≤ 1000) :
    loopX XV (XV.lin 224) 0 [0, 1, 5, 6, 24, 25, 26] b224_1 ⟨[(0, .d (.int .i64 n)), (1, .d (.int .i64 m)), (5, .d (iss U acc)), (6, .d (.int .i64 k)), (24, .d (iss .sub rows)), (25, .d (.int .i64 rows.length)), (26, .d (.int .i64 0))], []⟩ =
      some (.exit 2, ⟨[(0, .d (.int .i64 n)), (1, .d (.int .i64 m)), (5, .d (iss U (acc ++ rows.map fun r => (k : Int) :: r))), (6, .d (.int .i64 k)), (24, .d (iss .sub rows)), (25, .d (.int .i64 rows.length)), (26, .d (.int .i64 rows.length)), (27, .d (.bool false))], []⟩) := by
  have h := loopX_inv (X := XV) (T := XV.lin 224) (L := 0) (live := [0, 1, 5, 6, 24, 25, 26]) (b := b224_1) (n := rows.length) (γ := Unit) (st := fun (A : List (List Int)) i => ⟨[(0, .d (.int .i64 n)), (1, .d (.int .i64 m)), (5, .d (iss U A)), (6, .d (.int .i64 k)), (24, .d (iss .sub rows)), (25, .d (.int .i64 rows.length)), (26, .d (.int .i64 i))], []⟩) (step := stepWi k rows)
    (F := fun A => (.exit 2, ⟨[(0, .d (.int .i64 n)), (1, .d (.int .i64 m)), (5, .d (iss U A)), (6, .d (.int .i64 k)), (24, .d (iss .sub rows)), (25, .d (.int .i64 rows.length)), (26, .d (.int .i64 rows.length)), (27, .d (.bool false))], []⟩)) (R := fun _ => (.ret, ⟨[], []⟩))
    (fun A i => A.length ≤ 1000000 + i)
    (fun A _ => ⟨by simp, by simp [b224_1, r224_0, r224_1, r224_2, r224_3, r224_4, r224_5, r224_7, r224_8, r224_9, r224_10, r224_11, r224_6, r224_12]⟩)
    (fun A i hi hinv => by
      have hw := wrap_succ (n := i) (by omega)
      have h1 := app_num k (rAt rows i) .sub (by have := hrl i hi; omega)
      have h2 : xappend 1 24 (iss U A) (.sl U [.sl U (.int .i64 (k : Int) :: (rAt rows i).map (.int .i64))]) = some (iss U (A ++ [(k : Int) :: rAt rows i])) := by
        have := app_row A U U U ((k : Int) :: rAt rows i) (by omega)
        rw [show iss U (A ++ [(k : Int) :: rAt rows i]) = .sl U (A.map (ints U) ++ [ints U ((k : Int) :: rAt rows i)]) by simp [iss]]
        exact this
      refine ⟨⟨_, by simp [b224_1, r224_0, r224_1, r224_2, r224_3, r224_4, r224_5, r224_7, r224_8, r224_9, r224_10, r224_11, r224_6, r224_12, hi, hw, cut, rAt_lt hi, h1, h2]; rfl, by simp [xheadOf, safeRegs]⟩, fun a' h => by simp [stepWi] at h; subst h; simp; omega⟩)
    rows.length acc 0 ⟨[(0, .d (.int .i64 n)), (1, .d (.int .i64 m)), (5, .d (iss U acc)), (6, .d (.int .i64 k)), (24, .d (iss .sub rows)), (25, .d (.int .i64 rows.length)), (26, .d (.int .i64 0))], []⟩ (by omega) (by omega) (by simp [xheadOf, safeRegs])
  have hr' := runWi k rows rows.length acc (Nat.le_refl _)
  rw [Nat.sub_self] at hr'
  rw [hr'] at h
  simpa using h
end Go.Proofs.Ytficfeekkljoeaa.VS
namespace Go.Proofs.Ytficfeekkljoeaa.VS
set_option linter.unusedVariables false
set_option linter.unusedSimpArgs false
/-! ## All lists of so many numbers, both -/
theorem waysIn_eq (n m k : Nat) (rows acc : List (List Int)) (hr : rows.length ≤ 1000) (ha : acc.length ≤ 1000000) (hrl : ∀ i, i < rows.length → (rAt rows i).length ≤ 1000) :
    loopX XV (XV.lin 220) 0 [0, 1, 5, 6, 7, 8] b220_1 ⟨[(0, .d (.int .i64 n)), (1, .d (.int .i64 m)), (5, .d (iss U acc)), (6, .d (.int .i64 k)), (7, .d (iss .sub rows)), (8, .d (.int .i64 0))], []⟩ =
      some (.exit 2, ⟨[(0, .d (.int .i64 n)), (1, .d (.int .i64 m)), (5, .d (iss U (acc ++ rows.map fun r => (k : Int) :: r))), (6, .d (.int .i64 k)), (7, .d (iss .sub rows)), (8, .d (.int .i64 rows.length)), (28, .d (.bool false))], []⟩) := by
  have h := loopX_inv (X := XV) (T := XV.lin 220) (L := 0) (live := [0, 1, 5, 6, 7, 8]) (b := b220_1) (n := rows.length) (γ := Unit) (st := fun (A : List (List Int)) i => ⟨[(0, .d (.int .i64 n)), (1, .d (.int .i64 m)), (5, .d (iss U A)), (6, .d (.int .i64 k)), (7, .d (iss .sub rows)), (8, .d (.int .i64 i))], []⟩) (step := stepWi k rows)
    (F := fun A => (.exit 2, ⟨[(0, .d (.int .i64 n)), (1, .d (.int .i64 m)), (5, .d (iss U A)), (6, .d (.int .i64 k)), (7, .d (iss .sub rows)), (8, .d (.int .i64 rows.length)), (28, .d (.bool false))], []⟩)) (R := fun _ => (.ret, ⟨[], []⟩))
    (fun A i => A.length ≤ 1000000 + i)
    (fun A _ => ⟨by simp, by simp [b220_1, r220_0, r220_1, r220_2, r220_3, r220_4, r220_5, r220_7, r220_8, r220_9, r220_11, r220_10, r220_6, r220_12]⟩)
    (fun A i hi hinv => by
      have hw := wrap_succ (n := i) (by omega)
      have h1 := app_num k (rAt rows i) .sub (by have := hrl i hi; omega)
      have h2 : xappend 1 24 (iss U A) (.sl U [.sl U (.int .i64 (k : Int) :: (rAt rows i).map (.int .i64))]) = some (iss U (A ++ [(k : Int) :: rAt rows i])) := by
        have := app_row A U U U ((k : Int) :: rAt rows i) (by omega)
        rw [show iss U (A ++ [(k : Int) :: rAt rows i]) = .sl U (A.map (ints U) ++ [ints U ((k : Int) :: rAt rows i)]) by simp [iss]]
        exact this
      refine ⟨⟨_, by simp [b220_1, r220_0, r220_1, r220_2, r220_3, r220_4, r220_5, r220_7, r220_8, r220_9, r220_11, r220_10, r220_6, r220_12, hi, hw, cut, rAt_lt hi, h1, h2]; rfl, by simp [xheadOf, safeRegs]⟩, fun a' h => by simp [stepWi] at h; subst h; simp; omega⟩)
    rows.length acc 0 ⟨[(0, .d (.int .i64 n)), (1, .d (.int .i64 m)), (5, .d (iss U acc)), (6, .d (.int .i64 k)), (7, .d (iss .sub rows)), (8, .d (.int .i64 0))], []⟩ (by omega) (by omega) (by simp [xheadOf, safeRegs])
  have hr' := runWi k rows rows.length acc (Nat.le_refl _)
  rw [Nat.sub_self] at hr'
  rw [hr'] at h
  simpa using h
theorem ways_rows (n m i : Nat) (hi : i < (ways n m).length) : (rAt (ways n m) i).length = n := by
  rw [← rAt_lt hi]; exact ways_row n m _ (List.getElem_mem hi)
theorem sums_eq : ∀ (n m : Nat), n ≤ 5 → m ≤ 4 → callX XV 224 [.d (.int .i64 n), .d (.int .i64 m)] [] = some (.d (iss U (ways n m)), [])
  | 0, m, _, _ => by
    rw [z_call XV _ _ _ v224 rfl xcode_224 rfl]
    simp [v224, r224_0, r224_1, r224_2, r224_3, r224_4, r224_5, r224_7, r224_8, r224_9, r224_10, r224_11, r224_6, r224_12, ways]
  | n + 1, m, hn, hm => by
    rw [z_call XV _ _ _ v224 rfl xcode_224 rfl]
    have h := loopX_inv (X := XV) (T := XV.lin 224) (L := 0) (live := [0, 1, 5, 6]) (b := b224_0) (n := m + 1) (γ := Unit) (st := fun (A : List (List Int)) k => ⟨[(0, .d (.int .i64 (n + 1 : Nat))), (1, .d (.int .i64 m)), (5, .d (iss U A)), (6, .d (.int .i64 k))], []⟩) (step := stepWo n m)
      (F := fun A => (.exit 0, ⟨[(0, .d (.int .i64 (n + 1 : Nat))), (1, .d (.int .i64 m)), (5, .d (iss U A)), (6, .d (.int .i64 (m + 1 : Nat))), (16, .d (.bool false))], []⟩)) (R := fun _ => (.ret, ⟨[], []⟩))
      (fun A k => A = waysTo n m k)
      (fun A _ => ⟨by simp, by
        have : ¬ ((m : Int) + 1 ≤ m) := by omega
        simp [b224_0, r224_0, r224_1, r224_2, r224_3, r224_4, r224_5, r224_7, r224_8, r224_9, r224_10, r224_11, r224_6, r224_12, this]⟩)
      (fun A k hk hinv => by
        subst hinv
        have hw := wrap_succ (n := k) (by omega)
        have hkm : (k : Int) ≤ m := by omega
        have hw1 : IntKind.i64.wrap ((m : Int) - k) = ((m - k : Nat) : Int) := by rw [wrap_i64 (by omega) (by omega)]; omega
        have hwn : IntKind.i64.wrap (n : Int) = n := wrap_i64 (by omega) (by omega)
        have ih := sums_eq n (m - k) (by omega) (by omega)
        have hW := waysTo_len n m k (by omega) hm (by omega)
        have hl := ways_len n (m - k) (by omega) (by omega)
        have hI := sumsIn_eq (n + 1) m k (ways n (m - k)) (waysTo n m k) (by omega) (by omega) (fun i hi => by rw [ways_rows n _ i hi]; omega)
        simp only [lin_224] at hI
        push_cast at hI
        refine ⟨⟨_, by simp [b224_0, r224_0, r224_1, r224_2, r224_3, r224_4, r224_5, r224_7, r224_8, r224_9, r224_10, r224_11, r224_6, r224_12, hw, hw1, hwn, hkm, ih, hI]; rfl, by simp [xheadOf, safeRegs]⟩, fun a' h => by simp [stepWo] at h; subst h; rw [waysTo_succ]⟩)
      (m + 1) (waysTo n m 0) 0 ⟨[(0, .d (.int .i64 (n + 1 : Nat))), (1, .d (.int .i64 m)), (5, .d (iss U (waysTo n m 0))), (6, .d (.int .i64 0))], []⟩ (by omega) rfl (by simp [xheadOf, safeRegs])
    have hr := runWo n m (m + 1) 0
    rw [hr] at h
    simp only [lin_224] at h
    have h0 : (((n : Int) + 1) == 0) = false := by simp; omega
    have hz : waysTo n m 0 = [] := rfl
    rw [hz] at h
    have hz2 : iss U ([] : List (List Int)) = DV.sl U [] := rfl
    rw [hz2] at h
    simp at h
    simp [v224, r224_0, r224_1, r224_2, r224_3, r224_4, r224_5, r224_7, r224_8, r224_9, r224_10, r224_11, r224_6, r224_12, h0]
    rw [h]
    simp [v224, r224_0, r224_1, r224_2, r224_3, r224_4, r224_5, r224_7, r224_8, r224_9, r224_10, r224_11, r224_6, r224_12, ways, waysTo]
theorem ways_eq : ∀ (n m : Nat), n ≤ 5 → m ≤ 4 → callX XV 220 [.d (.int .i64 n), .d (.int .i64 m)] [] = some (.d (iss U (ways n m)), [])
  | 0, m, _, _ => by
    rw [z_call XV _ _ _ v220 rfl xcode_220 rfl]
    simp [v220, r220_0, r220_1, r220_2, r220_3, r220_4, r220_5, r220_7, r220_8, r220_9, r220_11, r220_10, r220_6, r220_12, ways]
  | n + 1, m, hn, hm => by
    rw [z_call XV _ _ _ v220 rfl xcode_220 rfl]
    have h := loopX_inv (X := XV) (T := XV.lin 220) (L := 0) (live := [0, 1, 5, 6]) (b := b220_0) (n := m + 1) (γ := Unit) (st := fun (A : List (List Int)) k => ⟨[(0, .d (.int .i64 (n + 1 : Nat))), (1, .d (.int .i64 m)), (5, .d (iss U A)), (6, .d (.int .i64 k))], []⟩) (step := stepWo n m)
      (F := fun A => (.exit 0, ⟨[(0, .d (.int .i64 (n + 1 : Nat))), (1, .d (.int .i64 m)), (5, .d (iss U A)), (6, .d (.int .i64 (m + 1 : Nat))), (16, .d (.bool false))], []⟩)) (R := fun _ => (.ret, ⟨[], []⟩))
      (fun A k => A = waysTo n m k)
      (fun A _ => ⟨by simp, by
        have : ¬ ((m : Int) + 1 ≤ m) := by omega
        simp [b220_0, r220_0, r220_1, r220_2, r220_3, r220_4, r220_5, r220_7, r220_8, r220_9, r220_11, r220_10, r220_6, r220_12, this]⟩)
      (fun A k hk hinv => by
        subst hinv
        have hw := wrap_succ (n := k) (by omega)
        have hkm : (k : Int) ≤ m := by omega
        have hw1 : IntKind.i64.wrap ((m : Int) - k) = ((m - k : Nat) : Int) := by rw [wrap_i64 (by omega) (by omega)]; omega
        have hwn : IntKind.i64.wrap (n : Int) = n := wrap_i64 (by omega) (by omega)
        have ih := ways_eq n (m - k) (by omega) (by omega)
        have hW := waysTo_len n m k (by omega) hm (by omega)
        have hl := ways_len n (m - k) (by omega) (by omega)
        have hI := waysIn_eq (n + 1) m k (ways n (m - k)) (waysTo n m k) (by omega) (by omega) (fun i hi => by rw [ways_rows n _ i hi]; omega)
        simp only [lin_220] at hI
        push_cast at hI
        refine ⟨⟨_, by simp [b220_0, r220_0, r220_1, r220_2, r220_3, r220_4, r220_5, r220_7, r220_8, r220_9, r220_11, r220_10, r220_6, r220_12, hw, hw1, hwn, hkm, ih, hI]; rfl, by simp [xheadOf, safeRegs]⟩, fun a' h => by simp [stepWo] at h; subst h; rw [waysTo_succ]⟩)
      (m + 1) (waysTo n m 0) 0 ⟨[(0, .d (.int .i64 (n + 1 : Nat))), (1, .d (.int .i64 m)), (5, .d (iss U (waysTo n m 0))), (6, .d (.int .i64 0))], []⟩ (by omega) rfl (by simp [xheadOf, safeRegs])
    have hr := runWo n m (m + 1) 0
    rw [hr] at h
    simp only [lin_220] at h
    have h0 : (((n : Int) + 1) == 0) = false := by simp; omega
    have hz : waysTo n m 0 = [] := rfl
    rw [hz] at h
    have hz2 : iss U ([] : List (List Int)) = DV.sl U [] := rfl
    rw [hz2] at h
    simp at h
    simp [v220, r220_0, r220_1, r220_2, r220_3, r220_4, r220_5, r220_7, r220_8, r220_9, r220_11, r220_10, r220_6, r220_12, h0]
    rw [h]
    simp [v220, r220_0, r220_1, r220_2, r220_3, r220_4, r220_5, r220_7, r220_8, r220_9, r220_11, r220_10, r220_6, r220_12, ways, waysTo]
end Go.Proofs.Ytficfeekkljoeaa.VS
namespace Go.Proofs.Ytficfeekkljoeaa.VS
set_option linter.unusedVariables false
set_option linter.unusedSimpArgs false
/-! ## Which of two rows of one length is less, both -/
def stepLe (x y : List Int) (b : Bool) (i : Nat) : Bool ⊕ Unit := if iAt y i < iAt x i then .inr () else .inl (b || decide (iAt x i < iAt y i))
def leastB (x y : List Int) : Bool := match runN (stepLe x y) x.length false 0 with | .inl b => b | .inr _ => false
theorem implLeast_eq (x y : List Int) (hx : x.length ≤ 1099511627776) (hxy : x.length = y.length) : callX XV 51 [.d (is x), .d (is y)] [] = some (.d (.bool (leastB x y)), []) := by
  rw [z_call XV _ _ _ v51 rfl xcode_51 rfl]
  have h := loopX_upto (X := XV) (T := XV.lin 51) (L := 0) (live := [0, 1, 5, 13, 14]) (b := b51_0) (n := x.length) (γ := Unit) (st := fun (b : Bool) i => ⟨[(0, .d (is x)), (1, .d (is y)), (5, .d (.bool b)), (13, .d (.int .i64 x.length)), (14, .d (.int .i64 i))], []⟩) (step := stepLe x y)
    (F := fun b => (.exit 0, ⟨[(0, .d (is x)), (1, .d (is y)), (5, .d (.bool b)), (13, .d (.int .i64 x.length)), (14, .d (.int .i64 x.length)), (15, .d (.bool false))], []⟩)) (R := fun _ => (.ret, ⟨[(4, .d (.bool false))], []⟩))
    (fun _ => ⟨by simp, by simp [b51_0, r51_0, r51_1, r51_2, r51_3, r51_4, r51_5, r51_6, d51_7, r51_8, d51_9, r51_10, r51_11]⟩)
    (fun b i hi => by
      have hw := wrap_succ (n := i) (by omega)
      have hi2 : i < y.length := by omega
      unfold stepLe
      by_cases h1 : iAt y i < iAt x i
      · simp only [h1, if_true]
        exact ⟨by simp, by simp [b51_0, r51_0, r51_1, r51_2, r51_3, r51_4, r51_5, r51_6, d51_7, r51_8, d51_9, r51_10, r51_11, hi, hi2, hw, cut, iAt_lt hi, iAt_lt hi2, h1]⟩
      · simp only [h1, if_false]
        cases b with
        | true => exact ⟨_, by simp [b51_0, r51_0, r51_1, r51_2, r51_3, r51_4, r51_5, r51_6, d51_7, r51_8, d51_9, r51_10, r51_11, hi, hi2, hw, cut, iAt_lt hi, iAt_lt hi2, h1]; rfl, by simp [xheadOf, safeRegs]⟩
        | false => exact ⟨_, by simp [b51_0, r51_0, r51_1, r51_2, r51_3, r51_4, r51_5, r51_6, d51_7, r51_8, d51_9, r51_10, r51_11, hi, hi2, hw, cut, iAt_lt hi, iAt_lt hi2, h1]; rfl, by simp [xheadOf, safeRegs]⟩)
    x.length false 0 ⟨[(0, .d (is x)), (1, .d (is y)), (5, .d (.bool false)), (13, .d (.int .i64 x.length)), (14, .d (.int .i64 0))], []⟩ (by omega) (by simp [xheadOf, safeRegs])
  simp only [lin_51] at h
  unfold leastB
  have hne : ((x.length : Int) != y.length) = false := by simp; omega
  simp [v51, r51_0, r51_1, r51_2, r51_3, r51_4, r51_5, r51_6, d51_7, r51_8, d51_9, r51_10, r51_11, hne]
  rw [h]
  cases runN (stepLe x y) x.length false 0 <;> simp [v51, r51_0, r51_1, r51_2, r51_3, r51_4, r51_5, r51_6, d51_7, r51_8, d51_9, r51_10, r51_11]
theorem specLeast_eq (x y : List Int) (hx : x.length ≤ 1099511627776) (hxy : x.length = y.length) : callX XV 50 [.d (is x), .d (is y)] [] = some (.d (.bool (leastB x y)), []) := by
  rw [z_call XV _ _ _ v50 rfl xcode_50 rfl]
  have h := loopX_upto (X := XV) (T := XV.lin 50) (L := 0) (live := [0, 1, 5, 6]) (b := b50_0) (n := x.length) (γ := Unit) (st := fun (b : Bool) i => ⟨[(0, .d (is x)), (1, .d (is y)), (5, .d (.bool b)), (6, .d (.int .i64 i))], []⟩) (step := stepLe x y)
    (F := fun b => (.exit 0, ⟨[(0, .d (is x)), (1, .d (is y)), (5, .d (.bool b)), (6, .d (.int .i64 x.length)), (16, .d (.bool false))], []⟩)) (R := fun _ => (.ret, ⟨[(4, .d (.bool false))], []⟩))
    (fun _ => ⟨by simp, by simp [b50_0, r50_0, r50_1, r50_2, r50_3, d50_5, r50_6, d50_7, r50_4, r50_8]⟩)
    (fun b i hi => by
      have hw := wrap_succ (n := i) (by omega)
      have hi2 : i < y.length := by omega
      unfold stepLe
      by_cases h1 : iAt y i < iAt x i
      · simp only [h1, if_true]
        exact ⟨by simp, by simp [b50_0, r50_0, r50_1, r50_2, r50_3, d50_5, r50_6, d50_7, r50_4, r50_8, hi, hi2, hw, cut, iAt_lt hi, iAt_lt hi2, h1]⟩
      · simp only [h1, if_false]
        cases b with
        | true => exact ⟨_, by simp [b50_0, r50_0, r50_1, r50_2, r50_3, d50_5, r50_6, d50_7, r50_4, r50_8, hi, hi2, hw, cut, iAt_lt hi, iAt_lt hi2, h1]; rfl, by simp [xheadOf, safeRegs]⟩
        | false => exact ⟨_, by simp [b50_0, r50_0, r50_1, r50_2, r50_3, d50_5, r50_6, d50_7, r50_4, r50_8, hi, hi2, hw, cut, iAt_lt hi, iAt_lt hi2, h1]; rfl, by simp [xheadOf, safeRegs]⟩)
    x.length false 0 ⟨[(0, .d (is x)), (1, .d (is y)), (5, .d (.bool false)), (6, .d (.int .i64 0))], []⟩ (by omega) (by simp [xheadOf, safeRegs])
  simp only [lin_50] at h
  unfold leastB
  have hne : ((x.length : Int) == y.length) = true := by simp; omega
  simp [v50, r50_0, r50_1, r50_2, r50_3, d50_5, r50_6, d50_7, r50_4, r50_8]
  rw [h]
  cases hq : runN (stepLe x y) x.length false 0 with
  | inr u => simp [v50, r50_0, r50_1, r50_2, r50_3, d50_5, r50_6, d50_7, r50_4, r50_8]
  | inl b => cases b <;> simp [v50, r50_0, r50_1, r50_2, r50_3, d50_5, r50_6, d50_7, r50_4, r50_8, hne]
end Go.Proofs.Ytficfeekkljoeaa.VS
namespace Go.Proofs.Ytficfeekkljoeaa.VS
set_option linter.unusedVariables false
set_option linter.unusedSimpArgs false
/-! ## Is one of some rows less than a row? -/
theorem lessThan_eq (g : Tag) (y z : List Int) (hy : y.length ≤ 1099511627776) (hyz : y.length = z.length) : callX XV 226 [.d (is y), .ptr 0 0] [some [.d (.sl g (z.map (.int .i64)))]] = some (.d (.bool (leastB y z)), [some [.d (.sl g (z.map (.int .i64)))]]) := by
  rw [z_call XV _ _ _ v226 rfl xcode_226 rfl]
  have h := implLeast_eq y z hy hyz
  simp [v226, r226_0, r226_1, h, loadBox]
def hasLess (rows : List (List Int)) (z : List Int) (i : Nat) : Bool := leastB (rAt rows i) z
def leastIn (rows : List (List Int)) (z : List Int) : Bool := (findAt (hasLess rows z) rows.length 0).isNone
theorem indexLess_eq (g : Tag) (rows : List (List Int)) (z : List Int) (hr : rows.length ≤ 1099511627776) (hz : z.length ≤ 1099511627776) (hl : ∀ i, i < rows.length → (rAt rows i).length = z.length) :
    callX XV 228 [.d (iss .sub rows), .fn 226 [.ptr 0 0]] [some [.d (.sl g (z.map (.int .i64)))]] = some (.d (.int .i64 (orNeg (findAt (hasLess rows z) rows.length 0))), [some [.d (.sl g (z.map (.int .i64)))]]) := by
  rw [z_call XV _ _ _ v228 rfl xcode_228 rfl]
  have h := loopX_upto (X := XV) (T := XV.lin 228) (L := 1) (live := [0, 1, 7, 8]) (b := b228_0) (n := rows.length) (γ := Nat) (st := fun (_ : Unit) i => ⟨[(0, .d (iss .sub rows)), (1, .fn 226 [.ptr 0 0]), (7, .d (.int .i64 rows.length)), (8, .d (.int .i64 i))], [some [.d (.sl g (z.map (.int .i64)))]]⟩) (step := stepF (hasLess rows z))
    (F := fun _ => (.exit 0, ⟨[(0, .d (iss .sub rows)), (1, .fn 226 [.ptr 0 0]), (7, .d (.int .i64 rows.length)), (8, .d (.int .i64 rows.length)), (9, .d (.bool false))], [some [.d (.sl g (z.map (.int .i64)))]]⟩)) (R := fun (j : Nat) => (.ret, ⟨[(4, .d (.int .i64 j))], [some [.d (.sl g (z.map (.int .i64)))]]⟩))
    (fun _ => ⟨by simp, by simp [b228_0, r228_0, r228_1, r228_2, r228_3, r228_4, r228_5, r228_6, r228_7]⟩)
    (fun _ i hi => by
      have hw := wrap_succ (n := i) (by omega)
      have hc := lessThan_eq g (rAt rows i) z (by rw [hl i hi]; omega) (hl i hi)
      unfold stepF hasLess
      cases hq : leastB (rAt rows i) z with
      | true =>
        rw [hq] at hc
        simp only [if_true]
        exact ⟨by simp, by simp [b228_0, r228_0, r228_1, r228_2, r228_3, r228_4, r228_5, r228_6, r228_7, hi, hw, cut, rAt_lt hi, hc]⟩
      | false =>
        rw [hq] at hc
        exact ⟨_, by simp [b228_0, r228_0, r228_1, r228_2, r228_3, r228_4, r228_5, r228_6, r228_7, hi, hw, cut, rAt_lt hi, hc]; rfl, by simp [xheadOf, safeRegs]⟩)
    rows.length () 0 ⟨[(0, .d (iss .sub rows)), (1, .fn 226 [.ptr 0 0]), (7, .d (.int .i64 rows.length)), (8, .d (.int .i64 0))], [some [.d (.sl g (z.map (.int .i64)))]]⟩ (by omega) (by simp [xheadOf, safeRegs])
  rw [runF] at h
  simp only [lin_228] at h
  simp [v228, r228_0, r228_1, r228_2, r228_3, r228_4, r228_5, r228_6, r228_7]
  rw [h]
  cases hq : findAt (hasLess rows z) rows.length 0 <;> simp [orNeg, v228, r228_0, r228_1, r228_2, r228_3, r228_4, r228_5, r228_6, r228_7]
theorem containsLess_eq (g : Tag) (rows : List (List Int)) (z : List Int) (hr : rows.length ≤ 1099511627776) (hz : z.length ≤ 1099511627776) (hl : ∀ i, i < rows.length → (rAt rows i).length = z.length) :
    callX XV 227 [.d (iss .sub rows), .fn 226 [.ptr 0 0]] [some [.d (.sl g (z.map (.int .i64)))]] = some (.d (.bool (!leastIn rows z)), [some [.d (.sl g (z.map (.int .i64)))]]) := by
  rw [z_call XV _ _ _ v227 rfl xcode_227 rfl]
  have h := indexLess_eq g rows z hr hz hl
  unfold leastIn
  cases hq : findAt (hasLess rows z) rows.length 0 with
  | none => rw [hq] at h; simp [v227, r227_0, r227_1, h, orNeg]
  | some j => rw [hq] at h; simp [v227, r227_0, r227_1, h, orNeg]
/-! ## The rows that have none less among them -/
def leastsTo (rows : List (List Int)) (k : Nat) : List (List Int) := (rows.take k).filter (leastIn rows)
theorem leastsTo_succ (rows : List (List Int)) (k : Nat) (hk : k < rows.length) : leastsTo rows (k + 1) = leastsTo rows k ++ (if leastIn rows (rAt rows k) then [rAt rows k] else []) := by
  unfold leastsTo
  rw [List.take_add_one, List.filter_append]
  congr 1
  rw [List.getElem?_eq_getElem hk, rAt_lt hk]
  simp [List.filter]
  split <;> simp_all
def stepLs (rows acc : List (List Int)) (k : Nat) : List (List Int) ⊕ Unit := .inl (acc ++ (if leastIn rows (rAt rows k) then [rAt rows k] else []))
theorem runLs (rows : List (List Int)) : ∀ (j k : Nat), k + j ≤ rows.length → runN (stepLs rows) j (leastsTo rows k) k = .inl (leastsTo rows (k + j))
  | 0, k, _ => rfl
  | j + 1, k, h => by
    simp only [runN, stepLs]
    rw [← leastsTo_succ rows k (by omega), runLs rows j (k + 1) (by omega)]
    congr 2; omega
/-- A row out of which the first elements were taken. -/
def tkRow (rows : List (List Int)) (i : Nat) : List DV := (rows.take i).map (ints .sub) ++ (rows.drop i).map (ints U)
theorem tk_get (rows : List (List Int)) (i : Nat) (hi : i < rows.length) : (tkRow rows i)[i]? = some (.sl U ((rAt rows i).map (.int .i64))) := by
  unfold tkRow
  have h : ((rows.take i).map (ints .sub)).length = i := by simp; omega
  rw [List.getElem?_append_right (by omega), h, Nat.sub_self, List.getElem?_map, List.getElem?_drop, Nat.add_zero, List.getElem?_eq_getElem hi, rAt_lt hi]
  rfl
theorem tk_set (rows : List (List Int)) (i : Nat) (hi : i < rows.length) : (tkRow rows i).set i (.sl .sub ((rAt rows i).map (.int .i64))) = tkRow rows (i + 1) := by
  unfold tkRow
  have h : ((rows.take i).map (ints .sub)).length = i := by simp; omega
  rw [List.set_append_right _ _ (by omega), h, Nat.sub_self, List.drop_eq_getElem_cons hi, rAt_lt hi, List.map_cons, List.set_cons_zero, List.take_add_one, List.getElem?_eq_getElem hi, rAt_lt hi]
  simp
theorem tk_zero (rows : List (List Int)) : tkRow rows 0 = rows.map (ints U) := by simp [tkRow]
/-- The program's loop. -/
theorem implLeasts_eq (rows : List (List Int)) (n : Nat) (hr : rows.length ≤ 1000000) (hn : n ≤ 1000) (hl : ∀ i, i < rows.length → (rAt rows i).length = n) :
    loopX XV (XV.lin 207) 0 [6, 13, 66, 67, 68] b207_2 ⟨[(6, .d (iss .sub rows)), (13, .d (.sl U [])), (66, .d (iss U rows)), (67, .d (.int .i64 rows.length)), (68, .d (.int .i64 0))], []⟩ =
      some (.exit 4, ⟨[(6, .d (iss .sub rows)), (13, .d (.sl U ((leastsTo rows rows.length).map (ints U)))), (66, .d (.sl U (tkRow rows rows.length))), (67, .d (.int .i64 rows.length)), (68, .d (.int .i64 rows.length)), (69, .d (.bool false))], []⟩) := by
  have h := loopX_inv (X := XV) (T := XV.lin 207) (L := 0) (live := [6, 13, 66, 67, 68]) (b := b207_2) (n := rows.length) (γ := Unit) (st := fun (A : List (List Int)) i => ⟨[(6, .d (iss .sub rows)), (13, .d (.sl U (A.map (ints U)))), (66, .d (.sl U (tkRow rows i))), (67, .d (.int .i64 rows.length)), (68, .d (.int .i64 i))], []⟩) (step := stepLs rows)
    (F := fun A => (.exit 4, ⟨[(6, .d (iss .sub rows)), (13, .d (.sl U (A.map (ints U)))), (66, .d (.sl U (tkRow rows rows.length))), (67, .d (.int .i64 rows.length)), (68, .d (.int .i64 rows.length)), (69, .d (.bool false))], []⟩)) (R := fun _ => (.ret, ⟨[], []⟩))
    (fun A i => A.length ≤ i)
    (fun A _ => ⟨by simp, by simp [b207_2, r207_0, r207_1, r207_2, r207_3, r207_4, r207_5, r207_6, r207_7, r207_8, r207_9, r207_10, r207_11, r207_12, r207_13, r207_14, r207_15, r207_16, r207_17, r207_18, r207_19, r207_20, r207_21, r207_22, r207_23, r207_24, r207_25]⟩)
    (fun A i hi hinv => by
      have hw := wrap_succ (n := i) (by omega)
      have hc := containsLess_eq U rows (rAt rows i) (by omega) (by rw [hl i hi]; omega) (fun j hj => by rw [hl j hj, hl i hi])
      have h2 : xappend 1 24 (.sl U (A.map (ints U))) (.sl U [.sl U ((rAt rows i).map (.int .i64))]) = some (.sl U ((A ++ [rAt rows i]).map (ints U))) := by
        have := app_row A U U U (rAt rows i) (by omega)
        rw [List.map_append]
        exact this
      have tg := tk_get rows i hi
      have ts := tk_set rows i hi
      unfold stepLs
      generalize tkRow rows i = tr at tg ts ⊢
      cases hq : leastIn rows (rAt rows i) with
      | true =>
        rw [hq] at hc
        refine ⟨⟨_, by simp [b207_2, r207_0, r207_1, r207_2, r207_3, r207_4, r207_5, r207_6, r207_7, r207_8, r207_9, r207_10, r207_11, r207_12, r207_13, r207_14, r207_15, r207_16, r207_17, r207_18, r207_19, r207_20, r207_21, r207_22, r207_23, r207_24, r207_25, hi, hw, cut, tg, ts, hc, h2, loadBox, isCell_sl, isCellA_d, safe_d, splice]; rfl, by simp [xheadOf, safeRegs]⟩, fun a' h => by simp at h; subst h; simp; omega⟩
      | false =>
        rw [hq] at hc
        refine ⟨⟨_, by simp [b207_2, r207_0, r207_1, r207_2, r207_3, r207_4, r207_5, r207_6, r207_7, r207_8, r207_9, r207_10, r207_11, r207_12, r207_13, r207_14, r207_15, r207_16, r207_17, r207_18, r207_19, r207_20, r207_21, r207_22, r207_23, r207_24, r207_25, hi, hw, cut, tg, ts, hc, h2, loadBox, isCell_sl, isCellA_d, safe_d, splice]; rfl, by simp [xheadOf, safeRegs]⟩, fun a' h => by simp at h; subst h; omega⟩)
    rows.length [] 0 ⟨[(6, .d (iss .sub rows)), (13, .d (.sl U [])), (66, .d (iss U rows)), (67, .d (.int .i64 rows.length)), (68, .d (.int .i64 0))], []⟩ (by omega) (by simp) (by rw [tk_zero]; simp [xheadOf, safeRegs])
  have hr' := runLs rows rows.length 0 (by omega)
  have h0 : leastsTo rows 0 = [] := by simp [leastsTo]
  rw [h0, Nat.zero_add] at hr'
  rw [hr'] at h
  exact h
end Go.Proofs.Ytficfeekkljoeaa.VS
namespace Go.Proofs.Ytficfeekkljoeaa.VS
set_option linter.unusedVariables false
set_option linter.unusedSimpArgs false
/-! ## The rows that have none less among them: the reference's -/
theorem inner208_eq (rows : List (List Int)) (D : AV) (hD : D.safe 0 = true) (z : Nat) (n : Nat) (hr : rows.length ≤ 1000000) (hn : n ≤ 1000) (hz : z < rows.length) (hl : ∀ i, i < rows.length → (rAt rows i).length = n) : ∀ (j k : Nat), k + j = rows.length →
    ∃ k' : Int, loopX XV (XV.lin 208) 0 [6, 7, 8, 9, 10] b208_1 ⟨[(6, D), (7, .d (iss .sub rows)), (8, .d (.int .i64 z)), (9, .d (.bool true)), (10, .d (.int .i64 k))], []⟩ =
      some (.exit 2, ⟨[(6, D), (7, .d (iss .sub rows)), (8, .d (.int .i64 z)), (9, .d (.bool ((findAt (hasLess rows (rAt rows z)) j k).isNone))), (10, .d (.int .i64 k')), (36, .d (.bool false))], []⟩)
  | 0, k, h => by
    have hk : k = rows.length := by omega
    subst hk
    refine ⟨rows.length, loopX_out (s0 := ⟨[(6, D), (7, .d (iss .sub rows)), (8, .d (.int .i64 z)), (9, .d (.bool true)), (10, .d (.int .i64 rows.length))], []⟩) (by simp [xheadOf, safeRegs, hD]) ?_ (by simp)⟩
    simp [b208_1, r208_0, r208_1, r208_2, r208_3, r208_4, r208_5, r208_6, r208_8, r208_9, r208_10, d208_12, r208_11, r208_13, r208_14, r208_7, r208_15, r208_16, r208_17, findAt]
  | j + 1, k, h => by
    have hk : k < rows.length := by omega
    have hw := wrap_succ (n := k) (by omega)
    have hc := specLeast_eq (rAt rows k) (rAt rows z) (by rw [hl k hk]; omega) (by rw [hl k hk, hl z hz])
    have h0 : xheadOf 0 [6, 7, 8, 9, 10] ⟨[(6, D), (7, .d (iss .sub rows)), (8, .d (.int .i64 z)), (9, .d (.bool true)), (10, .d (.int .i64 k))], []⟩ = some ⟨[(6, D), (7, .d (iss .sub rows)), (8, .d (.int .i64 z)), (9, .d (.bool true)), (10, .d (.int .i64 k))], []⟩ := by simp [xheadOf, safeRegs, hD]
    cases hq : leastB (rAt rows k) (rAt rows z) with
    | false =>
      rw [hq] at hc
      obtain ⟨k', ih⟩ := inner208_eq rows D hD z n hr hn hz hl j (k + 1) (by omega)
      refine ⟨k', ?_⟩
      have hb : codeX XV (XV.lin 208) b208_1 ⟨[(6, D), (7, .d (iss .sub rows)), (8, .d (.int .i64 z)), (9, .d (.bool true)), (10, .d (.int .i64 k))], []⟩ = some (.normal, ⟨[(6, D), (7, .d (iss .sub rows)), (8, .d (.int .i64 z)), (9, .d (.bool true)), (10, .d (.int .i64 (k + 1 : Nat)))], []⟩) := by
        simp [b208_1, r208_0, r208_1, r208_2, r208_3, r208_4, r208_5, r208_6, r208_8, r208_9, r208_10, d208_12, r208_11, r208_13, r208_14, r208_7, r208_15, r208_16, r208_17, hk, hz, hw, cut, rAt_lt hk, rAt_lt hz, hc]
      rw [loopX_go h0 hb, ih]
      have : findAt (hasLess rows (rAt rows z)) (j + 1) k = findAt (hasLess rows (rAt rows z)) j (k + 1) := by simp [findAt, hasLess, hq]
      rw [this]
    | true =>
      rw [hq] at hc
      refine ⟨(k + 1 : Nat), ?_⟩
      have hb : codeX XV (XV.lin 208) b208_1 ⟨[(6, D), (7, .d (iss .sub rows)), (8, .d (.int .i64 z)), (9, .d (.bool true)), (10, .d (.int .i64 k))], []⟩ = some (.normal, ⟨[(6, D), (7, .d (iss .sub rows)), (8, .d (.int .i64 z)), (9, .d (.bool false)), (10, .d (.int .i64 (k + 1 : Nat)))], []⟩) := by
        simp [b208_1, r208_0, r208_1, r208_2, r208_3, r208_4, r208_5, r208_6, r208_8, r208_9, r208_10, d208_12, r208_11, r208_13, r208_14, r208_7, r208_15, r208_16, r208_17, hk, hz, hw, cut, rAt_lt hk, rAt_lt hz, hc]
      rw [loopX_go h0 hb]
      have hf : findAt (hasLess rows (rAt rows z)) (j + 1) k = some k := by simp [findAt, hasLess, hq]
      rw [hf]
      refine loopX_out (s0 := ⟨[(6, D), (7, .d (iss .sub rows)), (8, .d (.int .i64 z)), (9, .d (.bool false)), (10, .d (.int .i64 (k + 1 : Nat)))], []⟩) (by simp [xheadOf, safeRegs, hD]) ?_ (by simp)
      by_cases h1 : k + 1 < rows.length
      · have h2 : (k : Int) + 1 < rows.length := by omega
        simp [b208_1, r208_0, r208_1, r208_2, r208_3, r208_4, r208_5, r208_6, r208_8, r208_9, r208_10, d208_12, r208_11, r208_13, r208_14, r208_7, r208_15, r208_16, r208_17, h2]
      · have h2 : ¬ (k : Int) + 1 < rows.length := by omega
        simp [b208_1, r208_0, r208_1, r208_2, r208_3, r208_4, r208_5, r208_6, r208_8, r208_9, r208_10, d208_12, r208_11, r208_13, r208_14, r208_7, r208_15, r208_16, r208_17, h2]
theorem specLeasts_eq (rows : List (List Int)) (n : Nat) (hr : rows.length ≤ 1000000) (hn : n ≤ 1000) (hl : ∀ i, i < rows.length → (rAt rows i).length = n) :
    loopX XV (XV.lin 208) 0 [6, 7, 8] b208_0 ⟨[(6, .d (.sl U [])), (7, .d (iss .sub rows)), (8, .d (.int .i64 0))], []⟩ =
      some (.exit 0, ⟨[(6, .d (.sl U ((leastsTo rows rows.length).map (ints .sub)))), (7, .d (iss .sub rows)), (8, .d (.int .i64 rows.length)), (27, .d (.bool false))], []⟩) := by
  have h := loopX_inv (X := XV) (T := XV.lin 208) (L := 0) (live := [6, 7, 8]) (b := b208_0) (n := rows.length) (γ := Unit) (st := fun (A : List (List Int)) i => ⟨[(6, .d (.sl U (A.map (ints .sub)))), (7, .d (iss .sub rows)), (8, .d (.int .i64 i))], []⟩) (step := stepLs rows)
    (F := fun A => (.exit 0, ⟨[(6, .d (.sl U (A.map (ints .sub)))), (7, .d (iss .sub rows)), (8, .d (.int .i64 rows.length)), (27, .d (.bool false))], []⟩)) (R := fun _ => (.ret, ⟨[], []⟩))
    (fun A i => A.length ≤ i)
    (fun A _ => ⟨by simp, by simp [b208_0, r208_0, r208_1, r208_2, r208_3, r208_4, r208_5, r208_6, r208_8, r208_9, r208_10, d208_12, r208_11, r208_13, r208_14, r208_7, r208_15, r208_16, r208_17]⟩)
    (fun A i hi hinv => by
      have hw := wrap_succ (n := i) (by omega)
      obtain ⟨k', hI⟩ := inner208_eq rows (.d (.sl U (A.map (ints .sub)))) rfl i n hr hn hi hl rows.length 0 (by omega)
      have h2 : xappend 1 24 (.sl U (A.map (ints .sub))) (.sl U [.sl .sub ((rAt rows i).map (.int .i64))]) = some (.sl U ((A ++ [rAt rows i]).map (ints .sub))) := by
        have := app_row A .sub .sub U (rAt rows i) (by omega)
        rw [List.map_append]
        exact this
      unfold stepLs
      have hle : leastIn rows (rAt rows i) = (findAt (hasLess rows (rAt rows i)) rows.length 0).isNone := rfl
      rw [← hle] at hI
      simp only [lin_208] at hI
      simp at hI
      cases hq : leastIn rows (rAt rows i) with
      | true =>
        rw [hq] at hI
        refine ⟨⟨_, by simp [b208_0, r208_0, r208_1, r208_2, r208_3, r208_4, r208_5, r208_6, r208_8, r208_9, r208_10, d208_12, r208_11, r208_13, r208_14, r208_7, r208_15, r208_16, r208_17, hi, hw, cut, rAt_lt hi, hI, h2]; rfl, by simp [xheadOf, safeRegs]⟩, fun a' h => by simp at h; subst h; simp; omega⟩
      | false =>
        rw [hq] at hI
        refine ⟨⟨_, by simp [b208_0, r208_0, r208_1, r208_2, r208_3, r208_4, r208_5, r208_6, r208_8, r208_9, r208_10, d208_12, r208_11, r208_13, r208_14, r208_7, r208_15, r208_16, r208_17, hi, hw, cut, rAt_lt hi, hI, h2]; rfl, by simp [xheadOf, safeRegs]⟩, fun a' h => by simp at h; subst h; omega⟩)
    rows.length [] 0 ⟨[(6, .d (.sl U [])), (7, .d (iss .sub rows)), (8, .d (.int .i64 0))], []⟩ (by omega) (by simp) (by simp [xheadOf, safeRegs])
  have hr' := runLs rows rows.length 0 (by omega)
  have h0 : leastsTo rows 0 = [] := by simp [leastsTo]
  rw [h0, Nat.zero_add] at hr'
  rw [hr'] at h
  exact h
end Go.Proofs.Ytficfeekkljoeaa.VS
namespace Go.Proofs.Ytficfeekkljoeaa.VS
set_option linter.unusedVariables false
set_option linter.unusedSimpArgs false
/-! ## All that solve: the program's -/
theorem concat_eq (g g1 g2 : Tag) (x y : List Int) (B : Boxs) (hx : x ≠ []) (hy : y ≠ []) (hl : x.length + y.length ≤ 1099511627776) :
    callX XV 225 [.d (.sl g [.sl g1 (x.map (.int .i64)), .sl g2 (y.map (.int .i64))])] B = some (.d (.sl U ((x ++ y).map (.int .i64))), B) := by
  rw [callX_nat XV 225 _ _ concatD rfl]
  have h : (x.length + y.length) * 8 ≤ 140737488355328 := by omega
  simp [datas, concatD, intssOf, intsOf_map, hx, hy, h]
  rfl
def pickB (a b z : List Int) : Bool := decide (0 < maxL z) && solvesB a b z
def sideTo (a b x : List Int) (right : List (List Int)) (k : Nat) : List (List Int) := ((right.take k).map (x ++ ·)).filter (pickB a b)
theorem sideTo_succ (a b x : List Int) (right : List (List Int)) (k : Nat) (hk : k < right.length) : sideTo a b x right (k + 1) = sideTo a b x right k ++ (if pickB a b (x ++ rAt right k) then [x ++ rAt right k] else []) := by
  unfold sideTo
  rw [List.take_add_one, List.map_append, List.filter_append]
  congr 1
  rw [List.getElem?_eq_getElem hk, rAt_lt hk]
  simp [List.filter]
  split <;> simp_all
theorem sideTo_len (a b x : List Int) (right : List (List Int)) (k : Nat) : (sideTo a b x right k).length ≤ k := by
  unfold sideTo
  have := List.length_filter_le (pickB a b) ((right.take k).map (x ++ ·))
  rw [List.length_map, List.length_take] at this
  omega
def stepSi (a b x : List Int) (right acc : List (List Int)) (k : Nat) : List (List Int) ⊕ Unit := .inl (acc ++ (if pickB a b (x ++ rAt right k) then [x ++ rAt right k] else []))
theorem runSi (a b x : List Int) (right acc : List (List Int)) : ∀ (j k : Nat), k + j ≤ right.length → runN (stepSi a b x right) j (acc ++ sideTo a b x right k) k = .inl (acc ++ sideTo a b x right (k + j))
  | 0, k, _ => rfl
  | j + 1, k, h => by
    simp only [runN, stepSi]
    rw [List.append_assoc, ← sideTo_succ a b x right k (by omega), runSi a b x right acc j (k + 1) (by omega)]
    congr 3; omega
theorem implSide_eq (a b x : List Int) (right acc : List (List Int)) (L : AV) (hL : L.safe 0 = true) (n i : Int) (ha : a.length ≤ 1000) (hb : b.length ≤ 1000) (hx : x.length = a.length) (hx0 : 0 < x.length) (hr : right.length ≤ 1000) (hacc : acc.length ≤ 1000000)
    (hrl : ∀ i, i < right.length → (rAt right i).length = b.length) (hb0 : 0 < b.length) :
    loopX XV (XV.lin 207) 0 [0, 1, 6, 7, 9, 34, 35, 36, 40, 41, 42] b207_1 ⟨[(0, .d (is a)), (1, .d (is b)), (6, .d (iss U acc)), (7, .d (iss .sub right)), (9, .d (is x)), (34, L), (35, .d (.int .i64 n)), (36, .d (.int .i64 i)), (40, .d (iss .sub right)), (41, .d (.int .i64 right.length)), (42, .d (.int .i64 0))], []⟩ =
      some (.exit 2, ⟨[(0, .d (is a)), (1, .d (is b)), (6, .d (iss U (acc ++ sideTo a b x right right.length))), (7, .d (iss .sub right)), (9, .d (is x)), (34, L), (35, .d (.int .i64 n)), (36, .d (.int .i64 i)), (40, .d (iss .sub right)), (41, .d (.int .i64 right.length)), (42, .d (.int .i64 right.length)), (43, .d (.bool false))], []⟩) := by
  have h := loopX_inv (X := XV) (T := XV.lin 207) (L := 0) (live := [0, 1, 6, 7, 9, 34, 35, 36, 40, 41, 42]) (b := b207_1) (n := right.length) (γ := Unit) (st := fun (A : List (List Int)) j => ⟨[(0, .d (is a)), (1, .d (is b)), (6, .d (iss U A)), (7, .d (iss .sub right)), (9, .d (is x)), (34, L), (35, .d (.int .i64 n)), (36, .d (.int .i64 i)), (40, .d (iss .sub right)), (41, .d (.int .i64 right.length)), (42, .d (.int .i64 j))], []⟩) (step := stepSi a b x right)
    (F := fun A => (.exit 2, ⟨[(0, .d (is a)), (1, .d (is b)), (6, .d (iss U A)), (7, .d (iss .sub right)), (9, .d (is x)), (34, L), (35, .d (.int .i64 n)), (36, .d (.int .i64 i)), (40, .d (iss .sub right)), (41, .d (.int .i64 right.length)), (42, .d (.int .i64 right.length)), (43, .d (.bool false))], []⟩)) (R := fun _ => (.ret, ⟨[], []⟩))
    (fun A j => A.length ≤ 1000000 + j)
    (fun A _ => ⟨by simp, by simp [b207_1, r207_0, r207_1, r207_2, r207_3, r207_4, r207_5, r207_6, r207_7, r207_8, r207_9, r207_10, r207_11, r207_12, r207_13, r207_14, r207_15, r207_16, r207_17, r207_18, r207_19, r207_20, r207_21, r207_22, r207_23, r207_24, r207_25]⟩)
    (fun A j hj hinv => by
      have hw := wrap_succ (n := j) (by omega)
      have hyl := hrl j hj
      generalize hy : rAt right j = y at *
      have hg : right[j] = y := by rw [rAt_lt hj, hy]
      have hxn : x ≠ [] := fun h => by rw [h] at hx0; simp at hx0
      have hyn : y ≠ [] := fun h => by rw [h] at hyl; simp at hyl; omega
      have h1 := concat_eq .sub .sub .sub x y [] hxn hyn (by omega)
      have hzl : (x ++ y).length = a.length + b.length := by rw [List.length_append]; omega
      have h2 := max_eq (x ++ y) (by omega) (by omega)
      have h3 := implSolves_eq a b (x ++ y) (by omega) (by omega) (by omega)
      have h4 : xappend 1 24 (iss U A) (.sl U [.sl U ((x ++ y).map (.int .i64))]) = some (iss U (A ++ [x ++ y])) := by
        have := app_row A U U U (x ++ y) (by omega)
        rw [show iss U (A ++ [x ++ y]) = .sl U (A.map (ints U) ++ [ints U (x ++ y)]) by simp [iss]]
        exact this
      unfold stepSi
      rw [hy]
      generalize hz : x ++ y = z at *
      by_cases hm : 0 < maxL z
      · cases hq : solvesB a b z with
        | true =>
          rw [hq] at h3
          have hp : pickB a b z = true := by simp [pickB, hm, hq]
          simp only [hp, if_true]
          refine ⟨⟨_, by simp [b207_1, r207_0, r207_1, r207_2, r207_3, r207_4, r207_5, r207_6, r207_7, r207_8, r207_9, r207_10, r207_11, r207_12, r207_13, r207_14, r207_15, r207_16, r207_17, r207_18, r207_19, r207_20, r207_21, r207_22, r207_23, r207_24, r207_25, hj, hw, cut, hg, h1, h2, h3, h4, hm]; rfl, by simp [xheadOf, safeRegs, hL]⟩, fun a' h => by simp at h; subst h; simp; omega⟩
        | false =>
          rw [hq] at h3
          have hp : pickB a b z = false := by simp [pickB, hm, hq]
          simp only [hp]
          refine ⟨⟨_, by simp [b207_1, r207_0, r207_1, r207_2, r207_3, r207_4, r207_5, r207_6, r207_7, r207_8, r207_9, r207_10, r207_11, r207_12, r207_13, r207_14, r207_15, r207_16, r207_17, r207_18, r207_19, r207_20, r207_21, r207_22, r207_23, r207_24, r207_25, hj, hw, cut, hg, h1, h2, h3, h4, hm]; rfl, by simp [xheadOf, safeRegs, hL]⟩, fun a' h => by simp at h; subst h; omega⟩
      · have hp : pickB a b z = false := by simp [pickB, hm]
        simp only [hp]
        refine ⟨⟨_, by simp [b207_1, r207_0, r207_1, r207_2, r207_3, r207_4, r207_5, r207_6, r207_7, r207_8, r207_9, r207_10, r207_11, r207_12, r207_13, r207_14, r207_15, r207_16, r207_17, r207_18, r207_19, r207_20, r207_21, r207_22, r207_23, r207_24, r207_25, hj, hw, cut, hg, h1, h2, h4, hm]; rfl, by simp [xheadOf, safeRegs, hL]⟩, fun a' h => by simp at h; subst h; omega⟩)
    right.length acc 0 ⟨[(0, .d (is a)), (1, .d (is b)), (6, .d (iss U acc)), (7, .d (iss .sub right)), (9, .d (is x)), (34, L), (35, .d (.int .i64 n)), (36, .d (.int .i64 i)), (40, .d (iss .sub right)), (41, .d (.int .i64 right.length)), (42, .d (.int .i64 0))], []⟩ (by omega) (by omega) (by simp [xheadOf, safeRegs, hL])
  have hr' := runSi a b x right acc right.length 0 (by omega)
  have h0 : sideTo a b x right 0 = [] := by simp [sideTo]
  rw [h0, Nat.zero_add, List.append_nil] at hr'
  rw [hr'] at h
  exact h
end Go.Proofs.Ytficfeekkljoeaa.VS
