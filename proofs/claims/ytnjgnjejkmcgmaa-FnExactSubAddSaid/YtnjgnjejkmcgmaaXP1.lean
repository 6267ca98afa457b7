/- Contracts of the program's functions on the evaluator without names, and plain lemmas: part 1. -/
import Derived.Test.YtnjgnjejkmcgmaaLin
namespace Go.Proofs.Ytnjgnjejkmcgmaa.VS
set_option linter.unusedVariables false
set_option linter.unusedSimpArgs false
/-- A term. -/
inductive T where
  | node (f v : Int) (kids : List T)
  deriving Inhabited
def T.f : T → Int | .node f _ _ => f
def T.v : T → Int | .node _ v _ => v
def T.kids : T → List T | .node _ _ k => k
mutual
def T.enc (g : Tag) : T → DV
  | .node f v ks => .agg [.int .i64 f, .int .i64 v, .sl g (T.encs g ks)]
def T.encs (g : Tag) : List T → List DV
  | [] => []
  | t :: r => t.enc g :: T.encs g r
end
theorem T.encs_map (g : Tag) : ∀ l : List T, T.encs g l = l.map (T.enc g)
  | [] => by unfold T.encs; rfl
  | t :: r => by unfold T.encs; simp [T.encs_map g r]
abbrev terms (g : Tag) (l : List T) : DV := .sl g (l.map (T.enc g))
theorem T.enc_eq (g : Tag) (t : T) : t.enc g = .agg [.int .i64 t.f, .int .i64 t.v, terms g t.kids] := by
  cases t; simp [T.enc, T.encs_map, terms, T.f, T.v, T.kids]
@[simp] theorem agg_enc (g : Tag) (f v : Int) (ks : List T) : DV.agg [.int .i64 f, .int .i64 v, terms g ks] = (T.node f v ks).enc g := by
  simp [T.enc, T.encs_map, terms]
@[simp] theorem T.eta (t : T) : T.node t.f t.v t.kids = t := by cases t; rfl
@[simp] theorem T.f_node (f v : Int) (k : List T) : (T.node f v k).f = f := rfl
@[simp] theorem T.v_node (f v : Int) (k : List T) : (T.node f v k).v = v := rfl
@[simp] theorem T.kids_node (f v : Int) (k : List T) : (T.node f v k).kids = k := rfl
@[simp] theorem T.cells_enc (g : Tag) (t : T) : (t.enc g).cells = [.int .i64 t.f, .int .i64 t.v, terms g t.kids] := by rw [T.enc_eq]; rfl
@[simp] theorem T.cellsA_enc (g : Tag) (t : T) : (AV.d (t.enc g)).cells = [.d (.int .i64 t.f), .d (.int .i64 t.v), .d (terms g t.kids)] := by rw [T.enc_eq]; rfl
@[simp] theorem T.isCell_enc (g : Tag) (t : T) : (t.enc g).isCell = false := by rw [T.enc_eq]; rfl
mutual
theorem T.clr_enc (g : Tag) : ∀ t : T, (t.enc g).clr = t.enc .sub
  | .node f v ks => by simp only [T.enc, DV.clr, DV.clrs, T.clr_encs g ks]
theorem T.clr_encs (g : Tag) : ∀ l : List T, DV.clrs (T.encs g l) = T.encs .sub l
  | [] => by simp only [T.encs, DV.clrs]
  | t :: r => by simp only [T.encs, DV.clrs, T.clr_enc g t, T.clr_encs g r]
end
attribute [simp] T.clr_enc
@[simp high] theorem clr_terms (g : Tag) (l : List T) : (l.map (T.enc g)).map DV.clr = l.map (T.enc .sub) := by
  rw [← T.encs_map, ← T.encs_map, ← DV.clrs_map, T.clr_encs]
def tAt (l : List T) (i : Nat) : T := (l[i]?).getD (.node 0 0 [])
theorem tAt_lt {l : List T} {i : Nat} (h : i < l.length) : l[i] = tAt l i := by simp [tAt, h]
theorem tAt_mem {l : List T} {i : Nat} (h : i < l.length) : tAt l i ∈ l := by rw [← tAt_lt h]; exact List.getElem_mem h
theorem tAt_get {l : List T} {i : Nat} (h : i < l.length) : l[i]? = some (tAt l i) := by simp [tAt, h]
@[simp] theorem terms_get (g : Tag) {l : List T} {i : Nat} (h : i < l.length) : (l.map (T.enc g))[i]? = some ((tAt l i).enc g) := by simp [tAt_get h]
mutual
/-- How many terms stand in a term, without itself. -/
def T.inner : T → Nat
  | .node _ _ ks => ks.length + T.inners ks
def T.inners : List T → Nat
  | [] => 0
  | t :: r => t.inner + T.inners r
end
/-- What szTerm leaves. -/
def leftOf (left : Int) (n : Nat) : Int := if left - n < 0 then -1 else left - n
def stepT (l : List T) (left : Int) (i : Nat) : Int ⊕ Unit := if left - (tAt l i).inner < 0 then .inr () else .inl (left - (tAt l i).inner)
theorem runT (l : List T) : ∀ (k i : Nat) (left : Int), i + k = l.length → 0 ≤ left → runN (stepT l) k left i = if left - T.inners (l.drop i) < 0 then .inr () else .inl (left - T.inners (l.drop i))
  | 0, i, left, h, h0 => by
    have : l.drop i = [] := List.drop_eq_nil_of_le (by omega)
    have h1 : ¬ left < 0 := by omega
    simp [runN, this, T.inners, h1]
  | k + 1, i, left, h, h0 => by
    have hlt : i < l.length := by omega
    have hs : T.inners (l.drop i) = (tAt l i).inner + T.inners (l.drop (i + 1)) := by
      rw [List.drop_eq_getElem_cons hlt, tAt_lt hlt]
      simp only [T.inners]
    rw [hs]
    generalize hm : T.inners (l.drop (i + 1)) = m
    have ih := fun left h0 => runT l k (i + 1) left (by omega) h0
    rw [hm] at ih
    simp only [runN, stepT]
    by_cases h1 : left - (tAt l i).inner < 0
    · have h2 : left - ((tAt l i).inner + m : Nat) < 0 := by omega
      simp only [h1, h2, if_true]
    · simp only [h1, if_false]
      rw [ih _ (by omega)]
      have e : left - (tAt l i).inner - (m : Int) = left - ((tAt l i).inner + m : Nat) := by omega
      rw [e]
theorem szTermS_of (l : List T) (left : Int) (hl : l.length ≤ maxLen) (h0 : 0 ≤ left) (h1 : left ≤ 1099511627776)
    (hc : ∀ t, t ∈ l → ∀ left, 0 ≤ left → left ≤ 1099511627776 → callX XV 1 [.d (t.enc .sub), .d (.int .i64 left)] [] = some (.d (.int .i64 (leftOf left t.inner)), [])) :
    callX XV 9 [.d (terms .sub l), .d (.int .i64 left)] [] = some (.d (.int .i64 (leftOf left (l.length + T.inners l))), []) := by
  rw [z_call XV _ _ _ v9 rfl xcode_9 rfl]
  have hw : IntKind.i64.wrap (left - l.length) = left - l.length := wrap_i64 (by unfold maxLen at hl; omega) (by omega)
  by_cases h : left - l.length < 0
  · have h2 : leftOf left (l.length + T.inners l) = -1 := by unfold leftOf; rw [if_pos (by omega)]
    simp [v9, r9_0, r9_1, r9_2, r9_3, hw, h, h2]
  · have hloop := loopX_inv (X := XV) (T := []) (L := 0) (live := [0, 1, 5]) (b := b9_0) (n := l.length) (γ := Unit) (st := fun (left : Int) i => ⟨[(0, .d (terms .sub l)), (1, .d (.int .i64 left)), (5, .d (.int .i64 i))], []⟩) (step := stepT l)
      (F := fun left => (.exit 0, ⟨[(0, .d (terms .sub l)), (1, .d (.int .i64 left)), (5, .d (.int .i64 l.length)), (15, .d (.bool false))], []⟩)) (R := fun _ => (.ret, ⟨[(4, .d (.int .i64 (-1)))], []⟩))
      (fun left _ => 0 ≤ left ∧ left ≤ 1099511627776)
      (fun left _ => ⟨by simp, by simp [b9_0, r9_5]⟩)
      (fun left i hi hinv => by
        have hw := wrap_succ (n := i) (by unfold maxLen at hl; omega)
        have hc' := hc _ (tAt_mem hi) left hinv.1 hinv.2
        unfold stepT
        by_cases h2 : left - (tAt l i).inner < 0
        · have hl' : leftOf left (tAt l i).inner = -1 := by unfold leftOf; rw [if_pos h2]
          rw [hl'] at hc'
          simp only [h2, if_true]
          refine ⟨⟨by simp, ?_⟩, fun a' h => by simp at h⟩
          simp [b9_0, r9_5, r9_6, r9_7, r9_8, r9_9, hi, hw, cut, tAt_lt hi, hc']
        · have hl' : leftOf left (tAt l i).inner = left - (tAt l i).inner := by unfold leftOf; rw [if_neg h2]
          rw [hl'] at hc'
          simp only [h2, if_false]
          refine ⟨⟨_, by simp [b9_0, r9_5, r9_6, r9_7, r9_8, r9_9, hi, hw, cut, tAt_lt hi, hc', h2]; rfl, by simp [xheadOf, safeRegs]⟩, fun a' h => by simp at h; subst h; exact ⟨by omega, by omega⟩⟩)
      l.length (left - l.length) 0 ⟨[(0, .d (terms .sub l)), (1, .d (.int .i64 (left - l.length))), (5, .d (.int .i64 0))], []⟩ (by omega) ⟨by omega, by omega⟩ (by simp [xheadOf, safeRegs])
    rw [runT l _ _ _ (by omega) (by omega), List.drop_zero] at hloop
    simp [v9, r9_0, r9_1, r9_2, r9_3, r9_4, hw, h]
    rw [hloop]
    by_cases h3 : left - l.length - T.inners l < 0
    · have h4 : leftOf left (l.length + T.inners l) = -1 := by unfold leftOf; rw [if_pos (by omega)]
      simp [h3, h4]
    · have h4 : leftOf left (l.length + T.inners l) = left - l.length - T.inners l := by unfold leftOf; rw [if_neg (by omega)]; omega
      simp [h3, h4, r9_10]
end Go.Proofs.Ytnjgnjejkmcgmaa.VS
namespace Go.Proofs.Ytnjgnjejkmcgmaa.VS
set_option linter.unusedVariables false
set_option linter.unusedSimpArgs false
mutual
/-- No row is longer than Go allows. -/
def T.ok : T → Prop
  | .node _ _ ks => ks.length ≤ maxLen ∧ T.oks ks
def T.oks : List T → Prop
  | [] => True
  | t :: r => t.ok ∧ T.oks r
end
theorem T.oks_iff : ∀ l : List T, T.oks l ↔ ∀ t, t ∈ l → t.ok
  | [] => by simp [T.oks]
  | t :: r => by simp [T.oks, T.oks_iff r]
theorem szTerm_eq (t : T) (left : Int) (ht : t.ok) (h0 : 0 ≤ left) (h1 : left ≤ 1099511627776) : callX XV 1 [.d (t.enc .sub), .d (.int .i64 left)] [] = some (.d (.int .i64 (leftOf left t.inner)), []) := by
  match t, ht with
  | .node f v ks, ht =>
    simp only [T.ok] at ht
    have hc := szTermS_of ks left ht.1 h0 h1 (fun s hs left h0 h1 => szTerm_eq s left ((T.oks_iff ks).1 ht.2 s hs) h0 h1)
    rw [z_call XV _ _ _ v1 rfl xcode_1 rfl]
    have hi : (T.node f v ks).inner = ks.length + T.inners ks := by simp [T.inner]
    rw [hi]
    by_cases h : left - (ks.length + T.inners ks : Nat) < 0
    · have h2 : leftOf left (ks.length + T.inners ks) = -1 := by unfold leftOf; rw [if_pos h]
      rw [h2] at hc ⊢
      simp [v1, r1_0, r1_1, r1_2, r1_3, hc]
    · have h2 : leftOf left (ks.length + T.inners ks) = left - (ks.length + T.inners ks : Nat) := by unfold leftOf; rw [if_neg h]
      rw [h2] at hc ⊢
      have h3 : ¬ (left - ((ks.length : Int) + T.inners ks)) < 0 := by omega
      simp [v1, r1_0, r1_1, r1_2, r1_3, r1_4, hc, h3]
termination_by t
decreasing_by
  simp_wf
  have := List.sizeOf_lt_of_mem hs
  omega

/-! toTerm: the same term -/
theorem encs_ok (g : Tag) (l : List T) : ∀ x : DV, x ∈ l.map (T.enc g) → elemOK true 3 x := by
  intro x hx
  simp only [List.mem_map] at hx
  obtain ⟨t, _, rfl⟩ := hx
  exact ⟨by simp, by simp [isCell_int, isCell_sl], fun _ => ⟨_, T.enc_eq g t⟩, by simp⟩
theorem encs_cells (g : Tag) (l : List T) : ∀ x : DV, x ∈ l.map (T.enc g) → x.cells.length = 3 := fun x hx => (encs_ok g l x hx).1
def zT : DV := .agg [.int .i64 0, .int .i64 0, .sl U []]
def rowT (l : List T) (i : Nat) : List AV := rowCells (Go.Proofs.Ytnjgnjejkmcgmaa.VS.filled (l.map (T.enc U)) zT i)
theorem rowT_len (l : List T) (i : Nat) : (rowT l i).length = l.length * 3 := by
  unfold rowT
  rw [rowCells_len (sz := 3) (filled_cells (encs_cells U l) rfl i), filled_len]; simp
theorem rowT_set (l : List T) (i : Nat) (h : i < l.length) : splice (rowT l i) (i * 3) [.d (.int .i64 (tAt l i).f), .d (.int .i64 (tAt l i).v), .d (terms U (tAt l i).kids)] = rowT l (i + 1) := by
  have h1 := splice_row (sz := 3) (i := i) (es := Go.Proofs.Ytnjgnjejkmcgmaa.VS.filled (l.map (T.enc U)) zT i) (e := (tAt l i).enc U) (filled_cells (encs_cells U l) rfl i) (by simp) (by rw [filled_len]; simpa using h)
  have h2 := filled_set (l.map (T.enc U)) zT i (by simpa using h)
  simp only [T.cells_enc, List.map_cons, List.map_nil] at h1
  unfold rowT
  rw [h1, ← h2]
  simp [tAt_lt h]
theorem rowT_zero (l : List T) : rowT l 0 = ((List.replicate l.length zT).flatMap DV.cells).map .d := by
  unfold rowT; rw [filled_zero]; simp [rowCells, flat]
theorem rowT_all (l : List T) : rowT l l.length = rowCells (l.map (T.enc U)) := by
  unfold rowT
  have := filled_all (l.map (T.enc U)) zT
  rw [List.length_map] at this
  rw [this]
theorem toTermS_of (l : List T) (hl : l.length ≤ 1099511627776) (hc : ∀ t, t ∈ l → callX XV 2 [.d (t.enc .sub)] [] = some (.d (t.enc U), [])) :
    callX XV 8 [.d (terms .sub l)] [] = some (.d (terms U l), []) := by
  rw [z_call XV _ _ _ v8 rfl xcode_8 rfl]
  have hloop := loopX_upto (X := XV) (T := XV.lin 8) (L := 1) (live := [0, 3, 4]) (b := b8_0) (n := l.length) (γ := Unit) (st := fun (_ : Unit) i => ⟨[(0, .d (terms .sub l)), (3, .bsl [] true 0 3 l.length), (4, .d (.int .i64 i))], [some (rowT l i)]⟩) (step := fun _ _ => .inl ())
    (F := fun _ => (.exit 0, ⟨[(0, .d (terms .sub l)), (3, .bsl [] true 0 3 l.length), (4, .d (.int .i64 l.length)), (11, .d (.bool false))], [some (rowT l l.length)]⟩)) (R := fun _ => (.ret, ⟨[], []⟩))
    (fun _ => ⟨by simp, by simp [b8_0, r8_3]⟩)
    (fun _ i hi => by
      have hw := wrap_succ (n := i) (by omega)
      have hc' := hc _ (tAt_mem hi)
      have hlen := rowT_len l i
      have hle : i * 3 + 3 ≤ l.length * 3 := by omega
      have hset := rowT_set l i hi
      refine ⟨_, by simp [b8_0, r8_3, r8_4, r8_5, hi, hw, cut, tAt_lt hi, hc', hlen, hle, hset, isCell_int, isCell_sl, isCellA_d, safe_d]; rfl, by simp [xheadOf, safeRegs]⟩)
    l.length () 0 ⟨[(0, .d (terms .sub l)), (3, .bsl [] true 0 3 l.length), (4, .d (.int .i64 0))], [some (rowT l 0)]⟩ (by omega) (by simp [xheadOf, safeRegs])
  have hrun : ∀ k i, runN (fun (_ : Unit) (_ : Nat) => (Sum.inl () : Unit ⊕ Unit)) k () i = .inl () := by
    intro k; induction k with
    | zero => intro i; rfl
    | succ k ih => intro i; simp [runN, ih]
  rw [hrun, rowT_zero] at hloop
  have hch := chunks_row (l.map (T.enc U)) (encs_ok U l)
  rw [List.length_map] at hch
  have hfl : (flat (l.map (T.enc U))).length = l.length * 3 := by rw [flat_len (encs_cells U l)]; simp
  have hall := rowT_all l
  simp only [zT, lin_8] at hloop
  have hle2 : l.length * 40 ≤ 140737488355328 := by omega
  have hlt : (l.length : Int) < 9223372036854775808 := by omega
  have hlt2 : l.length < 9223372036854775808 := by omega
  simp [v8, r8_0, r8_1, r8_2, r8_6, isAgg, hle2, hlt]
  rw [hloop]
  simp [hall, datas_row, hch, hfl, hlt2, r8_6]
end Go.Proofs.Ytnjgnjejkmcgmaa.VS
namespace Go.Proofs.Ytnjgnjejkmcgmaa.VS
set_option profiler true
set_option profiler.threshold 2000
set_option linter.unusedVariables false
set_option linter.unusedSimpArgs false
theorem T.inners_mem : ∀ {l : List T} {t : T}, t ∈ l → t.inner ≤ T.inners l
  | [], t, h => by simp at h
  | s :: r, t, h => by
    simp only [T.inners]
    rcases List.mem_cons.1 h with rfl | h
    · omega
    · have := T.inners_mem h; omega
theorem toTerm_eq (t : T) (hi : t.inner ≤ 1099511627776) : callX XV 2 [.d (t.enc .sub)] [] = some (.d (t.enc U), []) := by
  match t, hi with
  | .node f v ks, hi =>
    simp only [T.inner] at hi
    have hc := toTermS_of ks (by omega) (fun s hs => toTerm_eq s (by have := T.inners_mem hs; omega))
    rw [z_call XV _ _ _ v2 rfl xcode_2 rfl]
    simp [v2, r2_0, r2_1, r2_2, r2_3, r2_4, r2_5, hc, splice, loadBox, AV.clrs_map, isCell_int, isCell_sl, isCellA_d, safe_d]
termination_by t
decreasing_by
  simp_wf
  have := List.sizeOf_lt_of_mem hs
  omega

/-! eqTerm, of a term with itself -/
theorem eqTermS_of (l : List T) (hl : l.length ≤ 1099511627776) (hc : ∀ t, t ∈ l → callX XV 5 [.d (t.enc .sub), .d (t.enc .sub)] [] = some (.d (.bool true), [])) :
    callX XV 7 [.d (terms .sub l), .d (terms .sub l)] [] = some (.d (.bool true), []) := by
  rw [z_call XV _ _ _ v7 rfl xcode_7 rfl]
  have hloop := loopX_upto (X := XV) (T := []) (L := 0) (live := [0, 1, 5]) (b := b7_0) (n := l.length) (γ := Unit) (st := fun (_ : Unit) i => ⟨[(0, .d (terms .sub l)), (1, .d (terms .sub l)), (5, .d (.int .i64 i))], []⟩) (step := fun _ _ => .inl ())
    (F := fun _ => (.exit 0, ⟨[(0, .d (terms .sub l)), (1, .d (terms .sub l)), (5, .d (.int .i64 l.length)), (14, .d (.bool false))], []⟩)) (R := fun _ => (.ret, ⟨[], []⟩))
    (fun _ => ⟨by simp, by simp [b7_0, r7_4]⟩)
    (fun _ i hi => by
      have hw := wrap_succ (n := i) (by omega)
      have hc' := hc _ (tAt_mem hi)
      refine ⟨_, by simp [b7_0, r7_4, r7_5, d7_6, r7_7, hi, hw, cut, tAt_lt hi, hc']; rfl, by simp [xheadOf, safeRegs]⟩)
    l.length () 0 ⟨[(0, .d (terms .sub l)), (1, .d (terms .sub l)), (5, .d (.int .i64 0))], []⟩ (by omega) (by simp [xheadOf, safeRegs])
  have hrun : ∀ k i, runN (fun (_ : Unit) (_ : Nat) => (Sum.inl () : Unit ⊕ Unit)) k () i = .inl () := by
    intro k; induction k with
    | zero => intro i; rfl
    | succ k ih => intro i; simp [runN, ih]
  rw [hrun] at hloop
  simp [v7, r7_0, r7_1, r7_2, r7_3, r7_8]
  rw [hloop]
  simp [r7_8]
theorem eqTerm_self (t : T) (hi : t.inner ≤ 1099511627776) : callX XV 5 [.d (t.enc .sub), .d (t.enc .sub)] [] = some (.d (.bool true), []) := by
  match t, hi with
  | .node f v ks, hi =>
    simp only [T.inner] at hi
    have hc := eqTermS_of ks (by omega) (fun s hs => eqTerm_self s (by have := T.inners_mem hs; omega))
    rw [z_call XV _ _ _ v5 rfl xcode_5 rfl]
    simp [v5, r5_0, r5_1, r5_2, r5_3, r5_4, r5_5, r5_6, r5_7, hc]
termination_by t
decreasing_by
  simp_wf
  have := List.sizeOf_lt_of_mem hs
  omega

/-! ### The order of terms -/
mutual
def T.cmp : T → T → Int
  | .node f v ks, .node f' v' ks' =>
    if f < f' then -1 else if f > f' then 1 else if v < v' then -1 else if v > v' then 1 else
    if ks.length < ks'.length then -1 else if ks.length > ks'.length then 1 else T.cmps ks ks'
def T.cmps : List T → List T → Int
  | a :: as, b :: bs => if T.cmp a b ≠ 0 then T.cmp a b else T.cmps as bs
  | _, _ => 0
end
def stepC (l m : List T) (_ : Unit) (i : Nat) : Unit ⊕ Int := if T.cmp (tAt l i) (tAt m i) ≠ 0 then .inr (T.cmp (tAt l i) (tAt m i)) else .inl ()
theorem runC (l m : List T) (hl : l.length = m.length) : ∀ (k i : Nat), i + k = l.length → runN (stepC l m) k () i = if T.cmps (l.drop i) (m.drop i) = 0 then .inl () else .inr (T.cmps (l.drop i) (m.drop i))
  | 0, i, h => by
    have h1 : l.drop i = [] := List.drop_eq_nil_of_le (by omega)
    simp [runN, h1, T.cmps]
  | k + 1, i, h => by
    have hlt : i < l.length := by omega
    have hlt' : i < m.length := by omega
    rw [List.drop_eq_getElem_cons hlt, List.drop_eq_getElem_cons hlt', tAt_lt hlt, tAt_lt hlt']
    simp only [runN, stepC, T.cmps]
    by_cases hc : T.cmp (tAt l i) (tAt m i) = 0
    · simp only [hc, ne_eq, not_true_eq_false, if_false]
      exact runC l m hl k (i + 1) (by omega)
    · simp [hc]
def pairAt (a b c d e f : Int) (i : Nat) : Int × Int := if i = 0 then (a, b) else if i = 1 then (c, d) else (e, f)
def stepP (a b c d e f : Int) (_ : Unit) (i : Nat) : Unit ⊕ (Int × (Int × Int)) := if (pairAt a b c d e f i).1 < (pairAt a b c d e f i).2 then .inr (-1, pairAt a b c d e f i) else if (pairAt a b c d e f i).1 > (pairAt a b c d e f i).2 then .inr (1, pairAt a b c d e f i) else .inl ()
def cmpB (f v : Int) (ks : List T) (f' v' : Int) (ks' : List T) : Boxs := [some [.d (.int .i64 f), .d (.int .i64 v), .d (terms .sub ks)], some [.d (.int .i64 f'), .d (.int .i64 v'), .d (terms .sub ks')]]
def cmpR (a b c d e f : Int) : List DV := [.agg [.int .i64 a, .int .i64 b], .agg [.int .i64 c, .int .i64 d], .agg [.int .i64 e, .int .i64 f]]
theorem cmpR_get (a b c d e f : Int) (i : Nat) (hi : i < 3) : (cmpR a b c d e f)[i]? = some (.agg [.int .i64 (pairAt a b c d e f i).1, .int .i64 (pairAt a b c d e f i).2]) := by
  match i, hi with
  | 0, _ => rfl
  | 1, _ => rfl
  | 2, _ => rfl
theorem compare_l1 (a b c d e f : Int) (B : Boxs) (hB : B.length = 2) :
    loopX XV [] 2 [2, 3, 26, 27, 28] b6_0 ⟨[(2, .ptr 0 0), (3, .ptr 1 0), (26, .d (.sl .sub (cmpR a b c d e f))), (27, .d (.int .i64 3)), (28, .d (.int .i64 0))], B⟩ =
      some (match runN (stepP a b c d e f) 3 () 0 with
        | .inl _ => (.exit 0, ⟨[(2, .ptr 0 0), (3, .ptr 1 0), (26, .d (.sl .sub (cmpR a b c d e f))), (27, .d (.int .i64 3)), (28, .d (.int .i64 3)), (29, .d (.bool false))], B⟩)
        | .inr r => (.ret, ⟨[(4, .d (.int .i64 r.1))], B ++ [some [.d (.int .i64 r.2.1), .d (.int .i64 r.2.2)]]⟩)) := by
  obtain ⟨x0, x1, rfl⟩ : ∃ x0 x1, B = [x0, x1] := by
    match B, hB with
    | [x0, x1], _ => exact ⟨x0, x1, rfl⟩
  have key := loopX_upto (X := XV) (T := []) (L := 2) (live := [2, 3, 26, 27, 28]) (b := b6_0) (n := 3) (γ := Int × (Int × Int)) (st := fun (_ : Unit) i => ⟨[(2, .ptr 0 0), (3, .ptr 1 0), (26, .d (.sl .sub (cmpR a b c d e f))), (27, .d (.int .i64 3)), (28, .d (.int .i64 i))], [x0, x1]⟩) (step := stepP a b c d e f)
    (F := fun _ => (.exit 0, ⟨[(2, .ptr 0 0), (3, .ptr 1 0), (26, .d (.sl .sub (cmpR a b c d e f))), (27, .d (.int .i64 3)), (28, .d (.int .i64 3)), (29, .d (.bool false))], [x0, x1]⟩)) (R := fun r => (.ret, ⟨[(4, .d (.int .i64 r.1))], [x0, x1] ++ [some [.d (.int .i64 r.2.1), .d (.int .i64 r.2.2)]]⟩))
    (fun _ => ⟨by simp, by simp [b6_0, r6_2]⟩)
    (fun _ i hi => by
      have hw := wrap_succ (n := i) (by omega)
      have hi' : (i : Int) < 3 := by omega
      have hb := cmpR_get a b c d e f i hi
      unfold stepP
      generalize pairAt a b c d e f i = q at hb
      obtain ⟨x, y⟩ := q
      simp only at hb ⊢
      by_cases h1 : x < y
      · rw [if_pos h1]
        refine ⟨by simp, ?_⟩
        simp [b6_0, r6_2, r6_3, r6_4, r6_5, hi', hb, cut, h1, isCell_int, splice, loadBox, isCellA_d, safe_d]
      · rw [if_neg h1]
        by_cases h2 : x > y
        · rw [if_pos h2]
          refine ⟨by simp, ?_⟩
          simp [b6_0, r6_2, r6_3, r6_4, r6_5, r6_6, r6_7, hi', hb, cut, h1, h2, isCell_int, splice, loadBox, isCellA_d, safe_d]
        · rw [if_neg h2]
          refine ⟨_, by simp [b6_0, r6_2, r6_3, r6_4, r6_5, r6_6, r6_7, r6_8, hi', hb, cut, h1, h2, hw, isCell_int, splice, loadBox, isCellA_d, safe_d]; rfl, ?_⟩
          simp [xheadOf, safeRegs])
    3 () 0 ⟨[(2, .ptr 0 0), (3, .ptr 1 0), (26, .d (.sl .sub (cmpR a b c d e f))), (27, .d (.int .i64 3)), (28, .d (.int .i64 0))], [x0, x1]⟩ (by omega) (by simp [xheadOf, safeRegs])
  rw [key]
  cases runN (stepP a b c d e f) 3 () 0 <;> rfl
theorem compare_l2 (f v : Int) (ks : List T) (f' v' : Int) (ks' : List T) (hl : ks.length ≤ 1099511627776) (hlen : ks.length = ks'.length)
    (hrec : ∀ s s', s ∈ ks → s' ∈ ks' → callX XV 6 [.d (s.enc .sub), .d (s'.enc .sub)] [] = some (.d (.int .i64 (T.cmp s s')), [])) :
    loopX XV [] 2 [2, 3, 47, 48] b6_1 ⟨[(2, .ptr 0 0), (3, .ptr 1 0), (47, .d (.int .i64 ks.length)), (48, .d (.int .i64 0))], cmpB f v ks f' v' ks'⟩ =
      some (if T.cmps ks ks' = 0 then (.exit 3, ⟨[(2, .ptr 0 0), (3, .ptr 1 0), (47, .d (.int .i64 ks.length)), (48, .d (.int .i64 ks.length)), (49, .d (.bool false))], cmpB f v ks f' v' ks'⟩) else (.ret, ⟨[(4, .d (.int .i64 (T.cmps ks ks')))], cmpB f v ks f' v' ks'⟩)) := by
  have h := loopX_upto (X := XV) (T := []) (L := 2) (live := [2, 3, 47, 48]) (b := b6_1) (n := ks.length) (γ := Int) (st := fun (_ : Unit) i => ⟨[(2, .ptr 0 0), (3, .ptr 1 0), (47, .d (.int .i64 ks.length)), (48, .d (.int .i64 i))], cmpB f v ks f' v' ks'⟩) (step := stepC ks ks')
    (F := fun _ => (.exit 3, ⟨[(2, .ptr 0 0), (3, .ptr 1 0), (47, .d (.int .i64 ks.length)), (48, .d (.int .i64 ks.length)), (49, .d (.bool false))], cmpB f v ks f' v' ks'⟩)) (R := fun r => (.ret, ⟨[(4, .d (.int .i64 r))], cmpB f v ks f' v' ks'⟩))
    (fun _ => ⟨by simp, by simp [b6_1, r6_10]⟩)
    (fun _ i hi => by
      have hw := wrap_succ (n := i) (by omega)
      have hi2 : i < ks'.length := by omega
      have hc := hrec _ _ (tAt_mem hi) (tAt_mem hi2)
      unfold stepC cmpB
      by_cases h0 : T.cmp (tAt ks i) (tAt ks' i) = 0
      · rw [h0] at hc ⊢
        simp only [ne_eq, not_true_eq_false, if_false]
        refine ⟨_, by simp [b6_1, r6_10, r6_11, d6_12, r6_13, r6_14, r6_15, hi, hi2, hw, cut, tAt_lt hi, tAt_lt hi2, hc, loadBox]; rfl, ?_⟩
        simp [xheadOf, safeRegs]
      · simp only [ne_eq, h0, not_false_eq_true, if_true]
        have h0' : (T.cmp (tAt ks i) (tAt ks' i) != 0) = true := by simp [h0]
        refine ⟨by simp, ?_⟩
        simp [b6_1, r6_10, r6_11, d6_12, r6_13, r6_14, r6_15, hi, hi2, hw, cut, tAt_lt hi, tAt_lt hi2, hc, loadBox, h0'])
    ks.length () 0 ⟨[(2, .ptr 0 0), (3, .ptr 1 0), (47, .d (.int .i64 ks.length)), (48, .d (.int .i64 0))], cmpB f v ks f' v' ks'⟩ (by omega) (by simp [xheadOf, safeRegs, cmpB])
  rw [runC ks ks' hlen _ _ (by omega)] at h
  simp only [List.drop_zero] at h
  rw [h]
  by_cases h0 : T.cmps ks ks' = 0 <;> simp [h0]
def cmpP (a b c d e f : Int) (r : Int) : Int := if a < b then -1 else if a > b then 1 else if c < d then -1 else if c > d then 1 else if e < f then -1 else if e > f then 1 else r
theorem runP (a b c d e f : Int) : (runN (stepP a b c d e f) 3 () 0 = .inl () ∧ a = b ∧ c = d ∧ e = f) ∨ ∃ r, runN (stepP a b c d e f) 3 () 0 = .inr r ∧ ∀ z, cmpP a b c d e f z = r.1 := by
  simp only [runN, stepP, pairAt, cmpP]
  by_cases c1 : a < b
  · right; refine ⟨_, by simp [c1]; rfl, fun z => ?_⟩; simp [c1]
  by_cases c2 : a > b
  · right; refine ⟨_, by simp [c1, c2]; rfl, fun z => ?_⟩; simp [c1, c2]
  by_cases c3 : c < d
  · right; refine ⟨_, by simp [c1, c2, c3]; rfl, fun z => ?_⟩; simp [c1, c2, c3]
  by_cases c4 : c > d
  · right; refine ⟨_, by simp [c1, c2, c3, c4]; rfl, fun z => ?_⟩; simp [c1, c2, c3, c4]
  by_cases c5 : e < f
  · right; refine ⟨_, by simp [c1, c2, c3, c4, c5]; rfl, fun z => ?_⟩; simp [c1, c2, c3, c4, c5]
  by_cases c6 : e > f
  · right; refine ⟨_, by simp [c1, c2, c3, c4, c5, c6]; rfl, fun z => ?_⟩; simp [c1, c2, c3, c4, c5, c6]
  left
  exact ⟨by simp [c1, c2, c3, c4, c5, c6], by omega, by omega, by omega⟩
theorem cmp_node (f v : Int) (ks : List T) (f' v' : Int) (ks' : List T) : T.cmp (.node f v ks) (.node f' v' ks') = cmpP f f' v v' ks.length ks'.length (T.cmps ks ks') := by
  simp only [T.cmp, cmpP, Int.ofNat_lt, gt_iff_lt]
theorem compare_of (f v : Int) (ks : List T) (f' v' : Int) (ks' : List T) (hl : ks.length ≤ 1099511627776) (hl' : ks'.length ≤ 1099511627776)
    (hrec : ∀ s s', s ∈ ks → s' ∈ ks' → callX XV 6 [.d (s.enc .sub), .d (s'.enc .sub)] [] = some (.d (.int .i64 (T.cmp s s')), [])) :
    callX XV 6 [.d ((T.node f v ks).enc .sub), .d ((T.node f' v' ks').enc .sub)] [] = some (.d (.int .i64 (T.cmp (.node f v ks) (.node f' v' ks'))), []) := by
  rw [z_call XV _ _ _ v6 rfl xcode_6 rfl]
  have h1 := compare_l1 f f' v v' ks.length ks'.length (cmpB f v ks f' v' ks') rfl
  simp [v6, r6_0, r6_1, isCell_int, isCell_sl, isCellA_d, safe_d, splice, loadBox, buildRow, List.replicate]
  simp only [cmpR, cmpB] at h1
  rw [h1, cmp_node]
  rcases runP f f' v v' ks.length ks'.length with ⟨h3, e1, e2, e3⟩ | ⟨r, h3, h4⟩
  · rw [h3]
    have hlen : ks.length = ks'.length := by omega
    have h2 := compare_l2 f v ks f' v' ks' hl hlen hrec
    simp only [cmpB] at h2
    subst e1; subst e2
    simp [r6_9, loadBox]
    rw [h2]
    have h5 : cmpP f f v v ks.length ks'.length (T.cmps ks ks') = T.cmps ks ks' := by simp [cmpP, hlen]
    rw [h5]
    by_cases c7 : T.cmps ks ks' = 0
    · simp [c7, r6_16]
    · simp [c7]
  · rw [h3, h4]; simp
theorem compare_eq (a b : T) (ha : a.inner ≤ 1099511627776) (hb : b.inner ≤ 1099511627776) : callX XV 6 [.d (a.enc .sub), .d (b.enc .sub)] [] = some (.d (.int .i64 (T.cmp a b)), []) := by
  match a, b, ha, hb with
  | .node f v ks, .node f' v' ks', ha, hb =>
    simp only [T.inner] at ha hb
    exact compare_of f v ks f' v' ks' (by omega) (by omega) (fun s s' hs hs' => compare_eq s s' (by have := T.inners_mem hs; omega) (by have := T.inners_mem hs'; omega))
termination_by a
decreasing_by
  simp_wf
  have := List.sizeOf_lt_of_mem hs
  omega
end Go.Proofs.Ytnjgnjejkmcgmaa.VS
namespace Go.Proofs.Ytnjgnjejkmcgmaa.VS
set_option linter.unusedVariables false
set_option linter.unusedSimpArgs false
/-! ## The order of terms is total -/
mutual
theorem cmp_neg : ∀ a b : T, T.cmp a b = -(T.cmp b a)
  | .node f v ks, .node f' v' ks' => by
    have h := cmps_neg ks ks'
    simp only [T.cmp]
    repeat' split
    all_goals first | omega | exact h
theorem cmps_neg : ∀ a b : List T, T.cmps a b = -(T.cmps b a)
  | [], [] => rfl
  | [], _ :: _ => rfl
  | _ :: _, [] => rfl
  | x :: xs, y :: ys => by
    have h1 := cmp_neg x y
    have h2 := cmps_neg xs ys
    simp only [T.cmps]
    repeat' split
    all_goals omega
end
mutual
theorem cmp_zr : ∀ a b : T, T.cmp a b = 0 → a = b
  | .node f v ks, .node f' v' ks', h => by
    simp only [T.cmp] at h
    repeat' split at h
    all_goals first | omega | skip
    have h1 := cmps_zr ks ks' (by omega) h
    have h2 : f = f' := by omega
    have h3 : v = v' := by omega
    rw [h1, h2, h3]
theorem cmps_zr : ∀ a b : List T, a.length = b.length → T.cmps a b = 0 → a = b
  | [], [], _, _ => rfl
  | [], _ :: _, h, _ => by simp at h
  | _ :: _, [], h, _ => by simp at h
  | x :: xs, y :: ys, hl, h => by
    simp only [T.cmps] at h
    split at h
    · omega
    · rename_i h0
      rw [cmp_zr x y (by omega), cmps_zr xs ys (by simpa using hl) h]
end
mutual
theorem cmp_lt : ∀ a b c : T, T.cmp a b < 0 → T.cmp b c < 0 → T.cmp a c < 0
  | .node f v ks, .node f' v' ks', .node f2 v2 ks2, h1, h2 => by
    simp only [T.cmp] at h1 h2 ⊢
    by_cases e1 : f < f'
    · have : f' ≤ f2 := by
        apply Classical.byContradiction; intro h
        rw [if_neg (by omega), if_pos (by omega)] at h2; omega
      rw [if_pos (by omega)]; omega
    · have e1' : f = f' := by
        apply Classical.byContradiction; intro h
        rw [if_neg e1, if_pos (by omega)] at h1; omega
      subst e1'
      by_cases e2 : f < f2
      · rw [if_pos e2]; omega
      · have e2' : f = f2 := by
          apply Classical.byContradiction; intro h
          rw [if_neg e2, if_pos (by omega)] at h2; omega
        subst e2'
        simp only [Int.lt_irrefl, gt_iff_lt, if_false] at h1 h2 ⊢
        by_cases e3 : v < v'
        · have : v' ≤ v2 := by
            apply Classical.byContradiction; intro h
            rw [if_neg (by omega), if_pos (by omega)] at h2; omega
          rw [if_pos (by omega)]; omega
        · have e3' : v = v' := by
            apply Classical.byContradiction; intro h
            rw [if_neg e3, if_pos (by omega)] at h1; omega
          subst e3'
          by_cases e4 : v < v2
          · rw [if_pos e4]; omega
          · have e4' : v = v2 := by
              apply Classical.byContradiction; intro h
              rw [if_neg e4, if_pos (by omega)] at h2; omega
            subst e4'
            simp only [Int.lt_irrefl, gt_iff_lt, if_false] at h1 h2 ⊢
            by_cases e5 : ks.length < ks'.length
            · have : ks'.length ≤ ks2.length := by
                apply Classical.byContradiction; intro h
                rw [if_neg (by omega), if_pos (by omega)] at h2; omega
              rw [if_pos (by omega)]; omega
            · have e5' : ks.length = ks'.length := by
                apply Classical.byContradiction; intro h
                rw [if_neg e5, if_pos (by omega)] at h1; omega
              by_cases e6 : ks.length < ks2.length
              · rw [if_pos e6]; omega
              · have e6' : ks.length = ks2.length := by
                  apply Classical.byContradiction; intro h
                  rw [if_neg (by omega), if_pos (by omega)] at h2; omega
                rw [if_neg (by omega), if_neg (by omega)] at h1 h2 ⊢
                exact cmps_lt ks ks' ks2 e5' (by omega) h1 h2
theorem cmps_lt : ∀ a b c : List T, a.length = b.length → b.length = c.length → T.cmps a b < 0 → T.cmps b c < 0 → T.cmps a c < 0
  | [], [], _, _, _, h, _ => by simp [T.cmps] at h
  | [], _ :: _, _, h, _, _, _ => by simp at h
  | _ :: _, [], _, h, _, _, _ => by simp at h
  | x :: xs, y :: ys, [], _, h, _, _ => by simp at h
  | x :: xs, y :: ys, z :: zs, l1, l2, h1, h2 => by
    simp only [T.cmps] at h1 h2 ⊢
    have t1 := cmp_lt x y z
    by_cases c1 : T.cmp x y = 0
    · have := cmp_zr x y c1
      subst this
      by_cases c2 : T.cmp x z = 0
      · simp only [c1, c2, ne_eq, not_true_eq_false, if_false] at h1 h2 ⊢
        exact cmps_lt xs ys zs (by simpa using l1) (by simpa using l2) h1 h2
      · simp only [c2, ne_eq, not_false_eq_true, if_true] at h2 ⊢
        exact h2
    · simp only [c1, ne_eq, not_false_eq_true, if_true] at h1
      by_cases c2 : T.cmp y z = 0
      · have := cmp_zr y z c2
        subst this
        simp only [c1, ne_eq, not_false_eq_true, if_true]
        exact h1
      · simp only [c2, ne_eq, not_false_eq_true, if_true] at h2
        have h3 := t1 h1 h2
        have c3 : T.cmp x z ≠ 0 := by omega
        simp only [c3, ne_eq, not_false_eq_true, if_true]
        exact h3
end
def tle (a b : T) : Prop := T.cmp a b ≤ 0
theorem tle_refl (a : T) : tle a a := by
  have := cmp_neg a a; unfold tle; omega
theorem tle_trans {a b c : T} (h1 : tle a b) (h2 : tle b c) : tle a c := by
  unfold tle at *
  by_cases c1 : T.cmp a b = 0
  · rw [cmp_zr a b c1]; exact h2
  by_cases c2 : T.cmp b c = 0
  · rw [← cmp_zr b c c2]; exact h1
  have := cmp_lt a b c (by omega) (by omega); omega
theorem tle_antisymm {a b : T} (h1 : tle a b) (h2 : tle b a) : a = b := by
  have := cmp_neg a b; unfold tle at *
  exact cmp_zr a b (by omega)
theorem tle_of_not_lt {a b : T} (h : ¬ T.cmp a b < 0) : tle b a := by
  have := cmp_neg a b; unfold tle; omega
theorem tle_of_lt {a b : T} (h : T.cmp a b < 0) : tle a b := by unfold tle; omega
/-- A row in order. -/
def Srt (l : List T) : Prop := l.Pairwise tle
theorem srt_perm {a b : List T} (h1 : Srt a) (h2 : Srt b) (h : a.Perm b) : a = b := List.Perm.eq_of_pairwise (fun _ _ _ _ => tle_antisymm) h1 h2 h
end Go.Proofs.Ytnjgnjejkmcgmaa.VS
namespace Go.Proofs.Ytnjgnjejkmcgmaa.VS
set_option linter.unusedVariables false
set_option linter.unusedSimpArgs false
theorem set_at {α : Type} (B : List α) (x v : α) (r : List α) : (B ++ x :: r).set B.length v = B ++ v :: r := by simp
theorem get_at {α : Type} (B : List α) (x : α) (r : List α) : (B ++ x :: r)[B.length]? = some x := by simp
theorem take_at {α : Type} (B r : List α) : (B ++ r).take B.length = B := by simp
theorem head_cut {L : Nat} {live : List Nat} {s : XS} {r' : List (Nat × AV)} {B e : Boxs} (h : keep s.r live = r') (hs : safeRegs L r' = true) (hl : B.length = L) (he : s.B = B ++ e) : xheadOf L live s = some ⟨r', B⟩ := by
  unfold xheadOf
  rw [h, he, if_pos ⟨hs, by simp; omega⟩, ← hl, take_at]
end Go.Proofs.Ytnjgnjejkmcgmaa.VS
namespace Go.Proofs.Ytnjgnjejkmcgmaa.VS
set_option linter.unusedVariables false
set_option linter.unusedSimpArgs false
theorem cmp_zero (f v : Int) (ks : List T) (f' v' : Int) (ks' : List T) : T.cmp (.node f v ks) (.node f' v' ks') = 0 ↔ f = f' ∧ v = v' ∧ ks.length = ks'.length ∧ T.cmps ks ks' = 0 := by
  rw [cmp_node]; unfold cmpP
  constructor
  · intro h
    iterate 6 (split at h; · omega)
    exact ⟨by omega, by omega, by omega, h⟩
  · rintro ⟨rfl, rfl, h, h'⟩
    simp [h, h']
theorem specSame_of (f v : Int) (ks : List T) (f' v' : Int) (ks' : List T) (hl : ks.length ≤ 1099511627776) (hl' : ks'.length ≤ 1099511627776)
    (hrec : ∀ s s', s ∈ ks → s' ∈ ks' → callX XV 3 [.d (s.enc .sub), .d (s'.enc .sub)] [] = some (.d (.bool (T.cmp s s' == 0)), [])) :
    callX XV 3 [.d ((T.node f v ks).enc .sub), .d ((T.node f' v' ks').enc .sub)] [] = some (.d (.bool (T.cmp (.node f v ks) (.node f' v' ks') == 0)), []) := by
  rw [z_call XV _ _ _ v3 rfl xcode_3 rfl]
  have hz := cmp_zero f v ks f' v' ks'
  have ne : ¬ (f = f' ∧ v = v' ∧ ks.length = ks'.length ∧ T.cmps ks ks' = 0) → (T.cmp (.node f v ks) (.node f' v' ks') == 0) = false := fun h => by
    rw [← hz] at h; simpa using h
  have hlc : (ks.length : Int) = ks'.length ↔ ks.length = ks'.length := by omega
  by_cases c1 : f = f'
  case neg =>
    rw [ne (fun h => c1 h.1)]
    have b1 : (f != f') = true := by simp [c1]
    simp [v3, r3_0, r3_1, r3_2, b1]
  by_cases c2 : v = v'
  case neg =>
    rw [ne (fun h => c2 h.2.1)]
    have b2 : (v != v') = true := by simp [c2]
    simp [v3, r3_0, r3_1, r3_2, c1, b2]
  by_cases c3 : ks.length = ks'.length
  case neg =>
    rw [ne (fun h => c3 h.2.2.1)]
    have b3 : ((ks.length : Int) != ks'.length) = true := by simp; omega
    simp [v3, r3_0, r3_1, r3_2, c1, c2, b3]
  have h := loopX_upto (X := XV) (T := []) (L := 2) (live := [2, 3, 5]) (b := b3_0) (n := ks.length) (γ := Int) (st := fun (_ : Unit) i => ⟨[(2, .ptr 0 0), (3, .ptr 1 0), (5, .d (.int .i64 i))], cmpB f v ks f' v' ks'⟩) (step := stepC ks ks')
    (F := fun _ => (.exit 0, ⟨[(2, .ptr 0 0), (3, .ptr 1 0), (5, .d (.int .i64 ks.length)), (31, .d (.bool false))], cmpB f v ks f' v' ks'⟩)) (R := fun r => (.ret, ⟨[(4, .d (.bool false))], cmpB f v ks f' v' ks'⟩))
    (fun _ => ⟨by simp, by simp [b3_0, r3_4, cmpB]⟩)
    (fun _ i hi => by
      have hw := wrap_succ (n := i) (by omega)
      have hi2 : i < ks'.length := by omega
      have hc := hrec _ _ (tAt_mem hi) (tAt_mem hi2)
      unfold stepC cmpB
      by_cases h0 : T.cmp (tAt ks i) (tAt ks' i) = 0
      · rw [h0] at hc ⊢
        simp only [ne_eq, not_true_eq_false, if_false]
        refine ⟨_, by simp [b3_0, r3_4, r3_5, d3_6, r3_7, hi, hi2, hw, cut, tAt_lt hi, tAt_lt hi2, hc]; rfl, ?_⟩
        simp [xheadOf, safeRegs]
      · simp only [ne_eq, h0, not_false_eq_true, if_true]
        have h0' : (T.cmp (tAt ks i) (tAt ks' i) == 0) = false := by simp [h0]
        rw [h0'] at hc
        refine ⟨by simp, ?_⟩
        simp [b3_0, r3_4, r3_5, d3_6, r3_7, hi, hi2, hw, cut, tAt_lt hi, tAt_lt hi2, hc])
    ks.length () 0 ⟨[(2, .ptr 0 0), (3, .ptr 1 0), (5, .d (.int .i64 0))], cmpB f v ks f' v' ks'⟩ (by omega) (by simp [xheadOf, safeRegs, cmpB])
  rw [runC ks ks' c3 _ _ (by omega)] at h
  simp only [List.drop_zero, cmpB] at h
  simp [v3, r3_0, r3_1, r3_2, r3_3, c1, c2, hlc, c3]
  subst c1; subst c2
  rw [c3] at h
  rw [h]
  by_cases h0 : T.cmps ks ks' = 0
  · have : T.cmp (.node f v ks) (.node f v ks') = 0 := hz.2 ⟨rfl, rfl, c3, h0⟩
    simp [h0, r3_8, this]
  · have : ¬ T.cmp (.node f v ks) (.node f v ks') = 0 := fun h => h0 (hz.1 h).2.2.2
    simp [h0, r3_8, this]
theorem specSame_eq (a b : T) (ha : a.inner ≤ 1099511627776) (hb : b.inner ≤ 1099511627776) : callX XV 3 [.d (a.enc .sub), .d (b.enc .sub)] [] = some (.d (.bool (T.cmp a b == 0)), []) := by
  match a, b, ha, hb with
  | .node f v ks, .node f' v' ks', ha, hb =>
    simp only [T.inner] at ha hb
    exact specSame_of f v ks f' v' ks' (by omega) (by omega) (fun s s' hs hs' => specSame_eq s s' (by have := T.inners_mem hs; omega) (by have := T.inners_mem hs'; omega))
termination_by a
decreasing_by
  simp_wf
  have := List.sizeOf_lt_of_mem hs
  omega
theorem leftOf_neg {left : Int} {n : Nat} (h : left - n < 0) : leftOf left n = -1 := by unfold leftOf; rw [if_pos h]
theorem leftOf_pos {left : Int} {n : Nat} (h : ¬ left - n < 0) : leftOf left n = left - n := by unfold leftOf; rw [if_neg h]
end Go.Proofs.Ytnjgnjejkmcgmaa.VS
namespace Go.Proofs.Ytnjgnjejkmcgmaa.VS
set_option linter.unusedVariables false
set_option linter.unusedSimpArgs false
mutual
def T.sum (w : T → Int) : T → Int
  | .node f v ks => w (.node f v ks) + T.sums w ks
def T.sums (w : T → Int) : List T → Int
  | [] => 0
  | t :: r => T.sum w t + T.sums w r
end
/-! Parts -/
end Go.Proofs.Ytnjgnjejkmcgmaa.VS
namespace Go.Proofs.Ytnjgnjejkmcgmaa.VS
set_option linter.unusedVariables false
set_option linter.unusedSimpArgs false
theorem isVar_eq (t : T) : callX XV 75 [.d (t.enc .sub)] [] = some (.d (.bool (t.f == -1)), []) := by
  rw [z_call XV _ _ _ v75 rfl xcode_75 rfl]
  simp [v75, r75_0, r75_1]
end Go.Proofs.Ytnjgnjejkmcgmaa.VS
namespace Go.Proofs.Ytnjgnjejkmcgmaa.VS
set_option linter.unusedVariables false
set_option linter.unusedSimpArgs false
/-! ### Rows that are filled, of any elements -/
def rowG (es : List DV) (z : DV) (i : Nat) : List AV := rowCells (Go.Proofs.Ytnjgnjejkmcgmaa.VS.filled es z i)
theorem rowG_len {sz : Nat} {es : List DV} {z : DV} (h : ∀ x : DV, x ∈ es → x.cells.length = sz) (hz : z.cells.length = sz) (i : Nat) : (rowG es z i).length = es.length * sz := by
  unfold rowG; rw [rowCells_len (filled_cells h hz i), filled_len]
theorem rowG_set {sz : Nat} {es : List DV} {z : DV} (h : ∀ x : DV, x ∈ es → x.cells.length = sz) (hz : z.cells.length = sz) (i : Nat) (hi : i < es.length) : splice (rowG es z i) (i * sz) (es[i].cells.map .d) = rowG es z (i + 1) := by
  have h1 := splice_row (i := i) (filled_cells h hz i) (e := es[i]) (h _ (List.getElem_mem hi)) (by rw [filled_len]; exact hi)
  unfold rowG
  rw [h1, filled_set es z i hi]
theorem rowG_zero (es : List DV) (z : DV) : rowG es z 0 = ((List.replicate es.length z).flatMap DV.cells).map .d := by
  unfold rowG; rw [filled_zero]; simp [rowCells, flat]
theorem rowG_all (es : List DV) (z : DV) : rowG es z es.length = rowCells es := by
  unfold rowG; rw [filled_all]
theorem run_on (k i : Nat) : runN (fun (_ : Unit) (_ : Nat) => (Sum.inl () : Unit ⊕ Unit)) k () i = .inl () := by
  induction k generalizing i with
  | zero => rfl
  | succ k ih => simp [runN, ih]
/-! ### Sizes -/
def stepW (w : Nat → Nat) (left : Int) (i : Nat) : Int ⊕ Unit := if left - w i < 0 then .inr () else .inl (left - w i)
def sumW (w : Nat → Nat) : Nat → Nat → Nat
  | _, 0 => 0
  | i, k + 1 => w i + sumW w (i + 1) k
theorem runW (w : Nat → Nat) : ∀ (k i : Nat) (left : Int), 0 ≤ left → runN (stepW w) k left i = if left - sumW w i k < 0 then .inr () else .inl (left - sumW w i k)
  | 0, i, left, h0 => by
    have h1 : ¬ left < 0 := by omega
    simp [runN, sumW, h1]
  | k + 1, i, left, h0 => by
    simp only [runN, stepW, sumW]
    by_cases h1 : left - w i < 0
    · have h2 : left - (w i + sumW w (i + 1) k : Nat) < 0 := by omega
      simp only [h1, h2, if_true]
    · simp only [h1, if_false]
      rw [runW w k _ _ (by omega)]
      have e : left - w i - (sumW w (i + 1) k : Int) = left - (w i + sumW w (i + 1) k : Nat) := by omega
      rw [e]; rfl
/-! ### Signatures -/
@[simp] theorem isAgg_agg (cs : List DV) : isAgg (.agg cs) = true := rfl
@[simp] theorem isAgg_int (k : IntKind) (n : Int) : isAgg (.int k n) = false := rfl
@[simp] theorem cn_symE (s : SymL) : s.enc.cn = s.enc := by simp [SymL.enc, SymL.cells]
@[simp] theorem isAgg_sym (s : SymL) : isAgg s.enc = true := rfl
@[simp] theorem clr_symE (s : SymL) : s.enc.clr = s.enc := by simp [SymL.enc, SymL.cells]
@[simp] theorem cells_symE (s : SymL) : s.enc.cells = [.str s.name, .int .i64 s.arity, .bool s.ac] := rfl
@[simp] theorem cellsA_symE (s : SymL) : (AV.d s.enc).cells = [.d (.str s.name), .d (.int .i64 s.arity), .d (.bool s.ac)] := rfl
@[simp] theorem isCell_symE (s : SymL) : s.enc.isCell = false := rfl
@[simp] theorem agg_symE (n : ByteArray) (a : Int) (b : Bool) : DV.agg [.str n, .int .i64 a, .bool b] = SymL.enc ⟨n, a, b⟩ := rfl
@[simp high] theorem clr_symsE (l : List SymL) : (l.map SymL.enc).map DV.clr = l.map SymL.enc := by simp [List.map_map, Function.comp_def]
def symAt (l : List SymL) (i : Nat) : SymL := (l[i]?).getD ⟨⟨#[]⟩, 0, false⟩
theorem symAt_lt {l : List SymL} {i : Nat} (h : i < l.length) : l[i] = symAt l i := by simp [symAt, h]
theorem symAt_mem {l : List SymL} {i : Nat} (h : i < l.length) : symAt l i ∈ l := by rw [← symAt_lt h]; exact List.getElem_mem h
abbrev sg (l : List SymL) : DV := .sl .sub (l.map SymL.enc)
theorem szSym_eq (s : SymL) (left : Int) (h0 : 0 ≤ left) (h1 : left ≤ 1099511627776) (hs : s.name.size ≤ maxLen) : callX XV 17 [.d s.enc, .d (.int .i64 left)] [] = some (.d (.int .i64 (leftOf left s.name.size)), []) := by
  rw [z_call XV _ _ _ v17 rfl xcode_17 rfl]
  have hw : IntKind.i64.wrap (left - s.name.size) = left - s.name.size := wrap_i64 (by unfold maxLen at hs; omega) (by omega)
  unfold leftOf
  by_cases h : left - s.name.size < 0
  · simp [v17, r17_0, r17_1, r17_2, r17_3, r17_4, hw, h]
  · simp [v17, r17_0, r17_1, r17_2, r17_3, r17_4, hw, h]
def symsSize (l : List SymL) : Nat := l.length + sumW (fun i => (symAt l i).name.size) 0 l.length
theorem szSymS_eq (l : List SymL) (left : Int) (hl : l.length ≤ maxLen) (ho : ∀ s, s ∈ l → s.ok) (h0 : 0 ≤ left) (h1 : left ≤ 1099511627776) : callX XV 11 [.d (sg l), .d (.int .i64 left)] [] = some (.d (.int .i64 (leftOf left (symsSize l))), []) := by
  rw [z_call XV _ _ _ v11 rfl xcode_11 rfl]
  have hw : IntKind.i64.wrap (left - l.length) = left - l.length := wrap_i64 (by unfold maxLen at hl; omega) (by omega)
  unfold symsSize
  generalize hwd : (fun i => (symAt l i).name.size) = w
  by_cases h : left - l.length < 0
  · rw [leftOf_neg (by omega)]
    simp [v11, r11_0, r11_1, r11_2, r11_3, r11_4, r11_5, r11_7, r11_8, r11_9, r11_6, r11_10, hw, h]
  · have hloop := loopX_inv (X := XV) (T := []) (L := 0) (live := [0, 1, 5]) (b := b11_0) (n := l.length) (γ := Unit) (st := fun (left : Int) i => ⟨[(0, .d (sg l)), (1, .d (.int .i64 left)), (5, .d (.int .i64 i))], []⟩) (step := stepW w)
      (F := fun left => (.exit 0, ⟨[(0, .d (sg l)), (1, .d (.int .i64 left)), (5, .d (.int .i64 l.length)), (15, .d (.bool false))], []⟩)) (R := fun _ => (.ret, ⟨[(4, .d (.int .i64 (-1)))], []⟩))
      (fun left _ => 0 ≤ left ∧ left ≤ 1099511627776)
      (fun left _ => ⟨by simp, by simp [b11_0, r11_0, r11_1, r11_2, r11_3, r11_4, r11_5, r11_7, r11_8, r11_9, r11_6, r11_10]⟩)
      (fun left i hi hinv => by
        have hw := wrap_succ (n := i) (by unfold maxLen at hl; omega)
        have hc' := szSym_eq (symAt l i) left hinv.1 hinv.2 (ho _ (symAt_mem hi)).1
        subst hwd
        unfold stepW
        simp only
        by_cases h2 : left - (symAt l i).name.size < 0
        · rw [leftOf_neg h2] at hc'
          simp only [h2, if_true]
          refine ⟨⟨by simp, ?_⟩, fun a' h => by simp at h⟩
          simp [b11_0, r11_0, r11_1, r11_2, r11_3, r11_4, r11_5, r11_7, r11_8, r11_9, r11_6, r11_10, hi, hw, cut, symAt_lt hi, hc']
        · rw [leftOf_pos h2] at hc'
          simp only [h2, if_false]
          refine ⟨⟨_, by simp [b11_0, r11_0, r11_1, r11_2, r11_3, r11_4, r11_5, r11_7, r11_8, r11_9, r11_6, r11_10, hi, hw, cut, symAt_lt hi, hc', h2]; rfl, by simp [xheadOf, safeRegs]⟩, fun a' h => by simp at h; subst h; exact ⟨by omega, by omega⟩⟩)
      l.length (left - l.length) 0 ⟨[(0, .d (sg l)), (1, .d (.int .i64 (left - l.length))), (5, .d (.int .i64 0))], []⟩ (by omega) ⟨by omega, by omega⟩ (by simp [xheadOf, safeRegs])
    rw [runW _ _ _ _ (by omega)] at hloop
    simp [v11, r11_0, r11_1, r11_2, r11_3, r11_4, r11_5, r11_7, r11_8, r11_9, r11_6, r11_10, hw, h]
    rw [hloop]
    by_cases h3 : left - l.length - sumW w 0 l.length < 0
    · rw [leftOf_neg (by omega)]; simp [h3]
    · rw [leftOf_pos (by omega)]
      simp [h3, v11, r11_0, r11_1, r11_2, r11_3, r11_4, r11_5, r11_7, r11_8, r11_9, r11_6, r11_10]; omega
theorem symEncs_ok (l : List SymL) : ∀ x : DV, x ∈ l.map SymL.enc → elemOK true 3 x := by
  intro x hx; simp only [List.mem_map] at hx; obtain ⟨n, _, rfl⟩ := hx; exact ⟨rfl, rfl, fun _ => ⟨_, rfl⟩, by simp⟩
theorem toSym_eq (s : SymL) : callX XV 16 [.d s.enc] [] = some (.d s.enc, []) := by
  rw [z_call XV _ _ _ v16 rfl xcode_16 rfl]
  simp [v16, r16_0, r16_1, r16_2, r16_3, r16_4, r16_5, splice]
def zS : DV := .agg [.str ⟨#[]⟩, .int .i64 0, .bool false]
theorem toSymS_eq (l : List SymL) (hl : l.length ≤ 1099511627776) : callX XV 12 [.d (sg l)] [] = some (.d (.sl U (l.map SymL.enc)), []) := by
  rw [z_call XV _ _ _ v12 rfl xcode_12 rfl]
  have hcell : ∀ x : DV, x ∈ l.map SymL.enc → x.cells.length = 3 := fun x hx => (symEncs_ok l x hx).1
  have hloop := loopX_upto (X := XV) (T := XV.lin 12) (L := 1) (live := [0, 3, 4]) (b := b12_0) (n := l.length) (γ := Unit) (st := fun (_ : Unit) i => ⟨[(0, .d (sg l)), (3, .bsl [] true 0 3 l.length), (4, .d (.int .i64 i))], [some (rowG (l.map SymL.enc) zS i)]⟩) (step := fun _ _ => .inl ())
    (F := fun _ => (.exit 0, ⟨[(0, .d (sg l)), (3, .bsl [] true 0 3 l.length), (4, .d (.int .i64 l.length)), (11, .d (.bool false))], [some (rowG (l.map SymL.enc) zS l.length)]⟩)) (R := fun _ => (.ret, ⟨[], []⟩))
    (fun _ => ⟨by simp, by simp [b12_0, r12_0, r12_1, r12_2, r12_3, r12_5, r12_4, r12_6]⟩)
    (fun _ i hi => by
      have hw := wrap_succ (n := i) (by omega)
      have hlen := rowG_len (z := zS) hcell rfl i
      have hset := rowG_set (z := zS) hcell rfl i (by simpa using hi)
      simp only [List.getElem_map, symAt_lt hi, cells_symE, List.map_cons, List.map_nil, List.length_map] at hset hlen
      have hle : i * 3 + 3 ≤ l.length * 3 := by omega
      have hc' := toSym_eq (symAt l i)
      exact ⟨_, by simp [b12_0, r12_0, r12_1, r12_2, r12_3, r12_5, r12_4, r12_6, hi, hw, cut, symAt_lt hi, hc', hlen, hle, hset]; rfl, by simp [xheadOf, safeRegs]⟩)
    l.length () 0 ⟨[(0, .d (sg l)), (3, .bsl [] true 0 3 l.length), (4, .d (.int .i64 0))], [some (rowG (l.map SymL.enc) zS 0)]⟩ (by omega) (by simp [xheadOf, safeRegs])
  rw [run_on, rowG_zero] at hloop
  have hch := chunks_row (l.map SymL.enc) (symEncs_ok l)
  have hfl : (flat (l.map SymL.enc)).length = l.length * 3 := by rw [flat_len hcell]; simp
  have hall := rowG_all (l.map SymL.enc) zS
  rw [List.length_map] at hch hall
  simp only [zS, lin_12, List.length_map] at hloop hall
  have hle2 : l.length * 32 ≤ 140737488355328 := by omega
  have hlt : (l.length : Int) < 9223372036854775808 := by omega
  have hlt2 : l.length < 9223372036854775808 := by omega
  simp [v12, r12_0, r12_1, r12_2, r12_3, r12_5, r12_4, r12_6, hle2, hlt]
  simp at hloop
  rw [hloop]
  simp at hall
  simp [hall, datas_row, hch, hfl, hlt2, v12, r12_0, r12_1, r12_2, r12_3, r12_5, r12_4, r12_6]

theorem strEq_self (a : ByteArray) : strEq a a = true := by simp [strEq]
@[simp] theorem evBin_seq (a b : ByteArray) : evBin .eql (.str a) (.str b) = some (.bool (strEq a b)) := rfl
@[simp] theorem evBin_sne (a b : ByteArray) : evBin .neq (.str a) (.str b) = some (.bool !(strEq a b)) := rfl
theorem eqSym_self (s : SymL) : callX XV 20 [.d s.enc, .d s.enc] [] = some (.d (.bool true), []) := by
  rw [z_call XV _ _ _ v20 rfl xcode_20 rfl]
  simp [v20, r20_0, r20_1, r20_2, r20_3, r20_4, r20_5, r20_6, r20_7, strEq_self]
theorem eqSymS_self (l : List SymL) (hl : l.length ≤ 1099511627776) : callX XV 15 [.d (sg l), .d (sg l)] [] = some (.d (.bool true), []) := by
  rw [z_call XV _ _ _ v15 rfl xcode_15 rfl]
  have hloop := loopX_upto (X := XV) (T := []) (L := 0) (live := [0, 1, 5]) (b := b15_0) (n := l.length) (γ := Unit) (st := fun (_ : Unit) i => ⟨[(0, .d (sg l)), (1, .d (sg l)), (5, .d (.int .i64 i))], []⟩) (step := fun _ _ => .inl ())
    (F := fun _ => (.exit 0, ⟨[(0, .d (sg l)), (1, .d (sg l)), (5, .d (.int .i64 l.length)), (14, .d (.bool false))], []⟩)) (R := fun _ => (.ret, ⟨[], []⟩))
    (fun _ => ⟨by simp, by simp [b15_0, r15_0, r15_1, r15_2, r15_3, r15_4, d15_6, r15_7, r15_5, r15_8]⟩)
    (fun _ i hi => by
      have hw := wrap_succ (n := i) (by omega)
      have hc' := eqSym_self (symAt l i)
      exact ⟨_, by simp [b15_0, r15_0, r15_1, r15_2, r15_3, r15_4, d15_6, r15_7, r15_5, r15_8, hi, hw, cut, symAt_lt hi, hc']; rfl, by simp [xheadOf, safeRegs]⟩)
    l.length () 0 ⟨[(0, .d (sg l)), (1, .d (sg l)), (5, .d (.int .i64 0))], []⟩ (by omega) (by simp [xheadOf, safeRegs])
  rw [run_on] at hloop
  simp [v15, r15_0, r15_1, r15_2, r15_3, r15_4, d15_6, r15_7, r15_5, r15_8]
  rw [hloop]
  simp [v15, r15_0, r15_1, r15_2, r15_3, r15_4, d15_6, r15_7, r15_5, r15_8]
/-! from, l1In, isSym, Blind, ArityOf -/
def inB (x lo hi : Int) : Bool := decide (lo ≤ x) && decide (x ≤ hi)
theorem from_eq (x lo hi : Int) : callX XV 30 [.d (.int .i64 x), .d (.int .i64 lo), .d (.int .i64 hi)] [] = some (.d (.bool (inB x lo hi)), []) := by
  rw [z_call XV _ _ _ v30 rfl xcode_30 rfl]
  unfold inB
  by_cases h : lo ≤ x
  · have h' : x ≥ lo := h
    simp [v30, r30_0, r30_1, h]
  · have h' : ¬ x ≥ lo := h
    simp [v30, r30_0, r30_1, h]
theorem l1In_eq (x lo hi : Int) : callX XV 31 [.d (.int .i64 x), .d (.int .i64 lo), .d (.int .i64 hi)] [] = some (.d (.bool (inB x lo hi)), []) := by
  rw [z_call XV _ _ _ v31 rfl xcode_31 rfl]
  unfold inB
  by_cases h : lo ≤ x
  · simp [v31, r31_0, r31_1, h]
  · simp [v31, r31_0, r31_1, h]
def symIn (l : List SymL) (f : Int) : Bool := inB f 0 (l.length - 1)
theorem symIn_lt {l : List SymL} {f : Int} (h : symIn l f = true) : 0 ≤ f ∧ f.toNat < l.length := by
  simp [symIn, inB] at h; omega
theorem isSym_eq (l : List SymL) (hl : l.length ≤ 1099511627776) (f : Int) : callX XV 29 [.d (sg l), .d (.int .i64 f)] [] = some (.d (.bool (symIn l f)), []) := by
  rw [z_call XV _ _ _ v29 rfl xcode_29 rfl]
  have hw : IntKind.i64.wrap ((l.length : Int) - 1) = l.length - 1 := wrap_i64 (by omega) (by omega)
  have h := from_eq f 0 (l.length - 1)
  simp [v29, r29_0, r29_1, hw, h, symIn]
def blindB (l : List SymL) (f : Int) : Bool := symIn l f && (symAt l f.toNat).ac
theorem implBlind_eq (l : List SymL) (hl : l.length ≤ 1099511627776) (f : Int) : callX XV 34 [.d (sg l), .d (.int .i64 f)] [] = some (.d (.bool (blindB l f)), []) := by
  rw [z_call XV _ _ _ v34 rfl xcode_34 rfl]
  have h := isSym_eq l hl f
  unfold blindB
  cases hs : symIn l f with
  | false =>
    rw [hs] at h
    simp [v34, r34_0, r34_1, h]
  | true =>
    rw [hs] at h
    obtain ⟨h1, h2⟩ := symIn_lt hs
    simp [v34, r34_0, r34_1, h, h1, h2, symAt_lt h2, cut]
theorem specBlind_eq (l : List SymL) (hl : l.length ≤ 1099511627776) (f : Int) : callX XV 33 [.d (sg l), .d (.int .i64 f)] [] = some (.d (.bool (blindB l f)), []) := by
  rw [z_call XV _ _ _ v33 rfl xcode_33 rfl]
  have hw : IntKind.i64.wrap ((l.length : Int) - 1) = l.length - 1 := wrap_i64 (by omega) (by omega)
  have h := l1In_eq f 0 (l.length - 1)
  unfold blindB symIn
  cases hs : inB f 0 (l.length - 1) with
  | false =>
    rw [hs] at h
    simp [v33, r33_0, r33_1, h, hw]
  | true =>
    rw [hs] at h
    obtain ⟨h1, h2⟩ := symIn_lt (l := l) (f := f) hs
    simp [v33, r33_0, r33_1, h, hw, h1, h2, symAt_lt h2, cut]
end Go.Proofs.Ytnjgnjejkmcgmaa.VS
namespace Go.Proofs.Ytnjgnjejkmcgmaa.VS
set_option linter.unusedVariables false
set_option linter.unusedSimpArgs false
/-! ## Rows of whole numbers -/
abbrev is (l : List Int) : DV := .sl .sub (l.map (.int .i64))
@[simp high] theorem clr_intsE (l : List Int) : (l.map (DV.int .i64)).map DV.clr = l.map (DV.int .i64) := by simp [List.map_map, Function.comp_def]
end Go.Proofs.Ytnjgnjejkmcgmaa.VS
namespace Go.Proofs.Ytnjgnjejkmcgmaa.VS
set_option linter.unusedVariables false
set_option linter.unusedSimpArgs false
end Go.Proofs.Ytnjgnjejkmcgmaa.VS
namespace Go.Proofs.Ytnjgnjejkmcgmaa.VS
set_option linter.unusedVariables false
set_option linter.unusedSimpArgs false
/-- The first place from i on where it holds, in k places. -/
def findAt (q : Nat → Bool) : Nat → Nat → Option Nat
  | 0, _ => none
  | k + 1, i => if q i then some i else findAt q k (i + 1)
def stepF (q : Nat → Bool) (_ : Unit) (i : Nat) : Unit ⊕ Nat := if q i then .inr i else .inl ()
theorem runF (q : Nat → Bool) : ∀ (k i : Nat), runN (stepF q) k () i = match findAt q k i with | some j => .inr j | none => .inl ()
  | 0, i => rfl
  | k + 1, i => by
    simp only [runN, stepF, findAt]
    cases h : q i
    · simp [runF q k (i + 1)]
    · simp
def orNeg : Option Nat → Int
  | some j => j
  | none => -1
theorem findAt_lt (q : Nat → Bool) : ∀ (k i j : Nat), findAt q k i = some j → i ≤ j ∧ j < i + k ∧ q j = true
  | 0, i, j, h => by simp [findAt] at h
  | k + 1, i, j, h => by
    simp only [findAt] at h
    split at h
    · simp at h; subst h; exact ⟨Nat.le_refl _, by omega, by assumption⟩
    · obtain ⟨h1, h2, h3⟩ := findAt_lt q k (i + 1) j h; exact ⟨by omega, by omega, h3⟩
/-! SigOk -/
theorem sumW_ge (w : Nat → Nat) : ∀ (k i j : Nat), i ≤ j → j < i + k → w j ≤ sumW w i k
  | 0, i, j, h, h' => by omega
  | k + 1, i, j, h, h' => by
    simp only [sumW]
    rcases Nat.eq_or_lt_of_le h with rfl | h
    · omega
    · have := sumW_ge w k (i + 1) j h (by omega); omega
end Go.Proofs.Ytnjgnjejkmcgmaa.VS
namespace Go.Proofs.Ytnjgnjejkmcgmaa.VS
set_option linter.unusedVariables false
set_option linter.unusedSimpArgs false
/-! ## Where a number stands; the first number that is greater (whatever the native functions are) -/
section
variable (X : XEnv)
end
end Go.Proofs.Ytnjgnjejkmcgmaa.VS
namespace Go.Proofs.Ytnjgnjejkmcgmaa.VS
set_option linter.unusedVariables false
set_option linter.unusedSimpArgs false
/-! ## A fold over all terms within a term, with what holds of its state -/
/-! ## A number put into a list, both -/
/-! ## The variables of a term, both -/
end Go.Proofs.Ytnjgnjejkmcgmaa.VS
namespace Go.Proofs.Ytnjgnjejkmcgmaa.VS
set_option linter.unusedVariables false
set_option linter.unusedSimpArgs false
/-! ## Rows of whole numbers that lie in boxes: marks -/
def mk : Nat → Nat → List Int
  | 0, _ => []
  | n + 1, k => (k : Int) :: mk n (k + 1)
theorem frzC_d (B : Boxs) (n : Nat) (v : DV) : AV.frzC B n (.d v) = some v := by cases n <;> simp only [AV.frzC]
end Go.Proofs.Ytnjgnjejkmcgmaa.VS
namespace Go.Proofs.Ytnjgnjejkmcgmaa.VS
set_option linter.unusedVariables false
set_option linter.unusedSimpArgs false
/-! ## Terms that lie in boxes: marks -/
mutual
/-- How many boxes a term's rows take. -/
def T.nb : T → Nat
  | .node _ _ [] => 0
  | .node _ _ (t :: r) => T.nbs (t :: r) + 1
def T.nbs : List T → Nat
  | [] => 0
  | t :: r => t.nb + T.nbs r
end
def rowN (ks : List T) : Nat := if ks = [] then 0 else T.nbs ks + 1
theorem nb_node (f v : Int) (ks : List T) : (T.node f v ks).nb = rowN ks := by cases ks <;> simp [T.nb, rowN]
def tRow (b : Nat) (ks : List T) : AV := if ks = [] then .d (terms .sub []) else .tsl true (b + T.nbs ks) 3 ks.length
def tCells (b : Nat) : List T → List AV
  | [] => []
  | .node f v ks :: r => .d (.int .i64 f) :: .d (.int .i64 v) :: tRow b ks :: tCells (b + rowN ks) r
mutual
def T.bx (b : Nat) : T → Boxs
  | .node _ _ [] => []
  | .node _ _ (t :: r) => T.bxs b (t :: r) ++ [some (tCells b (t :: r))]
def T.bxs (b : Nat) : List T → Boxs
  | [] => []
  | t :: r => t.bx b ++ T.bxs (b + t.nb) r
end
def bRow (b : Nat) (ks : List T) : Boxs := if ks = [] then [] else T.bxs b ks ++ [some (tCells b ks)]
theorem bx_node (b : Nat) (f v : Int) (ks : List T) : (T.node f v ks).bx b = bRow b ks := by cases ks <;> simp [T.bx, bRow]
mutual
theorem bx_len : ∀ (t : T) (b : Nat), (t.bx b).length = t.nb
  | .node _ _ [], b => rfl
  | .node _ _ (t :: r), b => by simp [T.bx, T.nb, bxs_len (t :: r) b]
theorem bxs_len : ∀ (l : List T) (b : Nat), (T.bxs b l).length = T.nbs l
  | [], b => rfl
  | t :: r, b => by simp [T.bxs, T.nbs, bx_len t b, bxs_len r (b + t.nb)]
end
theorem bRow_len (b : Nat) (ks : List T) : (bRow b ks).length = rowN ks := by unfold bRow rowN; split <;> simp [bxs_len]
theorem tCells_len : ∀ (l : List T) (b : Nat), (tCells b l).length = 3 * l.length
  | [], b => rfl
  | .node f v ks :: r, b => by simp [tCells, tCells_len r]; omega
theorem nbs_append : ∀ (a c : List T), T.nbs (a ++ c) = T.nbs a + T.nbs c
  | [], c => by simp [T.nbs]
  | t :: r, c => by simp [T.nbs, nbs_append r c]; omega
theorem tCells_append : ∀ (a c : List T) (b : Nat), tCells b (a ++ c) = tCells b a ++ tCells (b + T.nbs a) c
  | [], c, b => by simp [tCells, T.nbs]
  | .node f v ks :: r, c, b => by simp [tCells, tCells_append r c, T.nbs, nb_node, Nat.add_assoc]
theorem bxs_append : ∀ (a c : List T) (b : Nat), T.bxs b (a ++ c) = T.bxs b a ++ T.bxs (b + T.nbs a) c
  | [], c, b => by simp [T.bxs, T.nbs]
  | t :: r, c, b => by simp [T.bxs, bxs_append r c, T.nbs, Nat.add_assoc]
theorem thws3 (f v : Int) (x : DV) (b : Nat) : thws b [.int .i64 f, .int .i64 v, x] = (.d (.int .i64 f) :: .d (.int .i64 v) :: (thw b x).1, (thw b x).2) := by simp [thws, thw]
mutual
theorem thwT : ∀ (t : T) (b : Nat), thw b (t.enc .sub) = ([.d (.int .i64 t.f), .d (.int .i64 t.v), tRow b t.kids], t.bx b)
  | .node f v [], b => by simp [T.enc_eq, thw, thws, tRow, T.bx, terms]
  | .node f v (t :: r), b => by
    have h := thwsT (t :: r) b
    rw [List.map_cons] at h
    rw [T.enc_eq, T.f_node, T.v_node, T.kids_node]
    show thws b [.int .i64 f, .int .i64 v, .sl .sub (t.enc .sub :: r.map (T.enc .sub))] = _
    have hx : thw b (.sl .sub (t.enc .sub :: r.map (T.enc .sub))) = ([tRow b (t :: r)], T.bxs b (t :: r) ++ [some (tCells b (t :: r))]) := by
      simp only [thw]
      rw [h]
      have hl := bxs_len (t :: r) b
      have h3 : (t.enc .sub).cells.length = 3 := by simp
      have ha : isAgD (t.enc .sub) = true := by rw [T.enc_eq]; rfl
      simp [tRow, hl, h3, ha]
    rw [thws3, hx]
    simp [T.bx]
theorem thwsT : ∀ (l : List T) (b : Nat), thws b (l.map (T.enc .sub)) = (tCells b l, T.bxs b l)
  | [], b => by simp [thws, tCells, T.bxs]
  | .node f v ks :: r, b => by
    have h1 := thwT (.node f v ks) b
    have h2 := thwsT r (b + (T.node f v ks).nb)
    rw [List.map_cons]
    simp only [thws]
    rw [h1]
    simp only [bx_len]
    rw [h2]
    simp [tCells, T.bxs, nb_node]
end
theorem thaw_term (t : T) (b : Nat) : (t.enc .sub).thaw b = (.ag false [.d (.int .i64 t.f), .d (.int .i64 t.v), tRow b t.kids], bRow b t.kids) := by
  have h := thwT t b
  obtain ⟨f, v, ks⟩ := t
  rw [bx_node] at h
  rw [T.enc_eq] at h ⊢
  simp only [DV.thaw, thawOne]
  simp only [thw] at h
  rw [h]
  rfl
theorem clr_tRow (b : Nat) (ks : List T) : (tRow b ks).clr = tRow b ks := by
  unfold tRow; split
  · simp [terms, AV.clr, DV.clr, DV.clrs]
  · simp only [AV.clr]
theorem safe_tRow (m b : Nat) (ks : List T) (h : b + rowN ks ≤ m) : (tRow b ks).safe m = true := by
  unfold tRow rowN at *
  by_cases hl : ks = []
  · rw [if_pos hl]; exact safe_d _ _
  · rw [if_neg hl] at h ⊢; rw [safe_tsl]; simp; omega
theorem isCell_tRow (b : Nat) (ks : List T) : (tRow b ks).isCell = true := by
  unfold tRow; split <;> rfl
theorem plain_tRow (b : Nat) (ks : List T) : (tRow b ks).plainT = true := by
  unfold tRow; split
  · simp [terms, AV.plainT]
  · rfl
/-! ### Marks -/
def cnts (l : List T) : Nat := l.length + T.inners l
theorem cnts_kids (t : T) : cnts t.kids = t.inner := by cases t; simp [cnts, T.inner]
theorem inners_append : ∀ (a c : List T), T.inners (a ++ c) = T.inners a + T.inners c
  | [], c => by simp [T.inners]
  | t :: r, c => by simp [T.inners, inners_append r c]; omega
theorem cnts_snoc (l : List T) (t : T) : cnts (l ++ [t]) = cnts l + (t.inner + 1) := by
  unfold cnts; rw [inners_append]; simp [T.inners]; omega
theorem cnts_cons (t : T) (l : List T) : cnts (t :: l) = (t.inner + 1) + cnts l := by unfold cnts; simp [T.inners]; omega
mutual
def T.mark (k : Nat) : T → T
  | .node _ _ ks => .node (k : Int) ((k + 1 : Nat) : Int) (T.marks (k + 2) ks)
def T.marks (k : Nat) : List T → List T
  | [] => []
  | t :: r => t.mark k :: T.marks (k + 2 * (t.inner + 1)) r
end
theorem marks_len : ∀ (l : List T) (k : Nat), (T.marks k l).length = l.length
  | [], k => by simp [T.marks]
  | t :: r, k => by simp [T.marks, marks_len r]
mutual
theorem nb_mark : ∀ (t : T) (k : Nat), (t.mark k).nb = t.nb
  | .node f v [], k => by simp [T.mark, T.marks, T.nb]
  | .node f v (t :: r), k => by
    have := nbs_marks (t :: r) (k + 2)
    simp only [T.marks] at this
    simp only [T.mark, T.marks, T.nb, this]
theorem nbs_marks : ∀ (l : List T) (k : Nat), T.nbs (T.marks k l) = T.nbs l
  | [], k => by simp [T.marks]
  | t :: r, k => by simp only [T.marks, T.nbs, nb_mark t k, nbs_marks r]
end
theorem marks_nil (l : List T) (k : Nat) : (T.marks k l = []) ↔ l = [] := by cases l <;> simp [T.marks]
theorem rowN_marks (l : List T) (k : Nat) : rowN (T.marks k l) = rowN l := by unfold rowN; simp only [marks_nil, nbs_marks]
theorem tRow_marks (b k : Nat) (l : List T) : tRow b (T.marks k l) = tRow b l := by
  unfold tRow; simp only [marks_nil, nbs_marks, marks_len]
theorem marks_snoc : ∀ (l : List T) (k : Nat) (t : T), T.marks k (l ++ [t]) = T.marks k l ++ [t.mark (k + 2 * cnts l)]
  | [], k, t => by simp [T.marks, cnts, T.inners]
  | a :: r, k, t => by
    simp only [List.cons_append, T.marks, marks_snoc r, cnts_cons]
    rw [show k + 2 * (a.inner + 1) + 2 * cnts r = k + 2 * (a.inner + 1 + cnts r) by omega]
/-- Marked up to i. -/
def upT (ks : List T) (k i : Nat) : List T := T.marks k (ks.take i) ++ ks.drop i
theorem upT_zero (ks : List T) (k : Nat) : upT ks k 0 = ks := by simp [upT, T.marks]
theorem upT_all (ks : List T) (k : Nat) : upT ks k ks.length = T.marks k ks := by simp [upT]
theorem upT_nbs (ks : List T) (k i : Nat) : T.nbs (upT ks k i) = T.nbs ks := by
  unfold upT; rw [nbs_append, nbs_marks, ← nbs_append, List.take_append_drop]
theorem upT_at (ks : List T) (k i : Nat) (hi : i < ks.length) : upT ks k i = T.marks k (ks.take i) ++ tAt ks i :: ks.drop (i + 1) := by
  unfold upT; rw [List.drop_eq_getElem_cons hi, tAt_lt hi]
theorem take_snoc (ks : List T) (i : Nat) (hi : i < ks.length) : ks.take (i + 1) = ks.take i ++ [tAt ks i] := by
  rw [← tAt_lt hi, List.take_append_getElem hi]
theorem upT_next (ks : List T) (k i : Nat) (hi : i < ks.length) : upT ks k (i + 1) = T.marks k (ks.take i) ++ (tAt ks i).mark (k + 2 * cnts (ks.take i)) :: ks.drop (i + 1) := by
  unfold upT; rw [take_snoc ks i hi, marks_snoc]; simp
theorem cnts_take (ks : List T) (i : Nat) (hi : i < ks.length) : cnts (ks.take (i + 1)) = cnts (ks.take i) + ((tAt ks i).inner + 1) := by rw [take_snoc ks i hi, cnts_snoc]
theorem cnts_le (ks : List T) (i : Nat) : cnts (ks.take i) ≤ cnts ks := by
  have h : cnts (ks.take i ++ ks.drop i) = cnts (ks.take i) + cnts (ks.drop i) := by unfold cnts; rw [inners_append]; simp; omega
  rw [List.take_append_drop] at h; omega
/-! ### One round of the marks -/
theorem spA (A r : List AV) (y x : AV) : splice (A ++ y :: r) A.length [x] = A ++ x :: r := by unfold splice; simp
theorem sp0 (C1 C2 : List AV) (f x : AV) (i : Nat) (h : C1.length = i * 3) : splice (C1 ++ f :: C2) (i * 3) [x] = C1 ++ x :: C2 := by
  rw [← h]; exact spA C1 C2 f x
theorem sp1 (C1 C2 : List AV) (f v x : AV) (i : Nat) (h : C1.length = i * 3) : splice (C1 ++ f :: v :: C2) (i * 3 + 1) [x] = C1 ++ f :: x :: C2 := by
  have := spA (C1 ++ [f]) C2 v x
  simp only [List.length_append, List.length_cons, List.length_nil, List.append_assoc, List.cons_append, List.nil_append, Nat.zero_add] at this
  rw [← h]; exact this
theorem ga0 (C1 C2 : List AV) (f : AV) (i : Nat) (h : C1.length = i * 3) : (C1 ++ f :: C2)[i * 3]? = some f := by rw [← h]; simp
theorem ga1 (C1 C2 : List AV) (f v : AV) (i : Nat) (h : C1.length = i * 3) : (C1 ++ f :: v :: C2)[i * 3 + 1]? = some v := by
  rw [← h, List.getElem?_append_right (by omega)]; simp
theorem ga2 (C1 C2 : List AV) (f v r : AV) (i : Nat) (h : C1.length = i * 3) : (C1 ++ f :: v :: r :: C2)[i * 3 + 2]? = some r := by
  rw [← h, List.getElem?_append_right (by omega)]; simp
theorem markStep (S S' B1 : Boxs) (ix n i : Nat) (K0 K1 K2 Kn : Int) (C1 C2 : List AV) (f v row : AV) (hS : S.length = ix) (hS' : S'.length = ix) (hi : i < n) (hn : n ≤ 1099511627776) (hC : C1.length = i * 3) (hw1 : IntKind.i64.wrap (K0 + 1) = K1) (hw2 : IntKind.i64.wrap (K1 + 1) = K2) (hrow : row.clr = row)
    (hcall : callX XV 244 [row, .d (.int .i64 K2)] (S ++ some (C1 ++ .d (.int .i64 K0) :: .d (.int .i64 K1) :: row :: C2) :: B1) = some (.d (.int .i64 Kn), S' ++ some (C1 ++ .d (.int .i64 K0) :: .d (.int .i64 K1) :: row :: C2) :: B1)) :
    codeX XV (XV.lin 244) b244_0 ⟨[(0, .tsl true ix 3 n), (1, .d (.int .i64 K0)), (5, .d (.int .i64 (i : Int)))], S ++ some (C1 ++ f :: v :: row :: C2) :: B1⟩ =
      some (.normal, ⟨[(0, .tsl true ix 3 n), (1, .d (.int .i64 Kn)), (5, .d (.int .i64 ((i + 1 : Nat) : Int)))], S' ++ some (C1 ++ .d (.int .i64 K0) :: .d (.int .i64 K1) :: row :: C2) :: B1⟩) := by
  have hw := wrap_succ (n := i) (by omega)
  have hget : ∀ (c : List AV) (r : Boxs), (S ++ some c :: r)[ix]? = some (some c) := fun c r => by rw [← hS]; exact get_at S (some c) r
  have hset : ∀ (c d : List AV) (r : Boxs), (S ++ some c :: r).set ix (some d) = S ++ some d :: r := fun c d r => by rw [← hS]; exact set_at S (some c) (some d) r
  have s0 := fun x => sp0 C1 (v :: row :: C2) f x i hC
  have s1 := fun a x => sp1 C1 (row :: C2) a v x i hC
  have g2 := fun a b => ga2 C1 C2 a b row i hC
  have le0 : i * 3 + 1 ≤ C1.length + (C2.length + 1 + 1 + 1) := by omega
  have le1 : i * 3 + 1 + 1 ≤ C1.length + (C2.length + 1 + 1 + 1) := by omega
  simp [b244_0, r244_0, r244_1, r244_2, r244_4, r244_5, r244_6, r244_7, r244_8, r244_3, r244_9, hi, hw, hw1, hw2, hget, hset, s0, s1, g2, le0, le1, hrow, hcall]
theorem bxs_mid (M R : List T) (t : T) (b : Nat) : T.bxs b (M ++ t :: R) = T.bxs b M ++ (bRow (b + T.nbs M) t.kids ++ T.bxs (b + T.nbs M + rowN t.kids) R) := by
  obtain ⟨f, v, kk⟩ := t
  rw [bxs_append]; simp [T.bxs, bx_node, nb_node]
theorem tCells_mid (M R : List T) (t : T) (b : Nat) : tCells b (M ++ t :: R) = tCells b M ++ .d (.int .i64 t.f) :: .d (.int .i64 t.v) :: tRow (b + T.nbs M) t.kids :: tCells (b + T.nbs M + rowN t.kids) R := by
  obtain ⟨f, v, kk⟩ := t
  rw [tCells_append]; simp [tCells]
theorem mark_f (t : T) (k : Nat) : (t.mark k).f = (k : Int) := by cases t; simp [T.mark]
theorem mark_v (t : T) (k : Nat) : (t.mark k).v = ((k + 1 : Nat) : Int) := by cases t; simp [T.mark]
theorem mark_kids (t : T) (k : Nat) : (t.mark k).kids = T.marks (k + 2) t.kids := by cases t; simp [T.mark]
theorem tRow_cons (b : Nat) (ks : List T) (h : ks ≠ []) : tRow b ks = .tsl true (b + T.nbs ks) 3 ks.length := by unfold tRow; rw [if_neg h]
theorem bRow_cons (b : Nat) (ks : List T) (h : ks ≠ []) : bRow b ks = T.bxs b ks ++ [some (tCells b ks)] := by unfold bRow; rw [if_neg h]
theorem markRow_of (ks : List T) (hl : ks.length ≤ 1099511627776) (hrec : ∀ t, t ∈ ks → ∀ (k : Nat), k + 2 * t.inner ≤ 4611686018427387904 → ∀ (B0 B1 : Boxs), callX XV 244 [tRow B0.length t.kids, .d (.int .i64 (k : Int))] (B0 ++ bRow B0.length t.kids ++ B1) = some (.d (.int .i64 ((k + 2 * t.inner : Nat) : Int)), B0 ++ bRow B0.length (T.marks k t.kids) ++ B1))
    (k : Nat) (hk : k + 2 * cnts ks ≤ 4611686018427387904) (B0 B1 : Boxs) :
    callX XV 244 [tRow B0.length ks, .d (.int .i64 (k : Int))] (B0 ++ bRow B0.length ks ++ B1) = some (.d (.int .i64 ((k + 2 * cnts ks : Nat) : Int)), B0 ++ bRow B0.length (T.marks k ks) ++ B1) := by
  rw [z_call XV _ _ _ v244 rfl xcode_244 rfl]
  by_cases hne : ks = []
  · subst hne
    have h := loopX_upto (X := XV) (T := XV.lin 244) (L := (B0 ++ B1).length) (live := [0, 1, 5]) (b := b244_0) (n := 0) (β := Unit) (γ := Unit) (st := fun _ i => ⟨[(0, .d (.sl .sub [])), (1, .d (.int .i64 k)), (5, .d (.int .i64 i))], B0 ++ B1⟩) (step := fun _ _ => .inl ())
      (F := fun _ => (.exit 0, ⟨[(0, .d (.sl .sub [])), (1, .d (.int .i64 k)), (5, .d (.int .i64 0)), (9, .d (.bool false))], B0 ++ B1⟩)) (R := fun _ => (.ret, ⟨[], []⟩)) (fun a => ⟨by simp, by simp [b244_0, r244_0, r244_1, r244_2, r244_4, r244_5, r244_6, r244_7, r244_8, r244_3, r244_9]⟩) (fun a i hi => by omega) 0 () 0 ⟨[(0, .d (.sl .sub [])), (1, .d (.int .i64 k)), (5, .d (.int .i64 0))], B0 ++ B1⟩ rfl (head_cut (e := []) (by simp) (by simp [safeRegs]) rfl (by simp))
    simp only [runN, List.length_append, lin_244] at h
    have htk : List.take (B0.length + B1.length) (B0 ++ B1) = B0 ++ B1 := List.take_of_length_le (by simp)
    simp [tRow, bRow, T.marks, cnts, T.inners, terms, v244, r244_0, r244_1, r244_2, r244_4, r244_5, r244_6, r244_7, r244_8, r244_3, r244_9]
    rw [h]
    simp [htk, v244, r244_0, r244_1, r244_2, r244_4, r244_5, r244_6, r244_7, r244_8, r244_3, r244_9]
  · have hmn : T.marks k ks ≠ [] := fun h => hne ((marks_nil ks k).1 h)
    rw [tRow_cons _ _ hne, bRow_cons _ _ hne, bRow_cons _ _ hmn]
    have hlen : ∀ i, (B0 ++ T.bxs B0.length (upT ks k i)).length = B0.length + T.nbs ks := fun i => by rw [List.length_append, bxs_len, upT_nbs]
    have h := loopX_upto (X := XV) (T := XV.lin 244) (L := B0.length + T.nbs ks + (B1.length + 1)) (live := [0, 1, 5]) (b := b244_0) (n := ks.length) (γ := Unit) (st := fun (_ : Unit) i => ⟨[(0, .tsl true (B0.length + T.nbs ks) 3 ks.length), (1, .d (.int .i64 ((k + 2 * cnts (ks.take i) : Nat) : Int))), (5, .d (.int .i64 i))], (B0 ++ T.bxs B0.length (upT ks k i)) ++ some (tCells B0.length (upT ks k i)) :: B1⟩) (step := fun _ _ => .inl ())
      (F := fun _ => (.exit 0, ⟨[(0, .tsl true (B0.length + T.nbs ks) 3 ks.length), (1, .d (.int .i64 ((k + 2 * cnts ks : Nat) : Int))), (5, .d (.int .i64 ks.length)), (9, .d (.bool false))], (B0 ++ T.bxs B0.length (upT ks k ks.length)) ++ some (tCells B0.length (upT ks k ks.length)) :: B1⟩)) (R := fun _ => (.ret, ⟨[], []⟩))
      (fun _ => ⟨by simp, by rw [List.take_length]; generalize ((k + 2 * cnts ks : Nat) : Int) = K; simp [b244_0, r244_0, r244_1, r244_2, r244_4, r244_5, r244_6, r244_7, r244_8, r244_3, r244_9]⟩)
      (fun _ i hi => by
        have hkt : k + 2 * cnts (ks.take (i + 1)) ≤ 4611686018427387904 := by have := cnts_le ks (i + 1); omega
        have hct := cnts_take ks i hi
        have hr := hrec _ (tAt_mem hi) (k + 2 * cnts (ks.take i) + 2) (by omega) (B0 ++ T.bxs B0.length (T.marks k (ks.take i))) (T.bxs (B0.length + T.nbs (T.marks k (ks.take i)) + rowN (tAt ks i).kids) (ks.drop (i + 1)) ++ some (tCells B0.length (upT ks k (i + 1))) :: B1)
        have hl0 : (B0 ++ T.bxs B0.length (T.marks k (ks.take i))).length = B0.length + T.nbs (T.marks k (ks.take i)) := by rw [List.length_append, bxs_len]
        rw [hl0] at hr
        have e1 := upT_at ks k i hi
        have e2 := upT_next ks k i hi
        have c1 := tCells_mid (T.marks k (ks.take i)) (ks.drop (i + 1)) (tAt ks i) B0.length
        have c2 := tCells_mid (T.marks k (ks.take i)) (ks.drop (i + 1)) ((tAt ks i).mark (k + 2 * cnts (ks.take i))) B0.length
        have b1 := bxs_mid (T.marks k (ks.take i)) (ks.drop (i + 1)) (tAt ks i) B0.length
        have b2 := bxs_mid (T.marks k (ks.take i)) (ks.drop (i + 1)) ((tAt ks i).mark (k + 2 * cnts (ks.take i))) B0.length
        rw [mark_kids, rowN_marks] at b2
        rw [mark_f, mark_v, mark_kids, rowN_marks, tRow_marks] at c2
        rw [← e1] at c1 b1
        rw [← e2] at c2 b2
        have hS : (B0 ++ T.bxs B0.length (T.marks k (ks.take i))) ++ bRow (B0.length + T.nbs (T.marks k (ks.take i))) (tAt ks i).kids ++ (T.bxs (B0.length + T.nbs (T.marks k (ks.take i)) + rowN (tAt ks i).kids) (ks.drop (i + 1)) ++ some (tCells B0.length (upT ks k (i + 1))) :: B1) = (B0 ++ T.bxs B0.length (upT ks k i)) ++ some (tCells B0.length (upT ks k (i + 1))) :: B1 := by rw [b1]; simp
        have hS' : (B0 ++ T.bxs B0.length (T.marks k (ks.take i))) ++ bRow (B0.length + T.nbs (T.marks k (ks.take i))) (T.marks (k + 2 * cnts (ks.take i) + 2) (tAt ks i).kids) ++ (T.bxs (B0.length + T.nbs (T.marks k (ks.take i)) + rowN (tAt ks i).kids) (ks.drop (i + 1)) ++ some (tCells B0.length (upT ks k (i + 1))) :: B1) = (B0 ++ T.bxs B0.length (upT ks k (i + 1))) ++ some (tCells B0.length (upT ks k (i + 1))) :: B1 := by rw [b2]; simp
        rw [hS, hS'] at hr
        rw [show k + 2 * cnts (ks.take i) + 2 + 2 * (tAt ks i).inner = k + 2 * cnts (ks.take (i + 1)) by omega] at hr
        rw [c2] at hr
        have hst := markStep (B0 ++ T.bxs B0.length (upT ks k i)) (B0 ++ T.bxs B0.length (upT ks k (i + 1))) B1 (B0.length + T.nbs ks) ks.length i ((k + 2 * cnts (ks.take i) : Nat) : Int) ((k + 2 * cnts (ks.take i) + 1 : Nat) : Int) ((k + 2 * cnts (ks.take i) + 2 : Nat) : Int) ((k + 2 * cnts (ks.take (i + 1)) : Nat) : Int)
          (tCells B0.length (T.marks k (ks.take i))) (tCells (B0.length + T.nbs (T.marks k (ks.take i)) + rowN (tAt ks i).kids) (ks.drop (i + 1))) (.d (.int .i64 (tAt ks i).f)) (.d (.int .i64 (tAt ks i).v)) (tRow (B0.length + T.nbs (T.marks k (ks.take i))) (tAt ks i).kids) (hlen i) (hlen (i + 1)) hi hl
          (by rw [tCells_len, marks_len, List.length_take]; omega) (wrap_succ (by omega)) (wrap_succ (by omega)) (clr_tRow _ _) hr
        rw [← c1, ← c2] at hst
        exact ⟨_, hst, head_cut (e := []) (by simp) (by simp [safeRegs, safe_tsl]) (by rw [List.length_append, hlen]; simp) (by simp)⟩)
      ks.length () 0 ⟨[(0, .tsl true (B0.length + T.nbs ks) 3 ks.length), (1, .d (.int .i64 (k : Int))), (5, .d (.int .i64 0))], (B0 ++ T.bxs B0.length ks) ++ some (tCells B0.length ks) :: B1⟩ (by omega) (head_cut (e := []) (by simp [cnts, T.inners]) (by simp [safeRegs, safe_tsl]) (by rw [upT_zero, List.length_append, List.length_append, bxs_len]; simp) (by simp [upT_zero]))
    rw [run_on, upT_all] at h
    simp only [lin_244] at h
    have hln : (B0 ++ T.bxs B0.length ks ++ [some (tCells B0.length ks)] ++ B1).length = B0.length + T.nbs ks + (B1.length + 1) := by simp [bxs_len]; omega
    have hap : ∀ (X : Boxs) (c : List AV), B0 ++ (X ++ [some c]) ++ B1 = (B0 ++ X) ++ some c :: B1 := fun X c => by simp
    have hln2 : ((B0 ++ T.bxs B0.length ks) ++ some (tCells B0.length ks) :: B1).length = B0.length + T.nbs ks + (B1.length + 1) := by simp [bxs_len]; omega
    rw [hap, hap]
    have hln3 : ((B0 ++ T.bxs B0.length (T.marks k ks)) ++ some (tCells B0.length (T.marks k ks)) :: B1).length = B0.length + T.nbs ks + (B1.length + 1) := by simp [bxs_len, nbs_marks]; omega
    generalize hQ : (B0 ++ T.bxs B0.length ks) ++ some (tCells B0.length ks) :: B1 = Q at h hln2 ⊢
    generalize hQ' : (B0 ++ T.bxs B0.length (T.marks k ks)) ++ some (tCells B0.length (T.marks k ks)) :: B1 = Q' at h hln3 ⊢
    generalize ((k + 2 * cnts ks : Nat) : Int) = Kn at h ⊢
    rw [← hln2] at h
    have htk : List.take Q.length Q' = Q' := List.take_of_length_le (by omega)
    simp [v244, r244_0, r244_1, r244_2, r244_4, r244_5, r244_6, r244_7, r244_8, r244_3, r244_9]
    rw [h]
    simp [v244, r244_0, r244_1, r244_2, r244_4, r244_5, r244_6, r244_7, r244_8, r244_3, r244_9, htk]
theorem markRow_eq (ks : List T) (hl : cnts ks ≤ 1099511627776) (k : Nat) (hk : k + 2 * cnts ks ≤ 4611686018427387904) (B0 B1 : Boxs) :
    callX XV 244 [tRow B0.length ks, .d (.int .i64 (k : Int))] (B0 ++ bRow B0.length ks ++ B1) = some (.d (.int .i64 ((k + 2 * cnts ks : Nat) : Int)), B0 ++ bRow B0.length (T.marks k ks) ++ B1) :=
  markRow_of ks (by unfold cnts at hl; omega) (fun t ht k hk B0 B1 => by
    have hin := T.inners_mem ht
    have hct : cnts t.kids ≤ 1099511627776 := by rw [cnts_kids]; unfold cnts at hl; omega
    have := markRow_eq t.kids hct k (by rw [cnts_kids]; exact hk) B0 B1
    rw [cnts_kids] at this; exact this) k hk B0 B1
termination_by SizeOf.sizeOf ks
decreasing_by
  have h1 := List.sizeOf_lt_of_mem ht
  have h2 : SizeOf.sizeOf t.kids < SizeOf.sizeOf t := by cases t; simp [T.kids]; omega
  omega
end Go.Proofs.Ytnjgnjejkmcgmaa.VS
namespace Go.Proofs.Ytnjgnjejkmcgmaa.VS
set_option linter.unusedVariables false
set_option linter.unusedSimpArgs false
/-! ## One form -/
def ins (t : T) : List T → List T
  | [] => [t]
  | x :: r => if T.cmp t x < 0 then t :: x :: r else x :: ins t r
def isortOn : List T → List T → List T
  | acc, [] => acc
  | acc, t :: r => isortOn (ins t acc) r
def isort (l : List T) : List T := isortOn [] l
theorem ins_perm (t : T) : ∀ l : List T, (ins t l).Perm (t :: l)
  | [] => .refl _
  | x :: r => by
    simp only [ins]
    split
    · exact .refl _
    · exact ((ins_perm t r).cons x).trans (.swap t x r)
theorem ins_srt (t : T) : ∀ l : List T, Srt l → Srt (ins t l)
  | [], _ => List.pairwise_singleton _ _
  | x :: r, h => by
    have h' := List.pairwise_cons.1 h
    simp only [ins]
    split
    · rename_i hlt
      refine List.pairwise_cons.2 ⟨fun y hy => ?_, h⟩
      rcases List.mem_cons.1 hy with rfl | hy
      · exact tle_of_lt hlt
      · exact tle_trans (tle_of_lt hlt) (h'.1 y hy)
    · rename_i hlt
      refine List.pairwise_cons.2 ⟨fun y hy => ?_, ins_srt t r h'.2⟩
      have := (ins_perm t r).mem_iff.1 hy
      rcases List.mem_cons.1 this with rfl | hy
      · exact tle_of_not_lt hlt
      · exact h'.1 y hy
theorem isortOn_perm : ∀ (l acc : List T), (isortOn acc l).Perm (acc ++ l)
  | [], acc => by simp [isortOn]
  | t :: r, acc => by
    simp only [isortOn]
    refine (isortOn_perm r _).trans ?_
    refine ((ins_perm t acc).append_right r).trans ?_
    exact List.perm_middle.symm
theorem isortOn_srt : ∀ (l acc : List T), Srt acc → Srt (isortOn acc l)
  | [], acc, h => h
  | t :: r, acc, h => by
    simp only [isortOn]
    exact isortOn_srt r _ (ins_srt t acc h)
theorem isort_perm (l : List T) : (isort l).Perm l := isortOn_perm l []
theorem isort_srt (l : List T) : Srt (isort l) := isortOn_srt l [] List.Pairwise.nil
theorem isort_eq {l l' : List T} (h : l'.Perm l) (hs : Srt l') : l' = isort l := srt_perm hs (isort_srt l) (h.trans (isort_perm l).symm)
theorem isortOn_append : ∀ (a acc b : List T), isortOn acc (a ++ b) = isortOn (isortOn acc a) b
  | [], acc, b => rfl
  | t :: r, acc, b => by simp only [List.cons_append, isortOn]; exact isortOn_append r _ b

/-- What a Kid becomes in a blind function. -/
def appK (s : List SymL) (f : Int) (k : T) : List T := if (blindB s f && k.f == f) = true then k.kids else [k]
def flatK (s : List SymL) (f : Int) (l : List T) : List T := l.flatMap (appK s f)
mutual
def T.norm (s : List SymL) : T → T
  | .node f v ks => .node f v (if blindB s f = true then isort (flatK s f (T.norms s ks)) else flatK s f (T.norms s ks))
def T.norms (s : List SymL) : List T → List T
  | [] => []
  | t :: r => t.norm s :: T.norms s r
end
theorem T.norms_map (s : List SymL) : ∀ l : List T, T.norms s l = l.map (T.norm s)
  | [] => by simp [T.norms]
  | t :: r => by simp [T.norms, T.norms_map s r]
theorem norm_f (s : List SymL) (t : T) : (t.norm s).f = t.f := by cases t; simp [T.norm]
theorem norm_v (s : List SymL) (t : T) : (t.norm s).v = t.v := by cases t; simp [T.norm]
theorem cnts_append (a b : List T) : cnts (a ++ b) = cnts a + cnts b := by unfold cnts; rw [inners_append, List.length_append]; omega
theorem cnts_perm {a b : List T} (h : a.Perm b) : cnts a = cnts b := by
  induction h with
  | nil => rfl
  | cons x _ ih => rw [cnts_cons, cnts_cons, ih]
  | swap x y l => rw [cnts_cons, cnts_cons, cnts_cons, cnts_cons]; omega
  | trans _ _ h1 h2 => rw [h1, h2]
theorem cnts_appK (s : List SymL) (f : Int) (k : T) : cnts (appK s f k) ≤ k.inner + 1 := by
  unfold appK
  split
  · rw [cnts_kids]; omega
  · rw [cnts_cons]; simp [cnts, T.inners]
theorem flatK_cons (s : List SymL) (f : Int) (k : T) (l : List T) : flatK s f (k :: l) = appK s f k ++ flatK s f l := rfl
theorem flatK_append (s : List SymL) (f : Int) (a b : List T) : flatK s f (a ++ b) = flatK s f a ++ flatK s f b := by unfold flatK; simp
theorem cnts_flatK (s : List SymL) (f : Int) : ∀ l : List T, cnts (flatK s f l) ≤ cnts l
  | [] => by simp [flatK, cnts, T.inners]
  | k :: l => by
    rw [flatK_cons, cnts_append, cnts_cons]
    have := cnts_appK s f k
    have := cnts_flatK s f l
    omega
theorem T.inner_node (f v : Int) (ks : List T) : (T.node f v ks).inner = cnts ks := by simp [T.inner, cnts]
mutual
theorem inner_norm (s : List SymL) : ∀ t : T, (t.norm s).inner ≤ t.inner
  | .node f v ks => by
    have h := cnts_norms s ks
    have h2 := cnts_flatK s f (T.norms s ks)
    simp only [T.norm, T.inner_node]
    split
    · rw [cnts_perm (isort_perm _)]; omega
    · omega
theorem cnts_norms (s : List SymL) : ∀ l : List T, cnts (T.norms s l) ≤ cnts l
  | [] => by simp [T.norms]
  | t :: r => by
    have h1 := inner_norm s t
    have h2 := cnts_norms s r
    simp only [T.norms, cnts_cons]; omega
end
theorem mem_inner {l : List T} {t : T} (h : t ∈ l) : t.inner ≤ cnts l := by have := T.inners_mem h; unfold cnts; omega
theorem len_cnts (l : List T) : l.length ≤ cnts l := by unfold cnts; omega
/-- The Kids behind so many steps. -/
def accK (s : List SymL) (f : Int) (ks : List T) (i : Nat) : List T := flatK s f ((ks.take i).map (T.norm s))
theorem accK_zero (s : List SymL) (f : Int) (ks : List T) : accK s f ks 0 = [] := by simp [accK, flatK]
theorem accK_succ (s : List SymL) (f : Int) (ks : List T) (i : Nat) (h : i < ks.length) : accK s f ks (i + 1) = accK s f ks i ++ appK s f ((tAt ks i).norm s) := by
  unfold accK
  rw [take_snoc ks i h, List.map_append, flatK_append]
  simp [flatK]
theorem accK_all (s : List SymL) (f : Int) (ks : List T) : accK s f ks ks.length = flatK s f (T.norms s ks) := by
  unfold accK; rw [List.take_length, T.norms_map]
theorem accK_cnts (s : List SymL) (f : Int) (ks : List T) (i : Nat) : cnts (accK s f ks i) ≤ cnts ks := by
  unfold accK
  have h1 := cnts_flatK s f ((ks.take i).map (T.norm s))
  rw [← T.norms_map] at h1 ⊢
  have h2 := cnts_norms s (ks.take i)
  have h3 := cnts_le ks i
  omega
/-- Where a term is put. -/
theorem ins_at (t : T) : ∀ (l : List T) (j : Nat), j ≤ l.length → (∀ i, i < j → ¬ T.cmp t (tAt l i) < 0) → (j < l.length → T.cmp t (tAt l j) < 0) → ins t l = l.take j ++ t :: l.drop j
  | [], j, hj, _, _ => by simp at hj; subst hj; rfl
  | x :: r, 0, hj, h1, h2 => by
    have := h2 (by simp)
    simp only [tAt, List.getElem?_cons_zero, Option.getD_some] at this
    simp [ins, this]
  | x :: r, j + 1, hj, h1, h2 => by
    have h0 := h1 0 (by omega)
    simp only [tAt, List.getElem?_cons_zero, Option.getD_some] at h0
    have := ins_at t r j (by simpa using hj) (fun i hi => by simpa [tAt] using h1 (i + 1) (by omega)) (fun h => by simpa [tAt] using h2 (by simpa using h))
    simp [ins, h0, this]
end Go.Proofs.Ytnjgnjejkmcgmaa.VS
namespace Go.Proofs.Ytnjgnjejkmcgmaa.VS
set_option linter.unusedVariables false
set_option linter.unusedSimpArgs false
/-! ## Terms that lie in boxes: what is held; how they are lent -/
theorem heldStep (S B1 : Boxs) (ix n i : Nat) (K0 K1 K2 Kn : Int) (C1 C2 : List AV) (row : AV) (hS : S.length = ix) (hi : i < n) (hn : n ≤ 1099511627776) (hC : C1.length = i * 3) (hw1 : IntKind.i64.wrap (K0 + 1) = K1) (hw2 : IntKind.i64.wrap (K1 + 1) = K2) (hrow : row.clr = row) (hKn : ¬ Kn < 0)
    (hcall : callX XV 292 [row, .d (.int .i64 K2)] (S ++ some (C1 ++ .d (.int .i64 K0) :: .d (.int .i64 K1) :: row :: C2) :: B1) = some (.d (.int .i64 Kn), S ++ some (C1 ++ .d (.int .i64 K0) :: .d (.int .i64 K1) :: row :: C2) :: B1)) :
    codeX XV (XV.lin 292) b292_0 ⟨[(0, .tsl true ix 3 n), (1, .d (.int .i64 K0)), (5, .d (.int .i64 (i : Int)))], S ++ some (C1 ++ .d (.int .i64 K0) :: .d (.int .i64 K1) :: row :: C2) :: B1⟩ =
      some (.normal, ⟨[(0, .tsl true ix 3 n), (1, .d (.int .i64 Kn)), (5, .d (.int .i64 ((i + 1 : Nat) : Int)))], S ++ some (C1 ++ .d (.int .i64 K0) :: .d (.int .i64 K1) :: row :: C2) :: B1⟩) := by
  have hw := wrap_succ (n := i) (by omega)
  have hget : ∀ (c : List AV) (r : Boxs), (S ++ some c :: r)[ix]? = some (some c) := fun c r => by rw [← hS]; exact get_at S (some c) r
  have g0 := fun a => ga0 C1 (.d (.int .i64 K1) :: row :: C2) a i hC
  have g1 := fun a b => ga1 C1 (row :: C2) a b i hC
  have g2 := fun a b => ga2 C1 C2 a b row i hC
  simp [b292_0, r292_0, r292_1, r292_2, r292_4, r292_5, r292_6, r292_7, r292_8, r292_9, r292_10, r292_11, r292_12, r292_3, r292_13, hi, hw, hw1, hw2, hget, g0, g1, g2, hrow, hKn, hcall]
theorem marks_append : ∀ (a c : List T) (k : Nat), T.marks k (a ++ c) = T.marks k a ++ T.marks (k + 2 * cnts a) c
  | [], c, k => by simp [T.marks, cnts, T.inners]
  | t :: r, c, k => by
    simp only [List.cons_append, T.marks, marks_append r, cnts_cons]
    rw [show k + 2 * (t.inner + 1) + 2 * cnts r = k + 2 * (t.inner + 1 + cnts r) by omega]
theorem heldRow_of (ks : List T) (hl : ks.length ≤ 1099511627776) (hrec : ∀ t, t ∈ ks → ∀ (k : Nat), k + 2 * t.inner ≤ 4611686018427387904 → ∀ (B0 B1 : Boxs), callX XV 292 [tRow B0.length t.kids, .d (.int .i64 (k : Int))] (B0 ++ bRow B0.length (T.marks k t.kids) ++ B1) = some (.d (.int .i64 ((k + 2 * t.inner : Nat) : Int)), B0 ++ bRow B0.length (T.marks k t.kids) ++ B1))
    (k : Nat) (hk : k + 2 * cnts ks ≤ 4611686018427387904) (B0 B1 : Boxs) :
    callX XV 292 [tRow B0.length ks, .d (.int .i64 (k : Int))] (B0 ++ bRow B0.length (T.marks k ks) ++ B1) = some (.d (.int .i64 ((k + 2 * cnts ks : Nat) : Int)), B0 ++ bRow B0.length (T.marks k ks) ++ B1) := by
  rw [z_call XV _ _ _ v292 rfl xcode_292 rfl]
  by_cases hne : ks = []
  · subst hne
    have h := loopX_upto (X := XV) (T := XV.lin 292) (L := (B0 ++ B1).length) (live := [0, 1, 5]) (b := b292_0) (n := 0) (β := Unit) (γ := Unit) (st := fun _ i => ⟨[(0, .d (.sl .sub [])), (1, .d (.int .i64 k)), (5, .d (.int .i64 i))], B0 ++ B1⟩) (step := fun _ _ => .inl ())
      (F := fun _ => (.exit 0, ⟨[(0, .d (.sl .sub [])), (1, .d (.int .i64 k)), (5, .d (.int .i64 0)), (9, .d (.bool false))], B0 ++ B1⟩)) (R := fun _ => (.ret, ⟨[], []⟩)) (fun a => ⟨by simp, by simp [b292_0, r292_0, r292_1, r292_2, r292_4, r292_5, r292_6, r292_7, r292_8, r292_9, r292_10, r292_11, r292_12, r292_3, r292_13]⟩) (fun a i hi => by omega) 0 () 0 ⟨[(0, .d (.sl .sub [])), (1, .d (.int .i64 k)), (5, .d (.int .i64 0))], B0 ++ B1⟩ rfl (head_cut (e := []) (by simp) (by simp [safeRegs]) rfl (by simp))
    simp only [runN, List.length_append, lin_292] at h
    have htk : List.take (B0.length + B1.length) (B0 ++ B1) = B0 ++ B1 := List.take_of_length_le (by simp)
    simp [tRow, bRow, T.marks, cnts, T.inners, terms, v292, r292_0, r292_1, r292_2, r292_4, r292_5, r292_6, r292_7, r292_8, r292_9, r292_10, r292_11, r292_12, r292_3, r292_13]
    rw [h]
    simp [htk, v292, r292_0, r292_1, r292_2, r292_4, r292_5, r292_6, r292_7, r292_8, r292_9, r292_10, r292_11, r292_12, r292_3, r292_13]
  · have hmn : T.marks k ks ≠ [] := fun h => hne ((marks_nil ks k).1 h)
    rw [tRow_cons _ _ hne, bRow_cons _ _ hmn]
    have hlen : (B0 ++ T.bxs B0.length (T.marks k ks)).length = B0.length + T.nbs ks := by rw [List.length_append, bxs_len, nbs_marks]
    have h := loopX_upto (X := XV) (T := XV.lin 292) (L := B0.length + T.nbs ks + (B1.length + 1)) (live := [0, 1, 5]) (b := b292_0) (n := ks.length) (γ := Unit) (st := fun (_ : Unit) i => ⟨[(0, .tsl true (B0.length + T.nbs ks) 3 ks.length), (1, .d (.int .i64 ((k + 2 * cnts (ks.take i) : Nat) : Int))), (5, .d (.int .i64 i))], (B0 ++ T.bxs B0.length (T.marks k ks)) ++ some (tCells B0.length (T.marks k ks)) :: B1⟩) (step := fun _ _ => .inl ())
      (F := fun _ => (.exit 0, ⟨[(0, .tsl true (B0.length + T.nbs ks) 3 ks.length), (1, .d (.int .i64 ((k + 2 * cnts ks : Nat) : Int))), (5, .d (.int .i64 ks.length)), (9, .d (.bool false))], (B0 ++ T.bxs B0.length (T.marks k ks)) ++ some (tCells B0.length (T.marks k ks)) :: B1⟩)) (R := fun _ => (.ret, ⟨[], []⟩))
      (fun _ => ⟨by simp, by rw [List.take_length]; generalize ((k + 2 * cnts ks : Nat) : Int) = K; simp [b292_0, r292_0, r292_1, r292_2, r292_4, r292_5, r292_6, r292_7, r292_8, r292_9, r292_10, r292_11, r292_12, r292_3, r292_13]⟩)
      (fun _ i hi => by
        have hkt : k + 2 * cnts (ks.take (i + 1)) ≤ 4611686018427387904 := by have := cnts_le ks (i + 1); omega
        have hct := cnts_take ks i hi
        have hsp : T.marks k ks = T.marks k (ks.take i) ++ (tAt ks i).mark (k + 2 * cnts (ks.take i)) :: T.marks (k + 2 * cnts (ks.take (i + 1))) (ks.drop (i + 1)) := by
          have : ks = ks.take (i + 1) ++ ks.drop (i + 1) := (List.take_append_drop _ _).symm
          rw [this, marks_append, take_snoc ks i hi, marks_snoc]
          rw [← take_snoc ks i hi, ← this]; simp
        have hr := hrec _ (tAt_mem hi) (k + 2 * cnts (ks.take i) + 2) (by omega) (B0 ++ T.bxs B0.length (T.marks k (ks.take i))) (T.bxs (B0.length + T.nbs (T.marks k (ks.take i)) + rowN (tAt ks i).kids) (T.marks (k + 2 * cnts (ks.take (i + 1))) (ks.drop (i + 1))) ++ some (tCells B0.length (T.marks k ks)) :: B1)
        have hl0 : (B0 ++ T.bxs B0.length (T.marks k (ks.take i))).length = B0.length + T.nbs (T.marks k (ks.take i)) := by rw [List.length_append, bxs_len]
        rw [hl0] at hr
        have c2 := tCells_mid (T.marks k (ks.take i)) (T.marks (k + 2 * cnts (ks.take (i + 1))) (ks.drop (i + 1))) ((tAt ks i).mark (k + 2 * cnts (ks.take i))) B0.length
        have b2 := bxs_mid (T.marks k (ks.take i)) (T.marks (k + 2 * cnts (ks.take (i + 1))) (ks.drop (i + 1))) ((tAt ks i).mark (k + 2 * cnts (ks.take i))) B0.length
        rw [mark_kids, rowN_marks, ← hsp] at b2
        rw [mark_f, mark_v, mark_kids, rowN_marks, tRow_marks, ← hsp] at c2
        have hS' : (B0 ++ T.bxs B0.length (T.marks k (ks.take i))) ++ bRow (B0.length + T.nbs (T.marks k (ks.take i))) (T.marks (k + 2 * cnts (ks.take i) + 2) (tAt ks i).kids) ++ (T.bxs (B0.length + T.nbs (T.marks k (ks.take i)) + rowN (tAt ks i).kids) (T.marks (k + 2 * cnts (ks.take (i + 1))) (ks.drop (i + 1))) ++ some (tCells B0.length (T.marks k ks)) :: B1) = (B0 ++ T.bxs B0.length (T.marks k ks)) ++ some (tCells B0.length (T.marks k ks)) :: B1 := by rw [b2]; simp
        rw [hS'] at hr
        rw [show k + 2 * cnts (ks.take i) + 2 + 2 * (tAt ks i).inner = k + 2 * cnts (ks.take (i + 1)) by omega] at hr
        rw [c2] at hr
        have hst := heldStep (B0 ++ T.bxs B0.length (T.marks k ks)) B1 (B0.length + T.nbs ks) ks.length i ((k + 2 * cnts (ks.take i) : Nat) : Int) ((k + 2 * cnts (ks.take i) + 1 : Nat) : Int) ((k + 2 * cnts (ks.take i) + 2 : Nat) : Int) ((k + 2 * cnts (ks.take (i + 1)) : Nat) : Int)
          (tCells B0.length (T.marks k (ks.take i))) (tCells (B0.length + T.nbs (T.marks k (ks.take i)) + rowN (tAt ks i).kids) (T.marks (k + 2 * cnts (ks.take (i + 1))) (ks.drop (i + 1)))) (tRow (B0.length + T.nbs (T.marks k (ks.take i))) (tAt ks i).kids) hlen hi hl
          (by rw [tCells_len, marks_len, List.length_take]; omega) (wrap_succ (by omega)) (wrap_succ (by omega)) (clr_tRow _ _) (by omega) hr
        rw [← c2] at hst
        exact ⟨_, hst, head_cut (e := []) (by simp) (by simp [safeRegs, safe_tsl]) (by rw [List.length_append, hlen]; simp) (by simp)⟩)
      ks.length () 0 ⟨[(0, .tsl true (B0.length + T.nbs ks) 3 ks.length), (1, .d (.int .i64 (k : Int))), (5, .d (.int .i64 0))], (B0 ++ T.bxs B0.length (T.marks k ks)) ++ some (tCells B0.length (T.marks k ks)) :: B1⟩ (by omega) (head_cut (e := []) (by simp [cnts, T.inners]) (by simp [safeRegs, safe_tsl]) (by rw [List.length_append, hlen]; simp) (by simp))
    rw [run_on] at h
    simp only [lin_292] at h
    have hap : ∀ (X : Boxs) (c : List AV), B0 ++ (X ++ [some c]) ++ B1 = (B0 ++ X) ++ some c :: B1 := fun X c => by simp
    rw [hap]
    have hln3 : ((B0 ++ T.bxs B0.length (T.marks k ks)) ++ some (tCells B0.length (T.marks k ks)) :: B1).length = B0.length + T.nbs ks + (B1.length + 1) := by simp [bxs_len, nbs_marks]; omega
    generalize hQ' : (B0 ++ T.bxs B0.length (T.marks k ks)) ++ some (tCells B0.length (T.marks k ks)) :: B1 = Q' at h hln3 ⊢
    generalize ((k + 2 * cnts ks : Nat) : Int) = Kn at h ⊢
    rw [← hln3] at h
    simp [v292, r292_0, r292_1, r292_2, r292_4, r292_5, r292_6, r292_7, r292_8, r292_9, r292_10, r292_11, r292_12, r292_3, r292_13]
    rw [h]
    simp [v292, r292_0, r292_1, r292_2, r292_4, r292_5, r292_6, r292_7, r292_8, r292_9, r292_10, r292_11, r292_12, r292_3, r292_13]
theorem heldRow_eq (ks : List T) (hl : cnts ks ≤ 1099511627776) (k : Nat) (hk : k + 2 * cnts ks ≤ 4611686018427387904) (B0 B1 : Boxs) :
    callX XV 292 [tRow B0.length ks, .d (.int .i64 (k : Int))] (B0 ++ bRow B0.length (T.marks k ks) ++ B1) = some (.d (.int .i64 ((k + 2 * cnts ks : Nat) : Int)), B0 ++ bRow B0.length (T.marks k ks) ++ B1) :=
  heldRow_of ks (by unfold cnts at hl; omega) (fun t ht k hk B0 B1 => by
    have hin := T.inners_mem ht
    have hct : cnts t.kids ≤ 1099511627776 := by rw [cnts_kids]; unfold cnts at hl; omega
    have := heldRow_eq t.kids hct k (by rw [cnts_kids]; exact hk) B0 B1
    rw [cnts_kids] at this; exact this) k hk B0 B1
termination_by SizeOf.sizeOf ks
decreasing_by
  have h1 := List.sizeOf_lt_of_mem ht
  have h2 : SizeOf.sizeOf t.kids < SizeOf.sizeOf t := by cases t; simp [T.kids]; omega
  omega
end Go.Proofs.Ytnjgnjejkmcgmaa.VS
namespace Go.Proofs.Ytnjgnjejkmcgmaa.VS
set_option linter.unusedVariables false
set_option linter.unusedSimpArgs false
theorem frzRow_of (kk : List T) (h : ∀ (n : Nat) (P Q : Boxs), T.nbs kk ≤ n → frzL (AV.frzC (P ++ T.bxs P.length kk ++ Q) n) (tCells P.length kk) = some (flat (kk.map (T.enc .sub)))) (n : Nat) (P Q : Boxs) (hn : rowN kk ≤ n) :
    AV.frzC (P ++ bRow P.length kk ++ Q) n (tRow P.length kk) = some (terms .sub kk) := by
  by_cases hk : kk = []
  · subst hk; simp only [tRow, if_true]; exact frzC_d _ _ _
  · unfold rowN at hn
    rw [if_neg hk] at hn
    obtain ⟨m, rfl⟩ : ∃ m, n = m + 1 := ⟨n - 1, by omega⟩
    rw [tRow_cons _ _ hk, bRow_cons _ _ hk]
    have hB : P ++ (T.bxs P.length kk ++ [some (tCells P.length kk)]) ++ Q = P ++ T.bxs P.length kk ++ (some (tCells P.length kk) :: Q) := by simp
    rw [hB]
    have hl : (P ++ T.bxs P.length kk).length = P.length + T.nbs kk := by rw [List.length_append, bxs_len]
    have hg : bget (P ++ T.bxs P.length kk ++ (some (tCells P.length kk) :: Q)) (P.length + T.nbs kk) = some (tCells P.length kk) := by
      unfold bget; rw [← hl, get_at]
    simp only [AV.frzC]
    rw [hg, Option.bind_some, h m P _ (by omega), Option.bind_some]
    have hok := encs_ok .sub kk
    have hfl : (flat (kk.map (T.enc .sub))).length = kk.length * 3 := by
      rw [flat_len (fun x hx => (hok x hx).1)]; simp
    rw [if_pos hfl]
    have hch := chunks_row (kk.map (T.enc .sub)) hok
    rw [List.length_map] at hch
    rw [hch]; rfl
theorem frzCells (l : List T) (n : Nat) (P Q : Boxs) (hn : T.nbs l ≤ n) : frzL (AV.frzC (P ++ T.bxs P.length l ++ Q) n) (tCells P.length l) = some (flat (l.map (T.enc .sub))) := by
  match l, hn with
  | [], hn => rfl
  | .node f v kk :: r, hn =>
    simp only [T.nbs, nb_node] at hn
    have h1 := frzRow_of kk (fun n P Q hn => frzCells kk n P Q hn) n P (T.bxs (P.length + rowN kk) r ++ Q) (by omega)
    have h2 := frzCells r n (P ++ bRow P.length kk) Q (by omega)
    have hl : (P ++ bRow P.length kk).length = P.length + rowN kk := by rw [List.length_append, bRow_len]
    rw [hl] at h2
    have hB1 : P ++ bRow P.length kk ++ (T.bxs (P.length + rowN kk) r ++ Q) = P ++ T.bxs P.length (.node f v kk :: r) ++ Q := by simp [T.bxs, bx_node, nb_node]
    have hB2 : P ++ bRow P.length kk ++ T.bxs (P.length + rowN kk) r ++ Q = P ++ T.bxs P.length (.node f v kk :: r) ++ Q := by simp [T.bxs, bx_node, nb_node]
    rw [hB1] at h1
    rw [hB2] at h2
    simp only [tCells, frzL_cons, frzC_d, h1, h2, frzO_some, List.map_cons]
    simp [flat]
termination_by SizeOf.sizeOf l
theorem frzRow_eq (kk : List T) (n : Nat) (P Q : Boxs) (hn : rowN kk ≤ n) : AV.frzC (P ++ bRow P.length kk ++ Q) n (tRow P.length kk) = some (terms .sub kk) :=
  frzRow_of kk (fun n P Q hn => frzCells kk n P Q hn) n P Q hn
/-- A term whose row lies in boxes. -/
def tAg (b : Nat) (t : T) : AV := if t.kids = [] then .d (t.enc .sub) else .ag false [.d (.int .i64 t.f), .d (.int .i64 t.v), tRow b t.kids]
theorem frz_tAg (t : T) (P Q : Boxs) : AV.frz (P ++ bRow P.length t.kids ++ Q) (tAg P.length t) = some (t.enc .sub) := by
  unfold tAg
  by_cases hk : t.kids = []
  · rw [if_pos hk, frz_d]
  · rw [if_neg hk]
    have h := frzRow_eq t.kids (P ++ bRow P.length t.kids ++ Q).length P Q (by simp [bRow_len]; omega)
    simp only [AV.frz, frzL_cons, frzL_nil, frzC_d, h, frzO_some, Option.bind_some]
    rw [T.enc_eq]
    simp [isCell_int, isCell_sl, terms]
theorem tAg_ag (b : Nat) (t : T) : boxAg [.d (.int .i64 t.f), .d (.int .i64 t.v), tRow b t.kids] (consD (.int .i64 t.f) (consD (.int .i64 t.v) (datas [tRow b t.kids]))) = some (tAg b t) := by
  unfold tAg
  by_cases hk : t.kids = []
  · rw [if_pos hk, T.enc_eq, hk]
    rfl
  · rw [if_neg hk, tRow_cons _ _ hk]
    simp
theorem tAg_cells (b : Nat) (t : T) : (tAg b t).cells = [.d (.int .i64 t.f), .d (.int .i64 t.v), tRow b t.kids] := by
  unfold tAg
  by_cases hk : t.kids = []
  · rw [if_pos hk, T.enc_eq, hk]
    rfl
  · rw [if_neg hk]; rfl
theorem tAg_safe (m b : Nat) (t : T) (h : b + rowN t.kids ≤ m) : (tAg b t).safe m = true := by
  unfold tAg
  split
  · exact safe_d _ _
  · rw [safe_ag]; simp [safes_cons, safes_nil, safe_d, safe_tRow _ _ _ h]
theorem tAg_clr (b : Nat) (t : T) : (tAg b t).clr = tAg b t := by
  unfold tAg
  split
  · simp only [AV.clr, T.clr_enc]
  · simp [AV.clr, AV.clrs, DV.clr, clr_tRow]
theorem markTerm_eq (t : T) (ht : t.inner ≤ 1099511627776) (k : Nat) (hk : k ≤ 1000000000000) (B0 B1 : Boxs) :
    callX XV 308 [tAg B0.length t, .d (.int .i64 (k : Int))] (B0 ++ bRow B0.length t.kids ++ B1) = some (.d (.int .i64 ((k + 2 * t.inner : Nat) : Int)), B0 ++ bRow B0.length (T.marks k t.kids) ++ B1) := by
  rw [z_call XV _ _ _ v308 rfl xcode_308 rfl]
  have h := markRow_eq t.kids (by rw [cnts_kids]; exact ht) k (by rw [cnts_kids]; omega) B0 (B1 ++ [some [.d (.int .i64 t.f), .d (.int .i64 t.v), tRow B0.length t.kids]])
  rw [cnts_kids, ← List.append_assoc, ← List.append_assoc] at h
  have hc := tAg_cells B0.length t
  have hs := tAg_safe (B0 ++ bRow B0.length t.kids ++ B1).length B0.length t (by simp [bRow_len])
  have hcl := tAg_clr B0.length t
  have hrc := clr_tRow B0.length t.kids
  have hri := isCell_tRow B0.length t.kids
  have hlen : (B0 ++ bRow B0.length (T.marks k t.kids) ++ B1).length = (B0 ++ bRow B0.length t.kids ++ B1).length := by simp [bRow_len, rowN_marks]
  generalize B0 ++ bRow B0.length t.kids ++ B1 = B at h hs hlen ⊢
  generalize B0 ++ bRow B0.length (T.marks k t.kids) ++ B1 = B' at h hlen ⊢
  generalize ((k + 2 * t.inner : Nat) : Int) = Kn at h ⊢
  generalize tAg B0.length t = y at hc hs hcl ⊢
  generalize tRow B0.length t.kids = row at h hc hrc hri ⊢
  have hg : ∀ c : List AV, (B ++ [some c])[B.length]? = some (some c) := fun c => by simp
  have htk : ∀ c : List AV, List.take B.length (B' ++ [some c]) = B' := fun c => by rw [← hlen]; simp
  simp [v308, r308_0, r308_1, r308_2, hc, hs, hcl, hrc, hri, h, isCellA_d, isCell_int, safes_cons, htk]
end Go.Proofs.Ytnjgnjejkmcgmaa.VS
namespace Go.Proofs.Ytnjgnjejkmcgmaa.VS
set_option linter.unusedVariables false
set_option linter.unusedSimpArgs false
end Go.Proofs.Ytnjgnjejkmcgmaa.VS
namespace Go.Proofs.Ytnjgnjejkmcgmaa.VS
set_option linter.unusedVariables false
set_option linter.unusedSimpArgs false
theorem specBefore_of (f v : Int) (ks : List T) (f' v' : Int) (ks' : List T) (hl : ks.length ≤ 1099511627776) (hl' : ks'.length ≤ 1099511627776)
    (hsame : ∀ s s', s ∈ ks → s' ∈ ks' → callX XV 3 [.d (s.enc .sub), .d (s'.enc .sub)] [] = some (.d (.bool (T.cmp s s' == 0)), []))
    (hrec : ∀ s s', s ∈ ks → s' ∈ ks' → callX XV 84 [.d (s.enc .sub), .d (s'.enc .sub)] [] = some (.d (.bool (decide (T.cmp s s' < 0))), [])) :
    callX XV 84 [.d ((T.node f v ks).enc .sub), .d ((T.node f' v' ks').enc .sub)] [] = some (.d (.bool (decide (T.cmp (.node f v ks) (.node f' v' ks') < 0))), []) := by
  rw [z_call XV _ _ _ v84 rfl xcode_84 rfl]
  rw [cmp_node]
  by_cases c1 : f = f'
  case neg =>
    have b1 : (f != f') = true := by simp [c1]
    have e : decide (cmpP f f' v v' ks.length ks'.length (T.cmps ks ks') < 0) = decide (f < f') := by
      unfold cmpP; by_cases h1 : f < f'
      · simp [h1]
      · have h2 : f > f' := by omega
        simp [h1, h2]
    rw [e]
    simp [v84, r84_0, r84_1, r84_2, r84_3, r84_4, r84_5, r84_6, r84_7, r84_8, d84_10, d84_11, r84_9, r84_12, b1]
  subst c1
  by_cases c2 : v = v'
  case neg =>
    have b2 : (v != v') = true := by simp [c2]
    have e : decide (cmpP f f v v' ks.length ks'.length (T.cmps ks ks') < 0) = decide (v < v') := by
      unfold cmpP; by_cases h1 : v < v'
      · simp [h1]
      · have h2 : v > v' := by omega
        simp [h1, h2]
    rw [e]
    simp [v84, r84_0, r84_1, r84_2, r84_3, r84_4, r84_5, r84_6, r84_7, r84_8, d84_10, d84_11, r84_9, r84_12, b2]
  subst c2
  by_cases c3 : ks.length = ks'.length
  case neg =>
    have b3 : ((ks.length : Int) != ks'.length) = true := by simp; omega
    have e : decide (cmpP f f v v ks.length ks'.length (T.cmps ks ks') < 0) = decide (ks.length < ks'.length) := by
      unfold cmpP; by_cases h1 : ks.length < ks'.length
      · simp [h1]
      · have h2 : ks'.length < ks.length := by omega
        simp [h1, h2]
    rw [e]
    simp [v84, r84_0, r84_1, r84_2, r84_3, r84_4, r84_5, r84_6, r84_7, r84_8, d84_10, d84_11, r84_9, r84_12, b3]
  have hcp : cmpP f f v v ks.length ks'.length (T.cmps ks ks') = T.cmps ks ks' := by simp [cmpP, c3]
  rw [hcp]
  have h := loopX_upto (X := XV) (T := []) (L := 2) (live := [2, 3, 5]) (b := b84_0) (n := ks.length) (γ := Int) (st := fun (_ : Unit) i => ⟨[(2, .ptr 0 0), (3, .ptr 1 0), (5, .d (.int .i64 i))], cmpB f v ks f v ks'⟩) (step := stepC ks ks')
    (F := fun _ => (.exit 0, ⟨[(2, .ptr 0 0), (3, .ptr 1 0), (5, .d (.int .i64 ks.length)), (44, .d (.bool false))], cmpB f v ks f v ks'⟩)) (R := fun r => (.ret, ⟨[(4, .d (.bool (decide (r < 0))))], cmpB f v ks f v ks'⟩))
    (fun _ => ⟨by simp, by simp [b84_0, r84_0, r84_1, r84_2, r84_3, r84_4, r84_5, r84_6, r84_7, r84_8, d84_10, d84_11, r84_9, r84_12, cmpB]⟩)
    (fun _ i hi => by
      have hw := wrap_succ (n := i) (by omega)
      have hi2 : i < ks'.length := by omega
      have hs := hsame _ _ (tAt_mem hi) (tAt_mem hi2)
      have hc := hrec _ _ (tAt_mem hi) (tAt_mem hi2)
      unfold stepC cmpB
      by_cases h0 : T.cmp (tAt ks i) (tAt ks' i) = 0
      · rw [h0] at hs ⊢
        simp only [ne_eq, not_true_eq_false, if_false]
        refine ⟨_, by simp [b84_0, r84_0, r84_1, r84_2, r84_3, r84_4, r84_5, r84_6, r84_7, r84_8, d84_10, d84_11, r84_9, r84_12, hi, hi2, hw, cut, tAt_lt hi, tAt_lt hi2, hs]; rfl, ?_⟩
        simp [xheadOf, safeRegs]
      · simp only [ne_eq, h0, not_false_eq_true, if_true]
        have h0' : (T.cmp (tAt ks i) (tAt ks' i) == 0) = false := by simp [h0]
        rw [h0'] at hs
        refine ⟨by simp, ?_⟩
        simp [b84_0, r84_0, r84_1, r84_2, r84_3, r84_4, r84_5, r84_6, r84_7, r84_8, d84_10, d84_11, r84_9, r84_12, hi, hi2, hw, cut, tAt_lt hi, tAt_lt hi2, hs, hc])
    ks.length () 0 ⟨[(2, .ptr 0 0), (3, .ptr 1 0), (5, .d (.int .i64 0))], cmpB f v ks f v ks'⟩ (by omega) (by simp [xheadOf, safeRegs, cmpB])
  rw [runC ks ks' c3 _ _ (by omega)] at h
  simp only [List.drop_zero, cmpB, terms] at h
  simp [v84, r84_0, r84_1, r84_2, r84_3, r84_4, r84_5, r84_6, r84_7, r84_8, d84_10, d84_11, r84_9, r84_12, c3]
  rw [c3] at h
  rw [h]
  by_cases h0 : T.cmps ks ks' = 0 <;> simp [h0, v84, r84_0, r84_1, r84_2, r84_3, r84_4, r84_5, r84_6, r84_7, r84_8, d84_10, d84_11, r84_9, r84_12]
theorem specBefore_eq (a b : T) (ha : a.inner ≤ 1099511627776) (hb : b.inner ≤ 1099511627776) : callX XV 84 [.d (a.enc .sub), .d (b.enc .sub)] [] = some (.d (.bool (decide (T.cmp a b < 0))), []) := by
  match a, b, ha, hb with
  | .node f v ks, .node f' v' ks', ha, hb =>
    simp only [T.inner] at ha hb
    exact specBefore_of f v ks f' v' ks' (by omega) (by omega) (fun s s' hs hs' => specSame_eq s s' (by have := T.inners_mem hs; omega) (by have := T.inners_mem hs'; omega)) (fun s s' hs hs' => specBefore_eq s s' (by have := T.inners_mem hs; omega) (by have := T.inners_mem hs'; omega))
termination_by a
decreasing_by
  simp_wf
  have := List.sizeOf_lt_of_mem hs
  omega
end Go.Proofs.Ytnjgnjejkmcgmaa.VS
namespace Go.Proofs.Ytnjgnjejkmcgmaa.VS
set_option linter.unusedVariables false
set_option linter.unusedSimpArgs false
def headBad (l : List SymL) (f v : Int) (n : Nat) : Bool :=
  if symIn l f = true then
    if v = 0 then (if (symAt l f.toNat).ac = true then decide ((n : Int) < 2) else !decide ((n : Int) = (symAt l f.toNat).arity))
    else true
  else true
/-- A Kid that may not stand there, if it is right by itself. -/
def outOf (l : List SymL) (f : Int) (ks : List T) (i : Nat) : Bool :=
  if (symAt l f.toNat).ac = true then (if (tAt ks i).f = f then true else if i = 0 then false else decide (T.cmp (tAt ks i) (tAt ks (i - 1)) < 0)) else false
mutual
def T.form (l : List SymL) : T → Bool
  | .node f v ks =>
    if f = -1 then inB v 0 99 && decide (ks.length = 0)
    else if headBad l f v ks.length = true then false
    else (findAt (fun i => !((T.forms l ks)[i]?).getD false || outOf l f ks i) ks.length 0).isNone
def T.forms (l : List SymL) : List T → List Bool
  | [] => []
  | t :: r => T.form l t :: T.forms l r
end
end Go.Proofs.Ytnjgnjejkmcgmaa.VS
namespace Go.Proofs.Ytnjgnjejkmcgmaa.VS
set_option linter.unusedVariables false
set_option linter.unusedSimpArgs false
/-! ## Substitutions -/
structure Bd where
  v : Int
  t : T
def Bd.enc (g : Tag) (b : Bd) : DV := .agg [.int .i64 b.v, .int .i64 b.t.f, .int .i64 b.t.v, terms g b.t.kids]
def Bd.ok (b : Bd) : Prop := (-9223372036854775808 ≤ b.v ∧ b.v ≤ 9223372036854775807) ∧ b.t.ok
abbrev binds (g : Tag) (l : List Bd) : DV := .sl g (l.map (Bd.enc g))
@[simp] theorem Bd.cells_enc (g : Tag) (x : Bd) : (x.enc g).cells = [.int .i64 x.v, .int .i64 x.t.f, .int .i64 x.t.v, terms g x.t.kids] := rfl
@[simp] theorem Bd.cellsA_enc (g : Tag) (x : Bd) : (AV.d (x.enc g)).cells = [.d (.int .i64 x.v), .d (.int .i64 x.t.f), .d (.int .i64 x.t.v), .d (terms g x.t.kids)] := rfl
@[simp] theorem Bd.isCell_enc (g : Tag) (x : Bd) : (x.enc g).isCell = false := rfl
@[simp] theorem Bd.isAgg_enc (g : Tag) (x : Bd) : isAgg (x.enc g) = true := rfl
@[simp] theorem Bd.clr_enc (g : Tag) (x : Bd) : (x.enc g).clr = x.enc .sub := by
  simp only [Bd.enc, DV.clr, DV.clrs, terms, DV.clrs_map, clr_terms]
@[simp high] theorem Bd.clr_encs (g : Tag) (l : List Bd) : (l.map (Bd.enc g)).map DV.clr = l.map (Bd.enc .sub) := by simp [List.map_map, Function.comp_def]
@[simp] theorem Bd.agg_enc (g : Tag) (x : Bd) : DV.agg [.int .i64 x.v, .int .i64 x.t.f, .int .i64 x.t.v, terms g x.t.kids] = x.enc g := rfl
def bAt (l : List Bd) (i : Nat) : Bd := (l[i]?).getD ⟨0, .node 0 0 []⟩
theorem bAt_lt {l : List Bd} {i : Nat} (h : i < l.length) : l[i] = bAt l i := by simp [bAt, h]
theorem bAt_mem {l : List Bd} {i : Nat} (h : i < l.length) : bAt l i ∈ l := by rw [← bAt_lt h]; exact List.getElem_mem h
theorem szBind_eq (b : Bd) (left : Int) (h0 : 0 ≤ left) (h1 : left ≤ 1099511627776) (hb : b.ok) : callX XV 88 [.d (b.enc .sub), .d (.int .i64 left)] [] = some (.d (.int .i64 (leftOf left b.t.inner)), []) := by
  rw [z_call XV _ _ _ v88 rfl xcode_88 rfl]
  have z := szTerm_eq b.t left hb.2 h0 h1
  by_cases h : left - b.t.inner < 0
  · rw [leftOf_neg h] at z ⊢
    simp [v88, r88_0, r88_1, r88_2, r88_3, r88_4, z, isCell_int, isCell_sl, isCellA_d, safe_d, loadBox, splice]
  · rw [leftOf_pos h] at z ⊢
    simp [v88, r88_0, r88_1, r88_2, r88_3, r88_4, z, h, isCell_int, isCell_sl, isCellA_d, safe_d, loadBox, splice]
def bindsSize (l : List Bd) : Nat := l.length + sumW (fun i => (bAt l i).t.inner) 0 l.length
theorem szBindS_eq (l : List Bd) (left : Int) (hl : l.length ≤ maxLen) (ho : ∀ s, s ∈ l → s.ok) (h0 : 0 ≤ left) (h1 : left ≤ 1099511627776) : callX XV 65 [.d (binds .sub l), .d (.int .i64 left)] [] = some (.d (.int .i64 (leftOf left (bindsSize l))), []) := by
  rw [z_call XV _ _ _ v65 rfl xcode_65 rfl]
  have hw : IntKind.i64.wrap (left - l.length) = left - l.length := wrap_i64 (by unfold maxLen at hl; omega) (by omega)
  unfold bindsSize
  generalize hwd : (fun i => (bAt l i).t.inner) = w
  by_cases h : left - l.length < 0
  · rw [leftOf_neg (by omega)]
    simp [v65, r65_0, r65_1, r65_2, r65_3, r65_4, r65_5, r65_7, r65_8, r65_9, r65_6, r65_10, hw, h]
  · have hloop := loopX_inv (X := XV) (T := []) (L := 0) (live := [0, 1, 5]) (b := b65_0) (n := l.length) (γ := Unit) (st := fun (left : Int) i => ⟨[(0, .d (binds .sub l)), (1, .d (.int .i64 left)), (5, .d (.int .i64 i))], []⟩) (step := stepW w)
      (F := fun left => (.exit 0, ⟨[(0, .d (binds .sub l)), (1, .d (.int .i64 left)), (5, .d (.int .i64 l.length)), (15, .d (.bool false))], []⟩)) (R := fun _ => (.ret, ⟨[(4, .d (.int .i64 (-1)))], []⟩))
      (fun left _ => 0 ≤ left ∧ left ≤ 1099511627776)
      (fun left _ => ⟨by simp, by simp [b65_0, r65_0, r65_1, r65_2, r65_3, r65_4, r65_5, r65_7, r65_8, r65_9, r65_6, r65_10]⟩)
      (fun left i hi hinv => by
        have hw := wrap_succ (n := i) (by unfold maxLen at hl; omega)
        have hc' := szBind_eq (bAt l i) left hinv.1 hinv.2 (ho _ (bAt_mem hi))
        subst hwd
        unfold stepW
        simp only
        by_cases h2 : left - (bAt l i).t.inner < 0
        · rw [leftOf_neg h2] at hc'
          simp only [h2, if_true]
          refine ⟨⟨by simp, ?_⟩, fun a' h => by simp at h⟩
          simp [b65_0, r65_0, r65_1, r65_2, r65_3, r65_4, r65_5, r65_7, r65_8, r65_9, r65_6, r65_10, hi, hw, cut, bAt_lt hi, hc']
        · rw [leftOf_pos h2] at hc'
          simp only [h2, if_false]
          refine ⟨⟨_, by simp [b65_0, r65_0, r65_1, r65_2, r65_3, r65_4, r65_5, r65_7, r65_8, r65_9, r65_6, r65_10, hi, hw, cut, bAt_lt hi, hc', h2]; rfl, by simp [xheadOf, safeRegs]⟩, fun a' h => by simp at h; subst h; exact ⟨by omega, by omega⟩⟩)
      l.length (left - l.length) 0 ⟨[(0, .d (binds .sub l)), (1, .d (.int .i64 (left - l.length))), (5, .d (.int .i64 0))], []⟩ (by omega) ⟨by omega, by omega⟩ (by simp [xheadOf, safeRegs])
    rw [runW _ _ _ _ (by omega)] at hloop
    simp [v65, r65_0, r65_1, r65_2, r65_3, r65_4, hw, h]
    rw [hloop]
    by_cases h3 : left - l.length - sumW w 0 l.length < 0
    · rw [leftOf_neg (by omega)]; simp [h3]
    · rw [leftOf_pos (by omega)]
      simp [h3, v65, r65_0, r65_1, r65_2, r65_3, r65_4, r65_5, r65_7, r65_8, r65_9, r65_6, r65_10]; omega
theorem bind_le (l : List Bd) (i : Nat) (hi : i < l.length) : (bAt l i).t.inner ≤ bindsSize l := by
  have := sumW_ge (fun i => (bAt l i).t.inner) l.length 0 i (Nat.zero_le _) (by omega)
  unfold bindsSize; omega
theorem bindEncs_ok (g : Tag) (l : List Bd) : ∀ x : DV, x ∈ l.map (Bd.enc g) → elemOK true 4 x := by
  intro x hx; simp only [List.mem_map] at hx; obtain ⟨n, _, rfl⟩ := hx; exact ⟨by simp, by simp [isCell_int, isCell_sl], fun _ => ⟨_, rfl⟩, by simp⟩
theorem toBind_eq (b : Bd) (hb : b.t.inner ≤ 1099511627776) : callX XV 87 [.d (b.enc .sub)] [] = some (.d (b.enc U), []) := by
  rw [z_call XV _ _ _ v87 rfl xcode_87 rfl]
  have t1 := toTerm_eq b.t hb
  simp [v87, r87_0, r87_1, r87_2, r87_3, r87_4, t1, isCell_int, isCell_sl, isCellA_d, safe_d, loadBox, splice, Bd.agg_enc]
def zB : DV := .agg [.int .i64 0, .int .i64 0, .int .i64 0, .sl U []]
theorem toBindS_eq (l : List Bd) (hl : l.length ≤ 1099511627776) (hb : ∀ i, i < l.length → (bAt l i).t.inner ≤ 1099511627776) : callX XV 66 [.d (binds .sub l)] [] = some (.d (binds U l), []) := by
  rw [z_call XV _ _ _ v66 rfl xcode_66 rfl]
  have hcell : ∀ x : DV, x ∈ l.map (Bd.enc U) → x.cells.length = 4 := fun x hx => (bindEncs_ok U l x hx).1
  have hloop := loopX_upto (X := XV) (T := XV.lin 66) (L := 1) (live := [0, 3, 4]) (b := b66_0) (n := l.length) (γ := Unit) (st := fun (_ : Unit) i => ⟨[(0, .d (binds .sub l)), (3, .bsl [] true 0 4 l.length), (4, .d (.int .i64 i))], [some (rowG (l.map (Bd.enc U)) zB i)]⟩) (step := fun _ _ => .inl ())
    (F := fun _ => (.exit 0, ⟨[(0, .d (binds .sub l)), (3, .bsl [] true 0 4 l.length), (4, .d (.int .i64 l.length)), (11, .d (.bool false))], [some (rowG (l.map (Bd.enc U)) zB l.length)]⟩)) (R := fun _ => (.ret, ⟨[], []⟩))
    (fun _ => ⟨by simp, by simp [b66_0, r66_0, r66_1, r66_2, r66_3, r66_5, r66_4, r66_6]⟩)
    (fun _ i hi => by
      have hw := wrap_succ (n := i) (by omega)
      have hlen := rowG_len (z := zB) hcell rfl i
      have hset := rowG_set (z := zB) hcell rfl i (by simpa using hi)
      simp only [List.getElem_map, bAt_lt hi, Bd.cells_enc, List.map_cons, List.map_nil, List.length_map] at hset hlen
      have hle : i * 4 + 4 ≤ l.length * 4 := by omega
      have hc' := toBind_eq (bAt l i) (hb i hi)
      exact ⟨_, by simp [b66_0, r66_0, r66_1, r66_2, r66_3, r66_5, r66_4, r66_6, hi, hw, cut, bAt_lt hi, hc', hlen, hle, hset, isCell_int, isCell_sl, isCellA_d, safe_d]; rfl, by simp [xheadOf, safeRegs]⟩)
    l.length () 0 ⟨[(0, .d (binds .sub l)), (3, .bsl [] true 0 4 l.length), (4, .d (.int .i64 0))], [some (rowG (l.map (Bd.enc U)) zB 0)]⟩ (by omega) (by simp [xheadOf, safeRegs])
  rw [run_on, rowG_zero] at hloop
  have hch := chunks_row (l.map (Bd.enc U)) (bindEncs_ok U l)
  have hfl : (flat (l.map (Bd.enc U))).length = l.length * 4 := by rw [flat_len hcell]; simp
  have hall := rowG_all (l.map (Bd.enc U)) zB
  rw [List.length_map] at hch hall
  simp only [zB, lin_66, List.length_map] at hloop hall
  have hle2 : l.length * 48 ≤ 140737488355328 := by omega
  have hlt : (l.length : Int) < 9223372036854775808 := by omega
  have hlt2 : l.length < 9223372036854775808 := by omega
  simp [v66, r66_0, r66_1, r66_2, r66_3, r66_5, r66_4, r66_6, hle2, hlt]
  try simp at hloop
  rw [hloop]
  try simp at hall
  simp [hall, datas_row, hch, hfl, hlt2, v66, r66_0, r66_1, r66_2, r66_3, r66_5, r66_4, r66_6]
theorem eqBind_self (b : Bd) (hb : b.t.inner ≤ 1099511627776) : callX XV 86 [.d (b.enc .sub), .d (b.enc .sub)] [] = some (.d (.bool true), []) := by
  rw [z_call XV _ _ _ v86 rfl xcode_86 rfl]
  have t1 := eqTerm_self b.t hb
  simp [v86, r86_0, r86_1, r86_2, r86_3, r86_4, r86_5, t1, isCell_int, isCell_sl, isCellA_d, safe_d, loadBox, splice]
theorem eqBindS_self (l : List Bd) (hl : l.length ≤ 1099511627776) (hb : ∀ i, i < l.length → (bAt l i).t.inner ≤ 1099511627776) : callX XV 69 [.d (binds .sub l), .d (binds .sub l)] [] = some (.d (.bool true), []) := by
  rw [z_call XV _ _ _ v69 rfl xcode_69 rfl]
  have hloop := loopX_upto (X := XV) (T := []) (L := 0) (live := [0, 1, 5]) (b := b69_0) (n := l.length) (γ := Unit) (st := fun (_ : Unit) i => ⟨[(0, .d (binds .sub l)), (1, .d (binds .sub l)), (5, .d (.int .i64 i))], []⟩) (step := fun _ _ => .inl ())
    (F := fun _ => (.exit 0, ⟨[(0, .d (binds .sub l)), (1, .d (binds .sub l)), (5, .d (.int .i64 l.length)), (14, .d (.bool false))], []⟩)) (R := fun _ => (.ret, ⟨[], []⟩))
    (fun _ => ⟨by simp, by simp [b69_0, r69_0, r69_1, r69_2, r69_3, r69_4, d69_6, r69_7, r69_5, r69_8]⟩)
    (fun _ i hi => by
      have hw := wrap_succ (n := i) (by omega)
      have hc' := eqBind_self (bAt l i) (hb i hi)
      exact ⟨_, by simp [b69_0, r69_0, r69_1, r69_2, r69_3, r69_4, d69_6, r69_7, r69_5, r69_8, hi, hw, cut, bAt_lt hi, hc']; rfl, by simp [xheadOf, safeRegs]⟩)
    l.length () 0 ⟨[(0, .d (binds .sub l)), (1, .d (binds .sub l)), (5, .d (.int .i64 0))], []⟩ (by omega) (by simp [xheadOf, safeRegs])
  rw [run_on] at hloop
  simp [v69, r69_0, r69_1, r69_2, r69_3, r69_4, d69_6, r69_7, r69_5, r69_8]
  rw [hloop]
  simp [v69, r69_0, r69_1, r69_2, r69_3, r69_4, d69_6, r69_7, r69_5, r69_8]
end Go.Proofs.Ytnjgnjejkmcgmaa.VS
namespace Go.Proofs.Ytnjgnjejkmcgmaa.VS
set_option linter.unusedVariables false
set_option linter.unusedSimpArgs false
theorem allU_bool (b : Bool) : (DV.bool b).allUT = true := rfl
end Go.Proofs.Ytnjgnjejkmcgmaa.VS
