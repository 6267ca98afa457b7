/- Contracts of the program's functions on the evaluator without names, and plain lemmas: part 1. -/
import Derived.Test.YtficfeekkljoeaaLin
namespace Go.Proofs.Ytficfeekkljoeaa.VS
set_option linter.unusedVariables false
set_option linter.unusedSimpArgs false
/-- A term. -/
inductive T where
  | node (f v : Int) (kids : List T)
  deriving Inhabited
def T.f : T → Int | .node f _ _ => f
def T.v : T → Int | .node _ v _ => v
def T.kids : T → List T | .node _ _ k => k
mutual
def T.enc (g : Tag) : T → DV
  | .node f v ks => .agg [.int .i64 f, .int .i64 v, .sl g (T.encs g ks)]
def T.encs (g : Tag) : List T → List DV
  | [] => []
  | t :: r => t.enc g :: T.encs g r
end
theorem T.encs_map (g : Tag) : ∀ l : List T, T.encs g l = l.map (T.enc g)
  | [] => by unfold T.encs; rfl
  | t :: r => by unfold T.encs; simp [T.encs_map g r]
abbrev terms (g : Tag) (l : List T) : DV := .sl g (l.map (T.enc g))
theorem T.enc_eq (g : Tag) (t : T) : t.enc g = .agg [.int .i64 t.f, .int .i64 t.v, terms g t.kids] := by
  cases t; simp [T.enc, T.encs_map, terms, T.f, T.v, T.kids]
@[simp] theorem agg_enc (g : Tag) (f v : Int) (ks : List T) : DV.agg [.int .i64 f, .int .i64 v, terms g ks] = (T.node f v ks).enc g := by
  simp [T.enc, T.encs_map, terms]
@[simp] theorem T.eta (t : T) : T.node t.f t.v t.kids = t := by cases t; rfl
@[simp] theorem T.f_node (f v : Int) (k : List T) : (T.node f v k).f = f := rfl
@[simp] theorem T.v_node (f v : Int) (k : List T) : (T.node f v k).v = v := rfl
@[simp] theorem T.kids_node (f v : Int) (k : List T) : (T.node f v k).kids = k := rfl
@[simp] theorem T.cells_enc (g : Tag) (t : T) : (t.enc g).cells = [.int .i64 t.f, .int .i64 t.v, terms g t.kids] := by rw [T.enc_eq]; rfl
@[simp] theorem T.cellsA_enc (g : Tag) (t : T) : (AV.d (t.enc g)).cells = [.d (.int .i64 t.f), .d (.int .i64 t.v), .d (terms g t.kids)] := by rw [T.enc_eq]; rfl
@[simp] theorem T.isCell_enc (g : Tag) (t : T) : (t.enc g).isCell = false := by rw [T.enc_eq]; rfl
mutual
theorem T.clr_enc (g : Tag) : ∀ t : T, (t.enc g).clr = t.enc .sub
  | .node f v ks => by simp only [T.enc, DV.clr, DV.clrs, T.clr_encs g ks]
theorem T.clr_encs (g : Tag) : ∀ l : List T, DV.clrs (T.encs g l) = T.encs .sub l
  | [] => by simp only [T.encs, DV.clrs]
  | t :: r => by simp only [T.encs, DV.clrs, T.clr_enc g t, T.clr_encs g r]
end
attribute [simp] T.clr_enc
@[simp high] theorem clr_terms (g : Tag) (l : List T) : (l.map (T.enc g)).map DV.clr = l.map (T.enc .sub) := by
  rw [← T.encs_map, ← T.encs_map, ← DV.clrs_map, T.clr_encs]
def tAt (l : List T) (i : Nat) : T := (l[i]?).getD (.node 0 0 [])
theorem tAt_lt {l : List T} {i : Nat} (h : i < l.length) : l[i] = tAt l i := by simp [tAt, h]
theorem tAt_mem {l : List T} {i : Nat} (h : i < l.length) : tAt l i ∈ l := by rw [← tAt_lt h]; exact List.getElem_mem h
theorem tAt_get {l : List T} {i : Nat} (h : i < l.length) : l[i]? = some (tAt l i) := by simp [tAt, h]
@[simp] theorem terms_get (g : Tag) {l : List T} {i : Nat} (h : i < l.length) : (l.map (T.enc g))[i]? = some ((tAt l i).enc g) := by simp [tAt_get h]
mutual
/-- How many terms stand in a term, without itself. -/
def T.inner : T → Nat
  | .node _ _ ks => ks.length + T.inners ks
def T.inners : List T → Nat
  | [] => 0
  | t :: r => t.inner + T.inners r
end
/-- What szTerm leaves. -/
def leftOf (left : Int) (n : Nat) : Int := if left - n < 0 then -1 else left - n
def stepT (l : List T) (left : Int) (i : Nat) : Int ⊕ Unit := if left - (tAt l i).inner < 0 then .inr () else .inl (left - (tAt l i).inner)
theorem runT (l : List T) : ∀ (k i : Nat) (left : Int), i + k = l.length → 0 ≤ left → runN (stepT l) k left i = if left - T.inners (l.drop i) < 0 then .inr () else .inl (left - T.inners (l.drop i))
  | 0, i, left, h, h0 => by
    have : l.drop i = [] := List.drop_eq_nil_of_le (by omega)
    have h1 : ¬ left < 0 := by omega
    simp [runN, this, T.inners, h1]
  | k + 1, i, left, h, h0 => by
    have hlt : i < l.length := by omega
    have hs : T.inners (l.drop i) = (tAt l i).inner + T.inners (l.drop (i + 1)) := by
      rw [List.drop_eq_getElem_cons hlt, tAt_lt hlt]
      simp only [T.inners]
    rw [hs]
    generalize hm : T.inners (l.drop (i + 1)) = m
    have ih := fun left h0 => runT l k (i + 1) left (by omega) h0
    rw [hm] at ih
    simp only [runN, stepT]
    by_cases h1 : left - (tAt l i).inner < 0
    · have h2 : left - ((tAt l i).inner + m : Nat) < 0 := by omega
      simp only [h1, h2, if_true]
    · simp only [h1, if_false]
      rw [ih _ (by omega)]
      have e : left - (tAt l i).inner - (m : Int) = left - ((tAt l i).inner + m : Nat) := by omega
      rw [e]
theorem szTermS_of (l : List T) (left : Int) (hl : l.length ≤ maxLen) (h0 : 0 ≤ left) (h1 : left ≤ 1099511627776)
    (hc : ∀ t, t ∈ l → ∀ left, 0 ≤ left → left ≤ 1099511627776 → callX XV 1 [.d (t.enc .sub), .d (.int .i64 left)] [] = some (.d (.int .i64 (leftOf left t.inner)), [])) :
    callX XV 9 [.d (terms .sub l), .d (.int .i64 left)] [] = some (.d (.int .i64 (leftOf left (l.length + T.inners l))), []) := by
  rw [z_call XV _ _ _ v9 rfl xcode_9 rfl]
  have hw : IntKind.i64.wrap (left - l.length) = left - l.length := wrap_i64 (by unfold maxLen at hl; omega) (by omega)
  by_cases h : left - l.length < 0
  · have h2 : leftOf left (l.length + T.inners l) = -1 := by unfold leftOf; rw [if_pos (by omega)]
    simp [v9, r9_0, r9_1, r9_2, r9_3, hw, h, h2]
  · have hloop := loopX_inv (X := XV) (T := []) (L := 0) (live := [0, 1, 5]) (b := b9_0) (n := l.length) (γ := Unit) (st := fun (left : Int) i => ⟨[(0, .d (terms .sub l)), (1, .d (.int .i64 left)), (5, .d (.int .i64 i))], []⟩) (step := stepT l)
      (F := fun left => (.exit 0, ⟨[(0, .d (terms .sub l)), (1, .d (.int .i64 left)), (5, .d (.int .i64 l.length)), (15, .d (.bool false))], []⟩)) (R := fun _ => (.ret, ⟨[(4, .d (.int .i64 (-1)))], []⟩))
      (fun left _ => 0 ≤ left ∧ left ≤ 1099511627776)
      (fun left _ => ⟨by simp, by simp [b9_0, r9_5]⟩)
      (fun left i hi hinv => by
        have hw := wrap_succ (n := i) (by unfold maxLen at hl; omega)
        have hc' := hc _ (tAt_mem hi) left hinv.1 hinv.2
        unfold stepT
        by_cases h2 : left - (tAt l i).inner < 0
        · have hl' : leftOf left (tAt l i).inner = -1 := by unfold leftOf; rw [if_pos h2]
          rw [hl'] at hc'
          simp only [h2, if_true]
          refine ⟨⟨by simp, ?_⟩, fun a' h => by simp at h⟩
          simp [b9_0, r9_5, r9_6, r9_7, r9_8, r9_9, hi, hw, cut, tAt_lt hi, hc']
        · have hl' : leftOf left (tAt l i).inner = left - (tAt l i).inner := by unfold leftOf; rw [if_neg h2]
          rw [hl'] at hc'
          simp only [h2, if_false]
          refine ⟨⟨_, by simp [b9_0, r9_5, r9_6, r9_7, r9_8, r9_9, hi, hw, cut, tAt_lt hi, hc', h2]; rfl, by simp [xheadOf, safeRegs]⟩, fun a' h => by simp at h; subst h; exact ⟨by omega, by omega⟩⟩)
      l.length (left - l.length) 0 ⟨[(0, .d (terms .sub l)), (1, .d (.int .i64 (left - l.length))), (5, .d (.int .i64 0))], []⟩ (by omega) ⟨by omega, by omega⟩ (by simp [xheadOf, safeRegs])
    rw [runT l _ _ _ (by omega) (by omega), List.drop_zero] at hloop
    simp [v9, r9_0, r9_1, r9_2, r9_3, r9_4, hw, h]
    rw [hloop]
    by_cases h3 : left - l.length - T.inners l < 0
    · have h4 : leftOf left (l.length + T.inners l) = -1 := by unfold leftOf; rw [if_pos (by omega)]
      simp [h3, h4]
    · have h4 : leftOf left (l.length + T.inners l) = left - l.length - T.inners l := by unfold leftOf; rw [if_neg (by omega)]; omega
      simp [h3, h4, r9_10]
end Go.Proofs.Ytficfeekkljoeaa.VS
namespace Go.Proofs.Ytficfeekkljoeaa.VS
set_option linter.unusedVariables false
set_option linter.unusedSimpArgs false
mutual
/-- No row is longer than Go allows. -/
def T.ok : T → Prop
  | .node _ _ ks => ks.length ≤ maxLen ∧ T.oks ks
def T.oks : List T → Prop
  | [] => True
  | t :: r => t.ok ∧ T.oks r
end
theorem T.oks_iff : ∀ l : List T, T.oks l ↔ ∀ t, t ∈ l → t.ok
  | [] => by simp [T.oks]
  | t :: r => by simp [T.oks, T.oks_iff r]
theorem szTerm_eq (t : T) (left : Int) (ht : t.ok) (h0 : 0 ≤ left) (h1 : left ≤ 1099511627776) : callX XV 1 [.d (t.enc .sub), .d (.int .i64 left)] [] = some (.d (.int .i64 (leftOf left t.inner)), []) := by
  match t, ht with
  | .node f v ks, ht =>
    simp only [T.ok] at ht
    have hc := szTermS_of ks left ht.1 h0 h1 (fun s hs left h0 h1 => szTerm_eq s left ((T.oks_iff ks).1 ht.2 s hs) h0 h1)
    rw [z_call XV _ _ _ v1 rfl xcode_1 rfl]
    have hi : (T.node f v ks).inner = ks.length + T.inners ks := by simp [T.inner]
    rw [hi]
    by_cases h : left - (ks.length + T.inners ks : Nat) < 0
    · have h2 : leftOf left (ks.length + T.inners ks) = -1 := by unfold leftOf; rw [if_pos h]
      rw [h2] at hc ⊢
      simp [v1, r1_0, r1_1, r1_2, r1_3, hc]
    · have h2 : leftOf left (ks.length + T.inners ks) = left - (ks.length + T.inners ks : Nat) := by unfold leftOf; rw [if_neg h]
      rw [h2] at hc ⊢
      have h3 : ¬ (left - ((ks.length : Int) + T.inners ks)) < 0 := by omega
      simp [v1, r1_0, r1_1, r1_2, r1_3, r1_4, hc, h3]
termination_by t
decreasing_by
  simp_wf
  have := List.sizeOf_lt_of_mem hs
  omega

/-! toTerm: the same term -/
theorem encs_ok (g : Tag) (l : List T) : ∀ x : DV, x ∈ l.map (T.enc g) → elemOK true 3 x := by
  intro x hx
  simp only [List.mem_map] at hx
  obtain ⟨t, _, rfl⟩ := hx
  exact ⟨by simp, by simp [isCell_int, isCell_sl], fun _ => ⟨_, T.enc_eq g t⟩, by simp⟩
theorem encs_cells (g : Tag) (l : List T) : ∀ x : DV, x ∈ l.map (T.enc g) → x.cells.length = 3 := fun x hx => (encs_ok g l x hx).1
def zT : DV := .agg [.int .i64 0, .int .i64 0, .sl U []]
def rowT (l : List T) (i : Nat) : List AV := rowCells (Go.Proofs.Ytficfeekkljoeaa.VS.filled (l.map (T.enc U)) zT i)
theorem rowT_len (l : List T) (i : Nat) : (rowT l i).length = l.length * 3 := by
  unfold rowT
  rw [rowCells_len (sz := 3) (filled_cells (encs_cells U l) rfl i), filled_len]; simp
theorem rowT_set (l : List T) (i : Nat) (h : i < l.length) : splice (rowT l i) (i * 3) [.d (.int .i64 (tAt l i).f), .d (.int .i64 (tAt l i).v), .d (terms U (tAt l i).kids)] = rowT l (i + 1) := by
  have h1 := splice_row (sz := 3) (i := i) (es := Go.Proofs.Ytficfeekkljoeaa.VS.filled (l.map (T.enc U)) zT i) (e := (tAt l i).enc U) (filled_cells (encs_cells U l) rfl i) (by simp) (by rw [filled_len]; simpa using h)
  have h2 := filled_set (l.map (T.enc U)) zT i (by simpa using h)
  simp only [T.cells_enc, List.map_cons, List.map_nil] at h1
  unfold rowT
  rw [h1, ← h2]
  simp [tAt_lt h]
theorem rowT_zero (l : List T) : rowT l 0 = ((List.replicate l.length zT).flatMap DV.cells).map .d := by
  unfold rowT; rw [filled_zero]; simp [rowCells, flat]
theorem rowT_all (l : List T) : rowT l l.length = rowCells (l.map (T.enc U)) := by
  unfold rowT
  have := filled_all (l.map (T.enc U)) zT
  rw [List.length_map] at this
  rw [this]
theorem toTermS_of (l : List T) (hl : l.length ≤ 1099511627776) (hc : ∀ t, t ∈ l → callX XV 2 [.d (t.enc .sub)] [] = some (.d (t.enc U), [])) :
    callX XV 8 [.d (terms .sub l)] [] = some (.d (terms U l), []) := by
  rw [z_call XV _ _ _ v8 rfl xcode_8 rfl]
  have hloop := loopX_upto (X := XV) (T := XV.lin 8) (L := 1) (live := [0, 3, 4]) (b := b8_0) (n := l.length) (γ := Unit) (st := fun (_ : Unit) i => ⟨[(0, .d (terms .sub l)), (3, .bsl [] true 0 3 l.length), (4, .d (.int .i64 i))], [some (rowT l i)]⟩) (step := fun _ _ => .inl ())
    (F := fun _ => (.exit 0, ⟨[(0, .d (terms .sub l)), (3, .bsl [] true 0 3 l.length), (4, .d (.int .i64 l.length)), (11, .d (.bool false))], [some (rowT l l.length)]⟩)) (R := fun _ => (.ret, ⟨[], []⟩))
    (fun _ => ⟨by simp, by simp [b8_0, r8_3]⟩)
    (fun _ i hi => by
      have hw := wrap_succ (n := i) (by omega)
      have hc' := hc _ (tAt_mem hi)
      have hlen := rowT_len l i
      have hle : i * 3 + 3 ≤ l.length * 3 := by omega
      have hset := rowT_set l i hi
      refine ⟨_, by simp [b8_0, r8_3, r8_4, r8_5, hi, hw, cut, tAt_lt hi, hc', hlen, hle, hset, isCell_int, isCell_sl, isCellA_d, safe_d]; rfl, by simp [xheadOf, safeRegs]⟩)
    l.length () 0 ⟨[(0, .d (terms .sub l)), (3, .bsl [] true 0 3 l.length), (4, .d (.int .i64 0))], [some (rowT l 0)]⟩ (by omega) (by simp [xheadOf, safeRegs])
  have hrun : ∀ k i, runN (fun (_ : Unit) (_ : Nat) => (Sum.inl () : Unit ⊕ Unit)) k () i = .inl () := by
    intro k; induction k with
    | zero => intro i; rfl
    | succ k ih => intro i; simp [runN, ih]
  rw [hrun, rowT_zero] at hloop
  have hch := chunks_row (l.map (T.enc U)) (encs_ok U l)
  rw [List.length_map] at hch
  have hfl : (flat (l.map (T.enc U))).length = l.length * 3 := by rw [flat_len (encs_cells U l)]; simp
  have hall := rowT_all l
  simp only [zT, lin_8] at hloop
  have hle2 : l.length * 40 ≤ 140737488355328 := by omega
  have hlt : (l.length : Int) < 9223372036854775808 := by omega
  have hlt2 : l.length < 9223372036854775808 := by omega
  simp [v8, r8_0, r8_1, r8_2, r8_6, isAgg, hle2, hlt]
  rw [hloop]
  simp [hall, datas_row, hch, hfl, hlt2, r8_6]
end Go.Proofs.Ytficfeekkljoeaa.VS
namespace Go.Proofs.Ytficfeekkljoeaa.VS
set_option profiler true
set_option profiler.threshold 2000
set_option linter.unusedVariables false
set_option linter.unusedSimpArgs false
theorem T.inners_mem : ∀ {l : List T} {t : T}, t ∈ l → t.inner ≤ T.inners l
  | [], t, h => by simp at h
  | s :: r, t, h => by
    simp only [T.inners]
    rcases List.mem_cons.1 h with rfl | h
    · omega
    · have := T.inners_mem h; omega
theorem toTerm_eq (t : T) (hi : t.inner ≤ 1099511627776) : callX XV 2 [.d (t.enc .sub)] [] = some (.d (t.enc U), []) := by
  match t, hi with
  | .node f v ks, hi =>
    simp only [T.inner] at hi
    have hc := toTermS_of ks (by omega) (fun s hs => toTerm_eq s (by have := T.inners_mem hs; omega))
    rw [z_call XV _ _ _ v2 rfl xcode_2 rfl]
    simp [v2, r2_0, r2_1, r2_2, r2_3, r2_4, r2_5, hc, splice, loadBox, AV.clrs_map, isCell_int, isCell_sl, isCellA_d, safe_d]
termination_by t
decreasing_by
  simp_wf
  have := List.sizeOf_lt_of_mem hs
  omega

/-! eqTerm, of a term with itself -/
theorem eqTermS_of (l : List T) (hl : l.length ≤ 1099511627776) (hc : ∀ t, t ∈ l → callX XV 5 [.d (t.enc .sub), .d (t.enc .sub)] [] = some (.d (.bool true), [])) :
    callX XV 7 [.d (terms .sub l), .d (terms .sub l)] [] = some (.d (.bool true), []) := by
  rw [z_call XV _ _ _ v7 rfl xcode_7 rfl]
  have hloop := loopX_upto (X := XV) (T := []) (L := 0) (live := [0, 1, 5]) (b := b7_0) (n := l.length) (γ := Unit) (st := fun (_ : Unit) i => ⟨[(0, .d (terms .sub l)), (1, .d (terms .sub l)), (5, .d (.int .i64 i))], []⟩) (step := fun _ _ => .inl ())
    (F := fun _ => (.exit 0, ⟨[(0, .d (terms .sub l)), (1, .d (terms .sub l)), (5, .d (.int .i64 l.length)), (14, .d (.bool false))], []⟩)) (R := fun _ => (.ret, ⟨[], []⟩))
    (fun _ => ⟨by simp, by simp [b7_0, r7_4]⟩)
    (fun _ i hi => by
      have hw := wrap_succ (n := i) (by omega)
      have hc' := hc _ (tAt_mem hi)
      refine ⟨_, by simp [b7_0, r7_4, r7_5, d7_6, r7_7, hi, hw, cut, tAt_lt hi, hc']; rfl, by simp [xheadOf, safeRegs]⟩)
    l.length () 0 ⟨[(0, .d (terms .sub l)), (1, .d (terms .sub l)), (5, .d (.int .i64 0))], []⟩ (by omega) (by simp [xheadOf, safeRegs])
  have hrun : ∀ k i, runN (fun (_ : Unit) (_ : Nat) => (Sum.inl () : Unit ⊕ Unit)) k () i = .inl () := by
    intro k; induction k with
    | zero => intro i; rfl
    | succ k ih => intro i; simp [runN, ih]
  rw [hrun] at hloop
  simp [v7, r7_0, r7_1, r7_2, r7_3, r7_8]
  rw [hloop]
  simp [r7_8]
theorem eqTerm_self (t : T) (hi : t.inner ≤ 1099511627776) : callX XV 5 [.d (t.enc .sub), .d (t.enc .sub)] [] = some (.d (.bool true), []) := by
  match t, hi with
  | .node f v ks, hi =>
    simp only [T.inner] at hi
    have hc := eqTermS_of ks (by omega) (fun s hs => eqTerm_self s (by have := T.inners_mem hs; omega))
    rw [z_call XV _ _ _ v5 rfl xcode_5 rfl]
    simp [v5, r5_0, r5_1, r5_2, r5_3, r5_4, r5_5, r5_6, r5_7, hc]
termination_by t
decreasing_by
  simp_wf
  have := List.sizeOf_lt_of_mem hs
  omega

/-! ### The order of terms -/
mutual
def T.cmp : T → T → Int
  | .node f v ks, .node f' v' ks' =>
    if f < f' then -1 else if f > f' then 1 else if v < v' then -1 else if v > v' then 1 else
    if ks.length < ks'.length then -1 else if ks.length > ks'.length then 1 else T.cmps ks ks'
def T.cmps : List T → List T → Int
  | a :: as, b :: bs => if T.cmp a b ≠ 0 then T.cmp a b else T.cmps as bs
  | _, _ => 0
end
def stepC (l m : List T) (_ : Unit) (i : Nat) : Unit ⊕ Int := if T.cmp (tAt l i) (tAt m i) ≠ 0 then .inr (T.cmp (tAt l i) (tAt m i)) else .inl ()
theorem runC (l m : List T) (hl : l.length = m.length) : ∀ (k i : Nat), i + k = l.length → runN (stepC l m) k () i = if T.cmps (l.drop i) (m.drop i) = 0 then .inl () else .inr (T.cmps (l.drop i) (m.drop i))
  | 0, i, h => by
    have h1 : l.drop i = [] := List.drop_eq_nil_of_le (by omega)
    simp [runN, h1, T.cmps]
  | k + 1, i, h => by
    have hlt : i < l.length := by omega
    have hlt' : i < m.length := by omega
    rw [List.drop_eq_getElem_cons hlt, List.drop_eq_getElem_cons hlt', tAt_lt hlt, tAt_lt hlt']
    simp only [runN, stepC, T.cmps]
    by_cases hc : T.cmp (tAt l i) (tAt m i) = 0
    · simp only [hc, ne_eq, not_true_eq_false, if_false]
      exact runC l m hl k (i + 1) (by omega)
    · simp [hc]
def pairAt (a b c d e f : Int) (i : Nat) : Int × Int := if i = 0 then (a, b) else if i = 1 then (c, d) else (e, f)
def stepP (a b c d e f : Int) (_ : Unit) (i : Nat) : Unit ⊕ (Int × (Int × Int)) := if (pairAt a b c d e f i).1 < (pairAt a b c d e f i).2 then .inr (-1, pairAt a b c d e f i) else if (pairAt a b c d e f i).1 > (pairAt a b c d e f i).2 then .inr (1, pairAt a b c d e f i) else .inl ()
def cmpB (f v : Int) (ks : List T) (f' v' : Int) (ks' : List T) : Boxs := [some [.d (.int .i64 f), .d (.int .i64 v), .d (terms .sub ks)], some [.d (.int .i64 f'), .d (.int .i64 v'), .d (terms .sub ks')]]
def cmpR (a b c d e f : Int) : List DV := [.agg [.int .i64 a, .int .i64 b], .agg [.int .i64 c, .int .i64 d], .agg [.int .i64 e, .int .i64 f]]
theorem cmpR_get (a b c d e f : Int) (i : Nat) (hi : i < 3) : (cmpR a b c d e f)[i]? = some (.agg [.int .i64 (pairAt a b c d e f i).1, .int .i64 (pairAt a b c d e f i).2]) := by
  match i, hi with
  | 0, _ => rfl
  | 1, _ => rfl
  | 2, _ => rfl
theorem compare_l1 (a b c d e f : Int) (B : Boxs) (hB : B.length = 2) :
    loopX XV [] 2 [2, 3, 26, 27, 28] b6_0 ⟨[(2, .ptr 0 0), (3, .ptr 1 0), (26, .d (.sl .sub (cmpR a b c d e f))), (27, .d (.int .i64 3)), (28, .d (.int .i64 0))], B⟩ =
      some (match runN (stepP a b c d e f) 3 () 0 with
        | .inl _ => (.exit 0, ⟨[(2, .ptr 0 0), (3, .ptr 1 0), (26, .d (.sl .sub (cmpR a b c d e f))), (27, .d (.int .i64 3)), (28, .d (.int .i64 3)), (29, .d (.bool false))], B⟩)
        | .inr r => (.ret, ⟨[(4, .d (.int .i64 r.1))], B ++ [some [.d (.int .i64 r.2.1), .d (.int .i64 r.2.2)]]⟩)) := by
  obtain ⟨x0, x1, rfl⟩ : ∃ x0 x1, B = [x0, x1] := by
    match B, hB with
    | [x0, x1], _ => exact ⟨x0, x1, rfl⟩
  have key := loopX_upto (X := XV) (T := []) (L := 2) (live := [2, 3, 26, 27, 28]) (b := b6_0) (n := 3) (γ := Int × (Int × Int)) (st := fun (_ : Unit) i => ⟨[(2, .ptr 0 0), (3, .ptr 1 0), (26, .d (.sl .sub (cmpR a b c d e f))), (27, .d (.int .i64 3)), (28, .d (.int .i64 i))], [x0, x1]⟩) (step := stepP a b c d e f)
    (F := fun _ => (.exit 0, ⟨[(2, .ptr 0 0), (3, .ptr 1 0), (26, .d (.sl .sub (cmpR a b c d e f))), (27, .d (.int .i64 3)), (28, .d (.int .i64 3)), (29, .d (.bool false))], [x0, x1]⟩)) (R := fun r => (.ret, ⟨[(4, .d (.int .i64 r.1))], [x0, x1] ++ [some [.d (.int .i64 r.2.1), .d (.int .i64 r.2.2)]]⟩))
    (fun _ => ⟨by simp, by simp [b6_0, r6_2]⟩)
    (fun _ i hi => by
      have hw := wrap_succ (n := i) (by omega)
      have hi' : (i : Int) < 3 := by omega
      have hb := cmpR_get a b c d e f i hi
      unfold stepP
      generalize pairAt a b c d e f i = q at hb
      obtain ⟨x, y⟩ := q
      simp only at hb ⊢
      by_cases h1 : x < y
      · rw [if_pos h1]
        refine ⟨by simp, ?_⟩
        simp [b6_0, r6_2, r6_3, r6_4, r6_5, hi', hb, cut, h1, isCell_int, splice, loadBox, isCellA_d, safe_d]
      · rw [if_neg h1]
        by_cases h2 : x > y
        · rw [if_pos h2]
          refine ⟨by simp, ?_⟩
          simp [b6_0, r6_2, r6_3, r6_4, r6_5, r6_6, r6_7, hi', hb, cut, h1, h2, isCell_int, splice, loadBox, isCellA_d, safe_d]
        · rw [if_neg h2]
          refine ⟨_, by simp [b6_0, r6_2, r6_3, r6_4, r6_5, r6_6, r6_7, r6_8, hi', hb, cut, h1, h2, hw, isCell_int, splice, loadBox, isCellA_d, safe_d]; rfl, ?_⟩
          simp [xheadOf, safeRegs])
    3 () 0 ⟨[(2, .ptr 0 0), (3, .ptr 1 0), (26, .d (.sl .sub (cmpR a b c d e f))), (27, .d (.int .i64 3)), (28, .d (.int .i64 0))], [x0, x1]⟩ (by omega) (by simp [xheadOf, safeRegs])
  rw [key]
  cases runN (stepP a b c d e f) 3 () 0 <;> rfl
theorem compare_l2 (f v : Int) (ks : List T) (f' v' : Int) (ks' : List T) (hl : ks.length ≤ 1099511627776) (hlen : ks.length = ks'.length)
    (hrec : ∀ s s', s ∈ ks → s' ∈ ks' → callX XV 6 [.d (s.enc .sub), .d (s'.enc .sub)] [] = some (.d (.int .i64 (T.cmp s s')), [])) :
    loopX XV [] 2 [2, 3, 47, 48] b6_1 ⟨[(2, .ptr 0 0), (3, .ptr 1 0), (47, .d (.int .i64 ks.length)), (48, .d (.int .i64 0))], cmpB f v ks f' v' ks'⟩ =
      some (if T.cmps ks ks' = 0 then (.exit 3, ⟨[(2, .ptr 0 0), (3, .ptr 1 0), (47, .d (.int .i64 ks.length)), (48, .d (.int .i64 ks.length)), (49, .d (.bool false))], cmpB f v ks f' v' ks'⟩) else (.ret, ⟨[(4, .d (.int .i64 (T.cmps ks ks')))], cmpB f v ks f' v' ks'⟩)) := by
  have h := loopX_upto (X := XV) (T := []) (L := 2) (live := [2, 3, 47, 48]) (b := b6_1) (n := ks.length) (γ := Int) (st := fun (_ : Unit) i => ⟨[(2, .ptr 0 0), (3, .ptr 1 0), (47, .d (.int .i64 ks.length)), (48, .d (.int .i64 i))], cmpB f v ks f' v' ks'⟩) (step := stepC ks ks')
    (F := fun _ => (.exit 3, ⟨[(2, .ptr 0 0), (3, .ptr 1 0), (47, .d (.int .i64 ks.length)), (48, .d (.int .i64 ks.length)), (49, .d (.bool false))], cmpB f v ks f' v' ks'⟩)) (R := fun r => (.ret, ⟨[(4, .d (.int .i64 r))], cmpB f v ks f' v' ks'⟩))
    (fun _ => ⟨by simp, by simp [b6_1, r6_10]⟩)
    (fun _ i hi => by
      have hw := wrap_succ (n := i) (by omega)
      have hi2 : i < ks'.length := by omega
      have hc := hrec _ _ (tAt_mem hi) (tAt_mem hi2)
      unfold stepC cmpB
      by_cases h0 : T.cmp (tAt ks i) (tAt ks' i) = 0
      · rw [h0] at hc ⊢
        simp only [ne_eq, not_true_eq_false, if_false]
        refine ⟨_, by simp [b6_1, r6_10, r6_11, d6_12, r6_13, r6_14, r6_15, hi, hi2, hw, cut, tAt_lt hi, tAt_lt hi2, hc, loadBox]; rfl, ?_⟩
        simp [xheadOf, safeRegs]
      · simp only [ne_eq, h0, not_false_eq_true, if_true]
        have h0' : (T.cmp (tAt ks i) (tAt ks' i) != 0) = true := by simp [h0]
        refine ⟨by simp, ?_⟩
        simp [b6_1, r6_10, r6_11, d6_12, r6_13, r6_14, r6_15, hi, hi2, hw, cut, tAt_lt hi, tAt_lt hi2, hc, loadBox, h0'])
    ks.length () 0 ⟨[(2, .ptr 0 0), (3, .ptr 1 0), (47, .d (.int .i64 ks.length)), (48, .d (.int .i64 0))], cmpB f v ks f' v' ks'⟩ (by omega) (by simp [xheadOf, safeRegs, cmpB])
  rw [runC ks ks' hlen _ _ (by omega)] at h
  simp only [List.drop_zero] at h
  rw [h]
  by_cases h0 : T.cmps ks ks' = 0 <;> simp [h0]
def cmpP (a b c d e f : Int) (r : Int) : Int := if a < b then -1 else if a > b then 1 else if c < d then -1 else if c > d then 1 else if e < f then -1 else if e > f then 1 else r
theorem runP (a b c d e f : Int) : (runN (stepP a b c d e f) 3 () 0 = .inl () ∧ a = b ∧ c = d ∧ e = f) ∨ ∃ r, runN (stepP a b c d e f) 3 () 0 = .inr r ∧ ∀ z, cmpP a b c d e f z = r.1 := by
  simp only [runN, stepP, pairAt, cmpP]
  by_cases c1 : a < b
  · right; refine ⟨_, by simp [c1]; rfl, fun z => ?_⟩; simp [c1]
  by_cases c2 : a > b
  · right; refine ⟨_, by simp [c1, c2]; rfl, fun z => ?_⟩; simp [c1, c2]
  by_cases c3 : c < d
  · right; refine ⟨_, by simp [c1, c2, c3]; rfl, fun z => ?_⟩; simp [c1, c2, c3]
  by_cases c4 : c > d
  · right; refine ⟨_, by simp [c1, c2, c3, c4]; rfl, fun z => ?_⟩; simp [c1, c2, c3, c4]
  by_cases c5 : e < f
  · right; refine ⟨_, by simp [c1, c2, c3, c4, c5]; rfl, fun z => ?_⟩; simp [c1, c2, c3, c4, c5]
  by_cases c6 : e > f
  · right; refine ⟨_, by simp [c1, c2, c3, c4, c5, c6]; rfl, fun z => ?_⟩; simp [c1, c2, c3, c4, c5, c6]
  left
  exact ⟨by simp [c1, c2, c3, c4, c5, c6], by omega, by omega, by omega⟩
theorem cmp_node (f v : Int) (ks : List T) (f' v' : Int) (ks' : List T) : T.cmp (.node f v ks) (.node f' v' ks') = cmpP f f' v v' ks.length ks'.length (T.cmps ks ks') := by
  simp only [T.cmp, cmpP, Int.ofNat_lt, gt_iff_lt]
theorem compare_of (f v : Int) (ks : List T) (f' v' : Int) (ks' : List T) (hl : ks.length ≤ 1099511627776) (hl' : ks'.length ≤ 1099511627776)
    (hrec : ∀ s s', s ∈ ks → s' ∈ ks' → callX XV 6 [.d (s.enc .sub), .d (s'.enc .sub)] [] = some (.d (.int .i64 (T.cmp s s')), [])) :
    callX XV 6 [.d ((T.node f v ks).enc .sub), .d ((T.node f' v' ks').enc .sub)] [] = some (.d (.int .i64 (T.cmp (.node f v ks) (.node f' v' ks'))), []) := by
  rw [z_call XV _ _ _ v6 rfl xcode_6 rfl]
  have h1 := compare_l1 f f' v v' ks.length ks'.length (cmpB f v ks f' v' ks') rfl
  simp [v6, r6_0, r6_1, isCell_int, isCell_sl, isCellA_d, safe_d, splice, loadBox, buildRow, List.replicate]
  simp only [cmpR, cmpB] at h1
  rw [h1, cmp_node]
  rcases runP f f' v v' ks.length ks'.length with ⟨h3, e1, e2, e3⟩ | ⟨r, h3, h4⟩
  · rw [h3]
    have hlen : ks.length = ks'.length := by omega
    have h2 := compare_l2 f v ks f' v' ks' hl hlen hrec
    simp only [cmpB] at h2
    subst e1; subst e2
    simp [r6_9, loadBox]
    rw [h2]
    have h5 : cmpP f f v v ks.length ks'.length (T.cmps ks ks') = T.cmps ks ks' := by simp [cmpP, hlen]
    rw [h5]
    by_cases c7 : T.cmps ks ks' = 0
    · simp [c7, r6_16]
    · simp [c7]
  · rw [h3, h4]; simp
theorem compare_eq (a b : T) (ha : a.inner ≤ 1099511627776) (hb : b.inner ≤ 1099511627776) : callX XV 6 [.d (a.enc .sub), .d (b.enc .sub)] [] = some (.d (.int .i64 (T.cmp a b)), []) := by
  match a, b, ha, hb with
  | .node f v ks, .node f' v' ks', ha, hb =>
    simp only [T.inner] at ha hb
    exact compare_of f v ks f' v' ks' (by omega) (by omega) (fun s s' hs hs' => compare_eq s s' (by have := T.inners_mem hs; omega) (by have := T.inners_mem hs'; omega))
termination_by a
decreasing_by
  simp_wf
  have := List.sizeOf_lt_of_mem hs
  omega
end Go.Proofs.Ytficfeekkljoeaa.VS
namespace Go.Proofs.Ytficfeekkljoeaa.VS
set_option linter.unusedVariables false
set_option linter.unusedSimpArgs false
mutual
/-- All terms within a term, itself first. -/
def T.fold {σ : Type} (e : T → σ → σ) : T → σ → σ
  | .node f v ks, s => T.folds e ks (e (.node f v ks) s)
def T.folds {σ : Type} (e : T → σ → σ) : List T → σ → σ
  | [], s => s
  | t :: r, s => T.folds e r (T.fold e t s)
end
theorem set_at {α : Type} (B : List α) (x v : α) (r : List α) : (B ++ x :: r).set B.length v = B ++ v :: r := by simp
theorem get_at {α : Type} (B : List α) (x : α) (r : List α) : (B ++ x :: r)[B.length]? = some x := by simp
theorem set_at1 {α : Type} (B : List α) (x y v : α) (r : List α) : (B ++ x :: y :: r).set (B.length + 1) v = B ++ x :: v :: r := by
  rw [List.set_append_right _ _ (by omega), show B.length + 1 - B.length = 1 by omega]; rfl
theorem get_at1 {α : Type} (B : List α) (x y : α) (r : List α) : (B ++ x :: y :: r)[B.length + 1]? = some y := by
  rw [List.getElem?_append_right (by omega), show B.length + 1 - B.length = 1 by omega]; rfl
theorem take_at {α : Type} (B r : List α) : (B ++ r).take B.length = B := by simp
theorem head_cut {L : Nat} {live : List Nat} {s : XS} {r' : List (Nat × AV)} {B e : Boxs} (h : keep s.r live = r') (hs : safeRegs L r' = true) (hl : B.length = L) (he : s.B = B ++ e) : xheadOf L live s = some ⟨r', B⟩ := by
  unfold xheadOf
  rw [h, he, if_pos ⟨hs, by simp; omega⟩, ← hl, take_at]
def stepE {σ : Type} (e : T → σ → σ) (l : List T) (s : σ) (i : Nat) : σ ⊕ Unit := .inl (T.fold e (tAt l i) s)
theorem runE {σ : Type} (e : T → σ → σ) (l : List T) : ∀ (k i : Nat) (s : σ), i + k = l.length → runN (stepE e l) k s i = .inl (T.folds e (l.drop i) s)
  | 0, i, s, h => by
    have h1 : l.drop i = [] := List.drop_eq_nil_of_le (by omega)
    simp [runN, h1, T.folds]
  | k + 1, i, s, h => by
    have hlt : i < l.length := by omega
    rw [List.drop_eq_getElem_cons hlt, tAt_lt hlt]
    simp only [runN, stepE, T.folds]
    exact runE e l k (i + 1) _ (by omega)
theorem each_of {σ : Type} (st : σ → Boxs) (e : T → σ → σ) (k : Nat) (caps : List AV) (m : Nat) (hm : ∀ s, (st s).length = m) (hcs : ∀ n, m ≤ n → AV.safe.safes n caps = true) (hcc : caps.map AV.clr = caps) (hk : ¬ 0 ∈ XV.lin k)
    (f v : Int) (ks : List T) (hl : ks.length ≤ 1099511627776)
    (hf : ∀ (x : T) (s : σ) (r : Boxs), callX XV k (.d (x.enc .sub) :: caps) (st s ++ r) = some (.d (.tup []), st (e x s) ++ r))
    (hrec : ∀ x, x ∈ ks → ∀ (s : σ) (r : Boxs), callX XV 25 [.d (x.enc .sub), .fn k caps] (st s ++ r) = some (.d (.tup []), st (T.fold e x s) ++ r)) (s : σ) (r : Boxs) :
    callX XV 25 [.d ((T.node f v ks).enc .sub), .fn k caps] (st s ++ r) = some (.d (.tup []), st (T.fold e (.node f v ks) s) ++ r) := by
  rw [z_call XV _ _ _ v25 rfl xcode_25 rfl]
  have hf1 := hf (.node f v ks) s (r ++ [some [.d (.int .i64 f), .d (.int .i64 v), .d (terms .sub ks)]])
  have len : ∀ s, (st s ++ r).length = m + r.length := fun s => by simp [hm]
  have hloop := loopX_upto (X := XV) (T := XV.lin 25) (L := m + r.length + 1) (live := [1, 10, 11, 12]) (b := b25_0) (n := ks.length) (γ := Unit) (st := fun (s : σ) i => ⟨[(1, .fn k caps), (10, .d (terms .sub ks)), (11, .d (.int .i64 ks.length)), (12, .d (.int .i64 i))], (st s ++ r) ++ [some [.d (.int .i64 f), .d (.int .i64 v), .d (terms .sub ks)]]⟩) (step := stepE e ks)
    (F := fun s => (.exit 0, ⟨[(1, .fn k caps), (10, .d (terms .sub ks)), (11, .d (.int .i64 ks.length)), (12, .d (.int .i64 ks.length)), (13, .d (.bool false))], (st s ++ r) ++ [some [.d (.int .i64 f), .d (.int .i64 v), .d (terms .sub ks)]]⟩)) (R := fun _ => (.ret, ⟨[], []⟩))
    (fun s => ⟨by simp, by simp [b25_0, r25_3, hcc]⟩)
    (fun s i hi => by
      have hw := wrap_succ (n := i) (by omega)
      have hr := hrec _ (tAt_mem hi) s (r ++ [some [.d (.int .i64 f), .d (.int .i64 v), .d (terms .sub ks)], some [.d (.int .i64 (tAt ks i).f), .d (.int .i64 (tAt ks i).v), .d (terms .sub (tAt ks i).kids)]])
      have hln := len s
      have hln2 := len (T.fold e (tAt ks i) s)
      simp only [← List.append_assoc] at hr
      generalize hB : st s ++ r = B at hr hln
      generalize hB' : st (T.fold e (tAt ks i) s) ++ r = B' at hr hln2
      unfold stepE
      refine ⟨⟨[(1, .fn k caps), (10, .d (terms .sub ks)), (11, .d (.int .i64 ks.length)), (12, .d (.int .i64 (i + 1 : Nat)))], B' ++ [some [.d (.int .i64 f), .d (.int .i64 v), .d (terms .sub ks)], some [.d (.int .i64 (tAt ks i).f), .d (.int .i64 (tAt ks i).v), .d (terms .sub (tAt ks i).kids)]]⟩, ?_, ?_⟩
      · simp [b25_0, r25_3, r25_4, r25_5, r25_6, hi, hw, cut, tAt_lt hi, hcc, hr, set_at, get_at, set_at1, get_at1, splice]
      · refine head_cut (e := [some [.d (.int .i64 (tAt ks i).f), .d (.int .i64 (tAt ks i).v), .d (terms .sub (tAt ks i).kids)]]) (by simp) (by simp [safeRegs, hcs _ (show m ≤ m + r.length + 1 by omega)]) (by simp [hln2, hB']) (by simp [← hB']))
    ks.length (e (.node f v ks) s) 0 ⟨[(1, .fn k caps), (10, .d (terms .sub ks)), (11, .d (.int .i64 ks.length)), (12, .d (.int .i64 0))], (st (e (.node f v ks) s) ++ r) ++ [some [.d (.int .i64 f), .d (.int .i64 v), .d (terms .sub ks)]]⟩ (by omega) (head_cut (e := []) (by simp) (by simp [safeRegs, hcs _ (show m ≤ m + r.length + 1 by omega)]) (by simp [hm]; omega) (by simp))
  rw [runE e ks _ _ _ (by omega)] at hloop
  simp only [List.drop_zero] at hloop
  have hl0 := len s
  have hl1 := len (e (.node f v ks) s)
  have hl2 : (st (T.fold e (.node f v ks) s) ++ r).length = m + r.length := len _
  have hfin : T.folds e ks (e (.node f v ks) s) = T.fold e (.node f v ks) s := by simp [T.fold]
  rw [hfin] at hloop
  simp only [← List.append_assoc] at hf1
  generalize hB0 : st s ++ r = B0 at hf1 hl0
  generalize hB1 : st (e (.node f v ks) s) ++ r = B1 at hf1 hl1 hloop
  generalize hB2 : st (T.fold e (.node f v ks) s) ++ r = B2 at hl2 hloop
  have hlen : B1.length = B0.length := by omega
  rw [← hl1] at hloop
  simp only [terms, lin_25] at hf1 hloop
  simp [v25, r25_0, r25_1, r25_2, set_at, get_at, hf1, hcc, hk, hlen.symm]
  rw [hloop]
  simp [show B1.length = B2.length by omega]
theorem each_eq {σ : Type} (st : σ → Boxs) (e : T → σ → σ) (k : Nat) (caps : List AV) (m : Nat) (hm : ∀ s, (st s).length = m) (hcs : ∀ n, m ≤ n → AV.safe.safes n caps = true) (hcc : caps.map AV.clr = caps) (hk : ¬ 0 ∈ XV.lin k)
    (hf : ∀ (x : T) (s : σ) (r : Boxs), callX XV k (.d (x.enc .sub) :: caps) (st s ++ r) = some (.d (.tup []), st (e x s) ++ r)) (t : T) (ht : t.inner ≤ 1099511627776) (s : σ) (r : Boxs) :
    callX XV 25 [.d (t.enc .sub), .fn k caps] (st s ++ r) = some (.d (.tup []), st (T.fold e t s) ++ r) := by
  match t, ht with
  | .node f v ks, ht =>
    simp only [T.inner] at ht
    exact each_of st e k caps m hm hcs hcc hk f v ks (by omega) hf (fun x hx s r => each_eq st e k caps m hm hcs hcc hk hf x (by have := T.inners_mem hx; omega) s r) s r
termination_by t
decreasing_by
  simp_wf
  have := List.sizeOf_lt_of_mem hx
  omega
end Go.Proofs.Ytficfeekkljoeaa.VS
namespace Go.Proofs.Ytficfeekkljoeaa.VS
set_option linter.unusedVariables false
set_option linter.unusedSimpArgs false
theorem cmp_zero (f v : Int) (ks : List T) (f' v' : Int) (ks' : List T) : T.cmp (.node f v ks) (.node f' v' ks') = 0 ↔ f = f' ∧ v = v' ∧ ks.length = ks'.length ∧ T.cmps ks ks' = 0 := by
  rw [cmp_node]; unfold cmpP
  constructor
  · intro h
    iterate 6 (split at h; · omega)
    exact ⟨by omega, by omega, by omega, h⟩
  · rintro ⟨rfl, rfl, h, h'⟩
    simp [h, h']
theorem specSame_of (f v : Int) (ks : List T) (f' v' : Int) (ks' : List T) (hl : ks.length ≤ 1099511627776) (hl' : ks'.length ≤ 1099511627776)
    (hrec : ∀ s s', s ∈ ks → s' ∈ ks' → callX XV 3 [.d (s.enc .sub), .d (s'.enc .sub)] [] = some (.d (.bool (T.cmp s s' == 0)), [])) :
    callX XV 3 [.d ((T.node f v ks).enc .sub), .d ((T.node f' v' ks').enc .sub)] [] = some (.d (.bool (T.cmp (.node f v ks) (.node f' v' ks') == 0)), []) := by
  rw [z_call XV _ _ _ v3 rfl xcode_3 rfl]
  have hz := cmp_zero f v ks f' v' ks'
  have ne : ¬ (f = f' ∧ v = v' ∧ ks.length = ks'.length ∧ T.cmps ks ks' = 0) → (T.cmp (.node f v ks) (.node f' v' ks') == 0) = false := fun h => by
    rw [← hz] at h; simpa using h
  have hlc : (ks.length : Int) = ks'.length ↔ ks.length = ks'.length := by omega
  by_cases c1 : f = f'
  case neg =>
    rw [ne (fun h => c1 h.1)]
    have b1 : (f != f') = true := by simp [c1]
    simp [v3, r3_0, r3_1, r3_2, b1]
  by_cases c2 : v = v'
  case neg =>
    rw [ne (fun h => c2 h.2.1)]
    have b2 : (v != v') = true := by simp [c2]
    simp [v3, r3_0, r3_1, r3_2, c1, b2]
  by_cases c3 : ks.length = ks'.length
  case neg =>
    rw [ne (fun h => c3 h.2.2.1)]
    have b3 : ((ks.length : Int) != ks'.length) = true := by simp; omega
    simp [v3, r3_0, r3_1, r3_2, c1, c2, b3]
  have h := loopX_upto (X := XV) (T := []) (L := 2) (live := [2, 3, 5]) (b := b3_0) (n := ks.length) (γ := Int) (st := fun (_ : Unit) i => ⟨[(2, .ptr 0 0), (3, .ptr 1 0), (5, .d (.int .i64 i))], cmpB f v ks f' v' ks'⟩) (step := stepC ks ks')
    (F := fun _ => (.exit 0, ⟨[(2, .ptr 0 0), (3, .ptr 1 0), (5, .d (.int .i64 ks.length)), (31, .d (.bool false))], cmpB f v ks f' v' ks'⟩)) (R := fun r => (.ret, ⟨[(4, .d (.bool false))], cmpB f v ks f' v' ks'⟩))
    (fun _ => ⟨by simp, by simp [b3_0, r3_4, cmpB]⟩)
    (fun _ i hi => by
      have hw := wrap_succ (n := i) (by omega)
      have hi2 : i < ks'.length := by omega
      have hc := hrec _ _ (tAt_mem hi) (tAt_mem hi2)
      unfold stepC cmpB
      by_cases h0 : T.cmp (tAt ks i) (tAt ks' i) = 0
      · rw [h0] at hc ⊢
        simp only [ne_eq, not_true_eq_false, if_false]
        refine ⟨_, by simp [b3_0, r3_4, r3_5, d3_6, r3_7, hi, hi2, hw, cut, tAt_lt hi, tAt_lt hi2, hc]; rfl, ?_⟩
        simp [xheadOf, safeRegs]
      · simp only [ne_eq, h0, not_false_eq_true, if_true]
        have h0' : (T.cmp (tAt ks i) (tAt ks' i) == 0) = false := by simp [h0]
        rw [h0'] at hc
        refine ⟨by simp, ?_⟩
        simp [b3_0, r3_4, r3_5, d3_6, r3_7, hi, hi2, hw, cut, tAt_lt hi, tAt_lt hi2, hc])
    ks.length () 0 ⟨[(2, .ptr 0 0), (3, .ptr 1 0), (5, .d (.int .i64 0))], cmpB f v ks f' v' ks'⟩ (by omega) (by simp [xheadOf, safeRegs, cmpB])
  rw [runC ks ks' c3 _ _ (by omega)] at h
  simp only [List.drop_zero, cmpB] at h
  simp [v3, r3_0, r3_1, r3_2, r3_3, c1, c2, hlc, c3]
  subst c1; subst c2
  rw [c3] at h
  rw [h]
  by_cases h0 : T.cmps ks ks' = 0
  · have : T.cmp (.node f v ks) (.node f v ks') = 0 := hz.2 ⟨rfl, rfl, c3, h0⟩
    simp [h0, r3_8, this]
  · have : ¬ T.cmp (.node f v ks) (.node f v ks') = 0 := fun h => h0 (hz.1 h).2.2.2
    simp [h0, r3_8, this]
theorem specSame_eq (a b : T) (ha : a.inner ≤ 1099511627776) (hb : b.inner ≤ 1099511627776) : callX XV 3 [.d (a.enc .sub), .d (b.enc .sub)] [] = some (.d (.bool (T.cmp a b == 0)), []) := by
  match a, b, ha, hb with
  | .node f v ks, .node f' v' ks', ha, hb =>
    simp only [T.inner] at ha hb
    exact specSame_of f v ks f' v' ks' (by omega) (by omega) (fun s s' hs hs' => specSame_eq s s' (by have := T.inners_mem hs; omega) (by have := T.inners_mem hs'; omega))
termination_by a
decreasing_by
  simp_wf
  have := List.sizeOf_lt_of_mem hs
  omega
theorem leftOf_neg {left : Int} {n : Nat} (h : left - n < 0) : leftOf left n = -1 := by unfold leftOf; rw [if_pos h]
theorem leftOf_pos {left : Int} {n : Nat} (h : ¬ left - n < 0) : leftOf left n = left - n := by unfold leftOf; rw [if_neg h]
end Go.Proofs.Ytficfeekkljoeaa.VS
namespace Go.Proofs.Ytficfeekkljoeaa.VS
set_option linter.unusedVariables false
set_option linter.unusedSimpArgs false
theorem wrap_add (a b : Int) : IntKind.i64.wrap (IntKind.i64.wrap a + b) = IntKind.i64.wrap (a + b) := by
  show (if (true && decide (((if (true && decide (a % 18446744073709551616 ≥ 9223372036854775808)) = true then a % 18446744073709551616 - 18446744073709551616 else a % 18446744073709551616) + b) % 18446744073709551616 ≥ 9223372036854775808)) = true then ((if (true && decide (a % 18446744073709551616 ≥ 9223372036854775808)) = true then a % 18446744073709551616 - 18446744073709551616 else a % 18446744073709551616) + b) % 18446744073709551616 - 18446744073709551616 else ((if (true && decide (a % 18446744073709551616 ≥ 9223372036854775808)) = true then a % 18446744073709551616 - 18446744073709551616 else a % 18446744073709551616) + b) % 18446744073709551616) = (if (true && decide ((a + b) % 18446744073709551616 ≥ 9223372036854775808)) = true then (a + b) % 18446744073709551616 - 18446744073709551616 else (a + b) % 18446744073709551616)
  simp only [Bool.true_and, decide_eq_true_eq]
  have : ((if a % 18446744073709551616 ≥ 9223372036854775808 then a % 18446744073709551616 - 18446744073709551616 else a % 18446744073709551616) + b) % 18446744073709551616 = (a + b) % 18446744073709551616 := by
    split <;> omega
  rw [this]
theorem wrap_add2 (a b : Int) : IntKind.i64.wrap (a + IntKind.i64.wrap b) = IntKind.i64.wrap (a + b) := by
  rw [Int.add_comm, wrap_add, Int.add_comm]
mutual
def T.sum (w : T → Int) : T → Int
  | .node f v ks => w (.node f v ks) + T.sums w ks
def T.sums (w : T → Int) : List T → Int
  | [] => 0
  | t :: r => T.sum w t + T.sums w r
end
def addW (w : T → Int) (x : T) (n : Int) : Int := IntKind.i64.wrap (n + w x)
mutual
theorem fold_sum (w : T → Int) : ∀ (t : T) (n : Int), T.fold (addW w) t (IntKind.i64.wrap n) = IntKind.i64.wrap (n + T.sum w t)
  | .node f v ks, n => by
    simp only [T.fold, T.sum, addW]
    rw [wrap_add, folds_sum w ks, Int.add_assoc]
theorem folds_sum (w : T → Int) : ∀ (l : List T) (n : Int), T.folds (addW w) l (IntKind.i64.wrap n) = IntKind.i64.wrap (n + T.sums w l)
  | [], n => by simp [T.folds, T.sums]
  | t :: r, n => by
    simp only [T.folds, T.sums]
    rw [fold_sum w t, folds_sum w r, Int.add_assoc]
end
/-- A loop that adds what is told of each Kid. -/
def stepA (c : T → Int) (l : List T) (n : Int) (i : Nat) : Int ⊕ Unit := .inl (IntKind.i64.wrap (n + c (tAt l i)))
theorem runA (w : T → Int) (l : List T) : ∀ (k i : Nat) (n : Int), i + k = l.length → runN (stepA (fun t => IntKind.i64.wrap (T.sum w t)) l) k (IntKind.i64.wrap n) i = .inl (IntKind.i64.wrap (n + T.sums w (l.drop i)))
  | 0, i, n, h => by
    have h1 : l.drop i = [] := List.drop_eq_nil_of_le (by omega)
    simp [runN, h1, T.sums]
  | k + 1, i, n, h => by
    have hlt : i < l.length := by omega
    rw [List.drop_eq_getElem_cons hlt, tAt_lt hlt]
    simp only [runN, stepA, T.sums]
    rw [wrap_add2, wrap_add, runA w l k (i + 1) _ (by omega), Int.add_assoc]
/-! Parts -/
theorem implParts_eq (t : T) (ht : t.inner ≤ 1099511627776) : callX XV 23 [.d (t.enc .sub)] [] = some (.d (.int .i64 (IntKind.i64.wrap (T.sum (fun _ => 1) t))), []) := by
  rw [z_call XV _ _ _ v23 rfl xcode_23 rfl]
  -- the counter is the second box: a function of the counter with the argument's box ahead of it
  have key : ∀ (n : Int), callX XV 25 [.d (t.enc .sub), .fn 24 [.ptr 1 0]] ([some [.d (.int .i64 t.f), .d (.int .i64 t.v), .d (terms .sub t.kids)], some [.d (.int .i64 n)]] ++ []) = some (.d (.tup []), [some [.d (.int .i64 t.f), .d (.int .i64 t.v), .d (terms .sub t.kids)], some [.d (.int .i64 (T.fold (addW fun _ => 1) t n))]] ++ []) := fun n =>
    each_eq (fun n : Int => [some [.d (.int .i64 t.f), .d (.int .i64 t.v), .d (terms .sub t.kids)], some [.d (.int .i64 n)]]) (addW fun _ => 1) 24 [.ptr 1 0] 2 (fun _ => rfl) (fun n hn => by simp; omega) rfl (by simp) (fun x s r => by
      rw [z_call XV _ _ _ v24 rfl xcode_24 rfl]
      simp [v24, r24_0, r24_1, splice, addW]) t ht n []
  have k0 := key 0
  have h0 := fold_sum (fun _ => 1) t 0
  rw [show IntKind.i64.wrap 0 = 0 from rfl, Int.zero_add] at h0
  rw [h0] at k0
  simp only [List.append_nil, terms] at k0
  simp [v23, r23_0, r23_1, r23_2, r23_3, splice, k0]
theorem specParts_of (f v : Int) (ks : List T) (hl : ks.length ≤ 1099511627776) (hrec : ∀ s, s ∈ ks → callX XV 22 [.d (s.enc .sub)] [] = some (.d (.int .i64 (IntKind.i64.wrap (T.sum (fun _ => 1) s))), [])) :
    callX XV 22 [.d ((T.node f v ks).enc .sub)] [] = some (.d (.int .i64 (IntKind.i64.wrap (T.sum (fun _ => 1) (.node f v ks)))), []) := by
  rw [z_call XV _ _ _ v22 rfl xcode_22 rfl]
  have h := loopX_upto (X := XV) (T := []) (L := 1) (live := [1, 3, 4]) (b := b22_0) (n := ks.length) (γ := Unit) (st := fun (n : Int) i => ⟨[(1, .ptr 0 0), (3, .d (.int .i64 n)), (4, .d (.int .i64 i))], [some [.d (.int .i64 f), .d (.int .i64 v), .d (terms .sub ks)]]⟩) (step := stepA (fun t => IntKind.i64.wrap (T.sum (fun _ => 1) t)) ks)
    (F := fun n => (.exit 0, ⟨[(1, .ptr 0 0), (3, .d (.int .i64 n)), (4, .d (.int .i64 ks.length)), (9, .d (.bool false))], [some [.d (.int .i64 f), .d (.int .i64 v), .d (terms .sub ks)]]⟩)) (R := fun r => (.ret, ⟨[], []⟩))
    (fun _ => ⟨by simp, by simp [b22_0, r22_3]⟩)
    (fun n i hi => by
      have hw := wrap_succ (n := i) (by omega)
      have hc := hrec _ (tAt_mem hi)
      exact ⟨_, by simp [b22_0, r22_3, r22_4, r22_5, hi, hw, cut, tAt_lt hi, hc]; rfl, by simp [xheadOf, safeRegs]⟩)
    ks.length (IntKind.i64.wrap 1) 0 ⟨[(1, .ptr 0 0), (3, .d (.int .i64 1)), (4, .d (.int .i64 0))], [some [.d (.int .i64 f), .d (.int .i64 v), .d (terms .sub ks)]]⟩ (by omega) (by simp [xheadOf, safeRegs, show IntKind.i64.wrap 1 = 1 from rfl])
  rw [runA _ _ _ _ _ (by omega)] at h
  simp only [List.drop_zero, terms] at h
  have hs : T.sum (fun _ => 1) (T.node f v ks) = 1 + T.sums (fun _ => 1) ks := by simp [T.sum]
  simp [v22, r22_0, r22_1, r22_2, hs]
  rw [h]
  simp [r22_6]
theorem specParts_eq (t : T) (ht : t.inner ≤ 1099511627776) : callX XV 22 [.d (t.enc .sub)] [] = some (.d (.int .i64 (IntKind.i64.wrap (T.sum (fun _ => 1) t))), []) := by
  match t, ht with
  | .node f v ks, ht =>
    simp only [T.inner] at ht
    exact specParts_of f v ks (by omega) (fun s hs => specParts_eq s (by have := T.inners_mem hs; omega))
termination_by t
decreasing_by
  simp_wf
  have := List.sizeOf_lt_of_mem hs
  omega
end Go.Proofs.Ytficfeekkljoeaa.VS
namespace Go.Proofs.Ytficfeekkljoeaa.VS
set_option linter.unusedVariables false
set_option linter.unusedSimpArgs false
mutual
theorem fold_gen (w : T → Int) (e : T → Int → Int) (he : ∀ x m, e x (IntKind.i64.wrap m) = IntKind.i64.wrap (m + w x)) : ∀ (t : T) (n : Int), T.fold e t (IntKind.i64.wrap n) = IntKind.i64.wrap (n + T.sum w t)
  | .node f v ks, n => by
    simp only [T.fold, T.sum]
    rw [he, folds_gen w e he ks, Int.add_assoc]
theorem folds_gen (w : T → Int) (e : T → Int → Int) (he : ∀ x m, e x (IntKind.i64.wrap m) = IntKind.i64.wrap (m + w x)) : ∀ (l : List T) (n : Int), T.folds e l (IntKind.i64.wrap n) = IntKind.i64.wrap (n + T.sums w l)
  | [], n => by simp [T.folds, T.sums]
  | t :: r, n => by
    simp only [T.folds, T.sums]
    rw [fold_gen w e he t, folds_gen w e he r, Int.add_assoc]
end
theorem isVar_eq (t : T) : callX XV 75 [.d (t.enc .sub)] [] = some (.d (.bool (t.f == -1)), []) := by
  rw [z_call XV _ _ _ v75 rfl xcode_75 rfl]
  simp [v75, r75_0, r75_1]
def wC (n : Int) (x : T) : Int := if x.f = -1 ∧ x.v = n then 1 else 0
def eC (n : Int) (x : T) (m : Int) : Int := if x.f = -1 ∧ x.v = n then IntKind.i64.wrap (m + 1) else m
theorem eC_gen (n : Int) (x : T) (m : Int) : eC n x (IntKind.i64.wrap m) = IntKind.i64.wrap (m + wC n x) := by
  unfold eC wC
  split
  · exact wrap_add m 1
  · simp
theorem implCount_eq (t : T) (ht : t.inner ≤ 1099511627776) (n : Int) : callX XV 73 [.d (t.enc .sub), .d (.int .i64 n)] [] = some (.d (.int .i64 (IntKind.i64.wrap (T.sum (wC n) t))), []) := by
  rw [z_call XV _ _ _ v73 rfl xcode_73 rfl]
  have key : ∀ (m : Int), callX XV 25 [.d (t.enc .sub), .fn 74 [.ptr 1 0, .ptr 2 0]] ([some [.d (.int .i64 t.f), .d (.int .i64 t.v), .d (terms .sub t.kids)], some [.d (.int .i64 n)], some [.d (.int .i64 m)]] ++ []) = some (.d (.tup []), [some [.d (.int .i64 t.f), .d (.int .i64 t.v), .d (terms .sub t.kids)], some [.d (.int .i64 n)], some [.d (.int .i64 (T.fold (eC n) t m))]] ++ []) := fun m =>
    each_eq (fun m : Int => [some [.d (.int .i64 t.f), .d (.int .i64 t.v), .d (terms .sub t.kids)], some [.d (.int .i64 n)], some [.d (.int .i64 m)]]) (eC n) 74 [.ptr 1 0, .ptr 2 0] 3 (fun _ => rfl) (fun n hn => by simp; omega) rfl (by simp) (fun x m r => by
      rw [z_call XV _ _ _ v74 rfl xcode_74 rfl]
      obtain ⟨xf, xv, xk⟩ := x
      have hv := isVar_eq (.node xf xv xk)
      simp only [T.f_node] at hv
      unfold eC
      simp only [T.f_node, T.v_node]
      by_cases h1 : xf = -1
      · subst h1
        simp only [BEq.rfl] at hv
        by_cases h2 : xv = n
        · subst h2
          simp [v74, r74_0, r74_1, r74_2, hv, splice]
        · have b2 : (xv == n) = false := by simp [h2]
          simp [v74, r74_0, r74_1, r74_2, hv, h2, b2, splice]
      · have b1 : (xf == -1) = false := by simp [h1]
        rw [b1] at hv
        simp [v74, r74_0, r74_1, r74_2, hv, h1, splice]) t ht m []
  have k0 := key 0
  have h0 := fold_gen (wC n) (eC n) (eC_gen n) t 0
  rw [show IntKind.i64.wrap 0 = 0 from rfl, Int.zero_add] at h0
  rw [h0] at k0
  simp only [List.append_nil, terms] at k0
  simp [v73, r73_0, r73_1, r73_2, r73_3, splice, k0]
theorem bit_eq (b : Bool) : callX XV 85 [.d (.bool b)] [] = some (.d (.int .i64 (if b then 1 else 0)), []) := by
  rw [z_call XV _ _ _ v85 rfl xcode_85 rfl]
  cases b <;> simp [v85, r85_0, r85_1, r85_2, r85_3]
theorem specCount_of (n f v : Int) (ks : List T) (hl : ks.length ≤ 1099511627776) (hrec : ∀ s, s ∈ ks → callX XV 81 [.d (s.enc .sub), .d (.int .i64 n)] [] = some (.d (.int .i64 (IntKind.i64.wrap (T.sum (wC n) s))), [])) :
    callX XV 81 [.d ((T.node f v ks).enc .sub), .d (.int .i64 n)] [] = some (.d (.int .i64 (IntKind.i64.wrap (T.sum (wC n) (.node f v ks)))), []) := by
  rw [z_call XV _ _ _ v81 rfl xcode_81 rfl]
  have h := fun m => loopX_upto (X := XV) (T := []) (L := 1) (live := [1, 2, 5, 6]) (b := b81_0) (n := ks.length) (γ := Unit) (st := fun (m : Int) i => ⟨[(1, .d (.int .i64 n)), (2, .ptr 0 0), (5, .d (.int .i64 m)), (6, .d (.int .i64 i))], [some [.d (.int .i64 f), .d (.int .i64 v), .d (terms .sub ks)]]⟩) (step := stepA (fun t => IntKind.i64.wrap (T.sum (wC n) t)) ks)
    (F := fun m => (.exit 0, ⟨[(1, .d (.int .i64 n)), (2, .ptr 0 0), (5, .d (.int .i64 m)), (6, .d (.int .i64 ks.length)), (21, .d (.bool false))], [some [.d (.int .i64 f), .d (.int .i64 v), .d (terms .sub ks)]]⟩)) (R := fun r => (.ret, ⟨[], []⟩))
    (fun _ => ⟨by simp, by simp [b81_0, r81_0, r81_1, r81_2, r81_3, r81_5, r81_4, r81_6]⟩)
    (fun m i hi => by
      have hw := wrap_succ (n := i) (by omega)
      have hc := hrec _ (tAt_mem hi)
      exact ⟨_, by simp [b81_0, r81_0, r81_1, r81_2, r81_3, r81_5, r81_4, r81_6, hi, hw, cut, tAt_lt hi, hc]; rfl, by simp [xheadOf, safeRegs]⟩)
    ks.length (IntKind.i64.wrap m) 0 ⟨[(1, .d (.int .i64 n)), (2, .ptr 0 0), (5, .d (.int .i64 (IntKind.i64.wrap m))), (6, .d (.int .i64 0))], [some [.d (.int .i64 f), .d (.int .i64 v), .d (terms .sub ks)]]⟩ (by omega) (by simp [xheadOf, safeRegs])
  have h' := fun m => by
    have := h m
    rw [runA _ _ _ _ _ (by omega)] at this
    simpa only [List.drop_zero, terms] using this
  have hs : T.sum (wC n) (T.node f v ks) = wC n (.node f v ks) + T.sums (wC n) ks := by simp [T.sum]
  have bt := bit_eq true
  have bf := bit_eq false
  simp only [if_true, Bool.false_eq_true, if_false] at bt bf
  rw [hs]
  have h1 := h' 1
  have h0 := h' 0
  rw [show IntKind.i64.wrap 1 = 1 from rfl] at h1
  rw [show IntKind.i64.wrap 0 = 0 from rfl] at h0
  by_cases c1 : f = -1
  · by_cases c2 : v = n
    · have hw : wC n (.node f v ks) = 1 := by simp [wC, c1, c2]
      rw [hw]
      subst c1; subst c2
      simp [v81, r81_0, r81_1, r81_2, r81_3, r81_5, r81_4, r81_6, bt, bf]
      rw [h1]
      simp [v81, r81_0, r81_1, r81_2, r81_3, r81_5, r81_4, r81_6]
    · have hw : wC n (.node f v ks) = 0 := by simp [wC, c1, c2]
      have b2 : (v == n) = false := by simp [c2]
      rw [hw]
      subst c1
      simp [v81, r81_0, r81_1, r81_2, r81_3, r81_5, r81_4, r81_6, bt, bf, b2]
      rw [h0]
      simp [v81, r81_0, r81_1, r81_2, r81_3, r81_5, r81_4, r81_6]
  · have hw : wC n (.node f v ks) = 0 := by simp [wC, c1]
    have b1 : (f == -1) = false := by simp [c1]
    rw [hw]
    simp [v81, r81_0, r81_1, r81_2, r81_3, r81_5, r81_4, r81_6, bt, bf, b1]
    rw [h0]
    simp [v81, r81_0, r81_1, r81_2, r81_3, r81_5, r81_4, r81_6]
theorem specCount_eq (t : T) (ht : t.inner ≤ 1099511627776) (n : Int) : callX XV 81 [.d (t.enc .sub), .d (.int .i64 n)] [] = some (.d (.int .i64 (IntKind.i64.wrap (T.sum (wC n) t))), []) := by
  match t, ht with
  | .node f v ks, ht =>
    simp only [T.inner] at ht
    exact specCount_of n f v ks (by omega) (fun s hs => specCount_eq s (by have := T.inners_mem hs; omega) n)
termination_by t
decreasing_by
  simp_wf
  have := List.sizeOf_lt_of_mem hs
  omega
end Go.Proofs.Ytficfeekkljoeaa.VS
namespace Go.Proofs.Ytficfeekkljoeaa.VS
set_option linter.unusedVariables false
set_option linter.unusedSimpArgs false
/-! ### Rows that are filled, of any elements -/
def rowG (es : List DV) (z : DV) (i : Nat) : List AV := rowCells (Go.Proofs.Ytficfeekkljoeaa.VS.filled es z i)
theorem rowG_len {sz : Nat} {es : List DV} {z : DV} (h : ∀ x : DV, x ∈ es → x.cells.length = sz) (hz : z.cells.length = sz) (i : Nat) : (rowG es z i).length = es.length * sz := by
  unfold rowG; rw [rowCells_len (filled_cells h hz i), filled_len]
theorem rowG_set {sz : Nat} {es : List DV} {z : DV} (h : ∀ x : DV, x ∈ es → x.cells.length = sz) (hz : z.cells.length = sz) (i : Nat) (hi : i < es.length) : splice (rowG es z i) (i * sz) (es[i].cells.map .d) = rowG es z (i + 1) := by
  have h1 := splice_row (i := i) (filled_cells h hz i) (e := es[i]) (h _ (List.getElem_mem hi)) (by rw [filled_len]; exact hi)
  unfold rowG
  rw [h1, filled_set es z i hi]
theorem rowG_zero (es : List DV) (z : DV) : rowG es z 0 = ((List.replicate es.length z).flatMap DV.cells).map .d := by
  unfold rowG; rw [filled_zero]; simp [rowCells, flat]
theorem rowG_all (es : List DV) (z : DV) : rowG es z es.length = rowCells es := by
  unfold rowG; rw [filled_all]
theorem run_on (k i : Nat) : runN (fun (_ : Unit) (_ : Nat) => (Sum.inl () : Unit ⊕ Unit)) k () i = .inl () := by
  induction k generalizing i with
  | zero => rfl
  | succ k ih => simp [runN, ih]
/-! ### Sizes -/
def stepW (w : Nat → Nat) (left : Int) (i : Nat) : Int ⊕ Unit := if left - w i < 0 then .inr () else .inl (left - w i)
def sumW (w : Nat → Nat) : Nat → Nat → Nat
  | _, 0 => 0
  | i, k + 1 => w i + sumW w (i + 1) k
theorem runW (w : Nat → Nat) : ∀ (k i : Nat) (left : Int), 0 ≤ left → runN (stepW w) k left i = if left - sumW w i k < 0 then .inr () else .inl (left - sumW w i k)
  | 0, i, left, h0 => by
    have h1 : ¬ left < 0 := by omega
    simp [runN, sumW, h1]
  | k + 1, i, left, h0 => by
    simp only [runN, stepW, sumW]
    by_cases h1 : left - w i < 0
    · have h2 : left - (w i + sumW w (i + 1) k : Nat) < 0 := by omega
      simp only [h1, h2, if_true]
    · simp only [h1, if_false]
      rw [runW w k _ _ (by omega)]
      have e : left - w i - (sumW w (i + 1) k : Int) = left - (w i + sumW w (i + 1) k : Nat) := by omega
      rw [e]; rfl
/-! ### Signatures -/
@[simp] theorem isAgg_agg (cs : List DV) : isAgg (.agg cs) = true := rfl
@[simp] theorem isAgg_int (k : IntKind) (n : Int) : isAgg (.int k n) = false := rfl
@[simp] theorem cn_symE (s : SymL) : s.enc.cn = s.enc := by simp [SymL.enc, SymL.cells]
@[simp] theorem isAgg_sym (s : SymL) : isAgg s.enc = true := rfl
@[simp] theorem clr_symE (s : SymL) : s.enc.clr = s.enc := by simp [SymL.enc, SymL.cells]
@[simp] theorem cells_symE (s : SymL) : s.enc.cells = [.str s.name, .int .i64 s.arity, .bool s.ac] := rfl
@[simp] theorem cellsA_symE (s : SymL) : (AV.d s.enc).cells = [.d (.str s.name), .d (.int .i64 s.arity), .d (.bool s.ac)] := rfl
@[simp] theorem isCell_symE (s : SymL) : s.enc.isCell = false := rfl
@[simp] theorem agg_symE (n : ByteArray) (a : Int) (b : Bool) : DV.agg [.str n, .int .i64 a, .bool b] = SymL.enc ⟨n, a, b⟩ := rfl
@[simp high] theorem clr_symsE (l : List SymL) : (l.map SymL.enc).map DV.clr = l.map SymL.enc := by simp [List.map_map, Function.comp_def]
def symAt (l : List SymL) (i : Nat) : SymL := (l[i]?).getD ⟨⟨#[]⟩, 0, false⟩
theorem symAt_lt {l : List SymL} {i : Nat} (h : i < l.length) : l[i] = symAt l i := by simp [symAt, h]
theorem symAt_mem {l : List SymL} {i : Nat} (h : i < l.length) : symAt l i ∈ l := by rw [← symAt_lt h]; exact List.getElem_mem h
abbrev sg (l : List SymL) : DV := .sl .sub (l.map SymL.enc)
theorem szSym_eq (s : SymL) (left : Int) (h0 : 0 ≤ left) (h1 : left ≤ 1099511627776) (hs : s.name.size ≤ maxLen) : callX XV 17 [.d s.enc, .d (.int .i64 left)] [] = some (.d (.int .i64 (leftOf left s.name.size)), []) := by
  rw [z_call XV _ _ _ v17 rfl xcode_17 rfl]
  have hw : IntKind.i64.wrap (left - s.name.size) = left - s.name.size := wrap_i64 (by unfold maxLen at hs; omega) (by omega)
  unfold leftOf
  by_cases h : left - s.name.size < 0
  · simp [v17, r17_0, r17_1, r17_2, r17_3, r17_4, hw, h]
  · simp [v17, r17_0, r17_1, r17_2, r17_3, r17_4, hw, h]
def symsSize (l : List SymL) : Nat := l.length + sumW (fun i => (symAt l i).name.size) 0 l.length
theorem szSymS_eq (l : List SymL) (left : Int) (hl : l.length ≤ maxLen) (ho : ∀ s, s ∈ l → s.ok) (h0 : 0 ≤ left) (h1 : left ≤ 1099511627776) : callX XV 11 [.d (sg l), .d (.int .i64 left)] [] = some (.d (.int .i64 (leftOf left (symsSize l))), []) := by
  rw [z_call XV _ _ _ v11 rfl xcode_11 rfl]
  have hw : IntKind.i64.wrap (left - l.length) = left - l.length := wrap_i64 (by unfold maxLen at hl; omega) (by omega)
  unfold symsSize
  generalize hwd : (fun i => (symAt l i).name.size) = w
  by_cases h : left - l.length < 0
  · rw [leftOf_neg (by omega)]
    simp [v11, r11_0, r11_1, r11_2, r11_3, r11_4, r11_5, r11_7, r11_8, r11_9, r11_6, r11_10, hw, h]
  · have hloop := loopX_inv (X := XV) (T := []) (L := 0) (live := [0, 1, 5]) (b := b11_0) (n := l.length) (γ := Unit) (st := fun (left : Int) i => ⟨[(0, .d (sg l)), (1, .d (.int .i64 left)), (5, .d (.int .i64 i))], []⟩) (step := stepW w)
      (F := fun left => (.exit 0, ⟨[(0, .d (sg l)), (1, .d (.int .i64 left)), (5, .d (.int .i64 l.length)), (15, .d (.bool false))], []⟩)) (R := fun _ => (.ret, ⟨[(4, .d (.int .i64 (-1)))], []⟩))
      (fun left _ => 0 ≤ left ∧ left ≤ 1099511627776)
      (fun left _ => ⟨by simp, by simp [b11_0, r11_0, r11_1, r11_2, r11_3, r11_4, r11_5, r11_7, r11_8, r11_9, r11_6, r11_10]⟩)
      (fun left i hi hinv => by
        have hw := wrap_succ (n := i) (by unfold maxLen at hl; omega)
        have hc' := szSym_eq (symAt l i) left hinv.1 hinv.2 (ho _ (symAt_mem hi)).1
        subst hwd
        unfold stepW
        simp only
        by_cases h2 : left - (symAt l i).name.size < 0
        · rw [leftOf_neg h2] at hc'
          simp only [h2, if_true]
          refine ⟨⟨by simp, ?_⟩, fun a' h => by simp at h⟩
          simp [b11_0, r11_0, r11_1, r11_2, r11_3, r11_4, r11_5, r11_7, r11_8, r11_9, r11_6, r11_10, hi, hw, cut, symAt_lt hi, hc']
        · rw [leftOf_pos h2] at hc'
          simp only [h2, if_false]
          refine ⟨⟨_, by simp [b11_0, r11_0, r11_1, r11_2, r11_3, r11_4, r11_5, r11_7, r11_8, r11_9, r11_6, r11_10, hi, hw, cut, symAt_lt hi, hc', h2]; rfl, by simp [xheadOf, safeRegs]⟩, fun a' h => by simp at h; subst h; exact ⟨by omega, by omega⟩⟩)
      l.length (left - l.length) 0 ⟨[(0, .d (sg l)), (1, .d (.int .i64 (left - l.length))), (5, .d (.int .i64 0))], []⟩ (by omega) ⟨by omega, by omega⟩ (by simp [xheadOf, safeRegs])
    rw [runW _ _ _ _ (by omega)] at hloop
    simp [v11, r11_0, r11_1, r11_2, r11_3, r11_4, r11_5, r11_7, r11_8, r11_9, r11_6, r11_10, hw, h]
    rw [hloop]
    by_cases h3 : left - l.length - sumW w 0 l.length < 0
    · rw [leftOf_neg (by omega)]; simp [h3]
    · rw [leftOf_pos (by omega)]
      simp [h3, v11, r11_0, r11_1, r11_2, r11_3, r11_4, r11_5, r11_7, r11_8, r11_9, r11_6, r11_10]; omega
theorem symEncs_ok (l : List SymL) : ∀ x : DV, x ∈ l.map SymL.enc → elemOK true 3 x := by
  intro x hx; simp only [List.mem_map] at hx; obtain ⟨n, _, rfl⟩ := hx; exact ⟨rfl, rfl, fun _ => ⟨_, rfl⟩, by simp⟩
theorem toSym_eq (s : SymL) : callX XV 16 [.d s.enc] [] = some (.d s.enc, []) := by
  rw [z_call XV _ _ _ v16 rfl xcode_16 rfl]
  simp [v16, r16_0, r16_1, r16_2, r16_3, r16_4, r16_5, splice]
def zS : DV := .agg [.str ⟨#[]⟩, .int .i64 0, .bool false]
theorem toSymS_eq (l : List SymL) (hl : l.length ≤ 1099511627776) : callX XV 12 [.d (sg l)] [] = some (.d (.sl U (l.map SymL.enc)), []) := by
  rw [z_call XV _ _ _ v12 rfl xcode_12 rfl]
  have hcell : ∀ x : DV, x ∈ l.map SymL.enc → x.cells.length = 3 := fun x hx => (symEncs_ok l x hx).1
  have hloop := loopX_upto (X := XV) (T := XV.lin 12) (L := 1) (live := [0, 3, 4]) (b := b12_0) (n := l.length) (γ := Unit) (st := fun (_ : Unit) i => ⟨[(0, .d (sg l)), (3, .bsl [] true 0 3 l.length), (4, .d (.int .i64 i))], [some (rowG (l.map SymL.enc) zS i)]⟩) (step := fun _ _ => .inl ())
    (F := fun _ => (.exit 0, ⟨[(0, .d (sg l)), (3, .bsl [] true 0 3 l.length), (4, .d (.int .i64 l.length)), (11, .d (.bool false))], [some (rowG (l.map SymL.enc) zS l.length)]⟩)) (R := fun _ => (.ret, ⟨[], []⟩))
    (fun _ => ⟨by simp, by simp [b12_0, r12_0, r12_1, r12_2, r12_3, r12_5, r12_4, r12_6]⟩)
    (fun _ i hi => by
      have hw := wrap_succ (n := i) (by omega)
      have hlen := rowG_len (z := zS) hcell rfl i
      have hset := rowG_set (z := zS) hcell rfl i (by simpa using hi)
      simp only [List.getElem_map, symAt_lt hi, cells_symE, List.map_cons, List.map_nil, List.length_map] at hset hlen
      have hle : i * 3 + 3 ≤ l.length * 3 := by omega
      have hc' := toSym_eq (symAt l i)
      exact ⟨_, by simp [b12_0, r12_0, r12_1, r12_2, r12_3, r12_5, r12_4, r12_6, hi, hw, cut, symAt_lt hi, hc', hlen, hle, hset]; rfl, by simp [xheadOf, safeRegs]⟩)
    l.length () 0 ⟨[(0, .d (sg l)), (3, .bsl [] true 0 3 l.length), (4, .d (.int .i64 0))], [some (rowG (l.map SymL.enc) zS 0)]⟩ (by omega) (by simp [xheadOf, safeRegs])
  rw [run_on, rowG_zero] at hloop
  have hch := chunks_row (l.map SymL.enc) (symEncs_ok l)
  have hfl : (flat (l.map SymL.enc)).length = l.length * 3 := by rw [flat_len hcell]; simp
  have hall := rowG_all (l.map SymL.enc) zS
  rw [List.length_map] at hch hall
  simp only [zS, lin_12, List.length_map] at hloop hall
  have hle2 : l.length * 32 ≤ 140737488355328 := by omega
  have hlt : (l.length : Int) < 9223372036854775808 := by omega
  have hlt2 : l.length < 9223372036854775808 := by omega
  simp [v12, r12_0, r12_1, r12_2, r12_3, r12_5, r12_4, r12_6, hle2, hlt]
  simp at hloop
  rw [hloop]
  simp at hall
  simp [hall, datas_row, hch, hfl, hlt2, v12, r12_0, r12_1, r12_2, r12_3, r12_5, r12_4, r12_6]

theorem strEq_self (a : ByteArray) : strEq a a = true := by simp [strEq]
@[simp] theorem evBin_seq (a b : ByteArray) : evBin .eql (.str a) (.str b) = some (.bool (strEq a b)) := rfl
@[simp] theorem evBin_sne (a b : ByteArray) : evBin .neq (.str a) (.str b) = some (.bool !(strEq a b)) := rfl
theorem eqSym_self (s : SymL) : callX XV 20 [.d s.enc, .d s.enc] [] = some (.d (.bool true), []) := by
  rw [z_call XV _ _ _ v20 rfl xcode_20 rfl]
  simp [v20, r20_0, r20_1, r20_2, r20_3, r20_4, r20_5, r20_6, r20_7, strEq_self]
theorem eqSymS_self (l : List SymL) (hl : l.length ≤ 1099511627776) : callX XV 15 [.d (sg l), .d (sg l)] [] = some (.d (.bool true), []) := by
  rw [z_call XV _ _ _ v15 rfl xcode_15 rfl]
  have hloop := loopX_upto (X := XV) (T := []) (L := 0) (live := [0, 1, 5]) (b := b15_0) (n := l.length) (γ := Unit) (st := fun (_ : Unit) i => ⟨[(0, .d (sg l)), (1, .d (sg l)), (5, .d (.int .i64 i))], []⟩) (step := fun _ _ => .inl ())
    (F := fun _ => (.exit 0, ⟨[(0, .d (sg l)), (1, .d (sg l)), (5, .d (.int .i64 l.length)), (14, .d (.bool false))], []⟩)) (R := fun _ => (.ret, ⟨[], []⟩))
    (fun _ => ⟨by simp, by simp [b15_0, r15_0, r15_1, r15_2, r15_3, r15_4, d15_6, r15_7, r15_5, r15_8]⟩)
    (fun _ i hi => by
      have hw := wrap_succ (n := i) (by omega)
      have hc' := eqSym_self (symAt l i)
      exact ⟨_, by simp [b15_0, r15_0, r15_1, r15_2, r15_3, r15_4, d15_6, r15_7, r15_5, r15_8, hi, hw, cut, symAt_lt hi, hc']; rfl, by simp [xheadOf, safeRegs]⟩)
    l.length () 0 ⟨[(0, .d (sg l)), (1, .d (sg l)), (5, .d (.int .i64 0))], []⟩ (by omega) (by simp [xheadOf, safeRegs])
  rw [run_on] at hloop
  simp [v15, r15_0, r15_1, r15_2, r15_3, r15_4, d15_6, r15_7, r15_5, r15_8]
  rw [hloop]
  simp [v15, r15_0, r15_1, r15_2, r15_3, r15_4, d15_6, r15_7, r15_5, r15_8]
/-! from, l1In, isSym, Blind, ArityOf -/
def inB (x lo hi : Int) : Bool := decide (lo ≤ x) && decide (x ≤ hi)
theorem from_eq (x lo hi : Int) : callX XV 30 [.d (.int .i64 x), .d (.int .i64 lo), .d (.int .i64 hi)] [] = some (.d (.bool (inB x lo hi)), []) := by
  rw [z_call XV _ _ _ v30 rfl xcode_30 rfl]
  unfold inB
  by_cases h : lo ≤ x
  · have h' : x ≥ lo := h
    simp [v30, r30_0, r30_1, h]
  · have h' : ¬ x ≥ lo := h
    simp [v30, r30_0, r30_1, h]
theorem l1In_eq (x lo hi : Int) : callX XV 31 [.d (.int .i64 x), .d (.int .i64 lo), .d (.int .i64 hi)] [] = some (.d (.bool (inB x lo hi)), []) := by
  rw [z_call XV _ _ _ v31 rfl xcode_31 rfl]
  unfold inB
  by_cases h : lo ≤ x
  · simp [v31, r31_0, r31_1, h]
  · simp [v31, r31_0, r31_1, h]
def symIn (l : List SymL) (f : Int) : Bool := inB f 0 (l.length - 1)
theorem symIn_lt {l : List SymL} {f : Int} (h : symIn l f = true) : 0 ≤ f ∧ f.toNat < l.length := by
  simp [symIn, inB] at h; omega
theorem isSym_eq (l : List SymL) (hl : l.length ≤ 1099511627776) (f : Int) : callX XV 29 [.d (sg l), .d (.int .i64 f)] [] = some (.d (.bool (symIn l f)), []) := by
  rw [z_call XV _ _ _ v29 rfl xcode_29 rfl]
  have hw : IntKind.i64.wrap ((l.length : Int) - 1) = l.length - 1 := wrap_i64 (by omega) (by omega)
  have h := from_eq f 0 (l.length - 1)
  simp [v29, r29_0, r29_1, hw, h, symIn]
def blindB (l : List SymL) (f : Int) : Bool := symIn l f && (symAt l f.toNat).ac
theorem implBlind_eq (l : List SymL) (hl : l.length ≤ 1099511627776) (f : Int) : callX XV 34 [.d (sg l), .d (.int .i64 f)] [] = some (.d (.bool (blindB l f)), []) := by
  rw [z_call XV _ _ _ v34 rfl xcode_34 rfl]
  have h := isSym_eq l hl f
  unfold blindB
  cases hs : symIn l f with
  | false =>
    rw [hs] at h
    simp [v34, r34_0, r34_1, h]
  | true =>
    rw [hs] at h
    obtain ⟨h1, h2⟩ := symIn_lt hs
    simp [v34, r34_0, r34_1, h, h1, h2, symAt_lt h2, cut]
theorem specBlind_eq (l : List SymL) (hl : l.length ≤ 1099511627776) (f : Int) : callX XV 33 [.d (sg l), .d (.int .i64 f)] [] = some (.d (.bool (blindB l f)), []) := by
  rw [z_call XV _ _ _ v33 rfl xcode_33 rfl]
  have hw : IntKind.i64.wrap ((l.length : Int) - 1) = l.length - 1 := wrap_i64 (by omega) (by omega)
  have h := l1In_eq f 0 (l.length - 1)
  unfold blindB symIn
  cases hs : inB f 0 (l.length - 1) with
  | false =>
    rw [hs] at h
    simp [v33, r33_0, r33_1, h, hw]
  | true =>
    rw [hs] at h
    obtain ⟨h1, h2⟩ := symIn_lt (l := l) (f := f) hs
    simp [v33, r33_0, r33_1, h, hw, h1, h2, symAt_lt h2, cut]
end Go.Proofs.Ytficfeekkljoeaa.VS
namespace Go.Proofs.Ytficfeekkljoeaa.VS
set_option linter.unusedVariables false
set_option linter.unusedSimpArgs false
/-! ## Rows of whole numbers -/
abbrev is (l : List Int) : DV := .sl .sub (l.map (.int .i64))
def iAt (l : List Int) (i : Nat) : Int := (l[i]?).getD 0
theorem iAt_lt {l : List Int} {i : Nat} (h : i < l.length) : l[i] = iAt l i := by simp [iAt, h]
@[simp high] theorem clr_intsE (l : List Int) : (l.map (DV.int .i64)).map DV.clr = l.map (DV.int .i64) := by simp [List.map_map, Function.comp_def]
end Go.Proofs.Ytficfeekkljoeaa.VS
namespace Go.Proofs.Ytficfeekkljoeaa.VS
set_option linter.unusedVariables false
set_option linter.unusedSimpArgs false
def smallB (c : Int) : Bool := decide (97 ≤ c) && decide (c ≤ 122)
def digitB (c : Int) : Bool := decide (48 ≤ c) && decide (c ≤ 57)
theorem isSmall_eq (c : Int) : callX XV 61 [.d (.int .u8 c)] [] = some (.d (.bool (smallB c)), []) := by
  rw [z_call XV _ _ _ v61 rfl xcode_61 rfl]
  cases h1 : decide (97 ≤ c) <;> simp [v61, r61_0, r61_1, h1, smallB]
theorem isDigit_eq (c : Int) : callX XV 62 [.d (.int .u8 c)] [] = some (.d (.bool (digitB c)), []) := by
  rw [z_call XV _ _ _ v62 rfl xcode_62 rfl]
  cases h1 : decide (48 ≤ c) <;> simp [v62, r62_0, r62_1, h1, digitB]
def okX1 (x : Int) (i : Nat) : Prop := (97 ≤ x ∧ x ≤ 122) ∨ (0 < i ∧ 48 ≤ x ∧ x ≤ 57)
instance (x : Int) (i : Nat) : Decidable (okX1 x i) := by unfold okX1; exact inferInstance

theorem body59 (s : ByteArray) (hs : s.size ≤ 1099511627776) (i : Nat) (hlt : i < s.size) (x : Int) (hb : byteAt s i = some x) :
    codeX XV [] b59_0 ⟨[(0, .d (.str s)), (3, .d (.int .i64 i))], []⟩ = some (if okX1 x i then (.normal, ⟨[(0, .d (.str s)), (3, .d (.int .i64 (i + 1 : Nat)))], []⟩) else (.ret, ⟨[(2, .d (.bool false))], []⟩)) := by
  have hw := wrap_succ (n := i) (by omega)
  simp [b59_0, r59_2, r59_4, r59_5, r59_3, hb, hlt, hw]
  cases h1 : decide (97 ≤ x)
  case true =>
    simp [hb]
    cases h2 : decide (x ≤ 122)
    case true =>
      simp [hb, hw]
      have : okX1 x i := by simp at h1 h2; exact .inl ⟨h1, h2⟩
      simp [this]
    case false =>
      simp [hb, hw]
      cases h3 : decide (0 < i) <;> simp [hb, hw]
      case true =>
        have h4 : (48 ≤ x) := by simp at h1; omega
        simp [h4, hb]
        have h5 : ¬ (x ≤ 57) := by simp at h1; omega
        have : ¬ okX1 x i := by simp at h1 h2; unfold okX1; omega
        simp [h5, this]
      case false =>
        have : ¬ okX1 x i := by simp at h1 h2 h3; unfold okX1; omega
        simp [this]
  case false =>
    simp [hb]
    cases h3 : decide (0 < i)
    case true =>
      simp [hb, hw]
      cases h4 : decide (48 ≤ x)
      case true =>
        simp [hb, hw]
        cases h5 : decide (x ≤ 57)
        case true =>
          have : okX1 x i := by simp at h1 h3 h4 h5; unfold okX1; omega
          simp [hw, this]
        case false =>
          have : ¬ okX1 x i := by simp at h1 h3 h4 h5; unfold okX1; omega
          simp [hw, this]
      case false =>
        have : ¬ okX1 x i := by simp at h1 h3 h4; unfold okX1; omega
        simp [hb, hw, this]
    case false =>
      have : ¬ okX1 x i := by simp at h1 h3; unfold okX1; omega
      simp [hb, hw, this]

def okAt (s : ByteArray) (i : Nat) : Bool := decide (okX1 (chr s i) i)
def allAt (s : ByteArray) (f : ByteArray → Nat → Bool) (i k : Nat) : Bool := (List.range' i k).all (f s)
theorem allAt_zero (s : ByteArray) (f : ByteArray → Nat → Bool) (i : Nat) : allAt s f i 0 = true := rfl
theorem allAt_succ (s : ByteArray) (f : ByteArray → Nat → Bool) (i k : Nat) : allAt s f i (k + 1) = (f s i && allAt s f (i + 1) k) := by simp [allAt, List.range'_succ]
theorem allAt_iff (s : ByteArray) (f : ByteArray → Nat → Bool) (i k : Nat) : allAt s f i k = true ↔ ∀ j, i ≤ j → j < i + k → f s j = true := by
  simp only [allAt, List.all_eq_true, List.mem_range'_1]
  exact ⟨fun h j h1 h2 => h j ⟨h1, h2⟩, fun h j h1 => h j h1.1 h1.2⟩

theorem loop59 (s : ByteArray) (hs : s.size ≤ 1099511627776) : ∀ (k i : Nat), i + k = s.size →
    loopX XV [] 0 [0, 3] b59_0 ⟨[(0, .d (.str s)), (3, .d (.int .i64 i))], []⟩ =
      some (if allAt s okAt i k then (.exit 0, ⟨[(0, .d (.str s)), (3, .d (.int .i64 s.size)), (7, .d (.bool false))], []⟩) else (.ret, ⟨[(2, .d (.bool false))], []⟩))
  | 0, i, hk => by
    have : i = s.size := by omega
    subst this
    rw [loopX_eq]
    simp [xheadOf, safeRegs, b59_0, r59_2, allAt_zero]
  | k + 1, i, hk => by
    have hlt : i < s.size := by omega
    have ih := loop59 s hs k (i + 1) (by omega)
    rw [loopX_eq, allAt_succ]
    by_cases h : okX1 (chr s i) i
    · have h2 : okAt s i = true := by simp [okAt, h]
      rw [h2, Bool.true_and, ← ih]
      simp [xheadOf, safeRegs, body59 s hs i hlt _ (byteAt_lt hlt), h]
    · have h2 : okAt s i = false := by simp [okAt, h]
      simp [xheadOf, safeRegs, body59 s hs i hlt _ (byteAt_lt hlt), h, h2]

def nameOk (s : ByteArray) : Bool := allAt s okAt 0 s.size && inB s.size 1 8

theorem specNameOk_eq (s : ByteArray) (hs : s.size ≤ 1099511627776) : callX XV 59 [.d (.str s)] [] = some (.d (.bool (nameOk s)), []) := by
  rw [z_call XV _ _ _ v59 rfl xcode_59 rfl]
  have h := loop59 s hs s.size 0 (by omega)
  simp [v59, r59_0, r59_1, r59_6]
  simp at h
  rw [h]
  cases h1 : allAt s okAt 0 s.size
  · simp [nameOk, h1]
  · simp [nameOk, h1, l1In_eq]

def okAt2 (s : ByteArray) (i : Nat) : Bool := smallB (chr s i) || digitB (chr s i)

theorem body60 (s : ByteArray) (hs : s.size ≤ 1099511627776) (i : Nat) (hlt : i < s.size) :
    codeX XV [] b60_0 ⟨[(0, .d (.str s)), (5, .d (.int .i64 s.size)), (6, .d (.int .i64 i))], []⟩ = some (if okAt2 s i then (.normal, ⟨[(0, .d (.str s)), (5, .d (.int .i64 s.size)), (6, .d (.int .i64 (i + 1 : Nat)))], []⟩) else (.ret, ⟨[(2, .d (.bool false))], []⟩)) := by
  have hw := wrap_succ (n := i) (by omega)
  have hb := byteAt_lt hlt
  simp [b60_0, r60_2, r60_3, r60_4, r60_5, r60_6, hb, hlt, hw, isSmall_eq, isDigit_eq]
  cases h1 : smallB (chr s i)
  · simp [hb, isDigit_eq]
    cases h2 : digitB (chr s i) <;> simp [hw, okAt2, h1, h2]
  · simp [hw, okAt2, h1]

theorem loop60 (s : ByteArray) (hs : s.size ≤ 1099511627776) : ∀ (k i : Nat), i + k = s.size →
    loopX XV [] 0 [0, 5, 6] b60_0 ⟨[(0, .d (.str s)), (5, .d (.int .i64 s.size)), (6, .d (.int .i64 i))], []⟩ =
      some (if allAt s okAt2 i k then (.exit 0, ⟨[(0, .d (.str s)), (5, .d (.int .i64 s.size)), (6, .d (.int .i64 s.size)), (7, .d (.bool false))], []⟩) else (.ret, ⟨[(2, .d (.bool false))], []⟩))
  | 0, i, hk => by
    have : i = s.size := by omega
    subst this
    rw [loopX_eq]
    simp [xheadOf, safeRegs, b60_0, r60_2, allAt_zero]
  | k + 1, i, hk => by
    have hlt : i < s.size := by omega
    have ih := loop60 s hs k (i + 1) (by omega)
    rw [loopX_eq, allAt_succ]
    cases h : okAt2 s i
    · simp [xheadOf, safeRegs, body60 s hs i hlt, h]
    · rw [Bool.true_and, ← ih]
      simp [xheadOf, safeRegs, body60 s hs i hlt, h]

def nameOk2 (s : ByteArray) : Bool := allAt s okAt2 0 s.size && (inB s.size 1 8 && smallB (chr s 0))

theorem implNameOk_eq (s : ByteArray) (hs : s.size ≤ 1099511627776) : callX XV 60 [.d (.str s)] [] = some (.d (.bool (nameOk2 s)), []) := by
  rw [z_call XV _ _ _ v60 rfl xcode_60 rfl]
  have h := loop60 s hs s.size 0 (by omega)
  simp [v60, r60_0, r60_1, r60_7]
  simp at h
  rw [h]
  cases h1 : allAt s okAt2 0 s.size
  · simp [nameOk2, h1]
  · simp [nameOk2, h1, from_eq]
    cases h2 : inB s.size 1 8
    · simp [h2]
    · have h3 : 0 < s.size := by simp [inB] at h2; omega
      simp [h2, byteAt_lt h3, isSmall_eq]

theorem okAt_iff (s : ByteArray) (i : Nat) : okAt s i = true ↔ (97 ≤ chr s i ∧ chr s i ≤ 122) ∨ (0 < i ∧ 48 ≤ chr s i ∧ chr s i ≤ 57) := by
  unfold okAt; rw [decide_eq_true_eq]; rfl
theorem okAt2_iff (s : ByteArray) (i : Nat) : okAt2 s i = true ↔ (97 ≤ chr s i ∧ chr s i ≤ 122) ∨ (48 ≤ chr s i ∧ chr s i ≤ 57) := by
  simp [okAt2, smallB, digitB]
theorem smallB_iff (x : Int) : smallB x = true ↔ 97 ≤ x ∧ x ≤ 122 := by simp [smallB]
theorem nameOk_same (s : ByteArray) : nameOk2 s = nameOk s := by
  rw [Bool.eq_iff_iff]
  simp only [nameOk, nameOk2, Bool.and_eq_true, allAt_iff, okAt_iff, okAt2_iff, smallB_iff]
  constructor
  · rintro ⟨h1, h2, h3⟩
    refine ⟨fun j hj hj2 => ?_, h2⟩
    have h4 := h1 j hj hj2
    rcases Nat.eq_zero_or_pos j with rfl | hp
    · exact .inl h3
    · omega
  · rintro ⟨h1, h2⟩
    have h0 : 0 < s.size := by simp [inB] at h2; omega
    have h5 := h1 0 (Nat.le_refl _) (by omega)
    refine ⟨fun j hj hj2 => ?_, h2, ?_⟩
    · have h4 := h1 j hj hj2
      omega
    · omega

end Go.Proofs.Ytficfeekkljoeaa.VS
namespace Go.Proofs.Ytficfeekkljoeaa.VS
set_option linter.unusedVariables false
set_option linter.unusedSimpArgs false
/-- The first place from i on where it holds, in k places. -/
def findAt (q : Nat → Bool) : Nat → Nat → Option Nat
  | 0, _ => none
  | k + 1, i => if q i then some i else findAt q k (i + 1)
def stepF (q : Nat → Bool) (_ : Unit) (i : Nat) : Unit ⊕ Nat := if q i then .inr i else .inl ()
theorem runF (q : Nat → Bool) : ∀ (k i : Nat), runN (stepF q) k () i = match findAt q k i with | some j => .inr j | none => .inl ()
  | 0, i => rfl
  | k + 1, i => by
    simp only [runN, stepF, findAt]
    cases h : q i
    · simp [runF q k (i + 1)]
    · simp
def orNeg : Option Nat → Int
  | some j => j
  | none => -1
theorem findAt_lt (q : Nat → Bool) : ∀ (k i j : Nat), findAt q k i = some j → i ≤ j ∧ j < i + k ∧ q j = true
  | 0, i, j, h => by simp [findAt] at h
  | k + 1, i, j, h => by
    simp only [findAt] at h
    split at h
    · simp at h; subst h; exact ⟨Nat.le_refl _, by omega, by assumption⟩
    · obtain ⟨h1, h2, h3⟩ := findAt_lt q k (i + 1) j h; exact ⟨by omega, by omega, h3⟩
def symOfB (l : List SymL) (name : ByteArray) : Int := orNeg (findAt (fun i => strEq (symAt l i).name name) l.length 0)
theorem specSymOf_eq (l : List SymL) (name : ByteArray) (hl : l.length ≤ 1099511627776) : callX XV 13 [.d (sg l), .d (.str name)] [] = some (.d (.int .i64 (symOfB l name)), []) := by
  rw [z_call XV _ _ _ v13 rfl xcode_13 rfl]
  have h := loopX_upto (X := XV) (T := []) (L := 0) (live := [0, 1, 5]) (b := b13_0) (n := l.length) (st := fun (_ : Unit) i => ⟨[(0, .d (sg l)), (1, .d (.str name)), (5, .d (.int .i64 i))], []⟩) (step := stepF fun i => strEq (symAt l i).name name)
    (F := fun _ => (.exit 0, ⟨[(0, .d (sg l)), (1, .d (.str name)), (5, .d (.int .i64 l.length)), (9, .d (.bool false))], []⟩)) (R := fun (j : Nat) => (.ret, ⟨[(4, .d (.int .i64 j))], []⟩))
    (fun a => ⟨by simp, by simp [b13_0, r13_0, r13_1, r13_2, r13_4, r13_5, r13_3, r13_6]⟩)
    (fun a i hi => by
      have hw := wrap_succ (n := i) (by omega)
      unfold stepF
      by_cases hq : strEq (symAt l i).name name = true
      · rw [if_pos hq]; exact ⟨by simp, by simp [b13_0, r13_0, r13_1, r13_2, r13_4, r13_5, r13_3, r13_6, hi, hw, cut, symAt_lt hi, hq]⟩
      · rw [if_neg hq]
        have hq' : strEq (symAt l i).name name = false := by simpa using hq
        exact ⟨_, by simp [b13_0, r13_0, r13_1, r13_2, r13_4, r13_5, r13_3, r13_6, hi, hw, cut, symAt_lt hi, hq']; rfl, by simp [xheadOf, safeRegs]⟩)
    l.length () 0 ⟨[(0, .d (sg l)), (1, .d (.str name)), (5, .d (.int .i64 0))], []⟩ (by omega) (by simp [xheadOf, safeRegs])
  rw [runF] at h
  simp [v13, r13_0, r13_1, r13_2, r13_4, r13_5, r13_3, r13_6]
  rw [h]
  unfold symOfB
  cases hq : findAt (fun i => strEq (symAt l i).name name) l.length 0 <;> simp [orNeg, v13, r13_0, r13_1, r13_2, r13_4, r13_5, r13_3, r13_6]
theorem indexFuncS_eq (l : List SymL) (fk : Nat) (caps : List AV) (B : Boxs) (P : SymL → Bool) (hl : l.length ≤ 1099511627776) (hs : AV.safe.safes B.length caps = true) (hcc : caps.map AV.clr = caps) (hk : ¬ 0 ∈ XV.lin fk)
    (hf : ∀ s, s ∈ l → callX XV fk (.d s.enc :: caps) B = some (.d (.bool (P s)), B)) :
    callX XV 19 [.d (sg l), .fn fk caps] B = some (.d (.int .i64 (orNeg (findAt (fun i => P (symAt l i)) l.length 0))), B) := by
  rw [z_call XV _ _ _ v19 rfl xcode_19 rfl]
  have h := loopX_upto (X := XV) (T := XV.lin 19) (L := B.length) (live := [0, 1, 7, 8]) (b := b19_0) (n := l.length) (st := fun (_ : Unit) i => ⟨[(0, .d (sg l)), (1, .fn fk caps), (7, .d (.int .i64 l.length)), (8, .d (.int .i64 i))], B⟩) (step := stepF fun i => P (symAt l i))
    (F := fun _ => (.exit 0, ⟨[(0, .d (sg l)), (1, .fn fk caps), (7, .d (.int .i64 l.length)), (8, .d (.int .i64 l.length)), (9, .d (.bool false))], B⟩)) (R := fun (j : Nat) => (.ret, ⟨[(4, .d (.int .i64 j))], B⟩))
    (fun a => ⟨by simp, by simp [b19_0, r19_0, r19_1, r19_2, r19_3, r19_4, r19_5, r19_6, r19_7, hcc]⟩)
    (fun a i hi => by
      have hw := wrap_succ (n := i) (by omega)
      have hc := hf _ (symAt_mem hi)
      unfold stepF
      by_cases hq : P (symAt l i) = true
      · rw [if_pos hq]; rw [hq] at hc
        exact ⟨by simp, by simp [b19_0, r19_0, r19_1, r19_2, r19_3, r19_4, r19_5, r19_6, r19_7, hi, hw, cut, symAt_lt hi, hc, hcc, hk]⟩
      · rw [if_neg hq]
        have hq' : P (symAt l i) = false := by simpa using hq
        rw [hq'] at hc
        exact ⟨_, by simp [b19_0, r19_0, r19_1, r19_2, r19_3, r19_4, r19_5, r19_6, r19_7, hi, hw, cut, symAt_lt hi, hc, hcc, hk]; rfl, by simp [xheadOf, safeRegs, hs]⟩)
    l.length () 0 ⟨[(0, .d (sg l)), (1, .fn fk caps), (7, .d (.int .i64 l.length)), (8, .d (.int .i64 0))], B⟩ (by omega) (by simp [xheadOf, safeRegs, hs])
  rw [runF] at h
  simp only [lin_19] at h
  simp [v19, r19_0, r19_1, r19_2, r19_3, r19_4, r19_5, r19_6, r19_7, hcc]
  rw [h]
  cases hq : findAt (fun i => P (symAt l i)) l.length 0 <;> simp [orNeg, v19, r19_0, r19_1, r19_2, r19_3, r19_4, r19_5, r19_6, r19_7]
theorem symOf1_eq (s : SymL) (name : ByteArray) : callX XV 18 [.d s.enc, .ptr 0 0] [some [.d (.str name)]] = some (.d (.bool (strEq s.name name)), [some [.d (.str name)]]) := by
  rw [z_call XV _ _ _ v18 rfl xcode_18 rfl]
  simp [v18, r18_0, r18_1]
theorem implSymOf_eq (l : List SymL) (name : ByteArray) (hl : l.length ≤ 1099511627776) : callX XV 14 [.d (sg l), .d (.str name)] [] = some (.d (.int .i64 (symOfB l name)), []) := by
  rw [z_call XV _ _ _ v14 rfl xcode_14 rfl]
  have hc := indexFuncS_eq l 18 [.ptr 0 0] [some [.d (.str name)]] (fun s => strEq s.name name) hl (by simp) (by simp) (by simp) (fun s _ => symOf1_eq s name)
  simp [v14, r14_0, r14_1, hc, symOfB]
/-! SigOk -/
def badSym (l : List SymL) (s : SymL) (i : Nat) : Bool := !nameOk s.name || !(decide (symOfB l s.name = i)) || !(inB s.arity 0 3) || (s.ac && !decide (s.arity = 2))
def ttB (s : SymL) : Bool := strEq s.name ⟨#[116, 116]⟩ && decide (s.arity = 0)
def sigOkB (l : List SymL) : Bool := (findAt (fun i => badSym l (symAt l i) i) l.length 0).isNone && (inB l.length 1 8 && ttB (symAt l 0))
theorem sumW_ge (w : Nat → Nat) : ∀ (k i j : Nat), i ≤ j → j < i + k → w j ≤ sumW w i k
  | 0, i, j, h, h' => by omega
  | k + 1, i, j, h, h' => by
    simp only [sumW]
    rcases Nat.eq_or_lt_of_le h with rfl | h
    · omega
    · have := sumW_ge w k (i + 1) j h (by omega); omega
theorem name_le (l : List SymL) (i : Nat) (hi : i < l.length) : (symAt l i).name.size ≤ symsSize l := by
  have := sumW_ge (fun i => (symAt l i).name.size) l.length 0 i (Nat.zero_le _) (by omega)
  unfold symsSize; omega

theorem badSym_false (l : List SymL) (s : SymL) (i : Nat) : badSym l s i = false ↔ nameOk s.name = true ∧ symOfB l s.name = i ∧ inB s.arity 0 3 = true ∧ (s.ac = true → s.arity = 2) := by
  simp [badSym, and_assoc]
theorem body77 (l : List SymL) (hl : l.length ≤ 1099511627776) (i : Nat) (hi : i < l.length) (hn : (symAt l i).name.size ≤ 1099511627776) :
    xGoes 0 [0, 5, 6, 7] (fun (_ : Unit) i => ⟨[(0, .d (sg l)), (5, .d (sg l)), (6, .d (.int .i64 l.length)), (7, .d (.int .i64 i))], []⟩) (fun (_ : Nat) => (.ret, ⟨[(2, .d (.bool false))], [some [.d (.str (symAt l i).name), .d (.int .i64 (symAt l i).arity), .d (.bool (symAt l i).ac)]]⟩)) i
      (codeX XV (XV.lin 77) b77_0 ⟨[(0, .d (sg l)), (5, .d (sg l)), (6, .d (.int .i64 l.length)), (7, .d (.int .i64 i))], []⟩) (stepF (fun i => badSym l (symAt l i) i) () i) := by
  have hw := wrap_succ (n := i) (by omega)
  have n1 := implNameOk_eq (symAt l i).name hn
  rw [nameOk_same] at n1
  have n2 := implSymOf_eq l (symAt l i).name hl
  have n3 := from_eq (symAt l i).arity 0 3
  unfold stepF
  by_cases hb : badSym l (symAt l i) i = true
  · rw [if_pos hb]
    refine ⟨by simp, ?_⟩
    cases c1 : nameOk (symAt l i).name with
    | false => rw [c1] at n1; simp [b77_0, r77_0, r77_1, r77_2, r77_3, r77_4, r77_5, r77_6, r77_7, hi, hw, cut, symAt_lt hi, n1, splice]
    | true =>
      rw [c1] at n1
      by_cases c2 : symOfB l (symAt l i).name = i
      · have b2 : (symOfB l (symAt l i).name != i) = false := by simp [c2]
        cases c3 : inB (symAt l i).arity 0 3 with
        | false => rw [c3] at n3; simp [b77_0, r77_0, r77_1, r77_2, r77_3, r77_4, r77_5, r77_6, r77_7, hi, hw, cut, symAt_lt hi, n1, n2, b2, n3, splice]
        | true =>
          rw [c3] at n3
          have c4 : (symAt l i).ac = true ∧ ¬ (symAt l i).arity = 2 := by
            have : ¬ badSym l (symAt l i) i = false := by simp [hb]
            rw [badSym_false] at this
            simp only [c1, c2, c3, true_and] at this
            exact Classical.not_imp.1 this
          have b4 : ((symAt l i).arity != 2) = true := by simp [c4.2]
          simp [b77_0, r77_0, r77_1, r77_2, r77_3, r77_4, r77_5, r77_6, r77_7, hi, hw, cut, symAt_lt hi, n1, n2, b2, n3, splice, c4.1, b4]
      · have b2 : (symOfB l (symAt l i).name != i) = true := by simp [c2]
        simp [b77_0, r77_0, r77_1, r77_2, r77_3, r77_4, r77_5, r77_6, r77_7, hi, hw, cut, symAt_lt hi, n1, n2, b2, splice]
  · have hb' : badSym l (symAt l i) i = false := by simpa using hb
    rw [if_neg hb]
    obtain ⟨c1, c2, c3, c4⟩ := (badSym_false l _ i).1 hb'
    have b2 : (symOfB l (symAt l i).name != i) = false := by simp [c2]
    rw [c1] at n1; rw [c3] at n3
    cases c5 : (symAt l i).ac with
    | false => exact ⟨_, by simp [b77_0, r77_0, r77_1, r77_2, r77_3, r77_4, r77_5, r77_6, r77_7, hi, hw, cut, symAt_lt hi, n1, n2, b2, n3, splice, c5]; rfl, by simp [xheadOf, safeRegs]⟩
    | true =>
      have b4 : ((symAt l i).arity != 2) = false := by simp [c4 c5]
      exact ⟨_, by simp [b77_0, r77_0, r77_1, r77_2, r77_3, r77_4, r77_5, r77_6, r77_7, hi, hw, cut, symAt_lt hi, n1, n2, b2, n3, splice, c5, b4]; rfl, by simp [xheadOf, safeRegs]⟩
theorem implSigOk_eq (l : List SymL) (hl : l.length ≤ 1099511627776) (hn : ∀ i, i < l.length → (symAt l i).name.size ≤ 1099511627776) : callX XV 77 [.d (sg l)] [] = some (.d (.bool (sigOkB l)), []) := by
  rw [z_call XV _ _ _ v77 rfl xcode_77 rfl]
  have h := loopX_upto (X := XV) (T := XV.lin 77) (L := 0) (live := [0, 5, 6, 7]) (b := b77_0) (n := l.length) (γ := Nat) (st := fun (_ : Unit) i => ⟨[(0, .d (sg l)), (5, .d (sg l)), (6, .d (.int .i64 l.length)), (7, .d (.int .i64 i))], []⟩) (step := stepF fun i => badSym l (symAt l i) i)
    (F := fun _ => (.exit 0, ⟨[(0, .d (sg l)), (5, .d (sg l)), (6, .d (.int .i64 l.length)), (7, .d (.int .i64 l.length)), (8, .d (.bool false))], []⟩)) (R := fun j => (.ret, ⟨[(2, .d (.bool false))], [some [.d (.str (symAt l j).name), .d (.int .i64 (symAt l j).arity), .d (.bool (symAt l j).ac)]]⟩))
    (fun a => ⟨by simp, by simp [b77_0, r77_0, r77_1, r77_2, r77_3, r77_4, r77_5, r77_6, r77_7]⟩)
    (fun a i hi => by
      have hb := body77 l hl i hi (hn i hi)
      unfold stepF at hb ⊢
      split at hb
      · rename_i h1; rw [if_pos h1]; exact hb
      · rename_i h1; rw [if_neg h1]; exact hb)
    l.length () 0 ⟨[(0, .d (sg l)), (5, .d (sg l)), (6, .d (.int .i64 l.length)), (7, .d (.int .i64 0))], []⟩ (by omega) (by simp [xheadOf, safeRegs])
  rw [runF] at h
  simp only [lin_77] at h
  simp [v77, r77_0, r77_1, r77_2, r77_3, r77_4, r77_5, r77_6, r77_7]
  rw [h]
  unfold sigOkB
  cases hq : findAt (fun i => badSym l (symAt l i) i) l.length 0 with
  | some j => simp
  | none =>
    have n3 := from_eq l.length 1 8
    cases c1 : inB l.length 1 8 with
    | false => rw [c1] at n3; simp [v77, r77_0, r77_1, r77_2, r77_3, r77_4, r77_5, r77_6, r77_7, n3]
    | true =>
      rw [c1] at n3
      have h0 : 0 < l.length := by simp [inB] at c1; omega
      unfold ttB
      cases c2 : strEq (symAt l 0).name ⟨#[116, 116]⟩ with
      | false => simp [v77, r77_0, r77_1, r77_2, r77_3, r77_4, r77_5, r77_6, r77_7, n3, h0, symAt_lt h0, cut, c2]
      | true =>
        by_cases c3 : (symAt l 0).arity = 0
        · simp [v77, r77_0, r77_1, r77_2, r77_3, r77_4, r77_5, r77_6, r77_7, n3, h0, symAt_lt h0, cut, c2, c3]
        · have b3 : ((symAt l 0).arity == 0) = false := by simp [c3]
          simp [v77, r77_0, r77_1, r77_2, r77_3, r77_4, r77_5, r77_6, r77_7, n3, h0, symAt_lt h0, cut, c2, c3, b3]
theorem specSigOk_eq (l : List SymL) (hl : l.length ≤ 1099511627776) (hn : ∀ i, i < l.length → (symAt l i).name.size ≤ 1099511627776) : callX XV 82 [.d (sg l)] [] = some (.d (.bool (sigOkB l)), []) := by
  rw [z_call XV _ _ _ v82 rfl xcode_82 rfl]
  have h := loopX_upto (X := XV) (T := XV.lin 82) (L := 0) (live := [0, 3]) (b := b82_0) (n := l.length) (γ := Nat) (st := fun (_ : Unit) i => ⟨[(0, .d (sg l)), (3, .d (.int .i64 i))], []⟩) (step := stepF fun i => badSym l (symAt l i) i)
    (F := fun _ => (.exit 0, ⟨[(0, .d (sg l)), (3, .d (.int .i64 l.length)), (7, .d (.bool false))], []⟩)) (R := fun j => (.ret, ⟨[(2, .d (.bool false))], []⟩))
    (fun a => ⟨by simp, by simp [b82_0, r82_0, r82_1, r82_2, r82_4, r82_5, r82_3, r82_6]⟩)
    (fun a i hi => by
      have hw := wrap_succ (n := i) (by omega)
      have n1 := specNameOk_eq (symAt l i).name (hn i hi)
      have n2 := specSymOf_eq l (symAt l i).name hl
      have n3 := l1In_eq (symAt l i).arity 0 3
      unfold stepF
      by_cases hb : badSym l (symAt l i) i = true
      · rw [if_pos hb]
        refine ⟨by simp, ?_⟩
        cases c1 : nameOk (symAt l i).name with
        | false => rw [c1] at n1; simp [b82_0, r82_0, r82_1, r82_2, r82_4, r82_5, r82_3, r82_6, hi, hw, cut, symAt_lt hi, n1, splice]
        | true =>
          rw [c1] at n1
          by_cases c2 : symOfB l (symAt l i).name = i
          · have b2 : (symOfB l (symAt l i).name != i) = false := by simp [c2]
            cases c3 : inB (symAt l i).arity 0 3 with
            | false => rw [c3] at n3; simp [b82_0, r82_0, r82_1, r82_2, r82_4, r82_5, r82_3, r82_6, hi, hw, cut, symAt_lt hi, n1, n2, b2, n3, splice]
            | true =>
              rw [c3] at n3
              have c4 : (symAt l i).ac = true ∧ ¬ (symAt l i).arity = 2 := by
                have : ¬ badSym l (symAt l i) i = false := by simp [hb]
                rw [badSym_false] at this
                simp only [c1, c2, c3, true_and] at this
                exact Classical.not_imp.1 this
              have b4 : ((symAt l i).arity != 2) = true := by simp [c4.2]
              simp [b82_0, r82_0, r82_1, r82_2, r82_4, r82_5, r82_3, r82_6, hi, hw, cut, symAt_lt hi, n1, n2, b2, n3, splice, c4.1, b4]
          · have b2 : (symOfB l (symAt l i).name != i) = true := by simp [c2]
            simp [b82_0, r82_0, r82_1, r82_2, r82_4, r82_5, r82_3, r82_6, hi, hw, cut, symAt_lt hi, n1, n2, b2, splice]
      · have hb' : badSym l (symAt l i) i = false := by simpa using hb
        rw [if_neg hb]
        obtain ⟨c1, c2, c3, c4⟩ := (badSym_false l _ i).1 hb'
        have b2 : (symOfB l (symAt l i).name != i) = false := by simp [c2]
        rw [c1] at n1; rw [c3] at n3
        cases c5 : (symAt l i).ac with
        | false => exact ⟨_, by simp [b82_0, r82_0, r82_1, r82_2, r82_4, r82_5, r82_3, r82_6, hi, hw, cut, symAt_lt hi, n1, n2, b2, n3, splice, c5]; rfl, by simp [xheadOf, safeRegs]⟩
        | true =>
          have b4 : ((symAt l i).arity != 2) = false := by simp [c4 c5]
          exact ⟨_, by simp [b82_0, r82_0, r82_1, r82_2, r82_4, r82_5, r82_3, r82_6, hi, hw, cut, symAt_lt hi, n1, n2, b2, n3, splice, c5, b4]; rfl, by simp [xheadOf, safeRegs]⟩)
    l.length () 0 ⟨[(0, .d (sg l)), (3, .d (.int .i64 0))], []⟩ (by omega) (by simp [xheadOf, safeRegs])
  rw [runF] at h
  simp only [lin_82] at h
  simp [v82, r82_0, r82_1, r82_2, r82_4, r82_5, r82_3, r82_6]
  rw [h]
  unfold sigOkB
  cases hq : findAt (fun i => badSym l (symAt l i) i) l.length 0 with
  | some j => simp
  | none =>
    have n3 := l1In_eq l.length 1 8
    cases c1 : inB l.length 1 8 with
    | false => rw [c1] at n3; simp [v82, r82_0, r82_1, r82_2, r82_4, r82_5, r82_3, r82_6, n3]
    | true =>
      rw [c1] at n3
      have h0 : 0 < l.length := by simp [inB] at c1; omega
      have hnone : ∀ (q : Nat → Bool) (k i j : Nat), findAt q k i = none → i ≤ j → j < i + k → q j = false := by
        intro q k
        induction k with
        | zero => intro i j _ h1 h2; omega
        | succ k ih =>
          intro i j hf h1 h2
          simp only [findAt] at hf
          split at hf
          · simp at hf
          · rcases Nat.eq_or_lt_of_le h1 with rfl | h1
            · simpa using ‹¬ q i = true›
            · exact ih (i + 1) j hf h1 (by omega)
      have hb0 := hnone _ _ _ 0 hq (Nat.le_refl _) (by omega)
      obtain ⟨_, _, _, c4⟩ := (badSym_false l (symAt l 0) 0).1 hb0
      have key : eqCells [2, 0, 1] [.str (symAt l 0).name, .int .i64 (symAt l 0).arity, .bool (symAt l 0).ac] [.str ⟨#[116, 116]⟩, .int .i64 0, .bool false] = some (ttB (symAt l 0)) := by
        unfold ttB
        cases c2 : strEq (symAt l 0).name ⟨#[116, 116]⟩ <;> by_cases c3 : (symAt l 0).arity = 0 <;> cases c5 : (symAt l 0).ac <;> simp [eqCells, c2, c3, c5]
        have := c4 c5; omega
      have key2 : ∀ s s' : SymL, eEqAgg false [2, 0, 1] (some (.d s.enc)) (some (.d s'.enc)) = (eqCells [2, 0, 1] [.str s.name, .int .i64 s.arity, .bool s.ac] [.str s'.name, .int .i64 s'.arity, .bool s'.ac]).map fun e => .d (.bool e) := fun s s' => by
        show (eqCells [2, 0, 1] s.cells s'.cells).map _ = _
        simp [SymL.cells]
      simp [v82, r82_0, r82_1, r82_2, r82_4, r82_5, r82_3, r82_6, n3, h0, symAt_lt h0, cut, key2, key, splice]
end Go.Proofs.Ytficfeekkljoeaa.VS
namespace Go.Proofs.Ytficfeekkljoeaa.VS
set_option linter.unusedVariables false
set_option linter.unusedSimpArgs false
/-! ## Where a number stands; the first number that is greater (whatever the native functions are) -/
theorem findAt_none (q : Nat → Bool) : ∀ (k i j : Nat), findAt q k i = none → i ≤ j → j < i + k → q j = false
  | 0, i, j, _, h1, h2 => by omega
  | k + 1, i, j, hf, h1, h2 => by
    simp only [findAt] at hf
    split at hf
    · simp at hf
    · rename_i hq
      by_cases he : j = i
      · subst he; simpa using hq
      · exact findAt_none q k (i + 1) j hf (by omega) (by omega)
theorem found_contains (l : List Int) (n : Int) : decide (0 ≤ orNeg (findAt (fun i => n == iAt l i) l.length 0)) = l.contains n := by
  cases hq : findAt (fun i => n == iAt l i) l.length 0 with
  | none =>
    have h := fun j => findAt_none _ _ _ j hq
    have hc : l.contains n = false := by
      rw [Bool.eq_false_iff]
      intro hm
      rw [List.contains_iff_mem] at hm
      obtain ⟨j, hj⟩ := List.mem_iff_getElem?.1 hm
      have hlt : j < l.length := (List.getElem?_eq_some_iff.1 hj).1
      have := h j (Nat.zero_le _) (by omega)
      simp [iAt, hj] at this
    rw [hc]; simp [orNeg]
  | some j =>
    obtain ⟨h1, h2, h3⟩ := findAt_lt _ _ _ _ hq
    have hlt : j < l.length := by omega
    have hc : l.contains n = true := by
      rw [List.contains_iff_mem]
      simp only [beq_iff_eq] at h3
      rw [h3, ← iAt_lt hlt]
      exact List.getElem_mem hlt
    rw [hc]; simp [orNeg]
theorem findAt_first (q : Nat → Bool) : ∀ (k i j : Nat), findAt q k i = some j → ∀ a, i ≤ a → a < j → q a = false
  | 0, i, j, h, a, _, _ => by simp [findAt] at h
  | k + 1, i, j, h, a, h1, h2 => by
    simp only [findAt] at h
    split at h
    · simp at h; omega
    · rename_i hq
      by_cases he : a = i
      · subst he; simpa using hq
      · exact findAt_first q k (i + 1) j h a (by omega) h2
theorem findAt_congr (q q' : Nat → Bool) : ∀ (k i : Nat), (∀ j, i ≤ j → j < i + k → q j = q' j) → findAt q k i = findAt q' k i
  | 0, i, h => rfl
  | k + 1, i, h => by
    simp only [findAt]
    rw [h i (Nat.le_refl _) (by omega), findAt_congr q q' k (i + 1) (fun j h1 h2 => h j (by omega) (by omega))]
theorem findIdx_findAt (l : List Int) (q : Int → Bool) : l.findIdx q = match findAt (fun i => q (iAt l i)) l.length 0 with | some j => j | none => l.length := by
  cases hq : findAt (fun i => q (iAt l i)) l.length 0 with
  | none =>
    have h := fun j => findAt_none _ _ _ j hq
    simp only
    apply List.findIdx_eq_length.2
    intro x hx
    obtain ⟨j, hj⟩ := List.mem_iff_getElem?.1 hx
    have hlt : j < l.length := (List.getElem?_eq_some_iff.1 hj).1
    have := h j (Nat.zero_le _) (by omega)
    simpa [iAt, hj] using this
  | some j =>
    obtain ⟨h1, h2, h3⟩ := findAt_lt _ _ _ _ hq
    simp only
    have hlt : j < l.length := by omega
    rw [List.findIdx_eq hlt]
    refine ⟨by rw [iAt_lt hlt]; exact h3, fun i hi => ?_⟩
    have hi' : i < l.length := by omega
    rw [iAt_lt hi']
    exact findAt_first _ _ _ _ hq i (Nat.zero_le _) hi
section
variable (X : XEnv)
theorem indexX_eq (hn : X.nat 56 = none) (hc : X.env.code 56 = some v56) (ht : X.lin 56 = []) (l : List Int) (n : Int) (B : Boxs) (hl : l.length ≤ 140737488355328) :
    callX X 56 [.d (is l), .d (.int .i64 n)] B = some (.d (.int .i64 (orNeg (findAt (fun i => n == iAt l i) l.length 0))), B) := by
  rw [z_call X _ _ _ v56 hn hc rfl]
  have h := loopX_upto (X := X) (T := []) (L := B.length) (live := [0, 1, 7, 8]) (b := b56_0) (n := l.length) (st := fun (_ : Unit) i => ⟨[(0, .d (is l)), (1, .d (.int .i64 n)), (7, .d (.int .i64 l.length)), (8, .d (.int .i64 i))], B⟩) (step := stepF fun i => n == iAt l i)
    (F := fun _ => (.exit 0, ⟨[(0, .d (is l)), (1, .d (.int .i64 n)), (7, .d (.int .i64 l.length)), (8, .d (.int .i64 l.length)), (9, .d (.bool false))], B⟩)) (R := fun (j : Nat) => (.ret, ⟨[(4, .d (.int .i64 j))], B⟩))
    (fun a => ⟨by simp, by simp [b56_0, r56_0, r56_1, r56_2, r56_3, r56_4, r56_5, r56_6, r56_7]⟩)
    (fun a i hi => by
      have hw := wrap_succ (n := i) (by omega)
      unfold stepF
      by_cases hq : (n == iAt l i) = true
      · rw [if_pos hq]
        exact ⟨by simp, by simp [b56_0, r56_0, r56_1, r56_2, r56_3, r56_4, r56_5, r56_6, r56_7, hi, hw, cut, iAt_lt hi, hq]⟩
      · rw [if_neg hq]
        have hq' : (n == iAt l i) = false := by simpa using hq
        exact ⟨_, by simp [b56_0, r56_0, r56_1, r56_2, r56_3, r56_4, r56_5, r56_6, r56_7, hi, hw, cut, iAt_lt hi, hq']; rfl, by simp [xheadOf, safeRegs]⟩)
    l.length () 0 ⟨[(0, .d (is l)), (1, .d (.int .i64 n)), (7, .d (.int .i64 l.length)), (8, .d (.int .i64 0))], B⟩ (by omega) (by simp [xheadOf, safeRegs])
  rw [runF] at h
  simp [v56, r56_0, r56_1, r56_2, r56_3, r56_4, r56_5, r56_6, r56_7, ht]
  rw [h]
  cases hq : findAt (fun i => n == iAt l i) l.length 0 <;> simp [orNeg, v56, r56_0, r56_1, r56_2, r56_3, r56_4, r56_5, r56_6, r56_7]
theorem indexFuncX_eq (hn : X.nat 47 = none) (hc : X.env.code 47 = some v47) (ht : X.lin 47 = []) (l : List Int) (fk : Nat) (caps : List AV) (B : Boxs) (P : Int → Bool) (hl : l.length ≤ 140737488355328) (hs : AV.safe.safes B.length caps = true) (hcc : caps.map AV.clr = caps) (hk : X.lin fk = [])
    (hf : ∀ s, s ∈ l → callX X fk (.d (.int .i64 s) :: caps) B = some (.d (.bool (P s)), B)) :
    callX X 47 [.d (is l), .fn fk caps] B = some (.d (.int .i64 (orNeg (findAt (fun i => P (iAt l i)) l.length 0))), B) := by
  rw [z_call X _ _ _ v47 hn hc rfl]
  have h := loopX_upto (X := X) (T := []) (L := B.length) (live := [0, 1, 7, 8]) (b := b47_0) (n := l.length) (st := fun (_ : Unit) i => ⟨[(0, .d (is l)), (1, .fn fk caps), (7, .d (.int .i64 l.length)), (8, .d (.int .i64 i))], B⟩) (step := stepF fun i => P (iAt l i))
    (F := fun _ => (.exit 0, ⟨[(0, .d (is l)), (1, .fn fk caps), (7, .d (.int .i64 l.length)), (8, .d (.int .i64 l.length)), (9, .d (.bool false))], B⟩)) (R := fun (j : Nat) => (.ret, ⟨[(4, .d (.int .i64 j))], B⟩))
    (fun a => ⟨by simp, by simp [b47_0, r47_0, r47_1, r47_2, r47_3, r47_4, r47_5, r47_6, r47_7, hcc]⟩)
    (fun a i hi => by
      have hw := wrap_succ (n := i) (by omega)
      have hc := hf (iAt l i) (by rw [← iAt_lt hi]; exact List.getElem_mem hi)
      unfold stepF
      by_cases hq : P (iAt l i) = true
      · rw [if_pos hq]; rw [hq] at hc
        exact ⟨by simp, by simp [b47_0, r47_0, r47_1, r47_2, r47_3, r47_4, r47_5, r47_6, r47_7, hi, hw, cut, iAt_lt hi, hc, hcc, hk]⟩
      · rw [if_neg hq]
        have hq' : P (iAt l i) = false := by simpa using hq
        rw [hq'] at hc
        exact ⟨_, by simp [b47_0, r47_0, r47_1, r47_2, r47_3, r47_4, r47_5, r47_6, r47_7, hi, hw, cut, iAt_lt hi, hc, hcc, hk]; rfl, by simp [xheadOf, safeRegs, hs]⟩)
    l.length () 0 ⟨[(0, .d (is l)), (1, .fn fk caps), (7, .d (.int .i64 l.length)), (8, .d (.int .i64 0))], B⟩ (by omega) (by simp [xheadOf, safeRegs, hs])
  rw [runF] at h
  simp [v47, r47_0, r47_1, r47_2, r47_3, r47_4, r47_5, r47_6, r47_7, hcc, ht]
  rw [h]
  cases hq : findAt (fun i => P (iAt l i)) l.length 0 <;> simp [orNeg, v47, r47_0, r47_1, r47_2, r47_3, r47_4, r47_5, r47_6, r47_7]
theorem containsX_eq (hn : X.nat 55 = none) (hc : X.env.code 55 = some v55) (ht : X.lin 55 = []) (hn' : X.nat 56 = none) (hc' : X.env.code 56 = some v56) (ht' : X.lin 56 = []) (l : List Int) (n : Int) (hl : l.length ≤ 140737488355328) :
    callX X 55 [.d (is l), .d (.int .i64 n)] [] = some (.d (.bool (l.contains n)), []) := by
  rw [z_call X _ _ _ v55 hn hc rfl]
  have h := indexX_eq X hn' hc' ht' l n [] hl
  have hf := found_contains l n
  simp [v55, r55_0, r55_1, ht, h]
  simpa using hf
theorem numInX_eq (hn0 : X.nat 54 = none) (hc0 : X.env.code 54 = some v54) (ht0 : X.lin 54 = []) (hn : X.nat 55 = none) (hc : X.env.code 55 = some v55) (ht : X.lin 55 = []) (hn' : X.nat 56 = none) (hc' : X.env.code 56 = some v56) (ht' : X.lin 56 = []) (l : List Int) (n : Int) (hl : l.length ≤ 140737488355328) :
    callX X 54 [.d (is l), .d (.int .i64 n)] [] = some (.d (.bool (l.contains n)), []) := by
  rw [z_call X _ _ _ v54 hn0 hc0 rfl]
  have h := containsX_eq X hn hc ht hn' hc' ht' l n hl
  simp [v54, r54_0, r54_1, ht0, h]
theorem gtX_eq (hn : X.nat 108 = none) (hc : X.env.code 108 = some v108) (ht : X.lin 108 = []) (x n : Int) : callX X 108 [.d (.int .i64 x), .ptr 0 0] [some [.d (.int .i64 n)]] = some (.d (.bool (decide (x > n))), [some [.d (.int .i64 n)]]) := by
  rw [z_call X _ _ _ v108 hn hc rfl]
  simp [v108, r108_0, r108_1, ht]
theorem firstGtX_eq (hn : X.nat 47 = none) (hc : X.env.code 47 = some v47) (ht : X.lin 47 = []) (hn' : X.nat 108 = none) (hc' : X.env.code 108 = some v108) (ht' : X.lin 108 = []) (l : List Int) (n : Int) (hl : l.length ≤ 140737488355328) :
    callX X 47 [.d (is l), .fn 108 [.ptr 0 0]] [some [.d (.int .i64 n)]] = some (.d (.int .i64 (orNeg (findAt (fun i => decide (iAt l i > n)) l.length 0))), [some [.d (.int .i64 n)]]) :=
  indexFuncX_eq X hn hc ht l 108 [.ptr 0 0] [some [.d (.int .i64 n)]] (fun x => decide (x > n)) hl (by simp [safe_ptr, safes_nil, safes_cons]) rfl ht' (fun s _ => gtX_eq X hn' hc' ht' s n)
end
end Go.Proofs.Ytficfeekkljoeaa.VS
namespace Go.Proofs.Ytficfeekkljoeaa.VS
set_option linter.unusedVariables false
set_option linter.unusedSimpArgs false
/-! ## A fold over all terms within a term, with what holds of its state -/
def restOf (ks : List T) (i : Nat) : Nat := (ks.length - i) + T.inners (ks.drop i)
theorem restOf_zero (ks : List T) : restOf ks 0 = ks.length + T.inners ks := by simp [restOf]
theorem restOf_step {ks : List T} {i : Nat} (h : i < ks.length) : restOf ks i = (tAt ks i).inner + 1 + restOf ks (i + 1) := by
  unfold restOf
  rw [List.drop_eq_getElem_cons h, tAt_lt h]
  simp only [T.inners]
  omega
mutual
theorem fold_I {σ : Type} {I : Nat → σ → Prop} {e : T → σ → σ} (hI : ∀ n s x, I (n + 1) s → I n (e x s)) : ∀ (t : T) (n : Nat) (s : σ), I (t.inner + 1 + n) s → I n (T.fold e t s)
  | .node f v ks, n, s, h => by
    simp only [T.inner] at h
    simp only [T.fold]
    exact folds_I hI ks n _ (hI _ _ _ (by rw [show ks.length + T.inners ks + n + 1 = ks.length + T.inners ks + 1 + n by omega]; exact h))
theorem folds_I {σ : Type} {I : Nat → σ → Prop} {e : T → σ → σ} (hI : ∀ n s x, I (n + 1) s → I n (e x s)) : ∀ (l : List T) (n : Nat) (s : σ), I (l.length + T.inners l + n) s → I n (T.folds e l s)
  | [], n, s, h => by simpa [T.folds, T.inners] using h
  | t :: r, n, s, h => by
    simp only [T.folds]
    simp only [List.length_cons, T.inners] at h
    exact folds_I hI r n _ (fold_I hI t _ s (by rw [show t.inner + 1 + (r.length + T.inners r + n) = r.length + 1 + (t.inner + T.inners r) + n by omega]; exact h))
end
theorem eachI_of {σ : Type} (I : Nat → σ → Prop) (st : σ → Boxs) (e : T → σ → σ) (k : Nat) (caps : List AV) (m : Nat) (hm : ∀ s, (st s).length = m) (hcs : ∀ n, m ≤ n → AV.safe.safes n caps = true) (hcc : caps.map AV.clr = caps) (hk : ¬ 0 ∈ XV.lin k)
    (hI : ∀ n s x, I (n + 1) s → I n (e x s)) (f v : Int) (ks : List T) (hl : ks.length ≤ 1099511627776)
    (hf : ∀ (x : T) (s : σ) (r : Boxs) (n : Nat), I (n + 1) s → callX XV k (.d (x.enc .sub) :: caps) (st s ++ r) = some (.d (.tup []), st (e x s) ++ r))
    (hrec : ∀ x, x ∈ ks → ∀ (s : σ) (r : Boxs) (n : Nat), I (x.inner + 1 + n) s → callX XV 25 [.d (x.enc .sub), .fn k caps] (st s ++ r) = some (.d (.tup []), st (T.fold e x s) ++ r)) (s : σ) (r : Boxs) (n0 : Nat) (h0 : I (ks.length + T.inners ks + 1 + n0) s) :
    callX XV 25 [.d ((T.node f v ks).enc .sub), .fn k caps] (st s ++ r) = some (.d (.tup []), st (T.fold e (.node f v ks) s) ++ r) := by
  rw [z_call XV _ _ _ v25 rfl xcode_25 rfl]
  have h1I : I (ks.length + T.inners ks + n0) (e (.node f v ks) s) := hI _ _ _ (by rw [show ks.length + T.inners ks + n0 + 1 = ks.length + T.inners ks + 1 + n0 by omega]; exact h0)
  have hf1 := hf (.node f v ks) s (r ++ [some [.d (.int .i64 f), .d (.int .i64 v), .d (terms .sub ks)]]) (ks.length + T.inners ks + n0) (by rw [show ks.length + T.inners ks + n0 + 1 = ks.length + T.inners ks + 1 + n0 by omega]; exact h0)
  have len : ∀ s, (st s ++ r).length = m + r.length := fun s => by simp [hm]
  have hloop := loopX_inv (X := XV) (T := XV.lin 25) (L := m + r.length + 1) (live := [1, 10, 11, 12]) (b := b25_0) (n := ks.length) (γ := Unit) (st := fun (s : σ) i => ⟨[(1, .fn k caps), (10, .d (terms .sub ks)), (11, .d (.int .i64 ks.length)), (12, .d (.int .i64 i))], (st s ++ r) ++ [some [.d (.int .i64 f), .d (.int .i64 v), .d (terms .sub ks)]]⟩) (step := stepE e ks)
    (F := fun s => (.exit 0, ⟨[(1, .fn k caps), (10, .d (terms .sub ks)), (11, .d (.int .i64 ks.length)), (12, .d (.int .i64 ks.length)), (13, .d (.bool false))], (st s ++ r) ++ [some [.d (.int .i64 f), .d (.int .i64 v), .d (terms .sub ks)]]⟩)) (R := fun _ => (.ret, ⟨[], []⟩))
    (fun s i => I (restOf ks i + n0) s)
    (fun s _ => ⟨by simp, by simp [b25_0, r25_3, hcc]⟩)
    (fun s i hi hIn => by
      have hsplit := restOf_step hi
      rw [show restOf ks i + n0 = (tAt ks i).inner + 1 + (restOf ks (i + 1) + n0) by omega] at hIn
      have hnext := fold_I hI (tAt ks i) _ s hIn
      refine ⟨?_, fun a' ha' => by unfold stepE at ha'; simp only [Sum.inl.injEq] at ha'; subst ha'; exact hnext⟩
      have hw := wrap_succ (n := i) (by omega)
      have hr := hrec _ (tAt_mem hi) s (r ++ [some [.d (.int .i64 f), .d (.int .i64 v), .d (terms .sub ks)], some [.d (.int .i64 (tAt ks i).f), .d (.int .i64 (tAt ks i).v), .d (terms .sub (tAt ks i).kids)]]) _ hIn
      have hln := len s
      have hln2 := len (T.fold e (tAt ks i) s)
      simp only [← List.append_assoc] at hr
      generalize hB : st s ++ r = B at hr hln
      generalize hB' : st (T.fold e (tAt ks i) s) ++ r = B' at hr hln2
      unfold stepE
      refine ⟨⟨[(1, .fn k caps), (10, .d (terms .sub ks)), (11, .d (.int .i64 ks.length)), (12, .d (.int .i64 (i + 1 : Nat)))], B' ++ [some [.d (.int .i64 f), .d (.int .i64 v), .d (terms .sub ks)], some [.d (.int .i64 (tAt ks i).f), .d (.int .i64 (tAt ks i).v), .d (terms .sub (tAt ks i).kids)]]⟩, ?_, ?_⟩
      · simp [b25_0, r25_3, r25_4, r25_5, r25_6, hi, hw, cut, tAt_lt hi, hcc, hr, set_at, get_at, set_at1, get_at1, splice]
      · refine head_cut (e := [some [.d (.int .i64 (tAt ks i).f), .d (.int .i64 (tAt ks i).v), .d (terms .sub (tAt ks i).kids)]]) (by simp) (by simp [safeRegs, hcs _ (show m ≤ m + r.length + 1 by omega)]) (by simp [hln2, hB']) (by simp [← hB']))
    ks.length (e (.node f v ks) s) 0 ⟨[(1, .fn k caps), (10, .d (terms .sub ks)), (11, .d (.int .i64 ks.length)), (12, .d (.int .i64 0))], (st (e (.node f v ks) s) ++ r) ++ [some [.d (.int .i64 f), .d (.int .i64 v), .d (terms .sub ks)]]⟩ (by omega) (by rw [restOf_zero]; exact h1I) (head_cut (e := []) (by simp) (by simp [safeRegs, hcs _ (show m ≤ m + r.length + 1 by omega)]) (by simp [hm]; omega) (by simp))
  rw [runE e ks _ _ _ (by omega)] at hloop
  simp only [List.drop_zero] at hloop
  have hl0 := len s
  have hl1 := len (e (.node f v ks) s)
  have hl2 : (st (T.fold e (.node f v ks) s) ++ r).length = m + r.length := len _
  have hfin : T.folds e ks (e (.node f v ks) s) = T.fold e (.node f v ks) s := by simp [T.fold]
  rw [hfin] at hloop
  simp only [← List.append_assoc] at hf1
  generalize hB0 : st s ++ r = B0 at hf1 hl0
  generalize hB1 : st (e (.node f v ks) s) ++ r = B1 at hf1 hl1 hloop
  generalize hB2 : st (T.fold e (.node f v ks) s) ++ r = B2 at hl2 hloop
  have hlen : B1.length = B0.length := by omega
  rw [← hl1] at hloop
  simp only [terms, lin_25] at hf1 hloop
  simp [v25, r25_0, r25_1, r25_2, set_at, get_at, hf1, hcc, hk, hlen.symm]
  rw [hloop]
  simp [show B1.length = B2.length by omega]
theorem eachI_eq {σ : Type} (I : Nat → σ → Prop) (st : σ → Boxs) (e : T → σ → σ) (k : Nat) (caps : List AV) (m : Nat) (hm : ∀ s, (st s).length = m) (hcs : ∀ n, m ≤ n → AV.safe.safes n caps = true) (hcc : caps.map AV.clr = caps) (hk : ¬ 0 ∈ XV.lin k)
    (hI : ∀ n s x, I (n + 1) s → I n (e x s)) (hf : ∀ (x : T) (s : σ) (r : Boxs) (n : Nat), I (n + 1) s → callX XV k (.d (x.enc .sub) :: caps) (st s ++ r) = some (.d (.tup []), st (e x s) ++ r)) (t : T) (ht : t.inner ≤ 1099511627776) (s : σ) (r : Boxs) (n : Nat) (h0 : I (t.inner + 1 + n) s) :
    callX XV 25 [.d (t.enc .sub), .fn k caps] (st s ++ r) = some (.d (.tup []), st (T.fold e t s) ++ r) := by
  match t, ht with
  | .node f v ks, ht =>
    simp only [T.inner] at ht h0
    exact eachI_of I st e k caps m hm hcs hcc hk hI f v ks (by omega) hf (fun x hx s r n hn => eachI_eq I st e k caps m hm hcs hcc hk hI hf x (by have := T.inners_mem hx; omega) s r n hn) s r n h0
termination_by t
decreasing_by
  simp_wf
  have := List.sizeOf_lt_of_mem hx
  omega
/-! ## A number put into a list, both -/
theorem xnat_106 : XV.nat 106 = some numAddD := rfl
theorem implNumAdd_eq (g : Tag) (l : List Int) (n : Int) (B : Boxs) (hl : l.length ≤ 1099511627777) : callX XV 106 [.d (.sl g (l.map (.int .i64))), .d (.int .i64 n)] B = some (.d (.sl U ((numAddL l n).map (.int .i64))), B) := by
  rw [callX_nat XV 106 _ _ _ xnat_106]
  have h : (l.length + 1) * 8 ≤ 140737488355328 := by omega
  simp [datas, numAddD, intsOf_map, h, U]
theorem numAddL_len (l : List Int) (n : Int) : (numAddL l n).length ≤ l.length + 1 := by
  unfold numAddL
  split
  · omega
  · simp [numAt]; have := List.findIdx_le_length (p := fun x => decide (x > n)) (xs := l); omega
theorem specNumIn_eq (l : List Int) (n : Int) (hl : l.length ≤ 2199023255552) : callX XV 53 [.d (is l), .d (.int .i64 n)] [] = some (.d (.bool (l.contains n)), []) := by
  rw [z_call XV _ _ _ v53 rfl xcode_53 rfl]
  have h := loopX_upto (X := XV) (T := []) (L := 0) (live := [0, 1, 5]) (b := b53_0) (n := l.length) (st := fun (_ : Unit) i => ⟨[(0, .d (is l)), (1, .d (.int .i64 n)), (5, .d (.int .i64 i))], []⟩) (step := stepF fun i => iAt l i == n)
    (F := fun _ => (.exit 0, ⟨[(0, .d (is l)), (1, .d (.int .i64 n)), (5, .d (.int .i64 l.length)), (9, .d (.bool false))], []⟩)) (R := fun (j : Nat) => (.ret, ⟨[(4, .d (.bool true))], []⟩))
    (fun a => ⟨by simp, by simp [b53_0, r53_0, r53_1, r53_2, r53_4, r53_5, r53_3, r53_6]⟩)
    (fun a i hi => by
      have hw := wrap_succ (n := i) (by omega)
      unfold stepF
      by_cases hq : (iAt l i == n) = true
      · rw [if_pos hq]
        exact ⟨by simp, by simp [b53_0, r53_0, r53_1, r53_2, r53_4, r53_5, r53_3, r53_6, hi, hw, cut, iAt_lt hi, hq]⟩
      · rw [if_neg hq]
        have hq' : (iAt l i == n) = false := by simpa using hq
        exact ⟨_, by simp [b53_0, r53_0, r53_1, r53_2, r53_4, r53_5, r53_3, r53_6, hi, hw, cut, iAt_lt hi, hq']; rfl, by simp [xheadOf, safeRegs]⟩)
    l.length () 0 ⟨[(0, .d (is l)), (1, .d (.int .i64 n)), (5, .d (.int .i64 0))], []⟩ (by omega) (by simp [xheadOf, safeRegs])
  rw [runF] at h
  have hc := found_contains l n
  have hcomm : (fun i => n == iAt l i) = fun i => iAt l i == n := by funext i; exact Bool.beq_comm
  rw [hcomm] at hc
  simp [v53, r53_0, r53_1, r53_2, r53_4, r53_5, r53_3, r53_6]
  rw [h]
  cases hq : findAt (fun i => iAt l i == n) l.length 0 with
  | none => rw [hq] at hc; simp [orNeg] at hc; simp [v53, r53_0, r53_1, r53_2, r53_4, r53_5, r53_3, r53_6, hc]
  | some j => rw [hq] at hc; simp [orNeg] at hc; simp [v53, r53_0, r53_1, r53_2, r53_4, r53_5, r53_3, r53_6, hc]
theorem all_one (l : List Int) : (l.map (DV.int .i64)).all (fun e => decide (e.cells.length = 1)) = true := by simp [cells_int]
theorem all_cell (l : List Int) : (l.map (DV.int .i64)).all (fun e => decide (e.cells.length = 1 ∧ e.cells.all DV.isCell = true)) = true := by simp [cells_int, isCell_int]
theorem app_ints (a b : List Int) (g : Tag) (h : (a.length + b.length) * 8 ≤ 140737488355328) : xappend 1 8 (.sl U (a.map (.int .i64))) (.sl g (b.map (.int .i64))) = some (.sl U ((a ++ b).map (.int .i64))) := by
  unfold xappend
  simp only
  rw [if_pos (all_cell b)]
  cases b with
  | nil => simp
  | cons x r =>
    simp only [List.map_cons, List.isEmpty_cons, Bool.false_eq_true, if_false]
    rw [if_pos ⟨by simpa using h, trivial, all_one a⟩]
    simp
theorem specNumAdd_eq (l : List Int) (n : Int) (hl : l.length ≤ 2199023255552) : callX XV 112 [.d (is l), .d (.int .i64 n)] [] = some (.d (.sl U ((numAddL l n).map (.int .i64))), []) := by
  rw [z_call XV _ _ _ v112 rfl xcode_112 rfl]
  have hin := specNumIn_eq l n hl
  by_cases hc : l.contains n = true
  · rw [hc] at hin
    have ha := app_ints [] l .sub (by simp; omega)
    have hr : numAddL l n = l := by unfold numAddL; rw [if_pos hc]
    simp only [List.map_nil, List.nil_append] at ha
    rw [hr]
    simp [v112, r112_0, r112_1, r112_2, r112_3, r112_4, r112_5, r112_6, r112_7, r112_8, hin, ha]
  · have hc' : l.contains n = false := by simpa using hc
    rw [hc'] at hin
    have h := loopX_upto (X := XV) (T := XV.lin 112) (L := 0) (live := [0, 1, 5]) (b := b112_0) (n := l.length) (st := fun (_ : Unit) i => ⟨[(0, .d (is l)), (1, .d (.int .i64 n)), (5, .d (.int .i64 i))], []⟩) (step := stepF fun i => !decide (iAt l i < n))
      (F := fun _ => (.exit 0, ⟨[(0, .d (is l)), (1, .d (.int .i64 n)), (5, .d (.int .i64 l.length)), (24, .d (.bool false))], []⟩)) (R := fun (j : Nat) => (.exit 0, ⟨[(0, .d (is l)), (1, .d (.int .i64 n)), (5, .d (.int .i64 j)), (24, .d (.bool false))], []⟩))
      (fun a => ⟨by simp, by simp [b112_0, r112_0, r112_1, r112_2, r112_3, r112_4, r112_5, r112_6, r112_7, r112_8]⟩)
      (fun a i hi => by
        have hw := wrap_succ (n := i) (by omega)
        unfold stepF
        by_cases hq : iAt l i < n
        · rw [if_neg (by simp [hq])]
          exact ⟨_, by simp [b112_0, r112_0, r112_1, r112_2, r112_3, r112_4, r112_5, r112_6, r112_7, r112_8, hi, hw, cut, iAt_lt hi, hq]; rfl, by simp [xheadOf, safeRegs]⟩
        · rw [if_pos (by simp [hq])]
          exact ⟨by simp, by simp [b112_0, r112_0, r112_1, r112_2, r112_3, r112_4, r112_5, r112_6, r112_7, r112_8, hi, hw, cut, iAt_lt hi, hq]⟩)
      l.length () 0 ⟨[(0, .d (is l)), (1, .d (.int .i64 n)), (5, .d (.int .i64 0))], []⟩ (by omega) (by simp [xheadOf, safeRegs])
    rw [runF] at h
    have hat : ∃ at_ : Nat, at_ = numAt l n ∧ at_ ≤ l.length ∧ loopX XV (XV.lin 112) 0 [0, 1, 5] b112_0 ⟨[(0, .d (is l)), (1, .d (.int .i64 n)), (5, .d (.int .i64 0))], []⟩ = some (.exit 0, ⟨[(0, .d (is l)), (1, .d (.int .i64 n)), (5, .d (.int .i64 at_)), (24, .d (.bool false))], []⟩) := by
      have hq : numAt l n = match findAt (fun i => !decide (iAt l i < n)) l.length 0 with | some j => j | none => l.length := by
        unfold numAt
        rw [findIdx_findAt]
        have : findAt (fun i => decide (iAt l i > n)) l.length 0 = findAt (fun i => !decide (iAt l i < n)) l.length 0 := by
          refine findAt_congr _ _ _ _ fun j h1 h2 => ?_
          have hlt : j < l.length := by omega
          have hne : iAt l j ≠ n := by
            intro he
            rw [← iAt_lt hlt] at he
            rw [← he] at hc'
            have := List.getElem_mem hlt
            rw [← List.contains_iff_mem] at this
            rw [hc'] at this; simp at this
          rw [Bool.eq_iff_iff]; simp; omega
        rw [this]
        try (cases findAt (fun i => !decide (iAt l i < n)) l.length 0 <;> rfl)
      refine ⟨numAt l n, rfl, List.findIdx_le_length, ?_⟩
      rw [h, hq]
      cases findAt (fun i => !decide (iAt l i < n)) l.length 0 <;> rfl
    obtain ⟨k, hk, hkl, hloop⟩ := hat
    have hr : numAddL l n = l.take k ++ [n] ++ l.drop k := by unfold numAddL; rw [if_neg hc, ← hk]; simp
    have a1 := app_ints [] (l.take k) .sub (by simp; omega)
    have a2 := app_ints (l.take k) [n] U (by simp; omega)
    have a3 := app_ints (l.take k ++ [n]) (l.drop k) .sub (by simp; omega)
    simp only [List.map_nil, List.nil_append, List.map_take, List.map_drop, List.map_append, List.map_cons] at a1 a2 a3
    rw [hr]
    have hal := all_one l
    have hk0 : (k : Int) ≤ l.length := by omega
    simp only [lin_112] at hloop
    simp [v112, r112_0, r112_1, r112_2, r112_3, r112_4, r112_5, r112_6, r112_7, r112_8, hin]
    rw [hloop]
    have ht : List.take l.length (l.map (DV.int .i64)) = l.map (DV.int .i64) := List.take_of_length_le (by simp)
    simp [v112, r112_0, r112_1, r112_2, r112_3, r112_4, r112_5, r112_6, r112_7, r112_8, hal, hkl, hk0, a1, a2, a3, ht]
/-! ## The variables of a term, both -/
def eV (x : T) (l : List Int) : List Int := if x.f = -1 then numAddL l x.v else l
def IV (n : Nat) (l : List Int) : Prop := l.length + n ≤ 1099511627778
theorem eV_I (n : Nat) (l : List Int) (x : T) (h : IV (n + 1) l) : IV n (eV x l) := by
  unfold IV eV at *
  have := numAddL_len l x.v
  split <;> omega
def varsL (t : T) : List Int := T.fold eV t []
theorem varsL_len (t : T) (ht : t.inner ≤ 1099511627776) : (varsL t).length ≤ 1099511627778 := by
  have := fold_I (I := IV) eV_I t 0 [] (by simp [IV]; omega)
  unfold IV at this
  exact this
theorem implVarsOf_eq (t : T) (ht : t.inner ≤ 1099511627776) : callX XV 104 [.d (t.enc .sub)] [] = some (.d (.sl U ((varsL t).map (.int .i64))), []) := by
  rw [z_call XV _ _ _ v104 rfl xcode_104 rfl]
  have key := eachI_eq IV (fun l : List Int => [some [.d (.int .i64 t.f), .d (.int .i64 t.v), .d (terms .sub t.kids)], some [.d (.sl U (l.map (.int .i64)))]]) eV 105 [.ptr 1 0] 2 (fun _ => rfl) (fun n hn => by simp; omega) rfl (by simp) eV_I (fun x l r n hn => by
      rw [z_call XV _ _ _ v105 rfl xcode_105 rfl]
      obtain ⟨xf, xv, xk⟩ := x
      have hv := isVar_eq (.node xf xv xk)
      simp only [T.f_node] at hv
      have hle : l.length ≤ 1099511627777 := by unfold IV at hn; omega
      unfold eV
      simp only [T.f_node, T.v_node]
      by_cases h1 : xf = -1
      · subst h1
        simp only [BEq.rfl] at hv
        have ha := implNumAdd_eq .sub l xv [] hle
        simp [v105, r105_0, r105_1, r105_2, hv, splice, ha]
      · have b1 : (xf == -1) = false := by simp [h1]
        rw [b1] at hv
        simp [v105, r105_0, r105_1, r105_2, hv, h1, splice]) t ht [] [] 0 (by simp [IV]; omega)
  simp only [List.append_nil, terms, List.map_nil] at key
  simp [v104, r104_0, r104_1, r104_2, r104_3, splice, key, varsL]
theorem specVars_of (f v : Int) (ks : List T) (hl : ks.length ≤ 1099511627776) (n0 : Nat)
    (hrec : ∀ s, s ∈ ks → ∀ (l : List Int) (n : Nat), IV (s.inner + 1 + n) l → callX XV 111 [.d (s.enc .sub), .d (is l)] [] = some (.d (is (T.fold eV s l)), [])) (l : List Int) (h0 : IV (ks.length + T.inners ks + 1 + n0) l) :
    callX XV 111 [.d ((T.node f v ks).enc .sub), .d (is l)] [] = some (.d (is (T.fold eV (.node f v ks) l)), []) := by
  rw [z_call XV _ _ _ v111 rfl xcode_111 rfl]
  have h1I : IV (ks.length + T.inners ks + n0) (eV (.node f v ks) l) := eV_I _ _ _ (by rw [show ks.length + T.inners ks + n0 + 1 = ks.length + T.inners ks + 1 + n0 by omega]; exact h0)
  have h := loopX_inv (X := XV) (T := XV.lin 111) (L := 1) (live := [1, 2, 5]) (b := b111_0) (n := ks.length) (γ := Unit) (st := fun (l : List Int) i => ⟨[(1, .d (is l)), (2, .ptr 0 0), (5, .d (.int .i64 i))], [some [.d (.int .i64 f), .d (.int .i64 v), .d (terms .sub ks)]]⟩) (step := stepE eV ks)
    (F := fun l => (.exit 0, ⟨[(1, .d (is l)), (2, .ptr 0 0), (5, .d (.int .i64 ks.length)), (17, .d (.bool false))], [some [.d (.int .i64 f), .d (.int .i64 v), .d (terms .sub ks)]]⟩)) (R := fun r => (.ret, ⟨[], []⟩))
    (fun l i => IV (restOf ks i + n0) l)
    (fun _ _ => ⟨by simp, by simp [b111_0, r111_0, r111_1, r111_2, r111_3, r111_4, r111_6, r111_5, r111_7]⟩)
    (fun l i hi hIn => by
      have hw := wrap_succ (n := i) (by omega)
      have hsplit := restOf_step hi
      rw [show restOf ks i + n0 = (tAt ks i).inner + 1 + (restOf ks (i + 1) + n0) by omega] at hIn
      have hnext := fold_I eV_I (tAt ks i) _ l hIn
      have hc := hrec _ (tAt_mem hi) l _ hIn
      refine ⟨?_, fun a' ha' => by unfold stepE at ha'; simp only [Sum.inl.injEq] at ha'; subst ha'; exact hnext⟩
      exact ⟨_, by simp [b111_0, r111_0, r111_1, r111_2, r111_3, r111_4, r111_6, r111_5, r111_7, hi, hw, cut, tAt_lt hi, hc]; rfl, by simp [xheadOf, safeRegs]⟩)
    ks.length (eV (.node f v ks) l) 0 ⟨[(1, .d (is (eV (.node f v ks) l))), (2, .ptr 0 0), (5, .d (.int .i64 0))], [some [.d (.int .i64 f), .d (.int .i64 v), .d (terms .sub ks)]]⟩ (by omega) (by rw [restOf_zero]; exact h1I) (by simp [xheadOf, safeRegs])
  rw [runE eV ks _ _ _ (by omega)] at h
  have hfin : T.folds eV ks (eV (.node f v ks) l) = T.fold eV (.node f v ks) l := by simp [T.fold]
  simp only [List.drop_zero, terms, lin_111, hfin] at h
  have hle : l.length ≤ 1099511627777 := by unfold IV at h0; omega
  have ha := specNumAdd_eq l v (by omega)
  by_cases c1 : f = -1
  · subst c1
    have he : eV (.node (-1) v ks) l = numAddL l v := by simp [eV]
    rw [he] at h
    simp [v111, r111_0, r111_1, r111_2, r111_3, r111_4, r111_6, r111_5, r111_7, ha]
    rw [h]
    simp [v111, r111_0, r111_1, r111_2, r111_3, r111_4, r111_6, r111_5, r111_7]
  · have he : eV (.node f v ks) l = l := by simp [eV, c1]
    have b1 : (f == -1) = false := by simp [c1]
    rw [he] at h
    simp [v111, r111_0, r111_1, r111_2, r111_3, r111_4, r111_6, r111_5, r111_7, b1]
    rw [h]
    simp [v111, r111_0, r111_1, r111_2, r111_3, r111_4, r111_6, r111_5, r111_7]
theorem specVars_eq (t : T) (ht : t.inner ≤ 1099511627776) (l : List Int) (n : Nat) (h0 : IV (t.inner + 1 + n) l) : callX XV 111 [.d (t.enc .sub), .d (is l)] [] = some (.d (is (T.fold eV t l)), []) := by
  match t, ht with
  | .node f v ks, ht =>
    simp only [T.inner] at ht h0
    exact specVars_of f v ks (by omega) n (fun s hs l n h => specVars_eq s (by have := T.inners_mem hs; omega) l n h) l h0
termination_by t
decreasing_by
  simp_wf
  have := List.sizeOf_lt_of_mem hs
  omega
theorem specVarsOf_eq (t : T) (ht : t.inner ≤ 1099511627776) : callX XV 110 [.d (t.enc .sub)] [] = some (.d (is (varsL t)), []) := by
  rw [z_call XV _ _ _ v110 rfl xcode_110 rfl]
  have h := specVars_eq t ht [] 0 (by simp [IV]; omega)
  obtain ⟨f, v, ks⟩ := t
  simp only [List.map_nil, is] at h
  simp [v110, r110_0, r110_1, h, varsL]
theorem implGround_eq (t : T) (ht : t.inner ≤ 1099511627776) : callX XV 103 [.d (t.enc .sub)] [] = some (.d (.bool ((varsL t).length == 0)), []) := by
  rw [z_call XV _ _ _ v103 rfl xcode_103 rfl]
  have h := implVarsOf_eq t ht
  obtain ⟨f, v, ks⟩ := t
  simp [v103, r103_0, r103_1, h]
  rw [Bool.eq_iff_iff]; simp
theorem specGround_eq (t : T) (ht : t.inner ≤ 1099511627776) : callX XV 102 [.d (t.enc .sub)] [] = some (.d (.bool ((varsL t).length == 0)), []) := by
  rw [z_call XV _ _ _ v102 rfl xcode_102 rfl]
  have h := specVarsOf_eq t ht
  obtain ⟨f, v, ks⟩ := t
  simp [v102, r102_0, r102_1, h]
  rw [Bool.eq_iff_iff]; simp
end Go.Proofs.Ytficfeekkljoeaa.VS
namespace Go.Proofs.Ytficfeekkljoeaa.VS
set_option linter.unusedVariables false
set_option linter.unusedSimpArgs false
def wW (l : List SymL) (x : T) : Int := if blindB l x.f = true ∧ 0 < x.kids.length then (x.kids.length : Int) - 1 else 1
def cellsT (f v : Int) (ks : List T) : Boxs := [some [.d (.int .i64 f), .d (.int .i64 v), .d (terms .sub ks)]]
theorem implWeight_of (l : List SymL) (hs : l.length ≤ 1099511627776) (f v : Int) (ks : List T) (hl : ks.length ≤ 1099511627776) (hrec : ∀ s, s ∈ ks → callX XV 118 [.d (sg l), .d (s.enc .sub)] [] = some (.d (.int .i64 (IntKind.i64.wrap (T.sum (wW l) s))), [])) :
    callX XV 118 [.d (sg l), .d ((T.node f v ks).enc .sub)] [] = some (.d (.int .i64 (IntKind.i64.wrap (T.sum (wW l) (.node f v ks)))), []) := by
  rw [z_call XV _ _ _ v118 rfl xcode_118 rfl]
  have h := fun m => loopX_upto (X := XV) (T := XV.lin 118) (L := 1) (live := [0, 5, 23, 24, 25]) (b := b118_0) (n := ks.length) (γ := Unit) (st := fun (m : Int) i => ⟨[(0, .d (sg l)), (5, .d (.int .i64 m)), (23, .d (terms .sub ks)), (24, .d (.int .i64 ks.length)), (25, .d (.int .i64 i))], cellsT f v ks⟩) (step := stepA (fun t => IntKind.i64.wrap (T.sum (wW l) t)) ks)
    (F := fun m => (.exit 0, ⟨[(0, .d (sg l)), (5, .d (.int .i64 m)), (23, .d (terms .sub ks)), (24, .d (.int .i64 ks.length)), (25, .d (.int .i64 ks.length)), (26, .d (.bool false))], cellsT f v ks⟩)) (R := fun r => (.ret, ⟨[], []⟩))
    (fun _ => ⟨by simp, by simp [b118_0, r118_0, r118_1, r118_2, r118_3, r118_4, r118_5, r118_6, r118_7, r118_8, r118_9]⟩)
    (fun m i hi => by
      have hw := wrap_succ (n := i) (by omega)
      have hc := hrec _ (tAt_mem hi)
      unfold cellsT
      exact ⟨_, by simp [b118_0, r118_0, r118_1, r118_2, r118_3, r118_4, r118_5, r118_6, r118_7, r118_8, r118_9, hi, hw, cut, tAt_lt hi, hc, splice]; rfl, by simp [xheadOf, safeRegs]⟩)
    ks.length (IntKind.i64.wrap m) 0 ⟨[(0, .d (sg l)), (5, .d (.int .i64 (IntKind.i64.wrap m))), (23, .d (terms .sub ks)), (24, .d (.int .i64 ks.length)), (25, .d (.int .i64 0))], cellsT f v ks⟩ (by omega) (by simp [xheadOf, safeRegs, cellsT])
  have h' := fun m => by
    have := h m
    rw [runA _ _ _ _ _ (by omega)] at this
    simpa only [List.drop_zero, terms, cellsT, lin_118] using this
  have hs2 : T.sum (wW l) (T.node f v ks) = wW l (.node f v ks) + T.sums (wW l) ks := by simp [T.sum]
  have hb := implBlind_eq l hs f
  have hw1 : IntKind.i64.wrap ((ks.length : Int) - 1) = ks.length - 1 := wrap_i64 (by omega) (by omega)
  rw [hs2]
  have h1 := h' 1
  rw [show IntKind.i64.wrap 1 = 1 from rfl] at h1
  have h2 := h' (ks.length - 1)
  rw [hw1] at h2
  simp only [wW, T.f_node, T.kids_node]
  by_cases c1 : blindB l f = true
  case neg =>
    have c1' : blindB l f = false := by simpa using c1
    rw [c1'] at hb
    simp only [c1', Bool.false_eq_true, false_and, if_false]
    simp [v118, r118_0, r118_1, r118_2, r118_3, r118_4, r118_5, r118_6, r118_7, r118_8, r118_9, hb]
    rw [h1]
    simp [v118, r118_0, r118_1, r118_2, r118_3, r118_4, r118_5, r118_6, r118_7, r118_8, r118_9]
  case pos =>
    rw [c1] at hb
    simp only [c1, true_and]
    by_cases c2 : 0 < ks.length
    · simp [v118, r118_0, r118_1, r118_2, r118_3, r118_4, r118_5, r118_6, r118_7, r118_8, r118_9, hb, c2, hw1]
      rw [h2]
      simp [v118, r118_0, r118_1, r118_2, r118_3, r118_4, r118_5, r118_6, r118_7, r118_8, r118_9]
    · simp [v118, r118_0, r118_1, r118_2, r118_3, r118_4, r118_5, r118_6, r118_7, r118_8, r118_9, hb, c2]
      rw [h1]
      simp [v118, r118_0, r118_1, r118_2, r118_3, r118_4, r118_5, r118_6, r118_7, r118_8, r118_9]
theorem implWeight_eq (l : List SymL) (hs : l.length ≤ 1099511627776) (t : T) (ht : t.inner ≤ 1099511627776) : callX XV 118 [.d (sg l), .d (t.enc .sub)] [] = some (.d (.int .i64 (IntKind.i64.wrap (T.sum (wW l) t))), []) := by
  match t, ht with
  | .node f v ks, ht =>
    simp only [T.inner] at ht
    exact implWeight_of l hs f v ks (by omega) (fun s h => implWeight_eq l hs s (by have := T.inners_mem h; omega))
termination_by t
decreasing_by
  simp_wf
  have := List.sizeOf_lt_of_mem h
  omega
theorem specWeight_of (l : List SymL) (hs : l.length ≤ 1099511627776) (f v : Int) (ks : List T) (hl : ks.length ≤ 1099511627776) (hrec : ∀ s, s ∈ ks → callX XV 117 [.d (sg l), .d (s.enc .sub)] [] = some (.d (.int .i64 (IntKind.i64.wrap (T.sum (wW l) s))), [])) :
    callX XV 117 [.d (sg l), .d ((T.node f v ks).enc .sub)] [] = some (.d (.int .i64 (IntKind.i64.wrap (T.sum (wW l) (.node f v ks)))), []) := by
  rw [z_call XV _ _ _ v117 rfl xcode_117 rfl]
  have h := fun m => loopX_upto (X := XV) (T := []) (L := 1) (live := [0, 3, 5, 6]) (b := b117_0) (n := ks.length) (γ := Unit) (st := fun (m : Int) i => ⟨[(0, .d (sg l)), (3, .ptr 0 0), (5, .d (.int .i64 m)), (6, .d (.int .i64 i))], cellsT f v ks⟩) (step := stepA (fun t => IntKind.i64.wrap (T.sum (wW l) t)) ks)
    (F := fun m => (.exit 0, ⟨[(0, .d (sg l)), (3, .ptr 0 0), (5, .d (.int .i64 m)), (6, .d (.int .i64 ks.length)), (25, .d (.bool false))], cellsT f v ks⟩)) (R := fun r => (.ret, ⟨[], []⟩))
    (fun _ => ⟨by simp, by simp [b117_0, r117_0, r117_1, r117_2, r117_3, r117_4, r117_5, r117_7, r117_6, r117_8, cellsT]⟩)
    (fun m i hi => by
      have hw := wrap_succ (n := i) (by omega)
      have hc := hrec _ (tAt_mem hi)
      unfold cellsT
      exact ⟨_, by simp [b117_0, r117_0, r117_1, r117_2, r117_3, r117_4, r117_5, r117_7, r117_6, r117_8, hi, hw, cut, tAt_lt hi, hc, splice]; rfl, by simp [xheadOf, safeRegs]⟩)
    ks.length (IntKind.i64.wrap m) 0 ⟨[(0, .d (sg l)), (3, .ptr 0 0), (5, .d (.int .i64 (IntKind.i64.wrap m))), (6, .d (.int .i64 0))], cellsT f v ks⟩ (by omega) (by simp [xheadOf, safeRegs, cellsT])
  have h' := fun m => by
    have := h m
    rw [runA _ _ _ _ _ (by omega)] at this
    simpa only [List.drop_zero, terms, cellsT] using this
  have hs2 : T.sum (wW l) (T.node f v ks) = wW l (.node f v ks) + T.sums (wW l) ks := by simp [T.sum]
  have hb := specBlind_eq l hs f
  have hw1 : IntKind.i64.wrap ((ks.length : Int) - 1) = ks.length - 1 := wrap_i64 (by omega) (by omega)
  rw [hs2]
  have h1 := h' 1
  rw [show IntKind.i64.wrap 1 = 1 from rfl] at h1
  have h2 := h' (ks.length - 1)
  rw [hw1] at h2
  simp only [wW, T.f_node, T.kids_node]
  by_cases c1 : blindB l f = true
  case neg =>
    have c1' : blindB l f = false := by simpa using c1
    rw [c1'] at hb
    simp only [c1', Bool.false_eq_true, false_and, if_false]
    simp [v117, r117_0, r117_1, r117_2, r117_3, r117_4, r117_5, r117_7, r117_6, r117_8, hb]
    rw [h1]
    simp [v117, r117_0, r117_1, r117_2, r117_3, r117_4, r117_5, r117_7, r117_6, r117_8]
  case pos =>
    rw [c1] at hb
    simp only [c1, true_and]
    by_cases c2 : 0 < ks.length
    · simp [v117, r117_0, r117_1, r117_2, r117_3, r117_4, r117_5, r117_7, r117_6, r117_8, hb, c2, hw1]
      rw [h2]
      simp [v117, r117_0, r117_1, r117_2, r117_3, r117_4, r117_5, r117_7, r117_6, r117_8]
    · simp [v117, r117_0, r117_1, r117_2, r117_3, r117_4, r117_5, r117_7, r117_6, r117_8, hb, c2]
      rw [h1]
      simp [v117, r117_0, r117_1, r117_2, r117_3, r117_4, r117_5, r117_7, r117_6, r117_8]
theorem specWeight_eq (l : List SymL) (hs : l.length ≤ 1099511627776) (t : T) (ht : t.inner ≤ 1099511627776) : callX XV 117 [.d (sg l), .d (t.enc .sub)] [] = some (.d (.int .i64 (IntKind.i64.wrap (T.sum (wW l) t))), []) := by
  match t, ht with
  | .node f v ks, ht =>
    simp only [T.inner] at ht
    exact specWeight_of l hs f v ks (by omega) (fun s h => specWeight_eq l hs s (by have := T.inners_mem h; omega))
termination_by t
decreasing_by
  simp_wf
  have := List.sizeOf_lt_of_mem h
  omega
end Go.Proofs.Ytficfeekkljoeaa.VS
namespace Go.Proofs.Ytficfeekkljoeaa.VS
set_option linter.unusedVariables false
set_option linter.unusedSimpArgs false
theorem implBefore_eq (a b : T) (ha : a.inner ≤ 1099511627776) (hb : b.inner ≤ 1099511627776) : callX XV 79 [.d (a.enc .sub), .d (b.enc .sub)] [] = some (.d (.bool (decide (T.cmp a b < 0))), []) := by
  rw [z_call XV _ _ _ v79 rfl xcode_79 rfl]
  have h := compare_eq a b ha hb
  simp [v79, r79_0, r79_1, h]
theorem specBefore_of (f v : Int) (ks : List T) (f' v' : Int) (ks' : List T) (hl : ks.length ≤ 1099511627776) (hl' : ks'.length ≤ 1099511627776)
    (hsame : ∀ s s', s ∈ ks → s' ∈ ks' → callX XV 3 [.d (s.enc .sub), .d (s'.enc .sub)] [] = some (.d (.bool (T.cmp s s' == 0)), []))
    (hrec : ∀ s s', s ∈ ks → s' ∈ ks' → callX XV 84 [.d (s.enc .sub), .d (s'.enc .sub)] [] = some (.d (.bool (decide (T.cmp s s' < 0))), [])) :
    callX XV 84 [.d ((T.node f v ks).enc .sub), .d ((T.node f' v' ks').enc .sub)] [] = some (.d (.bool (decide (T.cmp (.node f v ks) (.node f' v' ks') < 0))), []) := by
  rw [z_call XV _ _ _ v84 rfl xcode_84 rfl]
  rw [cmp_node]
  by_cases c1 : f = f'
  case neg =>
    have b1 : (f != f') = true := by simp [c1]
    have e : decide (cmpP f f' v v' ks.length ks'.length (T.cmps ks ks') < 0) = decide (f < f') := by
      unfold cmpP; by_cases h1 : f < f'
      · simp [h1]
      · have h2 : f > f' := by omega
        simp [h1, h2]
    rw [e]
    simp [v84, r84_0, r84_1, r84_2, r84_3, r84_4, r84_5, r84_6, r84_7, r84_8, d84_10, d84_11, r84_9, r84_12, b1]
  subst c1
  by_cases c2 : v = v'
  case neg =>
    have b2 : (v != v') = true := by simp [c2]
    have e : decide (cmpP f f v v' ks.length ks'.length (T.cmps ks ks') < 0) = decide (v < v') := by
      unfold cmpP; by_cases h1 : v < v'
      · simp [h1]
      · have h2 : v > v' := by omega
        simp [h1, h2]
    rw [e]
    simp [v84, r84_0, r84_1, r84_2, r84_3, r84_4, r84_5, r84_6, r84_7, r84_8, d84_10, d84_11, r84_9, r84_12, b2]
  subst c2
  by_cases c3 : ks.length = ks'.length
  case neg =>
    have b3 : ((ks.length : Int) != ks'.length) = true := by simp; omega
    have e : decide (cmpP f f v v ks.length ks'.length (T.cmps ks ks') < 0) = decide (ks.length < ks'.length) := by
      unfold cmpP; by_cases h1 : ks.length < ks'.length
      · simp [h1]
      · have h2 : ks'.length < ks.length := by omega
        simp [h1, h2]
    rw [e]
    simp [v84, r84_0, r84_1, r84_2, r84_3, r84_4, r84_5, r84_6, r84_7, r84_8, d84_10, d84_11, r84_9, r84_12, b3]
  have hcp : cmpP f f v v ks.length ks'.length (T.cmps ks ks') = T.cmps ks ks' := by simp [cmpP, c3]
  rw [hcp]
  have h := loopX_upto (X := XV) (T := []) (L := 2) (live := [2, 3, 5]) (b := b84_0) (n := ks.length) (γ := Int) (st := fun (_ : Unit) i => ⟨[(2, .ptr 0 0), (3, .ptr 1 0), (5, .d (.int .i64 i))], cmpB f v ks f v ks'⟩) (step := stepC ks ks')
    (F := fun _ => (.exit 0, ⟨[(2, .ptr 0 0), (3, .ptr 1 0), (5, .d (.int .i64 ks.length)), (44, .d (.bool false))], cmpB f v ks f v ks'⟩)) (R := fun r => (.ret, ⟨[(4, .d (.bool (decide (r < 0))))], cmpB f v ks f v ks'⟩))
    (fun _ => ⟨by simp, by simp [b84_0, r84_0, r84_1, r84_2, r84_3, r84_4, r84_5, r84_6, r84_7, r84_8, d84_10, d84_11, r84_9, r84_12, cmpB]⟩)
    (fun _ i hi => by
      have hw := wrap_succ (n := i) (by omega)
      have hi2 : i < ks'.length := by omega
      have hs := hsame _ _ (tAt_mem hi) (tAt_mem hi2)
      have hc := hrec _ _ (tAt_mem hi) (tAt_mem hi2)
      unfold stepC cmpB
      by_cases h0 : T.cmp (tAt ks i) (tAt ks' i) = 0
      · rw [h0] at hs ⊢
        simp only [ne_eq, not_true_eq_false, if_false]
        refine ⟨_, by simp [b84_0, r84_0, r84_1, r84_2, r84_3, r84_4, r84_5, r84_6, r84_7, r84_8, d84_10, d84_11, r84_9, r84_12, hi, hi2, hw, cut, tAt_lt hi, tAt_lt hi2, hs]; rfl, ?_⟩
        simp [xheadOf, safeRegs]
      · simp only [ne_eq, h0, not_false_eq_true, if_true]
        have h0' : (T.cmp (tAt ks i) (tAt ks' i) == 0) = false := by simp [h0]
        rw [h0'] at hs
        refine ⟨by simp, ?_⟩
        simp [b84_0, r84_0, r84_1, r84_2, r84_3, r84_4, r84_5, r84_6, r84_7, r84_8, d84_10, d84_11, r84_9, r84_12, hi, hi2, hw, cut, tAt_lt hi, tAt_lt hi2, hs, hc])
    ks.length () 0 ⟨[(2, .ptr 0 0), (3, .ptr 1 0), (5, .d (.int .i64 0))], cmpB f v ks f v ks'⟩ (by omega) (by simp [xheadOf, safeRegs, cmpB])
  rw [runC ks ks' c3 _ _ (by omega)] at h
  simp only [List.drop_zero, cmpB, terms] at h
  simp [v84, r84_0, r84_1, r84_2, r84_3, r84_4, r84_5, r84_6, r84_7, r84_8, d84_10, d84_11, r84_9, r84_12, c3]
  rw [c3] at h
  rw [h]
  by_cases h0 : T.cmps ks ks' = 0 <;> simp [h0, v84, r84_0, r84_1, r84_2, r84_3, r84_4, r84_5, r84_6, r84_7, r84_8, d84_10, d84_11, r84_9, r84_12]
theorem specBefore_eq (a b : T) (ha : a.inner ≤ 1099511627776) (hb : b.inner ≤ 1099511627776) : callX XV 84 [.d (a.enc .sub), .d (b.enc .sub)] [] = some (.d (.bool (decide (T.cmp a b < 0))), []) := by
  match a, b, ha, hb with
  | .node f v ks, .node f' v' ks', ha, hb =>
    simp only [T.inner] at ha hb
    exact specBefore_of f v ks f' v' ks' (by omega) (by omega) (fun s s' hs hs' => specSame_eq s s' (by have := T.inners_mem hs; omega) (by have := T.inners_mem hs'; omega)) (fun s s' hs hs' => specBefore_eq s s' (by have := T.inners_mem hs; omega) (by have := T.inners_mem hs'; omega))
termination_by a
decreasing_by
  simp_wf
  have := List.sizeOf_lt_of_mem hs
  omega
end Go.Proofs.Ytficfeekkljoeaa.VS
