/- Contracts of the program's functions on the evaluator without names, and plain lemmas: XBind. -/
import Derived.Test.YtanfjghdjkiggaaXForm
import Derived.Test.YtanfjghdjkiggaaXCount
namespace Go.Proofs.Ytanfjghdjkiggaa.VS
set_option linter.unusedVariables false
set_option linter.unusedSimpArgs false
/-! ## Substitutions -/
structure Bd where
  v : Int
  t : T
def Bd.enc (g : Tag) (b : Bd) : DV := .agg [.int .i64 b.v, .int .i64 b.t.f, .int .i64 b.t.v, terms g b.t.kids]
def Bd.ok (b : Bd) : Prop := (-9223372036854775808 ≤ b.v ∧ b.v ≤ 9223372036854775807) ∧ b.t.ok
abbrev binds (g : Tag) (l : List Bd) : DV := .sl g (l.map (Bd.enc g))
@[simp] theorem Bd.cells_enc (g : Tag) (x : Bd) : (x.enc g).cells = [.int .i64 x.v, .int .i64 x.t.f, .int .i64 x.t.v, terms g x.t.kids] := rfl
@[simp] theorem Bd.cellsA_enc (g : Tag) (x : Bd) : (AV.d (x.enc g)).cells = [.d (.int .i64 x.v), .d (.int .i64 x.t.f), .d (.int .i64 x.t.v), .d (terms g x.t.kids)] := rfl
@[simp] theorem Bd.isCell_enc (g : Tag) (x : Bd) : (x.enc g).isCell = false := rfl
@[simp] theorem Bd.isAgg_enc (g : Tag) (x : Bd) : isAgg (x.enc g) = true := rfl
@[simp] theorem Bd.clr_enc (g : Tag) (x : Bd) : (x.enc g).clr = x.enc .sub := by
  simp only [Bd.enc, DV.clr, DV.clrs, terms, DV.clrs_map, clr_terms]
@[simp high] theorem Bd.clr_encs (g : Tag) (l : List Bd) : (l.map (Bd.enc g)).map DV.clr = l.map (Bd.enc .sub) := by simp [List.map_map, Function.comp_def]
@[simp] theorem Bd.agg_enc (g : Tag) (x : Bd) : DV.agg [.int .i64 x.v, .int .i64 x.t.f, .int .i64 x.t.v, terms g x.t.kids] = x.enc g := rfl
def bAt (l : List Bd) (i : Nat) : Bd := (l[i]?).getD ⟨0, .node 0 0 []⟩
theorem bAt_lt {l : List Bd} {i : Nat} (h : i < l.length) : l[i] = bAt l i := by simp [bAt, h]
theorem bAt_mem {l : List Bd} {i : Nat} (h : i < l.length) : bAt l i ∈ l := by rw [← bAt_lt h]; exact List.getElem_mem h
theorem szBind_eq (b : Bd) (left : Int) (h0 : 0 ≤ left) (h1 : left ≤ 1048576) (hb : b.ok) : callX XV 88 [.d (b.enc .sub), .d (.int .i64 left)] [] = some (.d (.int .i64 (leftOf left b.t.inner)), []) := by
  rw [z_call XV _ _ _ v88 rfl xcode_88 rfl]
  have z := szTerm_eq b.t left hb.2 h0 h1
  by_cases h : left - b.t.inner < 0
  · rw [leftOf_neg h] at z ⊢
    simp [v88, r88_0, r88_1, r88_2, r88_3, r88_4, z, isCell_int, isCell_sl, isCellA_d, safe_d, loadBox, splice]
  · rw [leftOf_pos h] at z ⊢
    simp [v88, r88_0, r88_1, r88_2, r88_3, r88_4, z, h, isCell_int, isCell_sl, isCellA_d, safe_d, loadBox, splice]
def bindsSize (l : List Bd) : Nat := l.length + sumW (fun i => (bAt l i).t.inner) 0 l.length
theorem szBindS_eq (l : List Bd) (left : Int) (hl : l.length ≤ maxLen) (ho : ∀ s, s ∈ l → s.ok) (h0 : 0 ≤ left) (h1 : left ≤ 1048576) : callX XV 65 [.d (binds .sub l), .d (.int .i64 left)] [] = some (.d (.int .i64 (leftOf left (bindsSize l))), []) := by
  rw [z_call XV _ _ _ v65 rfl xcode_65 rfl]
  have hw : IntKind.i64.wrap (left - l.length) = left - l.length := wrap_i64 (by unfold maxLen at hl; omega) (by omega)
  unfold bindsSize
  generalize hwd : (fun i => (bAt l i).t.inner) = w
  by_cases h : left - l.length < 0
  · rw [leftOf_neg (by omega)]
    simp [v65, r65_0, r65_1, r65_2, r65_3, r65_4, r65_5, r65_7, r65_8, r65_9, r65_6, r65_10, hw, h]
  · have hloop := loopX_inv (X := XV) (T := []) (L := 0) (live := [0, 1, 5]) (b := b65_0) (n := l.length) (γ := Unit) (st := fun (left : Int) i => ⟨[(0, .d (binds .sub l)), (1, .d (.int .i64 left)), (5, .d (.int .i64 i))], []⟩) (step := stepW w)
      (F := fun left => (.exit 0, ⟨[(0, .d (binds .sub l)), (1, .d (.int .i64 left)), (5, .d (.int .i64 l.length)), (15, .d (.bool false))], []⟩)) (R := fun _ => (.ret, ⟨[(4, .d (.int .i64 (-1)))], []⟩))
      (fun left _ => 0 ≤ left ∧ left ≤ 1048576)
      (fun left _ => ⟨by simp, by simp [b65_0, r65_0, r65_1, r65_2, r65_3, r65_4, r65_5, r65_7, r65_8, r65_9, r65_6, r65_10]⟩)
      (fun left i hi hinv => by
        have hw := wrap_succ (n := i) (by unfold maxLen at hl; omega)
        have hc' := szBind_eq (bAt l i) left hinv.1 hinv.2 (ho _ (bAt_mem hi))
        subst hwd
        unfold stepW
        simp only
        by_cases h2 : left - (bAt l i).t.inner < 0
        · rw [leftOf_neg h2] at hc'
          simp only [h2, if_true]
          refine ⟨⟨by simp, ?_⟩, fun a' h => by simp at h⟩
          simp [b65_0, r65_0, r65_1, r65_2, r65_3, r65_4, r65_5, r65_7, r65_8, r65_9, r65_6, r65_10, hi, hw, cut, bAt_lt hi, hc']
        · rw [leftOf_pos h2] at hc'
          simp only [h2, if_false]
          refine ⟨⟨_, by simp [b65_0, r65_0, r65_1, r65_2, r65_3, r65_4, r65_5, r65_7, r65_8, r65_9, r65_6, r65_10, hi, hw, cut, bAt_lt hi, hc', h2]; rfl, by simp [xheadOf, safeRegs]⟩, fun a' h => by simp at h; subst h; exact ⟨by omega, by omega⟩⟩)
      l.length (left - l.length) 0 ⟨[(0, .d (binds .sub l)), (1, .d (.int .i64 (left - l.length))), (5, .d (.int .i64 0))], []⟩ (by omega) ⟨by omega, by omega⟩ (by simp [xheadOf, safeRegs])
    rw [runW _ _ _ _ (by omega)] at hloop
    simp [v65, r65_0, r65_1, r65_2, r65_3, r65_4, hw, h]
    rw [hloop]
    by_cases h3 : left - l.length - sumW w 0 l.length < 0
    · rw [leftOf_neg (by omega)]; simp [h3]
    · rw [leftOf_pos (by omega)]
      simp [h3, v65, r65_0, r65_1, r65_2, r65_3, r65_4, r65_5, r65_7, r65_8, r65_9, r65_6, r65_10]; omega
theorem bind_le (l : List Bd) (i : Nat) (hi : i < l.length) : (bAt l i).t.inner ≤ bindsSize l := by
  have := sumW_ge (fun i => (bAt l i).t.inner) l.length 0 i (Nat.zero_le _) (by omega)
  unfold bindsSize; omega
theorem bindEncs_ok (g : Tag) (l : List Bd) : ∀ x : DV, x ∈ l.map (Bd.enc g) → elemOK true 4 x := by
  intro x hx; simp only [List.mem_map] at hx; obtain ⟨n, _, rfl⟩ := hx; exact ⟨by simp, by simp [isCell_int, isCell_sl], fun _ => ⟨_, rfl⟩, by simp⟩
theorem toBind_eq (b : Bd) (hb : b.t.inner ≤ 1048576) : callX XV 87 [.d (b.enc .sub)] [] = some (.d (b.enc U), []) := by
  rw [z_call XV _ _ _ v87 rfl xcode_87 rfl]
  have t1 := toTerm_eq b.t hb
  simp [v87, r87_0, r87_1, r87_2, r87_3, r87_4, t1, isCell_int, isCell_sl, isCellA_d, safe_d, loadBox, splice, Bd.agg_enc]
def zB : DV := .agg [.int .i64 0, .int .i64 0, .int .i64 0, .sl U []]
theorem toBindS_eq (l : List Bd) (hl : l.length ≤ 1048576) (hb : ∀ i, i < l.length → (bAt l i).t.inner ≤ 1048576) : callX XV 66 [.d (binds .sub l)] [] = some (.d (binds U l), []) := by
  rw [z_call XV _ _ _ v66 rfl xcode_66 rfl]
  have hcell : ∀ x : DV, x ∈ l.map (Bd.enc U) → x.cells.length = 4 := fun x hx => (bindEncs_ok U l x hx).1
  have hloop := loopX_upto (X := XV) (T := XV.lin 66) (L := 1) (live := [0, 3, 4]) (b := b66_0) (n := l.length) (γ := Unit) (st := fun (_ : Unit) i => ⟨[(0, .d (binds .sub l)), (3, .bsl [] true 0 4 l.length), (4, .d (.int .i64 i))], [some (rowG (l.map (Bd.enc U)) zB i)]⟩) (step := fun _ _ => .inl ())
    (F := fun _ => (.exit 0, ⟨[(0, .d (binds .sub l)), (3, .bsl [] true 0 4 l.length), (4, .d (.int .i64 l.length)), (11, .d (.bool false))], [some (rowG (l.map (Bd.enc U)) zB l.length)]⟩)) (R := fun _ => (.ret, ⟨[], []⟩))
    (fun _ => ⟨by simp, by simp [b66_0, r66_0, r66_1, r66_2, r66_3, r66_5, r66_4, r66_6]⟩)
    (fun _ i hi => by
      have hw := wrap_succ (n := i) (by omega)
      have hlen := rowG_len (z := zB) hcell rfl i
      have hset := rowG_set (z := zB) hcell rfl i (by simpa using hi)
      simp only [List.getElem_map, bAt_lt hi, Bd.cells_enc, List.map_cons, List.map_nil, List.length_map] at hset hlen
      have hle : i * 4 + 4 ≤ l.length * 4 := by omega
      have hc' := toBind_eq (bAt l i) (hb i hi)
      exact ⟨_, by simp [b66_0, r66_0, r66_1, r66_2, r66_3, r66_5, r66_4, r66_6, hi, hw, cut, bAt_lt hi, hc', hlen, hle, hset, isCell_int, isCell_sl, isCellA_d, safe_d]; rfl, by simp [xheadOf, safeRegs]⟩)
    l.length () 0 ⟨[(0, .d (binds .sub l)), (3, .bsl [] true 0 4 l.length), (4, .d (.int .i64 0))], [some (rowG (l.map (Bd.enc U)) zB 0)]⟩ (by omega) (by simp [xheadOf, safeRegs])
  rw [run_on, rowG_zero] at hloop
  have hch := chunks_row (l.map (Bd.enc U)) (bindEncs_ok U l)
  have hfl : (flat (l.map (Bd.enc U))).length = l.length * 4 := by rw [flat_len hcell]; simp
  have hall := rowG_all (l.map (Bd.enc U)) zB
  rw [List.length_map] at hch hall
  simp only [zB, lin_66, List.length_map] at hloop hall
  have hle2 : l.length * 48 ≤ 140737488355328 := by omega
  have hlt : (l.length : Int) < 9223372036854775808 := by omega
  have hlt2 : l.length < 9223372036854775808 := by omega
  simp [v66, r66_0, r66_1, r66_2, r66_3, r66_5, r66_4, r66_6, hle2, hlt]
  try simp at hloop
  rw [hloop]
  try simp at hall
  simp [hall, datas_row, hch, hfl, hlt2, v66, r66_0, r66_1, r66_2, r66_3, r66_5, r66_4, r66_6]
theorem eqBind_self (b : Bd) (hb : b.t.inner ≤ 1048576) : callX XV 86 [.d (b.enc .sub), .d (b.enc .sub)] [] = some (.d (.bool true), []) := by
  rw [z_call XV _ _ _ v86 rfl xcode_86 rfl]
  have t1 := eqTerm_self b.t hb
  simp [v86, r86_0, r86_1, r86_2, r86_3, r86_4, r86_5, t1, isCell_int, isCell_sl, isCellA_d, safe_d, loadBox, splice]
theorem eqBindS_self (l : List Bd) (hl : l.length ≤ 1048576) (hb : ∀ i, i < l.length → (bAt l i).t.inner ≤ 1048576) : callX XV 69 [.d (binds .sub l), .d (binds .sub l)] [] = some (.d (.bool true), []) := by
  rw [z_call XV _ _ _ v69 rfl xcode_69 rfl]
  have hloop := loopX_upto (X := XV) (T := []) (L := 0) (live := [0, 1, 5]) (b := b69_0) (n := l.length) (γ := Unit) (st := fun (_ : Unit) i => ⟨[(0, .d (binds .sub l)), (1, .d (binds .sub l)), (5, .d (.int .i64 i))], []⟩) (step := fun _ _ => .inl ())
    (F := fun _ => (.exit 0, ⟨[(0, .d (binds .sub l)), (1, .d (binds .sub l)), (5, .d (.int .i64 l.length)), (14, .d (.bool false))], []⟩)) (R := fun _ => (.ret, ⟨[], []⟩))
    (fun _ => ⟨by simp, by simp [b69_0, r69_0, r69_1, r69_2, r69_3, r69_4, d69_6, r69_7, r69_5, r69_8]⟩)
    (fun _ i hi => by
      have hw := wrap_succ (n := i) (by omega)
      have hc' := eqBind_self (bAt l i) (hb i hi)
      exact ⟨_, by simp [b69_0, r69_0, r69_1, r69_2, r69_3, r69_4, d69_6, r69_7, r69_5, r69_8, hi, hw, cut, bAt_lt hi, hc']; rfl, by simp [xheadOf, safeRegs]⟩)
    l.length () 0 ⟨[(0, .d (binds .sub l)), (1, .d (binds .sub l)), (5, .d (.int .i64 0))], []⟩ (by omega) (by simp [xheadOf, safeRegs])
  rw [run_on] at hloop
  simp [v69, r69_0, r69_1, r69_2, r69_3, r69_4, d69_6, r69_7, r69_5, r69_8]
  rw [hloop]
  simp [v69, r69_0, r69_1, r69_2, r69_3, r69_4, d69_6, r69_7, r69_5, r69_8]
end Go.Proofs.Ytanfjghdjkiggaa.VS
