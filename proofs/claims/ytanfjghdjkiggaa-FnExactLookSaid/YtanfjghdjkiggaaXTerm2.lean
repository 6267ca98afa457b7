/- Contracts of the program's functions on the evaluator without names, and plain lemmas: XTerm2. -/
import Derived.Test.YtanfjghdjkiggaaXTerm
namespace Go.Proofs.Ytanfjghdjkiggaa.VS
set_option linter.unusedVariables false
set_option linter.unusedSimpArgs false
mutual
/-- No row is longer than Go allows. -/
def T.ok : T → Prop
  | .node _ _ ks => ks.length ≤ maxLen ∧ T.oks ks
def T.oks : List T → Prop
  | [] => True
  | t :: r => t.ok ∧ T.oks r
end
theorem T.oks_iff : ∀ l : List T, T.oks l ↔ ∀ t, t ∈ l → t.ok
  | [] => by simp [T.oks]
  | t :: r => by simp [T.oks, T.oks_iff r]
theorem szTerm_eq (t : T) (left : Int) (ht : t.ok) (h0 : 0 ≤ left) (h1 : left ≤ 1048576) : callX XV 1 [.d (t.enc .sub), .d (.int .i64 left)] [] = some (.d (.int .i64 (leftOf left t.inner)), []) := by
  match t, ht with
  | .node f v ks, ht =>
    simp only [T.ok] at ht
    have hc := szTermS_of ks left ht.1 h0 h1 (fun s hs left h0 h1 => szTerm_eq s left ((T.oks_iff ks).1 ht.2 s hs) h0 h1)
    rw [z_call XV _ _ _ v1 rfl xcode_1 rfl]
    have hi : (T.node f v ks).inner = ks.length + T.inners ks := by simp [T.inner]
    rw [hi]
    by_cases h : left - (ks.length + T.inners ks : Nat) < 0
    · have h2 : leftOf left (ks.length + T.inners ks) = -1 := by unfold leftOf; rw [if_pos h]
      rw [h2] at hc ⊢
      simp [v1, r1_0, r1_1, r1_2, r1_3, hc]
    · have h2 : leftOf left (ks.length + T.inners ks) = left - (ks.length + T.inners ks : Nat) := by unfold leftOf; rw [if_neg h]
      rw [h2] at hc ⊢
      have h3 : ¬ (left - ((ks.length : Int) + T.inners ks)) < 0 := by omega
      simp [v1, r1_0, r1_1, r1_2, r1_3, r1_4, hc, h3]
termination_by t
decreasing_by
  simp_wf
  have := List.sizeOf_lt_of_mem hs
  omega

/-! toTerm: the same term -/
theorem encs_ok (g : Tag) (l : List T) : ∀ x : DV, x ∈ l.map (T.enc g) → elemOK true 3 x := by
  intro x hx
  simp only [List.mem_map] at hx
  obtain ⟨t, _, rfl⟩ := hx
  exact ⟨by simp, by simp [isCell_int, isCell_sl], fun _ => ⟨_, T.enc_eq g t⟩, by simp⟩
theorem encs_cells (g : Tag) (l : List T) : ∀ x : DV, x ∈ l.map (T.enc g) → x.cells.length = 3 := fun x hx => (encs_ok g l x hx).1
def zT : DV := .agg [.int .i64 0, .int .i64 0, .sl U []]
def rowT (l : List T) (i : Nat) : List AV := rowCells (Go.Proofs.Ytanfjghdjkiggaa.VS.filled (l.map (T.enc U)) zT i)
theorem rowT_len (l : List T) (i : Nat) : (rowT l i).length = l.length * 3 := by
  unfold rowT
  rw [rowCells_len (sz := 3) (filled_cells (encs_cells U l) rfl i), filled_len]; simp
theorem rowT_set (l : List T) (i : Nat) (h : i < l.length) : splice (rowT l i) (i * 3) [.d (.int .i64 (tAt l i).f), .d (.int .i64 (tAt l i).v), .d (terms U (tAt l i).kids)] = rowT l (i + 1) := by
  have h1 := splice_row (sz := 3) (i := i) (es := Go.Proofs.Ytanfjghdjkiggaa.VS.filled (l.map (T.enc U)) zT i) (e := (tAt l i).enc U) (filled_cells (encs_cells U l) rfl i) (by simp) (by rw [filled_len]; simpa using h)
  have h2 := filled_set (l.map (T.enc U)) zT i (by simpa using h)
  simp only [T.cells_enc, List.map_cons, List.map_nil] at h1
  unfold rowT
  rw [h1, ← h2]
  simp [tAt_lt h]
theorem rowT_zero (l : List T) : rowT l 0 = ((List.replicate l.length zT).flatMap DV.cells).map .d := by
  unfold rowT; rw [filled_zero]; simp [rowCells, flat]
theorem rowT_all (l : List T) : rowT l l.length = rowCells (l.map (T.enc U)) := by
  unfold rowT
  have := filled_all (l.map (T.enc U)) zT
  rw [List.length_map] at this
  rw [this]
theorem toTermS_of (l : List T) (hl : l.length ≤ 1048576) (hc : ∀ t, t ∈ l → callX XV 2 [.d (t.enc .sub)] [] = some (.d (t.enc U), [])) :
    callX XV 8 [.d (terms .sub l)] [] = some (.d (terms U l), []) := by
  rw [z_call XV _ _ _ v8 rfl xcode_8 rfl]
  have hloop := loopX_upto (X := XV) (T := XV.lin 8) (L := 1) (live := [0, 3, 4]) (b := b8_0) (n := l.length) (γ := Unit) (st := fun (_ : Unit) i => ⟨[(0, .d (terms .sub l)), (3, .bsl [] true 0 3 l.length), (4, .d (.int .i64 i))], [some (rowT l i)]⟩) (step := fun _ _ => .inl ())
    (F := fun _ => (.exit 0, ⟨[(0, .d (terms .sub l)), (3, .bsl [] true 0 3 l.length), (4, .d (.int .i64 l.length)), (11, .d (.bool false))], [some (rowT l l.length)]⟩)) (R := fun _ => (.ret, ⟨[], []⟩))
    (fun _ => ⟨by simp, by simp [b8_0, r8_3]⟩)
    (fun _ i hi => by
      have hw := wrap_succ (n := i) (by omega)
      have hc' := hc _ (tAt_mem hi)
      have hlen := rowT_len l i
      have hle : i * 3 + 3 ≤ l.length * 3 := by omega
      have hset := rowT_set l i hi
      refine ⟨_, by simp [b8_0, r8_3, r8_4, r8_5, hi, hw, cut, tAt_lt hi, hc', hlen, hle, hset, isCell_int, isCell_sl, isCellA_d, safe_d]; rfl, by simp [xheadOf, safeRegs]⟩)
    l.length () 0 ⟨[(0, .d (terms .sub l)), (3, .bsl [] true 0 3 l.length), (4, .d (.int .i64 0))], [some (rowT l 0)]⟩ (by omega) (by simp [xheadOf, safeRegs])
  have hrun : ∀ k i, runN (fun (_ : Unit) (_ : Nat) => (Sum.inl () : Unit ⊕ Unit)) k () i = .inl () := by
    intro k; induction k with
    | zero => intro i; rfl
    | succ k ih => intro i; simp [runN, ih]
  rw [hrun, rowT_zero] at hloop
  have hch := chunks_row (l.map (T.enc U)) (encs_ok U l)
  rw [List.length_map] at hch
  have hfl : (flat (l.map (T.enc U))).length = l.length * 3 := by rw [flat_len (encs_cells U l)]; simp
  have hall := rowT_all l
  simp only [zT, lin_8] at hloop
  have hle2 : l.length * 40 ≤ 140737488355328 := by omega
  have hlt : (l.length : Int) < 9223372036854775808 := by omega
  have hlt2 : l.length < 9223372036854775808 := by omega
  simp [v8, r8_0, r8_1, r8_2, r8_6, isAgg, hle2, hlt]
  rw [hloop]
  simp [hall, datas_row, hch, hfl, hlt2, r8_6]
end Go.Proofs.Ytanfjghdjkiggaa.VS
