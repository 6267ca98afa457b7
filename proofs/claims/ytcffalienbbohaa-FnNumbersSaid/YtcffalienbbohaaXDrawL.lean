/- Contracts of the program's functions on the evaluator without names, and plain lemmas: XDrawL. -/
import Derived.Test.YtcffalienbbohaaXDraw
import Derived.Test.YtcffalienbbohaaXVars
namespace Go.Proofs.Ytcffalienbbohaa.VS
set_option linter.unusedVariables false
set_option linter.unusedSimpArgs false
/-! ## Drawn lists of numbers -/
@[simp high] theorem clr_bytesE (l : List Int) : (l.map (DV.int .u8)).map DV.clr = l.map (DV.int .u8) := by simp [List.map_map, Function.comp_def]
theorem big_eq (bs : List Int) : callX XV 133 [.d (.sl .sub (bs.map (.int .u8)))] [] = some (.d (.bool (decide (1048576 < bs.length))), []) := by
  rw [z_call XV _ _ _ v133 rfl xcode_133 rfl]
  have h : decide ((1048576 : Int) < bs.length) = decide (1048576 < bs.length) := by congr 1; apply propext; omega
  simp [v133, r133_0, r133_1, h]
def Small (l : List Int) : Prop := ∀ x, x ∈ l → -3 ≤ x ∧ x ≤ 9
theorem drawList_loop (bs : List Int) (hl : bs.length ≤ 1048576) (q L : Nat) : ∀ (k i : Nat) (l : List Int) (B : Boxs), i + k = 5 → l.length ≤ i → Small l → B.length = L → SeedAt bs q B →
    ∀ s0, xheadOf L [0, 3, 4] s0 = some ⟨[(0, .ptr q 0), (3, .d (.sl U (l.map (.int .i64)))), (4, .d (.int .i64 i))], B⟩ →
    ∃ (l' : List Int) (i' : Nat) (B' : Boxs), l'.length ≤ 5 ∧ Small l' ∧ Turned bs q B B' ∧ loopX XV [2, 3, 5, 12, 16, 17, 18] L [0, 3, 4] b203_0 s0 = some (.exit 0, ⟨[(0, .ptr q 0), (3, .d (.sl U (l'.map (.int .i64)))), (4, .d (.int .i64 i')), (9, .d (.bool false))], B'⟩) := by
  intro k
  induction k with
  | zero =>
    intro i l B hik hli hs hB hsd s0 h0
    obtain ⟨r, B1, hr, hT, hc⟩ := l1Below_at bs hl B q hsd 6 (by omega) (by omega)
    refine ⟨l, i, B1, by omega, hs, hT, loopX_out h0 ?_ (by simp)⟩
    have hn : ¬ ((i : Int) < r) := by omega
    simp [b203_0, r203_3, hc, hn]
  | succ k ih =>
    intro i l B hik hli hs hB hsd s0 h0
    obtain ⟨r, B1, hr, hT, hc⟩ := l1Below_at bs hl B q hsd 6 (by omega) (by omega)
    have hq := hsd.lt
    by_cases hn : (i : Int) < r
    · have hq1 : SeedAt bs q B1 := hT.at hq
      obtain ⟨j, hj, B2, hT2, hc2⟩ := l1PickInt_at bs hl B1 q hq1 [0, 1, 2, 5, 9, -3] (by simp) (by simp)
      have hl2 : B2.length = L := by rw [hT2.len, hT.len, hB]
      have hall : ∀ x : Int, x ∈ ([0, 1, 2, 5, 9, -3] : List Int) → -3 ≤ x ∧ x ≤ 9 := fun x hx => by
        simp only [List.mem_cons, List.not_mem_nil, or_false] at hx; omega
      have hx := hall _ (List.getElem_mem hj)
      generalize ([0, 1, 2, 5, 9, -3] : List Int)[j] = x at hc2 hx
      have ha := app_ints l [x] U (by simp; omega)
      have hw := wrap_succ (n := i) (by omega)
      simp only [List.map_cons, List.map_nil] at hc2 ha
      have hb : codeX XV [2, 3, 5, 12, 16, 17, 18] b203_0 ⟨[(0, .ptr q 0), (3, .d (.sl U (l.map (.int .i64)))), (4, .d (.int .i64 i))], B⟩ = some (.normal, ⟨[(0, .ptr q 0), (3, .d (.sl U ((l ++ [x]).map (.int .i64)))), (4, .d (.int .i64 ((i + 1 : Nat) : Int)))], B2⟩) := by
        generalize (l ++ [x]).map (DV.int .i64) = l3 at ha ⊢
        generalize l.map (DV.int .i64) = l4 at ha ⊢
        simp [b203_0, r203_0, r203_1, r203_2, r203_3, r203_5, r203_4, r203_6, hc, hn, hc2, ha, hw, buildRow, List.replicate, isCell_int]
      rw [loopX_go h0 hb]
      obtain ⟨l', i', B', g1, g2, g3, g4⟩ := ih (i + 1) (l ++ [x]) B2 (by omega) (by simp; omega) (fun y hy => by
        rcases List.mem_append.1 hy with h | h
        · exact hs y h
        · simp at h; subst h; exact hx) hl2 (hT2.at (by rw [hT.len]; exact hq)) ⟨[(0, .ptr q 0), (3, .d (.sl U ((l ++ [x]).map (.int .i64)))), (4, .d (.int .i64 ((i + 1 : Nat) : Int)))], B2⟩ (head_cut (e := []) (by simp) (by simp [safeRegs]; omega) hl2 (by simp))
      exact ⟨l', i', B', g1, g2, (hT.trans hT2).trans g3, g4⟩
    · refine ⟨l, i, B1, by omega, hs, hT, loopX_out h0 ?_ (by simp)⟩
      simp [b203_0, r203_3, hc, hn]
theorem drawList_at (bs : List Int) (hl : bs.length ≤ 1048576) (B : Boxs) (q : Nat) (h : SeedAt bs q B) : ∃ (l : List Int) (B' : Boxs), l.length ≤ 5 ∧ Small l ∧ Turned bs q B B' ∧ callX XV 203 [.ptr q 0] B = some (.d (.sl U (l.map (.int .i64))), B') := by
  obtain ⟨l, i, B', h1, h2, h3, h4⟩ := drawList_loop bs hl q B.length 5 0 [] B rfl (by simp) (fun x hx => by simp at hx) rfl h ⟨[(0, .ptr q 0), (3, .d (.sl U [])), (4, .d (.int .i64 0))], B⟩ (head_cut (e := []) (by simp) (by simp [safeRegs]; exact h.lt) rfl (by simp))
  refine ⟨l, B', h1, h2, h3, ?_⟩
  have htk : List.take B.length B' = B' := List.take_of_length_le (by rw [h3.len]; exact Nat.le_refl _)
  rw [z_call XV _ _ _ v203 rfl xcode_203 rfl]
  have hq := h.lt
  simp [v203, r203_0, r203_1, r203_2, r203_6, buildRow, List.replicate, hq]
  rw [h4]
  simp [r203_6, htk]
theorem new_seed (bs : List Int) (B : Boxs) (st : Int) : SeedAt bs B.length (B ++ [some (seedC bs 0 st)]) := by
  exact ⟨0, st, ⟨Int.le_refl _, by omega⟩, by simp [bget]⟩
theorem drawDigits_eq (bs : List Int) (hl : bs.length ≤ 1048576) : ∃ d : Int, (-9223372036854775808 ≤ d ∧ d ≤ 9223372036854775807) ∧ callX XV 199 [.d (.sl .sub (bs.map (.int .u8)))] [] = some (.d (.int .i64 d), []) := by
  obtain ⟨st, h1⟩ := l1New_eq bs hl []
  obtain ⟨j, hj, B2, hT, h2⟩ := l1PickInt_at bs hl _ 0 (new_seed bs [] st) [0, 7, -12, 100000, 9223372036854775807, -9223372036854775808] (by simp) (by simp)
  have hall : ∀ x : Int, x ∈ ([0, 7, -12, 100000, 9223372036854775807, -9223372036854775808] : List Int) → -9223372036854775808 ≤ x ∧ x ≤ 9223372036854775807 := fun x hx => by
    simp only [List.mem_cons, List.not_mem_nil, or_false] at hx; omega
  refine ⟨_, hall _ (List.getElem_mem hj), ?_⟩
  generalize ([0, 7, -12, 100000, 9223372036854775807, -9223372036854775808] : List Int)[j] = x at h2
  simp only [List.map_cons, List.map_nil, List.nil_append, List.length_nil] at h1 h2
  rw [z_call XV _ _ _ v199 rfl xcode_199 rfl]
  simp [v199, r199_0, r199_1, h1, h2, buildRow, List.replicate]
theorem drawNumber_eq (bs : List Int) (hl : bs.length ≤ 1048576) : ∃ t : ByteArray, t.size ≤ 10 ∧ callX XV 200 [.d (.sl .sub (bs.map (.int .u8)))] [] = some (.d (.str t), []) := by
  obtain ⟨st, h1⟩ := l1New_eq bs hl []
  obtain ⟨j, hj, B2, hT, h2⟩ := l1Pick_at bs hl _ 0 (new_seed bs [] st) [⟨#[48]⟩, ⟨#[55]⟩, ⟨#[57, 57, 57, 57, 57, 57]⟩, ⟨#[49, 48, 48, 48, 48, 48, 48]⟩, ⟨#[48, 49]⟩, ⟨#[]⟩, ⟨#[45, 49]⟩, ⟨#[120]⟩, ⟨#[49, 50, 97]⟩] (by simp) (by simp)
  have hall : ∀ x : ByteArray, x ∈ ([⟨#[48]⟩, ⟨#[55]⟩, ⟨#[57, 57, 57, 57, 57, 57]⟩, ⟨#[49, 48, 48, 48, 48, 48, 48]⟩, ⟨#[48, 49]⟩, ⟨#[]⟩, ⟨#[45, 49]⟩, ⟨#[120]⟩, ⟨#[49, 50, 97]⟩] : List ByteArray) → x.size ≤ 10 := fun x hx => by
    simp only [List.mem_cons, List.not_mem_nil, or_false] at hx
    rcases hx with rfl | rfl | rfl | rfl | rfl | rfl | rfl | rfl | rfl <;> decide
  refine ⟨_, hall _ (List.getElem_mem hj), ?_⟩
  generalize ([⟨#[48]⟩, ⟨#[55]⟩, ⟨#[57, 57, 57, 57, 57, 57]⟩, ⟨#[49, 48, 48, 48, 48, 48, 48]⟩, ⟨#[48, 49]⟩, ⟨#[]⟩, ⟨#[45, 49]⟩, ⟨#[120]⟩, ⟨#[49, 50, 97]⟩] : List ByteArray)[j] = x at h2
  simp only [List.map_cons, List.map_nil, List.nil_append, List.length_nil] at h1 h2
  rw [z_call XV _ _ _ v200 rfl xcode_200 rfl]
  simp [v200, r200_0, r200_1, h1, h2, buildRow, List.replicate]
theorem drawNumsText_eq (bs : List Int) (hl : bs.length ≤ 1048576) : ∃ l : List Int, l.length ≤ 5 ∧ Small l ∧ callX XV 202 [.d (.sl .sub (bs.map (.int .u8)))] [] = some (.d (.sl U (l.map (.int .i64))), []) := by
  obtain ⟨st, h1⟩ := l1New_eq bs hl []
  obtain ⟨l, B', g1, g2, hT, h2⟩ := drawList_at bs hl _ 0 (new_seed bs [] st)
  refine ⟨l, g1, g2, ?_⟩
  simp only [List.nil_append, List.length_nil] at h1 h2
  rw [z_call XV _ _ _ v202 rfl xcode_202 rfl]
  generalize l.map (DV.int .i64) = lm at h2 ⊢
  simp [v202, r202_0, r202_1, h1, h2]
theorem drawNumIn_eq (bs : List Int) (hl : bs.length ≤ 1048576) : ∃ (l : List Int) (k : Int), l.length ≤ 5 ∧ Small l ∧ (0 ≤ k ∧ k < 6) ∧ callX XV 204 [.d (.sl .sub (bs.map (.int .u8)))] [] = some (.d (.tup [.sl U (l.map (.int .i64)), .int .i64 k]), []) := by
  obtain ⟨st, h1⟩ := l1New_eq bs hl []
  have hs := new_seed bs [] st
  obtain ⟨l, B', g1, g2, hT, h2⟩ := drawList_at bs hl _ 0 hs
  obtain ⟨r, B2, hr, hT2, h3⟩ := l1Below_at bs hl B' 0 (hT.at hs.lt) 6 (by omega) (by omega)
  refine ⟨l, r, g1, g2, hr, ?_⟩
  have hb1 : B'.length = 1 := by rw [hT.len]; simp
  simp only [List.nil_append, List.length_nil] at h1 h2
  rw [z_call XV _ _ _ v204 rfl xcode_204 rfl]
  generalize l.map (DV.int .i64) = lm at h2 ⊢
  simp [v204, r204_0, r204_1, r204_2, r204_3, h1, h2, h3, hb1]
theorem drawNumAdd_eq (bs : List Int) (hl : bs.length ≤ 1048576) : ∃ (l : List Int) (k : Int), l.length ≤ 5 ∧ Small l ∧ (0 ≤ k ∧ k < 6) ∧ callX XV 201 [.d (.sl .sub (bs.map (.int .u8)))] [] = some (.d (.tup [.sl U (l.map (.int .i64)), .int .i64 k]), []) := by
  obtain ⟨l, k, g1, g2, g3, h⟩ := drawNumIn_eq bs hl
  refine ⟨l, k, g1, g2, g3, ?_⟩
  rw [z_call XV _ _ _ v201 rfl xcode_201 rfl]
  simp [v201, r201_0, r201_1, r201_2, h]
end Go.Proofs.Ytcffalienbbohaa.VS
