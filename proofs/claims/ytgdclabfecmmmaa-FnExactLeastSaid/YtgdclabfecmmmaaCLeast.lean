/- Contracts of functions of the program and of the reference, on the evaluator. Condition: as each theorem says. -/
import Derived.Test.YtgdclabfecmmmaaCInts
namespace Go.Proofs.Ytgdclabfecmmmaa.VS
set_option linter.unusedVariables false
set_option linter.unusedSimpArgs false

def at0 (l : List Int) (i : Nat) : Int := (l[i]?).getD 0
theorem at0_lt {l : List Int} {i : Nat} (h : i < l.length) : l[i] = at0 l i := by simp [at0, h]
theorem get_at0 {l : List Int} {i : Nat} (h : i < l.length) : l[i]? = some (at0 l i) := by simp [at0, h]
/-- A round of Least. -/
def stepL (l l' : List Int) (b : Bool) (i : Nat) : Bool ⊕ Unit := if at0 l' i < at0 l i then .inr () else .inl (b || decide (at0 l i < at0 l' i))

theorem draw50_5 : drawOK r50_5 = true := by decide
theorem draw50_7 : drawOK r50_7 = true := by decide
theorem draw51_7 : drawOK r51_7 = true := by decide
theorem draw51_9 : drawOK r51_9 = true := by decide

theorem body50 (p : Id) (g g' : Tag) (l l' : List Int) (b : Bool) (i c : Nat) (hlt : i < l.length) (hlt' : i < l'.length) (hn : i + 1 < 9223372036854775808) :
    ∃ c', codeV E p b50_0 ⟨[(0, .d (ints g l)), (1, .d (ints g' l')), (5, .d (.bool b)), (6, .d (.int .i64 i))], [], Ids.none, c⟩ =
      some (match stepL l l' b i with | .inl b' => (.normal, ⟨[(0, .d (ints g l)), (1, .d (ints g' l')), (5, .d (.bool b')), (6, .d (.int .i64 (i + 1 : Nat)))], [], Ids.none, c'⟩) | .inr () => (.ret, ⟨[(4, .d (.bool false))], [], Ids.none, c'⟩)) := by
  have hw := wrap_succ hn
  have hd5 := draw50_5
  have hd7 := draw50_7
  unfold r50_5 at hd5
  unfold r50_7 at hd7
  have e1 := at0_lt hlt
  have e2 := at0_lt hlt'
  unfold stepL
  by_cases h : at0 l' i < at0 l i
  · rw [if_pos h]
    apply Exists.intro
    simp [b50_0, r50_3, r50_5, r50_6, s_draw _ _ _ _ _ hd5, ints, hlt, hlt', hw, evOp, cut, e1, e2, h]
    rfl
  · rw [if_neg h]
    cases b
    · apply Exists.intro
      simp [b50_0, r50_3, r50_5, r50_7, r50_4, s_draw _ _ _ _ _ hd5, s_draw _ _ _ _ _ hd7, ints, hlt, hlt', hw, evOp, cut, e1, e2, h]
      rfl
    · apply Exists.intro
      simp [b50_0, r50_3, r50_5, r50_7, r50_4, s_draw _ _ _ _ _ hd5, s_draw _ _ _ _ _ hd7, ints, hlt, hlt', hw, evOp, cut, e1, e2, h]
      rfl

theorem end50 (p : Id) (g g' : Tag) (l l' : List Int) (b : Bool) (i c : Nat) (h : i = min l.length l'.length) :
    ∃ c' x, codeV E p b50_0 ⟨[(0, .d (ints g l)), (1, .d (ints g' l')), (5, .d (.bool b)), (6, .d (.int .i64 i))], [], Ids.none, c⟩ = some (.exit 0, ⟨[(0, .d (ints g l)), (1, .d (ints g' l')), (5, .d (.bool b)), (6, .d (.int .i64 i)), (16, x)], [], Ids.none, c'⟩) := by
  by_cases h1 : i < l.length
  · have h2 : ¬ i < l'.length := by omega
    refine ⟨c + 10, .d (.bool false), ?_⟩
    simp [b50_0, r50_3, ints, h1, h2, evOp]
  · refine ⟨c + 10, .d (.bool false), ?_⟩
    simp [b50_0, r50_3, ints, h1, evOp]

def leastRun (l l' : List Int) (n : Nat) : Bool := match runN (stepL l l') n false 0 with | .inl b => b | .inr () => false
def leastB (l l' : List Int) : Bool := leastRun l l' (min l.length l'.length) && decide (l.length = l'.length)

theorem specLeast_eq (p : Id) (g g' : Tag) (l l' : List Int) (hl : l.length ≤ 1048576) (hl' : l'.length ≤ 1048576) : callV E p 50 [.d (ints g l), .d (ints g' l')] [] Ids.none = some ⟨.d (.bool (leastB l l')), Ids.none, []⟩ := by
  rw [s_call E _ _ _ _ _ v50 rfl rfl rfl]
  obtain ⟨c', h⟩ := loop_upto (E := E) (p := p) (L := 0) (live := [0, 1, 5, 6]) (b := b50_0) (n := min l.length l'.length) (st := fun (b : Bool) i c => ⟨[(0, .d (ints g l)), (1, .d (ints g' l')), (5, .d (.bool b)), (6, .d (.int .i64 i))], [], Ids.none, c⟩) (step := stepL l l')
    (F := fun b c => (.exit 0, ⟨[(0, .d (ints g l)), (1, .d (ints g' l')), (5, .d (.bool b)), (6, .d (.int .i64 (min l.length l'.length : Nat))), (16, .d (.bool false))], [], Ids.none, c⟩)) (R := fun _ c => (.ret, ⟨[(4, .d (.bool false))], [], Ids.none, c⟩))
    (fun b c => ⟨c + 10, by simp, by
      by_cases h1 : min l.length l'.length < l.length
      · have h2 : ¬ min l.length l'.length < l'.length := by omega
        have h3 : ((min l.length l'.length : Nat) : Int) < l.length := by omega
        have h4 : ¬ ((min l.length l'.length : Nat) : Int) < l'.length := by omega
        generalize min l.length l'.length = m at h1 h2 h3 h4
        simp [b50_0, r50_3, ints, h1, h2, h3, h4, evOp]
      · have h3 : ¬ ((min l.length l'.length : Nat) : Int) < l.length := by omega
        generalize min l.length l'.length = m at h1 h3
        simp [b50_0, r50_3, ints, h1, h3, evOp]⟩)
    (fun b i c hi => by
      obtain ⟨c2, h⟩ := body50 p g g' l l' b i c (by omega) (by omega) (by omega)
      rw [h]
      generalize stepL l l' b i = q
      cases q with
      | inl b' => exact ⟨_, c2, rfl, by simp [headOf, safeRegs]⟩
      | inr u => exact ⟨_, by simp, rfl⟩)
    (min l.length l'.length) false 0 3 ⟨[(0, .d (ints g l)), (1, .d (ints g' l')), (5, .d (.bool false)), (6, .d (.int .i64 0))], [], Ids.none, 3⟩ (by omega) (by simp [headOf, safeRegs])
  simp only [v50, codeV_seq, s_region]
  simp [r50_0, r50_1, r50_2]
  rw [h]
  unfold leastB leastRun
  generalize runN (stepL l l') (min l.length l'.length) false 0 = q
  cases q with
  | inr u => simp
  | inl b =>
    cases b
    · simp [r50_8]
    · have e : (((l.length : Nat) : Int) == ((l'.length : Nat) : Int)) = decide (l.length = l'.length) := by
        by_cases hh : l.length = l'.length
        · simp [hh]
        · have : ¬ (l.length : Int) = l'.length := by omega
          simp [hh, this]
      simp [r50_8, ints, e]

theorem body51 (p : Id) (g g' : Tag) (l l' : List Int) (b : Bool) (i c : Nat) (hlt : i < l.length) (hlt' : i < l'.length) (hn : i + 1 < 9223372036854775808) :
    ∃ c', codeV E p b51_0 ⟨[(0, .d (ints g l)), (1, .d (ints g' l')), (5, .d (.bool b)), (13, .d (.int .i64 l.length)), (14, .d (.int .i64 i))], [], Ids.none, c⟩ =
      some (match stepL l l' b i with | .inl b' => (.normal, ⟨[(0, .d (ints g l)), (1, .d (ints g' l')), (5, .d (.bool b')), (13, .d (.int .i64 l.length)), (14, .d (.int .i64 (i + 1 : Nat)))], [], Ids.none, c'⟩) | .inr () => (.ret, ⟨[(4, .d (.bool false))], [], Ids.none, c'⟩)) := by
  have hw := wrap_succ hn
  have hd5 := draw51_7
  have hd7 := draw51_9
  unfold r51_7 at hd5
  unfold r51_9 at hd7
  have e1 := at0_lt hlt
  have e2 := at0_lt hlt'
  unfold stepL
  by_cases h : at0 l' i < at0 l i
  · rw [if_pos h]
    apply Exists.intro
    simp [b51_0, r51_5, r51_6, r51_7, r51_8, s_draw _ _ _ _ _ hd5, ints, hlt, hlt', hw, evOp, cut, e1, e2, h]
    rfl
  · rw [if_neg h]
    cases b
    · apply Exists.intro
      simp [b51_0, r51_5, r51_6, r51_7, r51_9, r51_10, s_draw _ _ _ _ _ hd5, s_draw _ _ _ _ _ hd7, ints, hlt, hlt', hw, evOp, cut, e1, e2, h]
      rfl
    · apply Exists.intro
      simp [b51_0, r51_5, r51_6, r51_7, r51_9, r51_10, s_draw _ _ _ _ _ hd5, s_draw _ _ _ _ _ hd7, ints, hlt, hlt', hw, evOp, cut, e1, e2, h]
      rfl

theorem implLeast_eq (p : Id) (g g' : Tag) (l l' : List Int) (hl : l.length ≤ 1048576) (hl' : l'.length ≤ 1048576) : callV E p 51 [.d (ints g l), .d (ints g' l')] [] Ids.none = some ⟨.d (.bool (leastB l l')), Ids.none, []⟩ := by
  rw [s_call E _ _ _ _ _ v51 rfl rfl rfl]
  by_cases hll : l.length = l'.length
  · obtain ⟨c', h⟩ := loop_upto (E := E) (p := p) (L := 0) (live := [0, 1, 5, 13, 14]) (b := b51_0) (n := l.length) (st := fun (b : Bool) i c => ⟨[(0, .d (ints g l)), (1, .d (ints g' l')), (5, .d (.bool b)), (13, .d (.int .i64 l.length)), (14, .d (.int .i64 i))], [], Ids.none, c⟩) (step := stepL l l')
      (F := fun b c => (.exit 0, ⟨[(0, .d (ints g l)), (1, .d (ints g' l')), (5, .d (.bool b)), (13, .d (.int .i64 l.length)), (14, .d (.int .i64 l.length)), (15, .d (.bool false))], [], Ids.none, c⟩)) (R := fun _ c => (.ret, ⟨[(4, .d (.bool false))], [], Ids.none, c⟩))
      (fun b c => ⟨c + 1, by simp, by simp [b51_0, r51_5, ints]⟩)
      (fun b i c hi => by
        obtain ⟨c2, h⟩ := body51 p g g' l l' b i c (by omega) (by omega) (by omega)
        rw [h]
        generalize stepL l l' b i = q
        cases q with
        | inl b' => exact ⟨_, c2, rfl, by simp [headOf, safeRegs]⟩
        | inr u => exact ⟨_, by simp, rfl⟩)
      l.length false 0 10 ⟨[(0, .d (ints g l)), (1, .d (ints g' l')), (5, .d (.bool false)), (13, .d (.int .i64 l.length)), (14, .d (.int .i64 0))], [], Ids.none, 10⟩ (by omega) (by simp [headOf, safeRegs])
    have hmin : min l.length l'.length = l.length := by omega
    unfold leastB leastRun
    rw [hmin]
    simp only [ints] at h ⊢
    simp [v51, r51_0, r51_1, r51_2, r51_3, r51_4, hll]
    rw [hll] at h
    rw [h]
    generalize runN (stepL l l') l'.length false 0 = q
    cases q with
    | inr u => simp
    | inl b => simp [r51_11]
  · have h1 : ((l.length : Int) != (l'.length : Int)) = true := by simp; omega
    simp [v51, r51_0, r51_1, r51_2, ints, h1, leastB, hll]

theorem FnExactLeast_law (p : Id) (g : Tag) (l : List Int) (hl : l.length ≤ maxLen) (ho : ∀ n, n ∈ l → -9223372036854775808 ≤ n ∧ n ≤ 9223372036854775807) (g' : Tag) (l' : List Int) (hl' : l'.length ≤ maxLen) (ho' : ∀ n, n ∈ l' → -9223372036854775808 ≤ n ∧ n ≤ 9223372036854775807) :
    ∃ A, callV E p 49 [.d (ints g l), .d (ints g' l')] [] Ids.none = some ⟨.d (.bool true), A, []⟩ := by
  rw [s_call E _ _ _ _ _ v49 rfl rfl rfl]
  by_cases h1 : (1048576 : Int) < l.length
  · apply Exists.intro
    simp [v49, r49_0, r49_1, r49_2, h1, ints]
    rfl
  by_cases h2 : (1048576 : Int) < l'.length
  · apply Exists.intro
    simp [v49, r49_0, r49_1, r49_2, r49_3, r49_4, h1, h2, ints]
    rfl
  have k1 : l.length ≤ 1048576 := by omega
  have k2 : l'.length ≤ 1048576 := by omega
  have h3 : ∀ q g, callV E q 41 [.d (ints g l)] [] Ids.none = _ := fun q g => toIntS_eq q g l k1
  have h3' : ∀ q g, callV E q 41 [.d (ints g l')] [] Ids.none = _ := fun q g => toIntS_eq q g l' k2
  have h4 : ∀ q g g', callV E q 50 [.d (ints g l), .d (ints g' l')] [] Ids.none = _ := fun q g g' => specLeast_eq q g g' l l' k1 k2
  have h5 : ∀ q g g', callV E q 51 [.d (ints g l), .d (ints g' l')] [] Ids.none = _ := fun q g g' => implLeast_eq q g g' l l' k1 k2
  have h6 : ∀ q g g', callV E q 44 [.d (ints g l), .d (ints g' l)] [] Ids.none = _ := fun q g g' => eqIntS_eq q g g' l l k1
  have h7 : ∀ q g g', callV E q 44 [.d (ints g l'), .d (ints g' l')] [] Ids.none = _ := fun q g g' => eqIntS_eq q g g' l' l' k2
  simp only [ints] at h3 h3' h4 h5 h6 h7 ⊢
  apply Exists.intro
  simp [v49, r49_0, r49_1, r49_2, r49_3, r49_4, r49_5, r49_6, r49_7, r49_8, r49_9, r49_10, r49_11, r49_12, r49_13, r49_14, r49_15, h1, h2, evOp, h3, h3', h4, h5, h6, h7]
  rfl
end Go.Proofs.Ytgdclabfecmmmaa.VS
