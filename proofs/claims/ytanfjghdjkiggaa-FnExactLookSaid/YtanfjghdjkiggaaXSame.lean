/- Contracts of the program's functions on the evaluator without names, and plain lemmas: XSame. -/
import Derived.Test.YtanfjghdjkiggaaXTerm3
namespace Go.Proofs.Ytanfjghdjkiggaa.VS
set_option linter.unusedVariables false
set_option linter.unusedSimpArgs false
theorem cmp_zero (f v : Int) (ks : List T) (f' v' : Int) (ks' : List T) : T.cmp (.node f v ks) (.node f' v' ks') = 0 ↔ f = f' ∧ v = v' ∧ ks.length = ks'.length ∧ T.cmps ks ks' = 0 := by
  rw [cmp_node]; unfold cmpP
  constructor
  · intro h
    iterate 6 (split at h; · omega)
    exact ⟨by omega, by omega, by omega, h⟩
  · rintro ⟨rfl, rfl, h, h'⟩
    simp [h, h']
theorem specSame_of (f v : Int) (ks : List T) (f' v' : Int) (ks' : List T) (hl : ks.length ≤ 1048576) (hl' : ks'.length ≤ 1048576)
    (hrec : ∀ s s', s ∈ ks → s' ∈ ks' → callX XV 3 [.d (s.enc .sub), .d (s'.enc .sub)] [] = some (.d (.bool (T.cmp s s' == 0)), [])) :
    callX XV 3 [.d ((T.node f v ks).enc .sub), .d ((T.node f' v' ks').enc .sub)] [] = some (.d (.bool (T.cmp (.node f v ks) (.node f' v' ks') == 0)), []) := by
  rw [z_call XV _ _ _ v3 rfl xcode_3 rfl]
  have hz := cmp_zero f v ks f' v' ks'
  have ne : ¬ (f = f' ∧ v = v' ∧ ks.length = ks'.length ∧ T.cmps ks ks' = 0) → (T.cmp (.node f v ks) (.node f' v' ks') == 0) = false := fun h => by
    rw [← hz] at h; simpa using h
  have hlc : (ks.length : Int) = ks'.length ↔ ks.length = ks'.length := by omega
  by_cases c1 : f = f'
  case neg =>
    rw [ne (fun h => c1 h.1)]
    have b1 : (f != f') = true := by simp [c1]
    simp [v3, r3_0, r3_1, r3_2, b1]
  by_cases c2 : v = v'
  case neg =>
    rw [ne (fun h => c2 h.2.1)]
    have b2 : (v != v') = true := by simp [c2]
    simp [v3, r3_0, r3_1, r3_2, c1, b2]
  by_cases c3 : ks.length = ks'.length
  case neg =>
    rw [ne (fun h => c3 h.2.2.1)]
    have b3 : ((ks.length : Int) != ks'.length) = true := by simp; omega
    simp [v3, r3_0, r3_1, r3_2, c1, c2, b3]
  have h := loopX_upto (X := XV) (T := []) (L := 2) (live := [2, 3, 5]) (b := b3_0) (n := ks.length) (γ := Int) (st := fun (_ : Unit) i => ⟨[(2, .ptr 0 0), (3, .ptr 1 0), (5, .d (.int .i64 i))], cmpB f v ks f' v' ks'⟩) (step := stepC ks ks')
    (F := fun _ => (.exit 0, ⟨[(2, .ptr 0 0), (3, .ptr 1 0), (5, .d (.int .i64 ks.length)), (31, .d (.bool false))], cmpB f v ks f' v' ks'⟩)) (R := fun r => (.ret, ⟨[(4, .d (.bool false))], cmpB f v ks f' v' ks'⟩))
    (fun _ => ⟨by simp, by simp [b3_0, r3_4, cmpB]⟩)
    (fun _ i hi => by
      have hw := wrap_succ (n := i) (by omega)
      have hi2 : i < ks'.length := by omega
      have hc := hrec _ _ (tAt_mem hi) (tAt_mem hi2)
      unfold stepC cmpB
      by_cases h0 : T.cmp (tAt ks i) (tAt ks' i) = 0
      · rw [h0] at hc ⊢
        simp only [ne_eq, not_true_eq_false, if_false]
        refine ⟨_, by simp [b3_0, r3_4, r3_5, d3_6, r3_7, hi, hi2, hw, cut, tAt_lt hi, tAt_lt hi2, hc]; rfl, ?_⟩
        simp [xheadOf, safeRegs]
      · simp only [ne_eq, h0, not_false_eq_true, if_true]
        have h0' : (T.cmp (tAt ks i) (tAt ks' i) == 0) = false := by simp [h0]
        rw [h0'] at hc
        refine ⟨by simp, ?_⟩
        simp [b3_0, r3_4, r3_5, d3_6, r3_7, hi, hi2, hw, cut, tAt_lt hi, tAt_lt hi2, hc])
    ks.length () 0 ⟨[(2, .ptr 0 0), (3, .ptr 1 0), (5, .d (.int .i64 0))], cmpB f v ks f' v' ks'⟩ (by omega) (by simp [xheadOf, safeRegs, cmpB])
  rw [runC ks ks' c3 _ _ (by omega)] at h
  simp only [List.drop_zero, cmpB] at h
  simp [v3, r3_0, r3_1, r3_2, r3_3, c1, c2, hlc, c3]
  subst c1; subst c2
  rw [c3] at h
  rw [h]
  by_cases h0 : T.cmps ks ks' = 0
  · have : T.cmp (.node f v ks) (.node f v ks') = 0 := hz.2 ⟨rfl, rfl, c3, h0⟩
    simp [h0, r3_8, this]
  · have : ¬ T.cmp (.node f v ks) (.node f v ks') = 0 := fun h => h0 (hz.1 h).2.2.2
    simp [h0, r3_8, this]
theorem specSame_eq (a b : T) (ha : a.inner ≤ 1048576) (hb : b.inner ≤ 1048576) : callX XV 3 [.d (a.enc .sub), .d (b.enc .sub)] [] = some (.d (.bool (T.cmp a b == 0)), []) := by
  match a, b, ha, hb with
  | .node f v ks, .node f' v' ks', ha, hb =>
    simp only [T.inner] at ha hb
    exact specSame_of f v ks f' v' ks' (by omega) (by omega) (fun s s' hs hs' => specSame_eq s s' (by have := T.inners_mem hs; omega) (by have := T.inners_mem hs'; omega))
termination_by a
decreasing_by
  simp_wf
  have := List.sizeOf_lt_of_mem hs
  omega
theorem leftOf_neg {left : Int} {n : Nat} (h : left - n < 0) : leftOf left n = -1 := by unfold leftOf; rw [if_pos h]
theorem leftOf_pos {left : Int} {n : Nat} (h : ¬ left - n < 0) : leftOf left n = left - n := by unfold leftOf; rw [if_neg h]
end Go.Proofs.Ytanfjghdjkiggaa.VS
