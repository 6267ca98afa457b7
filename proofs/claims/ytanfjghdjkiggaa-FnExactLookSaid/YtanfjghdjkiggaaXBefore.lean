/- Contracts of the program's functions on the evaluator without names, and plain lemmas: XBefore. -/
import Derived.Test.YtanfjghdjkiggaaXSame
namespace Go.Proofs.Ytanfjghdjkiggaa.VS
set_option linter.unusedVariables false
set_option linter.unusedSimpArgs false
theorem implBefore_eq (a b : T) (ha : a.inner ≤ 1048576) (hb : b.inner ≤ 1048576) : callX XV 79 [.d (a.enc .sub), .d (b.enc .sub)] [] = some (.d (.bool (decide (T.cmp a b < 0))), []) := by
  rw [z_call XV _ _ _ v79 rfl xcode_79 rfl]
  have h := compare_eq a b ha hb
  simp [v79, r79_0, r79_1, h]
theorem specBefore_of (f v : Int) (ks : List T) (f' v' : Int) (ks' : List T) (hl : ks.length ≤ 1048576) (hl' : ks'.length ≤ 1048576)
    (hsame : ∀ s s', s ∈ ks → s' ∈ ks' → callX XV 3 [.d (s.enc .sub), .d (s'.enc .sub)] [] = some (.d (.bool (T.cmp s s' == 0)), []))
    (hrec : ∀ s s', s ∈ ks → s' ∈ ks' → callX XV 84 [.d (s.enc .sub), .d (s'.enc .sub)] [] = some (.d (.bool (decide (T.cmp s s' < 0))), [])) :
    callX XV 84 [.d ((T.node f v ks).enc .sub), .d ((T.node f' v' ks').enc .sub)] [] = some (.d (.bool (decide (T.cmp (.node f v ks) (.node f' v' ks') < 0))), []) := by
  rw [z_call XV _ _ _ v84 rfl xcode_84 rfl]
  rw [cmp_node]
  by_cases c1 : f = f'
  case neg =>
    have b1 : (f != f') = true := by simp [c1]
    have e : decide (cmpP f f' v v' ks.length ks'.length (T.cmps ks ks') < 0) = decide (f < f') := by
      unfold cmpP; by_cases h1 : f < f'
      · simp [h1]
      · have h2 : f > f' := by omega
        simp [h1, h2]
    rw [e]
    simp [v84, r84_0, r84_1, r84_2, r84_3, r84_4, r84_5, r84_6, r84_7, r84_8, d84_10, d84_11, r84_9, r84_12, b1]
  subst c1
  by_cases c2 : v = v'
  case neg =>
    have b2 : (v != v') = true := by simp [c2]
    have e : decide (cmpP f f v v' ks.length ks'.length (T.cmps ks ks') < 0) = decide (v < v') := by
      unfold cmpP; by_cases h1 : v < v'
      · simp [h1]
      · have h2 : v > v' := by omega
        simp [h1, h2]
    rw [e]
    simp [v84, r84_0, r84_1, r84_2, r84_3, r84_4, r84_5, r84_6, r84_7, r84_8, d84_10, d84_11, r84_9, r84_12, b2]
  subst c2
  by_cases c3 : ks.length = ks'.length
  case neg =>
    have b3 : ((ks.length : Int) != ks'.length) = true := by simp; omega
    have e : decide (cmpP f f v v ks.length ks'.length (T.cmps ks ks') < 0) = decide (ks.length < ks'.length) := by
      unfold cmpP; by_cases h1 : ks.length < ks'.length
      · simp [h1]
      · have h2 : ks'.length < ks.length := by omega
        simp [h1, h2]
    rw [e]
    simp [v84, r84_0, r84_1, r84_2, r84_3, r84_4, r84_5, r84_6, r84_7, r84_8, d84_10, d84_11, r84_9, r84_12, b3]
  have hcp : cmpP f f v v ks.length ks'.length (T.cmps ks ks') = T.cmps ks ks' := by simp [cmpP, c3]
  rw [hcp]
  have h := loopX_upto (X := XV) (T := []) (L := 2) (live := [2, 3, 5]) (b := b84_0) (n := ks.length) (γ := Int) (st := fun (_ : Unit) i => ⟨[(2, .ptr 0 0), (3, .ptr 1 0), (5, .d (.int .i64 i))], cmpB f v ks f v ks'⟩) (step := stepC ks ks')
    (F := fun _ => (.exit 0, ⟨[(2, .ptr 0 0), (3, .ptr 1 0), (5, .d (.int .i64 ks.length)), (44, .d (.bool false))], cmpB f v ks f v ks'⟩)) (R := fun r => (.ret, ⟨[(4, .d (.bool (decide (r < 0))))], cmpB f v ks f v ks'⟩))
    (fun _ => ⟨by simp, by simp [b84_0, r84_0, r84_1, r84_2, r84_3, r84_4, r84_5, r84_6, r84_7, r84_8, d84_10, d84_11, r84_9, r84_12, cmpB]⟩)
    (fun _ i hi => by
      have hw := wrap_succ (n := i) (by omega)
      have hi2 : i < ks'.length := by omega
      have hs := hsame _ _ (tAt_mem hi) (tAt_mem hi2)
      have hc := hrec _ _ (tAt_mem hi) (tAt_mem hi2)
      unfold stepC cmpB
      by_cases h0 : T.cmp (tAt ks i) (tAt ks' i) = 0
      · rw [h0] at hs ⊢
        simp only [ne_eq, not_true_eq_false, if_false]
        refine ⟨_, by simp [b84_0, r84_0, r84_1, r84_2, r84_3, r84_4, r84_5, r84_6, r84_7, r84_8, d84_10, d84_11, r84_9, r84_12, hi, hi2, hw, cut, tAt_lt hi, tAt_lt hi2, hs]; rfl, ?_⟩
        simp [xheadOf, safeRegs]
      · simp only [ne_eq, h0, not_false_eq_true, if_true]
        have h0' : (T.cmp (tAt ks i) (tAt ks' i) == 0) = false := by simp [h0]
        rw [h0'] at hs
        refine ⟨by simp, ?_⟩
        simp [b84_0, r84_0, r84_1, r84_2, r84_3, r84_4, r84_5, r84_6, r84_7, r84_8, d84_10, d84_11, r84_9, r84_12, hi, hi2, hw, cut, tAt_lt hi, tAt_lt hi2, hs, hc])
    ks.length () 0 ⟨[(2, .ptr 0 0), (3, .ptr 1 0), (5, .d (.int .i64 0))], cmpB f v ks f v ks'⟩ (by omega) (by simp [xheadOf, safeRegs, cmpB])
  rw [runC ks ks' c3 _ _ (by omega)] at h
  simp only [List.drop_zero, cmpB, terms] at h
  simp [v84, r84_0, r84_1, r84_2, r84_3, r84_4, r84_5, r84_6, r84_7, r84_8, d84_10, d84_11, r84_9, r84_12, c3]
  rw [c3] at h
  rw [h]
  by_cases h0 : T.cmps ks ks' = 0 <;> simp [h0, v84, r84_0, r84_1, r84_2, r84_3, r84_4, r84_5, r84_6, r84_7, r84_8, d84_10, d84_11, r84_9, r84_12]
theorem specBefore_eq (a b : T) (ha : a.inner ≤ 1048576) (hb : b.inner ≤ 1048576) : callX XV 84 [.d (a.enc .sub), .d (b.enc .sub)] [] = some (.d (.bool (decide (T.cmp a b < 0))), []) := by
  match a, b, ha, hb with
  | .node f v ks, .node f' v' ks', ha, hb =>
    simp only [T.inner] at ha hb
    exact specBefore_of f v ks f' v' ks' (by omega) (by omega) (fun s s' hs hs' => specSame_eq s s' (by have := T.inners_mem hs; omega) (by have := T.inners_mem hs'; omega)) (fun s s' hs hs' => specBefore_eq s s' (by have := T.inners_mem hs; omega) (by have := T.inners_mem hs'; omega))
termination_by a
decreasing_by
  simp_wf
  have := List.sizeOf_lt_of_mem hs
  omega
end Go.Proofs.Ytanfjghdjkiggaa.VS
