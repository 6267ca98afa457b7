/- Contracts of the program's functions on the evaluator without names, and plain lemmas: XWeight. -/
import Derived.Test.YtanfjghdjkiggaaXSig
import Derived.Test.YtanfjghdjkiggaaXCount
namespace Go.Proofs.Ytanfjghdjkiggaa.VS
set_option linter.unusedVariables false
set_option linter.unusedSimpArgs false
def wW (l : List SymL) (x : T) : Int := if blindB l x.f = true ∧ 0 < x.kids.length then (x.kids.length : Int) - 1 else 1
def cellsT (f v : Int) (ks : List T) : Boxs := [some [.d (.int .i64 f), .d (.int .i64 v), .d (terms .sub ks)]]
theorem implWeight_of (l : List SymL) (hs : l.length ≤ 1048576) (f v : Int) (ks : List T) (hl : ks.length ≤ 1048576) (hrec : ∀ s, s ∈ ks → callX XV 118 [.d (sg l), .d (s.enc .sub)] [] = some (.d (.int .i64 (IntKind.i64.wrap (T.sum (wW l) s))), [])) :
    callX XV 118 [.d (sg l), .d ((T.node f v ks).enc .sub)] [] = some (.d (.int .i64 (IntKind.i64.wrap (T.sum (wW l) (.node f v ks)))), []) := by
  rw [z_call XV _ _ _ v118 rfl xcode_118 rfl]
  have h := fun m => loopX_upto (X := XV) (T := XV.lin 118) (L := 1) (live := [0, 5, 23, 24, 25]) (b := b118_0) (n := ks.length) (γ := Unit) (st := fun (m : Int) i => ⟨[(0, .d (sg l)), (5, .d (.int .i64 m)), (23, .d (terms .sub ks)), (24, .d (.int .i64 ks.length)), (25, .d (.int .i64 i))], cellsT f v ks⟩) (step := stepA (fun t => IntKind.i64.wrap (T.sum (wW l) t)) ks)
    (F := fun m => (.exit 0, ⟨[(0, .d (sg l)), (5, .d (.int .i64 m)), (23, .d (terms .sub ks)), (24, .d (.int .i64 ks.length)), (25, .d (.int .i64 ks.length)), (26, .d (.bool false))], cellsT f v ks⟩)) (R := fun r => (.ret, ⟨[], []⟩))
    (fun _ => ⟨by simp, by simp [b118_0, r118_0, r118_1, r118_2, r118_3, r118_4, r118_5, r118_6, r118_7, r118_8, r118_9]⟩)
    (fun m i hi => by
      have hw := wrap_succ (n := i) (by omega)
      have hc := hrec _ (tAt_mem hi)
      unfold cellsT
      exact ⟨_, by simp [b118_0, r118_0, r118_1, r118_2, r118_3, r118_4, r118_5, r118_6, r118_7, r118_8, r118_9, hi, hw, cut, tAt_lt hi, hc, splice]; rfl, by simp [xheadOf, safeRegs]⟩)
    ks.length (IntKind.i64.wrap m) 0 ⟨[(0, .d (sg l)), (5, .d (.int .i64 (IntKind.i64.wrap m))), (23, .d (terms .sub ks)), (24, .d (.int .i64 ks.length)), (25, .d (.int .i64 0))], cellsT f v ks⟩ (by omega) (by simp [xheadOf, safeRegs, cellsT])
  have h' := fun m => by
    have := h m
    rw [runA _ _ _ _ _ (by omega)] at this
    simpa only [List.drop_zero, terms, cellsT, lin_118] using this
  have hs2 : T.sum (wW l) (T.node f v ks) = wW l (.node f v ks) + T.sums (wW l) ks := by simp [T.sum]
  have hb := implBlind_eq l hs f
  have hw1 : IntKind.i64.wrap ((ks.length : Int) - 1) = ks.length - 1 := wrap_i64 (by omega) (by omega)
  rw [hs2]
  have h1 := h' 1
  rw [show IntKind.i64.wrap 1 = 1 from rfl] at h1
  have h2 := h' (ks.length - 1)
  rw [hw1] at h2
  simp only [wW, T.f_node, T.kids_node]
  by_cases c1 : blindB l f = true
  case neg =>
    have c1' : blindB l f = false := by simpa using c1
    rw [c1'] at hb
    simp only [c1', Bool.false_eq_true, false_and, if_false]
    simp [v118, r118_0, r118_1, r118_2, r118_3, r118_4, r118_5, r118_6, r118_7, r118_8, r118_9, hb]
    rw [h1]
    simp [v118, r118_0, r118_1, r118_2, r118_3, r118_4, r118_5, r118_6, r118_7, r118_8, r118_9]
  case pos =>
    rw [c1] at hb
    simp only [c1, true_and]
    by_cases c2 : 0 < ks.length
    · simp [v118, r118_0, r118_1, r118_2, r118_3, r118_4, r118_5, r118_6, r118_7, r118_8, r118_9, hb, c2, hw1]
      rw [h2]
      simp [v118, r118_0, r118_1, r118_2, r118_3, r118_4, r118_5, r118_6, r118_7, r118_8, r118_9]
    · simp [v118, r118_0, r118_1, r118_2, r118_3, r118_4, r118_5, r118_6, r118_7, r118_8, r118_9, hb, c2]
      rw [h1]
      simp [v118, r118_0, r118_1, r118_2, r118_3, r118_4, r118_5, r118_6, r118_7, r118_8, r118_9]
theorem implWeight_eq (l : List SymL) (hs : l.length ≤ 1048576) (t : T) (ht : t.inner ≤ 1048576) : callX XV 118 [.d (sg l), .d (t.enc .sub)] [] = some (.d (.int .i64 (IntKind.i64.wrap (T.sum (wW l) t))), []) := by
  match t, ht with
  | .node f v ks, ht =>
    simp only [T.inner] at ht
    exact implWeight_of l hs f v ks (by omega) (fun s h => implWeight_eq l hs s (by have := T.inners_mem h; omega))
termination_by t
decreasing_by
  simp_wf
  have := List.sizeOf_lt_of_mem h
  omega
theorem specWeight_of (l : List SymL) (hs : l.length ≤ 1048576) (f v : Int) (ks : List T) (hl : ks.length ≤ 1048576) (hrec : ∀ s, s ∈ ks → callX XV 117 [.d (sg l), .d (s.enc .sub)] [] = some (.d (.int .i64 (IntKind.i64.wrap (T.sum (wW l) s))), [])) :
    callX XV 117 [.d (sg l), .d ((T.node f v ks).enc .sub)] [] = some (.d (.int .i64 (IntKind.i64.wrap (T.sum (wW l) (.node f v ks)))), []) := by
  rw [z_call XV _ _ _ v117 rfl xcode_117 rfl]
  have h := fun m => loopX_upto (X := XV) (T := []) (L := 1) (live := [0, 3, 5, 6]) (b := b117_0) (n := ks.length) (γ := Unit) (st := fun (m : Int) i => ⟨[(0, .d (sg l)), (3, .ptr 0 0), (5, .d (.int .i64 m)), (6, .d (.int .i64 i))], cellsT f v ks⟩) (step := stepA (fun t => IntKind.i64.wrap (T.sum (wW l) t)) ks)
    (F := fun m => (.exit 0, ⟨[(0, .d (sg l)), (3, .ptr 0 0), (5, .d (.int .i64 m)), (6, .d (.int .i64 ks.length)), (25, .d (.bool false))], cellsT f v ks⟩)) (R := fun r => (.ret, ⟨[], []⟩))
    (fun _ => ⟨by simp, by simp [b117_0, r117_0, r117_1, r117_2, r117_3, r117_4, r117_5, r117_7, r117_6, r117_8, cellsT]⟩)
    (fun m i hi => by
      have hw := wrap_succ (n := i) (by omega)
      have hc := hrec _ (tAt_mem hi)
      unfold cellsT
      exact ⟨_, by simp [b117_0, r117_0, r117_1, r117_2, r117_3, r117_4, r117_5, r117_7, r117_6, r117_8, hi, hw, cut, tAt_lt hi, hc, splice]; rfl, by simp [xheadOf, safeRegs]⟩)
    ks.length (IntKind.i64.wrap m) 0 ⟨[(0, .d (sg l)), (3, .ptr 0 0), (5, .d (.int .i64 (IntKind.i64.wrap m))), (6, .d (.int .i64 0))], cellsT f v ks⟩ (by omega) (by simp [xheadOf, safeRegs, cellsT])
  have h' := fun m => by
    have := h m
    rw [runA _ _ _ _ _ (by omega)] at this
    simpa only [List.drop_zero, terms, cellsT] using this
  have hs2 : T.sum (wW l) (T.node f v ks) = wW l (.node f v ks) + T.sums (wW l) ks := by simp [T.sum]
  have hb := specBlind_eq l hs f
  have hw1 : IntKind.i64.wrap ((ks.length : Int) - 1) = ks.length - 1 := wrap_i64 (by omega) (by omega)
  rw [hs2]
  have h1 := h' 1
  rw [show IntKind.i64.wrap 1 = 1 from rfl] at h1
  have h2 := h' (ks.length - 1)
  rw [hw1] at h2
  simp only [wW, T.f_node, T.kids_node]
  by_cases c1 : blindB l f = true
  case neg =>
    have c1' : blindB l f = false := by simpa using c1
    rw [c1'] at hb
    simp only [c1', Bool.false_eq_true, false_and, if_false]
    simp [v117, r117_0, r117_1, r117_2, r117_3, r117_4, r117_5, r117_7, r117_6, r117_8, hb]
    rw [h1]
    simp [v117, r117_0, r117_1, r117_2, r117_3, r117_4, r117_5, r117_7, r117_6, r117_8]
  case pos =>
    rw [c1] at hb
    simp only [c1, true_and]
    by_cases c2 : 0 < ks.length
    · simp [v117, r117_0, r117_1, r117_2, r117_3, r117_4, r117_5, r117_7, r117_6, r117_8, hb, c2, hw1]
      rw [h2]
      simp [v117, r117_0, r117_1, r117_2, r117_3, r117_4, r117_5, r117_7, r117_6, r117_8]
    · simp [v117, r117_0, r117_1, r117_2, r117_3, r117_4, r117_5, r117_7, r117_6, r117_8, hb, c2]
      rw [h1]
      simp [v117, r117_0, r117_1, r117_2, r117_3, r117_4, r117_5, r117_7, r117_6, r117_8]
theorem specWeight_eq (l : List SymL) (hs : l.length ≤ 1048576) (t : T) (ht : t.inner ≤ 1048576) : callX XV 117 [.d (sg l), .d (t.enc .sub)] [] = some (.d (.int .i64 (IntKind.i64.wrap (T.sum (wW l) t))), []) := by
  match t, ht with
  | .node f v ks, ht =>
    simp only [T.inner] at ht
    exact specWeight_of l hs f v ks (by omega) (fun s h => specWeight_eq l hs s (by have := T.inners_mem h; omega))
termination_by t
decreasing_by
  simp_wf
  have := List.sizeOf_lt_of_mem h
  omega
end Go.Proofs.Ytanfjghdjkiggaa.VS
