/- Contracts of the program's functions on the evaluator without names, and plain lemmas: XSum3. -/
import Derived.Test.YtanfjghdjkiggaaXSum2
namespace Go.Proofs.Ytanfjghdjkiggaa.VS
set_option linter.unusedVariables false
set_option linter.unusedSimpArgs false
/-! ## The reference's sum; marks in rows of rows -/
theorem sumJ_at (m : Nat) (ps : List (List Int)) (j i : Nat) (hi : i < m) : iAt (sumJ m ps (j + 1)) i = if i < (rAt ps j).length then IntKind.i64.wrap (iAt (sumJ m ps j) i + iAt (rAt ps j) i) else iAt (sumJ m ps j) i := by
  rw [sumJ, addR_at _ _ _ (by rw [sumJ_len]; exact hi)]
theorem take_succ_iAt (l : List Int) (i : Nat) (h : i < l.length) : l.take (i + 1) = l.take i ++ [iAt l i] := by
  rw [List.take_add_one, List.getElem?_eq_getElem h, iAt_lt h]; rfl
theorem sumCol_eq (m : Nat) (n : Int) (ps : List (List Int)) (acc : DV) (i : Nat) (hi : i < m) (hl : ps.length ≤ 4194304) :
    loopX XV [4, 5, 9, 41, 43, 44, 45] 0 [0, 1, 5, 6, 7, 8] b213_1 ⟨[(0, .d (iss .sub ps)), (1, .d (.int .i64 n)), (5, .d acc), (6, .d (.int .i64 i)), (7, .d (.int .i64 0)), (8, .d (.int .i64 0))], []⟩
    = some (.exit 2, ⟨[(0, .d (iss .sub ps)), (1, .d (.int .i64 n)), (5, .d acc), (6, .d (.int .i64 i)), (7, .d (.int .i64 (iAt (sumJ m ps ps.length) i))), (8, .d (.int .i64 ps.length)), (22, .d (.bool false))], []⟩) := by
  have h := loopX_upto (X := XV) (T := [4, 5, 9, 41, 43, 44, 45]) (L := 0) (live := [0, 1, 5, 6, 7, 8]) (b := b213_1) (n := ps.length) (γ := Unit) (st := fun (_ : Unit) j => ⟨[(0, .d (iss .sub ps)), (1, .d (.int .i64 n)), (5, .d acc), (6, .d (.int .i64 i)), (7, .d (.int .i64 (iAt (sumJ m ps j) i))), (8, .d (.int .i64 j))], []⟩) (step := fun _ _ => .inl ())
    (F := fun _ => (.exit 2, ⟨[(0, .d (iss .sub ps)), (1, .d (.int .i64 n)), (5, .d acc), (6, .d (.int .i64 i)), (7, .d (.int .i64 (iAt (sumJ m ps ps.length) i))), (8, .d (.int .i64 ps.length)), (22, .d (.bool false))], []⟩)) (R := fun _ => (.ret, ⟨[], []⟩))
    (fun _ => ⟨by simp, by simp [b213_1, r213_0, r213_1, r213_2, r213_3, r213_5, r213_6, r213_7, r213_9, r213_10, r213_8, r213_11, r213_4, r213_12]⟩)
    (fun _ j hj => by
      have hw := wrap_succ (n := j) (by omega)
      have hs := sumJ_at m ps j i hi
      generalize hx : iAt (sumJ m ps j) i = x at hs ⊢
      by_cases hr : i < (rAt ps j).length
      · rw [if_pos hr] at hs
        exact ⟨_, by simp [b213_1, r213_0, r213_1, r213_2, r213_3, r213_5, r213_6, r213_7, r213_9, r213_10, r213_8, r213_11, r213_4, r213_12, hj, hw, cut, rAt_lt hj, hr, iAt_lt hr, hx]; rfl, by simp [xheadOf, safeRegs, hs]⟩
      · rw [if_neg hr] at hs
        exact ⟨_, by simp [b213_1, r213_0, r213_1, r213_2, r213_3, r213_5, r213_6, r213_7, r213_9, r213_10, r213_8, r213_11, r213_4, r213_12, hj, hw, cut, rAt_lt hj, hr, hx]; rfl, by simp [xheadOf, safeRegs, hs]⟩)
    ps.length () 0 ⟨[(0, .d (iss .sub ps)), (1, .d (.int .i64 n)), (5, .d acc), (6, .d (.int .i64 i)), (7, .d (.int .i64 (iAt (sumJ m ps 0) i))), (8, .d (.int .i64 0))], []⟩ (by omega) (by simp [xheadOf, safeRegs])
  rw [run_on] at h
  have h0 : iAt (sumJ m ps 0) i = 0 := by simp [sumJ, iAt, hi]
  rw [h0] at h
  exact h
theorem specSum_eq (ps : List (List Int)) (n : Int) (hl : ps.length ≤ 1048576) : callX XV 213 [.d (iss .sub ps), .d (.int .i64 n)] [] = some (.d (ints U (sumL ps n)), []) := by
  rw [z_call XV _ _ _ v213 rfl xcode_213 rfl]
  by_cases hn : 1 ≤ n ∧ n ≤ 1000
  · have hs : sumL ps n = sumJ n.toNat ps ps.length := by unfold sumL; rw [if_pos hn]
    rw [hs]
    obtain ⟨m, rfl⟩ : ∃ m : Nat, n = m := ⟨n.toNat, by omega⟩
    simp only [Int.toNat_natCast]
    have hm : m ≤ 1000 := by omega
    have hm2 : (m : Int) ≤ 1000 := by omega
    have hlen := sumJ_len m ps ps.length
    have hloop := loopX_upto (X := XV) (T := [4, 5, 9, 41, 43, 44, 45]) (L := 0) (live := [0, 1, 5, 6]) (b := b213_0) (n := m) (γ := Unit) (st := fun (_ : Unit) i => ⟨[(0, .d (iss .sub ps)), (1, .d (.int .i64 m)), (5, .d (.sl U (((sumJ m ps ps.length).take i).map (.int .i64)))), (6, .d (.int .i64 i))], []⟩) (step := fun _ _ => .inl ())
      (F := fun _ => (.exit 0, ⟨[(0, .d (iss .sub ps)), (1, .d (.int .i64 m)), (5, .d (.sl U (((sumJ m ps ps.length).take m).map (.int .i64)))), (6, .d (.int .i64 m)), (16, .d (.bool false))], []⟩)) (R := fun _ => (.ret, ⟨[], []⟩))
      (fun _ => ⟨by simp, by simp [b213_0, r213_3, r213_4, r213_5, r213_6, r213_11]⟩)
      (fun _ i hi => by
        have hw := wrap_succ (n := i) (by omega)
        have hcol := sumCol_eq m m ps (.sl U (((sumJ m ps ps.length).take i).map (.int .i64))) i hi (by omega)
        have happ := app_ints ((sumJ m ps ps.length).take i) [iAt (sumJ m ps ps.length) i] U (by simp; omega)
        rw [← take_succ_iAt _ _ (by omega)] at happ
        generalize sumJ m ps ps.length = g at hcol happ hlen ⊢
        simp only [List.map_cons, List.map_nil] at happ
        generalize hx : iAt g i = x at hcol happ
        generalize h1 : (g.take i).map (DV.int .i64) = l1 at hcol happ ⊢
        generalize h2 : (g.take (i + 1)).map (DV.int .i64) = l2 at happ
        exact ⟨⟨[(0, .d (iss .sub ps)), (1, .d (.int .i64 m)), (5, .d (.sl U l2)), (6, .d (.int .i64 (i + 1 : Nat)))], []⟩, by
          simp [b213_0, r213_3, r213_4, r213_5, r213_6, r213_11, hi, hw, hm2]
          rw [hcol]
          simp [happ, hw], by simp [xheadOf, safeRegs, h2]⟩)
      m () 0 ⟨[(0, .d (iss .sub ps)), (1, .d (.int .i64 m)), (5, .d (.sl U [])), (6, .d (.int .i64 0))], []⟩ (by omega) (by simp [xheadOf, safeRegs])
    rw [run_on, List.take_of_length_le (by omega)] at hloop
    generalize sumJ m ps ps.length = g at hloop ⊢
    simp [v213, r213_0, r213_1, r213_2, r213_12]
    rw [hloop]
    simp [r213_12]
  · have hs : sumL ps n = [] := by unfold sumL; rw [if_neg hn]
    rw [hs]
    have hloop := loopX_upto (X := XV) (T := [4, 5, 9, 41, 43, 44, 45]) (L := 0) (live := [0, 1, 5, 6]) (b := b213_0) (n := 0) (γ := Unit) (st := fun (_ : Unit) i => ⟨[(0, .d (iss .sub ps)), (1, .d (.int .i64 n)), (5, .d (.sl U [])), (6, .d (.int .i64 i))], []⟩) (step := fun _ _ => .inl ())
      (F := fun _ => (.exit 0, ⟨[(0, .d (iss .sub ps)), (1, .d (.int .i64 n)), (5, .d (.sl U [])), (6, .d (.int .i64 0)), (16, .d (.bool false))], []⟩)) (R := fun _ => (.ret, ⟨[], []⟩))
      (fun _ => ⟨by simp, by
        by_cases h0 : (0 : Int) < n
        · have h1 : ¬ n ≤ 1000 := by omega
          simp [b213_0, r213_3, r213_4, r213_5, r213_6, r213_11, h0, h1]
        · simp [b213_0, r213_3, r213_4, r213_5, r213_6, r213_11, h0]⟩)
      (fun _ i hi => by omega)
      0 () 0 ⟨[(0, .d (iss .sub ps)), (1, .d (.int .i64 n)), (5, .d (.sl U [])), (6, .d (.int .i64 0))], []⟩ (by omega) (by simp [xheadOf, safeRegs])
    rw [run_on] at hloop
    simp [v213, r213_0, r213_1, r213_2, r213_12]
    rw [hloop]
    simp [r213_12]
end Go.Proofs.Ytanfjghdjkiggaa.VS
