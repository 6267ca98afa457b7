/- Contracts of the program's functions on the evaluator without names, and plain lemmas: XSumLaw. -/
import Derived.Test.YtanfjghdjkiggaaXMarkII
namespace Go.Proofs.Ytanfjghdjkiggaa.VS
set_option linter.unusedVariables false
set_option linter.unusedSimpArgs false
theorem allU_iss (l : List (List Int)) : (iss U l).allUT = true := by
  have h : ∀ l : List (List Int), DV.allUs (l.map (ints U)) = true := by
    intro l
    induction l with
    | nil => rfl
    | cons x r ih =>
      have hx := allU_ints x
      simp only [DV.allUT] at hx
      simp [DV.allUs, ih]
      exact hx
  cases l with
  | nil => rfl
  | cons x r => exact (by simp only [iss, List.map_cons, DV.allUT, DV.allU, decide_true, Bool.true_and] : (iss U (x :: r)).allUT = DV.allUs (ints U x :: r.map (ints U))).trans (h (x :: r))
theorem cntS_sum (ps : List (List Int)) : cntS ps ≤ issSize ps := by
  have h : ∀ (k : Nat), k ≤ ps.length → cntS (ps.take k) ≤ sumW (fun i => (rAt ps i).length) 0 k := by
    intro k
    induction k with
    | zero => intro _; simp [cntS]
    | succ k ih =>
      intro hk
      rw [rTake ps k (by omega), cntS_snoc]
      have := ih (by omega)
      have hs : ∀ (w : Nat → Nat) (a n : Nat), sumW w a (n + 1) = sumW w a n + w (a + n) := by
        intro w a n
        induction n generalizing a with
        | zero => simp [sumW]
        | succ n ih => rw [sumW, ih (a + 1)]; simp [sumW, Nat.add_assoc, Nat.add_comm 1 n]
      rw [hs, Nat.zero_add]; omega
  have := h ps.length (Nat.le_refl _)
  rw [List.take_length] at this
  unfold issSize; omega
theorem FnExactSum_x (ps : List (List Int)) (hl : ps.length ≤ maxLen) (ho : ∀ i, i < ps.length → (rAt ps i).length ≤ maxLen) (n : Int) (hn : -9223372036854775808 ≤ n ∧ n ≤ 9223372036854775807) : ∃ B, callX XV 348 [.d (iss .sub ps), .d (.int .i64 n)] [] = some (.d (.bool true), B) := by
  rw [z_call XV _ _ _ v348 rfl xcode_348 rfl]
  have z1 := szIntSS_eq ps 1048576 hl ho (by omega) (by omega)
  by_cases h1 : (1048576 : Int) - issSize ps < 0
  · rw [leftOf_neg h1] at z1
    simp [v348, r348_0, r348_1, r348_2, r348_3, r348_4, r348_5, r348_6, r348_7, r348_8, r348_9, r348_10, r348_11, r348_12, r348_13, r348_14, r348_15, r348_16, r348_17, r348_18, r348_19, r348_20, r348_21, r348_22, r348_23, r348_24, r348_25, r348_26, r348_27, r348_28, r348_29, r348_30, r348_31, r348_32, r348_33, z1]
  rw [leftOf_pos h1] at z1
  have hls : ps.length ≤ 1048576 := by unfold issSize at h1; omega
  have hrs : ∀ i, i < ps.length → (rAt ps i).length ≤ 1048576 := fun i hi => by have := row_le ps i hi; omega
  have t1 := toIntSS_eq ps hls hrs
  have s1 := specSum_eq ps n hls
  have s2 := implSum_eq ps n hls hrs
  have hgl := sumL_len ps n
  have hct := cntS_sum ps
  generalize sumL ps n = g at s1 s2 hgl
  have e1 := eqIntSS_self ps hls hrs
  have e2 := eqIntS_same g (by omega)
  have u1 := allU_iss ps
  have u2 := allU_ints g
  have ub := allU_bool true
  have th1 := thaw_iss 0 ps
  have f0 := fun Q : Boxs => frz_tS ps [] Q
  have m1 := fun Q : Boxs => markIss_eq ps 1 hls (by omega) [] Q
  have hcl := clr_tS 0 ps
  simp only [List.nil_append, List.length_nil] at f0 m1
  have hk : ¬ (((1 + cntS ps : Nat) : Int) < 0) := by omega
  have hk2 : ¬ (((1 + g.length : Nat) : Int) < 0) := by omega
  have hRR : (if ps = [] then ([] : Boxs) else ibs (mkS ps 1) ++ [some (iCells 0 ps)]).length = (bS 0 ps).length := by
    unfold bS; split <;> simp [mkS_ibs]
  generalize (if ps = [] then ([] : Boxs) else ibs (mkS ps 1) ++ [some (iCells 0 ps)]) = R' at m1 hRR
  generalize bS 0 ps = R at th1 f0 m1 hRR
  generalize ((1 + cntS ps : Nat) : Int) = K at m1 hk
  have th2 := thaw_ints R.length g
  have f2 := frz_tI R [] g
  have f2' := frz_tI R' [] g
  have m2 := markInts_eq g 1 (by omega) R' []
  have l2 := heldInts_eq g.length 1 (by omega) R' []
  rw [tI_len _ (mk g.length 1) g (mk_len _ _)] at l2
  rw [hRR] at f2' m2 l2
  simp only [List.append_nil] at f2 f2' m2 l2
  generalize ((1 + g.length : Nat) : Int) = K2 at m2 l2 hk2
  have hcy := clr_tI R.length g
  generalize tI R.length g = yi at *
  generalize bI g = G at *
  generalize bI (mk g.length 1) = G' at *
  generalize tS 0 ps = y at *
  have f00 := f0 []
  have f0G := f0 G
  have m1G := m1 G
  simp only [List.append_nil] at f00
  simp only [Int.natCast_one] at *
  simp [v348, r348_0, r348_1, r348_2, r348_3, r348_4, r348_5, r348_6, r348_7, r348_8, r348_9, r348_10, r348_11, r348_12, r348_13, r348_14, r348_15, r348_16, r348_17, r348_18, r348_19, r348_20, r348_21, r348_22, r348_23, r348_24, r348_25, r348_26, r348_27, r348_28, r348_29, r348_30, r348_31, r348_32, r348_33, z1, h1, t1, s1, s2, e1, e2, u1, u2, ub, th1, th2, f00, f0G, f2, f2', m1G, m2, l2, hcl, hcy, hk, hk2]
end Go.Proofs.Ytanfjghdjkiggaa.VS
