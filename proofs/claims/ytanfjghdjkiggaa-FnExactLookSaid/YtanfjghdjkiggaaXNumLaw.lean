/- Contracts of the program's functions on the evaluator without names, and plain lemmas: XNumLaw. -/
import Derived.Test.YtanfjghdjkiggaaXMarkI
namespace Go.Proofs.Ytanfjghdjkiggaa.VS
set_option linter.unusedVariables false
set_option linter.unusedSimpArgs false
theorem eqIntS_same (l : List Int) (hl : l.length ≤ 4194304) : callX XV 44 [.d (is l), .d (is l)] [] = some (.d (.bool true), []) := by
  rw [z_call XV _ _ _ v44 rfl xcode_44 rfl]
  have hloop := loopX_upto (X := XV) (T := []) (L := 0) (live := [0, 1, 5]) (b := b44_0) (n := l.length) (γ := Unit) (st := fun (_ : Unit) i => ⟨[(0, .d (is l)), (1, .d (is l)), (5, .d (.int .i64 i))], []⟩) (step := fun _ _ => .inl ())
    (F := fun _ => (.exit 0, ⟨[(0, .d (is l)), (1, .d (is l)), (5, .d (.int .i64 l.length)), (14, .d (.bool false))], []⟩)) (R := fun _ => (.ret, ⟨[], []⟩))
    (fun _ => ⟨by simp, by simp [b44_0, r44_0, r44_1, r44_2, r44_3, r44_4, d44_6, r44_7, r44_5, r44_8]⟩)
    (fun _ i hi => by
      have hw := wrap_succ (n := i) (by omega)
      exact ⟨_, by simp [b44_0, r44_0, r44_1, r44_2, r44_3, r44_4, d44_6, r44_7, r44_5, r44_8, hi, hw, cut, iAt_lt hi]; rfl, by simp [xheadOf, safeRegs]⟩)
    l.length () 0 ⟨[(0, .d (is l)), (1, .d (is l)), (5, .d (.int .i64 0))], []⟩ (by omega) (by simp [xheadOf, safeRegs])
  rw [run_on] at hloop
  simp [v44, r44_0, r44_1, r44_2, r44_3, r44_4, d44_6, r44_7, r44_5, r44_8]
  rw [hloop]
  simp [v44, r44_0, r44_1, r44_2, r44_3, r44_4, d44_6, r44_7, r44_5, r44_8]
theorem allU_ints (l : List Int) : (DV.sl U (l.map (.int .i64))).allUT = true := by
  have h : ∀ l : List Int, DV.allUs (l.map (.int .i64)) = true := by
    intro l
    induction l with
    | nil => rfl
    | cons x r ih => simp [DV.allUs, DV.allU, ih]
  cases l with
  | nil => rfl
  | cons x r => simpa [DV.allUT, DV.allU] using h (x :: r)
theorem allU_bool (b : Bool) : (DV.bool b).allUT = true := rfl
theorem bI_len (l l' : List Int) (h : l.length = l'.length) : (bI l).length = (bI l').length := by
  unfold bI; cases l <;> cases l' <;> simp at h <;> simp
theorem FnExactNumAdd_x (l : List Int) (hl : l.length ≤ maxLen) (ho : ∀ n, n ∈ l → -9223372036854775808 ≤ n ∧ n ≤ 9223372036854775807) (n : Int) (hn : -9223372036854775808 ≤ n ∧ n ≤ 9223372036854775807) : ∃ B, callX XV 347 [.d (is l), .d (.int .i64 n)] [] = some (.d (.bool true), B) := by
  rw [z_call XV _ _ _ v347 rfl xcode_347 rfl]
  by_cases h1 : (1048576 : Int) < l.length
  · simp [v347, r347_0, r347_1, r347_2, r347_3, r347_4, r347_5, r347_6, r347_7, r347_8, r347_9, r347_10, r347_11, r347_12, r347_13, r347_14, r347_15, r347_16, r347_17, r347_18, r347_19, r347_20, r347_21, r347_22, r347_23, r347_24, r347_25, r347_26, r347_27, r347_28, r347_29, r347_30, r347_31, h1]
  have hls : l.length ≤ 1048576 := by omega
  have t1 := toIntS_eq l hls
  have s1 := specNumAdd_eq l n (by omega)
  have s2 := implNumAdd_eq .sub l n [] (by omega)
  have hg := numAddL_len l n
  generalize numAddL l n = g at s1 s2 hg
  have e0 := eqIntS_same l (by omega)
  have e1 := eqIntS_same g (by omega)
  have a0 := allU_ints l
  have a1 := allU_ints g
  have ab := allU_bool true
  have th0 := thaw_ints 0 l
  have th1 := thaw_ints (bI l).length g
  have f0 : AV.frz (bI l) (tI 0 l) = some (is l) := by simpa using frz_tI [] [] l
  have f1 : AV.frz (bI l ++ bI g) (tI 0 l) = some (is l) := by simpa using frz_tI [] (bI g) l
  have f2 : AV.frz (bI l ++ bI g) (tI (bI l).length g) = some (is g) := by simpa using frz_tI (bI l) [] g
  have hbl : (bI (mk l.length 1)).length = (bI l).length := bI_len _ _ (mk_len _ _)
  have m1 : callX XV 344 [tI 0 l, .d (.int .i64 1)] (bI l ++ bI g) = some (.d (.int .i64 ((1 + l.length : Nat) : Int)), bI (mk l.length 1) ++ bI g) := by simpa using markInts_eq l 1 (by omega) [] (bI g)
  have f3 : AV.frz (bI (mk l.length 1) ++ bI g) (tI (bI l).length g) = some (is g) := by rw [← hbl]; simpa using frz_tI (bI (mk l.length 1)) [] g
  have m2 : callX XV 344 [tI (bI l).length g, .d (.int .i64 1)] (bI (mk l.length 1) ++ bI g) = some (.d (.int .i64 ((1 + g.length : Nat) : Int)), bI (mk l.length 1) ++ bI (mk g.length 1)) := by
    rw [← hbl]; simpa using markInts_eq g 1 (by omega) (bI (mk l.length 1)) []
  have h2 : callX XV 345 [tI (bI l).length g, .d (.int .i64 1)] (bI (mk l.length 1) ++ bI (mk g.length 1)) = some (.d (.int .i64 ((1 + g.length : Nat) : Int)), bI (mk l.length 1) ++ bI (mk g.length 1)) := by
    rw [← hbl, tI_len _ g (mk g.length 1) (mk_len _ _).symm]; simpa using heldInts_eq g.length 1 (by omega) (bI (mk l.length 1)) []
  have c0 := clr_tI 0 l
  have c1 := clr_tI (bI l).length g
  have n1 : ¬ (((1 + l.length : Nat) : Int) < 0) := by omega
  have n2 : ¬ (((1 + g.length : Nat) : Int) < 0) := by omega
  generalize ((1 + l.length : Nat) : Int) = kl at m1 n1
  generalize ((1 + g.length : Nat) : Int) = kg at m2 h2 n2
  generalize hx : tI 0 l = x at *
  generalize hy : tI (bI l).length g = y at *
  simp [v347, r347_0, r347_1, r347_2, r347_3, r347_4, r347_5, r347_6, r347_7, r347_8, r347_9, r347_10, r347_11, r347_12, r347_13, r347_14, r347_15, r347_16, r347_17, r347_18, r347_19, r347_20, r347_21, r347_22, r347_23, r347_24, r347_25, r347_26, r347_27, r347_28, r347_29, r347_30, r347_31, h1, t1, s1, s2, e0, e1, a0, a1, ab, th0, th1, f0, f1, f2, f3, m1, m2, h2, c0, c1, n1, n2, hx, hy]
end Go.Proofs.Ytanfjghdjkiggaa.VS
