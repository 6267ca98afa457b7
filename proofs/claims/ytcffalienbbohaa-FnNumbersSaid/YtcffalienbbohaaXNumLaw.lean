/- Contracts of the program's functions on the evaluator without names, and plain lemmas: XNumLaw. -/
import Derived.Test.YtcffalienbbohaaXMarkI
namespace Go.Proofs.Ytcffalienbbohaa.VS
set_option linter.unusedVariables false
set_option linter.unusedSimpArgs false
theorem eqIntS_same (l : List Int) (hl : l.length ≤ 4194304) : callX XV 44 [.d (is l), .d (is l)] [] = some (.d (.bool true), []) := by
  rw [z_call XV _ _ _ v44 rfl xcode_44 rfl]
  have hloop := loopX_upto (X := XV) (T := []) (L := 0) (live := [0, 1, 5]) (b := b44_0) (n := l.length) (γ := Unit) (st := fun (_ : Unit) i => ⟨[(0, .d (is l)), (1, .d (is l)), (5, .d (.int .i64 i))], []⟩) (step := fun _ _ => .inl ())
    (F := fun _ => (.exit 0, ⟨[(0, .d (is l)), (1, .d (is l)), (5, .d (.int .i64 l.length)), (14, .d (.bool false))], []⟩)) (R := fun _ => (.ret, ⟨[], []⟩))
    (fun _ => ⟨by simp, by simp [b44_0, r44_0, r44_1, r44_2, r44_3, r44_4, d44_6, r44_7, r44_5, r44_8]⟩)
    (fun _ i hi => by
      have hw := wrap_succ (n := i) (by omega)
      exact ⟨_, by simp [b44_0, r44_0, r44_1, r44_2, r44_3, r44_4, d44_6, r44_7, r44_5, r44_8, hi, hw, cut, iAt_lt hi]; rfl, by simp [xheadOf, safeRegs]⟩)
    l.length () 0 ⟨[(0, .d (is l)), (1, .d (is l)), (5, .d (.int .i64 0))], []⟩ (by omega) (by simp [xheadOf, safeRegs])
  rw [run_on] at hloop
  simp [v44, r44_0, r44_1, r44_2, r44_3, r44_4, d44_6, r44_7, r44_5, r44_8]
  rw [hloop]
  simp [v44, r44_0, r44_1, r44_2, r44_3, r44_4, d44_6, r44_7, r44_5, r44_8]
theorem allU_ints (l : List Int) : (DV.sl U (l.map (.int .i64))).allUT = true := by
  have h : ∀ l : List Int, DV.allUs (l.map (.int .i64)) = true := by
    intro l
    induction l with
    | nil => rfl
    | cons x r ih => simp [DV.allUs, DV.allU, ih]
  cases l with
  | nil => rfl
  | cons x r => simpa [DV.allUT, DV.allU] using h (x :: r)
theorem allU_bool (b : Bool) : (DV.bool b).allUT = true := rfl
theorem bI_len (l l' : List Int) (h : l.length = l'.length) : (bI l).length = (bI l').length := by
  unfold bI; cases l <;> cases l' <;> simp at h <;> simp
end Go.Proofs.Ytcffalienbbohaa.VS
