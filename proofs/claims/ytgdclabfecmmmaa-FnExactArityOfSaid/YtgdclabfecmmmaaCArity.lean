/- Contracts of functions of the program and of the reference, on the evaluator. Condition: as each theorem says. -/
import Derived.Test.YtgdclabfecmmmaaCBlind
namespace Go.Proofs.Ytgdclabfecmmmaa.VS
set_option linter.unusedVariables false
set_option linter.unusedSimpArgs false

def arityB (l : List SymL) (f : Int) : Int := if isSymB l f = true then (symAt l f.toNat).arity else -1
theorem specArity_eq (p : Id) (g : Tag) (l : List SymL) (f : Int) (hl : l.length ≤ 1048576) : callV E p 27 [.d (syms g l), .d (.int .i64 f)] [] Ids.none = some ⟨.d (.int .i64 (arityB l f)), Ids.none, []⟩ := by
  rw [s_call E _ _ _ _ _ v27 rfl rfl rfl]
  have hw : IntKind.i64.wrap ((l.length : Int) - 1) = l.length - 1 := wrap_sub (by omega) (by omega)
  unfold arityB
  cases h : isSymB l f
  · have h' : inB f 0 (l.length - 1) = false := h
    simp [v27, r27_0, r27_1, r27_2, syms, evOp, hw, l1In_eq, h']
  · have h' : inB f 0 (l.length - 1) = true := h
    obtain ⟨i, rfl, hi⟩ := isSymB_lt h
    have e1 := symAt_lt hi
    simp [v27, r27_0, r27_1, r27_2, r27_3, syms, evOp, hw, l1In_eq, h', hi, e1, cut, SymL.enc, SymL.cells]
theorem implArity_eq (p : Id) (g : Tag) (l : List SymL) (f : Int) (hl : l.length ≤ 1048576) : callV E p 28 [.d (syms g l), .d (.int .i64 f)] [] Ids.none = some ⟨.d (.int .i64 (arityB l f)), Ids.none, []⟩ := by
  rw [s_call E _ _ _ _ _ v28 rfl rfl rfl]
  have hc := fun q => isSym_eq q g l f hl
  simp only [syms] at hc ⊢
  unfold arityB
  cases h : isSymB l f
  · simp [v28, r28_0, r28_1, r28_2, evOp, hc, h]
  · obtain ⟨i, rfl, hi⟩ := isSymB_lt h
    have e1 := symAt_lt hi
    simp [v28, r28_0, r28_1, r28_2, r28_3, evOp, hc, h, hi, e1, cut, SymL.enc, SymL.cells]

theorem FnExactArityOf_law (p : Id) (g : Tag) (l : List SymL) (hl : l.length ≤ maxLen) (ho : ∀ s, s ∈ l → s.ok) (f : Int) (hf : -9223372036854775808 ≤ f ∧ f ≤ 9223372036854775807) :
    ∃ A, callV E p 26 [.d (syms g l), .d (.int .i64 f)] [] Ids.none = some ⟨.d (.bool true), A, []⟩ := by
  rw [s_call E _ _ _ _ _ v26 rfl rfl rfl]
  have hz := fun q => szSymS_eq q g l 1048576 hl ho (by omega) (by omega)
  by_cases h1 : lessSyms l 1048576 < 0
  · simp only [syms] at hz ⊢
    apply Exists.intro
    simp [v26, r26_0, r26_1, r26_2, r26_3, r26_4, evOp, hz, h1]
    rfl
  have k1 := lessSyms_pos h1 (by omega)
  have h3 : ∀ q g, callV E q 12 [.d (syms g l)] [] Ids.none = _ := fun q g => toSymS_eq q g l k1
  have h4 : ∀ q g, callV E q 27 [.d (syms g l), .d (.int .i64 f)] [] Ids.none = _ := fun q g => specArity_eq q g l f k1
  have h5 : ∀ q g, callV E q 28 [.d (syms g l), .d (.int .i64 f)] [] Ids.none = _ := fun q g => implArity_eq q g l f k1
  have h6 : ∀ q g g', callV E q 15 [.d (syms g l), .d (syms g' l)] [] Ids.none = _ := fun q g g' => eqSymS_self q g g' l k1
  simp only [syms] at hz h3 h4 h5 h6 ⊢
  apply Exists.intro
  simp [v26, r26_0, r26_1, r26_2, r26_3, r26_4, r26_5, r26_6, r26_7, r26_8, r26_9, r26_10, r26_11, r26_12, evOp, hz, h1, h3, h4, h5, h6]
  rfl
end Go.Proofs.Ytgdclabfecmmmaa.VS
