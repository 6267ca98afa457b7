/- Contracts of functions of the program and of the reference, on the evaluator. Condition: as each theorem says. -/
import Derived.Test.YtgdclabfecmmmaaCSyms
namespace Go.Proofs.Ytgdclabfecmmmaa.VS
set_option linter.unusedVariables false
set_option linter.unusedSimpArgs false

def inB (n a b : Int) : Bool := decide (a ≤ n) && decide (n ≤ b)
theorem l1In_eq (p : Id) (n a b : Int) : callV E p 31 [.d (.int .i64 n), .d (.int .i64 a), .d (.int .i64 b)] [] Ids.none = some ⟨.d (.bool (inB n a b)), Ids.none, []⟩ := by
  rw [s_call E _ _ _ _ _ v31 rfl rfl rfl]
  cases h1 : decide (a ≤ n) <;> simp [v31, r31_0, r31_1, h1, inB]
theorem from_eq (p : Id) (n a b : Int) : callV E p 30 [.d (.int .i64 n), .d (.int .i64 a), .d (.int .i64 b)] [] Ids.none = some ⟨.d (.bool (inB n a b)), Ids.none, []⟩ := by
  rw [s_call E _ _ _ _ _ v30 rfl rfl rfl]
  cases h1 : decide (a ≤ n) <;> simp [v30, r30_0, r30_1, h1, inB]

/-- Is it a function of the signature? -/
def isSymB (l : List SymL) (f : Int) : Bool := inB f 0 (l.length - 1)
theorem isSymB_lt {l : List SymL} {f : Int} (h : isSymB l f = true) : ∃ i : Nat, f = i ∧ i < l.length := by
  simp [isSymB, inB] at h
  exact ⟨f.toNat, by omega, by omega⟩
theorem isSym_eq (p : Id) (g : Tag) (l : List SymL) (f : Int) (hl : l.length ≤ 1048576) : callV E p 29 [.d (syms g l), .d (.int .i64 f)] [] Ids.none = some ⟨.d (.bool (isSymB l f)), Ids.none, []⟩ := by
  rw [s_call E _ _ _ _ _ v29 rfl rfl rfl]
  have hw : IntKind.i64.wrap ((l.length : Int) - 1) = l.length - 1 := wrap_sub (by omega) (by omega)
  simp [v29, r29_0, r29_1, syms, evOp, hw, from_eq, isSymB]

def blindB (l : List SymL) (f : Int) : Bool := isSymB l f && (symAt l f.toNat).ac
theorem specBlind_eq (p : Id) (g : Tag) (l : List SymL) (f : Int) (hl : l.length ≤ 1048576) : callV E p 33 [.d (syms g l), .d (.int .i64 f)] [] Ids.none = some ⟨.d (.bool (blindB l f)), Ids.none, []⟩ := by
  rw [s_call E _ _ _ _ _ v33 rfl rfl rfl]
  have hw : IntKind.i64.wrap ((l.length : Int) - 1) = l.length - 1 := wrap_sub (by omega) (by omega)
  unfold blindB
  cases h : isSymB l f
  · have h' : inB f 0 (l.length - 1) = false := h
    simp [v33, r33_0, r33_1, syms, evOp, hw, l1In_eq, h']
  · have h' : inB f 0 (l.length - 1) = true := h
    obtain ⟨i, rfl, hi⟩ := isSymB_lt h
    have e1 := symAt_lt hi
    simp [v33, r33_0, r33_1, syms, evOp, hw, l1In_eq, h', hi, e1, cut, SymL.enc, SymL.cells]
theorem implBlind_eq (p : Id) (g : Tag) (l : List SymL) (f : Int) (hl : l.length ≤ 1048576) : callV E p 34 [.d (syms g l), .d (.int .i64 f)] [] Ids.none = some ⟨.d (.bool (blindB l f)), Ids.none, []⟩ := by
  rw [s_call E _ _ _ _ _ v34 rfl rfl rfl]
  have hc := fun q => isSym_eq q g l f hl
  simp only [syms] at hc ⊢
  unfold blindB
  cases h : isSymB l f
  · simp [v34, r34_0, r34_1, evOp, hc, h]
  · obtain ⟨i, rfl, hi⟩ := isSymB_lt h
    have e1 := symAt_lt hi
    simp [v34, r34_0, r34_1, evOp, hc, h, hi, e1, cut, SymL.enc, SymL.cells]

theorem lessSyms_pos {l : List SymL} {left : Int} (h : ¬ lessSyms l left < 0) (h1 : left ≤ 1048576) : l.length ≤ 1048576 := by
  unfold lessSyms at h
  by_cases h2 : left - l.length < 0
  · simp [h2] at h
  · omega

theorem FnExactBlind_law (p : Id) (g : Tag) (l : List SymL) (hl : l.length ≤ maxLen) (ho : ∀ s, s ∈ l → s.ok) (f : Int) (hf : -9223372036854775808 ≤ f ∧ f ≤ 9223372036854775807) :
    ∃ A, callV E p 32 [.d (syms g l), .d (.int .i64 f)] [] Ids.none = some ⟨.d (.bool true), A, []⟩ := by
  rw [s_call E _ _ _ _ _ v32 rfl rfl rfl]
  have hz := fun q => szSymS_eq q g l 1048576 hl ho (by omega) (by omega)
  by_cases h1 : lessSyms l 1048576 < 0
  · simp only [syms] at hz ⊢
    apply Exists.intro
    simp [v32, r32_0, r32_1, r32_2, r32_3, r32_4, evOp, hz, h1]
    rfl
  have k1 := lessSyms_pos h1 (by omega)
  have h3 : ∀ q g, callV E q 12 [.d (syms g l)] [] Ids.none = _ := fun q g => toSymS_eq q g l k1
  have h4 : ∀ q g, callV E q 33 [.d (syms g l), .d (.int .i64 f)] [] Ids.none = _ := fun q g => specBlind_eq q g l f k1
  have h5 : ∀ q g, callV E q 34 [.d (syms g l), .d (.int .i64 f)] [] Ids.none = _ := fun q g => implBlind_eq q g l f k1
  have h6 : ∀ q g g', callV E q 15 [.d (syms g l), .d (syms g' l)] [] Ids.none = _ := fun q g g' => eqSymS_self q g g' l k1
  simp only [syms] at hz h3 h4 h5 h6 ⊢
  apply Exists.intro
  simp [v32, r32_0, r32_1, r32_2, r32_3, r32_4, r32_5, r32_6, r32_7, r32_8, r32_9, r32_10, r32_11, r32_12, evOp, hz, h1, h3, h4, h5, h6]
  rfl
end Go.Proofs.Ytgdclabfecmmmaa.VS
