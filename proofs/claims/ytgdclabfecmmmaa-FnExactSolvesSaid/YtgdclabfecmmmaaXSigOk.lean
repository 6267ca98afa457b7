/- Contracts of the program's functions on the evaluator without names, and plain lemmas: XSigOk. -/
import Derived.Test.YtgdclabfecmmmaaXName
namespace Go.Proofs.Ytgdclabfecmmmaa.VS
set_option linter.unusedVariables false
set_option linter.unusedSimpArgs false
/-- The first place from i on where it holds, in k places. -/
def findAt (q : Nat → Bool) : Nat → Nat → Option Nat
  | 0, _ => none
  | k + 1, i => if q i then some i else findAt q k (i + 1)
def stepF (q : Nat → Bool) (_ : Unit) (i : Nat) : Unit ⊕ Nat := if q i then .inr i else .inl ()
theorem runF (q : Nat → Bool) : ∀ (k i : Nat), runN (stepF q) k () i = match findAt q k i with | some j => .inr j | none => .inl ()
  | 0, i => rfl
  | k + 1, i => by
    simp only [runN, stepF, findAt]
    cases h : q i
    · simp [runF q k (i + 1)]
    · simp
def orNeg : Option Nat → Int
  | some j => j
  | none => -1
theorem findAt_lt (q : Nat → Bool) : ∀ (k i j : Nat), findAt q k i = some j → i ≤ j ∧ j < i + k ∧ q j = true
  | 0, i, j, h => by simp [findAt] at h
  | k + 1, i, j, h => by
    simp only [findAt] at h
    split at h
    · simp at h; subst h; exact ⟨Nat.le_refl _, by omega, by assumption⟩
    · obtain ⟨h1, h2, h3⟩ := findAt_lt q k (i + 1) j h; exact ⟨by omega, by omega, h3⟩
def symOfB (l : List SymL) (name : ByteArray) : Int := orNeg (findAt (fun i => strEq (symAt l i).name name) l.length 0)
theorem specSymOf_eq (l : List SymL) (name : ByteArray) (hl : l.length ≤ 1048576) : callX XV 13 [.d (sg l), .d (.str name)] [] = some (.d (.int .i64 (symOfB l name)), []) := by
  rw [z_call XV _ _ _ v13 rfl xcode_13 rfl]
  have h := loopX_upto (X := XV) (T := []) (L := 0) (live := [0, 1, 5]) (b := b13_0) (n := l.length) (st := fun (_ : Unit) i => ⟨[(0, .d (sg l)), (1, .d (.str name)), (5, .d (.int .i64 i))], []⟩) (step := stepF fun i => strEq (symAt l i).name name)
    (F := fun _ => (.exit 0, ⟨[(0, .d (sg l)), (1, .d (.str name)), (5, .d (.int .i64 l.length)), (9, .d (.bool false))], []⟩)) (R := fun (j : Nat) => (.ret, ⟨[(4, .d (.int .i64 j))], []⟩))
    (fun a => ⟨by simp, by simp [b13_0, r13_0, r13_1, r13_2, r13_4, r13_5, r13_3, r13_6]⟩)
    (fun a i hi => by
      have hw := wrap_succ (n := i) (by omega)
      unfold stepF
      by_cases hq : strEq (symAt l i).name name = true
      · rw [if_pos hq]; exact ⟨by simp, by simp [b13_0, r13_0, r13_1, r13_2, r13_4, r13_5, r13_3, r13_6, hi, hw, cut, symAt_lt hi, hq]⟩
      · rw [if_neg hq]
        have hq' : strEq (symAt l i).name name = false := by simpa using hq
        exact ⟨_, by simp [b13_0, r13_0, r13_1, r13_2, r13_4, r13_5, r13_3, r13_6, hi, hw, cut, symAt_lt hi, hq']; rfl, by simp [xheadOf, safeRegs]⟩)
    l.length () 0 ⟨[(0, .d (sg l)), (1, .d (.str name)), (5, .d (.int .i64 0))], []⟩ (by omega) (by simp [xheadOf, safeRegs])
  rw [runF] at h
  simp [v13, r13_0, r13_1, r13_2, r13_4, r13_5, r13_3, r13_6]
  rw [h]
  unfold symOfB
  cases hq : findAt (fun i => strEq (symAt l i).name name) l.length 0 <;> simp [orNeg, v13, r13_0, r13_1, r13_2, r13_4, r13_5, r13_3, r13_6]
theorem indexFuncS_eq (l : List SymL) (fk : Nat) (caps : List AV) (B : Boxs) (P : SymL → Bool) (hl : l.length ≤ 1048576) (hs : AV.safe.safes B.length caps = true) (hcc : caps.map AV.clr = caps) (hk : ¬ 0 ∈ XV.lin fk)
    (hf : ∀ s, s ∈ l → callX XV fk (.d s.enc :: caps) B = some (.d (.bool (P s)), B)) :
    callX XV 19 [.d (sg l), .fn fk caps] B = some (.d (.int .i64 (orNeg (findAt (fun i => P (symAt l i)) l.length 0))), B) := by
  rw [z_call XV _ _ _ v19 rfl xcode_19 rfl]
  have h := loopX_upto (X := XV) (T := XV.lin 19) (L := B.length) (live := [0, 1, 7, 8]) (b := b19_0) (n := l.length) (st := fun (_ : Unit) i => ⟨[(0, .d (sg l)), (1, .fn fk caps), (7, .d (.int .i64 l.length)), (8, .d (.int .i64 i))], B⟩) (step := stepF fun i => P (symAt l i))
    (F := fun _ => (.exit 0, ⟨[(0, .d (sg l)), (1, .fn fk caps), (7, .d (.int .i64 l.length)), (8, .d (.int .i64 l.length)), (9, .d (.bool false))], B⟩)) (R := fun (j : Nat) => (.ret, ⟨[(4, .d (.int .i64 j))], B⟩))
    (fun a => ⟨by simp, by simp [b19_0, r19_0, r19_1, r19_2, r19_3, r19_4, r19_5, r19_6, r19_7, hcc]⟩)
    (fun a i hi => by
      have hw := wrap_succ (n := i) (by omega)
      have hc := hf _ (symAt_mem hi)
      unfold stepF
      by_cases hq : P (symAt l i) = true
      · rw [if_pos hq]; rw [hq] at hc
        exact ⟨by simp, by simp [b19_0, r19_0, r19_1, r19_2, r19_3, r19_4, r19_5, r19_6, r19_7, hi, hw, cut, symAt_lt hi, hc, hcc, hk]⟩
      · rw [if_neg hq]
        have hq' : P (symAt l i) = false := by simpa using hq
        rw [hq'] at hc
        exact ⟨_, by simp [b19_0, r19_0, r19_1, r19_2, r19_3, r19_4, r19_5, r19_6, r19_7, hi, hw, cut, symAt_lt hi, hc, hcc, hk]; rfl, by simp [xheadOf, safeRegs, hs]⟩)
    l.length () 0 ⟨[(0, .d (sg l)), (1, .fn fk caps), (7, .d (.int .i64 l.length)), (8, .d (.int .i64 0))], B⟩ (by omega) (by simp [xheadOf, safeRegs, hs])
  rw [runF] at h
  simp only [lin_19] at h
  simp [v19, r19_0, r19_1, r19_2, r19_3, r19_4, r19_5, r19_6, r19_7, hcc]
  rw [h]
  cases hq : findAt (fun i => P (symAt l i)) l.length 0 <;> simp [orNeg, v19, r19_0, r19_1, r19_2, r19_3, r19_4, r19_5, r19_6, r19_7]
theorem symOf1_eq (s : SymL) (name : ByteArray) : callX XV 18 [.d s.enc, .ptr 0 0] [some [.d (.str name)]] = some (.d (.bool (strEq s.name name)), [some [.d (.str name)]]) := by
  rw [z_call XV _ _ _ v18 rfl xcode_18 rfl]
  simp [v18, r18_0, r18_1]
theorem implSymOf_eq (l : List SymL) (name : ByteArray) (hl : l.length ≤ 1048576) : callX XV 14 [.d (sg l), .d (.str name)] [] = some (.d (.int .i64 (symOfB l name)), []) := by
  rw [z_call XV _ _ _ v14 rfl xcode_14 rfl]
  have hc := indexFuncS_eq l 18 [.ptr 0 0] [some [.d (.str name)]] (fun s => strEq s.name name) hl (by simp) (by simp) (by simp) (fun s _ => symOf1_eq s name)
  simp [v14, r14_0, r14_1, hc, symOfB]
/-! SigOk -/
def badSym (l : List SymL) (s : SymL) (i : Nat) : Bool := !nameOk s.name || !(decide (symOfB l s.name = i)) || !(inB s.arity 0 3) || (s.ac && !decide (s.arity = 2))
def ttB (s : SymL) : Bool := strEq s.name ⟨#[116, 116]⟩ && decide (s.arity = 0)
def sigOkB (l : List SymL) : Bool := (findAt (fun i => badSym l (symAt l i) i) l.length 0).isNone && (inB l.length 1 8 && ttB (symAt l 0))
theorem sumW_ge (w : Nat → Nat) : ∀ (k i j : Nat), i ≤ j → j < i + k → w j ≤ sumW w i k
  | 0, i, j, h, h' => by omega
  | k + 1, i, j, h, h' => by
    simp only [sumW]
    rcases Nat.eq_or_lt_of_le h with rfl | h
    · omega
    · have := sumW_ge w k (i + 1) j h (by omega); omega
theorem name_le (l : List SymL) (i : Nat) (hi : i < l.length) : (symAt l i).name.size ≤ symsSize l := by
  have := sumW_ge (fun i => (symAt l i).name.size) l.length 0 i (Nat.zero_le _) (by omega)
  unfold symsSize; omega

theorem badSym_false (l : List SymL) (s : SymL) (i : Nat) : badSym l s i = false ↔ nameOk s.name = true ∧ symOfB l s.name = i ∧ inB s.arity 0 3 = true ∧ (s.ac = true → s.arity = 2) := by
  simp [badSym, and_assoc]
end Go.Proofs.Ytgdclabfecmmmaa.VS
