/- Contracts of the program's functions on the evaluator without names, and plain lemmas: XSigOk. -/
import Derived.Test.YtcffalienbbohaaXName
namespace Go.Proofs.Ytcffalienbbohaa.VS
set_option linter.unusedVariables false
set_option linter.unusedSimpArgs false
/-- The first place from i on where it holds, in k places. -/
def findAt (q : Nat → Bool) : Nat → Nat → Option Nat
  | 0, _ => none
  | k + 1, i => if q i then some i else findAt q k (i + 1)
def stepF (q : Nat → Bool) (_ : Unit) (i : Nat) : Unit ⊕ Nat := if q i then .inr i else .inl ()
theorem runF (q : Nat → Bool) : ∀ (k i : Nat), runN (stepF q) k () i = match findAt q k i with | some j => .inr j | none => .inl ()
  | 0, i => rfl
  | k + 1, i => by
    simp only [runN, stepF, findAt]
    cases h : q i
    · simp [runF q k (i + 1)]
    · simp
def orNeg : Option Nat → Int
  | some j => j
  | none => -1
theorem findAt_lt (q : Nat → Bool) : ∀ (k i j : Nat), findAt q k i = some j → i ≤ j ∧ j < i + k ∧ q j = true
  | 0, i, j, h => by simp [findAt] at h
  | k + 1, i, j, h => by
    simp only [findAt] at h
    split at h
    · simp at h; subst h; exact ⟨Nat.le_refl _, by omega, by assumption⟩
    · obtain ⟨h1, h2, h3⟩ := findAt_lt q k (i + 1) j h; exact ⟨by omega, by omega, h3⟩
def symOfB (l : List SymL) (name : ByteArray) : Int := orNeg (findAt (fun i => strEq (symAt l i).name name) l.length 0)
theorem specSymOf_eq (l : List SymL) (name : ByteArray) (hl : l.length ≤ 1048576) : callX XV 13 [.d (sg l), .d (.str name)] [] = some (.d (.int .i64 (symOfB l name)), []) := by
  rw [z_call XV _ _ _ v13 rfl xcode_13 rfl]
  have h := loopX_upto (X := XV) (T := []) (L := 0) (live := [0, 1, 5]) (b := b13_0) (n := l.length) (st := fun (_ : Unit) i => ⟨[(0, .d (sg l)), (1, .d (.str name)), (5, .d (.int .i64 i))], []⟩) (step := stepF fun i => strEq (symAt l i).name name)
    (F := fun _ => (.exit 0, ⟨[(0, .d (sg l)), (1, .d (.str name)), (5, .d (.int .i64 l.length)), (9, .d (.bool false))], []⟩)) (R := fun (j : Nat) => (.ret, ⟨[(4, .d (.int .i64 j))], []⟩))
    (fun a => ⟨by simp, by simp [b13_0, r13_0, r13_1, r13_2, r13_4, r13_5, r13_3, r13_6]⟩)
    (fun a i hi => by
      have hw := wrap_succ (n := i) (by omega)
      unfold stepF
      by_cases hq : strEq (symAt l i).name name = true
      · rw [if_pos hq]; exact ⟨by simp, by simp [b13_0, r13_0, r13_1, r13_2, r13_4, r13_5, r13_3, r13_6, hi, hw, cut, symAt_lt hi, hq]⟩
      · rw [if_neg hq]
        have hq' : strEq (symAt l i).name name = false := by simpa using hq
        exact ⟨_, by simp [b13_0, r13_0, r13_1, r13_2, r13_4, r13_5, r13_3, r13_6, hi, hw, cut, symAt_lt hi, hq']; rfl, by simp [xheadOf, safeRegs]⟩)
    l.length () 0 ⟨[(0, .d (sg l)), (1, .d (.str name)), (5, .d (.int .i64 0))], []⟩ (by omega) (by simp [xheadOf, safeRegs])
  rw [runF] at h
  simp [v13, r13_0, r13_1, r13_2, r13_4, r13_5, r13_3, r13_6]
  rw [h]
  unfold symOfB
  cases hq : findAt (fun i => strEq (symAt l i).name name) l.length 0 <;> simp [orNeg, v13, r13_0, r13_1, r13_2, r13_4, r13_5, r13_3, r13_6]
theorem indexFuncS_eq (l : List SymL) (fk : Nat) (caps : List AV) (B : Boxs) (P : SymL → Bool) (hl : l.length ≤ 1048576) (hs : AV.safe.safes B.length caps = true) (hcc : caps.map AV.clr = caps) (hk : ¬ 0 ∈ XV.lin fk)
    (hf : ∀ s, s ∈ l → callX XV fk (.d s.enc :: caps) B = some (.d (.bool (P s)), B)) :
    callX XV 19 [.d (sg l), .fn fk caps] B = some (.d (.int .i64 (orNeg (findAt (fun i => P (symAt l i)) l.length 0))), B) := by
  rw [z_call XV _ _ _ v19 rfl xcode_19 rfl]
  have h := loopX_upto (X := XV) (T := XV.lin 19) (L := B.length) (live := [0, 1, 7, 8]) (b := b19_0) (n := l.length) (st := fun (_ : Unit) i => ⟨[(0, .d (sg l)), (1, .fn fk caps), (7, .d (.int .i64 l.length)), (8, .d (.int .i64 i))], B⟩) (step := stepF fun i => P (symAt l i))
    (F := fun _ => (.exit 0, ⟨[(0, .d (sg l)), (1, .fn fk caps), (7, .d (.int .i64 l.length)), (8, .d (.int .i64 l.length)), (9, .d (.bool false))], B⟩)) (R := fun (j : Nat) => (.ret, ⟨[(4, .d (.int .i64 j))], B⟩))
    (fun a => ⟨by simp, by simp [b19_0, r19_0, r19_1, r19_2, r19_3, r19_4, r19_5, r19_6, r19_7, hcc]⟩)
    (fun a i hi => by
      have hw := wrap_succ (n := i) (by omega)
      have hc := hf _ (symAt_mem hi)
      unfold stepF
      by_cases hq : P (symAt l i) = true
      · rw [if_pos hq]; rw [hq] at hc
        exact ⟨by simp, by simp [b19_0, r19_0, r19_1, r19_2, r19_3, r19_4, r19_5, r19_6, r19_7, hi, hw, cut, symAt_lt hi, hc, hcc, hk]⟩
      · rw [if_neg hq]
        have hq' : P (symAt l i) = false := by simpa using hq
        rw [hq'] at hc
        exact ⟨_, by simp [b19_0, r19_0, r19_1, r19_2, r19_3, r19_4, r19_5, r19_6, r19_7, hi, hw, cut, symAt_lt hi, hc, hcc, hk]; rfl, by simp [xheadOf, safeRegs, hs]⟩)
    l.length () 0 ⟨[(0, .d (sg l)), (1, .fn fk caps), (7, .d (.int .i64 l.length)), (8, .d (.int .i64 0))], B⟩ (by omega) (by simp [xheadOf, safeRegs, hs])
  rw [runF] at h
  simp only [lin_19] at h
  simp [v19, r19_0, r19_1, r19_2, r19_3, r19_4, r19_5, r19_6, r19_7, hcc]
  rw [h]
  cases hq : findAt (fun i => P (symAt l i)) l.length 0 <;> simp [orNeg, v19, r19_0, r19_1, r19_2, r19_3, r19_4, r19_5, r19_6, r19_7]
theorem symOf1_eq (s : SymL) (name : ByteArray) : callX XV 18 [.d s.enc, .ptr 0 0] [some [.d (.str name)]] = some (.d (.bool (strEq s.name name)), [some [.d (.str name)]]) := by
  rw [z_call XV _ _ _ v18 rfl xcode_18 rfl]
  simp [v18, r18_0, r18_1]
theorem implSymOf_eq (l : List SymL) (name : ByteArray) (hl : l.length ≤ 1048576) : callX XV 14 [.d (sg l), .d (.str name)] [] = some (.d (.int .i64 (symOfB l name)), []) := by
  rw [z_call XV _ _ _ v14 rfl xcode_14 rfl]
  have hc := indexFuncS_eq l 18 [.ptr 0 0] [some [.d (.str name)]] (fun s => strEq s.name name) hl (by simp) (by simp) (by simp) (fun s _ => symOf1_eq s name)
  simp [v14, r14_0, r14_1, hc, symOfB]
/-! SigOk -/
def badSym (l : List SymL) (s : SymL) (i : Nat) : Bool := !nameOk s.name || !(decide (symOfB l s.name = i)) || !(inB s.arity 0 3) || (s.ac && !decide (s.arity = 2))
def ttB (s : SymL) : Bool := strEq s.name ⟨#[116, 116]⟩ && decide (s.arity = 0)
def sigOkB (l : List SymL) : Bool := (findAt (fun i => badSym l (symAt l i) i) l.length 0).isNone && (inB l.length 1 8 && ttB (symAt l 0))
theorem sumW_ge (w : Nat → Nat) : ∀ (k i j : Nat), i ≤ j → j < i + k → w j ≤ sumW w i k
  | 0, i, j, h, h' => by omega
  | k + 1, i, j, h, h' => by
    simp only [sumW]
    rcases Nat.eq_or_lt_of_le h with rfl | h
    · omega
    · have := sumW_ge w k (i + 1) j h (by omega); omega
theorem name_le (l : List SymL) (i : Nat) (hi : i < l.length) : (symAt l i).name.size ≤ symsSize l := by
  have := sumW_ge (fun i => (symAt l i).name.size) l.length 0 i (Nat.zero_le _) (by omega)
  unfold symsSize; omega

theorem badSym_false (l : List SymL) (s : SymL) (i : Nat) : badSym l s i = false ↔ nameOk s.name = true ∧ symOfB l s.name = i ∧ inB s.arity 0 3 = true ∧ (s.ac = true → s.arity = 2) := by
  simp [badSym, and_assoc]
theorem body77 (l : List SymL) (hl : l.length ≤ 1048576) (i : Nat) (hi : i < l.length) (hn : (symAt l i).name.size ≤ 1048576) :
    xGoes 0 [0, 5, 6, 7] (fun (_ : Unit) i => ⟨[(0, .d (sg l)), (5, .d (sg l)), (6, .d (.int .i64 l.length)), (7, .d (.int .i64 i))], []⟩) (fun (_ : Nat) => (.ret, ⟨[(2, .d (.bool false))], [some [.d (.str (symAt l i).name), .d (.int .i64 (symAt l i).arity), .d (.bool (symAt l i).ac)]]⟩)) i
      (codeX XV (XV.lin 77) b77_0 ⟨[(0, .d (sg l)), (5, .d (sg l)), (6, .d (.int .i64 l.length)), (7, .d (.int .i64 i))], []⟩) (stepF (fun i => badSym l (symAt l i) i) () i) := by
  have hw := wrap_succ (n := i) (by omega)
  have n1 := implNameOk_eq (symAt l i).name hn
  rw [nameOk_same] at n1
  have n2 := implSymOf_eq l (symAt l i).name hl
  have n3 := from_eq (symAt l i).arity 0 3
  unfold stepF
  by_cases hb : badSym l (symAt l i) i = true
  · rw [if_pos hb]
    refine ⟨by simp, ?_⟩
    cases c1 : nameOk (symAt l i).name with
    | false => rw [c1] at n1; simp [b77_0, r77_0, r77_1, r77_2, r77_3, r77_4, r77_5, r77_6, r77_7, hi, hw, cut, symAt_lt hi, n1, splice]
    | true =>
      rw [c1] at n1
      by_cases c2 : symOfB l (symAt l i).name = i
      · have b2 : (symOfB l (symAt l i).name != i) = false := by simp [c2]
        cases c3 : inB (symAt l i).arity 0 3 with
        | false => rw [c3] at n3; simp [b77_0, r77_0, r77_1, r77_2, r77_3, r77_4, r77_5, r77_6, r77_7, hi, hw, cut, symAt_lt hi, n1, n2, b2, n3, splice]
        | true =>
          rw [c3] at n3
          have c4 : (symAt l i).ac = true ∧ ¬ (symAt l i).arity = 2 := by
            have : ¬ badSym l (symAt l i) i = false := by simp [hb]
            rw [badSym_false] at this
            simp only [c1, c2, c3, true_and] at this
            exact Classical.not_imp.1 this
          have b4 : ((symAt l i).arity != 2) = true := by simp [c4.2]
          simp [b77_0, r77_0, r77_1, r77_2, r77_3, r77_4, r77_5, r77_6, r77_7, hi, hw, cut, symAt_lt hi, n1, n2, b2, n3, splice, c4.1, b4]
      · have b2 : (symOfB l (symAt l i).name != i) = true := by simp [c2]
        simp [b77_0, r77_0, r77_1, r77_2, r77_3, r77_4, r77_5, r77_6, r77_7, hi, hw, cut, symAt_lt hi, n1, n2, b2, splice]
  · have hb' : badSym l (symAt l i) i = false := by simpa using hb
    rw [if_neg hb]
    obtain ⟨c1, c2, c3, c4⟩ := (badSym_false l _ i).1 hb'
    have b2 : (symOfB l (symAt l i).name != i) = false := by simp [c2]
    rw [c1] at n1; rw [c3] at n3
    cases c5 : (symAt l i).ac with
    | false => exact ⟨_, by simp [b77_0, r77_0, r77_1, r77_2, r77_3, r77_4, r77_5, r77_6, r77_7, hi, hw, cut, symAt_lt hi, n1, n2, b2, n3, splice, c5]; rfl, by simp [xheadOf, safeRegs]⟩
    | true =>
      have b4 : ((symAt l i).arity != 2) = false := by simp [c4 c5]
      exact ⟨_, by simp [b77_0, r77_0, r77_1, r77_2, r77_3, r77_4, r77_5, r77_6, r77_7, hi, hw, cut, symAt_lt hi, n1, n2, b2, n3, splice, c5, b4]; rfl, by simp [xheadOf, safeRegs]⟩
theorem implSigOk_eq (l : List SymL) (hl : l.length ≤ 1048576) (hn : ∀ i, i < l.length → (symAt l i).name.size ≤ 1048576) : callX XV 77 [.d (sg l)] [] = some (.d (.bool (sigOkB l)), []) := by
  rw [z_call XV _ _ _ v77 rfl xcode_77 rfl]
  have h := loopX_upto (X := XV) (T := XV.lin 77) (L := 0) (live := [0, 5, 6, 7]) (b := b77_0) (n := l.length) (γ := Nat) (st := fun (_ : Unit) i => ⟨[(0, .d (sg l)), (5, .d (sg l)), (6, .d (.int .i64 l.length)), (7, .d (.int .i64 i))], []⟩) (step := stepF fun i => badSym l (symAt l i) i)
    (F := fun _ => (.exit 0, ⟨[(0, .d (sg l)), (5, .d (sg l)), (6, .d (.int .i64 l.length)), (7, .d (.int .i64 l.length)), (8, .d (.bool false))], []⟩)) (R := fun j => (.ret, ⟨[(2, .d (.bool false))], [some [.d (.str (symAt l j).name), .d (.int .i64 (symAt l j).arity), .d (.bool (symAt l j).ac)]]⟩))
    (fun a => ⟨by simp, by simp [b77_0, r77_0, r77_1, r77_2, r77_3, r77_4, r77_5, r77_6, r77_7]⟩)
    (fun a i hi => by
      have hb := body77 l hl i hi (hn i hi)
      unfold stepF at hb ⊢
      split at hb
      · rename_i h1; rw [if_pos h1]; exact hb
      · rename_i h1; rw [if_neg h1]; exact hb)
    l.length () 0 ⟨[(0, .d (sg l)), (5, .d (sg l)), (6, .d (.int .i64 l.length)), (7, .d (.int .i64 0))], []⟩ (by omega) (by simp [xheadOf, safeRegs])
  rw [runF] at h
  simp only [lin_77] at h
  simp [v77, r77_0, r77_1, r77_2, r77_3, r77_4, r77_5, r77_6, r77_7]
  rw [h]
  unfold sigOkB
  cases hq : findAt (fun i => badSym l (symAt l i) i) l.length 0 with
  | some j => simp
  | none =>
    have n3 := from_eq l.length 1 8
    cases c1 : inB l.length 1 8 with
    | false => rw [c1] at n3; simp [v77, r77_0, r77_1, r77_2, r77_3, r77_4, r77_5, r77_6, r77_7, n3]
    | true =>
      rw [c1] at n3
      have h0 : 0 < l.length := by simp [inB] at c1; omega
      unfold ttB
      cases c2 : strEq (symAt l 0).name ⟨#[116, 116]⟩ with
      | false => simp [v77, r77_0, r77_1, r77_2, r77_3, r77_4, r77_5, r77_6, r77_7, n3, h0, symAt_lt h0, cut, c2]
      | true =>
        by_cases c3 : (symAt l 0).arity = 0
        · simp [v77, r77_0, r77_1, r77_2, r77_3, r77_4, r77_5, r77_6, r77_7, n3, h0, symAt_lt h0, cut, c2, c3]
        · have b3 : ((symAt l 0).arity == 0) = false := by simp [c3]
          simp [v77, r77_0, r77_1, r77_2, r77_3, r77_4, r77_5, r77_6, r77_7, n3, h0, symAt_lt h0, cut, c2, c3, b3]
theorem specSigOk_eq (l : List SymL) (hl : l.length ≤ 1048576) (hn : ∀ i, i < l.length → (symAt l i).name.size ≤ 1048576) : callX XV 82 [.d (sg l)] [] = some (.d (.bool (sigOkB l)), []) := by
  rw [z_call XV _ _ _ v82 rfl xcode_82 rfl]
  have h := loopX_upto (X := XV) (T := XV.lin 82) (L := 0) (live := [0, 3]) (b := b82_0) (n := l.length) (γ := Nat) (st := fun (_ : Unit) i => ⟨[(0, .d (sg l)), (3, .d (.int .i64 i))], []⟩) (step := stepF fun i => badSym l (symAt l i) i)
    (F := fun _ => (.exit 0, ⟨[(0, .d (sg l)), (3, .d (.int .i64 l.length)), (7, .d (.bool false))], []⟩)) (R := fun j => (.ret, ⟨[(2, .d (.bool false))], []⟩))
    (fun a => ⟨by simp, by simp [b82_0, r82_0, r82_1, r82_2, r82_4, r82_5, r82_3, r82_6]⟩)
    (fun a i hi => by
      have hw := wrap_succ (n := i) (by omega)
      have n1 := specNameOk_eq (symAt l i).name (hn i hi)
      have n2 := specSymOf_eq l (symAt l i).name hl
      have n3 := l1In_eq (symAt l i).arity 0 3
      unfold stepF
      by_cases hb : badSym l (symAt l i) i = true
      · rw [if_pos hb]
        refine ⟨by simp, ?_⟩
        cases c1 : nameOk (symAt l i).name with
        | false => rw [c1] at n1; simp [b82_0, r82_0, r82_1, r82_2, r82_4, r82_5, r82_3, r82_6, hi, hw, cut, symAt_lt hi, n1, splice]
        | true =>
          rw [c1] at n1
          by_cases c2 : symOfB l (symAt l i).name = i
          · have b2 : (symOfB l (symAt l i).name != i) = false := by simp [c2]
            cases c3 : inB (symAt l i).arity 0 3 with
            | false => rw [c3] at n3; simp [b82_0, r82_0, r82_1, r82_2, r82_4, r82_5, r82_3, r82_6, hi, hw, cut, symAt_lt hi, n1, n2, b2, n3, splice]
            | true =>
              rw [c3] at n3
              have c4 : (symAt l i).ac = true ∧ ¬ (symAt l i).arity = 2 := by
                have : ¬ badSym l (symAt l i) i = false := by simp [hb]
                rw [badSym_false] at this
                simp only [c1, c2, c3, true_and] at this
                exact Classical.not_imp.1 this
              have b4 : ((symAt l i).arity != 2) = true := by simp [c4.2]
              simp [b82_0, r82_0, r82_1, r82_2, r82_4, r82_5, r82_3, r82_6, hi, hw, cut, symAt_lt hi, n1, n2, b2, n3, splice, c4.1, b4]
          · have b2 : (symOfB l (symAt l i).name != i) = true := by simp [c2]
            simp [b82_0, r82_0, r82_1, r82_2, r82_4, r82_5, r82_3, r82_6, hi, hw, cut, symAt_lt hi, n1, n2, b2, splice]
      · have hb' : badSym l (symAt l i) i = false := by simpa using hb
        rw [if_neg hb]
        obtain ⟨c1, c2, c3, c4⟩ := (badSym_false l _ i).1 hb'
        have b2 : (symOfB l (symAt l i).name != i) = false := by simp [c2]
        rw [c1] at n1; rw [c3] at n3
        cases c5 : (symAt l i).ac with
        | false => exact ⟨_, by simp [b82_0, r82_0, r82_1, r82_2, r82_4, r82_5, r82_3, r82_6, hi, hw, cut, symAt_lt hi, n1, n2, b2, n3, splice, c5]; rfl, by simp [xheadOf, safeRegs]⟩
        | true =>
          have b4 : ((symAt l i).arity != 2) = false := by simp [c4 c5]
          exact ⟨_, by simp [b82_0, r82_0, r82_1, r82_2, r82_4, r82_5, r82_3, r82_6, hi, hw, cut, symAt_lt hi, n1, n2, b2, n3, splice, c5, b4]; rfl, by simp [xheadOf, safeRegs]⟩)
    l.length () 0 ⟨[(0, .d (sg l)), (3, .d (.int .i64 0))], []⟩ (by omega) (by simp [xheadOf, safeRegs])
  rw [runF] at h
  simp only [lin_82] at h
  simp [v82, r82_0, r82_1, r82_2, r82_4, r82_5, r82_3, r82_6]
  rw [h]
  unfold sigOkB
  cases hq : findAt (fun i => badSym l (symAt l i) i) l.length 0 with
  | some j => simp
  | none =>
    have n3 := l1In_eq l.length 1 8
    cases c1 : inB l.length 1 8 with
    | false => rw [c1] at n3; simp [v82, r82_0, r82_1, r82_2, r82_4, r82_5, r82_3, r82_6, n3]
    | true =>
      rw [c1] at n3
      have h0 : 0 < l.length := by simp [inB] at c1; omega
      have hnone : ∀ (q : Nat → Bool) (k i j : Nat), findAt q k i = none → i ≤ j → j < i + k → q j = false := by
        intro q k
        induction k with
        | zero => intro i j _ h1 h2; omega
        | succ k ih =>
          intro i j hf h1 h2
          simp only [findAt] at hf
          split at hf
          · simp at hf
          · rcases Nat.eq_or_lt_of_le h1 with rfl | h1
            · simpa using ‹¬ q i = true›
            · exact ih (i + 1) j hf h1 (by omega)
      have hb0 := hnone _ _ _ 0 hq (Nat.le_refl _) (by omega)
      obtain ⟨_, _, _, c4⟩ := (badSym_false l (symAt l 0) 0).1 hb0
      have key : eqCells [2, 0, 1] [.str (symAt l 0).name, .int .i64 (symAt l 0).arity, .bool (symAt l 0).ac] [.str ⟨#[116, 116]⟩, .int .i64 0, .bool false] = some (ttB (symAt l 0)) := by
        unfold ttB
        cases c2 : strEq (symAt l 0).name ⟨#[116, 116]⟩ <;> by_cases c3 : (symAt l 0).arity = 0 <;> cases c5 : (symAt l 0).ac <;> simp [eqCells, c2, c3, c5]
        have := c4 c5; omega
      have key2 : ∀ s s' : SymL, eEqAgg false [2, 0, 1] (some (.d s.enc)) (some (.d s'.enc)) = (eqCells [2, 0, 1] [.str s.name, .int .i64 s.arity, .bool s.ac] [.str s'.name, .int .i64 s'.arity, .bool s'.ac]).map fun e => .d (.bool e) := fun s s' => by
        show (eqCells [2, 0, 1] s.cells s'.cells).map _ = _
        simp [SymL.cells]
      simp [v82, r82_0, r82_1, r82_2, r82_4, r82_5, r82_3, r82_6, n3, h0, symAt_lt h0, cut, key2, key, splice]
end Go.Proofs.Ytcffalienbbohaa.VS
