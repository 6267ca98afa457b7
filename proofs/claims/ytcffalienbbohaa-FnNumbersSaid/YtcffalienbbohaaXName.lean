/- Contracts of the program's functions on the evaluator without names, and plain lemmas: XName. -/
import Derived.Test.YtcffalienbbohaaXSig
namespace Go.Proofs.Ytcffalienbbohaa.VS
set_option linter.unusedVariables false
set_option linter.unusedSimpArgs false
def smallB (c : Int) : Bool := decide (97 ≤ c) && decide (c ≤ 122)
def digitB (c : Int) : Bool := decide (48 ≤ c) && decide (c ≤ 57)
theorem isSmall_eq (c : Int) : callX XV 61 [.d (.int .u8 c)] [] = some (.d (.bool (smallB c)), []) := by
  rw [z_call XV _ _ _ v61 rfl xcode_61 rfl]
  cases h1 : decide (97 ≤ c) <;> simp [v61, r61_0, r61_1, h1, smallB]
theorem isDigit_eq (c : Int) : callX XV 62 [.d (.int .u8 c)] [] = some (.d (.bool (digitB c)), []) := by
  rw [z_call XV _ _ _ v62 rfl xcode_62 rfl]
  cases h1 : decide (48 ≤ c) <;> simp [v62, r62_0, r62_1, h1, digitB]
def okX1 (x : Int) (i : Nat) : Prop := (97 ≤ x ∧ x ≤ 122) ∨ (0 < i ∧ 48 ≤ x ∧ x ≤ 57)
instance (x : Int) (i : Nat) : Decidable (okX1 x i) := by unfold okX1; exact inferInstance

theorem body59 (s : ByteArray) (hs : s.size ≤ 1048576) (i : Nat) (hlt : i < s.size) (x : Int) (hb : byteAt s i = some x) :
    codeX XV [] b59_0 ⟨[(0, .d (.str s)), (3, .d (.int .i64 i))], []⟩ = some (if okX1 x i then (.normal, ⟨[(0, .d (.str s)), (3, .d (.int .i64 (i + 1 : Nat)))], []⟩) else (.ret, ⟨[(2, .d (.bool false))], []⟩)) := by
  have hw := wrap_succ (n := i) (by omega)
  simp [b59_0, r59_2, r59_4, r59_5, r59_3, hb, hlt, hw]
  cases h1 : decide (97 ≤ x)
  case true =>
    simp [hb]
    cases h2 : decide (x ≤ 122)
    case true =>
      simp [hb, hw]
      have : okX1 x i := by simp at h1 h2; exact .inl ⟨h1, h2⟩
      simp [this]
    case false =>
      simp [hb, hw]
      cases h3 : decide (0 < i) <;> simp [hb, hw]
      case true =>
        have h4 : (48 ≤ x) := by simp at h1; omega
        simp [h4, hb]
        have h5 : ¬ (x ≤ 57) := by simp at h1; omega
        have : ¬ okX1 x i := by simp at h1 h2; unfold okX1; omega
        simp [h5, this]
      case false =>
        have : ¬ okX1 x i := by simp at h1 h2 h3; unfold okX1; omega
        simp [this]
  case false =>
    simp [hb]
    cases h3 : decide (0 < i)
    case true =>
      simp [hb, hw]
      cases h4 : decide (48 ≤ x)
      case true =>
        simp [hb, hw]
        cases h5 : decide (x ≤ 57)
        case true =>
          have : okX1 x i := by simp at h1 h3 h4 h5; unfold okX1; omega
          simp [hw, this]
        case false =>
          have : ¬ okX1 x i := by simp at h1 h3 h4 h5; unfold okX1; omega
          simp [hw, this]
      case false =>
        have : ¬ okX1 x i := by simp at h1 h3 h4; unfold okX1; omega
        simp [hb, hw, this]
    case false =>
      have : ¬ okX1 x i := by simp at h1 h3; unfold okX1; omega
      simp [hb, hw, this]

def okAt (s : ByteArray) (i : Nat) : Bool := decide (okX1 (chr s i) i)
def allAt (s : ByteArray) (f : ByteArray → Nat → Bool) (i k : Nat) : Bool := (List.range' i k).all (f s)
theorem allAt_zero (s : ByteArray) (f : ByteArray → Nat → Bool) (i : Nat) : allAt s f i 0 = true := rfl
theorem allAt_succ (s : ByteArray) (f : ByteArray → Nat → Bool) (i k : Nat) : allAt s f i (k + 1) = (f s i && allAt s f (i + 1) k) := by simp [allAt, List.range'_succ]
theorem allAt_iff (s : ByteArray) (f : ByteArray → Nat → Bool) (i k : Nat) : allAt s f i k = true ↔ ∀ j, i ≤ j → j < i + k → f s j = true := by
  simp only [allAt, List.all_eq_true, List.mem_range'_1]
  exact ⟨fun h j h1 h2 => h j ⟨h1, h2⟩, fun h j h1 => h j h1.1 h1.2⟩

theorem loop59 (s : ByteArray) (hs : s.size ≤ 1048576) : ∀ (k i : Nat), i + k = s.size →
    loopX XV [] 0 [0, 3] b59_0 ⟨[(0, .d (.str s)), (3, .d (.int .i64 i))], []⟩ =
      some (if allAt s okAt i k then (.exit 0, ⟨[(0, .d (.str s)), (3, .d (.int .i64 s.size)), (7, .d (.bool false))], []⟩) else (.ret, ⟨[(2, .d (.bool false))], []⟩))
  | 0, i, hk => by
    have : i = s.size := by omega
    subst this
    rw [loopX_eq]
    simp [xheadOf, safeRegs, b59_0, r59_2, allAt_zero]
  | k + 1, i, hk => by
    have hlt : i < s.size := by omega
    have ih := loop59 s hs k (i + 1) (by omega)
    rw [loopX_eq, allAt_succ]
    by_cases h : okX1 (chr s i) i
    · have h2 : okAt s i = true := by simp [okAt, h]
      rw [h2, Bool.true_and, ← ih]
      simp [xheadOf, safeRegs, body59 s hs i hlt _ (byteAt_lt hlt), h]
    · have h2 : okAt s i = false := by simp [okAt, h]
      simp [xheadOf, safeRegs, body59 s hs i hlt _ (byteAt_lt hlt), h, h2]

def nameOk (s : ByteArray) : Bool := allAt s okAt 0 s.size && inB s.size 1 8

theorem specNameOk_eq (s : ByteArray) (hs : s.size ≤ 1048576) : callX XV 59 [.d (.str s)] [] = some (.d (.bool (nameOk s)), []) := by
  rw [z_call XV _ _ _ v59 rfl xcode_59 rfl]
  have h := loop59 s hs s.size 0 (by omega)
  simp [v59, r59_0, r59_1, r59_6]
  simp at h
  rw [h]
  cases h1 : allAt s okAt 0 s.size
  · simp [nameOk, h1]
  · simp [nameOk, h1, l1In_eq]

def okAt2 (s : ByteArray) (i : Nat) : Bool := smallB (chr s i) || digitB (chr s i)

theorem body60 (s : ByteArray) (hs : s.size ≤ 1048576) (i : Nat) (hlt : i < s.size) :
    codeX XV [] b60_0 ⟨[(0, .d (.str s)), (5, .d (.int .i64 s.size)), (6, .d (.int .i64 i))], []⟩ = some (if okAt2 s i then (.normal, ⟨[(0, .d (.str s)), (5, .d (.int .i64 s.size)), (6, .d (.int .i64 (i + 1 : Nat)))], []⟩) else (.ret, ⟨[(2, .d (.bool false))], []⟩)) := by
  have hw := wrap_succ (n := i) (by omega)
  have hb := byteAt_lt hlt
  simp [b60_0, r60_2, r60_3, r60_4, r60_5, r60_6, hb, hlt, hw, isSmall_eq, isDigit_eq]
  cases h1 : smallB (chr s i)
  · simp [hb, isDigit_eq]
    cases h2 : digitB (chr s i) <;> simp [hw, okAt2, h1, h2]
  · simp [hw, okAt2, h1]

theorem loop60 (s : ByteArray) (hs : s.size ≤ 1048576) : ∀ (k i : Nat), i + k = s.size →
    loopX XV [] 0 [0, 5, 6] b60_0 ⟨[(0, .d (.str s)), (5, .d (.int .i64 s.size)), (6, .d (.int .i64 i))], []⟩ =
      some (if allAt s okAt2 i k then (.exit 0, ⟨[(0, .d (.str s)), (5, .d (.int .i64 s.size)), (6, .d (.int .i64 s.size)), (7, .d (.bool false))], []⟩) else (.ret, ⟨[(2, .d (.bool false))], []⟩))
  | 0, i, hk => by
    have : i = s.size := by omega
    subst this
    rw [loopX_eq]
    simp [xheadOf, safeRegs, b60_0, r60_2, allAt_zero]
  | k + 1, i, hk => by
    have hlt : i < s.size := by omega
    have ih := loop60 s hs k (i + 1) (by omega)
    rw [loopX_eq, allAt_succ]
    cases h : okAt2 s i
    · simp [xheadOf, safeRegs, body60 s hs i hlt, h]
    · rw [Bool.true_and, ← ih]
      simp [xheadOf, safeRegs, body60 s hs i hlt, h]

def nameOk2 (s : ByteArray) : Bool := allAt s okAt2 0 s.size && (inB s.size 1 8 && smallB (chr s 0))

theorem implNameOk_eq (s : ByteArray) (hs : s.size ≤ 1048576) : callX XV 60 [.d (.str s)] [] = some (.d (.bool (nameOk2 s)), []) := by
  rw [z_call XV _ _ _ v60 rfl xcode_60 rfl]
  have h := loop60 s hs s.size 0 (by omega)
  simp [v60, r60_0, r60_1, r60_7]
  simp at h
  rw [h]
  cases h1 : allAt s okAt2 0 s.size
  · simp [nameOk2, h1]
  · simp [nameOk2, h1, from_eq]
    cases h2 : inB s.size 1 8
    · simp [h2]
    · have h3 : 0 < s.size := by simp [inB] at h2; omega
      simp [h2, byteAt_lt h3, isSmall_eq]

theorem okAt_iff (s : ByteArray) (i : Nat) : okAt s i = true ↔ (97 ≤ chr s i ∧ chr s i ≤ 122) ∨ (0 < i ∧ 48 ≤ chr s i ∧ chr s i ≤ 57) := by
  unfold okAt; rw [decide_eq_true_eq]; rfl
theorem okAt2_iff (s : ByteArray) (i : Nat) : okAt2 s i = true ↔ (97 ≤ chr s i ∧ chr s i ≤ 122) ∨ (48 ≤ chr s i ∧ chr s i ≤ 57) := by
  simp [okAt2, smallB, digitB]
theorem smallB_iff (x : Int) : smallB x = true ↔ 97 ≤ x ∧ x ≤ 122 := by simp [smallB]
theorem nameOk_same (s : ByteArray) : nameOk2 s = nameOk s := by
  rw [Bool.eq_iff_iff]
  simp only [nameOk, nameOk2, Bool.and_eq_true, allAt_iff, okAt_iff, okAt2_iff, smallB_iff]
  constructor
  · rintro ⟨h1, h2, h3⟩
    refine ⟨fun j hj hj2 => ?_, h2⟩
    have h4 := h1 j hj hj2
    rcases Nat.eq_zero_or_pos j with rfl | hp
    · exact .inl h3
    · omega
  · rintro ⟨h1, h2⟩
    have h0 : 0 < s.size := by simp [inB] at h2; omega
    have h5 := h1 0 (Nat.le_refl _) (by omega)
    refine ⟨fun j hj hj2 => ?_, h2, ?_⟩
    · have h4 := h1 j hj hj2
      omega
    · omega

end Go.Proofs.Ytcffalienbbohaa.VS
