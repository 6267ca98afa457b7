/- The function NameOk of the program and the one of the reference, on the evaluator: both are one and the same plain function of the text. Condition: the text has at most 1048576 bytes. -/
import Derived.Test.YtgdclabfecmmmaaCode
import Derived.Test.YtgdclabfecmmmaaEngB
namespace Go.Proofs.Ytgdclabfecmmmaa.VS
set_option linter.unusedVariables false
set_option linter.unusedSimpArgs false
attribute [local simp] codeV_seq codeV_ret codeV_exit codeV_skip codeV_loop s_ops s_true s_false s_then s_none s_some s_bool s_und s_region s_end s_block s_unblock s_cond s_ctrue s_cfalse s_ret s_norm s_move s_pick s_pickB s_put s_build s_nilCheck s_bin s_eqAgg s_eqB s_eqNil s_not s_conv s_index s_indexAddr s_fieldAddr s_slice s_makeFunc s_extract s_len s_max evOps_nil put_some put_none keep_nil keep_cons lk_nil lk_cons get_t get_c argRegs andThen_normal andThen_ret andThen_exit finish ressOf resOf evP loadBox evBin_int evInt_eql evInt_neq evInt_lss evInt_leq evInt_gtr evInt_geq evInt_add evInt_sub evInt_mul cellsA_agg cellsA_int cellsA_bool cellsA_str cellsA_sl isCellA_d isCell_int isCell_sl isCell_bool isCell_str safe_d datas gets cells_int cells_bool cells_str cells_sl cells_agg

def smallB (c : Int) : Bool := decide (97 ≤ c) && decide (c ≤ 122)
def digitB (c : Int) : Bool := decide (48 ≤ c) && decide (c ≤ 57)
def inB (n a b : Int) : Bool := decide (a ≤ n) && decide (n ≤ b)
theorem isSmall_eq (p : Id) (c : Int) : callV E p 61 [.d (.int .u8 c)] [] Ids.none = some ⟨.d (.bool (smallB c)), Ids.none, []⟩ := by
  rw [s_call E _ _ _ _ _ v61 rfl rfl rfl]
  cases h1 : decide (97 ≤ c) <;> simp [v61, r61_0, r61_1, h1, smallB]
theorem l1In_eq (p : Id) (n a b : Int) : callV E p 31 [.d (.int .i64 n), .d (.int .i64 a), .d (.int .i64 b)] [] Ids.none = some ⟨.d (.bool (inB n a b)), Ids.none, []⟩ := by
  rw [s_call E _ _ _ _ _ v31 rfl rfl rfl]
  cases h1 : decide (a ≤ n) <;> simp [v31, r31_0, r31_1, h1, inB]
theorem isDigit_eq (p : Id) (c : Int) : callV E p 62 [.d (.int .u8 c)] [] Ids.none = some ⟨.d (.bool (digitB c)), Ids.none, []⟩ := by
  rw [s_call E _ _ _ _ _ v62 rfl rfl rfl]
  cases h1 : decide (48 ≤ c) <;> simp [v62, r62_0, r62_1, h1, digitB]
theorem from_eq (p : Id) (n a b : Int) : callV E p 30 [.d (.int .i64 n), .d (.int .i64 a), .d (.int .i64 b)] [] Ids.none = some ⟨.d (.bool (inB n a b)), Ids.none, []⟩ := by
  rw [s_call E _ _ _ _ _ v30 rfl rfl rfl]
  cases h1 : decide (a ≤ n) <;> simp [v30, r30_0, r30_1, h1, inB]

/-- The byte at a place. -/
def chr (s : ByteArray) (i : Nat) : Int := ((s[i]?).map fun b => (b.toNat : Int)).getD 0
theorem byteAt_lt {s : ByteArray} {i : Nat} (h : i < s.size) : byteAt s i = some (chr s i) := by
  simp [byteAt, chr, h]
theorem or_none (A : Ids) : Ids.or Ids.none A = A := by funext x; simp [Ids.or, Ids.none]
theorem wrap_nat {n : Nat} (h : n < 9223372036854775808) : IntKind.i64.wrap (n : Int) = n := wrap_i64 (by omega) (by omega)
theorem wrap_succ {n : Nat} (h : n + 1 < 9223372036854775808) : IntKind.i64.wrap ((n : Int) + 1) = ((n + 1 : Nat) : Int) := by
  have := wrap_nat h
  rw [← this]; congr 1

def okX1 (x : Int) (i : Nat) : Prop := (97 ≤ x ∧ x ≤ 122) ∨ (0 < i ∧ 48 ≤ x ∧ x ≤ 57)
instance (x : Int) (i : Nat) : Decidable (okX1 x i) := by unfold okX1; exact inferInstance

theorem body59 (p : Id) (s : ByteArray) (hs : s.size ≤ 1048576) (i c : Nat) (hlt : i < s.size) (x : Int) (hb : byteAt s i = some x) :
    codeV E p b59_0 ⟨[(0, .d (.str s)), (3, .d (.int .i64 i))], [], Ids.none, c⟩ = some (if okX1 x i then (.normal, ⟨[(0, .d (.str s)), (3, .d (.int .i64 (i + 1 : Nat)))], [], Ids.none, c + 34⟩) else (.ret, ⟨[(2, .d (.bool false))], [], Ids.none, c + 32⟩)) := by
  have hw := wrap_succ (n := i) (by omega)
  simp [b59_0, r59_2, r59_4, r59_5, r59_3, hb, hlt, hw]
  cases h1 : decide (97 ≤ x)
  case true =>
    simp [hb]
    cases h2 : decide (x ≤ 122)
    case true =>
      simp [hb, hw]
      have : okX1 x i := by simp at h1 h2; exact .inl ⟨h1, h2⟩
      simp [this]
    case false =>
      simp [hb, hw]
      cases h3 : decide (0 < i) <;> simp [hb, hw]
      case true =>
        have h4 : (48 ≤ x) := by simp at h1; omega
        simp [h4, hb]
        have h5 : ¬ (x ≤ 57) := by simp at h1; omega
        have : ¬ okX1 x i := by simp at h1 h2; unfold okX1; omega
        simp [h5, this]
      case false =>
        have : ¬ okX1 x i := by simp at h1 h2 h3; unfold okX1; omega
        simp [this]
  case false =>
    simp [hb]
    cases h3 : decide (0 < i)
    case true =>
      simp [hb, hw]
      cases h4 : decide (48 ≤ x)
      case true =>
        simp [hb, hw]
        cases h5 : decide (x ≤ 57)
        case true =>
          have : okX1 x i := by simp at h1 h3 h4 h5; unfold okX1; omega
          simp [hw, this]
        case false =>
          have : ¬ okX1 x i := by simp at h1 h3 h4 h5; unfold okX1; omega
          simp [hw, this]
      case false =>
        have : ¬ okX1 x i := by simp at h1 h3 h4; unfold okX1; omega
        simp [hb, hw, this]
    case false =>
      have : ¬ okX1 x i := by simp at h1 h3; unfold okX1; omega
      simp [hb, hw, this]

def okAt (s : ByteArray) (i : Nat) : Bool := decide (okX1 (chr s i) i)
def allAt (s : ByteArray) (f : ByteArray → Nat → Bool) (i k : Nat) : Bool := (List.range' i k).all (f s)
theorem allAt_zero (s : ByteArray) (f : ByteArray → Nat → Bool) (i : Nat) : allAt s f i 0 = true := rfl
theorem allAt_succ (s : ByteArray) (f : ByteArray → Nat → Bool) (i k : Nat) : allAt s f i (k + 1) = (f s i && allAt s f (i + 1) k) := by simp [allAt, List.range'_succ]
theorem allAt_iff (s : ByteArray) (f : ByteArray → Nat → Bool) (i k : Nat) : allAt s f i k = true ↔ ∀ j, i ≤ j → j < i + k → f s j = true := by
  simp only [allAt, List.all_eq_true, List.mem_range'_1]
  exact ⟨fun h j h1 h2 => h j ⟨h1, h2⟩, fun h j h1 => h j h1.1 h1.2⟩

theorem loop59 (p : Id) (s : ByteArray) (hs : s.size ≤ 1048576) : ∀ (k i c : Nat), i + k = s.size →
    ∃ c', loopV E p 0 [0, 3] b59_0 ⟨[(0, .d (.str s)), (3, .d (.int .i64 i))], [], Ids.none, c⟩ =
      some (if allAt s okAt i k then (.exit 0, ⟨[(0, .d (.str s)), (3, .d (.int .i64 s.size)), (7, .d (.bool false))], [], Ids.none, c'⟩) else (.ret, ⟨[(2, .d (.bool false))], [], Ids.none, c'⟩))
  | 0, i, c, hk => by
    have : i = s.size := by omega
    subst this
    refine ⟨c + 4, ?_⟩
    rw [loopV_eq]
    simp [headOf, safeRegs, b59_0, r59_2, allAt_zero]
  | k + 1, i, c, hk => by
    have hlt : i < s.size := by omega
    obtain ⟨c', ih⟩ := loop59 p s hs k (i + 1) (c + 34) (by omega)
    rw [loopV_eq, allAt_succ]
    by_cases h : okX1 (chr s i) i
    · have h2 : okAt s i = true := by simp [okAt, h]
      refine ⟨c', ?_⟩
      rw [h2, Bool.true_and, ← ih]
      simp [headOf, safeRegs, body59 p s hs i c hlt _ (byteAt_lt hlt), h]
    · have h2 : okAt s i = false := by simp [okAt, h]
      refine ⟨c + 32, ?_⟩
      simp [headOf, safeRegs, body59 p s hs i c hlt _ (byteAt_lt hlt), h, h2]

def nameOk (s : ByteArray) : Bool := allAt s okAt 0 s.size && inB s.size 1 8

theorem specNameOk_eq (p : Id) (s : ByteArray) (hs : s.size ≤ 1048576) : callV E p 59 [.d (.str s)] [] Ids.none = some ⟨.d (.bool (nameOk s)), Ids.none, []⟩ := by
  rw [s_call E _ _ _ _ _ v59 rfl rfl rfl]
  obtain ⟨c', h⟩ := loop59 p s hs s.size 0 2 (by omega)
  simp [v59, r59_0, r59_1, r59_6]
  simp at h
  rw [h]
  cases h1 : allAt s okAt 0 s.size
  · simp [nameOk, h1]
  · simp [nameOk, h1, evOp, l1In_eq, or_none]

def okAt2 (s : ByteArray) (i : Nat) : Bool := smallB (chr s i) || digitB (chr s i)

theorem body60 (p : Id) (s : ByteArray) (hs : s.size ≤ 1048576) (i c : Nat) (hlt : i < s.size) :
    codeV E p b60_0 ⟨[(0, .d (.str s)), (5, .d (.int .i64 s.size)), (6, .d (.int .i64 i))], [], Ids.none, c⟩ = some (if okAt2 s i then (.normal, ⟨[(0, .d (.str s)), (5, .d (.int .i64 s.size)), (6, .d (.int .i64 (i + 1 : Nat)))], [], Ids.none, c + 17⟩) else (.ret, ⟨[(2, .d (.bool false))], [], Ids.none, c + 16⟩)) := by
  have hw := wrap_succ (n := i) (by omega)
  have hb := byteAt_lt hlt
  simp [b60_0, r60_2, r60_3, r60_4, r60_5, r60_6, hb, hlt, hw, evOp, isSmall_eq, isDigit_eq, or_none]
  cases h1 : smallB (chr s i)
  · simp [hb, evOp, isDigit_eq, or_none]
    cases h2 : digitB (chr s i) <;> simp [hw, okAt2, h1, h2]
  · simp [hw, okAt2, h1]

theorem loop60 (p : Id) (s : ByteArray) (hs : s.size ≤ 1048576) : ∀ (k i c : Nat), i + k = s.size →
    ∃ c', loopV E p 0 [0, 5, 6] b60_0 ⟨[(0, .d (.str s)), (5, .d (.int .i64 s.size)), (6, .d (.int .i64 i))], [], Ids.none, c⟩ =
      some (if allAt s okAt2 i k then (.exit 0, ⟨[(0, .d (.str s)), (5, .d (.int .i64 s.size)), (6, .d (.int .i64 s.size)), (7, .d (.bool false))], [], Ids.none, c'⟩) else (.ret, ⟨[(2, .d (.bool false))], [], Ids.none, c'⟩))
  | 0, i, c, hk => by
    have : i = s.size := by omega
    subst this
    refine ⟨c + 1, ?_⟩
    rw [loopV_eq]
    simp [headOf, safeRegs, b60_0, r60_2, allAt_zero]
  | k + 1, i, c, hk => by
    have hlt : i < s.size := by omega
    obtain ⟨c', ih⟩ := loop60 p s hs k (i + 1) (c + 17) (by omega)
    rw [loopV_eq, allAt_succ]
    cases h : okAt2 s i
    · refine ⟨c + 16, ?_⟩
      simp [headOf, safeRegs, body60 p s hs i c hlt, h]
    · refine ⟨c', ?_⟩
      rw [Bool.true_and, ← ih]
      simp [headOf, safeRegs, body60 p s hs i c hlt, h]

def nameOk2 (s : ByteArray) : Bool := allAt s okAt2 0 s.size && (inB s.size 1 8 && smallB (chr s 0))

theorem implNameOk_eq (p : Id) (s : ByteArray) (hs : s.size ≤ 1048576) : callV E p 60 [.d (.str s)] [] Ids.none = some ⟨.d (.bool (nameOk2 s)), Ids.none, []⟩ := by
  rw [s_call E _ _ _ _ _ v60 rfl rfl rfl]
  obtain ⟨c', h⟩ := loop60 p s hs s.size 0 4 (by omega)
  simp [v60, r60_0, r60_1, r60_7]
  simp at h
  rw [h]
  cases h1 : allAt s okAt2 0 s.size
  · simp [nameOk2, h1]
  · simp [nameOk2, h1, evOp, from_eq, or_none]
    cases h2 : inB s.size 1 8
    · simp [h2]
    · have h3 : 0 < s.size := by simp [inB] at h2; omega
      simp [h2, byteAt_lt h3, evOp, isSmall_eq, or_none]

theorem okAt_iff (s : ByteArray) (i : Nat) : okAt s i = true ↔ (97 ≤ chr s i ∧ chr s i ≤ 122) ∨ (0 < i ∧ 48 ≤ chr s i ∧ chr s i ≤ 57) := by
  unfold okAt; rw [decide_eq_true_eq]; rfl
theorem okAt2_iff (s : ByteArray) (i : Nat) : okAt2 s i = true ↔ (97 ≤ chr s i ∧ chr s i ≤ 122) ∨ (48 ≤ chr s i ∧ chr s i ≤ 57) := by
  simp [okAt2, smallB, digitB]
theorem smallB_iff (x : Int) : smallB x = true ↔ 97 ≤ x ∧ x ≤ 122 := by simp [smallB]
theorem nameOk_same (s : ByteArray) : nameOk2 s = nameOk s := by
  rw [Bool.eq_iff_iff]
  simp only [nameOk, nameOk2, Bool.and_eq_true, allAt_iff, okAt_iff, okAt2_iff, smallB_iff]
  constructor
  · rintro ⟨h1, h2, h3⟩
    refine ⟨fun j hj hj2 => ?_, h2⟩
    have h4 := h1 j hj hj2
    rcases Nat.eq_zero_or_pos j with rfl | hp
    · exact .inl h3
    · omega
  · rintro ⟨h1, h2⟩
    have h0 : 0 < s.size := by simp [inB] at h2; omega
    have h5 := h1 0 (Nat.le_refl _) (by omega)
    refine ⟨fun j hj hj2 => ?_, h2, ?_⟩
    · have h4 := h1 j hj hj2
      omega
    · omega

theorem FnExactNameOk_eq (p : Id) (s : ByteArray) (hs : s.size ≤ 9223372036854775807) : callV E p 58 [.d (.str s)] [] Ids.none = some ⟨.d (.bool true), Ids.none, []⟩ := by
  rw [s_call E _ _ _ _ _ v58 rfl rfl rfl]
  simp [v58, r58_0, r58_1, r58_2, r58_3, r58_4, r58_5, r58_6, r58_7]
  cases h1 : decide ((1048576 : Int) < s.size)
  · have h2 : s.size ≤ 1048576 := by simp at h1; omega
    simp [evOp, specNameOk_eq _ s h2, implNameOk_eq _ s h2, nameOk_same, or_none]
  · simp
end Go.Proofs.Ytgdclabfecmmmaa.VS
