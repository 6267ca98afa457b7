/- Contracts of the program's functions on the evaluator without names, and plain lemmas: XDigits. -/
import Derived.Test.YtcffalienbbohaaXSig
namespace Go.Proofs.Ytcffalienbbohaa.VS
set_option linter.unusedVariables false
set_option linter.unusedSimpArgs false
/-! ## Numbers written in digits -/
def dgb (n : Nat) : UInt8 := UInt8.ofNat (48 + n)
def dgt (n : Nat) : ByteArray := ⟨#[dgb n]⟩
def digs (n : Nat) : ByteArray := if n < 10 then dgt n else digs (n / 10) ++ dgt (n % 10)
def minus : ByteArray := ⟨#[45]⟩
def digits (n : Int) : ByteArray := if n < 0 then minus ++ digs n.natAbs else digs n.natAbs
theorem digs_lt {n : Nat} (h : n < 10) : digs n = dgt n := by rw [digs, if_pos h]
theorem digs_ge {n : Nat} (h : ¬ n < 10) : digs n = digs (n / 10) ++ dgt (n % 10) := by rw [digs, if_neg h]
theorem digits_nat (k : Nat) : digits (k : Int) = digs k := by unfold digits; rw [if_neg (by omega)]; simp
theorem digits_neg {k : Nat} (h : 0 < k) : digits (-(k : Int)) = minus ++ digs k := by unfold digits; rw [if_pos (by omega)]; simp
theorem dgt_size (n : Nat) : (dgt n).size = 1 := rfl
theorem minus_size : minus.size = 1 := rfl
theorem digs_size : ∀ (k n : Nat), n < 10 ^ (k + 1) → (digs n).size ≤ k + 1
  | 0, n, h => by rw [digs_lt (by omega), dgt_size]; omega
  | k + 1, n, h => by
    by_cases c : n < 10
    · rw [digs_lt c, dgt_size]; omega
    · rw [digs_ge c, ByteArray.size_append, dgt_size]
      have := digs_size k (n / 10) (by rw [Nat.pow_succ] at h; omega)
      omega
theorem digs_size20 {n : Nat} (h : n ≤ 9223372036854775808) : (digs n).size ≤ 20 := digs_size 19 n (by omega)
theorem enc_dgt {n : Nat} (h : n < 10) : Utf8.encode (48 + (n : Int)) = dgt n := by
  have : n = 0 ∨ n = 1 ∨ n = 2 ∨ n = 3 ∨ n = 4 ∨ n = 5 ∨ n = 6 ∨ n = 7 ∨ n = 8 ∨ n = 9 := by omega
  rcases this with rfl | rfl | rfl | rfl | rfl | rfl | rfl | rfl | rfl | rfl <;> rfl
theorem wrap_i32 {n : Int} (h : -2147483648 ≤ n) (h2 : n ≤ 2147483647) : IntKind.i32.wrap n = n := by
  simp [IntKind.wrap, IntKind.bits, IntKind.signed]; omega
theorem wrap_u8' {n : Int} (h : 0 ≤ n) (h2 : n ≤ 255) : IntKind.u8.wrap n = n := by
  simp [IntKind.wrap, IntKind.bits, IntKind.signed]; omega
theorem evInt_quo10 (k : IntKind) (x : Int) : evInt .quo k x 10 = some (.int k (k.wrap (x.tdiv 10))) := rfl
theorem evInt_rem10 (k : IntKind) (x : Int) : evInt .rem k x 10 = some (.int k (x.tmod 10)) := rfl
theorem evBin_cat {a b : ByteArray} (h : a.size + b.size ≤ 4611686018427387904) : evBin .add (.str a) (.str b) = some (.str (a ++ b)) := by simp [evBin, h]
theorem implDigits_small (k : Nat) (hk : k < 10) : callX XV 38 [.d (.int .i64 k)] [] = some (.d (.str (dgt k)), []) := by
  rw [z_call XV _ _ _ v38 rfl xcode_38 rfl]
  have c1 : (k : Int) < 10 := by omega
  have c0 : ¬ (k : Int) < 0 := by omega
  have hw : IntKind.i64.wrap (48 + k) = 48 + k := wrap_i64 (by omega) (by omega)
  have hw2 : IntKind.i32.wrap (48 + k) = 48 + k := wrap_i32 (by omega) (by omega)
  have e := enc_dgt hk
  simp [v38, r38_0, r38_1, r38_2, r38_3, r38_4, r38_5, r38_6, r38_7, c0, c1, hw, hw2, e]
theorem implDigits (m : Nat) : ∀ n : Int, n.natAbs ≤ m → -9223372036854775808 ≤ n → n ≤ 9223372036854775807 → callX XV 38 [.d (.int .i64 n)] [] = some (.d (.str (digits n)), []) := by
  induction m with
  | zero =>
    intro n hm h1 h2
    obtain rfl : n = ((0 : Nat) : Int) := by omega
    rw [digits_nat, digs_lt (by omega)]
    exact implDigits_small 0 (by omega)
  | succ m ih =>
    intro n hm h1 h2
    by_cases c0 : n < 0
    · obtain ⟨k, rfl⟩ : ∃ k : Nat, n = -(k : Int) := ⟨n.natAbs, by omega⟩
      have hk : 0 < k := by omega
      rw [z_call XV _ _ _ v38 rfl xcode_38 rfl, digits_neg hk]
      by_cases c1 : k < 10
      · have hw : IntKind.i64.wrap k = k := wrap_i64 (by omega) (by omega)
        have s1 := implDigits_small k c1
        have ha : evBin .add (.str ⟨#[45]⟩) (.str (dgt k)) = some (.str (minus ++ dgt k)) := evBin_cat (by rw [dgt_size]; decide)
        have c1' : -10 < -(k : Int) := by omega
        have c0' : 0 < k := hk
        rw [digs_lt c1]
        simp [v38, r38_0, r38_1, r38_2, r38_3, r38_4, r38_5, r38_6, r38_7, c0', c1', c1, hw, s1, ha]
      · have hq : (-(k : Int)).tdiv 10 = -((k / 10 : Nat) : Int) := by rw [Int.neg_tdiv]; rfl
        have hr : (-(k : Int)).tmod 10 = -((k % 10 : Nat) : Int) := by rw [Int.neg_tmod]; rfl
        have hw1 : IntKind.i64.wrap (-((k / 10 : Nat) : Int)) = -((k / 10 : Nat) : Int) := wrap_i64 (by omega) (by omega)
        have hw2 : IntKind.i64.wrap ((k % 10 : Nat) : Int) = ((k % 10 : Nat) : Int) := wrap_i64 (by omega) (by omega)
        have s1 := ih (-((k / 10 : Nat) : Int)) (by omega) (by omega) (by omega)
        have s2 := implDigits_small (k % 10) (by omega)
        rw [digits_neg (by omega)] at s1
        have hs := digs_size20 (n := k / 10) (by omega)
        have ha : evBin .add (.str (minus ++ digs (k / 10))) (.str (dgt (k % 10))) = some (.str (minus ++ digs k)) := by
          rw [evBin_cat (by rw [ByteArray.size_append, dgt_size, minus_size]; omega), digs_ge c1, ByteArray.append_assoc]
        have c1' : ¬ -10 < -(k : Int) := by omega
        have c0' : 0 < k := hk
        generalize ((k / 10 : Nat) : Int) = q at *
        generalize ((k % 10 : Nat) : Int) = r at *
        simp [v38, r38_0, r38_1, r38_2, r38_3, r38_4, r38_5, r38_6, r38_7, c0', c1', c1, evInt_quo10, evInt_rem10, hq, hr, hw1, hw2, s1, s2, ha]
    · obtain ⟨k, rfl⟩ := Int.eq_ofNat_of_zero_le (Int.not_lt.1 c0)
      rw [digits_nat]
      by_cases c1 : k < 10
      · rw [digs_lt c1]; exact implDigits_small k c1
      · rw [z_call XV _ _ _ v38 rfl xcode_38 rfl]
        have hq : (k : Int).tdiv 10 = ((k / 10 : Nat) : Int) := rfl
        have hr : (k : Int).tmod 10 = ((k % 10 : Nat) : Int) := rfl
        have s1 := ih ((k / 10 : Nat) : Int) (by omega) (by omega) (by omega)
        rw [digits_nat] at s1
        have hw0 : IntKind.i64.wrap ((k / 10 : Nat) : Int) = ((k / 10 : Nat) : Int) := wrap_i64 (by omega) (by omega)
        have hw : IntKind.i64.wrap (48 + ((k % 10 : Nat) : Int)) = 48 + ((k % 10 : Nat) : Int) := wrap_i64 (by omega) (by omega)
        have hw2 : IntKind.i32.wrap (48 + ((k % 10 : Nat) : Int)) = 48 + ((k % 10 : Nat) : Int) := wrap_i32 (by omega) (by omega)
        have e := enc_dgt (n := k % 10) (by omega)
        have hs := digs_size20 (n := k / 10) (by omega)
        have ha : evBin .add (.str (digs (k / 10))) (.str (dgt (k % 10))) = some (.str (digs k)) := by
          rw [evBin_cat (by rw [dgt_size]; omega), digs_ge c1]
        have c1' : ¬ (k : Int) < 10 := by omega
        have c0' : ¬ (k : Int) < 0 := by omega
        generalize ((k / 10 : Nat) : Int) = q at *
        generalize ((k % 10 : Nat) : Int) = r at *
        simp [v38, r38_0, r38_1, r38_2, r38_3, r38_4, r38_5, r38_6, r38_7, c0', c1', evInt_quo10, evInt_rem10, hq, hr, hw0, hw, hw2, e, s1, ha]
theorem implDigits_eq (n : Int) (h1 : -9223372036854775808 ≤ n) (h2 : n ≤ 9223372036854775807) : callX XV 38 [.d (.int .i64 n)] [] = some (.d (.str (digits n)), []) := implDigits n.natAbs n (Nat.le_refl _) h1 h2
/-! The loop, from the last digit on -/
def digs0 (k : Nat) : ByteArray := if k = 0 then ByteArray.empty else digs k
theorem digs0_step {k : Nat} (h : k ≠ 0) (s : ByteArray) : digs0 (k / 10) ++ (dgt (k % 10) ++ s) = digs0 k ++ s := by
  unfold digs0
  rw [if_neg h]
  by_cases c : k < 10
  · have : k / 10 = 0 := by omega
    rw [if_pos this, digs_lt c, ByteArray.empty_append, Nat.mod_eq_of_lt c]
  · rw [if_neg (by omega), digs_ge c, ByteArray.append_assoc]
theorem bytes_dgt {k : Nat} (h : k < 10) : bytesOf [.int .u8 (48 + (k : Int))] = some [dgb k] := by
  have : (48 + (k : Int)).toNat = 48 + k := by omega
  simp [bytesOf, this, dgb]
def dst (n : Int) (neg : Bool) (s : ByteArray) : XS := ⟨[(0, .d (.int .i64 n)), (3, .d (.bool neg)), (4, .d (.str s))], []⟩
theorem body39 (n : Int) (k : Nat) (h : n = k ∨ n = -(k : Int)) (hk : k ≠ 0) (hk2 : k ≤ 9223372036854775808) (h1 : -9223372036854775808 ≤ n) (h2 : n ≤ 9223372036854775807) (neg : Bool) (s : ByteArray) (hs : s.size ≤ 100) :
    ∃ s', codeX XV [] b39_0 (dst n neg s) = some (.normal, s') ∧ xheadOf 0 [0, 3, 4] s' = some (dst (n.tdiv 10) neg (dgt (k % 10) ++ s)) := by
  have hw : IntKind.i64.wrap (48 + ((k % 10 : Nat) : Int)) = 48 + ((k % 10 : Nat) : Int) := wrap_i64 (by omega) (by omega)
  have hw2 : IntKind.u8.wrap (48 + ((k % 10 : Nat) : Int)) = 48 + ((k % 10 : Nat) : Int) := wrap_u8' (by omega) (by omega)
  have hw3 : IntKind.i64.wrap ((k % 10 : Nat) : Int) = ((k % 10 : Nat) : Int) := wrap_i64 (by omega) (by omega)
  have hb := bytes_dgt (k := k % 10) (by omega)
  have ha : evBin .add (.str ⟨#[dgb (k % 10)]⟩) (.str s) = some (.str (dgt (k % 10) ++ s)) := evBin_cat (a := dgt (k % 10)) (by rw [dgt_size]; omega)
  have c0 : (n != 0) = true := by simp; omega
  unfold dst
  rcases h with rfl | rfl
  · have hq : (k : Int).tdiv 10 = ((k / 10 : Nat) : Int) := rfl
    rw [hq]
    have hr : (k : Int).tmod 10 = ((k % 10 : Nat) : Int) := rfl
    have hwq : IntKind.i64.wrap ((k / 10 : Nat) : Int) = ((k / 10 : Nat) : Int) := wrap_i64 (by omega) (by omega)
    have c1 : ¬ ((k % 10 : Nat) : Int) < 0 := by omega
    generalize ((k / 10 : Nat) : Int) = q at *
    generalize ((k % 10 : Nat) : Int) = r at *
    refine ⟨_, by simp [b39_0, r39_5, r39_6, r39_7, r39_8, r39_9, r39_10, c0, hq, hr, evInt_quo10, evInt_rem10, c1, hw, hw2, hwq, hb, ha, buildRow, List.replicate]; rfl, by simp [xheadOf, safeRegs]⟩
  · have hq : (-(k : Int)).tdiv 10 = -((k / 10 : Nat) : Int) := by rw [Int.neg_tdiv]; rfl
    rw [hq]
    have hr : (-(k : Int)).tmod 10 = -((k % 10 : Nat) : Int) := by rw [Int.neg_tmod]; rfl
    have hwq : IntKind.i64.wrap (-((k / 10 : Nat) : Int)) = -((k / 10 : Nat) : Int) := wrap_i64 (by omega) (by omega)
    by_cases c1 : -((k % 10 : Nat) : Int) < 0
    · generalize ((k / 10 : Nat) : Int) = q at *
      generalize ((k % 10 : Nat) : Int) = r at *
      have c1' : 0 < r := by omega
      have c0' : k ≠ 0 := hk
      refine ⟨_, by simp [b39_0, r39_5, r39_6, r39_7, r39_8, r39_9, r39_10, c0, hq, hr, evInt_quo10, evInt_rem10, c1', hw, hw2, hw3, hwq, hb, ha, buildRow, List.replicate]; rfl, by simp [xheadOf, safeRegs]⟩
    · have c2 : ((k % 10 : Nat) : Int) = 0 := by omega
      rw [c2] at hw hw2 hr hb
      have c3 : k % 10 = 0 := by omega
      rw [c3] at ha hb ⊢
      generalize ((k / 10 : Nat) : Int) = q at *
      simp at hr hw hw2 hb
      refine ⟨_, by simp [b39_0, r39_5, r39_6, r39_7, r39_8, r39_9, r39_10, c0, hq, hr, evInt_quo10, evInt_rem10, hw, hw2, hwq, hb, ha, buildRow, List.replicate]; rfl, by simp [xheadOf, safeRegs]⟩
theorem loop39 : ∀ (j : Nat) (n : Int) (k : Nat) (neg : Bool) (s : ByteArray), (n = k ∨ n = -(k : Int)) → k < 10 ^ j → k ≤ 9223372036854775808 → -9223372036854775808 ≤ n → n ≤ 9223372036854775807 → s.size + j ≤ 100 →
    ∀ s0, xheadOf 0 [0, 3, 4] s0 = some (dst n neg s) → loopX XV [] 0 [0, 3, 4] b39_0 s0 = some (.exit 0, ⟨[(0, .d (.int .i64 0)), (3, .d (.bool neg)), (4, .d (.str (digs0 k ++ s))), (11, .d (.bool false))], []⟩) := by
  intro j
  induction j with
  | zero =>
    intro n k neg s hn hk hk2 h1 h2 hs s0 h0
    obtain rfl : k = 0 := by simpa using hk
    obtain rfl : n = 0 := by omega
    refine loopX_out h0 ?_ (by simp)
    simp [dst, b39_0, r39_5, digs0, ByteArray.empty_append]
  | succ j ih =>
    intro n k neg s hn hk hk2 h1 h2 hs s0 h0
    by_cases hz : k = 0
    · subst hz
      obtain rfl : n = 0 := by omega
      refine loopX_out h0 ?_ (by simp)
      simp [dst, b39_0, r39_5, digs0, ByteArray.empty_append]
    · obtain ⟨s', hb, hh⟩ := body39 n k hn hz hk2 h1 h2 neg s (by omega)
      rw [loopX_go h0 hb]
      have hn' : n.tdiv 10 = ((k / 10 : Nat) : Int) ∨ n.tdiv 10 = -((k / 10 : Nat) : Int) := by
        rcases hn with rfl | rfl
        · left; rfl
        · right; rw [Int.neg_tdiv]; rfl
      have := ih (n.tdiv 10) (k / 10) neg (dgt (k % 10) ++ s) hn' (by rw [Nat.pow_succ] at hk; omega) (by omega) (by omega) (by omega) (by rw [ByteArray.size_append, dgt_size]; omega) s' hh
      rw [this, digs0_step hz]
theorem specDigits_eq (n : Int) (h1 : -9223372036854775808 ≤ n) (h2 : n ≤ 9223372036854775807) : callX XV 39 [.d (.int .i64 n)] [] = some (.d (.str (digits n)), []) := by
  rw [z_call XV _ _ _ v39 rfl xcode_39 rfl]
  by_cases c0 : n = 0
  · subst c0
    have hd : digits 0 = ⟨#[48]⟩ := by rw [show (0 : Int) = ((0 : Nat) : Int) from rfl, digits_nat, digs_lt (by omega)]; rfl
    simp [v39, r39_0, r39_1, r39_2, hd]
  · have c0' : (n == 0) = false := by simp [c0]
    have hl := loop39 20 n n.natAbs (decide (n < 0)) ByteArray.empty (by omega) (by omega) (by omega) h1 h2 (by decide) ⟨[(0, .d (.int .i64 n)), (3, .d (.bool (decide (n < 0)))), (4, .d (.str ByteArray.empty))], []⟩ (by simp [xheadOf, safeRegs, dst])
    have hd : digs0 n.natAbs ++ ByteArray.empty = digs n.natAbs := by unfold digs0; rw [if_neg (by omega), ByteArray.append_empty]
    rw [hd] at hl
    have hs := digs_size20 (n := n.natAbs) (by omega)
    by_cases c : n < 0
    · have ha : evBin .add (.str ⟨#[45]⟩) (.str (digs n.natAbs)) = some (.str (digits n)) := by
        unfold digits; rw [if_pos c]; exact evBin_cat (a := minus) (by rw [minus_size]; omega)
      simp only [c, decide_true] at hl
      simp [v39, r39_0, r39_1, r39_2, r39_3, r39_4, c0', c]
      simp only [show (⟨#[]⟩ : ByteArray) = ByteArray.empty from rfl, hl]
      simp [r39_11, r39_12, ha]
    · have hdn : digits n = digs n.natAbs := by unfold digits; rw [if_neg c]
      simp only [c, decide_false] at hl
      simp [v39, r39_0, r39_1, r39_2, r39_3, r39_4, c0', c]
      simp only [show (⟨#[]⟩ : ByteArray) = ByteArray.empty from rfl, hl]
      simp [r39_11, r39_13, hdn]
end Go.Proofs.Ytcffalienbbohaa.VS
