/- Contracts of the program's functions on the evaluator without names, and plain lemmas: XNumbersX. -/
import Derived.Test.YtcffalienbbohaaXDrawL
import Derived.Test.YtcffalienbbohaaXNum
import Derived.Test.YtcffalienbbohaaXNums
import Derived.Test.YtcffalienbbohaaXNumLaw
namespace Go.Proofs.Ytcffalienbbohaa.VS
set_option linter.unusedVariables false
set_option linter.unusedSimpArgs false
theorem sameInts_self (l : List Int) (hl : l.length ≤ 4194304) : callX XV 188 [.d (is l), .d (is l)] [] = some (.d (.bool true), []) := by
  rw [z_call XV _ _ _ v188 rfl xcode_188 rfl]
  have hloop := loopX_upto (X := XV) (T := []) (L := 0) (live := [0, 1, 5]) (b := b188_0) (n := l.length) (γ := Unit) (st := fun (_ : Unit) i => ⟨[(0, .d (is l)), (1, .d (is l)), (5, .d (.int .i64 i))], []⟩) (step := fun _ _ => .inl ())
    (F := fun _ => (.exit 0, ⟨[(0, .d (is l)), (1, .d (is l)), (5, .d (.int .i64 l.length)), (14, .d (.bool false))], []⟩)) (R := fun _ => (.ret, ⟨[], []⟩))
    (fun _ => ⟨by simp, by simp [b188_0, r188_0, r188_1, r188_2, r188_3, r188_4, d188_6, r188_7, r188_5, r188_8]⟩)
    (fun _ i hi => by
      have hw := wrap_succ (n := i) (by omega)
      exact ⟨_, by simp [b188_0, r188_0, r188_1, r188_2, r188_3, r188_4, d188_6, r188_7, r188_5, r188_8, hi, hw, cut, iAt_lt hi]; rfl, by simp [xheadOf, safeRegs]⟩)
    l.length () 0 ⟨[(0, .d (is l)), (1, .d (is l)), (5, .d (.int .i64 0))], []⟩ (by omega) (by simp [xheadOf, safeRegs])
  rw [run_on] at hloop
  simp [v188, r188_0, r188_1, r188_2, r188_3, r188_4, d188_6, r188_7, r188_5, r188_8]
  rw [hloop]
  simp [v188, r188_0, r188_1, r188_2, r188_3, r188_4, d188_6, r188_7, r188_5, r188_8]
theorem numAddL_has (l : List Int) (n : Int) : (numAddL l n).contains n = true := by
  unfold numAddL
  split
  · assumption
  · simp
theorem numR_same (s : ByteArray) (h : (numR s).2 = true) : strEq (digits (numR s).1) s = true ∧ (0 ≤ (numR s).1 ∧ (numR s).1 < 1000000) := by
  unfold numR at h ⊢
  split at h
  · simp at h
  · rename_i c
    rw [if_neg c]
    have c1 : s.size ≤ 6 := by omega
    cases hr : runN (stepD s) s.size 0 0 with
    | inr u => rw [hr] at h; simp at h
    | inl v =>
      rw [hr] at h
      simp only at h ⊢
      split at h
      · rename_i hq
        rw [if_pos hq]
        have := runD s s.size 0 0 v hr (by omega) (by simp)
        have hp := pow6 (i := 0 + s.size) (by omega)
        exact ⟨hq, this.1, by omega⟩
      · simp at h
theorem implNumIn_eq (l : List Int) (n : Int) (hl : l.length ≤ 140737488355328) : callX XV 54 [.d (is l), .d (.int .i64 n)] [] = some (.d (.bool (l.contains n)), []) :=
  numInX_eq XV rfl xcode_54 lin_54 rfl xcode_55 lin_55 rfl xcode_56 lin_56 l n hl
theorem FnNumbers_x (bs : List Int) (hl : bs.length ≤ maxLen) : ∃ B, callX XV 198 [.d (.sl .sub (bs.map (.int .u8)))] [] = some (.d (.bool true), B) := by
  rw [z_call XV _ _ _ v198 rfl xcode_198 rfl]
  have hbig := big_eq bs
  by_cases h1 : 1048576 < bs.length
  · simp only [h1, decide_true] at hbig
    simp [v198, r198_0, r198_1, r198_2, r198_3, r198_4, r198_5, r198_6, r198_7, r198_8, r198_9, r198_10, r198_11, r198_12, hbig]
  have hls : bs.length ≤ 1048576 := by omega
  simp only [h1, decide_false] at hbig
  obtain ⟨d, hd, d1⟩ := drawDigits_eq bs hls
  obtain ⟨t, ht, d2⟩ := drawNumber_eq bs hls
  obtain ⟨l, k, hl5, hsm, hk, d3⟩ := drawNumAdd_eq bs hls
  obtain ⟨x, hx5, hxs, d4⟩ := drawNumsText_eq bs hls
  have n1 := implNumber_eq t (by unfold maxLen; omega)
  have n2 := specNumber_eq t (by unfold maxLen; omega)
  have hsame := numR_same t
  have g1 := implDigits_eq d hd.1 hd.2
  have g2 := specDigits_eq d hd.1 hd.2
  have a1 := implNumAdd_eq .sub l k [] (by omega)
  have a2 := specNumAdd_eq l k (by omega)
  have i1 := implNumIn_eq l k (by omega)
  have i2 := specNumIn_eq l k (by omega)
  have hlen := numAddL_len l k
  have i3 := implNumIn_eq (numAddL l k) k (by omega)
  rw [numAddL_has] at i3
  have t1 := implNumsText_eq x (by omega) (fun n hn => by have := hxs n hn; omega)
  have t2 := specNumsText_eq x (by omega) (fun n hn => by have := hxs n hn; omega)
  have s1 := sameInts_self (numAddL l k) (by omega)
  generalize numAddL l k = g at *
  generalize txt (numP x) comma x.length = tx at t1 t2
  generalize l.contains k = cb at i1 i2
  generalize hr : numR t = nr at *
  obtain ⟨n, ok⟩ := nr
  simp only at n1 n2 hsame
  have hw : IntKind.i64.wrap ((l.length : Int) + 1) = ((l.length + 1 : Nat) : Int) := wrap_succ (by omega)
  have hle : (g.length : Int) ≤ ((l.length + 1 : Nat) : Int) := by omega
  generalize ((l.length + 1 : Nat) : Int) = l1 at hw hle
  simp only [is] at *
  cases ok with
  | false => simp [v198, r198_0, r198_1, r198_2, r198_3, r198_4, r198_5, r198_6, r198_7, r198_8, r198_9, r198_10, r198_11, r198_12, hbig, d1, d2, d3, d4, n1, n2, g1, g2, a1, a2, i1, i2, i3, t1, t2, s1, hw, hle, strEq_self]
  | true =>
    obtain ⟨e1, e2⟩ := hsame rfl
    have g3 := implDigits_eq n (by omega) (by omega)
    simp [v198, r198_0, r198_1, r198_2, r198_3, r198_4, r198_5, r198_6, r198_7, r198_8, r198_9, r198_10, r198_11, r198_12, hbig, d1, d2, d3, d4, n1, n2, g1, g2, g3, a1, a2, i1, i2, i3, t1, t2, s1, hw, hle, strEq_self, e1]
end Go.Proofs.Ytcffalienbbohaa.VS
