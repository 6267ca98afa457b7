/- Contracts of the program's functions on the evaluator without names, and plain lemmas: XNums. -/
import Derived.Test.YtcffalienbbohaaXText
namespace Go.Proofs.Ytcffalienbbohaa.VS
set_option linter.unusedVariables false
set_option linter.unusedSimpArgs false
/-! ## NumsText -/
def comma : ByteArray := ⟨#[44]⟩
def numP (l : List Int) (i : Nat) : ByteArray := digits (iAt l i)
theorem digits_size {n : Int} (h1 : -9223372036854775808 ≤ n) (h2 : n ≤ 9223372036854775807) : (digits n).size ≤ 21 := by
  have := digs_size20 (n := n.natAbs) (by omega)
  unfold digits
  split
  · rw [ByteArray.size_append, minus_size]; omega
  · omega
theorem numP_size (l : List Int) (ho : ∀ n, n ∈ l → -9223372036854775808 ≤ n ∧ n ≤ 9223372036854775807) (i : Nat) (hi : i < l.length) : (numP l i).size ≤ 21 := by
  have h := ho (iAt l i) (by rw [← iAt_lt hi]; exact List.getElem_mem hi)
  exact digits_size h.1 h.2
theorem nums_size (l : List Int) (hl : l.length ≤ 1048576) (ho : ∀ n, n ∈ l → -9223372036854775808 ≤ n ∧ n ≤ 9223372036854775807) (k : Nat) (hk : k ≤ l.length) : (txt (numP l) comma k).size ≤ 24117248 := by
  have h := txt_size (numP l) comma 21 k (fun i hi => numP_size l ho i (by omega))
  have : comma.size = 1 := rfl
  rw [this] at h
  omega
theorem specNumsText_eq (l : List Int) (hl : l.length ≤ 1048576) (ho : ∀ n, n ∈ l → -9223372036854775808 ≤ n ∧ n ≤ 9223372036854775807) : callX XV 120 [.d (is l)] [] = some (.d (.str (txt (numP l) comma l.length)), []) := by
  rw [z_call XV _ _ _ v120 rfl xcode_120 rfl]
  have h := loopX_inv (X := XV) (T := []) (L := 0) (live := [0, 3, 4]) (b := b120_0) (n := l.length) (γ := Unit) (st := fun (s : ByteArray) i => ⟨[(0, .d (is l)), (3, .d (.str s)), (4, .d (.int .i64 i))], []⟩) (step := stepX (numP l) comma)
    (F := fun s => (.exit 0, ⟨[(0, .d (is l)), (3, .d (.str s)), (4, .d (.int .i64 l.length)), (8, .d (.bool false))], []⟩)) (R := fun _ => (.ret, ⟨[], []⟩))
    (fun s i => s = txt (numP l) comma i)
    (fun _ _ => ⟨by simp, by simp [b120_0, r120_0, r120_1, r120_2, r120_3, r120_5, r120_6, r120_7, r120_4, r120_8]⟩)
    (fun s i hi hs => by
      subst hs
      have hw := wrap_succ (n := i) (by omega)
      have hb := ho (iAt l i) (by rw [← iAt_lt hi]; exact List.getElem_mem hi)
      have hd := specDigits_eq (iAt l i) hb.1 hb.2
      have hsz := nums_size l hl ho i (by omega)
      have hps := numP_size l ho i hi
      unfold numP at hps
      refine ⟨?_, fun a' h => by simp only [stepX, Sum.inl.injEq] at h; rw [← h]; rfl⟩
      unfold stepX
      generalize txt (numP l) comma i = s at *
      by_cases c : 0 < i
      · have a1 : evBin .add (.str s) (.str ⟨#[44]⟩) = some (.str (s ++ comma)) := evBin_cat (b := comma) (by have : comma.size = 1 := rfl; omega)
        have a2 : evBin .add (.str (s ++ comma)) (.str (digits (iAt l i))) = some (.str (s ++ comma ++ digits (iAt l i))) := evBin_cat (by rw [ByteArray.size_append]; have : comma.size = 1 := rfl; omega)
        refine ⟨_, by simp [b120_0, r120_0, r120_1, r120_2, r120_3, r120_5, r120_6, r120_7, r120_4, r120_8, hi, hw, cut, iAt_lt hi, hd, c, a1, a2]; rfl, by simp [xheadOf, safeRegs, c, numP]⟩
      · have a2 : evBin .add (.str s) (.str (digits (iAt l i))) = some (.str (s ++ digits (iAt l i))) := evBin_cat (by omega)
        refine ⟨_, by simp [b120_0, r120_0, r120_1, r120_2, r120_3, r120_5, r120_6, r120_7, r120_4, r120_8, hi, hw, cut, iAt_lt hi, hd, c, a2]; rfl, by simp [xheadOf, safeRegs, c, numP]⟩)
    l.length ByteArray.empty 0 ⟨[(0, .d (is l)), (3, .d (.str ByteArray.empty)), (4, .d (.int .i64 0))], []⟩ (by omega) rfl (by simp [xheadOf, safeRegs])
  have hr := runX (numP l) comma l.length 0
  rw [Nat.zero_add] at hr
  rw [show ByteArray.empty = txt (numP l) comma 0 from rfl, hr] at h
  simp [v120, r120_0, r120_1, r120_2, r120_3, r120_5, r120_6, r120_7, r120_4, r120_8]
  simp only [show (⟨#[]⟩ : ByteArray) = txt (numP l) comma 0 from rfl, h]
  simp [v120, r120_0, r120_1, r120_2, r120_3, r120_5, r120_6, r120_7, r120_4, r120_8]
theorem implNumsText_eq (l : List Int) (hl : l.length ≤ 1048576) (ho : ∀ n, n ∈ l → -9223372036854775808 ≤ n ∧ n ≤ 9223372036854775807) : callX XV 121 [.d (is l)] [] = some (.d (.str (txt (numP l) comma l.length)), []) := by
  rw [z_call XV _ _ _ v121 rfl xcode_121 rfl]
  have h := loopX_upto (X := XV) (T := XV.lin 121) (L := 0) (live := [3, 7, 8, 9]) (b := b121_0) (n := l.length) (γ := Unit) (st := fun (_ : Unit) i => ⟨[(3, .d (.sl U (strs (numP l) i))), (7, .d (is l)), (8, .d (.int .i64 l.length)), (9, .d (.int .i64 i))], []⟩) (step := fun _ _ => .inl ())
    (F := fun _ => (.exit 0, ⟨[(3, .d (.sl U (strs (numP l) l.length))), (7, .d (is l)), (8, .d (.int .i64 l.length)), (9, .d (.int .i64 l.length)), (10, .d (.bool false))], []⟩)) (R := fun _ => (.ret, ⟨[], []⟩))
    (fun _ => ⟨by simp, by simp [b121_0, r121_0, r121_1, r121_2, r121_3, r121_4, r121_5, r121_6, r121_7]⟩)
    (fun _ i hi => by
      have hw := wrap_succ (n := i) (by omega)
      have hb := ho (iAt l i) (by rw [← iAt_lt hi]; exact List.getElem_mem hi)
      have hd := implDigits_eq (iAt l i) hb.1 hb.2
      have ha := fun g => app_eq (numP l) i g (by omega)
      simp only [numP] at ha
      refine ⟨_, by simp [b121_0, r121_0, r121_1, r121_2, r121_3, r121_4, r121_5, r121_6, r121_7, hi, hw, cut, iAt_lt hi, hd, ha, buildRow, List.replicate]; rfl, by simp [xheadOf, safeRegs]⟩)
    l.length () 0 ⟨[(3, .d (.sl U [])), (7, .d (is l)), (8, .d (.int .i64 l.length)), (9, .d (.int .i64 0))], []⟩ (by omega) (by simp [xheadOf, safeRegs, strs])
  rw [run_on] at h
  simp only [lin_121] at h
  have hj := fun g B => join_eq (numP l) comma l.length g B (by omega) (by have := nums_size l hl ho l.length (by omega); omega)
  simp [v121, r121_0, r121_1, r121_2, r121_3, r121_4, r121_5, r121_6, r121_7, buildRow, List.replicate]
  rw [h]
  have hj0 : ∀ B, callX XV 93 [.d (.sl .sub (strs (numP l) l.length)), .d (.str ⟨#[44]⟩)] B = some (.d (.str (txt (numP l) comma l.length)), B) := fun B => hj .sub B
  simp [v121, r121_0, r121_1, r121_2, r121_3, r121_4, r121_5, r121_6, r121_7, hj0]
end Go.Proofs.Ytcffalienbbohaa.VS
