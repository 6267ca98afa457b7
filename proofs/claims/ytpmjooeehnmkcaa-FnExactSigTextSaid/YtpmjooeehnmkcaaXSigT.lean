/- Contracts of the program's functions on the evaluator without names, and plain lemmas: XSigT. -/
import Derived.Test.YtpmjooeehnmkcaaXText
import Derived.Test.YtpmjooeehnmkcaaXSigOk
namespace Go.Proofs.Ytpmjooeehnmkcaa.VS
set_option linter.unusedVariables false
set_option linter.unusedSimpArgs false
/-! ## SigText -/
def blankB : ByteArray := ⟨#[32]⟩
def slashB : ByteArray := ⟨#[47]⟩
def starB : ByteArray := ⟨#[42]⟩
theorem one_size (x : UInt8) : (⟨#[x]⟩ : ByteArray).size = 1 := rfl
def symT (s : SymL) : ByteArray := if s.ac then s.name ++ slashB ++ digits s.arity ++ starB else s.name ++ slashB ++ digits s.arity
def sigP (l : List SymL) (i : Nat) : ByteArray := symT (symAt l i)
theorem digits_size' {n : Int} (h1 : -9223372036854775808 ≤ n) (h2 : n ≤ 9223372036854775807) : (digits n).size ≤ 21 := by
  have := digs_size20 (n := n.natAbs) (by omega)
  unfold digits
  split
  · rw [ByteArray.size_append, minus_size]; omega
  · omega
theorem symT_size (s : SymL) (hs : s.ok) : (symT s).size ≤ s.name.size + 23 := by
  have := digits_size' hs.2.1 hs.2.2
  have h1 : slashB.size = 1 := rfl
  have h2 : starB.size = 1 := rfl
  unfold symT
  split <;> simp only [ByteArray.size_append] <;> omega
theorem sigP_size (l : List SymL) (ho : ∀ s, s ∈ l → s.ok) (hn : ∀ i, i < l.length → (symAt l i).name.size ≤ 1048576) (i : Nat) (hi : i < l.length) : (sigP l i).size ≤ 1048599 := by
  have := symT_size _ (ho _ (symAt_mem hi))
  have := hn i hi
  unfold sigP; omega
theorem sig_size (l : List SymL) (hl : l.length ≤ 1048576) (ho : ∀ s, s ∈ l → s.ok) (hn : ∀ i, i < l.length → (symAt l i).name.size ≤ 1048576) (k : Nat) (hk : k ≤ l.length) : (txt (sigP l) blankB k).size ≤ 1099536793600 := by
  have h := txt_size (sigP l) blankB 1048599 k (fun i hi => sigP_size l ho hn i (by omega))
  have : blankB.size = 1 := rfl
  rw [this] at h
  omega
theorem implSigText_eq (l : List SymL) (hl : l.length ≤ 1048576) (ho : ∀ s, s ∈ l → s.ok) (hn : ∀ i, i < l.length → (symAt l i).name.size ≤ 1048576) : callX XV 115 [.d (sg l)] [] = some (.d (.str (txt (sigP l) blankB l.length)), []) := by
  rw [z_call XV _ _ _ v115 rfl xcode_115 rfl]
  have h := loopX_upto (X := XV) (T := XV.lin 115) (L := 0) (live := [3, 8, 9, 10]) (b := b115_0) (n := l.length) (γ := Unit) (st := fun (_ : Unit) i => ⟨[(3, .d (.sl U (strs (sigP l) i))), (8, .d (sg l)), (9, .d (.int .i64 l.length)), (10, .d (.int .i64 i))], []⟩) (step := fun _ _ => .inl ())
    (F := fun _ => (.exit 0, ⟨[(3, .d (.sl U (strs (sigP l) l.length))), (8, .d (sg l)), (9, .d (.int .i64 l.length)), (10, .d (.int .i64 l.length)), (11, .d (.bool false))], []⟩)) (R := fun _ => (.ret, ⟨[], []⟩))
    (fun _ => ⟨by simp, by simp [b115_0, r115_0, r115_1, r115_2, r115_3, r115_4, d115_5, r115_6, r115_7, r115_8, r115_9, r115_10]⟩)
    (fun _ i hi => by
      have hw := wrap_succ (n := i) (by omega)
      have hs := ho _ (symAt_mem hi)
      have hd := implDigits_eq (symAt l i).arity hs.2.1 hs.2.2
      have hds := digits_size' hs.2.1 hs.2.2
      have hns := hn i hi
      have h1 : slashB.size = 1 := rfl
      have h2 : starB.size = 1 := rfl
      have a1 : evBin .add (.str (symAt l i).name) (.str ⟨#[47]⟩) = some (.str ((symAt l i).name ++ slashB)) := evBin_cat (b := slashB) (by omega)
      have a2 : evBin .add (.str ((symAt l i).name ++ slashB)) (.str (digits (symAt l i).arity)) = some (.str ((symAt l i).name ++ slashB ++ digits (symAt l i).arity)) := evBin_cat (by rw [ByteArray.size_append]; omega)
      have a3 : evBin .add (.str ((symAt l i).name ++ slashB ++ digits (symAt l i).arity)) (.str ⟨#[42]⟩) = some (.str ((symAt l i).name ++ slashB ++ digits (symAt l i).arity ++ starB)) := evBin_cat (b := starB) (by simp only [ByteArray.size_append]; omega)
      have ha := fun g => app_eq (sigP l) i g (by omega)
      simp only [sigP, symT] at ha
      cases c : (symAt l i).ac with
      | false =>
        simp only [c, Bool.false_eq_true, if_false] at ha
        refine ⟨_, by simp [b115_0, r115_0, r115_1, r115_2, r115_3, r115_4, d115_5, r115_6, r115_7, r115_8, r115_9, r115_10, splice, loadBox, hi, hw, cut, symAt_lt hi, hd, ha, a1, a2, c, buildRow, List.replicate]; rfl, by simp [xheadOf, safeRegs]⟩
      | true =>
        simp only [c, if_true] at ha
        refine ⟨_, by simp [b115_0, r115_0, r115_1, r115_2, r115_3, r115_4, d115_5, r115_6, r115_7, r115_8, r115_9, r115_10, splice, loadBox, hi, hw, cut, symAt_lt hi, hd, ha, a1, a2, a3, c, buildRow, List.replicate]; rfl, by simp [xheadOf, safeRegs]⟩)
    l.length () 0 ⟨[(3, .d (.sl U [])), (8, .d (sg l)), (9, .d (.int .i64 l.length)), (10, .d (.int .i64 0))], []⟩ (by omega) (by simp [xheadOf, safeRegs, strs])
  rw [run_on] at h
  simp only [lin_115] at h
  have hj0 : ∀ B, callX XV 93 [.d (.sl .sub (strs (sigP l) l.length)), .d (.str ⟨#[32]⟩)] B = some (.d (.str (txt (sigP l) blankB l.length)), B) := fun B => join_eq (sigP l) blankB l.length .sub B (by omega) (by have := sig_size l hl ho hn l.length (by omega); omega)
  simp [v115, r115_0, r115_1, r115_2, r115_3, r115_4, d115_5, r115_6, r115_7, r115_8, r115_9, r115_10, buildRow, List.replicate]
  rw [h]
  simp [v115, r115_0, r115_1, r115_2, r115_3, r115_4, d115_5, r115_6, r115_7, r115_8, r115_9, r115_10, hj0]
theorem specSigText_eq (l : List SymL) (hl : l.length ≤ 1048576) (ho : ∀ s, s ∈ l → s.ok) (hn : ∀ i, i < l.length → (symAt l i).name.size ≤ 1048576) : callX XV 114 [.d (sg l)] [] = some (.d (.str (txt (sigP l) blankB l.length)), []) := by
  rw [z_call XV _ _ _ v114 rfl xcode_114 rfl]
  have h := loopX_inv (X := XV) (T := []) (L := 0) (live := [0, 3, 4]) (b := b114_0) (n := l.length) (γ := Unit) (st := fun (s : ByteArray) i => ⟨[(0, .d (sg l)), (3, .d (.str s)), (4, .d (.int .i64 i))], []⟩) (step := stepX (sigP l) blankB)
    (F := fun s => (.exit 0, ⟨[(0, .d (sg l)), (3, .d (.str s)), (4, .d (.int .i64 l.length)), (8, .d (.bool false))], []⟩)) (R := fun _ => (.ret, ⟨[], []⟩))
    (fun s i => s = txt (sigP l) blankB i)
    (fun _ _ => ⟨by simp, by simp [b114_0, r114_0, r114_1, r114_2, r114_3, r114_5, r114_6, d114_7, r114_8, r114_9, r114_4, r114_10]⟩)
    (fun s i hi hs => by
      subst hs
      have hw := wrap_succ (n := i) (by omega)
      have hs := ho _ (symAt_mem hi)
      have hd := specDigits_eq (symAt l i).arity hs.2.1 hs.2.2
      have hds := digits_size' hs.2.1 hs.2.2
      have hns := hn i hi
      have h1 : slashB.size = 1 := rfl
      have h2 : starB.size = 1 := rfl
      have h3 : blankB.size = 1 := rfl
      have hsz := sig_size l hl ho hn i (by omega)
      refine ⟨?_, fun a' h => by simp only [stepX, Sum.inl.injEq] at h; rw [← h]; rfl⟩
      unfold stepX
      generalize txt (sigP l) blankB i = t0 at *
      have a0 : evBin .add (.str t0) (.str ⟨#[32]⟩) = some (.str (t0 ++ blankB)) := evBin_cat (b := blankB) (by omega)
      obtain ⟨t1, ht1, hz⟩ : ∃ t1, t1 = (if 0 < i then t0 ++ blankB else t0) ∧ t1.size ≤ t0.size + 1 := ⟨_, rfl, by split <;> (try simp only [ByteArray.size_append]) <;> omega⟩
      rw [← ht1]
      have a1 : evBin .add (.str t1) (.str (symAt l i).name) = some (.str (t1 ++ (symAt l i).name)) := evBin_cat (by omega)
      have a2 : evBin .add (.str (t1 ++ (symAt l i).name)) (.str ⟨#[47]⟩) = some (.str (t1 ++ (symAt l i).name ++ slashB)) := evBin_cat (b := slashB) (by simp only [ByteArray.size_append]; omega)
      have a3 : evBin .add (.str (t1 ++ (symAt l i).name ++ slashB)) (.str (digits (symAt l i).arity)) = some (.str (t1 ++ (symAt l i).name ++ slashB ++ digits (symAt l i).arity)) := evBin_cat (by simp only [ByteArray.size_append]; omega)
      have a4 : evBin .add (.str (t1 ++ (symAt l i).name ++ slashB ++ digits (symAt l i).arity)) (.str ⟨#[42]⟩) = some (.str (t1 ++ (symAt l i).name ++ slashB ++ digits (symAt l i).arity ++ starB)) := evBin_cat (b := starB) (by simp only [ByteArray.size_append]; omega)
      have hp : (symAt l i).ac = false → t1 ++ sigP l i = t1 ++ (symAt l i).name ++ slashB ++ digits (symAt l i).arity := fun c => by simp [sigP, symT, c, ByteArray.append_assoc]
      have hp2 : (symAt l i).ac = true → t1 ++ sigP l i = t1 ++ (symAt l i).name ++ slashB ++ digits (symAt l i).arity ++ starB := fun c => by simp [sigP, symT, c, ByteArray.append_assoc]
      by_cases c0 : 0 < i
      · rw [if_pos c0] at ht1
        subst ht1
        cases c : (symAt l i).ac with
        | false =>
          rw [hp c]
          refine ⟨_, by simp [b114_0, r114_0, r114_1, r114_2, r114_3, r114_5, r114_6, d114_7, r114_8, r114_9, r114_4, r114_10, hi, hw, cut, symAt_lt hi, hd, c0, a0, a1, a2, a3, c]; rfl, by simp [xheadOf, safeRegs]⟩
        | true =>
          rw [hp2 c]
          refine ⟨_, by simp [b114_0, r114_0, r114_1, r114_2, r114_3, r114_5, r114_6, d114_7, r114_8, r114_9, r114_4, r114_10, hi, hw, cut, symAt_lt hi, hd, c0, a0, a1, a2, a3, a4, c]; rfl, by simp [xheadOf, safeRegs]⟩
      · rw [if_neg c0] at ht1
        subst ht1
        cases c : (symAt l i).ac with
        | false =>
          rw [hp c]
          refine ⟨_, by simp [b114_0, r114_0, r114_1, r114_2, r114_3, r114_5, r114_6, d114_7, r114_8, r114_9, r114_4, r114_10, hi, hw, cut, symAt_lt hi, hd, c0, a1, a2, a3, c]; rfl, by simp [xheadOf, safeRegs]⟩
        | true =>
          rw [hp2 c]
          refine ⟨_, by simp [b114_0, r114_0, r114_1, r114_2, r114_3, r114_5, r114_6, d114_7, r114_8, r114_9, r114_4, r114_10, hi, hw, cut, symAt_lt hi, hd, c0, a1, a2, a3, a4, c]; rfl, by simp [xheadOf, safeRegs]⟩)
    l.length ByteArray.empty 0 ⟨[(0, .d (sg l)), (3, .d (.str ByteArray.empty)), (4, .d (.int .i64 0))], []⟩ (by omega) rfl (by simp [xheadOf, safeRegs])
  have hr := runX (sigP l) blankB l.length 0
  rw [Nat.zero_add] at hr
  rw [show ByteArray.empty = txt (sigP l) blankB 0 from rfl, hr] at h
  simp [v114, r114_0, r114_1, r114_2, r114_3, r114_5, r114_6, d114_7, r114_8, r114_9, r114_4, r114_10]
  simp only [show (⟨#[]⟩ : ByteArray) = txt (sigP l) blankB 0 from rfl, h]
  simp [v114, r114_0, r114_1, r114_2, r114_3, r114_5, r114_6, d114_7, r114_8, r114_9, r114_4, r114_10]
theorem FnExactSigText_x (l : List SymL) (hl : l.length ≤ maxLen) (ho : ∀ s, s ∈ l → s.ok) : ∃ B, callX XV 113 [.d (sg l)] [] = some (.d (.bool true), B) := by
  rw [z_call XV _ _ _ v113 rfl xcode_113 rfl]
  have z0 := szSymS_eq l 1048576 hl ho (by omega) (by omega)
  by_cases h0 : (1048576 : Int) - symsSize l < 0
  · rw [leftOf_neg h0] at z0
    simp [v113, r113_0, r113_1, r113_2, r113_3, r113_4, r113_5, r113_6, r113_7, r113_8, r113_9, r113_10, r113_11, r113_12, z0]
  rw [leftOf_pos h0] at z0
  have hls : l.length ≤ 1048576 := by unfold symsSize at h0; omega
  have hn : ∀ i, i < l.length → (symAt l i).name.size ≤ 1048576 := fun i hi => by have := name_le l i hi; omega
  have t0 := toSymS_eq l hls
  have s1 := specSigText_eq l hls ho hn
  have s2 := implSigText_eq l hls ho hn
  have e0 := eqSymS_self l hls
  simp [v113, r113_0, r113_1, r113_2, r113_3, r113_4, r113_5, r113_6, r113_7, r113_8, r113_9, r113_10, r113_11, r113_12, z0, h0, t0, s1, s2, e0, strEq_self]
end Go.Proofs.Ytpmjooeehnmkcaa.VS
