/- Contracts of the program's functions on the evaluator without names, and plain lemmas: XSubT. -/
import Derived.Test.YtpmjooeehnmkcaaXTermT
import Derived.Test.YtpmjooeehnmkcaaXBind
namespace Go.Proofs.Ytpmjooeehnmkcaa.VS
set_option linter.unusedVariables false
set_option linter.unusedSimpArgs false
/-! ## SubText -/
def semiB : ByteArray := ⟨#[59]⟩
def equB : ByteArray := ⟨#[61]⟩
def subP (l : List SymL) (s : List Bd) (i : Nat) : ByteArray := xB ++ digits (bAt s i).v ++ equB ++ T.text l (bAt s i).t
theorem subP_size (l : List SymL) (hn : ∀ i, i < l.length → (symAt l i).name.size ≤ 1048576) (s : List Bd) (hso : ∀ b, b ∈ s → b.ok) (hr : ∀ b, b ∈ s → b.t.rng) (i : Nat) (hi : i < s.length) : (subP l s i).size + 1 ≤ 1048604 * ((bAt s i).t.inner + 1) + 24 := by
  have h1 := text_size l hn (bAt s i).t (hr _ (bAt_mem hi))
  have hb := (hso _ (bAt_mem hi)).1
  have h2 := digits_size21 hb.1 hb.2
  have e1 : xB.size = 1 := rfl
  have e2 : equB.size = 1 := rfl
  unfold subP
  simp only [ByteArray.size_append]
  omega
theorem sumW_succ (w : Nat → Nat) : ∀ (k i : Nat), sumW w i (k + 1) = sumW w i k + w (i + k)
  | 0, i => by simp [sumW]
  | k + 1, i => by
    rw [sumW, sumW_succ w k (i + 1), sumW]
    rw [show i + 1 + k = i + (k + 1) by omega]
    omega
theorem sumW_le (w : Nat → Nat) (i : Nat) : ∀ (k m : Nat), k ≤ m → sumW w i k ≤ sumW w i m := by
  intro k m h
  induction m with
  | zero => obtain rfl : k = 0 := by omega
            exact Nat.le_refl _
  | succ m ih =>
    rcases Nat.eq_or_lt_of_le h with rfl | h
    · exact Nat.le_refl _
    · rw [sumW_succ]; have := ih (by omega); omega
theorem sub_size0 (l : List SymL) (hn : ∀ i, i < l.length → (symAt l i).name.size ≤ 1048576) (s : List Bd) (hso : ∀ b, b ∈ s → b.ok) (hr : ∀ b, b ∈ s → b.t.rng) : ∀ k, k ≤ s.length → (txt (subP l s) semiB k).size ≤ 1048604 * sumW (fun i => (bAt s i).t.inner) 0 k + 1048628 * k
  | 0, _ => by simp [txt]
  | k + 1, h => by
    have ih := sub_size0 l hn s hso hr k (by omega)
    have h1 := subP_size l hn s hso hr k (by omega)
    have hc : semiB.size = 1 := rfl
    rw [sumW_succ]
    simp only [Nat.zero_add]
    unfold txt
    split <;> simp only [ByteArray.size_append] <;> omega
theorem sub_size (l : List SymL) (hn : ∀ i, i < l.length → (symAt l i).name.size ≤ 1048576) (s : List Bd) (hso : ∀ b, b ∈ s → b.ok) (hr : ∀ b, b ∈ s → b.t.rng) (hb : bindsSize s ≤ 1048576) (k : Nat) (hk : k ≤ s.length) : (txt (subP l s) semiB k).size ≤ 1099567000000 := by
  have h := sub_size0 l hn s hso hr k hk
  have h2 := sumW_le (fun i => (bAt s i).t.inner) 0 k s.length hk
  unfold bindsSize at hb
  omega
theorem implSubText_eq (l : List SymL) (s : List Bd) (hs : l.length ≤ 1048576) (hn : ∀ i, i < l.length → (symAt l i).name.size ≤ 1048576) (hso : ∀ b, b ∈ s → b.ok) (hr : ∀ b, b ∈ s → b.t.rng) (hbs : bindsSize s ≤ 1048576) :
    callX XV 91 [.d (sg l), .d (binds .sub s)] [] = some (.d (.str (txt (subP l s) semiB s.length)), []) := by
  rw [z_call XV _ _ _ v91 rfl xcode_91 rfl]
  have hl : s.length ≤ 1048576 := by unfold bindsSize at hbs; omega
  have h := loopX_upto (X := XV) (T := XV.lin 91) (L := 0) (live := [0, 5, 9, 10, 11]) (b := b91_0) (n := s.length) (γ := Unit) (st := fun (_ : Unit) i => ⟨[(0, .d (sg l)), (5, .d (.sl U (strs (subP l s) i))), (9, .d (binds .sub s)), (10, .d (.int .i64 s.length)), (11, .d (.int .i64 i))], []⟩) (step := fun _ _ => .inl ())
    (F := fun _ => (.exit 0, ⟨[(0, .d (sg l)), (5, .d (.sl U (strs (subP l s) s.length))), (9, .d (binds .sub s)), (10, .d (.int .i64 s.length)), (11, .d (.int .i64 s.length)), (12, .d (.bool false))], []⟩)) (R := fun _ => (.ret, ⟨[], []⟩))
    (fun _ => ⟨by simp, by simp [b91_0, r91_0, r91_1, r91_2, r91_3, r91_4, d91_5, r91_6, r91_7]⟩)
    (fun _ i hi => by
      have hw := wrap_succ (n := i) (by omega)
      have hb := (hso _ (bAt_mem hi)).1
      have hd := implDigits_eq (bAt s i).v hb.1 hb.2
      have hds := digits_size21 hb.1 hb.2
      have hti := bind_le s i hi
      have ht := implText_eq l hs hn (bAt s i).t (by omega) (hr _ (bAt_mem hi))
      have hts := text_size l hn (bAt s i).t (hr _ (bAt_mem hi))
      have e1 : xB.size = 1 := rfl
      have e2 : equB.size = 1 := rfl
      have a1 : evBin .add (.str ⟨#[88]⟩) (.str (digits (bAt s i).v)) = some (.str (xB ++ digits (bAt s i).v)) := evBin_cat (a := xB) (by omega)
      have a2 : evBin .add (.str (xB ++ digits (bAt s i).v)) (.str ⟨#[61]⟩) = some (.str (xB ++ digits (bAt s i).v ++ equB)) := evBin_cat (b := equB) (by simp only [ByteArray.size_append]; omega)
      have a3 : evBin .add (.str (xB ++ digits (bAt s i).v ++ equB)) (.str (T.text l (bAt s i).t)) = some (.str (xB ++ digits (bAt s i).v ++ equB ++ T.text l (bAt s i).t)) := evBin_cat (by simp only [ByteArray.size_append]; omega)
      have ha := fun g => app_eq (subP l s) i g (by omega)
      simp only [subP] at ha
      refine ⟨_, by simp [b91_0, r91_0, r91_1, r91_2, r91_3, r91_4, d91_5, r91_6, r91_7, splice, loadBox, isCell_int, isCell_sl, isCellA_d, safe_d, hi, hw, cut, bAt_lt hi, hd, ht, ha, a1, a2, a3, buildRow, List.replicate]; rfl, by simp [xheadOf, safeRegs]⟩)
    s.length () 0 ⟨[(0, .d (sg l)), (5, .d (.sl U [])), (9, .d (binds .sub s)), (10, .d (.int .i64 s.length)), (11, .d (.int .i64 0))], []⟩ (by omega) (by simp [xheadOf, safeRegs, strs])
  rw [run_on] at h
  simp only [lin_91] at h
  have hj0 : ∀ B, callX XV 93 [.d (.sl .sub (strs (subP l s) s.length)), .d (.str ⟨#[59]⟩)] B = some (.d (.str (txt (subP l s) semiB s.length)), B) := fun B => join_eq (subP l s) semiB s.length .sub B (by omega) (by have := sub_size l hn s hso hr hbs s.length (by omega); omega)
  simp [v91, r91_0, r91_1, r91_2, r91_3, r91_4, d91_5, r91_6, r91_7, buildRow, List.replicate]
  rw [h]
  simp [v91, r91_0, r91_1, r91_2, r91_3, r91_4, d91_5, r91_6, r91_7, hj0]
theorem specSubText_eq (l : List SymL) (s : List Bd) (hs : l.length ≤ 1048576) (hn : ∀ i, i < l.length → (symAt l i).name.size ≤ 1048576) (hso : ∀ b, b ∈ s → b.ok) (hr : ∀ b, b ∈ s → b.t.rng) (hbs : bindsSize s ≤ 1048576) :
    callX XV 90 [.d (sg l), .d (binds .sub s)] [] = some (.d (.str (txt (subP l s) semiB s.length)), []) := by
  rw [z_call XV _ _ _ v90 rfl xcode_90 rfl]
  have hl : s.length ≤ 1048576 := by unfold bindsSize at hbs; omega
  have h := loopX_inv (X := XV) (T := []) (L := 0) (live := [0, 1, 5, 6]) (b := b90_0) (n := s.length) (γ := Unit) (st := fun (t : ByteArray) i => ⟨[(0, .d (sg l)), (1, .d (binds .sub s)), (5, .d (.str t)), (6, .d (.int .i64 i))], []⟩) (step := stepX (subP l s) semiB)
    (F := fun t => (.exit 0, ⟨[(0, .d (sg l)), (1, .d (binds .sub s)), (5, .d (.str t)), (6, .d (.int .i64 s.length)), (10, .d (.bool false))], []⟩)) (R := fun _ => (.ret, ⟨[], []⟩))
    (fun t i => t = txt (subP l s) semiB i)
    (fun _ _ => ⟨by simp, by simp [b90_0, r90_0, r90_1, r90_2, r90_3, r90_5, r90_6, d90_7, r90_4, r90_8]⟩)
    (fun t i hi ht => by
      subst ht
      have hw := wrap_succ (n := i) (by omega)
      have hb := (hso _ (bAt_mem hi)).1
      have hd := specDigits_eq (bAt s i).v hb.1 hb.2
      have hds := digits_size21 hb.1 hb.2
      have hti := bind_le s i hi
      have ht := specText_eq l hs hn (bAt s i).t (by omega) (hr _ (bAt_mem hi))
      have hts := text_size l hn (bAt s i).t (hr _ (bAt_mem hi))
      have e1 : xB.size = 1 := rfl
      have e2 : equB.size = 1 := rfl
      have e3 : semiB.size = 1 := rfl
      have hsz := sub_size l hn s hso hr hbs i (by omega)
      refine ⟨?_, fun a' h => by simp only [stepX, Sum.inl.injEq] at h; rw [← h]; rfl⟩
      unfold stepX
      generalize txt (subP l s) semiB i = t0 at *
      have a0 : evBin .add (.str t0) (.str ⟨#[59]⟩) = some (.str (t0 ++ semiB)) := evBin_cat (b := semiB) (by omega)
      obtain ⟨t1, ht1, hz⟩ : ∃ t1, t1 = (if 0 < i then t0 ++ semiB else t0) ∧ t1.size ≤ t0.size + 1 := ⟨_, rfl, by split <;> (try simp only [ByteArray.size_append]) <;> omega⟩
      rw [← ht1]
      have a1 : evBin .add (.str t1) (.str ⟨#[88]⟩) = some (.str (t1 ++ xB)) := evBin_cat (b := xB) (by omega)
      have a2 : evBin .add (.str (t1 ++ xB)) (.str (digits (bAt s i).v)) = some (.str (t1 ++ xB ++ digits (bAt s i).v)) := evBin_cat (by simp only [ByteArray.size_append]; omega)
      have a3 : evBin .add (.str (t1 ++ xB ++ digits (bAt s i).v)) (.str ⟨#[61]⟩) = some (.str (t1 ++ xB ++ digits (bAt s i).v ++ equB)) := evBin_cat (b := equB) (by simp only [ByteArray.size_append]; omega)
      have a4 : evBin .add (.str (t1 ++ xB ++ digits (bAt s i).v ++ equB)) (.str (T.text l (bAt s i).t)) = some (.str (t1 ++ xB ++ digits (bAt s i).v ++ equB ++ T.text l (bAt s i).t)) := evBin_cat (by simp only [ByteArray.size_append]; omega)
      have hp : t1 ++ subP l s i = t1 ++ xB ++ digits (bAt s i).v ++ equB ++ T.text l (bAt s i).t := by simp [subP, ByteArray.append_assoc]
      rw [hp]
      by_cases c0 : 0 < i
      · rw [if_pos c0] at ht1
        subst ht1
        refine ⟨_, by simp [b90_0, r90_0, r90_1, r90_2, r90_3, r90_5, r90_6, d90_7, r90_4, r90_8, hi, hw, cut, bAt_lt hi, hd, ht, c0, a0, a1, a2, a3, a4]; rfl, by simp [xheadOf, safeRegs]⟩
      · rw [if_neg c0] at ht1
        subst ht1
        refine ⟨_, by simp [b90_0, r90_0, r90_1, r90_2, r90_3, r90_5, r90_6, d90_7, r90_4, r90_8, hi, hw, cut, bAt_lt hi, hd, ht, c0, a1, a2, a3, a4]; rfl, by simp [xheadOf, safeRegs]⟩)
    s.length ByteArray.empty 0 ⟨[(0, .d (sg l)), (1, .d (binds .sub s)), (5, .d (.str ByteArray.empty)), (6, .d (.int .i64 0))], []⟩ (by omega) rfl (by simp [xheadOf, safeRegs])
  have hr2 := runX (subP l s) semiB s.length 0
  rw [Nat.zero_add] at hr2
  rw [show ByteArray.empty = txt (subP l s) semiB 0 from rfl, hr2] at h
  simp [v90, r90_0, r90_1, r90_2, r90_3, r90_5, r90_6, d90_7, r90_4, r90_8]
  simp only [show (⟨#[]⟩ : ByteArray) = txt (subP l s) semiB 0 from rfl, h]
  simp [v90, r90_0, r90_1, r90_2, r90_3, r90_5, r90_6, d90_7, r90_4, r90_8]
theorem FnExactSubText_x (l : List SymL) (hl : l.length ≤ maxLen) (ho : ∀ s, s ∈ l → s.ok) (s : List Bd) (hs : s.length ≤ maxLen) (hso : ∀ b, b ∈ s → b.ok) (hr : ∀ b, b ∈ s → b.t.rng) : ∃ B, callX XV 89 [.d (sg l), .d (binds .sub s)] [] = some (.d (.bool true), B) := by
  rw [z_call XV _ _ _ v89 rfl xcode_89 rfl]
  have z0 := szSymS_eq l 1048576 hl ho (by omega) (by omega)
  by_cases h0 : (1048576 : Int) - symsSize l < 0
  · rw [leftOf_neg h0] at z0
    simp [v89, r89_0, r89_1, r89_2, r89_3, r89_4, r89_5, r89_6, r89_7, r89_8, r89_9, r89_10, r89_11, r89_12, r89_13, r89_14, r89_15, r89_16, r89_17, r89_18, z0]
  rw [leftOf_pos h0] at z0
  have hls : l.length ≤ 1048576 := by unfold symsSize at h0; omega
  have hn : ∀ i, i < l.length → (symAt l i).name.size ≤ 1048576 := fun i hi => by have := name_le l i hi; omega
  have z1 := szBindS_eq s (1048576 - symsSize l) hs hso (by omega) (by omega)
  by_cases h1 : (1048576 : Int) - symsSize l - bindsSize s < 0
  · rw [leftOf_neg h1] at z1
    simp [v89, r89_0, r89_1, r89_2, r89_3, r89_4, r89_5, r89_6, r89_7, r89_8, r89_9, r89_10, r89_11, r89_12, r89_13, r89_14, r89_15, r89_16, r89_17, r89_18, z0, h0, z1]
  rw [leftOf_pos h1] at z1
  have hbs : bindsSize s ≤ 1048576 := by omega
  have hlb : s.length ≤ 1048576 := by unfold bindsSize at h1; omega
  have hb : ∀ i, i < s.length → (bAt s i).t.inner ≤ 1048576 := fun i hi => by have := bind_le s i hi; omega
  have t0 := toSymS_eq l hls
  have t1 := toBindS_eq s hlb hb
  have s1 := specSubText_eq l s hls hn hso hr hbs
  have s2 := implSubText_eq l s hls hn hso hr hbs
  have e0 := eqSymS_self l hls
  have e1 := eqBindS_self s hlb hb
  simp [v89, r89_0, r89_1, r89_2, r89_3, r89_4, r89_5, r89_6, r89_7, r89_8, r89_9, r89_10, r89_11, r89_12, r89_13, r89_14, r89_15, r89_16, r89_17, r89_18, z0, h0, z1, h1, t0, t1, s1, s2, e0, e1, splice, strEq_self]
end Go.Proofs.Ytpmjooeehnmkcaa.VS
