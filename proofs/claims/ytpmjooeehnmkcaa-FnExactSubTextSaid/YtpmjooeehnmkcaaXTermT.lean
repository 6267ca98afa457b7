/- Contracts of the program's functions on the evaluator without names, and plain lemmas: XTermT. -/
import Derived.Test.YtpmjooeehnmkcaaXText
import Derived.Test.YtpmjooeehnmkcaaXForm
namespace Go.Proofs.Ytpmjooeehnmkcaa.VS
set_option linter.unusedVariables false
set_option linter.unusedSimpArgs false
/-! ## TermText -/
mutual
/-- A term's numbers lie where Go's whole numbers lie. -/
def T.rng : T → Prop
  | .node _ v ks => (-9223372036854775808 ≤ v ∧ v ≤ 9223372036854775807) ∧ T.rngs ks
def T.rngs : List T → Prop
  | [] => True
  | t :: r => t.rng ∧ T.rngs r
end
theorem T.rngs_iff : ∀ l : List T, T.rngs l ↔ ∀ t, t ∈ l → t.rng
  | [] => by simp [T.rngs]
  | t :: r => by simp [T.rngs, T.rngs_iff r]
def commaB : ByteArray := ⟨#[44]⟩
def xB : ByteArray := ⟨#[88]⟩
def openB : ByteArray := ⟨#[40]⟩
def shutB : ByteArray := ⟨#[41]⟩
def askB : ByteArray := ⟨#[63]⟩
def symN (l : List SymL) (f : Int) : ByteArray := if symIn l f then (symAt l f.toNat).name else askB
def nthB (l : List ByteArray) (i : Nat) : ByteArray := (l[i]?).getD ByteArray.empty
mutual
def T.text (l : List SymL) : T → ByteArray
  | .node f v ks => if f = -1 then xB ++ digits v else if ks.length = 0 then symN l f else symN l f ++ openB ++ txt (nthB (T.texts l ks)) commaB ks.length ++ shutB
def T.texts (l : List SymL) : List T → List ByteArray
  | [] => []
  | t :: r => t.text l :: T.texts l r
end
theorem T.texts_map (l : List SymL) : ∀ ks : List T, T.texts l ks = ks.map (T.text l)
  | [] => by unfold T.texts; rfl
  | t :: r => by unfold T.texts; simp [T.texts_map l r]
def kidP (l : List SymL) (ks : List T) (i : Nat) : ByteArray := nthB (T.texts l ks) i
theorem kidP_lt (l : List SymL) {ks : List T} {i : Nat} (h : i < ks.length) : kidP l ks i = T.text l (tAt ks i) := by
  unfold kidP nthB; rw [T.texts_map]; simp [tAt_get h]
theorem text_node (l : List SymL) (f v : Int) (ks : List T) : T.text l (.node f v ks) = if f = -1 then xB ++ digits v else if ks.length = 0 then symN l f else symN l f ++ openB ++ txt (kidP l ks) commaB ks.length ++ shutB := by
  simp only [T.text]; rfl
theorem digits_size21 {n : Int} (h1 : -9223372036854775808 ≤ n) (h2 : n ≤ 9223372036854775807) : (digits n).size ≤ 21 := by
  have := digs_size20 (n := n.natAbs) (by omega)
  unfold digits
  split
  · rw [ByteArray.size_append, minus_size]; omega
  · omega
theorem symN_size (l : List SymL) (hn : ∀ i, i < l.length → (symAt l i).name.size ≤ 1048576) (f : Int) : (symN l f).size ≤ 1048576 := by
  unfold symN
  split
  · rename_i h; exact hn _ (symIn_lt h).2
  · have : askB.size = 1 := rfl
    omega
theorem inners_drop (ks : List T) (i : Nat) (hi : i < ks.length) : T.inners (ks.drop i) = (tAt ks i).inner + T.inners (ks.drop (i + 1)) := by
  rw [List.drop_eq_getElem_cons hi, tAt_lt hi]
  simp only [T.inners]
theorem kids_size (l : List SymL) (ks : List T) (hp : ∀ s, s ∈ ks → (T.text l s).size + 1 ≤ 1048604 * (s.inner + 1)) : ∀ k, k ≤ ks.length → (txt (kidP l ks) commaB k).size + 1048604 * (T.inners (ks.drop k) + (ks.length - k)) ≤ 1048604 * (T.inners ks + ks.length)
  | 0, _ => by simp [txt]
  | k + 1, h => by
    have ih := kids_size l ks hp k (by omega)
    have h1 := hp _ (tAt_mem (show k < ks.length by omega))
    rw [inners_drop ks k (by omega)] at ih
    have h2 : (txt (kidP l ks) commaB (k + 1)).size ≤ (txt (kidP l ks) commaB k).size + 1 + (T.text l (tAt ks k)).size := by
      have hc : commaB.size = 1 := rfl
      simp only [txt]
      rw [kidP_lt l (show k < ks.length by omega)]
      split <;> simp only [ByteArray.size_append] <;> omega
    omega
theorem text_size (l : List SymL) (hn : ∀ i, i < l.length → (symAt l i).name.size ≤ 1048576) (t : T) (hr : t.rng) : (T.text l t).size + 1 ≤ 1048604 * (t.inner + 1) := by
  match t, hr with
  | .node f v ks, hr =>
    simp only [T.rng] at hr
    have hk := kids_size l ks (fun s hs => text_size l hn s ((T.rngs_iff ks).1 hr.2 s hs)) ks.length (Nat.le_refl _)
    have hd := digits_size21 hr.1.1 hr.1.2
    have hs := symN_size l hn f
    have e1 : xB.size = 1 := rfl
    have e2 : openB.size = 1 := rfl
    have e3 : shutB.size = 1 := rfl
    have e4 : T.inners (ks.drop ks.length) = 0 := by simp [T.inners]
    rw [e4] at hk
    rw [text_node]
    simp only [T.inner]
    split
    · simp only [ByteArray.size_append]; omega
    · split
      · omega
      · simp only [ByteArray.size_append]; omega
termination_by t
decreasing_by
  simp_wf
  have := List.sizeOf_lt_of_mem hs
  omega
def boxT (f v : Int) (ks : List T) : Boxs := [some [.d (.int .i64 f), .d (.int .i64 v), .d (terms .sub ks)]]
theorem kid_size (l : List SymL) (hn : ∀ i, i < l.length → (symAt l i).name.size ≤ 1048576) (ks : List T) (hr : T.rngs ks) (hi : T.inners ks + ks.length ≤ 1048576) (k : Nat) (hk : k ≤ ks.length) : (txt (kidP l ks) commaB k).size ≤ 1099541000000 := by
  have := kids_size l ks (fun s hs => text_size l hn s ((T.rngs_iff ks).1 hr s hs)) k hk
  omega
theorem implText_of (l : List SymL) (hl : l.length ≤ 1048576) (hn : ∀ i, i < l.length → (symAt l i).name.size ≤ 1048576) (f v : Int) (ks : List T) (hv : -9223372036854775808 ≤ v ∧ v ≤ 9223372036854775807) (hr : T.rngs ks) (hi : T.inners ks + ks.length ≤ 1048576)
    (hrec : ∀ s, s ∈ ks → callX XV 92 [.d (sg l), .d (s.enc .sub)] [] = some (.d (.str (T.text l s)), [])) :
    callX XV 92 [.d (sg l), .d ((T.node f v ks).enc .sub)] [] = some (.d (.str (T.text l (.node f v ks))), []) := by
  rw [z_call XV _ _ _ v92 rfl xcode_92 rfl, text_node]
  have hiv := isVar_eq (.node f v ks)
  rw [T.f_node] at hiv
  have hd := implDigits_eq v hv.1 hv.2
  have hds := digits_size21 hv.1 hv.2
  have e1 : xB.size = 1 := rfl
  have e2 : openB.size = 1 := rfl
  have e3 : shutB.size = 1 := rfl
  by_cases c1 : f = -1
  · rw [if_pos c1]
    have b1 : (f == -1) = true := by simp [c1]
    rw [b1] at hiv
    have a1 : evBin .add (.str ⟨#[88]⟩) (.str (digits v)) = some (.str (xB ++ digits v)) := evBin_cat (a := xB) (by omega)
    simp [v92, r92_0, r92_1, r92_2, r92_3, r92_4, r92_5, r92_6, r92_7, r92_8, r92_9, r92_10, r92_11, r92_12, r92_13, r92_14, splice, loadBox, isCell_int, isCell_sl, isCellA_d, safe_d, hiv, hd, a1]
  rw [if_neg c1]
  have b1 : (f == -1) = false := by simp [c1]
  rw [b1] at hiv
  have hsy := isSym_eq l hl f
  have hnm : symN l f = if symIn l f then (symAt l f.toNat).name else askB := rfl
  have hns := symN_size l hn f
  have h := loopX_upto (X := XV) (T := XV.lin 92) (L := 1) (live := [0, 5, 6, 32, 33, 34]) (b := b92_0) (n := ks.length) (γ := Unit) (st := fun (_ : Unit) i => ⟨[(0, .d (sg l)), (5, .d (.str (symN l f))), (6, .d (.sl U (strs (kidP l ks) i))), (32, .d (terms .sub ks)), (33, .d (.int .i64 ks.length)), (34, .d (.int .i64 i))], boxT f v ks⟩) (step := fun _ _ => .inl ())
    (F := fun _ => (.exit 0, ⟨[(0, .d (sg l)), (5, .d (.str (symN l f))), (6, .d (.sl U (strs (kidP l ks) ks.length))), (32, .d (terms .sub ks)), (33, .d (.int .i64 ks.length)), (34, .d (.int .i64 ks.length)), (35, .d (.bool false))], boxT f v ks⟩)) (R := fun _ => (.ret, ⟨[], []⟩))
    (fun _ => ⟨by simp, by simp [b92_0, r92_0, r92_1, r92_2, r92_3, r92_4, r92_5, r92_6, r92_7, r92_8, r92_9, r92_10, r92_11, r92_12, r92_13, r92_14]⟩)
    (fun _ i hi => by
      have hw := wrap_succ (n := i) (by omega)
      have hc := hrec _ (tAt_mem hi)
      have ha := fun g => app_eq (kidP l ks) i g (by omega)
      simp only [kidP_lt l hi] at ha
      unfold boxT
      refine ⟨_, by simp [b92_0, r92_0, r92_1, r92_2, r92_3, r92_4, r92_5, r92_6, r92_7, r92_8, r92_9, r92_10, r92_11, r92_12, r92_13, r92_14, splice, loadBox, isCell_int, isCell_sl, isCellA_d, safe_d, hi, hw, cut, tAt_lt hi, hc, ha, buildRow, List.replicate]; rfl, by simp [xheadOf, safeRegs]⟩)
    ks.length () 0 ⟨[(0, .d (sg l)), (5, .d (.str (symN l f))), (6, .d (.sl U [])), (32, .d (terms .sub ks)), (33, .d (.int .i64 ks.length)), (34, .d (.int .i64 0))], boxT f v ks⟩ (by omega) (by simp [xheadOf, safeRegs, strs, boxT])
  rw [run_on] at h
  simp only [lin_92, boxT] at h
  have hks := kid_size l hn ks hr hi ks.length (Nat.le_refl _)
  have hj0 : ∀ B, callX XV 93 [.d (.sl .sub (strs (kidP l ks) ks.length)), .d (.str ⟨#[44]⟩)] B = some (.d (.str (txt (kidP l ks) commaB ks.length)), B) := fun B => join_eq (kidP l ks) commaB ks.length .sub B (by omega) (by omega)
  have a1 : evBin .add (.str (symN l f)) (.str ⟨#[40]⟩) = some (.str (symN l f ++ openB)) := evBin_cat (b := openB) (by omega)
  have a2 : evBin .add (.str (symN l f ++ openB)) (.str (txt (kidP l ks) commaB ks.length)) = some (.str (symN l f ++ openB ++ txt (kidP l ks) commaB ks.length)) := evBin_cat (by simp only [ByteArray.size_append]; omega)
  have a3 : evBin .add (.str (symN l f ++ openB ++ txt (kidP l ks) commaB ks.length)) (.str ⟨#[41]⟩) = some (.str (symN l f ++ openB ++ txt (kidP l ks) commaB ks.length ++ shutB)) := evBin_cat (b := shutB) (by simp only [ByteArray.size_append]; omega)
  have key : ∀ nm, nm = symN l f → (symIn l f = true → nm = (symAt l f.toNat).name) := fun nm h h' => by rw [h, hnm, if_pos h']
  by_cases c3 : ks.length = 0
  · rw [if_pos c3]
    have b3 : ((ks.length : Int) == 0) = true := by simp [c3]
    cases c2 : symIn l f with
    | true =>
      have hlt := symIn_lt c2
      have hn1 : (symAt l f.toNat).name = symN l f := by rw [hnm, if_pos c2]
      rw [c2] at hsy
      simp [v92, r92_0, r92_1, r92_2, r92_3, r92_4, r92_5, r92_6, r92_7, r92_8, r92_9, r92_10, r92_11, r92_12, r92_13, r92_14, splice, loadBox, isCell_int, isCell_sl, isCellA_d, safe_d, hiv, hsy, hlt, symAt_lt hlt.2, cut, hn1, c3]
    | false =>
      have hn1 : symN l f = ⟨#[63]⟩ := by rw [hnm, c2]; rfl
      rw [c2] at hsy
      simp [v92, r92_0, r92_1, r92_2, r92_3, r92_4, r92_5, r92_6, r92_7, r92_8, r92_9, r92_10, r92_11, r92_12, r92_13, r92_14, splice, loadBox, isCell_int, isCell_sl, isCellA_d, safe_d, hiv, hsy, hn1, c3]
  · rw [if_neg c3]
    have b3 : ((ks.length : Int) == 0) = false := beq_eq_false_iff_ne.2 (by omega)
    cases c2 : symIn l f with
    | true =>
      have hlt := symIn_lt c2
      have hn1 : (symAt l f.toNat).name = symN l f := by rw [hnm, if_pos c2]
      rw [c2] at hsy
      simp [v92, r92_0, r92_1, r92_2, r92_3, r92_4, r92_5, r92_6, r92_7, r92_8, r92_9, splice, loadBox, isCell_int, isCell_sl, isCellA_d, safe_d, hiv, hsy, hlt, symAt_lt hlt.2, cut, hn1, b3, buildRow, List.replicate]
      rw [h]
      simp [r92_14, hj0, a1, a2, a3]
    | false =>
      have hn1 : symN l f = ⟨#[63]⟩ := by rw [hnm, c2]; rfl
      rw [c2] at hsy
      rw [hn1] at h a1 a2 a3 ⊢
      simp [v92, r92_0, r92_1, r92_2, r92_3, r92_4, r92_5, r92_6, r92_7, r92_8, r92_9, splice, loadBox, isCell_int, isCell_sl, isCellA_d, safe_d, hiv, hsy, b3, buildRow, List.replicate]
      rw [h]
      simp [r92_14, hj0, a1, a2, a3]
theorem implText_eq (l : List SymL) (hl : l.length ≤ 1048576) (hn : ∀ i, i < l.length → (symAt l i).name.size ≤ 1048576) (t : T) (ht : t.inner ≤ 1048576) (hr : t.rng) : callX XV 92 [.d (sg l), .d (t.enc .sub)] [] = some (.d (.str (T.text l t)), []) := by
  match t, ht, hr with
  | .node f v ks, ht, hr =>
    simp only [T.inner] at ht
    simp only [T.rng] at hr
    exact implText_of l hl hn f v ks hr.1 hr.2 (by omega) (fun s h => implText_eq l hl hn s (by have := T.inners_mem h; omega) ((T.rngs_iff ks).1 hr.2 s h))
termination_by t
decreasing_by
  simp_wf
  have := List.sizeOf_lt_of_mem h
  omega
def stepY (p : Nat → ByteArray) (s : ByteArray) (i : Nat) : ByteArray ⊕ Unit := .inl (s ++ (if 0 < i then commaB else openB) ++ p i)
/-- The spec's text: what opens stands ahead of the first. -/
def txtO (nm : ByteArray) (p : Nat → ByteArray) (k : Nat) : ByteArray := if 0 < k then nm ++ openB ++ txt p commaB k else nm
theorem runY (nm : ByteArray) (p : Nat → ByteArray) : ∀ (k i : Nat), runN (stepY p) k (txtO nm p i) i = .inl (txtO nm p (i + k))
  | 0, i => rfl
  | k + 1, i => by
    simp only [runN, stepY]
    have h := runY nm p k (i + 1)
    rw [show i + 1 + k = i + (k + 1) by omega] at h
    rw [← h]
    congr 1
    unfold txtO
    by_cases c : 0 < i
    · simp only [c, if_true, Nat.succ_pos, txt, ByteArray.append_assoc]
    · obtain rfl : i = 0 := by omega
      simp [txt, ByteArray.append_assoc]
theorem txtO_step (nm : ByteArray) (p : Nat → ByteArray) (i : Nat) : txtO nm p (i + 1) = txtO nm p i ++ (if 0 < i then commaB else openB) ++ p i := by
  unfold txtO
  by_cases c : 0 < i
  · simp only [c, if_true, Nat.succ_pos, txt, ByteArray.append_assoc]
  · obtain rfl : i = 0 := by omega
    simp [txt, ByteArray.append_assoc]
theorem specText_of (l : List SymL) (hl : l.length ≤ 1048576) (hn : ∀ i, i < l.length → (symAt l i).name.size ≤ 1048576) (f v : Int) (ks : List T) (hv : -9223372036854775808 ≤ v ∧ v ≤ 9223372036854775807) (hr : T.rngs ks) (hi : T.inners ks + ks.length ≤ 1048576)
    (hrec : ∀ s, s ∈ ks → callX XV 98 [.d (sg l), .d (s.enc .sub)] [] = some (.d (.str (T.text l s)), [])) :
    callX XV 98 [.d (sg l), .d ((T.node f v ks).enc .sub)] [] = some (.d (.str (T.text l (.node f v ks))), []) := by
  rw [z_call XV _ _ _ v98 rfl xcode_98 rfl, text_node]
  have hd := specDigits_eq v hv.1 hv.2
  have hds := digits_size21 hv.1 hv.2
  have e1 : xB.size = 1 := rfl
  have e2 : openB.size = 1 := rfl
  have e3 : shutB.size = 1 := rfl
  have e4 : commaB.size = 1 := rfl
  by_cases c1 : f = -1
  · rw [if_pos c1]
    have a1 : evBin .add (.str ⟨#[88]⟩) (.str (digits v)) = some (.str (xB ++ digits v)) := evBin_cat (a := xB) (by omega)
    simp [v98, r98_0, r98_1, r98_2, r98_3, r98_4, r98_5, r98_6, r98_7, r98_9, r98_10, r98_11, r98_12, r98_8, r98_13, r98_14, r98_15, splice, loadBox, isCell_int, isCell_sl, isCellA_d, safe_d, c1, hd, a1]
  rw [if_neg c1]
  have b1 : (f == -1) = false := by simp [c1]
  have hw1 : IntKind.i64.wrap ((l.length : Int) - 1) = (l.length : Int) - 1 := wrap_i64 (by omega) (by omega)
  have hsy := l1In_eq f 0 ((l.length : Int) - 1)
  change _ = some (AV.d (.bool (symIn l f)), []) at hsy
  have hnm : symN l f = if symIn l f then (symAt l f.toNat).name else askB := rfl
  have hns := symN_size l hn f
  have hszO : ∀ k, k ≤ ks.length → (txtO (symN l f) (kidP l ks) k).size ≤ 1099542100000 := fun k hk => by
    have := kid_size l hn ks hr hi k hk
    unfold txtO
    split
    · simp only [ByteArray.size_append]; omega
    · omega
  have h := loopX_inv (X := XV) (T := XV.lin 98) (L := 1) (live := [0, 3, 5, 6]) (b := b98_0) (n := ks.length) (γ := Unit) (st := fun (s : ByteArray) i => ⟨[(0, .d (sg l)), (3, .ptr 0 0), (5, .d (.str s)), (6, .d (.int .i64 i))], boxT f v ks⟩) (step := stepY (kidP l ks))
    (F := fun s => (.exit 0, ⟨[(0, .d (sg l)), (3, .ptr 0 0), (5, .d (.str s)), (6, .d (.int .i64 ks.length)), (30, .d (.bool false))], boxT f v ks⟩)) (R := fun _ => (.ret, ⟨[], []⟩))
    (fun s i => s = txtO (symN l f) (kidP l ks) i)
    (fun _ _ => ⟨by simp, by simp [b98_0, r98_0, r98_1, r98_2, r98_3, r98_4, r98_5, r98_6, r98_7, r98_9, r98_10, r98_11, r98_12, r98_8, r98_13, r98_14, r98_15, boxT]⟩)
    (fun s i hi hs => by
      subst hs
      have hw := wrap_succ (n := i) (by omega)
      have hc := hrec _ (tAt_mem hi)
      have hz := hszO i (by omega)
      have hts := text_size l hn (tAt ks i) ((T.rngs_iff ks).1 hr _ (tAt_mem hi))
      have hti := T.inners_mem (tAt_mem hi)
      refine ⟨?_, fun a' h => by simp only [stepY, Sum.inl.injEq] at h; rw [← h, txtO_step]⟩
      unfold stepY boxT
      rw [kidP_lt l hi]
      generalize txtO (symN l f) (kidP l ks) i = t0 at *
      by_cases c0 : 0 < i
      · have c0' : ((i : Int) == 0) = false := beq_eq_false_iff_ne.2 (by omega)
        have a1 : evBin .add (.str t0) (.str ⟨#[44]⟩) = some (.str (t0 ++ commaB)) := evBin_cat (b := commaB) (by omega)
        have a2 : evBin .add (.str (t0 ++ commaB)) (.str (T.text l (tAt ks i))) = some (.str (t0 ++ commaB ++ T.text l (tAt ks i))) := evBin_cat (by simp only [ByteArray.size_append]; omega)
        rw [if_pos c0]
        refine ⟨_, by simp [b98_0, r98_0, r98_1, r98_2, r98_3, r98_4, r98_5, r98_6, r98_7, r98_9, r98_10, r98_11, r98_12, r98_8, r98_13, r98_14, r98_15, splice, loadBox, isCell_int, isCell_sl, isCellA_d, safe_d, hi, hw, cut, tAt_lt hi, hc, c0', a1, a2]; rfl, by simp [xheadOf, safeRegs]⟩
      · have c0' : ((i : Int) == 0) = true := by simp; omega
        have a1 : evBin .add (.str t0) (.str ⟨#[40]⟩) = some (.str (t0 ++ openB)) := evBin_cat (b := openB) (by omega)
        have a2 : evBin .add (.str (t0 ++ openB)) (.str (T.text l (tAt ks i))) = some (.str (t0 ++ openB ++ T.text l (tAt ks i))) := evBin_cat (by simp only [ByteArray.size_append]; omega)
        rw [if_neg c0]
        refine ⟨_, by simp [b98_0, r98_0, r98_1, r98_2, r98_3, r98_4, r98_5, r98_6, r98_7, r98_9, r98_10, r98_11, r98_12, r98_8, r98_13, r98_14, r98_15, splice, loadBox, isCell_int, isCell_sl, isCellA_d, safe_d, hi, hw, cut, tAt_lt hi, hc, c0', a1, a2]; rfl, by simp [xheadOf, safeRegs]⟩)
    ks.length (symN l f) 0 ⟨[(0, .d (sg l)), (3, .ptr 0 0), (5, .d (.str (symN l f))), (6, .d (.int .i64 0))], boxT f v ks⟩ (by omega) rfl (by simp [xheadOf, safeRegs, boxT])
  have hr2 := runY (symN l f) (kidP l ks) ks.length 0
  rw [Nat.zero_add, show txtO (symN l f) (kidP l ks) 0 = symN l f from rfl] at hr2
  rw [hr2] at h
  simp only [lin_98, boxT] at h
  have hz := hszO ks.length (Nat.le_refl _)
  have a3 : evBin .add (.str (txtO (symN l f) (kidP l ks) ks.length)) (.str ⟨#[41]⟩) = some (.str (txtO (symN l f) (kidP l ks) ks.length ++ shutB)) := evBin_cat (b := shutB) (by omega)
  have fin : (if ks.length = 0 then symN l f else symN l f ++ openB ++ txt (kidP l ks) commaB ks.length ++ shutB) = if 0 < ks.length then txtO (symN l f) (kidP l ks) ks.length ++ shutB else txtO (symN l f) (kidP l ks) ks.length := by
    unfold txtO
    by_cases c : ks.length = 0
    · simp [c]
    · have c' : 0 < ks.length := by omega
      simp only [c, c', if_false, if_true]
  rw [fin]
  generalize txtO (symN l f) (kidP l ks) ks.length = tt at *
  cases c2 : symIn l f with
  | true =>
    have hlt := symIn_lt c2
    have hn1 : (symAt l f.toNat).name = symN l f := by rw [hnm, if_pos c2]
    rw [c2] at hsy
    simp [v98, r98_0, r98_1, r98_2, r98_3, r98_4, r98_5, r98_6, splice, loadBox, isCell_int, isCell_sl, isCellA_d, safe_d, b1, hw1, hsy, hlt, symAt_lt hlt.2, cut, hn1]
    rw [h]
    by_cases c3 : 0 < ks.length
    · simp [r98_13, r98_14, r98_15, c3, a3]
    · simp [r98_13, r98_14, r98_15, c3]
  | false =>
    have hn1 : symN l f = ⟨#[63]⟩ := by rw [hnm, c2]; rfl
    rw [c2] at hsy
    rw [hn1] at h
    simp [v98, r98_0, r98_1, r98_2, r98_3, r98_4, r98_5, r98_6, splice, loadBox, isCell_int, isCell_sl, isCellA_d, safe_d, b1, hw1, hsy, cut]
    rw [h]
    by_cases c3 : 0 < ks.length
    · simp [r98_13, r98_14, r98_15, c3, a3]
    · simp [r98_13, r98_14, r98_15, c3]
theorem specText_eq (l : List SymL) (hl : l.length ≤ 1048576) (hn : ∀ i, i < l.length → (symAt l i).name.size ≤ 1048576) (t : T) (ht : t.inner ≤ 1048576) (hr : t.rng) : callX XV 98 [.d (sg l), .d (t.enc .sub)] [] = some (.d (.str (T.text l t)), []) := by
  match t, ht, hr with
  | .node f v ks, ht, hr =>
    simp only [T.inner] at ht
    simp only [T.rng] at hr
    exact specText_of l hl hn f v ks hr.1 hr.2 (by omega) (fun s h => specText_eq l hl hn s (by have := T.inners_mem h; omega) ((T.rngs_iff ks).1 hr.2 s h))
termination_by t
decreasing_by
  simp_wf
  have := List.sizeOf_lt_of_mem h
  omega
theorem FnExactTermText_x (l : List SymL) (hl : l.length ≤ maxLen) (ho : ∀ s, s ∈ l → s.ok) (a : T) (ha : a.ok) (hr : a.rng) : ∃ B, callX XV 100 [.d (sg l), .d (a.enc .sub)] [] = some (.d (.bool true), B) := by
  rw [z_call XV _ _ _ v100 rfl xcode_100 rfl]
  have z0 := szSymS_eq l 1048576 hl ho (by omega) (by omega)
  by_cases h0 : (1048576 : Int) - symsSize l < 0
  · rw [leftOf_neg h0] at z0
    simp [v100, r100_0, r100_1, r100_2, r100_3, r100_4, r100_5, r100_6, r100_7, d100_8, r100_9, r100_10, r100_11, r100_12, r100_13, r100_14, r100_15, d100_16, r100_17, r100_18, z0]
  rw [leftOf_pos h0] at z0
  have hls : l.length ≤ 1048576 := by unfold symsSize at h0; omega
  have hn : ∀ i, i < l.length → (symAt l i).name.size ≤ 1048576 := fun i hi => by have := name_le l i hi; omega
  have z1 := szTerm_eq a (1048576 - symsSize l) ha (by omega) (by omega)
  by_cases h1 : (1048576 : Int) - symsSize l - a.inner < 0
  · rw [leftOf_neg h1] at z1
    simp [v100, r100_0, r100_1, r100_2, r100_3, r100_4, r100_5, r100_6, r100_7, d100_8, r100_9, r100_10, r100_11, r100_12, r100_13, r100_14, r100_15, d100_16, r100_17, r100_18, z0, h0, z1]
  rw [leftOf_pos h1] at z1
  have t0 := toSymS_eq l hls
  have t1 := toTerm_eq a (by omega)
  have s1 := specText_eq l hls hn a (by omega) hr
  have s2 := implText_eq l hls hn a (by omega) hr
  have e0 := eqSymS_self l hls
  have e1 := eqTerm_self a (by omega)
  simp [v100, r100_0, r100_1, r100_2, r100_3, r100_4, r100_5, r100_6, r100_7, d100_8, r100_9, r100_10, r100_11, r100_12, r100_13, r100_14, r100_15, d100_16, r100_17, r100_18, z0, h0, z1, h1, t0, t1, s1, s2, e0, e1, splice, strEq_self]
end Go.Proofs.Ytpmjooeehnmkcaa.VS
