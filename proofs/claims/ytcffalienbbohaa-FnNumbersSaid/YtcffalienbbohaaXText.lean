/- Contracts of the program's functions on the evaluator without names, and plain lemmas: XText. -/
import Derived.Test.YtcffalienbbohaaXDigits
import Derived.Test.YtcffalienbbohaaXInts
namespace Go.Proofs.Ytcffalienbbohaa.VS
set_option linter.unusedVariables false
set_option linter.unusedSimpArgs false
/-! ## Texts, part by part -/
/-- The first k parts with what stands between them. -/
def txt (p : Nat → ByteArray) (sep : ByteArray) : Nat → ByteArray
  | 0 => ByteArray.empty
  | k + 1 => (if 0 < k then txt p sep k ++ sep else txt p sep k) ++ p k
def stepX (p : Nat → ByteArray) (sep : ByteArray) (s : ByteArray) (i : Nat) : ByteArray ⊕ Unit := .inl ((if 0 < i then s ++ sep else s) ++ p i)
theorem runX (p : Nat → ByteArray) (sep : ByteArray) : ∀ (k i : Nat), runN (stepX p sep) k (txt p sep i) i = .inl (txt p sep (i + k))
  | 0, i => rfl
  | k + 1, i => by
    simp only [runN, stepX]
    have h := runX p sep k (i + 1)
    rw [show i + 1 + k = i + (k + 1) by omega] at h
    exact h
theorem txt_size (p : Nat → ByteArray) (sep : ByteArray) (m : Nat) : ∀ k, (∀ i, i < k → (p i).size ≤ m) → (txt p sep k).size ≤ k * (m + sep.size)
  | 0, _ => by simp [txt]
  | k + 1, h => by
    have h1 := txt_size p sep m k (fun i hi => h i (by omega))
    have h2 := h k (by omega)
    have e : (k + 1) * (m + sep.size) = k * (m + sep.size) + (m + sep.size) := Nat.succ_mul _ _
    rw [e]
    unfold txt
    split <;> simp only [ByteArray.size_append] <;> omega
def strs (p : Nat → ByteArray) (k : Nat) : List DV := (List.range k).map fun i => .str (p i)
theorem strs_succ (p : Nat → ByteArray) (k : Nat) : strs p (k + 1) = strs p k ++ [.str (p k)] := by simp [strs, List.range_succ]
@[simp] theorem clr_strs (p : Nat → ByteArray) (k : Nat) : (strs p k).map DV.clr = strs p k := by simp [strs, List.map_map, Function.comp_def]
theorem inter_snoc (sep : List UInt8) (x : List UInt8) : ∀ l : List (List UInt8), l ≠ [] → sep.intercalate (l ++ [x]) = sep.intercalate l ++ (sep ++ x)
  | [], h => absurd rfl h
  | [a], _ => by simp [List.intercalate]
  | a :: b :: r, _ => by
    have ih := inter_snoc sep x (b :: r) (by simp)
    simp only [List.intercalate, List.cons_append, List.intersperse, List.flatten_cons] at ih ⊢
    rw [List.append_assoc, List.append_assoc, ← ih]
theorem joinL_txt (p : Nat → ByteArray) (sep : ByteArray) : ∀ k, joinL ((List.range k).map p) sep = (txt p sep k).data.toList
  | 0 => by simp [joinL, txt, List.intercalate]
  | k + 1 => by
    have ih := joinL_txt p sep k
    unfold joinL at ih ⊢
    rw [List.range_succ, List.map_append, List.map_append]
    unfold txt
    by_cases hk : 0 < k
    · rw [List.map_cons, List.map_nil, List.map_cons, List.map_nil, inter_snoc _ _ _ (by simp; omega), ih, if_pos hk]
      simp [ByteArray.data_append]
    · obtain rfl : k = 0 := by omega
      simp [List.intercalate, txt]
theorem joinS_txt (p : Nat → ByteArray) (sep : ByteArray) (k : Nat) : joinS ((List.range k).map p) sep = txt p sep k := by
  unfold joinS; rw [joinL_txt]
theorem strsOf_strs (p : Nat → ByteArray) (k : Nat) : strsOf (strs p k) = some ((List.range k).map p) := by
  have : strs p k = ((List.range k).map p).map DV.str := by simp [strs]
  rw [this]
  generalize (List.range k).map p = l
  induction l with
  | nil => rfl
  | cons a r ih => simp [strsOf, ih]
theorem join_eq (p : Nat → ByteArray) (sep : ByteArray) (k : Nat) (g : Tag) (B : Boxs) (hk : k ≤ 140737488355328) (hs : (txt p sep k).size ≤ 140737488355328) :
    callX XV 93 [.d (.sl g (strs p k)), .d (.str sep)] B = some (.d (.str (txt p sep k)), B) := by
  rw [callX_nat XV 93 _ _ joinD rfl]
  have hl : (joinL ((List.range k).map p) sep).length ≤ 140737488355328 := by rw [joinL_txt]; exact hs
  simp only [datas, Option.map_some, Option.bind_some, joinD, strsOf_strs, List.length_map, List.length_range, hk, hl, and_self, if_true, joinS_txt]
theorem app_eq (p : Nat → ByteArray) (k : Nat) (g : Tag) (hk : k ≤ 1048576) : xappend 1 16 (.sl U (strs p k)) (.sl g [.str (p k)]) = some (.sl U (strs p (k + 1))) := by
  have h1 : (strs p k).length = k := by simp [strs]
  have h2 : ∀ x : DV, x ∈ strs p k → x.cells.length = 1 := fun x hx => by
    simp only [strs, List.mem_map] at hx; obtain ⟨i, _, rfl⟩ := hx; rfl
  have h3 : (k + 1) * 16 ≤ 140737488355328 := by omega
  simp [xappend, h1, h3, strs_succ, isCell_str]
  exact h2
end Go.Proofs.Ytcffalienbbohaa.VS
