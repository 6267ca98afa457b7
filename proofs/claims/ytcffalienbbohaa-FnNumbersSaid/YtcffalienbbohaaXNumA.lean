/- Contracts of the program's functions on the evaluator without names, and plain lemmas: XNumA. -/
import Derived.Test.YtcffalienbbohaaXInts
import Derived.Test.YtcffalienbbohaaXSigOk
namespace Go.Proofs.Ytcffalienbbohaa.VS
set_option linter.unusedVariables false
set_option linter.unusedSimpArgs false
/-! ## Where a number stands; the first number that is greater (whatever the native functions are) -/
theorem findAt_none (q : Nat → Bool) : ∀ (k i j : Nat), findAt q k i = none → i ≤ j → j < i + k → q j = false
  | 0, i, j, _, h1, h2 => by omega
  | k + 1, i, j, hf, h1, h2 => by
    simp only [findAt] at hf
    split at hf
    · simp at hf
    · rename_i hq
      by_cases he : j = i
      · subst he; simpa using hq
      · exact findAt_none q k (i + 1) j hf (by omega) (by omega)
theorem found_contains (l : List Int) (n : Int) : decide (0 ≤ orNeg (findAt (fun i => n == iAt l i) l.length 0)) = l.contains n := by
  cases hq : findAt (fun i => n == iAt l i) l.length 0 with
  | none =>
    have h := fun j => findAt_none _ _ _ j hq
    have hc : l.contains n = false := by
      rw [Bool.eq_false_iff]
      intro hm
      rw [List.contains_iff_mem] at hm
      obtain ⟨j, hj⟩ := List.mem_iff_getElem?.1 hm
      have hlt : j < l.length := (List.getElem?_eq_some_iff.1 hj).1
      have := h j (Nat.zero_le _) (by omega)
      simp [iAt, hj] at this
    rw [hc]; simp [orNeg]
  | some j =>
    obtain ⟨h1, h2, h3⟩ := findAt_lt _ _ _ _ hq
    have hlt : j < l.length := by omega
    have hc : l.contains n = true := by
      rw [List.contains_iff_mem]
      simp only [beq_iff_eq] at h3
      rw [h3, ← iAt_lt hlt]
      exact List.getElem_mem hlt
    rw [hc]; simp [orNeg]
theorem findAt_first (q : Nat → Bool) : ∀ (k i j : Nat), findAt q k i = some j → ∀ a, i ≤ a → a < j → q a = false
  | 0, i, j, h, a, _, _ => by simp [findAt] at h
  | k + 1, i, j, h, a, h1, h2 => by
    simp only [findAt] at h
    split at h
    · simp at h; omega
    · rename_i hq
      by_cases he : a = i
      · subst he; simpa using hq
      · exact findAt_first q k (i + 1) j h a (by omega) h2
theorem findAt_congr (q q' : Nat → Bool) : ∀ (k i : Nat), (∀ j, i ≤ j → j < i + k → q j = q' j) → findAt q k i = findAt q' k i
  | 0, i, h => rfl
  | k + 1, i, h => by
    simp only [findAt]
    rw [h i (Nat.le_refl _) (by omega), findAt_congr q q' k (i + 1) (fun j h1 h2 => h j (by omega) (by omega))]
theorem findIdx_findAt (l : List Int) (q : Int → Bool) : l.findIdx q = match findAt (fun i => q (iAt l i)) l.length 0 with | some j => j | none => l.length := by
  cases hq : findAt (fun i => q (iAt l i)) l.length 0 with
  | none =>
    have h := fun j => findAt_none _ _ _ j hq
    simp only
    apply List.findIdx_eq_length.2
    intro x hx
    obtain ⟨j, hj⟩ := List.mem_iff_getElem?.1 hx
    have hlt : j < l.length := (List.getElem?_eq_some_iff.1 hj).1
    have := h j (Nat.zero_le _) (by omega)
    simpa [iAt, hj] using this
  | some j =>
    obtain ⟨h1, h2, h3⟩ := findAt_lt _ _ _ _ hq
    simp only
    have hlt : j < l.length := by omega
    rw [List.findIdx_eq hlt]
    refine ⟨by rw [iAt_lt hlt]; exact h3, fun i hi => ?_⟩
    have hi' : i < l.length := by omega
    rw [iAt_lt hi']
    exact findAt_first _ _ _ _ hq i (Nat.zero_le _) hi
section
variable (X : XEnv)
theorem indexX_eq (hn : X.nat 56 = none) (hc : X.env.code 56 = some v56) (ht : X.lin 56 = []) (l : List Int) (n : Int) (B : Boxs) (hl : l.length ≤ 140737488355328) :
    callX X 56 [.d (is l), .d (.int .i64 n)] B = some (.d (.int .i64 (orNeg (findAt (fun i => n == iAt l i) l.length 0))), B) := by
  rw [z_call X _ _ _ v56 hn hc rfl]
  have h := loopX_upto (X := X) (T := []) (L := B.length) (live := [0, 1, 7, 8]) (b := b56_0) (n := l.length) (st := fun (_ : Unit) i => ⟨[(0, .d (is l)), (1, .d (.int .i64 n)), (7, .d (.int .i64 l.length)), (8, .d (.int .i64 i))], B⟩) (step := stepF fun i => n == iAt l i)
    (F := fun _ => (.exit 0, ⟨[(0, .d (is l)), (1, .d (.int .i64 n)), (7, .d (.int .i64 l.length)), (8, .d (.int .i64 l.length)), (9, .d (.bool false))], B⟩)) (R := fun (j : Nat) => (.ret, ⟨[(4, .d (.int .i64 j))], B⟩))
    (fun a => ⟨by simp, by simp [b56_0, r56_0, r56_1, r56_2, r56_3, r56_4, r56_5, r56_6, r56_7]⟩)
    (fun a i hi => by
      have hw := wrap_succ (n := i) (by omega)
      unfold stepF
      by_cases hq : (n == iAt l i) = true
      · rw [if_pos hq]
        exact ⟨by simp, by simp [b56_0, r56_0, r56_1, r56_2, r56_3, r56_4, r56_5, r56_6, r56_7, hi, hw, cut, iAt_lt hi, hq]⟩
      · rw [if_neg hq]
        have hq' : (n == iAt l i) = false := by simpa using hq
        exact ⟨_, by simp [b56_0, r56_0, r56_1, r56_2, r56_3, r56_4, r56_5, r56_6, r56_7, hi, hw, cut, iAt_lt hi, hq']; rfl, by simp [xheadOf, safeRegs]⟩)
    l.length () 0 ⟨[(0, .d (is l)), (1, .d (.int .i64 n)), (7, .d (.int .i64 l.length)), (8, .d (.int .i64 0))], B⟩ (by omega) (by simp [xheadOf, safeRegs])
  rw [runF] at h
  simp [v56, r56_0, r56_1, r56_2, r56_3, r56_4, r56_5, r56_6, r56_7, ht]
  rw [h]
  cases hq : findAt (fun i => n == iAt l i) l.length 0 <;> simp [orNeg, v56, r56_0, r56_1, r56_2, r56_3, r56_4, r56_5, r56_6, r56_7]
theorem indexFuncX_eq (hn : X.nat 47 = none) (hc : X.env.code 47 = some v47) (ht : X.lin 47 = []) (l : List Int) (fk : Nat) (caps : List AV) (B : Boxs) (P : Int → Bool) (hl : l.length ≤ 140737488355328) (hs : AV.safe.safes B.length caps = true) (hcc : caps.map AV.clr = caps) (hk : X.lin fk = [])
    (hf : ∀ s, s ∈ l → callX X fk (.d (.int .i64 s) :: caps) B = some (.d (.bool (P s)), B)) :
    callX X 47 [.d (is l), .fn fk caps] B = some (.d (.int .i64 (orNeg (findAt (fun i => P (iAt l i)) l.length 0))), B) := by
  rw [z_call X _ _ _ v47 hn hc rfl]
  have h := loopX_upto (X := X) (T := []) (L := B.length) (live := [0, 1, 7, 8]) (b := b47_0) (n := l.length) (st := fun (_ : Unit) i => ⟨[(0, .d (is l)), (1, .fn fk caps), (7, .d (.int .i64 l.length)), (8, .d (.int .i64 i))], B⟩) (step := stepF fun i => P (iAt l i))
    (F := fun _ => (.exit 0, ⟨[(0, .d (is l)), (1, .fn fk caps), (7, .d (.int .i64 l.length)), (8, .d (.int .i64 l.length)), (9, .d (.bool false))], B⟩)) (R := fun (j : Nat) => (.ret, ⟨[(4, .d (.int .i64 j))], B⟩))
    (fun a => ⟨by simp, by simp [b47_0, r47_0, r47_1, r47_2, r47_3, r47_4, r47_5, r47_6, r47_7, hcc]⟩)
    (fun a i hi => by
      have hw := wrap_succ (n := i) (by omega)
      have hc := hf (iAt l i) (by rw [← iAt_lt hi]; exact List.getElem_mem hi)
      unfold stepF
      by_cases hq : P (iAt l i) = true
      · rw [if_pos hq]; rw [hq] at hc
        exact ⟨by simp, by simp [b47_0, r47_0, r47_1, r47_2, r47_3, r47_4, r47_5, r47_6, r47_7, hi, hw, cut, iAt_lt hi, hc, hcc, hk]⟩
      · rw [if_neg hq]
        have hq' : P (iAt l i) = false := by simpa using hq
        rw [hq'] at hc
        exact ⟨_, by simp [b47_0, r47_0, r47_1, r47_2, r47_3, r47_4, r47_5, r47_6, r47_7, hi, hw, cut, iAt_lt hi, hc, hcc, hk]; rfl, by simp [xheadOf, safeRegs, hs]⟩)
    l.length () 0 ⟨[(0, .d (is l)), (1, .fn fk caps), (7, .d (.int .i64 l.length)), (8, .d (.int .i64 0))], B⟩ (by omega) (by simp [xheadOf, safeRegs, hs])
  rw [runF] at h
  simp [v47, r47_0, r47_1, r47_2, r47_3, r47_4, r47_5, r47_6, r47_7, hcc, ht]
  rw [h]
  cases hq : findAt (fun i => P (iAt l i)) l.length 0 <;> simp [orNeg, v47, r47_0, r47_1, r47_2, r47_3, r47_4, r47_5, r47_6, r47_7]
theorem containsX_eq (hn : X.nat 55 = none) (hc : X.env.code 55 = some v55) (ht : X.lin 55 = []) (hn' : X.nat 56 = none) (hc' : X.env.code 56 = some v56) (ht' : X.lin 56 = []) (l : List Int) (n : Int) (hl : l.length ≤ 140737488355328) :
    callX X 55 [.d (is l), .d (.int .i64 n)] [] = some (.d (.bool (l.contains n)), []) := by
  rw [z_call X _ _ _ v55 hn hc rfl]
  have h := indexX_eq X hn' hc' ht' l n [] hl
  have hf := found_contains l n
  simp [v55, r55_0, r55_1, ht, h]
  simpa using hf
theorem numInX_eq (hn0 : X.nat 54 = none) (hc0 : X.env.code 54 = some v54) (ht0 : X.lin 54 = []) (hn : X.nat 55 = none) (hc : X.env.code 55 = some v55) (ht : X.lin 55 = []) (hn' : X.nat 56 = none) (hc' : X.env.code 56 = some v56) (ht' : X.lin 56 = []) (l : List Int) (n : Int) (hl : l.length ≤ 140737488355328) :
    callX X 54 [.d (is l), .d (.int .i64 n)] [] = some (.d (.bool (l.contains n)), []) := by
  rw [z_call X _ _ _ v54 hn0 hc0 rfl]
  have h := containsX_eq X hn hc ht hn' hc' ht' l n hl
  simp [v54, r54_0, r54_1, ht0, h]
theorem gtX_eq (hn : X.nat 108 = none) (hc : X.env.code 108 = some v108) (ht : X.lin 108 = []) (x n : Int) : callX X 108 [.d (.int .i64 x), .ptr 0 0] [some [.d (.int .i64 n)]] = some (.d (.bool (decide (x > n))), [some [.d (.int .i64 n)]]) := by
  rw [z_call X _ _ _ v108 hn hc rfl]
  simp [v108, r108_0, r108_1, ht]
theorem firstGtX_eq (hn : X.nat 47 = none) (hc : X.env.code 47 = some v47) (ht : X.lin 47 = []) (hn' : X.nat 108 = none) (hc' : X.env.code 108 = some v108) (ht' : X.lin 108 = []) (l : List Int) (n : Int) (hl : l.length ≤ 140737488355328) :
    callX X 47 [.d (is l), .fn 108 [.ptr 0 0]] [some [.d (.int .i64 n)]] = some (.d (.int .i64 (orNeg (findAt (fun i => decide (iAt l i > n)) l.length 0))), [some [.d (.int .i64 n)]]) :=
  indexFuncX_eq X hn hc ht l 108 [.ptr 0 0] [some [.d (.int .i64 n)]] (fun x => decide (x > n)) hl (by simp [safe_ptr, safes_nil, safes_cons]) rfl ht' (fun s _ => gtX_eq X hn' hc' ht' s n)
end
end Go.Proofs.Ytcffalienbbohaa.VS
