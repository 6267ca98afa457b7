/- Contracts of the program's functions on the evaluator without names, and plain lemmas: XSum2. -/
import Derived.Test.YtanfjghdjkiggaaXSum
namespace Go.Proofs.Ytanfjghdjkiggaa.VS
set_option linter.unusedVariables false
set_option linter.unusedSimpArgs false
def addR : List Int → List Int → List Int
  | c :: cs, r :: rs => IntKind.i64.wrap (c + r) :: addR cs rs
  | cs, _ => cs
theorem addR_nil (c : List Int) : addR c [] = c := by cases c <;> rfl
theorem addR_len : ∀ (c r : List Int), (addR c r).length = c.length
  | [], r => by cases r <;> rfl
  | c :: cs, [] => rfl
  | c :: cs, r :: rs => by simp [addR, addR_len cs rs]
theorem addR_at : ∀ (c r : List Int) (i : Nat), i < c.length → iAt (addR c r) i = if i < r.length then IntKind.i64.wrap (iAt c i + iAt r i) else iAt c i
  | [], r, i, h => by simp at h
  | c :: cs, [], i, h => by simp [addR]
  | c :: cs, r :: rs, 0, h => by simp [addR, iAt]
  | c :: cs, r :: rs, i + 1, h => by
    have := addR_at cs rs i (by simpa using h)
    simpa [addR, iAt] using this
theorem ext_iAt (a b : List Int) (hl : a.length = b.length) (h : ∀ i, i < a.length → iAt a i = iAt b i) : a = b := by
  apply List.ext_getElem hl
  intro i h1 h2
  rw [iAt_lt h1, iAt_lt h2]; exact h i h1
theorem iAt_set (l : List Int) (i j : Nat) (x : Int) (hi : i < l.length) : iAt (l.set i x) j = if i = j then x else iAt l j := by
  unfold iAt
  rw [List.getElem?_set]
  split
  · simp [*]
  · rfl
theorem iAt_take (l : List Int) (k j : Nat) (h : j < k) : iAt (l.take k) j = iAt l j := by
  unfold iAt; rw [List.getElem?_take]; simp [h]
theorem addR_step (c r : List Int) (i : Nat) (hi : i < c.length) (hr : i < r.length) : (addR c (r.take i)).set i (IntKind.i64.wrap (iAt (addR c (r.take i)) i + iAt r i)) = addR c (r.take (i + 1)) := by
  have h0 : iAt (addR c (r.take i)) i = iAt c i := by rw [addR_at _ _ _ hi]; simp; omega
  apply ext_iAt
  · simp [addR_len]
  · intro j hj
    simp [addR_len] at hj
    rw [iAt_set _ _ _ _ (by rw [addR_len]; exact hi), addR_at _ _ j hj, h0, addR_at _ _ j hj]
    simp only [List.length_take]
    by_cases hij : i = j
    · subst hij; rw [if_pos rfl, if_pos (by omega), iAt_take _ _ _ (by omega)]
    · rw [if_neg hij]
      by_cases hlt : j < i
      · rw [if_pos (by omega), if_pos (by omega), iAt_take _ _ _ hlt, iAt_take _ _ _ (by omega)]
      · rw [if_neg (by omega), if_neg (by omega)]
theorem addR_all (c r : List Int) (k : Nat) (hk : k = min c.length r.length) : addR c (r.take k) = addR c r := by
  apply ext_iAt
  · simp [addR_len]
  · intro j hj
    simp [addR_len] at hj
    rw [addR_at _ _ j hj, addR_at _ _ j hj]
    simp only [List.length_take]
    by_cases h : j < r.length
    · rw [if_pos (by omega), if_pos h, iAt_take _ _ _ (by omega)]
    · rw [if_neg (by omega), if_neg h]
def sumJ (m : Nat) (ps : List (List Int)) : Nat → List Int
  | 0 => List.replicate m 0
  | j + 1 => addR (sumJ m ps j) (rAt ps j)
theorem sumJ_len (m : Nat) (ps : List (List Int)) : ∀ j, (sumJ m ps j).length = m
  | 0 => by simp [sumJ]
  | j + 1 => by simp [sumJ, addR_len, sumJ_len m ps j]
def sumL (ps : List (List Int)) (n : Int) : List Int := if 1 ≤ n ∧ n ≤ 1000 then sumJ n.toNat ps ps.length else []
theorem sumL_len (ps : List (List Int)) (n : Int) : (sumL ps n).length ≤ 1000 := by
  unfold sumL; split
  · rw [sumJ_len]; omega
  · simp
theorem cI_set (l : List Int) (i : Nat) (x : Int) (h : i < l.length) : splice (cI l) i [.d (.int .i64 x)] = cI (l.set i x) := by
  unfold splice cI
  rw [List.set_eq_take_append_cons_drop, if_pos h]
  simp
theorem cI_get (l : List Int) (i : Nat) (h : i < l.length) : (cI l)[i]? = some (.d (.int .i64 (iAt l i))) := by
  simp [cI, iAt, h]
theorem zero_cI (m : Nat) : List.map AV.d (List.flatMap DV.cells (List.replicate m (.int .i64 0))) = cI (List.replicate m 0) := by
  induction m with
  | zero => rfl
  | succ m ih => simp [List.replicate_succ, cI, cells_int] at ih ⊢; exact ih
theorem cI_row (l : List Int) : cI l = rowCells (l.map (.int .i64)) := by
  unfold rowCells
  induction l with
  | nil => rfl
  | cons x r ih => simp [cI, flat, cells_int] at ih ⊢; exact ih
/-! the program's -/
theorem sumIn_eq (m : Nat) (hm : m ≤ 1000) (ps : List (List Int)) (j : Nat) (row c : List Int) (hc : c.length = m) (hr : row.length ≤ 4194304) :
    loopX XV [4, 5, 42] 1 [1, 5, 7, 8, 14, 15, 16] b212_1 ⟨[(1, .d (.int .i64 m)), (5, .bsl [] false 0 1 m), (7, .d (is row)), (8, .d (.int .i64 0)), (14, .d (iss .sub ps)), (15, .d (.int .i64 ps.length)), (16, .d (.int .i64 j))], [some (cI c)]⟩
    = some (.exit 2, ⟨[(1, .d (.int .i64 m)), (5, .bsl [] false 0 1 m), (7, .d (is row)), (8, .d (.int .i64 (min m row.length : Nat))), (14, .d (iss .sub ps)), (15, .d (.int .i64 ps.length)), (16, .d (.int .i64 j)), (28, .d (.bool false))], [some (cI (addR c row))]⟩) := by
  have h := loopX_upto (X := XV) (T := [4, 5, 42]) (L := 1) (live := [1, 5, 7, 8, 14, 15, 16]) (b := b212_1) (n := min m row.length) (γ := Unit) (st := fun (_ : Unit) i => ⟨[(1, .d (.int .i64 m)), (5, .bsl [] false 0 1 m), (7, .d (is row)), (8, .d (.int .i64 i)), (14, .d (iss .sub ps)), (15, .d (.int .i64 ps.length)), (16, .d (.int .i64 j))], [some (cI (addR c (row.take i)))]⟩) (step := fun _ _ => .inl ())
    (F := fun _ => (.exit 2, ⟨[(1, .d (.int .i64 m)), (5, .bsl [] false 0 1 m), (7, .d (is row)), (8, .d (.int .i64 (min m row.length : Nat))), (14, .d (iss .sub ps)), (15, .d (.int .i64 ps.length)), (16, .d (.int .i64 j)), (28, .d (.bool false))], [some (cI (addR c (row.take (min m row.length))))]⟩)) (R := fun _ => (.ret, ⟨[], []⟩))
    (fun _ => ⟨by simp, by
      by_cases hlt : row.length < m
      · have hk : min m row.length = row.length := by omega
        rw [hk]
        simp [b212_1, r212_0, r212_1, r212_2, r212_3, r212_4, r212_5, r212_6, r212_7, r212_8, d212_10, r212_9, r212_11, r212_12, hlt]
      · have hk : min m row.length = m := by omega
        rw [hk]
        simp [b212_1, r212_0, r212_1, r212_2, r212_3, r212_4, r212_5, r212_6, r212_7, r212_8, d212_10, r212_9, r212_11, r212_12]⟩)
    (fun _ i hi => by
      have hw := wrap_succ (n := i) (by omega)
      have h1 : i < m := by omega
      have h2 : i < row.length := by omega
      have hs := cI_set (addR c (row.take i)) i (IntKind.i64.wrap (iAt (addR c (row.take i)) i + iAt row i)) (by rw [addR_len]; omega)
      rw [addR_step c row i (by omega) h2] at hs
      have hlen : (cI (addR c (row.take i))).length = m := by rw [cI_len, addR_len, hc]
      have hg := cI_get (addR c (row.take i)) i (by rw [addR_len]; omega)
      generalize hc1 : addR c (row.take i) = c1 at hs hlen hg ⊢
      have hle : i + 1 ≤ m := by omega
      generalize hcc : cI c1 = cc at hs hlen hg ⊢
      have hlt : i < cc.length := by omega
      have hg2 : cc[i] = .d (.int .i64 (iAt c1 i)) := by rw [List.getElem?_eq_getElem hlt] at hg; simpa using hg
      exact ⟨⟨[(1, .d (.int .i64 m)), (5, .bsl [] false 0 1 m), (7, .d (is row)), (8, .d (.int .i64 (i + 1 : Nat))), (14, .d (iss .sub ps)), (15, .d (.int .i64 ps.length)), (16, .d (.int .i64 j))], [some (cI (addR c (row.take (i + 1))))]⟩, by simp [b212_1, r212_0, r212_1, r212_2, r212_3, r212_4, r212_5, r212_6, r212_7, r212_8, d212_10, r212_9, r212_11, r212_12, h1, h2, hw, cut, iAt_lt h2, hlen, hg2, hs, hle], by simp [xheadOf, safeRegs]⟩)
    (min m row.length) () 0 ⟨[(1, .d (.int .i64 m)), (5, .bsl [] false 0 1 m), (7, .d (is row)), (8, .d (.int .i64 0)), (14, .d (iss .sub ps)), (15, .d (.int .i64 ps.length)), (16, .d (.int .i64 j))], [some (cI c)]⟩ (by omega) (by simp [xheadOf, safeRegs, addR_nil])
  rw [run_on, addR_all c row _ (by rw [hc])] at h
  exact h
theorem implSum_eq (ps : List (List Int)) (n : Int) (hl : ps.length ≤ 1048576) (hb : ∀ i, i < ps.length → (rAt ps i).length ≤ 1048576) : callX XV 212 [.d (iss .sub ps), .d (.int .i64 n)] [] = some (.d (ints U (sumL ps n)), []) := by
  rw [z_call XV _ _ _ v212 rfl xcode_212 rfl]
  have hf := from_eq n 1 1000
  by_cases hn : 1 ≤ n ∧ n ≤ 1000
  · have hb1 : inB n 1 1000 = true := by simp [inB, hn]
    rw [hb1] at hf
    have hs : sumL ps n = sumJ n.toNat ps ps.length := by unfold sumL; rw [if_pos hn]
    rw [hs]
    obtain ⟨m, rfl⟩ : ∃ m : Nat, n = m := ⟨n.toNat, by omega⟩
    simp only [Int.toNat_natCast]
    have hm : m ≤ 1000 := by omega
    have hloop := loopX_upto (X := XV) (T := [4, 5, 42]) (L := 1) (live := [1, 5, 14, 15, 16]) (b := b212_0) (n := ps.length) (γ := Unit) (st := fun (_ : Unit) j => ⟨[(1, .d (.int .i64 m)), (5, .bsl [] false 0 1 m), (14, .d (iss .sub ps)), (15, .d (.int .i64 ps.length)), (16, .d (.int .i64 j))], [some (cI (sumJ m ps j))]⟩) (step := fun _ _ => .inl ())
      (F := fun _ => (.exit 0, ⟨[(1, .d (.int .i64 m)), (5, .bsl [] false 0 1 m), (14, .d (iss .sub ps)), (15, .d (.int .i64 ps.length)), (16, .d (.int .i64 ps.length)), (17, .d (.bool false))], [some (cI (sumJ m ps ps.length))]⟩)) (R := fun _ => (.ret, ⟨[], []⟩))
      (fun _ => ⟨by simp, by simp [b212_0, r212_5, r212_6, r212_7, r212_11]⟩)
      (fun _ j hj => by
        have hw := wrap_succ (n := j) (by omega)
        have hin := sumIn_eq m hm ps j (rAt ps j) (sumJ m ps j) (sumJ_len m ps j) (by have := hb j hj; omega)
        rw [show addR (sumJ m ps j) (rAt ps j) = sumJ m ps (j + 1) from rfl] at hin
        exact ⟨⟨[(1, .d (.int .i64 m)), (5, .bsl [] false 0 1 m), (14, .d (iss .sub ps)), (15, .d (.int .i64 ps.length)), (16, .d (.int .i64 (j + 1 : Nat)))], [some (cI (sumJ m ps (j + 1)))]⟩, by
          simp [b212_0, r212_5, r212_6, r212_7, r212_11, hj, hw, cut, rAt_lt hj]
          rw [hin]
          simp [hw], by simp [xheadOf, safeRegs]⟩)
      ps.length () 0 ⟨[(1, .d (.int .i64 m)), (5, .bsl [] false 0 1 m), (14, .d (iss .sub ps)), (15, .d (.int .i64 ps.length)), (16, .d (.int .i64 0))], [some (cI (sumJ m ps 0))]⟩ (by omega) (by simp [xheadOf, safeRegs])
    rw [run_on] at hloop
    have hlen := sumJ_len m ps ps.length
    generalize sumJ m ps ps.length = g at hloop hlen ⊢
    have hch := chunks_row (g.map (DV.int .i64)) (intEncs_ok g)
    have hfl : (flat (g.map (DV.int .i64))).length = g.length * 1 := by rw [flat_len fun x hx => (intEncs_ok g x hx).1]; simp
    rw [List.length_map, hlen] at hch
    rw [hlen] at hfl
    rw [cI_row g] at hloop
    have hz := zero_cI m
    simp only [sumJ] at hloop
    rw [← hz] at hloop
    have hle : m * 8 ≤ 140737488355328 := by omega
    have hlt : (m : Int) < 9223372036854775808 := by omega
    have hlt2 : m < 9223372036854775808 := by omega
    simp [v212, r212_0, r212_1, r212_3, r212_4, r212_12, hf, hle, hlt]
    try simp at hloop
    rw [hloop]
    simp [r212_12, hch, hfl, hlt2, datas_row]
  · have hb1 : inB n 1 1000 = false := by simp [inB]; omega
    rw [hb1] at hf
    have hs : sumL ps n = [] := by unfold sumL; rw [if_neg hn]
    rw [hs]
    simp [v212, r212_0, r212_1, r212_2, r212_3, r212_4, r212_5, r212_6, r212_7, r212_8, d212_10, r212_9, r212_11, r212_12, hf]
end Go.Proofs.Ytanfjghdjkiggaa.VS
