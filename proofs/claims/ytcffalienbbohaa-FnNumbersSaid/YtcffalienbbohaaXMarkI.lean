/- Contracts of the program's functions on the evaluator without names, and plain lemmas: XMarkI. -/
import Derived.Test.YtcffalienbbohaaXVars
namespace Go.Proofs.Ytcffalienbbohaa.VS
set_option linter.unusedVariables false
set_option linter.unusedSimpArgs false
/-! ## Rows of whole numbers that lie in boxes: marks -/
def cI (l : List Int) : List AV := l.map fun x => .d (.int .i64 x)
def tI (b : Nat) (l : List Int) : AV := if l = [] then .d (is []) else .tsl false b 1 l.length
def bI (l : List Int) : Boxs := if l = [] then [] else [some (cI l)]
def mk : Nat → Nat → List Int
  | 0, _ => []
  | n + 1, k => (k : Int) :: mk n (k + 1)
theorem mk_len : ∀ (n k : Nat), (mk n k).length = n
  | 0, _ => rfl
  | n + 1, k => by simp [mk, mk_len n (k + 1)]
theorem mk_at : ∀ (n k i : Nat), i < n → (mk n k)[i]? = some ((k + i : Nat) : Int)
  | 0, _, _, h => by omega
  | n + 1, k, 0, _ => by simp [mk]
  | n + 1, k, i + 1, h => by simp only [mk, List.getElem?_cons_succ]; rw [mk_at n (k + 1) i (by omega), show k + 1 + i = k + (i + 1) by omega]
theorem cI_len (l : List Int) : (cI l).length = l.length := by simp [cI]
theorem thws_ints (b : Nat) : ∀ l : List Int, thws b (l.map (.int .i64)) = (cI l, [])
  | [] => rfl
  | x :: r => by simp [thws, thw, thws_ints b r, cI]
theorem thaw_ints (b : Nat) (l : List Int) : (DV.sl .sub (l.map (.int .i64))).thaw b = (tI b l, bI l) := by
  cases l with
  | nil => rfl
  | cons x r =>
    have h := thws_ints b (x :: r)
    simp only [List.map_cons] at h
    simp only [DV.thaw, thawOne, thw, List.map_cons, h, tI, bI, isAgD]
    simp [DV.cells]
theorem frzL_ints (f : AV → Option DV) (hf : ∀ v, f (.d v) = some v) : ∀ l : List Int, frzL f (cI l) = some (l.map (.int .i64))
  | [] => rfl
  | x :: r => by
    have := frzL_ints f hf r
    simp only [cI] at this
    simp [cI, frzL, hf, this]
theorem chunk_ints : ∀ (l : List Int), chunks false 1 l.length (l.map (.int .i64)) = some (l.map (.int .i64))
  | [] => rfl
  | x :: r => by simp [chunks, cut, chunk_ints r, DV.cells, DV.isCell]
theorem frzC_d (B : Boxs) (n : Nat) (v : DV) : AV.frzC B n (.d v) = some v := by cases n <;> simp only [AV.frzC]
theorem frzC_tI (B : Boxs) (b n : Nat) (l : List Int) (hb : l ≠ [] → B[b]? = some (some (cI l))) (hn : 0 < n) : AV.frzC B n (tI b l) = some (is l) := by
  obtain ⟨m, rfl⟩ : ∃ m, n = m + 1 := ⟨n - 1, by omega⟩
  unfold tI
  by_cases hl : l = []
  · subst hl; simp [AV.frzC]
  · rw [if_neg hl]
    simp only [AV.frzC]
    rw [show bget B b = some (cI l) by unfold bget; rw [hb hl]]
    simp only [Option.bind_some, frzL_ints _ (frzC_d B m)]
    rw [if_pos (by simp), chunk_ints]; rfl
theorem frz_tI (B0 B1 : Boxs) (l : List Int) : AV.frz (B0 ++ bI l ++ B1) (tI B0.length l) = some (is l) := by
  have h : AV.frz (B0 ++ bI l ++ B1) (tI B0.length l) = AV.frzC (B0 ++ bI l ++ B1) (B0 ++ bI l ++ B1).length (tI B0.length l) := by
    unfold tI; split <;> simp only [AV.frz]
  rw [h]
  by_cases hl : l = []
  · subst hl; simp only [tI, if_true]; exact frzC_d _ _ _
  · refine frzC_tI _ _ _ _ (fun _ => by simp [bI, hl]) ?_
    simp [bI, hl]; omega
theorem safe_tI (m b : Nat) (l : List Int) (h : b + (bI l).length ≤ m) : (tI b l).safe m = true := by
  unfold tI bI at *
  by_cases hl : l = []
  · rw [if_pos hl]; exact safe_d _ _
  · rw [if_neg hl] at h ⊢; rw [safe_tsl]; simp at h ⊢; omega
theorem clr_tI (b : Nat) (l : List Int) : (tI b l).clr = tI b l := by
  unfold tI; split
  · simp [AV.clr, DV.clr, DV.clrs]
  · simp only [AV.clr]
theorem tI_len (b : Nat) (l l' : List Int) (h : l.length = l'.length) : tI b l = tI b l' := by
  unfold tI
  cases l <;> cases l' <;> simp at h <;> simp [h]
/-- Marked up to i. -/
def upI (l : List Int) (k i : Nat) : List Int := mk i k ++ l.drop i
theorem upI_zero (l : List Int) (k : Nat) : upI l k 0 = l := by simp [upI, mk]
theorem upI_all (l : List Int) (k : Nat) : upI l k l.length = mk l.length k := by simp [upI]
theorem mk_succ : ∀ (n k : Nat), mk (n + 1) k = mk n k ++ [((k + n : Nat) : Int)]
  | 0, k => by simp [mk]
  | n + 1, k => by
    rw [mk, mk_succ n (k + 1), mk]
    simp
    omega
theorem upI_step (l : List Int) (k i : Nat) (hi : i < l.length) : splice (cI (upI l k i)) i [.d (.int .i64 ((k + i : Nat) : Int))] = cI (upI l k (i + 1)) := by
  have h1 : (mk i k).length = i := mk_len i k
  unfold upI splice cI
  rw [List.drop_eq_getElem_cons hi, mk_succ]
  simp only [List.map_append, List.map_cons]
  rw [List.take_append_of_le_length (by simp [h1]), List.take_of_length_le (by simp [h1]), List.drop_append, List.drop_of_length_le (by simp [h1])]
  simp [h1]
theorem markInts_eq (l : List Int) (k : Nat) (hk : k + l.length ≤ 4611686018427387904) (B0 B1 : Boxs) :
    callX XV 344 [tI B0.length l, .d (.int .i64 k)] (B0 ++ bI l ++ B1) = some (.d (.int .i64 ((k + l.length : Nat) : Int)), B0 ++ bI (mk l.length k) ++ B1) := by
  rw [z_call XV _ _ _ v344 rfl xcode_344 rfl]
  cases hl : l with
  | nil =>
    have h := loopX_upto (X := XV) (T := []) (L := (B0 ++ B1).length) (live := [0, 1, 5]) (b := b344_0) (n := 0) (β := Unit) (γ := Unit) (st := fun _ i => ⟨[(0, .d (is [])), (1, .d (.int .i64 k)), (5, .d (.int .i64 i))], B0 ++ B1⟩) (step := fun _ _ => .inl ())
      (F := fun _ => (.exit 0, ⟨[(0, .d (is [])), (1, .d (.int .i64 k)), (5, .d (.int .i64 0)), (9, .d (.bool false))], B0 ++ B1⟩)) (R := fun _ => (.ret, ⟨[], []⟩)) (fun a => ⟨by simp, by simp [b344_0, r344_0, r344_1, r344_2, r344_4, r344_5, r344_3, r344_6]⟩) (fun a i hi => by omega) 0 () 0 ⟨[(0, .d (is [])), (1, .d (.int .i64 k)), (5, .d (.int .i64 0))], B0 ++ B1⟩ rfl (head_cut (e := []) (by simp) (by simp [safeRegs]) rfl (by simp))
    simp only [runN, List.length_append, List.map_nil, is] at h
    have htk : List.take (B0.length + B1.length) (B0 ++ B1) = B0 ++ B1 := List.take_of_length_le (by simp)
    simp [tI, bI, mk, is, v344, r344_0, r344_1, r344_2, r344_4, r344_5, r344_3, r344_6]
    rw [h]
    simp [htk, v344, r344_0, r344_1, r344_2, r344_4, r344_5, r344_3, r344_6]
  | cons x r =>
    rw [← hl]
    have hne : l ≠ [] := by rw [hl]; simp
    have hlen : ∀ i, i ≤ l.length → (cI (upI l k i)).length = l.length := fun i hi => by simp [cI, upI, mk_len]; omega
    have hget : ∀ (c : List AV) (r : Boxs), (B0 ++ some c :: r)[B0.length]? = some (some c) := fun c r => get_at B0 (some c) r
    have hset : ∀ (c d : List AV) (r : Boxs), (B0 ++ some c :: r).set B0.length (some d) = B0 ++ some d :: r := fun c d r => set_at B0 (some c) (some d) r
    have h := loopX_upto (X := XV) (T := []) (L := B0.length + (B1.length + 1)) (live := [0, 1, 5]) (b := b344_0) (n := l.length) (γ := Unit) (st := fun (_ : Unit) i => ⟨[(0, .tsl false B0.length 1 l.length), (1, .d (.int .i64 ((k + i : Nat) : Int))), (5, .d (.int .i64 i))], B0 ++ some (cI (upI l k i)) :: B1⟩) (step := fun _ _ => .inl ())
      (F := fun _ => (.exit 0, ⟨[(0, .tsl false B0.length 1 l.length), (1, .d (.int .i64 ((k + l.length : Nat) : Int))), (5, .d (.int .i64 l.length)), (9, .d (.bool false))], B0 ++ some (cI (upI l k l.length)) :: B1⟩)) (R := fun _ => (.ret, ⟨[], []⟩))
      (fun _ => ⟨by simp, by simp [b344_0, r344_0, r344_1, r344_2, r344_4, r344_5, r344_3, r344_6]⟩)
      (fun _ i hi => by
        have hw := wrap_succ (n := i) (by omega)
        have hw2 := wrap_succ (n := k + i) (by omega)
        have hc := hlen i (by omega)
        have hs := upI_step l k i hi
        have hle : i + 1 ≤ l.length := by omega
        exact ⟨⟨[(0, .tsl false B0.length 1 l.length), (1, .d (.int .i64 ((k + (i + 1) : Nat) : Int))), (5, .d (.int .i64 ((i + 1 : Nat) : Int)))], B0 ++ some (cI (upI l k (i + 1))) :: B1⟩, by
          generalize hkk : k + i = kk at hw2 hs
          rw [show k + (i + 1) = kk + 1 by omega]
          simp [b344_0, r344_0, r344_1, r344_2, r344_4, r344_5, r344_3, r344_6, hi, hw, hw2, hc, hle, hget, hset, hs], head_cut (e := []) (by simp) (by simp [safeRegs, safe_tsl]) (by simp) (by simp)⟩)
      l.length () 0 ⟨[(0, .tsl false B0.length 1 l.length), (1, .d (.int .i64 k)), (5, .d (.int .i64 0))], B0 ++ some (cI l) :: B1⟩ (by omega) (head_cut (e := []) (by simp) (by simp [safeRegs, safe_tsl]) (by simp) (by simp [upI_zero]))
    rw [run_on, upI_all] at h
    have htk : ∀ c : List AV, List.take (B0.length + (B1.length + 1)) (B0 ++ some c :: B1) = B0 ++ some c :: B1 := fun c => List.take_of_length_le (by simp)
    simp [tI, bI, hne, v344, r344_0, r344_1, r344_2, r344_4, r344_5, r344_3, r344_6]
    rw [h]
    have hne2 : mk l.length k ≠ [] := by intro he; have := mk_len l.length k; rw [he] at this; simp at this; exact hne (List.length_eq_zero_iff.1 this.symm)
    simp [v344, r344_0, r344_1, r344_2, r344_4, r344_5, r344_3, r344_6, hne2, htk]
theorem mkAt (n k i : Nat) (h : i < n) : (cI (mk n k))[i]? = some (.d (.int .i64 ((k + i : Nat) : Int))) := by simp [cI, mk_at n k i h]
theorem heldInts_eq (n k : Nat) (hk : k + n ≤ 4611686018427387904) (B0 B1 : Boxs) :
    callX XV 345 [tI B0.length (mk n k), .d (.int .i64 k)] (B0 ++ bI (mk n k) ++ B1) = some (.d (.int .i64 ((k + n : Nat) : Int)), B0 ++ bI (mk n k) ++ B1) := by
  rw [z_call XV _ _ _ v345 rfl xcode_345 rfl]
  cases hn : n with
  | zero =>
    have h := loopX_upto (X := XV) (T := []) (L := (B0 ++ B1).length) (live := [0, 1, 5]) (b := b345_0) (n := 0) (β := Unit) (γ := Unit) (st := fun _ i => ⟨[(0, .d (is [])), (1, .d (.int .i64 k)), (5, .d (.int .i64 i))], B0 ++ B1⟩) (step := fun _ _ => .inl ())
      (F := fun _ => (.exit 0, ⟨[(0, .d (is [])), (1, .d (.int .i64 k)), (5, .d (.int .i64 0)), (9, .d (.bool false))], B0 ++ B1⟩)) (R := fun _ => (.ret, ⟨[], []⟩)) (fun a => ⟨by simp, by simp [b345_0, r345_0, r345_1, r345_2, r345_4, r345_5, r345_6, r345_3, r345_7]⟩) (fun a i hi => by omega) 0 () 0 ⟨[(0, .d (is [])), (1, .d (.int .i64 k)), (5, .d (.int .i64 0))], B0 ++ B1⟩ rfl (head_cut (e := []) (by simp) (by simp [safeRegs]) rfl (by simp))
    simp only [runN, List.length_append, List.map_nil, is] at h
    have htk : List.take (B0.length + B1.length) (B0 ++ B1) = B0 ++ B1 := List.take_of_length_le (by simp)
    simp [tI, bI, mk, is, v345, r345_0, r345_1, r345_2, r345_4, r345_5, r345_6, r345_3, r345_7]
    rw [h]
    simp [htk, v345, r345_0, r345_1, r345_2, r345_4, r345_5, r345_6, r345_3, r345_7]
  | succ n' =>
    rw [← hn]
    have hne : mk n k ≠ [] := by intro he; have := mk_len n k; rw [he] at this; simp at this; omega
    have hlen : (cI (mk n k)).length = n := by simp [cI, mk_len]
    have hget : ∀ (c : List AV) (r : Boxs), (B0 ++ some c :: r)[B0.length]? = some (some c) := fun c r => get_at B0 (some c) r
    have h := loopX_upto (X := XV) (T := []) (L := B0.length + (B1.length + 1)) (live := [0, 1, 5]) (b := b345_0) (n := n) (γ := Unit) (st := fun (_ : Unit) i => ⟨[(0, .tsl false B0.length 1 n), (1, .d (.int .i64 ((k + i : Nat) : Int))), (5, .d (.int .i64 i))], B0 ++ some (cI (mk n k)) :: B1⟩) (step := fun _ _ => .inl ())
      (F := fun _ => (.exit 0, ⟨[(0, .tsl false B0.length 1 n), (1, .d (.int .i64 ((k + n : Nat) : Int))), (5, .d (.int .i64 n)), (9, .d (.bool false))], B0 ++ some (cI (mk n k)) :: B1⟩)) (R := fun _ => (.ret, ⟨[], []⟩))
      (fun _ => ⟨by simp, by simp [b345_0, r345_0, r345_1, r345_2, r345_4, r345_5, r345_6, r345_3, r345_7]⟩)
      (fun _ i hi => by
        have hw := wrap_succ (n := i) (by omega)
        have hw2 := wrap_succ (n := k + i) (by omega)
        have ha := mkAt n k i hi
        exact ⟨⟨[(0, .tsl false B0.length 1 n), (1, .d (.int .i64 ((k + (i + 1) : Nat) : Int))), (5, .d (.int .i64 ((i + 1 : Nat) : Int)))], B0 ++ some (cI (mk n k)) :: B1⟩, by
          generalize hkk : k + i = kk at hw2 ha
          rw [show k + (i + 1) = kk + 1 by omega]
          simp [b345_0, r345_0, r345_1, r345_2, r345_4, r345_5, r345_6, r345_3, r345_7, hi, hw, hw2, hget, ha], head_cut (e := []) (by simp) (by simp [safeRegs, safe_tsl]) (by simp) (by simp)⟩)
      n () 0 ⟨[(0, .tsl false B0.length 1 n), (1, .d (.int .i64 k)), (5, .d (.int .i64 0))], B0 ++ some (cI (mk n k)) :: B1⟩ (by omega) (head_cut (e := []) (by simp) (by simp [safeRegs, safe_tsl]) (by simp) (by simp))
    rw [run_on] at h
    have htk : ∀ c : List AV, List.take (B0.length + (B1.length + 1)) (B0 ++ some c :: B1) = B0 ++ some c :: B1 := fun c => List.take_of_length_le (by simp)
    simp [tI, bI, hne, mk_len, v345, r345_0, r345_1, r345_2, r345_4, r345_5, r345_6, r345_3, r345_7]
    rw [h]
    simp [v345, r345_0, r345_1, r345_2, r345_4, r345_5, r345_6, r345_3, r345_7, htk]
end Go.Proofs.Ytcffalienbbohaa.VS
