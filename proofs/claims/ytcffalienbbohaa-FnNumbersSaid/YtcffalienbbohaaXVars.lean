/- Contracts of the program's functions on the evaluator without names, and plain lemmas: XVars. -/
import Derived.Test.YtcffalienbbohaaXCount
import Derived.Test.YtcffalienbbohaaXNumA
namespace Go.Proofs.Ytcffalienbbohaa.VS
set_option linter.unusedVariables false
set_option linter.unusedSimpArgs false
/-! ## A fold over all terms within a term, with what holds of its state -/
def restOf (ks : List T) (i : Nat) : Nat := (ks.length - i) + T.inners (ks.drop i)
theorem restOf_zero (ks : List T) : restOf ks 0 = ks.length + T.inners ks := by simp [restOf]
theorem restOf_step {ks : List T} {i : Nat} (h : i < ks.length) : restOf ks i = (tAt ks i).inner + 1 + restOf ks (i + 1) := by
  unfold restOf
  rw [List.drop_eq_getElem_cons h, tAt_lt h]
  simp only [T.inners]
  omega
mutual
theorem fold_I {σ : Type} {I : Nat → σ → Prop} {e : T → σ → σ} (hI : ∀ n s x, I (n + 1) s → I n (e x s)) : ∀ (t : T) (n : Nat) (s : σ), I (t.inner + 1 + n) s → I n (T.fold e t s)
  | .node f v ks, n, s, h => by
    simp only [T.inner] at h
    simp only [T.fold]
    exact folds_I hI ks n _ (hI _ _ _ (by rw [show ks.length + T.inners ks + n + 1 = ks.length + T.inners ks + 1 + n by omega]; exact h))
theorem folds_I {σ : Type} {I : Nat → σ → Prop} {e : T → σ → σ} (hI : ∀ n s x, I (n + 1) s → I n (e x s)) : ∀ (l : List T) (n : Nat) (s : σ), I (l.length + T.inners l + n) s → I n (T.folds e l s)
  | [], n, s, h => by simpa [T.folds, T.inners] using h
  | t :: r, n, s, h => by
    simp only [T.folds]
    simp only [List.length_cons, T.inners] at h
    exact folds_I hI r n _ (fold_I hI t _ s (by rw [show t.inner + 1 + (r.length + T.inners r + n) = r.length + 1 + (t.inner + T.inners r) + n by omega]; exact h))
end
/-! ## A number put into a list, both -/
theorem xnat_106 : XV.nat 106 = some numAddD := rfl
theorem implNumAdd_eq (g : Tag) (l : List Int) (n : Int) (B : Boxs) (hl : l.length ≤ 1048577) : callX XV 106 [.d (.sl g (l.map (.int .i64))), .d (.int .i64 n)] B = some (.d (.sl U ((numAddL l n).map (.int .i64))), B) := by
  rw [callX_nat XV 106 _ _ _ xnat_106]
  have h : (l.length + 1) * 8 ≤ 140737488355328 := by omega
  simp [datas, numAddD, intsOf_map, h, U]
theorem numAddL_len (l : List Int) (n : Int) : (numAddL l n).length ≤ l.length + 1 := by
  unfold numAddL
  split
  · omega
  · simp [numAt]; have := List.findIdx_le_length (p := fun x => decide (x > n)) (xs := l); omega
theorem specNumIn_eq (l : List Int) (n : Int) (hl : l.length ≤ 2097152) : callX XV 53 [.d (is l), .d (.int .i64 n)] [] = some (.d (.bool (l.contains n)), []) := by
  rw [z_call XV _ _ _ v53 rfl xcode_53 rfl]
  have h := loopX_upto (X := XV) (T := []) (L := 0) (live := [0, 1, 5]) (b := b53_0) (n := l.length) (st := fun (_ : Unit) i => ⟨[(0, .d (is l)), (1, .d (.int .i64 n)), (5, .d (.int .i64 i))], []⟩) (step := stepF fun i => iAt l i == n)
    (F := fun _ => (.exit 0, ⟨[(0, .d (is l)), (1, .d (.int .i64 n)), (5, .d (.int .i64 l.length)), (9, .d (.bool false))], []⟩)) (R := fun (j : Nat) => (.ret, ⟨[(4, .d (.bool true))], []⟩))
    (fun a => ⟨by simp, by simp [b53_0, r53_0, r53_1, r53_2, r53_4, r53_5, r53_3, r53_6]⟩)
    (fun a i hi => by
      have hw := wrap_succ (n := i) (by omega)
      unfold stepF
      by_cases hq : (iAt l i == n) = true
      · rw [if_pos hq]
        exact ⟨by simp, by simp [b53_0, r53_0, r53_1, r53_2, r53_4, r53_5, r53_3, r53_6, hi, hw, cut, iAt_lt hi, hq]⟩
      · rw [if_neg hq]
        have hq' : (iAt l i == n) = false := by simpa using hq
        exact ⟨_, by simp [b53_0, r53_0, r53_1, r53_2, r53_4, r53_5, r53_3, r53_6, hi, hw, cut, iAt_lt hi, hq']; rfl, by simp [xheadOf, safeRegs]⟩)
    l.length () 0 ⟨[(0, .d (is l)), (1, .d (.int .i64 n)), (5, .d (.int .i64 0))], []⟩ (by omega) (by simp [xheadOf, safeRegs])
  rw [runF] at h
  have hc := found_contains l n
  have hcomm : (fun i => n == iAt l i) = fun i => iAt l i == n := by funext i; exact Bool.beq_comm
  rw [hcomm] at hc
  simp [v53, r53_0, r53_1, r53_2, r53_4, r53_5, r53_3, r53_6]
  rw [h]
  cases hq : findAt (fun i => iAt l i == n) l.length 0 with
  | none => rw [hq] at hc; simp [orNeg] at hc; simp [v53, r53_0, r53_1, r53_2, r53_4, r53_5, r53_3, r53_6, hc]
  | some j => rw [hq] at hc; simp [orNeg] at hc; simp [v53, r53_0, r53_1, r53_2, r53_4, r53_5, r53_3, r53_6, hc]
theorem all_one (l : List Int) : (l.map (DV.int .i64)).all (fun e => decide (e.cells.length = 1)) = true := by simp [cells_int]
theorem all_cell (l : List Int) : (l.map (DV.int .i64)).all (fun e => decide (e.cells.length = 1 ∧ e.cells.all DV.isCell = true)) = true := by simp [cells_int, isCell_int]
theorem app_ints (a b : List Int) (g : Tag) (h : (a.length + b.length) * 8 ≤ 140737488355328) : xappend 1 8 (.sl U (a.map (.int .i64))) (.sl g (b.map (.int .i64))) = some (.sl U ((a ++ b).map (.int .i64))) := by
  unfold xappend
  simp only
  rw [if_pos (all_cell b)]
  cases b with
  | nil => simp
  | cons x r =>
    simp only [List.map_cons, List.isEmpty_cons, Bool.false_eq_true, if_false]
    rw [if_pos ⟨by simpa using h, trivial, all_one a⟩]
    simp
theorem specNumAdd_eq (l : List Int) (n : Int) (hl : l.length ≤ 2097152) : callX XV 112 [.d (is l), .d (.int .i64 n)] [] = some (.d (.sl U ((numAddL l n).map (.int .i64))), []) := by
  rw [z_call XV _ _ _ v112 rfl xcode_112 rfl]
  have hin := specNumIn_eq l n hl
  by_cases hc : l.contains n = true
  · rw [hc] at hin
    have ha := app_ints [] l .sub (by simp; omega)
    have hr : numAddL l n = l := by unfold numAddL; rw [if_pos hc]
    simp only [List.map_nil, List.nil_append] at ha
    rw [hr]
    simp [v112, r112_0, r112_1, r112_2, r112_3, r112_4, r112_5, r112_6, r112_7, r112_8, hin, ha]
  · have hc' : l.contains n = false := by simpa using hc
    rw [hc'] at hin
    have h := loopX_upto (X := XV) (T := XV.lin 112) (L := 0) (live := [0, 1, 5]) (b := b112_0) (n := l.length) (st := fun (_ : Unit) i => ⟨[(0, .d (is l)), (1, .d (.int .i64 n)), (5, .d (.int .i64 i))], []⟩) (step := stepF fun i => !decide (iAt l i < n))
      (F := fun _ => (.exit 0, ⟨[(0, .d (is l)), (1, .d (.int .i64 n)), (5, .d (.int .i64 l.length)), (24, .d (.bool false))], []⟩)) (R := fun (j : Nat) => (.exit 0, ⟨[(0, .d (is l)), (1, .d (.int .i64 n)), (5, .d (.int .i64 j)), (24, .d (.bool false))], []⟩))
      (fun a => ⟨by simp, by simp [b112_0, r112_0, r112_1, r112_2, r112_3, r112_4, r112_5, r112_6, r112_7, r112_8]⟩)
      (fun a i hi => by
        have hw := wrap_succ (n := i) (by omega)
        unfold stepF
        by_cases hq : iAt l i < n
        · rw [if_neg (by simp [hq])]
          exact ⟨_, by simp [b112_0, r112_0, r112_1, r112_2, r112_3, r112_4, r112_5, r112_6, r112_7, r112_8, hi, hw, cut, iAt_lt hi, hq]; rfl, by simp [xheadOf, safeRegs]⟩
        · rw [if_pos (by simp [hq])]
          exact ⟨by simp, by simp [b112_0, r112_0, r112_1, r112_2, r112_3, r112_4, r112_5, r112_6, r112_7, r112_8, hi, hw, cut, iAt_lt hi, hq]⟩)
      l.length () 0 ⟨[(0, .d (is l)), (1, .d (.int .i64 n)), (5, .d (.int .i64 0))], []⟩ (by omega) (by simp [xheadOf, safeRegs])
    rw [runF] at h
    have hat : ∃ at_ : Nat, at_ = numAt l n ∧ at_ ≤ l.length ∧ loopX XV (XV.lin 112) 0 [0, 1, 5] b112_0 ⟨[(0, .d (is l)), (1, .d (.int .i64 n)), (5, .d (.int .i64 0))], []⟩ = some (.exit 0, ⟨[(0, .d (is l)), (1, .d (.int .i64 n)), (5, .d (.int .i64 at_)), (24, .d (.bool false))], []⟩) := by
      have hq : numAt l n = match findAt (fun i => !decide (iAt l i < n)) l.length 0 with | some j => j | none => l.length := by
        unfold numAt
        rw [findIdx_findAt]
        have : findAt (fun i => decide (iAt l i > n)) l.length 0 = findAt (fun i => !decide (iAt l i < n)) l.length 0 := by
          refine findAt_congr _ _ _ _ fun j h1 h2 => ?_
          have hlt : j < l.length := by omega
          have hne : iAt l j ≠ n := by
            intro he
            rw [← iAt_lt hlt] at he
            rw [← he] at hc'
            have := List.getElem_mem hlt
            rw [← List.contains_iff_mem] at this
            rw [hc'] at this; simp at this
          rw [Bool.eq_iff_iff]; simp; omega
        rw [this]
        cases findAt (fun i => !decide (iAt l i < n)) l.length 0 <;> rfl
      refine ⟨numAt l n, rfl, List.findIdx_le_length, ?_⟩
      rw [h, hq]
      cases findAt (fun i => !decide (iAt l i < n)) l.length 0 <;> rfl
    obtain ⟨k, hk, hkl, hloop⟩ := hat
    have hr : numAddL l n = l.take k ++ [n] ++ l.drop k := by unfold numAddL; rw [if_neg hc, ← hk]; simp
    have a1 := app_ints [] (l.take k) .sub (by simp; omega)
    have a2 := app_ints (l.take k) [n] U (by simp; omega)
    have a3 := app_ints (l.take k ++ [n]) (l.drop k) .sub (by simp; omega)
    simp only [List.map_nil, List.nil_append, List.map_take, List.map_drop, List.map_append, List.map_cons] at a1 a2 a3
    rw [hr]
    have hal := all_one l
    have hk0 : (k : Int) ≤ l.length := by omega
    simp only [lin_112] at hloop
    simp [v112, r112_0, r112_1, r112_2, r112_3, r112_4, r112_5, r112_6, r112_7, r112_8, hin]
    rw [hloop]
    have ht : List.take l.length (l.map (DV.int .i64)) = l.map (DV.int .i64) := List.take_of_length_le (by simp)
    simp [v112, r112_0, r112_1, r112_2, r112_3, r112_4, r112_5, r112_6, r112_7, r112_8, hal, hkl, hk0, a1, a2, a3, ht]
/-! ## The variables of a term, both -/
def eV (x : T) (l : List Int) : List Int := if x.f = -1 then numAddL l x.v else l
def IV (n : Nat) (l : List Int) : Prop := l.length + n ≤ 1048578
theorem eV_I (n : Nat) (l : List Int) (x : T) (h : IV (n + 1) l) : IV n (eV x l) := by
  unfold IV eV at *
  have := numAddL_len l x.v
  split <;> omega
def varsL (t : T) : List Int := T.fold eV t []
theorem varsL_len (t : T) (ht : t.inner ≤ 1048576) : (varsL t).length ≤ 1048578 := by
  have := fold_I (I := IV) eV_I t 0 [] (by simp [IV]; omega)
  unfold IV at this
  exact this
end Go.Proofs.Ytcffalienbbohaa.VS
