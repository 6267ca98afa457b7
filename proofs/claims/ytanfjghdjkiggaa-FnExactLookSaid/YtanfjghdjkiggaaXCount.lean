/- Contracts of the program's functions on the evaluator without names, and plain lemmas: XCount. -/
import Derived.Test.YtanfjghdjkiggaaXParts
namespace Go.Proofs.Ytanfjghdjkiggaa.VS
set_option linter.unusedVariables false
set_option linter.unusedSimpArgs false
mutual
theorem fold_gen (w : T → Int) (e : T → Int → Int) (he : ∀ x m, e x (IntKind.i64.wrap m) = IntKind.i64.wrap (m + w x)) : ∀ (t : T) (n : Int), T.fold e t (IntKind.i64.wrap n) = IntKind.i64.wrap (n + T.sum w t)
  | .node f v ks, n => by
    simp only [T.fold, T.sum]
    rw [he, folds_gen w e he ks, Int.add_assoc]
theorem folds_gen (w : T → Int) (e : T → Int → Int) (he : ∀ x m, e x (IntKind.i64.wrap m) = IntKind.i64.wrap (m + w x)) : ∀ (l : List T) (n : Int), T.folds e l (IntKind.i64.wrap n) = IntKind.i64.wrap (n + T.sums w l)
  | [], n => by simp [T.folds, T.sums]
  | t :: r, n => by
    simp only [T.folds, T.sums]
    rw [fold_gen w e he t, folds_gen w e he r, Int.add_assoc]
end
theorem isVar_eq (t : T) : callX XV 75 [.d (t.enc .sub)] [] = some (.d (.bool (t.f == -1)), []) := by
  rw [z_call XV _ _ _ v75 rfl xcode_75 rfl]
  simp [v75, r75_0, r75_1]
def wC (n : Int) (x : T) : Int := if x.f = -1 ∧ x.v = n then 1 else 0
def eC (n : Int) (x : T) (m : Int) : Int := if x.f = -1 ∧ x.v = n then IntKind.i64.wrap (m + 1) else m
theorem eC_gen (n : Int) (x : T) (m : Int) : eC n x (IntKind.i64.wrap m) = IntKind.i64.wrap (m + wC n x) := by
  unfold eC wC
  split
  · exact wrap_add m 1
  · simp
theorem implCount_eq (t : T) (ht : t.inner ≤ 1048576) (n : Int) : callX XV 73 [.d (t.enc .sub), .d (.int .i64 n)] [] = some (.d (.int .i64 (IntKind.i64.wrap (T.sum (wC n) t))), []) := by
  rw [z_call XV _ _ _ v73 rfl xcode_73 rfl]
  have key : ∀ (m : Int), callX XV 25 [.d (t.enc .sub), .fn 74 [.ptr 1 0, .ptr 2 0]] ([some [.d (.int .i64 t.f), .d (.int .i64 t.v), .d (terms .sub t.kids)], some [.d (.int .i64 n)], some [.d (.int .i64 m)]] ++ []) = some (.d (.tup []), [some [.d (.int .i64 t.f), .d (.int .i64 t.v), .d (terms .sub t.kids)], some [.d (.int .i64 n)], some [.d (.int .i64 (T.fold (eC n) t m))]] ++ []) := fun m =>
    each_eq (fun m : Int => [some [.d (.int .i64 t.f), .d (.int .i64 t.v), .d (terms .sub t.kids)], some [.d (.int .i64 n)], some [.d (.int .i64 m)]]) (eC n) 74 [.ptr 1 0, .ptr 2 0] 3 (fun _ => rfl) (fun n hn => by simp; omega) rfl (by simp) (fun x m r => by
      rw [z_call XV _ _ _ v74 rfl xcode_74 rfl]
      obtain ⟨xf, xv, xk⟩ := x
      have hv := isVar_eq (.node xf xv xk)
      simp only [T.f_node] at hv
      unfold eC
      simp only [T.f_node, T.v_node]
      by_cases h1 : xf = -1
      · subst h1
        simp only [BEq.rfl] at hv
        by_cases h2 : xv = n
        · subst h2
          simp [v74, r74_0, r74_1, r74_2, hv, splice]
        · have b2 : (xv == n) = false := by simp [h2]
          simp [v74, r74_0, r74_1, r74_2, hv, h2, b2, splice]
      · have b1 : (xf == -1) = false := by simp [h1]
        rw [b1] at hv
        simp [v74, r74_0, r74_1, r74_2, hv, h1, splice]) t ht m []
  have k0 := key 0
  have h0 := fold_gen (wC n) (eC n) (eC_gen n) t 0
  rw [show IntKind.i64.wrap 0 = 0 from rfl, Int.zero_add] at h0
  rw [h0] at k0
  simp only [List.append_nil, terms] at k0
  simp [v73, r73_0, r73_1, r73_2, r73_3, splice, k0]
theorem bit_eq (b : Bool) : callX XV 85 [.d (.bool b)] [] = some (.d (.int .i64 (if b then 1 else 0)), []) := by
  rw [z_call XV _ _ _ v85 rfl xcode_85 rfl]
  cases b <;> simp [v85, r85_0, r85_1, r85_2, r85_3]
theorem specCount_of (n f v : Int) (ks : List T) (hl : ks.length ≤ 1048576) (hrec : ∀ s, s ∈ ks → callX XV 81 [.d (s.enc .sub), .d (.int .i64 n)] [] = some (.d (.int .i64 (IntKind.i64.wrap (T.sum (wC n) s))), [])) :
    callX XV 81 [.d ((T.node f v ks).enc .sub), .d (.int .i64 n)] [] = some (.d (.int .i64 (IntKind.i64.wrap (T.sum (wC n) (.node f v ks)))), []) := by
  rw [z_call XV _ _ _ v81 rfl xcode_81 rfl]
  have h := fun m => loopX_upto (X := XV) (T := []) (L := 1) (live := [1, 2, 5, 6]) (b := b81_0) (n := ks.length) (γ := Unit) (st := fun (m : Int) i => ⟨[(1, .d (.int .i64 n)), (2, .ptr 0 0), (5, .d (.int .i64 m)), (6, .d (.int .i64 i))], [some [.d (.int .i64 f), .d (.int .i64 v), .d (terms .sub ks)]]⟩) (step := stepA (fun t => IntKind.i64.wrap (T.sum (wC n) t)) ks)
    (F := fun m => (.exit 0, ⟨[(1, .d (.int .i64 n)), (2, .ptr 0 0), (5, .d (.int .i64 m)), (6, .d (.int .i64 ks.length)), (21, .d (.bool false))], [some [.d (.int .i64 f), .d (.int .i64 v), .d (terms .sub ks)]]⟩)) (R := fun r => (.ret, ⟨[], []⟩))
    (fun _ => ⟨by simp, by simp [b81_0, r81_0, r81_1, r81_2, r81_3, r81_5, r81_4, r81_6]⟩)
    (fun m i hi => by
      have hw := wrap_succ (n := i) (by omega)
      have hc := hrec _ (tAt_mem hi)
      exact ⟨_, by simp [b81_0, r81_0, r81_1, r81_2, r81_3, r81_5, r81_4, r81_6, hi, hw, cut, tAt_lt hi, hc]; rfl, by simp [xheadOf, safeRegs]⟩)
    ks.length (IntKind.i64.wrap m) 0 ⟨[(1, .d (.int .i64 n)), (2, .ptr 0 0), (5, .d (.int .i64 (IntKind.i64.wrap m))), (6, .d (.int .i64 0))], [some [.d (.int .i64 f), .d (.int .i64 v), .d (terms .sub ks)]]⟩ (by omega) (by simp [xheadOf, safeRegs])
  have h' := fun m => by
    have := h m
    rw [runA _ _ _ _ _ (by omega)] at this
    simpa only [List.drop_zero, terms] using this
  have hs : T.sum (wC n) (T.node f v ks) = wC n (.node f v ks) + T.sums (wC n) ks := by simp [T.sum]
  have bt := bit_eq true
  have bf := bit_eq false
  simp only [if_true, Bool.false_eq_true, if_false] at bt bf
  rw [hs]
  have h1 := h' 1
  have h0 := h' 0
  rw [show IntKind.i64.wrap 1 = 1 from rfl] at h1
  rw [show IntKind.i64.wrap 0 = 0 from rfl] at h0
  by_cases c1 : f = -1
  · by_cases c2 : v = n
    · have hw : wC n (.node f v ks) = 1 := by simp [wC, c1, c2]
      rw [hw]
      subst c1; subst c2
      simp [v81, r81_0, r81_1, r81_2, r81_3, r81_5, r81_4, r81_6, bt, bf]
      rw [h1]
      simp [v81, r81_0, r81_1, r81_2, r81_3, r81_5, r81_4, r81_6]
    · have hw : wC n (.node f v ks) = 0 := by simp [wC, c1, c2]
      have b2 : (v == n) = false := by simp [c2]
      rw [hw]
      subst c1
      simp [v81, r81_0, r81_1, r81_2, r81_3, r81_5, r81_4, r81_6, bt, bf, b2]
      rw [h0]
      simp [v81, r81_0, r81_1, r81_2, r81_3, r81_5, r81_4, r81_6]
  · have hw : wC n (.node f v ks) = 0 := by simp [wC, c1]
    have b1 : (f == -1) = false := by simp [c1]
    rw [hw]
    simp [v81, r81_0, r81_1, r81_2, r81_3, r81_5, r81_4, r81_6, bt, bf, b1]
    rw [h0]
    simp [v81, r81_0, r81_1, r81_2, r81_3, r81_5, r81_4, r81_6]
theorem specCount_eq (t : T) (ht : t.inner ≤ 1048576) (n : Int) : callX XV 81 [.d (t.enc .sub), .d (.int .i64 n)] [] = some (.d (.int .i64 (IntKind.i64.wrap (T.sum (wC n) t))), []) := by
  match t, ht with
  | .node f v ks, ht =>
    simp only [T.inner] at ht
    exact specCount_of n f v ks (by omega) (fun s hs => specCount_eq s (by have := T.inners_mem hs; omega) n)
termination_by t
decreasing_by
  simp_wf
  have := List.sizeOf_lt_of_mem hs
  omega
end Go.Proofs.Ytanfjghdjkiggaa.VS
