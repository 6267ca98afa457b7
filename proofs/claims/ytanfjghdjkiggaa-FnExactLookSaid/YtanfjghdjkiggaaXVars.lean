/- Contracts of the program's functions on the evaluator without names, and plain lemmas: XVars. -/
import Derived.Test.YtanfjghdjkiggaaXCount
import Derived.Test.YtanfjghdjkiggaaXNumA
namespace Go.Proofs.Ytanfjghdjkiggaa.VS
set_option linter.unusedVariables false
set_option linter.unusedSimpArgs false
/-! ## A fold over all terms within a term, with what holds of its state -/
def restOf (ks : List T) (i : Nat) : Nat := (ks.length - i) + T.inners (ks.drop i)
theorem restOf_zero (ks : List T) : restOf ks 0 = ks.length + T.inners ks := by simp [restOf]
theorem restOf_step {ks : List T} {i : Nat} (h : i < ks.length) : restOf ks i = (tAt ks i).inner + 1 + restOf ks (i + 1) := by
  unfold restOf
  rw [List.drop_eq_getElem_cons h, tAt_lt h]
  simp only [T.inners]
  omega
mutual
theorem fold_I {σ : Type} {I : Nat → σ → Prop} {e : T → σ → σ} (hI : ∀ n s x, I (n + 1) s → I n (e x s)) : ∀ (t : T) (n : Nat) (s : σ), I (t.inner + 1 + n) s → I n (T.fold e t s)
  | .node f v ks, n, s, h => by
    simp only [T.inner] at h
    simp only [T.fold]
    exact folds_I hI ks n _ (hI _ _ _ (by rw [show ks.length + T.inners ks + n + 1 = ks.length + T.inners ks + 1 + n by omega]; exact h))
theorem folds_I {σ : Type} {I : Nat → σ → Prop} {e : T → σ → σ} (hI : ∀ n s x, I (n + 1) s → I n (e x s)) : ∀ (l : List T) (n : Nat) (s : σ), I (l.length + T.inners l + n) s → I n (T.folds e l s)
  | [], n, s, h => by simpa [T.folds, T.inners] using h
  | t :: r, n, s, h => by
    simp only [T.folds]
    simp only [List.length_cons, T.inners] at h
    exact folds_I hI r n _ (fold_I hI t _ s (by rw [show t.inner + 1 + (r.length + T.inners r + n) = r.length + 1 + (t.inner + T.inners r) + n by omega]; exact h))
end
theorem eachI_of {σ : Type} (I : Nat → σ → Prop) (st : σ → Boxs) (e : T → σ → σ) (k : Nat) (caps : List AV) (m : Nat) (hm : ∀ s, (st s).length = m) (hcs : ∀ n, m ≤ n → AV.safe.safes n caps = true) (hcc : caps.map AV.clr = caps) (hk : ¬ 0 ∈ XV.lin k)
    (hI : ∀ n s x, I (n + 1) s → I n (e x s)) (f v : Int) (ks : List T) (hl : ks.length ≤ 1048576)
    (hf : ∀ (x : T) (s : σ) (r : Boxs) (n : Nat), I (n + 1) s → callX XV k (.d (x.enc .sub) :: caps) (st s ++ r) = some (.d (.tup []), st (e x s) ++ r))
    (hrec : ∀ x, x ∈ ks → ∀ (s : σ) (r : Boxs) (n : Nat), I (x.inner + 1 + n) s → callX XV 25 [.d (x.enc .sub), .fn k caps] (st s ++ r) = some (.d (.tup []), st (T.fold e x s) ++ r)) (s : σ) (r : Boxs) (n0 : Nat) (h0 : I (ks.length + T.inners ks + 1 + n0) s) :
    callX XV 25 [.d ((T.node f v ks).enc .sub), .fn k caps] (st s ++ r) = some (.d (.tup []), st (T.fold e (.node f v ks) s) ++ r) := by
  rw [z_call XV _ _ _ v25 rfl xcode_25 rfl]
  have h1I : I (ks.length + T.inners ks + n0) (e (.node f v ks) s) := hI _ _ _ (by rw [show ks.length + T.inners ks + n0 + 1 = ks.length + T.inners ks + 1 + n0 by omega]; exact h0)
  have hf1 := hf (.node f v ks) s (r ++ [some [.d (.int .i64 f), .d (.int .i64 v), .d (terms .sub ks)]]) (ks.length + T.inners ks + n0) (by rw [show ks.length + T.inners ks + n0 + 1 = ks.length + T.inners ks + 1 + n0 by omega]; exact h0)
  have len : ∀ s, (st s ++ r).length = m + r.length := fun s => by simp [hm]
  have hloop := loopX_inv (X := XV) (T := XV.lin 25) (L := m + r.length + 1) (live := [1, 10, 11, 12]) (b := b25_0) (n := ks.length) (γ := Unit) (st := fun (s : σ) i => ⟨[(1, .fn k caps), (10, .d (terms .sub ks)), (11, .d (.int .i64 ks.length)), (12, .d (.int .i64 i))], (st s ++ r) ++ [some [.d (.int .i64 f), .d (.int .i64 v), .d (terms .sub ks)]]⟩) (step := stepE e ks)
    (F := fun s => (.exit 0, ⟨[(1, .fn k caps), (10, .d (terms .sub ks)), (11, .d (.int .i64 ks.length)), (12, .d (.int .i64 ks.length)), (13, .d (.bool false))], (st s ++ r) ++ [some [.d (.int .i64 f), .d (.int .i64 v), .d (terms .sub ks)]]⟩)) (R := fun _ => (.ret, ⟨[], []⟩))
    (fun s i => I (restOf ks i + n0) s)
    (fun s _ => ⟨by simp, by simp [b25_0, r25_3, hcc]⟩)
    (fun s i hi hIn => by
      have hsplit := restOf_step hi
      rw [show restOf ks i + n0 = (tAt ks i).inner + 1 + (restOf ks (i + 1) + n0) by omega] at hIn
      have hnext := fold_I hI (tAt ks i) _ s hIn
      refine ⟨?_, fun a' ha' => by unfold stepE at ha'; simp only [Sum.inl.injEq] at ha'; subst ha'; exact hnext⟩
      have hw := wrap_succ (n := i) (by omega)
      have hr := hrec _ (tAt_mem hi) s (r ++ [some [.d (.int .i64 f), .d (.int .i64 v), .d (terms .sub ks)], some [.d (.int .i64 (tAt ks i).f), .d (.int .i64 (tAt ks i).v), .d (terms .sub (tAt ks i).kids)]]) _ hIn
      have hln := len s
      have hln2 := len (T.fold e (tAt ks i) s)
      simp only [← List.append_assoc] at hr
      generalize hB : st s ++ r = B at hr hln
      generalize hB' : st (T.fold e (tAt ks i) s) ++ r = B' at hr hln2
      unfold stepE
      refine ⟨⟨[(1, .fn k caps), (10, .d (terms .sub ks)), (11, .d (.int .i64 ks.length)), (12, .d (.int .i64 (i + 1 : Nat)))], B' ++ [some [.d (.int .i64 f), .d (.int .i64 v), .d (terms .sub ks)], some [.d (.int .i64 (tAt ks i).f), .d (.int .i64 (tAt ks i).v), .d (terms .sub (tAt ks i).kids)]]⟩, ?_, ?_⟩
      · simp [b25_0, r25_3, r25_4, r25_5, r25_6, hi, hw, cut, tAt_lt hi, hcc, hr, set_at, get_at, set_at1, get_at1, splice]
      · refine head_cut (e := [some [.d (.int .i64 (tAt ks i).f), .d (.int .i64 (tAt ks i).v), .d (terms .sub (tAt ks i).kids)]]) (by simp) (by simp [safeRegs, hcs _ (show m ≤ m + r.length + 1 by omega)]) (by simp [hln2, hB']) (by simp [← hB']))
    ks.length (e (.node f v ks) s) 0 ⟨[(1, .fn k caps), (10, .d (terms .sub ks)), (11, .d (.int .i64 ks.length)), (12, .d (.int .i64 0))], (st (e (.node f v ks) s) ++ r) ++ [some [.d (.int .i64 f), .d (.int .i64 v), .d (terms .sub ks)]]⟩ (by omega) (by rw [restOf_zero]; exact h1I) (head_cut (e := []) (by simp) (by simp [safeRegs, hcs _ (show m ≤ m + r.length + 1 by omega)]) (by simp [hm]; omega) (by simp))
  rw [runE e ks _ _ _ (by omega)] at hloop
  simp only [List.drop_zero] at hloop
  have hl0 := len s
  have hl1 := len (e (.node f v ks) s)
  have hl2 : (st (T.fold e (.node f v ks) s) ++ r).length = m + r.length := len _
  have hfin : T.folds e ks (e (.node f v ks) s) = T.fold e (.node f v ks) s := by simp [T.fold]
  rw [hfin] at hloop
  simp only [← List.append_assoc] at hf1
  generalize hB0 : st s ++ r = B0 at hf1 hl0
  generalize hB1 : st (e (.node f v ks) s) ++ r = B1 at hf1 hl1 hloop
  generalize hB2 : st (T.fold e (.node f v ks) s) ++ r = B2 at hl2 hloop
  have hlen : B1.length = B0.length := by omega
  rw [← hl1] at hloop
  simp only [terms, lin_25] at hf1 hloop
  simp [v25, r25_0, r25_1, r25_2, set_at, get_at, hf1, hcc, hk, hlen.symm]
  rw [hloop]
  simp [show B1.length = B2.length by omega]
theorem eachI_eq {σ : Type} (I : Nat → σ → Prop) (st : σ → Boxs) (e : T → σ → σ) (k : Nat) (caps : List AV) (m : Nat) (hm : ∀ s, (st s).length = m) (hcs : ∀ n, m ≤ n → AV.safe.safes n caps = true) (hcc : caps.map AV.clr = caps) (hk : ¬ 0 ∈ XV.lin k)
    (hI : ∀ n s x, I (n + 1) s → I n (e x s)) (hf : ∀ (x : T) (s : σ) (r : Boxs) (n : Nat), I (n + 1) s → callX XV k (.d (x.enc .sub) :: caps) (st s ++ r) = some (.d (.tup []), st (e x s) ++ r)) (t : T) (ht : t.inner ≤ 1048576) (s : σ) (r : Boxs) (n : Nat) (h0 : I (t.inner + 1 + n) s) :
    callX XV 25 [.d (t.enc .sub), .fn k caps] (st s ++ r) = some (.d (.tup []), st (T.fold e t s) ++ r) := by
  match t, ht with
  | .node f v ks, ht =>
    simp only [T.inner] at ht h0
    exact eachI_of I st e k caps m hm hcs hcc hk hI f v ks (by omega) hf (fun x hx s r n hn => eachI_eq I st e k caps m hm hcs hcc hk hI hf x (by have := T.inners_mem hx; omega) s r n hn) s r n h0
termination_by t
decreasing_by
  simp_wf
  have := List.sizeOf_lt_of_mem hx
  omega
/-! ## A number put into a list, both -/
theorem xnat_106 : XV.nat 106 = some numAddD := rfl
theorem implNumAdd_eq (g : Tag) (l : List Int) (n : Int) (B : Boxs) (hl : l.length ≤ 1048577) : callX XV 106 [.d (.sl g (l.map (.int .i64))), .d (.int .i64 n)] B = some (.d (.sl U ((numAddL l n).map (.int .i64))), B) := by
  rw [callX_nat XV 106 _ _ _ xnat_106]
  have h : (l.length + 1) * 8 ≤ 140737488355328 := by omega
  simp [datas, numAddD, intsOf_map, h, U]
theorem numAddL_len (l : List Int) (n : Int) : (numAddL l n).length ≤ l.length + 1 := by
  unfold numAddL
  split
  · omega
  · simp [numAt]; have := List.findIdx_le_length (p := fun x => decide (x > n)) (xs := l); omega
theorem specNumIn_eq (l : List Int) (n : Int) (hl : l.length ≤ 2097152) : callX XV 53 [.d (is l), .d (.int .i64 n)] [] = some (.d (.bool (l.contains n)), []) := by
  rw [z_call XV _ _ _ v53 rfl xcode_53 rfl]
  have h := loopX_upto (X := XV) (T := []) (L := 0) (live := [0, 1, 5]) (b := b53_0) (n := l.length) (st := fun (_ : Unit) i => ⟨[(0, .d (is l)), (1, .d (.int .i64 n)), (5, .d (.int .i64 i))], []⟩) (step := stepF fun i => iAt l i == n)
    (F := fun _ => (.exit 0, ⟨[(0, .d (is l)), (1, .d (.int .i64 n)), (5, .d (.int .i64 l.length)), (9, .d (.bool false))], []⟩)) (R := fun (j : Nat) => (.ret, ⟨[(4, .d (.bool true))], []⟩))
    (fun a => ⟨by simp, by simp [b53_0, r53_0, r53_1, r53_2, r53_4, r53_5, r53_3, r53_6]⟩)
    (fun a i hi => by
      have hw := wrap_succ (n := i) (by omega)
      unfold stepF
      by_cases hq : (iAt l i == n) = true
      · rw [if_pos hq]
        exact ⟨by simp, by simp [b53_0, r53_0, r53_1, r53_2, r53_4, r53_5, r53_3, r53_6, hi, hw, cut, iAt_lt hi, hq]⟩
      · rw [if_neg hq]
        have hq' : (iAt l i == n) = false := by simpa using hq
        exact ⟨_, by simp [b53_0, r53_0, r53_1, r53_2, r53_4, r53_5, r53_3, r53_6, hi, hw, cut, iAt_lt hi, hq']; rfl, by simp [xheadOf, safeRegs]⟩)
    l.length () 0 ⟨[(0, .d (is l)), (1, .d (.int .i64 n)), (5, .d (.int .i64 0))], []⟩ (by omega) (by simp [xheadOf, safeRegs])
  rw [runF] at h
  have hc := found_contains l n
  have hcomm : (fun i => n == iAt l i) = fun i => iAt l i == n := by funext i; exact Bool.beq_comm
  rw [hcomm] at hc
  simp [v53, r53_0, r53_1, r53_2, r53_4, r53_5, r53_3, r53_6]
  rw [h]
  cases hq : findAt (fun i => iAt l i == n) l.length 0 with
  | none => rw [hq] at hc; simp [orNeg] at hc; simp [v53, r53_0, r53_1, r53_2, r53_4, r53_5, r53_3, r53_6, hc]
  | some j => rw [hq] at hc; simp [orNeg] at hc; simp [v53, r53_0, r53_1, r53_2, r53_4, r53_5, r53_3, r53_6, hc]
theorem all_one (l : List Int) : (l.map (DV.int .i64)).all (fun e => decide (e.cells.length = 1)) = true := by simp [cells_int]
theorem all_cell (l : List Int) : (l.map (DV.int .i64)).all (fun e => decide (e.cells.length = 1 ∧ e.cells.all DV.isCell = true)) = true := by simp [cells_int, isCell_int]
theorem app_ints (a b : List Int) (g : Tag) (h : (a.length + b.length) * 8 ≤ 140737488355328) : xappend 1 8 (.sl U (a.map (.int .i64))) (.sl g (b.map (.int .i64))) = some (.sl U ((a ++ b).map (.int .i64))) := by
  unfold xappend
  simp only
  rw [if_pos (all_cell b)]
  cases b with
  | nil => simp
  | cons x r =>
    simp only [List.map_cons, List.isEmpty_cons, Bool.false_eq_true, if_false]
    rw [if_pos ⟨by simpa using h, trivial, all_one a⟩]
    simp
theorem specNumAdd_eq (l : List Int) (n : Int) (hl : l.length ≤ 2097152) : callX XV 112 [.d (is l), .d (.int .i64 n)] [] = some (.d (.sl U ((numAddL l n).map (.int .i64))), []) := by
  rw [z_call XV _ _ _ v112 rfl xcode_112 rfl]
  have hin := specNumIn_eq l n hl
  by_cases hc : l.contains n = true
  · rw [hc] at hin
    have ha := app_ints [] l .sub (by simp; omega)
    have hr : numAddL l n = l := by unfold numAddL; rw [if_pos hc]
    simp only [List.map_nil, List.nil_append] at ha
    rw [hr]
    simp [v112, r112_0, r112_1, r112_2, r112_3, r112_4, r112_5, r112_6, r112_7, r112_8, hin, ha]
  · have hc' : l.contains n = false := by simpa using hc
    rw [hc'] at hin
    have h := loopX_upto (X := XV) (T := XV.lin 112) (L := 0) (live := [0, 1, 5]) (b := b112_0) (n := l.length) (st := fun (_ : Unit) i => ⟨[(0, .d (is l)), (1, .d (.int .i64 n)), (5, .d (.int .i64 i))], []⟩) (step := stepF fun i => !decide (iAt l i < n))
      (F := fun _ => (.exit 0, ⟨[(0, .d (is l)), (1, .d (.int .i64 n)), (5, .d (.int .i64 l.length)), (24, .d (.bool false))], []⟩)) (R := fun (j : Nat) => (.exit 0, ⟨[(0, .d (is l)), (1, .d (.int .i64 n)), (5, .d (.int .i64 j)), (24, .d (.bool false))], []⟩))
      (fun a => ⟨by simp, by simp [b112_0, r112_0, r112_1, r112_2, r112_3, r112_4, r112_5, r112_6, r112_7, r112_8]⟩)
      (fun a i hi => by
        have hw := wrap_succ (n := i) (by omega)
        unfold stepF
        by_cases hq : iAt l i < n
        · rw [if_neg (by simp [hq])]
          exact ⟨_, by simp [b112_0, r112_0, r112_1, r112_2, r112_3, r112_4, r112_5, r112_6, r112_7, r112_8, hi, hw, cut, iAt_lt hi, hq]; rfl, by simp [xheadOf, safeRegs]⟩
        · rw [if_pos (by simp [hq])]
          exact ⟨by simp, by simp [b112_0, r112_0, r112_1, r112_2, r112_3, r112_4, r112_5, r112_6, r112_7, r112_8, hi, hw, cut, iAt_lt hi, hq]⟩)
      l.length () 0 ⟨[(0, .d (is l)), (1, .d (.int .i64 n)), (5, .d (.int .i64 0))], []⟩ (by omega) (by simp [xheadOf, safeRegs])
    rw [runF] at h
    have hat : ∃ at_ : Nat, at_ = numAt l n ∧ at_ ≤ l.length ∧ loopX XV (XV.lin 112) 0 [0, 1, 5] b112_0 ⟨[(0, .d (is l)), (1, .d (.int .i64 n)), (5, .d (.int .i64 0))], []⟩ = some (.exit 0, ⟨[(0, .d (is l)), (1, .d (.int .i64 n)), (5, .d (.int .i64 at_)), (24, .d (.bool false))], []⟩) := by
      have hq : numAt l n = match findAt (fun i => !decide (iAt l i < n)) l.length 0 with | some j => j | none => l.length := by
        unfold numAt
        rw [findIdx_findAt]
        have : findAt (fun i => decide (iAt l i > n)) l.length 0 = findAt (fun i => !decide (iAt l i < n)) l.length 0 := by
          refine findAt_congr _ _ _ _ fun j h1 h2 => ?_
          have hlt : j < l.length := by omega
          have hne : iAt l j ≠ n := by
            intro he
            rw [← iAt_lt hlt] at he
            rw [← he] at hc'
            have := List.getElem_mem hlt
            rw [← List.contains_iff_mem] at this
            rw [hc'] at this; simp at this
          rw [Bool.eq_iff_iff]; simp; omega
        rw [this]
        cases findAt (fun i => !decide (iAt l i < n)) l.length 0 <;> rfl
      refine ⟨numAt l n, rfl, List.findIdx_le_length, ?_⟩
      rw [h, hq]
      cases findAt (fun i => !decide (iAt l i < n)) l.length 0 <;> rfl
    obtain ⟨k, hk, hkl, hloop⟩ := hat
    have hr : numAddL l n = l.take k ++ [n] ++ l.drop k := by unfold numAddL; rw [if_neg hc, ← hk]; simp
    have a1 := app_ints [] (l.take k) .sub (by simp; omega)
    have a2 := app_ints (l.take k) [n] U (by simp; omega)
    have a3 := app_ints (l.take k ++ [n]) (l.drop k) .sub (by simp; omega)
    simp only [List.map_nil, List.nil_append, List.map_take, List.map_drop, List.map_append, List.map_cons] at a1 a2 a3
    rw [hr]
    have hal := all_one l
    have hk0 : (k : Int) ≤ l.length := by omega
    simp only [lin_112] at hloop
    simp [v112, r112_0, r112_1, r112_2, r112_3, r112_4, r112_5, r112_6, r112_7, r112_8, hin]
    rw [hloop]
    have ht : List.take l.length (l.map (DV.int .i64)) = l.map (DV.int .i64) := List.take_of_length_le (by simp)
    simp [v112, r112_0, r112_1, r112_2, r112_3, r112_4, r112_5, r112_6, r112_7, r112_8, hal, hkl, hk0, a1, a2, a3, ht]
/-! ## The variables of a term, both -/
def eV (x : T) (l : List Int) : List Int := if x.f = -1 then numAddL l x.v else l
def IV (n : Nat) (l : List Int) : Prop := l.length + n ≤ 1048578
theorem eV_I (n : Nat) (l : List Int) (x : T) (h : IV (n + 1) l) : IV n (eV x l) := by
  unfold IV eV at *
  have := numAddL_len l x.v
  split <;> omega
def varsL (t : T) : List Int := T.fold eV t []
theorem varsL_len (t : T) (ht : t.inner ≤ 1048576) : (varsL t).length ≤ 1048578 := by
  have := fold_I (I := IV) eV_I t 0 [] (by simp [IV]; omega)
  unfold IV at this
  exact this
theorem implVarsOf_eq (t : T) (ht : t.inner ≤ 1048576) : callX XV 104 [.d (t.enc .sub)] [] = some (.d (.sl U ((varsL t).map (.int .i64))), []) := by
  rw [z_call XV _ _ _ v104 rfl xcode_104 rfl]
  have key := eachI_eq IV (fun l : List Int => [some [.d (.int .i64 t.f), .d (.int .i64 t.v), .d (terms .sub t.kids)], some [.d (.sl U (l.map (.int .i64)))]]) eV 105 [.ptr 1 0] 2 (fun _ => rfl) (fun n hn => by simp; omega) rfl (by simp) eV_I (fun x l r n hn => by
      rw [z_call XV _ _ _ v105 rfl xcode_105 rfl]
      obtain ⟨xf, xv, xk⟩ := x
      have hv := isVar_eq (.node xf xv xk)
      simp only [T.f_node] at hv
      have hle : l.length ≤ 1048577 := by unfold IV at hn; omega
      unfold eV
      simp only [T.f_node, T.v_node]
      by_cases h1 : xf = -1
      · subst h1
        simp only [BEq.rfl] at hv
        have ha := implNumAdd_eq .sub l xv [] hle
        simp [v105, r105_0, r105_1, r105_2, hv, splice, ha]
      · have b1 : (xf == -1) = false := by simp [h1]
        rw [b1] at hv
        simp [v105, r105_0, r105_1, r105_2, hv, h1, splice]) t ht [] [] 0 (by simp [IV]; omega)
  simp only [List.append_nil, terms, List.map_nil] at key
  simp [v104, r104_0, r104_1, r104_2, r104_3, splice, key, varsL]
theorem specVars_of (f v : Int) (ks : List T) (hl : ks.length ≤ 1048576) (n0 : Nat)
    (hrec : ∀ s, s ∈ ks → ∀ (l : List Int) (n : Nat), IV (s.inner + 1 + n) l → callX XV 111 [.d (s.enc .sub), .d (is l)] [] = some (.d (is (T.fold eV s l)), [])) (l : List Int) (h0 : IV (ks.length + T.inners ks + 1 + n0) l) :
    callX XV 111 [.d ((T.node f v ks).enc .sub), .d (is l)] [] = some (.d (is (T.fold eV (.node f v ks) l)), []) := by
  rw [z_call XV _ _ _ v111 rfl xcode_111 rfl]
  have h1I : IV (ks.length + T.inners ks + n0) (eV (.node f v ks) l) := eV_I _ _ _ (by rw [show ks.length + T.inners ks + n0 + 1 = ks.length + T.inners ks + 1 + n0 by omega]; exact h0)
  have h := loopX_inv (X := XV) (T := XV.lin 111) (L := 1) (live := [1, 2, 5]) (b := b111_0) (n := ks.length) (γ := Unit) (st := fun (l : List Int) i => ⟨[(1, .d (is l)), (2, .ptr 0 0), (5, .d (.int .i64 i))], [some [.d (.int .i64 f), .d (.int .i64 v), .d (terms .sub ks)]]⟩) (step := stepE eV ks)
    (F := fun l => (.exit 0, ⟨[(1, .d (is l)), (2, .ptr 0 0), (5, .d (.int .i64 ks.length)), (17, .d (.bool false))], [some [.d (.int .i64 f), .d (.int .i64 v), .d (terms .sub ks)]]⟩)) (R := fun r => (.ret, ⟨[], []⟩))
    (fun l i => IV (restOf ks i + n0) l)
    (fun _ _ => ⟨by simp, by simp [b111_0, r111_0, r111_1, r111_2, r111_3, r111_4, r111_6, r111_5, r111_7]⟩)
    (fun l i hi hIn => by
      have hw := wrap_succ (n := i) (by omega)
      have hsplit := restOf_step hi
      rw [show restOf ks i + n0 = (tAt ks i).inner + 1 + (restOf ks (i + 1) + n0) by omega] at hIn
      have hnext := fold_I eV_I (tAt ks i) _ l hIn
      have hc := hrec _ (tAt_mem hi) l _ hIn
      refine ⟨?_, fun a' ha' => by unfold stepE at ha'; simp only [Sum.inl.injEq] at ha'; subst ha'; exact hnext⟩
      exact ⟨_, by simp [b111_0, r111_0, r111_1, r111_2, r111_3, r111_4, r111_6, r111_5, r111_7, hi, hw, cut, tAt_lt hi, hc]; rfl, by simp [xheadOf, safeRegs]⟩)
    ks.length (eV (.node f v ks) l) 0 ⟨[(1, .d (is (eV (.node f v ks) l))), (2, .ptr 0 0), (5, .d (.int .i64 0))], [some [.d (.int .i64 f), .d (.int .i64 v), .d (terms .sub ks)]]⟩ (by omega) (by rw [restOf_zero]; exact h1I) (by simp [xheadOf, safeRegs])
  rw [runE eV ks _ _ _ (by omega)] at h
  have hfin : T.folds eV ks (eV (.node f v ks) l) = T.fold eV (.node f v ks) l := by simp [T.fold]
  simp only [List.drop_zero, terms, lin_111, hfin] at h
  have hle : l.length ≤ 1048577 := by unfold IV at h0; omega
  have ha := specNumAdd_eq l v (by omega)
  by_cases c1 : f = -1
  · subst c1
    have he : eV (.node (-1) v ks) l = numAddL l v := by simp [eV]
    rw [he] at h
    simp [v111, r111_0, r111_1, r111_2, r111_3, r111_4, r111_6, r111_5, r111_7, ha]
    rw [h]
    simp [v111, r111_0, r111_1, r111_2, r111_3, r111_4, r111_6, r111_5, r111_7]
  · have he : eV (.node f v ks) l = l := by simp [eV, c1]
    have b1 : (f == -1) = false := by simp [c1]
    rw [he] at h
    simp [v111, r111_0, r111_1, r111_2, r111_3, r111_4, r111_6, r111_5, r111_7, b1]
    rw [h]
    simp [v111, r111_0, r111_1, r111_2, r111_3, r111_4, r111_6, r111_5, r111_7]
theorem specVars_eq (t : T) (ht : t.inner ≤ 1048576) (l : List Int) (n : Nat) (h0 : IV (t.inner + 1 + n) l) : callX XV 111 [.d (t.enc .sub), .d (is l)] [] = some (.d (is (T.fold eV t l)), []) := by
  match t, ht with
  | .node f v ks, ht =>
    simp only [T.inner] at ht h0
    exact specVars_of f v ks (by omega) n (fun s hs l n h => specVars_eq s (by have := T.inners_mem hs; omega) l n h) l h0
termination_by t
decreasing_by
  simp_wf
  have := List.sizeOf_lt_of_mem hs
  omega
theorem specVarsOf_eq (t : T) (ht : t.inner ≤ 1048576) : callX XV 110 [.d (t.enc .sub)] [] = some (.d (is (varsL t)), []) := by
  rw [z_call XV _ _ _ v110 rfl xcode_110 rfl]
  have h := specVars_eq t ht [] 0 (by simp [IV]; omega)
  obtain ⟨f, v, ks⟩ := t
  simp only [List.map_nil, is] at h
  simp [v110, r110_0, r110_1, h, varsL]
theorem implGround_eq (t : T) (ht : t.inner ≤ 1048576) : callX XV 103 [.d (t.enc .sub)] [] = some (.d (.bool ((varsL t).length == 0)), []) := by
  rw [z_call XV _ _ _ v103 rfl xcode_103 rfl]
  have h := implVarsOf_eq t ht
  obtain ⟨f, v, ks⟩ := t
  simp [v103, r103_0, r103_1, h]
  rw [Bool.eq_iff_iff]; simp
theorem specGround_eq (t : T) (ht : t.inner ≤ 1048576) : callX XV 102 [.d (t.enc .sub)] [] = some (.d (.bool ((varsL t).length == 0)), []) := by
  rw [z_call XV _ _ _ v102 rfl xcode_102 rfl]
  have h := specVarsOf_eq t ht
  obtain ⟨f, v, ks⟩ := t
  simp [v102, r102_0, r102_1, h]
  rw [Bool.eq_iff_iff]; simp
end Go.Proofs.Ytanfjghdjkiggaa.VS
