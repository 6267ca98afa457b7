/- Contracts of the program's functions on the evaluator without names, and plain lemmas: XEach. -/
import Derived.Test.YtanfjghdjkiggaaXTerm3
namespace Go.Proofs.Ytanfjghdjkiggaa.VS
set_option linter.unusedVariables false
set_option linter.unusedSimpArgs false
mutual
/-- All terms within a term, itself first. -/
def T.fold {σ : Type} (e : T → σ → σ) : T → σ → σ
  | .node f v ks, s => T.folds e ks (e (.node f v ks) s)
def T.folds {σ : Type} (e : T → σ → σ) : List T → σ → σ
  | [], s => s
  | t :: r, s => T.folds e r (T.fold e t s)
end
theorem set_at {α : Type} (B : List α) (x v : α) (r : List α) : (B ++ x :: r).set B.length v = B ++ v :: r := by simp
theorem get_at {α : Type} (B : List α) (x : α) (r : List α) : (B ++ x :: r)[B.length]? = some x := by simp
theorem set_at1 {α : Type} (B : List α) (x y v : α) (r : List α) : (B ++ x :: y :: r).set (B.length + 1) v = B ++ x :: v :: r := by
  rw [List.set_append_right _ _ (by omega), show B.length + 1 - B.length = 1 by omega]; rfl
theorem get_at1 {α : Type} (B : List α) (x y : α) (r : List α) : (B ++ x :: y :: r)[B.length + 1]? = some y := by
  rw [List.getElem?_append_right (by omega), show B.length + 1 - B.length = 1 by omega]; rfl
theorem take_at {α : Type} (B r : List α) : (B ++ r).take B.length = B := by simp
theorem take_at1 {α : Type} (B : List α) (x : α) (r : List α) : (B ++ x :: r).take (B.length + 1) = B ++ [x] := by
  rw [List.take_append, List.take_of_length_le (by omega)]; simp
theorem head_cut {L : Nat} {live : List Nat} {s : XS} {r' : List (Nat × AV)} {B e : Boxs} (h : keep s.r live = r') (hs : safeRegs L r' = true) (hl : B.length = L) (he : s.B = B ++ e) : xheadOf L live s = some ⟨r', B⟩ := by
  unfold xheadOf
  rw [h, he, if_pos ⟨hs, by simp; omega⟩, ← hl, take_at]
def stepE {σ : Type} (e : T → σ → σ) (l : List T) (s : σ) (i : Nat) : σ ⊕ Unit := .inl (T.fold e (tAt l i) s)
theorem runE {σ : Type} (e : T → σ → σ) (l : List T) : ∀ (k i : Nat) (s : σ), i + k = l.length → runN (stepE e l) k s i = .inl (T.folds e (l.drop i) s)
  | 0, i, s, h => by
    have h1 : l.drop i = [] := List.drop_eq_nil_of_le (by omega)
    simp [runN, h1, T.folds]
  | k + 1, i, s, h => by
    have hlt : i < l.length := by omega
    rw [List.drop_eq_getElem_cons hlt, tAt_lt hlt]
    simp only [runN, stepE, T.folds]
    exact runE e l k (i + 1) _ (by omega)
theorem each_of {σ : Type} (st : σ → Boxs) (e : T → σ → σ) (k : Nat) (caps : List AV) (m : Nat) (hm : ∀ s, (st s).length = m) (hcs : ∀ n, m ≤ n → AV.safe.safes n caps = true) (hcc : caps.map AV.clr = caps) (hk : ¬ 0 ∈ XV.lin k)
    (f v : Int) (ks : List T) (hl : ks.length ≤ 1048576)
    (hf : ∀ (x : T) (s : σ) (r : Boxs), callX XV k (.d (x.enc .sub) :: caps) (st s ++ r) = some (.d (.tup []), st (e x s) ++ r))
    (hrec : ∀ x, x ∈ ks → ∀ (s : σ) (r : Boxs), callX XV 25 [.d (x.enc .sub), .fn k caps] (st s ++ r) = some (.d (.tup []), st (T.fold e x s) ++ r)) (s : σ) (r : Boxs) :
    callX XV 25 [.d ((T.node f v ks).enc .sub), .fn k caps] (st s ++ r) = some (.d (.tup []), st (T.fold e (.node f v ks) s) ++ r) := by
  rw [z_call XV _ _ _ v25 rfl xcode_25 rfl]
  have hf1 := hf (.node f v ks) s (r ++ [some [.d (.int .i64 f), .d (.int .i64 v), .d (terms .sub ks)]])
  have len : ∀ s, (st s ++ r).length = m + r.length := fun s => by simp [hm]
  have hloop := loopX_upto (X := XV) (T := XV.lin 25) (L := m + r.length + 1) (live := [1, 10, 11, 12]) (b := b25_0) (n := ks.length) (γ := Unit) (st := fun (s : σ) i => ⟨[(1, .fn k caps), (10, .d (terms .sub ks)), (11, .d (.int .i64 ks.length)), (12, .d (.int .i64 i))], (st s ++ r) ++ [some [.d (.int .i64 f), .d (.int .i64 v), .d (terms .sub ks)]]⟩) (step := stepE e ks)
    (F := fun s => (.exit 0, ⟨[(1, .fn k caps), (10, .d (terms .sub ks)), (11, .d (.int .i64 ks.length)), (12, .d (.int .i64 ks.length)), (13, .d (.bool false))], (st s ++ r) ++ [some [.d (.int .i64 f), .d (.int .i64 v), .d (terms .sub ks)]]⟩)) (R := fun _ => (.ret, ⟨[], []⟩))
    (fun s => ⟨by simp, by simp [b25_0, r25_3, hcc]⟩)
    (fun s i hi => by
      have hw := wrap_succ (n := i) (by omega)
      have hr := hrec _ (tAt_mem hi) s (r ++ [some [.d (.int .i64 f), .d (.int .i64 v), .d (terms .sub ks)], some [.d (.int .i64 (tAt ks i).f), .d (.int .i64 (tAt ks i).v), .d (terms .sub (tAt ks i).kids)]])
      have hln := len s
      have hln2 := len (T.fold e (tAt ks i) s)
      simp only [← List.append_assoc] at hr
      generalize hB : st s ++ r = B at hr hln
      generalize hB' : st (T.fold e (tAt ks i) s) ++ r = B' at hr hln2
      unfold stepE
      refine ⟨⟨[(1, .fn k caps), (10, .d (terms .sub ks)), (11, .d (.int .i64 ks.length)), (12, .d (.int .i64 (i + 1 : Nat)))], B' ++ [some [.d (.int .i64 f), .d (.int .i64 v), .d (terms .sub ks)], some [.d (.int .i64 (tAt ks i).f), .d (.int .i64 (tAt ks i).v), .d (terms .sub (tAt ks i).kids)]]⟩, ?_, ?_⟩
      · simp [b25_0, r25_3, r25_4, r25_5, r25_6, hi, hw, cut, tAt_lt hi, hcc, hr, set_at, get_at, set_at1, get_at1, splice]
      · refine head_cut (e := [some [.d (.int .i64 (tAt ks i).f), .d (.int .i64 (tAt ks i).v), .d (terms .sub (tAt ks i).kids)]]) (by simp) (by simp [safeRegs, hcs _ (show m ≤ m + r.length + 1 by omega)]) (by simp [hln2, hB']) (by simp [← hB']))
    ks.length (e (.node f v ks) s) 0 ⟨[(1, .fn k caps), (10, .d (terms .sub ks)), (11, .d (.int .i64 ks.length)), (12, .d (.int .i64 0))], (st (e (.node f v ks) s) ++ r) ++ [some [.d (.int .i64 f), .d (.int .i64 v), .d (terms .sub ks)]]⟩ (by omega) (head_cut (e := []) (by simp) (by simp [safeRegs, hcs _ (show m ≤ m + r.length + 1 by omega)]) (by simp [hm]; omega) (by simp))
  rw [runE e ks _ _ _ (by omega)] at hloop
  simp only [List.drop_zero] at hloop
  have hl0 := len s
  have hl1 := len (e (.node f v ks) s)
  have hl2 : (st (T.fold e (.node f v ks) s) ++ r).length = m + r.length := len _
  have hfin : T.folds e ks (e (.node f v ks) s) = T.fold e (.node f v ks) s := by simp [T.fold]
  rw [hfin] at hloop
  simp only [← List.append_assoc] at hf1
  generalize hB0 : st s ++ r = B0 at hf1 hl0
  generalize hB1 : st (e (.node f v ks) s) ++ r = B1 at hf1 hl1 hloop
  generalize hB2 : st (T.fold e (.node f v ks) s) ++ r = B2 at hl2 hloop
  have hlen : B1.length = B0.length := by omega
  rw [← hl1] at hloop
  simp only [terms, lin_25] at hf1 hloop
  simp [v25, r25_0, r25_1, r25_2, set_at, get_at, hf1, hcc, hk, hlen.symm]
  rw [hloop]
  simp [show B1.length = B2.length by omega]
theorem each_eq {σ : Type} (st : σ → Boxs) (e : T → σ → σ) (k : Nat) (caps : List AV) (m : Nat) (hm : ∀ s, (st s).length = m) (hcs : ∀ n, m ≤ n → AV.safe.safes n caps = true) (hcc : caps.map AV.clr = caps) (hk : ¬ 0 ∈ XV.lin k)
    (hf : ∀ (x : T) (s : σ) (r : Boxs), callX XV k (.d (x.enc .sub) :: caps) (st s ++ r) = some (.d (.tup []), st (e x s) ++ r)) (t : T) (ht : t.inner ≤ 1048576) (s : σ) (r : Boxs) :
    callX XV 25 [.d (t.enc .sub), .fn k caps] (st s ++ r) = some (.d (.tup []), st (T.fold e t s) ++ r) := by
  match t, ht with
  | .node f v ks, ht =>
    simp only [T.inner] at ht
    exact each_of st e k caps m hm hcs hcc hk f v ks (by omega) hf (fun x hx s r => each_eq st e k caps m hm hcs hcc hk hf x (by have := T.inners_mem hx; omega) s r) s r
termination_by t
decreasing_by
  simp_wf
  have := List.sizeOf_lt_of_mem hx
  omega
end Go.Proofs.Ytanfjghdjkiggaa.VS
