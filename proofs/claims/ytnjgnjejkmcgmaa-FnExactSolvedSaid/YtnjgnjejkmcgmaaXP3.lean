/- Contracts of the program's functions on the evaluator without names, and plain lemmas: part 3. -/
import Derived.Test.YtnjgnjejkmcgmaaXP2
namespace Go.Proofs.Ytnjgnjejkmcgmaa.VS
set_option linter.unusedVariables false
set_option linter.unusedSimpArgs false
theorem symMerge_eq : ∀ (k : Nat) (A X Y Z : List T) (a m b N : Nat), X.length + Y.length ≤ k → 0 < X.length → 0 < Y.length → a = A.length → m = a + X.length → b = m + Y.length → N = (A ++ X ++ Y ++ Z).length → N ≤ 1099511627776 → (∀ t, t ∈ A ++ X ++ Y ++ Z → t.inner ≤ 1099511627776) → Srt X → Srt Y →
    ∃ W : List T, W.Perm (X ++ Y) ∧ Srt W ∧ callX XV 173 [.tsl true 0 3 N, .d (.int .i64 a), .d (.int .i64 m), .d (.int .i64 b), .fn 6 []] [some (kc (A ++ X ++ Y ++ Z))] = some (.d (.tup []), [some (kc (A ++ W ++ Z))]) := by
  intro k
  induction k with
  | zero => intro A X Y Z a m b N hk hx hy; omega
  | succ k ih =>
    intro A X Y Z a m b N hk hx hy ha hm hb hN hn hin hX hY
    have hNl : A.length + X.length + Y.length + Z.length = N := by rw [hN]; simp; omega
    by_cases hx1 : X.length = 1
    · obtain ⟨x, rfl⟩ : ∃ x, X = [x] := List.length_eq_one_iff.1 hx1
      have e : A ++ [x] ++ Y ++ Z = A ++ x :: (Y ++ Z) := by simp
      rw [e] at hN hin ⊢
      obtain ⟨W, w1, w2, w3⟩ := merge_one A Y Z x a m b N ha (by simpa using hm) hb hN hn hin hY
      exact ⟨W, by simpa using w1, w2, w3⟩
    by_cases hy1 : Y.length = 1
    · obtain ⟨y, rfl⟩ : ∃ y, Y = [y] := List.length_eq_one_iff.1 hy1
      have e : A ++ X ++ [y] ++ Z = A ++ X ++ y :: Z := by simp
      rw [e] at hN hin ⊢
      exact merge_last A X Z y a m b N ha hm (by simpa using hb) (by omega) hN hn hin hX
    -- where to part both
    obtain ⟨mid, hmid⟩ : ∃ mid, mid = (a + b) / 2 := ⟨_, rfl⟩
    have hxat : ∀ q, q < X.length → tAt (A ++ X ++ Y ++ Z) (a + q) = tAt X q := fun q hq => by
      rw [ha, List.append_assoc (A ++ X)]; exact tAt_in A X (Y ++ Z) q hq
    have hyat : ∀ q, q < Y.length → tAt (A ++ X ++ Y ++ Z) (m + q) = tAt Y q := fun q hq => by
      have := tAt_in (A ++ X) Y Z q hq
      rw [List.length_append, ← ha, ← hm] at this; exact this
    have key : ∀ i j : Nat, (if mid < m then i = mid + m - b ∧ j = mid else i = a ∧ j = m) → ∃ st, i ≤ st ∧ st ≤ j ∧ (st = i ∨ tle (tAt (A ++ X ++ Y ++ Z) (st - 1)) (tAt (A ++ X ++ Y ++ Z) (mid + m - 1 - (st - 1)))) ∧ (st = j ∨ tle (tAt (A ++ X ++ Y ++ Z) (mid + m - 1 - st)) (tAt (A ++ X ++ Y ++ Z) st)) ∧
        loopX XV [70, 74, 122, 126] 1 [0, 1, 2, 3, 4, 18, 19, 20, 21, 22] b173_4 ⟨[(0, .tsl true 0 3 N), (1, .d (.int .i64 a)), (2, .d (.int .i64 m)), (3, .d (.int .i64 b)), (4, .fn 6 []), (18, .d (.int .i64 mid)), (19, .d (.int .i64 (mid + m : Nat))), (20, .d (.int .i64 i)), (21, .d (.int .i64 j)), (22, .d (.int .i64 (mid + m - 1 : Nat)))], [some (kc (A ++ X ++ Y ++ Z))]⟩ =
          some (.exit 8, ⟨[(0, .tsl true 0 3 N), (1, .d (.int .i64 a)), (2, .d (.int .i64 m)), (3, .d (.int .i64 b)), (4, .fn 6 []), (18, .d (.int .i64 mid)), (19, .d (.int .i64 (mid + m : Nat))), (20, .d (.int .i64 st)), (21, .d (.int .i64 st)), (22, .d (.int .i64 (mid + m - 1 : Nat))), (151, .d (.bool false))], [some (kc (A ++ X ++ Y ++ Z))]⟩) := by
      intro i j hij
      have hij2 : i ≤ j ∧ j ≤ N ∧ ∀ c, i ≤ c → c < j → c ≤ mid + m - 1 ∧ mid + m - 1 - c < N := by
        split at hij
        · obtain ⟨rfl, rfl⟩ := hij
          exact ⟨by omega, by omega, fun c h1 h2 => by omega⟩
        · obtain ⟨rfl, rfl⟩ := hij
          exact ⟨by omega, by omega, fun c h1 h2 => by omega⟩
      have hl := bs3_loop (A ++ X ++ Y ++ Z) (mid + m - 1) a m b mid (mid + m : Nat) (by rw [← hN]; exact hn) (by omega) hin (j - i) i j hij2.1 (Nat.le_refl _) (by rw [← hN]; exact hij2.2.1) (by rw [← hN]; exact hij2.2.2)
      obtain ⟨s1, s2, s3, s4⟩ := bs_spec (fun c => !decide (T.cmp (tAt (A ++ X ++ Y ++ Z) (mid + m - 1 - c)) (tAt (A ++ X ++ Y ++ Z) c) < 0)) (j - i) i j hij2.1 (Nat.le_refl _)
      rw [← hN] at hl
      refine ⟨_, s1, s2, s3.imp_right fun h => tle_of_not_lt (by simpa using h), s4.imp_right fun h => tle_of_lt (by simpa using h), hl⟩
    obtain ⟨i0, j0, hif⟩ : ∃ i j : Nat, (if mid < m then i = mid + m - b ∧ j = mid else i = a ∧ j = m) := by
      by_cases h : mid < m
      · exact ⟨mid + m - b, mid, by rw [if_pos h]; exact ⟨rfl, rfl⟩⟩
      · exact ⟨a, m, by rw [if_neg h]; exact ⟨rfl, rfl⟩⟩
    obtain ⟨st, q1, q2, q3, q4, hlo⟩ := key i0 j0 hif
    clear key
    -- the places
    have hb1 : a ≤ st ∧ st ≤ m ∧ st ≤ mid ∧ m ≤ mid + m - st ∧ mid + m - st ≤ b := by
      split at hif
      · obtain ⟨rfl, rfl⟩ := hif; omega
      · obtain ⟨rfl, rfl⟩ := hif; omega
    obtain ⟨t, ht⟩ : ∃ t, st = a + t := ⟨st - a, by omega⟩
    obtain ⟨u, hu⟩ : ∃ u, mid + m - st = m + u := ⟨mid - st, by omega⟩
    have htl : t ≤ X.length := by omega
    have hul : u ≤ Y.length := by omega
    have hX12 : X.take t ++ X.drop t = X := List.take_append_drop _ _
    have hY12 : Y.take u ++ Y.drop u = Y := List.take_append_drop _ _
    have lx1 : (X.take t).length = t := by simp; omega
    have lx2 : (X.drop t).length = X.length - t := by simp
    have ly1 : (Y.take u).length = u := by simp; omega
    have ly2 : (Y.drop u).length = Y.length - u := by simp
    have ne : ∀ l : List T, l ≠ [] → 0 < l.length := fun l h => List.length_pos_iff.2 h
    obtain ⟨sx1, sx2, sx12⟩ := List.pairwise_append.1 (show Srt (X.take t ++ X.drop t) by rw [hX12]; exact hX)
    obtain ⟨sy1, sy2, sy12⟩ := List.pairwise_append.1 (show Srt (Y.take u ++ Y.drop u) by rw [hY12]; exact hY)
    -- what is left is not above what is right
    have F1 : ∀ p, p ∈ X.take t → ∀ q, q ∈ Y.drop u → tle p q := cross sx1 sy2 fun s r hs hr => by
      obtain ⟨h1, h2⟩ := take_last htl hs
      obtain ⟨h3, h4⟩ := drop_head hr
      rcases q3 with q3 | q3
      · exfalso
        split at hif
        · obtain ⟨rfl, rfl⟩ := hif; omega
        · obtain ⟨rfl, rfl⟩ := hif; omega
      · rw [show st - 1 = a + (t - 1) by omega, hxat _ (by omega), show mid + m - 1 - (a + (t - 1)) = m + u by omega, hyat _ h3] at q3
        rw [h2, h4]; exact q3
    have F2 : ∀ p, p ∈ Y.take u → ∀ q, q ∈ X.drop t → tle p q := cross sy1 sx2 fun s r hs hr => by
      obtain ⟨h1, h2⟩ := take_last hul hs
      obtain ⟨h3, h4⟩ := drop_head hr
      rcases q4 with q4 | q4
      · exfalso
        split at hif
        · obtain ⟨rfl, rfl⟩ := hif; omega
        · obtain ⟨rfl, rfl⟩ := hif; omega
      · rw [show mid + m - 1 - st = m + (u - 1) by omega, hyat _ (by omega), show st = a + t from ht, hxat _ h3] at q4
        rw [h2, h4]; exact q4
    generalize hX1 : X.take t = X1 at *
    generalize hX2 : X.drop t = X2 at *
    generalize hY1 : Y.take u = Y1 at *
    generalize hY2 : Y.drop u = Y2 at *
    clear hxat hyat q3 q4
    subst hX12
    subst hY12
    -- the left part
    have L : ∃ W1 : List T, W1.Perm (X1 ++ Y1) ∧ Srt W1 ∧ ((X1 ≠ [] ∧ Y1 ≠ []) → callX XV 173 [.tsl true 0 3 N, .d (.int .i64 a), .d (.int .i64 st), .d (.int .i64 mid), .fn 6 []] [some (kc (A ++ (X1 ++ Y1) ++ (X2 ++ Y2) ++ Z))] = some (.d (.tup []), [some (kc (A ++ W1 ++ (X2 ++ Y2) ++ Z))])) ∧ (¬ (X1 ≠ [] ∧ Y1 ≠ []) → W1 = X1 ++ Y1) := by
      by_cases h : X1 ≠ [] ∧ Y1 ≠ []
      · obtain ⟨W, w1, w2, w3⟩ := ih A X1 Y1 (X2 ++ Y2 ++ Z) a st mid N (by simp at hk hm hb; omega) (ne _ h.1) (ne _ h.2) ha (by omega) (by simp at hm hb; omega) (by simp at hNl ⊢; omega) hn (fun x hx => hin x (by
          simp only [List.mem_append] at hx ⊢
          rcases hx with ((h | h) | h) | ((h | h) | h) <;> simp [h])) sx1 sy1
        refine ⟨W, w1, w2, fun _ => ?_, fun h' => absurd h h'⟩
        have e1 : A ++ (X1 ++ Y1) ++ (X2 ++ Y2) ++ Z = A ++ X1 ++ Y1 ++ (X2 ++ Y2 ++ Z) := by simp
        have e2 : A ++ W ++ (X2 ++ Y2) ++ Z = A ++ W ++ (X2 ++ Y2 ++ Z) := by simp
        rw [e1, e2]; exact w3
      · refine ⟨X1 ++ Y1, List.Perm.refl _, ?_, fun h' => absurd h' h, fun _ => rfl⟩
        by_cases e1 : X1 = []
        · subst e1; rw [List.nil_append]; exact sy1
        · by_cases e2 : Y1 = []
          · subst e2; rw [List.append_nil]; exact sx1
          · exact absurd ⟨e1, e2⟩ h
    obtain ⟨W1, p1, s1, c1, c1'⟩ := L
    have lw1 : W1.length = X1.length + Y1.length := by rw [p1.length_eq]; simp
    have Rr : ∃ W2 : List T, W2.Perm (X2 ++ Y2) ∧ Srt W2 ∧ ((X2 ≠ [] ∧ Y2 ≠ []) → callX XV 173 [.tsl true 0 3 N, .d (.int .i64 mid), .d (.int .i64 (m + Y1.length : Nat)), .d (.int .i64 b), .fn 6 []] [some (kc (A ++ W1 ++ (X2 ++ Y2) ++ Z))] = some (.d (.tup []), [some (kc (A ++ W1 ++ W2 ++ Z))])) ∧ (¬ (X2 ≠ [] ∧ Y2 ≠ []) → W2 = X2 ++ Y2) := by
      by_cases h : X2 ≠ [] ∧ Y2 ≠ []
      · obtain ⟨W, w1, w2, w3⟩ := ih (A ++ W1) X2 Y2 Z mid (m + Y1.length) b N (by simp at hk hm hb; omega) (ne _ h.1) (ne _ h.2) (by simp at hm hb ⊢; omega) (by simp at hm hb ⊢; omega) (by simp at hm hb ⊢; omega) (by simp at hNl ⊢; omega) hn (fun x hx => hin x (by
          simp only [List.mem_append] at hx ⊢
          rcases hx with (((h | h) | h) | h) | h
          · simp [h]
          · have := p1.mem_iff.1 h
            simp only [List.mem_append] at this
            rcases this with h | h <;> simp [h]
          · simp [h]
          · simp [h]
          · simp [h])) sx2 sy2
        refine ⟨W, w1, w2, fun _ => ?_, fun h' => absurd h h'⟩
        have e1 : A ++ W1 ++ (X2 ++ Y2) ++ Z = A ++ W1 ++ X2 ++ Y2 ++ Z := by simp
        rw [e1]; exact w3
      · refine ⟨X2 ++ Y2, List.Perm.refl _, ?_, fun h' => absurd h' h, fun _ => rfl⟩
        by_cases e1 : X2 = []
        · subst e1; rw [List.nil_append]; exact sy2
        · by_cases e2 : Y2 = []
          · subst e2; rw [List.append_nil]; exact sx2
          · exact absurd ⟨e1, e2⟩ h
    obtain ⟨W2, p2, s2, c2, c2'⟩ := Rr
    refine ⟨W1 ++ W2, ?_, List.pairwise_append.2 ⟨s1, s2, fun p hp q hq => ?_⟩, ?_⟩
    · refine (p1.append p2).trans ?_
      have := List.perm_append_comm (l₁ := Y1) (l₂ := X2)
      have h3 := ((List.Perm.refl X1).append (this.append (List.Perm.refl Y2)))
      simpa using h3
    · have h1 := p1.mem_iff.1 hp
      have h2 := p2.mem_iff.1 hq
      rcases List.mem_append.1 h1 with h1 | h1 <;> rcases List.mem_append.1 h2 with h2 | h2
      · exact sx12 p h1 q h2
      · exact F1 p h1 q h2
      · exact F2 p h1 q h2
      · exact sy12 p h1 q h2
    · have hrot : X2 ≠ [] → Y1 ≠ [] → callX XV 174 [.tsl true 0 3 N, .d (.int .i64 st), .d (.int .i64 m), .d (.int .i64 (m + Y1.length : Nat)), .fn 6 []] [some (kc (A ++ (X1 ++ X2) ++ (Y1 ++ Y2) ++ Z))] = some (.d (.tup []), [some (kc (A ++ (X1 ++ Y1) ++ (X2 ++ Y2) ++ Z))]) := fun h1 h2 => by
        have hro := rotate_eq (A ++ X1) X2 Y1 (Y2 ++ Z) st m (m + Y1.length) N (by simp; omega) (by simp at hm ⊢; omega) (by simp at hm ⊢; omega) (by simp at hNl ⊢; omega) hn (ne _ h1) (ne _ h2) (.fn 6 []) (by simp [AV.clr, AV.clrs]) (by simp [safe_fn, safes_nil])
        have e1 : A ++ (X1 ++ X2) ++ (Y1 ++ Y2) ++ Z = A ++ X1 ++ X2 ++ Y1 ++ (Y2 ++ Z) := by simp
        have e2 : A ++ (X1 ++ Y1) ++ (X2 ++ Y2) ++ Z = A ++ X1 ++ Y1 ++ X2 ++ (Y2 ++ Z) := by simp
        rw [e1, e2]; exact hro
      have hfin : A ++ (W1 ++ W2) ++ Z = A ++ W1 ++ W2 ++ Z := by simp
      rw [hfin]
      exact merge_run A X1 X2 Y1 Y2 Z W1 W2 a m b mid st N ha (by simp at hm; omega) (by simp at hb; omega) (by simp at hx1 hx; omega) (by simp at hy1 hy; omega) hmid (by omega) (by simp at hm hb; omega) hN hn (fun i j h => by
        have : i = i0 ∧ j = j0 := by
          split at h <;> split at hif <;> first | omega | skip
        rw [this.1, this.2]; exact hlo) hrot c1 c1' c2 c2'
end Go.Proofs.Ytnjgnjejkmcgmaa.VS
namespace Go.Proofs.Ytnjgnjejkmcgmaa.VS
set_option linter.unusedVariables false
set_option linter.unusedSimpArgs false
/-! ## Blocks in order -/
inductive Blk (s : Nat) : List T → Prop where
  | last (l : List T) : l.length < s → Srt l → Blk s l
  | cons (c r : List T) : c.length = s → Srt c → Blk s r → Blk s (c ++ r)
theorem Blk.srt {s : Nat} {l : List T} (h : Blk s l) (hl : l.length ≤ s) (hs : 0 < s) : Srt l := by
  cases h with
  | last _ _ h2 => exact h2
  | cons c r h1 h2 h3 =>
    have : r = [] := List.length_eq_zero_iff.1 (by simp at hl; omega)
    subst this
    rw [List.append_nil]; exact h2
theorem blocks_loop (N : Nat) (hn : N ≤ 1099511627776) : ∀ (k : Nat) (P R : List T), R.length ≤ k → (P ++ R).length = N → (∀ t, t ∈ P ++ R → t.inner ≤ 1099511627776) →
    ∃ (R1 R2 : List T) (a : Nat), R2.length < 20 ∧ a = P.length + R1.length ∧ a + R2.length = N ∧ (R1 ++ R2).Perm R ∧ (∀ Q, Blk 20 Q → Blk 20 (R1 ++ Q)) ∧
      loopX XV [] 1 [0, 1, 2, 6, 7, 8] b171_0 ⟨[(0, .tsl true 0 3 N), (1, .d (.int .i64 N)), (2, .fn 6 []), (6, .d (.int .i64 20)), (7, .d (.int .i64 P.length)), (8, .d (.int .i64 (P.length + 20 : Nat)))], [some (kc (P ++ R))]⟩ =
        some (.exit 0, ⟨[(0, .tsl true 0 3 N), (1, .d (.int .i64 N)), (2, .fn 6 []), (6, .d (.int .i64 20)), (7, .d (.int .i64 a)), (8, .d (.int .i64 (a + 20 : Nat))), (13, .d (.bool false))], [some (kc (P ++ R1 ++ R2))]⟩) := by
  have head : ∀ (x y : Int) (c : List AV), xheadOf 1 [0, 1, 2, 6, 7, 8] ⟨[(0, .tsl true 0 3 N), (1, .d (.int .i64 N)), (2, .fn 6 []), (6, .d (.int .i64 20)), (7, .d (.int .i64 x)), (8, .d (.int .i64 y))], [some c]⟩ = some ⟨[(0, .tsl true 0 3 N), (1, .d (.int .i64 N)), (2, .fn 6 []), (6, .d (.int .i64 20)), (7, .d (.int .i64 x)), (8, .d (.int .i64 y))], [some c]⟩ := fun x y c => by
    simp [xheadOf, safeRegs, safe_tsl, safe_fn, safes_nil]
  have stop : ∀ (P R : List T), (P ++ R).length = N → R.length < 20 → loopX XV [] 1 [0, 1, 2, 6, 7, 8] b171_0 ⟨[(0, .tsl true 0 3 N), (1, .d (.int .i64 N)), (2, .fn 6 []), (6, .d (.int .i64 20)), (7, .d (.int .i64 P.length)), (8, .d (.int .i64 (P.length + 20 : Nat)))], [some (kc (P ++ R))]⟩ =
        some (.exit 0, ⟨[(0, .tsl true 0 3 N), (1, .d (.int .i64 N)), (2, .fn 6 []), (6, .d (.int .i64 20)), (7, .d (.int .i64 P.length)), (8, .d (.int .i64 (P.length + 20 : Nat))), (13, .d (.bool false))], [some (kc (P ++ R))]⟩) := fun P R h1 h2 => by
    refine loopX_out (head _ _ _) ?_ (by simp)
    have hlt : ¬ (((P.length + 20 : Nat) : Int) ≤ (N : Int)) := by simp at h1; omega
    generalize ((P.length + 20 : Nat) : Int) = v at *
    generalize (N : Int) = w at *
    simp [b171_0, r171_2, hlt]
  intro k
  induction k with
  | zero =>
    intro P R hk hN hin
    exact ⟨[], R, P.length, by omega, by simp, by simpa using hN, by simp, fun Q h => by simpa using h, by simpa using stop P R hN (by omega)⟩
  | succ k ih =>
    intro P R hk hN hin
    by_cases hR : R.length < 20
    · exact ⟨[], R, P.length, hR, by simp, by simpa using hN, by simp, fun Q h => by simpa using h, by simpa using stop P R hN hR⟩
    · have hC : (R.take 20).length = 20 := by simp; omega
      have hCR : R.take 20 ++ R.drop 20 = R := List.take_append_drop _ _
      have hD : (R.drop 20).length = R.length - 20 := by simp
      generalize R.take 20 = C at hC hCR
      generalize R.drop 20 = D at hD hCR
      subst hCR
      have hNl : P.length + C.length + D.length = N := by simp at hN; omega
      have e0 : P ++ (C ++ D) = P ++ C ++ D := by simp
      obtain ⟨W, w1, w2, w3⟩ := insertSort_eq P C D P.length (P.length + 20) N rfl (by omega) (by simp; omega) hn (fun t ht => hin t (by rw [e0]; exact ht))
      have hWl : W.length = 20 := by rw [w1.length_eq, hC]
      have hPW : (P ++ W).length = P.length + 20 := by simp; omega
      obtain ⟨R1, R2, a, r1, r2, r3, r4, r5, r6⟩ := ih (P ++ W) D (by simp at hk; omega) (by simp; omega) (fun t ht => hin t (by
        simp only [List.mem_append] at ht ⊢
        rcases ht with (h | h) | h
        · simp [h]
        · simp [w1.mem_iff.1 h]
        · simp [h]))
      refine ⟨W ++ R1, R2, a, r1, by simp at r2 ⊢; omega, r3, ?_, fun Q hQ => by rw [List.append_assoc]; exact .cons W _ hWl w2 (r5 Q hQ), ?_⟩
      · rw [List.append_assoc]; exact w1.append r4
      · have e1 : P ++ (W ++ R1) ++ R2 = P ++ W ++ R1 ++ R2 := by simp
        rw [e1, ← r6, hPW, e0]
        refine loopX_go (head _ _ _) ?_
        have hle : (((P.length + 20 : Nat) : Int) ≤ (N : Int)) := by omega
        have hw : IntKind.i64.wrap (((P.length + 20 : Nat) : Int) + 20) = ((P.length + 20 + 20 : Nat) : Int) := by rw [wrap_i64 (by omega) (by omega)]; omega
        generalize kc (P ++ C ++ D) = c1 at w3 ⊢
        generalize kc (P ++ W ++ D) = c2 at w3 ⊢
        generalize ((P.length + 20 + 20 : Nat) : Int) = gv2 at *
        generalize ((P.length + 20 : Nat) : Int) = v at *
        generalize (P.length : Int) = u at *
        generalize hgn : (N : Int) = w at *
        simp [b171_0, r171_2, r171_3, r171_4, r171_5, hle, hw, w3]
theorem pass_loop (N s : Nat) (hn : N ≤ 1099511627776) (hs : 0 < s) (hs2 : s ≤ 1099511627776) : ∀ (k : Nat) (P R : List T), R.length ≤ k → (P ++ R).length = N → (∀ t, t ∈ P ++ R → t.inner ≤ 1099511627776) → Blk s R →
    ∃ (R1 R2 : List T) (a : Nat), R2.length < 2 * s ∧ a = P.length + R1.length ∧ a + R2.length = N ∧ (R1 ++ R2).Perm R ∧ Blk s R2 ∧ (∀ Q, Blk (2 * s) Q → Blk (2 * s) (R1 ++ Q)) ∧
      loopX XV [] 1 [0, 1, 2, 6, 7, 8] b171_2 ⟨[(0, .tsl true 0 3 N), (1, .d (.int .i64 N)), (2, .fn 6 []), (6, .d (.int .i64 s)), (7, .d (.int .i64 P.length)), (8, .d (.int .i64 (P.length + 2 * s : Nat)))], [some (kc (P ++ R))]⟩ =
        some (.exit 4, ⟨[(0, .tsl true 0 3 N), (1, .d (.int .i64 N)), (2, .fn 6 []), (6, .d (.int .i64 s)), (7, .d (.int .i64 a)), (8, .d (.int .i64 (a + 2 * s : Nat))), (35, .d (.bool false))], [some (kc (P ++ R1 ++ R2))]⟩) := by
  have head : ∀ (x y : Int) (c : List AV), xheadOf 1 [0, 1, 2, 6, 7, 8] ⟨[(0, .tsl true 0 3 N), (1, .d (.int .i64 N)), (2, .fn 6 []), (6, .d (.int .i64 s)), (7, .d (.int .i64 x)), (8, .d (.int .i64 y))], [some c]⟩ = some ⟨[(0, .tsl true 0 3 N), (1, .d (.int .i64 N)), (2, .fn 6 []), (6, .d (.int .i64 s)), (7, .d (.int .i64 x)), (8, .d (.int .i64 y))], [some c]⟩ := fun x y c => by
    simp [xheadOf, safeRegs, safe_tsl, safe_fn, safes_nil]
  have stop : ∀ (P R : List T), (P ++ R).length = N → R.length < 2 * s → loopX XV [] 1 [0, 1, 2, 6, 7, 8] b171_2 ⟨[(0, .tsl true 0 3 N), (1, .d (.int .i64 N)), (2, .fn 6 []), (6, .d (.int .i64 s)), (7, .d (.int .i64 P.length)), (8, .d (.int .i64 (P.length + 2 * s : Nat)))], [some (kc (P ++ R))]⟩ =
        some (.exit 4, ⟨[(0, .tsl true 0 3 N), (1, .d (.int .i64 N)), (2, .fn 6 []), (6, .d (.int .i64 s)), (7, .d (.int .i64 P.length)), (8, .d (.int .i64 (P.length + 2 * s : Nat))), (35, .d (.bool false))], [some (kc (P ++ R))]⟩) := fun P R h1 h2 => by
    refine loopX_out (head _ _ _) ?_ (by simp)
    have hlt : ¬ (((P.length + 2 * s : Nat) : Int) ≤ (N : Int)) := by simp at h1; omega
    generalize ((P.length + 2 * s : Nat) : Int) = v at *
    generalize (N : Int) = w at *
    simp [b171_2, r171_9, hlt]
  intro k
  induction k with
  | zero =>
    intro P R hk hN hin hB
    exact ⟨[], R, P.length, by omega, by simp, by simpa using hN, by simp, hB, fun Q h => by simpa using h, by simpa using stop P R hN (by omega)⟩
  | succ k ih =>
    intro P R hk hN hin hB
    by_cases hR : R.length < 2 * s
    · exact ⟨[], R, P.length, hR, by simp, by simpa using hN, by simp, hB, fun Q h => by simpa using h, by simpa using stop P R hN hR⟩
    · obtain ⟨C1, C2, D, rfl, l1, l2, b1, b2, b3⟩ : ∃ C1 C2 D, R = C1 ++ (C2 ++ D) ∧ C1.length = s ∧ C2.length = s ∧ Srt C1 ∧ Srt C2 ∧ Blk s D := by
        cases hB with
        | last _ h1 _ => omega
        | cons c r h1 h2 h3 =>
          cases h3 with
          | last _ h4 _ => simp at hR; omega
          | cons c' r' h4 h5 h6 => exact ⟨c, c', r', rfl, h1, h4, h2, h5, h6⟩
      have hNl : P.length + C1.length + C2.length + D.length = N := by simp at hN; omega
      have e0 : P ++ (C1 ++ (C2 ++ D)) = P ++ C1 ++ C2 ++ D := by simp
      obtain ⟨W, w1, w2, w3⟩ := symMerge_eq (C1.length + C2.length) P C1 C2 D P.length (P.length + s) (P.length + 2 * s) N (Nat.le_refl _) (by omega) (by omega) rfl (by omega) (by omega) (by simp; omega) hn (fun t ht => hin t (by rw [e0]; exact ht)) b1 b2
      have hWl : W.length = 2 * s := by rw [w1.length_eq]; simp; omega
      have hPW : (P ++ W).length = P.length + 2 * s := by simp; omega
      obtain ⟨R1, R2, a, r1, r2, r3, r4, r5, r6, r7⟩ := ih (P ++ W) D (by simp at hk; omega) (by simp; omega) (fun t ht => hin t (by
        simp only [List.mem_append] at ht ⊢
        rcases ht with (h | h) | h
        · simp [h]
        · have := w1.mem_iff.1 h
          simp only [List.mem_append] at this
          rcases this with h | h <;> simp [h]
        · simp [h])) b3
      refine ⟨W ++ R1, R2, a, r1, by simp at r2 ⊢; omega, r3, ?_, r5, fun Q hQ => by rw [List.append_assoc]; exact .cons W _ hWl w2 (r6 Q hQ), ?_⟩
      · rw [List.append_assoc]
        refine (w1.append r4).trans ?_
        simp
      · have e1 : P ++ (W ++ R1) ++ R2 = P ++ W ++ R1 ++ R2 := by simp
        rw [e1, ← r7, hPW, e0]
        refine loopX_go (head _ _ _) ?_
        have hle : (((P.length + 2 * s : Nat) : Int) ≤ (N : Int)) := by omega
        have hw : IntKind.i64.wrap (((P.length + 2 * s : Nat) : Int) + ((2 * s : Nat) : Int)) = ((P.length + 2 * s + 2 * s : Nat) : Int) := by rw [wrap_i64 (by omega) (by omega)]; omega
        have hw2 : IntKind.i64.wrap (2 * (s : Int)) = ((2 * s : Nat) : Int) := by rw [wrap_i64 (by omega) (by omega)]; omega
        have hw3 : IntKind.i64.wrap ((P.length : Int) + s) = ((P.length + s : Nat) : Int) := by rw [wrap_i64 (by omega) (by omega)]; omega
        generalize kc (P ++ C1 ++ C2 ++ D) = c1 at w3 ⊢
        generalize kc (P ++ W ++ D) = c2 at w3 ⊢
        generalize ((P.length + 2 * s + 2 * s : Nat) : Int) = gv2 at *
        generalize ((P.length + 2 * s : Nat) : Int) = v at *
        generalize ((P.length + s : Nat) : Int) = gv3 at *
        generalize ((2 * s : Nat) : Int) = gv4 at *
        generalize (P.length : Int) = u at *
        generalize (s : Int) = gs at *
        generalize hgn : (N : Int) = w at *
        simp [b171_2, r171_9, r171_10, r171_11, r171_12, hle, hw, hw2, hw3, w3]
end Go.Proofs.Ytnjgnjejkmcgmaa.VS
namespace Go.Proofs.Ytnjgnjejkmcgmaa.VS
set_option linter.unusedVariables false
set_option linter.unusedSimpArgs false
theorem outer_loop (N : Nat) (hn : N ≤ 1099511627776) : ∀ (k s : Nat) (l : List T), N - s ≤ k → 0 < s → s ≤ 2199023255552 → l.length = N → (∀ t, t ∈ l → t.inner ≤ 1099511627776) → Blk s l →
    ∃ (l' : List T) (s' : Nat), l'.Perm l ∧ Srt l' ∧
      loopX XV [] 1 [0, 1, 2, 6] b171_1 ⟨[(0, .tsl true 0 3 N), (1, .d (.int .i64 N)), (2, .fn 6 []), (6, .d (.int .i64 s))], [some (kc l)]⟩ =
        some (.exit 2, ⟨[(0, .tsl true 0 3 N), (1, .d (.int .i64 N)), (2, .fn 6 []), (6, .d (.int .i64 s')), (30, .d (.bool false))], [some (kc l')]⟩) := by
  have head : ∀ (x : Int) (c : List AV), xheadOf 1 [0, 1, 2, 6] ⟨[(0, .tsl true 0 3 N), (1, .d (.int .i64 N)), (2, .fn 6 []), (6, .d (.int .i64 x))], [some c]⟩ = some ⟨[(0, .tsl true 0 3 N), (1, .d (.int .i64 N)), (2, .fn 6 []), (6, .d (.int .i64 x))], [some c]⟩ := fun x c => by
    simp [xheadOf, safeRegs, safe_tsl, safe_fn, safes_nil]
  have stop : ∀ (s : Nat) (l : List T), 0 < s → N ≤ s → l.length = N → Blk s l → ∃ (l' : List T) (s' : Nat), l'.Perm l ∧ Srt l' ∧
      loopX XV [] 1 [0, 1, 2, 6] b171_1 ⟨[(0, .tsl true 0 3 N), (1, .d (.int .i64 N)), (2, .fn 6 []), (6, .d (.int .i64 s))], [some (kc l)]⟩ =
        some (.exit 2, ⟨[(0, .tsl true 0 3 N), (1, .d (.int .i64 N)), (2, .fn 6 []), (6, .d (.int .i64 s')), (30, .d (.bool false))], [some (kc l')]⟩) := fun s l hs h1 h2 h3 => by
    refine ⟨l, s, List.Perm.refl _, h3.srt (by omega) hs, ?_⟩
    refine loopX_out (head _ _) ?_ (by simp)
    have hlt : ¬ ((s : Int) < (N : Int)) := by omega
    generalize (s : Int) = v at *
    generalize (N : Int) = w at *
    simp [b171_1, r171_7, hlt]
  intro k
  induction k with
  | zero => intro s l hk hs hs2 hl hin hB; exact stop s l hs (by omega) hl hB
  | succ k ih =>
    intro s l hk hs hs2 hl hin hB
    by_cases hsN : N ≤ s
    · exact stop s l hs hsN hl hB
    obtain ⟨R1, R2, a, r1, r2, r3, r4, r5, r6, r7⟩ := pass_loop N s hn hs (by omega) l.length [] l (Nat.le_refl _) (by simpa using hl) (by simpa using hin) hB
    simp only [List.nil_append, List.length_nil, Nat.zero_add] at r2 r7
    have hin2 : ∀ t, t ∈ R1 ++ R2 → t.inner ≤ 1099511627776 := fun t ht => hin t (r4.mem_iff.1 ht)
    have hlen : R1.length + R2.length = N := by omega
    obtain ⟨W, w1, w2, w3⟩ : ∃ W : List T, W.Perm R2 ∧ Srt W ∧ ((((a + s : Nat) : Int) < (N : Int) ∧ callX XV 173 [.tsl true 0 3 N, .d (.int .i64 a), .d (.int .i64 (a + s : Nat)), .d (.int .i64 N), .fn 6 []] [some (kc (R1 ++ R2))] = some (.d (.tup []), [some (kc (R1 ++ W))])) ∨ (¬ ((a + s : Nat) : Int) < (N : Int) ∧ W = R2)) := by
      by_cases h : a + s < N
      · obtain ⟨C, D, rfl, l1, b1, b2⟩ : ∃ C D, R2 = C ++ D ∧ C.length = s ∧ Srt C ∧ Blk s D := by
          cases r5 with
          | last _ h1 _ => omega
          | cons c r h1 h2 h3 => exact ⟨c, r, rfl, h1, h2, h3⟩
        have hDl : D.length < s := by simp at r1; omega
        have hDl2 : a + (s + D.length) = N := by simp at r3; omega
        obtain ⟨W, w1, w2, w3⟩ := symMerge_eq (C.length + D.length) R1 C D [] a (a + s) N N (Nat.le_refl _) (by omega) (by omega) r2 (by omega) (by omega) (by simp; omega) hn (fun t ht => hin2 t (by simpa using ht)) b1 (b2.srt (by omega) hs)
        refine ⟨W, w1, w2, .inl ⟨by omega, ?_⟩⟩
        have e1 : R1 ++ (C ++ D) = R1 ++ C ++ D ++ [] := by simp
        have e2 : R1 ++ W = R1 ++ W ++ [] := by simp
        rw [e1, e2]; exact w3
      · exact ⟨R2, List.Perm.refl _, r5.srt (by omega) hs, .inr ⟨by omega, rfl⟩⟩
    have hWl : W.length = R2.length := w1.length_eq
    have hB2 : Blk (2 * s) (R1 ++ W) := r6 W (.last W (by omega) w2)
    obtain ⟨l', s', p1, p2, p3⟩ := ih (2 * s) (R1 ++ W) (by omega) (by omega) (by omega) (by simp; omega) (fun t ht => hin2 t (by
      rcases List.mem_append.1 ht with h | h
      · simp [h]
      · simp [w1.mem_iff.1 h])) hB2
    refine ⟨l', s', p1.trans ((List.Perm.refl R1).append w1 |>.trans r4), p2, ?_⟩
    rw [← p3]
    refine loopX_go (head _ _) ?_
    have hlt : ((s : Int) < (N : Int)) := by omega
    have hw2 : IntKind.i64.wrap (2 * (s : Int)) = ((2 * s : Nat) : Int) := by rw [wrap_i64 (by omega) (by omega)]; omega
    have hw2' : IntKind.i64.wrap ((s : Int) * 2) = ((2 * s : Nat) : Int) := by rw [wrap_i64 (by omega) (by omega)]; omega
    have hw3 : IntKind.i64.wrap ((a : Int) + s) = ((a + s : Nat) : Int) := by rw [wrap_i64 (by omega) (by omega)]; omega
    simp only [Int.natCast_zero] at r7
    rcases w3 with ⟨g1, g2⟩ | ⟨g1, rfl⟩
    · generalize kc (R1 ++ W) = c3 at *
      generalize kc (R1 ++ R2) = c2 at *
      generalize kc l = c1 at *
      generalize ((a + 2 * s : Nat) : Int) = gv1 at *
      generalize ((a + s : Nat) : Int) = gv3 at *
      generalize ((2 * s : Nat) : Int) = gv4 at *
      generalize (a : Int) = ga at *
      generalize (s : Int) = gs at *
      generalize hgn : (N : Int) = w at *
      simp [b171_1, r171_7, r171_8, r171_13, r171_14, r171_15, r171_16, hlt, hw2, hw2', hw3]
      rw [r7]
      simp [r171_13, r171_14, r171_15, r171_16, hw2', hw3, g1, g2]
    · generalize kc (R1 ++ W) = c2 at *
      generalize kc l = c1 at *
      generalize ((a + 2 * s : Nat) : Int) = gv1 at *
      generalize ((a + s : Nat) : Int) = gv3 at *
      generalize ((2 * s : Nat) : Int) = gv4 at *
      generalize (a : Int) = ga at *
      generalize (s : Int) = gs at *
      generalize hgn : (N : Int) = w at *
      simp [b171_1, r171_7, r171_8, r171_13, r171_14, r171_15, r171_16, hlt, hw2, hw2', hw3]
      rw [r7]
      simp [r171_13, r171_14, r171_15, r171_16, hw2', hw3, g1]
theorem stable_eq (l : List T) (hn : l.length ≤ 1099511627776) (hin : ∀ t, t ∈ l → t.inner ≤ 1099511627776) :
    ∃ l' : List T, l'.Perm l ∧ Srt l' ∧ callX XV 171 [.tsl true 0 3 l.length, .d (.int .i64 l.length), .fn 6 []] [some (kc l)] = some (.d (.tup []), [some (kc l')]) := by
  obtain ⟨R1, R2, a, r1, r2, r3, r4, r5, r6⟩ := blocks_loop l.length hn l.length [] l (Nat.le_refl _) (by simp) (by simpa using hin)
  simp only [List.nil_append, List.length_nil, Nat.zero_add] at r2 r6
  have hin2 : ∀ t, t ∈ R1 ++ R2 → t.inner ≤ 1099511627776 := fun t ht => hin t (r4.mem_iff.1 ht)
  obtain ⟨W, w1, w2, w3⟩ := insertSort_eq R1 R2 [] a l.length l.length r2 (by omega) (by simp; omega) hn (fun t ht => hin2 t (by simpa using ht))
  simp only [List.append_nil] at w3
  have hWl : W.length = R2.length := w1.length_eq
  have hB : Blk 20 (R1 ++ W) := r5 W (.last W (by omega) w2)
  obtain ⟨l', s', p1, p2, p3⟩ := outer_loop l.length hn l.length 20 (R1 ++ W) (by omega) (by omega) (by omega) (by simp; omega) (fun t ht => hin2 t (by
    rcases List.mem_append.1 ht with h | h
    · simp [h]
    · simp [w1.mem_iff.1 h])) hB
  refine ⟨l', p1.trans ((List.Perm.refl R1).append w1 |>.trans r4), p2, ?_⟩
  rw [z_call XV _ _ _ v171 rfl xcode_171 rfl]
  simp only [Int.natCast_zero, show ((20 : Nat) : Int) = 20 from rfl] at r6 p3
  generalize kc (R1 ++ W) = c3 at *
  generalize kc (R1 ++ R2) = c2 at *
  generalize kc l = c1 at *
  generalize kc l' = c4 at *
  generalize ((a + 20 : Nat) : Int) = gv1 at *
  generalize (a : Int) = ga at *
  generalize hgn : (l.length : Int) = w at *
  simp [v171, r171_0, r171_1]
  rw [r6]
  simp [r171_6, w3]
  rw [p3]
  simp
theorem sortStable_eq (l : List T) (hn : l.length ≤ 1099511627776) (hin : ∀ t, t ∈ l → t.inner ≤ 1099511627776) :
    ∃ l' : List T, l'.Perm l ∧ Srt l' ∧ callX XV 170 [.tsl true 0 3 l.length, .fn 6 []] [some (kc l)] = some (.d (.tup []), [some (kc l')]) := by
  obtain ⟨l', h1, h2, h3⟩ := stable_eq l hn hin
  refine ⟨l', h1, h2, ?_⟩
  rw [z_call XV _ _ _ v170 rfl xcode_170 rfl]
  generalize kc l' = c2 at *
  generalize kc l = c1 at *
  simp [v170, r170_0, h3]
end Go.Proofs.Ytnjgnjejkmcgmaa.VS
namespace Go.Proofs.Ytnjgnjejkmcgmaa.VS
set_option linter.unusedVariables false
set_option linter.unusedSimpArgs false
mutual
theorem allU_enc : ∀ t : T, (t.enc U).allU = true
  | .node f v ks => by
    have := allUs_encs ks
    unfold T.enc
    cases ks with
    | nil => simp [T.encs, DV.allU, DV.allUs]
    | cons a r => simp only [T.encs] at this ⊢; simp [DV.allU, DV.allUs] at this ⊢; exact this
theorem allUs_encs : ∀ l : List T, DV.allUs (T.encs U l) = true
  | [] => by simp [T.encs, DV.allUs]
  | t :: r => by simp [T.encs, DV.allUs, allU_enc t, allUs_encs r]
end
end Go.Proofs.Ytnjgnjejkmcgmaa.VS
namespace Go.Proofs.Ytnjgnjejkmcgmaa.VS
set_option linter.unusedVariables false
set_option linter.unusedSimpArgs false
theorem allU_row : ∀ l : List T, DV.allUs (l.map (T.enc U)) = true := fun l => by rw [← T.encs_map]; exact allUs_encs l
def nB (f v : Int) (ks : List T) : Boxs := [some [.d (.int .i64 f), .d (.int .i64 v), .d (terms .sub ks)], some [.d (.int .i64 0), .d (.int .i64 0), .d (.sl U [])]]
theorem kid169 (s : List SymL) (hs : s.length ≤ 1099511627776) (f v : Int) (ks acc : List T) (hl : ks.length ≤ 1099511627776) (i : Nat) (hi : i < ks.length) (hacc : acc.length ≤ 1099511627776) (hk : ((tAt ks i).norm s).kids.length ≤ 1099511627776)
    (hc : callX XV 169 [.d (sg s), .d ((tAt ks i).enc .sub)] [] = some (.d (((tAt ks i).norm s).enc U), [])) :
    ∃ e : Boxs, codeX XV (XV.lin 169) b169_0 ⟨[(0, .d (sg s)), (3, .ptr 0 0), (4, .ptr 1 0), (5, .d (.sl U (acc.map (T.enc U)))), (10, .d (terms .sub ks)), (11, .d (.int .i64 ks.length)), (12, .d (.int .i64 i))], nB f v ks⟩ =
      some (.normal, ⟨[(0, .d (sg s)), (3, .ptr 0 0), (4, .ptr 1 0), (5, .d (.sl U ((acc ++ appK s f ((tAt ks i).norm s)).map (T.enc U)))), (10, .d (terms .sub ks)), (11, .d (.int .i64 ks.length)), (12, .d (.int .i64 (i + 1 : Nat)))], nB f v ks ++ e⟩) := by
  have hw := wrap_succ (n := i) (by omega)
  have hb := implBlind_eq s hs f
  have ht := tAt_lt hi
  generalize tAt ks i = k at *
  generalize hn : k.norm s = n at *
  unfold appK nB
  by_cases h1 : blindB s f = true
  · by_cases h2 : (n.f == f) = true
    · have ha := app_terms acc n.kids U (by omega)
      generalize hl2 : (acc ++ n.kids).map (T.enc U) = l2 at ha
      generalize acc.map (T.enc U) = l1 at ha ⊢
      refine ⟨[some [.d (.int .i64 n.f), .d (.int .i64 n.v), .d (terms .sub n.kids)]], ?_⟩
      simp [b169_0, r169_0, r169_1, r169_2, r169_3, r169_4, r169_5, r169_6, r169_7, r169_8, r169_9, r169_10, r169_11, r169_12, r169_13, hi, hw, cut, ht, hc, hb, h1, h2, ha, hl2, splice, isCell_int, isCell_sl, isCellA_d, safe_d, loadBox, AV.clrs_map]
    · have ha := app_terms acc [n] U (by simp; omega)
      have h2' : (n.f == f) = false := by simpa using h2
      simp only [List.map_cons, List.map_nil] at ha
      generalize hl2 : (acc ++ [n]).map (T.enc U) = l2 at ha
      generalize acc.map (T.enc U) = l1 at ha ⊢
      refine ⟨[some [.d (.int .i64 n.f), .d (.int .i64 n.v), .d (terms .sub n.kids)]], ?_⟩
      simp [b169_0, r169_0, r169_1, r169_2, r169_3, r169_4, r169_5, r169_6, r169_7, r169_8, r169_9, r169_10, r169_11, r169_12, r169_13, hi, hw, cut, ht, hc, hb, h1, h2', ha, hl2, splice, isCell_int, isCell_sl, isCellA_d, safe_d, loadBox, AV.clrs_map]
  · have h1' : blindB s f = false := by simpa using h1
    have ha := app_terms acc [n] U (by simp; omega)
    simp only [List.map_cons, List.map_nil] at ha
    generalize hl2 : (acc ++ [n]).map (T.enc U) = l2 at ha
    generalize acc.map (T.enc U) = l1 at ha ⊢
    refine ⟨[some [.d (.int .i64 n.f), .d (.int .i64 n.v), .d (terms .sub n.kids)]], ?_⟩
    simp [b169_0, r169_0, r169_1, r169_2, r169_3, r169_4, r169_5, r169_6, r169_7, r169_8, r169_9, r169_10, r169_11, r169_12, r169_13, hi, hw, cut, ht, hc, hb, h1', ha, hl2, splice, isCell_int, isCell_sl, isCellA_d, safe_d, loadBox, AV.clrs_map]
end Go.Proofs.Ytnjgnjejkmcgmaa.VS
namespace Go.Proofs.Ytnjgnjejkmcgmaa.VS
set_option linter.unusedVariables false
set_option linter.unusedSimpArgs false
theorem insert_nil (B : Boxs) : callX XV 172 [.d (.sl .sub []), .d (.int .i64 0), .d (.int .i64 0), .fn 6 []] B = some (.d (.tup []), B) := by
  rw [z_call XV _ _ _ v172 rfl xcode_172 rfl]
  have hlo : loopX XV [46, 50] B.length [0, 1, 2, 3, 8] b172_0 ⟨[(0, .d (.sl .sub [])), (1, .d (.int .i64 0)), (2, .d (.int .i64 0)), (3, .fn 6 []), (8, .d (.int .i64 1))], B⟩ = some (.exit 0, ⟨[(0, .d (.sl .sub [])), (1, .d (.int .i64 0)), (2, .d (.int .i64 0)), (3, .fn 6 []), (8, .d (.int .i64 1)), (14, .d (.bool false))], B⟩) := by
    refine loopX_out (s0 := ⟨[(0, .d (.sl .sub [])), (1, .d (.int .i64 0)), (2, .d (.int .i64 0)), (3, .fn 6 []), (8, .d (.int .i64 1))], B⟩) (by simp [xheadOf, safeRegs, safe_tsl, safe_fn, safes_nil]) ?_ (by simp)
    simp [b172_0, r172_1]
  simp [v172, r172_0, wrap_i64]
  rw [hlo]
  simp
theorem sort_nil (B : Boxs) : callX XV 170 [.d (.sl .sub []), .fn 6 []] B = some (.d (.tup []), B) := by
  have hi := insert_nil B
  have h1 : loopX XV [] B.length [0, 1, 2, 6, 7, 8] b171_0 ⟨[(0, .d (.sl .sub [])), (1, .d (.int .i64 0)), (2, .fn 6 []), (6, .d (.int .i64 20)), (7, .d (.int .i64 0)), (8, .d (.int .i64 20))], B⟩ = some (.exit 0, ⟨[(0, .d (.sl .sub [])), (1, .d (.int .i64 0)), (2, .fn 6 []), (6, .d (.int .i64 20)), (7, .d (.int .i64 0)), (8, .d (.int .i64 20)), (13, .d (.bool false))], B⟩) := by
    refine loopX_out (s0 := ⟨[(0, .d (.sl .sub [])), (1, .d (.int .i64 0)), (2, .fn 6 []), (6, .d (.int .i64 20)), (7, .d (.int .i64 0)), (8, .d (.int .i64 20))], B⟩) (by simp [xheadOf, safeRegs, safe_tsl, safe_fn, safes_nil]) ?_ (by simp)
    simp [b171_0, r171_2]
  have h2 : loopX XV [] B.length [0, 1, 2, 6] b171_1 ⟨[(0, .d (.sl .sub [])), (1, .d (.int .i64 0)), (2, .fn 6 []), (6, .d (.int .i64 20))], B⟩ = some (.exit 2, ⟨[(0, .d (.sl .sub [])), (1, .d (.int .i64 0)), (2, .fn 6 []), (6, .d (.int .i64 20)), (30, .d (.bool false))], B⟩) := by
    refine loopX_out (s0 := ⟨[(0, .d (.sl .sub [])), (1, .d (.int .i64 0)), (2, .fn 6 []), (6, .d (.int .i64 20))], B⟩) (by simp [xheadOf, safeRegs, safe_tsl, safe_fn, safes_nil]) ?_ (by simp)
    simp [b171_1, r171_7]
  have h3 : callX XV 171 [.d (.sl .sub []), .d (.int .i64 0), .fn 6 []] B = some (.d (.tup []), B) := by
    rw [z_call XV _ _ _ v171 rfl xcode_171 rfl]
    simp [v171, r171_0, r171_1]
    rw [h1]
    simp [r171_6, hi]
    rw [h2]
    simp
  rw [z_call XV _ _ _ v170 rfl xcode_170 rfl]
  simp [v170, r170_0, h3]
end Go.Proofs.Ytnjgnjejkmcgmaa.VS
namespace Go.Proofs.Ytnjgnjejkmcgmaa.VS
set_option linter.unusedVariables false
set_option linter.unusedSimpArgs false
theorem loop169 (s : List SymL) (hs : s.length ≤ 1099511627776) (f v : Int) (ks : List T) (hl : cnts ks ≤ 1099511627776)
    (hc : ∀ t, t ∈ ks → callX XV 169 [.d (sg s), .d (t.enc .sub)] [] = some (.d ((t.norm s).enc U), [])) : ∀ (k i : Nat), i + k = ks.length → ∀ e : Boxs,
    loopX XV (XV.lin 169) 2 [0, 3, 4, 5, 10, 11, 12] b169_0 ⟨[(0, .d (sg s)), (3, .ptr 0 0), (4, .ptr 1 0), (5, .d (.sl U ((accK s f ks i).map (T.enc U)))), (10, .d (terms .sub ks)), (11, .d (.int .i64 ks.length)), (12, .d (.int .i64 i))], nB f v ks ++ e⟩ =
      some (.exit 0, ⟨[(0, .d (sg s)), (3, .ptr 0 0), (4, .ptr 1 0), (5, .d (.sl U ((flatK s f (T.norms s ks)).map (T.enc U)))), (10, .d (terms .sub ks)), (11, .d (.int .i64 ks.length)), (12, .d (.int .i64 ks.length)), (13, .d (.bool false))], nB f v ks⟩) := by
  have head : ∀ (x y : AV) (e : Boxs), y.clr = y → x.safe 2 = true → y.safe 2 = true → xheadOf 2 [0, 3, 4, 5, 10, 11, 12] ⟨[(0, .d (sg s)), (3, .ptr 0 0), (4, .ptr 1 0), (5, x), (10, .d (terms .sub ks)), (11, .d (.int .i64 ks.length)), (12, y)], nB f v ks ++ e⟩ = some ⟨[(0, .d (sg s)), (3, .ptr 0 0), (4, .ptr 1 0), (5, x), (10, .d (terms .sub ks)), (11, .d (.int .i64 ks.length)), (12, y)], nB f v ks⟩ := fun x y e hy hx hy2 =>
    head_cut (by simp) (by simp [safeRegs, hx, hy2]) (by simp [nB]) rfl
  intro k
  induction k with
  | zero =>
    intro i hi e
    have : i = ks.length := by omega
    subst this
    refine loopX_out (head _ _ e (by simp) (by simp) (by simp)) ?_ (by simp)
    rw [accK_all]
    simp [b169_0, r169_0, r169_1, r169_2, r169_3, r169_4, r169_5, r169_6, r169_7, r169_8, r169_9, r169_10, r169_11, r169_12, r169_13]
  | succ k ih =>
    intro i hi e
    have hlt : i < ks.length := by omega
    have hm := tAt_mem hlt
    have h1 := mem_inner hm
    have h2 := inner_norm s (tAt ks i)
    have h3 := accK_cnts s f ks i
    have h4 := len_cnts (accK s f ks i)
    have h5 : ((tAt ks i).norm s).kids.length ≤ 1099511627776 := by have := len_cnts ((tAt ks i).norm s).kids; rw [cnts_kids] at this; omega
    obtain ⟨e', he⟩ := kid169 s hs f v ks (accK s f ks i) (by have := len_cnts ks; omega) i hlt (by omega) h5 (hc _ hm)
    rw [← ih (i + 1) (by omega) e', accK_succ s f ks i hlt]
    exact loopX_go (head _ _ e (by simp) (by simp) (by simp)) he
theorem pre169 (s : List SymL) (hs : s.length ≤ 1099511627776) (f v : Int) (ks : List T) (hl : cnts ks ≤ 1099511627776)
    (hc : ∀ t, t ∈ ks → callX XV 169 [.d (sg s), .d (t.enc .sub)] [] = some (.d ((t.norm s).enc U), [])) :
    codeX XV (XV.lin 169) s169.pre ⟨argRegs 0 [.d (sg s), .d ((T.node f v ks).enc .sub)], []⟩ =
      some (.normal, ⟨[(3, .ptr 0 0), (4, .ptr 1 0), (5, .d (.sl U ((flatK s f (T.norms s ks)).map (T.enc U)))), (42, .d (.bool (blindB s f)))], nB f v ks⟩) := by
  have hloop := loop169 s hs f v ks hl hc ks.length 0 (by omega) []
  have hb := implBlind_eq s hs f
  simp only [accK_zero, List.map_nil, List.append_nil, lin_169, nB, Int.natCast_zero] at hloop
  simp [s169, specSF, r169_0, r169_1, r169_2, r169_10, splice, isCell_int, isCell_sl, isCellA_d, safe_d, loadBox, AV.clrs_map, nB]
  rw [hloop]
  simp [r169_10, hb, loadBox]
theorem kc_cells : ∀ l : List T, ((l.map (T.enc U)).flatMap DV.cells).map AV.d = kc l := fun l => by rw [kc_row]; rfl
theorem sort_row (t : T) (r : List T) (hl : cnts (t :: r) ≤ 1099511627776) : xsort (callX XV) s169 (t.enc U) (r.map (T.enc U)) = some ((isort (t :: r)).map (T.enc U)) := by
  have hlen := len_cnts (t :: r)
  obtain ⟨l', p1, p2, p3⟩ := sortStable_eq (t :: r) (by omega) (fun x hx => by have := mem_inner hx; omega)
  have he := isort_eq p1 p2
  have hu := allU_row (t :: r)
  have hk := kc_cells (t :: r)
  simp only [List.map_cons] at hu hk
  unfold xsort
  rw [if_pos hu, hk]
  have e1 : (T.enc U t).cells.length = 3 := by simp
  have e2 : (r.map (T.enc U)).length + 1 = (t :: r).length := by simp
  rw [e1, e2]
  have e3 : callX XV s169.srt [.tsl true 0 3 (t :: r).length, .fn s169.cmp []] [some (kc (t :: r))] = some (.d (.tup []), [some (kc l')]) := p3
  rw [e3]
  have hll : l'.length = (t :: r).length := p1.length_eq
  have e4 : datas (kc l') = some (flat (l'.map (T.enc U))) := by rw [kc_row]; exact datas_row _
  have e5 := chunks_row (l'.map (T.enc U)) (encs_ok U l')
  have e6 : (flat (l'.map (T.enc U))).length = (t :: r).length * 3 := by
    have := datas_some e4
    have h2 := kc_len l'
    rw [this, List.length_map] at h2
    rw [h2, hll]
  simp only [e4, Option.bind_some]
  rw [if_pos e6, ← hll]
  rw [List.length_map] at e5
  rw [e5, he]
theorem specX_sorted {X : XEnv} {T : List Nat} {sf : SFn} {ds : List DV} {S : XS} {x : DV} {xr : List DV} {y : DV × DV} {q : List DV} (hn : ds.length = sf.np) (hp : codeX X T sf.pre ⟨argRegs 0 (ds.map .d), []⟩ = some (.normal, S))
    (h1 : lk S.r sf.cond = some (.d (.bool true))) (h2 : lk S.r sf.row = some (.d (.sl U (x :: xr)))) (h3 : xspecAt S = some y) (h4 : xsort (callX X) sf x xr = some q) : specX X T sf ds = some (.agg [y.1, y.2, .sl U q]) := by
  unfold specX
  rw [if_neg (by simpa using hn), hp]
  simp only [Option.bind_some]
  rw [h1, h2]
  simp only [U]
  rw [h3]
  simp only [Option.bind_some, h4, Option.map_some]
theorem implNorm_of (s : List SymL) (hs : s.length ≤ 1099511627776) (f v : Int) (ks : List T) (hl : cnts ks ≤ 1099511627776)
    (hc : ∀ t, t ∈ ks → callX XV 169 [.d (sg s), .d (t.enc .sub)] [] = some (.d ((t.norm s).enc U), [])) :
    callX XV 169 [.d (sg s), .d ((T.node f v ks).enc .sub)] [] = some (.d (((T.node f v ks).norm s).enc U), []) := by
  have hp := pre169 s hs f v ks hl hc
  have hcn : cnts (flatK s f (T.norms s ks)) ≤ 1099511627776 := by
    have := cnts_flatK s f (T.norms s ks); have := cnts_norms s ks; omega
  rw [callX_spec XV 169 _ _ s169 rfl xnone_169 xspec_169]
  simp only [datas, Option.bind_some, Option.map_some]
  have slow : specX XV (XV.lin 169) s169 [sg s, (T.node f v ks).enc .sub] = specX XV (XV.lin 169) s169 [sg s, (T.node f v ks).enc .sub] := rfl
  conv at slow => rhs; unfold specX
  rw [if_neg (by simp [s169, specSF])] at slow
  simp only [List.map_cons, List.map_nil] at slow
  rw [hp] at slow
  simp only [T.norm]
  by_cases hb : blindB s f = true
  · rw [if_pos hb]
    cases hq : flatK s f (T.norms s ks) with
    | nil =>
      rw [slow]
      have hz : isort ([] : List T) = [] := rfl
      have hsn := sort_nil (nB f v ks)
      simp only [nB] at hsn
      simp [s169, specSF, hb, hq, lk, nB, hz, hsn, splice, isCell_int, isCell_sl, isCellA_d, safe_d, loadBox]
      rw [T.enc_eq]; rfl
    | cons x r =>
      rw [hq] at hcn
      have hr := sort_row x r hcn
      have := specX_sorted (X := XV) (T := XV.lin 169) (sf := s169) (ds := [sg s, (T.node f v ks).enc .sub]) (x := x.enc U) (xr := r.map (T.enc U)) (y := (.int .i64 f, .int .i64 v)) rfl hp (by simp [s169, specSF, lk, hb]) (by simp [s169, specSF, lk, hq]) (by simp [xspecAt, lk, nB, DV.flat, isCell_int]) hr
      rw [this]
      simp only [Option.map_some]
      rw [T.enc_eq]
      rfl
  · rw [if_neg hb, slow]
    have hb' : blindB s f = false := by simpa using hb
    simp [s169, specSF, hb', lk, nB, splice, isCell_int, isCell_sl, isCellA_d, safe_d, loadBox]
theorem implNorm_eq (s : List SymL) (hs : s.length ≤ 1099511627776) (t : T) (ht : t.inner ≤ 1099511627776) : callX XV 169 [.d (sg s), .d (t.enc .sub)] [] = some (.d ((t.norm s).enc U), []) := by
  match t, ht with
  | .node f v ks, ht =>
    rw [T.inner_node] at ht
    exact implNorm_of s hs f v ks ht fun x hx => implNorm_eq s hs x (by have := mem_inner hx; omega)
termination_by t
decreasing_by
  simp_wf
  have := List.sizeOf_lt_of_mem hx
  omega
end Go.Proofs.Ytnjgnjejkmcgmaa.VS
namespace Go.Proofs.Ytnjgnjejkmcgmaa.VS
set_option linter.unusedVariables false
set_option linter.unusedSimpArgs false
theorem app_subs (a c : List T) (g : Tag) (h : (a.length + c.length) * 40 ≤ 140737488355328) : xappend 3 40 (.sl U (a.map (T.enc .sub))) (.sl g (c.map (T.enc .sub))) = some (.sl U ((a ++ c).map (T.enc .sub))) := by
  have h1 : (c.map (T.enc .sub)).all (fun e => decide (e.cells.length = 3 ∧ e.cells.all DV.isCell = true)) = true := by
    simp [isCell_int, isCell_sl]
  have h2 : (a.map (T.enc .sub)).all (fun e => decide (e.cells.length = 3)) = true := by simp
  unfold xappend
  simp only
  rw [if_pos h1]
  cases c with
  | nil => simp
  | cons x r =>
    simp only [List.map_cons, List.isEmpty_cons, Bool.false_eq_true, if_false]
    rw [if_pos ⟨by simpa using h, trivial, h2⟩]
    simp
def putAt (t : T) (l : List T) : Nat := match findAt (fun i => decide (T.cmp t (tAt l i) < 0)) l.length 0 with
  | some j => j
  | none => l.length
theorem findAt_both (q : Nat → Bool) : ∀ (k i : Nat), (∀ j, findAt q k i = some j → ∀ m, i ≤ m → m < j → q m = false) ∧ (findAt q k i = none → ∀ m, i ≤ m → m < i + k → q m = false)
  | 0, i => ⟨fun j h => by simp [findAt] at h, fun _ m h1 h2 => by omega⟩
  | k + 1, i => by
    have ih := findAt_both q k (i + 1)
    simp only [findAt]
    by_cases h : q i = true
    · simp only [h, if_true]
      exact ⟨fun j hj m h1 h2 => by simp at hj; omega, fun h => by simp at h⟩
    · simp only [h, Bool.false_eq_true, if_false]
      refine ⟨fun j hj m h1 h2 => ?_, fun hn m h1 h2 => ?_⟩
      · by_cases e : m = i
        · subst e; simpa using h
        · exact ih.1 j hj m (by omega) h2
      · by_cases e : m = i
        · subst e; simpa using h
        · exact ih.2 hn m (by omega) (by omega)
theorem putAt_le (t : T) (l : List T) : putAt t l ≤ l.length := by
  unfold putAt
  split
  · rename_i j h; have := (findAt_lt _ _ _ _ h).2.1; omega
  · omega
theorem putAt_ins (t : T) (l : List T) : ins t l = l.take (putAt t l) ++ t :: l.drop (putAt t l) := by
  have h := findAt_both (fun i => decide (T.cmp t (tAt l i) < 0)) l.length 0
  refine ins_at t l _ (putAt_le t l) (fun i hi => ?_) (fun hlt => ?_)
  · unfold putAt at hi
    split at hi
    · rename_i j hj
      simpa using h.1 j hj i (by omega) hi
    · rename_i hn
      simpa using h.2 hn i (by omega) (by omega)
  · unfold putAt at hlt ⊢
    split
    · rename_i j hj
      simpa using (findAt_lt _ _ _ _ hj).2.2
    · rename_i hn; rw [hn] at hlt; simp at hlt
theorem l4Put_eq (l : List T) (t : T) (hl : cnts l ≤ 1099511627776) (ht : t.inner ≤ 1099511627776) : callX XV 154 [.d (terms .sub l), .d (t.enc .sub)] [] = some (.d (.sl U ((ins t l).map (T.enc .sub))), []) := by
  have hlen := len_cnts l
  have hlt := putAt_le t l
  have hb : ∀ i, i < l.length → callX XV 84 [.d (t.enc .sub), .d ((tAt l i).enc .sub)] [] = some (.d (.bool (decide (T.cmp t (tAt l i) < 0))), []) := fun i hi => specBefore_eq t (tAt l i) ht (by have := mem_inner (tAt_mem hi); omega)
  rw [z_call XV _ _ _ v154 rfl xcode_154 rfl]
  have h := loopX_upto (X := XV) (T := XV.lin 154) (L := 1) (live := [0, 3, 5]) (b := b154_0) (n := l.length) (st := fun (_ : Unit) i => ⟨[(0, .d (terms .sub l)), (3, .ptr 0 0), (5, .d (.int .i64 i))], [some [.d (.int .i64 t.f), .d (.int .i64 t.v), .d (terms .sub t.kids)]]⟩) (step := stepF fun i => decide (T.cmp t (tAt l i) < 0))
    (F := fun _ => (.exit 0, ⟨[(0, .d (terms .sub l)), (3, .ptr 0 0), (5, .d (.int .i64 l.length)), (19, .d (.bool false))], [some [.d (.int .i64 t.f), .d (.int .i64 t.v), .d (terms .sub t.kids)]]⟩)) (R := fun (j : Nat) => (.exit 0, ⟨[(0, .d (terms .sub l)), (3, .ptr 0 0), (5, .d (.int .i64 j)), (19, .d (.bool false))], [some [.d (.int .i64 t.f), .d (.int .i64 t.v), .d (terms .sub t.kids)]]⟩))
    (fun a => ⟨by simp, by simp [b154_0, r154_0, r154_1, d154_2, r154_3, r154_4, r154_5, r154_6]⟩)
    (fun a i hi => by
      have hw := wrap_succ (n := i) (by omega)
      have hc := hb i hi
      unfold stepF
      by_cases hq : decide (T.cmp t (tAt l i) < 0) = true
      · rw [if_pos hq]
        rw [hq] at hc
        exact ⟨by simp, by simp [b154_0, r154_0, r154_1, d154_2, r154_3, r154_4, r154_5, r154_6, hi, hw, cut, tAt_lt hi, hc, loadBox]⟩
      · rw [if_neg hq]
        have hq' : decide (T.cmp t (tAt l i) < 0) = false := by simpa using hq
        rw [hq'] at hc
        exact ⟨⟨[(0, .d (terms .sub l)), (3, .ptr 0 0), (5, .d (.int .i64 (i + 1 : Nat)))], [some [.d (.int .i64 t.f), .d (.int .i64 t.v), .d (terms .sub t.kids)]]⟩, by simp [b154_0, r154_0, r154_1, d154_2, r154_3, r154_4, r154_5, r154_6, hi, hw, cut, tAt_lt hi, hc, loadBox], by simp [xheadOf, safeRegs]⟩)
    l.length () 0 ⟨[(0, .d (terms .sub l)), (3, .ptr 0 0), (5, .d (.int .i64 0))], [some [.d (.int .i64 t.f), .d (.int .i64 t.v), .d (terms .sub t.kids)]]⟩ (by omega) (by simp [xheadOf, safeRegs])
  have h' : loopX XV (XV.lin 154) 1 [0, 3, 5] b154_0 ⟨[(0, .d (terms .sub l)), (3, .ptr 0 0), (5, .d (.int .i64 0))], [some [.d (.int .i64 t.f), .d (.int .i64 t.v), .d (terms .sub t.kids)]]⟩ =
      some (.exit 0, ⟨[(0, .d (terms .sub l)), (3, .ptr 0 0), (5, .d (.int .i64 (putAt t l))), (19, .d (.bool false))], [some [.d (.int .i64 t.f), .d (.int .i64 t.v), .d (terms .sub t.kids)]]⟩) := by
    rw [h, runF]
    unfold putAt
    cases hq : findAt (fun i => decide (T.cmp t (tAt l i) < 0)) l.length 0 <;> simp
  clear h
  rw [putAt_ins]
  generalize putAt t l = m at *
  have hm : ¬ ((m : Int) < 0) := by omega
  have a1 := app_subs [] (l.take m) .sub (by simp; omega)
  have a2 := app_subs (l.take m) [t] U (by simp; omega)
  have a3 := app_subs (l.take m ++ [t]) (l.drop m) .sub (by simp; omega)
  have hall : (l.map (T.enc .sub)).all (fun e => decide (e.cells.length = 3)) = true := by simp
  simp only [List.map_nil, List.nil_append, List.map_cons, List.map_append, List.map_take, List.map_drop, List.append_assoc, List.cons_append] at a1 a2 a3 ⊢
  generalize hL1 : List.take m (List.map (T.enc .sub) l) = L1 at a1 a2 a3 ⊢
  generalize hL2 : List.drop m (List.map (T.enc .sub) l) = L2 at a3 ⊢
  have c1 : L1.map DV.clr = L1 := by rw [← hL1, List.map_take, clr_terms]
  have c2 : L2.map DV.clr = L2 := by rw [← hL2, List.map_drop, clr_terms]
  have c1' : L1.map (DV.clr ∘ DV.clr) = L1 := by rw [← List.map_map, c1, c1]
  have c2' : L2.map (DV.clr ∘ DV.clr) = L2 := by rw [← List.map_map, c2, c2]
  have hL2' : List.drop m (List.take l.length (List.map (T.enc .sub) l)) = L2 := by rw [List.take_of_length_le (by simp), hL2]
  generalize hL3 : L1 ++ [T.enc .sub t] = L3 at a2 a3
  generalize hL4 : L1 ++ T.enc .sub t :: L2 = L4 at a3 ⊢
  simp only [lin_154] at h'
  simp [v154, r154_0, r154_1, splice, isCell_int, isCell_sl, isCellA_d, safe_d, loadBox]
  rw [h']
  simp [r154_4, r154_5, r154_6, hlt, hm, hall, hL1, hL2, hL2', c1, c2, c1', c2', a1, a2, a3, loadBox, sliceHi, sliceLo, toIdx]
end Go.Proofs.Ytnjgnjejkmcgmaa.VS
namespace Go.Proofs.Ytnjgnjejkmcgmaa.VS
set_option linter.unusedVariables false
set_option linter.unusedSimpArgs false
mutual
/-- The reference's value of one form (some of its rows are shared). -/
def nM (s : List SymL) : T → DV
  | .node f v ks => .agg [.int .i64 f, .int .i64 v, .sl U (if blindB s f = true then (isort (flatK s f (T.norms s ks))).map (T.enc .sub) else nMs s ks)]
def nMs (s : List SymL) : List T → List DV
  | [] => []
  | t :: r => nM s t :: nMs s r
end
theorem nMs_map (s : List SymL) : ∀ l : List T, nMs s l = l.map (nM s)
  | [] => by simp [nMs]
  | t :: r => by simp [nMs, nMs_map s r]
theorem flatK_not (s : List SymL) (f : Int) (h : ¬ blindB s f = true) : ∀ l : List T, flatK s f l = l
  | [] => rfl
  | k :: l => by
    rw [flatK_cons, flatK_not s f h l]
    have h' : blindB s f = false := by simpa using h
    simp [appK, h']
def rowM (s : List SymL) (t : T) : List DV := if blindB s t.f = true then (t.norm s).kids.map (T.enc .sub) else t.kids.map (nM s)
theorem nM_eq (s : List SymL) (t : T) : nM s t = .agg [.int .i64 t.f, .int .i64 t.v, .sl U (rowM s t)] := by
  obtain ⟨f, v, ks⟩ := t
  unfold rowM
  simp only [nM, T.norm, T.f_node, T.v_node, T.kids_node, nMs_map]
  split <;> rfl
mutual
theorem clr_nM (s : List SymL) : ∀ t : T, (nM s t).clr = (t.norm s).enc .sub
  | .node f v ks => by
    have h := clrs_nMs s ks
    by_cases hb : blindB s f = true
    · simp only [nM, T.norm, hb, if_true, T.enc, DV.clr, DV.clrs]
      rw [T.encs_map, DV.clrs_map, clr_terms]
    · simp only [nM, T.norm, hb, Bool.false_eq_true, if_false, T.enc, DV.clr, DV.clrs]
      rw [h, flatK_not s f hb]
theorem clrs_nMs (s : List SymL) : ∀ l : List T, DV.clrs (nMs s l) = T.encs .sub (T.norms s l)
  | [] => by simp [nMs, T.norms, T.encs, DV.clrs]
  | t :: r => by simp only [nMs, T.norms, T.encs, DV.clrs, clr_nM s t, clrs_nMs s r]
end
theorem clr_rowM (s : List SymL) (t : T) : (rowM s t).map DV.clr = (t.norm s).kids.map (T.enc .sub) := by
  have := clr_nM s t
  rw [nM_eq, T.enc_eq] at this
  simp only [DV.clr, DV.clrs, DV.agg.injEq, List.cons.injEq, DV.sl.injEq] at this
  rw [← DV.clrs_map]
  exact this.2.2.1.2
theorem cells_nM (s : List SymL) (t : T) : (nM s t).cells = [.int .i64 t.f, .int .i64 t.v, .sl U (rowM s t)] := by rw [nM_eq]; rfl
theorem app_nM (s : List SymL) (a : List T) (t : T) (h : a.length ≤ 1099511627776) : xappend 3 40 (.sl U (a.map (nM s))) (.sl U [nM s t]) = some (.sl U (a.map (nM s) ++ [nM s t])) := by
  unfold xappend
  simp only
  rw [if_pos (by simp [cells_nM, isCell_int, isCell_sl])]
  simp only [List.isEmpty_cons, Bool.false_eq_true, if_false]
  rw [if_pos ⟨by simp; omega, trivial, by simp [cells_nM]⟩]
/-- The Kids that the reference has behind so many steps. -/
def rowAt (s : List SymL) (f : Int) (ks : List T) (i : Nat) : List DV := if blindB s f = true then (isort (accK s f ks i)).map (T.enc .sub) else (ks.take i).map (nM s)
theorem rowAt_zero (s : List SymL) (f : Int) (ks : List T) : rowAt s f ks 0 = [] := by unfold rowAt; rw [accK_zero]; split <;> rfl
theorem rowAt_all (s : List SymL) (f v : Int) (ks : List T) : DV.agg [.int .i64 f, .int .i64 v, .sl U (rowAt s f ks ks.length)] = nM s (.node f v ks) := by
  unfold rowAt
  rw [accK_all, List.take_length]
  simp only [nM, nMs_map]
def nB3 (f v : Int) (ks : List T) (R : List DV) : Boxs := [some [.d (.int .i64 f), .d (.int .i64 v), .d (terms .sub ks)], some [.d (.int .i64 0), .d (.int .i64 0), .d (.sl U [])], some [.d (.int .i64 f), .d (.int .i64 v), .d (.sl U R)]]
theorem inner153 (s : List SymL) (hs : s.length ≤ 1099511627776) (f v kf kv : Int) (ks l : List T) (i : Nat) (hl : l.length ≤ 1099511627776) (X : List DV) (hX : X.map DV.clr = l.map (T.enc .sub)) : ∀ (k j : Nat), j + k = l.length → ∀ acc : List T, cnts acc + cnts (l.drop j) ≤ 1099511627776 → ∀ e : Boxs,
    loopX XV (XV.lin 153) 4 [0, 3, 4, 5, 6, 7, 8] b153_1 ⟨[(0, .d (sg s)), (3, .ptr 0 0), (4, .ptr 1 0), (5, .ptr 2 0), (6, .d (.int .i64 i)), (7, .ptr 3 0), (8, .d (.int .i64 j))], nB3 f v ks (acc.map (T.enc .sub)) ++ [some [.d (.int .i64 kf), .d (.int .i64 kv), .d (.sl U X)]] ++ e⟩ =
      some (.exit 3, ⟨[(0, .d (sg s)), (3, .ptr 0 0), (4, .ptr 1 0), (5, .ptr 2 0), (6, .d (.int .i64 i)), (7, .ptr 3 0), (8, .d (.int .i64 l.length)), (32, .d (.bool false))], nB3 f v ks ((isortOn acc (l.drop j)).map (T.enc .sub)) ++ [some [.d (.int .i64 kf), .d (.int .i64 kv), .d (.sl U X)]]⟩) := by
  have head : ∀ (x : Int) (A e : Boxs), A.length = 4 → xheadOf 4 [0, 3, 4, 5, 6, 7, 8] ⟨[(0, .d (sg s)), (3, .ptr 0 0), (4, .ptr 1 0), (5, .ptr 2 0), (6, .d (.int .i64 i)), (7, .ptr 3 0), (8, .d (.int .i64 x))], A ++ e⟩ = some ⟨[(0, .d (sg s)), (3, .ptr 0 0), (4, .ptr 1 0), (5, .ptr 2 0), (6, .d (.int .i64 i)), (7, .ptr 3 0), (8, .d (.int .i64 x))], A⟩ := fun x A e hA =>
    head_cut (by simp) (by simp [safeRegs]) hA rfl
  intro k
  induction k with
  | zero =>
    intro j hj acc ha e
    have : j = l.length := by omega
    subst this
    refine loopX_out (head _ _ e (by simp [nB3])) ?_ (by simp)
    rw [List.drop_length]
    simp only [isortOn]
    simp [b153_1, r153_0, r153_1, r153_2, r153_3, r153_5, r153_10, r153_11, r153_12, r153_13, r153_6, r153_7, d153_9, r153_8, r153_4, r153_14, nB3, loadBox, hX]
  | succ k ih =>
    intro j hj acc ha e
    have hlt : j < l.length := by omega
    have hm := tAt_mem hlt
    have h1 := mem_inner hm
    have hd : l.drop j = tAt l j :: l.drop (j + 1) := by rw [List.drop_eq_getElem_cons hlt, tAt_lt hlt]
    have hw := wrap_succ (n := j) (by omega)
    rw [hd, cnts_cons] at ha
    have hp := l4Put_eq acc (tAt l j) (by omega) (by omega)
    rw [hd]
    simp only [isortOn]
    rw [← ih (j + 1) (by omega) (ins (tAt l j) acc) (by rw [cnts_perm (ins_perm _ _), cnts_cons]; omega) []]
    refine loopX_go (head _ _ e (by simp [nB3])) ?_
    simp [b153_1, r153_0, r153_1, r153_2, r153_3, r153_5, r153_10, r153_11, r153_12, r153_13, r153_6, r153_7, d153_9, r153_8, r153_4, r153_14, nB3, hlt, hw, cut, tAt_lt hlt, hp, hX, splice, isCell_int, isCell_sl, isCellA_d, safe_d, loadBox]
theorem kid153 (s : List SymL) (hs : s.length ≤ 1099511627776) (f v : Int) (ks : List T) (hl : cnts ks ≤ 1099511627776) (i : Nat) (hi : i < ks.length)
    (hc : callX XV 153 [.d (sg s), .d ((tAt ks i).enc .sub)] [] = some (.d (nM s (tAt ks i)), [])) :
    ∃ e : Boxs, codeX XV (XV.lin 153) b153_0 ⟨[(0, .d (sg s)), (3, .ptr 0 0), (4, .ptr 1 0), (5, .ptr 2 0), (6, .d (.int .i64 i))], nB3 f v ks (rowAt s f ks i)⟩ =
      some (.normal, ⟨[(0, .d (sg s)), (3, .ptr 0 0), (4, .ptr 1 0), (5, .ptr 2 0), (6, .d (.int .i64 (i + 1 : Nat)))], nB3 f v ks (rowAt s f ks (i + 1)) ++ e⟩) := by
  have hlen := len_cnts ks
  have hw := wrap_succ (n := i) (by omega)
  have hb := specBlind_eq s hs f
  have ht := tAt_lt hi
  have hm := mem_inner (tAt_mem hi)
  have hin := inner_norm s (tAt ks i)
  have hac := accK_succ s f ks i hi
  have hcn := accK_cnts s f ks (i + 1)
  have htk := take_snoc ks i hi
  have hM := clr_rowM s (tAt ks i)
  have hnf := norm_f s (tAt ks i)
  have hnv := norm_v s (tAt ks i)
  have happ := app_nM s (ks.take i) (tAt ks i) (by simp; omega)
  rw [hac, cnts_append] at hcn
  unfold rowAt
  rw [hac, htk]
  rw [nM_eq] at hc happ
  generalize hk : tAt ks i = k at *
  generalize hr : accK s f ks i = acc at *
  generalize hX : rowM s k = X at *
  by_cases h1 : blindB s f = true
  · simp only [h1, if_true]
    by_cases h2 : (k.f == f) = true
    · have e1 : appK s f (k.norm s) = (k.norm s).kids := by unfold appK; rw [hnf, h1, h2]; rfl
      rw [e1] at hcn ⊢
      have hloop := inner153 s hs f v k.f k.v ks (k.norm s).kids i (by have := len_cnts (k.norm s).kids; rw [cnts_kids] at this; omega) X hM (k.norm s).kids.length 0 (by omega) (isort acc) (by rw [cnts_perm (isort_perm acc), List.drop_zero]; omega) []
      rw [List.drop_zero, show isortOn (isort acc) (k.norm s).kids = isort (acc ++ (k.norm s).kids) from by unfold isort; rw [isortOn_append]] at hloop
      refine ⟨[some [.d (.int .i64 k.f), .d (.int .i64 k.v), .d (.sl U X)]], ?_⟩
      have h2n : (k.f != f) = false := by simpa using h2
      generalize (isort (acc ++ (k.norm s).kids)).map (T.enc .sub) = R2 at *
      have hRc : ((isort acc).map (T.enc .sub)).map DV.clr = (isort acc).map (T.enc .sub) := by rw [clr_terms]
      generalize (isort acc).map (T.enc .sub) = R1 at *
      generalize (k.norm s).kids = l at *
      simp only [nB3, lin_153, Int.natCast_zero, List.cons_append, List.nil_append, List.append_nil] at hloop ⊢
      simp [b153_0, r153_0, r153_1, r153_2, r153_3, r153_5, r153_10, r153_11, r153_12, r153_13, r153_6, r153_7, d153_9, r153_8, r153_4, r153_14, hi, hw, cut, ht, hc, hb, h1, h2n, hM, splice, isCell_int, isCell_sl, isCellA_d, safe_d, loadBox, AV.clrs_map]
      rw [hloop]
      simp [b153_0, r153_0, r153_1, r153_2, r153_3, r153_5, r153_10, r153_11, r153_12, r153_13, r153_6, r153_7, d153_9, r153_8, r153_4, r153_14, hw]
    · have h2' : (k.f == f) = false := by simpa using h2
      have h2n : (k.f != f) = true := by simpa using h2
      have e1 : appK s f (k.norm s) = [k.norm s] := by unfold appK; rw [hnf, h1, h2']; rfl
      rw [e1] at hcn ⊢
      rw [show isort (acc ++ [k.norm s]) = ins (k.norm s) (isort acc) from by unfold isort; rw [isortOn_append]; rfl]
      have hp := l4Put_eq (isort acc) (k.norm s) (by rw [cnts_perm (isort_perm acc)]; omega) (by omega)
      have hke : (k.norm s).enc .sub = .agg [.int .i64 k.f, .int .i64 k.v, terms .sub (k.norm s).kids] := by rw [T.enc_eq, hnf, hnv]
      rw [hke, agg_enc] at hp
      refine ⟨[some [.d (.int .i64 k.f), .d (.int .i64 k.v), .d (.sl U X)]], ?_⟩
      generalize ins (k.norm s) (isort acc) = R2 at *
      generalize isort acc = R1 at *
      generalize (k.norm s).kids = l at *
      simp [b153_0, r153_0, r153_1, r153_2, r153_3, r153_5, r153_10, r153_11, r153_12, r153_13, r153_6, r153_7, d153_9, r153_8, r153_4, r153_14, nB3, hi, hw, cut, ht, hc, hb, h1, h2n, hM, hp, splice, isCell_int, isCell_sl, isCellA_d, safe_d, loadBox, AV.clrs_map]
  · have h1' : blindB s f = false := by simpa using h1
    simp only [h1', Bool.false_eq_true, if_false]
    refine ⟨[some [.d (.int .i64 k.f), .d (.int .i64 k.v), .d (terms .sub (k.norm s).kids)]], ?_⟩
    rw [List.map_append, List.map_cons, List.map_nil, nM_eq, hX]
    generalize hR2 : (ks.take i).map (nM s) ++ [.agg [.int .i64 k.f, .int .i64 k.v, .sl U X]] = R2 at *
    generalize (ks.take i).map (nM s) = R1 at *
    generalize (k.norm s).kids = l at *
    simp [b153_0, r153_0, r153_1, r153_2, r153_3, r153_5, r153_10, r153_11, r153_12, r153_13, r153_6, r153_7, d153_9, r153_8, r153_4, r153_14, nB3, hi, hw, cut, ht, hc, hb, h1', happ, hM, splice, isCell_int, isCell_sl, isCellA_d, safe_d, loadBox, AV.clrs_map]
end Go.Proofs.Ytnjgnjejkmcgmaa.VS
namespace Go.Proofs.Ytnjgnjejkmcgmaa.VS
set_option linter.unusedVariables false
set_option linter.unusedSimpArgs false
theorem loop153 (s : List SymL) (hs : s.length ≤ 1099511627776) (f v : Int) (ks : List T) (hl : cnts ks ≤ 1099511627776)
    (hc : ∀ t, t ∈ ks → callX XV 153 [.d (sg s), .d (t.enc .sub)] [] = some (.d (nM s t), [])) : ∀ (k i : Nat), i + k = ks.length → ∀ e : Boxs,
    loopX XV (XV.lin 153) 3 [0, 3, 4, 5, 6] b153_0 ⟨[(0, .d (sg s)), (3, .ptr 0 0), (4, .ptr 1 0), (5, .ptr 2 0), (6, .d (.int .i64 i))], nB3 f v ks (rowAt s f ks i) ++ e⟩ =
      some (.exit 0, ⟨[(0, .d (sg s)), (3, .ptr 0 0), (4, .ptr 1 0), (5, .ptr 2 0), (6, .d (.int .i64 ks.length)), (18, .d (.bool false))], nB3 f v ks (rowAt s f ks ks.length)⟩) := by
  have head : ∀ (x : Int) (A e : Boxs), A.length = 3 → xheadOf 3 [0, 3, 4, 5, 6] ⟨[(0, .d (sg s)), (3, .ptr 0 0), (4, .ptr 1 0), (5, .ptr 2 0), (6, .d (.int .i64 x))], A ++ e⟩ = some ⟨[(0, .d (sg s)), (3, .ptr 0 0), (4, .ptr 1 0), (5, .ptr 2 0), (6, .d (.int .i64 x))], A⟩ := fun x A e hA =>
    head_cut (by simp) (by simp [safeRegs]) hA rfl
  intro k
  induction k with
  | zero =>
    intro i hi e
    have : i = ks.length := by omega
    subst this
    refine loopX_out (head _ _ e (by simp [nB3])) ?_ (by simp)
    generalize rowAt s f ks ks.length = R
    simp [b153_0, r153_0, r153_1, r153_2, r153_3, r153_5, r153_10, r153_11, r153_12, r153_13, r153_6, r153_7, d153_9, r153_8, r153_4, r153_14, nB3, loadBox]
  | succ k ih =>
    intro i hi e
    have hlt : i < ks.length := by omega
    obtain ⟨e', he⟩ := kid153 s hs f v ks hl i hlt (hc _ (tAt_mem hlt))
    rw [← ih (i + 1) (by omega) e']
    exact loopX_go (head _ _ e (by simp [nB3])) he
theorem specNorm_of (s : List SymL) (hs : s.length ≤ 1099511627776) (f v : Int) (ks : List T) (hl : cnts ks ≤ 1099511627776)
    (hc : ∀ t, t ∈ ks → callX XV 153 [.d (sg s), .d (t.enc .sub)] [] = some (.d (nM s t), [])) :
    callX XV 153 [.d (sg s), .d ((T.node f v ks).enc .sub)] [] = some (.d (nM s (.node f v ks)), []) := by
  rw [z_call XV _ _ _ v153 rfl xcode_153 rfl]
  have hloop := loop153 s hs f v ks hl hc ks.length 0 (by omega) []
  rw [← rowAt_all]
  simp only [rowAt_zero, List.append_nil, lin_153, nB3, Int.natCast_zero] at hloop
  generalize rowAt s f ks ks.length = R at *
  simp [v153, r153_0, r153_1, r153_2, splice, isCell_int, isCell_sl, isCellA_d, safe_d, loadBox, AV.clrs_map]
  rw [hloop]
  simp [r153_14, splice, isCell_int, isCell_sl, isCellA_d, safe_d, loadBox, AV.clrs_map]
theorem specNorm_eq (s : List SymL) (hs : s.length ≤ 1099511627776) (t : T) (ht : t.inner ≤ 1099511627776) : callX XV 153 [.d (sg s), .d (t.enc .sub)] [] = some (.d (nM s t), []) := by
  match t, ht with
  | .node f v ks, ht =>
    rw [T.inner_node] at ht
    exact specNorm_of s hs f v ks ht fun x hx => specNorm_eq s hs x (by have := mem_inner hx; omega)
termination_by t
decreasing_by
  simp_wf
  have := List.sizeOf_lt_of_mem hx
  omega
end Go.Proofs.Ytnjgnjejkmcgmaa.VS
namespace Go.Proofs.Ytnjgnjejkmcgmaa.VS
set_option linter.unusedVariables false
set_option linter.unusedSimpArgs false
/-! ## Substitutions that lie in boxes -/
abbrev ts (l : List Bd) : List T := l.map Bd.t
/-! ### Marks -/
end Go.Proofs.Ytnjgnjejkmcgmaa.VS
namespace Go.Proofs.Ytnjgnjejkmcgmaa.VS
set_option linter.unusedVariables false
set_option linter.unusedSimpArgs false
end Go.Proofs.Ytnjgnjejkmcgmaa.VS
namespace Go.Proofs.Ytnjgnjejkmcgmaa.VS
set_option linter.unusedVariables false
set_option linter.unusedSimpArgs false
/-! ## Numbers written in digits -/
/-! The loop, from the last digit on -/
def dst (n : Int) (neg : Bool) (s : ByteArray) : XS := ⟨[(0, .d (.int .i64 n)), (3, .d (.bool neg)), (4, .d (.str s))], []⟩
end Go.Proofs.Ytnjgnjejkmcgmaa.VS
namespace Go.Proofs.Ytnjgnjejkmcgmaa.VS
set_option linter.unusedVariables false
set_option linter.unusedSimpArgs false
/-! ## Marks in texts; signatures that lie in boxes -/
end Go.Proofs.Ytnjgnjejkmcgmaa.VS
namespace Go.Proofs.Ytnjgnjejkmcgmaa.VS
set_option linter.unusedVariables false
set_option linter.unusedSimpArgs false
end Go.Proofs.Ytnjgnjejkmcgmaa.VS
namespace Go.Proofs.Ytnjgnjejkmcgmaa.VS
set_option linter.unusedVariables false
set_option linter.unusedSimpArgs false
/-! ## Boxes of arguments, side by side -/
theorem clrs3 (x y z : AV) : AV.clrs [x, y, z] = [x.clr, y.clr, z.clr] := by simp only [AV.clrs]
end Go.Proofs.Ytnjgnjejkmcgmaa.VS
namespace Go.Proofs.Ytnjgnjejkmcgmaa.VS
set_option linter.unusedVariables false
set_option linter.unusedSimpArgs false
/-- A value of a term, some of whose rows may be shared. -/
def IsV (d : DV) (a : T) : Prop := ∃ (g : Tag) (X : List DV), d = .agg [.int .i64 a.f, .int .i64 a.v, .sl g X] ∧ X.map DV.clr = a.kids.map (T.enc .sub)
theorem isV_nM (s : List SymL) (t : T) : IsV (nM s t) (t.norm s) := ⟨U, rowM s t, by rw [nM_eq, norm_f, norm_v], clr_rowM s t⟩
theorem IsV.clr {d : DV} {a : T} (h : IsV d a) : d.clr = a.enc .sub := by
  obtain ⟨g, X, rfl, hX⟩ := h
  simp only [DV.clr, DV.clrs]
  rw [DV.clrs_map, hX, T.enc_eq]
end Go.Proofs.Ytnjgnjejkmcgmaa.VS
namespace Go.Proofs.Ytnjgnjejkmcgmaa.VS
set_option linter.unusedVariables false
set_option linter.unusedSimpArgs false
mutual
/-- What is put for variables, not in one form. -/
def fillT (u : List Bd) : T → T
  | .node f v ks => if f = -1 ∧ ks.length = 0 then lookT u v else .node f v (fillTs u ks)
def fillTs (u : List Bd) : List T → List T
  | [] => []
  | t :: r => fillT u t :: fillTs u r
end
theorem fillTs_map (u : List Bd) : ∀ l : List T, fillTs u l = l.map (fillT u)
  | [] => by simp [fillTs]
  | t :: r => by simp [fillTs, fillTs_map u r]
theorem lookT_max (u : List Bd) (n : Int) (M : Nat) (hM : ∀ i, i < u.length → (bAt u i).t.inner ≤ M) : (lookT u n).inner ≤ M := by
  unfold lookT
  split
  · rename_i i h
    unfold foundB at h
    exact hM i (by have := (findAt_lt _ _ _ _ h).2.1; omega)
  · simp [T.inner, T.inners]
mutual
theorem fillT_inner (u : List Bd) (M : Nat) (hM : ∀ i, i < u.length → (bAt u i).t.inner ≤ M) : ∀ t : T, (fillT u t).inner + 1 ≤ (t.inner + 1) * (M + 1)
  | .node f v ks => by
    have h := fillTs_cnts u M hM ks
    simp only [fillT]
    split
    · have := lookT_max u v M hM
      have h2 : (M + 1) ≤ ((T.node f v ks).inner + 1) * (M + 1) := Nat.le_mul_of_pos_left _ (by omega)
      omega
    · rw [T.inner_node, T.inner_node, Nat.add_mul]
      omega
theorem fillTs_cnts (u : List Bd) (M : Nat) (hM : ∀ i, i < u.length → (bAt u i).t.inner ≤ M) : ∀ l : List T, cnts (fillTs u l) ≤ cnts l * (M + 1)
  | [] => by simp [fillTs, cnts, T.inners]
  | t :: r => by
    have h1 := fillT_inner u M hM t
    have h2 := fillTs_cnts u M hM r
    simp only [fillTs, cnts_cons, Nat.add_mul] at *
    omega
end
theorem fill_bound (a b : Nat) (h : a + b ≤ 1048576) : (a + 1) * (b + 1) ≤ 1099511627776 := by
  rcases Nat.lt_or_ge 524288 a with h1 | h1
  · exact Nat.le_trans (Nat.mul_le_mul (show a + 1 ≤ 1048577 by omega) (show b + 1 ≤ 524289 by omega)) (by decide)
  · exact Nat.le_trans (Nat.mul_le_mul (show a + 1 ≤ 524289 by omega) (show b + 1 ≤ 1048577 by omega)) (by decide)
theorem fillT_le (u : List Bd) (t : T) (M : Nat) (hM : ∀ i, i < u.length → (bAt u i).t.inner ≤ M) (h : t.inner + M ≤ 1048576) : (fillT u t).inner ≤ 1099511627776 := by
  have h1 := fillT_inner u M hM t
  have h2 := fill_bound t.inner M h
  omega
theorem filled_of (u : List Bd) (hu : u.length ≤ 1099511627776) (hb : ∀ i, i < u.length → (bAt u i).t.inner ≤ 1099511627776) (f v : Int) (ks : List T) (hl : ks.length ≤ 1099511627776)
    (hc : ∀ t, t ∈ ks → callX XV 168 [.d (binds .sub u), .d (t.enc .sub)] [] = some (.d ((fillT u t).enc U), [])) :
    callX XV 168 [.d (binds .sub u), .d ((T.node f v ks).enc .sub)] [] = some (.d ((fillT u (.node f v ks)).enc U), []) := by
  rw [z_call XV _ _ _ v168 rfl xcode_168 rfl]
  have hv := isVar_eq (T.node f v ks)
  by_cases hcond : f = -1 ∧ ks.length = 0
  · obtain ⟨rfl, h0⟩ := hcond
    have hks : ks = [] := List.length_eq_zero_iff.1 h0
    subst hks
    have hk := implLook_eq u v hu hb
    simp only [fillT, List.length_nil, and_self, if_true]
    generalize lookT u v = a at *
    simp [v168, r168_0, r168_1, r168_2, r168_3, r168_4, r168_5, r168_6, r168_7, r168_8, r168_9, r168_10, hv, hk, splice, isCell_int, isCell_sl, isCellA_d, safe_d, loadBox]
  · have hB : ((f == -1) && ((ks.length : Int) == 0)) = false := by
      rw [Bool.and_eq_false_iff]
      by_cases h1 : f = -1
      · right; exact beq_false_of_ne (by omega)
      · left; exact beq_false_of_ne h1
    simp only [fillT, if_neg hcond]
    have hmap : ∀ i, i < ks.length → xappend 3 40 (.sl U ((fillTs u (ks.take i)).map (T.enc U))) (.sl U [(fillT u (tAt ks i)).enc U]) = some (.sl U ((fillTs u (ks.take (i + 1))).map (T.enc U))) := fun i hi => by
      have := app_terms (fillTs u (ks.take i)) [fillT u (tAt ks i)] U (by rw [fillTs_map]; simp; omega)
      rw [take_snoc ks i hi, fillTs_map u (_ ++ _), List.map_append, ← fillTs_map]
      exact this
    have hloop := loopX_upto (X := XV) (T := XV.lin 168) (L := 2) (live := [0, 3, 4, 5, 22, 23, 24]) (b := b168_0) (n := ks.length) (γ := Unit) (st := fun (_ : Unit) i => ⟨[(0, .d (binds .sub u)), (3, .ptr 0 0), (4, .ptr 1 0), (5, .d (.sl U ((fillTs u (ks.take i)).map (T.enc U)))), (22, .d (terms .sub ks)), (23, .d (.int .i64 ks.length)), (24, .d (.int .i64 i))], nB f v ks⟩) (step := fun _ _ => .inl ())
      (F := fun _ => (.exit 0, ⟨[(0, .d (binds .sub u)), (3, .ptr 0 0), (4, .ptr 1 0), (5, .d (.sl U ((fillTs u (ks.take ks.length)).map (T.enc U)))), (22, .d (terms .sub ks)), (23, .d (.int .i64 ks.length)), (24, .d (.int .i64 ks.length)), (25, .d (.bool false))], nB f v ks⟩)) (R := fun _ => (.ret, ⟨[], []⟩))
      (fun _ => ⟨by simp, by simp [b168_0, r168_0, r168_1, r168_2, r168_3, r168_4, r168_5, r168_6, r168_7, r168_8, r168_9, r168_10]⟩)
      (fun _ i hi => by
        have hw := wrap_succ (n := i) (by omega)
        have hc' := hc _ (tAt_mem hi)
        have ha := hmap i hi
        have hcl : ((fillTs u (ks.take (i + 1))).map (T.enc U)) = ((fillTs u (ks.take (i + 1))).map (T.enc U)) := rfl
        generalize hl2 : (fillTs u (ks.take (i + 1))).map (T.enc U) = l2 at ha
        generalize (fillTs u (ks.take i)).map (T.enc U) = l1 at ha ⊢
        generalize fillT u (tAt ks i) = a at *
        exact ⟨⟨[(0, .d (binds .sub u)), (3, .ptr 0 0), (4, .ptr 1 0), (5, .d (.sl U l2)), (22, .d (terms .sub ks)), (23, .d (.int .i64 ks.length)), (24, .d (.int .i64 (i + 1 : Nat)))], nB f v ks ++ [some [.d (.int .i64 (tAt ks i).f), .d (.int .i64 (tAt ks i).v), .d (terms .sub (tAt ks i).kids)]]⟩, by simp [b168_0, r168_0, r168_1, r168_2, r168_3, r168_4, r168_5, r168_6, r168_7, r168_8, r168_9, r168_10, nB, hi, hw, cut, tAt_lt hi, hc', ha, splice, isCell_int, isCell_sl, isCellA_d, safe_d, loadBox],
          head_cut (e := [some [.d (.int .i64 (tAt ks i).f), .d (.int .i64 (tAt ks i).v), .d (terms .sub (tAt ks i).kids)]]) (by simp [← hl2]) (by simp [safeRegs]) (by simp [nB]) rfl⟩)
      ks.length () 0 ⟨[(0, .d (binds .sub u)), (3, .ptr 0 0), (4, .ptr 1 0), (5, .d (.sl U [])), (22, .d (terms .sub ks)), (23, .d (.int .i64 ks.length)), (24, .d (.int .i64 0))], nB f v ks⟩ (by omega) (head_cut (e := []) (by simp [fillTs]) (by simp [safeRegs]) (by simp [nB]) (by simp))
    rw [run_on, List.take_length] at hloop
    simp only [lin_168, nB] at hloop
    have henc : (T.node f v (fillTs u ks)).enc U = .agg [.int .i64 f, .int .i64 v, .sl U ((fillTs u ks).map (T.enc U))] := by rw [T.enc_eq]; rfl
    rw [henc]
    generalize (fillTs u ks).map (T.enc U) = R at *
    simp only [T.f_node] at hv
    cases hf : (f == -1) with
    | false =>
      rw [hf] at hv
      simp [v168, r168_0, r168_1, r168_2, r168_3, r168_4, r168_5, r168_6, r168_7, r168_8, r168_9, r168_10, hv, splice, isCell_int, isCell_sl, isCellA_d, safe_d, loadBox]
      rw [hloop]
      simp [v168, r168_0, r168_1, r168_2, r168_3, r168_4, r168_5, r168_6, r168_7, r168_8, r168_9, r168_10, splice, isCell_int, isCell_sl, isCellA_d, safe_d, loadBox]
    | true =>
      rw [hf] at hv hB
      simp only [Bool.true_and] at hB
      generalize hn : (ks.length : Int) = n at *
      simp [v168, r168_0, r168_1, r168_2, r168_3, r168_4, r168_5, r168_6, r168_7, r168_8, r168_9, r168_10, hv, hB, hn, splice, isCell_int, isCell_sl, isCellA_d, safe_d, loadBox]
      rw [hloop]
      simp [v168, r168_0, r168_1, r168_2, r168_3, r168_4, r168_5, r168_6, r168_7, r168_8, r168_9, r168_10, splice, isCell_int, isCell_sl, isCellA_d, safe_d, loadBox]
theorem filled_eq (u : List Bd) (hu : u.length ≤ 1099511627776) (hb : ∀ i, i < u.length → (bAt u i).t.inner ≤ 1099511627776) (t : T) (ht : t.inner ≤ 1099511627776) : callX XV 168 [.d (binds .sub u), .d (t.enc .sub)] [] = some (.d ((fillT u t).enc U), []) := by
  match t, ht with
  | .node f v ks, ht =>
    rw [T.inner_node] at ht
    exact filled_of u hu hb f v ks (by have := len_cnts ks; omega) fun x hx => filled_eq u hu hb x (by have := mem_inner hx; omega)
termination_by t
decreasing_by
  simp_wf
  have := List.sizeOf_lt_of_mem hx
  omega
theorem l6Put_of (u : List Bd) (hu : u.length ≤ 1099511627776) (hb : ∀ i, i < u.length → (bAt u i).t.inner ≤ 1099511627776) (f v : Int) (ks : List T) (hl : ks.length ≤ 1099511627776)
    (hc : ∀ t, t ∈ ks → callX XV 152 [.d (binds .sub u), .d (t.enc .sub)] [] = some (.d ((fillT u t).enc U), [])) :
    callX XV 152 [.d (binds .sub u), .d ((T.node f v ks).enc .sub)] [] = some (.d ((fillT u (.node f v ks)).enc U), []) := by
  rw [z_call XV _ _ _ v152 rfl xcode_152 rfl]
  by_cases hcond : f = -1 ∧ ks.length = 0
  · obtain ⟨rfl, h0⟩ := hcond
    have hks : ks = [] := List.length_eq_zero_iff.1 h0
    subst hks
    have hk := specLook_eq u v hu hb
    simp only [fillT, List.length_nil, and_self, if_true]
    generalize lookT u v = a at *
    simp [v152, r152_0, r152_1, r152_2, r152_3, r152_4, r152_5, d152_7, r152_6, r152_8, hk, splice, isCell_int, isCell_sl, isCellA_d, safe_d, loadBox]
  · have hB : ((f == -1) && ((ks.length : Int) == 0)) = false := by
      rw [Bool.and_eq_false_iff]
      by_cases h1 : f = -1
      · right; exact beq_false_of_ne (by omega)
      · left; exact beq_false_of_ne h1
    simp only [fillT, if_neg hcond]
    have hmap : ∀ i, i < ks.length → xappend 3 40 (.sl U ((fillTs u (ks.take i)).map (T.enc U))) (.sl U [(fillT u (tAt ks i)).enc U]) = some (.sl U ((fillTs u (ks.take (i + 1))).map (T.enc U))) := fun i hi => by
      have := app_terms (fillTs u (ks.take i)) [fillT u (tAt ks i)] U (by rw [fillTs_map]; simp; omega)
      rw [take_snoc ks i hi, fillTs_map u (_ ++ _), List.map_append, ← fillTs_map]
      exact this
    have hloop := loopX_upto (X := XV) (T := XV.lin 152) (L := 3) (live := [0, 3, 4, 5, 6]) (b := b152_0) (n := ks.length) (γ := Unit) (st := fun (_ : Unit) i => ⟨[(0, .d (binds .sub u)), (3, .ptr 0 0), (4, .ptr 1 0), (5, .ptr 2 0), (6, .d (.int .i64 i))], nB3 f v ks ((fillTs u (ks.take i)).map (T.enc U))⟩) (step := fun _ _ => .inl ())
      (F := fun _ => (.exit 0, ⟨[(0, .d (binds .sub u)), (3, .ptr 0 0), (4, .ptr 1 0), (5, .ptr 2 0), (6, .d (.int .i64 ks.length)), (29, .d (.bool false))], nB3 f v ks ((fillTs u (ks.take ks.length)).map (T.enc U))⟩)) (R := fun _ => (.ret, ⟨[], []⟩))
      (fun _ => ⟨by simp, by simp [b152_0, r152_0, r152_1, r152_2, r152_3, r152_4, r152_5, d152_7, r152_6, r152_8, nB3, loadBox]⟩)
      (fun _ i hi => by
        have hw := wrap_succ (n := i) (by omega)
        have hc' := hc _ (tAt_mem hi)
        have ha := hmap i hi
        generalize hl2 : (fillTs u (ks.take (i + 1))).map (T.enc U) = l2 at ha
        generalize (fillTs u (ks.take i)).map (T.enc U) = l1 at ha ⊢
        generalize fillT u (tAt ks i) = a at *
        exact ⟨⟨[(0, .d (binds .sub u)), (3, .ptr 0 0), (4, .ptr 1 0), (5, .ptr 2 0), (6, .d (.int .i64 (i + 1 : Nat)))], nB3 f v ks l2⟩, by simp [b152_0, r152_0, r152_1, r152_2, r152_3, r152_4, r152_5, d152_7, r152_6, r152_8, nB3, hi, hw, cut, tAt_lt hi, hc', ha, splice, AV.clrs_map, isCell_int, isCell_sl, isCellA_d, safe_d, loadBox],
          head_cut (e := []) (by simp [← hl2]) (by simp [safeRegs]) (by simp [nB3]) (by simp [← hl2])⟩)
      ks.length () 0 ⟨[(0, .d (binds .sub u)), (3, .ptr 0 0), (4, .ptr 1 0), (5, .ptr 2 0), (6, .d (.int .i64 0))], nB3 f v ks []⟩ (by omega) (head_cut (e := []) (by simp [fillTs]) (by simp [safeRegs]) (by simp [nB3]) (by simp [fillTs]))
    rw [run_on, List.take_length] at hloop
    simp only [lin_152, nB3] at hloop
    have henc : (T.node f v (fillTs u ks)).enc U = .agg [.int .i64 f, .int .i64 v, .sl U ((fillTs u ks).map (T.enc U))] := by rw [T.enc_eq]; rfl
    rw [henc]
    generalize (fillTs u ks).map (T.enc U) = R at *
    cases hf : (f == -1) with
    | false =>
      simp [v152, r152_0, r152_1, r152_2, r152_3, r152_4, r152_5, d152_7, r152_6, r152_8, hf, splice, isCell_int, isCell_sl, isCellA_d, safe_d, loadBox]
      rw [hloop]
      simp [v152, r152_0, r152_1, r152_2, r152_3, r152_4, r152_5, d152_7, r152_6, r152_8, splice, isCell_int, isCell_sl, isCellA_d, safe_d, loadBox, AV.clrs_map]
    | true =>
      rw [hf] at hB
      simp only [Bool.true_and] at hB
      generalize hn : (ks.length : Int) = n at *
      simp [v152, r152_0, r152_1, r152_2, r152_3, r152_4, r152_5, d152_7, r152_6, r152_8, hf, hB, hn, splice, isCell_int, isCell_sl, isCellA_d, safe_d, loadBox]
      rw [hloop]
      simp [v152, r152_0, r152_1, r152_2, r152_3, r152_4, r152_5, d152_7, r152_6, r152_8, splice, isCell_int, isCell_sl, isCellA_d, safe_d, loadBox, AV.clrs_map]
theorem l6Put_eq (u : List Bd) (hu : u.length ≤ 1099511627776) (hb : ∀ i, i < u.length → (bAt u i).t.inner ≤ 1099511627776) (t : T) (ht : t.inner ≤ 1099511627776) : callX XV 152 [.d (binds .sub u), .d (t.enc .sub)] [] = some (.d ((fillT u t).enc U), []) := by
  match t, ht with
  | .node f v ks, ht =>
    rw [T.inner_node] at ht
    exact l6Put_of u hu hb f v ks (by have := len_cnts ks; omega) fun x hx => l6Put_eq u hu hb x (by have := mem_inner hx; omega)
termination_by t
decreasing_by
  simp_wf
  have := List.sizeOf_lt_of_mem hx
  omega
/-- What is put, in one form. -/
def applyT (l : List SymL) (u : List Bd) (t : T) : T := (fillT u t).norm l
theorem applyT_inner (l : List SymL) (u : List Bd) (t : T) : (applyT l u t).inner ≤ (fillT u t).inner := inner_norm l _
theorem implApply_eq (l : List SymL) (hs : l.length ≤ 1099511627776) (u : List Bd) (t : T) (hu : u.length ≤ 1099511627776) (hb : ∀ i, i < u.length → (bAt u i).t.inner ≤ 1099511627776) (ht : t.inner ≤ 1099511627776) (hf : (fillT u t).inner ≤ 1099511627776) :
    callX XV 135 [.d (sg l), .d (binds .sub u), .d (t.enc .sub)] [] = some (.d ((applyT l u t).enc U), []) := by
  have h1 := filled_eq u hu hb t ht
  have h2 := implNorm_eq l hs (fillT u t) hf
  unfold applyT
  generalize fillT u t = a at *
  generalize a.norm l = c at *
  rw [z_call XV _ _ _ v135 rfl xcode_135 rfl]
  simp [v135, r135_0, r135_1, h1, h2, splice, isCell_int, isCell_sl, isCellA_d, safe_d, loadBox]
theorem specApply_eq (l : List SymL) (hs : l.length ≤ 1099511627776) (u : List Bd) (t : T) (hu : u.length ≤ 1099511627776) (hb : ∀ i, i < u.length → (bAt u i).t.inner ≤ 1099511627776) (ht : t.inner ≤ 1099511627776) (hf : (fillT u t).inner ≤ 1099511627776) :
    ∃ d, callX XV 141 [.d (sg l), .d (binds .sub u), .d (t.enc .sub)] [] = some (.d d, []) ∧ IsV d (applyT l u t) := by
  have h1 := l6Put_eq u hu hb t ht
  have h2 := specNorm_eq l hs (fillT u t) hf
  refine ⟨nM l (fillT u t), ?_, isV_nM l _⟩
  rw [nM_eq] at h2 ⊢
  generalize fillT u t = a at *
  generalize rowM l a = X at *
  rw [z_call XV _ _ _ v141 rfl xcode_141 rfl]
  simp [v141, r141_0, r141_1, h1, h2, splice, isCell_int, isCell_sl, isCellA_d, safe_d, loadBox]
end Go.Proofs.Ytnjgnjejkmcgmaa.VS
namespace Go.Proofs.Ytnjgnjejkmcgmaa.VS
set_option linter.unusedVariables false
set_option linter.unusedSimpArgs false
def cnt (t : T) (v : Int) : Int := IntKind.i64.wrap (T.sum (wC v) t)
def hasV (v : Int) (b : Bd) : Bool := decide (0 < cnt b.t v)
def bad1 (l : List SymL) (s : List Bd) (i : Nat) : Bool := (!inB (bAt s i).v 0 99 || (decide (0 < i) && decide ((bAt s i).v ≤ (bAt s (i - 1)).v))) || !termOkB l (bAt s i).t
def someV (s : List Bd) (i : Nat) : Bool := (findAt (fun j => hasV (bAt s i).v (bAt s j)) s.length 0).isSome
def badB (l : List SymL) (s : List Bd) (i : Nat) : Bool := bad1 l s i || someV s i
def subOkB (l : List SymL) (s : List Bd) : Bool := (findAt (badB l s) s.length 0).isNone
theorem stepF_t {q : Nat → Bool} {i : Nat} (h : q i = true) : stepF q () i = .inr i := by unfold stepF; rw [if_pos h]
theorem stepF_f {q : Nat → Bool} {i : Nat} (h : q i = false) : stepF q () i = .inl () := by unfold stepF; rw [if_neg (by simp [h])]
theorem loop67 (l : List SymL) (s : List Bd) (hl : s.length ≤ 1099511627776) (hb : ∀ i, i < s.length → (bAt s i).t.inner ≤ 1099511627776) (i : Nat) (hi : i < s.length) :
    loopX XV [] 0 [0, 1, 5, 6] b67_1 ⟨[(0, .d (sg l)), (1, .d (binds .sub s)), (5, .d (.int .i64 i)), (6, .d (.int .i64 0))], []⟩ =
      some (if someV s i then (.ret, ⟨[(4, .d (.bool false))], []⟩) else (.exit 2, ⟨[(0, .d (sg l)), (1, .d (binds .sub s)), (5, .d (.int .i64 i)), (6, .d (.int .i64 s.length)), (51, .d (.bool false))], []⟩)) := by
  have h := loopX_upto (X := XV) (T := []) (L := 0) (live := [0, 1, 5, 6]) (b := b67_1) (n := s.length) (γ := Nat) (st := fun (_ : Unit) j => ⟨[(0, .d (sg l)), (1, .d (binds .sub s)), (5, .d (.int .i64 i)), (6, .d (.int .i64 j))], []⟩) (step := stepF fun j => hasV (bAt s i).v (bAt s j))
    (F := fun _ => (.exit 2, ⟨[(0, .d (sg l)), (1, .d (binds .sub s)), (5, .d (.int .i64 i)), (6, .d (.int .i64 s.length)), (51, .d (.bool false))], []⟩)) (R := fun _ => (.ret, ⟨[(4, .d (.bool false))], []⟩))
    (fun _ => ⟨by simp, by simp [b67_1, r67_0, r67_1, r67_2, d67_4, r67_5, r67_6, r67_7, d67_9, r67_10, r67_8, r67_3, r67_11]⟩)
    (fun _ j hj => by
      have hw := wrap_succ (n := j) (by omega)
      have hc := specCount_eq (bAt s j).t (hb j hj) (bAt s i).v
      change _ = some (AV.d (.int .i64 (cnt (bAt s j).t (bAt s i).v)), []) at hc
      by_cases hm : 0 < cnt (bAt s j).t (bAt s i).v
      · rw [stepF_t (q := fun j => hasV (bAt s i).v (bAt s j)) (i := j) (by simp [hasV, hm])]
        exact ⟨by simp, by simp [b67_1, r67_0, r67_1, r67_2, d67_4, r67_5, r67_6, r67_7, d67_9, r67_10, r67_8, r67_3, r67_11, hi, hj, hw, cut, bAt_lt hi, bAt_lt hj, hc, hm]⟩
      · rw [stepF_f (q := fun j => hasV (bAt s i).v (bAt s j)) (i := j) (by simp [hasV, hm])]
        exact ⟨_, by simp [b67_1, r67_0, r67_1, r67_2, d67_4, r67_5, r67_6, r67_7, d67_9, r67_10, r67_8, r67_3, r67_11, hi, hj, hw, cut, bAt_lt hi, bAt_lt hj, hc, hm]; rfl, by simp [xheadOf, safeRegs]⟩)
    s.length () 0 ⟨[(0, .d (sg l)), (1, .d (binds .sub s)), (5, .d (.int .i64 i)), (6, .d (.int .i64 0))], []⟩ (by omega) (by simp [xheadOf, safeRegs])
  rw [runF] at h
  rw [h]
  unfold someV
  cases hq : findAt (fun j => hasV (bAt s i).v (bAt s j)) s.length 0 <;> simp
theorem specSubOk_eq (l : List SymL) (s : List Bd) (hs : l.length ≤ 1099511627776) (hn : ∀ i, i < l.length → (symAt l i).name.size ≤ 1099511627776) (hl : s.length ≤ 1099511627776) (hb : ∀ i, i < s.length → (bAt s i).t.inner ≤ 1099511627776) :
    callX XV 67 [.d (sg l), .d (binds .sub s)] [] = some (.d (.bool (subOkB l s)), []) := by
  rw [z_call XV _ _ _ v67 rfl xcode_67 rfl]
  have h := loopX_upto (X := XV) (T := []) (L := 0) (live := [0, 1, 5]) (b := b67_0) (n := s.length) (γ := Nat) (st := fun (_ : Unit) i => ⟨[(0, .d (sg l)), (1, .d (binds .sub s)), (5, .d (.int .i64 i))], []⟩) (step := stepF (badB l s))
    (F := fun _ => (.exit 0, ⟨[(0, .d (sg l)), (1, .d (binds .sub s)), (5, .d (.int .i64 s.length)), (10, .d (.bool false))], []⟩)) (R := fun _ => (.ret, ⟨[(4, .d (.bool false))], []⟩))
    (fun _ => ⟨by simp, by simp [b67_0, r67_0, r67_1, r67_2, d67_4, r67_5, r67_6, r67_7, d67_9, r67_10, r67_8, r67_3, r67_11]⟩)
    (fun _ i hi => by
      have hw := wrap_succ (n := i) (by omega)
      have n1 := l1In_eq (bAt s i).v 0 99
      have n2 := specTermOk_eq l hs hn (bAt s i).t (hb i hi)
      have hin := loop67 l s hl hb i hi
      have hi1 : (i : Int) - 1 = ((i - 1 : Nat) : Int) ∨ i = 0 := by omega
      cases c1 : inB (bAt s i).v 0 99 with
      | false =>
        rw [c1] at n1
        rw [stepF_t (by simp [badB, bad1, c1])]
        exact ⟨by simp, by simp [b67_0, r67_2, d67_4, r67_5, hi, hw, cut, bAt_lt hi, n1]⟩
      | true =>
        rw [c1] at n1
        by_cases c0 : 0 < i
        · have hw1 : IntKind.i64.wrap ((i : Int) - 1) = ((i - 1 : Nat) : Int) := by rw [wrap_i64 (by omega) (by omega)]; omega
          have hp : i - 1 < s.length := by omega
          have c0' : (i : Int) > 0 := by omega
          by_cases c2 : (bAt s i).v ≤ (bAt s (i - 1)).v
          · rw [stepF_t (by simp [badB, bad1, c1, c0, c2])]
            exact ⟨by simp, by simp [b67_0, r67_2, d67_4, r67_5, hi, hw, cut, bAt_lt hi, n1, c0, hw1, hp, bAt_lt hp, c2]⟩
          · cases c3 : termOkB l (bAt s i).t with
            | false =>
              rw [c3] at n2
              rw [stepF_t (by simp [badB, bad1, c3])]
              exact ⟨by simp, by simp [b67_0, r67_2, d67_4, r67_5, hi, hw, cut, bAt_lt hi, n1, c0, hw1, hp, bAt_lt hp, c2, n2]⟩
            | true =>
              rw [c3] at n2
              cases c4 : someV s i with
              | true =>
                rw [c4] at hin
                rw [stepF_t (by simp [badB, c4])]
                exact ⟨by simp, by simp [b67_0, r67_2, d67_4, r67_5, r67_6, r67_3, hi, hw, cut, bAt_lt hi, n1, c0, hw1, hp, bAt_lt hp, c2, n2, hin]⟩
              | false =>
                rw [c4] at hin
                rw [stepF_f (by simp [badB, bad1, c1, c2, c3, c4])]
                refine ⟨_, by simp [b67_0, r67_2, d67_4, r67_5, r67_6, r67_3, hi, hw, cut, bAt_lt hi, n1, c0, hw1, hp, bAt_lt hp, c2, n2, hin]; rfl, by simp [xheadOf, safeRegs]⟩
        · cases c3 : termOkB l (bAt s i).t with
          | false =>
            rw [c3] at n2
            rw [stepF_t (by simp [badB, bad1, c3])]
            exact ⟨by simp, by simp [b67_0, r67_2, d67_4, r67_5, hi, hw, cut, bAt_lt hi, n1, c0, n2]⟩
          | true =>
            rw [c3] at n2
            cases c4 : someV s i with
            | true =>
              rw [c4] at hin
              rw [stepF_t (by simp [badB, c4])]
              exact ⟨by simp, by simp [b67_0, r67_2, d67_4, r67_5, r67_6, r67_3, hi, hw, cut, bAt_lt hi, n1, c0, n2, hin]⟩
            | false =>
              rw [c4] at hin
              rw [stepF_f (by simp [badB, bad1, c0, c1, c3, c4])]
              refine ⟨_, by simp [b67_0, r67_2, d67_4, r67_5, r67_6, r67_3, hi, hw, cut, bAt_lt hi, n1, c0, n2, hin]; rfl, by simp [xheadOf, safeRegs]⟩)
    s.length () 0 ⟨[(0, .d (sg l)), (1, .d (binds .sub s)), (5, .d (.int .i64 0))], []⟩ (by omega) (by simp [xheadOf, safeRegs])
  rw [runF] at h
  simp [v67, r67_0, r67_1, r67_2, d67_4, r67_5, r67_6, r67_7, d67_9, r67_10, r67_8, r67_3, r67_11]
  rw [h]
  unfold subOkB
  cases hq : findAt (badB l s) s.length 0 <;> simp [v67, r67_0, r67_1, r67_2, d67_4, r67_5, r67_6, r67_7, d67_9, r67_10, r67_8, r67_3, r67_11]
def bcells (b : Bd) : List AV := [.d (.int .i64 b.v), .d (.int .i64 b.t.f), .d (.int .i64 b.t.v), .d (terms .sub b.t.kids)]
theorem sub1_eq (b c : Bd) (hb : b.t.inner ≤ 1099511627776) : callX XV 71 [.d (c.enc .sub), .ptr 0 0] [some (bcells b)] = some (.d (.bool (hasV c.v b)), [some (bcells b)]) := by
  rw [z_call XV _ _ _ v71 rfl xcode_71 rfl]
  have hc := implCount_eq b.t hb c.v
  change _ = some (AV.d (.int .i64 (cnt b.t c.v)), []) at hc
  simp [v71, r71_0, r71_1, hc, hasV, bcells]
theorem indexFuncB_eq (l : List Bd) (fk : Nat) (caps : List AV) (B : Boxs) (P : Bd → Bool) (hl : l.length ≤ 1099511627776) (hs : AV.safe.safes B.length caps = true) (hcc : caps.map AV.clr = caps) (hk : ¬ 0 ∈ XV.lin fk)
    (hf : ∀ s, s ∈ l → callX XV fk (.d (s.enc .sub) :: caps) B = some (.d (.bool (P s)), B)) :
    callX XV 76 [.d (binds .sub l), .fn fk caps] B = some (.d (.int .i64 (orNeg (findAt (fun i => P (bAt l i)) l.length 0))), B) := by
  rw [z_call XV _ _ _ v76 rfl xcode_76 rfl]
  have h := loopX_upto (X := XV) (T := XV.lin 76) (L := B.length) (live := [0, 1, 7, 8]) (b := b76_0) (n := l.length) (st := fun (_ : Unit) i => ⟨[(0, .d (binds .sub l)), (1, .fn fk caps), (7, .d (.int .i64 l.length)), (8, .d (.int .i64 i))], B⟩) (step := stepF fun i => P (bAt l i))
    (F := fun _ => (.exit 0, ⟨[(0, .d (binds .sub l)), (1, .fn fk caps), (7, .d (.int .i64 l.length)), (8, .d (.int .i64 l.length)), (9, .d (.bool false))], B⟩)) (R := fun (j : Nat) => (.ret, ⟨[(4, .d (.int .i64 j))], B⟩))
    (fun a => ⟨by simp, by simp [b76_0, r76_0, r76_1, r76_2, r76_3, r76_4, r76_5, r76_6, r76_7, hcc]⟩)
    (fun a i hi => by
      have hw := wrap_succ (n := i) (by omega)
      have hc := hf _ (bAt_mem hi)
      unfold stepF
      by_cases hq : P (bAt l i) = true
      · rw [if_pos hq]; rw [hq] at hc
        exact ⟨by simp, by simp [b76_0, r76_0, r76_1, r76_2, r76_3, r76_4, r76_5, r76_6, r76_7, hi, hw, cut, bAt_lt hi, hc, hcc, hk]⟩
      · rw [if_neg hq]
        have hq' : P (bAt l i) = false := by simpa using hq
        rw [hq'] at hc
        exact ⟨_, by simp [b76_0, r76_0, r76_1, r76_2, r76_3, r76_4, r76_5, r76_6, r76_7, hi, hw, cut, bAt_lt hi, hc, hcc, hk]; rfl, by simp [xheadOf, safeRegs, hs]⟩)
    l.length () 0 ⟨[(0, .d (binds .sub l)), (1, .fn fk caps), (7, .d (.int .i64 l.length)), (8, .d (.int .i64 0))], B⟩ (by omega) (by simp [xheadOf, safeRegs, hs])
  rw [runF] at h
  simp only [lin_76] at h
  simp [v76, r76_0, r76_1, r76_2, r76_3, r76_4, r76_5, r76_6, r76_7, hcc]
  rw [h]
  cases hq : findAt (fun i => P (bAt l i)) l.length 0 <;> simp [orNeg, v76, r76_0, r76_1, r76_2, r76_3, r76_4, r76_5, r76_6, r76_7]
theorem containsFuncB_eq (l : List Bd) (fk : Nat) (caps : List AV) (B : Boxs) (P : Bd → Bool) (hl : l.length ≤ 1099511627776) (hs : AV.safe.safes B.length caps = true) (hcc : caps.map AV.clr = caps) (hk : ¬ 0 ∈ XV.lin fk)
    (hf : ∀ s, s ∈ l → callX XV fk (.d (s.enc .sub) :: caps) B = some (.d (.bool (P s)), B)) :
    callX XV 72 [.d (binds .sub l), .fn fk caps] B = some (.d (.bool (findAt (fun i => P (bAt l i)) l.length 0).isSome), B) := by
  rw [z_call XV _ _ _ v72 rfl xcode_72 rfl]
  have h := indexFuncB_eq l fk caps B P hl hs hcc hk hf
  cases hq : findAt (fun i => P (bAt l i)) l.length 0 with
  | none => rw [hq] at h; simp [v72, r72_0, r72_1, h, orNeg, hcc]
  | some j => rw [hq] at h; simp [v72, r72_0, r72_1, h, orNeg, hcc]
theorem findAt_noneS (q : Nat → Bool) : ∀ (k i : Nat), findAt q k i = none ↔ ∀ j, i ≤ j → j < i + k → q j = false
  | 0, i => by simp [findAt]; intro j h h'; omega
  | k + 1, i => by
    simp only [findAt]
    by_cases h : q i = true
    · simp only [h, if_true]
      constructor
      · intro h'; cases h'
      · intro h'; have := h' i (Nat.le_refl _) (by omega); rw [h] at this; cases this
    · have h' : q i = false := by simpa using h
      simp only [h']
      rw [if_neg (by simp), findAt_noneS q k (i + 1)]
      constructor
      · intro hj j h1 h2
        rcases Nat.eq_or_lt_of_le h1 with rfl | h3
        · exact h'
        · exact hj j h3 (by omega)
      · intro hj j h1 h2; exact hj j (by omega) (by omega)
def someW (s : List Bd) (i : Nat) : Bool := (findAt (fun j => hasV (bAt s j).v (bAt s i)) s.length 0).isSome
def badW (l : List SymL) (s : List Bd) (i : Nat) : Bool := bad1 l s i || someW s i
theorem isSome_false {q : Nat → Bool} {n : Nat} : (findAt q n 0).isSome = false ↔ ∀ j, j < n → q j = false := by
  have h := findAt_noneS q n 0
  cases hq : findAt q n 0 with
  | none => simp only [Option.isSome_none, true_iff]; intro j hj; exact h.1 hq j (Nat.zero_le _) (by omega)
  | some k =>
    simp only [Option.isSome_some]
    constructor
    · intro h'; cases h'
    · intro h'
      have := h.2 (fun j _ hj => h' j (by omega))
      rw [hq] at this; cases this
theorem subOk_W (l : List SymL) (s : List Bd) : subOkB l s = (findAt (badW l s) s.length 0).isNone := by
  have key : (findAt (badB l s) s.length 0).isSome = false ↔ (findAt (badW l s) s.length 0).isSome = false := by
    rw [isSome_false, isSome_false]
    simp only [badB, badW, someV, someW, Bool.or_eq_false_iff, isSome_false]
    constructor
    · intro h i hi; exact ⟨(h i hi).1, fun j hj => (h j hj).2 i hi⟩
    · intro h i hi; exact ⟨(h i hi).1, fun j hj => (h j hj).2 i hi⟩
  unfold subOkB
  cases h1 : findAt (badB l s) s.length 0 <;> cases h2 : findAt (badW l s) s.length 0 <;> simp [h1, h2] at key ⊢
theorem implSubOk_eq (l : List SymL) (s : List Bd) (hs : l.length ≤ 1099511627776) (hn : ∀ i, i < l.length → (symAt l i).name.size ≤ 1099511627776) (hl : s.length ≤ 1099511627776) (hb : ∀ i, i < s.length → (bAt s i).t.inner ≤ 1099511627776) :
    callX XV 68 [.d (sg l), .d (binds .sub s)] [] = some (.d (.bool (subOkB l s)), []) := by
  rw [z_call XV _ _ _ v68 rfl xcode_68 rfl, subOk_W]
  have h := loopX_upto (X := XV) (T := XV.lin 68) (L := 0) (live := [0, 1, 7, 8, 9]) (b := b68_0) (n := s.length) (γ := Nat) (st := fun (_ : Unit) i => ⟨[(0, .d (sg l)), (1, .d (binds .sub s)), (7, .d (binds .sub s)), (8, .d (.int .i64 s.length)), (9, .d (.int .i64 i))], []⟩) (step := stepF (badW l s))
    (F := fun _ => (.exit 0, ⟨[(0, .d (sg l)), (1, .d (binds .sub s)), (7, .d (binds .sub s)), (8, .d (.int .i64 s.length)), (9, .d (.int .i64 s.length)), (10, .d (.bool false))], []⟩)) (R := fun i => (.ret, ⟨[(4, .d (.bool false))], [some (bcells (bAt s i))]⟩))
    (fun _ => ⟨by simp, by simp [b68_0, r68_0, r68_1, r68_2, r68_3, d68_4, r68_5, r68_6, r68_7, r68_8, r68_9]⟩)
    (fun _ i hi => by
      have hw := wrap_succ (n := i) (by omega)
      have n1 := from_eq (bAt s i).v 0 99
      have n2 := implTermOk_eq l hs hn (bAt s i).t (hb i hi)
      have hin := containsFuncB_eq s 71 [.ptr 0 0] [some (bcells (bAt s i))] (fun c => hasV c.v (bAt s i)) hl (by simp) (by simp) (by simp) (fun c _ => sub1_eq (bAt s i) c (hb i hi))
      change _ = some (AV.d (.bool (someW s i)), _) at hin
      unfold bcells at hin ⊢
      cases c1 : inB (bAt s i).v 0 99 with
      | false =>
        rw [c1] at n1
        rw [stepF_t (by simp [badW, bad1, c1])]
        exact ⟨by simp, by simp [b68_0, r68_0, r68_1, r68_2, r68_3, d68_4, r68_5, r68_6, r68_7, r68_8, r68_9, splice, loadBox, hi, hw, cut, bAt_lt hi, n1]⟩
      | true =>
        rw [c1] at n1
        by_cases c0 : 0 < i
        · have hw1 : IntKind.i64.wrap ((i : Int) - 1) = ((i - 1 : Nat) : Int) := by rw [wrap_i64 (by omega) (by omega)]; omega
          have hp : i - 1 < s.length := by omega
          have c0' : (i : Int) > 0 := by omega
          by_cases c2 : (bAt s i).v ≤ (bAt s (i - 1)).v
          · rw [stepF_t (by simp [badW, bad1, c1, c0, c2])]
            exact ⟨by simp, by simp [b68_0, r68_0, r68_1, r68_2, r68_3, d68_4, r68_5, r68_6, r68_7, r68_8, r68_9, splice, loadBox, hi, hw, cut, bAt_lt hi, n1, c0, hw1, hp, bAt_lt hp, c2]⟩
          · cases c3 : termOkB l (bAt s i).t with
            | false =>
              rw [c3] at n2
              rw [stepF_t (by simp [badW, bad1, c3])]
              exact ⟨by simp, by simp [b68_0, r68_0, r68_1, r68_2, r68_3, d68_4, r68_5, r68_6, r68_7, r68_8, r68_9, splice, loadBox, hi, hw, cut, bAt_lt hi, n1, c0, hw1, hp, bAt_lt hp, c2, n2]⟩
            | true =>
              rw [c3] at n2
              cases c4 : someW s i with
              | true =>
                rw [c4] at hin
                rw [stepF_t (by simp [badW, c4])]
                exact ⟨by simp, by simp [b68_0, r68_0, r68_1, r68_2, r68_3, d68_4, r68_5, r68_6, r68_7, r68_8, r68_9, splice, loadBox, hi, hw, cut, bAt_lt hi, n1, c0, hw1, hp, bAt_lt hp, c2, n2, hin]⟩
              | false =>
                rw [c4] at hin
                rw [stepF_f (by simp [badW, bad1, c1, c2, c3, c4])]
                refine ⟨_, by simp [b68_0, r68_0, r68_1, r68_2, r68_3, d68_4, r68_5, r68_6, r68_7, r68_8, r68_9, splice, loadBox, hi, hw, cut, bAt_lt hi, n1, c0, hw1, hp, bAt_lt hp, c2, n2, hin]; rfl, by simp [xheadOf, safeRegs]⟩
        · cases c3 : termOkB l (bAt s i).t with
          | false =>
            rw [c3] at n2
            rw [stepF_t (by simp [badW, bad1, c3])]
            exact ⟨by simp, by simp [b68_0, r68_0, r68_1, r68_2, r68_3, d68_4, r68_5, r68_6, r68_7, r68_8, r68_9, splice, loadBox, hi, hw, cut, bAt_lt hi, n1, c0, n2]⟩
          | true =>
            rw [c3] at n2
            cases c4 : someW s i with
            | true =>
              rw [c4] at hin
              rw [stepF_t (by simp [badW, c4])]
              exact ⟨by simp, by simp [b68_0, r68_0, r68_1, r68_2, r68_3, d68_4, r68_5, r68_6, r68_7, r68_8, r68_9, splice, loadBox, hi, hw, cut, bAt_lt hi, n1, c0, n2, hin]⟩
            | false =>
              rw [c4] at hin
              rw [stepF_f (by simp [badW, bad1, c0, c1, c3, c4])]
              refine ⟨_, by simp [b68_0, r68_0, r68_1, r68_2, r68_3, d68_4, r68_5, r68_6, r68_7, r68_8, r68_9, splice, loadBox, hi, hw, cut, bAt_lt hi, n1, c0, n2, hin]; rfl, by simp [xheadOf, safeRegs]⟩)
    s.length () 0 ⟨[(0, .d (sg l)), (1, .d (binds .sub s)), (7, .d (binds .sub s)), (8, .d (.int .i64 s.length)), (9, .d (.int .i64 0))], []⟩ (by omega) (by simp [xheadOf, safeRegs])
  rw [runF] at h
  simp only [lin_68] at h
  simp [v68, r68_0, r68_1, r68_2, r68_3, d68_4, r68_5, r68_6, r68_7, r68_8, r68_9]
  rw [h]
  cases hq : findAt (badW l s) s.length 0 <;> simp [v68, r68_0, r68_1, r68_2, r68_3, d68_4, r68_5, r68_6, r68_7, r68_8, r68_9]
end Go.Proofs.Ytnjgnjejkmcgmaa.VS
namespace Go.Proofs.Ytnjgnjejkmcgmaa.VS
set_option linter.unusedVariables false
set_option linter.unusedSimpArgs false
def solvedB (l : List SymL) (u : List Bd) (a b : T) : Bool := subOkB l u && (T.cmp (applyT l u a) (applyT l u b) == 0)
theorem implSolved_eq (l : List SymL) (hs : l.length ≤ 1099511627776) (hn : ∀ i, i < l.length → (symAt l i).name.size ≤ 1099511627776) (u : List Bd) (a b : T) (hu : u.length ≤ 1099511627776) (hb : ∀ i, i < u.length → (bAt u i).t.inner ≤ 1099511627776)
    (h1 : a.inner ≤ 1099511627776) (h2 : b.inner ≤ 1099511627776) (hf1 : (fillT u a).inner ≤ 1099511627776) (hf2 : (fillT u b).inner ≤ 1099511627776) :
    callX XV 298 [.d (sg l), .d (binds .sub u), .d (a.enc .sub), .d (b.enc .sub)] [] = some (.d (.bool (solvedB l u a b)), []) := by
  have e0 := implSubOk_eq l u hs hn hu hb
  have e1 := implApply_eq l hs u a hu hb h1 hf1
  have e2 := implApply_eq l hs u b hu hb h2 hf2
  have i1 := applyT_inner l u a
  have i2 := applyT_inner l u b
  have e3 := same_eq (applyT l u a) (applyT l u b) (by omega) (by omega)
  rw [z_call XV _ _ _ v298 rfl xcode_298 rfl]
  unfold solvedB
  generalize applyT l u a = x at *
  generalize applyT l u b = y at *
  cases h : subOkB l u with
  | false =>
    rw [h] at e0
    simp [v298, r298_0, d298_1, e0, splice, isCell_int, isCell_sl, isCellA_d, safe_d, loadBox]
  | true =>
    rw [h] at e0
    simp [v298, r298_0, d298_1, e0, e1, e2, e3, splice, isCell_int, isCell_sl, isCellA_d, safe_d, loadBox]
theorem specSolved_eq (l : List SymL) (hs : l.length ≤ 1099511627776) (hn : ∀ i, i < l.length → (symAt l i).name.size ≤ 1099511627776) (u : List Bd) (a b : T) (hu : u.length ≤ 1099511627776) (hb : ∀ i, i < u.length → (bAt u i).t.inner ≤ 1099511627776)
    (h1 : a.inner ≤ 1099511627776) (h2 : b.inner ≤ 1099511627776) (hf1 : (fillT u a).inner ≤ 1099511627776) (hf2 : (fillT u b).inner ≤ 1099511627776) :
    callX XV 300 [.d (sg l), .d (binds .sub u), .d (a.enc .sub), .d (b.enc .sub)] [] = some (.d (.bool (solvedB l u a b)), []) := by
  have e0 := specSubOk_eq l u hs hn hu hb
  obtain ⟨d1, e1, g1, X1, rfl, x1⟩ := specApply_eq l hs u a hu hb h1 hf1
  obtain ⟨d2, e2, g2, X2, rfl, x2⟩ := specApply_eq l hs u b hu hb h2 hf2
  have i1 := applyT_inner l u a
  have i2 := applyT_inner l u b
  have e3 := specSame_eq (applyT l u a) (applyT l u b) (by omega) (by omega)
  rw [z_call XV _ _ _ v300 rfl xcode_300 rfl]
  unfold solvedB
  generalize applyT l u a = x at *
  generalize applyT l u b = y at *
  cases h : subOkB l u with
  | false =>
    rw [h] at e0
    simp [v300, r300_0, d300_1, e0, splice, isCell_int, isCell_sl, isCellA_d, safe_d, loadBox]
  | true =>
    rw [h] at e0
    simp [v300, r300_0, d300_1, e0, e1, e2, e3, x1, x2, T.eta, splice, isCell_int, isCell_sl, isCellA_d, safe_d, loadBox]
theorem FnExactSolved_x (l : List SymL) (hl : l.length ≤ maxLen) (hol : ∀ s, s ∈ l → s.ok) (u : List Bd) (hu : u.length ≤ maxLen) (hou : ∀ s, s ∈ u → s.ok) (a : T) (ha : a.ok) (b : T) (hb : b.ok) : ∃ B, callX XV 357 [.d (sg l), .d (binds .sub u), .d (a.enc .sub), .d (b.enc .sub)] [] = some (.d (.bool true), B) := by
  rw [z_call XV _ _ _ v357 rfl xcode_357 rfl]
  have z1 := szSymS_eq l 1048576 hl hol (by omega) (by omega)
  by_cases h1 : (1048576 : Int) - symsSize l < 0
  · rw [leftOf_neg h1] at z1
    simp [v357, r357_0, r357_1, r357_2, r357_3, r357_4, r357_5, r357_6, r357_7, r357_8, r357_9, r357_10, r357_11, r357_12, r357_13, d357_14, r357_15, r357_16, r357_17, r357_18, r357_19, r357_20, r357_21, r357_22, r357_23, r357_24, r357_25, d357_26, r357_27, d357_28, r357_29, r357_30, z1]
  rw [leftOf_pos h1] at z1
  have z2 := szBindS_eq u (1048576 - symsSize l) hu hou (by omega) (by omega)
  by_cases h2 : (1048576 : Int) - symsSize l - bindsSize u < 0
  · rw [leftOf_neg h2] at z2
    simp [v357, r357_0, r357_1, r357_2, r357_3, r357_4, r357_5, r357_6, r357_7, r357_8, r357_9, r357_10, r357_11, r357_12, r357_13, d357_14, r357_15, r357_16, r357_17, r357_18, r357_19, r357_20, r357_21, r357_22, r357_23, r357_24, r357_25, d357_26, r357_27, d357_28, r357_29, r357_30, z1, z2, h1]
  rw [leftOf_pos h2] at z2
  have z3 := szTerm_eq a (1048576 - symsSize l - bindsSize u) ha (by omega) (by omega)
  by_cases h3 : (1048576 : Int) - symsSize l - bindsSize u - a.inner < 0
  · rw [leftOf_neg h3] at z3
    simp [v357, r357_0, r357_1, r357_2, r357_3, r357_4, r357_5, r357_6, r357_7, r357_8, r357_9, r357_10, r357_11, r357_12, r357_13, d357_14, r357_15, r357_16, r357_17, r357_18, r357_19, r357_20, r357_21, r357_22, r357_23, r357_24, r357_25, d357_26, r357_27, d357_28, r357_29, r357_30, z1, z2, z3, h1, h2]
  rw [leftOf_pos h3] at z3
  have z4 := szTerm_eq b (1048576 - symsSize l - bindsSize u - a.inner) hb (by omega) (by omega)
  by_cases h4 : (1048576 : Int) - symsSize l - bindsSize u - a.inner - b.inner < 0
  · rw [leftOf_neg h4] at z4
    simp [v357, r357_0, r357_1, r357_2, r357_3, r357_4, r357_5, r357_6, r357_7, r357_8, r357_9, r357_10, r357_11, r357_12, r357_13, d357_14, r357_15, r357_16, r357_17, r357_18, r357_19, r357_20, r357_21, r357_22, r357_23, r357_24, r357_25, d357_26, r357_27, d357_28, r357_29, r357_30, z1, z2, z3, z4, h1, h2, h3]
  rw [leftOf_pos h4] at z4
  have hls : l.length ≤ 1099511627776 := by unfold symsSize at *; omega
  have hn : ∀ i, i < l.length → (symAt l i).name.size ≤ 1099511627776 := fun i hi => by have := name_le l i hi; omega
  have hlu : u.length ≤ 1099511627776 := by unfold bindsSize at *; omega
  have hbu : ∀ i, i < u.length → (bAt u i).t.inner ≤ 1099511627776 := fun i hi => by have := bind_le u i hi; omega
  have f1 := fillT_le u a (bindsSize u) (fun i hi => bind_le u i hi) (by omega)
  have f2 := fillT_le u b (bindsSize u) (fun i hi => bind_le u i hi) (by omega)
  have s1 := implSolved_eq l hls hn u a b hlu hbu (by omega) (by omega) f1 f2
  have s2 := specSolved_eq l hls hn u a b hlu hbu (by omega) (by omega) f1 f2
  generalize solvedB l u a b = q at *
  have t1 := toSymS_eq l hls
  have t2 := toBindS_eq u hlu hbu
  have t3 := toTerm_eq a (by omega)
  have t4 := toTerm_eq b (by omega)
  have e1 := eqSymS_self l hls
  have e2 := eqBindS_self u hlu hbu
  have e3 := eqTerm_self a (by omega)
  have e4 := eqTerm_self b (by omega)
  have hq : (q != q) = false := by simp
  simp [v357, r357_0, r357_1, r357_2, r357_3, r357_4, r357_5, r357_6, r357_7, r357_8, r357_9, r357_10, r357_11, r357_12, r357_13, d357_14, r357_15, r357_16, r357_17, r357_18, r357_19, r357_20, r357_21, r357_22, r357_23, r357_24, r357_25, d357_26, r357_27, d357_28, r357_29, r357_30, z1, z2, z3, z4, h1, h2, h3, h4, s1, s2, t1, t2, t3, t4, e1, e2, e3, e4, hq, splice, isCellA_d, isCell_int, isCell_sl, safes_cons, safes_nil, safe_d, clrs3, loadBox]
end Go.Proofs.Ytnjgnjejkmcgmaa.VS
namespace Go.Proofs.Ytnjgnjejkmcgmaa.VS
set_option linter.unusedVariables false
set_option linter.unusedSimpArgs false
/-! ## From a law's arguments to values without names -/
mutual
def TT.erase : TT → T
  | .node f v g ks => .node f v (TT.erases ks)
def TT.erases : List TT → List T
  | [] => []
  | t :: r => t.erase :: TT.erases r
end
theorem TT.erases_map : ∀ l : List TT, TT.erases l = l.map TT.erase
  | [] => by unfold TT.erases; rfl
  | t :: r => by unfold TT.erases; simp [TT.erases_map r]
mutual
theorem TT.clr_cells : ∀ t : TT, DV.clrs t.cells = [.int .i64 t.erase.f, .int .i64 t.erase.v, terms .sub t.erase.kids]
  | .node f v g ks => by
    simp only [TT.cells, DV.clrs, DV.clr, TT.erase, T.f_node, T.v_node, T.kids_node, terms]
    rw [TT.clr_encs ks]
theorem TT.clr_encs : ∀ l : List TT, DV.clrs (TT.encs l) = (TT.erases l).map (T.enc .sub)
  | [] => by simp [TT.encs, DV.clrs, TT.erases]
  | t :: r => by
    simp only [TT.encs, DV.clrs, DV.clr, TT.erases, List.map_cons]
    rw [TT.clr_cells t, TT.clr_encs r, T.enc_eq]
end
theorem TT.clr_enc (t : TT) : t.enc.clr = t.erase.enc .sub := by
  simp only [TT.enc, DV.clr]
  rw [TT.clr_cells, T.enc_eq]
mutual
theorem TT.ok_erase : ∀ t : TT, t.ok → t.erase.ok
  | .node f v g ks, h => by
    simp only [TT.ok] at h
    simp only [TT.erase, T.ok, TT.erases_map, List.length_map]
    refine ⟨h.2.2.1, ?_⟩
    rw [← TT.erases_map]
    exact TT.oks_erase ks h.2.2.2
theorem TT.oks_erase : ∀ l : List TT, TT.oks l → T.oks (TT.erases l)
  | [], _ => by simp [TT.erases, T.oks]
  | t :: r, h => by
    simp only [TT.oks] at h
    simp only [TT.erases, T.oks]
    exact ⟨TT.ok_erase t h.1, TT.oks_erase r h.2⟩
end
theorem clr_symL (s : SymL) : s.enc.clr = s.enc := by unfold SymL.enc SymL.cells; simp only [DV.clr, DV.clrs]
theorem clr_syms (g : Tag) (l : List SymL) : (syms g l).clr = .sl .sub (l.map SymL.enc) := by
  simp only [syms, clr_sl, List.map_map, Function.comp_def, clr_symL]
theorem plain_of_X (hX : XOK XV) {k : Nat} {vs : List DV} (h : ∃ B, callX XV k ((DV.clrs vs).map .d) [] = some (.d (.bool true), B)) : ∃ A B, callV E [] k (vs.map .d) [] Ids.none = some ⟨.d (.bool true), A, B⟩ := by
  obtain ⟨B, h⟩ := h
  obtain ⟨u, A, Bv, h1, h2⟩ := law_of_X hX (DV.clrs_clrs vs) (DV.clrs_fits vs) (d := .bool true) (by simp [DV.clr]) h
  simp only [DV.fit] at h2; subst h2
  exact ⟨A, Bv, h1⟩
theorem args1 {P : Program} {a : TypeId} : ∀ {xs : List (List DV)}, Args P [a] xs → ∃ x, xs = [x]
  | [x], _ => ⟨x, rfl⟩
  | [], h => h.elim
  | _ :: _ :: _, h => h.2.elim
theorem args2 {P : Program} {a b : TypeId} : ∀ {xs : List (List DV)}, Args P [a, b] xs → ∃ x y, xs = [x, y]
  | x :: r, h => by obtain ⟨y, rfl⟩ := args1 h.2; exact ⟨x, y, rfl⟩
theorem args3 {P : Program} {a b c : TypeId} : ∀ {xs : List (List DV)}, Args P [a, b, c] xs → ∃ x y z, xs = [x, y, z]
  | x :: r, h => by obtain ⟨y, z, rfl⟩ := args2 h.2; exact ⟨x, y, z, rfl⟩
theorem args4 {P : Program} {a b c d : TypeId} : ∀ {xs : List (List DV)}, Args P [a, b, c, d] xs → ∃ x y z w, xs = [x, y, z, w]
  | x :: r, h => by obtain ⟨y, z, w, rfl⟩ := args3 h.2; exact ⟨x, y, z, w, rfl⟩
end Go.Proofs.Ytnjgnjejkmcgmaa.VS
namespace Go.Proofs.Ytnjgnjejkmcgmaa.VS
set_option linter.unusedVariables false
set_option linter.unusedSimpArgs false
/-- A literal. -/
structure L where
  p : Bool
  a : T
  b : T
def L.enc (g : Tag) (x : L) : DV := .agg [.bool x.p, .int .i64 x.a.f, .int .i64 x.a.v, terms g x.a.kids, .int .i64 x.b.f, .int .i64 x.b.v, terms g x.b.kids]
def L.ok (x : L) : Prop := x.a.ok ∧ x.b.ok
@[simp] theorem L.cells_enc (g : Tag) (x : L) : (x.enc g).cells = [.bool x.p, .int .i64 x.a.f, .int .i64 x.a.v, terms g x.a.kids, .int .i64 x.b.f, .int .i64 x.b.v, terms g x.b.kids] := rfl
@[simp] theorem L.cellsA_enc (g : Tag) (x : L) : (AV.d (x.enc g)).cells = [.d (.bool x.p), .d (.int .i64 x.a.f), .d (.int .i64 x.a.v), .d (terms g x.a.kids), .d (.int .i64 x.b.f), .d (.int .i64 x.b.v), .d (terms g x.b.kids)] := rfl
@[simp] theorem L.isCell_enc (g : Tag) (x : L) : (x.enc g).isCell = false := rfl
@[simp] theorem L.clr_enc (g : Tag) (x : L) : (x.enc g).clr = x.enc .sub := by
  simp only [L.enc, DV.clr, DV.clrs, terms, DV.clrs_map, clr_terms]
theorem L.agg_enc (g : Tag) (x : L) : DV.agg [.bool x.p, .int .i64 x.a.f, .int .i64 x.a.v, terms g x.a.kids, .int .i64 x.b.f, .int .i64 x.b.v, terms g x.b.kids] = x.enc g := rfl
def L.cmp (x y : L) : Int := if !x.p && y.p then -1 else if x.p && !y.p then 1 else if T.cmp x.a y.a ≠ 0 then T.cmp x.a y.a else T.cmp x.b y.b
def L.same (x y : L) : Bool := x.p == y.p && (T.cmp x.a y.a == 0) && (T.cmp x.b y.b == 0)
theorem L.cmp_zero (x y : L) : (L.cmp x y == 0) = L.same x y := by
  obtain ⟨p, a, b⟩ := x
  obtain ⟨q, a', b'⟩ := y
  unfold L.cmp L.same
  cases p <;> cases q <;> by_cases c : T.cmp a a' = 0 <;> simp [c]
end Go.Proofs.Ytnjgnjejkmcgmaa.VS
namespace Go.Proofs.Ytnjgnjejkmcgmaa.VS
set_option linter.unusedVariables false
set_option linter.unusedSimpArgs false
variable {P : Program}
/-! ## Literals, and rows of what a type's values are -/
structure LL where
  p : Bool
  a : TT
  b : TT
def LL.cells (x : LL) : List DV := .bool x.p :: (x.a.cells ++ x.b.cells)
def LL.enc (x : LL) : DV := .agg x.cells
def LL.ok (x : LL) : Prop := x.a.ok ∧ x.b.ok
def LL.erase (x : LL) : L := ⟨x.p, x.a.erase, x.b.erase⟩
theorem LL.ok_erase (x : LL) (h : x.ok) : x.erase.ok := ⟨TT.ok_erase _ h.1, TT.ok_erase _ h.2⟩
theorem LL.clr_enc (x : LL) : x.enc.clr = x.erase.enc .sub := by
  have ha := TT.clr_cells x.a
  have hb := TT.clr_cells x.b
  rw [DV.clrs_map] at ha hb
  simp only [LL.enc, LL.cells, DV.clr, DV.clrs_map, List.map_cons, List.map_append, ha, hb, LL.erase, L.enc]
  rfl
/-- A row of values of one type, each of which is some thing's cells. -/
theorem shape_listOf {α : Type} (c : α → List DV) (ok : α → Prop) {t e : TypeId} {x : List DV} (hu : P.underlying t = some (.slice e)) (hE : ∀ y : List DV, Shape P e y → ∃ s : α, y = c s ∧ ok s) (h : Shape P t x) :
    ∃ (g : Tag) (l : List α), x = [.sl g (l.map fun s => elemDV P e (c s))] ∧ l.length ≤ maxLen ∧ ∀ s, s ∈ l → ok s := by
  obtain ⟨g, xs, rfl, q1, q2, q3, q4⟩ := shape_slice hu h
  have key : ∀ xs : List DV, (∀ y : DV, y ∈ xs → y = elemDV P e y.cells) → (∀ y : DV, y ∈ xs → Shape P e y.cells) → ∃ l : List α, xs = (l.map fun s => elemDV P e (c s)) ∧ ∀ s, s ∈ l → ok s := by
    intro xs
    induction xs with
    | nil => intro _ _; exact ⟨[], rfl, by simp⟩
    | cons y r ih =>
      intro p1 p2
      obtain ⟨l, rfl, hl⟩ := ih (fun z hz => p1 z (by simp [hz])) (fun z hz => p2 z (by simp [hz]))
      obtain ⟨s, hs, hok⟩ := hE _ (p2 y (by simp))
      refine ⟨s :: l, ?_, by simpa [hok] using hl⟩
      have := p1 y (by simp)
      rw [hs] at this
      rw [List.map_cons, ← this]
  obtain ⟨l, rfl, hl⟩ := key xs q3 q4
  exact ⟨g, l, rfl, by simpa using q1, hl⟩
/-! Rows of terms -/
/-! Substitutions -/
structure BB where
  v : Int
  t : TT
def BB.cells (x : BB) : List DV := .int .i64 x.v :: x.t.cells
def BB.enc (x : BB) : DV := .agg x.cells
def BB.ok (x : BB) : Prop := (-9223372036854775808 ≤ x.v ∧ x.v ≤ 9223372036854775807) ∧ x.t.ok
def BB.erase (x : BB) : Bd := ⟨x.v, x.t.erase⟩
theorem BB.clr_enc (x : BB) : x.enc.clr = x.erase.enc .sub := by
  have ha := TT.clr_cells x.t
  rw [DV.clrs_map] at ha
  simp only [BB.enc, BB.cells, DV.clr, DV.clrs_map, List.map_cons, ha, BB.erase, Bd.enc]
theorem BB.oks_erase {l : List BB} (h : ∀ s, s ∈ l → BB.ok s) : ∀ s, s ∈ l.map BB.erase → Bd.ok s := by
  intro s hs
  obtain ⟨t, ht, rfl⟩ := List.mem_map.1 hs
  exact ⟨(h t ht).1, TT.ok_erase _ (h t ht).2⟩
def bindsV (g : Tag) (l : List BB) : DV := .sl g (l.map BB.enc)
theorem clr_bindsV (g : Tag) (l : List BB) : (bindsV g l).clr = binds .sub (l.map BB.erase) := by
  simp only [bindsV, clr_sl, List.map_map, Function.comp_def, BB.clr_enc, binds]
theorem shape_bind {t ti tt : TypeId} {fs : Array Field} {x : List DV} (hu : P.underlying t = some (.struct fs)) (hf : fieldsAt fs = [(ti, 0), (tt, 1)]) (h1 : P.underlying ti = some (.int .i64))
    (ht : ∀ x : List DV, Shape P tt x → ∃ s : TT, x = s.cells ∧ s.ok) (hc : P.cellsOf t = 4 ∧ P.cellsOf ti = 1 ∧ P.cellsOf tt = 3) (h : Shape P t x) : ∃ s : BB, x = s.cells ∧ s.ok := by
  obtain ⟨hl, hfs⟩ := shape_struct hu h
  rw [hc.1] at hl
  match x, hl with
  | [a, b, c, d], _ =>
    have e1 := field_shape hfs (t := ti) (o := 0) (by simp [hf])
    have e2 := field_shape hfs (t := tt) (o := 1) (by simp [hf])
    rw [hc.2.1] at e1; rw [hc.2.2] at e2
    simp at e1 e2
    obtain ⟨p, q1, w1⟩ := shape_int h1 e1
    obtain ⟨s, q2, o2⟩ := ht _ e2
    simp at q1
    subst q1
    exact ⟨⟨p, s⟩, by simp only [BB.cells, ← q2], wf_i64 w1, o2⟩
theorem shape_binds {t e ti tt : TypeId} {fs : Array Field} {x : List DV} (hs : P.underlying t = some (.slice e)) (hu : P.underlying e = some (.struct fs)) (hf : fieldsAt fs = [(ti, 0), (tt, 1)]) (h1 : P.underlying ti = some (.int .i64))
    (ht : ∀ x : List DV, Shape P tt x → ∃ s : TT, x = s.cells ∧ s.ok) (hc : P.cellsOf e = 4 ∧ P.cellsOf ti = 1 ∧ P.cellsOf tt = 3) (h : Shape P t x) : ∃ g l, x = [bindsV g l] ∧ l.length ≤ maxLen ∧ ∀ s, s ∈ l → s.ok := by
  obtain ⟨g, l, rfl, q1, q2⟩ := shape_listOf BB.cells BB.ok hs (fun y hy => shape_bind hu hf h1 ht hc hy) h
  exact ⟨g, l, by simp [bindsV, elemDV, hu, BB.enc, Function.comp_def], q1, q2⟩
/-! Bytes -/
end Go.Proofs.Ytnjgnjejkmcgmaa.VS
