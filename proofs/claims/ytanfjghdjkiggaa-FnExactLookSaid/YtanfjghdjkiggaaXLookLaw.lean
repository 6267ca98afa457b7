/- Contracts of the program's functions on the evaluator without names, and plain lemmas: XLookLaw. -/
import Derived.Test.YtanfjghdjkiggaaXMarkB
import Derived.Test.YtanfjghdjkiggaaXVarsLaw
namespace Go.Proofs.Ytanfjghdjkiggaa.VS
set_option linter.unusedVariables false
set_option linter.unusedSimpArgs false
theorem markBinds_eq (l : List Bd) (hl : l.length ≤ 1048576) (hb : ∀ i, i < l.length → (bAt l i).t.inner ≤ 1048576) (k : Nat) (hk : k + cntB l ≤ 4611686018427387904) (B0 B1 : Boxs) :
    callX XV 293 [tBs B0.length l, .d (.int .i64 (k : Int))] (B0 ++ bBs B0.length l ++ B1) = some (.d (.int .i64 ((k + cntB l : Nat) : Int)), B0 ++ (if l = [] then [] else T.bxs B0.length (ts (mkB l k)) ++ [some (bCells B0.length (mkB l k))]) ++ B1) := by
  rw [z_call XV _ _ _ v293 rfl xcode_293 rfl]
  by_cases hne : l = []
  · subst hne
    have h := loopX_upto (X := XV) (T := []) (L := (B0 ++ B1).length) (live := [0, 1, 5]) (b := b293_0) (n := 0) (β := Unit) (γ := Unit) (st := fun _ i => ⟨[(0, .d (.sl .sub [])), (1, .d (.int .i64 k)), (5, .d (.int .i64 i))], B0 ++ B1⟩) (step := fun _ _ => .inl ())
      (F := fun _ => (.exit 0, ⟨[(0, .d (.sl .sub [])), (1, .d (.int .i64 k)), (5, .d (.int .i64 0)), (9, .d (.bool false))], B0 ++ B1⟩)) (R := fun _ => (.ret, ⟨[], []⟩)) (fun a => ⟨by simp, by simp [b293_0, r293_0, r293_1, r293_2, r293_4, r293_5, r293_6, r293_7, r293_8, r293_9, r293_10, r293_3, r293_11]⟩) (fun a i hi => by omega) 0 () 0 ⟨[(0, .d (.sl .sub [])), (1, .d (.int .i64 k)), (5, .d (.int .i64 0))], B0 ++ B1⟩ rfl (head_cut (e := []) (by simp) (by simp [safeRegs]) rfl (by simp))
    simp only [runN, List.length_append] at h
    have htk : List.take (B0.length + B1.length) (B0 ++ B1) = B0 ++ B1 := List.take_of_length_le (by simp)
    simp [tBs, bBs, cntB, binds, v293, r293_0, r293_1, r293_2, r293_4, r293_5, r293_6, r293_7, r293_8, r293_9, r293_10, r293_3, r293_11]
    rw [h]
    simp [htk, v293, r293_0, r293_1, r293_2, r293_4, r293_5, r293_6, r293_7, r293_8, r293_9, r293_10, r293_3, r293_11]
  · have hlen : ∀ i, (B0 ++ T.bxs B0.length (ts (upB l k i))).length = B0.length + T.nbs (ts l) := fun i => by rw [List.length_append, bxs_len, upB_nbs]
    have h := loopX_upto (X := XV) (T := []) (L := B0.length + T.nbs (ts l) + (B1.length + 1)) (live := [0, 1, 5]) (b := b293_0) (n := l.length) (γ := Unit) (st := fun (_ : Unit) i => ⟨[(0, .tsl true (B0.length + T.nbs (ts l)) 4 l.length), (1, .d (.int .i64 ((k + cntB (l.take i) : Nat) : Int))), (5, .d (.int .i64 i))], (B0 ++ T.bxs B0.length (ts (upB l k i))) ++ some (bCells B0.length (upB l k i)) :: B1⟩) (step := fun _ _ => .inl ())
      (F := fun _ => (.exit 0, ⟨[(0, .tsl true (B0.length + T.nbs (ts l)) 4 l.length), (1, .d (.int .i64 ((k + cntB l : Nat) : Int))), (5, .d (.int .i64 l.length)), (9, .d (.bool false))], (B0 ++ T.bxs B0.length (ts (upB l k l.length))) ++ some (bCells B0.length (upB l k l.length)) :: B1⟩)) (R := fun _ => (.ret, ⟨[], []⟩))
      (fun _ => ⟨by simp, by rw [List.take_length]; generalize ((k + cntB l : Nat) : Int) = K; simp [b293_0, r293_0, r293_1, r293_2, r293_4, r293_5, r293_6, r293_7, r293_8, r293_9, r293_10, r293_3, r293_11]⟩)
      (fun _ i hi => by
        have hkt : k + cntB (l.take (i + 1)) ≤ 4611686018427387904 := by have := cntB_le l (i + 1); omega
        have hct := cntB_take l i hi
        have hin := hb i hi
        have hr := markRow_eq (bAt l i).t.kids (by rw [cnts_kids]; exact hin) (k + cntB (l.take i) + 3) (by rw [cnts_kids]; omega) (B0 ++ T.bxs B0.length (ts (mkB (l.take i) k))) (T.bxs (B0.length + T.nbs (ts (mkB (l.take i) k)) + rowN (bAt l i).t.kids) (ts (l.drop (i + 1))) ++ some (bCells B0.length (upB l k (i + 1))) :: B1)
        rw [cnts_kids] at hr
        have hl0 : (B0 ++ T.bxs B0.length (ts (mkB (l.take i) k))).length = B0.length + T.nbs (ts (mkB (l.take i) k)) := by rw [List.length_append, bxs_len]
        rw [hl0] at hr
        have e1 := upB_at l k i hi
        have e2 := upB_next l k i hi
        have c1 := bCells_mid (mkB (l.take i) k) (l.drop (i + 1)) (bAt l i) B0.length
        have c2 := bCells_mid (mkB (l.take i) k) (l.drop (i + 1)) (mkBd (bAt l i) (k + cntB (l.take i))) B0.length
        have b1 := tbx_mid (mkB (l.take i) k) (l.drop (i + 1)) (bAt l i) B0.length
        have b2 := tbx_mid (mkB (l.take i) k) (l.drop (i + 1)) (mkBd (bAt l i) (k + cntB (l.take i))) B0.length
        have mf : ∀ x k, (mkBd x k).v = (k : Int) ∧ (mkBd x k).t.f = ((k + 1 : Nat) : Int) ∧ (mkBd x k).t.v = ((k + 2 : Nat) : Int) ∧ (mkBd x k).t.kids = T.marks (k + 3) x.t.kids := fun x k => ⟨rfl, rfl, rfl, rfl⟩
        rw [(mf _ _).2.2.2, rowN_marks] at b2
        rw [(mf _ _).1, (mf _ _).2.1, (mf _ _).2.2.1, (mf _ _).2.2.2, rowN_marks, tRow_marks] at c2
        rw [← e1] at c1 b1
        rw [← e2] at c2 b2
        have hS : (B0 ++ T.bxs B0.length (ts (mkB (l.take i) k))) ++ bRow (B0.length + T.nbs (ts (mkB (l.take i) k))) (bAt l i).t.kids ++ (T.bxs (B0.length + T.nbs (ts (mkB (l.take i) k)) + rowN (bAt l i).t.kids) (ts (l.drop (i + 1))) ++ some (bCells B0.length (upB l k (i + 1))) :: B1) = (B0 ++ T.bxs B0.length (ts (upB l k i))) ++ some (bCells B0.length (upB l k (i + 1))) :: B1 := by rw [b1]; simp only [List.append_assoc]
        have hS' : (B0 ++ T.bxs B0.length (ts (mkB (l.take i) k))) ++ bRow (B0.length + T.nbs (ts (mkB (l.take i) k))) (T.marks (k + cntB (l.take i) + 3) (bAt l i).t.kids) ++ (T.bxs (B0.length + T.nbs (ts (mkB (l.take i) k)) + rowN (bAt l i).t.kids) (ts (l.drop (i + 1))) ++ some (bCells B0.length (upB l k (i + 1))) :: B1) = (B0 ++ T.bxs B0.length (ts (upB l k (i + 1)))) ++ some (bCells B0.length (upB l k (i + 1))) :: B1 := by rw [b2]; simp only [List.append_assoc]
        rw [hS, hS'] at hr
        rw [show k + cntB (l.take i) + 3 + 2 * (bAt l i).t.inner = k + cntB (l.take (i + 1)) by omega] at hr
        rw [c2] at hr
        have hst := markStepB (B0 ++ T.bxs B0.length (ts (upB l k i))) (B0 ++ T.bxs B0.length (ts (upB l k (i + 1)))) B1 (B0.length + T.nbs (ts l)) l.length i ((k + cntB (l.take i) : Nat) : Int) ((k + cntB (l.take i) + 1 : Nat) : Int) ((k + cntB (l.take i) + 2 : Nat) : Int) ((k + cntB (l.take i) + 3 : Nat) : Int) ((k + cntB (l.take (i + 1)) : Nat) : Int)
          (bCells B0.length (mkB (l.take i) k)) (bCells (B0.length + T.nbs (ts (mkB (l.take i) k)) + rowN (bAt l i).t.kids) (l.drop (i + 1))) (.d (.int .i64 (bAt l i).v)) (.d (.int .i64 (bAt l i).t.f)) (.d (.int .i64 (bAt l i).t.v)) (tRow (B0.length + T.nbs (ts (mkB (l.take i) k))) (bAt l i).t.kids) (hlen i) (hlen (i + 1)) hi hl
          (by rw [bCells_len, mkB_len, List.length_take]; omega) (wrap_succ (by omega)) (wrap_succ (by omega)) (wrap_succ (by omega)) (clr_tRow _ _) hr
        rw [← c1, ← c2] at hst
        exact ⟨_, hst, head_cut (e := []) (by simp) (by simp [safeRegs, safe_tsl]) (by rw [List.length_append, hlen]; simp) (by simp)⟩)
      l.length () 0 ⟨[(0, .tsl true (B0.length + T.nbs (ts l)) 4 l.length), (1, .d (.int .i64 (k : Int))), (5, .d (.int .i64 0))], (B0 ++ T.bxs B0.length (ts l)) ++ some (bCells B0.length l) :: B1⟩ (by omega) (head_cut (e := []) (by simp [cntB]) (by simp [safeRegs, safe_tsl]) (by rw [upB_zero, List.length_append, List.length_append, bxs_len]; simp) (by simp [upB_zero]))
    rw [run_on, upB_all] at h
    rw [if_neg hne]
    have hap : ∀ (X : Boxs) (c : List AV), B0 ++ (X ++ [some c]) ++ B1 = (B0 ++ X) ++ some c :: B1 := fun X c => by simp
    have hln2 : ((B0 ++ T.bxs B0.length (ts l)) ++ some (bCells B0.length l) :: B1).length = B0.length + T.nbs (ts l) + (B1.length + 1) := by simp [bxs_len]; omega
    have hln3 : ((B0 ++ T.bxs B0.length (ts (mkB l k))) ++ some (bCells B0.length (mkB l k)) :: B1).length = B0.length + T.nbs (ts l) + (B1.length + 1) := by
      have := mkB_nbs l k
      simp only [List.length_append, bxs_len, List.length_cons, this]
    simp only [tBs, bBs, if_neg hne]
    rw [hap, hap]
    generalize hQ : (B0 ++ T.bxs B0.length (ts l)) ++ some (bCells B0.length l) :: B1 = Q at h hln2 ⊢
    generalize hQ' : (B0 ++ T.bxs B0.length (ts (mkB l k))) ++ some (bCells B0.length (mkB l k)) :: B1 = Q' at h hln3 ⊢
    generalize ((k + cntB l : Nat) : Int) = Kn at h ⊢
    rw [← hln2] at h
    have htk : List.take Q.length Q' = Q' := List.take_of_length_le (by omega)
    simp [v293, r293_0, r293_1, r293_2, r293_4, r293_5, r293_6, r293_7, r293_8, r293_9, r293_10, r293_3, r293_11]
    rw [h]
    simp [v293, r293_0, r293_1, r293_2, r293_4, r293_5, r293_6, r293_7, r293_8, r293_9, r293_10, r293_3, r293_11, htk]
theorem lookT_inner (l : List Bd) (n : Int) (hb : ∀ i, i < l.length → (bAt l i).t.inner ≤ 1048576) : (lookT l n).inner ≤ 1048576 := by
  unfold lookT
  cases hq : foundB l n with
  | none => simp [T.inner, T.inners]
  | some j =>
    have hj : j < l.length := by have := (findAt_lt _ _ _ _ hq).2.1; omega
    exact hb j hj
theorem allU_terms (l : List T) : (terms U l).allU = true := by
  have h := allU_enc (.node 0 0 l)
  rw [T.enc_eq] at h
  have h2 : DV.allU (.agg [.int .i64 0, .int .i64 0, terms U l]) = (true && (true && ((terms U l).allU && true))) := rfl
  rw [T.f_node, T.v_node, T.kids_node, h2] at h
  simpa using h
theorem allU_bd (x : Bd) : (x.enc U).allU = true := by
  have h2 : (x.enc U).allU = (true && (true && (true && ((terms U x.t.kids).allU && true)))) := rfl
  rw [h2, allU_terms]; rfl
theorem allUs_binds : ∀ l : List Bd, DV.allUs (l.map (Bd.enc U)) = true
  | [] => rfl
  | x :: r => by
    have h2 : DV.allUs ((x :: r).map (Bd.enc U)) = ((x.enc U).allU && DV.allUs (r.map (Bd.enc U))) := rfl
    rw [h2, allU_bd, allUs_binds r]; rfl
theorem allUT_binds (l : List Bd) : (binds U l).allUT = true := by
  cases l with
  | nil => rfl
  | cons x r =>
    have h2 : (binds U (x :: r)).allUT = (decide (U = U) && DV.allUs ((x :: r).map (Bd.enc U))) := rfl
    rw [h2, allUs_binds]; simp
theorem cntB_size (l : List Bd) : cntB l ≤ 3 * l.length + 2 * sumW (fun i => (bAt l i).t.inner) 0 l.length := by
  have h : ∀ (k : Nat), k ≤ l.length → cntB (l.take k) ≤ 3 * k + 2 * sumW (fun i => (bAt l i).t.inner) 0 k := by
    intro k
    induction k with
    | zero => intro _; simp [cntB]
    | succ k ih =>
      intro hk
      have := ih (by omega)
      have hs : ∀ (w : Nat → Nat) (a n : Nat), sumW w a (n + 1) = sumW w a n + w (a + n) := by
        intro w a n
        induction n generalizing a with
        | zero => simp [sumW]
        | succ n ih => rw [sumW, ih (a + 1)]; simp [sumW, Nat.add_assoc, Nat.add_comm 1 n]
      rw [cntB_take l k (by omega), hs, Nat.zero_add]; omega
  have := h l.length (Nat.le_refl _)
  rw [List.take_length] at this
  exact this
end Go.Proofs.Ytanfjghdjkiggaa.VS
