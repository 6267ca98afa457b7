/- Contracts of the program's functions on the evaluator without names, and plain lemmas: XHeldT. -/
import Derived.Test.YtanfjghdjkiggaaXMarkT
namespace Go.Proofs.Ytanfjghdjkiggaa.VS
set_option linter.unusedVariables false
set_option linter.unusedSimpArgs false
/-! ## Terms that lie in boxes: what is held; how they are lent -/
theorem heldStep (S B1 : Boxs) (ix n i : Nat) (K0 K1 K2 Kn : Int) (C1 C2 : List AV) (row : AV) (hS : S.length = ix) (hi : i < n) (hn : n ≤ 1048576) (hC : C1.length = i * 3) (hw1 : IntKind.i64.wrap (K0 + 1) = K1) (hw2 : IntKind.i64.wrap (K1 + 1) = K2) (hrow : row.clr = row) (hKn : ¬ Kn < 0)
    (hcall : callX XV 292 [row, .d (.int .i64 K2)] (S ++ some (C1 ++ .d (.int .i64 K0) :: .d (.int .i64 K1) :: row :: C2) :: B1) = some (.d (.int .i64 Kn), S ++ some (C1 ++ .d (.int .i64 K0) :: .d (.int .i64 K1) :: row :: C2) :: B1)) :
    codeX XV (XV.lin 292) b292_0 ⟨[(0, .tsl true ix 3 n), (1, .d (.int .i64 K0)), (5, .d (.int .i64 (i : Int)))], S ++ some (C1 ++ .d (.int .i64 K0) :: .d (.int .i64 K1) :: row :: C2) :: B1⟩ =
      some (.normal, ⟨[(0, .tsl true ix 3 n), (1, .d (.int .i64 Kn)), (5, .d (.int .i64 ((i + 1 : Nat) : Int)))], S ++ some (C1 ++ .d (.int .i64 K0) :: .d (.int .i64 K1) :: row :: C2) :: B1⟩) := by
  have hw := wrap_succ (n := i) (by omega)
  have hget : ∀ (c : List AV) (r : Boxs), (S ++ some c :: r)[ix]? = some (some c) := fun c r => by rw [← hS]; exact get_at S (some c) r
  have g0 := fun a => ga0 C1 (.d (.int .i64 K1) :: row :: C2) a i hC
  have g1 := fun a b => ga1 C1 (row :: C2) a b i hC
  have g2 := fun a b => ga2 C1 C2 a b row i hC
  simp [b292_0, r292_0, r292_1, r292_2, r292_4, r292_5, r292_6, r292_7, r292_8, r292_9, r292_10, r292_11, r292_12, r292_3, r292_13, hi, hw, hw1, hw2, hget, g0, g1, g2, hrow, hKn, hcall]
theorem marks_append : ∀ (a c : List T) (k : Nat), T.marks k (a ++ c) = T.marks k a ++ T.marks (k + 2 * cnts a) c
  | [], c, k => by simp [T.marks, cnts, T.inners]
  | t :: r, c, k => by
    simp only [List.cons_append, T.marks, marks_append r, cnts_cons]
    rw [show k + 2 * (t.inner + 1) + 2 * cnts r = k + 2 * (t.inner + 1 + cnts r) by omega]
theorem heldRow_of (ks : List T) (hl : ks.length ≤ 1048576) (hrec : ∀ t, t ∈ ks → ∀ (k : Nat), k + 2 * t.inner ≤ 4611686018427387904 → ∀ (B0 B1 : Boxs), callX XV 292 [tRow B0.length t.kids, .d (.int .i64 (k : Int))] (B0 ++ bRow B0.length (T.marks k t.kids) ++ B1) = some (.d (.int .i64 ((k + 2 * t.inner : Nat) : Int)), B0 ++ bRow B0.length (T.marks k t.kids) ++ B1))
    (k : Nat) (hk : k + 2 * cnts ks ≤ 4611686018427387904) (B0 B1 : Boxs) :
    callX XV 292 [tRow B0.length ks, .d (.int .i64 (k : Int))] (B0 ++ bRow B0.length (T.marks k ks) ++ B1) = some (.d (.int .i64 ((k + 2 * cnts ks : Nat) : Int)), B0 ++ bRow B0.length (T.marks k ks) ++ B1) := by
  rw [z_call XV _ _ _ v292 rfl xcode_292 rfl]
  by_cases hne : ks = []
  · subst hne
    have h := loopX_upto (X := XV) (T := XV.lin 292) (L := (B0 ++ B1).length) (live := [0, 1, 5]) (b := b292_0) (n := 0) (β := Unit) (γ := Unit) (st := fun _ i => ⟨[(0, .d (.sl .sub [])), (1, .d (.int .i64 k)), (5, .d (.int .i64 i))], B0 ++ B1⟩) (step := fun _ _ => .inl ())
      (F := fun _ => (.exit 0, ⟨[(0, .d (.sl .sub [])), (1, .d (.int .i64 k)), (5, .d (.int .i64 0)), (9, .d (.bool false))], B0 ++ B1⟩)) (R := fun _ => (.ret, ⟨[], []⟩)) (fun a => ⟨by simp, by simp [b292_0, r292_0, r292_1, r292_2, r292_4, r292_5, r292_6, r292_7, r292_8, r292_9, r292_10, r292_11, r292_12, r292_3, r292_13]⟩) (fun a i hi => by omega) 0 () 0 ⟨[(0, .d (.sl .sub [])), (1, .d (.int .i64 k)), (5, .d (.int .i64 0))], B0 ++ B1⟩ rfl (head_cut (e := []) (by simp) (by simp [safeRegs]) rfl (by simp))
    simp only [runN, List.length_append, lin_292] at h
    have htk : List.take (B0.length + B1.length) (B0 ++ B1) = B0 ++ B1 := List.take_of_length_le (by simp)
    simp [tRow, bRow, T.marks, cnts, T.inners, terms, v292, r292_0, r292_1, r292_2, r292_4, r292_5, r292_6, r292_7, r292_8, r292_9, r292_10, r292_11, r292_12, r292_3, r292_13]
    rw [h]
    simp [htk, v292, r292_0, r292_1, r292_2, r292_4, r292_5, r292_6, r292_7, r292_8, r292_9, r292_10, r292_11, r292_12, r292_3, r292_13]
  · have hmn : T.marks k ks ≠ [] := fun h => hne ((marks_nil ks k).1 h)
    rw [tRow_cons _ _ hne, bRow_cons _ _ hmn]
    have hlen : (B0 ++ T.bxs B0.length (T.marks k ks)).length = B0.length + T.nbs ks := by rw [List.length_append, bxs_len, nbs_marks]
    have h := loopX_upto (X := XV) (T := XV.lin 292) (L := B0.length + T.nbs ks + (B1.length + 1)) (live := [0, 1, 5]) (b := b292_0) (n := ks.length) (γ := Unit) (st := fun (_ : Unit) i => ⟨[(0, .tsl true (B0.length + T.nbs ks) 3 ks.length), (1, .d (.int .i64 ((k + 2 * cnts (ks.take i) : Nat) : Int))), (5, .d (.int .i64 i))], (B0 ++ T.bxs B0.length (T.marks k ks)) ++ some (tCells B0.length (T.marks k ks)) :: B1⟩) (step := fun _ _ => .inl ())
      (F := fun _ => (.exit 0, ⟨[(0, .tsl true (B0.length + T.nbs ks) 3 ks.length), (1, .d (.int .i64 ((k + 2 * cnts ks : Nat) : Int))), (5, .d (.int .i64 ks.length)), (9, .d (.bool false))], (B0 ++ T.bxs B0.length (T.marks k ks)) ++ some (tCells B0.length (T.marks k ks)) :: B1⟩)) (R := fun _ => (.ret, ⟨[], []⟩))
      (fun _ => ⟨by simp, by rw [List.take_length]; generalize ((k + 2 * cnts ks : Nat) : Int) = K; simp [b292_0, r292_0, r292_1, r292_2, r292_4, r292_5, r292_6, r292_7, r292_8, r292_9, r292_10, r292_11, r292_12, r292_3, r292_13]⟩)
      (fun _ i hi => by
        have hkt : k + 2 * cnts (ks.take (i + 1)) ≤ 4611686018427387904 := by have := cnts_le ks (i + 1); omega
        have hct := cnts_take ks i hi
        have hsp : T.marks k ks = T.marks k (ks.take i) ++ (tAt ks i).mark (k + 2 * cnts (ks.take i)) :: T.marks (k + 2 * cnts (ks.take (i + 1))) (ks.drop (i + 1)) := by
          have : ks = ks.take (i + 1) ++ ks.drop (i + 1) := (List.take_append_drop _ _).symm
          rw [this, marks_append, take_snoc ks i hi, marks_snoc]
          rw [← take_snoc ks i hi, ← this]; simp
        have hr := hrec _ (tAt_mem hi) (k + 2 * cnts (ks.take i) + 2) (by omega) (B0 ++ T.bxs B0.length (T.marks k (ks.take i))) (T.bxs (B0.length + T.nbs (T.marks k (ks.take i)) + rowN (tAt ks i).kids) (T.marks (k + 2 * cnts (ks.take (i + 1))) (ks.drop (i + 1))) ++ some (tCells B0.length (T.marks k ks)) :: B1)
        have hl0 : (B0 ++ T.bxs B0.length (T.marks k (ks.take i))).length = B0.length + T.nbs (T.marks k (ks.take i)) := by rw [List.length_append, bxs_len]
        rw [hl0] at hr
        have c2 := tCells_mid (T.marks k (ks.take i)) (T.marks (k + 2 * cnts (ks.take (i + 1))) (ks.drop (i + 1))) ((tAt ks i).mark (k + 2 * cnts (ks.take i))) B0.length
        have b2 := bxs_mid (T.marks k (ks.take i)) (T.marks (k + 2 * cnts (ks.take (i + 1))) (ks.drop (i + 1))) ((tAt ks i).mark (k + 2 * cnts (ks.take i))) B0.length
        rw [mark_kids, rowN_marks, ← hsp] at b2
        rw [mark_f, mark_v, mark_kids, rowN_marks, tRow_marks, ← hsp] at c2
        have hS' : (B0 ++ T.bxs B0.length (T.marks k (ks.take i))) ++ bRow (B0.length + T.nbs (T.marks k (ks.take i))) (T.marks (k + 2 * cnts (ks.take i) + 2) (tAt ks i).kids) ++ (T.bxs (B0.length + T.nbs (T.marks k (ks.take i)) + rowN (tAt ks i).kids) (T.marks (k + 2 * cnts (ks.take (i + 1))) (ks.drop (i + 1))) ++ some (tCells B0.length (T.marks k ks)) :: B1) = (B0 ++ T.bxs B0.length (T.marks k ks)) ++ some (tCells B0.length (T.marks k ks)) :: B1 := by rw [b2]; simp
        rw [hS'] at hr
        rw [show k + 2 * cnts (ks.take i) + 2 + 2 * (tAt ks i).inner = k + 2 * cnts (ks.take (i + 1)) by omega] at hr
        rw [c2] at hr
        have hst := heldStep (B0 ++ T.bxs B0.length (T.marks k ks)) B1 (B0.length + T.nbs ks) ks.length i ((k + 2 * cnts (ks.take i) : Nat) : Int) ((k + 2 * cnts (ks.take i) + 1 : Nat) : Int) ((k + 2 * cnts (ks.take i) + 2 : Nat) : Int) ((k + 2 * cnts (ks.take (i + 1)) : Nat) : Int)
          (tCells B0.length (T.marks k (ks.take i))) (tCells (B0.length + T.nbs (T.marks k (ks.take i)) + rowN (tAt ks i).kids) (T.marks (k + 2 * cnts (ks.take (i + 1))) (ks.drop (i + 1)))) (tRow (B0.length + T.nbs (T.marks k (ks.take i))) (tAt ks i).kids) hlen hi hl
          (by rw [tCells_len, marks_len, List.length_take]; omega) (wrap_succ (by omega)) (wrap_succ (by omega)) (clr_tRow _ _) (by omega) hr
        rw [← c2] at hst
        exact ⟨_, hst, head_cut (e := []) (by simp) (by simp [safeRegs, safe_tsl]) (by rw [List.length_append, hlen]; simp) (by simp)⟩)
      ks.length () 0 ⟨[(0, .tsl true (B0.length + T.nbs ks) 3 ks.length), (1, .d (.int .i64 (k : Int))), (5, .d (.int .i64 0))], (B0 ++ T.bxs B0.length (T.marks k ks)) ++ some (tCells B0.length (T.marks k ks)) :: B1⟩ (by omega) (head_cut (e := []) (by simp [cnts, T.inners]) (by simp [safeRegs, safe_tsl]) (by rw [List.length_append, hlen]; simp) (by simp))
    rw [run_on] at h
    simp only [lin_292] at h
    have hap : ∀ (X : Boxs) (c : List AV), B0 ++ (X ++ [some c]) ++ B1 = (B0 ++ X) ++ some c :: B1 := fun X c => by simp
    rw [hap]
    have hln3 : ((B0 ++ T.bxs B0.length (T.marks k ks)) ++ some (tCells B0.length (T.marks k ks)) :: B1).length = B0.length + T.nbs ks + (B1.length + 1) := by simp [bxs_len, nbs_marks]; omega
    generalize hQ' : (B0 ++ T.bxs B0.length (T.marks k ks)) ++ some (tCells B0.length (T.marks k ks)) :: B1 = Q' at h hln3 ⊢
    generalize ((k + 2 * cnts ks : Nat) : Int) = Kn at h ⊢
    rw [← hln3] at h
    simp [v292, r292_0, r292_1, r292_2, r292_4, r292_5, r292_6, r292_7, r292_8, r292_9, r292_10, r292_11, r292_12, r292_3, r292_13]
    rw [h]
    simp [v292, r292_0, r292_1, r292_2, r292_4, r292_5, r292_6, r292_7, r292_8, r292_9, r292_10, r292_11, r292_12, r292_3, r292_13]
theorem heldRow_eq (ks : List T) (hl : cnts ks ≤ 1048576) (k : Nat) (hk : k + 2 * cnts ks ≤ 4611686018427387904) (B0 B1 : Boxs) :
    callX XV 292 [tRow B0.length ks, .d (.int .i64 (k : Int))] (B0 ++ bRow B0.length (T.marks k ks) ++ B1) = some (.d (.int .i64 ((k + 2 * cnts ks : Nat) : Int)), B0 ++ bRow B0.length (T.marks k ks) ++ B1) :=
  heldRow_of ks (by unfold cnts at hl; omega) (fun t ht k hk B0 B1 => by
    have hin := T.inners_mem ht
    have hct : cnts t.kids ≤ 1048576 := by rw [cnts_kids]; unfold cnts at hl; omega
    have := heldRow_eq t.kids hct k (by rw [cnts_kids]; exact hk) B0 B1
    rw [cnts_kids] at this; exact this) k hk B0 B1
termination_by SizeOf.sizeOf ks
decreasing_by
  have h1 := List.sizeOf_lt_of_mem ht
  have h2 : SizeOf.sizeOf t.kids < SizeOf.sizeOf t := by cases t; simp [T.kids]; omega
  omega
end Go.Proofs.Ytanfjghdjkiggaa.VS
