/- Contracts of the program's functions on the evaluator without names, and plain lemmas: XMarkB. -/
import Derived.Test.YtanfjghdjkiggaaXLook
namespace Go.Proofs.Ytanfjghdjkiggaa.VS
set_option linter.unusedVariables false
set_option linter.unusedSimpArgs false
/-! ## Substitutions that lie in boxes -/
abbrev ts (l : List Bd) : List T := l.map Bd.t
def bCells (b : Nat) : List Bd → List AV
  | [] => []
  | x :: r => .d (.int .i64 x.v) :: .d (.int .i64 x.t.f) :: .d (.int .i64 x.t.v) :: tRow b x.t.kids :: bCells (b + rowN x.t.kids) r
def tBs (b : Nat) (l : List Bd) : AV := if l = [] then .d (binds .sub []) else .tsl true (b + T.nbs (ts l)) 4 l.length
def bBs (b : Nat) (l : List Bd) : Boxs := if l = [] then [] else T.bxs b (ts l) ++ [some (bCells b l)]
theorem bCells_len : ∀ (l : List Bd) (b : Nat), (bCells b l).length = 4 * l.length
  | [], b => rfl
  | x :: r, b => by simp [bCells, bCells_len r]; omega
theorem nb_t (t : T) : t.nb = rowN t.kids := by obtain ⟨f, v, ks⟩ := t; rw [nb_node]; rfl
theorem bx_t (b : Nat) (t : T) : t.bx b = bRow b t.kids := by obtain ⟨f, v, ks⟩ := t; rw [bx_node]; rfl
theorem bCells_append : ∀ (a c : List Bd) (b : Nat), bCells b (a ++ c) = bCells b a ++ bCells (b + T.nbs (ts a)) c
  | [], c, b => by simp [bCells, T.nbs]
  | x :: r, c, b => by simp [bCells, bCells_append r c, T.nbs, nb_t, Nat.add_assoc]
theorem bCells_mid (M R : List Bd) (x : Bd) (b : Nat) : bCells b (M ++ x :: R) = bCells b M ++ .d (.int .i64 x.v) :: .d (.int .i64 x.t.f) :: .d (.int .i64 x.t.v) :: tRow (b + T.nbs (ts M)) x.t.kids :: bCells (b + T.nbs (ts M) + rowN x.t.kids) R := by
  rw [bCells_append]; simp [bCells]
theorem thw_kids (t : T) (b : Nat) : thw b (terms .sub t.kids) = ([tRow b t.kids], t.bx b) := by
  have h := thwT t b
  rw [T.enc_eq] at h
  have h2 : thw b (.agg [.int .i64 t.f, .int .i64 t.v, terms .sub t.kids]) = thws b [.int .i64 t.f, .int .i64 t.v, terms .sub t.kids] := rfl
  rw [h2, thws3] at h
  have h3 := congrArg Prod.fst h
  have h4 := congrArg Prod.snd h
  simp only [List.cons.injEq, true_and] at h3 h4
  exact Prod.ext h3 h4
theorem thws4 (f v w : Int) (x : DV) (b : Nat) : thws b [.int .i64 f, .int .i64 v, .int .i64 w, x] = (.d (.int .i64 f) :: .d (.int .i64 v) :: .d (.int .i64 w) :: (thw b x).1, (thw b x).2) := by simp [thws, thw]
theorem thws_bind (x : Bd) (b : Nat) : thw b (x.enc .sub) = ([.d (.int .i64 x.v), .d (.int .i64 x.t.f), .d (.int .i64 x.t.v), tRow b x.t.kids], x.t.bx b) := by
  have h2 : thw b (x.enc .sub) = thws b [.int .i64 x.v, .int .i64 x.t.f, .int .i64 x.t.v, terms .sub x.t.kids] := rfl
  rw [h2, thws4, thw_kids]
theorem thws_binds : ∀ (l : List Bd) (b : Nat), thws b (l.map (Bd.enc .sub)) = (bCells b l, T.bxs b (ts l))
  | [], b => rfl
  | x :: r, b => by
    rw [List.map_cons]
    simp only [thws, thws_bind, bx_len]
    rw [thws_binds r]
    simp [bCells, T.bxs, nb_t]
theorem thaw_binds (b : Nat) (l : List Bd) : (binds .sub l).thaw b = (tBs b l, bBs b l) := by
  cases l with
  | nil => rfl
  | cons x r =>
    have h := thws_binds (x :: r) b
    simp only [List.map_cons] at h
    show thawOne b (.sl .sub (x.enc .sub :: r.map (Bd.enc .sub))) = _
    simp only [thawOne, thw, h, tBs, bBs]
    have ha : isAgD (x.enc .sub) = true := rfl
    have h4 : (x.enc .sub).cells.length = 4 := rfl
    simp [ha, bxs_len, h4]
theorem frzBCells : ∀ (l : List Bd) (n : Nat) (P Q : Boxs), T.nbs (ts l) ≤ n → frzL (AV.frzC (P ++ T.bxs P.length (ts l) ++ Q) n) (bCells P.length l) = some (flat (l.map (Bd.enc .sub)))
  | [], n, P, Q, hn => rfl
  | x :: r, n, P, Q, hn => by
    simp only [ts, List.map_cons, T.nbs, nb_t] at hn
    have h1 := frzRow_eq x.t.kids n P (T.bxs (P.length + rowN x.t.kids) (ts r) ++ Q) (by omega)
    have h2 := frzBCells r n (P ++ bRow P.length x.t.kids) Q (by simp only [ts]; omega)
    have hl : (P ++ bRow P.length x.t.kids).length = P.length + rowN x.t.kids := by rw [List.length_append, bRow_len]
    rw [hl] at h2
    have hB1 : P ++ bRow P.length x.t.kids ++ (T.bxs (P.length + rowN x.t.kids) (ts r) ++ Q) = P ++ T.bxs P.length (ts (x :: r)) ++ Q := by simp [T.bxs, bx_t, nb_t]
    have hB2 : P ++ bRow P.length x.t.kids ++ T.bxs (P.length + rowN x.t.kids) (ts r) ++ Q = P ++ T.bxs P.length (ts (x :: r)) ++ Q := by simp [T.bxs, bx_t, nb_t]
    rw [hB1] at h1
    rw [hB2] at h2
    generalize P ++ T.bxs P.length (ts (x :: r)) ++ Q = W at h1 h2 ⊢
    simp only [bCells, frzL_cons, frzC_d, h1, h2, frzO_some, List.map_cons]
    simp [flat]
theorem frz_tBs (l : List Bd) (P Q : Boxs) : AV.frz (P ++ bBs P.length l ++ Q) (tBs P.length l) = some (binds .sub l) := by
  by_cases hp : l = []
  · subst hp; simp [tBs, bBs, AV.frz, frzC_d]
  · have hb : P ++ bBs P.length l ++ Q = P ++ T.bxs P.length (ts l) ++ (some (bCells P.length l) :: Q) := by simp [bBs, hp]
    have hl : (P ++ T.bxs P.length (ts l)).length = P.length + T.nbs (ts l) := by rw [List.length_append, bxs_len]
    have hg : bget (P ++ T.bxs P.length (ts l) ++ (some (bCells P.length l) :: Q)) (P.length + T.nbs (ts l)) = some (bCells P.length l) := by
      unfold bget; rw [← hl, get_at]
    rw [hb]
    unfold tBs
    rw [if_neg hp]
    obtain ⟨m, hm⟩ : ∃ m, (P ++ T.bxs P.length (ts l) ++ (some (bCells P.length l) :: Q)).length = m + 1 := ⟨P.length + T.nbs (ts l) + Q.length, by simp [bxs_len]; omega⟩
    simp only [AV.frz]
    rw [hm]
    simp only [AV.frzC]
    rw [hg, Option.bind_some, frzBCells l m P _ (by simp [bxs_len] at hm; omega), Option.bind_some]
    have hok := bindEncs_ok .sub l
    have hfl : (flat (l.map (Bd.enc .sub))).length = l.length * 4 := by rw [flat_len (fun x hx => (hok x hx).1)]; simp
    rw [if_pos hfl]
    have hch := chunks_row (l.map (Bd.enc .sub)) hok
    rw [List.length_map] at hch
    rw [hch]; rfl
theorem clr_tBs (b : Nat) (l : List Bd) : (tBs b l).clr = tBs b l := by
  unfold tBs; split
  · simp [AV.clr, DV.clr, DV.clrs]
  · simp only [AV.clr]
/-! ### Marks -/
def mkBd (x : Bd) (k : Nat) : Bd := ⟨(k : Int), .node ((k + 1 : Nat) : Int) ((k + 2 : Nat) : Int) (T.marks (k + 3) x.t.kids)⟩
def cntB : List Bd → Nat
  | [] => 0
  | x :: r => 3 + 2 * x.t.inner + cntB r
def mkB : List Bd → Nat → List Bd
  | [], _ => []
  | x :: r, k => mkBd x k :: mkB r (k + (3 + 2 * x.t.inner))
theorem mkB_len : ∀ (l : List Bd) (k : Nat), (mkB l k).length = l.length
  | [], k => rfl
  | x :: r, k => by simp [mkB, mkB_len r]
theorem mkB_snoc : ∀ (l : List Bd) (k : Nat) (x : Bd), mkB (l ++ [x]) k = mkB l k ++ [mkBd x (k + cntB l)]
  | [], k, x => by simp [mkB, cntB]
  | a :: q, k, x => by simp [mkB, mkB_snoc q, cntB, Nat.add_assoc]
theorem cntB_snoc : ∀ (l : List Bd) (x : Bd), cntB (l ++ [x]) = cntB l + (3 + 2 * x.t.inner)
  | [], x => by simp [cntB]
  | a :: q, x => by simp [cntB, cntB_snoc q]; omega
theorem cntB_append : ∀ (a c : List Bd), cntB (a ++ c) = cntB a + cntB c
  | [], c => by simp [cntB]
  | r :: q, c => by simp [cntB, cntB_append q c, Nat.add_assoc]
theorem mkB_nbs : ∀ (l : List Bd) (k : Nat), T.nbs (ts (mkB l k)) = T.nbs (ts l)
  | [], k => rfl
  | x :: r, k => by
    have := mkB_nbs r (k + (3 + 2 * x.t.inner))
    simp only [ts] at this
    simp [mkB, T.nbs, nb_t, mkBd, rowN_marks, this]
def upB (l : List Bd) (k i : Nat) : List Bd := mkB (l.take i) k ++ l.drop i
theorem upB_zero (l : List Bd) (k : Nat) : upB l k 0 = l := by simp [upB, mkB]
theorem upB_all (l : List Bd) (k : Nat) : upB l k l.length = mkB l k := by simp [upB]
theorem upB_nbs (l : List Bd) (k i : Nat) : T.nbs (ts (upB l k i)) = T.nbs (ts l) := by
  unfold upB
  rw [show ts (mkB (l.take i) k ++ l.drop i) = ts (mkB (l.take i) k) ++ ts (l.drop i) by simp, nbs_append, mkB_nbs, ← nbs_append, show ts (l.take i) ++ ts (l.drop i) = ts l by rw [← List.map_append, List.take_append_drop]]
theorem bTake (l : List Bd) (i : Nat) (hi : i < l.length) : l.take (i + 1) = l.take i ++ [bAt l i] := by
  rw [← bAt_lt hi, List.take_append_getElem hi]
theorem upB_at (l : List Bd) (k i : Nat) (hi : i < l.length) : upB l k i = mkB (l.take i) k ++ bAt l i :: l.drop (i + 1) := by
  unfold upB; rw [List.drop_eq_getElem_cons hi, bAt_lt hi]
theorem upB_next (l : List Bd) (k i : Nat) (hi : i < l.length) : upB l k (i + 1) = mkB (l.take i) k ++ mkBd (bAt l i) (k + cntB (l.take i)) :: l.drop (i + 1) := by
  unfold upB; rw [bTake l i hi, mkB_snoc]; simp
theorem cntB_take (l : List Bd) (i : Nat) (hi : i < l.length) : cntB (l.take (i + 1)) = cntB (l.take i) + (3 + 2 * (bAt l i).t.inner) := by rw [bTake l i hi, cntB_snoc]
theorem cntB_le (l : List Bd) (i : Nat) : cntB (l.take i) ≤ cntB l := by
  have h := cntB_append (l.take i) (l.drop i)
  rw [List.take_append_drop] at h; omega
theorem tbx_mid (M R : List Bd) (x : Bd) (b : Nat) : T.bxs b (ts (M ++ x :: R)) = T.bxs b (ts M) ++ (bRow (b + T.nbs (ts M)) x.t.kids ++ T.bxs (b + T.nbs (ts M) + rowN x.t.kids) (ts R)) := by
  rw [show ts (M ++ x :: R) = ts M ++ x.t :: ts R by simp, bxs_mid]
theorem qp0 (C1 C2 : List AV) (f x : AV) (i : Nat) (h : C1.length = i * 4) : splice (C1 ++ f :: C2) (i * 4) [x] = C1 ++ x :: C2 := by rw [← h]; exact spA C1 C2 f x
theorem qp1 (C1 C2 : List AV) (f v x : AV) (i : Nat) (h : C1.length = i * 4) : splice (C1 ++ f :: v :: C2) (i * 4 + 1) [x] = C1 ++ f :: x :: C2 := by
  have := spA (C1 ++ [f]) C2 v x
  simp only [List.length_append, List.length_cons, List.length_nil, List.append_assoc, List.cons_append, List.nil_append, Nat.zero_add] at this
  rw [← h]; exact this
theorem qp2 (C1 C2 : List AV) (f v w x : AV) (i : Nat) (h : C1.length = i * 4) : splice (C1 ++ f :: v :: w :: C2) (i * 4 + 1 + 1) [x] = C1 ++ f :: v :: x :: C2 := by
  have := spA (C1 ++ [f, v]) C2 w x
  simp only [List.length_append, List.length_cons, List.length_nil, List.append_assoc, List.cons_append, List.nil_append, Nat.zero_add] at this
  rw [← h]; exact this
theorem qa3 (C1 C2 : List AV) (f v w r : AV) (i : Nat) (h : C1.length = i * 4) : (C1 ++ f :: v :: w :: r :: C2)[i * 4 + 1 + 2]? = some r := by
  rw [← h, List.getElem?_append_right (by omega)]; simp [Nat.add_assoc]
theorem markStepB (S S' B1 : Boxs) (ix n i : Nat) (K0 K1 K2 K3 Kn : Int) (C1 C2 : List AV) (f v w row : AV) (hS : S.length = ix) (hS' : S'.length = ix) (hi : i < n) (hn : n ≤ 1048576) (hC : C1.length = i * 4) (hw1 : IntKind.i64.wrap (K0 + 1) = K1) (hw2 : IntKind.i64.wrap (K1 + 1) = K2) (hw3 : IntKind.i64.wrap (K2 + 1) = K3) (hrow : row.clr = row)
    (hcall : callX XV 244 [row, .d (.int .i64 K3)] (S ++ some (C1 ++ .d (.int .i64 K0) :: .d (.int .i64 K1) :: .d (.int .i64 K2) :: row :: C2) :: B1) = some (.d (.int .i64 Kn), S' ++ some (C1 ++ .d (.int .i64 K0) :: .d (.int .i64 K1) :: .d (.int .i64 K2) :: row :: C2) :: B1)) :
    codeX XV [] b293_0 ⟨[(0, .tsl true ix 4 n), (1, .d (.int .i64 K0)), (5, .d (.int .i64 (i : Int)))], S ++ some (C1 ++ f :: v :: w :: row :: C2) :: B1⟩ =
      some (.normal, ⟨[(0, .tsl true ix 4 n), (1, .d (.int .i64 Kn)), (5, .d (.int .i64 ((i + 1 : Nat) : Int)))], S' ++ some (C1 ++ .d (.int .i64 K0) :: .d (.int .i64 K1) :: .d (.int .i64 K2) :: row :: C2) :: B1⟩) := by
  have hw := wrap_succ (n := i) (by omega)
  have hget : ∀ (c : List AV) (r : Boxs), (S ++ some c :: r)[ix]? = some (some c) := fun c r => by rw [← hS]; exact get_at S (some c) r
  have hset : ∀ (c d : List AV) (r : Boxs), (S ++ some c :: r).set ix (some d) = S ++ some d :: r := fun c d r => by rw [← hS]; exact set_at S (some c) (some d) r
  have s0 := fun x => qp0 C1 (v :: w :: row :: C2) f x i hC
  have s1 := fun a x => qp1 C1 (w :: row :: C2) a v x i hC
  have s2 := fun a b x => qp2 C1 (row :: C2) a b w x i hC
  have g3 := fun a b c => qa3 C1 C2 a b c row i hC
  have le0 : i * 4 + 1 ≤ C1.length + (C2.length + 1 + 1 + 1 + 1) := by omega
  have le1 : i * 4 + 1 + 1 ≤ C1.length + (C2.length + 1 + 1 + 1 + 1) := by omega
  have le2 : i * 4 + 1 + 1 + 1 ≤ C1.length + (C2.length + 1 + 1 + 1 + 1) := by omega
  simp [b293_0, r293_0, r293_1, r293_2, r293_4, r293_5, r293_6, r293_7, r293_8, r293_9, r293_10, r293_3, r293_11, hi, hw, hw1, hw2, hw3, hget, hset, s0, s1, s2, g3, le0, le1, le2, hrow, hcall]
end Go.Proofs.Ytanfjghdjkiggaa.VS
