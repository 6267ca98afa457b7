/- Contracts of the program's functions on the evaluator without names, and plain lemmas: XMarkT. -/
import Derived.Test.YtanfjghdjkiggaaXMarkI
namespace Go.Proofs.Ytanfjghdjkiggaa.VS
set_option linter.unusedVariables false
set_option linter.unusedSimpArgs false
/-! ## Terms that lie in boxes: marks -/
mutual
/-- How many boxes a term's rows take. -/
def T.nb : T → Nat
  | .node _ _ [] => 0
  | .node _ _ (t :: r) => T.nbs (t :: r) + 1
def T.nbs : List T → Nat
  | [] => 0
  | t :: r => t.nb + T.nbs r
end
def rowN (ks : List T) : Nat := if ks = [] then 0 else T.nbs ks + 1
theorem nb_node (f v : Int) (ks : List T) : (T.node f v ks).nb = rowN ks := by cases ks <;> simp [T.nb, rowN]
def tRow (b : Nat) (ks : List T) : AV := if ks = [] then .d (terms .sub []) else .tsl true (b + T.nbs ks) 3 ks.length
def tCells (b : Nat) : List T → List AV
  | [] => []
  | .node f v ks :: r => .d (.int .i64 f) :: .d (.int .i64 v) :: tRow b ks :: tCells (b + rowN ks) r
mutual
def T.bx (b : Nat) : T → Boxs
  | .node _ _ [] => []
  | .node _ _ (t :: r) => T.bxs b (t :: r) ++ [some (tCells b (t :: r))]
def T.bxs (b : Nat) : List T → Boxs
  | [] => []
  | t :: r => t.bx b ++ T.bxs (b + t.nb) r
end
def bRow (b : Nat) (ks : List T) : Boxs := if ks = [] then [] else T.bxs b ks ++ [some (tCells b ks)]
theorem bx_node (b : Nat) (f v : Int) (ks : List T) : (T.node f v ks).bx b = bRow b ks := by cases ks <;> simp [T.bx, bRow]
mutual
theorem bx_len : ∀ (t : T) (b : Nat), (t.bx b).length = t.nb
  | .node _ _ [], b => rfl
  | .node _ _ (t :: r), b => by simp [T.bx, T.nb, bxs_len (t :: r) b]
theorem bxs_len : ∀ (l : List T) (b : Nat), (T.bxs b l).length = T.nbs l
  | [], b => rfl
  | t :: r, b => by simp [T.bxs, T.nbs, bx_len t b, bxs_len r (b + t.nb)]
end
theorem bRow_len (b : Nat) (ks : List T) : (bRow b ks).length = rowN ks := by unfold bRow rowN; split <;> simp [bxs_len]
theorem tCells_len : ∀ (l : List T) (b : Nat), (tCells b l).length = 3 * l.length
  | [], b => rfl
  | .node f v ks :: r, b => by simp [tCells, tCells_len r]; omega
theorem nbs_append : ∀ (a c : List T), T.nbs (a ++ c) = T.nbs a + T.nbs c
  | [], c => by simp [T.nbs]
  | t :: r, c => by simp [T.nbs, nbs_append r c]; omega
theorem tCells_append : ∀ (a c : List T) (b : Nat), tCells b (a ++ c) = tCells b a ++ tCells (b + T.nbs a) c
  | [], c, b => by simp [tCells, T.nbs]
  | .node f v ks :: r, c, b => by simp [tCells, tCells_append r c, T.nbs, nb_node, Nat.add_assoc]
theorem bxs_append : ∀ (a c : List T) (b : Nat), T.bxs b (a ++ c) = T.bxs b a ++ T.bxs (b + T.nbs a) c
  | [], c, b => by simp [T.bxs, T.nbs]
  | t :: r, c, b => by simp [T.bxs, bxs_append r c, T.nbs, Nat.add_assoc]
theorem thws3 (f v : Int) (x : DV) (b : Nat) : thws b [.int .i64 f, .int .i64 v, x] = (.d (.int .i64 f) :: .d (.int .i64 v) :: (thw b x).1, (thw b x).2) := by simp [thws, thw]
mutual
theorem thwT : ∀ (t : T) (b : Nat), thw b (t.enc .sub) = ([.d (.int .i64 t.f), .d (.int .i64 t.v), tRow b t.kids], t.bx b)
  | .node f v [], b => by simp [T.enc_eq, thw, thws, tRow, T.bx, terms]
  | .node f v (t :: r), b => by
    have h := thwsT (t :: r) b
    rw [List.map_cons] at h
    rw [T.enc_eq, T.f_node, T.v_node, T.kids_node]
    show thws b [.int .i64 f, .int .i64 v, .sl .sub (t.enc .sub :: r.map (T.enc .sub))] = _
    have hx : thw b (.sl .sub (t.enc .sub :: r.map (T.enc .sub))) = ([tRow b (t :: r)], T.bxs b (t :: r) ++ [some (tCells b (t :: r))]) := by
      simp only [thw]
      rw [h]
      have hl := bxs_len (t :: r) b
      have h3 : (t.enc .sub).cells.length = 3 := by simp
      have ha : isAgD (t.enc .sub) = true := by rw [T.enc_eq]; rfl
      simp [tRow, hl, h3, ha]
    rw [thws3, hx]
    simp [T.bx]
theorem thwsT : ∀ (l : List T) (b : Nat), thws b (l.map (T.enc .sub)) = (tCells b l, T.bxs b l)
  | [], b => by simp [thws, tCells, T.bxs]
  | .node f v ks :: r, b => by
    have h1 := thwT (.node f v ks) b
    have h2 := thwsT r (b + (T.node f v ks).nb)
    rw [List.map_cons]
    simp only [thws]
    rw [h1]
    simp only [bx_len]
    rw [h2]
    simp [tCells, T.bxs, nb_node]
end
theorem thaw_term (t : T) (b : Nat) : (t.enc .sub).thaw b = (.ag false [.d (.int .i64 t.f), .d (.int .i64 t.v), tRow b t.kids], bRow b t.kids) := by
  have h := thwT t b
  obtain ⟨f, v, ks⟩ := t
  rw [bx_node] at h
  rw [T.enc_eq] at h ⊢
  simp only [DV.thaw, thawOne]
  simp only [thw] at h
  rw [h]
  rfl
theorem clr_tRow (b : Nat) (ks : List T) : (tRow b ks).clr = tRow b ks := by
  unfold tRow; split
  · simp [terms, AV.clr, DV.clr, DV.clrs]
  · simp only [AV.clr]
theorem safe_tRow (m b : Nat) (ks : List T) (h : b + rowN ks ≤ m) : (tRow b ks).safe m = true := by
  unfold tRow rowN at *
  by_cases hl : ks = []
  · rw [if_pos hl]; exact safe_d _ _
  · rw [if_neg hl] at h ⊢; rw [safe_tsl]; simp; omega
theorem isCell_tRow (b : Nat) (ks : List T) : (tRow b ks).isCell = true := by
  unfold tRow; split <;> rfl
theorem plain_tRow (b : Nat) (ks : List T) : (tRow b ks).plainT = true := by
  unfold tRow; split
  · simp [terms, AV.plainT]
  · rfl
/-! ### Marks -/
def cnts (l : List T) : Nat := l.length + T.inners l
theorem cnts_kids (t : T) : cnts t.kids = t.inner := by cases t; simp [cnts, T.inner]
theorem inners_append : ∀ (a c : List T), T.inners (a ++ c) = T.inners a + T.inners c
  | [], c => by simp [T.inners]
  | t :: r, c => by simp [T.inners, inners_append r c]; omega
theorem cnts_snoc (l : List T) (t : T) : cnts (l ++ [t]) = cnts l + (t.inner + 1) := by
  unfold cnts; rw [inners_append]; simp [T.inners]; omega
theorem cnts_cons (t : T) (l : List T) : cnts (t :: l) = (t.inner + 1) + cnts l := by unfold cnts; simp [T.inners]; omega
mutual
def T.mark (k : Nat) : T → T
  | .node _ _ ks => .node (k : Int) ((k + 1 : Nat) : Int) (T.marks (k + 2) ks)
def T.marks (k : Nat) : List T → List T
  | [] => []
  | t :: r => t.mark k :: T.marks (k + 2 * (t.inner + 1)) r
end
theorem marks_len : ∀ (l : List T) (k : Nat), (T.marks k l).length = l.length
  | [], k => by simp [T.marks]
  | t :: r, k => by simp [T.marks, marks_len r]
mutual
theorem nb_mark : ∀ (t : T) (k : Nat), (t.mark k).nb = t.nb
  | .node f v [], k => by simp [T.mark, T.marks, T.nb]
  | .node f v (t :: r), k => by
    have := nbs_marks (t :: r) (k + 2)
    simp only [T.marks] at this
    simp only [T.mark, T.marks, T.nb, this]
theorem nbs_marks : ∀ (l : List T) (k : Nat), T.nbs (T.marks k l) = T.nbs l
  | [], k => by simp [T.marks]
  | t :: r, k => by simp only [T.marks, T.nbs, nb_mark t k, nbs_marks r]
end
theorem marks_nil (l : List T) (k : Nat) : (T.marks k l = []) ↔ l = [] := by cases l <;> simp [T.marks]
theorem rowN_marks (l : List T) (k : Nat) : rowN (T.marks k l) = rowN l := by unfold rowN; simp only [marks_nil, nbs_marks]
theorem tRow_marks (b k : Nat) (l : List T) : tRow b (T.marks k l) = tRow b l := by
  unfold tRow; simp only [marks_nil, nbs_marks, marks_len]
theorem marks_snoc : ∀ (l : List T) (k : Nat) (t : T), T.marks k (l ++ [t]) = T.marks k l ++ [t.mark (k + 2 * cnts l)]
  | [], k, t => by simp [T.marks, cnts, T.inners]
  | a :: r, k, t => by
    simp only [List.cons_append, T.marks, marks_snoc r, cnts_cons]
    rw [show k + 2 * (a.inner + 1) + 2 * cnts r = k + 2 * (a.inner + 1 + cnts r) by omega]
/-- Marked up to i. -/
def upT (ks : List T) (k i : Nat) : List T := T.marks k (ks.take i) ++ ks.drop i
theorem upT_zero (ks : List T) (k : Nat) : upT ks k 0 = ks := by simp [upT, T.marks]
theorem upT_all (ks : List T) (k : Nat) : upT ks k ks.length = T.marks k ks := by simp [upT]
theorem upT_len (ks : List T) (k i : Nat) : (upT ks k i).length = ks.length := by simp [upT, marks_len]; omega
theorem upT_nbs (ks : List T) (k i : Nat) : T.nbs (upT ks k i) = T.nbs ks := by
  unfold upT; rw [nbs_append, nbs_marks, ← nbs_append, List.take_append_drop]
theorem upT_at (ks : List T) (k i : Nat) (hi : i < ks.length) : upT ks k i = T.marks k (ks.take i) ++ tAt ks i :: ks.drop (i + 1) := by
  unfold upT; rw [List.drop_eq_getElem_cons hi, tAt_lt hi]
theorem take_snoc (ks : List T) (i : Nat) (hi : i < ks.length) : ks.take (i + 1) = ks.take i ++ [tAt ks i] := by
  rw [← tAt_lt hi, List.take_append_getElem hi]
theorem upT_next (ks : List T) (k i : Nat) (hi : i < ks.length) : upT ks k (i + 1) = T.marks k (ks.take i) ++ (tAt ks i).mark (k + 2 * cnts (ks.take i)) :: ks.drop (i + 1) := by
  unfold upT; rw [take_snoc ks i hi, marks_snoc]; simp
theorem cnts_take (ks : List T) (i : Nat) (hi : i < ks.length) : cnts (ks.take (i + 1)) = cnts (ks.take i) + ((tAt ks i).inner + 1) := by rw [take_snoc ks i hi, cnts_snoc]
theorem cnts_le (ks : List T) (i : Nat) : cnts (ks.take i) ≤ cnts ks := by
  have h : cnts (ks.take i ++ ks.drop i) = cnts (ks.take i) + cnts (ks.drop i) := by unfold cnts; rw [inners_append]; simp; omega
  rw [List.take_append_drop] at h; omega
/-! ### One round of the marks -/
theorem spA (A r : List AV) (y x : AV) : splice (A ++ y :: r) A.length [x] = A ++ x :: r := by unfold splice; simp
theorem sp0 (C1 C2 : List AV) (f x : AV) (i : Nat) (h : C1.length = i * 3) : splice (C1 ++ f :: C2) (i * 3) [x] = C1 ++ x :: C2 := by
  rw [← h]; exact spA C1 C2 f x
theorem sp1 (C1 C2 : List AV) (f v x : AV) (i : Nat) (h : C1.length = i * 3) : splice (C1 ++ f :: v :: C2) (i * 3 + 1) [x] = C1 ++ f :: x :: C2 := by
  have := spA (C1 ++ [f]) C2 v x
  simp only [List.length_append, List.length_cons, List.length_nil, List.append_assoc, List.cons_append, List.nil_append, Nat.zero_add] at this
  rw [← h]; exact this
theorem ga0 (C1 C2 : List AV) (f : AV) (i : Nat) (h : C1.length = i * 3) : (C1 ++ f :: C2)[i * 3]? = some f := by rw [← h]; simp
theorem ga1 (C1 C2 : List AV) (f v : AV) (i : Nat) (h : C1.length = i * 3) : (C1 ++ f :: v :: C2)[i * 3 + 1]? = some v := by
  rw [← h, List.getElem?_append_right (by omega)]; simp
theorem ga2 (C1 C2 : List AV) (f v r : AV) (i : Nat) (h : C1.length = i * 3) : (C1 ++ f :: v :: r :: C2)[i * 3 + 2]? = some r := by
  rw [← h, List.getElem?_append_right (by omega)]; simp
theorem markStep (S S' B1 : Boxs) (ix n i : Nat) (K0 K1 K2 Kn : Int) (C1 C2 : List AV) (f v row : AV) (hS : S.length = ix) (hS' : S'.length = ix) (hi : i < n) (hn : n ≤ 1048576) (hC : C1.length = i * 3) (hw1 : IntKind.i64.wrap (K0 + 1) = K1) (hw2 : IntKind.i64.wrap (K1 + 1) = K2) (hrow : row.clr = row)
    (hcall : callX XV 244 [row, .d (.int .i64 K2)] (S ++ some (C1 ++ .d (.int .i64 K0) :: .d (.int .i64 K1) :: row :: C2) :: B1) = some (.d (.int .i64 Kn), S' ++ some (C1 ++ .d (.int .i64 K0) :: .d (.int .i64 K1) :: row :: C2) :: B1)) :
    codeX XV (XV.lin 244) b244_0 ⟨[(0, .tsl true ix 3 n), (1, .d (.int .i64 K0)), (5, .d (.int .i64 (i : Int)))], S ++ some (C1 ++ f :: v :: row :: C2) :: B1⟩ =
      some (.normal, ⟨[(0, .tsl true ix 3 n), (1, .d (.int .i64 Kn)), (5, .d (.int .i64 ((i + 1 : Nat) : Int)))], S' ++ some (C1 ++ .d (.int .i64 K0) :: .d (.int .i64 K1) :: row :: C2) :: B1⟩) := by
  have hw := wrap_succ (n := i) (by omega)
  have hget : ∀ (c : List AV) (r : Boxs), (S ++ some c :: r)[ix]? = some (some c) := fun c r => by rw [← hS]; exact get_at S (some c) r
  have hset : ∀ (c d : List AV) (r : Boxs), (S ++ some c :: r).set ix (some d) = S ++ some d :: r := fun c d r => by rw [← hS]; exact set_at S (some c) (some d) r
  have s0 := fun x => sp0 C1 (v :: row :: C2) f x i hC
  have s1 := fun a x => sp1 C1 (row :: C2) a v x i hC
  have g2 := fun a b => ga2 C1 C2 a b row i hC
  have le0 : i * 3 + 1 ≤ C1.length + (C2.length + 1 + 1 + 1) := by omega
  have le1 : i * 3 + 1 + 1 ≤ C1.length + (C2.length + 1 + 1 + 1) := by omega
  simp [b244_0, r244_0, r244_1, r244_2, r244_4, r244_5, r244_6, r244_7, r244_8, r244_3, r244_9, hi, hw, hw1, hw2, hget, hset, s0, s1, g2, le0, le1, hrow, hcall]
theorem bxs_mid (M R : List T) (t : T) (b : Nat) : T.bxs b (M ++ t :: R) = T.bxs b M ++ (bRow (b + T.nbs M) t.kids ++ T.bxs (b + T.nbs M + rowN t.kids) R) := by
  obtain ⟨f, v, kk⟩ := t
  rw [bxs_append]; simp [T.bxs, bx_node, nb_node]
theorem tCells_mid (M R : List T) (t : T) (b : Nat) : tCells b (M ++ t :: R) = tCells b M ++ .d (.int .i64 t.f) :: .d (.int .i64 t.v) :: tRow (b + T.nbs M) t.kids :: tCells (b + T.nbs M + rowN t.kids) R := by
  obtain ⟨f, v, kk⟩ := t
  rw [tCells_append]; simp [tCells]
theorem mark_f (t : T) (k : Nat) : (t.mark k).f = (k : Int) := by cases t; simp [T.mark]
theorem mark_v (t : T) (k : Nat) : (t.mark k).v = ((k + 1 : Nat) : Int) := by cases t; simp [T.mark]
theorem mark_kids (t : T) (k : Nat) : (t.mark k).kids = T.marks (k + 2) t.kids := by cases t; simp [T.mark]
theorem tRow_cons (b : Nat) (ks : List T) (h : ks ≠ []) : tRow b ks = .tsl true (b + T.nbs ks) 3 ks.length := by unfold tRow; rw [if_neg h]
theorem bRow_cons (b : Nat) (ks : List T) (h : ks ≠ []) : bRow b ks = T.bxs b ks ++ [some (tCells b ks)] := by unfold bRow; rw [if_neg h]
theorem markRow_of (ks : List T) (hl : ks.length ≤ 1048576) (hrec : ∀ t, t ∈ ks → ∀ (k : Nat), k + 2 * t.inner ≤ 4611686018427387904 → ∀ (B0 B1 : Boxs), callX XV 244 [tRow B0.length t.kids, .d (.int .i64 (k : Int))] (B0 ++ bRow B0.length t.kids ++ B1) = some (.d (.int .i64 ((k + 2 * t.inner : Nat) : Int)), B0 ++ bRow B0.length (T.marks k t.kids) ++ B1))
    (k : Nat) (hk : k + 2 * cnts ks ≤ 4611686018427387904) (B0 B1 : Boxs) :
    callX XV 244 [tRow B0.length ks, .d (.int .i64 (k : Int))] (B0 ++ bRow B0.length ks ++ B1) = some (.d (.int .i64 ((k + 2 * cnts ks : Nat) : Int)), B0 ++ bRow B0.length (T.marks k ks) ++ B1) := by
  rw [z_call XV _ _ _ v244 rfl xcode_244 rfl]
  by_cases hne : ks = []
  · subst hne
    have h := loopX_upto (X := XV) (T := XV.lin 244) (L := (B0 ++ B1).length) (live := [0, 1, 5]) (b := b244_0) (n := 0) (β := Unit) (γ := Unit) (st := fun _ i => ⟨[(0, .d (.sl .sub [])), (1, .d (.int .i64 k)), (5, .d (.int .i64 i))], B0 ++ B1⟩) (step := fun _ _ => .inl ())
      (F := fun _ => (.exit 0, ⟨[(0, .d (.sl .sub [])), (1, .d (.int .i64 k)), (5, .d (.int .i64 0)), (9, .d (.bool false))], B0 ++ B1⟩)) (R := fun _ => (.ret, ⟨[], []⟩)) (fun a => ⟨by simp, by simp [b244_0, r244_0, r244_1, r244_2, r244_4, r244_5, r244_6, r244_7, r244_8, r244_3, r244_9]⟩) (fun a i hi => by omega) 0 () 0 ⟨[(0, .d (.sl .sub [])), (1, .d (.int .i64 k)), (5, .d (.int .i64 0))], B0 ++ B1⟩ rfl (head_cut (e := []) (by simp) (by simp [safeRegs]) rfl (by simp))
    simp only [runN, List.length_append, lin_244] at h
    have htk : List.take (B0.length + B1.length) (B0 ++ B1) = B0 ++ B1 := List.take_of_length_le (by simp)
    simp [tRow, bRow, T.marks, cnts, T.inners, terms, v244, r244_0, r244_1, r244_2, r244_4, r244_5, r244_6, r244_7, r244_8, r244_3, r244_9]
    rw [h]
    simp [htk, v244, r244_0, r244_1, r244_2, r244_4, r244_5, r244_6, r244_7, r244_8, r244_3, r244_9]
  · have hmn : T.marks k ks ≠ [] := fun h => hne ((marks_nil ks k).1 h)
    rw [tRow_cons _ _ hne, bRow_cons _ _ hne, bRow_cons _ _ hmn]
    have hlen : ∀ i, (B0 ++ T.bxs B0.length (upT ks k i)).length = B0.length + T.nbs ks := fun i => by rw [List.length_append, bxs_len, upT_nbs]
    have h := loopX_upto (X := XV) (T := XV.lin 244) (L := B0.length + T.nbs ks + (B1.length + 1)) (live := [0, 1, 5]) (b := b244_0) (n := ks.length) (γ := Unit) (st := fun (_ : Unit) i => ⟨[(0, .tsl true (B0.length + T.nbs ks) 3 ks.length), (1, .d (.int .i64 ((k + 2 * cnts (ks.take i) : Nat) : Int))), (5, .d (.int .i64 i))], (B0 ++ T.bxs B0.length (upT ks k i)) ++ some (tCells B0.length (upT ks k i)) :: B1⟩) (step := fun _ _ => .inl ())
      (F := fun _ => (.exit 0, ⟨[(0, .tsl true (B0.length + T.nbs ks) 3 ks.length), (1, .d (.int .i64 ((k + 2 * cnts ks : Nat) : Int))), (5, .d (.int .i64 ks.length)), (9, .d (.bool false))], (B0 ++ T.bxs B0.length (upT ks k ks.length)) ++ some (tCells B0.length (upT ks k ks.length)) :: B1⟩)) (R := fun _ => (.ret, ⟨[], []⟩))
      (fun _ => ⟨by simp, by rw [List.take_length]; generalize ((k + 2 * cnts ks : Nat) : Int) = K; simp [b244_0, r244_0, r244_1, r244_2, r244_4, r244_5, r244_6, r244_7, r244_8, r244_3, r244_9]⟩)
      (fun _ i hi => by
        have hkt : k + 2 * cnts (ks.take (i + 1)) ≤ 4611686018427387904 := by have := cnts_le ks (i + 1); omega
        have hct := cnts_take ks i hi
        have hr := hrec _ (tAt_mem hi) (k + 2 * cnts (ks.take i) + 2) (by omega) (B0 ++ T.bxs B0.length (T.marks k (ks.take i))) (T.bxs (B0.length + T.nbs (T.marks k (ks.take i)) + rowN (tAt ks i).kids) (ks.drop (i + 1)) ++ some (tCells B0.length (upT ks k (i + 1))) :: B1)
        have hl0 : (B0 ++ T.bxs B0.length (T.marks k (ks.take i))).length = B0.length + T.nbs (T.marks k (ks.take i)) := by rw [List.length_append, bxs_len]
        rw [hl0] at hr
        have e1 := upT_at ks k i hi
        have e2 := upT_next ks k i hi
        have c1 := tCells_mid (T.marks k (ks.take i)) (ks.drop (i + 1)) (tAt ks i) B0.length
        have c2 := tCells_mid (T.marks k (ks.take i)) (ks.drop (i + 1)) ((tAt ks i).mark (k + 2 * cnts (ks.take i))) B0.length
        have b1 := bxs_mid (T.marks k (ks.take i)) (ks.drop (i + 1)) (tAt ks i) B0.length
        have b2 := bxs_mid (T.marks k (ks.take i)) (ks.drop (i + 1)) ((tAt ks i).mark (k + 2 * cnts (ks.take i))) B0.length
        rw [mark_kids, rowN_marks] at b2
        rw [mark_f, mark_v, mark_kids, rowN_marks, tRow_marks] at c2
        rw [← e1] at c1 b1
        rw [← e2] at c2 b2
        have hS : (B0 ++ T.bxs B0.length (T.marks k (ks.take i))) ++ bRow (B0.length + T.nbs (T.marks k (ks.take i))) (tAt ks i).kids ++ (T.bxs (B0.length + T.nbs (T.marks k (ks.take i)) + rowN (tAt ks i).kids) (ks.drop (i + 1)) ++ some (tCells B0.length (upT ks k (i + 1))) :: B1) = (B0 ++ T.bxs B0.length (upT ks k i)) ++ some (tCells B0.length (upT ks k (i + 1))) :: B1 := by rw [b1]; simp
        have hS' : (B0 ++ T.bxs B0.length (T.marks k (ks.take i))) ++ bRow (B0.length + T.nbs (T.marks k (ks.take i))) (T.marks (k + 2 * cnts (ks.take i) + 2) (tAt ks i).kids) ++ (T.bxs (B0.length + T.nbs (T.marks k (ks.take i)) + rowN (tAt ks i).kids) (ks.drop (i + 1)) ++ some (tCells B0.length (upT ks k (i + 1))) :: B1) = (B0 ++ T.bxs B0.length (upT ks k (i + 1))) ++ some (tCells B0.length (upT ks k (i + 1))) :: B1 := by rw [b2]; simp
        rw [hS, hS'] at hr
        rw [show k + 2 * cnts (ks.take i) + 2 + 2 * (tAt ks i).inner = k + 2 * cnts (ks.take (i + 1)) by omega] at hr
        rw [c2] at hr
        have hst := markStep (B0 ++ T.bxs B0.length (upT ks k i)) (B0 ++ T.bxs B0.length (upT ks k (i + 1))) B1 (B0.length + T.nbs ks) ks.length i ((k + 2 * cnts (ks.take i) : Nat) : Int) ((k + 2 * cnts (ks.take i) + 1 : Nat) : Int) ((k + 2 * cnts (ks.take i) + 2 : Nat) : Int) ((k + 2 * cnts (ks.take (i + 1)) : Nat) : Int)
          (tCells B0.length (T.marks k (ks.take i))) (tCells (B0.length + T.nbs (T.marks k (ks.take i)) + rowN (tAt ks i).kids) (ks.drop (i + 1))) (.d (.int .i64 (tAt ks i).f)) (.d (.int .i64 (tAt ks i).v)) (tRow (B0.length + T.nbs (T.marks k (ks.take i))) (tAt ks i).kids) (hlen i) (hlen (i + 1)) hi hl
          (by rw [tCells_len, marks_len, List.length_take]; omega) (wrap_succ (by omega)) (wrap_succ (by omega)) (clr_tRow _ _) hr
        rw [← c1, ← c2] at hst
        exact ⟨_, hst, head_cut (e := []) (by simp) (by simp [safeRegs, safe_tsl]) (by rw [List.length_append, hlen]; simp) (by simp)⟩)
      ks.length () 0 ⟨[(0, .tsl true (B0.length + T.nbs ks) 3 ks.length), (1, .d (.int .i64 (k : Int))), (5, .d (.int .i64 0))], (B0 ++ T.bxs B0.length ks) ++ some (tCells B0.length ks) :: B1⟩ (by omega) (head_cut (e := []) (by simp [cnts, T.inners]) (by simp [safeRegs, safe_tsl]) (by rw [upT_zero, List.length_append, List.length_append, bxs_len]; simp) (by simp [upT_zero]))
    rw [run_on, upT_all] at h
    simp only [lin_244] at h
    have hln : (B0 ++ T.bxs B0.length ks ++ [some (tCells B0.length ks)] ++ B1).length = B0.length + T.nbs ks + (B1.length + 1) := by simp [bxs_len]; omega
    have hap : ∀ (X : Boxs) (c : List AV), B0 ++ (X ++ [some c]) ++ B1 = (B0 ++ X) ++ some c :: B1 := fun X c => by simp
    have hln2 : ((B0 ++ T.bxs B0.length ks) ++ some (tCells B0.length ks) :: B1).length = B0.length + T.nbs ks + (B1.length + 1) := by simp [bxs_len]; omega
    rw [hap, hap]
    have hln3 : ((B0 ++ T.bxs B0.length (T.marks k ks)) ++ some (tCells B0.length (T.marks k ks)) :: B1).length = B0.length + T.nbs ks + (B1.length + 1) := by simp [bxs_len, nbs_marks]; omega
    generalize hQ : (B0 ++ T.bxs B0.length ks) ++ some (tCells B0.length ks) :: B1 = Q at h hln2 ⊢
    generalize hQ' : (B0 ++ T.bxs B0.length (T.marks k ks)) ++ some (tCells B0.length (T.marks k ks)) :: B1 = Q' at h hln3 ⊢
    generalize ((k + 2 * cnts ks : Nat) : Int) = Kn at h ⊢
    rw [← hln2] at h
    have htk : List.take Q.length Q' = Q' := List.take_of_length_le (by omega)
    simp [v244, r244_0, r244_1, r244_2, r244_4, r244_5, r244_6, r244_7, r244_8, r244_3, r244_9]
    rw [h]
    simp [v244, r244_0, r244_1, r244_2, r244_4, r244_5, r244_6, r244_7, r244_8, r244_3, r244_9, htk]
theorem markRow_eq (ks : List T) (hl : cnts ks ≤ 1048576) (k : Nat) (hk : k + 2 * cnts ks ≤ 4611686018427387904) (B0 B1 : Boxs) :
    callX XV 244 [tRow B0.length ks, .d (.int .i64 (k : Int))] (B0 ++ bRow B0.length ks ++ B1) = some (.d (.int .i64 ((k + 2 * cnts ks : Nat) : Int)), B0 ++ bRow B0.length (T.marks k ks) ++ B1) :=
  markRow_of ks (by unfold cnts at hl; omega) (fun t ht k hk B0 B1 => by
    have hin := T.inners_mem ht
    have hct : cnts t.kids ≤ 1048576 := by rw [cnts_kids]; unfold cnts at hl; omega
    have := markRow_eq t.kids hct k (by rw [cnts_kids]; exact hk) B0 B1
    rw [cnts_kids] at this; exact this) k hk B0 B1
termination_by SizeOf.sizeOf ks
decreasing_by
  have h1 := List.sizeOf_lt_of_mem ht
  have h2 : SizeOf.sizeOf t.kids < SizeOf.sizeOf t := by cases t; simp [T.kids]; omega
  omega
end Go.Proofs.Ytanfjghdjkiggaa.VS
