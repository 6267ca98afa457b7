/- Contracts of the program's functions on the evaluator without names, and plain lemmas: part 3. -/
import Derived.Test.YtnjgnjejkmcgmaaXP2
namespace Go.Proofs.Ytnjgnjejkmcgmaa.VS
set_option linter.unusedVariables false
set_option linter.unusedSimpArgs false
mutual
/-- The reference's value of one form (some of its rows are shared). -/
def nM (s : List SymL) : T → DV
  | .node f v ks => .agg [.int .i64 f, .int .i64 v, .sl U (if blindB s f = true then (isort (flatK s f (T.norms s ks))).map (T.enc .sub) else nMs s ks)]
def nMs (s : List SymL) : List T → List DV
  | [] => []
  | t :: r => nM s t :: nMs s r
end
theorem nMs_map (s : List SymL) : ∀ l : List T, nMs s l = l.map (nM s)
  | [] => by simp [nMs]
  | t :: r => by simp [nMs, nMs_map s r]
theorem flatK_not (s : List SymL) (f : Int) (h : ¬ blindB s f = true) : ∀ l : List T, flatK s f l = l
  | [] => rfl
  | k :: l => by
    rw [flatK_cons, flatK_not s f h l]
    have h' : blindB s f = false := by simpa using h
    simp [appK, h']
def rowM (s : List SymL) (t : T) : List DV := if blindB s t.f = true then (t.norm s).kids.map (T.enc .sub) else t.kids.map (nM s)
theorem nM_eq (s : List SymL) (t : T) : nM s t = .agg [.int .i64 t.f, .int .i64 t.v, .sl U (rowM s t)] := by
  obtain ⟨f, v, ks⟩ := t
  unfold rowM
  simp only [nM, T.norm, T.f_node, T.v_node, T.kids_node, nMs_map]
  split <;> rfl
mutual
theorem clr_nM (s : List SymL) : ∀ t : T, (nM s t).clr = (t.norm s).enc .sub
  | .node f v ks => by
    have h := clrs_nMs s ks
    by_cases hb : blindB s f = true
    · simp only [nM, T.norm, hb, if_true, T.enc, DV.clr, DV.clrs]
      rw [T.encs_map, DV.clrs_map, clr_terms]
    · simp only [nM, T.norm, hb, Bool.false_eq_true, if_false, T.enc, DV.clr, DV.clrs]
      rw [h, flatK_not s f hb]
theorem clrs_nMs (s : List SymL) : ∀ l : List T, DV.clrs (nMs s l) = T.encs .sub (T.norms s l)
  | [] => by simp [nMs, T.norms, T.encs, DV.clrs]
  | t :: r => by simp only [nMs, T.norms, T.encs, DV.clrs, clr_nM s t, clrs_nMs s r]
end
theorem clr_rowM (s : List SymL) (t : T) : (rowM s t).map DV.clr = (t.norm s).kids.map (T.enc .sub) := by
  have := clr_nM s t
  rw [nM_eq, T.enc_eq] at this
  simp only [DV.clr, DV.clrs, DV.agg.injEq, List.cons.injEq, DV.sl.injEq] at this
  rw [← DV.clrs_map]
  exact this.2.2.1.2
theorem cells_nM (s : List SymL) (t : T) : (nM s t).cells = [.int .i64 t.f, .int .i64 t.v, .sl U (rowM s t)] := by rw [nM_eq]; rfl
theorem app_nM (s : List SymL) (a : List T) (t : T) (h : a.length ≤ 1099511627776) : xappend 3 40 (.sl U (a.map (nM s))) (.sl U [nM s t]) = some (.sl U (a.map (nM s) ++ [nM s t])) := by
  unfold xappend
  simp only
  rw [if_pos (by simp [cells_nM, isCell_int, isCell_sl])]
  simp only [List.isEmpty_cons, Bool.false_eq_true, if_false]
  rw [if_pos ⟨by simp; omega, trivial, by simp [cells_nM]⟩]
/-- The Kids that the reference has behind so many steps. -/
def rowAt (s : List SymL) (f : Int) (ks : List T) (i : Nat) : List DV := if blindB s f = true then (isort (accK s f ks i)).map (T.enc .sub) else (ks.take i).map (nM s)
theorem rowAt_zero (s : List SymL) (f : Int) (ks : List T) : rowAt s f ks 0 = [] := by unfold rowAt; rw [accK_zero]; split <;> rfl
theorem rowAt_all (s : List SymL) (f v : Int) (ks : List T) : DV.agg [.int .i64 f, .int .i64 v, .sl U (rowAt s f ks ks.length)] = nM s (.node f v ks) := by
  unfold rowAt
  rw [accK_all, List.take_length]
  simp only [nM, nMs_map]
def nB3 (f v : Int) (ks : List T) (R : List DV) : Boxs := [some [.d (.int .i64 f), .d (.int .i64 v), .d (terms .sub ks)], some [.d (.int .i64 0), .d (.int .i64 0), .d (.sl U [])], some [.d (.int .i64 f), .d (.int .i64 v), .d (.sl U R)]]
theorem inner153 (s : List SymL) (hs : s.length ≤ 1099511627776) (f v kf kv : Int) (ks l : List T) (i : Nat) (hl : l.length ≤ 1099511627776) (X : List DV) (hX : X.map DV.clr = l.map (T.enc .sub)) : ∀ (k j : Nat), j + k = l.length → ∀ acc : List T, cnts acc + cnts (l.drop j) ≤ 1099511627776 → ∀ e : Boxs,
    loopX XV (XV.lin 153) 4 [0, 3, 4, 5, 6, 7, 8] b153_1 ⟨[(0, .d (sg s)), (3, .ptr 0 0), (4, .ptr 1 0), (5, .ptr 2 0), (6, .d (.int .i64 i)), (7, .ptr 3 0), (8, .d (.int .i64 j))], nB3 f v ks (acc.map (T.enc .sub)) ++ [some [.d (.int .i64 kf), .d (.int .i64 kv), .d (.sl U X)]] ++ e⟩ =
      some (.exit 3, ⟨[(0, .d (sg s)), (3, .ptr 0 0), (4, .ptr 1 0), (5, .ptr 2 0), (6, .d (.int .i64 i)), (7, .ptr 3 0), (8, .d (.int .i64 l.length)), (32, .d (.bool false))], nB3 f v ks ((isortOn acc (l.drop j)).map (T.enc .sub)) ++ [some [.d (.int .i64 kf), .d (.int .i64 kv), .d (.sl U X)]]⟩) := by
  have head : ∀ (x : Int) (A e : Boxs), A.length = 4 → xheadOf 4 [0, 3, 4, 5, 6, 7, 8] ⟨[(0, .d (sg s)), (3, .ptr 0 0), (4, .ptr 1 0), (5, .ptr 2 0), (6, .d (.int .i64 i)), (7, .ptr 3 0), (8, .d (.int .i64 x))], A ++ e⟩ = some ⟨[(0, .d (sg s)), (3, .ptr 0 0), (4, .ptr 1 0), (5, .ptr 2 0), (6, .d (.int .i64 i)), (7, .ptr 3 0), (8, .d (.int .i64 x))], A⟩ := fun x A e hA =>
    head_cut (by simp) (by simp [safeRegs]) hA rfl
  intro k
  induction k with
  | zero =>
    intro j hj acc ha e
    have : j = l.length := by omega
    subst this
    refine loopX_out (head _ _ e (by simp [nB3])) ?_ (by simp)
    rw [List.drop_length]
    simp only [isortOn]
    simp [b153_1, r153_0, r153_1, r153_2, r153_3, r153_5, r153_10, r153_11, r153_12, r153_13, r153_6, r153_7, d153_9, r153_8, r153_4, r153_14, nB3, loadBox, hX]
  | succ k ih =>
    intro j hj acc ha e
    have hlt : j < l.length := by omega
    have hm := tAt_mem hlt
    have h1 := mem_inner hm
    have hd : l.drop j = tAt l j :: l.drop (j + 1) := by rw [List.drop_eq_getElem_cons hlt, tAt_lt hlt]
    have hw := wrap_succ (n := j) (by omega)
    rw [hd, cnts_cons] at ha
    have hp := l4Put_eq acc (tAt l j) (by omega) (by omega)
    rw [hd]
    simp only [isortOn]
    rw [← ih (j + 1) (by omega) (ins (tAt l j) acc) (by rw [cnts_perm (ins_perm _ _), cnts_cons]; omega) []]
    refine loopX_go (head _ _ e (by simp [nB3])) ?_
    simp [b153_1, r153_0, r153_1, r153_2, r153_3, r153_5, r153_10, r153_11, r153_12, r153_13, r153_6, r153_7, d153_9, r153_8, r153_4, r153_14, nB3, hlt, hw, cut, tAt_lt hlt, hp, hX, splice, isCell_int, isCell_sl, isCellA_d, safe_d, loadBox]
theorem kid153 (s : List SymL) (hs : s.length ≤ 1099511627776) (f v : Int) (ks : List T) (hl : cnts ks ≤ 1099511627776) (i : Nat) (hi : i < ks.length)
    (hc : callX XV 153 [.d (sg s), .d ((tAt ks i).enc .sub)] [] = some (.d (nM s (tAt ks i)), [])) :
    ∃ e : Boxs, codeX XV (XV.lin 153) b153_0 ⟨[(0, .d (sg s)), (3, .ptr 0 0), (4, .ptr 1 0), (5, .ptr 2 0), (6, .d (.int .i64 i))], nB3 f v ks (rowAt s f ks i)⟩ =
      some (.normal, ⟨[(0, .d (sg s)), (3, .ptr 0 0), (4, .ptr 1 0), (5, .ptr 2 0), (6, .d (.int .i64 (i + 1 : Nat)))], nB3 f v ks (rowAt s f ks (i + 1)) ++ e⟩) := by
  have hlen := len_cnts ks
  have hw := wrap_succ (n := i) (by omega)
  have hb := specBlind_eq s hs f
  have ht := tAt_lt hi
  have hm := mem_inner (tAt_mem hi)
  have hin := inner_norm s (tAt ks i)
  have hac := accK_succ s f ks i hi
  have hcn := accK_cnts s f ks (i + 1)
  have htk := take_snoc ks i hi
  have hM := clr_rowM s (tAt ks i)
  have hnf := norm_f s (tAt ks i)
  have hnv := norm_v s (tAt ks i)
  have happ := app_nM s (ks.take i) (tAt ks i) (by simp; omega)
  rw [hac, cnts_append] at hcn
  unfold rowAt
  rw [hac, htk]
  rw [nM_eq] at hc happ
  generalize hk : tAt ks i = k at *
  generalize hr : accK s f ks i = acc at *
  generalize hX : rowM s k = X at *
  by_cases h1 : blindB s f = true
  · simp only [h1, if_true]
    by_cases h2 : (k.f == f) = true
    · have e1 : appK s f (k.norm s) = (k.norm s).kids := by unfold appK; rw [hnf, h1, h2]; rfl
      rw [e1] at hcn ⊢
      have hloop := inner153 s hs f v k.f k.v ks (k.norm s).kids i (by have := len_cnts (k.norm s).kids; rw [cnts_kids] at this; omega) X hM (k.norm s).kids.length 0 (by omega) (isort acc) (by rw [cnts_perm (isort_perm acc), List.drop_zero]; omega) []
      rw [List.drop_zero, show isortOn (isort acc) (k.norm s).kids = isort (acc ++ (k.norm s).kids) from by unfold isort; rw [isortOn_append]] at hloop
      refine ⟨[some [.d (.int .i64 k.f), .d (.int .i64 k.v), .d (.sl U X)]], ?_⟩
      have h2n : (k.f != f) = false := by simpa using h2
      generalize (isort (acc ++ (k.norm s).kids)).map (T.enc .sub) = R2 at *
      have hRc : ((isort acc).map (T.enc .sub)).map DV.clr = (isort acc).map (T.enc .sub) := by rw [clr_terms]
      generalize (isort acc).map (T.enc .sub) = R1 at *
      generalize (k.norm s).kids = l at *
      simp only [nB3, lin_153, Int.natCast_zero, List.cons_append, List.nil_append, List.append_nil] at hloop ⊢
      simp [b153_0, r153_0, r153_1, r153_2, r153_3, r153_5, r153_10, r153_11, r153_12, r153_13, r153_6, r153_7, d153_9, r153_8, r153_4, r153_14, hi, hw, cut, ht, hc, hb, h1, h2n, hM, splice, isCell_int, isCell_sl, isCellA_d, safe_d, loadBox, AV.clrs_map]
      rw [hloop]
      simp [b153_0, r153_0, r153_1, r153_2, r153_3, r153_5, r153_10, r153_11, r153_12, r153_13, r153_6, r153_7, d153_9, r153_8, r153_4, r153_14, hw]
    · have h2' : (k.f == f) = false := by simpa using h2
      have h2n : (k.f != f) = true := by simpa using h2
      have e1 : appK s f (k.norm s) = [k.norm s] := by unfold appK; rw [hnf, h1, h2']; rfl
      rw [e1] at hcn ⊢
      rw [show isort (acc ++ [k.norm s]) = ins (k.norm s) (isort acc) from by unfold isort; rw [isortOn_append]; rfl]
      have hp := l4Put_eq (isort acc) (k.norm s) (by rw [cnts_perm (isort_perm acc)]; omega) (by omega)
      have hke : (k.norm s).enc .sub = .agg [.int .i64 k.f, .int .i64 k.v, terms .sub (k.norm s).kids] := by rw [T.enc_eq, hnf, hnv]
      rw [hke, agg_enc] at hp
      refine ⟨[some [.d (.int .i64 k.f), .d (.int .i64 k.v), .d (.sl U X)]], ?_⟩
      generalize ins (k.norm s) (isort acc) = R2 at *
      generalize isort acc = R1 at *
      generalize (k.norm s).kids = l at *
      simp [b153_0, r153_0, r153_1, r153_2, r153_3, r153_5, r153_10, r153_11, r153_12, r153_13, r153_6, r153_7, d153_9, r153_8, r153_4, r153_14, nB3, hi, hw, cut, ht, hc, hb, h1, h2n, hM, hp, splice, isCell_int, isCell_sl, isCellA_d, safe_d, loadBox, AV.clrs_map]
  · have h1' : blindB s f = false := by simpa using h1
    simp only [h1', Bool.false_eq_true, if_false]
    refine ⟨[some [.d (.int .i64 k.f), .d (.int .i64 k.v), .d (terms .sub (k.norm s).kids)]], ?_⟩
    rw [List.map_append, List.map_cons, List.map_nil, nM_eq, hX]
    generalize hR2 : (ks.take i).map (nM s) ++ [.agg [.int .i64 k.f, .int .i64 k.v, .sl U X]] = R2 at *
    generalize (ks.take i).map (nM s) = R1 at *
    generalize (k.norm s).kids = l at *
    simp [b153_0, r153_0, r153_1, r153_2, r153_3, r153_5, r153_10, r153_11, r153_12, r153_13, r153_6, r153_7, d153_9, r153_8, r153_4, r153_14, nB3, hi, hw, cut, ht, hc, hb, h1', happ, hM, splice, isCell_int, isCell_sl, isCellA_d, safe_d, loadBox, AV.clrs_map]
end Go.Proofs.Ytnjgnjejkmcgmaa.VS
namespace Go.Proofs.Ytnjgnjejkmcgmaa.VS
set_option linter.unusedVariables false
set_option linter.unusedSimpArgs false
theorem loop153 (s : List SymL) (hs : s.length ≤ 1099511627776) (f v : Int) (ks : List T) (hl : cnts ks ≤ 1099511627776)
    (hc : ∀ t, t ∈ ks → callX XV 153 [.d (sg s), .d (t.enc .sub)] [] = some (.d (nM s t), [])) : ∀ (k i : Nat), i + k = ks.length → ∀ e : Boxs,
    loopX XV (XV.lin 153) 3 [0, 3, 4, 5, 6] b153_0 ⟨[(0, .d (sg s)), (3, .ptr 0 0), (4, .ptr 1 0), (5, .ptr 2 0), (6, .d (.int .i64 i))], nB3 f v ks (rowAt s f ks i) ++ e⟩ =
      some (.exit 0, ⟨[(0, .d (sg s)), (3, .ptr 0 0), (4, .ptr 1 0), (5, .ptr 2 0), (6, .d (.int .i64 ks.length)), (18, .d (.bool false))], nB3 f v ks (rowAt s f ks ks.length)⟩) := by
  have head : ∀ (x : Int) (A e : Boxs), A.length = 3 → xheadOf 3 [0, 3, 4, 5, 6] ⟨[(0, .d (sg s)), (3, .ptr 0 0), (4, .ptr 1 0), (5, .ptr 2 0), (6, .d (.int .i64 x))], A ++ e⟩ = some ⟨[(0, .d (sg s)), (3, .ptr 0 0), (4, .ptr 1 0), (5, .ptr 2 0), (6, .d (.int .i64 x))], A⟩ := fun x A e hA =>
    head_cut (by simp) (by simp [safeRegs]) hA rfl
  intro k
  induction k with
  | zero =>
    intro i hi e
    have : i = ks.length := by omega
    subst this
    refine loopX_out (head _ _ e (by simp [nB3])) ?_ (by simp)
    generalize rowAt s f ks ks.length = R
    simp [b153_0, r153_0, r153_1, r153_2, r153_3, r153_5, r153_10, r153_11, r153_12, r153_13, r153_6, r153_7, d153_9, r153_8, r153_4, r153_14, nB3, loadBox]
  | succ k ih =>
    intro i hi e
    have hlt : i < ks.length := by omega
    obtain ⟨e', he⟩ := kid153 s hs f v ks hl i hlt (hc _ (tAt_mem hlt))
    rw [← ih (i + 1) (by omega) e']
    exact loopX_go (head _ _ e (by simp [nB3])) he
theorem specNorm_of (s : List SymL) (hs : s.length ≤ 1099511627776) (f v : Int) (ks : List T) (hl : cnts ks ≤ 1099511627776)
    (hc : ∀ t, t ∈ ks → callX XV 153 [.d (sg s), .d (t.enc .sub)] [] = some (.d (nM s t), [])) :
    callX XV 153 [.d (sg s), .d ((T.node f v ks).enc .sub)] [] = some (.d (nM s (.node f v ks)), []) := by
  rw [z_call XV _ _ _ v153 rfl xcode_153 rfl]
  have hloop := loop153 s hs f v ks hl hc ks.length 0 (by omega) []
  rw [← rowAt_all]
  simp only [rowAt_zero, List.append_nil, lin_153, nB3, Int.natCast_zero] at hloop
  generalize rowAt s f ks ks.length = R at *
  simp [v153, r153_0, r153_1, r153_2, splice, isCell_int, isCell_sl, isCellA_d, safe_d, loadBox, AV.clrs_map]
  rw [hloop]
  simp [r153_14, splice, isCell_int, isCell_sl, isCellA_d, safe_d, loadBox, AV.clrs_map]
theorem specNorm_eq (s : List SymL) (hs : s.length ≤ 1099511627776) (t : T) (ht : t.inner ≤ 1099511627776) : callX XV 153 [.d (sg s), .d (t.enc .sub)] [] = some (.d (nM s t), []) := by
  match t, ht with
  | .node f v ks, ht =>
    rw [T.inner_node] at ht
    exact specNorm_of s hs f v ks ht fun x hx => specNorm_eq s hs x (by have := mem_inner hx; omega)
termination_by t
decreasing_by
  simp_wf
  have := List.sizeOf_lt_of_mem hx
  omega
end Go.Proofs.Ytnjgnjejkmcgmaa.VS
namespace Go.Proofs.Ytnjgnjejkmcgmaa.VS
set_option linter.unusedVariables false
set_option linter.unusedSimpArgs false
/-! ## Substitutions that lie in boxes -/
abbrev ts (l : List Bd) : List T := l.map Bd.t
/-! ### Marks -/
end Go.Proofs.Ytnjgnjejkmcgmaa.VS
namespace Go.Proofs.Ytnjgnjejkmcgmaa.VS
set_option linter.unusedVariables false
set_option linter.unusedSimpArgs false
theorem allU_terms (l : List T) : (terms U l).allU = true := by
  have h := allU_enc (.node 0 0 l)
  rw [T.enc_eq] at h
  have h2 : DV.allU (.agg [.int .i64 0, .int .i64 0, terms U l]) = (true && (true && ((terms U l).allU && true))) := rfl
  rw [T.f_node, T.v_node, T.kids_node, h2] at h
  simpa using h
end Go.Proofs.Ytnjgnjejkmcgmaa.VS
namespace Go.Proofs.Ytnjgnjejkmcgmaa.VS
set_option linter.unusedVariables false
set_option linter.unusedSimpArgs false
/-! ## Numbers written in digits -/
def dgb (n : Nat) : UInt8 := UInt8.ofNat (48 + n)
def dgt (n : Nat) : ByteArray := ⟨#[dgb n]⟩
def digs (n : Nat) : ByteArray := if n < 10 then dgt n else digs (n / 10) ++ dgt (n % 10)
theorem digs_lt {n : Nat} (h : n < 10) : digs n = dgt n := by rw [digs, if_pos h]
theorem digs_ge {n : Nat} (h : ¬ n < 10) : digs n = digs (n / 10) ++ dgt (n % 10) := by rw [digs, if_neg h]
theorem dgt_size (n : Nat) : (dgt n).size = 1 := rfl
theorem digs_size : ∀ (k n : Nat), n < 10 ^ (k + 1) → (digs n).size ≤ k + 1
  | 0, n, h => by rw [digs_lt (by omega), dgt_size]; omega
  | k + 1, n, h => by
    by_cases c : n < 10
    · rw [digs_lt c, dgt_size]; omega
    · rw [digs_ge c, ByteArray.size_append, dgt_size]
      have := digs_size k (n / 10) (by rw [Nat.pow_succ] at h; omega)
      omega
theorem digs_size20 {n : Nat} (h : n ≤ 9223372036854775808) : (digs n).size ≤ 20 := digs_size 19 n (by omega)
theorem wrap_u8' {n : Int} (h : 0 ≤ n) (h2 : n ≤ 255) : IntKind.u8.wrap n = n := by
  simp [IntKind.wrap, IntKind.bits, IntKind.signed]; omega
theorem evInt_quo10 (k : IntKind) (x : Int) : evInt .quo k x 10 = some (.int k (k.wrap (x.tdiv 10))) := rfl
theorem evInt_rem10 (k : IntKind) (x : Int) : evInt .rem k x 10 = some (.int k (x.tmod 10)) := rfl
theorem evBin_cat {a b : ByteArray} (h : a.size + b.size ≤ 4611686018427387904) : evBin .add (.str a) (.str b) = some (.str (a ++ b)) := by simp [evBin, h]
/-! The loop, from the last digit on -/
def digs0 (k : Nat) : ByteArray := if k = 0 then ByteArray.empty else digs k
theorem digs0_step {k : Nat} (h : k ≠ 0) (s : ByteArray) : digs0 (k / 10) ++ (dgt (k % 10) ++ s) = digs0 k ++ s := by
  unfold digs0
  rw [if_neg h]
  by_cases c : k < 10
  · have : k / 10 = 0 := by omega
    rw [if_pos this, digs_lt c, ByteArray.empty_append, Nat.mod_eq_of_lt c]
  · rw [if_neg (by omega), digs_ge c, ByteArray.append_assoc]
theorem bytes_dgt {k : Nat} (h : k < 10) : bytesOf [.int .u8 (48 + (k : Int))] = some [dgb k] := by
  have : (48 + (k : Int)).toNat = 48 + k := by omega
  simp [bytesOf, this, dgb]
def dst (n : Int) (neg : Bool) (s : ByteArray) : XS := ⟨[(0, .d (.int .i64 n)), (3, .d (.bool neg)), (4, .d (.str s))], []⟩
end Go.Proofs.Ytnjgnjejkmcgmaa.VS
namespace Go.Proofs.Ytnjgnjejkmcgmaa.VS
set_option linter.unusedVariables false
set_option linter.unusedSimpArgs false
/-! ## Marks in texts; signatures that lie in boxes -/
def mst (k : Nat) (s : ByteArray) (B : Boxs) : XS := ⟨[(0, .d (.int .i64 k)), (3, .d (.str s))], B⟩
theorem body294 (k : Nat) (hk : k ≠ 0) (hk2 : k ≤ 4611686018427387904) (s : ByteArray) (hs : s.size ≤ 100) (B : Boxs) :
    ∃ s', codeX XV [] b294_0 (mst k s B) = some (.normal, s') ∧ xheadOf B.length [0, 3] s' = some (mst (k / 10) (dgt (k % 10) ++ s) B) := by
  have hw : IntKind.i64.wrap (48 + ((k % 10 : Nat) : Int)) = 48 + ((k % 10 : Nat) : Int) := wrap_i64 (by omega) (by omega)
  have hw2 : IntKind.u8.wrap (48 + ((k % 10 : Nat) : Int)) = 48 + ((k % 10 : Nat) : Int) := wrap_u8' (by omega) (by omega)
  have hb := bytes_dgt (k := k % 10) (by omega)
  have ha : evBin .add (.str ⟨#[dgb (k % 10)]⟩) (.str s) = some (.str (dgt (k % 10) ++ s)) := evBin_cat (a := dgt (k % 10)) (by rw [dgt_size]; omega)
  have c0 : ((0 : Int) < (k : Int)) := by omega
  have hq : (k : Int).tdiv 10 = ((k / 10 : Nat) : Int) := rfl
  have hr : (k : Int).tmod 10 = ((k % 10 : Nat) : Int) := rfl
  have hwq : IntKind.i64.wrap ((k / 10 : Nat) : Int) = ((k / 10 : Nat) : Int) := wrap_i64 (by omega) (by omega)
  unfold mst
  generalize ((k : Nat) : Int) = kk at *
  generalize ((k / 10 : Nat) : Int) = q at *
  generalize ((k % 10 : Nat) : Int) = r at *
  refine ⟨⟨[(0, .d (.int .i64 q)), (3, .d (.str (dgt (k % 10) ++ s)))], B⟩, by simp [b294_0, r294_0, r294_1, r294_2, r294_3, r294_4, r294_5, r294_6, r294_7, c0, hq, hr, evInt_quo10, evInt_rem10, hw, hw2, hwq, hb, ha, buildRow, List.replicate], head_cut (e := []) (by simp) (by simp [safeRegs]) rfl (by simp)⟩
theorem loop294 (B : Boxs) : ∀ (j k : Nat) (s : ByteArray), k < 10 ^ j → k ≤ 4611686018427387904 → s.size + j ≤ 100 →
    ∀ s0, xheadOf B.length [0, 3] s0 = some (mst k s B) → loopX XV [] B.length [0, 3] b294_0 s0 = some (.exit 0, ⟨[(0, .d (.int .i64 0)), (3, .d (.str (digs0 k ++ s))), (7, .d (.bool false))], B⟩) := by
  intro j
  induction j with
  | zero =>
    intro k s hk hk2 hs s0 h0
    obtain rfl : k = 0 := by simpa using hk
    refine loopX_out h0 ?_ (by simp)
    simp [mst, b294_0, r294_4, digs0, ByteArray.empty_append]
  | succ j ih =>
    intro k s hk hk2 hs s0 h0
    by_cases hz : k = 0
    · subst hz
      refine loopX_out h0 ?_ (by simp)
      simp [mst, b294_0, r294_4, digs0, ByteArray.empty_append]
    · obtain ⟨s', hb, hh⟩ := body294 k hz hk2 s (by omega) B
      rw [loopX_go h0 hb]
      have := ih (k / 10) (dgt (k % 10) ++ s) (by rw [Nat.pow_succ] at hk; omega) (by omega) (by rw [ByteArray.size_append, dgt_size]; omega) s' hh
      rw [this, digs0_step hz]
def mText (k : Nat) : ByteArray := ⟨#[109]⟩ ++ digs k
theorem markText_eq (k : Nat) (h0 : 0 < k) (hk : k ≤ 4611686018427387904) (B : Boxs) : callX XV 294 [.d (.int .i64 k)] B = some (.d (.str (mText k)), B) := by
  rw [z_call XV _ _ _ v294 rfl xcode_294 rfl]
  have hl := loop294 B 20 k ByteArray.empty (by omega) hk (by decide) ⟨[(0, .d (.int .i64 k)), (3, .d (.str ByteArray.empty))], B⟩ (head_cut (e := []) (by simp [mst]) (by simp [safeRegs]) rfl (by simp [mst]))
  have hd : digs0 k ++ ByteArray.empty = digs k := by unfold digs0; rw [if_neg (by omega), ByteArray.append_empty]
  rw [hd] at hl
  have hs := digs_size20 (n := k) (by omega)
  have ha : evBin .add (.str ⟨#[109]⟩) (.str (digs k)) = some (.str (mText k)) := evBin_cat (a := ⟨#[109]⟩) (by rw [show (⟨#[109]⟩ : ByteArray).size = 1 from rfl]; omega)
  have c0 : ¬ ((k : Int) ≤ 0) := by omega
  generalize ((k : Nat) : Int) = kk at *
  simp [v294, r294_0, r294_1, r294_3, c0]
  simp only [show (⟨#[]⟩ : ByteArray) = ByteArray.empty from rfl, hl]
  simp [r294_7, ha]
def sCells : List SymL → List AV
  | [] => []
  | x :: r => .d (.str x.name) :: .d (.int .i64 x.arity) :: .d (.bool x.ac) :: sCells r
def tSy (b : Nat) (l : List SymL) : AV := if l = [] then .d (sg []) else .tsl true b 3 l.length
def bSy (l : List SymL) : Boxs := if l = [] then [] else [some (sCells l)]
theorem sCells_len : ∀ l : List SymL, (sCells l).length = 3 * l.length
  | [] => rfl
  | x :: r => by simp [sCells, sCells_len r]; omega
theorem sCells_append : ∀ a c : List SymL, sCells (a ++ c) = sCells a ++ sCells c
  | [], c => rfl
  | x :: r, c => by simp [sCells, sCells_append r c]
theorem thws_syms (b : Nat) : ∀ l : List SymL, thws b (l.map SymL.enc) = (sCells l, [])
  | [] => rfl
  | x :: r => by
    rw [List.map_cons]
    simp only [thws]
    have h : thw b x.enc = ([.d (.str x.name), .d (.int .i64 x.arity), .d (.bool x.ac)], []) := rfl
    rw [h]
    simp only [List.length_nil, Nat.add_zero, thws_syms b r]
    rfl
theorem thaw_syms (b : Nat) (l : List SymL) : (sg l).thaw b = (tSy b l, bSy l) := by
  cases l with
  | nil => rfl
  | cons x r =>
    have h := thws_syms b (x :: r)
    simp only [List.map_cons] at h
    show thawOne b (.sl .sub (x.enc :: r.map SymL.enc)) = _
    simp only [thawOne, thw, h, tSy, bSy]
    have ha : isAgD x.enc = true := rfl
    have h3 : x.enc.cells.length = 3 := rfl
    simp [ha, h3]
theorem frzL_syms (f : AV → Option DV) (hf : ∀ v, f (.d v) = some v) : ∀ l : List SymL, frzL f (sCells l) = some (flat (l.map SymL.enc))
  | [] => rfl
  | x :: r => by
    have h := frzL_syms f hf r
    simp only [sCells, frzL_cons, hf, h, frzO_some, List.map_cons]
    rfl
theorem frz_tSy (l : List SymL) (P Q : Boxs) : AV.frz (P ++ bSy l ++ Q) (tSy P.length l) = some (sg l) := by
  by_cases hp : l = []
  · subst hp; simp [tSy, bSy, AV.frz, frzC_d]
  · have hb : P ++ bSy l ++ Q = P ++ (some (sCells l) :: Q) := by simp [bSy, hp]
    have hg : bget (P ++ (some (sCells l) :: Q)) P.length = some (sCells l) := by
      unfold bget; rw [get_at]
    rw [hb]
    unfold tSy
    rw [if_neg hp]
    obtain ⟨m, hm⟩ : ∃ m, (P ++ (some (sCells l) :: Q)).length = m + 1 := ⟨P.length + Q.length, by simp; omega⟩
    simp only [AV.frz]
    rw [hm]
    simp only [AV.frzC]
    rw [hg, Option.bind_some, frzL_syms _ (fun v => frzC_d _ _ v), Option.bind_some]
    have hok := symEncs_ok l
    have hfl : (flat (l.map SymL.enc)).length = l.length * 3 := by rw [flat_len (fun x hx => (hok x hx).1)]; simp
    rw [if_pos hfl]
    have hch := chunks_row (l.map SymL.enc) hok
    rw [List.length_map] at hch
    rw [hch]; rfl
theorem clr_tSy (b : Nat) (l : List SymL) : (tSy b l).clr = tSy b l := by
  unfold tSy; split
  · simp [AV.clr, DV.clr, DV.clrs]
  · simp only [AV.clr]
def mkSy1 (k : Nat) : SymL := ⟨mText k, ((k + 1 : Nat) : Int), ((((k + 2 : Nat) : Int).tmod 3) == 0)⟩
def mkSy : Nat → Nat → List SymL
  | 0, _ => []
  | n + 1, k => mkSy1 k :: mkSy n (k + 3)
theorem mkSy_len : ∀ n k : Nat, (mkSy n k).length = n
  | 0, k => rfl
  | n + 1, k => by simp [mkSy, mkSy_len n]
theorem mkSy_succ : ∀ n k : Nat, mkSy (n + 1) k = mkSy n k ++ [mkSy1 (k + 3 * n)]
  | 0, k => rfl
  | n + 1, k => by
    rw [mkSy, mkSy_succ n (k + 3), mkSy]
    simp only [List.cons_append]
    rw [show k + 3 + 3 * n = k + 3 * (n + 1) by omega]
def upSy (l : List SymL) (k i : Nat) : List SymL := mkSy i k ++ l.drop i
theorem upSy_at (l : List SymL) (k i : Nat) (hi : i < l.length) : sCells (upSy l k i) = sCells (mkSy i k) ++ .d (.str (symAt l i).name) :: .d (.int .i64 (symAt l i).arity) :: .d (.bool (symAt l i).ac) :: sCells (l.drop (i + 1)) := by
  unfold upSy; rw [List.drop_eq_getElem_cons hi, symAt_lt hi, sCells_append]; rfl
theorem upSy_next (l : List SymL) (k i : Nat) : sCells (upSy l k (i + 1)) = sCells (mkSy i k) ++ .d (.str (mText (k + 3 * i))) :: .d (.int .i64 ((k + 3 * i + 1 : Nat) : Int)) :: .d (.bool ((((k + 3 * i + 2 : Nat) : Int).tmod 3) == 0)) :: sCells (l.drop (i + 1)) := by
  unfold upSy; rw [mkSy_succ, sCells_append, sCells_append]; simp [sCells, mkSy1]
theorem rp2 (C1 C2 : List AV) (f v w x : AV) (i : Nat) (h : C1.length = i * 3) : splice (C1 ++ f :: v :: w :: C2) (i * 3 + 2) [x] = C1 ++ f :: v :: x :: C2 := by
  have := spA (C1 ++ [f, v]) C2 w x
  simp only [List.length_append, List.length_cons, List.length_nil, List.append_assoc, List.cons_append, List.nil_append, Nat.zero_add] at this
  rw [← h]; exact this
theorem evInt_rem3 (k : IntKind) (x : Int) : evInt .rem k x 3 = some (.int k (x.tmod 3)) := rfl
theorem markStepS (S B1 : Boxs) (ix n i k : Nat) (C1 C2 : List AV) (f v w : AV) (hS : S.length = ix) (hi : i < n) (hn : n ≤ 1099511627776) (hC : C1.length = i * 3) (h0 : 0 < k) (hk : k + 3 ≤ 4611686018427387904) :
    codeX XV [] b243_0 ⟨[(0, .tsl true ix 3 n), (1, .d (.int .i64 (k : Int))), (5, .d (.int .i64 (i : Int)))], S ++ some (C1 ++ f :: v :: w :: C2) :: B1⟩ =
      some (.normal, ⟨[(0, .tsl true ix 3 n), (1, .d (.int .i64 ((k + 3 : Nat) : Int))), (5, .d (.int .i64 ((i + 1 : Nat) : Int)))], S ++ some (C1 ++ .d (.str (mText k)) :: .d (.int .i64 ((k + 1 : Nat) : Int)) :: .d (.bool ((((k + 2 : Nat) : Int).tmod 3) == 0)) :: C2) :: B1⟩) := by
  have hw := wrap_succ (n := i) (by omega)
  have hw1 := wrap_succ (n := k) (by omega)
  have hw2 := wrap_succ (n := k + 1) (by omega)
  have hw3 := wrap_succ (n := k + 2) (by omega)
  have hget : ∀ (c : List AV) (r : Boxs), (S ++ some c :: r)[ix]? = some (some c) := fun c r => by rw [← hS]; exact get_at S (some c) r
  have hset : ∀ (c d : List AV) (r : Boxs), (S ++ some c :: r).set ix (some d) = S ++ some d :: r := fun c d r => by rw [← hS]; exact set_at S (some c) (some d) r
  have s0 := fun x => sp0 C1 (v :: w :: C2) f x i hC
  have s1 := fun a x => sp1 C1 (w :: C2) a v x i hC
  have s2 := fun a b x => rp2 C1 C2 a b w x i hC
  have le0 : i * 3 + 1 ≤ C1.length + (C2.length + 1 + 1 + 1) := by omega
  have le1 : i * 3 + 1 + 1 ≤ C1.length + (C2.length + 1 + 1 + 1) := by omega
  have le2 : i * 3 + 2 + 1 ≤ C1.length + (C2.length + 1 + 1 + 1) := by omega
  have hm := fun B => markText_eq k h0 (by omega) B
  generalize ((k : Nat) : Int) = K0 at *
  generalize ((k + 1 : Nat) : Int) = K1 at *
  generalize ((k + 2 : Nat) : Int) = K2 at *
  generalize ((k + 2 + 1 : Nat) : Int) = K3 at *
  simp [b243_0, r243_0, r243_1, r243_2, r243_4, r243_5, r243_6, r243_7, r243_8, r243_9, r243_3, r243_10, hi, hw, hw1, hw2, hw3, hget, hset, s0, s1, s2, le0, le1, le2, hm, evInt_rem3]
theorem markSyms_eq (l : List SymL) (hl : l.length ≤ 1099511627776) (k : Nat) (h0 : 0 < k) (hk : k + 3 * l.length ≤ 4611686018427387904) (B0 B1 : Boxs) :
    callX XV 243 [tSy B0.length l, .d (.int .i64 (k : Int))] (B0 ++ bSy l ++ B1) = some (.d (.int .i64 ((k + 3 * l.length : Nat) : Int)), B0 ++ bSy (mkSy l.length k) ++ B1) := by
  rw [z_call XV _ _ _ v243 rfl xcode_243 rfl]
  by_cases hne : l = []
  · subst hne
    have h := loopX_upto (X := XV) (T := []) (L := (B0 ++ B1).length) (live := [0, 1, 5]) (b := b243_0) (n := 0) (β := Unit) (γ := Unit) (st := fun _ i => ⟨[(0, .d (.sl .sub [])), (1, .d (.int .i64 k)), (5, .d (.int .i64 i))], B0 ++ B1⟩) (step := fun _ _ => .inl ())
      (F := fun _ => (.exit 0, ⟨[(0, .d (.sl .sub [])), (1, .d (.int .i64 k)), (5, .d (.int .i64 0)), (9, .d (.bool false))], B0 ++ B1⟩)) (R := fun _ => (.ret, ⟨[], []⟩)) (fun a => ⟨by simp, by simp [b243_0, r243_0, r243_1, r243_2, r243_4, r243_5, r243_6, r243_7, r243_8, r243_9, r243_3, r243_10]⟩) (fun a i hi => by omega) 0 () 0 ⟨[(0, .d (.sl .sub [])), (1, .d (.int .i64 k)), (5, .d (.int .i64 0))], B0 ++ B1⟩ rfl (head_cut (e := []) (by simp) (by simp [safeRegs]) rfl (by simp))
    simp only [runN, List.length_append] at h
    have htk : List.take (B0.length + B1.length) (B0 ++ B1) = B0 ++ B1 := List.take_of_length_le (by simp)
    simp [tSy, bSy, mkSy, sg, v243, r243_0, r243_1, r243_2, r243_4, r243_5, r243_6, r243_7, r243_8, r243_9, r243_3, r243_10]
    rw [h]
    simp [htk, v243, r243_0, r243_1, r243_2, r243_4, r243_5, r243_6, r243_7, r243_8, r243_9, r243_3, r243_10]
  · have hmn : mkSy l.length k ≠ [] := fun h => by
      have := mkSy_len l.length k
      rw [h] at this; exact hne (List.length_eq_zero_iff.1 this.symm)
    have h := loopX_upto (X := XV) (T := []) (L := B0.length + (B1.length + 1)) (live := [0, 1, 5]) (b := b243_0) (n := l.length) (γ := Unit) (st := fun (_ : Unit) i => ⟨[(0, .tsl true B0.length 3 l.length), (1, .d (.int .i64 ((k + 3 * i : Nat) : Int))), (5, .d (.int .i64 i))], B0 ++ some (sCells (upSy l k i)) :: B1⟩) (step := fun _ _ => .inl ())
      (F := fun _ => (.exit 0, ⟨[(0, .tsl true B0.length 3 l.length), (1, .d (.int .i64 ((k + 3 * l.length : Nat) : Int))), (5, .d (.int .i64 l.length)), (9, .d (.bool false))], B0 ++ some (sCells (upSy l k l.length)) :: B1⟩)) (R := fun _ => (.ret, ⟨[], []⟩))
      (fun _ => ⟨by simp, by generalize ((k + 3 * l.length : Nat) : Int) = K; simp [b243_0, r243_0, r243_1, r243_2, r243_4, r243_5, r243_6, r243_7, r243_8, r243_9, r243_3, r243_10]⟩)
      (fun _ i hi => by
        have hst := markStepS B0 B1 B0.length l.length i (k + 3 * i) (sCells (mkSy i k)) (sCells (l.drop (i + 1))) (.d (.str (symAt l i).name)) (.d (.int .i64 (symAt l i).arity)) (.d (.bool (symAt l i).ac)) rfl hi hl (by rw [sCells_len, mkSy_len]; omega) (by omega) (by omega)
        rw [← upSy_at l k i hi, ← upSy_next l k i, show k + 3 * i + 3 = k + 3 * (i + 1) by omega] at hst
        exact ⟨_, hst, head_cut (e := []) (by simp) (by simp [safeRegs, safe_tsl]) (by simp) (by simp)⟩)
      l.length () 0 ⟨[(0, .tsl true B0.length 3 l.length), (1, .d (.int .i64 (k : Int))), (5, .d (.int .i64 0))], B0 ++ some (sCells l) :: B1⟩ (by omega) (head_cut (e := []) (by simp) (by simp [safeRegs, safe_tsl]) (by simp) (by simp [upSy, mkSy]))
    rw [run_on] at h
    have hall : upSy l k l.length = mkSy l.length k := by simp [upSy]
    rw [hall] at h
    have htk : ∀ c : List AV, List.take (B0.length + (B1.length + 1)) (B0 ++ some c :: B1) = B0 ++ some c :: B1 := fun c => List.take_of_length_le (by simp)
    generalize ((k + 3 * l.length : Nat) : Int) = Kn at h ⊢
    simp [tSy, bSy, hne, v243, r243_0, r243_1, r243_2, r243_4, r243_5, r243_6, r243_7, r243_8, r243_9, r243_3, r243_10]
    rw [h]
    simp [v243, r243_0, r243_1, r243_2, r243_4, r243_5, r243_6, r243_7, r243_8, r243_9, r243_3, r243_10, hmn, htk]
theorem bSy_mk (l : List SymL) (k : Nat) : (bSy (mkSy l.length k)).length = (bSy l).length := by
  unfold bSy
  have := mkSy_len l.length k
  by_cases h : l = []
  · subst h; rfl
  · have h2 : mkSy l.length k ≠ [] := fun h2 => by rw [h2] at this; exact h (List.length_eq_zero_iff.1 this.symm)
    simp [h, h2]
theorem allUs_syms : ∀ l : List SymL, DV.allUs (l.map SymL.enc) = true
  | [] => rfl
  | x :: r => by
    have h2 : DV.allUs ((x :: r).map SymL.enc) = (x.enc.allU && DV.allUs (r.map SymL.enc)) := rfl
    rw [h2, allUs_syms r]; rfl
theorem allUT_syms (l : List SymL) : (DV.sl U (l.map SymL.enc)).allUT = true := by
  cases l with
  | nil => rfl
  | cons x r =>
    have h2 : (DV.sl U ((x :: r).map SymL.enc)).allUT = (decide (U = U) && DV.allUs ((x :: r).map SymL.enc)) := rfl
    rw [h2, allUs_syms]; simp
end Go.Proofs.Ytnjgnjejkmcgmaa.VS
namespace Go.Proofs.Ytnjgnjejkmcgmaa.VS
set_option linter.unusedVariables false
set_option linter.unusedSimpArgs false
end Go.Proofs.Ytnjgnjejkmcgmaa.VS
namespace Go.Proofs.Ytnjgnjejkmcgmaa.VS
set_option linter.unusedVariables false
set_option linter.unusedSimpArgs false
/-! ## Boxes of arguments, side by side -/
theorem bx_get (A L : Boxs) (r m : Nat) (h : A.length = r) : (A ++ L)[r + m]? = L[m]? := by
  subst h; rw [List.getElem?_append_right (by omega)]; congr 1; omega
theorem bx_get0 (A L : Boxs) (c : Option (List AV)) (r : Nat) (h : A.length = r) : (A ++ c :: L)[r]? = some c := by
  subst h; simp
theorem bx_set (A L : Boxs) (r m : Nat) (v : Option (List AV)) (h : A.length = r) : (A ++ L).set (r + m) v = A ++ L.set m v := by
  subst h; rw [List.set_append_right _ _ (by omega)]; congr 2; omega
theorem bx_set0 (A L : Boxs) (c v : Option (List AV)) (r : Nat) (h : A.length = r) : (A ++ c :: L).set r v = A ++ v :: L := by
  subst h; simp
theorem len_cnts' (l : List T) : l.length ≤ cnts l := by unfold cnts; omega
theorem nle1 (a b : Nat) : (a + (b + 1) ≤ a) = False := by simp
theorem clrs3 (x y z : AV) : AV.clrs [x, y, z] = [x.clr, y.clr, z.clr] := by simp only [AV.clrs]
/-- A thawed row of functions at a place, with all that a law does with it. -/
structure ThS (l : List SymL) (b : Nat) (y : AV) (R R' : Boxs) (k K : Nat) : Prop where
  th : (sg l).thaw b = (y, R)
  cl : y.clr = y
  sf : ∀ m, b + R.length ≤ m → y.safe m = true
  ic : y.isCell = true
  len : R'.length = R.length
  frz : ∀ P Q : Boxs, P.length = b → AV.frz (P ++ (R ++ Q)) y = some (sg l)
  mark : ∀ P Q : Boxs, P.length = b → callX XV 243 [y, .d (.int .i64 (k : Int))] (P ++ (R ++ Q)) = some (.d (.int .i64 (K : Int)), P ++ (R' ++ Q))
theorem safe_tSy (b m : Nat) (l : List SymL) (h : b + (bSy l).length ≤ m) : (tSy b l).safe m = true := by
  unfold tSy
  by_cases hl : l = []
  · simp [hl]
  · simp only [hl, if_false]; simp [bSy, hl] at h; simp [safe_tsl]; omega
theorem isCell_tSy (b : Nat) (l : List SymL) : (tSy b l).isCell = true := by unfold tSy; split <;> rfl
theorem thS_of (l : List SymL) (hl : l.length ≤ 1099511627776) (b k : Nat) (h0 : 0 < k) (hk : k ≤ 1000000000000) : ∃ y R R', ThS l b y R R' k (k + 3 * l.length) :=
  ⟨tSy b l, bSy l, bSy (mkSy l.length k), thaw_syms b l, clr_tSy b l, fun m h => safe_tSy b m l h, isCell_tSy b l, bSy_mk l k,
    fun P Q hP => by subst hP; rw [← List.append_assoc]; exact frz_tSy l P Q,
    fun P Q hP => by subst hP; rw [← List.append_assoc, ← List.append_assoc]; exact markSyms_eq l hl k h0 (by omega) P Q⟩
/-- A thawed term, in a variable. -/
structure ThT (t : T) (b : Nat) (row y : AV) (R R' : Boxs) (k K : Nat) : Prop where
  th : (t.enc .sub).thaw b = (.ag false [.d (.int .i64 t.f), .d (.int .i64 t.v), row], R)
  cl : row.clr = row
  cly : y.clr = y
  sf : ∀ m, b + R.length ≤ m → row.safe m = true
  ic : row.isCell = true
  pl : row.plainT = true
  len : R'.length = R.length
  ag : boxAg [.d (.int .i64 t.f), .d (.int .i64 t.v), row] (consD (.int .i64 t.f) (consD (.int .i64 t.v) (datas [row]))) = some y
  frz : ∀ P Q : Boxs, P.length = b → AV.frz (P ++ (R ++ Q)) y = some (t.enc .sub)
  mark : ∀ P Q : Boxs, P.length = b → callX XV 308 [y, .d (.int .i64 (k : Int))] (P ++ (R ++ Q)) = some (.d (.int .i64 (K : Int)), P ++ (R' ++ Q))
  held : ∀ P Q : Boxs, P.length = b → callX XV 341 [y, .d (.int .i64 (k : Int))] (P ++ (R' ++ Q)) = some (.d (.int .i64 (K : Int)), P ++ (R' ++ Q))
theorem thT_of (t : T) (ht : t.inner ≤ 1099511627776) (b k : Nat) (hk : k ≤ 1000000000000) : ∃ row y R R', ThT t b row y R R' k (k + 2 * t.inner) :=
  ⟨tRow b t.kids, tAg b t, bRow b t.kids, bRow b (T.marks k t.kids), thaw_term t b, clr_tRow b t.kids, tAg_clr b t, fun m h => safe_tRow m b t.kids (by rw [bRow_len] at h; exact h), isCell_tRow b t.kids, plain_tRow b t.kids,
    by rw [bRow_len, bRow_len, rowN_marks], tAg_ag b t,
    fun P Q hP => by subst hP; rw [← List.append_assoc]; exact frz_tAg t P Q,
    fun P Q hP => by subst hP; rw [← List.append_assoc, ← List.append_assoc]; exact markTerm_eq t ht k hk P Q,
    fun P Q hP => by subst hP; rw [← List.append_assoc]; exact heldTerm_eq t ht k hk P Q⟩
/-- A thawed row of terms. -/
structure ThR (ks : List T) (b : Nat) (y : AV) (R R' : Boxs) (k K : Nat) : Prop where
  th : (terms .sub ks).thaw b = (y, R)
  cl : y.clr = y
  sf : ∀ m, b + R.length ≤ m → y.safe m = true
  ic : y.isCell = true
  len : R'.length = R.length
  frz : ∀ P Q : Boxs, P.length = b → AV.frz (P ++ (R ++ Q)) y = some (terms .sub ks)
  mark : ∀ P Q : Boxs, P.length = b → callX XV 244 [y, .d (.int .i64 (k : Int))] (P ++ (R ++ Q)) = some (.d (.int .i64 (K : Int)), P ++ (R' ++ Q))
  held : ∀ P Q : Boxs, P.length = b → callX XV 292 [y, .d (.int .i64 (k : Int))] (P ++ (R' ++ Q)) = some (.d (.int .i64 (K : Int)), P ++ (R' ++ Q))
theorem thaw_row (ks : List T) (b : Nat) : (terms .sub ks).thaw b = (tRow b ks, bRow b ks) := by
  have h := thwT (.node 0 0 ks) b
  rw [bx_node, T.enc_eq, thw, thws3] at h
  have h1 : (thw b (terms .sub ks)) = ([tRow b ks], bRow b ks) := by
    have e1 := congrArg Prod.fst h
    have e2 := congrArg Prod.snd h
    simp only [T.kids_node, T.f_node, T.v_node] at e1 e2
    have : (thw b (terms .sub ks)).1 = [tRow b ks] := by simpa using e1
    exact Prod.ext this e2
  simp only [DV.thaw, thawOne, h1]
  rfl
theorem frz_tRow (ks : List T) (P Q : Boxs) : AV.frz (P ++ bRow P.length ks ++ Q) (tRow P.length ks) = some (terms .sub ks) := by
  have h := frzRow_eq ks (P ++ bRow P.length ks ++ Q).length P Q (by rw [List.length_append, List.length_append, bRow_len]; omega)
  unfold tRow at h ⊢
  split
  · simp [AV.frz, frzC_d]
    rename_i he; subst he; simp
  · rename_i he
    rw [if_neg he] at h
    simpa only [AV.frz] using h
theorem thR_of (ks : List T) (hk1 : cnts ks ≤ 1099511627776) (b k : Nat) (hk : k ≤ 1000000000000) : ∃ y R R', ThR ks b y R R' k (k + 2 * cnts ks) :=
  ⟨tRow b ks, bRow b ks, bRow b (T.marks k ks), thaw_row ks b, clr_tRow b ks, fun m h => safe_tRow m b ks (by rw [bRow_len] at h; exact h), isCell_tRow b ks,
    by rw [bRow_len, bRow_len, rowN_marks],
    fun P Q hP => by subst hP; rw [← List.append_assoc]; exact frz_tRow ks P Q,
    fun P Q hP => by subst hP; rw [← List.append_assoc, ← List.append_assoc]; exact markRow_eq ks hk1 k (by omega) P Q,
    fun P Q hP => by subst hP; rw [← List.append_assoc]; exact heldRow_eq ks hk1 k (by omega) P Q⟩
theorem allUT_row (l : List T) : (terms U l).allUT = true := by
  have := allU_terms l
  exact this
theorem szTermS_eq (l : List T) (left : Int) (hl : l.length ≤ maxLen) (ho : T.oks l) (h0 : 0 ≤ left) (h1 : left ≤ 1099511627776) : callX XV 9 [.d (terms .sub l), .d (.int .i64 left)] [] = some (.d (.int .i64 (leftOf left (cnts l))), []) :=
  szTermS_of l left hl h0 (by omega) fun t ht left h0 h1 => szTerm_eq t left ((T.oks_iff l).1 ho t ht) h0 h1
theorem toTermS_eq (l : List T) (hl : cnts l ≤ 1099511627776) : callX XV 8 [.d (terms .sub l)] [] = some (.d (terms U l), []) :=
  toTermS_of l (by have := len_cnts' l; omega) fun t ht => toTerm_eq t (by have := T.inners_mem ht; unfold cnts at hl; omega)
theorem eqTermS_self (l : List T) (hl : cnts l ≤ 1099511627776) : callX XV 7 [.d (terms .sub l), .d (terms .sub l)] [] = some (.d (.bool true), []) :=
  eqTermS_of l (by have := len_cnts' l; omega) fun t ht => eqTerm_self t (by have := T.inners_mem ht; unfold cnts at hl; omega)
end Go.Proofs.Ytnjgnjejkmcgmaa.VS
namespace Go.Proofs.Ytnjgnjejkmcgmaa.VS
set_option linter.unusedVariables false
set_option linter.unusedSimpArgs false
/-- A value of a term, some of whose rows may be shared. -/
def IsV (d : DV) (a : T) : Prop := ∃ (g : Tag) (X : List DV), d = .agg [.int .i64 a.f, .int .i64 a.v, .sl g X] ∧ X.map DV.clr = a.kids.map (T.enc .sub)
theorem isV_nM (s : List SymL) (t : T) : IsV (nM s t) (t.norm s) := ⟨U, rowM s t, by rw [nM_eq, norm_f, norm_v], clr_rowM s t⟩
theorem isV_enc (g : Tag) (t : T) : IsV (t.enc g) t := ⟨g, t.kids.map (T.enc g), by rw [T.enc_eq], clr_terms g _⟩
theorem l3List_eq (ks : List T) (hl : cnts ks ≤ 1099511627776) : callX XV 197 [.d (terms .sub ks)] [] = some (.d (terms U ks), []) := by
  have hlen := len_cnts ks
  have hc : ∀ t, t ∈ ks → callX XV 146 [.d (t.enc .sub)] [] = some (.d (t.enc U), []) := fun t ht => l3Copy_eq t (by have := mem_inner ht; omega)
  rw [z_call XV _ _ _ v197 rfl xcode_197 rfl]
  have hloop := loopX_upto (X := XV) (T := XV.lin 197) (L := 0) (live := [0, 3, 4]) (b := b197_0) (n := ks.length) (γ := Unit) (st := fun (_ : Unit) i => ⟨[(0, .d (terms .sub ks)), (3, .d (.sl U ((ks.take i).map (T.enc U)))), (4, .d (.int .i64 i))], []⟩) (step := fun _ _ => .inl ())
    (F := fun _ => (.exit 0, ⟨[(0, .d (terms .sub ks)), (3, .d (.sl U ((ks.take ks.length).map (T.enc U)))), (4, .d (.int .i64 ks.length)), (9, .d (.bool false))], []⟩)) (R := fun _ => (.ret, ⟨[], []⟩))
    (fun _ => ⟨by simp, by simp [b197_0, r197_0, r197_1, r197_2, r197_3, r197_5, r197_4, r197_6]⟩)
    (fun _ i hi => by
      have hw := wrap_succ (n := i) (by omega)
      have hc' := hc _ (tAt_mem hi)
      have ha := app_term ks i hi (by omega)
      generalize hl2 : (ks.take (i + 1)).map (T.enc U) = l2 at ha
      generalize (ks.take i).map (T.enc U) = l1 at ha ⊢
      exact ⟨⟨[(0, .d (terms .sub ks)), (3, .d (.sl U l2)), (4, .d (.int .i64 (i + 1 : Nat)))], []⟩, by simp [b197_0, r197_0, r197_1, r197_2, r197_3, r197_5, r197_4, r197_6, hi, hw, cut, tAt_lt hi, hc', ha, splice, isCell_int, isCell_sl, isCellA_d, safe_d, loadBox], by simp [xheadOf, safeRegs, ← hl2]⟩)
    ks.length () 0 ⟨[(0, .d (terms .sub ks)), (3, .d (.sl U [])), (4, .d (.int .i64 0))], []⟩ (by omega) (by simp [xheadOf, safeRegs])
  rw [run_on, List.take_length] at hloop
  simp only [lin_197] at hloop
  simp [v197, r197_0, r197_1, r197_2]
  rw [hloop]
  simp [r197_6]
theorem l3Of_eq (f : Int) (ks : List T) : callX XV 164 [.d (.int .i64 f), .d (terms .sub ks)] [] = some (.d ((T.node f 0 ks).enc .sub), []) := by
  rw [z_call XV _ _ _ v164 rfl xcode_164 rfl]
  simp [v164, r164_0, r164_1, splice, isCell_int, isCell_sl, isCellA_d, safe_d, loadBox]
/-- A function of terms, in one form. -/
def makeT (s : List SymL) (f : Int) (ks : List T) : T :=
  if blindB s f = true ∧ ks.length = 0 then .node 0 0 []
  else if blindB s f = true ∧ ks.length = 1 then (tAt ks 0).norm s
  else if symIn s f = true then (T.node f 0 ks).norm s else .node f 0 ks
theorem makeT_inner (s : List SymL) (f : Int) (ks : List T) : (makeT s f ks).inner ≤ cnts ks := by
  unfold makeT
  split
  · simp [T.inner, T.inners]
  · split
    · rename_i h
      have h1 := inner_norm s (tAt ks 0)
      have h2 := mem_inner (tAt_mem (l := ks) (i := 0) (by omega))
      omega
    · split
      · have := inner_norm s (T.node f 0 ks); rw [T.inner_node] at this; exact this
      · rw [T.inner_node]; omega
theorem zeroT_enc (g : Tag) : (T.node 0 0 []).enc g = .agg [.int .i64 0, .int .i64 0, .sl g []] := by rw [T.enc_eq]; rfl
theorem implMake_eq (s : List SymL) (hs : s.length ≤ 1099511627776) (f : Int) (ks : List T) (hl : cnts ks ≤ 1099511627776) : callX XV 192 [.d (sg s), .d (.int .i64 f), .d (terms .sub ks)] [] = some (.d ((makeT s f ks).enc U), []) := by
  have hlen := len_cnts ks
  have hsy := isSym_eq s hs f
  have hcp := copyTerms_eq ks hl
  have hn := implNorm_eq s hs (T.node f 0 ks) (by rw [T.inner_node]; exact hl)
  rw [z_call XV _ _ _ v192 rfl xcode_192 rfl]
  unfold makeT
  by_cases c1 : symIn s f = true
  · obtain ⟨g1, g2⟩ := symIn_lt c1
    have hsa := symAt_lt g2
    have hbl : blindB s f = (symAt s f.toNat).ac := by unfold blindB; rw [c1]; rfl
    rw [hbl]
    cases c2 : (symAt s f.toNat).ac with
    | false =>
      simp only [Bool.false_eq_true, false_and, if_false, c1, if_true]
      generalize (T.node f 0 ks).norm s = a at *
      simp [v192, r192_0, r192_1, r192_2, r192_3, r192_4, r192_5, r192_6, r192_7, hsy, c1, c2, g1, g2, hsa, cut, hn, splice, isCell_int, isCell_sl, isCellA_d, safe_d, loadBox]
    | true =>
      simp only [true_and]
      by_cases c3 : ks.length = 0
      · rw [if_pos c3]
        have c3' : (ks.length : Int) = 0 := by omega
        generalize hm : (ks.length : Int) = m at *
        rw [zeroT_enc]
        simp [v192, r192_0, r192_1, r192_2, r192_3, r192_4, r192_5, r192_6, r192_7, hsy, c1, c2, g1, g2, hsa, hm, c3', cut, splice, isCell_int, isCell_sl, isCellA_d, safe_d, loadBox]
      · rw [if_neg c3]
        by_cases c4 : ks.length = 1
        · rw [if_pos c4]
          have h0 : 0 < ks.length := by omega
          have hn2 := implNorm_eq s hs (tAt ks 0) (by have := mem_inner (tAt_mem h0); omega)
          have h5 : ks[0]? = some (tAt ks 0) := tAt_get h0
          have h6 : ks[0] = tAt ks 0 := tAt_lt h0
          have c4' : (ks.length : Int) = 1 := by omega
          generalize (tAt ks 0).norm s = a at *
          generalize hm : (ks.length : Int) = m at *
          simp [v192, r192_0, r192_1, r192_2, r192_3, r192_4, r192_5, r192_6, r192_7, hsy, c1, c2, g1, g2, hsa, hm, c4', h0, cut, hn2, h5, h6, splice, isCell_int, isCell_sl, isCellA_d, safe_d, loadBox]
        · rw [if_neg c4, if_pos c1]
          have e3 : ((ks.length : Int) == 0) = false := beq_false_of_ne (by omega)
          have e4 : ((ks.length : Int) == 1) = false := beq_false_of_ne (by omega)
          generalize (T.node f 0 ks).norm s = a at *
          generalize hm : (ks.length : Int) = m at *
          simp [v192, r192_0, r192_1, r192_2, r192_3, r192_4, r192_5, r192_6, r192_7, hsy, c1, c2, g1, g2, hsa, hm, e3, e4, cut, hn, splice, isCell_int, isCell_sl, isCellA_d, safe_d, loadBox]
  · have hbl : blindB s f = false := by unfold blindB; simp [c1]
    have c1' : symIn s f = false := by simpa using c1
    simp only [hbl, Bool.false_eq_true, false_and, if_false, c1']
    simp only [terms] at *
    rw [T.enc_eq]
    simp [v192, r192_0, r192_1, r192_2, r192_3, r192_4, r192_5, r192_6, r192_7, hsy, c1', hcp, splice, isCell_int, isCell_sl, isCellA_d, safe_d, loadBox]
theorem IsV.clr {d : DV} {a : T} (h : IsV d a) : d.clr = a.enc .sub := by
  obtain ⟨g, X, rfl, hX⟩ := h
  simp only [DV.clr, DV.clrs]
  rw [DV.clrs_map, hX, T.enc_eq]
theorem specMake_eq (s : List SymL) (hs : s.length ≤ 1099511627776) (f : Int) (ks : List T) (hl : cnts ks ≤ 1099511627776) : ∃ d, callX XV 193 [.d (sg s), .d (.int .i64 f), .d (terms .sub ks)] [] = some (.d d, []) ∧ IsV d (makeT s f ks) := by
  have hlen := len_cnts ks
  have hb := specBlind_eq s hs f
  have hin := l1In_eq f 0 (s.length - 1)
  have hcp := l3List_eq ks hl
  have ho := l3Of_eq f ks
  have hn := specNorm_eq s hs (T.node f 0 ks) (by rw [T.inner_node]; exact hl)
  have hw : IntKind.i64.wrap ((s.length : Int) - 1) = s.length - 1 := wrap_i64 (by omega) (by omega)
  rw [z_call XV _ _ _ v193 rfl xcode_193 rfl]
  unfold makeT
  cases c2 : blindB s f with
  | false =>
    simp only [Bool.false_eq_true, false_and, if_false]
    cases c1 : symIn s f with
    | true =>
      simp only [if_true]
      refine ⟨_, ?_, isV_nM s _⟩
      rw [nM_eq] at hn ⊢
      generalize rowM s (T.node f 0 ks) = X at *
      rw [show inB f 0 (s.length - 1) = true from c1] at hin
      simp [v193, r193_0, r193_1, r193_2, r193_3, r193_4, r193_5, r193_6, r193_7, hb, c2, hw, hin, ho, hn, c1, splice, isCell_int, isCell_sl, isCellA_d, safe_d, loadBox]
    | false =>
      simp only [Bool.false_eq_true, if_false]
      refine ⟨_, ?_, isV_enc .sub _⟩
      rw [show inB f 0 (s.length - 1) = false from c1] at hin
      simp [v193, r193_0, r193_1, r193_2, r193_3, r193_4, r193_5, r193_6, r193_7, hb, c2, hw, hin, ho, hcp, c1, splice, isCell_int, isCell_sl, isCellA_d, safe_d, loadBox]
  | true =>
    have c1 : symIn s f = true := by unfold blindB at c2; simp only [Bool.and_eq_true] at c2; exact c2.1
    simp only [true_and]
    by_cases c3 : ks.length = 0
    · rw [if_pos c3]
      have c3' : (ks.length : Int) = 0 := by omega
      generalize hm : (ks.length : Int) = m at *
      refine ⟨_, ?_, isV_enc U _⟩
      rw [zeroT_enc]
      simp [v193, r193_0, r193_1, r193_2, r193_3, r193_4, r193_5, r193_6, r193_7, hb, c2, hm, c3', splice, isCell_int, isCell_sl, isCellA_d, safe_d, loadBox]
    · rw [if_neg c3]
      by_cases c4 : ks.length = 1
      · rw [if_pos c4]
        have h0 : 0 < ks.length := by omega
        have hn2 := specNorm_eq s hs (tAt ks 0) (by have := mem_inner (tAt_mem h0); omega)
        have h5 : ks[0]? = some (tAt ks 0) := tAt_get h0
        have h6 : ks[0] = tAt ks 0 := tAt_lt h0
        have c4' : (ks.length : Int) = 1 := by omega
        refine ⟨_, ?_, isV_nM s _⟩
        rw [nM_eq] at hn2 ⊢
        generalize rowM s (tAt ks 0) = X at *
        generalize hm : (ks.length : Int) = m at *
        simp [v193, r193_0, r193_1, r193_2, r193_3, r193_4, r193_5, r193_6, r193_7, hb, c2, hm, c4', h0, cut, hn2, h5, h6, splice, isCell_int, isCell_sl, isCellA_d, safe_d, loadBox]
      · rw [if_neg c4, if_pos c1]
        have e3 : ((ks.length : Int) == 0) = false := beq_false_of_ne (by omega)
        have e4 : ((ks.length : Int) == 1) = false := beq_false_of_ne (by omega)
        refine ⟨_, ?_, isV_nM s _⟩
        rw [nM_eq] at hn ⊢
        generalize rowM s (T.node f 0 ks) = X at *
        rw [show inB f 0 (s.length - 1) = true from c1] at hin
        generalize hm : (ks.length : Int) = m at *
        simp [v193, r193_0, r193_1, r193_2, r193_3, r193_4, r193_5, r193_6, r193_7, hb, c2, hw, hin, ho, hn, hm, e3, e4, splice, isCell_int, isCell_sl, isCellA_d, safe_d, loadBox]
end Go.Proofs.Ytnjgnjejkmcgmaa.VS
namespace Go.Proofs.Ytnjgnjejkmcgmaa.VS
set_option linter.unusedVariables false
set_option linter.unusedSimpArgs false
theorem FnExactMake_x (l : List SymL) (hl : l.length ≤ maxLen) (hol : ∀ s, s ∈ l → s.ok) (f : Int) (hf : -9223372036854775808 ≤ f ∧ f ≤ 9223372036854775807) (ks : List T) (hks : ks.length ≤ maxLen) (hoks : ∀ s, s ∈ ks → s.ok) : ∃ B, callX XV 360 [.d (sg l), .d (.int .i64 f), .d (terms .sub ks)] [] = some (.d (.bool true), B) := by
  rw [z_call XV _ _ _ v360 rfl xcode_360 rfl]
  have z1 := szSymS_eq l (1048576) hl hol (by omega) (by omega)
  by_cases h1_ : (1048576 : Int) - symsSize l < 0
  · rw [leftOf_neg h1_] at z1
    simp [v360, r360_0, r360_1, r360_2, r360_3, r360_4, r360_5, r360_6, r360_7, r360_8, r360_9, r360_10, r360_11, r360_12, r360_13, r360_14, r360_15, r360_16, r360_17, r360_18, r360_19, r360_20, r360_21, r360_22, r360_23, r360_24, r360_25, r360_26, r360_27, r360_28, r360_29, r360_30, r360_31, r360_32, r360_33, r360_34, r360_35, r360_36, r360_37, r360_38, r360_39, r360_40, z1]
  rw [leftOf_pos h1_] at z1
  have z2 := szTermS_eq ks (1048576 - symsSize l) hks ((T.oks_iff ks).2 hoks) (by omega) (by omega)
  by_cases h2_ : (1048576 : Int) - symsSize l - cnts ks < 0
  · rw [leftOf_neg h2_] at z2
    simp [v360, r360_0, r360_1, r360_2, r360_3, r360_4, r360_5, r360_6, r360_7, r360_8, r360_9, r360_10, r360_11, r360_12, r360_13, r360_14, r360_15, r360_16, r360_17, r360_18, r360_19, r360_20, r360_21, r360_22, r360_23, r360_24, r360_25, r360_26, r360_27, r360_28, r360_29, r360_30, r360_31, r360_32, r360_33, r360_34, r360_35, r360_36, r360_37, r360_38, r360_39, r360_40, z1, z2, h1_]
  rw [leftOf_pos h2_] at z2
  have hl0 : l.length ≤ 1048576 := by unfold symsSize at *; omega
  have hls : l.length ≤ 1099511627776 := by omega
  have hcks : cnts ks ≤ 1099511627776 := by omega
  have s2 := implMake_eq l hls f ks hcks
  have hin := makeT_inner l f ks
  obtain ⟨d, s1, gw, W, rfl, hW⟩ := specMake_eq l hls f ks hcks
  generalize makeT l f ks = a at *
  have ub := allU_bool true
  have e_l := eqSymS_self l hls
  have t_l := toSymS_eq l hls
  have u_l := allUT_syms l
  have e_ks := eqTermS_self ks hcks
  have t_ks := toTermS_eq ks hcks
  have u_ks := allUT_row ks
  have hai : a.inner ≤ 1099511627776 := by omega
  have e_a := eqTerm_self a hai
  have u_a := allUT_enc a
  obtain ⟨y1, R1, R1', H1⟩ := thS_of l hls (1) (1) (by omega) (by omega)
  obtain ⟨y2, R2, R2', H2⟩ := thR_of ks hcks (R1.length + 1) (1 + 3 * l.length) (by omega)
  obtain ⟨w3, y3, R3, R3', H3⟩ := thT_of a hai (R1.length + R2.length + 1) (1) (by omega)
  have k1 : ¬ (((1 + 3 * l.length : Nat) : Int) < 0) := by omega
  have k2 : ¬ (((1 + 3 * l.length + 2 * cnts ks : Nat) : Int) < 0) := by omega
  have k3 : ¬ (((1 + 2 * a.inner : Nat) : Int) < 0) := by omega
  generalize 1 + 3 * l.length + 2 * cnts ks = K2 at *
  generalize 1 + 3 * l.length = K1 at *
  generalize 1 + 2 * a.inner = K3 at *
  generalize hgCW : (some [.d (.int .i64 a.f), .d (.int .i64 a.v), .d (.sl gw W)] : Option (List AV)) = CW
  generalize hgCX3 : (some [.d (.int .i64 a.f), .d (.int .i64 a.v), w3] : Option (List AV)) = CX3
  have n1 := H1.len
  have n2 := H2.len
  have n3 := H3.len
  have f1 := fun Q : Boxs => H1.frz (CW :: []) Q (by simp)
  have fe1 := H1.frz (CW :: []) [] (by simp)
  have m1 := fun Q : Boxs => H1.mark (CW :: []) Q (by simp [n1, n2, n3])
  have f2 := fun Q : Boxs => H2.frz (CW :: R1) Q (by simp)
  have fe2 := H2.frz (CW :: R1) [] (by simp)
  have m2 := fun Q : Boxs => H2.mark (CW :: R1') Q (by simp [n1, n2, n3])
  have f3 := fun Q : Boxs => H3.frz (CW :: (R1 ++ R2)) Q (by simp)
  have fp3 := fun Q : Boxs => H3.frz (CW :: (R1' ++ R2')) Q (by simp [n1, n2, n3])
  have m3 := fun Q : Boxs => H3.mark (CW :: (R1' ++ R2')) Q (by simp [n1, n2, n3])
  have l3 := fun Q : Boxs => H3.held (CW :: (R1' ++ R2')) Q (by simp [n1, n2, n3])
  subst hgCW
  subst hgCX3
  simp only [List.cons_append, List.nil_append, List.append_assoc, List.append_nil, Int.natCast_one] at f1 fe1 m1 f2 fe2 m2 f3 fp3 m3 l3
  have x1 := H1.th; have c1 := H1.cl; have i1 := H1.ic
  have x2 := H2.th; have c2 := H2.cl; have i2 := H2.ic
  have x3 := H3.th; have c3 := H3.cl; have i3 := H3.ic
  have d3 := H3.cly; have g3 := H3.ag
  have v3_ := H3.sf (R1.length + (R2.length + R3.length) + 1) (by omega)
  simp only [sg, terms, binds] at *
  simp [v360, r360_0, r360_1, r360_2, r360_3, r360_4, r360_5, r360_6, r360_7, r360_8, r360_9, r360_10, r360_11, r360_12, r360_13, r360_14, r360_15, r360_16, r360_17, r360_18, r360_19, r360_20, r360_21, r360_22, r360_23, r360_24, r360_25, r360_26, r360_27, r360_28, r360_29, r360_30, r360_31, r360_32, r360_33, r360_34, r360_35, r360_36, r360_37, r360_38, r360_39, r360_40, z1, z2, h1_, h2_, s1, s2, hW, ub, e_l, t_l, u_l, e_ks, t_ks, u_ks, e_a, u_a, k1, k2, k3, n1, n2, n3, f1, fe1, m1, f2, fe2, m2, f3, fp3, m3, l3, x1, c1, i1, x2, c2, i2, x3, c3, i3, d3, g3, v3_, T.eta, bx_get, bx_get0, bx_set, bx_set0, splice, isCellA_d, isCell_int, isCell_sl, safes_cons, safes_nil, safe_ag, safe_d, cellsA_ag, clrs3, nle1]
end Go.Proofs.Ytnjgnjejkmcgmaa.VS
namespace Go.Proofs.Ytnjgnjejkmcgmaa.VS
set_option linter.unusedVariables false
set_option linter.unusedSimpArgs false
/-! ## From a law's arguments to values without names -/
mutual
def TT.erase : TT → T
  | .node f v g ks => .node f v (TT.erases ks)
def TT.erases : List TT → List T
  | [] => []
  | t :: r => t.erase :: TT.erases r
end
theorem TT.erases_map : ∀ l : List TT, TT.erases l = l.map TT.erase
  | [] => by unfold TT.erases; rfl
  | t :: r => by unfold TT.erases; simp [TT.erases_map r]
mutual
theorem TT.clr_cells : ∀ t : TT, DV.clrs t.cells = [.int .i64 t.erase.f, .int .i64 t.erase.v, terms .sub t.erase.kids]
  | .node f v g ks => by
    simp only [TT.cells, DV.clrs, DV.clr, TT.erase, T.f_node, T.v_node, T.kids_node, terms]
    rw [TT.clr_encs ks]
theorem TT.clr_encs : ∀ l : List TT, DV.clrs (TT.encs l) = (TT.erases l).map (T.enc .sub)
  | [] => by simp [TT.encs, DV.clrs, TT.erases]
  | t :: r => by
    simp only [TT.encs, DV.clrs, DV.clr, TT.erases, List.map_cons]
    rw [TT.clr_cells t, TT.clr_encs r, T.enc_eq]
end
theorem TT.clr_enc (t : TT) : t.enc.clr = t.erase.enc .sub := by
  simp only [TT.enc, DV.clr]
  rw [TT.clr_cells, T.enc_eq]
mutual
theorem TT.ok_erase : ∀ t : TT, t.ok → t.erase.ok
  | .node f v g ks, h => by
    simp only [TT.ok] at h
    simp only [TT.erase, T.ok, TT.erases_map, List.length_map]
    refine ⟨h.2.2.1, ?_⟩
    rw [← TT.erases_map]
    exact TT.oks_erase ks h.2.2.2
theorem TT.oks_erase : ∀ l : List TT, TT.oks l → T.oks (TT.erases l)
  | [], _ => by simp [TT.erases, T.oks]
  | t :: r, h => by
    simp only [TT.oks] at h
    simp only [TT.erases, T.oks]
    exact ⟨TT.ok_erase t h.1, TT.oks_erase r h.2⟩
end
theorem clr_symL (s : SymL) : s.enc.clr = s.enc := by unfold SymL.enc SymL.cells; simp only [DV.clr, DV.clrs]
theorem clr_syms (g : Tag) (l : List SymL) : (syms g l).clr = .sl .sub (l.map SymL.enc) := by
  simp only [syms, clr_sl, List.map_map, Function.comp_def, clr_symL]
theorem plain_of_X (hX : XOK XV) {k : Nat} {vs : List DV} (h : ∃ B, callX XV k ((DV.clrs vs).map .d) [] = some (.d (.bool true), B)) : ∃ A B, callV E [] k (vs.map .d) [] Ids.none = some ⟨.d (.bool true), A, B⟩ := by
  obtain ⟨B, h⟩ := h
  obtain ⟨u, A, Bv, h1, h2⟩ := law_of_X hX (DV.clrs_clrs vs) (DV.clrs_fits vs) (d := .bool true) (by simp [DV.clr]) h
  simp only [DV.fit] at h2; subst h2
  exact ⟨A, Bv, h1⟩
theorem args1 {P : Program} {a : TypeId} : ∀ {xs : List (List DV)}, Args P [a] xs → ∃ x, xs = [x]
  | [x], _ => ⟨x, rfl⟩
  | [], h => h.elim
  | _ :: _ :: _, h => h.2.elim
theorem args2 {P : Program} {a b : TypeId} : ∀ {xs : List (List DV)}, Args P [a, b] xs → ∃ x y, xs = [x, y]
  | x :: r, h => by obtain ⟨y, rfl⟩ := args1 h.2; exact ⟨x, y, rfl⟩
theorem args3 {P : Program} {a b c : TypeId} : ∀ {xs : List (List DV)}, Args P [a, b, c] xs → ∃ x y z, xs = [x, y, z]
  | x :: r, h => by obtain ⟨y, z, rfl⟩ := args2 h.2; exact ⟨x, y, z, rfl⟩
end Go.Proofs.Ytnjgnjejkmcgmaa.VS
namespace Go.Proofs.Ytnjgnjejkmcgmaa.VS
set_option linter.unusedVariables false
set_option linter.unusedSimpArgs false
/-- A literal. -/
structure L where
  p : Bool
  a : T
  b : T
def L.enc (g : Tag) (x : L) : DV := .agg [.bool x.p, .int .i64 x.a.f, .int .i64 x.a.v, terms g x.a.kids, .int .i64 x.b.f, .int .i64 x.b.v, terms g x.b.kids]
def L.ok (x : L) : Prop := x.a.ok ∧ x.b.ok
@[simp] theorem L.cells_enc (g : Tag) (x : L) : (x.enc g).cells = [.bool x.p, .int .i64 x.a.f, .int .i64 x.a.v, terms g x.a.kids, .int .i64 x.b.f, .int .i64 x.b.v, terms g x.b.kids] := rfl
@[simp] theorem L.cellsA_enc (g : Tag) (x : L) : (AV.d (x.enc g)).cells = [.d (.bool x.p), .d (.int .i64 x.a.f), .d (.int .i64 x.a.v), .d (terms g x.a.kids), .d (.int .i64 x.b.f), .d (.int .i64 x.b.v), .d (terms g x.b.kids)] := rfl
@[simp] theorem L.isCell_enc (g : Tag) (x : L) : (x.enc g).isCell = false := rfl
@[simp] theorem L.clr_enc (g : Tag) (x : L) : (x.enc g).clr = x.enc .sub := by
  simp only [L.enc, DV.clr, DV.clrs, terms, DV.clrs_map, clr_terms]
theorem L.agg_enc (g : Tag) (x : L) : DV.agg [.bool x.p, .int .i64 x.a.f, .int .i64 x.a.v, terms g x.a.kids, .int .i64 x.b.f, .int .i64 x.b.v, terms g x.b.kids] = x.enc g := rfl
def L.cmp (x y : L) : Int := if !x.p && y.p then -1 else if x.p && !y.p then 1 else if T.cmp x.a y.a ≠ 0 then T.cmp x.a y.a else T.cmp x.b y.b
def L.same (x y : L) : Bool := x.p == y.p && (T.cmp x.a y.a == 0) && (T.cmp x.b y.b == 0)
theorem L.cmp_zero (x y : L) : (L.cmp x y == 0) = L.same x y := by
  obtain ⟨p, a, b⟩ := x
  obtain ⟨q, a', b'⟩ := y
  unfold L.cmp L.same
  cases p <;> cases q <;> by_cases c : T.cmp a a' = 0 <;> simp [c]
end Go.Proofs.Ytnjgnjejkmcgmaa.VS
namespace Go.Proofs.Ytnjgnjejkmcgmaa.VS
set_option linter.unusedVariables false
set_option linter.unusedSimpArgs false
variable {P : Program}
/-! ## Literals, and rows of what a type's values are -/
structure LL where
  p : Bool
  a : TT
  b : TT
def LL.cells (x : LL) : List DV := .bool x.p :: (x.a.cells ++ x.b.cells)
def LL.enc (x : LL) : DV := .agg x.cells
def LL.ok (x : LL) : Prop := x.a.ok ∧ x.b.ok
def LL.erase (x : LL) : L := ⟨x.p, x.a.erase, x.b.erase⟩
theorem LL.ok_erase (x : LL) (h : x.ok) : x.erase.ok := ⟨TT.ok_erase _ h.1, TT.ok_erase _ h.2⟩
theorem LL.clr_enc (x : LL) : x.enc.clr = x.erase.enc .sub := by
  have ha := TT.clr_cells x.a
  have hb := TT.clr_cells x.b
  rw [DV.clrs_map] at ha hb
  simp only [LL.enc, LL.cells, DV.clr, DV.clrs_map, List.map_cons, List.map_append, ha, hb, LL.erase, L.enc]
  rfl
/-- A row of values of one type, each of which is some thing's cells. -/
theorem shape_listOf {α : Type} (c : α → List DV) (ok : α → Prop) {t e : TypeId} {x : List DV} (hu : P.underlying t = some (.slice e)) (hE : ∀ y : List DV, Shape P e y → ∃ s : α, y = c s ∧ ok s) (h : Shape P t x) :
    ∃ (g : Tag) (l : List α), x = [.sl g (l.map fun s => elemDV P e (c s))] ∧ l.length ≤ maxLen ∧ ∀ s, s ∈ l → ok s := by
  obtain ⟨g, xs, rfl, q1, q2, q3, q4⟩ := shape_slice hu h
  have key : ∀ xs : List DV, (∀ y : DV, y ∈ xs → y = elemDV P e y.cells) → (∀ y : DV, y ∈ xs → Shape P e y.cells) → ∃ l : List α, xs = (l.map fun s => elemDV P e (c s)) ∧ ∀ s, s ∈ l → ok s := by
    intro xs
    induction xs with
    | nil => intro _ _; exact ⟨[], rfl, by simp⟩
    | cons y r ih =>
      intro p1 p2
      obtain ⟨l, rfl, hl⟩ := ih (fun z hz => p1 z (by simp [hz])) (fun z hz => p2 z (by simp [hz]))
      obtain ⟨s, hs, hok⟩ := hE _ (p2 y (by simp))
      refine ⟨s :: l, ?_, by simpa [hok] using hl⟩
      have := p1 y (by simp)
      rw [hs] at this
      rw [List.map_cons, ← this]
  obtain ⟨l, rfl, hl⟩ := key xs q3 q4
  exact ⟨g, l, rfl, by simpa using q1, hl⟩
/-! Rows of terms -/
def termsV (g : Tag) (l : List TT) : DV := .sl g (l.map TT.enc)
theorem shape_terms {t e : TypeId} {fs : Array Field} {x : List DV} (hu : P.underlying t = some (.slice e)) (he : P.underlying e = some (.struct fs)) (ht : ∀ x : List DV, Shape P e x → ∃ s : TT, x = s.cells ∧ s.ok) (h : Shape P t x) :
    ∃ g l, x = [termsV g l] ∧ l.length ≤ maxLen ∧ ∀ s, s ∈ l → s.ok := by
  obtain ⟨g, l, rfl, h1, h2⟩ := shape_listOf TT.cells TT.ok hu ht h
  exact ⟨g, l, by simp [termsV, elemDV, he, TT.enc, Function.comp_def], h1, h2⟩
theorem TT.oks_erase_all {l : List TT} (h : ∀ s, s ∈ l → TT.ok s) : ∀ s, s ∈ l.map TT.erase → T.ok s := by
  intro s hs
  obtain ⟨t, ht, rfl⟩ := List.mem_map.1 hs
  exact TT.ok_erase _ (h t ht)
theorem clr_termsV (g : Tag) (l : List TT) : (termsV g l).clr = terms .sub (l.map TT.erase) := by
  simp only [termsV, clr_sl, List.map_map, Function.comp_def, TT.clr_enc, terms]
/-! Substitutions -/
structure BB where
  v : Int
  t : TT
def BB.cells (x : BB) : List DV := .int .i64 x.v :: x.t.cells
def BB.enc (x : BB) : DV := .agg x.cells
def BB.ok (x : BB) : Prop := (-9223372036854775808 ≤ x.v ∧ x.v ≤ 9223372036854775807) ∧ x.t.ok
def BB.erase (x : BB) : Bd := ⟨x.v, x.t.erase⟩
theorem BB.clr_enc (x : BB) : x.enc.clr = x.erase.enc .sub := by
  have ha := TT.clr_cells x.t
  rw [DV.clrs_map] at ha
  simp only [BB.enc, BB.cells, DV.clr, DV.clrs_map, List.map_cons, ha, BB.erase, Bd.enc]
theorem BB.oks_erase {l : List BB} (h : ∀ s, s ∈ l → BB.ok s) : ∀ s, s ∈ l.map BB.erase → Bd.ok s := by
  intro s hs
  obtain ⟨t, ht, rfl⟩ := List.mem_map.1 hs
  exact ⟨(h t ht).1, TT.ok_erase _ (h t ht).2⟩
/-! Bytes -/
end Go.Proofs.Ytnjgnjejkmcgmaa.VS
