/- Contracts of the program's functions on the evaluator without names, and plain lemmas: part 2. -/
import Derived.Test.YtidlpcgcolcfgaaXP1
set_option linter.unusedSimpArgs false
set_option linter.unusedVariables false
namespace Go.Proofs.Ytidlpcgcolcfgaa.VS
theorem app_Us (a c : List T) (g : Tag) (h : (a.length + c.length) * 40 ≤ 140737488355328) : xappend 3 40 (.sl U (a.map (T.enc U))) (.sl g (c.map (T.enc U))) = some (.sl U ((a ++ c).map (T.enc U))) := by
 have h1 : (c.map (T.enc U)).all (fun e => decide (e.cells.length = 3 ∧ e.cells.all DV.isCell = true)) = true := by
  simp [isCell_int, isCell_sl]
 have h2 : (a.map (T.enc U)).all (fun e => decide (e.cells.length = 3)) = true := by simp
 unfold xappend
 simp only
 rw [if_pos h1]
 cases c with
 | nil => simp
 | cons x r =>
  simp only [List.map_cons, List.isEmpty_cons, Bool.false_eq_true, if_false]
  rw [if_pos ⟨by simpa using h, trivial, h2⟩]
  simp
theorem rest_zero (xs : List DV) (m : Nat) : rowRest xs 0 m = (xs.take m).map DV.clr ++ xs.drop m := by
 unfold rowRest; simp [DV.clrs_map]
def putAt (t : T) (l : List T) : Nat := match findAt (fun i => decide (T.cmp t (tAt l i) < 0)) l.length 0 with
 | some j => j
 | none => l.length
theorem findAt_both (q : Nat → Bool) : ∀ (k i : Nat), (∀ j, findAt q k i = some j → ∀ m, i ≤ m → m < j → q m = false) ∧ (findAt q k i = none → ∀ m, i ≤ m → m < i + k → q m = false)
 | 0, i => ⟨fun j h => by simp [findAt] at h, fun _ m h1 h2 => by omega⟩
 | k + 1, i => by
  have ih := findAt_both q k (i + 1)
  simp only [findAt]
  by_cases h : q i = true
  ·simp only [h, if_true]
   exact ⟨fun j hj m h1 h2 => by simp at hj; omega, fun h => by simp at h⟩
  ·simp only [h, Bool.false_eq_true, if_false]
   refine ⟨fun j hj m h1 h2 => ?_, fun hn m h1 h2 => ?_⟩
   ·by_cases e : m = i
    ·subst e; simpa using h
    ·exact ih.1 j hj m (by omega) h2
   ·by_cases e : m = i
    ·subst e; simpa using h
    ·exact ih.2 hn m (by omega) (by omega)
theorem putAt_le (t : T) (l : List T) : putAt t l ≤ l.length := by
 unfold putAt
 split
 ·rename_i j h; have := (findAt_lt _ _ _ _ h).2.1; omega
 ·omega
theorem putAt_ins (t : T) (l : List T) : ins t l = l.take (putAt t l) ++ t :: l.drop (putAt t l) := by
 have h := findAt_both (fun i => decide (T.cmp t (tAt l i) < 0)) l.length 0
 refine ins_at t l _ (putAt_le t l) (fun i hi => ?_) (fun hlt => ?_)
 ·unfold putAt at hi
  split at hi
  ·rename_i j hj
   simpa using h.1 j hj i (by omega) hi
  ·rename_i hn
   simpa using h.2 hn i (by omega) (by omega)
 ·unfold putAt at hlt ⊢
  split
  ·rename_i j hj
   simpa using (findAt_lt _ _ _ _ hj).2.2
  ·rename_i hn; rw [hn] at hlt; simp at hlt
theorem l4Put_eq (l : List T) (t : T) (hl : cnts l ≤ 1099511627776) (ht : t.inner ≤ 1099511627776) (x0 x1 x2 x3 : Option (List AV)) : callX XV 154 [.d (terms U l), .d (t.enc U)] [x0, x1, x2, x3] = some (.d (.sl U ((ins t l).map (T.enc U))), [x0, x1, x2, x3]) := by
 have hlen := len_cnts l
 have hlt := putAt_le t l
 have hb : ∀ i, i < l.length → callX XV 84 [.d (t.enc .sub), .d ((tAt l i).enc .sub)] [] = some (.d (.bool (decide (T.cmp t (tAt l i) < 0))), []) := fun i hi => specBefore_eq t (tAt l i) ht (by have := mem_inner (tAt_mem hi); omega)
 rw [z_call XV _ _ _ v154 rfl xcode_154 rfl]
 have h := loopX_upto (X := XV) (T := XV.lin 154) (L := 5) (live := [0, 3, 5]) (b := b154_0) (n := l.length) (st := fun (_ : Unit) i => ⟨[(0, .d (terms U l)), (3, .ptr 4 0), (5, .d (.int .i64 i))], [x0, x1, x2, x3, some [.d (.int .i64 t.f), .d (.int .i64 t.v), .d (terms U t.kids)]]⟩) (step := stepF fun i => decide (T.cmp t (tAt l i) < 0))
  (F := fun _ => (.exit 0, ⟨[(0, .d (terms U l)), (3, .ptr 4 0), (5, .d (.int .i64 l.length)), (19, .d (.bool false))], [x0, x1, x2, x3, some [.d (.int .i64 t.f), .d (.int .i64 t.v), .d (terms U t.kids)]]⟩)) (R := fun (j : Nat) => (.exit 0, ⟨[(0, .d (terms U l)), (3, .ptr 4 0), (5, .d (.int .i64 j)), (19, .d (.bool false))], [x0, x1, x2, x3, some [.d (.int .i64 t.f), .d (.int .i64 t.v), .d (terms U t.kids)]]⟩))
  (fun a => ⟨by simp, by simp [b154_0, r154_0, r154_1, d154_2, r154_3, r154_4, r154_5, r154_6]⟩)
  (fun a i hi => by
   have hw := wrap_succ (n := i) (by omega)
   have hc := hb i hi
   unfold stepF
   by_cases hq : decide (T.cmp t (tAt l i) < 0) = true
   ·rw [if_pos hq]
    rw [hq] at hc
    exact ⟨by simp, by simp [b154_0, r154_0, r154_1, d154_2, r154_3, r154_4, r154_5, r154_6, hi, hw, cut, tAt_lt hi, hc, loadBox]⟩
   ·rw [if_neg hq]
    have hq' : decide (T.cmp t (tAt l i) < 0) = false := by simpa using hq
    rw [hq'] at hc
    exact ⟨⟨[(0, .d (terms U l)), (3, .ptr 4 0), (5, .d (.int .i64 (i + 1 : Nat)))], [x0, x1, x2, x3, some [.d (.int .i64 t.f), .d (.int .i64 t.v), .d (terms U t.kids)]]⟩, by simp [b154_0, r154_0, r154_1, d154_2, r154_3, r154_4, r154_5, r154_6, hi, hw, cut, tAt_lt hi, hc, loadBox], by simp [xheadOf, safeRegs]⟩)
  l.length () 0 ⟨[(0, .d (terms U l)), (3, .ptr 4 0), (5, .d (.int .i64 0))], [x0, x1, x2, x3, some [.d (.int .i64 t.f), .d (.int .i64 t.v), .d (terms U t.kids)]]⟩ (by omega) (by simp [xheadOf, safeRegs])
 have h' : loopX XV (XV.lin 154) 5 [0, 3, 5] b154_0 ⟨[(0, .d (terms U l)), (3, .ptr 4 0), (5, .d (.int .i64 0))], [x0, x1, x2, x3, some [.d (.int .i64 t.f), .d (.int .i64 t.v), .d (terms U t.kids)]]⟩ =
   some (.exit 0, ⟨[(0, .d (terms U l)), (3, .ptr 4 0), (5, .d (.int .i64 (putAt t l))), (19, .d (.bool false))], [x0, x1, x2, x3, some [.d (.int .i64 t.f), .d (.int .i64 t.v), .d (terms U t.kids)]]⟩) := by
  rw [h, runF]
  unfold putAt
  cases hq : findAt (fun i => decide (T.cmp t (tAt l i) < 0)) l.length 0 <;> simp
 clear h
 rw [putAt_ins]
 generalize putAt t l = m at *
 have hm : ¬ ((m : Int) < 0) := by omega
 have a1 := app_Us [] (l.take m) .sub (by simp; omega)
 have a2 := app_Us (l.take m) [t] U (by simp; omega)
 have a3 := app_Us (l.take m ++ [t]) (l.drop m) .sub (by simp; omega)
 have hall : (l.map (T.enc U)).all (fun e => decide (e.cells.length = 3)) = true := by simp
 have hrest : rowRest (l.map (T.enc U)) 0 m = (l.take m).map (T.enc .sub) ++ (l.drop m).map (T.enc U) := by rw [rest_zero, ← List.map_take, clr_terms, ← List.map_drop]
 have hall2 : ((l.take m).map (T.enc .sub) ++ (l.drop m).map (T.enc U)).all (fun e => decide (e.cells.length = 3)) = true := by
  have q : ∀ (l : List T) (g : Tag), (l.map (T.enc g)).all (fun e => decide (e.cells.length = 3)) = true := fun l g => by simp
  rw [List.all_append, q, q]; rfl
 have hlen2 : ((l.take m).map (T.enc .sub) ++ (l.drop m).map (T.enc U)).length = l.length := by simp; omega
 have hd2 : (((l.take m).map (T.enc .sub) ++ (l.drop m).map (T.enc U)).take l.length).drop m = (l.drop m).map (T.enc U) := by
  rw [List.take_of_length_le (by rw [hlen2]; exact Nat.le_refl _), List.drop_append_of_le_length (by simp; omega), List.drop_of_length_le (by simp; omega)]; rfl
 have ht2 : (l.map (T.enc U)).take m = (l.take m).map (T.enc U) := List.map_take.symm
 simp only [List.map_nil, List.nil_append, List.map_cons, List.map_append, List.append_assoc, List.cons_append] at a1 a2 a3 ⊢
 generalize hR : (l.take m).map (T.enc .sub) ++ (l.drop m).map (T.enc U) = R at *
 generalize hL1 : (l.take m).map (T.enc U) = L1 at *
 generalize hL2 : (l.drop m).map (T.enc U) = L2 at *
 generalize hL3 : L1 ++ [T.enc U t] = L3 at *
 generalize hL4 : L1 ++ T.enc U t :: L2 = L4 at *
 simp only [lin_154] at h'
 simp [v154, r154_0, r154_1, splice, isCell_int, isCell_sl, isCellA_d, safe_d, loadBox]
 rw [h']
 simp [r154_4, r154_5, r154_6, hlt, hm, hall, hall2, hlen2, hrest, hd2, ht2, a1, a2, a3, loadBox, splice, AV.clrs_map]
end Go.Proofs.Ytidlpcgcolcfgaa.VS
namespace Go.Proofs.Ytidlpcgcolcfgaa.VS
def nM (s : List SymL) (t : T) : DV := (t.norm s).enc U
theorem flatK_not (s : List SymL) (f : Int) (h : ¬ blindB s f = true) : ∀ l : List T, flatK s f l = l
 | [] => rfl
 | k :: l => by
  rw [flatK_cons, flatK_not s f h l]
  have h' : blindB s f = false := by simpa using h
  simp [appK, h']
def rowM (s : List SymL) (t : T) : List DV := (t.norm s).kids.map (T.enc U)
theorem nM_eq (s : List SymL) (t : T) : nM s t = .agg [.int .i64 t.f, .int .i64 t.v, .sl U (rowM s t)] := by
 unfold nM rowM
 rw [T.enc_eq, norm_f, norm_v]
theorem clr_rowM (s : List SymL) (t : T) : (rowM s t).map DV.clr = (t.norm s).kids.map (T.enc .sub) := by unfold rowM; exact clr_terms _ _
theorem cells_nM (s : List SymL) (t : T) : (nM s t).cells = [.int .i64 t.f, .int .i64 t.v, .sl U (rowM s t)] := by rw [nM_eq]; rfl
theorem app_nM (s : List SymL) (a : List T) (t : T) (h : a.length ≤ 1099511627776) : xappend 3 40 (.sl U (a.map (nM s))) (.sl U [nM s t]) = some (.sl U (a.map (nM s) ++ [nM s t])) := by
 unfold xappend
 simp only
 rw [if_pos (by simp [cells_nM, isCell_int, isCell_sl])]
 simp only [List.isEmpty_cons, Bool.false_eq_true, if_false]
 rw [if_pos ⟨by simp; omega, trivial, by simp [cells_nM]⟩]
def rowAt (s : List SymL) (f : Int) (ks : List T) (i : Nat) : List DV := if blindB s f = true then (isort (accK s f ks i)).map (T.enc U) else (ks.take i).map (nM s)
theorem rowAt_zero (s : List SymL) (f : Int) (ks : List T) : rowAt s f ks 0 = [] := by unfold rowAt; rw [accK_zero]; split <;> rfl
theorem norms_map (s : List SymL) : ∀ l : List T, T.norms s l = l.map (T.norm s)
 | [] => by simp [T.norms]
 | t :: r => by simp [T.norms, norms_map s r]
theorem rowAt_all (s : List SymL) (f v : Int) (ks : List T) : DV.agg [.int .i64 f, .int .i64 v, .sl U (rowAt s f ks ks.length)] = nM s (.node f v ks) := by
 rw [nM_eq]
 unfold rowAt rowM
 rw [accK_all, List.take_length]
 simp only [T.f_node, T.v_node, T.norm]
 by_cases hb : blindB s f = true
 ·simp only [hb, if_true, T.kids_node]
 ·simp only [hb, Bool.false_eq_true, if_false, T.kids_node]
  rw [flatK_not s f hb, norms_map, List.map_map]
  rfl
def nB3 (f v : Int) (ks : List T) (R : List DV) : Boxs := [some [.d (.int .i64 f), .d (.int .i64 v), .d (terms .sub ks)], some [.d (.int .i64 0), .d (.int .i64 0), .d (.sl U [])], some [.d (.int .i64 f), .d (.int .i64 v), .d (.sl U R)]]
def rowJ (l : List T) (j : Nat) : List DV := (l.take j).map (T.enc .sub) ++ (l.drop j).map (T.enc U)
theorem rowJ_len (l : List T) (j : Nat) (h : j ≤ l.length) : (rowJ l j).length = l.length := by unfold rowJ; simp; omega
theorem rowJ_clr (l : List T) (j : Nat) : (rowJ l j).map DV.clr = l.map (T.enc .sub) := by
 unfold rowJ; rw [List.map_append, clr_terms, clr_terms, ← List.map_append, List.take_append_drop]
theorem rowJ_at (l : List T) (j : Nat) (h : j < l.length) : (rowJ l j)[j]? = some ((tAt l j).enc U) := by
 unfold rowJ
 rw [List.getElem?_append_right (by simp; omega), List.drop_eq_getElem_cons h, tAt_lt h]
 simp [Nat.min_eq_left (Nat.le_of_lt h)]
theorem rowJ_set (l : List T) (j : Nat) (h : j < l.length) : (rowJ l j).set j ((tAt l j).enc .sub) = rowJ l (j + 1) := by
 unfold rowJ
 have hm : ((l.take j).map (T.enc .sub)).length = j := by simp; omega
 rw [List.set_append_right _ _ (by rw [hm]; exact Nat.le_refl _), hm, Nat.sub_self, List.drop_eq_getElem_cons h, tAt_lt h, List.map_cons, List.set_cons_zero, take_snoc l j h, List.map_append, List.append_assoc, List.map_cons, List.map_nil]
 rfl
theorem rowJ_all (l : List T) : rowJ l l.length = l.map (T.enc .sub) := by unfold rowJ; simp
theorem rowJ_zero (l : List T) : rowJ l 0 = l.map (T.enc U) := by unfold rowJ; simp
theorem upE3_enc (TT : List Nat) (d4 : Nat) (s : XS) (b off : Nat) (cs : List AV) (g gt : Tag) (xs : List DV) (k : Nat) (t : T) : xUpE3 TT d4 3 s b off cs g xs k (some (t.enc gt)) = some (xput TT ⟨s.r, s.B.set b (some (cs.set off (.d (.sl g (xs.set k (t.enc .sub))))))⟩ (some d4) (.d (t.enc gt))) := by
 rw [← T.clr_enc gt t, T.enc_eq]; rfl
theorem inner153 (s : List SymL) (hs : s.length ≤ 1099511627776) (f v kf kv : Int) (ks l : List T) (i : Nat) (hl : l.length ≤ 1099511627776) : ∀ (k j : Nat), j + k = l.length → ∀ acc : List T, cnts acc + cnts (l.drop j) ≤ 1099511627776 → ∀ e : Boxs,
  loopX XV (XV.lin 153) 4 [0, 3, 4, 5, 6, 7, 8] b153_1 ⟨[(0, .d (sg s)), (3, .ptr 0 0), (4, .ptr 1 0), (5, .ptr 2 0), (6, .d (.int .i64 i)), (7, .ptr 3 0), (8, .d (.int .i64 j))], nB3 f v ks (acc.map (T.enc U)) ++ [some [.d (.int .i64 kf), .d (.int .i64 kv), .d (.sl U (rowJ l j))]] ++ e⟩ =
   some (.exit 3, ⟨[(0, .d (sg s)), (3, .ptr 0 0), (4, .ptr 1 0), (5, .ptr 2 0), (6, .d (.int .i64 i)), (7, .ptr 3 0), (8, .d (.int .i64 l.length)), (32, .d (.bool false))], nB3 f v ks ((isortOn acc (l.drop j)).map (T.enc U)) ++ [some [.d (.int .i64 kf), .d (.int .i64 kv), .d (.sl U (l.map (T.enc .sub)))]]⟩) := by
 have head : ∀ (x : Int) (A e : Boxs), A.length = 4 → xheadOf 4 [0, 3, 4, 5, 6, 7, 8] ⟨[(0, .d (sg s)), (3, .ptr 0 0), (4, .ptr 1 0), (5, .ptr 2 0), (6, .d (.int .i64 i)), (7, .ptr 3 0), (8, .d (.int .i64 x))], A ++ e⟩ = some ⟨[(0, .d (sg s)), (3, .ptr 0 0), (4, .ptr 1 0), (5, .ptr 2 0), (6, .d (.int .i64 i)), (7, .ptr 3 0), (8, .d (.int .i64 x))], A⟩ := fun x A e hA =>
  head_cut (by simp) (by simp [safeRegs]) hA rfl
 intro k
 induction k with
 | zero =>
  intro j hj acc ha e
  have : j = l.length := by omega
  subst this
  refine loopX_out (head _ _ e (by simp [nB3])) ?_ (by simp)
  rw [List.drop_length, rowJ_all]
  simp only [isortOn]
  simp [b153_1, r153_0, r153_1, r153_2, r153_3, r153_5, r153_10, r153_11, r153_12, r153_13, r153_6, r153_7, d153_9, r153_8, r153_4, r153_14, nB3, loadBox]
 | succ k ih =>
  intro j hj acc ha e
  have hlt : j < l.length := by omega
  have hm := tAt_mem hlt
  have h1 := mem_inner hm
  have hd : l.drop j = tAt l j :: l.drop (j + 1) := by rw [List.drop_eq_getElem_cons hlt, tAt_lt hlt]
  have hw := wrap_succ (n := j) (by omega)
  have r1 := rowJ_len l j (by omega)
  have r2 := rowJ_clr l j
  have r3 : ∀ h : j < (rowJ l j).length, (rowJ l j)[j]'h = (tAt l j).enc U := fun h => (List.getElem?_eq_some_iff.1 (rowJ_at l j hlt)).2
  have r4 := rowJ_set l j hlt
  rw [hd, cnts_cons] at ha
  have hp := l4Put_eq acc (tAt l j) (by omega) (by omega)
  rw [hd]
  simp only [isortOn]
  rw [← ih (j + 1) (by omega) (ins (tAt l j) acc) (by rw [cnts_perm (ins_perm _ _), cnts_cons]; omega) []]
  refine loopX_go (head _ _ e (by simp [nB3])) ?_
  generalize rowJ l (j + 1) = R1 at *
  generalize rowJ l j = R0 at *
  simp [b153_1, r153_0, r153_1, r153_2, r153_3, r153_5, r153_10, r153_11, r153_12, r153_13, r153_6, r153_7, d153_9, r153_8, r153_4, r153_14, nB3, hlt, hw, cut, tAt_lt hlt, hp, r1, r2, r3, r4, upE3_enc, linDistinct, VX.linT, splice, isCell_int, isCell_sl, isCellA_d, safe_d, loadBox]
theorem kid153 (s : List SymL) (hs : s.length ≤ 1099511627776) (f v : Int) (ks : List T) (hl : cnts ks ≤ 1099511627776) (i : Nat) (hi : i < ks.length)
  (hc : callX XV 153 [.d (sg s), .d ((tAt ks i).enc .sub)] [] = some (.d (nM s (tAt ks i)), [])) :
  ∃ e : Boxs, codeX XV (XV.lin 153) b153_0 ⟨[(0, .d (sg s)), (3, .ptr 0 0), (4, .ptr 1 0), (5, .ptr 2 0), (6, .d (.int .i64 i))], nB3 f v ks (rowAt s f ks i)⟩ =
   some (.normal, ⟨[(0, .d (sg s)), (3, .ptr 0 0), (4, .ptr 1 0), (5, .ptr 2 0), (6, .d (.int .i64 (i + 1 : Nat)))], nB3 f v ks (rowAt s f ks (i + 1)) ++ e⟩) := by
 have hlen := len_cnts ks
 have hw := wrap_succ (n := i) (by omega)
 have hb := specBlind_eq s hs f
 have ht := tAt_lt hi
 have hm := mem_inner (tAt_mem hi)
 have hin := inner_norm s (tAt ks i)
 have hac := accK_succ s f ks i hi
 have hcn := accK_cnts s f ks (i + 1)
 have htk := take_snoc ks i hi
 have hM := clr_rowM s (tAt ks i)
 have hnf := norm_f s (tAt ks i)
 have hnv := norm_v s (tAt ks i)
 have happ := app_nM s (ks.take i) (tAt ks i) (by simp; omega)
 rw [hac, cnts_append] at hcn
 unfold rowAt
 rw [hac, htk]
 rw [nM_eq] at hc happ
 generalize hk : tAt ks i = k at *
 generalize hr : accK s f ks i = acc at *
 have hXu : rowM s k = (k.norm s).kids.map (T.enc U) := rfl
 generalize hX : rowM s k = X at *
 by_cases h1 : blindB s f = true
 ·simp only [h1, if_true]
  by_cases h2 : (k.f == f) = true
  ·have e1 : appK s f (k.norm s) = (k.norm s).kids := by unfold appK; rw [hnf, h1, h2]; rfl
   rw [e1] at hcn ⊢
   have hloop := inner153 s hs f v k.f k.v ks (k.norm s).kids i (by have := len_cnts (k.norm s).kids; rw [cnts_kids] at this; omega) (k.norm s).kids.length 0 (by omega) (isort acc) (by rw [cnts_perm (isort_perm acc), List.drop_zero]; omega) []
   rw [List.drop_zero, rowJ_zero, show isortOn (isort acc) (k.norm s).kids = isort (acc ++ (k.norm s).kids) from by unfold isort; rw [isortOn_append]] at hloop
   refine ⟨[some [.d (.int .i64 k.f), .d (.int .i64 k.v), .d (.sl U ((k.norm s).kids.map (T.enc .sub)))]], ?_⟩
   have h2n : (k.f != f) = false := by simpa using h2
   rw [← hXu] at hloop
   generalize (isort (acc ++ (k.norm s).kids)).map (T.enc U) = R2 at *
   generalize (isort acc).map (T.enc U) = R1 at *
   generalize (k.norm s).kids = l at *
   simp only [nB3, lin_153, Int.natCast_zero, List.cons_append, List.nil_append, List.append_nil] at hloop ⊢
   simp [b153_0, r153_0, r153_1, r153_2, r153_3, r153_5, r153_10, r153_11, r153_12, r153_13, r153_6, r153_7, d153_9, r153_8, r153_4, r153_14, hi, hw, cut, ht, hc, hb, h1, h2n, hM, splice, isCell_int, isCell_sl, isCellA_d, safe_d, loadBox, AV.clrs_map]
   rw [hloop]
   simp [b153_0, r153_0, r153_1, r153_2, r153_3, r153_5, r153_10, r153_11, r153_12, r153_13, r153_6, r153_7, d153_9, r153_8, r153_4, r153_14, hw]
  ·have h2' : (k.f == f) = false := by simpa using h2
   have h2n : (k.f != f) = true := by simpa using h2
   have e1 : appK s f (k.norm s) = [k.norm s] := by unfold appK; rw [hnf, h1, h2']; rfl
   rw [e1] at hcn ⊢
   rw [show isort (acc ++ [k.norm s]) = ins (k.norm s) (isort acc) from by unfold isort; rw [isortOn_append]; rfl]
   have hp := l4Put_eq (isort acc) (k.norm s) (by rw [cnts_perm (isort_perm acc)]; omega) (by omega)
   have hke : (k.norm s).enc U = .agg [.int .i64 k.f, .int .i64 k.v, .sl U X] := by rw [T.enc_eq, hnf, hnv, hXu]
   simp only [hke] at hp
   refine ⟨[some [.d (.int .i64 k.f), .d (.int .i64 k.v), .d (terms .sub (k.norm s).kids)]], ?_⟩
   generalize ins (k.norm s) (isort acc) = R2 at *
   generalize isort acc = R1 at *
   generalize (k.norm s).kids = l at *
   simp [b153_0, r153_0, r153_1, r153_2, r153_3, r153_5, r153_10, r153_11, r153_12, r153_13, r153_6, r153_7, d153_9, r153_8, r153_4, r153_14, nB3, hi, hw, cut, ht, hc, hb, h1, h2n, hM, hp, linDistinct, VX.linT, splice, isCell_int, isCell_sl, isCellA_d, safe_d, loadBox, AV.clrs_map]
 ·have h1' : blindB s f = false := by simpa using h1
  simp only [h1', Bool.false_eq_true, if_false]
  refine ⟨[some [.d (.int .i64 k.f), .d (.int .i64 k.v), .d (terms .sub (k.norm s).kids)]], ?_⟩
  rw [List.map_append, List.map_cons, List.map_nil, nM_eq, hX]
  generalize hR2 : (ks.take i).map (nM s) ++ [.agg [.int .i64 k.f, .int .i64 k.v, .sl U X]] = R2 at *
  generalize (ks.take i).map (nM s) = R1 at *
  generalize (k.norm s).kids = l at *
  simp [b153_0, r153_0, r153_1, r153_2, r153_3, r153_5, r153_10, r153_11, r153_12, r153_13, r153_6, r153_7, d153_9, r153_8, r153_4, r153_14, nB3, hi, hw, cut, ht, hc, hb, h1', happ, hM, splice, isCell_int, isCell_sl, isCellA_d, safe_d, loadBox, AV.clrs_map]
end Go.Proofs.Ytidlpcgcolcfgaa.VS
namespace Go.Proofs.Ytidlpcgcolcfgaa.VS
theorem loop153 (s : List SymL) (hs : s.length ≤ 1099511627776) (f v : Int) (ks : List T) (hl : cnts ks ≤ 1099511627776)
  (hc : ∀ t, t ∈ ks → callX XV 153 [.d (sg s), .d (t.enc .sub)] [] = some (.d (nM s t), [])) : ∀ (k i : Nat), i + k = ks.length → ∀ e : Boxs,
  loopX XV (XV.lin 153) 3 [0, 3, 4, 5, 6] b153_0 ⟨[(0, .d (sg s)), (3, .ptr 0 0), (4, .ptr 1 0), (5, .ptr 2 0), (6, .d (.int .i64 i))], nB3 f v ks (rowAt s f ks i) ++ e⟩ =
   some (.exit 0, ⟨[(0, .d (sg s)), (3, .ptr 0 0), (4, .ptr 1 0), (5, .ptr 2 0), (6, .d (.int .i64 ks.length)), (18, .d (.bool false))], nB3 f v ks (rowAt s f ks ks.length)⟩) := by
 have head : ∀ (x : Int) (A e : Boxs), A.length = 3 → xheadOf 3 [0, 3, 4, 5, 6] ⟨[(0, .d (sg s)), (3, .ptr 0 0), (4, .ptr 1 0), (5, .ptr 2 0), (6, .d (.int .i64 x))], A ++ e⟩ = some ⟨[(0, .d (sg s)), (3, .ptr 0 0), (4, .ptr 1 0), (5, .ptr 2 0), (6, .d (.int .i64 x))], A⟩ := fun x A e hA =>
  head_cut (by simp) (by simp [safeRegs]) hA rfl
 intro k
 induction k with
 | zero =>
  intro i hi e
  have : i = ks.length := by omega
  subst this
  refine loopX_out (head _ _ e (by simp [nB3])) ?_ (by simp)
  generalize rowAt s f ks ks.length = R
  simp [b153_0, r153_0, r153_1, r153_2, r153_3, r153_5, r153_10, r153_11, r153_12, r153_13, r153_6, r153_7, d153_9, r153_8, r153_4, r153_14, nB3, loadBox]
 | succ k ih =>
  intro i hi e
  have hlt : i < ks.length := by omega
  obtain ⟨e', he⟩ := kid153 s hs f v ks hl i hlt (hc _ (tAt_mem hlt))
  rw [← ih (i + 1) (by omega) e']
  exact loopX_go (head _ _ e (by simp [nB3])) he
theorem specNorm_of (s : List SymL) (hs : s.length ≤ 1099511627776) (f v : Int) (ks : List T) (hl : cnts ks ≤ 1099511627776)
  (hc : ∀ t, t ∈ ks → callX XV 153 [.d (sg s), .d (t.enc .sub)] [] = some (.d (nM s t), [])) :
  callX XV 153 [.d (sg s), .d ((T.node f v ks).enc .sub)] [] = some (.d (nM s (.node f v ks)), []) := by
 rw [z_call XV _ _ _ v153 rfl xcode_153 rfl]
 have hloop := loop153 s hs f v ks hl hc ks.length 0 (by omega) []
 rw [← rowAt_all]
 simp only [rowAt_zero, List.append_nil, lin_153, nB3, Int.natCast_zero] at hloop
 generalize rowAt s f ks ks.length = R at *
 simp [v153, r153_0, r153_1, r153_2, splice, isCell_int, isCell_sl, isCellA_d, safe_d, loadBox, AV.clrs_map]
 rw [hloop]
 simp [r153_14, splice, isCell_int, isCell_sl, isCellA_d, safe_d, loadBox, AV.clrs_map]
theorem specNorm_eq (s : List SymL) (hs : s.length ≤ 1099511627776) (t : T) (ht : t.inner ≤ 1099511627776) : callX XV 153 [.d (sg s), .d (t.enc .sub)] [] = some (.d (nM s t), []) := by
 match t, ht with
 | .node f v ks, ht =>
  rw [T.inner_node] at ht
  exact specNorm_of s hs f v ks ht fun x hx => specNorm_eq s hs x (by have := mem_inner hx; omega)
termination_by t
decreasing_by
 simp_wf
 have := List.sizeOf_lt_of_mem hx
 omega
end Go.Proofs.Ytidlpcgcolcfgaa.VS
namespace Go.Proofs.Ytidlpcgcolcfgaa.VS
def dgb (n : Nat) : UInt8 := UInt8.ofNat (48 + n)
def dgt (n : Nat) : ByteArray := ⟨#[dgb n]⟩
def digs (n : Nat) : ByteArray := if n < 10 then dgt n else digs (n / 10) ++ dgt (n % 10)
def minus : ByteArray := ⟨#[45]⟩
def digits (n : Int) : ByteArray := if n < 0 then minus ++ digs n.natAbs else digs n.natAbs
theorem digs_lt {n : Nat} (h : n < 10) : digs n = dgt n := by rw [digs, if_pos h]
theorem digs_ge {n : Nat} (h : ¬ n < 10) : digs n = digs (n / 10) ++ dgt (n % 10) := by rw [digs, if_neg h]
theorem digits_nat (k : Nat) : digits (k : Int) = digs k := by unfold digits; rw [if_neg (by omega)]; simp
theorem digits_neg {k : Nat} (h : 0 < k) : digits (-(k : Int)) = minus ++ digs k := by unfold digits; rw [if_pos (by omega)]; simp
theorem dgt_size (n : Nat) : (dgt n).size = 1 := rfl
theorem minus_size : minus.size = 1 := rfl
theorem digs_size : ∀ (k n : Nat), n < 10 ^ (k + 1) → (digs n).size ≤ k + 1
 | 0, n, h => by rw [digs_lt (by omega), dgt_size]; omega
 | k + 1, n, h => by
  by_cases c : n < 10
  ·rw [digs_lt c, dgt_size]; omega
  ·rw [digs_ge c, ByteArray.size_append, dgt_size]
   have := digs_size k (n / 10) (by rw [Nat.pow_succ] at h; omega)
   omega
theorem digs_size20 {n : Nat} (h : n ≤ 9223372036854775808) : (digs n).size ≤ 20 := digs_size 19 n (by omega)
theorem enc_dgt {n : Nat} (h : n < 10) : Utf8.encode (48 + (n : Int)) = dgt n := by
 have : n = 0 ∨ n = 1 ∨ n = 2 ∨ n = 3 ∨ n = 4 ∨ n = 5 ∨ n = 6 ∨ n = 7 ∨ n = 8 ∨ n = 9 := by omega
 rcases this with rfl | rfl | rfl | rfl | rfl | rfl | rfl | rfl | rfl | rfl <;> rfl
theorem wrap_i32 {n : Int} (h : -2147483648 ≤ n) (h2 : n ≤ 2147483647) : IntKind.i32.wrap n = n := by
 simp [IntKind.wrap, IntKind.bits, IntKind.signed]; omega
theorem wrap_u8' {n : Int} (h : 0 ≤ n) (h2 : n ≤ 255) : IntKind.u8.wrap n = n := by
 simp [IntKind.wrap, IntKind.bits, IntKind.signed]; omega
theorem evInt_quo10 (k : IntKind) (x : Int) : evInt .quo k x 10 = some (.int k (k.wrap (x.tdiv 10))) := rfl
theorem evInt_rem10 (k : IntKind) (x : Int) : evInt .rem k x 10 = some (.int k (x.tmod 10)) := rfl
theorem evBin_cat {a b : ByteArray} (h : a.size + b.size ≤ 4611686018427387904) : evBin .add (.str a) (.str b) = some (.str (a ++ b)) := by simp [evBin, h]
theorem implDigits_small (k : Nat) (hk : k < 10) : callX XV 38 [.d (.int .i64 k)] [] = some (.d (.str (dgt k)), []) := by
 rw [z_call XV _ _ _ v38 rfl xcode_38 rfl]
 have c1 : (k : Int) < 10 := by omega
 have c0 : ¬ (k : Int) < 0 := by omega
 have hw : IntKind.i64.wrap (48 + k) = 48 + k := wrap_i64 (by omega) (by omega)
 have hw2 : IntKind.i32.wrap (48 + k) = 48 + k := wrap_i32 (by omega) (by omega)
 have e := enc_dgt hk
 simp [v38, r38_0, r38_1, r38_2, r38_3, r38_4, r38_5, r38_6, r38_7, c0, c1, hw, hw2, e]
theorem implDigits (m : Nat) : ∀ n : Int, n.natAbs ≤ m → -9223372036854775808 ≤ n → n ≤ 9223372036854775807 → callX XV 38 [.d (.int .i64 n)] [] = some (.d (.str (digits n)), []) := by
 induction m with
 | zero =>
  intro n hm h1 h2
  obtain rfl : n = ((0 : Nat) : Int) := by omega
  rw [digits_nat, digs_lt (by omega)]
  exact implDigits_small 0 (by omega)
 | succ m ih =>
  intro n hm h1 h2
  by_cases c0 : n < 0
  ·obtain ⟨k, rfl⟩ : ∃ k : Nat, n = -(k : Int) := ⟨n.natAbs, by omega⟩
   have hk : 0 < k := by omega
   rw [z_call XV _ _ _ v38 rfl xcode_38 rfl, digits_neg hk]
   by_cases c1 : k < 10
   ·have hw : IntKind.i64.wrap k = k := wrap_i64 (by omega) (by omega)
    have s1 := implDigits_small k c1
    have ha : evBin .add (.str ⟨#[45]⟩) (.str (dgt k)) = some (.str (minus ++ dgt k)) := evBin_cat (by rw [dgt_size]; decide)
    have c1' : -10 < -(k : Int) := by omega
    have c0' : 0 < k := hk
    rw [digs_lt c1]
    simp [v38, r38_0, r38_1, r38_2, r38_3, r38_4, r38_5, r38_6, r38_7, c0', c1', c1, hw, s1, ha]
   ·have hq : (-(k : Int)).tdiv 10 = -((k / 10 : Nat) : Int) := by rw [Int.neg_tdiv]; rfl
    have hr : (-(k : Int)).tmod 10 = -((k % 10 : Nat) : Int) := by rw [Int.neg_tmod]; rfl
    have hw1 : IntKind.i64.wrap (-((k / 10 : Nat) : Int)) = -((k / 10 : Nat) : Int) := wrap_i64 (by omega) (by omega)
    have hw2 : IntKind.i64.wrap ((k % 10 : Nat) : Int) = ((k % 10 : Nat) : Int) := wrap_i64 (by omega) (by omega)
    have s1 := ih (-((k / 10 : Nat) : Int)) (by omega) (by omega) (by omega)
    have s2 := implDigits_small (k % 10) (by omega)
    rw [digits_neg (by omega)] at s1
    have hs := digs_size20 (n := k / 10) (by omega)
    have ha : evBin .add (.str (minus ++ digs (k / 10))) (.str (dgt (k % 10))) = some (.str (minus ++ digs k)) := by
     rw [evBin_cat (by rw [ByteArray.size_append, dgt_size, minus_size]; omega), digs_ge c1, ByteArray.append_assoc]
    have c1' : ¬ -10 < -(k : Int) := by omega
    have c0' : 0 < k := hk
    generalize ((k / 10 : Nat) : Int) = q at *
    generalize ((k % 10 : Nat) : Int) = r at *
    simp [v38, r38_0, r38_1, r38_2, r38_3, r38_4, r38_5, r38_6, r38_7, c0', c1', c1, evInt_quo10, evInt_rem10, hq, hr, hw1, hw2, s1, s2, ha]
  ·obtain ⟨k, rfl⟩ := Int.eq_ofNat_of_zero_le (Int.not_lt.1 c0)
   rw [digits_nat]
   by_cases c1 : k < 10
   ·rw [digs_lt c1]; exact implDigits_small k c1
   ·rw [z_call XV _ _ _ v38 rfl xcode_38 rfl]
    have hq : (k : Int).tdiv 10 = ((k / 10 : Nat) : Int) := rfl
    have hr : (k : Int).tmod 10 = ((k % 10 : Nat) : Int) := rfl
    have s1 := ih ((k / 10 : Nat) : Int) (by omega) (by omega) (by omega)
    rw [digits_nat] at s1
    have hw0 : IntKind.i64.wrap ((k / 10 : Nat) : Int) = ((k / 10 : Nat) : Int) := wrap_i64 (by omega) (by omega)
    have hw : IntKind.i64.wrap (48 + ((k % 10 : Nat) : Int)) = 48 + ((k % 10 : Nat) : Int) := wrap_i64 (by omega) (by omega)
    have hw2 : IntKind.i32.wrap (48 + ((k % 10 : Nat) : Int)) = 48 + ((k % 10 : Nat) : Int) := wrap_i32 (by omega) (by omega)
    have e := enc_dgt (n := k % 10) (by omega)
    have hs := digs_size20 (n := k / 10) (by omega)
    have ha : evBin .add (.str (digs (k / 10))) (.str (dgt (k % 10))) = some (.str (digs k)) := by
     rw [evBin_cat (by rw [dgt_size]; omega), digs_ge c1]
    have c1' : ¬ (k : Int) < 10 := by omega
    have c0' : ¬ (k : Int) < 0 := by omega
    generalize ((k / 10 : Nat) : Int) = q at *
    generalize ((k % 10 : Nat) : Int) = r at *
    simp [v38, r38_0, r38_1, r38_2, r38_3, r38_4, r38_5, r38_6, r38_7, c0', c1', evInt_quo10, evInt_rem10, hq, hr, hw0, hw, hw2, e, s1, ha]
theorem implDigits_eq (n : Int) (h1 : -9223372036854775808 ≤ n) (h2 : n ≤ 9223372036854775807) : callX XV 38 [.d (.int .i64 n)] [] = some (.d (.str (digits n)), []) := implDigits n.natAbs n (Nat.le_refl _) h1 h2
def digs0 (k : Nat) : ByteArray := if k = 0 then ByteArray.empty else digs k
theorem digs0_step {k : Nat} (h : k ≠ 0) (s : ByteArray) : digs0 (k / 10) ++ (dgt (k % 10) ++ s) = digs0 k ++ s := by
 unfold digs0
 rw [if_neg h]
 by_cases c : k < 10
 ·have : k / 10 = 0 := by omega
  rw [if_pos this, digs_lt c, ByteArray.empty_append, Nat.mod_eq_of_lt c]
 ·rw [if_neg (by omega), digs_ge c, ByteArray.append_assoc]
theorem bytes_dgt {k : Nat} (h : k < 10) : bytesOf [.int .u8 (48 + (k : Int))] = some [dgb k] := by
 have : (48 + (k : Int)).toNat = 48 + k := by omega
 simp [bytesOf, this, dgb]
def dst (n : Int) (neg : Bool) (s : ByteArray) : XS := ⟨[(0, .d (.int .i64 n)), (3, .d (.bool neg)), (4, .d (.str s))], []⟩
theorem body39 (n : Int) (k : Nat) (h : n = k ∨ n = -(k : Int)) (hk : k ≠ 0) (hk2 : k ≤ 9223372036854775808) (h1 : -9223372036854775808 ≤ n) (h2 : n ≤ 9223372036854775807) (neg : Bool) (s : ByteArray) (hs : s.size ≤ 100) :
  ∃ s', codeX XV [] b39_0 (dst n neg s) = some (.normal, s') ∧ xheadOf 0 [0, 3, 4] s' = some (dst (n.tdiv 10) neg (dgt (k % 10) ++ s)) := by
 have hw : IntKind.i64.wrap (48 + ((k % 10 : Nat) : Int)) = 48 + ((k % 10 : Nat) : Int) := wrap_i64 (by omega) (by omega)
 have hw2 : IntKind.u8.wrap (48 + ((k % 10 : Nat) : Int)) = 48 + ((k % 10 : Nat) : Int) := wrap_u8' (by omega) (by omega)
 have hw3 : IntKind.i64.wrap ((k % 10 : Nat) : Int) = ((k % 10 : Nat) : Int) := wrap_i64 (by omega) (by omega)
 have hb := bytes_dgt (k := k % 10) (by omega)
 have ha : evBin .add (.str ⟨#[dgb (k % 10)]⟩) (.str s) = some (.str (dgt (k % 10) ++ s)) := evBin_cat (a := dgt (k % 10)) (by rw [dgt_size]; omega)
 have c0 : (n != 0) = true := by simp; omega
 unfold dst
 rcases h with rfl | rfl
 ·have hq : (k : Int).tdiv 10 = ((k / 10 : Nat) : Int) := rfl
  rw [hq]
  have hr : (k : Int).tmod 10 = ((k % 10 : Nat) : Int) := rfl
  have hwq : IntKind.i64.wrap ((k / 10 : Nat) : Int) = ((k / 10 : Nat) : Int) := wrap_i64 (by omega) (by omega)
  have c1 : ¬ ((k % 10 : Nat) : Int) < 0 := by omega
  generalize ((k / 10 : Nat) : Int) = q at *
  generalize ((k % 10 : Nat) : Int) = r at *
  refine ⟨_, by simp [b39_0, r39_5, r39_6, r39_7, r39_8, r39_9, r39_10, c0, hq, hr, evInt_quo10, evInt_rem10, c1, hw, hw2, hwq, hb, ha, buildRow, List.replicate]; rfl, by simp [xheadOf, safeRegs]⟩
 ·have hq : (-(k : Int)).tdiv 10 = -((k / 10 : Nat) : Int) := by rw [Int.neg_tdiv]; rfl
  rw [hq]
  have hr : (-(k : Int)).tmod 10 = -((k % 10 : Nat) : Int) := by rw [Int.neg_tmod]; rfl
  have hwq : IntKind.i64.wrap (-((k / 10 : Nat) : Int)) = -((k / 10 : Nat) : Int) := wrap_i64 (by omega) (by omega)
  by_cases c1 : -((k % 10 : Nat) : Int) < 0
  ·generalize ((k / 10 : Nat) : Int) = q at *
   generalize ((k % 10 : Nat) : Int) = r at *
   have c1' : 0 < r := by omega
   have c0' : k ≠ 0 := hk
   refine ⟨_, by simp [b39_0, r39_5, r39_6, r39_7, r39_8, r39_9, r39_10, c0, hq, hr, evInt_quo10, evInt_rem10, c1', hw, hw2, hw3, hwq, hb, ha, buildRow, List.replicate]; rfl, by simp [xheadOf, safeRegs]⟩
  ·have c2 : ((k % 10 : Nat) : Int) = 0 := by omega
   rw [c2] at hw hw2 hr hb
   have c3 : k % 10 = 0 := by omega
   rw [c3] at ha hb ⊢
   generalize ((k / 10 : Nat) : Int) = q at *
   simp at hr hw hw2 hb
   refine ⟨_, by simp [b39_0, r39_5, r39_6, r39_7, r39_8, r39_9, r39_10, c0, hq, hr, evInt_quo10, evInt_rem10, hw, hw2, hwq, hb, ha, buildRow, List.replicate]; rfl, by simp [xheadOf, safeRegs]⟩
theorem loop39 : ∀ (j : Nat) (n : Int) (k : Nat) (neg : Bool) (s : ByteArray), (n = k ∨ n = -(k : Int)) → k < 10 ^ j → k ≤ 9223372036854775808 → -9223372036854775808 ≤ n → n ≤ 9223372036854775807 → s.size + j ≤ 100 →
  ∀ s0, xheadOf 0 [0, 3, 4] s0 = some (dst n neg s) → loopX XV [] 0 [0, 3, 4] b39_0 s0 = some (.exit 0, ⟨[(0, .d (.int .i64 0)), (3, .d (.bool neg)), (4, .d (.str (digs0 k ++ s))), (11, .d (.bool false))], []⟩) := by
 intro j
 induction j with
 | zero =>
  intro n k neg s hn hk hk2 h1 h2 hs s0 h0
  obtain rfl : k = 0 := by simpa using hk
  obtain rfl : n = 0 := by omega
  refine loopX_out h0 ?_ (by simp)
  simp [dst, b39_0, r39_5, digs0, ByteArray.empty_append]
 | succ j ih =>
  intro n k neg s hn hk hk2 h1 h2 hs s0 h0
  by_cases hz : k = 0
  ·subst hz
   obtain rfl : n = 0 := by omega
   refine loopX_out h0 ?_ (by simp)
   simp [dst, b39_0, r39_5, digs0, ByteArray.empty_append]
  ·obtain ⟨s', hb, hh⟩ := body39 n k hn hz hk2 h1 h2 neg s (by omega)
   rw [loopX_go h0 hb]
   have hn' : n.tdiv 10 = ((k / 10 : Nat) : Int) ∨ n.tdiv 10 = -((k / 10 : Nat) : Int) := by
    rcases hn with rfl | rfl
    ·left; rfl
    ·right; rw [Int.neg_tdiv]; rfl
   have := ih (n.tdiv 10) (k / 10) neg (dgt (k % 10) ++ s) hn' (by rw [Nat.pow_succ] at hk; omega) (by omega) (by omega) (by omega) (by rw [ByteArray.size_append, dgt_size]; omega) s' hh
   rw [this, digs0_step hz]
theorem specDigits_eq (n : Int) (h1 : -9223372036854775808 ≤ n) (h2 : n ≤ 9223372036854775807) : callX XV 39 [.d (.int .i64 n)] [] = some (.d (.str (digits n)), []) := by
 rw [z_call XV _ _ _ v39 rfl xcode_39 rfl]
 by_cases c0 : n = 0
 ·subst c0
  have hd : digits 0 = ⟨#[48]⟩ := by rw [show (0 : Int) = ((0 : Nat) : Int) from rfl, digits_nat, digs_lt (by omega)]; rfl
  simp [v39, r39_0, r39_1, r39_2, hd]
 ·have c0' : (n == 0) = false := by simp [c0]
  have hl := loop39 20 n n.natAbs (decide (n < 0)) ByteArray.empty (by omega) (by omega) (by omega) h1 h2 (by decide) ⟨[(0, .d (.int .i64 n)), (3, .d (.bool (decide (n < 0)))), (4, .d (.str ByteArray.empty))], []⟩ (by simp [xheadOf, safeRegs, dst])
  have hd : digs0 n.natAbs ++ ByteArray.empty = digs n.natAbs := by unfold digs0; rw [if_neg (by omega), ByteArray.append_empty]
  rw [hd] at hl
  have hs := digs_size20 (n := n.natAbs) (by omega)
  by_cases c : n < 0
  ·have ha : evBin .add (.str ⟨#[45]⟩) (.str (digs n.natAbs)) = some (.str (digits n)) := by
    unfold digits; rw [if_pos c]; exact evBin_cat (a := minus) (by rw [minus_size]; omega)
   simp only [c, decide_true] at hl
   simp [v39, r39_0, r39_1, r39_2, r39_3, r39_4, c0', c]
   simp only [show (⟨#[]⟩ : ByteArray) = ByteArray.empty from rfl, hl]
   simp [r39_11, r39_12, ha]
  ·have hdn : digits n = digs n.natAbs := by unfold digits; rw [if_neg c]
   simp only [c, decide_false] at hl
   simp [v39, r39_0, r39_1, r39_2, r39_3, r39_4, c0', c]
   simp only [show (⟨#[]⟩ : ByteArray) = ByteArray.empty from rfl, hl]
   simp [r39_11, r39_13, hdn]
end Go.Proofs.Ytidlpcgcolcfgaa.VS
namespace Go.Proofs.Ytidlpcgcolcfgaa.VS
def txt (p : Nat → ByteArray) (sep : ByteArray) : Nat → ByteArray
 | 0 => ByteArray.empty
 | k + 1 => (if 0 < k then txt p sep k ++ sep else txt p sep k) ++ p k
def strs (p : Nat → ByteArray) (k : Nat) : List DV := (List.range k).map fun i => .str (p i)
theorem strs_succ (p : Nat → ByteArray) (k : Nat) : strs p (k + 1) = strs p k ++ [.str (p k)] := by simp [strs, List.range_succ]
@[simp] theorem clr_strs (p : Nat → ByteArray) (k : Nat) : (strs p k).map DV.clr = strs p k := by simp [strs, List.map_map, Function.comp_def]
theorem inter_snoc (sep : List UInt8) (x : List UInt8) : ∀ l : List (List UInt8), l ≠ [] → sep.intercalate (l ++ [x]) = sep.intercalate l ++ (sep ++ x)
 | [], h => absurd rfl h
 | [a], _ => by simp [List.intercalate]
 | a :: b :: r, _ => by
  have ih := inter_snoc sep x (b :: r) (by simp)
  simp only [List.intercalate, List.cons_append, List.intersperse, List.flatten_cons] at ih ⊢
  rw [List.append_assoc, List.append_assoc, ← ih]
theorem joinL_txt (p : Nat → ByteArray) (sep : ByteArray) : ∀ k, joinL ((List.range k).map p) sep = (txt p sep k).data.toList
 | 0 => by simp [joinL, txt, List.intercalate]
 | k + 1 => by
  have ih := joinL_txt p sep k
  unfold joinL at ih ⊢
  rw [List.range_succ, List.map_append, List.map_append]
  unfold txt
  by_cases hk : 0 < k
  ·rw [List.map_cons, List.map_nil, List.map_cons, List.map_nil, inter_snoc _ _ _ (by simp; omega), ih, if_pos hk]
   simp [ByteArray.data_append]
  ·obtain rfl : k = 0 := by omega
   simp [List.intercalate, txt]
theorem joinS_txt (p : Nat → ByteArray) (sep : ByteArray) (k : Nat) : joinS ((List.range k).map p) sep = txt p sep k := by
 unfold joinS; rw [joinL_txt]
theorem strsOf_strs (p : Nat → ByteArray) (k : Nat) : strsOf (strs p k) = some ((List.range k).map p) := by
 have : strs p k = ((List.range k).map p).map DV.str := by simp [strs]
 rw [this]
 generalize (List.range k).map p = l
 induction l with
 | nil => rfl
 | cons a r ih => simp [strsOf, ih]
theorem join_eq (p : Nat → ByteArray) (sep : ByteArray) (k : Nat) (g : Tag) (B : Boxs) (hk : k ≤ 140737488355328) (hs : (txt p sep k).size ≤ 140737488355328) :
  callX XV 93 [.d (.sl g (strs p k)), .d (.str sep)] B = some (.d (.str (txt p sep k)), B) := by
 rw [callX_nat XV 93 _ _ joinD rfl]
 have hl : (joinL ((List.range k).map p) sep).length ≤ 140737488355328 := by rw [joinL_txt]; exact hs
 simp only [datas, Option.map_some, Option.bind_some, joinD, strsOf_strs, List.length_map, List.length_range, hk, hl, and_self, if_true, joinS_txt]
theorem app_eq (p : Nat → ByteArray) (k : Nat) (g : Tag) (hk : k ≤ 1099511627776) : xappend 1 16 (.sl U (strs p k)) (.sl g [.str (p k)]) = some (.sl U (strs p (k + 1))) := by
 have h1 : (strs p k).length = k := by simp [strs]
 have h2 : ∀ x : DV, x ∈ strs p k → x.cells.length = 1 := fun x hx => by
  simp only [strs, List.mem_map] at hx; obtain ⟨i, _, rfl⟩ := hx; rfl
 have h3 : (k + 1) * 16 ≤ 140737488355328 := by omega
 simp [xappend, h1, h3, strs_succ, isCell_str]
 exact h2
end Go.Proofs.Ytidlpcgcolcfgaa.VS
namespace Go.Proofs.Ytidlpcgcolcfgaa.VS
end Go.Proofs.Ytidlpcgcolcfgaa.VS
namespace Go.Proofs.Ytidlpcgcolcfgaa.VS
def sig0 : List SymL := [⟨⟨#[116, 116]⟩, 0, false⟩, ⟨⟨#[97]⟩, 0, false⟩, ⟨⟨#[98]⟩, 0, false⟩, ⟨⟨#[103]⟩, 1, false⟩, ⟨⟨#[104]⟩, 2, false⟩, ⟨⟨#[102]⟩, 2, true⟩, ⟨⟨#[107]⟩, 2, true⟩]
theorem l2Sig_eq : callX XV 155 [] [] = some (.d (.sl U (sig0.map SymL.enc)), []) := by
 rw [z_call XV _ _ _ v155 rfl xcode_155 rfl]
 simp [v155, r155_0, r155_1, sig0, buildRow, List.replicate, splice]
structure SigD (l : List SymL) : Prop where
 len : l.length ≤ 9
 sym : ∀ s, s ∈ l → s.name.size ≤ 9 ∧ -1 ≤ s.arity ∧ s.arity ≤ 4
theorem SigD.ok {l : List SymL} (h : SigD l) : ∀ s, s ∈ l → s.ok := fun s hs => by
 obtain ⟨h1, h2, h3⟩ := h.sym s hs
 exact ⟨by unfold maxLen; omega, by omega, by omega⟩
theorem SigD.nm {l : List SymL} (h : SigD l) (n : Nat) (hn : 9 ≤ n) : ∀ i, i < l.length → (symAt l i).name.size ≤ n := fun i hi => by
 have := (h.sym _ (symAt_mem hi)).1
 omega
theorem like_u8 (x y : Int) (r : DV) : (DV.int .u8 x).like r = (DV.int .u8 y).like r := by cases r <;> rfl
theorem fm_bytes (bs : List Int) : (bs.map (DV.int .u8)).flatMap DV.cells = bs.map (DV.int .u8) := by
 induction bs with
 | nil => rfl
 | cons b r ih => simp only [List.map_cons, List.flatMap_cons, ih, DV.cells, List.singleton_append]
theorem xrests_bytes (rs : List DV) : ∀ bs : List Int, DV.xrests rs (bs.map (.int .u8)) = true
 | [] => by simp [DV.xrests]
 | b :: r => by simp [DV.xrests, DV.xrest, xrests_bytes rs r]
theorem xrest_bytes (rs : List DV) (h : rs.all (fun r => !(DV.int .u8 0).like r) = true) (bs : List Int) : DV.xrest rs (.sl .sub (bs.map (.int .u8))) = true := by
 simp only [DV.xrest, xrests_bytes, Bool.and_true, fm_bytes]
 cases bs with
 | nil => rfl
 | cons b r =>
  have : (rs.all fun r => !(DV.int .u8 b).like r) = true := by
   rw [← h]; congr 1; funext r; rw [like_u8 b 0]
  simp [this]
theorem xrest_seed (rs : List DV) (h : rs.all (fun r => !(DV.int .u8 0).like r) = true) (bs : List Int) (pos st : Int) : cellsRest rs (seedC bs pos st) = true := by
 simp only [cellsRest, seedC, List.all_cons, List.all_nil, AV.xrest]
 rw [xrest_bytes rs h bs]
 simp only [DV.xrest, Bool.and_self]
@[simp] theorem isAgD_sym (s : SymL) : isAgD s.enc = true := rfl
@[simp] theorem xrest_sym (rs : List DV) (s : SymL) : DV.xrest rs s.enc = true := by
 show DV.xrest rs (.agg [.str s.name, .int .i64 s.arity, .bool s.ac]) = true
 simp only [DV.xrest, DV.xrests, Bool.and_self]
theorem clrs_seed (bs : List Int) (pos st : Int) : AV.clrs (seedC bs pos st) = seedC bs pos st := by simp [seedC]
theorem sig0_D : SigD sig0 := by
 refine ⟨by decide, fun s hs => ?_⟩
 simp only [sig0, List.mem_cons, List.not_mem_nil, or_false] at hs
 rcases hs with rfl | rfl | rfl | rfl | rfl | rfl | rfl <;> exact ⟨by decide, by decide, by decide⟩
end Go.Proofs.Ytidlpcgcolcfgaa.VS
namespace Go.Proofs.Ytidlpcgcolcfgaa.VS
mutual
def T.rng : T → Prop
 | .node _ v ks => (-9223372036854775808 ≤ v ∧ v ≤ 9223372036854775807) ∧ T.rngs ks
def T.rngs : List T → Prop
 | [] => True
 | t :: r => t.rng ∧ T.rngs r
end
theorem T.rngs_iff : ∀ l : List T, T.rngs l ↔ ∀ t, t ∈ l → t.rng
 | [] => by simp [T.rngs]
 | t :: r => by simp [T.rngs, T.rngs_iff r]
def commaB : ByteArray := ⟨#[44]⟩
def xB : ByteArray := ⟨#[88]⟩
def openB : ByteArray := ⟨#[40]⟩
def shutB : ByteArray := ⟨#[41]⟩
def askB : ByteArray := ⟨#[63]⟩
def symN (l : List SymL) (f : Int) : ByteArray := if symIn l f then (symAt l f.toNat).name else askB
def nthB (l : List ByteArray) (i : Nat) : ByteArray := (l[i]?).getD ByteArray.empty
mutual
def T.text (l : List SymL) : T → ByteArray
 | .node f v ks => if f = -1 then xB ++ digits v else if ks.length = 0 then symN l f else symN l f ++ openB ++ txt (nthB (T.texts l ks)) commaB ks.length ++ shutB
def T.texts (l : List SymL) : List T → List ByteArray
 | [] => []
 | t :: r => t.text l :: T.texts l r
end
theorem T.texts_map (l : List SymL) : ∀ ks : List T, T.texts l ks = ks.map (T.text l)
 | [] => by unfold T.texts; rfl
 | t :: r => by unfold T.texts; simp [T.texts_map l r]
def kidP (l : List SymL) (ks : List T) (i : Nat) : ByteArray := nthB (T.texts l ks) i
theorem kidP_lt (l : List SymL) {ks : List T} {i : Nat} (h : i < ks.length) : kidP l ks i = T.text l (tAt ks i) := by
 unfold kidP nthB; rw [T.texts_map]; simp [tAt_get h]
theorem text_node (l : List SymL) (f v : Int) (ks : List T) : T.text l (.node f v ks) = if f = -1 then xB ++ digits v else if ks.length = 0 then symN l f else symN l f ++ openB ++ txt (kidP l ks) commaB ks.length ++ shutB := by
 simp only [T.text]; rfl
theorem digits_size21 {n : Int} (h1 : -9223372036854775808 ≤ n) (h2 : n ≤ 9223372036854775807) : (digits n).size ≤ 21 := by
 have := digs_size20 (n := n.natAbs) (by omega)
 unfold digits
 split
 ·rw [ByteArray.size_append, minus_size]; omega
 ·omega
theorem symN_size (l : List SymL) (hn : ∀ i, i < l.length → (symAt l i).name.size ≤ 1048576) (f : Int) : (symN l f).size ≤ 1048576 := by
 unfold symN
 split
 ·rename_i h; exact hn _ (symIn_lt h).2
 ·have : askB.size = 1 := rfl
  omega
theorem inners_drop (ks : List T) (i : Nat) (hi : i < ks.length) : T.inners (ks.drop i) = (tAt ks i).inner + T.inners (ks.drop (i + 1)) := by
 rw [List.drop_eq_getElem_cons hi, tAt_lt hi]
 simp only [T.inners]
theorem kids_size (l : List SymL) (ks : List T) (hp : ∀ s, s ∈ ks → (T.text l s).size + 1 ≤ 1048604 * (s.inner + 1)) : ∀ k, k ≤ ks.length → (txt (kidP l ks) commaB k).size + 1048604 * (T.inners (ks.drop k) + (ks.length - k)) ≤ 1048604 * (T.inners ks + ks.length)
 | 0, _ => by simp [txt]
 | k + 1, h => by
  have ih := kids_size l ks hp k (by omega)
  have h1 := hp _ (tAt_mem (show k < ks.length by omega))
  rw [inners_drop ks k (by omega)] at ih
  have h2 : (txt (kidP l ks) commaB (k + 1)).size ≤ (txt (kidP l ks) commaB k).size + 1 + (T.text l (tAt ks k)).size := by
   have hc : commaB.size = 1 := rfl
   simp only [txt]
   rw [kidP_lt l (show k < ks.length by omega)]
   split <;> simp only [ByteArray.size_append] <;> omega
  omega
theorem text_size (l : List SymL) (hn : ∀ i, i < l.length → (symAt l i).name.size ≤ 1048576) (t : T) (hr : t.rng) : (T.text l t).size + 1 ≤ 1048604 * (t.inner + 1) := by
 match t, hr with
 | .node f v ks, hr =>
  simp only [T.rng] at hr
  have hk := kids_size l ks (fun s hs => text_size l hn s ((T.rngs_iff ks).1 hr.2 s hs)) ks.length (Nat.le_refl _)
  have hd := digits_size21 hr.1.1 hr.1.2
  have hs := symN_size l hn f
  have e1 : xB.size = 1 := rfl
  have e2 : openB.size = 1 := rfl
  have e3 : shutB.size = 1 := rfl
  have e4 : T.inners (ks.drop ks.length) = 0 := by simp [T.inners]
  rw [e4] at hk
  rw [text_node]
  simp only [T.inner]
  split
  ·simp only [ByteArray.size_append]; omega
  ·split
   ·omega
   ·simp only [ByteArray.size_append]; omega
termination_by t
decreasing_by
 simp_wf
 have := List.sizeOf_lt_of_mem hs
 omega
def boxT (f v : Int) (ks : List T) : Boxs := [some [.d (.int .i64 f), .d (.int .i64 v), .d (terms .sub ks)]]
theorem kid_size (l : List SymL) (hn : ∀ i, i < l.length → (symAt l i).name.size ≤ 1048576) (ks : List T) (hr : T.rngs ks) (hi : T.inners ks + ks.length ≤ 1048576) (k : Nat) (hk : k ≤ ks.length) : (txt (kidP l ks) commaB k).size ≤ 1099541000000 := by
 have := kids_size l ks (fun s hs => text_size l hn s ((T.rngs_iff ks).1 hr s hs)) k hk
 omega
theorem implText_of (l : List SymL) (hl : l.length ≤ 1048576) (hn : ∀ i, i < l.length → (symAt l i).name.size ≤ 1048576) (f v : Int) (ks : List T) (hv : -9223372036854775808 ≤ v ∧ v ≤ 9223372036854775807) (hr : T.rngs ks) (hi : T.inners ks + ks.length ≤ 1048576)
  (hrec : ∀ s, s ∈ ks → callX XV 92 [.d (sg l), .d (s.enc .sub)] [] = some (.d (.str (T.text l s)), [])) :
  callX XV 92 [.d (sg l), .d ((T.node f v ks).enc .sub)] [] = some (.d (.str (T.text l (.node f v ks))), []) := by
 rw [z_call XV _ _ _ v92 rfl xcode_92 rfl, text_node]
 have hiv := isVar_eq (.node f v ks)
 rw [T.f_node] at hiv
 have hd := implDigits_eq v hv.1 hv.2
 have hds := digits_size21 hv.1 hv.2
 have e1 : xB.size = 1 := rfl
 have e2 : openB.size = 1 := rfl
 have e3 : shutB.size = 1 := rfl
 by_cases c1 : f = -1
 ·rw [if_pos c1]
  have b1 : (f == -1) = true := by simp [c1]
  rw [b1] at hiv
  have a1 : evBin .add (.str ⟨#[88]⟩) (.str (digits v)) = some (.str (xB ++ digits v)) := evBin_cat (a := xB) (by omega)
  simp [v92, r92_0, r92_1, r92_2, r92_3, r92_4, r92_5, r92_6, r92_7, r92_8, r92_9, r92_10, r92_11, r92_12, r92_13, r92_14, splice, loadBox, isCell_int, isCell_sl, isCellA_d, safe_d, hiv, hd, a1]
 rw [if_neg c1]
 have b1 : (f == -1) = false := by simp [c1]
 rw [b1] at hiv
 have hsy := isSym_eq l (by omega) f
 have hnm : symN l f = if symIn l f then (symAt l f.toNat).name else askB := rfl
 have hns := symN_size l hn f
 have h := loopX_upto (X := XV) (T := XV.lin 92) (L := 1) (live := [0, 5, 6, 32, 33, 34]) (b := b92_0) (n := ks.length) (γ := Unit) (st := fun (_ : Unit) i => ⟨[(0, .d (sg l)), (5, .d (.str (symN l f))), (6, .d (.sl U (strs (kidP l ks) i))), (32, .d (terms .sub ks)), (33, .d (.int .i64 ks.length)), (34, .d (.int .i64 i))], boxT f v ks⟩) (step := fun _ _ => .inl ())
  (F := fun _ => (.exit 0, ⟨[(0, .d (sg l)), (5, .d (.str (symN l f))), (6, .d (.sl U (strs (kidP l ks) ks.length))), (32, .d (terms .sub ks)), (33, .d (.int .i64 ks.length)), (34, .d (.int .i64 ks.length)), (35, .d (.bool false))], boxT f v ks⟩)) (R := fun _ => (.ret, ⟨[], []⟩))
  (fun _ => ⟨by simp, by simp [b92_0, r92_0, r92_1, r92_2, r92_3, r92_4, r92_5, r92_6, r92_7, r92_8, r92_9, r92_10, r92_11, r92_12, r92_13, r92_14]⟩)
  (fun _ i hi => by
   have hw := wrap_succ (n := i) (by omega)
   have hc := hrec _ (tAt_mem hi)
   have ha := fun g => app_eq (kidP l ks) i g (by omega)
   simp only [kidP_lt l hi] at ha
   unfold boxT
   refine ⟨_, by simp [b92_0, r92_0, r92_1, r92_2, r92_3, r92_4, r92_5, r92_6, r92_7, r92_8, r92_9, r92_10, r92_11, r92_12, r92_13, r92_14, splice, loadBox, isCell_int, isCell_sl, isCellA_d, safe_d, hi, hw, cut, tAt_lt hi, hc, ha, buildRow, List.replicate]; rfl, by simp [xheadOf, safeRegs]⟩)
  ks.length () 0 ⟨[(0, .d (sg l)), (5, .d (.str (symN l f))), (6, .d (.sl U [])), (32, .d (terms .sub ks)), (33, .d (.int .i64 ks.length)), (34, .d (.int .i64 0))], boxT f v ks⟩ (by omega) (by simp [xheadOf, safeRegs, strs, boxT])
 rw [run_on] at h
 simp only [lin_92, boxT] at h
 have hks := kid_size l hn ks hr hi ks.length (Nat.le_refl _)
 have hj0 : ∀ B, callX XV 93 [.d (.sl .sub (strs (kidP l ks) ks.length)), .d (.str ⟨#[44]⟩)] B = some (.d (.str (txt (kidP l ks) commaB ks.length)), B) := fun B => join_eq (kidP l ks) commaB ks.length .sub B (by omega) (by omega)
 have a1 : evBin .add (.str (symN l f)) (.str ⟨#[40]⟩) = some (.str (symN l f ++ openB)) := evBin_cat (b := openB) (by omega)
 have a2 : evBin .add (.str (symN l f ++ openB)) (.str (txt (kidP l ks) commaB ks.length)) = some (.str (symN l f ++ openB ++ txt (kidP l ks) commaB ks.length)) := evBin_cat (by simp only [ByteArray.size_append]; omega)
 have a3 : evBin .add (.str (symN l f ++ openB ++ txt (kidP l ks) commaB ks.length)) (.str ⟨#[41]⟩) = some (.str (symN l f ++ openB ++ txt (kidP l ks) commaB ks.length ++ shutB)) := evBin_cat (b := shutB) (by simp only [ByteArray.size_append]; omega)
 have key : ∀ nm, nm = symN l f → (symIn l f = true → nm = (symAt l f.toNat).name) := fun nm h h' => by rw [h, hnm, if_pos h']
 by_cases c3 : ks.length = 0
 ·rw [if_pos c3]
  have b3 : ((ks.length : Int) == 0) = true := by simp [c3]
  cases c2 : symIn l f with
  | true =>
   have hlt := symIn_lt c2
   have hn1 : (symAt l f.toNat).name = symN l f := by rw [hnm, if_pos c2]
   rw [c2] at hsy
   simp [v92, r92_0, r92_1, r92_2, r92_3, r92_4, r92_5, r92_6, r92_7, r92_8, r92_9, r92_10, r92_11, r92_12, r92_13, r92_14, splice, loadBox, isCell_int, isCell_sl, isCellA_d, safe_d, hiv, hsy, hlt, symAt_lt hlt.2, cut, hn1, c3]
  | false =>
   have hn1 : symN l f = ⟨#[63]⟩ := by rw [hnm, c2]; rfl
   rw [c2] at hsy
   simp [v92, r92_0, r92_1, r92_2, r92_3, r92_4, r92_5, r92_6, r92_7, r92_8, r92_9, r92_10, r92_11, r92_12, r92_13, r92_14, splice, loadBox, isCell_int, isCell_sl, isCellA_d, safe_d, hiv, hsy, hn1, c3]
 ·rw [if_neg c3]
  have b3 : ((ks.length : Int) == 0) = false := beq_eq_false_iff_ne.2 (by omega)
  cases c2 : symIn l f with
  | true =>
   have hlt := symIn_lt c2
   have hn1 : (symAt l f.toNat).name = symN l f := by rw [hnm, if_pos c2]
   rw [c2] at hsy
   simp [v92, r92_0, r92_1, r92_2, r92_3, r92_4, r92_5, r92_6, r92_7, r92_8, r92_9, splice, loadBox, isCell_int, isCell_sl, isCellA_d, safe_d, hiv, hsy, hlt, symAt_lt hlt.2, cut, hn1, b3, buildRow, List.replicate]
   rw [h]
   simp [r92_14, hj0, a1, a2, a3]
  | false =>
   have hn1 : symN l f = ⟨#[63]⟩ := by rw [hnm, c2]; rfl
   rw [c2] at hsy
   rw [hn1] at h a1 a2 a3 ⊢
   simp [v92, r92_0, r92_1, r92_2, r92_3, r92_4, r92_5, r92_6, r92_7, r92_8, r92_9, splice, loadBox, isCell_int, isCell_sl, isCellA_d, safe_d, hiv, hsy, b3, buildRow, List.replicate]
   rw [h]
   simp [r92_14, hj0, a1, a2, a3]
theorem implText_eq (l : List SymL) (hl : l.length ≤ 1048576) (hn : ∀ i, i < l.length → (symAt l i).name.size ≤ 1048576) (t : T) (ht : t.inner ≤ 1048576) (hr : t.rng) : callX XV 92 [.d (sg l), .d (t.enc .sub)] [] = some (.d (.str (T.text l t)), []) := by
 match t, ht, hr with
 | .node f v ks, ht, hr =>
  simp only [T.inner] at ht
  simp only [T.rng] at hr
  exact implText_of l hl hn f v ks hr.1 hr.2 (by omega) (fun s h => implText_eq l hl hn s (by have := T.inners_mem h; omega) ((T.rngs_iff ks).1 hr.2 s h))
termination_by t
decreasing_by
 simp_wf
 have := List.sizeOf_lt_of_mem h
 omega
def stepY (p : Nat → ByteArray) (s : ByteArray) (i : Nat) : ByteArray ⊕ Unit := .inl (s ++ (if 0 < i then commaB else openB) ++ p i)
def txtO (nm : ByteArray) (p : Nat → ByteArray) (k : Nat) : ByteArray := if 0 < k then nm ++ openB ++ txt p commaB k else nm
theorem runY (nm : ByteArray) (p : Nat → ByteArray) : ∀ (k i : Nat), runN (stepY p) k (txtO nm p i) i = .inl (txtO nm p (i + k))
 | 0, i => rfl
 | k + 1, i => by
  simp only [runN, stepY]
  have h := runY nm p k (i + 1)
  rw [show i + 1 + k = i + (k + 1) by omega] at h
  rw [← h]
  congr 1
  unfold txtO
  by_cases c : 0 < i
  ·simp only [c, if_true, Nat.succ_pos, txt, ByteArray.append_assoc]
  ·obtain rfl : i = 0 := by omega
   simp [txt, ByteArray.append_assoc]
theorem txtO_step (nm : ByteArray) (p : Nat → ByteArray) (i : Nat) : txtO nm p (i + 1) = txtO nm p i ++ (if 0 < i then commaB else openB) ++ p i := by
 unfold txtO
 by_cases c : 0 < i
 ·simp only [c, if_true, Nat.succ_pos, txt, ByteArray.append_assoc]
 ·obtain rfl : i = 0 := by omega
  simp [txt, ByteArray.append_assoc]
theorem specText_of (l : List SymL) (hl : l.length ≤ 1048576) (hn : ∀ i, i < l.length → (symAt l i).name.size ≤ 1048576) (f v : Int) (ks : List T) (hv : -9223372036854775808 ≤ v ∧ v ≤ 9223372036854775807) (hr : T.rngs ks) (hi : T.inners ks + ks.length ≤ 1048576)
  (hrec : ∀ s, s ∈ ks → callX XV 98 [.d (sg l), .d (s.enc .sub)] [] = some (.d (.str (T.text l s)), [])) :
  callX XV 98 [.d (sg l), .d ((T.node f v ks).enc .sub)] [] = some (.d (.str (T.text l (.node f v ks))), []) := by
 rw [z_call XV _ _ _ v98 rfl xcode_98 rfl, text_node]
 have hd := specDigits_eq v hv.1 hv.2
 have hds := digits_size21 hv.1 hv.2
 have e1 : xB.size = 1 := rfl
 have e2 : openB.size = 1 := rfl
 have e3 : shutB.size = 1 := rfl
 have e4 : commaB.size = 1 := rfl
 by_cases c1 : f = -1
 ·rw [if_pos c1]
  have a1 : evBin .add (.str ⟨#[88]⟩) (.str (digits v)) = some (.str (xB ++ digits v)) := evBin_cat (a := xB) (by omega)
  simp [v98, r98_0, r98_1, r98_2, r98_3, r98_4, r98_5, r98_6, r98_7, r98_9, r98_10, r98_11, r98_12, r98_8, r98_13, r98_14, r98_15, splice, loadBox, isCell_int, isCell_sl, isCellA_d, safe_d, c1, hd, a1]
 rw [if_neg c1]
 have b1 : (f == -1) = false := by simp [c1]
 have hw1 : IntKind.i64.wrap ((l.length : Int) - 1) = (l.length : Int) - 1 := wrap_i64 (by omega) (by omega)
 have hsy := l1In_eq f 0 ((l.length : Int) - 1)
 change _ = some (AV.d (.bool (symIn l f)), []) at hsy
 have hnm : symN l f = if symIn l f then (symAt l f.toNat).name else askB := rfl
 have hns := symN_size l hn f
 have hszO : ∀ k, k ≤ ks.length → (txtO (symN l f) (kidP l ks) k).size ≤ 1099542100000 := fun k hk => by
  have := kid_size l hn ks hr hi k hk
  unfold txtO
  split
  ·simp only [ByteArray.size_append]; omega
  ·omega
 have h := loopX_inv (X := XV) (T := XV.lin 98) (L := 1) (live := [0, 3, 5, 6]) (b := b98_0) (n := ks.length) (γ := Unit) (st := fun (s : ByteArray) i => ⟨[(0, .d (sg l)), (3, .ptr 0 0), (5, .d (.str s)), (6, .d (.int .i64 i))], boxT f v ks⟩) (step := stepY (kidP l ks))
  (F := fun s => (.exit 0, ⟨[(0, .d (sg l)), (3, .ptr 0 0), (5, .d (.str s)), (6, .d (.int .i64 ks.length)), (30, .d (.bool false))], boxT f v ks⟩)) (R := fun _ => (.ret, ⟨[], []⟩))
  (fun s i => s = txtO (symN l f) (kidP l ks) i)
  (fun _ _ => ⟨by simp, by simp [b98_0, r98_0, r98_1, r98_2, r98_3, r98_4, r98_5, r98_6, r98_7, r98_9, r98_10, r98_11, r98_12, r98_8, r98_13, r98_14, r98_15, boxT]⟩)
  (fun s i hi hs => by
   subst hs
   have hw := wrap_succ (n := i) (by omega)
   have hc := hrec _ (tAt_mem hi)
   have hz := hszO i (by omega)
   have hts := text_size l hn (tAt ks i) ((T.rngs_iff ks).1 hr _ (tAt_mem hi))
   have hti := T.inners_mem (tAt_mem hi)
   refine ⟨?_, fun a' h => by simp only [stepY, Sum.inl.injEq] at h; rw [← h, txtO_step]⟩
   unfold stepY boxT
   rw [kidP_lt l hi]
   generalize txtO (symN l f) (kidP l ks) i = t0 at *
   by_cases c0 : 0 < i
   ·have c0' : ((i : Int) == 0) = false := beq_eq_false_iff_ne.2 (by omega)
    have a1 : evBin .add (.str t0) (.str ⟨#[44]⟩) = some (.str (t0 ++ commaB)) := evBin_cat (b := commaB) (by omega)
    have a2 : evBin .add (.str (t0 ++ commaB)) (.str (T.text l (tAt ks i))) = some (.str (t0 ++ commaB ++ T.text l (tAt ks i))) := evBin_cat (by simp only [ByteArray.size_append]; omega)
    rw [if_pos c0]
    refine ⟨_, by simp [b98_0, r98_0, r98_1, r98_2, r98_3, r98_4, r98_5, r98_6, r98_7, r98_9, r98_10, r98_11, r98_12, r98_8, r98_13, r98_14, r98_15, splice, loadBox, isCell_int, isCell_sl, isCellA_d, safe_d, hi, hw, cut, tAt_lt hi, hc, c0', a1, a2]; rfl, by simp [xheadOf, safeRegs]⟩
   ·have c0' : ((i : Int) == 0) = true := by simp; omega
    have a1 : evBin .add (.str t0) (.str ⟨#[40]⟩) = some (.str (t0 ++ openB)) := evBin_cat (b := openB) (by omega)
    have a2 : evBin .add (.str (t0 ++ openB)) (.str (T.text l (tAt ks i))) = some (.str (t0 ++ openB ++ T.text l (tAt ks i))) := evBin_cat (by simp only [ByteArray.size_append]; omega)
    rw [if_neg c0]
    refine ⟨_, by simp [b98_0, r98_0, r98_1, r98_2, r98_3, r98_4, r98_5, r98_6, r98_7, r98_9, r98_10, r98_11, r98_12, r98_8, r98_13, r98_14, r98_15, splice, loadBox, isCell_int, isCell_sl, isCellA_d, safe_d, hi, hw, cut, tAt_lt hi, hc, c0', a1, a2]; rfl, by simp [xheadOf, safeRegs]⟩)
  ks.length (symN l f) 0 ⟨[(0, .d (sg l)), (3, .ptr 0 0), (5, .d (.str (symN l f))), (6, .d (.int .i64 0))], boxT f v ks⟩ (by omega) rfl (by simp [xheadOf, safeRegs, boxT])
 have hr2 := runY (symN l f) (kidP l ks) ks.length 0
 rw [Nat.zero_add, show txtO (symN l f) (kidP l ks) 0 = symN l f from rfl] at hr2
 rw [hr2] at h
 simp only [lin_98, boxT] at h
 have hz := hszO ks.length (Nat.le_refl _)
 have a3 : evBin .add (.str (txtO (symN l f) (kidP l ks) ks.length)) (.str ⟨#[41]⟩) = some (.str (txtO (symN l f) (kidP l ks) ks.length ++ shutB)) := evBin_cat (b := shutB) (by omega)
 have fin : (if ks.length = 0 then symN l f else symN l f ++ openB ++ txt (kidP l ks) commaB ks.length ++ shutB) = if 0 < ks.length then txtO (symN l f) (kidP l ks) ks.length ++ shutB else txtO (symN l f) (kidP l ks) ks.length := by
  unfold txtO
  by_cases c : ks.length = 0
  ·simp [c]
  ·have c' : 0 < ks.length := by omega
   simp only [c, c', if_false, if_true]
 rw [fin]
 generalize txtO (symN l f) (kidP l ks) ks.length = tt at *
 cases c2 : symIn l f with
 | true =>
  have hlt := symIn_lt c2
  have hn1 : (symAt l f.toNat).name = symN l f := by rw [hnm, if_pos c2]
  rw [c2] at hsy
  simp [v98, r98_0, r98_1, r98_2, r98_3, r98_4, r98_5, r98_6, splice, loadBox, isCell_int, isCell_sl, isCellA_d, safe_d, b1, hw1, hsy, hlt, symAt_lt hlt.2, cut, hn1]
  rw [h]
  by_cases c3 : 0 < ks.length
  ·simp [r98_13, r98_14, r98_15, c3, a3]
  ·simp [r98_13, r98_14, r98_15, c3]
 | false =>
  have hn1 : symN l f = ⟨#[63]⟩ := by rw [hnm, c2]; rfl
  rw [c2] at hsy
  rw [hn1] at h
  simp [v98, r98_0, r98_1, r98_2, r98_3, r98_4, r98_5, r98_6, splice, loadBox, isCell_int, isCell_sl, isCellA_d, safe_d, b1, hw1, hsy, cut]
  rw [h]
  by_cases c3 : 0 < ks.length
  ·simp [r98_13, r98_14, r98_15, c3, a3]
  ·simp [r98_13, r98_14, r98_15, c3]
theorem specText_eq (l : List SymL) (hl : l.length ≤ 1048576) (hn : ∀ i, i < l.length → (symAt l i).name.size ≤ 1048576) (t : T) (ht : t.inner ≤ 1048576) (hr : t.rng) : callX XV 98 [.d (sg l), .d (t.enc .sub)] [] = some (.d (.str (T.text l t)), []) := by
 match t, ht, hr with
 | .node f v ks, ht, hr =>
  simp only [T.inner] at ht
  simp only [T.rng] at hr
  exact specText_of l hl hn f v ks hr.1 hr.2 (by omega) (fun s h => specText_eq l hl hn s (by have := T.inners_mem h; omega) ((T.rngs_iff ks).1 hr.2 s h))
termination_by t
decreasing_by
 simp_wf
 have := List.sizeOf_lt_of_mem h
 omega
end Go.Proofs.Ytidlpcgcolcfgaa.VS
namespace Go.Proofs.Ytidlpcgcolcfgaa.VS
theorem turned_app {bs : List Int} {q : Nat} {B R B' : Boxs} (hq : q < B.length) (h : Turned bs q (B ++ R) B') : ∃ B1, Turned bs q B B1 ∧ B1.length = B.length ∧ B' = B1 ++ R := by
 obtain ⟨pos, st, hp, rfl⟩ := h
 exact ⟨B.set q (some (seedC bs pos st)), ⟨pos, st, hp, rfl⟩, by simp, by rw [List.set_append_left _ _ hq]⟩
theorem SeedAt.app {bs : List Int} {q : Nat} {B : Boxs} (h : SeedAt bs q B) (R : Boxs) : SeedAt bs q (B ++ R) := by
 have hq := h.lt
 obtain ⟨pos, st, hp, hb⟩ := h
 exact ⟨pos, st, hp, by have := bget_iff hb; simp [bget, List.getElem?_append_left hq, this]⟩
theorem bx_get (A : Boxs) (c : Option (List AV)) (L : Nat) (h : A.length = L) : (A ++ [c])[L]? = some c := by subst h; simp
theorem bx_set (A : Boxs) (c c' : Option (List AV)) (L : Nat) (h : A.length = L) : (A ++ [c]).set L c' = A ++ [c'] := by subst h; simp
theorem bx_take (A : Boxs) (c : Option (List AV)) (L : Nat) (h : A.length = L) : (A ++ [c]).take L = A := by subst h; simp
theorem once_at (bs : List Int) (hl : bs.length ≤ 1099511627776) (B : Boxs) (i : Nat) (h : SeedAt bs i B) (n : Int) (hn : 0 < n) (hn2 : n ≤ 256) : ∃ (b : Bool) (B' : Boxs), Turned bs i B B' ∧ callX XV 162 [.ptr i 0, .d (.int .i64 n)] B = some (.d (.bool b), B') := by
 obtain ⟨r, B', hr, hT, hc⟩ := l1Below_at bs hl B i h n hn hn2
 have hi := h.lt
 have hlen := hT.len
 have htake : List.take B.length B' = B' := List.take_of_length_le (by omega)
 refine ⟨r == 0, B', hT, ?_⟩
 rw [z_call XV _ _ _ v162 rfl xcode_162 rfl]
 simp [v162, r162_0, r162_1, hc, htake, hi]
theorem l3OfU_eq (f : Int) (ks : List T) : callX XV 164 [.d (.int .i64 f), .d (terms .sub ks)] [] = some (.d ((T.node f 0 ks).enc .sub), []) := by
 rw [z_call XV _ _ _ v164 rfl xcode_164 rfl]
 simp [v164, r164_0, r164_1, splice, isCell_int, isCell_sl, isCellA_d, safe_d, loadBox]
theorem wrap_pred {n : Nat} (h : n < 9223372036854775808) : IntKind.i64.wrap (((n + 1 : Nat) : Int) - 1) = n := by
 rw [show ((n + 1 : Nat) : Int) - 1 = n by omega]; exact wrap_i64 (by omega) (by omega)
def leaf166 : VCode := (.seq (.seq (.region false 0 [0, 2, 6, 20] r166_2) (.cond (.t 20) (.seq (.region false 0 [6] r166_3) .ret) .skip)) (.seq (.region false 0 [6] r166_4) .ret))
def deep166 : VCode := (.seq (.region false 0 [0, 1, 2, 6, 7] r166_5) (.seq (.region false 0 [0, 1, 2, 6, 7, 8] r166_6) (.seq (.seq (.region false 0 [0, 1, 2, 6, 7, 8, 39] r166_7) (.cond (.t 39) (.region false 0 [6, 7, 8] r166_8) .skip)) (.seq (.region false 0 [6] r166_9) .ret))))
def body166 : VCode := .seq (.seq (.region false 0 [0, 1, 2, 6, 14] r166_1) (.cond (.t 14) leaf166 .skip)) deep166
theorem v166_eq : v166 = ⟨3, [.cell 6 true 3], .seq (.region false 1 [0, 1, 2, 6] r166_0) body166⟩ := rfl
theorem drawLeaf (bs : List Int) (hl : bs.length ≤ 1099511627776) (deep vars : Int) (hv : vars ≤ 256) (B : Boxs) (q : Nat) (h : SeedAt bs q B) (L : Nat) (hL : B.length = L) (C : Option (List AV)) (hC : C = some [.d (.int .i64 0), .d (.int .i64 0), .d (.sl U [])]) :
  ∃ (t : T) (g : Tag) (B' : Boxs), (t.inner = 0 ∧ t.rng) ∧ Turned bs q B B' ∧ B'.length = L ∧
   codeX XV (XV.lin 166) leaf166 ⟨[(0, .ptr q 0), (1, .d (.int .i64 deep)), (2, .d (.int .i64 vars)), (6, .ptr L 0), (14, .d (.bool true))], B ++ [C]⟩ =
    some (.ret, ⟨[(6, .ptr L 0)], B' ++ [some [.d (.int .i64 t.f), .d (.int .i64 t.v), .d (.sl g (t.kids.map (T.enc g)))]]⟩) := by
 subst hC
 have hq := h.lt
 have leaf2 : ∀ B1 : Boxs, Turned bs q B B1 → B1.length = L → ∃ (t : T) (g : Tag) (B' : Boxs), (t.inner = 0 ∧ t.rng) ∧ Turned bs q B B' ∧ B'.length = L ∧
   ∀ b20 : AV, codeX XV (XV.lin 166) (.seq (.region false 0 [6] r166_4) .ret) ⟨[(0, .ptr q 0), (2, .d (.int .i64 vars)), (6, .ptr L 0), (20, b20)], B1 ++ [some [.d (.int .i64 0), .d (.int .i64 0), .d (.sl U [])]]⟩ =
    some (.ret, ⟨[(6, .ptr L 0)], B' ++ [some [.d (.int .i64 t.f), .d (.int .i64 t.v), .d (.sl g (t.kids.map (T.enc g)))]]⟩) := by
  intro B1 hT1 hL1
  obtain ⟨r, B2, hr, hT2, hc⟩ := l1Below_at bs hl _ q ((hT1.at hq).app [some [.d (.int .i64 0), .d (.int .i64 0), .d (.sl U [])]]) 2 (by omega) (by omega)
  obtain ⟨B3, hT3, hL3, rfl⟩ := turned_app (by omega) hT2
  rw [hL1] at hL3
  have hw : IntKind.i64.wrap (1 + r) = 1 + r := wrap_i64 (by omega) (by omega)
  refine ⟨.node (1 + r) 0 [], U, B3, by simp [T.inner, T.inners, T.rng, T.rngs], hT1.trans hT3, hL3, fun b20 => ?_⟩
  simp [r166_4, hc, hw, hL3, bx_get, bx_set, splice, isCell_int, isCell_sl, isCellA_d, safe_d]
 by_cases hv0 : 0 < vars
 ·obtain ⟨b, B2, hT2, hc⟩ := once_at bs hl _ q (h.app [some [.d (.int .i64 0), .d (.int .i64 0), .d (.sl U [])]]) 2 (by omega) (by omega)
  obtain ⟨B3, hT3, hL3, rfl⟩ := turned_app hq hT2
  cases b with
  | true =>
   obtain ⟨r, B4, hr, hT4, hc4⟩ := l1Below_at bs hl _ q ((hT3.at hq).app [some [.d (.int .i64 0), .d (.int .i64 0), .d (.sl U [])]]) vars hv0 hv
   obtain ⟨B5, hT5, hL5, rfl⟩ := turned_app (by omega) hT4
   have hlv := l3Var_eq r
   rw [hL3, hL] at hL5
   refine ⟨.node (-1) r [], U, B5, by simp [T.inner, T.inners, T.rng, T.rngs]; omega, hT3.trans hT5, hL5, ?_⟩
   simp [leaf166, r166_2, r166_3, hv0, hc, hc4, hlv, hL5, bx_get, bx_set, splice, isCell_int, isCell_sl, isCellA_d, safe_d]
  | false =>
   obtain ⟨t, g, B', h1, h2, h3, h4⟩ := leaf2 B3 hT3 (by omega)
   refine ⟨t, g, B', h1, h2, h3, ?_⟩
   have h4' := h4 (.d (.bool false))
   simp only [lin_166] at h4'
   simp [leaf166, r166_2, hv0, hc]
   simpa using h4'
 ·obtain ⟨t, g, B', h1, h2, h3, h4⟩ := leaf2 B (by
   obtain ⟨pos, st, hp, hb⟩ := h
   refine ⟨pos, st, hp, ?_⟩
   apply List.ext_getElem?
   intro j
   by_cases hj : q = j
   ·subst hj; rw [List.getElem?_set_self', bget_iff hb]; simp
   ·rw [List.getElem?_set_ne hj]) hL
  refine ⟨t, g, B', h1, h2, h3, ?_⟩
  have h4' := h4 (.d (.bool false))
  simp only [lin_166] at h4'
  simp [leaf166, r166_2, hv0]
  simpa using h4'
theorem body_fin (L : Nat) (B B' : Boxs) (q : Nat) (deep vars : Int) (t : T) (g : Tag) (hq : q < B.length) (hL : B.length = L) (hL' : B'.length = L)
  (h : codeX XV (XV.lin 166) body166 ⟨[(0, .ptr q 0), (1, .d (.int .i64 deep)), (2, .d (.int .i64 vars)), (6, .ptr L 0)], B ++ [some [.d (.int .i64 0), .d (.int .i64 0), .d (.sl U [])]]⟩ =
    some (.ret, ⟨[(6, .ptr L 0)], B' ++ [some [.d (.int .i64 t.f), .d (.int .i64 t.v), .d (.sl g (t.kids.map (T.enc g)))]]⟩)) :
  callX XV 166 [.ptr q 0, .d (.int .i64 deep), .d (.int .i64 vars)] B = some (.d (t.enc g), B') := by
 rw [z_call XV _ _ _ v166 rfl xcode_166 rfl, v166_eq]
 simp only [lin_166] at h
 obtain ⟨f, v, ks⟩ := t
 simp only [T.f_node, T.v_node, T.kids_node] at h
 simp [r166_0, hL, bx_get, bx_set, hq]
 rw [h]
 simp [hL', bx_get, bx_take, loadBox]
theorem drawDeep_at (bs : List Int) (hl : bs.length ≤ 1099511627776) : ∀ (d : Nat), d ≤ 8 → ∀ (vars : Int), vars ≤ 256 → ∀ (B : Boxs) (q : Nat), SeedAt bs q B →
  ∃ (t : T) (g : Tag) (B' : Boxs), (t.inner + 2 ≤ 2 ^ (d + 1) ∧ t.rng) ∧ Turned bs q B B' ∧ callX XV 166 [.ptr q 0, .d (.int .i64 d), .d (.int .i64 vars)] B = some (.d (t.enc g), B') := by
 intro d
 induction d with
 | zero =>
  intro _ vars hv B q hs
  obtain ⟨t, g, B', h1, h2, h3, h4⟩ := drawLeaf bs hl 0 vars hv B q hs B.length rfl _ rfl
  refine ⟨t, g, B', ⟨by omega, h1.2⟩, h2, body_fin B.length B B' q 0 vars t g hs.lt rfl h3 ?_⟩
  simp only [lin_166] at h4 ⊢
  simp [body166, r166_1]
  rw [h4]
  simp
 | succ d ih =>
  intro hd vars hv B q hs
  have hq := hs.lt
  obtain ⟨b, B2, hT2, hc⟩ := once_at bs hl _ q (hs.app [some [.d (.int .i64 0), .d (.int .i64 0), .d (.sl U [])]]) 3 (by omega) (by omega)
  obtain ⟨B3, hT3, hL3, rfl⟩ := turned_app hq hT2
  have hne : (((d + 1 : Nat) : Int) == 0) = false := by simpa using (show ¬ (((d + 1 : Nat) : Int) = 0) by omega)
  cases b with
  | true =>
   obtain ⟨t, g, B', h1, h2, h3, h4⟩ := drawLeaf bs hl ((d + 1 : Nat) : Int) vars hv B3 q (hT3.at hq) B.length hL3 _ rfl
   refine ⟨t, g, B', ⟨by have : 2 ^ 1 ≤ 2 ^ (d + 1 + 1) := Nat.pow_le_pow_right (by omega) (by omega); omega, h1.2⟩, hT3.trans h2, body_fin B.length B B' q _ vars t g hq rfl h3 ?_⟩
   simp only [lin_166] at h4 ⊢
   generalize ((d + 1 : Nat) : Int) = D at *
   simp [body166, r166_1, hne, hc]
   rw [h4]
   simp
  | false =>
   obtain ⟨j, hj, B4, hT4, hc4⟩ := l1PickInt_at bs hl _ q ((hT3.at hq).app [some [.d (.int .i64 0), .d (.int .i64 0), .d (.sl U [])]]) [3, 4, 5, 5, 6] (by simp) (by simp)
   obtain ⟨B5, hT5, hL5, rfl⟩ := turned_app (by omega) hT4
   generalize ([3, 4, 5, 5, 6] : List Int)[j] = f at hc4
   obtain ⟨t1, g1, B6, hi1, hT6, hc6⟩ := ih (by omega) vars hv _ q ((hT5.at (by omega)).app [some [.d (.int .i64 0), .d (.int .i64 0), .d (.sl U [])]])
   obtain ⟨B7, hT7, hL7, rfl⟩ := turned_app (by omega) hT6
   have hw := wrap_pred (n := d) (by omega)
   by_cases hf : 3 < f
   ·obtain ⟨t2, g2, B8, hi2, hT8, hc8⟩ := ih (by omega) vars hv _ q ((hT7.at (by omega)).app [some [.d (.int .i64 0), .d (.int .i64 0), .d (.sl U [])]])
    obtain ⟨B9, hT9, hL9, rfl⟩ := turned_app (by omega) hT8
    have hof : callX XV 164 [.d (.int .i64 f), .d (.sl .sub [t1.enc .sub, t2.enc .sub])] [] = some (.d (.agg [.int .i64 f, .int .i64 0, .sl .sub [t1.enc .sub, t2.enc .sub]]), []) := by
     have := l3OfU_eq f [t1, t2]
     rw [T.enc_eq] at this
     exact this
    refine ⟨.node f 0 [t1, t2], .sub, B9, ⟨by simp only [T.inner, T.inners, List.length_cons, List.length_nil]; rw [Nat.pow_succ]; omega, by simp [T.rng, T.rngs, hi1.2, hi2.2]⟩, hT3.trans (hT5.trans (hT7.trans hT9)), body_fin B.length B B9 q _ vars _ .sub hq rfl (by omega) ?_⟩
    have e9 : B9.length = B.length := by omega
    have e7 : B7.length = B.length := by omega
    have e5 : B5.length = B.length := by omega
    simp only [List.map_cons, List.map_nil] at hc4
    generalize ((d + 1 : Nat) : Int) = D at *
    generalize (d : Int) = D0 at *
    simp [body166, deep166, r166_1, r166_5, r166_6, r166_7, r166_8, r166_9, hne, hc, hc4, hw, hc6, hf, hc8, hof, e9, buildRow, List.replicate, bx_get, bx_set, splice, isCell_int, isCell_sl, isCellA_d, safe_d, xappend]
   ·have hof : callX XV 164 [.d (.int .i64 f), .d (.sl .sub [t1.enc .sub])] [] = some (.d (.agg [.int .i64 f, .int .i64 0, .sl .sub [t1.enc .sub]]), []) := by
     have := l3OfU_eq f [t1]
     rw [T.enc_eq] at this
     exact this
    refine ⟨.node f 0 [t1], .sub, B7, ⟨by simp only [T.inner, T.inners, List.length_cons, List.length_nil]; rw [Nat.pow_succ]; omega, by simp [T.rng, T.rngs, hi1.2]⟩, hT3.trans (hT5.trans hT7), body_fin B.length B B7 q _ vars _ .sub hq rfl (by omega) ?_⟩
    have e7 : B7.length = B.length := by omega
    have e5 : B5.length = B.length := by omega
    simp only [List.map_cons, List.map_nil] at hc4
    generalize ((d + 1 : Nat) : Int) = D at *
    generalize (d : Int) = D0 at *
    simp [body166, deep166, r166_1, r166_5, r166_6, r166_7, r166_8, r166_9, hne, hc, hc4, hw, hc6, hf, hof, e7, buildRow, List.replicate, bx_get, bx_set, splice, isCell_int, isCell_sl, isCellA_d, safe_d, xappend]
end Go.Proofs.Ytidlpcgcolcfgaa.VS
namespace Go.Proofs.Ytidlpcgcolcfgaa.VS
theorem appK_rng (s : List SymL) (f : Int) (k : T) (h : k.rng) : T.rngs (appK s f k) := by
 unfold appK
 split
 ·obtain ⟨a, b, c⟩ := k; exact h.2
 ·exact ⟨h, trivial⟩
theorem rngs_app {a b : List T} (h1 : T.rngs a) (h2 : T.rngs b) : T.rngs (a ++ b) := by
 rw [T.rngs_iff] at *
 intro t ht
 rcases List.mem_append.1 ht with h | h
 ·exact h1 t h
 ·exact h2 t h
theorem flatK_rng (s : List SymL) (f : Int) : ∀ l : List T, T.rngs l → T.rngs (flatK s f l)
 | [], _ => by simp [flatK, T.rngs]
 | k :: l, h => by rw [flatK_cons]; exact rngs_app (appK_rng s f k h.1) (flatK_rng s f l h.2)
mutual
theorem norm_rng (s : List SymL) : ∀ t : T, t.rng → (t.norm s).rng
 | .node f v ks, h => by
  have h2 := flatK_rng s f _ (norms_rng s ks h.2)
  simp only [T.norm]
  split
  ·refine ⟨h.1, ?_⟩
   rw [T.rngs_iff] at h2 ⊢
   exact fun t ht => h2 t ((isort_perm _).mem_iff.1 ht)
  ·exact ⟨h.1, h2⟩
theorem norms_rng (s : List SymL) : ∀ l : List T, T.rngs l → T.rngs (T.norms s l)
 | [], _ => trivial
 | t :: r, h => ⟨norm_rng s t h.1, norms_rng s r h.2⟩
end
theorem drawRight_at (bs : List Int) (hl : bs.length ≤ 1099511627776) (vars : Int) (hv : vars ≤ 256) (B : Boxs) (q : Nat) (h : SeedAt bs q B) :
  ∃ (t : T) (B' : Boxs), (t.inner ≤ 6 ∧ t.rng) ∧ (∃ u, t = T.norm sig0 u) ∧ Turned bs q B B' ∧ callX XV 163 [.ptr q 0, .d (.int .i64 vars)] B = some (.d (t.enc U), B') := by
 have hq := h.lt
 obtain ⟨t, g, B1, hi, hT, hc⟩ := drawDeep_at bs hl 2 (by omega) vars hv _ q (h.app [some [.d (.int .i64 0), .d (.int .i64 0), .d (.sl U [])]])
 obtain ⟨B2, hT2, hL2, rfl⟩ := turned_app hq hT
 have hn := specNorm_eq sig0 (by decide) t (by omega)
 have hin := inner_norm sig0 t
 refine ⟨t.norm sig0, B2, ⟨by omega, norm_rng sig0 t hi.2⟩, ⟨t, rfl⟩, hT2, ?_⟩
 rw [z_call XV _ _ _ v163 rfl xcode_163 rfl]
 have hsg := l2Sig_eq
 rw [nM_eq] at hn
 have e : (t.norm sig0).enc U = .agg [.int .i64 t.f, .int .i64 t.v, .sl U (rowM sig0 t)] := by rw [← nM_eq]; rfl
 rw [e]
 generalize rowM sig0 t = X at *
 have hc' : callX XV 166 [AV.ptr q 0, AV.d (DV.int IntKind.i64 2), AV.d (DV.int IntKind.i64 vars)] (B ++ [some [AV.d (DV.int IntKind.i64 0), AV.d (DV.int IntKind.i64 0), AV.d (DV.sl U [])]]) = some (AV.d (t.enc g), B2 ++ [some [AV.d (DV.int IntKind.i64 0), AV.d (DV.int IntKind.i64 0), AV.d (DV.sl U [])]]) := hc
 simp [v163, r163_0, r163_1, hq, hsg, hc', hn, hL2, bx_get, bx_set, bx_take, loadBox, splice, isCell_int, isCell_sl, isCellA_d, safe_d]
end Go.Proofs.Ytidlpcgcolcfgaa.VS
namespace Go.Proofs.Ytidlpcgcolcfgaa.VS
def fc (l : List T) : List DV := l.flatMap fun t => (t.enc U).cells
def fcs (l : List T) : List DV := l.flatMap fun t => (t.enc .sub).cells
theorem fc_eq (l : List T) : (l.map (T.enc U)).flatMap DV.cells = fc l := by unfold fc; rw [List.flatMap_map]
theorem fc_cons (t : T) (l : List T) : fc (t :: l) = .int .i64 t.f :: .int .i64 t.v :: .sl U (t.kids.map (T.enc U)) :: fc l := by
 unfold fc; rw [List.flatMap_cons, T.enc_eq]; rfl
theorem fcs_cons (t : T) (l : List T) : fcs (t :: l) = .int .i64 t.f :: .int .i64 t.v :: .sl .sub (t.kids.map (T.enc .sub)) :: fcs l := by
 unfold fcs; rw [List.flatMap_cons, T.enc_eq]; rfl
theorem fc_app (a b : List T) : fc (a ++ b) = fc a ++ fc b := by unfold fc; simp
theorem fcs_app (a b : List T) : fcs (a ++ b) = fcs a ++ fcs b := by unfold fcs; simp
theorem fc_clr : ∀ l : List T, (fc l).map DV.clr = fcs l
 | [] => rfl
 | t :: l => by rw [fc_cons, fcs_cons, List.map_cons, List.map_cons, List.map_cons, fc_clr l]; simp
theorem fc_len : ∀ l : List T, (fc l).length = l.length * 3
 | [] => rfl
 | t :: l => by rw [fc_cons]; simp [fc_len l]; omega
theorem fcs_len : ∀ l : List T, (fcs l).length = l.length * 3
 | [] => rfl
 | t :: l => by rw [fcs_cons]; simp [fcs_len l]; omega
theorem frzL_app (f : AV → Option DV) : ∀ (a b : List AV) {x y : List DV}, frzL f a = some x → frzL f b = some y → frzL f (a ++ b) = some (x ++ y)
 | [], b, x, y, h1, h2 => by simp [frzL] at h1; subst h1; simpa using h2
 | v :: a, b, x, y, h1, h2 => by
  simp only [frzL] at h1
  obtain ⟨d, e1, h1⟩ := Option.bind_eq_some_iff.1 h1
  obtain ⟨x', e2, rfl⟩ := Option.map_eq_some_iff.1 h1
  simp only [List.cons_append, frzL, e1, frzL_app f a b e2 h2, Option.bind_some, Option.map_some]
theorem frzL_d (M : Boxs) (n : Nat) : ∀ l : List DV, frzL (AV.frzC M n) (l.map .d) = some l
 | [] => rfl
 | d :: l => by
  simp only [List.map_cons, frzL, frzC_d, frzL_d M n l, Option.bind_some, Option.map_some]
theorem clr_int_inv {d : DV} {k : IntKind} {n : Int} (h : d.clr = .int k n) : d = .int k n := by
 cases d <;> simp [DV.clr] at h ⊢ <;> exact h
theorem clr_sl_inv {d : DV} {l : List DV} (h : d.clr = .sl .sub l) : ∃ g xs, d = .sl g xs ∧ DV.clrs xs = l := by
 cases d <;> simp [DV.clr] at h
 exact ⟨_, _, rfl, h⟩
theorem fcs_inv {t : T} {l : List T} {ds : List DV} (h : ds.map DV.clr = fcs (t :: l)) : ∃ g xs r, ds = .int .i64 t.f :: .int .i64 t.v :: .sl g xs :: r ∧ DV.clrs xs = t.kids.map (T.enc .sub) ∧ r.map DV.clr = fcs l := by
 rw [fcs_cons] at h
 match ds, h with
 | [], h => simp at h
 | [_], h => simp at h
 | [_, _], h => simp at h
 | d0 :: d1 :: d2 :: r, h =>
  simp only [List.map_cons, List.cons.injEq] at h
  obtain ⟨h0, h1, h2, h3⟩ := h
  obtain ⟨g, xs, rfl, hx⟩ := clr_sl_inv h2
  exact ⟨g, xs, r, by rw [clr_int_inv h0, clr_int_inv h1], hx, h3⟩
theorem fcs_cell : ∀ (l : List T) (ds : List DV), ds.map DV.clr = fcs l → ds.all DV.isCell = true
 | [], ds, h => by
  have : ds = [] := by simpa [fcs] using h
  subst this; rfl
 | t :: l, ds, h => by
  obtain ⟨g, xs, r, rfl, hx, hr⟩ := fcs_inv h
  simp [isCell_int, isCell_sl]
  simpa using fcs_cell l r hr
theorem fcs_chunks : ∀ (l : List T) (ds : List DV), ds.map DV.clr = fcs l → ∃ xs, chunks true 3 l.length ds = some xs ∧ xs.map DV.clr = l.map (T.enc .sub)
 | [], ds, h => ⟨[], rfl, rfl⟩
 | t :: l, ds, h => by
  obtain ⟨g, xs, r, rfl, hx, hr⟩ := fcs_inv h
  obtain ⟨ys, h1, h2⟩ := fcs_chunks l r hr
  refine ⟨.agg [.int .i64 t.f, .int .i64 t.v, .sl g xs] :: ys, ?_, ?_⟩
  ·simp [chunks, cut, isCell_int, isCell_sl, h1, DV.cells]
  ·rw [List.map_cons, List.map_cons, h2, T.enc_eq]
   simp only [DV.clr, DV.clrs, hx]
theorem bget_m2 (B : Boxs) (i : Nat) (h : 2 ≤ i) : bget (maskB 2 B) i = bget B i := by
 unfold bget maskB
 rw [List.getElem?_append_right (by simp; exact h), List.length_replicate, List.getElem?_drop, show 2 + (i - 2) = i by omega]
def Ctx (j : Nat) (B : Boxs) (A D : List T) (N : Nat) : Prop :=
 ∀ (B' : Boxs) (cs : List AV) (u : T) (ds : List DV), B'.length = 6 → (∀ i, j < i → B'[i]? = B[i]?) → B'[j]? = some (some cs) → frzL (AV.frzC (maskB 2 B') (j + 1)) cs = some ds → ds.map DV.clr = fcs (A ++ u :: D) →
  ∃ (c5 : List AV) (ds5 : List DV) (t' : T), B'[5]? = some (some c5) ∧ frzL (AV.frzC (maskB 2 B') 6) c5 = some ds5 ∧ ds5.map DV.clr = fcs [t'] ∧ t'.inner ≤ N + u.inner ∧ (u.rng → t'.rng)
theorem Ctx.base (B : Boxs) : Ctx 5 B [] [] 0 := fun B' cs u ds h1 h2 h3 h4 h5 => ⟨cs, ds, u, h3, h4, h5, by omega, id⟩
theorem inners_app : ∀ a b : List T, T.inners (a ++ b) = T.inners a + T.inners b
 | [], b => by simp [T.inners]
 | t :: a, b => by simp only [List.cons_append, T.inners, inners_app a b]; omega
theorem Ctx.step {j : Nat} {B B1 : Boxs} {A D A' D' : List T} {N m : Nat} {f v : Int} (hj : 2 ≤ j) (h : Ctx (j + 1) B A D N) (hag : ∀ i, j + 1 < i → B1[i]? = B[i]?)
  (hat : B1[j + 1]? = some (some ((fc A).map .d ++ ([.d (.int .i64 f), .d (.int .i64 v), .tsl true j 3 m] ++ (fc D).map .d)))) (hm : A'.length + 1 + D'.length = m) (hv : -9223372036854775808 ≤ v ∧ v ≤ 9223372036854775807) (hA : T.rngs A') (hD : T.rngs D') : Ctx j B1 A' D' (N + (m + T.inners A' + T.inners D')) := by
 intro B' cs u ds h1 h2 h3 h4 h5
 have hlen : ds.length = m * 3 := by
  have := congrArg List.length h5
  rw [List.length_map, fcs_len] at this
  rw [this]; simp only [List.length_append, List.length_cons]; rw [← hm]; congr 1; omega
 obtain ⟨xs, hx1, hx2⟩ := fcs_chunks _ _ h5
 have hm' : (A' ++ u :: D').length = m := by simp only [List.length_append, List.length_cons]; omega
 rw [hm'] at hx1
 have htsl : AV.frzC (maskB 2 B') (j + 1 + 1) (.tsl true j 3 m) = some (.sl .sub xs) := by
  simp only [AV.frzC]
  rw [bget_m2 _ _ hj]
  simp only [bget, h3, Option.bind_some, h4, hlen, if_true, hx1, Option.map_some]
 have hmid : frzL (AV.frzC (maskB 2 B') (j + 1 + 1)) [.d (.int .i64 f), .d (.int .i64 v), .tsl true j 3 m] = some [.int .i64 f, .int .i64 v, .sl .sub xs] := by
  simp only [frzL, htsl, frzC_d, Option.bind_some, Option.map_some]
 have hfr := frzL_app _ _ _ (frzL_d (maskB 2 B') (j + 1 + 1) (fc A)) (frzL_app _ _ _ hmid (frzL_d (maskB 2 B') (j + 1 + 1) (fc D)))
 have hclr : (fc A ++ ([DV.int .i64 f, DV.int .i64 v, DV.sl .sub xs] ++ fc D)).map DV.clr = fcs (A ++ (T.node f v (A' ++ u :: D')) :: D) := by
  rw [List.map_append, List.map_append, fc_clr, fc_clr, fcs_app, fcs_cons]
  simp only [List.map_cons, List.map_nil, DV.clr, DV.clrs_map, hx2, T.f_node, T.v_node, T.kids_node, List.cons_append, List.nil_append]
 obtain ⟨c5, ds5, t', e1, e2, e3, e4, e4r⟩ := h B' _ _ _ h1 (fun i hi => by rw [h2 i (by omega), hag i hi]) (by rw [h2 (j + 1) (by omega), hat]) hfr hclr
 refine ⟨c5, ds5, t', e1, e2, e3, ?_, fun hu => e4r ⟨hv, rngs_app hA ⟨hu, hD⟩⟩⟩
 have e5 : (T.node f v (A' ++ u :: D')).inner = m + (T.inners A' + (u.inner + T.inners D')) := by rw [T.inner_eq, T.kids_node, hm', inners_app]; rfl
 omega
end Go.Proofs.Ytidlpcgcolcfgaa.VS
namespace Go.Proofs.Ytidlpcgcolcfgaa.VS
def row3 (A : List T) (x0 x1 x2 : AV) (D : List T) : List AV := (fc A).map .d ++ ([x0, x1, x2] ++ (fc D).map .d)
theorem row3_len (A : List T) (x0 x1 x2 : AV) (D : List T) : (row3 A x0 x1 x2 D).length = A.length * 3 + 3 + D.length * 3 := by
 unfold row3; simp [fc_len]; omega
theorem row3_2 (A : List T) (x0 x1 x2 : AV) (D : List T) : (row3 A x0 x1 x2 D)[A.length * 3 + 2]? = some x2 := by
 unfold row3; rw [List.getElem?_append_right (by simp [fc_len])]; simp [fc_len]
theorem row3_s2 (A : List T) (x0 x1 x2 y : AV) (D : List T) : (row3 A x0 x1 x2 D).set (A.length * 3 + 2) y = row3 A x0 x1 y D := by
 unfold row3; rw [List.set_append_right _ _ (by simp [fc_len])]; simp [fc_len]
theorem row3_s0 (A : List T) (x0 x1 x2 y : AV) (D : List T) : (row3 A x0 x1 x2 D).set (A.length * 3) y = row3 A y x1 x2 D := by
 unfold row3; rw [List.set_append_right _ _ (by simp [fc_len])]; simp [fc_len]
theorem row3_s1 (A : List T) (x0 x1 x2 y : AV) (D : List T) : (row3 A x0 x1 x2 D).set (A.length * 3 + 1) y = row3 A x0 y x2 D := by
 unfold row3; rw [List.set_append_right _ _ (by simp [fc_len])]; simp [fc_len]
theorem splice_one {cs : List AV} {k : Nat} (h : k < cs.length) (y : AV) : splice cs k [y] = cs.set k y := by
 unfold splice; rw [List.set_eq_take_append_cons_drop, if_pos h]; simp
theorem row3_p0 (A : List T) (x0 x1 x2 y : AV) (D : List T) : splice (row3 A x0 x1 x2 D) (A.length * 3) [y] = row3 A y x1 x2 D := by
 rw [splice_one (by rw [row3_len]; omega), row3_s0]
theorem row3_p1 (A : List T) (x0 x1 x2 y : AV) (D : List T) : splice (row3 A x0 x1 x2 D) (A.length * 3 + 1) [y] = row3 A x0 y x2 D := by
 rw [splice_one (by rw [row3_len]; omega), row3_s1]
theorem row3_p2 (A : List T) (x0 x1 x2 y : AV) (D : List T) : splice (row3 A x0 x1 x2 D) (A.length * 3 + 2) [y] = row3 A x0 x1 y D := by
 rw [splice_one (by rw [row3_len]; omega), row3_s2]
def TR (rs : List DV) : Prop := rs.all (fun r => !(DV.int .u8 0).like r) = true
theorem TR_fc : ∀ l : List T, TR (fc l)
 | [] => rfl
 | t :: l => by
  have := TR_fc l
  unfold TR at this ⊢
  rw [fc_cons]
  simp only [List.all_cons, this, Bool.and_true]
  rfl
mutual
theorem rest_enc (rs : List DV) : ∀ t : T, DV.xrest rs (t.enc U) = true
 | .node f v ks => by
  rw [T.enc_eq]
  simp only [xrest_agg, xrests_cons, xrest_int, xrest_U, xrests_nil, Bool.and_true, Bool.true_and, T.kids_node]
  exact rest_encs rs ks
theorem rest_encs (rs : List DV) : ∀ l : List T, DV.xrests rs (l.map (T.enc U)) = true
 | [] => by simp only [List.map_nil, xrests_nil]
 | t :: l => by simp only [List.map_cons, xrests_cons, rest_enc rs t, rest_encs rs l, Bool.and_true]
end
theorem rest_fc (rs : List DV) : ∀ l : List T, DV.xrests rs (fc l) = true
 | [] => by simp [fc]
 | t :: l => by rw [fc_cons]; simp [rest_encs, rest_fc rs l]
theorem crest_fc (rs : List DV) : ∀ l : List T, cellsRest rs ((fc l).map .d) = true
 | [] => by simp [fc]
 | t :: l => by rw [fc_cons]; simp [rest_encs, crest_fc rs l]
theorem crest_app (rs : List DV) (a b : List AV) : cellsRest rs (a ++ b) = (cellsRest rs a && cellsRest rs b) := by simp [cellsRest]
theorem boxs_set (rs : List DV) (B : Boxs) (i : Nat) (cs : List AV) (h : xrestBoxs rs B = true) (hc : cellsRest rs cs = true) : xrestBoxs rs (B.set i (some cs)) = true := by
 unfold xrestBoxs at h ⊢
 rw [List.all_eq_true] at h ⊢
 intro x hx
 rcases List.mem_or_eq_of_mem_set hx with h1 | h1
 ·exact h x h1
 ·subst h1; exact hc
structure WS (bs : List Int) (j k : Nat) (B : Boxs) (A D : List T) (f v : Int) (ks : List T) (N : Nat) : Prop where
 jk : j + k = 5
 j2 : 2 ≤ j
 len : B.length = 6
 seed : SeedAt bs 0 B
 one : B[1]? = some (some [.d (.int .i64 0), .d (.int .i64 0), .d (.sl U [])])
 free : ∀ i, 2 ≤ i → i < j → B[i]? = some none
 at_ : B[j]? = some (some (row3 A (.d (.int .i64 f)) (.d (.int .i64 v)) (.d (.sl U (ks.map (T.enc U)))) D))
 rest : ∀ rs, TR rs → xrestBoxs rs B = true
 ctx : Ctx j B A D N
 siz : N + (T.node f v ks).inner ≤ 6
 rg : (T.node f v ks).rng
theorem WS.turn {bs : List Int} {j k : Nat} {B : Boxs} {A D : List T} {f v : Int} {ks : List T} {N : Nat} (h : WS bs j k B A D f v ks N) {B' : Boxs} (hT : Turned bs 0 B B') : WS bs j k B' A D f v ks N := by
 have h0 := hT.at (by rw [h.len]; omega)
 obtain ⟨pos, st, hp, rfl⟩ := hT
 have e : ∀ i, 1 ≤ i → (B.set 0 (some (seedC bs pos st)))[i]? = B[i]? := fun i hi => by rw [List.getElem?_set_ne (by omega)]
 have hj := h.j2
 refine ⟨h.jk, h.j2, by simp [h.len], h0, by rw [e 1 (by omega)]; exact h.one, fun i h1 h2 => by rw [e i (by omega)]; exact h.free i h1 h2, by rw [e j (by omega)]; exact h.at_, fun rs hr => boxs_set rs B 0 _ (h.rest rs hr) (xrest_seed rs hr bs pos st), ?_, h.siz, h.rg⟩
 intro B' cs u ds h1 h2
 exact h.ctx B' cs u ds h1 (fun i hi => by rw [h2 i hi, e i (by omega)])
theorem foc161 {bs : List Int} {j k : Nat} {B : Boxs} {A D : List T} {f v : Int} {ks : List T} {N : Nat} (h : WS bs (j + 1) k B A D f v ks N) (hk : 0 < ks.length) (hj : 2 ≤ j) (x5 x22 : DV) (h5 : ∀ rs, DV.xrest rs x5 = true) :
  xGho (.focC 4 2 [0, 2, 3, 4, 5]) ⟨[(0, .ptr 0 0), (2, .ptr 1 0), (3, .ptr 5 0), (4, .ptr (j + 1) (A.length * 3)), (5, .d x5), (22, .d x22)], B⟩ =
   some ⟨[(0, .ptr 0 0), (2, .ptr 1 0), (3, .ptr 5 0), (4, .ptr (j + 1) (A.length * 3)), (5, .d x5)], (B.set (j + 1) (some (row3 A (.d (.int .i64 f)) (.d (.int .i64 v)) (.tsl true j 3 ks.length) D))).set j (some ((fc ks).map .d))⟩ := by
 have hat := h.at_
 have hfree := h.free j hj (by omega)
 have hr := h.rest (fc ks) (TR_fc ks)
 have hc : cellsRest (fc ks) (row3 A (.d (.int .i64 f)) (.d (.int .i64 v)) (.tsl true j 3 ks.length) D) = true := by
  unfold row3; rw [crest_app, crest_app, crest_fc, crest_fc]; simp
 have hb := boxs_set (fc ks) B (j + 1) _ hr hc
 have hx := rest_fc (fc ks) ks
 have hg := row3_2 A (.d (.int .i64 f)) (.d (.int .i64 v)) (.d (.sl U (ks.map (T.enc U)))) D
 have hs := row3_s2 A (.d (.int .i64 f)) (.d (.int .i64 v)) (.d (.sl U (ks.map (T.enc U)))) (.tsl true j 3 ks.length) D
 have hlen : (ks.map (T.enc U)).length = ks.length := by simp
 cases ks with
 | nil => simp at hk
 | cons k0 kr =>
  have hfc : (T.enc U k0 :: kr.map (T.enc U)).flatMap DV.cells = fc (k0 :: kr) := by rw [← fc_eq]; rfl
  have hag : isAgD (k0.enc U) = true := by rw [T.enc_eq]; rfl
  have hcl : (k0.enc U).cells.length = 3 := by simp
  have hbg : bget B (j + 1) = some (row3 A (.d (.int .i64 f)) (.d (.int .i64 v)) (.d (.sl U (T.enc U k0 :: kr.map (T.enc U)))) D) := by simp only [bget, hat, List.map_cons]
  simp only [List.map_cons] at hg hs hlen
  have hw : xFc 2 [0, 2, 3, 4, 5] ⟨[(0, .ptr 0 0), (2, .ptr 1 0), (3, .ptr 5 0), (4, .ptr (j + 1) (A.length * 3)), (5, .d x5), (22, .d x22)], B⟩ j (A.length * 3) (row3 A (.d (.int .i64 f)) (.d (.int .i64 v)) (.d (.sl U (T.enc U k0 :: kr.map (T.enc U)))) D) (some (.d (.sl U (T.enc U k0 :: kr.map (T.enc U))))) =
    some ⟨[(0, .ptr 0 0), (2, .ptr 1 0), (3, .ptr 5 0), (4, .ptr (j + 1) (A.length * 3)), (5, .d x5)], (B.set (j + 1) (some (row3 A (.d (.int .i64 f)) (.d (.int .i64 v)) (.tsl true j 3 (k0 :: kr).length) D))).set j (some ((fc (k0 :: kr)).map .d))⟩ := by
   rw [g_focC2, hfc, hag, hcl, show (kr.map (T.enc U)).length + 1 = (k0 :: kr).length from by simp, hs, if_pos ⟨by simp [bfree, hfree], by simp [keep, lk, h5], hb, hx⟩]
   rfl
  rw [g_focC]
  simp only [lk, Nat.reduceEqDiff, if_false, if_true]
  rw [g_focC1, hbg, Option.bind_some, hg]
  exact hw
end Go.Proofs.Ytidlpcgcolcfgaa.VS
namespace Go.Proofs.Ytidlpcgcolcfgaa.VS
theorem datas_seed' (bs : List Int) (pos st : Int) : datas (seedC bs pos st) = some [.sl .sub (bs.map (.int .u8)), .int .i64 pos, .int .i64 st] := by simp [seedC]
theorem bsetc {B : Boxs} {i j : Nat} {c : Option (List AV)} (h : i ≠ j) : (B.set i c)[j]? = B[j]? := by rw [List.getElem?_set_ne h]
theorem row3_tAt {ks : List T} {r : Nat} (h : r < ks.length) : (fc ks).map AV.d = row3 (ks.take r) (.d (.int .i64 (tAt ks r).f)) (.d (.int .i64 (tAt ks r).v)) (.d (.sl U ((tAt ks r).kids.map (T.enc U)))) (ks.drop (r + 1)) := by
 have e : ks = ks.take r ++ tAt ks r :: ks.drop (r + 1) := by
  conv => lhs; rw [← List.take_append_drop r ks, List.drop_eq_getElem_cons h, tAt_lt h]
 conv => lhs; rw [e, fc_app, fc_cons]
 unfold row3
 simp
theorem go161 (bs : List Int) (hl : bs.length ≤ 1099511627776) {j k : Nat} {B : Boxs} {A D : List T} {f v : Int} {ks : List T} {N : Nat} (h : WS bs (j + 1) k B A D f v ks N) (hk : 0 < ks.length) (hj : 2 ≤ j) :
  ∃ (B' : Boxs) (A' D' : List T) (f' v' : Int) (ks' : List T) (N' : Nat), WS bs j (k + 1) B' A' D' f' v' ks' N' ∧
   codeX XV (XV.lin 161) (.seq (.block 1 (.ghost (.focC 4 2 [0, 2, 3, 4, 5]) (.region true 0 [0, 2, 3, 4, 5] r161_6))) (.region false 0 [0, 2, 3, 4, 5] r161_5)) ⟨[(0, .ptr 0 0), (2, .ptr 1 0), (3, .ptr 5 0), (4, .ptr (j + 1) (A.length * 3)), (5, .d (.int .i64 k)), (22, .d (.bool true))], B⟩ =
    some (.normal, ⟨[(0, .ptr 0 0), (2, .ptr 1 0), (3, .ptr 5 0), (4, .ptr j (A'.length * 3)), (5, .d (.int .i64 ((k + 1 : Nat) : Int)))], B'⟩) := by
 have hfo := foc161 h hk hj (.int .i64 k) (.bool true) (fun rs => by simp)
 have hlen := h.len
 have hjk := h.jk
 obtain ⟨pos, st, hp, hb0⟩ := h.seed
 have hb0' := bget_iff hb0
 have hs1 : SeedAt bs 0 [some (seedC bs pos st)] := ⟨pos, st, hp, rfl⟩
 have hsz := h.siz
 rw [T.inner_node] at hsz
 have hcn := len_cnts ks
 obtain ⟨r, B1, hr, ⟨pos1, st1, hp1, rfl⟩, hc⟩ := l1Below_at bs hl _ 0 hs1 ks.length (by omega) (by omega)
 simp only [List.set_cons_zero] at hc
 have hrl : r.toNat < ks.length := by omega
 have hw := wrap_succ (n := k) (by omega)
 generalize hR : row3 A (.d (.int .i64 f)) (.d (.int .i64 v)) (.tsl true j 3 ks.length) D = R at hfo
 have hR2 : R[A.length * 3 + 2]? = some (.tsl true j 3 ks.length) := by rw [← hR]; exact row3_2 _ _ _ _ _
 have hRl : A.length * 3 + 2 < R.length := by rw [← hR, row3_len]; omega
 have g0 : ((B.set (j + 1) (some R)).set j (some ((fc ks).map .d)))[0]? = some (some (seedC bs pos st)) := by rw [bsetc (by omega), bsetc (by omega)]; exact hb0'
 have g1 : ((B.set (j + 1) (some R)).set j (some ((fc ks).map .d)))[j + 1]? = some (some R) := by rw [bsetc (by omega), List.getElem?_set_self (by omega)]
 have g2 : ((B.set (j + 1) (some R)).set j (some ((fc ks).map .d))).length = 6 := by simp [hlen]
 have gj : ((B.set (j + 1) (some R)).set j (some ((fc ks).map .d)))[j]? = some (some ((fc ks).map .d)) := by rw [List.getElem?_set_self (by simp; omega)]
 have gi : ∀ i, i ≠ j → i ≠ j + 1 → ((B.set (j + 1) (some R)).set j (some ((fc ks).map .d)))[i]? = B[i]? := fun i h1 h2 => by rw [bsetc (Ne.symm h1), bsetc (Ne.symm h2)]
 have grest : ∀ rs, TR rs → xrestBoxs rs ((B.set (j + 1) (some R)).set j (some ((fc ks).map .d))) = true := fun rs hrs => by
  refine boxs_set _ _ _ _ (boxs_set _ _ _ _ (h.rest rs hrs) ?_) (crest_fc rs ks)
  rw [← hR]; unfold row3; rw [crest_app, crest_app, crest_fc, crest_fc]; simp
 generalize hB2 : (B.set (j + 1) (some R)).set j (some ((fc ks).map .d)) = B2 at *
 have hn6 : ¬ 6 ≤ j + 1 := by omega
 have g0' : ∀ h : 0 < B2.length, B2[0]'h = some (seedC bs pos st) := fun h => (List.getElem?_eq_some_iff.1 g0).2
 have hR3 : ∀ h : A.length * 3 + 2 < R.length, R[A.length * 3 + 2]'h = .tsl true j 3 ks.length := fun h => (List.getElem?_eq_some_iff.1 hR2).2
 have hmin : min r.toNat ks.length = r.toNat := by omega
 have hsd := datas_seed' bs pos st
 have hsd1 := datas_seed' bs pos1 st1
 have hcl := clrs_seed bs pos st
 have hcl1 := clrs_seed bs pos1 st1
 generalize seedC bs pos st = S0 at *
 refine ⟨B2.set 0 (some (seedC bs pos1 st1)), ks.take r.toNat, ks.drop (r.toNat + 1), (tAt ks r.toNat).f, (tAt ks r.toNat).v, (tAt ks r.toNat).kids, N + (ks.length + T.inners (ks.take r.toNat) + T.inners (ks.drop (r.toNat + 1))), ?_, ?_⟩
 ·have e : ks = ks.take r.toNat ++ tAt ks r.toNat :: ks.drop (r.toNat + 1) := by
   conv => lhs; rw [← List.take_append_drop r.toNat ks, List.drop_eq_getElem_cons hrl, tAt_lt hrl]
  refine ⟨by omega, hj, by simp [g2], ⟨pos1, st1, hp1, bget_set (by omega)⟩, by rw [bsetc (by omega), gi 1 (by omega) (by omega)]; exact h.one, fun i h1 h2 => by rw [bsetc (by omega), gi i (by omega) (by omega)]; exact h.free i h1 (by omega), by rw [bsetc (by omega), gj]; exact congrArg (some ∘ some) (row3_tAt hrl), fun rs hrs => boxs_set _ _ _ _ (grest rs hrs) (xrest_seed rs hrs bs pos1 st1), ?_, ?_, ?_⟩
  ·refine Ctx.step hj h.ctx (fun i hi => by rw [bsetc (by omega), gi i (by omega) (by omega)]) (by rw [bsetc (by omega), g1, ← hR]; rfl) ?_ h.rg.1 ?_ ?_
   ·have := congrArg List.length e
    simp only [List.length_append, List.length_cons] at this
    omega
   ·have := h.rg.2; rw [T.rngs_iff] at this ⊢; exact fun t ht => this t (List.mem_of_mem_take ht)
   ·have := h.rg.2; rw [T.rngs_iff] at this ⊢; exact fun t ht => this t (List.mem_of_mem_drop ht)
  ·have e2 : T.inners ks = T.inners (ks.take r.toNat) + ((tAt ks r.toNat).inner + T.inners (ks.drop (r.toNat + 1))) := by
    conv => lhs; rw [e, inners_app]
    rfl
   have e3 : (T.node (tAt ks r.toNat).f (tAt ks r.toNat).v (tAt ks r.toNat).kids).inner = (tAt ks r.toNat).inner := by cases tAt ks r.toNat; rfl
   have e4 : (T.node f v ks).inner = ks.length + T.inners ks := by rw [T.inner_eq, T.kids_node]
   have := h.siz
   omega
  ·have := h.rg.2
   rw [T.rngs_iff] at this
   have h3 := this _ (tAt_mem hrl)
   generalize tAt ks r.toNat = x at h3
   cases x; exact h3
 ·generalize seedC bs pos1 st1 = S1 at *
  simp only [lin_161]
  simp only [codeX_seq, z_block, z_ghost, hfo, Option.bind_some]
  simp [d161_6, r161_5, g2, g0, g1, gj, hR2, hRl, hsd, hsd1, hcl, hcl1, hc, hr.1, hr.2, hw, hn6, loadBox, hR3, hmin, g0', clrA_tsl]
end Go.Proofs.Ytidlpcgcolcfgaa.VS
namespace Go.Proofs.Ytidlpcgcolcfgaa.VS
theorem loop161 (bs : List Int) (hl : bs.length ≤ 1099511627776) : ∀ (n j k : Nat) (B : Boxs) (A D : List T) (f v : Int) (ks : List T) (N : Nat), n + 2 = j → WS bs j k B A D f v ks N →
  ∀ s0, xheadOf 6 [0, 2, 3, 4, 5] s0 = some ⟨[(0, .ptr 0 0), (2, .ptr 1 0), (3, .ptr 5 0), (4, .ptr j (A.length * 3)), (5, .d (.int .i64 k))], B⟩ →
  ∃ (j' k' : Nat) (B' : Boxs) (A' D' : List T) (f' v' : Int) (ks' : List T) (N' : Nat), WS bs j' k' B' A' D' f' v' ks' N' ∧
   loopX XV (XV.lin 161) 6 [0, 2, 3, 4, 5] b161_0 s0 = some (.exit 0, ⟨[(0, .ptr 0 0), (2, .ptr 1 0), (3, .ptr 5 0), (4, .ptr j' (A'.length * 3)), (5, .d (.int .i64 k')), (22, .d (.bool false))], B'⟩) := by
 intro n
 induction n with
 | zero =>
  intro j k B A D f v ks N hn h s0 h0
  refine ⟨j, k, B, A, D, f, v, ks, N, h, loopX_out h0 ?_ (by simp)⟩
  have hjk := h.jk
  have hk : ¬ ((k : Int) < 3) := by omega
  simp [b161_0, r161_4, hk]
 | succ n ih =>
  intro j k B A D f v ks N hn h s0 h0
  have hjk := h.jk
  have hk : (k : Int) < 3 := by omega
  have hat := h.at_
  have hrow := row3_2 A (.d (.int .i64 f)) (.d (.int .i64 v)) (.d (.sl U (ks.map (T.enc U)))) D
  generalize hR : row3 A (.d (.int .i64 f)) (.d (.int .i64 v)) (.d (.sl U (ks.map (T.enc U)))) D = R at *
  have hRl : A.length * 3 + 2 < R.length := by rw [← hR, row3_len]; omega
  have hR3 : ∀ h : A.length * 3 + 2 < R.length, R[A.length * 3 + 2]'h = .d (.sl U (ks.map (T.enc U))) := fun h => (List.getElem?_eq_some_iff.1 hrow).2
  have hBl : j < B.length := by rw [h.len]; omega
  have hB3 : ∀ h : j < B.length, B[j]'h = some R := fun h => (List.getElem?_eq_some_iff.1 hat).2
  by_cases hks : 0 < ks.length
  ·obtain ⟨b, B1, hT, hc⟩ := once_at bs hl B 0 h.seed 2 (by omega) (by omega)
   have h1 := h.turn hT
   cases b with
   | true =>
    refine ⟨j, k, B1, A, D, f, v, ks, N, h1, loopX_out h0 ?_ (by simp)⟩
    simp [b161_0, r161_4, hk, hks, hc, hBl, hB3, hRl, hR3, loadBox]
   | false =>
    subst hn
    obtain ⟨B', A', D', f', v', ks', N', hW, hgo⟩ := go161 bs hl h1 hks (by omega)
    obtain ⟨j', k', B'', A'', D'', f'', v'', ks'', N'', hW2, hl2⟩ := ih (n + 2) (k + 1) B' A' D' f' v' ks' N' rfl hW ⟨[(0, .ptr 0 0), (2, .ptr 1 0), (3, .ptr 5 0), (4, .ptr (n + 2) (A'.length * 3)), (5, .d (.int .i64 ((k + 1 : Nat) : Int)))], B'⟩ (head_cut (e := []) (by simp) (by simp [safeRegs]; omega) hW.len (by simp))
    refine ⟨j', k', B'', A'', D'', f'', v'', ks'', N'', hW2, ?_⟩
    rw [← hl2]
    refine loopX_go h0 ?_
    rw [← hgo]
    generalize hG : VCode.seq (.block 1 (.ghost (.focC 4 2 [0, 2, 3, 4, 5]) (.region true 0 [0, 2, 3, 4, 5] r161_6))) (.region false 0 [0, 2, 3, 4, 5] r161_5) = G
    rw [show b161_0 = .seq (.seq (.region false 0 [0, 2, 3, 4, 5, 22] r161_4) (.cond (.t 22) .skip (.exit 0))) G from by rw [← hG]; rfl]
    simp [r161_4, hk, hks, hc, hBl, hB3, hRl, hR3, loadBox]
  ·refine ⟨j, k, B, A, D, f, v, ks, N, h, loopX_out h0 ?_ (by simp)⟩
   have hk0 : ks.length = 0 := by omega
   simp [b161_0, r161_4, hk, hk0, hBl, hB3, hRl, hR3, loadBox]
end Go.Proofs.Ytidlpcgcolcfgaa.VS
namespace Go.Proofs.Ytidlpcgcolcfgaa.VS
theorem WS.read {bs : List Int} {j k : Nat} {B : Boxs} {A D : List T} {f v : Int} {ks : List T} {N : Nat} (h : WS bs j k B A D f v ks N) {B' : Boxs} (hl : B'.length = 6) (hi : ∀ i, j < i → B'[i]? = B[i]?) (u : T) (g : Tag) (X : List DV) (hX : X.map DV.clr = u.kids.map (T.enc .sub))
  (hj : B'[j]? = some (some (row3 A (.d (.int .i64 u.f)) (.d (.int .i64 u.v)) (.d (.sl g X)) D))) :
  ∃ (c5 : List AV) (ds5 : List DV) (t' : T), B'[5]? = some (some c5) ∧ frzL (AV.frzC (maskB 2 B') 6) c5 = some ds5 ∧ ds5.map DV.clr = fcs [t'] ∧ t'.inner ≤ N + u.inner ∧ (u.rng → t'.rng) := by
 refine h.ctx B' _ u (fc A ++ ([.int .i64 u.f, .int .i64 u.v, .sl g X] ++ fc D)) hl hi hj ?_ ?_
 ·unfold row3
  exact frzL_app _ _ _ (frzL_d _ _ _) (frzL_app _ _ _ (frzL_d _ _ [.int .i64 u.f, .int .i64 u.v, .sl g X]) (frzL_d _ _ _))
 ·rw [List.map_append, List.map_append, fc_clr, fc_clr, fcs_app, fcs_cons]
  simp only [List.map_cons, List.map_nil, DV.clr, DV.clrs_map, hX, List.cons_append, List.nil_append]
theorem fin161 (B : Boxs) (S0 Z : Option (List AV)) (z0 z1 z2 : AV) (hlen : B.length = 6) (h0 : B[0]? = some S0) (h1 : B[1]? = some (some [z0, z1, z2])) (r : List (Nat × AV)) (h2 : lk r 2 = some (.ptr 1 0)) (h3 : lk r 3 = some (.ptr 5 0)) (t : T) (c5 : List AV) (ds5 : List DV)
  (e1 : B[5]? = some (some c5)) (e2 : frzL (AV.frzC (maskB 2 B) 6) c5 = some ds5) (e3 : ds5.map DV.clr = fcs [t]) :
  ∃ C, codeX XV (XV.lin 161) (.seq (.ghost (.frzB 3 2 [2]) (.region false 0 [2] r161_16)) .ret) ⟨r, B⟩ = some (.ret, ⟨[(2, .ptr 1 0)], [S0, some [.d (.int .i64 t.f), .d (.int .i64 t.v), .d (terms .sub t.kids)], C]⟩) := by
 have hk : keep r [2] = [(2, .ptr 1 0)] := by simp [keep, h2]
 have htk : B.take 2 = [S0, some [z0, z1, z2]] := by
  match B, hlen with
  | [b0, b1, b2, b3, b4, b5], _ => simp at h0 h1 ⊢; exact ⟨h0, h1⟩
 obtain ⟨g, xs, r', rfl, hx, hr⟩ := fcs_inv e3
 have hr0 : r' = [] := by simpa [fcs] using hr
 subst hr0
 have hcell := fcs_cell _ _ e3
 have hbg : bget B 5 = some c5 := by simp only [bget, e1]
 refine ⟨some [.d (.int .i64 t.f), .d (.int .i64 t.v), .d (terms .sub t.kids)], ?_⟩
 have hx' : xs.map DV.clr = t.kids.map (T.enc .sub) := by rw [← DV.clrs_map]; exact hx
 have hgh : xGho (.frzB 3 2 [2]) ⟨r, B⟩ = some ⟨[(3, .ptr 2 0), (2, .ptr 1 0)], [S0, some [z0, z1, z2], some [.d (.int .i64 t.f), .d (.int .i64 t.v), .d (terms .sub t.kids)]]⟩ := by
  rw [g_frzB]
  simp only [h3]
  rw [g_frzB1, if_pos ⟨by omega, by simp, by rw [hk]; simp [safeRegs], by omega⟩, hbg, Option.bind_some, hlen, e2, Option.bind_some, if_pos hcell, hk, htk]
  simp [hx']
 simp only [codeX_seq, z_ghost, hgh, Option.bind_some]
 simp [r161_16, splice, isCell_int, isCell_sl, isCellA_d, safe_d, loadBox]
end Go.Proofs.Ytidlpcgcolcfgaa.VS
namespace Go.Proofs.Ytidlpcgcolcfgaa.VS
def finc161 : VCode := .seq (.ghost (.frzB 3 2 [2]) (.region false 0 [2] r161_16)) .ret
def case161 : VCode := .seq (.region false 0 [0, 2, 3, 4, 38] r161_7) (.block 2 (.seq (.region false 0 [0, 2, 3, 4, 38, 39] r161_8) (.cond (.t 39) (.region false 0 [2, 3] r161_9) (.seq (.region false 0 [0, 2, 3, 4, 38, 47] r161_10) (.cond (.t 47) (.region false 0 [2, 3] r161_11) (.seq (.region false 0 [0, 2, 3, 4, 38, 55] r161_12) (.cond (.t 55) (.regionT 0 [2, 3] r161_13 r161_13_9) (.seq (.region false 0 [0, 2, 3, 69] r161_14) (.cond (.t 69) (.seq (.region false 0 [2] r161_15) .ret) .skip)))))))))
theorem v161_eq : v161 = ⟨1, [.cell 2 true 3], .seq (.region false 1 [0, 2] r161_0) (.seq (.region false 4 [0, 2, 3] r161_1) (.seq (.region false 0 [0, 2, 3, 4] r161_2) (.seq (.seq (.region false 0 [0, 2, 3, 4, 5] r161_3) (.block 0 (.loop [0, 2, 3, 4, 5] b161_0))) (.seq case161 finc161))))⟩ := rfl
def Read5 (bs : List Int) (B : Boxs) (n : Nat) : Prop := B.length = 6 ∧ SeedAt bs 0 B ∧ B[1]? = some (some [.d (.int .i64 0), .d (.int .i64 0), .d (.sl U [])]) ∧
 ∃ (c5 : List AV) (ds5 : List DV) (t' : T), B[5]? = some (some c5) ∧ frzL (AV.frzC (maskB 2 B) 6) c5 = some ds5 ∧ ds5.map DV.clr = fcs [t'] ∧ t'.inner ≤ n ∧ t'.rng
theorem WS.read5 {bs : List Int} {j k : Nat} {B : Boxs} {A D : List T} {f v : Int} {ks : List T} {N : Nat} (h : WS bs j k B A D f v ks N) (u : T) (g : Tag) (X : List DV) (hX : X.map DV.clr = u.kids.map (T.enc .sub)) (n : Nat) (hn : N + u.inner ≤ n) (hur : u.rng) :
  Read5 bs (B.set j (some (row3 A (.d (.int .i64 u.f)) (.d (.int .i64 u.v)) (.d (.sl g X)) D))) n := by
 have hj := h.j2
 have hjk := h.jk
 have hlen := h.len
 obtain ⟨c5, ds5, t', e1, e2, e3, e4, e5⟩ := h.read (B' := B.set j (some (row3 A (.d (.int .i64 u.f)) (.d (.int .i64 u.v)) (.d (.sl g X)) D))) (by simp [hlen]) (fun i hi => by rw [bsetc (by omega)]) u g X hX (by rw [List.getElem?_set_self (by omega)])
 refine ⟨by simp [hlen], ?_, by rw [bsetc (by omega)]; exact h.one, c5, ds5, t', e1, e2, e3, by omega, e5 hur⟩
 obtain ⟨pos, st, hp, hb⟩ := h.seed
 exact ⟨pos, st, hp, by simp only [bget]; rw [bsetc (by omega), bget_iff hb]⟩
theorem kidsU_clr (ks : List T) : (ks.map (T.enc U)).map DV.clr = ks.map (T.enc .sub) := clr_terms _ _
theorem case161_ok (bs : List Int) (hl : bs.length ≤ 1099511627776) {j k : Nat} {B : Boxs} {A D : List T} {f v : Int} {ks : List T} {N : Nat} (h : WS bs j k B A D f v ks N) (x5 x22 : DV) :
  (∃ (r' : List (Nat × AV)) (B' : Boxs), codeX XV (XV.lin 161) case161 ⟨[(0, .ptr 0 0), (2, .ptr 1 0), (3, .ptr 5 0), (4, .ptr j (A.length * 3)), (5, .d x5), (22, .d x22)], B⟩ = some (.normal, ⟨r', B'⟩) ∧ lk r' 2 = some (.ptr 1 0) ∧ lk r' 3 = some (.ptr 5 0) ∧ Read5 bs B' 12) ∨
  (∃ (t : T) (g : Tag) (B' : Boxs), codeX XV (XV.lin 161) case161 ⟨[(0, .ptr 0 0), (2, .ptr 1 0), (3, .ptr 5 0), (4, .ptr j (A.length * 3)), (5, .d x5), (22, .d x22)], B⟩ = some (.ret, ⟨[(2, .ptr 1 0)], B'⟩) ∧ SeedAt bs 0 B' ∧ B'.length = 6 ∧ B'[1]? = some (some [.d (.int .i64 t.f), .d (.int .i64 t.v), .d (.sl g (t.kids.map (T.enc g)))]) ∧ t.inner ≤ 14 ∧ t.rng) := by
 obtain ⟨r, B1, hr, hT1, hc⟩ := l1Below_at bs hl B 0 h.seed 12 (by omega) (by omega)
 have h1 := h.turn hT1
 have hat := h1.at_
 have hjl : j < B1.length := by have := h1.jk; rw [h1.len]; omega
 have hj2 := h.j2
 have hjk := h.jk
 have hsz := h.siz
 have keepT : ∀ (B' : Boxs), Turned bs 0 B1 B' → B'[j]? = some (some (row3 A (.d (.int .i64 f)) (.d (.int .i64 v)) (.d (.sl U (ks.map (T.enc U)))) D)) := fun B' hT => (h1.turn hT).at_
 by_cases c0 : r = 0
 ·subst c0
  obtain ⟨i, hi, B2, hT2, hc2⟩ := l1PickInt_at bs hl B1 0 h1.seed [-2, -1, 0, 5, 7] (by simp) (by simp)
  generalize ([-2, -1, 0, 5, 7] : List Int)[i] = x at hc2
  have h2 := h1.turn hT2
  have hat2 := h2.at_
  have hl2 := h2.len
  have hB2 : ∀ h : j < B2.length, B2[j]'h = some (row3 A (.d (.int .i64 f)) (.d (.int .i64 v)) (.d (.sl U (ks.map (T.enc U)))) D) := fun h => (List.getElem?_eq_some_iff.1 hat2).2
  have hrl := row3_len A (.d (.int .i64 f)) (.d (.int .i64 v)) (.d (.sl U (ks.map (T.enc U)))) D
  have hsp := row3_p0 A (.d (.int .i64 f)) (.d (.int .i64 v)) (.d (.sl U (ks.map (T.enc U)))) (.d (.int .i64 x)) D
  have hle : A.length * 3 + 1 ≤ A.length * 3 + 3 + D.length * 3 := by omega
  have hj6 : j < 6 := by omega
  have hin : ∀ a b : Int, (T.node a b ks).inner = (T.node f v ks).inner := fun a b => by simp only [T.inner]
  have hres := h2.read5 (.node x v ks) U (ks.map (T.enc U)) (kidsU_clr ks) 12 (by rw [hin]; omega) ⟨h.rg.1, h.rg.2⟩
  simp only [T.f_node, T.v_node] at hres
  refine .inl ⟨[(2, .ptr 1 0), (3, .ptr 5 0)], _, ?_, rfl, rfl, hres⟩
  simp only [List.map_cons, List.map_nil] at hc2
  generalize row3 A (.d (.int .i64 f)) (.d (.int .i64 v)) (.d (.sl U (ks.map (T.enc U)))) D = R at *
  generalize row3 A (.d (.int .i64 x)) (.d (.int .i64 v)) (.d (.sl U (ks.map (T.enc U)))) D = R' at *
  simp [case161, r161_7, r161_8, r161_9, hc, hc2, hl2, hB2, hj6, hrl, hsp, hle, buildRow, List.replicate, isCell_int, isCellA_d, safe_d, xstoreBox]
 by_cases c1 : r = 1
 ·subst c1
  obtain ⟨i, hi, B2, hT2, hc2⟩ := l1PickInt_at bs hl B1 0 h1.seed [-1, 1, 99, 100] (by simp) (by simp)
  have hxx : ∀ y : Int, y ∈ ([-1, 1, 99, 100] : List Int) → -9223372036854775808 ≤ y ∧ y ≤ 9223372036854775807 := fun y hy => by
   simp only [List.mem_cons, List.not_mem_nil, or_false] at hy; omega
  have hxr := hxx _ (List.getElem_mem hi)
  generalize ([-1, 1, 99, 100] : List Int)[i] = x at hc2 hxr
  have h2 := h1.turn hT2
  have hat2 := h2.at_
  have hl2 := h2.len
  have hB2 : ∀ h : j < B2.length, B2[j]'h = some (row3 A (.d (.int .i64 f)) (.d (.int .i64 v)) (.d (.sl U (ks.map (T.enc U)))) D) := fun h => (List.getElem?_eq_some_iff.1 hat2).2
  have hrl := row3_len A (.d (.int .i64 f)) (.d (.int .i64 v)) (.d (.sl U (ks.map (T.enc U)))) D
  have hsp := row3_p1 A (.d (.int .i64 f)) (.d (.int .i64 v)) (.d (.sl U (ks.map (T.enc U)))) (.d (.int .i64 x)) D
  have hle : A.length * 3 + 1 + 1 ≤ A.length * 3 + 3 + D.length * 3 := by omega
  have hj6 : j < 6 := by omega
  have hin : ∀ a b : Int, (T.node a b ks).inner = (T.node f v ks).inner := fun a b => by simp only [T.inner]
  have hres := h2.read5 (.node f x ks) U (ks.map (T.enc U)) (kidsU_clr ks) 12 (by rw [hin]; omega) ⟨hxr, h.rg.2⟩
  simp only [T.f_node, T.v_node] at hres
  refine .inl ⟨[(2, .ptr 1 0), (3, .ptr 5 0)], _, ?_, rfl, rfl, hres⟩
  simp only [List.map_cons, List.map_nil] at hc2
  generalize row3 A (.d (.int .i64 f)) (.d (.int .i64 v)) (.d (.sl U (ks.map (T.enc U)))) D = R at *
  generalize row3 A (.d (.int .i64 f)) (.d (.int .i64 x)) (.d (.sl U (ks.map (T.enc U)))) D = R' at *
  simp [case161, r161_7, r161_8, r161_10, r161_11, hc, hc2, hl2, hB2, hj6, hrl, hsp, hle, buildRow, List.replicate, isCell_int, isCellA_d, safe_d, xstoreBox]
 have n0 : (r == 0) = false := by simpa using c0
 have n1 : (r == 1) = false := by simpa using c1
 by_cases c2 : r = 2
 ·subst c2
  have hs := h1.seed
  obtain ⟨pos, st, hp, hb0⟩ := hs
  obtain ⟨t2, g2, B2, hi2, ⟨pos2, st2, hp2, rfl⟩, hc2⟩ := drawDeep_at bs hl 1 (by omega) 2 (by omega) [some (seedC bs pos st)] 0 ⟨pos, st, hp, rfl⟩
  simp only [List.set_cons_zero] at hc2
  have h2 := h1.turn (B' := B1.set 0 (some (seedC bs pos2 st2))) ⟨pos2, st2, hp2, rfl⟩
  have hl1 := h1.len
  have hB1 : ∀ h : j < B1.length, B1[j]'h = some (row3 A (.d (.int .i64 f)) (.d (.int .i64 v)) (.d (.sl U (ks.map (T.enc U)))) D) := fun h => (List.getElem?_eq_some_iff.1 hat).2
  have hX : (ks.map (T.enc U) ++ [t2.enc g2]).map DV.clr = (T.node f v (ks ++ [t2])).kids.map (T.enc .sub) := by
   rw [List.map_append, clr_terms, T.kids_node, List.map_append]; simp
  have hin : N + (T.node f v (ks ++ [t2])).inner ≤ 12 := by
   have e1 : (T.node f v (ks ++ [t2])).inner = ks.length + 1 + (T.inners ks + (t2.inner + 0)) := by
    rw [T.inner_eq, T.kids_node, inners_app]; simp only [List.length_append, List.length_cons, List.length_nil, T.inners]
   have e2 : (T.node f v ks).inner = ks.length + T.inners ks := by rw [T.inner_eq, T.kids_node]
   omega
  have hres := h2.read5 (.node f v (ks ++ [t2])) U _ hX 12 hin ⟨h.rg.1, rngs_app h.rg.2 ⟨hi2.2, trivial⟩⟩
  simp only [T.f_node, T.v_node] at hres
  have hj0 : (0 : Nat) ≠ j := by omega
  have hkl : (ks.length + 1) * 40 ≤ 140737488355328 := by
   have e2 : (T.node f v ks).inner = ks.length + T.inners ks := by rw [T.inner_eq, T.kids_node]
   omega
  have ha : xappend 3 40 (.sl U (ks.map (T.enc U))) (.sl .sub [t2.enc g2]) = some (.sl U (ks.map (T.enc U) ++ [t2.enc g2])) := by
   unfold xappend
   simp only
   rw [if_pos (by simp [isCell_int, isCell_sl])]
   simp only [List.isEmpty_cons, Bool.false_eq_true, if_false]
   rw [if_pos ⟨by simpa using hkl, trivial, by simp⟩]
  have hrl := row3_len A (.d (.int .i64 f)) (.d (.int .i64 v)) (.d (.sl .sub (ks.map (T.enc .sub)))) D
  have hg2 := row3_2 A (.d (.int .i64 f)) (.d (.int .i64 v)) (.d (.sl U (ks.map (T.enc U)))) D
  have hsp := row3_p2 A (.d (.int .i64 f)) (.d (.int .i64 v)) (.d (.sl .sub (ks.map (T.enc .sub)))) (.d (.sl U (ks.map (T.enc U) ++ [t2.enc g2]))) D
  have hRl : A.length * 3 + 2 < (row3 A (.d (.int .i64 f)) (.d (.int .i64 v)) (.d (.sl U (ks.map (T.enc U)))) D).length := by rw [row3_len]; omega
  have hclr : clrCells B1 j (A.length * 3 + 2) 1 = B1.set j (some (row3 A (.d (.int .i64 f)) (.d (.int .i64 v)) (.d (.sl .sub (ks.map (T.enc .sub)))) D)) := by
   unfold clrCells
   simp only [bget, hat]
   rw [List.drop_eq_getElem_cons hRl, (List.getElem?_eq_some_iff.1 hg2).2]
   simp only [List.take_succ_cons, List.take_zero, AV.clrs, AV.clr, DV.clr, DV.clrs_map, clr_terms]
   rw [row3_p2]
  have hld : loadBox B1 false 1 j (A.length * 3 + 2) = some (.d (.sl U (ks.map (T.enc U)))) := by
   simp only [loadBox, bget, hat, Option.bind_some, Bool.false_eq_true, if_false, hg2]
  have heq : ((B1.set j (some (row3 A (.d (.int .i64 f)) (.d (.int .i64 v)) (.d (.sl .sub (ks.map (T.enc .sub)))) D))).set 0 (some (seedC bs pos2 st2))).set j (some (row3 A (.d (.int .i64 f)) (.d (.int .i64 v)) (.d (.sl U (ks.map (T.enc U) ++ [t2.enc g2]))) D)) = (B1.set 0 (some (seedC bs pos2 st2))).set j (some (row3 A (.d (.int .i64 f)) (.d (.int .i64 v)) (.d (.sl U (ks.map (T.enc U) ++ [t2.enc g2]))) D)) := by
   rw [List.set_comm _ _ (Ne.symm hj0), List.set_set]
  rw [← heq] at hres
  have hle : A.length * 3 + 2 + 1 ≤ A.length * 3 + 3 + D.length * 3 := by omega
  have hj6 : j < 6 := by omega
  have hn6 : ¬ 6 ≤ j := by omega
  have hj0' : ¬ j = 0 := by omega
  refine .inl ⟨[(2, .ptr 1 0), (3, .ptr 5 0)], _, ?_, rfl, rfl, hres⟩
  have g0 : (B1.set j (some (row3 A (.d (.int .i64 f)) (.d (.int .i64 v)) (.d (.sl .sub (ks.map (T.enc .sub)))) D)))[0]? = some (some (seedC bs pos st)) := by rw [bsetc (Ne.symm hj0), bget_iff hb0]
  have gl : (B1.set j (some (row3 A (.d (.int .i64 f)) (.d (.int .i64 v)) (.d (.sl .sub (ks.map (T.enc .sub)))) D))).length = 6 := by simp [hl1]
  have gj : ((B1.set j (some (row3 A (.d (.int .i64 f)) (.d (.int .i64 v)) (.d (.sl .sub (ks.map (T.enc .sub)))) D))).set 0 (some (seedC bs pos2 st2)))[j]? = some (some (row3 A (.d (.int .i64 f)) (.d (.int .i64 v)) (.d (.sl .sub (ks.map (T.enc .sub)))) D)) := by rw [bsetc hj0, List.getElem?_set_self (by omega)]
  clear hres heq hat keepT hB1
  generalize hR' : row3 A (.d (.int .i64 f)) (.d (.int .i64 v)) (.d (.sl .sub (ks.map (T.enc .sub)))) D = R' at *
  generalize row3 A (.d (.int .i64 f)) (.d (.int .i64 v)) (.d (.sl U (ks.map (T.enc U) ++ [t2.enc g2]))) D = R'' at *
  generalize hB3 : B1.set j (some R') = B3 at *
  have g0' : ∀ h : 0 < B3.length, B3[0]'h = some (seedC bs pos st) := fun h => (List.getElem?_eq_some_iff.1 g0).2
  have hsd := datas_seed' bs pos st
  have hsd1 := datas_seed' bs pos2 st2
  have hcl := clrs_seed bs pos st
  have hcl1 := clrs_seed bs pos2 st2
  generalize seedC bs pos st = S0 at *
  generalize seedC bs pos2 st2 = S1 at *
  have gj' : ∀ h : j < (B3.set 0 (some S1)).length, (B3.set 0 (some S1))[j]'h = some R' := fun h => (List.getElem?_eq_some_iff.1 gj).2
  have hc2' : callX XV 166 [.ptr 0 0, .d (.int .i64 1), .d (.int .i64 2)] [some S0] = some (.d (t2.enc g2), [some S1]) := hc2
  simp [case161, r161_7, r161_8, r161_10, r161_12, d161_13, hc, hl1, gl, hn6, hj6, hld, hclr, hc2', g0', hsd, hsd1, hcl, hcl1, ha, hsp, hrl, hle, gj', gj, buildRow, List.replicate, isCell_int, isCell_sl, isCellA_d, safe_d, xstoreBox, -clrCells, -loadBox, lk, hj0']
 have n2 : (r == 2) = false := by simpa using c2
 by_cases c3 : r = 3
 ·subst c3
  obtain ⟨t2, g2, B2, hi2, hT2, hc2⟩ := drawDeep_at bs hl 3 (by omega) 3 (by omega) B1 0 h1.seed
  have h2 := h1.turn hT2
  have hl2 := h2.len
  have h21 := h2.one
  have hB21 : ∀ h : 1 < B2.length, B2[1]'h = some [.d (.int .i64 0), .d (.int .i64 0), .d (.sl U [])] := fun h => (List.getElem?_eq_some_iff.1 h21).2
  obtain ⟨f2, vw2, ks2⟩ := t2
  obtain ⟨pos2, st2, hp2, hb2⟩ := h2.seed
  have hc2' : callX XV 166 [.ptr 0 0, .d (.int .i64 3), .d (.int .i64 3)] B1 = some (.d ((T.node f2 vw2 ks2).enc g2), B2) := hc2
  refine .inr ⟨.node f2 vw2 ks2, g2, B2.set 1 (some [.d (.int .i64 f2), .d (.int .i64 vw2), .d (.sl g2 (ks2.map (T.enc g2)))]), ?_, ⟨pos2, st2, hp2, by simp only [bget]; rw [bsetc (by omega), bget_iff hb2]⟩, by simp [hl2], by rw [List.getElem?_set_self (by omega)]; simp, by have := hi2.1; simp at this; omega, hi2.2⟩
  simp [case161, r161_7, r161_8, r161_10, r161_12, r161_14, r161_15, hc, hc2', hl2, hB21, splice, isCell_int, isCell_sl, isCellA_d, safe_d, xstoreBox]
 have n3 : (r == 3) = false := by simpa using c3
 have hin : Read5 bs B1 12 := by
  have := h1.read5 (.node f v ks) U (ks.map (T.enc U)) (kidsU_clr ks) 12 (by omega) h.rg
  simp only [T.f_node, T.v_node] at this
  rwa [show B1.set j (some (row3 A (.d (.int .i64 f)) (.d (.int .i64 v)) (.d (.sl U (ks.map (T.enc U)))) D)) = B1 from by
   apply List.ext_getElem?
   intro i
   by_cases hij : j = i
   ·subst hij; rw [List.getElem?_set_self', hat]; simp
   ·rw [List.getElem?_set_ne hij]] at this
 refine .inl ⟨[(0, .ptr 0 0), (2, .ptr 1 0), (3, .ptr 5 0), (69, .d (.bool false))], B1, ?_, rfl, rfl, hin⟩
 simp [case161, r161_7, r161_8, r161_10, r161_12, r161_14, hc, n0, n1, n2, n3]
end Go.Proofs.Ytidlpcgcolcfgaa.VS
namespace Go.Proofs.Ytidlpcgcolcfgaa.VS
theorem l3Draw_at (bs : List Int) (hl : bs.length ≤ 1099511627776) (pos st : Int) (hp : 0 ≤ pos ∧ pos ≤ bs.length) :
  ∃ (t : T) (g : Tag) (pos' st' : Int), (t.inner ≤ 14 ∧ t.rng) ∧ (0 ≤ pos' ∧ pos' ≤ bs.length) ∧ callX XV 161 [.ptr 0 0] [some (seedC bs pos st)] = some (.d (t.enc g), [some (seedC bs pos' st')]) := by
 have hs0 : SeedAt bs 0 [some (seedC bs pos st), some [.d (.int .i64 0), .d (.int .i64 0), .d (.sl U [])], none, none, none, none] := ⟨pos, st, hp, rfl⟩
 obtain ⟨t0, B1, hi0, _, ⟨pos1, st1, hp1, rfl⟩, hc⟩ := drawRight_at bs hl 3 (by omega) _ 0 hs0
 simp only [List.set_cons_zero] at hc
 obtain ⟨f, v, ks⟩ := t0
 have hW : WS bs 5 0 [some (seedC bs pos1 st1), some [.d (.int .i64 0), .d (.int .i64 0), .d (.sl U [])], none, none, none, some [.d (.int .i64 f), .d (.int .i64 v), .d (.sl U (ks.map (T.enc U)))]] [] [] f v ks 0 := by
  refine ⟨rfl, by omega, rfl, ⟨pos1, st1, hp1, rfl⟩, rfl, fun i h1 h2 => ?_, rfl, fun rs hr => ?_, Ctx.base _, by omega, hi0.2⟩
  ·rcases i with _ | _ | _ | _ | _ | i <;> first | omega | rfl
  ·simp [xrest_seed rs hr bs pos1 st1, rest_encs]
 obtain ⟨j, k, B2, A, D, f', v', ks', N, hW2, hloop⟩ := loop161 bs hl 3 5 0 _ [] [] f v ks 0 rfl hW ⟨[(0, .ptr 0 0), (2, .ptr 1 0), (3, .ptr 5 0), (4, .ptr 5 0), (5, .d (.int .i64 0))], [some (seedC bs pos1 st1), some [.d (.int .i64 0), .d (.int .i64 0), .d (.sl U [])], none, none, none, some [.d (.int .i64 f), .d (.int .i64 v), .d (.sl U (ks.map (T.enc U)))]]⟩ (by simp [xheadOf, safeRegs])
 have hcase := case161_ok bs hl hW2 (.int .i64 k) (.bool false)
 have start : ∀ q : Option (AV × Boxs), xFin 1 [.cell 2 true 3] (codeX XV (XV.lin 161) (.seq case161 finc161) ⟨[(0, .ptr 0 0), (2, .ptr 1 0), (3, .ptr 5 0), (4, .ptr j (A.length * 3)), (5, .d (.int .i64 k)), (22, .d (.bool false))], B2⟩) = q → callX XV 161 [.ptr 0 0] [some (seedC bs pos st)] = q := by
  intro q hq
  rw [z_callB XV _ _ _ v161 rfl xcode_161 rfl (m := 1) rfl rfl, v161_eq]
  simp only [clrBs_some, clrBs_nil, clrs_seed]
  rw [← hq]
  simp only [lin_161] at hloop ⊢
  generalize VCode.seq case161 finc161 = G
  simp [r161_0, r161_1, r161_2, r161_3, hc, splice, isCell_int, isCell_sl, isCellA_d, safe_d]
  rw [hloop]
  simp
 rcases hcase with ⟨r', B', e1, e2, e3, hlen, ⟨pos2, st2, hp2, hb⟩, hone, c5, ds5, t', q1, q2, q3, q4, q5⟩ | ⟨t, g, B', e1, ⟨pos2, st2, hp2, hb⟩, hlen, hone, hi, hir⟩
 ·obtain ⟨C, hf⟩ := fin161 B' (some (seedC bs pos2 st2)) none _ _ _ hlen (bget_iff hb) hone r' e2 e3 t' c5 ds5 q1 q2 q3
  refine ⟨t', .sub, pos2, st2, ⟨by omega, q5⟩, hp2, start _ ?_⟩
  rw [codeX_seq, e1]
  simp only [xThen_normal]
  unfold finc161
  rw [hf]
  obtain ⟨f2, vw2, ks2⟩ := t'
  simp [loadBox]
 ·refine ⟨t, g, pos2, st2, ⟨hi, hir⟩, hp2, start _ ?_⟩
  rw [codeX_seq, e1]
  simp only [xThen_ret]
  obtain ⟨f2, vw2, ks2⟩ := t
  match B', hlen with
  | [b0, b1, b2, b3, b4, b5], _ =>
   have hb0 := bget_iff hb
   simp at hb0 hone
   subst hb0; subst hone
   simp [loadBox]
end Go.Proofs.Ytidlpcgcolcfgaa.VS
namespace Go.Proofs.Ytidlpcgcolcfgaa.VS
theorem datas_seed (bs : List Int) (pos st : Int) : datas (seedC bs pos st) = some [.sl .sub (bs.map (.int .u8)), .int .i64 pos, .int .i64 st] := by simp [seedC]
end Go.Proofs.Ytidlpcgcolcfgaa.VS
namespace Go.Proofs.Ytidlpcgcolcfgaa.VS
end Go.Proofs.Ytidlpcgcolcfgaa.VS
namespace Go.Proofs.Ytidlpcgcolcfgaa.VS
end Go.Proofs.Ytidlpcgcolcfgaa.VS
namespace Go.Proofs.Ytidlpcgcolcfgaa.VS
theorem sameInts_self (l : List Int) (hl : l.length ≤ 4398046511104) : callX XV 188 [.d (is l), .d (is l)] [] = some (.d (.bool true), []) := by
 rw [z_call XV _ _ _ v188 rfl xcode_188 rfl]
 have hloop := loopX_upto (X := XV) (T := []) (L := 0) (live := [0, 1, 5]) (b := b188_0) (n := l.length) (γ := Unit) (st := fun (_ : Unit) i => ⟨[(0, .d (is l)), (1, .d (is l)), (5, .d (.int .i64 i))], []⟩) (step := fun _ _ => .inl ())
  (F := fun _ => (.exit 0, ⟨[(0, .d (is l)), (1, .d (is l)), (5, .d (.int .i64 l.length)), (14, .d (.bool false))], []⟩)) (R := fun _ => (.ret, ⟨[], []⟩))
  (fun _ => ⟨by simp, by simp [b188_0, r188_0, r188_1, r188_2, r188_3, r188_4, d188_6, r188_7, r188_5, r188_8]⟩)
  (fun _ i hi => by
   have hw := wrap_succ (n := i) (by omega)
   exact ⟨_, by simp [b188_0, r188_0, r188_1, r188_2, r188_3, r188_4, d188_6, r188_7, r188_5, r188_8, hi, hw, cut, iAt_lt hi]; rfl, by simp [xheadOf, safeRegs]⟩)
  l.length () 0 ⟨[(0, .d (is l)), (1, .d (is l)), (5, .d (.int .i64 0))], []⟩ (by omega) (by simp [xheadOf, safeRegs])
 rw [run_on] at hloop
 simp [v188, r188_0, r188_1, r188_2, r188_3, r188_4, d188_6, r188_7, r188_5, r188_8]
 rw [hloop]
 simp [v188, r188_0, r188_1, r188_2, r188_3, r188_4, d188_6, r188_7, r188_5, r188_8]
end Go.Proofs.Ytidlpcgcolcfgaa.VS
namespace Go.Proofs.Ytidlpcgcolcfgaa.VS
theorem drawVarsOf_eq (bs : List Int) (hl : bs.length ≤ 1099511627776) : ∃ (t : T) (g : Tag), (t.inner ≤ 14 ∧ t.rng) ∧ callX XV 184 [.d (.sl .sub (bs.map (.int .u8)))] [] = some (.d (t.enc g), []) := by
 obtain ⟨st, h1⟩ := l1New_eq bs hl [some [.d (.int .i64 0), .d (.int .i64 0), .d (.sl U [])]]
 obtain ⟨t, g, p2, s2, h2, _, h3⟩ := l3Draw_at bs hl 0 st ⟨Int.le_refl _, by omega⟩
 refine ⟨t, g, h2, ?_⟩
 rw [z_call XV _ _ _ v184 rfl xcode_184 rfl]
 obtain ⟨f, v, ks⟩ := t
 simp [v184, r184_0, r184_1, h1, h3, datas_seed, clrs_seed, splice, isCell_int, isCell_sl, isCellA_d, safe_d, loadBox]
theorem drawParts_eq (bs : List Int) (hl : bs.length ≤ 1099511627776) : ∃ (t : T) (g : Tag), (t.inner ≤ 14 ∧ t.rng) ∧ callX XV 185 [.d (.sl .sub (bs.map (.int .u8)))] [] = some (.d (t.enc g), []) := by
 obtain ⟨st, h1⟩ := l1New_eq bs hl [some [.d (.int .i64 0), .d (.int .i64 0), .d (.sl U [])]]
 obtain ⟨t, g, p2, s2, h2, _, h3⟩ := l3Draw_at bs hl 0 st ⟨Int.le_refl _, by omega⟩
 refine ⟨t, g, h2, ?_⟩
 rw [z_call XV _ _ _ v185 rfl xcode_185 rfl]
 obtain ⟨f, v, ks⟩ := t
 simp [v185, r185_0, r185_1, h1, h3, datas_seed, clrs_seed, splice, isCell_int, isCell_sl, isCellA_d, safe_d, loadBox]
theorem drawTermText_eq (bs : List Int) (hl : bs.length ≤ 1099511627776) : ∃ (t : T), (t.inner ≤ 14 ∧ t.rng) ∧ callX XV 187 [.d (.sl .sub (bs.map (.int .u8)))] [] = some (.d (.tup [.sl U (sig0.map SymL.enc), t.enc .sub]), []) := by
 obtain ⟨st, h1⟩ := l1New_eq bs hl [some [.d (.int .i64 0), .d (.int .i64 0), .d (.sl U [])]]
 obtain ⟨t, g, p2, s2, h2, _, h3⟩ := l3Draw_at bs hl 0 st ⟨Int.le_refl _, by omega⟩
 refine ⟨t, h2, ?_⟩
 rw [z_call XV _ _ _ v187 rfl xcode_187 rfl]
 obtain ⟨f, v, ks⟩ := t
 have hs := l2Sig_eq
 generalize hq : sig0.map SymL.enc = sq at hs ⊢
 have hqc : sq.map DV.clr = sq := by rw [← hq]; exact clr_symsE _
 simp [v187, r187_0, r187_1, r187_2, h1, h3, hs, hqc, datas_seed, clrs_seed, splice, isCell_int, isCell_sl, isCellA_d, safe_d, loadBox]
theorem drawCount_eq (bs : List Int) (hl : bs.length ≤ 1099511627776) : ∃ (t : T) (n : Int), (t.inner ≤ 14 ∧ t.rng) ∧ callX XV 186 [.d (.sl .sub (bs.map (.int .u8)))] [] = some (.d (.tup [t.enc .sub, .int .i64 n]), []) := by
 obtain ⟨st, h1⟩ := l1New_eq bs hl [some [.d (.int .i64 0), .d (.int .i64 0), .d (.sl U [])]]
 obtain ⟨t, g, p2, s2, h2, hp2, h3⟩ := l3Draw_at bs hl 0 st ⟨Int.le_refl _, by omega⟩
 obtain ⟨f, v, ks⟩ := t
 obtain ⟨r, B2, hr, ⟨pos2, st2, hp3, rfl⟩, hc2⟩ := l1Below_at bs hl [some (seedC bs p2 s2)] 0 ⟨p2, s2, hp2, rfl⟩ 3 (by omega) (by omega)
 refine ⟨.node f v ks, r, h2, ?_⟩
 rw [z_call XV _ _ _ v186 rfl xcode_186 rfl]
 simp at hc2
 simp [v186, r186_0, r186_1, r186_2, d186_3, h1, h3, hc2, datas_seed, clrs_seed, splice, isCell_int, isCell_sl, isCellA_d, safe_d, loadBox]
theorem drawTermSame_eq (bs : List Int) (hl : bs.length ≤ 1099511627776) : ∃ (a b : T), (a.inner ≤ 14 ∧ a.rng) ∧ (b.inner ≤ 14 ∧ b.rng) ∧ callX XV 183 [.d (.sl .sub (bs.map (.int .u8)))] [] = some (.d (.tup [a.enc .sub, b.enc .sub]), []) := by
 obtain ⟨st, h1⟩ := l1New_eq bs hl [some [.d (.int .i64 0), .d (.int .i64 0), .d (.sl U [])], some [.d (.int .i64 0), .d (.int .i64 0), .d (.sl U [])]]
 obtain ⟨t, g, p2, s2, h2, hp2, h3⟩ := l3Draw_at bs hl 0 st ⟨Int.le_refl _, by omega⟩
 obtain ⟨f, v, ks⟩ := t
 obtain ⟨b, B2, ⟨pos2, st2, hp3, rfl⟩, hc2⟩ := once_at bs hl [some [.d (.int .i64 0), .d (.int .i64 0), .d (.sl U [])], some [.d (.int .i64 0), .d (.int .i64 0), .d (.sl U [])], some (seedC bs p2 s2), some [.d (.int .i64 f), .d (.int .i64 v), .d (terms g ks)]] 2 ⟨p2, s2, hp2, rfl⟩ 2 (by omega) (by omega)
 simp at hc2
 have hcp := l3Copy_eq (.node f v ks) (by omega)
 cases b with
 | true =>
  refine ⟨.node f v ks, .node f v ks, h2, h2, ?_⟩
  rw [z_call XV _ _ _ v183 rfl xcode_183 rfl]
  simp [v183, r183_0, r183_1, r183_2, r183_3, d183_4, d183_5, h1, h3, hc2, hcp, datas_seed, clrs_seed, splice, isCell_int, isCell_sl, isCellA_d, safe_d, loadBox]
 | false =>
  obtain ⟨u, g', p3, s3, h4, hp4, h5⟩ := l3Draw_at bs hl pos2 st2 hp3
  obtain ⟨f', v', ks'⟩ := u
  refine ⟨.node f v ks, .node f' v' ks', h2, h4, ?_⟩
  rw [z_call XV _ _ _ v183 rfl xcode_183 rfl]
  simp [v183, r183_0, r183_1, r183_2, r183_3, d183_4, d183_5, h1, h3, hc2, h5, datas_seed, clrs_seed, splice, isCell_int, isCell_sl, isCellA_d, safe_d, loadBox]
theorem drawBefore_eq (bs : List Int) (hl : bs.length ≤ 1099511627776) : ∃ (a b : T), (a.inner ≤ 14 ∧ a.rng) ∧ (b.inner ≤ 14 ∧ b.rng) ∧ callX XV 182 [.d (.sl .sub (bs.map (.int .u8)))] [] = some (.d (.tup [a.enc .sub, b.enc .sub]), []) := by
 obtain ⟨a, b, ha, hb, h⟩ := drawTermSame_eq bs hl
 refine ⟨a, b, ha, hb, ?_⟩
 rw [z_call XV _ _ _ v182 rfl xcode_182 rfl]
 obtain ⟨f, v, ks⟩ := a
 obtain ⟨f', v', ks'⟩ := b
 simp [v182, r182_0, r182_1, d182_2, h, splice, isCell_int, isCell_sl, isCellA_d, safe_d, loadBox]
end Go.Proofs.Ytidlpcgcolcfgaa.VS
namespace Go.Proofs.Ytidlpcgcolcfgaa.VS
theorem FnTerms_x (bs : List Int) (hl : bs.length ≤ maxLen) : ∃ B, callX XV 181 [.d (.sl .sub (bs.map (.int .u8)))] [] = some (.d (.bool true), B) := by
 rw [z_call XV _ _ _ v181 rfl xcode_181 rfl]
 have hbig := big_eq bs
 by_cases h1 : 1048576 < bs.length
 ·simp only [h1, decide_true] at hbig
  simp [v181, r181_0, r181_1, r181_2, r181_3, r181_4, r181_5, r181_6, r181_7, d181_8, r181_9, r181_10, r181_11, d181_12, hbig]
 have hls : bs.length ≤ 1099511627776 := by omega
 simp only [h1, decide_false] at hbig
 obtain ⟨a, b, ha, hb, d1⟩ := drawBefore_eq bs hls
 obtain ⟨x, y, hx, hy, d2⟩ := drawTermSame_eq bs hls
 obtain ⟨t, gt, ht, d3⟩ := drawVarsOf_eq bs hls
 obtain ⟨p, gp, hp, d4⟩ := drawParts_eq bs hls
 obtain ⟨c, n, hc, d5⟩ := drawCount_eq bs hls
 obtain ⟨u, hu, d6⟩ := drawTermText_eq bs hls
 have a1 := implBefore_eq a b (by omega) (by omega)
 have a2 := specBefore_eq a b (by omega) (by omega)
 have a3 := implBefore_eq b a (by omega) (by omega)
 have a4 := same_eq a b (by omega) (by omega)
 have b1 := same_eq x y (by omega) (by omega)
 have b2 := specSame_eq x y (by omega) (by omega)
 have c1 := implVarsOf_eq t (by omega)
 have c2 := specVarsOf_eq t (by omega)
 have c3 := sameInts_self (varsL t) (by have := varsL_len t (by omega); omega)
 have e1 := implParts_eq p (by omega)
 have e2 := specParts_eq p (by omega)
 have f1 := implCount_eq c (by omega) n
 have f2 := specCount_eq c (by omega) n
 have k1 := implText_eq sig0 (by decide) (fun i hi => by have := sig0_D.nm 9 (by omega) i hi; omega) u (by omega) hu.2
 have k2 := specText_eq sig0 (by decide) (fun i hi => by have := sig0_D.nm 9 (by omega) i hi; omega) u (by omega) hu.2
 obtain ⟨af, av, ak⟩ := a
 obtain ⟨bf, bv, bk⟩ := b
 obtain ⟨xf, xv, xk⟩ := x
 obtain ⟨yf, yv, yk⟩ := y
 obtain ⟨tf, tv, tk⟩ := t
 obtain ⟨pf, pv, pk⟩ := p
 obtain ⟨cf, cv, ck⟩ := c
 obtain ⟨uf, uv, uk⟩ := u
 have hneg := cmp_neg (.node af av ak) (.node bf bv bk)
 generalize T.cmp (.node af av ak) (.node bf bv bk) = m at *
 generalize T.cmp (.node bf bv bk) (.node af av ak) = m' at *
 generalize T.cmp (.node xf xv xk) (.node yf yv yk) = m2 at *
 generalize T.text sig0 (.node uf uv uk) = tx at *
 generalize varsL (.node tf tv tk) = vl at *
 generalize IntKind.i64.wrap (T.sum (fun _ => 1) (.node pf pv pk)) = w1 at *
 generalize IntKind.i64.wrap (T.sum (wC n) (.node cf cv ck)) = w2 at *
 simp only [sg] at k1 k2
 generalize hq : sig0.map SymL.enc = sq at d6 k1 k2
 have hqc : sq.map DV.clr = sq := by rw [← hq]; exact clr_symsE _
 subst hneg
 refine ⟨[], ?_⟩
 by_cases h0 : m' = 0
 ·subst h0
  simp [v181, r181_0, r181_1, r181_2, r181_3, r181_4, r181_5, r181_6, r181_7, d181_8, r181_9, r181_10, r181_11, d181_12, hbig, d1, d2, d3, d4, d5, d6, a1, a2, a3, a4, b1, b2, c1, c2, c3, e1, e2, f1, f2, k1, k2, hqc, strEq_self, splice, isCell_int, isCell_sl, isCellA_d, safe_d, loadBox]
 ·by_cases hlt : m' < 0
  ·have g1 : ¬ (-m' < 0) := by omega
   have g2 : (-m' == 0) = false := by simpa using h0
   simp [v181, r181_0, r181_1, r181_2, r181_3, r181_4, r181_5, r181_6, r181_7, d181_8, r181_9, r181_10, r181_11, d181_12, hbig, d1, d2, d3, d4, d5, d6, a1, a2, a3, a4, b1, b2, c1, c2, c3, e1, e2, f1, f2, k1, k2, hqc, hlt, g1, g2, h0, strEq_self, splice, isCell_int, isCell_sl, isCellA_d, safe_d, loadBox]; omega
  ·have g1 : (-m' < 0) := by omega
   have g2 : (-m' == 0) = false := by simpa using h0
   simp [v181, r181_0, r181_1, r181_2, r181_3, r181_4, r181_5, r181_6, r181_7, d181_8, r181_9, r181_10, r181_11, d181_12, hbig, d1, d2, d3, d4, d5, d6, a1, a2, a3, a4, b1, b2, c1, c2, c3, e1, e2, f1, f2, k1, k2, hqc, hlt, g1, g2, h0, strEq_self, splice, isCell_int, isCell_sl, isCellA_d, safe_d, loadBox]; omega
end Go.Proofs.Ytidlpcgcolcfgaa.VS
namespace Go.Proofs.Ytidlpcgcolcfgaa.VS
mutual
def TT.erase : TT → T
 | .node f v g ks => .node f v (TT.erases ks)
def TT.erases : List TT → List T
 | [] => []
 | t :: r => t.erase :: TT.erases r
end
mutual
theorem TT.clr_cells : ∀ t : TT, DV.clrs t.cells = [.int .i64 t.erase.f, .int .i64 t.erase.v, terms .sub t.erase.kids]
 | .node f v g ks => by
  simp only [TT.cells, DV.clrs, DV.clr, TT.erase, T.f_node, T.v_node, T.kids_node, terms]
  rw [TT.clr_encs ks]
theorem TT.clr_encs : ∀ l : List TT, DV.clrs (TT.encs l) = (TT.erases l).map (T.enc .sub)
 | [] => by simp [TT.encs, DV.clrs, TT.erases]
 | t :: r => by
  simp only [TT.encs, DV.clrs, DV.clr, TT.erases, List.map_cons]
  rw [TT.clr_cells t, TT.clr_encs r, T.enc_eq]
end
theorem TT.clr_enc (t : TT) : t.enc.clr = t.erase.enc .sub := by
 simp only [TT.enc, DV.clr]
 rw [TT.clr_cells, T.enc_eq]
theorem plain_of_X (hX : XOK XV) {k : Nat} {vs : List DV} (h : ∃ B, callX XV k ((DV.clrs vs).map .d) [] = some (.d (.bool true), B)) : ∃ A B, callV E [] k (vs.map .d) [] Ids.none = some ⟨.d (.bool true), A, B⟩ := by
 obtain ⟨B, h⟩ := h
 obtain ⟨u, A, Bv, h1, h2⟩ := law_of_X hX (DV.clrs_clrs vs) (DV.clrs_fits vs) (d := .bool true) (by simp [DV.clr]) h
 simp only [DV.fit] at h2; subst h2
 exact ⟨A, Bv, h1⟩
theorem args1 {P : Program} {a : TypeId} : ∀ {xs : List (List DV)}, Args P [a] xs → ∃ x, xs = [x]
 | [x], _ => ⟨x, rfl⟩
 | [], h => h.elim
 | _ :: _ :: _, h => h.2.elim
end Go.Proofs.Ytidlpcgcolcfgaa.VS
namespace Go.Proofs.Ytidlpcgcolcfgaa.VS
structure L where
 p : Bool
 a : T
 b : T
def L.enc (g : Tag) (x : L) : DV := .agg [.bool x.p, .int .i64 x.a.f, .int .i64 x.a.v, terms g x.a.kids, .int .i64 x.b.f, .int .i64 x.b.v, terms g x.b.kids]
def L.ok (x : L) : Prop := x.a.ok ∧ x.b.ok
@[simp] theorem L.cells_enc (g : Tag) (x : L) : (x.enc g).cells = [.bool x.p, .int .i64 x.a.f, .int .i64 x.a.v, terms g x.a.kids, .int .i64 x.b.f, .int .i64 x.b.v, terms g x.b.kids] := rfl
@[simp] theorem L.cellsA_enc (g : Tag) (x : L) : (AV.d (x.enc g)).cells = [.d (.bool x.p), .d (.int .i64 x.a.f), .d (.int .i64 x.a.v), .d (terms g x.a.kids), .d (.int .i64 x.b.f), .d (.int .i64 x.b.v), .d (terms g x.b.kids)] := rfl
@[simp] theorem L.isCell_enc (g : Tag) (x : L) : (x.enc g).isCell = false := rfl
@[simp] theorem L.clr_enc (g : Tag) (x : L) : (x.enc g).clr = x.enc .sub := by
 simp only [L.enc, DV.clr, DV.clrs, terms, DV.clrs_map, clr_terms]
theorem L.agg_enc (g : Tag) (x : L) : DV.agg [.bool x.p, .int .i64 x.a.f, .int .i64 x.a.v, terms g x.a.kids, .int .i64 x.b.f, .int .i64 x.b.v, terms g x.b.kids] = x.enc g := rfl
def L.cmp (x y : L) : Int := if !x.p && y.p then -1 else if x.p && !y.p then 1 else if T.cmp x.a y.a ≠ 0 then T.cmp x.a y.a else T.cmp x.b y.b
def L.same (x y : L) : Bool := x.p == y.p && (T.cmp x.a y.a == 0) && (T.cmp x.b y.b == 0)
theorem L.cmp_zero (x y : L) : (L.cmp x y == 0) = L.same x y := by
 obtain ⟨p, a, b⟩ := x
 obtain ⟨q, a', b'⟩ := y
 unfold L.cmp L.same
 cases p <;> cases q <;> by_cases c : T.cmp a a' = 0 <;> simp [c]
end Go.Proofs.Ytidlpcgcolcfgaa.VS
