/- Contracts of the program's functions on the evaluator without names, and plain lemmas: part 3. -/
import Derived.Test.YtnjgnjejkmcgmaaXP2
namespace Go.Proofs.Ytnjgnjejkmcgmaa.VS
set_option linter.unusedVariables false
set_option linter.unusedSimpArgs false
theorem loop169 (s : List SymL) (hs : s.length ≤ 1099511627776) (f v : Int) (ks : List T) (hl : cnts ks ≤ 1099511627776)
    (hc : ∀ t, t ∈ ks → callX XV 169 [.d (sg s), .d (t.enc .sub)] [] = some (.d ((t.norm s).enc U), [])) : ∀ (k i : Nat), i + k = ks.length → ∀ e : Boxs,
    loopX XV (XV.lin 169) 2 [0, 3, 4, 5, 10, 11, 12] b169_0 ⟨[(0, .d (sg s)), (3, .ptr 0 0), (4, .ptr 1 0), (5, .d (.sl U ((accK s f ks i).map (T.enc U)))), (10, .d (terms .sub ks)), (11, .d (.int .i64 ks.length)), (12, .d (.int .i64 i))], nB f v ks ++ e⟩ =
      some (.exit 0, ⟨[(0, .d (sg s)), (3, .ptr 0 0), (4, .ptr 1 0), (5, .d (.sl U ((flatK s f (T.norms s ks)).map (T.enc U)))), (10, .d (terms .sub ks)), (11, .d (.int .i64 ks.length)), (12, .d (.int .i64 ks.length)), (13, .d (.bool false))], nB f v ks⟩) := by
  have head : ∀ (x y : AV) (e : Boxs), y.clr = y → x.safe 2 = true → y.safe 2 = true → xheadOf 2 [0, 3, 4, 5, 10, 11, 12] ⟨[(0, .d (sg s)), (3, .ptr 0 0), (4, .ptr 1 0), (5, x), (10, .d (terms .sub ks)), (11, .d (.int .i64 ks.length)), (12, y)], nB f v ks ++ e⟩ = some ⟨[(0, .d (sg s)), (3, .ptr 0 0), (4, .ptr 1 0), (5, x), (10, .d (terms .sub ks)), (11, .d (.int .i64 ks.length)), (12, y)], nB f v ks⟩ := fun x y e hy hx hy2 =>
    head_cut (by simp) (by simp [safeRegs, hx, hy2]) (by simp [nB]) rfl
  intro k
  induction k with
  | zero =>
    intro i hi e
    have : i = ks.length := by omega
    subst this
    refine loopX_out (head _ _ e (by simp) (by simp) (by simp)) ?_ (by simp)
    rw [accK_all]
    simp [b169_0, r169_0, r169_1, r169_2, r169_3, r169_4, r169_5, r169_6, r169_7, r169_8, r169_9, r169_10, r169_11, r169_12, r169_13]
  | succ k ih =>
    intro i hi e
    have hlt : i < ks.length := by omega
    have hm := tAt_mem hlt
    have h1 := mem_inner hm
    have h2 := inner_norm s (tAt ks i)
    have h3 := accK_cnts s f ks i
    have h4 := len_cnts (accK s f ks i)
    have h5 : ((tAt ks i).norm s).kids.length ≤ 1099511627776 := by have := len_cnts ((tAt ks i).norm s).kids; rw [cnts_kids] at this; omega
    obtain ⟨e', he⟩ := kid169 s hs f v ks (accK s f ks i) (by have := len_cnts ks; omega) i hlt (by omega) h5 (hc _ hm)
    rw [← ih (i + 1) (by omega) e', accK_succ s f ks i hlt]
    exact loopX_go (head _ _ e (by simp) (by simp) (by simp)) he
theorem pre169 (s : List SymL) (hs : s.length ≤ 1099511627776) (f v : Int) (ks : List T) (hl : cnts ks ≤ 1099511627776)
    (hc : ∀ t, t ∈ ks → callX XV 169 [.d (sg s), .d (t.enc .sub)] [] = some (.d ((t.norm s).enc U), [])) :
    codeX XV (XV.lin 169) s169.pre ⟨argRegs 0 [.d (sg s), .d ((T.node f v ks).enc .sub)], []⟩ =
      some (.normal, ⟨[(3, .ptr 0 0), (4, .ptr 1 0), (5, .d (.sl U ((flatK s f (T.norms s ks)).map (T.enc U)))), (42, .d (.bool (blindB s f)))], nB f v ks⟩) := by
  have hloop := loop169 s hs f v ks hl hc ks.length 0 (by omega) []
  have hb := implBlind_eq s hs f
  simp only [accK_zero, List.map_nil, List.append_nil, lin_169, nB, Int.natCast_zero] at hloop
  simp [s169, specSF, r169_0, r169_1, r169_2, r169_10, splice, isCell_int, isCell_sl, isCellA_d, safe_d, loadBox, AV.clrs_map, nB]
  rw [hloop]
  simp [r169_10, hb, loadBox]
theorem kc_cells : ∀ l : List T, ((l.map (T.enc U)).flatMap DV.cells).map AV.d = kc l := fun l => by rw [kc_row]; rfl
theorem sort_row (t : T) (r : List T) (hl : cnts (t :: r) ≤ 1099511627776) : xsort (callX XV) s169 (t.enc U) (r.map (T.enc U)) = some ((isort (t :: r)).map (T.enc U)) := by
  have hlen := len_cnts (t :: r)
  obtain ⟨l', p1, p2, p3⟩ := sortStable_eq (t :: r) (by omega) (fun x hx => by have := mem_inner hx; omega)
  have he := isort_eq p1 p2
  have hu := allU_row (t :: r)
  have hk := kc_cells (t :: r)
  simp only [List.map_cons] at hu hk
  unfold xsort
  rw [if_pos hu, hk]
  have e1 : (T.enc U t).cells.length = 3 := by simp
  have e2 : (r.map (T.enc U)).length + 1 = (t :: r).length := by simp
  rw [e1, e2]
  have e3 : callX XV s169.srt [.tsl true 0 3 (t :: r).length, .fn s169.cmp []] [some (kc (t :: r))] = some (.d (.tup []), [some (kc l')]) := p3
  rw [e3]
  have hll : l'.length = (t :: r).length := p1.length_eq
  have e4 : datas (kc l') = some (flat (l'.map (T.enc U))) := by rw [kc_row]; exact datas_row _
  have e5 := chunks_row (l'.map (T.enc U)) (encs_ok U l')
  have e6 : (flat (l'.map (T.enc U))).length = (t :: r).length * 3 := by
    have := datas_some e4
    have h2 := kc_len l'
    rw [this, List.length_map] at h2
    rw [h2, hll]
  simp only [e4, Option.bind_some]
  rw [if_pos e6, ← hll]
  rw [List.length_map] at e5
  rw [e5, he]
theorem specX_sorted {X : XEnv} {T : List Nat} {sf : SFn} {ds : List DV} {S : XS} {x : DV} {xr : List DV} {y : DV × DV} {q : List DV} (hn : ds.length = sf.np) (hp : codeX X T sf.pre ⟨argRegs 0 (ds.map .d), []⟩ = some (.normal, S))
    (h1 : lk S.r sf.cond = some (.d (.bool true))) (h2 : lk S.r sf.row = some (.d (.sl U (x :: xr)))) (h3 : xspecAt S = some y) (h4 : xsort (callX X) sf x xr = some q) : specX X T sf ds = some (.agg [y.1, y.2, .sl U q]) := by
  unfold specX
  rw [if_neg (by simpa using hn), hp]
  simp only [Option.bind_some]
  rw [h1, h2]
  simp only [U]
  rw [h3]
  simp only [Option.bind_some, h4, Option.map_some]
theorem implNorm_of (s : List SymL) (hs : s.length ≤ 1099511627776) (f v : Int) (ks : List T) (hl : cnts ks ≤ 1099511627776)
    (hc : ∀ t, t ∈ ks → callX XV 169 [.d (sg s), .d (t.enc .sub)] [] = some (.d ((t.norm s).enc U), [])) :
    callX XV 169 [.d (sg s), .d ((T.node f v ks).enc .sub)] [] = some (.d (((T.node f v ks).norm s).enc U), []) := by
  have hp := pre169 s hs f v ks hl hc
  have hcn : cnts (flatK s f (T.norms s ks)) ≤ 1099511627776 := by
    have := cnts_flatK s f (T.norms s ks); have := cnts_norms s ks; omega
  rw [callX_spec XV 169 _ _ s169 rfl xnone_169 xspec_169]
  simp only [datas, Option.bind_some, Option.map_some]
  have slow : specX XV (XV.lin 169) s169 [sg s, (T.node f v ks).enc .sub] = specX XV (XV.lin 169) s169 [sg s, (T.node f v ks).enc .sub] := rfl
  conv at slow => rhs; unfold specX
  rw [if_neg (by simp [s169, specSF])] at slow
  simp only [List.map_cons, List.map_nil] at slow
  rw [hp] at slow
  simp only [T.norm]
  by_cases hb : blindB s f = true
  · rw [if_pos hb]
    cases hq : flatK s f (T.norms s ks) with
    | nil =>
      rw [slow]
      have hz : isort ([] : List T) = [] := rfl
      have hsn := sort_nil (nB f v ks)
      simp only [nB] at hsn
      simp [s169, specSF, hb, hq, lk, nB, hz, hsn, splice, isCell_int, isCell_sl, isCellA_d, safe_d, loadBox]
      rw [T.enc_eq]; rfl
    | cons x r =>
      rw [hq] at hcn
      have hr := sort_row x r hcn
      have := specX_sorted (X := XV) (T := XV.lin 169) (sf := s169) (ds := [sg s, (T.node f v ks).enc .sub]) (x := x.enc U) (xr := r.map (T.enc U)) (y := (.int .i64 f, .int .i64 v)) rfl hp (by simp [s169, specSF, lk, hb]) (by simp [s169, specSF, lk, hq]) (by simp [xspecAt, lk, nB, DV.flat, isCell_int]) hr
      rw [this]
      simp only [Option.map_some]
      rw [T.enc_eq]
      rfl
  · rw [if_neg hb, slow]
    have hb' : blindB s f = false := by simpa using hb
    simp [s169, specSF, hb', lk, nB, splice, isCell_int, isCell_sl, isCellA_d, safe_d, loadBox]
theorem implNorm_eq (s : List SymL) (hs : s.length ≤ 1099511627776) (t : T) (ht : t.inner ≤ 1099511627776) : callX XV 169 [.d (sg s), .d (t.enc .sub)] [] = some (.d ((t.norm s).enc U), []) := by
  match t, ht with
  | .node f v ks, ht =>
    rw [T.inner_node] at ht
    exact implNorm_of s hs f v ks ht fun x hx => implNorm_eq s hs x (by have := mem_inner hx; omega)
termination_by t
decreasing_by
  simp_wf
  have := List.sizeOf_lt_of_mem hx
  omega
end Go.Proofs.Ytnjgnjejkmcgmaa.VS
namespace Go.Proofs.Ytnjgnjejkmcgmaa.VS
set_option linter.unusedVariables false
set_option linter.unusedSimpArgs false
theorem app_subs (a c : List T) (g : Tag) (h : (a.length + c.length) * 40 ≤ 140737488355328) : xappend 3 40 (.sl U (a.map (T.enc .sub))) (.sl g (c.map (T.enc .sub))) = some (.sl U ((a ++ c).map (T.enc .sub))) := by
  have h1 : (c.map (T.enc .sub)).all (fun e => decide (e.cells.length = 3 ∧ e.cells.all DV.isCell = true)) = true := by
    simp [isCell_int, isCell_sl]
  have h2 : (a.map (T.enc .sub)).all (fun e => decide (e.cells.length = 3)) = true := by simp
  unfold xappend
  simp only
  rw [if_pos h1]
  cases c with
  | nil => simp
  | cons x r =>
    simp only [List.map_cons, List.isEmpty_cons, Bool.false_eq_true, if_false]
    rw [if_pos ⟨by simpa using h, trivial, h2⟩]
    simp
def putAt (t : T) (l : List T) : Nat := match findAt (fun i => decide (T.cmp t (tAt l i) < 0)) l.length 0 with
  | some j => j
  | none => l.length
theorem findAt_both (q : Nat → Bool) : ∀ (k i : Nat), (∀ j, findAt q k i = some j → ∀ m, i ≤ m → m < j → q m = false) ∧ (findAt q k i = none → ∀ m, i ≤ m → m < i + k → q m = false)
  | 0, i => ⟨fun j h => by simp [findAt] at h, fun _ m h1 h2 => by omega⟩
  | k + 1, i => by
    have ih := findAt_both q k (i + 1)
    simp only [findAt]
    by_cases h : q i = true
    · simp only [h, if_true]
      exact ⟨fun j hj m h1 h2 => by simp at hj; omega, fun h => by simp at h⟩
    · simp only [h, Bool.false_eq_true, if_false]
      refine ⟨fun j hj m h1 h2 => ?_, fun hn m h1 h2 => ?_⟩
      · by_cases e : m = i
        · subst e; simpa using h
        · exact ih.1 j hj m (by omega) h2
      · by_cases e : m = i
        · subst e; simpa using h
        · exact ih.2 hn m (by omega) (by omega)
theorem putAt_le (t : T) (l : List T) : putAt t l ≤ l.length := by
  unfold putAt
  split
  · rename_i j h; have := (findAt_lt _ _ _ _ h).2.1; omega
  · omega
theorem putAt_ins (t : T) (l : List T) : ins t l = l.take (putAt t l) ++ t :: l.drop (putAt t l) := by
  have h := findAt_both (fun i => decide (T.cmp t (tAt l i) < 0)) l.length 0
  refine ins_at t l _ (putAt_le t l) (fun i hi => ?_) (fun hlt => ?_)
  · unfold putAt at hi
    split at hi
    · rename_i j hj
      simpa using h.1 j hj i (by omega) hi
    · rename_i hn
      simpa using h.2 hn i (by omega) (by omega)
  · unfold putAt at hlt ⊢
    split
    · rename_i j hj
      simpa using (findAt_lt _ _ _ _ hj).2.2
    · rename_i hn; rw [hn] at hlt; simp at hlt
theorem l4Put_eq (l : List T) (t : T) (hl : cnts l ≤ 1099511627776) (ht : t.inner ≤ 1099511627776) : callX XV 154 [.d (terms .sub l), .d (t.enc .sub)] [] = some (.d (.sl U ((ins t l).map (T.enc .sub))), []) := by
  have hlen := len_cnts l
  have hlt := putAt_le t l
  have hb : ∀ i, i < l.length → callX XV 84 [.d (t.enc .sub), .d ((tAt l i).enc .sub)] [] = some (.d (.bool (decide (T.cmp t (tAt l i) < 0))), []) := fun i hi => specBefore_eq t (tAt l i) ht (by have := mem_inner (tAt_mem hi); omega)
  rw [z_call XV _ _ _ v154 rfl xcode_154 rfl]
  have h := loopX_upto (X := XV) (T := XV.lin 154) (L := 1) (live := [0, 3, 5]) (b := b154_0) (n := l.length) (st := fun (_ : Unit) i => ⟨[(0, .d (terms .sub l)), (3, .ptr 0 0), (5, .d (.int .i64 i))], [some [.d (.int .i64 t.f), .d (.int .i64 t.v), .d (terms .sub t.kids)]]⟩) (step := stepF fun i => decide (T.cmp t (tAt l i) < 0))
    (F := fun _ => (.exit 0, ⟨[(0, .d (terms .sub l)), (3, .ptr 0 0), (5, .d (.int .i64 l.length)), (19, .d (.bool false))], [some [.d (.int .i64 t.f), .d (.int .i64 t.v), .d (terms .sub t.kids)]]⟩)) (R := fun (j : Nat) => (.exit 0, ⟨[(0, .d (terms .sub l)), (3, .ptr 0 0), (5, .d (.int .i64 j)), (19, .d (.bool false))], [some [.d (.int .i64 t.f), .d (.int .i64 t.v), .d (terms .sub t.kids)]]⟩))
    (fun a => ⟨by simp, by simp [b154_0, r154_0, r154_1, d154_2, r154_3, r154_4, r154_5, r154_6]⟩)
    (fun a i hi => by
      have hw := wrap_succ (n := i) (by omega)
      have hc := hb i hi
      unfold stepF
      by_cases hq : decide (T.cmp t (tAt l i) < 0) = true
      · rw [if_pos hq]
        rw [hq] at hc
        exact ⟨by simp, by simp [b154_0, r154_0, r154_1, d154_2, r154_3, r154_4, r154_5, r154_6, hi, hw, cut, tAt_lt hi, hc, loadBox]⟩
      · rw [if_neg hq]
        have hq' : decide (T.cmp t (tAt l i) < 0) = false := by simpa using hq
        rw [hq'] at hc
        exact ⟨⟨[(0, .d (terms .sub l)), (3, .ptr 0 0), (5, .d (.int .i64 (i + 1 : Nat)))], [some [.d (.int .i64 t.f), .d (.int .i64 t.v), .d (terms .sub t.kids)]]⟩, by simp [b154_0, r154_0, r154_1, d154_2, r154_3, r154_4, r154_5, r154_6, hi, hw, cut, tAt_lt hi, hc, loadBox], by simp [xheadOf, safeRegs]⟩)
    l.length () 0 ⟨[(0, .d (terms .sub l)), (3, .ptr 0 0), (5, .d (.int .i64 0))], [some [.d (.int .i64 t.f), .d (.int .i64 t.v), .d (terms .sub t.kids)]]⟩ (by omega) (by simp [xheadOf, safeRegs])
  have h' : loopX XV (XV.lin 154) 1 [0, 3, 5] b154_0 ⟨[(0, .d (terms .sub l)), (3, .ptr 0 0), (5, .d (.int .i64 0))], [some [.d (.int .i64 t.f), .d (.int .i64 t.v), .d (terms .sub t.kids)]]⟩ =
      some (.exit 0, ⟨[(0, .d (terms .sub l)), (3, .ptr 0 0), (5, .d (.int .i64 (putAt t l))), (19, .d (.bool false))], [some [.d (.int .i64 t.f), .d (.int .i64 t.v), .d (terms .sub t.kids)]]⟩) := by
    rw [h, runF]
    unfold putAt
    cases hq : findAt (fun i => decide (T.cmp t (tAt l i) < 0)) l.length 0 <;> simp
  clear h
  rw [putAt_ins]
  generalize putAt t l = m at *
  have hm : ¬ ((m : Int) < 0) := by omega
  have a1 := app_subs [] (l.take m) .sub (by simp; omega)
  have a2 := app_subs (l.take m) [t] U (by simp; omega)
  have a3 := app_subs (l.take m ++ [t]) (l.drop m) .sub (by simp; omega)
  have hall : (l.map (T.enc .sub)).all (fun e => decide (e.cells.length = 3)) = true := by simp
  simp only [List.map_nil, List.nil_append, List.map_cons, List.map_append, List.map_take, List.map_drop, List.append_assoc, List.cons_append] at a1 a2 a3 ⊢
  generalize hL1 : List.take m (List.map (T.enc .sub) l) = L1 at a1 a2 a3 ⊢
  generalize hL2 : List.drop m (List.map (T.enc .sub) l) = L2 at a3 ⊢
  have c1 : L1.map DV.clr = L1 := by rw [← hL1, List.map_take, clr_terms]
  have c2 : L2.map DV.clr = L2 := by rw [← hL2, List.map_drop, clr_terms]
  have c1' : L1.map (DV.clr ∘ DV.clr) = L1 := by rw [← List.map_map, c1, c1]
  have c2' : L2.map (DV.clr ∘ DV.clr) = L2 := by rw [← List.map_map, c2, c2]
  have hL2' : List.drop m (List.take l.length (List.map (T.enc .sub) l)) = L2 := by rw [List.take_of_length_le (by simp), hL2]
  generalize hL3 : L1 ++ [T.enc .sub t] = L3 at a2 a3
  generalize hL4 : L1 ++ T.enc .sub t :: L2 = L4 at a3 ⊢
  simp only [lin_154] at h'
  simp [v154, r154_0, r154_1, splice, isCell_int, isCell_sl, isCellA_d, safe_d, loadBox]
  rw [h']
  simp [r154_4, r154_5, r154_6, hlt, hm, hall, hL1, hL2, hL2', c1, c2, c1', c2', a1, a2, a3, loadBox, sliceHi, sliceLo, toIdx]
end Go.Proofs.Ytnjgnjejkmcgmaa.VS
namespace Go.Proofs.Ytnjgnjejkmcgmaa.VS
set_option linter.unusedVariables false
set_option linter.unusedSimpArgs false
mutual
/-- The reference's value of one form (some of its rows are shared). -/
def nM (s : List SymL) : T → DV
  | .node f v ks => .agg [.int .i64 f, .int .i64 v, .sl U (if blindB s f = true then (isort (flatK s f (T.norms s ks))).map (T.enc .sub) else nMs s ks)]
def nMs (s : List SymL) : List T → List DV
  | [] => []
  | t :: r => nM s t :: nMs s r
end
theorem nMs_map (s : List SymL) : ∀ l : List T, nMs s l = l.map (nM s)
  | [] => by simp [nMs]
  | t :: r => by simp [nMs, nMs_map s r]
theorem flatK_not (s : List SymL) (f : Int) (h : ¬ blindB s f = true) : ∀ l : List T, flatK s f l = l
  | [] => rfl
  | k :: l => by
    rw [flatK_cons, flatK_not s f h l]
    have h' : blindB s f = false := by simpa using h
    simp [appK, h']
def rowM (s : List SymL) (t : T) : List DV := if blindB s t.f = true then (t.norm s).kids.map (T.enc .sub) else t.kids.map (nM s)
theorem nM_eq (s : List SymL) (t : T) : nM s t = .agg [.int .i64 t.f, .int .i64 t.v, .sl U (rowM s t)] := by
  obtain ⟨f, v, ks⟩ := t
  unfold rowM
  simp only [nM, T.norm, T.f_node, T.v_node, T.kids_node, nMs_map]
  split <;> rfl
mutual
theorem clr_nM (s : List SymL) : ∀ t : T, (nM s t).clr = (t.norm s).enc .sub
  | .node f v ks => by
    have h := clrs_nMs s ks
    by_cases hb : blindB s f = true
    · simp only [nM, T.norm, hb, if_true, T.enc, DV.clr, DV.clrs]
      rw [T.encs_map, DV.clrs_map, clr_terms]
    · simp only [nM, T.norm, hb, Bool.false_eq_true, if_false, T.enc, DV.clr, DV.clrs]
      rw [h, flatK_not s f hb]
theorem clrs_nMs (s : List SymL) : ∀ l : List T, DV.clrs (nMs s l) = T.encs .sub (T.norms s l)
  | [] => by simp [nMs, T.norms, T.encs, DV.clrs]
  | t :: r => by simp only [nMs, T.norms, T.encs, DV.clrs, clr_nM s t, clrs_nMs s r]
end
theorem clr_rowM (s : List SymL) (t : T) : (rowM s t).map DV.clr = (t.norm s).kids.map (T.enc .sub) := by
  have := clr_nM s t
  rw [nM_eq, T.enc_eq] at this
  simp only [DV.clr, DV.clrs, DV.agg.injEq, List.cons.injEq, DV.sl.injEq] at this
  rw [← DV.clrs_map]
  exact this.2.2.1.2
theorem cells_nM (s : List SymL) (t : T) : (nM s t).cells = [.int .i64 t.f, .int .i64 t.v, .sl U (rowM s t)] := by rw [nM_eq]; rfl
theorem app_nM (s : List SymL) (a : List T) (t : T) (h : a.length ≤ 1099511627776) : xappend 3 40 (.sl U (a.map (nM s))) (.sl U [nM s t]) = some (.sl U (a.map (nM s) ++ [nM s t])) := by
  unfold xappend
  simp only
  rw [if_pos (by simp [cells_nM, isCell_int, isCell_sl])]
  simp only [List.isEmpty_cons, Bool.false_eq_true, if_false]
  rw [if_pos ⟨by simp; omega, trivial, by simp [cells_nM]⟩]
/-- The Kids that the reference has behind so many steps. -/
def rowAt (s : List SymL) (f : Int) (ks : List T) (i : Nat) : List DV := if blindB s f = true then (isort (accK s f ks i)).map (T.enc .sub) else (ks.take i).map (nM s)
theorem rowAt_zero (s : List SymL) (f : Int) (ks : List T) : rowAt s f ks 0 = [] := by unfold rowAt; rw [accK_zero]; split <;> rfl
theorem rowAt_all (s : List SymL) (f v : Int) (ks : List T) : DV.agg [.int .i64 f, .int .i64 v, .sl U (rowAt s f ks ks.length)] = nM s (.node f v ks) := by
  unfold rowAt
  rw [accK_all, List.take_length]
  simp only [nM, nMs_map]
def nB3 (f v : Int) (ks : List T) (R : List DV) : Boxs := [some [.d (.int .i64 f), .d (.int .i64 v), .d (terms .sub ks)], some [.d (.int .i64 0), .d (.int .i64 0), .d (.sl U [])], some [.d (.int .i64 f), .d (.int .i64 v), .d (.sl U R)]]
theorem inner153 (s : List SymL) (hs : s.length ≤ 1099511627776) (f v kf kv : Int) (ks l : List T) (i : Nat) (hl : l.length ≤ 1099511627776) (X : List DV) (hX : X.map DV.clr = l.map (T.enc .sub)) : ∀ (k j : Nat), j + k = l.length → ∀ acc : List T, cnts acc + cnts (l.drop j) ≤ 1099511627776 → ∀ e : Boxs,
    loopX XV (XV.lin 153) 4 [0, 3, 4, 5, 6, 7, 8] b153_1 ⟨[(0, .d (sg s)), (3, .ptr 0 0), (4, .ptr 1 0), (5, .ptr 2 0), (6, .d (.int .i64 i)), (7, .ptr 3 0), (8, .d (.int .i64 j))], nB3 f v ks (acc.map (T.enc .sub)) ++ [some [.d (.int .i64 kf), .d (.int .i64 kv), .d (.sl U X)]] ++ e⟩ =
      some (.exit 3, ⟨[(0, .d (sg s)), (3, .ptr 0 0), (4, .ptr 1 0), (5, .ptr 2 0), (6, .d (.int .i64 i)), (7, .ptr 3 0), (8, .d (.int .i64 l.length)), (32, .d (.bool false))], nB3 f v ks ((isortOn acc (l.drop j)).map (T.enc .sub)) ++ [some [.d (.int .i64 kf), .d (.int .i64 kv), .d (.sl U X)]]⟩) := by
  have head : ∀ (x : Int) (A e : Boxs), A.length = 4 → xheadOf 4 [0, 3, 4, 5, 6, 7, 8] ⟨[(0, .d (sg s)), (3, .ptr 0 0), (4, .ptr 1 0), (5, .ptr 2 0), (6, .d (.int .i64 i)), (7, .ptr 3 0), (8, .d (.int .i64 x))], A ++ e⟩ = some ⟨[(0, .d (sg s)), (3, .ptr 0 0), (4, .ptr 1 0), (5, .ptr 2 0), (6, .d (.int .i64 i)), (7, .ptr 3 0), (8, .d (.int .i64 x))], A⟩ := fun x A e hA =>
    head_cut (by simp) (by simp [safeRegs]) hA rfl
  intro k
  induction k with
  | zero =>
    intro j hj acc ha e
    have : j = l.length := by omega
    subst this
    refine loopX_out (head _ _ e (by simp [nB3])) ?_ (by simp)
    rw [List.drop_length]
    simp only [isortOn]
    simp [b153_1, r153_0, r153_1, r153_2, r153_3, r153_5, r153_10, r153_11, r153_12, r153_13, r153_6, r153_7, d153_9, r153_8, r153_4, r153_14, nB3, loadBox, hX]
  | succ k ih =>
    intro j hj acc ha e
    have hlt : j < l.length := by omega
    have hm := tAt_mem hlt
    have h1 := mem_inner hm
    have hd : l.drop j = tAt l j :: l.drop (j + 1) := by rw [List.drop_eq_getElem_cons hlt, tAt_lt hlt]
    have hw := wrap_succ (n := j) (by omega)
    rw [hd, cnts_cons] at ha
    have hp := l4Put_eq acc (tAt l j) (by omega) (by omega)
    rw [hd]
    simp only [isortOn]
    rw [← ih (j + 1) (by omega) (ins (tAt l j) acc) (by rw [cnts_perm (ins_perm _ _), cnts_cons]; omega) []]
    refine loopX_go (head _ _ e (by simp [nB3])) ?_
    simp [b153_1, r153_0, r153_1, r153_2, r153_3, r153_5, r153_10, r153_11, r153_12, r153_13, r153_6, r153_7, d153_9, r153_8, r153_4, r153_14, nB3, hlt, hw, cut, tAt_lt hlt, hp, hX, splice, isCell_int, isCell_sl, isCellA_d, safe_d, loadBox]
theorem kid153 (s : List SymL) (hs : s.length ≤ 1099511627776) (f v : Int) (ks : List T) (hl : cnts ks ≤ 1099511627776) (i : Nat) (hi : i < ks.length)
    (hc : callX XV 153 [.d (sg s), .d ((tAt ks i).enc .sub)] [] = some (.d (nM s (tAt ks i)), [])) :
    ∃ e : Boxs, codeX XV (XV.lin 153) b153_0 ⟨[(0, .d (sg s)), (3, .ptr 0 0), (4, .ptr 1 0), (5, .ptr 2 0), (6, .d (.int .i64 i))], nB3 f v ks (rowAt s f ks i)⟩ =
      some (.normal, ⟨[(0, .d (sg s)), (3, .ptr 0 0), (4, .ptr 1 0), (5, .ptr 2 0), (6, .d (.int .i64 (i + 1 : Nat)))], nB3 f v ks (rowAt s f ks (i + 1)) ++ e⟩) := by
  have hlen := len_cnts ks
  have hw := wrap_succ (n := i) (by omega)
  have hb := specBlind_eq s hs f
  have ht := tAt_lt hi
  have hm := mem_inner (tAt_mem hi)
  have hin := inner_norm s (tAt ks i)
  have hac := accK_succ s f ks i hi
  have hcn := accK_cnts s f ks (i + 1)
  have htk := take_snoc ks i hi
  have hM := clr_rowM s (tAt ks i)
  have hnf := norm_f s (tAt ks i)
  have hnv := norm_v s (tAt ks i)
  have happ := app_nM s (ks.take i) (tAt ks i) (by simp; omega)
  rw [hac, cnts_append] at hcn
  unfold rowAt
  rw [hac, htk]
  rw [nM_eq] at hc happ
  generalize hk : tAt ks i = k at *
  generalize hr : accK s f ks i = acc at *
  generalize hX : rowM s k = X at *
  by_cases h1 : blindB s f = true
  · simp only [h1, if_true]
    by_cases h2 : (k.f == f) = true
    · have e1 : appK s f (k.norm s) = (k.norm s).kids := by unfold appK; rw [hnf, h1, h2]; rfl
      rw [e1] at hcn ⊢
      have hloop := inner153 s hs f v k.f k.v ks (k.norm s).kids i (by have := len_cnts (k.norm s).kids; rw [cnts_kids] at this; omega) X hM (k.norm s).kids.length 0 (by omega) (isort acc) (by rw [cnts_perm (isort_perm acc), List.drop_zero]; omega) []
      rw [List.drop_zero, show isortOn (isort acc) (k.norm s).kids = isort (acc ++ (k.norm s).kids) from by unfold isort; rw [isortOn_append]] at hloop
      refine ⟨[some [.d (.int .i64 k.f), .d (.int .i64 k.v), .d (.sl U X)]], ?_⟩
      have h2n : (k.f != f) = false := by simpa using h2
      generalize (isort (acc ++ (k.norm s).kids)).map (T.enc .sub) = R2 at *
      have hRc : ((isort acc).map (T.enc .sub)).map DV.clr = (isort acc).map (T.enc .sub) := by rw [clr_terms]
      generalize (isort acc).map (T.enc .sub) = R1 at *
      generalize (k.norm s).kids = l at *
      simp only [nB3, lin_153, Int.natCast_zero, List.cons_append, List.nil_append, List.append_nil] at hloop ⊢
      simp [b153_0, r153_0, r153_1, r153_2, r153_3, r153_5, r153_10, r153_11, r153_12, r153_13, r153_6, r153_7, d153_9, r153_8, r153_4, r153_14, hi, hw, cut, ht, hc, hb, h1, h2n, hM, splice, isCell_int, isCell_sl, isCellA_d, safe_d, loadBox, AV.clrs_map]
      rw [hloop]
      simp [b153_0, r153_0, r153_1, r153_2, r153_3, r153_5, r153_10, r153_11, r153_12, r153_13, r153_6, r153_7, d153_9, r153_8, r153_4, r153_14, hw]
    · have h2' : (k.f == f) = false := by simpa using h2
      have h2n : (k.f != f) = true := by simpa using h2
      have e1 : appK s f (k.norm s) = [k.norm s] := by unfold appK; rw [hnf, h1, h2']; rfl
      rw [e1] at hcn ⊢
      rw [show isort (acc ++ [k.norm s]) = ins (k.norm s) (isort acc) from by unfold isort; rw [isortOn_append]; rfl]
      have hp := l4Put_eq (isort acc) (k.norm s) (by rw [cnts_perm (isort_perm acc)]; omega) (by omega)
      have hke : (k.norm s).enc .sub = .agg [.int .i64 k.f, .int .i64 k.v, terms .sub (k.norm s).kids] := by rw [T.enc_eq, hnf, hnv]
      rw [hke, agg_enc] at hp
      refine ⟨[some [.d (.int .i64 k.f), .d (.int .i64 k.v), .d (.sl U X)]], ?_⟩
      generalize ins (k.norm s) (isort acc) = R2 at *
      generalize isort acc = R1 at *
      generalize (k.norm s).kids = l at *
      simp [b153_0, r153_0, r153_1, r153_2, r153_3, r153_5, r153_10, r153_11, r153_12, r153_13, r153_6, r153_7, d153_9, r153_8, r153_4, r153_14, nB3, hi, hw, cut, ht, hc, hb, h1, h2n, hM, hp, splice, isCell_int, isCell_sl, isCellA_d, safe_d, loadBox, AV.clrs_map]
  · have h1' : blindB s f = false := by simpa using h1
    simp only [h1', Bool.false_eq_true, if_false]
    refine ⟨[some [.d (.int .i64 k.f), .d (.int .i64 k.v), .d (terms .sub (k.norm s).kids)]], ?_⟩
    rw [List.map_append, List.map_cons, List.map_nil, nM_eq, hX]
    generalize hR2 : (ks.take i).map (nM s) ++ [.agg [.int .i64 k.f, .int .i64 k.v, .sl U X]] = R2 at *
    generalize (ks.take i).map (nM s) = R1 at *
    generalize (k.norm s).kids = l at *
    simp [b153_0, r153_0, r153_1, r153_2, r153_3, r153_5, r153_10, r153_11, r153_12, r153_13, r153_6, r153_7, d153_9, r153_8, r153_4, r153_14, nB3, hi, hw, cut, ht, hc, hb, h1', happ, hM, splice, isCell_int, isCell_sl, isCellA_d, safe_d, loadBox, AV.clrs_map]
end Go.Proofs.Ytnjgnjejkmcgmaa.VS
namespace Go.Proofs.Ytnjgnjejkmcgmaa.VS
set_option linter.unusedVariables false
set_option linter.unusedSimpArgs false
theorem loop153 (s : List SymL) (hs : s.length ≤ 1099511627776) (f v : Int) (ks : List T) (hl : cnts ks ≤ 1099511627776)
    (hc : ∀ t, t ∈ ks → callX XV 153 [.d (sg s), .d (t.enc .sub)] [] = some (.d (nM s t), [])) : ∀ (k i : Nat), i + k = ks.length → ∀ e : Boxs,
    loopX XV (XV.lin 153) 3 [0, 3, 4, 5, 6] b153_0 ⟨[(0, .d (sg s)), (3, .ptr 0 0), (4, .ptr 1 0), (5, .ptr 2 0), (6, .d (.int .i64 i))], nB3 f v ks (rowAt s f ks i) ++ e⟩ =
      some (.exit 0, ⟨[(0, .d (sg s)), (3, .ptr 0 0), (4, .ptr 1 0), (5, .ptr 2 0), (6, .d (.int .i64 ks.length)), (18, .d (.bool false))], nB3 f v ks (rowAt s f ks ks.length)⟩) := by
  have head : ∀ (x : Int) (A e : Boxs), A.length = 3 → xheadOf 3 [0, 3, 4, 5, 6] ⟨[(0, .d (sg s)), (3, .ptr 0 0), (4, .ptr 1 0), (5, .ptr 2 0), (6, .d (.int .i64 x))], A ++ e⟩ = some ⟨[(0, .d (sg s)), (3, .ptr 0 0), (4, .ptr 1 0), (5, .ptr 2 0), (6, .d (.int .i64 x))], A⟩ := fun x A e hA =>
    head_cut (by simp) (by simp [safeRegs]) hA rfl
  intro k
  induction k with
  | zero =>
    intro i hi e
    have : i = ks.length := by omega
    subst this
    refine loopX_out (head _ _ e (by simp [nB3])) ?_ (by simp)
    generalize rowAt s f ks ks.length = R
    simp [b153_0, r153_0, r153_1, r153_2, r153_3, r153_5, r153_10, r153_11, r153_12, r153_13, r153_6, r153_7, d153_9, r153_8, r153_4, r153_14, nB3, loadBox]
  | succ k ih =>
    intro i hi e
    have hlt : i < ks.length := by omega
    obtain ⟨e', he⟩ := kid153 s hs f v ks hl i hlt (hc _ (tAt_mem hlt))
    rw [← ih (i + 1) (by omega) e']
    exact loopX_go (head _ _ e (by simp [nB3])) he
theorem specNorm_of (s : List SymL) (hs : s.length ≤ 1099511627776) (f v : Int) (ks : List T) (hl : cnts ks ≤ 1099511627776)
    (hc : ∀ t, t ∈ ks → callX XV 153 [.d (sg s), .d (t.enc .sub)] [] = some (.d (nM s t), [])) :
    callX XV 153 [.d (sg s), .d ((T.node f v ks).enc .sub)] [] = some (.d (nM s (.node f v ks)), []) := by
  rw [z_call XV _ _ _ v153 rfl xcode_153 rfl]
  have hloop := loop153 s hs f v ks hl hc ks.length 0 (by omega) []
  rw [← rowAt_all]
  simp only [rowAt_zero, List.append_nil, lin_153, nB3, Int.natCast_zero] at hloop
  generalize rowAt s f ks ks.length = R at *
  simp [v153, r153_0, r153_1, r153_2, splice, isCell_int, isCell_sl, isCellA_d, safe_d, loadBox, AV.clrs_map]
  rw [hloop]
  simp [r153_14, splice, isCell_int, isCell_sl, isCellA_d, safe_d, loadBox, AV.clrs_map]
theorem specNorm_eq (s : List SymL) (hs : s.length ≤ 1099511627776) (t : T) (ht : t.inner ≤ 1099511627776) : callX XV 153 [.d (sg s), .d (t.enc .sub)] [] = some (.d (nM s t), []) := by
  match t, ht with
  | .node f v ks, ht =>
    rw [T.inner_node] at ht
    exact specNorm_of s hs f v ks ht fun x hx => specNorm_eq s hs x (by have := mem_inner hx; omega)
termination_by t
decreasing_by
  simp_wf
  have := List.sizeOf_lt_of_mem hx
  omega
end Go.Proofs.Ytnjgnjejkmcgmaa.VS
namespace Go.Proofs.Ytnjgnjejkmcgmaa.VS
set_option linter.unusedVariables false
set_option linter.unusedSimpArgs false
/-! ## Substitutions that lie in boxes -/
abbrev ts (l : List Bd) : List T := l.map Bd.t
def bCells (b : Nat) : List Bd → List AV
  | [] => []
  | x :: r => .d (.int .i64 x.v) :: .d (.int .i64 x.t.f) :: .d (.int .i64 x.t.v) :: tRow b x.t.kids :: bCells (b + rowN x.t.kids) r
def tBs (b : Nat) (l : List Bd) : AV := if l = [] then .d (binds .sub []) else .tsl true (b + T.nbs (ts l)) 4 l.length
def bBs (b : Nat) (l : List Bd) : Boxs := if l = [] then [] else T.bxs b (ts l) ++ [some (bCells b l)]
theorem bCells_len : ∀ (l : List Bd) (b : Nat), (bCells b l).length = 4 * l.length
  | [], b => rfl
  | x :: r, b => by simp [bCells, bCells_len r]; omega
theorem nb_t (t : T) : t.nb = rowN t.kids := by obtain ⟨f, v, ks⟩ := t; rw [nb_node]; rfl
theorem bx_t (b : Nat) (t : T) : t.bx b = bRow b t.kids := by obtain ⟨f, v, ks⟩ := t; rw [bx_node]; rfl
theorem bCells_append : ∀ (a c : List Bd) (b : Nat), bCells b (a ++ c) = bCells b a ++ bCells (b + T.nbs (ts a)) c
  | [], c, b => by simp [bCells, T.nbs]
  | x :: r, c, b => by simp [bCells, bCells_append r c, T.nbs, nb_t, Nat.add_assoc]
theorem bCells_mid (M R : List Bd) (x : Bd) (b : Nat) : bCells b (M ++ x :: R) = bCells b M ++ .d (.int .i64 x.v) :: .d (.int .i64 x.t.f) :: .d (.int .i64 x.t.v) :: tRow (b + T.nbs (ts M)) x.t.kids :: bCells (b + T.nbs (ts M) + rowN x.t.kids) R := by
  rw [bCells_append]; simp [bCells]
theorem thw_kids (t : T) (b : Nat) : thw b (terms .sub t.kids) = ([tRow b t.kids], t.bx b) := by
  have h := thwT t b
  rw [T.enc_eq] at h
  have h2 : thw b (.agg [.int .i64 t.f, .int .i64 t.v, terms .sub t.kids]) = thws b [.int .i64 t.f, .int .i64 t.v, terms .sub t.kids] := rfl
  rw [h2, thws3] at h
  have h3 := congrArg Prod.fst h
  have h4 := congrArg Prod.snd h
  simp only [List.cons.injEq, true_and] at h3 h4
  exact Prod.ext h3 h4
theorem thws4 (f v w : Int) (x : DV) (b : Nat) : thws b [.int .i64 f, .int .i64 v, .int .i64 w, x] = (.d (.int .i64 f) :: .d (.int .i64 v) :: .d (.int .i64 w) :: (thw b x).1, (thw b x).2) := by simp [thws, thw]
theorem thws_bind (x : Bd) (b : Nat) : thw b (x.enc .sub) = ([.d (.int .i64 x.v), .d (.int .i64 x.t.f), .d (.int .i64 x.t.v), tRow b x.t.kids], x.t.bx b) := by
  have h2 : thw b (x.enc .sub) = thws b [.int .i64 x.v, .int .i64 x.t.f, .int .i64 x.t.v, terms .sub x.t.kids] := rfl
  rw [h2, thws4, thw_kids]
theorem thws_binds : ∀ (l : List Bd) (b : Nat), thws b (l.map (Bd.enc .sub)) = (bCells b l, T.bxs b (ts l))
  | [], b => rfl
  | x :: r, b => by
    rw [List.map_cons]
    simp only [thws, thws_bind, bx_len]
    rw [thws_binds r]
    simp [bCells, T.bxs, nb_t]
theorem thaw_binds (b : Nat) (l : List Bd) : (binds .sub l).thaw b = (tBs b l, bBs b l) := by
  cases l with
  | nil => rfl
  | cons x r =>
    have h := thws_binds (x :: r) b
    simp only [List.map_cons] at h
    show thawOne b (.sl .sub (x.enc .sub :: r.map (Bd.enc .sub))) = _
    simp only [thawOne, thw, h, tBs, bBs]
    have ha : isAgD (x.enc .sub) = true := rfl
    have h4 : (x.enc .sub).cells.length = 4 := rfl
    simp [ha, bxs_len, h4]
theorem frzBCells : ∀ (l : List Bd) (n : Nat) (P Q : Boxs), T.nbs (ts l) ≤ n → frzL (AV.frzC (P ++ T.bxs P.length (ts l) ++ Q) n) (bCells P.length l) = some (flat (l.map (Bd.enc .sub)))
  | [], n, P, Q, hn => rfl
  | x :: r, n, P, Q, hn => by
    simp only [ts, List.map_cons, T.nbs, nb_t] at hn
    have h1 := frzRow_eq x.t.kids n P (T.bxs (P.length + rowN x.t.kids) (ts r) ++ Q) (by omega)
    have h2 := frzBCells r n (P ++ bRow P.length x.t.kids) Q (by simp only [ts]; omega)
    have hl : (P ++ bRow P.length x.t.kids).length = P.length + rowN x.t.kids := by rw [List.length_append, bRow_len]
    rw [hl] at h2
    have hB1 : P ++ bRow P.length x.t.kids ++ (T.bxs (P.length + rowN x.t.kids) (ts r) ++ Q) = P ++ T.bxs P.length (ts (x :: r)) ++ Q := by simp [T.bxs, bx_t, nb_t]
    have hB2 : P ++ bRow P.length x.t.kids ++ T.bxs (P.length + rowN x.t.kids) (ts r) ++ Q = P ++ T.bxs P.length (ts (x :: r)) ++ Q := by simp [T.bxs, bx_t, nb_t]
    rw [hB1] at h1
    rw [hB2] at h2
    generalize P ++ T.bxs P.length (ts (x :: r)) ++ Q = W at h1 h2 ⊢
    simp only [bCells, frzL_cons, frzC_d, h1, h2, frzO_some, List.map_cons]
    simp [flat]
theorem frz_tBs (l : List Bd) (P Q : Boxs) : AV.frz (P ++ bBs P.length l ++ Q) (tBs P.length l) = some (binds .sub l) := by
  by_cases hp : l = []
  · subst hp; simp [tBs, bBs, AV.frz, frzC_d]
  · have hb : P ++ bBs P.length l ++ Q = P ++ T.bxs P.length (ts l) ++ (some (bCells P.length l) :: Q) := by simp [bBs, hp]
    have hl : (P ++ T.bxs P.length (ts l)).length = P.length + T.nbs (ts l) := by rw [List.length_append, bxs_len]
    have hg : bget (P ++ T.bxs P.length (ts l) ++ (some (bCells P.length l) :: Q)) (P.length + T.nbs (ts l)) = some (bCells P.length l) := by
      unfold bget; rw [← hl, get_at]
    rw [hb]
    unfold tBs
    rw [if_neg hp]
    obtain ⟨m, hm⟩ : ∃ m, (P ++ T.bxs P.length (ts l) ++ (some (bCells P.length l) :: Q)).length = m + 1 := ⟨P.length + T.nbs (ts l) + Q.length, by simp [bxs_len]; omega⟩
    simp only [AV.frz]
    rw [hm]
    simp only [AV.frzC]
    rw [hg, Option.bind_some, frzBCells l m P _ (by simp [bxs_len] at hm; omega), Option.bind_some]
    have hok := bindEncs_ok .sub l
    have hfl : (flat (l.map (Bd.enc .sub))).length = l.length * 4 := by rw [flat_len (fun x hx => (hok x hx).1)]; simp
    rw [if_pos hfl]
    have hch := chunks_row (l.map (Bd.enc .sub)) hok
    rw [List.length_map] at hch
    rw [hch]; rfl
theorem clr_tBs (b : Nat) (l : List Bd) : (tBs b l).clr = tBs b l := by
  unfold tBs; split
  · simp [AV.clr, DV.clr, DV.clrs]
  · simp only [AV.clr]
/-! ### Marks -/
def mkBd (x : Bd) (k : Nat) : Bd := ⟨(k : Int), .node ((k + 1 : Nat) : Int) ((k + 2 : Nat) : Int) (T.marks (k + 3) x.t.kids)⟩
def cntB : List Bd → Nat
  | [] => 0
  | x :: r => 3 + 2 * x.t.inner + cntB r
def mkB : List Bd → Nat → List Bd
  | [], _ => []
  | x :: r, k => mkBd x k :: mkB r (k + (3 + 2 * x.t.inner))
theorem mkB_len : ∀ (l : List Bd) (k : Nat), (mkB l k).length = l.length
  | [], k => rfl
  | x :: r, k => by simp [mkB, mkB_len r]
theorem mkB_snoc : ∀ (l : List Bd) (k : Nat) (x : Bd), mkB (l ++ [x]) k = mkB l k ++ [mkBd x (k + cntB l)]
  | [], k, x => by simp [mkB, cntB]
  | a :: q, k, x => by simp [mkB, mkB_snoc q, cntB, Nat.add_assoc]
theorem cntB_snoc : ∀ (l : List Bd) (x : Bd), cntB (l ++ [x]) = cntB l + (3 + 2 * x.t.inner)
  | [], x => by simp [cntB]
  | a :: q, x => by simp [cntB, cntB_snoc q]; omega
theorem cntB_append : ∀ (a c : List Bd), cntB (a ++ c) = cntB a + cntB c
  | [], c => by simp [cntB]
  | r :: q, c => by simp [cntB, cntB_append q c, Nat.add_assoc]
theorem mkB_nbs : ∀ (l : List Bd) (k : Nat), T.nbs (ts (mkB l k)) = T.nbs (ts l)
  | [], k => rfl
  | x :: r, k => by
    have := mkB_nbs r (k + (3 + 2 * x.t.inner))
    simp only [ts] at this
    simp [mkB, T.nbs, nb_t, mkBd, rowN_marks, this]
def upB (l : List Bd) (k i : Nat) : List Bd := mkB (l.take i) k ++ l.drop i
theorem upB_zero (l : List Bd) (k : Nat) : upB l k 0 = l := by simp [upB, mkB]
theorem upB_all (l : List Bd) (k : Nat) : upB l k l.length = mkB l k := by simp [upB]
theorem upB_nbs (l : List Bd) (k i : Nat) : T.nbs (ts (upB l k i)) = T.nbs (ts l) := by
  unfold upB
  rw [show ts (mkB (l.take i) k ++ l.drop i) = ts (mkB (l.take i) k) ++ ts (l.drop i) by simp, nbs_append, mkB_nbs, ← nbs_append, show ts (l.take i) ++ ts (l.drop i) = ts l by rw [← List.map_append, List.take_append_drop]]
theorem bTake (l : List Bd) (i : Nat) (hi : i < l.length) : l.take (i + 1) = l.take i ++ [bAt l i] := by
  rw [← bAt_lt hi, List.take_append_getElem hi]
theorem upB_at (l : List Bd) (k i : Nat) (hi : i < l.length) : upB l k i = mkB (l.take i) k ++ bAt l i :: l.drop (i + 1) := by
  unfold upB; rw [List.drop_eq_getElem_cons hi, bAt_lt hi]
theorem upB_next (l : List Bd) (k i : Nat) (hi : i < l.length) : upB l k (i + 1) = mkB (l.take i) k ++ mkBd (bAt l i) (k + cntB (l.take i)) :: l.drop (i + 1) := by
  unfold upB; rw [bTake l i hi, mkB_snoc]; simp
theorem cntB_take (l : List Bd) (i : Nat) (hi : i < l.length) : cntB (l.take (i + 1)) = cntB (l.take i) + (3 + 2 * (bAt l i).t.inner) := by rw [bTake l i hi, cntB_snoc]
theorem cntB_le (l : List Bd) (i : Nat) : cntB (l.take i) ≤ cntB l := by
  have h := cntB_append (l.take i) (l.drop i)
  rw [List.take_append_drop] at h; omega
theorem tbx_mid (M R : List Bd) (x : Bd) (b : Nat) : T.bxs b (ts (M ++ x :: R)) = T.bxs b (ts M) ++ (bRow (b + T.nbs (ts M)) x.t.kids ++ T.bxs (b + T.nbs (ts M) + rowN x.t.kids) (ts R)) := by
  rw [show ts (M ++ x :: R) = ts M ++ x.t :: ts R by simp, bxs_mid]
theorem qp0 (C1 C2 : List AV) (f x : AV) (i : Nat) (h : C1.length = i * 4) : splice (C1 ++ f :: C2) (i * 4) [x] = C1 ++ x :: C2 := by rw [← h]; exact spA C1 C2 f x
theorem qp1 (C1 C2 : List AV) (f v x : AV) (i : Nat) (h : C1.length = i * 4) : splice (C1 ++ f :: v :: C2) (i * 4 + 1) [x] = C1 ++ f :: x :: C2 := by
  have := spA (C1 ++ [f]) C2 v x
  simp only [List.length_append, List.length_cons, List.length_nil, List.append_assoc, List.cons_append, List.nil_append, Nat.zero_add] at this
  rw [← h]; exact this
theorem qp2 (C1 C2 : List AV) (f v w x : AV) (i : Nat) (h : C1.length = i * 4) : splice (C1 ++ f :: v :: w :: C2) (i * 4 + 1 + 1) [x] = C1 ++ f :: v :: x :: C2 := by
  have := spA (C1 ++ [f, v]) C2 w x
  simp only [List.length_append, List.length_cons, List.length_nil, List.append_assoc, List.cons_append, List.nil_append, Nat.zero_add] at this
  rw [← h]; exact this
theorem qa3 (C1 C2 : List AV) (f v w r : AV) (i : Nat) (h : C1.length = i * 4) : (C1 ++ f :: v :: w :: r :: C2)[i * 4 + 1 + 2]? = some r := by
  rw [← h, List.getElem?_append_right (by omega)]; simp [Nat.add_assoc]
theorem markStepB (S S' B1 : Boxs) (ix n i : Nat) (K0 K1 K2 K3 Kn : Int) (C1 C2 : List AV) (f v w row : AV) (hS : S.length = ix) (hS' : S'.length = ix) (hi : i < n) (hn : n ≤ 1099511627776) (hC : C1.length = i * 4) (hw1 : IntKind.i64.wrap (K0 + 1) = K1) (hw2 : IntKind.i64.wrap (K1 + 1) = K2) (hw3 : IntKind.i64.wrap (K2 + 1) = K3) (hrow : row.clr = row)
    (hcall : callX XV 244 [row, .d (.int .i64 K3)] (S ++ some (C1 ++ .d (.int .i64 K0) :: .d (.int .i64 K1) :: .d (.int .i64 K2) :: row :: C2) :: B1) = some (.d (.int .i64 Kn), S' ++ some (C1 ++ .d (.int .i64 K0) :: .d (.int .i64 K1) :: .d (.int .i64 K2) :: row :: C2) :: B1)) :
    codeX XV [] b293_0 ⟨[(0, .tsl true ix 4 n), (1, .d (.int .i64 K0)), (5, .d (.int .i64 (i : Int)))], S ++ some (C1 ++ f :: v :: w :: row :: C2) :: B1⟩ =
      some (.normal, ⟨[(0, .tsl true ix 4 n), (1, .d (.int .i64 Kn)), (5, .d (.int .i64 ((i + 1 : Nat) : Int)))], S' ++ some (C1 ++ .d (.int .i64 K0) :: .d (.int .i64 K1) :: .d (.int .i64 K2) :: row :: C2) :: B1⟩) := by
  have hw := wrap_succ (n := i) (by omega)
  have hget : ∀ (c : List AV) (r : Boxs), (S ++ some c :: r)[ix]? = some (some c) := fun c r => by rw [← hS]; exact get_at S (some c) r
  have hset : ∀ (c d : List AV) (r : Boxs), (S ++ some c :: r).set ix (some d) = S ++ some d :: r := fun c d r => by rw [← hS]; exact set_at S (some c) (some d) r
  have s0 := fun x => qp0 C1 (v :: w :: row :: C2) f x i hC
  have s1 := fun a x => qp1 C1 (w :: row :: C2) a v x i hC
  have s2 := fun a b x => qp2 C1 (row :: C2) a b w x i hC
  have g3 := fun a b c => qa3 C1 C2 a b c row i hC
  have le0 : i * 4 + 1 ≤ C1.length + (C2.length + 1 + 1 + 1 + 1) := by omega
  have le1 : i * 4 + 1 + 1 ≤ C1.length + (C2.length + 1 + 1 + 1 + 1) := by omega
  have le2 : i * 4 + 1 + 1 + 1 ≤ C1.length + (C2.length + 1 + 1 + 1 + 1) := by omega
  simp [b293_0, r293_0, r293_1, r293_2, r293_4, r293_5, r293_6, r293_7, r293_8, r293_9, r293_10, r293_3, r293_11, hi, hw, hw1, hw2, hw3, hget, hset, s0, s1, s2, g3, le0, le1, le2, hrow, hcall]
end Go.Proofs.Ytnjgnjejkmcgmaa.VS
namespace Go.Proofs.Ytnjgnjejkmcgmaa.VS
set_option linter.unusedVariables false
set_option linter.unusedSimpArgs false
theorem markBinds_eq (l : List Bd) (hl : l.length ≤ 1099511627776) (hb : ∀ i, i < l.length → (bAt l i).t.inner ≤ 1099511627776) (k : Nat) (hk : k + cntB l ≤ 4611686018427387904) (B0 B1 : Boxs) :
    callX XV 293 [tBs B0.length l, .d (.int .i64 (k : Int))] (B0 ++ bBs B0.length l ++ B1) = some (.d (.int .i64 ((k + cntB l : Nat) : Int)), B0 ++ (if l = [] then [] else T.bxs B0.length (ts (mkB l k)) ++ [some (bCells B0.length (mkB l k))]) ++ B1) := by
  rw [z_call XV _ _ _ v293 rfl xcode_293 rfl]
  by_cases hne : l = []
  · subst hne
    have h := loopX_upto (X := XV) (T := []) (L := (B0 ++ B1).length) (live := [0, 1, 5]) (b := b293_0) (n := 0) (β := Unit) (γ := Unit) (st := fun _ i => ⟨[(0, .d (.sl .sub [])), (1, .d (.int .i64 k)), (5, .d (.int .i64 i))], B0 ++ B1⟩) (step := fun _ _ => .inl ())
      (F := fun _ => (.exit 0, ⟨[(0, .d (.sl .sub [])), (1, .d (.int .i64 k)), (5, .d (.int .i64 0)), (9, .d (.bool false))], B0 ++ B1⟩)) (R := fun _ => (.ret, ⟨[], []⟩)) (fun a => ⟨by simp, by simp [b293_0, r293_0, r293_1, r293_2, r293_4, r293_5, r293_6, r293_7, r293_8, r293_9, r293_10, r293_3, r293_11]⟩) (fun a i hi => by omega) 0 () 0 ⟨[(0, .d (.sl .sub [])), (1, .d (.int .i64 k)), (5, .d (.int .i64 0))], B0 ++ B1⟩ rfl (head_cut (e := []) (by simp) (by simp [safeRegs]) rfl (by simp))
    simp only [runN, List.length_append] at h
    have htk : List.take (B0.length + B1.length) (B0 ++ B1) = B0 ++ B1 := List.take_of_length_le (by simp)
    simp [tBs, bBs, cntB, binds, v293, r293_0, r293_1, r293_2, r293_4, r293_5, r293_6, r293_7, r293_8, r293_9, r293_10, r293_3, r293_11]
    rw [h]
    simp [htk, v293, r293_0, r293_1, r293_2, r293_4, r293_5, r293_6, r293_7, r293_8, r293_9, r293_10, r293_3, r293_11]
  · have hlen : ∀ i, (B0 ++ T.bxs B0.length (ts (upB l k i))).length = B0.length + T.nbs (ts l) := fun i => by rw [List.length_append, bxs_len, upB_nbs]
    have h := loopX_upto (X := XV) (T := []) (L := B0.length + T.nbs (ts l) + (B1.length + 1)) (live := [0, 1, 5]) (b := b293_0) (n := l.length) (γ := Unit) (st := fun (_ : Unit) i => ⟨[(0, .tsl true (B0.length + T.nbs (ts l)) 4 l.length), (1, .d (.int .i64 ((k + cntB (l.take i) : Nat) : Int))), (5, .d (.int .i64 i))], (B0 ++ T.bxs B0.length (ts (upB l k i))) ++ some (bCells B0.length (upB l k i)) :: B1⟩) (step := fun _ _ => .inl ())
      (F := fun _ => (.exit 0, ⟨[(0, .tsl true (B0.length + T.nbs (ts l)) 4 l.length), (1, .d (.int .i64 ((k + cntB l : Nat) : Int))), (5, .d (.int .i64 l.length)), (9, .d (.bool false))], (B0 ++ T.bxs B0.length (ts (upB l k l.length))) ++ some (bCells B0.length (upB l k l.length)) :: B1⟩)) (R := fun _ => (.ret, ⟨[], []⟩))
      (fun _ => ⟨by simp, by rw [List.take_length]; generalize ((k + cntB l : Nat) : Int) = K; simp [b293_0, r293_0, r293_1, r293_2, r293_4, r293_5, r293_6, r293_7, r293_8, r293_9, r293_10, r293_3, r293_11]⟩)
      (fun _ i hi => by
        have hkt : k + cntB (l.take (i + 1)) ≤ 4611686018427387904 := by have := cntB_le l (i + 1); omega
        have hct := cntB_take l i hi
        have hin := hb i hi
        have hr := markRow_eq (bAt l i).t.kids (by rw [cnts_kids]; exact hin) (k + cntB (l.take i) + 3) (by rw [cnts_kids]; omega) (B0 ++ T.bxs B0.length (ts (mkB (l.take i) k))) (T.bxs (B0.length + T.nbs (ts (mkB (l.take i) k)) + rowN (bAt l i).t.kids) (ts (l.drop (i + 1))) ++ some (bCells B0.length (upB l k (i + 1))) :: B1)
        rw [cnts_kids] at hr
        have hl0 : (B0 ++ T.bxs B0.length (ts (mkB (l.take i) k))).length = B0.length + T.nbs (ts (mkB (l.take i) k)) := by rw [List.length_append, bxs_len]
        rw [hl0] at hr
        have e1 := upB_at l k i hi
        have e2 := upB_next l k i hi
        have c1 := bCells_mid (mkB (l.take i) k) (l.drop (i + 1)) (bAt l i) B0.length
        have c2 := bCells_mid (mkB (l.take i) k) (l.drop (i + 1)) (mkBd (bAt l i) (k + cntB (l.take i))) B0.length
        have b1 := tbx_mid (mkB (l.take i) k) (l.drop (i + 1)) (bAt l i) B0.length
        have b2 := tbx_mid (mkB (l.take i) k) (l.drop (i + 1)) (mkBd (bAt l i) (k + cntB (l.take i))) B0.length
        have mf : ∀ x k, (mkBd x k).v = (k : Int) ∧ (mkBd x k).t.f = ((k + 1 : Nat) : Int) ∧ (mkBd x k).t.v = ((k + 2 : Nat) : Int) ∧ (mkBd x k).t.kids = T.marks (k + 3) x.t.kids := fun x k => ⟨rfl, rfl, rfl, rfl⟩
        rw [(mf _ _).2.2.2, rowN_marks] at b2
        rw [(mf _ _).1, (mf _ _).2.1, (mf _ _).2.2.1, (mf _ _).2.2.2, rowN_marks, tRow_marks] at c2
        rw [← e1] at c1 b1
        rw [← e2] at c2 b2
        have hS : (B0 ++ T.bxs B0.length (ts (mkB (l.take i) k))) ++ bRow (B0.length + T.nbs (ts (mkB (l.take i) k))) (bAt l i).t.kids ++ (T.bxs (B0.length + T.nbs (ts (mkB (l.take i) k)) + rowN (bAt l i).t.kids) (ts (l.drop (i + 1))) ++ some (bCells B0.length (upB l k (i + 1))) :: B1) = (B0 ++ T.bxs B0.length (ts (upB l k i))) ++ some (bCells B0.length (upB l k (i + 1))) :: B1 := by rw [b1]; simp only [List.append_assoc]
        have hS' : (B0 ++ T.bxs B0.length (ts (mkB (l.take i) k))) ++ bRow (B0.length + T.nbs (ts (mkB (l.take i) k))) (T.marks (k + cntB (l.take i) + 3) (bAt l i).t.kids) ++ (T.bxs (B0.length + T.nbs (ts (mkB (l.take i) k)) + rowN (bAt l i).t.kids) (ts (l.drop (i + 1))) ++ some (bCells B0.length (upB l k (i + 1))) :: B1) = (B0 ++ T.bxs B0.length (ts (upB l k (i + 1)))) ++ some (bCells B0.length (upB l k (i + 1))) :: B1 := by rw [b2]; simp only [List.append_assoc]
        rw [hS, hS'] at hr
        rw [show k + cntB (l.take i) + 3 + 2 * (bAt l i).t.inner = k + cntB (l.take (i + 1)) by omega] at hr
        rw [c2] at hr
        have hst := markStepB (B0 ++ T.bxs B0.length (ts (upB l k i))) (B0 ++ T.bxs B0.length (ts (upB l k (i + 1)))) B1 (B0.length + T.nbs (ts l)) l.length i ((k + cntB (l.take i) : Nat) : Int) ((k + cntB (l.take i) + 1 : Nat) : Int) ((k + cntB (l.take i) + 2 : Nat) : Int) ((k + cntB (l.take i) + 3 : Nat) : Int) ((k + cntB (l.take (i + 1)) : Nat) : Int)
          (bCells B0.length (mkB (l.take i) k)) (bCells (B0.length + T.nbs (ts (mkB (l.take i) k)) + rowN (bAt l i).t.kids) (l.drop (i + 1))) (.d (.int .i64 (bAt l i).v)) (.d (.int .i64 (bAt l i).t.f)) (.d (.int .i64 (bAt l i).t.v)) (tRow (B0.length + T.nbs (ts (mkB (l.take i) k))) (bAt l i).t.kids) (hlen i) (hlen (i + 1)) hi hl
          (by rw [bCells_len, mkB_len, List.length_take]; omega) (wrap_succ (by omega)) (wrap_succ (by omega)) (wrap_succ (by omega)) (clr_tRow _ _) hr
        rw [← c1, ← c2] at hst
        exact ⟨_, hst, head_cut (e := []) (by simp) (by simp [safeRegs, safe_tsl]) (by rw [List.length_append, hlen]; simp) (by simp)⟩)
      l.length () 0 ⟨[(0, .tsl true (B0.length + T.nbs (ts l)) 4 l.length), (1, .d (.int .i64 (k : Int))), (5, .d (.int .i64 0))], (B0 ++ T.bxs B0.length (ts l)) ++ some (bCells B0.length l) :: B1⟩ (by omega) (head_cut (e := []) (by simp [cntB]) (by simp [safeRegs, safe_tsl]) (by rw [upB_zero, List.length_append, List.length_append, bxs_len]; simp) (by simp [upB_zero]))
    rw [run_on, upB_all] at h
    rw [if_neg hne]
    have hap : ∀ (X : Boxs) (c : List AV), B0 ++ (X ++ [some c]) ++ B1 = (B0 ++ X) ++ some c :: B1 := fun X c => by simp
    have hln2 : ((B0 ++ T.bxs B0.length (ts l)) ++ some (bCells B0.length l) :: B1).length = B0.length + T.nbs (ts l) + (B1.length + 1) := by simp [bxs_len]; omega
    have hln3 : ((B0 ++ T.bxs B0.length (ts (mkB l k))) ++ some (bCells B0.length (mkB l k)) :: B1).length = B0.length + T.nbs (ts l) + (B1.length + 1) := by
      have := mkB_nbs l k
      simp only [List.length_append, bxs_len, List.length_cons, this]
    simp only [tBs, bBs, if_neg hne]
    rw [hap, hap]
    generalize hQ : (B0 ++ T.bxs B0.length (ts l)) ++ some (bCells B0.length l) :: B1 = Q at h hln2 ⊢
    generalize hQ' : (B0 ++ T.bxs B0.length (ts (mkB l k))) ++ some (bCells B0.length (mkB l k)) :: B1 = Q' at h hln3 ⊢
    generalize ((k + cntB l : Nat) : Int) = Kn at h ⊢
    rw [← hln2] at h
    have htk : List.take Q.length Q' = Q' := List.take_of_length_le (by omega)
    simp [v293, r293_0, r293_1, r293_2, r293_4, r293_5, r293_6, r293_7, r293_8, r293_9, r293_10, r293_3, r293_11]
    rw [h]
    simp [v293, r293_0, r293_1, r293_2, r293_4, r293_5, r293_6, r293_7, r293_8, r293_9, r293_10, r293_3, r293_11, htk]
theorem allU_terms (l : List T) : (terms U l).allU = true := by
  have h := allU_enc (.node 0 0 l)
  rw [T.enc_eq] at h
  have h2 : DV.allU (.agg [.int .i64 0, .int .i64 0, terms U l]) = (true && (true && ((terms U l).allU && true))) := rfl
  rw [T.f_node, T.v_node, T.kids_node, h2] at h
  simpa using h
theorem allU_bd (x : Bd) : (x.enc U).allU = true := by
  have h2 : (x.enc U).allU = (true && (true && (true && ((terms U x.t.kids).allU && true)))) := rfl
  rw [h2, allU_terms]; rfl
theorem allUs_binds : ∀ l : List Bd, DV.allUs (l.map (Bd.enc U)) = true
  | [] => rfl
  | x :: r => by
    have h2 : DV.allUs ((x :: r).map (Bd.enc U)) = ((x.enc U).allU && DV.allUs (r.map (Bd.enc U))) := rfl
    rw [h2, allU_bd, allUs_binds r]; rfl
theorem allUT_binds (l : List Bd) : (binds U l).allUT = true := by
  cases l with
  | nil => rfl
  | cons x r =>
    have h2 : (binds U (x :: r)).allUT = (decide (U = U) && DV.allUs ((x :: r).map (Bd.enc U))) := rfl
    rw [h2, allUs_binds]; simp
theorem cntB_size (l : List Bd) : cntB l ≤ 3 * l.length + 2 * sumW (fun i => (bAt l i).t.inner) 0 l.length := by
  have h : ∀ (k : Nat), k ≤ l.length → cntB (l.take k) ≤ 3 * k + 2 * sumW (fun i => (bAt l i).t.inner) 0 k := by
    intro k
    induction k with
    | zero => intro _; simp [cntB]
    | succ k ih =>
      intro hk
      have := ih (by omega)
      have hs : ∀ (w : Nat → Nat) (a n : Nat), sumW w a (n + 1) = sumW w a n + w (a + n) := by
        intro w a n
        induction n generalizing a with
        | zero => simp [sumW]
        | succ n ih => rw [sumW, ih (a + 1)]; simp [sumW, Nat.add_assoc, Nat.add_comm 1 n]
      rw [cntB_take l k (by omega), hs, Nat.zero_add]; omega
  have := h l.length (Nat.le_refl _)
  rw [List.take_length] at this
  exact this
end Go.Proofs.Ytnjgnjejkmcgmaa.VS
namespace Go.Proofs.Ytnjgnjejkmcgmaa.VS
set_option linter.unusedVariables false
set_option linter.unusedSimpArgs false
/-! ## Numbers written in digits -/
def dgb (n : Nat) : UInt8 := UInt8.ofNat (48 + n)
def dgt (n : Nat) : ByteArray := ⟨#[dgb n]⟩
def digs (n : Nat) : ByteArray := if n < 10 then dgt n else digs (n / 10) ++ dgt (n % 10)
theorem digs_lt {n : Nat} (h : n < 10) : digs n = dgt n := by rw [digs, if_pos h]
theorem digs_ge {n : Nat} (h : ¬ n < 10) : digs n = digs (n / 10) ++ dgt (n % 10) := by rw [digs, if_neg h]
theorem dgt_size (n : Nat) : (dgt n).size = 1 := rfl
theorem digs_size : ∀ (k n : Nat), n < 10 ^ (k + 1) → (digs n).size ≤ k + 1
  | 0, n, h => by rw [digs_lt (by omega), dgt_size]; omega
  | k + 1, n, h => by
    by_cases c : n < 10
    · rw [digs_lt c, dgt_size]; omega
    · rw [digs_ge c, ByteArray.size_append, dgt_size]
      have := digs_size k (n / 10) (by rw [Nat.pow_succ] at h; omega)
      omega
theorem digs_size20 {n : Nat} (h : n ≤ 9223372036854775808) : (digs n).size ≤ 20 := digs_size 19 n (by omega)
theorem wrap_u8' {n : Int} (h : 0 ≤ n) (h2 : n ≤ 255) : IntKind.u8.wrap n = n := by
  simp [IntKind.wrap, IntKind.bits, IntKind.signed]; omega
theorem evInt_quo10 (k : IntKind) (x : Int) : evInt .quo k x 10 = some (.int k (k.wrap (x.tdiv 10))) := rfl
theorem evInt_rem10 (k : IntKind) (x : Int) : evInt .rem k x 10 = some (.int k (x.tmod 10)) := rfl
theorem evBin_cat {a b : ByteArray} (h : a.size + b.size ≤ 4611686018427387904) : evBin .add (.str a) (.str b) = some (.str (a ++ b)) := by simp [evBin, h]
/-! The loop, from the last digit on -/
def digs0 (k : Nat) : ByteArray := if k = 0 then ByteArray.empty else digs k
theorem digs0_step {k : Nat} (h : k ≠ 0) (s : ByteArray) : digs0 (k / 10) ++ (dgt (k % 10) ++ s) = digs0 k ++ s := by
  unfold digs0
  rw [if_neg h]
  by_cases c : k < 10
  · have : k / 10 = 0 := by omega
    rw [if_pos this, digs_lt c, ByteArray.empty_append, Nat.mod_eq_of_lt c]
  · rw [if_neg (by omega), digs_ge c, ByteArray.append_assoc]
theorem bytes_dgt {k : Nat} (h : k < 10) : bytesOf [.int .u8 (48 + (k : Int))] = some [dgb k] := by
  have : (48 + (k : Int)).toNat = 48 + k := by omega
  simp [bytesOf, this, dgb]
def dst (n : Int) (neg : Bool) (s : ByteArray) : XS := ⟨[(0, .d (.int .i64 n)), (3, .d (.bool neg)), (4, .d (.str s))], []⟩
end Go.Proofs.Ytnjgnjejkmcgmaa.VS
namespace Go.Proofs.Ytnjgnjejkmcgmaa.VS
set_option linter.unusedVariables false
set_option linter.unusedSimpArgs false
/-! ## Marks in texts; signatures that lie in boxes -/
def mst (k : Nat) (s : ByteArray) (B : Boxs) : XS := ⟨[(0, .d (.int .i64 k)), (3, .d (.str s))], B⟩
theorem body294 (k : Nat) (hk : k ≠ 0) (hk2 : k ≤ 4611686018427387904) (s : ByteArray) (hs : s.size ≤ 100) (B : Boxs) :
    ∃ s', codeX XV [] b294_0 (mst k s B) = some (.normal, s') ∧ xheadOf B.length [0, 3] s' = some (mst (k / 10) (dgt (k % 10) ++ s) B) := by
  have hw : IntKind.i64.wrap (48 + ((k % 10 : Nat) : Int)) = 48 + ((k % 10 : Nat) : Int) := wrap_i64 (by omega) (by omega)
  have hw2 : IntKind.u8.wrap (48 + ((k % 10 : Nat) : Int)) = 48 + ((k % 10 : Nat) : Int) := wrap_u8' (by omega) (by omega)
  have hb := bytes_dgt (k := k % 10) (by omega)
  have ha : evBin .add (.str ⟨#[dgb (k % 10)]⟩) (.str s) = some (.str (dgt (k % 10) ++ s)) := evBin_cat (a := dgt (k % 10)) (by rw [dgt_size]; omega)
  have c0 : ((0 : Int) < (k : Int)) := by omega
  have hq : (k : Int).tdiv 10 = ((k / 10 : Nat) : Int) := rfl
  have hr : (k : Int).tmod 10 = ((k % 10 : Nat) : Int) := rfl
  have hwq : IntKind.i64.wrap ((k / 10 : Nat) : Int) = ((k / 10 : Nat) : Int) := wrap_i64 (by omega) (by omega)
  unfold mst
  generalize ((k : Nat) : Int) = kk at *
  generalize ((k / 10 : Nat) : Int) = q at *
  generalize ((k % 10 : Nat) : Int) = r at *
  refine ⟨⟨[(0, .d (.int .i64 q)), (3, .d (.str (dgt (k % 10) ++ s)))], B⟩, by simp [b294_0, r294_0, r294_1, r294_2, r294_3, r294_4, r294_5, r294_6, r294_7, c0, hq, hr, evInt_quo10, evInt_rem10, hw, hw2, hwq, hb, ha, buildRow, List.replicate], head_cut (e := []) (by simp) (by simp [safeRegs]) rfl (by simp)⟩
theorem loop294 (B : Boxs) : ∀ (j k : Nat) (s : ByteArray), k < 10 ^ j → k ≤ 4611686018427387904 → s.size + j ≤ 100 →
    ∀ s0, xheadOf B.length [0, 3] s0 = some (mst k s B) → loopX XV [] B.length [0, 3] b294_0 s0 = some (.exit 0, ⟨[(0, .d (.int .i64 0)), (3, .d (.str (digs0 k ++ s))), (7, .d (.bool false))], B⟩) := by
  intro j
  induction j with
  | zero =>
    intro k s hk hk2 hs s0 h0
    obtain rfl : k = 0 := by simpa using hk
    refine loopX_out h0 ?_ (by simp)
    simp [mst, b294_0, r294_4, digs0, ByteArray.empty_append]
  | succ j ih =>
    intro k s hk hk2 hs s0 h0
    by_cases hz : k = 0
    · subst hz
      refine loopX_out h0 ?_ (by simp)
      simp [mst, b294_0, r294_4, digs0, ByteArray.empty_append]
    · obtain ⟨s', hb, hh⟩ := body294 k hz hk2 s (by omega) B
      rw [loopX_go h0 hb]
      have := ih (k / 10) (dgt (k % 10) ++ s) (by rw [Nat.pow_succ] at hk; omega) (by omega) (by rw [ByteArray.size_append, dgt_size]; omega) s' hh
      rw [this, digs0_step hz]
def mText (k : Nat) : ByteArray := ⟨#[109]⟩ ++ digs k
theorem markText_eq (k : Nat) (h0 : 0 < k) (hk : k ≤ 4611686018427387904) (B : Boxs) : callX XV 294 [.d (.int .i64 k)] B = some (.d (.str (mText k)), B) := by
  rw [z_call XV _ _ _ v294 rfl xcode_294 rfl]
  have hl := loop294 B 20 k ByteArray.empty (by omega) hk (by decide) ⟨[(0, .d (.int .i64 k)), (3, .d (.str ByteArray.empty))], B⟩ (head_cut (e := []) (by simp [mst]) (by simp [safeRegs]) rfl (by simp [mst]))
  have hd : digs0 k ++ ByteArray.empty = digs k := by unfold digs0; rw [if_neg (by omega), ByteArray.append_empty]
  rw [hd] at hl
  have hs := digs_size20 (n := k) (by omega)
  have ha : evBin .add (.str ⟨#[109]⟩) (.str (digs k)) = some (.str (mText k)) := evBin_cat (a := ⟨#[109]⟩) (by rw [show (⟨#[109]⟩ : ByteArray).size = 1 from rfl]; omega)
  have c0 : ¬ ((k : Int) ≤ 0) := by omega
  generalize ((k : Nat) : Int) = kk at *
  simp [v294, r294_0, r294_1, r294_3, c0]
  simp only [show (⟨#[]⟩ : ByteArray) = ByteArray.empty from rfl, hl]
  simp [r294_7, ha]
def sCells : List SymL → List AV
  | [] => []
  | x :: r => .d (.str x.name) :: .d (.int .i64 x.arity) :: .d (.bool x.ac) :: sCells r
def tSy (b : Nat) (l : List SymL) : AV := if l = [] then .d (sg []) else .tsl true b 3 l.length
def bSy (l : List SymL) : Boxs := if l = [] then [] else [some (sCells l)]
theorem sCells_len : ∀ l : List SymL, (sCells l).length = 3 * l.length
  | [] => rfl
  | x :: r => by simp [sCells, sCells_len r]; omega
theorem sCells_append : ∀ a c : List SymL, sCells (a ++ c) = sCells a ++ sCells c
  | [], c => rfl
  | x :: r, c => by simp [sCells, sCells_append r c]
theorem thws_syms (b : Nat) : ∀ l : List SymL, thws b (l.map SymL.enc) = (sCells l, [])
  | [] => rfl
  | x :: r => by
    rw [List.map_cons]
    simp only [thws]
    have h : thw b x.enc = ([.d (.str x.name), .d (.int .i64 x.arity), .d (.bool x.ac)], []) := rfl
    rw [h]
    simp only [List.length_nil, Nat.add_zero, thws_syms b r]
    rfl
theorem thaw_syms (b : Nat) (l : List SymL) : (sg l).thaw b = (tSy b l, bSy l) := by
  cases l with
  | nil => rfl
  | cons x r =>
    have h := thws_syms b (x :: r)
    simp only [List.map_cons] at h
    show thawOne b (.sl .sub (x.enc :: r.map SymL.enc)) = _
    simp only [thawOne, thw, h, tSy, bSy]
    have ha : isAgD x.enc = true := rfl
    have h3 : x.enc.cells.length = 3 := rfl
    simp [ha, h3]
theorem frzL_syms (f : AV → Option DV) (hf : ∀ v, f (.d v) = some v) : ∀ l : List SymL, frzL f (sCells l) = some (flat (l.map SymL.enc))
  | [] => rfl
  | x :: r => by
    have h := frzL_syms f hf r
    simp only [sCells, frzL_cons, hf, h, frzO_some, List.map_cons]
    rfl
theorem frz_tSy (l : List SymL) (P Q : Boxs) : AV.frz (P ++ bSy l ++ Q) (tSy P.length l) = some (sg l) := by
  by_cases hp : l = []
  · subst hp; simp [tSy, bSy, AV.frz, frzC_d]
  · have hb : P ++ bSy l ++ Q = P ++ (some (sCells l) :: Q) := by simp [bSy, hp]
    have hg : bget (P ++ (some (sCells l) :: Q)) P.length = some (sCells l) := by
      unfold bget; rw [get_at]
    rw [hb]
    unfold tSy
    rw [if_neg hp]
    obtain ⟨m, hm⟩ : ∃ m, (P ++ (some (sCells l) :: Q)).length = m + 1 := ⟨P.length + Q.length, by simp; omega⟩
    simp only [AV.frz]
    rw [hm]
    simp only [AV.frzC]
    rw [hg, Option.bind_some, frzL_syms _ (fun v => frzC_d _ _ v), Option.bind_some]
    have hok := symEncs_ok l
    have hfl : (flat (l.map SymL.enc)).length = l.length * 3 := by rw [flat_len (fun x hx => (hok x hx).1)]; simp
    rw [if_pos hfl]
    have hch := chunks_row (l.map SymL.enc) hok
    rw [List.length_map] at hch
    rw [hch]; rfl
theorem clr_tSy (b : Nat) (l : List SymL) : (tSy b l).clr = tSy b l := by
  unfold tSy; split
  · simp [AV.clr, DV.clr, DV.clrs]
  · simp only [AV.clr]
def mkSy1 (k : Nat) : SymL := ⟨mText k, ((k + 1 : Nat) : Int), ((((k + 2 : Nat) : Int).tmod 3) == 0)⟩
def mkSy : Nat → Nat → List SymL
  | 0, _ => []
  | n + 1, k => mkSy1 k :: mkSy n (k + 3)
theorem mkSy_len : ∀ n k : Nat, (mkSy n k).length = n
  | 0, k => rfl
  | n + 1, k => by simp [mkSy, mkSy_len n]
theorem mkSy_succ : ∀ n k : Nat, mkSy (n + 1) k = mkSy n k ++ [mkSy1 (k + 3 * n)]
  | 0, k => rfl
  | n + 1, k => by
    rw [mkSy, mkSy_succ n (k + 3), mkSy]
    simp only [List.cons_append]
    rw [show k + 3 + 3 * n = k + 3 * (n + 1) by omega]
def upSy (l : List SymL) (k i : Nat) : List SymL := mkSy i k ++ l.drop i
theorem upSy_at (l : List SymL) (k i : Nat) (hi : i < l.length) : sCells (upSy l k i) = sCells (mkSy i k) ++ .d (.str (symAt l i).name) :: .d (.int .i64 (symAt l i).arity) :: .d (.bool (symAt l i).ac) :: sCells (l.drop (i + 1)) := by
  unfold upSy; rw [List.drop_eq_getElem_cons hi, symAt_lt hi, sCells_append]; rfl
theorem upSy_next (l : List SymL) (k i : Nat) : sCells (upSy l k (i + 1)) = sCells (mkSy i k) ++ .d (.str (mText (k + 3 * i))) :: .d (.int .i64 ((k + 3 * i + 1 : Nat) : Int)) :: .d (.bool ((((k + 3 * i + 2 : Nat) : Int).tmod 3) == 0)) :: sCells (l.drop (i + 1)) := by
  unfold upSy; rw [mkSy_succ, sCells_append, sCells_append]; simp [sCells, mkSy1]
theorem rp2 (C1 C2 : List AV) (f v w x : AV) (i : Nat) (h : C1.length = i * 3) : splice (C1 ++ f :: v :: w :: C2) (i * 3 + 2) [x] = C1 ++ f :: v :: x :: C2 := by
  have := spA (C1 ++ [f, v]) C2 w x
  simp only [List.length_append, List.length_cons, List.length_nil, List.append_assoc, List.cons_append, List.nil_append, Nat.zero_add] at this
  rw [← h]; exact this
theorem evInt_rem3 (k : IntKind) (x : Int) : evInt .rem k x 3 = some (.int k (x.tmod 3)) := rfl
theorem markStepS (S B1 : Boxs) (ix n i k : Nat) (C1 C2 : List AV) (f v w : AV) (hS : S.length = ix) (hi : i < n) (hn : n ≤ 1099511627776) (hC : C1.length = i * 3) (h0 : 0 < k) (hk : k + 3 ≤ 4611686018427387904) :
    codeX XV [] b243_0 ⟨[(0, .tsl true ix 3 n), (1, .d (.int .i64 (k : Int))), (5, .d (.int .i64 (i : Int)))], S ++ some (C1 ++ f :: v :: w :: C2) :: B1⟩ =
      some (.normal, ⟨[(0, .tsl true ix 3 n), (1, .d (.int .i64 ((k + 3 : Nat) : Int))), (5, .d (.int .i64 ((i + 1 : Nat) : Int)))], S ++ some (C1 ++ .d (.str (mText k)) :: .d (.int .i64 ((k + 1 : Nat) : Int)) :: .d (.bool ((((k + 2 : Nat) : Int).tmod 3) == 0)) :: C2) :: B1⟩) := by
  have hw := wrap_succ (n := i) (by omega)
  have hw1 := wrap_succ (n := k) (by omega)
  have hw2 := wrap_succ (n := k + 1) (by omega)
  have hw3 := wrap_succ (n := k + 2) (by omega)
  have hget : ∀ (c : List AV) (r : Boxs), (S ++ some c :: r)[ix]? = some (some c) := fun c r => by rw [← hS]; exact get_at S (some c) r
  have hset : ∀ (c d : List AV) (r : Boxs), (S ++ some c :: r).set ix (some d) = S ++ some d :: r := fun c d r => by rw [← hS]; exact set_at S (some c) (some d) r
  have s0 := fun x => sp0 C1 (v :: w :: C2) f x i hC
  have s1 := fun a x => sp1 C1 (w :: C2) a v x i hC
  have s2 := fun a b x => rp2 C1 C2 a b w x i hC
  have le0 : i * 3 + 1 ≤ C1.length + (C2.length + 1 + 1 + 1) := by omega
  have le1 : i * 3 + 1 + 1 ≤ C1.length + (C2.length + 1 + 1 + 1) := by omega
  have le2 : i * 3 + 2 + 1 ≤ C1.length + (C2.length + 1 + 1 + 1) := by omega
  have hm := fun B => markText_eq k h0 (by omega) B
  generalize ((k : Nat) : Int) = K0 at *
  generalize ((k + 1 : Nat) : Int) = K1 at *
  generalize ((k + 2 : Nat) : Int) = K2 at *
  generalize ((k + 2 + 1 : Nat) : Int) = K3 at *
  simp [b243_0, r243_0, r243_1, r243_2, r243_4, r243_5, r243_6, r243_7, r243_8, r243_9, r243_3, r243_10, hi, hw, hw1, hw2, hw3, hget, hset, s0, s1, s2, le0, le1, le2, hm, evInt_rem3]
theorem markSyms_eq (l : List SymL) (hl : l.length ≤ 1099511627776) (k : Nat) (h0 : 0 < k) (hk : k + 3 * l.length ≤ 4611686018427387904) (B0 B1 : Boxs) :
    callX XV 243 [tSy B0.length l, .d (.int .i64 (k : Int))] (B0 ++ bSy l ++ B1) = some (.d (.int .i64 ((k + 3 * l.length : Nat) : Int)), B0 ++ bSy (mkSy l.length k) ++ B1) := by
  rw [z_call XV _ _ _ v243 rfl xcode_243 rfl]
  by_cases hne : l = []
  · subst hne
    have h := loopX_upto (X := XV) (T := []) (L := (B0 ++ B1).length) (live := [0, 1, 5]) (b := b243_0) (n := 0) (β := Unit) (γ := Unit) (st := fun _ i => ⟨[(0, .d (.sl .sub [])), (1, .d (.int .i64 k)), (5, .d (.int .i64 i))], B0 ++ B1⟩) (step := fun _ _ => .inl ())
      (F := fun _ => (.exit 0, ⟨[(0, .d (.sl .sub [])), (1, .d (.int .i64 k)), (5, .d (.int .i64 0)), (9, .d (.bool false))], B0 ++ B1⟩)) (R := fun _ => (.ret, ⟨[], []⟩)) (fun a => ⟨by simp, by simp [b243_0, r243_0, r243_1, r243_2, r243_4, r243_5, r243_6, r243_7, r243_8, r243_9, r243_3, r243_10]⟩) (fun a i hi => by omega) 0 () 0 ⟨[(0, .d (.sl .sub [])), (1, .d (.int .i64 k)), (5, .d (.int .i64 0))], B0 ++ B1⟩ rfl (head_cut (e := []) (by simp) (by simp [safeRegs]) rfl (by simp))
    simp only [runN, List.length_append] at h
    have htk : List.take (B0.length + B1.length) (B0 ++ B1) = B0 ++ B1 := List.take_of_length_le (by simp)
    simp [tSy, bSy, mkSy, sg, v243, r243_0, r243_1, r243_2, r243_4, r243_5, r243_6, r243_7, r243_8, r243_9, r243_3, r243_10]
    rw [h]
    simp [htk, v243, r243_0, r243_1, r243_2, r243_4, r243_5, r243_6, r243_7, r243_8, r243_9, r243_3, r243_10]
  · have hmn : mkSy l.length k ≠ [] := fun h => by
      have := mkSy_len l.length k
      rw [h] at this; exact hne (List.length_eq_zero_iff.1 this.symm)
    have h := loopX_upto (X := XV) (T := []) (L := B0.length + (B1.length + 1)) (live := [0, 1, 5]) (b := b243_0) (n := l.length) (γ := Unit) (st := fun (_ : Unit) i => ⟨[(0, .tsl true B0.length 3 l.length), (1, .d (.int .i64 ((k + 3 * i : Nat) : Int))), (5, .d (.int .i64 i))], B0 ++ some (sCells (upSy l k i)) :: B1⟩) (step := fun _ _ => .inl ())
      (F := fun _ => (.exit 0, ⟨[(0, .tsl true B0.length 3 l.length), (1, .d (.int .i64 ((k + 3 * l.length : Nat) : Int))), (5, .d (.int .i64 l.length)), (9, .d (.bool false))], B0 ++ some (sCells (upSy l k l.length)) :: B1⟩)) (R := fun _ => (.ret, ⟨[], []⟩))
      (fun _ => ⟨by simp, by generalize ((k + 3 * l.length : Nat) : Int) = K; simp [b243_0, r243_0, r243_1, r243_2, r243_4, r243_5, r243_6, r243_7, r243_8, r243_9, r243_3, r243_10]⟩)
      (fun _ i hi => by
        have hst := markStepS B0 B1 B0.length l.length i (k + 3 * i) (sCells (mkSy i k)) (sCells (l.drop (i + 1))) (.d (.str (symAt l i).name)) (.d (.int .i64 (symAt l i).arity)) (.d (.bool (symAt l i).ac)) rfl hi hl (by rw [sCells_len, mkSy_len]; omega) (by omega) (by omega)
        rw [← upSy_at l k i hi, ← upSy_next l k i, show k + 3 * i + 3 = k + 3 * (i + 1) by omega] at hst
        exact ⟨_, hst, head_cut (e := []) (by simp) (by simp [safeRegs, safe_tsl]) (by simp) (by simp)⟩)
      l.length () 0 ⟨[(0, .tsl true B0.length 3 l.length), (1, .d (.int .i64 (k : Int))), (5, .d (.int .i64 0))], B0 ++ some (sCells l) :: B1⟩ (by omega) (head_cut (e := []) (by simp) (by simp [safeRegs, safe_tsl]) (by simp) (by simp [upSy, mkSy]))
    rw [run_on] at h
    have hall : upSy l k l.length = mkSy l.length k := by simp [upSy]
    rw [hall] at h
    have htk : ∀ c : List AV, List.take (B0.length + (B1.length + 1)) (B0 ++ some c :: B1) = B0 ++ some c :: B1 := fun c => List.take_of_length_le (by simp)
    generalize ((k + 3 * l.length : Nat) : Int) = Kn at h ⊢
    simp [tSy, bSy, hne, v243, r243_0, r243_1, r243_2, r243_4, r243_5, r243_6, r243_7, r243_8, r243_9, r243_3, r243_10]
    rw [h]
    simp [v243, r243_0, r243_1, r243_2, r243_4, r243_5, r243_6, r243_7, r243_8, r243_9, r243_3, r243_10, hmn, htk]
theorem bSy_mk (l : List SymL) (k : Nat) : (bSy (mkSy l.length k)).length = (bSy l).length := by
  unfold bSy
  have := mkSy_len l.length k
  by_cases h : l = []
  · subst h; rfl
  · have h2 : mkSy l.length k ≠ [] := fun h2 => by rw [h2] at this; exact h (List.length_eq_zero_iff.1 this.symm)
    simp [h, h2]
theorem allUs_syms : ∀ l : List SymL, DV.allUs (l.map SymL.enc) = true
  | [] => rfl
  | x :: r => by
    have h2 : DV.allUs ((x :: r).map SymL.enc) = (x.enc.allU && DV.allUs (r.map SymL.enc)) := rfl
    rw [h2, allUs_syms r]; rfl
theorem allUT_syms (l : List SymL) : (DV.sl U (l.map SymL.enc)).allUT = true := by
  cases l with
  | nil => rfl
  | cons x r =>
    have h2 : (DV.sl U ((x :: r).map SymL.enc)).allUT = (decide (U = U) && DV.allUs ((x :: r).map SymL.enc)) := rfl
    rw [h2, allUs_syms]; simp
end Go.Proofs.Ytnjgnjejkmcgmaa.VS
namespace Go.Proofs.Ytnjgnjejkmcgmaa.VS
set_option linter.unusedVariables false
set_option linter.unusedSimpArgs false
theorem qa0 (C1 C2 : List AV) (f : AV) (i : Nat) (h : C1.length = i * 4) : (C1 ++ f :: C2)[i * 4]? = some f := by rw [← h]; simp
theorem qa1 (C1 C2 : List AV) (f v : AV) (i : Nat) (h : C1.length = i * 4) : (C1 ++ f :: v :: C2)[i * 4 + 1]? = some v := by
  rw [← h, List.getElem?_append_right (by omega)]; simp
theorem qa2 (C1 C2 : List AV) (f v w : AV) (i : Nat) (h : C1.length = i * 4) : (C1 ++ f :: v :: w :: C2)[i * 4 + 1 + 1]? = some w := by
  rw [← h, List.getElem?_append_right (by omega), show C1.length + 1 + 1 - C1.length = 2 by omega]; rfl
theorem heldStepB (S B1 : Boxs) (ix n i : Nat) (K0 K1 K2 K3 Kn : Int) (C1 C2 : List AV) (row : AV) (hS : S.length = ix) (hi : i < n) (hn : n ≤ 1099511627776) (hC : C1.length = i * 4) (hw1 : IntKind.i64.wrap (K0 + 1) = K1) (hw2 : IntKind.i64.wrap (K1 + 1) = K2) (hw3 : IntKind.i64.wrap (K2 + 1) = K3) (hrow : row.clr = row) (hKn : ¬ Kn < 0)
    (hcall : callX XV 292 [row, .d (.int .i64 K3)] (S ++ some (C1 ++ .d (.int .i64 K0) :: .d (.int .i64 K1) :: .d (.int .i64 K2) :: row :: C2) :: B1) = some (.d (.int .i64 Kn), S ++ some (C1 ++ .d (.int .i64 K0) :: .d (.int .i64 K1) :: .d (.int .i64 K2) :: row :: C2) :: B1)) :
    codeX XV (XV.lin 291) b291_0 ⟨[(0, .tsl true ix 4 n), (1, .d (.int .i64 K0)), (5, .d (.int .i64 (i : Int)))], S ++ some (C1 ++ .d (.int .i64 K0) :: .d (.int .i64 K1) :: .d (.int .i64 K2) :: row :: C2) :: B1⟩ =
      some (.normal, ⟨[(0, .tsl true ix 4 n), (1, .d (.int .i64 Kn)), (5, .d (.int .i64 ((i + 1 : Nat) : Int)))], S ++ some (C1 ++ .d (.int .i64 K0) :: .d (.int .i64 K1) :: .d (.int .i64 K2) :: row :: C2) :: B1⟩) := by
  have hw := wrap_succ (n := i) (by omega)
  have hget : ∀ (c : List AV) (r : Boxs), (S ++ some c :: r)[ix]? = some (some c) := fun c r => by rw [← hS]; exact get_at S (some c) r
  have g0 := fun a => qa0 C1 (.d (.int .i64 K1) :: .d (.int .i64 K2) :: row :: C2) a i hC
  have g1 := fun a b => qa1 C1 (.d (.int .i64 K2) :: row :: C2) a b i hC
  have g2 := fun a b c => qa2 C1 (row :: C2) a b c i hC
  have g3 := fun a b c => qa3 C1 C2 a b c row i hC
  simp [b291_0, r291_0, r291_1, r291_2, r291_4, r291_5, r291_6, r291_7, r291_8, r291_9, r291_10, r291_11, r291_12, r291_13, r291_14, r291_15, r291_3, r291_16, hi, hw, hw1, hw2, hw3, hget, g0, g1, g2, g3, hrow, hKn, hcall]
theorem mkB_append : ∀ (a c : List Bd) (k : Nat), mkB (a ++ c) k = mkB a k ++ mkB c (k + cntB a)
  | [], c, k => by simp [mkB, cntB]
  | t :: r, c, k => by
    simp only [List.cons_append, mkB, mkB_append r, cntB]
    congr 3; omega
theorem heldBinds_eq (l : List Bd) (hl : l.length ≤ 1099511627776) (hb : ∀ i, i < l.length → (bAt l i).t.inner ≤ 1099511627776) (k : Nat) (hk : k + cntB l ≤ 4611686018427387904) (B0 B1 : Boxs) :
    callX XV 291 [tBs B0.length l, .d (.int .i64 (k : Int))] (B0 ++ bBs B0.length (mkB l k) ++ B1) = some (.d (.int .i64 ((k + cntB l : Nat) : Int)), B0 ++ bBs B0.length (mkB l k) ++ B1) := by
  rw [z_call XV _ _ _ v291 rfl xcode_291 rfl]
  by_cases hne : l = []
  · subst hne
    have h := loopX_upto (X := XV) (T := XV.lin 291) (L := (B0 ++ B1).length) (live := [0, 1, 5]) (b := b291_0) (n := 0) (β := Unit) (γ := Unit) (st := fun _ i => ⟨[(0, .d (.sl .sub [])), (1, .d (.int .i64 k)), (5, .d (.int .i64 i))], B0 ++ B1⟩) (step := fun _ _ => .inl ())
      (F := fun _ => (.exit 0, ⟨[(0, .d (.sl .sub [])), (1, .d (.int .i64 k)), (5, .d (.int .i64 0)), (9, .d (.bool false))], B0 ++ B1⟩)) (R := fun _ => (.ret, ⟨[], []⟩)) (fun a => ⟨by simp, by simp [b291_0, r291_0, r291_1, r291_2, r291_4, r291_5, r291_6, r291_7, r291_8, r291_9, r291_10, r291_11, r291_12, r291_13, r291_14, r291_15, r291_3, r291_16]⟩) (fun a i hi => by omega) 0 () 0 ⟨[(0, .d (.sl .sub [])), (1, .d (.int .i64 k)), (5, .d (.int .i64 0))], B0 ++ B1⟩ rfl (head_cut (e := []) (by simp) (by simp [safeRegs]) rfl (by simp))
    simp only [runN, List.length_append, lin_291] at h
    have htk : List.take (B0.length + B1.length) (B0 ++ B1) = B0 ++ B1 := List.take_of_length_le (by simp)
    simp [tBs, bBs, mkB, cntB, binds, v291, r291_0, r291_1, r291_2, r291_4, r291_5, r291_6, r291_7, r291_8, r291_9, r291_10, r291_11, r291_12, r291_13, r291_14, r291_15, r291_3, r291_16]
    rw [h]
    simp [htk, v291, r291_0, r291_1, r291_2, r291_4, r291_5, r291_6, r291_7, r291_8, r291_9, r291_10, r291_11, r291_12, r291_13, r291_14, r291_15, r291_3, r291_16]
  · have hmn : mkB l k ≠ [] := fun h => hne (by have := mkB_len l k; rw [h] at this; exact List.length_eq_zero_iff.1 this.symm)
    simp only [tBs, bBs, if_neg hne, if_neg hmn]
    have hlen : (B0 ++ T.bxs B0.length (ts (mkB l k))).length = B0.length + T.nbs (ts l) := by rw [List.length_append, bxs_len, mkB_nbs]
    have h := loopX_upto (X := XV) (T := XV.lin 291) (L := B0.length + T.nbs (ts l) + (B1.length + 1)) (live := [0, 1, 5]) (b := b291_0) (n := l.length) (γ := Unit) (st := fun (_ : Unit) i => ⟨[(0, .tsl true (B0.length + T.nbs (ts l)) 4 l.length), (1, .d (.int .i64 ((k + cntB (l.take i) : Nat) : Int))), (5, .d (.int .i64 i))], (B0 ++ T.bxs B0.length (ts (mkB l k))) ++ some (bCells B0.length (mkB l k)) :: B1⟩) (step := fun _ _ => .inl ())
      (F := fun _ => (.exit 0, ⟨[(0, .tsl true (B0.length + T.nbs (ts l)) 4 l.length), (1, .d (.int .i64 ((k + cntB l : Nat) : Int))), (5, .d (.int .i64 l.length)), (9, .d (.bool false))], (B0 ++ T.bxs B0.length (ts (mkB l k))) ++ some (bCells B0.length (mkB l k)) :: B1⟩)) (R := fun _ => (.ret, ⟨[], []⟩))
      (fun _ => ⟨by simp, by rw [List.take_length]; generalize ((k + cntB l : Nat) : Int) = K; simp [b291_0, r291_0, r291_1, r291_2, r291_4, r291_5, r291_6, r291_7, r291_8, r291_9, r291_10, r291_11, r291_12, r291_13, r291_14, r291_15, r291_3, r291_16]⟩)
      (fun _ i hi => by
        have hkt : k + cntB (l.take (i + 1)) ≤ 4611686018427387904 := by have := cntB_le l (i + 1); omega
        have hct := cntB_take l i hi
        have hin := hb i hi
        have hsp : mkB l k = mkB (l.take i) k ++ mkBd (bAt l i) (k + cntB (l.take i)) :: mkB (l.drop (i + 1)) (k + cntB (l.take (i + 1))) := by
          have : l = l.take (i + 1) ++ l.drop (i + 1) := (List.take_append_drop _ _).symm
          rw [this, mkB_append, bTake l i hi, mkB_snoc]
          rw [← bTake l i hi, ← this]; simp
        have hr := heldRow_eq (bAt l i).t.kids (by rw [cnts_kids]; exact hin) (k + cntB (l.take i) + 3) (by rw [cnts_kids]; omega) (B0 ++ T.bxs B0.length (ts (mkB (l.take i) k))) (T.bxs (B0.length + T.nbs (ts (mkB (l.take i) k)) + rowN (bAt l i).t.kids) (ts (mkB (l.drop (i + 1)) (k + cntB (l.take (i + 1))))) ++ some (bCells B0.length (mkB l k)) :: B1)
        rw [cnts_kids] at hr
        have hl0 : (B0 ++ T.bxs B0.length (ts (mkB (l.take i) k))).length = B0.length + T.nbs (ts (mkB (l.take i) k)) := by rw [List.length_append, bxs_len]
        rw [hl0] at hr
        have c2 := bCells_mid (mkB (l.take i) k) (mkB (l.drop (i + 1)) (k + cntB (l.take (i + 1)))) (mkBd (bAt l i) (k + cntB (l.take i))) B0.length
        have b2 := tbx_mid (mkB (l.take i) k) (mkB (l.drop (i + 1)) (k + cntB (l.take (i + 1)))) (mkBd (bAt l i) (k + cntB (l.take i))) B0.length
        have mf : ∀ x k, (mkBd x k).v = (k : Int) ∧ (mkBd x k).t.f = ((k + 1 : Nat) : Int) ∧ (mkBd x k).t.v = ((k + 2 : Nat) : Int) ∧ (mkBd x k).t.kids = T.marks (k + 3) x.t.kids := fun x k => ⟨rfl, rfl, rfl, rfl⟩
        rw [(mf _ _).2.2.2, rowN_marks, ← hsp] at b2
        rw [(mf _ _).1, (mf _ _).2.1, (mf _ _).2.2.1, (mf _ _).2.2.2, rowN_marks, tRow_marks, ← hsp] at c2
        have hS' : (B0 ++ T.bxs B0.length (ts (mkB (l.take i) k))) ++ bRow (B0.length + T.nbs (ts (mkB (l.take i) k))) (T.marks (k + cntB (l.take i) + 3) (bAt l i).t.kids) ++ (T.bxs (B0.length + T.nbs (ts (mkB (l.take i) k)) + rowN (bAt l i).t.kids) (ts (mkB (l.drop (i + 1)) (k + cntB (l.take (i + 1))))) ++ some (bCells B0.length (mkB l k)) :: B1) = (B0 ++ T.bxs B0.length (ts (mkB l k))) ++ some (bCells B0.length (mkB l k)) :: B1 := by rw [b2]; simp only [List.append_assoc]
        rw [hS'] at hr
        rw [show k + cntB (l.take i) + 3 + 2 * (bAt l i).t.inner = k + cntB (l.take (i + 1)) by omega] at hr
        rw [c2] at hr
        have hst := heldStepB (B0 ++ T.bxs B0.length (ts (mkB l k))) B1 (B0.length + T.nbs (ts l)) l.length i ((k + cntB (l.take i) : Nat) : Int) ((k + cntB (l.take i) + 1 : Nat) : Int) ((k + cntB (l.take i) + 2 : Nat) : Int) ((k + cntB (l.take i) + 3 : Nat) : Int) ((k + cntB (l.take (i + 1)) : Nat) : Int)
          (bCells B0.length (mkB (l.take i) k)) (bCells (B0.length + T.nbs (ts (mkB (l.take i) k)) + rowN (bAt l i).t.kids) (mkB (l.drop (i + 1)) (k + cntB (l.take (i + 1))))) (tRow (B0.length + T.nbs (ts (mkB (l.take i) k))) (bAt l i).t.kids) hlen hi hl
          (by rw [bCells_len, mkB_len, List.length_take]; omega) (wrap_succ (by omega)) (wrap_succ (by omega)) (wrap_succ (by omega)) (clr_tRow _ _) (by omega) hr
        rw [← c2] at hst
        exact ⟨_, hst, head_cut (e := []) (by simp) (by simp [safeRegs, safe_tsl]) (by rw [List.length_append, hlen]; simp) (by simp)⟩)
      l.length () 0 ⟨[(0, .tsl true (B0.length + T.nbs (ts l)) 4 l.length), (1, .d (.int .i64 (k : Int))), (5, .d (.int .i64 0))], (B0 ++ T.bxs B0.length (ts (mkB l k))) ++ some (bCells B0.length (mkB l k)) :: B1⟩ (by omega) (head_cut (e := []) (by simp [cntB]) (by simp [safeRegs, safe_tsl]) (by rw [List.length_append, hlen]; simp) (by simp))
    rw [run_on] at h
    simp only [lin_291] at h
    have hap : ∀ (X : Boxs) (c : List AV), B0 ++ (X ++ [some c]) ++ B1 = (B0 ++ X) ++ some c :: B1 := fun X c => by simp
    rw [hap]
    have hln3 : ((B0 ++ T.bxs B0.length (ts (mkB l k))) ++ some (bCells B0.length (mkB l k)) :: B1).length = B0.length + T.nbs (ts l) + (B1.length + 1) := by
      have := mkB_nbs l k
      simp only [List.length_append, bxs_len, List.length_cons, this]
    generalize hQ' : (B0 ++ T.bxs B0.length (ts (mkB l k))) ++ some (bCells B0.length (mkB l k)) :: B1 = Q' at h hln3 ⊢
    generalize ((k + cntB l : Nat) : Int) = Kn at h ⊢
    rw [← hln3] at h
    simp [v291, r291_0, r291_1, r291_2, r291_4, r291_5, r291_6, r291_7, r291_8, r291_9, r291_10, r291_11, r291_12, r291_13, r291_14, r291_15, r291_3, r291_16]
    rw [h]
    simp [v291, r291_0, r291_1, r291_2, r291_4, r291_5, r291_6, r291_7, r291_8, r291_9, r291_10, r291_11, r291_12, r291_13, r291_14, r291_15, r291_3, r291_16]
end Go.Proofs.Ytnjgnjejkmcgmaa.VS
namespace Go.Proofs.Ytnjgnjejkmcgmaa.VS
set_option linter.unusedVariables false
set_option linter.unusedSimpArgs false
/-! ## Boxes of arguments, side by side -/
theorem bx_get (A L : Boxs) (r m : Nat) (h : A.length = r) : (A ++ L)[r + m]? = L[m]? := by
  subst h; rw [List.getElem?_append_right (by omega)]; congr 1; omega
theorem bx_get0 (A L : Boxs) (c : Option (List AV)) (r : Nat) (h : A.length = r) : (A ++ c :: L)[r]? = some c := by
  subst h; simp
theorem bx_set (A L : Boxs) (r m : Nat) (v : Option (List AV)) (h : A.length = r) : (A ++ L).set (r + m) v = A ++ L.set m v := by
  subst h; rw [List.set_append_right _ _ (by omega)]; congr 2; omega
theorem bx_set0 (A L : Boxs) (c v : Option (List AV)) (r : Nat) (h : A.length = r) : (A ++ c :: L).set r v = A ++ v :: L := by
  subst h; simp
theorem nle1 (a b : Nat) : (a + (b + 1) ≤ a) = False := by simp
theorem clrs3 (x y z : AV) : AV.clrs [x, y, z] = [x.clr, y.clr, z.clr] := by simp only [AV.clrs]
/-- A thawed row of functions at a place, with all that a law does with it. -/
structure ThS (l : List SymL) (b : Nat) (y : AV) (R R' : Boxs) (k K : Nat) : Prop where
  th : (sg l).thaw b = (y, R)
  cl : y.clr = y
  sf : ∀ m, b + R.length ≤ m → y.safe m = true
  ic : y.isCell = true
  len : R'.length = R.length
  frz : ∀ P Q : Boxs, P.length = b → AV.frz (P ++ (R ++ Q)) y = some (sg l)
  mark : ∀ P Q : Boxs, P.length = b → callX XV 243 [y, .d (.int .i64 (k : Int))] (P ++ (R ++ Q)) = some (.d (.int .i64 (K : Int)), P ++ (R' ++ Q))
theorem safe_tSy (b m : Nat) (l : List SymL) (h : b + (bSy l).length ≤ m) : (tSy b l).safe m = true := by
  unfold tSy
  by_cases hl : l = []
  · simp [hl]
  · simp only [hl, if_false]; simp [bSy, hl] at h; simp [safe_tsl]; omega
theorem isCell_tSy (b : Nat) (l : List SymL) : (tSy b l).isCell = true := by unfold tSy; split <;> rfl
theorem thS_of (l : List SymL) (hl : l.length ≤ 1099511627776) (b k : Nat) (h0 : 0 < k) (hk : k ≤ 1000000000000) : ∃ y R R', ThS l b y R R' k (k + 3 * l.length) :=
  ⟨tSy b l, bSy l, bSy (mkSy l.length k), thaw_syms b l, clr_tSy b l, fun m h => safe_tSy b m l h, isCell_tSy b l, bSy_mk l k,
    fun P Q hP => by subst hP; rw [← List.append_assoc]; exact frz_tSy l P Q,
    fun P Q hP => by subst hP; rw [← List.append_assoc, ← List.append_assoc]; exact markSyms_eq l hl k h0 (by omega) P Q⟩
/-- A thawed term, in a variable. -/
structure ThT (t : T) (b : Nat) (row y : AV) (R R' : Boxs) (k K : Nat) : Prop where
  th : (t.enc .sub).thaw b = (.ag false [.d (.int .i64 t.f), .d (.int .i64 t.v), row], R)
  cl : row.clr = row
  cly : y.clr = y
  sf : ∀ m, b + R.length ≤ m → row.safe m = true
  ic : row.isCell = true
  pl : row.plainT = true
  len : R'.length = R.length
  ag : boxAg [.d (.int .i64 t.f), .d (.int .i64 t.v), row] (consD (.int .i64 t.f) (consD (.int .i64 t.v) (datas [row]))) = some y
  frz : ∀ P Q : Boxs, P.length = b → AV.frz (P ++ (R ++ Q)) y = some (t.enc .sub)
  mark : ∀ P Q : Boxs, P.length = b → callX XV 308 [y, .d (.int .i64 (k : Int))] (P ++ (R ++ Q)) = some (.d (.int .i64 (K : Int)), P ++ (R' ++ Q))
theorem thT_of (t : T) (ht : t.inner ≤ 1099511627776) (b k : Nat) (hk : k ≤ 1000000000000) : ∃ row y R R', ThT t b row y R R' k (k + 2 * t.inner) :=
  ⟨tRow b t.kids, tAg b t, bRow b t.kids, bRow b (T.marks k t.kids), thaw_term t b, clr_tRow b t.kids, tAg_clr b t, fun m h => safe_tRow m b t.kids (by rw [bRow_len] at h; exact h), isCell_tRow b t.kids, plain_tRow b t.kids,
    by rw [bRow_len, bRow_len, rowN_marks], tAg_ag b t,
    fun P Q hP => by subst hP; rw [← List.append_assoc]; exact frz_tAg t P Q,
    fun P Q hP => by subst hP; rw [← List.append_assoc, ← List.append_assoc]; exact markTerm_eq t ht k hk P Q⟩
/-- A thawed row of what is put. -/
structure ThB (l : List Bd) (b : Nat) (y : AV) (R R' : Boxs) (k K : Nat) : Prop where
  th : (binds .sub l).thaw b = (y, R)
  cl : y.clr = y
  sf : ∀ m, b + R.length ≤ m → y.safe m = true
  ic : y.isCell = true
  len : R'.length = R.length
  frz : ∀ P Q : Boxs, P.length = b → AV.frz (P ++ (R ++ Q)) y = some (binds .sub l)
  mark : ∀ P Q : Boxs, P.length = b → callX XV 293 [y, .d (.int .i64 (k : Int))] (P ++ (R ++ Q)) = some (.d (.int .i64 (K : Int)), P ++ (R' ++ Q))
theorem bBs_len (b : Nat) (l : List Bd) : (bBs b l).length = if l = [] then 0 else T.nbs (ts l) + 1 := by
  unfold bBs; split <;> simp [bxs_len]
theorem safe_tBs (b m : Nat) (l : List Bd) (h : b + (bBs b l).length ≤ m) : (tBs b l).safe m = true := by
  rw [bBs_len] at h
  unfold tBs
  by_cases hl : l = []
  · simp [hl]
  · simp only [hl, if_false] at h ⊢; simp [safe_tsl]; omega
theorem mkB_bxs (l : List Bd) (b k : Nat) : (bBs b (mkB l k)).length = (bBs b l).length := by
  rw [bBs_len, bBs_len, mkB_nbs]
  have := mkB_len l k
  by_cases hl : l = []
  · subst hl; rfl
  · rw [if_neg hl, if_neg (fun h => hl (by rw [h] at this; exact List.length_eq_zero_iff.1 this.symm))]
theorem thB_of (l : List Bd) (hl : l.length ≤ 1099511627776) (hb : ∀ i, i < l.length → (bAt l i).t.inner ≤ 1099511627776) (b k : Nat) (hk : k + cntB l ≤ 4611686018427387904) : ∃ y R R', ThB l b y R R' k (k + cntB l) :=
  have hmk : ∀ B0 : Nat, (if l = [] then ([] : Boxs) else T.bxs B0 (ts (mkB l k)) ++ [some (bCells B0 (mkB l k))]) = bBs B0 (mkB l k) := fun B0 => by
    unfold bBs
    have := mkB_len l k
    by_cases hl : l = []
    · subst hl; rfl
    · rw [if_neg hl, if_neg (fun h => hl (by rw [h] at this; exact List.length_eq_zero_iff.1 this.symm))]
  ⟨tBs b l, bBs b l, bBs b (mkB l k), thaw_binds b l, clr_tBs b l, fun m h => safe_tBs b m l h, by unfold tBs; split <;> rfl,
    mkB_bxs l b k,
    fun P Q hP => by subst hP; rw [← List.append_assoc]; exact frz_tBs l P Q,
    fun P Q hP => by subst hP; rw [← List.append_assoc, ← List.append_assoc]; have := markBinds_eq l hl hb k hk P Q; rw [hmk] at this; exact this⟩
theorem thBh_of (l : List Bd) (hl : l.length ≤ 1099511627776) (hb : ∀ i, i < l.length → (bAt l i).t.inner ≤ 1099511627776) (b k : Nat) (hk : k + cntB l ≤ 4611686018427387904) : ∃ y R R', ThB l b y R R' k (k + cntB l) ∧ ∀ P Q : Boxs, P.length = b → callX XV 291 [y, .d (.int .i64 (k : Int))] (P ++ (R' ++ Q)) = some (.d (.int .i64 ((k + cntB l : Nat) : Int)), P ++ (R' ++ Q)) :=
  have hmk : ∀ B0 : Nat, (if l = [] then ([] : Boxs) else T.bxs B0 (ts (mkB l k)) ++ [some (bCells B0 (mkB l k))]) = bBs B0 (mkB l k) := fun B0 => by
    unfold bBs
    have := mkB_len l k
    by_cases hl : l = []
    · subst hl; rfl
    · rw [if_neg hl, if_neg (fun h => hl (by rw [h] at this; exact List.length_eq_zero_iff.1 this.symm))]
  ⟨tBs b l, bBs b l, bBs b (mkB l k), ⟨thaw_binds b l, clr_tBs b l, fun m h => safe_tBs b m l h, by unfold tBs; split <;> rfl,
    mkB_bxs l b k,
    fun P Q hP => by subst hP; rw [← List.append_assoc]; exact frz_tBs l P Q,
    fun P Q hP => by subst hP; rw [← List.append_assoc, ← List.append_assoc]; have := markBinds_eq l hl hb k hk P Q; rw [hmk] at this; exact this⟩, fun P Q hP => by subst hP; rw [← List.append_assoc]; exact heldBinds_eq l hl hb k hk P Q⟩
end Go.Proofs.Ytnjgnjejkmcgmaa.VS
namespace Go.Proofs.Ytnjgnjejkmcgmaa.VS
set_option linter.unusedVariables false
set_option linter.unusedSimpArgs false
/-- A value of a term, some of whose rows may be shared. -/
def IsV (d : DV) (a : T) : Prop := ∃ (g : Tag) (X : List DV), d = .agg [.int .i64 a.f, .int .i64 a.v, .sl g X] ∧ X.map DV.clr = a.kids.map (T.enc .sub)
theorem isV_nM (s : List SymL) (t : T) : IsV (nM s t) (t.norm s) := ⟨U, rowM s t, by rw [nM_eq, norm_f, norm_v], clr_rowM s t⟩
theorem IsV.clr {d : DV} {a : T} (h : IsV d a) : d.clr = a.enc .sub := by
  obtain ⟨g, X, rfl, hX⟩ := h
  simp only [DV.clr, DV.clrs]
  rw [DV.clrs_map, hX, T.enc_eq]
end Go.Proofs.Ytnjgnjejkmcgmaa.VS
namespace Go.Proofs.Ytnjgnjejkmcgmaa.VS
set_option linter.unusedVariables false
set_option linter.unusedSimpArgs false
mutual
/-- What is put for variables, not in one form. -/
def fillT (u : List Bd) : T → T
  | .node f v ks => if f = -1 ∧ ks.length = 0 then lookT u v else .node f v (fillTs u ks)
def fillTs (u : List Bd) : List T → List T
  | [] => []
  | t :: r => fillT u t :: fillTs u r
end
theorem fillTs_map (u : List Bd) : ∀ l : List T, fillTs u l = l.map (fillT u)
  | [] => by simp [fillTs]
  | t :: r => by simp [fillTs, fillTs_map u r]
theorem lookT_max (u : List Bd) (n : Int) (M : Nat) (hM : ∀ i, i < u.length → (bAt u i).t.inner ≤ M) : (lookT u n).inner ≤ M := by
  unfold lookT
  split
  · rename_i i h
    unfold foundB at h
    exact hM i (by have := (findAt_lt _ _ _ _ h).2.1; omega)
  · simp [T.inner, T.inners]
mutual
theorem fillT_inner (u : List Bd) (M : Nat) (hM : ∀ i, i < u.length → (bAt u i).t.inner ≤ M) : ∀ t : T, (fillT u t).inner + 1 ≤ (t.inner + 1) * (M + 1)
  | .node f v ks => by
    have h := fillTs_cnts u M hM ks
    simp only [fillT]
    split
    · have := lookT_max u v M hM
      have h2 : (M + 1) ≤ ((T.node f v ks).inner + 1) * (M + 1) := Nat.le_mul_of_pos_left _ (by omega)
      omega
    · rw [T.inner_node, T.inner_node, Nat.add_mul]
      omega
theorem fillTs_cnts (u : List Bd) (M : Nat) (hM : ∀ i, i < u.length → (bAt u i).t.inner ≤ M) : ∀ l : List T, cnts (fillTs u l) ≤ cnts l * (M + 1)
  | [] => by simp [fillTs, cnts, T.inners]
  | t :: r => by
    have h1 := fillT_inner u M hM t
    have h2 := fillTs_cnts u M hM r
    simp only [fillTs, cnts_cons, Nat.add_mul] at *
    omega
end
theorem fill_bound (a b : Nat) (h : a + b ≤ 1048576) : (a + 1) * (b + 1) ≤ 1099511627776 := by
  rcases Nat.lt_or_ge 524288 a with h1 | h1
  · exact Nat.le_trans (Nat.mul_le_mul (show a + 1 ≤ 1048577 by omega) (show b + 1 ≤ 524289 by omega)) (by decide)
  · exact Nat.le_trans (Nat.mul_le_mul (show a + 1 ≤ 524289 by omega) (show b + 1 ≤ 1048577 by omega)) (by decide)
theorem fillT_le (u : List Bd) (t : T) (M : Nat) (hM : ∀ i, i < u.length → (bAt u i).t.inner ≤ M) (h : t.inner + M ≤ 1048576) : (fillT u t).inner ≤ 1099511627776 := by
  have h1 := fillT_inner u M hM t
  have h2 := fill_bound t.inner M h
  omega
theorem filled_of (u : List Bd) (hu : u.length ≤ 1099511627776) (hb : ∀ i, i < u.length → (bAt u i).t.inner ≤ 1099511627776) (f v : Int) (ks : List T) (hl : ks.length ≤ 1099511627776)
    (hc : ∀ t, t ∈ ks → callX XV 168 [.d (binds .sub u), .d (t.enc .sub)] [] = some (.d ((fillT u t).enc U), [])) :
    callX XV 168 [.d (binds .sub u), .d ((T.node f v ks).enc .sub)] [] = some (.d ((fillT u (.node f v ks)).enc U), []) := by
  rw [z_call XV _ _ _ v168 rfl xcode_168 rfl]
  have hv := isVar_eq (T.node f v ks)
  by_cases hcond : f = -1 ∧ ks.length = 0
  · obtain ⟨rfl, h0⟩ := hcond
    have hks : ks = [] := List.length_eq_zero_iff.1 h0
    subst hks
    have hk := implLook_eq u v hu hb
    simp only [fillT, List.length_nil, and_self, if_true]
    generalize lookT u v = a at *
    simp [v168, r168_0, r168_1, r168_2, r168_3, r168_4, r168_5, r168_6, r168_7, r168_8, r168_9, r168_10, hv, hk, splice, isCell_int, isCell_sl, isCellA_d, safe_d, loadBox]
  · have hB : ((f == -1) && ((ks.length : Int) == 0)) = false := by
      rw [Bool.and_eq_false_iff]
      by_cases h1 : f = -1
      · right; exact beq_false_of_ne (by omega)
      · left; exact beq_false_of_ne h1
    simp only [fillT, if_neg hcond]
    have hmap : ∀ i, i < ks.length → xappend 3 40 (.sl U ((fillTs u (ks.take i)).map (T.enc U))) (.sl U [(fillT u (tAt ks i)).enc U]) = some (.sl U ((fillTs u (ks.take (i + 1))).map (T.enc U))) := fun i hi => by
      have := app_terms (fillTs u (ks.take i)) [fillT u (tAt ks i)] U (by rw [fillTs_map]; simp; omega)
      rw [take_snoc ks i hi, fillTs_map u (_ ++ _), List.map_append, ← fillTs_map]
      exact this
    have hloop := loopX_upto (X := XV) (T := XV.lin 168) (L := 2) (live := [0, 3, 4, 5, 22, 23, 24]) (b := b168_0) (n := ks.length) (γ := Unit) (st := fun (_ : Unit) i => ⟨[(0, .d (binds .sub u)), (3, .ptr 0 0), (4, .ptr 1 0), (5, .d (.sl U ((fillTs u (ks.take i)).map (T.enc U)))), (22, .d (terms .sub ks)), (23, .d (.int .i64 ks.length)), (24, .d (.int .i64 i))], nB f v ks⟩) (step := fun _ _ => .inl ())
      (F := fun _ => (.exit 0, ⟨[(0, .d (binds .sub u)), (3, .ptr 0 0), (4, .ptr 1 0), (5, .d (.sl U ((fillTs u (ks.take ks.length)).map (T.enc U)))), (22, .d (terms .sub ks)), (23, .d (.int .i64 ks.length)), (24, .d (.int .i64 ks.length)), (25, .d (.bool false))], nB f v ks⟩)) (R := fun _ => (.ret, ⟨[], []⟩))
      (fun _ => ⟨by simp, by simp [b168_0, r168_0, r168_1, r168_2, r168_3, r168_4, r168_5, r168_6, r168_7, r168_8, r168_9, r168_10]⟩)
      (fun _ i hi => by
        have hw := wrap_succ (n := i) (by omega)
        have hc' := hc _ (tAt_mem hi)
        have ha := hmap i hi
        have hcl : ((fillTs u (ks.take (i + 1))).map (T.enc U)) = ((fillTs u (ks.take (i + 1))).map (T.enc U)) := rfl
        generalize hl2 : (fillTs u (ks.take (i + 1))).map (T.enc U) = l2 at ha
        generalize (fillTs u (ks.take i)).map (T.enc U) = l1 at ha ⊢
        generalize fillT u (tAt ks i) = a at *
        exact ⟨⟨[(0, .d (binds .sub u)), (3, .ptr 0 0), (4, .ptr 1 0), (5, .d (.sl U l2)), (22, .d (terms .sub ks)), (23, .d (.int .i64 ks.length)), (24, .d (.int .i64 (i + 1 : Nat)))], nB f v ks ++ [some [.d (.int .i64 (tAt ks i).f), .d (.int .i64 (tAt ks i).v), .d (terms .sub (tAt ks i).kids)]]⟩, by simp [b168_0, r168_0, r168_1, r168_2, r168_3, r168_4, r168_5, r168_6, r168_7, r168_8, r168_9, r168_10, nB, hi, hw, cut, tAt_lt hi, hc', ha, splice, isCell_int, isCell_sl, isCellA_d, safe_d, loadBox],
          head_cut (e := [some [.d (.int .i64 (tAt ks i).f), .d (.int .i64 (tAt ks i).v), .d (terms .sub (tAt ks i).kids)]]) (by simp [← hl2]) (by simp [safeRegs]) (by simp [nB]) rfl⟩)
      ks.length () 0 ⟨[(0, .d (binds .sub u)), (3, .ptr 0 0), (4, .ptr 1 0), (5, .d (.sl U [])), (22, .d (terms .sub ks)), (23, .d (.int .i64 ks.length)), (24, .d (.int .i64 0))], nB f v ks⟩ (by omega) (head_cut (e := []) (by simp [fillTs]) (by simp [safeRegs]) (by simp [nB]) (by simp))
    rw [run_on, List.take_length] at hloop
    simp only [lin_168, nB] at hloop
    have henc : (T.node f v (fillTs u ks)).enc U = .agg [.int .i64 f, .int .i64 v, .sl U ((fillTs u ks).map (T.enc U))] := by rw [T.enc_eq]; rfl
    rw [henc]
    generalize (fillTs u ks).map (T.enc U) = R at *
    simp only [T.f_node] at hv
    cases hf : (f == -1) with
    | false =>
      rw [hf] at hv
      simp [v168, r168_0, r168_1, r168_2, r168_3, r168_4, r168_5, r168_6, r168_7, r168_8, r168_9, r168_10, hv, splice, isCell_int, isCell_sl, isCellA_d, safe_d, loadBox]
      rw [hloop]
      simp [v168, r168_0, r168_1, r168_2, r168_3, r168_4, r168_5, r168_6, r168_7, r168_8, r168_9, r168_10, splice, isCell_int, isCell_sl, isCellA_d, safe_d, loadBox]
    | true =>
      rw [hf] at hv hB
      simp only [Bool.true_and] at hB
      generalize hn : (ks.length : Int) = n at *
      simp [v168, r168_0, r168_1, r168_2, r168_3, r168_4, r168_5, r168_6, r168_7, r168_8, r168_9, r168_10, hv, hB, hn, splice, isCell_int, isCell_sl, isCellA_d, safe_d, loadBox]
      rw [hloop]
      simp [v168, r168_0, r168_1, r168_2, r168_3, r168_4, r168_5, r168_6, r168_7, r168_8, r168_9, r168_10, splice, isCell_int, isCell_sl, isCellA_d, safe_d, loadBox]
theorem filled_eq (u : List Bd) (hu : u.length ≤ 1099511627776) (hb : ∀ i, i < u.length → (bAt u i).t.inner ≤ 1099511627776) (t : T) (ht : t.inner ≤ 1099511627776) : callX XV 168 [.d (binds .sub u), .d (t.enc .sub)] [] = some (.d ((fillT u t).enc U), []) := by
  match t, ht with
  | .node f v ks, ht =>
    rw [T.inner_node] at ht
    exact filled_of u hu hb f v ks (by have := len_cnts ks; omega) fun x hx => filled_eq u hu hb x (by have := mem_inner hx; omega)
termination_by t
decreasing_by
  simp_wf
  have := List.sizeOf_lt_of_mem hx
  omega
theorem l6Put_of (u : List Bd) (hu : u.length ≤ 1099511627776) (hb : ∀ i, i < u.length → (bAt u i).t.inner ≤ 1099511627776) (f v : Int) (ks : List T) (hl : ks.length ≤ 1099511627776)
    (hc : ∀ t, t ∈ ks → callX XV 152 [.d (binds .sub u), .d (t.enc .sub)] [] = some (.d ((fillT u t).enc U), [])) :
    callX XV 152 [.d (binds .sub u), .d ((T.node f v ks).enc .sub)] [] = some (.d ((fillT u (.node f v ks)).enc U), []) := by
  rw [z_call XV _ _ _ v152 rfl xcode_152 rfl]
  by_cases hcond : f = -1 ∧ ks.length = 0
  · obtain ⟨rfl, h0⟩ := hcond
    have hks : ks = [] := List.length_eq_zero_iff.1 h0
    subst hks
    have hk := specLook_eq u v hu hb
    simp only [fillT, List.length_nil, and_self, if_true]
    generalize lookT u v = a at *
    simp [v152, r152_0, r152_1, r152_2, r152_3, r152_4, r152_5, d152_7, r152_6, r152_8, hk, splice, isCell_int, isCell_sl, isCellA_d, safe_d, loadBox]
  · have hB : ((f == -1) && ((ks.length : Int) == 0)) = false := by
      rw [Bool.and_eq_false_iff]
      by_cases h1 : f = -1
      · right; exact beq_false_of_ne (by omega)
      · left; exact beq_false_of_ne h1
    simp only [fillT, if_neg hcond]
    have hmap : ∀ i, i < ks.length → xappend 3 40 (.sl U ((fillTs u (ks.take i)).map (T.enc U))) (.sl U [(fillT u (tAt ks i)).enc U]) = some (.sl U ((fillTs u (ks.take (i + 1))).map (T.enc U))) := fun i hi => by
      have := app_terms (fillTs u (ks.take i)) [fillT u (tAt ks i)] U (by rw [fillTs_map]; simp; omega)
      rw [take_snoc ks i hi, fillTs_map u (_ ++ _), List.map_append, ← fillTs_map]
      exact this
    have hloop := loopX_upto (X := XV) (T := XV.lin 152) (L := 3) (live := [0, 3, 4, 5, 6]) (b := b152_0) (n := ks.length) (γ := Unit) (st := fun (_ : Unit) i => ⟨[(0, .d (binds .sub u)), (3, .ptr 0 0), (4, .ptr 1 0), (5, .ptr 2 0), (6, .d (.int .i64 i))], nB3 f v ks ((fillTs u (ks.take i)).map (T.enc U))⟩) (step := fun _ _ => .inl ())
      (F := fun _ => (.exit 0, ⟨[(0, .d (binds .sub u)), (3, .ptr 0 0), (4, .ptr 1 0), (5, .ptr 2 0), (6, .d (.int .i64 ks.length)), (29, .d (.bool false))], nB3 f v ks ((fillTs u (ks.take ks.length)).map (T.enc U))⟩)) (R := fun _ => (.ret, ⟨[], []⟩))
      (fun _ => ⟨by simp, by simp [b152_0, r152_0, r152_1, r152_2, r152_3, r152_4, r152_5, d152_7, r152_6, r152_8, nB3, loadBox]⟩)
      (fun _ i hi => by
        have hw := wrap_succ (n := i) (by omega)
        have hc' := hc _ (tAt_mem hi)
        have ha := hmap i hi
        generalize hl2 : (fillTs u (ks.take (i + 1))).map (T.enc U) = l2 at ha
        generalize (fillTs u (ks.take i)).map (T.enc U) = l1 at ha ⊢
        generalize fillT u (tAt ks i) = a at *
        exact ⟨⟨[(0, .d (binds .sub u)), (3, .ptr 0 0), (4, .ptr 1 0), (5, .ptr 2 0), (6, .d (.int .i64 (i + 1 : Nat)))], nB3 f v ks l2⟩, by simp [b152_0, r152_0, r152_1, r152_2, r152_3, r152_4, r152_5, d152_7, r152_6, r152_8, nB3, hi, hw, cut, tAt_lt hi, hc', ha, splice, AV.clrs_map, isCell_int, isCell_sl, isCellA_d, safe_d, loadBox],
          head_cut (e := []) (by simp [← hl2]) (by simp [safeRegs]) (by simp [nB3]) (by simp [← hl2])⟩)
      ks.length () 0 ⟨[(0, .d (binds .sub u)), (3, .ptr 0 0), (4, .ptr 1 0), (5, .ptr 2 0), (6, .d (.int .i64 0))], nB3 f v ks []⟩ (by omega) (head_cut (e := []) (by simp [fillTs]) (by simp [safeRegs]) (by simp [nB3]) (by simp [fillTs]))
    rw [run_on, List.take_length] at hloop
    simp only [lin_152, nB3] at hloop
    have henc : (T.node f v (fillTs u ks)).enc U = .agg [.int .i64 f, .int .i64 v, .sl U ((fillTs u ks).map (T.enc U))] := by rw [T.enc_eq]; rfl
    rw [henc]
    generalize (fillTs u ks).map (T.enc U) = R at *
    cases hf : (f == -1) with
    | false =>
      simp [v152, r152_0, r152_1, r152_2, r152_3, r152_4, r152_5, d152_7, r152_6, r152_8, hf, splice, isCell_int, isCell_sl, isCellA_d, safe_d, loadBox]
      rw [hloop]
      simp [v152, r152_0, r152_1, r152_2, r152_3, r152_4, r152_5, d152_7, r152_6, r152_8, splice, isCell_int, isCell_sl, isCellA_d, safe_d, loadBox, AV.clrs_map]
    | true =>
      rw [hf] at hB
      simp only [Bool.true_and] at hB
      generalize hn : (ks.length : Int) = n at *
      simp [v152, r152_0, r152_1, r152_2, r152_3, r152_4, r152_5, d152_7, r152_6, r152_8, hf, hB, hn, splice, isCell_int, isCell_sl, isCellA_d, safe_d, loadBox]
      rw [hloop]
      simp [v152, r152_0, r152_1, r152_2, r152_3, r152_4, r152_5, d152_7, r152_6, r152_8, splice, isCell_int, isCell_sl, isCellA_d, safe_d, loadBox, AV.clrs_map]
theorem l6Put_eq (u : List Bd) (hu : u.length ≤ 1099511627776) (hb : ∀ i, i < u.length → (bAt u i).t.inner ≤ 1099511627776) (t : T) (ht : t.inner ≤ 1099511627776) : callX XV 152 [.d (binds .sub u), .d (t.enc .sub)] [] = some (.d ((fillT u t).enc U), []) := by
  match t, ht with
  | .node f v ks, ht =>
    rw [T.inner_node] at ht
    exact l6Put_of u hu hb f v ks (by have := len_cnts ks; omega) fun x hx => l6Put_eq u hu hb x (by have := mem_inner hx; omega)
termination_by t
decreasing_by
  simp_wf
  have := List.sizeOf_lt_of_mem hx
  omega
/-- What is put, in one form. -/
def applyT (l : List SymL) (u : List Bd) (t : T) : T := (fillT u t).norm l
theorem applyT_inner (l : List SymL) (u : List Bd) (t : T) : (applyT l u t).inner ≤ (fillT u t).inner := inner_norm l _
theorem implApply_eq (l : List SymL) (hs : l.length ≤ 1099511627776) (u : List Bd) (t : T) (hu : u.length ≤ 1099511627776) (hb : ∀ i, i < u.length → (bAt u i).t.inner ≤ 1099511627776) (ht : t.inner ≤ 1099511627776) (hf : (fillT u t).inner ≤ 1099511627776) :
    callX XV 135 [.d (sg l), .d (binds .sub u), .d (t.enc .sub)] [] = some (.d ((applyT l u t).enc U), []) := by
  have h1 := filled_eq u hu hb t ht
  have h2 := implNorm_eq l hs (fillT u t) hf
  unfold applyT
  generalize fillT u t = a at *
  generalize a.norm l = c at *
  rw [z_call XV _ _ _ v135 rfl xcode_135 rfl]
  simp [v135, r135_0, r135_1, h1, h2, splice, isCell_int, isCell_sl, isCellA_d, safe_d, loadBox]
theorem specApply_eq (l : List SymL) (hs : l.length ≤ 1099511627776) (u : List Bd) (t : T) (hu : u.length ≤ 1099511627776) (hb : ∀ i, i < u.length → (bAt u i).t.inner ≤ 1099511627776) (ht : t.inner ≤ 1099511627776) (hf : (fillT u t).inner ≤ 1099511627776) :
    ∃ d, callX XV 141 [.d (sg l), .d (binds .sub u), .d (t.enc .sub)] [] = some (.d d, []) ∧ IsV d (applyT l u t) := by
  have h1 := l6Put_eq u hu hb t ht
  have h2 := specNorm_eq l hs (fillT u t) hf
  refine ⟨nM l (fillT u t), ?_, isV_nM l _⟩
  rw [nM_eq] at h2 ⊢
  generalize fillT u t = a at *
  generalize rowM l a = X at *
  rw [z_call XV _ _ _ v141 rfl xcode_141 rfl]
  simp [v141, r141_0, r141_1, h1, h2, splice, isCell_int, isCell_sl, isCellA_d, safe_d, loadBox]
end Go.Proofs.Ytnjgnjejkmcgmaa.VS
namespace Go.Proofs.Ytnjgnjejkmcgmaa.VS
set_option linter.unusedVariables false
set_option linter.unusedSimpArgs false
def bcells (b : Bd) : List AV := [.d (.int .i64 b.v), .d (.int .i64 b.t.f), .d (.int .i64 b.t.v), .d (terms .sub b.t.kids)]
theorem indexFuncB_eq (l : List Bd) (fk : Nat) (caps : List AV) (B : Boxs) (P : Bd → Bool) (hl : l.length ≤ 1099511627776) (hs : AV.safe.safes B.length caps = true) (hcc : caps.map AV.clr = caps) (hk : ¬ 0 ∈ XV.lin fk)
    (hf : ∀ s, s ∈ l → callX XV fk (.d (s.enc .sub) :: caps) B = some (.d (.bool (P s)), B)) :
    callX XV 76 [.d (binds .sub l), .fn fk caps] B = some (.d (.int .i64 (orNeg (findAt (fun i => P (bAt l i)) l.length 0))), B) := by
  rw [z_call XV _ _ _ v76 rfl xcode_76 rfl]
  have h := loopX_upto (X := XV) (T := XV.lin 76) (L := B.length) (live := [0, 1, 7, 8]) (b := b76_0) (n := l.length) (st := fun (_ : Unit) i => ⟨[(0, .d (binds .sub l)), (1, .fn fk caps), (7, .d (.int .i64 l.length)), (8, .d (.int .i64 i))], B⟩) (step := stepF fun i => P (bAt l i))
    (F := fun _ => (.exit 0, ⟨[(0, .d (binds .sub l)), (1, .fn fk caps), (7, .d (.int .i64 l.length)), (8, .d (.int .i64 l.length)), (9, .d (.bool false))], B⟩)) (R := fun (j : Nat) => (.ret, ⟨[(4, .d (.int .i64 j))], B⟩))
    (fun a => ⟨by simp, by simp [b76_0, r76_0, r76_1, r76_2, r76_3, r76_4, r76_5, r76_6, r76_7, hcc]⟩)
    (fun a i hi => by
      have hw := wrap_succ (n := i) (by omega)
      have hc := hf _ (bAt_mem hi)
      unfold stepF
      by_cases hq : P (bAt l i) = true
      · rw [if_pos hq]; rw [hq] at hc
        exact ⟨by simp, by simp [b76_0, r76_0, r76_1, r76_2, r76_3, r76_4, r76_5, r76_6, r76_7, hi, hw, cut, bAt_lt hi, hc, hcc, hk]⟩
      · rw [if_neg hq]
        have hq' : P (bAt l i) = false := by simpa using hq
        rw [hq'] at hc
        exact ⟨_, by simp [b76_0, r76_0, r76_1, r76_2, r76_3, r76_4, r76_5, r76_6, r76_7, hi, hw, cut, bAt_lt hi, hc, hcc, hk]; rfl, by simp [xheadOf, safeRegs, hs]⟩)
    l.length () 0 ⟨[(0, .d (binds .sub l)), (1, .fn fk caps), (7, .d (.int .i64 l.length)), (8, .d (.int .i64 0))], B⟩ (by omega) (by simp [xheadOf, safeRegs, hs])
  rw [runF] at h
  simp only [lin_76] at h
  simp [v76, r76_0, r76_1, r76_2, r76_3, r76_4, r76_5, r76_6, r76_7, hcc]
  rw [h]
  cases hq : findAt (fun i => P (bAt l i)) l.length 0 <;> simp [orNeg, v76, r76_0, r76_1, r76_2, r76_3, r76_4, r76_5, r76_6, r76_7]
end Go.Proofs.Ytnjgnjejkmcgmaa.VS
namespace Go.Proofs.Ytnjgnjejkmcgmaa.VS
set_option linter.unusedVariables false
set_option linter.unusedSimpArgs false
/-! ## One more variable is put -/
def sposB (u : List Bd) (v : Int) : Option Nat := findAt (fun i => decide (v ≤ (bAt u i).v)) u.length 0
def atB (u : List Bd) (v : Int) (i : Nat) : Bool := decide (sposB u v = some i)
def befB (u : List Bd) (v : Int) (i : Nat) : Bool := match sposB u v with
  | some j => decide (j < i)
  | none => false
theorem atB_spec (u : List Bd) (v : Int) (i : Nat) (hi : i < u.length) : atB u v i = (!befB u v i && decide (v ≤ (bAt u i).v)) := by
  have h := findAt_both (fun i => decide (v ≤ (bAt u i).v)) u.length 0
  unfold atB befB sposB
  cases hq : findAt (fun i => decide (v ≤ (bAt u i).v)) u.length 0 with
  | none =>
    have := h.2 hq i (by omega) (by omega)
    simp [this]
  | some j =>
    have h1 := (findAt_lt _ _ _ _ hq)
    by_cases e : j = i
    · subst e
      have := h1.2.2
      simp [this]
    · rcases Nat.lt_or_ge j i with e1 | e1
      · simp [e, e1]
      · have := h.1 j hq i (by omega) (by omega)
        simp [e, this]
theorem befB_zero (u : List Bd) (v : Int) : befB u v 0 = false := by unfold befB; split <;> simp
theorem befB_succ (u : List Bd) (v : Int) (i : Nat) : befB u v (i + 1) = (befB u v i || atB u v i) := by
  unfold befB atB
  cases sposB u v with
  | none => simp
  | some j =>
    simp only [Option.some.injEq, Bool.or_eq_decide]
    rw [Bool.eq_iff_iff]
    simp
    omega
theorem befB_all (u : List Bd) (v : Int) : befB u v u.length = (sposB u v).isSome := by
  unfold befB
  cases hq : sposB u v with
  | none => rfl
  | some j =>
    have := (findAt_lt _ _ _ _ hq).2.1
    simp; omega
theorem orNeg_at (u : List Bd) (v : Int) (i : Nat) : ((i : Int) == orNeg (sposB u v)) = atB u v i := by
  unfold atB
  cases sposB u v with
  | none =>
    simp only [orNeg]
    rw [beq_false_of_ne (by omega)]; simp
  | some j =>
    simp only [orNeg]
    by_cases h : i = j
    · subst h; simp
    · rw [beq_false_of_ne (by omega)]
      symm; simp; omega
theorem orNeg_neg (u : List Bd) (v : Int) : decide (orNeg (sposB u v) < 0) = !(sposB u v).isSome := by
  cases sposB u v with
  | none => rfl
  | some j =>
    have : ¬ ((j : Int) < 0) := by omega
    simp [orNeg, this]
def outS (l : List SymL) (u : List Bd) (v : Int) (t : T) (i : Nat) : List Bd :=
  (if atB u v i = true then [⟨v, t⟩] else []) ++ (if ((bAt u i).v == v) = true then [] else [⟨(bAt u i).v, applyT l [⟨v, t⟩] (bAt u i).t⟩])
def accS (l : List SymL) (u : List Bd) (v : Int) (t : T) : Nat → List Bd
  | 0 => []
  | i + 1 => accS l u v t i ++ outS l u v t i
def subAddT (l : List SymL) (u : List Bd) (v : Int) (t : T) : List Bd := accS l u v t u.length ++ (if (sposB u v).isSome = true then [] else [⟨v, t⟩])
theorem outS_len (l : List SymL) (u : List Bd) (v : Int) (t : T) (i : Nat) : (outS l u v t i).length ≤ 2 := by
  unfold outS
  split <;> split <;> simp
theorem accS_len (l : List SymL) (u : List Bd) (v : Int) (t : T) : ∀ i, (accS l u v t i).length ≤ 2 * i
  | 0 => by simp [accS]
  | i + 1 => by
    have h1 := accS_len l u v t i
    have h2 := outS_len l u v t i
    simp only [accS, List.length_append]; omega
theorem app_binds (a : List Bd) (x : Bd) (h : (a.length + 1) * 48 ≤ 140737488355328) : xappend 4 48 (.sl U (a.map (Bd.enc U))) (.sl U [x.enc U]) = some (.sl U ((a ++ [x]).map (Bd.enc U))) := by
  unfold xappend
  simp only
  rw [if_pos (by simp [isCell_int, isCell_sl])]
  simp only [List.isEmpty_cons, Bool.false_eq_true, if_false]
  rw [if_pos ⟨by simpa using h, trivial, by simp⟩]
  simp
theorem app_bindX (a : List Bd) (v : Int) (t : T) (h : (a.length + 1) * 48 ≤ 140737488355328) : xappend 4 48 (.sl U (a.map (Bd.enc U))) (.sl U [.agg [.int .i64 v, .int .i64 t.f, .int .i64 t.v, terms U t.kids]]) = some (.sl U ((a ++ [(⟨v, t⟩ : Bd)]).map (Bd.enc U))) := app_binds a ⟨v, t⟩ h
theorem sub167_eq (b : Bd) (v : Int) (c1 : Option (List AV)) : callX XV 167 [.d (b.enc .sub), .ptr 0 0] [some [.d (.int .i64 v)], c1] = some (.d (.bool (decide (v ≤ b.v))), [some [.d (.int .i64 v)], c1]) := by
  rw [z_call XV _ _ _ v167 rfl xcode_167 rfl]
  simp [v167, r167_0, r167_1, splice, isCell_int, isCell_sl, isCellA_d, safe_d, loadBox]
def vB (v : Int) (t : T) : Boxs := [some [.d (.int .i64 v)], some [.d (.int .i64 t.f), .d (.int .i64 t.v), .d (terms .sub t.kids)]]
theorem body137 (l : List SymL) (u : List Bd) (v k : Int) (t : T) (O : DV) (hO : O.clr = O) (acc : List Bd) (hacc : acc.length + 2 ≤ 2199023255560) (i : Nat) (hi : i < u.length) (hul : u.length ≤ 1099511627776) (hk : ((i : Int) == k) = atB u v i)
    (hcp : callX XV 150 [.d (t.enc .sub)] [] = some (.d (t.enc U), [])) (hap : callX XV 135 [.d (sg l), .d O, .d ((bAt u i).t.enc .sub)] [] = some (.d ((applyT l [⟨v, t⟩] (bAt u i).t).enc U), [])) :
    ∃ e : Boxs, codeX XV (XV.lin 137) b137_0 ⟨[(0, .d (sg l)), (6, .ptr 0 0), (7, .ptr 1 0), (9, .d O), (10, .d (.sl U (acc.map (Bd.enc U)))), (11, .d (.int .i64 k)), (22, .d (binds .sub u)), (23, .d (.int .i64 u.length)), (24, .d (.int .i64 i))], vB v t⟩ =
      some (.normal, ⟨[(0, .d (sg l)), (6, .ptr 0 0), (7, .ptr 1 0), (9, .d O), (10, .d (.sl U ((acc ++ outS l u v t i).map (Bd.enc U)))), (11, .d (.int .i64 k)), (22, .d (binds .sub u)), (23, .d (.int .i64 u.length)), (24, .d (.int .i64 (i + 1 : Nat)))], vB v t ++ e⟩) := by
  have hw := wrap_succ (n := i) (by omega)
  have ht := bAt_lt hi
  refine ⟨[some (bcells (bAt u i))], ?_⟩
  unfold outS vB bcells
  generalize applyT l [⟨v, t⟩] (bAt u i).t = a at *
  generalize hb : bAt u i = b at *
  have a1 := app_bindX acc v t (by omega)
  have a2 := app_bindX (acc ++ [⟨v, t⟩]) b.v a (by simp; omega)
  have a3 := app_bindX acc b.v a (by omega)
  have c1 : ∀ a : List Bd, (a.map (Bd.enc U)).map DV.clr = a.map (Bd.enc .sub) := fun a => by simp
  cases h1 : atB u v i <;> cases h2 : (b.v == v)
  · have h2n : (b.v != v) = true := by simp [bne, h2]
    rw [h1] at hk
    simp only [Bool.false_eq_true, if_false, List.nil_append]
    generalize (acc ++ [(⟨b.v, a⟩ : Bd)]).map (Bd.enc U) = R3 at *
    generalize acc.map (Bd.enc U) = R1 at *
    simp [b137_0, r137_0, r137_1, r137_2, r137_3, r137_4, r137_5, r137_6, r137_7, d137_8, r137_9, d137_10, r137_11, r137_12, d137_13, r137_14, hi, hw, cut, ht, hk, h2n, hap, hO, a3, splice, isCell_int, isCell_sl, isCellA_d, safe_d, loadBox]
  · have h2n : (b.v != v) = false := by simp [bne, h2]
    rw [h1] at hk
    simp only [Bool.false_eq_true, if_false, if_true, List.nil_append, List.append_nil]
    generalize acc.map (Bd.enc U) = R1 at *
    simp [b137_0, r137_0, r137_1, r137_2, r137_3, r137_4, r137_5, r137_6, r137_7, d137_8, r137_9, d137_10, r137_11, r137_12, d137_13, r137_14, hi, hw, cut, ht, hk, h2n, hO, splice, isCell_int, isCell_sl, isCellA_d, safe_d, loadBox]
  · have h2n : (b.v != v) = true := by simp [bne, h2]
    rw [h1] at hk
    simp only [Bool.false_eq_true, if_false, if_true, List.append_assoc] at a1 a2 ⊢
    generalize (acc ++ ([(⟨v, t⟩ : Bd)] ++ [(⟨b.v, a⟩ : Bd)])).map (Bd.enc U) = R3 at *
    generalize (acc ++ [(⟨v, t⟩ : Bd)]).map (Bd.enc U) = R2 at *
    generalize acc.map (Bd.enc U) = R1 at *
    simp [b137_0, r137_0, r137_1, r137_2, r137_3, r137_4, r137_5, r137_6, r137_7, d137_8, r137_9, d137_10, r137_11, r137_12, d137_13, r137_14, hi, hw, cut, ht, hk, h2n, hap, hcp, hO, a1, a2, splice, isCell_int, isCell_sl, isCellA_d, safe_d, loadBox]
  · have h2n : (b.v != v) = false := by simp [bne, h2]
    rw [h1] at hk
    simp only [if_true, List.append_nil]
    generalize (acc ++ [(⟨v, t⟩ : Bd)]).map (Bd.enc U) = R2 at *
    generalize acc.map (Bd.enc U) = R1 at *
    simp [b137_0, r137_0, r137_1, r137_2, r137_3, r137_4, r137_5, r137_6, r137_7, d137_8, r137_9, d137_10, r137_11, r137_12, d137_13, r137_14, hi, hw, cut, ht, hk, h2n, hcp, hO, a1, splice, isCell_int, isCell_sl, isCellA_d, safe_d, loadBox]
theorem implSubAdd_eq (l : List SymL) (hs : l.length ≤ 1099511627776) (u : List Bd) (v : Int) (t : T) (hu : u.length ≤ 1048577) (hb : ∀ i, i < u.length → (bAt u i).t.inner ≤ 1099511627776) (ht : t.inner ≤ 1099511627776) (hf : ∀ i, i < u.length → (fillT [⟨v, t⟩] (bAt u i).t).inner ≤ 1099511627776) :
    callX XV 137 [.d (sg l), .d (binds .sub u), .d (.int .i64 v), .d (t.enc .sub)] [] = some (.d (binds U (subAddT l u v t)), []) := by
  have hcp := copyTerm_eq t ht
  have hix := indexFuncB_eq u 167 [.ptr 0 0] (vB v t) (fun b => decide (v ≤ b.v)) (by omega) (by simp [safes_cons, safes_nil, vB]) (by simp) (by simp) (fun b hb => sub167_eq b v _)
  have hone : ∀ i, i < u.length → callX XV 135 [.d (sg l), .d (binds .sub [(⟨v, t⟩ : Bd)]), .d ((bAt u i).t.enc .sub)] [] = some (.d ((applyT l [⟨v, t⟩] (bAt u i).t).enc U), []) := fun i hi =>
    implApply_eq l hs [⟨v, t⟩] (bAt u i).t (by simp) (fun j hj => by simp at hj; subst hj; exact ht) (hb i hi) (hf i hi)
  have hO : (binds .sub [(⟨v, t⟩ : Bd)]).clr = binds .sub [(⟨v, t⟩ : Bd)] := by simp
  have hOe : binds .sub [(⟨v, t⟩ : Bd)] = .sl .sub [.agg [.int .i64 v, .int .i64 t.f, .int .i64 t.v, terms .sub t.kids]] := rfl
  have head : ∀ (x : Int) (R : DV) (O : DV) (e : Boxs), xheadOf 2 [0, 6, 7, 9, 10, 11, 22, 23, 24] ⟨[(0, .d (sg l)), (6, .ptr 0 0), (7, .ptr 1 0), (9, .d O), (10, .d R), (11, .d (.int .i64 (orNeg (sposB u v)))), (22, .d (binds .sub u)), (23, .d (.int .i64 u.length)), (24, .d (.int .i64 x))], vB v t ++ e⟩ = some ⟨[(0, .d (sg l)), (6, .ptr 0 0), (7, .ptr 1 0), (9, .d O), (10, .d R), (11, .d (.int .i64 (orNeg (sposB u v)))), (22, .d (binds .sub u)), (23, .d (.int .i64 u.length)), (24, .d (.int .i64 x))], vB v t⟩ := fun x R O e =>
    head_cut (by simp) (by simp [safeRegs]) (by simp [vB]) rfl
  have hloop : ∀ (k i : Nat), i + k = u.length → ∀ e : Boxs, loopX XV (XV.lin 137) 2 [0, 6, 7, 9, 10, 11, 22, 23, 24] b137_0 ⟨[(0, .d (sg l)), (6, .ptr 0 0), (7, .ptr 1 0), (9, .d (binds .sub [(⟨v, t⟩ : Bd)])), (10, .d (.sl U ((accS l u v t i).map (Bd.enc U)))), (11, .d (.int .i64 (orNeg (sposB u v)))), (22, .d (binds .sub u)), (23, .d (.int .i64 u.length)), (24, .d (.int .i64 i))], vB v t ++ e⟩ =
      some (.exit 0, ⟨[(0, .d (sg l)), (6, .ptr 0 0), (7, .ptr 1 0), (9, .d (binds .sub [(⟨v, t⟩ : Bd)])), (10, .d (.sl U ((accS l u v t u.length).map (Bd.enc U)))), (11, .d (.int .i64 (orNeg (sposB u v)))), (22, .d (binds .sub u)), (23, .d (.int .i64 u.length)), (24, .d (.int .i64 u.length)), (25, .d (.bool false))], vB v t⟩) := by
    intro k
    induction k with
    | zero =>
      intro i hi e
      have : i = u.length := by omega
      subst this
      refine loopX_out (head _ _ _ e) ?_ (by simp)
      generalize (accS l u v t u.length).map (Bd.enc U) = R
      simp [b137_0, r137_0, r137_1, r137_2, r137_3, r137_4, r137_5, r137_6, r137_7, d137_8, r137_9, d137_10, r137_11, r137_12, d137_13, r137_14, vB]
    | succ k ih =>
      intro i hi e
      have hlt : i < u.length := by omega
      have hal := accS_len l u v t i
      obtain ⟨e', he⟩ := body137 l u v (orNeg (sposB u v)) t (binds .sub [(⟨v, t⟩ : Bd)]) hO (accS l u v t i) (by omega) i hlt (by omega) (orNeg_at u v i) hcp (hone i hlt)
      rw [← ih (i + 1) (by omega) e']
      exact loopX_go (head _ _ _ e) he
  have h1 := hloop u.length 0 (by omega) []
  have hal := accS_len l u v t u.length
  have hneg := orNeg_neg u v
  have ha := app_bindX (accS l u v t u.length) v t (by omega)
  have hixv : orNeg (findAt (fun i => decide (v ≤ (bAt u i).v)) u.length 0) = orNeg (sposB u v) := rfl
  rw [z_call XV _ _ _ v137 rfl xcode_137 rfl]
  unfold subAddT
  rw [hixv] at hix
  generalize orNeg (sposB u v) = k at *
  simp only [accS, List.map_nil, List.append_nil, lin_137, Int.natCast_zero, vB] at h1 hix
  rw [hOe] at h1
  cases hsome : (sposB u v).isSome with
  | true =>
    simp only [if_true, List.append_nil, binds]
    generalize (accS l u v t u.length).map (Bd.enc U) = R at *
    rw [hsome] at hneg
    simp only [decide_eq_false_iff_not, Bool.not_true] at hneg
    simp [v137, r137_0, r137_1, r137_2, r137_3, r137_4, r137_5, r137_6, r137_7, d137_8, r137_9, d137_10, r137_11, r137_12, d137_13, r137_14, hix, clrs3, splice, isCell_int, isCell_sl, isCellA_d, safe_d, loadBox]
    rw [h1]
    simp [v137, r137_0, r137_1, r137_2, r137_3, r137_4, r137_5, r137_6, r137_7, d137_8, r137_9, d137_10, r137_11, r137_12, d137_13, r137_14, hneg]
  | false =>
    simp only [Bool.false_eq_true, if_false, binds]
    generalize (accS l u v t u.length ++ [(⟨v, t⟩ : Bd)]).map (Bd.enc U) = R2 at *
    generalize (accS l u v t u.length).map (Bd.enc U) = R at *
    rw [hsome] at hneg
    simp only [decide_eq_true_eq, Bool.not_false] at hneg
    simp [v137, r137_0, r137_1, r137_2, r137_3, r137_4, r137_5, r137_6, r137_7, d137_8, r137_9, d137_10, r137_11, r137_12, d137_13, r137_14, hix, clrs3, splice, isCell_int, isCell_sl, isCellA_d, safe_d, loadBox]
    rw [h1]
    simp [v137, r137_0, r137_1, r137_2, r137_3, r137_4, r137_5, r137_6, r137_7, d137_8, r137_9, d137_10, r137_11, r137_12, d137_13, r137_14, hneg, hcp, ha, clrs3, splice, isCell_int, isCell_sl, isCellA_d, safe_d, loadBox]
theorem cells4 {d : DV} {b : Bd} (h : d.clr = b.enc .sub) : d.cells.length = 4 := by
  cases d with
  | agg cs =>
    simp only [DV.clr, Bd.enc, DV.agg.injEq] at h
    have := congrArg List.length h
    rw [DV.clrs_map, List.length_map] at this
    simpa [DV.cells] using this
  | _ => unfold DV.clr Bd.enc at h; cases h
theorem app4 (R : List DV) (acc : List Bd) (hR : R.map DV.clr = acc.map (Bd.enc .sub)) (v f w : Int) (g : Tag) (X : List DV) (h : (acc.length + 1) * 48 ≤ 140737488355328) :
    xappend 4 48 (.sl U R) (.sl U [.agg [.int .i64 v, .int .i64 f, .int .i64 w, .sl g X]]) = some (.sl U (R ++ [DV.agg [.int .i64 v, .int .i64 f, .int .i64 w, .sl g X]])) := by
  have hlen : R.length = acc.length := by have := congrArg List.length hR; simpa using this
  have hall : R.all (fun e => decide (e.cells.length = 4)) = true := by
    rw [List.all_eq_true]
    intro d hd
    have : d.clr ∈ acc.map (Bd.enc .sub) := by rw [← hR]; exact List.mem_map_of_mem hd
    obtain ⟨b, _, hb⟩ := List.mem_map.1 this
    simp [cells4 hb.symm]
  unfold xappend
  simp only
  rw [if_pos (by simp [DV.cells, isCell_int, isCell_sl])]
  simp only [List.isEmpty_cons, Bool.false_eq_true, if_false]
  rw [if_pos ⟨by simp [hlen]; omega, trivial, hall⟩]
theorem body142 (l : List SymL) (u : List Bd) (v : Int) (t : T) (O : DV) (hO : O.clr = O) (acc : List Bd) (R : List DV) (hR : R.map DV.clr = acc.map (Bd.enc .sub)) (hacc : acc.length + 2 ≤ 2199023255560) (i : Nat) (hi : i < u.length) (hul : u.length ≤ 1099511627776)
    (hcp : callX XV 146 [.d (t.enc .sub)] [] = some (.d (t.enc U), [])) (d : DV) (hap : callX XV 141 [.d (sg l), .d O, .d ((bAt u i).t.enc .sub)] [] = some (.d d, [])) (hd : IsV d (applyT l [⟨v, t⟩] (bAt u i).t)) :
    ∃ R2, codeX XV (XV.lin 142) b142_0 ⟨[(0, .d (sg l)), (1, .d (binds .sub u)), (2, .d (.int .i64 v)), (7, .ptr 0 0), (9, .d (.sl U R)), (10, .d O), (11, .d (.bool (befB u v i))), (12, .d (.int .i64 i))], [some [.d (.int .i64 t.f), .d (.int .i64 t.v), .d (terms .sub t.kids)]]⟩ =
      some (.normal, ⟨[(0, .d (sg l)), (1, .d (binds .sub u)), (2, .d (.int .i64 v)), (7, .ptr 0 0), (9, .d (.sl U R2)), (10, .d O), (11, .d (.bool (befB u v (i + 1)))), (12, .d (.int .i64 (i + 1 : Nat)))], [some [.d (.int .i64 t.f), .d (.int .i64 t.v), .d (terms .sub t.kids)]]⟩) ∧ R2.map DV.clr = (acc ++ outS l u v t i).map (Bd.enc .sub) := by
  have hw := wrap_succ (n := i) (by omega)
  have ht := bAt_lt hi
  have hat := atB_spec u v i hi
  rw [befB_succ]
  unfold outS
  obtain ⟨g, X, rfl, hX⟩ := hd
  generalize applyT l [⟨v, t⟩] (bAt u i).t = a at *
  generalize hb : bAt u i = b at *
  have a1 := app4 R acc hR v t.f t.v U (t.kids.map (T.enc U)) (by omega)
  have hR1 : (R ++ [DV.agg [.int .i64 v, .int .i64 t.f, .int .i64 t.v, .sl U (t.kids.map (T.enc U))]]).map DV.clr = (acc ++ [(⟨v, t⟩ : Bd)]).map (Bd.enc .sub) := by
    rw [List.map_append, List.map_append, hR]; simp only [List.map_cons, List.map_nil, DV.clr, DV.clrs, Bd.enc]; rw [DV.clrs_map, clr_terms]
  have a2 := app4 _ _ hR1 b.v a.f a.v g X (by simp; omega)
  have a3 := app4 R acc hR b.v a.f a.v g X (by omega)
  have hR3 : ∀ (Y : List DV) (c : List Bd), Y.map DV.clr = c.map (Bd.enc .sub) → (Y ++ [DV.agg [.int .i64 b.v, .int .i64 a.f, .int .i64 a.v, .sl g X]]).map DV.clr = (c ++ [(⟨b.v, a⟩ : Bd)]).map (Bd.enc .sub) := fun Y c hY => by
    rw [List.map_append, List.map_append, hY]; simp only [List.map_cons, List.map_nil, DV.clr, DV.clrs, Bd.enc]; rw [DV.clrs_map, hX]
  generalize hR1e : R ++ [DV.agg [.int .i64 v, .int .i64 t.f, .int .i64 t.v, .sl U (t.kids.map (T.enc U))]] = R1 at *
  cases h0 : befB u v i <;> cases h1 : decide (v ≤ b.v) <;> cases h2 : (b.v == v)
  all_goals rw [h0, h1] at hat
  all_goals simp only [Bool.not_false, Bool.not_true, Bool.and_true, Bool.and_false, Bool.true_and, Bool.false_and] at hat
  all_goals rw [hat]
  all_goals simp only [Bool.false_eq_true, if_false, if_true, List.nil_append, List.append_nil, List.append_assoc, Bool.or_true, Bool.or_false]
  · have h2n : (b.v != v) = true := by simp [bne, h2]
    refine ⟨_, ?_, hR3 R acc hR⟩
    generalize R ++ [DV.agg [.int .i64 b.v, .int .i64 a.f, .int .i64 a.v, .sl g X]] = R3 at *
    simp [b142_0, r142_0, r142_1, r142_2, r142_3, r142_4, r142_5, r142_7, r142_8, r142_9, r142_10, d142_11, r142_6, r142_12, r142_13, r142_14, hi, hw, cut, ht, h0, h1, h2n, hap, hcp, hO, hX, a1, a2, a3, splice, AV.clrs_map, clrs3, isCell_int, isCell_sl, isCellA_d, safe_d, loadBox]
  · have h2n : (b.v != v) = false := by simp [bne, h2]
    refine ⟨R, ?_, hR⟩
    simp [b142_0, r142_0, r142_1, r142_2, r142_3, r142_4, r142_5, r142_7, r142_8, r142_9, r142_10, d142_11, r142_6, r142_12, r142_13, r142_14, hi, hw, cut, ht, h0, h1, h2n, hap, hcp, hO, hX, a1, a2, a3, splice, AV.clrs_map, clrs3, isCell_int, isCell_sl, isCellA_d, safe_d, loadBox]
  · have h2n : (b.v != v) = true := by simp [bne, h2]
    have hR4 := hR3 R1 _ hR1
    simp only [List.append_assoc] at hR4
    refine ⟨_, ?_, hR4⟩
    generalize R1 ++ [DV.agg [.int .i64 b.v, .int .i64 a.f, .int .i64 a.v, .sl g X]] = R3 at *
    simp [b142_0, r142_0, r142_1, r142_2, r142_3, r142_4, r142_5, r142_7, r142_8, r142_9, r142_10, d142_11, r142_6, r142_12, r142_13, r142_14, hi, hw, cut, ht, h0, h1, h2n, hap, hcp, hO, hX, a1, a2, a3, splice, AV.clrs_map, clrs3, isCell_int, isCell_sl, isCellA_d, safe_d, loadBox]
  · have h2n : (b.v != v) = false := by simp [bne, h2]
    refine ⟨R1, ?_, hR1⟩
    simp [b142_0, r142_0, r142_1, r142_2, r142_3, r142_4, r142_5, r142_7, r142_8, r142_9, r142_10, d142_11, r142_6, r142_12, r142_13, r142_14, hi, hw, cut, ht, h0, h1, h2n, hap, hcp, hO, hX, a1, a2, a3, splice, AV.clrs_map, clrs3, isCell_int, isCell_sl, isCellA_d, safe_d, loadBox]
  · have h2n : (b.v != v) = true := by simp [bne, h2]
    refine ⟨_, ?_, hR3 R acc hR⟩
    generalize R ++ [DV.agg [.int .i64 b.v, .int .i64 a.f, .int .i64 a.v, .sl g X]] = R3 at *
    simp [b142_0, r142_0, r142_1, r142_2, r142_3, r142_4, r142_5, r142_7, r142_8, r142_9, r142_10, d142_11, r142_6, r142_12, r142_13, r142_14, hi, hw, cut, ht, h0, h1, h2n, hap, hcp, hO, hX, a1, a2, a3, splice, AV.clrs_map, clrs3, isCell_int, isCell_sl, isCellA_d, safe_d, loadBox]
  · have h2n : (b.v != v) = false := by simp [bne, h2]
    refine ⟨R, ?_, hR⟩
    simp [b142_0, r142_0, r142_1, r142_2, r142_3, r142_4, r142_5, r142_7, r142_8, r142_9, r142_10, d142_11, r142_6, r142_12, r142_13, r142_14, hi, hw, cut, ht, h0, h1, h2n, hap, hcp, hO, hX, a1, a2, a3, splice, AV.clrs_map, clrs3, isCell_int, isCell_sl, isCellA_d, safe_d, loadBox]
  · have h2n : (b.v != v) = true := by simp [bne, h2]
    refine ⟨_, ?_, hR3 R acc hR⟩
    generalize R ++ [DV.agg [.int .i64 b.v, .int .i64 a.f, .int .i64 a.v, .sl g X]] = R3 at *
    simp [b142_0, r142_0, r142_1, r142_2, r142_3, r142_4, r142_5, r142_7, r142_8, r142_9, r142_10, d142_11, r142_6, r142_12, r142_13, r142_14, hi, hw, cut, ht, h0, h1, h2n, hap, hcp, hO, hX, a1, a2, a3, splice, AV.clrs_map, clrs3, isCell_int, isCell_sl, isCellA_d, safe_d, loadBox]
  · have h2n : (b.v != v) = false := by simp [bne, h2]
    refine ⟨R, ?_, hR⟩
    simp [b142_0, r142_0, r142_1, r142_2, r142_3, r142_4, r142_5, r142_7, r142_8, r142_9, r142_10, d142_11, r142_6, r142_12, r142_13, r142_14, hi, hw, cut, ht, h0, h1, h2n, hap, hcp, hO, hX, a1, a2, a3, splice, AV.clrs_map, clrs3, isCell_int, isCell_sl, isCellA_d, safe_d, loadBox]
theorem specSubAdd_eq (l : List SymL) (hs : l.length ≤ 1099511627776) (u : List Bd) (v : Int) (t : T) (hu : u.length ≤ 1048577) (hb : ∀ i, i < u.length → (bAt u i).t.inner ≤ 1099511627776) (ht : t.inner ≤ 1099511627776) (hf : ∀ i, i < u.length → (fillT [⟨v, t⟩] (bAt u i).t).inner ≤ 1099511627776) :
    ∃ R, callX XV 142 [.d (sg l), .d (binds .sub u), .d (.int .i64 v), .d (t.enc .sub)] [] = some (.d (.sl U R), []) ∧ R.map DV.clr = (subAddT l u v t).map (Bd.enc .sub) := by
  have hcp := l3Copy_eq t ht
  have hone : ∀ i, i < u.length → ∃ d, callX XV 141 [.d (sg l), .d (binds .sub [(⟨v, t⟩ : Bd)]), .d ((bAt u i).t.enc .sub)] [] = some (.d d, []) ∧ IsV d (applyT l [⟨v, t⟩] (bAt u i).t) := fun i hi =>
    specApply_eq l hs [⟨v, t⟩] (bAt u i).t (by simp) (fun j hj => by simp at hj; subst hj; exact ht) (hb i hi) (hf i hi)
  have hO : (binds .sub [(⟨v, t⟩ : Bd)]).clr = binds .sub [(⟨v, t⟩ : Bd)] := by simp
  have hOe : binds .sub [(⟨v, t⟩ : Bd)] = .sl .sub [.agg [.int .i64 v, .int .i64 t.f, .int .i64 t.v, terms .sub t.kids]] := rfl
  have head : ∀ (x : Int) (R O : DV) (p : Bool), xheadOf 1 [0, 1, 2, 7, 9, 10, 11, 12] ⟨[(0, .d (sg l)), (1, .d (binds .sub u)), (2, .d (.int .i64 v)), (7, .ptr 0 0), (9, .d R), (10, .d O), (11, .d (.bool p)), (12, .d (.int .i64 x))], [some [.d (.int .i64 t.f), .d (.int .i64 t.v), .d (terms .sub t.kids)]]⟩ = some ⟨[(0, .d (sg l)), (1, .d (binds .sub u)), (2, .d (.int .i64 v)), (7, .ptr 0 0), (9, .d R), (10, .d O), (11, .d (.bool p)), (12, .d (.int .i64 x))], [some [.d (.int .i64 t.f), .d (.int .i64 t.v), .d (terms .sub t.kids)]]⟩ := fun x R O p => by
    simp [xheadOf, safeRegs]
  have hloop : ∀ (k i : Nat), i + k = u.length → ∀ R, R.map DV.clr = (accS l u v t i).map (Bd.enc .sub) → ∃ R2, loopX XV (XV.lin 142) 1 [0, 1, 2, 7, 9, 10, 11, 12] b142_0 ⟨[(0, .d (sg l)), (1, .d (binds .sub u)), (2, .d (.int .i64 v)), (7, .ptr 0 0), (9, .d (.sl U R)), (10, .d (binds .sub [(⟨v, t⟩ : Bd)])), (11, .d (.bool (befB u v i))), (12, .d (.int .i64 i))], [some [.d (.int .i64 t.f), .d (.int .i64 t.v), .d (terms .sub t.kids)]]⟩ =
      some (.exit 0, ⟨[(0, .d (sg l)), (1, .d (binds .sub u)), (2, .d (.int .i64 v)), (7, .ptr 0 0), (9, .d (.sl U R2)), (10, .d (binds .sub [(⟨v, t⟩ : Bd)])), (11, .d (.bool (befB u v u.length))), (12, .d (.int .i64 u.length)), (21, .d (.bool false))], [some [.d (.int .i64 t.f), .d (.int .i64 t.v), .d (terms .sub t.kids)]]⟩) ∧ R2.map DV.clr = (accS l u v t u.length).map (Bd.enc .sub) := by
    intro k
    induction k with
    | zero =>
      intro i hi R hR
      have : i = u.length := by omega
      subst this
      refine ⟨R, loopX_out (head _ _ _ _) ?_ (by simp), hR⟩
      generalize befB u v u.length = p
      simp [b142_0, r142_0, r142_1, r142_2, r142_3, r142_4, r142_5, r142_7, r142_8, r142_9, r142_10, d142_11, r142_6, r142_12, r142_13, r142_14]
    | succ k ih =>
      intro i hi R hR
      have hlt : i < u.length := by omega
      have hal := accS_len l u v t i
      obtain ⟨d, hd1, hd2⟩ := hone i hlt
      obtain ⟨R2, e1, e2⟩ := body142 l u v t (binds .sub [(⟨v, t⟩ : Bd)]) hO (accS l u v t i) R hR (by omega) i hlt (by omega) hcp d hd1 hd2
      obtain ⟨R3, e3, e4⟩ := ih (i + 1) (by omega) R2 e2
      exact ⟨R3, by rw [← e3]; exact loopX_go (head _ _ _ _) e1, e4⟩
  obtain ⟨R, h1, hR⟩ := hloop u.length 0 (by omega) [] (by simp [accS])
  have hal := accS_len l u v t u.length
  have hbz := befB_zero u v
  have hba := befB_all u v
  rw [hbz, hba] at h1
  have ha := app4 R _ hR v t.f t.v U (t.kids.map (T.enc U)) (by omega)
  have hR1 : (R ++ [DV.agg [.int .i64 v, .int .i64 t.f, .int .i64 t.v, .sl U (t.kids.map (T.enc U))]]).map DV.clr = (accS l u v t u.length ++ [(⟨v, t⟩ : Bd)]).map (Bd.enc .sub) := by
    rw [List.map_append, List.map_append, hR]; simp only [List.map_cons, List.map_nil, DV.clr, DV.clrs, Bd.enc]; rw [DV.clrs_map, clr_terms]
  rw [z_call XV _ _ _ v142 rfl xcode_142 rfl]
  unfold subAddT
  simp only [lin_142, Int.natCast_zero] at h1
  rw [hOe] at h1
  cases hsome : (sposB u v).isSome with
  | true =>
    rw [hsome] at h1
    simp only [if_true, List.append_nil]
    refine ⟨R, ?_, hR⟩
    simp [v142, r142_0, r142_1, r142_2, r142_3, r142_4, r142_5, r142_7, r142_8, r142_9, r142_10, d142_11, r142_6, r142_12, r142_13, r142_14, clrs3, splice, isCell_int, isCell_sl, isCellA_d, safe_d, loadBox]
    rw [h1]
    simp [v142, r142_0, r142_1, r142_2, r142_3, r142_4, r142_5, r142_7, r142_8, r142_9, r142_10, d142_11, r142_6, r142_12, r142_13, r142_14]
  | false =>
    rw [hsome] at h1
    simp only [Bool.false_eq_true, if_false]
    refine ⟨_, ?_, hR1⟩
    generalize R ++ [DV.agg [.int .i64 v, .int .i64 t.f, .int .i64 t.v, .sl U (t.kids.map (T.enc U))]] = R2 at *
    simp [v142, r142_0, r142_1, r142_2, r142_3, r142_4, r142_5, r142_7, r142_8, r142_9, r142_10, d142_11, r142_6, r142_12, r142_13, r142_14, clrs3, splice, isCell_int, isCell_sl, isCellA_d, safe_d, loadBox]
    rw [h1]
    simp [v142, r142_0, r142_1, r142_2, r142_3, r142_4, r142_5, r142_7, r142_8, r142_9, r142_10, d142_11, r142_6, r142_12, r142_13, r142_14, hcp, ha, clrs3, splice, isCell_int, isCell_sl, isCellA_d, safe_d, loadBox]
/-! ### How large it is -/
def sumB (l : List Bd) : Nat := (l.map fun b => b.t.inner).sum
theorem sumB_append (a b : List Bd) : sumB (a ++ b) = sumB a + sumB b := by simp [sumB]
theorem cntB_sum : ∀ l : List Bd, cntB l = 3 * l.length + 2 * sumB l
  | [] => rfl
  | x :: r => by
    have := cntB_sum r
    simp only [cntB, sumB, List.map_cons, List.sum_cons, List.length_cons] at *
    omega
theorem accS_mem (l : List SymL) (u : List Bd) (v : Int) (t : T) (M : Nat) (h1 : t.inner ≤ M) (h2 : ∀ i, i < u.length → (applyT l [⟨v, t⟩] (bAt u i).t).inner ≤ M) : ∀ i, i ≤ u.length → ∀ b, b ∈ accS l u v t i → b.t.inner ≤ M
  | 0, _, b, h => by simp [accS] at h
  | i + 1, hi, b, h => by
    simp only [accS, List.mem_append] at h
    rcases h with h | h
    · exact accS_mem l u v t M h1 h2 i (by omega) b h
    · unfold outS at h
      have := h2 i (by omega)
      rcases List.mem_append.1 h with h | h
      · split at h
        · simp at h; subst h; exact h1
        · simp at h
      · split at h
        · simp at h
        · simp at h; subst h; exact this
theorem sumB_outS (l : List SymL) (u : List Bd) (v : Int) (t : T) (i : Nat) : sumB (outS l u v t i) ≤ t.inner + (applyT l [⟨v, t⟩] (bAt u i).t).inner := by
  unfold outS
  split <;> split <;> simp [sumB]
theorem sumB_accS (l : List SymL) (u : List Bd) (v : Int) (t : T) : ∀ i, i ≤ u.length → sumB (accS l u v t i) ≤ (2 * i + sumB (u.take i)) * (t.inner + 1)
  | 0, _ => by simp [accS, sumB]
  | i + 1, hi => by
    have h1 := sumB_accS l u v t i (by omega)
    have h2 := sumB_outS l u v t i
    have h3 := applyT_inner l [⟨v, t⟩] (bAt u i).t
    have h4 := fillT_inner [(⟨v, t⟩ : Bd)] t.inner (fun j hj => by simp at hj; subst hj; exact Nat.le_refl _) (bAt u i).t
    rw [bTake u i (by omega), sumB_append]
    simp only [accS, sumB_append]
    have h5 : sumB [bAt u i] = (bAt u i).t.inner := by simp [sumB]
    rw [h5, show 2 * (i + 1) + (sumB (u.take i) + (bAt u i).t.inner) = (2 * i + sumB (u.take i)) + ((bAt u i).t.inner + 1 + 1) by omega, Nat.add_mul _ ((bAt u i).t.inner + 1 + 1), Nat.add_mul ((bAt u i).t.inner + 1)]
    omega
theorem subAddT_size (l : List SymL) (u : List Bd) (v : Int) (t : T) (h : bindsSize u + t.inner ≤ 1048576) :
    (subAddT l u v t).length ≤ 1099511627776 ∧ (∀ i, i < (subAddT l u v t).length → (bAt (subAddT l u v t) i).t.inner ≤ 1099511627776) ∧ cntB (subAddT l u v t) ≤ 10000000000000 := by
  have hbs : bindsSize u = u.length + sumW (fun i => (bAt u i).t.inner) 0 u.length := rfl
  have hcs := cntB_size u
  have hcu := cntB_sum u
  have hal := accS_len l u v t u.length
  have hle : ∀ i, i < u.length → (applyT l [⟨v, t⟩] (bAt u i).t).inner ≤ 1099511627776 := fun i hi => by
    have h1 := applyT_inner l [⟨v, t⟩] (bAt u i).t
    have h2 := fillT_le [(⟨v, t⟩ : Bd)] (bAt u i).t t.inner (fun j hj => by simp at hj; subst hj; exact Nat.le_refl _) (by have := bind_le u i hi; omega)
    omega
  have hmem := accS_mem l u v t 1099511627776 (by omega) hle u.length (Nat.le_refl _)
  have hsum := sumB_accS l u v t u.length (Nat.le_refl _)
  rw [List.take_length] at hsum
  have hfb := fill_bound (bindsSize u) t.inner h
  have hfb2 : (2 * u.length + sumB u) * (t.inner + 1) ≤ 2 * 1099511627776 := by
    have h1 : (2 * u.length + sumB u) * (t.inner + 1) ≤ (2 * (bindsSize u + 1)) * (t.inner + 1) := Nat.mul_le_mul_right _ (by omega)
    have h2 : (2 * (bindsSize u + 1)) * (t.inner + 1) = 2 * ((bindsSize u + 1) * (t.inner + 1)) := Nat.mul_assoc _ _ _
    omega
  refine ⟨?_, fun i hi => ?_, ?_⟩
  · unfold subAddT
    split <;> simp <;> omega
  · have hm := bAt_mem hi
    generalize bAt (subAddT l u v t) i = b at hm ⊢
    unfold subAddT at hm
    rcases List.mem_append.1 hm with hm | hm
    · exact hmem b hm
    · split at hm
      · simp at hm
      · simp at hm; subst hm; simp only; omega
  · rw [cntB_sum]
    unfold subAddT
    rw [sumB_append, List.length_append]
    have e0 : sumB [] = 0 := rfl
    have e1 : sumB [(⟨v, t⟩ : Bd)] = t.inner := by simp [sumB]
    split
    · rw [e0, List.length_nil]; omega
    · rw [e1, List.length_cons, List.length_nil]; omega
end Go.Proofs.Ytnjgnjejkmcgmaa.VS
namespace Go.Proofs.Ytnjgnjejkmcgmaa.VS
set_option linter.unusedVariables false
set_option linter.unusedSimpArgs false
theorem FnExactSubAdd_x (l : List SymL) (hl : l.length ≤ maxLen) (hol : ∀ s, s ∈ l → s.ok) (u : List Bd) (hu : u.length ≤ maxLen) (hou : ∀ s, s ∈ u → s.ok) (v : Int) (hv : -9223372036854775808 ≤ v ∧ v ≤ 9223372036854775807) (t : T) (ht : t.ok) : ∃ B, callX XV 358 [.d (sg l), .d (binds .sub u), .d (.int .i64 v), .d (t.enc .sub)] [] = some (.d (.bool true), B) := by
  rw [z_call XV _ _ _ v358 rfl xcode_358 rfl]
  have z1 := szSymS_eq l (1048576) hl hol (by omega) (by omega)
  by_cases h1_ : (1048576 : Int) - symsSize l < 0
  · rw [leftOf_neg h1_] at z1
    simp [v358, r358_0, r358_1, r358_2, r358_3, r358_4, r358_5, r358_6, r358_7, r358_8, r358_9, r358_10, d358_11, r358_12, r358_13, r358_14, r358_15, r358_16, r358_17, r358_18, r358_19, r358_20, r358_21, d358_22, r358_23, r358_24, r358_25, r358_26, r358_27, r358_28, r358_29, r358_30, r358_31, r358_32, r358_33, r358_34, r358_35, r358_36, r358_37, d358_38, r358_39, r358_40, r358_41, r358_42, r358_43, r358_44, r358_45, r358_46, r358_47, z1]
  rw [leftOf_pos h1_] at z1
  have z2 := szBindS_eq u (1048576 - symsSize l) hu hou (by omega) (by omega)
  by_cases h2_ : (1048576 : Int) - symsSize l - bindsSize u < 0
  · rw [leftOf_neg h2_] at z2
    simp [v358, r358_0, r358_1, r358_2, r358_3, r358_4, r358_5, r358_6, r358_7, r358_8, r358_9, r358_10, d358_11, r358_12, r358_13, r358_14, r358_15, r358_16, r358_17, r358_18, r358_19, r358_20, r358_21, d358_22, r358_23, r358_24, r358_25, r358_26, r358_27, r358_28, r358_29, r358_30, r358_31, r358_32, r358_33, r358_34, r358_35, r358_36, r358_37, d358_38, r358_39, r358_40, r358_41, r358_42, r358_43, r358_44, r358_45, r358_46, r358_47, z1, z2, h1_]
  rw [leftOf_pos h2_] at z2
  have z3 := szTerm_eq t (1048576 - symsSize l - bindsSize u) ht (by omega) (by omega)
  by_cases h3_ : (1048576 : Int) - symsSize l - bindsSize u - t.inner < 0
  · rw [leftOf_neg h3_] at z3
    simp [v358, r358_0, r358_1, r358_2, r358_3, r358_4, r358_5, r358_6, r358_7, r358_8, r358_9, r358_10, d358_11, r358_12, r358_13, r358_14, r358_15, r358_16, r358_17, r358_18, r358_19, r358_20, r358_21, d358_22, r358_23, r358_24, r358_25, r358_26, r358_27, r358_28, r358_29, r358_30, r358_31, r358_32, r358_33, r358_34, r358_35, r358_36, r358_37, d358_38, r358_39, r358_40, r358_41, r358_42, r358_43, r358_44, r358_45, r358_46, r358_47, z1, z2, z3, h1_, h2_]
  rw [leftOf_pos h3_] at z3
  have hl0 : l.length ≤ 1048576 := by unfold symsSize at *; omega
  have hls : l.length ≤ 1099511627776 := by omega
  have hlu : u.length ≤ 1099511627776 := by unfold bindsSize at *; omega
  have hbu : ∀ i, i < u.length → (bAt u i).t.inner ≤ 1099511627776 := fun i hi => by have := bind_le u i hi; omega
  have hcbu := cntB_size u
  have hbsu : bindsSize u = u.length + sumW (fun i => (bAt u i).t.inner) 0 u.length := rfl
  have hti : t.inner ≤ 1099511627776 := by omega
  have hfu : ∀ i, i < u.length → (fillT [⟨v, t⟩] (bAt u i).t).inner ≤ 1099511627776 := fun i hi => fillT_le _ _ t.inner (fun j hj => by simp at hj; subst hj; exact Nat.le_refl _) (by have := bind_le u i hi; omega)
  have s2 := implSubAdd_eq l hls u v t (by omega) hbu hti hfu
  obtain ⟨hal, hab, hac⟩ := subAddT_size l u v t (by omega)
  obtain ⟨W, s1, hW⟩ := specSubAdd_eq l hls u v t (by omega) hbu hti hfu
  generalize subAddT l u v t = a at *
  have ub := allU_bool true
  have e_l := eqSymS_self l hls
  have t_l := toSymS_eq l hls
  have u_l := allUT_syms l
  have e_u := eqBindS_self u hlu hbu
  have t_u := toBindS_eq u hlu hbu
  have u_u := allUT_binds u
  have e_t := eqTerm_self t hti
  have t_t := toTerm_eq t hti
  have u_t := allUT_enc t
  have e_a := eqBindS_self a hal hab
  have u_a := allUT_binds a
  obtain ⟨y1, R1, R1', H1⟩ := thS_of l hls (1) (1) (by omega) (by omega)
  obtain ⟨y2, R2, R2', H2⟩ := thB_of u hlu hbu (R1.length + 1) (1 + 3 * l.length) (by omega)
  obtain ⟨w3, y3, R3, R3', H3⟩ := thT_of t hti (R1.length + R2.length + 1) (1 + 3 * l.length + cntB u) (by omega)
  obtain ⟨y4, R4, R4', H4, HH⟩ := thBh_of a hal hab (R1.length + (R2.length + (R3.length + 1)) + 1) (1) (by omega)
  have k1 : ¬ (((1 + 3 * l.length : Nat) : Int) < 0) := by omega
  have k2 : ¬ (((1 + 3 * l.length + cntB u : Nat) : Int) < 0) := by omega
  have k3 : ¬ (((1 + 3 * l.length + cntB u + 2 * t.inner : Nat) : Int) < 0) := by omega
  have k4 : ¬ (((1 + cntB a : Nat) : Int) < 0) := by omega
  generalize 1 + 3 * l.length + cntB u + 2 * t.inner = K3 at *
  generalize 1 + 3 * l.length + cntB u = K2 at *
  generalize 1 + 3 * l.length = K1 at *
  generalize 1 + cntB a = K4 at *
  generalize hgCt : (some [.d (.int .i64 t.f), .d (.int .i64 t.v), .d (terms .sub t.kids)] : Option (List AV)) = Ct
  generalize hgCX3 : (some [.d (.int .i64 t.f), .d (.int .i64 t.v), w3] : Option (List AV)) = CX3
  have n1 := H1.len
  have n2 := H2.len
  have n3 := H3.len
  have n4 := H4.len
  have f1 := fun Q : Boxs => H1.frz (Ct :: []) Q (by simp)
  have fe1 := H1.frz (Ct :: []) [] (by simp)
  have m1 := fun Q : Boxs => H1.mark (Ct :: []) Q (by simp [n1, n2, n3, n4])
  have f2 := fun Q : Boxs => H2.frz (Ct :: R1) Q (by simp)
  have fe2 := H2.frz (Ct :: R1) [] (by simp)
  have m2 := fun Q : Boxs => H2.mark (Ct :: R1') Q (by simp [n1, n2, n3, n4])
  have f3 := fun Q : Boxs => H3.frz (Ct :: (R1 ++ R2)) Q (by simp)
  have m3 := fun Q : Boxs => H3.mark (Ct :: (R1' ++ R2')) Q (by simp [n1, n2, n3, n4])
  have f4 := fun Q : Boxs => H4.frz (Ct :: (R1 ++ (R2 ++ (R3 ++ [CX3])))) Q (by simp)
  have fe4 := H4.frz (Ct :: (R1 ++ (R2 ++ (R3 ++ [CX3])))) [] (by simp)
  have fp4 := fun Q : Boxs => H4.frz (Ct :: (R1' ++ (R2' ++ (R3' ++ [CX3])))) Q (by simp [n1, n2, n3, n4])
  have m4 := fun Q : Boxs => H4.mark (Ct :: (R1' ++ (R2' ++ (R3' ++ [CX3])))) Q (by simp [n1, n2, n3, n4])
  have fpe4 := H4.frz (Ct :: (R1' ++ (R2' ++ (R3' ++ [CX3])))) [] (by simp [n1, n2, n3, n4])
  have me4 := H4.mark (Ct :: (R1' ++ (R2' ++ (R3' ++ [CX3])))) [] (by simp [n1, n2, n3, n4])
  have le4 := HH (Ct :: (R1' ++ (R2' ++ (R3' ++ [CX3])))) [] (by simp [n1, n2, n3, n4])
  have l4 := fun Q : Boxs => HH (Ct :: (R1' ++ (R2' ++ (R3' ++ [CX3])))) Q (by simp [n1, n2, n3, n4])
  subst hgCt
  subst hgCX3
  simp only [List.cons_append, List.nil_append, List.append_assoc, List.append_nil, Int.natCast_one] at f1 fe1 m1 f2 fe2 m2 f3 m3 f4 fe4 fp4 m4 fpe4 me4 le4 l4
  have x1 := H1.th; have c1 := H1.cl; have i1 := H1.ic
  have x2 := H2.th; have c2 := H2.cl; have i2 := H2.ic
  have x3 := H3.th; have c3 := H3.cl; have i3 := H3.ic
  have d3 := H3.cly; have g3 := H3.ag
  have x4 := H4.th; have c4 := H4.cl; have i4 := H4.ic
  have v3_ := H3.sf (R1.length + (R2.length + R3.length) + 1) (by omega)
  simp only [sg, terms, binds] at *
  simp [v358, r358_0, r358_1, r358_2, r358_3, r358_4, r358_5, r358_6, r358_7, r358_8, r358_9, r358_10, d358_11, r358_12, r358_13, r358_14, r358_15, r358_16, r358_17, r358_18, r358_19, r358_20, r358_21, d358_22, r358_23, r358_24, r358_25, r358_26, r358_27, r358_28, r358_29, r358_30, r358_31, r358_32, r358_33, r358_34, r358_35, r358_36, r358_37, d358_38, r358_39, r358_40, r358_41, r358_42, r358_43, r358_44, r358_45, r358_46, r358_47, z1, z2, z3, h1_, h2_, h3_, s1, s2, hW, ub, e_l, t_l, u_l, e_u, t_u, u_u, e_t, t_t, u_t, e_a, u_a, k1, k2, k3, k4, n1, n2, n3, n4, f1, fe1, m1, f2, fe2, m2, f3, m3, f4, fe4, fp4, m4, fpe4, me4, le4, l4, x1, c1, i1, x2, c2, i2, x3, c3, i3, d3, g3, x4, c4, i4, v3_, T.eta, bx_get, bx_get0, bx_set, bx_set0, splice, isCellA_d, isCell_int, isCell_sl, safes_cons, safes_nil, safe_ag, safe_d, cellsA_ag, clrs3, nle1]
end Go.Proofs.Ytnjgnjejkmcgmaa.VS
