/- Contracts of the program's functions on the evaluator without names, and plain lemmas: XLook. -/
import Derived.Test.YtanfjghdjkiggaaXFrzT
import Derived.Test.YtanfjghdjkiggaaXBind
import Derived.Test.YtanfjghdjkiggaaXNumLaw
namespace Go.Proofs.Ytanfjghdjkiggaa.VS
set_option linter.unusedVariables false
set_option linter.unusedSimpArgs false
/-! ## Copies of terms; what is put for a variable -/
theorem app_terms (a c : List T) (g : Tag) (h : (a.length + c.length) * 40 ≤ 140737488355328) : xappend 3 40 (.sl U (a.map (T.enc U))) (.sl g (c.map (T.enc U))) = some (.sl U ((a ++ c).map (T.enc U))) := by
  have h1 : (c.map (T.enc U)).all (fun e => decide (e.cells.length = 3 ∧ e.cells.all DV.isCell = true)) = true := by
    simp [isCell_int, isCell_sl]
  have h2 : (a.map (T.enc U)).all (fun e => decide (e.cells.length = 3)) = true := by simp
  unfold xappend
  simp only
  rw [if_pos h1]
  cases c with
  | nil => simp
  | cons x r =>
    simp only [List.map_cons, List.isEmpty_cons, Bool.false_eq_true, if_false]
    rw [if_pos ⟨by simpa using h, trivial, h2⟩]
    simp
theorem app_term (l : List T) (i : Nat) (h : i < l.length) (hl : l.length ≤ 1048576) : xappend 3 40 (.sl U ((l.take i).map (T.enc U))) (.sl U [(tAt l i).enc U]) = some (.sl U ((l.take (i + 1)).map (T.enc U))) := by
  have := app_terms (l.take i) [tAt l i] U (by simp; omega)
  rw [take_snoc l i h]
  exact this
theorem l3Copy_of (f v : Int) (ks : List T) (hl : ks.length ≤ 1048576) (hc : ∀ t, t ∈ ks → callX XV 146 [.d (t.enc .sub)] [] = some (.d (t.enc U), [])) :
    callX XV 146 [.d ((T.node f v ks).enc .sub)] [] = some (.d ((T.node f v ks).enc U), []) := by
  rw [z_call XV _ _ _ v146 rfl xcode_146 rfl]
  have hloop := loopX_upto (X := XV) (T := XV.lin 146) (L := 3) (live := [1, 2, 3, 4]) (b := b146_0) (n := ks.length) (γ := Unit) (st := fun (_ : Unit) i => ⟨[(1, .ptr 0 0), (2, .ptr 1 0), (3, .ptr 2 0), (4, .d (.int .i64 i))], [some [.d (.int .i64 f), .d (.int .i64 v), .d (terms .sub ks)], some [.d (.int .i64 0), .d (.int .i64 0), .d (.sl U [])], some [.d (.int .i64 f), .d (.int .i64 v), .d (.sl U ((ks.take i).map (T.enc U)))]]⟩) (step := fun _ _ => .inl ())
    (F := fun _ => (.exit 0, ⟨[(1, .ptr 0 0), (2, .ptr 1 0), (3, .ptr 2 0), (4, .d (.int .i64 ks.length)), (14, .d (.bool false))], [some [.d (.int .i64 f), .d (.int .i64 v), .d (terms .sub ks)], some [.d (.int .i64 0), .d (.int .i64 0), .d (.sl U [])], some [.d (.int .i64 f), .d (.int .i64 v), .d (.sl U ((ks.take ks.length).map (T.enc U)))]]⟩)) (R := fun _ => (.ret, ⟨[], []⟩))
    (fun _ => ⟨by simp, by simp [b146_0, r146_0, r146_1, r146_2, r146_3, d146_5, r146_4, r146_6]⟩)
    (fun _ i hi => by
      have hw := wrap_succ (n := i) (by omega)
      have hc' := hc _ (tAt_mem hi)
      have ha := app_term ks i hi hl
      generalize hl2 : (ks.take (i + 1)).map (T.enc U) = l2 at ha
      generalize (ks.take i).map (T.enc U) = l1 at ha ⊢
      exact ⟨⟨[(1, .ptr 0 0), (2, .ptr 1 0), (3, .ptr 2 0), (4, .d (.int .i64 (i + 1 : Nat)))], [some [.d (.int .i64 f), .d (.int .i64 v), .d (terms .sub ks)], some [.d (.int .i64 0), .d (.int .i64 0), .d (.sl U [])], some [.d (.int .i64 f), .d (.int .i64 v), .d (.sl U l2)]]⟩, by simp [b146_0, r146_0, r146_1, r146_2, r146_3, d146_5, r146_4, r146_6, hi, hw, cut, tAt_lt hi, hc', ha, splice, AV.clrs_map, isCell_int, isCell_sl, isCellA_d, safe_d], by simp [xheadOf, safeRegs, ← hl2]⟩)
    ks.length () 0 ⟨[(1, .ptr 0 0), (2, .ptr 1 0), (3, .ptr 2 0), (4, .d (.int .i64 0))], [some [.d (.int .i64 f), .d (.int .i64 v), .d (terms .sub ks)], some [.d (.int .i64 0), .d (.int .i64 0), .d (.sl U [])], some [.d (.int .i64 f), .d (.int .i64 v), .d (.sl U [])]]⟩ (by omega) (by simp [xheadOf, safeRegs])
  rw [run_on, List.take_length] at hloop
  simp only [lin_146, terms] at hloop
  simp [v146, r146_0, r146_1, r146_2, r146_3, d146_5, r146_4, r146_6, splice, isCell_int, isCell_sl, isCellA_d, safe_d, loadBox]
  rw [hloop]
  simp [v146, r146_0, r146_1, r146_2, r146_3, d146_5, r146_4, r146_6, splice, isCell_int, isCell_sl, isCellA_d, safe_d, loadBox]
theorem l3Copy_eq (t : T) (ht : t.inner ≤ 1048576) : callX XV 146 [.d (t.enc .sub)] [] = some (.d (t.enc U), []) := by
  match t, ht with
  | .node f v ks, ht =>
    simp only [T.inner] at ht
    exact l3Copy_of f v ks (by omega) fun s hs => l3Copy_eq s (by have := T.inners_mem hs; omega)
termination_by t
decreasing_by
  simp_wf
  have := List.sizeOf_lt_of_mem hs
  omega
theorem copyTerms_of (ks : List T) (hl : ks.length ≤ 1048576) (hc : ∀ t, t ∈ ks → callX XV 150 [.d (t.enc .sub)] [] = some (.d (t.enc U), [])) :
    callX XV 151 [.d (terms .sub ks)] [] = some (.d (terms U ks), []) := by
  rw [z_call XV _ _ _ v151 rfl xcode_151 rfl]
  have hloop := loopX_upto (X := XV) (T := XV.lin 151) (L := 0) (live := [3, 7, 8, 9]) (b := b151_0) (n := ks.length) (γ := Unit) (st := fun (_ : Unit) i => ⟨[(3, .d (.sl U ((ks.take i).map (T.enc U)))), (7, .d (terms .sub ks)), (8, .d (.int .i64 ks.length)), (9, .d (.int .i64 i))], []⟩) (step := fun _ _ => .inl ())
    (F := fun _ => (.exit 0, ⟨[(3, .d (.sl U ((ks.take ks.length).map (T.enc U)))), (7, .d (terms .sub ks)), (8, .d (.int .i64 ks.length)), (9, .d (.int .i64 ks.length)), (10, .d (.bool false))], []⟩)) (R := fun _ => (.ret, ⟨[], []⟩))
    (fun _ => ⟨by simp, by simp [b151_0, r151_0, r151_1, r151_2, r151_3, r151_4, r151_5, r151_6, r151_7]⟩)
    (fun _ i hi => by
      have hw := wrap_succ (n := i) (by omega)
      have hc' := hc _ (tAt_mem hi)
      have ha := app_term ks i hi hl
      generalize hl2 : (ks.take (i + 1)).map (T.enc U) = l2 at ha
      generalize (ks.take i).map (T.enc U) = l1 at ha ⊢
      exact ⟨⟨[(3, .d (.sl U l2)), (7, .d (terms .sub ks)), (8, .d (.int .i64 ks.length)), (9, .d (.int .i64 (i + 1 : Nat)))], [some [.d (.int .i64 (tAt ks i).f), .d (.int .i64 (tAt ks i).v), .d (terms .sub (tAt ks i).kids)]]⟩, by simp [b151_0, r151_0, r151_1, r151_2, r151_3, r151_4, r151_5, r151_6, r151_7, hi, hw, cut, tAt_lt hi, hc', ha, splice, isCell_int, isCell_sl, isCellA_d, safe_d, loadBox], head_cut (e := [some [.d (.int .i64 (tAt ks i).f), .d (.int .i64 (tAt ks i).v), .d (terms .sub (tAt ks i).kids)]]) (by simp [← hl2]) (by simp [safeRegs]) (by simp) (by simp)⟩)
    ks.length () 0 ⟨[(3, .d (.sl U [])), (7, .d (terms .sub ks)), (8, .d (.int .i64 ks.length)), (9, .d (.int .i64 0))], []⟩ (by omega) (by simp [xheadOf, safeRegs])
  rw [run_on, List.take_length] at hloop
  simp only [lin_151] at hloop
  simp [v151, r151_0, r151_1, r151_2, r151_7]
  rw [hloop]
  simp [r151_7]
theorem copyTerm_of (f v : Int) (ks : List T) (h : callX XV 151 [.d (terms .sub ks)] [] = some (.d (terms U ks), [])) : callX XV 150 [.d ((T.node f v ks).enc .sub)] [] = some (.d ((T.node f v ks).enc U), []) := by
  rw [z_call XV _ _ _ v150 rfl xcode_150 rfl]
  simp only [terms] at h
  simp [v150, r150_0, r150_1, r150_2, h, splice, isCell_int, isCell_sl, isCellA_d, safe_d, loadBox]
theorem copyTerm_eq (t : T) (ht : t.inner ≤ 1048576) : callX XV 150 [.d (t.enc .sub)] [] = some (.d (t.enc U), []) := by
  match t, ht with
  | .node f v ks, ht =>
    simp only [T.inner] at ht
    exact copyTerm_of f v ks (copyTerms_of ks (by omega) fun s hs => copyTerm_eq s (by have := T.inners_mem hs; omega))
termination_by t
decreasing_by
  simp_wf
  have := List.sizeOf_lt_of_mem hs
  omega
theorem copyTerms_eq (ks : List T) (hl : cnts ks ≤ 1048576) : callX XV 151 [.d (terms .sub ks)] [] = some (.d (terms U ks), []) :=
  copyTerms_of ks (by unfold cnts at hl; omega) fun s hs => copyTerm_eq s (by have := T.inners_mem hs; unfold cnts at hl; omega)
theorem l3Var_eq (n : Int) : callX XV 147 [.d (.int .i64 n)] [] = some (.d ((T.node (-1) n []).enc U), []) := by
  rw [z_call XV _ _ _ v147 rfl xcode_147 rfl]
  simp [v147, r147_0, r147_1, splice, isCell_int, isCell_sl, isCellA_d, safe_d, loadBox]
  rw [T.enc_eq]; rfl
theorem variable_eq (n : Int) : callX XV 149 [.d (.int .i64 n)] [] = some (.d ((T.node (-1) n []).enc U), []) := by
  rw [z_call XV _ _ _ v149 rfl xcode_149 rfl]
  simp [v149, r149_0, r149_1, splice, isCell_int, isCell_sl, isCellA_d, safe_d, loadBox]
  rw [T.enc_eq]; rfl
/-- Where a variable is put. -/
def foundB (l : List Bd) (n : Int) : Option Nat := findAt (fun i => (bAt l i).v == n) l.length 0
def lookT (l : List Bd) (n : Int) : T := match foundB l n with
  | some i => (bAt l i).t
  | none => .node (-1) n []
theorem specLook_eq (l : List Bd) (n : Int) (hl : l.length ≤ 1048576) (hb : ∀ i, i < l.length → (bAt l i).t.inner ≤ 1048576) : callX XV 145 [.d (binds .sub l), .d (.int .i64 n)] [] = some (.d ((lookT l n).enc U), []) := by
  rw [z_call XV _ _ _ v145 rfl xcode_145 rfl]
  have h := loopX_upto (X := XV) (T := XV.lin 145) (L := 1) (live := [0, 1, 4, 5]) (b := b145_0) (n := l.length) (st := fun (_ : Unit) i => ⟨[(0, .d (binds .sub l)), (1, .d (.int .i64 n)), (4, .ptr 0 0), (5, .d (.int .i64 i))], [some [.d (.int .i64 0), .d (.int .i64 0), .d (.sl U [])]]⟩) (step := stepF fun i => (bAt l i).v == n)
    (F := fun _ => (.exit 0, ⟨[(0, .d (binds .sub l)), (1, .d (.int .i64 n)), (4, .ptr 0 0), (5, .d (.int .i64 l.length)), (9, .d (.bool false))], [some [.d (.int .i64 0), .d (.int .i64 0), .d (.sl U [])]]⟩)) (R := fun (j : Nat) => (.ret, ⟨[(4, .ptr 0 0)], [some [.d (.int .i64 (bAt l j).t.f), .d (.int .i64 (bAt l j).t.v), .d (terms U (bAt l j).t.kids)]]⟩))
    (fun a => ⟨by simp, by simp [b145_0, r145_0, r145_1, r145_2, r145_4, r145_5, r145_3, r145_6]⟩)
    (fun a i hi => by
      have hw := wrap_succ (n := i) (by omega)
      have hc := l3Copy_eq (bAt l i).t (hb i hi)
      unfold stepF
      by_cases hq : ((bAt l i).v == n) = true
      · rw [if_pos hq]
        exact ⟨by simp, by simp [b145_0, r145_0, r145_1, r145_2, r145_4, r145_5, r145_3, r145_6, hi, hw, cut, bAt_lt hi, hq, hc, splice, isCell_int, isCell_sl, isCellA_d, safe_d, loadBox]⟩
      · rw [if_neg hq]
        have hq' : ((bAt l i).v == n) = false := by simpa using hq
        exact ⟨_, by simp [b145_0, r145_0, r145_1, r145_2, r145_4, r145_5, r145_3, r145_6, hi, hw, cut, bAt_lt hi, hq', isCell_int, isCell_sl, isCellA_d, safe_d]; rfl, by simp [xheadOf, safeRegs]⟩)
    l.length () 0 ⟨[(0, .d (binds .sub l)), (1, .d (.int .i64 n)), (4, .ptr 0 0), (5, .d (.int .i64 0))], [some [.d (.int .i64 0), .d (.int .i64 0), .d (.sl U [])]]⟩ (by omega) (by simp [xheadOf, safeRegs])
  rw [runF] at h
  simp only [lin_145, binds] at h
  unfold lookT foundB
  simp [v145, r145_0, r145_1, r145_6]
  rw [h]
  have hv := l3Var_eq n
  cases hq : findAt (fun i => (bAt l i).v == n) l.length 0 with
  | none =>
    simp [r145_6, hv, splice, isCell_int, isCell_sl, isCellA_d, safe_d, loadBox]
  | some j =>
    simp [r145_6, splice, isCell_int, isCell_sl, isCellA_d, safe_d, loadBox]
theorem bound_eq (l : List Bd) (n : Int) (hl : l.length ≤ 1048576) : callX XV 148 [.d (binds .sub l), .d (.int .i64 n)] [] = some (.d (match foundB l n with | some j => .tup [(bAt l j).t.enc .sub, .bool true] | none => .tup [(T.node 0 0 []).enc .sub, .bool false]), []) := by
  rw [z_call XV _ _ _ v148 rfl xcode_148 rfl]
  have h := loopX_upto (X := XV) (T := XV.lin 148) (L := 1) (live := [1, 4, 8, 9, 10]) (b := b148_0) (n := l.length) (st := fun (_ : Unit) i => ⟨[(1, .d (.int .i64 n)), (4, .ptr 0 0), (8, .d (binds .sub l)), (9, .d (.int .i64 l.length)), (10, .d (.int .i64 i))], [some [.d (.int .i64 0), .d (.int .i64 0), .d (.sl U [])]]⟩) (step := stepF fun i => (bAt l i).v == n)
    (F := fun _ => (.exit 0, ⟨[(1, .d (.int .i64 n)), (4, .ptr 0 0), (8, .d (binds .sub l)), (9, .d (.int .i64 l.length)), (10, .d (.int .i64 l.length)), (11, .d (.bool false))], [some [.d (.int .i64 0), .d (.int .i64 0), .d (.sl U [])]]⟩)) (R := fun (j : Nat) => (.ret, ⟨[(4, .ptr 0 0), (5, .d (.bool true))], [some [.d (.int .i64 (bAt l j).t.f), .d (.int .i64 (bAt l j).t.v), .d (terms .sub (bAt l j).t.kids)], some [.d (.int .i64 (bAt l j).v), .d (.int .i64 (bAt l j).t.f), .d (.int .i64 (bAt l j).t.v), .d (terms .sub (bAt l j).t.kids)]]⟩))
    (fun a => ⟨by simp, by simp [b148_0, r148_0, r148_1, r148_2, r148_3, r148_4, r148_5, r148_6, r148_7]⟩)
    (fun a i hi => by
      have hw := wrap_succ (n := i) (by omega)
      unfold stepF
      by_cases hq : ((bAt l i).v == n) = true
      · rw [if_pos hq]
        exact ⟨by simp, by simp [b148_0, r148_0, r148_1, r148_2, r148_3, r148_4, r148_5, r148_6, r148_7, hi, hw, cut, bAt_lt hi, hq, splice, AV.clrs_map, isCell_int, isCell_sl, isCellA_d, safe_d, loadBox]⟩
      · rw [if_neg hq]
        have hq' : ((bAt l i).v == n) = false := by simpa using hq
        exact ⟨⟨[(1, .d (.int .i64 n)), (4, .ptr 0 0), (8, .d (binds .sub l)), (9, .d (.int .i64 l.length)), (10, .d (.int .i64 (i + 1 : Nat)))], [some [.d (.int .i64 0), .d (.int .i64 0), .d (.sl U [])], some [.d (.int .i64 (bAt l i).v), .d (.int .i64 (bAt l i).t.f), .d (.int .i64 (bAt l i).t.v), .d (terms .sub (bAt l i).t.kids)]]⟩, by simp [b148_0, r148_0, r148_1, r148_2, r148_3, r148_4, r148_5, r148_6, r148_7, hi, hw, cut, bAt_lt hi, hq', splice, AV.clrs_map, isCell_int, isCell_sl, isCellA_d, safe_d, loadBox], head_cut (e := [some [.d (.int .i64 (bAt l i).v), .d (.int .i64 (bAt l i).t.f), .d (.int .i64 (bAt l i).t.v), .d (terms .sub (bAt l i).t.kids)]]) (by simp) (by simp [safeRegs]) (by simp) (by simp)⟩)
    l.length () 0 ⟨[(1, .d (.int .i64 n)), (4, .ptr 0 0), (8, .d (binds .sub l)), (9, .d (.int .i64 l.length)), (10, .d (.int .i64 0))], [some [.d (.int .i64 0), .d (.int .i64 0), .d (.sl U [])]]⟩ (by omega) (by simp [xheadOf, safeRegs])
  rw [runF] at h
  simp only [lin_148, binds] at h
  unfold foundB
  simp [v148, r148_0, r148_1, r148_7]
  rw [h]
  cases hq : findAt (fun i => (bAt l i).v == n) l.length 0 with
  | none =>
    simp [r148_7, splice, isCell_int, isCell_sl, isCellA_d, safe_d, loadBox]
    rw [T.enc_eq]; rfl
  | some j =>
    simp [r148_7, splice, isCell_int, isCell_sl, isCellA_d, safe_d, loadBox]
theorem implLook_eq (l : List Bd) (n : Int) (hl : l.length ≤ 1048576) (hb : ∀ i, i < l.length → (bAt l i).t.inner ≤ 1048576) : callX XV 144 [.d (binds .sub l), .d (.int .i64 n)] [] = some (.d ((lookT l n).enc U), []) := by
  rw [z_call XV _ _ _ v144 rfl xcode_144 rfl]
  have h := bound_eq l n hl
  have hv := variable_eq n
  unfold lookT
  cases hq : foundB l n with
  | none =>
    rw [hq] at h
    simp [v144, r144_0, r144_1, r144_2, r144_3, r144_4, h, hv, splice, isCell_int, isCell_sl, isCellA_d, safe_d, loadBox]
  | some j =>
    rw [hq] at h
    have hj : j < l.length := by have := (findAt_lt _ _ _ _ hq).2.1; omega
    have hc := copyTerm_eq (bAt l j).t (hb j hj)
    simp [v144, r144_0, r144_1, r144_2, r144_3, r144_4, h, hc, splice, isCell_int, isCell_sl, isCellA_d, safe_d, loadBox]
end Go.Proofs.Ytanfjghdjkiggaa.VS
