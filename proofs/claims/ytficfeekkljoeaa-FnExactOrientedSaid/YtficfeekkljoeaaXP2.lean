/- Contracts of the program's functions on the evaluator without names, and plain lemmas: part 2. -/
import Derived.Test.YtficfeekkljoeaaXP1
namespace Go.Proofs.Ytficfeekkljoeaa.VS
set_option linter.unusedVariables false
set_option linter.unusedSimpArgs false
def headBad (l : List SymL) (f v : Int) (n : Nat) : Bool :=
  if symIn l f = true then
    if v = 0 then (if (symAt l f.toNat).ac = true then decide ((n : Int) < 2) else !decide ((n : Int) = (symAt l f.toNat).arity))
    else true
  else true
/-- A Kid that may not stand there, if it is right by itself. -/
def outOf (l : List SymL) (f : Int) (ks : List T) (i : Nat) : Bool :=
  if (symAt l f.toNat).ac = true then (if (tAt ks i).f = f then true else if i = 0 then false else decide (T.cmp (tAt ks i) (tAt ks (i - 1)) < 0)) else false
mutual
def T.form (l : List SymL) : T → Bool
  | .node f v ks =>
    if f = -1 then inB v 0 99 && decide (ks.length = 0)
    else if headBad l f v ks.length = true then false
    else (findAt (fun i => !((T.forms l ks)[i]?).getD false || outOf l f ks i) ks.length 0).isNone
def T.forms (l : List SymL) : List T → List Bool
  | [] => []
  | t :: r => T.form l t :: T.forms l r
end
theorem T.forms_map (l : List SymL) : ∀ ks : List T, T.forms l ks = ks.map (T.form l)
  | [] => by simp [T.forms]
  | t :: r => by simp [T.forms, T.forms_map l r]
theorem T.forms_at (l : List SymL) (ks : List T) (i : Nat) (hi : i < ks.length) : ((T.forms l ks)[i]?).getD false = T.form l (tAt ks i) := by
  rw [T.forms_map]; simp [tAt_get hi]
theorem head78 (l : List SymL) (hs : l.length ≤ 1099511627776) (f v : Int) (ks : List T) : codeX XV (XV.lin 78) (.region true 0 [0, 3, 62] r78_3) ⟨[(0, .d (sg l)), (3, .ptr 0 0), (8, .d (.bool false))], cellsT f v ks⟩ = some (.normal, ⟨[(0, .d (sg l)), (3, .ptr 0 0), (62, .d (.bool (headBad l f v ks.length)))], cellsT f v ks⟩) := by
  have hsy := isSym_eq l hs f
  unfold headBad cellsT
  cases c1 : symIn l f with
  | false => rw [c1] at hsy; simp [d78_3, hsy]
  | true =>
    rw [c1] at hsy
    obtain ⟨g1, g2⟩ := symIn_lt c1
    by_cases c2 : v = 0
    · cases c3 : (symAt l f.toNat).ac with
      | true => simp [d78_3, hsy, c2, g1, g2, symAt_lt g2, cut, c3]
      | false =>
        by_cases c4 : (ks.length : Int) = (symAt l f.toNat).arity
        · simp [d78_3, hsy, c2, g1, g2, symAt_lt g2, cut, c3, c4]
        · have b4 : ((ks.length : Int) != (symAt l f.toNat).arity) = true := by simp [c4]
          simp [d78_3, hsy, c2, g1, g2, symAt_lt g2, cut, c3, c4, b4]
    · have b2 : (v != 0) = true := by simp [c2]
      simp [d78_3, hsy, c2, b2]
theorem head83 (l : List SymL) (hs : l.length ≤ 1099511627776) (f v : Int) (ks : List T) : codeX XV (XV.lin 83) (.region true 0 [0, 3, 64] r83_3) ⟨[(0, .d (sg l)), (3, .ptr 0 0), (8, .d (.bool false))], cellsT f v ks⟩ = some (.normal, ⟨[(0, .d (sg l)), (3, .ptr 0 0), (64, .d (.bool (headBad l f v ks.length)))], cellsT f v ks⟩) := by
  have hsy := l1In_eq f 0 (l.length - 1)
  have hw : IntKind.i64.wrap ((l.length : Int) - 1) = l.length - 1 := wrap_i64 (by omega) (by omega)
  unfold headBad cellsT
  cases c1 : symIn l f with
  | false => unfold symIn at c1; rw [c1] at hsy; simp [d83_3, hsy, hw]
  | true =>
    obtain ⟨g1, g2⟩ := symIn_lt c1
    unfold symIn at c1; rw [c1] at hsy
    by_cases c2 : v = 0
    · cases c3 : (symAt l f.toNat).ac with
      | true => simp [d83_3, hsy, hw, c2, g1, g2, symAt_lt g2, cut, c3]
      | false =>
        by_cases c4 : (ks.length : Int) = (symAt l f.toNat).arity
        · simp [d83_3, hsy, hw, c2, g1, g2, symAt_lt g2, cut, c3, c4]
        · have b4 : ((ks.length : Int) != (symAt l f.toNat).arity) = true := by simp [c4]
          simp [d83_3, hsy, hw, c2, g1, g2, symAt_lt g2, cut, c3, c4, b4]
    · have b2 : (v != 0) = true := by simp [c2]
      simp [d83_3, hsy, hw, c2, b2]
theorem kid78 (l : List SymL) (hs : l.length ≤ 1099511627776) (f v : Int) (ks : List T) (hf : symIn l f = true) (i : Nat) (hi : i < ks.length) (hl : ks.length ≤ 1099511627776)
    (hbef : ∀ s s', s ∈ ks → s' ∈ ks → callX XV 79 [.d (s.enc .sub), .d (s'.enc .sub)] [] = some (.d (.bool (decide (T.cmp s s' < 0))), []))
    (hrec : callX XV 78 [.d (sg l), .d ((tAt ks i).enc .sub)] [] = some (.d (.bool (T.form l (tAt ks i))), [])) :
    codeX XV (XV.lin 78) (.region true 0 [0, 3, 64, 65, 66, 103] r78_8) ⟨[(0, .d (sg l)), (3, .ptr 0 0), (5, .d (.int .i64 i)), (6, .ptr 1 0), (64, .d (terms .sub ks)), (65, .d (.int .i64 ks.length)), (66, .d (.int .i64 i))], cellsT f v ks ++ [some [.d (.int .i64 (tAt ks i).f), .d (.int .i64 (tAt ks i).v), .d (terms .sub (tAt ks i).kids)]]⟩ =
      some (.normal, ⟨[(0, .d (sg l)), (3, .ptr 0 0), (64, .d (terms .sub ks)), (65, .d (.int .i64 ks.length)), (66, .d (.int .i64 i)), (103, .d (.bool (!T.form l (tAt ks i) || outOf l f ks i)))], cellsT f v ks ++ [some [.d (.int .i64 (tAt ks i).f), .d (.int .i64 (tAt ks i).v), .d (terms .sub (tAt ks i).kids)]]⟩) := by
  obtain ⟨g1, g2⟩ := symIn_lt hf
  unfold cellsT outOf
  cases c1 : T.form l (tAt ks i) with
  | false => rw [c1] at hrec; simp [d78_8, hrec]
  | true =>
    rw [c1] at hrec
    cases c2 : (symAt l f.toNat).ac with
    | false => simp [d78_8, hrec, g1, g2, symAt_lt g2, c2, cut]
    | true =>
      by_cases c3 : (tAt ks i).f = f
      · have b3 : ((tAt ks i).f == f) = true := by simp [c3]
        simp [d78_8, hrec, g1, g2, symAt_lt g2, c2, b3, cut]
        simp [c3]
      · have b3 : ((tAt ks i).f == f) = false := by simp [c3]
        by_cases c4 : i = 0
        · subst c4; simp [d78_8, hrec, g1, g2, symAt_lt g2, c2, c3, b3, cut]
        · obtain ⟨j, rfl⟩ : ∃ j, i = j + 1 := ⟨i - 1, by omega⟩
          have hj : j < ks.length := by omega
          have hb := hbef _ _ (tAt_mem hi) (tAt_mem hj)
          have hw : IntKind.i64.wrap (j : Int) = j := wrap_nat (by omega)
          have hpos : (0 : Int) < ((j + 1 : Nat) : Int) := by omega
          simp only [Int.natCast_add, Int.cast_ofNat_Int] at hpos
          simp [d78_8, hrec, g1, g2, symAt_lt g2, c2, c3, b3, hw, hpos, hj, tAt_lt hj, cut, hb]

theorem formOk_of (l : List SymL) (hs : l.length ≤ 1099511627776) (f v : Int) (ks : List T) (hl : ks.length ≤ 1099511627776)
    (hbef : ∀ s s', s ∈ ks → s' ∈ ks → callX XV 79 [.d (s.enc .sub), .d (s'.enc .sub)] [] = some (.d (.bool (decide (T.cmp s s' < 0))), []))
    (hrec : ∀ s, s ∈ ks → callX XV 78 [.d (sg l), .d (s.enc .sub)] [] = some (.d (.bool (T.form l s)), [])) :
    callX XV 78 [.d (sg l), .d ((T.node f v ks).enc .sub)] [] = some (.d (.bool (T.form l (.node f v ks))), []) := by
  rw [z_call XV _ _ _ v78 rfl xcode_78 rfl]
  have hv := isVar_eq (.node f v ks)
  have hin := from_eq v 0 99
  simp only [T.f_node] at hv
  by_cases c1 : f = -1
  · have hform : T.form l (.node f v ks) = (inB v 0 99 && decide (ks.length = 0)) := by simp [T.form, c1]
    rw [hform]
    subst c1
    simp only [BEq.rfl] at hv
    cases c2 : inB v 0 99 with
    | false => rw [c2] at hin; simp [v78, r78_0, r78_1, r78_2, hv, hin]
    | true =>
      rw [c2] at hin
      by_cases c3 : ks.length = 0
      · simp [v78, r78_0, r78_1, r78_2, hv, hin, c3]
      · have b3 : ((ks.length : Int) == 0) = false := by simp; exact fun h => c3 (by simp [h])
        simp [v78, r78_0, r78_1, r78_2, hv, hin, b3]
        exact fun h => c3 (by simp [h])
  have b1 : (f == -1) = false := by simp [c1]
  rw [b1] at hv
  have hh := head78 l hs f v ks
  simp only [cellsT, terms, lin_78] at hh
  cases c2 : headBad l f v ks.length with
  | true =>
    have hform : T.form l (.node f v ks) = false := by simp [T.form, c1, c2]
    rw [hform]
    rw [c2] at hh
    simp [v78, r78_0, r78_1, r78_2, hv, r78_4]
    rw [hh]
    simp
  | false =>
    have hsy : symIn l f = true := by
      unfold headBad at c2
      by_cases h : symIn l f = true
      · exact h
      · rw [if_neg h] at c2; simp at c2
    have hform : T.form l (.node f v ks) = (findAt (fun i => !T.form l (tAt ks i) || outOf l f ks i) ks.length 0).isNone := by
      have e : findAt (fun i => !((T.forms l ks)[i]?).getD false || outOf l f ks i) ks.length 0 = findAt (fun i => !T.form l (tAt ks i) || outOf l f ks i) ks.length 0 := by
        have key : ∀ (k i : Nat), i + k = ks.length → findAt (fun i => !((T.forms l ks)[i]?).getD false || outOf l f ks i) k i = findAt (fun i => !T.form l (tAt ks i) || outOf l f ks i) k i := by
          intro k
          induction k with
          | zero => intro i _; rfl
          | succ k ih =>
            intro i h
            simp only [findAt]
            simp only [T.forms_at l ks i (by omega), ih (i + 1) (by omega)]
        exact key _ _ (by omega)
      rw [← e]; simp [T.form, c1, c2]
    rw [hform]
    rw [c2] at hh
    have h := loopX_upto (X := XV) (T := XV.lin 78) (L := 1) (live := [0, 3, 64, 65, 66]) (b := b78_0) (n := ks.length) (γ := Nat) (st := fun (_ : Unit) i => ⟨[(0, .d (sg l)), (3, .ptr 0 0), (64, .d (terms .sub ks)), (65, .d (.int .i64 ks.length)), (66, .d (.int .i64 i))], cellsT f v ks⟩) (step := stepF fun i => !T.form l (tAt ks i) || outOf l f ks i)
      (F := fun _ => (.exit 0, ⟨[(0, .d (sg l)), (3, .ptr 0 0), (64, .d (terms .sub ks)), (65, .d (.int .i64 ks.length)), (66, .d (.int .i64 ks.length)), (67, .d (.bool false))], cellsT f v ks⟩)) (R := fun j => (.ret, ⟨[(4, .d (.bool false))], cellsT f v ks ++ [some [.d (.int .i64 (tAt ks j).f), .d (.int .i64 (tAt ks j).v), .d (terms .sub (tAt ks j).kids)]]⟩))
      (fun a => ⟨by simp, by simp [b78_0, r78_6]⟩)
      (fun a i hi => by
        have hw := wrap_succ (n := i) (by omega)
        have hk := kid78 l hs f v ks hsy i hi hl hbef (hrec _ (tAt_mem hi))
        unfold stepF
        simp only [cellsT, terms, List.cons_append, List.nil_append, lin_78] at hk
        by_cases hq : (!T.form l (tAt ks i) || outOf l f ks i) = true
        · rw [if_pos hq]
          rw [hq] at hk
          refine ⟨by simp, ?_⟩
          simp [b78_0, r78_6, r78_7, r78_9, r78_10, hi, hw, cut, tAt_lt hi, cellsT, splice]
          rw [hk]
          simp
        · rw [if_neg hq]
          have hq' : (!T.form l (tAt ks i) || outOf l f ks i) = false := by simpa using hq
          rw [hq'] at hk
          refine ⟨⟨[(0, .d (sg l)), (3, .ptr 0 0), (64, .d (terms .sub ks)), (65, .d (.int .i64 ks.length)), (66, .d (.int .i64 (i + 1 : Nat)))], cellsT f v ks ++ [some [.d (.int .i64 (tAt ks i).f), .d (.int .i64 (tAt ks i).v), .d (terms .sub (tAt ks i).kids)]]⟩, ?_, by simp [xheadOf, safeRegs, cellsT]⟩
          simp [b78_0, r78_6, r78_7, r78_9, r78_10, hi, hw, cut, tAt_lt hi, cellsT, splice]
          rw [hk]
          simp [hw])
      ks.length () 0 ⟨[(0, .d (sg l)), (3, .ptr 0 0), (64, .d (terms .sub ks)), (65, .d (.int .i64 ks.length)), (66, .d (.int .i64 0))], cellsT f v ks⟩ (by omega) (by simp [xheadOf, safeRegs, cellsT])
    rw [runF] at h
    simp only [cellsT, terms, List.cons_append, List.nil_append, lin_78] at h
    simp [v78, r78_0, r78_1, r78_2, hv, r78_4, r78_5]
    rw [hh]
    simp
    rw [h]
    cases hq : findAt (fun i => !T.form l (tAt ks i) || outOf l f ks i) ks.length 0 <;> simp [r78_11]

theorem form_node (l : List SymL) (f v : Int) (ks : List T) (c1 : f ≠ -1) (c2 : headBad l f v ks.length = false) : T.form l (.node f v ks) = (findAt (fun i => !T.form l (tAt ks i) || outOf l f ks i) ks.length 0).isNone := by
  have e : findAt (fun i => !((T.forms l ks)[i]?).getD false || outOf l f ks i) ks.length 0 = findAt (fun i => !T.form l (tAt ks i) || outOf l f ks i) ks.length 0 := by
    have key : ∀ (k i : Nat), i + k = ks.length → findAt (fun i => !((T.forms l ks)[i]?).getD false || outOf l f ks i) k i = findAt (fun i => !T.form l (tAt ks i) || outOf l f ks i) k i := by
      intro k
      induction k with
      | zero => intro i _; rfl
      | succ k ih =>
        intro i h
        simp only [findAt]
        simp only [T.forms_at l ks i (by omega), ih (i + 1) (by omega)]
    exact key _ _ (by omega)
  rw [← e]; simp [T.form, c1, c2]
theorem formOk_eq (l : List SymL) (hs : l.length ≤ 1099511627776) (t : T) (ht : t.inner ≤ 1099511627776) : callX XV 78 [.d (sg l), .d (t.enc .sub)] [] = some (.d (.bool (T.form l t)), []) := by
  match t, ht with
  | .node f v ks, ht =>
    simp only [T.inner] at ht
    exact formOk_of l hs f v ks (by omega) (fun s s' h h' => implBefore_eq s s' (by have := T.inners_mem h; omega) (by have := T.inners_mem h'; omega)) (fun s h => formOk_eq l hs s (by have := T.inners_mem h; omega))
termination_by t
decreasing_by
  simp_wf
  have := List.sizeOf_lt_of_mem h
  omega
theorem kid83 (l : List SymL) (hs : l.length ≤ 1099511627776) (f v : Int) (ks : List T) (hf : symIn l f = true) (i : Nat) (hi : i < ks.length) (hl : ks.length ≤ 1099511627776)
    (hbef : ∀ s s', s ∈ ks → s' ∈ ks → callX XV 84 [.d (s.enc .sub), .d (s'.enc .sub)] [] = some (.d (.bool (decide (T.cmp s s' < 0))), []))
    (hrec : callX XV 83 [.d (sg l), .d ((tAt ks i).enc .sub)] [] = some (.d (.bool (T.form l (tAt ks i))), [])) :
    codeX XV (XV.lin 83) (.region true 0 [0, 3, 5, 116] r83_8) ⟨[(0, .d (sg l)), (3, .ptr 0 0), (5, .d (.int .i64 i)), (69, .d (.bool true))], cellsT f v ks⟩ =
      some (.normal, ⟨[(0, .d (sg l)), (3, .ptr 0 0), (5, .d (.int .i64 i)), (116, .d (.bool (!T.form l (tAt ks i) || outOf l f ks i)))], cellsT f v ks⟩) := by
  obtain ⟨g1, g2⟩ := symIn_lt hf
  unfold cellsT outOf
  cases c2 : (symAt l f.toNat).ac with
  | false =>
    cases c1 : T.form l (tAt ks i) with
    | false => rw [c1] at hrec; simp [d83_8, hrec, g1, g2, symAt_lt g2, c2, cut, hi, tAt_lt hi]
    | true => rw [c1] at hrec; simp [d83_8, hrec, g1, g2, symAt_lt g2, c2, cut, hi, tAt_lt hi]
  | true =>
    by_cases c3 : (tAt ks i).f = f
    · have b3 : ((tAt ks i).f == f) = true := by simp [c3]
      simp [d83_8, g1, g2, symAt_lt g2, c2, b3, cut, hi, tAt_lt hi]
      simp [c3]
    · have b3 : ((tAt ks i).f == f) = false := by simp [c3]
      by_cases c4 : i = 0
      · subst c4
        cases c1 : T.form l (tAt ks 0) with
        | false => rw [c1] at hrec; simp [d83_8, hrec, g1, g2, symAt_lt g2, c2, c3, b3, cut, hi, tAt_lt hi]
        | true => rw [c1] at hrec; simp [d83_8, hrec, g1, g2, symAt_lt g2, c2, c3, b3, cut, hi, tAt_lt hi]
      · obtain ⟨j, rfl⟩ : ∃ j, i = j + 1 := ⟨i - 1, by omega⟩
        have hj : j < ks.length := by omega
        have hb := hbef _ _ (tAt_mem hi) (tAt_mem hj)
        have hw : IntKind.i64.wrap (j : Int) = j := wrap_nat (by omega)
        have hpos : (0 : Int) < ((j + 1 : Nat) : Int) := by omega
        have hnat : (((j + 1 : Nat) : Int)).toNat = j + 1 := by omega
        simp only [Int.natCast_add, Int.cast_ofNat_Int] at hpos hnat
        have hnn : (0 : Int) ≤ (j : Int) + 1 := by omega
        by_cases c5 : T.cmp (tAt ks (j + 1)) (tAt ks j) < 0
        · simp only [c5, decide_true] at hb
          simp [d83_8, g1, g2, symAt_lt g2, c2, c3, b3, hw, hpos, hnat, hnn, hj, hi, tAt_lt hj, tAt_lt hi, cut, hb, c5]
        · simp only [c5, decide_false] at hb
          cases c1 : T.form l (tAt ks (j + 1)) with
          | false => rw [c1] at hrec; simp [d83_8, hrec, g1, g2, symAt_lt g2, c2, c3, b3, hw, hpos, hnat, hnn, hj, hi, tAt_lt hj, tAt_lt hi, cut, hb, c5]
          | true => rw [c1] at hrec; simp [d83_8, hrec, g1, g2, symAt_lt g2, c2, c3, b3, hw, hpos, hnat, hnn, hj, hi, tAt_lt hj, tAt_lt hi, cut, hb, c5]
theorem l4Right_of (l : List SymL) (hs : l.length ≤ 1099511627776) (f v : Int) (ks : List T) (hl : ks.length ≤ 1099511627776)
    (hbef : ∀ s s', s ∈ ks → s' ∈ ks → callX XV 84 [.d (s.enc .sub), .d (s'.enc .sub)] [] = some (.d (.bool (decide (T.cmp s s' < 0))), []))
    (hrec : ∀ s, s ∈ ks → callX XV 83 [.d (sg l), .d (s.enc .sub)] [] = some (.d (.bool (T.form l s)), [])) :
    callX XV 83 [.d (sg l), .d ((T.node f v ks).enc .sub)] [] = some (.d (.bool (T.form l (.node f v ks))), []) := by
  rw [z_call XV _ _ _ v83 rfl xcode_83 rfl]
  have hin := l1In_eq v 0 99
  by_cases c1 : f = -1
  · have hform : T.form l (.node f v ks) = (inB v 0 99 && decide (ks.length = 0)) := by simp [T.form, c1]
    rw [hform]
    subst c1
    cases c2 : inB v 0 99 with
    | false => rw [c2] at hin; simp [v83, r83_0, r83_1, r83_2, hin]
    | true =>
      rw [c2] at hin
      by_cases c3 : ks.length = 0
      · simp [v83, r83_0, r83_1, r83_2, hin, c3]
      · have b3 : ((ks.length : Int) == 0) = false := by simp; exact fun h => c3 (by simp [h])
        simp [v83, r83_0, r83_1, r83_2, hin, b3]
        exact fun h => c3 (by simp [h])
  have b1 : (f == -1) = false := by simp [c1]
  have hh := head83 l hs f v ks
  simp only [cellsT, terms, lin_83] at hh
  cases c2 : headBad l f v ks.length with
  | true =>
    have hform : T.form l (.node f v ks) = false := by simp [T.form, c1, c2]
    rw [hform]
    rw [c2] at hh
    simp [v83, r83_0, r83_1, r83_2, b1, r83_4]
    rw [hh]
    simp
  | false =>
    have hsy : symIn l f = true := by
      unfold headBad at c2
      by_cases h : symIn l f = true
      · exact h
      · rw [if_neg h] at c2; simp at c2
    rw [form_node l f v ks c1 c2]
    rw [c2] at hh
    have h := loopX_upto (X := XV) (T := XV.lin 83) (L := 1) (live := [0, 3, 5]) (b := b83_0) (n := ks.length) (γ := Nat) (st := fun (_ : Unit) i => ⟨[(0, .d (sg l)), (3, .ptr 0 0), (5, .d (.int .i64 i))], cellsT f v ks⟩) (step := stepF fun i => !T.form l (tAt ks i) || outOf l f ks i)
      (F := fun _ => (.exit 0, ⟨[(0, .d (sg l)), (3, .ptr 0 0), (5, .d (.int .i64 ks.length)), (69, .d (.bool false))], cellsT f v ks⟩)) (R := fun j => (.ret, ⟨[(4, .d (.bool false))], cellsT f v ks⟩))
      (fun a => ⟨by simp, by simp [b83_0, r83_6, cellsT]⟩)
      (fun a i hi => by
        have hw := wrap_succ (n := i) (by omega)
        have hk := kid83 l hs f v ks hsy i hi hl hbef (hrec _ (tAt_mem hi))
        unfold stepF
        simp only [cellsT, terms, List.cons_append, List.nil_append, lin_83] at hk
        by_cases hq : (!T.form l (tAt ks i) || outOf l f ks i) = true
        · rw [if_pos hq]
          rw [hq] at hk
          refine ⟨by simp, ?_⟩
          simp [b83_0, r83_6, r83_7, r83_9, hi, hw, cut, tAt_lt hi, cellsT, splice]
          rw [hk]
          simp
        · rw [if_neg hq]
          have hq' : (!T.form l (tAt ks i) || outOf l f ks i) = false := by simpa using hq
          rw [hq'] at hk
          refine ⟨⟨[(0, .d (sg l)), (3, .ptr 0 0), (5, .d (.int .i64 (i + 1 : Nat)))], cellsT f v ks⟩, ?_, by simp [xheadOf, safeRegs, cellsT]⟩
          simp [b83_0, r83_6, r83_7, r83_9, hi, hw, cut, tAt_lt hi, cellsT, splice]
          rw [hk]
          simp [hw])
      ks.length () 0 ⟨[(0, .d (sg l)), (3, .ptr 0 0), (5, .d (.int .i64 0))], cellsT f v ks⟩ (by omega) (by simp [xheadOf, safeRegs, cellsT])
    rw [runF] at h
    simp only [cellsT, terms, List.cons_append, List.nil_append, lin_83] at h
    simp [v83, r83_0, r83_1, r83_2, b1, r83_4, r83_5]
    rw [hh]
    simp
    rw [h]
    cases hq : findAt (fun i => !T.form l (tAt ks i) || outOf l f ks i) ks.length 0 <;> simp [r83_10]
theorem l4Right_eq (l : List SymL) (hs : l.length ≤ 1099511627776) (t : T) (ht : t.inner ≤ 1099511627776) : callX XV 83 [.d (sg l), .d (t.enc .sub)] [] = some (.d (.bool (T.form l t)), []) := by
  match t, ht with
  | .node f v ks, ht =>
    simp only [T.inner] at ht
    exact l4Right_of l hs f v ks (by omega) (fun s s' h h' => specBefore_eq s s' (by have := T.inners_mem h; omega) (by have := T.inners_mem h'; omega)) (fun s h => l4Right_eq l hs s (by have := T.inners_mem h; omega))
termination_by t
decreasing_by
  simp_wf
  have := List.sizeOf_lt_of_mem h
  omega
mutual
theorem sum_one : ∀ t : T, T.sum (fun _ => 1) t = t.inner + 1
  | .node f v ks => by simp only [T.sum, T.inner]; rw [sums_one ks]; push_cast; omega
theorem sums_one : ∀ l : List T, T.sums (fun _ => 1) l = T.inners l + l.length
  | [] => by simp [T.sums, T.inners]
  | t :: r => by simp only [T.sums, T.inners, List.length_cons]; rw [sum_one t, sums_one r]; push_cast; omega
end
theorem parts_val (t : T) (ht : t.inner ≤ 1099511627776) : IntKind.i64.wrap (T.sum (fun _ => 1) t) = (t.inner + 1 : Nat) := by
  rw [sum_one]; exact wrap_nat (n := t.inner + 1) (by omega)
def termOkB (l : List SymL) (t : T) : Bool := sigOkB l && (decide (t.inner + 1 ≤ 60) && T.form l t)
theorem implTermOk_eq (l : List SymL) (hs : l.length ≤ 1099511627776) (hn : ∀ i, i < l.length → (symAt l i).name.size ≤ 1099511627776) (t : T) (ht : t.inner ≤ 1099511627776) : callX XV 70 [.d (sg l), .d (t.enc .sub)] [] = some (.d (.bool (termOkB l t)), []) := by
  rw [z_call XV _ _ _ v70 rfl xcode_70 rfl]
  have h1 := implSigOk_eq l hs hn
  have h2 := implParts_eq t ht
  rw [parts_val t ht] at h2
  have h3 := formOk_eq l hs t ht
  unfold termOkB
  cases c1 : sigOkB l with
  | false => rw [c1] at h1; simp [v70, r70_0, r70_1, h1]
  | true =>
    rw [c1] at h1
    by_cases c2 : t.inner + 1 ≤ 60
    · have c2' : (((t.inner + 1 : Nat) : Int)) ≤ 60 := by omega
      simp only [Int.natCast_add, Int.cast_ofNat_Int] at c2'
      simp [v70, r70_0, r70_1, h1, h2, h3, c2, c2']
    · have c2' : ¬ (((t.inner + 1 : Nat) : Int)) ≤ 60 := by omega
      simp only [Int.natCast_add, Int.cast_ofNat_Int] at c2'
      simp [v70, r70_0, r70_1, h1, h2, c2, c2']
theorem specTermOk_eq (l : List SymL) (hs : l.length ≤ 1099511627776) (hn : ∀ i, i < l.length → (symAt l i).name.size ≤ 1099511627776) (t : T) (ht : t.inner ≤ 1099511627776) : callX XV 80 [.d (sg l), .d (t.enc .sub)] [] = some (.d (.bool (termOkB l t)), []) := by
  rw [z_call XV _ _ _ v80 rfl xcode_80 rfl]
  have h1 := specSigOk_eq l hs hn
  have h2 := specParts_eq t ht
  rw [parts_val t ht] at h2
  have h3 := l4Right_eq l hs t ht
  unfold termOkB
  cases c1 : sigOkB l with
  | false => rw [c1] at h1; simp [v80, r80_0, r80_1, h1]
  | true =>
    rw [c1] at h1
    by_cases c2 : t.inner + 1 ≤ 60
    · have c2' : (((t.inner + 1 : Nat) : Int)) ≤ 60 := by omega
      simp only [Int.natCast_add, Int.cast_ofNat_Int] at c2'
      simp [v80, r80_0, r80_1, h1, h2, h3, c2, c2']
    · have c2' : ¬ (((t.inner + 1 : Nat) : Int)) ≤ 60 := by omega
      simp only [Int.natCast_add, Int.cast_ofNat_Int] at c2'
      simp [v80, r80_0, r80_1, h1, h2, c2, c2']
end Go.Proofs.Ytficfeekkljoeaa.VS
namespace Go.Proofs.Ytficfeekkljoeaa.VS
set_option linter.unusedVariables false
set_option linter.unusedSimpArgs false
/-! ## Which of two terms is greater, both -/
def countW (t : T) (n : Int) : Int := IntKind.i64.wrap (T.sum (wC n) t)
def weightW (l : List SymL) (t : T) : Int := IntKind.i64.wrap (T.sum (wW l) t)
def lessAt (a b : T) (vs : List Int) (i : Nat) : Bool := decide (countW a (iAt vs i) < countW b (iAt vs i))
def lastB (l : List SymL) (a b : T) : Bool := decide (weightW l a > weightW l b) || (decide (weightW l a = weightW l b) && ((varsL a).length == 0) && ((varsL b).length == 0) && decide (T.cmp b a < 0))
def greaterB (l : List SymL) (a b : T) : Bool := termOkB l a && termOkB l b && (findAt (lessAt a b (varsL b)) (varsL b).length 0).isNone && lastB l a b
theorem implLast (l : List SymL) (hs : l.length ≤ 1099511627776) (f v : Int) (ks : List T) (f' v' : Int) (ks' : List T) (ha : (T.node f v ks).inner ≤ 1099511627776) (hb : (T.node f' v' ks').inner ≤ 1099511627776) :
    codeX XV (XV.lin 178) (.region false 0 [6] r178_10) ⟨[(4, .ptr 0 0), (5, .ptr 1 0), (9, .d (.int .i64 (weightW l (.node f v ks)))), (10, .d (.int .i64 (weightW l (.node f' v' ks'))))], cellsT f v ks ++ cellsT f' v' ks'⟩ =
      some (.normal, ⟨[(6, .d (.bool (lastB l (.node f v ks) (.node f' v' ks'))))], cellsT f v ks ++ cellsT f' v' ks'⟩) := by
  have g1 := implGround_eq (.node f v ks) ha
  have g2 := implGround_eq (.node f' v' ks') hb
  have b1 := implBefore_eq (.node f' v' ks') (.node f v ks) hb ha
  unfold lastB cellsT
  generalize hx : weightW l (.node f v ks) = x
  generalize hy : weightW l (.node f' v' ks') = y
  generalize varsL (.node f v ks) = va at g1 ⊢
  generalize varsL (.node f' v' ks') = vb at g2 ⊢
  generalize decide (T.cmp (.node f' v' ks') (.node f v ks) < 0) = cb at b1 ⊢
  generalize (va.length == 0) = ga at g1 ⊢
  generalize (vb.length == 0) = gb at g2 ⊢
  by_cases h1 : x > y
  · simp [r178_10, h1]
  · by_cases h2 : x = y
    · subst h2
      cases ga <;> cases gb <;> simp [r178_10, g1, g2, b1]
    · have h3 : (x == y) = false := by simp [h2]
      simp [r178_10, h1, h2, h3]
theorem specLast (l : List SymL) (hs : l.length ≤ 1099511627776) (f v : Int) (ks : List T) (f' v' : Int) (ks' : List T) (ha : (T.node f v ks).inner ≤ 1099511627776) (hb : (T.node f' v' ks').inner ≤ 1099511627776) :
    codeX XV (XV.lin 179) (.region false 0 [6] r179_10) ⟨[(4, .ptr 0 0), (5, .ptr 1 0), (9, .d (.int .i64 (weightW l (.node f v ks)))), (10, .d (.int .i64 (weightW l (.node f' v' ks'))))], cellsT f v ks ++ cellsT f' v' ks'⟩ =
      some (.normal, ⟨[(6, .d (.bool (lastB l (.node f v ks) (.node f' v' ks'))))], cellsT f v ks ++ cellsT f' v' ks'⟩) := by
  have g1 := specGround_eq (.node f v ks) ha
  have g2 := specGround_eq (.node f' v' ks') hb
  have b1 := specBefore_eq (.node f' v' ks') (.node f v ks) hb ha
  unfold lastB cellsT
  generalize hx : weightW l (.node f v ks) = x
  generalize hy : weightW l (.node f' v' ks') = y
  generalize varsL (.node f v ks) = va at g1 ⊢
  generalize varsL (.node f' v' ks') = vb at g2 ⊢
  generalize decide (T.cmp (.node f' v' ks') (.node f v ks) < 0) = cb at b1 ⊢
  generalize (va.length == 0) = ga at g1 ⊢
  generalize (vb.length == 0) = gb at g2 ⊢
  by_cases h1 : x > y
  · simp [r179_10, h1]
  · by_cases h2 : x = y
    · subst h2
      cases ga <;> cases gb <;> simp [r179_10, g1, g2, b1]
    · have h3 : (x == y) = false := by simp [h2]
      simp [r179_10, h1, h2, h3]
theorem implLoop (l : List SymL) (f v : Int) (ks : List T) (f' v' : Int) (ks' : List T) (ha : (T.node f v ks).inner ≤ 1099511627776) (hb : (T.node f' v' ks').inner ≤ 1099511627776) (vs : List Int) (hl : vs.length ≤ 2199023255552) :
    loopX XV (XV.lin 178) 2 [0, 4, 5, 22, 23, 24] b178_0 ⟨[(0, .d (sg l)), (4, .ptr 0 0), (5, .ptr 1 0), (22, .d (is vs)), (23, .d (.int .i64 vs.length)), (24, .d (.int .i64 0))], cellsT f v ks ++ cellsT f' v' ks'⟩ =
      some (match findAt (lessAt (.node f v ks) (.node f' v' ks') vs) vs.length 0 with
        | some _ => (.ret, ⟨[(6, .d (.bool false))], cellsT f v ks ++ cellsT f' v' ks'⟩)
        | none => (.exit 0, ⟨[(0, .d (sg l)), (4, .ptr 0 0), (5, .ptr 1 0), (22, .d (is vs)), (23, .d (.int .i64 vs.length)), (24, .d (.int .i64 vs.length)), (25, .d (.bool false))], cellsT f v ks ++ cellsT f' v' ks'⟩)) := by
  have h := loopX_upto (X := XV) (T := XV.lin 178) (L := 2) (live := [0, 4, 5, 22, 23, 24]) (b := b178_0) (n := vs.length) (st := fun (_ : Unit) i => ⟨[(0, .d (sg l)), (4, .ptr 0 0), (5, .ptr 1 0), (22, .d (is vs)), (23, .d (.int .i64 vs.length)), (24, .d (.int .i64 i))], cellsT f v ks ++ cellsT f' v' ks'⟩) (step := stepF (lessAt (.node f v ks) (.node f' v' ks') vs))
    (F := fun _ => (.exit 0, ⟨[(0, .d (sg l)), (4, .ptr 0 0), (5, .ptr 1 0), (22, .d (is vs)), (23, .d (.int .i64 vs.length)), (24, .d (.int .i64 vs.length)), (25, .d (.bool false))], cellsT f v ks ++ cellsT f' v' ks'⟩)) (R := fun (_ : Nat) => (.ret, ⟨[(6, .d (.bool false))], cellsT f v ks ++ cellsT f' v' ks'⟩))
    (fun a => ⟨by simp, by simp [cellsT, b178_0, r178_0, r178_1, r178_2, r178_3, r178_4, r178_5, d178_6, r178_7, r178_8, d178_9, r178_10]⟩)
    (fun a i hi => by
      have hw := wrap_succ (n := i) (by omega)
      have c1 := implCount_eq (.node f v ks) ha (iAt vs i)
      have c2 := implCount_eq (.node f' v' ks') hb (iAt vs i)
      unfold stepF
      by_cases hq : lessAt (.node f v ks) (.node f' v' ks') vs i = true
      · rw [if_pos hq]
        have hq2 : countW (.node f v ks) (iAt vs i) < countW (.node f' v' ks') (iAt vs i) := by simpa [lessAt] using hq
        unfold countW at hq2
        exact ⟨by simp, by simp [cellsT, b178_0, r178_0, r178_1, r178_2, r178_3, r178_4, r178_5, d178_6, r178_7, r178_8, d178_9, r178_10, hi, hw, cut, iAt_lt hi, c1, c2, hq2]⟩
      · rw [if_neg hq]
        have hq2 : ¬ countW (.node f v ks) (iAt vs i) < countW (.node f' v' ks') (iAt vs i) := by simpa [lessAt] using hq
        unfold countW at hq2
        exact ⟨_, by simp [cellsT, b178_0, r178_0, r178_1, r178_2, r178_3, r178_4, r178_5, d178_6, r178_7, r178_8, d178_9, r178_10, hi, hw, cut, iAt_lt hi, c1, c2, hq2]; rfl, by simp [xheadOf, safeRegs, cellsT]⟩)
    vs.length () 0 ⟨[(0, .d (sg l)), (4, .ptr 0 0), (5, .ptr 1 0), (22, .d (is vs)), (23, .d (.int .i64 vs.length)), (24, .d (.int .i64 0))], cellsT f v ks ++ cellsT f' v' ks'⟩ (by omega) (by simp [xheadOf, safeRegs, cellsT])
  rw [runF] at h
  rw [h]
  cases findAt (lessAt (.node f v ks) (.node f' v' ks') vs) vs.length 0 <;> rfl
theorem implGreater_eq (l : List SymL) (hs : l.length ≤ 1099511627776) (hn : ∀ i, i < l.length → (symAt l i).name.size ≤ 1099511627776) (a b : T) (ha : a.inner ≤ 1099511627776) (hb : b.inner ≤ 1099511627776) : callX XV 178 [.d (sg l), .d (a.enc .sub), .d (b.enc .sub)] [] = some (.d (.bool (greaterB l a b)), []) := by
  obtain ⟨f, v, ks⟩ := a
  obtain ⟨f', v', ks'⟩ := b
  rw [z_call XV _ _ _ v178 rfl xcode_178 rfl]
  have o1 := implTermOk_eq l hs hn (.node f v ks) ha
  have o2 := implTermOk_eq l hs hn (.node f' v' ks') hb
  have va := implVarsOf_eq (.node f' v' ks') hb
  have w1 := implWeight_eq l hs (.node f v ks) ha
  have w2 := implWeight_eq l hs (.node f' v' ks') hb
  have hloop := implLoop l f v ks f' v' ks' ha hb (varsL (.node f' v' ks')) (by have := varsL_len (.node f' v' ks') hb; omega)
  have hlast := implLast l hs f v ks f' v' ks' ha hb
  unfold greaterB
  unfold weightW at hlast
  by_cases h1 : termOkB l (.node f v ks) = true
  · rw [h1] at o1 ⊢
    by_cases h2 : termOkB l (.node f' v' ks') = true
    · rw [h2] at o2 ⊢
      simp only [lin_178, cellsT, List.cons_append, List.nil_append] at hloop hlast
      simp only [z_region, List.replicate_zero, List.append_nil, List.length_cons, List.length_nil, Nat.zero_add, Nat.reduceAdd] at hlast
      cases hq : findAt (lessAt (.node f v ks) (.node f' v' ks') (varsL (.node f' v' ks'))) (varsL (.node f' v' ks')).length 0 with
      | none =>
        rw [hq] at hloop
        simp [v178, r178_0, r178_1, r178_2, r178_3, o1, o2, va]
        rw [hloop]
        simp [d178_9, w1, w2]
        rw [hlast]
        simp
      | some j =>
        rw [hq] at hloop
        simp [v178, r178_0, r178_1, r178_2, r178_3, o1, o2, va]
        rw [hloop]
        simp
    · have h2' : termOkB l (.node f' v' ks') = false := by simpa using h2
      rw [h2'] at o2 ⊢
      simp [v178, r178_0, r178_1, r178_2, o1, o2]
  · have h1' : termOkB l (.node f v ks) = false := by simpa using h1
    rw [h1'] at o1 ⊢
    simp [v178, r178_0, r178_1, r178_2, o1]
theorem specLoop (l : List SymL) (f v : Int) (ks : List T) (f' v' : Int) (ks' : List T) (ha : (T.node f v ks).inner ≤ 1099511627776) (hb : (T.node f' v' ks').inner ≤ 1099511627776) (vs : List Int) (hl : vs.length ≤ 2199023255552) :
    loopX XV (XV.lin 179) 2 [0, 4, 5, 7, 8] b179_0 ⟨[(0, .d (sg l)), (4, .ptr 0 0), (5, .ptr 1 0), (7, .d (is vs)), (8, .d (.int .i64 0))], cellsT f v ks ++ cellsT f' v' ks'⟩ =
      some (match findAt (lessAt (.node f v ks) (.node f' v' ks') vs) vs.length 0 with
        | some _ => (.ret, ⟨[(6, .d (.bool false))], cellsT f v ks ++ cellsT f' v' ks'⟩)
        | none => (.exit 0, ⟨[(0, .d (sg l)), (4, .ptr 0 0), (5, .ptr 1 0), (7, .d (is vs)), (8, .d (.int .i64 vs.length)), (26, .d (.bool false))], cellsT f v ks ++ cellsT f' v' ks'⟩)) := by
  have h := loopX_upto (X := XV) (T := XV.lin 179) (L := 2) (live := [0, 4, 5, 7, 8]) (b := b179_0) (n := vs.length) (st := fun (_ : Unit) i => ⟨[(0, .d (sg l)), (4, .ptr 0 0), (5, .ptr 1 0), (7, .d (is vs)), (8, .d (.int .i64 i))], cellsT f v ks ++ cellsT f' v' ks'⟩) (step := stepF (lessAt (.node f v ks) (.node f' v' ks') vs))
    (F := fun _ => (.exit 0, ⟨[(0, .d (sg l)), (4, .ptr 0 0), (5, .ptr 1 0), (7, .d (is vs)), (8, .d (.int .i64 vs.length)), (26, .d (.bool false))], cellsT f v ks ++ cellsT f' v' ks'⟩)) (R := fun (_ : Nat) => (.ret, ⟨[(6, .d (.bool false))], cellsT f v ks ++ cellsT f' v' ks'⟩))
    (fun a => ⟨by simp, by simp [cellsT, b179_0, r179_0, r179_1, r179_2, r179_3, r179_4, r179_5, d179_7, r179_8, r179_6, d179_9, r179_10]⟩)
    (fun a i hi => by
      have hw := wrap_succ (n := i) (by omega)
      have c1 := specCount_eq (.node f v ks) ha (iAt vs i)
      have c2 := specCount_eq (.node f' v' ks') hb (iAt vs i)
      unfold stepF
      by_cases hq : lessAt (.node f v ks) (.node f' v' ks') vs i = true
      · rw [if_pos hq]
        have hq2 : countW (.node f v ks) (iAt vs i) < countW (.node f' v' ks') (iAt vs i) := by simpa [lessAt] using hq
        unfold countW at hq2
        exact ⟨by simp, by simp [cellsT, b179_0, r179_0, r179_1, r179_2, r179_3, r179_4, r179_5, d179_7, r179_8, r179_6, d179_9, r179_10, hi, hw, cut, iAt_lt hi, c1, c2, hq2]⟩
      · rw [if_neg hq]
        have hq2 : ¬ countW (.node f v ks) (iAt vs i) < countW (.node f' v' ks') (iAt vs i) := by simpa [lessAt] using hq
        unfold countW at hq2
        exact ⟨_, by simp [cellsT, b179_0, r179_0, r179_1, r179_2, r179_3, r179_4, r179_5, d179_7, r179_8, r179_6, d179_9, r179_10, hi, hw, cut, iAt_lt hi, c1, c2, hq2]; rfl, by simp [xheadOf, safeRegs, cellsT]⟩)
    vs.length () 0 ⟨[(0, .d (sg l)), (4, .ptr 0 0), (5, .ptr 1 0), (7, .d (is vs)), (8, .d (.int .i64 0))], cellsT f v ks ++ cellsT f' v' ks'⟩ (by omega) (by simp [xheadOf, safeRegs, cellsT])
  rw [runF] at h
  rw [h]
  cases findAt (lessAt (.node f v ks) (.node f' v' ks') vs) vs.length 0 <;> rfl
theorem specGreater_eq (l : List SymL) (hs : l.length ≤ 1099511627776) (hn : ∀ i, i < l.length → (symAt l i).name.size ≤ 1099511627776) (a b : T) (ha : a.inner ≤ 1099511627776) (hb : b.inner ≤ 1099511627776) : callX XV 179 [.d (sg l), .d (a.enc .sub), .d (b.enc .sub)] [] = some (.d (.bool (greaterB l a b)), []) := by
  obtain ⟨f, v, ks⟩ := a
  obtain ⟨f', v', ks'⟩ := b
  rw [z_call XV _ _ _ v179 rfl xcode_179 rfl]
  have o1 := specTermOk_eq l hs hn (.node f v ks) ha
  have o2 := specTermOk_eq l hs hn (.node f' v' ks') hb
  have va := specVarsOf_eq (.node f' v' ks') hb
  have w1 := specWeight_eq l hs (.node f v ks) ha
  have w2 := specWeight_eq l hs (.node f' v' ks') hb
  have hloop := specLoop l f v ks f' v' ks' ha hb (varsL (.node f' v' ks')) (by have := varsL_len (.node f' v' ks') hb; omega)
  have hlast := specLast l hs f v ks f' v' ks' ha hb
  unfold greaterB
  unfold weightW at hlast
  by_cases h1 : termOkB l (.node f v ks) = true
  · rw [h1] at o1 ⊢
    by_cases h2 : termOkB l (.node f' v' ks') = true
    · rw [h2] at o2 ⊢
      simp only [lin_179, cellsT, List.cons_append, List.nil_append] at hloop hlast
      simp only [z_region, List.replicate_zero, List.append_nil, List.length_cons, List.length_nil, Nat.zero_add, Nat.reduceAdd] at hlast
      cases hq : findAt (lessAt (.node f v ks) (.node f' v' ks') (varsL (.node f' v' ks'))) (varsL (.node f' v' ks')).length 0 with
      | none =>
        rw [hq] at hloop
        simp [v179, r179_0, r179_1, r179_2, r179_3, r179_4, o1, o2, va]
        rw [hloop]
        simp [d179_9, w1, w2]
        rw [hlast]
        simp
      | some j =>
        rw [hq] at hloop
        simp [v179, r179_0, r179_1, r179_2, r179_3, r179_4, o1, o2, va]
        rw [hloop]
        simp
    · have h2' : termOkB l (.node f' v' ks') = false := by simpa using h2
      rw [h2'] at o2 ⊢
      simp [v179, r179_0, r179_1, r179_2, o1, o2]
  · have h1' : termOkB l (.node f v ks) = false := by simpa using h1
    rw [h1'] at o1 ⊢
    simp [v179, r179_0, r179_1, r179_2, o1]
end Go.Proofs.Ytficfeekkljoeaa.VS
namespace Go.Proofs.Ytficfeekkljoeaa.VS
set_option linter.unusedVariables false
set_option linter.unusedSimpArgs false
/-! ## The order of terms is total -/
mutual
theorem cmp_neg : ∀ a b : T, T.cmp a b = -(T.cmp b a)
  | .node f v ks, .node f' v' ks' => by
    have h := cmps_neg ks ks'
    simp only [T.cmp]
    repeat' split
    all_goals first | omega | exact h
theorem cmps_neg : ∀ a b : List T, T.cmps a b = -(T.cmps b a)
  | [], [] => rfl
  | [], _ :: _ => rfl
  | _ :: _, [] => rfl
  | x :: xs, y :: ys => by
    have h1 := cmp_neg x y
    have h2 := cmps_neg xs ys
    simp only [T.cmps]
    repeat' split
    all_goals omega
end
end Go.Proofs.Ytficfeekkljoeaa.VS
namespace Go.Proofs.Ytficfeekkljoeaa.VS
set_option linter.unusedVariables false
set_option linter.unusedSimpArgs false
/-! ## Rows of whole numbers that lie in boxes: marks -/
def mk : Nat → Nat → List Int
  | 0, _ => []
  | n + 1, k => (k : Int) :: mk n (k + 1)
theorem frzC_d (B : Boxs) (n : Nat) (v : DV) : AV.frzC B n (.d v) = some v := by cases n <;> simp only [AV.frzC]
end Go.Proofs.Ytficfeekkljoeaa.VS
namespace Go.Proofs.Ytficfeekkljoeaa.VS
set_option linter.unusedVariables false
set_option linter.unusedSimpArgs false
/-! ## Terms that lie in boxes: marks -/
mutual
/-- How many boxes a term's rows take. -/
def T.nb : T → Nat
  | .node _ _ [] => 0
  | .node _ _ (t :: r) => T.nbs (t :: r) + 1
def T.nbs : List T → Nat
  | [] => 0
  | t :: r => t.nb + T.nbs r
end
def rowN (ks : List T) : Nat := if ks = [] then 0 else T.nbs ks + 1
theorem nb_node (f v : Int) (ks : List T) : (T.node f v ks).nb = rowN ks := by cases ks <;> simp [T.nb, rowN]
def tRow (b : Nat) (ks : List T) : AV := if ks = [] then .d (terms .sub []) else .tsl true (b + T.nbs ks) 3 ks.length
def tCells (b : Nat) : List T → List AV
  | [] => []
  | .node f v ks :: r => .d (.int .i64 f) :: .d (.int .i64 v) :: tRow b ks :: tCells (b + rowN ks) r
mutual
def T.bx (b : Nat) : T → Boxs
  | .node _ _ [] => []
  | .node _ _ (t :: r) => T.bxs b (t :: r) ++ [some (tCells b (t :: r))]
def T.bxs (b : Nat) : List T → Boxs
  | [] => []
  | t :: r => t.bx b ++ T.bxs (b + t.nb) r
end
def bRow (b : Nat) (ks : List T) : Boxs := if ks = [] then [] else T.bxs b ks ++ [some (tCells b ks)]
theorem bx_node (b : Nat) (f v : Int) (ks : List T) : (T.node f v ks).bx b = bRow b ks := by cases ks <;> simp [T.bx, bRow]
mutual
theorem bx_len : ∀ (t : T) (b : Nat), (t.bx b).length = t.nb
  | .node _ _ [], b => rfl
  | .node _ _ (t :: r), b => by simp [T.bx, T.nb, bxs_len (t :: r) b]
theorem bxs_len : ∀ (l : List T) (b : Nat), (T.bxs b l).length = T.nbs l
  | [], b => rfl
  | t :: r, b => by simp [T.bxs, T.nbs, bx_len t b, bxs_len r (b + t.nb)]
end
theorem bRow_len (b : Nat) (ks : List T) : (bRow b ks).length = rowN ks := by unfold bRow rowN; split <;> simp [bxs_len]
theorem tCells_len : ∀ (l : List T) (b : Nat), (tCells b l).length = 3 * l.length
  | [], b => rfl
  | .node f v ks :: r, b => by simp [tCells, tCells_len r]; omega
theorem nbs_append : ∀ (a c : List T), T.nbs (a ++ c) = T.nbs a + T.nbs c
  | [], c => by simp [T.nbs]
  | t :: r, c => by simp [T.nbs, nbs_append r c]; omega
theorem tCells_append : ∀ (a c : List T) (b : Nat), tCells b (a ++ c) = tCells b a ++ tCells (b + T.nbs a) c
  | [], c, b => by simp [tCells, T.nbs]
  | .node f v ks :: r, c, b => by simp [tCells, tCells_append r c, T.nbs, nb_node, Nat.add_assoc]
theorem bxs_append : ∀ (a c : List T) (b : Nat), T.bxs b (a ++ c) = T.bxs b a ++ T.bxs (b + T.nbs a) c
  | [], c, b => by simp [T.bxs, T.nbs]
  | t :: r, c, b => by simp [T.bxs, bxs_append r c, T.nbs, Nat.add_assoc]
theorem thws3 (f v : Int) (x : DV) (b : Nat) : thws b [.int .i64 f, .int .i64 v, x] = (.d (.int .i64 f) :: .d (.int .i64 v) :: (thw b x).1, (thw b x).2) := by simp [thws, thw]
mutual
theorem thwT : ∀ (t : T) (b : Nat), thw b (t.enc .sub) = ([.d (.int .i64 t.f), .d (.int .i64 t.v), tRow b t.kids], t.bx b)
  | .node f v [], b => by simp [T.enc_eq, thw, thws, tRow, T.bx, terms]
  | .node f v (t :: r), b => by
    have h := thwsT (t :: r) b
    rw [List.map_cons] at h
    rw [T.enc_eq, T.f_node, T.v_node, T.kids_node]
    show thws b [.int .i64 f, .int .i64 v, .sl .sub (t.enc .sub :: r.map (T.enc .sub))] = _
    have hx : thw b (.sl .sub (t.enc .sub :: r.map (T.enc .sub))) = ([tRow b (t :: r)], T.bxs b (t :: r) ++ [some (tCells b (t :: r))]) := by
      simp only [thw]
      rw [h]
      have hl := bxs_len (t :: r) b
      have h3 : (t.enc .sub).cells.length = 3 := by simp
      have ha : isAgD (t.enc .sub) = true := by rw [T.enc_eq]; rfl
      simp [tRow, hl, h3, ha]
    rw [thws3, hx]
    simp [T.bx]
theorem thwsT : ∀ (l : List T) (b : Nat), thws b (l.map (T.enc .sub)) = (tCells b l, T.bxs b l)
  | [], b => by simp [thws, tCells, T.bxs]
  | .node f v ks :: r, b => by
    have h1 := thwT (.node f v ks) b
    have h2 := thwsT r (b + (T.node f v ks).nb)
    rw [List.map_cons]
    simp only [thws]
    rw [h1]
    simp only [bx_len]
    rw [h2]
    simp [tCells, T.bxs, nb_node]
end
theorem thaw_term (t : T) (b : Nat) : (t.enc .sub).thaw b = (.ag false [.d (.int .i64 t.f), .d (.int .i64 t.v), tRow b t.kids], bRow b t.kids) := by
  have h := thwT t b
  obtain ⟨f, v, ks⟩ := t
  rw [bx_node] at h
  rw [T.enc_eq] at h ⊢
  simp only [DV.thaw, thawOne]
  simp only [thw] at h
  rw [h]
  rfl
theorem clr_tRow (b : Nat) (ks : List T) : (tRow b ks).clr = tRow b ks := by
  unfold tRow; split
  · simp [terms, AV.clr, DV.clr, DV.clrs]
  · simp only [AV.clr]
theorem safe_tRow (m b : Nat) (ks : List T) (h : b + rowN ks ≤ m) : (tRow b ks).safe m = true := by
  unfold tRow rowN at *
  by_cases hl : ks = []
  · rw [if_pos hl]; exact safe_d _ _
  · rw [if_neg hl] at h ⊢; rw [safe_tsl]; simp; omega
theorem isCell_tRow (b : Nat) (ks : List T) : (tRow b ks).isCell = true := by
  unfold tRow; split <;> rfl
theorem plain_tRow (b : Nat) (ks : List T) : (tRow b ks).plainT = true := by
  unfold tRow; split
  · simp [terms, AV.plainT]
  · rfl
/-! ### Marks -/
def cnts (l : List T) : Nat := l.length + T.inners l
theorem cnts_kids (t : T) : cnts t.kids = t.inner := by cases t; simp [cnts, T.inner]
theorem inners_append : ∀ (a c : List T), T.inners (a ++ c) = T.inners a + T.inners c
  | [], c => by simp [T.inners]
  | t :: r, c => by simp [T.inners, inners_append r c]; omega
theorem cnts_snoc (l : List T) (t : T) : cnts (l ++ [t]) = cnts l + (t.inner + 1) := by
  unfold cnts; rw [inners_append]; simp [T.inners]; omega
theorem cnts_cons (t : T) (l : List T) : cnts (t :: l) = (t.inner + 1) + cnts l := by unfold cnts; simp [T.inners]; omega
mutual
def T.mark (k : Nat) : T → T
  | .node _ _ ks => .node (k : Int) ((k + 1 : Nat) : Int) (T.marks (k + 2) ks)
def T.marks (k : Nat) : List T → List T
  | [] => []
  | t :: r => t.mark k :: T.marks (k + 2 * (t.inner + 1)) r
end
theorem marks_len : ∀ (l : List T) (k : Nat), (T.marks k l).length = l.length
  | [], k => by simp [T.marks]
  | t :: r, k => by simp [T.marks, marks_len r]
mutual
theorem nb_mark : ∀ (t : T) (k : Nat), (t.mark k).nb = t.nb
  | .node f v [], k => by simp [T.mark, T.marks, T.nb]
  | .node f v (t :: r), k => by
    have := nbs_marks (t :: r) (k + 2)
    simp only [T.marks] at this
    simp only [T.mark, T.marks, T.nb, this]
theorem nbs_marks : ∀ (l : List T) (k : Nat), T.nbs (T.marks k l) = T.nbs l
  | [], k => by simp [T.marks]
  | t :: r, k => by simp only [T.marks, T.nbs, nb_mark t k, nbs_marks r]
end
theorem marks_nil (l : List T) (k : Nat) : (T.marks k l = []) ↔ l = [] := by cases l <;> simp [T.marks]
theorem rowN_marks (l : List T) (k : Nat) : rowN (T.marks k l) = rowN l := by unfold rowN; simp only [marks_nil, nbs_marks]
theorem tRow_marks (b k : Nat) (l : List T) : tRow b (T.marks k l) = tRow b l := by
  unfold tRow; simp only [marks_nil, nbs_marks, marks_len]
theorem marks_snoc : ∀ (l : List T) (k : Nat) (t : T), T.marks k (l ++ [t]) = T.marks k l ++ [t.mark (k + 2 * cnts l)]
  | [], k, t => by simp [T.marks, cnts, T.inners]
  | a :: r, k, t => by
    simp only [List.cons_append, T.marks, marks_snoc r, cnts_cons]
    rw [show k + 2 * (a.inner + 1) + 2 * cnts r = k + 2 * (a.inner + 1 + cnts r) by omega]
/-- Marked up to i. -/
def upT (ks : List T) (k i : Nat) : List T := T.marks k (ks.take i) ++ ks.drop i
theorem upT_zero (ks : List T) (k : Nat) : upT ks k 0 = ks := by simp [upT, T.marks]
theorem upT_all (ks : List T) (k : Nat) : upT ks k ks.length = T.marks k ks := by simp [upT]
theorem upT_nbs (ks : List T) (k i : Nat) : T.nbs (upT ks k i) = T.nbs ks := by
  unfold upT; rw [nbs_append, nbs_marks, ← nbs_append, List.take_append_drop]
theorem upT_at (ks : List T) (k i : Nat) (hi : i < ks.length) : upT ks k i = T.marks k (ks.take i) ++ tAt ks i :: ks.drop (i + 1) := by
  unfold upT; rw [List.drop_eq_getElem_cons hi, tAt_lt hi]
theorem take_snoc (ks : List T) (i : Nat) (hi : i < ks.length) : ks.take (i + 1) = ks.take i ++ [tAt ks i] := by
  rw [← tAt_lt hi, List.take_append_getElem hi]
theorem upT_next (ks : List T) (k i : Nat) (hi : i < ks.length) : upT ks k (i + 1) = T.marks k (ks.take i) ++ (tAt ks i).mark (k + 2 * cnts (ks.take i)) :: ks.drop (i + 1) := by
  unfold upT; rw [take_snoc ks i hi, marks_snoc]; simp
theorem cnts_take (ks : List T) (i : Nat) (hi : i < ks.length) : cnts (ks.take (i + 1)) = cnts (ks.take i) + ((tAt ks i).inner + 1) := by rw [take_snoc ks i hi, cnts_snoc]
theorem cnts_le (ks : List T) (i : Nat) : cnts (ks.take i) ≤ cnts ks := by
  have h : cnts (ks.take i ++ ks.drop i) = cnts (ks.take i) + cnts (ks.drop i) := by unfold cnts; rw [inners_append]; simp; omega
  rw [List.take_append_drop] at h; omega
/-! ### One round of the marks -/
theorem spA (A r : List AV) (y x : AV) : splice (A ++ y :: r) A.length [x] = A ++ x :: r := by unfold splice; simp
theorem sp0 (C1 C2 : List AV) (f x : AV) (i : Nat) (h : C1.length = i * 3) : splice (C1 ++ f :: C2) (i * 3) [x] = C1 ++ x :: C2 := by
  rw [← h]; exact spA C1 C2 f x
theorem sp1 (C1 C2 : List AV) (f v x : AV) (i : Nat) (h : C1.length = i * 3) : splice (C1 ++ f :: v :: C2) (i * 3 + 1) [x] = C1 ++ f :: x :: C2 := by
  have := spA (C1 ++ [f]) C2 v x
  simp only [List.length_append, List.length_cons, List.length_nil, List.append_assoc, List.cons_append, List.nil_append, Nat.zero_add] at this
  rw [← h]; exact this
theorem ga0 (C1 C2 : List AV) (f : AV) (i : Nat) (h : C1.length = i * 3) : (C1 ++ f :: C2)[i * 3]? = some f := by rw [← h]; simp
theorem ga1 (C1 C2 : List AV) (f v : AV) (i : Nat) (h : C1.length = i * 3) : (C1 ++ f :: v :: C2)[i * 3 + 1]? = some v := by
  rw [← h, List.getElem?_append_right (by omega)]; simp
theorem ga2 (C1 C2 : List AV) (f v r : AV) (i : Nat) (h : C1.length = i * 3) : (C1 ++ f :: v :: r :: C2)[i * 3 + 2]? = some r := by
  rw [← h, List.getElem?_append_right (by omega)]; simp
theorem markStep (S S' B1 : Boxs) (ix n i : Nat) (K0 K1 K2 Kn : Int) (C1 C2 : List AV) (f v row : AV) (hS : S.length = ix) (hS' : S'.length = ix) (hi : i < n) (hn : n ≤ 1099511627776) (hC : C1.length = i * 3) (hw1 : IntKind.i64.wrap (K0 + 1) = K1) (hw2 : IntKind.i64.wrap (K1 + 1) = K2) (hrow : row.clr = row)
    (hcall : callX XV 244 [row, .d (.int .i64 K2)] (S ++ some (C1 ++ .d (.int .i64 K0) :: .d (.int .i64 K1) :: row :: C2) :: B1) = some (.d (.int .i64 Kn), S' ++ some (C1 ++ .d (.int .i64 K0) :: .d (.int .i64 K1) :: row :: C2) :: B1)) :
    codeX XV (XV.lin 244) b244_0 ⟨[(0, .tsl true ix 3 n), (1, .d (.int .i64 K0)), (5, .d (.int .i64 (i : Int)))], S ++ some (C1 ++ f :: v :: row :: C2) :: B1⟩ =
      some (.normal, ⟨[(0, .tsl true ix 3 n), (1, .d (.int .i64 Kn)), (5, .d (.int .i64 ((i + 1 : Nat) : Int)))], S' ++ some (C1 ++ .d (.int .i64 K0) :: .d (.int .i64 K1) :: row :: C2) :: B1⟩) := by
  have hw := wrap_succ (n := i) (by omega)
  have hget : ∀ (c : List AV) (r : Boxs), (S ++ some c :: r)[ix]? = some (some c) := fun c r => by rw [← hS]; exact get_at S (some c) r
  have hset : ∀ (c d : List AV) (r : Boxs), (S ++ some c :: r).set ix (some d) = S ++ some d :: r := fun c d r => by rw [← hS]; exact set_at S (some c) (some d) r
  have s0 := fun x => sp0 C1 (v :: row :: C2) f x i hC
  have s1 := fun a x => sp1 C1 (row :: C2) a v x i hC
  have g2 := fun a b => ga2 C1 C2 a b row i hC
  have le0 : i * 3 + 1 ≤ C1.length + (C2.length + 1 + 1 + 1) := by omega
  have le1 : i * 3 + 1 + 1 ≤ C1.length + (C2.length + 1 + 1 + 1) := by omega
  simp [b244_0, r244_0, r244_1, r244_2, r244_4, r244_5, r244_6, r244_7, r244_8, r244_3, r244_9, hi, hw, hw1, hw2, hget, hset, s0, s1, g2, le0, le1, hrow, hcall]
theorem bxs_mid (M R : List T) (t : T) (b : Nat) : T.bxs b (M ++ t :: R) = T.bxs b M ++ (bRow (b + T.nbs M) t.kids ++ T.bxs (b + T.nbs M + rowN t.kids) R) := by
  obtain ⟨f, v, kk⟩ := t
  rw [bxs_append]; simp [T.bxs, bx_node, nb_node]
theorem tCells_mid (M R : List T) (t : T) (b : Nat) : tCells b (M ++ t :: R) = tCells b M ++ .d (.int .i64 t.f) :: .d (.int .i64 t.v) :: tRow (b + T.nbs M) t.kids :: tCells (b + T.nbs M + rowN t.kids) R := by
  obtain ⟨f, v, kk⟩ := t
  rw [tCells_append]; simp [tCells]
theorem mark_f (t : T) (k : Nat) : (t.mark k).f = (k : Int) := by cases t; simp [T.mark]
theorem mark_v (t : T) (k : Nat) : (t.mark k).v = ((k + 1 : Nat) : Int) := by cases t; simp [T.mark]
theorem mark_kids (t : T) (k : Nat) : (t.mark k).kids = T.marks (k + 2) t.kids := by cases t; simp [T.mark]
theorem tRow_cons (b : Nat) (ks : List T) (h : ks ≠ []) : tRow b ks = .tsl true (b + T.nbs ks) 3 ks.length := by unfold tRow; rw [if_neg h]
theorem bRow_cons (b : Nat) (ks : List T) (h : ks ≠ []) : bRow b ks = T.bxs b ks ++ [some (tCells b ks)] := by unfold bRow; rw [if_neg h]
theorem markRow_of (ks : List T) (hl : ks.length ≤ 1099511627776) (hrec : ∀ t, t ∈ ks → ∀ (k : Nat), k + 2 * t.inner ≤ 4611686018427387904 → ∀ (B0 B1 : Boxs), callX XV 244 [tRow B0.length t.kids, .d (.int .i64 (k : Int))] (B0 ++ bRow B0.length t.kids ++ B1) = some (.d (.int .i64 ((k + 2 * t.inner : Nat) : Int)), B0 ++ bRow B0.length (T.marks k t.kids) ++ B1))
    (k : Nat) (hk : k + 2 * cnts ks ≤ 4611686018427387904) (B0 B1 : Boxs) :
    callX XV 244 [tRow B0.length ks, .d (.int .i64 (k : Int))] (B0 ++ bRow B0.length ks ++ B1) = some (.d (.int .i64 ((k + 2 * cnts ks : Nat) : Int)), B0 ++ bRow B0.length (T.marks k ks) ++ B1) := by
  rw [z_call XV _ _ _ v244 rfl xcode_244 rfl]
  by_cases hne : ks = []
  · subst hne
    have h := loopX_upto (X := XV) (T := XV.lin 244) (L := (B0 ++ B1).length) (live := [0, 1, 5]) (b := b244_0) (n := 0) (β := Unit) (γ := Unit) (st := fun _ i => ⟨[(0, .d (.sl .sub [])), (1, .d (.int .i64 k)), (5, .d (.int .i64 i))], B0 ++ B1⟩) (step := fun _ _ => .inl ())
      (F := fun _ => (.exit 0, ⟨[(0, .d (.sl .sub [])), (1, .d (.int .i64 k)), (5, .d (.int .i64 0)), (9, .d (.bool false))], B0 ++ B1⟩)) (R := fun _ => (.ret, ⟨[], []⟩)) (fun a => ⟨by simp, by simp [b244_0, r244_0, r244_1, r244_2, r244_4, r244_5, r244_6, r244_7, r244_8, r244_3, r244_9]⟩) (fun a i hi => by omega) 0 () 0 ⟨[(0, .d (.sl .sub [])), (1, .d (.int .i64 k)), (5, .d (.int .i64 0))], B0 ++ B1⟩ rfl (head_cut (e := []) (by simp) (by simp [safeRegs]) rfl (by simp))
    simp only [runN, List.length_append, lin_244] at h
    have htk : List.take (B0.length + B1.length) (B0 ++ B1) = B0 ++ B1 := List.take_of_length_le (by simp)
    simp [tRow, bRow, T.marks, cnts, T.inners, terms, v244, r244_0, r244_1, r244_2, r244_4, r244_5, r244_6, r244_7, r244_8, r244_3, r244_9]
    rw [h]
    simp [htk, v244, r244_0, r244_1, r244_2, r244_4, r244_5, r244_6, r244_7, r244_8, r244_3, r244_9]
  · have hmn : T.marks k ks ≠ [] := fun h => hne ((marks_nil ks k).1 h)
    rw [tRow_cons _ _ hne, bRow_cons _ _ hne, bRow_cons _ _ hmn]
    have hlen : ∀ i, (B0 ++ T.bxs B0.length (upT ks k i)).length = B0.length + T.nbs ks := fun i => by rw [List.length_append, bxs_len, upT_nbs]
    have h := loopX_upto (X := XV) (T := XV.lin 244) (L := B0.length + T.nbs ks + (B1.length + 1)) (live := [0, 1, 5]) (b := b244_0) (n := ks.length) (γ := Unit) (st := fun (_ : Unit) i => ⟨[(0, .tsl true (B0.length + T.nbs ks) 3 ks.length), (1, .d (.int .i64 ((k + 2 * cnts (ks.take i) : Nat) : Int))), (5, .d (.int .i64 i))], (B0 ++ T.bxs B0.length (upT ks k i)) ++ some (tCells B0.length (upT ks k i)) :: B1⟩) (step := fun _ _ => .inl ())
      (F := fun _ => (.exit 0, ⟨[(0, .tsl true (B0.length + T.nbs ks) 3 ks.length), (1, .d (.int .i64 ((k + 2 * cnts ks : Nat) : Int))), (5, .d (.int .i64 ks.length)), (9, .d (.bool false))], (B0 ++ T.bxs B0.length (upT ks k ks.length)) ++ some (tCells B0.length (upT ks k ks.length)) :: B1⟩)) (R := fun _ => (.ret, ⟨[], []⟩))
      (fun _ => ⟨by simp, by rw [List.take_length]; generalize ((k + 2 * cnts ks : Nat) : Int) = K; simp [b244_0, r244_0, r244_1, r244_2, r244_4, r244_5, r244_6, r244_7, r244_8, r244_3, r244_9]⟩)
      (fun _ i hi => by
        have hkt : k + 2 * cnts (ks.take (i + 1)) ≤ 4611686018427387904 := by have := cnts_le ks (i + 1); omega
        have hct := cnts_take ks i hi
        have hr := hrec _ (tAt_mem hi) (k + 2 * cnts (ks.take i) + 2) (by omega) (B0 ++ T.bxs B0.length (T.marks k (ks.take i))) (T.bxs (B0.length + T.nbs (T.marks k (ks.take i)) + rowN (tAt ks i).kids) (ks.drop (i + 1)) ++ some (tCells B0.length (upT ks k (i + 1))) :: B1)
        have hl0 : (B0 ++ T.bxs B0.length (T.marks k (ks.take i))).length = B0.length + T.nbs (T.marks k (ks.take i)) := by rw [List.length_append, bxs_len]
        rw [hl0] at hr
        have e1 := upT_at ks k i hi
        have e2 := upT_next ks k i hi
        have c1 := tCells_mid (T.marks k (ks.take i)) (ks.drop (i + 1)) (tAt ks i) B0.length
        have c2 := tCells_mid (T.marks k (ks.take i)) (ks.drop (i + 1)) ((tAt ks i).mark (k + 2 * cnts (ks.take i))) B0.length
        have b1 := bxs_mid (T.marks k (ks.take i)) (ks.drop (i + 1)) (tAt ks i) B0.length
        have b2 := bxs_mid (T.marks k (ks.take i)) (ks.drop (i + 1)) ((tAt ks i).mark (k + 2 * cnts (ks.take i))) B0.length
        rw [mark_kids, rowN_marks] at b2
        rw [mark_f, mark_v, mark_kids, rowN_marks, tRow_marks] at c2
        rw [← e1] at c1 b1
        rw [← e2] at c2 b2
        have hS : (B0 ++ T.bxs B0.length (T.marks k (ks.take i))) ++ bRow (B0.length + T.nbs (T.marks k (ks.take i))) (tAt ks i).kids ++ (T.bxs (B0.length + T.nbs (T.marks k (ks.take i)) + rowN (tAt ks i).kids) (ks.drop (i + 1)) ++ some (tCells B0.length (upT ks k (i + 1))) :: B1) = (B0 ++ T.bxs B0.length (upT ks k i)) ++ some (tCells B0.length (upT ks k (i + 1))) :: B1 := by rw [b1]; simp
        have hS' : (B0 ++ T.bxs B0.length (T.marks k (ks.take i))) ++ bRow (B0.length + T.nbs (T.marks k (ks.take i))) (T.marks (k + 2 * cnts (ks.take i) + 2) (tAt ks i).kids) ++ (T.bxs (B0.length + T.nbs (T.marks k (ks.take i)) + rowN (tAt ks i).kids) (ks.drop (i + 1)) ++ some (tCells B0.length (upT ks k (i + 1))) :: B1) = (B0 ++ T.bxs B0.length (upT ks k (i + 1))) ++ some (tCells B0.length (upT ks k (i + 1))) :: B1 := by rw [b2]; simp
        rw [hS, hS'] at hr
        rw [show k + 2 * cnts (ks.take i) + 2 + 2 * (tAt ks i).inner = k + 2 * cnts (ks.take (i + 1)) by omega] at hr
        rw [c2] at hr
        have hst := markStep (B0 ++ T.bxs B0.length (upT ks k i)) (B0 ++ T.bxs B0.length (upT ks k (i + 1))) B1 (B0.length + T.nbs ks) ks.length i ((k + 2 * cnts (ks.take i) : Nat) : Int) ((k + 2 * cnts (ks.take i) + 1 : Nat) : Int) ((k + 2 * cnts (ks.take i) + 2 : Nat) : Int) ((k + 2 * cnts (ks.take (i + 1)) : Nat) : Int)
          (tCells B0.length (T.marks k (ks.take i))) (tCells (B0.length + T.nbs (T.marks k (ks.take i)) + rowN (tAt ks i).kids) (ks.drop (i + 1))) (.d (.int .i64 (tAt ks i).f)) (.d (.int .i64 (tAt ks i).v)) (tRow (B0.length + T.nbs (T.marks k (ks.take i))) (tAt ks i).kids) (hlen i) (hlen (i + 1)) hi hl
          (by rw [tCells_len, marks_len, List.length_take]; omega) (wrap_succ (by omega)) (wrap_succ (by omega)) (clr_tRow _ _) hr
        rw [← c1, ← c2] at hst
        exact ⟨_, hst, head_cut (e := []) (by simp) (by simp [safeRegs, safe_tsl]) (by rw [List.length_append, hlen]; simp) (by simp)⟩)
      ks.length () 0 ⟨[(0, .tsl true (B0.length + T.nbs ks) 3 ks.length), (1, .d (.int .i64 (k : Int))), (5, .d (.int .i64 0))], (B0 ++ T.bxs B0.length ks) ++ some (tCells B0.length ks) :: B1⟩ (by omega) (head_cut (e := []) (by simp [cnts, T.inners]) (by simp [safeRegs, safe_tsl]) (by rw [upT_zero, List.length_append, List.length_append, bxs_len]; simp) (by simp [upT_zero]))
    rw [run_on, upT_all] at h
    simp only [lin_244] at h
    have hln : (B0 ++ T.bxs B0.length ks ++ [some (tCells B0.length ks)] ++ B1).length = B0.length + T.nbs ks + (B1.length + 1) := by simp [bxs_len]; omega
    have hap : ∀ (X : Boxs) (c : List AV), B0 ++ (X ++ [some c]) ++ B1 = (B0 ++ X) ++ some c :: B1 := fun X c => by simp
    have hln2 : ((B0 ++ T.bxs B0.length ks) ++ some (tCells B0.length ks) :: B1).length = B0.length + T.nbs ks + (B1.length + 1) := by simp [bxs_len]; omega
    rw [hap, hap]
    have hln3 : ((B0 ++ T.bxs B0.length (T.marks k ks)) ++ some (tCells B0.length (T.marks k ks)) :: B1).length = B0.length + T.nbs ks + (B1.length + 1) := by simp [bxs_len, nbs_marks]; omega
    generalize hQ : (B0 ++ T.bxs B0.length ks) ++ some (tCells B0.length ks) :: B1 = Q at h hln2 ⊢
    generalize hQ' : (B0 ++ T.bxs B0.length (T.marks k ks)) ++ some (tCells B0.length (T.marks k ks)) :: B1 = Q' at h hln3 ⊢
    generalize ((k + 2 * cnts ks : Nat) : Int) = Kn at h ⊢
    rw [← hln2] at h
    have htk : List.take Q.length Q' = Q' := List.take_of_length_le (by omega)
    simp [v244, r244_0, r244_1, r244_2, r244_4, r244_5, r244_6, r244_7, r244_8, r244_3, r244_9]
    rw [h]
    simp [v244, r244_0, r244_1, r244_2, r244_4, r244_5, r244_6, r244_7, r244_8, r244_3, r244_9, htk]
theorem markRow_eq (ks : List T) (hl : cnts ks ≤ 1099511627776) (k : Nat) (hk : k + 2 * cnts ks ≤ 4611686018427387904) (B0 B1 : Boxs) :
    callX XV 244 [tRow B0.length ks, .d (.int .i64 (k : Int))] (B0 ++ bRow B0.length ks ++ B1) = some (.d (.int .i64 ((k + 2 * cnts ks : Nat) : Int)), B0 ++ bRow B0.length (T.marks k ks) ++ B1) :=
  markRow_of ks (by unfold cnts at hl; omega) (fun t ht k hk B0 B1 => by
    have hin := T.inners_mem ht
    have hct : cnts t.kids ≤ 1099511627776 := by rw [cnts_kids]; unfold cnts at hl; omega
    have := markRow_eq t.kids hct k (by rw [cnts_kids]; exact hk) B0 B1
    rw [cnts_kids] at this; exact this) k hk B0 B1
termination_by SizeOf.sizeOf ks
decreasing_by
  have h1 := List.sizeOf_lt_of_mem ht
  have h2 : SizeOf.sizeOf t.kids < SizeOf.sizeOf t := by cases t; simp [T.kids]; omega
  omega
end Go.Proofs.Ytficfeekkljoeaa.VS
namespace Go.Proofs.Ytficfeekkljoeaa.VS
set_option linter.unusedVariables false
set_option linter.unusedSimpArgs false
/-! ## Terms that lie in boxes: what is held; how they are lent -/
theorem heldStep (S B1 : Boxs) (ix n i : Nat) (K0 K1 K2 Kn : Int) (C1 C2 : List AV) (row : AV) (hS : S.length = ix) (hi : i < n) (hn : n ≤ 1099511627776) (hC : C1.length = i * 3) (hw1 : IntKind.i64.wrap (K0 + 1) = K1) (hw2 : IntKind.i64.wrap (K1 + 1) = K2) (hrow : row.clr = row) (hKn : ¬ Kn < 0)
    (hcall : callX XV 292 [row, .d (.int .i64 K2)] (S ++ some (C1 ++ .d (.int .i64 K0) :: .d (.int .i64 K1) :: row :: C2) :: B1) = some (.d (.int .i64 Kn), S ++ some (C1 ++ .d (.int .i64 K0) :: .d (.int .i64 K1) :: row :: C2) :: B1)) :
    codeX XV (XV.lin 292) b292_0 ⟨[(0, .tsl true ix 3 n), (1, .d (.int .i64 K0)), (5, .d (.int .i64 (i : Int)))], S ++ some (C1 ++ .d (.int .i64 K0) :: .d (.int .i64 K1) :: row :: C2) :: B1⟩ =
      some (.normal, ⟨[(0, .tsl true ix 3 n), (1, .d (.int .i64 Kn)), (5, .d (.int .i64 ((i + 1 : Nat) : Int)))], S ++ some (C1 ++ .d (.int .i64 K0) :: .d (.int .i64 K1) :: row :: C2) :: B1⟩) := by
  have hw := wrap_succ (n := i) (by omega)
  have hget : ∀ (c : List AV) (r : Boxs), (S ++ some c :: r)[ix]? = some (some c) := fun c r => by rw [← hS]; exact get_at S (some c) r
  have g0 := fun a => ga0 C1 (.d (.int .i64 K1) :: row :: C2) a i hC
  have g1 := fun a b => ga1 C1 (row :: C2) a b i hC
  have g2 := fun a b => ga2 C1 C2 a b row i hC
  simp [b292_0, r292_0, r292_1, r292_2, r292_4, r292_5, r292_6, r292_7, r292_8, r292_9, r292_10, r292_11, r292_12, r292_3, r292_13, hi, hw, hw1, hw2, hget, g0, g1, g2, hrow, hKn, hcall]
theorem marks_append : ∀ (a c : List T) (k : Nat), T.marks k (a ++ c) = T.marks k a ++ T.marks (k + 2 * cnts a) c
  | [], c, k => by simp [T.marks, cnts, T.inners]
  | t :: r, c, k => by
    simp only [List.cons_append, T.marks, marks_append r, cnts_cons]
    rw [show k + 2 * (t.inner + 1) + 2 * cnts r = k + 2 * (t.inner + 1 + cnts r) by omega]
theorem heldRow_of (ks : List T) (hl : ks.length ≤ 1099511627776) (hrec : ∀ t, t ∈ ks → ∀ (k : Nat), k + 2 * t.inner ≤ 4611686018427387904 → ∀ (B0 B1 : Boxs), callX XV 292 [tRow B0.length t.kids, .d (.int .i64 (k : Int))] (B0 ++ bRow B0.length (T.marks k t.kids) ++ B1) = some (.d (.int .i64 ((k + 2 * t.inner : Nat) : Int)), B0 ++ bRow B0.length (T.marks k t.kids) ++ B1))
    (k : Nat) (hk : k + 2 * cnts ks ≤ 4611686018427387904) (B0 B1 : Boxs) :
    callX XV 292 [tRow B0.length ks, .d (.int .i64 (k : Int))] (B0 ++ bRow B0.length (T.marks k ks) ++ B1) = some (.d (.int .i64 ((k + 2 * cnts ks : Nat) : Int)), B0 ++ bRow B0.length (T.marks k ks) ++ B1) := by
  rw [z_call XV _ _ _ v292 rfl xcode_292 rfl]
  by_cases hne : ks = []
  · subst hne
    have h := loopX_upto (X := XV) (T := XV.lin 292) (L := (B0 ++ B1).length) (live := [0, 1, 5]) (b := b292_0) (n := 0) (β := Unit) (γ := Unit) (st := fun _ i => ⟨[(0, .d (.sl .sub [])), (1, .d (.int .i64 k)), (5, .d (.int .i64 i))], B0 ++ B1⟩) (step := fun _ _ => .inl ())
      (F := fun _ => (.exit 0, ⟨[(0, .d (.sl .sub [])), (1, .d (.int .i64 k)), (5, .d (.int .i64 0)), (9, .d (.bool false))], B0 ++ B1⟩)) (R := fun _ => (.ret, ⟨[], []⟩)) (fun a => ⟨by simp, by simp [b292_0, r292_0, r292_1, r292_2, r292_4, r292_5, r292_6, r292_7, r292_8, r292_9, r292_10, r292_11, r292_12, r292_3, r292_13]⟩) (fun a i hi => by omega) 0 () 0 ⟨[(0, .d (.sl .sub [])), (1, .d (.int .i64 k)), (5, .d (.int .i64 0))], B0 ++ B1⟩ rfl (head_cut (e := []) (by simp) (by simp [safeRegs]) rfl (by simp))
    simp only [runN, List.length_append, lin_292] at h
    have htk : List.take (B0.length + B1.length) (B0 ++ B1) = B0 ++ B1 := List.take_of_length_le (by simp)
    simp [tRow, bRow, T.marks, cnts, T.inners, terms, v292, r292_0, r292_1, r292_2, r292_4, r292_5, r292_6, r292_7, r292_8, r292_9, r292_10, r292_11, r292_12, r292_3, r292_13]
    rw [h]
    simp [htk, v292, r292_0, r292_1, r292_2, r292_4, r292_5, r292_6, r292_7, r292_8, r292_9, r292_10, r292_11, r292_12, r292_3, r292_13]
  · have hmn : T.marks k ks ≠ [] := fun h => hne ((marks_nil ks k).1 h)
    rw [tRow_cons _ _ hne, bRow_cons _ _ hmn]
    have hlen : (B0 ++ T.bxs B0.length (T.marks k ks)).length = B0.length + T.nbs ks := by rw [List.length_append, bxs_len, nbs_marks]
    have h := loopX_upto (X := XV) (T := XV.lin 292) (L := B0.length + T.nbs ks + (B1.length + 1)) (live := [0, 1, 5]) (b := b292_0) (n := ks.length) (γ := Unit) (st := fun (_ : Unit) i => ⟨[(0, .tsl true (B0.length + T.nbs ks) 3 ks.length), (1, .d (.int .i64 ((k + 2 * cnts (ks.take i) : Nat) : Int))), (5, .d (.int .i64 i))], (B0 ++ T.bxs B0.length (T.marks k ks)) ++ some (tCells B0.length (T.marks k ks)) :: B1⟩) (step := fun _ _ => .inl ())
      (F := fun _ => (.exit 0, ⟨[(0, .tsl true (B0.length + T.nbs ks) 3 ks.length), (1, .d (.int .i64 ((k + 2 * cnts ks : Nat) : Int))), (5, .d (.int .i64 ks.length)), (9, .d (.bool false))], (B0 ++ T.bxs B0.length (T.marks k ks)) ++ some (tCells B0.length (T.marks k ks)) :: B1⟩)) (R := fun _ => (.ret, ⟨[], []⟩))
      (fun _ => ⟨by simp, by rw [List.take_length]; generalize ((k + 2 * cnts ks : Nat) : Int) = K; simp [b292_0, r292_0, r292_1, r292_2, r292_4, r292_5, r292_6, r292_7, r292_8, r292_9, r292_10, r292_11, r292_12, r292_3, r292_13]⟩)
      (fun _ i hi => by
        have hkt : k + 2 * cnts (ks.take (i + 1)) ≤ 4611686018427387904 := by have := cnts_le ks (i + 1); omega
        have hct := cnts_take ks i hi
        have hsp : T.marks k ks = T.marks k (ks.take i) ++ (tAt ks i).mark (k + 2 * cnts (ks.take i)) :: T.marks (k + 2 * cnts (ks.take (i + 1))) (ks.drop (i + 1)) := by
          have : ks = ks.take (i + 1) ++ ks.drop (i + 1) := (List.take_append_drop _ _).symm
          rw [this, marks_append, take_snoc ks i hi, marks_snoc]
          rw [← take_snoc ks i hi, ← this]; simp
        have hr := hrec _ (tAt_mem hi) (k + 2 * cnts (ks.take i) + 2) (by omega) (B0 ++ T.bxs B0.length (T.marks k (ks.take i))) (T.bxs (B0.length + T.nbs (T.marks k (ks.take i)) + rowN (tAt ks i).kids) (T.marks (k + 2 * cnts (ks.take (i + 1))) (ks.drop (i + 1))) ++ some (tCells B0.length (T.marks k ks)) :: B1)
        have hl0 : (B0 ++ T.bxs B0.length (T.marks k (ks.take i))).length = B0.length + T.nbs (T.marks k (ks.take i)) := by rw [List.length_append, bxs_len]
        rw [hl0] at hr
        have c2 := tCells_mid (T.marks k (ks.take i)) (T.marks (k + 2 * cnts (ks.take (i + 1))) (ks.drop (i + 1))) ((tAt ks i).mark (k + 2 * cnts (ks.take i))) B0.length
        have b2 := bxs_mid (T.marks k (ks.take i)) (T.marks (k + 2 * cnts (ks.take (i + 1))) (ks.drop (i + 1))) ((tAt ks i).mark (k + 2 * cnts (ks.take i))) B0.length
        rw [mark_kids, rowN_marks, ← hsp] at b2
        rw [mark_f, mark_v, mark_kids, rowN_marks, tRow_marks, ← hsp] at c2
        have hS' : (B0 ++ T.bxs B0.length (T.marks k (ks.take i))) ++ bRow (B0.length + T.nbs (T.marks k (ks.take i))) (T.marks (k + 2 * cnts (ks.take i) + 2) (tAt ks i).kids) ++ (T.bxs (B0.length + T.nbs (T.marks k (ks.take i)) + rowN (tAt ks i).kids) (T.marks (k + 2 * cnts (ks.take (i + 1))) (ks.drop (i + 1))) ++ some (tCells B0.length (T.marks k ks)) :: B1) = (B0 ++ T.bxs B0.length (T.marks k ks)) ++ some (tCells B0.length (T.marks k ks)) :: B1 := by rw [b2]; simp
        rw [hS'] at hr
        rw [show k + 2 * cnts (ks.take i) + 2 + 2 * (tAt ks i).inner = k + 2 * cnts (ks.take (i + 1)) by omega] at hr
        rw [c2] at hr
        have hst := heldStep (B0 ++ T.bxs B0.length (T.marks k ks)) B1 (B0.length + T.nbs ks) ks.length i ((k + 2 * cnts (ks.take i) : Nat) : Int) ((k + 2 * cnts (ks.take i) + 1 : Nat) : Int) ((k + 2 * cnts (ks.take i) + 2 : Nat) : Int) ((k + 2 * cnts (ks.take (i + 1)) : Nat) : Int)
          (tCells B0.length (T.marks k (ks.take i))) (tCells (B0.length + T.nbs (T.marks k (ks.take i)) + rowN (tAt ks i).kids) (T.marks (k + 2 * cnts (ks.take (i + 1))) (ks.drop (i + 1)))) (tRow (B0.length + T.nbs (T.marks k (ks.take i))) (tAt ks i).kids) hlen hi hl
          (by rw [tCells_len, marks_len, List.length_take]; omega) (wrap_succ (by omega)) (wrap_succ (by omega)) (clr_tRow _ _) (by omega) hr
        rw [← c2] at hst
        exact ⟨_, hst, head_cut (e := []) (by simp) (by simp [safeRegs, safe_tsl]) (by rw [List.length_append, hlen]; simp) (by simp)⟩)
      ks.length () 0 ⟨[(0, .tsl true (B0.length + T.nbs ks) 3 ks.length), (1, .d (.int .i64 (k : Int))), (5, .d (.int .i64 0))], (B0 ++ T.bxs B0.length (T.marks k ks)) ++ some (tCells B0.length (T.marks k ks)) :: B1⟩ (by omega) (head_cut (e := []) (by simp [cnts, T.inners]) (by simp [safeRegs, safe_tsl]) (by rw [List.length_append, hlen]; simp) (by simp))
    rw [run_on] at h
    simp only [lin_292] at h
    have hap : ∀ (X : Boxs) (c : List AV), B0 ++ (X ++ [some c]) ++ B1 = (B0 ++ X) ++ some c :: B1 := fun X c => by simp
    rw [hap]
    have hln3 : ((B0 ++ T.bxs B0.length (T.marks k ks)) ++ some (tCells B0.length (T.marks k ks)) :: B1).length = B0.length + T.nbs ks + (B1.length + 1) := by simp [bxs_len, nbs_marks]; omega
    generalize hQ' : (B0 ++ T.bxs B0.length (T.marks k ks)) ++ some (tCells B0.length (T.marks k ks)) :: B1 = Q' at h hln3 ⊢
    generalize ((k + 2 * cnts ks : Nat) : Int) = Kn at h ⊢
    rw [← hln3] at h
    simp [v292, r292_0, r292_1, r292_2, r292_4, r292_5, r292_6, r292_7, r292_8, r292_9, r292_10, r292_11, r292_12, r292_3, r292_13]
    rw [h]
    simp [v292, r292_0, r292_1, r292_2, r292_4, r292_5, r292_6, r292_7, r292_8, r292_9, r292_10, r292_11, r292_12, r292_3, r292_13]
theorem heldRow_eq (ks : List T) (hl : cnts ks ≤ 1099511627776) (k : Nat) (hk : k + 2 * cnts ks ≤ 4611686018427387904) (B0 B1 : Boxs) :
    callX XV 292 [tRow B0.length ks, .d (.int .i64 (k : Int))] (B0 ++ bRow B0.length (T.marks k ks) ++ B1) = some (.d (.int .i64 ((k + 2 * cnts ks : Nat) : Int)), B0 ++ bRow B0.length (T.marks k ks) ++ B1) :=
  heldRow_of ks (by unfold cnts at hl; omega) (fun t ht k hk B0 B1 => by
    have hin := T.inners_mem ht
    have hct : cnts t.kids ≤ 1099511627776 := by rw [cnts_kids]; unfold cnts at hl; omega
    have := heldRow_eq t.kids hct k (by rw [cnts_kids]; exact hk) B0 B1
    rw [cnts_kids] at this; exact this) k hk B0 B1
termination_by SizeOf.sizeOf ks
decreasing_by
  have h1 := List.sizeOf_lt_of_mem ht
  have h2 : SizeOf.sizeOf t.kids < SizeOf.sizeOf t := by cases t; simp [T.kids]; omega
  omega
end Go.Proofs.Ytficfeekkljoeaa.VS
namespace Go.Proofs.Ytficfeekkljoeaa.VS
set_option linter.unusedVariables false
set_option linter.unusedSimpArgs false
theorem frzRow_of (kk : List T) (h : ∀ (n : Nat) (P Q : Boxs), T.nbs kk ≤ n → frzL (AV.frzC (P ++ T.bxs P.length kk ++ Q) n) (tCells P.length kk) = some (flat (kk.map (T.enc .sub)))) (n : Nat) (P Q : Boxs) (hn : rowN kk ≤ n) :
    AV.frzC (P ++ bRow P.length kk ++ Q) n (tRow P.length kk) = some (terms .sub kk) := by
  by_cases hk : kk = []
  · subst hk; simp only [tRow, if_true]; exact frzC_d _ _ _
  · unfold rowN at hn
    rw [if_neg hk] at hn
    obtain ⟨m, rfl⟩ : ∃ m, n = m + 1 := ⟨n - 1, by omega⟩
    rw [tRow_cons _ _ hk, bRow_cons _ _ hk]
    have hB : P ++ (T.bxs P.length kk ++ [some (tCells P.length kk)]) ++ Q = P ++ T.bxs P.length kk ++ (some (tCells P.length kk) :: Q) := by simp
    rw [hB]
    have hl : (P ++ T.bxs P.length kk).length = P.length + T.nbs kk := by rw [List.length_append, bxs_len]
    have hg : bget (P ++ T.bxs P.length kk ++ (some (tCells P.length kk) :: Q)) (P.length + T.nbs kk) = some (tCells P.length kk) := by
      unfold bget; rw [← hl, get_at]
    simp only [AV.frzC]
    rw [hg, Option.bind_some, h m P _ (by omega), Option.bind_some]
    have hok := encs_ok .sub kk
    have hfl : (flat (kk.map (T.enc .sub))).length = kk.length * 3 := by
      rw [flat_len (fun x hx => (hok x hx).1)]; simp
    rw [if_pos hfl]
    have hch := chunks_row (kk.map (T.enc .sub)) hok
    rw [List.length_map] at hch
    rw [hch]; rfl
theorem frzCells (l : List T) (n : Nat) (P Q : Boxs) (hn : T.nbs l ≤ n) : frzL (AV.frzC (P ++ T.bxs P.length l ++ Q) n) (tCells P.length l) = some (flat (l.map (T.enc .sub))) := by
  match l, hn with
  | [], hn => rfl
  | .node f v kk :: r, hn =>
    simp only [T.nbs, nb_node] at hn
    have h1 := frzRow_of kk (fun n P Q hn => frzCells kk n P Q hn) n P (T.bxs (P.length + rowN kk) r ++ Q) (by omega)
    have h2 := frzCells r n (P ++ bRow P.length kk) Q (by omega)
    have hl : (P ++ bRow P.length kk).length = P.length + rowN kk := by rw [List.length_append, bRow_len]
    rw [hl] at h2
    have hB1 : P ++ bRow P.length kk ++ (T.bxs (P.length + rowN kk) r ++ Q) = P ++ T.bxs P.length (.node f v kk :: r) ++ Q := by simp [T.bxs, bx_node, nb_node]
    have hB2 : P ++ bRow P.length kk ++ T.bxs (P.length + rowN kk) r ++ Q = P ++ T.bxs P.length (.node f v kk :: r) ++ Q := by simp [T.bxs, bx_node, nb_node]
    rw [hB1] at h1
    rw [hB2] at h2
    simp only [tCells, frzL_cons, frzC_d, h1, h2, frzO_some, List.map_cons]
    simp [flat]
termination_by SizeOf.sizeOf l
theorem frzRow_eq (kk : List T) (n : Nat) (P Q : Boxs) (hn : rowN kk ≤ n) : AV.frzC (P ++ bRow P.length kk ++ Q) n (tRow P.length kk) = some (terms .sub kk) :=
  frzRow_of kk (fun n P Q hn => frzCells kk n P Q hn) n P Q hn
/-- A term whose row lies in boxes. -/
def tAg (b : Nat) (t : T) : AV := if t.kids = [] then .d (t.enc .sub) else .ag false [.d (.int .i64 t.f), .d (.int .i64 t.v), tRow b t.kids]
theorem frz_tAg (t : T) (P Q : Boxs) : AV.frz (P ++ bRow P.length t.kids ++ Q) (tAg P.length t) = some (t.enc .sub) := by
  unfold tAg
  by_cases hk : t.kids = []
  · rw [if_pos hk, frz_d]
  · rw [if_neg hk]
    have h := frzRow_eq t.kids (P ++ bRow P.length t.kids ++ Q).length P Q (by simp [bRow_len]; omega)
    simp only [AV.frz, frzL_cons, frzL_nil, frzC_d, h, frzO_some, Option.bind_some]
    rw [T.enc_eq]
    simp [isCell_int, isCell_sl, terms]
theorem tAg_ag (b : Nat) (t : T) : boxAg [.d (.int .i64 t.f), .d (.int .i64 t.v), tRow b t.kids] (consD (.int .i64 t.f) (consD (.int .i64 t.v) (datas [tRow b t.kids]))) = some (tAg b t) := by
  unfold tAg
  by_cases hk : t.kids = []
  · rw [if_pos hk, T.enc_eq, hk]
    rfl
  · rw [if_neg hk, tRow_cons _ _ hk]
    simp
theorem tAg_cells (b : Nat) (t : T) : (tAg b t).cells = [.d (.int .i64 t.f), .d (.int .i64 t.v), tRow b t.kids] := by
  unfold tAg
  by_cases hk : t.kids = []
  · rw [if_pos hk, T.enc_eq, hk]
    rfl
  · rw [if_neg hk]; rfl
theorem tAg_safe (m b : Nat) (t : T) (h : b + rowN t.kids ≤ m) : (tAg b t).safe m = true := by
  unfold tAg
  split
  · exact safe_d _ _
  · rw [safe_ag]; simp [safes_cons, safes_nil, safe_d, safe_tRow _ _ _ h]
theorem tAg_clr (b : Nat) (t : T) : (tAg b t).clr = tAg b t := by
  unfold tAg
  split
  · simp only [AV.clr, T.clr_enc]
  · simp [AV.clr, AV.clrs, DV.clr, clr_tRow]
theorem markTerm_eq (t : T) (ht : t.inner ≤ 1099511627776) (k : Nat) (hk : k ≤ 1000000000000) (B0 B1 : Boxs) :
    callX XV 308 [tAg B0.length t, .d (.int .i64 (k : Int))] (B0 ++ bRow B0.length t.kids ++ B1) = some (.d (.int .i64 ((k + 2 * t.inner : Nat) : Int)), B0 ++ bRow B0.length (T.marks k t.kids) ++ B1) := by
  rw [z_call XV _ _ _ v308 rfl xcode_308 rfl]
  have h := markRow_eq t.kids (by rw [cnts_kids]; exact ht) k (by rw [cnts_kids]; omega) B0 (B1 ++ [some [.d (.int .i64 t.f), .d (.int .i64 t.v), tRow B0.length t.kids]])
  rw [cnts_kids, ← List.append_assoc, ← List.append_assoc] at h
  have hc := tAg_cells B0.length t
  have hs := tAg_safe (B0 ++ bRow B0.length t.kids ++ B1).length B0.length t (by simp [bRow_len])
  have hcl := tAg_clr B0.length t
  have hrc := clr_tRow B0.length t.kids
  have hri := isCell_tRow B0.length t.kids
  have hlen : (B0 ++ bRow B0.length (T.marks k t.kids) ++ B1).length = (B0 ++ bRow B0.length t.kids ++ B1).length := by simp [bRow_len, rowN_marks]
  generalize B0 ++ bRow B0.length t.kids ++ B1 = B at h hs hlen ⊢
  generalize B0 ++ bRow B0.length (T.marks k t.kids) ++ B1 = B' at h hlen ⊢
  generalize ((k + 2 * t.inner : Nat) : Int) = Kn at h ⊢
  generalize tAg B0.length t = y at hc hs hcl ⊢
  generalize tRow B0.length t.kids = row at h hc hrc hri ⊢
  have hg : ∀ c : List AV, (B ++ [some c])[B.length]? = some (some c) := fun c => by simp
  have htk : ∀ c : List AV, List.take B.length (B' ++ [some c]) = B' := fun c => by rw [← hlen]; simp
  simp [v308, r308_0, r308_1, r308_2, hc, hs, hcl, hrc, hri, h, isCellA_d, isCell_int, safes_cons, htk]
theorem heldTerm_eq (t : T) (ht : t.inner ≤ 1099511627776) (k : Nat) (hk : k ≤ 1000000000000) (B0 B1 : Boxs) :
    callX XV 341 [tAg B0.length t, .d (.int .i64 (k : Int))] (B0 ++ bRow B0.length (T.marks k t.kids) ++ B1) = some (.d (.int .i64 ((k + 2 * t.inner : Nat) : Int)), B0 ++ bRow B0.length (T.marks k t.kids) ++ B1) := by
  rw [z_call XV _ _ _ v341 rfl xcode_341 rfl]
  have h := heldRow_eq t.kids (by rw [cnts_kids]; exact ht) k (by rw [cnts_kids]; omega) B0 (B1 ++ [some [.d (.int .i64 t.f), .d (.int .i64 t.v), tRow B0.length t.kids]])
  rw [cnts_kids, ← List.append_assoc] at h
  have hc := tAg_cells B0.length t
  have hs := tAg_safe (B0 ++ bRow B0.length (T.marks k t.kids) ++ B1).length B0.length t (by simp [bRow_len, rowN_marks])
  have hcl := tAg_clr B0.length t
  have hrc := clr_tRow B0.length t.kids
  have hri := isCell_tRow B0.length t.kids
  have hn : ¬ (((k + 2 * t.inner : Nat) : Int) < 0) := by omega
  generalize B0 ++ bRow B0.length (T.marks k t.kids) ++ B1 = B at h hs ⊢
  generalize ((k + 2 * t.inner : Nat) : Int) = Kn at h hn ⊢
  generalize tAg B0.length t = y at hc hs hcl ⊢
  generalize tRow B0.length t.kids = row at h hc hrc hri ⊢
  have hg : ∀ c : List AV, (B ++ [some c])[B.length]? = some (some c) := fun c => by simp
  simp [v341, r341_0, r341_1, r341_2, r341_3, r341_4, hc, hs, hcl, hrc, hri, h, hn, isCellA_d, isCell_int, safes_cons]
end Go.Proofs.Ytficfeekkljoeaa.VS
namespace Go.Proofs.Ytficfeekkljoeaa.VS
set_option linter.unusedVariables false
set_option linter.unusedSimpArgs false
/-! ## Substitutions -/
structure Bd where
  v : Int
  t : T
def Bd.enc (g : Tag) (b : Bd) : DV := .agg [.int .i64 b.v, .int .i64 b.t.f, .int .i64 b.t.v, terms g b.t.kids]
def Bd.ok (b : Bd) : Prop := (-9223372036854775808 ≤ b.v ∧ b.v ≤ 9223372036854775807) ∧ b.t.ok
abbrev binds (g : Tag) (l : List Bd) : DV := .sl g (l.map (Bd.enc g))
@[simp] theorem Bd.cells_enc (g : Tag) (x : Bd) : (x.enc g).cells = [.int .i64 x.v, .int .i64 x.t.f, .int .i64 x.t.v, terms g x.t.kids] := rfl
@[simp] theorem Bd.cellsA_enc (g : Tag) (x : Bd) : (AV.d (x.enc g)).cells = [.d (.int .i64 x.v), .d (.int .i64 x.t.f), .d (.int .i64 x.t.v), .d (terms g x.t.kids)] := rfl
@[simp] theorem Bd.isCell_enc (g : Tag) (x : Bd) : (x.enc g).isCell = false := rfl
@[simp] theorem Bd.isAgg_enc (g : Tag) (x : Bd) : isAgg (x.enc g) = true := rfl
@[simp] theorem Bd.clr_enc (g : Tag) (x : Bd) : (x.enc g).clr = x.enc .sub := by
  simp only [Bd.enc, DV.clr, DV.clrs, terms, DV.clrs_map, clr_terms]
@[simp high] theorem Bd.clr_encs (g : Tag) (l : List Bd) : (l.map (Bd.enc g)).map DV.clr = l.map (Bd.enc .sub) := by simp [List.map_map, Function.comp_def]
@[simp] theorem Bd.agg_enc (g : Tag) (x : Bd) : DV.agg [.int .i64 x.v, .int .i64 x.t.f, .int .i64 x.t.v, terms g x.t.kids] = x.enc g := rfl
end Go.Proofs.Ytficfeekkljoeaa.VS
namespace Go.Proofs.Ytficfeekkljoeaa.VS
set_option linter.unusedVariables false
set_option linter.unusedSimpArgs false
theorem allU_bool (b : Bool) : (DV.bool b).allUT = true := rfl
end Go.Proofs.Ytficfeekkljoeaa.VS
namespace Go.Proofs.Ytficfeekkljoeaa.VS
set_option linter.unusedVariables false
set_option linter.unusedSimpArgs false
/-! ## Copies of terms; what is put for a variable -/
theorem app_terms (a c : List T) (g : Tag) (h : (a.length + c.length) * 40 ≤ 140737488355328) : xappend 3 40 (.sl U (a.map (T.enc U))) (.sl g (c.map (T.enc U))) = some (.sl U ((a ++ c).map (T.enc U))) := by
  have h1 : (c.map (T.enc U)).all (fun e => decide (e.cells.length = 3 ∧ e.cells.all DV.isCell = true)) = true := by
    simp [isCell_int, isCell_sl]
  have h2 : (a.map (T.enc U)).all (fun e => decide (e.cells.length = 3)) = true := by simp
  unfold xappend
  simp only
  rw [if_pos h1]
  cases c with
  | nil => simp
  | cons x r =>
    simp only [List.map_cons, List.isEmpty_cons, Bool.false_eq_true, if_false]
    rw [if_pos ⟨by simpa using h, trivial, h2⟩]
    simp
theorem app_term (l : List T) (i : Nat) (h : i < l.length) (hl : l.length ≤ 1099511627776) : xappend 3 40 (.sl U ((l.take i).map (T.enc U))) (.sl U [(tAt l i).enc U]) = some (.sl U ((l.take (i + 1)).map (T.enc U))) := by
  have := app_terms (l.take i) [tAt l i] U (by simp; omega)
  rw [take_snoc l i h]
  exact this
theorem l3Copy_of (f v : Int) (ks : List T) (hl : ks.length ≤ 1099511627776) (hc : ∀ t, t ∈ ks → callX XV 146 [.d (t.enc .sub)] [] = some (.d (t.enc U), [])) :
    callX XV 146 [.d ((T.node f v ks).enc .sub)] [] = some (.d ((T.node f v ks).enc U), []) := by
  rw [z_call XV _ _ _ v146 rfl xcode_146 rfl]
  have hloop := loopX_upto (X := XV) (T := XV.lin 146) (L := 3) (live := [1, 2, 3, 4]) (b := b146_0) (n := ks.length) (γ := Unit) (st := fun (_ : Unit) i => ⟨[(1, .ptr 0 0), (2, .ptr 1 0), (3, .ptr 2 0), (4, .d (.int .i64 i))], [some [.d (.int .i64 f), .d (.int .i64 v), .d (terms .sub ks)], some [.d (.int .i64 0), .d (.int .i64 0), .d (.sl U [])], some [.d (.int .i64 f), .d (.int .i64 v), .d (.sl U ((ks.take i).map (T.enc U)))]]⟩) (step := fun _ _ => .inl ())
    (F := fun _ => (.exit 0, ⟨[(1, .ptr 0 0), (2, .ptr 1 0), (3, .ptr 2 0), (4, .d (.int .i64 ks.length)), (14, .d (.bool false))], [some [.d (.int .i64 f), .d (.int .i64 v), .d (terms .sub ks)], some [.d (.int .i64 0), .d (.int .i64 0), .d (.sl U [])], some [.d (.int .i64 f), .d (.int .i64 v), .d (.sl U ((ks.take ks.length).map (T.enc U)))]]⟩)) (R := fun _ => (.ret, ⟨[], []⟩))
    (fun _ => ⟨by simp, by simp [b146_0, r146_0, r146_1, r146_2, r146_3, d146_5, r146_4, r146_6]⟩)
    (fun _ i hi => by
      have hw := wrap_succ (n := i) (by omega)
      have hc' := hc _ (tAt_mem hi)
      have ha := app_term ks i hi hl
      generalize hl2 : (ks.take (i + 1)).map (T.enc U) = l2 at ha
      generalize (ks.take i).map (T.enc U) = l1 at ha ⊢
      exact ⟨⟨[(1, .ptr 0 0), (2, .ptr 1 0), (3, .ptr 2 0), (4, .d (.int .i64 (i + 1 : Nat)))], [some [.d (.int .i64 f), .d (.int .i64 v), .d (terms .sub ks)], some [.d (.int .i64 0), .d (.int .i64 0), .d (.sl U [])], some [.d (.int .i64 f), .d (.int .i64 v), .d (.sl U l2)]]⟩, by simp [b146_0, r146_0, r146_1, r146_2, r146_3, d146_5, r146_4, r146_6, hi, hw, cut, tAt_lt hi, hc', ha, splice, AV.clrs_map, isCell_int, isCell_sl, isCellA_d, safe_d], by simp [xheadOf, safeRegs, ← hl2]⟩)
    ks.length () 0 ⟨[(1, .ptr 0 0), (2, .ptr 1 0), (3, .ptr 2 0), (4, .d (.int .i64 0))], [some [.d (.int .i64 f), .d (.int .i64 v), .d (terms .sub ks)], some [.d (.int .i64 0), .d (.int .i64 0), .d (.sl U [])], some [.d (.int .i64 f), .d (.int .i64 v), .d (.sl U [])]]⟩ (by omega) (by simp [xheadOf, safeRegs])
  rw [run_on, List.take_length] at hloop
  simp only [lin_146, terms] at hloop
  simp [v146, r146_0, r146_1, r146_2, r146_3, d146_5, r146_4, r146_6, splice, isCell_int, isCell_sl, isCellA_d, safe_d, loadBox]
  rw [hloop]
  simp [v146, r146_0, r146_1, r146_2, r146_3, d146_5, r146_4, r146_6, splice, isCell_int, isCell_sl, isCellA_d, safe_d, loadBox]
theorem l3Copy_eq (t : T) (ht : t.inner ≤ 1099511627776) : callX XV 146 [.d (t.enc .sub)] [] = some (.d (t.enc U), []) := by
  match t, ht with
  | .node f v ks, ht =>
    simp only [T.inner] at ht
    exact l3Copy_of f v ks (by omega) fun s hs => l3Copy_eq s (by have := T.inners_mem hs; omega)
termination_by t
decreasing_by
  simp_wf
  have := List.sizeOf_lt_of_mem hs
  omega
theorem copyTerms_of (ks : List T) (hl : ks.length ≤ 1099511627776) (hc : ∀ t, t ∈ ks → callX XV 150 [.d (t.enc .sub)] [] = some (.d (t.enc U), [])) :
    callX XV 151 [.d (terms .sub ks)] [] = some (.d (terms U ks), []) := by
  rw [z_call XV _ _ _ v151 rfl xcode_151 rfl]
  have hloop := loopX_upto (X := XV) (T := XV.lin 151) (L := 0) (live := [3, 7, 8, 9]) (b := b151_0) (n := ks.length) (γ := Unit) (st := fun (_ : Unit) i => ⟨[(3, .d (.sl U ((ks.take i).map (T.enc U)))), (7, .d (terms .sub ks)), (8, .d (.int .i64 ks.length)), (9, .d (.int .i64 i))], []⟩) (step := fun _ _ => .inl ())
    (F := fun _ => (.exit 0, ⟨[(3, .d (.sl U ((ks.take ks.length).map (T.enc U)))), (7, .d (terms .sub ks)), (8, .d (.int .i64 ks.length)), (9, .d (.int .i64 ks.length)), (10, .d (.bool false))], []⟩)) (R := fun _ => (.ret, ⟨[], []⟩))
    (fun _ => ⟨by simp, by simp [b151_0, r151_0, r151_1, r151_2, r151_3, r151_4, r151_5, r151_6, r151_7]⟩)
    (fun _ i hi => by
      have hw := wrap_succ (n := i) (by omega)
      have hc' := hc _ (tAt_mem hi)
      have ha := app_term ks i hi hl
      generalize hl2 : (ks.take (i + 1)).map (T.enc U) = l2 at ha
      generalize (ks.take i).map (T.enc U) = l1 at ha ⊢
      exact ⟨⟨[(3, .d (.sl U l2)), (7, .d (terms .sub ks)), (8, .d (.int .i64 ks.length)), (9, .d (.int .i64 (i + 1 : Nat)))], [some [.d (.int .i64 (tAt ks i).f), .d (.int .i64 (tAt ks i).v), .d (terms .sub (tAt ks i).kids)]]⟩, by simp [b151_0, r151_0, r151_1, r151_2, r151_3, r151_4, r151_5, r151_6, r151_7, hi, hw, cut, tAt_lt hi, hc', ha, splice, isCell_int, isCell_sl, isCellA_d, safe_d, loadBox], head_cut (e := [some [.d (.int .i64 (tAt ks i).f), .d (.int .i64 (tAt ks i).v), .d (terms .sub (tAt ks i).kids)]]) (by simp [← hl2]) (by simp [safeRegs]) (by simp) (by simp)⟩)
    ks.length () 0 ⟨[(3, .d (.sl U [])), (7, .d (terms .sub ks)), (8, .d (.int .i64 ks.length)), (9, .d (.int .i64 0))], []⟩ (by omega) (by simp [xheadOf, safeRegs])
  rw [run_on, List.take_length] at hloop
  simp only [lin_151] at hloop
  simp [v151, r151_0, r151_1, r151_2, r151_7]
  rw [hloop]
  simp [r151_7]
theorem copyTerm_of (f v : Int) (ks : List T) (h : callX XV 151 [.d (terms .sub ks)] [] = some (.d (terms U ks), [])) : callX XV 150 [.d ((T.node f v ks).enc .sub)] [] = some (.d ((T.node f v ks).enc U), []) := by
  rw [z_call XV _ _ _ v150 rfl xcode_150 rfl]
  simp only [terms] at h
  simp [v150, r150_0, r150_1, r150_2, h, splice, isCell_int, isCell_sl, isCellA_d, safe_d, loadBox]
theorem copyTerm_eq (t : T) (ht : t.inner ≤ 1099511627776) : callX XV 150 [.d (t.enc .sub)] [] = some (.d (t.enc U), []) := by
  match t, ht with
  | .node f v ks, ht =>
    simp only [T.inner] at ht
    exact copyTerm_of f v ks (copyTerms_of ks (by omega) fun s hs => copyTerm_eq s (by have := T.inners_mem hs; omega))
termination_by t
decreasing_by
  simp_wf
  have := List.sizeOf_lt_of_mem hs
  omega
end Go.Proofs.Ytficfeekkljoeaa.VS
namespace Go.Proofs.Ytficfeekkljoeaa.VS
set_option linter.unusedVariables false
set_option linter.unusedSimpArgs false
/-! ## An equation turned the right way round, both -/
theorem greater_asym (l : List SymL) (a b : T) (h1 : greaterB l a b = true) (h2 : greaterB l b a = true) : False := by
  unfold greaterB at h1 h2
  simp only [Bool.and_eq_true] at h1 h2
  have l1 := h1.2
  have l2 := h2.2
  unfold lastB at l1 l2
  have hc := cmp_neg a b
  simp only [Bool.or_eq_true, Bool.and_eq_true, decide_eq_true_eq] at l1 l2
  omega
def orT (l : List SymL) (a b : T) : T × T × Bool := if greaterB l b a = true then (b, a, true) else (a, b, greaterB l a b)
theorem orT_inner (l : List SymL) (a b : T) (ha : a.inner ≤ 1099511627776) (hb : b.inner ≤ 1099511627776) : (orT l a b).1.inner ≤ 1099511627776 ∧ (orT l a b).2.1.inner ≤ 1099511627776 := by
  unfold orT; split <;> simp [ha, hb]
theorem specOriented_eq (l : List SymL) (hs : l.length ≤ 1099511627776) (hn : ∀ i, i < l.length → (symAt l i).name.size ≤ 1099511627776) (a b : T) (ha : a.inner ≤ 1099511627776) (hb : b.inner ≤ 1099511627776) : callX XV 339 [.d (sg l), .d (a.enc .sub), .d (b.enc .sub)] [] = some (.d (.tup [(orT l a b).1.enc U, (orT l a b).2.1.enc U, .bool (orT l a b).2.2]), []) := by
  rw [z_call XV _ _ _ v339 rfl xcode_339 rfl]
  have g1 := specGreater_eq l hs hn b a hb ha
  have g2 := specGreater_eq l hs hn a b ha hb
  have c1 := l3Copy_eq a ha
  have c2 := l3Copy_eq b hb
  unfold orT
  generalize greaterB l a b = q2 at *
  obtain ⟨f, v, ks⟩ := a
  obtain ⟨f', v', ks'⟩ := b
  cases hq : greaterB l (.node f' v' ks') (.node f v ks) with
  | true =>
    rw [hq] at g1
    simp [v339, r339_0, r339_1, d339_2, d339_3, g1, g2, c1, c2, splice, isCell_int, isCell_sl, isCellA_d, safe_d, loadBox]
  | false =>
    rw [hq] at g1
    simp [v339, r339_0, r339_1, d339_2, d339_3, g1, g2, c1, c2, splice, isCell_int, isCell_sl, isCellA_d, safe_d, loadBox]
theorem implOriented_eq (l : List SymL) (hs : l.length ≤ 1099511627776) (hn : ∀ i, i < l.length → (symAt l i).name.size ≤ 1099511627776) (a b : T) (ha : a.inner ≤ 1099511627776) (hb : b.inner ≤ 1099511627776) : callX XV 340 [.d (sg l), .d (a.enc .sub), .d (b.enc .sub)] [] = some (.d (.tup [(orT l a b).1.enc U, (orT l a b).2.1.enc U, .bool (orT l a b).2.2]), []) := by
  rw [z_call XV _ _ _ v340 rfl xcode_340 rfl]
  have g1 := implGreater_eq l hs hn b a hb ha
  have g2 := implGreater_eq l hs hn a b ha hb
  have has := greater_asym l a b
  have c1 := copyTerm_eq a ha
  have c2 := copyTerm_eq b hb
  unfold orT
  generalize greaterB l a b = q2 at *
  obtain ⟨f, v, ks⟩ := a
  obtain ⟨f', v', ks'⟩ := b
  cases hq : greaterB l (.node f' v' ks') (.node f v ks) with
  | true =>
    rw [hq] at g1 has
    cases q2 with
    | true => exact (has rfl rfl).elim
    | false => simp [v340, r340_0, d340_1, r340_2, d340_3, r340_4, d340_5, d340_6, g1, g2, c1, c2, splice, isCell_int, isCell_sl, isCellA_d, safe_d, loadBox]
  | false =>
    rw [hq] at g1
    cases q2 with
    | true => simp [v340, r340_0, d340_1, r340_2, d340_3, r340_4, d340_5, d340_6, g1, g2, c1, c2, splice, isCell_int, isCell_sl, isCellA_d, safe_d, loadBox]
    | false => simp [v340, r340_0, d340_1, r340_2, d340_3, r340_4, d340_5, d340_6, g1, g2, c1, c2, splice, isCell_int, isCell_sl, isCellA_d, safe_d, loadBox]
theorem bx_get1 (A L : Boxs) (r m c : Nat) (h : A.length = r) : (A ++ L)[r + m + c]? = L[m + c]? := by
  subst h; rw [List.getElem?_append_right (by omega)]; congr 1; omega
theorem bx_set1 (A L : Boxs) (r m c : Nat) (v : Option (List AV)) (h : A.length = r) : (A ++ L).set (r + m + c) v = A ++ L.set (m + c) v := by
  subst h; rw [List.set_append_right _ _ (by omega)]; congr 2; omega
theorem nlt1 (a : Nat) : (a + 1 < a) = False := by simp
theorem bx_ge1 (A L : Boxs) (r m c : Nat) (hh : r + m + c < (A ++ L).length) (h : A.length = r) : (A ++ L)[r + m + c]'hh = L[m + c]'(by rw [List.length_append] at hh; omega) := by
  subst h; rw [List.getElem_append_right (by omega)]; congr 1; omega
theorem bx_ge0 (A L : Boxs) (r m : Nat) (hh : r + m < (A ++ L).length) (h : A.length = r) : (A ++ L)[r + m]'hh = L[m]'(by rw [List.length_append] at hh; omega) := by
  subst h; rw [List.getElem_append_right (by omega)]; congr 1; omega
end Go.Proofs.Ytficfeekkljoeaa.VS
namespace Go.Proofs.Ytficfeekkljoeaa.VS
set_option linter.unusedVariables false
set_option linter.unusedSimpArgs false
/-! ## Substitutions that lie in boxes -/
abbrev ts (l : List Bd) : List T := l.map Bd.t
/-! ### Marks -/
end Go.Proofs.Ytficfeekkljoeaa.VS
namespace Go.Proofs.Ytficfeekkljoeaa.VS
set_option linter.unusedVariables false
set_option linter.unusedSimpArgs false
mutual
theorem allU_enc : ∀ t : T, (t.enc U).allU = true
  | .node f v ks => by
    have := allUs_encs ks
    unfold T.enc
    cases ks with
    | nil => simp [T.encs, DV.allU, DV.allUs]
    | cons a r => simp only [T.encs] at this ⊢; simp [DV.allU, DV.allUs] at this ⊢; exact this
theorem allUs_encs : ∀ l : List T, DV.allUs (T.encs U l) = true
  | [] => by simp [T.encs, DV.allUs]
  | t :: r => by simp [T.encs, DV.allUs, allU_enc t, allUs_encs r]
end
theorem allUT_enc (t : T) : (t.enc U).allUT = true := by
  have := allU_enc t
  rw [T.enc_eq] at this ⊢
  exact this
end Go.Proofs.Ytficfeekkljoeaa.VS
namespace Go.Proofs.Ytficfeekkljoeaa.VS
set_option linter.unusedVariables false
set_option linter.unusedSimpArgs false
end Go.Proofs.Ytficfeekkljoeaa.VS
namespace Go.Proofs.Ytficfeekkljoeaa.VS
set_option linter.unusedVariables false
set_option linter.unusedSimpArgs false
/-! ## Numbers written in digits -/
def dgb (n : Nat) : UInt8 := UInt8.ofNat (48 + n)
def dgt (n : Nat) : ByteArray := ⟨#[dgb n]⟩
def digs (n : Nat) : ByteArray := if n < 10 then dgt n else digs (n / 10) ++ dgt (n % 10)
theorem digs_lt {n : Nat} (h : n < 10) : digs n = dgt n := by rw [digs, if_pos h]
theorem digs_ge {n : Nat} (h : ¬ n < 10) : digs n = digs (n / 10) ++ dgt (n % 10) := by rw [digs, if_neg h]
theorem dgt_size (n : Nat) : (dgt n).size = 1 := rfl
theorem digs_size : ∀ (k n : Nat), n < 10 ^ (k + 1) → (digs n).size ≤ k + 1
  | 0, n, h => by rw [digs_lt (by omega), dgt_size]; omega
  | k + 1, n, h => by
    by_cases c : n < 10
    · rw [digs_lt c, dgt_size]; omega
    · rw [digs_ge c, ByteArray.size_append, dgt_size]
      have := digs_size k (n / 10) (by rw [Nat.pow_succ] at h; omega)
      omega
theorem digs_size20 {n : Nat} (h : n ≤ 9223372036854775808) : (digs n).size ≤ 20 := digs_size 19 n (by omega)
theorem wrap_u8' {n : Int} (h : 0 ≤ n) (h2 : n ≤ 255) : IntKind.u8.wrap n = n := by
  simp [IntKind.wrap, IntKind.bits, IntKind.signed]; omega
theorem evInt_quo10 (k : IntKind) (x : Int) : evInt .quo k x 10 = some (.int k (k.wrap (x.tdiv 10))) := rfl
theorem evInt_rem10 (k : IntKind) (x : Int) : evInt .rem k x 10 = some (.int k (x.tmod 10)) := rfl
theorem evBin_cat {a b : ByteArray} (h : a.size + b.size ≤ 4611686018427387904) : evBin .add (.str a) (.str b) = some (.str (a ++ b)) := by simp [evBin, h]
/-! The loop, from the last digit on -/
def digs0 (k : Nat) : ByteArray := if k = 0 then ByteArray.empty else digs k
theorem digs0_step {k : Nat} (h : k ≠ 0) (s : ByteArray) : digs0 (k / 10) ++ (dgt (k % 10) ++ s) = digs0 k ++ s := by
  unfold digs0
  rw [if_neg h]
  by_cases c : k < 10
  · have : k / 10 = 0 := by omega
    rw [if_pos this, digs_lt c, ByteArray.empty_append, Nat.mod_eq_of_lt c]
  · rw [if_neg (by omega), digs_ge c, ByteArray.append_assoc]
theorem bytes_dgt {k : Nat} (h : k < 10) : bytesOf [.int .u8 (48 + (k : Int))] = some [dgb k] := by
  have : (48 + (k : Int)).toNat = 48 + k := by omega
  simp [bytesOf, this, dgb]
def dst (n : Int) (neg : Bool) (s : ByteArray) : XS := ⟨[(0, .d (.int .i64 n)), (3, .d (.bool neg)), (4, .d (.str s))], []⟩
end Go.Proofs.Ytficfeekkljoeaa.VS
namespace Go.Proofs.Ytficfeekkljoeaa.VS
set_option linter.unusedVariables false
set_option linter.unusedSimpArgs false
/-! ## Marks in texts; signatures that lie in boxes -/
def mst (k : Nat) (s : ByteArray) (B : Boxs) : XS := ⟨[(0, .d (.int .i64 k)), (3, .d (.str s))], B⟩
theorem body294 (k : Nat) (hk : k ≠ 0) (hk2 : k ≤ 4611686018427387904) (s : ByteArray) (hs : s.size ≤ 100) (B : Boxs) :
    ∃ s', codeX XV [] b294_0 (mst k s B) = some (.normal, s') ∧ xheadOf B.length [0, 3] s' = some (mst (k / 10) (dgt (k % 10) ++ s) B) := by
  have hw : IntKind.i64.wrap (48 + ((k % 10 : Nat) : Int)) = 48 + ((k % 10 : Nat) : Int) := wrap_i64 (by omega) (by omega)
  have hw2 : IntKind.u8.wrap (48 + ((k % 10 : Nat) : Int)) = 48 + ((k % 10 : Nat) : Int) := wrap_u8' (by omega) (by omega)
  have hb := bytes_dgt (k := k % 10) (by omega)
  have ha : evBin .add (.str ⟨#[dgb (k % 10)]⟩) (.str s) = some (.str (dgt (k % 10) ++ s)) := evBin_cat (a := dgt (k % 10)) (by rw [dgt_size]; omega)
  have c0 : ((0 : Int) < (k : Int)) := by omega
  have hq : (k : Int).tdiv 10 = ((k / 10 : Nat) : Int) := rfl
  have hr : (k : Int).tmod 10 = ((k % 10 : Nat) : Int) := rfl
  have hwq : IntKind.i64.wrap ((k / 10 : Nat) : Int) = ((k / 10 : Nat) : Int) := wrap_i64 (by omega) (by omega)
  unfold mst
  generalize ((k : Nat) : Int) = kk at *
  generalize ((k / 10 : Nat) : Int) = q at *
  generalize ((k % 10 : Nat) : Int) = r at *
  refine ⟨⟨[(0, .d (.int .i64 q)), (3, .d (.str (dgt (k % 10) ++ s)))], B⟩, by simp [b294_0, r294_0, r294_1, r294_2, r294_3, r294_4, r294_5, r294_6, r294_7, c0, hq, hr, evInt_quo10, evInt_rem10, hw, hw2, hwq, hb, ha, buildRow, List.replicate], head_cut (e := []) (by simp) (by simp [safeRegs]) rfl (by simp)⟩
theorem loop294 (B : Boxs) : ∀ (j k : Nat) (s : ByteArray), k < 10 ^ j → k ≤ 4611686018427387904 → s.size + j ≤ 100 →
    ∀ s0, xheadOf B.length [0, 3] s0 = some (mst k s B) → loopX XV [] B.length [0, 3] b294_0 s0 = some (.exit 0, ⟨[(0, .d (.int .i64 0)), (3, .d (.str (digs0 k ++ s))), (7, .d (.bool false))], B⟩) := by
  intro j
  induction j with
  | zero =>
    intro k s hk hk2 hs s0 h0
    obtain rfl : k = 0 := by simpa using hk
    refine loopX_out h0 ?_ (by simp)
    simp [mst, b294_0, r294_4, digs0, ByteArray.empty_append]
  | succ j ih =>
    intro k s hk hk2 hs s0 h0
    by_cases hz : k = 0
    · subst hz
      refine loopX_out h0 ?_ (by simp)
      simp [mst, b294_0, r294_4, digs0, ByteArray.empty_append]
    · obtain ⟨s', hb, hh⟩ := body294 k hz hk2 s (by omega) B
      rw [loopX_go h0 hb]
      have := ih (k / 10) (dgt (k % 10) ++ s) (by rw [Nat.pow_succ] at hk; omega) (by omega) (by rw [ByteArray.size_append, dgt_size]; omega) s' hh
      rw [this, digs0_step hz]
def mText (k : Nat) : ByteArray := ⟨#[109]⟩ ++ digs k
theorem markText_eq (k : Nat) (h0 : 0 < k) (hk : k ≤ 4611686018427387904) (B : Boxs) : callX XV 294 [.d (.int .i64 k)] B = some (.d (.str (mText k)), B) := by
  rw [z_call XV _ _ _ v294 rfl xcode_294 rfl]
  have hl := loop294 B 20 k ByteArray.empty (by omega) hk (by decide) ⟨[(0, .d (.int .i64 k)), (3, .d (.str ByteArray.empty))], B⟩ (head_cut (e := []) (by simp [mst]) (by simp [safeRegs]) rfl (by simp [mst]))
  have hd : digs0 k ++ ByteArray.empty = digs k := by unfold digs0; rw [if_neg (by omega), ByteArray.append_empty]
  rw [hd] at hl
  have hs := digs_size20 (n := k) (by omega)
  have ha : evBin .add (.str ⟨#[109]⟩) (.str (digs k)) = some (.str (mText k)) := evBin_cat (a := ⟨#[109]⟩) (by rw [show (⟨#[109]⟩ : ByteArray).size = 1 from rfl]; omega)
  have c0 : ¬ ((k : Int) ≤ 0) := by omega
  generalize ((k : Nat) : Int) = kk at *
  simp [v294, r294_0, r294_1, r294_3, c0]
  simp only [show (⟨#[]⟩ : ByteArray) = ByteArray.empty from rfl, hl]
  simp [r294_7, ha]
def sCells : List SymL → List AV
  | [] => []
  | x :: r => .d (.str x.name) :: .d (.int .i64 x.arity) :: .d (.bool x.ac) :: sCells r
def tSy (b : Nat) (l : List SymL) : AV := if l = [] then .d (sg []) else .tsl true b 3 l.length
def bSy (l : List SymL) : Boxs := if l = [] then [] else [some (sCells l)]
theorem sCells_len : ∀ l : List SymL, (sCells l).length = 3 * l.length
  | [] => rfl
  | x :: r => by simp [sCells, sCells_len r]; omega
theorem sCells_append : ∀ a c : List SymL, sCells (a ++ c) = sCells a ++ sCells c
  | [], c => rfl
  | x :: r, c => by simp [sCells, sCells_append r c]
theorem thws_syms (b : Nat) : ∀ l : List SymL, thws b (l.map SymL.enc) = (sCells l, [])
  | [] => rfl
  | x :: r => by
    rw [List.map_cons]
    simp only [thws]
    have h : thw b x.enc = ([.d (.str x.name), .d (.int .i64 x.arity), .d (.bool x.ac)], []) := rfl
    rw [h]
    simp only [List.length_nil, Nat.add_zero, thws_syms b r]
    rfl
theorem thaw_syms (b : Nat) (l : List SymL) : (sg l).thaw b = (tSy b l, bSy l) := by
  cases l with
  | nil => rfl
  | cons x r =>
    have h := thws_syms b (x :: r)
    simp only [List.map_cons] at h
    show thawOne b (.sl .sub (x.enc :: r.map SymL.enc)) = _
    simp only [thawOne, thw, h, tSy, bSy]
    have ha : isAgD x.enc = true := rfl
    have h3 : x.enc.cells.length = 3 := rfl
    simp [ha, h3]
theorem frzL_syms (f : AV → Option DV) (hf : ∀ v, f (.d v) = some v) : ∀ l : List SymL, frzL f (sCells l) = some (flat (l.map SymL.enc))
  | [] => rfl
  | x :: r => by
    have h := frzL_syms f hf r
    simp only [sCells, frzL_cons, hf, h, frzO_some, List.map_cons]
    rfl
theorem frz_tSy (l : List SymL) (P Q : Boxs) : AV.frz (P ++ bSy l ++ Q) (tSy P.length l) = some (sg l) := by
  by_cases hp : l = []
  · subst hp; simp [tSy, bSy, AV.frz, frzC_d]
  · have hb : P ++ bSy l ++ Q = P ++ (some (sCells l) :: Q) := by simp [bSy, hp]
    have hg : bget (P ++ (some (sCells l) :: Q)) P.length = some (sCells l) := by
      unfold bget; rw [get_at]
    rw [hb]
    unfold tSy
    rw [if_neg hp]
    obtain ⟨m, hm⟩ : ∃ m, (P ++ (some (sCells l) :: Q)).length = m + 1 := ⟨P.length + Q.length, by simp; omega⟩
    simp only [AV.frz]
    rw [hm]
    simp only [AV.frzC]
    rw [hg, Option.bind_some, frzL_syms _ (fun v => frzC_d _ _ v), Option.bind_some]
    have hok := symEncs_ok l
    have hfl : (flat (l.map SymL.enc)).length = l.length * 3 := by rw [flat_len (fun x hx => (hok x hx).1)]; simp
    rw [if_pos hfl]
    have hch := chunks_row (l.map SymL.enc) hok
    rw [List.length_map] at hch
    rw [hch]; rfl
theorem clr_tSy (b : Nat) (l : List SymL) : (tSy b l).clr = tSy b l := by
  unfold tSy; split
  · simp [AV.clr, DV.clr, DV.clrs]
  · simp only [AV.clr]
def mkSy1 (k : Nat) : SymL := ⟨mText k, ((k + 1 : Nat) : Int), ((((k + 2 : Nat) : Int).tmod 3) == 0)⟩
def mkSy : Nat → Nat → List SymL
  | 0, _ => []
  | n + 1, k => mkSy1 k :: mkSy n (k + 3)
theorem mkSy_len : ∀ n k : Nat, (mkSy n k).length = n
  | 0, k => rfl
  | n + 1, k => by simp [mkSy, mkSy_len n]
theorem mkSy_succ : ∀ n k : Nat, mkSy (n + 1) k = mkSy n k ++ [mkSy1 (k + 3 * n)]
  | 0, k => rfl
  | n + 1, k => by
    rw [mkSy, mkSy_succ n (k + 3), mkSy]
    simp only [List.cons_append]
    rw [show k + 3 + 3 * n = k + 3 * (n + 1) by omega]
def upSy (l : List SymL) (k i : Nat) : List SymL := mkSy i k ++ l.drop i
theorem upSy_at (l : List SymL) (k i : Nat) (hi : i < l.length) : sCells (upSy l k i) = sCells (mkSy i k) ++ .d (.str (symAt l i).name) :: .d (.int .i64 (symAt l i).arity) :: .d (.bool (symAt l i).ac) :: sCells (l.drop (i + 1)) := by
  unfold upSy; rw [List.drop_eq_getElem_cons hi, symAt_lt hi, sCells_append]; rfl
theorem upSy_next (l : List SymL) (k i : Nat) : sCells (upSy l k (i + 1)) = sCells (mkSy i k) ++ .d (.str (mText (k + 3 * i))) :: .d (.int .i64 ((k + 3 * i + 1 : Nat) : Int)) :: .d (.bool ((((k + 3 * i + 2 : Nat) : Int).tmod 3) == 0)) :: sCells (l.drop (i + 1)) := by
  unfold upSy; rw [mkSy_succ, sCells_append, sCells_append]; simp [sCells, mkSy1]
theorem rp2 (C1 C2 : List AV) (f v w x : AV) (i : Nat) (h : C1.length = i * 3) : splice (C1 ++ f :: v :: w :: C2) (i * 3 + 2) [x] = C1 ++ f :: v :: x :: C2 := by
  have := spA (C1 ++ [f, v]) C2 w x
  simp only [List.length_append, List.length_cons, List.length_nil, List.append_assoc, List.cons_append, List.nil_append, Nat.zero_add] at this
  rw [← h]; exact this
theorem evInt_rem3 (k : IntKind) (x : Int) : evInt .rem k x 3 = some (.int k (x.tmod 3)) := rfl
theorem markStepS (S B1 : Boxs) (ix n i k : Nat) (C1 C2 : List AV) (f v w : AV) (hS : S.length = ix) (hi : i < n) (hn : n ≤ 1099511627776) (hC : C1.length = i * 3) (h0 : 0 < k) (hk : k + 3 ≤ 4611686018427387904) :
    codeX XV [] b243_0 ⟨[(0, .tsl true ix 3 n), (1, .d (.int .i64 (k : Int))), (5, .d (.int .i64 (i : Int)))], S ++ some (C1 ++ f :: v :: w :: C2) :: B1⟩ =
      some (.normal, ⟨[(0, .tsl true ix 3 n), (1, .d (.int .i64 ((k + 3 : Nat) : Int))), (5, .d (.int .i64 ((i + 1 : Nat) : Int)))], S ++ some (C1 ++ .d (.str (mText k)) :: .d (.int .i64 ((k + 1 : Nat) : Int)) :: .d (.bool ((((k + 2 : Nat) : Int).tmod 3) == 0)) :: C2) :: B1⟩) := by
  have hw := wrap_succ (n := i) (by omega)
  have hw1 := wrap_succ (n := k) (by omega)
  have hw2 := wrap_succ (n := k + 1) (by omega)
  have hw3 := wrap_succ (n := k + 2) (by omega)
  have hget : ∀ (c : List AV) (r : Boxs), (S ++ some c :: r)[ix]? = some (some c) := fun c r => by rw [← hS]; exact get_at S (some c) r
  have hset : ∀ (c d : List AV) (r : Boxs), (S ++ some c :: r).set ix (some d) = S ++ some d :: r := fun c d r => by rw [← hS]; exact set_at S (some c) (some d) r
  have s0 := fun x => sp0 C1 (v :: w :: C2) f x i hC
  have s1 := fun a x => sp1 C1 (w :: C2) a v x i hC
  have s2 := fun a b x => rp2 C1 C2 a b w x i hC
  have le0 : i * 3 + 1 ≤ C1.length + (C2.length + 1 + 1 + 1) := by omega
  have le1 : i * 3 + 1 + 1 ≤ C1.length + (C2.length + 1 + 1 + 1) := by omega
  have le2 : i * 3 + 2 + 1 ≤ C1.length + (C2.length + 1 + 1 + 1) := by omega
  have hm := fun B => markText_eq k h0 (by omega) B
  generalize ((k : Nat) : Int) = K0 at *
  generalize ((k + 1 : Nat) : Int) = K1 at *
  generalize ((k + 2 : Nat) : Int) = K2 at *
  generalize ((k + 2 + 1 : Nat) : Int) = K3 at *
  simp [b243_0, r243_0, r243_1, r243_2, r243_4, r243_5, r243_6, r243_7, r243_8, r243_9, r243_3, r243_10, hi, hw, hw1, hw2, hw3, hget, hset, s0, s1, s2, le0, le1, le2, hm, evInt_rem3]
theorem markSyms_eq (l : List SymL) (hl : l.length ≤ 1099511627776) (k : Nat) (h0 : 0 < k) (hk : k + 3 * l.length ≤ 4611686018427387904) (B0 B1 : Boxs) :
    callX XV 243 [tSy B0.length l, .d (.int .i64 (k : Int))] (B0 ++ bSy l ++ B1) = some (.d (.int .i64 ((k + 3 * l.length : Nat) : Int)), B0 ++ bSy (mkSy l.length k) ++ B1) := by
  rw [z_call XV _ _ _ v243 rfl xcode_243 rfl]
  by_cases hne : l = []
  · subst hne
    have h := loopX_upto (X := XV) (T := []) (L := (B0 ++ B1).length) (live := [0, 1, 5]) (b := b243_0) (n := 0) (β := Unit) (γ := Unit) (st := fun _ i => ⟨[(0, .d (.sl .sub [])), (1, .d (.int .i64 k)), (5, .d (.int .i64 i))], B0 ++ B1⟩) (step := fun _ _ => .inl ())
      (F := fun _ => (.exit 0, ⟨[(0, .d (.sl .sub [])), (1, .d (.int .i64 k)), (5, .d (.int .i64 0)), (9, .d (.bool false))], B0 ++ B1⟩)) (R := fun _ => (.ret, ⟨[], []⟩)) (fun a => ⟨by simp, by simp [b243_0, r243_0, r243_1, r243_2, r243_4, r243_5, r243_6, r243_7, r243_8, r243_9, r243_3, r243_10]⟩) (fun a i hi => by omega) 0 () 0 ⟨[(0, .d (.sl .sub [])), (1, .d (.int .i64 k)), (5, .d (.int .i64 0))], B0 ++ B1⟩ rfl (head_cut (e := []) (by simp) (by simp [safeRegs]) rfl (by simp))
    simp only [runN, List.length_append] at h
    have htk : List.take (B0.length + B1.length) (B0 ++ B1) = B0 ++ B1 := List.take_of_length_le (by simp)
    simp [tSy, bSy, mkSy, sg, v243, r243_0, r243_1, r243_2, r243_4, r243_5, r243_6, r243_7, r243_8, r243_9, r243_3, r243_10]
    rw [h]
    simp [htk, v243, r243_0, r243_1, r243_2, r243_4, r243_5, r243_6, r243_7, r243_8, r243_9, r243_3, r243_10]
  · have hmn : mkSy l.length k ≠ [] := fun h => by
      have := mkSy_len l.length k
      rw [h] at this; exact hne (List.length_eq_zero_iff.1 this.symm)
    have h := loopX_upto (X := XV) (T := []) (L := B0.length + (B1.length + 1)) (live := [0, 1, 5]) (b := b243_0) (n := l.length) (γ := Unit) (st := fun (_ : Unit) i => ⟨[(0, .tsl true B0.length 3 l.length), (1, .d (.int .i64 ((k + 3 * i : Nat) : Int))), (5, .d (.int .i64 i))], B0 ++ some (sCells (upSy l k i)) :: B1⟩) (step := fun _ _ => .inl ())
      (F := fun _ => (.exit 0, ⟨[(0, .tsl true B0.length 3 l.length), (1, .d (.int .i64 ((k + 3 * l.length : Nat) : Int))), (5, .d (.int .i64 l.length)), (9, .d (.bool false))], B0 ++ some (sCells (upSy l k l.length)) :: B1⟩)) (R := fun _ => (.ret, ⟨[], []⟩))
      (fun _ => ⟨by simp, by generalize ((k + 3 * l.length : Nat) : Int) = K; simp [b243_0, r243_0, r243_1, r243_2, r243_4, r243_5, r243_6, r243_7, r243_8, r243_9, r243_3, r243_10]⟩)
      (fun _ i hi => by
        have hst := markStepS B0 B1 B0.length l.length i (k + 3 * i) (sCells (mkSy i k)) (sCells (l.drop (i + 1))) (.d (.str (symAt l i).name)) (.d (.int .i64 (symAt l i).arity)) (.d (.bool (symAt l i).ac)) rfl hi hl (by rw [sCells_len, mkSy_len]; omega) (by omega) (by omega)
        rw [← upSy_at l k i hi, ← upSy_next l k i, show k + 3 * i + 3 = k + 3 * (i + 1) by omega] at hst
        exact ⟨_, hst, head_cut (e := []) (by simp) (by simp [safeRegs, safe_tsl]) (by simp) (by simp)⟩)
      l.length () 0 ⟨[(0, .tsl true B0.length 3 l.length), (1, .d (.int .i64 (k : Int))), (5, .d (.int .i64 0))], B0 ++ some (sCells l) :: B1⟩ (by omega) (head_cut (e := []) (by simp) (by simp [safeRegs, safe_tsl]) (by simp) (by simp [upSy, mkSy]))
    rw [run_on] at h
    have hall : upSy l k l.length = mkSy l.length k := by simp [upSy]
    rw [hall] at h
    have htk : ∀ c : List AV, List.take (B0.length + (B1.length + 1)) (B0 ++ some c :: B1) = B0 ++ some c :: B1 := fun c => List.take_of_length_le (by simp)
    generalize ((k + 3 * l.length : Nat) : Int) = Kn at h ⊢
    simp [tSy, bSy, hne, v243, r243_0, r243_1, r243_2, r243_4, r243_5, r243_6, r243_7, r243_8, r243_9, r243_3, r243_10]
    rw [h]
    simp [v243, r243_0, r243_1, r243_2, r243_4, r243_5, r243_6, r243_7, r243_8, r243_9, r243_3, r243_10, hmn, htk]
theorem bSy_mk (l : List SymL) (k : Nat) : (bSy (mkSy l.length k)).length = (bSy l).length := by
  unfold bSy
  have := mkSy_len l.length k
  by_cases h : l = []
  · subst h; rfl
  · have h2 : mkSy l.length k ≠ [] := fun h2 => by rw [h2] at this; exact h (List.length_eq_zero_iff.1 this.symm)
    simp [h, h2]
theorem allUs_syms : ∀ l : List SymL, DV.allUs (l.map SymL.enc) = true
  | [] => rfl
  | x :: r => by
    have h2 : DV.allUs ((x :: r).map SymL.enc) = (x.enc.allU && DV.allUs (r.map SymL.enc)) := rfl
    rw [h2, allUs_syms r]; rfl
theorem allUT_syms (l : List SymL) : (DV.sl U (l.map SymL.enc)).allUT = true := by
  cases l with
  | nil => rfl
  | cons x r =>
    have h2 : (DV.sl U ((x :: r).map SymL.enc)).allUT = (decide (U = U) && DV.allUs ((x :: r).map SymL.enc)) := rfl
    rw [h2, allUs_syms]; simp
end Go.Proofs.Ytficfeekkljoeaa.VS
namespace Go.Proofs.Ytficfeekkljoeaa.VS
set_option linter.unusedVariables false
set_option linter.unusedSimpArgs false
end Go.Proofs.Ytficfeekkljoeaa.VS
namespace Go.Proofs.Ytficfeekkljoeaa.VS
set_option linter.unusedVariables false
set_option linter.unusedSimpArgs false
/-! ## Boxes of arguments, side by side -/
theorem bx_get (A L : Boxs) (r m : Nat) (h : A.length = r) : (A ++ L)[r + m]? = L[m]? := by
  subst h; rw [List.getElem?_append_right (by omega)]; congr 1; omega
theorem bx_get0 (A L : Boxs) (c : Option (List AV)) (r : Nat) (h : A.length = r) : (A ++ c :: L)[r]? = some c := by
  subst h; simp
theorem bx_set (A L : Boxs) (r m : Nat) (v : Option (List AV)) (h : A.length = r) : (A ++ L).set (r + m) v = A ++ L.set m v := by
  subst h; rw [List.set_append_right _ _ (by omega)]; congr 2; omega
theorem bx_set0 (A L : Boxs) (c v : Option (List AV)) (r : Nat) (h : A.length = r) : (A ++ c :: L).set r v = A ++ v :: L := by
  subst h; simp
theorem nle1 (a b : Nat) : (a + (b + 1) ≤ a) = False := by simp
theorem clrs3 (x y z : AV) : AV.clrs [x, y, z] = [x.clr, y.clr, z.clr] := by simp only [AV.clrs]
/-- A thawed row of functions at a place, with all that a law does with it. -/
structure ThS (l : List SymL) (b : Nat) (y : AV) (R R' : Boxs) (k K : Nat) : Prop where
  th : (sg l).thaw b = (y, R)
  cl : y.clr = y
  sf : ∀ m, b + R.length ≤ m → y.safe m = true
  ic : y.isCell = true
  len : R'.length = R.length
  frz : ∀ P Q : Boxs, P.length = b → AV.frz (P ++ (R ++ Q)) y = some (sg l)
  mark : ∀ P Q : Boxs, P.length = b → callX XV 243 [y, .d (.int .i64 (k : Int))] (P ++ (R ++ Q)) = some (.d (.int .i64 (K : Int)), P ++ (R' ++ Q))
theorem safe_tSy (b m : Nat) (l : List SymL) (h : b + (bSy l).length ≤ m) : (tSy b l).safe m = true := by
  unfold tSy
  by_cases hl : l = []
  · simp [hl]
  · simp only [hl, if_false]; simp [bSy, hl] at h; simp [safe_tsl]; omega
theorem isCell_tSy (b : Nat) (l : List SymL) : (tSy b l).isCell = true := by unfold tSy; split <;> rfl
theorem thS_of (l : List SymL) (hl : l.length ≤ 1099511627776) (b k : Nat) (h0 : 0 < k) (hk : k ≤ 1000000000000) : ∃ y R R', ThS l b y R R' k (k + 3 * l.length) :=
  ⟨tSy b l, bSy l, bSy (mkSy l.length k), thaw_syms b l, clr_tSy b l, fun m h => safe_tSy b m l h, isCell_tSy b l, bSy_mk l k,
    fun P Q hP => by subst hP; rw [← List.append_assoc]; exact frz_tSy l P Q,
    fun P Q hP => by subst hP; rw [← List.append_assoc, ← List.append_assoc]; exact markSyms_eq l hl k h0 (by omega) P Q⟩
/-- A thawed term, in a variable. -/
structure ThT (t : T) (b : Nat) (row y : AV) (R R' : Boxs) (k K : Nat) : Prop where
  th : (t.enc .sub).thaw b = (.ag false [.d (.int .i64 t.f), .d (.int .i64 t.v), row], R)
  cl : row.clr = row
  cly : y.clr = y
  sf : ∀ m, b + R.length ≤ m → row.safe m = true
  ic : row.isCell = true
  pl : row.plainT = true
  len : R'.length = R.length
  ag : boxAg [.d (.int .i64 t.f), .d (.int .i64 t.v), row] (consD (.int .i64 t.f) (consD (.int .i64 t.v) (datas [row]))) = some y
  frz : ∀ P Q : Boxs, P.length = b → AV.frz (P ++ (R ++ Q)) y = some (t.enc .sub)
  mark : ∀ P Q : Boxs, P.length = b → callX XV 308 [y, .d (.int .i64 (k : Int))] (P ++ (R ++ Q)) = some (.d (.int .i64 (K : Int)), P ++ (R' ++ Q))
theorem thT_of (t : T) (ht : t.inner ≤ 1099511627776) (b k : Nat) (hk : k ≤ 1000000000000) : ∃ row y R R', ThT t b row y R R' k (k + 2 * t.inner) :=
  ⟨tRow b t.kids, tAg b t, bRow b t.kids, bRow b (T.marks k t.kids), thaw_term t b, clr_tRow b t.kids, tAg_clr b t, fun m h => safe_tRow m b t.kids (by rw [bRow_len] at h; exact h), isCell_tRow b t.kids, plain_tRow b t.kids,
    by rw [bRow_len, bRow_len, rowN_marks], tAg_ag b t,
    fun P Q hP => by subst hP; rw [← List.append_assoc]; exact frz_tAg t P Q,
    fun P Q hP => by subst hP; rw [← List.append_assoc, ← List.append_assoc]; exact markTerm_eq t ht k hk P Q⟩
theorem thTh_of (t : T) (ht : t.inner ≤ 1099511627776) (b k : Nat) (hk : k ≤ 1000000000000) : ∃ row y R R', ThT t b row y R R' k (k + 2 * t.inner) ∧ ∀ P Q : Boxs, P.length = b → callX XV 341 [y, .d (.int .i64 (k : Int))] (P ++ (R' ++ Q)) = some (.d (.int .i64 ((k + 2 * t.inner : Nat) : Int)), P ++ (R' ++ Q)) :=
  ⟨tRow b t.kids, tAg b t, bRow b t.kids, bRow b (T.marks k t.kids), ⟨thaw_term t b, clr_tRow b t.kids, tAg_clr b t, fun m h => safe_tRow m b t.kids (by rw [bRow_len] at h; exact h), isCell_tRow b t.kids, plain_tRow b t.kids,
    by rw [bRow_len, bRow_len, rowN_marks], tAg_ag b t,
    fun P Q hP => by subst hP; rw [← List.append_assoc]; exact frz_tAg t P Q,
    fun P Q hP => by subst hP; rw [← List.append_assoc, ← List.append_assoc]; exact markTerm_eq t ht k hk P Q⟩, fun P Q hP => by subst hP; rw [← List.append_assoc]; exact heldTerm_eq t ht k hk P Q⟩
theorem thaw_one (t : T) (b : Nat) : (t.enc .sub).thaw b = thawOne b (t.enc .sub) := by rw [T.enc_eq]; rfl
theorem thaw_tup2 (c : Bool) {x y : T} {b : Nat} {p q : AV} {R S : Boxs} (hx : (x.enc .sub).thaw b = (p, R)) (hy : (y.enc .sub).thaw (b + R.length) = (q, S)) : (DV.tup [x.enc .sub, y.enc .sub, .bool c]).thaw b = (.ag true [p, q, .d (.bool c)], R ++ S) := by
  rw [thaw_one] at hx hy
  have e : thawAll b [x.enc .sub, y.enc .sub, .bool c] = ([p, q, .d (.bool c)], R ++ (S ++ [])) := by
    unfold thawAll
    simp only [hx]
    unfold thawAll
    simp only [hy]
    rfl
  show (AV.ag true (thawAll b [x.enc .sub, y.enc .sub, .bool c]).1, (thawAll b [x.enc .sub, y.enc .sub, .bool c]).2) = _
  rw [e, List.append_nil]
end Go.Proofs.Ytficfeekkljoeaa.VS
