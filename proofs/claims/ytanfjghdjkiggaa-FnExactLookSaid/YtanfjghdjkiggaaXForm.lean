/- Contracts of the program's functions on the evaluator without names, and plain lemmas: XForm. -/
import Derived.Test.YtanfjghdjkiggaaXSigOk
import Derived.Test.YtanfjghdjkiggaaXWeight
import Derived.Test.YtanfjghdjkiggaaXBefore
namespace Go.Proofs.Ytanfjghdjkiggaa.VS
set_option linter.unusedVariables false
set_option linter.unusedSimpArgs false
def headBad (l : List SymL) (f v : Int) (n : Nat) : Bool :=
  if symIn l f = true then
    if v = 0 then (if (symAt l f.toNat).ac = true then decide ((n : Int) < 2) else !decide ((n : Int) = (symAt l f.toNat).arity))
    else true
  else true
/-- A Kid that may not stand there, if it is right by itself. -/
def outOf (l : List SymL) (f : Int) (ks : List T) (i : Nat) : Bool :=
  if (symAt l f.toNat).ac = true then (if (tAt ks i).f = f then true else if i = 0 then false else decide (T.cmp (tAt ks i) (tAt ks (i - 1)) < 0)) else false
mutual
def T.form (l : List SymL) : T → Bool
  | .node f v ks =>
    if f = -1 then inB v 0 99 && decide (ks.length = 0)
    else if headBad l f v ks.length = true then false
    else (findAt (fun i => !((T.forms l ks)[i]?).getD false || outOf l f ks i) ks.length 0).isNone
def T.forms (l : List SymL) : List T → List Bool
  | [] => []
  | t :: r => T.form l t :: T.forms l r
end
theorem T.forms_map (l : List SymL) : ∀ ks : List T, T.forms l ks = ks.map (T.form l)
  | [] => by simp [T.forms]
  | t :: r => by simp [T.forms, T.forms_map l r]
theorem T.forms_at (l : List SymL) (ks : List T) (i : Nat) (hi : i < ks.length) : ((T.forms l ks)[i]?).getD false = T.form l (tAt ks i) := by
  rw [T.forms_map]; simp [tAt_get hi]
theorem head78 (l : List SymL) (hs : l.length ≤ 1048576) (f v : Int) (ks : List T) : codeX XV (XV.lin 78) (.region true 0 [0, 3, 62] r78_3) ⟨[(0, .d (sg l)), (3, .ptr 0 0), (8, .d (.bool false))], cellsT f v ks⟩ = some (.normal, ⟨[(0, .d (sg l)), (3, .ptr 0 0), (62, .d (.bool (headBad l f v ks.length)))], cellsT f v ks⟩) := by
  have hsy := isSym_eq l hs f
  unfold headBad cellsT
  cases c1 : symIn l f with
  | false => rw [c1] at hsy; simp [d78_3, hsy]
  | true =>
    rw [c1] at hsy
    obtain ⟨g1, g2⟩ := symIn_lt c1
    by_cases c2 : v = 0
    · cases c3 : (symAt l f.toNat).ac with
      | true => simp [d78_3, hsy, c2, g1, g2, symAt_lt g2, cut, c3]
      | false =>
        by_cases c4 : (ks.length : Int) = (symAt l f.toNat).arity
        · simp [d78_3, hsy, c2, g1, g2, symAt_lt g2, cut, c3, c4]
        · have b4 : ((ks.length : Int) != (symAt l f.toNat).arity) = true := by simp [c4]
          simp [d78_3, hsy, c2, g1, g2, symAt_lt g2, cut, c3, c4, b4]
    · have b2 : (v != 0) = true := by simp [c2]
      simp [d78_3, hsy, c2, b2]
theorem head83 (l : List SymL) (hs : l.length ≤ 1048576) (f v : Int) (ks : List T) : codeX XV (XV.lin 83) (.region true 0 [0, 3, 64] r83_3) ⟨[(0, .d (sg l)), (3, .ptr 0 0), (8, .d (.bool false))], cellsT f v ks⟩ = some (.normal, ⟨[(0, .d (sg l)), (3, .ptr 0 0), (64, .d (.bool (headBad l f v ks.length)))], cellsT f v ks⟩) := by
  have hsy := l1In_eq f 0 (l.length - 1)
  have hw : IntKind.i64.wrap ((l.length : Int) - 1) = l.length - 1 := wrap_i64 (by omega) (by omega)
  unfold headBad cellsT
  cases c1 : symIn l f with
  | false => unfold symIn at c1; rw [c1] at hsy; simp [d83_3, hsy, hw]
  | true =>
    obtain ⟨g1, g2⟩ := symIn_lt c1
    unfold symIn at c1; rw [c1] at hsy
    by_cases c2 : v = 0
    · cases c3 : (symAt l f.toNat).ac with
      | true => simp [d83_3, hsy, hw, c2, g1, g2, symAt_lt g2, cut, c3]
      | false =>
        by_cases c4 : (ks.length : Int) = (symAt l f.toNat).arity
        · simp [d83_3, hsy, hw, c2, g1, g2, symAt_lt g2, cut, c3, c4]
        · have b4 : ((ks.length : Int) != (symAt l f.toNat).arity) = true := by simp [c4]
          simp [d83_3, hsy, hw, c2, g1, g2, symAt_lt g2, cut, c3, c4, b4]
    · have b2 : (v != 0) = true := by simp [c2]
      simp [d83_3, hsy, hw, c2, b2]
theorem kid78 (l : List SymL) (hs : l.length ≤ 1048576) (f v : Int) (ks : List T) (hf : symIn l f = true) (i : Nat) (hi : i < ks.length) (hl : ks.length ≤ 1048576)
    (hbef : ∀ s s', s ∈ ks → s' ∈ ks → callX XV 79 [.d (s.enc .sub), .d (s'.enc .sub)] [] = some (.d (.bool (decide (T.cmp s s' < 0))), []))
    (hrec : callX XV 78 [.d (sg l), .d ((tAt ks i).enc .sub)] [] = some (.d (.bool (T.form l (tAt ks i))), [])) :
    codeX XV (XV.lin 78) (.region true 0 [0, 3, 64, 65, 66, 103] r78_8) ⟨[(0, .d (sg l)), (3, .ptr 0 0), (5, .d (.int .i64 i)), (6, .ptr 1 0), (64, .d (terms .sub ks)), (65, .d (.int .i64 ks.length)), (66, .d (.int .i64 i))], cellsT f v ks ++ [some [.d (.int .i64 (tAt ks i).f), .d (.int .i64 (tAt ks i).v), .d (terms .sub (tAt ks i).kids)]]⟩ =
      some (.normal, ⟨[(0, .d (sg l)), (3, .ptr 0 0), (64, .d (terms .sub ks)), (65, .d (.int .i64 ks.length)), (66, .d (.int .i64 i)), (103, .d (.bool (!T.form l (tAt ks i) || outOf l f ks i)))], cellsT f v ks ++ [some [.d (.int .i64 (tAt ks i).f), .d (.int .i64 (tAt ks i).v), .d (terms .sub (tAt ks i).kids)]]⟩) := by
  obtain ⟨g1, g2⟩ := symIn_lt hf
  unfold cellsT outOf
  cases c1 : T.form l (tAt ks i) with
  | false => rw [c1] at hrec; simp [d78_8, hrec]
  | true =>
    rw [c1] at hrec
    cases c2 : (symAt l f.toNat).ac with
    | false => simp [d78_8, hrec, g1, g2, symAt_lt g2, c2, cut]
    | true =>
      by_cases c3 : (tAt ks i).f = f
      · have b3 : ((tAt ks i).f == f) = true := by simp [c3]
        simp [d78_8, hrec, g1, g2, symAt_lt g2, c2, b3, cut]
        simp [c3]
      · have b3 : ((tAt ks i).f == f) = false := by simp [c3]
        by_cases c4 : i = 0
        · subst c4; simp [d78_8, hrec, g1, g2, symAt_lt g2, c2, c3, b3, cut]
        · obtain ⟨j, rfl⟩ : ∃ j, i = j + 1 := ⟨i - 1, by omega⟩
          have hj : j < ks.length := by omega
          have hb := hbef _ _ (tAt_mem hi) (tAt_mem hj)
          have hw : IntKind.i64.wrap (j : Int) = j := wrap_nat (by omega)
          have hpos : (0 : Int) < ((j + 1 : Nat) : Int) := by omega
          simp only [Int.natCast_add, Int.cast_ofNat_Int] at hpos
          simp [d78_8, hrec, g1, g2, symAt_lt g2, c2, c3, b3, hw, hpos, hj, tAt_lt hj, cut, hb]

theorem formOk_of (l : List SymL) (hs : l.length ≤ 1048576) (f v : Int) (ks : List T) (hl : ks.length ≤ 1048576)
    (hbef : ∀ s s', s ∈ ks → s' ∈ ks → callX XV 79 [.d (s.enc .sub), .d (s'.enc .sub)] [] = some (.d (.bool (decide (T.cmp s s' < 0))), []))
    (hrec : ∀ s, s ∈ ks → callX XV 78 [.d (sg l), .d (s.enc .sub)] [] = some (.d (.bool (T.form l s)), [])) :
    callX XV 78 [.d (sg l), .d ((T.node f v ks).enc .sub)] [] = some (.d (.bool (T.form l (.node f v ks))), []) := by
  rw [z_call XV _ _ _ v78 rfl xcode_78 rfl]
  have hv := isVar_eq (.node f v ks)
  have hin := from_eq v 0 99
  simp only [T.f_node] at hv
  by_cases c1 : f = -1
  · have hform : T.form l (.node f v ks) = (inB v 0 99 && decide (ks.length = 0)) := by simp [T.form, c1]
    rw [hform]
    subst c1
    simp only [BEq.rfl] at hv
    cases c2 : inB v 0 99 with
    | false => rw [c2] at hin; simp [v78, r78_0, r78_1, r78_2, hv, hin]
    | true =>
      rw [c2] at hin
      by_cases c3 : ks.length = 0
      · simp [v78, r78_0, r78_1, r78_2, hv, hin, c3]
      · have b3 : ((ks.length : Int) == 0) = false := by simp; exact fun h => c3 (by simp [h])
        simp [v78, r78_0, r78_1, r78_2, hv, hin, b3]
        exact fun h => c3 (by simp [h])
  have b1 : (f == -1) = false := by simp [c1]
  rw [b1] at hv
  have hh := head78 l hs f v ks
  simp only [cellsT, terms, lin_78] at hh
  cases c2 : headBad l f v ks.length with
  | true =>
    have hform : T.form l (.node f v ks) = false := by simp [T.form, c1, c2]
    rw [hform]
    rw [c2] at hh
    simp [v78, r78_0, r78_1, r78_2, hv, r78_4]
    rw [hh]
    simp
  | false =>
    have hsy : symIn l f = true := by
      unfold headBad at c2
      by_cases h : symIn l f = true
      · exact h
      · rw [if_neg h] at c2; simp at c2
    have hform : T.form l (.node f v ks) = (findAt (fun i => !T.form l (tAt ks i) || outOf l f ks i) ks.length 0).isNone := by
      have e : findAt (fun i => !((T.forms l ks)[i]?).getD false || outOf l f ks i) ks.length 0 = findAt (fun i => !T.form l (tAt ks i) || outOf l f ks i) ks.length 0 := by
        have key : ∀ (k i : Nat), i + k = ks.length → findAt (fun i => !((T.forms l ks)[i]?).getD false || outOf l f ks i) k i = findAt (fun i => !T.form l (tAt ks i) || outOf l f ks i) k i := by
          intro k
          induction k with
          | zero => intro i _; rfl
          | succ k ih =>
            intro i h
            simp only [findAt]
            simp only [T.forms_at l ks i (by omega), ih (i + 1) (by omega)]
        exact key _ _ (by omega)
      rw [← e]; simp [T.form, c1, c2]
    rw [hform]
    rw [c2] at hh
    have h := loopX_upto (X := XV) (T := XV.lin 78) (L := 1) (live := [0, 3, 64, 65, 66]) (b := b78_0) (n := ks.length) (γ := Nat) (st := fun (_ : Unit) i => ⟨[(0, .d (sg l)), (3, .ptr 0 0), (64, .d (terms .sub ks)), (65, .d (.int .i64 ks.length)), (66, .d (.int .i64 i))], cellsT f v ks⟩) (step := stepF fun i => !T.form l (tAt ks i) || outOf l f ks i)
      (F := fun _ => (.exit 0, ⟨[(0, .d (sg l)), (3, .ptr 0 0), (64, .d (terms .sub ks)), (65, .d (.int .i64 ks.length)), (66, .d (.int .i64 ks.length)), (67, .d (.bool false))], cellsT f v ks⟩)) (R := fun j => (.ret, ⟨[(4, .d (.bool false))], cellsT f v ks ++ [some [.d (.int .i64 (tAt ks j).f), .d (.int .i64 (tAt ks j).v), .d (terms .sub (tAt ks j).kids)]]⟩))
      (fun a => ⟨by simp, by simp [b78_0, r78_6]⟩)
      (fun a i hi => by
        have hw := wrap_succ (n := i) (by omega)
        have hk := kid78 l hs f v ks hsy i hi hl hbef (hrec _ (tAt_mem hi))
        unfold stepF
        simp only [cellsT, terms, List.cons_append, List.nil_append, lin_78] at hk
        by_cases hq : (!T.form l (tAt ks i) || outOf l f ks i) = true
        · rw [if_pos hq]
          rw [hq] at hk
          refine ⟨by simp, ?_⟩
          simp [b78_0, r78_6, r78_7, r78_9, r78_10, hi, hw, cut, tAt_lt hi, cellsT, splice]
          rw [hk]
          simp
        · rw [if_neg hq]
          have hq' : (!T.form l (tAt ks i) || outOf l f ks i) = false := by simpa using hq
          rw [hq'] at hk
          refine ⟨⟨[(0, .d (sg l)), (3, .ptr 0 0), (64, .d (terms .sub ks)), (65, .d (.int .i64 ks.length)), (66, .d (.int .i64 (i + 1 : Nat)))], cellsT f v ks ++ [some [.d (.int .i64 (tAt ks i).f), .d (.int .i64 (tAt ks i).v), .d (terms .sub (tAt ks i).kids)]]⟩, ?_, by simp [xheadOf, safeRegs, cellsT]⟩
          simp [b78_0, r78_6, r78_7, r78_9, r78_10, hi, hw, cut, tAt_lt hi, cellsT, splice]
          rw [hk]
          simp [hw])
      ks.length () 0 ⟨[(0, .d (sg l)), (3, .ptr 0 0), (64, .d (terms .sub ks)), (65, .d (.int .i64 ks.length)), (66, .d (.int .i64 0))], cellsT f v ks⟩ (by omega) (by simp [xheadOf, safeRegs, cellsT])
    rw [runF] at h
    simp only [cellsT, terms, List.cons_append, List.nil_append, lin_78] at h
    simp [v78, r78_0, r78_1, r78_2, hv, r78_4, r78_5]
    rw [hh]
    simp
    rw [h]
    cases hq : findAt (fun i => !T.form l (tAt ks i) || outOf l f ks i) ks.length 0 <;> simp [r78_11]

theorem form_node (l : List SymL) (f v : Int) (ks : List T) (c1 : f ≠ -1) (c2 : headBad l f v ks.length = false) : T.form l (.node f v ks) = (findAt (fun i => !T.form l (tAt ks i) || outOf l f ks i) ks.length 0).isNone := by
  have e : findAt (fun i => !((T.forms l ks)[i]?).getD false || outOf l f ks i) ks.length 0 = findAt (fun i => !T.form l (tAt ks i) || outOf l f ks i) ks.length 0 := by
    have key : ∀ (k i : Nat), i + k = ks.length → findAt (fun i => !((T.forms l ks)[i]?).getD false || outOf l f ks i) k i = findAt (fun i => !T.form l (tAt ks i) || outOf l f ks i) k i := by
      intro k
      induction k with
      | zero => intro i _; rfl
      | succ k ih =>
        intro i h
        simp only [findAt]
        simp only [T.forms_at l ks i (by omega), ih (i + 1) (by omega)]
    exact key _ _ (by omega)
  rw [← e]; simp [T.form, c1, c2]
theorem formOk_eq (l : List SymL) (hs : l.length ≤ 1048576) (t : T) (ht : t.inner ≤ 1048576) : callX XV 78 [.d (sg l), .d (t.enc .sub)] [] = some (.d (.bool (T.form l t)), []) := by
  match t, ht with
  | .node f v ks, ht =>
    simp only [T.inner] at ht
    exact formOk_of l hs f v ks (by omega) (fun s s' h h' => implBefore_eq s s' (by have := T.inners_mem h; omega) (by have := T.inners_mem h'; omega)) (fun s h => formOk_eq l hs s (by have := T.inners_mem h; omega))
termination_by t
decreasing_by
  simp_wf
  have := List.sizeOf_lt_of_mem h
  omega
theorem kid83 (l : List SymL) (hs : l.length ≤ 1048576) (f v : Int) (ks : List T) (hf : symIn l f = true) (i : Nat) (hi : i < ks.length) (hl : ks.length ≤ 1048576)
    (hbef : ∀ s s', s ∈ ks → s' ∈ ks → callX XV 84 [.d (s.enc .sub), .d (s'.enc .sub)] [] = some (.d (.bool (decide (T.cmp s s' < 0))), []))
    (hrec : callX XV 83 [.d (sg l), .d ((tAt ks i).enc .sub)] [] = some (.d (.bool (T.form l (tAt ks i))), [])) :
    codeX XV (XV.lin 83) (.region true 0 [0, 3, 5, 116] r83_8) ⟨[(0, .d (sg l)), (3, .ptr 0 0), (5, .d (.int .i64 i)), (69, .d (.bool true))], cellsT f v ks⟩ =
      some (.normal, ⟨[(0, .d (sg l)), (3, .ptr 0 0), (5, .d (.int .i64 i)), (116, .d (.bool (!T.form l (tAt ks i) || outOf l f ks i)))], cellsT f v ks⟩) := by
  obtain ⟨g1, g2⟩ := symIn_lt hf
  unfold cellsT outOf
  cases c2 : (symAt l f.toNat).ac with
  | false =>
    cases c1 : T.form l (tAt ks i) with
    | false => rw [c1] at hrec; simp [d83_8, hrec, g1, g2, symAt_lt g2, c2, cut, hi, tAt_lt hi]
    | true => rw [c1] at hrec; simp [d83_8, hrec, g1, g2, symAt_lt g2, c2, cut, hi, tAt_lt hi]
  | true =>
    by_cases c3 : (tAt ks i).f = f
    · have b3 : ((tAt ks i).f == f) = true := by simp [c3]
      simp [d83_8, g1, g2, symAt_lt g2, c2, b3, cut, hi, tAt_lt hi]
      simp [c3]
    · have b3 : ((tAt ks i).f == f) = false := by simp [c3]
      by_cases c4 : i = 0
      · subst c4
        cases c1 : T.form l (tAt ks 0) with
        | false => rw [c1] at hrec; simp [d83_8, hrec, g1, g2, symAt_lt g2, c2, c3, b3, cut, hi, tAt_lt hi]
        | true => rw [c1] at hrec; simp [d83_8, hrec, g1, g2, symAt_lt g2, c2, c3, b3, cut, hi, tAt_lt hi]
      · obtain ⟨j, rfl⟩ : ∃ j, i = j + 1 := ⟨i - 1, by omega⟩
        have hj : j < ks.length := by omega
        have hb := hbef _ _ (tAt_mem hi) (tAt_mem hj)
        have hw : IntKind.i64.wrap (j : Int) = j := wrap_nat (by omega)
        have hpos : (0 : Int) < ((j + 1 : Nat) : Int) := by omega
        have hnat : (((j + 1 : Nat) : Int)).toNat = j + 1 := by omega
        simp only [Int.natCast_add, Int.cast_ofNat_Int] at hpos hnat
        have hnn : (0 : Int) ≤ (j : Int) + 1 := by omega
        by_cases c5 : T.cmp (tAt ks (j + 1)) (tAt ks j) < 0
        · simp only [c5, decide_true] at hb
          simp [d83_8, g1, g2, symAt_lt g2, c2, c3, b3, hw, hpos, hnat, hnn, hj, hi, tAt_lt hj, tAt_lt hi, cut, hb, c5]
        · simp only [c5, decide_false] at hb
          cases c1 : T.form l (tAt ks (j + 1)) with
          | false => rw [c1] at hrec; simp [d83_8, hrec, g1, g2, symAt_lt g2, c2, c3, b3, hw, hpos, hnat, hnn, hj, hi, tAt_lt hj, tAt_lt hi, cut, hb, c5]
          | true => rw [c1] at hrec; simp [d83_8, hrec, g1, g2, symAt_lt g2, c2, c3, b3, hw, hpos, hnat, hnn, hj, hi, tAt_lt hj, tAt_lt hi, cut, hb, c5]
theorem l4Right_of (l : List SymL) (hs : l.length ≤ 1048576) (f v : Int) (ks : List T) (hl : ks.length ≤ 1048576)
    (hbef : ∀ s s', s ∈ ks → s' ∈ ks → callX XV 84 [.d (s.enc .sub), .d (s'.enc .sub)] [] = some (.d (.bool (decide (T.cmp s s' < 0))), []))
    (hrec : ∀ s, s ∈ ks → callX XV 83 [.d (sg l), .d (s.enc .sub)] [] = some (.d (.bool (T.form l s)), [])) :
    callX XV 83 [.d (sg l), .d ((T.node f v ks).enc .sub)] [] = some (.d (.bool (T.form l (.node f v ks))), []) := by
  rw [z_call XV _ _ _ v83 rfl xcode_83 rfl]
  have hin := l1In_eq v 0 99
  by_cases c1 : f = -1
  · have hform : T.form l (.node f v ks) = (inB v 0 99 && decide (ks.length = 0)) := by simp [T.form, c1]
    rw [hform]
    subst c1
    cases c2 : inB v 0 99 with
    | false => rw [c2] at hin; simp [v83, r83_0, r83_1, r83_2, hin]
    | true =>
      rw [c2] at hin
      by_cases c3 : ks.length = 0
      · simp [v83, r83_0, r83_1, r83_2, hin, c3]
      · have b3 : ((ks.length : Int) == 0) = false := by simp; exact fun h => c3 (by simp [h])
        simp [v83, r83_0, r83_1, r83_2, hin, b3]
        exact fun h => c3 (by simp [h])
  have b1 : (f == -1) = false := by simp [c1]
  have hh := head83 l hs f v ks
  simp only [cellsT, terms, lin_83] at hh
  cases c2 : headBad l f v ks.length with
  | true =>
    have hform : T.form l (.node f v ks) = false := by simp [T.form, c1, c2]
    rw [hform]
    rw [c2] at hh
    simp [v83, r83_0, r83_1, r83_2, b1, r83_4]
    rw [hh]
    simp
  | false =>
    have hsy : symIn l f = true := by
      unfold headBad at c2
      by_cases h : symIn l f = true
      · exact h
      · rw [if_neg h] at c2; simp at c2
    rw [form_node l f v ks c1 c2]
    rw [c2] at hh
    have h := loopX_upto (X := XV) (T := XV.lin 83) (L := 1) (live := [0, 3, 5]) (b := b83_0) (n := ks.length) (γ := Nat) (st := fun (_ : Unit) i => ⟨[(0, .d (sg l)), (3, .ptr 0 0), (5, .d (.int .i64 i))], cellsT f v ks⟩) (step := stepF fun i => !T.form l (tAt ks i) || outOf l f ks i)
      (F := fun _ => (.exit 0, ⟨[(0, .d (sg l)), (3, .ptr 0 0), (5, .d (.int .i64 ks.length)), (69, .d (.bool false))], cellsT f v ks⟩)) (R := fun j => (.ret, ⟨[(4, .d (.bool false))], cellsT f v ks⟩))
      (fun a => ⟨by simp, by simp [b83_0, r83_6, cellsT]⟩)
      (fun a i hi => by
        have hw := wrap_succ (n := i) (by omega)
        have hk := kid83 l hs f v ks hsy i hi hl hbef (hrec _ (tAt_mem hi))
        unfold stepF
        simp only [cellsT, terms, List.cons_append, List.nil_append, lin_83] at hk
        by_cases hq : (!T.form l (tAt ks i) || outOf l f ks i) = true
        · rw [if_pos hq]
          rw [hq] at hk
          refine ⟨by simp, ?_⟩
          simp [b83_0, r83_6, r83_7, r83_9, hi, hw, cut, tAt_lt hi, cellsT, splice]
          rw [hk]
          simp
        · rw [if_neg hq]
          have hq' : (!T.form l (tAt ks i) || outOf l f ks i) = false := by simpa using hq
          rw [hq'] at hk
          refine ⟨⟨[(0, .d (sg l)), (3, .ptr 0 0), (5, .d (.int .i64 (i + 1 : Nat)))], cellsT f v ks⟩, ?_, by simp [xheadOf, safeRegs, cellsT]⟩
          simp [b83_0, r83_6, r83_7, r83_9, hi, hw, cut, tAt_lt hi, cellsT, splice]
          rw [hk]
          simp [hw])
      ks.length () 0 ⟨[(0, .d (sg l)), (3, .ptr 0 0), (5, .d (.int .i64 0))], cellsT f v ks⟩ (by omega) (by simp [xheadOf, safeRegs, cellsT])
    rw [runF] at h
    simp only [cellsT, terms, List.cons_append, List.nil_append, lin_83] at h
    simp [v83, r83_0, r83_1, r83_2, b1, r83_4, r83_5]
    rw [hh]
    simp
    rw [h]
    cases hq : findAt (fun i => !T.form l (tAt ks i) || outOf l f ks i) ks.length 0 <;> simp [r83_10]
theorem l4Right_eq (l : List SymL) (hs : l.length ≤ 1048576) (t : T) (ht : t.inner ≤ 1048576) : callX XV 83 [.d (sg l), .d (t.enc .sub)] [] = some (.d (.bool (T.form l t)), []) := by
  match t, ht with
  | .node f v ks, ht =>
    simp only [T.inner] at ht
    exact l4Right_of l hs f v ks (by omega) (fun s s' h h' => specBefore_eq s s' (by have := T.inners_mem h; omega) (by have := T.inners_mem h'; omega)) (fun s h => l4Right_eq l hs s (by have := T.inners_mem h; omega))
termination_by t
decreasing_by
  simp_wf
  have := List.sizeOf_lt_of_mem h
  omega
mutual
theorem sum_one : ∀ t : T, T.sum (fun _ => 1) t = t.inner + 1
  | .node f v ks => by simp only [T.sum, T.inner]; rw [sums_one ks]; push_cast; omega
theorem sums_one : ∀ l : List T, T.sums (fun _ => 1) l = T.inners l + l.length
  | [] => by simp [T.sums, T.inners]
  | t :: r => by simp only [T.sums, T.inners, List.length_cons]; rw [sum_one t, sums_one r]; push_cast; omega
end
theorem parts_val (t : T) (ht : t.inner ≤ 1048576) : IntKind.i64.wrap (T.sum (fun _ => 1) t) = (t.inner + 1 : Nat) := by
  rw [sum_one]; exact wrap_nat (n := t.inner + 1) (by omega)
def termOkB (l : List SymL) (t : T) : Bool := sigOkB l && (decide (t.inner + 1 ≤ 60) && T.form l t)
theorem implTermOk_eq (l : List SymL) (hs : l.length ≤ 1048576) (hn : ∀ i, i < l.length → (symAt l i).name.size ≤ 1048576) (t : T) (ht : t.inner ≤ 1048576) : callX XV 70 [.d (sg l), .d (t.enc .sub)] [] = some (.d (.bool (termOkB l t)), []) := by
  rw [z_call XV _ _ _ v70 rfl xcode_70 rfl]
  have h1 := implSigOk_eq l hs hn
  have h2 := implParts_eq t ht
  rw [parts_val t ht] at h2
  have h3 := formOk_eq l hs t ht
  unfold termOkB
  cases c1 : sigOkB l with
  | false => rw [c1] at h1; simp [v70, r70_0, r70_1, h1]
  | true =>
    rw [c1] at h1
    by_cases c2 : t.inner + 1 ≤ 60
    · have c2' : (((t.inner + 1 : Nat) : Int)) ≤ 60 := by omega
      simp only [Int.natCast_add, Int.cast_ofNat_Int] at c2'
      simp [v70, r70_0, r70_1, h1, h2, h3, c2, c2']
    · have c2' : ¬ (((t.inner + 1 : Nat) : Int)) ≤ 60 := by omega
      simp only [Int.natCast_add, Int.cast_ofNat_Int] at c2'
      simp [v70, r70_0, r70_1, h1, h2, c2, c2']
theorem specTermOk_eq (l : List SymL) (hs : l.length ≤ 1048576) (hn : ∀ i, i < l.length → (symAt l i).name.size ≤ 1048576) (t : T) (ht : t.inner ≤ 1048576) : callX XV 80 [.d (sg l), .d (t.enc .sub)] [] = some (.d (.bool (termOkB l t)), []) := by
  rw [z_call XV _ _ _ v80 rfl xcode_80 rfl]
  have h1 := specSigOk_eq l hs hn
  have h2 := specParts_eq t ht
  rw [parts_val t ht] at h2
  have h3 := l4Right_eq l hs t ht
  unfold termOkB
  cases c1 : sigOkB l with
  | false => rw [c1] at h1; simp [v80, r80_0, r80_1, h1]
  | true =>
    rw [c1] at h1
    by_cases c2 : t.inner + 1 ≤ 60
    · have c2' : (((t.inner + 1 : Nat) : Int)) ≤ 60 := by omega
      simp only [Int.natCast_add, Int.cast_ofNat_Int] at c2'
      simp [v80, r80_0, r80_1, h1, h2, h3, c2, c2']
    · have c2' : ¬ (((t.inner + 1 : Nat) : Int)) ≤ 60 := by omega
      simp only [Int.natCast_add, Int.cast_ofNat_Int] at c2'
      simp [v80, r80_0, r80_1, h1, h2, c2, c2']
end Go.Proofs.Ytanfjghdjkiggaa.VS
