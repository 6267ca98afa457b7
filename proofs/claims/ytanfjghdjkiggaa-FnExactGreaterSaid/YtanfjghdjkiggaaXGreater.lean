/- Contracts of the program's functions on the evaluator without names, and plain lemmas: XGreater. -/
import Derived.Test.YtanfjghdjkiggaaXVars
import Derived.Test.YtanfjghdjkiggaaXForm
namespace Go.Proofs.Ytanfjghdjkiggaa.VS
set_option linter.unusedVariables false
set_option linter.unusedSimpArgs false
/-! ## Which of two terms is greater, both -/
def W64 (x : Int) : Int := IntKind.i64.wrap x
def countW (t : T) (n : Int) : Int := IntKind.i64.wrap (T.sum (wC n) t)
def weightW (l : List SymL) (t : T) : Int := IntKind.i64.wrap (T.sum (wW l) t)
def lessAt (a b : T) (vs : List Int) (i : Nat) : Bool := decide (countW a (iAt vs i) < countW b (iAt vs i))
def lastB (l : List SymL) (a b : T) : Bool := decide (weightW l a > weightW l b) || (decide (weightW l a = weightW l b) && ((varsL a).length == 0) && ((varsL b).length == 0) && decide (T.cmp b a < 0))
def greaterB (l : List SymL) (a b : T) : Bool := termOkB l a && termOkB l b && (findAt (lessAt a b (varsL b)) (varsL b).length 0).isNone && lastB l a b
theorem implLast (l : List SymL) (hs : l.length ≤ 1048576) (f v : Int) (ks : List T) (f' v' : Int) (ks' : List T) (ha : (T.node f v ks).inner ≤ 1048576) (hb : (T.node f' v' ks').inner ≤ 1048576) :
    codeX XV (XV.lin 178) (.region false 0 [6] r178_10) ⟨[(4, .ptr 0 0), (5, .ptr 1 0), (9, .d (.int .i64 (weightW l (.node f v ks)))), (10, .d (.int .i64 (weightW l (.node f' v' ks'))))], cellsT f v ks ++ cellsT f' v' ks'⟩ =
      some (.normal, ⟨[(6, .d (.bool (lastB l (.node f v ks) (.node f' v' ks'))))], cellsT f v ks ++ cellsT f' v' ks'⟩) := by
  have g1 := implGround_eq (.node f v ks) ha
  have g2 := implGround_eq (.node f' v' ks') hb
  have b1 := implBefore_eq (.node f' v' ks') (.node f v ks) hb ha
  unfold lastB cellsT
  generalize hx : weightW l (.node f v ks) = x
  generalize hy : weightW l (.node f' v' ks') = y
  generalize varsL (.node f v ks) = va at g1 ⊢
  generalize varsL (.node f' v' ks') = vb at g2 ⊢
  generalize decide (T.cmp (.node f' v' ks') (.node f v ks) < 0) = cb at b1 ⊢
  generalize (va.length == 0) = ga at g1 ⊢
  generalize (vb.length == 0) = gb at g2 ⊢
  by_cases h1 : x > y
  · simp [r178_10, h1]
  · by_cases h2 : x = y
    · subst h2
      cases ga <;> cases gb <;> simp [r178_10, g1, g2, b1]
    · have h3 : (x == y) = false := by simp [h2]
      simp [r178_10, h1, h2, h3]
theorem specLast (l : List SymL) (hs : l.length ≤ 1048576) (f v : Int) (ks : List T) (f' v' : Int) (ks' : List T) (ha : (T.node f v ks).inner ≤ 1048576) (hb : (T.node f' v' ks').inner ≤ 1048576) :
    codeX XV (XV.lin 179) (.region false 0 [6] r179_10) ⟨[(4, .ptr 0 0), (5, .ptr 1 0), (9, .d (.int .i64 (weightW l (.node f v ks)))), (10, .d (.int .i64 (weightW l (.node f' v' ks'))))], cellsT f v ks ++ cellsT f' v' ks'⟩ =
      some (.normal, ⟨[(6, .d (.bool (lastB l (.node f v ks) (.node f' v' ks'))))], cellsT f v ks ++ cellsT f' v' ks'⟩) := by
  have g1 := specGround_eq (.node f v ks) ha
  have g2 := specGround_eq (.node f' v' ks') hb
  have b1 := specBefore_eq (.node f' v' ks') (.node f v ks) hb ha
  unfold lastB cellsT
  generalize hx : weightW l (.node f v ks) = x
  generalize hy : weightW l (.node f' v' ks') = y
  generalize varsL (.node f v ks) = va at g1 ⊢
  generalize varsL (.node f' v' ks') = vb at g2 ⊢
  generalize decide (T.cmp (.node f' v' ks') (.node f v ks) < 0) = cb at b1 ⊢
  generalize (va.length == 0) = ga at g1 ⊢
  generalize (vb.length == 0) = gb at g2 ⊢
  by_cases h1 : x > y
  · simp [r179_10, h1]
  · by_cases h2 : x = y
    · subst h2
      cases ga <;> cases gb <;> simp [r179_10, g1, g2, b1]
    · have h3 : (x == y) = false := by simp [h2]
      simp [r179_10, h1, h2, h3]
theorem implLoop (l : List SymL) (f v : Int) (ks : List T) (f' v' : Int) (ks' : List T) (ha : (T.node f v ks).inner ≤ 1048576) (hb : (T.node f' v' ks').inner ≤ 1048576) (vs : List Int) (hl : vs.length ≤ 2097152) :
    loopX XV (XV.lin 178) 2 [0, 4, 5, 22, 23, 24] b178_0 ⟨[(0, .d (sg l)), (4, .ptr 0 0), (5, .ptr 1 0), (22, .d (is vs)), (23, .d (.int .i64 vs.length)), (24, .d (.int .i64 0))], cellsT f v ks ++ cellsT f' v' ks'⟩ =
      some (match findAt (lessAt (.node f v ks) (.node f' v' ks') vs) vs.length 0 with
        | some _ => (.ret, ⟨[(6, .d (.bool false))], cellsT f v ks ++ cellsT f' v' ks'⟩)
        | none => (.exit 0, ⟨[(0, .d (sg l)), (4, .ptr 0 0), (5, .ptr 1 0), (22, .d (is vs)), (23, .d (.int .i64 vs.length)), (24, .d (.int .i64 vs.length)), (25, .d (.bool false))], cellsT f v ks ++ cellsT f' v' ks'⟩)) := by
  have h := loopX_upto (X := XV) (T := XV.lin 178) (L := 2) (live := [0, 4, 5, 22, 23, 24]) (b := b178_0) (n := vs.length) (st := fun (_ : Unit) i => ⟨[(0, .d (sg l)), (4, .ptr 0 0), (5, .ptr 1 0), (22, .d (is vs)), (23, .d (.int .i64 vs.length)), (24, .d (.int .i64 i))], cellsT f v ks ++ cellsT f' v' ks'⟩) (step := stepF (lessAt (.node f v ks) (.node f' v' ks') vs))
    (F := fun _ => (.exit 0, ⟨[(0, .d (sg l)), (4, .ptr 0 0), (5, .ptr 1 0), (22, .d (is vs)), (23, .d (.int .i64 vs.length)), (24, .d (.int .i64 vs.length)), (25, .d (.bool false))], cellsT f v ks ++ cellsT f' v' ks'⟩)) (R := fun (_ : Nat) => (.ret, ⟨[(6, .d (.bool false))], cellsT f v ks ++ cellsT f' v' ks'⟩))
    (fun a => ⟨by simp, by simp [cellsT, b178_0, r178_0, r178_1, r178_2, r178_3, r178_4, r178_5, d178_6, r178_7, r178_8, d178_9, r178_10]⟩)
    (fun a i hi => by
      have hw := wrap_succ (n := i) (by omega)
      have c1 := implCount_eq (.node f v ks) ha (iAt vs i)
      have c2 := implCount_eq (.node f' v' ks') hb (iAt vs i)
      unfold stepF
      by_cases hq : lessAt (.node f v ks) (.node f' v' ks') vs i = true
      · rw [if_pos hq]
        have hq2 : countW (.node f v ks) (iAt vs i) < countW (.node f' v' ks') (iAt vs i) := by simpa [lessAt] using hq
        unfold countW at hq2
        exact ⟨by simp, by simp [cellsT, b178_0, r178_0, r178_1, r178_2, r178_3, r178_4, r178_5, d178_6, r178_7, r178_8, d178_9, r178_10, hi, hw, cut, iAt_lt hi, c1, c2, hq2]⟩
      · rw [if_neg hq]
        have hq2 : ¬ countW (.node f v ks) (iAt vs i) < countW (.node f' v' ks') (iAt vs i) := by simpa [lessAt] using hq
        unfold countW at hq2
        exact ⟨_, by simp [cellsT, b178_0, r178_0, r178_1, r178_2, r178_3, r178_4, r178_5, d178_6, r178_7, r178_8, d178_9, r178_10, hi, hw, cut, iAt_lt hi, c1, c2, hq2]; rfl, by simp [xheadOf, safeRegs, cellsT]⟩)
    vs.length () 0 ⟨[(0, .d (sg l)), (4, .ptr 0 0), (5, .ptr 1 0), (22, .d (is vs)), (23, .d (.int .i64 vs.length)), (24, .d (.int .i64 0))], cellsT f v ks ++ cellsT f' v' ks'⟩ (by omega) (by simp [xheadOf, safeRegs, cellsT])
  rw [runF] at h
  rw [h]
  cases findAt (lessAt (.node f v ks) (.node f' v' ks') vs) vs.length 0 <;> rfl
theorem implGreater_eq (l : List SymL) (hs : l.length ≤ 1048576) (hn : ∀ i, i < l.length → (symAt l i).name.size ≤ 1048576) (a b : T) (ha : a.inner ≤ 1048576) (hb : b.inner ≤ 1048576) : callX XV 178 [.d (sg l), .d (a.enc .sub), .d (b.enc .sub)] [] = some (.d (.bool (greaterB l a b)), []) := by
  obtain ⟨f, v, ks⟩ := a
  obtain ⟨f', v', ks'⟩ := b
  rw [z_call XV _ _ _ v178 rfl xcode_178 rfl]
  have o1 := implTermOk_eq l hs hn (.node f v ks) ha
  have o2 := implTermOk_eq l hs hn (.node f' v' ks') hb
  have va := implVarsOf_eq (.node f' v' ks') hb
  have w1 := implWeight_eq l hs (.node f v ks) ha
  have w2 := implWeight_eq l hs (.node f' v' ks') hb
  have hloop := implLoop l f v ks f' v' ks' ha hb (varsL (.node f' v' ks')) (by have := varsL_len (.node f' v' ks') hb; omega)
  have hlast := implLast l hs f v ks f' v' ks' ha hb
  unfold greaterB
  unfold weightW at hlast
  by_cases h1 : termOkB l (.node f v ks) = true
  · rw [h1] at o1 ⊢
    by_cases h2 : termOkB l (.node f' v' ks') = true
    · rw [h2] at o2 ⊢
      simp only [lin_178, cellsT, List.cons_append, List.nil_append] at hloop hlast
      simp only [z_region, List.replicate_zero, List.append_nil, List.length_cons, List.length_nil, Nat.zero_add, Nat.reduceAdd] at hlast
      cases hq : findAt (lessAt (.node f v ks) (.node f' v' ks') (varsL (.node f' v' ks'))) (varsL (.node f' v' ks')).length 0 with
      | none =>
        rw [hq] at hloop
        simp [v178, r178_0, r178_1, r178_2, r178_3, o1, o2, va]
        rw [hloop]
        simp [d178_9, w1, w2]
        rw [hlast]
        simp
      | some j =>
        rw [hq] at hloop
        simp [v178, r178_0, r178_1, r178_2, r178_3, o1, o2, va]
        rw [hloop]
        simp
    · have h2' : termOkB l (.node f' v' ks') = false := by simpa using h2
      rw [h2'] at o2 ⊢
      simp [v178, r178_0, r178_1, r178_2, o1, o2]
  · have h1' : termOkB l (.node f v ks) = false := by simpa using h1
    rw [h1'] at o1 ⊢
    simp [v178, r178_0, r178_1, r178_2, o1]
theorem specLoop (l : List SymL) (f v : Int) (ks : List T) (f' v' : Int) (ks' : List T) (ha : (T.node f v ks).inner ≤ 1048576) (hb : (T.node f' v' ks').inner ≤ 1048576) (vs : List Int) (hl : vs.length ≤ 2097152) :
    loopX XV (XV.lin 179) 2 [0, 4, 5, 7, 8] b179_0 ⟨[(0, .d (sg l)), (4, .ptr 0 0), (5, .ptr 1 0), (7, .d (is vs)), (8, .d (.int .i64 0))], cellsT f v ks ++ cellsT f' v' ks'⟩ =
      some (match findAt (lessAt (.node f v ks) (.node f' v' ks') vs) vs.length 0 with
        | some _ => (.ret, ⟨[(6, .d (.bool false))], cellsT f v ks ++ cellsT f' v' ks'⟩)
        | none => (.exit 0, ⟨[(0, .d (sg l)), (4, .ptr 0 0), (5, .ptr 1 0), (7, .d (is vs)), (8, .d (.int .i64 vs.length)), (26, .d (.bool false))], cellsT f v ks ++ cellsT f' v' ks'⟩)) := by
  have h := loopX_upto (X := XV) (T := XV.lin 179) (L := 2) (live := [0, 4, 5, 7, 8]) (b := b179_0) (n := vs.length) (st := fun (_ : Unit) i => ⟨[(0, .d (sg l)), (4, .ptr 0 0), (5, .ptr 1 0), (7, .d (is vs)), (8, .d (.int .i64 i))], cellsT f v ks ++ cellsT f' v' ks'⟩) (step := stepF (lessAt (.node f v ks) (.node f' v' ks') vs))
    (F := fun _ => (.exit 0, ⟨[(0, .d (sg l)), (4, .ptr 0 0), (5, .ptr 1 0), (7, .d (is vs)), (8, .d (.int .i64 vs.length)), (26, .d (.bool false))], cellsT f v ks ++ cellsT f' v' ks'⟩)) (R := fun (_ : Nat) => (.ret, ⟨[(6, .d (.bool false))], cellsT f v ks ++ cellsT f' v' ks'⟩))
    (fun a => ⟨by simp, by simp [cellsT, b179_0, r179_0, r179_1, r179_2, r179_3, r179_4, r179_5, d179_7, r179_8, r179_6, d179_9, r179_10]⟩)
    (fun a i hi => by
      have hw := wrap_succ (n := i) (by omega)
      have c1 := specCount_eq (.node f v ks) ha (iAt vs i)
      have c2 := specCount_eq (.node f' v' ks') hb (iAt vs i)
      unfold stepF
      by_cases hq : lessAt (.node f v ks) (.node f' v' ks') vs i = true
      · rw [if_pos hq]
        have hq2 : countW (.node f v ks) (iAt vs i) < countW (.node f' v' ks') (iAt vs i) := by simpa [lessAt] using hq
        unfold countW at hq2
        exact ⟨by simp, by simp [cellsT, b179_0, r179_0, r179_1, r179_2, r179_3, r179_4, r179_5, d179_7, r179_8, r179_6, d179_9, r179_10, hi, hw, cut, iAt_lt hi, c1, c2, hq2]⟩
      · rw [if_neg hq]
        have hq2 : ¬ countW (.node f v ks) (iAt vs i) < countW (.node f' v' ks') (iAt vs i) := by simpa [lessAt] using hq
        unfold countW at hq2
        exact ⟨_, by simp [cellsT, b179_0, r179_0, r179_1, r179_2, r179_3, r179_4, r179_5, d179_7, r179_8, r179_6, d179_9, r179_10, hi, hw, cut, iAt_lt hi, c1, c2, hq2]; rfl, by simp [xheadOf, safeRegs, cellsT]⟩)
    vs.length () 0 ⟨[(0, .d (sg l)), (4, .ptr 0 0), (5, .ptr 1 0), (7, .d (is vs)), (8, .d (.int .i64 0))], cellsT f v ks ++ cellsT f' v' ks'⟩ (by omega) (by simp [xheadOf, safeRegs, cellsT])
  rw [runF] at h
  rw [h]
  cases findAt (lessAt (.node f v ks) (.node f' v' ks') vs) vs.length 0 <;> rfl
theorem specGreater_eq (l : List SymL) (hs : l.length ≤ 1048576) (hn : ∀ i, i < l.length → (symAt l i).name.size ≤ 1048576) (a b : T) (ha : a.inner ≤ 1048576) (hb : b.inner ≤ 1048576) : callX XV 179 [.d (sg l), .d (a.enc .sub), .d (b.enc .sub)] [] = some (.d (.bool (greaterB l a b)), []) := by
  obtain ⟨f, v, ks⟩ := a
  obtain ⟨f', v', ks'⟩ := b
  rw [z_call XV _ _ _ v179 rfl xcode_179 rfl]
  have o1 := specTermOk_eq l hs hn (.node f v ks) ha
  have o2 := specTermOk_eq l hs hn (.node f' v' ks') hb
  have va := specVarsOf_eq (.node f' v' ks') hb
  have w1 := specWeight_eq l hs (.node f v ks) ha
  have w2 := specWeight_eq l hs (.node f' v' ks') hb
  have hloop := specLoop l f v ks f' v' ks' ha hb (varsL (.node f' v' ks')) (by have := varsL_len (.node f' v' ks') hb; omega)
  have hlast := specLast l hs f v ks f' v' ks' ha hb
  unfold greaterB
  unfold weightW at hlast
  by_cases h1 : termOkB l (.node f v ks) = true
  · rw [h1] at o1 ⊢
    by_cases h2 : termOkB l (.node f' v' ks') = true
    · rw [h2] at o2 ⊢
      simp only [lin_179, cellsT, List.cons_append, List.nil_append] at hloop hlast
      simp only [z_region, List.replicate_zero, List.append_nil, List.length_cons, List.length_nil, Nat.zero_add, Nat.reduceAdd] at hlast
      cases hq : findAt (lessAt (.node f v ks) (.node f' v' ks') (varsL (.node f' v' ks'))) (varsL (.node f' v' ks')).length 0 with
      | none =>
        rw [hq] at hloop
        simp [v179, r179_0, r179_1, r179_2, r179_3, r179_4, o1, o2, va]
        rw [hloop]
        simp [d179_9, w1, w2]
        rw [hlast]
        simp
      | some j =>
        rw [hq] at hloop
        simp [v179, r179_0, r179_1, r179_2, r179_3, r179_4, o1, o2, va]
        rw [hloop]
        simp
    · have h2' : termOkB l (.node f' v' ks') = false := by simpa using h2
      rw [h2'] at o2 ⊢
      simp [v179, r179_0, r179_1, r179_2, o1, o2]
  · have h1' : termOkB l (.node f v ks) = false := by simpa using h1
    rw [h1'] at o1 ⊢
    simp [v179, r179_0, r179_1, r179_2, o1]
theorem FnExactGreater_x (l : List SymL) (hl : l.length ≤ maxLen) (ho : ∀ s, s ∈ l → s.ok) (a : T) (ha : a.ok) (b : T) (hb : b.ok) : ∃ B, callX XV 342 [.d (sg l), .d (a.enc .sub), .d (b.enc .sub)] [] = some (.d (.bool true), B) := by
  rw [z_call XV _ _ _ v342 rfl xcode_342 rfl]
  have z0 := szSymS_eq l 1048576 hl ho (by omega) (by omega)
  by_cases h0 : (1048576 : Int) - symsSize l < 0
  · rw [leftOf_neg h0] at z0
    simp [v342, r342_0, r342_1, r342_2, r342_3, r342_4, r342_5, r342_6, r342_7, r342_8, r342_9, r342_10, d342_11, r342_12, r342_13, r342_14, r342_15, r342_16, r342_17, r342_18, r342_19, d342_20, r342_21, d342_22, r342_23, r342_24, z0]
  rw [leftOf_pos h0] at z0
  have hls : l.length ≤ 1048576 := by unfold symsSize at h0; omega
  have hn : ∀ i, i < l.length → (symAt l i).name.size ≤ 1048576 := fun i hi => by have := name_le l i hi; omega
  have z1 := szTerm_eq a (1048576 - symsSize l) ha (by omega) (by omega)
  by_cases h1 : (1048576 : Int) - symsSize l - a.inner < 0
  · rw [leftOf_neg h1] at z1
    simp [v342, r342_0, r342_1, r342_2, r342_3, r342_4, r342_5, r342_6, r342_7, r342_8, r342_9, r342_10, d342_11, r342_12, r342_13, r342_14, r342_15, r342_16, r342_17, r342_18, r342_19, d342_20, r342_21, d342_22, r342_23, r342_24, z0, h0, z1]
  rw [leftOf_pos h1] at z1
  have z2 := szTerm_eq b (1048576 - symsSize l - a.inner) hb (by omega) (by omega)
  by_cases h2 : (1048576 : Int) - symsSize l - a.inner - b.inner < 0
  · rw [leftOf_neg h2] at z2
    simp [v342, r342_0, r342_1, r342_2, r342_3, r342_4, r342_5, r342_6, r342_7, r342_8, r342_9, r342_10, d342_11, r342_12, r342_13, r342_14, r342_15, r342_16, r342_17, r342_18, r342_19, d342_20, r342_21, d342_22, r342_23, r342_24, z0, h0, z1, h1, z2]
  rw [leftOf_pos h2] at z2
  have t0 := toSymS_eq l hls
  have t1 := toTerm_eq a (by omega)
  have t2 := toTerm_eq b (by omega)
  have s1 := specGreater_eq l hls hn a b (by omega) (by omega)
  have s2 := implGreater_eq l hls hn a b (by omega) (by omega)
  have e0 := eqSymS_self l hls
  have e1 := eqTerm_self a (by omega)
  have e2 := eqTerm_self b (by omega)
  simp [v342, r342_0, r342_1, r342_2, r342_3, r342_4, r342_5, r342_6, r342_7, r342_8, r342_9, r342_10, d342_11, r342_12, r342_13, r342_14, r342_15, r342_16, r342_17, r342_18, r342_19, d342_20, r342_21, d342_22, r342_23, r342_24, z0, h0, z1, h1, z2, h2, t0, t1, t2, s1, s2, e0, e1, e2, splice]
end Go.Proofs.Ytanfjghdjkiggaa.VS
