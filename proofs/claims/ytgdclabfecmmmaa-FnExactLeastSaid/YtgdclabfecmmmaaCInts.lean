/- Contracts of functions of the program and of the reference, on the evaluator. Condition: as each theorem says. -/
import Derived.Test.YtgdclabfecmmmaaCode
import Derived.Test.YtgdclabfecmmmaaEngB
namespace Go.Proofs.Ytgdclabfecmmmaa.VS
set_option linter.unusedVariables false
set_option linter.unusedSimpArgs false

/-! spec.NumIn -/
def stepIn (l : List Int) (v : Int) (_ : Unit) (i : Nat) : Unit ⊕ Unit := if l[i]? = some v then .inr () else .inl ()
theorem runIn (l : List Int) (v : Int) : ∀ (k i : Nat), i + k = l.length → runN (stepIn l v) k () i = if v ∈ l.drop i then .inr () else .inl ()
  | 0, i, h => by
    have : l.drop i = [] := List.drop_eq_nil_of_le (by omega)
    simp [runN, this]
  | k + 1, i, h => by
    have hlt : i < l.length := by omega
    rw [List.drop_eq_getElem_cons hlt]
    simp only [runN, stepIn, List.getElem?_eq_getElem hlt, Option.some.injEq, List.mem_cons]
    by_cases hv : l[i] = v
    · simp [hv]
    · have : ¬ v = l[i] := fun h => hv h.symm
      simp [hv, this, runIn l v k (i + 1) (by omega)]

theorem body53 (p : Id) (g : Tag) (l : List Int) (v : Int) (i c : Nat) (hlt : i < l.length) (hn : i + 1 < 9223372036854775808) :
    codeV E p b53_0 ⟨[(0, .d (ints g l)), (1, .d (.int .i64 v)), (5, .d (.int .i64 i))], [], Ids.none, c⟩ =
      some (if l[i]? = some v then (.ret, ⟨[(4, .d (.bool true))], [], Ids.none, c + 11⟩) else (.normal, ⟨[(0, .d (ints g l)), (1, .d (.int .i64 v)), (5, .d (.int .i64 (i + 1 : Nat)))], [], Ids.none, c + 13⟩)) := by
  have hw := wrap_succ hn
  by_cases h : l[i] = v
  · simp [b53_0, r53_2, r53_4, r53_5, r53_3, ints, hlt, hw, evOp, cut, h]
  · have h2 : (l[i] == v) = false := by simpa using h
    simp [b53_0, r53_2, r53_4, r53_5, r53_3, ints, hlt, hw, evOp, cut, h, h2]

theorem specNumIn_eq (p : Id) (g : Tag) (l : List Int) (v : Int) (hl : l.length ≤ 1048576) : callV E p 53 [.d (ints g l), .d (.int .i64 v)] [] Ids.none = some ⟨.d (.bool (decide (v ∈ l))), Ids.none, []⟩ := by
  rw [s_call E _ _ _ _ _ v53 rfl rfl rfl]
  obtain ⟨c', h⟩ := loop_upto (E := E) (p := p) (L := 0) (live := [0, 1, 5]) (b := b53_0) (n := l.length) (st := fun (_ : Unit) i c => ⟨[(0, .d (ints g l)), (1, .d (.int .i64 v)), (5, .d (.int .i64 i))], [], Ids.none, c⟩) (step := stepIn l v)
    (F := fun _ c => (.exit 0, ⟨[(0, .d (ints g l)), (1, .d (.int .i64 v)), (5, .d (.int .i64 l.length)), (9, .d (.bool false))], [], Ids.none, c⟩)) (R := fun _ c => (.ret, ⟨[(4, .d (.bool true))], [], Ids.none, c⟩))
    (fun a c => ⟨c + 4, by simp, by simp [b53_0, r53_2, ints]⟩)
    (fun a i c hi => by
      rw [body53 p g l v i c hi (by omega)]
      unfold stepIn
      split
      · exact ⟨_, by simp, rfl⟩
      · exact ⟨_, c + 13, rfl, by simp [headOf, safeRegs]⟩)
    l.length () 0 2 ⟨[(0, .d (ints g l)), (1, .d (.int .i64 v)), (5, .d (.int .i64 0))], [], Ids.none, 2⟩ (by omega) (by simp [headOf, safeRegs])
  simp [v53, r53_0, r53_1, r53_6]
  rw [h, runIn l v _ _ (by omega), List.drop_zero]
  by_cases hv : v ∈ l <;> simp [hv]

/-! slices.Index of whole numbers -/
def findI (l : List Int) (v : Int) : Nat → Nat → Option Nat
  | 0, _ => none
  | k + 1, i => if l[i]? = some v then some i else findI l v k (i + 1)
def stepIx (l : List Int) (v : Int) (_ : Unit) (i : Nat) : Unit ⊕ Nat := if l[i]? = some v then .inr i else .inl ()
theorem runIx (l : List Int) (v : Int) : ∀ (k i : Nat), runN (stepIx l v) k () i = match findI l v k i with | some j => .inr j | none => .inl ()
  | 0, i => rfl
  | k + 1, i => by
    simp only [runN, stepIx, findI]
    by_cases hv : l[i]? = some v
    · simp [hv]
    · simp [hv, runIx l v k (i + 1)]
theorem findI_mem (l : List Int) (v : Int) : ∀ (k i : Nat), i + k = l.length → ((findI l v k i).isSome ↔ v ∈ l.drop i)
  | 0, i, h => by
    have : l.drop i = [] := List.drop_eq_nil_of_le (by omega)
    simp [findI, this]
  | k + 1, i, h => by
    have hlt : i < l.length := by omega
    rw [List.drop_eq_getElem_cons hlt]
    simp only [findI, List.getElem?_eq_getElem hlt, Option.some.injEq, List.mem_cons]
    by_cases hv : l[i] = v
    · simp [hv]
    · have : ¬ v = l[i] := fun h => hv h.symm
      simp [hv, this, findI_mem l v k (i + 1) (by omega)]
/-- The first place of a number, or minus one. -/
def indexI (l : List Int) (v : Int) : Int := match findI l v l.length 0 with | some j => j | none => -1
theorem indexI_mem (l : List Int) (v : Int) : decide (0 ≤ indexI l v) = decide (v ∈ l) := by
  have h := findI_mem l v l.length 0 (by omega)
  rw [List.drop_zero] at h
  unfold indexI
  cases hq : findI l v l.length 0 with
  | none => simp [hq] at h; simp [h]
  | some j => simp [hq] at h; simp [h]

theorem body56 (p : Id) (g : Tag) (l : List Int) (v : Int) (i c : Nat) (hlt : i < l.length) (hn : i + 1 < 9223372036854775808) :
    codeV E p b56_0 ⟨[(0, .d (ints g l)), (1, .d (.int .i64 v)), (7, .d (.int .i64 l.length)), (8, .d (.int .i64 i))], [], Ids.none, c⟩ =
      some (if l[i]? = some v then (.ret, ⟨[(4, .d (.int .i64 i))], [], Ids.none, c + 11⟩) else (.normal, ⟨[(0, .d (ints g l)), (1, .d (.int .i64 v)), (7, .d (.int .i64 l.length)), (8, .d (.int .i64 (i + 1 : Nat)))], [], Ids.none, c + 11⟩)) := by
  have hw := wrap_succ hn
  by_cases h : l[i] = v
  · simp [b56_0, r56_2, r56_3, r56_4, r56_5, r56_6, ints, hlt, hw, evOp, cut, h]
  · have h2 : (v == l[i]) = false := by simpa using fun h' => h h'.symm
    simp [b56_0, r56_2, r56_3, r56_4, r56_5, r56_6, ints, hlt, hw, evOp, cut, h, h2]

theorem index_eq (p : Id) (g : Tag) (l : List Int) (v : Int) (hl : l.length ≤ 1048576) : callV E p 56 [.d (ints g l), .d (.int .i64 v)] [] Ids.none = some ⟨.d (.int .i64 (indexI l v)), Ids.none, []⟩ := by
  rw [s_call E _ _ _ _ _ v56 rfl rfl rfl]
  obtain ⟨c', h⟩ := loop_upto (E := E) (p := p) (L := 0) (live := [0, 1, 7, 8]) (b := b56_0) (n := l.length) (st := fun (_ : Unit) i c => ⟨[(0, .d (ints g l)), (1, .d (.int .i64 v)), (7, .d (.int .i64 l.length)), (8, .d (.int .i64 i))], [], Ids.none, c⟩) (step := stepIx l v)
    (F := fun _ c => (.exit 0, ⟨[(0, .d (ints g l)), (1, .d (.int .i64 v)), (7, .d (.int .i64 l.length)), (8, .d (.int .i64 l.length)), (9, .d (.bool false))], [], Ids.none, c⟩)) (R := fun (j : Nat) c => (.ret, ⟨[(4, .d (.int .i64 j))], [], Ids.none, c⟩))
    (fun a c => ⟨c + 1, by simp, by simp [b56_0, r56_2, ints]⟩)
    (fun a i c hi => by
      rw [body56 p g l v i c hi (by omega)]
      unfold stepIx
      split
      · exact ⟨_, by simp, rfl⟩
      · exact ⟨_, c + 11, rfl, by simp [headOf, safeRegs]⟩)
    l.length () 0 4 ⟨[(0, .d (ints g l)), (1, .d (.int .i64 v)), (7, .d (.int .i64 l.length)), (8, .d (.int .i64 0))], [], Ids.none, 4⟩ (by omega) (by simp [headOf, safeRegs])
  rw [runIx] at h
  simp [v56, r56_0, r56_1, r56_7]
  simp only [ints] at h ⊢
  simp
  rw [h]
  unfold indexI
  cases hq : findI l v l.length 0 <;> simp

theorem contains_eq (p : Id) (g : Tag) (l : List Int) (v : Int) (hl : l.length ≤ 1048576) : callV E p 55 [.d (ints g l), .d (.int .i64 v)] [] Ids.none = some ⟨.d (.bool (decide (v ∈ l))), Ids.none, []⟩ := by
  rw [s_call E _ _ _ _ _ v55 rfl rfl rfl, ← indexI_mem]
  simp [v55, r55_0, r55_1, evOp, index_eq _ g l v hl]
theorem implNumIn_eq (p : Id) (g : Tag) (l : List Int) (v : Int) (hl : l.length ≤ 1048576) : callV E p 54 [.d (ints g l), .d (.int .i64 v)] [] Ids.none = some ⟨.d (.bool (decide (v ∈ l))), Ids.none, []⟩ := by
  rw [s_call E _ _ _ _ _ v54 rfl rfl rfl]
  simp [v54, r54_0, r54_1, evOp, contains_eq _ g l v hl]

/-! laws.toIntS -/
def ivs (l : List Int) : List DV := l.map (.int .i64)
theorem ivs_cells (l : List Int) : ∀ x : DV, x ∈ ivs l → x.cells.length = 1 := by
  intro x hx; simp only [ivs, List.mem_map] at hx; obtain ⟨n, _, rfl⟩ := hx; rfl
theorem ivs_ok (l : List Int) : ∀ x : DV, x ∈ ivs l → elemOK false 1 x := by
  intro x hx; simp only [ivs, List.mem_map] at hx; obtain ⟨n, _, rfl⟩ := hx; exact ⟨rfl, rfl, by simp, fun _ => rfl⟩
def fillI (l : List Int) (i : Nat) : List AV := rowCells (filled (ivs l) (.int .i64 0) i)
theorem fillI_len (l : List Int) (i : Nat) : (fillI l i).length = l.length := by
  unfold fillI; rw [rowCells_len (filled_cells (ivs_cells l) rfl i), filled_len]; simp [ivs]
theorem fillI_step (l : List Int) (i : Nat) (h : i < l.length) : splice (fillI l i) i [.d (.int .i64 l[i])] = fillI l (i + 1) := by
  have h' : i < (ivs l).length := by simpa [ivs] using h
  have h1 := splice_row (i := i) (filled_cells (ivs_cells l) (z := .int .i64 0) rfl i) (e := (ivs l)[i]) (by simp [ivs, DV.cells]) (by rw [filled_len]; exact h')
  rw [filled_set _ _ _ h', Nat.mul_one] at h1
  unfold fillI
  rw [← h1]
  simp [ivs, DV.cells]
theorem fillI_zero (l : List Int) : ((List.replicate l.length (DV.int .i64 0)).flatMap DV.cells).map AV.d = fillI l 0 := by
  unfold fillI; rw [filled_zero, rowCells_rep]; simp [ivs]

theorem body41 (p : Id) (g : Tag) (l : List Int) (id : Id) (i c : Nat) (hlt : i < l.length) (hn : i + 1 < 9223372036854775808) :
    codeV E p b41_0 ⟨[(0, .d (ints g l)), (3, .bsl id false 0 1 l.length), (4, .d (.int .i64 i))], [some (fillI l i)], Ids.none, c⟩ =
      some (.normal, ⟨[(0, .d (ints g l)), (3, .bsl id false 0 1 l.length), (4, .d (.int .i64 (i + 1 : Nat)))], [some (fillI l (i + 1))], Ids.none, c + 15⟩) := by
  have hw := wrap_succ hn
  have hl := fillI_len l i
  have hst := fillI_step l i hlt
  have hle : i + 1 ≤ l.length := hlt
  simp [b41_0, r41_3, r41_5, r41_4, ints, hlt, hw, evOp, cut, badStore, storeBox, bget, hl, hst, hle]

theorem toIntS_ex (p : Id) (g : Tag) (l : List Int) (hl : l.length ≤ 1048576) : ∃ a, callV E p 41 [.d (ints g l)] [] Ids.none = some ⟨.d (ints (.own a 1) l), Ids.add a Ids.none, []⟩ := by
  rw [s_call E _ _ _ _ _ v41 rfl rfl rfl]
  obtain ⟨c', h⟩ := loop_upto (E := E) (p := p) (L := 1) (live := [0, 3, 4]) (b := b41_0) (n := l.length) (γ := Unit) (st := fun (_ : Unit) i c => ⟨[(0, .d (ints g l)), (3, .bsl (3 :: p) false 0 1 l.length), (4, .d (.int .i64 i))], [some (fillI l i)], Ids.none, c⟩) (step := fun _ _ => .inl ())
    (F := fun _ c => (.exit 0, ⟨[(0, .d (ints g l)), (3, .bsl (3 :: p) false 0 1 l.length), (4, .d (.int .i64 l.length)), (11, .d (.bool false))], [some (fillI l l.length)], Ids.none, c⟩)) (R := fun _ c => (.ret, ⟨[], [], Ids.none, c⟩))
    (fun a c => ⟨c + 4, by simp, by simp [b41_0, r41_3, ints]⟩)
    (fun a i c hi => by
      rw [body41 p g l (3 :: p) i c hi (by omega)]
      exact ⟨_, c + 15, rfl, by simp [headOf, safeRegs]⟩)
    l.length () 0 6 ⟨[(0, .d (ints g l)), (3, .bsl (3 :: p) false 0 1 l.length), (4, .d (.int .i64 0))], [some (fillI l 0)], Ids.none, 6⟩ (by omega) (by simp [headOf, safeRegs])
  have hrun : ∀ k i, runN (fun (_ : Unit) (_ : Nat) => (Sum.inl () : Unit ⊕ Unit)) k () i = .inl () := by
    intro k; induction k with
    | zero => intro i; rfl
    | succ k ih => intro i; exact ih _
  rw [hrun] at h
  have hz := fillI_zero l
  have hle : l.length ≤ 140737488355328 / 8 := by omega
  have hle2 : l.length * 8 ≤ 140737488355328 := by omega
  have hlt : (l.length : Int) < 9223372036854775808 := by omega
  have hall : fillI l l.length = rowCells (ivs l) := by
    unfold fillI
    have : (ivs l).length = l.length := by simp [ivs]
    rw [← this, filled_all]
  have hch := chunks_row (ivs l) (ivs_ok l)
  have hfl : (flat (ivs l)).length = l.length := by rw [flat_len (ivs_cells l)]; simp [ivs]
  have hil : (ivs l).length = l.length := by simp [ivs]
  rw [hil] at hch
  refine ⟨(c' + 2) :: p, ?_⟩
  simp only [ints] at h hz ⊢
  simp [v41, r41_0, r41_1, r41_2, r41_6, evOp, bfree, hz, hle2, hlt]
  rw [h]
  simp [bget, hall, datas_row, hch, hfl]
  exact ⟨by omega, rfl⟩

noncomputable def toIntS_id (p : Id) (g : Tag) (l : List Int) : Id := by
  classical exact if h : l.length ≤ 1048576 then (toIntS_ex p g l h).choose else []
theorem toIntS_eq (p : Id) (g : Tag) (l : List Int) (hl : l.length ≤ 1048576) : callV E p 41 [.d (ints g l)] [] Ids.none = some ⟨.d (ints (.own (toIntS_id p g l) 1) l), Ids.add (toIntS_id p g l) Ids.none, []⟩ := by
  unfold toIntS_id
  rw [dif_pos hl]
  exact (toIntS_ex p g l hl).choose_spec

/-! laws.eqIntS -/
theorem draw44 : drawOK r44_6 = true := by decide
def stepEq (l l' : List Int) (_ : Unit) (i : Nat) : Unit ⊕ Unit := if l[i]? = l'[i]? then .inl () else .inr ()
theorem runEq (l l' : List Int) (hl : l.length = l'.length) : ∀ (k i : Nat), i + k = l.length → runN (stepEq l l') k () i = if l.drop i = l'.drop i then .inl () else .inr ()
  | 0, i, h => by
    have h1 : l.drop i = [] := List.drop_eq_nil_of_le (by omega)
    have h2 : l'.drop i = [] := List.drop_eq_nil_of_le (by omega)
    simp [runN, h1, h2]
  | k + 1, i, h => by
    have hlt : i < l.length := by omega
    have hlt' : i < l'.length := by omega
    rw [List.drop_eq_getElem_cons hlt, List.drop_eq_getElem_cons hlt']
    simp only [runN, stepEq, List.getElem?_eq_getElem hlt, List.getElem?_eq_getElem hlt', Option.some.injEq, List.cons.injEq]
    by_cases hv : l[i] = l'[i]
    · simp [hv, runEq l l' hl k (i + 1) (by omega)]
    · simp [hv]

theorem body44 (p : Id) (g g' : Tag) (l l' : List Int) (hl : l.length = l'.length) (i c : Nat) (hlt : i < l.length) (hn : i + 1 < 9223372036854775808) :
    codeV E p b44_0 ⟨[(0, .d (ints g l)), (1, .d (ints g' l')), (5, .d (.int .i64 i))], [], Ids.none, c⟩ =
      some (if l[i]? = l'[i]? then (.normal, ⟨[(0, .d (ints g l)), (1, .d (ints g' l')), (5, .d (.int .i64 (i + 1 : Nat)))], [], Ids.none, c + 16⟩) else (.ret, ⟨[(4, .d (.bool false))], [], Ids.none, c + 14⟩)) := by
  have hw := wrap_succ hn
  have hlt' : i < l'.length := by omega
  have hd := draw44
  unfold r44_6 at hd
  by_cases h : l[i] = l'[i]
  · simp [b44_0, r44_4, r44_6, r44_7, r44_5, s_draw _ _ _ _ _ hd, ints, hlt, hlt', hw, evOp, cut, h]
  · have h2 : (l[i] != l'[i]) = true := by simpa using h
    simp [b44_0, r44_4, r44_6, r44_7, r44_5, s_draw _ _ _ _ _ hd, ints, hlt, hlt', hw, evOp, cut, h, h2]

theorem eqIntS_eq (p : Id) (g g' : Tag) (l l' : List Int) (hl : l.length ≤ 1048576) : callV E p 44 [.d (ints g l), .d (ints g' l')] [] Ids.none = some ⟨.d (.bool (decide (l = l'))), Ids.none, []⟩ := by
  rw [s_call E _ _ _ _ _ v44 rfl rfl rfl]
  by_cases hll : l.length = l'.length
  · obtain ⟨c', h⟩ := loop_upto (E := E) (p := p) (L := 0) (live := [0, 1, 5]) (b := b44_0) (n := l.length) (st := fun (_ : Unit) i c => ⟨[(0, .d (ints g l)), (1, .d (ints g' l')), (5, .d (.int .i64 i))], [], Ids.none, c⟩) (step := stepEq l l')
      (F := fun _ c => (.exit 0, ⟨[(0, .d (ints g l)), (1, .d (ints g' l')), (5, .d (.int .i64 l.length)), (14, .d (.bool false))], [], Ids.none, c⟩)) (R := fun _ c => (.ret, ⟨[(4, .d (.bool false))], [], Ids.none, c⟩))
      (fun a c => ⟨c + 4, by simp, by simp [b44_0, r44_4, ints]⟩)
      (fun a i c hi => by
        rw [body44 p g g' l l' hll i c hi (by omega)]
        unfold stepEq
        split
        · exact ⟨_, c + 16, rfl, by simp [headOf, safeRegs]⟩
        · exact ⟨_, by simp, rfl⟩)
      l.length () 0 7 ⟨[(0, .d (ints g l)), (1, .d (ints g' l')), (5, .d (.int .i64 0))], [], Ids.none, 7⟩ (by omega) (by simp [headOf, safeRegs])
    rw [runEq l l' hll _ _ (by omega), List.drop_zero, List.drop_zero] at h
    simp only [ints] at h ⊢
    simp [v44, r44_0, r44_1, r44_2, r44_3, r44_8, hll]
    rw [h]
    by_cases hv : l = l' <;> simp [hv]
  · have h1 : ((l.length : Int) != (l'.length : Int)) = true := by simp; omega
    have h2 : ¬ l = l' := fun h => hll (by rw [h])
    simp [v44, r44_0, r44_1, r44_2, r44_3, r44_8, ints, h1, h2]

theorem FnExactNumIn_eq (p : Id) (g : Tag) (l : List Int) (v : Int) : ∃ A, callV E p 52 [.d (ints g l), .d (.int .i64 v)] [] Ids.none = some ⟨.d (.bool true), A, []⟩ := by
  rw [s_call E _ _ _ _ _ v52 rfl rfl rfl]
  cases h1 : decide ((1048576 : Int) < l.length)
  · have h2 : l.length ≤ 1048576 := by simp at h1; omega
    have h3 : ∀ q g, callV E q 41 [.d (ints g l)] [] Ids.none = _ := fun q g => toIntS_eq q g l h2
    have h4 : ∀ q g, callV E q 53 [.d (ints g l), .d (.int .i64 v)] [] Ids.none = _ := fun q g => specNumIn_eq q g l v h2
    have h5 : ∀ q g, callV E q 54 [.d (ints g l), .d (.int .i64 v)] [] Ids.none = _ := fun q g => implNumIn_eq q g l v h2
    have h6 : ∀ q g g', callV E q 44 [.d (ints g l), .d (ints g' l)] [] Ids.none = _ := fun q g g' => eqIntS_eq q g g' l l h2
    simp only [ints] at h3 h4 h5 h6 ⊢
    apply Exists.intro
    simp [v52, r52_0, r52_1, r52_2, r52_3, r52_4, r52_5, r52_6, r52_7, r52_8, r52_9, r52_10, h1, evOp, h3, h4, h5, h6]
    rfl
  · apply Exists.intro
    simp [v52, r52_0, r52_1, r52_2, r52_3, r52_4, r52_5, r52_6, r52_7, r52_8, r52_9, r52_10, h1, ints]
    rfl

theorem FnExactNumIn_law (p : Id) (g : Tag) (l : List Int) (hl : l.length ≤ maxLen) (ho : ∀ n, n ∈ l → -9223372036854775808 ≤ n ∧ n ≤ 9223372036854775807) (v : Int) (hv : -9223372036854775808 ≤ v ∧ v ≤ 9223372036854775807) :
    ∃ A, callV E p 52 [.d (ints g l), .d (.int .i64 v)] [] Ids.none = some ⟨.d (.bool true), A, []⟩ := FnExactNumIn_eq p g l v
end Go.Proofs.Ytgdclabfecmmmaa.VS
