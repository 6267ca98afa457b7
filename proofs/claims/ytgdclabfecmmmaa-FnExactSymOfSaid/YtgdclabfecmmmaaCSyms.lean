/- Contracts of functions of the program and of the reference, on the evaluator. Condition: as each theorem says. -/
import Derived.Test.YtgdclabfecmmmaaCode
import Derived.Test.YtgdclabfecmmmaaEngB
namespace Go.Proofs.Ytgdclabfecmmmaa.VS
set_option linter.unusedVariables false
set_option linter.unusedSimpArgs false

/-! The laws' own functions on signatures -/
theorem wrap_sub {n : Int} (h : -9223372036854775808 ≤ n) (h' : n < 9223372036854775808) : IntKind.i64.wrap n = n := wrap_i64 h h'

/-- What is left of a size, or minus one. -/
def less (left : Int) (n : Nat) : Int := if left - n < 0 then -1 else left - n

theorem szSym_eq (p : Id) (s : SymL) (left : Int) (h0 : 0 ≤ left) (h1 : left ≤ 1048576) (hs : s.name.size ≤ maxLen) : callV E p 17 [.d s.enc, .d (.int .i64 left)] [] Ids.none = some ⟨.d (.int .i64 (less left s.name.size)), Ids.none, []⟩ := by
  rw [s_call E _ _ _ _ _ v17 rfl rfl rfl]
  have hw : IntKind.i64.wrap (left - s.name.size) = left - s.name.size := wrap_sub (by unfold maxLen at hs; omega) (by omega)
  unfold less
  by_cases h : left - s.name.size < 0
  · simp [v17, r17_0, r17_1, r17_2, r17_3, r17_4, SymL.enc, SymL.cells, evOp, bfree, bget, hw, h]
  · simp [v17, r17_0, r17_1, r17_2, r17_3, r17_4, SymL.enc, SymL.cells, evOp, bfree, bget, hw, h]

theorem toSym_eq (p : Id) (s : SymL) : callV E p 16 [.d s.enc] [] Ids.none = some ⟨.d s.enc, Ids.none, []⟩ := by
  rw [s_call E _ _ _ _ _ v16 rfl rfl rfl]
  simp [v16, r16_0, r16_1, r16_2, r16_3, r16_4, r16_5, SymL.enc, SymL.cells, evOp, bfree, bget, badStore, storeBox, splice]

def symEq (s s' : SymL) : Bool := strEq s.name s'.name && decide (s.arity = s'.arity) && (s.ac == s'.ac)
theorem eqSym_eq (p : Id) (s s' : SymL) : callV E p 20 [.d s.enc, .d s'.enc] [] Ids.none = some ⟨.d (.bool (symEq s s')), Ids.none, []⟩ := by
  rw [s_call E _ _ _ _ _ v20 rfl rfl rfl]
  cases h1 : strEq s.name s'.name
  · simp [v20, r20_0, r20_1, r20_2, SymL.enc, SymL.cells, evOp, bfree, bget, evBin, h1, symEq]
  · by_cases h2 : s.arity = s'.arity
    · cases h3 : s.ac <;> cases h4 : s'.ac <;> simp [v20, r20_0, r20_1, r20_2, r20_3, r20_4, r20_5, r20_6, r20_7, SymL.enc, SymL.cells, evOp, bfree, bget, evBin, h1, h2, h3, h4, symEq]
    · have h5 : (s.arity != s'.arity) = true := by simpa using h2
      simp [v20, r20_0, r20_1, r20_2, r20_3, r20_4, SymL.enc, SymL.cells, evOp, bfree, bget, evBin, h1, h2, h5, symEq]

def symAt (l : List SymL) (i : Nat) : SymL := (l[i]?).getD ⟨⟨#[]⟩, 0, false⟩
theorem symAt_lt {l : List SymL} {i : Nat} (h : i < l.length) : l[i] = symAt l i := by simp [symAt, h]
theorem symAt_mem {l : List SymL} {i : Nat} (h : i < l.length) : symAt l i ∈ l := by rw [← symAt_lt h]; exact List.getElem_mem h

def stepSz (l : List SymL) (left : Int) (i : Nat) : Int ⊕ Unit := if left - (symAt l i).name.size < 0 then .inr () else .inl (left - (symAt l i).name.size)

theorem body11 (p : Id) (g : Tag) (l : List SymL) (left : Int) (i c : Nat) (hlt : i < l.length) (hn : i + 1 < 9223372036854775808) (h0 : 0 ≤ left) (h1 : left ≤ 1048576) (hs : (symAt l i).name.size ≤ maxLen) :
    ∃ c', codeV E p b11_0 ⟨[(0, .d (syms g l)), (1, .d (.int .i64 left)), (5, .d (.int .i64 i))], [], Ids.none, c⟩ =
      some (match stepSz l left i with | .inl left' => (.normal, ⟨[(0, .d (syms g l)), (1, .d (.int .i64 left')), (5, .d (.int .i64 (i + 1 : Nat)))], [], Ids.none, c'⟩) | .inr () => (.ret, ⟨[(4, .d (.int .i64 (-1)))], [], Ids.none, c'⟩)) := by
  have hw := wrap_succ hn
  have e1 := symAt_lt hlt
  have hc := fun q => szSym_eq q (symAt l i) left h0 h1 hs
  simp only [SymL.enc, SymL.cells] at hc
  unfold stepSz
  by_cases h : left - (symAt l i).name.size < 0
  · rw [if_pos h]
    have hl : less left (symAt l i).name.size = -1 := by unfold less; rw [if_pos h]
    apply Exists.intro
    simp [b11_0, r11_5, r11_6, r11_7, r11_8, r11_9, syms, SymL.enc, SymL.cells, hlt, hw, evOp, cut, e1, hc, hl]
    rfl
  · rw [if_neg h]
    have hl : less left (symAt l i).name.size = left - (symAt l i).name.size := by unfold less; rw [if_neg h]
    apply Exists.intro
    simp [b11_0, r11_5, r11_6, r11_7, r11_8, r11_9, syms, SymL.enc, SymL.cells, hlt, hw, evOp, cut, e1, hc, hl, h]
    rfl

/-- What is left behind a signature's size. -/
def lessSyms (l : List SymL) (left : Int) : Int := if left - l.length < 0 then -1 else match runN (stepSz l) l.length (left - l.length) 0 with | .inl r => r | .inr () => -1

theorem runSz_le (l : List SymL) : ∀ (k : Nat) (left : Int) (i : Nat), 0 ≤ left → left ≤ 1048576 → ∀ r, runN (stepSz l) k left i = .inl r → 0 ≤ r ∧ r ≤ 1048576
  | 0, left, i, h0, h1, r, h => by simp [runN] at h; omega
  | k + 1, left, i, h0, h1, r, h => by
    simp only [runN, stepSz] at h
    by_cases h2 : left - (symAt l i).name.size < 0
    · simp [h2] at h
    · simp only [h2, if_false] at h
      exact runSz_le l k _ _ (by omega) (by omega) r h


theorem szSymS_eq (p : Id) (g : Tag) (l : List SymL) (left : Int) (hl : l.length ≤ maxLen) (ho : ∀ s, s ∈ l → s.ok) (h0 : 0 ≤ left) (h1 : left ≤ 1048576) : callV E p 11 [.d (syms g l), .d (.int .i64 left)] [] Ids.none = some ⟨.d (.int .i64 (lessSyms l left)), Ids.none, []⟩ := by
  rw [s_call E _ _ _ _ _ v11 rfl rfl rfl]
  have hw : IntKind.i64.wrap (left - l.length) = left - l.length := wrap_sub (by unfold maxLen at hl; omega) (by omega)
  unfold lessSyms
  by_cases h : left - l.length < 0
  · simp [v11, r11_0, r11_1, r11_2, r11_3, syms, hw, h]
  · obtain ⟨c', hloop⟩ := loop_inv (E := E) (p := p) (L := 0) (live := [0, 1, 5]) (b := b11_0) (n := l.length) (γ := Unit) (st := fun (left : Int) i c => ⟨[(0, .d (syms g l)), (1, .d (.int .i64 left)), (5, .d (.int .i64 i))], [], Ids.none, c⟩) (step := stepSz l)
      (F := fun left c => (.exit 0, ⟨[(0, .d (syms g l)), (1, .d (.int .i64 left)), (5, .d (.int .i64 l.length)), (15, .d (.bool false))], [], Ids.none, c⟩)) (R := fun _ c => (.ret, ⟨[(4, .d (.int .i64 (-1)))], [], Ids.none, c⟩))
      (fun left _ => 0 ≤ left ∧ left ≤ 1048576)
      (fun left c _ => ⟨c + 4, by simp, by simp [b11_0, r11_5, syms]⟩)
      (fun left i c hi hinv => by
        obtain ⟨c2, hb⟩ := body11 p g l left i c hi (by unfold maxLen at hl; omega) hinv.1 hinv.2 (ho _ (symAt_mem hi)).1
        rw [hb]
        unfold stepSz
        by_cases h2 : left - (symAt l i).name.size < 0
        · simp only [h2, if_true]
          exact ⟨⟨_, by simp, rfl⟩, fun a' h => by simp at h⟩
        · simp only [h2, if_false]
          exact ⟨⟨_, c2, rfl, by simp [headOf, safeRegs]⟩, fun a' h => by simp at h; subst h; exact ⟨by omega, by omega⟩⟩)
      l.length (left - l.length) 0 9 ⟨[(0, .d (syms g l)), (1, .d (.int .i64 (left - l.length))), (5, .d (.int .i64 0))], [], Ids.none, 9⟩ (by omega) ⟨by omega, by omega⟩ (by simp [headOf, safeRegs])
    rw [if_neg h]
    simp only [syms] at hloop ⊢
    simp [v11, r11_0, r11_1, r11_2, r11_3, r11_4, hw, h]
    rw [hloop]
    generalize runN (stepSz l) l.length (left - l.length) 0 = q
    cases q with
    | inr u => simp
    | inl r => simp [r11_10]

/-! laws.toSymS -/
def symvs (l : List SymL) : List DV := l.map SymL.enc
theorem symvs_cells (l : List SymL) : ∀ x : DV, x ∈ symvs l → x.cells.length = 3 := by
  intro x hx; simp only [symvs, List.mem_map] at hx; obtain ⟨n, _, rfl⟩ := hx; rfl
theorem symvs_ok (l : List SymL) : ∀ x : DV, x ∈ symvs l → elemOK true 3 x := by
  intro x hx; simp only [symvs, List.mem_map] at hx; obtain ⟨n, _, rfl⟩ := hx; exact ⟨rfl, rfl, fun _ => ⟨_, rfl⟩, by simp⟩
def zSym : DV := .agg [.str ⟨#[]⟩, .int .i64 0, .bool false]
def fillS (l : List SymL) (i : Nat) : List AV := rowCells (filled (symvs l) zSym i)
theorem fillS_len (l : List SymL) (i : Nat) : (fillS l i).length = l.length * 3 := by
  unfold fillS; rw [rowCells_len (filled_cells (symvs_cells l) rfl i), filled_len]; simp [symvs]
theorem fillS_step (l : List SymL) (i : Nat) (h : i < l.length) : splice (fillS l i) (i * 3) [.d (.str (symAt l i).name), .d (.int .i64 (symAt l i).arity), .d (.bool (symAt l i).ac)] = fillS l (i + 1) := by
  have h' : i < (symvs l).length := by simpa [symvs] using h
  have h1 := splice_row (i := i) (filled_cells (symvs_cells l) (z := zSym) rfl i) (e := (symvs l)[i]) (by simp [symvs, DV.cells, SymL.enc, SymL.cells]) (by rw [filled_len]; exact h')
  rw [filled_set _ _ _ h'] at h1
  unfold fillS
  rw [← h1]
  simp [symvs, DV.cells, SymL.enc, SymL.cells, symAt_lt h]
theorem fillS_zero (l : List SymL) : ((List.replicate l.length zSym).flatMap DV.cells).map AV.d = fillS l 0 := by
  unfold fillS; rw [filled_zero, rowCells_rep]; simp [symvs]

theorem body12 (p : Id) (g : Tag) (l : List SymL) (id : Id) (i c : Nat) (hlt : i < l.length) (hn : i + 1 < 9223372036854775808) :
    codeV E p b12_0 ⟨[(0, .d (syms g l)), (3, .bsl id true 0 3 l.length), (4, .d (.int .i64 i))], [some (fillS l i)], Ids.none, c⟩ =
      some (.normal, ⟨[(0, .d (syms g l)), (3, .bsl id true 0 3 l.length), (4, .d (.int .i64 (i + 1 : Nat)))], [some (fillS l (i + 1))], Ids.none, c + 16⟩) := by
  have hw := wrap_succ hn
  have hl := fillS_len l i
  have e1 := symAt_lt hlt
  have hst := fillS_step l i hlt
  have hle : i * 3 + 3 ≤ l.length * 3 := by omega
  have hc := fun q => toSym_eq q (symAt l i)
  simp only [SymL.enc, SymL.cells] at hc
  simp [b12_0, r12_3, r12_5, r12_4, syms, SymL.enc, SymL.cells, hlt, hw, evOp, cut, badStore, storeBox, bget, hl, hst, hle, e1, hc]

theorem runN_inl {β : Type} (k : Nat) (a : β) (i : Nat) : runN (γ := Unit) (fun (a : β) (_ : Nat) => .inl a) k a i = .inl a := by
  induction k generalizing i with
  | zero => rfl
  | succ k ih => exact ih _

theorem toSymS_ex (p : Id) (g : Tag) (l : List SymL) (hl : l.length ≤ 1048576) : ∃ a, callV E p 12 [.d (syms g l)] [] Ids.none = some ⟨.d (syms (.own a 3) l), Ids.add a Ids.none, []⟩ := by
  rw [s_call E _ _ _ _ _ v12 rfl rfl rfl]
  obtain ⟨c', h⟩ := loop_upto (E := E) (p := p) (L := 1) (live := [0, 3, 4]) (b := b12_0) (n := l.length) (γ := Unit) (st := fun (_ : Unit) i c => ⟨[(0, .d (syms g l)), (3, .bsl (3 :: p) true 0 3 l.length), (4, .d (.int .i64 i))], [some (fillS l i)], Ids.none, c⟩) (step := fun a _ => .inl a)
    (F := fun _ c => (.exit 0, ⟨[(0, .d (syms g l)), (3, .bsl (3 :: p) true 0 3 l.length), (4, .d (.int .i64 l.length)), (11, .d (.bool false))], [some (fillS l l.length)], Ids.none, c⟩)) (R := fun _ c => (.ret, ⟨[], [], Ids.none, c⟩))
    (fun a c => ⟨c + 4, by simp, by simp [b12_0, r12_3, syms]⟩)
    (fun a i c hi => by
      rw [body12 p g l (3 :: p) i c hi (by omega)]
      exact ⟨_, c + 16, rfl, by simp [headOf, safeRegs]⟩)
    l.length () 0 6 ⟨[(0, .d (syms g l)), (3, .bsl (3 :: p) true 0 3 l.length), (4, .d (.int .i64 0))], [some (fillS l 0)], Ids.none, 6⟩ (by omega) (by simp [headOf, safeRegs])
  rw [runN_inl] at h
  have hz := fillS_zero l
  unfold zSym at hz
  have hle2 : l.length * 32 ≤ 140737488355328 := by omega
  have hlt : (l.length : Int) < 9223372036854775808 := by omega
  have hil : (symvs l).length = l.length := by simp [symvs]
  have hall : fillS l l.length = rowCells (symvs l) := by
    unfold fillS
    rw [← hil, filled_all]
  have hch := chunks_row (symvs l) (symvs_ok l)
  have hfl : (flat (symvs l)).length = l.length * 3 := by rw [flat_len (symvs_cells l), hil]
  rw [hil] at hch
  refine ⟨(c' + 2) :: p, ?_⟩
  simp only [syms] at h hz ⊢
  simp [v12, r12_0, r12_1, r12_2, r12_6, evOp, bfree, hz, hle2, hlt]
  rw [h]
  simp [bget, hall, datas_row, hch, hfl]
  exact ⟨by omega, rfl⟩

noncomputable def toSymS_id (p : Id) (g : Tag) (l : List SymL) : Id := by
  classical exact if h : l.length ≤ 1048576 then (toSymS_ex p g l h).choose else []
theorem toSymS_eq (p : Id) (g : Tag) (l : List SymL) (hl : l.length ≤ 1048576) : callV E p 12 [.d (syms g l)] [] Ids.none = some ⟨.d (syms (.own (toSymS_id p g l) 3) l), Ids.add (toSymS_id p g l) Ids.none, []⟩ := by
  unfold toSymS_id
  rw [dif_pos hl]
  exact (toSymS_ex p g l hl).choose_spec

/-! laws.eqSymS, of a signature with itself -/
theorem strEq_self (s : ByteArray) : strEq s s = true := by simp [strEq]
theorem symEq_self (s : SymL) : symEq s s = true := by simp [symEq, strEq_self]
theorem draw15 : drawOK r15_6 = true := by decide

theorem body15 (p : Id) (g g' : Tag) (l : List SymL) (i c : Nat) (hlt : i < l.length) (hn : i + 1 < 9223372036854775808) :
    codeV E p b15_0 ⟨[(0, .d (syms g l)), (1, .d (syms g' l)), (5, .d (.int .i64 i))], [], Ids.none, c⟩ = some (.normal, ⟨[(0, .d (syms g l)), (1, .d (syms g' l)), (5, .d (.int .i64 (i + 1 : Nat)))], [], Ids.none, c + 17⟩) := by
  have hw := wrap_succ hn
  have hd := draw15
  unfold r15_6 at hd
  have e1 := symAt_lt hlt
  have hc := fun q => eqSym_eq q (symAt l i) (symAt l i)
  simp only [SymL.enc, SymL.cells, symEq_self] at hc
  simp [b15_0, r15_4, r15_6, r15_7, r15_5, s_draw _ _ _ _ _ hd, syms, SymL.enc, SymL.cells, hlt, hw, evOp, cut, e1, hc]

theorem eqSymS_self (p : Id) (g g' : Tag) (l : List SymL) (hl : l.length ≤ 1048576) : callV E p 15 [.d (syms g l), .d (syms g' l)] [] Ids.none = some ⟨.d (.bool true), Ids.none, []⟩ := by
  rw [s_call E _ _ _ _ _ v15 rfl rfl rfl]
  obtain ⟨c', h⟩ := loop_upto (E := E) (p := p) (L := 0) (live := [0, 1, 5]) (b := b15_0) (n := l.length) (γ := Unit) (st := fun (_ : Unit) i c => ⟨[(0, .d (syms g l)), (1, .d (syms g' l)), (5, .d (.int .i64 i))], [], Ids.none, c⟩) (step := fun a _ => .inl a)
    (F := fun _ c => (.exit 0, ⟨[(0, .d (syms g l)), (1, .d (syms g' l)), (5, .d (.int .i64 l.length)), (14, .d (.bool false))], [], Ids.none, c⟩)) (R := fun _ c => (.ret, ⟨[], [], Ids.none, c⟩))
    (fun a c => ⟨c + 4, by simp, by simp [b15_0, r15_4, syms]⟩)
    (fun a i c hi => by
      rw [body15 p g g' l i c hi (by omega)]
      exact ⟨_, c + 17, rfl, by simp [headOf, safeRegs]⟩)
    l.length () 0 7 ⟨[(0, .d (syms g l)), (1, .d (syms g' l)), (5, .d (.int .i64 0))], [], Ids.none, 7⟩ (by omega) (by simp [headOf, safeRegs])
  rw [runN_inl] at h
  simp only [syms] at h ⊢
  simp [v15, r15_0, r15_1, r15_3, r15_8]
  rw [h]
  simp
end Go.Proofs.Ytgdclabfecmmmaa.VS
