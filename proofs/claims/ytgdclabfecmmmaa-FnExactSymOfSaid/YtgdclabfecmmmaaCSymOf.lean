/- Contracts of functions of the program and of the reference, on the evaluator. Condition: as each theorem says. -/
import Derived.Test.YtgdclabfecmmmaaCBlind
namespace Go.Proofs.Ytgdclabfecmmmaa.VS
set_option linter.unusedVariables false
set_option linter.unusedSimpArgs false

/-- The first place from i on where it holds, in k places. -/
def findAt (q : Nat → Bool) : Nat → Nat → Option Nat
  | 0, _ => none
  | k + 1, i => if q i then some i else findAt q k (i + 1)
def stepF (q : Nat → Bool) (_ : Unit) (i : Nat) : Unit ⊕ Nat := if q i then .inr i else .inl ()
theorem runF (q : Nat → Bool) : ∀ (k i : Nat), runN (stepF q) k () i = match findAt q k i with | some j => .inr j | none => .inl ()
  | 0, i => rfl
  | k + 1, i => by
    simp only [runN, stepF, findAt]
    cases h : q i
    · simp [runF q k (i + 1)]
    · simp
def orNeg : Option Nat → Int
  | some j => j
  | none => -1
def symOfB (l : List SymL) (name : ByteArray) : Int := orNeg (findAt (fun i => strEq (symAt l i).name name) l.length 0)

theorem body13 (p : Id) (g : Tag) (l : List SymL) (name : ByteArray) (i c : Nat) (hlt : i < l.length) (hn : i + 1 < 9223372036854775808) :
    ∃ c', codeV E p b13_0 ⟨[(0, .d (syms g l)), (1, .d (.str name)), (5, .d (.int .i64 i))], [], Ids.none, c⟩ =
      some (if strEq (symAt l i).name name = true then (.ret, ⟨[(4, .d (.int .i64 i))], [], Ids.none, c'⟩) else (.normal, ⟨[(0, .d (syms g l)), (1, .d (.str name)), (5, .d (.int .i64 (i + 1 : Nat)))], [], Ids.none, c'⟩)) := by
  have hw := wrap_succ hn
  have e1 := symAt_lt hlt
  cases h : strEq (symAt l i).name name
  · apply Exists.intro
    simp [b13_0, r13_2, r13_4, r13_5, r13_3, syms, SymL.enc, SymL.cells, hlt, hw, evOp, cut, e1, evBin, h]
    rfl
  · apply Exists.intro
    simp [b13_0, r13_2, r13_4, r13_5, r13_3, syms, SymL.enc, SymL.cells, hlt, hw, evOp, cut, e1, evBin, h]
    rfl

theorem specSymOf_eq (p : Id) (g : Tag) (l : List SymL) (name : ByteArray) (hl : l.length ≤ 1048576) : callV E p 13 [.d (syms g l), .d (.str name)] [] Ids.none = some ⟨.d (.int .i64 (symOfB l name)), Ids.none, []⟩ := by
  rw [s_call E _ _ _ _ _ v13 rfl rfl rfl]
  obtain ⟨c', h⟩ := loop_upto (E := E) (p := p) (L := 0) (live := [0, 1, 5]) (b := b13_0) (n := l.length) (st := fun (_ : Unit) i c => ⟨[(0, .d (syms g l)), (1, .d (.str name)), (5, .d (.int .i64 i))], [], Ids.none, c⟩) (step := stepF fun i => strEq (symAt l i).name name)
    (F := fun _ c => (.exit 0, ⟨[(0, .d (syms g l)), (1, .d (.str name)), (5, .d (.int .i64 l.length)), (9, .d (.bool false))], [], Ids.none, c⟩)) (R := fun (j : Nat) c => (.ret, ⟨[(4, .d (.int .i64 j))], [], Ids.none, c⟩))
    (fun a c => ⟨c + 4, by simp, by simp [b13_0, r13_2, syms]⟩)
    (fun a i c hi => by
      obtain ⟨c2, hb⟩ := body13 p g l name i c hi (by omega)
      rw [hb]
      unfold stepF
      split
      · exact ⟨_, by simp, rfl⟩
      · exact ⟨_, c2, rfl, by simp [headOf, safeRegs]⟩)
    l.length () 0 2 ⟨[(0, .d (syms g l)), (1, .d (.str name)), (5, .d (.int .i64 0))], [], Ids.none, 2⟩ (by omega) (by simp [headOf, safeRegs])
  rw [runF] at h
  simp only [syms] at h ⊢
  simp [v13, r13_0, r13_1, r13_6]
  rw [h]
  unfold symOfB
  cases hq : findAt (fun i => strEq (symAt l i).name name) l.length 0 <;> simp [orNeg]

/-! slices.IndexFunc over a signature, with a function that answers alone -/
theorem body19 (p : Id) (g : Tag) (l : List SymL) (fk : Nat) (caps : List AV) (B : Boxs) (A : Ids) (P : SymL → Bool) (i c : Nat) (hlt : i < l.length) (hn : i + 1 < 9223372036854775808)
    (hf : ∀ q, callV E q fk (.d (symAt l i).enc :: caps) B A = some ⟨.d (.bool (P (symAt l i))), A, B⟩) :
    ∃ c', codeV E p b19_0 ⟨[(0, .d (syms g l)), (1, .fn fk caps), (7, .d (.int .i64 l.length)), (8, .d (.int .i64 i))], B, A, c⟩ =
      some (if P (symAt l i) = true then (.ret, ⟨[(4, .d (.int .i64 i))], B, A, c'⟩) else (.normal, ⟨[(0, .d (syms g l)), (1, .fn fk caps), (7, .d (.int .i64 l.length)), (8, .d (.int .i64 (i + 1 : Nat)))], B, A, c'⟩)) := by
  have hw := wrap_succ hn
  have e1 := symAt_lt hlt
  simp only [SymL.enc, SymL.cells] at hf
  cases h : P (symAt l i)
  · rw [h] at hf
    apply Exists.intro
    simp [b19_0, r19_2, r19_3, r19_4, r19_5, r19_6, syms, SymL.enc, SymL.cells, hlt, hw, evOp, cut, e1, hf]
    rfl
  · rw [h] at hf
    apply Exists.intro
    simp [b19_0, r19_2, r19_3, r19_4, r19_5, r19_6, syms, SymL.enc, SymL.cells, hlt, hw, evOp, cut, e1, hf]
    rfl

theorem indexFuncS_eq (p : Id) (g : Tag) (l : List SymL) (fk : Nat) (caps : List AV) (B : Boxs) (A : Ids) (P : SymL → Bool) (hl : l.length ≤ 1048576) (hs : AV.safe.safes B.length caps = true)
    (hf : ∀ q s, s ∈ l → callV E q fk (.d s.enc :: caps) B A = some ⟨.d (.bool (P s)), A, B⟩) :
    callV E p 19 [.d (syms g l), .fn fk caps] B A = some ⟨.d (.int .i64 (orNeg (findAt (fun i => P (symAt l i)) l.length 0))), A, B⟩ := by
  rw [s_call E _ _ _ _ _ v19 rfl rfl rfl]
  obtain ⟨c', h⟩ := loop_upto (E := E) (p := p) (L := B.length) (live := [0, 1, 7, 8]) (b := b19_0) (n := l.length) (st := fun (_ : Unit) i c => ⟨[(0, .d (syms g l)), (1, .fn fk caps), (7, .d (.int .i64 l.length)), (8, .d (.int .i64 i))], B, A, c⟩) (step := stepF fun i => P (symAt l i))
    (F := fun _ c => (.exit 0, ⟨[(0, .d (syms g l)), (1, .fn fk caps), (7, .d (.int .i64 l.length)), (8, .d (.int .i64 l.length)), (9, .d (.bool false))], B, A, c⟩)) (R := fun (j : Nat) c => (.ret, ⟨[(4, .d (.int .i64 j))], B, A, c⟩))
    (fun a c => ⟨c + 1, by simp, by simp [b19_0, r19_2, syms]⟩)
    (fun a i c hi => by
      obtain ⟨c2, hb⟩ := body19 p g l fk caps B A P i c hi (by omega) (fun q => hf q _ (symAt_mem hi))
      rw [hb]
      unfold stepF
      split
      · exact ⟨_, by simp, rfl⟩
      · exact ⟨_, c2, rfl, by simp [headOf, safeRegs, hs]⟩)
    l.length () 0 4 ⟨[(0, .d (syms g l)), (1, .fn fk caps), (7, .d (.int .i64 l.length)), (8, .d (.int .i64 0))], B, A, 4⟩ (by omega) (by simp [headOf, safeRegs, hs])
  rw [runF] at h
  simp only [syms] at h ⊢
  simp [v19, r19_0, r19_1, r19_7]
  rw [h]
  cases hq : findAt (fun i => P (symAt l i)) l.length 0 <;> simp [orNeg]

theorem symOf1_eq (p : Id) (s : SymL) (name : ByteArray) (A : Ids) : callV E p 18 [.d s.enc, .ptr 0 0] [some [.d (.str name)]] A = some ⟨.d (.bool (strEq s.name name)), A, [some [.d (.str name)]]⟩ := by
  rw [s_call E _ _ _ _ _ v18 rfl rfl rfl]
  simp [v18, r18_0, r18_1, SymL.enc, SymL.cells, evOp, bfree, bget, evBin]

theorem implSymOf_eq (p : Id) (g : Tag) (l : List SymL) (name : ByteArray) (hl : l.length ≤ 1048576) : callV E p 14 [.d (syms g l), .d (.str name)] [] Ids.none = some ⟨.d (.int .i64 (symOfB l name)), Ids.none, []⟩ := by
  rw [s_call E _ _ _ _ _ v14 rfl rfl rfl]
  have hc := fun q => indexFuncS_eq q g l 18 [.ptr 0 0] [some [.d (.str name)]] Ids.none (fun s => strEq s.name name) hl (by simp) (fun q s _ => symOf1_eq q s name Ids.none)
  simp only [syms] at hc ⊢
  simp [v14, r14_0, r14_1, evOp, bfree, hc, symOfB]

theorem FnExactSymOf_law (p : Id) (g : Tag) (l : List SymL) (hl : l.length ≤ maxLen) (ho : ∀ s, s ∈ l → s.ok) (name : ByteArray) (hn : name.size ≤ maxLen) :
    ∃ A, callV E p 10 [.d (syms g l), .d (.str name)] [] Ids.none = some ⟨.d (.bool true), A, []⟩ := by
  rw [s_call E _ _ _ _ _ v10 rfl rfl rfl]
  have hz := fun q => szSymS_eq q g l 1048576 hl ho (by omega) (by omega)
  by_cases h0 : (1048576 : Int) < name.size
  · apply Exists.intro
    simp [v10, r10_0, r10_1, r10_2, h0]
    rfl
  by_cases h1 : lessSyms l 1048576 < 0
  · simp only [syms] at hz ⊢
    apply Exists.intro
    simp [v10, r10_0, r10_1, r10_2, r10_3, r10_4, r10_5, r10_6, evOp, hz, h0, h1]
    rfl
  have k1 := lessSyms_pos h1 (by omega)
  have h3 : ∀ q g, callV E q 12 [.d (syms g l)] [] Ids.none = _ := fun q g => toSymS_eq q g l k1
  have h4 : ∀ q g, callV E q 13 [.d (syms g l), .d (.str name)] [] Ids.none = _ := fun q g => specSymOf_eq q g l name k1
  have h5 : ∀ q g, callV E q 14 [.d (syms g l), .d (.str name)] [] Ids.none = _ := fun q g => implSymOf_eq q g l name k1
  have h6 : ∀ q g g', callV E q 15 [.d (syms g l), .d (syms g' l)] [] Ids.none = _ := fun q g g' => eqSymS_self q g g' l k1
  simp only [syms] at hz h3 h4 h5 h6 ⊢
  apply Exists.intro
  simp [v10, r10_0, r10_1, r10_2, r10_3, r10_4, r10_5, r10_6, r10_7, r10_8, r10_9, r10_10, r10_11, r10_12, r10_13, r10_14, evOp, hz, h0, h1, h3, h4, h5, h6]
  rfl
end Go.Proofs.Ytgdclabfecmmmaa.VS
