/- Contracts of the program's functions on the evaluator without names, and plain lemmas: XLit. -/
import Derived.Test.YtpmjooeehnmkcaaXSame
namespace Go.Proofs.Ytpmjooeehnmkcaa.VS
set_option linter.unusedVariables false
set_option linter.unusedSimpArgs false
/-- A literal. -/
structure L where
  p : Bool
  a : T
  b : T
def L.enc (g : Tag) (x : L) : DV := .agg [.bool x.p, .int .i64 x.a.f, .int .i64 x.a.v, terms g x.a.kids, .int .i64 x.b.f, .int .i64 x.b.v, terms g x.b.kids]
def L.ok (x : L) : Prop := x.a.ok ∧ x.b.ok
@[simp] theorem L.cells_enc (g : Tag) (x : L) : (x.enc g).cells = [.bool x.p, .int .i64 x.a.f, .int .i64 x.a.v, terms g x.a.kids, .int .i64 x.b.f, .int .i64 x.b.v, terms g x.b.kids] := rfl
@[simp] theorem L.cellsA_enc (g : Tag) (x : L) : (AV.d (x.enc g)).cells = [.d (.bool x.p), .d (.int .i64 x.a.f), .d (.int .i64 x.a.v), .d (terms g x.a.kids), .d (.int .i64 x.b.f), .d (.int .i64 x.b.v), .d (terms g x.b.kids)] := rfl
@[simp] theorem L.isCell_enc (g : Tag) (x : L) : (x.enc g).isCell = false := rfl
@[simp] theorem L.clr_enc (g : Tag) (x : L) : (x.enc g).clr = x.enc .sub := by
  simp only [L.enc, DV.clr, DV.clrs, terms, DV.clrs_map, clr_terms]
theorem L.agg_enc (g : Tag) (x : L) : DV.agg [.bool x.p, .int .i64 x.a.f, .int .i64 x.a.v, terms g x.a.kids, .int .i64 x.b.f, .int .i64 x.b.v, terms g x.b.kids] = x.enc g := rfl
theorem szLit_eq (x : L) (left : Int) (hx : x.ok) (h0 : 0 ≤ left) (h1 : left ≤ 1048576) : callX XV 123 [.d (x.enc .sub), .d (.int .i64 left)] [] = some (.d (.int .i64 (leftOf left (x.a.inner + x.b.inner))), []) := by
  rw [z_call XV _ _ _ v123 rfl xcode_123 rfl]
  have z1 := szTerm_eq x.a left hx.1 h0 h1
  by_cases c1 : left - x.a.inner < 0
  · rw [leftOf_neg c1] at z1
    have : leftOf left (x.a.inner + x.b.inner) = -1 := leftOf_neg (by omega)
    rw [this]
    simp [v123, r123_0, r123_1, r123_2, r123_3, r123_4, r123_5, r123_6, r123_7, z1, isCell_int, isCell_sl, isCell_bool, isCellA_d, safe_d, loadBox, splice]
  rw [leftOf_pos c1] at z1
  have z2 := szTerm_eq x.b (left - x.a.inner) hx.2 (by omega) (by omega)
  by_cases c2 : left - x.a.inner - x.b.inner < 0
  · rw [leftOf_neg c2] at z2
    have : leftOf left (x.a.inner + x.b.inner) = -1 := leftOf_neg (by omega)
    rw [this]
    simp [v123, r123_0, r123_1, r123_2, r123_3, r123_4, r123_5, r123_6, r123_7, z1, z2, c1, isCell_int, isCell_sl, isCell_bool, isCellA_d, safe_d, loadBox, splice]
  rw [leftOf_pos c2] at z2
  have : leftOf left (x.a.inner + x.b.inner) = left - x.a.inner - x.b.inner := by rw [leftOf_pos (by omega)]; omega
  rw [this]
  simp [v123, r123_0, r123_1, r123_2, r123_3, r123_4, r123_5, r123_6, r123_7, z1, z2, c1, c2, isCell_int, isCell_sl, isCell_bool, isCellA_d, safe_d, loadBox, splice]
theorem toLit_eq (x : L) (ha : x.a.inner ≤ 1048576) (hb : x.b.inner ≤ 1048576) : callX XV 124 [.d (x.enc .sub)] [] = some (.d (x.enc U), []) := by
  rw [z_call XV _ _ _ v124 rfl xcode_124 rfl]
  have t1 := toTerm_eq x.a ha
  have t2 := toTerm_eq x.b hb
  simp [v124, r124_0, r124_1, r124_2, r124_3, r124_4, r124_5, t1, t2, isCell_int, isCell_sl, isCell_bool, isCellA_d, safe_d, loadBox, splice, L.agg_enc]
theorem eqLit_self (x : L) (ha : x.a.inner ≤ 1048576) (hb : x.b.inner ≤ 1048576) : callX XV 127 [.d (x.enc .sub), .d (x.enc .sub)] [] = some (.d (.bool true), []) := by
  rw [z_call XV _ _ _ v127 rfl xcode_127 rfl]
  have t1 := eqTerm_self x.a ha
  have t2 := eqTerm_self x.b hb
  simp [v127, r127_0, r127_1, r127_2, r127_3, r127_4, r127_5, r127_6, r127_7, t1, t2, isCell_int, isCell_sl, isCell_bool, isCellA_d, safe_d, loadBox, splice]
def L.cmp (x y : L) : Int := if !x.p && y.p then -1 else if x.p && !y.p then 1 else if T.cmp x.a y.a ≠ 0 then T.cmp x.a y.a else T.cmp x.b y.b
theorem compareLits_eq (x y : L) (ha : x.a.inner ≤ 1048576) (hb : x.b.inner ≤ 1048576) (ha' : y.a.inner ≤ 1048576) (hb' : y.b.inner ≤ 1048576) : callX XV 128 [.d (x.enc .sub), .d (y.enc .sub)] [] = some (.d (.int .i64 (L.cmp x y)), []) := by
  rw [z_call XV _ _ _ v128 rfl xcode_128 rfl]
  have t1 := compare_eq x.a y.a ha ha'
  have t2 := compare_eq x.b y.b hb hb'
  obtain ⟨p, a, b⟩ := x
  obtain ⟨q, a', b'⟩ := y
  simp only at t1 t2
  unfold L.cmp
  by_cases c : T.cmp a a' = 0
  · cases p <;> cases q <;> simp [v128, r128_0, r128_1, r128_2, r128_3, r128_4, r128_5, r128_6, r128_7, r128_8, t1, t2, c, L.enc, isCell_int, isCell_sl, isCell_bool, isCellA_d, safe_d, loadBox, splice]
  have c' : (T.cmp a a' != 0) = true := by simp [c]
  cases p <;> cases q <;> simp [v128, r128_0, r128_1, r128_2, r128_3, r128_4, r128_5, r128_6, r128_7, r128_8, t1, t2, c, c', L.enc, isCell_int, isCell_sl, isCell_bool, isCellA_d, safe_d, loadBox, splice]
def L.same (x y : L) : Bool := x.p == y.p && (T.cmp x.a y.a == 0) && (T.cmp x.b y.b == 0)
theorem L.cmp_zero (x y : L) : (L.cmp x y == 0) = L.same x y := by
  obtain ⟨p, a, b⟩ := x
  obtain ⟨q, a', b'⟩ := y
  unfold L.cmp L.same
  cases p <;> cases q <;> by_cases c : T.cmp a a' = 0 <;> simp [c]
theorem specLitSame_eq (x y : L) (ha : x.a.inner ≤ 1048576) (hb : x.b.inner ≤ 1048576) (ha' : y.a.inner ≤ 1048576) (hb' : y.b.inner ≤ 1048576) : callX XV 125 [.d (x.enc .sub), .d (y.enc .sub)] [] = some (.d (.bool (L.same x y)), []) := by
  rw [z_call XV _ _ _ v125 rfl xcode_125 rfl]
  have t1 := specSame_eq x.a y.a ha ha'
  have t2 := specSame_eq x.b y.b hb hb'
  obtain ⟨p, a, b⟩ := x
  obtain ⟨q, a', b'⟩ := y
  simp only at t1 t2
  unfold L.same
  by_cases c0 : p = q
  · subst c0
    by_cases c : T.cmp a a' = 0
    · simp [v125, r125_0, r125_1, t1, t2, c, L.enc, isCell_int, isCell_sl, isCell_bool, isCellA_d, safe_d, loadBox, splice]
    have c' : (T.cmp a a' == 0) = false := by simp [c]
    rw [c'] at t1
    simp [v125, r125_0, r125_1, t1, t2, c, c', L.enc, isCell_int, isCell_sl, isCell_bool, isCellA_d, safe_d, loadBox, splice]
  · have : (p == q) = false := by simp [c0]
    simp [v125, r125_0, r125_1, t1, t2, c0, this, L.enc, isCell_int, isCell_sl, isCell_bool, isCellA_d, safe_d, loadBox, splice]
theorem litSame_eq (x y : L) (ha : x.a.inner ≤ 1048576) (hb : x.b.inner ≤ 1048576) (ha' : y.a.inner ≤ 1048576) (hb' : y.b.inner ≤ 1048576) : callX XV 126 [.d (x.enc .sub), .d (y.enc .sub)] [] = some (.d (.bool (L.same x y)), []) := by
  rw [z_call XV _ _ _ v126 rfl xcode_126 rfl, ← L.cmp_zero]
  have h := compareLits_eq x y ha hb ha' hb'
  simp [v126, r126_0, r126_1, h, isCell_int, isCell_sl, isCell_bool, isCellA_d, safe_d, loadBox, splice, L.agg_enc]
theorem FnExactLitSame_x (x : L) (hx : x.ok) (y : L) (hy : y.ok) : ∃ B, callX XV 122 [.d (x.enc .sub), .d (y.enc .sub)] [] = some (.d (.bool true), B) := by
  rw [z_call XV _ _ _ v122 rfl xcode_122 rfl]
  have z1 := szLit_eq x 1048576 hx (by omega) (by omega)
  by_cases h1 : (1048576 : Int) - (x.a.inner + x.b.inner : Nat) < 0
  · rw [leftOf_neg h1] at z1
    simp [v122, r122_0, r122_1, r122_2, r122_3, r122_4, r122_5, r122_6, r122_7, d122_8, r122_9, r122_10, r122_11, r122_12, r122_13, d122_14, r122_15, d122_16, r122_17, r122_18, z1, isCell_int, isCell_sl, isCell_bool, isCellA_d, safe_d, loadBox, splice, L.agg_enc]
  rw [leftOf_pos h1] at z1
  have z2 := szLit_eq y (1048576 - (x.a.inner + x.b.inner : Nat)) hy (by omega) (by omega)
  by_cases h2 : (1048576 : Int) - (x.a.inner + x.b.inner : Nat) - (y.a.inner + y.b.inner : Nat) < 0
  · rw [leftOf_neg h2] at z2
    generalize (1048576 : Int) - (x.a.inner + x.b.inner : Nat) = m at *
    simp [v122, r122_0, r122_1, r122_2, r122_3, r122_4, r122_5, r122_6, r122_7, d122_8, r122_9, r122_10, r122_11, r122_12, r122_13, d122_14, r122_15, d122_16, r122_17, r122_18, z1, z2, h1, isCell_int, isCell_sl, isCell_bool, isCellA_d, safe_d, loadBox, splice, L.agg_enc]
  rw [leftOf_pos h2] at z2
  have t1 := toLit_eq x (by omega) (by omega)
  have t2 := toLit_eq y (by omega) (by omega)
  have s1 := specLitSame_eq x y (by omega) (by omega) (by omega) (by omega)
  have s2 := litSame_eq x y (by omega) (by omega) (by omega) (by omega)
  have e1 := eqLit_self x (by omega) (by omega)
  have e2 := eqLit_self y (by omega) (by omega)
  generalize (1048576 : Int) - (x.a.inner + x.b.inner : Nat) = m at *
  generalize m - (y.a.inner + y.b.inner : Nat) = m2 at *
  simp [v122, r122_0, r122_1, r122_2, r122_3, r122_4, r122_5, r122_6, r122_7, d122_8, r122_9, r122_10, r122_11, r122_12, r122_13, d122_14, r122_15, d122_16, r122_17, r122_18, z1, z2, h1, h2, t1, t2, s1, s2, e1, e2, isCell_int, isCell_sl, isCell_bool, isCellA_d, safe_d, loadBox, splice, L.agg_enc]
end Go.Proofs.Ytpmjooeehnmkcaa.VS
