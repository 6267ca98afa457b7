/- Functions of the library that are told by what they compute. -/
import Derived.Test.YtficfeekkljoeaaEngA
namespace Go.Proofs.Ytficfeekkljoeaa.VS
set_option linter.unusedVariables false
set_option linter.unusedSimpArgs false
/-! ## Functions of Go's library that are told by what they compute -/
/-- A new own row, where a native function yields one. -/
def ownV (p : Id) : DV → DV × Ids
  | .sl (.own [] 0) (x :: xs) => (.sl (.own (0 :: p) x.cells.length) (x :: xs), Ids.add (0 :: p) Ids.none)
  | v => (v, Ids.none)
/-- A native function; a row that it yields is a new one. -/
def natV (g : List DV → Option DV) (p : Id) (as : List AV) : Option (DV × Ids) := (datas as).bind fun ds => (g ds).map (ownV p)
/-- A number put into a list by its order. -/
def intsOf : List DV → Option (List Int)
  | [] => some []
  | .int .i64 n :: r => (intsOf r).map (n :: ·)
  | _ => none
/-- Rows of numbers, one behind the other (slices.Concat). -/
def intssOf : List DV → Option (List (List Int))
  | [] => some []
  | .sl _ xs :: r => (intsOf xs).bind fun l => (intssOf r).map (l :: ·)
  | _ => none
def concatD : List DV → Option DV
  | [.sl _ rows] => (intssOf rows).bind fun l => if l ≠ [] ∧ (∀ x, x ∈ l → x ≠ []) ∧ l.flatten.length * 8 ≤ 140737488355328 then some (.sl (.own [] 0) (l.flatten.map (.int .i64))) else none
  | _ => none
/-- The native functions, by number. -/
def lookN : List (Nat × (List DV → Option DV)) → Nat → Option (List DV → Option DV)
  | [], _ => none
  | (k, g) :: r, n => match Nat.beq n k with
    | true => some g
    | false => lookN r n
theorem lookN_mem : ∀ {l : List (Nat × (List DV → Option DV))} {k : Nat} {g : List DV → Option DV}, lookN l k = some g → (k, g) ∈ l
  | [], _, _, h => by simp [lookN] at h
  | (a, u) :: r, k, g, h => by
    simp only [lookN] at h
    cases hb : Nat.beq k a with
    | true =>
      rw [hb] at h
      simp only [Option.some.injEq] at h
      subst h
      have := Nat.eq_of_beq_eq_true hb
      subst this
      exact List.mem_cons_self
    | false =>
      rw [hb] at h
      exact List.mem_cons_of_mem _ (lookN_mem h)
theorem intsOf_eq : ∀ {xs : List DV} {l : List Int}, intsOf xs = some l → xs = l.map (.int .i64)
  | [], l, h => by simp [intsOf] at h; subst h; rfl
  | .int .i64 n :: r, l, h => by
    simp only [intsOf, Option.map_eq_some_iff] at h
    obtain ⟨l', h1, rfl⟩ := h
    rw [intsOf_eq h1]; rfl
  | .int .i8 _ :: r, l, h => by simp [intsOf] at h
  | .int .i16 _ :: r, l, h => by simp [intsOf] at h
  | .int .i32 _ :: r, l, h => by simp [intsOf] at h
  | .int .u8 _ :: r, l, h => by simp [intsOf] at h
  | .int .u16 _ :: r, l, h => by simp [intsOf] at h
  | .int .u32 _ :: r, l, h => by simp [intsOf] at h
  | .int .u64 _ :: r, l, h => by simp [intsOf] at h
  | .str _ :: r, l, h => by simp [intsOf] at h
  | .bool _ :: r, l, h => by simp [intsOf] at h
  | .agg _ :: r, l, h => by simp [intsOf] at h
  | .tup _ :: r, l, h => by simp [intsOf] at h
  | .sl _ _ :: r, l, h => by simp [intsOf] at h
theorem intsOf_map : ∀ l : List Int, intsOf (l.map (.int .i64)) = some l
  | [] => rfl
  | s :: l => by simp [intsOf, intsOf_map l]
theorem intssOf_eq : ∀ {rs : List DV} {l : List (List Int)}, intssOf rs = some l → rs.length = l.length ∧ ∀ (j : Nat) (r : DV), rs[j]? = some r → ∃ t xs, r = .sl t (xs.map (.int .i64)) ∧ l[j]? = some xs
  | [], l, h => by simp [intssOf] at h; subst h; exact ⟨rfl, fun j r h => by simp at h⟩
  | .sl t xs :: rs, l, h => by
    simp only [intssOf] at h
    obtain ⟨ys, h1, h2⟩ := Option.bind_eq_some_iff.1 h
    obtain ⟨l', h3, rfl⟩ := Option.map_eq_some_iff.1 h2
    obtain ⟨h4, h5⟩ := intssOf_eq h3
    refine ⟨by simp [h4], fun j r hj => ?_⟩
    cases j with
    | zero => simp at hj; subst hj; exact ⟨t, ys, by rw [intsOf_eq h1], rfl⟩
    | succ j => simp at hj; exact h5 j r hj
  | .int _ _ :: r, l, h => by simp [intssOf] at h
  | .str _ :: r, l, h => by simp [intssOf] at h
  | .bool _ :: r, l, h => by simp [intssOf] at h
  | .agg _ :: r, l, h => by simp [intssOf] at h
  | .tup _ :: r, l, h => by simp [intssOf] at h
end Go.Proofs.Ytficfeekkljoeaa.VS
