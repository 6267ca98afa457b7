/- Functions of the library that are told by what they compute. -/
import Derived.Test.YtidlpcgcolcfgaaEngA
set_option linter.unusedSimpArgs false
set_option linter.unusedVariables false
namespace Go.Proofs.Ytidlpcgcolcfgaa.VS
def ownV (p : Id) : DV → DV × Ids
 | .sl (.own [] 0) (x :: xs) => (.sl (.own (0 :: p) x.cells.length) (x :: xs), Ids.add (0 :: p) Ids.none)
 | v => (v, Ids.none)
def natV (g : List DV → Option DV) (p : Id) (as : List AV) : Option (DV × Ids) := (datas as).bind fun ds => (g ds).map (ownV p)
def intsOf : List DV → Option (List Int)
 | [] => some []
 | .int .i64 n :: r => (intsOf r).map (n :: ·)
 | _ => none
def numAt (l : List Int) (n : Int) : Nat := l.findIdx fun x => decide (x > n)
def numAddL (l : List Int) (n : Int) : List Int := if l.contains n then l else l.take (numAt l n) ++ n :: l.drop (numAt l n)
def numAddD : List DV → Option DV
 | [.sl _ xs, .int .i64 n] => (intsOf xs).bind fun l => if (l.length + 1) * 8 ≤ 140737488355328 then some (.sl (.own [] 0) ((numAddL l n).map (.int .i64))) else none
 | _ => none
theorem numAddL_ne (l : List Int) (n : Int) : numAddL l n ≠ [] := by
 unfold numAddL
 split
 ·rename_i h; intro he; rw [he] at h; simp at h
 ·simp
def lookN : List (Nat × (List DV → Option DV)) → Nat → Option (List DV → Option DV)
 | [], _ => none
 | (k, g) :: r, n => match Nat.beq n k with
  | true => some g
  | false => lookN r n
theorem lookN_mem : ∀ {l : List (Nat × (List DV → Option DV))} {k : Nat} {g : List DV → Option DV}, lookN l k = some g → (k, g) ∈ l
 | [], _, _, h => by simp [lookN] at h
 | (a, u) :: r, k, g, h => by
  simp only [lookN] at h
  cases hb : Nat.beq k a with
  | true =>
   rw [hb] at h
   simp only [Option.some.injEq] at h
   subst h
   have := Nat.eq_of_beq_eq_true hb
   subst this
   exact List.mem_cons_self
  | false =>
   rw [hb] at h
   exact List.mem_cons_of_mem _ (lookN_mem h)
theorem intsOf_eq : ∀ {xs : List DV} {l : List Int}, intsOf xs = some l → xs = l.map (.int .i64)
 | [], l, h => by simp [intsOf] at h; subst h; rfl
 | .int .i64 n :: r, l, h => by
  simp only [intsOf, Option.map_eq_some_iff] at h
  obtain ⟨l', h1, rfl⟩ := h
  rw [intsOf_eq h1]; rfl
 | .int .i8 _ :: r, l, h => by simp [intsOf] at h
 | .int .i16 _ :: r, l, h => by simp [intsOf] at h
 | .int .i32 _ :: r, l, h => by simp [intsOf] at h
 | .int .u8 _ :: r, l, h => by simp [intsOf] at h
 | .int .u16 _ :: r, l, h => by simp [intsOf] at h
 | .int .u32 _ :: r, l, h => by simp [intsOf] at h
 | .int .u64 _ :: r, l, h => by simp [intsOf] at h
 | .str _ :: r, l, h => by simp [intsOf] at h
 | .bool _ :: r, l, h => by simp [intsOf] at h
 | .agg _ :: r, l, h => by simp [intsOf] at h
 | .tup _ :: r, l, h => by simp [intsOf] at h
 | .sl _ _ :: r, l, h => by simp [intsOf] at h
theorem intsOf_map : ∀ l : List Int, intsOf (l.map (.int .i64)) = some l
 | [] => rfl
 | s :: l => by simp [intsOf, intsOf_map l]
end Go.Proofs.Ytidlpcgcolcfgaa.VS
