/- Contracts of the program's functions on the evaluator without names, and plain lemmas: XInts. -/
import Derived.Test.YtcffalienbbohaaXSig
namespace Go.Proofs.Ytcffalienbbohaa.VS
set_option linter.unusedVariables false
set_option linter.unusedSimpArgs false
/-! ## Rows of whole numbers -/
abbrev is (l : List Int) : DV := .sl .sub (l.map (.int .i64))
def iAt (l : List Int) (i : Nat) : Int := (l[i]?).getD 0
theorem iAt_lt {l : List Int} {i : Nat} (h : i < l.length) : l[i] = iAt l i := by simp [iAt, h]
theorem intEncs_ok (l : List Int) : ∀ x : DV, x ∈ l.map (.int .i64) → elemOK false 1 x := by
  intro x hx; simp only [List.mem_map] at hx; obtain ⟨n, _, rfl⟩ := hx; exact ⟨rfl, rfl, fun h => by simp at h, by simp⟩
@[simp high] theorem clr_intsE (l : List Int) : (l.map (DV.int .i64)).map DV.clr = l.map (DV.int .i64) := by simp [List.map_map, Function.comp_def]
theorem toIntS_eq (l : List Int) (hl : l.length ≤ 1048576) : callX XV 41 [.d (is l)] [] = some (.d (.sl U (l.map (.int .i64))), []) := by
  rw [z_call XV _ _ _ v41 rfl xcode_41 rfl]
  have hcell : ∀ x : DV, x ∈ l.map (DV.int .i64) → x.cells.length = 1 := fun x hx => (intEncs_ok l x hx).1
  have hloop := loopX_upto (X := XV) (T := XV.lin 41) (L := 1) (live := [0, 3, 4]) (b := b41_0) (n := l.length) (γ := Unit) (st := fun (_ : Unit) i => ⟨[(0, .d (is l)), (3, .bsl [] false 0 1 l.length), (4, .d (.int .i64 i))], [some (rowG (l.map (.int .i64)) (.int .i64 0) i)]⟩) (step := fun _ _ => .inl ())
    (F := fun _ => (.exit 0, ⟨[(0, .d (is l)), (3, .bsl [] false 0 1 l.length), (4, .d (.int .i64 l.length)), (11, .d (.bool false))], [some (rowG (l.map (.int .i64)) (.int .i64 0) l.length)]⟩)) (R := fun _ => (.ret, ⟨[], []⟩))
    (fun _ => ⟨by simp, by simp [b41_0, r41_0, r41_1, r41_2, r41_3, r41_5, r41_4, r41_6]⟩)
    (fun _ i hi => by
      have hw := wrap_succ (n := i) (by omega)
      have hlen := rowG_len (z := .int .i64 0) hcell rfl i
      have hset := rowG_set (z := .int .i64 0) hcell rfl i (by simpa using hi)
      simp only [List.getElem_map, iAt_lt hi, cells_int, List.map_cons, List.map_nil, List.length_map, Nat.mul_one] at hset hlen
      have hle : i + 1 ≤ l.length := by omega
      exact ⟨_, by simp [b41_0, r41_0, r41_1, r41_2, r41_3, r41_5, r41_4, r41_6, hi, hw, cut, iAt_lt hi, hlen, hle, hset]; rfl, by simp [xheadOf, safeRegs]⟩)
    l.length () 0 ⟨[(0, .d (is l)), (3, .bsl [] false 0 1 l.length), (4, .d (.int .i64 0))], [some (rowG (l.map (.int .i64)) (.int .i64 0) 0)]⟩ (by omega) (by simp [xheadOf, safeRegs])
  rw [run_on, rowG_zero] at hloop
  have hch := chunks_row (l.map (DV.int .i64)) (intEncs_ok l)
  have hfl : (flat (l.map (DV.int .i64))).length = l.length * 1 := by rw [flat_len hcell]; simp
  have hall := rowG_all (l.map (DV.int .i64)) (.int .i64 0)
  rw [List.length_map] at hch hall
  simp only [lin_41, List.length_map] at hloop hall
  have hle2 : l.length * 8 ≤ 140737488355328 := by omega
  have hlt : (l.length : Int) < 9223372036854775808 := by omega
  have hlt2 : l.length < 9223372036854775808 := by omega
  simp [v41, r41_0, r41_1, r41_2, r41_3, r41_5, r41_4, r41_6, hle2, hlt]
  rw [hloop]
  simp [hall, datas_row, hch, hfl, hlt2, v41, r41_0, r41_1, r41_2, r41_3, r41_5, r41_4, r41_6]
theorem eqIntS_self (l : List Int) (hl : l.length ≤ 1048576) : callX XV 44 [.d (is l), .d (is l)] [] = some (.d (.bool true), []) := by
  rw [z_call XV _ _ _ v44 rfl xcode_44 rfl]
  have hloop := loopX_upto (X := XV) (T := []) (L := 0) (live := [0, 1, 5]) (b := b44_0) (n := l.length) (γ := Unit) (st := fun (_ : Unit) i => ⟨[(0, .d (is l)), (1, .d (is l)), (5, .d (.int .i64 i))], []⟩) (step := fun _ _ => .inl ())
    (F := fun _ => (.exit 0, ⟨[(0, .d (is l)), (1, .d (is l)), (5, .d (.int .i64 l.length)), (14, .d (.bool false))], []⟩)) (R := fun _ => (.ret, ⟨[], []⟩))
    (fun _ => ⟨by simp, by simp [b44_0, r44_0, r44_1, r44_2, r44_3, r44_4, d44_6, r44_7, r44_5, r44_8]⟩)
    (fun _ i hi => by
      have hw := wrap_succ (n := i) (by omega)
      exact ⟨_, by simp [b44_0, r44_0, r44_1, r44_2, r44_3, r44_4, d44_6, r44_7, r44_5, r44_8, hi, hw, cut, iAt_lt hi]; rfl, by simp [xheadOf, safeRegs]⟩)
    l.length () 0 ⟨[(0, .d (is l)), (1, .d (is l)), (5, .d (.int .i64 0))], []⟩ (by omega) (by simp [xheadOf, safeRegs])
  rw [run_on] at hloop
  simp [v44, r44_0, r44_1, r44_2, r44_3, r44_4, d44_6, r44_7, r44_5, r44_8]
  rw [hloop]
  simp [v44, r44_0, r44_1, r44_2, r44_3, r44_4, d44_6, r44_7, r44_5, r44_8]
end Go.Proofs.Ytcffalienbbohaa.VS
