/- Contracts of the program's functions on the evaluator without names, and plain lemmas: XSum. -/
import Derived.Test.YtanfjghdjkiggaaXNumLaw
namespace Go.Proofs.Ytanfjghdjkiggaa.VS
set_option linter.unusedVariables false
set_option linter.unusedSimpArgs false
/-! ## Rows of rows of whole numbers; their sums -/
@[simp] theorem ints_eq (g : Tag) (l : List Int) : ints g l = .sl g (l.map (.int .i64)) := rfl
abbrev iss (g : Tag) (ps : List (List Int)) : DV := .sl g (ps.map (ints g))
def rAt (l : List (List Int)) (i : Nat) : List Int := (l[i]?).getD []
theorem rAt_lt {l : List (List Int)} {i : Nat} (h : i < l.length) : l[i] = rAt l i := by simp [rAt, h]
@[simp high] theorem clr_iss (g : Tag) (l : List (List Int)) : (l.map (ints g)).map DV.clr = l.map (ints .sub) := by
  simp [List.map_map, Function.comp_def, DV.clr, DV.clrs_map]
theorem szIntS_eq (l : List Int) (left : Int) (hl : l.length ≤ maxLen) (h0 : 0 ≤ left) (h1 : left ≤ 1048576) : callX XV 353 [.d (is l), .d (.int .i64 left)] [] = some (.d (.int .i64 (leftOf left l.length)), []) := by
  rw [z_call XV _ _ _ v353 rfl xcode_353 rfl]
  have hw : IntKind.i64.wrap (left - l.length) = left - l.length := wrap_i64 (by unfold maxLen at hl; omega) (by omega)
  by_cases h : left - l.length < 0
  · rw [leftOf_neg h]; simp [v353, r353_0, r353_1, r353_2, r353_3, r353_4, hw, h]
  · rw [leftOf_pos h]; simp [v353, r353_0, r353_1, r353_2, r353_3, r353_4, hw, h]
def issSize (l : List (List Int)) : Nat := l.length + sumW (fun i => (rAt l i).length) 0 l.length
theorem szIntSS_eq (l : List (List Int)) (left : Int) (hl : l.length ≤ maxLen) (ho : ∀ i, i < l.length → (rAt l i).length ≤ maxLen) (h0 : 0 ≤ left) (h1 : left ≤ 1048576) : callX XV 349 [.d (iss .sub l), .d (.int .i64 left)] [] = some (.d (.int .i64 (leftOf left (issSize l))), []) := by
  rw [z_call XV _ _ _ v349 rfl xcode_349 rfl]
  have hw : IntKind.i64.wrap (left - l.length) = left - l.length := wrap_i64 (by unfold maxLen at hl; omega) (by omega)
  unfold issSize
  generalize hwd : (fun i => (rAt l i).length) = w
  by_cases h : left - l.length < 0
  · rw [leftOf_neg (by omega)]
    simp [v349, r349_0, r349_1, r349_2, r349_3, r349_4, r349_5, r349_7, r349_8, r349_9, r349_6, r349_10, hw, h]
  · have hloop := loopX_inv (X := XV) (T := []) (L := 0) (live := [0, 1, 5]) (b := b349_0) (n := l.length) (γ := Unit) (st := fun (left : Int) i => ⟨[(0, .d (iss .sub l)), (1, .d (.int .i64 left)), (5, .d (.int .i64 i))], []⟩) (step := stepW w)
      (F := fun left => (.exit 0, ⟨[(0, .d (iss .sub l)), (1, .d (.int .i64 left)), (5, .d (.int .i64 l.length)), (15, .d (.bool false))], []⟩)) (R := fun _ => (.ret, ⟨[(4, .d (.int .i64 (-1)))], []⟩))
      (fun left _ => 0 ≤ left ∧ left ≤ 1048576)
      (fun left _ => ⟨by simp, by simp [b349_0, r349_0, r349_1, r349_2, r349_3, r349_4, r349_5, r349_7, r349_8, r349_9, r349_6, r349_10]⟩)
      (fun left i hi hinv => by
        have hw := wrap_succ (n := i) (by unfold maxLen at hl; omega)
        have hc' := szIntS_eq (rAt l i) left (ho i hi) hinv.1 hinv.2
        subst hwd
        unfold stepW
        simp only
        by_cases h2 : left - (rAt l i).length < 0
        · rw [leftOf_neg h2] at hc'
          simp only [h2, if_true]
          refine ⟨⟨by simp, ?_⟩, fun a' h => by simp at h⟩
          simp [b349_0, r349_0, r349_1, r349_2, r349_3, r349_4, r349_5, r349_7, r349_8, r349_9, r349_6, r349_10, hi, hw, cut, rAt_lt hi, hc']
        · rw [leftOf_pos h2] at hc'
          simp only [h2, if_false]
          refine ⟨⟨_, by simp [b349_0, r349_0, r349_1, r349_2, r349_3, r349_4, r349_5, r349_7, r349_8, r349_9, r349_6, r349_10, hi, hw, cut, rAt_lt hi, hc', h2]; rfl, by simp [xheadOf, safeRegs]⟩, fun a' h => by simp at h; subst h; exact ⟨by omega, by omega⟩⟩)
      l.length (left - l.length) 0 ⟨[(0, .d (iss .sub l)), (1, .d (.int .i64 (left - l.length))), (5, .d (.int .i64 0))], []⟩ (by omega) ⟨by omega, by omega⟩ (by simp [xheadOf, safeRegs])
    rw [runW _ _ _ _ (by omega)] at hloop
    simp [v349, r349_0, r349_1, r349_2, r349_3, r349_4, hw, h]
    rw [hloop]
    by_cases h3 : left - l.length - sumW w 0 l.length < 0
    · rw [leftOf_neg (by omega)]; simp [h3]
    · rw [leftOf_pos (by omega)]
      simp [h3, v349, r349_0, r349_1, r349_2, r349_3, r349_4, r349_5, r349_7, r349_8, r349_9, r349_6, r349_10]; omega
theorem row_le (l : List (List Int)) (i : Nat) (hi : i < l.length) : (rAt l i).length ≤ issSize l := by
  have := sumW_ge (fun i => (rAt l i).length) l.length 0 i (Nat.zero_le _) (by omega)
  unfold issSize; omega
theorem issEncs_ok (g : Tag) (l : List (List Int)) : ∀ x : DV, x ∈ l.map (ints g) → elemOK false 1 x := by
  intro x hx; simp only [List.mem_map] at hx; obtain ⟨n, _, rfl⟩ := hx; exact ⟨rfl, rfl, fun h => by simp at h, by simp⟩
theorem toIntSS_eq (l : List (List Int)) (hl : l.length ≤ 1048576) (hb : ∀ i, i < l.length → (rAt l i).length ≤ 1048576) : callX XV 350 [.d (iss .sub l)] [] = some (.d (iss U l), []) := by
  rw [z_call XV _ _ _ v350 rfl xcode_350 rfl]
  have hcell : ∀ x : DV, x ∈ l.map (ints U) → x.cells.length = 1 := fun x hx => (issEncs_ok U l x hx).1
  have hloop := loopX_upto (X := XV) (T := XV.lin 350) (L := 1) (live := [0, 3, 4]) (b := b350_0) (n := l.length) (γ := Unit) (st := fun (_ : Unit) i => ⟨[(0, .d (iss .sub l)), (3, .bsl [] false 0 1 l.length), (4, .d (.int .i64 i))], [some (rowG (l.map (ints U)) (.sl U []) i)]⟩) (step := fun _ _ => .inl ())
    (F := fun _ => (.exit 0, ⟨[(0, .d (iss .sub l)), (3, .bsl [] false 0 1 l.length), (4, .d (.int .i64 l.length)), (11, .d (.bool false))], [some (rowG (l.map (ints U)) (.sl U []) l.length)]⟩)) (R := fun _ => (.ret, ⟨[], []⟩))
    (fun _ => ⟨by simp, by simp [b350_0, r350_0, r350_1, r350_2, r350_3, r350_5, r350_4, r350_6]⟩)
    (fun _ i hi => by
      have hw := wrap_succ (n := i) (by omega)
      have hlen := rowG_len (z := .sl U []) hcell rfl i
      have hset := rowG_set (z := .sl U []) hcell rfl i (by simpa using hi)
      simp only [List.getElem_map, rAt_lt hi, ints_eq, cells_sl, List.map_cons, List.map_nil, List.length_map, Nat.mul_one] at hset hlen
      have hle : i + 1 ≤ l.length := by omega
      have hc' := toIntS_eq (rAt l i) (hb i hi)
      exact ⟨_, by simp [b350_0, r350_0, r350_1, r350_2, r350_3, r350_5, r350_4, r350_6, hi, hw, cut, rAt_lt hi, hc', hlen, hle, hset, isCell_sl]; rfl, by simp [xheadOf, safeRegs]⟩)
    l.length () 0 ⟨[(0, .d (iss .sub l)), (3, .bsl [] false 0 1 l.length), (4, .d (.int .i64 0))], [some (rowG (l.map (ints U)) (.sl U []) 0)]⟩ (by omega) (by simp [xheadOf, safeRegs])
  rw [run_on, rowG_zero] at hloop
  have hch := chunks_row (l.map (ints U)) (issEncs_ok U l)
  have hfl : (flat (l.map (ints U))).length = l.length * 1 := by rw [flat_len hcell]; simp
  have hall := rowG_all (l.map (ints U)) (.sl U [])
  rw [List.length_map] at hch hall
  simp only [lin_350, List.length_map] at hloop hall
  have hle2 : l.length * 24 ≤ 140737488355328 := by omega
  have hlt : (l.length : Int) < 9223372036854775808 := by omega
  have hlt2 : l.length < 9223372036854775808 := by omega
  have hA : isAgg (DV.sl .nil []) = false := rfl
  simp [v350, r350_0, r350_1, r350_2, r350_3, r350_5, r350_4, r350_6, hle2, hlt, hA]
  try simp at hloop
  rw [hloop]
  try simp at hall
  simp [hall, datas_row, hch, hfl, hlt2, v350, r350_0, r350_1, r350_2, r350_3, r350_5, r350_4, r350_6]
theorem eqIntSS_self (l : List (List Int)) (hl : l.length ≤ 1048576) (hb : ∀ i, i < l.length → (rAt l i).length ≤ 1048576) : callX XV 351 [.d (iss .sub l), .d (iss .sub l)] [] = some (.d (.bool true), []) := by
  rw [z_call XV _ _ _ v351 rfl xcode_351 rfl]
  have hloop := loopX_upto (X := XV) (T := []) (L := 0) (live := [0, 1, 5]) (b := b351_0) (n := l.length) (γ := Unit) (st := fun (_ : Unit) i => ⟨[(0, .d (iss .sub l)), (1, .d (iss .sub l)), (5, .d (.int .i64 i))], []⟩) (step := fun _ _ => .inl ())
    (F := fun _ => (.exit 0, ⟨[(0, .d (iss .sub l)), (1, .d (iss .sub l)), (5, .d (.int .i64 l.length)), (14, .d (.bool false))], []⟩)) (R := fun _ => (.ret, ⟨[], []⟩))
    (fun _ => ⟨by simp, by simp [b351_0, r351_0, r351_1, r351_2, r351_3, r351_4, d351_6, r351_7, r351_5, r351_8]⟩)
    (fun _ i hi => by
      have hw := wrap_succ (n := i) (by omega)
      have hc' := eqIntS_self (rAt l i) (hb i hi)
      exact ⟨_, by simp [b351_0, r351_0, r351_1, r351_2, r351_3, r351_4, d351_6, r351_7, r351_5, r351_8, hi, hw, cut, rAt_lt hi, hc']; rfl, by simp [xheadOf, safeRegs]⟩)
    l.length () 0 ⟨[(0, .d (iss .sub l)), (1, .d (iss .sub l)), (5, .d (.int .i64 0))], []⟩ (by omega) (by simp [xheadOf, safeRegs])
  rw [run_on] at hloop
  simp [v351, r351_0, r351_1, r351_2, r351_3, r351_4, d351_6, r351_7, r351_5, r351_8]
  rw [hloop]
  simp [v351, r351_0, r351_1, r351_2, r351_3, r351_4, d351_6, r351_7, r351_5, r351_8]
end Go.Proofs.Ytanfjghdjkiggaa.VS
