/- Contracts of the program's functions on the evaluator without names, and plain lemmas: XShape. -/
import Derived.Test.YtcffalienbbohaaXLaw
import Derived.Test.YtcffalienbbohaaXLit
import Derived.Test.YtcffalienbbohaaXBind
namespace Go.Proofs.Ytcffalienbbohaa.VS
set_option linter.unusedVariables false
set_option linter.unusedSimpArgs false
variable {P : Program}
/-! ## Literals, and rows of what a type's values are -/
structure LL where
  p : Bool
  a : TT
  b : TT
def LL.cells (x : LL) : List DV := .bool x.p :: (x.a.cells ++ x.b.cells)
def LL.enc (x : LL) : DV := .agg x.cells
def LL.ok (x : LL) : Prop := x.a.ok ∧ x.b.ok
def LL.erase (x : LL) : L := ⟨x.p, x.a.erase, x.b.erase⟩
theorem LL.ok_erase (x : LL) (h : x.ok) : x.erase.ok := ⟨TT.ok_erase _ h.1, TT.ok_erase _ h.2⟩
theorem LL.clr_enc (x : LL) : x.enc.clr = x.erase.enc .sub := by
  have ha := TT.clr_cells x.a
  have hb := TT.clr_cells x.b
  rw [DV.clrs_map] at ha hb
  simp only [LL.enc, LL.cells, DV.clr, DV.clrs_map, List.map_cons, List.map_append, ha, hb, LL.erase, L.enc]
  rfl
theorem TT.cells_len (t : TT) : t.cells.length = 3 := by cases t; rfl
theorem shape_lit {t tb tt : TypeId} {fs : Array Field} {x : List DV} (hu : P.underlying t = some (.struct fs)) (hf : fieldsAt fs = [(tb, 0), (tt, 1), (tt, 4)]) (h1 : P.underlying tb = some .bool)
    (ht : ∀ x : List DV, Shape P tt x → ∃ s : TT, x = s.cells ∧ s.ok) (hc : P.cellsOf t = 7 ∧ P.cellsOf tb = 1 ∧ P.cellsOf tt = 3) (h : Shape P t x) : ∃ s : LL, x = s.cells ∧ s.ok := by
  obtain ⟨hl, hfs⟩ := shape_struct hu h
  rw [hc.1] at hl
  match x, hl with
  | [a, b, c, d, e, f, g], _ =>
    have e1 := field_shape hfs (t := tb) (o := 0) (by simp [hf])
    have e2 := field_shape hfs (t := tt) (o := 1) (by simp [hf])
    have e3 := field_shape hfs (t := tt) (o := 4) (by simp [hf])
    rw [hc.2.1] at e1; rw [hc.2.2] at e2 e3
    simp at e1 e2 e3
    obtain ⟨p, q1⟩ := shape_bool h1 e1
    obtain ⟨s, q2, o2⟩ := ht _ e2
    obtain ⟨s', q3, o3⟩ := ht _ e3
    simp at q1
    subst q1
    refine ⟨⟨p, s, s'⟩, ?_, o2, o3⟩
    simp only [LL.cells, ← q2, ← q3]
    rfl
/-- A row of values of one type, each of which is some thing's cells. -/
theorem shape_listOf {α : Type} (c : α → List DV) (ok : α → Prop) {t e : TypeId} {x : List DV} (hu : P.underlying t = some (.slice e)) (hE : ∀ y : List DV, Shape P e y → ∃ s : α, y = c s ∧ ok s) (h : Shape P t x) :
    ∃ (g : Tag) (l : List α), x = [.sl g (l.map fun s => elemDV P e (c s))] ∧ l.length ≤ maxLen ∧ ∀ s, s ∈ l → ok s := by
  obtain ⟨g, xs, rfl, q1, q2, q3, q4⟩ := shape_slice hu h
  have key : ∀ xs : List DV, (∀ y : DV, y ∈ xs → y = elemDV P e y.cells) → (∀ y : DV, y ∈ xs → Shape P e y.cells) → ∃ l : List α, xs = (l.map fun s => elemDV P e (c s)) ∧ ∀ s, s ∈ l → ok s := by
    intro xs
    induction xs with
    | nil => intro _ _; exact ⟨[], rfl, by simp⟩
    | cons y r ih =>
      intro p1 p2
      obtain ⟨l, rfl, hl⟩ := ih (fun z hz => p1 z (by simp [hz])) (fun z hz => p2 z (by simp [hz]))
      obtain ⟨s, hs, hok⟩ := hE _ (p2 y (by simp))
      refine ⟨s :: l, ?_, by simpa [hok] using hl⟩
      have := p1 y (by simp)
      rw [hs] at this
      rw [List.map_cons, ← this]
  obtain ⟨l, rfl, hl⟩ := key xs q3 q4
  exact ⟨g, l, rfl, by simpa using q1, hl⟩
/-! Rows of terms -/
def termsV (g : Tag) (l : List TT) : DV := .sl g (l.map TT.enc)
theorem shape_terms {t e : TypeId} {fs : Array Field} {x : List DV} (hu : P.underlying t = some (.slice e)) (he : P.underlying e = some (.struct fs)) (ht : ∀ x : List DV, Shape P e x → ∃ s : TT, x = s.cells ∧ s.ok) (h : Shape P t x) :
    ∃ g l, x = [termsV g l] ∧ l.length ≤ maxLen ∧ ∀ s, s ∈ l → s.ok := by
  obtain ⟨g, l, rfl, h1, h2⟩ := shape_listOf TT.cells TT.ok hu ht h
  exact ⟨g, l, by simp [termsV, elemDV, he, TT.enc, Function.comp_def], h1, h2⟩
theorem TT.oks_erase_all {l : List TT} (h : ∀ s, s ∈ l → TT.ok s) : ∀ s, s ∈ l.map TT.erase → T.ok s := by
  intro s hs
  obtain ⟨t, ht, rfl⟩ := List.mem_map.1 hs
  exact TT.ok_erase _ (h t ht)
theorem clr_termsV (g : Tag) (l : List TT) : (termsV g l).clr = terms .sub (l.map TT.erase) := by
  simp only [termsV, clr_sl, List.map_map, Function.comp_def, TT.clr_enc, terms]
/-! Substitutions -/
structure BB where
  v : Int
  t : TT
def BB.cells (x : BB) : List DV := .int .i64 x.v :: x.t.cells
def BB.enc (x : BB) : DV := .agg x.cells
def BB.ok (x : BB) : Prop := (-9223372036854775808 ≤ x.v ∧ x.v ≤ 9223372036854775807) ∧ x.t.ok
def BB.erase (x : BB) : Bd := ⟨x.v, x.t.erase⟩
theorem BB.clr_enc (x : BB) : x.enc.clr = x.erase.enc .sub := by
  have ha := TT.clr_cells x.t
  rw [DV.clrs_map] at ha
  simp only [BB.enc, BB.cells, DV.clr, DV.clrs_map, List.map_cons, ha, BB.erase, Bd.enc]
theorem BB.oks_erase {l : List BB} (h : ∀ s, s ∈ l → BB.ok s) : ∀ s, s ∈ l.map BB.erase → Bd.ok s := by
  intro s hs
  obtain ⟨t, ht, rfl⟩ := List.mem_map.1 hs
  exact ⟨(h t ht).1, TT.ok_erase _ (h t ht).2⟩
def bindsV (g : Tag) (l : List BB) : DV := .sl g (l.map BB.enc)
theorem clr_bindsV (g : Tag) (l : List BB) : (bindsV g l).clr = binds .sub (l.map BB.erase) := by
  simp only [bindsV, clr_sl, List.map_map, Function.comp_def, BB.clr_enc, binds]
theorem shape_bind {t ti tt : TypeId} {fs : Array Field} {x : List DV} (hu : P.underlying t = some (.struct fs)) (hf : fieldsAt fs = [(ti, 0), (tt, 1)]) (h1 : P.underlying ti = some (.int .i64))
    (ht : ∀ x : List DV, Shape P tt x → ∃ s : TT, x = s.cells ∧ s.ok) (hc : P.cellsOf t = 4 ∧ P.cellsOf ti = 1 ∧ P.cellsOf tt = 3) (h : Shape P t x) : ∃ s : BB, x = s.cells ∧ s.ok := by
  obtain ⟨hl, hfs⟩ := shape_struct hu h
  rw [hc.1] at hl
  match x, hl with
  | [a, b, c, d], _ =>
    have e1 := field_shape hfs (t := ti) (o := 0) (by simp [hf])
    have e2 := field_shape hfs (t := tt) (o := 1) (by simp [hf])
    rw [hc.2.1] at e1; rw [hc.2.2] at e2
    simp at e1 e2
    obtain ⟨p, q1, w1⟩ := shape_int h1 e1
    obtain ⟨s, q2, o2⟩ := ht _ e2
    simp at q1
    subst q1
    exact ⟨⟨p, s⟩, by simp only [BB.cells, ← q2], wf_i64 w1, o2⟩
theorem shape_binds {t e ti tt : TypeId} {fs : Array Field} {x : List DV} (hs : P.underlying t = some (.slice e)) (hu : P.underlying e = some (.struct fs)) (hf : fieldsAt fs = [(ti, 0), (tt, 1)]) (h1 : P.underlying ti = some (.int .i64))
    (ht : ∀ x : List DV, Shape P tt x → ∃ s : TT, x = s.cells ∧ s.ok) (hc : P.cellsOf e = 4 ∧ P.cellsOf ti = 1 ∧ P.cellsOf tt = 3) (h : Shape P t x) : ∃ g l, x = [bindsV g l] ∧ l.length ≤ maxLen ∧ ∀ s, s ∈ l → s.ok := by
  obtain ⟨g, l, rfl, q1, q2⟩ := shape_listOf BB.cells BB.ok hs (fun y hy => shape_bind hu hf h1 ht hc hy) h
  exact ⟨g, l, by simp [bindsV, elemDV, hu, BB.enc, Function.comp_def], q1, q2⟩
/-! Bytes -/
def bytesL (g : Tag) (l : List Int) : DV := .sl g (l.map (.int .u8))
theorem clr_bytesL (g : Tag) (l : List Int) : (bytesL g l).clr = .sl .sub (l.map (.int .u8)) := by
  simp only [bytesL, clr_sl, List.map_map, Function.comp_def, clr_int]
theorem shape_bytes {t e : TypeId} {x : List DV} (hu : P.underlying t = some (.slice e)) (he : P.underlying e = some (.int .u8)) (h : Shape P t x) : ∃ g l, x = [bytesL g l] ∧ l.length ≤ maxLen := by
  obtain ⟨g, l, rfl, h1, _⟩ := shape_listOf (fun n : Int => [DV.int .u8 n]) (fun _ => True) hu (fun y hy => by
    obtain ⟨n, rfl, _⟩ := shape_int he hy
    exact ⟨n, rfl, trivial⟩) h
  exact ⟨g, l, by simp [bytesL, elemDV, he], h1⟩
end Go.Proofs.Ytcffalienbbohaa.VS
