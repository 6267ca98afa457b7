/- Contracts of the program's functions on the evaluator without names, and plain lemmas: part 4. -/
import Derived.Test.YtnjgnjejkmcgmaaXP3
namespace Go.Proofs.Ytnjgnjejkmcgmaa.VS
set_option linter.unusedVariables false
set_option linter.unusedSimpArgs false
/-! ## From a law's arguments to values without names -/
mutual
def TT.erase : TT → T
  | .node f v g ks => .node f v (TT.erases ks)
def TT.erases : List TT → List T
  | [] => []
  | t :: r => t.erase :: TT.erases r
end
theorem TT.erases_map : ∀ l : List TT, TT.erases l = l.map TT.erase
  | [] => by unfold TT.erases; rfl
  | t :: r => by unfold TT.erases; simp [TT.erases_map r]
mutual
theorem TT.clr_cells : ∀ t : TT, DV.clrs t.cells = [.int .i64 t.erase.f, .int .i64 t.erase.v, terms .sub t.erase.kids]
  | .node f v g ks => by
    simp only [TT.cells, DV.clrs, DV.clr, TT.erase, T.f_node, T.v_node, T.kids_node, terms]
    rw [TT.clr_encs ks]
theorem TT.clr_encs : ∀ l : List TT, DV.clrs (TT.encs l) = (TT.erases l).map (T.enc .sub)
  | [] => by simp [TT.encs, DV.clrs, TT.erases]
  | t :: r => by
    simp only [TT.encs, DV.clrs, DV.clr, TT.erases, List.map_cons]
    rw [TT.clr_cells t, TT.clr_encs r, T.enc_eq]
end
theorem TT.clr_enc (t : TT) : t.enc.clr = t.erase.enc .sub := by
  simp only [TT.enc, DV.clr]
  rw [TT.clr_cells, T.enc_eq]
mutual
theorem TT.ok_erase : ∀ t : TT, t.ok → t.erase.ok
  | .node f v g ks, h => by
    simp only [TT.ok] at h
    simp only [TT.erase, T.ok, TT.erases_map, List.length_map]
    refine ⟨h.2.2.1, ?_⟩
    rw [← TT.erases_map]
    exact TT.oks_erase ks h.2.2.2
theorem TT.oks_erase : ∀ l : List TT, TT.oks l → T.oks (TT.erases l)
  | [], _ => by simp [TT.erases, T.oks]
  | t :: r, h => by
    simp only [TT.oks] at h
    simp only [TT.erases, T.oks]
    exact ⟨TT.ok_erase t h.1, TT.oks_erase r h.2⟩
end
theorem clr_symL (s : SymL) : s.enc.clr = s.enc := by unfold SymL.enc SymL.cells; simp only [DV.clr, DV.clrs]
theorem clr_syms (g : Tag) (l : List SymL) : (syms g l).clr = .sl .sub (l.map SymL.enc) := by
  simp only [syms, clr_sl, List.map_map, Function.comp_def, clr_symL]
theorem plain_of_X (hX : XOK XV) {k : Nat} {vs : List DV} (h : ∃ B, callX XV k ((DV.clrs vs).map .d) [] = some (.d (.bool true), B)) : ∃ A B, callV E [] k (vs.map .d) [] Ids.none = some ⟨.d (.bool true), A, B⟩ := by
  obtain ⟨B, h⟩ := h
  obtain ⟨u, A, Bv, h1, h2⟩ := law_of_X hX (DV.clrs_clrs vs) (DV.clrs_fits vs) (d := .bool true) (by simp [DV.clr]) h
  simp only [DV.fit] at h2; subst h2
  exact ⟨A, Bv, h1⟩
theorem args1 {P : Program} {a : TypeId} : ∀ {xs : List (List DV)}, Args P [a] xs → ∃ x, xs = [x]
  | [x], _ => ⟨x, rfl⟩
  | [], h => h.elim
  | _ :: _ :: _, h => h.2.elim
theorem args2 {P : Program} {a b : TypeId} : ∀ {xs : List (List DV)}, Args P [a, b] xs → ∃ x y, xs = [x, y]
  | x :: r, h => by obtain ⟨y, rfl⟩ := args1 h.2; exact ⟨x, y, rfl⟩
theorem args3 {P : Program} {a b c : TypeId} : ∀ {xs : List (List DV)}, Args P [a, b, c] xs → ∃ x y z, xs = [x, y, z]
  | x :: r, h => by obtain ⟨y, z, rfl⟩ := args2 h.2; exact ⟨x, y, z, rfl⟩
theorem args4 {P : Program} {a b c d : TypeId} : ∀ {xs : List (List DV)}, Args P [a, b, c, d] xs → ∃ x y z w, xs = [x, y, z, w]
  | x :: r, h => by obtain ⟨y, z, w, rfl⟩ := args3 h.2; exact ⟨x, y, z, w, rfl⟩
end Go.Proofs.Ytnjgnjejkmcgmaa.VS
namespace Go.Proofs.Ytnjgnjejkmcgmaa.VS
set_option linter.unusedVariables false
set_option linter.unusedSimpArgs false
/-- A literal. -/
structure L where
  p : Bool
  a : T
  b : T
def L.enc (g : Tag) (x : L) : DV := .agg [.bool x.p, .int .i64 x.a.f, .int .i64 x.a.v, terms g x.a.kids, .int .i64 x.b.f, .int .i64 x.b.v, terms g x.b.kids]
def L.ok (x : L) : Prop := x.a.ok ∧ x.b.ok
@[simp] theorem L.cells_enc (g : Tag) (x : L) : (x.enc g).cells = [.bool x.p, .int .i64 x.a.f, .int .i64 x.a.v, terms g x.a.kids, .int .i64 x.b.f, .int .i64 x.b.v, terms g x.b.kids] := rfl
@[simp] theorem L.cellsA_enc (g : Tag) (x : L) : (AV.d (x.enc g)).cells = [.d (.bool x.p), .d (.int .i64 x.a.f), .d (.int .i64 x.a.v), .d (terms g x.a.kids), .d (.int .i64 x.b.f), .d (.int .i64 x.b.v), .d (terms g x.b.kids)] := rfl
@[simp] theorem L.isCell_enc (g : Tag) (x : L) : (x.enc g).isCell = false := rfl
@[simp] theorem L.clr_enc (g : Tag) (x : L) : (x.enc g).clr = x.enc .sub := by
  simp only [L.enc, DV.clr, DV.clrs, terms, DV.clrs_map, clr_terms]
theorem L.agg_enc (g : Tag) (x : L) : DV.agg [.bool x.p, .int .i64 x.a.f, .int .i64 x.a.v, terms g x.a.kids, .int .i64 x.b.f, .int .i64 x.b.v, terms g x.b.kids] = x.enc g := rfl
def L.cmp (x y : L) : Int := if !x.p && y.p then -1 else if x.p && !y.p then 1 else if T.cmp x.a y.a ≠ 0 then T.cmp x.a y.a else T.cmp x.b y.b
def L.same (x y : L) : Bool := x.p == y.p && (T.cmp x.a y.a == 0) && (T.cmp x.b y.b == 0)
theorem L.cmp_zero (x y : L) : (L.cmp x y == 0) = L.same x y := by
  obtain ⟨p, a, b⟩ := x
  obtain ⟨q, a', b'⟩ := y
  unfold L.cmp L.same
  cases p <;> cases q <;> by_cases c : T.cmp a a' = 0 <;> simp [c]
end Go.Proofs.Ytnjgnjejkmcgmaa.VS
namespace Go.Proofs.Ytnjgnjejkmcgmaa.VS
set_option linter.unusedVariables false
set_option linter.unusedSimpArgs false
variable {P : Program}
/-! ## Literals, and rows of what a type's values are -/
structure LL where
  p : Bool
  a : TT
  b : TT
def LL.cells (x : LL) : List DV := .bool x.p :: (x.a.cells ++ x.b.cells)
def LL.enc (x : LL) : DV := .agg x.cells
def LL.ok (x : LL) : Prop := x.a.ok ∧ x.b.ok
def LL.erase (x : LL) : L := ⟨x.p, x.a.erase, x.b.erase⟩
theorem LL.ok_erase (x : LL) (h : x.ok) : x.erase.ok := ⟨TT.ok_erase _ h.1, TT.ok_erase _ h.2⟩
theorem LL.clr_enc (x : LL) : x.enc.clr = x.erase.enc .sub := by
  have ha := TT.clr_cells x.a
  have hb := TT.clr_cells x.b
  rw [DV.clrs_map] at ha hb
  simp only [LL.enc, LL.cells, DV.clr, DV.clrs_map, List.map_cons, List.map_append, ha, hb, LL.erase, L.enc]
  rfl
/-- A row of values of one type, each of which is some thing's cells. -/
theorem shape_listOf {α : Type} (c : α → List DV) (ok : α → Prop) {t e : TypeId} {x : List DV} (hu : P.underlying t = some (.slice e)) (hE : ∀ y : List DV, Shape P e y → ∃ s : α, y = c s ∧ ok s) (h : Shape P t x) :
    ∃ (g : Tag) (l : List α), x = [.sl g (l.map fun s => elemDV P e (c s))] ∧ l.length ≤ maxLen ∧ ∀ s, s ∈ l → ok s := by
  obtain ⟨g, xs, rfl, q1, q2, q3, q4⟩ := shape_slice hu h
  have key : ∀ xs : List DV, (∀ y : DV, y ∈ xs → y = elemDV P e y.cells) → (∀ y : DV, y ∈ xs → Shape P e y.cells) → ∃ l : List α, xs = (l.map fun s => elemDV P e (c s)) ∧ ∀ s, s ∈ l → ok s := by
    intro xs
    induction xs with
    | nil => intro _ _; exact ⟨[], rfl, by simp⟩
    | cons y r ih =>
      intro p1 p2
      obtain ⟨l, rfl, hl⟩ := ih (fun z hz => p1 z (by simp [hz])) (fun z hz => p2 z (by simp [hz]))
      obtain ⟨s, hs, hok⟩ := hE _ (p2 y (by simp))
      refine ⟨s :: l, ?_, by simpa [hok] using hl⟩
      have := p1 y (by simp)
      rw [hs] at this
      rw [List.map_cons, ← this]
  obtain ⟨l, rfl, hl⟩ := key xs q3 q4
  exact ⟨g, l, rfl, by simpa using q1, hl⟩
/-! Rows of terms -/
/-! Substitutions -/
structure BB where
  v : Int
  t : TT
def BB.cells (x : BB) : List DV := .int .i64 x.v :: x.t.cells
def BB.enc (x : BB) : DV := .agg x.cells
def BB.ok (x : BB) : Prop := (-9223372036854775808 ≤ x.v ∧ x.v ≤ 9223372036854775807) ∧ x.t.ok
def BB.erase (x : BB) : Bd := ⟨x.v, x.t.erase⟩
theorem BB.clr_enc (x : BB) : x.enc.clr = x.erase.enc .sub := by
  have ha := TT.clr_cells x.t
  rw [DV.clrs_map] at ha
  simp only [BB.enc, BB.cells, DV.clr, DV.clrs_map, List.map_cons, ha, BB.erase, Bd.enc]
theorem BB.oks_erase {l : List BB} (h : ∀ s, s ∈ l → BB.ok s) : ∀ s, s ∈ l.map BB.erase → Bd.ok s := by
  intro s hs
  obtain ⟨t, ht, rfl⟩ := List.mem_map.1 hs
  exact ⟨(h t ht).1, TT.ok_erase _ (h t ht).2⟩
def bindsV (g : Tag) (l : List BB) : DV := .sl g (l.map BB.enc)
theorem clr_bindsV (g : Tag) (l : List BB) : (bindsV g l).clr = binds .sub (l.map BB.erase) := by
  simp only [bindsV, clr_sl, List.map_map, Function.comp_def, BB.clr_enc, binds]
theorem shape_bind {t ti tt : TypeId} {fs : Array Field} {x : List DV} (hu : P.underlying t = some (.struct fs)) (hf : fieldsAt fs = [(ti, 0), (tt, 1)]) (h1 : P.underlying ti = some (.int .i64))
    (ht : ∀ x : List DV, Shape P tt x → ∃ s : TT, x = s.cells ∧ s.ok) (hc : P.cellsOf t = 4 ∧ P.cellsOf ti = 1 ∧ P.cellsOf tt = 3) (h : Shape P t x) : ∃ s : BB, x = s.cells ∧ s.ok := by
  obtain ⟨hl, hfs⟩ := shape_struct hu h
  rw [hc.1] at hl
  match x, hl with
  | [a, b, c, d], _ =>
    have e1 := field_shape hfs (t := ti) (o := 0) (by simp [hf])
    have e2 := field_shape hfs (t := tt) (o := 1) (by simp [hf])
    rw [hc.2.1] at e1; rw [hc.2.2] at e2
    simp at e1 e2
    obtain ⟨p, q1, w1⟩ := shape_int h1 e1
    obtain ⟨s, q2, o2⟩ := ht _ e2
    simp at q1
    subst q1
    exact ⟨⟨p, s⟩, by simp only [BB.cells, ← q2], wf_i64 w1, o2⟩
theorem shape_binds {t e ti tt : TypeId} {fs : Array Field} {x : List DV} (hs : P.underlying t = some (.slice e)) (hu : P.underlying e = some (.struct fs)) (hf : fieldsAt fs = [(ti, 0), (tt, 1)]) (h1 : P.underlying ti = some (.int .i64))
    (ht : ∀ x : List DV, Shape P tt x → ∃ s : TT, x = s.cells ∧ s.ok) (hc : P.cellsOf e = 4 ∧ P.cellsOf ti = 1 ∧ P.cellsOf tt = 3) (h : Shape P t x) : ∃ g l, x = [bindsV g l] ∧ l.length ≤ maxLen ∧ ∀ s, s ∈ l → s.ok := by
  obtain ⟨g, l, rfl, q1, q2⟩ := shape_listOf BB.cells BB.ok hs (fun y hy => shape_bind hu hf h1 ht hc hy) h
  exact ⟨g, l, by simp [bindsV, elemDV, hu, BB.enc, Function.comp_def], q1, q2⟩
/-! Bytes -/
end Go.Proofs.Ytnjgnjejkmcgmaa.VS
