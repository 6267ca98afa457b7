/- Contracts of the program's functions on the evaluator without names, and plain lemmas: part 3. -/
import Derived.Test.YtfiakfiocdfpbaaXP2
import Derived.Test.YtfiakfiocdfpbaaNat1
import Derived.Test.YtfiakfiocdfpbaaEngC
import Derived.Shelf.Spec.SlicesInsertGrow
import Derived.Laws.AppendOwn
set_option linter.unusedSimpArgs false
set_option linter.unusedVariables false
namespace Go.Proofs.Ytfiakfiocdfpbaa.VS
end Go.Proofs.Ytfiakfiocdfpbaa.VS
namespace Go.Proofs.Ytfiakfiocdfpbaa.VS
end Go.Proofs.Ytfiakfiocdfpbaa.VS
namespace Go.Proofs.Ytfiakfiocdfpbaa.VS
end Go.Proofs.Ytfiakfiocdfpbaa.VS
namespace Go.Proofs.Ytfiakfiocdfpbaa.VS
end Go.Proofs.Ytfiakfiocdfpbaa.VS
namespace Go.Proofs.Ytfiakfiocdfpbaa.VS
inductive Blk (s : Nat) : List T → Prop where
 | last (l : List T) : l.length < s → Srt l → Blk s l
 | cons (c r : List T) : c.length = s → Srt c → Blk s r → Blk s (c ++ r)
theorem Blk.srt {s : Nat} {l : List T} (h : Blk s l) (hl : l.length ≤ s) (hs : 0 < s) : Srt l := by
 cases h with
 | last _ _ h2 => exact h2
 | cons c r h1 h2 h3 =>
  have : r = [] := List.length_eq_zero_iff.1 (by simp at hl; omega)
  subst this
  rw [List.append_nil]; exact h2
end Go.Proofs.Ytfiakfiocdfpbaa.VS
namespace Go.Proofs.Ytfiakfiocdfpbaa.VS
end Go.Proofs.Ytfiakfiocdfpbaa.VS
namespace Go.Proofs.Ytfiakfiocdfpbaa.VS
end Go.Proofs.Ytfiakfiocdfpbaa.VS
namespace Go.Proofs.Ytfiakfiocdfpbaa.VS
end Go.Proofs.Ytfiakfiocdfpbaa.VS
namespace Go.Proofs.Ytfiakfiocdfpbaa.VS
end Go.Proofs.Ytfiakfiocdfpbaa.VS
namespace Go.Proofs.Ytfiakfiocdfpbaa.VS
end Go.Proofs.Ytfiakfiocdfpbaa.VS
namespace Go.Proofs.Ytfiakfiocdfpbaa.VS
abbrev ts (l : List Bd) : List T := l.map Bd.t
end Go.Proofs.Ytfiakfiocdfpbaa.VS
namespace Go.Proofs.Ytfiakfiocdfpbaa.VS
end Go.Proofs.Ytfiakfiocdfpbaa.VS
namespace Go.Proofs.Ytfiakfiocdfpbaa.VS
end Go.Proofs.Ytfiakfiocdfpbaa.VS
namespace Go.Proofs.Ytfiakfiocdfpbaa.VS
end Go.Proofs.Ytfiakfiocdfpbaa.VS
namespace Go.Proofs.Ytfiakfiocdfpbaa.VS
end Go.Proofs.Ytfiakfiocdfpbaa.VS
namespace Go.Proofs.Ytfiakfiocdfpbaa.VS
def IsV (d : DV) (a : T) : Prop := ∃ (g : Tag) (X : List DV), d = .agg [.int .i64 a.f, .int .i64 a.v, .sl g X] ∧ X.map DV.clr = a.kids.map (T.enc .sub)
theorem IsV.clr {d : DV} {a : T} (h : IsV d a) : d.clr = a.enc .sub := by
 obtain ⟨g, X, rfl, hX⟩ := h
 simp only [DV.clr, DV.clrs]
 rw [DV.clrs_map, hX, T.enc_eq]
end Go.Proofs.Ytfiakfiocdfpbaa.VS
namespace Go.Proofs.Ytfiakfiocdfpbaa.VS
end Go.Proofs.Ytfiakfiocdfpbaa.VS
namespace Go.Proofs.Ytfiakfiocdfpbaa.VS
end Go.Proofs.Ytfiakfiocdfpbaa.VS
namespace Go.Proofs.Ytfiakfiocdfpbaa.VS
end Go.Proofs.Ytfiakfiocdfpbaa.VS
namespace Go.Proofs.Ytfiakfiocdfpbaa.VS
end Go.Proofs.Ytfiakfiocdfpbaa.VS
namespace Go.Proofs.Ytfiakfiocdfpbaa.VS
end Go.Proofs.Ytfiakfiocdfpbaa.VS
namespace Go.Proofs.Ytfiakfiocdfpbaa.VS
end Go.Proofs.Ytfiakfiocdfpbaa.VS
namespace Go.Proofs.Ytfiakfiocdfpbaa.VS
end Go.Proofs.Ytfiakfiocdfpbaa.VS
namespace Go.Proofs.Ytfiakfiocdfpbaa.VS
end Go.Proofs.Ytfiakfiocdfpbaa.VS
namespace Go.Proofs.Ytfiakfiocdfpbaa.VS
end Go.Proofs.Ytfiakfiocdfpbaa.VS
namespace Go.Proofs.Ytfiakfiocdfpbaa.VS
end Go.Proofs.Ytfiakfiocdfpbaa.VS
namespace Go.Proofs.Ytfiakfiocdfpbaa.VS
end Go.Proofs.Ytfiakfiocdfpbaa.VS
namespace Go.Proofs.Ytfiakfiocdfpbaa.VS
end Go.Proofs.Ytfiakfiocdfpbaa.VS
namespace Go.Proofs.Ytfiakfiocdfpbaa.VS
end Go.Proofs.Ytfiakfiocdfpbaa.VS
namespace Go.Proofs.Ytfiakfiocdfpbaa.VS
end Go.Proofs.Ytfiakfiocdfpbaa.VS
namespace Go.Proofs.Ytfiakfiocdfpbaa.VS
mutual
def TT.erase : TT → T
 | .node f v g ks => .node f v (TT.erases ks)
def TT.erases : List TT → List T
 | [] => []
 | t :: r => t.erase :: TT.erases r
end
mutual
theorem TT.clr_cells : ∀ t : TT, DV.clrs t.cells = [.int .i64 t.erase.f, .int .i64 t.erase.v, terms .sub t.erase.kids]
 | .node f v g ks => by
  simp only [TT.cells, DV.clrs, DV.clr, TT.erase, T.f_node, T.v_node, T.kids_node, terms]
  rw [TT.clr_encs ks]
theorem TT.clr_encs : ∀ l : List TT, DV.clrs (TT.encs l) = (TT.erases l).map (T.enc .sub)
 | [] => by simp [TT.encs, DV.clrs, TT.erases]
 | t :: r => by
  simp only [TT.encs, DV.clrs, DV.clr, TT.erases, List.map_cons]
  rw [TT.clr_cells t, TT.clr_encs r, T.enc_eq]
end
theorem TT.clr_enc (t : TT) : t.enc.clr = t.erase.enc .sub := by
 simp only [TT.enc, DV.clr]
 rw [TT.clr_cells, T.enc_eq]
theorem plain_of_X (hX : XOK XV) {k : Nat} {vs : List DV} (h : ∃ B, callX XV k ((DV.clrs vs).map .d) [] = some (.d (.bool true), B)) : ∃ A B, callV E [] k (vs.map .d) [] Ids.none = some ⟨.d (.bool true), A, B⟩ := by
 obtain ⟨B, h⟩ := h
 obtain ⟨u, A, Bv, h1, h2⟩ := law_of_X hX (DV.clrs_clrs vs) (DV.clrs_fits vs) (d := .bool true) (by simp [DV.clr]) h
 simp only [DV.fit] at h2; subst h2
 exact ⟨A, Bv, h1⟩
theorem args1 {P : Program} {a : TypeId} : ∀ {xs : List (List DV)}, Args P [a] xs → ∃ x, xs = [x]
 | [x], _ => ⟨x, rfl⟩
 | [], h => h.elim
 | _ :: _ :: _, h => h.2.elim
end Go.Proofs.Ytfiakfiocdfpbaa.VS
namespace Go.Proofs.Ytfiakfiocdfpbaa.VS
structure L where
 p : Bool
 a : T
 b : T
def L.enc (g : Tag) (x : L) : DV := .agg [.bool x.p, .int .i64 x.a.f, .int .i64 x.a.v, terms g x.a.kids, .int .i64 x.b.f, .int .i64 x.b.v, terms g x.b.kids]
def L.ok (x : L) : Prop := x.a.ok ∧ x.b.ok
@[simp] theorem L.cells_enc (g : Tag) (x : L) : (x.enc g).cells = [.bool x.p, .int .i64 x.a.f, .int .i64 x.a.v, terms g x.a.kids, .int .i64 x.b.f, .int .i64 x.b.v, terms g x.b.kids] := rfl
@[simp] theorem L.cellsA_enc (g : Tag) (x : L) : (AV.d (x.enc g)).cells = [.d (.bool x.p), .d (.int .i64 x.a.f), .d (.int .i64 x.a.v), .d (terms g x.a.kids), .d (.int .i64 x.b.f), .d (.int .i64 x.b.v), .d (terms g x.b.kids)] := rfl
@[simp] theorem L.isCell_enc (g : Tag) (x : L) : (x.enc g).isCell = false := rfl
@[simp] theorem L.clr_enc (g : Tag) (x : L) : (x.enc g).clr = x.enc .sub := by
 simp only [L.enc, DV.clr, DV.clrs, terms, DV.clrs_map, clr_terms]
theorem L.agg_enc (g : Tag) (x : L) : DV.agg [.bool x.p, .int .i64 x.a.f, .int .i64 x.a.v, terms g x.a.kids, .int .i64 x.b.f, .int .i64 x.b.v, terms g x.b.kids] = x.enc g := rfl
def L.cmp (x y : L) : Int := if !x.p && y.p then -1 else if x.p && !y.p then 1 else if T.cmp x.a y.a ≠ 0 then T.cmp x.a y.a else T.cmp x.b y.b
def L.same (x y : L) : Bool := x.p == y.p && (T.cmp x.a y.a == 0) && (T.cmp x.b y.b == 0)
end Go.Proofs.Ytfiakfiocdfpbaa.VS
namespace Go.Proofs.Ytfiakfiocdfpbaa.VS
variable {P : Program}
structure LL where
 p : Bool
 a : TT
 b : TT
def LL.cells (x : LL) : List DV := .bool x.p :: (x.a.cells ++ x.b.cells)
def LL.enc (x : LL) : DV := .agg x.cells
def LL.ok (x : LL) : Prop := x.a.ok ∧ x.b.ok
def LL.erase (x : LL) : L := ⟨x.p, x.a.erase, x.b.erase⟩
theorem LL.clr_enc (x : LL) : x.enc.clr = x.erase.enc .sub := by
 have ha := TT.clr_cells x.a
 have hb := TT.clr_cells x.b
 rw [DV.clrs_map] at ha hb
 simp only [LL.enc, LL.cells, DV.clr, DV.clrs_map, List.map_cons, List.map_append, ha, hb, LL.erase, L.enc]
 rfl
theorem shape_listOf {α : Type} (c : α → List DV) (ok : α → Prop) {t e : TypeId} {x : List DV} (hu : P.underlying t = some (.slice e)) (hE : ∀ y : List DV, Shape P e y → ∃ s : α, y = c s ∧ ok s) (h : Shape P t x) :
  ∃ (g : Tag) (l : List α), x = [.sl g (l.map fun s => elemDV P e (c s))] ∧ l.length ≤ maxLen ∧ ∀ s, s ∈ l → ok s := by
 obtain ⟨g, xs, rfl, q1, q2, q3, q4⟩ := shape_slice hu h
 have key : ∀ xs : List DV, (∀ y : DV, y ∈ xs → y = elemDV P e y.cells) → (∀ y : DV, y ∈ xs → Shape P e y.cells) → ∃ l : List α, xs = (l.map fun s => elemDV P e (c s)) ∧ ∀ s, s ∈ l → ok s := by
  intro xs
  induction xs with
  | nil => intro _ _; exact ⟨[], rfl, by simp⟩
  | cons y r ih =>
   intro p1 p2
   obtain ⟨l, rfl, hl⟩ := ih (fun z hz => p1 z (by simp [hz])) (fun z hz => p2 z (by simp [hz]))
   obtain ⟨s, hs, hok⟩ := hE _ (p2 y (by simp))
   refine ⟨s :: l, ?_, by simpa [hok] using hl⟩
   have := p1 y (by simp)
   rw [hs] at this
   rw [List.map_cons, ← this]
 obtain ⟨l, rfl, hl⟩ := key xs q3 q4
 exact ⟨g, l, rfl, by simpa using q1, hl⟩
structure BB where
 v : Int
 t : TT
def BB.cells (x : BB) : List DV := .int .i64 x.v :: x.t.cells
def BB.enc (x : BB) : DV := .agg x.cells
def BB.ok (x : BB) : Prop := (-9223372036854775808 ≤ x.v ∧ x.v ≤ 9223372036854775807) ∧ x.t.ok
def BB.erase (x : BB) : Bd := ⟨x.v, x.t.erase⟩
theorem BB.clr_enc (x : BB) : x.enc.clr = x.erase.enc .sub := by
 have ha := TT.clr_cells x.t
 rw [DV.clrs_map] at ha
 simp only [BB.enc, BB.cells, DV.clr, DV.clrs_map, List.map_cons, ha, BB.erase, Bd.enc]
def bytesL (g : Tag) (l : List Int) : DV := .sl g (l.map (.int .u8))
theorem clr_bytesL (g : Tag) (l : List Int) : (bytesL g l).clr = .sl .sub (l.map (.int .u8)) := by
 simp only [bytesL, clr_sl, List.map_map, Function.comp_def, clr_int]
theorem shape_bytes {t e : TypeId} {x : List DV} (hu : P.underlying t = some (.slice e)) (he : P.underlying e = some (.int .u8)) (h : Shape P t x) : ∃ g l, x = [bytesL g l] ∧ l.length ≤ maxLen := by
 obtain ⟨g, l, rfl, h1, _⟩ := shape_listOf (fun n : Int => [DV.int .u8 n]) (fun _ => True) hu (fun y hy => by
  obtain ⟨n, rfl, _⟩ := shape_int he hy
  exact ⟨n, rfl, trivial⟩) h
 exact ⟨g, l, by simp [bytesL, elemDV, he], h1⟩
end Go.Proofs.Ytfiakfiocdfpbaa.VS
