/- Contracts of the program's functions on the evaluator without names, and plain lemmas: XTerm. -/
import Derived.Test.YtcffalienbbohaaLin
namespace Go.Proofs.Ytcffalienbbohaa.VS
set_option linter.unusedVariables false
set_option linter.unusedSimpArgs false
/-- A term. -/
inductive T where
  | node (f v : Int) (kids : List T)
  deriving Inhabited
def T.f : T → Int | .node f _ _ => f
def T.v : T → Int | .node _ v _ => v
def T.kids : T → List T | .node _ _ k => k
mutual
def T.enc (g : Tag) : T → DV
  | .node f v ks => .agg [.int .i64 f, .int .i64 v, .sl g (T.encs g ks)]
def T.encs (g : Tag) : List T → List DV
  | [] => []
  | t :: r => t.enc g :: T.encs g r
end
theorem T.encs_map (g : Tag) : ∀ l : List T, T.encs g l = l.map (T.enc g)
  | [] => by unfold T.encs; rfl
  | t :: r => by unfold T.encs; simp [T.encs_map g r]
abbrev terms (g : Tag) (l : List T) : DV := .sl g (l.map (T.enc g))
theorem T.enc_eq (g : Tag) (t : T) : t.enc g = .agg [.int .i64 t.f, .int .i64 t.v, terms g t.kids] := by
  cases t; simp [T.enc, T.encs_map, terms, T.f, T.v, T.kids]
@[simp] theorem agg_enc (g : Tag) (f v : Int) (ks : List T) : DV.agg [.int .i64 f, .int .i64 v, terms g ks] = (T.node f v ks).enc g := by
  simp [T.enc, T.encs_map, terms]
@[simp] theorem T.eta (t : T) : T.node t.f t.v t.kids = t := by cases t; rfl
@[simp] theorem T.f_node (f v : Int) (k : List T) : (T.node f v k).f = f := rfl
@[simp] theorem T.v_node (f v : Int) (k : List T) : (T.node f v k).v = v := rfl
@[simp] theorem T.kids_node (f v : Int) (k : List T) : (T.node f v k).kids = k := rfl
@[simp] theorem T.cells_enc (g : Tag) (t : T) : (t.enc g).cells = [.int .i64 t.f, .int .i64 t.v, terms g t.kids] := by rw [T.enc_eq]; rfl
@[simp] theorem T.cellsA_enc (g : Tag) (t : T) : (AV.d (t.enc g)).cells = [.d (.int .i64 t.f), .d (.int .i64 t.v), .d (terms g t.kids)] := by rw [T.enc_eq]; rfl
@[simp] theorem T.isCell_enc (g : Tag) (t : T) : (t.enc g).isCell = false := by rw [T.enc_eq]; rfl
mutual
theorem T.clr_enc (g : Tag) : ∀ t : T, (t.enc g).clr = t.enc .sub
  | .node f v ks => by simp only [T.enc, DV.clr, DV.clrs, T.clr_encs g ks]
theorem T.clr_encs (g : Tag) : ∀ l : List T, DV.clrs (T.encs g l) = T.encs .sub l
  | [] => by simp only [T.encs, DV.clrs]
  | t :: r => by simp only [T.encs, DV.clrs, T.clr_enc g t, T.clr_encs g r]
end
attribute [simp] T.clr_enc
@[simp high] theorem clr_terms (g : Tag) (l : List T) : (l.map (T.enc g)).map DV.clr = l.map (T.enc .sub) := by
  rw [← T.encs_map, ← T.encs_map, ← DV.clrs_map, T.clr_encs]
def tAt (l : List T) (i : Nat) : T := (l[i]?).getD (.node 0 0 [])
theorem tAt_lt {l : List T} {i : Nat} (h : i < l.length) : l[i] = tAt l i := by simp [tAt, h]
theorem tAt_mem {l : List T} {i : Nat} (h : i < l.length) : tAt l i ∈ l := by rw [← tAt_lt h]; exact List.getElem_mem h
theorem tAt_get {l : List T} {i : Nat} (h : i < l.length) : l[i]? = some (tAt l i) := by simp [tAt, h]
@[simp] theorem terms_get (g : Tag) {l : List T} {i : Nat} (h : i < l.length) : (l.map (T.enc g))[i]? = some ((tAt l i).enc g) := by simp [tAt_get h]
mutual
/-- How many terms stand in a term, without itself. -/
def T.inner : T → Nat
  | .node _ _ ks => ks.length + T.inners ks
def T.inners : List T → Nat
  | [] => 0
  | t :: r => t.inner + T.inners r
end
theorem T.inner_eq (t : T) : t.inner = t.kids.length + T.inners t.kids := by cases t; simp [T.inner]
/-- What szTerm leaves. -/
def leftOf (left : Int) (n : Nat) : Int := if left - n < 0 then -1 else left - n
def stepT (l : List T) (left : Int) (i : Nat) : Int ⊕ Unit := if left - (tAt l i).inner < 0 then .inr () else .inl (left - (tAt l i).inner)
theorem runT (l : List T) : ∀ (k i : Nat) (left : Int), i + k = l.length → 0 ≤ left → runN (stepT l) k left i = if left - T.inners (l.drop i) < 0 then .inr () else .inl (left - T.inners (l.drop i))
  | 0, i, left, h, h0 => by
    have : l.drop i = [] := List.drop_eq_nil_of_le (by omega)
    have h1 : ¬ left < 0 := by omega
    simp [runN, this, T.inners, h1]
  | k + 1, i, left, h, h0 => by
    have hlt : i < l.length := by omega
    have hs : T.inners (l.drop i) = (tAt l i).inner + T.inners (l.drop (i + 1)) := by
      rw [List.drop_eq_getElem_cons hlt, tAt_lt hlt]
      simp only [T.inners]
    rw [hs]
    generalize hm : T.inners (l.drop (i + 1)) = m
    have ih := fun left h0 => runT l k (i + 1) left (by omega) h0
    rw [hm] at ih
    simp only [runN, stepT]
    by_cases h1 : left - (tAt l i).inner < 0
    · have h2 : left - ((tAt l i).inner + m : Nat) < 0 := by omega
      simp only [h1, h2, if_true]
    · simp only [h1, if_false]
      rw [ih _ (by omega)]
      have e : left - (tAt l i).inner - (m : Int) = left - ((tAt l i).inner + m : Nat) := by omega
      rw [e]
def num (n : Int) : AV := .d (.int .i64 n)

end Go.Proofs.Ytcffalienbbohaa.VS
