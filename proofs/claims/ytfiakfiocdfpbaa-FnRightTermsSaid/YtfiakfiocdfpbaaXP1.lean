/- Contracts of the program's functions on the evaluator without names, and plain lemmas: part 1. -/
import Derived.Test.YtfiakfiocdfpbaaLin
set_option linter.unusedSimpArgs false
set_option linter.unusedVariables false
namespace Go.Proofs.Ytfiakfiocdfpbaa.VS
inductive T where
 | node (f v : Int) (kids : List T)
 deriving Inhabited
def T.f : T → Int | .node f _ _ => f
def T.v : T → Int | .node _ v _ => v
def T.kids : T → List T | .node _ _ k => k
mutual
def T.enc (g : Tag) : T → DV
 | .node f v ks => .agg [.int .i64 f, .int .i64 v, .sl g (T.encs g ks)]
def T.encs (g : Tag) : List T → List DV
 | [] => []
 | t :: r => t.enc g :: T.encs g r
end
theorem T.encs_map (g : Tag) : ∀ l : List T, T.encs g l = l.map (T.enc g)
 | [] => by unfold T.encs; rfl
 | t :: r => by unfold T.encs; simp [T.encs_map g r]
abbrev terms (g : Tag) (l : List T) : DV := .sl g (l.map (T.enc g))
theorem T.enc_eq (g : Tag) (t : T) : t.enc g = .agg [.int .i64 t.f, .int .i64 t.v, terms g t.kids] := by
 cases t; simp [T.enc, T.encs_map, terms, T.f, T.v, T.kids]
@[simp] theorem agg_enc (g : Tag) (f v : Int) (ks : List T) : DV.agg [.int .i64 f, .int .i64 v, terms g ks] = (T.node f v ks).enc g := by
 simp [T.enc, T.encs_map, terms]
@[simp] theorem T.eta (t : T) : T.node t.f t.v t.kids = t := by cases t; rfl
@[simp] theorem T.f_node (f v : Int) (k : List T) : (T.node f v k).f = f := rfl
@[simp] theorem T.v_node (f v : Int) (k : List T) : (T.node f v k).v = v := rfl
@[simp] theorem T.kids_node (f v : Int) (k : List T) : (T.node f v k).kids = k := rfl
@[simp] theorem T.cells_enc (g : Tag) (t : T) : (t.enc g).cells = [.int .i64 t.f, .int .i64 t.v, terms g t.kids] := by rw [T.enc_eq]; rfl
@[simp] theorem T.cellsA_enc (g : Tag) (t : T) : (AV.d (t.enc g)).cells = [.d (.int .i64 t.f), .d (.int .i64 t.v), .d (terms g t.kids)] := by rw [T.enc_eq]; rfl
@[simp] theorem T.isCell_enc (g : Tag) (t : T) : (t.enc g).isCell = false := by rw [T.enc_eq]; rfl
mutual
theorem T.clr_enc (g : Tag) : ∀ t : T, (t.enc g).clr = t.enc .sub
 | .node f v ks => by simp only [T.enc, DV.clr, DV.clrs, T.clr_encs g ks]
theorem T.clr_encs (g : Tag) : ∀ l : List T, DV.clrs (T.encs g l) = T.encs .sub l
 | [] => by simp only [T.encs, DV.clrs]
 | t :: r => by simp only [T.encs, DV.clrs, T.clr_enc g t, T.clr_encs g r]
end
attribute [simp] T.clr_enc
@[simp high] theorem clr_terms (g : Tag) (l : List T) : (l.map (T.enc g)).map DV.clr = l.map (T.enc .sub) := by
 rw [← T.encs_map, ← T.encs_map, ← DV.clrs_map, T.clr_encs]
def tAt (l : List T) (i : Nat) : T := (l[i]?).getD (.node 0 0 [])
theorem tAt_get {l : List T} {i : Nat} (h : i < l.length) : l[i]? = some (tAt l i) := by simp [tAt, h]
@[simp] theorem terms_get (g : Tag) {l : List T} {i : Nat} (h : i < l.length) : (l.map (T.enc g))[i]? = some ((tAt l i).enc g) := by simp [tAt_get h]
mutual
def T.inner : T → Nat
 | .node _ _ ks => ks.length + T.inners ks
def T.inners : List T → Nat
 | [] => 0
 | t :: r => t.inner + T.inners r
end
theorem T.inner_eq (t : T) : t.inner = t.kids.length + T.inners t.kids := by cases t; simp [T.inner]
end Go.Proofs.Ytfiakfiocdfpbaa.VS
namespace Go.Proofs.Ytfiakfiocdfpbaa.VS
mutual
def T.ok : T → Prop
 | .node _ _ ks => ks.length ≤ maxLen ∧ T.oks ks
def T.oks : List T → Prop
 | [] => True
 | t :: r => t.ok ∧ T.oks r
end
end Go.Proofs.Ytfiakfiocdfpbaa.VS
namespace Go.Proofs.Ytfiakfiocdfpbaa.VS
set_option profiler true
set_option profiler.threshold 2000
mutual
def T.cmp : T → T → Int
 | .node f v ks, .node f' v' ks' =>
  if f < f' then -1 else if f > f' then 1 else if v < v' then -1 else if v > v' then 1 else
  if ks.length < ks'.length then -1 else if ks.length > ks'.length then 1 else T.cmps ks ks'
def T.cmps : List T → List T → Int
 | a :: as, b :: bs => if T.cmp a b ≠ 0 then T.cmp a b else T.cmps as bs
 | _, _ => 0
end
end Go.Proofs.Ytfiakfiocdfpbaa.VS
namespace Go.Proofs.Ytfiakfiocdfpbaa.VS
end Go.Proofs.Ytfiakfiocdfpbaa.VS
namespace Go.Proofs.Ytfiakfiocdfpbaa.VS
@[simp] theorem isAgg_agg (cs : List DV) : isAgg (.agg cs) = true := rfl
@[simp] theorem isAgg_int (k : IntKind) (n : Int) : isAgg (.int k n) = false := rfl
@[simp] theorem cn_symE (s : SymL) : s.enc.cn = s.enc := by simp [SymL.enc, SymL.cells]
@[simp] theorem isAgg_sym (s : SymL) : isAgg s.enc = true := rfl
@[simp] theorem clr_symE (s : SymL) : s.enc.clr = s.enc := by simp [SymL.enc, SymL.cells]
@[simp] theorem cells_symE (s : SymL) : s.enc.cells = [.str s.name, .int .i64 s.arity, .bool s.ac] := rfl
@[simp] theorem cellsA_symE (s : SymL) : (AV.d s.enc).cells = [.d (.str s.name), .d (.int .i64 s.arity), .d (.bool s.ac)] := rfl
@[simp] theorem isCell_symE (s : SymL) : s.enc.isCell = false := rfl
@[simp] theorem agg_symE (n : ByteArray) (a : Int) (b : Bool) : DV.agg [.str n, .int .i64 a, .bool b] = SymL.enc ⟨n, a, b⟩ := rfl
@[simp high] theorem clr_symsE (l : List SymL) : (l.map SymL.enc).map DV.clr = l.map SymL.enc := by simp [List.map_map, Function.comp_def]
def symAt (l : List SymL) (i : Nat) : SymL := (l[i]?).getD ⟨⟨#[]⟩, 0, false⟩
@[simp] theorem evBin_seq (a b : ByteArray) : evBin .eql (.str a) (.str b) = some (.bool (strEq a b)) := rfl
@[simp] theorem evBin_sne (a b : ByteArray) : evBin .neq (.str a) (.str b) = some (.bool !(strEq a b)) := rfl
def inB (x lo hi : Int) : Bool := decide (lo ≤ x) && decide (x ≤ hi)
def symIn (l : List SymL) (f : Int) : Bool := inB f 0 (l.length - 1)
end Go.Proofs.Ytfiakfiocdfpbaa.VS
namespace Go.Proofs.Ytfiakfiocdfpbaa.VS
def seedC (bs : List Int) (pos st : Int) : List AV := [.d (.sl .sub (bs.map (.int .u8))), .d (.int .i64 pos), .d (.int .i64 st)]
theorem bget_set {B : Boxs} {i : Nat} {c : List AV} (h : i < B.length) : bget (B.set i (some c)) i = some c := by simp [bget, h]
theorem bget_lt {B : Boxs} {i : Nat} {c : List AV} (h : bget B i = some c) : i < B.length := by
 rcases Nat.lt_or_ge i B.length with h1 | h1
 ·exact h1
 ·simp [bget, List.getElem?_eq_none h1] at h
theorem bget_iff {B : Boxs} {i : Nat} {c : List AV} (h : bget B i = some c) : B[i]? = some (some c) := by
 unfold bget at h
 split at h
 ·rename_i c' hc; rw [hc]; simpa using h
 ·simp at h
def Turned (bs : List Int) (i : Nat) (B B' : Boxs) : Prop := ∃ pos st : Int, (0 ≤ pos ∧ pos ≤ bs.length) ∧ B' = B.set i (some (seedC bs pos st))
def SeedAt (bs : List Int) (i : Nat) (B : Boxs) : Prop := ∃ pos st : Int, (0 ≤ pos ∧ pos ≤ bs.length) ∧ bget B i = some (seedC bs pos st)
theorem Turned.at {bs : List Int} {i : Nat} {B B' : Boxs} (hi : i < B.length) (h : Turned bs i B B') : SeedAt bs i B' := by
 obtain ⟨pos, st, hp, rfl⟩ := h
 exact ⟨pos, st, hp, bget_set hi⟩
theorem Turned.len {bs : List Int} {i : Nat} {B B' : Boxs} (h : Turned bs i B B') : B'.length = B.length := by
 obtain ⟨pos, st, hp, rfl⟩ := h; simp
theorem Turned.trans {bs : List Int} {i : Nat} {B B' B'' : Boxs} (h : Turned bs i B B') (h' : Turned bs i B' B'') : Turned bs i B B'' := by
 obtain ⟨pos, st, hp, rfl⟩ := h
 obtain ⟨pos', st', hp', rfl⟩ := h'
 exact ⟨pos', st', hp', by simp⟩
theorem SeedAt.lt {bs : List Int} {i : Nat} {B : Boxs} (h : SeedAt bs i B) : i < B.length := by
 obtain ⟨_, _, _, h⟩ := h; exact bget_lt h
end Go.Proofs.Ytfiakfiocdfpbaa.VS
namespace Go.Proofs.Ytfiakfiocdfpbaa.VS
end Go.Proofs.Ytfiakfiocdfpbaa.VS
namespace Go.Proofs.Ytfiakfiocdfpbaa.VS
end Go.Proofs.Ytfiakfiocdfpbaa.VS
namespace Go.Proofs.Ytfiakfiocdfpbaa.VS
end Go.Proofs.Ytfiakfiocdfpbaa.VS
namespace Go.Proofs.Ytfiakfiocdfpbaa.VS
abbrev is (l : List Int) : DV := .sl .sub (l.map (.int .i64))
@[simp high] theorem clr_intsE (l : List Int) : (l.map (DV.int .i64)).map DV.clr = l.map (DV.int .i64) := by simp [List.map_map, Function.comp_def]
end Go.Proofs.Ytfiakfiocdfpbaa.VS
namespace Go.Proofs.Ytfiakfiocdfpbaa.VS
end Go.Proofs.Ytfiakfiocdfpbaa.VS
namespace Go.Proofs.Ytfiakfiocdfpbaa.VS
def findAt (q : Nat → Bool) : Nat → Nat → Option Nat
 | 0, _ => none
 | k + 1, i => if q i then some i else findAt q k (i + 1)
end Go.Proofs.Ytfiakfiocdfpbaa.VS
namespace Go.Proofs.Ytfiakfiocdfpbaa.VS
section
variable (X : XEnv)
end
end Go.Proofs.Ytfiakfiocdfpbaa.VS
namespace Go.Proofs.Ytfiakfiocdfpbaa.VS
end Go.Proofs.Ytfiakfiocdfpbaa.VS
namespace Go.Proofs.Ytfiakfiocdfpbaa.VS
@[simp high] theorem clr_bytesE (l : List Int) : (l.map (DV.int .u8)).map DV.clr = l.map (DV.int .u8) := by simp [List.map_map, Function.comp_def]
end Go.Proofs.Ytfiakfiocdfpbaa.VS
namespace Go.Proofs.Ytfiakfiocdfpbaa.VS
def mk : Nat → Nat → List Int
 | 0, _ => []
 | n + 1, k => (k : Int) :: mk n (k + 1)
theorem frzC_d (B : Boxs) (n : Nat) (v : DV) : AV.frzC B n (.d v) = some v := by cases n <;> simp only [AV.frzC]
end Go.Proofs.Ytfiakfiocdfpbaa.VS
namespace Go.Proofs.Ytfiakfiocdfpbaa.VS
mutual
def T.nb : T → Nat
 | .node _ _ [] => 0
 | .node _ _ (t :: r) => T.nbs (t :: r) + 1
def T.nbs : List T → Nat
 | [] => 0
 | t :: r => t.nb + T.nbs r
end
def rowN (ks : List T) : Nat := if ks = [] then 0 else T.nbs ks + 1
def tRow (b : Nat) (ks : List T) : AV := if ks = [] then .d (terms .sub []) else .tsl true (b + T.nbs ks) 3 ks.length
def tCells (b : Nat) : List T → List AV
 | [] => []
 | .node f v ks :: r => .d (.int .i64 f) :: .d (.int .i64 v) :: tRow b ks :: tCells (b + rowN ks) r
mutual
def T.bx (b : Nat) : T → Boxs
 | .node _ _ [] => []
 | .node _ _ (t :: r) => T.bxs b (t :: r) ++ [some (tCells b (t :: r))]
def T.bxs (b : Nat) : List T → Boxs
 | [] => []
 | t :: r => t.bx b ++ T.bxs (b + t.nb) r
end
end Go.Proofs.Ytfiakfiocdfpbaa.VS
namespace Go.Proofs.Ytfiakfiocdfpbaa.VS
end Go.Proofs.Ytfiakfiocdfpbaa.VS
namespace Go.Proofs.Ytfiakfiocdfpbaa.VS
end Go.Proofs.Ytfiakfiocdfpbaa.VS
namespace Go.Proofs.Ytfiakfiocdfpbaa.VS
end Go.Proofs.Ytfiakfiocdfpbaa.VS
namespace Go.Proofs.Ytfiakfiocdfpbaa.VS
end Go.Proofs.Ytfiakfiocdfpbaa.VS
