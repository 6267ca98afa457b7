/- Contracts of the program's functions on the evaluator without names, and plain lemmas: part 1. -/
import Derived.Test.YtidlpcgcolcfgaaLin
set_option linter.unusedSimpArgs false
set_option linter.unusedVariables false
namespace Go.Proofs.Ytidlpcgcolcfgaa.VS
inductive T where
 | node (f v : Int) (kids : List T)
 deriving Inhabited
def T.f : T → Int | .node f _ _ => f
def T.v : T → Int | .node _ v _ => v
def T.kids : T → List T | .node _ _ k => k
mutual
def T.enc (g : Tag) : T → DV
 | .node f v ks => .agg [.int .i64 f, .int .i64 v, .sl g (T.encs g ks)]
def T.encs (g : Tag) : List T → List DV
 | [] => []
 | t :: r => t.enc g :: T.encs g r
end
theorem T.encs_map (g : Tag) : ∀ l : List T, T.encs g l = l.map (T.enc g)
 | [] => by unfold T.encs; rfl
 | t :: r => by unfold T.encs; simp [T.encs_map g r]
abbrev terms (g : Tag) (l : List T) : DV := .sl g (l.map (T.enc g))
theorem T.enc_eq (g : Tag) (t : T) : t.enc g = .agg [.int .i64 t.f, .int .i64 t.v, terms g t.kids] := by
 cases t; simp [T.enc, T.encs_map, terms, T.f, T.v, T.kids]
@[simp] theorem agg_enc (g : Tag) (f v : Int) (ks : List T) : DV.agg [.int .i64 f, .int .i64 v, terms g ks] = (T.node f v ks).enc g := by
 simp [T.enc, T.encs_map, terms]
@[simp] theorem T.eta (t : T) : T.node t.f t.v t.kids = t := by cases t; rfl
@[simp] theorem T.f_node (f v : Int) (k : List T) : (T.node f v k).f = f := rfl
@[simp] theorem T.v_node (f v : Int) (k : List T) : (T.node f v k).v = v := rfl
@[simp] theorem T.kids_node (f v : Int) (k : List T) : (T.node f v k).kids = k := rfl
@[simp] theorem T.cells_enc (g : Tag) (t : T) : (t.enc g).cells = [.int .i64 t.f, .int .i64 t.v, terms g t.kids] := by rw [T.enc_eq]; rfl
@[simp] theorem T.cellsA_enc (g : Tag) (t : T) : (AV.d (t.enc g)).cells = [.d (.int .i64 t.f), .d (.int .i64 t.v), .d (terms g t.kids)] := by rw [T.enc_eq]; rfl
@[simp] theorem T.isCell_enc (g : Tag) (t : T) : (t.enc g).isCell = false := by rw [T.enc_eq]; rfl
mutual
theorem T.clr_enc (g : Tag) : ∀ t : T, (t.enc g).clr = t.enc .sub
 | .node f v ks => by simp only [T.enc, DV.clr, DV.clrs, T.clr_encs g ks]
theorem T.clr_encs (g : Tag) : ∀ l : List T, DV.clrs (T.encs g l) = T.encs .sub l
 | [] => by simp only [T.encs, DV.clrs]
 | t :: r => by simp only [T.encs, DV.clrs, T.clr_enc g t, T.clr_encs g r]
end
attribute [simp] T.clr_enc
@[simp high] theorem clr_terms (g : Tag) (l : List T) : (l.map (T.enc g)).map DV.clr = l.map (T.enc .sub) := by
 rw [← T.encs_map, ← T.encs_map, ← DV.clrs_map, T.clr_encs]
def tAt (l : List T) (i : Nat) : T := (l[i]?).getD (.node 0 0 [])
theorem tAt_lt {l : List T} {i : Nat} (h : i < l.length) : l[i] = tAt l i := by simp [tAt, h]
theorem tAt_mem {l : List T} {i : Nat} (h : i < l.length) : tAt l i ∈ l := by rw [← tAt_lt h]; exact List.getElem_mem h
theorem tAt_get {l : List T} {i : Nat} (h : i < l.length) : l[i]? = some (tAt l i) := by simp [tAt, h]
@[simp] theorem terms_get (g : Tag) {l : List T} {i : Nat} (h : i < l.length) : (l.map (T.enc g))[i]? = some ((tAt l i).enc g) := by simp [tAt_get h]
mutual
def T.inner : T → Nat
 | .node _ _ ks => ks.length + T.inners ks
def T.inners : List T → Nat
 | [] => 0
 | t :: r => t.inner + T.inners r
end
theorem T.inner_eq (t : T) : t.inner = t.kids.length + T.inners t.kids := by cases t; simp [T.inner]
end Go.Proofs.Ytidlpcgcolcfgaa.VS
namespace Go.Proofs.Ytidlpcgcolcfgaa.VS
mutual
def T.ok : T → Prop
 | .node _ _ ks => ks.length ≤ maxLen ∧ T.oks ks
def T.oks : List T → Prop
 | [] => True
 | t :: r => t.ok ∧ T.oks r
end
end Go.Proofs.Ytidlpcgcolcfgaa.VS
namespace Go.Proofs.Ytidlpcgcolcfgaa.VS
set_option profiler true
set_option profiler.threshold 2000
theorem T.inners_mem : ∀ {l : List T} {t : T}, t ∈ l → t.inner ≤ T.inners l
 | [], t, h => by simp at h
 | s :: r, t, h => by
  simp only [T.inners]
  rcases List.mem_cons.1 h with rfl | h
  ·omega
  ·have := T.inners_mem h; omega
mutual
def T.cmp : T → T → Int
 | .node f v ks, .node f' v' ks' =>
  if f < f' then -1 else if f > f' then 1 else if v < v' then -1 else if v > v' then 1 else
  if ks.length < ks'.length then -1 else if ks.length > ks'.length then 1 else T.cmps ks ks'
def T.cmps : List T → List T → Int
 | a :: as, b :: bs => if T.cmp a b ≠ 0 then T.cmp a b else T.cmps as bs
 | _, _ => 0
end
def stepC (l m : List T) (_ : Unit) (i : Nat) : Unit ⊕ Int := if T.cmp (tAt l i) (tAt m i) ≠ 0 then .inr (T.cmp (tAt l i) (tAt m i)) else .inl ()
theorem runC (l m : List T) (hl : l.length = m.length) : ∀ (k i : Nat), i + k = l.length → runN (stepC l m) k () i = if T.cmps (l.drop i) (m.drop i) = 0 then .inl () else .inr (T.cmps (l.drop i) (m.drop i))
 | 0, i, h => by
  have h1 : l.drop i = [] := List.drop_eq_nil_of_le (by omega)
  simp [runN, h1, T.cmps]
 | k + 1, i, h => by
  have hlt : i < l.length := by omega
  have hlt' : i < m.length := by omega
  rw [List.drop_eq_getElem_cons hlt, List.drop_eq_getElem_cons hlt', tAt_lt hlt, tAt_lt hlt']
  simp only [runN, stepC, T.cmps]
  by_cases hc : T.cmp (tAt l i) (tAt m i) = 0
  ·simp only [hc, ne_eq, not_true_eq_false, if_false]
   exact runC l m hl k (i + 1) (by omega)
  ·simp [hc]
def cmpB (f v : Int) (ks : List T) (f' v' : Int) (ks' : List T) : Boxs := [some [.d (.int .i64 f), .d (.int .i64 v), .d (terms .sub ks)], some [.d (.int .i64 f'), .d (.int .i64 v'), .d (terms .sub ks')]]
def cmpP (a b c d e f : Int) (r : Int) : Int := if a < b then -1 else if a > b then 1 else if c < d then -1 else if c > d then 1 else if e < f then -1 else if e > f then 1 else r
theorem cmp_node (f v : Int) (ks : List T) (f' v' : Int) (ks' : List T) : T.cmp (.node f v ks) (.node f' v' ks') = cmpP f f' v v' ks.length ks'.length (T.cmps ks ks') := by
 simp only [T.cmp, cmpP, Int.ofNat_lt, gt_iff_lt]
end Go.Proofs.Ytidlpcgcolcfgaa.VS
namespace Go.Proofs.Ytidlpcgcolcfgaa.VS
theorem cmp_zero (f v : Int) (ks : List T) (f' v' : Int) (ks' : List T) : T.cmp (.node f v ks) (.node f' v' ks') = 0 ↔ f = f' ∧ v = v' ∧ ks.length = ks'.length ∧ T.cmps ks ks' = 0 := by
 rw [cmp_node]; unfold cmpP
 constructor
 ·intro h
  iterate 6 (split at h; · omega)
  exact ⟨by omega, by omega, by omega, h⟩
 ·rintro ⟨rfl, rfl, h, h'⟩
  simp [h, h']
theorem specSame_of (f v : Int) (ks : List T) (f' v' : Int) (ks' : List T) (hl : ks.length ≤ 1099511627776) (hl' : ks'.length ≤ 1099511627776)
  (hrec : ∀ s s', s ∈ ks → s' ∈ ks' → callX XV 3 [.d (s.enc .sub), .d (s'.enc .sub)] [] = some (.d (.bool (T.cmp s s' == 0)), [])) :
  callX XV 3 [.d ((T.node f v ks).enc .sub), .d ((T.node f' v' ks').enc .sub)] [] = some (.d (.bool (T.cmp (.node f v ks) (.node f' v' ks') == 0)), []) := by
 rw [z_call XV _ _ _ v3 rfl xcode_3 rfl]
 have hz := cmp_zero f v ks f' v' ks'
 have ne : ¬ (f = f' ∧ v = v' ∧ ks.length = ks'.length ∧ T.cmps ks ks' = 0) → (T.cmp (.node f v ks) (.node f' v' ks') == 0) = false := fun h => by
  rw [← hz] at h; simpa using h
 have hlc : (ks.length : Int) = ks'.length ↔ ks.length = ks'.length := by omega
 by_cases c1 : f = f'
 case neg =>
  rw [ne (fun h => c1 h.1)]
  have b1 : (f != f') = true := by simp [c1]
  simp [v3, r3_0, r3_1, r3_2, b1]
 by_cases c2 : v = v'
 case neg =>
  rw [ne (fun h => c2 h.2.1)]
  have b2 : (v != v') = true := by simp [c2]
  simp [v3, r3_0, r3_1, r3_2, c1, b2]
 by_cases c3 : ks.length = ks'.length
 case neg =>
  rw [ne (fun h => c3 h.2.2.1)]
  have b3 : ((ks.length : Int) != ks'.length) = true := by simp; omega
  simp [v3, r3_0, r3_1, r3_2, c1, c2, b3]
 have h := loopX_upto (X := XV) (T := []) (L := 2) (live := [2, 3, 5]) (b := b3_0) (n := ks.length) (γ := Int) (st := fun (_ : Unit) i => ⟨[(2, .ptr 0 0), (3, .ptr 1 0), (5, .d (.int .i64 i))], cmpB f v ks f' v' ks'⟩) (step := stepC ks ks')
  (F := fun _ => (.exit 0, ⟨[(2, .ptr 0 0), (3, .ptr 1 0), (5, .d (.int .i64 ks.length)), (31, .d (.bool false))], cmpB f v ks f' v' ks'⟩)) (R := fun r => (.ret, ⟨[(4, .d (.bool false))], cmpB f v ks f' v' ks'⟩))
  (fun _ => ⟨by simp, by simp [b3_0, r3_4, cmpB]⟩)
  (fun _ i hi => by
   have hw := wrap_succ (n := i) (by omega)
   have hi2 : i < ks'.length := by omega
   have hc := hrec _ _ (tAt_mem hi) (tAt_mem hi2)
   unfold stepC cmpB
   by_cases h0 : T.cmp (tAt ks i) (tAt ks' i) = 0
   ·rw [h0] at hc ⊢
    simp only [ne_eq, not_true_eq_false, if_false]
    refine ⟨_, by simp [b3_0, r3_4, r3_5, d3_6, r3_7, hi, hi2, hw, cut, tAt_lt hi, tAt_lt hi2, hc]; rfl, ?_⟩
    simp [xheadOf, safeRegs]
   ·simp only [ne_eq, h0, not_false_eq_true, if_true]
    have h0' : (T.cmp (tAt ks i) (tAt ks' i) == 0) = false := by simp [h0]
    rw [h0'] at hc
    refine ⟨by simp, ?_⟩
    simp [b3_0, r3_4, r3_5, d3_6, r3_7, hi, hi2, hw, cut, tAt_lt hi, tAt_lt hi2, hc])
  ks.length () 0 ⟨[(2, .ptr 0 0), (3, .ptr 1 0), (5, .d (.int .i64 0))], cmpB f v ks f' v' ks'⟩ (by omega) (by simp [xheadOf, safeRegs, cmpB])
 rw [runC ks ks' c3 _ _ (by omega)] at h
 simp only [List.drop_zero, cmpB] at h
 simp [v3, r3_0, r3_1, r3_2, r3_3, c1, c2, hlc, c3]
 subst c1; subst c2
 rw [c3] at h
 rw [h]
 by_cases h0 : T.cmps ks ks' = 0
 ·have : T.cmp (.node f v ks) (.node f v ks') = 0 := hz.2 ⟨rfl, rfl, c3, h0⟩
  simp [h0, r3_8, this]
 ·have : ¬ T.cmp (.node f v ks) (.node f v ks') = 0 := fun h => h0 (hz.1 h).2.2.2
  simp [h0, r3_8, this]
theorem specSame_eq (a b : T) (ha : a.inner ≤ 1099511627776) (hb : b.inner ≤ 1099511627776) : callX XV 3 [.d (a.enc .sub), .d (b.enc .sub)] [] = some (.d (.bool (T.cmp a b == 0)), []) := by
 match a, b, ha, hb with
 | .node f v ks, .node f' v' ks', ha, hb =>
  simp only [T.inner] at ha hb
  exact specSame_of f v ks f' v' ks' (by omega) (by omega) (fun s s' hs hs' => specSame_eq s s' (by have := T.inners_mem hs; omega) (by have := T.inners_mem hs'; omega))
termination_by a
decreasing_by
 simp_wf
 have := List.sizeOf_lt_of_mem hs
 omega
end Go.Proofs.Ytidlpcgcolcfgaa.VS
namespace Go.Proofs.Ytidlpcgcolcfgaa.VS
theorem run_on (k i : Nat) : runN (fun (_ : Unit) (_ : Nat) => (Sum.inl () : Unit ⊕ Unit)) k () i = .inl () := by
 induction k generalizing i with
 | zero => rfl
 | succ k ih => simp [runN, ih]
@[simp] theorem isAgg_agg (cs : List DV) : isAgg (.agg cs) = true := rfl
@[simp] theorem isAgg_int (k : IntKind) (n : Int) : isAgg (.int k n) = false := rfl
@[simp] theorem cn_symE (s : SymL) : s.enc.cn = s.enc := by simp [SymL.enc, SymL.cells]
@[simp] theorem isAgg_sym (s : SymL) : isAgg s.enc = true := rfl
@[simp] theorem clr_symE (s : SymL) : s.enc.clr = s.enc := by simp [SymL.enc, SymL.cells]
@[simp] theorem cells_symE (s : SymL) : s.enc.cells = [.str s.name, .int .i64 s.arity, .bool s.ac] := rfl
@[simp] theorem cellsA_symE (s : SymL) : (AV.d s.enc).cells = [.d (.str s.name), .d (.int .i64 s.arity), .d (.bool s.ac)] := rfl
@[simp] theorem isCell_symE (s : SymL) : s.enc.isCell = false := rfl
@[simp] theorem agg_symE (n : ByteArray) (a : Int) (b : Bool) : DV.agg [.str n, .int .i64 a, .bool b] = SymL.enc ⟨n, a, b⟩ := rfl
@[simp high] theorem clr_symsE (l : List SymL) : (l.map SymL.enc).map DV.clr = l.map SymL.enc := by simp [List.map_map, Function.comp_def]
def symAt (l : List SymL) (i : Nat) : SymL := (l[i]?).getD ⟨⟨#[]⟩, 0, false⟩
theorem symAt_lt {l : List SymL} {i : Nat} (h : i < l.length) : l[i] = symAt l i := by simp [symAt, h]
abbrev sg (l : List SymL) : DV := .sl .sub (l.map SymL.enc)
@[simp] theorem evBin_seq (a b : ByteArray) : evBin .eql (.str a) (.str b) = some (.bool (strEq a b)) := rfl
@[simp] theorem evBin_sne (a b : ByteArray) : evBin .neq (.str a) (.str b) = some (.bool !(strEq a b)) := rfl
def inB (x lo hi : Int) : Bool := decide (lo ≤ x) && decide (x ≤ hi)
theorem l1In_eq (x lo hi : Int) : callX XV 31 [.d (.int .i64 x), .d (.int .i64 lo), .d (.int .i64 hi)] [] = some (.d (.bool (inB x lo hi)), []) := by
 rw [z_call XV _ _ _ v31 rfl xcode_31 rfl]
 unfold inB
 by_cases h : lo ≤ x
 ·simp [v31, r31_0, r31_1, h]
 ·simp [v31, r31_0, r31_1, h]
def symIn (l : List SymL) (f : Int) : Bool := inB f 0 (l.length - 1)
theorem symIn_lt {l : List SymL} {f : Int} (h : symIn l f = true) : 0 ≤ f ∧ f.toNat < l.length := by
 simp [symIn, inB] at h; omega
def blindB (l : List SymL) (f : Int) : Bool := symIn l f && (symAt l f.toNat).ac
theorem specBlind_eq (l : List SymL) (hl : l.length ≤ 1099511627776) (f : Int) : callX XV 33 [.d (sg l), .d (.int .i64 f)] [] = some (.d (.bool (blindB l f)), []) := by
 rw [z_call XV _ _ _ v33 rfl xcode_33 rfl]
 have hw : IntKind.i64.wrap ((l.length : Int) - 1) = l.length - 1 := wrap_i64 (by omega) (by omega)
 have h := l1In_eq f 0 (l.length - 1)
 unfold blindB symIn
 cases hs : inB f 0 (l.length - 1) with
 | false =>
  rw [hs] at h
  simp [v33, r33_0, r33_1, h, hw]
 | true =>
  rw [hs] at h
  obtain ⟨h1, h2⟩ := symIn_lt (l := l) (f := f) hs
  simp [v33, r33_0, r33_1, h, hw, h1, h2, symAt_lt h2, cut]
end Go.Proofs.Ytidlpcgcolcfgaa.VS
namespace Go.Proofs.Ytidlpcgcolcfgaa.VS
def and255 (x : Int) : Int := IntKind.i64.wrap ((BitVec.ofInt 64 x &&& BitVec.ofInt 64 255).toNat : Int)
def xorI (x y : Int) : Int := IntKind.i64.wrap ((BitVec.ofInt 64 x ^^^ BitVec.ofInt 64 y).toNat : Int)
theorem evInt_and255 (x : Int) : evInt .and .i64 x 255 = some (.int .i64 (and255 x)) := rfl
theorem evInt_xor (x y : Int) : evInt .xor .i64 x y = some (.int .i64 (xorI x y)) := rfl
theorem evInt_shr33 (x : Int) : evInt .shr .i64 x 33 = some (.int .i64 (x.fdiv 8589934592)) := rfl
theorem evInt_shr45 (x : Int) : evInt .shr .i64 x 45 = some (.int .i64 (x.fdiv 35184372088832)) := rfl
theorem and255_in (x : Int) : 0 ≤ and255 x ∧ and255 x ≤ 255 := by
 have h : (BitVec.ofInt 64 x &&& BitVec.ofInt 64 255).toNat ≤ 255 := by
  rw [BitVec.toNat_and]
  exact Nat.le_trans Nat.and_le_right (by decide)
 unfold and255
 generalize (BitVec.ofInt 64 x &&& BitVec.ofInt 64 255).toNat = n at *
 rw [wrap_i64 (by omega) (by omega)]
 omega
def seedC (bs : List Int) (pos st : Int) : List AV := [.d (.sl .sub (bs.map (.int .u8))), .d (.int .i64 pos), .d (.int .i64 st)]
theorem bget_set {B : Boxs} {i : Nat} {c : List AV} (h : i < B.length) : bget (B.set i (some c)) i = some c := by simp [bget, h]
theorem bget_lt {B : Boxs} {i : Nat} {c : List AV} (h : bget B i = some c) : i < B.length := by
 rcases Nat.lt_or_ge i B.length with h1 | h1
 ·exact h1
 ·simp [bget, List.getElem?_eq_none h1] at h
theorem bget_iff {B : Boxs} {i : Nat} {c : List AV} (h : bget B i = some c) : B[i]? = some (some c) := by
 unfold bget at h
 split at h
 ·rename_i c' hc; rw [hc]; simpa using h
 ·simp at h
theorem l1Byte_ok (bs : List Int) (hl : bs.length ≤ 1099511627776) (B : Boxs) (i : Nat) (pos st : Int) (hB : bget B i = some (seedC bs pos st)) (hp : 0 ≤ pos ∧ pos ≤ bs.length) :
  ∃ b pos' st' : Int, (0 ≤ b ∧ b ≤ 255) ∧ (0 ≤ pos' ∧ pos' ≤ bs.length) ∧ callX XV 165 [.ptr i 0] B = some (.d (.int .i64 b), B.set i (some (seedC bs pos' st'))) := by
 have hi := bget_lt hB
 have hnl : ¬ B.length ≤ i := by omega
 have htake : ∀ c : Option (List AV), List.take B.length (B.set i c) = B.set i c := fun c => List.take_of_length_le (by simp)
 have hset : ∀ c : Option (List AV), (B.set i c)[i]? = some c := fun c => by simp [hi]
 rw [z_call XV _ _ _ v165 rfl xcode_165 rfl]
 have hB := bget_iff hB
 unfold seedC at hB ⊢
 by_cases c : pos < bs.length
 ·have hw : IntKind.i64.wrap (pos + 1) = pos + 1 := wrap_i64 (by omega) (by omega)
  have hlt : pos.toNat < bs.length := by omega
  refine ⟨_, _, _, ?_, ?_, by simp [v165, r165_0, r165_1, d165_2, d165_3, d165_4, r165_5, r165_6, loadBox, hB, hset, splice, evInt_and255, evInt_xor, evInt_shr33, evInt_shr45, evBin_shr, hnl, c, hp, hlt, hw, cut, isCell_int, isCell_sl, isCellA_d, safe_d, xstoreBox, htake]; exact ⟨rfl, rfl⟩⟩
  ·exact and255_in _
  ·exact ⟨by omega, by omega⟩
 ·refine ⟨_, _, _, ?_, ?_, by simp [v165, r165_0, r165_1, d165_2, d165_3, d165_4, r165_5, r165_6, loadBox, hB, hset, splice, evInt_and255, evInt_xor, evInt_shr33, evInt_shr45, evBin_shr, hnl, c, cut, isCell_int, isCell_sl, isCellA_d, safe_d, xstoreBox, htake]; exact ⟨rfl, rfl⟩⟩
  ·exact and255_in _
  ·exact hp
def Turned (bs : List Int) (i : Nat) (B B' : Boxs) : Prop := ∃ pos st : Int, (0 ≤ pos ∧ pos ≤ bs.length) ∧ B' = B.set i (some (seedC bs pos st))
def SeedAt (bs : List Int) (i : Nat) (B : Boxs) : Prop := ∃ pos st : Int, (0 ≤ pos ∧ pos ≤ bs.length) ∧ bget B i = some (seedC bs pos st)
theorem Turned.at {bs : List Int} {i : Nat} {B B' : Boxs} (hi : i < B.length) (h : Turned bs i B B') : SeedAt bs i B' := by
 obtain ⟨pos, st, hp, rfl⟩ := h
 exact ⟨pos, st, hp, bget_set hi⟩
theorem Turned.len {bs : List Int} {i : Nat} {B B' : Boxs} (h : Turned bs i B B') : B'.length = B.length := by
 obtain ⟨pos, st, hp, rfl⟩ := h; simp
theorem Turned.trans {bs : List Int} {i : Nat} {B B' B'' : Boxs} (h : Turned bs i B B') (h' : Turned bs i B' B'') : Turned bs i B B'' := by
 obtain ⟨pos, st, hp, rfl⟩ := h
 obtain ⟨pos', st', hp', rfl⟩ := h'
 exact ⟨pos', st', hp', by simp⟩
theorem SeedAt.lt {bs : List Int} {i : Nat} {B : Boxs} (h : SeedAt bs i B) : i < B.length := by
 obtain ⟨_, _, _, h⟩ := h; exact bget_lt h
theorem l1Byte_at (bs : List Int) (hl : bs.length ≤ 1099511627776) (B : Boxs) (i : Nat) (h : SeedAt bs i B) : ∃ (b : Int) (B' : Boxs), (0 ≤ b ∧ b ≤ 255) ∧ Turned bs i B B' ∧ callX XV 165 [.ptr i 0] B = some (.d (.int .i64 b), B') := by
 obtain ⟨pos, st, hp, hB⟩ := h
 obtain ⟨b, pos', st', h1, h2, h3⟩ := l1Byte_ok bs hl B i pos st hB hp
 exact ⟨b, _, h1, ⟨pos', st', h2, rfl⟩, h3⟩
theorem evInt_rem' (x n : Int) (h : n ≠ 0) : evInt .rem .i64 x n = some (.int .i64 (x.tmod n)) := by simp [evInt, h]
theorem l1Below_at (bs : List Int) (hl : bs.length ≤ 1099511627776) (B : Boxs) (i : Nat) (h : SeedAt bs i B) (n : Int) (hn : 0 < n) (hn2 : n ≤ 256) : ∃ (r : Int) (B' : Boxs), (0 ≤ r ∧ r < n) ∧ Turned bs i B B' ∧ callX XV 159 [.ptr i 0, .d (.int .i64 n)] B = some (.d (.int .i64 r), B') := by
 obtain ⟨b, B', hb, hT, hc⟩ := l1Byte_at bs hl B i h
 have hi := h.lt
 have hlen := hT.len
 have hm : b.tmod n = b % n := Int.tmod_eq_emod_of_nonneg hb.1
 have hr := evInt_rem' b n (by omega)
 have htake : List.take B.length B' = B' := List.take_of_length_le (by omega)
 refine ⟨b % n, B', ⟨Int.emod_nonneg _ (by omega), Int.emod_lt_of_pos _ hn⟩, hT, ?_⟩
 rw [z_call XV _ _ _ v159 rfl xcode_159 rfl]
 have c1 : ¬ n ≤ 0 := by omega
 simp [v159, r159_0, r159_1, r159_2, r159_3, r159_4, r159_5, r159_6, r159_7, r159_8, r159_9, c1, hn2, hc, hr, hm, htake, hi]
theorem l1PickInt_at (bs : List Int) (hl : bs.length ≤ 1099511627776) (B : Boxs) (i : Nat) (h : SeedAt bs i B) (l : List Int) (h0 : 0 < l.length) (h1 : l.length ≤ 256) : ∃ (j : Nat) (hj : j < l.length) (B' : Boxs), Turned bs i B B' ∧ callX XV 160 [.ptr i 0, .d (.sl .sub (l.map (.int .i64)))] B = some (.d (.int .i64 l[j]), B') := by
 obtain ⟨r, B', hr, hT, hc⟩ := l1Below_at bs hl B i h l.length (by omega) (by omega)
 have hi := h.lt
 have hlen := hT.len
 have htake : List.take B.length B' = B' := List.take_of_length_le (by omega)
 refine ⟨r.toNat, by omega, B', hT, ?_⟩
 rw [z_call XV _ _ _ v160 rfl xcode_160 rfl]
 have hlt : r.toNat < l.length := by omega
 simp [v160, r160_0, r160_1, hc, hr, hlt, htake, hi, cut]
def andM (x : Int) : Int := IntKind.i64.wrap ((BitVec.ofInt 64 x &&& BitVec.ofInt 64 1073741823).toNat : Int)
theorem evInt_andM (x : Int) : evInt .and .i64 x 1073741823 = some (.int .i64 (andM x)) := rfl
def stepN' (bs : List Int) (s : Int) (i : Nat) : Int ⊕ Unit := .inl (andM (IntKind.i64.wrap (IntKind.i64.wrap (IntKind.i64.wrap (s * 131) + IntKind.i64.wrap ((bs[i]?).getD 0)) + 7)))
theorem runN_inl {β : Type} (f : β → Nat → β) : ∀ (k : Nat) (a : β) (i : Nat), ∃ b, runN (fun a i => (.inl (f a i) : β ⊕ Unit)) k a i = .inl b
 | 0, a, i => ⟨a, rfl⟩
 | k + 1, a, i => by simp only [runN]; exact runN_inl f k _ _
theorem l1New_eq (bs : List Int) (hl : bs.length ≤ 1099511627776) (B : Boxs) : ∃ st : Int, callX XV 156 [.d (.sl .sub (bs.map (.int .u8)))] B = some (.ptr B.length 0, B ++ [some (seedC bs 0 st)]) := by
 have hn : min bs.length 4000 ≤ bs.length := Nat.min_le_left _ _
 have h := loopX_upto (X := XV) (T := XV.lin 156) (L := B.length) (live := [0, 3, 4]) (b := b156_0) (n := min bs.length 4000) (γ := Unit) (st := fun (s : Int) i => ⟨[(0, .d (.sl .sub (bs.map (.int .u8)))), (3, .d (.int .i64 s)), (4, .d (.int .i64 i))], B⟩) (step := stepN' bs)
  (F := fun s => (.exit 0, ⟨[(0, .d (.sl .sub (bs.map (.int .u8)))), (3, .d (.int .i64 s)), (4, .d (.int .i64 (min bs.length 4000 : Nat))), (15, .d (.bool false))], B⟩)) (R := fun _ => (.ret, ⟨[], B⟩))
  (fun s => ⟨by simp, by
   by_cases c : bs.length ≤ 4000
   ·rw [Nat.min_eq_left c]; simp [b156_0, r156_0, r156_1, r156_2, r156_3, r156_5, r156_4, r156_6]
   ·have c1 : (4000 : Int) < bs.length := by omega
    rw [Nat.min_eq_right (by omega)]; simp [b156_0, r156_0, r156_1, r156_2, r156_3, r156_5, r156_4, r156_6, c1, show ¬ bs.length ≤ 4000 from c]⟩)
  (fun s i hi => by
   have hw := wrap_succ (n := i) (by omega)
   have h1 : i < bs.length := by omega
   have h2 : (i : Int) < 4000 := by omega
   refine ⟨_, by simp [b156_0, r156_0, r156_1, r156_2, r156_3, r156_5, r156_4, r156_6, h1, h2, hw, cut, evInt_andM]; rfl, by simp [xheadOf, safeRegs, h1]⟩)
  (min bs.length 4000) (IntKind.i64.wrap (27064 + bs.length)) 0 ⟨[(0, .d (.sl .sub (bs.map (.int .u8)))), (3, .d (.int .i64 (IntKind.i64.wrap (27064 + bs.length)))), (4, .d (.int .i64 0))], B⟩ (by omega) (by simp [xheadOf, safeRegs])
 obtain ⟨st, hst⟩ := runN_inl (fun (s : Int) (i : Nat) => andM (IntKind.i64.wrap (IntKind.i64.wrap (IntKind.i64.wrap (s * 131) + IntKind.i64.wrap ((bs[i]?).getD 0)) + 7))) (min bs.length 4000) (IntKind.i64.wrap (27064 + bs.length)) 0
 rw [show stepN' bs = fun s i => (.inl (andM (IntKind.i64.wrap (IntKind.i64.wrap (IntKind.i64.wrap (s * 131) + IntKind.i64.wrap ((bs[i]?).getD 0)) + 7))) : Int ⊕ Unit) from rfl, hst] at h
 refine ⟨st, ?_⟩
 rw [z_call XV _ _ _ v156 rfl xcode_156 rfl]
 simp [v156, r156_0, r156_1, r156_2]
 simp only [lin_156] at h
 rw [h]
 simp [r156_6, seedC, isCell_int, isCell_sl, isCellA_d, safe_d, splice, loadBox]
end Go.Proofs.Ytidlpcgcolcfgaa.VS
namespace Go.Proofs.Ytidlpcgcolcfgaa.VS
mutual
def T.fold {σ : Type} (e : T → σ → σ) : T → σ → σ
 | .node f v ks, s => T.folds e ks (e (.node f v ks) s)
def T.folds {σ : Type} (e : T → σ → σ) : List T → σ → σ
 | [], s => s
 | t :: r, s => T.folds e r (T.fold e t s)
end
theorem set_at {α : Type} (B : List α) (x v : α) (r : List α) : (B ++ x :: r).set B.length v = B ++ v :: r := by simp
theorem get_at {α : Type} (B : List α) (x : α) (r : List α) : (B ++ x :: r)[B.length]? = some x := by simp
theorem set_at1 {α : Type} (B : List α) (x y v : α) (r : List α) : (B ++ x :: y :: r).set (B.length + 1) v = B ++ x :: v :: r := by
 rw [List.set_append_right _ _ (by omega), show B.length + 1 - B.length = 1 by omega]; rfl
theorem get_at1 {α : Type} (B : List α) (x y : α) (r : List α) : (B ++ x :: y :: r)[B.length + 1]? = some y := by
 rw [List.getElem?_append_right (by omega), show B.length + 1 - B.length = 1 by omega]; rfl
theorem take_at {α : Type} (B r : List α) : (B ++ r).take B.length = B := by simp
theorem head_cut {L : Nat} {live : List Nat} {s : XS} {r' : List (Nat × AV)} {B e : Boxs} (h : keep s.r live = r') (hs : safeRegs L r' = true) (hl : B.length = L) (he : s.B = B ++ e) : xheadOf L live s = some ⟨r', B⟩ := by
 unfold xheadOf
 rw [h, he, if_pos ⟨hs, by simp; omega⟩, ← hl, take_at]
def stepE {σ : Type} (e : T → σ → σ) (l : List T) (s : σ) (i : Nat) : σ ⊕ Unit := .inl (T.fold e (tAt l i) s)
theorem runE {σ : Type} (e : T → σ → σ) (l : List T) : ∀ (k i : Nat) (s : σ), i + k = l.length → runN (stepE e l) k s i = .inl (T.folds e (l.drop i) s)
 | 0, i, s, h => by
  have h1 : l.drop i = [] := List.drop_eq_nil_of_le (by omega)
  simp [runN, h1, T.folds]
 | k + 1, i, s, h => by
  have hlt : i < l.length := by omega
  rw [List.drop_eq_getElem_cons hlt, tAt_lt hlt]
  simp only [runN, stepE, T.folds]
  exact runE e l k (i + 1) _ (by omega)
theorem each_of {σ : Type} (st : σ → Boxs) (e : T → σ → σ) (k : Nat) (caps : List AV) (m : Nat) (hm : ∀ s, (st s).length = m) (hcs : ∀ n, m ≤ n → AV.safe.safes n caps = true) (hcc : caps.map AV.clr = caps) (hk : ¬ 0 ∈ XV.lin k)
  (f v : Int) (ks : List T) (hl : ks.length ≤ 1099511627776)
  (hf : ∀ (x : T) (s : σ) (r : Boxs), callX XV k (.d (x.enc .sub) :: caps) (st s ++ r) = some (.d (.tup []), st (e x s) ++ r))
  (hrec : ∀ x, x ∈ ks → ∀ (s : σ) (r : Boxs), callX XV 25 [.d (x.enc .sub), .fn k caps] (st s ++ r) = some (.d (.tup []), st (T.fold e x s) ++ r)) (s : σ) (r : Boxs) :
  callX XV 25 [.d ((T.node f v ks).enc .sub), .fn k caps] (st s ++ r) = some (.d (.tup []), st (T.fold e (.node f v ks) s) ++ r) := by
 rw [z_call XV _ _ _ v25 rfl xcode_25 rfl]
 have hf1 := hf (.node f v ks) s (r ++ [some [.d (.int .i64 f), .d (.int .i64 v), .d (terms .sub ks)]])
 have len : ∀ s, (st s ++ r).length = m + r.length := fun s => by simp [hm]
 have hloop := loopX_upto (X := XV) (T := XV.lin 25) (L := m + r.length + 1) (live := [1, 10, 11, 12]) (b := b25_0) (n := ks.length) (γ := Unit) (st := fun (s : σ) i => ⟨[(1, .fn k caps), (10, .d (terms .sub ks)), (11, .d (.int .i64 ks.length)), (12, .d (.int .i64 i))], (st s ++ r) ++ [some [.d (.int .i64 f), .d (.int .i64 v), .d (terms .sub ks)]]⟩) (step := stepE e ks)
  (F := fun s => (.exit 0, ⟨[(1, .fn k caps), (10, .d (terms .sub ks)), (11, .d (.int .i64 ks.length)), (12, .d (.int .i64 ks.length)), (13, .d (.bool false))], (st s ++ r) ++ [some [.d (.int .i64 f), .d (.int .i64 v), .d (terms .sub ks)]]⟩)) (R := fun _ => (.ret, ⟨[], []⟩))
  (fun s => ⟨by simp, by simp [b25_0, r25_3, hcc]⟩)
  (fun s i hi => by
   have hw := wrap_succ (n := i) (by omega)
   have hr := hrec _ (tAt_mem hi) s (r ++ [some [.d (.int .i64 f), .d (.int .i64 v), .d (terms .sub ks)], some [.d (.int .i64 (tAt ks i).f), .d (.int .i64 (tAt ks i).v), .d (terms .sub (tAt ks i).kids)]])
   have hln := len s
   have hln2 := len (T.fold e (tAt ks i) s)
   simp only [← List.append_assoc] at hr
   generalize hB : st s ++ r = B at hr hln
   generalize hB' : st (T.fold e (tAt ks i) s) ++ r = B' at hr hln2
   unfold stepE
   refine ⟨⟨[(1, .fn k caps), (10, .d (terms .sub ks)), (11, .d (.int .i64 ks.length)), (12, .d (.int .i64 (i + 1 : Nat)))], B' ++ [some [.d (.int .i64 f), .d (.int .i64 v), .d (terms .sub ks)], some [.d (.int .i64 (tAt ks i).f), .d (.int .i64 (tAt ks i).v), .d (terms .sub (tAt ks i).kids)]]⟩, ?_, ?_⟩
   ·simp [b25_0, r25_3, r25_4, r25_5, r25_6, hi, hw, cut, tAt_lt hi, hcc, hr, set_at, get_at, set_at1, get_at1, splice]
   ·refine head_cut (e := [some [.d (.int .i64 (tAt ks i).f), .d (.int .i64 (tAt ks i).v), .d (terms .sub (tAt ks i).kids)]]) (by simp) (by simp [safeRegs, hcs _ (show m ≤ m + r.length + 1 by omega)]) (by simp [hln2, hB']) (by simp [← hB']))
  ks.length (e (.node f v ks) s) 0 ⟨[(1, .fn k caps), (10, .d (terms .sub ks)), (11, .d (.int .i64 ks.length)), (12, .d (.int .i64 0))], (st (e (.node f v ks) s) ++ r) ++ [some [.d (.int .i64 f), .d (.int .i64 v), .d (terms .sub ks)]]⟩ (by omega) (head_cut (e := []) (by simp) (by simp [safeRegs, hcs _ (show m ≤ m + r.length + 1 by omega)]) (by simp [hm]; omega) (by simp))
 rw [runE e ks _ _ _ (by omega)] at hloop
 simp only [List.drop_zero] at hloop
 have hl0 := len s
 have hl1 := len (e (.node f v ks) s)
 have hl2 : (st (T.fold e (.node f v ks) s) ++ r).length = m + r.length := len _
 have hfin : T.folds e ks (e (.node f v ks) s) = T.fold e (.node f v ks) s := by simp [T.fold]
 rw [hfin] at hloop
 simp only [← List.append_assoc] at hf1
 generalize hB0 : st s ++ r = B0 at hf1 hl0
 generalize hB1 : st (e (.node f v ks) s) ++ r = B1 at hf1 hl1 hloop
 generalize hB2 : st (T.fold e (.node f v ks) s) ++ r = B2 at hl2 hloop
 have hlen : B1.length = B0.length := by omega
 rw [← hl1] at hloop
 simp only [terms, lin_25] at hf1 hloop
 simp [v25, r25_0, r25_1, r25_2, set_at, get_at, hf1, hcc, hk, hlen.symm]
 rw [hloop]
 simp [show B1.length = B2.length by omega]
theorem each_eq {σ : Type} (st : σ → Boxs) (e : T → σ → σ) (k : Nat) (caps : List AV) (m : Nat) (hm : ∀ s, (st s).length = m) (hcs : ∀ n, m ≤ n → AV.safe.safes n caps = true) (hcc : caps.map AV.clr = caps) (hk : ¬ 0 ∈ XV.lin k)
  (hf : ∀ (x : T) (s : σ) (r : Boxs), callX XV k (.d (x.enc .sub) :: caps) (st s ++ r) = some (.d (.tup []), st (e x s) ++ r)) (t : T) (ht : t.inner ≤ 1099511627776) (s : σ) (r : Boxs) :
  callX XV 25 [.d (t.enc .sub), .fn k caps] (st s ++ r) = some (.d (.tup []), st (T.fold e t s) ++ r) := by
 match t, ht with
 | .node f v ks, ht =>
  simp only [T.inner] at ht
  exact each_of st e k caps m hm hcs hcc hk f v ks (by omega) hf (fun x hx s r => each_eq st e k caps m hm hcs hcc hk hf x (by have := T.inners_mem hx; omega) s r) s r
termination_by t
decreasing_by
 simp_wf
 have := List.sizeOf_lt_of_mem hx
 omega
end Go.Proofs.Ytidlpcgcolcfgaa.VS
namespace Go.Proofs.Ytidlpcgcolcfgaa.VS
theorem wrap_add (a b : Int) : IntKind.i64.wrap (IntKind.i64.wrap a + b) = IntKind.i64.wrap (a + b) := by
 show (if (true && decide (((if (true && decide (a % 18446744073709551616 ≥ 9223372036854775808)) = true then a % 18446744073709551616 - 18446744073709551616 else a % 18446744073709551616) + b) % 18446744073709551616 ≥ 9223372036854775808)) = true then ((if (true && decide (a % 18446744073709551616 ≥ 9223372036854775808)) = true then a % 18446744073709551616 - 18446744073709551616 else a % 18446744073709551616) + b) % 18446744073709551616 - 18446744073709551616 else ((if (true && decide (a % 18446744073709551616 ≥ 9223372036854775808)) = true then a % 18446744073709551616 - 18446744073709551616 else a % 18446744073709551616) + b) % 18446744073709551616) = (if (true && decide ((a + b) % 18446744073709551616 ≥ 9223372036854775808)) = true then (a + b) % 18446744073709551616 - 18446744073709551616 else (a + b) % 18446744073709551616)
 simp only [Bool.true_and, decide_eq_true_eq]
 have : ((if a % 18446744073709551616 ≥ 9223372036854775808 then a % 18446744073709551616 - 18446744073709551616 else a % 18446744073709551616) + b) % 18446744073709551616 = (a + b) % 18446744073709551616 := by
  split <;> omega
 rw [this]
mutual
def T.sum (w : T → Int) : T → Int
 | .node f v ks => w (.node f v ks) + T.sums w ks
def T.sums (w : T → Int) : List T → Int
 | [] => 0
 | t :: r => T.sum w t + T.sums w r
end
def addW (w : T → Int) (x : T) (n : Int) : Int := IntKind.i64.wrap (n + w x)
mutual
theorem fold_sum (w : T → Int) : ∀ (t : T) (n : Int), T.fold (addW w) t (IntKind.i64.wrap n) = IntKind.i64.wrap (n + T.sum w t)
 | .node f v ks, n => by
  simp only [T.fold, T.sum, addW]
  rw [wrap_add, folds_sum w ks, Int.add_assoc]
theorem folds_sum (w : T → Int) : ∀ (l : List T) (n : Int), T.folds (addW w) l (IntKind.i64.wrap n) = IntKind.i64.wrap (n + T.sums w l)
 | [], n => by simp [T.folds, T.sums]
 | t :: r, n => by
  simp only [T.folds, T.sums]
  rw [fold_sum w t, folds_sum w r, Int.add_assoc]
end
theorem implParts_eq (t : T) (ht : t.inner ≤ 1099511627776) : callX XV 23 [.d (t.enc .sub)] [] = some (.d (.int .i64 (IntKind.i64.wrap (T.sum (fun _ => 1) t))), []) := by
 rw [z_call XV _ _ _ v23 rfl xcode_23 rfl]
 have key : ∀ (n : Int), callX XV 25 [.d (t.enc .sub), .fn 24 [.ptr 1 0]] ([some [.d (.int .i64 t.f), .d (.int .i64 t.v), .d (terms .sub t.kids)], some [.d (.int .i64 n)]] ++ []) = some (.d (.tup []), [some [.d (.int .i64 t.f), .d (.int .i64 t.v), .d (terms .sub t.kids)], some [.d (.int .i64 (T.fold (addW fun _ => 1) t n))]] ++ []) := fun n =>
  each_eq (fun n : Int => [some [.d (.int .i64 t.f), .d (.int .i64 t.v), .d (terms .sub t.kids)], some [.d (.int .i64 n)]]) (addW fun _ => 1) 24 [.ptr 1 0] 2 (fun _ => rfl) (fun n hn => by simp; omega) rfl (by simp) (fun x s r => by
   rw [z_call XV _ _ _ v24 rfl xcode_24 rfl]
   simp [v24, r24_0, r24_1, splice, addW]) t ht n []
 have k0 := key 0
 have h0 := fold_sum (fun _ => 1) t 0
 rw [show IntKind.i64.wrap 0 = 0 from rfl, Int.zero_add] at h0
 rw [h0] at k0
 simp only [List.append_nil, terms] at k0
 simp [v23, r23_0, r23_1, r23_2, r23_3, splice, k0]
end Go.Proofs.Ytidlpcgcolcfgaa.VS
namespace Go.Proofs.Ytidlpcgcolcfgaa.VS
mutual
theorem fold_gen (w : T → Int) (e : T → Int → Int) (he : ∀ x m, e x (IntKind.i64.wrap m) = IntKind.i64.wrap (m + w x)) : ∀ (t : T) (n : Int), T.fold e t (IntKind.i64.wrap n) = IntKind.i64.wrap (n + T.sum w t)
 | .node f v ks, n => by
  simp only [T.fold, T.sum]
  rw [he, folds_gen w e he ks, Int.add_assoc]
theorem folds_gen (w : T → Int) (e : T → Int → Int) (he : ∀ x m, e x (IntKind.i64.wrap m) = IntKind.i64.wrap (m + w x)) : ∀ (l : List T) (n : Int), T.folds e l (IntKind.i64.wrap n) = IntKind.i64.wrap (n + T.sums w l)
 | [], n => by simp [T.folds, T.sums]
 | t :: r, n => by
  simp only [T.folds, T.sums]
  rw [fold_gen w e he t, folds_gen w e he r, Int.add_assoc]
end
theorem isVar_eq (t : T) : callX XV 75 [.d (t.enc .sub)] [] = some (.d (.bool (t.f == -1)), []) := by
 rw [z_call XV _ _ _ v75 rfl xcode_75 rfl]
 simp [v75, r75_0, r75_1]
def wC (n : Int) (x : T) : Int := if x.f = -1 ∧ x.v = n then 1 else 0
def eC (n : Int) (x : T) (m : Int) : Int := if x.f = -1 ∧ x.v = n then IntKind.i64.wrap (m + 1) else m
theorem eC_gen (n : Int) (x : T) (m : Int) : eC n x (IntKind.i64.wrap m) = IntKind.i64.wrap (m + wC n x) := by
 unfold eC wC
 split
 ·exact wrap_add m 1
 ·simp
theorem implCount_eq (t : T) (ht : t.inner ≤ 1099511627776) (n : Int) : callX XV 73 [.d (t.enc .sub), .d (.int .i64 n)] [] = some (.d (.int .i64 (IntKind.i64.wrap (T.sum (wC n) t))), []) := by
 rw [z_call XV _ _ _ v73 rfl xcode_73 rfl]
 have key : ∀ (m : Int), callX XV 25 [.d (t.enc .sub), .fn 74 [.ptr 1 0, .ptr 2 0]] ([some [.d (.int .i64 t.f), .d (.int .i64 t.v), .d (terms .sub t.kids)], some [.d (.int .i64 n)], some [.d (.int .i64 m)]] ++ []) = some (.d (.tup []), [some [.d (.int .i64 t.f), .d (.int .i64 t.v), .d (terms .sub t.kids)], some [.d (.int .i64 n)], some [.d (.int .i64 (T.fold (eC n) t m))]] ++ []) := fun m =>
  each_eq (fun m : Int => [some [.d (.int .i64 t.f), .d (.int .i64 t.v), .d (terms .sub t.kids)], some [.d (.int .i64 n)], some [.d (.int .i64 m)]]) (eC n) 74 [.ptr 1 0, .ptr 2 0] 3 (fun _ => rfl) (fun n hn => by simp; omega) rfl (by simp) (fun x m r => by
   rw [z_call XV _ _ _ v74 rfl xcode_74 rfl]
   obtain ⟨xf, xv, xk⟩ := x
   have hv := isVar_eq (.node xf xv xk)
   simp only [T.f_node] at hv
   unfold eC
   simp only [T.f_node, T.v_node]
   by_cases h1 : xf = -1
   ·subst h1
    simp only [BEq.rfl] at hv
    by_cases h2 : xv = n
    ·subst h2
     simp [v74, r74_0, r74_1, r74_2, hv, splice]
    ·have b2 : (xv == n) = false := by simp [h2]
     simp [v74, r74_0, r74_1, r74_2, hv, h2, b2, splice]
   ·have b1 : (xf == -1) = false := by simp [h1]
    rw [b1] at hv
    simp [v74, r74_0, r74_1, r74_2, hv, h1, splice]) t ht m []
 have k0 := key 0
 have h0 := fold_gen (wC n) (eC n) (eC_gen n) t 0
 rw [show IntKind.i64.wrap 0 = 0 from rfl, Int.zero_add] at h0
 rw [h0] at k0
 simp only [List.append_nil, terms] at k0
 simp [v73, r73_0, r73_1, r73_2, r73_3, splice, k0]
end Go.Proofs.Ytidlpcgcolcfgaa.VS
namespace Go.Proofs.Ytidlpcgcolcfgaa.VS
abbrev is (l : List Int) : DV := .sl .sub (l.map (.int .i64))
def iAt (l : List Int) (i : Nat) : Int := (l[i]?).getD 0
theorem iAt_lt {l : List Int} {i : Nat} (h : i < l.length) : l[i] = iAt l i := by simp [iAt, h]
@[simp high] theorem clr_intsE (l : List Int) : (l.map (DV.int .i64)).map DV.clr = l.map (DV.int .i64) := by simp [List.map_map, Function.comp_def]
end Go.Proofs.Ytidlpcgcolcfgaa.VS
namespace Go.Proofs.Ytidlpcgcolcfgaa.VS
end Go.Proofs.Ytidlpcgcolcfgaa.VS
namespace Go.Proofs.Ytidlpcgcolcfgaa.VS
def findAt (q : Nat → Bool) : Nat → Nat → Option Nat
 | 0, _ => none
 | k + 1, i => if q i then some i else findAt q k (i + 1)
def stepF (q : Nat → Bool) (_ : Unit) (i : Nat) : Unit ⊕ Nat := if q i then .inr i else .inl ()
theorem runF (q : Nat → Bool) : ∀ (k i : Nat), runN (stepF q) k () i = match findAt q k i with | some j => .inr j | none => .inl ()
 | 0, i => rfl
 | k + 1, i => by
  simp only [runN, stepF, findAt]
  cases h : q i
  ·simp [runF q k (i + 1)]
  ·simp
def orNeg : Option Nat → Int
 | some j => j
 | none => -1
theorem findAt_lt (q : Nat → Bool) : ∀ (k i j : Nat), findAt q k i = some j → i ≤ j ∧ j < i + k ∧ q j = true
 | 0, i, j, h => by simp [findAt] at h
 | k + 1, i, j, h => by
  simp only [findAt] at h
  split at h
  ·simp at h; subst h; exact ⟨Nat.le_refl _, by omega, by assumption⟩
  ·obtain ⟨h1, h2, h3⟩ := findAt_lt q k (i + 1) j h; exact ⟨by omega, by omega, h3⟩
end Go.Proofs.Ytidlpcgcolcfgaa.VS
namespace Go.Proofs.Ytidlpcgcolcfgaa.VS
theorem findAt_none (q : Nat → Bool) : ∀ (k i j : Nat), findAt q k i = none → i ≤ j → j < i + k → q j = false
 | 0, i, j, _, h1, h2 => by omega
 | k + 1, i, j, hf, h1, h2 => by
  simp only [findAt] at hf
  split at hf
  ·simp at hf
  ·rename_i hq
   by_cases he : j = i
   ·subst he; simpa using hq
   ·exact findAt_none q k (i + 1) j hf (by omega) (by omega)
theorem found_contains (l : List Int) (n : Int) : decide (0 ≤ orNeg (findAt (fun i => n == iAt l i) l.length 0)) = l.contains n := by
 cases hq : findAt (fun i => n == iAt l i) l.length 0 with
 | none =>
  have h := fun j => findAt_none _ _ _ j hq
  have hc : l.contains n = false := by
   rw [Bool.eq_false_iff]
   intro hm
   rw [List.contains_iff_mem] at hm
   obtain ⟨j, hj⟩ := List.mem_iff_getElem?.1 hm
   have hlt : j < l.length := (List.getElem?_eq_some_iff.1 hj).1
   have := h j (Nat.zero_le _) (by omega)
   simp [iAt, hj] at this
  rw [hc]; simp [orNeg]
 | some j =>
  obtain ⟨h1, h2, h3⟩ := findAt_lt _ _ _ _ hq
  have hlt : j < l.length := by omega
  have hc : l.contains n = true := by
   rw [List.contains_iff_mem]
   simp only [beq_iff_eq] at h3
   rw [h3, ← iAt_lt hlt]
   exact List.getElem_mem hlt
  rw [hc]; simp [orNeg]
theorem findAt_first (q : Nat → Bool) : ∀ (k i j : Nat), findAt q k i = some j → ∀ a, i ≤ a → a < j → q a = false
 | 0, i, j, h, a, _, _ => by simp [findAt] at h
 | k + 1, i, j, h, a, h1, h2 => by
  simp only [findAt] at h
  split at h
  ·simp at h; omega
  ·rename_i hq
   by_cases he : a = i
   ·subst he; simpa using hq
   ·exact findAt_first q k (i + 1) j h a (by omega) h2
theorem findAt_congr (q q' : Nat → Bool) : ∀ (k i : Nat), (∀ j, i ≤ j → j < i + k → q j = q' j) → findAt q k i = findAt q' k i
 | 0, i, h => rfl
 | k + 1, i, h => by
  simp only [findAt]
  rw [h i (Nat.le_refl _) (by omega), findAt_congr q q' k (i + 1) (fun j h1 h2 => h j (by omega) (by omega))]
theorem findIdx_findAt (l : List Int) (q : Int → Bool) : l.findIdx q = match findAt (fun i => q (iAt l i)) l.length 0 with | some j => j | none => l.length := by
 cases hq : findAt (fun i => q (iAt l i)) l.length 0 with
 | none =>
  have h := fun j => findAt_none _ _ _ j hq
  simp only
  apply List.findIdx_eq_length.2
  intro x hx
  obtain ⟨j, hj⟩ := List.mem_iff_getElem?.1 hx
  have hlt : j < l.length := (List.getElem?_eq_some_iff.1 hj).1
  have := h j (Nat.zero_le _) (by omega)
  simpa [iAt, hj] using this
 | some j =>
  obtain ⟨h1, h2, h3⟩ := findAt_lt _ _ _ _ hq
  simp only
  have hlt : j < l.length := by omega
  rw [List.findIdx_eq hlt]
  refine ⟨by rw [iAt_lt hlt]; exact h3, fun i hi => ?_⟩
  have hi' : i < l.length := by omega
  rw [iAt_lt hi']
  exact findAt_first _ _ _ _ hq i (Nat.zero_le _) hi
section
variable (X : XEnv)
theorem indexX_eq (hn : X.nat 56 = none) (hc : X.env.code 56 = some v56) (ht : X.lin 56 = []) (l : List Int) (n : Int) (B : Boxs) (hl : l.length ≤ 140737488355328) (hb56 : X.env.base 56 = none := by first | rfl | assumption) :
  callX X 56 [.d (is l), .d (.int .i64 n)] B = some (.d (.int .i64 (orNeg (findAt (fun i => n == iAt l i) l.length 0))), B) := by
 rw [z_call X _ _ _ v56 hn hc rfl]
 have h := loopX_upto (X := X) (T := []) (L := B.length) (live := [0, 1, 7, 8]) (b := b56_0) (n := l.length) (st := fun (_ : Unit) i => ⟨[(0, .d (is l)), (1, .d (.int .i64 n)), (7, .d (.int .i64 l.length)), (8, .d (.int .i64 i))], B⟩) (step := stepF fun i => n == iAt l i)
  (F := fun _ => (.exit 0, ⟨[(0, .d (is l)), (1, .d (.int .i64 n)), (7, .d (.int .i64 l.length)), (8, .d (.int .i64 l.length)), (9, .d (.bool false))], B⟩)) (R := fun (j : Nat) => (.ret, ⟨[(4, .d (.int .i64 j))], B⟩))
  (fun a => ⟨by simp, by simp [b56_0, r56_0, r56_1, r56_2, r56_3, r56_4, r56_5, r56_6, r56_7]⟩)
  (fun a i hi => by
   have hw := wrap_succ (n := i) (by omega)
   unfold stepF
   by_cases hq : (n == iAt l i) = true
   ·rw [if_pos hq]
    exact ⟨by simp, by simp [b56_0, r56_0, r56_1, r56_2, r56_3, r56_4, r56_5, r56_6, r56_7, hi, hw, cut, iAt_lt hi, hq]⟩
   ·rw [if_neg hq]
    have hq' : (n == iAt l i) = false := by simpa using hq
    exact ⟨_, by simp [b56_0, r56_0, r56_1, r56_2, r56_3, r56_4, r56_5, r56_6, r56_7, hi, hw, cut, iAt_lt hi, hq']; rfl, by simp [xheadOf, safeRegs]⟩)
  l.length () 0 ⟨[(0, .d (is l)), (1, .d (.int .i64 n)), (7, .d (.int .i64 l.length)), (8, .d (.int .i64 0))], B⟩ (by omega) (by simp [xheadOf, safeRegs])
 rw [runF] at h
 simp [v56, r56_0, r56_1, r56_2, r56_3, r56_4, r56_5, r56_6, r56_7, ht]
 rw [h]
 cases hq : findAt (fun i => n == iAt l i) l.length 0 <;> simp [orNeg, v56, r56_0, r56_1, r56_2, r56_3, r56_4, r56_5, r56_6, r56_7]
theorem indexFuncX_eq (hn : X.nat 47 = none) (hc : X.env.code 47 = some v47) (ht : X.lin 47 = []) (l : List Int) (fk : Nat) (caps : List AV) (B : Boxs) (P : Int → Bool) (hl : l.length ≤ 140737488355328) (hs : AV.safe.safes B.length caps = true) (hcc : caps.map AV.clr = caps) (hk : X.lin fk = [])
  (hf : ∀ s, s ∈ l → callX X fk (.d (.int .i64 s) :: caps) B = some (.d (.bool (P s)), B)) (hb47 : X.env.base 47 = none := by first | rfl | assumption) :
  callX X 47 [.d (is l), .fn fk caps] B = some (.d (.int .i64 (orNeg (findAt (fun i => P (iAt l i)) l.length 0))), B) := by
 rw [z_call X _ _ _ v47 hn hc rfl]
 have h := loopX_upto (X := X) (T := []) (L := B.length) (live := [0, 1, 7, 8]) (b := b47_0) (n := l.length) (st := fun (_ : Unit) i => ⟨[(0, .d (is l)), (1, .fn fk caps), (7, .d (.int .i64 l.length)), (8, .d (.int .i64 i))], B⟩) (step := stepF fun i => P (iAt l i))
  (F := fun _ => (.exit 0, ⟨[(0, .d (is l)), (1, .fn fk caps), (7, .d (.int .i64 l.length)), (8, .d (.int .i64 l.length)), (9, .d (.bool false))], B⟩)) (R := fun (j : Nat) => (.ret, ⟨[(4, .d (.int .i64 j))], B⟩))
  (fun a => ⟨by simp, by simp [b47_0, r47_0, r47_1, r47_2, r47_3, r47_4, r47_5, r47_6, r47_7, hcc]⟩)
  (fun a i hi => by
   have hw := wrap_succ (n := i) (by omega)
   have hc := hf (iAt l i) (by rw [← iAt_lt hi]; exact List.getElem_mem hi)
   unfold stepF
   by_cases hq : P (iAt l i) = true
   ·rw [if_pos hq]; rw [hq] at hc
    exact ⟨by simp, by simp [b47_0, r47_0, r47_1, r47_2, r47_3, r47_4, r47_5, r47_6, r47_7, hi, hw, cut, iAt_lt hi, hc, hcc, hk]⟩
   ·rw [if_neg hq]
    have hq' : P (iAt l i) = false := by simpa using hq
    rw [hq'] at hc
    exact ⟨_, by simp [b47_0, r47_0, r47_1, r47_2, r47_3, r47_4, r47_5, r47_6, r47_7, hi, hw, cut, iAt_lt hi, hc, hcc, hk]; rfl, by simp [xheadOf, safeRegs, hs]⟩)
  l.length () 0 ⟨[(0, .d (is l)), (1, .fn fk caps), (7, .d (.int .i64 l.length)), (8, .d (.int .i64 0))], B⟩ (by omega) (by simp [xheadOf, safeRegs, hs])
 rw [runF] at h
 simp [v47, r47_0, r47_1, r47_2, r47_3, r47_4, r47_5, r47_6, r47_7, hcc, ht]
 rw [h]
 cases hq : findAt (fun i => P (iAt l i)) l.length 0 <;> simp [orNeg, v47, r47_0, r47_1, r47_2, r47_3, r47_4, r47_5, r47_6, r47_7]
theorem containsX_eq (hn : X.nat 55 = none) (hc : X.env.code 55 = some v55) (ht : X.lin 55 = []) (hn' : X.nat 56 = none) (hc' : X.env.code 56 = some v56) (ht' : X.lin 56 = []) (l : List Int) (n : Int) (hl : l.length ≤ 140737488355328) (hb55 : X.env.base 55 = none := by first | rfl | assumption) (hb56 : X.env.base 56 = none := by first | rfl | assumption) :
  callX X 55 [.d (is l), .d (.int .i64 n)] [] = some (.d (.bool (l.contains n)), []) := by
 rw [z_call X _ _ _ v55 hn hc rfl]
 have h := indexX_eq X hn' hc' ht' l n [] hl
 have hf := found_contains l n
 simp [v55, r55_0, r55_1, ht, h]
 simpa using hf
theorem numInX_eq (hn0 : X.nat 54 = none) (hc0 : X.env.code 54 = some v54) (ht0 : X.lin 54 = []) (hn : X.nat 55 = none) (hc : X.env.code 55 = some v55) (ht : X.lin 55 = []) (hn' : X.nat 56 = none) (hc' : X.env.code 56 = some v56) (ht' : X.lin 56 = []) (l : List Int) (n : Int) (hl : l.length ≤ 140737488355328) (hb54 : X.env.base 54 = none := by first | rfl | assumption) (hb55 : X.env.base 55 = none := by first | rfl | assumption) (hb56 : X.env.base 56 = none := by first | rfl | assumption) :
  callX X 54 [.d (is l), .d (.int .i64 n)] [] = some (.d (.bool (l.contains n)), []) := by
 rw [z_call X _ _ _ v54 hn0 hc0 rfl]
 have h := containsX_eq X hn hc ht hn' hc' ht' l n hl
 simp [v54, r54_0, r54_1, ht0, h]
theorem gtX_eq (hn : X.nat 108 = none) (hc : X.env.code 108 = some v108) (ht : X.lin 108 = []) (x n : Int) (hb108 : X.env.base 108 = none := by first | rfl | assumption) : callX X 108 [.d (.int .i64 x), .ptr 0 0] [some [.d (.int .i64 n)]] = some (.d (.bool (decide (x > n))), [some [.d (.int .i64 n)]]) := by
 rw [z_call X _ _ _ v108 hn hc rfl]
 simp [v108, r108_0, r108_1, ht]
theorem firstGtX_eq (hn : X.nat 47 = none) (hc : X.env.code 47 = some v47) (ht : X.lin 47 = []) (hn' : X.nat 108 = none) (hc' : X.env.code 108 = some v108) (ht' : X.lin 108 = []) (l : List Int) (n : Int) (hl : l.length ≤ 140737488355328) (hb47 : X.env.base 47 = none := by first | rfl | assumption) (hb108 : X.env.base 108 = none := by first | rfl | assumption) :
  callX X 47 [.d (is l), .fn 108 [.ptr 0 0]] [some [.d (.int .i64 n)]] = some (.d (.int .i64 (orNeg (findAt (fun i => decide (iAt l i > n)) l.length 0))), [some [.d (.int .i64 n)]]) :=
 indexFuncX_eq X hn hc ht l 108 [.ptr 0 0] [some [.d (.int .i64 n)]] (fun x => decide (x > n)) hl (by simp [safe_ptr, safes_nil, safes_cons]) rfl ht' (fun s _ => gtX_eq X hn' hc' ht' s n)
end
end Go.Proofs.Ytidlpcgcolcfgaa.VS
namespace Go.Proofs.Ytidlpcgcolcfgaa.VS
def restOf (ks : List T) (i : Nat) : Nat := (ks.length - i) + T.inners (ks.drop i)
theorem restOf_zero (ks : List T) : restOf ks 0 = ks.length + T.inners ks := by simp [restOf]
theorem restOf_step {ks : List T} {i : Nat} (h : i < ks.length) : restOf ks i = (tAt ks i).inner + 1 + restOf ks (i + 1) := by
 unfold restOf
 rw [List.drop_eq_getElem_cons h, tAt_lt h]
 simp only [T.inners]
 omega
mutual
theorem fold_I {σ : Type} {I : Nat → σ → Prop} {e : T → σ → σ} (hI : ∀ n s x, I (n + 1) s → I n (e x s)) : ∀ (t : T) (n : Nat) (s : σ), I (t.inner + 1 + n) s → I n (T.fold e t s)
 | .node f v ks, n, s, h => by
  simp only [T.inner] at h
  simp only [T.fold]
  exact folds_I hI ks n _ (hI _ _ _ (by rw [show ks.length + T.inners ks + n + 1 = ks.length + T.inners ks + 1 + n by omega]; exact h))
theorem folds_I {σ : Type} {I : Nat → σ → Prop} {e : T → σ → σ} (hI : ∀ n s x, I (n + 1) s → I n (e x s)) : ∀ (l : List T) (n : Nat) (s : σ), I (l.length + T.inners l + n) s → I n (T.folds e l s)
 | [], n, s, h => by simpa [T.folds, T.inners] using h
 | t :: r, n, s, h => by
  simp only [T.folds]
  simp only [List.length_cons, T.inners] at h
  exact folds_I hI r n _ (fold_I hI t _ s (by rw [show t.inner + 1 + (r.length + T.inners r + n) = r.length + 1 + (t.inner + T.inners r) + n by omega]; exact h))
end
theorem eachI_of {σ : Type} (I : Nat → σ → Prop) (st : σ → Boxs) (e : T → σ → σ) (k : Nat) (caps : List AV) (m : Nat) (hm : ∀ s, (st s).length = m) (hcs : ∀ n, m ≤ n → AV.safe.safes n caps = true) (hcc : caps.map AV.clr = caps) (hk : ¬ 0 ∈ XV.lin k)
  (hI : ∀ n s x, I (n + 1) s → I n (e x s)) (f v : Int) (ks : List T) (hl : ks.length ≤ 1099511627776)
  (hf : ∀ (x : T) (s : σ) (r : Boxs) (n : Nat), I (n + 1) s → callX XV k (.d (x.enc .sub) :: caps) (st s ++ r) = some (.d (.tup []), st (e x s) ++ r))
  (hrec : ∀ x, x ∈ ks → ∀ (s : σ) (r : Boxs) (n : Nat), I (x.inner + 1 + n) s → callX XV 25 [.d (x.enc .sub), .fn k caps] (st s ++ r) = some (.d (.tup []), st (T.fold e x s) ++ r)) (s : σ) (r : Boxs) (n0 : Nat) (h0 : I (ks.length + T.inners ks + 1 + n0) s) :
  callX XV 25 [.d ((T.node f v ks).enc .sub), .fn k caps] (st s ++ r) = some (.d (.tup []), st (T.fold e (.node f v ks) s) ++ r) := by
 rw [z_call XV _ _ _ v25 rfl xcode_25 rfl]
 have h1I : I (ks.length + T.inners ks + n0) (e (.node f v ks) s) := hI _ _ _ (by rw [show ks.length + T.inners ks + n0 + 1 = ks.length + T.inners ks + 1 + n0 by omega]; exact h0)
 have hf1 := hf (.node f v ks) s (r ++ [some [.d (.int .i64 f), .d (.int .i64 v), .d (terms .sub ks)]]) (ks.length + T.inners ks + n0) (by rw [show ks.length + T.inners ks + n0 + 1 = ks.length + T.inners ks + 1 + n0 by omega]; exact h0)
 have len : ∀ s, (st s ++ r).length = m + r.length := fun s => by simp [hm]
 have hloop := loopX_inv (X := XV) (T := XV.lin 25) (L := m + r.length + 1) (live := [1, 10, 11, 12]) (b := b25_0) (n := ks.length) (γ := Unit) (st := fun (s : σ) i => ⟨[(1, .fn k caps), (10, .d (terms .sub ks)), (11, .d (.int .i64 ks.length)), (12, .d (.int .i64 i))], (st s ++ r) ++ [some [.d (.int .i64 f), .d (.int .i64 v), .d (terms .sub ks)]]⟩) (step := stepE e ks)
  (F := fun s => (.exit 0, ⟨[(1, .fn k caps), (10, .d (terms .sub ks)), (11, .d (.int .i64 ks.length)), (12, .d (.int .i64 ks.length)), (13, .d (.bool false))], (st s ++ r) ++ [some [.d (.int .i64 f), .d (.int .i64 v), .d (terms .sub ks)]]⟩)) (R := fun _ => (.ret, ⟨[], []⟩))
  (fun s i => I (restOf ks i + n0) s)
  (fun s _ => ⟨by simp, by simp [b25_0, r25_3, hcc]⟩)
  (fun s i hi hIn => by
   have hsplit := restOf_step hi
   rw [show restOf ks i + n0 = (tAt ks i).inner + 1 + (restOf ks (i + 1) + n0) by omega] at hIn
   have hnext := fold_I hI (tAt ks i) _ s hIn
   refine ⟨?_, fun a' ha' => by unfold stepE at ha'; simp only [Sum.inl.injEq] at ha'; subst ha'; exact hnext⟩
   have hw := wrap_succ (n := i) (by omega)
   have hr := hrec _ (tAt_mem hi) s (r ++ [some [.d (.int .i64 f), .d (.int .i64 v), .d (terms .sub ks)], some [.d (.int .i64 (tAt ks i).f), .d (.int .i64 (tAt ks i).v), .d (terms .sub (tAt ks i).kids)]]) _ hIn
   have hln := len s
   have hln2 := len (T.fold e (tAt ks i) s)
   simp only [← List.append_assoc] at hr
   generalize hB : st s ++ r = B at hr hln
   generalize hB' : st (T.fold e (tAt ks i) s) ++ r = B' at hr hln2
   unfold stepE
   refine ⟨⟨[(1, .fn k caps), (10, .d (terms .sub ks)), (11, .d (.int .i64 ks.length)), (12, .d (.int .i64 (i + 1 : Nat)))], B' ++ [some [.d (.int .i64 f), .d (.int .i64 v), .d (terms .sub ks)], some [.d (.int .i64 (tAt ks i).f), .d (.int .i64 (tAt ks i).v), .d (terms .sub (tAt ks i).kids)]]⟩, ?_, ?_⟩
   ·simp [b25_0, r25_3, r25_4, r25_5, r25_6, hi, hw, cut, tAt_lt hi, hcc, hr, set_at, get_at, set_at1, get_at1, splice]
   ·refine head_cut (e := [some [.d (.int .i64 (tAt ks i).f), .d (.int .i64 (tAt ks i).v), .d (terms .sub (tAt ks i).kids)]]) (by simp) (by simp [safeRegs, hcs _ (show m ≤ m + r.length + 1 by omega)]) (by simp [hln2, hB']) (by simp [← hB']))
  ks.length (e (.node f v ks) s) 0 ⟨[(1, .fn k caps), (10, .d (terms .sub ks)), (11, .d (.int .i64 ks.length)), (12, .d (.int .i64 0))], (st (e (.node f v ks) s) ++ r) ++ [some [.d (.int .i64 f), .d (.int .i64 v), .d (terms .sub ks)]]⟩ (by omega) (by rw [restOf_zero]; exact h1I) (head_cut (e := []) (by simp) (by simp [safeRegs, hcs _ (show m ≤ m + r.length + 1 by omega)]) (by simp [hm]; omega) (by simp))
 rw [runE e ks _ _ _ (by omega)] at hloop
 simp only [List.drop_zero] at hloop
 have hl0 := len s
 have hl1 := len (e (.node f v ks) s)
 have hl2 : (st (T.fold e (.node f v ks) s) ++ r).length = m + r.length := len _
 have hfin : T.folds e ks (e (.node f v ks) s) = T.fold e (.node f v ks) s := by simp [T.fold]
 rw [hfin] at hloop
 simp only [← List.append_assoc] at hf1
 generalize hB0 : st s ++ r = B0 at hf1 hl0
 generalize hB1 : st (e (.node f v ks) s) ++ r = B1 at hf1 hl1 hloop
 generalize hB2 : st (T.fold e (.node f v ks) s) ++ r = B2 at hl2 hloop
 have hlen : B1.length = B0.length := by omega
 rw [← hl1] at hloop
 simp only [terms, lin_25] at hf1 hloop
 simp [v25, r25_0, r25_1, r25_2, set_at, get_at, hf1, hcc, hk, hlen.symm]
 rw [hloop]
 simp [show B1.length = B2.length by omega]
theorem eachI_eq {σ : Type} (I : Nat → σ → Prop) (st : σ → Boxs) (e : T → σ → σ) (k : Nat) (caps : List AV) (m : Nat) (hm : ∀ s, (st s).length = m) (hcs : ∀ n, m ≤ n → AV.safe.safes n caps = true) (hcc : caps.map AV.clr = caps) (hk : ¬ 0 ∈ XV.lin k)
  (hI : ∀ n s x, I (n + 1) s → I n (e x s)) (hf : ∀ (x : T) (s : σ) (r : Boxs) (n : Nat), I (n + 1) s → callX XV k (.d (x.enc .sub) :: caps) (st s ++ r) = some (.d (.tup []), st (e x s) ++ r)) (t : T) (ht : t.inner ≤ 1099511627776) (s : σ) (r : Boxs) (n : Nat) (h0 : I (t.inner + 1 + n) s) :
  callX XV 25 [.d (t.enc .sub), .fn k caps] (st s ++ r) = some (.d (.tup []), st (T.fold e t s) ++ r) := by
 match t, ht with
 | .node f v ks, ht =>
  simp only [T.inner] at ht h0
  exact eachI_of I st e k caps m hm hcs hcc hk hI f v ks (by omega) hf (fun x hx s r n hn => eachI_eq I st e k caps m hm hcs hcc hk hI hf x (by have := T.inners_mem hx; omega) s r n hn) s r n h0
termination_by t
decreasing_by
 simp_wf
 have := List.sizeOf_lt_of_mem hx
 omega
theorem xnat_106 : XV.nat 106 = some numAddD := rfl
theorem implNumAdd_eq (g : Tag) (l : List Int) (n : Int) (B : Boxs) (hl : l.length ≤ 1099511627777) : callX XV 106 [.d (.sl g (l.map (.int .i64))), .d (.int .i64 n)] B = some (.d (.sl U ((numAddL l n).map (.int .i64))), B) := by
 rw [callX_nat XV 106 _ _ _ xnat_106]
 have h : (l.length + 1) * 8 ≤ 140737488355328 := by omega
 simp [datas, numAddD, intsOf_map, h, U]
theorem numAddL_len (l : List Int) (n : Int) : (numAddL l n).length ≤ l.length + 1 := by
 unfold numAddL
 split
 ·omega
 ·simp [numAt]; have := List.findIdx_le_length (p := fun x => decide (x > n)) (xs := l); omega
theorem specNumIn_eq (l : List Int) (n : Int) (hl : l.length ≤ 2199023255552) : callX XV 53 [.d (is l), .d (.int .i64 n)] [] = some (.d (.bool (l.contains n)), []) := by
 rw [z_call XV _ _ _ v53 rfl xcode_53 rfl]
 have h := loopX_upto (X := XV) (T := []) (L := 0) (live := [0, 1, 5]) (b := b53_0) (n := l.length) (st := fun (_ : Unit) i => ⟨[(0, .d (is l)), (1, .d (.int .i64 n)), (5, .d (.int .i64 i))], []⟩) (step := stepF fun i => iAt l i == n)
  (F := fun _ => (.exit 0, ⟨[(0, .d (is l)), (1, .d (.int .i64 n)), (5, .d (.int .i64 l.length)), (9, .d (.bool false))], []⟩)) (R := fun (j : Nat) => (.ret, ⟨[(4, .d (.bool true))], []⟩))
  (fun a => ⟨by simp, by simp [b53_0, r53_0, r53_1, r53_2, r53_4, r53_5, r53_3, r53_6]⟩)
  (fun a i hi => by
   have hw := wrap_succ (n := i) (by omega)
   unfold stepF
   by_cases hq : (iAt l i == n) = true
   ·rw [if_pos hq]
    exact ⟨by simp, by simp [b53_0, r53_0, r53_1, r53_2, r53_4, r53_5, r53_3, r53_6, hi, hw, cut, iAt_lt hi, hq]⟩
   ·rw [if_neg hq]
    have hq' : (iAt l i == n) = false := by simpa using hq
    exact ⟨_, by simp [b53_0, r53_0, r53_1, r53_2, r53_4, r53_5, r53_3, r53_6, hi, hw, cut, iAt_lt hi, hq']; rfl, by simp [xheadOf, safeRegs]⟩)
  l.length () 0 ⟨[(0, .d (is l)), (1, .d (.int .i64 n)), (5, .d (.int .i64 0))], []⟩ (by omega) (by simp [xheadOf, safeRegs])
 rw [runF] at h
 have hc := found_contains l n
 have hcomm : (fun i => n == iAt l i) = fun i => iAt l i == n := by funext i; exact Bool.beq_comm
 rw [hcomm] at hc
 simp [v53, r53_0, r53_1, r53_2, r53_4, r53_5, r53_3, r53_6]
 rw [h]
 cases hq : findAt (fun i => iAt l i == n) l.length 0 with
 | none => rw [hq] at hc; simp [orNeg] at hc; simp [v53, r53_0, r53_1, r53_2, r53_4, r53_5, r53_3, r53_6, hc]
 | some j => rw [hq] at hc; simp [orNeg] at hc; simp [v53, r53_0, r53_1, r53_2, r53_4, r53_5, r53_3, r53_6, hc]
theorem all_one (l : List Int) : (l.map (DV.int .i64)).all (fun e => decide (e.cells.length = 1)) = true := by simp [cells_int]
theorem all_cell (l : List Int) : (l.map (DV.int .i64)).all (fun e => decide (e.cells.length = 1 ∧ e.cells.all DV.isCell = true)) = true := by simp [cells_int, isCell_int]
theorem app_ints (a b : List Int) (g : Tag) (h : (a.length + b.length) * 8 ≤ 140737488355328) : xappend 1 8 (.sl U (a.map (.int .i64))) (.sl g (b.map (.int .i64))) = some (.sl U ((a ++ b).map (.int .i64))) := by
 unfold xappend
 simp only
 rw [if_pos (all_cell b)]
 cases b with
 | nil => simp
 | cons x r =>
  simp only [List.map_cons, List.isEmpty_cons, Bool.false_eq_true, if_false]
  rw [if_pos ⟨by simpa using h, trivial, all_one a⟩]
  simp
theorem specNumAdd_eq (l : List Int) (n : Int) (hl : l.length ≤ 2199023255552) : callX XV 112 [.d (is l), .d (.int .i64 n)] [] = some (.d (.sl U ((numAddL l n).map (.int .i64))), []) := by
 rw [z_call XV _ _ _ v112 rfl xcode_112 rfl]
 have hin := specNumIn_eq l n hl
 by_cases hc : l.contains n = true
 ·rw [hc] at hin
  have ha := app_ints [] l .sub (by simp; omega)
  have hr : numAddL l n = l := by unfold numAddL; rw [if_pos hc]
  simp only [List.map_nil, List.nil_append] at ha
  rw [hr]
  simp [v112, r112_0, r112_1, r112_2, r112_3, r112_4, r112_5, r112_6, r112_7, r112_8, hin, ha]
 ·have hc' : l.contains n = false := by simpa using hc
  rw [hc'] at hin
  have h := loopX_upto (X := XV) (T := XV.lin 112) (L := 0) (live := [0, 1, 5]) (b := b112_0) (n := l.length) (st := fun (_ : Unit) i => ⟨[(0, .d (is l)), (1, .d (.int .i64 n)), (5, .d (.int .i64 i))], []⟩) (step := stepF fun i => !decide (iAt l i < n))
   (F := fun _ => (.exit 0, ⟨[(0, .d (is l)), (1, .d (.int .i64 n)), (5, .d (.int .i64 l.length)), (24, .d (.bool false))], []⟩)) (R := fun (j : Nat) => (.exit 0, ⟨[(0, .d (is l)), (1, .d (.int .i64 n)), (5, .d (.int .i64 j)), (24, .d (.bool false))], []⟩))
   (fun a => ⟨by simp, by simp [b112_0, r112_0, r112_1, r112_2, r112_3, r112_4, r112_5, r112_6, r112_7, r112_8]⟩)
   (fun a i hi => by
    have hw := wrap_succ (n := i) (by omega)
    unfold stepF
    by_cases hq : iAt l i < n
    ·rw [if_neg (by simp [hq])]
     exact ⟨_, by simp [b112_0, r112_0, r112_1, r112_2, r112_3, r112_4, r112_5, r112_6, r112_7, r112_8, hi, hw, cut, iAt_lt hi, hq]; rfl, by simp [xheadOf, safeRegs]⟩
    ·rw [if_pos (by simp [hq])]
     exact ⟨by simp, by simp [b112_0, r112_0, r112_1, r112_2, r112_3, r112_4, r112_5, r112_6, r112_7, r112_8, hi, hw, cut, iAt_lt hi, hq]⟩)
   l.length () 0 ⟨[(0, .d (is l)), (1, .d (.int .i64 n)), (5, .d (.int .i64 0))], []⟩ (by omega) (by simp [xheadOf, safeRegs])
  rw [runF] at h
  have hat : ∃ at_ : Nat, at_ = numAt l n ∧ at_ ≤ l.length ∧ loopX XV (XV.lin 112) 0 [0, 1, 5] b112_0 ⟨[(0, .d (is l)), (1, .d (.int .i64 n)), (5, .d (.int .i64 0))], []⟩ = some (.exit 0, ⟨[(0, .d (is l)), (1, .d (.int .i64 n)), (5, .d (.int .i64 at_)), (24, .d (.bool false))], []⟩) := by
   have hq : numAt l n = match findAt (fun i => !decide (iAt l i < n)) l.length 0 with | some j => j | none => l.length := by
    unfold numAt
    rw [findIdx_findAt]
    have : findAt (fun i => decide (iAt l i > n)) l.length 0 = findAt (fun i => !decide (iAt l i < n)) l.length 0 := by
     refine findAt_congr _ _ _ _ fun j h1 h2 => ?_
     have hlt : j < l.length := by omega
     have hne : iAt l j ≠ n := by
      intro he
      rw [← iAt_lt hlt] at he
      rw [← he] at hc'
      have := List.getElem_mem hlt
      rw [← List.contains_iff_mem] at this
      rw [hc'] at this; simp at this
     rw [Bool.eq_iff_iff]; simp; omega
    rw [this]
    try (cases findAt (fun i => !decide (iAt l i < n)) l.length 0 <;> rfl)
   refine ⟨numAt l n, rfl, List.findIdx_le_length, ?_⟩
   rw [h, hq]
   cases findAt (fun i => !decide (iAt l i < n)) l.length 0 <;> rfl
  obtain ⟨k, hk, hkl, hloop⟩ := hat
  have hr : numAddL l n = l.take k ++ [n] ++ l.drop k := by unfold numAddL; rw [if_neg hc, ← hk]; simp
  have a1 := app_ints [] (l.take k) .sub (by simp; omega)
  have a2 := app_ints (l.take k) [n] U (by simp; omega)
  have a3 := app_ints (l.take k ++ [n]) (l.drop k) .sub (by simp; omega)
  simp only [List.map_nil, List.nil_append, List.map_take, List.map_drop, List.map_append, List.map_cons] at a1 a2 a3
  rw [hr]
  have hal := all_one l
  have hk0 : (k : Int) ≤ l.length := by omega
  simp only [lin_112] at hloop
  simp [v112, r112_0, r112_1, r112_2, r112_3, r112_4, r112_5, r112_6, r112_7, r112_8, hin]
  rw [hloop]
  have ht : List.take l.length (l.map (DV.int .i64)) = l.map (DV.int .i64) := List.take_of_length_le (by simp)
  simp [v112, r112_0, r112_1, r112_2, r112_3, r112_4, r112_5, r112_6, r112_7, r112_8, hal, hkl, hk0, a1, a2, a3, ht]
def eV (x : T) (l : List Int) : List Int := if x.f = -1 then numAddL l x.v else l
def IV (n : Nat) (l : List Int) : Prop := l.length + n ≤ 1099511627778
theorem eV_I (n : Nat) (l : List Int) (x : T) (h : IV (n + 1) l) : IV n (eV x l) := by
 unfold IV eV at *
 have := numAddL_len l x.v
 split <;> omega
def varsL (t : T) : List Int := T.fold eV t []
theorem implVarsOf_eq (t : T) (ht : t.inner ≤ 1099511627776) : callX XV 104 [.d (t.enc .sub)] [] = some (.d (.sl U ((varsL t).map (.int .i64))), []) := by
 rw [z_call XV _ _ _ v104 rfl xcode_104 rfl]
 have key := eachI_eq IV (fun l : List Int => [some [.d (.int .i64 t.f), .d (.int .i64 t.v), .d (terms .sub t.kids)], some [.d (.sl U (l.map (.int .i64)))]]) eV 105 [.ptr 1 0] 2 (fun _ => rfl) (fun n hn => by simp; omega) rfl (by simp) eV_I (fun x l r n hn => by
   rw [z_call XV _ _ _ v105 rfl xcode_105 rfl]
   obtain ⟨xf, xv, xk⟩ := x
   have hv := isVar_eq (.node xf xv xk)
   simp only [T.f_node] at hv
   have hle : l.length ≤ 1099511627777 := by unfold IV at hn; omega
   unfold eV
   simp only [T.f_node, T.v_node]
   by_cases h1 : xf = -1
   ·subst h1
    simp only [BEq.rfl] at hv
    have ha := implNumAdd_eq .sub l xv [] hle
    simp [v105, r105_0, r105_1, r105_2, hv, splice, ha]
   ·have b1 : (xf == -1) = false := by simp [h1]
    rw [b1] at hv
    simp [v105, r105_0, r105_1, r105_2, hv, h1, splice]) t ht [] [] 0 (by simp [IV]; omega)
 simp only [List.append_nil, terms, List.map_nil] at key
 simp [v104, r104_0, r104_1, r104_2, r104_3, splice, key, varsL]
theorem specVars_of (f v : Int) (ks : List T) (hl : ks.length ≤ 1099511627776) (n0 : Nat)
  (hrec : ∀ s, s ∈ ks → ∀ (l : List Int) (n : Nat), IV (s.inner + 1 + n) l → callX XV 111 [.d (s.enc .sub), .d (is l)] [] = some (.d (is (T.fold eV s l)), [])) (l : List Int) (h0 : IV (ks.length + T.inners ks + 1 + n0) l) :
  callX XV 111 [.d ((T.node f v ks).enc .sub), .d (is l)] [] = some (.d (is (T.fold eV (.node f v ks) l)), []) := by
 rw [z_call XV _ _ _ v111 rfl xcode_111 rfl]
 have h1I : IV (ks.length + T.inners ks + n0) (eV (.node f v ks) l) := eV_I _ _ _ (by rw [show ks.length + T.inners ks + n0 + 1 = ks.length + T.inners ks + 1 + n0 by omega]; exact h0)
 have h := loopX_inv (X := XV) (T := XV.lin 111) (L := 1) (live := [1, 2, 5]) (b := b111_0) (n := ks.length) (γ := Unit) (st := fun (l : List Int) i => ⟨[(1, .d (is l)), (2, .ptr 0 0), (5, .d (.int .i64 i))], [some [.d (.int .i64 f), .d (.int .i64 v), .d (terms .sub ks)]]⟩) (step := stepE eV ks)
  (F := fun l => (.exit 0, ⟨[(1, .d (is l)), (2, .ptr 0 0), (5, .d (.int .i64 ks.length)), (17, .d (.bool false))], [some [.d (.int .i64 f), .d (.int .i64 v), .d (terms .sub ks)]]⟩)) (R := fun r => (.ret, ⟨[], []⟩))
  (fun l i => IV (restOf ks i + n0) l)
  (fun _ _ => ⟨by simp, by simp [b111_0, r111_0, r111_1, r111_2, r111_3, r111_4, r111_6, r111_5, r111_7]⟩)
  (fun l i hi hIn => by
   have hw := wrap_succ (n := i) (by omega)
   have hsplit := restOf_step hi
   rw [show restOf ks i + n0 = (tAt ks i).inner + 1 + (restOf ks (i + 1) + n0) by omega] at hIn
   have hnext := fold_I eV_I (tAt ks i) _ l hIn
   have hc := hrec _ (tAt_mem hi) l _ hIn
   refine ⟨?_, fun a' ha' => by unfold stepE at ha'; simp only [Sum.inl.injEq] at ha'; subst ha'; exact hnext⟩
   exact ⟨_, by simp [b111_0, r111_0, r111_1, r111_2, r111_3, r111_4, r111_6, r111_5, r111_7, hi, hw, cut, tAt_lt hi, hc]; rfl, by simp [xheadOf, safeRegs]⟩)
  ks.length (eV (.node f v ks) l) 0 ⟨[(1, .d (is (eV (.node f v ks) l))), (2, .ptr 0 0), (5, .d (.int .i64 0))], [some [.d (.int .i64 f), .d (.int .i64 v), .d (terms .sub ks)]]⟩ (by omega) (by rw [restOf_zero]; exact h1I) (by simp [xheadOf, safeRegs])
 rw [runE eV ks _ _ _ (by omega)] at h
 have hfin : T.folds eV ks (eV (.node f v ks) l) = T.fold eV (.node f v ks) l := by simp [T.fold]
 simp only [List.drop_zero, terms, lin_111, hfin] at h
 have hle : l.length ≤ 1099511627777 := by unfold IV at h0; omega
 have ha := specNumAdd_eq l v (by omega)
 by_cases c1 : f = -1
 ·subst c1
  have he : eV (.node (-1) v ks) l = numAddL l v := by simp [eV]
  rw [he] at h
  simp [v111, r111_0, r111_1, r111_2, r111_3, r111_4, r111_6, r111_5, r111_7, ha]
  rw [h]
  simp [v111, r111_0, r111_1, r111_2, r111_3, r111_4, r111_6, r111_5, r111_7]
 ·have he : eV (.node f v ks) l = l := by simp [eV, c1]
  have b1 : (f == -1) = false := by simp [c1]
  rw [he] at h
  simp [v111, r111_0, r111_1, r111_2, r111_3, r111_4, r111_6, r111_5, r111_7, b1]
  rw [h]
  simp [v111, r111_0, r111_1, r111_2, r111_3, r111_4, r111_6, r111_5, r111_7]
theorem specVars_eq (t : T) (ht : t.inner ≤ 1099511627776) (l : List Int) (n : Nat) (h0 : IV (t.inner + 1 + n) l) : callX XV 111 [.d (t.enc .sub), .d (is l)] [] = some (.d (is (T.fold eV t l)), []) := by
 match t, ht with
 | .node f v ks, ht =>
  simp only [T.inner] at ht h0
  exact specVars_of f v ks (by omega) n (fun s hs l n h => specVars_eq s (by have := T.inners_mem hs; omega) l n h) l h0
termination_by t
decreasing_by
 simp_wf
 have := List.sizeOf_lt_of_mem hs
 omega
theorem specVarsOf_eq (t : T) (ht : t.inner ≤ 1099511627776) : callX XV 110 [.d (t.enc .sub)] [] = some (.d (is (varsL t)), []) := by
 rw [z_call XV _ _ _ v110 rfl xcode_110 rfl]
 have h := specVars_eq t ht [] 0 (by simp [IV]; omega)
 obtain ⟨f, v, ks⟩ := t
 simp only [List.map_nil, is] at h
 simp [v110, r110_0, r110_1, h, varsL]
theorem implGround_eq (t : T) (ht : t.inner ≤ 1099511627776) : callX XV 103 [.d (t.enc .sub)] [] = some (.d (.bool ((varsL t).length == 0)), []) := by
 rw [z_call XV _ _ _ v103 rfl xcode_103 rfl]
 have h := implVarsOf_eq t ht
 obtain ⟨f, v, ks⟩ := t
 simp [v103, r103_0, r103_1, h]
 rw [Bool.eq_iff_iff]; simp
end Go.Proofs.Ytidlpcgcolcfgaa.VS
namespace Go.Proofs.Ytidlpcgcolcfgaa.VS
@[simp high] theorem clr_bytesE (l : List Int) : (l.map (DV.int .u8)).map DV.clr = l.map (DV.int .u8) := by simp [List.map_map, Function.comp_def]
theorem big_eq (bs : List Int) : callX XV 133 [.d (.sl .sub (bs.map (.int .u8)))] [] = some (.d (.bool (decide (1048576 < bs.length))), []) := by
 rw [z_call XV _ _ _ v133 rfl xcode_133 rfl]
 have h : decide ((1048576 : Int) < bs.length) = decide (1048576 < bs.length) := by congr 1; apply propext; omega
 simp [v133, r133_0, r133_1, h]
end Go.Proofs.Ytidlpcgcolcfgaa.VS
namespace Go.Proofs.Ytidlpcgcolcfgaa.VS
def mk : Nat → Nat → List Int
 | 0, _ => []
 | n + 1, k => (k : Int) :: mk n (k + 1)
theorem frzC_d (B : Boxs) (n : Nat) (v : DV) : AV.frzC B n (.d v) = some v := by cases n <;> simp only [AV.frzC]
end Go.Proofs.Ytidlpcgcolcfgaa.VS
namespace Go.Proofs.Ytidlpcgcolcfgaa.VS
mutual
def T.nb : T → Nat
 | .node _ _ [] => 0
 | .node _ _ (t :: r) => T.nbs (t :: r) + 1
def T.nbs : List T → Nat
 | [] => 0
 | t :: r => t.nb + T.nbs r
end
def rowN (ks : List T) : Nat := if ks = [] then 0 else T.nbs ks + 1
def tRow (b : Nat) (ks : List T) : AV := if ks = [] then .d (terms .sub []) else .tsl true (b + T.nbs ks) 3 ks.length
def tCells (b : Nat) : List T → List AV
 | [] => []
 | .node f v ks :: r => .d (.int .i64 f) :: .d (.int .i64 v) :: tRow b ks :: tCells (b + rowN ks) r
mutual
def T.bx (b : Nat) : T → Boxs
 | .node _ _ [] => []
 | .node _ _ (t :: r) => T.bxs b (t :: r) ++ [some (tCells b (t :: r))]
def T.bxs (b : Nat) : List T → Boxs
 | [] => []
 | t :: r => t.bx b ++ T.bxs (b + t.nb) r
end
def cnts (l : List T) : Nat := l.length + T.inners l
theorem cnts_kids (t : T) : cnts t.kids = t.inner := by cases t; simp [cnts, T.inner]
theorem inners_append : ∀ (a c : List T), T.inners (a ++ c) = T.inners a + T.inners c
 | [], c => by simp [T.inners]
 | t :: r, c => by simp [T.inners, inners_append r c]; omega
theorem cnts_cons (t : T) (l : List T) : cnts (t :: l) = (t.inner + 1) + cnts l := by unfold cnts; simp [T.inners]; omega
theorem take_snoc (ks : List T) (i : Nat) (hi : i < ks.length) : ks.take (i + 1) = ks.take i ++ [tAt ks i] := by
 rw [← tAt_lt hi, List.take_append_getElem hi]
theorem cnts_le (ks : List T) (i : Nat) : cnts (ks.take i) ≤ cnts ks := by
 have h : cnts (ks.take i ++ ks.drop i) = cnts (ks.take i) + cnts (ks.drop i) := by unfold cnts; rw [inners_append]; simp; omega
 rw [List.take_append_drop] at h; omega
end Go.Proofs.Ytidlpcgcolcfgaa.VS
namespace Go.Proofs.Ytidlpcgcolcfgaa.VS
end Go.Proofs.Ytidlpcgcolcfgaa.VS
namespace Go.Proofs.Ytidlpcgcolcfgaa.VS
end Go.Proofs.Ytidlpcgcolcfgaa.VS
namespace Go.Proofs.Ytidlpcgcolcfgaa.VS
end Go.Proofs.Ytidlpcgcolcfgaa.VS
namespace Go.Proofs.Ytidlpcgcolcfgaa.VS
theorem specBefore_of (f v : Int) (ks : List T) (f' v' : Int) (ks' : List T) (hl : ks.length ≤ 1099511627776) (hl' : ks'.length ≤ 1099511627776)
  (hsame : ∀ s s', s ∈ ks → s' ∈ ks' → callX XV 3 [.d (s.enc .sub), .d (s'.enc .sub)] [] = some (.d (.bool (T.cmp s s' == 0)), []))
  (hrec : ∀ s s', s ∈ ks → s' ∈ ks' → callX XV 84 [.d (s.enc .sub), .d (s'.enc .sub)] [] = some (.d (.bool (decide (T.cmp s s' < 0))), [])) :
  callX XV 84 [.d ((T.node f v ks).enc .sub), .d ((T.node f' v' ks').enc .sub)] [] = some (.d (.bool (decide (T.cmp (.node f v ks) (.node f' v' ks') < 0))), []) := by
 rw [z_call XV _ _ _ v84 rfl xcode_84 rfl]
 rw [cmp_node]
 by_cases c1 : f = f'
 case neg =>
  have b1 : (f != f') = true := by simp [c1]
  have e : decide (cmpP f f' v v' ks.length ks'.length (T.cmps ks ks') < 0) = decide (f < f') := by
   unfold cmpP; by_cases h1 : f < f'
   ·simp [h1]
   ·have h2 : f > f' := by omega
    simp [h1, h2]
  rw [e]
  simp [v84, r84_0, r84_1, r84_2, r84_3, r84_4, r84_5, r84_6, r84_7, r84_8, d84_10, d84_11, r84_9, r84_12, b1]
 subst c1
 by_cases c2 : v = v'
 case neg =>
  have b2 : (v != v') = true := by simp [c2]
  have e : decide (cmpP f f v v' ks.length ks'.length (T.cmps ks ks') < 0) = decide (v < v') := by
   unfold cmpP; by_cases h1 : v < v'
   ·simp [h1]
   ·have h2 : v > v' := by omega
    simp [h1, h2]
  rw [e]
  simp [v84, r84_0, r84_1, r84_2, r84_3, r84_4, r84_5, r84_6, r84_7, r84_8, d84_10, d84_11, r84_9, r84_12, b2]
 subst c2
 by_cases c3 : ks.length = ks'.length
 case neg =>
  have b3 : ((ks.length : Int) != ks'.length) = true := by simp; omega
  have e : decide (cmpP f f v v ks.length ks'.length (T.cmps ks ks') < 0) = decide (ks.length < ks'.length) := by
   unfold cmpP; by_cases h1 : ks.length < ks'.length
   ·simp [h1]
   ·have h2 : ks'.length < ks.length := by omega
    simp [h1, h2]
  rw [e]
  simp [v84, r84_0, r84_1, r84_2, r84_3, r84_4, r84_5, r84_6, r84_7, r84_8, d84_10, d84_11, r84_9, r84_12, b3]
 have hcp : cmpP f f v v ks.length ks'.length (T.cmps ks ks') = T.cmps ks ks' := by simp [cmpP, c3]
 rw [hcp]
 have h := loopX_upto (X := XV) (T := []) (L := 2) (live := [2, 3, 5]) (b := b84_0) (n := ks.length) (γ := Int) (st := fun (_ : Unit) i => ⟨[(2, .ptr 0 0), (3, .ptr 1 0), (5, .d (.int .i64 i))], cmpB f v ks f v ks'⟩) (step := stepC ks ks')
  (F := fun _ => (.exit 0, ⟨[(2, .ptr 0 0), (3, .ptr 1 0), (5, .d (.int .i64 ks.length)), (44, .d (.bool false))], cmpB f v ks f v ks'⟩)) (R := fun r => (.ret, ⟨[(4, .d (.bool (decide (r < 0))))], cmpB f v ks f v ks'⟩))
  (fun _ => ⟨by simp, by simp [b84_0, r84_0, r84_1, r84_2, r84_3, r84_4, r84_5, r84_6, r84_7, r84_8, d84_10, d84_11, r84_9, r84_12, cmpB]⟩)
  (fun _ i hi => by
   have hw := wrap_succ (n := i) (by omega)
   have hi2 : i < ks'.length := by omega
   have hs := hsame _ _ (tAt_mem hi) (tAt_mem hi2)
   have hc := hrec _ _ (tAt_mem hi) (tAt_mem hi2)
   unfold stepC cmpB
   by_cases h0 : T.cmp (tAt ks i) (tAt ks' i) = 0
   ·rw [h0] at hs ⊢
    simp only [ne_eq, not_true_eq_false, if_false]
    refine ⟨_, by simp [b84_0, r84_0, r84_1, r84_2, r84_3, r84_4, r84_5, r84_6, r84_7, r84_8, d84_10, d84_11, r84_9, r84_12, hi, hi2, hw, cut, tAt_lt hi, tAt_lt hi2, hs]; rfl, ?_⟩
    simp [xheadOf, safeRegs]
   ·simp only [ne_eq, h0, not_false_eq_true, if_true]
    have h0' : (T.cmp (tAt ks i) (tAt ks' i) == 0) = false := by simp [h0]
    rw [h0'] at hs
    refine ⟨by simp, ?_⟩
    simp [b84_0, r84_0, r84_1, r84_2, r84_3, r84_4, r84_5, r84_6, r84_7, r84_8, d84_10, d84_11, r84_9, r84_12, hi, hi2, hw, cut, tAt_lt hi, tAt_lt hi2, hs, hc])
  ks.length () 0 ⟨[(2, .ptr 0 0), (3, .ptr 1 0), (5, .d (.int .i64 0))], cmpB f v ks f v ks'⟩ (by omega) (by simp [xheadOf, safeRegs, cmpB])
 rw [runC ks ks' c3 _ _ (by omega)] at h
 simp only [List.drop_zero, cmpB, terms] at h
 simp [v84, r84_0, r84_1, r84_2, r84_3, r84_4, r84_5, r84_6, r84_7, r84_8, d84_10, d84_11, r84_9, r84_12, c3]
 rw [c3] at h
 rw [h]
 by_cases h0 : T.cmps ks ks' = 0 <;> simp [h0, v84, r84_0, r84_1, r84_2, r84_3, r84_4, r84_5, r84_6, r84_7, r84_8, d84_10, d84_11, r84_9, r84_12]
theorem specBefore_eq (a b : T) (ha : a.inner ≤ 1099511627776) (hb : b.inner ≤ 1099511627776) : callX XV 84 [.d (a.enc .sub), .d (b.enc .sub)] [] = some (.d (.bool (decide (T.cmp a b < 0))), []) := by
 match a, b, ha, hb with
 | .node f v ks, .node f' v' ks', ha, hb =>
  simp only [T.inner] at ha hb
  exact specBefore_of f v ks f' v' ks' (by omega) (by omega) (fun s s' hs hs' => specSame_eq s s' (by have := T.inners_mem hs; omega) (by have := T.inners_mem hs'; omega)) (fun s s' hs hs' => specBefore_eq s s' (by have := T.inners_mem hs; omega) (by have := T.inners_mem hs'; omega))
termination_by a
decreasing_by
 simp_wf
 have := List.sizeOf_lt_of_mem hs
 omega
end Go.Proofs.Ytidlpcgcolcfgaa.VS
namespace Go.Proofs.Ytidlpcgcolcfgaa.VS
def headBad (l : List SymL) (f v : Int) (n : Nat) : Bool :=
 if symIn l f = true then
  if v = 0 then (if (symAt l f.toNat).ac = true then decide ((n : Int) < 2) else !decide ((n : Int) = (symAt l f.toNat).arity))
  else true
 else true
def outOf (l : List SymL) (f : Int) (ks : List T) (i : Nat) : Bool :=
 if (symAt l f.toNat).ac = true then (if (tAt ks i).f = f then true else if i = 0 then false else decide (T.cmp (tAt ks i) (tAt ks (i - 1)) < 0)) else false
mutual
def T.form (l : List SymL) : T → Bool
 | .node f v ks =>
  if f = -1 then inB v 0 99 && decide (ks.length = 0)
  else if headBad l f v ks.length = true then false
  else (findAt (fun i => !((T.forms l ks)[i]?).getD false || outOf l f ks i) ks.length 0).isNone
def T.forms (l : List SymL) : List T → List Bool
 | [] => []
 | t :: r => T.form l t :: T.forms l r
end
end Go.Proofs.Ytidlpcgcolcfgaa.VS
namespace Go.Proofs.Ytidlpcgcolcfgaa.VS
structure Bd where
 v : Int
 t : T
def Bd.enc (g : Tag) (b : Bd) : DV := .agg [.int .i64 b.v, .int .i64 b.t.f, .int .i64 b.t.v, terms g b.t.kids]
def Bd.ok (b : Bd) : Prop := (-9223372036854775808 ≤ b.v ∧ b.v ≤ 9223372036854775807) ∧ b.t.ok
abbrev binds (g : Tag) (l : List Bd) : DV := .sl g (l.map (Bd.enc g))
@[simp] theorem Bd.cells_enc (g : Tag) (x : Bd) : (x.enc g).cells = [.int .i64 x.v, .int .i64 x.t.f, .int .i64 x.t.v, terms g x.t.kids] := rfl
@[simp] theorem Bd.cellsA_enc (g : Tag) (x : Bd) : (AV.d (x.enc g)).cells = [.d (.int .i64 x.v), .d (.int .i64 x.t.f), .d (.int .i64 x.t.v), .d (terms g x.t.kids)] := rfl
@[simp] theorem Bd.isCell_enc (g : Tag) (x : Bd) : (x.enc g).isCell = false := rfl
@[simp] theorem Bd.isAgg_enc (g : Tag) (x : Bd) : isAgg (x.enc g) = true := rfl
@[simp] theorem Bd.clr_enc (g : Tag) (x : Bd) : (x.enc g).clr = x.enc .sub := by
 simp only [Bd.enc, DV.clr, DV.clrs, terms, DV.clrs_map, clr_terms]
@[simp high] theorem Bd.clr_encs (g : Tag) (l : List Bd) : (l.map (Bd.enc g)).map DV.clr = l.map (Bd.enc .sub) := by simp [List.map_map, Function.comp_def]
@[simp] theorem Bd.agg_enc (g : Tag) (x : Bd) : DV.agg [.int .i64 x.v, .int .i64 x.t.f, .int .i64 x.t.v, terms g x.t.kids] = x.enc g := rfl
end Go.Proofs.Ytidlpcgcolcfgaa.VS
namespace Go.Proofs.Ytidlpcgcolcfgaa.VS
end Go.Proofs.Ytidlpcgcolcfgaa.VS
namespace Go.Proofs.Ytidlpcgcolcfgaa.VS
theorem l3Var_eq (n : Int) : callX XV 147 [.d (.int .i64 n)] [] = some (.d ((T.node (-1) n []).enc U), []) := by
 rw [z_call XV _ _ _ v147 rfl xcode_147 rfl]
 simp [v147, r147_0, r147_1, splice, isCell_int, isCell_sl, isCellA_d, safe_d, loadBox]
 rw [T.enc_eq]; rfl
end Go.Proofs.Ytidlpcgcolcfgaa.VS
namespace Go.Proofs.Ytidlpcgcolcfgaa.VS
end Go.Proofs.Ytidlpcgcolcfgaa.VS
namespace Go.Proofs.Ytidlpcgcolcfgaa.VS
def ins (t : T) : List T → List T
 | [] => [t]
 | x :: r => if T.cmp t x < 0 then t :: x :: r else x :: ins t r
def isortOn : List T → List T → List T
 | acc, [] => acc
 | acc, t :: r => isortOn (ins t acc) r
def isort (l : List T) : List T := isortOn [] l
theorem ins_perm (t : T) : ∀ l : List T, (ins t l).Perm (t :: l)
 | [] => .refl _
 | x :: r => by
  simp only [ins]
  split
  ·exact .refl _
  ·exact ((ins_perm t r).cons x).trans (.swap t x r)
theorem isortOn_perm : ∀ (l acc : List T), (isortOn acc l).Perm (acc ++ l)
 | [], acc => by simp [isortOn]
 | t :: r, acc => by
  simp only [isortOn]
  refine (isortOn_perm r _).trans ?_
  refine ((ins_perm t acc).append_right r).trans ?_
  exact List.perm_middle.symm
theorem isort_perm (l : List T) : (isort l).Perm l := isortOn_perm l []
theorem isortOn_append : ∀ (a acc b : List T), isortOn acc (a ++ b) = isortOn (isortOn acc a) b
 | [], acc, b => rfl
 | t :: r, acc, b => by simp only [List.cons_append, isortOn]; exact isortOn_append r _ b
def appK (s : List SymL) (f : Int) (k : T) : List T := if (blindB s f && k.f == f) = true then k.kids else [k]
def flatK (s : List SymL) (f : Int) (l : List T) : List T := l.flatMap (appK s f)
mutual
def T.norm (s : List SymL) : T → T
 | .node f v ks => .node f v (if blindB s f = true then isort (flatK s f (T.norms s ks)) else flatK s f (T.norms s ks))
def T.norms (s : List SymL) : List T → List T
 | [] => []
 | t :: r => t.norm s :: T.norms s r
end
theorem T.norms_map (s : List SymL) : ∀ l : List T, T.norms s l = l.map (T.norm s)
 | [] => by simp [T.norms]
 | t :: r => by simp [T.norms, T.norms_map s r]
theorem norm_f (s : List SymL) (t : T) : (t.norm s).f = t.f := by cases t; simp [T.norm]
theorem norm_v (s : List SymL) (t : T) : (t.norm s).v = t.v := by cases t; simp [T.norm]
theorem cnts_append (a b : List T) : cnts (a ++ b) = cnts a + cnts b := by unfold cnts; rw [inners_append, List.length_append]; omega
theorem cnts_perm {a b : List T} (h : a.Perm b) : cnts a = cnts b := by
 induction h with
 | nil => rfl
 | cons x _ ih => rw [cnts_cons, cnts_cons, ih]
 | swap x y l => rw [cnts_cons, cnts_cons, cnts_cons, cnts_cons]; omega
 | trans _ _ h1 h2 => rw [h1, h2]
theorem cnts_appK (s : List SymL) (f : Int) (k : T) : cnts (appK s f k) ≤ k.inner + 1 := by
 unfold appK
 split
 ·rw [cnts_kids]; omega
 ·rw [cnts_cons]; simp [cnts, T.inners]
theorem flatK_cons (s : List SymL) (f : Int) (k : T) (l : List T) : flatK s f (k :: l) = appK s f k ++ flatK s f l := rfl
theorem flatK_append (s : List SymL) (f : Int) (a b : List T) : flatK s f (a ++ b) = flatK s f a ++ flatK s f b := by unfold flatK; simp
theorem cnts_flatK (s : List SymL) (f : Int) : ∀ l : List T, cnts (flatK s f l) ≤ cnts l
 | [] => by simp [flatK, cnts, T.inners]
 | k :: l => by
  rw [flatK_cons, cnts_append, cnts_cons]
  have := cnts_appK s f k
  have := cnts_flatK s f l
  omega
theorem T.inner_node (f v : Int) (ks : List T) : (T.node f v ks).inner = cnts ks := by simp [T.inner, cnts]
mutual
theorem inner_norm (s : List SymL) : ∀ t : T, (t.norm s).inner ≤ t.inner
 | .node f v ks => by
  have h := cnts_norms s ks
  have h2 := cnts_flatK s f (T.norms s ks)
  simp only [T.norm, T.inner_node]
  split
  ·rw [cnts_perm (isort_perm _)]; omega
  ·omega
theorem cnts_norms (s : List SymL) : ∀ l : List T, cnts (T.norms s l) ≤ cnts l
 | [] => by simp [T.norms]
 | t :: r => by
  have h1 := inner_norm s t
  have h2 := cnts_norms s r
  simp only [T.norms, cnts_cons]; omega
end
theorem mem_inner {l : List T} {t : T} (h : t ∈ l) : t.inner ≤ cnts l := by have := T.inners_mem h; unfold cnts; omega
theorem len_cnts (l : List T) : l.length ≤ cnts l := by unfold cnts; omega
def accK (s : List SymL) (f : Int) (ks : List T) (i : Nat) : List T := flatK s f ((ks.take i).map (T.norm s))
theorem accK_zero (s : List SymL) (f : Int) (ks : List T) : accK s f ks 0 = [] := by simp [accK, flatK]
theorem accK_succ (s : List SymL) (f : Int) (ks : List T) (i : Nat) (h : i < ks.length) : accK s f ks (i + 1) = accK s f ks i ++ appK s f ((tAt ks i).norm s) := by
 unfold accK
 rw [take_snoc ks i h, List.map_append, flatK_append]
 simp [flatK]
theorem accK_all (s : List SymL) (f : Int) (ks : List T) : accK s f ks ks.length = flatK s f (T.norms s ks) := by
 unfold accK; rw [List.take_length, T.norms_map]
theorem accK_cnts (s : List SymL) (f : Int) (ks : List T) (i : Nat) : cnts (accK s f ks i) ≤ cnts ks := by
 unfold accK
 have h1 := cnts_flatK s f ((ks.take i).map (T.norm s))
 rw [← T.norms_map] at h1 ⊢
 have h2 := cnts_norms s (ks.take i)
 have h3 := cnts_le ks i
 omega
theorem ins_at (t : T) : ∀ (l : List T) (j : Nat), j ≤ l.length → (∀ i, i < j → ¬ T.cmp t (tAt l i) < 0) → (j < l.length → T.cmp t (tAt l j) < 0) → ins t l = l.take j ++ t :: l.drop j
 | [], j, hj, _, _ => by simp at hj; subst hj; rfl
 | x :: r, 0, hj, h1, h2 => by
  have := h2 (by simp)
  simp only [tAt, List.getElem?_cons_zero, Option.getD_some] at this
  simp [ins, this]
 | x :: r, j + 1, hj, h1, h2 => by
  have h0 := h1 0 (by omega)
  simp only [tAt, List.getElem?_cons_zero, Option.getD_some] at h0
  have := ins_at t r j (by simpa using hj) (fun i hi => by simpa [tAt] using h1 (i + 1) (by omega)) (fun h => by simpa [tAt] using h2 (by simpa using h))
  simp [ins, h0, this]
end Go.Proofs.Ytidlpcgcolcfgaa.VS
namespace Go.Proofs.Ytidlpcgcolcfgaa.VS
theorem app_Us (a c : List T) (g : Tag) (h : (a.length + c.length) * 40 ≤ 140737488355328) : xappend 3 40 (.sl U (a.map (T.enc U))) (.sl g (c.map (T.enc U))) = some (.sl U ((a ++ c).map (T.enc U))) := by
 have h1 : (c.map (T.enc U)).all (fun e => decide (e.cells.length = 3 ∧ e.cells.all DV.isCell = true)) = true := by
  simp [isCell_int, isCell_sl]
 have h2 : (a.map (T.enc U)).all (fun e => decide (e.cells.length = 3)) = true := by simp
 unfold xappend
 simp only
 rw [if_pos h1]
 cases c with
 | nil => simp
 | cons x r =>
  simp only [List.map_cons, List.isEmpty_cons, Bool.false_eq_true, if_false]
  rw [if_pos ⟨by simpa using h, trivial, h2⟩]
  simp
theorem rest_zero (xs : List DV) (m : Nat) : rowRest xs 0 m = (xs.take m).map DV.clr ++ xs.drop m := by
 unfold rowRest; simp [DV.clrs_map]
def putAt (t : T) (l : List T) : Nat := match findAt (fun i => decide (T.cmp t (tAt l i) < 0)) l.length 0 with
 | some j => j
 | none => l.length
theorem findAt_both (q : Nat → Bool) : ∀ (k i : Nat), (∀ j, findAt q k i = some j → ∀ m, i ≤ m → m < j → q m = false) ∧ (findAt q k i = none → ∀ m, i ≤ m → m < i + k → q m = false)
 | 0, i => ⟨fun j h => by simp [findAt] at h, fun _ m h1 h2 => by omega⟩
 | k + 1, i => by
  have ih := findAt_both q k (i + 1)
  simp only [findAt]
  by_cases h : q i = true
  ·simp only [h, if_true]
   exact ⟨fun j hj m h1 h2 => by simp at hj; omega, fun h => by simp at h⟩
  ·simp only [h, Bool.false_eq_true, if_false]
   refine ⟨fun j hj m h1 h2 => ?_, fun hn m h1 h2 => ?_⟩
   ·by_cases e : m = i
    ·subst e; simpa using h
    ·exact ih.1 j hj m (by omega) h2
   ·by_cases e : m = i
    ·subst e; simpa using h
    ·exact ih.2 hn m (by omega) (by omega)
theorem putAt_le (t : T) (l : List T) : putAt t l ≤ l.length := by
 unfold putAt
 split
 ·rename_i j h; have := (findAt_lt _ _ _ _ h).2.1; omega
 ·omega
theorem putAt_ins (t : T) (l : List T) : ins t l = l.take (putAt t l) ++ t :: l.drop (putAt t l) := by
 have h := findAt_both (fun i => decide (T.cmp t (tAt l i) < 0)) l.length 0
 refine ins_at t l _ (putAt_le t l) (fun i hi => ?_) (fun hlt => ?_)
 ·unfold putAt at hi
  split at hi
  ·rename_i j hj
   simpa using h.1 j hj i (by omega) hi
  ·rename_i hn
   simpa using h.2 hn i (by omega) (by omega)
 ·unfold putAt at hlt ⊢
  split
  ·rename_i j hj
   simpa using (findAt_lt _ _ _ _ hj).2.2
  ·rename_i hn; rw [hn] at hlt; simp at hlt
theorem l4Put_eq (l : List T) (t : T) (hl : cnts l ≤ 1099511627776) (ht : t.inner ≤ 1099511627776) (x0 x1 x2 x3 : Option (List AV)) : callX XV 154 [.d (terms U l), .d (t.enc U)] [x0, x1, x2, x3] = some (.d (.sl U ((ins t l).map (T.enc U))), [x0, x1, x2, x3]) := by
 have hlen := len_cnts l
 have hlt := putAt_le t l
 have hb : ∀ i, i < l.length → callX XV 84 [.d (t.enc .sub), .d ((tAt l i).enc .sub)] [] = some (.d (.bool (decide (T.cmp t (tAt l i) < 0))), []) := fun i hi => specBefore_eq t (tAt l i) ht (by have := mem_inner (tAt_mem hi); omega)
 rw [z_call XV _ _ _ v154 rfl xcode_154 rfl]
 have h := loopX_upto (X := XV) (T := XV.lin 154) (L := 5) (live := [0, 3, 5]) (b := b154_0) (n := l.length) (st := fun (_ : Unit) i => ⟨[(0, .d (terms U l)), (3, .ptr 4 0), (5, .d (.int .i64 i))], [x0, x1, x2, x3, some [.d (.int .i64 t.f), .d (.int .i64 t.v), .d (terms U t.kids)]]⟩) (step := stepF fun i => decide (T.cmp t (tAt l i) < 0))
  (F := fun _ => (.exit 0, ⟨[(0, .d (terms U l)), (3, .ptr 4 0), (5, .d (.int .i64 l.length)), (19, .d (.bool false))], [x0, x1, x2, x3, some [.d (.int .i64 t.f), .d (.int .i64 t.v), .d (terms U t.kids)]]⟩)) (R := fun (j : Nat) => (.exit 0, ⟨[(0, .d (terms U l)), (3, .ptr 4 0), (5, .d (.int .i64 j)), (19, .d (.bool false))], [x0, x1, x2, x3, some [.d (.int .i64 t.f), .d (.int .i64 t.v), .d (terms U t.kids)]]⟩))
  (fun a => ⟨by simp, by simp [b154_0, r154_0, r154_1, d154_2, r154_3, r154_4, r154_5, r154_6]⟩)
  (fun a i hi => by
   have hw := wrap_succ (n := i) (by omega)
   have hc := hb i hi
   unfold stepF
   by_cases hq : decide (T.cmp t (tAt l i) < 0) = true
   ·rw [if_pos hq]
    rw [hq] at hc
    exact ⟨by simp, by simp [b154_0, r154_0, r154_1, d154_2, r154_3, r154_4, r154_5, r154_6, hi, hw, cut, tAt_lt hi, hc, loadBox]⟩
   ·rw [if_neg hq]
    have hq' : decide (T.cmp t (tAt l i) < 0) = false := by simpa using hq
    rw [hq'] at hc
    exact ⟨⟨[(0, .d (terms U l)), (3, .ptr 4 0), (5, .d (.int .i64 (i + 1 : Nat)))], [x0, x1, x2, x3, some [.d (.int .i64 t.f), .d (.int .i64 t.v), .d (terms U t.kids)]]⟩, by simp [b154_0, r154_0, r154_1, d154_2, r154_3, r154_4, r154_5, r154_6, hi, hw, cut, tAt_lt hi, hc, loadBox], by simp [xheadOf, safeRegs]⟩)
  l.length () 0 ⟨[(0, .d (terms U l)), (3, .ptr 4 0), (5, .d (.int .i64 0))], [x0, x1, x2, x3, some [.d (.int .i64 t.f), .d (.int .i64 t.v), .d (terms U t.kids)]]⟩ (by omega) (by simp [xheadOf, safeRegs])
 have h' : loopX XV (XV.lin 154) 5 [0, 3, 5] b154_0 ⟨[(0, .d (terms U l)), (3, .ptr 4 0), (5, .d (.int .i64 0))], [x0, x1, x2, x3, some [.d (.int .i64 t.f), .d (.int .i64 t.v), .d (terms U t.kids)]]⟩ =
   some (.exit 0, ⟨[(0, .d (terms U l)), (3, .ptr 4 0), (5, .d (.int .i64 (putAt t l))), (19, .d (.bool false))], [x0, x1, x2, x3, some [.d (.int .i64 t.f), .d (.int .i64 t.v), .d (terms U t.kids)]]⟩) := by
  rw [h, runF]
  unfold putAt
  cases hq : findAt (fun i => decide (T.cmp t (tAt l i) < 0)) l.length 0 <;> simp
 clear h
 rw [putAt_ins]
 generalize putAt t l = m at *
 have hm : ¬ ((m : Int) < 0) := by omega
 have a1 := app_Us [] (l.take m) .sub (by simp; omega)
 have a2 := app_Us (l.take m) [t] U (by simp; omega)
 have a3 := app_Us (l.take m ++ [t]) (l.drop m) .sub (by simp; omega)
 have hall : (l.map (T.enc U)).all (fun e => decide (e.cells.length = 3)) = true := by simp
 have hrest : rowRest (l.map (T.enc U)) 0 m = (l.take m).map (T.enc .sub) ++ (l.drop m).map (T.enc U) := by rw [rest_zero, ← List.map_take, clr_terms, ← List.map_drop]
 have hall2 : ((l.take m).map (T.enc .sub) ++ (l.drop m).map (T.enc U)).all (fun e => decide (e.cells.length = 3)) = true := by
  have q : ∀ (l : List T) (g : Tag), (l.map (T.enc g)).all (fun e => decide (e.cells.length = 3)) = true := fun l g => by simp
  rw [List.all_append, q, q]; rfl
 have hlen2 : ((l.take m).map (T.enc .sub) ++ (l.drop m).map (T.enc U)).length = l.length := by simp; omega
 have hd2 : (((l.take m).map (T.enc .sub) ++ (l.drop m).map (T.enc U)).take l.length).drop m = (l.drop m).map (T.enc U) := by
  rw [List.take_of_length_le (by rw [hlen2]; exact Nat.le_refl _), List.drop_append_of_le_length (by simp; omega), List.drop_of_length_le (by simp; omega)]; rfl
 have ht2 : (l.map (T.enc U)).take m = (l.take m).map (T.enc U) := List.map_take.symm
 simp only [List.map_nil, List.nil_append, List.map_cons, List.map_append, List.append_assoc, List.cons_append] at a1 a2 a3 ⊢
 generalize hR : (l.take m).map (T.enc .sub) ++ (l.drop m).map (T.enc U) = R at *
 generalize hL1 : (l.take m).map (T.enc U) = L1 at *
 generalize hL2 : (l.drop m).map (T.enc U) = L2 at *
 generalize hL3 : L1 ++ [T.enc U t] = L3 at *
 generalize hL4 : L1 ++ T.enc U t :: L2 = L4 at *
 simp only [lin_154] at h'
 simp [v154, r154_0, r154_1, splice, isCell_int, isCell_sl, isCellA_d, safe_d, loadBox]
 rw [h']
 simp [r154_4, r154_5, r154_6, hlt, hm, hall, hall2, hlen2, hrest, hd2, ht2, a1, a2, a3, loadBox, splice, AV.clrs_map]
end Go.Proofs.Ytidlpcgcolcfgaa.VS
namespace Go.Proofs.Ytidlpcgcolcfgaa.VS
def nM (s : List SymL) (t : T) : DV := (t.norm s).enc U
theorem flatK_not (s : List SymL) (f : Int) (h : ¬ blindB s f = true) : ∀ l : List T, flatK s f l = l
 | [] => rfl
 | k :: l => by
  rw [flatK_cons, flatK_not s f h l]
  have h' : blindB s f = false := by simpa using h
  simp [appK, h']
def rowM (s : List SymL) (t : T) : List DV := (t.norm s).kids.map (T.enc U)
theorem nM_eq (s : List SymL) (t : T) : nM s t = .agg [.int .i64 t.f, .int .i64 t.v, .sl U (rowM s t)] := by
 unfold nM rowM
 rw [T.enc_eq, norm_f, norm_v]
theorem clr_rowM (s : List SymL) (t : T) : (rowM s t).map DV.clr = (t.norm s).kids.map (T.enc .sub) := by unfold rowM; exact clr_terms _ _
theorem cells_nM (s : List SymL) (t : T) : (nM s t).cells = [.int .i64 t.f, .int .i64 t.v, .sl U (rowM s t)] := by rw [nM_eq]; rfl
theorem app_nM (s : List SymL) (a : List T) (t : T) (h : a.length ≤ 1099511627776) : xappend 3 40 (.sl U (a.map (nM s))) (.sl U [nM s t]) = some (.sl U (a.map (nM s) ++ [nM s t])) := by
 unfold xappend
 simp only
 rw [if_pos (by simp [cells_nM, isCell_int, isCell_sl])]
 simp only [List.isEmpty_cons, Bool.false_eq_true, if_false]
 rw [if_pos ⟨by simp; omega, trivial, by simp [cells_nM]⟩]
def rowAt (s : List SymL) (f : Int) (ks : List T) (i : Nat) : List DV := if blindB s f = true then (isort (accK s f ks i)).map (T.enc U) else (ks.take i).map (nM s)
theorem rowAt_zero (s : List SymL) (f : Int) (ks : List T) : rowAt s f ks 0 = [] := by unfold rowAt; rw [accK_zero]; split <;> rfl
theorem norms_map (s : List SymL) : ∀ l : List T, T.norms s l = l.map (T.norm s)
 | [] => by simp [T.norms]
 | t :: r => by simp [T.norms, norms_map s r]
theorem rowAt_all (s : List SymL) (f v : Int) (ks : List T) : DV.agg [.int .i64 f, .int .i64 v, .sl U (rowAt s f ks ks.length)] = nM s (.node f v ks) := by
 rw [nM_eq]
 unfold rowAt rowM
 rw [accK_all, List.take_length]
 simp only [T.f_node, T.v_node, T.norm]
 by_cases hb : blindB s f = true
 ·simp only [hb, if_true, T.kids_node]
 ·simp only [hb, Bool.false_eq_true, if_false, T.kids_node]
  rw [flatK_not s f hb, norms_map, List.map_map]
  rfl
def nB3 (f v : Int) (ks : List T) (R : List DV) : Boxs := [some [.d (.int .i64 f), .d (.int .i64 v), .d (terms .sub ks)], some [.d (.int .i64 0), .d (.int .i64 0), .d (.sl U [])], some [.d (.int .i64 f), .d (.int .i64 v), .d (.sl U R)]]
def rowJ (l : List T) (j : Nat) : List DV := (l.take j).map (T.enc .sub) ++ (l.drop j).map (T.enc U)
theorem rowJ_len (l : List T) (j : Nat) (h : j ≤ l.length) : (rowJ l j).length = l.length := by unfold rowJ; simp; omega
theorem rowJ_clr (l : List T) (j : Nat) : (rowJ l j).map DV.clr = l.map (T.enc .sub) := by
 unfold rowJ; rw [List.map_append, clr_terms, clr_terms, ← List.map_append, List.take_append_drop]
theorem rowJ_at (l : List T) (j : Nat) (h : j < l.length) : (rowJ l j)[j]? = some ((tAt l j).enc U) := by
 unfold rowJ
 rw [List.getElem?_append_right (by simp; omega), List.drop_eq_getElem_cons h, tAt_lt h]
 simp [Nat.min_eq_left (Nat.le_of_lt h)]
theorem rowJ_set (l : List T) (j : Nat) (h : j < l.length) : (rowJ l j).set j ((tAt l j).enc .sub) = rowJ l (j + 1) := by
 unfold rowJ
 have hm : ((l.take j).map (T.enc .sub)).length = j := by simp; omega
 rw [List.set_append_right _ _ (by rw [hm]; exact Nat.le_refl _), hm, Nat.sub_self, List.drop_eq_getElem_cons h, tAt_lt h, List.map_cons, List.set_cons_zero, take_snoc l j h, List.map_append, List.append_assoc, List.map_cons, List.map_nil]
 rfl
theorem rowJ_all (l : List T) : rowJ l l.length = l.map (T.enc .sub) := by unfold rowJ; simp
theorem rowJ_zero (l : List T) : rowJ l 0 = l.map (T.enc U) := by unfold rowJ; simp
theorem upE3_enc (TT : List Nat) (d4 : Nat) (s : XS) (b off : Nat) (cs : List AV) (g gt : Tag) (xs : List DV) (k : Nat) (t : T) : xUpE3 TT d4 3 s b off cs g xs k (some (t.enc gt)) = some (xput TT ⟨s.r, s.B.set b (some (cs.set off (.d (.sl g (xs.set k (t.enc .sub))))))⟩ (some d4) (.d (t.enc gt))) := by
 rw [← T.clr_enc gt t, T.enc_eq]; rfl
theorem inner153 (s : List SymL) (hs : s.length ≤ 1099511627776) (f v kf kv : Int) (ks l : List T) (i : Nat) (hl : l.length ≤ 1099511627776) : ∀ (k j : Nat), j + k = l.length → ∀ acc : List T, cnts acc + cnts (l.drop j) ≤ 1099511627776 → ∀ e : Boxs,
  loopX XV (XV.lin 153) 4 [0, 3, 4, 5, 6, 7, 8] b153_1 ⟨[(0, .d (sg s)), (3, .ptr 0 0), (4, .ptr 1 0), (5, .ptr 2 0), (6, .d (.int .i64 i)), (7, .ptr 3 0), (8, .d (.int .i64 j))], nB3 f v ks (acc.map (T.enc U)) ++ [some [.d (.int .i64 kf), .d (.int .i64 kv), .d (.sl U (rowJ l j))]] ++ e⟩ =
   some (.exit 3, ⟨[(0, .d (sg s)), (3, .ptr 0 0), (4, .ptr 1 0), (5, .ptr 2 0), (6, .d (.int .i64 i)), (7, .ptr 3 0), (8, .d (.int .i64 l.length)), (32, .d (.bool false))], nB3 f v ks ((isortOn acc (l.drop j)).map (T.enc U)) ++ [some [.d (.int .i64 kf), .d (.int .i64 kv), .d (.sl U (l.map (T.enc .sub)))]]⟩) := by
 have head : ∀ (x : Int) (A e : Boxs), A.length = 4 → xheadOf 4 [0, 3, 4, 5, 6, 7, 8] ⟨[(0, .d (sg s)), (3, .ptr 0 0), (4, .ptr 1 0), (5, .ptr 2 0), (6, .d (.int .i64 i)), (7, .ptr 3 0), (8, .d (.int .i64 x))], A ++ e⟩ = some ⟨[(0, .d (sg s)), (3, .ptr 0 0), (4, .ptr 1 0), (5, .ptr 2 0), (6, .d (.int .i64 i)), (7, .ptr 3 0), (8, .d (.int .i64 x))], A⟩ := fun x A e hA =>
  head_cut (by simp) (by simp [safeRegs]) hA rfl
 intro k
 induction k with
 | zero =>
  intro j hj acc ha e
  have : j = l.length := by omega
  subst this
  refine loopX_out (head _ _ e (by simp [nB3])) ?_ (by simp)
  rw [List.drop_length, rowJ_all]
  simp only [isortOn]
  simp [b153_1, r153_0, r153_1, r153_2, r153_3, r153_5, r153_10, r153_11, r153_12, r153_13, r153_6, r153_7, d153_9, r153_8, r153_4, r153_14, nB3, loadBox]
 | succ k ih =>
  intro j hj acc ha e
  have hlt : j < l.length := by omega
  have hm := tAt_mem hlt
  have h1 := mem_inner hm
  have hd : l.drop j = tAt l j :: l.drop (j + 1) := by rw [List.drop_eq_getElem_cons hlt, tAt_lt hlt]
  have hw := wrap_succ (n := j) (by omega)
  have r1 := rowJ_len l j (by omega)
  have r2 := rowJ_clr l j
  have r3 : ∀ h : j < (rowJ l j).length, (rowJ l j)[j]'h = (tAt l j).enc U := fun h => (List.getElem?_eq_some_iff.1 (rowJ_at l j hlt)).2
  have r4 := rowJ_set l j hlt
  rw [hd, cnts_cons] at ha
  have hp := l4Put_eq acc (tAt l j) (by omega) (by omega)
  rw [hd]
  simp only [isortOn]
  rw [← ih (j + 1) (by omega) (ins (tAt l j) acc) (by rw [cnts_perm (ins_perm _ _), cnts_cons]; omega) []]
  refine loopX_go (head _ _ e (by simp [nB3])) ?_
  generalize rowJ l (j + 1) = R1 at *
  generalize rowJ l j = R0 at *
  simp [b153_1, r153_0, r153_1, r153_2, r153_3, r153_5, r153_10, r153_11, r153_12, r153_13, r153_6, r153_7, d153_9, r153_8, r153_4, r153_14, nB3, hlt, hw, cut, tAt_lt hlt, hp, r1, r2, r3, r4, upE3_enc, linDistinct, VX.linT, splice, isCell_int, isCell_sl, isCellA_d, safe_d, loadBox]
theorem kid153 (s : List SymL) (hs : s.length ≤ 1099511627776) (f v : Int) (ks : List T) (hl : cnts ks ≤ 1099511627776) (i : Nat) (hi : i < ks.length)
  (hc : callX XV 153 [.d (sg s), .d ((tAt ks i).enc .sub)] [] = some (.d (nM s (tAt ks i)), [])) :
  ∃ e : Boxs, codeX XV (XV.lin 153) b153_0 ⟨[(0, .d (sg s)), (3, .ptr 0 0), (4, .ptr 1 0), (5, .ptr 2 0), (6, .d (.int .i64 i))], nB3 f v ks (rowAt s f ks i)⟩ =
   some (.normal, ⟨[(0, .d (sg s)), (3, .ptr 0 0), (4, .ptr 1 0), (5, .ptr 2 0), (6, .d (.int .i64 (i + 1 : Nat)))], nB3 f v ks (rowAt s f ks (i + 1)) ++ e⟩) := by
 have hlen := len_cnts ks
 have hw := wrap_succ (n := i) (by omega)
 have hb := specBlind_eq s hs f
 have ht := tAt_lt hi
 have hm := mem_inner (tAt_mem hi)
 have hin := inner_norm s (tAt ks i)
 have hac := accK_succ s f ks i hi
 have hcn := accK_cnts s f ks (i + 1)
 have htk := take_snoc ks i hi
 have hM := clr_rowM s (tAt ks i)
 have hnf := norm_f s (tAt ks i)
 have hnv := norm_v s (tAt ks i)
 have happ := app_nM s (ks.take i) (tAt ks i) (by simp; omega)
 rw [hac, cnts_append] at hcn
 unfold rowAt
 rw [hac, htk]
 rw [nM_eq] at hc happ
 generalize hk : tAt ks i = k at *
 generalize hr : accK s f ks i = acc at *
 have hXu : rowM s k = (k.norm s).kids.map (T.enc U) := rfl
 generalize hX : rowM s k = X at *
 by_cases h1 : blindB s f = true
 ·simp only [h1, if_true]
  by_cases h2 : (k.f == f) = true
  ·have e1 : appK s f (k.norm s) = (k.norm s).kids := by unfold appK; rw [hnf, h1, h2]; rfl
   rw [e1] at hcn ⊢
   have hloop := inner153 s hs f v k.f k.v ks (k.norm s).kids i (by have := len_cnts (k.norm s).kids; rw [cnts_kids] at this; omega) (k.norm s).kids.length 0 (by omega) (isort acc) (by rw [cnts_perm (isort_perm acc), List.drop_zero]; omega) []
   rw [List.drop_zero, rowJ_zero, show isortOn (isort acc) (k.norm s).kids = isort (acc ++ (k.norm s).kids) from by unfold isort; rw [isortOn_append]] at hloop
   refine ⟨[some [.d (.int .i64 k.f), .d (.int .i64 k.v), .d (.sl U ((k.norm s).kids.map (T.enc .sub)))]], ?_⟩
   have h2n : (k.f != f) = false := by simpa using h2
   rw [← hXu] at hloop
   generalize (isort (acc ++ (k.norm s).kids)).map (T.enc U) = R2 at *
   generalize (isort acc).map (T.enc U) = R1 at *
   generalize (k.norm s).kids = l at *
   simp only [nB3, lin_153, Int.natCast_zero, List.cons_append, List.nil_append, List.append_nil] at hloop ⊢
   simp [b153_0, r153_0, r153_1, r153_2, r153_3, r153_5, r153_10, r153_11, r153_12, r153_13, r153_6, r153_7, d153_9, r153_8, r153_4, r153_14, hi, hw, cut, ht, hc, hb, h1, h2n, hM, splice, isCell_int, isCell_sl, isCellA_d, safe_d, loadBox, AV.clrs_map]
   rw [hloop]
   simp [b153_0, r153_0, r153_1, r153_2, r153_3, r153_5, r153_10, r153_11, r153_12, r153_13, r153_6, r153_7, d153_9, r153_8, r153_4, r153_14, hw]
  ·have h2' : (k.f == f) = false := by simpa using h2
   have h2n : (k.f != f) = true := by simpa using h2
   have e1 : appK s f (k.norm s) = [k.norm s] := by unfold appK; rw [hnf, h1, h2']; rfl
   rw [e1] at hcn ⊢
   rw [show isort (acc ++ [k.norm s]) = ins (k.norm s) (isort acc) from by unfold isort; rw [isortOn_append]; rfl]
   have hp := l4Put_eq (isort acc) (k.norm s) (by rw [cnts_perm (isort_perm acc)]; omega) (by omega)
   have hke : (k.norm s).enc U = .agg [.int .i64 k.f, .int .i64 k.v, .sl U X] := by rw [T.enc_eq, hnf, hnv, hXu]
   simp only [hke] at hp
   refine ⟨[some [.d (.int .i64 k.f), .d (.int .i64 k.v), .d (terms .sub (k.norm s).kids)]], ?_⟩
   generalize ins (k.norm s) (isort acc) = R2 at *
   generalize isort acc = R1 at *
   generalize (k.norm s).kids = l at *
   simp [b153_0, r153_0, r153_1, r153_2, r153_3, r153_5, r153_10, r153_11, r153_12, r153_13, r153_6, r153_7, d153_9, r153_8, r153_4, r153_14, nB3, hi, hw, cut, ht, hc, hb, h1, h2n, hM, hp, linDistinct, VX.linT, splice, isCell_int, isCell_sl, isCellA_d, safe_d, loadBox, AV.clrs_map]
 ·have h1' : blindB s f = false := by simpa using h1
  simp only [h1', Bool.false_eq_true, if_false]
  refine ⟨[some [.d (.int .i64 k.f), .d (.int .i64 k.v), .d (terms .sub (k.norm s).kids)]], ?_⟩
  rw [List.map_append, List.map_cons, List.map_nil, nM_eq, hX]
  generalize hR2 : (ks.take i).map (nM s) ++ [.agg [.int .i64 k.f, .int .i64 k.v, .sl U X]] = R2 at *
  generalize (ks.take i).map (nM s) = R1 at *
  generalize (k.norm s).kids = l at *
  simp [b153_0, r153_0, r153_1, r153_2, r153_3, r153_5, r153_10, r153_11, r153_12, r153_13, r153_6, r153_7, d153_9, r153_8, r153_4, r153_14, nB3, hi, hw, cut, ht, hc, hb, h1', happ, hM, splice, isCell_int, isCell_sl, isCellA_d, safe_d, loadBox, AV.clrs_map]
end Go.Proofs.Ytidlpcgcolcfgaa.VS
namespace Go.Proofs.Ytidlpcgcolcfgaa.VS
theorem loop153 (s : List SymL) (hs : s.length ≤ 1099511627776) (f v : Int) (ks : List T) (hl : cnts ks ≤ 1099511627776)
  (hc : ∀ t, t ∈ ks → callX XV 153 [.d (sg s), .d (t.enc .sub)] [] = some (.d (nM s t), [])) : ∀ (k i : Nat), i + k = ks.length → ∀ e : Boxs,
  loopX XV (XV.lin 153) 3 [0, 3, 4, 5, 6] b153_0 ⟨[(0, .d (sg s)), (3, .ptr 0 0), (4, .ptr 1 0), (5, .ptr 2 0), (6, .d (.int .i64 i))], nB3 f v ks (rowAt s f ks i) ++ e⟩ =
   some (.exit 0, ⟨[(0, .d (sg s)), (3, .ptr 0 0), (4, .ptr 1 0), (5, .ptr 2 0), (6, .d (.int .i64 ks.length)), (18, .d (.bool false))], nB3 f v ks (rowAt s f ks ks.length)⟩) := by
 have head : ∀ (x : Int) (A e : Boxs), A.length = 3 → xheadOf 3 [0, 3, 4, 5, 6] ⟨[(0, .d (sg s)), (3, .ptr 0 0), (4, .ptr 1 0), (5, .ptr 2 0), (6, .d (.int .i64 x))], A ++ e⟩ = some ⟨[(0, .d (sg s)), (3, .ptr 0 0), (4, .ptr 1 0), (5, .ptr 2 0), (6, .d (.int .i64 x))], A⟩ := fun x A e hA =>
  head_cut (by simp) (by simp [safeRegs]) hA rfl
 intro k
 induction k with
 | zero =>
  intro i hi e
  have : i = ks.length := by omega
  subst this
  refine loopX_out (head _ _ e (by simp [nB3])) ?_ (by simp)
  generalize rowAt s f ks ks.length = R
  simp [b153_0, r153_0, r153_1, r153_2, r153_3, r153_5, r153_10, r153_11, r153_12, r153_13, r153_6, r153_7, d153_9, r153_8, r153_4, r153_14, nB3, loadBox]
 | succ k ih =>
  intro i hi e
  have hlt : i < ks.length := by omega
  obtain ⟨e', he⟩ := kid153 s hs f v ks hl i hlt (hc _ (tAt_mem hlt))
  rw [← ih (i + 1) (by omega) e']
  exact loopX_go (head _ _ e (by simp [nB3])) he
theorem specNorm_of (s : List SymL) (hs : s.length ≤ 1099511627776) (f v : Int) (ks : List T) (hl : cnts ks ≤ 1099511627776)
  (hc : ∀ t, t ∈ ks → callX XV 153 [.d (sg s), .d (t.enc .sub)] [] = some (.d (nM s t), [])) :
  callX XV 153 [.d (sg s), .d ((T.node f v ks).enc .sub)] [] = some (.d (nM s (.node f v ks)), []) := by
 rw [z_call XV _ _ _ v153 rfl xcode_153 rfl]
 have hloop := loop153 s hs f v ks hl hc ks.length 0 (by omega) []
 rw [← rowAt_all]
 simp only [rowAt_zero, List.append_nil, lin_153, nB3, Int.natCast_zero] at hloop
 generalize rowAt s f ks ks.length = R at *
 simp [v153, r153_0, r153_1, r153_2, splice, isCell_int, isCell_sl, isCellA_d, safe_d, loadBox, AV.clrs_map]
 rw [hloop]
 simp [r153_14, splice, isCell_int, isCell_sl, isCellA_d, safe_d, loadBox, AV.clrs_map]
theorem specNorm_eq (s : List SymL) (hs : s.length ≤ 1099511627776) (t : T) (ht : t.inner ≤ 1099511627776) : callX XV 153 [.d (sg s), .d (t.enc .sub)] [] = some (.d (nM s t), []) := by
 match t, ht with
 | .node f v ks, ht =>
  rw [T.inner_node] at ht
  exact specNorm_of s hs f v ks ht fun x hx => specNorm_eq s hs x (by have := mem_inner hx; omega)
termination_by t
decreasing_by
 simp_wf
 have := List.sizeOf_lt_of_mem hx
 omega
end Go.Proofs.Ytidlpcgcolcfgaa.VS
