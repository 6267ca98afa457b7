/- Contracts of the program's functions on the evaluator without names, and plain lemmas: part 1. -/
import Derived.Test.YtidlpcgcolcfgaaLin
namespace Go.Proofs.Ytidlpcgcolcfgaa.VS
set_option linter.unusedVariables false
set_option linter.unusedSimpArgs false
/-- A term. -/
inductive T where
  | node (f v : Int) (kids : List T)
  deriving Inhabited
def T.f : T → Int | .node f _ _ => f
def T.v : T → Int | .node _ v _ => v
def T.kids : T → List T | .node _ _ k => k
mutual
def T.enc (g : Tag) : T → DV
  | .node f v ks => .agg [.int .i64 f, .int .i64 v, .sl g (T.encs g ks)]
def T.encs (g : Tag) : List T → List DV
  | [] => []
  | t :: r => t.enc g :: T.encs g r
end
theorem T.encs_map (g : Tag) : ∀ l : List T, T.encs g l = l.map (T.enc g)
  | [] => by unfold T.encs; rfl
  | t :: r => by unfold T.encs; simp [T.encs_map g r]
abbrev terms (g : Tag) (l : List T) : DV := .sl g (l.map (T.enc g))
theorem T.enc_eq (g : Tag) (t : T) : t.enc g = .agg [.int .i64 t.f, .int .i64 t.v, terms g t.kids] := by
  cases t; simp [T.enc, T.encs_map, terms, T.f, T.v, T.kids]
@[simp] theorem agg_enc (g : Tag) (f v : Int) (ks : List T) : DV.agg [.int .i64 f, .int .i64 v, terms g ks] = (T.node f v ks).enc g := by
  simp [T.enc, T.encs_map, terms]
@[simp] theorem T.eta (t : T) : T.node t.f t.v t.kids = t := by cases t; rfl
@[simp] theorem T.f_node (f v : Int) (k : List T) : (T.node f v k).f = f := rfl
@[simp] theorem T.v_node (f v : Int) (k : List T) : (T.node f v k).v = v := rfl
@[simp] theorem T.kids_node (f v : Int) (k : List T) : (T.node f v k).kids = k := rfl
@[simp] theorem T.cells_enc (g : Tag) (t : T) : (t.enc g).cells = [.int .i64 t.f, .int .i64 t.v, terms g t.kids] := by rw [T.enc_eq]; rfl
@[simp] theorem T.cellsA_enc (g : Tag) (t : T) : (AV.d (t.enc g)).cells = [.d (.int .i64 t.f), .d (.int .i64 t.v), .d (terms g t.kids)] := by rw [T.enc_eq]; rfl
@[simp] theorem T.isCell_enc (g : Tag) (t : T) : (t.enc g).isCell = false := by rw [T.enc_eq]; rfl
mutual
theorem T.clr_enc (g : Tag) : ∀ t : T, (t.enc g).clr = t.enc .sub
  | .node f v ks => by simp only [T.enc, DV.clr, DV.clrs, T.clr_encs g ks]
theorem T.clr_encs (g : Tag) : ∀ l : List T, DV.clrs (T.encs g l) = T.encs .sub l
  | [] => by simp only [T.encs, DV.clrs]
  | t :: r => by simp only [T.encs, DV.clrs, T.clr_enc g t, T.clr_encs g r]
end
attribute [simp] T.clr_enc
@[simp high] theorem clr_terms (g : Tag) (l : List T) : (l.map (T.enc g)).map DV.clr = l.map (T.enc .sub) := by
  rw [← T.encs_map, ← T.encs_map, ← DV.clrs_map, T.clr_encs]
def tAt (l : List T) (i : Nat) : T := (l[i]?).getD (.node 0 0 [])
theorem tAt_get {l : List T} {i : Nat} (h : i < l.length) : l[i]? = some (tAt l i) := by simp [tAt, h]
@[simp] theorem terms_get (g : Tag) {l : List T} {i : Nat} (h : i < l.length) : (l.map (T.enc g))[i]? = some ((tAt l i).enc g) := by simp [tAt_get h]
end Go.Proofs.Ytidlpcgcolcfgaa.VS
namespace Go.Proofs.Ytidlpcgcolcfgaa.VS
set_option linter.unusedVariables false
set_option linter.unusedSimpArgs false
mutual
/-- No row is longer than Go allows. -/
def T.ok : T → Prop
  | .node _ _ ks => ks.length ≤ maxLen ∧ T.oks ks
def T.oks : List T → Prop
  | [] => True
  | t :: r => t.ok ∧ T.oks r
end
/-! toTerm: the same term -/
end Go.Proofs.Ytidlpcgcolcfgaa.VS
namespace Go.Proofs.Ytidlpcgcolcfgaa.VS
set_option profiler true
set_option profiler.threshold 2000
set_option linter.unusedVariables false
set_option linter.unusedSimpArgs false
/-! eqTerm, of a term with itself -/
/-! ### The order of terms -/
mutual
def T.cmp : T → T → Int
  | .node f v ks, .node f' v' ks' =>
    if f < f' then -1 else if f > f' then 1 else if v < v' then -1 else if v > v' then 1 else
    if ks.length < ks'.length then -1 else if ks.length > ks'.length then 1 else T.cmps ks ks'
def T.cmps : List T → List T → Int
  | a :: as, b :: bs => if T.cmp a b ≠ 0 then T.cmp a b else T.cmps as bs
  | _, _ => 0
end
end Go.Proofs.Ytidlpcgcolcfgaa.VS
namespace Go.Proofs.Ytidlpcgcolcfgaa.VS
set_option linter.unusedVariables false
set_option linter.unusedSimpArgs false
end Go.Proofs.Ytidlpcgcolcfgaa.VS
namespace Go.Proofs.Ytidlpcgcolcfgaa.VS
set_option linter.unusedVariables false
set_option linter.unusedSimpArgs false
/-! ### Rows that are filled, of any elements -/
theorem run_on (k i : Nat) : runN (fun (_ : Unit) (_ : Nat) => (Sum.inl () : Unit ⊕ Unit)) k () i = .inl () := by
  induction k generalizing i with
  | zero => rfl
  | succ k ih => simp [runN, ih]
/-! ### Sizes -/
/-! ### Signatures -/
@[simp] theorem isAgg_agg (cs : List DV) : isAgg (.agg cs) = true := rfl
@[simp] theorem isAgg_int (k : IntKind) (n : Int) : isAgg (.int k n) = false := rfl
@[simp] theorem cn_symE (s : SymL) : s.enc.cn = s.enc := by simp [SymL.enc, SymL.cells]
@[simp] theorem isAgg_sym (s : SymL) : isAgg s.enc = true := rfl
@[simp] theorem clr_symE (s : SymL) : s.enc.clr = s.enc := by simp [SymL.enc, SymL.cells]
@[simp] theorem cells_symE (s : SymL) : s.enc.cells = [.str s.name, .int .i64 s.arity, .bool s.ac] := rfl
@[simp] theorem cellsA_symE (s : SymL) : (AV.d s.enc).cells = [.d (.str s.name), .d (.int .i64 s.arity), .d (.bool s.ac)] := rfl
@[simp] theorem isCell_symE (s : SymL) : s.enc.isCell = false := rfl
@[simp] theorem agg_symE (n : ByteArray) (a : Int) (b : Bool) : DV.agg [.str n, .int .i64 a, .bool b] = SymL.enc ⟨n, a, b⟩ := rfl
@[simp high] theorem clr_symsE (l : List SymL) : (l.map SymL.enc).map DV.clr = l.map SymL.enc := by simp [List.map_map, Function.comp_def]
def symAt (l : List SymL) (i : Nat) : SymL := (l[i]?).getD ⟨⟨#[]⟩, 0, false⟩
theorem symAt_lt {l : List SymL} {i : Nat} (h : i < l.length) : l[i] = symAt l i := by simp [symAt, h]
theorem symAt_mem {l : List SymL} {i : Nat} (h : i < l.length) : symAt l i ∈ l := by rw [← symAt_lt h]; exact List.getElem_mem h
abbrev sg (l : List SymL) : DV := .sl .sub (l.map SymL.enc)
theorem strEq_self (a : ByteArray) : strEq a a = true := by simp [strEq]
@[simp] theorem evBin_seq (a b : ByteArray) : evBin .eql (.str a) (.str b) = some (.bool (strEq a b)) := rfl
@[simp] theorem evBin_sne (a b : ByteArray) : evBin .neq (.str a) (.str b) = some (.bool !(strEq a b)) := rfl
/-! from, l1In, isSym, Blind, ArityOf -/
def inB (x lo hi : Int) : Bool := decide (lo ≤ x) && decide (x ≤ hi)
theorem from_eq (x lo hi : Int) : callX XV 30 [.d (.int .i64 x), .d (.int .i64 lo), .d (.int .i64 hi)] [] = some (.d (.bool (inB x lo hi)), []) := by
  rw [z_call XV _ _ _ v30 rfl xcode_30 rfl]
  unfold inB
  by_cases h : lo ≤ x
  · have h' : x ≥ lo := h
    simp [v30, r30_0, r30_1, h]
  · have h' : ¬ x ≥ lo := h
    simp [v30, r30_0, r30_1, h]
theorem l1In_eq (x lo hi : Int) : callX XV 31 [.d (.int .i64 x), .d (.int .i64 lo), .d (.int .i64 hi)] [] = some (.d (.bool (inB x lo hi)), []) := by
  rw [z_call XV _ _ _ v31 rfl xcode_31 rfl]
  unfold inB
  by_cases h : lo ≤ x
  · simp [v31, r31_0, r31_1, h]
  · simp [v31, r31_0, r31_1, h]
def symIn (l : List SymL) (f : Int) : Bool := inB f 0 (l.length - 1)
theorem symIn_lt {l : List SymL} {f : Int} (h : symIn l f = true) : 0 ≤ f ∧ f.toNat < l.length := by
  simp [symIn, inB] at h; omega
theorem isSym_eq (l : List SymL) (hl : l.length ≤ 1099511627776) (f : Int) : callX XV 29 [.d (sg l), .d (.int .i64 f)] [] = some (.d (.bool (symIn l f)), []) := by
  rw [z_call XV _ _ _ v29 rfl xcode_29 rfl]
  have hw : IntKind.i64.wrap ((l.length : Int) - 1) = l.length - 1 := wrap_i64 (by omega) (by omega)
  have h := from_eq f 0 (l.length - 1)
  simp [v29, r29_0, r29_1, hw, h, symIn]
def blindB (l : List SymL) (f : Int) : Bool := symIn l f && (symAt l f.toNat).ac
theorem implBlind_eq (l : List SymL) (hl : l.length ≤ 1099511627776) (f : Int) : callX XV 34 [.d (sg l), .d (.int .i64 f)] [] = some (.d (.bool (blindB l f)), []) := by
  rw [z_call XV _ _ _ v34 rfl xcode_34 rfl]
  have h := isSym_eq l hl f
  unfold blindB
  cases hs : symIn l f with
  | false =>
    rw [hs] at h
    simp [v34, r34_0, r34_1, h]
  | true =>
    rw [hs] at h
    obtain ⟨h1, h2⟩ := symIn_lt hs
    simp [v34, r34_0, r34_1, h, h1, h2, symAt_lt h2, cut]
theorem specBlind_eq (l : List SymL) (hl : l.length ≤ 1099511627776) (f : Int) : callX XV 33 [.d (sg l), .d (.int .i64 f)] [] = some (.d (.bool (blindB l f)), []) := by
  rw [z_call XV _ _ _ v33 rfl xcode_33 rfl]
  have hw : IntKind.i64.wrap ((l.length : Int) - 1) = l.length - 1 := wrap_i64 (by omega) (by omega)
  have h := l1In_eq f 0 (l.length - 1)
  unfold blindB symIn
  cases hs : inB f 0 (l.length - 1) with
  | false =>
    rw [hs] at h
    simp [v33, r33_0, r33_1, h, hw]
  | true =>
    rw [hs] at h
    obtain ⟨h1, h2⟩ := symIn_lt (l := l) (f := f) hs
    simp [v33, r33_0, r33_1, h, hw, h1, h2, symAt_lt h2, cut]
end Go.Proofs.Ytidlpcgcolcfgaa.VS
namespace Go.Proofs.Ytidlpcgcolcfgaa.VS
set_option linter.unusedVariables false
set_option linter.unusedSimpArgs false
/-! ## What is drawn from a seed -/
def and255 (x : Int) : Int := IntKind.i64.wrap ((BitVec.ofInt 64 x &&& BitVec.ofInt 64 255).toNat : Int)
def xorI (x y : Int) : Int := IntKind.i64.wrap ((BitVec.ofInt 64 x ^^^ BitVec.ofInt 64 y).toNat : Int)
theorem evInt_and255 (x : Int) : evInt .and .i64 x 255 = some (.int .i64 (and255 x)) := rfl
theorem evInt_xor (x y : Int) : evInt .xor .i64 x y = some (.int .i64 (xorI x y)) := rfl
theorem evInt_shr33 (x : Int) : evInt .shr .i64 x 33 = some (.int .i64 (x.fdiv 8589934592)) := rfl
theorem evInt_shr45 (x : Int) : evInt .shr .i64 x 45 = some (.int .i64 (x.fdiv 35184372088832)) := rfl
theorem and255_in (x : Int) : 0 ≤ and255 x ∧ and255 x ≤ 255 := by
  have h : (BitVec.ofInt 64 x &&& BitVec.ofInt 64 255).toNat ≤ 255 := by
    rw [BitVec.toNat_and]
    exact Nat.le_trans Nat.and_le_right (by decide)
  unfold and255
  generalize (BitVec.ofInt 64 x &&& BitVec.ofInt 64 255).toNat = n at *
  rw [wrap_i64 (by omega) (by omega)]
  omega
def seedC (bs : List Int) (pos st : Int) : List AV := [.d (.sl .sub (bs.map (.int .u8))), .d (.int .i64 pos), .d (.int .i64 st)]
theorem bget_set {B : Boxs} {i : Nat} {c : List AV} (h : i < B.length) : bget (B.set i (some c)) i = some c := by simp [bget, h]
theorem bget_lt {B : Boxs} {i : Nat} {c : List AV} (h : bget B i = some c) : i < B.length := by
  rcases Nat.lt_or_ge i B.length with h1 | h1
  · exact h1
  · simp [bget, List.getElem?_eq_none h1] at h
theorem bget_iff {B : Boxs} {i : Nat} {c : List AV} (h : bget B i = some c) : B[i]? = some (some c) := by
  unfold bget at h
  split at h
  · rename_i c' hc; rw [hc]; simpa using h
  · simp at h
theorem l1Byte_ok (bs : List Int) (hl : bs.length ≤ 1099511627776) (B : Boxs) (i : Nat) (pos st : Int) (hB : bget B i = some (seedC bs pos st)) (hp : 0 ≤ pos ∧ pos ≤ bs.length) :
    ∃ b pos' st' : Int, (0 ≤ b ∧ b ≤ 255) ∧ (0 ≤ pos' ∧ pos' ≤ bs.length) ∧ callX XV 165 [.ptr i 0] B = some (.d (.int .i64 b), B.set i (some (seedC bs pos' st'))) := by
  have hi := bget_lt hB
  have hnl : ¬ B.length ≤ i := by omega
  have htake : ∀ c : Option (List AV), List.take B.length (B.set i c) = B.set i c := fun c => List.take_of_length_le (by simp)
  have hset : ∀ c : Option (List AV), (B.set i c)[i]? = some c := fun c => by simp [hi]
  rw [z_call XV _ _ _ v165 rfl xcode_165 rfl]
  have hB := bget_iff hB
  unfold seedC at hB ⊢
  by_cases c : pos < bs.length
  · have hw : IntKind.i64.wrap (pos + 1) = pos + 1 := wrap_i64 (by omega) (by omega)
    have hlt : pos.toNat < bs.length := by omega
    refine ⟨_, _, _, ?_, ?_, by simp [v165, r165_0, r165_1, d165_2, d165_3, d165_4, r165_5, r165_6, loadBox, hB, hset, splice, evInt_and255, evInt_xor, evInt_shr33, evInt_shr45, evBin_shr, hnl, c, hp, hlt, hw, cut, isCell_int, isCell_sl, isCellA_d, safe_d, xstoreBox, htake]; exact ⟨rfl, rfl⟩⟩
    · exact and255_in _
    · exact ⟨by omega, by omega⟩
  · refine ⟨_, _, _, ?_, ?_, by simp [v165, r165_0, r165_1, d165_2, d165_3, d165_4, r165_5, r165_6, loadBox, hB, hset, splice, evInt_and255, evInt_xor, evInt_shr33, evInt_shr45, evBin_shr, hnl, c, cut, isCell_int, isCell_sl, isCellA_d, safe_d, xstoreBox, htake]; exact ⟨rfl, rfl⟩⟩
    · exact and255_in _
    · exact hp
/-- A seed's box behind a draw: its place and state may have turned. -/
def Turned (bs : List Int) (i : Nat) (B B' : Boxs) : Prop := ∃ pos st : Int, (0 ≤ pos ∧ pos ≤ bs.length) ∧ B' = B.set i (some (seedC bs pos st))
def SeedAt (bs : List Int) (i : Nat) (B : Boxs) : Prop := ∃ pos st : Int, (0 ≤ pos ∧ pos ≤ bs.length) ∧ bget B i = some (seedC bs pos st)
theorem Turned.at {bs : List Int} {i : Nat} {B B' : Boxs} (hi : i < B.length) (h : Turned bs i B B') : SeedAt bs i B' := by
  obtain ⟨pos, st, hp, rfl⟩ := h
  exact ⟨pos, st, hp, bget_set hi⟩
theorem Turned.len {bs : List Int} {i : Nat} {B B' : Boxs} (h : Turned bs i B B') : B'.length = B.length := by
  obtain ⟨pos, st, hp, rfl⟩ := h; simp
theorem Turned.trans {bs : List Int} {i : Nat} {B B' B'' : Boxs} (h : Turned bs i B B') (h' : Turned bs i B' B'') : Turned bs i B B'' := by
  obtain ⟨pos, st, hp, rfl⟩ := h
  obtain ⟨pos', st', hp', rfl⟩ := h'
  exact ⟨pos', st', hp', by simp⟩
theorem SeedAt.lt {bs : List Int} {i : Nat} {B : Boxs} (h : SeedAt bs i B) : i < B.length := by
  obtain ⟨_, _, _, h⟩ := h; exact bget_lt h
theorem l1Byte_at (bs : List Int) (hl : bs.length ≤ 1099511627776) (B : Boxs) (i : Nat) (h : SeedAt bs i B) : ∃ (b : Int) (B' : Boxs), (0 ≤ b ∧ b ≤ 255) ∧ Turned bs i B B' ∧ callX XV 165 [.ptr i 0] B = some (.d (.int .i64 b), B') := by
  obtain ⟨pos, st, hp, hB⟩ := h
  obtain ⟨b, pos', st', h1, h2, h3⟩ := l1Byte_ok bs hl B i pos st hB hp
  exact ⟨b, _, h1, ⟨pos', st', h2, rfl⟩, h3⟩
theorem evInt_rem' (x n : Int) (h : n ≠ 0) : evInt .rem .i64 x n = some (.int .i64 (x.tmod n)) := by simp [evInt, h]
theorem l1Below_at (bs : List Int) (hl : bs.length ≤ 1099511627776) (B : Boxs) (i : Nat) (h : SeedAt bs i B) (n : Int) (hn : 0 < n) (hn2 : n ≤ 256) : ∃ (r : Int) (B' : Boxs), (0 ≤ r ∧ r < n) ∧ Turned bs i B B' ∧ callX XV 159 [.ptr i 0, .d (.int .i64 n)] B = some (.d (.int .i64 r), B') := by
  obtain ⟨b, B', hb, hT, hc⟩ := l1Byte_at bs hl B i h
  have hi := h.lt
  have hlen := hT.len
  have hm : b.tmod n = b % n := Int.tmod_eq_emod_of_nonneg hb.1
  have hr := evInt_rem' b n (by omega)
  have htake : List.take B.length B' = B' := List.take_of_length_le (by omega)
  refine ⟨b % n, B', ⟨Int.emod_nonneg _ (by omega), Int.emod_lt_of_pos _ hn⟩, hT, ?_⟩
  rw [z_call XV _ _ _ v159 rfl xcode_159 rfl]
  have c1 : ¬ n ≤ 0 := by omega
  simp [v159, r159_0, r159_1, r159_2, r159_3, r159_4, r159_5, r159_6, r159_7, r159_8, r159_9, c1, hn2, hc, hr, hm, htake, hi]
theorem l1PickInt_at (bs : List Int) (hl : bs.length ≤ 1099511627776) (B : Boxs) (i : Nat) (h : SeedAt bs i B) (l : List Int) (h0 : 0 < l.length) (h1 : l.length ≤ 256) : ∃ (j : Nat) (hj : j < l.length) (B' : Boxs), Turned bs i B B' ∧ callX XV 160 [.ptr i 0, .d (.sl .sub (l.map (.int .i64)))] B = some (.d (.int .i64 l[j]), B') := by
  obtain ⟨r, B', hr, hT, hc⟩ := l1Below_at bs hl B i h l.length (by omega) (by omega)
  have hi := h.lt
  have hlen := hT.len
  have htake : List.take B.length B' = B' := List.take_of_length_le (by omega)
  refine ⟨r.toNat, by omega, B', hT, ?_⟩
  rw [z_call XV _ _ _ v160 rfl xcode_160 rfl]
  have hlt : r.toNat < l.length := by omega
  simp [v160, r160_0, r160_1, hc, hr, hlt, htake, hi, cut]
theorem l1Pick_at (bs : List Int) (hl : bs.length ≤ 1099511627776) (B : Boxs) (i : Nat) (h : SeedAt bs i B) (l : List ByteArray) (h0 : 0 < l.length) (h1 : l.length ≤ 256) : ∃ (j : Nat) (hj : j < l.length) (B' : Boxs), Turned bs i B B' ∧ callX XV 196 [.ptr i 0, .d (.sl .sub (l.map .str))] B = some (.d (.str l[j]), B') := by
  obtain ⟨r, B', hr, hT, hc⟩ := l1Below_at bs hl B i h l.length (by omega) (by omega)
  have hi := h.lt
  have hlen := hT.len
  have htake : List.take B.length B' = B' := List.take_of_length_le (by omega)
  refine ⟨r.toNat, by omega, B', hT, ?_⟩
  rw [z_call XV _ _ _ v196 rfl xcode_196 rfl]
  have hlt : r.toNat < l.length := by omega
  simp [v196, r196_0, r196_1, hc, hr, hlt, htake, hi, cut]
def andM (x : Int) : Int := IntKind.i64.wrap ((BitVec.ofInt 64 x &&& BitVec.ofInt 64 1073741823).toNat : Int)
theorem evInt_andM (x : Int) : evInt .and .i64 x 1073741823 = some (.int .i64 (andM x)) := rfl
def stepN' (bs : List Int) (s : Int) (i : Nat) : Int ⊕ Unit := .inl (andM (IntKind.i64.wrap (IntKind.i64.wrap (IntKind.i64.wrap (s * 131) + IntKind.i64.wrap ((bs[i]?).getD 0)) + 7)))
theorem runN_inl {β : Type} (f : β → Nat → β) : ∀ (k : Nat) (a : β) (i : Nat), ∃ b, runN (fun a i => (.inl (f a i) : β ⊕ Unit)) k a i = .inl b
  | 0, a, i => ⟨a, rfl⟩
  | k + 1, a, i => by simp only [runN]; exact runN_inl f k _ _
theorem l1New_eq (bs : List Int) (hl : bs.length ≤ 1099511627776) (B : Boxs) : ∃ st : Int, callX XV 156 [.d (.sl .sub (bs.map (.int .u8)))] B = some (.ptr B.length 0, B ++ [some (seedC bs 0 st)]) := by
  have hn : min bs.length 4000 ≤ bs.length := Nat.min_le_left _ _
  have h := loopX_upto (X := XV) (T := XV.lin 156) (L := B.length) (live := [0, 3, 4]) (b := b156_0) (n := min bs.length 4000) (γ := Unit) (st := fun (s : Int) i => ⟨[(0, .d (.sl .sub (bs.map (.int .u8)))), (3, .d (.int .i64 s)), (4, .d (.int .i64 i))], B⟩) (step := stepN' bs)
    (F := fun s => (.exit 0, ⟨[(0, .d (.sl .sub (bs.map (.int .u8)))), (3, .d (.int .i64 s)), (4, .d (.int .i64 (min bs.length 4000 : Nat))), (15, .d (.bool false))], B⟩)) (R := fun _ => (.ret, ⟨[], B⟩))
    (fun s => ⟨by simp, by
      by_cases c : bs.length ≤ 4000
      · rw [Nat.min_eq_left c]; simp [b156_0, r156_0, r156_1, r156_2, r156_3, r156_5, r156_4, r156_6]
      · have c1 : (4000 : Int) < bs.length := by omega
        rw [Nat.min_eq_right (by omega)]; simp [b156_0, r156_0, r156_1, r156_2, r156_3, r156_5, r156_4, r156_6, c1, show ¬ bs.length ≤ 4000 from c]⟩)
    (fun s i hi => by
      have hw := wrap_succ (n := i) (by omega)
      have h1 : i < bs.length := by omega
      have h2 : (i : Int) < 4000 := by omega
      refine ⟨_, by simp [b156_0, r156_0, r156_1, r156_2, r156_3, r156_5, r156_4, r156_6, h1, h2, hw, cut, evInt_andM]; rfl, by simp [xheadOf, safeRegs, h1]⟩)
    (min bs.length 4000) (IntKind.i64.wrap (27064 + bs.length)) 0 ⟨[(0, .d (.sl .sub (bs.map (.int .u8)))), (3, .d (.int .i64 (IntKind.i64.wrap (27064 + bs.length)))), (4, .d (.int .i64 0))], B⟩ (by omega) (by simp [xheadOf, safeRegs])
  obtain ⟨st, hst⟩ := runN_inl (fun (s : Int) (i : Nat) => andM (IntKind.i64.wrap (IntKind.i64.wrap (IntKind.i64.wrap (s * 131) + IntKind.i64.wrap ((bs[i]?).getD 0)) + 7))) (min bs.length 4000) (IntKind.i64.wrap (27064 + bs.length)) 0
  rw [show stepN' bs = fun s i => (.inl (andM (IntKind.i64.wrap (IntKind.i64.wrap (IntKind.i64.wrap (s * 131) + IntKind.i64.wrap ((bs[i]?).getD 0)) + 7))) : Int ⊕ Unit) from rfl, hst] at h
  refine ⟨st, ?_⟩
  rw [z_call XV _ _ _ v156 rfl xcode_156 rfl]
  simp [v156, r156_0, r156_1, r156_2]
  simp only [lin_156] at h
  rw [h]
  simp [r156_6, seedC, isCell_int, isCell_sl, isCellA_d, safe_d, splice, loadBox]
end Go.Proofs.Ytidlpcgcolcfgaa.VS
namespace Go.Proofs.Ytidlpcgcolcfgaa.VS
set_option linter.unusedVariables false
set_option linter.unusedSimpArgs false
end Go.Proofs.Ytidlpcgcolcfgaa.VS
namespace Go.Proofs.Ytidlpcgcolcfgaa.VS
set_option linter.unusedVariables false
set_option linter.unusedSimpArgs false
/-! Parts -/
end Go.Proofs.Ytidlpcgcolcfgaa.VS
namespace Go.Proofs.Ytidlpcgcolcfgaa.VS
set_option linter.unusedVariables false
set_option linter.unusedSimpArgs false
end Go.Proofs.Ytidlpcgcolcfgaa.VS
namespace Go.Proofs.Ytidlpcgcolcfgaa.VS
set_option linter.unusedVariables false
set_option linter.unusedSimpArgs false
/-! ## Rows of whole numbers -/
abbrev is (l : List Int) : DV := .sl .sub (l.map (.int .i64))
@[simp high] theorem clr_intsE (l : List Int) : (l.map (DV.int .i64)).map DV.clr = l.map (DV.int .i64) := by simp [List.map_map, Function.comp_def]
end Go.Proofs.Ytidlpcgcolcfgaa.VS
namespace Go.Proofs.Ytidlpcgcolcfgaa.VS
set_option linter.unusedVariables false
set_option linter.unusedSimpArgs false
def smallB (c : Int) : Bool := decide (97 ≤ c) && decide (c ≤ 122)
def digitB (c : Int) : Bool := decide (48 ≤ c) && decide (c ≤ 57)
theorem isSmall_eq (c : Int) : callX XV 61 [.d (.int .u8 c)] [] = some (.d (.bool (smallB c)), []) := by
  rw [z_call XV _ _ _ v61 rfl xcode_61 rfl]
  cases h1 : decide (97 ≤ c) <;> simp [v61, r61_0, r61_1, h1, smallB]
theorem isDigit_eq (c : Int) : callX XV 62 [.d (.int .u8 c)] [] = some (.d (.bool (digitB c)), []) := by
  rw [z_call XV _ _ _ v62 rfl xcode_62 rfl]
  cases h1 : decide (48 ≤ c) <;> simp [v62, r62_0, r62_1, h1, digitB]
def okX1 (x : Int) (i : Nat) : Prop := (97 ≤ x ∧ x ≤ 122) ∨ (0 < i ∧ 48 ≤ x ∧ x ≤ 57)
instance (x : Int) (i : Nat) : Decidable (okX1 x i) := by unfold okX1; exact inferInstance

theorem body59 (s : ByteArray) (hs : s.size ≤ 1099511627776) (i : Nat) (hlt : i < s.size) (x : Int) (hb : byteAt s i = some x) :
    codeX XV [] b59_0 ⟨[(0, .d (.str s)), (3, .d (.int .i64 i))], []⟩ = some (if okX1 x i then (.normal, ⟨[(0, .d (.str s)), (3, .d (.int .i64 (i + 1 : Nat)))], []⟩) else (.ret, ⟨[(2, .d (.bool false))], []⟩)) := by
  have hw := wrap_succ (n := i) (by omega)
  simp [b59_0, r59_2, r59_4, r59_5, r59_3, hb, hlt, hw]
  cases h1 : decide (97 ≤ x)
  case true =>
    simp [hb]
    cases h2 : decide (x ≤ 122)
    case true =>
      simp [hb, hw]
      have : okX1 x i := by simp at h1 h2; exact .inl ⟨h1, h2⟩
      simp [this]
    case false =>
      simp [hb, hw]
      cases h3 : decide (0 < i) <;> simp [hb, hw]
      case true =>
        have h4 : (48 ≤ x) := by simp at h1; omega
        simp [h4, hb]
        have h5 : ¬ (x ≤ 57) := by simp at h1; omega
        have : ¬ okX1 x i := by simp at h1 h2; unfold okX1; omega
        simp [h5, this]
      case false =>
        have : ¬ okX1 x i := by simp at h1 h2 h3; unfold okX1; omega
        simp [this]
  case false =>
    simp [hb]
    cases h3 : decide (0 < i)
    case true =>
      simp [hb, hw]
      cases h4 : decide (48 ≤ x)
      case true =>
        simp [hb, hw]
        cases h5 : decide (x ≤ 57)
        case true =>
          have : okX1 x i := by simp at h1 h3 h4 h5; unfold okX1; omega
          simp [hw, this]
        case false =>
          have : ¬ okX1 x i := by simp at h1 h3 h4 h5; unfold okX1; omega
          simp [hw, this]
      case false =>
        have : ¬ okX1 x i := by simp at h1 h3 h4; unfold okX1; omega
        simp [hb, hw, this]
    case false =>
      have : ¬ okX1 x i := by simp at h1 h3; unfold okX1; omega
      simp [hb, hw, this]

def okAt (s : ByteArray) (i : Nat) : Bool := decide (okX1 (chr s i) i)
def allAt (s : ByteArray) (f : ByteArray → Nat → Bool) (i k : Nat) : Bool := (List.range' i k).all (f s)
theorem allAt_zero (s : ByteArray) (f : ByteArray → Nat → Bool) (i : Nat) : allAt s f i 0 = true := rfl
theorem allAt_succ (s : ByteArray) (f : ByteArray → Nat → Bool) (i k : Nat) : allAt s f i (k + 1) = (f s i && allAt s f (i + 1) k) := by simp [allAt, List.range'_succ]
theorem allAt_iff (s : ByteArray) (f : ByteArray → Nat → Bool) (i k : Nat) : allAt s f i k = true ↔ ∀ j, i ≤ j → j < i + k → f s j = true := by
  simp only [allAt, List.all_eq_true, List.mem_range'_1]
  exact ⟨fun h j h1 h2 => h j ⟨h1, h2⟩, fun h j h1 => h j h1.1 h1.2⟩

theorem loop59 (s : ByteArray) (hs : s.size ≤ 1099511627776) : ∀ (k i : Nat), i + k = s.size →
    loopX XV [] 0 [0, 3] b59_0 ⟨[(0, .d (.str s)), (3, .d (.int .i64 i))], []⟩ =
      some (if allAt s okAt i k then (.exit 0, ⟨[(0, .d (.str s)), (3, .d (.int .i64 s.size)), (7, .d (.bool false))], []⟩) else (.ret, ⟨[(2, .d (.bool false))], []⟩))
  | 0, i, hk => by
    have : i = s.size := by omega
    subst this
    rw [loopX_eq]
    simp [xheadOf, safeRegs, b59_0, r59_2, allAt_zero]
  | k + 1, i, hk => by
    have hlt : i < s.size := by omega
    have ih := loop59 s hs k (i + 1) (by omega)
    rw [loopX_eq, allAt_succ]
    by_cases h : okX1 (chr s i) i
    · have h2 : okAt s i = true := by simp [okAt, h]
      rw [h2, Bool.true_and, ← ih]
      simp [xheadOf, safeRegs, body59 s hs i hlt _ (byteAt_lt hlt), h]
    · have h2 : okAt s i = false := by simp [okAt, h]
      simp [xheadOf, safeRegs, body59 s hs i hlt _ (byteAt_lt hlt), h, h2]

def nameOk (s : ByteArray) : Bool := allAt s okAt 0 s.size && inB s.size 1 8

theorem specNameOk_eq (s : ByteArray) (hs : s.size ≤ 1099511627776) : callX XV 59 [.d (.str s)] [] = some (.d (.bool (nameOk s)), []) := by
  rw [z_call XV _ _ _ v59 rfl xcode_59 rfl]
  have h := loop59 s hs s.size 0 (by omega)
  simp [v59, r59_0, r59_1, r59_6]
  simp at h
  rw [h]
  cases h1 : allAt s okAt 0 s.size
  · simp [nameOk, h1]
  · simp [nameOk, h1, l1In_eq]

def okAt2 (s : ByteArray) (i : Nat) : Bool := smallB (chr s i) || digitB (chr s i)

theorem body60 (s : ByteArray) (hs : s.size ≤ 1099511627776) (i : Nat) (hlt : i < s.size) :
    codeX XV [] b60_0 ⟨[(0, .d (.str s)), (5, .d (.int .i64 s.size)), (6, .d (.int .i64 i))], []⟩ = some (if okAt2 s i then (.normal, ⟨[(0, .d (.str s)), (5, .d (.int .i64 s.size)), (6, .d (.int .i64 (i + 1 : Nat)))], []⟩) else (.ret, ⟨[(2, .d (.bool false))], []⟩)) := by
  have hw := wrap_succ (n := i) (by omega)
  have hb := byteAt_lt hlt
  simp [b60_0, r60_2, r60_3, r60_4, r60_5, r60_6, hb, hlt, hw, isSmall_eq, isDigit_eq]
  cases h1 : smallB (chr s i)
  · simp [hb, isDigit_eq]
    cases h2 : digitB (chr s i) <;> simp [hw, okAt2, h1, h2]
  · simp [hw, okAt2, h1]

theorem loop60 (s : ByteArray) (hs : s.size ≤ 1099511627776) : ∀ (k i : Nat), i + k = s.size →
    loopX XV [] 0 [0, 5, 6] b60_0 ⟨[(0, .d (.str s)), (5, .d (.int .i64 s.size)), (6, .d (.int .i64 i))], []⟩ =
      some (if allAt s okAt2 i k then (.exit 0, ⟨[(0, .d (.str s)), (5, .d (.int .i64 s.size)), (6, .d (.int .i64 s.size)), (7, .d (.bool false))], []⟩) else (.ret, ⟨[(2, .d (.bool false))], []⟩))
  | 0, i, hk => by
    have : i = s.size := by omega
    subst this
    rw [loopX_eq]
    simp [xheadOf, safeRegs, b60_0, r60_2, allAt_zero]
  | k + 1, i, hk => by
    have hlt : i < s.size := by omega
    have ih := loop60 s hs k (i + 1) (by omega)
    rw [loopX_eq, allAt_succ]
    cases h : okAt2 s i
    · simp [xheadOf, safeRegs, body60 s hs i hlt, h]
    · rw [Bool.true_and, ← ih]
      simp [xheadOf, safeRegs, body60 s hs i hlt, h]

def nameOk2 (s : ByteArray) : Bool := allAt s okAt2 0 s.size && (inB s.size 1 8 && smallB (chr s 0))

theorem implNameOk_eq (s : ByteArray) (hs : s.size ≤ 1099511627776) : callX XV 60 [.d (.str s)] [] = some (.d (.bool (nameOk2 s)), []) := by
  rw [z_call XV _ _ _ v60 rfl xcode_60 rfl]
  have h := loop60 s hs s.size 0 (by omega)
  simp [v60, r60_0, r60_1, r60_7]
  simp at h
  rw [h]
  cases h1 : allAt s okAt2 0 s.size
  · simp [nameOk2, h1]
  · simp [nameOk2, h1, from_eq]
    cases h2 : inB s.size 1 8
    · simp [h2]
    · have h3 : 0 < s.size := by simp [inB] at h2; omega
      simp [h2, byteAt_lt h3, isSmall_eq]

theorem okAt_iff (s : ByteArray) (i : Nat) : okAt s i = true ↔ (97 ≤ chr s i ∧ chr s i ≤ 122) ∨ (0 < i ∧ 48 ≤ chr s i ∧ chr s i ≤ 57) := by
  unfold okAt; rw [decide_eq_true_eq]; rfl
theorem okAt2_iff (s : ByteArray) (i : Nat) : okAt2 s i = true ↔ (97 ≤ chr s i ∧ chr s i ≤ 122) ∨ (48 ≤ chr s i ∧ chr s i ≤ 57) := by
  simp [okAt2, smallB, digitB]
theorem smallB_iff (x : Int) : smallB x = true ↔ 97 ≤ x ∧ x ≤ 122 := by simp [smallB]
theorem nameOk_same (s : ByteArray) : nameOk2 s = nameOk s := by
  rw [Bool.eq_iff_iff]
  simp only [nameOk, nameOk2, Bool.and_eq_true, allAt_iff, okAt_iff, okAt2_iff, smallB_iff]
  constructor
  · rintro ⟨h1, h2, h3⟩
    refine ⟨fun j hj hj2 => ?_, h2⟩
    have h4 := h1 j hj hj2
    rcases Nat.eq_zero_or_pos j with rfl | hp
    · exact .inl h3
    · omega
  · rintro ⟨h1, h2⟩
    have h0 : 0 < s.size := by simp [inB] at h2; omega
    have h5 := h1 0 (Nat.le_refl _) (by omega)
    refine ⟨fun j hj hj2 => ?_, h2, ?_⟩
    · have h4 := h1 j hj hj2
      omega
    · omega

end Go.Proofs.Ytidlpcgcolcfgaa.VS
namespace Go.Proofs.Ytidlpcgcolcfgaa.VS
set_option linter.unusedVariables false
set_option linter.unusedSimpArgs false
/-- The first place from i on where it holds, in k places. -/
def findAt (q : Nat → Bool) : Nat → Nat → Option Nat
  | 0, _ => none
  | k + 1, i => if q i then some i else findAt q k (i + 1)
def stepF (q : Nat → Bool) (_ : Unit) (i : Nat) : Unit ⊕ Nat := if q i then .inr i else .inl ()
theorem runF (q : Nat → Bool) : ∀ (k i : Nat), runN (stepF q) k () i = match findAt q k i with | some j => .inr j | none => .inl ()
  | 0, i => rfl
  | k + 1, i => by
    simp only [runN, stepF, findAt]
    cases h : q i
    · simp [runF q k (i + 1)]
    · simp
def orNeg : Option Nat → Int
  | some j => j
  | none => -1
def symOfB (l : List SymL) (name : ByteArray) : Int := orNeg (findAt (fun i => strEq (symAt l i).name name) l.length 0)
theorem specSymOf_eq (l : List SymL) (name : ByteArray) (hl : l.length ≤ 1099511627776) : callX XV 13 [.d (sg l), .d (.str name)] [] = some (.d (.int .i64 (symOfB l name)), []) := by
  rw [z_call XV _ _ _ v13 rfl xcode_13 rfl]
  have h := loopX_upto (X := XV) (T := []) (L := 0) (live := [0, 1, 5]) (b := b13_0) (n := l.length) (st := fun (_ : Unit) i => ⟨[(0, .d (sg l)), (1, .d (.str name)), (5, .d (.int .i64 i))], []⟩) (step := stepF fun i => strEq (symAt l i).name name)
    (F := fun _ => (.exit 0, ⟨[(0, .d (sg l)), (1, .d (.str name)), (5, .d (.int .i64 l.length)), (9, .d (.bool false))], []⟩)) (R := fun (j : Nat) => (.ret, ⟨[(4, .d (.int .i64 j))], []⟩))
    (fun a => ⟨by simp, by simp [b13_0, r13_0, r13_1, r13_2, r13_4, r13_5, r13_3, r13_6]⟩)
    (fun a i hi => by
      have hw := wrap_succ (n := i) (by omega)
      unfold stepF
      by_cases hq : strEq (symAt l i).name name = true
      · rw [if_pos hq]; exact ⟨by simp, by simp [b13_0, r13_0, r13_1, r13_2, r13_4, r13_5, r13_3, r13_6, hi, hw, cut, symAt_lt hi, hq]⟩
      · rw [if_neg hq]
        have hq' : strEq (symAt l i).name name = false := by simpa using hq
        exact ⟨_, by simp [b13_0, r13_0, r13_1, r13_2, r13_4, r13_5, r13_3, r13_6, hi, hw, cut, symAt_lt hi, hq']; rfl, by simp [xheadOf, safeRegs]⟩)
    l.length () 0 ⟨[(0, .d (sg l)), (1, .d (.str name)), (5, .d (.int .i64 0))], []⟩ (by omega) (by simp [xheadOf, safeRegs])
  rw [runF] at h
  simp [v13, r13_0, r13_1, r13_2, r13_4, r13_5, r13_3, r13_6]
  rw [h]
  unfold symOfB
  cases hq : findAt (fun i => strEq (symAt l i).name name) l.length 0 <;> simp [orNeg, v13, r13_0, r13_1, r13_2, r13_4, r13_5, r13_3, r13_6]
theorem indexFuncS_eq (l : List SymL) (fk : Nat) (caps : List AV) (B : Boxs) (P : SymL → Bool) (hl : l.length ≤ 1099511627776) (hs : AV.safe.safes B.length caps = true) (hcc : caps.map AV.clr = caps) (hk : ¬ 0 ∈ XV.lin fk)
    (hf : ∀ s, s ∈ l → callX XV fk (.d s.enc :: caps) B = some (.d (.bool (P s)), B)) :
    callX XV 19 [.d (sg l), .fn fk caps] B = some (.d (.int .i64 (orNeg (findAt (fun i => P (symAt l i)) l.length 0))), B) := by
  rw [z_call XV _ _ _ v19 rfl xcode_19 rfl]
  have h := loopX_upto (X := XV) (T := XV.lin 19) (L := B.length) (live := [0, 1, 7, 8]) (b := b19_0) (n := l.length) (st := fun (_ : Unit) i => ⟨[(0, .d (sg l)), (1, .fn fk caps), (7, .d (.int .i64 l.length)), (8, .d (.int .i64 i))], B⟩) (step := stepF fun i => P (symAt l i))
    (F := fun _ => (.exit 0, ⟨[(0, .d (sg l)), (1, .fn fk caps), (7, .d (.int .i64 l.length)), (8, .d (.int .i64 l.length)), (9, .d (.bool false))], B⟩)) (R := fun (j : Nat) => (.ret, ⟨[(4, .d (.int .i64 j))], B⟩))
    (fun a => ⟨by simp, by simp [b19_0, r19_0, r19_1, r19_2, r19_3, r19_4, r19_5, r19_6, r19_7, hcc]⟩)
    (fun a i hi => by
      have hw := wrap_succ (n := i) (by omega)
      have hc := hf _ (symAt_mem hi)
      unfold stepF
      by_cases hq : P (symAt l i) = true
      · rw [if_pos hq]; rw [hq] at hc
        exact ⟨by simp, by simp [b19_0, r19_0, r19_1, r19_2, r19_3, r19_4, r19_5, r19_6, r19_7, hi, hw, cut, symAt_lt hi, hc, hcc, hk]⟩
      · rw [if_neg hq]
        have hq' : P (symAt l i) = false := by simpa using hq
        rw [hq'] at hc
        exact ⟨_, by simp [b19_0, r19_0, r19_1, r19_2, r19_3, r19_4, r19_5, r19_6, r19_7, hi, hw, cut, symAt_lt hi, hc, hcc, hk]; rfl, by simp [xheadOf, safeRegs, hs]⟩)
    l.length () 0 ⟨[(0, .d (sg l)), (1, .fn fk caps), (7, .d (.int .i64 l.length)), (8, .d (.int .i64 0))], B⟩ (by omega) (by simp [xheadOf, safeRegs, hs])
  rw [runF] at h
  simp only [lin_19] at h
  simp [v19, r19_0, r19_1, r19_2, r19_3, r19_4, r19_5, r19_6, r19_7, hcc]
  rw [h]
  cases hq : findAt (fun i => P (symAt l i)) l.length 0 <;> simp [orNeg, v19, r19_0, r19_1, r19_2, r19_3, r19_4, r19_5, r19_6, r19_7]
theorem symOf1_eq (s : SymL) (name : ByteArray) : callX XV 18 [.d s.enc, .ptr 0 0] [some [.d (.str name)]] = some (.d (.bool (strEq s.name name)), [some [.d (.str name)]]) := by
  rw [z_call XV _ _ _ v18 rfl xcode_18 rfl]
  simp [v18, r18_0, r18_1]
theorem implSymOf_eq (l : List SymL) (name : ByteArray) (hl : l.length ≤ 1099511627776) : callX XV 14 [.d (sg l), .d (.str name)] [] = some (.d (.int .i64 (symOfB l name)), []) := by
  rw [z_call XV _ _ _ v14 rfl xcode_14 rfl]
  have hc := indexFuncS_eq l 18 [.ptr 0 0] [some [.d (.str name)]] (fun s => strEq s.name name) hl (by simp) (by simp) (by simp) (fun s _ => symOf1_eq s name)
  simp [v14, r14_0, r14_1, hc, symOfB]
/-! SigOk -/
def badSym (l : List SymL) (s : SymL) (i : Nat) : Bool := !nameOk s.name || !(decide (symOfB l s.name = i)) || !(inB s.arity 0 3) || (s.ac && !decide (s.arity = 2))
def ttB (s : SymL) : Bool := strEq s.name ⟨#[116, 116]⟩ && decide (s.arity = 0)
def sigOkB (l : List SymL) : Bool := (findAt (fun i => badSym l (symAt l i) i) l.length 0).isNone && (inB l.length 1 8 && ttB (symAt l 0))
theorem badSym_false (l : List SymL) (s : SymL) (i : Nat) : badSym l s i = false ↔ nameOk s.name = true ∧ symOfB l s.name = i ∧ inB s.arity 0 3 = true ∧ (s.ac = true → s.arity = 2) := by
  simp [badSym, and_assoc]
theorem body77 (l : List SymL) (hl : l.length ≤ 1099511627776) (i : Nat) (hi : i < l.length) (hn : (symAt l i).name.size ≤ 1099511627776) :
    xGoes 0 [0, 5, 6, 7] (fun (_ : Unit) i => ⟨[(0, .d (sg l)), (5, .d (sg l)), (6, .d (.int .i64 l.length)), (7, .d (.int .i64 i))], []⟩) (fun (_ : Nat) => (.ret, ⟨[(2, .d (.bool false))], [some [.d (.str (symAt l i).name), .d (.int .i64 (symAt l i).arity), .d (.bool (symAt l i).ac)]]⟩)) i
      (codeX XV (XV.lin 77) b77_0 ⟨[(0, .d (sg l)), (5, .d (sg l)), (6, .d (.int .i64 l.length)), (7, .d (.int .i64 i))], []⟩) (stepF (fun i => badSym l (symAt l i) i) () i) := by
  have hw := wrap_succ (n := i) (by omega)
  have n1 := implNameOk_eq (symAt l i).name hn
  rw [nameOk_same] at n1
  have n2 := implSymOf_eq l (symAt l i).name hl
  have n3 := from_eq (symAt l i).arity 0 3
  unfold stepF
  by_cases hb : badSym l (symAt l i) i = true
  · rw [if_pos hb]
    refine ⟨by simp, ?_⟩
    cases c1 : nameOk (symAt l i).name with
    | false => rw [c1] at n1; simp [b77_0, r77_0, r77_1, r77_2, r77_3, r77_4, r77_5, r77_6, r77_7, hi, hw, cut, symAt_lt hi, n1, splice]
    | true =>
      rw [c1] at n1
      by_cases c2 : symOfB l (symAt l i).name = i
      · have b2 : (symOfB l (symAt l i).name != i) = false := by simp [c2]
        cases c3 : inB (symAt l i).arity 0 3 with
        | false => rw [c3] at n3; simp [b77_0, r77_0, r77_1, r77_2, r77_3, r77_4, r77_5, r77_6, r77_7, hi, hw, cut, symAt_lt hi, n1, n2, b2, n3, splice]
        | true =>
          rw [c3] at n3
          have c4 : (symAt l i).ac = true ∧ ¬ (symAt l i).arity = 2 := by
            have : ¬ badSym l (symAt l i) i = false := by simp [hb]
            rw [badSym_false] at this
            simp only [c1, c2, c3, true_and] at this
            exact Classical.not_imp.1 this
          have b4 : ((symAt l i).arity != 2) = true := by simp [c4.2]
          simp [b77_0, r77_0, r77_1, r77_2, r77_3, r77_4, r77_5, r77_6, r77_7, hi, hw, cut, symAt_lt hi, n1, n2, b2, n3, splice, c4.1, b4]
      · have b2 : (symOfB l (symAt l i).name != i) = true := by simp [c2]
        simp [b77_0, r77_0, r77_1, r77_2, r77_3, r77_4, r77_5, r77_6, r77_7, hi, hw, cut, symAt_lt hi, n1, n2, b2, splice]
  · have hb' : badSym l (symAt l i) i = false := by simpa using hb
    rw [if_neg hb]
    obtain ⟨c1, c2, c3, c4⟩ := (badSym_false l _ i).1 hb'
    have b2 : (symOfB l (symAt l i).name != i) = false := by simp [c2]
    rw [c1] at n1; rw [c3] at n3
    cases c5 : (symAt l i).ac with
    | false => exact ⟨_, by simp [b77_0, r77_0, r77_1, r77_2, r77_3, r77_4, r77_5, r77_6, r77_7, hi, hw, cut, symAt_lt hi, n1, n2, b2, n3, splice, c5]; rfl, by simp [xheadOf, safeRegs]⟩
    | true =>
      have b4 : ((symAt l i).arity != 2) = false := by simp [c4 c5]
      exact ⟨_, by simp [b77_0, r77_0, r77_1, r77_2, r77_3, r77_4, r77_5, r77_6, r77_7, hi, hw, cut, symAt_lt hi, n1, n2, b2, n3, splice, c5, b4]; rfl, by simp [xheadOf, safeRegs]⟩
theorem implSigOk_eq (l : List SymL) (hl : l.length ≤ 1099511627776) (hn : ∀ i, i < l.length → (symAt l i).name.size ≤ 1099511627776) : callX XV 77 [.d (sg l)] [] = some (.d (.bool (sigOkB l)), []) := by
  rw [z_call XV _ _ _ v77 rfl xcode_77 rfl]
  have h := loopX_upto (X := XV) (T := XV.lin 77) (L := 0) (live := [0, 5, 6, 7]) (b := b77_0) (n := l.length) (γ := Nat) (st := fun (_ : Unit) i => ⟨[(0, .d (sg l)), (5, .d (sg l)), (6, .d (.int .i64 l.length)), (7, .d (.int .i64 i))], []⟩) (step := stepF fun i => badSym l (symAt l i) i)
    (F := fun _ => (.exit 0, ⟨[(0, .d (sg l)), (5, .d (sg l)), (6, .d (.int .i64 l.length)), (7, .d (.int .i64 l.length)), (8, .d (.bool false))], []⟩)) (R := fun j => (.ret, ⟨[(2, .d (.bool false))], [some [.d (.str (symAt l j).name), .d (.int .i64 (symAt l j).arity), .d (.bool (symAt l j).ac)]]⟩))
    (fun a => ⟨by simp, by simp [b77_0, r77_0, r77_1, r77_2, r77_3, r77_4, r77_5, r77_6, r77_7]⟩)
    (fun a i hi => by
      have hb := body77 l hl i hi (hn i hi)
      unfold stepF at hb ⊢
      split at hb
      · rename_i h1; rw [if_pos h1]; exact hb
      · rename_i h1; rw [if_neg h1]; exact hb)
    l.length () 0 ⟨[(0, .d (sg l)), (5, .d (sg l)), (6, .d (.int .i64 l.length)), (7, .d (.int .i64 0))], []⟩ (by omega) (by simp [xheadOf, safeRegs])
  rw [runF] at h
  simp only [lin_77] at h
  simp [v77, r77_0, r77_1, r77_2, r77_3, r77_4, r77_5, r77_6, r77_7]
  rw [h]
  unfold sigOkB
  cases hq : findAt (fun i => badSym l (symAt l i) i) l.length 0 with
  | some j => simp
  | none =>
    have n3 := from_eq l.length 1 8
    cases c1 : inB l.length 1 8 with
    | false => rw [c1] at n3; simp [v77, r77_0, r77_1, r77_2, r77_3, r77_4, r77_5, r77_6, r77_7, n3]
    | true =>
      rw [c1] at n3
      have h0 : 0 < l.length := by simp [inB] at c1; omega
      unfold ttB
      cases c2 : strEq (symAt l 0).name ⟨#[116, 116]⟩ with
      | false => simp [v77, r77_0, r77_1, r77_2, r77_3, r77_4, r77_5, r77_6, r77_7, n3, h0, symAt_lt h0, cut, c2]
      | true =>
        by_cases c3 : (symAt l 0).arity = 0
        · simp [v77, r77_0, r77_1, r77_2, r77_3, r77_4, r77_5, r77_6, r77_7, n3, h0, symAt_lt h0, cut, c2, c3]
        · have b3 : ((symAt l 0).arity == 0) = false := by simp [c3]
          simp [v77, r77_0, r77_1, r77_2, r77_3, r77_4, r77_5, r77_6, r77_7, n3, h0, symAt_lt h0, cut, c2, c3, b3]
theorem specSigOk_eq (l : List SymL) (hl : l.length ≤ 1099511627776) (hn : ∀ i, i < l.length → (symAt l i).name.size ≤ 1099511627776) : callX XV 82 [.d (sg l)] [] = some (.d (.bool (sigOkB l)), []) := by
  rw [z_call XV _ _ _ v82 rfl xcode_82 rfl]
  have h := loopX_upto (X := XV) (T := XV.lin 82) (L := 0) (live := [0, 3]) (b := b82_0) (n := l.length) (γ := Nat) (st := fun (_ : Unit) i => ⟨[(0, .d (sg l)), (3, .d (.int .i64 i))], []⟩) (step := stepF fun i => badSym l (symAt l i) i)
    (F := fun _ => (.exit 0, ⟨[(0, .d (sg l)), (3, .d (.int .i64 l.length)), (7, .d (.bool false))], []⟩)) (R := fun j => (.ret, ⟨[(2, .d (.bool false))], []⟩))
    (fun a => ⟨by simp, by simp [b82_0, r82_0, r82_1, r82_2, r82_4, r82_5, r82_3, r82_6]⟩)
    (fun a i hi => by
      have hw := wrap_succ (n := i) (by omega)
      have n1 := specNameOk_eq (symAt l i).name (hn i hi)
      have n2 := specSymOf_eq l (symAt l i).name hl
      have n3 := l1In_eq (symAt l i).arity 0 3
      unfold stepF
      by_cases hb : badSym l (symAt l i) i = true
      · rw [if_pos hb]
        refine ⟨by simp, ?_⟩
        cases c1 : nameOk (symAt l i).name with
        | false => rw [c1] at n1; simp [b82_0, r82_0, r82_1, r82_2, r82_4, r82_5, r82_3, r82_6, hi, hw, cut, symAt_lt hi, n1, splice]
        | true =>
          rw [c1] at n1
          by_cases c2 : symOfB l (symAt l i).name = i
          · have b2 : (symOfB l (symAt l i).name != i) = false := by simp [c2]
            cases c3 : inB (symAt l i).arity 0 3 with
            | false => rw [c3] at n3; simp [b82_0, r82_0, r82_1, r82_2, r82_4, r82_5, r82_3, r82_6, hi, hw, cut, symAt_lt hi, n1, n2, b2, n3, splice]
            | true =>
              rw [c3] at n3
              have c4 : (symAt l i).ac = true ∧ ¬ (symAt l i).arity = 2 := by
                have : ¬ badSym l (symAt l i) i = false := by simp [hb]
                rw [badSym_false] at this
                simp only [c1, c2, c3, true_and] at this
                exact Classical.not_imp.1 this
              have b4 : ((symAt l i).arity != 2) = true := by simp [c4.2]
              simp [b82_0, r82_0, r82_1, r82_2, r82_4, r82_5, r82_3, r82_6, hi, hw, cut, symAt_lt hi, n1, n2, b2, n3, splice, c4.1, b4]
          · have b2 : (symOfB l (symAt l i).name != i) = true := by simp [c2]
            simp [b82_0, r82_0, r82_1, r82_2, r82_4, r82_5, r82_3, r82_6, hi, hw, cut, symAt_lt hi, n1, n2, b2, splice]
      · have hb' : badSym l (symAt l i) i = false := by simpa using hb
        rw [if_neg hb]
        obtain ⟨c1, c2, c3, c4⟩ := (badSym_false l _ i).1 hb'
        have b2 : (symOfB l (symAt l i).name != i) = false := by simp [c2]
        rw [c1] at n1; rw [c3] at n3
        cases c5 : (symAt l i).ac with
        | false => exact ⟨_, by simp [b82_0, r82_0, r82_1, r82_2, r82_4, r82_5, r82_3, r82_6, hi, hw, cut, symAt_lt hi, n1, n2, b2, n3, splice, c5]; rfl, by simp [xheadOf, safeRegs]⟩
        | true =>
          have b4 : ((symAt l i).arity != 2) = false := by simp [c4 c5]
          exact ⟨_, by simp [b82_0, r82_0, r82_1, r82_2, r82_4, r82_5, r82_3, r82_6, hi, hw, cut, symAt_lt hi, n1, n2, b2, n3, splice, c5, b4]; rfl, by simp [xheadOf, safeRegs]⟩)
    l.length () 0 ⟨[(0, .d (sg l)), (3, .d (.int .i64 0))], []⟩ (by omega) (by simp [xheadOf, safeRegs])
  rw [runF] at h
  simp only [lin_82] at h
  simp [v82, r82_0, r82_1, r82_2, r82_4, r82_5, r82_3, r82_6]
  rw [h]
  unfold sigOkB
  cases hq : findAt (fun i => badSym l (symAt l i) i) l.length 0 with
  | some j => simp
  | none =>
    have n3 := l1In_eq l.length 1 8
    cases c1 : inB l.length 1 8 with
    | false => rw [c1] at n3; simp [v82, r82_0, r82_1, r82_2, r82_4, r82_5, r82_3, r82_6, n3]
    | true =>
      rw [c1] at n3
      have h0 : 0 < l.length := by simp [inB] at c1; omega
      have hnone : ∀ (q : Nat → Bool) (k i j : Nat), findAt q k i = none → i ≤ j → j < i + k → q j = false := by
        intro q k
        induction k with
        | zero => intro i j _ h1 h2; omega
        | succ k ih =>
          intro i j hf h1 h2
          simp only [findAt] at hf
          split at hf
          · simp at hf
          · rcases Nat.eq_or_lt_of_le h1 with rfl | h1
            · simpa using ‹¬ q i = true›
            · exact ih (i + 1) j hf h1 (by omega)
      have hb0 := hnone _ _ _ 0 hq (Nat.le_refl _) (by omega)
      obtain ⟨_, _, _, c4⟩ := (badSym_false l (symAt l 0) 0).1 hb0
      have key : eqCells [2, 0, 1] [.str (symAt l 0).name, .int .i64 (symAt l 0).arity, .bool (symAt l 0).ac] [.str ⟨#[116, 116]⟩, .int .i64 0, .bool false] = some (ttB (symAt l 0)) := by
        unfold ttB
        cases c2 : strEq (symAt l 0).name ⟨#[116, 116]⟩ <;> by_cases c3 : (symAt l 0).arity = 0 <;> cases c5 : (symAt l 0).ac <;> simp [eqCells, c2, c3, c5]
        have := c4 c5; omega
      have key2 : ∀ s s' : SymL, eEqAgg false [2, 0, 1] (some (.d s.enc)) (some (.d s'.enc)) = (eqCells [2, 0, 1] [.str s.name, .int .i64 s.arity, .bool s.ac] [.str s'.name, .int .i64 s'.arity, .bool s'.ac]).map fun e => .d (.bool e) := fun s s' => by
        show (eqCells [2, 0, 1] s.cells s'.cells).map _ = _
        simp [SymL.cells]
      simp [v82, r82_0, r82_1, r82_2, r82_4, r82_5, r82_3, r82_6, n3, h0, symAt_lt h0, cut, key2, key, splice]
end Go.Proofs.Ytidlpcgcolcfgaa.VS
namespace Go.Proofs.Ytidlpcgcolcfgaa.VS
set_option linter.unusedVariables false
set_option linter.unusedSimpArgs false
/-! ## Where a number stands; the first number that is greater (whatever the native functions are) -/
section
variable (X : XEnv)
end
end Go.Proofs.Ytidlpcgcolcfgaa.VS
namespace Go.Proofs.Ytidlpcgcolcfgaa.VS
set_option linter.unusedVariables false
set_option linter.unusedSimpArgs false
/-! ## A fold over all terms within a term, with what holds of its state -/
/-! ## A number put into a list, both -/
/-! ## The variables of a term, both -/
end Go.Proofs.Ytidlpcgcolcfgaa.VS
namespace Go.Proofs.Ytidlpcgcolcfgaa.VS
set_option linter.unusedVariables false
set_option linter.unusedSimpArgs false
/-! ## Drawn lists of numbers -/
@[simp high] theorem clr_bytesE (l : List Int) : (l.map (DV.int .u8)).map DV.clr = l.map (DV.int .u8) := by simp [List.map_map, Function.comp_def]
theorem big_eq (bs : List Int) : callX XV 133 [.d (.sl .sub (bs.map (.int .u8)))] [] = some (.d (.bool (decide (1048576 < bs.length))), []) := by
  rw [z_call XV _ _ _ v133 rfl xcode_133 rfl]
  have h : decide ((1048576 : Int) < bs.length) = decide (1048576 < bs.length) := by congr 1; apply propext; omega
  simp [v133, r133_0, r133_1, h]
theorem new_seed (bs : List Int) (B : Boxs) (st : Int) : SeedAt bs B.length (B ++ [some (seedC bs 0 st)]) := by
  exact ⟨0, st, ⟨Int.le_refl _, by omega⟩, by simp [bget]⟩
end Go.Proofs.Ytidlpcgcolcfgaa.VS
namespace Go.Proofs.Ytidlpcgcolcfgaa.VS
set_option linter.unusedVariables false
set_option linter.unusedSimpArgs false
/-! ## Numbers written in digits -/
def dgb (n : Nat) : UInt8 := UInt8.ofNat (48 + n)
def dgt (n : Nat) : ByteArray := ⟨#[dgb n]⟩
def digs (n : Nat) : ByteArray := if n < 10 then dgt n else digs (n / 10) ++ dgt (n % 10)
def minus : ByteArray := ⟨#[45]⟩
def digits (n : Int) : ByteArray := if n < 0 then minus ++ digs n.natAbs else digs n.natAbs
theorem digs_lt {n : Nat} (h : n < 10) : digs n = dgt n := by rw [digs, if_pos h]
theorem digs_ge {n : Nat} (h : ¬ n < 10) : digs n = digs (n / 10) ++ dgt (n % 10) := by rw [digs, if_neg h]
theorem digits_nat (k : Nat) : digits (k : Int) = digs k := by unfold digits; rw [if_neg (by omega)]; simp
theorem digits_neg {k : Nat} (h : 0 < k) : digits (-(k : Int)) = minus ++ digs k := by unfold digits; rw [if_pos (by omega)]; simp
theorem dgt_size (n : Nat) : (dgt n).size = 1 := rfl
theorem minus_size : minus.size = 1 := rfl
theorem digs_size : ∀ (k n : Nat), n < 10 ^ (k + 1) → (digs n).size ≤ k + 1
  | 0, n, h => by rw [digs_lt (by omega), dgt_size]; omega
  | k + 1, n, h => by
    by_cases c : n < 10
    · rw [digs_lt c, dgt_size]; omega
    · rw [digs_ge c, ByteArray.size_append, dgt_size]
      have := digs_size k (n / 10) (by rw [Nat.pow_succ] at h; omega)
      omega
theorem digs_size20 {n : Nat} (h : n ≤ 9223372036854775808) : (digs n).size ≤ 20 := digs_size 19 n (by omega)
theorem enc_dgt {n : Nat} (h : n < 10) : Utf8.encode (48 + (n : Int)) = dgt n := by
  have : n = 0 ∨ n = 1 ∨ n = 2 ∨ n = 3 ∨ n = 4 ∨ n = 5 ∨ n = 6 ∨ n = 7 ∨ n = 8 ∨ n = 9 := by omega
  rcases this with rfl | rfl | rfl | rfl | rfl | rfl | rfl | rfl | rfl | rfl <;> rfl
theorem wrap_i32 {n : Int} (h : -2147483648 ≤ n) (h2 : n ≤ 2147483647) : IntKind.i32.wrap n = n := by
  simp [IntKind.wrap, IntKind.bits, IntKind.signed]; omega
theorem wrap_u8' {n : Int} (h : 0 ≤ n) (h2 : n ≤ 255) : IntKind.u8.wrap n = n := by
  simp [IntKind.wrap, IntKind.bits, IntKind.signed]; omega
theorem evInt_quo10 (k : IntKind) (x : Int) : evInt .quo k x 10 = some (.int k (k.wrap (x.tdiv 10))) := rfl
theorem evInt_rem10 (k : IntKind) (x : Int) : evInt .rem k x 10 = some (.int k (x.tmod 10)) := rfl
theorem evBin_cat {a b : ByteArray} (h : a.size + b.size ≤ 4611686018427387904) : evBin .add (.str a) (.str b) = some (.str (a ++ b)) := by simp [evBin, h]
theorem implDigits_small (k : Nat) (hk : k < 10) : callX XV 38 [.d (.int .i64 k)] [] = some (.d (.str (dgt k)), []) := by
  rw [z_call XV _ _ _ v38 rfl xcode_38 rfl]
  have c1 : (k : Int) < 10 := by omega
  have c0 : ¬ (k : Int) < 0 := by omega
  have hw : IntKind.i64.wrap (48 + k) = 48 + k := wrap_i64 (by omega) (by omega)
  have hw2 : IntKind.i32.wrap (48 + k) = 48 + k := wrap_i32 (by omega) (by omega)
  have e := enc_dgt hk
  simp [v38, r38_0, r38_1, r38_2, r38_3, r38_4, r38_5, r38_6, r38_7, c0, c1, hw, hw2, e]
theorem implDigits (m : Nat) : ∀ n : Int, n.natAbs ≤ m → -9223372036854775808 ≤ n → n ≤ 9223372036854775807 → callX XV 38 [.d (.int .i64 n)] [] = some (.d (.str (digits n)), []) := by
  induction m with
  | zero =>
    intro n hm h1 h2
    obtain rfl : n = ((0 : Nat) : Int) := by omega
    rw [digits_nat, digs_lt (by omega)]
    exact implDigits_small 0 (by omega)
  | succ m ih =>
    intro n hm h1 h2
    by_cases c0 : n < 0
    · obtain ⟨k, rfl⟩ : ∃ k : Nat, n = -(k : Int) := ⟨n.natAbs, by omega⟩
      have hk : 0 < k := by omega
      rw [z_call XV _ _ _ v38 rfl xcode_38 rfl, digits_neg hk]
      by_cases c1 : k < 10
      · have hw : IntKind.i64.wrap k = k := wrap_i64 (by omega) (by omega)
        have s1 := implDigits_small k c1
        have ha : evBin .add (.str ⟨#[45]⟩) (.str (dgt k)) = some (.str (minus ++ dgt k)) := evBin_cat (by rw [dgt_size]; decide)
        have c1' : -10 < -(k : Int) := by omega
        have c0' : 0 < k := hk
        rw [digs_lt c1]
        simp [v38, r38_0, r38_1, r38_2, r38_3, r38_4, r38_5, r38_6, r38_7, c0', c1', c1, hw, s1, ha]
      · have hq : (-(k : Int)).tdiv 10 = -((k / 10 : Nat) : Int) := by rw [Int.neg_tdiv]; rfl
        have hr : (-(k : Int)).tmod 10 = -((k % 10 : Nat) : Int) := by rw [Int.neg_tmod]; rfl
        have hw1 : IntKind.i64.wrap (-((k / 10 : Nat) : Int)) = -((k / 10 : Nat) : Int) := wrap_i64 (by omega) (by omega)
        have hw2 : IntKind.i64.wrap ((k % 10 : Nat) : Int) = ((k % 10 : Nat) : Int) := wrap_i64 (by omega) (by omega)
        have s1 := ih (-((k / 10 : Nat) : Int)) (by omega) (by omega) (by omega)
        have s2 := implDigits_small (k % 10) (by omega)
        rw [digits_neg (by omega)] at s1
        have hs := digs_size20 (n := k / 10) (by omega)
        have ha : evBin .add (.str (minus ++ digs (k / 10))) (.str (dgt (k % 10))) = some (.str (minus ++ digs k)) := by
          rw [evBin_cat (by rw [ByteArray.size_append, dgt_size, minus_size]; omega), digs_ge c1, ByteArray.append_assoc]
        have c1' : ¬ -10 < -(k : Int) := by omega
        have c0' : 0 < k := hk
        generalize ((k / 10 : Nat) : Int) = q at *
        generalize ((k % 10 : Nat) : Int) = r at *
        simp [v38, r38_0, r38_1, r38_2, r38_3, r38_4, r38_5, r38_6, r38_7, c0', c1', c1, evInt_quo10, evInt_rem10, hq, hr, hw1, hw2, s1, s2, ha]
    · obtain ⟨k, rfl⟩ := Int.eq_ofNat_of_zero_le (Int.not_lt.1 c0)
      rw [digits_nat]
      by_cases c1 : k < 10
      · rw [digs_lt c1]; exact implDigits_small k c1
      · rw [z_call XV _ _ _ v38 rfl xcode_38 rfl]
        have hq : (k : Int).tdiv 10 = ((k / 10 : Nat) : Int) := rfl
        have hr : (k : Int).tmod 10 = ((k % 10 : Nat) : Int) := rfl
        have s1 := ih ((k / 10 : Nat) : Int) (by omega) (by omega) (by omega)
        rw [digits_nat] at s1
        have hw0 : IntKind.i64.wrap ((k / 10 : Nat) : Int) = ((k / 10 : Nat) : Int) := wrap_i64 (by omega) (by omega)
        have hw : IntKind.i64.wrap (48 + ((k % 10 : Nat) : Int)) = 48 + ((k % 10 : Nat) : Int) := wrap_i64 (by omega) (by omega)
        have hw2 : IntKind.i32.wrap (48 + ((k % 10 : Nat) : Int)) = 48 + ((k % 10 : Nat) : Int) := wrap_i32 (by omega) (by omega)
        have e := enc_dgt (n := k % 10) (by omega)
        have hs := digs_size20 (n := k / 10) (by omega)
        have ha : evBin .add (.str (digs (k / 10))) (.str (dgt (k % 10))) = some (.str (digs k)) := by
          rw [evBin_cat (by rw [dgt_size]; omega), digs_ge c1]
        have c1' : ¬ (k : Int) < 10 := by omega
        have c0' : ¬ (k : Int) < 0 := by omega
        generalize ((k / 10 : Nat) : Int) = q at *
        generalize ((k % 10 : Nat) : Int) = r at *
        simp [v38, r38_0, r38_1, r38_2, r38_3, r38_4, r38_5, r38_6, r38_7, c0', c1', evInt_quo10, evInt_rem10, hq, hr, hw0, hw, hw2, e, s1, ha]
theorem implDigits_eq (n : Int) (h1 : -9223372036854775808 ≤ n) (h2 : n ≤ 9223372036854775807) : callX XV 38 [.d (.int .i64 n)] [] = some (.d (.str (digits n)), []) := implDigits n.natAbs n (Nat.le_refl _) h1 h2
/-! The loop, from the last digit on -/
def digs0 (k : Nat) : ByteArray := if k = 0 then ByteArray.empty else digs k
theorem digs0_step {k : Nat} (h : k ≠ 0) (s : ByteArray) : digs0 (k / 10) ++ (dgt (k % 10) ++ s) = digs0 k ++ s := by
  unfold digs0
  rw [if_neg h]
  by_cases c : k < 10
  · have : k / 10 = 0 := by omega
    rw [if_pos this, digs_lt c, ByteArray.empty_append, Nat.mod_eq_of_lt c]
  · rw [if_neg (by omega), digs_ge c, ByteArray.append_assoc]
theorem bytes_dgt {k : Nat} (h : k < 10) : bytesOf [.int .u8 (48 + (k : Int))] = some [dgb k] := by
  have : (48 + (k : Int)).toNat = 48 + k := by omega
  simp [bytesOf, this, dgb]
def dst (n : Int) (neg : Bool) (s : ByteArray) : XS := ⟨[(0, .d (.int .i64 n)), (3, .d (.bool neg)), (4, .d (.str s))], []⟩
theorem body39 (n : Int) (k : Nat) (h : n = k ∨ n = -(k : Int)) (hk : k ≠ 0) (hk2 : k ≤ 9223372036854775808) (h1 : -9223372036854775808 ≤ n) (h2 : n ≤ 9223372036854775807) (neg : Bool) (s : ByteArray) (hs : s.size ≤ 100) :
    ∃ s', codeX XV [] b39_0 (dst n neg s) = some (.normal, s') ∧ xheadOf 0 [0, 3, 4] s' = some (dst (n.tdiv 10) neg (dgt (k % 10) ++ s)) := by
  have hw : IntKind.i64.wrap (48 + ((k % 10 : Nat) : Int)) = 48 + ((k % 10 : Nat) : Int) := wrap_i64 (by omega) (by omega)
  have hw2 : IntKind.u8.wrap (48 + ((k % 10 : Nat) : Int)) = 48 + ((k % 10 : Nat) : Int) := wrap_u8' (by omega) (by omega)
  have hw3 : IntKind.i64.wrap ((k % 10 : Nat) : Int) = ((k % 10 : Nat) : Int) := wrap_i64 (by omega) (by omega)
  have hb := bytes_dgt (k := k % 10) (by omega)
  have ha : evBin .add (.str ⟨#[dgb (k % 10)]⟩) (.str s) = some (.str (dgt (k % 10) ++ s)) := evBin_cat (a := dgt (k % 10)) (by rw [dgt_size]; omega)
  have c0 : (n != 0) = true := by simp; omega
  unfold dst
  rcases h with rfl | rfl
  · have hq : (k : Int).tdiv 10 = ((k / 10 : Nat) : Int) := rfl
    rw [hq]
    have hr : (k : Int).tmod 10 = ((k % 10 : Nat) : Int) := rfl
    have hwq : IntKind.i64.wrap ((k / 10 : Nat) : Int) = ((k / 10 : Nat) : Int) := wrap_i64 (by omega) (by omega)
    have c1 : ¬ ((k % 10 : Nat) : Int) < 0 := by omega
    generalize ((k / 10 : Nat) : Int) = q at *
    generalize ((k % 10 : Nat) : Int) = r at *
    refine ⟨_, by simp [b39_0, r39_5, r39_6, r39_7, r39_8, r39_9, r39_10, c0, hq, hr, evInt_quo10, evInt_rem10, c1, hw, hw2, hwq, hb, ha, buildRow, List.replicate]; rfl, by simp [xheadOf, safeRegs]⟩
  · have hq : (-(k : Int)).tdiv 10 = -((k / 10 : Nat) : Int) := by rw [Int.neg_tdiv]; rfl
    rw [hq]
    have hr : (-(k : Int)).tmod 10 = -((k % 10 : Nat) : Int) := by rw [Int.neg_tmod]; rfl
    have hwq : IntKind.i64.wrap (-((k / 10 : Nat) : Int)) = -((k / 10 : Nat) : Int) := wrap_i64 (by omega) (by omega)
    by_cases c1 : -((k % 10 : Nat) : Int) < 0
    · generalize ((k / 10 : Nat) : Int) = q at *
      generalize ((k % 10 : Nat) : Int) = r at *
      have c1' : 0 < r := by omega
      have c0' : k ≠ 0 := hk
      refine ⟨_, by simp [b39_0, r39_5, r39_6, r39_7, r39_8, r39_9, r39_10, c0, hq, hr, evInt_quo10, evInt_rem10, c1', hw, hw2, hw3, hwq, hb, ha, buildRow, List.replicate]; rfl, by simp [xheadOf, safeRegs]⟩
    · have c2 : ((k % 10 : Nat) : Int) = 0 := by omega
      rw [c2] at hw hw2 hr hb
      have c3 : k % 10 = 0 := by omega
      rw [c3] at ha hb ⊢
      generalize ((k / 10 : Nat) : Int) = q at *
      simp at hr hw hw2 hb
      refine ⟨_, by simp [b39_0, r39_5, r39_6, r39_7, r39_8, r39_9, r39_10, c0, hq, hr, evInt_quo10, evInt_rem10, hw, hw2, hwq, hb, ha, buildRow, List.replicate]; rfl, by simp [xheadOf, safeRegs]⟩
theorem loop39 : ∀ (j : Nat) (n : Int) (k : Nat) (neg : Bool) (s : ByteArray), (n = k ∨ n = -(k : Int)) → k < 10 ^ j → k ≤ 9223372036854775808 → -9223372036854775808 ≤ n → n ≤ 9223372036854775807 → s.size + j ≤ 100 →
    ∀ s0, xheadOf 0 [0, 3, 4] s0 = some (dst n neg s) → loopX XV [] 0 [0, 3, 4] b39_0 s0 = some (.exit 0, ⟨[(0, .d (.int .i64 0)), (3, .d (.bool neg)), (4, .d (.str (digs0 k ++ s))), (11, .d (.bool false))], []⟩) := by
  intro j
  induction j with
  | zero =>
    intro n k neg s hn hk hk2 h1 h2 hs s0 h0
    obtain rfl : k = 0 := by simpa using hk
    obtain rfl : n = 0 := by omega
    refine loopX_out h0 ?_ (by simp)
    simp [dst, b39_0, r39_5, digs0, ByteArray.empty_append]
  | succ j ih =>
    intro n k neg s hn hk hk2 h1 h2 hs s0 h0
    by_cases hz : k = 0
    · subst hz
      obtain rfl : n = 0 := by omega
      refine loopX_out h0 ?_ (by simp)
      simp [dst, b39_0, r39_5, digs0, ByteArray.empty_append]
    · obtain ⟨s', hb, hh⟩ := body39 n k hn hz hk2 h1 h2 neg s (by omega)
      rw [loopX_go h0 hb]
      have hn' : n.tdiv 10 = ((k / 10 : Nat) : Int) ∨ n.tdiv 10 = -((k / 10 : Nat) : Int) := by
        rcases hn with rfl | rfl
        · left; rfl
        · right; rw [Int.neg_tdiv]; rfl
      have := ih (n.tdiv 10) (k / 10) neg (dgt (k % 10) ++ s) hn' (by rw [Nat.pow_succ] at hk; omega) (by omega) (by omega) (by omega) (by rw [ByteArray.size_append, dgt_size]; omega) s' hh
      rw [this, digs0_step hz]
theorem specDigits_eq (n : Int) (h1 : -9223372036854775808 ≤ n) (h2 : n ≤ 9223372036854775807) : callX XV 39 [.d (.int .i64 n)] [] = some (.d (.str (digits n)), []) := by
  rw [z_call XV _ _ _ v39 rfl xcode_39 rfl]
  by_cases c0 : n = 0
  · subst c0
    have hd : digits 0 = ⟨#[48]⟩ := by rw [show (0 : Int) = ((0 : Nat) : Int) from rfl, digits_nat, digs_lt (by omega)]; rfl
    simp [v39, r39_0, r39_1, r39_2, hd]
  · have c0' : (n == 0) = false := by simp [c0]
    have hl := loop39 20 n n.natAbs (decide (n < 0)) ByteArray.empty (by omega) (by omega) (by omega) h1 h2 (by decide) ⟨[(0, .d (.int .i64 n)), (3, .d (.bool (decide (n < 0)))), (4, .d (.str ByteArray.empty))], []⟩ (by simp [xheadOf, safeRegs, dst])
    have hd : digs0 n.natAbs ++ ByteArray.empty = digs n.natAbs := by unfold digs0; rw [if_neg (by omega), ByteArray.append_empty]
    rw [hd] at hl
    have hs := digs_size20 (n := n.natAbs) (by omega)
    by_cases c : n < 0
    · have ha : evBin .add (.str ⟨#[45]⟩) (.str (digs n.natAbs)) = some (.str (digits n)) := by
        unfold digits; rw [if_pos c]; exact evBin_cat (a := minus) (by rw [minus_size]; omega)
      simp only [c, decide_true] at hl
      simp [v39, r39_0, r39_1, r39_2, r39_3, r39_4, c0', c]
      simp only [show (⟨#[]⟩ : ByteArray) = ByteArray.empty from rfl, hl]
      simp [r39_11, r39_12, ha]
    · have hdn : digits n = digs n.natAbs := by unfold digits; rw [if_neg c]
      simp only [c, decide_false] at hl
      simp [v39, r39_0, r39_1, r39_2, r39_3, r39_4, c0', c]
      simp only [show (⟨#[]⟩ : ByteArray) = ByteArray.empty from rfl, hl]
      simp [r39_11, r39_13, hdn]
end Go.Proofs.Ytidlpcgcolcfgaa.VS
namespace Go.Proofs.Ytidlpcgcolcfgaa.VS
set_option linter.unusedVariables false
set_option linter.unusedSimpArgs false
/-! ## Texts, part by part -/
/-- The first k parts with what stands between them. -/
def txt (p : Nat → ByteArray) (sep : ByteArray) : Nat → ByteArray
  | 0 => ByteArray.empty
  | k + 1 => (if 0 < k then txt p sep k ++ sep else txt p sep k) ++ p k
def stepX (p : Nat → ByteArray) (sep : ByteArray) (s : ByteArray) (i : Nat) : ByteArray ⊕ Unit := .inl ((if 0 < i then s ++ sep else s) ++ p i)
theorem runX (p : Nat → ByteArray) (sep : ByteArray) : ∀ (k i : Nat), runN (stepX p sep) k (txt p sep i) i = .inl (txt p sep (i + k))
  | 0, i => rfl
  | k + 1, i => by
    simp only [runN, stepX]
    have h := runX p sep k (i + 1)
    rw [show i + 1 + k = i + (k + 1) by omega] at h
    exact h
theorem txt_size (p : Nat → ByteArray) (sep : ByteArray) (m : Nat) : ∀ k, (∀ i, i < k → (p i).size ≤ m) → (txt p sep k).size ≤ k * (m + sep.size)
  | 0, _ => by simp [txt]
  | k + 1, h => by
    have h1 := txt_size p sep m k (fun i hi => h i (by omega))
    have h2 := h k (by omega)
    have e : (k + 1) * (m + sep.size) = k * (m + sep.size) + (m + sep.size) := Nat.succ_mul _ _
    rw [e]
    unfold txt
    split <;> simp only [ByteArray.size_append] <;> omega
def strs (p : Nat → ByteArray) (k : Nat) : List DV := (List.range k).map fun i => .str (p i)
theorem strs_succ (p : Nat → ByteArray) (k : Nat) : strs p (k + 1) = strs p k ++ [.str (p k)] := by simp [strs, List.range_succ]
@[simp] theorem clr_strs (p : Nat → ByteArray) (k : Nat) : (strs p k).map DV.clr = strs p k := by simp [strs, List.map_map, Function.comp_def]
theorem inter_snoc (sep : List UInt8) (x : List UInt8) : ∀ l : List (List UInt8), l ≠ [] → sep.intercalate (l ++ [x]) = sep.intercalate l ++ (sep ++ x)
  | [], h => absurd rfl h
  | [a], _ => by simp [List.intercalate]
  | a :: b :: r, _ => by
    have ih := inter_snoc sep x (b :: r) (by simp)
    simp only [List.intercalate, List.cons_append, List.intersperse, List.flatten_cons] at ih ⊢
    rw [List.append_assoc, List.append_assoc, ← ih]
theorem joinL_txt (p : Nat → ByteArray) (sep : ByteArray) : ∀ k, joinL ((List.range k).map p) sep = (txt p sep k).data.toList
  | 0 => by simp [joinL, txt, List.intercalate]
  | k + 1 => by
    have ih := joinL_txt p sep k
    unfold joinL at ih ⊢
    rw [List.range_succ, List.map_append, List.map_append]
    unfold txt
    by_cases hk : 0 < k
    · rw [List.map_cons, List.map_nil, List.map_cons, List.map_nil, inter_snoc _ _ _ (by simp; omega), ih, if_pos hk]
      simp [ByteArray.data_append]
    · obtain rfl : k = 0 := by omega
      simp [List.intercalate, txt]
theorem joinS_txt (p : Nat → ByteArray) (sep : ByteArray) (k : Nat) : joinS ((List.range k).map p) sep = txt p sep k := by
  unfold joinS; rw [joinL_txt]
theorem strsOf_strs (p : Nat → ByteArray) (k : Nat) : strsOf (strs p k) = some ((List.range k).map p) := by
  have : strs p k = ((List.range k).map p).map DV.str := by simp [strs]
  rw [this]
  generalize (List.range k).map p = l
  induction l with
  | nil => rfl
  | cons a r ih => simp [strsOf, ih]
theorem join_eq (p : Nat → ByteArray) (sep : ByteArray) (k : Nat) (g : Tag) (B : Boxs) (hk : k ≤ 140737488355328) (hs : (txt p sep k).size ≤ 140737488355328) :
    callX XV 93 [.d (.sl g (strs p k)), .d (.str sep)] B = some (.d (.str (txt p sep k)), B) := by
  rw [callX_nat XV 93 _ _ joinD rfl]
  have hl : (joinL ((List.range k).map p) sep).length ≤ 140737488355328 := by rw [joinL_txt]; exact hs
  simp only [datas, Option.map_some, Option.bind_some, joinD, strsOf_strs, List.length_map, List.length_range, hk, hl, and_self, if_true, joinS_txt]
theorem app_eq (p : Nat → ByteArray) (k : Nat) (g : Tag) (hk : k ≤ 1099511627776) : xappend 1 16 (.sl U (strs p k)) (.sl g [.str (p k)]) = some (.sl U (strs p (k + 1))) := by
  have h1 : (strs p k).length = k := by simp [strs]
  have h2 : ∀ x : DV, x ∈ strs p k → x.cells.length = 1 := fun x hx => by
    simp only [strs, List.mem_map] at hx; obtain ⟨i, _, rfl⟩ := hx; rfl
  have h3 : (k + 1) * 16 ≤ 140737488355328 := by omega
  simp [xappend, h1, h3, strs_succ, isCell_str]
  exact h2
end Go.Proofs.Ytidlpcgcolcfgaa.VS
namespace Go.Proofs.Ytidlpcgcolcfgaa.VS
set_option linter.unusedVariables false
set_option linter.unusedSimpArgs false
/-! ## SigText -/
def blankB : ByteArray := ⟨#[32]⟩
def slashB : ByteArray := ⟨#[47]⟩
def starB : ByteArray := ⟨#[42]⟩
def symT (s : SymL) : ByteArray := if s.ac then s.name ++ slashB ++ digits s.arity ++ starB else s.name ++ slashB ++ digits s.arity
def sigP (l : List SymL) (i : Nat) : ByteArray := symT (symAt l i)
theorem digits_size' {n : Int} (h1 : -9223372036854775808 ≤ n) (h2 : n ≤ 9223372036854775807) : (digits n).size ≤ 21 := by
  have := digs_size20 (n := n.natAbs) (by omega)
  unfold digits
  split
  · rw [ByteArray.size_append, minus_size]; omega
  · omega
theorem symT_size (s : SymL) (hs : s.ok) : (symT s).size ≤ s.name.size + 23 := by
  have := digits_size' hs.2.1 hs.2.2
  have h1 : slashB.size = 1 := rfl
  have h2 : starB.size = 1 := rfl
  unfold symT
  split <;> simp only [ByteArray.size_append] <;> omega
theorem sigP_size (l : List SymL) (ho : ∀ s, s ∈ l → s.ok) (hn : ∀ i, i < l.length → (symAt l i).name.size ≤ 1048576) (i : Nat) (hi : i < l.length) : (sigP l i).size ≤ 1048599 := by
  have := symT_size _ (ho _ (symAt_mem hi))
  have := hn i hi
  unfold sigP; omega
theorem sig_size (l : List SymL) (hl : l.length ≤ 1048576) (ho : ∀ s, s ∈ l → s.ok) (hn : ∀ i, i < l.length → (symAt l i).name.size ≤ 1048576) (k : Nat) (hk : k ≤ l.length) : (txt (sigP l) blankB k).size ≤ 1099536793600 := by
  have h := txt_size (sigP l) blankB 1048599 k (fun i hi => sigP_size l ho hn i (by omega))
  have : blankB.size = 1 := rfl
  rw [this] at h
  omega
theorem implSigText_eq (l : List SymL) (hl : l.length ≤ 1048576) (ho : ∀ s, s ∈ l → s.ok) (hn : ∀ i, i < l.length → (symAt l i).name.size ≤ 1048576) : callX XV 115 [.d (sg l)] [] = some (.d (.str (txt (sigP l) blankB l.length)), []) := by
  rw [z_call XV _ _ _ v115 rfl xcode_115 rfl]
  have h := loopX_upto (X := XV) (T := XV.lin 115) (L := 0) (live := [3, 8, 9, 10]) (b := b115_0) (n := l.length) (γ := Unit) (st := fun (_ : Unit) i => ⟨[(3, .d (.sl U (strs (sigP l) i))), (8, .d (sg l)), (9, .d (.int .i64 l.length)), (10, .d (.int .i64 i))], []⟩) (step := fun _ _ => .inl ())
    (F := fun _ => (.exit 0, ⟨[(3, .d (.sl U (strs (sigP l) l.length))), (8, .d (sg l)), (9, .d (.int .i64 l.length)), (10, .d (.int .i64 l.length)), (11, .d (.bool false))], []⟩)) (R := fun _ => (.ret, ⟨[], []⟩))
    (fun _ => ⟨by simp, by simp [b115_0, r115_0, r115_1, r115_2, r115_3, r115_4, d115_5, r115_6, r115_7, r115_8, r115_9, r115_10]⟩)
    (fun _ i hi => by
      have hw := wrap_succ (n := i) (by omega)
      have hs := ho _ (symAt_mem hi)
      have hd := implDigits_eq (symAt l i).arity hs.2.1 hs.2.2
      have hds := digits_size' hs.2.1 hs.2.2
      have hns := hn i hi
      have h1 : slashB.size = 1 := rfl
      have h2 : starB.size = 1 := rfl
      have a1 : evBin .add (.str (symAt l i).name) (.str ⟨#[47]⟩) = some (.str ((symAt l i).name ++ slashB)) := evBin_cat (b := slashB) (by omega)
      have a2 : evBin .add (.str ((symAt l i).name ++ slashB)) (.str (digits (symAt l i).arity)) = some (.str ((symAt l i).name ++ slashB ++ digits (symAt l i).arity)) := evBin_cat (by rw [ByteArray.size_append]; omega)
      have a3 : evBin .add (.str ((symAt l i).name ++ slashB ++ digits (symAt l i).arity)) (.str ⟨#[42]⟩) = some (.str ((symAt l i).name ++ slashB ++ digits (symAt l i).arity ++ starB)) := evBin_cat (b := starB) (by simp only [ByteArray.size_append]; omega)
      have ha := fun g => app_eq (sigP l) i g (by omega)
      simp only [sigP, symT] at ha
      cases c : (symAt l i).ac with
      | false =>
        simp only [c, Bool.false_eq_true, if_false] at ha
        refine ⟨_, by simp [b115_0, r115_0, r115_1, r115_2, r115_3, r115_4, d115_5, r115_6, r115_7, r115_8, r115_9, r115_10, splice, loadBox, hi, hw, cut, symAt_lt hi, hd, ha, a1, a2, c, buildRow, List.replicate]; rfl, by simp [xheadOf, safeRegs]⟩
      | true =>
        simp only [c, if_true] at ha
        refine ⟨_, by simp [b115_0, r115_0, r115_1, r115_2, r115_3, r115_4, d115_5, r115_6, r115_7, r115_8, r115_9, r115_10, splice, loadBox, hi, hw, cut, symAt_lt hi, hd, ha, a1, a2, a3, c, buildRow, List.replicate]; rfl, by simp [xheadOf, safeRegs]⟩)
    l.length () 0 ⟨[(3, .d (.sl U [])), (8, .d (sg l)), (9, .d (.int .i64 l.length)), (10, .d (.int .i64 0))], []⟩ (by omega) (by simp [xheadOf, safeRegs, strs])
  rw [run_on] at h
  simp only [lin_115] at h
  have hj0 : ∀ B, callX XV 93 [.d (.sl .sub (strs (sigP l) l.length)), .d (.str ⟨#[32]⟩)] B = some (.d (.str (txt (sigP l) blankB l.length)), B) := fun B => join_eq (sigP l) blankB l.length .sub B (by omega) (by have := sig_size l hl ho hn l.length (by omega); omega)
  simp [v115, r115_0, r115_1, r115_2, r115_3, r115_4, d115_5, r115_6, r115_7, r115_8, r115_9, r115_10, buildRow, List.replicate]
  rw [h]
  simp [v115, r115_0, r115_1, r115_2, r115_3, r115_4, d115_5, r115_6, r115_7, r115_8, r115_9, r115_10, hj0]
theorem specSigText_eq (l : List SymL) (hl : l.length ≤ 1048576) (ho : ∀ s, s ∈ l → s.ok) (hn : ∀ i, i < l.length → (symAt l i).name.size ≤ 1048576) : callX XV 114 [.d (sg l)] [] = some (.d (.str (txt (sigP l) blankB l.length)), []) := by
  rw [z_call XV _ _ _ v114 rfl xcode_114 rfl]
  have h := loopX_inv (X := XV) (T := []) (L := 0) (live := [0, 3, 4]) (b := b114_0) (n := l.length) (γ := Unit) (st := fun (s : ByteArray) i => ⟨[(0, .d (sg l)), (3, .d (.str s)), (4, .d (.int .i64 i))], []⟩) (step := stepX (sigP l) blankB)
    (F := fun s => (.exit 0, ⟨[(0, .d (sg l)), (3, .d (.str s)), (4, .d (.int .i64 l.length)), (8, .d (.bool false))], []⟩)) (R := fun _ => (.ret, ⟨[], []⟩))
    (fun s i => s = txt (sigP l) blankB i)
    (fun _ _ => ⟨by simp, by simp [b114_0, r114_0, r114_1, r114_2, r114_3, r114_5, r114_6, d114_7, r114_8, r114_9, r114_4, r114_10]⟩)
    (fun s i hi hs => by
      subst hs
      have hw := wrap_succ (n := i) (by omega)
      have hs := ho _ (symAt_mem hi)
      have hd := specDigits_eq (symAt l i).arity hs.2.1 hs.2.2
      have hds := digits_size' hs.2.1 hs.2.2
      have hns := hn i hi
      have h1 : slashB.size = 1 := rfl
      have h2 : starB.size = 1 := rfl
      have h3 : blankB.size = 1 := rfl
      have hsz := sig_size l hl ho hn i (by omega)
      refine ⟨?_, fun a' h => by simp only [stepX, Sum.inl.injEq] at h; rw [← h]; rfl⟩
      unfold stepX
      generalize txt (sigP l) blankB i = t0 at *
      have a0 : evBin .add (.str t0) (.str ⟨#[32]⟩) = some (.str (t0 ++ blankB)) := evBin_cat (b := blankB) (by omega)
      obtain ⟨t1, ht1, hz⟩ : ∃ t1, t1 = (if 0 < i then t0 ++ blankB else t0) ∧ t1.size ≤ t0.size + 1 := ⟨_, rfl, by split <;> (try simp only [ByteArray.size_append]) <;> omega⟩
      rw [← ht1]
      have a1 : evBin .add (.str t1) (.str (symAt l i).name) = some (.str (t1 ++ (symAt l i).name)) := evBin_cat (by omega)
      have a2 : evBin .add (.str (t1 ++ (symAt l i).name)) (.str ⟨#[47]⟩) = some (.str (t1 ++ (symAt l i).name ++ slashB)) := evBin_cat (b := slashB) (by simp only [ByteArray.size_append]; omega)
      have a3 : evBin .add (.str (t1 ++ (symAt l i).name ++ slashB)) (.str (digits (symAt l i).arity)) = some (.str (t1 ++ (symAt l i).name ++ slashB ++ digits (symAt l i).arity)) := evBin_cat (by simp only [ByteArray.size_append]; omega)
      have a4 : evBin .add (.str (t1 ++ (symAt l i).name ++ slashB ++ digits (symAt l i).arity)) (.str ⟨#[42]⟩) = some (.str (t1 ++ (symAt l i).name ++ slashB ++ digits (symAt l i).arity ++ starB)) := evBin_cat (b := starB) (by simp only [ByteArray.size_append]; omega)
      have hp : (symAt l i).ac = false → t1 ++ sigP l i = t1 ++ (symAt l i).name ++ slashB ++ digits (symAt l i).arity := fun c => by simp [sigP, symT, c, ByteArray.append_assoc]
      have hp2 : (symAt l i).ac = true → t1 ++ sigP l i = t1 ++ (symAt l i).name ++ slashB ++ digits (symAt l i).arity ++ starB := fun c => by simp [sigP, symT, c, ByteArray.append_assoc]
      by_cases c0 : 0 < i
      · rw [if_pos c0] at ht1
        subst ht1
        cases c : (symAt l i).ac with
        | false =>
          rw [hp c]
          refine ⟨_, by simp [b114_0, r114_0, r114_1, r114_2, r114_3, r114_5, r114_6, d114_7, r114_8, r114_9, r114_4, r114_10, hi, hw, cut, symAt_lt hi, hd, c0, a0, a1, a2, a3, c]; rfl, by simp [xheadOf, safeRegs]⟩
        | true =>
          rw [hp2 c]
          refine ⟨_, by simp [b114_0, r114_0, r114_1, r114_2, r114_3, r114_5, r114_6, d114_7, r114_8, r114_9, r114_4, r114_10, hi, hw, cut, symAt_lt hi, hd, c0, a0, a1, a2, a3, a4, c]; rfl, by simp [xheadOf, safeRegs]⟩
      · rw [if_neg c0] at ht1
        subst ht1
        cases c : (symAt l i).ac with
        | false =>
          rw [hp c]
          refine ⟨_, by simp [b114_0, r114_0, r114_1, r114_2, r114_3, r114_5, r114_6, d114_7, r114_8, r114_9, r114_4, r114_10, hi, hw, cut, symAt_lt hi, hd, c0, a1, a2, a3, c]; rfl, by simp [xheadOf, safeRegs]⟩
        | true =>
          rw [hp2 c]
          refine ⟨_, by simp [b114_0, r114_0, r114_1, r114_2, r114_3, r114_5, r114_6, d114_7, r114_8, r114_9, r114_4, r114_10, hi, hw, cut, symAt_lt hi, hd, c0, a1, a2, a3, a4, c]; rfl, by simp [xheadOf, safeRegs]⟩)
    l.length ByteArray.empty 0 ⟨[(0, .d (sg l)), (3, .d (.str ByteArray.empty)), (4, .d (.int .i64 0))], []⟩ (by omega) rfl (by simp [xheadOf, safeRegs])
  have hr := runX (sigP l) blankB l.length 0
  rw [Nat.zero_add] at hr
  rw [show ByteArray.empty = txt (sigP l) blankB 0 from rfl, hr] at h
  simp [v114, r114_0, r114_1, r114_2, r114_3, r114_5, r114_6, d114_7, r114_8, r114_9, r114_4, r114_10]
  simp only [show (⟨#[]⟩ : ByteArray) = txt (sigP l) blankB 0 from rfl, h]
  simp [v114, r114_0, r114_1, r114_2, r114_3, r114_5, r114_6, d114_7, r114_8, r114_9, r114_4, r114_10]
end Go.Proofs.Ytidlpcgcolcfgaa.VS
namespace Go.Proofs.Ytidlpcgcolcfgaa.VS
set_option linter.unusedVariables false
set_option linter.unusedSimpArgs false
/-! ## Drawn functions -/
def sig0 : List SymL := [⟨⟨#[116, 116]⟩, 0, false⟩, ⟨⟨#[97]⟩, 0, false⟩, ⟨⟨#[98]⟩, 0, false⟩, ⟨⟨#[103]⟩, 1, false⟩, ⟨⟨#[104]⟩, 2, false⟩, ⟨⟨#[102]⟩, 2, true⟩, ⟨⟨#[107]⟩, 2, true⟩]
theorem l2Sig_eq : callX XV 155 [] [] = some (.d (.sl U (sig0.map SymL.enc)), []) := by
  rw [z_call XV _ _ _ v155 rfl xcode_155 rfl]
  simp [v155, r155_0, r155_1, sig0, buildRow, List.replicate, splice]
/-- What is drawn is small. -/
structure SigD (l : List SymL) : Prop where
  len : l.length ≤ 9
  sym : ∀ s, s ∈ l → s.name.size ≤ 9 ∧ -1 ≤ s.arity ∧ s.arity ≤ 4
theorem SigD.ok {l : List SymL} (h : SigD l) : ∀ s, s ∈ l → s.ok := fun s hs => by
  obtain ⟨h1, h2, h3⟩ := h.sym s hs
  exact ⟨by unfold maxLen; omega, by omega, by omega⟩
theorem SigD.nm {l : List SymL} (h : SigD l) (n : Nat) (hn : 9 ≤ n) : ∀ i, i < l.length → (symAt l i).name.size ≤ n := fun i hi => by
  have := (h.sym _ (symAt_mem hi)).1
  omega
theorem like_u8 (x y : Int) (r : DV) : (DV.int .u8 x).like r = (DV.int .u8 y).like r := by cases r <;> rfl
theorem fm_bytes (bs : List Int) : (bs.map (DV.int .u8)).flatMap DV.cells = bs.map (DV.int .u8) := by
  induction bs with
  | nil => rfl
  | cons b r ih => simp only [List.map_cons, List.flatMap_cons, ih, DV.cells, List.singleton_append]
theorem xrests_bytes (rs : List DV) : ∀ bs : List Int, DV.xrests rs (bs.map (.int .u8)) = true
  | [] => by simp [DV.xrests]
  | b :: r => by simp [DV.xrests, DV.xrest, xrests_bytes rs r]
theorem xrest_bytes (rs : List DV) (h : rs.all (fun r => !(DV.int .u8 0).like r) = true) (bs : List Int) : DV.xrest rs (.sl .sub (bs.map (.int .u8))) = true := by
  simp only [DV.xrest, xrests_bytes, Bool.and_true, fm_bytes]
  cases bs with
  | nil => rfl
  | cons b r =>
    have : (rs.all fun r => !(DV.int .u8 b).like r) = true := by
      rw [← h]; congr 1; funext r; rw [like_u8 b 0]
    simp [this]
theorem xrest_seed (rs : List DV) (h : rs.all (fun r => !(DV.int .u8 0).like r) = true) (bs : List Int) (pos st : Int) : cellsRest rs (seedC bs pos st) = true := by
  simp only [cellsRest, seedC, List.all_cons, List.all_nil, AV.xrest]
  rw [xrest_bytes rs h bs]
  simp only [DV.xrest, Bool.and_self]
@[simp] theorem isAgD_sym (s : SymL) : isAgD s.enc = true := rfl
@[simp] theorem xrest_sym (rs : List DV) (s : SymL) : DV.xrest rs s.enc = true := by
  show DV.xrest rs (.agg [.str s.name, .int .i64 s.arity, .bool s.ac]) = true
  simp only [DV.xrest, DV.xrests, Bool.and_self]
theorem clrs_seed (bs : List Int) (pos st : Int) : AV.clrs (seedC bs pos st) = seedC bs pos st := by simp [seedC]
def sc7 : List AV := [.d (.str ⟨#[116, 116]⟩), .d (.int .i64 0), .d (.bool false), .d (.str ⟨#[97]⟩), .d (.int .i64 0), .d (.bool false), .d (.str ⟨#[98]⟩), .d (.int .i64 0), .d (.bool false), .d (.str ⟨#[103]⟩), .d (.int .i64 1), .d (.bool false), .d (.str ⟨#[104]⟩), .d (.int .i64 2), .d (.bool false), .d (.str ⟨#[102]⟩), .d (.int .i64 2), .d (.bool true), .d (.str ⟨#[107]⟩), .d (.int .i64 2), .d (.bool true)]
theorem sigD_set {l : List SymL} (h : SigD l) (i : Nat) (s : SymL) (hs : s.name.size ≤ 9 ∧ -1 ≤ s.arity ∧ s.arity ≤ 4) : SigD (l.set i s) :=
  ⟨by rw [List.length_set]; exact h.len, fun x hx => by
    rcases List.mem_or_eq_of_mem_set hx with h1 | h1
    · exact h.sym x h1
    · subst h1; exact hs⟩
theorem sig0_D : SigD sig0 := by
  refine ⟨by decide, fun s hs => ?_⟩
  simp only [sig0, List.mem_cons, List.not_mem_nil, or_false] at hs
  rcases hs with rfl | rfl | rfl | rfl | rfl | rfl | rfl <;> exact ⟨by decide, by decide, by decide⟩
theorem l2Draw_at (bs : List Int) (hl : bs.length ≤ 1099511627776) (pos st : Int) (hp : 0 ≤ pos ∧ pos ≤ bs.length) :
    ∃ (l : List SymL) (g : Tag) (pos' st' : Int), SigD l ∧ (0 ≤ pos' ∧ pos' ≤ bs.length) ∧ callX XV 195 [.ptr 0 0] [some (seedC bs pos st)] = some (.d (.sl g (l.map SymL.enc)), [some (seedC bs pos' st')]) := by
  have h0 : SeedAt bs 0 [some (seedC bs pos st)] := ⟨pos, st, hp, rfl⟩
  obtain ⟨r, B1, hr, ⟨pos1, st1, hp1, rfl⟩, hc⟩ := l1Below_at bs hl _ 0 h0 10 (by omega) (by omega)
  simp only [List.set_cons_zero] at hc
  rw [z_callB XV _ _ _ v195 rfl xcode_195 rfl (m := 1) rfl rfl]
  simp only [clrBs_some, clrBs_nil, clrs_seed]
  have hsg := l2Sig_eq
  have hs1 : ∀ rs, rs.all (fun r => !(DV.int .u8 0).like r) = true → cellsRest rs (seedC bs pos1 st1) = true := fun rs h => xrest_seed rs h bs pos1 st1
  have h1 : ∀ C, SeedAt bs 0 [some (seedC bs pos1 st1), some C] := fun C => ⟨pos1, st1, hp1, rfl⟩
  have h2 : SeedAt bs 0 [some (seedC bs pos1 st1)] := ⟨pos1, st1, hp1, rfl⟩
  by_cases c0 : r = 0
  · subst c0
    obtain ⟨j, hj, B2, ⟨pos2, st2, hp2, rfl⟩, hc2⟩ := l1Pick_at bs hl _ 0 (h1 sc7) [⟨#[]⟩, ⟨#[65]⟩, ⟨#[116, 116]⟩, ⟨#[97, 98, 99, 100, 101, 102, 103, 104, 105]⟩, ⟨#[49, 97]⟩, ⟨#[97, 49]⟩] (by simp) (by simp)
    have hall : ∀ x : ByteArray, x ∈ ([⟨#[]⟩, ⟨#[65]⟩, ⟨#[116, 116]⟩, ⟨#[97, 98, 99, 100, 101, 102, 103, 104, 105]⟩, ⟨#[49, 97]⟩, ⟨#[97, 49]⟩] : List ByteArray) → x.size ≤ 9 := fun x hx => by
      simp only [List.mem_cons, List.not_mem_nil, or_false] at hx
      rcases hx with rfl | rfl | rfl | rfl | rfl | rfl <;> decide
    have hx := hall _ (List.getElem_mem hj)
    generalize ([⟨#[]⟩, ⟨#[65]⟩, ⟨#[116, 116]⟩, ⟨#[97, 98, 99, 100, 101, 102, 103, 104, 105]⟩, ⟨#[49, 97]⟩, ⟨#[97, 49]⟩] : List ByteArray)[j] = nm at hc2 hx
    refine ⟨sig0.set 1 ⟨nm, 0, false⟩, .sub, pos2, st2, sigD_set sig0_D 1 _ ⟨hx, by simp, by simp⟩, hp2, ?_⟩
    simp only [sig0, sc7, List.map_cons, List.map_nil, List.set_cons_zero] at hsg hc2 ⊢
    simp [v195, r195_0, r195_1, r195_2, r195_3, r195_4, r195_5, r195_6, r195_7, r195_8, r195_9, r195_10, r195_11, r195_12, r195_13, r195_14, r195_15, hc, hsg, hs1, DV.like, hc2, buildRow, List.replicate, splice, isCell_str, isCellA_d, safe_d, safeRegs, maskB, AV.frz, AV.frzC, frzL, chunks, cut, isCell_int, isCell_bool]
  by_cases c1 : r = 1
  · subst c1
    obtain ⟨j, hj, B2, ⟨pos2, st2, hp2, rfl⟩, hc2⟩ := l1PickInt_at bs hl _ 0 (h1 sc7) [-1, 3, 4] (by simp) (by simp)
    have hall : ∀ x : Int, x ∈ ([-1, 3, 4] : List Int) → -1 ≤ x ∧ x ≤ 4 := fun x hx => by
      simp only [List.mem_cons, List.not_mem_nil, or_false] at hx; omega
    have hx := hall _ (List.getElem_mem hj)
    generalize ([-1, 3, 4] : List Int)[j] = k at hc2 hx
    refine ⟨sig0.set 2 ⟨⟨#[98]⟩, k, false⟩, .sub, pos2, st2, sigD_set sig0_D 2 _ ⟨by simp [ByteArray.size], hx⟩, hp2, ?_⟩
    simp only [sig0, sc7, List.map_cons, List.map_nil, List.set_cons_zero] at hsg hc2 ⊢
    simp [v195, r195_0, r195_1, r195_2, r195_3, r195_4, r195_5, r195_6, r195_7, r195_8, r195_9, r195_10, r195_11, r195_12, r195_13, r195_14, r195_15, hc, hsg, hs1, DV.like, hc2, buildRow, List.replicate, splice, isCell_str, isCellA_d, safe_d, safeRegs, maskB, AV.frz, AV.frzC, frzL, chunks, cut, isCell_int, isCell_bool]
  by_cases c2 : r = 2
  · subst c2
    refine ⟨sig0.set 3 ⟨⟨#[103]⟩, 1, true⟩, .sub, pos1, st1, sigD_set sig0_D 3 _ ⟨by decide, by simp, by simp⟩, hp1, ?_⟩
    simp only [sig0, List.map_cons, List.map_nil] at hsg ⊢
    simp [v195, r195_0, r195_1, r195_2, r195_3, r195_4, r195_5, r195_6, r195_7, r195_8, r195_9, r195_10, r195_11, r195_12, r195_13, r195_14, r195_15, hc, hsg, hs1, DV.like, buildRow, List.replicate, splice, isCell_str, isCellA_d, safe_d, safeRegs, maskB, AV.frz, AV.frzC, frzL, chunks, cut, isCell_int, isCell_bool]
  by_cases c3 : r = 3
  · subst c3
    refine ⟨sig0.drop 1, .sub, pos1, st1, ⟨by decide, fun s hs => sig0_D.sym s (List.mem_of_mem_drop hs)⟩, hp1, ?_⟩
    simp only [sig0, List.map_cons, List.map_nil] at hsg ⊢
    simp [v195, r195_0, r195_1, r195_2, r195_3, r195_4, r195_5, r195_6, r195_7, r195_8, r195_9, r195_10, r195_11, r195_12, r195_13, r195_14, r195_15, hc, hsg]
  by_cases c4 : r = 4
  · subst c4
    obtain ⟨r2, B2, hr2, ⟨pos2, st2, hp2, rfl⟩, hc2⟩ := l1Below_at bs hl _ 0 h2 4 (by omega) (by omega)
    refine ⟨sig0.take r2.toNat, .sub, pos2, st2, ⟨by simp [sig0]; omega, fun s hs => sig0_D.sym s (List.mem_of_mem_take hs)⟩, hp2, ?_⟩
    simp only [List.set_cons_zero] at hc2
    have hle : r2.toNat ≤ 7 := by omega
    rw [List.map_take]
    simp only [sig0, List.map_cons, List.map_nil] at hsg ⊢
    simp [v195, r195_0, r195_1, r195_2, r195_3, r195_4, r195_5, r195_6, r195_7, r195_8, r195_9, r195_10, r195_11, r195_12, r195_13, r195_14, r195_15, hc, hsg, hc2, hr2.1, hle]
  by_cases c5 : r = 5
  · subst c5
    obtain ⟨j, hj, B2, ⟨pos2, st2, hp2, rfl⟩, hc2⟩ := l1Pick_at bs hl _ 0 h2 [⟨#[120, 50]⟩, ⟨#[120, 49]⟩] (by simp) (by simp)
    have hall : ∀ x : ByteArray, x ∈ ([⟨#[120, 50]⟩, ⟨#[120, 49]⟩] : List ByteArray) → x.size ≤ 9 := fun x hx => by
      simp only [List.mem_cons, List.not_mem_nil, or_false] at hx
      rcases hx with rfl | rfl <;> decide
    have hx := hall _ (List.getElem_mem hj)
    generalize ([⟨#[120, 50]⟩, ⟨#[120, 49]⟩] : List ByteArray)[j] = nm at hc2 hx
    refine ⟨sig0 ++ [⟨⟨#[120, 49]⟩, 0, false⟩, ⟨nm, 0, false⟩], U, pos2, st2, ⟨by simp [sig0], fun s hs => ?_⟩, hp2, ?_⟩
    · rcases List.mem_append.1 hs with h | h
      · exact sig0_D.sym s h
      · simp only [List.mem_cons, List.not_mem_nil, or_false] at h
        rcases h with rfl | rfl
        · exact ⟨by decide, by simp, by simp⟩
        · exact ⟨hx, by simp, by simp⟩
    · simp only [List.set_cons_zero] at hc2
      simp only [sig0, List.map_cons, List.map_nil] at hsg hc2 ⊢
      simp [v195, r195_0, r195_1, r195_2, r195_3, r195_4, r195_5, r195_6, r195_7, r195_8, r195_9, r195_10, r195_11, r195_12, r195_13, r195_14, r195_15, hc, hsg, hc2, buildRow, List.replicate, splice, isCell_str, isCell_int, isCell_bool, xappend]
  · refine ⟨sig0, .sub, pos1, st1, sig0_D, hp1, ?_⟩
    simp only [sig0, List.map_cons, List.map_nil] at hsg ⊢
    have b : ∀ k : Int, r ≠ k → (r == k) = false := fun k h => by simpa using h
    simp [v195, r195_0, r195_1, r195_2, r195_3, r195_4, r195_5, r195_6, r195_7, r195_8, r195_9, r195_10, r195_11, r195_12, r195_13, r195_14, r195_15, hc, hsg, b _ c0, b _ c1, b _ c2, b _ c3, b _ c4, b _ c5, safeRegs, maskB, AV.frz, AV.frzC]
end Go.Proofs.Ytidlpcgcolcfgaa.VS
namespace Go.Proofs.Ytidlpcgcolcfgaa.VS
set_option linter.unusedVariables false
set_option linter.unusedSimpArgs false
/-! ## Rows of whole numbers that lie in boxes: marks -/
def mk : Nat → Nat → List Int
  | 0, _ => []
  | n + 1, k => (k : Int) :: mk n (k + 1)
end Go.Proofs.Ytidlpcgcolcfgaa.VS
namespace Go.Proofs.Ytidlpcgcolcfgaa.VS
set_option linter.unusedVariables false
set_option linter.unusedSimpArgs false
end Go.Proofs.Ytidlpcgcolcfgaa.VS
namespace Go.Proofs.Ytidlpcgcolcfgaa.VS
set_option linter.unusedVariables false
set_option linter.unusedSimpArgs false
def arityB (l : List SymL) (f : Int) : Int := if symIn l f then (symAt l f.toNat).arity else -1
theorem implArityOf_eq (l : List SymL) (hl : l.length ≤ 1099511627776) (f : Int) : callX XV 28 [.d (sg l), .d (.int .i64 f)] [] = some (.d (.int .i64 (arityB l f)), []) := by
  rw [z_call XV _ _ _ v28 rfl xcode_28 rfl]
  have h := isSym_eq l hl f
  unfold arityB
  cases hs : symIn l f with
  | false =>
    rw [hs] at h
    simp [v28, r28_0, r28_1, r28_2, r28_3, h]
  | true =>
    rw [hs] at h
    obtain ⟨h1, h2⟩ := symIn_lt hs
    simp [v28, r28_0, r28_1, r28_2, r28_3, h, h1, h2, symAt_lt h2, cut]
theorem specArityOf_eq (l : List SymL) (hl : l.length ≤ 1099511627776) (f : Int) : callX XV 27 [.d (sg l), .d (.int .i64 f)] [] = some (.d (.int .i64 (arityB l f)), []) := by
  rw [z_call XV _ _ _ v27 rfl xcode_27 rfl]
  have hw : IntKind.i64.wrap ((l.length : Int) - 1) = l.length - 1 := wrap_i64 (by omega) (by omega)
  have h := l1In_eq f 0 (l.length - 1)
  unfold arityB symIn
  cases hs : inB f 0 (l.length - 1) with
  | false =>
    rw [hs] at h
    simp [v27, r27_0, r27_1, r27_2, r27_3, h, hw]
  | true =>
    rw [hs] at h
    obtain ⟨h1, h2⟩ := symIn_lt (l := l) (f := f) hs
    simp [v27, r27_0, r27_1, r27_2, r27_3, h, hw, h1, h2, symAt_lt h2, cut]
theorem datas_seed (bs : List Int) (pos st : Int) : datas (seedC bs pos st) = some [.sl .sub (bs.map (.int .u8)), .int .i64 pos, .int .i64 st] := by simp [seedC]
theorem drawSigOk_eq (bs : List Int) (hl : bs.length ≤ 1099511627776) : ∃ (l : List SymL) (g : Tag), SigD l ∧ callX XV 233 [.d (.sl .sub (bs.map (.int .u8)))] [] = some (.d (.sl g (l.map SymL.enc)), []) := by
  obtain ⟨st, h1⟩ := l1New_eq bs hl []
  obtain ⟨l, g, p2, s2, h2, _, h3⟩ := l2Draw_at bs hl 0 st ⟨Int.le_refl _, by omega⟩
  refine ⟨l, g, h2, ?_⟩
  simp only [List.nil_append, List.length_nil] at h1
  rw [z_call XV _ _ _ v233 rfl xcode_233 rfl]
  generalize l.map SymL.enc = lm at h3 ⊢
  simp [v233, r233_0, r233_1, h1, h3, datas_seed, clrs_seed]
theorem drawSigText_eq (bs : List Int) (hl : bs.length ≤ 1099511627776) : ∃ (l : List SymL) (g : Tag), SigD l ∧ callX XV 237 [.d (.sl .sub (bs.map (.int .u8)))] [] = some (.d (.sl g (l.map SymL.enc)), []) := by
  obtain ⟨st, h1⟩ := l1New_eq bs hl []
  obtain ⟨l, g, p2, s2, h2, _, h3⟩ := l2Draw_at bs hl 0 st ⟨Int.le_refl _, by omega⟩
  refine ⟨l, g, h2, ?_⟩
  simp only [List.nil_append, List.length_nil] at h1
  rw [z_call XV _ _ _ v237 rfl xcode_237 rfl]
  generalize l.map SymL.enc = lm at h3 ⊢
  simp [v237, r237_0, r237_1, h1, h3, datas_seed, clrs_seed]
theorem drawSymOf_eq (bs : List Int) (hl : bs.length ≤ 1099511627776) : ∃ (l : List SymL) (g : Tag) (s : ByteArray), SigD l ∧ callX XV 234 [.d (.sl .sub (bs.map (.int .u8)))] [] = some (.d (.tup [.sl g (l.map SymL.enc), .str s]), []) := by
  obtain ⟨st, h1⟩ := l1New_eq bs hl []
  obtain ⟨l, g, p2, s2, h2, hp2, h3⟩ := l2Draw_at bs hl 0 st ⟨Int.le_refl _, by omega⟩
  obtain ⟨j, hj, B2, ⟨pos2, st2, hp2, rfl⟩, hc2⟩ := l1Pick_at bs hl [some (seedC bs p2 s2)] 0 ⟨p2, s2, hp2, rfl⟩ [⟨#[102]⟩, ⟨#[116, 116]⟩, ⟨#[97]⟩, ⟨#[122, 122]⟩, ⟨#[]⟩] (by simp) (by simp)
  generalize ([⟨#[102]⟩, ⟨#[116, 116]⟩, ⟨#[97]⟩, ⟨#[122, 122]⟩, ⟨#[]⟩] : List ByteArray)[j] = nm at hc2
  refine ⟨l, g, nm, h2, ?_⟩
  simp only [List.nil_append, List.length_nil, List.map_cons, List.map_nil, List.set_cons_zero] at h1 hc2
  rw [z_call XV _ _ _ v234 rfl xcode_234 rfl]
  generalize l.map SymL.enc = lm at h3 ⊢
  simp [v234, r234_0, r234_1, r234_2, r234_3, h1, h3, hc2, datas_seed, clrs_seed, buildRow, List.replicate, isCell_str]
theorem drawBlind_eq (bs : List Int) (hl : bs.length ≤ 1099511627776) : ∃ (l : List SymL) (g : Tag) (f : Int), SigD l ∧ callX XV 235 [.d (.sl .sub (bs.map (.int .u8)))] [] = some (.d (.tup [.sl g (l.map SymL.enc), .int .i64 f]), []) := by
  obtain ⟨st, h1⟩ := l1New_eq bs hl []
  obtain ⟨l, g, p2, s2, h2, hp2, h3⟩ := l2Draw_at bs hl 0 st ⟨Int.le_refl _, by omega⟩
  obtain ⟨r, B2, hr, ⟨pos2, st2, hp2, rfl⟩, hc2⟩ := l1Below_at bs hl [some (seedC bs p2 s2)] 0 ⟨p2, s2, hp2, rfl⟩ 11 (by omega) (by omega)
  refine ⟨l, g, r - 2, h2, ?_⟩
  have hw : IntKind.i64.wrap (r - 2) = r - 2 := wrap_i64 (by omega) (by omega)
  simp only [List.nil_append, List.length_nil, List.set_cons_zero] at h1 hc2
  rw [z_call XV _ _ _ v235 rfl xcode_235 rfl]
  generalize l.map SymL.enc = lm at h3 ⊢
  simp [v235, r235_0, r235_1, r235_2, r235_3, h1, h3, hc2, hw, datas_seed, clrs_seed]
theorem drawArityOf_eq (bs : List Int) (hl : bs.length ≤ 1099511627776) : ∃ (l : List SymL) (g : Tag) (f : Int), SigD l ∧ callX XV 236 [.d (.sl .sub (bs.map (.int .u8)))] [] = some (.d (.tup [.sl g (l.map SymL.enc), .int .i64 f]), []) := by
  obtain ⟨l, g, f, h1, h2⟩ := drawBlind_eq bs hl
  refine ⟨l, g, f, h1, ?_⟩
  rw [z_call XV _ _ _ v236 rfl xcode_236 rfl]
  generalize l.map SymL.enc = lm at h2 ⊢
  simp [v236, r236_0, r236_1, r236_2, h2]
theorem drawNameOk_eq (bs : List Int) (hl : bs.length ≤ 1099511627776) : ∃ s : ByteArray, s.size ≤ 9 ∧ callX XV 238 [.d (.sl .sub (bs.map (.int .u8)))] [] = some (.d (.str s), []) := by
  obtain ⟨st, h1⟩ := l1New_eq bs hl []
  obtain ⟨j, hj, B2, hT, h2⟩ := l1Pick_at bs hl _ 0 (new_seed bs [] st) [⟨#[]⟩, ⟨#[97]⟩, ⟨#[97, 49]⟩, ⟨#[49, 97]⟩, ⟨#[65]⟩, ⟨#[97, 98, 99, 100, 101, 102, 103, 104]⟩, ⟨#[97, 98, 99, 100, 101, 102, 103, 104, 105]⟩, ⟨#[97, 95, 98]⟩] (by simp) (by simp)
  have hall : ∀ x : ByteArray, x ∈ ([⟨#[]⟩, ⟨#[97]⟩, ⟨#[97, 49]⟩, ⟨#[49, 97]⟩, ⟨#[65]⟩, ⟨#[97, 98, 99, 100, 101, 102, 103, 104]⟩, ⟨#[97, 98, 99, 100, 101, 102, 103, 104, 105]⟩, ⟨#[97, 95, 98]⟩] : List ByteArray) → x.size ≤ 9 := fun x hx => by
    simp only [List.mem_cons, List.not_mem_nil, or_false] at hx
    rcases hx with rfl | rfl | rfl | rfl | rfl | rfl | rfl | rfl <;> decide
  refine ⟨_, hall _ (List.getElem_mem hj), ?_⟩
  generalize ([⟨#[]⟩, ⟨#[97]⟩, ⟨#[97, 49]⟩, ⟨#[49, 97]⟩, ⟨#[65]⟩, ⟨#[97, 98, 99, 100, 101, 102, 103, 104]⟩, ⟨#[97, 98, 99, 100, 101, 102, 103, 104, 105]⟩, ⟨#[97, 95, 98]⟩] : List ByteArray)[j] = x at h2
  simp only [List.map_cons, List.map_nil, List.nil_append, List.length_nil] at h1 h2
  rw [z_call XV _ _ _ v238 rfl xcode_238 rfl]
  simp [v238, r238_0, r238_1, h1, h2, buildRow, List.replicate]
theorem findAt_no (q : Nat → Bool) : ∀ (k i : Nat), findAt q k i = none → ∀ j, i ≤ j → j < i + k → q j = false
  | 0, i, h, j, h1, h2 => by omega
  | k + 1, i, h, j, h1, h2 => by
    simp only [findAt] at h
    split at h
    · simp at h
    · rename_i hq
      by_cases hj : j = i
      · subst hj; simpa using hq
      · exact findAt_no q k (i + 1) h j (by omega) (by omega)
/-- Of right functions each name is one's, and each arity is told. -/
theorem sigOk_at {l : List SymL} (h : sigOkB l = true) {i : Nat} (hi : i < l.length) : symOfB l (symAt l i).name = i ∧ arityB l i = (symAt l i).arity := by
  have h0 : findAt (fun i => badSym l (symAt l i) i) l.length 0 = none := by
    unfold sigOkB at h
    simp only [Bool.and_eq_true, Option.isNone_iff_eq_none] at h
    exact h.1
  have h1 := findAt_no _ _ _ h0 i (by omega) (by omega)
  have h2 := ((badSym_false l (symAt l i) i).1 h1).2.1
  refine ⟨h2, ?_⟩
  unfold arityB
  have : symIn l i = true := by simp [symIn, inB]; omega
  rw [this]; simp
theorem sigs_loop (l : List SymL) (hd : SigD l) : loopX XV [] 0 [3, 12] b232_0 ⟨[(3, .d (sg l)), (12, .d (.int .i64 0))], []⟩ = some (.exit 0, ⟨[(3, .d (sg l)), (12, .d (.int .i64 l.length)), (89, .d (.bool false))], []⟩) ∨ loopX XV [] 0 [3, 12] b232_0 ⟨[(3, .d (sg l)), (12, .d (.int .i64 0))], []⟩ = some (.exit 0, ⟨[(3, .d (sg l)), (12, .d (.int .i64 0)), (89, .d (.bool false))], []⟩) := by
  have hl9 := hd.len
  have hok := implSigOk_eq l (by omega) (hd.nm _ (by omega))
  cases hs : sigOkB l with
  | false =>
    rw [hs] at hok
    right
    refine loopX_out (s0 := ⟨[(3, .d (sg l)), (12, .d (.int .i64 0))], []⟩) (by simp [xheadOf, safeRegs]) ?_ (by simp)
    by_cases c : 0 < l.length
    · simp [b232_0, r232_0, r232_1, r232_2, r232_3, r232_4, r232_5, r232_6, r232_7, r232_8, r232_9, r232_10, r232_11, d232_13, r232_14, r232_12, r232_15, hok, c]
    · have : l.length = 0 := by omega
      simp [b232_0, r232_0, r232_1, r232_2, r232_3, r232_4, r232_5, r232_6, r232_7, r232_8, r232_9, r232_10, r232_11, d232_13, r232_14, r232_12, r232_15, hok, this]
  | true =>
    rw [hs] at hok
    left
    have h := loopX_upto (X := XV) (T := []) (L := 0) (live := [3, 12]) (b := b232_0) (n := l.length) (γ := Unit) (st := fun (_ : Unit) i => ⟨[(3, .d (sg l)), (12, .d (.int .i64 i))], []⟩) (step := fun _ _ => .inl ())
      (F := fun _ => (.exit 0, ⟨[(3, .d (sg l)), (12, .d (.int .i64 l.length)), (89, .d (.bool false))], []⟩)) (R := fun _ => (.ret, ⟨[], []⟩))
      (fun _ => ⟨by simp, by simp [b232_0, r232_0, r232_1, r232_2, r232_3, r232_4, r232_5, r232_6, r232_7, r232_8, r232_9, r232_10, r232_11, d232_13, r232_14, r232_12, r232_15]⟩)
      (fun _ i hi => by
        have hw := wrap_succ (n := i) (by omega)
        obtain ⟨e1, e2⟩ := sigOk_at hs hi
        have s1 := implSymOf_eq l (symAt l i).name (by omega)
        have s2 := implArityOf_eq l (by omega) i
        rw [e1] at s1; rw [e2] at s2
        exact ⟨_, by simp [b232_0, r232_0, r232_1, r232_2, r232_3, r232_4, r232_5, r232_6, r232_7, r232_8, r232_9, r232_10, r232_11, d232_13, r232_14, r232_12, r232_15, hok, hi, hw, cut, symAt_lt hi, s1, s2]; rfl, by simp [xheadOf, safeRegs]⟩)
      l.length () 0 ⟨[(3, .d (sg l)), (12, .d (.int .i64 0))], []⟩ (by omega) (by simp [xheadOf, safeRegs])
    rw [run_on] at h
    exact h
theorem FnSigs_x (bs : List Int) (hl : bs.length ≤ maxLen) : ∃ B, callX XV 232 [.d (.sl .sub (bs.map (.int .u8)))] [] = some (.d (.bool true), B) := by
  rw [z_call XV _ _ _ v232 rfl xcode_232 rfl]
  have hbig := big_eq bs
  by_cases h1 : 1048576 < bs.length
  · simp only [h1, decide_true] at hbig
    simp [v232, r232_0, r232_1, r232_2, r232_3, r232_4, r232_5, r232_6, r232_7, r232_8, r232_9, r232_10, r232_11, d232_13, r232_14, r232_12, r232_15, hbig]
  have hls : bs.length ≤ 1099511627776 := by omega
  simp only [h1, decide_false] at hbig
  obtain ⟨s, g1, hs, d1⟩ := drawSigOk_eq bs hls
  obtain ⟨t, g2, tn, ht, d2⟩ := drawSymOf_eq bs hls
  obtain ⟨u, g3, uf, hu, d3⟩ := drawBlind_eq bs hls
  obtain ⟨v, g4, vf, hv, d4⟩ := drawArityOf_eq bs hls
  obtain ⟨x, g5, hx, d5⟩ := drawSigText_eq bs hls
  obtain ⟨nm, hn, d6⟩ := drawNameOk_eq bs hls
  have a1 := implSigOk_eq s (by have := hs.len; omega) (hs.nm _ (by omega))
  have a2 := specSigOk_eq s (by have := hs.len; omega) (hs.nm _ (by omega))
  have b1 := implSymOf_eq t tn (by have := ht.len; omega)
  have b2 := specSymOf_eq t tn (by have := ht.len; omega)
  have c1 := implBlind_eq u (by have := hu.len; omega) uf
  have c2 := specBlind_eq u (by have := hu.len; omega) uf
  have e1 := implArityOf_eq v (by have := hv.len; omega) vf
  have e2 := specArityOf_eq v (by have := hv.len; omega) vf
  have f1 := implSigText_eq x (by have := hx.len; omega) hx.ok (hx.nm _ (by omega))
  have f2 := specSigText_eq x (by have := hx.len; omega) hx.ok (hx.nm _ (by omega))
  have k1 := implNameOk_eq nm (by omega)
  have k2 := specNameOk_eq nm (by omega)
  rw [nameOk_same] at k1
  have hloop := sigs_loop s hs
  generalize sigOkB s = bb at a1 a2
  generalize symOfB t tn = tk at b1 b2
  generalize blindB u uf = ub at c1 c2
  generalize arityB v vf = vk at e1 e2
  generalize txt (sigP x) blankB x.length = xt at f1 f2
  generalize nameOk nm = nb at k1 k2
  simp only [sg] at *
  rcases hloop with hloop | hloop
  · refine ⟨[], ?_⟩
    simp [v232, r232_0, r232_1, r232_2, r232_3, r232_4, r232_5, r232_6, r232_7, r232_8, r232_9, r232_10, r232_11, d232_13, r232_14, r232_12, r232_15, hbig, d1, d2, d3, d4, d5, d6, a1, a2, b1, b2, c1, c2, e1, e2, f1, f2, k1, k2, strEq_self]
    rw [hloop]
    simp [v232, r232_0, r232_1, r232_2, r232_3, r232_4, r232_5, r232_6, r232_7, r232_8, r232_9, r232_10, r232_11, d232_13, r232_14, r232_12, r232_15]
  · refine ⟨[], ?_⟩
    simp [v232, r232_0, r232_1, r232_2, r232_3, r232_4, r232_5, r232_6, r232_7, r232_8, r232_9, r232_10, r232_11, d232_13, r232_14, r232_12, r232_15, hbig, d1, d2, d3, d4, d5, d6, a1, a2, b1, b2, c1, c2, e1, e2, f1, f2, k1, k2, strEq_self]
    rw [hloop]
    simp [v232, r232_0, r232_1, r232_2, r232_3, r232_4, r232_5, r232_6, r232_7, r232_8, r232_9, r232_10, r232_11, d232_13, r232_14, r232_12, r232_15]
end Go.Proofs.Ytidlpcgcolcfgaa.VS
namespace Go.Proofs.Ytidlpcgcolcfgaa.VS
set_option linter.unusedVariables false
set_option linter.unusedSimpArgs false
/-! ## From a law's arguments to values without names -/
mutual
def TT.erase : TT → T
  | .node f v g ks => .node f v (TT.erases ks)
def TT.erases : List TT → List T
  | [] => []
  | t :: r => t.erase :: TT.erases r
end
mutual
theorem TT.clr_cells : ∀ t : TT, DV.clrs t.cells = [.int .i64 t.erase.f, .int .i64 t.erase.v, terms .sub t.erase.kids]
  | .node f v g ks => by
    simp only [TT.cells, DV.clrs, DV.clr, TT.erase, T.f_node, T.v_node, T.kids_node, terms]
    rw [TT.clr_encs ks]
theorem TT.clr_encs : ∀ l : List TT, DV.clrs (TT.encs l) = (TT.erases l).map (T.enc .sub)
  | [] => by simp [TT.encs, DV.clrs, TT.erases]
  | t :: r => by
    simp only [TT.encs, DV.clrs, DV.clr, TT.erases, List.map_cons]
    rw [TT.clr_cells t, TT.clr_encs r, T.enc_eq]
end
theorem TT.clr_enc (t : TT) : t.enc.clr = t.erase.enc .sub := by
  simp only [TT.enc, DV.clr]
  rw [TT.clr_cells, T.enc_eq]
theorem plain_of_X (hX : XOK XV) {k : Nat} {vs : List DV} (h : ∃ B, callX XV k ((DV.clrs vs).map .d) [] = some (.d (.bool true), B)) : ∃ A B, callV E [] k (vs.map .d) [] Ids.none = some ⟨.d (.bool true), A, B⟩ := by
  obtain ⟨B, h⟩ := h
  obtain ⟨u, A, Bv, h1, h2⟩ := law_of_X hX (DV.clrs_clrs vs) (DV.clrs_fits vs) (d := .bool true) (by simp [DV.clr]) h
  simp only [DV.fit] at h2; subst h2
  exact ⟨A, Bv, h1⟩
theorem args1 {P : Program} {a : TypeId} : ∀ {xs : List (List DV)}, Args P [a] xs → ∃ x, xs = [x]
  | [x], _ => ⟨x, rfl⟩
  | [], h => h.elim
  | _ :: _ :: _, h => h.2.elim
end Go.Proofs.Ytidlpcgcolcfgaa.VS
namespace Go.Proofs.Ytidlpcgcolcfgaa.VS
set_option linter.unusedVariables false
set_option linter.unusedSimpArgs false
/-- A literal. -/
structure L where
  p : Bool
  a : T
  b : T
def L.enc (g : Tag) (x : L) : DV := .agg [.bool x.p, .int .i64 x.a.f, .int .i64 x.a.v, terms g x.a.kids, .int .i64 x.b.f, .int .i64 x.b.v, terms g x.b.kids]
def L.ok (x : L) : Prop := x.a.ok ∧ x.b.ok
@[simp] theorem L.cells_enc (g : Tag) (x : L) : (x.enc g).cells = [.bool x.p, .int .i64 x.a.f, .int .i64 x.a.v, terms g x.a.kids, .int .i64 x.b.f, .int .i64 x.b.v, terms g x.b.kids] := rfl
@[simp] theorem L.cellsA_enc (g : Tag) (x : L) : (AV.d (x.enc g)).cells = [.d (.bool x.p), .d (.int .i64 x.a.f), .d (.int .i64 x.a.v), .d (terms g x.a.kids), .d (.int .i64 x.b.f), .d (.int .i64 x.b.v), .d (terms g x.b.kids)] := rfl
@[simp] theorem L.isCell_enc (g : Tag) (x : L) : (x.enc g).isCell = false := rfl
@[simp] theorem L.clr_enc (g : Tag) (x : L) : (x.enc g).clr = x.enc .sub := by
  simp only [L.enc, DV.clr, DV.clrs, terms, DV.clrs_map, clr_terms]
theorem L.agg_enc (g : Tag) (x : L) : DV.agg [.bool x.p, .int .i64 x.a.f, .int .i64 x.a.v, terms g x.a.kids, .int .i64 x.b.f, .int .i64 x.b.v, terms g x.b.kids] = x.enc g := rfl
def L.cmp (x y : L) : Int := if !x.p && y.p then -1 else if x.p && !y.p then 1 else if T.cmp x.a y.a ≠ 0 then T.cmp x.a y.a else T.cmp x.b y.b
def L.same (x y : L) : Bool := x.p == y.p && (T.cmp x.a y.a == 0) && (T.cmp x.b y.b == 0)
end Go.Proofs.Ytidlpcgcolcfgaa.VS
namespace Go.Proofs.Ytidlpcgcolcfgaa.VS
set_option linter.unusedVariables false
set_option linter.unusedSimpArgs false
end Go.Proofs.Ytidlpcgcolcfgaa.VS
namespace Go.Proofs.Ytidlpcgcolcfgaa.VS
set_option linter.unusedVariables false
set_option linter.unusedSimpArgs false
end Go.Proofs.Ytidlpcgcolcfgaa.VS
namespace Go.Proofs.Ytidlpcgcolcfgaa.VS
set_option linter.unusedVariables false
set_option linter.unusedSimpArgs false
def headBad (l : List SymL) (f v : Int) (n : Nat) : Bool :=
  if symIn l f = true then
    if v = 0 then (if (symAt l f.toNat).ac = true then decide ((n : Int) < 2) else !decide ((n : Int) = (symAt l f.toNat).arity))
    else true
  else true
/-- A Kid that may not stand there, if it is right by itself. -/
def outOf (l : List SymL) (f : Int) (ks : List T) (i : Nat) : Bool :=
  if (symAt l f.toNat).ac = true then (if (tAt ks i).f = f then true else if i = 0 then false else decide (T.cmp (tAt ks i) (tAt ks (i - 1)) < 0)) else false
mutual
def T.form (l : List SymL) : T → Bool
  | .node f v ks =>
    if f = -1 then inB v 0 99 && decide (ks.length = 0)
    else if headBad l f v ks.length = true then false
    else (findAt (fun i => !((T.forms l ks)[i]?).getD false || outOf l f ks i) ks.length 0).isNone
def T.forms (l : List SymL) : List T → List Bool
  | [] => []
  | t :: r => T.form l t :: T.forms l r
end
end Go.Proofs.Ytidlpcgcolcfgaa.VS
namespace Go.Proofs.Ytidlpcgcolcfgaa.VS
set_option linter.unusedVariables false
set_option linter.unusedSimpArgs false
/-! ## Substitutions -/
structure Bd where
  v : Int
  t : T
def Bd.enc (g : Tag) (b : Bd) : DV := .agg [.int .i64 b.v, .int .i64 b.t.f, .int .i64 b.t.v, terms g b.t.kids]
def Bd.ok (b : Bd) : Prop := (-9223372036854775808 ≤ b.v ∧ b.v ≤ 9223372036854775807) ∧ b.t.ok
abbrev binds (g : Tag) (l : List Bd) : DV := .sl g (l.map (Bd.enc g))
@[simp] theorem Bd.cells_enc (g : Tag) (x : Bd) : (x.enc g).cells = [.int .i64 x.v, .int .i64 x.t.f, .int .i64 x.t.v, terms g x.t.kids] := rfl
@[simp] theorem Bd.cellsA_enc (g : Tag) (x : Bd) : (AV.d (x.enc g)).cells = [.d (.int .i64 x.v), .d (.int .i64 x.t.f), .d (.int .i64 x.t.v), .d (terms g x.t.kids)] := rfl
@[simp] theorem Bd.isCell_enc (g : Tag) (x : Bd) : (x.enc g).isCell = false := rfl
@[simp] theorem Bd.isAgg_enc (g : Tag) (x : Bd) : isAgg (x.enc g) = true := rfl
@[simp] theorem Bd.clr_enc (g : Tag) (x : Bd) : (x.enc g).clr = x.enc .sub := by
  simp only [Bd.enc, DV.clr, DV.clrs, terms, DV.clrs_map, clr_terms]
@[simp high] theorem Bd.clr_encs (g : Tag) (l : List Bd) : (l.map (Bd.enc g)).map DV.clr = l.map (Bd.enc .sub) := by simp [List.map_map, Function.comp_def]
@[simp] theorem Bd.agg_enc (g : Tag) (x : Bd) : DV.agg [.int .i64 x.v, .int .i64 x.t.f, .int .i64 x.t.v, terms g x.t.kids] = x.enc g := rfl
end Go.Proofs.Ytidlpcgcolcfgaa.VS
namespace Go.Proofs.Ytidlpcgcolcfgaa.VS
set_option linter.unusedVariables false
set_option linter.unusedSimpArgs false
variable {P : Program}
/-! ## Literals, and rows of what a type's values are -/
structure LL where
  p : Bool
  a : TT
  b : TT
def LL.cells (x : LL) : List DV := .bool x.p :: (x.a.cells ++ x.b.cells)
def LL.enc (x : LL) : DV := .agg x.cells
def LL.ok (x : LL) : Prop := x.a.ok ∧ x.b.ok
def LL.erase (x : LL) : L := ⟨x.p, x.a.erase, x.b.erase⟩
theorem LL.clr_enc (x : LL) : x.enc.clr = x.erase.enc .sub := by
  have ha := TT.clr_cells x.a
  have hb := TT.clr_cells x.b
  rw [DV.clrs_map] at ha hb
  simp only [LL.enc, LL.cells, DV.clr, DV.clrs_map, List.map_cons, List.map_append, ha, hb, LL.erase, L.enc]
  rfl
/-- A row of values of one type, each of which is some thing's cells. -/
theorem shape_listOf {α : Type} (c : α → List DV) (ok : α → Prop) {t e : TypeId} {x : List DV} (hu : P.underlying t = some (.slice e)) (hE : ∀ y : List DV, Shape P e y → ∃ s : α, y = c s ∧ ok s) (h : Shape P t x) :
    ∃ (g : Tag) (l : List α), x = [.sl g (l.map fun s => elemDV P e (c s))] ∧ l.length ≤ maxLen ∧ ∀ s, s ∈ l → ok s := by
  obtain ⟨g, xs, rfl, q1, q2, q3, q4⟩ := shape_slice hu h
  have key : ∀ xs : List DV, (∀ y : DV, y ∈ xs → y = elemDV P e y.cells) → (∀ y : DV, y ∈ xs → Shape P e y.cells) → ∃ l : List α, xs = (l.map fun s => elemDV P e (c s)) ∧ ∀ s, s ∈ l → ok s := by
    intro xs
    induction xs with
    | nil => intro _ _; exact ⟨[], rfl, by simp⟩
    | cons y r ih =>
      intro p1 p2
      obtain ⟨l, rfl, hl⟩ := ih (fun z hz => p1 z (by simp [hz])) (fun z hz => p2 z (by simp [hz]))
      obtain ⟨s, hs, hok⟩ := hE _ (p2 y (by simp))
      refine ⟨s :: l, ?_, by simpa [hok] using hl⟩
      have := p1 y (by simp)
      rw [hs] at this
      rw [List.map_cons, ← this]
  obtain ⟨l, rfl, hl⟩ := key xs q3 q4
  exact ⟨g, l, rfl, by simpa using q1, hl⟩
/-! Rows of terms -/
/-! Substitutions -/
structure BB where
  v : Int
  t : TT
def BB.cells (x : BB) : List DV := .int .i64 x.v :: x.t.cells
def BB.enc (x : BB) : DV := .agg x.cells
def BB.ok (x : BB) : Prop := (-9223372036854775808 ≤ x.v ∧ x.v ≤ 9223372036854775807) ∧ x.t.ok
def BB.erase (x : BB) : Bd := ⟨x.v, x.t.erase⟩
theorem BB.clr_enc (x : BB) : x.enc.clr = x.erase.enc .sub := by
  have ha := TT.clr_cells x.t
  rw [DV.clrs_map] at ha
  simp only [BB.enc, BB.cells, DV.clr, DV.clrs_map, List.map_cons, ha, BB.erase, Bd.enc]
/-! Bytes -/
def bytesL (g : Tag) (l : List Int) : DV := .sl g (l.map (.int .u8))
theorem clr_bytesL (g : Tag) (l : List Int) : (bytesL g l).clr = .sl .sub (l.map (.int .u8)) := by
  simp only [bytesL, clr_sl, List.map_map, Function.comp_def, clr_int]
theorem shape_bytes {t e : TypeId} {x : List DV} (hu : P.underlying t = some (.slice e)) (he : P.underlying e = some (.int .u8)) (h : Shape P t x) : ∃ g l, x = [bytesL g l] ∧ l.length ≤ maxLen := by
  obtain ⟨g, l, rfl, h1, _⟩ := shape_listOf (fun n : Int => [DV.int .u8 n]) (fun _ => True) hu (fun y hy => by
    obtain ⟨n, rfl, _⟩ := shape_int he hy
    exact ⟨n, rfl, trivial⟩) h
  exact ⟨g, l, by simp [bytesL, elemDV, he], h1⟩
end Go.Proofs.Ytidlpcgcolcfgaa.VS
