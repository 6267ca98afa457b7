/- Contracts of the program's functions on the evaluator without names, and plain lemmas: part 2. -/
import Derived.Test.YtidlpcgcolcfgaaXP1
import Derived.Test.YtidlpcgcolcfgaaNat1
import Derived.Test.YtidlpcgcolcfgaaEngC
import Derived.Shelf.Spec.SlicesInsertGrow
import Derived.Laws.AppendOwn
set_option linter.unusedSimpArgs false
set_option linter.unusedVariables false
namespace Go.Proofs.Ytidlpcgcolcfgaa.VS
def dst (n : Int) (neg : Bool) (s : ByteArray) : XS := ⟨[(0, .d (.int .i64 n)), (3, .d (.bool neg)), (4, .d (.str s))], []⟩
end Go.Proofs.Ytidlpcgcolcfgaa.VS
namespace Go.Proofs.Ytidlpcgcolcfgaa.VS
end Go.Proofs.Ytidlpcgcolcfgaa.VS
namespace Go.Proofs.Ytidlpcgcolcfgaa.VS
end Go.Proofs.Ytidlpcgcolcfgaa.VS
namespace Go.Proofs.Ytidlpcgcolcfgaa.VS
def sig0 : List SymL := [⟨⟨#[116, 116]⟩, 0, false⟩, ⟨⟨#[97]⟩, 0, false⟩, ⟨⟨#[98]⟩, 0, false⟩, ⟨⟨#[103]⟩, 1, false⟩, ⟨⟨#[104]⟩, 2, false⟩, ⟨⟨#[102]⟩, 2, true⟩, ⟨⟨#[107]⟩, 2, true⟩]
theorem l2Sig_eq : callX XV 155 [] [] = some (.d (.sl U (sig0.map SymL.enc)), []) := by
 rw [z_call XV _ _ _ v155 rfl xcode_155 rfl]
 simp [v155, r155_0, r155_1, sig0, buildRow, List.replicate, splice]
structure SigD (l : List SymL) : Prop where
 len : l.length ≤ 9
 sym : ∀ s, s ∈ l → s.name.size ≤ 9 ∧ -1 ≤ s.arity ∧ s.arity ≤ 4
theorem SigD.ok {l : List SymL} (h : SigD l) : ∀ s, s ∈ l → s.ok := fun s hs => by
 obtain ⟨h1, h2, h3⟩ := h.sym s hs
 exact ⟨by unfold maxLen; omega, by omega, by omega⟩
theorem like_u8 (x y : Int) (r : DV) : (DV.int .u8 x).like r = (DV.int .u8 y).like r := by cases r <;> rfl
theorem fm_bytes (bs : List Int) : (bs.map (DV.int .u8)).flatMap DV.cells = bs.map (DV.int .u8) := by
 induction bs with
 | nil => rfl
 | cons b r ih => simp only [List.map_cons, List.flatMap_cons, ih, DV.cells, List.singleton_append]
theorem xrests_bytes (rs : List DV) : ∀ bs : List Int, DV.xrests rs (bs.map (.int .u8)) = true
 | [] => by simp [DV.xrests]
 | b :: r => by simp [DV.xrests, DV.xrest, xrests_bytes rs r]
theorem xrest_bytes (rs : List DV) (h : rs.all (fun r => !(DV.int .u8 0).like r) = true) (bs : List Int) : DV.xrest rs (.sl .sub (bs.map (.int .u8))) = true := by
 simp only [DV.xrest, xrests_bytes, Bool.and_true, fm_bytes]
 cases bs with
 | nil => rfl
 | cons b r =>
  have : (rs.all fun r => !(DV.int .u8 b).like r) = true := by
   rw [← h]; congr 1; funext r; rw [like_u8 b 0]
  simp [this]
theorem xrest_seed (rs : List DV) (h : rs.all (fun r => !(DV.int .u8 0).like r) = true) (bs : List Int) (pos st : Int) : cellsRest rs (seedC bs pos st) = true := by
 simp only [cellsRest, seedC, List.all_cons, List.all_nil, AV.xrest]
 rw [xrest_bytes rs h bs]
 simp only [DV.xrest, Bool.and_self]
@[simp] theorem isAgD_sym (s : SymL) : isAgD s.enc = true := rfl
@[simp] theorem xrest_sym (rs : List DV) (s : SymL) : DV.xrest rs s.enc = true := by
 show DV.xrest rs (.agg [.str s.name, .int .i64 s.arity, .bool s.ac]) = true
 simp only [DV.xrest, DV.xrests, Bool.and_self]
theorem clrs_seed (bs : List Int) (pos st : Int) : AV.clrs (seedC bs pos st) = seedC bs pos st := by simp [seedC]
end Go.Proofs.Ytidlpcgcolcfgaa.VS
namespace Go.Proofs.Ytidlpcgcolcfgaa.VS
mutual
def T.rng : T → Prop
 | .node _ v ks => (-9223372036854775808 ≤ v ∧ v ≤ 9223372036854775807) ∧ T.rngs ks
def T.rngs : List T → Prop
 | [] => True
 | t :: r => t.rng ∧ T.rngs r
end
theorem T.rngs_iff : ∀ l : List T, T.rngs l ↔ ∀ t, t ∈ l → t.rng
 | [] => by simp [T.rngs]
 | t :: r => by simp [T.rngs, T.rngs_iff r]
end Go.Proofs.Ytidlpcgcolcfgaa.VS
namespace Go.Proofs.Ytidlpcgcolcfgaa.VS
theorem turned_app {bs : List Int} {q : Nat} {B R B' : Boxs} (hq : q < B.length) (h : Turned bs q (B ++ R) B') : ∃ B1, Turned bs q B B1 ∧ B1.length = B.length ∧ B' = B1 ++ R := by
 obtain ⟨pos, st, hp, rfl⟩ := h
 exact ⟨B.set q (some (seedC bs pos st)), ⟨pos, st, hp, rfl⟩, by simp, by rw [List.set_append_left _ _ hq]⟩
theorem SeedAt.app {bs : List Int} {q : Nat} {B : Boxs} (h : SeedAt bs q B) (R : Boxs) : SeedAt bs q (B ++ R) := by
 have hq := h.lt
 obtain ⟨pos, st, hp, hb⟩ := h
 exact ⟨pos, st, hp, by have := bget_iff hb; simp [bget, List.getElem?_append_left hq, this]⟩
theorem bx_get (A : Boxs) (c : Option (List AV)) (L : Nat) (h : A.length = L) : (A ++ [c])[L]? = some c := by subst h; simp
theorem bx_set (A : Boxs) (c c' : Option (List AV)) (L : Nat) (h : A.length = L) : (A ++ [c]).set L c' = A ++ [c'] := by subst h; simp
theorem bx_take (A : Boxs) (c : Option (List AV)) (L : Nat) (h : A.length = L) : (A ++ [c]).take L = A := by subst h; simp
theorem once_at (bs : List Int) (hl : bs.length ≤ 1099511627776) (B : Boxs) (i : Nat) (h : SeedAt bs i B) (n : Int) (hn : 0 < n) (hn2 : n ≤ 256) : ∃ (b : Bool) (B' : Boxs), Turned bs i B B' ∧ callX XV 162 [.ptr i 0, .d (.int .i64 n)] B = some (.d (.bool b), B') := by
 obtain ⟨r, B', hr, hT, hc⟩ := l1Below_at bs hl B i h n hn hn2
 have hi := h.lt
 have hlen := hT.len
 have htake : List.take B.length B' = B' := List.take_of_length_le (by omega)
 refine ⟨r == 0, B', hT, ?_⟩
 rw [z_call XV _ _ _ v162 rfl xcode_162 rfl]
 simp [v162, r162_0, r162_1, hc, htake, hi]
theorem l3OfU_eq (f : Int) (ks : List T) : callX XV 164 [.d (.int .i64 f), .d (terms .sub ks)] [] = some (.d ((T.node f 0 ks).enc .sub), []) := by
 rw [z_call XV _ _ _ v164 rfl xcode_164 rfl]
 simp [v164, r164_0, r164_1, splice, isCell_int, isCell_sl, isCellA_d, safe_d, loadBox]
theorem wrap_pred {n : Nat} (h : n < 9223372036854775808) : IntKind.i64.wrap (((n + 1 : Nat) : Int) - 1) = n := by
 rw [show ((n + 1 : Nat) : Int) - 1 = n by omega]; exact wrap_i64 (by omega) (by omega)
def leaf166 : VCode := (.seq (.seq (.region false 0 [0, 2, 6, 20] r166_2) (.cond (.t 20) (.seq (.region false 0 [6] r166_3) .ret) .skip)) (.seq (.region false 0 [6] r166_4) .ret))
def deep166 : VCode := (.seq (.region false 0 [0, 1, 2, 6, 7] r166_5) (.seq (.region false 0 [0, 1, 2, 6, 7, 8] r166_6) (.seq (.seq (.region false 0 [0, 1, 2, 6, 7, 8, 39] r166_7) (.cond (.t 39) (.region false 0 [6, 7, 8] r166_8) .skip)) (.seq (.region false 0 [6] r166_9) .ret))))
def body166 : VCode := .seq (.seq (.region false 0 [0, 1, 2, 6, 14] r166_1) (.cond (.t 14) leaf166 .skip)) deep166
theorem v166_eq : v166 = ⟨3, [.cell 6 true 3], .seq (.region false 1 [0, 1, 2, 6] r166_0) body166⟩ := rfl
theorem drawLeaf (bs : List Int) (hl : bs.length ≤ 1099511627776) (deep vars : Int) (hv : vars ≤ 256) (B : Boxs) (q : Nat) (h : SeedAt bs q B) (L : Nat) (hL : B.length = L) (C : Option (List AV)) (hC : C = some [.d (.int .i64 0), .d (.int .i64 0), .d (.sl U [])]) :
  ∃ (t : T) (g : Tag) (B' : Boxs), (t.inner = 0 ∧ t.rng) ∧ Turned bs q B B' ∧ B'.length = L ∧
   codeX XV (XV.lin 166) leaf166 ⟨[(0, .ptr q 0), (1, .d (.int .i64 deep)), (2, .d (.int .i64 vars)), (6, .ptr L 0), (14, .d (.bool true))], B ++ [C]⟩ =
    some (.ret, ⟨[(6, .ptr L 0)], B' ++ [some [.d (.int .i64 t.f), .d (.int .i64 t.v), .d (.sl g (t.kids.map (T.enc g)))]]⟩) := by
 subst hC
 have hq := h.lt
 have leaf2 : ∀ B1 : Boxs, Turned bs q B B1 → B1.length = L → ∃ (t : T) (g : Tag) (B' : Boxs), (t.inner = 0 ∧ t.rng) ∧ Turned bs q B B' ∧ B'.length = L ∧
   ∀ b20 : AV, codeX XV (XV.lin 166) (.seq (.region false 0 [6] r166_4) .ret) ⟨[(0, .ptr q 0), (2, .d (.int .i64 vars)), (6, .ptr L 0), (20, b20)], B1 ++ [some [.d (.int .i64 0), .d (.int .i64 0), .d (.sl U [])]]⟩ =
    some (.ret, ⟨[(6, .ptr L 0)], B' ++ [some [.d (.int .i64 t.f), .d (.int .i64 t.v), .d (.sl g (t.kids.map (T.enc g)))]]⟩) := by
  intro B1 hT1 hL1
  obtain ⟨r, B2, hr, hT2, hc⟩ := l1Below_at bs hl _ q ((hT1.at hq).app [some [.d (.int .i64 0), .d (.int .i64 0), .d (.sl U [])]]) 2 (by omega) (by omega)
  obtain ⟨B3, hT3, hL3, rfl⟩ := turned_app (by omega) hT2
  rw [hL1] at hL3
  have hw : IntKind.i64.wrap (1 + r) = 1 + r := wrap_i64 (by omega) (by omega)
  refine ⟨.node (1 + r) 0 [], U, B3, by simp [T.inner, T.inners, T.rng, T.rngs], hT1.trans hT3, hL3, fun b20 => ?_⟩
  simp [r166_4, hc, hw, hL3, bx_get, bx_set, splice, isCell_int, isCell_sl, isCellA_d, safe_d]
 by_cases hv0 : 0 < vars
 ·obtain ⟨b, B2, hT2, hc⟩ := once_at bs hl _ q (h.app [some [.d (.int .i64 0), .d (.int .i64 0), .d (.sl U [])]]) 2 (by omega) (by omega)
  obtain ⟨B3, hT3, hL3, rfl⟩ := turned_app hq hT2
  cases b with
  | true =>
   obtain ⟨r, B4, hr, hT4, hc4⟩ := l1Below_at bs hl _ q ((hT3.at hq).app [some [.d (.int .i64 0), .d (.int .i64 0), .d (.sl U [])]]) vars hv0 hv
   obtain ⟨B5, hT5, hL5, rfl⟩ := turned_app (by omega) hT4
   have hlv := l3Var_eq r
   rw [hL3, hL] at hL5
   refine ⟨.node (-1) r [], U, B5, by simp [T.inner, T.inners, T.rng, T.rngs]; omega, hT3.trans hT5, hL5, ?_⟩
   simp [leaf166, r166_2, r166_3, hv0, hc, hc4, hlv, hL5, bx_get, bx_set, splice, isCell_int, isCell_sl, isCellA_d, safe_d]
  | false =>
   obtain ⟨t, g, B', h1, h2, h3, h4⟩ := leaf2 B3 hT3 (by omega)
   refine ⟨t, g, B', h1, h2, h3, ?_⟩
   have h4' := h4 (.d (.bool false))
   simp only [lin_166] at h4'
   simp [leaf166, r166_2, hv0, hc]
   simpa using h4'
 ·obtain ⟨t, g, B', h1, h2, h3, h4⟩ := leaf2 B (by
   obtain ⟨pos, st, hp, hb⟩ := h
   refine ⟨pos, st, hp, ?_⟩
   apply List.ext_getElem?
   intro j
   by_cases hj : q = j
   ·subst hj; rw [List.getElem?_set_self', bget_iff hb]; simp
   ·rw [List.getElem?_set_ne hj]) hL
  refine ⟨t, g, B', h1, h2, h3, ?_⟩
  have h4' := h4 (.d (.bool false))
  simp only [lin_166] at h4'
  simp [leaf166, r166_2, hv0]
  simpa using h4'
theorem body_fin (L : Nat) (B B' : Boxs) (q : Nat) (deep vars : Int) (t : T) (g : Tag) (hq : q < B.length) (hL : B.length = L) (hL' : B'.length = L)
  (h : codeX XV (XV.lin 166) body166 ⟨[(0, .ptr q 0), (1, .d (.int .i64 deep)), (2, .d (.int .i64 vars)), (6, .ptr L 0)], B ++ [some [.d (.int .i64 0), .d (.int .i64 0), .d (.sl U [])]]⟩ =
    some (.ret, ⟨[(6, .ptr L 0)], B' ++ [some [.d (.int .i64 t.f), .d (.int .i64 t.v), .d (.sl g (t.kids.map (T.enc g)))]]⟩)) :
  callX XV 166 [.ptr q 0, .d (.int .i64 deep), .d (.int .i64 vars)] B = some (.d (t.enc g), B') := by
 rw [z_call XV _ _ _ v166 rfl xcode_166 rfl, v166_eq]
 simp only [lin_166] at h
 obtain ⟨f, v, ks⟩ := t
 simp only [T.f_node, T.v_node, T.kids_node] at h
 simp [r166_0, hL, bx_get, bx_set, hq]
 rw [h]
 simp [hL', bx_get, bx_take, loadBox]
theorem drawDeep_at (bs : List Int) (hl : bs.length ≤ 1099511627776) : ∀ (d : Nat), d ≤ 8 → ∀ (vars : Int), vars ≤ 256 → ∀ (B : Boxs) (q : Nat), SeedAt bs q B →
  ∃ (t : T) (g : Tag) (B' : Boxs), (t.inner + 2 ≤ 2 ^ (d + 1) ∧ t.rng) ∧ Turned bs q B B' ∧ callX XV 166 [.ptr q 0, .d (.int .i64 d), .d (.int .i64 vars)] B = some (.d (t.enc g), B') := by
 intro d
 induction d with
 | zero =>
  intro _ vars hv B q hs
  obtain ⟨t, g, B', h1, h2, h3, h4⟩ := drawLeaf bs hl 0 vars hv B q hs B.length rfl _ rfl
  refine ⟨t, g, B', ⟨by omega, h1.2⟩, h2, body_fin B.length B B' q 0 vars t g hs.lt rfl h3 ?_⟩
  simp only [lin_166] at h4 ⊢
  simp [body166, r166_1]
  rw [h4]
  simp
 | succ d ih =>
  intro hd vars hv B q hs
  have hq := hs.lt
  obtain ⟨b, B2, hT2, hc⟩ := once_at bs hl _ q (hs.app [some [.d (.int .i64 0), .d (.int .i64 0), .d (.sl U [])]]) 3 (by omega) (by omega)
  obtain ⟨B3, hT3, hL3, rfl⟩ := turned_app hq hT2
  have hne : (((d + 1 : Nat) : Int) == 0) = false := by simpa using (show ¬ (((d + 1 : Nat) : Int) = 0) by omega)
  cases b with
  | true =>
   obtain ⟨t, g, B', h1, h2, h3, h4⟩ := drawLeaf bs hl ((d + 1 : Nat) : Int) vars hv B3 q (hT3.at hq) B.length hL3 _ rfl
   refine ⟨t, g, B', ⟨by have : 2 ^ 1 ≤ 2 ^ (d + 1 + 1) := Nat.pow_le_pow_right (by omega) (by omega); omega, h1.2⟩, hT3.trans h2, body_fin B.length B B' q _ vars t g hq rfl h3 ?_⟩
   simp only [lin_166] at h4 ⊢
   generalize ((d + 1 : Nat) : Int) = D at *
   simp [body166, r166_1, hne, hc]
   rw [h4]
   simp
  | false =>
   obtain ⟨j, hj, B4, hT4, hc4⟩ := l1PickInt_at bs hl _ q ((hT3.at hq).app [some [.d (.int .i64 0), .d (.int .i64 0), .d (.sl U [])]]) [3, 4, 5, 5, 6] (by simp) (by simp)
   obtain ⟨B5, hT5, hL5, rfl⟩ := turned_app (by omega) hT4
   generalize ([3, 4, 5, 5, 6] : List Int)[j] = f at hc4
   obtain ⟨t1, g1, B6, hi1, hT6, hc6⟩ := ih (by omega) vars hv _ q ((hT5.at (by omega)).app [some [.d (.int .i64 0), .d (.int .i64 0), .d (.sl U [])]])
   obtain ⟨B7, hT7, hL7, rfl⟩ := turned_app (by omega) hT6
   have hw := wrap_pred (n := d) (by omega)
   by_cases hf : 3 < f
   ·obtain ⟨t2, g2, B8, hi2, hT8, hc8⟩ := ih (by omega) vars hv _ q ((hT7.at (by omega)).app [some [.d (.int .i64 0), .d (.int .i64 0), .d (.sl U [])]])
    obtain ⟨B9, hT9, hL9, rfl⟩ := turned_app (by omega) hT8
    have hof : callX XV 164 [.d (.int .i64 f), .d (.sl .sub [t1.enc .sub, t2.enc .sub])] [] = some (.d (.agg [.int .i64 f, .int .i64 0, .sl .sub [t1.enc .sub, t2.enc .sub]]), []) := by
     have := l3OfU_eq f [t1, t2]
     rw [T.enc_eq] at this
     exact this
    refine ⟨.node f 0 [t1, t2], .sub, B9, ⟨by simp only [T.inner, T.inners, List.length_cons, List.length_nil]; rw [Nat.pow_succ]; omega, by simp [T.rng, T.rngs, hi1.2, hi2.2]⟩, hT3.trans (hT5.trans (hT7.trans hT9)), body_fin B.length B B9 q _ vars _ .sub hq rfl (by omega) ?_⟩
    have e9 : B9.length = B.length := by omega
    have e7 : B7.length = B.length := by omega
    have e5 : B5.length = B.length := by omega
    simp only [List.map_cons, List.map_nil] at hc4
    generalize ((d + 1 : Nat) : Int) = D at *
    generalize (d : Int) = D0 at *
    simp [body166, deep166, r166_1, r166_5, r166_6, r166_7, r166_8, r166_9, hne, hc, hc4, hw, hc6, hf, hc8, hof, e9, buildRow, List.replicate, bx_get, bx_set, splice, isCell_int, isCell_sl, isCellA_d, safe_d, xappend]
   ·have hof : callX XV 164 [.d (.int .i64 f), .d (.sl .sub [t1.enc .sub])] [] = some (.d (.agg [.int .i64 f, .int .i64 0, .sl .sub [t1.enc .sub]]), []) := by
     have := l3OfU_eq f [t1]
     rw [T.enc_eq] at this
     exact this
    refine ⟨.node f 0 [t1], .sub, B7, ⟨by simp only [T.inner, T.inners, List.length_cons, List.length_nil]; rw [Nat.pow_succ]; omega, by simp [T.rng, T.rngs, hi1.2]⟩, hT3.trans (hT5.trans hT7), body_fin B.length B B7 q _ vars _ .sub hq rfl (by omega) ?_⟩
    have e7 : B7.length = B.length := by omega
    have e5 : B5.length = B.length := by omega
    simp only [List.map_cons, List.map_nil] at hc4
    generalize ((d + 1 : Nat) : Int) = D at *
    generalize (d : Int) = D0 at *
    simp [body166, deep166, r166_1, r166_5, r166_6, r166_7, r166_8, r166_9, hne, hc, hc4, hw, hc6, hf, hof, e7, buildRow, List.replicate, bx_get, bx_set, splice, isCell_int, isCell_sl, isCellA_d, safe_d, xappend]
end Go.Proofs.Ytidlpcgcolcfgaa.VS
namespace Go.Proofs.Ytidlpcgcolcfgaa.VS
theorem appK_rng (s : List SymL) (f : Int) (k : T) (h : k.rng) : T.rngs (appK s f k) := by
 unfold appK
 split
 ·obtain ⟨a, b, c⟩ := k; exact h.2
 ·exact ⟨h, trivial⟩
theorem rngs_app {a b : List T} (h1 : T.rngs a) (h2 : T.rngs b) : T.rngs (a ++ b) := by
 rw [T.rngs_iff] at *
 intro t ht
 rcases List.mem_append.1 ht with h | h
 ·exact h1 t h
 ·exact h2 t h
theorem flatK_rng (s : List SymL) (f : Int) : ∀ l : List T, T.rngs l → T.rngs (flatK s f l)
 | [], _ => by simp [flatK, T.rngs]
 | k :: l, h => by rw [flatK_cons]; exact rngs_app (appK_rng s f k h.1) (flatK_rng s f l h.2)
mutual
theorem norm_rng (s : List SymL) : ∀ t : T, t.rng → (t.norm s).rng
 | .node f v ks, h => by
  have h2 := flatK_rng s f _ (norms_rng s ks h.2)
  simp only [T.norm]
  split
  ·refine ⟨h.1, ?_⟩
   rw [T.rngs_iff] at h2 ⊢
   exact fun t ht => h2 t ((isort_perm _).mem_iff.1 ht)
  ·exact ⟨h.1, h2⟩
theorem norms_rng (s : List SymL) : ∀ l : List T, T.rngs l → T.rngs (T.norms s l)
 | [], _ => trivial
 | t :: r, h => ⟨norm_rng s t h.1, norms_rng s r h.2⟩
end
theorem drawRight_at (bs : List Int) (hl : bs.length ≤ 1099511627776) (vars : Int) (hv : vars ≤ 256) (B : Boxs) (q : Nat) (h : SeedAt bs q B) :
  ∃ (t : T) (B' : Boxs), (t.inner ≤ 6 ∧ t.rng) ∧ (∃ u, t = T.norm sig0 u) ∧ Turned bs q B B' ∧ callX XV 163 [.ptr q 0, .d (.int .i64 vars)] B = some (.d (t.enc U), B') := by
 have hq := h.lt
 obtain ⟨t, g, B1, hi, hT, hc⟩ := drawDeep_at bs hl 2 (by omega) vars hv _ q (h.app [some [.d (.int .i64 0), .d (.int .i64 0), .d (.sl U [])]])
 obtain ⟨B2, hT2, hL2, rfl⟩ := turned_app hq hT
 have hn := specNorm_eq sig0 (by decide) t (by omega)
 have hin := inner_norm sig0 t
 refine ⟨t.norm sig0, B2, ⟨by omega, norm_rng sig0 t hi.2⟩, ⟨t, rfl⟩, hT2, ?_⟩
 rw [z_call XV _ _ _ v163 rfl xcode_163 rfl]
 have hsg := l2Sig_eq
 rw [nM_eq] at hn
 have e : (t.norm sig0).enc U = .agg [.int .i64 t.f, .int .i64 t.v, .sl U (rowM sig0 t)] := by rw [← nM_eq]; rfl
 rw [e]
 generalize rowM sig0 t = X at *
 have hc' : callX XV 166 [AV.ptr q 0, AV.d (DV.int IntKind.i64 2), AV.d (DV.int IntKind.i64 vars)] (B ++ [some [AV.d (DV.int IntKind.i64 0), AV.d (DV.int IntKind.i64 0), AV.d (DV.sl U [])]]) = some (AV.d (t.enc g), B2 ++ [some [AV.d (DV.int IntKind.i64 0), AV.d (DV.int IntKind.i64 0), AV.d (DV.sl U [])]]) := hc
 simp [v163, r163_0, r163_1, hq, hsg, hc', hn, hL2, bx_get, bx_set, bx_take, loadBox, splice, isCell_int, isCell_sl, isCellA_d, safe_d]
end Go.Proofs.Ytidlpcgcolcfgaa.VS
namespace Go.Proofs.Ytidlpcgcolcfgaa.VS
def fc (l : List T) : List DV := l.flatMap fun t => (t.enc U).cells
def fcs (l : List T) : List DV := l.flatMap fun t => (t.enc .sub).cells
theorem fc_eq (l : List T) : (l.map (T.enc U)).flatMap DV.cells = fc l := by unfold fc; rw [List.flatMap_map]
theorem fc_cons (t : T) (l : List T) : fc (t :: l) = .int .i64 t.f :: .int .i64 t.v :: .sl U (t.kids.map (T.enc U)) :: fc l := by
 unfold fc; rw [List.flatMap_cons, T.enc_eq]; rfl
theorem fcs_cons (t : T) (l : List T) : fcs (t :: l) = .int .i64 t.f :: .int .i64 t.v :: .sl .sub (t.kids.map (T.enc .sub)) :: fcs l := by
 unfold fcs; rw [List.flatMap_cons, T.enc_eq]; rfl
theorem fc_app (a b : List T) : fc (a ++ b) = fc a ++ fc b := by unfold fc; simp
theorem fcs_app (a b : List T) : fcs (a ++ b) = fcs a ++ fcs b := by unfold fcs; simp
theorem fc_clr : ∀ l : List T, (fc l).map DV.clr = fcs l
 | [] => rfl
 | t :: l => by rw [fc_cons, fcs_cons, List.map_cons, List.map_cons, List.map_cons, fc_clr l]; simp
theorem fc_len : ∀ l : List T, (fc l).length = l.length * 3
 | [] => rfl
 | t :: l => by rw [fc_cons]; simp [fc_len l]; omega
theorem fcs_len : ∀ l : List T, (fcs l).length = l.length * 3
 | [] => rfl
 | t :: l => by rw [fcs_cons]; simp [fcs_len l]; omega
theorem frzL_app (f : AV → Option DV) : ∀ (a b : List AV) {x y : List DV}, frzL f a = some x → frzL f b = some y → frzL f (a ++ b) = some (x ++ y)
 | [], b, x, y, h1, h2 => by simp [frzL] at h1; subst h1; simpa using h2
 | v :: a, b, x, y, h1, h2 => by
  simp only [frzL] at h1
  obtain ⟨d, e1, h1⟩ := Option.bind_eq_some_iff.1 h1
  obtain ⟨x', e2, rfl⟩ := Option.map_eq_some_iff.1 h1
  simp only [List.cons_append, frzL, e1, frzL_app f a b e2 h2, Option.bind_some, Option.map_some]
theorem frzL_d (M : Boxs) (n : Nat) : ∀ l : List DV, frzL (AV.frzC M n) (l.map .d) = some l
 | [] => rfl
 | d :: l => by
  simp only [List.map_cons, frzL, frzC_d, frzL_d M n l, Option.bind_some, Option.map_some]
theorem clr_int_inv {d : DV} {k : IntKind} {n : Int} (h : d.clr = .int k n) : d = .int k n := by
 cases d <;> simp [DV.clr] at h ⊢ <;> exact h
theorem clr_sl_inv {d : DV} {l : List DV} (h : d.clr = .sl .sub l) : ∃ g xs, d = .sl g xs ∧ DV.clrs xs = l := by
 cases d <;> simp [DV.clr] at h
 exact ⟨_, _, rfl, h⟩
theorem fcs_inv {t : T} {l : List T} {ds : List DV} (h : ds.map DV.clr = fcs (t :: l)) : ∃ g xs r, ds = .int .i64 t.f :: .int .i64 t.v :: .sl g xs :: r ∧ DV.clrs xs = t.kids.map (T.enc .sub) ∧ r.map DV.clr = fcs l := by
 rw [fcs_cons] at h
 match ds, h with
 | [], h => simp at h
 | [_], h => simp at h
 | [_, _], h => simp at h
 | d0 :: d1 :: d2 :: r, h =>
  simp only [List.map_cons, List.cons.injEq] at h
  obtain ⟨h0, h1, h2, h3⟩ := h
  obtain ⟨g, xs, rfl, hx⟩ := clr_sl_inv h2
  exact ⟨g, xs, r, by rw [clr_int_inv h0, clr_int_inv h1], hx, h3⟩
theorem fcs_cell : ∀ (l : List T) (ds : List DV), ds.map DV.clr = fcs l → ds.all DV.isCell = true
 | [], ds, h => by
  have : ds = [] := by simpa [fcs] using h
  subst this; rfl
 | t :: l, ds, h => by
  obtain ⟨g, xs, r, rfl, hx, hr⟩ := fcs_inv h
  simp [isCell_int, isCell_sl]
  simpa using fcs_cell l r hr
theorem fcs_chunks : ∀ (l : List T) (ds : List DV), ds.map DV.clr = fcs l → ∃ xs, chunks true 3 l.length ds = some xs ∧ xs.map DV.clr = l.map (T.enc .sub)
 | [], ds, h => ⟨[], rfl, rfl⟩
 | t :: l, ds, h => by
  obtain ⟨g, xs, r, rfl, hx, hr⟩ := fcs_inv h
  obtain ⟨ys, h1, h2⟩ := fcs_chunks l r hr
  refine ⟨.agg [.int .i64 t.f, .int .i64 t.v, .sl g xs] :: ys, ?_, ?_⟩
  ·simp [chunks, cut, isCell_int, isCell_sl, h1, DV.cells]
  ·rw [List.map_cons, List.map_cons, h2, T.enc_eq]
   simp only [DV.clr, DV.clrs, hx]
theorem bget_m2 (B : Boxs) (i : Nat) (h : 2 ≤ i) : bget (maskB 2 B) i = bget B i := by
 unfold bget maskB
 rw [List.getElem?_append_right (by simp; exact h), List.length_replicate, List.getElem?_drop, show 2 + (i - 2) = i by omega]
def Ctx (j : Nat) (B : Boxs) (A D : List T) (N : Nat) : Prop :=
 ∀ (B' : Boxs) (cs : List AV) (u : T) (ds : List DV), B'.length = 6 → (∀ i, j < i → B'[i]? = B[i]?) → B'[j]? = some (some cs) → frzL (AV.frzC (maskB 2 B') (j + 1)) cs = some ds → ds.map DV.clr = fcs (A ++ u :: D) →
  ∃ (c5 : List AV) (ds5 : List DV) (t' : T), B'[5]? = some (some c5) ∧ frzL (AV.frzC (maskB 2 B') 6) c5 = some ds5 ∧ ds5.map DV.clr = fcs [t'] ∧ t'.inner ≤ N + u.inner ∧ (u.rng → t'.rng)
theorem Ctx.base (B : Boxs) : Ctx 5 B [] [] 0 := fun B' cs u ds h1 h2 h3 h4 h5 => ⟨cs, ds, u, h3, h4, h5, by omega, id⟩
theorem inners_app : ∀ a b : List T, T.inners (a ++ b) = T.inners a + T.inners b
 | [], b => by simp [T.inners]
 | t :: a, b => by simp only [List.cons_append, T.inners, inners_app a b]; omega
theorem Ctx.step {j : Nat} {B B1 : Boxs} {A D A' D' : List T} {N m : Nat} {f v : Int} (hj : 2 ≤ j) (h : Ctx (j + 1) B A D N) (hag : ∀ i, j + 1 < i → B1[i]? = B[i]?)
  (hat : B1[j + 1]? = some (some ((fc A).map .d ++ ([.d (.int .i64 f), .d (.int .i64 v), .tsl true j 3 m] ++ (fc D).map .d)))) (hm : A'.length + 1 + D'.length = m) (hv : -9223372036854775808 ≤ v ∧ v ≤ 9223372036854775807) (hA : T.rngs A') (hD : T.rngs D') : Ctx j B1 A' D' (N + (m + T.inners A' + T.inners D')) := by
 intro B' cs u ds h1 h2 h3 h4 h5
 have hlen : ds.length = m * 3 := by
  have := congrArg List.length h5
  rw [List.length_map, fcs_len] at this
  rw [this]; simp only [List.length_append, List.length_cons]; rw [← hm]; congr 1; omega
 obtain ⟨xs, hx1, hx2⟩ := fcs_chunks _ _ h5
 have hm' : (A' ++ u :: D').length = m := by simp only [List.length_append, List.length_cons]; omega
 rw [hm'] at hx1
 have htsl : AV.frzC (maskB 2 B') (j + 1 + 1) (.tsl true j 3 m) = some (.sl .sub xs) := by
  simp only [AV.frzC]
  rw [bget_m2 _ _ hj]
  simp only [bget, h3, Option.bind_some, h4, hlen, if_true, hx1, Option.map_some]
 have hmid : frzL (AV.frzC (maskB 2 B') (j + 1 + 1)) [.d (.int .i64 f), .d (.int .i64 v), .tsl true j 3 m] = some [.int .i64 f, .int .i64 v, .sl .sub xs] := by
  simp only [frzL, htsl, frzC_d, Option.bind_some, Option.map_some]
 have hfr := frzL_app _ _ _ (frzL_d (maskB 2 B') (j + 1 + 1) (fc A)) (frzL_app _ _ _ hmid (frzL_d (maskB 2 B') (j + 1 + 1) (fc D)))
 have hclr : (fc A ++ ([DV.int .i64 f, DV.int .i64 v, DV.sl .sub xs] ++ fc D)).map DV.clr = fcs (A ++ (T.node f v (A' ++ u :: D')) :: D) := by
  rw [List.map_append, List.map_append, fc_clr, fc_clr, fcs_app, fcs_cons]
  simp only [List.map_cons, List.map_nil, DV.clr, DV.clrs_map, hx2, T.f_node, T.v_node, T.kids_node, List.cons_append, List.nil_append]
 obtain ⟨c5, ds5, t', e1, e2, e3, e4, e4r⟩ := h B' _ _ _ h1 (fun i hi => by rw [h2 i (by omega), hag i hi]) (by rw [h2 (j + 1) (by omega), hat]) hfr hclr
 refine ⟨c5, ds5, t', e1, e2, e3, ?_, fun hu => e4r ⟨hv, rngs_app hA ⟨hu, hD⟩⟩⟩
 have e5 : (T.node f v (A' ++ u :: D')).inner = m + (T.inners A' + (u.inner + T.inners D')) := by rw [T.inner_eq, T.kids_node, hm', inners_app]; rfl
 omega
end Go.Proofs.Ytidlpcgcolcfgaa.VS
namespace Go.Proofs.Ytidlpcgcolcfgaa.VS
def row3 (A : List T) (x0 x1 x2 : AV) (D : List T) : List AV := (fc A).map .d ++ ([x0, x1, x2] ++ (fc D).map .d)
theorem row3_len (A : List T) (x0 x1 x2 : AV) (D : List T) : (row3 A x0 x1 x2 D).length = A.length * 3 + 3 + D.length * 3 := by
 unfold row3; simp [fc_len]; omega
theorem row3_2 (A : List T) (x0 x1 x2 : AV) (D : List T) : (row3 A x0 x1 x2 D)[A.length * 3 + 2]? = some x2 := by
 unfold row3; rw [List.getElem?_append_right (by simp [fc_len])]; simp [fc_len]
theorem row3_s2 (A : List T) (x0 x1 x2 y : AV) (D : List T) : (row3 A x0 x1 x2 D).set (A.length * 3 + 2) y = row3 A x0 x1 y D := by
 unfold row3; rw [List.set_append_right _ _ (by simp [fc_len])]; simp [fc_len]
theorem row3_s0 (A : List T) (x0 x1 x2 y : AV) (D : List T) : (row3 A x0 x1 x2 D).set (A.length * 3) y = row3 A y x1 x2 D := by
 unfold row3; rw [List.set_append_right _ _ (by simp [fc_len])]; simp [fc_len]
theorem row3_s1 (A : List T) (x0 x1 x2 y : AV) (D : List T) : (row3 A x0 x1 x2 D).set (A.length * 3 + 1) y = row3 A x0 y x2 D := by
 unfold row3; rw [List.set_append_right _ _ (by simp [fc_len])]; simp [fc_len]
theorem splice_one {cs : List AV} {k : Nat} (h : k < cs.length) (y : AV) : splice cs k [y] = cs.set k y := by
 unfold splice; rw [List.set_eq_take_append_cons_drop, if_pos h]; simp
theorem row3_p0 (A : List T) (x0 x1 x2 y : AV) (D : List T) : splice (row3 A x0 x1 x2 D) (A.length * 3) [y] = row3 A y x1 x2 D := by
 rw [splice_one (by rw [row3_len]; omega), row3_s0]
theorem row3_p1 (A : List T) (x0 x1 x2 y : AV) (D : List T) : splice (row3 A x0 x1 x2 D) (A.length * 3 + 1) [y] = row3 A x0 y x2 D := by
 rw [splice_one (by rw [row3_len]; omega), row3_s1]
theorem row3_p2 (A : List T) (x0 x1 x2 y : AV) (D : List T) : splice (row3 A x0 x1 x2 D) (A.length * 3 + 2) [y] = row3 A x0 x1 y D := by
 rw [splice_one (by rw [row3_len]; omega), row3_s2]
def TR (rs : List DV) : Prop := rs.all (fun r => !(DV.int .u8 0).like r) = true
theorem TR_fc : ∀ l : List T, TR (fc l)
 | [] => rfl
 | t :: l => by
  have := TR_fc l
  unfold TR at this ⊢
  rw [fc_cons]
  simp only [List.all_cons, this, Bool.and_true]
  rfl
mutual
theorem rest_enc (rs : List DV) : ∀ t : T, DV.xrest rs (t.enc U) = true
 | .node f v ks => by
  rw [T.enc_eq]
  simp only [xrest_agg, xrests_cons, xrest_int, xrest_U, xrests_nil, Bool.and_true, Bool.true_and, T.kids_node]
  exact rest_encs rs ks
theorem rest_encs (rs : List DV) : ∀ l : List T, DV.xrests rs (l.map (T.enc U)) = true
 | [] => by simp only [List.map_nil, xrests_nil]
 | t :: l => by simp only [List.map_cons, xrests_cons, rest_enc rs t, rest_encs rs l, Bool.and_true]
end
theorem rest_fc (rs : List DV) : ∀ l : List T, DV.xrests rs (fc l) = true
 | [] => by simp [fc]
 | t :: l => by rw [fc_cons]; simp [rest_encs, rest_fc rs l]
theorem crest_fc (rs : List DV) : ∀ l : List T, cellsRest rs ((fc l).map .d) = true
 | [] => by simp [fc]
 | t :: l => by rw [fc_cons]; simp [rest_encs, crest_fc rs l]
theorem crest_app (rs : List DV) (a b : List AV) : cellsRest rs (a ++ b) = (cellsRest rs a && cellsRest rs b) := by simp [cellsRest]
theorem boxs_set (rs : List DV) (B : Boxs) (i : Nat) (cs : List AV) (h : xrestBoxs rs B = true) (hc : cellsRest rs cs = true) : xrestBoxs rs (B.set i (some cs)) = true := by
 unfold xrestBoxs at h ⊢
 rw [List.all_eq_true] at h ⊢
 intro x hx
 rcases List.mem_or_eq_of_mem_set hx with h1 | h1
 ·exact h x h1
 ·subst h1; exact hc
structure WS (bs : List Int) (j k : Nat) (B : Boxs) (A D : List T) (f v : Int) (ks : List T) (N : Nat) : Prop where
 jk : j + k = 5
 j2 : 2 ≤ j
 len : B.length = 6
 seed : SeedAt bs 0 B
 one : B[1]? = some (some [.d (.int .i64 0), .d (.int .i64 0), .d (.sl U [])])
 free : ∀ i, 2 ≤ i → i < j → B[i]? = some none
 at_ : B[j]? = some (some (row3 A (.d (.int .i64 f)) (.d (.int .i64 v)) (.d (.sl U (ks.map (T.enc U)))) D))
 rest : ∀ rs, TR rs → xrestBoxs rs B = true
 ctx : Ctx j B A D N
 siz : N + (T.node f v ks).inner ≤ 6
 rg : (T.node f v ks).rng
theorem WS.turn {bs : List Int} {j k : Nat} {B : Boxs} {A D : List T} {f v : Int} {ks : List T} {N : Nat} (h : WS bs j k B A D f v ks N) {B' : Boxs} (hT : Turned bs 0 B B') : WS bs j k B' A D f v ks N := by
 have h0 := hT.at (by rw [h.len]; omega)
 obtain ⟨pos, st, hp, rfl⟩ := hT
 have e : ∀ i, 1 ≤ i → (B.set 0 (some (seedC bs pos st)))[i]? = B[i]? := fun i hi => by rw [List.getElem?_set_ne (by omega)]
 have hj := h.j2
 refine ⟨h.jk, h.j2, by simp [h.len], h0, by rw [e 1 (by omega)]; exact h.one, fun i h1 h2 => by rw [e i (by omega)]; exact h.free i h1 h2, by rw [e j (by omega)]; exact h.at_, fun rs hr => boxs_set rs B 0 _ (h.rest rs hr) (xrest_seed rs hr bs pos st), ?_, h.siz, h.rg⟩
 intro B' cs u ds h1 h2
 exact h.ctx B' cs u ds h1 (fun i hi => by rw [h2 i hi, e i (by omega)])
theorem foc161 {bs : List Int} {j k : Nat} {B : Boxs} {A D : List T} {f v : Int} {ks : List T} {N : Nat} (h : WS bs (j + 1) k B A D f v ks N) (hk : 0 < ks.length) (hj : 2 ≤ j) (x5 x22 : DV) (h5 : ∀ rs, DV.xrest rs x5 = true) :
  xGho (.focC 4 2 [0, 2, 3, 4, 5]) ⟨[(0, .ptr 0 0), (2, .ptr 1 0), (3, .ptr 5 0), (4, .ptr (j + 1) (A.length * 3)), (5, .d x5), (22, .d x22)], B⟩ =
   some ⟨[(0, .ptr 0 0), (2, .ptr 1 0), (3, .ptr 5 0), (4, .ptr (j + 1) (A.length * 3)), (5, .d x5)], (B.set (j + 1) (some (row3 A (.d (.int .i64 f)) (.d (.int .i64 v)) (.tsl true j 3 ks.length) D))).set j (some ((fc ks).map .d))⟩ := by
 have hat := h.at_
 have hfree := h.free j hj (by omega)
 have hr := h.rest (fc ks) (TR_fc ks)
 have hc : cellsRest (fc ks) (row3 A (.d (.int .i64 f)) (.d (.int .i64 v)) (.tsl true j 3 ks.length) D) = true := by
  unfold row3; rw [crest_app, crest_app, crest_fc, crest_fc]; simp
 have hb := boxs_set (fc ks) B (j + 1) _ hr hc
 have hx := rest_fc (fc ks) ks
 have hg := row3_2 A (.d (.int .i64 f)) (.d (.int .i64 v)) (.d (.sl U (ks.map (T.enc U)))) D
 have hs := row3_s2 A (.d (.int .i64 f)) (.d (.int .i64 v)) (.d (.sl U (ks.map (T.enc U)))) (.tsl true j 3 ks.length) D
 have hlen : (ks.map (T.enc U)).length = ks.length := by simp
 cases ks with
 | nil => simp at hk
 | cons k0 kr =>
  have hfc : (T.enc U k0 :: kr.map (T.enc U)).flatMap DV.cells = fc (k0 :: kr) := by rw [← fc_eq]; rfl
  have hag : isAgD (k0.enc U) = true := by rw [T.enc_eq]; rfl
  have hcl : (k0.enc U).cells.length = 3 := by simp
  have hbg : bget B (j + 1) = some (row3 A (.d (.int .i64 f)) (.d (.int .i64 v)) (.d (.sl U (T.enc U k0 :: kr.map (T.enc U)))) D) := by simp only [bget, hat, List.map_cons]
  simp only [List.map_cons] at hg hs hlen
  have hw : xFc 2 [0, 2, 3, 4, 5] ⟨[(0, .ptr 0 0), (2, .ptr 1 0), (3, .ptr 5 0), (4, .ptr (j + 1) (A.length * 3)), (5, .d x5), (22, .d x22)], B⟩ j (A.length * 3) (row3 A (.d (.int .i64 f)) (.d (.int .i64 v)) (.d (.sl U (T.enc U k0 :: kr.map (T.enc U)))) D) (some (.d (.sl U (T.enc U k0 :: kr.map (T.enc U))))) =
    some ⟨[(0, .ptr 0 0), (2, .ptr 1 0), (3, .ptr 5 0), (4, .ptr (j + 1) (A.length * 3)), (5, .d x5)], (B.set (j + 1) (some (row3 A (.d (.int .i64 f)) (.d (.int .i64 v)) (.tsl true j 3 (k0 :: kr).length) D))).set j (some ((fc (k0 :: kr)).map .d))⟩ := by
   rw [g_focC2, hfc, hag, hcl, show (kr.map (T.enc U)).length + 1 = (k0 :: kr).length from by simp, hs, if_pos ⟨by simp [bfree, hfree], by simp [keep, lk, h5], hb, hx⟩]
   rfl
  rw [g_focC]
  simp only [lk, Nat.reduceEqDiff, if_false, if_true]
  rw [g_focC1, hbg, Option.bind_some, hg]
  exact hw
end Go.Proofs.Ytidlpcgcolcfgaa.VS
namespace Go.Proofs.Ytidlpcgcolcfgaa.VS
theorem datas_seed' (bs : List Int) (pos st : Int) : datas (seedC bs pos st) = some [.sl .sub (bs.map (.int .u8)), .int .i64 pos, .int .i64 st] := by simp [seedC]
theorem bsetc {B : Boxs} {i j : Nat} {c : Option (List AV)} (h : i ≠ j) : (B.set i c)[j]? = B[j]? := by rw [List.getElem?_set_ne h]
theorem row3_tAt {ks : List T} {r : Nat} (h : r < ks.length) : (fc ks).map AV.d = row3 (ks.take r) (.d (.int .i64 (tAt ks r).f)) (.d (.int .i64 (tAt ks r).v)) (.d (.sl U ((tAt ks r).kids.map (T.enc U)))) (ks.drop (r + 1)) := by
 have e : ks = ks.take r ++ tAt ks r :: ks.drop (r + 1) := by
  conv => lhs; rw [← List.take_append_drop r ks, List.drop_eq_getElem_cons h, tAt_lt h]
 conv => lhs; rw [e, fc_app, fc_cons]
 unfold row3
 simp
theorem go161 (bs : List Int) (hl : bs.length ≤ 1099511627776) {j k : Nat} {B : Boxs} {A D : List T} {f v : Int} {ks : List T} {N : Nat} (h : WS bs (j + 1) k B A D f v ks N) (hk : 0 < ks.length) (hj : 2 ≤ j) :
  ∃ (B' : Boxs) (A' D' : List T) (f' v' : Int) (ks' : List T) (N' : Nat), WS bs j (k + 1) B' A' D' f' v' ks' N' ∧
   codeX XV (XV.lin 161) (.seq (.block 1 (.ghost (.focC 4 2 [0, 2, 3, 4, 5]) (.region true 0 [0, 2, 3, 4, 5] r161_6))) (.region false 0 [0, 2, 3, 4, 5] r161_5)) ⟨[(0, .ptr 0 0), (2, .ptr 1 0), (3, .ptr 5 0), (4, .ptr (j + 1) (A.length * 3)), (5, .d (.int .i64 k)), (22, .d (.bool true))], B⟩ =
    some (.normal, ⟨[(0, .ptr 0 0), (2, .ptr 1 0), (3, .ptr 5 0), (4, .ptr j (A'.length * 3)), (5, .d (.int .i64 ((k + 1 : Nat) : Int)))], B'⟩) := by
 have hfo := foc161 h hk hj (.int .i64 k) (.bool true) (fun rs => by simp)
 have hlen := h.len
 have hjk := h.jk
 obtain ⟨pos, st, hp, hb0⟩ := h.seed
 have hb0' := bget_iff hb0
 have hs1 : SeedAt bs 0 [some (seedC bs pos st)] := ⟨pos, st, hp, rfl⟩
 have hsz := h.siz
 rw [T.inner_node] at hsz
 have hcn := len_cnts ks
 obtain ⟨r, B1, hr, ⟨pos1, st1, hp1, rfl⟩, hc⟩ := l1Below_at bs hl _ 0 hs1 ks.length (by omega) (by omega)
 simp only [List.set_cons_zero] at hc
 have hrl : r.toNat < ks.length := by omega
 have hw := wrap_succ (n := k) (by omega)
 generalize hR : row3 A (.d (.int .i64 f)) (.d (.int .i64 v)) (.tsl true j 3 ks.length) D = R at hfo
 have hR2 : R[A.length * 3 + 2]? = some (.tsl true j 3 ks.length) := by rw [← hR]; exact row3_2 _ _ _ _ _
 have hRl : A.length * 3 + 2 < R.length := by rw [← hR, row3_len]; omega
 have g0 : ((B.set (j + 1) (some R)).set j (some ((fc ks).map .d)))[0]? = some (some (seedC bs pos st)) := by rw [bsetc (by omega), bsetc (by omega)]; exact hb0'
 have g1 : ((B.set (j + 1) (some R)).set j (some ((fc ks).map .d)))[j + 1]? = some (some R) := by rw [bsetc (by omega), List.getElem?_set_self (by omega)]
 have g2 : ((B.set (j + 1) (some R)).set j (some ((fc ks).map .d))).length = 6 := by simp [hlen]
 have gj : ((B.set (j + 1) (some R)).set j (some ((fc ks).map .d)))[j]? = some (some ((fc ks).map .d)) := by rw [List.getElem?_set_self (by simp; omega)]
 have gi : ∀ i, i ≠ j → i ≠ j + 1 → ((B.set (j + 1) (some R)).set j (some ((fc ks).map .d)))[i]? = B[i]? := fun i h1 h2 => by rw [bsetc (Ne.symm h1), bsetc (Ne.symm h2)]
 have grest : ∀ rs, TR rs → xrestBoxs rs ((B.set (j + 1) (some R)).set j (some ((fc ks).map .d))) = true := fun rs hrs => by
  refine boxs_set _ _ _ _ (boxs_set _ _ _ _ (h.rest rs hrs) ?_) (crest_fc rs ks)
  rw [← hR]; unfold row3; rw [crest_app, crest_app, crest_fc, crest_fc]; simp
 generalize hB2 : (B.set (j + 1) (some R)).set j (some ((fc ks).map .d)) = B2 at *
 have hn6 : ¬ 6 ≤ j + 1 := by omega
 have g0' : ∀ h : 0 < B2.length, B2[0]'h = some (seedC bs pos st) := fun h => (List.getElem?_eq_some_iff.1 g0).2
 have hR3 : ∀ h : A.length * 3 + 2 < R.length, R[A.length * 3 + 2]'h = .tsl true j 3 ks.length := fun h => (List.getElem?_eq_some_iff.1 hR2).2
 have hmin : min r.toNat ks.length = r.toNat := by omega
 have hsd := datas_seed' bs pos st
 have hsd1 := datas_seed' bs pos1 st1
 have hcl := clrs_seed bs pos st
 have hcl1 := clrs_seed bs pos1 st1
 generalize seedC bs pos st = S0 at *
 refine ⟨B2.set 0 (some (seedC bs pos1 st1)), ks.take r.toNat, ks.drop (r.toNat + 1), (tAt ks r.toNat).f, (tAt ks r.toNat).v, (tAt ks r.toNat).kids, N + (ks.length + T.inners (ks.take r.toNat) + T.inners (ks.drop (r.toNat + 1))), ?_, ?_⟩
 ·have e : ks = ks.take r.toNat ++ tAt ks r.toNat :: ks.drop (r.toNat + 1) := by
   conv => lhs; rw [← List.take_append_drop r.toNat ks, List.drop_eq_getElem_cons hrl, tAt_lt hrl]
  refine ⟨by omega, hj, by simp [g2], ⟨pos1, st1, hp1, bget_set (by omega)⟩, by rw [bsetc (by omega), gi 1 (by omega) (by omega)]; exact h.one, fun i h1 h2 => by rw [bsetc (by omega), gi i (by omega) (by omega)]; exact h.free i h1 (by omega), by rw [bsetc (by omega), gj]; exact congrArg (some ∘ some) (row3_tAt hrl), fun rs hrs => boxs_set _ _ _ _ (grest rs hrs) (xrest_seed rs hrs bs pos1 st1), ?_, ?_, ?_⟩
  ·refine Ctx.step hj h.ctx (fun i hi => by rw [bsetc (by omega), gi i (by omega) (by omega)]) (by rw [bsetc (by omega), g1, ← hR]; rfl) ?_ h.rg.1 ?_ ?_
   ·have := congrArg List.length e
    simp only [List.length_append, List.length_cons] at this
    omega
   ·have := h.rg.2; rw [T.rngs_iff] at this ⊢; exact fun t ht => this t (List.mem_of_mem_take ht)
   ·have := h.rg.2; rw [T.rngs_iff] at this ⊢; exact fun t ht => this t (List.mem_of_mem_drop ht)
  ·have e2 : T.inners ks = T.inners (ks.take r.toNat) + ((tAt ks r.toNat).inner + T.inners (ks.drop (r.toNat + 1))) := by
    conv => lhs; rw [e, inners_app]
    rfl
   have e3 : (T.node (tAt ks r.toNat).f (tAt ks r.toNat).v (tAt ks r.toNat).kids).inner = (tAt ks r.toNat).inner := by cases tAt ks r.toNat; rfl
   have e4 : (T.node f v ks).inner = ks.length + T.inners ks := by rw [T.inner_eq, T.kids_node]
   have := h.siz
   omega
  ·have := h.rg.2
   rw [T.rngs_iff] at this
   have h3 := this _ (tAt_mem hrl)
   generalize tAt ks r.toNat = x at h3
   cases x; exact h3
 ·generalize seedC bs pos1 st1 = S1 at *
  simp only [lin_161]
  simp only [codeX_seq, z_block, z_ghost, hfo, Option.bind_some]
  simp [d161_6, r161_5, g2, g0, g1, gj, hR2, hRl, hsd, hsd1, hcl, hcl1, hc, hr.1, hr.2, hw, hn6, loadBox, hR3, hmin, g0', clrA_tsl]
end Go.Proofs.Ytidlpcgcolcfgaa.VS
namespace Go.Proofs.Ytidlpcgcolcfgaa.VS
theorem loop161 (bs : List Int) (hl : bs.length ≤ 1099511627776) : ∀ (n j k : Nat) (B : Boxs) (A D : List T) (f v : Int) (ks : List T) (N : Nat), n + 2 = j → WS bs j k B A D f v ks N →
  ∀ s0, xheadOf 6 [0, 2, 3, 4, 5] s0 = some ⟨[(0, .ptr 0 0), (2, .ptr 1 0), (3, .ptr 5 0), (4, .ptr j (A.length * 3)), (5, .d (.int .i64 k))], B⟩ →
  ∃ (j' k' : Nat) (B' : Boxs) (A' D' : List T) (f' v' : Int) (ks' : List T) (N' : Nat), WS bs j' k' B' A' D' f' v' ks' N' ∧
   loopX XV (XV.lin 161) 6 [0, 2, 3, 4, 5] b161_0 s0 = some (.exit 0, ⟨[(0, .ptr 0 0), (2, .ptr 1 0), (3, .ptr 5 0), (4, .ptr j' (A'.length * 3)), (5, .d (.int .i64 k')), (22, .d (.bool false))], B'⟩) := by
 intro n
 induction n with
 | zero =>
  intro j k B A D f v ks N hn h s0 h0
  refine ⟨j, k, B, A, D, f, v, ks, N, h, loopX_out h0 ?_ (by simp)⟩
  have hjk := h.jk
  have hk : ¬ ((k : Int) < 3) := by omega
  simp [b161_0, r161_4, hk]
 | succ n ih =>
  intro j k B A D f v ks N hn h s0 h0
  have hjk := h.jk
  have hk : (k : Int) < 3 := by omega
  have hat := h.at_
  have hrow := row3_2 A (.d (.int .i64 f)) (.d (.int .i64 v)) (.d (.sl U (ks.map (T.enc U)))) D
  generalize hR : row3 A (.d (.int .i64 f)) (.d (.int .i64 v)) (.d (.sl U (ks.map (T.enc U)))) D = R at *
  have hRl : A.length * 3 + 2 < R.length := by rw [← hR, row3_len]; omega
  have hR3 : ∀ h : A.length * 3 + 2 < R.length, R[A.length * 3 + 2]'h = .d (.sl U (ks.map (T.enc U))) := fun h => (List.getElem?_eq_some_iff.1 hrow).2
  have hBl : j < B.length := by rw [h.len]; omega
  have hB3 : ∀ h : j < B.length, B[j]'h = some R := fun h => (List.getElem?_eq_some_iff.1 hat).2
  by_cases hks : 0 < ks.length
  ·obtain ⟨b, B1, hT, hc⟩ := once_at bs hl B 0 h.seed 2 (by omega) (by omega)
   have h1 := h.turn hT
   cases b with
   | true =>
    refine ⟨j, k, B1, A, D, f, v, ks, N, h1, loopX_out h0 ?_ (by simp)⟩
    simp [b161_0, r161_4, hk, hks, hc, hBl, hB3, hRl, hR3, loadBox]
   | false =>
    subst hn
    obtain ⟨B', A', D', f', v', ks', N', hW, hgo⟩ := go161 bs hl h1 hks (by omega)
    obtain ⟨j', k', B'', A'', D'', f'', v'', ks'', N'', hW2, hl2⟩ := ih (n + 2) (k + 1) B' A' D' f' v' ks' N' rfl hW ⟨[(0, .ptr 0 0), (2, .ptr 1 0), (3, .ptr 5 0), (4, .ptr (n + 2) (A'.length * 3)), (5, .d (.int .i64 ((k + 1 : Nat) : Int)))], B'⟩ (head_cut (e := []) (by simp) (by simp [safeRegs]; omega) hW.len (by simp))
    refine ⟨j', k', B'', A'', D'', f'', v'', ks'', N'', hW2, ?_⟩
    rw [← hl2]
    refine loopX_go h0 ?_
    rw [← hgo]
    generalize hG : VCode.seq (.block 1 (.ghost (.focC 4 2 [0, 2, 3, 4, 5]) (.region true 0 [0, 2, 3, 4, 5] r161_6))) (.region false 0 [0, 2, 3, 4, 5] r161_5) = G
    rw [show b161_0 = .seq (.seq (.region false 0 [0, 2, 3, 4, 5, 22] r161_4) (.cond (.t 22) .skip (.exit 0))) G from by rw [← hG]; rfl]
    simp [r161_4, hk, hks, hc, hBl, hB3, hRl, hR3, loadBox]
  ·refine ⟨j, k, B, A, D, f, v, ks, N, h, loopX_out h0 ?_ (by simp)⟩
   have hk0 : ks.length = 0 := by omega
   simp [b161_0, r161_4, hk, hk0, hBl, hB3, hRl, hR3, loadBox]
end Go.Proofs.Ytidlpcgcolcfgaa.VS
namespace Go.Proofs.Ytidlpcgcolcfgaa.VS
theorem WS.read {bs : List Int} {j k : Nat} {B : Boxs} {A D : List T} {f v : Int} {ks : List T} {N : Nat} (h : WS bs j k B A D f v ks N) {B' : Boxs} (hl : B'.length = 6) (hi : ∀ i, j < i → B'[i]? = B[i]?) (u : T) (g : Tag) (X : List DV) (hX : X.map DV.clr = u.kids.map (T.enc .sub))
  (hj : B'[j]? = some (some (row3 A (.d (.int .i64 u.f)) (.d (.int .i64 u.v)) (.d (.sl g X)) D))) :
  ∃ (c5 : List AV) (ds5 : List DV) (t' : T), B'[5]? = some (some c5) ∧ frzL (AV.frzC (maskB 2 B') 6) c5 = some ds5 ∧ ds5.map DV.clr = fcs [t'] ∧ t'.inner ≤ N + u.inner ∧ (u.rng → t'.rng) := by
 refine h.ctx B' _ u (fc A ++ ([.int .i64 u.f, .int .i64 u.v, .sl g X] ++ fc D)) hl hi hj ?_ ?_
 ·unfold row3
  exact frzL_app _ _ _ (frzL_d _ _ _) (frzL_app _ _ _ (frzL_d _ _ [.int .i64 u.f, .int .i64 u.v, .sl g X]) (frzL_d _ _ _))
 ·rw [List.map_append, List.map_append, fc_clr, fc_clr, fcs_app, fcs_cons]
  simp only [List.map_cons, List.map_nil, DV.clr, DV.clrs_map, hX, List.cons_append, List.nil_append]
theorem fin161 (B : Boxs) (S0 Z : Option (List AV)) (z0 z1 z2 : AV) (hlen : B.length = 6) (h0 : B[0]? = some S0) (h1 : B[1]? = some (some [z0, z1, z2])) (r : List (Nat × AV)) (h2 : lk r 2 = some (.ptr 1 0)) (h3 : lk r 3 = some (.ptr 5 0)) (t : T) (c5 : List AV) (ds5 : List DV)
  (e1 : B[5]? = some (some c5)) (e2 : frzL (AV.frzC (maskB 2 B) 6) c5 = some ds5) (e3 : ds5.map DV.clr = fcs [t]) :
  ∃ C, codeX XV (XV.lin 161) (.seq (.ghost (.frzB 3 2 [2]) (.region false 0 [2] r161_16)) .ret) ⟨r, B⟩ = some (.ret, ⟨[(2, .ptr 1 0)], [S0, some [.d (.int .i64 t.f), .d (.int .i64 t.v), .d (terms .sub t.kids)], C]⟩) := by
 have hk : keep r [2] = [(2, .ptr 1 0)] := by simp [keep, h2]
 have htk : B.take 2 = [S0, some [z0, z1, z2]] := by
  match B, hlen with
  | [b0, b1, b2, b3, b4, b5], _ => simp at h0 h1 ⊢; exact ⟨h0, h1⟩
 obtain ⟨g, xs, r', rfl, hx, hr⟩ := fcs_inv e3
 have hr0 : r' = [] := by simpa [fcs] using hr
 subst hr0
 have hcell := fcs_cell _ _ e3
 have hbg : bget B 5 = some c5 := by simp only [bget, e1]
 refine ⟨some [.d (.int .i64 t.f), .d (.int .i64 t.v), .d (terms .sub t.kids)], ?_⟩
 have hx' : xs.map DV.clr = t.kids.map (T.enc .sub) := by rw [← DV.clrs_map]; exact hx
 have hgh : xGho (.frzB 3 2 [2]) ⟨r, B⟩ = some ⟨[(3, .ptr 2 0), (2, .ptr 1 0)], [S0, some [z0, z1, z2], some [.d (.int .i64 t.f), .d (.int .i64 t.v), .d (terms .sub t.kids)]]⟩ := by
  rw [g_frzB]
  simp only [h3]
  rw [g_frzB1, if_pos ⟨by omega, by simp, by rw [hk]; simp [safeRegs], by omega⟩, hbg, Option.bind_some, hlen, e2, Option.bind_some, if_pos hcell, hk, htk]
  simp [hx']
 simp only [codeX_seq, z_ghost, hgh, Option.bind_some]
 simp [r161_16, splice, isCell_int, isCell_sl, isCellA_d, safe_d, loadBox]
end Go.Proofs.Ytidlpcgcolcfgaa.VS
namespace Go.Proofs.Ytidlpcgcolcfgaa.VS
def finc161 : VCode := .seq (.ghost (.frzB 3 2 [2]) (.region false 0 [2] r161_16)) .ret
def case161 : VCode := .seq (.region false 0 [0, 2, 3, 4, 38] r161_7) (.block 2 (.seq (.region false 0 [0, 2, 3, 4, 38, 39] r161_8) (.cond (.t 39) (.region false 0 [2, 3] r161_9) (.seq (.region false 0 [0, 2, 3, 4, 38, 47] r161_10) (.cond (.t 47) (.region false 0 [2, 3] r161_11) (.seq (.region false 0 [0, 2, 3, 4, 38, 55] r161_12) (.cond (.t 55) (.regionT 0 [2, 3] r161_13 r161_13_9) (.seq (.region false 0 [0, 2, 3, 69] r161_14) (.cond (.t 69) (.seq (.region false 0 [2] r161_15) .ret) .skip)))))))))
theorem v161_eq : v161 = ⟨1, [.cell 2 true 3], .seq (.region false 1 [0, 2] r161_0) (.seq (.region false 4 [0, 2, 3] r161_1) (.seq (.region false 0 [0, 2, 3, 4] r161_2) (.seq (.seq (.region false 0 [0, 2, 3, 4, 5] r161_3) (.block 0 (.loop [0, 2, 3, 4, 5] b161_0))) (.seq case161 finc161))))⟩ := rfl
def Read5 (bs : List Int) (B : Boxs) (n : Nat) : Prop := B.length = 6 ∧ SeedAt bs 0 B ∧ B[1]? = some (some [.d (.int .i64 0), .d (.int .i64 0), .d (.sl U [])]) ∧
 ∃ (c5 : List AV) (ds5 : List DV) (t' : T), B[5]? = some (some c5) ∧ frzL (AV.frzC (maskB 2 B) 6) c5 = some ds5 ∧ ds5.map DV.clr = fcs [t'] ∧ t'.inner ≤ n ∧ t'.rng
theorem WS.read5 {bs : List Int} {j k : Nat} {B : Boxs} {A D : List T} {f v : Int} {ks : List T} {N : Nat} (h : WS bs j k B A D f v ks N) (u : T) (g : Tag) (X : List DV) (hX : X.map DV.clr = u.kids.map (T.enc .sub)) (n : Nat) (hn : N + u.inner ≤ n) (hur : u.rng) :
  Read5 bs (B.set j (some (row3 A (.d (.int .i64 u.f)) (.d (.int .i64 u.v)) (.d (.sl g X)) D))) n := by
 have hj := h.j2
 have hjk := h.jk
 have hlen := h.len
 obtain ⟨c5, ds5, t', e1, e2, e3, e4, e5⟩ := h.read (B' := B.set j (some (row3 A (.d (.int .i64 u.f)) (.d (.int .i64 u.v)) (.d (.sl g X)) D))) (by simp [hlen]) (fun i hi => by rw [bsetc (by omega)]) u g X hX (by rw [List.getElem?_set_self (by omega)])
 refine ⟨by simp [hlen], ?_, by rw [bsetc (by omega)]; exact h.one, c5, ds5, t', e1, e2, e3, by omega, e5 hur⟩
 obtain ⟨pos, st, hp, hb⟩ := h.seed
 exact ⟨pos, st, hp, by simp only [bget]; rw [bsetc (by omega), bget_iff hb]⟩
theorem kidsU_clr (ks : List T) : (ks.map (T.enc U)).map DV.clr = ks.map (T.enc .sub) := clr_terms _ _
theorem case161_ok (bs : List Int) (hl : bs.length ≤ 1099511627776) {j k : Nat} {B : Boxs} {A D : List T} {f v : Int} {ks : List T} {N : Nat} (h : WS bs j k B A D f v ks N) (x5 x22 : DV) :
  (∃ (r' : List (Nat × AV)) (B' : Boxs), codeX XV (XV.lin 161) case161 ⟨[(0, .ptr 0 0), (2, .ptr 1 0), (3, .ptr 5 0), (4, .ptr j (A.length * 3)), (5, .d x5), (22, .d x22)], B⟩ = some (.normal, ⟨r', B'⟩) ∧ lk r' 2 = some (.ptr 1 0) ∧ lk r' 3 = some (.ptr 5 0) ∧ Read5 bs B' 12) ∨
  (∃ (t : T) (g : Tag) (B' : Boxs), codeX XV (XV.lin 161) case161 ⟨[(0, .ptr 0 0), (2, .ptr 1 0), (3, .ptr 5 0), (4, .ptr j (A.length * 3)), (5, .d x5), (22, .d x22)], B⟩ = some (.ret, ⟨[(2, .ptr 1 0)], B'⟩) ∧ SeedAt bs 0 B' ∧ B'.length = 6 ∧ B'[1]? = some (some [.d (.int .i64 t.f), .d (.int .i64 t.v), .d (.sl g (t.kids.map (T.enc g)))]) ∧ t.inner ≤ 14 ∧ t.rng) := by
 obtain ⟨r, B1, hr, hT1, hc⟩ := l1Below_at bs hl B 0 h.seed 12 (by omega) (by omega)
 have h1 := h.turn hT1
 have hat := h1.at_
 have hjl : j < B1.length := by have := h1.jk; rw [h1.len]; omega
 have hj2 := h.j2
 have hjk := h.jk
 have hsz := h.siz
 have keepT : ∀ (B' : Boxs), Turned bs 0 B1 B' → B'[j]? = some (some (row3 A (.d (.int .i64 f)) (.d (.int .i64 v)) (.d (.sl U (ks.map (T.enc U)))) D)) := fun B' hT => (h1.turn hT).at_
 by_cases c0 : r = 0
 ·subst c0
  obtain ⟨i, hi, B2, hT2, hc2⟩ := l1PickInt_at bs hl B1 0 h1.seed [-2, -1, 0, 5, 7] (by simp) (by simp)
  generalize ([-2, -1, 0, 5, 7] : List Int)[i] = x at hc2
  have h2 := h1.turn hT2
  have hat2 := h2.at_
  have hl2 := h2.len
  have hB2 : ∀ h : j < B2.length, B2[j]'h = some (row3 A (.d (.int .i64 f)) (.d (.int .i64 v)) (.d (.sl U (ks.map (T.enc U)))) D) := fun h => (List.getElem?_eq_some_iff.1 hat2).2
  have hrl := row3_len A (.d (.int .i64 f)) (.d (.int .i64 v)) (.d (.sl U (ks.map (T.enc U)))) D
  have hsp := row3_p0 A (.d (.int .i64 f)) (.d (.int .i64 v)) (.d (.sl U (ks.map (T.enc U)))) (.d (.int .i64 x)) D
  have hle : A.length * 3 + 1 ≤ A.length * 3 + 3 + D.length * 3 := by omega
  have hj6 : j < 6 := by omega
  have hin : ∀ a b : Int, (T.node a b ks).inner = (T.node f v ks).inner := fun a b => by simp only [T.inner]
  have hres := h2.read5 (.node x v ks) U (ks.map (T.enc U)) (kidsU_clr ks) 12 (by rw [hin]; omega) ⟨h.rg.1, h.rg.2⟩
  simp only [T.f_node, T.v_node] at hres
  refine .inl ⟨[(2, .ptr 1 0), (3, .ptr 5 0)], _, ?_, rfl, rfl, hres⟩
  simp only [List.map_cons, List.map_nil] at hc2
  generalize row3 A (.d (.int .i64 f)) (.d (.int .i64 v)) (.d (.sl U (ks.map (T.enc U)))) D = R at *
  generalize row3 A (.d (.int .i64 x)) (.d (.int .i64 v)) (.d (.sl U (ks.map (T.enc U)))) D = R' at *
  simp [case161, r161_7, r161_8, r161_9, hc, hc2, hl2, hB2, hj6, hrl, hsp, hle, buildRow, List.replicate, isCell_int, isCellA_d, safe_d, xstoreBox]
 by_cases c1 : r = 1
 ·subst c1
  obtain ⟨i, hi, B2, hT2, hc2⟩ := l1PickInt_at bs hl B1 0 h1.seed [-1, 1, 99, 100] (by simp) (by simp)
  have hxx : ∀ y : Int, y ∈ ([-1, 1, 99, 100] : List Int) → -9223372036854775808 ≤ y ∧ y ≤ 9223372036854775807 := fun y hy => by
   simp only [List.mem_cons, List.not_mem_nil, or_false] at hy; omega
  have hxr := hxx _ (List.getElem_mem hi)
  generalize ([-1, 1, 99, 100] : List Int)[i] = x at hc2 hxr
  have h2 := h1.turn hT2
  have hat2 := h2.at_
  have hl2 := h2.len
  have hB2 : ∀ h : j < B2.length, B2[j]'h = some (row3 A (.d (.int .i64 f)) (.d (.int .i64 v)) (.d (.sl U (ks.map (T.enc U)))) D) := fun h => (List.getElem?_eq_some_iff.1 hat2).2
  have hrl := row3_len A (.d (.int .i64 f)) (.d (.int .i64 v)) (.d (.sl U (ks.map (T.enc U)))) D
  have hsp := row3_p1 A (.d (.int .i64 f)) (.d (.int .i64 v)) (.d (.sl U (ks.map (T.enc U)))) (.d (.int .i64 x)) D
  have hle : A.length * 3 + 1 + 1 ≤ A.length * 3 + 3 + D.length * 3 := by omega
  have hj6 : j < 6 := by omega
  have hin : ∀ a b : Int, (T.node a b ks).inner = (T.node f v ks).inner := fun a b => by simp only [T.inner]
  have hres := h2.read5 (.node f x ks) U (ks.map (T.enc U)) (kidsU_clr ks) 12 (by rw [hin]; omega) ⟨hxr, h.rg.2⟩
  simp only [T.f_node, T.v_node] at hres
  refine .inl ⟨[(2, .ptr 1 0), (3, .ptr 5 0)], _, ?_, rfl, rfl, hres⟩
  simp only [List.map_cons, List.map_nil] at hc2
  generalize row3 A (.d (.int .i64 f)) (.d (.int .i64 v)) (.d (.sl U (ks.map (T.enc U)))) D = R at *
  generalize row3 A (.d (.int .i64 f)) (.d (.int .i64 x)) (.d (.sl U (ks.map (T.enc U)))) D = R' at *
  simp [case161, r161_7, r161_8, r161_10, r161_11, hc, hc2, hl2, hB2, hj6, hrl, hsp, hle, buildRow, List.replicate, isCell_int, isCellA_d, safe_d, xstoreBox]
 have n0 : (r == 0) = false := by simpa using c0
 have n1 : (r == 1) = false := by simpa using c1
 by_cases c2 : r = 2
 ·subst c2
  have hs := h1.seed
  obtain ⟨pos, st, hp, hb0⟩ := hs
  obtain ⟨t2, g2, B2, hi2, ⟨pos2, st2, hp2, rfl⟩, hc2⟩ := drawDeep_at bs hl 1 (by omega) 2 (by omega) [some (seedC bs pos st)] 0 ⟨pos, st, hp, rfl⟩
  simp only [List.set_cons_zero] at hc2
  have h2 := h1.turn (B' := B1.set 0 (some (seedC bs pos2 st2))) ⟨pos2, st2, hp2, rfl⟩
  have hl1 := h1.len
  have hB1 : ∀ h : j < B1.length, B1[j]'h = some (row3 A (.d (.int .i64 f)) (.d (.int .i64 v)) (.d (.sl U (ks.map (T.enc U)))) D) := fun h => (List.getElem?_eq_some_iff.1 hat).2
  have hX : (ks.map (T.enc U) ++ [t2.enc g2]).map DV.clr = (T.node f v (ks ++ [t2])).kids.map (T.enc .sub) := by
   rw [List.map_append, clr_terms, T.kids_node, List.map_append]; simp
  have hin : N + (T.node f v (ks ++ [t2])).inner ≤ 12 := by
   have e1 : (T.node f v (ks ++ [t2])).inner = ks.length + 1 + (T.inners ks + (t2.inner + 0)) := by
    rw [T.inner_eq, T.kids_node, inners_app]; simp only [List.length_append, List.length_cons, List.length_nil, T.inners]
   have e2 : (T.node f v ks).inner = ks.length + T.inners ks := by rw [T.inner_eq, T.kids_node]
   omega
  have hres := h2.read5 (.node f v (ks ++ [t2])) U _ hX 12 hin ⟨h.rg.1, rngs_app h.rg.2 ⟨hi2.2, trivial⟩⟩
  simp only [T.f_node, T.v_node] at hres
  have hj0 : (0 : Nat) ≠ j := by omega
  have hkl : (ks.length + 1) * 40 ≤ 140737488355328 := by
   have e2 : (T.node f v ks).inner = ks.length + T.inners ks := by rw [T.inner_eq, T.kids_node]
   omega
  have ha : xappend 3 40 (.sl U (ks.map (T.enc U))) (.sl .sub [t2.enc g2]) = some (.sl U (ks.map (T.enc U) ++ [t2.enc g2])) := by
   unfold xappend
   simp only
   rw [if_pos (by simp [isCell_int, isCell_sl])]
   simp only [List.isEmpty_cons, Bool.false_eq_true, if_false]
   rw [if_pos ⟨by simpa using hkl, trivial, by simp⟩]
  have hrl := row3_len A (.d (.int .i64 f)) (.d (.int .i64 v)) (.d (.sl .sub (ks.map (T.enc .sub)))) D
  have hg2 := row3_2 A (.d (.int .i64 f)) (.d (.int .i64 v)) (.d (.sl U (ks.map (T.enc U)))) D
  have hsp := row3_p2 A (.d (.int .i64 f)) (.d (.int .i64 v)) (.d (.sl .sub (ks.map (T.enc .sub)))) (.d (.sl U (ks.map (T.enc U) ++ [t2.enc g2]))) D
  have hRl : A.length * 3 + 2 < (row3 A (.d (.int .i64 f)) (.d (.int .i64 v)) (.d (.sl U (ks.map (T.enc U)))) D).length := by rw [row3_len]; omega
  have hclr : clrCells B1 j (A.length * 3 + 2) 1 = B1.set j (some (row3 A (.d (.int .i64 f)) (.d (.int .i64 v)) (.d (.sl .sub (ks.map (T.enc .sub)))) D)) := by
   unfold clrCells
   simp only [bget, hat]
   rw [List.drop_eq_getElem_cons hRl, (List.getElem?_eq_some_iff.1 hg2).2]
   simp only [List.take_succ_cons, List.take_zero, AV.clrs, AV.clr, DV.clr, DV.clrs_map, clr_terms]
   rw [row3_p2]
  have hld : loadBox B1 false 1 j (A.length * 3 + 2) = some (.d (.sl U (ks.map (T.enc U)))) := by
   simp only [loadBox, bget, hat, Option.bind_some, Bool.false_eq_true, if_false, hg2]
  have heq : ((B1.set j (some (row3 A (.d (.int .i64 f)) (.d (.int .i64 v)) (.d (.sl .sub (ks.map (T.enc .sub)))) D))).set 0 (some (seedC bs pos2 st2))).set j (some (row3 A (.d (.int .i64 f)) (.d (.int .i64 v)) (.d (.sl U (ks.map (T.enc U) ++ [t2.enc g2]))) D)) = (B1.set 0 (some (seedC bs pos2 st2))).set j (some (row3 A (.d (.int .i64 f)) (.d (.int .i64 v)) (.d (.sl U (ks.map (T.enc U) ++ [t2.enc g2]))) D)) := by
   rw [List.set_comm _ _ (Ne.symm hj0), List.set_set]
  rw [← heq] at hres
  have hle : A.length * 3 + 2 + 1 ≤ A.length * 3 + 3 + D.length * 3 := by omega
  have hj6 : j < 6 := by omega
  have hn6 : ¬ 6 ≤ j := by omega
  have hj0' : ¬ j = 0 := by omega
  refine .inl ⟨[(2, .ptr 1 0), (3, .ptr 5 0)], _, ?_, rfl, rfl, hres⟩
  have g0 : (B1.set j (some (row3 A (.d (.int .i64 f)) (.d (.int .i64 v)) (.d (.sl .sub (ks.map (T.enc .sub)))) D)))[0]? = some (some (seedC bs pos st)) := by rw [bsetc (Ne.symm hj0), bget_iff hb0]
  have gl : (B1.set j (some (row3 A (.d (.int .i64 f)) (.d (.int .i64 v)) (.d (.sl .sub (ks.map (T.enc .sub)))) D))).length = 6 := by simp [hl1]
  have gj : ((B1.set j (some (row3 A (.d (.int .i64 f)) (.d (.int .i64 v)) (.d (.sl .sub (ks.map (T.enc .sub)))) D))).set 0 (some (seedC bs pos2 st2)))[j]? = some (some (row3 A (.d (.int .i64 f)) (.d (.int .i64 v)) (.d (.sl .sub (ks.map (T.enc .sub)))) D)) := by rw [bsetc hj0, List.getElem?_set_self (by omega)]
  clear hres heq hat keepT hB1
  generalize hR' : row3 A (.d (.int .i64 f)) (.d (.int .i64 v)) (.d (.sl .sub (ks.map (T.enc .sub)))) D = R' at *
  generalize row3 A (.d (.int .i64 f)) (.d (.int .i64 v)) (.d (.sl U (ks.map (T.enc U) ++ [t2.enc g2]))) D = R'' at *
  generalize hB3 : B1.set j (some R') = B3 at *
  have g0' : ∀ h : 0 < B3.length, B3[0]'h = some (seedC bs pos st) := fun h => (List.getElem?_eq_some_iff.1 g0).2
  have hsd := datas_seed' bs pos st
  have hsd1 := datas_seed' bs pos2 st2
  have hcl := clrs_seed bs pos st
  have hcl1 := clrs_seed bs pos2 st2
  generalize seedC bs pos st = S0 at *
  generalize seedC bs pos2 st2 = S1 at *
  have gj' : ∀ h : j < (B3.set 0 (some S1)).length, (B3.set 0 (some S1))[j]'h = some R' := fun h => (List.getElem?_eq_some_iff.1 gj).2
  have hc2' : callX XV 166 [.ptr 0 0, .d (.int .i64 1), .d (.int .i64 2)] [some S0] = some (.d (t2.enc g2), [some S1]) := hc2
  simp [case161, r161_7, r161_8, r161_10, r161_12, d161_13, hc, hl1, gl, hn6, hj6, hld, hclr, hc2', g0', hsd, hsd1, hcl, hcl1, ha, hsp, hrl, hle, gj', gj, buildRow, List.replicate, isCell_int, isCell_sl, isCellA_d, safe_d, xstoreBox, -clrCells, -loadBox, lk, hj0']
 have n2 : (r == 2) = false := by simpa using c2
 by_cases c3 : r = 3
 ·subst c3
  obtain ⟨t2, g2, B2, hi2, hT2, hc2⟩ := drawDeep_at bs hl 3 (by omega) 3 (by omega) B1 0 h1.seed
  have h2 := h1.turn hT2
  have hl2 := h2.len
  have h21 := h2.one
  have hB21 : ∀ h : 1 < B2.length, B2[1]'h = some [.d (.int .i64 0), .d (.int .i64 0), .d (.sl U [])] := fun h => (List.getElem?_eq_some_iff.1 h21).2
  obtain ⟨f2, vw2, ks2⟩ := t2
  obtain ⟨pos2, st2, hp2, hb2⟩ := h2.seed
  have hc2' : callX XV 166 [.ptr 0 0, .d (.int .i64 3), .d (.int .i64 3)] B1 = some (.d ((T.node f2 vw2 ks2).enc g2), B2) := hc2
  refine .inr ⟨.node f2 vw2 ks2, g2, B2.set 1 (some [.d (.int .i64 f2), .d (.int .i64 vw2), .d (.sl g2 (ks2.map (T.enc g2)))]), ?_, ⟨pos2, st2, hp2, by simp only [bget]; rw [bsetc (by omega), bget_iff hb2]⟩, by simp [hl2], by rw [List.getElem?_set_self (by omega)]; simp, by have := hi2.1; simp at this; omega, hi2.2⟩
  simp [case161, r161_7, r161_8, r161_10, r161_12, r161_14, r161_15, hc, hc2', hl2, hB21, splice, isCell_int, isCell_sl, isCellA_d, safe_d, xstoreBox]
 have n3 : (r == 3) = false := by simpa using c3
 have hin : Read5 bs B1 12 := by
  have := h1.read5 (.node f v ks) U (ks.map (T.enc U)) (kidsU_clr ks) 12 (by omega) h.rg
  simp only [T.f_node, T.v_node] at this
  rwa [show B1.set j (some (row3 A (.d (.int .i64 f)) (.d (.int .i64 v)) (.d (.sl U (ks.map (T.enc U)))) D)) = B1 from by
   apply List.ext_getElem?
   intro i
   by_cases hij : j = i
   ·subst hij; rw [List.getElem?_set_self', hat]; simp
   ·rw [List.getElem?_set_ne hij]] at this
 refine .inl ⟨[(0, .ptr 0 0), (2, .ptr 1 0), (3, .ptr 5 0), (69, .d (.bool false))], B1, ?_, rfl, rfl, hin⟩
 simp [case161, r161_7, r161_8, r161_10, r161_12, r161_14, hc, n0, n1, n2, n3]
end Go.Proofs.Ytidlpcgcolcfgaa.VS
namespace Go.Proofs.Ytidlpcgcolcfgaa.VS
theorem l3Draw_at (bs : List Int) (hl : bs.length ≤ 1099511627776) (pos st : Int) (hp : 0 ≤ pos ∧ pos ≤ bs.length) :
  ∃ (t : T) (g : Tag) (pos' st' : Int), (t.inner ≤ 14 ∧ t.rng) ∧ (0 ≤ pos' ∧ pos' ≤ bs.length) ∧ callX XV 161 [.ptr 0 0] [some (seedC bs pos st)] = some (.d (t.enc g), [some (seedC bs pos' st')]) := by
 have hs0 : SeedAt bs 0 [some (seedC bs pos st), some [.d (.int .i64 0), .d (.int .i64 0), .d (.sl U [])], none, none, none, none] := ⟨pos, st, hp, rfl⟩
 obtain ⟨t0, B1, hi0, _, ⟨pos1, st1, hp1, rfl⟩, hc⟩ := drawRight_at bs hl 3 (by omega) _ 0 hs0
 simp only [List.set_cons_zero] at hc
 obtain ⟨f, v, ks⟩ := t0
 have hW : WS bs 5 0 [some (seedC bs pos1 st1), some [.d (.int .i64 0), .d (.int .i64 0), .d (.sl U [])], none, none, none, some [.d (.int .i64 f), .d (.int .i64 v), .d (.sl U (ks.map (T.enc U)))]] [] [] f v ks 0 := by
  refine ⟨rfl, by omega, rfl, ⟨pos1, st1, hp1, rfl⟩, rfl, fun i h1 h2 => ?_, rfl, fun rs hr => ?_, Ctx.base _, by omega, hi0.2⟩
  ·rcases i with _ | _ | _ | _ | _ | i <;> first | omega | rfl
  ·simp [xrest_seed rs hr bs pos1 st1, rest_encs]
 obtain ⟨j, k, B2, A, D, f', v', ks', N, hW2, hloop⟩ := loop161 bs hl 3 5 0 _ [] [] f v ks 0 rfl hW ⟨[(0, .ptr 0 0), (2, .ptr 1 0), (3, .ptr 5 0), (4, .ptr 5 0), (5, .d (.int .i64 0))], [some (seedC bs pos1 st1), some [.d (.int .i64 0), .d (.int .i64 0), .d (.sl U [])], none, none, none, some [.d (.int .i64 f), .d (.int .i64 v), .d (.sl U (ks.map (T.enc U)))]]⟩ (by simp [xheadOf, safeRegs])
 have hcase := case161_ok bs hl hW2 (.int .i64 k) (.bool false)
 have start : ∀ q : Option (AV × Boxs), xFin 1 [.cell 2 true 3] (codeX XV (XV.lin 161) (.seq case161 finc161) ⟨[(0, .ptr 0 0), (2, .ptr 1 0), (3, .ptr 5 0), (4, .ptr j (A.length * 3)), (5, .d (.int .i64 k)), (22, .d (.bool false))], B2⟩) = q → callX XV 161 [.ptr 0 0] [some (seedC bs pos st)] = q := by
  intro q hq
  rw [z_callB XV _ _ _ v161 rfl xcode_161 rfl (m := 1) rfl rfl, v161_eq]
  simp only [clrBs_some, clrBs_nil, clrs_seed]
  rw [← hq]
  simp only [lin_161] at hloop ⊢
  generalize VCode.seq case161 finc161 = G
  simp [r161_0, r161_1, r161_2, r161_3, hc, splice, isCell_int, isCell_sl, isCellA_d, safe_d]
  rw [hloop]
  simp
 rcases hcase with ⟨r', B', e1, e2, e3, hlen, ⟨pos2, st2, hp2, hb⟩, hone, c5, ds5, t', q1, q2, q3, q4, q5⟩ | ⟨t, g, B', e1, ⟨pos2, st2, hp2, hb⟩, hlen, hone, hi, hir⟩
 ·obtain ⟨C, hf⟩ := fin161 B' (some (seedC bs pos2 st2)) none _ _ _ hlen (bget_iff hb) hone r' e2 e3 t' c5 ds5 q1 q2 q3
  refine ⟨t', .sub, pos2, st2, ⟨by omega, q5⟩, hp2, start _ ?_⟩
  rw [codeX_seq, e1]
  simp only [xThen_normal]
  unfold finc161
  rw [hf]
  obtain ⟨f2, vw2, ks2⟩ := t'
  simp [loadBox]
 ·refine ⟨t, g, pos2, st2, ⟨hi, hir⟩, hp2, start _ ?_⟩
  rw [codeX_seq, e1]
  simp only [xThen_ret]
  obtain ⟨f2, vw2, ks2⟩ := t
  match B', hlen with
  | [b0, b1, b2, b3, b4, b5], _ =>
   have hb0 := bget_iff hb
   simp at hb0 hone
   subst hb0; subst hone
   simp [loadBox]
end Go.Proofs.Ytidlpcgcolcfgaa.VS
namespace Go.Proofs.Ytidlpcgcolcfgaa.VS
theorem datas_seed (bs : List Int) (pos st : Int) : datas (seedC bs pos st) = some [.sl .sub (bs.map (.int .u8)), .int .i64 pos, .int .i64 st] := by simp [seedC]
end Go.Proofs.Ytidlpcgcolcfgaa.VS
namespace Go.Proofs.Ytidlpcgcolcfgaa.VS
end Go.Proofs.Ytidlpcgcolcfgaa.VS
namespace Go.Proofs.Ytidlpcgcolcfgaa.VS
end Go.Proofs.Ytidlpcgcolcfgaa.VS
namespace Go.Proofs.Ytidlpcgcolcfgaa.VS
theorem sameInts_self (l : List Int) (hl : l.length ≤ 4398046511104) : callX XV 188 [.d (is l), .d (is l)] [] = some (.d (.bool true), []) := by
 rw [z_call XV _ _ _ v188 rfl xcode_188 rfl]
 have hloop := loopX_upto (X := XV) (T := []) (L := 0) (live := [0, 1, 5]) (b := b188_0) (n := l.length) (γ := Unit) (st := fun (_ : Unit) i => ⟨[(0, .d (is l)), (1, .d (is l)), (5, .d (.int .i64 i))], []⟩) (step := fun _ _ => .inl ())
  (F := fun _ => (.exit 0, ⟨[(0, .d (is l)), (1, .d (is l)), (5, .d (.int .i64 l.length)), (14, .d (.bool false))], []⟩)) (R := fun _ => (.ret, ⟨[], []⟩))
  (fun _ => ⟨by simp, by simp [b188_0, r188_0, r188_1, r188_2, r188_3, r188_4, d188_6, r188_7, r188_5, r188_8]⟩)
  (fun _ i hi => by
   have hw := wrap_succ (n := i) (by omega)
   exact ⟨_, by simp [b188_0, r188_0, r188_1, r188_2, r188_3, r188_4, d188_6, r188_7, r188_5, r188_8, hi, hw, cut, iAt_lt hi]; rfl, by simp [xheadOf, safeRegs]⟩)
  l.length () 0 ⟨[(0, .d (is l)), (1, .d (is l)), (5, .d (.int .i64 0))], []⟩ (by omega) (by simp [xheadOf, safeRegs])
 rw [run_on] at hloop
 simp [v188, r188_0, r188_1, r188_2, r188_3, r188_4, d188_6, r188_7, r188_5, r188_8]
 rw [hloop]
 simp [v188, r188_0, r188_1, r188_2, r188_3, r188_4, d188_6, r188_7, r188_5, r188_8]
end Go.Proofs.Ytidlpcgcolcfgaa.VS
namespace Go.Proofs.Ytidlpcgcolcfgaa.VS
theorem drawVarsOf_eq (bs : List Int) (hl : bs.length ≤ 1099511627776) : ∃ (t : T) (g : Tag), (t.inner ≤ 14 ∧ t.rng) ∧ callX XV 184 [.d (.sl .sub (bs.map (.int .u8)))] [] = some (.d (t.enc g), []) := by
 obtain ⟨st, h1⟩ := l1New_eq bs hl [some [.d (.int .i64 0), .d (.int .i64 0), .d (.sl U [])]]
 obtain ⟨t, g, p2, s2, h2, _, h3⟩ := l3Draw_at bs hl 0 st ⟨Int.le_refl _, by omega⟩
 refine ⟨t, g, h2, ?_⟩
 rw [z_call XV _ _ _ v184 rfl xcode_184 rfl]
 obtain ⟨f, v, ks⟩ := t
 simp [v184, r184_0, r184_1, h1, h3, datas_seed, clrs_seed, splice, isCell_int, isCell_sl, isCellA_d, safe_d, loadBox]
end Go.Proofs.Ytidlpcgcolcfgaa.VS
namespace Go.Proofs.Ytidlpcgcolcfgaa.VS
mutual
def T.nodes : T → List T
 | .node f v ks => .node f v ks :: T.nodess ks
def T.nodess : List T → List T
 | [] => []
 | t :: r => t.nodes ++ T.nodess r
end
mutual
theorem fold_nodes {σ : Type} (e : T → σ → σ) : ∀ (t : T) (s : σ), T.fold e t s = t.nodes.foldl (fun s x => e x s) s
 | .node f v ks, s => by simp only [T.fold, T.nodes, List.foldl_cons]; exact folds_nodes e ks _
theorem folds_nodes {σ : Type} (e : T → σ → σ) : ∀ (l : List T) (s : σ), T.folds e l s = (T.nodess l).foldl (fun s x => e x s) s
 | [], s => by simp [T.folds, T.nodess]
 | t :: r, s => by simp only [T.folds, T.nodess, List.foldl_append]; rw [fold_nodes e t s]; exact folds_nodes e r _
end
mutual
theorem sum_nodes (w : T → Int) : ∀ t : T, T.sum w t = (t.nodes.map w).sum
 | .node f v ks => by simp only [T.sum, T.nodes, List.map_cons, List.sum_cons, sums_nodes w ks]
theorem sums_nodes (w : T → Int) : ∀ l : List T, T.sums w l = ((T.nodess l).map w).sum
 | [] => by simp [T.sums, T.nodess]
 | t :: r => by simp only [T.sums, T.nodess, List.map_append, List.sum_append, sum_nodes w t, sums_nodes w r]
end
mutual
theorem nodes_len : ∀ t : T, t.nodes.length = t.inner + 1
 | .node f v ks => by simp only [T.nodes, T.inner, List.length_cons]; rw [nodess_len ks]
theorem nodess_len : ∀ l : List T, (T.nodess l).length = l.length + T.inners l
 | [] => rfl
 | t :: r => by simp only [T.nodess, T.inners, List.length_append, List.length_cons]; rw [nodes_len t, nodess_len r]; omega
end
theorem numAddL_mem (l : List Int) (n x : Int) : x ∈ numAddL l n ↔ x = n ∨ x ∈ l := by
 unfold numAddL
 split
 ·rename_i h
  rw [List.contains_iff_mem] at h
  constructor
  ·exact fun hx => .inr hx
  ·rintro (rfl | hx)
   ·exact h
   ·exact hx
 ·have e : l = l.take (numAt l n) ++ l.drop (numAt l n) := (List.take_append_drop _ _).symm
  constructor
  ·intro hx
   simp only [List.mem_append, List.mem_cons] at hx
   rcases hx with hx | hx | hx
   ·exact .inr (List.mem_of_mem_take hx)
   ·exact .inl hx
   ·exact .inr (List.mem_of_mem_drop hx)
  ·intro hx
   simp only [List.mem_append, List.mem_cons]
   rcases hx with hx | hx
   ·exact .inr (.inl hx)
   ·rw [e] at hx
    rcases List.mem_append.1 hx with h | h
    ·exact .inl h
    ·exact .inr (.inr h)
theorem numAddL_srt (l : List Int) (n : Int) (h : l.Pairwise (· < ·)) : (numAddL l n).Pairwise (· < ·) := by
 unfold numAddL
 split
 ·exact h
 ·rename_i hc
  have hne : ∀ x, x ∈ l → x ≠ n := fun x hx he => hc (by rw [List.contains_iff_mem]; exact he ▸ hx)
  have e : l = l.take (numAt l n) ++ l.drop (numAt l n) := (List.take_append_drop _ _).symm
  have hp := h
  rw [e, List.pairwise_append] at hp
  obtain ⟨p1, p2, p3⟩ := hp
  have lo : ∀ x, x ∈ l.take (numAt l n) → x < n := fun x hx => by
   obtain ⟨i, hi, rfl⟩ := List.getElem_of_mem hx
   rw [List.length_take] at hi
   have hn := List.not_of_lt_findIdx (p := fun x => decide (x > n)) (xs := l) (i := i) (by unfold numAt at hi; omega)
   rw [List.getElem_take]
   have hm := hne _ (List.getElem_mem (by omega : i < l.length))
   simp at hn
   omega
  have hi : ∀ x, x ∈ l.drop (numAt l n) → n < x := fun x hx => by
   have hlt : numAt l n < l.length := by
    rcases Nat.lt_or_ge (numAt l n) l.length with h1 | h1
    ·exact h1
    ·rw [List.drop_of_length_le h1] at hx; simp at hx
   have hf := List.findIdx_getElem (p := fun x => decide (x > n)) (xs := l) (w := hlt)
   rw [List.drop_eq_getElem_cons hlt] at hx p2
   have h0 : n < l[numAt l n] := of_decide_eq_true hf
   rcases List.mem_cons.1 hx with rfl | hx
   ·exact h0
   ·have := (List.pairwise_cons.1 p2).1 x hx; omega
  rw [List.pairwise_append]
  refine ⟨p1, List.pairwise_cons.2 ⟨hi, p2⟩, fun a ha b hb => ?_⟩
  rcases List.mem_cons.1 hb with hb | hb
  ·subst hb; exact lo a ha
  ·exact p3 a ha b hb
theorem foldV_srt : ∀ (l : List T) (s : List Int), s.Pairwise (· < ·) → (l.foldl (fun s x => eV x s) s).Pairwise (· < ·)
 | [], s, h => h
 | x :: l, s, h => by
  rw [List.foldl_cons]
  refine foldV_srt l _ ?_
  unfold eV
  split
  ·exact numAddL_srt _ _ h
  ·exact h
theorem foldV_mem : ∀ (l : List T) (s : List Int) (n : Int), n ∈ l.foldl (fun s x => eV x s) s ↔ n ∈ s ∨ ∃ x, x ∈ l ∧ x.f = -1 ∧ x.v = n
 | [], s, n => by simp
 | x :: l, s, n => by
  rw [List.foldl_cons, foldV_mem l]
  unfold eV
  by_cases h : x.f = -1
  ·rw [if_pos h, numAddL_mem]
   constructor
   ·rintro ((rfl | h1) | ⟨y, h1, h2⟩)
    ·exact .inr ⟨x, by simp, h, rfl⟩
    ·exact .inl h1
    ·exact .inr ⟨y, by simp [h1], h2⟩
   ·rintro (h1 | ⟨y, h1, h2, h3⟩)
    ·exact .inl (.inr h1)
    ·rcases List.mem_cons.1 h1 with rfl | h1
     ·exact .inl (.inl h3.symm)
     ·exact .inr ⟨y, h1, h2, h3⟩
  ·rw [if_neg h]
   constructor
   ·rintro (h1 | ⟨y, h1, h2⟩)
    ·exact .inl h1
    ·exact .inr ⟨y, by simp [h1], h2⟩
   ·rintro (h1 | ⟨y, h1, h2, h3⟩)
    ·exact .inl h1
    ·rcases List.mem_cons.1 h1 with rfl | h1
     ·exact absurd h2 h
     ·exact .inr ⟨y, h1, h2, h3⟩
theorem varsL_srt (t : T) : (varsL t).Pairwise (· < ·) := by unfold varsL; rw [fold_nodes]; exact foldV_srt _ _ List.Pairwise.nil
theorem varsL_mem (t : T) (n : Int) : n ∈ varsL t ↔ ∃ x, x ∈ t.nodes ∧ x.f = -1 ∧ x.v = n := by unfold varsL; rw [fold_nodes, foldV_mem]; simp
theorem sum_le_of {l : List T} {w w' : T → Int} (h : ∀ x, x ∈ l → w x ≤ w' x) : (l.map w).sum ≤ (l.map w').sum := by
 induction l with
 | nil => simp
 | cons x l ih =>
  simp only [List.map_cons, List.sum_cons]
  have := h x (by simp)
  have := ih fun y hy => h y (by simp [hy])
  omega
theorem wC_nn (n : Int) (x : T) : 0 ≤ wC n x := by unfold wC; split <;> omega
theorem sum_zero {α : Type} : ∀ l : List α, (l.map fun _ => (0 : Int)).sum = 0
 | [] => rfl
 | a :: l => by simp only [List.map_cons, List.sum_cons, sum_zero l]; omega
theorem sum_nn {l : List T} {w : T → Int} (h : ∀ x, x ∈ l → 0 ≤ w x) : 0 ≤ (l.map w).sum := by
 have := sum_le_of (l := l) (w := fun _ => 0) (w' := w) h
 have e := sum_zero l
 omega
theorem sum_ge_one {l : List T} {w : T → Int} (h : ∀ x, x ∈ l → 0 ≤ w x) {x : T} (hx : x ∈ l) (h1 : 1 ≤ w x) : 1 ≤ (l.map w).sum := by
 induction l with
 | nil => simp at hx
 | cons y l ih =>
  simp only [List.map_cons, List.sum_cons]
  have hy := h y (by simp)
  have hl := sum_nn (l := l) (w := w) fun z hz => h z (by simp [hz])
  rcases List.mem_cons.1 hx with rfl | hx
  ·omega
  ·have := ih (fun z hz => h z (by simp [hz])) hx; omega
theorem count_ge (t : T) (n : Int) (h : n ∈ varsL t) : 1 ≤ T.sum (wC n) t := by
 rw [sum_nodes]
 obtain ⟨x, h1, h2, h3⟩ := (varsL_mem t n).1 h
 exact sum_ge_one (fun x _ => wC_nn n x) h1 (by unfold wC; rw [if_pos ⟨h2, h3⟩]; omega)
theorem count_sum (t : T) (l : List Int) (hl : l.Pairwise (· < ·)) : (l.map fun n => T.sum (wC n) t).sum ≤ T.sum (fun _ => 1) t := by
 have e : ∀ l : List Int, (l.map fun n => T.sum (wC n) t).sum = (t.nodes.map fun x => (l.map fun n => wC n x).sum).sum := by
  intro l
  induction l with
  | nil => simp only [List.map_nil, List.sum_nil]; exact (sum_zero _).symm
  | cons n l ih =>
   have h : ∀ N : List T, (N.map (wC n)).sum + (N.map fun x => (l.map fun n => wC n x).sum).sum = (N.map fun x => wC n x + (l.map fun n => wC n x).sum).sum := by
    intro N
    induction N with
    | nil => rfl
    | cons a N ih => simp only [List.map_cons, List.sum_cons]; omega
   simp only [List.map_cons, List.sum_cons, ih]
   rw [← h, sum_nodes]
 rw [e, sum_nodes]
 refine sum_le_of fun x _ => ?_
 have hz : ∀ l : List Int, x.v ∉ l → (l.map fun n => wC n x).sum = 0 := by
  intro l
  induction l with
  | nil => intro _; rfl
  | cons n l ih =>
   intro hx
   simp only [List.mem_cons, not_or] at hx
   simp only [List.map_cons, List.sum_cons, ih hx.2]
   unfold wC
   rw [if_neg (fun h => hx.1 h.2)]; omega
 induction l with
 | nil => simp
 | cons n l ih =>
  rw [List.pairwise_cons] at hl
  simp only [List.map_cons, List.sum_cons]
  by_cases hv : x.v = n
  ·have hn : x.v ∉ l := fun hm => by have := hl.1 _ hm; omega
   rw [hz l hn]
   unfold wC; split <;> omega
  ·have := ih hl.2
   have e0 : wC n x = 0 := by unfold wC; rw [if_neg (fun h => hv h.2)]
   omega
end Go.Proofs.Ytidlpcgcolcfgaa.VS
namespace Go.Proofs.Ytidlpcgcolcfgaa.VS
theorem sum_parts (t : T) : T.sum (fun _ => 1) t = t.inner + 1 := by
 rw [sum_nodes]
 have h := nodes_len t
 have e : ∀ l : List T, (l.map fun _ => (1 : Int)).sum = l.length := by
  intro l
  induction l with
  | nil => rfl
  | cons a l ih => simp only [List.map_cons, List.sum_cons, ih, List.length_cons]; omega
 rw [e, h]; omega
def psum (c : Int → Int) (l : List Int) (i : Nat) : Int := ((l.take i).map c).sum
theorem psum_succ (c : Int → Int) (l : List Int) (i : Nat) (h : i < l.length) : psum c l (i + 1) = psum c l i + c (iAt l i) := by
 unfold psum
 have e : l.take (i + 1) = l.take i ++ [iAt l i] := by rw [List.take_add_one, List.getElem?_eq_getElem h, iAt_lt h]; rfl
 rw [e, List.map_append, List.sum_append]
 simp
theorem FnCounts_x (bs : List Int) (hl : bs.length ≤ maxLen) : ∃ B, callX XV 362 [.d (.sl .sub (bs.map (.int .u8)))] [] = some (.d (.bool true), B) := by
 rw [z_call XV _ _ _ v362 rfl xcode_362 rfl]
 have hbig := big_eq bs
 by_cases h1 : 1048576 < bs.length
 ·simp only [h1, decide_true] at hbig
  simp [v362, r362_0, r362_1, r362_2, r362_3, r362_4, r362_5, r362_6, r362_7, r362_8, r362_9, d362_11, r362_12, d362_13, r362_10, r362_14, hbig]
 have hls : bs.length ≤ 1099511627776 := by omega
 simp only [h1, decide_false] at hbig
 obtain ⟨t, gt, ⟨ht, _⟩, d3⟩ := drawVarsOf_eq bs hls
 have c1 := implVarsOf_eq t (by omega)
 have c2 := specVarsOf_eq t (by omega)
 have hvl : (varsL t).length ≤ 15 := by
  have h : (T.fold eV t []).length + 0 ≤ 15 := fold_I (I := fun n (l : List Int) => l.length + n ≤ 15) (e := eV) (fun n s x h => by
   have := numAddL_len s x.v
   unfold eV; split <;> omega) t 0 [] (by simp; omega)
  exact h
 have c3 := sameInts_self (varsL t) (by omega)
 have k1 := implGround_eq t (by omega)
 have e1 := implParts_eq t (by omega)
 have hparts := sum_parts t
 have hcount : ∀ n, callX XV 73 [.d (t.enc .sub), .d (.int .i64 n)] [] = some (.d (.int .i64 (T.sum (wC n) t)), []) := fun n => by
  rw [implCount_eq t (by omega) n, wrap_i64]
  ·have h := sum_nodes (wC n) t
   have := sum_nn (l := t.nodes) (w := wC n) (fun x _ => wC_nn n x)
   omega
  ·have h := count_sum t [n] (List.pairwise_singleton _ _)
   simp only [List.map_cons, List.map_nil, List.sum_cons, List.sum_nil] at h
   omega
 have hsrt := varsL_srt t
 have hge := count_ge t
 have hsum : ∀ i, psum (fun n => T.sum (wC n) t) (varsL t) i ≤ t.inner + 1 := fun i => by
  have := count_sum t ((varsL t).take i) (hsrt.sublist (List.take_sublist _ _))
  rw [hparts] at this
  exact this
 have hnn : ∀ i, 0 ≤ psum (fun n => T.sum (wC n) t) (varsL t) i := fun i => by
  unfold psum
  have : ∀ l : List Int, 0 ≤ (l.map fun n => T.sum (wC n) t).sum := by
   intro l
   induction l with
   | nil => simp
   | cons a l ih =>
    simp only [List.map_cons, List.sum_cons]
    have h := sum_nodes (wC a) t
    have := sum_nn (l := t.nodes) (w := wC a) (fun x _ => wC_nn a x)
    omega
  exact this _
 have hw1 : IntKind.i64.wrap (T.sum (fun _ => 1) t) = T.sum (fun _ => 1) t := wrap_i64 (by omega) (by omega)
 rw [hw1, hparts] at e1
 have hps := psum_succ (fun n => T.sum (wC n) t) (varsL t)
 have hall : psum (fun n => T.sum (wC n) t) (varsL t) (varsL t).length ≤ t.inner + 1 := hsum _
 have hlt : ∀ i, i + 1 < (varsL t).length → iAt (varsL t) i < iAt (varsL t) (i + 1) := fun i hi => by
  have := (List.pairwise_iff_getElem.1 hsrt) i (i + 1) (by omega) hi (by omega)
  rw [iAt_lt (by omega : i < (varsL t).length), iAt_lt hi] at this
  exact this
 have hmem : ∀ i, i < (varsL t).length → 1 ≤ T.sum (wC (iAt (varsL t) i)) t := fun i hi => hge _ (by rw [← iAt_lt hi]; exact List.getElem_mem hi)
 generalize varsL t = vl at *
 obtain ⟨f, v, ks⟩ := t
 generalize hP : psum (fun n => T.sum (wC n) (.node f v ks)) vl = P at *
 have hloop := loopX_upto (X := XV) (T := XV.lin 362) (L := 1) (live := [3, 4, 5, 6]) (b := b362_0) (n := vl.length) (γ := Unit) (st := fun (_ : Unit) i => ⟨[(3, .ptr 0 0), (4, .d (is vl)), (5, .d (.int .i64 (P i))), (6, .d (.int .i64 i))], [some [.d (.int .i64 f), .d (.int .i64 v), .d (.sl gt (ks.map (T.enc gt)))]]⟩) (step := fun _ _ => .inl ())
  (F := fun _ => (.exit 0, ⟨[(3, .ptr 0 0), (4, .d (is vl)), (5, .d (.int .i64 (P vl.length))), (6, .d (.int .i64 vl.length)), (29, .d (.bool false))], [some [.d (.int .i64 f), .d (.int .i64 v), .d (.sl gt (ks.map (T.enc gt)))]]⟩)) (R := fun _ => (.ret, ⟨[], []⟩))
  (fun _ => ⟨by simp, by simp [b362_0, r362_0, r362_1, r362_2, r362_3, r362_4, r362_5, r362_6, r362_7, r362_8, r362_9, d362_11, r362_12, d362_13, r362_10, r362_14]⟩)
  (fun _ i hi => by
   have hw := wrap_succ (n := i) (by omega)
   have hc := hcount (iAt vl i)
   have h1 := hmem i hi
   have h2 := hps i hi
   have h3 := hsum (i + 1)
   have h4 := hnn i
   have hwp : IntKind.i64.wrap (P i + T.sum (wC (iAt vl i)) (.node f v ks)) = P (i + 1) := by rw [h2]; exact wrap_i64 (by omega) (by omega)
   have h1n : ¬ (T.sum (wC (iAt vl i)) (.node f v ks) < 1) := by omega
   generalize T.sum (wC (iAt vl i)) (.node f v ks) = q at *
   cases i with
   | zero =>
    have h0 : 0 < vl.length := hi
    have hw0 : IntKind.i64.wrap 1 = 1 := wrap_i64 (by omega) (by omega)
    refine ⟨_, by simp [b362_0, r362_0, r362_1, r362_2, r362_3, r362_4, r362_5, r362_6, r362_7, r362_8, r362_9, d362_11, r362_12, d362_13, r362_10, r362_14, hi, cut, iAt_lt hi, hc, h1n, hw0, hwp, loadBox]; rfl, by simp [xheadOf, safeRegs]⟩
   | succ i =>
    have hi' : i < vl.length := by omega
    have hl2 := hlt i hi
    have hl3 : ¬ (iAt vl (i + 1) ≤ iAt vl i) := by omega
    have hii : (i : Int) + 1 < vl.length := by omega
    have hw2 : IntKind.i64.wrap ((i : Int) + 1 + 1) = (i : Int) + 1 + 1 := wrap_i64 (by omega) (by omega)
    have hw3 : ¬ ((i : Int) + 1 ≤ 0) := by omega
    have hw4 : (0 : Int) < (i : Int) + 1 := by omega
    have hw5 : (0 : Int) ≤ (i : Int) + 1 := by omega
    have hw6 : ((i : Int) + 1).toNat = i + 1 := by omega
    have hwk : IntKind.i64.wrap (i : Int) = i := wrap_i64 (by omega) (by omega)
    refine ⟨_, by simp [b362_0, r362_0, r362_1, r362_2, r362_3, r362_4, r362_5, r362_6, r362_7, r362_8, r362_9, d362_11, r362_12, d362_13, r362_10, r362_14, hi, hi', cut, iAt_lt hi, iAt_lt hi', hc, h1n, hii, hw2, hw3, hw4, hw5, hw6, hwp, hwk, hl3, loadBox]; rfl, by simp [xheadOf, safeRegs]⟩)
  vl.length () 0 ⟨[(3, .ptr 0 0), (4, .d (is vl)), (5, .d (.int .i64 (P 0))), (6, .d (.int .i64 0))], [some [.d (.int .i64 f), .d (.int .i64 v), .d (.sl gt (ks.map (T.enc gt)))]]⟩ (by omega) (by simp [xheadOf, safeRegs])
 rw [run_on] at hloop
 have hP0 : P 0 = 0 := by rw [← hP]; simp [psum]
 rw [hP0] at hloop
 simp only [lin_362] at hloop
 have hz : ((vl.length == 0) == ((vl.length : Int) == 0)) = true := by
  by_cases h : vl.length = 0
  ·rw [h]; rfl
  ·have h2 : (vl.length == 0) = false := by simpa using h
   have h3 : ((vl.length : Int) == 0) = false := by simpa using (show ¬ ((vl.length : Int) = 0) by omega)
   rw [h2, h3]; rfl
 refine ⟨[], ?_⟩
 simp [v362, r362_0, r362_1, r362_2, r362_3, r362_4, r362_5, r362_6, r362_7, r362_8, r362_9, d362_11, r362_12, d362_13, r362_10, r362_14, hbig, d3, c1, c2, c3, k1, hz, splice, isCell_int, isCell_sl, isCellA_d, safe_d, loadBox]
 rw [hloop]
 simp [v362, r362_0, r362_1, r362_2, r362_3, r362_4, r362_5, r362_6, r362_7, r362_8, r362_9, d362_11, r362_12, d362_13, r362_10, r362_14, e1, hall, loadBox]
end Go.Proofs.Ytidlpcgcolcfgaa.VS
namespace Go.Proofs.Ytidlpcgcolcfgaa.VS
mutual
def TT.erase : TT → T
 | .node f v g ks => .node f v (TT.erases ks)
def TT.erases : List TT → List T
 | [] => []
 | t :: r => t.erase :: TT.erases r
end
mutual
theorem TT.clr_cells : ∀ t : TT, DV.clrs t.cells = [.int .i64 t.erase.f, .int .i64 t.erase.v, terms .sub t.erase.kids]
 | .node f v g ks => by
  simp only [TT.cells, DV.clrs, DV.clr, TT.erase, T.f_node, T.v_node, T.kids_node, terms]
  rw [TT.clr_encs ks]
theorem TT.clr_encs : ∀ l : List TT, DV.clrs (TT.encs l) = (TT.erases l).map (T.enc .sub)
 | [] => by simp [TT.encs, DV.clrs, TT.erases]
 | t :: r => by
  simp only [TT.encs, DV.clrs, DV.clr, TT.erases, List.map_cons]
  rw [TT.clr_cells t, TT.clr_encs r, T.enc_eq]
end
theorem TT.clr_enc (t : TT) : t.enc.clr = t.erase.enc .sub := by
 simp only [TT.enc, DV.clr]
 rw [TT.clr_cells, T.enc_eq]
theorem plain_of_X (hX : XOK XV) {k : Nat} {vs : List DV} (h : ∃ B, callX XV k ((DV.clrs vs).map .d) [] = some (.d (.bool true), B)) : ∃ A B, callV E [] k (vs.map .d) [] Ids.none = some ⟨.d (.bool true), A, B⟩ := by
 obtain ⟨B, h⟩ := h
 obtain ⟨u, A, Bv, h1, h2⟩ := law_of_X hX (DV.clrs_clrs vs) (DV.clrs_fits vs) (d := .bool true) (by simp [DV.clr]) h
 simp only [DV.fit] at h2; subst h2
 exact ⟨A, Bv, h1⟩
theorem args1 {P : Program} {a : TypeId} : ∀ {xs : List (List DV)}, Args P [a] xs → ∃ x, xs = [x]
 | [x], _ => ⟨x, rfl⟩
 | [], h => h.elim
 | _ :: _ :: _, h => h.2.elim
end Go.Proofs.Ytidlpcgcolcfgaa.VS
namespace Go.Proofs.Ytidlpcgcolcfgaa.VS
structure L where
 p : Bool
 a : T
 b : T
def L.enc (g : Tag) (x : L) : DV := .agg [.bool x.p, .int .i64 x.a.f, .int .i64 x.a.v, terms g x.a.kids, .int .i64 x.b.f, .int .i64 x.b.v, terms g x.b.kids]
def L.ok (x : L) : Prop := x.a.ok ∧ x.b.ok
@[simp] theorem L.cells_enc (g : Tag) (x : L) : (x.enc g).cells = [.bool x.p, .int .i64 x.a.f, .int .i64 x.a.v, terms g x.a.kids, .int .i64 x.b.f, .int .i64 x.b.v, terms g x.b.kids] := rfl
@[simp] theorem L.cellsA_enc (g : Tag) (x : L) : (AV.d (x.enc g)).cells = [.d (.bool x.p), .d (.int .i64 x.a.f), .d (.int .i64 x.a.v), .d (terms g x.a.kids), .d (.int .i64 x.b.f), .d (.int .i64 x.b.v), .d (terms g x.b.kids)] := rfl
@[simp] theorem L.isCell_enc (g : Tag) (x : L) : (x.enc g).isCell = false := rfl
@[simp] theorem L.clr_enc (g : Tag) (x : L) : (x.enc g).clr = x.enc .sub := by
 simp only [L.enc, DV.clr, DV.clrs, terms, DV.clrs_map, clr_terms]
theorem L.agg_enc (g : Tag) (x : L) : DV.agg [.bool x.p, .int .i64 x.a.f, .int .i64 x.a.v, terms g x.a.kids, .int .i64 x.b.f, .int .i64 x.b.v, terms g x.b.kids] = x.enc g := rfl
def L.cmp (x y : L) : Int := if !x.p && y.p then -1 else if x.p && !y.p then 1 else if T.cmp x.a y.a ≠ 0 then T.cmp x.a y.a else T.cmp x.b y.b
def L.same (x y : L) : Bool := x.p == y.p && (T.cmp x.a y.a == 0) && (T.cmp x.b y.b == 0)
theorem L.cmp_zero (x y : L) : (L.cmp x y == 0) = L.same x y := by
 obtain ⟨p, a, b⟩ := x
 obtain ⟨q, a', b'⟩ := y
 unfold L.cmp L.same
 cases p <;> cases q <;> by_cases c : T.cmp a a' = 0 <;> simp [c]
end Go.Proofs.Ytidlpcgcolcfgaa.VS
namespace Go.Proofs.Ytidlpcgcolcfgaa.VS
variable {P : Program}
structure LL where
 p : Bool
 a : TT
 b : TT
def LL.cells (x : LL) : List DV := .bool x.p :: (x.a.cells ++ x.b.cells)
def LL.enc (x : LL) : DV := .agg x.cells
def LL.ok (x : LL) : Prop := x.a.ok ∧ x.b.ok
def LL.erase (x : LL) : L := ⟨x.p, x.a.erase, x.b.erase⟩
theorem LL.clr_enc (x : LL) : x.enc.clr = x.erase.enc .sub := by
 have ha := TT.clr_cells x.a
 have hb := TT.clr_cells x.b
 rw [DV.clrs_map] at ha hb
 simp only [LL.enc, LL.cells, DV.clr, DV.clrs_map, List.map_cons, List.map_append, ha, hb, LL.erase, L.enc]
 rfl
theorem shape_listOf {α : Type} (c : α → List DV) (ok : α → Prop) {t e : TypeId} {x : List DV} (hu : P.underlying t = some (.slice e)) (hE : ∀ y : List DV, Shape P e y → ∃ s : α, y = c s ∧ ok s) (h : Shape P t x) :
  ∃ (g : Tag) (l : List α), x = [.sl g (l.map fun s => elemDV P e (c s))] ∧ l.length ≤ maxLen ∧ ∀ s, s ∈ l → ok s := by
 obtain ⟨g, xs, rfl, q1, q2, q3, q4⟩ := shape_slice hu h
 have key : ∀ xs : List DV, (∀ y : DV, y ∈ xs → y = elemDV P e y.cells) → (∀ y : DV, y ∈ xs → Shape P e y.cells) → ∃ l : List α, xs = (l.map fun s => elemDV P e (c s)) ∧ ∀ s, s ∈ l → ok s := by
  intro xs
  induction xs with
  | nil => intro _ _; exact ⟨[], rfl, by simp⟩
  | cons y r ih =>
   intro p1 p2
   obtain ⟨l, rfl, hl⟩ := ih (fun z hz => p1 z (by simp [hz])) (fun z hz => p2 z (by simp [hz]))
   obtain ⟨s, hs, hok⟩ := hE _ (p2 y (by simp))
   refine ⟨s :: l, ?_, by simpa [hok] using hl⟩
   have := p1 y (by simp)
   rw [hs] at this
   rw [List.map_cons, ← this]
 obtain ⟨l, rfl, hl⟩ := key xs q3 q4
 exact ⟨g, l, rfl, by simpa using q1, hl⟩
structure BB where
 v : Int
 t : TT
def BB.cells (x : BB) : List DV := .int .i64 x.v :: x.t.cells
def BB.enc (x : BB) : DV := .agg x.cells
def BB.ok (x : BB) : Prop := (-9223372036854775808 ≤ x.v ∧ x.v ≤ 9223372036854775807) ∧ x.t.ok
def BB.erase (x : BB) : Bd := ⟨x.v, x.t.erase⟩
theorem BB.clr_enc (x : BB) : x.enc.clr = x.erase.enc .sub := by
 have ha := TT.clr_cells x.t
 rw [DV.clrs_map] at ha
 simp only [BB.enc, BB.cells, DV.clr, DV.clrs_map, List.map_cons, ha, BB.erase, Bd.enc]
def bytesL (g : Tag) (l : List Int) : DV := .sl g (l.map (.int .u8))
theorem clr_bytesL (g : Tag) (l : List Int) : (bytesL g l).clr = .sl .sub (l.map (.int .u8)) := by
 simp only [bytesL, clr_sl, List.map_map, Function.comp_def, clr_int]
theorem shape_bytes {t e : TypeId} {x : List DV} (hu : P.underlying t = some (.slice e)) (he : P.underlying e = some (.int .u8)) (h : Shape P t x) : ∃ g l, x = [bytesL g l] ∧ l.length ≤ maxLen := by
 obtain ⟨g, l, rfl, h1, _⟩ := shape_listOf (fun n : Int => [DV.int .u8 n]) (fun _ => True) hu (fun y hy => by
  obtain ⟨n, rfl, _⟩ := shape_int he hy
  exact ⟨n, rfl, trivial⟩) h
 exact ⟨g, l, by simp [bytesL, elemDV, he], h1⟩
end Go.Proofs.Ytidlpcgcolcfgaa.VS
namespace Go.Proofs.Ytidlpcgcolcfgaa.VS
open Go.RowKit
variable {P : Program} {fid : Nat → FuncId}
theorem calls_X {X : XEnv} (hX : XOK X) (hE : EnvOK P fid X.env) {f : Nat} {xs : List AV} {B : Boxs} {v' : AV} {B' : Boxs} (h : callX X f xs B = some (v', B')) {vs : List AV} {Bv : Boxs} (hf : AV.fits xs vs) (hb : BoxFit B Bv)
  (ho : ∀ ℓ, locOwn (argRegs 0 xs) B (argRegs 0 vs) Bv ℓ = []) {g : Gh} {w : World} {us : Array Value} (hus : us.size = vs.length) (hrel : ∀ (j : Nat) (v : AV) (u : Value), vs[j]? = some v → us[j]? = some u → AVR fid g w v u)
  (hc : Core fid g w Bv Ids.none) (hfr : Fresh g [] 0) : Calls P (fid f) us w fun e w' => ∃ u g' vv A' Bv', e = .returned u ∧ v'.fit vv ∧ BoxFit B' Bv' ∧ Post fid (from_ [] 0) g w Ids.none ⟨vv, A', Bv'⟩ u g' w' := by
 obtain ⟨n, hn⟩ := callX_some.1 h
 obtain ⟨v, Bv', A', h1, h2, h3, _⟩ := xcallN_ok hX n f _ _ _ _ hn [] vs Bv Ids.none (fun _ => False) hf hb
  ⟨fun ℓ => by rw [ho]; simp, fun ℓ ℓ' a ha => by rw [ho] at ha; simp at ha, fun ℓ a ha => by rw [ho] at ha; simp at ha, fun a ha => by simp at ha⟩ (fun j _ => ho (.reg j)) (fun a ha => by simp [Ids.none] at ha)
 obtain ⟨_, hcc⟩ := callN_ok hE n [] f vs Bv Ids.none _ h1
 exact (hcc g w us hus hrel hc hfr).mono fun e w' ⟨u, g', he, hp⟩ => ⟨u, g', v, A', Bv', he, h2, h3, hp⟩
structure IntsAt (w : World) (base : Option Addr) (n c : Nat) (xs : List Int) : Prop where
 len : xs.length = n
 cap : n ≤ c
 lim : (n + 1) * 8 ≤ 140737488355328
 capm : c ≤ maxLen
 nil : base = none → n = 0 ∧ c = 0
 cell : ∀ ad, base = some ad → 0 < n → ad.spot = none ∧ ∀ (j : Nat) (x : Int), xs[j]? = some x → w.cell? ⟨ad.block, ad.off + j, none⟩ = some (.int .i64 x)
theorem cell_lt {w : World} {b o : Nat} {v : Value} (h : w.cell? ⟨b, o, none⟩ = some v) : b < w.heap.size := by
 unfold World.cell? at h
 split at h
 ·rename_i h1; exact (Array.getElem?_eq_some_iff.1 h1).1
 ·simp at h
theorem IntsAt.lt {w : World} {base : Option Addr} {n c : Nat} {xs : List Int} (h : IntsAt w base n c xs) {ad : Addr} (hb : base = some ad) (hn : 0 < n) : ad.block < w.heap.size := by
 have h0 : xs[0]? = some xs[0]! := by have := h.len; cases xs with | nil => simp at this; omega | cons a r => simp
 exact cell_lt ((h.cell ad hb hn).2 0 _ h0)
def intsG (base : Option Addr) (n : Nat) (bx : Nat → Option Nat) : Gh :=
 {K := fun b => match base with | some ad => if b = ad.block ∧ 0 < n then ad.off + n else 0 | none => 0, row := fun _ => none, bx := bx }
def tagOf (base : Option Addr) : Tag := match base with | some _ => .sub | none => .nil
theorem ints_vr {w : World} {base : Option Addr} {n c : Nat} {xs : List Int} (h : IntsAt w base n c xs) (bx : Nat → Option Nat) : VR (intsG base n bx) w (.sl (tagOf base) (xs.map (.int .i64))) (.slice base n c) := by
 cases base with
 | none =>
  obtain ⟨rfl, rfl⟩ := h.nil rfl
  have : xs = [] := List.length_eq_zero_iff.1 h.len
  subst this
  exact .nil
 | some ad =>
  have key : VR (intsG (some ad) n bx) w (.sl .sub (xs.map (.int .i64))) (.slice (some ad) (xs.map (DV.int .i64)).length c) := by
   refine .row _ _ ad c 1 (fun k => .int .i64 (xs.getD k 0)) (by simp) (by simpa [h.len] using h.cap) h.capm (fun k hk => ?_) ?_ (fun i x hx => ?_) (fun i x j v hi hj => ?_) (fun a sz ht => by simp at ht)
   ·have hk' : k < xs.length := by simpa using hk
    obtain ⟨h1, h2⟩ := h.cell ad rfl (by have := h.len; omega)
    have : ad.add k = ⟨ad.block, ad.off + k, none⟩ := by
     obtain ⟨bk, o, sp⟩ := ad
     simp only at h1
     subst h1
     unfold Addr.add; split <;> simp_all
    rw [this, h2 k xs[k] (by simp [hk'])]
    simp [List.getD, hk']
   ·by_cases hn : 0 < n
    ·right
     simp only [intsG]
     rw [if_pos ⟨trivial, hn⟩]
     simp [h.len]
    ·left; have := h.len; simp; cases xs with | nil => rfl | cons _ _ => simp at this; omega
   ·simp only [List.getElem?_map, Option.map_eq_some_iff] at hx
    obtain ⟨y, _, rfl⟩ := hx
    exact ⟨rfl, fun v hv => by simp [DV.cells] at hv; subst hv; rfl⟩
   ·simp only [List.getElem?_map, Option.map_eq_some_iff] at hi
    obtain ⟨y, hy, rfl⟩ := hi
    cases j with
    | succ j => simp [DV.cells] at hj
    | zero =>
     simp [DV.cells] at hj; subst hj
     simp only [Nat.mul_one, Nat.add_zero, List.getD, hy, Option.getD_some]
     exact .int _ _
  rw [List.length_map, h.len] at key
  exact key
theorem intsG_K0 {w : World} {base : Option Addr} {n c : Nat} {xs : List Int} (h : IntsAt w base n c xs) (bx : Nat → Option Nat) (b : Nat) (hb : w.heap.size ≤ b) : (intsG base n bx).K b = 0 := by
 cases base with
 | none => rfl
 | some ad =>
  simp only [intsG]
  rw [if_neg]
  rintro ⟨rfl, hn⟩
  have := h.lt rfl hn
  omega
theorem is_fit (t : Tag) (xs : List Int) : (AV.d (is xs)).fit (.d (.sl t (xs.map (.int .i64)))) := by
 simp only [AV.fit, is, DV.fit]
 refine ⟨_, rfl, _, _, rfl, ?_, .inl rfl⟩
 rw [DV.fits_iff]
 refine ⟨rfl, fun i x y hx hy => ?_⟩
 rw [hx] at hy
 simp only [Option.some.injEq] at hy
 subst hy
 simp only [List.getElem?_map, Option.map_eq_some_iff] at hx
 obtain ⟨z, _, rfl⟩ := hx
 simp only [DV.fit]
theorem is_own (t : Tag) (xs : List Int) : (AV.d (is xs)).own (.d (.sl t (xs.map (.int .i64)))) = [] := by
 have hs : (.sub : Tag) ≠ U := by decide
 simp only [AV.own, is, DV.own, hs, false_and, if_false, List.nil_append]
 have : ∀ (l : List Int) (m : List DV), DV.owns (l.map (.int .i64)) m = [] := by
  intro l
  induction l with
  | nil => intro m; simp [DV.owns]
  | cons a r ih => intro m; cases m <;> simp [DV.owns, DV.own, ih]
 exact this xs _
theorem numIn_calls {X : XEnv} (hX : XOK X) (hE : EnvOK P fid X.env) {k : Nat} (hq : ∀ (l : List Int) (n : Int), l.length ≤ 140737488355328 → callX X k [.d (is l), .d (.int .i64 n)] [] = some (.d (.bool (l.contains n)), []))
  {w : World} {base : Option Addr} {n c : Nat} {xs : List Int} (h : IntsAt w base n c xs) (m : Int) :
  Calls P (fid k) #[.slice base n c, .int .i64 m] w fun e w' => e = .returned (.bool (xs.contains m)) ∧ Below w.heap.size w w' := by
 have hlim := h.lim
 have hown : ∀ ℓ, locOwn (argRegs 0 [.d (is xs), .d (.int .i64 m)]) [] (argRegs 0 [.d (.sl (tagOf base) (xs.map (.int .i64))), .d (.int .i64 m)]) [] ℓ = [] := by
  intro ℓ
  cases ℓ with
  | box j => simp [locOwn, bown, bget]
  | reg t =>
   simp only [locOwn, rown, argRegs, lk]
   by_cases h0 : t = 0
   ·subst h0; simp only [if_true]; exact is_own _ _
   ·by_cases h1 : t = 0 + 1
    ·subst h1; simp [AV.own, DV.own]
    ·simp [h0]
     split <;> simp_all
 refine (calls_X (P := P) (fid := fid) hX hE (hq xs m (by rw [h.len]; omega)) (vs := [.d (.sl (tagOf base) (xs.map (.int .i64))), .d (.int .i64 m)]) (Bv := []) ?_ ⟨rfl, by simp⟩ hown (g := intsG base n (fun _ => none)) (w := w) rfl ?_ ?_ (fun q j _ => rfl)).mono ?_
 ·simp only [AV.fits]
  exact ⟨_, _, rfl, is_fit _ _, _, _, rfl, by simp only [AV.fit, DV.fit]; exact ⟨_, rfl, rfl⟩, rfl⟩
 ·intro j v u hj hu
  match j with
  | 0 => simp at hj hu; subst hj; subst hu; exact .d _ _ (ints_vr h _)
  | 1 => simp at hj hu; subst hj; subst hu; exact .d _ _ (.int _ _)
  | j + 2 => simp at hj
 ·exact ⟨fun i b hb => by simp [intsG] at hb, fun i j b hb => by simp [intsG] at hb, fun a ha => by simp [Ids.none] at ha, fun a a' b x x' ha => by simp [Ids.none] at ha, intsG_K0 h _⟩
 ·rintro e w' ⟨u, g', vv, A', Bv', rfl, hfit, _, hp⟩
  simp only [AV.fit, DV.fit] at hfit
  obtain ⟨y, rfl, rfl⟩ := hfit
  have hu := avr_bool hp.val
  subst hu
  exact ⟨rfl, hp.step.os, hp.step.tape, hp.step.output, hp.step.size, fun b hb => (hp.step.keep b hb (fun i h => by simp [intsG] at h) (fun a h => by simp [Ids.none] at h)).1⟩
theorem firstGt_calls {X : XEnv} (hX : XOK X) (hE : EnvOK P fid X.env) {k kc : Nat} (hq : ∀ (l : List Int) (n : Int), l.length ≤ 140737488355328 → callX X k [.d (is l), .fn kc [.ptr 0 0]] [some [.d (.int .i64 n)]] = some (.d (.int .i64 (orNeg (findAt (fun i => decide (iAt l i > n)) l.length 0))), [some [.d (.int .i64 n)]]))
  {w : World} {base : Option Addr} {n c : Nat} {xs : List Int} (h : IntsAt w base n c xs) (m : Int) (pb : Nat) (ty : TypeId) (hpb : w.heap[pb]? = some (.cells #[.int .i64 m] ty (0, 0))) (hne : ∀ ad, base = some ad → 0 < n → ad.block ≠ pb) :
  Calls P (fid k) #[.slice base n c, .func (.func (fid kc)) #[] #[.pointer (some ⟨pb, 0, none⟩)]] w fun e w' => e = .returned (.int .i64 (orNeg (findAt (fun i => decide (iAt xs i > m)) xs.length 0))) ∧
   w'.os = w.os ∧ w'.tape = w.tape ∧ w'.output = w.output ∧ w.heap.size ≤ w'.heap.size ∧ (∀ b, b < w.heap.size → b ≠ pb → w'.heap[b]? = w.heap[b]?) ∧ w'.cell? ⟨pb, 0, none⟩ = some (.int .i64 m) := by
 have hlim := h.lim
 have hpl : pb < w.heap.size := (Array.getElem?_eq_some_iff.1 hpb).1
 have hown : ∀ ℓ, locOwn (argRegs 0 [.d (is xs), .fn kc [.ptr 0 0]]) [some [.d (.int .i64 m)]] (argRegs 0 [.d (.sl (tagOf base) (xs.map (.int .i64))), .fn kc [.ptr 0 0]]) [some [.d (.int .i64 m)]] ℓ = [] := by
  intro ℓ
  cases ℓ with
  | box j =>
   cases j with
   | zero => simp [locOwn, bown, bget, AV.owns, AV.own, DV.own]
   | succ j => simp [locOwn, bown, bget]
  | reg t =>
   simp only [locOwn, rown, argRegs, lk]
   by_cases h0 : t = 0
   ·subst h0; simp only [if_true]; exact is_own _ _
   ·by_cases h1 : t = 0 + 1
    ·subst h1; simp [AV.own]
    ·simp [h0]
     split <;> simp_all
 have hbx : ∀ i b, (intsG base n (fun i => if i = 0 then some pb else none)).bx i = some b → i = 0 ∧ b = pb := by
  intro i b hb
  simp only [intsG] at hb
  split at hb
  ·rename_i hi; simp at hb; exact ⟨hi, hb.symm⟩
  ·simp at hb
 refine (calls_X (P := P) (fid := fid) hX hE (hq xs m (by rw [h.len]; omega)) (vs := [.d (.sl (tagOf base) (xs.map (.int .i64))), .fn kc [.ptr 0 0]]) (Bv := [some [.d (.int .i64 m)]]) ?_ ?_ hown (g := intsG base n (fun i => if i = 0 then some pb else none)) (w := w) rfl ?_ ?_ (fun q j _ => rfl)).mono ?_
 ·simp only [AV.fits]
  refine ⟨_, _, rfl, is_fit _ _, _, _, rfl, ?_, rfl⟩
  simp only [AV.fit, AV.fits]
  exact ⟨_, rfl, ⟨_, _, rfl, rfl, rfl⟩, by simp [AV.owns, AV.own]⟩
 ·refine ⟨rfl, fun i => ?_⟩
  cases i with
  | zero => exact ⟨by simp, fun cs hcs => by simp at hcs; subst hcs; exact ⟨_, rfl, AV.fits_one (by simp only [AV.fit, DV.fit]; exact ⟨_, rfl, rfl⟩)⟩⟩
  | succ i => simp
 ·intro j v u hj hu
  match j with
  | 0 => simp at hj hu; subst hj; subst hu; exact .d _ _ (ints_vr h _)
  | 1 =>
   simp at hj hu; subst hj; subst hu
   exact .fn kc _ _ rfl fun j v u h1 h2 => by
    cases j with
    | zero => simp at h1 h2; subst h1; subst h2; exact .ptr 0 0 pb rfl
    | succ j => simp at h1
  | j + 2 => simp at hj
 ·refine ⟨fun i b hb => ?_, fun i j b hb hb' => by rw [(hbx i b hb).1, (hbx j b hb').1], fun a ha => by simp [Ids.none] at ha, fun a a' b x x' ha => by simp [Ids.none] at ha, intsG_K0 h _⟩
  obtain ⟨rfl, rfl⟩ := hbx i b hb
  refine ⟨[.d (.int .i64 m)], _, ty, rfl, hpb, by simp, fun j v u h1 h2 => ?_, fun v hv => by simp at hv; subst hv; exact ⟨rfl, safe_d _ _⟩, ?_⟩
  ·cases j with
   | zero => simp at h1 h2; subst h1; subst h2; exact .d _ _ (.int _ _)
   | succ j => simp at h1
  ·cases base with
   | none => rfl
   | some ad => simp only [intsG]; rw [if_neg]; rintro ⟨he, hn⟩; exact hne ad rfl hn he.symm
 ·rintro e w' ⟨u, g', vv, A', Bv', rfl, hfit, hbf, hp⟩
  simp only [AV.fit, DV.fit] at hfit
  obtain ⟨y, rfl, rfl⟩ := hfit
  have hu := avr_int hp.val
  subst hu
  refine ⟨rfl, hp.step.os, hp.step.tape, hp.step.output, hp.step.size, fun b hb hbp => (hp.step.keep b hb (fun i h => hbp (hbx i b h).2) (fun a h => by simp [Ids.none] at h)).1, ?_⟩
  have hb0 := hp.boxes.old 0 pb rfl
  obtain ⟨cs, arr, e', c1, c2, c3, c4, _⟩ := hp.core.box 0 pb hb0
  obtain ⟨ds, d1, d2⟩ := (hbf.2 0).2 _ rfl
  rw [c1] at d1
  simp at d1; subst d1
  simp only [AV.fits, AV.fit, DV.fit] at d2
  obtain ⟨_, _, rfl, ⟨_, rfl, rfl⟩, rfl⟩ := d2
  have hsz : 0 < arr.size := by simp at c3; omega
  have := avr_int (c4 0 _ arr[0] rfl (by simp [hsz]))
  simp [World.cell?, c2, hsz, this]
theorem setCells_heap (b : Nat) : ∀ (vs : List Value) (o : Nat) (w : World) (arr : Array Value) (t : TypeId), w.heap[b]? = some (.cells arr t (0, 0)) → ∃ arr', (w.setCells b o vs).heap[b]? = some (.cells arr' t (0, 0)) ∧ arr'.size = arr.size
 | [], o, w, arr, t, h => ⟨arr, h, rfl⟩
 | v :: r, o, w, arr, t, h => by
  obtain ⟨arr', h1, h2⟩ := setCells_heap b r (o + 1) (w.setCell ⟨b, o, none⟩ v) _ t (heap_setCell_same w b o arr t v h)
  exact ⟨arr', h1, by rw [h2]; simp⟩
theorem setCells_other (b : Nat) : ∀ (vs : List Value) (o : Nat) (w : World) (k : Nat), k ≠ b → (w.setCells b o vs).heap[k]? = w.heap[k]?
 | [], o, w, k, h => rfl
 | v :: r, o, w, k, h => by
  rw [World.setCells, setCells_other b r (o + 1) _ k h]
  exact heap_setCell_other w _ k v h
theorem setCells_rest (b : Nat) : ∀ (vs : List Value) (o : Nat) (w : World), (w.setCells b o vs).os = w.os ∧ (w.setCells b o vs).tape = w.tape ∧ (w.setCells b o vs).output = w.output ∧ (w.setCells b o vs).heap.size = w.heap.size
 | [], o, w => ⟨rfl, rfl, rfl, rfl⟩
 | v :: r, o, w => by
  obtain ⟨h1, h2, h3, h4⟩ := setCells_rest b r (o + 1) (w.setCell ⟨b, o, none⟩ v)
  exact ⟨h1, h2, h3, by rw [World.setCells, h4]; simp [World.setCell]⟩
structure InsertSays (P : Program) (f : FuncId) (T : TypeId) : Prop where
 shift : ∀ (b off n c i vb voff m vc : Nat) (cs vs : List Value) (w : World), i < n → 0 < m → n + m ≤ c → c ≤ 9223372036854775807 → vb ≠ b → cs.length = n → vs.length = m →
  (∀ (j : Nat) (v : Value), cs[j]? = some v → w.cell? ⟨b, off + j, none⟩ = some v) → (∀ j, j < n + m → (w.cell? ⟨b, off + j, none⟩).isSome = true) → (∀ j, j < n + m → w.frozen? ⟨b, off + j, none⟩ = false) →
  (∀ (j : Nat) (v : Value), vs[j]? = some v → w.cell? ⟨vb, voff + j, none⟩ = some v) → (∀ v ∈ cs, v.oneCell' = true) → (∀ v ∈ vs, v.oneCell' = true) → ∀ (tA tB : TypeId) (kA kB : Nat), w.shape? vb = some (tA, kA) → w.shape? b = some (tB, kB) → kB ≠ 0 →
  w.frozen? ⟨vb, voff, none⟩ = false → w.frozen? ⟨vb, kA, none⟩ = false → Calls P f #[.slice (some ⟨b, off, none⟩) n c, .int .i64 i, .slice (some ⟨vb, voff, none⟩) m vc] w fun e w' =>
   e = .returned (.slice (some ⟨b, off, none⟩) (n + m) c) ∧ w' = (w.drew.setCells b (off + (i + m)) (cs.drop i)).setCells b (off + i) vs
 room : ∀ (b off n c vb voff m vc : Nat) (vs : List Value) (w : World), 0 < m → n + m ≤ c → c ≤ 9223372036854775807 → vs.length = m → (∀ j, j < m → (w.cell? ⟨b, off + n + j, none⟩).isSome = true) → (∀ j, j < m → w.frozen? ⟨b, off + n + j, none⟩ = false) →
  (∀ (j : Nat) (v : Value), vs[j]? = some v → w.cell? ⟨vb, voff + j, none⟩ = some v) → (∀ v ∈ vs, v.oneCell' = true) → Calls P f #[.slice (some ⟨b, off, none⟩) n c, .int .i64 n, .slice (some ⟨vb, voff, none⟩) m vc] w fun e w' =>
   e = .returned (.slice (some ⟨b, off, none⟩) (n + m) c) ∧ w' = w.setCells b (off + n) vs
 endGrow : ∀ (base : Option Addr) (n c vb voff m vc : Nat) (cs vs : List Value) (w : World), 0 < m → n ≤ c → c < n + m → (n + m) * 8 ≤ 140737488355328 → cs.length = n → vs.length = m → (base = none → n = 0) →
  (∀ a, base = some a → ∀ (j : Nat) (v : Value), cs[j]? = some v → w.cell? (a.add j) = some v) → (∀ (j : Nat) (v : Value), vs[j]? = some v → w.cell? ⟨vb, voff + j, none⟩ = some v) → (∀ v ∈ vs, v.oneCell' = true) →
  Calls P f #[.slice base n c, .int .i64 n, .slice (some ⟨vb, voff, none⟩) m vc] w fun e w' => e = .returned (.slice (some ⟨w.heap.size, 0, none⟩) (n + m) (grownCap w (n + m) c T)) ∧
   w' = w.drew.alloc (.cells ((cs ++ vs).toArray ++ Builtin.zeroCells (Value.int .i64 0).cells (grownCap w (n + m) c T - (n + m))) T)
 grow : ∀ (b off n c i vb voff m vc : Nat) (cs vs : List Value) (w : World), i < n → 0 < m → n ≤ c → c < n + m → (n + m) * 8 ≤ 140737488355328 → cs.length = n → vs.length = m → (∀ (j : Nat) (v : Value), cs[j]? = some v → w.cell? ⟨b, off + j, none⟩ = some v) →
  (∀ (j : Nat) (v : Value), vs[j]? = some v → w.cell? ⟨vb, voff + j, none⟩ = some v) → (∀ v ∈ cs, v.oneCell' = true) → (∀ v ∈ vs, v.oneCell' = true) → Calls P f #[.slice (some ⟨b, off, none⟩) n c, .int .i64 i, .slice (some ⟨vb, voff, none⟩) m vc] w fun e w' =>
   e = .returned (.slice (some ⟨w.heap.size, 0, none⟩) (n + m) (grownCap w (n + m) c T)) ∧
   w' = (((w.alloc (.cells ((cs.take i).toArray ++ Builtin.zeroCells (Value.int .i64 0).cells (n + m - i) ++ Builtin.zeroCells (Value.int .i64 0).cells (grownCap w (n + m) c T - (n + m))) T)).drew.setCells w.heap.size i vs).drew).setCells w.heap.size (i + m) (cs.drop i)
theorem cell_arr {w : World} {b : Nat} {arr : Array Value} {t : TypeId} {z : Nat × Nat} (h : w.heap[b]? = some (.cells arr t z)) (k : Nat) : w.cell? ⟨b, k, none⟩ = arr[k]? := by simp [World.cell?, h]
theorem alloc_new (w : World) (o : Obj) : (w.alloc o).heap[w.heap.size]? = some o := by show (w.heap.push o)[w.heap.size]? = some o; simp
theorem alloc_size (w : World) (o : Obj) : (w.alloc o).heap.size = w.heap.size + 1 := by show (w.heap.push o).size = _; simp
theorem zc_size (n : Nat) : (Builtin.zeroCells (Value.int .i64 0).cells n).size = n := by rw [size_zeroCells]; simp [Value.cells]
theorem oneCell_ints (l : List Int) : ∀ v ∈ l.map (Value.int .i64), v.oneCell' = true := by
 intro v hv
 obtain ⟨x, _, rfl⟩ := List.mem_map.1 hv
 rfl
structure Inserted (w w' : World) (e : Ending) (xs : List Int) (g : Option Nat) : Prop where
 ret : ∃ blk cap arr ty, e = .returned (.slice (some ⟨blk, 0, none⟩) xs.length cap) ∧ (g = some blk ∨ w.heap.size ≤ blk) ∧ w'.heap[blk]? = some (.cells arr ty (0, 0)) ∧ cap ≤ arr.size ∧ xs.length ≤ cap ∧ cap ≤ maxLen ∧
  ∀ (j : Nat) (x : Int), xs[j]? = some x → arr[j]? = some (.int .i64 x)
 os : w'.os = w.os
 tape : w'.tape = w.tape
 output : w'.output = w.output
 size : w.heap.size ≤ w'.heap.size
 block : ∀ b, b < w.heap.size → g ≠ some b → w'.heap[b]? = w.heap[b]?
theorem insert_nil {f : FuncId} {T : TypeId} (hi : InsertSays P f T) (w : World) (vb : Nat) (v : Int) (hv : w.cell? ⟨vb, 0, none⟩ = some (.int .i64 v)) (base : Option Addr) :
  Calls P f #[.slice base 0 0, .int .i64 (0 : Nat), .slice (some ⟨vb, 0, none⟩) 1 1] w fun e w' => Inserted w w' e [v] none := by
 refine (hi.endGrow base 0 0 vb 0 1 1 [] [.int .i64 v] w (by omega) (by omega) (by omega) (by omega) rfl rfl (fun _ => rfl) (fun a _ j x hx => by simp at hx) (fun j x hx => by
  cases j with
  | zero => simp at hx; subst hx; exact hv
  | succ j => simp at hx) (fun x hx => by simp at hx; subst hx; rfl)).mono ?_
 rintro e w' ⟨rfl, rfl⟩
 have hg := grownCap_ge w (0 + 1) 0 T
 refine ⟨⟨w.heap.size, _, _, T, rfl, .inr (Nat.le_refl _), alloc_new w.drew _, ?_, hg, grownCap_le_maxLen w _ _ _ (by unfold maxLen; omega), fun j x hx => ?_⟩, rfl, rfl, rfl, by rw [alloc_size]; exact Nat.le_succ _, fun b hb _ => Below.heap_alloc w.drew _ b hb⟩
 ·rw [Array.size_append, zc_size]; simp; omega
 ·cases j with
  | zero => simp at hx; subst hx; rw [Array.getElem?_append_left (by simp)]; rfl
  | succ j => simp at hx
theorem insert_own {f : FuncId} {T : TypeId} (hi : InsertSays P f T) (w : World) (g cap : Nat) (arr : Array Value) (ty : TypeId) (xs : List Int) (i : Nat) (vb : Nat) (ty2 : TypeId) (v : Int) (hg : w.heap[g]? = some (.cells arr ty (0, 0))) (hcap : cap ≤ arr.size) (hn : xs.length ≤ cap) (hm : cap ≤ maxLen)
  (hxs : ∀ (j : Nat) (x : Int), xs[j]? = some x → arr[j]? = some (.int .i64 x)) (hlim : (xs.length + 1) * 8 ≤ 140737488355328) (hv : w.heap[vb]? = some (.cells #[.int .i64 v] ty2 (0, 0))) (hne : vb ≠ g) (hile : i ≤ xs.length) :
  Calls P f #[.slice (some ⟨g, 0, none⟩) xs.length cap, .int .i64 (i : Nat), .slice (some ⟨vb, 0, none⟩) 1 1] w fun e w' => Inserted w w' e (xs.take i ++ v :: xs.drop i) (some g) := by
 have hgl : g < w.heap.size := (Array.getElem?_eq_some_iff.1 hg).1
 have hcell : ∀ k, w.cell? ⟨g, k, none⟩ = arr[k]? := cell_arr hg
 have hvc : w.cell? ⟨vb, 0, none⟩ = some (.int .i64 v) := by rw [cell_arr hv]; rfl
 have hvs : ∀ (j : Nat) (x : Value), [Value.int .i64 v][j]? = some x → w.cell? ⟨vb, 0 + j, none⟩ = some x := fun j x hx => by
  cases j with
  | zero => simp at hx; subst hx; exact hvc
  | succ j => simp at hx
 have h1v : ∀ x ∈ [Value.int .i64 v], x.oneCell' = true := fun x hx => by simp at hx; subst hx; rfl
 have hcs : ∀ (j : Nat) (x : Value), (xs.map (Value.int .i64))[j]? = some x → w.cell? ⟨g, 0 + j, none⟩ = some x := fun j x hx => by
  simp only [List.getElem?_map, Option.map_eq_some_iff] at hx
  obtain ⟨y, hy, rfl⟩ := hx
  rw [Nat.zero_add, hcell]; exact hxs j y hy
 have hfz : ∀ k, w.frozen? ⟨g, k, none⟩ = false := fun k => by simp [World.frozen?, hg]
 have hsome : ∀ k, k < arr.size → (w.cell? ⟨g, k, none⟩).isSome = true := fun k hk => by rw [hcell]; simp [hk]
 have hmx : maxLen = 9223372036854775807 := rfl
 have hlen : (xs.take i ++ v :: xs.drop i).length = xs.length + 1 := by simp; omega
 have hget : ∀ j, (xs.take i ++ v :: xs.drop i)[j]? = if j < i then xs[j]? else if j = i then some v else xs[j - 1]? := by
  intro j
  by_cases h1 : j < i
  ·rw [if_pos h1, List.getElem?_append_left (by simp; omega), List.getElem?_take, if_pos h1]
  ·rw [if_neg h1, List.getElem?_append_right (by simp; omega)]
   have : (xs.take i).length = i := by simp; omega
   rw [this]
   by_cases h2 : j = i
   ·subst h2; simp
   ·rw [if_neg h2, show j - i = (j - i - 1) + 1 by omega, List.getElem?_cons_succ, List.getElem?_drop]
    congr 1; omega
 by_cases hroom : xs.length + 1 ≤ cap
 ·by_cases hend : i = xs.length
  ·subst hend
   refine (hi.room g 0 xs.length cap vb 0 1 1 [.int .i64 v] w (by omega) hroom (by omega) rfl (fun j hj => hsome _ (by omega)) (fun j _ => hfz _) hvs h1v).mono ?_
   rintro e w' ⟨rfl, rfl⟩
   obtain ⟨arr', a1, a2⟩ := setCells_heap g [.int .i64 v] (0 + xs.length) w arr ty hg
   obtain ⟨r1, r2, r3, r4⟩ := setCells_rest g [.int .i64 v] (0 + xs.length) w
   refine ⟨⟨g, cap, arr', ty, by rw [hlen], .inl rfl, a1, by omega, by rw [hlen]; exact hroom, hm, fun j x hx => ?_⟩, r1, r2, r3, by omega, fun b hb hb' => setCells_other g _ _ w b (fun h => hb' (by rw [h]))⟩
   rw [hget] at hx
   rw [← cell_arr a1]
   by_cases h1 : j < xs.length
   ·rw [if_pos h1] at hx
    rw [World.cell?_setCells_out g _ _ w _ (fun _ _ => .inl (by simpa using h1)), hcell]
    exact hxs j x hx
   ·rw [if_neg h1] at hx
    by_cases h2 : j = xs.length
    ·rw [if_pos h2] at hx; simp at hx; subst hx; subst h2
     have := World.cell?_setCells_in g [.int .i64 v] (0 + xs.length) w (fun j hj => hsome _ (by simp at hj; omega)) 0 (by simp)
     simpa using this
    ·rw [if_neg h2] at hx
     have := (List.getElem?_eq_some_iff.1 hx).1; omega
  ·have hlt : i < xs.length := by omega
   refine (hi.shift g 0 xs.length cap i vb 0 1 1 (xs.map (.int .i64)) [.int .i64 v] w hlt (by omega) hroom (by omega) hne (by simp) rfl hcs (fun j hj => by rw [Nat.zero_add]; exact hsome _ (by omega)) (fun j _ => hfz _) hvs (oneCell_ints xs) h1v ty2 ty 1 arr.size
    (by simp [World.shape?, hv]) (by simp [World.shape?, hg]) (by omega) (by simp [World.frozen?, hv]) (by simp [World.frozen?, hv])).mono ?_
   rintro e w' ⟨rfl, rfl⟩
   obtain ⟨arr1, a1, a2⟩ := setCells_heap g ((xs.map (Value.int .i64)).drop i) (0 + (i + 1)) w.drew arr ty hg
   obtain ⟨arr', b1, b2⟩ := setCells_heap g [.int .i64 v] (0 + i) _ arr1 ty a1
   obtain ⟨r1, r2, r3, r4⟩ := setCells_rest g ((xs.map (Value.int .i64)).drop i) (0 + (i + 1)) w.drew
   obtain ⟨s1, s2, s3, s4⟩ := setCells_rest g [.int .i64 v] (0 + i) (w.drew.setCells g (0 + (i + 1)) ((xs.map (Value.int .i64)).drop i))
   refine ⟨⟨g, cap, arr', ty, by rw [hlen], .inl rfl, b1, by omega, by rw [hlen]; exact hroom, hm, fun j x hx => ?_⟩, s1.trans r1, s2.trans r2, s3.trans r3, by rw [s4, r4]; exact Nat.le_refl _, fun b hb hb' => by
    rw [setCells_other g _ _ _ b (fun h => hb' (by rw [h])), setCells_other g _ _ _ b (fun h => hb' (by rw [h]))]; rfl⟩
   rw [hget] at hx
   rw [← cell_arr b1]
   have hsm : ∀ (j : Nat), j < ((xs.map (Value.int .i64)).drop i).length → (w.drew.cell? ⟨g, 0 + (i + 1) + j, none⟩).isSome = true := fun j hj => by
    simp at hj
    exact hsome _ (by omega)
   by_cases h1 : j < i
   ·rw [if_pos h1] at hx
    rw [World.cell?_setCells_out g _ _ _ _ (fun _ _ => .inl (by simpa using h1)), World.cell?_setCells_out g _ _ _ _ (fun _ _ => .inl (by show j < 0 + (i + 1); omega))]
    exact (hcell j).trans (hxs j x hx)
   ·rw [if_neg h1] at hx
    by_cases h2 : j = i
    ·rw [if_pos h2] at hx; simp at hx; subst hx; subst h2
     have := World.cell?_setCells_in g [.int .i64 v] (0 + j) (w.drew.setCells g (0 + (j + 1)) ((xs.map (Value.int .i64)).drop j)) (fun k hk => by rw [cell_arr a1]; simp at hk; simp; omega) 0 (by simp)
     simpa using this
    ·rw [if_neg h2] at hx
     have hjl := (List.getElem?_eq_some_iff.1 hx).1
     rw [World.cell?_setCells_out g _ _ _ _ (fun _ _ => .inr (by show 0 + i + 1 ≤ j; omega))]
     have := World.cell?_setCells_in g ((xs.map (Value.int .i64)).drop i) (0 + (i + 1)) w.drew hsm (j - (i + 1)) (by simp; omega)
     rw [show 0 + (i + 1) + (j - (i + 1)) = j by omega] at this
     rw [this]
     have hx2 : xs[j - 1] = x := (List.getElem?_eq_some_iff.1 hx).2
     simp only [List.getElem_drop, List.getElem_map]
     rw [← hx2]
     congr 3; omega
 ·by_cases hend : i = xs.length
  ·subst hend
   refine (hi.endGrow (some ⟨g, 0, none⟩) xs.length cap vb 0 1 1 (xs.map (.int .i64)) [.int .i64 v] w (by omega) hn (by omega) hlim (by simp) rfl (fun h => by simp at h) (fun a ha j x hx => by
    simp only [Option.some.injEq] at ha; subst ha
    have : (⟨g, 0, none⟩ : Addr).add j = ⟨g, 0 + j, none⟩ := by unfold Addr.add; split <;> simp_all
    rw [this]; exact hcs j x hx) hvs h1v).mono ?_
   rintro e w' ⟨rfl, rfl⟩
   have hgc := grownCap_ge w (xs.length + 1) cap T
   refine ⟨⟨w.heap.size, _, _, T, by rw [hlen], .inr (Nat.le_refl _), alloc_new w.drew _, ?_, by rw [hlen]; exact hgc, grownCap_le_maxLen w _ _ _ (by omega), fun j x hx => ?_⟩, rfl, rfl, rfl, by rw [alloc_size]; exact Nat.le_succ _, fun b hb _ => Below.heap_alloc w.drew _ b hb⟩
   ·rw [Array.size_append, zc_size]; simp; omega
   ·have hj := (List.getElem?_eq_some_iff.1 hx).1
    rw [hlen] at hj
    rw [List.take_length, List.drop_length] at hx
    rw [Array.getElem?_append_left (by simp; omega)]
    have : (xs.map (Value.int .i64) ++ [Value.int .i64 v]) = (xs ++ [v]).map (Value.int .i64) := by simp
    rw [this, List.getElem?_toArray, List.getElem?_map, hx]; rfl
  ·have hlt : i < xs.length := by omega
   refine (hi.grow g 0 xs.length cap i vb 0 1 1 (xs.map (.int .i64)) [.int .i64 v] w hlt (by omega) hn (by omega) hlim (by simp) rfl hcs hvs (oneCell_ints xs) h1v).mono ?_
   rintro e w' ⟨rfl, rfl⟩
   have hgc := grownCap_ge w (xs.length + 1) cap T
   generalize hA : (((xs.map (Value.int .i64)).take i).toArray ++ Builtin.zeroCells (Value.int .i64 0).cells (xs.length + 1 - i) ++ Builtin.zeroCells (Value.int .i64 0).cells (grownCap w (xs.length + 1) cap T - (xs.length + 1))) = A0
   have hA0 : A0.size = grownCap w (xs.length + 1) cap T := by
    rw [← hA, Array.size_append, Array.size_append, zc_size, zc_size]; simp; omega
   obtain ⟨arr1, a1, a2⟩ := setCells_heap w.heap.size [.int .i64 v] i (w.alloc (.cells A0 T)).drew A0 T (alloc_new w _)
   obtain ⟨arr', b1, b2⟩ := setCells_heap w.heap.size ((xs.map (Value.int .i64)).drop i) (i + 1) (((w.alloc (.cells A0 T)).drew.setCells w.heap.size i [.int .i64 v]).drew) arr1 T a1
   obtain ⟨r1, r2, r3, r4⟩ := setCells_rest w.heap.size [.int .i64 v] i (w.alloc (.cells A0 T)).drew
   obtain ⟨s1, s2, s3, s4⟩ := setCells_rest w.heap.size ((xs.map (Value.int .i64)).drop i) (i + 1) (((w.alloc (.cells A0 T)).drew.setCells w.heap.size i [.int .i64 v]).drew)
   refine ⟨⟨w.heap.size, _, arr', T, by rw [hlen], .inr (Nat.le_refl _), b1, by omega, by rw [hlen]; exact hgc, grownCap_le_maxLen w _ _ _ (by omega), fun j x hx => ?_⟩, s1.trans r1, s2.trans r2, s3.trans r3, by
    rw [s4]
    show w.heap.size ≤ ((w.alloc (.cells A0 T)).drew.setCells w.heap.size i [.int .i64 v]).heap.size
    rw [r4]
    show w.heap.size ≤ (w.alloc (.cells A0 T)).heap.size
    rw [alloc_size]; exact Nat.le_succ _, fun b hb _ => by
    rw [setCells_other _ _ _ _ b (by omega)]
    show ((w.alloc (.cells A0 T)).drew.setCells w.heap.size i [.int .i64 v]).heap[b]? = _
    rw [setCells_other _ _ _ _ b (by omega)]
    exact Below.heap_alloc w _ b hb⟩
   rw [hget] at hx
   rw [← cell_arr b1]
   have c1 : ∀ k, (w.alloc (.cells A0 T)).drew.cell? ⟨w.heap.size, k, none⟩ = A0[k]? := cell_arr (alloc_new w (.cells A0 T))
   have c2 : ∀ k, (((w.alloc (.cells A0 T)).drew.setCells w.heap.size i [.int .i64 v]).drew).cell? ⟨w.heap.size, k, none⟩ = arr1[k]? := cell_arr a1
   by_cases h1 : j < i
   ·rw [if_pos h1] at hx
    rw [World.cell?_setCells_out _ _ _ _ _ (fun _ _ => .inl (by show j < i + 1; omega))]
    show ((w.alloc (.cells A0 T)).drew.setCells w.heap.size i [.int .i64 v]).cell? ⟨w.heap.size, j, none⟩ = _
    rw [World.cell?_setCells_out _ _ _ _ _ (fun _ _ => .inl h1), c1, ← hA, Array.append_assoc, Array.getElem?_append_left (by simp; omega)]
    simp [List.getElem?_take, h1, hx]
   ·rw [if_neg h1] at hx
    by_cases h2 : j = i
    ·rw [if_pos h2] at hx; simp at hx; subst hx; subst h2
     rw [World.cell?_setCells_out _ _ _ _ _ (fun _ _ => .inl (by show j < j + 1; omega))]
     have := World.cell?_setCells_in w.heap.size [.int .i64 v] j (w.alloc (.cells A0 T)).drew (fun k hk => by rw [c1]; simp at hk; simp; omega) 0 (by simp)
     simpa using this
    ·rw [if_neg h2] at hx
     have hjl := (List.getElem?_eq_some_iff.1 hx).1
     have := World.cell?_setCells_in w.heap.size ((xs.map (Value.int .i64)).drop i) (i + 1) (((w.alloc (.cells A0 T)).drew.setCells w.heap.size i [.int .i64 v]).drew) (fun k hk => by rw [c2]; simp at hk; simp; omega) (j - (i + 1)) (by simp; omega)
     rw [show i + 1 + (j - (i + 1)) = j by omega] at this
     rw [this]
     have hx2 : xs[j - 1] = x := (List.getElem?_eq_some_iff.1 hx).2
     simp only [List.getElem_drop, List.getElem_map]
     rw [← hx2]
     congr 3; omega
end Go.Proofs.Ytidlpcgcolcfgaa.VS
