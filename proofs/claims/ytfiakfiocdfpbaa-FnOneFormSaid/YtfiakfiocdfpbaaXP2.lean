/- Contracts of the program's functions on the evaluator without names, and plain lemmas: part 2. -/
import Derived.Test.YtfiakfiocdfpbaaXP1
set_option linter.unusedSimpArgs false
set_option linter.unusedVariables false
namespace Go.Proofs.Ytfiakfiocdfpbaa.VS
structure SigD (l : List SymL) : Prop where
 len : l.length ≤ 9
 sym : ∀ s, s ∈ l → s.name.size ≤ 9 ∧ -1 ≤ s.arity ∧ s.arity ≤ 4
theorem SigD.ok {l : List SymL} (h : SigD l) : ∀ s, s ∈ l → s.ok := fun s hs => by
 obtain ⟨h1, h2, h3⟩ := h.sym s hs
 exact ⟨by unfold maxLen; omega, by omega, by omega⟩
@[simp] theorem isAgD_sym (s : SymL) : isAgD s.enc = true := rfl
@[simp] theorem xrest_sym (rs : List DV) (s : SymL) : DV.xrest rs s.enc = true := by
 show DV.xrest rs (.agg [.str s.name, .int .i64 s.arity, .bool s.ac]) = true
 simp only [DV.xrest, DV.xrests, Bool.and_self]
end Go.Proofs.Ytfiakfiocdfpbaa.VS
namespace Go.Proofs.Ytfiakfiocdfpbaa.VS
mutual
def T.rng : T → Prop
 | .node _ v ks => (-9223372036854775808 ≤ v ∧ v ≤ 9223372036854775807) ∧ T.rngs ks
def T.rngs : List T → Prop
 | [] => True
 | t :: r => t.rng ∧ T.rngs r
end
theorem T.rngs_iff : ∀ l : List T, T.rngs l ↔ ∀ t, t ∈ l → t.rng
 | [] => by simp [T.rngs]
 | t :: r => by simp [T.rngs, T.rngs_iff r]
end Go.Proofs.Ytfiakfiocdfpbaa.VS
namespace Go.Proofs.Ytfiakfiocdfpbaa.VS
theorem SeedAt.app {bs : List Int} {q : Nat} {B : Boxs} (h : SeedAt bs q B) (R : Boxs) : SeedAt bs q (B ++ R) := by
 have hq := h.lt
 obtain ⟨pos, st, hp, hb⟩ := h
 exact ⟨pos, st, hp, by have := bget_iff hb; simp [bget, List.getElem?_append_left hq, this]⟩
end Go.Proofs.Ytfiakfiocdfpbaa.VS
namespace Go.Proofs.Ytfiakfiocdfpbaa.VS
theorem rngs_app {a b : List T} (h1 : T.rngs a) (h2 : T.rngs b) : T.rngs (a ++ b) := by
 rw [T.rngs_iff] at *
 intro t ht
 rcases List.mem_append.1 ht with h | h
 ·exact h1 t h
 ·exact h2 t h
end Go.Proofs.Ytfiakfiocdfpbaa.VS
namespace Go.Proofs.Ytfiakfiocdfpbaa.VS
def fc (l : List T) : List DV := l.flatMap fun t => (t.enc U).cells
def fcs (l : List T) : List DV := l.flatMap fun t => (t.enc .sub).cells
theorem fc_cons (t : T) (l : List T) : fc (t :: l) = .int .i64 t.f :: .int .i64 t.v :: .sl U (t.kids.map (T.enc U)) :: fc l := by
 unfold fc; rw [List.flatMap_cons, T.enc_eq]; rfl
theorem fcs_cons (t : T) (l : List T) : fcs (t :: l) = .int .i64 t.f :: .int .i64 t.v :: .sl .sub (t.kids.map (T.enc .sub)) :: fcs l := by
 unfold fcs; rw [List.flatMap_cons, T.enc_eq]; rfl
theorem fcs_app (a b : List T) : fcs (a ++ b) = fcs a ++ fcs b := by unfold fcs; simp
theorem fc_clr : ∀ l : List T, (fc l).map DV.clr = fcs l
 | [] => rfl
 | t :: l => by rw [fc_cons, fcs_cons, List.map_cons, List.map_cons, List.map_cons, fc_clr l]; simp
theorem fcs_len : ∀ l : List T, (fcs l).length = l.length * 3
 | [] => rfl
 | t :: l => by rw [fcs_cons]; simp [fcs_len l]; omega
theorem frzL_app (f : AV → Option DV) : ∀ (a b : List AV) {x y : List DV}, frzL f a = some x → frzL f b = some y → frzL f (a ++ b) = some (x ++ y)
 | [], b, x, y, h1, h2 => by simp [frzL] at h1; subst h1; simpa using h2
 | v :: a, b, x, y, h1, h2 => by
  simp only [frzL] at h1
  obtain ⟨d, e1, h1⟩ := Option.bind_eq_some_iff.1 h1
  obtain ⟨x', e2, rfl⟩ := Option.map_eq_some_iff.1 h1
  simp only [List.cons_append, frzL, e1, frzL_app f a b e2 h2, Option.bind_some, Option.map_some]
theorem frzL_d (M : Boxs) (n : Nat) : ∀ l : List DV, frzL (AV.frzC M n) (l.map .d) = some l
 | [] => rfl
 | d :: l => by
  simp only [List.map_cons, frzL, frzC_d, frzL_d M n l, Option.bind_some, Option.map_some]
theorem clr_int_inv {d : DV} {k : IntKind} {n : Int} (h : d.clr = .int k n) : d = .int k n := by
 cases d <;> simp [DV.clr] at h ⊢ <;> exact h
theorem clr_sl_inv {d : DV} {l : List DV} (h : d.clr = .sl .sub l) : ∃ g xs, d = .sl g xs ∧ DV.clrs xs = l := by
 cases d <;> simp [DV.clr] at h
 exact ⟨_, _, rfl, h⟩
theorem fcs_inv {t : T} {l : List T} {ds : List DV} (h : ds.map DV.clr = fcs (t :: l)) : ∃ g xs r, ds = .int .i64 t.f :: .int .i64 t.v :: .sl g xs :: r ∧ DV.clrs xs = t.kids.map (T.enc .sub) ∧ r.map DV.clr = fcs l := by
 rw [fcs_cons] at h
 match ds, h with
 | [], h => simp at h
 | [_], h => simp at h
 | [_, _], h => simp at h
 | d0 :: d1 :: d2 :: r, h =>
  simp only [List.map_cons, List.cons.injEq] at h
  obtain ⟨h0, h1, h2, h3⟩ := h
  obtain ⟨g, xs, rfl, hx⟩ := clr_sl_inv h2
  exact ⟨g, xs, r, by rw [clr_int_inv h0, clr_int_inv h1], hx, h3⟩
theorem fcs_chunks : ∀ (l : List T) (ds : List DV), ds.map DV.clr = fcs l → ∃ xs, chunks true 3 l.length ds = some xs ∧ xs.map DV.clr = l.map (T.enc .sub)
 | [], ds, h => ⟨[], rfl, rfl⟩
 | t :: l, ds, h => by
  obtain ⟨g, xs, r, rfl, hx, hr⟩ := fcs_inv h
  obtain ⟨ys, h1, h2⟩ := fcs_chunks l r hr
  refine ⟨.agg [.int .i64 t.f, .int .i64 t.v, .sl g xs] :: ys, ?_, ?_⟩
  ·simp [chunks, cut, isCell_int, isCell_sl, h1, DV.cells]
  ·rw [List.map_cons, List.map_cons, h2, T.enc_eq]
   simp only [DV.clr, DV.clrs, hx]
theorem bget_m2 (B : Boxs) (i : Nat) (h : 2 ≤ i) : bget (maskB 2 B) i = bget B i := by
 unfold bget maskB
 rw [List.getElem?_append_right (by simp; exact h), List.length_replicate, List.getElem?_drop, show 2 + (i - 2) = i by omega]
def Ctx (j : Nat) (B : Boxs) (A D : List T) (N : Nat) : Prop :=
 ∀ (B' : Boxs) (cs : List AV) (u : T) (ds : List DV), B'.length = 6 → (∀ i, j < i → B'[i]? = B[i]?) → B'[j]? = some (some cs) → frzL (AV.frzC (maskB 2 B') (j + 1)) cs = some ds → ds.map DV.clr = fcs (A ++ u :: D) →
  ∃ (c5 : List AV) (ds5 : List DV) (t' : T), B'[5]? = some (some c5) ∧ frzL (AV.frzC (maskB 2 B') 6) c5 = some ds5 ∧ ds5.map DV.clr = fcs [t'] ∧ t'.inner ≤ N + u.inner ∧ (u.rng → t'.rng)
theorem Ctx.base (B : Boxs) : Ctx 5 B [] [] 0 := fun B' cs u ds h1 h2 h3 h4 h5 => ⟨cs, ds, u, h3, h4, h5, by omega, id⟩
theorem inners_app : ∀ a b : List T, T.inners (a ++ b) = T.inners a + T.inners b
 | [], b => by simp [T.inners]
 | t :: a, b => by simp only [List.cons_append, T.inners, inners_app a b]; omega
theorem Ctx.step {j : Nat} {B B1 : Boxs} {A D A' D' : List T} {N m : Nat} {f v : Int} (hj : 2 ≤ j) (h : Ctx (j + 1) B A D N) (hag : ∀ i, j + 1 < i → B1[i]? = B[i]?)
  (hat : B1[j + 1]? = some (some ((fc A).map .d ++ ([.d (.int .i64 f), .d (.int .i64 v), .tsl true j 3 m] ++ (fc D).map .d)))) (hm : A'.length + 1 + D'.length = m) (hv : -9223372036854775808 ≤ v ∧ v ≤ 9223372036854775807) (hA : T.rngs A') (hD : T.rngs D') : Ctx j B1 A' D' (N + (m + T.inners A' + T.inners D')) := by
 intro B' cs u ds h1 h2 h3 h4 h5
 have hlen : ds.length = m * 3 := by
  have := congrArg List.length h5
  rw [List.length_map, fcs_len] at this
  rw [this]; simp only [List.length_append, List.length_cons]; rw [← hm]; congr 1; omega
 obtain ⟨xs, hx1, hx2⟩ := fcs_chunks _ _ h5
 have hm' : (A' ++ u :: D').length = m := by simp only [List.length_append, List.length_cons]; omega
 rw [hm'] at hx1
 have htsl : AV.frzC (maskB 2 B') (j + 1 + 1) (.tsl true j 3 m) = some (.sl .sub xs) := by
  simp only [AV.frzC]
  rw [bget_m2 _ _ hj]
  simp only [bget, h3, Option.bind_some, h4, hlen, if_true, hx1, Option.map_some]
 have hmid : frzL (AV.frzC (maskB 2 B') (j + 1 + 1)) [.d (.int .i64 f), .d (.int .i64 v), .tsl true j 3 m] = some [.int .i64 f, .int .i64 v, .sl .sub xs] := by
  simp only [frzL, htsl, frzC_d, Option.bind_some, Option.map_some]
 have hfr := frzL_app _ _ _ (frzL_d (maskB 2 B') (j + 1 + 1) (fc A)) (frzL_app _ _ _ hmid (frzL_d (maskB 2 B') (j + 1 + 1) (fc D)))
 have hclr : (fc A ++ ([DV.int .i64 f, DV.int .i64 v, DV.sl .sub xs] ++ fc D)).map DV.clr = fcs (A ++ (T.node f v (A' ++ u :: D')) :: D) := by
  rw [List.map_append, List.map_append, fc_clr, fc_clr, fcs_app, fcs_cons]
  simp only [List.map_cons, List.map_nil, DV.clr, DV.clrs_map, hx2, T.f_node, T.v_node, T.kids_node, List.cons_append, List.nil_append]
 obtain ⟨c5, ds5, t', e1, e2, e3, e4, e4r⟩ := h B' _ _ _ h1 (fun i hi => by rw [h2 i (by omega), hag i hi]) (by rw [h2 (j + 1) (by omega), hat]) hfr hclr
 refine ⟨c5, ds5, t', e1, e2, e3, ?_, fun hu => e4r ⟨hv, rngs_app hA ⟨hu, hD⟩⟩⟩
 have e5 : (T.node f v (A' ++ u :: D')).inner = m + (T.inners A' + (u.inner + T.inners D')) := by rw [T.inner_eq, T.kids_node, hm', inners_app]; rfl
 omega
end Go.Proofs.Ytfiakfiocdfpbaa.VS
namespace Go.Proofs.Ytfiakfiocdfpbaa.VS
def row3 (A : List T) (x0 x1 x2 : AV) (D : List T) : List AV := (fc A).map .d ++ ([x0, x1, x2] ++ (fc D).map .d)
def TR (rs : List DV) : Prop := rs.all (fun r => !(DV.int .u8 0).like r) = true
structure WS (bs : List Int) (j k : Nat) (B : Boxs) (A D : List T) (f v : Int) (ks : List T) (N : Nat) : Prop where
 jk : j + k = 5
 j2 : 2 ≤ j
 len : B.length = 6
 seed : SeedAt bs 0 B
 one : B[1]? = some (some [.d (.int .i64 0), .d (.int .i64 0), .d (.sl U [])])
 free : ∀ i, 2 ≤ i → i < j → B[i]? = some none
 at_ : B[j]? = some (some (row3 A (.d (.int .i64 f)) (.d (.int .i64 v)) (.d (.sl U (ks.map (T.enc U)))) D))
 rest : ∀ rs, TR rs → xrestBoxs rs B = true
 ctx : Ctx j B A D N
 siz : N + (T.node f v ks).inner ≤ 6
 rg : (T.node f v ks).rng
end Go.Proofs.Ytfiakfiocdfpbaa.VS
namespace Go.Proofs.Ytfiakfiocdfpbaa.VS
end Go.Proofs.Ytfiakfiocdfpbaa.VS
namespace Go.Proofs.Ytfiakfiocdfpbaa.VS
end Go.Proofs.Ytfiakfiocdfpbaa.VS
namespace Go.Proofs.Ytfiakfiocdfpbaa.VS
theorem WS.read {bs : List Int} {j k : Nat} {B : Boxs} {A D : List T} {f v : Int} {ks : List T} {N : Nat} (h : WS bs j k B A D f v ks N) {B' : Boxs} (hl : B'.length = 6) (hi : ∀ i, j < i → B'[i]? = B[i]?) (u : T) (g : Tag) (X : List DV) (hX : X.map DV.clr = u.kids.map (T.enc .sub))
  (hj : B'[j]? = some (some (row3 A (.d (.int .i64 u.f)) (.d (.int .i64 u.v)) (.d (.sl g X)) D))) :
  ∃ (c5 : List AV) (ds5 : List DV) (t' : T), B'[5]? = some (some c5) ∧ frzL (AV.frzC (maskB 2 B') 6) c5 = some ds5 ∧ ds5.map DV.clr = fcs [t'] ∧ t'.inner ≤ N + u.inner ∧ (u.rng → t'.rng) := by
 refine h.ctx B' _ u (fc A ++ ([.int .i64 u.f, .int .i64 u.v, .sl g X] ++ fc D)) hl hi hj ?_ ?_
 ·unfold row3
  exact frzL_app _ _ _ (frzL_d _ _ _) (frzL_app _ _ _ (frzL_d _ _ [.int .i64 u.f, .int .i64 u.v, .sl g X]) (frzL_d _ _ _))
 ·rw [List.map_append, List.map_append, fc_clr, fc_clr, fcs_app, fcs_cons]
  simp only [List.map_cons, List.map_nil, DV.clr, DV.clrs_map, hX, List.cons_append, List.nil_append]
end Go.Proofs.Ytfiakfiocdfpbaa.VS
namespace Go.Proofs.Ytfiakfiocdfpbaa.VS
end Go.Proofs.Ytfiakfiocdfpbaa.VS
namespace Go.Proofs.Ytfiakfiocdfpbaa.VS
end Go.Proofs.Ytfiakfiocdfpbaa.VS
namespace Go.Proofs.Ytfiakfiocdfpbaa.VS
end Go.Proofs.Ytfiakfiocdfpbaa.VS
namespace Go.Proofs.Ytfiakfiocdfpbaa.VS
end Go.Proofs.Ytfiakfiocdfpbaa.VS
namespace Go.Proofs.Ytfiakfiocdfpbaa.VS
end Go.Proofs.Ytfiakfiocdfpbaa.VS
namespace Go.Proofs.Ytfiakfiocdfpbaa.VS
end Go.Proofs.Ytfiakfiocdfpbaa.VS
namespace Go.Proofs.Ytfiakfiocdfpbaa.VS
end Go.Proofs.Ytfiakfiocdfpbaa.VS
namespace Go.Proofs.Ytfiakfiocdfpbaa.VS
end Go.Proofs.Ytfiakfiocdfpbaa.VS
namespace Go.Proofs.Ytfiakfiocdfpbaa.VS
end Go.Proofs.Ytfiakfiocdfpbaa.VS
namespace Go.Proofs.Ytfiakfiocdfpbaa.VS
def e3 (t : T) : List AV := [.d (.int .i64 t.f), .d (.int .i64 t.v), .d (terms U t.kids)]
def e3' (t : T) : List AV := [.d (.int .i64 t.f), .d (.int .i64 t.v), .d (terms .sub t.kids)]
end Go.Proofs.Ytfiakfiocdfpbaa.VS
namespace Go.Proofs.Ytfiakfiocdfpbaa.VS
end Go.Proofs.Ytfiakfiocdfpbaa.VS
namespace Go.Proofs.Ytfiakfiocdfpbaa.VS
end Go.Proofs.Ytfiakfiocdfpbaa.VS
namespace Go.Proofs.Ytfiakfiocdfpbaa.VS
end Go.Proofs.Ytfiakfiocdfpbaa.VS
namespace Go.Proofs.Ytfiakfiocdfpbaa.VS
end Go.Proofs.Ytfiakfiocdfpbaa.VS
namespace Go.Proofs.Ytfiakfiocdfpbaa.VS
end Go.Proofs.Ytfiakfiocdfpbaa.VS
namespace Go.Proofs.Ytfiakfiocdfpbaa.VS
end Go.Proofs.Ytfiakfiocdfpbaa.VS
namespace Go.Proofs.Ytfiakfiocdfpbaa.VS
def bs (P : Nat → Bool) : Nat → Nat → Nat → Nat
 | 0, i, _ => i
 | k + 1, i, j => if i < j then (if P ((i + j) / 2) = true then bs P k ((i + j) / 2 + 1) j else bs P k i ((i + j) / 2)) else i
end Go.Proofs.Ytfiakfiocdfpbaa.VS
