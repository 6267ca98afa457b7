/- Contracts of the program's functions on the evaluator without names, and plain lemmas: XLookX. -/
import Derived.Test.YtanfjghdjkiggaaXLookLaw
namespace Go.Proofs.Ytanfjghdjkiggaa.VS
set_option linter.unusedVariables false
set_option linter.unusedSimpArgs false
theorem FnExactLook_x (l : List Bd) (hl : l.length ≤ maxLen) (ho : ∀ s, s ∈ l → s.ok) (n : Int) (hn : -9223372036854775808 ≤ n ∧ n ≤ 9223372036854775807) : ∃ B, callX XV 346 [.d (binds .sub l), .d (.int .i64 n)] [] = some (.d (.bool true), B) := by
  rw [z_call XV _ _ _ v346 rfl xcode_346 rfl]
  have z1 := szBindS_eq l 1048576 hl ho (by omega) (by omega)
  by_cases h1 : (1048576 : Int) - bindsSize l < 0
  · rw [leftOf_neg h1] at z1
    simp [v346, r346_0, r346_1, r346_2, r346_3, r346_4, r346_5, r346_6, r346_7, r346_8, r346_9, r346_10, r346_11, r346_12, r346_13, r346_14, r346_15, r346_16, r346_17, r346_18, r346_19, r346_20, r346_21, r346_22, r346_23, r346_24, r346_25, r346_26, r346_27, r346_28, r346_29, r346_30, r346_31, r346_32, r346_33, z1]
  rw [leftOf_pos h1] at z1
  have hls : l.length ≤ 1048576 := by unfold bindsSize at h1; omega
  have hb : ∀ i, i < l.length → (bAt l i).t.inner ≤ 1048576 := fun i hi => by have := bind_le l i hi; omega
  have hcb := cntB_size l
  have hbs : bindsSize l = l.length + sumW (fun i => (bAt l i).t.inner) 0 l.length := rfl
  have t1 := toBindS_eq l hls hb
  have s1 := specLook_eq l n hls hb
  have s2 := implLook_eq l n hls hb
  have hin := lookT_inner l n hb
  generalize lookT l n = a at s1 s2 hin
  have e1 := eqTerm_self a hin
  have e2 := eqBindS_self l hls hb
  have u1 := allUT_enc a
  have u2 := allUT_binds l
  have ub := allU_bool true
  have th1 := thaw_binds 1 l
  have hcl := clr_tBs 1 l
  have f1 := fun Q : Boxs => frz_tBs l [some [.d (.int .i64 a.f), .d (.int .i64 a.v), .d (terms U a.kids)]] Q
  have m1 := fun Q : Boxs => markBinds_eq l hls hb 1 (by omega) [some [.d (.int .i64 a.f), .d (.int .i64 a.v), .d (terms U a.kids)]] Q
  simp only [List.length_cons, List.length_nil, Nat.zero_add] at f1 m1
  have hRR : (if l = [] then ([] : Boxs) else T.bxs 1 (ts (mkB l 1)) ++ [some (bCells 1 (mkB l 1))]).length = (bBs 1 l).length := by
    unfold bBs
    have := mkB_nbs l 1
    split <;> simp [bxs_len, this]
  generalize (if l = [] then ([] : Boxs) else T.bxs 1 (ts (mkB l 1)) ++ [some (bCells 1 (mkB l 1))]) = R' at m1 hRR
  have hk : ¬ (((1 + cntB l : Nat) : Int) < 0) := by omega
  have hk2 : ¬ (((1 + 2 * a.inner : Nat) : Int) < 0) := by omega
  generalize bBs 1 l = R at th1 f1 m1 hRR
  generalize tBs 1 l = y1 at th1 f1 m1 hcl
  generalize ((1 + cntB l : Nat) : Int) = K1 at m1 hk
  generalize hc0 : ([.d (.int .i64 a.f), .d (.int .i64 a.v), .d (terms U a.kids)] : List AV) = c0 at f1 m1
  have th2 := thaw_term a (R.length + 1)
  have hag := tAg_ag (R.length + 1) a
  have hcl2 := tAg_clr (R.length + 1) a
  have hrc := clr_tRow (R.length + 1) a.kids
  have hri := isCell_tRow (R.length + 1) a.kids
  have hrs := safe_tRow (R.length + 1 + rowN a.kids) (R.length + 1) a.kids (Nat.le_refl _)
  have hrl := bRow_len (R.length + 1) a.kids
  have hrl' := bRow_len (R.length + 1) (T.marks 1 a.kids)
  rw [rowN_marks] at hrl'
  have hct := tAg_cells (R.length + 1) a
  have f2 := fun Q : Boxs => frz_tAg a (some c0 :: R) Q
  have f2' := fun Q : Boxs => frz_tAg a (some c0 :: R') Q
  have m2 := fun Q : Boxs => markTerm_eq a hin 1 (by omega) (some c0 :: R') Q
  have l2 := fun Q : Boxs => heldTerm_eq a hin 1 (by omega) (some c0 :: R') Q
  simp only [List.length_cons, hRR] at f2 f2' m2 l2
  generalize ((1 + 2 * a.inner : Nat) : Int) = K2 at m2 l2 hk2
  generalize hc1 : ([.d (.int .i64 a.f), .d (.int .i64 a.v), tRow (R.length + 1) a.kids] : List AV) = c1
  generalize hR2 : bRow (R.length + 1) a.kids = R2 at *
  generalize hR2' : bRow (R.length + 1) (T.marks 1 a.kids) = R2' at *
  have hQ2 : R2'.length = R2.length := by omega
  generalize tAg (R.length + 1) a = y2 at *
  rw [← hrl, show R.length + 1 + R2.length = R.length + R2.length + 1 by omega] at hrs
  generalize tRow (R.length + 1) a.kids = row at *
  have f1a := f1 []
  have f1b := f1 (R2 ++ [some c1])
  have m1b := m1 (R2 ++ [some c1])
  have f2b := f2 [some c1]
  have f2c := f2' [some c1]
  have m2b := m2 [some c1]
  have l2b := l2 [some c1]
  have l2c := l2 [some c1, some c0]
  simp only [List.cons_append, List.nil_append, List.append_assoc, List.append_nil] at f1a f1b m1b f2b f2c m2b l2b l2c
  have hget : ∀ (S Q : Boxs) (c : List AV) (X : Boxs), S.length = R.length → Q.length = R2.length → (S ++ (Q ++ some c :: X))[R.length + R2.length]? = some (some c) := fun S Q c X hS hQ => by
    rw [← List.append_assoc, ← hS, ← hQ, ← List.length_append]; exact get_at _ _ _
  have hset : ∀ (S Q : Boxs) (c d : List AV) (X : Boxs), S.length = R.length → Q.length = R2.length → (S ++ (Q ++ some c :: X)).set (R.length + R2.length) (some d) = S ++ (Q ++ some d :: X) := fun S Q c d X hS hQ => by
    rw [← List.append_assoc, ← hS, ← hQ, ← List.length_append, set_at, List.append_assoc]
  have g1 := fun c X => hget R R2 c X rfl rfl
  have g2 := fun c X => hget R' R2 c X hRR rfl
  have g3 := fun c X => hget R' R2' c X hRR hQ2
  have q1 := fun c d X => hset R R2 c d X rfl rfl
  obtain ⟨f, v, ks⟩ := a
  simp only [T.f_node, T.v_node, T.kids_node] at *
  subst hc0; subst hc1
  simp only [Int.natCast_one, terms, binds] at *
  have hcls : ∀ x y z : AV, AV.clrs [x, y, z] = [x.clr, y.clr, z.clr] := fun x y z => by simp only [AV.clrs]
  simp [v346, r346_0, r346_1, r346_2, r346_3, r346_4, r346_5, r346_6, r346_7, r346_8, r346_9, r346_10, r346_11, r346_12, r346_13, r346_14, r346_15, r346_16, r346_17, r346_18, r346_19, r346_20, r346_21, r346_22, r346_23, r346_24, r346_25, r346_26, r346_27, r346_28, r346_29, r346_30, r346_31, r346_32, r346_33, z1, h1, t1, s1, s2, e1, e2, u1, u2, ub, th1, th2, hag, hcl, hcl2, hct, hrc, hri, hrs, f1a, f1b, f2b, f2c, m1b, m2b, l2b, l2c, hk, hk2, g1, g2, g3, q1, splice, isCellA_d, isCell_int, isCell_sl, safes_cons, safes_nil, safe_ag, safe_d, cellsA_ag, hcls]
end Go.Proofs.Ytanfjghdjkiggaa.VS
