/- Contracts of the program's functions on the evaluator without names, and plain lemmas: XVarsLaw. -/
import Derived.Test.YtanfjghdjkiggaaXFrzT
import Derived.Test.YtanfjghdjkiggaaXNumLaw
namespace Go.Proofs.Ytanfjghdjkiggaa.VS
set_option linter.unusedVariables false
set_option linter.unusedSimpArgs false
mutual
theorem allU_enc : ∀ t : T, (t.enc U).allU = true
  | .node f v ks => by
    have := allUs_encs ks
    unfold T.enc
    cases ks with
    | nil => simp [T.encs, DV.allU, DV.allUs]
    | cons a r => simp only [T.encs] at this ⊢; simp [DV.allU, DV.allUs] at this ⊢; exact this
theorem allUs_encs : ∀ l : List T, DV.allUs (T.encs U l) = true
  | [] => by simp [T.encs, DV.allUs]
  | t :: r => by simp [T.encs, DV.allUs, allU_enc t, allUs_encs r]
end
theorem allUT_enc (t : T) : (t.enc U).allUT = true := by
  have := allU_enc t
  rw [T.enc_eq] at this ⊢
  exact this
theorem FnExactVarsOf_x (a : T) (ha : a.ok) : ∃ B, callX XV 343 [.d (a.enc .sub)] [] = some (.d (.bool true), B) := by
  rw [z_call XV _ _ _ v343 rfl xcode_343 rfl]
  have z1 := szTerm_eq a 1048576 ha (by omega) (by omega)
  by_cases h1 : (1048576 : Int) - a.inner < 0
  · rw [leftOf_neg h1] at z1
    simp [v343, r343_0, r343_1, r343_2, r343_3, r343_4, r343_5, r343_6, r343_7, r343_8, r343_9, d343_10, r343_11, r343_12, r343_13, r343_14, r343_15, r343_16, r343_17, r343_18, r343_19, r343_20, r343_21, r343_22, r343_23, r343_24, r343_25, r343_26, r343_27, r343_28, r343_29, r343_30, r343_31, r343_32, r343_33, z1]
  rw [leftOf_pos h1] at z1
  have hin : a.inner ≤ 1048576 := by omega
  have t1 := toTerm_eq a hin
  have s1 := specVarsOf_eq a hin
  have s2 := implVarsOf_eq a hin
  have e1 := eqTerm_self a hin
  have hgl := varsL_len a hin
  generalize varsL a = g at s1 s2 hgl
  have e2 := eqIntS_same g (by omega)
  have u1 := allUT_enc a
  have u2 := allU_ints g
  have ub := allU_bool true
  have th1 := thaw_term a 1
  have hag := tAg_ag 1 a
  have hcl := tAg_clr 1 a
  have hrc := clr_tRow 1 a.kids
  have hri := isCell_tRow 1 a.kids
  have hrs := safe_tRow (1 + rowN a.kids) 1 a.kids (Nat.le_refl _)
  have hrl := bRow_len 1 a.kids
  have hrl' := bRow_len 1 (T.marks 1 a.kids)
  rw [rowN_marks] at hrl'
  have f0 := fun Q : Boxs => frz_tAg a [some [.d (.int .i64 a.f), .d (.int .i64 a.v), .d (terms .sub a.kids)]] Q
  have m1 := fun Q : Boxs => markTerm_eq a hin 1 (by omega) [some [.d (.int .i64 a.f), .d (.int .i64 a.v), .d (terms .sub a.kids)]] Q
  simp only [List.length_cons, List.length_nil, Nat.zero_add] at f0 m1
  have hk : ¬ (((1 + 2 * a.inner : Nat) : Int) < 0) := by omega
  have hk2 : ¬ (((1 + g.length : Nat) : Int) < 0) := by omega
  generalize hK : ((1 + 2 * a.inner : Nat) : Int) = K at m1 hk
  generalize hc0 : ([.d (.int .i64 a.f), .d (.int .i64 a.v), .d (terms .sub a.kids)] : List AV) = c0 at f0 m1
  generalize hc1 : ([.d (.int .i64 a.f), .d (.int .i64 a.v), tRow 1 a.kids] : List AV) = c1
  -- the row of numbers behind all this
  have th2 := fun R : Boxs => thaw_ints (R.length + 1 + 1) g
  have f2 := fun R : Boxs => frz_tI (some c0 :: (R ++ [some c1])) [] g
  have m2 := fun R : Boxs => markInts_eq g 1 (by omega) (some c0 :: (R ++ [some c1])) []
  have l2 := fun R : Boxs => heldInts_eq g.length 1 (by omega) (some c0 :: (R ++ [some c1])) []
  simp only [List.length_cons, List.length_append, List.length_nil, Nat.zero_add, List.append_nil, List.cons_append, List.append_assoc, List.nil_append] at f2 m2 l2
  have l2' : ∀ R : Boxs, callX XV 345 [tI (R.length + 1 + 1) g, .d (.int .i64 ((1 : Nat) : Int))] (some c0 :: (R ++ some c1 :: bI (mk g.length 1))) = some (.d (.int .i64 ((1 + g.length : Nat) : Int)), some c0 :: (R ++ some c1 :: bI (mk g.length 1))) := fun R => by
    have := l2 R
    rw [tI_len _ (mk g.length 1) g (mk_len _ _)] at this
    exact this
  generalize hK2 : ((1 + g.length : Nat) : Int) = K2 at m2 l2' hk2
  have hcy := fun b => clr_tI b g
  generalize hR : bRow 1 a.kids = R at *
  generalize hR' : bRow 1 (T.marks 1 a.kids) = R' at *
  have hRR : R'.length = R.length := by omega
  have f2R := f2 R
  have f2R' := f2 R'
  have m2R' := m2 R'
  have l2R' := l2' R'
  have th2R := th2 R
  rw [hRR] at f2R' m2R' l2R'
  have hcyR := hcy (R.length + 1 + 1)
  generalize hyi : tI (R.length + 1 + 1) g = yi at *
  generalize hG : bI g = G at *
  generalize hG' : bI (mk g.length 1) = G' at *
  have f0a := f0 [some c1]
  have f0b := f0 (some c1 :: G)
  have m1b := m1 (some c1 :: G)
  simp only [List.cons_append, List.nil_append] at f0a f0b m1b
  generalize hy : tAg 1 a = y at *
  rw [show 1 + rowN a.kids = R.length + 1 by omega] at hrs
  generalize hrow : tRow 1 a.kids = row at *
  have hget : ∀ (c : List AV) (X : Boxs), (R ++ some c :: X)[R.length]? = some (some c) := fun c X => get_at R (some c) X
  have hset : ∀ (c d : List AV) (X : Boxs), (R ++ some c :: X).set R.length (some d) = R ++ some d :: X := fun c d X => set_at R (some c) (some d) X
  obtain ⟨f, v, ks⟩ := a
  simp only [T.f_node, T.v_node, T.kids_node] at *
  subst hc0; subst hc1
  simp only [Int.natCast_one, terms, is] at *
  have hdl : ¬ (R.length + (G.length + 1) ≤ R.length) := by omega
  have hcls : ∀ x y z : AV, AV.clrs [x, y, z] = [x.clr, y.clr, z.clr] := fun x y z => by simp only [AV.clrs]
  simp [v343, r343_0, r343_1, r343_2, r343_3, r343_4, r343_5, r343_6, r343_7, r343_8, r343_9, d343_10, r343_11, r343_12, r343_13, r343_14, r343_15, r343_16, r343_17, r343_18, r343_19, r343_20, r343_21, r343_22, r343_23, r343_24, r343_25, r343_26, r343_27, r343_28, r343_29, r343_30, r343_31, r343_32, r343_33, z1, h1, t1, s1, s2, e1, e2, u1, u2, ub, th1, th2R, hag, hcl, hrc, hri, hrs, f0a, f0b, f2R, f2R', m1b, m2R', l2R', hcyR, hk, hk2, hget, hset, splice, isCellA_d, isCell_int, safes_cons, safes_nil, safe_ag, safe_d, cellsA_ag, hcls, hdl]
end Go.Proofs.Ytanfjghdjkiggaa.VS
