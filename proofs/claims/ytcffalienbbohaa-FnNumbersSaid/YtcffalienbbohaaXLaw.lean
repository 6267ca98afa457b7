/- Contracts of the program's functions on the evaluator without names, and plain lemmas: XLaw. -/
import Derived.Test.YtcffalienbbohaaXTerm2
namespace Go.Proofs.Ytcffalienbbohaa.VS
set_option linter.unusedVariables false
set_option linter.unusedSimpArgs false
/-! ## From a law's arguments to values without names -/
mutual
def TT.erase : TT → T
  | .node f v g ks => .node f v (TT.erases ks)
def TT.erases : List TT → List T
  | [] => []
  | t :: r => t.erase :: TT.erases r
end
theorem TT.erases_map : ∀ l : List TT, TT.erases l = l.map TT.erase
  | [] => by unfold TT.erases; rfl
  | t :: r => by unfold TT.erases; simp [TT.erases_map r]
mutual
theorem TT.clr_cells : ∀ t : TT, DV.clrs t.cells = [.int .i64 t.erase.f, .int .i64 t.erase.v, terms .sub t.erase.kids]
  | .node f v g ks => by
    simp only [TT.cells, DV.clrs, DV.clr, TT.erase, T.f_node, T.v_node, T.kids_node, terms]
    rw [TT.clr_encs ks]
theorem TT.clr_encs : ∀ l : List TT, DV.clrs (TT.encs l) = (TT.erases l).map (T.enc .sub)
  | [] => by simp [TT.encs, DV.clrs, TT.erases]
  | t :: r => by
    simp only [TT.encs, DV.clrs, DV.clr, TT.erases, List.map_cons]
    rw [TT.clr_cells t, TT.clr_encs r, T.enc_eq]
end
theorem TT.clr_enc (t : TT) : t.enc.clr = t.erase.enc .sub := by
  simp only [TT.enc, DV.clr]
  rw [TT.clr_cells, T.enc_eq]
mutual
theorem TT.ok_erase : ∀ t : TT, t.ok → t.erase.ok
  | .node f v g ks, h => by
    simp only [TT.ok] at h
    simp only [TT.erase, T.ok, TT.erases_map, List.length_map]
    refine ⟨h.2.2.1, ?_⟩
    rw [← TT.erases_map]
    exact TT.oks_erase ks h.2.2.2
theorem TT.oks_erase : ∀ l : List TT, TT.oks l → T.oks (TT.erases l)
  | [], _ => by simp [TT.erases, T.oks]
  | t :: r, h => by
    simp only [TT.oks] at h
    simp only [TT.erases, T.oks]
    exact ⟨TT.ok_erase t h.1, TT.oks_erase r h.2⟩
end
theorem clr_ints (g : Tag) (l : List Int) : (ints g l).clr = .sl .sub (l.map (.int .i64)) := by
  simp only [ints, clr_sl, List.map_map, Function.comp_def, clr_int]
theorem clr_symL (s : SymL) : s.enc.clr = s.enc := by simp [SymL.enc, SymL.cells]
theorem clr_syms (g : Tag) (l : List SymL) : (syms g l).clr = .sl .sub (l.map SymL.enc) := by
  simp only [syms, clr_sl, List.map_map, Function.comp_def, clr_symL]
theorem plain_of_X (hX : XOK XV) {k : Nat} {vs : List DV} (h : ∃ B, callX XV k ((DV.clrs vs).map .d) [] = some (.d (.bool true), B)) : ∃ A B, callV E [] k (vs.map .d) [] Ids.none = some ⟨.d (.bool true), A, B⟩ := by
  obtain ⟨B, h⟩ := h
  obtain ⟨u, A, Bv, h1, h2⟩ := law_of_X hX (DV.clrs_clrs vs) (DV.clrs_fits vs) (d := .bool true) (by simp [DV.clr]) h
  simp only [DV.fit] at h2; subst h2
  exact ⟨A, Bv, h1⟩
theorem args_len {P : Program} : ∀ {ps : List TypeId} {xs : List (List DV)}, Args P ps xs → xs.length = ps.length
  | [], [], _ => rfl
  | [], _ :: _, h => h.elim
  | _ :: _, [], h => h.elim
  | _ :: ps, _ :: xs, h => by simp only [List.length_cons]; rw [args_len h.2]
theorem args1 {P : Program} {a : TypeId} : ∀ {xs : List (List DV)}, Args P [a] xs → ∃ x, xs = [x]
  | [x], _ => ⟨x, rfl⟩
  | [], h => h.elim
  | _ :: _ :: _, h => h.2.elim
theorem args2 {P : Program} {a b : TypeId} : ∀ {xs : List (List DV)}, Args P [a, b] xs → ∃ x y, xs = [x, y]
  | x :: r, h => by obtain ⟨y, rfl⟩ := args1 h.2; exact ⟨x, y, rfl⟩
theorem args3 {P : Program} {a b c : TypeId} : ∀ {xs : List (List DV)}, Args P [a, b, c] xs → ∃ x y z, xs = [x, y, z]
  | x :: r, h => by obtain ⟨y, z, rfl⟩ := args2 h.2; exact ⟨x, y, z, rfl⟩
theorem args4 {P : Program} {a b c d : TypeId} : ∀ {xs : List (List DV)}, Args P [a, b, c, d] xs → ∃ x y z w, xs = [x, y, z, w]
  | x :: r, h => by obtain ⟨y, z, w, rfl⟩ := args3 h.2; exact ⟨x, y, z, w, rfl⟩
end Go.Proofs.Ytcffalienbbohaa.VS
