/- Contracts of the program's functions on the evaluator without names, and plain lemmas: XFrzT. -/
import Derived.Test.YtanfjghdjkiggaaXHeldT
namespace Go.Proofs.Ytanfjghdjkiggaa.VS
set_option linter.unusedVariables false
set_option linter.unusedSimpArgs false
theorem frzRow_of (kk : List T) (h : ∀ (n : Nat) (P Q : Boxs), T.nbs kk ≤ n → frzL (AV.frzC (P ++ T.bxs P.length kk ++ Q) n) (tCells P.length kk) = some (flat (kk.map (T.enc .sub)))) (n : Nat) (P Q : Boxs) (hn : rowN kk ≤ n) :
    AV.frzC (P ++ bRow P.length kk ++ Q) n (tRow P.length kk) = some (terms .sub kk) := by
  by_cases hk : kk = []
  · subst hk; simp only [tRow, if_true]; exact frzC_d _ _ _
  · unfold rowN at hn
    rw [if_neg hk] at hn
    obtain ⟨m, rfl⟩ : ∃ m, n = m + 1 := ⟨n - 1, by omega⟩
    rw [tRow_cons _ _ hk, bRow_cons _ _ hk]
    have hB : P ++ (T.bxs P.length kk ++ [some (tCells P.length kk)]) ++ Q = P ++ T.bxs P.length kk ++ (some (tCells P.length kk) :: Q) := by simp
    rw [hB]
    have hl : (P ++ T.bxs P.length kk).length = P.length + T.nbs kk := by rw [List.length_append, bxs_len]
    have hg : bget (P ++ T.bxs P.length kk ++ (some (tCells P.length kk) :: Q)) (P.length + T.nbs kk) = some (tCells P.length kk) := by
      unfold bget; rw [← hl, get_at]
    simp only [AV.frzC]
    rw [hg, Option.bind_some, h m P _ (by omega), Option.bind_some]
    have hok := encs_ok .sub kk
    have hfl : (flat (kk.map (T.enc .sub))).length = kk.length * 3 := by
      rw [flat_len (fun x hx => (hok x hx).1)]; simp
    rw [if_pos hfl]
    have hch := chunks_row (kk.map (T.enc .sub)) hok
    rw [List.length_map] at hch
    rw [hch]; rfl
theorem frzCells (l : List T) (n : Nat) (P Q : Boxs) (hn : T.nbs l ≤ n) : frzL (AV.frzC (P ++ T.bxs P.length l ++ Q) n) (tCells P.length l) = some (flat (l.map (T.enc .sub))) := by
  match l, hn with
  | [], hn => rfl
  | .node f v kk :: r, hn =>
    simp only [T.nbs, nb_node] at hn
    have h1 := frzRow_of kk (fun n P Q hn => frzCells kk n P Q hn) n P (T.bxs (P.length + rowN kk) r ++ Q) (by omega)
    have h2 := frzCells r n (P ++ bRow P.length kk) Q (by omega)
    have hl : (P ++ bRow P.length kk).length = P.length + rowN kk := by rw [List.length_append, bRow_len]
    rw [hl] at h2
    have hB1 : P ++ bRow P.length kk ++ (T.bxs (P.length + rowN kk) r ++ Q) = P ++ T.bxs P.length (.node f v kk :: r) ++ Q := by simp [T.bxs, bx_node, nb_node]
    have hB2 : P ++ bRow P.length kk ++ T.bxs (P.length + rowN kk) r ++ Q = P ++ T.bxs P.length (.node f v kk :: r) ++ Q := by simp [T.bxs, bx_node, nb_node]
    rw [hB1] at h1
    rw [hB2] at h2
    simp only [tCells, frzL_cons, frzC_d, h1, h2, frzO_some, List.map_cons]
    simp [flat]
termination_by SizeOf.sizeOf l
theorem frzRow_eq (kk : List T) (n : Nat) (P Q : Boxs) (hn : rowN kk ≤ n) : AV.frzC (P ++ bRow P.length kk ++ Q) n (tRow P.length kk) = some (terms .sub kk) :=
  frzRow_of kk (fun n P Q hn => frzCells kk n P Q hn) n P Q hn
/-- A term whose row lies in boxes. -/
def tAg (b : Nat) (t : T) : AV := if t.kids = [] then .d (t.enc .sub) else .ag false [.d (.int .i64 t.f), .d (.int .i64 t.v), tRow b t.kids]
theorem frz_tAg (t : T) (P Q : Boxs) : AV.frz (P ++ bRow P.length t.kids ++ Q) (tAg P.length t) = some (t.enc .sub) := by
  unfold tAg
  by_cases hk : t.kids = []
  · rw [if_pos hk, frz_d]
  · rw [if_neg hk]
    have h := frzRow_eq t.kids (P ++ bRow P.length t.kids ++ Q).length P Q (by simp [bRow_len]; omega)
    simp only [AV.frz, frzL_cons, frzL_nil, frzC_d, h, frzO_some, Option.bind_some]
    rw [T.enc_eq]
    simp [isCell_int, isCell_sl, terms]
theorem tAg_ag (b : Nat) (t : T) : boxAg [.d (.int .i64 t.f), .d (.int .i64 t.v), tRow b t.kids] (consD (.int .i64 t.f) (consD (.int .i64 t.v) (datas [tRow b t.kids]))) = some (tAg b t) := by
  unfold tAg
  by_cases hk : t.kids = []
  · rw [if_pos hk, T.enc_eq, hk]
    rfl
  · rw [if_neg hk, tRow_cons _ _ hk]
    simp
theorem tAg_cells (b : Nat) (t : T) : (tAg b t).cells = [.d (.int .i64 t.f), .d (.int .i64 t.v), tRow b t.kids] := by
  unfold tAg
  by_cases hk : t.kids = []
  · rw [if_pos hk, T.enc_eq, hk]
    rfl
  · rw [if_neg hk]; rfl
theorem tAg_safe (m b : Nat) (t : T) (h : b + rowN t.kids ≤ m) : (tAg b t).safe m = true := by
  unfold tAg
  split
  · exact safe_d _ _
  · rw [safe_ag]; simp [safes_cons, safes_nil, safe_d, safe_tRow _ _ _ h]
theorem tAg_clr (b : Nat) (t : T) : (tAg b t).clr = tAg b t := by
  unfold tAg
  split
  · simp only [AV.clr, T.clr_enc]
  · simp [AV.clr, AV.clrs, DV.clr, clr_tRow]
theorem markTerm_eq (t : T) (ht : t.inner ≤ 1048576) (k : Nat) (hk : k ≤ 1000000000000) (B0 B1 : Boxs) :
    callX XV 308 [tAg B0.length t, .d (.int .i64 (k : Int))] (B0 ++ bRow B0.length t.kids ++ B1) = some (.d (.int .i64 ((k + 2 * t.inner : Nat) : Int)), B0 ++ bRow B0.length (T.marks k t.kids) ++ B1) := by
  rw [z_call XV _ _ _ v308 rfl xcode_308 rfl]
  have h := markRow_eq t.kids (by rw [cnts_kids]; exact ht) k (by rw [cnts_kids]; omega) B0 (B1 ++ [some [.d (.int .i64 t.f), .d (.int .i64 t.v), tRow B0.length t.kids]])
  rw [cnts_kids, ← List.append_assoc, ← List.append_assoc] at h
  have hc := tAg_cells B0.length t
  have hs := tAg_safe (B0 ++ bRow B0.length t.kids ++ B1).length B0.length t (by simp [bRow_len])
  have hcl := tAg_clr B0.length t
  have hrc := clr_tRow B0.length t.kids
  have hri := isCell_tRow B0.length t.kids
  have hlen : (B0 ++ bRow B0.length (T.marks k t.kids) ++ B1).length = (B0 ++ bRow B0.length t.kids ++ B1).length := by simp [bRow_len, rowN_marks]
  generalize B0 ++ bRow B0.length t.kids ++ B1 = B at h hs hlen ⊢
  generalize B0 ++ bRow B0.length (T.marks k t.kids) ++ B1 = B' at h hlen ⊢
  generalize ((k + 2 * t.inner : Nat) : Int) = Kn at h ⊢
  generalize tAg B0.length t = y at hc hs hcl ⊢
  generalize tRow B0.length t.kids = row at h hc hrc hri ⊢
  have hg : ∀ c : List AV, (B ++ [some c])[B.length]? = some (some c) := fun c => by simp
  have htk : ∀ c : List AV, List.take B.length (B' ++ [some c]) = B' := fun c => by rw [← hlen]; simp
  simp [v308, r308_0, r308_1, r308_2, hc, hs, hcl, hrc, hri, h, isCellA_d, isCell_int, safes_cons, htk]
theorem heldTerm_eq (t : T) (ht : t.inner ≤ 1048576) (k : Nat) (hk : k ≤ 1000000000000) (B0 B1 : Boxs) :
    callX XV 341 [tAg B0.length t, .d (.int .i64 (k : Int))] (B0 ++ bRow B0.length (T.marks k t.kids) ++ B1) = some (.d (.int .i64 ((k + 2 * t.inner : Nat) : Int)), B0 ++ bRow B0.length (T.marks k t.kids) ++ B1) := by
  rw [z_call XV _ _ _ v341 rfl xcode_341 rfl]
  have h := heldRow_eq t.kids (by rw [cnts_kids]; exact ht) k (by rw [cnts_kids]; omega) B0 (B1 ++ [some [.d (.int .i64 t.f), .d (.int .i64 t.v), tRow B0.length t.kids]])
  rw [cnts_kids, ← List.append_assoc] at h
  have hc := tAg_cells B0.length t
  have hs := tAg_safe (B0 ++ bRow B0.length (T.marks k t.kids) ++ B1).length B0.length t (by simp [bRow_len, rowN_marks])
  have hcl := tAg_clr B0.length t
  have hrc := clr_tRow B0.length t.kids
  have hri := isCell_tRow B0.length t.kids
  have hn : ¬ (((k + 2 * t.inner : Nat) : Int) < 0) := by omega
  generalize B0 ++ bRow B0.length (T.marks k t.kids) ++ B1 = B at h hs ⊢
  generalize ((k + 2 * t.inner : Nat) : Int) = Kn at h hn ⊢
  generalize tAg B0.length t = y at hc hs hcl ⊢
  generalize tRow B0.length t.kids = row at h hc hrc hri ⊢
  have hg : ∀ c : List AV, (B ++ [some c])[B.length]? = some (some c) := fun c => by simp
  simp [v341, r341_0, r341_1, r341_2, r341_3, r341_4, hc, hs, hcl, hrc, hri, h, hn, isCellA_d, isCell_int, safes_cons]
end Go.Proofs.Ytanfjghdjkiggaa.VS
