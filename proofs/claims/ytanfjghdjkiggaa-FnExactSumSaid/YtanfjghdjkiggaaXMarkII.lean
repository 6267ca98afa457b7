/- Contracts of the program's functions on the evaluator without names, and plain lemmas: XMarkII. -/
import Derived.Test.YtanfjghdjkiggaaXSum3
namespace Go.Proofs.Ytanfjghdjkiggaa.VS
set_option linter.unusedVariables false
set_option linter.unusedSimpArgs false
/-! ## Rows of rows of whole numbers that lie in boxes -/
def ibs (ps : List (List Int)) : Boxs := match ps with
  | [] => []
  | r :: q => bI r ++ ibs q
def iCells (b : Nat) : List (List Int) → List AV
  | [] => []
  | r :: q => tI b r :: iCells (b + (bI r).length) q
def tS (b : Nat) (ps : List (List Int)) : AV := if ps = [] then .d (iss .sub []) else .tsl false (b + (ibs ps).length) 1 ps.length
def bS (b : Nat) (ps : List (List Int)) : Boxs := if ps = [] then [] else ibs ps ++ [some (iCells b ps)]
theorem iCells_len : ∀ (ps : List (List Int)) (b : Nat), (iCells b ps).length = ps.length
  | [], b => rfl
  | r :: q, b => by simp [iCells, iCells_len q]
theorem ibs_append : ∀ (a c : List (List Int)), ibs (a ++ c) = ibs a ++ ibs c
  | [], c => by simp [ibs]
  | r :: q, c => by simp [ibs, ibs_append q c]
theorem iCells_append : ∀ (a c : List (List Int)) (b : Nat), iCells b (a ++ c) = iCells b a ++ iCells (b + (ibs a).length) c
  | [], c, b => by simp [iCells, ibs]
  | r :: q, c, b => by simp [iCells, iCells_append q c, ibs, Nat.add_assoc]
theorem thw_ints (b : Nat) (l : List Int) : thw b (ints .sub l) = ([tI b l], bI l) := by
  cases l with
  | nil => rfl
  | cons x r =>
    have h := thws_ints b (x :: r)
    simp only [List.map_cons] at h
    simp only [ints_eq, thw, List.map_cons, h, tI, bI, isAgD]
    simp [DV.cells]
theorem thws_iss : ∀ (ps : List (List Int)) (b : Nat), thws b (ps.map (ints .sub)) = (iCells b ps, ibs ps)
  | [], b => rfl
  | r :: q, b => by
    rw [List.map_cons]
    simp only [thws, thw_ints]
    rw [thws_iss q]
    rfl
theorem thaw_iss (b : Nat) (ps : List (List Int)) : (iss .sub ps).thaw b = (tS b ps, bS b ps) := by
  cases ps with
  | nil => rfl
  | cons r q =>
    have h := thws_iss (r :: q) b
    simp only [List.map_cons] at h
    show thawOne b (.sl .sub (ints .sub r :: q.map (ints .sub))) = _
    simp only [thawOne, thw, h, tS, bS]
    simp [isAgD, DV.cells]
theorem frzCs (n : Nat) (hn : 0 < n) : ∀ (ps : List (List Int)) (P Q : Boxs), frzL (AV.frzC (P ++ ibs ps ++ Q) n) (iCells P.length ps) = some (ps.map (ints .sub))
  | [], P, Q => rfl
  | r :: q, P, Q => by
    have h1 : AV.frzC (P ++ bI r ++ (ibs q ++ Q)) n (tI P.length r) = some (is r) := frzC_tI _ _ _ _ (fun hr => by simp [bI, hr]) hn
    have h2 := frzCs n hn q (P ++ bI r) Q
    rw [List.length_append] at h2
    have e1 : P ++ bI r ++ (ibs q ++ Q) = P ++ ibs (r :: q) ++ Q := by simp [ibs]
    have e2 : P ++ bI r ++ ibs q ++ Q = P ++ ibs (r :: q) ++ Q := by simp [ibs]
    rw [e1] at h1; rw [e2] at h2
    simp only [iCells, frzL_cons, h1, h2, frzO_some, List.map_cons]
    rfl
theorem flat_iss (g : Tag) (ps : List (List Int)) : flat (ps.map (ints g)) = ps.map (ints g) := by
  induction ps with
  | nil => rfl
  | cons r q ih => simp [flat, cells_sl] at ih ⊢; exact ih
theorem frz_tS (ps : List (List Int)) (P Q : Boxs) : AV.frz (P ++ bS P.length ps ++ Q) (tS P.length ps) = some (iss .sub ps) := by
  by_cases hp : ps = []
  · subst hp; simp [tS, bS, AV.frz, frzC_d]
  · have hb : P ++ bS P.length ps ++ Q = P ++ ibs ps ++ (some (iCells P.length ps) :: Q) := by simp [bS, hp]
    have hg : bget (P ++ ibs ps ++ (some (iCells P.length ps) :: Q)) (P.length + (ibs ps).length) = some (iCells P.length ps) := by
      unfold bget; rw [← List.length_append, get_at]
    rw [hb]
    have hne : P ++ ibs ps ++ (some (iCells P.length ps) :: Q) ≠ [] := by simp
    unfold tS
    rw [if_neg hp]
    by_cases h1 : ∃ m, (P ++ ibs ps ++ (some (iCells P.length ps) :: Q)).length = m + 2
    · obtain ⟨m, hm⟩ := h1
      simp only [AV.frz]
      rw [hm]
      simp only [AV.frzC]
      rw [hg, Option.bind_some, frzCs (m + 1) (by omega) ps P _, Option.bind_some, if_pos (by simp)]
      have hch := chunks_row (ps.map (ints .sub)) (issEncs_ok .sub ps)
      rw [List.length_map, flat_iss] at hch
      rw [hch]; rfl
    · -- all rows are empty
      have hP : P = [] ∧ ibs ps = [] ∧ Q = [] := by
        have : P.length + ((ibs ps).length + (Q.length + 1)) < 2 := by
          apply Classical.byContradiction; intro hh
          exact h1 ⟨P.length + ((ibs ps).length + (Q.length + 1)) - 2, by simp; omega⟩
        exact ⟨List.length_eq_zero_iff.1 (by omega), List.length_eq_zero_iff.1 (by omega), List.length_eq_zero_iff.1 (by omega)⟩
      obtain ⟨rfl, h2, rfl⟩ := hP
      have hall : ∀ (qs : List (List Int)) (b n : Nat) (B : Boxs), ibs qs = [] → frzL (AV.frzC B n) (iCells b qs) = some (qs.map (ints .sub)) := by
        intro qs
        induction qs with
        | nil => intros; rfl
        | cons r q ih =>
          intro b n B hq
          have hr : r = [] := by
            apply Classical.byContradiction; intro hr
            simp [ibs, bI, hr] at hq
          subst hr
          have := ih b n B (by simpa [ibs, bI] using hq)
          simp only [iCells, frzL_cons, tI, if_true, frzC_d, frzO_some]
          simp only [bI, if_true, List.length_nil, Nat.add_zero]
          rw [this]; rfl
      simp only [AV.frz, h2, List.nil_append, List.append_nil, List.length_cons, List.length_nil, Nat.zero_add, AV.frzC]
      rw [h2] at hg
      simp only [List.nil_append, List.append_nil, List.length_nil, Nat.add_zero] at hg
      rw [hg, Option.bind_some, hall ps _ _ _ h2, Option.bind_some, if_pos (by simp)]
      have hch := chunks_row (ps.map (ints .sub)) (issEncs_ok .sub ps)
      rw [List.length_map, flat_iss] at hch
      rw [hch]; rfl
theorem clr_tS (b : Nat) (ps : List (List Int)) : (tS b ps).clr = tS b ps := by
  unfold tS; split
  · simp [AV.clr, DV.clr, DV.clrs]
  · simp only [AV.clr]
/-! ### Marks -/
def mkS : List (List Int) → Nat → List (List Int)
  | [], _ => []
  | r :: q, k => mk r.length k :: mkS q (k + r.length)
def cntS : List (List Int) → Nat
  | [] => 0
  | r :: q => r.length + cntS q
theorem mkS_len : ∀ (ps : List (List Int)) (k : Nat), (mkS ps k).length = ps.length
  | [], k => rfl
  | r :: q, k => by simp [mkS, mkS_len q]
theorem mkS_snoc : ∀ (ps : List (List Int)) (k : Nat) (r : List Int), mkS (ps ++ [r]) k = mkS ps k ++ [mk r.length (k + cntS ps)]
  | [], k, r => by simp [mkS, cntS]
  | a :: q, k, r => by simp [mkS, mkS_snoc q, cntS, Nat.add_assoc]
theorem bI_same (l l' : List Int) (h : l.length = l'.length) : (bI l).length = (bI l').length := by unfold bI; cases l <;> cases l' <;> simp at h <;> simp
theorem mkS_ibs : ∀ (ps : List (List Int)) (k : Nat), (ibs (mkS ps k)).length = (ibs ps).length
  | [], k => rfl
  | r :: q, k => by simp [mkS, ibs, mkS_ibs q, bI_same (mk r.length k) r (mk_len _ _)]
theorem cntS_snoc : ∀ (ps : List (List Int)) (r : List Int), cntS (ps ++ [r]) = cntS ps + r.length
  | [], r => by simp [cntS]
  | a :: q, r => by simp [cntS, cntS_snoc q, Nat.add_assoc]
theorem cntS_append : ∀ (a c : List (List Int)), cntS (a ++ c) = cntS a + cntS c
  | [], c => by simp [cntS]
  | r :: q, c => by simp [cntS, cntS_append q c, Nat.add_assoc]
def upS (ps : List (List Int)) (k i : Nat) : List (List Int) := mkS (ps.take i) k ++ ps.drop i
theorem upS_zero (ps : List (List Int)) (k : Nat) : upS ps k 0 = ps := by simp [upS, mkS]
theorem upS_all (ps : List (List Int)) (k : Nat) : upS ps k ps.length = mkS ps k := by simp [upS]
theorem upS_ibs (ps : List (List Int)) (k i : Nat) : (ibs (upS ps k i)).length = (ibs ps).length := by
  unfold upS; rw [ibs_append, List.length_append, mkS_ibs, ← List.length_append, ← ibs_append, List.take_append_drop]
theorem rTake (ps : List (List Int)) (i : Nat) (hi : i < ps.length) : ps.take (i + 1) = ps.take i ++ [rAt ps i] := by
  rw [← rAt_lt hi, List.take_append_getElem hi]
theorem markIss_eq (ps : List (List Int)) (k : Nat) (hl : ps.length ≤ 1048576) (hk : k + cntS ps ≤ 4611686018427387904) (B0 B1 : Boxs) :
    callX XV 352 [tS B0.length ps, .d (.int .i64 k)] (B0 ++ bS B0.length ps ++ B1) = some (.d (.int .i64 ((k + cntS ps : Nat) : Int)), B0 ++ (if ps = [] then [] else ibs (mkS ps k) ++ [some (iCells B0.length ps)]) ++ B1) := by
  rw [z_call XV _ _ _ v352 rfl xcode_352 rfl]
  by_cases hp : ps = []
  · subst hp
    have h := loopX_upto (X := XV) (T := []) (L := (B0 ++ B1).length) (live := [0, 1, 5]) (b := b352_0) (n := 0) (β := Unit) (γ := Unit) (st := fun _ i => ⟨[(0, .d (.sl .sub [])), (1, .d (.int .i64 k)), (5, .d (.int .i64 i))], B0 ++ B1⟩) (step := fun _ _ => .inl ())
      (F := fun _ => (.exit 0, ⟨[(0, .d (.sl .sub [])), (1, .d (.int .i64 k)), (5, .d (.int .i64 0)), (9, .d (.bool false))], B0 ++ B1⟩)) (R := fun _ => (.ret, ⟨[], []⟩)) (fun a => ⟨by simp, by simp [b352_0, r352_0, r352_1, r352_2, r352_4, r352_3, r352_5]⟩) (fun a i hi => by omega) 0 () 0 ⟨[(0, .d (.sl .sub [])), (1, .d (.int .i64 k)), (5, .d (.int .i64 0))], B0 ++ B1⟩ rfl (head_cut (e := []) (by simp) (by simp [safeRegs]) rfl (by simp))
    simp only [runN, List.length_append] at h
    have htk : List.take (B0.length + B1.length) (B0 ++ B1) = B0 ++ B1 := List.take_of_length_le (by simp)
    simp [tS, bS, cntS, iss, v352, r352_0, r352_1, r352_2, r352_4, r352_3, r352_5]
    rw [h]
    simp [htk, v352, r352_0, r352_1, r352_2, r352_4, r352_3, r352_5]
  · have hlen : ∀ i, (B0 ++ ibs (upS ps k i)).length = B0.length + (ibs ps).length := fun i => by rw [List.length_append, upS_ibs]
    have h := loopX_upto (X := XV) (T := []) (L := B0.length + (ibs ps).length + (B1.length + 1)) (live := [0, 1, 5]) (b := b352_0) (n := ps.length) (γ := Unit) (st := fun (_ : Unit) i => ⟨[(0, .tsl false (B0.length + (ibs ps).length) 1 ps.length), (1, .d (.int .i64 ((k + cntS (ps.take i) : Nat) : Int))), (5, .d (.int .i64 i))], (B0 ++ ibs (upS ps k i)) ++ some (iCells B0.length ps) :: B1⟩) (step := fun _ _ => .inl ())
      (F := fun _ => (.exit 0, ⟨[(0, .tsl false (B0.length + (ibs ps).length) 1 ps.length), (1, .d (.int .i64 ((k + cntS ps : Nat) : Int))), (5, .d (.int .i64 ps.length)), (9, .d (.bool false))], (B0 ++ ibs (upS ps k ps.length)) ++ some (iCells B0.length ps) :: B1⟩)) (R := fun _ => (.ret, ⟨[], []⟩))
      (fun _ => ⟨by simp, by rw [List.take_length]; generalize ((k + cntS ps : Nat) : Int) = K; simp [b352_0, r352_0, r352_1, r352_2, r352_4, r352_3, r352_5]⟩)
      (fun _ i hi => by
        have hw := wrap_succ (n := i) (by omega)
        have hspl : ps = ps.take i ++ rAt ps i :: ps.drop (i + 1) := by
          rw [← rAt_lt hi, ← List.drop_eq_getElem_cons hi, List.take_append_drop]
        have hcs := cntS_snoc (ps.take i) (rAt ps i)
        rw [← rTake ps i hi] at hcs
        have hcl : cntS (ps.take (i + 1)) ≤ cntS ps := by
          have := cntS_append (ps.take (i + 1)) (ps.drop (i + 1)); rw [List.take_append_drop] at this; omega
        have hm := markInts_eq (rAt ps i) (k + cntS (ps.take i)) (by omega) (B0 ++ ibs (mkS (ps.take i) k)) (ibs (ps.drop (i + 1)) ++ some (iCells B0.length ps) :: B1)
        rw [List.length_append, mkS_ibs] at hm
        have e1 : B0 ++ ibs (mkS (ps.take i) k) ++ bI (rAt ps i) ++ (ibs (ps.drop (i + 1)) ++ some (iCells B0.length ps) :: B1) = (B0 ++ ibs (upS ps k i)) ++ some (iCells B0.length ps) :: B1 := by
          unfold upS; rw [ibs_append, List.drop_eq_getElem_cons hi, rAt_lt hi]; simp [ibs]
        have e2 : B0 ++ ibs (mkS (ps.take i) k) ++ bI (mk (rAt ps i).length (k + cntS (ps.take i))) ++ (ibs (ps.drop (i + 1)) ++ some (iCells B0.length ps) :: B1) = (B0 ++ ibs (upS ps k (i + 1))) ++ some (iCells B0.length ps) :: B1 := by
          unfold upS; rw [ibs_append, rTake ps i hi, mkS_snoc, ibs_append]; simp [ibs]
        rw [e1, e2, show k + cntS (ps.take i) + (rAt ps i).length = k + cntS (ps.take (i + 1)) by omega] at hm
        have hcell : (iCells B0.length ps)[i]? = some (tI (B0.length + (ibs (ps.take i)).length) (rAt ps i)) := by
          rw [hspl, iCells_append]
          have hti : (ps.take i).length = i := by simp; omega
          rw [← hspl, List.getElem?_append_right (by rw [iCells_len]; omega), iCells_len, hti, Nat.sub_self]
          simp [iCells]
        have hcl2 := clr_tI (B0.length + (ibs (ps.take i)).length) (rAt ps i)
        have hl1 := hlen i
        have hl2 := hlen (i + 1)
        generalize tI (B0.length + (ibs (ps.take i)).length) (rAt ps i) = y at hm hcell hcl2
        generalize iCells B0.length ps = cs at hm hcell ⊢
        generalize ((k + cntS (ps.take i) : Nat) : Int) = K0 at hm ⊢
        generalize hK1 : ((k + cntS (ps.take (i + 1)) : Nat) : Int) = K1 at hm
        generalize B0 ++ ibs (upS ps k i) = Bi at hm hl1 ⊢
        generalize hBj : B0 ++ ibs (upS ps k (i + 1)) = Bj at hm hl2
        rw [← hl1]
        have hget : ∀ (c : List AV) (r : Boxs), (Bi ++ some c :: r)[Bi.length]? = some (some c) := fun c r => get_at Bi (some c) r
        exact ⟨⟨[(0, .tsl false Bi.length 1 ps.length), (1, .d (.int .i64 K1)), (5, .d (.int .i64 ((i + 1 : Nat) : Int)))], Bj ++ some cs :: B1⟩, by
          simp [b352_0, r352_0, r352_1, r352_2, r352_4, r352_3, r352_5, hi, hw, hget, hcell, hcl2, hm], head_cut (e := []) (by rw [← hK1, hl1]; rfl) (by simp [safeRegs, safe_tsl]) (by rw [hBj, List.length_append, hl2, hl1]; rfl) (by rw [hBj]; simp)⟩)
      ps.length () 0 ⟨[(0, .tsl false (B0.length + (ibs ps).length) 1 ps.length), (1, .d (.int .i64 (k : Int))), (5, .d (.int .i64 0))], (B0 ++ ibs ps) ++ some (iCells B0.length ps) :: B1⟩ (by omega) (head_cut (e := []) (by simp [cntS]) (by simp [safeRegs, safe_tsl]) (by rw [upS_zero]; simp; omega) (by simp [upS_zero]))
    rw [run_on, upS_all] at h
    rw [if_neg hp]
    have hap : ∀ (X : Boxs) (c : List AV), B0 ++ (X ++ [some c]) ++ B1 = (B0 ++ X) ++ some c :: B1 := fun X c => by simp
    have hln2 : ((B0 ++ ibs ps) ++ some (iCells B0.length ps) :: B1).length = B0.length + (ibs ps).length + (B1.length + 1) := by simp; omega
    have hln3 : ((B0 ++ ibs (mkS ps k)) ++ some (iCells B0.length ps) :: B1).length = B0.length + (ibs ps).length + (B1.length + 1) := by simp [mkS_ibs]; omega
    simp only [tS, bS, if_neg hp]
    rw [hap, hap]
    generalize hQ : (B0 ++ ibs ps) ++ some (iCells B0.length ps) :: B1 = Q at h hln2 ⊢
    generalize hQ' : (B0 ++ ibs (mkS ps k)) ++ some (iCells B0.length ps) :: B1 = Q' at h hln3 ⊢
    generalize ((k + cntS ps : Nat) : Int) = Kn at h ⊢
    rw [← hln2] at h
    have htk : List.take Q.length Q' = Q' := List.take_of_length_le (by omega)
    simp [v352, r352_0, r352_1, r352_2, r352_4, r352_3, r352_5]
    rw [h]
    simp [v352, r352_0, r352_1, r352_2, r352_4, r352_3, r352_5, htk]
end Go.Proofs.Ytanfjghdjkiggaa.VS
