/- Contracts of the program's functions on the evaluator without names, and plain lemmas: XDraw. -/
import Derived.Test.YtcffalienbbohaaXSig
namespace Go.Proofs.Ytcffalienbbohaa.VS
set_option linter.unusedVariables false
set_option linter.unusedSimpArgs false
/-! ## What is drawn from a seed -/
def and255 (x : Int) : Int := IntKind.i64.wrap ((BitVec.ofInt 64 x &&& BitVec.ofInt 64 255).toNat : Int)
def xorI (x y : Int) : Int := IntKind.i64.wrap ((BitVec.ofInt 64 x ^^^ BitVec.ofInt 64 y).toNat : Int)
theorem evInt_and255 (x : Int) : evInt .and .i64 x 255 = some (.int .i64 (and255 x)) := rfl
theorem evInt_xor (x y : Int) : evInt .xor .i64 x y = some (.int .i64 (xorI x y)) := rfl
theorem evInt_shr33 (x : Int) : evInt .shr .i64 x 33 = some (.int .i64 (x.fdiv 8589934592)) := rfl
theorem evInt_shr45 (x : Int) : evInt .shr .i64 x 45 = some (.int .i64 (x.fdiv 35184372088832)) := rfl
theorem and255_in (x : Int) : 0 ≤ and255 x ∧ and255 x ≤ 255 := by
  have h : (BitVec.ofInt 64 x &&& BitVec.ofInt 64 255).toNat ≤ 255 := by
    rw [BitVec.toNat_and]
    exact Nat.le_trans Nat.and_le_right (by decide)
  unfold and255
  generalize (BitVec.ofInt 64 x &&& BitVec.ofInt 64 255).toNat = n at *
  rw [wrap_i64 (by omega) (by omega)]
  omega
def seedC (bs : List Int) (pos st : Int) : List AV := [.d (.sl .sub (bs.map (.int .u8))), .d (.int .i64 pos), .d (.int .i64 st)]
theorem bget_set {B : Boxs} {i : Nat} {c : List AV} (h : i < B.length) : bget (B.set i (some c)) i = some c := by simp [bget, h]
theorem bget_lt {B : Boxs} {i : Nat} {c : List AV} (h : bget B i = some c) : i < B.length := by
  rcases Nat.lt_or_ge i B.length with h1 | h1
  · exact h1
  · simp [bget, List.getElem?_eq_none h1] at h
theorem bget_iff {B : Boxs} {i : Nat} {c : List AV} (h : bget B i = some c) : B[i]? = some (some c) := by
  unfold bget at h
  split at h
  · rename_i c' hc; rw [hc]; simpa using h
  · simp at h
theorem l1Byte_ok (bs : List Int) (hl : bs.length ≤ 1048576) (B : Boxs) (i : Nat) (pos st : Int) (hB : bget B i = some (seedC bs pos st)) (hp : 0 ≤ pos ∧ pos ≤ bs.length) :
    ∃ b pos' st' : Int, (0 ≤ b ∧ b ≤ 255) ∧ (0 ≤ pos' ∧ pos' ≤ bs.length) ∧ callX XV 165 [.ptr i 0] B = some (.d (.int .i64 b), B.set i (some (seedC bs pos' st'))) := by
  have hi := bget_lt hB
  have hnl : ¬ B.length ≤ i := by omega
  have htake : ∀ c : Option (List AV), List.take B.length (B.set i c) = B.set i c := fun c => List.take_of_length_le (by simp)
  have hset : ∀ c : Option (List AV), (B.set i c)[i]? = some c := fun c => by simp [hi]
  rw [z_call XV _ _ _ v165 rfl xcode_165 rfl]
  have hB := bget_iff hB
  unfold seedC at hB ⊢
  by_cases c : pos < bs.length
  · have hw : IntKind.i64.wrap (pos + 1) = pos + 1 := wrap_i64 (by omega) (by omega)
    have hlt : pos.toNat < bs.length := by omega
    refine ⟨_, _, _, ?_, ?_, by simp [v165, r165_0, r165_1, d165_2, d165_3, d165_4, r165_5, r165_6, loadBox, hB, hset, splice, evInt_and255, evInt_xor, evInt_shr33, evInt_shr45, evBin_shr, hnl, c, hp, hlt, hw, cut, isCell_int, isCell_sl, isCellA_d, safe_d, xstoreBox, htake]; exact ⟨rfl, rfl⟩⟩
    · exact and255_in _
    · exact ⟨by omega, by omega⟩
  · refine ⟨_, _, _, ?_, ?_, by simp [v165, r165_0, r165_1, d165_2, d165_3, d165_4, r165_5, r165_6, loadBox, hB, hset, splice, evInt_and255, evInt_xor, evInt_shr33, evInt_shr45, evBin_shr, hnl, c, cut, isCell_int, isCell_sl, isCellA_d, safe_d, xstoreBox, htake]; exact ⟨rfl, rfl⟩⟩
    · exact and255_in _
    · exact hp
/-- A seed's box behind a draw: its place and state may have turned. -/
def Turned (bs : List Int) (i : Nat) (B B' : Boxs) : Prop := ∃ pos st : Int, (0 ≤ pos ∧ pos ≤ bs.length) ∧ B' = B.set i (some (seedC bs pos st))
def SeedAt (bs : List Int) (i : Nat) (B : Boxs) : Prop := ∃ pos st : Int, (0 ≤ pos ∧ pos ≤ bs.length) ∧ bget B i = some (seedC bs pos st)
theorem Turned.at {bs : List Int} {i : Nat} {B B' : Boxs} (hi : i < B.length) (h : Turned bs i B B') : SeedAt bs i B' := by
  obtain ⟨pos, st, hp, rfl⟩ := h
  exact ⟨pos, st, hp, bget_set hi⟩
theorem Turned.len {bs : List Int} {i : Nat} {B B' : Boxs} (h : Turned bs i B B') : B'.length = B.length := by
  obtain ⟨pos, st, hp, rfl⟩ := h; simp
theorem Turned.trans {bs : List Int} {i : Nat} {B B' B'' : Boxs} (h : Turned bs i B B') (h' : Turned bs i B' B'') : Turned bs i B B'' := by
  obtain ⟨pos, st, hp, rfl⟩ := h
  obtain ⟨pos', st', hp', rfl⟩ := h'
  exact ⟨pos', st', hp', by simp⟩
theorem SeedAt.lt {bs : List Int} {i : Nat} {B : Boxs} (h : SeedAt bs i B) : i < B.length := by
  obtain ⟨_, _, _, h⟩ := h; exact bget_lt h
theorem l1Byte_at (bs : List Int) (hl : bs.length ≤ 1048576) (B : Boxs) (i : Nat) (h : SeedAt bs i B) : ∃ (b : Int) (B' : Boxs), (0 ≤ b ∧ b ≤ 255) ∧ Turned bs i B B' ∧ callX XV 165 [.ptr i 0] B = some (.d (.int .i64 b), B') := by
  obtain ⟨pos, st, hp, hB⟩ := h
  obtain ⟨b, pos', st', h1, h2, h3⟩ := l1Byte_ok bs hl B i pos st hB hp
  exact ⟨b, _, h1, ⟨pos', st', h2, rfl⟩, h3⟩
theorem evInt_rem' (x n : Int) (h : n ≠ 0) : evInt .rem .i64 x n = some (.int .i64 (x.tmod n)) := by simp [evInt, h]
theorem l1Below_at (bs : List Int) (hl : bs.length ≤ 1048576) (B : Boxs) (i : Nat) (h : SeedAt bs i B) (n : Int) (hn : 0 < n) (hn2 : n ≤ 256) : ∃ (r : Int) (B' : Boxs), (0 ≤ r ∧ r < n) ∧ Turned bs i B B' ∧ callX XV 159 [.ptr i 0, .d (.int .i64 n)] B = some (.d (.int .i64 r), B') := by
  obtain ⟨b, B', hb, hT, hc⟩ := l1Byte_at bs hl B i h
  have hi := h.lt
  have hlen := hT.len
  have hm : b.tmod n = b % n := Int.tmod_eq_emod_of_nonneg hb.1
  have hr := evInt_rem' b n (by omega)
  have htake : List.take B.length B' = B' := List.take_of_length_le (by omega)
  refine ⟨b % n, B', ⟨Int.emod_nonneg _ (by omega), Int.emod_lt_of_pos _ hn⟩, hT, ?_⟩
  rw [z_call XV _ _ _ v159 rfl xcode_159 rfl]
  have c1 : ¬ n ≤ 0 := by omega
  simp [v159, r159_0, r159_1, r159_2, r159_3, r159_4, r159_5, r159_6, r159_7, r159_8, r159_9, c1, hn2, hc, hr, hm, htake, hi]
theorem l1PickInt_at (bs : List Int) (hl : bs.length ≤ 1048576) (B : Boxs) (i : Nat) (h : SeedAt bs i B) (l : List Int) (h0 : 0 < l.length) (h1 : l.length ≤ 256) : ∃ (j : Nat) (hj : j < l.length) (B' : Boxs), Turned bs i B B' ∧ callX XV 160 [.ptr i 0, .d (.sl .sub (l.map (.int .i64)))] B = some (.d (.int .i64 l[j]), B') := by
  obtain ⟨r, B', hr, hT, hc⟩ := l1Below_at bs hl B i h l.length (by omega) (by omega)
  have hi := h.lt
  have hlen := hT.len
  have htake : List.take B.length B' = B' := List.take_of_length_le (by omega)
  refine ⟨r.toNat, by omega, B', hT, ?_⟩
  rw [z_call XV _ _ _ v160 rfl xcode_160 rfl]
  have hlt : r.toNat < l.length := by omega
  simp [v160, r160_0, r160_1, hc, hr, hlt, htake, hi, cut]
theorem l1Pick_at (bs : List Int) (hl : bs.length ≤ 1048576) (B : Boxs) (i : Nat) (h : SeedAt bs i B) (l : List ByteArray) (h0 : 0 < l.length) (h1 : l.length ≤ 256) : ∃ (j : Nat) (hj : j < l.length) (B' : Boxs), Turned bs i B B' ∧ callX XV 196 [.ptr i 0, .d (.sl .sub (l.map .str))] B = some (.d (.str l[j]), B') := by
  obtain ⟨r, B', hr, hT, hc⟩ := l1Below_at bs hl B i h l.length (by omega) (by omega)
  have hi := h.lt
  have hlen := hT.len
  have htake : List.take B.length B' = B' := List.take_of_length_le (by omega)
  refine ⟨r.toNat, by omega, B', hT, ?_⟩
  rw [z_call XV _ _ _ v196 rfl xcode_196 rfl]
  have hlt : r.toNat < l.length := by omega
  simp [v196, r196_0, r196_1, hc, hr, hlt, htake, hi, cut]
def andM (x : Int) : Int := IntKind.i64.wrap ((BitVec.ofInt 64 x &&& BitVec.ofInt 64 1073741823).toNat : Int)
theorem evInt_andM (x : Int) : evInt .and .i64 x 1073741823 = some (.int .i64 (andM x)) := rfl
def stepN' (bs : List Int) (s : Int) (i : Nat) : Int ⊕ Unit := .inl (andM (IntKind.i64.wrap (IntKind.i64.wrap (IntKind.i64.wrap (s * 131) + IntKind.i64.wrap ((bs[i]?).getD 0)) + 7)))
theorem runN_inl {β : Type} (f : β → Nat → β) : ∀ (k : Nat) (a : β) (i : Nat), ∃ b, runN (fun a i => (.inl (f a i) : β ⊕ Unit)) k a i = .inl b
  | 0, a, i => ⟨a, rfl⟩
  | k + 1, a, i => by simp only [runN]; exact runN_inl f k _ _
theorem l1New_eq (bs : List Int) (hl : bs.length ≤ 1048576) (B : Boxs) : ∃ st : Int, callX XV 156 [.d (.sl .sub (bs.map (.int .u8)))] B = some (.ptr B.length 0, B ++ [some (seedC bs 0 st)]) := by
  have hn : min bs.length 4000 ≤ bs.length := Nat.min_le_left _ _
  have h := loopX_upto (X := XV) (T := XV.lin 156) (L := B.length) (live := [0, 3, 4]) (b := b156_0) (n := min bs.length 4000) (γ := Unit) (st := fun (s : Int) i => ⟨[(0, .d (.sl .sub (bs.map (.int .u8)))), (3, .d (.int .i64 s)), (4, .d (.int .i64 i))], B⟩) (step := stepN' bs)
    (F := fun s => (.exit 0, ⟨[(0, .d (.sl .sub (bs.map (.int .u8)))), (3, .d (.int .i64 s)), (4, .d (.int .i64 (min bs.length 4000 : Nat))), (15, .d (.bool false))], B⟩)) (R := fun _ => (.ret, ⟨[], B⟩))
    (fun s => ⟨by simp, by
      by_cases c : bs.length ≤ 4000
      · rw [Nat.min_eq_left c]; simp [b156_0, r156_0, r156_1, r156_2, r156_3, r156_5, r156_4, r156_6]
      · have c1 : (4000 : Int) < bs.length := by omega
        rw [Nat.min_eq_right (by omega)]; simp [b156_0, r156_0, r156_1, r156_2, r156_3, r156_5, r156_4, r156_6, c1, show ¬ bs.length ≤ 4000 from c]⟩)
    (fun s i hi => by
      have hw := wrap_succ (n := i) (by omega)
      have h1 : i < bs.length := by omega
      have h2 : (i : Int) < 4000 := by omega
      refine ⟨_, by simp [b156_0, r156_0, r156_1, r156_2, r156_3, r156_5, r156_4, r156_6, h1, h2, hw, cut, evInt_andM]; rfl, by simp [xheadOf, safeRegs, h1]⟩)
    (min bs.length 4000) (IntKind.i64.wrap (27064 + bs.length)) 0 ⟨[(0, .d (.sl .sub (bs.map (.int .u8)))), (3, .d (.int .i64 (IntKind.i64.wrap (27064 + bs.length)))), (4, .d (.int .i64 0))], B⟩ (by omega) (by simp [xheadOf, safeRegs])
  obtain ⟨st, hst⟩ := runN_inl (fun (s : Int) (i : Nat) => andM (IntKind.i64.wrap (IntKind.i64.wrap (IntKind.i64.wrap (s * 131) + IntKind.i64.wrap ((bs[i]?).getD 0)) + 7))) (min bs.length 4000) (IntKind.i64.wrap (27064 + bs.length)) 0
  rw [show stepN' bs = fun s i => (.inl (andM (IntKind.i64.wrap (IntKind.i64.wrap (IntKind.i64.wrap (s * 131) + IntKind.i64.wrap ((bs[i]?).getD 0)) + 7))) : Int ⊕ Unit) from rfl, hst] at h
  refine ⟨st, ?_⟩
  rw [z_call XV _ _ _ v156 rfl xcode_156 rfl]
  simp [v156, r156_0, r156_1, r156_2]
  simp only [lin_156] at h
  rw [h]
  simp [r156_6, seedC, isCell_int, isCell_sl, isCellA_d, safe_d, splice, loadBox]
end Go.Proofs.Ytcffalienbbohaa.VS
