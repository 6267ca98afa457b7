/- Contracts of the program's functions on the evaluator without names, and plain lemmas: XSubOk. -/
import Derived.Test.YtpmjooeehnmkcaaXBind
namespace Go.Proofs.Ytpmjooeehnmkcaa.VS
set_option linter.unusedVariables false
set_option linter.unusedSimpArgs false
def cnt (t : T) (v : Int) : Int := IntKind.i64.wrap (T.sum (wC v) t)
def hasV (v : Int) (b : Bd) : Bool := decide (0 < cnt b.t v)
def bad1 (l : List SymL) (s : List Bd) (i : Nat) : Bool := (!inB (bAt s i).v 0 99 || (decide (0 < i) && decide ((bAt s i).v ≤ (bAt s (i - 1)).v))) || !termOkB l (bAt s i).t
def someV (s : List Bd) (i : Nat) : Bool := (findAt (fun j => hasV (bAt s i).v (bAt s j)) s.length 0).isSome
def badB (l : List SymL) (s : List Bd) (i : Nat) : Bool := bad1 l s i || someV s i
def subOkB (l : List SymL) (s : List Bd) : Bool := (findAt (badB l s) s.length 0).isNone
theorem stepF_t {q : Nat → Bool} {i : Nat} (h : q i = true) : stepF q () i = .inr i := by unfold stepF; rw [if_pos h]
theorem stepF_f {q : Nat → Bool} {i : Nat} (h : q i = false) : stepF q () i = .inl () := by unfold stepF; rw [if_neg (by simp [h])]
theorem loop67 (l : List SymL) (s : List Bd) (hl : s.length ≤ 1048576) (hb : ∀ i, i < s.length → (bAt s i).t.inner ≤ 1048576) (i : Nat) (hi : i < s.length) :
    loopX XV [] 0 [0, 1, 5, 6] b67_1 ⟨[(0, .d (sg l)), (1, .d (binds .sub s)), (5, .d (.int .i64 i)), (6, .d (.int .i64 0))], []⟩ =
      some (if someV s i then (.ret, ⟨[(4, .d (.bool false))], []⟩) else (.exit 2, ⟨[(0, .d (sg l)), (1, .d (binds .sub s)), (5, .d (.int .i64 i)), (6, .d (.int .i64 s.length)), (51, .d (.bool false))], []⟩)) := by
  have h := loopX_upto (X := XV) (T := []) (L := 0) (live := [0, 1, 5, 6]) (b := b67_1) (n := s.length) (γ := Nat) (st := fun (_ : Unit) j => ⟨[(0, .d (sg l)), (1, .d (binds .sub s)), (5, .d (.int .i64 i)), (6, .d (.int .i64 j))], []⟩) (step := stepF fun j => hasV (bAt s i).v (bAt s j))
    (F := fun _ => (.exit 2, ⟨[(0, .d (sg l)), (1, .d (binds .sub s)), (5, .d (.int .i64 i)), (6, .d (.int .i64 s.length)), (51, .d (.bool false))], []⟩)) (R := fun _ => (.ret, ⟨[(4, .d (.bool false))], []⟩))
    (fun _ => ⟨by simp, by simp [b67_1, r67_0, r67_1, r67_2, d67_4, r67_5, r67_6, r67_7, d67_9, r67_10, r67_8, r67_3, r67_11]⟩)
    (fun _ j hj => by
      have hw := wrap_succ (n := j) (by omega)
      have hc := specCount_eq (bAt s j).t (hb j hj) (bAt s i).v
      change _ = some (AV.d (.int .i64 (cnt (bAt s j).t (bAt s i).v)), []) at hc
      by_cases hm : 0 < cnt (bAt s j).t (bAt s i).v
      · rw [stepF_t (q := fun j => hasV (bAt s i).v (bAt s j)) (i := j) (by simp [hasV, hm])]
        exact ⟨by simp, by simp [b67_1, r67_0, r67_1, r67_2, d67_4, r67_5, r67_6, r67_7, d67_9, r67_10, r67_8, r67_3, r67_11, hi, hj, hw, cut, bAt_lt hi, bAt_lt hj, hc, hm]⟩
      · rw [stepF_f (q := fun j => hasV (bAt s i).v (bAt s j)) (i := j) (by simp [hasV, hm])]
        exact ⟨_, by simp [b67_1, r67_0, r67_1, r67_2, d67_4, r67_5, r67_6, r67_7, d67_9, r67_10, r67_8, r67_3, r67_11, hi, hj, hw, cut, bAt_lt hi, bAt_lt hj, hc, hm]; rfl, by simp [xheadOf, safeRegs]⟩)
    s.length () 0 ⟨[(0, .d (sg l)), (1, .d (binds .sub s)), (5, .d (.int .i64 i)), (6, .d (.int .i64 0))], []⟩ (by omega) (by simp [xheadOf, safeRegs])
  rw [runF] at h
  rw [h]
  unfold someV
  cases hq : findAt (fun j => hasV (bAt s i).v (bAt s j)) s.length 0 <;> simp
theorem specSubOk_eq (l : List SymL) (s : List Bd) (hs : l.length ≤ 1048576) (hn : ∀ i, i < l.length → (symAt l i).name.size ≤ 1048576) (hl : s.length ≤ 1048576) (hb : ∀ i, i < s.length → (bAt s i).t.inner ≤ 1048576) :
    callX XV 67 [.d (sg l), .d (binds .sub s)] [] = some (.d (.bool (subOkB l s)), []) := by
  rw [z_call XV _ _ _ v67 rfl xcode_67 rfl]
  have h := loopX_upto (X := XV) (T := []) (L := 0) (live := [0, 1, 5]) (b := b67_0) (n := s.length) (γ := Nat) (st := fun (_ : Unit) i => ⟨[(0, .d (sg l)), (1, .d (binds .sub s)), (5, .d (.int .i64 i))], []⟩) (step := stepF (badB l s))
    (F := fun _ => (.exit 0, ⟨[(0, .d (sg l)), (1, .d (binds .sub s)), (5, .d (.int .i64 s.length)), (10, .d (.bool false))], []⟩)) (R := fun _ => (.ret, ⟨[(4, .d (.bool false))], []⟩))
    (fun _ => ⟨by simp, by simp [b67_0, r67_0, r67_1, r67_2, d67_4, r67_5, r67_6, r67_7, d67_9, r67_10, r67_8, r67_3, r67_11]⟩)
    (fun _ i hi => by
      have hw := wrap_succ (n := i) (by omega)
      have n1 := l1In_eq (bAt s i).v 0 99
      have n2 := specTermOk_eq l hs hn (bAt s i).t (hb i hi)
      have hin := loop67 l s hl hb i hi
      have hi1 : (i : Int) - 1 = ((i - 1 : Nat) : Int) ∨ i = 0 := by omega
      cases c1 : inB (bAt s i).v 0 99 with
      | false =>
        rw [c1] at n1
        rw [stepF_t (by simp [badB, bad1, c1])]
        exact ⟨by simp, by simp [b67_0, r67_2, d67_4, r67_5, hi, hw, cut, bAt_lt hi, n1]⟩
      | true =>
        rw [c1] at n1
        by_cases c0 : 0 < i
        · have hw1 : IntKind.i64.wrap ((i : Int) - 1) = ((i - 1 : Nat) : Int) := by rw [wrap_i64 (by omega) (by omega)]; omega
          have hp : i - 1 < s.length := by omega
          have c0' : (i : Int) > 0 := by omega
          by_cases c2 : (bAt s i).v ≤ (bAt s (i - 1)).v
          · rw [stepF_t (by simp [badB, bad1, c1, c0, c2])]
            exact ⟨by simp, by simp [b67_0, r67_2, d67_4, r67_5, hi, hw, cut, bAt_lt hi, n1, c0, hw1, hp, bAt_lt hp, c2]⟩
          · cases c3 : termOkB l (bAt s i).t with
            | false =>
              rw [c3] at n2
              rw [stepF_t (by simp [badB, bad1, c3])]
              exact ⟨by simp, by simp [b67_0, r67_2, d67_4, r67_5, hi, hw, cut, bAt_lt hi, n1, c0, hw1, hp, bAt_lt hp, c2, n2]⟩
            | true =>
              rw [c3] at n2
              cases c4 : someV s i with
              | true =>
                rw [c4] at hin
                rw [stepF_t (by simp [badB, c4])]
                exact ⟨by simp, by simp [b67_0, r67_2, d67_4, r67_5, r67_6, r67_3, hi, hw, cut, bAt_lt hi, n1, c0, hw1, hp, bAt_lt hp, c2, n2, hin]⟩
              | false =>
                rw [c4] at hin
                rw [stepF_f (by simp [badB, bad1, c1, c2, c3, c4])]
                refine ⟨_, by simp [b67_0, r67_2, d67_4, r67_5, r67_6, r67_3, hi, hw, cut, bAt_lt hi, n1, c0, hw1, hp, bAt_lt hp, c2, n2, hin]; rfl, by simp [xheadOf, safeRegs]⟩
        · cases c3 : termOkB l (bAt s i).t with
          | false =>
            rw [c3] at n2
            rw [stepF_t (by simp [badB, bad1, c3])]
            exact ⟨by simp, by simp [b67_0, r67_2, d67_4, r67_5, hi, hw, cut, bAt_lt hi, n1, c0, n2]⟩
          | true =>
            rw [c3] at n2
            cases c4 : someV s i with
            | true =>
              rw [c4] at hin
              rw [stepF_t (by simp [badB, c4])]
              exact ⟨by simp, by simp [b67_0, r67_2, d67_4, r67_5, r67_6, r67_3, hi, hw, cut, bAt_lt hi, n1, c0, n2, hin]⟩
            | false =>
              rw [c4] at hin
              rw [stepF_f (by simp [badB, bad1, c0, c1, c3, c4])]
              refine ⟨_, by simp [b67_0, r67_2, d67_4, r67_5, r67_6, r67_3, hi, hw, cut, bAt_lt hi, n1, c0, n2, hin]; rfl, by simp [xheadOf, safeRegs]⟩)
    s.length () 0 ⟨[(0, .d (sg l)), (1, .d (binds .sub s)), (5, .d (.int .i64 0))], []⟩ (by omega) (by simp [xheadOf, safeRegs])
  rw [runF] at h
  simp [v67, r67_0, r67_1, r67_2, d67_4, r67_5, r67_6, r67_7, d67_9, r67_10, r67_8, r67_3, r67_11]
  rw [h]
  unfold subOkB
  cases hq : findAt (badB l s) s.length 0 <;> simp [v67, r67_0, r67_1, r67_2, d67_4, r67_5, r67_6, r67_7, d67_9, r67_10, r67_8, r67_3, r67_11]
def bcells (b : Bd) : List AV := [.d (.int .i64 b.v), .d (.int .i64 b.t.f), .d (.int .i64 b.t.v), .d (terms .sub b.t.kids)]
theorem sub1_eq (b c : Bd) (hb : b.t.inner ≤ 1048576) : callX XV 71 [.d (c.enc .sub), .ptr 0 0] [some (bcells b)] = some (.d (.bool (hasV c.v b)), [some (bcells b)]) := by
  rw [z_call XV _ _ _ v71 rfl xcode_71 rfl]
  have hc := implCount_eq b.t hb c.v
  change _ = some (AV.d (.int .i64 (cnt b.t c.v)), []) at hc
  simp [v71, r71_0, r71_1, hc, hasV, bcells]
theorem indexFuncB_eq (l : List Bd) (fk : Nat) (caps : List AV) (B : Boxs) (P : Bd → Bool) (hl : l.length ≤ 1048576) (hs : AV.safe.safes B.length caps = true) (hcc : caps.map AV.clr = caps) (hk : ¬ 0 ∈ XV.lin fk)
    (hf : ∀ s, s ∈ l → callX XV fk (.d (s.enc .sub) :: caps) B = some (.d (.bool (P s)), B)) :
    callX XV 76 [.d (binds .sub l), .fn fk caps] B = some (.d (.int .i64 (orNeg (findAt (fun i => P (bAt l i)) l.length 0))), B) := by
  rw [z_call XV _ _ _ v76 rfl xcode_76 rfl]
  have h := loopX_upto (X := XV) (T := XV.lin 76) (L := B.length) (live := [0, 1, 7, 8]) (b := b76_0) (n := l.length) (st := fun (_ : Unit) i => ⟨[(0, .d (binds .sub l)), (1, .fn fk caps), (7, .d (.int .i64 l.length)), (8, .d (.int .i64 i))], B⟩) (step := stepF fun i => P (bAt l i))
    (F := fun _ => (.exit 0, ⟨[(0, .d (binds .sub l)), (1, .fn fk caps), (7, .d (.int .i64 l.length)), (8, .d (.int .i64 l.length)), (9, .d (.bool false))], B⟩)) (R := fun (j : Nat) => (.ret, ⟨[(4, .d (.int .i64 j))], B⟩))
    (fun a => ⟨by simp, by simp [b76_0, r76_0, r76_1, r76_2, r76_3, r76_4, r76_5, r76_6, r76_7, hcc]⟩)
    (fun a i hi => by
      have hw := wrap_succ (n := i) (by omega)
      have hc := hf _ (bAt_mem hi)
      unfold stepF
      by_cases hq : P (bAt l i) = true
      · rw [if_pos hq]; rw [hq] at hc
        exact ⟨by simp, by simp [b76_0, r76_0, r76_1, r76_2, r76_3, r76_4, r76_5, r76_6, r76_7, hi, hw, cut, bAt_lt hi, hc, hcc, hk]⟩
      · rw [if_neg hq]
        have hq' : P (bAt l i) = false := by simpa using hq
        rw [hq'] at hc
        exact ⟨_, by simp [b76_0, r76_0, r76_1, r76_2, r76_3, r76_4, r76_5, r76_6, r76_7, hi, hw, cut, bAt_lt hi, hc, hcc, hk]; rfl, by simp [xheadOf, safeRegs, hs]⟩)
    l.length () 0 ⟨[(0, .d (binds .sub l)), (1, .fn fk caps), (7, .d (.int .i64 l.length)), (8, .d (.int .i64 0))], B⟩ (by omega) (by simp [xheadOf, safeRegs, hs])
  rw [runF] at h
  simp only [lin_76] at h
  simp [v76, r76_0, r76_1, r76_2, r76_3, r76_4, r76_5, r76_6, r76_7, hcc]
  rw [h]
  cases hq : findAt (fun i => P (bAt l i)) l.length 0 <;> simp [orNeg, v76, r76_0, r76_1, r76_2, r76_3, r76_4, r76_5, r76_6, r76_7]
theorem containsFuncB_eq (l : List Bd) (fk : Nat) (caps : List AV) (B : Boxs) (P : Bd → Bool) (hl : l.length ≤ 1048576) (hs : AV.safe.safes B.length caps = true) (hcc : caps.map AV.clr = caps) (hk : ¬ 0 ∈ XV.lin fk)
    (hf : ∀ s, s ∈ l → callX XV fk (.d (s.enc .sub) :: caps) B = some (.d (.bool (P s)), B)) :
    callX XV 72 [.d (binds .sub l), .fn fk caps] B = some (.d (.bool (findAt (fun i => P (bAt l i)) l.length 0).isSome), B) := by
  rw [z_call XV _ _ _ v72 rfl xcode_72 rfl]
  have h := indexFuncB_eq l fk caps B P hl hs hcc hk hf
  cases hq : findAt (fun i => P (bAt l i)) l.length 0 with
  | none => rw [hq] at h; simp [v72, r72_0, r72_1, h, orNeg, hcc]
  | some j => rw [hq] at h; simp [v72, r72_0, r72_1, h, orNeg, hcc]
theorem findAt_none (q : Nat → Bool) : ∀ (k i : Nat), findAt q k i = none ↔ ∀ j, i ≤ j → j < i + k → q j = false
  | 0, i => by simp [findAt]; intro j h h'; omega
  | k + 1, i => by
    simp only [findAt]
    by_cases h : q i = true
    · simp only [h, if_true]
      constructor
      · intro h'; cases h'
      · intro h'; have := h' i (Nat.le_refl _) (by omega); rw [h] at this; cases this
    · have h' : q i = false := by simpa using h
      simp only [h']
      rw [if_neg (by simp), findAt_none q k (i + 1)]
      constructor
      · intro hj j h1 h2
        rcases Nat.eq_or_lt_of_le h1 with rfl | h3
        · exact h'
        · exact hj j h3 (by omega)
      · intro hj j h1 h2; exact hj j (by omega) (by omega)
def someW (s : List Bd) (i : Nat) : Bool := (findAt (fun j => hasV (bAt s j).v (bAt s i)) s.length 0).isSome
def badW (l : List SymL) (s : List Bd) (i : Nat) : Bool := bad1 l s i || someW s i
theorem isSome_false {q : Nat → Bool} {n : Nat} : (findAt q n 0).isSome = false ↔ ∀ j, j < n → q j = false := by
  have h := findAt_none q n 0
  cases hq : findAt q n 0 with
  | none => simp only [Option.isSome_none, true_iff]; intro j hj; exact h.1 hq j (Nat.zero_le _) (by omega)
  | some k =>
    simp only [Option.isSome_some]
    constructor
    · intro h'; cases h'
    · intro h'
      have := h.2 (fun j _ hj => h' j (by omega))
      rw [hq] at this; cases this
theorem subOk_W (l : List SymL) (s : List Bd) : subOkB l s = (findAt (badW l s) s.length 0).isNone := by
  have key : (findAt (badB l s) s.length 0).isSome = false ↔ (findAt (badW l s) s.length 0).isSome = false := by
    rw [isSome_false, isSome_false]
    simp only [badB, badW, someV, someW, Bool.or_eq_false_iff, isSome_false]
    constructor
    · intro h i hi; exact ⟨(h i hi).1, fun j hj => (h j hj).2 i hi⟩
    · intro h i hi; exact ⟨(h i hi).1, fun j hj => (h j hj).2 i hi⟩
  unfold subOkB
  cases h1 : findAt (badB l s) s.length 0 <;> cases h2 : findAt (badW l s) s.length 0 <;> simp [h1, h2] at key ⊢
theorem implSubOk_eq (l : List SymL) (s : List Bd) (hs : l.length ≤ 1048576) (hn : ∀ i, i < l.length → (symAt l i).name.size ≤ 1048576) (hl : s.length ≤ 1048576) (hb : ∀ i, i < s.length → (bAt s i).t.inner ≤ 1048576) :
    callX XV 68 [.d (sg l), .d (binds .sub s)] [] = some (.d (.bool (subOkB l s)), []) := by
  rw [z_call XV _ _ _ v68 rfl xcode_68 rfl, subOk_W]
  have h := loopX_upto (X := XV) (T := XV.lin 68) (L := 0) (live := [0, 1, 7, 8, 9]) (b := b68_0) (n := s.length) (γ := Nat) (st := fun (_ : Unit) i => ⟨[(0, .d (sg l)), (1, .d (binds .sub s)), (7, .d (binds .sub s)), (8, .d (.int .i64 s.length)), (9, .d (.int .i64 i))], []⟩) (step := stepF (badW l s))
    (F := fun _ => (.exit 0, ⟨[(0, .d (sg l)), (1, .d (binds .sub s)), (7, .d (binds .sub s)), (8, .d (.int .i64 s.length)), (9, .d (.int .i64 s.length)), (10, .d (.bool false))], []⟩)) (R := fun i => (.ret, ⟨[(4, .d (.bool false))], [some (bcells (bAt s i))]⟩))
    (fun _ => ⟨by simp, by simp [b68_0, r68_0, r68_1, r68_2, r68_3, d68_4, r68_5, r68_6, r68_7, r68_8, r68_9]⟩)
    (fun _ i hi => by
      have hw := wrap_succ (n := i) (by omega)
      have n1 := from_eq (bAt s i).v 0 99
      have n2 := implTermOk_eq l hs hn (bAt s i).t (hb i hi)
      have hin := containsFuncB_eq s 71 [.ptr 0 0] [some (bcells (bAt s i))] (fun c => hasV c.v (bAt s i)) hl (by simp) (by simp) (by simp) (fun c _ => sub1_eq (bAt s i) c (hb i hi))
      change _ = some (AV.d (.bool (someW s i)), _) at hin
      unfold bcells at hin ⊢
      cases c1 : inB (bAt s i).v 0 99 with
      | false =>
        rw [c1] at n1
        rw [stepF_t (by simp [badW, bad1, c1])]
        exact ⟨by simp, by simp [b68_0, r68_0, r68_1, r68_2, r68_3, d68_4, r68_5, r68_6, r68_7, r68_8, r68_9, splice, loadBox, hi, hw, cut, bAt_lt hi, n1]⟩
      | true =>
        rw [c1] at n1
        by_cases c0 : 0 < i
        · have hw1 : IntKind.i64.wrap ((i : Int) - 1) = ((i - 1 : Nat) : Int) := by rw [wrap_i64 (by omega) (by omega)]; omega
          have hp : i - 1 < s.length := by omega
          have c0' : (i : Int) > 0 := by omega
          by_cases c2 : (bAt s i).v ≤ (bAt s (i - 1)).v
          · rw [stepF_t (by simp [badW, bad1, c1, c0, c2])]
            exact ⟨by simp, by simp [b68_0, r68_0, r68_1, r68_2, r68_3, d68_4, r68_5, r68_6, r68_7, r68_8, r68_9, splice, loadBox, hi, hw, cut, bAt_lt hi, n1, c0, hw1, hp, bAt_lt hp, c2]⟩
          · cases c3 : termOkB l (bAt s i).t with
            | false =>
              rw [c3] at n2
              rw [stepF_t (by simp [badW, bad1, c3])]
              exact ⟨by simp, by simp [b68_0, r68_0, r68_1, r68_2, r68_3, d68_4, r68_5, r68_6, r68_7, r68_8, r68_9, splice, loadBox, hi, hw, cut, bAt_lt hi, n1, c0, hw1, hp, bAt_lt hp, c2, n2]⟩
            | true =>
              rw [c3] at n2
              cases c4 : someW s i with
              | true =>
                rw [c4] at hin
                rw [stepF_t (by simp [badW, c4])]
                exact ⟨by simp, by simp [b68_0, r68_0, r68_1, r68_2, r68_3, d68_4, r68_5, r68_6, r68_7, r68_8, r68_9, splice, loadBox, hi, hw, cut, bAt_lt hi, n1, c0, hw1, hp, bAt_lt hp, c2, n2, hin]⟩
              | false =>
                rw [c4] at hin
                rw [stepF_f (by simp [badW, bad1, c1, c2, c3, c4])]
                refine ⟨_, by simp [b68_0, r68_0, r68_1, r68_2, r68_3, d68_4, r68_5, r68_6, r68_7, r68_8, r68_9, splice, loadBox, hi, hw, cut, bAt_lt hi, n1, c0, hw1, hp, bAt_lt hp, c2, n2, hin]; rfl, by simp [xheadOf, safeRegs]⟩
        · cases c3 : termOkB l (bAt s i).t with
          | false =>
            rw [c3] at n2
            rw [stepF_t (by simp [badW, bad1, c3])]
            exact ⟨by simp, by simp [b68_0, r68_0, r68_1, r68_2, r68_3, d68_4, r68_5, r68_6, r68_7, r68_8, r68_9, splice, loadBox, hi, hw, cut, bAt_lt hi, n1, c0, n2]⟩
          | true =>
            rw [c3] at n2
            cases c4 : someW s i with
            | true =>
              rw [c4] at hin
              rw [stepF_t (by simp [badW, c4])]
              exact ⟨by simp, by simp [b68_0, r68_0, r68_1, r68_2, r68_3, d68_4, r68_5, r68_6, r68_7, r68_8, r68_9, splice, loadBox, hi, hw, cut, bAt_lt hi, n1, c0, n2, hin]⟩
            | false =>
              rw [c4] at hin
              rw [stepF_f (by simp [badW, bad1, c0, c1, c3, c4])]
              refine ⟨_, by simp [b68_0, r68_0, r68_1, r68_2, r68_3, d68_4, r68_5, r68_6, r68_7, r68_8, r68_9, splice, loadBox, hi, hw, cut, bAt_lt hi, n1, c0, n2, hin]; rfl, by simp [xheadOf, safeRegs]⟩)
    s.length () 0 ⟨[(0, .d (sg l)), (1, .d (binds .sub s)), (7, .d (binds .sub s)), (8, .d (.int .i64 s.length)), (9, .d (.int .i64 0))], []⟩ (by omega) (by simp [xheadOf, safeRegs])
  rw [runF] at h
  simp only [lin_68] at h
  simp [v68, r68_0, r68_1, r68_2, r68_3, d68_4, r68_5, r68_6, r68_7, r68_8, r68_9]
  rw [h]
  cases hq : findAt (badW l s) s.length 0 <;> simp [v68, r68_0, r68_1, r68_2, r68_3, d68_4, r68_5, r68_6, r68_7, r68_8, r68_9]
theorem FnExactSubOk_x (l : List SymL) (hl : l.length ≤ maxLen) (ho : ∀ s, s ∈ l → s.ok) (s : List Bd) (hs : s.length ≤ maxLen) (hso : ∀ b, b ∈ s → b.ok) : ∃ B, callX XV 64 [.d (sg l), .d (binds .sub s)] [] = some (.d (.bool true), B) := by
  rw [z_call XV _ _ _ v64 rfl xcode_64 rfl]
  have z0 := szSymS_eq l 1048576 hl ho (by omega) (by omega)
  by_cases h0 : (1048576 : Int) - symsSize l < 0
  · rw [leftOf_neg h0] at z0
    simp [v64, r64_0, r64_1, r64_2, r64_3, r64_4, r64_5, r64_6, r64_7, r64_8, r64_9, r64_10, r64_11, r64_12, r64_13, r64_14, r64_15, r64_16, r64_17, r64_18, z0]
  rw [leftOf_pos h0] at z0
  have hls : l.length ≤ 1048576 := by unfold symsSize at h0; omega
  have hn : ∀ i, i < l.length → (symAt l i).name.size ≤ 1048576 := fun i hi => by have := name_le l i hi; omega
  have z1 := szBindS_eq s (1048576 - symsSize l) hs hso (by omega) (by omega)
  by_cases h1 : (1048576 : Int) - symsSize l - bindsSize s < 0
  · rw [leftOf_neg h1] at z1
    simp [v64, r64_0, r64_1, r64_2, r64_3, r64_4, r64_5, r64_6, r64_7, r64_8, r64_9, r64_10, r64_11, r64_12, r64_13, r64_14, r64_15, r64_16, r64_17, r64_18, z0, h0, z1]
  rw [leftOf_pos h1] at z1
  have hlb : s.length ≤ 1048576 := by unfold bindsSize at h1; omega
  have hb : ∀ i, i < s.length → (bAt s i).t.inner ≤ 1048576 := fun i hi => by have := bind_le s i hi; omega
  have t0 := toSymS_eq l hls
  have t1 := toBindS_eq s hlb hb
  have s1 := specSubOk_eq l s hls hn hlb hb
  have s2 := implSubOk_eq l s hls hn hlb hb
  have e0 := eqSymS_self l hls
  have e1 := eqBindS_self s hlb hb
  simp [v64, r64_0, r64_1, r64_2, r64_3, r64_4, r64_5, r64_6, r64_7, r64_8, r64_9, r64_10, r64_11, r64_12, r64_13, r64_14, r64_15, r64_16, r64_17, r64_18, z0, h0, z1, h1, t0, t1, s1, s2, e0, e1, splice]
end Go.Proofs.Ytpmjooeehnmkcaa.VS
