/- Contracts of the program's functions on the evaluator without names, and plain lemmas: XForm. -/
import Derived.Test.YtcffalienbbohaaXSigOk
import Derived.Test.YtcffalienbbohaaXWeight
import Derived.Test.YtcffalienbbohaaXBefore
namespace Go.Proofs.Ytcffalienbbohaa.VS
set_option linter.unusedVariables false
set_option linter.unusedSimpArgs false
def headBad (l : List SymL) (f v : Int) (n : Nat) : Bool :=
  if symIn l f = true then
    if v = 0 then (if (symAt l f.toNat).ac = true then decide ((n : Int) < 2) else !decide ((n : Int) = (symAt l f.toNat).arity))
    else true
  else true
/-- A Kid that may not stand there, if it is right by itself. -/
def outOf (l : List SymL) (f : Int) (ks : List T) (i : Nat) : Bool :=
  if (symAt l f.toNat).ac = true then (if (tAt ks i).f = f then true else if i = 0 then false else decide (T.cmp (tAt ks i) (tAt ks (i - 1)) < 0)) else false
mutual
def T.form (l : List SymL) : T → Bool
  | .node f v ks =>
    if f = -1 then inB v 0 99 && decide (ks.length = 0)
    else if headBad l f v ks.length = true then false
    else (findAt (fun i => !((T.forms l ks)[i]?).getD false || outOf l f ks i) ks.length 0).isNone
def T.forms (l : List SymL) : List T → List Bool
  | [] => []
  | t :: r => T.form l t :: T.forms l r
end
theorem T.forms_map (l : List SymL) : ∀ ks : List T, T.forms l ks = ks.map (T.form l)
  | [] => by simp [T.forms]
  | t :: r => by simp [T.forms, T.forms_map l r]
theorem T.forms_at (l : List SymL) (ks : List T) (i : Nat) (hi : i < ks.length) : ((T.forms l ks)[i]?).getD false = T.form l (tAt ks i) := by
  rw [T.forms_map]; simp [tAt_get hi]
theorem form_node (l : List SymL) (f v : Int) (ks : List T) (c1 : f ≠ -1) (c2 : headBad l f v ks.length = false) : T.form l (.node f v ks) = (findAt (fun i => !T.form l (tAt ks i) || outOf l f ks i) ks.length 0).isNone := by
  have e : findAt (fun i => !((T.forms l ks)[i]?).getD false || outOf l f ks i) ks.length 0 = findAt (fun i => !T.form l (tAt ks i) || outOf l f ks i) ks.length 0 := by
    have key : ∀ (k i : Nat), i + k = ks.length → findAt (fun i => !((T.forms l ks)[i]?).getD false || outOf l f ks i) k i = findAt (fun i => !T.form l (tAt ks i) || outOf l f ks i) k i := by
      intro k
      induction k with
      | zero => intro i _; rfl
      | succ k ih =>
        intro i h
        simp only [findAt]
        simp only [T.forms_at l ks i (by omega), ih (i + 1) (by omega)]
    exact key _ _ (by omega)
  rw [← e]; simp [T.form, c1, c2]
mutual
theorem sum_one : ∀ t : T, T.sum (fun _ => 1) t = t.inner + 1
  | .node f v ks => by simp only [T.sum, T.inner]; rw [sums_one ks]; push_cast; omega
theorem sums_one : ∀ l : List T, T.sums (fun _ => 1) l = T.inners l + l.length
  | [] => by simp [T.sums, T.inners]
  | t :: r => by simp only [T.sums, T.inners, List.length_cons]; rw [sum_one t, sums_one r]; push_cast; omega
end
theorem parts_val (t : T) (ht : t.inner ≤ 1048576) : IntKind.i64.wrap (T.sum (fun _ => 1) t) = (t.inner + 1 : Nat) := by
  rw [sum_one]; exact wrap_nat (n := t.inner + 1) (by omega)
def termOkB (l : List SymL) (t : T) : Bool := sigOkB l && (decide (t.inner + 1 ≤ 60) && T.form l t)
end Go.Proofs.Ytcffalienbbohaa.VS
