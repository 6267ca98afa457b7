/- Whatever its arguments are, FnExactMatches returns true, and they read behind the call as before. Condition: none beyond the given row's. -/
import Derived.Test.YtbcbkiaineacpaaGreatRows
import Derived.Test.YtbcbkiaineacpaaGreatEnv
import Derived.Test.YtbcbkiaineacpaaGreatLin
import Derived.Test.YtbcbkiaineacpaaGreatXP1
import Derived.Test.YtbcbkiaineacpaaGreatXP2
import Derived.Test.YtbcbkiaineacpaaGreatXP3
import Derived.Test.YtbcbkiaineacpaaGreatXP4
import Derived.Test.YtbcbkiaineacpaaGreatXP5
import Derived.Test.YtbcbkiaineacpaaGreatXP6
set_option linter.unusedSimpArgs false
set_option linter.unusedVariables false
namespace Go.Proofs.YtbcbkiaineacpaaGreat.VS
theorem qgP(xs:List (List DV))(h:qL8 Tryz.prog Tryz.f5.params.toList xs):∃A B,qzI E [] 305 (qgI Tryz.prog Tryz.f5.params.toList xs) [] Ids.none=some ⟨.d (.bool true),A,B⟩:=by
 rw[Tryz.params5]at h⊢
 obtain⟨x0,x1,x2,rfl⟩:=qX3 h;obtain⟨⟨_,s0⟩,⟨⟨_,s1⟩,⟨⟨_,s2⟩,_⟩⟩⟩:=h;obtain⟨g0,a0,rfl,h0,o0⟩:=(qyj Tryz.underlying22 Tryz.underlying52 (by kernel_rfl) Tryz.underlying9 Tryz.underlying3 Tryz.underlying4 (by refine⟨?_,?_,?_,?_⟩<;>kernel_rfl)) s0;obtain⟨a1,rfl,h1⟩:=(qiw Tryz.underlying25 (by kernel_rfl) Tryz.underlying3 Tryz.underlying23 (by refine⟨?_,?_,?_⟩<;>kernel_rfl) _ _ (Nat.lt_succ_self _)) s1;obtain⟨a2,rfl,h2⟩:=(qiw Tryz.underlying25 (by kernel_rfl) Tryz.underlying3 Tryz.underlying23 (by refine⟨?_,?_,?_⟩<;>kernel_rfl) _ _ (Nat.lt_succ_self _)) s2;obtain⟨B,h⟩:=qjH a0 h0 o0 a1.erase (TT.qfC _ h1) a2.erase (TT.qfC _ h2);obtain⟨A,B',h2⟩:=qyA xok (k:=305) (vs:=[qVt g0 a0,a1.enc,a2.enc]) ⟨B,by simpa[DV.clrs,qFC,qFD,qJa,TT.qec]using h⟩;exact⟨A,B',by simpa[qgI,qbQ,TT.enc,Tryz.underlying22,Tryz.underlying25]using h2⟩
set_option maxRecDepth 100000 in
theorem qgC(os:Os)(started:os.Started)(H:Type)(enc:TypeId×Value->H):
 ReturnsInHanded {} Tryz.checked os 5 .any (Rows.fnExactMatchesSpec.pre6 enc Tryz.prog Tryz.f5 Rows.fnExactMatchesRow.domain false) (Rows.fnExactMatchesSpec.post enc Tryz.prog Tryz.f5 false true false false):=
 qyS (C:=Tryz.checked) (k:=305) (E:=E) (S:=[22,52,9,3,4,25,23]) (tb:=4) qUQ (by kernel_rfl) started (by kernel_rfl) rfl (by kernel_rfl) Tryz.func5 rfl (by kernel_rfl) (by kernel_rfl) (by kernel_rfl) (by kernel_rfl) Tryz.underlying4
  (fun ds hd=>by match ds,hd with| [a0,a1,a2],_=>rfl)
  (ChangeSpec.witness6 (enc:=enc) (C:=Tryz.checked) false ⟨#[],#[.slice none 0 0,.agg #[.int .i64 0,.int .i64 0,.slice none 0 0],.agg #[.int .i64 0,.int .i64 0,.slice none 0 0]],[]⟩ 8 (by kernel_rfl) (by kernel_rfl) (by kernel_rfl) (by kernel_rfl))
  qgP
theorem overFnExactMatches:Rows.fnExactMatchesRow.holds Tryz.pinned (OpenSpec.ofChange Rows.fnExactMatchesSpec):=
 OpenClaim.holds_of_wide 5 Tryz.f5 rfl rfl rfl rfl rfl rfl rfl ⟨rfl,rfl,rfl,rfl,rfl⟩ rfl rfl rfl rfl rfl (by kernel_rfl) Tryz.func5 (by kernel_rfl)
  (of_decide_eq_true (by kernel_rfl)) (by unfold Func.isWrapper;first|(rw[if_pos (by decide+kernel)];kernel_rfl)|(rw[if_neg (by decide+kernel)];exact⟨rfl,rfl⟩))
  (fun os started H enc _=>qgC os started H enc)
end Go.Proofs.YtbcbkiaineacpaaGreat.VS
namespace Go.Proofs.YtbcbkiaineacpaaGreat
theorem fnExactMatches_said:Rows.FnExactMatchesSaid:=VS.overFnExactMatches
#print axioms fnExactMatches_said
end Go.Proofs.YtbcbkiaineacpaaGreat
