/- Whatever its arguments are, FnExactMatchOne returns true, and they read behind the call as before. Condition: none beyond the given row's. -/
import Derived.Test.YtbcbkiaineacpaaGreatRows
import Derived.Test.YtbcbkiaineacpaaGreatEnv
import Derived.Test.YtbcbkiaineacpaaGreatLin
import Derived.Test.YtbcbkiaineacpaaGreatXP1
import Derived.Test.YtbcbkiaineacpaaGreatXP2
import Derived.Test.YtbcbkiaineacpaaGreatXP3
import Derived.Test.YtbcbkiaineacpaaGreatXP4
import Derived.Test.YtbcbkiaineacpaaGreatXP5
import Derived.Test.YtbcbkiaineacpaaGreatXP6
set_option linter.unusedSimpArgs false
set_option linter.unusedVariables false
namespace Go.Proofs.YtbcbkiaineacpaaGreat.VS
theorem qgw(xs:List (List DV))(h:qLq Tryz.prog Tryz.f4.params.toList xs):∃A B,qzn E [] 369 (qgB Tryz.prog Tryz.f4.params.toList xs) [] Ids.none=some ⟨.d (.bool true),A,B⟩:=by
 rw[Tryz.params4]at h⊢
 obtain⟨x0,x1,x2,rfl⟩:=qXf h;obtain⟨⟨_,s0⟩,⟨⟨_,s1⟩,⟨⟨_,s2⟩,_⟩⟩⟩:=h;obtain⟨g0,a0,rfl,h0,o0⟩:=(qxX Tryz.underlying22 Tryz.underlying52 (by kernel_rfl) Tryz.underlying9 Tryz.underlying3 Tryz.underlying4 (by refine⟨?_,?_,?_,?_⟩<;>kernel_rfl)) s0;obtain⟨a1,rfl,h1⟩:=(qim Tryz.underlying25 (by kernel_rfl) Tryz.underlying3 Tryz.underlying23 (by refine⟨?_,?_,?_⟩<;>kernel_rfl) _ _ (Nat.lt_succ_self _)) s1;obtain⟨a2,rfl,h2⟩:=(qim Tryz.underlying25 (by kernel_rfl) Tryz.underlying3 Tryz.underlying23 (by refine⟨?_,?_,?_⟩<;>kernel_rfl) _ _ (Nat.lt_succ_self _)) s2;obtain⟨B,h⟩:=qiP a0 h0 o0 a1.erase (TT.qfu _ h1) a2.erase (TT.qfu _ h2);obtain⟨A,B',h2⟩:=qye xok (k:=369) (vs:=[qUE g0 a0,a1.enc,a2.enc]) ⟨B,by simpa[DV.clrs,qEZ,qE0,qIw,TT.qd8]using h⟩;exact⟨A,B',by simpa[qgB,qbQ,TT.enc,Tryz.underlying22,Tryz.underlying25]using h2⟩
set_option maxRecDepth 100000 in
theorem qfZ(os:Os)(started:os.Started)(H:Type)(enc:TypeId×Value->H):
 ReturnsInHanded {} Tryz.checked os 4 .any (Rows.fnExactMatchOneSpec.pre6 enc Tryz.prog Tryz.f4 Rows.fnExactMatchOneRow.domain false) (Rows.fnExactMatchOneSpec.post enc Tryz.prog Tryz.f4 false true false false):=
 qyw (C:=Tryz.checked) (k:=369) (E:=E) (S:=[22,52,9,3,4,25,23]) (tb:=4) qT2 (by kernel_rfl) started (by kernel_rfl) rfl (by kernel_rfl) Tryz.func4 rfl (by kernel_rfl) (by kernel_rfl) (by kernel_rfl) (by kernel_rfl) Tryz.underlying4
  (fun ds hd=>by match ds,hd with| [a0,a1,a2],_=>rfl)
  (ChangeSpec.witness6 (enc:=enc) (C:=Tryz.checked) false ⟨#[],#[.slice none 0 0,.agg #[.int .i64 0,.int .i64 0,.slice none 0 0],.agg #[.int .i64 0,.int .i64 0,.slice none 0 0]],[]⟩ 8 (by kernel_rfl) (by kernel_rfl) (by kernel_rfl) (by kernel_rfl))
  qgw
theorem overFnExactMatchOne:Rows.fnExactMatchOneRow.holds Tryz.pinned (OpenSpec.ofChange Rows.fnExactMatchOneSpec):=
 OpenClaim.holds_of_wide 4 Tryz.f4 rfl rfl rfl rfl rfl rfl rfl ⟨rfl,rfl,rfl,rfl,rfl⟩ rfl rfl rfl rfl rfl (by kernel_rfl) Tryz.func4 (by kernel_rfl)
  (of_decide_eq_true (by kernel_rfl)) (by unfold Func.isWrapper;first|(rw[if_pos (by decide+kernel)];kernel_rfl)|(rw[if_neg (by decide+kernel)];exact⟨rfl,rfl⟩))
  (fun os started H enc _=>qfZ os started H enc)
end Go.Proofs.YtbcbkiaineacpaaGreat.VS
namespace Go.Proofs.YtbcbkiaineacpaaGreat
theorem fnExactMatchOne_said:Rows.FnExactMatchOneSaid:=VS.overFnExactMatchOne
#print axioms fnExactMatchOne_said
end Go.Proofs.YtbcbkiaineacpaaGreat
