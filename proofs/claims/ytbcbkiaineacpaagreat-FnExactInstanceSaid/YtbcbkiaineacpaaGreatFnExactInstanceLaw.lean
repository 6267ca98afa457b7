/- Whatever its arguments are, FnExactInstance returns true, and they read behind the call as before. Condition: none beyond the given row's. -/
import Derived.Test.YtbcbkiaineacpaaGreatRows
import Derived.Test.YtbcbkiaineacpaaGreatEnv
import Derived.Test.YtbcbkiaineacpaaGreatLin
import Derived.Test.YtbcbkiaineacpaaGreatXP1
import Derived.Test.YtbcbkiaineacpaaGreatXP2
import Derived.Test.YtbcbkiaineacpaaGreatXP3
import Derived.Test.YtbcbkiaineacpaaGreatXP4
import Derived.Test.YtbcbkiaineacpaaGreatXP5
import Derived.Test.YtbcbkiaineacpaaGreatXP6
set_option linter.unusedSimpArgs false
set_option linter.unusedVariables false
namespace Go.Proofs.YtbcbkiaineacpaaGreat.VS
theorem qg8(xs:List (List DV))(h:qH3 Tryz.prog Tryz.f3.params.toList xs):∃A B,qyN E [] 371 (qhd Tryz.prog Tryz.f3.params.toList xs) [] Ids.none=some ⟨.d (.bool true),A,B⟩:=by
 rw[Tryz.params3]at h⊢
 obtain⟨x0,x1,x2,rfl⟩:=qR5 h;obtain⟨⟨_,s0⟩,⟨⟨_,s1⟩,⟨⟨_,s2⟩,_⟩⟩⟩:=h;obtain⟨g0,a0,rfl,h0,o0⟩:=(qxg Tryz.underlying22 Tryz.underlying52 (by kernel_rfl) Tryz.underlying9 Tryz.underlying3 Tryz.underlying4 (by refine⟨?_,?_,?_,?_⟩<;>kernel_rfl)) s0;obtain⟨a1,rfl,h1⟩:=(qiB Tryz.underlying25 (by kernel_rfl) Tryz.underlying3 Tryz.underlying23 (by refine⟨?_,?_,?_⟩<;>kernel_rfl) _ _ (Nat.lt_succ_self _)) s1;obtain⟨a2,rfl,h2⟩:=(qiB Tryz.underlying25 (by kernel_rfl) Tryz.underlying3 Tryz.underlying23 (by refine⟨?_,?_,?_⟩<;>kernel_rfl) _ _ (Nat.lt_succ_self _)) s2;obtain⟨B,h⟩:=qi7 a0 h0 o0 a1.erase (TT.qf6 _ h1) a2.erase (TT.qf6 _ h2);obtain⟨A,B',h2⟩:=qxL xok (k:=371) (vs:=[qPx g0 a0,a1.enc,a2.enc]) ⟨B,by simpa[DV.clrs,qDt,qDu,qGv,TT.qfq]using h⟩;exact⟨A,B',by simpa[qhd,qbW,TT.enc,Tryz.underlying22,Tryz.underlying25]using h2⟩
set_option maxRecDepth 100000 in
theorem qgD(os:Os)(started:os.Started)(H:Type)(enc:TypeId×Value->H):
 ReturnsInHanded {} Tryz.checked os 3 .any (Rows.fnExactInstanceSpec.pre6 enc Tryz.prog Tryz.f3 Rows.fnExactInstanceRow.domain false) (Rows.fnExactInstanceSpec.post enc Tryz.prog Tryz.f3 false true false false):=
 qx2 (C:=Tryz.checked) (k:=371) (E:=E) (S:=[22,52,9,3,4,25,23]) (tb:=4) qO4 (by kernel_rfl) started (by kernel_rfl) rfl (by kernel_rfl) Tryz.func3 rfl (by kernel_rfl) (by kernel_rfl) (by kernel_rfl) (by kernel_rfl) Tryz.underlying4
  (fun ds hd=>by match ds,hd with| [a0,a1,a2],_=>rfl)
  (ChangeSpec.witness6 (enc:=enc) (C:=Tryz.checked) false ⟨#[],#[.slice none 0 0,.agg #[.int .i64 0,.int .i64 0,.slice none 0 0],.agg #[.int .i64 0,.int .i64 0,.slice none 0 0]],[]⟩ 8 (by kernel_rfl) (by kernel_rfl) (by kernel_rfl) (by kernel_rfl))
  qg8
theorem overFnExactInstance:Rows.fnExactInstanceRow.holds Tryz.pinned (OpenSpec.ofChange Rows.fnExactInstanceSpec):=
 OpenClaim.holds_of_wide 3 Tryz.f3 rfl rfl rfl rfl rfl rfl rfl ⟨rfl,rfl,rfl,rfl,rfl⟩ rfl rfl rfl rfl rfl (by kernel_rfl) Tryz.func3 (by kernel_rfl)
  (of_decide_eq_true (by kernel_rfl)) (by unfold Func.isWrapper;first|(rw[if_pos (by decide+kernel)];kernel_rfl)|(rw[if_neg (by decide+kernel)];exact⟨rfl,rfl⟩))
  (fun os started H enc _=>qgD os started H enc)
end Go.Proofs.YtbcbkiaineacpaaGreat.VS
namespace Go.Proofs.YtbcbkiaineacpaaGreat
theorem fnExactInstance_said:Rows.FnExactInstanceSaid:=VS.overFnExactInstance
#print axioms fnExactInstance_said
end Go.Proofs.YtbcbkiaineacpaaGreat
