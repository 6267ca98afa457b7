/- Whatever its arguments are, FnExactUnifies returns true, and they read behind the call as before. Condition: none beyond the given row's. -/
import Derived.Test.YtpcoohnjllclnaaGreatRows
import Derived.Test.YtpcoohnjllclnaaGreatEnv
import Derived.Test.YtpcoohnjllclnaaGreatLin
import Derived.Test.YtpcoohnjllclnaaGreatXP1
import Derived.Test.YtpcoohnjllclnaaGreatXP2
import Derived.Test.YtpcoohnjllclnaaGreatXP3
import Derived.Test.YtpcoohnjllclnaaGreatXP4
import Derived.Test.YtpcoohnjllclnaaGreatXP5
import Derived.Test.YtpcoohnjllclnaaGreatXP6
import Derived.Test.YtpcoohnjllclnaaGreatXP7
set_option linter.unusedSimpArgs false
set_option linter.unusedVariables false
namespace Go.Proofs.YtpcoohnjllclnaaGreat.VS
theorem X8(xs:List aw)(h:xI Tryz.prog Tryz.f9.params.toList xs):∃A B,AM E [] 374 (E3 Tryz.prog Tryz.f9.params.toList xs) [] Ids.none=some ⟨au true,A,B⟩:=by
 rw[Tryz.params9]at h⊢
 obtain⟨m,n,l,rfl⟩:=q6J h;obtain⟨⟨_,s0⟩,⟨⟨_,s1⟩,⟨⟨_,g⟩,_⟩⟩⟩:=h;obtain⟨d,a0,rfl,i,j⟩:=(qBx Tryz.underlying57 Tryz.underlying125 (by kernel_rfl) Tryz.underlying9 Tryz.underlying3 Tryz.underlying4 (by refine⟨?_,?_,?_,?_⟩<;>kernel_rfl)) s0;obtain⟨b,rfl,e⟩:=(Gq Tryz.underlying60 (by kernel_rfl) Tryz.underlying3 Tryz.underlying58 (by refine⟨?_,?_,?_⟩<;>kernel_rfl) _ _ (nL _)) s1;obtain⟨c,rfl,a⟩:=(Gq Tryz.underlying60 (by kernel_rfl) Tryz.underlying3 Tryz.underlying58 (by refine⟨?_,?_,?_⟩<;>kernel_rfl) _ _ (nL _)) g;obtain⟨B,h⟩:=Wc a0 i j b.erase (TT.qgP _ e) c.erase (TT.qgP _ a);obtain⟨A,B',a⟩:=qBI Yi (k:=374) (vs:=[Bc d a0,b.enc,c.enc]) ⟨B,by simpa[DV.clrs,Lf,JE,UJ,TT.qfj]using h⟩;exact⟨A,B',by simpa[E3,m8,TT.enc,Tryz.underlying57,Tryz.underlying60]using a⟩
set_option maxRecDepth 100000 in
theorem Ye(os:Os)(started:os.Started)(H:Type)(enc:TypeId×Value->H):
 ReturnsInHanded {} Tryz.checked os 9 .any (Rows.fnExactUnifiesSpec.pre6 enc Tryz.prog Tryz.f9 Rows.fnExactUnifiesRow.domain false) (Rows.fnExactUnifiesSpec.post enc Tryz.prog Tryz.f9 false true false false):=
 law_lifted (C:=Tryz.checked) (k:=374) (E:=E) (S:=[57,125,9,3,4,60,58]) (tb:=4) q2O (by kernel_rfl) started (by kernel_rfl) rfl (by kernel_rfl) Tryz.func9 rfl (by kernel_rfl) (by kernel_rfl) (by kernel_rfl) (by kernel_rfl) Tryz.underlying4
  (fun ds a=>by match ds,a with| [a0,c,b],_=>rfl)
  (ChangeSpec.witness6 (enc:=enc) (C:=Tryz.checked) false ⟨#[],#[.slice none 0 0,.agg #[.int .i64 0,.int .i64 0,.slice none 0 0],.agg #[.int .i64 0,.int .i64 0,.slice none 0 0]],[]⟩ 8 (by kernel_rfl) (by kernel_rfl) (by kernel_rfl) (by kernel_rfl))
  X8
theorem overFnExactUnifies:Rows.fnExactUnifiesRow.holds Tryz.pinned (OpenSpec.ofChange Rows.fnExactUnifiesSpec):=
 OpenClaim.holds_of_wide 9 Tryz.f9 rfl rfl rfl rfl rfl rfl rfl ⟨rfl,rfl,rfl,rfl,rfl⟩ rfl rfl rfl rfl rfl (by kernel_rfl) Tryz.func9 (by kernel_rfl)
  (of_decide_eq_true (by kernel_rfl)) (by unfold Func.isWrapper;first|(rw[ay (by decide+kernel)];kernel_rfl)|(rw[aC (by decide+kernel)];exact⟨rfl,rfl⟩))
  (fun os started H enc _=>Ye os started H enc)
end Go.Proofs.YtpcoohnjllclnaaGreat.VS
namespace Go.Proofs.YtpcoohnjllclnaaGreat
theorem fnExactUnifies_said:Rows.FnExactUnifiesSaid:=VS.overFnExactUnifies
#print axioms fnExactUnifies_said
end Go.Proofs.YtpcoohnjllclnaaGreat
