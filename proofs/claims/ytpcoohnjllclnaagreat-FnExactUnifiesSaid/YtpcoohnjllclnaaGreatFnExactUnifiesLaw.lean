/- Whatever its arguments are, FnExactUnifies returns true, and they read behind the call as before. Condition: none beyond the given row's. -/
import Derived.Test.YtpcoohnjllclnaaGreatRows
import Derived.Test.YtpcoohnjllclnaaGreatEnv
import Derived.Test.YtpcoohnjllclnaaGreatLin
import Derived.Test.YtpcoohnjllclnaaGreatXP1
import Derived.Test.YtpcoohnjllclnaaGreatXP2
import Derived.Test.YtpcoohnjllclnaaGreatXP3
import Derived.Test.YtpcoohnjllclnaaGreatXP4
import Derived.Test.YtpcoohnjllclnaaGreatXP5
import Derived.Test.YtpcoohnjllclnaaGreatXP6
import Derived.Test.YtpcoohnjllclnaaGreatXP7
set_option linter.unusedSimpArgs false
set_option linter.unusedVariables false
namespace Go.Proofs.YtpcoohnjllclnaaGreat.VS
theorem RE(xs:List aw)(h:wE Tryz.prog Tryz.f9.params.toList xs):∃A B,AG E [] 374 (HH Tryz.prog Tryz.f9.params.toList xs) [] Ids.none=some ⟨au true,A,B⟩:=by
 rw[Tryz.params9]at h⊢
 obtain⟨n,l,m,rfl⟩:=q6o h;obtain⟨⟨_,s0⟩,⟨⟨_,s1⟩,⟨⟨_,i⟩,_⟩⟩⟩:=h;obtain⟨e,a0,rfl,g,j⟩:=(Ww Tryz.underlying57 Tryz.underlying125 (by kernel_rfl) Tryz.underlying9 Tryz.underlying3 Tryz.underlying4 (by refine⟨?_,?_,?_,?_⟩<;>kernel_rfl)) s0;obtain⟨b,rfl,d⟩:=(FR Tryz.underlying60 (by kernel_rfl) Tryz.underlying3 Tryz.underlying58 (by refine⟨?_,?_,?_⟩<;>kernel_rfl) _ _ (nQ _)) s1;obtain⟨c,rfl,a⟩:=(FR Tryz.underlying60 (by kernel_rfl) Tryz.underlying3 Tryz.underlying58 (by refine⟨?_,?_,?_⟩<;>kernel_rfl) _ _ (nQ _)) i;obtain⟨B,h⟩:=qlG a0 g j b.erase (TT.qgJ _ d) c.erase (TT.qgJ _ a);obtain⟨A,B',a⟩:=qBt YU (k:=374) (vs:=[Cc e a0,b.enc,c.enc]) ⟨B,by simpa[DV.clrs,O6,Lq,TZ,TT.qfc]using h⟩;exact⟨A,B',by simpa[HH,nK,TT.enc,Tryz.underlying57,Tryz.underlying60]using a⟩
set_option maxRecDepth 100000 in
theorem TU(os:Os)(started:os.Started)(H:Type)(enc:TypeId×Value->H):
 ReturnsInHanded {} Tryz.checked os 9 .any (Rows.fnExactUnifiesSpec.pre6 enc Tryz.prog Tryz.f9 Rows.fnExactUnifiesRow.domain false) (Rows.fnExactUnifiesSpec.post enc Tryz.prog Tryz.f9 false true false false):=
 law_lifted (C:=Tryz.checked) (k:=374) (E:=E) (S:=[57,125,9,3,4,60,58]) (tb:=4) WZ (by kernel_rfl) started (by kernel_rfl) rfl (by kernel_rfl) Tryz.func9 rfl (by kernel_rfl) (by kernel_rfl) (by kernel_rfl) (by kernel_rfl) Tryz.underlying4
  (fun ds a=>by match ds,a with| [a0,b,c],_=>rfl)
  (ChangeSpec.witness6 (enc:=enc) (C:=Tryz.checked) false ⟨#[],#[.slice none 0 0,.agg #[.int .i64 0,.int .i64 0,.slice none 0 0],.agg #[.int .i64 0,.int .i64 0,.slice none 0 0]],[]⟩ 8 (by kernel_rfl) (by kernel_rfl) (by kernel_rfl) (by kernel_rfl))
  RE
theorem overFnExactUnifies:Rows.fnExactUnifiesRow.holds Tryz.pinned (OpenSpec.ofChange Rows.fnExactUnifiesSpec):=
 OpenClaim.holds_of_wide 9 Tryz.f9 rfl rfl rfl rfl rfl rfl rfl ⟨rfl,rfl,rfl,rfl,rfl⟩ rfl rfl rfl rfl rfl (by kernel_rfl) Tryz.func9 (by kernel_rfl)
  (of_decide_eq_true (by kernel_rfl)) (by unfold Func.isWrapper;first|(rw[ay (by decide+kernel)];kernel_rfl)|(rw[aD (by decide+kernel)];exact⟨rfl,rfl⟩))
  (fun os started H enc _=>TU os started H enc)
end Go.Proofs.YtpcoohnjllclnaaGreat.VS
namespace Go.Proofs.YtpcoohnjllclnaaGreat
theorem fnExactUnifies_said:Rows.FnExactUnifiesSaid:=VS.overFnExactUnifies
#print axioms fnExactUnifies_said
end Go.Proofs.YtpcoohnjllclnaaGreat
