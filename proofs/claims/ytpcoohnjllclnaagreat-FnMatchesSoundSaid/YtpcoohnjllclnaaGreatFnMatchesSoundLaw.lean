/- Whatever its arguments are, FnMatchesSound returns true, and they read behind the call as before. Condition: none beyond the given row's. -/
import Derived.Test.YtpcoohnjllclnaaGreatRows
import Derived.Test.YtpcoohnjllclnaaGreatEnv
import Derived.Test.YtpcoohnjllclnaaGreatLin
import Derived.Test.YtpcoohnjllclnaaGreatXP1
import Derived.Test.YtpcoohnjllclnaaGreatXP2
import Derived.Test.YtpcoohnjllclnaaGreatXP3
import Derived.Test.YtpcoohnjllclnaaGreatXP4
import Derived.Test.YtpcoohnjllclnaaGreatXP5
import Derived.Test.YtpcoohnjllclnaaGreatXP6
import Derived.Test.YtpcoohnjllclnaaGreatXP7
set_option linter.unusedSimpArgs false
set_option linter.unusedVariables false
namespace Go.Proofs.YtpcoohnjllclnaaGreat.VS
theorem On(xs:List al)(h:pK Tryz.prog Tryz.f7.params.toList xs):∃A B,qo E [] 379 (j7 Tryz.prog Tryz.f7.params.toList xs) [] Ids.none=some ⟨ax true,A,B⟩:=by
 rw[Tryz.params7]at h⊢
 obtain⟨c,rfl⟩:=Yl h;obtain⟨⟨_,s0⟩,_⟩:=h;obtain⟨g0,a0,rfl,b⟩:=PH Tryz.underlying22 Tryz.underlying5 s0;obtain⟨B,h⟩:=qky a0 b;obtain⟨A,B',a⟩:=Of ZA (k:=379) (vs:=[sH g0 a0]) ⟨B,by simpa[DV.clrs,Ly,CJ,VI]using h⟩;exact⟨A,B',by simpa[j7,d_,TT.enc,Tryz.underlying22]using a⟩
set_option maxRecDepth 100000 in
theorem Ph(os:Os)(started:os.Started)(H:Type)(enc:TypeId×Value->H):
 ReturnsInHanded {} Tryz.checked os 7 .any (Rows.fnMatchesSoundSpec.pre6 enc Tryz.prog Tryz.f7 Rows.fnMatchesSoundRow.domain false) (Rows.fnMatchesSoundSpec.post enc Tryz.prog Tryz.f7 false true false false):=
 Px (C:=Tryz.checked) (k:=379) (E:=E) (S:=[22,5]) (tb:=4) RD (by kernel_rfl) started (by kernel_rfl) rfl (by kernel_rfl) Tryz.func7 rfl (by kernel_rfl) (by kernel_rfl) (by kernel_rfl) (by kernel_rfl) Tryz.underlying4
  (fun ds a=>by match ds,a with| [a0],_=>rfl)
  (ChangeSpec.witness6 (enc:=enc) (C:=Tryz.checked) false ⟨#[],#[.slice none 0 0],[]⟩ 8 (by kernel_rfl) (by kernel_rfl) (by kernel_rfl) (by kernel_rfl))
  On
theorem overFnMatchesSound:Rows.fnMatchesSoundRow.holds Tryz.pinned (OpenSpec.ofChange Rows.fnMatchesSoundSpec):=
 OpenClaim.holds_of_wide 7 Tryz.f7 rfl rfl rfl rfl rfl rfl rfl ⟨rfl,rfl,rfl,rfl,rfl⟩ rfl rfl rfl rfl rfl (by kernel_rfl) Tryz.func7 (by kernel_rfl)
  (of_decide_eq_true (by kernel_rfl)) (by unfold Func.isWrapper;first|(rw[aw (by decide+kernel)];kernel_rfl)|(rw[au (by decide+kernel)];exact⟨rfl,rfl⟩))
  (fun os started H enc _=>Ph os started H enc)
end Go.Proofs.YtpcoohnjllclnaaGreat.VS
namespace Go.Proofs.YtpcoohnjllclnaaGreat
theorem fnMatchesSound_said:Rows.FnMatchesSoundSaid:=VS.overFnMatchesSound
#print axioms fnMatchesSound_said
end Go.Proofs.YtpcoohnjllclnaaGreat
