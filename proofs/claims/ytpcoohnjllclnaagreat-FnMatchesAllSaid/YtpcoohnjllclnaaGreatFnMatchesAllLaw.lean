/- Whatever its arguments are, FnMatchesAll returns true, and they read behind the call as before. Condition: none beyond the given row's. -/
import Derived.Test.YtpcoohnjllclnaaGreatRows
import Derived.Test.YtpcoohnjllclnaaGreatEnv
import Derived.Test.YtpcoohnjllclnaaGreatLin
import Derived.Test.YtpcoohnjllclnaaGreatXP1
import Derived.Test.YtpcoohnjllclnaaGreatXP2
import Derived.Test.YtpcoohnjllclnaaGreatXP3
import Derived.Test.YtpcoohnjllclnaaGreatXP4
import Derived.Test.YtpcoohnjllclnaaGreatXP5
import Derived.Test.YtpcoohnjllclnaaGreatXP6
set_option linter.unusedSimpArgs false
set_option linter.unusedVariables false
namespace Go.Proofs.YtpcoohnjllclnaaGreat.VS
theorem O_(xs:List (List DV))(h:oq Tryz.prog Tryz.f3.params.toList xs):∃A B,oX E [] 337 (jT Tryz.prog Tryz.f3.params.toList xs) [] Ids.none=some ⟨ar true,A,B⟩:=by
 rw[Tryz.params3]at h⊢
 obtain⟨c,rfl⟩:=RN h;obtain⟨⟨_,s0⟩,_⟩:=h;obtain⟨g0,a0,rfl,a⟩:=Vl Tryz.underlying22 Tryz.underlying5 s0;obtain⟨B,h⟩:=qmD a0 a;obtain⟨A,B',b⟩:=NA YS (k:=337) (vs:=[sN g0 a0]) ⟨B,by simpa[DV.clrs,Ff,El,PE]using h⟩;exact⟨A,B',by simpa[jT,dB,TT.enc,Tryz.underlying22]using b⟩
set_option maxRecDepth 100000 in
theorem Td(os:Os)(started:os.Started)(H:Type)(enc:TypeId×Value->H):
 ReturnsInHanded {} Tryz.checked os 3 .any (Rows.fnMatchesAllSpec.pre6 enc Tryz.prog Tryz.f3 Rows.fnMatchesAllRow.domain false) (Rows.fnMatchesAllSpec.post enc Tryz.prog Tryz.f3 false true false false):=
 Px (C:=Tryz.checked) (k:=337) (E:=E) (S:=[22,5]) (tb:=4) NW (by kernel_rfl) started (by kernel_rfl) rfl (by kernel_rfl) Tryz.func3 rfl (by kernel_rfl) (by kernel_rfl) (by kernel_rfl) (by kernel_rfl) Tryz.underlying4
  (fun ds hd=>by match ds,hd with| [a0],_=>rfl)
  (ChangeSpec.witness6 (enc:=enc) (C:=Tryz.checked) false ⟨#[],#[.slice none 0 0],[]⟩ 8 (by kernel_rfl) (by kernel_rfl) (by kernel_rfl) (by kernel_rfl))
  O_
theorem overFnMatchesAll:Rows.fnMatchesAllRow.holds Tryz.pinned (OpenSpec.ofChange Rows.fnMatchesAllSpec):=
 OpenClaim.holds_of_wide 3 Tryz.f3 rfl rfl rfl rfl rfl rfl rfl ⟨rfl,rfl,rfl,rfl,rfl⟩ rfl rfl rfl rfl rfl (by kernel_rfl) Tryz.func3 (by kernel_rfl)
  (of_decide_eq_true (by kernel_rfl)) (by unfold Func.isWrapper;first|(rw[ap (by decide+kernel)];kernel_rfl)|(rw[ak (by decide+kernel)];exact⟨rfl,rfl⟩))
  (fun os started H enc _=>Td os started H enc)
end Go.Proofs.YtpcoohnjllclnaaGreat.VS
namespace Go.Proofs.YtpcoohnjllclnaaGreat
theorem fnMatchesAll_said:Rows.FnMatchesAllSaid:=VS.overFnMatchesAll
#print axioms fnMatchesAll_said
end Go.Proofs.YtpcoohnjllclnaaGreat
