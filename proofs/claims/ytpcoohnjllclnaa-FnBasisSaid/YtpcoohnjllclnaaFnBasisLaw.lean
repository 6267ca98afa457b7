/- Whatever its arguments are, FnBasis returns true, and they read behind the call as before. Condition: none beyond the given row's. -/
import Derived.Test.YtpcoohnjllclnaaRows
import Derived.Test.YtpcoohnjllclnaaEnv
import Derived.Test.YtpcoohnjllclnaaLin
import Derived.Test.YtpcoohnjllclnaaXP1
import Derived.Test.YtpcoohnjllclnaaXP2
import Derived.Test.YtpcoohnjllclnaaXP3
set_option linter.unusedSimpArgs false
set_option linter.unusedVariables false
namespace Go.Proofs.Ytpcoohnjllclnaa.VS
theorem qnZ(xs:List (List DV))(h:qBT Try.prog Try.f3.params.toList xs):∃A B,qsR E [] 205 (qf2 Try.prog Try.f3.params.toList xs) [] Ids.none=some ⟨.d (.bool true),A,B⟩:=by
 rw[Try.params3]at h⊢
 obtain⟨x0,rfl⟩:=qGD h;obtain⟨⟨_,s0⟩,_⟩:=h;obtain⟨g0,a0,rfl,h0⟩:=qpd Try.underlying22 Try.underlying5 s0;obtain⟨B,h⟩:=qwA a0 h0;obtain⟨A,B',h2⟩:=qr2 xok (k:=205) (vs:=[qot g0 a0]) ⟨B,by simpa[DV.clrs,qwe,qpT,qsF]using h⟩;exact⟨A,B',by simpa[qf2,qbE,TT.enc,Try.underlying22]using h2⟩
set_option maxRecDepth 100000 in
theorem qmh(os:Os)(started:os.Started)(H:Type)(enc:TypeId×Value->H):
 ReturnsInHanded {} Try.checked os 3 .any (Rows.fnBasisSpec.pre6 enc Try.prog Try.f3 Rows.fnBasisRow.domain false) (Rows.fnBasisSpec.post enc Try.prog Try.f3 false true false false):=
 qsb (C:=Try.checked) (k:=205) (E:=E) (S:=[22,5]) (tb:=4) qDU (by kernel_rfl) started (by kernel_rfl) rfl (by kernel_rfl) Try.func3 rfl (by kernel_rfl) (by kernel_rfl) (by kernel_rfl) (by kernel_rfl) Try.underlying4
  (fun ds hd=>by match ds,hd with| [a0],_=>rfl)
  (ChangeSpec.witness6 (enc:=enc) (C:=Try.checked) false ⟨#[],#[.slice none 0 0],[]⟩ 8 (by kernel_rfl) (by kernel_rfl) (by kernel_rfl) (by kernel_rfl))
  qnZ
theorem overFnBasis:Rows.fnBasisRow.holds Try.pinned (OpenSpec.ofChange Rows.fnBasisSpec):=
 OpenClaim.holds_of_wide 3 Try.f3 rfl rfl rfl rfl rfl rfl rfl ⟨rfl,rfl,rfl,rfl,rfl⟩ rfl rfl rfl rfl rfl (by kernel_rfl) Try.func3 (by kernel_rfl)
  (of_decide_eq_true (by kernel_rfl)) (by unfold Func.isWrapper;first|(rw[if_pos (by decide+kernel)];kernel_rfl)|(rw[if_neg (by decide+kernel)];exact⟨rfl,rfl⟩))
  (fun os started H enc _=>qmh os started H enc)
end Go.Proofs.Ytpcoohnjllclnaa.VS
namespace Go.Proofs.Ytpcoohnjllclnaa
theorem fnBasis_said:Rows.FnBasisSaid:=VS.overFnBasis
#print axioms fnBasis_said
end Go.Proofs.Ytpcoohnjllclnaa
