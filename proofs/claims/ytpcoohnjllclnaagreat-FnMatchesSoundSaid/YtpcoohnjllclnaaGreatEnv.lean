/- All that the functions are told by holds. -/
import Derived.Test.YtpcoohnjllclnaaGreatOk
import Derived.Test.YtpcoohnjllclnaaGreatShelf
import Derived.Test.YtpcoohnjllclnaaGreatNum
import Derived.Test.YtpcoohnjllclnaaGreatNw
import Derived.KernelRfl
set_option linter.unusedVariables false
namespace Go.Proofs.YtpcoohnjllclnaaGreat.VS
open Go.Proofs
theorem TL:iT Tryz.prog fid 106 (dN kq):=OE ⟨Tryz.f83,Tryz.func83,by kernel_rfl,by kernel_rfl⟩ S_
theorem Te:iT Tryz.prog fid 328 (dN (j_ 4 64)):=qXU ⟨Tryz.f177,Tryz.func177,by kernel_rfl,by kernel_rfl⟩ Vb
theorem qJu:iT Tryz.prog fid 284 (dN (kh)):=T7 ⟨Tryz.f178,Tryz.func178,by kernel_rfl,by kernel_rfl⟩ Pi
theorem UT:iT Tryz.prog fid 323 (dN (km)):=qVi ⟨Tryz.f180,Tryz.func180,by kernel_rfl,by kernel_rfl⟩ Ox
theorem qQi:∀q,q∈lK->iT Tryz.prog fid q.1 (dN q.2):=aR TL<|aR Te<|aR qJu<|aR UT<|wE _
theorem Sa:wL Tryz.prog fid 169 fU:=by obtain⟨fn,b,a⟩:=PG;rw[qPA]at a;exact Oq (by kernel_rfl) b a (by kernel_rfl)
theorem qJm:∀q,q∈E3->wL Tryz.prog fid q.1 q.2:=aR Sa<|wE _
theorem RD:EnvOK Tryz.prog fid E:=⟨fun k vf _ h=>Jh (k,vf) (t7 h),fun k f h=>by obtain⟨g,a,rfl⟩:=ay.1 (show(jx lK k).map dN=some f from h);exact qQi (k,g) (vq a),fun k sf h=>qJm (k,sf) (F0 h),by kernel_rfl,fun k vf h=>bB.1 Jq (k,vf) (t7 h)⟩
end Go.Proofs.YtpcoohnjllclnaaGreat.VS
