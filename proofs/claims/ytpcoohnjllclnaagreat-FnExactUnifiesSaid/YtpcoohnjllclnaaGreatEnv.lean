/- All that the functions are told by holds. -/
import Derived.Test.YtpcoohnjllclnaaGreatOk
import Derived.Test.YtpcoohnjllclnaaGreatShelf
import Derived.Test.YtpcoohnjllclnaaGreatNum
import Derived.Test.YtpcoohnjllclnaaGreatNw
import Derived.KernelRfl
set_option linter.unusedVariables false
namespace Go.Proofs.YtpcoohnjllclnaaGreat.VS
open Go.Proofs
theorem qMH:jm Tryz.prog fid 106 (cB lP):=Rc ⟨Tryz.f83,Tryz.func83,by kernel_rfl,by kernel_rfl⟩ qwN
theorem qMG:jm Tryz.prog fid 225 (cB (lj)):=Uc ⟨Tryz.f142,Tryz.func142,by kernel_rfl,by kernel_rfl⟩ qus
theorem qMD:jm Tryz.prog fid 284 (cB (lM)):=Pz ⟨Tryz.f178,Tryz.func178,by kernel_rfl,by kernel_rfl⟩ qsp
theorem PO:jm Tryz.prog fid 272 (cB (ki 3 40)):=T_ ⟨Tryz.f218,Tryz.func218,by kernel_rfl,by kernel_rfl⟩ qrQ
theorem Tb:jm Tryz.prog fid 275 (cB (lU)):=qX6 ⟨Tryz.f243,Tryz.func243,by kernel_rfl,by kernel_rfl⟩ XC
theorem qT9:∀q,q∈mS->jm Tryz.prog fid q.1 (cB q.2):=aM qMH<|aM qMG<|aM qMD<|aM PO<|aM Tb<|yA _
theorem qMz:ES Tryz.prog fid 169 eN:=by obtain⟨fn,b,a⟩:=YS;rw[qSS]at a;exact spec_ok (by kernel_rfl) b a (by kernel_rfl)
theorem qMx:∀q,q∈Ii->ES Tryz.prog fid q.1 q.2:=aM qMz<|yA _
theorem WZ:EnvOK Tryz.prog fid E:=⟨fun k vf _ h=>I3 (k,vf) (xh h),fun k f h=>by obtain⟨g,a,rfl⟩:=aN.1 (show(kJ mS k).map cB=some f from h);exact qT9 (k,g) (Bf a),fun k sf h=>qMx (k,sf) (GY h),by kernel_rfl,fun k vf h=>cm.1 Ot (k,vf) (xh h)⟩
end Go.Proofs.YtpcoohnjllclnaaGreat.VS
