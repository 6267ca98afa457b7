/- All that the functions are told by holds. -/
import Derived.Test.YtpcoohnjllclnaaGreatOk
import Derived.Test.YtpcoohnjllclnaaGreatShelf
import Derived.Test.YtpcoohnjllclnaaGreatNum
import Derived.Test.YtpcoohnjllclnaaGreatNw
import Derived.KernelRfl
set_option linter.unusedVariables false
namespace Go.Proofs.YtpcoohnjllclnaaGreat.VS
open Go.Proofs
theorem qMZ:iY Tryz.prog fid 106 (cD lG):=qIN ⟨Tryz.f83,Tryz.func83,by kernel_rfl,by kernel_rfl⟩ RU
theorem Vj:iY Tryz.prog fid 225 (cD (kE)):=Y6 ⟨Tryz.f142,Tryz.func142,by kernel_rfl,by kernel_rfl⟩ Xm
theorem Vt:iY Tryz.prog fid 284 (cD (lJ)):=qBh ⟨Tryz.f178,Tryz.func178,by kernel_rfl,by kernel_rfl⟩ qsB
theorem YH:iY Tryz.prog fid 272 (cD (kx 3 40)):=PU ⟨Tryz.f218,Tryz.func218,by kernel_rfl,by kernel_rfl⟩ Qx
theorem qMW:iY Tryz.prog fid 275 (cD (lN)):=W9 ⟨Tryz.f243,Tryz.func243,by kernel_rfl,by kernel_rfl⟩ Qn
theorem Qj:∀q,q∈mX->iY Tryz.prog fid q.1 (cD q.2):=aM qMZ<|aM Vj<|aM Vt<|aM YH<|aM qMW<|Bo _
theorem YT:Hm Tryz.prog fid 169 eO:=by obtain⟨fn,b,a⟩:=UL;rw[RP]at a;exact spec_ok (by kernel_rfl) b a (by kernel_rfl)
theorem ZU:∀q,q∈IA->Hm Tryz.prog fid q.1 q.2:=aM YT<|Bo _
theorem q2O:EnvOK Tryz.prog fid E:=⟨fun k vf _ h=>PF (k,vf) (vQ h),fun k f h=>by obtain⟨g,a,rfl⟩:=aN.1 (show(kj mX k).map cD=some f from h);exact Qj (k,g) (BY a),fun k sf h=>ZU (k,sf) (Hf h),by kernel_rfl,fun k vf h=>cm.1 Kv (k,vf) (vQ h)⟩
end Go.Proofs.YtpcoohnjllclnaaGreat.VS
