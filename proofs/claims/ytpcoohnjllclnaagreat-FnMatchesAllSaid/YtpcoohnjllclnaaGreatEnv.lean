/- All that the functions are told by holds. -/
import Derived.Test.YtpcoohnjllclnaaGreatOk
import Derived.Test.YtpcoohnjllclnaaGreatShelf
import Derived.Test.YtpcoohnjllclnaaGreatNum
import Derived.Test.YtpcoohnjllclnaaGreatNw
import Derived.KernelRfl
set_option linter.unusedVariables false
namespace Go.Proofs.YtpcoohnjllclnaaGreat.VS
open Go.Proofs
theorem Vn:hU Tryz.prog fid 106 (de jz):=WZ ⟨Tryz.f83,Tryz.func83,by kernel_rfl,by kernel_rfl⟩ Pz
theorem V5:hU Tryz.prog fid 328 (de (jr 4 64)):=Oh ⟨Tryz.f177,Tryz.func177,by kernel_rfl,by kernel_rfl⟩ V_
theorem LQ:hU Tryz.prog fid 284 (de (jS)):=W_ ⟨Tryz.f178,Tryz.func178,by kernel_rfl,by kernel_rfl⟩ TY
theorem NI:hU Tryz.prog fid 323 (de (jD)):=ZC ⟨Tryz.f180,Tryz.func180,by kernel_rfl,by kernel_rfl⟩ WB
theorem S4:∀q,q∈kn->hU Tryz.prog fid q.1 (de q.2):=aL Vn<|aL V5<|aL LQ<|aL NI<|to _
theorem WY:wq Tryz.prog fid 169 eS:=by
 obtain⟨fn,h1,a⟩:=Y5;rw[Ow]at a;exact Zp (by kernel_rfl) h1 a (by kernel_rfl)
theorem TI:∀q,q∈Ed->wq Tryz.prog fid q.1 q.2:=aL WY<|to _
theorem NW:EnvOK Tryz.prog fid E:=⟨fun k vf _ h=>Fp (k,vf) (sD h),fun k f h=>by
 obtain⟨g,a,rfl⟩:=au.1 (show(iT kn k).map de=some f from h);exact S4 (k,g) (xL a),fun k sf h=>TI (k,sf) (Au h),by kernel_rfl,fun k vf h=>bu.1 Jq (k,vf) (sD h)⟩
end Go.Proofs.YtpcoohnjllclnaaGreat.VS
