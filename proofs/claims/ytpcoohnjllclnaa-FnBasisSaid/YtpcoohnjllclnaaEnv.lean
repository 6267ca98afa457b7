/- All that the functions are told by holds. -/
import Derived.Test.YtpcoohnjllclnaaOk
import Derived.Test.YtpcoohnjllclnaaCat
import Derived.KernelRfl
set_option linter.unusedVariables false
namespace Go.Proofs.Ytpcoohnjllclnaa.VS
open Go.Proofs
theorem qxj:qs3 Try.prog fid 225 (qs6 qef):=qv9 ⟨Try.f26,Try.func26,by kernel_rfl,by kernel_rfl⟩ qpQ
theorem qAz:∀q,q∈qxu->qs3 Try.prog fid q.1 (qs6 q.2):=List.forall_mem_cons.2 ⟨qxj,List.forall_mem_nil _⟩
theorem qxg:∀q,q∈qAc->qzd Try.prog fid q.1 q.2:=List.forall_mem_nil _
theorem qDU:EnvOK Try.prog fid E:=⟨fun k vf _ h=>qxS (k,vf) (qme h),fun k f h=>by
 obtain⟨g,hg,rfl⟩:=Option.map_eq_some_iff.1 (show(qjC qxu k).map qs6=some f from h);exact qAz (k,g) (qgO hg),fun k sf h=>qxg (k,sf) (qjB h),by kernel_rfl,fun k vf h=>List.all_eq_true.1 qx5 (k,vf) (qme h)⟩
end Go.Proofs.Ytpcoohnjllclnaa.VS
