/- All that the functions are told by holds. -/
import Derived.Test.YtbcbkiaineacpaaGreatOk
import Derived.Test.YtbcbkiaineacpaaGreatNw
import Derived.KernelRfl
set_option linter.unusedVariables false
namespace Go.Proofs.YtbcbkiaineacpaaGreat.VS
open Go.Proofs
theorem qHB:qmn Tryz.prog fid 328 (qme (qGl 4 64)):=qVi ⟨Tryz.f90,Tryz.func90,by kernel_rfl,by kernel_rfl⟩ qo5
theorem qHD:qmn Tryz.prog fid 284 (qme (qdg)):=qx5 ⟨Tryz.f91,Tryz.func91,by kernel_rfl,by kernel_rfl⟩ qpy
theorem qHC:qmn Tryz.prog fid 323 (qme (qGj)):=qS5 ⟨Tryz.f94,Tryz.func94,by kernel_rfl,by kernel_rfl⟩ qIm
theorem qN2:∀q,q∈qIu->qmn Tryz.prog fid q.1 (qme q.2):=yc_.2 ⟨qHB,yc_.2 ⟨qHD,yc_.2 ⟨qHC,List.forall_mem_nil _⟩⟩⟩
theorem qHy:qxQ Tryz.prog fid 169 qpP:=by
 obtain⟨fn,h1,h2⟩:=qTZ;rw[qM8]at h2;exact qM6 (by kernel_rfl) h1 h2
theorem qHv:∀q,q∈qM5->qxQ Tryz.prog fid q.1 q.2:=yc_.2 ⟨qHy,List.forall_mem_nil _⟩
theorem qUQ:EnvOK Tryz.prog fid E:=⟨fun k vf _ h=>qI7 (k,vf) (qw4 h),fun k f h=>by
 obtain⟨g,hg,rfl⟩:=ya_.1 (show(qlu qIu k).map qme=some f from h);exact qN2 (k,g) (qhI hg),fun k sf h=>qHv (k,sf) (qlt h),by kernel_rfl⟩
end Go.Proofs.YtbcbkiaineacpaaGreat.VS
