/- All that the functions are told by holds. -/
import Derived.Test.YtfiakfiocdfpbaaOk
import Derived.KernelRfl
set_option linter.unusedVariables false
namespace Go.Proofs.Ytfiakfiocdfpbaa.VS
open Go.Proofs
theorem qAt:∀q,q∈qxe->qx1 Try.prog fid q.1 (qAu q.2):=List.forall_mem_nil _
theorem qwU:qqg Try.prog fid 169 ql1:=by
 obtain⟨fn,h1,h2⟩:=qC5;rw[qz5]at h2;exact qz2 (by kernel_rfl) h1 h2 (by kernel_rfl)
theorem qwR:∀q,q∈qz1->qqg Try.prog fid q.1 q.2:=List.forall_mem_cons.2 ⟨qwU,List.forall_mem_nil _⟩
theorem qDX:EnvOK Try.prog fid E:=⟨fun k vf _ h=>qxE (k,vf) (qlc h),fun k f h=>by
 obtain⟨g,hg,rfl⟩:=Option.map_eq_some_iff.1 (show(qiL qxe k).map qAu=some f from h);exact qAt (k,g) (qfX hg),fun k sf h=>qwR (k,sf) (qiK h),by kernel_rfl,fun k vf h=>List.all_eq_true.1 qxU (k,vf) (qlc h)⟩
end Go.Proofs.Ytfiakfiocdfpbaa.VS
