/- All that the functions are told by holds. -/
import Derived.Test.YtfiakfiocdfpbaaOk
import Derived.KernelRfl
set_option linter.unusedVariables false
namespace Go.Proofs.Ytfiakfiocdfpbaa.VS
open Go.Proofs
theorem qB7:∀q,q∈qyv->qzm Try.prog fid q.1 (qB8 q.2):=List.forall_mem_nil _
theorem qxZ:qqH Try.prog fid 169 qmI:=by
 obtain⟨fn,h1,h2⟩:=qFm;rw[qBz]at h2;exact qBv (by kernel_rfl) h1 h2 (by kernel_rfl)
theorem qxW:∀q,q∈qBu->qqH Try.prog fid q.1 q.2:=List.forall_mem_cons.2 ⟨qxZ,List.forall_mem_nil _⟩
theorem qGj:EnvOK Try.prog fid E:=⟨fun k vf _ h=>qyX (k,vf) (qlP h),fun k f h=>by
 obtain⟨g,hg,rfl⟩:=Option.map_eq_some_iff.1 (show(qjt qyv k).map qB8=some f from h);exact qB7 (k,g) (qgp hg),fun k sf h=>qxW (k,sf) (qjs h),by kernel_rfl,fun k vf h=>List.all_eq_true.1 qze (k,vf) (qlP h)⟩
end Go.Proofs.Ytfiakfiocdfpbaa.VS
