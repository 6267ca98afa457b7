/- All that the functions are told by holds. -/
import Derived.Test.YtfiakfiocdfpbaaOk
import Derived.Test.YtfiakfiocdfpbaaShelf
import Derived.Test.YtfiakfiocdfpbaaNum
import Derived.KernelRfl
set_option linter.unusedVariables false
namespace Go.Proofs.Ytfiakfiocdfpbaa.VS
open Go.Proofs
theorem qx3:qsB Try.prog fid 106 (qsD qdy):=quY ⟨Try.f109,Try.func109,by kernel_rfl,by kernel_rfl⟩ qoi
theorem qB1:∀q,q∈qyx->qsB Try.prog fid q.1 (qsD q.2):=List.forall_mem_cons.2 ⟨qx3,List.forall_mem_nil _⟩
theorem qxZ:∀q,q∈qBo->qAA Try.prog fid q.1 q.2:=List.forall_mem_nil _
theorem qGA:EnvOK Try.prog fid E:=⟨fun k vf _ h=>qqg (k,vf) (qge h),fun k f h=>by
 obtain⟨g,hg,rfl⟩:=Option.map_eq_some_iff.1 (show(qjg qyx k).map qsD=some f from h);exact qB1 (k,g) (qgf hg),fun k sf h=>qxZ (k,sf) (qjf h),by kernel_rfl,fun k vf h=>List.all_eq_true.1 qqn (k,vf) (qge h)⟩
end Go.Proofs.Ytfiakfiocdfpbaa.VS
