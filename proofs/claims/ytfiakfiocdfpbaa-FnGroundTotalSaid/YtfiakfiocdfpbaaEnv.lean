/- All that the functions are told by holds. -/
import Derived.Test.YtfiakfiocdfpbaaOk
import Derived.Test.YtfiakfiocdfpbaaShelf
import Derived.Test.YtfiakfiocdfpbaaNum
import Derived.KernelRfl
set_option linter.unusedVariables false
namespace Go.Proofs.Ytfiakfiocdfpbaa.VS
open Go.Proofs
theorem qxu:qsq Try.prog fid 106 (qss qdy):=qup ⟨Try.f109,Try.func109,by kernel_rfl,by kernel_rfl⟩ qoe
theorem qBn:∀q,q∈qxY->qsq Try.prog fid q.1 (qss q.2):=List.forall_mem_cons.2 ⟨qxu,List.forall_mem_nil _⟩
theorem qxq:∀q,q∈qAK->qzY Try.prog fid q.1 q.2:=List.forall_mem_nil _
theorem qFQ:EnvOK Try.prog fid E:=⟨fun k vf _ h=>qp7 (k,vf) (qgg h),fun k f h=>by
 obtain⟨g,hg,rfl⟩:=Option.map_eq_some_iff.1 (show(qjf qxY k).map qss=some f from h);exact qBn (k,g) (qgh hg),fun k sf h=>qxq (k,sf) (qje h),by kernel_rfl,fun k vf h=>List.all_eq_true.1 qqe (k,vf) (qgg h)⟩
end Go.Proofs.Ytfiakfiocdfpbaa.VS
