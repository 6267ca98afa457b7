/- All that the functions are told by holds. -/
import Derived.Test.YtfiakfiocdfpbaaOk
import Derived.Test.YtfiakfiocdfpbaaShelf
import Derived.Test.YtfiakfiocdfpbaaNum
import Derived.KernelRfl
set_option linter.unusedVariables false
namespace Go.Proofs.Ytfiakfiocdfpbaa.VS
open Go.Proofs
theorem qxv:qsr Try.prog fid 106 (qst qdy):=quq ⟨Try.f109,Try.func109,by kernel_rfl,by kernel_rfl⟩ qof
theorem qBo:∀q,q∈qxZ->qsr Try.prog fid q.1 (qst q.2):=List.forall_mem_cons.2 ⟨qxv,List.forall_mem_nil _⟩
theorem qxr:∀q,q∈qAL->qzZ Try.prog fid q.1 q.2:=List.forall_mem_nil _
theorem qFR:EnvOK Try.prog fid E:=⟨fun k vf _ h=>qp8 (k,vf) (qgg h),fun k f h=>by
 obtain⟨g,hg,rfl⟩:=Option.map_eq_some_iff.1 (show(qjg qxZ k).map qst=some f from h);exact qBo (k,g) (qgh hg),fun k sf h=>qxr (k,sf) (qjf h),by kernel_rfl,fun k vf h=>List.all_eq_true.1 qqf (k,vf) (qgg h)⟩
end Go.Proofs.Ytfiakfiocdfpbaa.VS
