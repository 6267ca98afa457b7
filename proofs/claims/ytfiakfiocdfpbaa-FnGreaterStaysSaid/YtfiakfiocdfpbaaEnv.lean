/- All that the functions are told by holds. -/
import Derived.Test.YtfiakfiocdfpbaaOk
import Derived.Test.YtfiakfiocdfpbaaShelf
import Derived.Test.YtfiakfiocdfpbaaNum
import Derived.KernelRfl
set_option linter.unusedVariables false
namespace Go.Proofs.Ytfiakfiocdfpbaa.VS
open Go.Proofs
theorem qEe:qxx Try.prog fid 106 (qxz qed):=qAE ⟨Try.f109,Try.func109,by kernel_rfl,by kernel_rfl⟩ qsa
theorem qIO:∀q,q∈qEK->qxx Try.prog fid q.1 (qxz q.2):=List.forall_mem_cons.2 ⟨qEe,List.forall_mem_nil _⟩
theorem qD9:qva Try.prog fid 169 qps:=by
 obtain⟨fn,h1,h2⟩:=qMJ;rw[qH8]at h2;exact qH5 (by kernel_rfl) h1 h2 (by kernel_rfl)
theorem qD6:∀q,q∈qH4->qva Try.prog fid q.1 q.2:=List.forall_mem_cons.2 ⟨qD9,List.forall_mem_nil _⟩
theorem qN4:EnvOK Try.prog fid E:=⟨fun k vf _ h=>quM (k,vf) (qg9 h),fun k f h=>by
 obtain⟨g,hg,rfl⟩:=Option.map_eq_some_iff.1 (show(qlr qEK k).map qxz=some f from h);exact qIO (k,g) (qha hg),fun k sf h=>qD6 (k,sf) (qlq h),by kernel_rfl,fun k vf h=>List.all_eq_true.1 quV (k,vf) (qg9 h)⟩
end Go.Proofs.Ytfiakfiocdfpbaa.VS
