/- All that the functions are told by holds. -/
import Derived.Test.YtfiakfiocdfpbaaOk
import Derived.Test.YtfiakfiocdfpbaaShelf
import Derived.KernelRfl
set_option linter.unusedVariables false
namespace Go.Proofs.Ytfiakfiocdfpbaa.VS
open Go.Proofs
theorem qIE:qxA Try.prog fid 93 (qxD qmn):=qJP ⟨Try.f95,Try.func95,by kernel_rfl,by kernel_rfl⟩ ⟨Try.strings_Join_none,Try.strings_Join⟩
theorem qJn:∀q,q∈qE2->qxA Try.prog fid q.1 (qxD q.2):=List.forall_mem_cons.2 ⟨qIE,List.forall_mem_nil _⟩
theorem qEk:qvi Try.prog fid 169 qpp:=by
 obtain⟨fn,h1,h2⟩:=qM3;rw[qIG]at h2;exact qIB (by kernel_rfl) h1 h2 (by kernel_rfl)
theorem qEh:∀q,q∈qIA->qvi Try.prog fid q.1 q.2:=List.forall_mem_cons.2 ⟨qEk,List.forall_mem_nil _⟩
theorem qOu:EnvOK Try.prog fid E:=⟨fun k vf _ h=>qFw (k,vf) (qon h),fun k f h=>by
 obtain⟨g,hg,rfl⟩:=Option.map_eq_some_iff.1 (show(qlu qE2 k).map qxD=some f from h);exact qJn (k,g) (qhp hg),fun k sf h=>qEh (k,sf) (qlt h),by kernel_rfl,fun k vf h=>List.all_eq_true.1 qFN (k,vf) (qon h)⟩
end Go.Proofs.Ytfiakfiocdfpbaa.VS
