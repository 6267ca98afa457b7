/- All that the functions are told by holds. -/
import Derived.Test.YtbcbkiaineacpaaGreatOk
import Derived.Test.YtbcbkiaineacpaaGreatNw
import Derived.KernelRfl
set_option linter.unusedVariables false
namespace Go.Proofs.YtbcbkiaineacpaaGreat.VS
open Go.Proofs
theorem qFe:qmU Tryz.prog fid 328 (qmL (qD6 4 64)):=qPm ⟨Tryz.f90,Tryz.func90,by kernel_rfl,by kernel_rfl⟩ qqh
theorem qFg:qmU Tryz.prog fid 284 (qmL (qd4)):=qw3 ⟨Tryz.f91,Tryz.func91,by kernel_rfl,by kernel_rfl⟩ qqK
theorem qFf:qmU Tryz.prog fid 323 (qmL (qD4)):=qNr ⟨Tryz.f94,Tryz.func94,by kernel_rfl,by kernel_rfl⟩ qFI
theorem qJx:∀q,q∈qFQ->qmU Tryz.prog fid q.1 (qmL q.2):=yc_.2 ⟨qFe,yc_.2 ⟨qFg,yc_.2 ⟨qFf,List.forall_mem_nil _⟩⟩⟩
theorem qFb:qwO Tryz.prog fid 169 qq2:=by
 obtain⟨fn,h1,h2⟩:=qOf;rw[qIV]at h2;exact qIT (by kernel_rfl) h1 h2
theorem qE8:∀q,q∈qIS->qwO Tryz.prog fid q.1 q.2:=yc_.2 ⟨qFb,List.forall_mem_nil _⟩
theorem qO4:EnvOK Tryz.prog fid E:=⟨fun k vf _ h=>qGs (k,vf) (qv2 h),fun k f h=>by
 obtain⟨g,hg,rfl⟩:=ya_.1 (show(ql2 qFQ k).map qmL=some f from h);exact qJx (k,g) (qhW hg),fun k sf h=>qE8 (k,sf) (ql1 h),by kernel_rfl⟩
end Go.Proofs.YtbcbkiaineacpaaGreat.VS
