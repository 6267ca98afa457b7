/- All that the functions are told by holds. -/
import Derived.Test.YtbcbkiaineacpaaGreatOk
import Derived.Test.YtbcbkiaineacpaaGreatNw
import Derived.KernelRfl
set_option linter.unusedVariables false
namespace Go.Proofs.YtbcbkiaineacpaaGreat.VS
open Go.Proofs
theorem qGY:qmd Tryz.prog fid 328 (ql4 (qFH 4 64)):=qUs ⟨Tryz.f90,Tryz.func90,by kernel_rfl,by kernel_rfl⟩ qoQ
theorem qG0:qmd Tryz.prog fid 284 (ql4 (qdd)):=qxJ ⟨Tryz.f91,Tryz.func91,by kernel_rfl,by kernel_rfl⟩ qpj
theorem qGZ:qmd Tryz.prog fid 323 (ql4 (qFF)):=qSk ⟨Tryz.f94,Tryz.func94,by kernel_rfl,by kernel_rfl⟩ qHK
theorem qNj:∀q,q∈qHS->qmd Tryz.prog fid q.1 (ql4 q.2):=yc_.2 ⟨qGY,yc_.2 ⟨qG0,yc_.2 ⟨qGZ,List.forall_mem_nil _⟩⟩⟩
theorem qGV:qxu Tryz.prog fid 169 qpA:=by
 obtain⟨fn,h1,h2⟩:=qTd;rw[qMp]at h2;exact qMn (by kernel_rfl) h1 h2
theorem qGS:∀q,q∈qMm->qxu Tryz.prog fid q.1 q.2:=yc_.2 ⟨qGV,List.forall_mem_nil _⟩
theorem qT2:EnvOK Tryz.prog fid E:=⟨fun k vf _ h=>qIt (k,vf) (qwJ h),fun k f h=>by
 obtain⟨g,hg,rfl⟩:=ya_.1 (show(qlk qHS k).map ql4=some f from h);exact qNj (k,g) (qhy hg),fun k sf h=>qGS (k,sf) (qlj h),by kernel_rfl⟩
end Go.Proofs.YtbcbkiaineacpaaGreat.VS
