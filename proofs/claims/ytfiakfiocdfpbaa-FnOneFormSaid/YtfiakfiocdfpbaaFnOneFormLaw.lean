/- Whatever its arguments are, FnOneForm returns true, and they read behind the call as before. Condition: none beyond the given row's. -/
import Derived.Test.YtfiakfiocdfpbaaRows
import Derived.Test.YtfiakfiocdfpbaaEnv
import Derived.Test.YtfiakfiocdfpbaaLin
import Derived.Test.YtfiakfiocdfpbaaXP1
import Derived.Test.YtfiakfiocdfpbaaXP2
import Derived.Test.YtfiakfiocdfpbaaXP3
import Derived.Test.YtfiakfiocdfpbaaXP4
set_option linter.unusedSimpArgs false
set_option linter.unusedVariables false
namespace Go.Proofs.Ytfiakfiocdfpbaa.VS
theorem qjx(xs:List (List DV))(h:qBX Try.prog Try.f3.params.toList xs):∃A B,qrx E [] 189 (qft Try.prog Try.f3.params.toList xs) [] Ids.none=some ⟨.d (.bool true),A,B⟩:=by
 rw[Try.params3]at h⊢
 obtain⟨x0,rfl⟩:=qGH h;obtain⟨⟨_,s0⟩,_⟩:=h;obtain⟨g0,a0,rfl,h0⟩:=qnR Try.underlying22 Try.underlying5 s0;obtain⟨B,h⟩:=qoH a0 h0;obtain⟨A,B',h2⟩:=qqH xok (k:=189) (vs:=[qm8 g0 a0]) ⟨B,by simpa[DV.clrs,qvP,qoB,qrl]using h⟩;exact⟨A,B',by simpa[qft,qbK,TT.enc,Try.underlying22]using h2⟩
set_option maxRecDepth 100000 in
theorem qiN(os:Os)(started:os.Started)(H:Type)(enc:TypeId×Value->H):
 ReturnsInHanded {} Try.checked os 3 .any (Rows.fnOneFormSpec.pre6 enc Try.prog Try.f3 Rows.fnOneFormRow.domain false) (Rows.fnOneFormSpec.post enc Try.prog Try.f3 false true false false):=
 qqS (C:=Try.checked) (k:=189) (E:=E) (S:=[22,5]) (tb:=4) qDX (by kernel_rfl) started (by kernel_rfl) rfl (by kernel_rfl) Try.func3 rfl (by kernel_rfl) (by kernel_rfl) (by kernel_rfl) (by kernel_rfl) Try.underlying4
  (fun ds hd=>by match ds,hd with| [a0],_=>rfl)
  (ChangeSpec.witness6 (enc:=enc) (C:=Try.checked) false ⟨#[],#[.slice none 0 0],[]⟩ 8 (by kernel_rfl) (by kernel_rfl) (by kernel_rfl) (by kernel_rfl))
  qjx
theorem overFnOneForm:Rows.fnOneFormRow.holds Try.pinned (OpenSpec.ofChange Rows.fnOneFormSpec):=
 OpenClaim.holds_of_wide 3 Try.f3 rfl rfl rfl rfl rfl rfl rfl ⟨rfl,rfl,rfl,rfl,rfl⟩ rfl rfl rfl rfl rfl (by kernel_rfl) Try.func3 (by kernel_rfl)
  (of_decide_eq_true (by kernel_rfl)) (by unfold Func.isWrapper;first|(rw[if_pos (by decide+kernel)];kernel_rfl)|(rw[if_neg (by decide+kernel)];exact⟨rfl,rfl⟩))
  (fun os started H enc _=>qiN os started H enc)
end Go.Proofs.Ytfiakfiocdfpbaa.VS
namespace Go.Proofs.Ytfiakfiocdfpbaa
theorem fnOneForm_said:Rows.FnOneFormSaid:=VS.overFnOneForm
#print axioms fnOneForm_said
end Go.Proofs.Ytfiakfiocdfpbaa
