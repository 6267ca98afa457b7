/- Whatever its arguments are, FnGroundTotal returns true, and they read behind the call as before. Condition: none beyond the given row's. -/
import Derived.Test.YtfiakfiocdfpbaaRows
import Derived.Test.YtfiakfiocdfpbaaEnv
import Derived.Test.YtfiakfiocdfpbaaLin
import Derived.Test.YtfiakfiocdfpbaaXP1
import Derived.Test.YtfiakfiocdfpbaaXP2
import Derived.Test.YtfiakfiocdfpbaaXP3
set_option linter.unusedSimpArgs false
set_option linter.unusedVariables false
namespace Go.Proofs.Ytfiakfiocdfpbaa.VS
theorem qf9(xs:List (List DV))(h:qCI Try.prog Try.f5.params.toList xs):∃A B,qsg E [] 364 (qfl Try.prog Try.f5.params.toList xs) [] Ids.none=some ⟨.d (.bool true),A,B⟩:=by
 rw[Try.params5]at h⊢
 obtain⟨x0,rfl⟩:=qJI h;obtain⟨⟨_,s0⟩,_⟩:=h;obtain⟨g0,a0,rfl,h0⟩:=qnX Try.underlying22 Try.underlying5 s0;obtain⟨B,h⟩:=qjJ a0 h0;obtain⟨A,B',h2⟩:=qrn xok (k:=364) (vs:=[qnj g0 a0]) ⟨B,by simpa[DV.clrs,qvM,qoB,qr5]using h⟩;exact⟨A,B',by simpa[qfl,qbH,TT.enc,Try.underlying22]using h2⟩
set_option maxRecDepth 100000 in
theorem qfs(os:Os)(started:os.Started)(H:Type)(enc:TypeId×Value->H):
 ReturnsInHanded {} Try.checked os 5 .any (Rows.fnGroundTotalSpec.pre6 enc Try.prog Try.f5 Rows.fnGroundTotalRow.domain false) (Rows.fnGroundTotalSpec.post enc Try.prog Try.f5 false true false false):=
 qrx (C:=Try.checked) (k:=364) (E:=E) (S:=[22,5]) (tb:=4) qFQ (by kernel_rfl) started (by kernel_rfl) rfl (by kernel_rfl) Try.func5 rfl (by kernel_rfl) (by kernel_rfl) (by kernel_rfl) (by kernel_rfl) Try.underlying4
  (fun ds hd=>by match ds,hd with| [a0],_=>rfl)
  (ChangeSpec.witness6 (enc:=enc) (C:=Try.checked) false ⟨#[],#[.slice none 0 0],[]⟩ 8 (by kernel_rfl) (by kernel_rfl) (by kernel_rfl) (by kernel_rfl))
  qf9
theorem overFnGroundTotal:Rows.fnGroundTotalRow.holds Try.pinned (OpenSpec.ofChange Rows.fnGroundTotalSpec):=
 OpenClaim.holds_of_wide 5 Try.f5 rfl rfl rfl rfl rfl rfl rfl ⟨rfl,rfl,rfl,rfl,rfl⟩ rfl rfl rfl rfl rfl (by kernel_rfl) Try.func5 (by kernel_rfl)
  (of_decide_eq_true (by kernel_rfl)) (by unfold Func.isWrapper;first|(rw[if_pos (by decide+kernel)];kernel_rfl)|(rw[if_neg (by decide+kernel)];exact⟨rfl,rfl⟩))
  (fun os started H enc _=>qfs os started H enc)
end Go.Proofs.Ytfiakfiocdfpbaa.VS
namespace Go.Proofs.Ytfiakfiocdfpbaa
theorem fnGroundTotal_said:Rows.FnGroundTotalSaid:=VS.overFnGroundTotal
#print axioms fnGroundTotal_said
end Go.Proofs.Ytfiakfiocdfpbaa
