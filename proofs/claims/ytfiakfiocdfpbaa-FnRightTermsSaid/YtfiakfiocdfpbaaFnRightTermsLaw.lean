/- Whatever its arguments are, FnRightTerms returns true, and they read behind the call as before. Condition: none beyond the given row's. -/
import Derived.Test.YtfiakfiocdfpbaaRows
import Derived.Test.YtfiakfiocdfpbaaEnv
import Derived.Test.YtfiakfiocdfpbaaLin
import Derived.Test.YtfiakfiocdfpbaaXP1
import Derived.Test.YtfiakfiocdfpbaaXP2
import Derived.Test.YtfiakfiocdfpbaaXP3
import Derived.Test.YtfiakfiocdfpbaaXP4
set_option linter.unusedSimpArgs false
set_option linter.unusedVariables false
namespace Go.Proofs.Ytfiakfiocdfpbaa.VS
theorem qhb(xs:List (List DV))(h:qDy Try.prog Try.f4.params.toList xs):∃A B,qsl E [] 366 (qfC Try.prog Try.f4.params.toList xs) [] Ids.none=some ⟨.d (.bool true),A,B⟩:=by
 rw[Try.params4]at h⊢
 obtain⟨x0,rfl⟩:=qJI h;obtain⟨⟨_,s0⟩,_⟩:=h;obtain⟨g0,a0,rfl,h0⟩:=qoq Try.underlying22 Try.underlying5 s0;obtain⟨B,h⟩:=qkj a0 h0;obtain⟨A,B',h2⟩:=qru xok (k:=366) (vs:=[qnH g0 a0]) ⟨B,by simpa[DV.clrs,qwv,qo6,qr9]using h⟩;exact⟨A,B',by simpa[qfC,qbO,TT.enc,Try.underlying22]using h2⟩
set_option maxRecDepth 100000 in
theorem qgq(os:Os)(started:os.Started)(H:Type)(enc:TypeId×Value->H):
 ReturnsInHanded {} Try.checked os 4 .any (Rows.fnRightTermsSpec.pre6 enc Try.prog Try.f4 Rows.fnRightTermsRow.domain false) (Rows.fnRightTermsSpec.post enc Try.prog Try.f4 false true false false):=
 qrG (C:=Try.checked) (k:=366) (E:=E) (S:=[22,5]) (tb:=4) qGj (by kernel_rfl) started (by kernel_rfl) rfl (by kernel_rfl) Try.func4 rfl (by kernel_rfl) (by kernel_rfl) (by kernel_rfl) (by kernel_rfl) Try.underlying4
  (fun ds hd=>by match ds,hd with| [a0],_=>rfl)
  (ChangeSpec.witness6 (enc:=enc) (C:=Try.checked) false ⟨#[],#[.slice none 0 0],[]⟩ 8 (by kernel_rfl) (by kernel_rfl) (by kernel_rfl) (by kernel_rfl))
  qhb
theorem overFnRightTerms:Rows.fnRightTermsRow.holds Try.pinned (OpenSpec.ofChange Rows.fnRightTermsSpec):=
 OpenClaim.holds_of_wide 4 Try.f4 rfl rfl rfl rfl rfl rfl rfl ⟨rfl,rfl,rfl,rfl,rfl⟩ rfl rfl rfl rfl rfl (by kernel_rfl) Try.func4 (by kernel_rfl)
  (of_decide_eq_true (by kernel_rfl)) (by unfold Func.isWrapper;first|(rw[if_pos (by decide+kernel)];kernel_rfl)|(rw[if_neg (by decide+kernel)];exact⟨rfl,rfl⟩))
  (fun os started H enc _=>qgq os started H enc)
end Go.Proofs.Ytfiakfiocdfpbaa.VS
namespace Go.Proofs.Ytfiakfiocdfpbaa
theorem fnRightTerms_said:Rows.FnRightTermsSaid:=VS.overFnRightTerms
#print axioms fnRightTerms_said
end Go.Proofs.Ytfiakfiocdfpbaa
