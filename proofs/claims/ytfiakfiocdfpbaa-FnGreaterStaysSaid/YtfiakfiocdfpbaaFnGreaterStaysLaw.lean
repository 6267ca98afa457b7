/- Whatever its arguments are, FnGreaterStays returns true, and they read behind the call as before. Condition: none beyond the given row's. -/
import Derived.Test.YtfiakfiocdfpbaaRows
import Derived.Test.YtfiakfiocdfpbaaEnv
import Derived.Test.YtfiakfiocdfpbaaLin
import Derived.Test.YtfiakfiocdfpbaaXP1
import Derived.Test.YtfiakfiocdfpbaaXP2
import Derived.Test.YtfiakfiocdfpbaaXP3
import Derived.Test.YtfiakfiocdfpbaaXP4
import Derived.Test.YtfiakfiocdfpbaaXP5
set_option linter.unusedSimpArgs false
set_option linter.unusedVariables false
namespace Go.Proofs.Ytfiakfiocdfpbaa.VS
theorem qgm(xs:List (List DV))(h:qKs Try.prog Try.f7.params.toList xs):∃A B,qxm E [] 176 (qgf Try.prog Try.f7.params.toList xs) [] Ids.none=some ⟨.d (.bool true),A,B⟩:=by
 rw[Try.params7]at h⊢
 obtain⟨x0,rfl⟩:=qSy h;obtain⟨⟨_,s0⟩,_⟩:=h;obtain⟨g0,a0,rfl,h0⟩:=qrI Try.underlying22 Try.underlying5 s0;obtain⟨B,h⟩:=qjB a0 h0;obtain⟨A,B',h2⟩:=qwm xok (k:=176) (vs:=[qqU g0 a0]) ⟨B,by simpa[DV.clrs,qCh,qsH,qxa]using h⟩;exact⟨A,B',by simpa[qgf,qb0,TT.enc,Try.underlying22]using h2⟩
set_option maxRecDepth 100000 in
theorem qf4(os:Os)(started:os.Started)(H:Type)(enc:TypeId×Value->H):
 ReturnsInHanded {} Try.checked os 7 .any (Rows.fnGreaterStaysSpec.pre6 enc Try.prog Try.f7 Rows.fnGreaterStaysRow.domain false) (Rows.fnGreaterStaysSpec.post enc Try.prog Try.f7 false true false false):=
 qwz (C:=Try.checked) (k:=176) (E:=E) (S:=[22,5]) (tb:=4) qN4 (by kernel_rfl) started (by kernel_rfl) rfl (by kernel_rfl) Try.func7 rfl (by kernel_rfl) (by kernel_rfl) (by kernel_rfl) (by kernel_rfl) Try.underlying4
  (fun ds hd=>by match ds,hd with| [a0],_=>rfl)
  (ChangeSpec.witness6 (enc:=enc) (C:=Try.checked) false ⟨#[],#[.slice none 0 0],[]⟩ 8 (by kernel_rfl) (by kernel_rfl) (by kernel_rfl) (by kernel_rfl))
  qgm
theorem overFnGreaterStays:Rows.fnGreaterStaysRow.holds Try.pinned (OpenSpec.ofChange Rows.fnGreaterStaysSpec):=
 OpenClaim.holds_of_wide 7 Try.f7 rfl rfl rfl rfl rfl rfl rfl ⟨rfl,rfl,rfl,rfl,rfl⟩ rfl rfl rfl rfl rfl (by kernel_rfl) Try.func7 (by kernel_rfl)
  (of_decide_eq_true (by kernel_rfl)) (by unfold Func.isWrapper;first|(rw[if_pos (by decide+kernel)];kernel_rfl)|(rw[if_neg (by decide+kernel)];exact⟨rfl,rfl⟩))
  (fun os started H enc _=>qf4 os started H enc)
end Go.Proofs.Ytfiakfiocdfpbaa.VS
namespace Go.Proofs.Ytfiakfiocdfpbaa
theorem fnGreaterStays_said:Rows.FnGreaterStaysSaid:=VS.overFnGreaterStays
#print axioms fnGreaterStays_said
end Go.Proofs.Ytfiakfiocdfpbaa
