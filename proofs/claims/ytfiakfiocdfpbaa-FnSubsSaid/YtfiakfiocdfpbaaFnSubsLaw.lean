/- Whatever its arguments are, FnSubs returns true, and they read behind the call as before. Condition: none beyond the given row's. -/
import Derived.Test.YtfiakfiocdfpbaaRows
import Derived.Test.YtfiakfiocdfpbaaEnv
import Derived.Test.YtfiakfiocdfpbaaLin
import Derived.Test.YtfiakfiocdfpbaaXP1
import Derived.Test.YtfiakfiocdfpbaaXP2
import Derived.Test.YtfiakfiocdfpbaaXP3
import Derived.Test.YtfiakfiocdfpbaaXP4
import Derived.Test.YtfiakfiocdfpbaaXP5
set_option linter.unusedSimpArgs false
set_option linter.unusedVariables false
namespace Go.Proofs.Ytfiakfiocdfpbaa.VS
theorem qsz(xs:List (List DV))(h:qLa Try.prog Try.f8.params.toList xs):∃A B,qxn E [] 132 (qgJ Try.prog Try.f8.params.toList xs) [] Ids.none=some ⟨.d (.bool true),A,B⟩:=by
 rw[Try.params8]at h⊢
 obtain⟨x0,rfl⟩:=qSO h;obtain⟨⟨_,s0⟩,_⟩:=h;obtain⟨g0,a0,rfl,h0⟩:=qrY Try.underlying22 Try.underlying5 s0;obtain⟨B,h⟩:=qF1 a0 h0;obtain⟨A,B',h2⟩:=qwq xok (k:=132) (vs:=[qq6 g0 a0]) ⟨B,by simpa[DV.clrs,qCm,qs9,qxb]using h⟩;exact⟨A,B',by simpa[qgJ,qb3,TT.enc,Try.underlying22]using h2⟩
set_option maxRecDepth 100000 in
theorem qqq(os:Os)(started:os.Started)(H:Type)(enc:TypeId×Value->H):
 ReturnsInHanded {} Try.checked os 8 .any (Rows.fnSubsSpec.pre6 enc Try.prog Try.f8 Rows.fnSubsRow.domain false) (Rows.fnSubsSpec.post enc Try.prog Try.f8 false true false false):=
 qwB (C:=Try.checked) (k:=132) (E:=E) (S:=[22,5]) (tb:=4) qOu (by kernel_rfl) started (by kernel_rfl) rfl (by kernel_rfl) Try.func8 rfl (by kernel_rfl) (by kernel_rfl) (by kernel_rfl) (by kernel_rfl) Try.underlying4
  (fun ds hd=>by match ds,hd with| [a0],_=>rfl)
  (ChangeSpec.witness6 (enc:=enc) (C:=Try.checked) false ⟨#[],#[.slice none 0 0],[]⟩ 8 (by kernel_rfl) (by kernel_rfl) (by kernel_rfl) (by kernel_rfl))
  qsz
theorem overFnSubs:Rows.fnSubsRow.holds Try.pinned (OpenSpec.ofChange Rows.fnSubsSpec):=
 OpenClaim.holds_of_wide 8 Try.f8 rfl rfl rfl rfl rfl rfl rfl ⟨rfl,rfl,rfl,rfl,rfl⟩ rfl rfl rfl rfl rfl (by kernel_rfl) Try.func8 (by kernel_rfl)
  (of_decide_eq_true (by kernel_rfl)) (by unfold Func.isWrapper;first|(rw[if_pos (by decide+kernel)];kernel_rfl)|(rw[if_neg (by decide+kernel)];exact⟨rfl,rfl⟩))
  (fun os started H enc _=>qqq os started H enc)
end Go.Proofs.Ytfiakfiocdfpbaa.VS
namespace Go.Proofs.Ytfiakfiocdfpbaa
theorem fnSubs_said:Rows.FnSubsSaid:=VS.overFnSubs
#print axioms fnSubs_said
end Go.Proofs.Ytfiakfiocdfpbaa
