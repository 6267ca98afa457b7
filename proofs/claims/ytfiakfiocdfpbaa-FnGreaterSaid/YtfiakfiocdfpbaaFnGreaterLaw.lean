/- Whatever its arguments are, FnGreater returns true, and they read behind the call as before. Condition: none beyond the given row's. -/
import Derived.Test.YtfiakfiocdfpbaaRows
import Derived.Test.YtfiakfiocdfpbaaEnv
import Derived.Test.YtfiakfiocdfpbaaLin
import Derived.Test.YtfiakfiocdfpbaaXP1
import Derived.Test.YtfiakfiocdfpbaaXP2
import Derived.Test.YtfiakfiocdfpbaaXP3
set_option linter.unusedSimpArgs false
set_option linter.unusedVariables false
namespace Go.Proofs.Ytfiakfiocdfpbaa.VS
theorem qjT(xs:List (List DV))(h:qDp Try.prog Try.f6.params.toList xs):∃A B,qsr E [] 363 (qfj Try.prog Try.f6.params.toList xs) [] Ids.none=some ⟨.d (.bool true),A,B⟩:=by
 rw[Try.params6]at h⊢
 obtain⟨x0,rfl⟩:=qKz h;obtain⟨⟨_,s0⟩,_⟩:=h;obtain⟨g0,a0,rfl,h0⟩:=qnZ Try.underlying22 Try.underlying5 s0;obtain⟨B,h⟩:=qoP a0 h0;obtain⟨A,B',h2⟩:=qrz xok (k:=363) (vs:=[qnl g0 a0]) ⟨B,by simpa[DV.clrs,qwl,qoJ,qsg]using h⟩;exact⟨A,B',by simpa[qfj,qbI,TT.enc,Try.underlying22]using h2⟩
set_option maxRecDepth 100000 in
theorem qji(os:Os)(started:os.Started)(H:Type)(enc:TypeId×Value->H):
 ReturnsInHanded {} Try.checked os 6 .any (Rows.fnGreaterSpec.pre6 enc Try.prog Try.f6 Rows.fnGreaterRow.domain false) (Rows.fnGreaterSpec.post enc Try.prog Try.f6 false true false false):=
 qrJ (C:=Try.checked) (k:=363) (E:=E) (S:=[22,5]) (tb:=4) qGA (by kernel_rfl) started (by kernel_rfl) rfl (by kernel_rfl) Try.func6 rfl (by kernel_rfl) (by kernel_rfl) (by kernel_rfl) (by kernel_rfl) Try.underlying4
  (fun ds hd=>by match ds,hd with| [a0],_=>rfl)
  (ChangeSpec.witness6 (enc:=enc) (C:=Try.checked) false ⟨#[],#[.slice none 0 0],[]⟩ 8 (by kernel_rfl) (by kernel_rfl) (by kernel_rfl) (by kernel_rfl))
  qjT
theorem overFnGreater:Rows.fnGreaterRow.holds Try.pinned (OpenSpec.ofChange Rows.fnGreaterSpec):=
 OpenClaim.holds_of_wide 6 Try.f6 rfl rfl rfl rfl rfl rfl rfl ⟨rfl,rfl,rfl,rfl,rfl⟩ rfl rfl rfl rfl rfl (by kernel_rfl) Try.func6 (by kernel_rfl)
  (of_decide_eq_true (by kernel_rfl)) (by unfold Func.isWrapper;first|(rw[if_pos (by decide+kernel)];kernel_rfl)|(rw[if_neg (by decide+kernel)];exact⟨rfl,rfl⟩))
  (fun os started H enc _=>qji os started H enc)
end Go.Proofs.Ytfiakfiocdfpbaa.VS
namespace Go.Proofs.Ytfiakfiocdfpbaa
theorem fnGreater_said:Rows.FnGreaterSaid:=VS.overFnGreater
#print axioms fnGreater_said
end Go.Proofs.Ytfiakfiocdfpbaa
