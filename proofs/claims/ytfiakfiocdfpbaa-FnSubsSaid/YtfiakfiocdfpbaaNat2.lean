/- Functions of the library that are told by what they compute. -/
import Derived.Test.YtfiakfiocdfpbaaEngC
import Derived.Test.YtfiakfiocdfpbaaNat0
set_option linter.unusedSimpArgs false
set_option linter.unusedVariables false
namespace Go.Proofs.Ytfiakfiocdfpbaa.VS
theorem qqK:∀{l:List ByteArray} {ys:List DV},DV.fits (l.map .str) ys->ys=l.map .str
 | [],ys,h=>by simpa[DV.fits]using h
 |s::l,ys,h=>by
  simp only[List.map_cons,DV.fits,DV.fit]at h;obtain⟨v,vs,rfl,rfl,h3⟩:=h;rw[qqK h3];rfl
theorem qmE:∀l:List ByteArray,strsOf (l.map .str)=some l
 | []=>rfl
 |s::l=>by simp[strsOf,qmE l]
theorem qFc:qCX qmn (qxD qmn):=by
 intro ds v h es p hf
 match ds,h with
 | [.sl t xs,.str sep],h=>
  unfold qmn at h;obtain⟨l,hl,h⟩:=Option.bind_eq_some_iff.1 h;split at h
  case isFalse=>simp at h
  rename_i hle;simp only[Option.some.injEq]at h;subst h;have hxs:=qkl hl;simp only[DV.fits,DV.fit]at hf;obtain⟨v1,vs1,rfl,⟨g',ys,rfl,h2,_⟩,v2,vs2,rfl,rfl,rfl⟩:=hf;rw[hxs]at h2;have hys:=qqK h2;subst hys;refine⟨.str (qwE l sep),Ids.none,?_,rfl,?_,?_,?_⟩
  ·simp only[qxD,List.map_cons,List.map_nil,qaC,Option.map_some,Option.bind_some,qmn,qmE,if_pos hle,qQA]
  ·simp[DV.own]
  ·simp[DV.own]
  ·intro a ha;simp[Ids.none]at ha
end Go.Proofs.Ytfiakfiocdfpbaa.VS
