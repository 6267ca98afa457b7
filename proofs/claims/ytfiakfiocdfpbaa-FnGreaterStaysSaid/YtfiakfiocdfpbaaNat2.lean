/- Functions of the library that are told by what they compute. -/
import Derived.Test.YtfiakfiocdfpbaaEngC
import Derived.Test.YtfiakfiocdfpbaaNat0
set_option linter.unusedSimpArgs false
set_option linter.unusedVariables false
namespace Go.Proofs.Ytfiakfiocdfpbaa.VS
theorem qqE:∀{l:List Int} {ys:List DV},DV.fits (l.map (.int .i64)) ys->ys=l.map (.int .i64)
 | [],ys,h=>by simpa[DV.fits]using h
 |s::l,ys,h=>by
  simp only[List.map_cons,DV.fits,DV.fit]at h;obtain⟨v,vs,rfl,rfl,h3⟩:=h;rw[qqE h3];rfl
theorem qqo:∀l:List Int,DV.fits (l.map (.int .i64)) (l.map (.int .i64))
 | []=>by simp[DV.fits]
 |s::l=>by simp only[List.map_cons,DV.fits,DV.fit];exact⟨_,_,rfl,rfl,qqo l⟩
theorem qqn:∀(l:List Int) (ys:List DV),DV.owns (l.map (.int .i64)) ys=[]
 | [],ys=>by simp[DV.owns]
 |s::l,ys=>by cases ys<;>simp[DV.owns,DV.own,qqn l]
theorem qwu:qCQ qed (qxz qed):=by
 intro ds v h es p hf
 match ds,h with
 | [.sl t xs,.int .i64 m],h=>
  unfold qed at h;obtain⟨l,hl,h⟩:=Option.bind_eq_some_iff.1 h;split at h
  case isFalse=>simp at h
  rename_i hle;simp only[Option.some.injEq]at h;subst h;have hxs:=qlx hl;simp only[DV.fits,DV.fit]at hf;obtain⟨v1,vs1,rfl,⟨g',ys,rfl,h2,_⟩,v2,vs2,rfl,rfl,rfl⟩:=hf;rw[hxs]at h2;have hys:=qqE h2;subst hys;have hne:=qmS l m;have hown:qQk p (.sl (.own [] 0) ((qaQ l m).map (.int .i64)))=(.sl (.own (0::p) 1) ((qaQ l m).map (.int .i64)),Ids.add (0::p) Ids.none):=by
   cases hq:qaQ l m with
   |nil=>exact absurd hq hne
   |cons a r=>rfl
  have hlen:(List.map (DV.int .i64) (qaQ l m)).length≠0:=by simpa using hne
  have ho:DV.own (.sl (.own [] 0) ((qaQ l m).map (.int .i64))) (.sl (.own (0::p) 1) ((qaQ l m).map (.int .i64)))=[0::p]:=by
   simp only[DV.own];rw[if_pos ⟨rfl,hlen⟩,qqn];rfl
  refine⟨.sl (.own (0::p) 1) ((qaQ l m).map (.int .i64)),Ids.add (0::p) Ids.none,?_,?_,?_,?_,?_⟩
  ·simp only[qxz,List.map_cons,List.map_nil,qaC,Option.map_some,Option.bind_some,qed,qib,if_pos hle]
   rw[hown]
  ·simp only[DV.fit]
   refine⟨_,_,rfl,qqo _,.inr ⟨rfl,.inr ⟨hlen,_,_,rfl,fun e he=> ?_⟩⟩⟩;obtain⟨y,_,rfl⟩:=List.mem_map.1 he;rfl
  ·rw[ho];simp
  ·intro a ha
   rw[ho]at ha;simp at ha;subst ha;simp[Ids.add]
  ·intro a ha
   simp only[Ids.add,Ids.none,Bool.or_false,decide_eq_true_eq]at ha;subst ha;exact Fut.self p 0
end Go.Proofs.Ytfiakfiocdfpbaa.VS
