/- Functions of the library that are told by what they compute. -/
import Derived.Test.YtpcoohnjllclnaaEngC
import Derived.Test.YtpcoohnjllclnaaNat0
set_option linter.unusedSimpArgs false
set_option linter.unusedVariables false
namespace Go.Proofs.Ytpcoohnjllclnaa.VS
theorem qof:∀{l:List Int} {ys:List DV},DV.fits (l.map (.int .i64)) ys->ys=l.map (.int .i64)
 | [],ys,h=>by simpa[DV.fits]using h
 |s::l,ys,h=>by
  simp only[List.map_cons,DV.fits,DV.fit]at h;obtain⟨v,vs,rfl,rfl,h3⟩:=h;rw[qof h3];rfl
theorem qn8:∀l:List Int,DV.fits (l.map (.int .i64)) (l.map (.int .i64))
 | []=>by simp[DV.fits]
 |s::l=>by simp only[List.map_cons,DV.fits,DV.fit];exact⟨_,_,rfl,rfl,qn8 l⟩
theorem qn7:∀(l:List Int) (ys:List DV),DV.owns (l.map (.int .i64)) ys=[]
 | [],ys=>by simp[DV.owns]
 |s::l,ys=>by cases ys<;>simp[DV.owns,DV.own,qn7 l]
theorem qlm:∀{rs:List DV} {l:List (List Int)} {ys:List DV},qbp rs=some l->DV.fits rs ys->qbp ys=some l
 | [],l,ys,h,hf=>by simp[DV.fits]at hf;subst hf;exact h
 | .sl t xs::rs,l,ys,h,hf=>by
  simp only[qbp]at h;obtain⟨zs,h1,h2⟩:=Option.bind_eq_some_iff.1 h;obtain⟨l',h3,rfl⟩:=Option.map_eq_some_iff.1 h2;simp only[DV.fits,DV.fit]at hf;obtain⟨v,vs,rfl,⟨g',ys',rfl,h4,_⟩,h5⟩:=hf;rw[qjE h1]at h4;have h6:=qof h4;subst h6;simp[qbp,qho,qlm h3 h5]
 | .int _ _::r,l,_,h,_=>by simp[qbp]at h
 | .str _::r,l,_,h,_=>by simp[qbp]at h
 | .bool _::r,l,_,h,_=>by simp[qbp]at h
 | .agg _::r,l,_,h,_=>by simp[qbp]at h
 | .tup _::r,l,_,h,_=>by simp[qbp]at h
theorem qsy:qwy qef (qs6 qef):=by
 intro ds v h es p hf
 match ds,h with
 | [.sl t rs],h=>
  unfold qef at h;obtain⟨l,hl,h⟩:=Option.bind_eq_some_iff.1 h;split at h
  case isFalse=>simp at h
  rename_i hle;simp only[Option.some.injEq]at h;subst h;simp only[DV.fits,DV.fit]at hf;obtain⟨v1,vs1,rfl,⟨g',ys,rfl,h2,_⟩,rfl⟩:=hf;have hys:=qlm hl h2;have hne:l.flatten≠[]:=by
   obtain⟨hl0,hln,_⟩:=hle;cases l with
   |nil=>exact absurd rfl hl0
   |cons x r=>
    have:=hln x List.mem_cons_self;cases x with
    |nil=>exact absurd rfl this
    |cons a b=>simp
  have hown:qFB p (.sl (.own [] 0) (l.flatten.map (.int .i64)))=(.sl (.own (0::p) 1) (l.flatten.map (.int .i64)),Ids.add (0::p) Ids.none):=by
   cases hq:l.flatten with
   |nil=>exact absurd hq hne
   |cons a r=>rfl
  have hlen:(List.map (DV.int .i64) l.flatten).length≠0:=by rw[List.length_map];exact fun h=>hne (List.length_eq_zero_iff.1 h)
  have ho:DV.own (.sl (.own [] 0) (l.flatten.map (.int .i64))) (.sl (.own (0::p) 1) (l.flatten.map (.int .i64)))=[0::p]:=by
   simp only[DV.own];rw[if_pos ⟨rfl,hlen⟩,qn7];rfl
  refine⟨.sl (.own (0::p) 1) (l.flatten.map (.int .i64)),Ids.add (0::p) Ids.none,?_,?_,?_,?_,?_⟩
  ·simp only[qs6,List.map_cons,List.map_nil,qat,Option.map_some,Option.bind_some,qef,hys,if_pos hle]
   rw[hown]
  ·simp only[DV.fit]
   refine⟨_,_,rfl,qn8 _,.inr ⟨rfl,.inr ⟨hlen,_,_,rfl,fun e he=> ?_⟩⟩⟩;obtain⟨y,_,rfl⟩:=List.mem_map.1 he;rfl
  ·rw[ho];simp
  ·intro a ha
   rw[ho]at ha;simp at ha;subst ha;simp[Ids.add]
  ·intro a ha
   simp only[Ids.add,Ids.none,Bool.or_false,decide_eq_true_eq]at ha;subst ha;exact Fut.self p 0
end Go.Proofs.Ytpcoohnjllclnaa.VS
