/- Functions of the library that are told by what they compute. -/
import Derived.Test.YtbcbkiaineacpaaGreatEngC
import Derived.Test.YtbcbkiaineacpaaGreatNat0
set_option linter.unusedSimpArgs false
set_option linter.unusedVariables false
namespace Go.Proofs.YtbcbkiaineacpaaGreat.VS
mutual
theorem qUx:∀(x y:DV),x.fit y->x.sh.fit y.sh/\x.sh.own y.sh=[]
 | .sl t xs,y,h=>by
  simp only[DV.fit]at h;obtain⟨t',ys,rfl,h1,h2⟩:=h;obtain⟨h3,h4⟩:=qhT xs ys h1;have ht:t≠.nil:=by
   rcases h2 with rfl|⟨rfl,_⟩
   ·simp
   ·simp[U]
  simp only[DV.sh,if_neg ht,DV.fit,DV.own];exact⟨⟨_,_,rfl,h3,.inl rfl⟩,by rw[h4];simp[U]⟩
 | .agg cs,y,h=>by
  simp only[DV.fit]at h;obtain⟨ds,rfl,h1⟩:=h;obtain⟨h3,h4⟩:=qhT cs ds h1;simp only[DV.sh,DV.fit,DV.own];exact⟨⟨_,rfl,h3⟩,h4⟩
 | .tup cs,y,h=>by
  simp only[DV.fit]at h;obtain⟨ds,rfl,h1⟩:=h;obtain⟨h3,h4⟩:=qhT cs ds h1;simp only[DV.sh,DV.fit,DV.own];exact⟨⟨_,rfl,h3⟩,h4⟩
 | .int k n,y,h=>by simp only[DV.fit]at h;subst h;simp[DV.sh,DV.fit,DV.own]
 | .bool b,y,h=>by simp only[DV.fit]at h;subst h;simp[DV.sh,DV.fit,DV.own]
 | .str s,y,h=>by simp only[DV.fit]at h;subst h;simp[DV.sh,DV.fit,DV.own]
theorem qhT:∀(xs ys:List DV),DV.fits xs ys->DV.fits (DV.shs xs) (DV.shs ys)/\DV.owns (DV.shs xs) (DV.shs ys)=[]
 | [],ys,h=>by simp only[DV.fits]at h;subst h;simp[DV.shs,DV.fits,DV.owns]
 |x::xs,ys,h=>by
  simp only[DV.fits]at h;obtain⟨v,vs,rfl,h1,h2⟩:=h;obtain⟨a1,a2⟩:=qUx x v h1;obtain⟨b1,b2⟩:=qhT xs vs h2;simp only[DV.shs,DV.fits,DV.owns];exact⟨⟨_,_,rfl,a1,b1⟩,by rw[a2,b2];rfl⟩
end
theorem qy6{xs ys:List DV}(h:DV.fits xs ys):DV.fits (xs.map DV.sh) (ys.map DV.sh)/\DV.owns (xs.map DV.sh) (ys.map DV.sh)=[]:=by
 have:=qhT xs ys h;rwa[qe2,qe2]at this
theorem qsr{gv:Id->List AV->Option (DV×Ids)}{es:List DV}{p:Id}{xs ys:List DV}(h:DV.fits xs ys)(hg:gv p (es.map .d)=some (.sl .sub (ys.map DV.sh),Ids.none)):
 ∃u A1,gv p (es.map .d)=some (u,A1)/\(DV.sl .sub (xs.map DV.sh)).fit u/\((DV.sl .sub (xs.map DV.sh)).own u).Nodup/\(∀a,a∈(DV.sl .sub (xs.map DV.sh)).own u->A1 a=true)/\∀a,A1 a=true->Fut p 0 a:=by
 obtain⟨h1,h2⟩:=qy6 h;have ho:(DV.sl .sub (xs.map DV.sh)).own (.sl .sub (ys.map DV.sh))=[]:=by simp only[DV.own];rw[h2];simp[U]
 refine⟨_,_,hg,?_,?_,?_,?_⟩
 ·simp only[DV.fit];exact⟨_,_,rfl,h1,.inl rfl⟩
 ·rw[ho];simp
 ·rw[ho];simp
 ·intro a ha;simp[Ids.none]at ha
theorem qiO(ds:List DV):qaG (ds.map .d)=some ds:=by
 induction ds with
 |nil=>rfl
 |cons x xs ih=>simp[qaG,ih]
theorem qIU{x y:DV}(h:x.fit y)(ht:qet x=true):qet y=true:=by
 unfold qet at ht;split at ht
 ·simp only[DV.fit,DV.fits]at h
  obtain⟨ds,rfl,v1,vs1,rfl,rfl,v2,vs2,rfl,rfl,v3,vs3,rfl,⟨g',ys,rfl,_⟩,rfl⟩:=h;rfl
 ·simp at ht
theorem qUy{x y:DV}{v:Int}(h:x.fit y)(ht:qPF x=some v):qPF y=some v:=by
 unfold qPF at ht;split at ht
 ·simp only[Option.some.injEq]at ht
  subst ht;simp only[DV.fit,DV.fits]at h;obtain⟨ds,rfl,v0,vs0,rfl,rfl,v1,vs1,rfl,rfl,v2,vs2,rfl,rfl,v3,vs3,rfl,⟨g',ys,rfl,_⟩,rfl⟩:=h;rfl
 ·simp at ht
theorem qnh:∀{xs ys:List DV},DV.fits xs ys->xs.all qet=true->ys.all qet=true
 | [],ys,h,_=>by simp only[DV.fits]at h;subst h;rfl
 |x::xs,ys,h,ha=>by
  simp only[DV.fits]at h;obtain⟨v,vs,rfl,h1,h2⟩:=h;simp only[List.all_cons,Bool.and_eq_true]at ha⊢
  exact⟨qIU h1 ha.1,qnh h2 ha.2⟩
theorem qxh:∀{xs ys:List DV} {vs:List Int},DV.fits xs ys->qjE xs=some vs->qjE ys=some vs
 | [],ys,vs,h,ha=>by simp only[DV.fits]at h;subst h;exact ha
 |x::xs,ys,vs,h,ha=>by
  simp only[DV.fits]at h;obtain⟨v,ws,rfl,h1,h2⟩:=h;simp only[qjE]at ha⊢
  obtain⟨n,a1,ha⟩:=yb_.1 ha;obtain⟨ns,a2,rfl⟩:=ya_.1 ha;rw[qUy h1 a1,qxh h2 a2];rfl
theorem qra:∀{xs ys:List DV} {l:List (List DV)},DV.fits xs ys->rowsOf xs=some l->∃l',rowsOf ys=some l'/\DV.fits l.flatten l'.flatten
 | [],ys,l,h,ha=>by simp only[DV.fits]at h;subst h;simp[rowsOf]at ha;subst ha;exact⟨[],rfl,by simp[DV.fits]⟩
 | .sl t xs::r,ys,l,h,ha=>by
  simp only[DV.fits,DV.fit]at h;obtain⟨v,ws,rfl,⟨g',zs,rfl,h1,_⟩,h2⟩:=h;simp only[rowsOf]at ha;obtain⟨l0,a2,rfl⟩:=ya_.1 ha;obtain⟨l',b1,b2⟩:=qra h2 a2;exact⟨zs::l',by simp[rowsOf,b1],by rw[List.flatten_cons,List.flatten_cons];exact DV.qaZ h1 b2⟩
 | .int _ _::r,ys,l,h,ha=>by simp[rowsOf]at ha
 | .bool _::r,ys,l,h,ha=>by simp[rowsOf]at ha
 | .str _::r,ys,l,h,ha=>by simp[rowsOf]at ha
 | .agg _::r,ys,l,h,ha=>by simp[rowsOf]at ha
 | .tup _::r,ys,l,h,ha=>by simp[rowsOf]at ha
theorem qOV{x y:DV}(h:x.fit y):y.cells.length=x.cells.length:=by
 cases x<;>simp only[DV.fit]at h
 case agg cs=>obtain⟨ds,rfl,h1⟩:=h;simp only[DV.cells];exact(DV.qan h1).symm
 case sl t xs=>obtain⟨g',ys,rfl,_⟩:=h;rfl
 case tup cs=>obtain⟨ds,rfl,_⟩:=h;rfl
 all_goals (subst h;rfl)
theorem qrb{s:Nat}:∀{xs ys:List DV},DV.fits xs ys->xs.all (fun x=>decide (x.cells.length=s))=true->ys.all (fun x=>decide (x.cells.length=s))=true
 | [],ys,h,_=>by simp only[DV.fits]at h;subst h;rfl
 |x::xs,ys,h,ha=>by
  simp only[DV.fits]at h;obtain⟨v,vs,rfl,h1,h2⟩:=h;simp only[List.all_cons,Bool.and_eq_true,decide_eq_true_eq]at ha⊢
  exact⟨by rw[qOV h1];exact ha.1,qrb h2 ha.2⟩
theorem qsj:qr1 qdg (qme qdg):=by
 intro ds v h es p hf
 match ds,h with
 | [.sl t xs,.int .i64 i],h=>
  simp only[qdg]at h;split at h
  case isFalse=>simp at h
  rename_i hle;simp only[Option.some.injEq]at h;subst h;simp only[DV.fits,DV.fit]at hf;obtain⟨v1,vs1,rfl,⟨g',ys,rfl,h2,_⟩,v2,vs2,rfl,rfl,rfl⟩:=hf;have hl:=DV.qan h2;refine qsr (DV.qaZ (DV.qbl h2 i.toNat) (DV.qbs h2 (i.toNat+1))) ?_;unfold qme;rw[qiO];simp only[Option.bind_some,qdg];rw[if_pos ⟨qnh h2 hle.1,hle.2.1,by rw[<-hl];exact hle.2.2.1,by rw[<-hl];exact hle.2.2.2⟩];rfl
theorem qNW:qr1 qGj (qme qGj):=by
 intro ds v h es p hf
 match ds,h with
 | [.sl t xs,.int .i64 m,.agg [.int .i64 a,.int .i64 b,.sl t' ks]],h=>
  simp only[qGj]at h;obtain⟨vs,hvs,h⟩:=yb_.1 h;split at h
  case isFalse=>simp at h
  rename_i hle;simp only[Option.some.injEq]at h;subst h;simp only[DV.fits]at hf;obtain⟨v1,vs1,rfl,hf1,v2,vs2,rfl,hf2,v3,vs3,rfl,hf3,rfl⟩:=hf;simp only[DV.fit]at hf1 hf2;obtain⟨g',ys,rfl,h2,_⟩:=hf1;subst hf2;have hf4:=hf3;simp only[DV.fit,DV.fits]at hf4;obtain⟨ds,rfl,w1,ws1,rfl,rfl,w2,ws2,rfl,rfl,w3,ws3,rfl,⟨g2,zs,rfl,h3,h4⟩,rfl⟩:=hf4;have hl:=DV.qan h2;have hb:DV.fit (.agg [.int .i64 m,.int .i64 a,.int .i64 b,.sl t' ks]) (.agg [.int .i64 m,.int .i64 a,.int .i64 b,.sl g2 zs]):=by
   simp only[DV.fit,DV.fits];exact⟨_,rfl,_,_,rfl,rfl,_,_,rfl,rfl,_,_,rfl,rfl,_,_,rfl,⟨_,_,rfl,h3,h4⟩,rfl⟩
  refine qsr (DV.qaZ (DV.qbl h2 (qzZ vs m)) (c:=_) (d:=DV.agg [.int .i64 m,.int .i64 a,.int .i64 b,.sl g2 zs]::ys.drop (qzZ vs m)) (by simp only[DV.fits];exact⟨_,_,rfl,hb,DV.qbs h2 _⟩)) ?_;unfold qme;rw[qiO];simp only[Option.bind_some,qGj];rw[qxh h2 hvs];simp only[Option.bind_some];rw[if_pos (by rw[<-hl];exact hle)];rfl
theorem qPD{sz by_:Nat}:qr1 (qGl sz by_) (qme (qGl sz by_)):=by
 intro ds v h es p hf
 match ds,h with
 | [.sl t rs],h=>
  simp only[qGl]at h;obtain⟨l,hl,h⟩:=yb_.1 h;split at h
  case isFalse=>simp at h
  rename_i hle;simp only[Option.some.injEq]at h;subst h;simp only[DV.fits,DV.fit]at hf;obtain⟨v1,vs1,rfl,⟨g',ys,rfl,h2,_⟩,rfl⟩:=hf;obtain⟨l',h3,h4⟩:=qra h2 hl;have hln:=DV.qan h4;refine qsr h4 ?_;unfold qme;rw[qiO];simp only[Option.bind_some,qGl];rw[h3];simp only[Option.bind_some];rw[if_pos ⟨qrb h4 hle.1,by rw[<-hln];exact hle.2.1,by rw[<-hln];exact hle.2.2⟩];rfl
end Go.Proofs.YtbcbkiaineacpaaGreat.VS
