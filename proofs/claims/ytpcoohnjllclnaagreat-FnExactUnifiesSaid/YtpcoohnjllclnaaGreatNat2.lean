/- Functions of the library that are told by what they compute. -/
import Derived.Test.YtpcoohnjllclnaaGreatEngC
import Derived.Test.YtpcoohnjllclnaaGreatNat0
set_option linter.unusedSimpArgs false
set_option linter.unusedVariables false
namespace Go.Proofs.YtpcoohnjllclnaaGreat.VS
theorem Gg:∀{l:ax} {ys:aw},DV.fits (l.map (.int .i64)) ys->ys=l.map (.int .i64)
 | [],ys,h=>by simpa[DV.fits]using h
 |s::l,ys,h=>by simp only[bF,DV.fits,DV.fit]at h;obtain⟨v,vs,rfl,rfl,a⟩:=h;rw[Gg a];rfl
theorem Eg:∀l:ax,DV.fits (l.map (.int .i64)) (l.map (.int .i64))
 | []=>by simp[DV.fits]
 |s::l=>by simp only[bF,DV.fits,DV.fit];exact⟨_,_,rfl,rfl,Eg l⟩
theorem GN:∀(l:ax) (ys:aw),DV.owns (l.map (.int .i64)) ys=[]
 | [],ys=>by simp[DV.owns]
 |s::l,ys=>by cases ys<;>simp[DV.owns,DV.own,GN l]
theorem qBA:ra lP (cB lP):=by
 intro ds v h es p q
 match ds,h with
 | [.sl t xs,.int .i64 m],h=>
  unfold lP at h;obtain⟨l,z,h⟩:=aK.1 h;split at h
  case isFalse=>simp at h
  rename_i i;simp only[ca]at h;subst h;have j:=xV z;simp only[DV.fits,DV.fit]at q;obtain⟨v1,w,rfl,⟨g',ys,rfl,n,_⟩,v2,u,rfl,rfl,rfl⟩:=q;rw[j]at n;have k:=Gg n;subst k;have g:=Mt l m;have d:kY p (.sl (.own [] 0) ((cv l m).map (.int .i64)))=(.sl (.own (0::p) 1) ((cv l m).map (.int .i64)),Ids.add (0::p) Ids.none):=by
   cases hq:cv l m with
   |nil=>exact absurd hq g
   |cons a r=>rfl
  have b:(List.map (DV.int .i64) (cv l m)).length≠0:=by simpa using g
  have o:DV.own (.sl (.own [] 0) ((cv l m).map (.int .i64))) (.sl (.own (0::p) 1) ((cv l m).map (.int .i64)))=[0::p]:=by simp only[DV.own];rw[ay ⟨rfl,b⟩,GN];rfl
  refine⟨.sl (.own (0::p) 1) ((cv l m).map (.int .i64)),Ids.add (0::p) Ids.none,?_,?_,?_,?_,?_⟩
  ·simp only[cB,bF,bS,bd,b7,bO,lP,wN,ay i]
   rw[d]
  ·simp only[DV.fit]
   refine⟨_,_,rfl,Eg _,.inr ⟨rfl,.inr ⟨b,_,_,rfl,fun e s=> ?_⟩⟩⟩;obtain⟨y,_,rfl⟩:=cE.1 s;rfl
  ·rw[o];simp
  ·intro a c
   rw[o]at c;simp at c;subst c;simp[Ids.add]
  ·intro a c
   simp only[Ids.add,Ids.none,mf,cA]at c;subst c;exact Fut.self p 0
theorem I1:∀{b:aw} {l:List ax} {ys:aw},d7 b=some l->DV.fits b ys->d7 ys=some l
 | [],l,ys,h,a=>by simp[DV.fits]at a;subst a;exact h
 | .sl t xs::b,l,ys,h,a=>by simp only[d7]at h;obtain⟨m,d,e⟩:=aK.1 h;obtain⟨l',k,rfl⟩:=aN.1 e;simp only[DV.fits,DV.fit]at a;obtain⟨v,vs,rfl,⟨g',i,rfl,c,_⟩,g⟩:=a;rw[xV d]at c;have j:=Gg c;subst j;simp[d7,wN,I1 k g]
 | .int _ _::r,l,_,h,_=>by simp[d7]at h
 | .str _::r,l,_,h,_=>by simp[d7]at h
 | .bool _::r,l,_,h,_=>by simp[d7]at h
 | .agg _::r,l,_,h,_=>by simp[d7]at h
 | .tup _::r,l,_,h,_=>by simp[d7]at h
theorem qCb:ra lj (cB lj):=by
 intro ds v h es p m
 match ds,h with
 | [.sl t u],h=>
  unfold lj at h;obtain⟨l,s,h⟩:=aK.1 h;split at h
  case isFalse=>simp at h
  rename_i g;simp only[ca]at h;subst h;simp only[DV.fits,DV.fit]at m;obtain⟨v1,q,rfl,⟨g',ys,rfl,o,_⟩,rfl⟩:=m;have i:=I1 s o
  by_cases b:l.flatten=[]
  ·refine⟨.sl .nil [],Ids.none,?_,?_,?_,?_,fun a c=>by simp[Ids.none]at c⟩
   ·simp only[cB,bF,bS,bd,b7,bO,lj,i]
    rw[ay g,b];rfl
   ·rw[b]
    simp only[DV.fit,bS];exact⟨_,_,rfl,by simp[DV.fits],.inr ⟨rfl,.inl ⟨rfl,.inl rfl⟩⟩⟩
   ·rw[b];simp[DV.own,DV.owns]
   ·rw[b];simp[DV.own,DV.owns]
  have j:kY p (.sl (.own [] 0) (l.flatten.map (.int .i64)))=(.sl (.own (0::p) 1) (l.flatten.map (.int .i64)),Ids.add (0::p) Ids.none):=by
   cases hq:l.flatten with
   |nil=>exact absurd hq b
   |cons a r=>rfl
  have d:(List.map (DV.int .i64) l.flatten).length≠0:=by rw[cV];exact fun h=>b (ib.1 h)
  have k:DV.own (.sl (.own [] 0) (l.flatten.map (.int .i64))) (.sl (.own (0::p) 1) (l.flatten.map (.int .i64)))=[0::p]:=by simp only[DV.own];rw[ay ⟨rfl,d⟩,GN];rfl
  refine⟨.sl (.own (0::p) 1) (l.flatten.map (.int .i64)),Ids.add (0::p) Ids.none,?_,?_,?_,?_,?_⟩
  ·simp only[cB,bF,bS,bd,b7,bO,lj,i,ay g]
   rw[j]
  ·simp only[DV.fit]
   refine⟨_,_,rfl,Eg _,.inr ⟨rfl,.inr ⟨d,_,_,rfl,fun e n=> ?_⟩⟩⟩;obtain⟨y,_,rfl⟩:=cE.1 n;rfl
  ·rw[k];simp
  ·intro a c
   rw[k]at c;simp at c;subst c;simp[Ids.add]
  ·intro a c
   simp only[Ids.add,Ids.none,mf,cA]at c;subst c;exact Fut.self p 0
mutual
theorem q2b:∀(x y:DV),x.fit y->x.sh.fit y.sh/\x.sh.own y.sh=[]
 | .sl t xs,y,h=>by
  simp only[DV.fit]at h;obtain⟨i,ys,rfl,a,g⟩:=h;obtain⟨d,c⟩:=wU xs ys a;have e:t≠.nil:=by
   rcases g with rfl|⟨rfl,_⟩
   ·simp
   ·simp[U]
  simp only[DV.sh,aD e,DV.fit,DV.own];exact⟨⟨_,_,rfl,d,.inl rfl⟩,by rw[c];simp[U]⟩
 | .agg cs,y,h=>by simp only[DV.fit]at h;obtain⟨ds,rfl,a⟩:=h;obtain⟨d,c⟩:=wU cs ds a;simp only[DV.sh,DV.fit,DV.own];exact⟨⟨_,rfl,d⟩,c⟩
 | .tup cs,y,h=>by simp only[DV.fit]at h;obtain⟨ds,rfl,a⟩:=h;obtain⟨d,c⟩:=wU cs ds a;simp only[DV.sh,DV.fit,DV.own];exact⟨⟨_,rfl,d⟩,c⟩
 | .int k n,y,h=>by simp only[DV.fit]at h;subst h;simp[DV.sh,DV.fit,DV.own]
 | .bool b,y,h=>by simp only[DV.fit]at h;subst h;simp[DV.sh,DV.fit,DV.own]
 | .str s,y,h=>by simp only[DV.fit]at h;subst h;simp[DV.sh,DV.fit,DV.own]
theorem wU:∀(xs ys:aw),DV.fits xs ys->DV.fits (DV.shs xs) (DV.shs ys)/\DV.owns (DV.shs xs) (DV.shs ys)=[]
 | [],ys,h=>by simp only[DV.fits]at h;subst h;simp[DV.shs,DV.fits,DV.owns]
 |x::xs,ys,h=>by simp only[DV.fits]at h;obtain⟨v,vs,rfl,b,d⟩:=h;obtain⟨e,g⟩:=q2b x v b;obtain⟨a,c⟩:=wU xs vs d;simp only[DV.shs,DV.fits,DV.owns];exact⟨⟨_,_,rfl,e,a⟩,by rw[g,c];rfl⟩
end
variable{xs ys:aw}
theorem TY(h:DV.fits xs ys):DV.fits (xs.map DV.sh) (ys.map DV.sh)/\DV.owns (xs.map DV.sh) (ys.map DV.sh)=[]:=by have:=wU xs ys h;rwa[p8,p8]at this
theorem GX{gv:Id->aH->uh}{es:aw}{p:Id}(h:DV.fits xs ys)(i:gv p (es.map .d)=some (.sl .sub (ys.map DV.sh),Ids.none)):
 ∃u b,gv p (es.map .d)=some (u,b)/\(DV.sl .sub (xs.map DV.sh)).fit u/\((DV.sl .sub (xs.map DV.sh)).own u).Nodup/\(∀a,a∈(DV.sl .sub (xs.map DV.sh)).own u->b a=true)/\∀a,b a=true->Fut p 0 a:=by
 obtain⟨g,j⟩:=TY h;have c:(DV.sl .sub (xs.map DV.sh)).own (.sl .sub (ys.map DV.sh))=[]:=by simp only[DV.own];rw[j];simp[U]
 refine⟨_,_,i,?_,?_,?_,?_⟩
 ·simp only[DV.fit];exact⟨_,_,rfl,g,.inl rfl⟩
 ·rw[c];simp
 ·rw[c];simp
 ·intro a e;simp[Ids.none]at e
theorem Gq(ds:aw):bd (ds.map .d)=some ds:=by
 induction ds with
 |nil=>rfl
 |cons x xs a=>simp[bd,a]
variable{x y:DV}
theorem JO(h:x.fit y)(a:k_ x=true):k_ y=true:=by
 unfold k_ at a;split at a
 ·simp only[DV.fit,DV.fits]at h
  obtain⟨ds,rfl,v1,b,rfl,rfl,v2,d,rfl,rfl,v3,c,rfl,⟨g',ys,rfl,_⟩,rfl⟩:=h;rfl
 ·simp at a
theorem Je:∀{xs ys:aw},DV.fits xs ys->xs.all k_=true->ys.all k_=true
 | [],ys,h,_=>by simp only[DV.fits]at h;subst h;rfl
 |x::xs,ys,h,a=>by
  simp only[DV.fits]at h;obtain⟨v,vs,rfl,b,c⟩:=h;simp only[fW,cb]at a⊢
  exact⟨JO b a.1,Je c a.2⟩
theorem M7:∀{xs ys:aw} {l:List aw},DV.fits xs ys->rowsOf xs=some l->∃l',rowsOf ys=some l'/\DV.fits l.flatten l'.flatten
 | [],ys,l,h,a=>by simp only[DV.fits]at h;subst h;simp[rowsOf]at a;subst a;exact⟨[],rfl,by simp[DV.fits]⟩
 | .sl t xs::r,ys,l,h,a=>by simp only[DV.fits,DV.fit]at h;obtain⟨v,k,rfl,⟨g',c,rfl,b,_⟩,d⟩:=h;simp only[rowsOf]at a;obtain⟨j,i,rfl⟩:=aN.1 a;obtain⟨l',e,g⟩:=M7 d i;exact⟨c::l',by simp[rowsOf,e],by rw[ls,ls];exact DV.qa5 b g⟩
 | .int _ _::r,ys,l,h,a=>by simp[rowsOf]at a
 | .bool _::r,ys,l,h,a=>by simp[rowsOf]at a
 | .str _::r,ys,l,h,a=>by simp[rowsOf]at a
 | .agg _::r,ys,l,h,a=>by simp[rowsOf]at a
 | .tup _::r,ys,l,h,a=>by simp[rowsOf]at a
theorem Wg(h:x.fit y):y.cells.length=x.cells.length:=by
 cases x<;>simp only[DV.fit]at h
 case agg cs=>obtain⟨ds,rfl,a⟩:=h;simp only[DV.cells];exact(DV.qao a).symm
 case sl t xs=>obtain⟨g',ys,rfl,_⟩:=h;rfl
 case tup cs=>obtain⟨ds,rfl,_⟩:=h;rfl
 all_goals (subst h;rfl)
theorem Nf{s:Nat}:∀{xs ys:aw},DV.fits xs ys->xs.all (fun x=>decide (x.cells.length=s))=true->ys.all (fun x=>decide (x.cells.length=s))=true
 | [],ys,h,_=>by simp only[DV.fits]at h;subst h;rfl
 |x::xs,ys,h,a=>by
  simp only[DV.fits]at h;obtain⟨v,vs,rfl,b,c⟩:=h;simp only[fW,cb,cA]at a⊢
  exact⟨by rw[Wg b];exact a.1,Nf c a.2⟩
theorem qvt:ra lM (cB lM):=by
 intro ds v h es p d
 match ds,h with
 | [.sl t xs,.int .i64 i],h=>
  simp only[lM]at h;split at h
  case isFalse=>simp at h
  rename_i a;simp only[ca]at h;subst h;simp only[DV.fits,DV.fit]at d;obtain⟨v1,g,rfl,⟨g',ys,rfl,b,_⟩,v2,e,rfl,rfl,rfl⟩:=d;have c:=DV.qao b;refine GX (DV.qa5 (DV.qbo b i.toNat) (DV.qbu b (i.toNat+1))) ?_;unfold cB;rw[Gq];simp only[bO,lM];rw[ay ⟨Je b a.1,a.2.1,by rw[<-c];exact a.2.2.1,by rw[<-c];exact a.2.2.2⟩];rfl
theorem Eo:∀{a:aw} {l:List aw},rowsOf a=some l->a.length=l.length
 | [],l,h=>by simp[rowsOf]at h;subst h;rfl
 | .sl _ ys::a,l,h=>by simp only[rowsOf]at h;obtain⟨l',b,rfl⟩:=aN.1 h;simp[Eo b]
 | .int _ _::_,_,h=>by simp[rowsOf]at h
 | .bool _::_,_,h=>by simp[rowsOf]at h
 | .str _::_,_,h=>by simp[rowsOf]at h
 | .agg _::_,_,h=>by simp[rowsOf]at h
 | .tup _::_,_,h=>by simp[rowsOf]at h
theorem SD{sz g:Nat}:ra (ki sz g) (cB (ki sz g)):=by
 intro ds v h es p q
 match ds,h with
 | [.sl t u],h=>
  simp only[ki]at h;obtain⟨l,n,h⟩:=aK.1 h;split at h
  case isFalse=>simp at h
  rename_i c;simp only[ca]at h;subst h;simp only[DV.fits,DV.fit]at q;obtain⟨v1,s,rfl,⟨g',ys,rfl,m,_⟩,rfl⟩:=q;obtain⟨l',o,j⟩:=M7 m n;have e:=DV.qao j;have k:l'.length=l.length:=by rw[<-Eo o,<-Eo n,DV.qao m]
  have b:cB (ki sz g) p ([DV.sl g' ys].map .d)=some (kY p (if l'.flatten.length=0 then .sl (.own [] 0) []else .sl .sub (l'.flatten.map DV.sh))):=by unfold cB;rw[Gq];simp only[bO,ki];rw[o];simp only[bO];rw[ay ⟨Nf j c.1,by rw[k];exact c.2.1,by rw[<-e];exact c.2.2⟩];rfl
  by_cases i:l.flatten.length=0
  ·rw[ay i]
   rw[ay (by rw[<-e];exact i)]at b;refine⟨.sl .nil [],Ids.none,b,?_,by simp[DV.own,DV.owns],by simp[DV.own,DV.owns],fun a r=>by simp[Ids.none]at r⟩;simp only[DV.fit];exact⟨_,_,rfl,by simp[DV.fits],.inr ⟨rfl,.inl ⟨rfl,.inl rfl⟩⟩⟩
  ·rw[aD i]
   rw[aD (by rw[<-e];exact i)]at b;exact GX j b
theorem Nb(h:x.fit y):∀k:Nat,DV.fits (List.replicate k x) (List.replicate k y)
 |0=>by simp[DV.fits]
 |k+1=>by rw[me,me];simp only[DV.fits];exact⟨_,_,rfl,h,Nb h k⟩
theorem Tr:ra lU (cB lU):=by
 intro ds v h es p c
 match ds,h with
 | [.sl t [x],.int .i64 i],h=>
  simp only[lU]at h;split at h
  case isFalse=>simp at h
  rename_i a;simp only[ca]at h;subst h;simp only[DV.fits,DV.fit]at c;obtain⟨v1,e,rfl,⟨g',ys,rfl,⟨y,g,rfl,b,rfl⟩,_⟩,v2,d,rfl,rfl,rfl⟩:=c;refine GX (Nb b i.toNat) ?_;unfold cB;rw[Gq];simp only[bO,lU];rw[ay ⟨JO b a.1,a.2⟩];rfl
end Go.Proofs.YtpcoohnjllclnaaGreat.VS
