/- Functions of the library that are told by what they compute. -/
import Derived.Test.YtpcoohnjllclnaaGreatEngC
import Derived.Test.YtpcoohnjllclnaaGreatNat0
set_option linter.unusedSimpArgs false
set_option linter.unusedVariables false
namespace Go.Proofs.YtpcoohnjllclnaaGreat.VS
theorem GP:∀{l:ax} {ys:aw},DV.fits (l.map (.int .i64)) ys->ys=l.map (.int .i64)
 | [],ys,h=>by simpa[DV.fits]using h
 |s::l,ys,h=>by simp only[bF,DV.fits,DV.fit]at h;obtain⟨v,vs,rfl,rfl,a⟩:=h;rw[GP a];rfl
theorem HU:∀l:ax,DV.fits (l.map (.int .i64)) (l.map (.int .i64))
 | []=>by simp[DV.fits]
 |s::l=>by simp only[bF,DV.fits,DV.fit];exact⟨_,_,rfl,rfl,HU l⟩
theorem GR:∀(l:ax) (ys:aw),DV.owns (l.map (.int .i64)) ys=[]
 | [],ys=>by simp[DV.owns]
 |s::l,ys=>by cases ys<;>simp[DV.owns,DV.own,GR l]
theorem qBP:qT lG (cD lG):=by
 intro ds v h es p o
 match ds,h with
 | [.sl t xs,.int .i64 m],h=>
  unfold lG at h;obtain⟨l,w,h⟩:=aL.1 h;split at h
  case isFalse=>simp at h
  rename_i j;simp only[ca]at h;subst h;have i:=yA w;simp only[DV.fits,DV.fit]at o;obtain⟨v1,z,rfl,⟨g',ys,rfl,n,_⟩,v2,u,rfl,rfl,rfl⟩:=o;rw[i]at n;have k:=GP n;subst k;have g:=JJ l m;have d:kQ p (.sl (.own [] 0) ((cv l m).map (.int .i64)))=(.sl (.own (0::p) 1) ((cv l m).map (.int .i64)),Ids.add (0::p) Ids.none):=by
   cases hq:cv l m with
   |nil=>exact absurd hq g
   |cons a r=>rfl
  have b:(List.map (DV.int .i64) (cv l m)).length≠0:=by simpa using g
  have q:DV.own (.sl (.own [] 0) ((cv l m).map (.int .i64))) (.sl (.own (0::p) 1) ((cv l m).map (.int .i64)))=[0::p]:=by simp only[DV.own];rw[ay ⟨rfl,b⟩,GR];rfl
  refine⟨.sl (.own (0::p) 1) ((cv l m).map (.int .i64)),Ids.add (0::p) Ids.none,?_,?_,?_,?_,?_⟩
  ·simp only[cD,bF,bT,bd,b9,bO,lG,xw,ay j]
   rw[d]
  ·simp only[DV.fit]
   refine⟨_,_,rfl,HU _,.inr ⟨rfl,.inr ⟨b,_,_,rfl,fun e s=> ?_⟩⟩⟩;obtain⟨y,_,rfl⟩:=cC.1 s;rfl
  ·rw[q];simp
  ·intro a c
   rw[q]at c;simp at c;subst c;simp[Ids.add]
  ·intro a c
   simp only[Ids.add,Ids.none,l6,cB]at c;subst c;exact Fut.self p 0
theorem KD:∀{b:aw} {l:List ax} {ys:aw},eb b=some l->DV.fits b ys->eb ys=some l
 | [],l,ys,h,a=>by simp[DV.fits]at a;subst a;exact h
 | .sl t xs::b,l,ys,h,a=>by simp only[eb]at h;obtain⟨m,e,i⟩:=aL.1 h;obtain⟨l',j,rfl⟩:=aN.1 i;simp only[DV.fits,DV.fit]at a;obtain⟨v,vs,rfl,⟨g',g,rfl,c,_⟩,k⟩:=a;rw[yA e]at c;have d:=GP c;subst d;simp[eb,xw,KD j k]
 | .int _ _::r,l,_,h,_=>by simp[eb]at h
 | .str _::r,l,_,h,_=>by simp[eb]at h
 | .bool _::r,l,_,h,_=>by simp[eb]at h
 | .agg _::r,l,_,h,_=>by simp[eb]at h
 | .tup _::r,l,_,h,_=>by simp[eb]at h
theorem Sq:qT kE (cD kE):=by
 intro ds v h es p k
 match ds,h with
 | [.sl t u],h=>
  unfold kE at h;obtain⟨l,q,h⟩:=aL.1 h;split at h
  case isFalse=>simp at h
  rename_i i;simp only[ca]at h;subst h;simp only[DV.fits,DV.fit]at k;obtain⟨v1,s,rfl,⟨g',ys,rfl,o,_⟩,rfl⟩:=k;have j:=KD q o
  by_cases b:l.flatten=[]
  ·refine⟨.sl .nil [],Ids.none,?_,?_,?_,?_,fun a d=>by simp[Ids.none]at d⟩
   ·simp only[cD,bF,bT,bd,b9,bO,kE,j]
    rw[ay i,b];rfl
   ·rw[b]
    simp only[DV.fit,bT];exact⟨_,_,rfl,by simp[DV.fits],.inr ⟨rfl,.inl ⟨rfl,.inl rfl⟩⟩⟩
   ·rw[b];simp[DV.own,DV.owns]
   ·rw[b];simp[DV.own,DV.owns]
  have g:kQ p (.sl (.own [] 0) (l.flatten.map (.int .i64)))=(.sl (.own (0::p) 1) (l.flatten.map (.int .i64)),Ids.add (0::p) Ids.none):=by
   cases hq:l.flatten with
   |nil=>exact absurd hq b
   |cons a r=>rfl
  have c:(List.map (DV.int .i64) l.flatten).length≠0:=by rw[cT];exact fun h=>b (gS.1 h)
  have m:DV.own (.sl (.own [] 0) (l.flatten.map (.int .i64))) (.sl (.own (0::p) 1) (l.flatten.map (.int .i64)))=[0::p]:=by simp only[DV.own];rw[ay ⟨rfl,c⟩,GR];rfl
  refine⟨.sl (.own (0::p) 1) (l.flatten.map (.int .i64)),Ids.add (0::p) Ids.none,?_,?_,?_,?_,?_⟩
  ·simp only[cD,bF,bT,bd,b9,bO,kE,j,ay i]
   rw[g]
  ·simp only[DV.fit]
   refine⟨_,_,rfl,HU _,.inr ⟨rfl,.inr ⟨c,_,_,rfl,fun e n=> ?_⟩⟩⟩;obtain⟨y,_,rfl⟩:=cC.1 n;rfl
  ·rw[m];simp
  ·intro a d
   rw[m]at d;simp at d;subst d;simp[Ids.add]
  ·intro a d
   simp only[Ids.add,Ids.none,l6,cB]at d;subst d;exact Fut.self p 0
mutual
theorem q2y:∀(x y:DV),x.fit y->x.sh.fit y.sh/\x.sh.own y.sh=[]
 | .sl t xs,y,h=>by
  simp only[DV.fit]at h;obtain⟨i,ys,rfl,a,g⟩:=h;obtain⟨c,d⟩:=yx xs ys a;have e:t≠.nil:=by
   rcases g with rfl|⟨rfl,_⟩
   ·simp
   ·simp[U]
  simp only[DV.sh,aC e,DV.fit,DV.own];exact⟨⟨_,_,rfl,c,.inl rfl⟩,by rw[d];simp[U]⟩
 | .agg cs,y,h=>by simp only[DV.fit]at h;obtain⟨ds,rfl,a⟩:=h;obtain⟨c,d⟩:=yx cs ds a;simp only[DV.sh,DV.fit,DV.own];exact⟨⟨_,rfl,c⟩,d⟩
 | .tup cs,y,h=>by simp only[DV.fit]at h;obtain⟨ds,rfl,a⟩:=h;obtain⟨c,d⟩:=yx cs ds a;simp only[DV.sh,DV.fit,DV.own];exact⟨⟨_,rfl,c⟩,d⟩
 | .int k n,y,h=>by simp only[DV.fit]at h;subst h;simp[DV.sh,DV.fit,DV.own]
 | .bool b,y,h=>by simp only[DV.fit]at h;subst h;simp[DV.sh,DV.fit,DV.own]
 | .str s,y,h=>by simp only[DV.fit]at h;subst h;simp[DV.sh,DV.fit,DV.own]
theorem yx:∀(xs ys:aw),DV.fits xs ys->DV.fits (DV.shs xs) (DV.shs ys)/\DV.owns (DV.shs xs) (DV.shs ys)=[]
 | [],ys,h=>by simp only[DV.fits]at h;subst h;simp[DV.shs,DV.fits,DV.owns]
 |x::xs,ys,h=>by simp only[DV.fits]at h;obtain⟨v,vs,rfl,c,e⟩:=h;obtain⟨b,d⟩:=q2y x v c;obtain⟨a,g⟩:=yx xs vs e;simp only[DV.shs,DV.fits,DV.owns];exact⟨⟨_,_,rfl,b,a⟩,by rw[d,g];rfl⟩
end
variable{xs ys:aw}
theorem qCc(h:DV.fits xs ys):DV.fits (xs.map DV.sh) (ys.map DV.sh)/\DV.owns (xs.map DV.sh) (ys.map DV.sh)=[]:=by have:=yx xs ys h;rwa[p6,p6]at this
theorem Fc{gv:Id->aG->r9}{es:aw}{p:Id}(h:DV.fits xs ys)(g:gv p (es.map .d)=some (.sl .sub (ys.map DV.sh),Ids.none)):
 ∃u b,gv p (es.map .d)=some (u,b)/\(DV.sl .sub (xs.map DV.sh)).fit u/\((DV.sl .sub (xs.map DV.sh)).own u).Nodup/\(∀a,a∈(DV.sl .sub (xs.map DV.sh)).own u->b a=true)/\∀a,b a=true->Fut p 0 a:=by
 obtain⟨i,j⟩:=qCc h;have c:(DV.sl .sub (xs.map DV.sh)).own (.sl .sub (ys.map DV.sh))=[]:=by simp only[DV.own];rw[j];simp[U]
 refine⟨_,_,g,?_,?_,?_,?_⟩
 ·simp only[DV.fit];exact⟨_,_,rfl,i,.inl rfl⟩
 ·rw[c];simp
 ·rw[c];simp
 ·intro a e;simp[Ids.none]at e
theorem Iy(ds:aw):bd (ds.map .d)=some ds:=by
 induction ds with
 |nil=>rfl
 |cons x xs a=>simp[bd,a]
variable{x y:DV}
theorem Lb(h:x.fit y)(a:ki x=true):ki y=true:=by
 unfold ki at a;split at a
 ·simp only[DV.fit,DV.fits]at h
  obtain⟨ds,rfl,v1,d,rfl,rfl,v2,b,rfl,rfl,v3,c,rfl,⟨g',ys,rfl,_⟩,rfl⟩:=h;rfl
 ·simp at a
theorem Jf:∀{xs ys:aw},DV.fits xs ys->xs.all ki=true->ys.all ki=true
 | [],ys,h,_=>by simp only[DV.fits]at h;subst h;rfl
 |x::xs,ys,h,a=>by
  simp only[DV.fits]at h;obtain⟨v,vs,rfl,b,c⟩:=h;simp only[fX,cd]at a⊢
  exact⟨Lb b a.1,Jf c a.2⟩
theorem Ku:∀{xs ys:aw} {l:List aw},DV.fits xs ys->rowsOf xs=some l->∃l',rowsOf ys=some l'/\DV.fits l.flatten l'.flatten
 | [],ys,l,h,a=>by simp only[DV.fits]at h;subst h;simp[rowsOf]at a;subst a;exact⟨[],rfl,by simp[DV.fits]⟩
 | .sl t xs::r,ys,l,h,a=>by simp only[DV.fits,DV.fit]at h;obtain⟨v,k,rfl,⟨g',e,rfl,c,_⟩,d⟩:=h;simp only[rowsOf]at a;obtain⟨j,g,rfl⟩:=aN.1 a;obtain⟨l',b,i⟩:=Ku d g;exact⟨e::l',by simp[rowsOf,b],by rw[lC,lC];exact DV.qa6 c i⟩
 | .int _ _::r,ys,l,h,a=>by simp[rowsOf]at a
 | .bool _::r,ys,l,h,a=>by simp[rowsOf]at a
 | .str _::r,ys,l,h,a=>by simp[rowsOf]at a
 | .agg _::r,ys,l,h,a=>by simp[rowsOf]at a
 | .tup _::r,ys,l,h,a=>by simp[rowsOf]at a
theorem qVr(h:x.fit y):y.cells.length=x.cells.length:=by
 cases x<;>simp only[DV.fit]at h
 case agg cs=>obtain⟨ds,rfl,a⟩:=h;simp only[DV.cells];exact(DV.qao a).symm
 case sl t xs=>obtain⟨g',ys,rfl,_⟩:=h;rfl
 case tup cs=>obtain⟨ds,rfl,_⟩:=h;rfl
 all_goals (subst h;rfl)
theorem M9{s:Nat}:∀{xs ys:aw},DV.fits xs ys->xs.all (fun x=>decide (x.cells.length=s))=true->ys.all (fun x=>decide (x.cells.length=s))=true
 | [],ys,h,_=>by simp only[DV.fits]at h;subst h;rfl
 |x::xs,ys,h,a=>by
  simp only[DV.fits]at h;obtain⟨v,vs,rfl,b,c⟩:=h;simp only[fX,cd,cB]at a⊢
  exact⟨by rw[qVr b];exact a.1,M9 c a.2⟩
theorem PR:qT lJ (cD lJ):=by
 intro ds v h es p d
 match ds,h with
 | [.sl t xs,.int .i64 i],h=>
  simp only[lJ]at h;split at h
  case isFalse=>simp at h
  rename_i a;simp only[ca]at h;subst h;simp only[DV.fits,DV.fit]at d;obtain⟨v1,g,rfl,⟨g',ys,rfl,b,_⟩,v2,e,rfl,rfl,rfl⟩:=d;have c:=DV.qao b;refine Fc (DV.qa6 (DV.qbp b i.toNat) (DV.qbw b (i.toNat+1))) ?_;unfold cD;rw[Iy];simp only[bO,lJ];rw[ay ⟨Jf b a.1,a.2.1,by rw[<-c];exact a.2.2.1,by rw[<-c];exact a.2.2.2⟩];rfl
theorem Ib:∀{a:aw} {l:List aw},rowsOf a=some l->a.length=l.length
 | [],l,h=>by simp[rowsOf]at h;subst h;rfl
 | .sl _ ys::a,l,h=>by simp only[rowsOf]at h;obtain⟨l',b,rfl⟩:=aN.1 h;simp[Ib b]
 | .int _ _::_,_,h=>by simp[rowsOf]at h
 | .bool _::_,_,h=>by simp[rowsOf]at h
 | .str _::_,_,h=>by simp[rowsOf]at h
 | .agg _::_,_,h=>by simp[rowsOf]at h
 | .tup _::_,_,h=>by simp[rowsOf]at h
theorem qV3{sz g:Nat}:qT (kx sz g) (cD (kx sz g)):=by
 intro ds v h es p o
 match ds,h with
 | [.sl t u],h=>
  simp only[kx]at h;obtain⟨l,n,h⟩:=aL.1 h;split at h
  case isFalse=>simp at h
  rename_i e;simp only[ca]at h;subst h;simp only[DV.fits,DV.fit]at o;obtain⟨v1,s,rfl,⟨g',ys,rfl,m,_⟩,rfl⟩:=o;obtain⟨l',q,j⟩:=Ku m n;have c:=DV.qao j;have k:l'.length=l.length:=by rw[<-Ib q,<-Ib n,DV.qao m]
  have b:cD (kx sz g) p ([DV.sl g' ys].map .d)=some (kQ p (if l'.flatten.length=0 then .sl (.own [] 0) []else .sl .sub (l'.flatten.map DV.sh))):=by unfold cD;rw[Iy];simp only[bO,kx];rw[q];simp only[bO];rw[ay ⟨M9 j e.1,by rw[k];exact e.2.1,by rw[<-c];exact e.2.2⟩];rfl
  by_cases i:l.flatten.length=0
  ·rw[ay i]
   rw[ay (by rw[<-c];exact i)]at b;refine⟨.sl .nil [],Ids.none,b,?_,by simp[DV.own,DV.owns],by simp[DV.own,DV.owns],fun a r=>by simp[Ids.none]at r⟩;simp only[DV.fit];exact⟨_,_,rfl,by simp[DV.fits],.inr ⟨rfl,.inl ⟨rfl,.inl rfl⟩⟩⟩
  ·rw[aC i]
   rw[aC (by rw[<-c];exact i)]at b;exact Fc j b
theorem Le(h:x.fit y):∀k:Nat,DV.fits (List.replicate k x) (List.replicate k y)
 |0=>by simp[DV.fits]
 |k+1=>by rw[mo,mo];simp only[DV.fits];exact⟨_,_,rfl,h,Le h k⟩
theorem S6:qT lN (cD lN):=by
 intro ds v h es p c
 match ds,h with
 | [.sl t [x],.int .i64 i],h=>
  simp only[lN]at h;split at h
  case isFalse=>simp at h
  rename_i a;simp only[ca]at h;subst h;simp only[DV.fits,DV.fit]at c;obtain⟨v1,g,rfl,⟨g',ys,rfl,⟨y,d,rfl,b,rfl⟩,_⟩,v2,e,rfl,rfl,rfl⟩:=c;refine Fc (Le b i.toNat) ?_;unfold cD;rw[Iy];simp only[bO,lN];rw[ay ⟨Lb b a.1,a.2⟩];rfl
end Go.Proofs.YtpcoohnjllclnaaGreat.VS
