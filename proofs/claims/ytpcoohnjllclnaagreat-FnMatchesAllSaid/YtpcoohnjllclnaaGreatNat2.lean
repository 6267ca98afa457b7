/- Functions of the library that are told by what they compute. -/
import Derived.Test.YtpcoohnjllclnaaGreatEngC
import Derived.Test.YtpcoohnjllclnaaGreatNat0
set_option linter.unusedSimpArgs false
set_option linter.unusedVariables false
namespace Go.Proofs.YtpcoohnjllclnaaGreat.VS
theorem GU:∀{l:List Int} {ys:List DV},DV.fits (l.map (.int .i64)) ys->ys=l.map (.int .i64)
 | [],ys,h=>by simpa[DV.fits]using h
 |s::l,ys,h=>by
  simp only[bo,DV.fits,DV.fit]at h;obtain⟨v,vs,rfl,rfl,a⟩:=h;rw[GU a];rfl
theorem Kv:∀l:List Int,DV.fits (l.map (.int .i64)) (l.map (.int .i64))
 | []=>by simp[DV.fits]
 |s::l=>by simp only[bo,DV.fits,DV.fit];exact⟨_,_,rfl,rfl,Kv l⟩
theorem I8:∀(l:List Int) (ys:List DV),DV.owns (l.map (.int .i64)) ys=[]
 | [],ys=>by simp[DV.owns]
 |s::l,ys=>by cases ys<;>simp[DV.owns,DV.own,I8 l]
theorem Xs:oU jz (de jz):=by
 intro ds v h es p j
 match ds,h with
 | [.sl t xs,.int .i64 m],h=>
  unfold jz at h;obtain⟨l,n,h⟩:=aw.1 h;split at h
  case isFalse=>simp at h
  rename_i hle;simp only[aB]at h;subst h;have d:=yZ n;simp only[DV.fits,DV.fit]at j;obtain⟨v1,q,rfl,⟨g',ys,rfl,k,_⟩,v2,o,rfl,rfl,rfl⟩:=j;rw[d]at k;have g:=GU k;subst g;have c:=EQ l m;have b:pg p (.sl (.own [] 0) ((cL l m).map (.int .i64)))=(.sl (.own (0::p) 1) ((cL l m).map (.int .i64)),Ids.add (0::p) Ids.none):=by
   cases hq:cL l m with
   |nil=>exact absurd hq c
   |cons a r=>rfl
  have hlen:(List.map (DV.int .i64) (cL l m)).length≠0:=by simpa using c
  have i:DV.own (.sl (.own [] 0) ((cL l m).map (.int .i64))) (.sl (.own (0::p) 1) ((cL l m).map (.int .i64)))=[0::p]:=by
   simp only[DV.own];rw[ap ⟨rfl,hlen⟩,I8];rfl
  refine⟨.sl (.own (0::p) 1) ((cL l m).map (.int .i64)),Ids.add (0::p) Ids.none,?_,?_,?_,?_,?_⟩
  ·simp only[de,bo,cv,aM,bz,aQ,jz,Cu,ap hle]
   rw[b]
  ·simp only[DV.fit]
   refine⟨_,_,rfl,Kv _,.inr ⟨rfl,.inr ⟨hlen,_,_,rfl,fun e he=> ?_⟩⟩⟩;obtain⟨y,_,rfl⟩:=bP.1 he;rfl
  ·rw[i];simp
  ·intro a ha
   rw[i]at ha;simp at ha;subst ha;simp[Ids.add]
  ·intro a ha
   simp only[Ids.add,Ids.none,oN,ba]at ha;subst ha;exact Fut.self p 0
mutual
theorem Y_:∀(x y:DV),x.fit y->x.sh.fit y.sh/\x.sh.own y.sh=[]
 | .sl t xs,y,h=>by
  simp only[DV.fit]at h;obtain⟨g,ys,rfl,h1,e⟩:=h;obtain⟨c,a⟩:=su xs ys h1;have d:t≠.nil:=by
   rcases e with rfl|⟨rfl,_⟩
   ·simp
   ·simp[U]
  simp only[DV.sh,ak d,DV.fit,DV.own];exact⟨⟨_,_,rfl,c,.inl rfl⟩,by rw[a];simp[U]⟩
 | .agg cs,y,h=>by
  simp only[DV.fit]at h;obtain⟨ds,rfl,h1⟩:=h;obtain⟨c,a⟩:=su cs ds h1;simp only[DV.sh,DV.fit,DV.own];exact⟨⟨_,rfl,c⟩,a⟩
 | .tup cs,y,h=>by
  simp only[DV.fit]at h;obtain⟨ds,rfl,h1⟩:=h;obtain⟨c,a⟩:=su cs ds h1;simp only[DV.sh,DV.fit,DV.own];exact⟨⟨_,rfl,c⟩,a⟩
 | .int k n,y,h=>by simp only[DV.fit]at h;subst h;simp[DV.sh,DV.fit,DV.own]
 | .bool b,y,h=>by simp only[DV.fit]at h;subst h;simp[DV.sh,DV.fit,DV.own]
 | .str s,y,h=>by simp only[DV.fit]at h;subst h;simp[DV.sh,DV.fit,DV.own]
theorem su:∀(xs ys:List DV),DV.fits xs ys->DV.fits (DV.shs xs) (DV.shs ys)/\DV.owns (DV.shs xs) (DV.shs ys)=[]
 | [],ys,h=>by simp only[DV.fits]at h;subst h;simp[DV.shs,DV.fits,DV.owns]
 |x::xs,ys,h=>by
  simp only[DV.fits]at h;obtain⟨v,vs,rfl,h1,b⟩:=h;obtain⟨e,d⟩:=Y_ x v h1;obtain⟨c,a⟩:=su xs vs b;simp only[DV.shs,DV.fits,DV.owns];exact⟨⟨_,_,rfl,e,c⟩,by rw[d,a];rfl⟩
end
theorem Ng{xs ys:List DV}(h:DV.fits xs ys):DV.fits (xs.map DV.sh) (ys.map DV.sh)/\DV.owns (xs.map DV.sh) (ys.map DV.sh)=[]:=by
 have:=su xs ys h;rwa[jZ,jZ]at this
theorem Br{gv:Id->List AV->Option (DV×Ids)}{es:List DV}{p:Id}{xs ys:List DV}(h:DV.fits xs ys)(e:gv p (es.map .d)=some (.sl .sub (ys.map DV.sh),Ids.none)):
 ∃u A1,gv p (es.map .d)=some (u,A1)/\(DV.sl .sub (xs.map DV.sh)).fit u/\((DV.sl .sub (xs.map DV.sh)).own u).Nodup/\(∀a,a∈(DV.sl .sub (xs.map DV.sh)).own u->A1 a=true)/\∀a,A1 a=true->Fut p 0 a:=by
 obtain⟨h1,c⟩:=Ng h;have b:(DV.sl .sub (xs.map DV.sh)).own (.sl .sub (ys.map DV.sh))=[]:=by simp only[DV.own];rw[c];simp[U]
 refine⟨_,_,e,?_,?_,?_,?_⟩
 ·simp only[DV.fit];exact⟨_,_,rfl,h1,.inl rfl⟩
 ·rw[b];simp
 ·rw[b];simp
 ·intro a ha;simp[Ids.none]at ha
theorem Aa(ds:List DV):aM (ds.map .d)=some ds:=by
 induction ds with
 |nil=>rfl
 |cons x xs a=>simp[aM,a]
theorem Nh{x y:DV}(h:x.fit y)(a:jm x=true):jm y=true:=by
 unfold jm at a;split at a
 ·simp only[DV.fit,DV.fits]at h
  obtain⟨ds,rfl,v1,c,rfl,rfl,v2,d,rfl,rfl,v3,b,rfl,⟨g',ys,rfl,_⟩,rfl⟩:=h;rfl
 ·simp at a
theorem U6{x y:DV}{v:Int}(h:x.fit y)(a:mG x=some v):mG y=some v:=by
 unfold mG at a;split at a
 ·simp only[aB]at a
  subst a;simp only[DV.fit,DV.fits]at h;obtain⟨ds,rfl,v0,b,rfl,rfl,v1,e,rfl,rfl,v2,d,rfl,rfl,v3,c,rfl,⟨g',ys,rfl,_⟩,rfl⟩:=h;rfl
 ·simp at a
theorem G2:∀{xs ys:List DV},DV.fits xs ys->xs.all jm=true->ys.all jm=true
 | [],ys,h,_=>by simp only[DV.fits]at h;subst h;rfl
 |x::xs,ys,h,ha=>by
  simp only[DV.fits]at h;obtain⟨v,vs,rfl,h1,a⟩:=h;simp only[fM,aF]at ha⊢
  exact⟨Nh h1 ha.1,G2 a ha.2⟩
theorem I2:∀{xs ys:List DV} {vs:List Int},DV.fits xs ys->ic xs=some vs->ic ys=some vs
 | [],ys,vs,h,ha=>by simp only[DV.fits]at h;subst h;exact ha
 |x::xs,ys,vs,h,ha=>by
  simp only[DV.fits]at h;obtain⟨v,ws,rfl,h1,c⟩:=h;simp only[ic]at ha⊢
  obtain⟨n,a,ha⟩:=aw.1 ha;obtain⟨d,b,rfl⟩:=au.1 ha;rw[U6 h1 a,I2 c b];rfl
theorem Lb:∀{xs ys:List DV} {l:List (List DV)},DV.fits xs ys->rowsOf xs=some l->∃a,rowsOf ys=some a/\DV.fits l.flatten a.flatten
 | [],ys,l,h,ha=>by simp only[DV.fits]at h;subst h;simp[rowsOf]at ha;subst ha;exact⟨[],rfl,by simp[DV.fits]⟩
 | .sl t xs::r,ys,l,h,ha=>by
  simp only[DV.fits,DV.fit]at h;obtain⟨v,ws,rfl,⟨g',zs,rfl,h1,_⟩,c⟩:=h;simp only[rowsOf]at ha;obtain⟨g,e,rfl⟩:=au.1 ha;obtain⟨a,d,b⟩:=Lb c e;exact⟨zs::a,by simp[rowsOf,d],by rw[jh,jh];exact DV.qaU h1 b⟩
 | .int _ _::r,ys,l,h,ha=>by simp[rowsOf]at ha
 | .bool _::r,ys,l,h,ha=>by simp[rowsOf]at ha
 | .str _::r,ys,l,h,ha=>by simp[rowsOf]at ha
 | .agg _::r,ys,l,h,ha=>by simp[rowsOf]at ha
 | .tup _::r,ys,l,h,ha=>by simp[rowsOf]at ha
theorem Ny{x y:DV}(h:x.fit y):y.cells.length=x.cells.length:=by
 cases x<;>simp only[DV.fit]at h
 case agg cs=>obtain⟨ds,rfl,h1⟩:=h;simp only[DV.cells];exact(DV.qan h1).symm
 case sl t xs=>obtain⟨g',ys,rfl,_⟩:=h;rfl
 case tup cs=>obtain⟨ds,rfl,_⟩:=h;rfl
 all_goals (subst h;rfl)
theorem Iu{s:Nat}:∀{xs ys:List DV},DV.fits xs ys->xs.all (fun x=>decide (x.cells.length=s))=true->ys.all (fun x=>decide (x.cells.length=s))=true
 | [],ys,h,_=>by simp only[DV.fits]at h;subst h;rfl
 |x::xs,ys,h,ha=>by
  simp only[DV.fits]at h;obtain⟨v,vs,rfl,h1,a⟩:=h;simp only[fM,aF,ba]at ha⊢
  exact⟨by rw[Ny h1];exact ha.1,Iu a ha.2⟩
theorem NR:oU jS (de jS):=by
 intro ds v h es p c
 match ds,h with
 | [.sl t xs,.int .i64 i],h=>
  simp only[jS]at h;split at h
  case isFalse=>simp at h
  rename_i hle;simp only[aB]at h;subst h;simp only[DV.fits,DV.fit]at c;obtain⟨v1,e,rfl,⟨g',ys,rfl,a,_⟩,v2,d,rfl,rfl,rfl⟩:=c;have b:=DV.qan a;refine Br (DV.qaU (DV.qbl a i.toNat) (DV.qbu a (i.toNat+1))) ?_;unfold de;rw[Aa];simp only[aQ,jS];rw[ap ⟨G2 a hle.1,hle.2.1,by rw[<-b];exact hle.2.2.1,by rw[<-b];exact hle.2.2.2⟩];rfl
theorem On:oU jD (de jD):=by
 intro ds v h es p l
 match ds,h with
 | [.sl t xs,.int .i64 m,.agg [.int .i64 a,.int .i64 b,.sl q ks]],h=>
  simp only[jD]at h;obtain⟨vs,hvs,h⟩:=aw.1 h;split at h
  case isFalse=>simp at h
  rename_i hle;simp only[aB]at h;subst h;simp only[DV.fits]at l;obtain⟨v1,z,rfl,i,v2,w,rfl,e,v3,r,rfl,k,rfl⟩:=l;simp only[DV.fit]at i e;obtain⟨g',ys,rfl,j,_⟩:=i;subst e;have g:=k;simp only[DV.fit,DV.fits]at g;obtain⟨ds,rfl,D,o,rfl,rfl,C,s,rfl,rfl,F,y,rfl,⟨g2,zs,rfl,x,u⟩,rfl⟩:=g;have n:=DV.qan j;have hb:DV.fit (.agg [.int .i64 m,.int .i64 a,.int .i64 b,.sl q ks]) (.agg [.int .i64 m,.int .i64 a,.int .i64 b,.sl g2 zs]):=by
   simp only[DV.fit,DV.fits];exact⟨_,rfl,_,_,rfl,rfl,_,_,rfl,rfl,_,_,rfl,rfl,_,_,rfl,⟨_,_,rfl,x,u⟩,rfl⟩
  refine Br (DV.qaU (DV.qbl j (hZ vs m)) (c:=_) (d:=DV.agg [.int .i64 m,.int .i64 a,.int .i64 b,.sl g2 zs]::ys.drop (hZ vs m)) (by simp only[DV.fits];exact⟨_,_,rfl,hb,DV.qbu j _⟩)) ?_;unfold de;rw[Aa];simp only[aQ,jD];rw[I2 j hvs];simp only[aQ];rw[ap (by rw[<-n];exact hle)];rfl
theorem Z3{sz b:Nat}:oU (jr sz b) (de (jr sz b)):=by
 intro ds v h es p d
 match ds,h with
 | [.sl t rs],h=>
  simp only[jr]at h;obtain⟨l,e,h⟩:=aw.1 h;split at h
  case isFalse=>simp at h
  rename_i hle;simp only[aB]at h;subst h;simp only[DV.fits,DV.fit]at d;obtain⟨v1,j,rfl,⟨g',ys,rfl,g,_⟩,rfl⟩:=d;obtain⟨k,i,c⟩:=Lb g e;have a:=DV.qan c;refine Br c ?_;unfold de;rw[Aa];simp only[aQ,jr];rw[i];simp only[aQ];rw[ap ⟨Iu c hle.1,by rw[<-a];exact hle.2.1,by rw[<-a];exact hle.2.2⟩];rfl
end Go.Proofs.YtpcoohnjllclnaaGreat.VS
