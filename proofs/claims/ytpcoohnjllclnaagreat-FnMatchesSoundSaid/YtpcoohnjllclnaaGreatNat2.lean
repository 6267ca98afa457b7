/- Functions of the library that are told by what they compute. -/
import Derived.Test.YtpcoohnjllclnaaGreatEngC
import Derived.Test.YtpcoohnjllclnaaGreatNat0
set_option linter.unusedSimpArgs false
set_option linter.unusedVariables false
namespace Go.Proofs.YtpcoohnjllclnaaGreat.VS
theorem M0:∀{l:aX} {ys:al},DV.fits (l.map (.int .i64)) ys->ys=l.map (.int .i64)
 | [],ys,h=>by simpa[DV.fits]using h
 |s::l,ys,h=>by simp only[bA,DV.fits,DV.fit]at h;obtain⟨v,vs,rfl,rfl,a⟩:=h;rw[M0 a];rfl
theorem M3:∀l:aX,DV.fits (l.map (.int .i64)) (l.map (.int .i64))
 | []=>by simp[DV.fits]
 |s::l=>by simp only[bA,DV.fits,DV.fit];exact⟨_,_,rfl,rfl,M3 l⟩
theorem IA:∀(l:aX) (ys:al),DV.owns (l.map (.int .i64)) ys=[]
 | [],ys=>by simp[DV.owns]
 |s::l,ys=>by cases ys<;>simp[DV.owns,DV.own,IA l]
theorem T5:pA kq (dN kq):=by
 intro ds v h D p q
 match ds,h with
 | [.sl t xs,.int .i64 m],h=>
  unfold kq at h;obtain⟨l,s,h⟩:=az.1 h;split at h
  case isFalse=>simp at h
  rename_i i;simp only[aL]at h;subst h;have j:=FL s;simp only[DV.fits,DV.fit]at q;obtain⟨v1,w,rfl,⟨g',ys,rfl,n,_⟩,C,z,rfl,rfl,rfl⟩:=q;rw[j]at n;have k:=M0 n;subst k;have g:=Np l m;have d:qL p (.sl (.own [] 0) ((c_ l m).map (.int .i64)))=(.sl (.own (0::p) 1) ((c_ l m).map (.int .i64)),Ids.add (0::p) Ids.none):=by
   cases hq:c_ l m with
   |nil=>exact absurd hq g
   |cons a r=>rfl
  have b:(List.map (DV.int .i64) (c_ l m)).length≠0:=by simpa using g
  have o:DV.own (.sl (.own [] 0) ((c_ l m).map (.int .i64))) (.sl (.own (0::p) 1) ((c_ l m).map (.int .i64)))=[0::p]:=by simp only[DV.own];rw[aw ⟨rfl,b⟩,IA];rfl
  refine⟨.sl (.own (0::p) 1) ((c_ l m).map (.int .i64)),Ids.add (0::p) Ids.none,?_,?_,?_,?_,?_⟩
  ·simp only[dN,bA,cM,aV,bH,a9,kq,Gd,aw i]
   rw[d]
  ·simp only[DV.fit]
   refine⟨_,_,rfl,M3 _,.inr ⟨rfl,.inr ⟨b,_,_,rfl,fun e u=> ?_⟩⟩⟩;obtain⟨y,_,rfl⟩:=cw.1 u;rfl
  ·rw[o];simp
  ·intro a c
   rw[o]at c;simp at c;subst c;simp[Ids.add]
  ·intro a c
   simp only[Ids.add,Ids.none,pO,bu]at c;subst c;exact Fut.self p 0
mutual
theorem Uj:∀(x y:DV),x.fit y->x.sh.fit y.sh/\x.sh.own y.sh=[]
 | .sl t xs,y,h=>by
  simp only[DV.fit]at h;obtain⟨i,ys,rfl,a,e⟩:=h;obtain⟨d,c⟩:=tC xs ys a;have g:t≠.nil:=by
   rcases e with rfl|⟨rfl,_⟩
   ·simp
   ·simp[U]
  simp only[DV.sh,au g,DV.fit,DV.own];exact⟨⟨_,_,rfl,d,.inl rfl⟩,by rw[c];simp[U]⟩
 | .agg cs,y,h=>by simp only[DV.fit]at h;obtain⟨ds,rfl,a⟩:=h;obtain⟨d,c⟩:=tC cs ds a;simp only[DV.sh,DV.fit,DV.own];exact⟨⟨_,rfl,d⟩,c⟩
 | .tup cs,y,h=>by simp only[DV.fit]at h;obtain⟨ds,rfl,a⟩:=h;obtain⟨d,c⟩:=tC cs ds a;simp only[DV.sh,DV.fit,DV.own];exact⟨⟨_,rfl,d⟩,c⟩
 | .int k n,y,h=>by simp only[DV.fit]at h;subst h;simp[DV.sh,DV.fit,DV.own]
 | .bool b,y,h=>by simp only[DV.fit]at h;subst h;simp[DV.sh,DV.fit,DV.own]
 | .str s,y,h=>by simp only[DV.fit]at h;subst h;simp[DV.sh,DV.fit,DV.own]
theorem tC:∀(xs ys:al),DV.fits xs ys->DV.fits (DV.shs xs) (DV.shs ys)/\DV.owns (DV.shs xs) (DV.shs ys)=[]
 | [],ys,h=>by simp only[DV.fits]at h;subst h;simp[DV.shs,DV.fits,DV.owns]
 |x::xs,ys,h=>by simp only[DV.fits]at h;obtain⟨v,vs,rfl,c,a⟩:=h;obtain⟨e,g⟩:=Uj x v c;obtain⟨d,b⟩:=tC xs vs a;simp only[DV.shs,DV.fits,DV.owns];exact⟨⟨_,_,rfl,e,d⟩,by rw[g,b];rfl⟩
end
variable{xs ys:al}
theorem U9(h:DV.fits xs ys):DV.fits (xs.map DV.sh) (ys.map DV.sh)/\DV.owns (xs.map DV.sh) (ys.map DV.sh)=[]:=by have:=tC xs ys h;rwa[kV,kV]at this
theorem F4{gv:Id->aA->og}{e:al}{p:Id}(h:DV.fits xs ys)(k:gv p (e.map .d)=some (.sl .sub (ys.map DV.sh),Ids.none)):
 ∃u b,gv p (e.map .d)=some (u,b)/\(DV.sl .sub (xs.map DV.sh)).fit u/\((DV.sl .sub (xs.map DV.sh)).own u).Nodup/\(∀a,a∈(DV.sl .sub (xs.map DV.sh)).own u->b a=true)/\∀a,b a=true->Fut p 0 a:=by
 obtain⟨i,g⟩:=U9 h;have c:(DV.sl .sub (xs.map DV.sh)).own (.sl .sub (ys.map DV.sh))=[]:=by simp only[DV.own];rw[g];simp[U]
 refine⟨_,_,k,?_,?_,?_,?_⟩
 ·simp only[DV.fit];exact⟨_,_,rfl,i,.inl rfl⟩
 ·rw[c];simp
 ·rw[c];simp
 ·intro a j;simp[Ids.none]at j
theorem GA(ds:al):aV (ds.map .d)=some ds:=by
 induction ds with
 |nil=>rfl
 |cons x xs a=>simp[aV,a]
variable{x y:DV}
theorem U1(h:x.fit y)(a:kJ x=true):kJ y=true:=by
 unfold kJ at a;split at a
 ·simp only[DV.fit,DV.fits]at h
  obtain⟨ds,rfl,v1,d,rfl,rfl,e,b,rfl,rfl,v3,c,rfl,⟨g',ys,rfl,_⟩,rfl⟩:=h;rfl
 ·simp at a
theorem Zr{v:Int}(h:x.fit y)(a:nv x=some v):nv y=some v:=by
 unfold nv at a;split at a
 ·simp only[aL]at a
  subst a;simp only[DV.fit,DV.fits]at h;obtain⟨ds,rfl,i,c,rfl,rfl,v1,e,rfl,rfl,g,b,rfl,rfl,v3,d,rfl,⟨g',ys,rfl,_⟩,rfl⟩:=h;rfl
 ·simp at a
theorem M5:∀{xs ys:al},DV.fits xs ys->xs.all kJ=true->ys.all kJ=true
 | [],ys,h,_=>by simp only[DV.fits]at h;subst h;rfl
 |x::xs,ys,h,a=>by
  simp only[DV.fits]at h;obtain⟨v,vs,rfl,c,b⟩:=h;simp only[gF,aQ]at a⊢
  exact⟨U1 c a.1,M5 b a.2⟩
theorem NQ:∀{xs ys:al} {vs:aX},DV.fits xs ys->iP xs=some vs->iP ys=some vs
 | [],ys,vs,h,a=>by simp only[DV.fits]at h;subst h;exact a
 |x::xs,ys,vs,h,a=>by
  simp only[DV.fits]at h;obtain⟨v,ws,rfl,c,b⟩:=h;simp only[iP]at a⊢
  obtain⟨n,e,a⟩:=az.1 a;obtain⟨g,d,rfl⟩:=ay.1 a;rw[Zr c e,NQ b d];rfl
theorem Kp:∀{xs ys:al} {l:List al},DV.fits xs ys->rowsOf xs=some l->∃l',rowsOf ys=some l'/\DV.fits l.flatten l'.flatten
 | [],ys,l,h,a=>by simp only[DV.fits]at h;subst h;simp[rowsOf]at a;subst a;exact⟨[],rfl,by simp[DV.fits]⟩
 | .sl t xs::r,ys,l,h,a=>by simp only[DV.fits,DV.fit]at h;obtain⟨v,ws,rfl,⟨g',d,rfl,i,_⟩,b⟩:=h;simp only[rowsOf]at a;obtain⟨j,e,rfl⟩:=ay.1 a;obtain⟨l',c,g⟩:=Kp b e;exact⟨d::l',by simp[rowsOf,c],by rw[kH,kH];exact DV.qaW i g⟩
 | .int _ _::r,ys,l,h,a=>by simp[rowsOf]at a
 | .bool _::r,ys,l,h,a=>by simp[rowsOf]at a
 | .str _::r,ys,l,h,a=>by simp[rowsOf]at a
 | .agg _::r,ys,l,h,a=>by simp[rowsOf]at a
 | .tup _::r,ys,l,h,a=>by simp[rowsOf]at a
theorem XR(h:x.fit y):y.cells.length=x.cells.length:=by
 cases x<;>simp only[DV.fit]at h
 case agg cs=>obtain⟨ds,rfl,a⟩:=h;simp only[DV.cells];exact(DV.qao a).symm
 case sl t xs=>obtain⟨g',ys,rfl,_⟩:=h;rfl
 case tup cs=>obtain⟨ds,rfl,_⟩:=h;rfl
 all_goals (subst h;rfl)
theorem LM{s:Nat}:∀{xs ys:al},DV.fits xs ys->xs.all (fun x=>decide (x.cells.length=s))=true->ys.all (fun x=>decide (x.cells.length=s))=true
 | [],ys,h,_=>by simp only[DV.fits]at h;subst h;rfl
 |x::xs,ys,h,a=>by
  simp only[DV.fits]at h;obtain⟨v,vs,rfl,c,b⟩:=h;simp only[gF,aQ,bu]at a⊢
  exact⟨by rw[XR c];exact a.1,LM b a.2⟩
theorem Yv:pA kh (dN kh):=by
 intro ds v h k p d
 match ds,h with
 | [.sl t xs,.int .i64 i],h=>
  simp only[kh]at h;split at h
  case isFalse=>simp at h
  rename_i a;simp only[aL]at h;subst h;simp only[DV.fits,DV.fit]at d;obtain⟨v1,e,rfl,⟨g',ys,rfl,b,_⟩,j,g,rfl,rfl,rfl⟩:=d;have c:=DV.qao b;refine F4 (DV.qaW (DV.qbr b i.toNat) (DV.qbC b (i.toNat+1))) ?_;unfold dN;rw[GA];simp only[a9,kh];rw[aw ⟨M5 b a.1,a.2.1,by rw[<-c];exact a.2.2.1,by rw[<-c];exact a.2.2.2⟩];rfl
theorem TV:pA km (dN km):=by
 intro ds v h O p q
 match ds,h with
 | [.sl t xs,.int .i64 m,.agg [.int .i64 a,.int .i64 b,.sl r ks]],h=>
  simp only[km]at h;obtain⟨vs,k,h⟩:=az.1 h;split at h
  case isFalse=>simp at h
  rename_i l;simp only[aL]at h;subst h;simp only[DV.fits]at q;obtain⟨v1,F,rfl,i,J,H,rfl,g,v3,s,rfl,n,rfl⟩:=q;simp only[DV.fit]at i g;obtain⟨g',ys,rfl,j,_⟩:=i;subst g;have e:=n;simp only[DV.fit,DV.fits]at e;obtain⟨ds,rfl,M,D,rfl,rfl,K,w,rfl,rfl,N,I,rfl,⟨g2,o,rfl,z,G⟩,rfl⟩:=e;have u:=DV.qao j;have C:DV.fit (.agg [.int .i64 m,.int .i64 a,.int .i64 b,.sl r ks]) (.agg [.int .i64 m,.int .i64 a,.int .i64 b,.sl g2 o]):=by simp only[DV.fit,DV.fits];exact⟨_,rfl,_,_,rfl,rfl,_,_,rfl,rfl,_,_,rfl,rfl,_,_,rfl,⟨_,_,rfl,z,G⟩,rfl⟩
  refine F4 (DV.qaW (DV.qbr j (jh vs m)) (c:=_) (d:=DV.agg [.int .i64 m,.int .i64 a,.int .i64 b,.sl g2 o]::ys.drop (jh vs m)) (by simp only[DV.fits];exact⟨_,_,rfl,C,DV.qbC j _⟩)) ?_;unfold dN;rw[GA];simp only[a9,km];rw[NQ j k];simp only[a9];rw[aw (by rw[<-u];exact l)];rfl
theorem YJ{sz c:Nat}:pA (j_ sz c) (dN (j_ sz c)):=by
 intro ds v h m p e
 match ds,h with
 | [.sl t rs],h=>
  simp only[j_]at h;obtain⟨l,i,h⟩:=az.1 h;split at h
  case isFalse=>simp at h
  rename_i a;simp only[aL]at h;subst h;simp only[DV.fits,DV.fit]at e;obtain⟨v1,k,rfl,⟨g',ys,rfl,g,_⟩,rfl⟩:=e;obtain⟨l',j,d⟩:=Kp g i;have b:=DV.qao d;refine F4 d ?_;unfold dN;rw[GA];simp only[a9,j_];rw[j];simp only[a9];rw[aw ⟨LM d a.1,by rw[<-b];exact a.2.1,by rw[<-b];exact a.2.2⟩];rfl
end Go.Proofs.YtpcoohnjllclnaaGreat.VS
