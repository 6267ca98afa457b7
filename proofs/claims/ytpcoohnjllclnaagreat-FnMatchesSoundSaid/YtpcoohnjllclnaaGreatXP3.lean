/- Contracts of the program's functions on the evaluator without names, and plain lemmas: part 3. -/
import Derived.Test.YtpcoohnjllclnaaGreatXP2
set_option linter.unusedSimpArgs false
set_option linter.unusedVariables false
namespace Go.Proofs.YtpcoohnjllclnaaGreat.VS
theorem WY(a b c d e f:Int)(B:ar)(p:B.length=3):
 cj XV [] 3 [2,3,26,27,28] ii ⟨[(2,.ptr 1 0),(3,.ptr 2 0),(26,.d (.sl .sub (iG a b c d e f))),(27,aa 3),(28,aa 0)],B⟩=
  some (match runN (jM a b c d e f) 3 () 0 with
   | .inl _=>(.exit 0,⟨[(2,.ptr 1 0),(3,.ptr 2 0),(26,.d (.sl .sub (iG a b c d e f))),(27,aa 3),(28,aa 3),(29,ax false)],B⟩)
   | .inr r=>(.ret,⟨[(4,aa r.1)],B++[some [aa r.2.1,aa r.2.2]]⟩)):=by
 obtain⟨z,h,g,rfl⟩:∃z h g,B=[z,h,g]:=by
  match B,p with
  | [z,h,g],_=>exact⟨z,h,g,rfl⟩
 have key:=cd (X:=XV) (T:=[]) (L:=3) (live:=[2,3,26,27,28]) (b:=ii) (n:=3) (γ:=Int×(Int×Int)) (st:=fun(_:Unit) i=>⟨[(2,.ptr 1 0),(3,.ptr 2 0),(26,.d (.sl .sub (iG a b c d e f))),(27,aa 3),(28,aa i)],[z,h,g]⟩) (step:=jM a b c d e f)
  (F:=fun _=>(.exit 0,⟨[(2,.ptr 1 0),(3,.ptr 2 0),(26,.d (.sl .sub (iG a b c d e f))),(27,aa 3),(28,aa 3),(29,ax false)],[z,h,g]⟩)) (R:=fun r=>(.ret,⟨[(4,aa r.1)],[z,h,g]++[some [aa r.2.1,aa r.2.2]]⟩))
  (fun _=>⟨by simp,by simp[ii]⟩)
  (fun _ i hi=>by
   have o:=bE (n:=i) (by omega);have j:(i:Int)<3:=by omega
   have l:=Mb a b c d e f i hi;unfold jM;generalize js a b c d e f i=q at l;obtain⟨x,y⟩:=q;simp only at l⊢
   by_cases k:x<y
   ·rw[aw k]
    refine⟨by simp,?_⟩;simp[ii,j,l,cut,k,aW,splice,aP,bh,bd]
   ·rw[au k]
    by_cases m:x>y
    ·rw[aw m]
     refine⟨by simp,?_⟩;simp[ii,j,l,cut,k,m,aW,splice,aP,bh,bd]
    ·rw[au m]
     refine⟨_,by simp[ii,j,l,cut,k,m,o,aW,splice,aP,bh,bd];rfl,?_⟩;simp[aJ,aG])
  3 () 0 ⟨[(2,.ptr 1 0),(3,.ptr 2 0),(26,.d (.sl .sub (iG a b c d e f))),(27,aa 3),(28,aa 0)],[z,h,g]⟩ (by omega) (by simp[aJ,aG])
 rw[key];cases runN (jM a b c d e f) 3 () 0<;>rfl
theorem Oe(z:Option aA)(f v:Int)(ks:ah)(e v':Int)(a:ah)(o:ks.length<=1099511627776)(k:ks.length=a.length)
 (g:∀s s',s∈ks->s'∈a->ap XV 6 [.d (s.enc .sub),.d (s'.enc .sub)] []=some (aa (T.cmp s s'),[])):
 cj XV [] 3 [2,3,47,48] jE ⟨[(2,.ptr 1 0),(3,.ptr 2 0),(47,aa ks.length),(48,aa 0)],z::cE f v ks e v' a⟩=
  some (if T.cmps ks a=0 then(.exit 3,⟨[(2,.ptr 1 0),(3,.ptr 2 0),(47,aa ks.length),(48,aa ks.length),(49,ax false)],z::cE f v ks e v' a⟩)else(.ret,⟨[(4,aa (T.cmps ks a))],z::cE f v ks e v' a⟩)):=by
 have h:=cd (X:=XV) (T:=[]) (L:=3) (live:=[2,3,47,48]) (b:=jE) (n:=ks.length) (γ:=Int) (st:=fun(_:Unit) i=>⟨[(2,.ptr 1 0),(3,.ptr 2 0),(47,aa ks.length),(48,aa i)],z::cE f v ks e v' a⟩) (step:=kw ks a)
  (F:=fun _=>(.exit 3,⟨[(2,.ptr 1 0),(3,.ptr 2 0),(47,aa ks.length),(48,aa ks.length),(49,ax false)],z::cE f v ks e v' a⟩)) (R:=fun r=>(.ret,⟨[(4,aa r)],z::cE f v ks e v' a⟩))
  (fun _=>⟨by simp,by simp[jE]⟩)
  (fun _ i hi=>by
   have m:=bE (n:=i) (by omega);have c:i<a.length:=by omega
   have hc:=g _ _ (bV hi) (bV c);unfold kw cE
   by_cases j:T.cmp (aj ks i) (aj a i)=0
   ·rw[j]at hc⊢
    simp only[fw,om,if_false];refine⟨_,by simp[jE,x9,hi,c,m,cut,bg hi,bg c,hc,aP];rfl,?_⟩;simp[aJ,aG]
   ·simp only[fw,j,jT,if_true]
    have l:(T.cmp (aj ks i) (aj a i) !=0)=true:=by simp[j]
    refine⟨by simp,?_⟩;simp[jE,x9,hi,c,cut,bg hi,bg c,hc,aP,l])
  ks.length () 0 ⟨[(2,.ptr 1 0),(3,.ptr 2 0),(47,aa ks.length),(48,aa 0)],z::cE f v ks e v' a⟩ (by omega) (by simp[aJ,aG,cE])
 rw[sI ks a k _ _ (by omega)]at h;simp only[gD]at h;rw[h]
 by_cases j:T.cmps ks a=0<;>simp[j]
theorem qvc(z:Option aA)(f v:Int)(ks:ah)(c v':Int)(a:ah)(k:ks.length<=1099511627776)(o:a.length<=1099511627776)
 (e:∀s s',s∈ks->s'∈a->ap XV 6 [.d (s.enc .sub),.d (s'.enc .sub)] []=some (aa (T.cmp s s'),[])):
 ap XV 6 [.d ((T.node f v ks).enc .sub),.d ((T.node c v' a).enc .sub)] [z]=some (aa (T.cmp (.node f v ks) (.node c v' a)),[z]):=by
 rw[aN 6 v6 rfl];have j:=WY f c v v' ks.length a.length (z::cE f v ks c v' a) rfl;simp[v6,aW,ba,bh,bd,splice,aP,df,List.replicate];simp only[iG,cE]at j;rw[j,wH];rcases Iy f c v v' ks.length a.length with⟨g,l,p,e3⟩|⟨r,g,m⟩
 ·rw[g]
  have b:ks.length=a.length:=by omega
  have h:=Oe z f v ks c v' a k b e;simp only[cE]at h;subst l;subst p
  simp[Gk,aP];rw[h];have n:fJ f f v v ks.length a.length (T.cmps ks a)=T.cmps ks a:=by simp[fJ,b]
  rw[n]
  by_cases i:T.cmps ks a=0
  ·simp[i,B9]
  ·simp[i]
 ·rw[g,m];simp
theorem xu(z:Option aA)(a b:T)(i:a.inner<=1099511627776)(j:b.inner<=1099511627776):ap XV 6 [.d (a.enc .sub),.d (b.enc .sub)] [z]=some (aa (T.cmp a b),[z]):=by obtain⟨f,v,ks⟩:=a;obtain⟨g,v',e⟩:=b;simp only[T.inner]at i j;exact qvc z f v ks g v' e (by omega) (by omega) (fun s s' h c=>BL s s' (by have:=T.qaF h;omega) (by have:=T.qaF c;omega))
theorem Dl(A Z:ah)(x:T):aj (A++x::Z) A.length=x:=by simp[aj]
theorem Ab(A M Z:ah)(x y:T)(q:Nat)(c:q=A.length+1+M.length):swp (A++x::(M++y::Z)) A.length q=A++y::(M++x::Z):=by
 subst c;have b:aj (A++x::(M++y::Z)) (A.length+1+M.length)=y:=by have:=Dl (A++x::M) Z y;simp only[ek,de,cr,dk]at this;rw[show A.length+1+M.length=A.length+(M.length+1)by omega];exact this
 have a:=Dl A (M++y::Z) x;unfold swp;rw[b,a];have s1:(A++x::(M++y::Z)).set (A.length+1+M.length) x=A++x::(M++x::Z):=by have:=kv (s:=A++x::M) (t:=y::Z) (A.length+1+M.length) x (by simp;omega);simp only[cr,dk,ek,de]at this;rw[this,show A.length+1+M.length-(A.length+(M.length+1))=0 by omega];rfl
 rw[s1,kv _ _ (bf _),nw];rfl
theorem Nf(l:ah)(p q:Nat)(h:p≠q):swp l p q=swp l q p:=by unfold swp;rw[Gu _ _ h]
theorem Za(l:ah)(a b i:Nat)(n:Int)(M:l.length<=1099511627776)(G:a+i<l.length)(w:b+i<l.length)(F:b≠a):
 aO XV [29,35] (.region true 0 [0,1,2,3,10] vC) ⟨[(0,.tsl true 0 3 l.length),(1,aa a),(2,aa b),(3,aa n),(10,aa i),(13,ax true)],[some (kc l)]⟩=some (.normal,⟨[(0,.tsl true 0 3 l.length),(1,aa a),(2,aa b),(3,aa n),(10,aa i)],[some (kc (swp l (b+i) (a+i)))]⟩):=by
 have h:IntKind.i64.wrap ((a:Int)+i)=((a+i:Nat):Int):=by rw[wrap_i64 (by omega) (by omega)];omega
 have g:IntKind.i64.wrap ((b:Int)+i)=((b+i:Nat):Int):=by rw[wrap_i64 (by omega) (by omega)];omega
 obtain⟨c1,N,I,H,u,C,f1,f2,f3,f4,s,q⟩:=yM l (b+i) (a+i) w G (by omega);have r:=kZ l;generalize kc (swp l (b+i) (a+i))=c4 at q⊢
 generalize kc l=c0 at f1 f2 r⊢
 generalize D:l.length=m at*
 have e:(0:Int)<=((a+i:Nat):Int)/\((a+i:Nat):Int)<m:=⟨by omega,by omega⟩;have c:(0:Int)<=((b+i:Nat):Int)/\((b+i:Nat):Int)<m:=⟨by omega,by omega⟩;have j:((a+i:Nat):Int).toNat=a+i:=rfl;have d:((b+i:Nat):Int).toNat=b+i:=rfl;have o:(a+i)*3+3<=m*3:=by omega
 have p:(b+i)*3+3<=m*3:=by omega
 generalize ((a+i:Nat):Int)=J at h e j⊢
 generalize ((b+i:Nat):Int)=K at g c d⊢
 simp only[mq,BV,ai]at f1 f2 f3 f4 s q;have k:∀x y z:AV,AV.clrs [x,y,z]=[x.clr,y.clr,z.clr]:=fun x y z=>by simp only[AV.clrs]
 simp[RN,h,g,e,j,c,d,r,H,u,C,f1,f2,f3,f4,s,q,o,p,k,bh,aW,ba,bd]
def eL(A P Q R Z:ah)(i:Nat):ah:=A++R.take i++P.drop i++Q++P.take i++R.drop i++Z
theorem ZH(A P Q R Z:ah)(i:Nat)(h:P.length=R.length):(eL A P Q R Z i).length=(A++P++Q++R++Z).length:=by simp[eL];omega
theorem PM(A P Q R Z:ah)(i:Nat)(h:P.length=R.length)(hi:i<P.length):swp (eL A P Q R Z i) (A.length+P.length+Q.length+i) (A.length+i)=eL A P Q R Z (i+1):=by
 have a:i<R.length:=by omega
 have d:eL A P Q R Z i=(A++R.take i)++P[i]::((P.drop (i+1)++Q++P.take i)++R[i]::(R.drop (i+1)++Z)):=by unfold eL;rw[dl hi,dl a];simp only[cr,dk]
 have c:eL A P Q R Z (i+1)=(A++R.take i)++R[i]::((P.drop (i+1)++Q++P.take i)++P[i]::(R.drop (i+1)++Z)):=by unfold eL;rw[<-List.take_append_getElem hi,<-List.take_append_getElem a];simp only[cr,dk,dG]
 have b:(A++R.take i).length=A.length+i:=by simp;omega
 rw[d,c,Nf _ _ _ (by omega),<-b];exact Ab _ _ _ _ _ _ (by simp;omega)
theorem qqw(A P Q R Z:ah)(h:P.length=R.length)(j:(A++P++Q++R++Z).length<=1099511627776)(f:AV)(s:f.clr=f):
 ap XV 175 [.tsl true 0 3 (A++P++Q++R++Z).length,aa A.length,aa (A.length+P.length+Q.length:Nat),aa P.length,f] [some (kc (A++P++Q++R++Z))]=some (.d (.tup []),[some (kc (A++R++Q++P++Z))]):=by
 rw[aN 175 wV rfl];have c:∀i,(eL A P Q R Z i).length=(A++P++Q++R++Z).length:=fun i=>ZH A P Q R Z i h
 have r:eL A P Q R Z 0=A++P++Q++R++Z:=by simp[eL]
 have k:eL A P Q R Z P.length=A++R++Q++P++Z:=by unfold eL;rw[oz (l:=R) (by omega),dE (l:=R) (by omega)];simp
 rw[<-r,<-k];generalize m:(A++P++Q++R++Z).length=N at j c;have q:N=A.length+P.length+Q.length+R.length+Z.length:=by rw[<-m];simp;omega
 rw[c 0];have a:=cd (X:=XV) (T:=[29,35]) (L:=1) (live:=[0,1,2,3,10]) (b:=Bo) (n:=P.length) (γ:=Unit) (st:=fun(_:Unit) i=>⟨[(0,.tsl true 0 3 N),(1,aa A.length),(2,aa (A.length+P.length+Q.length:Nat)),(3,aa P.length),(10,aa i)],[some (kc (eL A P Q R Z i))]⟩) (step:=fun _ _=> .inl ())
  (F:=fun _=>(.exit 0,⟨[(0,.tsl true 0 3 N),(1,aa A.length),(2,aa (A.length+P.length+Q.length:Nat)),(3,aa P.length),(10,aa P.length),(13,ax false)],[some (kc (eL A P Q R Z P.length))]⟩)) (R:=fun _=>(.ret,⟨[],[]⟩))
  (fun _=>⟨by simp,by simp[Bo]⟩)
  (fun _ i hi=>by
   have o:=bE (n:=i) (by omega);have e:=Za (eL A P Q R Z i) A.length (A.length+P.length+Q.length) i P.length (by rw[c];exact j) (by rw[c];omega) (by rw[c];omega) (by omega);rw[PM A P Q R Z i h hi,c]at e;have p:(i:Int)<P.length:=by omega
   generalize g:kc (eL A P Q R Z (i+1))=c2 at e;generalize kc (eL A P Q R Z i)=c1 at e⊢
   exact⟨⟨[(0,.tsl true 0 3 N),(1,aa A.length),(2,aa (A.length+P.length+Q.length:Nat)),(3,aa P.length),(10,aa (i+1:Nat))],[some c2]⟩,by
    simp[Bo,hi];simp only[nn]at e;rw[e];simp[o],by simp[aJ,aG,fe,g]⟩)
  P.length () 0 ⟨[(0,.tsl true 0 3 N),(1,aa A.length),(2,aa (A.length+P.length+Q.length:Nat)),(3,aa P.length),(10,aa 0)],[some (kc (eL A P Q R Z 0))]⟩ (by omega) (by simp[aJ,aG,fe])
 rw[kD]at a;generalize kc (eL A P Q R Z P.length)=c2 at a⊢
 generalize kc (eL A P Q R Z 0)=c1 at a⊢
 generalize ((A.length+P.length+Q.length:Nat):Int)=K at a⊢
 simp[wV];rw[a];simp
theorem C1(A P Q R Z:ah)(a b n N:Nat)(i:a=A.length)(g:b=A.length+P.length+Q.length)(c:n=P.length)(k:n=R.length)(e:N=(A++P++Q++R++Z).length)(h:N<=1099511627776)(f:AV)(j:f.clr=f):
 ap XV 175 [.tsl true 0 3 N,aa a,aa b,aa n,f] [some (kc (A++P++Q++R++Z))]=some (.d (.tup []),[some (kc (A++R++Q++P++Z))]):=by
 subst i;subst g;subst c;subst e
 exact qqw A P Q R Z k h f j
theorem qJD(G:ah)(m N:Nat)(K:N<=1099511627776)(f:AV)(j:f.clr=f)(I:f.safe 1=true):∀(k:Nat) (A X Y Z:ah),X.length+Y.length<=k->0<X.length->0<Y.length->A.length+X.length=m->(A++X++Y++Z).length=N->G=A++Y++X++Z->
 ∃(d a b e:ah),a.length=b.length/\d.length+a.length=m/\(d++a++b++e).length=N/\G=d++b++a++e/\
  cj XV [] 1 [0,2,4,10,11] tZ ⟨[(0,.tsl true 0 3 N),(2,aa m),(4,f),(10,aa X.length),(11,aa Y.length)],[some (kc (A++X++Y++Z))]⟩=some (.exit 0,⟨[(0,.tsl true 0 3 N),(2,aa m),(4,f),(10,aa a.length),(11,aa a.length),(20,ax false)],[some (kc (d++a++b++e))]⟩):=by
 intro k
 induction k with
 |zero=>intro A X Y Z h1 h2;omega
 |succ k M=>
  intro A X Y Z hk hx hy hm O D;have h4:A.length+X.length+Y.length+Z.length=N:=by rw[<-O];simp;omega
  have head:∀(x y:Nat) (c:aA),aJ 1 [0,2,4,10,11] ⟨[(0,.tsl true 0 3 N),(2,aa m),(4,f),(10,aa x),(11,aa y)],[some c]⟩=some ⟨[(0,.tsl true 0 3 N),(2,aa m),(4,f),(10,aa x),(11,aa y)],[some c]⟩:=fun x y c=>by simp[aJ,aG,fe,I]
  rcases Nat.lt_trichotomy X.length Y.length with h3|i|W
  ·
   have h:(Y.take (Y.length-X.length)).length=Y.length-X.length:=by simp
   have o:(Y.drop (Y.length-X.length)).length=X.length:=by simp;omega
   generalize p:Y.take (Y.length-X.length)=Q at h;generalize hR:Y.drop (Y.length-X.length)=R at o;have J:Y=Q++R:=by rw[<-p,<-hR,d7]
   have g:=C1 A X Q R Z A.length (m+Y.length-X.length) X.length N rfl (by omega) rfl o.symm (by simp;omega) K f j;obtain⟨d,a,b,e,s,q,C,H,n⟩:=M A R Q (X++Z) (by omega) (by omega) (by omega) (by omega) (by simp;omega) (by rw[D,J];simp);refine⟨d,a,b,e,s,q,C,H,?_⟩;rw[<-n,o,h];have z:A++X++Y++Z=A++X++Q++R++Z:=by rw[J];simp
   have e2:A++R++Q++(X++Z)=A++R++Q++X++Z:=by simp
   rw[z,e2];have F:IntKind.i64.wrap ((m:Int)-X.length)=(A.length:Int):=by rw[wrap_i64 (by omega) (by omega)];omega
   have w2:IntKind.i64.wrap ((m:Int)+Y.length)=((m+Y.length:Nat):Int):=by rw[wrap_i64 (by omega) (by omega)];omega
   have w3:IntKind.i64.wrap (((m+Y.length:Nat):Int)-X.length)=((m+Y.length-X.length:Nat):Int):=by rw[wrap_i64 (by omega) (by omega)];omega
   have w:IntKind.i64.wrap ((Y.length:Int)-X.length)=((Y.length-X.length:Nat):Int):=by rw[wrap_i64 (by omega) (by omega)];omega
   refine fA (head _ _ _) ?_;have u:((X.length:Int) !=(Y.length:Int))=true:=by simp;omega
   have l:¬((Y.length:Int)<X.length):=by omega
   generalize kc (A++X++Q++R++Z)=c1 at g⊢
   generalize kc (A++R++Q++X++Z)=c2 at g⊢
   generalize ((m+Y.length-X.length:Nat):Int)=gv1 at*
   generalize ((m+Y.length:Nat):Int)=gv2 at*
   generalize ((Y.length-X.length:Nat):Int)=gv3 at*
   generalize (X.length:Int)=vx at*
   generalize (Y.length:Int)=vy at*
   simp[tZ,u,l,F,w2,w3,w,g,j]
  ·
   refine⟨A,X,Y,Z,i,hm,O,D,?_⟩;rw[<-i];refine eF (head _ _ _) ?_ (by simp);simp[tZ]
  ·have r:(X.take Y.length).length=Y.length:=by simp;omega
   have h:(X.drop Y.length).length=X.length-Y.length:=by simp
   generalize hP:X.take Y.length=P at r;generalize p:X.drop Y.length=Q at h;have V:X=P++Q:=by rw[<-hP,<-p,d7]
   have g:=C1 A P Q Y Z A.length m Y.length N rfl (by omega) r.symm rfl (by simp;omega) K f j;obtain⟨d,a,b,e,s,q,C,H,n⟩:=M (A++Y) Q P Z (by omega) (by omega) (by omega) (by simp;omega) (by simp;omega) (by rw[D,V];simp);refine⟨d,a,b,e,s,q,C,H,?_⟩;rw[<-n,r,h];have z:A++X++Y++Z=A++P++Q++Y++Z:=by rw[V];simp
   rw[z];have F:IntKind.i64.wrap ((m:Int)-X.length)=(A.length:Int):=by rw[wrap_i64 (by omega) (by omega)];omega
   have w:IntKind.i64.wrap ((X.length:Int)-Y.length)=((X.length-Y.length:Nat):Int):=by rw[wrap_i64 (by omega) (by omega)];omega
   refine fA (head _ _ _) ?_;have u:((X.length:Int) !=(Y.length:Int))=true:=by simp;omega
   have l:((Y.length:Int)<X.length):=by omega
   generalize kc (A++P++Q++Y++Z)=c1 at g⊢
   generalize kc (A++Y++Q++P++Z)=c2 at g⊢
   generalize ((X.length-Y.length:Nat):Int)=gv3 at*
   generalize (X.length:Int)=vx at*
   generalize (Y.length:Int)=vy at*
   simp[tZ,u,l,F,w,g,j]
theorem qC2(A X Y Z:ah)(a m b N:Nat)(G:a=A.length)(C:m=A.length+X.length)(F:b=A.length+X.length+Y.length)(k:N=(A++X++Y++Z).length)(l:N<=1099511627776)(q:0<X.length)(r:0<Y.length)(f:AV)(i:f.clr=f)(j:f.safe 1=true):
 ap XV 174 [.tsl true 0 3 N,aa a,aa m,aa b,f] [some (kc (A++X++Y++Z))]=some (.d (.tup []),[some (kc (A++Y++X++Z))]):=by
 have D:A.length+X.length+Y.length+Z.length=N:=by rw[k];simp;omega
 obtain⟨e,c,g,h,o,H,s,y,p⟩:=qJD (A++Y++X++Z) m N l f i j (X.length+Y.length) A X Y Z (bf _) q r C.symm k.symm rfl;have u:e.length+c.length+g.length+h.length=N:=by rw[<-s];simp;omega
 have n:=C1 e c [] g h e.length m c.length N rfl (by simp;omega) rfl o (by simp;omega) l f i;simp only[dB]at n;rw[aN 174 xn rfl,y];have x:IntKind.i64.wrap ((m:Int)-a)=(X.length:Int):=by rw[wrap_i64 (by omega) (by omega)];omega
 have w:IntKind.i64.wrap ((b:Int)-m)=(Y.length:Int):=by rw[wrap_i64 (by omega) (by omega)];omega
 have z:IntKind.i64.wrap ((m:Int)-c.length)=(e.length:Int):=by rw[wrap_i64 (by omega) (by omega)];omega
 generalize kc (A++X++Y++Z)=c1 at*
 generalize kc (e++c++g++h)=c2 at*
 generalize kc (e++g++c++h)=c3 at*
 simp[xn,x,w];rw[p];simp[Mp,z,i,n]
theorem mQ(l:ah)(i:Nat)(hi:i<l.length):((kc l).drop (i*3)).take 3=e3 (aj l i):=by unfold kc;rw[wu (Ck l) i (by simpa using hi)];simp[bg hi]
theorem XF(l:ah)(a:Nat)(j:Nat)(x:l.length<=1099511627776)(k:j+1<l.length)(C:a<j+1)(m:∀t,t∈l->t.inner<=1099511627776)(q i:AV):
 aO XV [46,50] (.region true 0 [0,1,2,3,8,9,34] wI) ⟨[(0,.tsl true 0 3 l.length),(1,aa a),(2,q),(3,.fn 6 []),(8,i),(9,aa ((j+1:Nat):Int))],[some (kc l)]⟩=some (.normal,⟨[(0,.tsl true 0 3 l.length),(1,aa a),(2,q),(3,.fn 6 []),(8,i),(9,aa ((j+1:Nat):Int)),(34,ax (decide (T.cmp (aj l (j+1)) (aj l j)<0)))],[some (kc l)]⟩):=by
 have p:IntKind.i64.wrap (((j+1:Nat):Int)-1)=(j:Int):=by rw[show((j+1:Nat):Int)-1=(j:Int)by omega];exact wrap_i64 (by omega) (by omega)
 have hc:=xu (some (kc l)) (aj l (j+1)) (aj l j) (m _ (bV k)) (m _ (bV (by omega)));have f1:=mQ l j (by omega);have f2:=mQ l (j+1) k;have o:=kZ l;generalize T.cmp (aj l (j+1)) (aj l j)=r at hc⊢
 generalize kc l=c0 at f1 f2 o hc⊢
 generalize s:l.length=n at*
 have c:(0:Int)<=((j+1:Nat):Int)/\((j+1:Nat):Int)<n:=⟨by omega,by omega⟩;have d:((j+1:Nat):Int).toNat=j+1:=rfl;have e:(j:Int)<n:=by omega
 have g:j*3+3<=n*3:=by omega
 have h:(j+1)*3+3<=n*3:=by omega
 have b:((a:Int)<((j+1:Nat):Int)):=by omega
 generalize ((j+1:Nat):Int)=J at p c d b⊢
 obtain⟨z,y,D⟩:=aj l (j+1);obtain⟨w,vb,u⟩:=aj l j;simp only[mq,ai]at f1 f2;simp[G8,p,c,d,e,b,o,f1,f2,g,h,hc]
theorem Aq(A Z:ah)(x:T)(i:Nat)(h:i=A.length):aj (A++x::Z) i=x:=by subst h;exact Dl A Z x
theorem quJ(N a:Nat)(R:N<=1099511627776)(m l:Int)(x:T):∀(k:Nat) (A S d:ah),S.length=k->A.length=a->(A++S++x::d).length=N->(∀t,t∈A++S++x::d->t.inner<=1099511627776)->
 ∃S1 S2:ah,S=S1++S2/\(∀s,s∈S2->T.cmp x s<0)/\(∀s,S1.getLast?=some s->¬T.cmp x s<0)/\
  ∀(s0:XS),s0.r=[(0,.tsl true 0 3 N),(1,aa a),(2,aa m),(3,.fn 6 []),(8,aa l),(9,aa (a+S.length:Nat))]->s0.B=[some (kc (A++S++x::d))]->
  ∃w,cj XV [46,50] 1 [0,1,2,3,8,9] sO s0=some (.exit 2,⟨[(0,.tsl true 0 3 N),(1,aa a),(2,aa m),(3,.fn 6 []),(8,aa l),(9,aa (a+S1.length:Nat)),(34,w)],[some (kc (A++S1++x::(S2++d)))]⟩):=by
 have head:∀(y:Int) (c:aA) (s0:XS),s0.r=[(0,.tsl true 0 3 N),(1,aa a),(2,aa m),(3,.fn 6 []),(8,aa l),(9,aa y)]->s0.B=[some c]->aJ 1 [0,1,2,3,8,9] s0=some ⟨[(0,.tsl true 0 3 N),(1,aa a),(2,aa m),(3,.fn 6 []),(8,aa l),(9,aa y)],[some c]⟩:=fun y c s0 e i=>by
  obtain⟨r,B⟩:=s0;simp only at e i;subst e;subst i
  simp[aJ,aG,fe,ic,gJ]
 intro k
 induction k with
 |zero=>intro A S d z C j G;have:S=[]:=jX.1 z;subst this;refine⟨[],[],rfl,by simp,by simp,fun s0 e i=>⟨ax false,?_⟩⟩;refine eF (head _ _ s0 e i) ?_ (by simp);simp[sO,G8,CK]
 |succ k ih=>
  intro A S d z C j G;have q:S≠[]:=by intro h;simp[h]at z
  obtain⟨b,s,rfl⟩:∃b s,S=b++[s]:=⟨S.dropLast,S.getLast q,(uc q).symm⟩;have K:b.length=k:=by simpa using z
  have o:A++(b++[s])++x::d=(A++b)++s::([]++x::d):=by simp
  have P:A++b++x::(s::d)=(A++b)++x::([]++s::d):=by simp
  have W:A.length+b.length+d.length+2=N:=by rw[<-j];simp;omega
  have p:a+(b++[s]).length=(a+b.length)+1:=by simp;omega
  have Z:aj (A++(b++[s])++x::d) (a+b.length)=s:=by rw[o];exact Aq _ _ _ _ (by simp[C])
  have t1:aj (A++(b++[s])++x::d) (a+b.length+1)=x:=Aq _ _ _ _ (by simp;omega);have hc:=XF (A++(b++[s])++x::d) a (a+b.length) (by rw[j];exact R) (by rw[j];omega) (by omega) G (aa m) (aa l);rw[Z,t1,j]at hc
  by_cases D:T.cmp x s<0
  ·have g:=qPu (A++(b++[s])++x::d) (a+b.length) (by rw[j];exact R) (by rw[j];omega) (aa a) (aa m) (.fn 6 []) (aa l) (by simp) (by simp)
   have M:swp (A++(b++[s])++x::d) (a+b.length) (a+b.length+1)=A++b++x::(s::d):=by rw[o,P,show a+b.length=(A++b).length by simp[C]];exact Ab _ [] _ _ _ _ (by simp)
   rw[M,j]at g;obtain⟨S1,S2,V,e2,e3,e4⟩:=ih A b (s::d) K C (by simp;omega) (fun t Q=>G t (by
    simp only[bC,bK]at Q;rcases Q with(h|h)|h|h|h<;>simp[h]))
   refine⟨S1,S2++[s],by rw[V];simp,fun y u=> ?_,e3,fun s0 e i=> ?_⟩
   ·rcases bC.1 u with h|h
    ·exact e2 y h
    ·simp at h;subst h;exact D
   ·rw[p]at e
    have Y:=wrap_i64 (n:=((a+b.length:Nat):Int)) (by omega) (by omega);obtain⟨w,F⟩:=e4 ⟨[(0,.tsl true 0 3 N),(1,aa a),(2,aa m),(3,.fn 6 []),(8,aa l),(9,aa (a+b.length:Nat))],[some (kc (A++b++x::(s::d)))]⟩ rfl rfl;refine⟨w,?_⟩;have O:S2++[s]++d=S2++(s::d):=by simp
    rw[O,<-F];refine fA (head _ _ s0 e i) ?_;have H:IntKind.i64.wrap (((a+b.length+1:Nat):Int)-1)=((a+b.length:Nat):Int):=by rw[show((a+b.length+1:Nat):Int)-1=((a+b.length:Nat):Int)by omega];exact Y
    simp only[D,decide_true]at hc;generalize kc (A++b++x::(s::d))=c2 at g⊢
    generalize kc (A++(b++[s])++x::d)=c1 at hc g⊢
    generalize ((a+b.length+1:Nat):Int)=J at*
    generalize ((a+b.length:Nat):Int)=I at*
    simp only[sO,nV,hc];simp;rw[g];simp[CK,H]
  ·refine⟨b++[s],[],by simp,by simp,fun y u=> ?_,fun s0 e i=>⟨ax false,?_⟩⟩
   ·simp at u;subst u;exact D
   ·rw[p]at e⊢
    refine eF (head _ _ s0 e i) ?_ (by simp);simp only[D,decide_false]at hc;simp only[dG];generalize kc (A++(b++[s])++x::d)=c1 at hc⊢
    generalize ((a+b.length+1:Nat):Int)=J at*
    simp only[sO,nV,hc];simp
variable{S1 S2:ah}
theorem Ot{x:T}(h:ck (S1++S2))(j:∀s,s∈S2->T.cmp x s<0)(k:∀s,S1.getLast?=some s->¬T.cmp x s<0):ck (S1++x::S2):=by
 unfold ck at*
 rw[jL]at h⊢
 obtain⟨g,o,m⟩:=h;have n:∀s,s∈S1->dD s x:=by
  intro s b;have a:S1≠[]:=fun c=>by rw[c]at b;simp at b
  have e:=pM (k (S1.getLast a) (Hr a))
  by_cases c:s=S1.getLast a
  ·rw[c];exact e
  ·have i:s∈S1.dropLast:=by
    have:=uc a;rw[<-this]at b;rcases bC.1 b with h|h
    ·exact h
    ·simp at h;exact absurd h c
   have l:(S1.dropLast++[S1.getLast a]).Pairwise dD:=by rw[uc];exact g
   exact tw ((jL.1 l).2.2 s i _ (by simp)) e
 refine⟨g,jc.2 ⟨fun s b=>pe (j s b),o⟩,fun s b t d=> ?_⟩;rcases bK.1 d with rfl|d
 ·exact n s b
 ·exact m s b t d
theorem W0(N a b:Nat)(M:N<=1099511627776)(A Z:ah)(H:A.length=a):∀(R S:ah),0<S.length->b=a+S.length+R.length->(A++S++R++Z).length=N->(∀t,t∈A++S++R++Z->t.inner<=1099511627776)->ck S->
 ∃W:ah,W.Perm (S++R)/\ck W/\
  ∀(s0:XS),s0.r=[(0,.tsl true 0 3 N),(1,aa a),(2,aa b),(3,.fn 6 []),(8,aa (a+S.length:Nat))]->s0.B=[some (kc (A++S++R++Z))]->
  cj XV [46,50] 1 [0,1,2,3,8] mI s0=some (.exit 0,⟨[(0,.tsl true 0 3 N),(1,aa a),(2,aa b),(3,.fn 6 []),(8,aa b),(14,ax false)],[some (kc (A++W++Z))]⟩):=by
 have head:∀(y:Int) (c:aA) (s0:XS),s0.r=[(0,.tsl true 0 3 N),(1,aa a),(2,aa b),(3,.fn 6 []),(8,aa y)]->s0.B=[some c]->aJ 1 [0,1,2,3,8] s0=some ⟨[(0,.tsl true 0 3 N),(1,aa a),(2,aa b),(3,.fn 6 []),(8,aa y)],[some c]⟩:=fun y c s0 k e=>by
  obtain⟨r,B⟩:=s0;simp only at k e;subst k;subst e
  simp[aJ,aG,fe,ic,gJ]
 intro R
 induction R with
 |nil=>
  intro S D q p j C;refine⟨S,by simp,C,fun s0 k e=> ?_⟩;have z:b=a+S.length:=by simpa using q
  rw[<-z]at k;rw[dB]at e;refine eF (head _ _ s0 k e) ?_ (by simp);simp[mI]
 |cons x R Y=>
  intro S D q p j C;obtain⟨S1,S2,m,e2,e3,V⟩:=quJ N a M b (a+S.length:Nat) x S.length A S (R++Z) rfl H (by rw[<-p];simp) (fun t o=>j t (by
   simp only[bC,bK]at o⊢
   rcases o with(h|h)|h|h|h<;>simp[h]))
  have K:ck (S1++x::S2):=Ot (by rw[<-m];exact C) e2 e3;have d:(S1++x::S2).length=S.length+1:=by rw[m];simp;omega
  have i:(S1++x::S2).Perm (S++[x]):=by
   rw[m];exact(tS).trans (by
    have:=sJ (l₁:=[x]) (l₂:=S1++S2);simpa using this)
  have s:(A++(S1++x::S2)++R++Z).length=N:=by rw[<-p,m];simp;omega
  obtain⟨W,P,O,Q⟩:=Y (S1++x::S2) (by rw[d];omega) (by rw[d,q];simp;omega) s (fun t o=>j t (by
   rw[m];simp only[bC,bK]at o⊢
   rcases o with((h|h|h|h)|h)|h<;>simp[h])) K
  refine⟨W,P.trans ((i.append_right R).trans (by simp)),O,fun s0 k e=> ?_⟩;have F:A.length+S.length+(R.length+1)+Z.length=N:=by rw[<-p];simp;omega
  have u:((a+S.length:Nat):Int)<(b:Int):=by simp only[de]at q;omega
  obtain⟨w,g⟩:=V ⟨[(0,.tsl true 0 3 N),(1,aa a),(2,aa b),(3,.fn 6 []),(8,aa (a+S.length:Nat)),(9,aa (a+S.length:Nat))],[some (kc (A++S++x::(R++Z)))]⟩ rfl rfl;have hc0:A++S++x::R++Z=A++S++x::(R++Z):=by simp
  rw[hc0]at e;have G:=bE (n:=a+S.length) (by omega);have l:=Q ⟨[(0,.tsl true 0 3 N),(1,aa a),(2,aa b),(3,.fn 6 []),(8,aa (a+(S1++x::S2).length:Nat))],[some (kc (A++(S1++x::S2)++R++Z))]⟩ rfl rfl;rw[<-l];refine fA (head _ _ s0 k e) ?_;have hc1:A++(S1++x::S2)++R++Z=A++S1++x::(S2++(R++Z)):=by simp
  rw[hc1,d,show a+(S.length+1)=a+S.length+1 by omega];generalize kc (A++S1++x::(S2++(R++Z)))=c2 at g⊢
  generalize kc (A++S++x::(R++Z))=c1 at g⊢
  generalize ((a+S.length+1:Nat):Int)=J at*
  generalize ((a+S.length:Nat):Int)=I at*
  simp[mI,u];rw[g];simp[G]
theorem Mq(A X Z:ah)(a b N:Nat)(o:a=A.length)(k:b=A.length+X.length)(j:N=(A++X++Z).length)(q:N<=1099511627776)(g:∀t,t∈A++X++Z->t.inner<=1099511627776):
 ∃W:ah,W.Perm X/\ck W/\ap XV 172 [.tsl true 0 3 N,aa a,aa b,.fn 6 []] [some (kc (A++X++Z))]=some (.d (.tup []),[some (kc (A++W++Z))]):=by
 have p:A.length+X.length+Z.length=N:=by rw[j];simp;omega
 have m:=bE (n:=a) (by omega);cases X with
 |nil=>
  refine⟨[],jW _,ns,?_⟩;rw[aN 172 lZ rfl];have i:b=a:=by simp at k;omega
  subst i;have c:cj XV [46,50] 1 [0,1,2,3,8] mI ⟨[(0,.tsl true 0 3 N),(1,aa b),(2,aa b),(3,.fn 6 []),(8,aa (b+1:Nat))],[some (kc (A++[]++Z))]⟩=some (.exit 0,⟨[(0,.tsl true 0 3 N),(1,aa b),(2,aa b),(3,.fn 6 []),(8,aa (b+1:Nat)),(14,ax false)],[some (kc (A++[]++Z))]⟩):=by
   refine eF (s0:=⟨[(0,.tsl true 0 3 N),(1,aa b),(2,aa b),(3,.fn 6 []),(8,aa (b+1:Nat))],[some (kc (A++[]++Z))]⟩) (by simp[aJ,aG,fe,ic,gJ]) ?_ (by simp);have e:¬(((b+1:Nat):Int)<(b:Int)):=by omega
   generalize ((b+1:Nat):Int)=J at*
   simp[mI,e]
  generalize kc (A++[]++Z)=c1 at c⊢
  generalize ((b+1:Nat):Int)=J at*
  simp[lZ,m];rw[c];simp
 |cons x R=>
  obtain⟨W,s,r,u⟩:=W0 N a b q A Z o.symm R [x] (by simp) (by rw[k,o];simp;omega) (by rw[j];simp) (fun t l=>g t (by
   simp only[bC,bK,nT,nu]at l⊢
   rcases l with((h|h)|h)|h<;>simp[h])) (rZ _ _)
  refine⟨W,by simpa using s,r,?_⟩;rw[aN 172 lZ rfl];have c:=u ⟨[(0,.tsl true 0 3 N),(1,aa a),(2,aa b),(3,.fn 6 []),(8,aa (a+1:Nat))],[some (kc (A++[x]++R++Z))]⟩ rfl rfl;have hc:A++x::R++Z=A++[x]++R++Z:=by simp
  rw[hc];generalize kc (A++[x]++R++Z)=c1 at c⊢
  generalize kc (A++W++Z)=c2 at c⊢
  generalize ((a+1:Nat):Int)=J at*
  simp[lZ,m];rw[c];simp
theorem VZ(l:ah)(k:Nat)(u:l.length<=1099511627776)(o:k+1<l.length)(a:Int):
 aO XV [70,74,122,126] (.region true 0 [0,10,13] yF) ⟨[(0,.tsl true 0 3 l.length),(10,aa a),(13,aa k),(58,ax true)],[some (kc l)]⟩=some (.normal,⟨[(0,.tsl true 0 3 l.length),(10,aa a),(13,aa k)],[some (kc (swp l (k+1) k))]⟩):=by
 have i:=bE (n:=k) (by omega);obtain⟨c1,x,w,r,p,q,f1,f2,f3,f4,j,g⟩:=yM l (k+1) k o (by omega) (by omega);have m:=kZ l;generalize kc (swp l (k+1) k)=c4 at g⊢
 generalize kc l=c0 at f1 f2 m⊢
 generalize s:l.length=n at*
 have c:(0:Int)<=((k+1:Nat):Int)/\((k+1:Nat):Int)<n:=⟨by omega,by omega⟩;have b:((k+1:Nat):Int).toNat=k+1:=rfl;have d:(k:Int)<n:=by omega
 have h:k*3+3<=n*3:=by omega
 have e:(k+1)*3+3<=n*3:=by omega
 generalize ((k+1:Nat):Int)=J at i c b⊢
 simp only[mq,BV,ai]at f1 f2 f3 f4 j g;simp[YG,i,c,b,d,m,r,p,q,f1,f2,f3,f4,j,g,h,e,bh,aW,ba,bd]
theorem qJh(l:ah)(k:Nat)(u:l.length<=1099511627776)(o:k+1<l.length)(c:Int):
 aO XV [70,74,122,126] (.region true 0 [0,14,17] we) ⟨[(0,.tsl true 0 3 l.length),(14,aa c),(17,aa ((k+1:Nat):Int)),(110,ax true)],[some (kc l)]⟩=some (.normal,⟨[(0,.tsl true 0 3 l.length),(14,aa c),(17,aa ((k+1:Nat):Int))],[some (kc (swp l k (k+1)))]⟩):=by
 have i:IntKind.i64.wrap (((k+1:Nat):Int)-1)=(k:Int):=by rw[show((k+1:Nat):Int)-1=(k:Int)by omega];exact wrap_i64 (by omega) (by omega)
 obtain⟨c1,x,w,r,p,q,f1,f2,f3,f4,j,g⟩:=yM l k (k+1) (by omega) o (by omega);have m:=kZ l;generalize kc (swp l k (k+1))=c4 at g⊢
 generalize kc l=c0 at f1 f2 m⊢
 generalize s:l.length=n at*
 have b:(0:Int)<=((k+1:Nat):Int)/\((k+1:Nat):Int)<n:=⟨by omega,by omega⟩;have a:((k+1:Nat):Int).toNat=k+1:=rfl;have d:(k:Int)<n:=by omega
 have h:k*3+3<=n*3:=by omega
 have e:(k+1)*3+3<=n*3:=by omega
 generalize ((k+1:Nat):Int)=J at i b a⊢
 simp only[mq,BV,ai]at f1 f2 f3 f4 j g;simp[ZW,i,b,a,d,m,r,p,q,f1,f2,f3,f4,j,g,h,e,bh,aW,ba,bd]
theorem V3(l:ah)(a h:Nat)(u:l.length<=1099511627776)(o:a<l.length)(j:h<l.length)(k:∀t,t∈l->t.inner<=1099511627776)(b c:Int):
 aO XV [70,74,122,126] (.region true 0 [0,1,4,10,11,12,50] Al) ⟨[(0,.tsl true 0 3 l.length),(1,aa a),(4,.fn 6 []),(10,aa b),(11,aa c),(12,aa h)],[some (kc l)]⟩=some (.normal,⟨[(0,.tsl true 0 3 l.length),(1,aa a),(4,.fn 6 []),(10,aa b),(11,aa c),(12,aa h),(50,ax (decide (T.cmp (aj l h) (aj l a)<0)))],[some (kc l)]⟩):=by
 have hc:=xu (some (kc l)) (aj l h) (aj l a) (k _ (bV j)) (k _ (bV o));have f1:=mQ l h j;have f2:=mQ l a o;have m:=kZ l;generalize T.cmp (aj l h) (aj l a)=r at hc⊢
 generalize kc l=c0 at f1 f2 m hc⊢
 generalize p:l.length=n at*
 have d:(h:Int)<n:=by omega
 have e:(a:Int)<n:=by omega
 have g:h*3+3<=n*3:=by omega
 have i:a*3+3<=n*3:=by omega
 obtain⟨x,w,y⟩:=aj l h;obtain⟨s,vb,q⟩:=aj l a;simp only[mq,ai]at f1 f2;simp[Od,d,e,m,f1,f2,g,i,hc]
theorem Zm(l:ah)(m h:Nat)(w:l.length<=1099511627776)(p:m<l.length)(j:h<l.length)(k:∀t,t∈l->t.inner<=1099511627776)(c g:Int):
 aO XV [70,74,122,126] (.region true 0 [0,2,4,14,15,16,103] wy) ⟨[(0,.tsl true 0 3 l.length),(2,aa m),(4,.fn 6 []),(14,aa c),(15,aa g),(16,aa h)],[some (kc l)]⟩=some (.normal,⟨[(0,.tsl true 0 3 l.length),(2,aa m),(4,.fn 6 []),(14,aa c),(15,aa g),(16,aa h),(103,ax (!decide (T.cmp (aj l m) (aj l h)<0)))],[some (kc l)]⟩):=by
 have hc:=xu (some (kc l)) (aj l m) (aj l h) (k _ (bV p)) (k _ (bV j));have f1:=mQ l h j;have f2:=mQ l m p;have i:=kZ l;generalize T.cmp (aj l m) (aj l h)=r at hc⊢
 generalize kc l=c0 at f1 f2 i hc⊢
 generalize q:l.length=n at*
 have a:(h:Int)<n:=by omega
 have b:(m:Int)<n:=by omega
 have d:h*3+3<=n*3:=by omega
 have e:m*3+3<=n*3:=by omega
 obtain⟨y,x,z⟩:=aj l h;obtain⟨u,vb,s⟩:=aj l m;simp only[mq,ai]at f1 f2
 by_cases o:r<0
 ·simp[Ld,a,b,i,f1,f2,d,e,hc,o]
 ·simp[Ld,a,b,i,f1,f2,d,e,hc,o]
theorem qHz(l:ah)(p c:Nat)(H:l.length<=1099511627776)(D:c<=p)(z:p-c<l.length)(u:c<l.length)(C:p<=4398046511104)(x:∀t,t∈l->t.inner<=1099511627776)(o s y a g i j:Int):
 aO XV [70,74,122,126] (.region true 0 [0,1,2,3,4,18,19,20,21,22,23,171] xY) ⟨[(0,.tsl true 0 3 l.length),(1,aa o),(2,aa s),(3,aa y),(4,.fn 6 []),(18,aa a),(19,aa g),(20,aa i),(21,aa j),(22,aa p),(23,aa c)],[some (kc l)]⟩=some (.normal,⟨[(0,.tsl true 0 3 l.length),(1,aa o),(2,aa s),(3,aa y),(4,.fn 6 []),(18,aa a),(19,aa g),(20,aa i),(21,aa j),(22,aa p),(23,aa c),(171,ax (!decide (T.cmp (aj l (p-c)) (aj l c)<0)))],[some (kc l)]⟩):=by
 have m:IntKind.i64.wrap ((p:Int)-c)=((p-c:Nat):Int):=by rw[wrap_i64 (by omega) (by omega)];omega
 have hc:=xu (some (kc l)) (aj l (p-c)) (aj l c) (x _ (bV z)) (x _ (bV u));have f1:=mQ l c u;have f2:=mQ l (p-c) z;have k:=kZ l;generalize T.cmp (aj l (p-c)) (aj l c)=r at hc⊢
 generalize kc l=c0 at f1 f2 k hc⊢
 generalize F:l.length=n at*
 generalize N:p-c=q at*
 have b:(c:Int)<n:=by omega
 have h:(q:Int)<n:=by omega
 have e:c*3+3<=n*3:=by omega
 have d:q*3+3<=n*3:=by omega
 obtain⟨J,I,M⟩:=aj l c;obtain⟨K,vb,G⟩:=aj l q;simp only[mq,ai]at f1 f2
 by_cases w:r<0
 ·simp[JC,m,b,h,k,f1,f2,e,d,hc,w]
 ·simp[JC,m,b,h,k,f1,f2,e,d,hc,w]
def bs(P:Nat->Bool):Nat->Nat->Nat->Nat
 |0,i,_=>i
 |k+1,i,j=>if i<j then(if P ((i+j)/2)=true then bs P k ((i+j)/2+1) j else bs P k i ((i+j)/2))else i
theorem rc(P:Nat->Bool):∀(k i j:Nat),i<=j->j-i<=k->i<=bs P k i j/\bs P k i j<=j/\(bs P k i j=i\/P (bs P k i j-1)=true)/\(bs P k i j=j\/P (bs P k i j)=false)
 |0,i,j,h,m=>by have e:bs P 0 i j=i:=rfl;rw[e];exact⟨bf _,h,.inl rfl,.inl (by omega)⟩
 |k+1,i,j,h,m=>by
  simp only[bs]
  by_cases c:i<j
  ·rw[aw c]
   by_cases d:P ((i+j)/2)=true
   ·rw[aw d]
    obtain⟨l,g,a,b⟩:=rc P k ((i+j)/2+1) j (by omega) (by omega);refine⟨by omega,g,?_,b⟩;rcases a with a|a
    ·right;rw[a];simpa using d
    ·exact .inr a
   ·rw[au d]
    obtain⟨l,g,a,b⟩:=rc P k i ((i+j)/2) (by omega) (by omega);refine⟨l,by omega,a,?_⟩;rcases b with b|b
    ·right;rw[b];simpa using d
    ·exact .inr b
  ·rw[au c]
   exact⟨bf _,h,.inl rfl,.inl (by omega)⟩
theorem wrap_u64{n:Int}(b:0<=n)(a:n<=18446744073709551615):IntKind.u64.wrap n=n:=by simp[IntKind.wrap,IntKind.bits,IntKind.signed];omega
theorem mF(x:Int):dm .shr .u64 x 1=some (.int .u64 (x.fdiv 2)):=rfl
theorem Xe(n:Nat):(n:Int).fdiv 2=((n/2:Nat):Int):=by rw[Mx _ (by omega)];omega
theorem vE(i j:Nat)(h:i+j<=4398046511104):IntKind.i64.wrap ((i:Int)+j)=((i+j:Nat):Int)/\IntKind.u64.wrap ((i+j:Nat):Int)=((i+j:Nat):Int)/\((i+j:Nat):Int).fdiv 2=(((i+j)/2:Nat):Int)/\IntKind.i64.wrap (((i+j)/2:Nat):Int)=(((i+j)/2:Nat):Int):=⟨by rw[wrap_i64 (by omega) (by omega)];omega,wrap_u64 (by omega) (by omega),Xe _,wrap_i64 (by omega) (by omega)⟩
theorem qLf(l:ah)(a:Nat)(w:l.length<=1099511627776)(x:a<l.length)(s:∀t,t∈l->t.inner<=1099511627776):∀(k i j:Nat),i<=j->j-i<=k->j<=l.length->
 cj XV [70,74,122,126] 1 [0,1,4,10,11] oK ⟨[(0,.tsl true 0 3 l.length),(1,aa a),(4,.fn 6 []),(10,aa i),(11,aa j)],[some (kc l)]⟩=
  some (.exit 0,⟨[(0,.tsl true 0 3 l.length),(1,aa a),(4,.fn 6 []),(10,aa (bs (fun h=>decide (T.cmp (aj l h) (aj l a)<0)) k i j:Nat)),(11,aa (bs (fun h=>decide (T.cmp (aj l h) (aj l a)<0)) k i j:Nat)),(33,ax false)],[some (kc l)]⟩):=by
 have head:∀(i j:Nat),aJ 1 [0,1,4,10,11] ⟨[(0,.tsl true 0 3 l.length),(1,aa a),(4,.fn 6 []),(10,aa i),(11,aa j)],[some (kc l)]⟩=some ⟨[(0,.tsl true 0 3 l.length),(1,aa a),(4,.fn 6 []),(10,aa i),(11,aa j)],[some (kc l)]⟩:=fun i j=>by simp[aJ,aG,fe,ic,gJ]
 have stop:∀i:Nat,cj XV [70,74,122,126] 1 [0,1,4,10,11] oK ⟨[(0,.tsl true 0 3 l.length),(1,aa a),(4,.fn 6 []),(10,aa i),(11,aa i)],[some (kc l)]⟩=
  some (.exit 0,⟨[(0,.tsl true 0 3 l.length),(1,aa a),(4,.fn 6 []),(10,aa i),(11,aa i),(33,ax false)],[some (kc l)]⟩):=fun i=>by
  refine eF (head _ _) ?_ (by simp);simp[oK]
 intro k
 induction k with
 |zero=>
  intro i j h r e;have:i=j:=by omega
  subst this;exact stop i
 |succ k q=>
  intro i j h r e;simp only[bs]
  by_cases c:i<j
  ·rw[aw c]
   obtain⟨g,o,m,p⟩:=vE i j (by omega);have hc:=V3 l a ((i+j)/2) w x (by omega) s i j;have u:=bE (n:=(i+j)/2) (by omega);have b:(i:Int)<j:=by omega
   by_cases d:T.cmp (aj l ((i+j)/2)) (aj l a)<0
   ·rw[aw (by simpa using d)]
    rw[<-q ((i+j)/2+1) j (by omega) (by omega) e];refine fA (head _ _) ?_;simp only[d,decide_true]at hc;generalize kc l=c0 at hc⊢
    generalize (((i+j)/2+1:Nat):Int)=gv1 at*
    generalize (((i+j)/2:Nat):Int)=gv2 at*
    generalize ((i+j:Nat):Int)=gv3 at*
    generalize (i:Int)=gv4 at*
    generalize (j:Int)=gv5 at*
    simp[oK,b,g,o,m,p,mF];rw[hc];simp[u]
   ·rw[au (by simpa using d)]
    rw[<-q i ((i+j)/2) (by omega) (by omega) (by omega)];refine fA (head _ _) ?_;simp only[d,decide_false]at hc;generalize kc l=c0 at hc⊢
    generalize (((i+j)/2+1:Nat):Int)=gv1 at*
    generalize (((i+j)/2:Nat):Int)=gv2 at*
    generalize ((i+j:Nat):Int)=gv3 at*
    generalize (i:Int)=gv4 at*
    generalize (j:Int)=gv5 at*
    simp[oK,b,g,o,m,p,mF];rw[hc];simp
  ·rw[au c]
   have:i=j:=by omega
   subst this;exact stop i
theorem OS(l:ah)(a:Nat)(w:l.length<=1099511627776)(x:a<l.length)(s:∀t,t∈l->t.inner<=1099511627776):∀(k i j:Nat),i<=j->j-i<=k->j<=l.length->
 cj XV [70,74,122,126] 1 [0,2,4,14,15] qn ⟨[(0,.tsl true 0 3 l.length),(2,aa a),(4,.fn 6 []),(14,aa i),(15,aa j)],[some (kc l)]⟩=
  some (.exit 4,⟨[(0,.tsl true 0 3 l.length),(2,aa a),(4,.fn 6 []),(14,aa (bs (fun h=> !decide (T.cmp (aj l a) (aj l h)<0)) k i j:Nat)),(15,aa (bs (fun h=> !decide (T.cmp (aj l a) (aj l h)<0)) k i j:Nat)),(85,ax false)],[some (kc l)]⟩):=by
 have head:∀(i j:Nat),aJ 1 [0,2,4,14,15] ⟨[(0,.tsl true 0 3 l.length),(2,aa a),(4,.fn 6 []),(14,aa i),(15,aa j)],[some (kc l)]⟩=some ⟨[(0,.tsl true 0 3 l.length),(2,aa a),(4,.fn 6 []),(14,aa i),(15,aa j)],[some (kc l)]⟩:=fun i j=>by simp[aJ,aG,fe,ic,gJ]
 have stop:∀i:Nat,cj XV [70,74,122,126] 1 [0,2,4,14,15] qn ⟨[(0,.tsl true 0 3 l.length),(2,aa a),(4,.fn 6 []),(14,aa i),(15,aa i)],[some (kc l)]⟩=
  some (.exit 4,⟨[(0,.tsl true 0 3 l.length),(2,aa a),(4,.fn 6 []),(14,aa i),(15,aa i),(85,ax false)],[some (kc l)]⟩):=fun i=>by
  refine eF (head _ _) ?_ (by simp);simp[qn]
 intro k
 induction k with
 |zero=>
  intro i j h r e;have:i=j:=by omega
  subst this;exact stop i
 |succ k q=>
  intro i j h r e;simp only[bs]
  by_cases c:i<j
  ·rw[aw c]
   obtain⟨g,o,m,p⟩:=vE i j (by omega);have hc:=Zm l a ((i+j)/2) w x (by omega) s i j;have u:=bE (n:=(i+j)/2) (by omega);have b:(i:Int)<j:=by omega
   by_cases d:¬T.cmp (aj l a) (aj l ((i+j)/2))<0
   ·rw[aw (by simpa using d)]
    rw[<-q ((i+j)/2+1) j (by omega) (by omega) e];refine fA (head _ _) ?_;simp only[d,decide_false,qE]at hc;generalize kc l=c0 at hc⊢
    generalize (((i+j)/2+1:Nat):Int)=gv1 at*
    generalize (((i+j)/2:Nat):Int)=gv2 at*
    generalize ((i+j:Nat):Int)=gv3 at*
    generalize (i:Int)=gv4 at*
    generalize (j:Int)=gv5 at*
    simp[qn,b,g,o,m,p,mF];rw[hc];simp[u]
   ·rw[au (by simpa using d)]
    rw[<-q i ((i+j)/2) (by omega) (by omega) (by omega)];refine fA (head _ _) ?_;simp only[Classical.not_not.1 d,decide_true,m9]at hc;generalize kc l=c0 at hc⊢
    generalize (((i+j)/2+1:Nat):Int)=gv1 at*
    generalize (((i+j)/2:Nat):Int)=gv2 at*
    generalize ((i+j:Nat):Int)=gv3 at*
    generalize (i:Int)=gv4 at*
    generalize (j:Int)=gv5 at*
    simp[qn,b,g,o,m,p,mF];rw[hc];simp
  ·rw[au c]
   have:i=j:=by omega
   subst this;exact stop i
theorem W3(l:ah)(p:Nat)(e g m a b:Int)(J:l.length<=1099511627776)(s:p<=4398046511104)(H:∀t,t∈l->t.inner<=1099511627776):∀(k i j:Nat),i<=j->j-i<=k->j<=l.length->(∀c,i<=c->c<j->c<=p/\p-c<l.length)->
 cj XV [70,74,122,126] 1 [0,1,2,3,4,18,19,20,21,22] lI ⟨[(0,.tsl true 0 3 l.length),(1,aa e),(2,aa g),(3,aa m),(4,.fn 6 []),(18,aa a),(19,aa b),(20,aa i),(21,aa j),(22,aa p)],[some (kc l)]⟩=
  some (.exit 8,⟨[(0,.tsl true 0 3 l.length),(1,aa e),(2,aa g),(3,aa m),(4,.fn 6 []),(18,aa a),(19,aa b),(20,aa (bs (fun c=> !decide (T.cmp (aj l (p-c)) (aj l c)<0)) k i j:Nat)),(21,aa (bs (fun c=> !decide (T.cmp (aj l (p-c)) (aj l c)<0)) k i j:Nat)),(22,aa p),(151,ax false)],[some (kc l)]⟩):=by
 have head:∀(i j:Nat),aJ 1 [0,1,2,3,4,18,19,20,21,22] ⟨[(0,.tsl true 0 3 l.length),(1,aa e),(2,aa g),(3,aa m),(4,.fn 6 []),(18,aa a),(19,aa b),(20,aa i),(21,aa j),(22,aa p)],[some (kc l)]⟩=some ⟨[(0,.tsl true 0 3 l.length),(1,aa e),(2,aa g),(3,aa m),(4,.fn 6 []),(18,aa a),(19,aa b),(20,aa i),(21,aa j),(22,aa p)],[some (kc l)]⟩:=fun i j=>by simp[aJ,aG,fe,ic,gJ]
 have stop:∀i:Nat,cj XV [70,74,122,126] 1 [0,1,2,3,4,18,19,20,21,22] lI ⟨[(0,.tsl true 0 3 l.length),(1,aa e),(2,aa g),(3,aa m),(4,.fn 6 []),(18,aa a),(19,aa b),(20,aa i),(21,aa i),(22,aa p)],[some (kc l)]⟩=
  some (.exit 8,⟨[(0,.tsl true 0 3 l.length),(1,aa e),(2,aa g),(3,aa m),(4,.fn 6 []),(18,aa a),(19,aa b),(20,aa i),(21,aa i),(22,aa p),(151,ax false)],[some (kc l)]⟩):=fun i=>by
  refine eF (head _ _) ?_ (by simp);simp[lI]
 intro k
 induction k with
 |zero=>
  intro i j h G w q;have:i=j:=by omega
  subst this;exact stop i
 |succ k F=>
  intro i j h G w q;simp only[bs]
  by_cases o:i<j
  ·rw[aw o]
   obtain⟨x,C,y,D⟩:=vE i j (by omega);have hc:=qHz l p ((i+j)/2) J (q _ (by omega) (by omega)).1 (q _ (by omega) (by omega)).2 (by omega) s H e g m a b i j;have I:=bE (n:=(i+j)/2) (by omega);have d:(i:Int)<j:=by omega
   by_cases r:¬T.cmp (aj l (p-(i+j)/2)) (aj l ((i+j)/2))<0
   ·rw[aw (by simpa using r)]
    rw[<-F ((i+j)/2+1) j (by omega) (by omega) w (fun c z u=>q c (by omega) u)];refine fA (head _ _) ?_;simp only[r,decide_false,qE]at hc;generalize kc l=c0 at hc⊢
    generalize (((i+j)/2+1:Nat):Int)=gv1 at*
    generalize (((i+j)/2:Nat):Int)=gv2 at*
    generalize ((i+j:Nat):Int)=gv3 at*
    generalize (i:Int)=gv4 at*
    generalize (j:Int)=gv5 at*
    simp[lI,d,x,C,y,D,mF];rw[hc];simp[I]
   ·rw[au (by simpa using r)]
    rw[<-F i ((i+j)/2) (by omega) (by omega) (by omega) (fun c z u=>q c z (by omega))];refine fA (head _ _) ?_;simp only[Classical.not_not.1 r,decide_true,m9]at hc;generalize kc l=c0 at hc⊢
    generalize (((i+j)/2+1:Nat):Int)=gv1 at*
    generalize (((i+j)/2:Nat):Int)=gv2 at*
    generalize ((i+j:Nat):Int)=gv3 at*
    generalize (i:Int)=gv4 at*
    generalize (j:Int)=gv5 at*
    simp[lI,d,x,C,y,D,mF];rw[hc];simp
  ·rw[au o]
   have:i=j:=by omega
   subst this;exact stop i
theorem right_step(A Y Z:ah)(x:T)(s:Nat)(a:s<Y.length):swp (A++Y.take s++x::(Y.drop s++Z)) (A.length+s+1) (A.length+s)=A++Y.take (s+1)++x::(Y.drop (s+1)++Z):=by
 have b:(A++Y.take s).length=A.length+s:=by simp;omega
 rw[<-List.take_append_getElem a,dl a,Nf _ _ _ (by omega),<-b];have:=Ab (A++Y.take s) [] (Y.drop (s+1)++Z) x Y[s] ((A++Y.take s).length+1) rfl;simp only[dG]at this;rw[show Y[s]::Y.drop (s+1)++Z=Y[s]::(Y.drop (s+1)++Z)from rfl,this];simp only[cr,dk,dG]
theorem SE(A Y Z:ah)(x:T)(N a:Nat)(j:A.length=a)(k:(A++x::(Y++Z)).length=N)(o:N<=1099511627776):
 cj XV [70,74,122,126] 1 [0,10,13] rU ⟨[(0,.tsl true 0 3 N),(10,aa (a+1+Y.length:Nat)),(13,aa a)],[some (kc (A++x::(Y++Z)))]⟩=
  some (.exit 2,⟨[(0,.tsl true 0 3 N),(10,aa (a+1+Y.length:Nat)),(13,aa (a+Y.length:Nat)),(58,ax false)],[some (kc (A++Y++x::Z))]⟩):=by
 have m:A.length+1+Y.length+Z.length=N:=by rw[<-k];simp;omega
 have c:∀s,(A++Y.take s++x::(Y.drop s++Z)).length=N:=fun s=>by simp;omega
 have e:IntKind.i64.wrap (((a+1+Y.length:Nat):Int)-1)=((a+Y.length:Nat):Int):=by rw[wrap_i64 (by omega) (by omega)];omega
 have h:=cd (X:=XV) (T:=[70,74,122,126]) (L:=1) (live:=[0,10,13]) (b:=rU) (n:=Y.length) (γ:=Unit) (st:=fun(_:Unit) s=>⟨[(0,.tsl true 0 3 N),(10,aa (a+1+Y.length:Nat)),(13,aa (a+s:Nat))],[some (kc (A++Y.take s++x::(Y.drop s++Z)))]⟩) (step:=fun _ _=> .inl ())
  (F:=fun _=>(.exit 2,⟨[(0,.tsl true 0 3 N),(10,aa (a+1+Y.length:Nat)),(13,aa (a+Y.length:Nat)),(58,ax false)],[some (kc (A++Y.take Y.length++x::(Y.drop Y.length++Z)))]⟩)) (R:=fun _=>(.ret,⟨[],[]⟩))
  (fun _=>⟨by simp,by
   generalize ((a+1+Y.length:Nat):Int)=gv1 at*
   generalize ((a+Y.length:Nat):Int)=gv2 at*
   simp[rU,e]⟩)
  (fun _ s p=>by
   have d:=VZ (A++Y.take s++x::(Y.drop s++Z)) (a+s) (by rw[c];exact o) (by rw[c];omega) (a+1+Y.length:Nat);rw[<-j,right_step A Y Z x s p,j,c]at d;have l:=bE (n:=a+s) (by omega);have i:((a+s:Nat):Int)<((a+Y.length:Nat):Int):=by omega
   generalize g:kc (A++Y.take (s+1)++x::(Y.drop (s+1)++Z))=c2 at d;generalize kc (A++Y.take s++x::(Y.drop s++Z))=c1 at d⊢
   exact⟨⟨[(0,.tsl true 0 3 N),(10,aa (a+1+Y.length:Nat)),(13,aa (a+s+1:Nat))],[some c2]⟩,by
    generalize ((a+s+1:Nat):Int)=gv3 at*
    generalize ((a+s:Nat):Int)=gv4 at*
    generalize ((a+1+Y.length:Nat):Int)=gv1 at*
    generalize ((a+Y.length:Nat):Int)=gv2 at*
    simp[rU,e,i];rw[d];simp[l],by rw[<-g];simp[aJ,aG,fe];omega⟩)
  Y.length () 0 ⟨[(0,.tsl true 0 3 N),(10,aa (a+1+Y.length:Nat)),(13,aa a)],[some (kc (A++x::(Y++Z)))]⟩ (by omega) (by simp[aJ,aG,fe])
 rw[kD,fG,Ch,dG]at h;exact h
theorem left_step(A X Z:ah)(y:T)(n:Nat)(a:n<X.length):swp (A++X.take (n+1)++y::(X.drop (n+1)++Z)) (A.length+n) (A.length+n+1)=A++X.take n++y::(X.drop n++Z):=by
 have b:(A++X.take n).length=A.length+n:=by simp;omega
 rw[<-List.take_append_getElem a,dl a,<-b];have:=Ab (A++X.take n) [] (X.drop (n+1)++Z) X[n] y ((A++X.take n).length+1) rfl;simp only[dG]at this;rw[show A++(X.take n++[X[n]])++y::(X.drop (n+1)++Z)=A++X.take n++X[n]::y::(X.drop (n+1)++Z)by simp only[cr,dk,dG],this];simp only[cr,dk]
theorem Ss(A X Z:ah)(y:T)(N a:Nat)(k:A.length=a)(l:(A++X++y::Z).length=N)(p:N<=1099511627776):
 cj XV [70,74,122,126] 1 [0,14,17] tc ⟨[(0,.tsl true 0 3 N),(14,aa a),(17,aa (a+X.length:Nat))],[some (kc (A++X++y::Z))]⟩=
  some (.exit 6,⟨[(0,.tsl true 0 3 N),(14,aa a),(17,aa a),(110,ax false)],[some (kc (A++y::(X++Z)))]⟩):=by
 have o:A.length+X.length+(Z.length+1)=N:=by rw[<-l];simp;omega
 have c:∀s,(A++X.take s++y::(X.drop s++Z)).length=N:=fun s=>by simp;omega
 have h:=cd (X:=XV) (T:=[70,74,122,126]) (L:=1) (live:=[0,14,17]) (b:=tc) (n:=X.length) (γ:=Unit) (st:=fun(_:Unit) s=>⟨[(0,.tsl true 0 3 N),(14,aa a),(17,aa (a+(X.length-s):Nat))],[some (kc (A++X.take (X.length-s)++y::(X.drop (X.length-s)++Z)))]⟩) (step:=fun _ _=> .inl ())
  (F:=fun _=>(.exit 6,⟨[(0,.tsl true 0 3 N),(14,aa a),(17,aa a),(110,ax false)],[some (kc (A++X.take 0++y::(X.drop 0++Z)))]⟩)) (R:=fun _=>(.ret,⟨[],[]⟩))
  (fun _=>⟨by simp,by
   rw[nw,qk];simp[tc]⟩)
  (fun _ s q=>by
   obtain⟨n,g⟩:∃n,X.length-s=n+1:=⟨X.length-s-1,by omega⟩;have e:X.length-(s+1)=n:=by omega
   have d:=qJh (A++X.take (n+1)++y::(X.drop (n+1)++Z)) (a+n) (by rw[c];exact p) (by rw[c];omega) a;rw[<-k,left_step A X Z y n (by omega),k,c]at d;have m:IntKind.i64.wrap (((a+n+1:Nat):Int)-1)=((a+n:Nat):Int):=by rw[wrap_i64 (by omega) (by omega)];omega
   have j:(a:Int)<((a+n+1:Nat):Int):=by omega
   rw[g,show a+(n+1)=a+n+1 by omega];generalize i:kc (A++X.take n++y::(X.drop n++Z))=c2 at d;generalize kc (A++X.take (n+1)++y::(X.drop (n+1)++Z))=c1 at d⊢
   exact⟨⟨[(0,.tsl true 0 3 N),(14,aa a),(17,aa (a+n:Nat))],[some c2]⟩,by
    generalize ((a+n+1:Nat):Int)=gv3 at*
    generalize ((a+n:Nat):Int)=gv4 at*
    simp[tc,j];rw[d];simp[m],by rw[<-i];simp[aJ,aG,fe,e]⟩)
  X.length () 0 ⟨[(0,.tsl true 0 3 N),(14,aa a),(17,aa (a+X.length:Nat))],[some (kc (A++X++y::Z))]⟩ (by omega) (by simp[aJ,aG,fe])
 rw[kD]at h;simpa using h
variable{S:ah}
theorem qQW(h:ck S){p:T}(b:p∈S):∃s,S.getLast?=some s/\dD p s:=by
 have a:S≠[]:=fun c=>by rw[c]at b;simp at b
 refine⟨S.getLast a,Hr a,?_⟩
 by_cases c:p=S.getLast a
 ·rw[c];exact Kx _
 ·have e:p∈S.dropLast:=by
   have:=uc a;rw[<-this]at b;rcases bC.1 b with h|h
   ·exact h
   ·simp at h;exact absurd h c
  have d:(S.dropLast++[S.getLast a]).Pairwise dD:=by rw[uc];exact h
  exact(jL.1 d).2.2 p e _ (by simp)
theorem qQ2(h:ck S){p:T}(a:p∈S):∃s,S.head?=some s/\dD s p:=by
 cases S with
 |nil=>simp at a
 |cons x r=>
  refine⟨x,rfl,?_⟩;rcases bK.1 a with rfl|a
  ·exact Kx _
  ·exact(jc.1 h).1 p a
theorem AL{R:ah}(j:ck S)(g:ck R)(h:∀s r,S.getLast?=some s->R.head?=some r->dD s r):∀p,p∈S->∀q,q∈R->dD p q:=by intro p b q c;obtain⟨s,d,a⟩:=qQW j b;obtain⟨r,i,e⟩:=qQ2 g c;exact tw (tw a (h s r d i)) e
theorem Ll{x:T}(h:ck (S1++S2))(j:∀s,S1.getLast?=some s->dD s x)(i:∀s,S2.head?=some s->dD x s):ck (S1++x::S2):=by
 obtain⟨d,g,k⟩:=jL.1 h;have c1:=AL (S:=S1) (R:=[x]) d (rZ _ _) (fun s r c b=>by simp at b;subst b;exact j s c);have l:=AL (S:=[x]) (R:=S2) (rZ _ _) g (fun s r c b=>by simp at c;subst c;exact i r b);refine jL.2 ⟨d,jc.2 ⟨fun q a=>l x (by simp) q a,g⟩,fun p e q a=> ?_⟩;rcases bK.1 a with rfl|a
 ·exact c1 p e _ (by simp)
 ·exact k p e q a
theorem y9(A X R:ah)(q:Nat)(a:q<X.length):aj (A++X++R) (A.length+q)=aj X q:=by unfold aj;rw[cr,cF (by omega),Nat.add_sub_cancel_left,cf a]
variable{t:Nat}{X:ah}
theorem AB{s:T}(b:t<=X.length)(h:(X.take t).getLast?=some s):0<t/\s=aj X (t-1):=by
 rw[List.getLast?_eq_getElem?,rO,wW b]at h;have a:=(aU.1 h).1;simp at a;rw[eY]at h;split at h
 ·exact⟨by omega,by simp[aj,h]⟩
 ·simp at h
theorem xm{s:T}(h:(X.drop t).head?=some s):t<X.length/\s=aj X t:=by rw[List.head?_drop]at h;exact⟨(aU.1 h).1,by simp[aj,h]⟩
theorem P1(A Y Z:ah)(x:T)(a m b N:Nat)(y:a=A.length)(J:m=a+1)(K:b=m+Y.length)(j:N=(A++x::(Y++Z)).length)(C:N<=1099511627776)(p:∀t,t∈A++x::(Y++Z)->t.inner<=1099511627776)(F:ck Y):
 ∃W:ah,W.Perm (x::Y)/\ck W/\ap XV 173 [.tsl true 0 3 N,aa a,aa m,aa b,.fn 6 []] [some (kc (A++x::(Y++Z)))]=some (.d (.tup []),[some (kc (A++W++Z))]):=by
 have G:A.length+1+Y.length+Z.length=N:=by rw[j];simp;omega
 have e:=qLf (A++x::(Y++Z)) a (by rw[<-j];exact C) (by rw[<-j];omega) p Y.length m b (by omega) (by omega) (by rw[<-j];omega);have u:aj (A++x::(Y++Z)) a=x:=Aq _ _ _ _ y;have k:∀q,q<Y.length->aj (A++x::(Y++Z)) (m+q)=aj Y q:=fun q I=>by have:=y9 (A++[x]) Y Z q I;simp only[ek,de,iL,cr,dk,dG]at this;rw[J,y];exact this
 obtain⟨s1,s2,s3,i⟩:=rc (fun h=>decide (T.cmp (aj (A++x::(Y++Z)) h) (aj (A++x::(Y++Z)) a)<0)) Y.length m b (by omega) (by omega);generalize bs (fun h=>decide (T.cmp (aj (A++x::(Y++Z)) h) (aj (A++x::(Y++Z)) a)<0)) Y.length m b=r at e s1 s2 s3 i;rw[u]at s3 i;obtain⟨t,rfl⟩:∃t,r=m+t:=⟨r-m,by omega⟩;have o:t<=Y.length:=by omega
 have c:Y.take t++Y.drop t=Y:=d7 _ _;have z:(Y.take t).length=t:=by simp;omega
 have g:=SE A (Y.take t) (Y.drop t++Z) x N a y.symm (by rw[j,<-cr (Y.take t),c]) C;rw[<-cr (Y.take t),c,z,show a+1+t=m+t by omega]at g;refine⟨Y.take t++x::Y.drop t,?_,Ll (by rw[c];exact F) (fun s w=> ?_) (fun s w=> ?_),?_⟩
 ·refine tS.trans ?_
  rw[c]
 ·obtain⟨D,n⟩:=AB o w
  rcases s3 with s3|s3
  ·omega
  ·rw[show m+t-1=m+(t-1)by omega,k _ (by omega)]at s3
   rw[n];exact pe (by simpa using s3)
 ·obtain⟨D,n⟩:=xm w
  rcases i with i|i
  ·omega
  ·rw[k _ D]at i
   rw[n];exact pM (by simpa using i)
 ·have l:A++(Y.take t++x::Y.drop t)++Z=A++Y.take t++x::(Y.drop t++Z):=by simp only[cr,dk]
  rw[l];rw[aN 173 lV rfl];rw[<-j]at e;have H:IntKind.i64.wrap ((m:Int)-a)=1:=by rw[wrap_i64 (by omega) (by omega)];omega
  generalize kc (A++Y.take t++x::(Y.drop t++Z))=c2 at g⊢
  generalize kc (A++x::(Y++Z))=c1 at e g⊢
  generalize ((m+t:Nat):Int)=gv1 at*
  generalize ((a+t:Nat):Int)=gv2 at*
  simp[lV,rF,H];rw[e];simp[Jx];rw[g];simp
theorem Sf(A X Z:ah)(y:T)(a m b N:Nat)(M:a=A.length)(Q:m=a+X.length)(P:b=m+1)(F:2<=X.length)(k:N=(A++X++y::Z).length)(C:N<=1099511627776)(w:∀t,t∈A++X++y::Z->t.inner<=1099511627776)(H:ck X):
 ∃W:ah,W.Perm (X++[y])/\ck W/\ap XV 173 [.tsl true 0 3 N,aa a,aa m,aa b,.fn 6 []] [some (kc (A++X++y::Z))]=some (.d (.tup []),[some (kc (A++W++Z))]):=by
 have I:A.length+X.length+(Z.length+1)=N:=by rw[k];simp;omega
 have g:=OS (A++X++y::Z) m (by rw[<-k];exact C) (by rw[<-k];omega) w X.length a m (by omega) (by omega) (by rw[<-k];omega);have u:aj (A++X++y::Z) m=y:=Aq _ _ _ _ (by simp;omega);have l:∀q,q<X.length->aj (A++X++y::Z) (a+q)=aj X q:=fun q O=>by rw[M];exact y9 A X (y::Z) q O
 obtain⟨s1,s2,s3,j⟩:=rc (fun h=> !decide (T.cmp (aj (A++X++y::Z) m) (aj (A++X++y::Z) h)<0)) X.length a m (by omega) (by omega);generalize bs (fun h=> !decide (T.cmp (aj (A++X++y::Z) m) (aj (A++X++y::Z) h)<0)) X.length a m=r at g s1 s2 s3 j;rw[u]at s3 j;obtain⟨t,rfl⟩:∃t,r=a+t:=⟨r-a,by omega⟩;have p:t<=X.length:=by omega
 have e:X.take t++X.drop t=X:=d7 _ _;have x:(X.drop t).length=X.length-t:=by simp
 have c:A++X.take t++X.drop t++y::Z=A++X++y::Z:=by rw[cr A,e]
 have i:=Ss (A++X.take t) (X.drop t) Z y N (a+t) (by simp;omega) (by rw[c,k]) C;rw[c,x,show a+t+(X.length-t)=m by omega]at i;refine⟨X.take t++y::X.drop t,?_,Ll (by rw[e];exact H) (fun s z=> ?_) (fun s z=> ?_),?_⟩
 ·refine tS.trans ?_
  rw[e];exact sJ (l₁:=[y]) (l₂:=X)
 ·obtain⟨D,o⟩:=AB p z
  rcases s3 with s3|s3
  ·omega
  ·rw[show a+t-1=a+(t-1)by omega,l _ (by omega)]at s3
   rw[o];exact pM (by simpa using s3)
 ·obtain⟨D,o⟩:=xm z
  rcases j with j|j
  ·omega
  ·rw[l _ D]at j
   rw[o];exact pe (by simpa using j)
 ·have n:A++(X.take t++y::X.drop t)++Z=A++X.take t++y::(X.drop t++Z):=by simp only[cr,dk]
  rw[n];rw[aN 173 lV rfl];rw[<-k]at g;have K:IntKind.i64.wrap ((m:Int)-a)=(X.length:Int):=by rw[wrap_i64 (by omega) (by omega)];omega
  have G:((X.length:Int)==1)=false:=by simp;omega
  have J:IntKind.i64.wrap ((b:Int)-m)=1:=by rw[wrap_i64 (by omega) (by omega)];omega
  generalize kc (A++X.take t++y::(X.drop t++Z))=c2 at i⊢
  generalize kc (A++X++y::Z)=c1 at g i⊢
  generalize ((a+t:Nat):Int)=gv2 at*
  generalize (X.length:Int)=vx at*
  simp[lV,rF,Ae,K,J,G];rw[g];simp[Kh];rw[i];simp
theorem qzM(N:Nat)(h e k a b o c:Int)(l g k2 j:aA)(z:IntKind.i64.wrap (o-b)=c)
 (r:(b<e/\e<c/\ap XV 174 [.tsl true 0 3 N,aa b,aa e,aa c,.fn 6 []] [some l]=some (.d (.tup []),[some g]))\/(b<e/\¬e<c/\l=g)\/(¬b<e/\l=g))
 (x:(h<b/\b<a/\ap XV 173 [.tsl true 0 3 N,aa h,aa b,aa a,.fn 6 []] [some g]=some (.d (.tup []),[some k2]))\/(h<b/\¬b<a/\g=k2)\/(¬h<b/\g=k2))
 (w:(a<c/\c<k/\ap XV 173 [.tsl true 0 3 N,aa a,aa c,aa k,.fn 6 []] [some k2]=some (.d (.tup []),[some j]))\/(a<c/\¬c<k/\k2=j)\/(¬a<c/\k2=j)) (n m i:AV):
 ∃u,aO XV [70,74,122,126] (.seq (.region false 0 [0,1,2,3,4,18,20,24] qR) (.seq (.seq (.region false 0 [0,1,2,3,4,18,20,24,185] rq) (.cond (.t 185) (.region false 0 [0,1,3,4,18,20,24] rf) .skip)) (.seq (.seq (.region false 0 [0,1,3,4,18,20,24,199] sR) (.cond (.t 199) (.region false 0 [0,3,4,18,24] sE) .skip)) (.seq (.region false 0 [0,3,4,18,24,213] qW) (.cond (.t 213) (.region false 0 [] uC) .skip)))))
  ⟨[(0,.tsl true 0 3 N),(1,aa h),(2,aa e),(3,aa k),(4,.fn 6 []),(18,aa a),(19,aa o),(20,aa b),(21,n),(22,m),(151,i)],[some l]⟩=some (.normal,⟨u,[some j]⟩):=by
 rcases r with⟨q,y,D⟩|⟨q,y,rfl⟩|⟨q,rfl⟩<;>rcases x with⟨p,s,C⟩|⟨p,s,rfl⟩|⟨p,rfl⟩<;>rcases w with⟨d1,d2,d3⟩|⟨d1,d2,rfl⟩|⟨d1,rfl⟩<;>
  exact⟨_,by simp[qR,rq,rf,sR,sE,qW,uC, *];rfl⟩
theorem Zf(N:Nat)(j b k a i l h vb vx o e:Int)(m p:aA)(r:IntKind.i64.wrap (b-j)=vx)(u:(vx==1)=false)(q:IntKind.i64.wrap (k-b)=o)(x:(o==1)=false)
 (s:IntKind.i64.wrap (j+k)=e) (z:IntKind.u64.wrap e=e) (C:e.fdiv 2=a) (F:IntKind.i64.wrap a=a) (y:IntKind.i64.wrap (a+b)=l) (w:IntKind.i64.wrap (l-1)=h) (G:a<b->IntKind.i64.wrap (l-k)=vb)
 (g:cj XV [70,74,122,126] 1 [0,1,2,3,4,18,19,20,21,22] lI ⟨[(0,.tsl true 0 3 N),(1,aa j),(2,aa b),(3,aa k),(4,.fn 6 []),(18,aa a),(19,aa l),(20,aa (if a<b then vb else j)),(21,aa (if a<b then a else b)),(22,aa h)],[some m]⟩=
  some (.exit 8,⟨[(0,.tsl true 0 3 N),(1,aa j),(2,aa b),(3,aa k),(4,.fn 6 []),(18,aa a),(19,aa l),(20,aa i),(21,aa i),(22,aa h),(151,ax false)],[some m]⟩))
 (tail:∃D,aO XV [70,74,122,126] (.seq (.region false 0 [0,1,2,3,4,18,20,24] qR) (.seq (.seq (.region false 0 [0,1,2,3,4,18,20,24,185] rq) (.cond (.t 185) (.region false 0 [0,1,3,4,18,20,24] rf) .skip)) (.seq (.seq (.region false 0 [0,1,3,4,18,20,24,199] sR) (.cond (.t 199) (.region false 0 [0,3,4,18,24] sE) .skip)) (.seq (.region false 0 [0,3,4,18,24,213] qW) (.cond (.t 213) (.region false 0 [] uC) .skip)))))
  ⟨[(0,.tsl true 0 3 N),(1,aa j),(2,aa b),(3,aa k),(4,.fn 6 []),(18,aa a),(19,aa l),(20,aa i),(21,aa i),(22,aa h),(151,ax false)],[some m]⟩=some (.normal,⟨D,[some p]⟩)):
 ap XV 173 [.tsl true 0 3 N,aa j,aa b,aa k,.fn 6 []] [some m]=some (.d (.tup []),[some p]):=by
 obtain⟨D,t1⟩:=tail;generalize H:(.seq (.region false 0 [0,1,2,3,4,18,20,24] qR) (.seq (.seq (.region false 0 [0,1,2,3,4,18,20,24,185] rq) (.cond (.t 185) (.region false 0 [0,1,3,4,18,20,24] rf) .skip)) (.seq (.seq (.region false 0 [0,1,3,4,18,20,24,199] sR) (.cond (.t 199) (.region false 0 [0,3,4,18,24] sE) .skip)) (.seq (.region false 0 [0,3,4,18,24,213] qW) (.cond (.t 213) (.region false 0 [] uC) .skip)))):VCode)=code at t1;rw[aN 173 lV rfl];unfold lV;rw[H]
 by_cases c:a<b
 ·have n:=G c
  simp only[aw c]at g;simp[rF,Ae,GL,E0,F_,FD,H0,Mo,FX,r,u,q,x,s,z,C,F,y,w,n,c,mF];rw[g];simp[t1]
 ·simp only[au c]at g
  simp[rF,Ae,GL,E0,F_,FD,My,NX,FX,r,u,q,x,s,z,C,F,y,w,c,mF];rw[g];simp[t1]
theorem T_(A n g e k Z W1 W2:ah)(a m b c st N:Nat)(ha:a=A.length)(hm:m=a+n.length+g.length)(hb:b=m+e.length+k.length)(hX:2<=n.length+g.length)(hY:2<=e.length+k.length)
 (r:c=(a+b)/2) (Y:st=a+n.length) (u:c=st+e.length) (M:N=(A++(n++g)++(e++k)++Z).length) (hn:N<=1099511627776)
 (s:∀(i j:Nat),(if c<m then i=c+m-b/\j=c else i=a/\j=m)->cj XV [70,74,122,126] 1 [0,1,2,3,4,18,19,20,21,22] lI ⟨[(0,.tsl true 0 3 N),(1,aa a),(2,aa m),(3,aa b),(4,.fn 6 []),(18,aa c),(19,aa (c+m:Nat)),(20,aa i),(21,aa j),(22,aa (c+m-1:Nat))],[some (kc (A++(n++g)++(e++k)++Z))]⟩=
  some (.exit 8,⟨[(0,.tsl true 0 3 N),(1,aa a),(2,aa m),(3,aa b),(4,.fn 6 []),(18,aa c),(19,aa (c+m:Nat)),(20,aa st),(21,aa st),(22,aa (c+m-1:Nat)),(151,ax false)],[some (kc (A++(n++g)++(e++k)++Z))]⟩))
 (O:g≠[]->e≠[]->ap XV 174 [.tsl true 0 3 N,aa st,aa m,aa (m+e.length:Nat),.fn 6 []] [some (kc (A++(n++g)++(e++k)++Z))]=some (.d (.tup []),[some (kc (A++(n++e)++(g++k)++Z))]))
 (h2:(n≠[]/\e≠[])->ap XV 173 [.tsl true 0 3 N,aa a,aa st,aa c,.fn 6 []] [some (kc (A++(n++e)++(g++k)++Z))]=some (.d (.tup []),[some (kc (A++W1++(g++k)++Z))]))
 (w:¬(n≠[]/\e≠[])->W1=n++e)
 (J:(g≠[]/\k≠[])->ap XV 173 [.tsl true 0 3 N,aa c,aa (m+e.length:Nat),aa b,.fn 6 []] [some (kc (A++W1++(g++k)++Z))]=some (.d (.tup []),[some (kc (A++W1++W2++Z))]))
 (C:¬(g≠[]/\k≠[])->W2=g++k):
 ap XV 173 [.tsl true 0 3 N,aa a,aa m,aa b,.fn 6 []] [some (kc (A++(n++g)++(e++k)++Z))]=some (.d (.tup []),[some (kc (A++W1++W2++Z))]):=by
 have P:A.length+n.length+g.length+e.length+k.length+Z.length=N:=by rw[M];simp;omega
 have ne:∀l:ah,l≠[]↔0<l.length:=fun l=>by cases l<;>simp
 have w1:IntKind.i64.wrap ((m:Int)-a)=((n.length+g.length:Nat):Int):=by rw[wrap_i64 (by omega) (by omega)];omega
 have n1:(((n.length+g.length:Nat):Int)==1)=false:=by simp;omega
 have W:IntKind.i64.wrap ((b:Int)-m)=((e.length+k.length:Nat):Int):=by rw[wrap_i64 (by omega) (by omega)];omega
 have K:(((e.length+k.length:Nat):Int)==1)=false:=by simp;omega
 obtain⟨m1,m2,G,I⟩:=vE a b (by omega);rw[<-r]at G I;have w3:IntKind.i64.wrap ((c:Int)+m)=((c+m:Nat):Int):=by rw[wrap_i64 (by omega) (by omega)];omega
 have w4:IntKind.i64.wrap (((c+m:Nat):Int)-1)=((c+m-1:Nat):Int):=by rw[wrap_i64 (by omega) (by omega)];omega
 have Q:IntKind.i64.wrap (((c+m:Nat):Int)-st)=((m+e.length:Nat):Int):=by rw[wrap_i64 (by omega) (by omega)];omega
 have V:c<m->IntKind.i64.wrap (((c+m:Nat):Int)-b)=((c+m-b:Nat):Int):=fun h=>by rw[wrap_i64 (by omega) (by omega)];omega
 have z:(g≠[]/\e≠[])\/A++(n++g)++(e++k)++Z=A++(n++e)++(g++k)++Z:=by
  by_cases o:g=[]
  ·right;subst o;simp
  ·by_cases p:e=[]
   ·right;subst p;simp
   ·exact .inl ⟨o,p⟩
 have c1:((st:Int)<m)↔g≠[]:=by rw[ne];omega
 have H:((m:Int)<((m+e.length:Nat):Int))↔e≠[]:=by rw[ne];omega
 have y:((a:Int)<st)↔n≠[]:=by rw[ne];omega
 have F:((st:Int)<c)↔e≠[]:=by rw[ne];omega
 have x:((c:Int)<((m+e.length:Nat):Int))↔g≠[]:=by rw[ne];omega
 have D:(((m+e.length:Nat):Int)<b)↔k≠[]:=by rw[ne];omega
 have step2:(¬(n≠[]/\e≠[]))->kc (A++(n++e)++(g++k)++Z)=kc (A++W1++(g++k)++Z):=fun h=>by rw[w h]
 have q:(¬(g≠[]/\k≠[]))->kc (A++W1++(g++k)++Z)=kc (A++W1++W2++Z):=fun h=>by rw[C h]
 have step1:(¬(g≠[]/\e≠[]))->kc (A++(n++g)++(e++k)++Z)=kc (A++(n++e)++(g++k)++Z):=fun h=>by
  rcases z with u|u
  ·exact absurd u h
  ·rw[u]
 have R:((st:Int)<m/\(m:Int)<((m+e.length:Nat):Int)/\ap XV 174 [.tsl true 0 3 N,aa st,aa m,aa (m+e.length:Nat),.fn 6 []] [some (kc (A++(n++g)++(e++k)++Z))]=some (.d (.tup []),[some (kc (A++(n++e)++(g++k)++Z))]))\/((st:Int)<m/\¬(m:Int)<((m+e.length:Nat):Int)/\kc (A++(n++g)++(e++k)++Z)=kc (A++(n++e)++(g++k)++Z))\/(¬(st:Int)<m/\kc (A++(n++g)++(e++k)++Z)=kc (A++(n++e)++(g++k)++Z)):=by
  by_cases o:g=[]
  ·exact .inr (.inr ⟨fun h=>(c1.1 h) o,step1 fun h=>h.1 o⟩)
  ·by_cases p:e=[]
   ·exact .inr (.inl ⟨c1.2 o,fun h=>(H.1 h) p,step1 fun h=>h.2 p⟩)
   ·exact .inl ⟨c1.2 o,H.2 p,O o p⟩
 have hB:((a:Int)<st/\(st:Int)<c/\ap XV 173 [.tsl true 0 3 N,aa a,aa st,aa c,.fn 6 []] [some (kc (A++(n++e)++(g++k)++Z))]=some (.d (.tup []),[some (kc (A++W1++(g++k)++Z))]))\/((a:Int)<st/\¬(st:Int)<c/\kc (A++(n++e)++(g++k)++Z)=kc (A++W1++(g++k)++Z))\/(¬(a:Int)<st/\kc (A++(n++e)++(g++k)++Z)=kc (A++W1++(g++k)++Z)):=by
  by_cases o:n=[]
  ·exact .inr (.inr ⟨fun h=>(y.1 h) o,step2 fun h=>h.1 o⟩)
  ·by_cases p:e=[]
   ·exact .inr (.inl ⟨y.2 o,fun h=>(F.1 h) p,step2 fun h=>h.2 p⟩)
   ·exact .inl ⟨y.2 o,F.2 p,h2 ⟨o,p⟩⟩
 have hC:((c:Int)<((m+e.length:Nat):Int)/\((m+e.length:Nat):Int)<b/\ap XV 173 [.tsl true 0 3 N,aa c,aa (m+e.length:Nat),aa b,.fn 6 []] [some (kc (A++W1++(g++k)++Z))]=some (.d (.tup []),[some (kc (A++W1++W2++Z))]))\/((c:Int)<((m+e.length:Nat):Int)/\¬((m+e.length:Nat):Int)<b/\kc (A++W1++(g++k)++Z)=kc (A++W1++W2++Z))\/(¬(c:Int)<((m+e.length:Nat):Int)/\kc (A++W1++(g++k)++Z)=kc (A++W1++W2++Z)):=by
  by_cases o:g=[]
  ·exact .inr (.inr ⟨fun h=>(x.1 h) o,q fun h=>h.1 o⟩)
  ·by_cases p:k=[]
   ·exact .inr (.inl ⟨x.2 o,fun h=>(D.1 h) p,q fun h=>h.2 p⟩)
   ·exact .inl ⟨x.2 o,D.2 p,J ⟨o,p⟩⟩
 refine Zf N a m b c st (c+m:Nat) (c+m-1:Nat) (c+m-b:Nat) (n.length+g.length:Nat) (e.length+k.length:Nat) (a+b:Nat) _ _ w1 n1 W K m1 m2 G I w3 w4 (fun h=>V (by omega)) ?_ (qzM N a m b c st (c+m:Nat) (m+e.length:Nat) _ _ _ _ Q R hB hC _ _ _)
 by_cases h:c<m
 ·have h':(c:Int)<m:=by omega
  rw[aw h',aw h'];exact s (c+m-b) c (by rw[aw h];exact⟨rfl,rfl⟩)
 ·have h':¬(c:Int)<m:=by omega
  rw[au h',au h'];exact s a m (by rw[au h];exact⟨rfl,rfl⟩)
theorem Nt:∀(k:Nat) (A X Y Z:ah) (a m b N:Nat),X.length+Y.length<=k->0<X.length->0<Y.length->a=A.length->m=a+X.length->b=m+Y.length->N=(A++X++Y++Z).length->N<=1099511627776->(∀t,t∈A++X++Y++Z->t.inner<=1099511627776)->ck X->ck Y->
 ∃W:ah,W.Perm (X++Y)/\ck W/\ap XV 173 [.tsl true 0 3 N,aa a,aa m,aa b,.fn 6 []] [some (kc (A++X++Y++Z))]=some (.d (.tup []),[some (kc (A++W++Z))]):=by
 intro k
 induction k with
 |zero=>intro A X Y Z a m b N hk O hy;omega
 |succ k ih=>
  intro A X Y Z a m b N hk O hy ha C J I hn o hX hY;have h5:A.length+X.length+Y.length+Z.length=N:=by rw[I];simp;omega
  by_cases a3:X.length=1
  ·obtain⟨x,rfl⟩:∃x,X=[x]:=oY.1 a3
   have e:A++[x]++Y++Z=A++x::(Y++Z):=by simp
   rw[e]at I o⊢
   obtain⟨W,w1,w2,w3⟩:=P1 A Y Z x a m b N ha (by simpa using C) J I hn o hY;exact⟨W,by simpa using w1,w2,w3⟩
  by_cases a1:Y.length=1
  ·obtain⟨y,rfl⟩:∃y,Y=[y]:=oY.1 a1
   have e:A++X++[y]++Z=A++X++y::Z:=by simp
   rw[e]at I o⊢
   exact Sf A X Z y a m b N ha C (by simpa using J) (by omega) I hn o hX
  obtain⟨g,x3⟩:∃g,g=(a+b)/2:=⟨_,rfl⟩;have H:∀q,q<X.length->aj (A++X++Y++Z) (a+q)=aj X q:=fun q hq=>by rw[ha,cr (A++X)];exact y9 A X (Y++Z) q hq
  have F:∀q,q<Y.length->aj (A++X++Y++Z) (m+q)=aj Y q:=fun q hq=>by have:=y9 (A++X) Y Z q hq;rw[ek,<-ha,<-C]at this;exact this
  have key:∀i j:Nat,(if g<m then i=g+m-b/\j=g else i=a/\j=m)->∃st,i<=st/\st<=j/\(st=i\/dD (aj (A++X++Y++Z) (st-1)) (aj (A++X++Y++Z) (g+m-1-(st-1))))/\(st=j\/dD (aj (A++X++Y++Z) (g+m-1-st)) (aj (A++X++Y++Z) st))/\
   cj XV [70,74,122,126] 1 [0,1,2,3,4,18,19,20,21,22] lI ⟨[(0,.tsl true 0 3 N),(1,aa a),(2,aa m),(3,aa b),(4,.fn 6 []),(18,aa g),(19,aa (g+m:Nat)),(20,aa i),(21,aa j),(22,aa (g+m-1:Nat))],[some (kc (A++X++Y++Z))]⟩=
    some (.exit 8,⟨[(0,.tsl true 0 3 N),(1,aa a),(2,aa m),(3,aa b),(4,.fn 6 []),(18,aa g),(19,aa (g+m:Nat)),(20,aa st),(21,aa st),(22,aa (g+m-1:Nat)),(151,ax false)],[some (kc (A++X++Y++Z))]⟩):=by
   intro i j Q;have z:i<=j/\j<=N/\∀c,i<=c->c<j->c<=g+m-1/\g+m-1-c<N:=by
    split at Q
    ·obtain⟨rfl,rfl⟩:=Q
     exact⟨by omega,by omega,fun c D w=>by omega⟩
    ·obtain⟨rfl,rfl⟩:=Q
     exact⟨by omega,by omega,fun c D w=>by omega⟩
   have hl:=W3 (A++X++Y++Z) (g+m-1) a m b g (g+m:Nat) (by rw[<-I];exact hn) (by omega) o (j-i) i j z.1 (bf _) (by rw[<-I];exact z.2.1) (by rw[<-I];exact z.2.2);obtain⟨s1,s2,s3,s4⟩:=rc (fun c=> !decide (T.cmp (aj (A++X++Y++Z) (g+m-1-c)) (aj (A++X++Y++Z) c)<0)) (j-i) i j z.1 (bf _);rw[<-I]at hl;refine⟨_,s1,s2,s3.imp_right fun h=>pM (by simpa using h),s4.imp_right fun h=>pe (by simpa using h),hl⟩
  obtain⟨i0,j0,n⟩:∃i j:Nat,(if g<m then i=g+m-b/\j=g else i=a/\j=m):=by
   by_cases h:g<m
   ·exact⟨g+m-b,g,by rw[aw h];exact⟨rfl,rfl⟩⟩
   ·exact⟨a,m,by rw[au h];exact⟨rfl,rfl⟩⟩
  obtain⟨st,q1,q2,q3,q4,hlo⟩:=key i0 j0 n;clear key;have hb1:a<=st/\st<=m/\st<=g/\m<=g+m-st/\g+m-st<=b:=by
   split at n
   ·obtain⟨rfl,rfl⟩:=n;omega
   ·obtain⟨rfl,rfl⟩:=n;omega
  obtain⟨t,ht⟩:∃t,st=a+t:=⟨st-a,by omega⟩;obtain⟨u,hu⟩:∃u,g+m-st=m+u:=⟨g-st,by omega⟩;have htl:t<=X.length:=by omega
  have hul:u<=Y.length:=by omega
  have M:X.take t++X.drop t=X:=d7 _ _;have P:Y.take u++Y.drop u=Y:=d7 _ _;have lx1:(X.take t).length=t:=by simp;omega
  have lx2:(X.drop t).length=X.length-t:=by simp
  have ly1:(Y.take u).length=u:=by simp;omega
  have ne:∀l:ah,l≠[]->0<l.length:=fun l h=>wC.2 h
  obtain⟨sx1,R,x2⟩:=jL.1 (show ck (X.take t++X.drop t)by rw[M];exact hX);obtain⟨x1,V,b2⟩:=jL.1 (show ck (Y.take u++Y.drop u)by rw[P];exact hY);have F1:∀p,p∈X.take t->∀q,q∈Y.drop u->dD p q:=AL sx1 V fun s r hs hr=>by
   obtain⟨D,w⟩:=AB htl hs;obtain⟨h3,h4⟩:=xm hr;rcases q3 with q3|q3
   ·exfalso
    split at n
    ·obtain⟨rfl,rfl⟩:=n;omega
    ·obtain⟨rfl,rfl⟩:=n;omega
   ·rw[show st-1=a+(t-1)by omega,H _ (by omega),show g+m-1-(a+(t-1))=m+u by omega,F _ h3]at q3
    rw[w,h4];exact q3
  have F2:∀p,p∈Y.take u->∀q,q∈X.drop t->dD p q:=AL x1 R fun s r hs hr=>by
   obtain⟨D,w⟩:=AB hul hs;obtain⟨h3,h4⟩:=xm hr;rcases q4 with q4|q4
   ·exfalso
    split at n
    ·obtain⟨rfl,rfl⟩:=n;omega
    ·obtain⟨rfl,rfl⟩:=n;omega
   ·rw[show g+m-1-st=m+(u-1)by omega,F _ (by omega),show st=a+t from ht,H _ h3]at q4
    rw[w,h4];exact q4
  generalize hX1:X.take t=X1 at*
  generalize hX2:X.drop t=X2 at*
  generalize hY1:Y.take u=Y1 at*
  generalize hY2:Y.drop u=Y2 at*
  clear H F q3 q4;subst M;subst P;have L:∃W1:ah,W1.Perm (X1++Y1)/\ck W1/\((X1≠[]/\Y1≠[])->ap XV 173 [.tsl true 0 3 N,aa a,aa st,aa g,.fn 6 []] [some (kc (A++(X1++Y1)++(X2++Y2)++Z))]=some (.d (.tup []),[some (kc (A++W1++(X2++Y2)++Z))]))/\(¬(X1≠[]/\Y1≠[])->W1=X1++Y1):=by
   by_cases h:X1≠[]/\Y1≠[]
   ·obtain⟨W,w1,w2,w3⟩:=ih A X1 Y1 (X2++Y2++Z) a st g N (by simp at hk C J;omega) (ne _ h.1) (ne _ h.2) ha (by omega) (by simp at C J;omega) (by simp at h5⊢;omega) hn (fun x O=>o x (by
     simp only[bC]at O⊢
     rcases O with((h|h)|h)|((h|h)|h)<;>simp[h])) sx1 x1
    refine⟨W,w1,w2,fun _=> ?_,fun h'=>absurd h h'⟩;have G:A++(X1++Y1)++(X2++Y2)++Z=A++X1++Y1++(X2++Y2++Z):=by simp
    have K:A++W++(X2++Y2)++Z=A++W++(X2++Y2++Z):=by simp
    rw[G,K];exact w3
   ·refine⟨X1++Y1,jW _,?_,fun h'=>absurd h' h,fun _=>rfl⟩
    by_cases G:X1=[]
    ·subst G;rw[dG];exact x1
    ·by_cases K:Y1=[]
     ·subst K;rw[dB];exact sx1
     ·exact absurd ⟨G,K⟩ h
  obtain⟨W1,p1,s1,c1,c1'⟩:=L;have lw1:W1.length=X1.length+Y1.length:=by rw[p1.length_eq];simp
  have Rr:∃W2:ah,W2.Perm (X2++Y2)/\ck W2/\((X2≠[]/\Y2≠[])->ap XV 173 [.tsl true 0 3 N,aa g,aa (m+Y1.length:Nat),aa b,.fn 6 []] [some (kc (A++W1++(X2++Y2)++Z))]=some (.d (.tup []),[some (kc (A++W1++W2++Z))]))/\(¬(X2≠[]/\Y2≠[])->W2=X2++Y2):=by
   by_cases h:X2≠[]/\Y2≠[]
   ·obtain⟨W,w1,w2,w3⟩:=ih (A++W1) X2 Y2 Z g (m+Y1.length) b N (by simp at hk C J;omega) (ne _ h.1) (ne _ h.2) (by simp at C J⊢;omega) (by simp at C J⊢;omega) (by simp at C J⊢;omega) (by simp at h5⊢;omega) hn (fun x O=>o x (by
     simp only[bC]at O⊢
     rcases O with(((h|h)|h)|h)|h
     ·simp[h]
     ·have:=p1.mem_iff.1 h
      simp only[bC]at this;rcases this with h|h<;>simp[h]
     ·simp[h]
     ·simp[h]
     ·simp[h])) R V
    refine⟨W,w1,w2,fun _=> ?_,fun h'=>absurd h h'⟩;have G:A++W1++(X2++Y2)++Z=A++W1++X2++Y2++Z:=by simp
    rw[G];exact w3
   ·refine⟨X2++Y2,jW _,?_,fun h'=>absurd h' h,fun _=>rfl⟩
    by_cases G:X2=[]
    ·subst G;rw[dG];exact V
    ·by_cases K:Y2=[]
     ·subst K;rw[dB];exact R
     ·exact absurd ⟨G,K⟩ h
  obtain⟨W2,p2,s2,c2,c2'⟩:=Rr;refine⟨W1++W2,?_,jL.2 ⟨s1,s2,fun p hp q hq=> ?_⟩,?_⟩
  ·refine(p1.append p2).trans ?_
   have:=sJ (l₁:=Y1) (l₂:=X2);have h3:=((jW X1).append (this.append (jW Y2)));simpa using h3
  ·have D:=p1.mem_iff.1 hp
   have w:=p2.mem_iff.1 hq;rcases bC.1 D with D|D<;>rcases bC.1 w with w|w
   ·exact x2 p D q w
   ·exact F1 p D q w
   ·exact F2 p D q w
   ·exact b2 p D q w
  ·have a2:X2≠[]->Y1≠[]->ap XV 174 [.tsl true 0 3 N,aa st,aa m,aa (m+Y1.length:Nat),.fn 6 []] [some (kc (A++(X1++X2)++(Y1++Y2)++Z))]=some (.d (.tup []),[some (kc (A++(X1++Y1)++(X2++Y2)++Z))]):=fun D w=>by
    have hro:=qC2 (A++X1) X2 Y1 (Y2++Z) st m (m+Y1.length) N (by simp;omega) (by simp at C⊢;omega) (by simp at C⊢;omega) (by simp at h5⊢;omega) hn (ne _ D) (ne _ w) (.fn 6 []) (by simp[AV.clr,AV.clrs]) (by simp[ic,gJ]);have G:A++(X1++X2)++(Y1++Y2)++Z=A++X1++X2++Y1++(Y2++Z):=by simp
    have K:A++(X1++Y1)++(X2++Y2)++Z=A++X1++Y1++X2++(Y2++Z):=by simp
    rw[G,K];exact hro
   have b1:A++(W1++W2)++Z=A++W1++W2++Z:=by simp
   rw[b1];exact T_ A X1 X2 Y1 Y2 Z W1 W2 a m b g st N ha (by simp at C;omega) (by simp at J;omega) (by simp at a3 O;omega) (by simp at a1 hy;omega) x3 (by omega) (by simp at C J;omega) I hn (fun i j h=>by
    have:i=i0/\j=j0:=by split at h<;>split at n<;>first|omega|skip
    rw[this.1,this.2];exact hlo) a2 c1 c1' c2 c2'
inductive Blk(s:Nat):ah->Prop where
 |last (l:ah):l.length<s->ck l->Blk s l
 |cons (c r:ah):c.length=s->ck c->Blk s r->Blk s (c++r)
theorem Blk.srt{s:Nat}{l:ah}(h:Blk s l)(b:l.length<=s)(e:0<s):ck l:=by
 cases h with
 |last _ _ a=>exact a
 |cons c r d a g=>have:r=[]:=jX.1 (by simp at b;omega);subst this;rw[dB];exact a
theorem qvk(N:Nat)(hn:N<=1099511627776):∀(k:Nat) (P R:ah),R.length<=k->(P++R).length=N->(∀t,t∈P++R->t.inner<=1099511627776)->
 ∃(d b:ah) (a:Nat),b.length<20/\a=P.length+d.length/\a+b.length=N/\(d++b).Perm R/\(∀Q,Blk 20 Q->Blk 20 (d++Q))/\
  cj XV [] 1 [0,1,2,6,7,8] nD ⟨[(0,.tsl true 0 3 N),(1,aa N),(2,.fn 6 []),(6,aa 20),(7,aa P.length),(8,aa (P.length+20:Nat))],[some (kc (P++R))]⟩=
   some (.exit 0,⟨[(0,.tsl true 0 3 N),(1,aa N),(2,.fn 6 []),(6,aa 20),(7,aa a),(8,aa (a+20:Nat)),(13,ax false)],[some (kc (P++d++b))]⟩):=by
 have head:∀(x y:Int) (c:aA),aJ 1 [0,1,2,6,7,8] ⟨[(0,.tsl true 0 3 N),(1,aa N),(2,.fn 6 []),(6,aa 20),(7,aa x),(8,aa y)],[some c]⟩=some ⟨[(0,.tsl true 0 3 N),(1,aa N),(2,.fn 6 []),(6,aa 20),(7,aa x),(8,aa y)],[some c]⟩:=fun x y c=>by simp[aJ,aG,fe,ic,gJ]
 have stop:∀(P R:ah),(P++R).length=N->R.length<20->cj XV [] 1 [0,1,2,6,7,8] nD ⟨[(0,.tsl true 0 3 N),(1,aa N),(2,.fn 6 []),(6,aa 20),(7,aa P.length),(8,aa (P.length+20:Nat))],[some (kc (P++R))]⟩=
  some (.exit 0,⟨[(0,.tsl true 0 3 N),(1,aa N),(2,.fn 6 []),(6,aa 20),(7,aa P.length),(8,aa (P.length+20:Nat)),(13,ax false)],[some (kc (P++R))]⟩):=fun P R O h2=>by
  refine eF (head _ _ _) ?_ (by simp);have o:¬(((P.length+20:Nat):Int)<=(N:Int)):=by simp at O;omega
  generalize ((P.length+20:Nat):Int)=v at*
  generalize (N:Int)=w at*
  simp[nD,o]
 intro k
 induction k with
 |zero=>intro P R r i g;exact⟨[],R,P.length,by omega,by simp,by simpa using i,by simp,fun Q h=>by simpa using h,by simpa using stop P R i (by omega)⟩
 |succ k Y=>
  intro P R r i g
  by_cases F:R.length<20
  ·exact⟨[],R,P.length,F,by simp,by simpa using i,by simp,fun Q h=>by simpa using h,by simpa using stop P R i F⟩
  ·have z:(R.take 20).length=20:=by simp;omega
   have e:R.take 20++R.drop 20=R:=d7 _ _;have hD:(R.drop 20).length=R.length-20:=by simp
   generalize R.take 20=C at z e;generalize R.drop 20=D at hD e;subst e;have J:P.length+C.length+D.length=N:=by simp at i;omega
   have s:P++(C++D)=P++C++D:=by simp
   obtain⟨W,p,K,q⟩:=Mq P C D P.length (P.length+20) N rfl (by omega) (by simp;omega) hn (fun t j=>g t (by rw[s];exact j));have m:W.length=20:=by rw[p.length_eq,z]
   have n:(P++W).length=P.length+20:=by simp;omega
   obtain⟨d,b,a,Z,V,r3,r4,H,G⟩:=Y (P++W) D (by simp at r;omega) (by simp;omega) (fun t j=>g t (by
    simp only[bC]at j⊢
    rcases j with(h|h)|h
    ·simp[h]
    ·simp[p.mem_iff.1 h]
    ·simp[h]))
   refine⟨W++d,b,a,Z,by simp at V⊢;omega,r3,?_,fun Q I=>by rw[cr];exact .cons W _ m K (H Q I),?_⟩
   ·rw[cr];exact p.append r4
   ·have e1:P++(W++d)++b=P++W++d++b:=by simp
    rw[e1,<-G,n,s];refine fA (head _ _ _) ?_;have l:(((P.length+20:Nat):Int)<=(N:Int)):=by omega
    have hw:IntKind.i64.wrap (((P.length+20:Nat):Int)+20)=((P.length+20+20:Nat):Int):=by rw[wrap_i64 (by omega) (by omega)];omega
    generalize kc (P++C++D)=c1 at q⊢
    generalize kc (P++W++D)=c2 at q⊢
    generalize ((P.length+20+20:Nat):Int)=gv2 at*
    generalize ((P.length+20:Nat):Int)=v at*
    generalize (P.length:Int)=u at*
    generalize M:(N:Int)=w at*
    simp[nD,l,hw,q]
theorem OL(N s:Nat)(hn:N<=1099511627776)(hs:0<s)(x3:s<=1099511627776):∀(k:Nat) (P R:ah),R.length<=k->(P++R).length=N->(∀t,t∈P++R->t.inner<=1099511627776)->Blk s R->
 ∃(g e:ah) (a:Nat),e.length<2*s/\a=P.length+g.length/\a+e.length=N/\(g++e).Perm R/\Blk s e/\(∀Q,Blk (2*s) Q->Blk (2*s) (g++Q))/\
  cj XV [] 1 [0,1,2,6,7,8] tP ⟨[(0,.tsl true 0 3 N),(1,aa N),(2,.fn 6 []),(6,aa s),(7,aa P.length),(8,aa (P.length+2*s:Nat))],[some (kc (P++R))]⟩=
   some (.exit 4,⟨[(0,.tsl true 0 3 N),(1,aa N),(2,.fn 6 []),(6,aa s),(7,aa a),(8,aa (a+2*s:Nat)),(35,ax false)],[some (kc (P++g++e))]⟩):=by
 have head:∀(x y:Int) (c:aA),aJ 1 [0,1,2,6,7,8] ⟨[(0,.tsl true 0 3 N),(1,aa N),(2,.fn 6 []),(6,aa s),(7,aa x),(8,aa y)],[some c]⟩=some ⟨[(0,.tsl true 0 3 N),(1,aa N),(2,.fn 6 []),(6,aa s),(7,aa x),(8,aa y)],[some c]⟩:=fun x y c=>by simp[aJ,aG,fe,ic,gJ]
 have stop:∀(P R:ah),(P++R).length=N->R.length<2*s->cj XV [] 1 [0,1,2,6,7,8] tP ⟨[(0,.tsl true 0 3 N),(1,aa N),(2,.fn 6 []),(6,aa s),(7,aa P.length),(8,aa (P.length+2*s:Nat))],[some (kc (P++R))]⟩=
  some (.exit 4,⟨[(0,.tsl true 0 3 N),(1,aa N),(2,.fn 6 []),(6,aa s),(7,aa P.length),(8,aa (P.length+2*s:Nat)),(35,ax false)],[some (kc (P++R))]⟩):=fun P R m O=>by
  refine eF (head _ _ _) ?_ (by simp);have F:¬(((P.length+2*s:Nat):Int)<=(N:Int)):=by simp at m;omega
  generalize ((P.length+2*s:Nat):Int)=v at*
  generalize (N:Int)=w at*
  simp[tP,F]
 intro k
 induction k with
 |zero=>intro P R J j i n;exact⟨[],R,P.length,by omega,by simp,by simpa using j,by simp,n,fun Q h=>by simpa using h,by simpa using stop P R j (by omega)⟩
 |succ k ih=>
  intro P R J j i n
  by_cases I:R.length<2*s
  ·exact⟨[],R,P.length,I,by simp,by simpa using j,by simp,n,fun Q h=>by simpa using h,by simpa using stop P R j I⟩
  ·obtain⟨b,d,D,rfl,l1,l2,b1,b2,b3⟩:∃b d D,R=b++(d++D)/\b.length=s/\d.length=s/\ck b/\ck d/\Blk s D:=by
    cases n with
    |last _ m _=>omega
    |cons c r m O Y=>
     cases Y with
     |last _ K _=>simp at I;omega
     |cons c' r' K h5 h6=>exact⟨c,c',r',rfl,m,K,O,h5,h6⟩
   have x1:P.length+b.length+d.length+D.length=N:=by simp at j;omega
   have M:P++(b++(d++D))=P++b++d++D:=by simp
   obtain⟨W,G,w2,H⟩:=Nt (b.length+d.length) P b d D P.length (P.length+s) (P.length+2*s) N (bf _) (by omega) (by omega) rfl (by omega) (by omega) (by simp;omega) hn (fun t l=>i t (by rw[M];exact l)) b1 b2;have p:W.length=2*s:=by rw[G.length_eq];simp;omega
   have z:(P++W).length=P.length+2*s:=by simp;omega
   obtain⟨g,e,a,r1,r2,r3,r4,Z,V,r7⟩:=ih (P++W) D (by simp at J;omega) (by simp;omega) (fun t l=>i t (by
    simp only[bC]at l⊢
    rcases l with(h|h)|h
    ·simp[h]
    ·have:=G.mem_iff.1 h
     simp only[bC]at this;rcases this with h|h<;>simp[h]
    ·simp[h])) b3
   refine⟨W++g,e,a,r1,by simp at r2⊢;omega,r3,?_,Z,fun Q hQ=>by rw[cr];exact .cons W _ p w2 (V Q hQ),?_⟩
   ·rw[cr]
    refine(G.append r4).trans ?_;simp
   ·have e1:P++(W++g)++e=P++W++g++e:=by simp
    rw[e1,<-r7,z,M];refine fA (head _ _ _) ?_;have o:(((P.length+2*s:Nat):Int)<=(N:Int)):=by omega
    have hw:IntKind.i64.wrap (((P.length+2*s:Nat):Int)+((2*s:Nat):Int))=((P.length+2*s+2*s:Nat):Int):=by rw[wrap_i64 (by omega) (by omega)];omega
    have C:IntKind.i64.wrap (2*(s:Int))=((2*s:Nat):Int):=by rw[wrap_i64 (by omega) (by omega)];omega
    have q:IntKind.i64.wrap ((P.length:Int)+s)=((P.length+s:Nat):Int):=by rw[wrap_i64 (by omega) (by omega)];omega
    generalize kc (P++b++d++D)=c1 at H⊢
    generalize kc (P++W++D)=c2 at H⊢
    generalize ((P.length+2*s+2*s:Nat):Int)=gv2 at*
    generalize ((P.length+2*s:Nat):Int)=v at*
    generalize ((P.length+s:Nat):Int)=gv3 at*
    generalize ((2*s:Nat):Int)=gv4 at*
    generalize (P.length:Int)=u at*
    generalize (s:Int)=gs at*
    generalize x2:(N:Int)=w at*
    simp[tP,o,hw,C,q,H]
theorem ZI(N:Nat)(Y:N<=1099511627776):∀(k s:Nat) (l:ah),N-s<=k->0<s->s<=2199023255552->l.length=N->(∀t,t∈l->t.inner<=1099511627776)->Blk s l->
 ∃(l':ah) (s':Nat),l'.Perm l/\ck l'/\
  cj XV [] 1 [0,1,2,6] mH ⟨[(0,.tsl true 0 3 N),(1,aa N),(2,.fn 6 []),(6,aa s)],[some (kc l)]⟩=
   some (.exit 2,⟨[(0,.tsl true 0 3 N),(1,aa N),(2,.fn 6 []),(6,aa s'),(30,ax false)],[some (kc l')]⟩):=by
 have head:∀(x:Int) (c:aA),aJ 1 [0,1,2,6] ⟨[(0,.tsl true 0 3 N),(1,aa N),(2,.fn 6 []),(6,aa x)],[some c]⟩=some ⟨[(0,.tsl true 0 3 N),(1,aa N),(2,.fn 6 []),(6,aa x)],[some c]⟩:=fun x c=>by simp[aJ,aG,fe,ic,gJ]
 have stop:∀(s:Nat) (l:ah),0<s->N<=s->l.length=N->Blk s l->∃(l':ah) (s':Nat),l'.Perm l/\ck l'/\
  cj XV [] 1 [0,1,2,6] mH ⟨[(0,.tsl true 0 3 N),(1,aa N),(2,.fn 6 []),(6,aa s)],[some (kc l)]⟩=
   some (.exit 2,⟨[(0,.tsl true 0 3 N),(1,aa N),(2,.fn 6 []),(6,aa s'),(30,ax false)],[some (kc l')]⟩):=fun s l j K Q H=>by
  refine⟨l,s,jW _,H.srt (by omega) j,?_⟩;refine eF (head _ _) ?_ (by simp);have e:¬((s:Int)<(N:Int)):=by omega
  generalize (s:Int)=v at*
  generalize (N:Int)=w at*
  simp[mH,e]
 intro k
 induction k with
 |zero=>intro s l hk j P y n F;exact stop s l j (by omega) y F
 |succ k ih=>
  intro s l hk j P y n F
  by_cases I:N<=s
  ·exact stop s l j I y F
  obtain⟨b,g,a,r1,r2,r3,Z,R,r6,z⟩:=OL N s Y j (by omega) l.length [] l (bf _) (by simpa using y) (by simpa using n) F;simp only[dG,iL,fR]at r2 z;have m:∀t,t∈b++g->t.inner<=1099511627776:=fun t p=>n t (Z.mem_iff.1 p)
  obtain⟨W,u,J,O⟩:∃W:ah,W.Perm g/\ck W/\((((a+s:Nat):Int)<(N:Int)/\ap XV 173 [.tsl true 0 3 N,aa a,aa (a+s:Nat),aa N,.fn 6 []] [some (kc (b++g))]=some (.d (.tup []),[some (kc (b++W))]))\/(¬((a+s:Nat):Int)<(N:Int)/\W=g)):=by
   by_cases h:a+s<N
   ·obtain⟨C,D,rfl,l1,b1,b2⟩:∃C D,g=C++D/\C.length=s/\ck C/\Blk s D:=by
     cases R with
     |last _ K _=>omega
     |cons c r K Q H=>exact⟨c,r,rfl,K,Q,H⟩
    have V:a+(s+D.length)=N:=by simp at r3;omega
    obtain⟨W,u,J,O⟩:=Nt (C.length+D.length) b C D [] a (a+s) N N (bf _) (by omega) (by omega) r2 (by omega) (by omega) (by simp;omega) Y (fun t p=>m t (by simpa using p)) b1 (b2.srt (by omega) j);refine⟨W,u,J,.inl ⟨by omega,?_⟩⟩;have e1:b++(C++D)=b++C++D++[]:=by simp
    have e2:b++W=b++W++[]:=by simp
    rw[e1,e2];exact O
   ·exact⟨g,jW _,R.srt (by omega) j,.inr ⟨by omega,rfl⟩⟩
  have h4:W.length=g.length:=u.length_eq;have G:Blk (2*s) (b++W):=r6 W (.last W (by omega) J);obtain⟨l',s',p1,p2,p3⟩:=ih (2*s) (b++W) (by omega) (by omega) (by omega) (by simp;omega) (fun t p=>m t (by
   rcases bC.1 p with h|h
   ·simp[h]
   ·simp[u.mem_iff.1 h])) G
  refine⟨l',s',p1.trans ((jW b).append u|>.trans Z),p2,?_⟩;rw[<-p3];refine fA (head _ _) ?_;have e:((s:Int)<(N:Int)):=by omega
  have o:IntKind.i64.wrap (2*(s:Int))=((2*s:Nat):Int):=by rw[wrap_i64 (by omega) (by omega)];omega
  have i:IntKind.i64.wrap ((s:Int)*2)=((2*s:Nat):Int):=by rw[wrap_i64 (by omega) (by omega)];omega
  have q:IntKind.i64.wrap ((a:Int)+s)=((a+s:Nat):Int):=by rw[wrap_i64 (by omega) (by omega)];omega
  simp only[tW]at z;rcases O with⟨g1,g2⟩|⟨g1,rfl⟩
  ·generalize kc (b++W)=c3 at*
   generalize kc (b++g)=c2 at*
   generalize kc l=c1 at*
   generalize ((a+2*s:Nat):Int)=gv1 at*
   generalize ((a+s:Nat):Int)=gv3 at*
   generalize ((2*s:Nat):Int)=gv4 at*
   generalize (a:Int)=ga at*
   generalize (s:Int)=gs at*
   generalize M:(N:Int)=w at*
   simp[mH,e,o];rw[z];simp[i,q,g1,g2]
  ·generalize kc (b++W)=c2 at*
   generalize kc l=c1 at*
   generalize ((a+2*s:Nat):Int)=gv1 at*
   generalize ((a+s:Nat):Int)=gv3 at*
   generalize ((2*s:Nat):Int)=gv4 at*
   generalize (a:Int)=ga at*
   generalize (s:Int)=gs at*
   generalize M:(N:Int)=w at*
   simp[mH,e,o];rw[z];simp[i,q,g1]
theorem Wg(l:ah)(k:l.length<=1099511627776)(g:∀t,t∈l->t.inner<=1099511627776):
 ∃l':ah,l'.Perm l/\ck l'/\ap XV 171 [.tsl true 0 3 l.length,aa l.length,.fn 6 []] [some (kc l)]=some (.d (.tup []),[some (kc l')]):=by
 obtain⟨c,i,a,D,o,F,n,u,j⟩:=qvk l.length k l.length [] l (bf _) (by simp) (by simpa using g);simp only[dG,iL,fR]at o j;have b:∀t,t∈c++i->t.inner<=1099511627776:=fun t e=>g t (n.mem_iff.1 e)
 obtain⟨W,m,y,p⟩:=Mq c i [] a l.length l.length o (by omega) (by simp;omega) k (fun t e=>b t (by simpa using e));simp only[dB]at p;have s:W.length=i.length:=m.length_eq;have C:Blk 20 (c++W):=u W (.last W (by omega) y);obtain⟨l',s',r,x,q⟩:=ZI l.length k l.length 20 (c++W) (by omega) (by omega) (by omega) (by simp;omega) (fun t e=>b t (by
  rcases bC.1 e with h|h
  ·simp[h]
  ·simp[m.mem_iff.1 h])) C
 refine⟨l',r.trans ((jW c).append m|>.trans n),x,?_⟩;rw[aN 171 qF rfl];simp only[tW,show((20:Nat):Int)=20 from rfl]at j q;generalize kc (c++W)=c3 at*
 generalize kc (c++i)=c2 at*
 generalize kc l=c1 at*
 generalize kc l'=c4 at*
 generalize ((a+20:Nat):Int)=gv1 at*
 generalize (a:Int)=ga at*
 generalize z:(l.length:Int)=w at*
 simp[qF];rw[j];simp[EO,p];rw[q];simp
theorem Pa(l:ah)(c:l.length<=1099511627776)(a:∀t,t∈l->t.inner<=1099511627776):
 ∃l':ah,l'.Perm l/\ck l'/\ap XV 170 [.tsl true 0 3 l.length,.fn 6 []] [some (kc l)]=some (.d (.tup []),[some (kc l')]):=by
 obtain⟨l',g,b,e⟩:=Wg l c a;refine⟨l',g,b,?_⟩;rw[aN 170 qv rfl];generalize kc l'=c2 at*
 generalize kc l=c1 at*
 simp[qv,e]
mutual
theorem Qv:∀t:T,(t.enc U).allU=true
 | .node f v ks=>by
  have:=FS ks;unfold T.enc;cases ks with
  |nil=>simp[T.encs,DV.allU,DV.allUs]
  |cons a r=>simp only[T.encs]at this⊢;simp[DV.allU,DV.allUs]at this⊢;exact this
theorem FS:∀l:ah,DV.allUs (T.encs U l)=true
 | []=>by simp[T.encs,DV.allUs]
 |t::r=>by simp[T.encs,DV.allUs,Qv t,FS r]
end
theorem qLn:∀l:ah,DV.allUs (l.map (T.enc U))=true:=fun l=>by rw[<-T.qeG];exact FS l
def nB(f v:Int)(ks:ah):ar:=[some [aa f,aa v,.d (ai .sub ks)],some [aa 0,aa 0,.d (.sl U [])]]
theorem qWN(s:aF)(q:s.length<=1099511627776)(f v:Int)(ks acc:ah)(r:ks.length<=1099511627776)(i:Nat)(hi:i<ks.length)(p:acc.length<=1099511627776)(u:((aj ks i).norm s).kids.length<=1099511627776)
 (hc:ap XV 169 [.d (sg s),.d ((aj ks i).enc .sub)] []=some (.d (((aj ks i).norm s).enc U),[])):
 ∃e:ar,aO XV (XV.lin 169) lJ ⟨[(0,.d (sg s)),(3,.ptr 0 0),(4,.ptr 1 0),(5,.d (.sl U (acc.map (T.enc U)))),(10,.d (ai .sub ks)),(11,aa ks.length),(12,aa i)],nB f v ks⟩=
  some (.normal,⟨[(0,.d (sg s)),(3,.ptr 0 0),(4,.ptr 1 0),(5,.d (.sl U ((acc++eh s f ((aj ks i).norm s)).map (T.enc U)))),(10,.d (ai .sub ks)),(11,aa ks.length),(12,aa (i+1:Nat))],nB f v ks++e⟩):=by
 have j:=bE (n:=i) (by omega);have c:=rN s q f;have g:=bg hi;generalize aj ks i=k at*
 generalize w:k.norm s=n at*
 unfold eh nB
 by_cases m:bI s f=true
 ·by_cases o:(n.f==f)=true
  ·have a:=pp acc n.kids U (by omega)
   generalize b:(acc++n.kids).map (T.enc U)=l2 at a;generalize acc.map (T.enc U)=l1 at a⊢
   refine⟨[some [aa n.f,aa n.v,.d (ai .sub n.kids)]],?_⟩;simp[lJ,hi,j,cut,g,hc,c,m,o,a,b,splice,aW,ba,bh,bd,aP,AV.qaw]
  ·have a:=pp acc [n] U (by simp;omega)
   have h:(n.f==f)=false:=by simpa using o
   simp only[bA,cM]at a;generalize b:(acc++[n]).map (T.enc U)=l2 at a;generalize acc.map (T.enc U)=l1 at a⊢
   refine⟨[some [aa n.f,aa n.v,.d (ai .sub n.kids)]],?_⟩;simp[lJ,hi,j,cut,g,hc,c,m,h,a,b,splice,aW,ba,bh,bd,aP,AV.qaw]
 ·have l:bI s f=false:=by simpa using m
  have a:=pp acc [n] U (by simp;omega);simp only[bA,cM]at a;generalize b:(acc++[n]).map (T.enc U)=l2 at a;generalize acc.map (T.enc U)=l1 at a⊢
  refine⟨[some [aa n.f,aa n.v,.d (ai .sub n.kids)]],?_⟩;simp[lJ,hi,j,cut,g,hc,c,l,a,b,splice,aW,ba,bh,bd,aP,AV.qaw]
theorem QD(B:ar):ap XV 172 [.d (.sl .sub []),aa 0,aa 0,.fn 6 []] B=some (.d (.tup []),B):=by
 rw[aN 172 lZ rfl];have a:cj XV [46,50] B.length [0,1,2,3,8] mI ⟨[(0,.d (.sl .sub [])),(1,aa 0),(2,aa 0),(3,.fn 6 []),(8,aa 1)],B⟩=some (.exit 0,⟨[(0,.d (.sl .sub [])),(1,aa 0),(2,aa 0),(3,.fn 6 []),(8,aa 1),(14,ax false)],B⟩):=by refine eF (s0:=⟨[(0,.d (.sl .sub [])),(1,aa 0),(2,aa 0),(3,.fn 6 []),(8,aa 1)],B⟩) (by simp[aJ,aG,ic,gJ]) ?_ (by simp);simp[mI]
 simp[lZ,wrap_i64];rw[a];simp
theorem ON(B:ar):ap XV 170 [.d (.sl .sub []),.fn 6 []] B=some (.d (.tup []),B):=by
 have hi:=QD B;have b:cj XV [] B.length [0,1,2,6,7,8] nD ⟨[(0,.d (.sl .sub [])),(1,aa 0),(2,.fn 6 []),(6,aa 20),(7,aa 0),(8,aa 20)],B⟩=some (.exit 0,⟨[(0,.d (.sl .sub [])),(1,aa 0),(2,.fn 6 []),(6,aa 20),(7,aa 0),(8,aa 20),(13,ax false)],B⟩):=by refine eF (s0:=⟨[(0,.d (.sl .sub [])),(1,aa 0),(2,.fn 6 []),(6,aa 20),(7,aa 0),(8,aa 20)],B⟩) (by simp[aJ,aG,ic,gJ]) ?_ (by simp);simp[nD]
 have a:cj XV [] B.length [0,1,2,6] mH ⟨[(0,.d (.sl .sub [])),(1,aa 0),(2,.fn 6 []),(6,aa 20)],B⟩=some (.exit 2,⟨[(0,.d (.sl .sub [])),(1,aa 0),(2,.fn 6 []),(6,aa 20),(30,ax false)],B⟩):=by refine eF (s0:=⟨[(0,.d (.sl .sub [])),(1,aa 0),(2,.fn 6 []),(6,aa 20)],B⟩) (by simp[aJ,aG,ic,gJ]) ?_ (by simp);simp[mH]
 have c:ap XV 171 [.d (.sl .sub []),aa 0,.fn 6 []] B=some (.d (.tup []),B):=by rw[aN 171 qF rfl];simp[qF];rw[b];simp[EO,hi];rw[a];simp
 rw[aN 170 qv rfl];simp[qv,c]
theorem WZ(s:aF)(m:s.length<=1099511627776)(f v:Int)(ks:ah)(p:bw ks<=1099511627776)
 (hc:∀t,t∈ks->ap XV 169 [.d (sg s),.d (t.enc .sub)] []=some (.d ((t.norm s).enc U),[])):∀(k i:Nat),i+k=ks.length->∀e:ar,
 cj XV (XV.lin 169) 2 [0,3,4,5,10,11,12] lJ ⟨[(0,.d (sg s)),(3,.ptr 0 0),(4,.ptr 1 0),(5,.d (.sl U ((gX s f ks i).map (T.enc U)))),(10,.d (ai .sub ks)),(11,aa ks.length),(12,aa i)],nB f v ks++e⟩=
  some (.exit 0,⟨[(0,.d (sg s)),(3,.ptr 0 0),(4,.ptr 1 0),(5,.d (.sl U ((flatK s f (T.norms s ks)).map (T.enc U)))),(10,.d (ai .sub ks)),(11,aa ks.length),(12,aa ks.length),(13,ax false)],nB f v ks⟩):=by
 have head:∀(x y:AV) (e:ar),y.clr=y->x.safe 2=true->y.safe 2=true->aJ 2 [0,3,4,5,10,11,12] ⟨[(0,.d (sg s)),(3,.ptr 0 0),(4,.ptr 1 0),(5,x),(10,.d (ai .sub ks)),(11,aa ks.length),(12,y)],nB f v ks++e⟩=some ⟨[(0,.d (sg s)),(3,.ptr 0 0),(4,.ptr 1 0),(5,x),(10,.d (ai .sub ks)),(11,aa ks.length),(12,y)],nB f v ks⟩:=fun x y e r h b=>gi (by simp) (by simp[aG,h,b]) (by simp[nB]) rfl
 intro k
 induction k with
 |zero=>
  intro i hi e;have:i=ks.length:=by omega
  subst this;refine eF (head _ _ e (by simp) (by simp) (by simp)) ?_ (by simp);rw[LF];simp[lJ]
 |succ k n=>
  intro i hi e;have a:i<ks.length:=by omega
  have c:=bV a;have u:=fX c;have o:=mA s (aj ks i);have q:=JL s f ks i;have w:=ip (gX s f ks i);have l:((aj ks i).norm s).kids.length<=1099511627776:=by have:=ip ((aj ks i).norm s).kids;rw[GM]at this;omega
  obtain⟨g,j⟩:=qWN s m f v ks (gX s f ks i) (by have:=ip ks;omega) i a (by omega) l (hc _ c);rw[<-n (i+1) (by omega) g,Js s f ks i a];exact fA (head _ _ e (by simp) (by simp) (by simp)) j
theorem TF(s:aF)(b:s.length<=1099511627776)(f v:Int)(ks:ah)(c:bw ks<=1099511627776)
 (hc:∀t,t∈ks->ap XV 169 [.d (sg s),.d (t.enc .sub)] []=some (.d ((t.norm s).enc U),[])):
 aO XV (XV.lin 169) fU.pre ⟨bo 0 [.d (sg s),.d ((T.node f v ks).enc .sub)],[]⟩=
  some (.normal,⟨[(3,.ptr 0 0),(4,.ptr 1 0),(5,.d (.sl U ((flatK s f (T.norms s ks)).map (T.enc U)))),(42,ax (bI s f))],nB f v ks⟩):=by
 have a:=WZ s b f v ks c hc ks.length 0 (by omega) [];have e:=rN s b f;simp only[HH,cM,dB,OY,nB,tW]at a;simp[fU,iU,vt,By,xt,AU,aW,ba,bh,bd,aP,nB];rw[a];simp[e,aP]
theorem Tm:∀l:ah,((l.map (T.enc U)).flatMap DV.cells).map AV.d=kc l:=fun l=>by rw[CV];rfl
theorem Sv(t:T)(r:ah)(s:bw (t::r)<=1099511627776):iF (ap XV) fU (t.enc U) (r.map (T.enc U))=some ((eE (t::r)).map (T.enc U)):=by
 have j:=ip (t::r);obtain⟨l',e,o,p⟩:=Pa (t::r) (by omega) (fun x l=>by have:=fX l;omega);have n:=Cb e o;have h:=qLn (t::r);have g:=Tm (t::r);simp only[bA]at h g;unfold iF;rw[aw h,g];have k:(T.enc U t).cells.length=3:=by simp
 have q:(r.map (T.enc U)).length+1=(t::r).length:=by simp
 rw[k,q];have e3:ap XV fU.srt [.tsl true 0 3 (t::r).length,.fn fU.cmp []] [some (kc (t::r))]=some (.d (.tup []),[some (kc l')]):=p;rw[e3];have a:l'.length=(t::r).length:=e.length_eq;have i:aV (kc l')=some (flat (l'.map (T.enc U))):=by rw[CV];exact YO _
 have c:=Ig (l'.map (T.enc U)) (YK U l');have m:(flat (l'.map (T.enc U))).length=(t::r).length*3:=by have:=gu i;have b:=kZ l';rw[this,eo]at b;rw[b,a]
 simp only[i,a9];rw[aw m,<-a];rw[eo]at c;rw[c,n]
theorem S9{X:XEnv}{T:ae}{sf:SFn}{ds:al}{S:XS}{x:DV}{xr:al}{y:DV×DV}{q:al}(b:ds.length=sf.np)(h:aO X T sf.pre ⟨bo 0 (ds.map .d),[]⟩=some (.normal,S))
 (c:lk S.r sf.cond=some (ax true)) (a:lk S.r sf.row=some (.d (.sl U (x::xr)))) (g:qg S=some y) (e:iF (ap X) sf x xr=some q):kQ X T sf ds=some (.agg [y.1,y.2,.sl U q]):=by
 unfold kQ;rw[au (by simpa using b),h];simp only[a9];rw[c,a];simp only[U];rw[g];simp only[a9,e,bH]
theorem YH(s:aF)(k:s.length<=1099511627776)(f v:Int)(ks:ah)(i:bw ks<=1099511627776)
 (hc:∀t,t∈ks->ap XV 169 [.d (sg s),.d (t.enc .sub)] []=some (.d ((t.norm s).enc U),[])):
 ap XV 169 [.d (sg s),.d ((T.node f v ks).enc .sub)] []=some (.d (((T.node f v ks).norm s).enc U),[]):=by
 have h:=TF s k f v ks i hc;have b:bw (flatK s f (T.norms s ks))<=1099511627776:=by have:=wZ s f (T.norms s ks);have:=yt s ks;omega
 rw[Rt XV 169 _ _ fU rfl YA Xf];simp only[aV,a9,bH];have a:kQ XV (XV.lin 169) fU [sg s,(T.node f v ks).enc .sub]=kQ XV (XV.lin 169) fU [sg s,(T.node f v ks).enc .sub]:=rfl
 conv at a=>rhs;unfold kQ
 rw[au (by simp[fU,iU])]at a;simp only[bA,cM]at a;rw[h]at a;simp only[T.norm]
 by_cases e:bI s f=true
 ·rw[aw e]
  cases hq:flatK s f (T.norms s ks)with
  |nil=>rw[a];have l:eE ([]:ah)=[]:=rfl;have c:=ON (nB f v ks);simp only[nB]at c;simp[fU,iU,e,hq,lk,nB,l,c,splice,aW,ba,bh,bd,aP];rw[T.qbD];rfl
  |cons x r=>rw[hq]at b;have j:=Sv x r b;have:=S9 (X:=XV) (T:=XV.lin 169) (sf:=fU) (ds:=[sg s,(T.node f v ks).enc .sub]) (x:=x.enc U) (xr:=r.map (T.enc U)) (y:=(.int .i64 f,.int .i64 v)) rfl h (by simp[fU,iU,lk,e]) (by simp[fU,iU,lk,hq]) (by simp[qg,lk,nB,DV.flat,aW]) j;rw[this];simp only[bH];rw[T.qbD];rfl
 ·rw[au e,a]
  have g:bI s f=false:=by simpa using e
  simp[fU,iU,g,lk,nB,splice,aW,ba,bh,bd,aP]
theorem Bp(s:aF)(c:s.length<=1099511627776)(t:T)(a:t.inner<=1099511627776):ap XV 169 [.d (sg s),.d (t.enc .sub)] []=some (.d ((t.norm s).enc U),[]):=by
 match t,a with
 | .node f v ks,a=>rw[T.qbN]at a;exact YH s c f v ks a fun x b=>Bp s c x (by have:=fX b;omega)
termination_by t
decreasing_by
 simp_wf
 have:=gM b;omega
abbrev ts(l:aB):ah:=l.map Bd.t
end Go.Proofs.YtpcoohnjllclnaaGreat.VS
