/- Contracts of the program's functions on the evaluator without names, and plain lemmas: part 3. -/
import Derived.Test.YtpcoohnjllclnaaGreatXP2
set_option linter.unusedSimpArgs false
set_option linter.unusedVariables false
namespace Go.Proofs.YtpcoohnjllclnaaGreat.VS
theorem Vy(A X Z:List T)(y:T)(a m b N:Nat)(ha:a=A.length)(hm:m=a+X.length)(hb:b=m+1)(J:2<=X.length)(l:N=(A++X++y::Z).length)(hn:N<=1099511627776)(p:∀t,t∈A++X++y::Z->t.inner<=1099511627776)(C:bW X):
 ∃W:List T,W.Perm (X++[y])/\bW W/\al XV 173 [.tsl true 0 3 N,aa a,aa m,aa b,.fn 6 []] [some (kc (A++X++y::Z))]=some (.d (.tup []),[some (kc (A++W++Z))]):=by
 have H:A.length+X.length+(Z.length+1)=N:=by rw[l];simp;omega
 have g:=qIB (A++X++y::Z) m (by rw[<-l];exact hn) (by rw[<-l];omega) p X.length a m (by omega) (by omega) (by rw[<-l];omega);have x:ae (A++X++y::Z) m=y:=tz _ _ _ _ (by simp;omega);have o:∀q,q<X.length->ae (A++X++y::Z) (a+q)=ae X q:=fun q D=>by rw[ha];exact vJ A X (y::Z) q D
 obtain⟨s1,s2,k,j⟩:=rU (fun h=> !decide (T.cmp (ae (A++X++y::Z) m) (ae (A++X++y::Z) h)<0)) X.length a m (by omega) (by omega);generalize bs (fun h=> !decide (T.cmp (ae (A++X++y::Z) m) (ae (A++X++y::Z) h)<0)) X.length a m=r at g s1 s2 k j;rw[x]at k j;obtain⟨t,rfl⟩:∃t,r=a+t:=⟨r-a,by omega⟩;have u:t<=X.length:=by omega
 have e:X.take t++X.drop t=X:=du _ _;have z:(X.drop t).length=X.length-t:=by simp
 have c:A++X.take t++X.drop t++y::Z=A++X++y::Z:=by rw[b7 A,e]
 have i:=Uy (A++X.take t) (X.drop t) Z y N (a+t) (by simp;omega) (by rw[c,l]) hn;rw[c,z,show a+t+(X.length-t)=m by omega]at i;refine⟨X.take t++y::X.drop t,?_,KL (by rw[e];exact C) (fun s hs=> ?_) (fun s hs=> ?_),?_⟩
 ·refine mD.trans ?_
  rw[e];exact kS (l₁:=[y]) (l₂:=X)
 ·obtain⟨h1,w⟩:=um u hs
  rcases k with k|k
  ·omega
  ·rw[show a+t-1=a+(t-1)by omega,o _ (by omega)]at k
   rw[w];exact oW (by simpa using k)
 ·obtain⟨h1,w⟩:=yq hs
  rcases j with j|j
  ·omega
  ·rw[o _ h1]at j
   rw[w];exact nj (by simpa using j)
 ·have n:A++(X.take t++y::X.drop t)++Z=A++X.take t++y::(X.drop t++Z):=by simp only[b7,cP]
  rw[n];rw[aJ 173 lh rfl];rw[<-l]at g;have G:IntKind.i64.wrap ((m:Int)-a)=(X.length:Int):=by rw[wrap_i64 (by omega) (by omega)];omega
  have I:((X.length:Int)==1)=false:=by simp;omega
  have F:IntKind.i64.wrap ((b:Int)-m)=1:=by rw[wrap_i64 (by omega) (by omega)];omega
  generalize kc (A++X.take t++y::(X.drop t++Z))=c2 at i⊢
  generalize kc (A++X++y::Z)=c1 at g i⊢
  generalize ((a+t:Nat):Int)=gv2 at*
  generalize (X.length:Int)=vx at*
  simp[lh,rl,ua,G,F,I];rw[g];simp[FU];rw[i];simp
theorem VA(N:Nat)(i e j a b o c:Int)(l g k2 k:List AV)(z:IntKind.i64.wrap (o-b)=c)
 (w:(b<e/\e<c/\al XV 174 [.tsl true 0 3 N,aa b,aa e,aa c,.fn 6 []] [some l]=some (.d (.tup []),[some g]))\/(b<e/\¬e<c/\l=g)\/(¬b<e/\l=g))
 (r:(i<b/\b<a/\al XV 173 [.tsl true 0 3 N,aa i,aa b,aa a,.fn 6 []] [some g]=some (.d (.tup []),[some k2]))\/(i<b/\¬b<a/\g=k2)\/(¬i<b/\g=k2))
 (u:(a<c/\c<j/\al XV 173 [.tsl true 0 3 N,aa a,aa c,aa j,.fn 6 []] [some k2]=some (.d (.tup []),[some k]))\/(a<c/\¬c<j/\k2=k)\/(¬a<c/\k2=k)) (m n h:AV):
 ∃y,aH XV [70,74,122,126] (.seq (.region false 0 [0,1,2,3,4,18,20,24] qw) (.seq (.seq (.region false 0 [0,1,2,3,4,18,20,24,185] sr) (.cond (.t 185) (.region false 0 [0,1,3,4,18,20,24] qb) .skip)) (.seq (.seq (.region false 0 [0,1,3,4,18,20,24,199] rp) (.cond (.t 199) (.region false 0 [0,3,4,18,24] sy) .skip)) (.seq (.region false 0 [0,3,4,18,24,213] rz) (.cond (.t 213) (.region false 0 [] pJ) .skip)))))
  ⟨[(0,.tsl true 0 3 N),(1,aa i),(2,aa e),(3,aa j),(4,.fn 6 []),(18,aa a),(19,aa o),(20,aa b),(21,m),(22,n),(151,h)],[some l]⟩=some (.normal,⟨y,[some k]⟩):=by
 rcases w with⟨q,x,a3⟩|⟨q,x,rfl⟩|⟨q,rfl⟩<;>rcases r with⟨p,s,b3⟩|⟨p,s,rfl⟩|⟨p,rfl⟩<;>rcases u with⟨d1,d2,d3⟩|⟨d1,d2,rfl⟩|⟨d1,rfl⟩<;>
  exact⟨_,by simp[qw,sr,qb,rp,sy,rz,pJ, *];rfl⟩
theorem PY(N:Nat)(k b j a i l g vb vx r e:Int)(m s:List AV)(z:IntKind.i64.wrap (b-k)=vx)(G:(vx==1)=false)(u:IntKind.i64.wrap (j-b)=r)(w:(r==1)=false)
 (C:IntKind.i64.wrap (k+j)=e) (q:IntKind.u64.wrap e=e) (x:e.fdiv 2=a) (D:IntKind.i64.wrap a=a) (p:IntKind.i64.wrap (a+b)=l) (y:IntKind.i64.wrap (l-1)=g) (I:a<b->IntKind.i64.wrap (l-j)=vb)
 (h:bV XV [70,74,122,126] 1 [0,1,2,3,4,18,19,20,21,22] j_ ⟨[(0,.tsl true 0 3 N),(1,aa k),(2,aa b),(3,aa j),(4,.fn 6 []),(18,aa a),(19,aa l),(20,aa (if a<b then vb else k)),(21,aa (if a<b then a else b)),(22,aa g)],[some m]⟩=
  some (.exit 8,⟨[(0,.tsl true 0 3 N),(1,aa k),(2,aa b),(3,aa j),(4,.fn 6 []),(18,aa a),(19,aa l),(20,aa i),(21,aa i),(22,aa g),(151,ar false)],[some m]⟩))
 (tail:∃F,aH XV [70,74,122,126] (.seq (.region false 0 [0,1,2,3,4,18,20,24] qw) (.seq (.seq (.region false 0 [0,1,2,3,4,18,20,24,185] sr) (.cond (.t 185) (.region false 0 [0,1,3,4,18,20,24] qb) .skip)) (.seq (.seq (.region false 0 [0,1,3,4,18,20,24,199] rp) (.cond (.t 199) (.region false 0 [0,3,4,18,24] sy) .skip)) (.seq (.region false 0 [0,3,4,18,24,213] rz) (.cond (.t 213) (.region false 0 [] pJ) .skip)))))
  ⟨[(0,.tsl true 0 3 N),(1,aa k),(2,aa b),(3,aa j),(4,.fn 6 []),(18,aa a),(19,aa l),(20,aa i),(21,aa i),(22,aa g),(151,ar false)],[some m]⟩=some (.normal,⟨F,[some s]⟩)):
 al XV 173 [.tsl true 0 3 N,aa k,aa b,aa j,.fn 6 []] [some m]=some (.d (.tup []),[some s]):=by
 obtain⟨F,o⟩:=tail;generalize H:(.seq (.region false 0 [0,1,2,3,4,18,20,24] qw) (.seq (.seq (.region false 0 [0,1,2,3,4,18,20,24,185] sr) (.cond (.t 185) (.region false 0 [0,1,3,4,18,20,24] qb) .skip)) (.seq (.seq (.region false 0 [0,1,3,4,18,20,24,199] rp) (.cond (.t 199) (.region false 0 [0,3,4,18,24] sy) .skip)) (.seq (.region false 0 [0,3,4,18,24,213] rz) (.cond (.t 213) (.region false 0 [] pJ) .skip)))):VCode)=code at o;rw[aJ 173 lh rfl];unfold lh;rw[H]
 by_cases c:a<b
 ·have n:=I c
  simp only[ap c]at h;simp[rl,ua,DL,CW,A9,zv,ES,EO,BD,z,G,u,w,C,q,x,D,p,y,n,c,lg];rw[h];simp[o]
 ·simp only[ak c]at h
  simp[rl,ua,DL,CW,A9,zv,J9,Jj,BD,z,G,u,w,C,q,x,D,p,y,c,lg];rw[h];simp[o]
theorem qC3(A n g e k Z p s:List T)(a m b c st N:Nat)(ha:a=A.length)(hm:m=a+n.length+g.length)(hb:b=m+e.length+k.length)(hX:2<=n.length+g.length)(hY:2<=e.length+k.length)
 (t:c=(a+b)/2) (H:st=a+n.length) (h1:c=st+e.length) (W:N=(A++(n++g)++(e++k)++Z).length) (hn:N<=1099511627776)
 (w:∀(i j:Nat),(if c<m then i=c+m-b/\j=c else i=a/\j=m)->bV XV [70,74,122,126] 1 [0,1,2,3,4,18,19,20,21,22] j_ ⟨[(0,.tsl true 0 3 N),(1,aa a),(2,aa m),(3,aa b),(4,.fn 6 []),(18,aa c),(19,aa (c+m:Nat)),(20,aa i),(21,aa j),(22,aa (c+m-1:Nat))],[some (kc (A++(n++g)++(e++k)++Z))]⟩=
  some (.exit 8,⟨[(0,.tsl true 0 3 N),(1,aa a),(2,aa m),(3,aa b),(4,.fn 6 []),(18,aa c),(19,aa (c+m:Nat)),(20,aa st),(21,aa st),(22,aa (c+m-1:Nat)),(151,ar false)],[some (kc (A++(n++g)++(e++k)++Z))]⟩))
 (Q:g≠[]->e≠[]->al XV 174 [.tsl true 0 3 N,aa st,aa m,aa (m+e.length:Nat),.fn 6 []] [some (kc (A++(n++g)++(e++k)++Z))]=some (.d (.tup []),[some (kc (A++(n++e)++(g++k)++Z))]))
 (I:(n≠[]/\e≠[])->al XV 173 [.tsl true 0 3 N,aa a,aa st,aa c,.fn 6 []] [some (kc (A++(n++e)++(g++k)++Z))]=some (.d (.tup []),[some (kc (A++p++(g++k)++Z))]))
 (z:¬(n≠[]/\e≠[])->p=n++e)
 (P:(g≠[]/\k≠[])->al XV 173 [.tsl true 0 3 N,aa c,aa (m+e.length:Nat),aa b,.fn 6 []] [some (kc (A++p++(g++k)++Z))]=some (.d (.tup []),[some (kc (A++p++s++Z))]))
 (x:¬(g≠[]/\k≠[])->s=g++k):
 al XV 173 [.tsl true 0 3 N,aa a,aa m,aa b,.fn 6 []] [some (kc (A++(n++g)++(e++k)++Z))]=some (.d (.tup []),[some (kc (A++p++s++Z))]):=by
 have M:A.length+n.length+g.length+e.length+k.length+Z.length=N:=by rw[W];simp;omega
 have ne:∀l:List T,l≠[]↔0<l.length:=fun l=>by cases l<;>simp
 have w1:IntKind.i64.wrap ((m:Int)-a)=((n.length+g.length:Nat):Int):=by rw[wrap_i64 (by omega) (by omega)];omega
 have O:(((n.length+g.length:Nat):Int)==1)=false:=by simp;omega
 have w2:IntKind.i64.wrap ((b:Int)-m)=((e.length+k.length:Nat):Int):=by rw[wrap_i64 (by omega) (by omega)];omega
 have J:(((e.length+k.length:Nat):Int)==1)=false:=by simp;omega
 obtain⟨m1,Y,G,F⟩:=tC a b (by omega);rw[<-t]at G F;have w3:IntKind.i64.wrap ((c:Int)+m)=((c+m:Nat):Int):=by rw[wrap_i64 (by omega) (by omega)];omega
 have R:IntKind.i64.wrap (((c+m:Nat):Int)-1)=((c+m-1:Nat):Int):=by rw[wrap_i64 (by omega) (by omega)];omega
 have S:IntKind.i64.wrap (((c+m:Nat):Int)-st)=((m+e.length:Nat):Int):=by rw[wrap_i64 (by omega) (by omega)];omega
 have K:c<m->IntKind.i64.wrap (((c+m:Nat):Int)-b)=((c+m-b:Nat):Int):=fun h=>by rw[wrap_i64 (by omega) (by omega)];omega
 have C:(g≠[]/\e≠[])\/A++(n++g)++(e++k)++Z=A++(n++e)++(g++k)++Z:=by
  by_cases o:g=[]
  ·right;subst o;simp
  ·by_cases q:e=[]
   ·right;subst q;simp
   ·exact .inl ⟨o,q⟩
 have c1:((st:Int)<m)↔g≠[]:=by rw[ne];omega
 have c2:((m:Int)<((m+e.length:Nat):Int))↔e≠[]:=by rw[ne];omega
 have c3:((a:Int)<st)↔n≠[]:=by rw[ne];omega
 have c4:((st:Int)<c)↔e≠[]:=by rw[ne];omega
 have y:((c:Int)<((m+e.length:Nat):Int))↔g≠[]:=by rw[ne];omega
 have D:(((m+e.length:Nat):Int)<b)↔k≠[]:=by rw[ne];omega
 have step2:(¬(n≠[]/\e≠[]))->kc (A++(n++e)++(g++k)++Z)=kc (A++p++(g++k)++Z):=fun h=>by rw[z h]
 have r:(¬(g≠[]/\k≠[]))->kc (A++p++(g++k)++Z)=kc (A++p++s++Z):=fun h=>by rw[x h]
 have step1:(¬(g≠[]/\e≠[]))->kc (A++(n++g)++(e++k)++Z)=kc (A++(n++e)++(g++k)++Z):=fun h=>by
  rcases C with h1|h1
  ·exact absurd h1 h
  ·rw[h1]
 have hA:((st:Int)<m/\(m:Int)<((m+e.length:Nat):Int)/\al XV 174 [.tsl true 0 3 N,aa st,aa m,aa (m+e.length:Nat),.fn 6 []] [some (kc (A++(n++g)++(e++k)++Z))]=some (.d (.tup []),[some (kc (A++(n++e)++(g++k)++Z))]))\/((st:Int)<m/\¬(m:Int)<((m+e.length:Nat):Int)/\kc (A++(n++g)++(e++k)++Z)=kc (A++(n++e)++(g++k)++Z))\/(¬(st:Int)<m/\kc (A++(n++g)++(e++k)++Z)=kc (A++(n++e)++(g++k)++Z)):=by
  by_cases o:g=[]
  ·exact .inr (.inr ⟨fun h=>(c1.1 h) o,step1 fun h=>h.1 o⟩)
  ·by_cases q:e=[]
   ·exact .inr (.inl ⟨c1.2 o,fun h=>(c2.1 h) q,step1 fun h=>h.2 q⟩)
   ·exact .inl ⟨c1.2 o,c2.2 q,Q o q⟩
 have V:((a:Int)<st/\(st:Int)<c/\al XV 173 [.tsl true 0 3 N,aa a,aa st,aa c,.fn 6 []] [some (kc (A++(n++e)++(g++k)++Z))]=some (.d (.tup []),[some (kc (A++p++(g++k)++Z))]))\/((a:Int)<st/\¬(st:Int)<c/\kc (A++(n++e)++(g++k)++Z)=kc (A++p++(g++k)++Z))\/(¬(a:Int)<st/\kc (A++(n++e)++(g++k)++Z)=kc (A++p++(g++k)++Z)):=by
  by_cases o:n=[]
  ·exact .inr (.inr ⟨fun h=>(c3.1 h) o,step2 fun h=>h.1 o⟩)
  ·by_cases q:e=[]
   ·exact .inr (.inl ⟨c3.2 o,fun h=>(c4.1 h) q,step2 fun h=>h.2 q⟩)
   ·exact .inl ⟨c3.2 o,c4.2 q,I ⟨o,q⟩⟩
 have X:((c:Int)<((m+e.length:Nat):Int)/\((m+e.length:Nat):Int)<b/\al XV 173 [.tsl true 0 3 N,aa c,aa (m+e.length:Nat),aa b,.fn 6 []] [some (kc (A++p++(g++k)++Z))]=some (.d (.tup []),[some (kc (A++p++s++Z))]))\/((c:Int)<((m+e.length:Nat):Int)/\¬((m+e.length:Nat):Int)<b/\kc (A++p++(g++k)++Z)=kc (A++p++s++Z))\/(¬(c:Int)<((m+e.length:Nat):Int)/\kc (A++p++(g++k)++Z)=kc (A++p++s++Z)):=by
  by_cases o:g=[]
  ·exact .inr (.inr ⟨fun h=>(y.1 h) o,r fun h=>h.1 o⟩)
  ·by_cases q:k=[]
   ·exact .inr (.inl ⟨y.2 o,fun h=>(D.1 h) q,r fun h=>h.2 q⟩)
   ·exact .inl ⟨y.2 o,D.2 q,P ⟨o,q⟩⟩
 refine PY N a m b c st (c+m:Nat) (c+m-1:Nat) (c+m-b:Nat) (n.length+g.length:Nat) (e.length+k.length:Nat) (a+b:Nat) _ _ w1 O w2 J m1 Y G F w3 R (fun h=>K (by omega)) ?_ (VA N a m b c st (c+m:Nat) (m+e.length:Nat) _ _ _ _ S hA V X _ _ _)
 by_cases h:c<m
 ·have u:(c:Int)<m:=by omega
  rw[ap u,ap u];exact w (c+m-b) c (by rw[ap h];exact⟨rfl,rfl⟩)
 ·have u:¬(c:Int)<m:=by omega
  rw[ak u,ak u];exact w a m (by rw[ak h];exact⟨rfl,rfl⟩)
theorem GA:∀(k:Nat) (A X Y Z:List T) (a m b N:Nat),X.length+Y.length<=k->0<X.length->0<Y.length->a=A.length->m=a+X.length->b=m+Y.length->N=(A++X++Y++Z).length->N<=1099511627776->(∀t,t∈A++X++Y++Z->t.inner<=1099511627776)->bW X->bW Y->
 ∃W:List T,W.Perm (X++Y)/\bW W/\al XV 173 [.tsl true 0 3 N,aa a,aa m,aa b,.fn 6 []] [some (kc (A++X++Y++Z))]=some (.d (.tup []),[some (kc (A++W++Z))]):=by
 intro k
 induction k with
 |zero=>intro A X Y Z a m b N hk hx hy;omega
 |succ k ih=>
  intro A X Y Z a m b N hk hx hy ha hm hb H hn o hX hY;have Q:A.length+X.length+Y.length+Z.length=N:=by rw[H];simp;omega
  by_cases b1:X.length=1
  ·obtain⟨x,rfl⟩:∃x,X=[x]:=oT.1 b1
   have e:A++[x]++Y++Z=A++x::(Y++Z):=by simp
   rw[e]at H o⊢
   obtain⟨W,w1,w2,w3⟩:=X5 A Y Z x a m b N ha (by simpa using hm) hb H hn o hY;exact⟨W,by simpa using w1,w2,w3⟩
  by_cases x1:Y.length=1
  ·obtain⟨y,rfl⟩:∃y,Y=[y]:=oT.1 x1
   have e:A++X++[y]++Z=A++X++y::Z:=by simp
   rw[e]at H o⊢
   exact Vy A X Z y a m b N ha hm (by simpa using hb) (by omega) H hn o hX
  obtain⟨g,h5⟩:∃g,g=(a+b)/2:=⟨_,rfl⟩;have D:∀q,q<X.length->ae (A++X++Y++Z) (a+q)=ae X q:=fun q hq=>by
   rw[ha,b7 (A++X)];exact vJ A X (Y++Z) q hq
  have G:∀q,q<Y.length->ae (A++X++Y++Z) (m+q)=ae Y q:=fun q hq=>by
   have:=vJ (A++X) Y Z q hq;rw[dz,<-ha,<-hm]at this;exact this
  have key:∀i j:Nat,(if g<m then i=g+m-b/\j=g else i=a/\j=m)->∃st,i<=st/\st<=j/\(st=i\/c8 (ae (A++X++Y++Z) (st-1)) (ae (A++X++Y++Z) (g+m-1-(st-1))))/\(st=j\/c8 (ae (A++X++Y++Z) (g+m-1-st)) (ae (A++X++Y++Z) st))/\
   bV XV [70,74,122,126] 1 [0,1,2,3,4,18,19,20,21,22] j_ ⟨[(0,.tsl true 0 3 N),(1,aa a),(2,aa m),(3,aa b),(4,.fn 6 []),(18,aa g),(19,aa (g+m:Nat)),(20,aa i),(21,aa j),(22,aa (g+m-1:Nat))],[some (kc (A++X++Y++Z))]⟩=
    some (.exit 8,⟨[(0,.tsl true 0 3 N),(1,aa a),(2,aa m),(3,aa b),(4,.fn 6 []),(18,aa g),(19,aa (g+m:Nat)),(20,aa st),(21,aa st),(22,aa (g+m-1:Nat)),(151,ar false)],[some (kc (A++X++Y++Z))]⟩):=by
   intro i j R;have C:i<=j/\j<=N/\∀c,i<=c->c<j->c<=g+m-1/\g+m-1-c<N:=by
    split at R
    ·obtain⟨rfl,rfl⟩:=R
     exact⟨by omega,by omega,fun c h1 w=>by omega⟩
    ·obtain⟨rfl,rfl⟩:=R
     exact⟨by omega,by omega,fun c h1 w=>by omega⟩
   have hl:=YY (A++X++Y++Z) (g+m-1) a m b g (g+m:Nat) (by rw[<-H];exact hn) (by omega) o (j-i) i j C.1 (aU _) (by rw[<-H];exact C.2.1) (by rw[<-H];exact C.2.2);obtain⟨s1,s2,s3,s4⟩:=rU (fun c=> !decide (T.cmp (ae (A++X++Y++Z) (g+m-1-c)) (ae (A++X++Y++Z) c)<0)) (j-i) i j C.1 (aU _);rw[<-H]at hl;refine⟨_,s1,s2,s3.imp_right fun h=>oW (by simpa using h),s4.imp_right fun h=>nj (by simpa using h),hl⟩
  obtain⟨i0,j0,n⟩:∃i j:Nat,(if g<m then i=g+m-b/\j=g else i=a/\j=m):=by
   by_cases h:g<m
   ·exact⟨g+m-b,g,by rw[ap h];exact⟨rfl,rfl⟩⟩
   ·exact⟨a,m,by rw[ak h];exact⟨rfl,rfl⟩⟩
  obtain⟨st,q1,q2,q3,q4,hlo⟩:=key i0 j0 n;clear key;have hb1:a<=st/\st<=m/\st<=g/\m<=g+m-st/\g+m-st<=b:=by
   split at n
   ·obtain⟨rfl,rfl⟩:=n;omega
   ·obtain⟨rfl,rfl⟩:=n;omega
  obtain⟨t,ht⟩:∃t,st=a+t:=⟨st-a,by omega⟩;obtain⟨u,hu⟩:∃u,g+m-st=m+u:=⟨g-st,by omega⟩;have htl:t<=X.length:=by omega
  have b2:u<=Y.length:=by omega
  have M:X.take t++X.drop t=X:=du _ _;have K:Y.take u++Y.drop u=Y:=du _ _;have lx1:(X.take t).length=t:=by simp;omega
  have lx2:(X.drop t).length=X.length-t:=by simp
  have ly1:(Y.take u).length=u:=by simp;omega
  have ne:∀l:List T,l≠[]->0<l.length:=fun l h=>v_.2 h
  obtain⟨sx1,S,x3⟩:=iE.1 (show bW (X.take t++X.drop t)by rw[M];exact hX);obtain⟨P,V,x2⟩:=iE.1 (show bW (Y.take u++Y.drop u)by rw[K];exact hY);have F1:∀p,p∈X.take t->∀q,q∈Y.drop u->c8 p q:=tF sx1 V fun s r hs hr=>by
   obtain⟨h1,w⟩:=um htl hs;obtain⟨h3,h4⟩:=yq hr;rcases q3 with q3|q3
   ·exfalso
    split at n
    ·obtain⟨rfl,rfl⟩:=n;omega
    ·obtain⟨rfl,rfl⟩:=n;omega
   ·rw[show st-1=a+(t-1)by omega,D _ (by omega),show g+m-1-(a+(t-1))=m+u by omega,G _ h3]at q3
    rw[w,h4];exact q3
  have F2:∀p,p∈Y.take u->∀q,q∈X.drop t->c8 p q:=tF P S fun s r hs hr=>by
   obtain⟨h1,w⟩:=um b2 hs;obtain⟨h3,h4⟩:=yq hr;rcases q4 with q4|q4
   ·exfalso
    split at n
    ·obtain⟨rfl,rfl⟩:=n;omega
    ·obtain⟨rfl,rfl⟩:=n;omega
   ·rw[show g+m-1-st=m+(u-1)by omega,G _ (by omega),show st=a+t from ht,D _ h3]at q4
    rw[w,h4];exact q4
  generalize hX1:X.take t=X1 at*
  generalize hX2:X.drop t=X2 at*
  generalize hY1:Y.take u=Y1 at*
  generalize hY2:Y.drop u=Y2 at*
  clear D G q3 q4;subst M;subst K;have L:∃z:List T,z.Perm (X1++Y1)/\bW z/\((X1≠[]/\Y1≠[])->al XV 173 [.tsl true 0 3 N,aa a,aa st,aa g,.fn 6 []] [some (kc (A++(X1++Y1)++(X2++Y2)++Z))]=some (.d (.tup []),[some (kc (A++z++(X2++Y2)++Z))]))/\(¬(X1≠[]/\Y1≠[])->z=X1++Y1):=by
   by_cases h:X1≠[]/\Y1≠[]
   ·obtain⟨W,w1,w2,w3⟩:=ih A X1 Y1 (X2++Y2++Z) a st g N (by simp at hk hm hb;omega) (ne _ h.1) (ne _ h.2) ha (by omega) (by simp at hm hb;omega) (by simp at Q⊢;omega) hn (fun x hx=>o x (by
     simp only[bl]at hx⊢
     rcases hx with((h|h)|h)|((h|h)|h)<;>simp[h])) sx1 P
    refine⟨W,w1,w2,fun _=> ?_,fun O=>absurd h O⟩;have F:A++(X1++Y1)++(X2++Y2)++Z=A++X1++Y1++(X2++Y2++Z):=by simp
    have J:A++W++(X2++Y2)++Z=A++W++(X2++Y2++Z):=by simp
    rw[F,J];exact w3
   ·refine⟨X1++Y1,iU _,?_,fun O=>absurd O h,fun _=>rfl⟩
    by_cases F:X1=[]
    ·subst F;rw[dj];exact P
    ·by_cases J:Y1=[]
     ·subst J;rw[dq];exact sx1
     ·exact absurd ⟨F,J⟩ h
  obtain⟨z,p1,s1,c1,c1'⟩:=L;have lw1:z.length=X1.length+Y1.length:=by rw[p1.length_eq];simp
  have Rr:∃I:List T,I.Perm (X2++Y2)/\bW I/\((X2≠[]/\Y2≠[])->al XV 173 [.tsl true 0 3 N,aa g,aa (m+Y1.length:Nat),aa b,.fn 6 []] [some (kc (A++z++(X2++Y2)++Z))]=some (.d (.tup []),[some (kc (A++z++I++Z))]))/\(¬(X2≠[]/\Y2≠[])->I=X2++Y2):=by
   by_cases h:X2≠[]/\Y2≠[]
   ·obtain⟨W,w1,w2,w3⟩:=ih (A++z) X2 Y2 Z g (m+Y1.length) b N (by simp at hk hm hb;omega) (ne _ h.1) (ne _ h.2) (by simp at hm hb⊢;omega) (by simp at hm hb⊢;omega) (by simp at hm hb⊢;omega) (by simp at Q⊢;omega) hn (fun x hx=>o x (by
     simp only[bl]at hx⊢
     rcases hx with(((h|h)|h)|h)|h
     ·simp[h]
     ·have:=p1.mem_iff.1 h
      simp only[bl]at this;rcases this with h|h<;>simp[h]
     ·simp[h]
     ·simp[h]
     ·simp[h])) S V
    refine⟨W,w1,w2,fun _=> ?_,fun O=>absurd h O⟩;have F:A++z++(X2++Y2)++Z=A++z++X2++Y2++Z:=by simp
    rw[F];exact w3
   ·refine⟨X2++Y2,iU _,?_,fun O=>absurd O h,fun _=>rfl⟩
    by_cases F:X2=[]
    ·subst F;rw[dj];exact V
    ·by_cases J:Y2=[]
     ·subst J;rw[dq];exact S
     ·exact absurd ⟨F,J⟩ h
  obtain⟨I,p2,s2,c2,c2'⟩:=Rr;refine⟨z++I,?_,iE.2 ⟨s1,s2,fun p hp q hq=> ?_⟩,?_⟩
  ·refine(p1.append p2).trans ?_
   have:=kS (l₁:=Y1) (l₂:=X2);have h3:=((iU X1).append (this.append (iU Y2)));simpa using h3
  ·have h1:=p1.mem_iff.1 hp
   have w:=p2.mem_iff.1 hq;rcases bl.1 h1 with h1|h1<;>rcases bl.1 w with w|w
   ·exact x3 p h1 q w
   ·exact F1 p h1 q w
   ·exact F2 p h1 q w
   ·exact x2 p h1 q w
  ·have a2:X2≠[]->Y1≠[]->al XV 174 [.tsl true 0 3 N,aa st,aa m,aa (m+Y1.length:Nat),.fn 6 []] [some (kc (A++(X1++X2)++(Y1++Y2)++Z))]=some (.d (.tup []),[some (kc (A++(X1++Y1)++(X2++Y2)++Z))]):=fun h1 w=>by
    have hro:=X7 (A++X1) X2 Y1 (Y2++Z) st m (m+Y1.length) N (by simp;omega) (by simp at hm⊢;omega) (by simp at hm⊢;omega) (by simp at Q⊢;omega) hn (ne _ h1) (ne _ w) (.fn 6 []) (by simp[AV.clr,AV.clrs]) (by simp[fY,fJ]);have F:A++(X1++X2)++(Y1++Y2)++Z=A++X1++X2++Y1++(Y2++Z):=by simp
    have J:A++(X1++Y1)++(X2++Y2)++Z=A++X1++Y1++X2++(Y2++Z):=by simp
    rw[F,J];exact hro
   have a1:A++(z++I)++Z=A++z++I++Z:=by simp
   rw[a1];exact qC3 A X1 X2 Y1 Y2 Z z I a m b g st N ha (by simp at hm;omega) (by simp at hb;omega) (by simp at b1 hx;omega) (by simp at x1 hy;omega) h5 (by omega) (by simp at hm hb;omega) H hn (fun i j h=>by
    have:i=i0/\j=j0:=by
     split at h<;>split at n<;>first|omega|skip
    rw[this.1,this.2];exact hlo) a2 c1 c1' c2 c2'
inductive Blk(s:Nat):List T->Prop where
 |last (l:List T):l.length<s->bW l->Blk s l
 |cons (c r:List T):c.length=s->bW c->Blk s r->Blk s (c++r)
theorem Blk.srt{s:Nat}{l:List T}(h:Blk s l)(b:l.length<=s)(hs:0<s):bW l:=by
 cases h with
 |last _ _ a=>exact a
 |cons c r h1 a d=>
  have:r=[]:=kp.1 (by simp at b;omega);subst this;rw[dq];exact a
theorem Z6(N:Nat)(hn:N<=1099511627776):∀(k:Nat) (P R:List T),R.length<=k->(P++R).length=N->(∀t,t∈P++R->t.inner<=1099511627776)->
 ∃(d b:List T) (a:Nat),b.length<20/\a=P.length+d.length/\a+b.length=N/\(d++b).Perm R/\(∀Q,Blk 20 Q->Blk 20 (d++Q))/\
  bV XV [] 1 [0,1,2,6,7,8] mH ⟨[(0,.tsl true 0 3 N),(1,aa N),(2,.fn 6 []),(6,aa 20),(7,aa P.length),(8,aa (P.length+20:Nat))],[some (kc (P++R))]⟩=
   some (.exit 0,⟨[(0,.tsl true 0 3 N),(1,aa N),(2,.fn 6 []),(6,aa 20),(7,aa a),(8,aa (a+20:Nat)),(13,ar false)],[some (kc (P++d++b))]⟩):=by
 have head:∀(x y:Int) (c:List AV),aE 1 [0,1,2,6,7,8] ⟨[(0,.tsl true 0 3 N),(1,aa N),(2,.fn 6 []),(6,aa 20),(7,aa x),(8,aa y)],[some c]⟩=some ⟨[(0,.tsl true 0 3 N),(1,aa N),(2,.fn 6 []),(6,aa 20),(7,aa x),(8,aa y)],[some c]⟩:=fun x y c=>by
  simp[aE,aD,eq,fY,fJ]
 have stop:∀(P R:List T),(P++R).length=N->R.length<20->bV XV [] 1 [0,1,2,6,7,8] mH ⟨[(0,.tsl true 0 3 N),(1,aa N),(2,.fn 6 []),(6,aa 20),(7,aa P.length),(8,aa (P.length+20:Nat))],[some (kc (P++R))]⟩=
  some (.exit 0,⟨[(0,.tsl true 0 3 N),(1,aa N),(2,.fn 6 []),(6,aa 20),(7,aa P.length),(8,aa (P.length+20:Nat)),(13,ar false)],[some (kc (P++R))]⟩):=fun P R h1 h2=>by
  refine d7 (head _ _ _) ?_ (by simp);have o:¬(((P.length+20:Nat):Int)<=(N:Int)):=by simp at h1;omega
  generalize ((P.length+20:Nat):Int)=v at*
  generalize (N:Int)=w at*
  simp[mH,o]
 intro k
 induction k with
 |zero=>
  intro P R q i e;exact⟨[],R,P.length,by omega,by simp,by simpa using i,by simp,fun Q h=>by simpa using h,by simpa using stop P R i (by omega)⟩
 |succ k F=>
  intro P R q i e
  by_cases z:R.length<20
  ·exact⟨[],R,P.length,z,by simp,by simpa using i,by simp,fun Q h=>by simpa using h,by simpa using stop P R i z⟩
  ·have r:(R.take 20).length=20:=by simp;omega
   have g:R.take 20++R.drop 20=R:=du _ _;have S:(R.drop 20).length=R.length-20:=by simp
   generalize R.take 20=C at r g;generalize R.drop 20=D at S g;subst g;have G:P.length+C.length+D.length=N:=by simp at i;omega
   have s:P++(C++D)=P++C++D:=by simp
   obtain⟨W,m,K,n⟩:=LM P C D P.length (P.length+20) N rfl (by omega) (by simp;omega) hn (fun t j=>e t (by rw[s];exact j));have l:W.length=20:=by rw[m.length_eq,r]
   have p:(P++W).length=P.length+20:=by simp;omega
   obtain⟨d,b,a,V,H,Y,Z,O,M⟩:=F (P++W) D (by simp at q;omega) (by simp;omega) (fun t j=>e t (by
    simp only[bl]at j⊢
    rcases j with(h|h)|h
    ·simp[h]
    ·simp[m.mem_iff.1 h]
    ·simp[h]))
   refine⟨W++d,b,a,V,by simp at H⊢;omega,Y,?_,fun Q J=>by rw[b7];exact .cons W _ l K (O Q J),?_⟩
   ·rw[b7];exact m.append Z
   ·have X:P++(W++d)++b=P++W++d++b:=by simp
    rw[X,<-M,p,s];refine eF (head _ _ _) ?_;have hle:(((P.length+20:Nat):Int)<=(N:Int)):=by omega
    have hw:IntKind.i64.wrap (((P.length+20:Nat):Int)+20)=((P.length+20+20:Nat):Int):=by rw[wrap_i64 (by omega) (by omega)];omega
    generalize kc (P++C++D)=c1 at n⊢
    generalize kc (P++W++D)=c2 at n⊢
    generalize ((P.length+20+20:Nat):Int)=gv2 at*
    generalize ((P.length+20:Nat):Int)=v at*
    generalize (P.length:Int)=u at*
    generalize I:(N:Int)=w at*
    simp[mH,hle,hw,n]
theorem ZN(N s:Nat)(hn:N<=1099511627776)(hs:0<s)(x2:s<=1099511627776):∀(k:Nat) (P R:List T),R.length<=k->(P++R).length=N->(∀t,t∈P++R->t.inner<=1099511627776)->Blk s R->
 ∃(g e:List T) (a:Nat),e.length<2*s/\a=P.length+g.length/\a+e.length=N/\(g++e).Perm R/\Blk s e/\(∀Q,Blk (2*s) Q->Blk (2*s) (g++Q))/\
  bV XV [] 1 [0,1,2,6,7,8] sJ ⟨[(0,.tsl true 0 3 N),(1,aa N),(2,.fn 6 []),(6,aa s),(7,aa P.length),(8,aa (P.length+2*s:Nat))],[some (kc (P++R))]⟩=
   some (.exit 4,⟨[(0,.tsl true 0 3 N),(1,aa N),(2,.fn 6 []),(6,aa s),(7,aa a),(8,aa (a+2*s:Nat)),(35,ar false)],[some (kc (P++g++e))]⟩):=by
 have head:∀(x y:Int) (c:List AV),aE 1 [0,1,2,6,7,8] ⟨[(0,.tsl true 0 3 N),(1,aa N),(2,.fn 6 []),(6,aa s),(7,aa x),(8,aa y)],[some c]⟩=some ⟨[(0,.tsl true 0 3 N),(1,aa N),(2,.fn 6 []),(6,aa s),(7,aa x),(8,aa y)],[some c]⟩:=fun x y c=>by
  simp[aE,aD,eq,fY,fJ]
 have stop:∀(P R:List T),(P++R).length=N->R.length<2*s->bV XV [] 1 [0,1,2,6,7,8] sJ ⟨[(0,.tsl true 0 3 N),(1,aa N),(2,.fn 6 []),(6,aa s),(7,aa P.length),(8,aa (P.length+2*s:Nat))],[some (kc (P++R))]⟩=
  some (.exit 4,⟨[(0,.tsl true 0 3 N),(1,aa N),(2,.fn 6 []),(6,aa s),(7,aa P.length),(8,aa (P.length+2*s:Nat)),(35,ar false)],[some (kc (P++R))]⟩):=fun P R h1 I=>by
  refine d7 (head _ _ _) ?_ (by simp);have C:¬(((P.length+2*s:Nat):Int)<=(N:Int)):=by simp at h1;omega
  generalize ((P.length+2*s:Nat):Int)=v at*
  generalize (N:Int)=w at*
  simp[sJ,C]
 intro k
 induction k with
 |zero=>
  intro P R H j i m;exact⟨[],R,P.length,by omega,by simp,by simpa using j,by simp,m,fun Q h=>by simpa using h,by simpa using stop P R j (by omega)⟩
 |succ k O=>
  intro P R H j i m
  by_cases G:R.length<2*s
  ·exact⟨[],R,P.length,G,by simp,by simpa using j,by simp,m,fun Q h=>by simpa using h,by simpa using stop P R j G⟩
  ·obtain⟨d,b,D,rfl,l1,l2,b1,b2,b3⟩:∃d b D,R=d++(b++D)/\d.length=s/\b.length=s/\bW d/\bW b/\Blk s D:=by
    cases m with
    |last _ h1 _=>omega
    |cons c r h1 I Z=>
     cases Z with
     |last _ J _=>simp at G;omega
     |cons c' r' J Y X=>exact⟨c,c',r',rfl,h1,J,I,Y,X⟩
   have S:P.length+d.length+b.length+D.length=N:=by simp at j;omega
   have K:P++(d++(b++D))=P++d++b++D:=by simp
   obtain⟨W,p,w2,z⟩:=GA (d.length+b.length) P d b D P.length (P.length+s) (P.length+2*s) N (aU _) (by omega) (by omega) rfl (by omega) (by omega) (by simp;omega) hn (fun t l=>i t (by rw[K];exact l)) b1 b2;have o:W.length=2*s:=by rw[p.length_eq];simp;omega
   have F:(P++W).length=P.length+2*s:=by simp;omega
   obtain⟨g,e,a,r1,V,r3,r4,r5,r6,M⟩:=O (P++W) D (by simp at H;omega) (by simp;omega) (fun t l=>i t (by
    simp only[bl]at l⊢
    rcases l with(h|h)|h
    ·simp[h]
    ·have:=p.mem_iff.1 h
     simp only[bl]at this;rcases this with h|h<;>simp[h]
    ·simp[h])) b3
   refine⟨W++g,e,a,r1,by simp at V⊢;omega,r3,?_,r5,fun Q hQ=>by rw[b7];exact .cons W _ o w2 (r6 Q hQ),?_⟩
   ·rw[b7]
    refine(p.append r4).trans ?_;simp
   ·have e1:P++(W++g)++e=P++W++g++e:=by simp
    rw[e1,<-M,F,K];refine eF (head _ _ _) ?_;have hle:(((P.length+2*s:Nat):Int)<=(N:Int)):=by omega
    have hw:IntKind.i64.wrap (((P.length+2*s:Nat):Int)+((2*s:Nat):Int))=((P.length+2*s+2*s:Nat):Int):=by rw[wrap_i64 (by omega) (by omega)];omega
    have q:IntKind.i64.wrap (2*(s:Int))=((2*s:Nat):Int):=by rw[wrap_i64 (by omega) (by omega)];omega
    have n:IntKind.i64.wrap ((P.length:Int)+s)=((P.length+s:Nat):Int):=by rw[wrap_i64 (by omega) (by omega)];omega
    generalize kc (P++d++b++D)=c1 at z⊢
    generalize kc (P++W++D)=c2 at z⊢
    generalize ((P.length+2*s+2*s:Nat):Int)=gv2 at*
    generalize ((P.length+2*s:Nat):Int)=v at*
    generalize ((P.length+s:Nat):Int)=gv3 at*
    generalize ((2*s:Nat):Int)=gv4 at*
    generalize (P.length:Int)=u at*
    generalize (s:Int)=gs at*
    generalize x1:(N:Int)=w at*
    simp[sJ,hle,hw,q,n,z]
theorem SQ(N:Nat)(hn:N<=1099511627776):∀(k s:Nat) (l:List T),N-s<=k->0<s->s<=2199023255552->l.length=N->(∀t,t∈l->t.inner<=1099511627776)->Blk s l->
 ∃(e:List T) (s':Nat),e.Perm l/\bW e/\
  bV XV [] 1 [0,1,2,6] lG ⟨[(0,.tsl true 0 3 N),(1,aa N),(2,.fn 6 []),(6,aa s)],[some (kc l)]⟩=
   some (.exit 2,⟨[(0,.tsl true 0 3 N),(1,aa N),(2,.fn 6 []),(6,aa s'),(30,ar false)],[some (kc e)]⟩):=by
 have head:∀(x:Int) (c:List AV),aE 1 [0,1,2,6] ⟨[(0,.tsl true 0 3 N),(1,aa N),(2,.fn 6 []),(6,aa x)],[some c]⟩=some ⟨[(0,.tsl true 0 3 N),(1,aa N),(2,.fn 6 []),(6,aa x)],[some c]⟩:=fun x c=>by
  simp[aE,aD,eq,fY,fJ]
 have stop:∀(s:Nat) (l:List T),0<s->N<=s->l.length=N->Blk s l->∃(e:List T) (s':Nat),e.Perm l/\bW e/\
  bV XV [] 1 [0,1,2,6] lG ⟨[(0,.tsl true 0 3 N),(1,aa N),(2,.fn 6 []),(6,aa s)],[some (kc l)]⟩=
   some (.exit 2,⟨[(0,.tsl true 0 3 N),(1,aa N),(2,.fn 6 []),(6,aa s'),(30,ar false)],[some (kc e)]⟩):=fun s l hs h1 P H=>by
  refine⟨l,s,iU _,H.srt (by omega) hs,?_⟩;refine d7 (head _ _) ?_ (by simp);have g:¬((s:Int)<(N:Int)):=by omega
  generalize (s:Int)=v at*
  generalize (N:Int)=w at*
  simp[lG,g]
 intro k
 induction k with
 |zero=>intro s l Z hs O F n z;exact stop s l hs (by omega) F z
 |succ k Y=>
  intro s l Z hs O F n z
  by_cases G:N<=s
  ·exact stop s l hs G F z
  obtain⟨b,j,a,r1,R,r3,V,S,r6,y⟩:=ZN N s hn hs (by omega) l.length [] l (aU _) (by simpa using F) (by simpa using n) z;simp only[dj,h_,eQ]at R y;have m:∀t,t∈b++j->t.inner<=1099511627776:=fun t o=>n t (V.mem_iff.1 o)
  obtain⟨W,q,K,M⟩:∃W:List T,W.Perm j/\bW W/\((((a+s:Nat):Int)<(N:Int)/\al XV 173 [.tsl true 0 3 N,aa a,aa (a+s:Nat),aa N,.fn 6 []] [some (kc (b++j))]=some (.d (.tup []),[some (kc (b++W))]))\/(¬((a+s:Nat):Int)<(N:Int)/\W=j)):=by
   by_cases h:a+s<N
   ·obtain⟨C,D,rfl,l1,b1,b2⟩:∃C D,j=C++D/\C.length=s/\bW C/\Blk s D:=by
     cases S with
     |last _ h1 _=>omega
     |cons c r h1 P H=>exact⟨c,r,rfl,h1,P,H⟩
    have Q:a+(s+D.length)=N:=by simp at r3;omega
    obtain⟨W,q,K,M⟩:=GA (C.length+D.length) b C D [] a (a+s) N N (aU _) (by omega) (by omega) R (by omega) (by omega) (by simp;omega) hn (fun t o=>m t (by simpa using o)) b1 (b2.srt (by omega) hs);refine⟨W,q,K,.inl ⟨by omega,?_⟩⟩;have e1:b++(C++D)=b++C++D++[]:=by simp
    have e2:b++W=b++W++[]:=by simp
    rw[e1,e2];exact M
   ·exact⟨j,iU _,S.srt (by omega) hs,.inr ⟨by omega,rfl⟩⟩
  have X:W.length=j.length:=q.length_eq;have J:Blk (2*s) (b++W):=r6 W (.last W (by omega) K);obtain⟨e,s',p1,p2,p3⟩:=Y (2*s) (b++W) (by omega) (by omega) (by omega) (by simp;omega) (fun t o=>m t (by
   rcases bl.1 o with h|h
   ·simp[h]
   ·simp[q.mem_iff.1 h])) J
  refine⟨e,s',p1.trans ((iU b).append q|>.trans V),p2,?_⟩;rw[<-p3];refine eF (head _ _) ?_;have g:((s:Int)<(N:Int)):=by omega
  have u:IntKind.i64.wrap (2*(s:Int))=((2*s:Nat):Int):=by rw[wrap_i64 (by omega) (by omega)];omega
  have i:IntKind.i64.wrap ((s:Int)*2)=((2*s:Nat):Int):=by rw[wrap_i64 (by omega) (by omega)];omega
  have p:IntKind.i64.wrap ((a:Int)+s)=((a+s:Nat):Int):=by rw[wrap_i64 (by omega) (by omega)];omega
  simp only[pA]at y;rcases M with⟨g1,g2⟩|⟨g1,rfl⟩
  ·generalize kc (b++W)=c3 at*
   generalize kc (b++j)=c2 at*
   generalize kc l=c1 at*
   generalize ((a+2*s:Nat):Int)=gv1 at*
   generalize ((a+s:Nat):Int)=gv3 at*
   generalize ((2*s:Nat):Int)=gv4 at*
   generalize (a:Int)=ga at*
   generalize (s:Int)=gs at*
   generalize I:(N:Int)=w at*
   simp[lG,g,u];rw[y];simp[i,p,g1,g2]
  ·generalize kc (b++W)=c2 at*
   generalize kc l=c1 at*
   generalize ((a+2*s:Nat):Int)=gv1 at*
   generalize ((a+s:Nat):Int)=gv3 at*
   generalize ((2*s:Nat):Int)=gv4 at*
   generalize (a:Int)=ga at*
   generalize (s:Int)=gs at*
   generalize I:(N:Int)=w at*
   simp[lG,g,u];rw[y];simp[i,p,g1]
theorem TJ(l:List T)(hn:l.length<=1099511627776)(i:∀t,t∈l->t.inner<=1099511627776):
 ∃e:List T,e.Perm l/\bW e/\al XV 171 [.tsl true 0 3 l.length,aa l.length,.fn 6 []] [some (kc l)]=some (.d (.tup []),[some (kc e)]):=by
 obtain⟨c,j,a,z,n,C,p,u,k⟩:=Z6 l.length hn l.length [] l (aU _) (by simp) (by simpa using i);simp only[dj,h_,eQ]at n k;have b:∀t,t∈c++j->t.inner<=1099511627776:=fun t g=>i t (p.mem_iff.1 g)
 obtain⟨W,m,s,o⟩:=LM c j [] a l.length l.length n (by omega) (by simp;omega) hn (fun t g=>b t (by simpa using g));simp only[dq]at o;have r:W.length=j.length:=m.length_eq;have q:Blk 20 (c++W):=u W (.last W (by omega) s);obtain⟨e,s',x,p2,p3⟩:=SQ l.length hn l.length 20 (c++W) (by omega) (by omega) (by omega) (by simp;omega) (fun t g=>b t (by
  rcases bl.1 g with h|h
  ·simp[h]
  ·simp[m.mem_iff.1 h])) q
 refine⟨e,x.trans ((iU c).append m|>.trans p),p2,?_⟩;rw[aJ 171 nD rfl];simp only[pA,show((20:Nat):Int)=20 from rfl]at k p3;generalize kc (c++W)=c3 at*
 generalize kc (c++j)=c2 at*
 generalize kc l=c1 at*
 generalize kc e=c4 at*
 generalize ((a+20:Nat):Int)=gv1 at*
 generalize (a:Int)=ga at*
 generalize y:(l.length:Int)=w at*
 simp[nD];rw[k];simp[Dr,o];rw[p3];simp
theorem Sf(l:List T)(hn:l.length<=1099511627776)(b:∀t,t∈l->t.inner<=1099511627776):
 ∃a:List T,a.Perm l/\bW a/\al XV 170 [.tsl true 0 3 l.length,.fn 6 []] [some (kc l)]=some (.d (.tup []),[some (kc a)]):=by
 obtain⟨a,h1,c,e⟩:=TJ l hn b;refine⟨a,h1,c,?_⟩;rw[aJ 170 oE rfl];generalize kc a=c2 at*
 generalize kc l=c1 at*
 simp[oE,e]
mutual
theorem Zd:∀t:T,(t.enc U).allU=true
 | .node f v ks=>by
  have:=EJ ks;unfold T.enc;cases ks with
  |nil=>simp[T.encs,DV.allU,DV.allUs]
  |cons a r=>simp only[T.encs]at this⊢;simp[DV.allU,DV.allUs]at this⊢;exact this
theorem EJ:∀l:List T,DV.allUs (T.encs U l)=true
 | []=>by simp[T.encs,DV.allUs]
 |t::r=>by simp[T.encs,DV.allUs,Zd t,EJ r]
end
theorem Xe:∀l:List T,DV.allUs (l.map (T.enc U))=true:=fun l=>by rw[<-T.qer];exact EJ l
def nB(f v:Int)(ks:List T):ah:=[some [aa f,aa v,.d (aj .sub ks)],some [aa 0,aa 0,.d (.sl U [])]]
theorem Mr(s:List SymL)(hs:s.length<=1099511627776)(f v:Int)(ks acc:List T)(l:ks.length<=1099511627776)(i:Nat)(hi:i<ks.length)(j:acc.length<=1099511627776)(m:((ae ks i).norm s).kids.length<=1099511627776)
 (hc:al XV 169 [.d (sg s),.d ((ae ks i).enc .sub)] []=some (.d (((ae ks i).norm s).enc U),[])):
 ∃e:ah,aH XV (XV.lin 169) km ⟨[(0,.d (sg s)),(3,.ptr 0 0),(4,.ptr 1 0),(5,.d (.sl U (acc.map (T.enc U)))),(10,.d (aj .sub ks)),(11,aa ks.length),(12,aa i)],nB f v ks⟩=
  some (.normal,⟨[(0,.d (sg s)),(3,.ptr 0 0),(4,.ptr 1 0),(5,.d (.sl U ((acc++dk s f ((ae ks i).norm s)).map (T.enc U)))),(10,.d (aj .sub ks)),(11,aa ks.length),(12,aa (i+1:Nat))],nB f v ks++e⟩):=by
 have hw:=bH (n:=i) (by omega);have hb:=pF s hs f;have b:=bc hi;generalize ae ks i=k at*
 generalize hn:k.norm s=n at*
 unfold dk nB
 by_cases h1:bA s f=true
 ·by_cases h:(n.f==f)=true
  ·have ha:=rC acc n.kids U (by omega)
   generalize a:(acc++n.kids).map (T.enc U)=l2 at ha;generalize acc.map (T.enc U)=l1 at ha⊢
   refine⟨[some [aa n.f,aa n.v,.d (aj .sub n.kids)]],?_⟩;simp[km,hi,hw,cut,b,hc,hb,h1,h,ha,a,splice,aX,bg,bm,a_,aG,AV.qax]
  ·have ha:=rC acc [n] U (by simp;omega)
   have c:(n.f==f)=false:=by simpa using h
   simp only[bo,cv]at ha;generalize a:(acc++[n]).map (T.enc U)=l2 at ha;generalize acc.map (T.enc U)=l1 at ha⊢
   refine⟨[some [aa n.f,aa n.v,.d (aj .sub n.kids)]],?_⟩;simp[km,hi,hw,cut,b,hc,hb,h1,c,ha,a,splice,aX,bg,bm,a_,aG,AV.qax]
 ·have g:bA s f=false:=by simpa using h1
  have ha:=rC acc [n] U (by simp;omega);simp only[bo,cv]at ha;generalize a:(acc++[n]).map (T.enc U)=l2 at ha;generalize acc.map (T.enc U)=l1 at ha⊢
  refine⟨[some [aa n.f,aa n.v,.d (aj .sub n.kids)]],?_⟩;simp[km,hi,hw,cut,b,hc,hb,g,ha,a,splice,aX,bg,bm,a_,aG,AV.qax]
theorem Q2(B:ah):al XV 172 [.d (.sl .sub []),aa 0,aa 0,.fn 6 []] B=some (.d (.tup []),B):=by
 rw[aJ 172 kM rfl];have a:bV XV [46,50] B.length [0,1,2,3,8] kF ⟨[(0,.d (.sl .sub [])),(1,aa 0),(2,aa 0),(3,.fn 6 []),(8,aa 1)],B⟩=some (.exit 0,⟨[(0,.d (.sl .sub [])),(1,aa 0),(2,aa 0),(3,.fn 6 []),(8,aa 1),(14,ar false)],B⟩):=by
  refine d7 (s0:=⟨[(0,.d (.sl .sub [])),(1,aa 0),(2,aa 0),(3,.fn 6 []),(8,aa 1)],B⟩) (by simp[aE,aD,fY,fJ]) ?_ (by simp);simp[kF]
 simp[kM,wrap_i64];rw[a];simp
theorem qGH(B:ah):al XV 170 [.d (.sl .sub []),.fn 6 []] B=some (.d (.tup []),B):=by
 have hi:=Q2 B;have h1:bV XV [] B.length [0,1,2,6,7,8] mH ⟨[(0,.d (.sl .sub [])),(1,aa 0),(2,.fn 6 []),(6,aa 20),(7,aa 0),(8,aa 20)],B⟩=some (.exit 0,⟨[(0,.d (.sl .sub [])),(1,aa 0),(2,.fn 6 []),(6,aa 20),(7,aa 0),(8,aa 20),(13,ar false)],B⟩):=by
  refine d7 (s0:=⟨[(0,.d (.sl .sub [])),(1,aa 0),(2,.fn 6 []),(6,aa 20),(7,aa 0),(8,aa 20)],B⟩) (by simp[aE,aD,fY,fJ]) ?_ (by simp);simp[mH]
 have a:bV XV [] B.length [0,1,2,6] lG ⟨[(0,.d (.sl .sub [])),(1,aa 0),(2,.fn 6 []),(6,aa 20)],B⟩=some (.exit 2,⟨[(0,.d (.sl .sub [])),(1,aa 0),(2,.fn 6 []),(6,aa 20),(30,ar false)],B⟩):=by
  refine d7 (s0:=⟨[(0,.d (.sl .sub [])),(1,aa 0),(2,.fn 6 []),(6,aa 20)],B⟩) (by simp[aE,aD,fY,fJ]) ?_ (by simp);simp[lG]
 have b:al XV 171 [.d (.sl .sub []),aa 0,.fn 6 []] B=some (.d (.tup []),B):=by
  rw[aJ 171 nD rfl];simp[nD];rw[h1];simp[Dr,hi];rw[a];simp
 rw[aJ 170 oE rfl];simp[oE,b]
theorem R9(s:List SymL)(hs:s.length<=1099511627776)(f v:Int)(ks:List T)(j:bh ks<=1099511627776)
 (hc:∀t,t∈ks->al XV 169 [.d (sg s),.d (t.enc .sub)] []=some (.d ((t.norm s).enc U),[])):∀(k i:Nat),i+k=ks.length->∀e:ah,
 bV XV (XV.lin 169) 2 [0,3,4,5,10,11,12] km ⟨[(0,.d (sg s)),(3,.ptr 0 0),(4,.ptr 1 0),(5,.d (.sl U ((gu s f ks i).map (T.enc U)))),(10,.d (aj .sub ks)),(11,aa ks.length),(12,aa i)],nB f v ks++e⟩=
  some (.exit 0,⟨[(0,.d (sg s)),(3,.ptr 0 0),(4,.ptr 1 0),(5,.d (.sl U ((flatK s f (T.norms s ks)).map (T.enc U)))),(10,.d (aj .sub ks)),(11,aa ks.length),(12,aa ks.length),(13,ar false)],nB f v ks⟩):=by
 have head:∀(x y:AV) (e:ah),y.clr=y->x.safe 2=true->y.safe 2=true->aE 2 [0,3,4,5,10,11,12] ⟨[(0,.d (sg s)),(3,.ptr 0 0),(4,.ptr 1 0),(5,x),(10,.d (aj .sub ks)),(11,aa ks.length),(12,y)],nB f v ks++e⟩=some ⟨[(0,.d (sg s)),(3,.ptr 0 0),(4,.ptr 1 0),(5,x),(10,.d (aj .sub ks)),(11,aa ks.length),(12,y)],nB f v ks⟩:=fun x y e hy hx b=>
  gg (by simp) (by simp[aD,hx,b]) (by simp[nB]) rfl
 intro k
 induction k with
 |zero=>
  intro i hi e;have:i=ks.length:=by omega
  subst this;refine d7 (head _ _ e (by simp) (by simp) (by simp)) ?_ (by simp);rw[GT];simp[km]
 |succ k c=>
  intro i hi e;have a:i<ks.length:=by omega
  have hm:=bS a;have h1:=iY hm;have l:=lq s (ae ks i);have n:=I5 s f ks i;have m:=jv (gu s f ks i);have g:((ae ks i).norm s).kids.length<=1099511627776:=by have:=jv ((ae ks i).norm s).kids;rw[Bt]at this;omega
  obtain⟨h,he⟩:=Mr s hs f v ks (gu s f ks i) (by have:=jv ks;omega) i a (by omega) g (hc _ hm);rw[<-c (i+1) (by omega) h,GH s f ks i a];exact eF (head _ _ e (by simp) (by simp) (by simp)) he
theorem T4(s:List SymL)(hs:s.length<=1099511627776)(f v:Int)(ks:List T)(b:bh ks<=1099511627776)
 (hc:∀t,t∈ks->al XV 169 [.d (sg s),.d (t.enc .sub)] []=some (.d ((t.norm s).enc U),[])):
 aH XV (XV.lin 169) eS.pre ⟨aV 0 [.d (sg s),.d ((T.node f v ks).enc .sub)],[]⟩=
  some (.normal,⟨[(3,.ptr 0 0),(4,.ptr 1 0),(5,.d (.sl U ((flatK s f (T.norms s ks)).map (T.enc U)))),(42,ar (bA s f))],nB f v ks⟩):=by
 have a:=R9 s hs f v ks b hc ks.length 0 (by omega) [];have hb:=pF s hs f;simp only[Hw,cv,dq,Se,nB,pA]at a;simp[eS,gX,xv,t_,uO,wh,aX,bg,bm,a_,aG,nB];rw[a];simp[hb,aG]
theorem O0:∀l:List T,((l.map (T.enc U)).flatMap DV.cells).map AV.d=kc l:=fun l=>by rw[yU];rfl
theorem OR(t:T)(r:List T)(n:bh (t::r)<=1099511627776):gI (al XV) eS (t.enc U) (r.map (T.enc U))=some ((dX (t::r)).map (T.enc U)):=by
 have hlen:=jv (t::r);obtain⟨a,j,p2,p3⟩:=Sf (t::r) (by omega) (fun x hx=>by have:=iY hx;omega);have he:=vk j p2;have i:=Xe (t::r);have c:=O0 (t::r);simp only[bo]at i c;unfold gI;rw[ap i,c];have m:(T.enc U t).cells.length=3:=by simp
 have l:(r.map (T.enc U)).length+1=(t::r).length:=by simp
 rw[m,l];have e3:al XV eS.srt [.tsl true 0 3 (t::r).length,.fn eS.cmp []] [some (kc (t::r))]=some (.d (.tup []),[some (kc a)]):=p3;rw[e3];have b:a.length=(t::r).length:=j.length_eq;have h:aM (kc a)=some (flat (a.map (T.enc U))):=by rw[yU];exact MB _
 have g:=LE (a.map (T.enc U)) (VV U a);have k:(flat (a.map (T.enc U))).length=(t::r).length*3:=by
  have:=ft h;have e:=ka a;rw[this,dK]at e;rw[e,b]
 simp only[h,aQ];rw[ap k,<-b];rw[dK]at g;rw[g,he]
theorem Xu{X:XEnv}{T:List Nat}{sf:SFn}{ds:List DV}{S:XS}{x:DV}{xr:List DV}{y:DV×DV}{q:List DV}(hn:ds.length=sf.np)(c:aH X T sf.pre ⟨aV 0 (ds.map .d),[]⟩=some (.normal,S))
 (h1:lk S.r sf.cond=some (ar true)) (b:lk S.r sf.row=some (.d (.sl U (x::xr)))) (e:mZ S=some y) (a:gI (al X) sf x xr=some q):jY X T sf ds=some (.agg [y.1,y.2,.sl U q]):=by
 unfold jY;rw[ak (by simpa using hn),c];simp only[aQ];rw[h1,b];simp only[U];rw[e];simp only[aQ,a,bz]
theorem qtR(s:List SymL)(hs:s.length<=1099511627776)(f v:Int)(ks:List T)(h:bh ks<=1099511627776)
 (hc:∀t,t∈ks->al XV 169 [.d (sg s),.d (t.enc .sub)] []=some (.d ((t.norm s).enc U),[])):
 al XV 169 [.d (sg s),.d ((T.node f v ks).enc .sub)] []=some (.d (((T.node f v ks).norm s).enc U),[]):=by
 have g:=T4 s hs f v ks h hc;have c:bh (flatK s f (T.norms s ks))<=1099511627776:=by
  have:=yN s f (T.norms s ks);have:=xD s ks;omega
 rw[Ss XV 169 _ _ eS rfl ON ZK];simp only[aM,aQ,bz];have a:jY XV (XV.lin 169) eS [sg s,(T.node f v ks).enc .sub]=jY XV (XV.lin 169) eS [sg s,(T.node f v ks).enc .sub]:=rfl
 conv at a=>rhs;unfold jY
 rw[ak (by simp[eS,gX])]at a;simp only[bo,cv]at a;rw[g]at a;simp only[T.norm]
 by_cases hb:bA s f=true
 ·rw[ap hb]
  cases hq:flatK s f (T.norms s ks)with
  |nil=>
   rw[a];have hz:dX ([]:List T)=[]:=rfl;have b:=qGH (nB f v ks);simp only[nB]at b;simp[eS,gX,hb,hq,lk,nB,hz,b,splice,aX,bg,bm,a_,aG];rw[T.qbJ];rfl
  |cons x r=>
   rw[hq]at c;have i:=OR x r c;have:=Xu (X:=XV) (T:=XV.lin 169) (sf:=eS) (ds:=[sg s,(T.node f v ks).enc .sub]) (x:=x.enc U) (xr:=r.map (T.enc U)) (y:=(.int .i64 f,.int .i64 v)) rfl g (by simp[eS,gX,lk,hb]) (by simp[eS,gX,lk,hq]) (by simp[mZ,lk,nB,DV.flat,aX]) i;rw[this];simp only[bz];rw[T.qbJ];rfl
 ·rw[ak hb,a]
  have e:bA s f=false:=by simpa using hb
  simp[eS,gX,e,lk,nB,splice,aX,bg,bm,a_,aG]
theorem ue(s:List SymL)(hs:s.length<=1099511627776)(t:T)(a:t.inner<=1099511627776):al XV 169 [.d (sg s),.d (t.enc .sub)] []=some (.d ((t.norm s).enc U),[]):=by
 match t,a with
 | .node f v ks,a=>
  rw[T.qcf]at a;exact qtR s hs f v ks a fun x hx=>ue s hs x (by have:=iY hx;omega)
termination_by t
decreasing_by
 simp_wf
 have:=gP hx;omega
theorem BX(a c:List T)(g:Tag)(h:(a.length+c.length)*40<=140737488355328):cG 3 40 (.sl U (a.map (T.enc U))) (.sl g (c.map (T.enc U)))=some (.sl U ((a++c).map (T.enc U))):=by
 have h1:(c.map (T.enc U)).all (fun e=>decide (e.cells.length=3/\e.cells.all DV.isCell=true))=true:=by
  simp[aX,bg]
 have b:(a.map (T.enc U)).all (fun e=>decide (e.cells.length=3))=true:=by simp
 unfold cG;simp only;rw[ap h1];cases c with
 |nil=>simp
 |cons x r=>
  simp only[bo,iV,bI,if_false];rw[ap ⟨by simpa using h,trivial,b⟩];simp
theorem OQ(xs:List DV)(m:Nat):fy xs 0 m=(xs.take m).map DV.clr++xs.drop m:=by
 unfold fy;simp[DV.qax]
def putAt(t:T)(l:List T):Nat:=match aO (fun i=>decide (T.cmp t (ae l i)<0)) l.length 0 with
 |some j=>j
 |none=>l.length
theorem m0(q:Nat->Bool):∀(k i:Nat),(∀j,aO q k i=some j->∀m,i<=m->m<j->q m=false)/\(aO q k i=none->∀m,i<=m->m<i+k->q m=false)
 |0,i=>⟨fun j h=>by simp[aO]at h,fun _ m h1 a=>by omega⟩
 |k+1,i=>by
  have b:=m0 q k (i+1);simp only[aO]
  by_cases h:q i=true
  ·simp only[h,if_true]
   exact⟨fun j hj m h1 a=>by simp at hj;omega,fun h=>by simp at h⟩
  ·simp only[h,bI,if_false]
   refine⟨fun j hj m h1 a=> ?_,fun hn m h1 a=> ?_⟩
   ·by_cases e:m=i
    ·subst e;simpa using h
    ·exact b.1 j hj m (by omega) a
   ·by_cases e:m=i
    ·subst e;simpa using h
    ·exact b.2 hn m (by omega) (by omega)
theorem FQ(t:T)(l:List T):putAt t l<=l.length:=by
 unfold putAt;split
 ·rename_i j h;have:=(eT _ _ _ _ h).2.1;omega
 ·omega
theorem TW(t:T)(l:List T):gq t l=l.take (putAt t l)++t::l.drop (putAt t l):=by
 have h:=m0 (fun i=>decide (T.cmp t (ae l i)<0)) l.length 0;refine Kj t l _ (FQ t l) (fun i hi=> ?_) (fun a=> ?_)
 ·unfold putAt at hi
  split at hi
  ·rename_i j hj
   simpa using h.1 j hj i (by omega) hi
  ·rename_i hn
   simpa using h.2 hn i (by omega) (by omega)
 ·unfold putAt at a⊢
  split
  ·rename_i j hj
   simpa using (eT _ _ _ _ hj).2.2
  ·rename_i hn;rw[hn]at a;simp at a
theorem GC(l:List T)(t:T)(P:bh l<=1099511627776)(J:t.inner<=1099511627776)(o p r k:Option (List AV)):al XV 154 [.d (aj U l),.d (t.enc U)] [o,p,r,k]=some (.d (.sl U ((gq t l).map (T.enc U))),[o,p,r,k]):=by
 have hlen:=jv l;have z:=FQ t l;have hb:∀i,i<l.length->al XV 84 [.d (t.enc .sub),.d ((ae l i).enc .sub)] []=some (ar (decide (T.cmp t (ae l i)<0)),[]):=fun i hi=>AZ t (ae l i) J (by have:=iY (bS hi);omega)
 rw[aJ 154 ul rfl];have h:=cg (X:=XV) (T:=XV.lin 154) (L:=5) (live:=[0,3,5]) (b:=oC) (n:=l.length) (st:=fun(_:Unit) i=>⟨[(0,.d (aj U l)),(3,.ptr 4 0),(5,aa i)],[o,p,r,k,some [aa t.f,aa t.v,.d (aj U t.kids)]]⟩) (step:=b_ fun i=>decide (T.cmp t (ae l i)<0))
  (F:=fun _=>(.exit 0,⟨[(0,.d (aj U l)),(3,.ptr 4 0),(5,aa l.length),(19,ar false)],[o,p,r,k,some [aa t.f,aa t.v,.d (aj U t.kids)]]⟩)) (R:=fun(j:Nat)=>(.exit 0,⟨[(0,.d (aj U l)),(3,.ptr 4 0),(5,aa j),(19,ar false)],[o,p,r,k,some [aa t.f,aa t.v,.d (aj U t.kids)]]⟩))
  (fun a=>⟨by simp,by simp[oC,Ef]⟩)
  (fun a i hi=>by
   have hw:=bH (n:=i) (by omega);have hc:=hb i hi;unfold b_
   by_cases w:decide (T.cmp t (ae l i)<0)=true
   ·rw[ap w]
    rw[w]at hc;exact⟨by simp,by simp[oC,Ef,hi,cut,bc hi,hc,aG]⟩
   ·rw[ak w]
    have C:decide (T.cmp t (ae l i)<0)=false:=by simpa using w
    rw[C]at hc;exact⟨⟨[(0,.d (aj U l)),(3,.ptr 4 0),(5,aa (i+1:Nat))],[o,p,r,k,some [aa t.f,aa t.v,.d (aj U t.kids)]]⟩,by simp[oC,Ef,hi,hw,cut,bc hi,hc,aG],by simp[aE,aD]⟩)
  l.length () 0 ⟨[(0,.d (aj U l)),(3,.ptr 4 0),(5,aa 0)],[o,p,r,k,some [aa t.f,aa t.v,.d (aj U t.kids)]]⟩ (by omega) (by simp[aE,aD])
 have H:bV XV (XV.lin 154) 5 [0,3,5] oC ⟨[(0,.d (aj U l)),(3,.ptr 4 0),(5,aa 0)],[o,p,r,k,some [aa t.f,aa t.v,.d (aj U t.kids)]]⟩=
  some (.exit 0,⟨[(0,.d (aj U l)),(3,.ptr 4 0),(5,aa (putAt t l)),(19,ar false)],[o,p,r,k,some [aa t.f,aa t.v,.d (aj U t.kids)]]⟩):=by
  rw[h,ee];unfold putAt;cases w:aO (fun i=>decide (T.cmp t (ae l i)<0)) l.length 0<;>simp
 clear h;rw[TW];generalize putAt t l=m at*
 have I:=BX [] (l.take m) .sub (by simp;omega);have G:=BX (l.take m) [t] U (by simp;omega);have a3:=BX (l.take m++[t]) (l.drop m) .sub (by simp;omega);have x:(l.map (T.enc U)).all (fun e=>decide (e.cells.length=3))=true:=by simp
 have s:fy (l.map (T.enc U)) 0 m=(l.take m).map (T.enc .sub)++(l.drop m).map (T.enc U):=by rw[OQ,<-List.map_take,j1,<-List.map_drop]
 have u:((l.take m).map (T.enc .sub)++(l.drop m).map (T.enc U)).all (fun e=>decide (e.cells.length=3))=true:=by
  have q:∀(l:List T) (g:Tag),(l.map (T.enc g)).all (fun e=>decide (e.cells.length=3))=true:=fun l g=>by simp
  rw[DY,q,q];rfl
 have c:((l.take m).map (T.enc .sub)++(l.drop m).map (T.enc U)).length=l.length:=by simp;omega
 have y:(((l.take m).map (T.enc .sub)++(l.drop m).map (T.enc U)).take l.length).drop m=(l.drop m).map (T.enc U):=by
  rw[eU (by rw[c];exact aU _),List.drop_append_of_le_length (by simp;omega),mY (by simp;omega)];rfl
 have D:(l.map (T.enc U)).take m=(l.take m).map (T.enc U):=List.map_take.symm;simp only[cv,dj,bo,ea,b7,cP]at I G a3⊢
 generalize Q:(l.take m).map (T.enc .sub)++(l.drop m).map (T.enc U)=R at*
 generalize M:(l.take m).map (T.enc U)=L1 at*
 generalize O:(l.drop m).map (T.enc U)=L2 at*
 generalize N:L1++[T.enc U t]=L3 at*
 generalize K:L1++T.enc U t::L2=L4 at*
 simp only[PR]at H;simp[ul,aX,bg,bm,a_];rw[H];simp[IU,If,IH,z,x,u,c,s,y,D,I,G,a3,aG,splice,AV.qax]
def nM(s:List SymL)(t:T):DV:=(t.norm s).enc U
theorem rG(s:List SymL)(f:Int)(h:¬bA s f=true):∀l:List T,flatK s f l=l
 | []=>rfl
 |k::l=>by
  rw[og,rG s f h l];have a:bA s f=false:=by simpa using h
  simp[dk,a]
def jo(s:List SymL)(t:T):List DV:=(t.norm s).kids.map (T.enc U)
theorem pc(s:List SymL)(t:T):nM s t= .agg [.int .i64 t.f,.int .i64 t.v,.sl U (jo s t)]:=by
 unfold nM jo;rw[T.qbJ,Cn,GJ]
theorem Xq(s:List SymL)(t:T):(jo s t).map DV.clr=(t.norm s).kids.map (T.enc .sub):=by unfold jo;exact j1 _ _
theorem Gu(s:List SymL)(t:T):(nM s t).cells=[.int .i64 t.f,.int .i64 t.v,.sl U (jo s t)]:=by rw[pc];rfl
theorem RQ(s:List SymL)(a:List T)(t:T)(h:a.length<=1099511627776):cG 3 40 (.sl U (a.map (nM s))) (.sl U [nM s t])=some (.sl U (a.map (nM s)++[nM s t])):=by
 unfold cG;simp only;rw[ap (by simp[Gu,aX,bg])];simp only[iV,bI,if_false];rw[ap ⟨by simp;omega,trivial,by simp[Gu]⟩]
def rowAt(s:List SymL)(f:Int)(ks:List T)(i:Nat):List DV:=if bA s f=true then(dX (gu s f ks i)).map (T.enc U)else(ks.take i).map (nM s)
theorem rowAt_zero(s:List SymL)(f:Int)(ks:List T):rowAt s f ks 0=[]:=by unfold rowAt;rw[Hw];split<;>rfl
theorem norms_map(s:List SymL):∀l:List T,T.norms s l=l.map (T.norm s)
 | []=>by simp[T.norms]
 |t::r=>by simp[T.norms,norms_map s r]
theorem rowAt_all(s:List SymL)(f v:Int)(ks:List T):DV.agg [.int .i64 f,.int .i64 v,.sl U (rowAt s f ks ks.length)]=nM s (.node f v ks):=by
 rw[pc];unfold rowAt jo;rw[GT,fR];simp only[T.qaP,T.qb7,T.norm]
 by_cases hb:bA s f=true
 ·simp only[hb,if_true,T.qaC]
 ·simp only[hb,bI,if_false,T.qaC]
  rw[rG s f hb,norms_map,eN];rfl
def fj(f v:Int)(ks:List T)(R:List DV):ah:=[some [aa f,aa v,.d (aj .sub ks)],some [aa 0,aa 0,.d (.sl U [])],some [aa f,aa v,.d (.sl U R)]]
def eH(l:List T)(j:Nat):List DV:=(l.take j).map (T.enc .sub)++(l.drop j).map (T.enc U)
theorem MC(l:List T)(j:Nat)(h:j<=l.length):(eH l j).length=l.length:=by unfold eH;simp;omega
theorem qGQ(l:List T)(j:Nat):(eH l j).map DV.clr=l.map (T.enc .sub):=by
 unfold eH;rw[ea,j1,j1,<-List.map_append,du]
theorem qMg(l:List T)(j:Nat)(h:j<l.length):(eH l j)[j]?=some ((ae l j).enc U):=by
 unfold eH;rw[cj (by simp;omega),cW h,bc h];simp[tK (xA h)]
theorem Wc(l:List T)(j:Nat)(h:j<l.length):(eH l j).set j ((ae l j).enc .sub)=eH l (j+1):=by
 unfold eH;have hm:((l.take j).map (T.enc .sub)).length=j:=by simp;omega
 rw[mJ _ _ (by rw[hm];exact aU _),hm,mq,cW h,bc h,bo,kq,sa l j h,ea,b7,bo,cv];rfl
theorem LV(l:List T):eH l l.length=l.map (T.enc .sub):=by unfold eH;simp
theorem P1(l:List T):eH l 0=l.map (T.enc U):=by unfold eH;simp
theorem Tm(TT:List Nat)(d4:Nat)(s:XS)(b off:Nat)(cs:List AV)(g gt:Tag)(xs:List DV)(k:Nat)(t:T):sK TT d4 3 s b off cs g xs k (some (t.enc gt))=some (aS TT ⟨s.r,s.B.set b (some (cs.set off (.d (.sl g (xs.set k (t.enc .sub))))))⟩ (some d4) (.d (t.enc gt))):=by
 rw[<-T.qfr gt t,T.qbJ];rfl
theorem X0(s:List SymL)(hs:s.length<=1099511627776)(f v b c:Int)(ks l:List T)(i:Nat)(u:l.length<=1099511627776):∀(k j:Nat),j+k=l.length->∀acc:List T,bh acc+bh (l.drop j)<=1099511627776->∀e:ah,
 bV XV (XV.lin 153) 4 [0,3,4,5,6,7,8] tq ⟨[(0,.d (sg s)),(3,.ptr 0 0),(4,.ptr 1 0),(5,.ptr 2 0),(6,aa i),(7,.ptr 3 0),(8,aa j)],fj f v ks (acc.map (T.enc U))++[some [aa b,aa c,.d (.sl U (eH l j))]]++e⟩=
  some (.exit 3,⟨[(0,.d (sg s)),(3,.ptr 0 0),(4,.ptr 1 0),(5,.ptr 2 0),(6,aa i),(7,.ptr 3 0),(8,aa l.length),(32,ar false)],fj f v ks ((fP acc (l.drop j)).map (T.enc U))++[some [aa b,aa c,.d (.sl U (l.map (T.enc .sub)))]]⟩):=by
 have head:∀(x:Int) (A e:ah),A.length=4->aE 4 [0,3,4,5,6,7,8] ⟨[(0,.d (sg s)),(3,.ptr 0 0),(4,.ptr 1 0),(5,.ptr 2 0),(6,aa i),(7,.ptr 3 0),(8,aa x)],A++e⟩=some ⟨[(0,.d (sg s)),(3,.ptr 0 0),(4,.ptr 1 0),(5,.ptr 2 0),(6,aa i),(7,.ptr 3 0),(8,aa x)],A⟩:=fun x A e g=>
  gg (by simp) (by simp[aD]) g rfl
 intro k
 induction k with
 |zero=>
  intro j hj acc ha e;have:j=l.length:=by omega
  subst this;refine d7 (head _ _ e (by simp[fj])) ?_ (by simp);rw[C3,LV];simp only[fP];simp[tq,fj,aG]
 |succ k m=>
  intro j hj acc ha e;have a:j<l.length:=by omega
  have hd:l.drop j=ae l j::l.drop (j+1):=by rw[cW a,bc a]
  have hw:=bH (n:=j) (by omega);have o:=MC l j (by omega);have r:=qGQ l j;have q:∀h:j<(eH l j).length,(eH l j)[j]'h=(ae l j).enc U:=fun h=>(aK.1 (qMg l j a)).2
  have t:=Wc l j a;rw[hd,dN]at ha;have p:=GC acc (ae l j) (by omega) (by omega);rw[hd];simp only[fP];rw[<-m (j+1) (by omega) (gq (ae l j) acc) (by rw[tn (sP _ _),dN];omega) []];refine eF (head _ _ e (by simp[fj])) ?_;generalize eH l (j+1)=R1 at*
  generalize eH l j=R0 at*
  simp[tq,Pe,fj,a,hw,bc a,p,o,r,q,t,Tm,cS,VX.linT,splice,bg,bm,a_,aG]
theorem P7(s:List SymL)(hs:s.length<=1099511627776)(f v:Int)(ks:List T)(G:bh ks<=1099511627776)(i:Nat)(hi:i<ks.length)
 (hc:al XV 153 [.d (sg s),.d ((ae ks i).enc .sub)] []=some (.d (nM s (ae ks i)),[])):
 ∃e:ah,aH XV (XV.lin 153) l7 ⟨[(0,.d (sg s)),(3,.ptr 0 0),(4,.ptr 1 0),(5,.ptr 2 0),(6,aa i)],fj f v ks (rowAt s f ks i)⟩=
  some (.normal,⟨[(0,.d (sg s)),(3,.ptr 0 0),(4,.ptr 1 0),(5,.ptr 2 0),(6,aa (i+1:Nat))],fj f v ks (rowAt s f ks (i+1))++e⟩):=by
 have hlen:=jv ks;have hw:=bH (n:=i) (by omega);have hb:=Ut s hs f;have q:=bc hi;have hm:=iY (bS hi);have C:=lq s (ae ks i);have o:=GH s f ks i hi;have h:=I5 s f ks (i+1);have u:=sa ks i hi;have r:=Xq s (ae ks i);have g:=Cn s (ae ks i);have w:=GJ s (ae ks i);have b:=RQ s (ks.take i) (ae ks i) (by simp;omega);rw[o,BJ]at h;unfold rowAt;rw[o,u];rw[pc]at hc b;generalize H:ae ks i=k at*
 generalize I:gu s f ks i=acc at*
 have m:jo s k=(k.norm s).kids.map (T.enc U):=rfl;generalize D:jo s k=X at*
 by_cases h1:bA s f=true
 ·simp only[h1,if_true]
  by_cases p:(k.f==f)=true
  ·have x:dk s f (k.norm s)=(k.norm s).kids:=by unfold dk;rw[g,h1,p];rfl
   rw[x]at h⊢
   have a:=X0 s hs f v k.f k.v ks (k.norm s).kids i (by have:=jv (k.norm s).kids;rw[Bt]at this;omega) (k.norm s).kids.length 0 (by omega) (dX acc) (by rw[tn (jX acc),fE];omega) [];rw[fE,P1,show fP (dX acc) (k.norm s).kids=dX (acc++(k.norm s).kids)from by unfold dX;rw[EG]]at a;refine⟨[some [aa k.f,aa k.v,.d (.sl U ((k.norm s).kids.map (T.enc .sub)))]],?_⟩;have c:(k.f !=f)=false:=by simpa using p
   rw[<-m]at a;generalize (dX (acc++(k.norm s).kids)).map (T.enc U)=R2 at*
   generalize (dX acc).map (T.enc U)=R1 at*
   generalize (k.norm s).kids=l at*
   simp only[fj,G3,pA,cP,dj,dq]at a⊢
   simp[l7,hi,cut,q,hc,hb,h1,c,r,splice,aX,bg,bm,a_,aG];rw[a];simp[hw]
  ·have t:(k.f==f)=false:=by simpa using p
   have c:(k.f !=f)=true:=by simpa using p
   have x:dk s f (k.norm s)=[k.norm s]:=by unfold dk;rw[g,h1,t];rfl
   rw[x]at h⊢
   rw[show dX (acc++[k.norm s])=gq (k.norm s) (dX acc)from by unfold dX;rw[EG];rfl];have z:=GC (dX acc) (k.norm s) (by rw[tn (jX acc)];omega) (by omega);have y:(k.norm s).enc U= .agg [.int .i64 k.f,.int .i64 k.v,.sl U X]:=by rw[T.qbJ,g,w,m]
   simp only[y]at z;refine⟨[some [aa k.f,aa k.v,.d (aj .sub (k.norm s).kids)]],?_⟩;generalize gq (k.norm s) (dX acc)=R2 at*
   generalize dX acc=R1 at*
   generalize (k.norm s).kids=l at*
   simp[l7,fj,hi,hw,cut,q,hc,hb,h1,c,r,z,cS,VX.linT,splice,aX,bg,bm,a_,aG,AV.qax]
 ·have j:bA s f=false:=by simpa using h1
  simp only[j,bI,if_false];refine⟨[some [aa k.f,aa k.v,.d (aj .sub (k.norm s).kids)]],?_⟩;rw[ea,bo,cv,pc,D];generalize F:(ks.take i).map (nM s)++[.agg [.int .i64 k.f,.int .i64 k.v,.sl U X]]=R2 at*
  generalize (ks.take i).map (nM s)=R1 at*
  generalize (k.norm s).kids=l at*
  simp[l7,fj,hi,hw,cut,q,hc,hb,j,b,r,splice,aX,bg,bm,a_,aG,AV.qax]
theorem Y4(s:List SymL)(hs:s.length<=1099511627776)(f v:Int)(ks:List T)(b:bh ks<=1099511627776)
 (hc:∀t,t∈ks->al XV 153 [.d (sg s),.d (t.enc .sub)] []=some (.d (nM s t),[])):∀(k i:Nat),i+k=ks.length->∀e:ah,
 bV XV (XV.lin 153) 3 [0,3,4,5,6] l7 ⟨[(0,.d (sg s)),(3,.ptr 0 0),(4,.ptr 1 0),(5,.ptr 2 0),(6,aa i)],fj f v ks (rowAt s f ks i)++e⟩=
  some (.exit 0,⟨[(0,.d (sg s)),(3,.ptr 0 0),(4,.ptr 1 0),(5,.ptr 2 0),(6,aa ks.length),(18,ar false)],fj f v ks (rowAt s f ks ks.length)⟩):=by
 have head:∀(x:Int) (A e:ah),A.length=3->aE 3 [0,3,4,5,6] ⟨[(0,.d (sg s)),(3,.ptr 0 0),(4,.ptr 1 0),(5,.ptr 2 0),(6,aa x)],A++e⟩=some ⟨[(0,.d (sg s)),(3,.ptr 0 0),(4,.ptr 1 0),(5,.ptr 2 0),(6,aa x)],A⟩:=fun x A e c=>
  gg (by simp) (by simp[aD]) c rfl
 intro k
 induction k with
 |zero=>
  intro i hi e;have:i=ks.length:=by omega
  subst this;refine d7 (head _ _ e (by simp[fj])) ?_ (by simp);generalize rowAt s f ks ks.length=R;simp[l7,fj,aG]
 |succ k g=>
  intro i hi e;have a:i<ks.length:=by omega
  obtain⟨h,he⟩:=P7 s hs f v ks b i a (hc _ (bS a));rw[<-g (i+1) (by omega) h];exact eF (head _ _ e (by simp[fj])) he
theorem Qu(s:List SymL)(hs:s.length<=1099511627776)(f v:Int)(ks:List T)(b:bh ks<=1099511627776)
 (hc:∀t,t∈ks->al XV 153 [.d (sg s),.d (t.enc .sub)] []=some (.d (nM s t),[])):
 al XV 153 [.d (sg s),.d ((T.node f v ks).enc .sub)] []=some (.d (nM s (.node f v ks)),[]):=by
 rw[aJ 153 vz rfl];have a:=Y4 s hs f v ks b hc ks.length 0 (by omega) [];rw[<-rowAt_all];simp only[rowAt_zero,dq,G3,fj,pA]at a;generalize rowAt s f ks ks.length=R at*
 simp[vz,splice,aX,bg,bm,a_,aG];rw[a];simp[Kh,splice,aX,bg,bm,a_,aG,AV.qax]
theorem AO(s:List SymL)(hs:s.length<=1099511627776)(t:T)(a:t.inner<=1099511627776):al XV 153 [.d (sg s),.d (t.enc .sub)] []=some (.d (nM s t),[]):=by
 match t,a with
 | .node f v ks,a=>
  rw[T.qcf]at a;exact Qu s hs f v ks a fun x hx=>AO s hs x (by have:=iY hx;omega)
termination_by t
decreasing_by
 simp_wf
 have:=gP hx;omega
abbrev ts(l:List Bd):List T:=l.map Bd.t
def dst(n:Int)(neg:Bool)(s:ByteArray):XS:=⟨[(0,aa n),(3,ar neg),(4,.d (.str s))],[]⟩
def IsV(d:DV)(a:T):Prop:=∃(g:Tag) (X:List DV),d= .agg [.int .i64 a.f,.int .i64 a.v,.sl g X]/\X.map DV.clr=a.kids.map (T.enc .sub)
def dp(s:List SymL)(f:Int)(ks:List T):T:=
 if bA s f=true/\ks.length=0 then .node 0 0 []
 else if bA s f=true/\ks.length=1 then(ae ks 0).norm s
 else if dL s f=true then(T.node f 0 ks).norm s else .node f 0 ks
theorem Sp(s:List SymL)(f:Int)(ks:List T):(dp s f ks).inner<=bh ks:=by
 unfold dp;split
 ·simp[T.inner,T.inners]
 ·split
  ·rename_i h
   have h1:=lq s (ae ks 0);have a:=iY (bS (l:=ks) (i:=0) (by omega));omega
  ·split
   ·have:=lq s (T.node f 0 ks);rw[T.qcf]at this;exact this
   ·rw[T.qcf];omega
theorem RL(g:Tag):(T.node 0 0 []).enc g= .agg [.int .i64 0,.int .i64 0,.sl g []]:=by rw[T.qbJ];rfl
theorem LU(s:List SymL)(hs:s.length<=1099511627776)(f:Int)(ks:List T)(l:bh ks<=1099511627776):al XV 192 [.d (sg s),aa f,.d (aj .sub ks)] []=some (.d ((dp s f ks).enc U),[]):=by
 have b:=Eo s hs f;have h:=N_ ks l;have hn:=ue s hs (T.node f 0 ks) (by rw[T.qcf];exact l);rw[aJ 192 kR rfl];unfold dp
 by_cases c1:dL s f=true
 ·obtain⟨g1,g2⟩:=kG c1
  have hsa:=ca g2;have c:bA s f=(aR s f.toNat).ac:=by unfold bA;rw[c1];rfl
  rw[c];cases c2:(aR s f.toNat).ac with
  |false=>
   simp only[bI,false_and,if_false,c1,if_true];generalize (T.node f 0 ks).norm s=a at*
   simp[kR,b,c1,c2,g1,g2,hsa,cut,hn,splice,aX,bg,bm,a_,aG]
  |true=>
   simp only[jP]
   by_cases c3:ks.length=0
   ·rw[ap c3]
    have j:(ks.length:Int)=0:=by omega
    generalize hm:(ks.length:Int)=m at*
    rw[RL];simp[kR,b,c1,c2,g1,g2,hsa,hm,j,cut,splice,aX,bg,bm,a_,aG]
   ·rw[ak c3]
    by_cases c4:ks.length=1
    ·rw[ap c4]
     have k:0<ks.length:=by omega
     have i:=ue s hs (ae ks 0) (by have:=iY (bS k);omega);have n:ks[0]=ae ks 0:=bc k;have g:(ks.length:Int)=1:=by omega
     generalize (ae ks 0).norm s=a at*
     generalize hm:(ks.length:Int)=m at*
     simp[kR,b,c1,c2,g1,g2,hsa,hm,g,k,cut,i,n,splice,aX,bg,bm,a_,aG]
    ·rw[ak c4,ap c1]
     have e3:((ks.length:Int)==0)=false:=xK (by omega);have o:((ks.length:Int)==1)=false:=xK (by omega);generalize (T.node f 0 ks).norm s=a at*
     generalize hm:(ks.length:Int)=m at*
     simp[kR,b,c1,c2,g1,g2,hsa,hm,e3,o,cut,hn,splice,aX,bg,bm,a_,aG]
 ·have c:bA s f=false:=by unfold bA;simp[c1]
  have e:dL s f=false:=by simpa using c1
  simp only[c,bI,false_and,if_false,e];simp only[aj]at*
  rw[T.qbJ];simp[kR,b,e,h,splice,aX,bg,bm,a_,aG]
theorem IsV.clr{d:DV}{a:T}(h:IsV d a):d.clr=a.enc .sub:=by
 obtain⟨g,X,rfl,b⟩:=h;simp only[DV.clr,DV.clrs];rw[DV.qax,b,T.qbJ]
mutual
def c6(u:List Bd):T->T
 | .node f v ks=>if f= -1/\ks.length=0 then ej u v else .node f v (dG u ks)
def dG(u:List Bd):List T->List T
 | []=>[]
 |t::r=>c6 u t::dG u r
end
theorem nV(u:List Bd):∀l:List T,dG u l=l.map (c6 u)
 | []=>by simp[dG]
 |t::r=>by simp[dG,nV u r]
theorem K9(u:List Bd)(n:Int)(M:Nat)(a:∀i,i<u.length->(az u i).t.inner<=M):(ej u n).inner<=M:=by
 unfold ej;split
 ·rename_i i h
  unfold dm at h;exact a i (by have:=(eT _ _ _ _ h).2.1;omega)
 ·simp[T.inner,T.inners]
mutual
theorem J4(u:List Bd)(M:Nat)(a:∀i,i<u.length->(az u i).t.inner<=M):∀t:T,(c6 u t).inner+1<=(t.inner+1)*(M+1)
 | .node f v ks=>by
  have h:=G4 u M a ks;simp only[c6];split
  ·have:=K9 u v M a
   have b:(M+1)<=((T.node f v ks).inner+1)*(M+1):=Nat.le_mul_of_pos_left _ (by omega);omega
  ·rw[T.qcf,T.qcf,c_]
   omega
theorem G4(u:List Bd)(M:Nat)(a:∀i,i<u.length->(az u i).t.inner<=M):∀l:List T,bh (dG u l)<=bh l*(M+1)
 | []=>by simp[dG,bh,T.inners]
 |t::r=>by
  have h1:=J4 u M a t;have b:=G4 u M a r;simp only[dG,dN,c_]at*
  omega
end
theorem VY(u:List Bd)(r:u.length<=1099511627776)(hb:∀i,i<u.length->(az u i).t.inner<=1099511627776)(f v:Int)(ks:List T)(w:ks.length<=1099511627776)
 (hc:∀t,t∈ks->al XV 168 [.d (binds .sub u),.d (t.enc .sub)] []=some (.d ((c6 u t).enc U),[])):
 al XV 168 [.d (binds .sub u),.d ((T.node f v ks).enc .sub)] []=some (.d ((c6 u (.node f v ks)).enc U),[]):=by
 rw[aJ 168 oO rfl];have h:=gH (T.node f v ks)
 by_cases g:f= -1/\ks.length=0
 ·obtain⟨rfl,s⟩:=g
  have m:ks=[]:=kp.1 s;subst m;have q:=Ih u v r hb;simp only[c6,h_,and_self,if_true];generalize ej u v=a at*
  simp[oO,h,q,splice,aX,bg,bm,a_,aG]
 ·have l:((f== -1)&&((ks.length:Int)==0))=false:=by
   rw[Bool.and_eq_false_iff]
   by_cases h1:f= -1
   ·right;exact xK (by omega)
   ·left;exact xK h1
  simp only[c6,ak g];have j:∀i,i<ks.length->cG 3 40 (.sl U ((dG u (ks.take i)).map (T.enc U))) (.sl U [(c6 u (ae ks i)).enc U])=some (.sl U ((dG u (ks.take (i+1))).map (T.enc U))):=fun i hi=>by
   have:=rC (dG u (ks.take i)) [c6 u (ae ks i)] U (by rw[nV];simp;omega);rw[sa ks i hi,nV u (_++_),ea,<-nV];exact this
  have c:=cg (X:=XV) (T:=XV.lin 168) (L:=2) (live:=[0,3,4,5,22,23,24]) (b:=yr) (n:=ks.length) (γ:=Unit) (st:=fun(_:Unit) i=>⟨[(0,.d (binds .sub u)),(3,.ptr 0 0),(4,.ptr 1 0),(5,.d (.sl U ((dG u (ks.take i)).map (T.enc U)))),(22,.d (aj .sub ks)),(23,aa ks.length),(24,aa i)],nB f v ks⟩) (step:=fun _ _=> .inl ())
   (F:=fun _=>(.exit 0,⟨[(0,.d (binds .sub u)),(3,.ptr 0 0),(4,.ptr 1 0),(5,.d (.sl U ((dG u (ks.take ks.length)).map (T.enc U)))),(22,.d (aj .sub ks)),(23,aa ks.length),(24,aa ks.length),(25,ar false)],nB f v ks⟩)) (R:=fun _=>(.ret,⟨[],[]⟩))
   (fun _=>⟨by simp,by simp[yr]⟩)
   (fun _ i hi=>by
    have hw:=bH (n:=i) (by omega);have p:=hc _ (bS hi);have ha:=j i hi;generalize o:(dG u (ks.take (i+1))).map (T.enc U)=l2 at ha;generalize (dG u (ks.take i)).map (T.enc U)=l1 at ha⊢
    generalize c6 u (ae ks i)=a at*
    exact⟨⟨[(0,.d (binds .sub u)),(3,.ptr 0 0),(4,.ptr 1 0),(5,.d (.sl U l2)),(22,.d (aj .sub ks)),(23,aa ks.length),(24,aa (i+1:Nat))],nB f v ks++[some [aa (ae ks i).f,aa (ae ks i).v,.d (aj .sub (ae ks i).kids)]]⟩,by simp[yr,nB,hi,hw,cut,bc hi,p,ha,splice,aX,bg,bm,a_,aG],
     gg (e:=[some [aa (ae ks i).f,aa (ae ks i).v,.d (aj .sub (ae ks i).kids)]]) (by simp[<-o]) (by simp[aD]) (by simp[nB]) rfl⟩)
   ks.length () 0 ⟨[(0,.d (binds .sub u)),(3,.ptr 0 0),(4,.ptr 1 0),(5,.d (.sl U [])),(22,.d (aj .sub ks)),(23,aa ks.length),(24,aa 0)],nB f v ks⟩ (by omega) (gg (e:=[]) (by simp[dG]) (by simp[aD]) (by simp[nB]) (by simp))
  rw[oI,fR]at c;simp only[O5,nB]at c;have k:(T.node f v (dG u ks)).enc U= .agg [.int .i64 f,.int .i64 v,.sl U ((dG u ks).map (T.enc U))]:=by rw[T.qbJ];rfl
  rw[k];generalize (dG u ks).map (T.enc U)=R at*
  simp only[T.qaP]at h;cases hf:(f== -1)with
  |false=>
   rw[hf]at h;simp[oO,h,aX,bg,bm,a_,aG];rw[c];simp[splice,aX,bg,bm,a_,aG]
  |true=>
   rw[hf]at h l;simp only[eP]at l;generalize hn:(ks.length:Int)=n at*
   simp[oO,h,l,hn,aX,bg,bm,a_,aG];rw[c];simp[splice,aX,bg,bm,a_,aG]
theorem FT(u:List Bd)(b:u.length<=1099511627776)(hb:∀i,i<u.length->(az u i).t.inner<=1099511627776)(t:T)(a:t.inner<=1099511627776):al XV 168 [.d (binds .sub u),.d (t.enc .sub)] []=some (.d ((c6 u t).enc U),[]):=by
 match t,a with
 | .node f v ks,a=>
  rw[T.qcf]at a;exact VY u b hb f v ks (by have:=jv ks;omega) fun x hx=>FT u b hb x (by have:=iY hx;omega)
termination_by t
decreasing_by
 simp_wf
 have:=gP hx;omega
def i_(l:List SymL)(u:List Bd)(t:T):T:=(c6 u t).norm l
theorem qsd(l:List SymL)(u:List Bd)(t:T):(i_ l u t).inner<=(c6 u t).inner:=lq l _
theorem XX(l:List SymL)(hs:l.length<=1099511627776)(u:List Bd)(t:T)(e:u.length<=1099511627776)(hb:∀i,i<u.length->(az u i).t.inner<=1099511627776)(b:t.inner<=1099511627776)(g:(c6 u t).inner<=1099511627776):
 al XV 135 [.d (sg l),.d (binds .sub u),.d (t.enc .sub)] []=some (.d ((i_ l u t).enc U),[]):=by
 have h1:=FT u e hb t b;have h:=ue l hs (c6 u t) g;unfold i_;generalize c6 u t=a at*
 generalize a.norm l=c at*
 rw[aJ 135 xU rfl];simp[xU,h1,h,splice,aX,bg,bm,a_,aG]
theorem JZ(a:List Bd)(x:Bd)(h:(a.length+1)*48<=140737488355328):cG 4 48 (.sl U (a.map (Bd.enc U))) (.sl U [x.enc U])=some (.sl U ((a++[x]).map (Bd.enc U))):=by
 unfold cG;simp only;rw[ap (by simp[aX,bg])];simp only[iV,bI,if_false];rw[ap ⟨by simpa using h,trivial,by simp⟩];simp
theorem Lk(a:List Bd)(v:Int)(t:T)(h:(a.length+1)*48<=140737488355328):cG 4 48 (.sl U (a.map (Bd.enc U))) (.sl U [.agg [.int .i64 v,.int .i64 t.f,.int .i64 t.v,aj U t.kids]])=some (.sl U ((a++[(⟨v,t⟩:Bd)]).map (Bd.enc U))):=JZ a ⟨v,t⟩ h
theorem Nt(u:List Bd)(i:Nat)(h:i<u.length):u.take (i+1)=u.take i++[az u i]:=by
 rw[Bz,eh h,bK h];rfl
def jQ(_:Unit)(i:Nat):Unit⊕Nat:= .inl ()
theorem sG:∀(k i:Nat),runN jQ k () i= .inl ()
 |0,i=>rfl
 |k+1,i=>by simp only[runN,jQ];exact sG k (i+1)
theorem TF(u:List Bd)(j:small u):al XV 266 [.d (binds .sub u)] []=some (.d (binds U u),[]):=by
 rw[aJ 266 tI rfl];obtain⟨j,l⟩:=j;have h:=cg (X:=XV) (T:=XV.lin 266) (L:=0) (live:=[3,7,8,9]) (b:=xJ) (n:=u.length) (γ:=Nat) (st:=fun(_:Unit) i=>⟨[(3,.d (.sl U ((u.take i).map (Bd.enc U)))),(7,.d (binds .sub u)),(8,aa u.length),(9,aa i)],[]⟩) (step:=jQ)
  (F:=fun _=>(.exit 0,⟨[(3,.d (.sl U ((u.take u.length).map (Bd.enc U)))),(7,.d (binds .sub u)),(8,aa u.length),(9,aa u.length),(10,ar false)],[]⟩)) (R:=fun _=>(.ret,⟨[],[]⟩))
  (fun a=>⟨by simp,by simp[xJ]⟩)
  (fun a i hi=>by
   have hw:=bH (n:=i) (by omega);have hc:=wi (az u i).t (l i hi);have k:=bK hi;have e:=JZ (u.take i) (az u i) (by simp;omega);have g:=Nt u i hi;rw[<-g]at e;generalize c:(u.take (i+1)).map (Bd.enc U)=R2 at e;generalize (u.take i).map (Bd.enc U)=R1 at*
   generalize az u i=b at*
   unfold jQ;exact⟨_,by simp[xJ,Mj,hi,hw,cut,k,hc,e,splice,aX,bg,bm,a_,aG];rfl,by simp[aE,aD,<-c]⟩)
  u.length () 0 ⟨[(3,.d (.sl U ((u.take 0).map (Bd.enc U)))),(7,.d (binds .sub u)),(8,aa u.length),(9,aa 0)],[]⟩ (by omega) (by simp[aE,aD])
 rw[sG,fR,rI]at h;simp only[Yq,cv]at h;simp[tI];rw[h];simp
theorem YK(u:List Bd)(v:Int)(i:Nat)(hi:i<u.length)(h:i<fe u v):¬(az u i).v>v:=by
 unfold fe at h;have:=GQ h;rw[bK hi]at this;simpa using this
theorem Ta(u:List Bd)(v:Int)(h:fe u v<u.length):(az u (fe u v)).v>v:=by
 unfold fe at h⊢
 have:=List.findIdx_getElem (w:=h);rw[bK h]at this;simpa using this
def nU(t:T)(b:Bool):Bool:=b||decide (12<t.kids.length)
mutual
def fg:T->Bool
 | .node f v ks=>decide (12<ks.length)||mj ks
def mj:List T->Bool
 | []=>false
 |t::ts=>fg t||mj ts
end
mutual
theorem Ky:∀(t:T) (b:Bool),T.fold nU t b=(b||fg t)
 | .node f v ks,b=>by
  simp only[T.fold,fg,JO ks,nU,T.kids];rw[Bool.or_assoc];rfl
theorem JO:∀(ts:List T) (b:Bool),T.folds nU ts b=(b||mj ts)
 | [],b=>by simp[T.folds,mj]
 |t::ts,b=>by
  simp only[T.folds,mj,Ky t,JO ts];rw[Bool.or_assoc]
end
theorem Zc(t:T)(e:t.inner<=1099511627776):al XV 317 [.d (t.enc .sub)] []=some (ar (fg t),[]):=by
 rw[aJ 317 sY rfl];have key:∀(b:Bool),al XV 25 [.d (t.enc .sub),.fn 330 [.ptr 1 0]] ([some [aa t.f,aa t.v,.d (aj .sub t.kids)],some [ar b]]++[])=some (.d (.tup []),[some [aa t.f,aa t.v,.d (aj .sub t.kids)],some [ar (T.fold nU t b)]]++[]):=fun b=>
  yz (fun b:Bool=>[some [aa t.f,aa t.v,.d (aj .sub t.kids)],some [ar b]]) nU 330 [.ptr 1 0] 2 (fun _=>rfl) (fun n hn=>by simp;omega) rfl (by simp) (fun x b r=>by
   rw[aJ 330 ng rfl];obtain⟨g,i,c⟩:=x;unfold nU;cases b
   ·by_cases h1:12<c.length
    ·have a:(12:Int)<c.length:=by omega
     simp[ng,h1,a,splice]
    ·have a:¬(12:Int)<c.length:=by omega
     simp[ng,h1,a,splice]
   ·simp[ng,splice]) t e b []
 have h:=key false;rw[Ky,qp]at h;simp only[dq]at h;obtain⟨f,v,ks⟩:=t;simp only[T.qaP,T.qb7,T.qaC]at h;simp[sY,h,splice]
theorem FE:∀ks:List T,mj ks=ks.any fg
 | []=>rfl
 |t::ts=>by simp only[mj,List.any_cons,FE ts]
theorem y9(q:Nat->Bool)(k i:Nat):(aO q k i).isSome=true↔∃j,i<=j/\j<i+k/\q j=true:=by
 constructor
 ·intro h
  obtain⟨j,hj⟩:=mt.1 h;exact⟨j,eT q k i j hj⟩
 ·induction k generalizing i with
  |zero=>rintro⟨j,h1,c,_⟩;omega
  |succ k b=>
   rintro⟨j,h1,c,a⟩
   simp only[aO];split
   ·rfl
   ·rename_i d
    refine b (i+1) ⟨j,?_,by omega,a⟩;rcases D8 h1 with rfl|h
    ·exact absurd a d
    ·exact h
theorem Yu(m i:Nat)(hi:i<64):cR .shr .i64 (m:Int) (i:Int)=some (.int .i64 ((m/2^i:Nat):Int)):=by
 unfold cR;have a:¬((i:Int)<0):=by omega
 have hb:IntKind.i64.bits=64:=rfl;have hm:min i 64=i:=by omega
 simp only[ak a,xM,hb,hm,aB,DV.int.injEq,jP];rw[FW _ (by exact Int.pow_nonneg (by omega)),Int.natCast_ediv,Int.natCast_pow];rfl
theorem and_one(a:Nat)(ha:a<4611686018427387904):cR .and .i64 (a:Int) 1=some (.int .i64 ((a%2:Nat):Int)):=by
 unfold cR bits;have h1:BitVec.ofInt IntKind.i64.bits (a:Int)=BitVec.ofNat 64 a:=BitVec.ofInt_natCast 64 a;have b:BitVec.ofInt IntKind.i64.bits 1=BitVec.ofNat 64 1:=BitVec.ofInt_natCast 64 1;have c:(BitVec.ofNat 64 a&&&BitVec.ofNat 64 1).toNat=a%2:=by
  rw[BitVec.toNat_and,BitVec.toNat_ofNat,BitVec.toNat_ofNat,y7 (by omega),y7 (by omega),Nat.and_one_is_mod]
 simp only[bz,aB,DV.int.injEq,jP];rw[h1,b];show IntKind.i64.wrap (((BitVec.ofNat 64 a&&&BitVec.ofNat 64 1).toNat:Nat):Int)=_;rw[c,IntKind.wrap_i64];omega
theorem Y3(m i:Nat):((((m/2^i%2:Nat):Int)==1)=m.testBit i):=by
 rw[Nat.testBit_eq_decide_div_mod_eq,wj,eJ,ba];generalize m/2^i%2=r;omega
def bQ(l:List T)(m:Nat):Nat->List T
 |0=>[]
 |i+1=>if m.testBit i then bQ l m i++[ae l i]else bQ l m i
def cq(l:List T)(m:Nat):Nat->List T
 |0=>[]
 |i+1=>if m.testBit i then cq l m i else cq l m i++[ae l i]
theorem HO(l:List T)(m:Nat):∀i,(bQ l m i).length<=i
 |0=>aU _
 |i+1=>by have:=HO l m i;unfold bQ;split<;>simp<;>omega
theorem Gz(l:List T)(m:Nat):∀i,(cq l m i).length<=i
 |0=>aU _
 |i+1=>by have:=Gz l m i;unfold cq;split<;>simp<;>omega
def bZ(p t:T):Gl:=⟨false,0,[p],[t]⟩
def ce(f:Int)(ps ts:List T):Gl:=⟨true,f,ps,ts⟩
def partsOf(f:Int)(t:T):List T:=if t.f=f then t.kids else [t]
def cQ(s:List SymL):Nat->List Gl->List Bd->List (Option (List Bd))
 |0,_,_=>[]
 |n+1,[],u=>[none,some u]
 |n+1,⟨true,f,ps,ts⟩::rest,u=>none::(match ps with
  | []=>if ts.length=0 then cQ s n rest u else []
  |p::ps=>if p.f= -1 then(match dm u p.v with
   |some j=>(match takeN ts (partsOf f (az u j).t)with
    | .inl r=>cQ s n (ce f ps r::rest) u
    | .inr _=>[])
   |none=>(List.range (2^ts.length-1)).flatMap fun m=>cQ s n (ce f ps (cq ts (m+1) ts.length)::rest) (cM u p.v (dp s f (bQ ts (m+1) ts.length))))
   else(List.range ts.length).flatMap fun i=>cQ s n (bZ p (ae ts i)::ce f ps (dM ts i)::rest) u)
 |n+1,⟨false,f,ps,ts⟩::rest,u=>none::(if(ae ps 0).f= -1 then(match dm u (ae ps 0).v with
  |none=>cQ s n rest (cM u (ae ps 0).v (ae ts 0))
  |some j=>if T.cmp (az u j).t (ae ts 0)==0 then cQ s n rest u else [])
  else if(ae ps 0).f≠(ae ts 0).f then []
  else if bA s (ae ps 0).f=true then cQ s n (ce (ae ps 0).f (ae ps 0).kids (ae ts 0).kids::rest) u
  else if(ae ps 0).kids.length≠(ae ts 0).kids.length then []
  else cQ s n ((List.range (ae ps 0).kids.length).map (fun i=>bZ (ae (ae ps 0).kids i) (ae (ae ts 0).kids i))++rest) u)
def jc(g:Gl):Nat:=if g.many then 1+3*bh g.ps else 3*(ae g.ps 0).inner+2
def eY(l:List Gl):Nat:=(l.map jc).sum
structure MS where
 ways:List (List Bd)
 steps:Nat
 over:Bool
def MS.done(S:MS):Bool:=S.over||decide (60<S.ways.length)
def MS.ev(S:MS)(e:Option (List Bd)):MS:=
 if S.done then S else match e with
 |none=>{S with steps:=S.steps+1,over:=decide (20000<S.steps+1)}
 |some u=>if fO S.ways u then S else{S with ways:=S.ways++[u]}
def MS.run(S:MS)(es:List (Option (List Bd))):MS:=es.foldl MS.ev S
theorem MS.qim(S:MS)(h:S.done=true):∀es,S.run es=S
 | []=>rfl
 |e::es=>by
  have:S.ev e=S:=by unfold MS.ev;rw[ap h]
  show MS.run (S.ev e) es=S;rw[this];exact MS.qim S h es
theorem MS.qn4(S:MS)(a b:List (Option (List Bd))):S.run (a++b)=(S.run a).run b:=List.foldl_append
theorem MS.qkm(S:MS)(e:Option (List Bd))(b:List (Option (List Bd))):S.run (e::b)=(S.ev e).run b:=rfl
theorem MS.qLm(S:MS)(e:Option (List Bd))(h:S.ways.length<=61):(S.ev e).ways.length<=61:=by
 unfold MS.ev;split
 ·exact h
 ·rename_i hd
  cases e with
  |none=>exact h
  |some u=>
   simp only;split
   ·exact h
   ·unfold MS.done at hd
    simp only[ci,ba,not_or]at hd;simp;omega
theorem MS.qFg(S:MS):∀(es:List (Option (List Bd))),S.ways.length<=61->(S.run es).ways.length<=61
 | [],h=>h
 |e::es,h=>MS.qFg (S.ev e) es (S.qLm e h)
end Go.Proofs.YtpcoohnjllclnaaGreat.VS
