/- Contracts of the program's functions on the evaluator without names, and plain lemmas: part 3. -/
import Derived.Test.YtpcoohnjllclnaaGreatXP2
set_option linter.unusedSimpArgs false
set_option linter.unusedVariables false
namespace Go.Proofs.YtpcoohnjllclnaaGreat.VS
def bs(P:Nat->Bool):Nat->Nat->Nat->Nat
 |0,i,_=>i
 |k+1,i,j=>if i<j then(if P ((i+j)/2)=true then bs P k ((i+j)/2+1) j else bs P k i ((i+j)/2))else i
theorem xi(P:Nat->Bool):∀(k i j:Nat),i<=j->j-i<=k->i<=bs P k i j/\bs P k i j<=j/\(bs P k i j=i\/P (bs P k i j-1)=true)/\(bs P k i j=j\/P (bs P k i j)=false)
 |0,i,j,h,m=>by have e:bs P 0 i j=i:=rfl;rw[e];exact⟨bI _,h,.inl rfl,.inl (by omega)⟩
 |k+1,i,j,h,m=>by
  simp only[bs]
  by_cases c:i<j
  ·rw[ay c]
   by_cases d:P ((i+j)/2)=true
   ·rw[ay d]
    obtain⟨g,l,a,b⟩:=xi P k ((i+j)/2+1) j (by omega) (by omega);refine⟨by omega,l,?_,b⟩;rcases a with a|a
    ·right;rw[a];simpa using d
    ·exact .inr a
   ·rw[aC d]
    obtain⟨g,l,a,b⟩:=xi P k i ((i+j)/2) (by omega) (by omega);refine⟨g,by omega,a,?_⟩;rcases b with b|b
    ·right;rw[b];simpa using d
    ·exact .inr b
  ·rw[aC c]
   exact⟨bI _,h,.inl rfl,.inl (by omega)⟩
theorem wrap_u64{n:Int}(b:0<=n)(a:n<=18446744073709551615):IntKind.u64.wrap n=n:=by simp[IntKind.wrap,IntKind.bits,IntKind.signed];omega
theorem oH(x:Int):d7 .shr .u64 x 1=some (.int .u64 (x.fdiv 2)):=rfl
theorem YN(n:Nat):(n:Int).fdiv 2=((n/2:Nat):Int):=by rw[ND _ (by omega)];omega
theorem BE(i j:Nat)(h:i+j<=4398046511104):IntKind.i64.wrap ((i:Int)+j)=((i+j:Nat):Int)/\IntKind.u64.wrap ((i+j:Nat):Int)=((i+j:Nat):Int)/\((i+j:Nat):Int).fdiv 2=(((i+j)/2:Nat):Int)/\IntKind.i64.wrap (((i+j)/2:Nat):Int)=(((i+j)/2:Nat):Int):=⟨by rw[wrap_i64 (by omega) (by omega)];omega,wrap_u64 (by omega) (by omega),YN _,wrap_i64 (by omega) (by omega)⟩
theorem qO2(l:ah)(a:Nat)(x:l.length<=1099511627776)(u:a<l.length)(s:∀t,t∈l->t.inner<=1099511627776):∀(k i j:Nat),i<=j->j-i<=k->j<=l.length->
 bq XV [70,74,122,126] 1 [0,1,4,10,11] ut ⟨[(0,.tsl true 0 3 l.length),(1,aa a),(4,.fn 6 []),(10,aa i),(11,aa j)],[some (kc l)]⟩=
  some (.exit 0,⟨[(0,.tsl true 0 3 l.length),(1,aa a),(4,.fn 6 []),(10,aa (bs (fun h=>decide (T.cmp (ai l h) (ai l a)<0)) k i j:Nat)),(11,aa (bs (fun h=>decide (T.cmp (ai l h) (ai l a)<0)) k i j:Nat)),(33,au false)],[some (kc l)]⟩):=by
 have head:∀(i j:Nat),aA 1 [0,1,4,10,11] ⟨[(0,.tsl true 0 3 l.length),(1,aa a),(4,.fn 6 []),(10,aa i),(11,aa j)],[some (kc l)]⟩=some ⟨[(0,.tsl true 0 3 l.length),(1,aa a),(4,.fn 6 []),(10,aa i),(11,aa j)],[some (kc l)]⟩:=fun i j=>by simp[aA,aB,fN,ix,eP]
 have stop:∀i:Nat,bq XV [70,74,122,126] 1 [0,1,4,10,11] ut ⟨[(0,.tsl true 0 3 l.length),(1,aa a),(4,.fn 6 []),(10,aa i),(11,aa i)],[some (kc l)]⟩=
  some (.exit 0,⟨[(0,.tsl true 0 3 l.length),(1,aa a),(4,.fn 6 []),(10,aa i),(11,aa i),(33,au false)],[some (kc l)]⟩):=fun i=>by
  refine dX (head _ _) ?_ (by simp);simp[ut]
 intro k
 induction k with
 |zero=>
  intro i j h w q;have:i=j:=by omega
  subst this;exact stop i
 |succ k o=>
  intro i j h w q;simp only[bs]
  by_cases c:i<j
  ·rw[ay c]
   obtain⟨e,g,p,m⟩:=BE i j (by omega);have hc:=qOP l a ((i+j)/2) x u (by omega) s i j;have r:=aV (n:=(i+j)/2) (by omega);have b:(i:Int)<j:=by omega
   by_cases d:T.cmp (ai l ((i+j)/2)) (ai l a)<0
   ·rw[ay (by simpa using d)]
    rw[<-o ((i+j)/2+1) j (by omega) (by omega) q];refine d_ (head _ _) ?_;simp only[d,decide_true]at hc;generalize kc l=c0 at hc⊢
    generalize (((i+j)/2+1:Nat):Int)=gv1 at*
    generalize (((i+j)/2:Nat):Int)=gv2 at*
    generalize ((i+j:Nat):Int)=gv3 at*
    generalize (i:Int)=gv4 at*
    generalize (j:Int)=gv5 at*
    simp[ut,b,e,g,p,m,oH];rw[hc];simp[r]
   ·rw[aC (by simpa using d)]
    rw[<-o i ((i+j)/2) (by omega) (by omega) (by omega)];refine d_ (head _ _) ?_;simp only[d,decide_false]at hc;generalize kc l=c0 at hc⊢
    generalize (((i+j)/2+1:Nat):Int)=gv1 at*
    generalize (((i+j)/2:Nat):Int)=gv2 at*
    generalize ((i+j:Nat):Int)=gv3 at*
    generalize (i:Int)=gv4 at*
    generalize (j:Int)=gv5 at*
    simp[ut,b,e,g,p,m,oH];rw[hc];simp
  ·rw[aC c]
   have:i=j:=by omega
   subst this;exact stop i
theorem PQ(l:ah)(a:Nat)(x:l.length<=1099511627776)(u:a<l.length)(s:∀t,t∈l->t.inner<=1099511627776):∀(k i j:Nat),i<=j->j-i<=k->j<=l.length->
 bq XV [70,74,122,126] 1 [0,2,4,14,15] uu ⟨[(0,.tsl true 0 3 l.length),(2,aa a),(4,.fn 6 []),(14,aa i),(15,aa j)],[some (kc l)]⟩=
  some (.exit 4,⟨[(0,.tsl true 0 3 l.length),(2,aa a),(4,.fn 6 []),(14,aa (bs (fun h=> !decide (T.cmp (ai l a) (ai l h)<0)) k i j:Nat)),(15,aa (bs (fun h=> !decide (T.cmp (ai l a) (ai l h)<0)) k i j:Nat)),(85,au false)],[some (kc l)]⟩):=by
 have head:∀(i j:Nat),aA 1 [0,2,4,14,15] ⟨[(0,.tsl true 0 3 l.length),(2,aa a),(4,.fn 6 []),(14,aa i),(15,aa j)],[some (kc l)]⟩=some ⟨[(0,.tsl true 0 3 l.length),(2,aa a),(4,.fn 6 []),(14,aa i),(15,aa j)],[some (kc l)]⟩:=fun i j=>by simp[aA,aB,fN,ix,eP]
 have stop:∀i:Nat,bq XV [70,74,122,126] 1 [0,2,4,14,15] uu ⟨[(0,.tsl true 0 3 l.length),(2,aa a),(4,.fn 6 []),(14,aa i),(15,aa i)],[some (kc l)]⟩=
  some (.exit 4,⟨[(0,.tsl true 0 3 l.length),(2,aa a),(4,.fn 6 []),(14,aa i),(15,aa i),(85,au false)],[some (kc l)]⟩):=fun i=>by
  refine dX (head _ _) ?_ (by simp);simp[uu]
 intro k
 induction k with
 |zero=>
  intro i j h w q;have:i=j:=by omega
  subst this;exact stop i
 |succ k o=>
  intro i j h w q;simp only[bs]
  by_cases c:i<j
  ·rw[ay c]
   obtain⟨e,g,p,m⟩:=BE i j (by omega);have hc:=Um l a ((i+j)/2) x u (by omega) s i j;have r:=aV (n:=(i+j)/2) (by omega);have b:(i:Int)<j:=by omega
   by_cases d:¬T.cmp (ai l a) (ai l ((i+j)/2))<0
   ·rw[ay (by simpa using d)]
    rw[<-o ((i+j)/2+1) j (by omega) (by omega) q];refine d_ (head _ _) ?_;simp only[d,decide_false,kX]at hc;generalize kc l=c0 at hc⊢
    generalize (((i+j)/2+1:Nat):Int)=gv1 at*
    generalize (((i+j)/2:Nat):Int)=gv2 at*
    generalize ((i+j:Nat):Int)=gv3 at*
    generalize (i:Int)=gv4 at*
    generalize (j:Int)=gv5 at*
    simp[uu,b,e,g,p,m,oH];rw[hc];simp[r]
   ·rw[aC (by simpa using d)]
    rw[<-o i ((i+j)/2) (by omega) (by omega) (by omega)];refine d_ (head _ _) ?_;simp only[Classical.not_not.1 d,decide_true,lR]at hc;generalize kc l=c0 at hc⊢
    generalize (((i+j)/2+1:Nat):Int)=gv1 at*
    generalize (((i+j)/2:Nat):Int)=gv2 at*
    generalize ((i+j:Nat):Int)=gv3 at*
    generalize (i:Int)=gv4 at*
    generalize (j:Int)=gv5 at*
    simp[uu,b,e,g,p,m,oH];rw[hc];simp
  ·rw[aC c]
   have:i=j:=by omega
   subst this;exact stop i
theorem Ro(l:ah)(p:Nat)(m e g a b:Int)(J:l.length<=1099511627776)(s:p<=4398046511104)(H:∀t,t∈l->t.inner<=1099511627776):∀(k i j:Nat),i<=j->j-i<=k->j<=l.length->(∀c,i<=c->c<j->c<=p/\p-c<l.length)->
 bq XV [70,74,122,126] 1 [0,1,2,3,4,18,19,20,21,22] ms ⟨[(0,.tsl true 0 3 l.length),(1,aa m),(2,aa e),(3,aa g),(4,.fn 6 []),(18,aa a),(19,aa b),(20,aa i),(21,aa j),(22,aa p)],[some (kc l)]⟩=
  some (.exit 8,⟨[(0,.tsl true 0 3 l.length),(1,aa m),(2,aa e),(3,aa g),(4,.fn 6 []),(18,aa a),(19,aa b),(20,aa (bs (fun c=> !decide (T.cmp (ai l (p-c)) (ai l c)<0)) k i j:Nat)),(21,aa (bs (fun c=> !decide (T.cmp (ai l (p-c)) (ai l c)<0)) k i j:Nat)),(22,aa p),(151,au false)],[some (kc l)]⟩):=by
 have head:∀(i j:Nat),aA 1 [0,1,2,3,4,18,19,20,21,22] ⟨[(0,.tsl true 0 3 l.length),(1,aa m),(2,aa e),(3,aa g),(4,.fn 6 []),(18,aa a),(19,aa b),(20,aa i),(21,aa j),(22,aa p)],[some (kc l)]⟩=some ⟨[(0,.tsl true 0 3 l.length),(1,aa m),(2,aa e),(3,aa g),(4,.fn 6 []),(18,aa a),(19,aa b),(20,aa i),(21,aa j),(22,aa p)],[some (kc l)]⟩:=fun i j=>by simp[aA,aB,fN,ix,eP]
 have stop:∀i:Nat,bq XV [70,74,122,126] 1 [0,1,2,3,4,18,19,20,21,22] ms ⟨[(0,.tsl true 0 3 l.length),(1,aa m),(2,aa e),(3,aa g),(4,.fn 6 []),(18,aa a),(19,aa b),(20,aa i),(21,aa i),(22,aa p)],[some (kc l)]⟩=
  some (.exit 8,⟨[(0,.tsl true 0 3 l.length),(1,aa m),(2,aa e),(3,aa g),(4,.fn 6 []),(18,aa a),(19,aa b),(20,aa i),(21,aa i),(22,aa p),(151,au false)],[some (kc l)]⟩):=fun i=>by
  refine dX (head _ _) ?_ (by simp);simp[ms]
 intro k
 induction k with
 |zero=>
  intro i j h I F q;have:i=j:=by omega
  subst this;exact stop i
 |succ k C=>
  intro i j h I F q;simp only[bs]
  by_cases o:i<j
  ·rw[ay o]
   obtain⟨w,x,D,z⟩:=BE i j (by omega);have hc:=SA l p ((i+j)/2) J (q _ (by omega) (by omega)).1 (q _ (by omega) (by omega)).2 (by omega) s H m e g a b i j;have G:=aV (n:=(i+j)/2) (by omega);have d:(i:Int)<j:=by omega
   by_cases r:¬T.cmp (ai l (p-(i+j)/2)) (ai l ((i+j)/2))<0
   ·rw[ay (by simpa using r)]
    rw[<-C ((i+j)/2+1) j (by omega) (by omega) F (fun c u y=>q c (by omega) y)];refine d_ (head _ _) ?_;simp only[r,decide_false,kX]at hc;generalize kc l=c0 at hc⊢
    generalize (((i+j)/2+1:Nat):Int)=gv1 at*
    generalize (((i+j)/2:Nat):Int)=gv2 at*
    generalize ((i+j:Nat):Int)=gv3 at*
    generalize (i:Int)=gv4 at*
    generalize (j:Int)=gv5 at*
    simp[ms,d,w,x,D,z,oH];rw[hc];simp[G]
   ·rw[aC (by simpa using r)]
    rw[<-C i ((i+j)/2) (by omega) (by omega) (by omega) (fun c u y=>q c u (by omega))];refine d_ (head _ _) ?_;simp only[Classical.not_not.1 r,decide_true,lR]at hc;generalize kc l=c0 at hc⊢
    generalize (((i+j)/2+1:Nat):Int)=gv1 at*
    generalize (((i+j)/2:Nat):Int)=gv2 at*
    generalize ((i+j:Nat):Int)=gv3 at*
    generalize (i:Int)=gv4 at*
    generalize (j:Int)=gv5 at*
    simp[ms,d,w,x,D,z,oH];rw[hc];simp
  ·rw[aC o]
   have:i=j:=by omega
   subst this;exact stop i
theorem right_step(A Y Z:ah)(x:T)(s:Nat)(a:s<Y.length):swp (A++Y.take s++x::(Y.drop s++Z)) (A.length+s+1) (A.length+s)=A++Y.take (s+1)++x::(Y.drop (s+1)++Z):=by
 have b:(A++Y.take s).length=A.length+s:=by simp;omega
 rw[<-List.take_append_getElem a,dS a,LQ _ _ _ (by omega),<-b];have:=Bf (A++Y.take s) [] (Y.drop (s+1)++Z) x Y[s] ((A++Y.take s).length+1) rfl;simp only[co]at this;rw[show Y[s]::Y.drop (s+1)++Z=Y[s]::(Y.drop (s+1)++Z)from rfl,this];simp only[bX,c9,co]
theorem Sm(A Y Z:ah)(x:T)(N a:Nat)(j:A.length=a)(m:(A++x::(Y++Z)).length=N)(p:N<=1099511627776):
 bq XV [70,74,122,126] 1 [0,10,13] xD ⟨[(0,.tsl true 0 3 N),(10,aa (a+1+Y.length:Nat)),(13,aa a)],[some (kc (A++x::(Y++Z)))]⟩=
  some (.exit 2,⟨[(0,.tsl true 0 3 N),(10,aa (a+1+Y.length:Nat)),(13,aa (a+Y.length:Nat)),(58,au false)],[some (kc (A++Y++x::Z))]⟩):=by
 have l:A.length+1+Y.length+Z.length=N:=by rw[<-m];simp;omega
 have c:∀s,(A++Y.take s++x::(Y.drop s++Z)).length=N:=fun s=>by simp;omega
 have e:IntKind.i64.wrap (((a+1+Y.length:Nat):Int)-1)=((a+Y.length:Nat):Int):=by rw[wrap_i64 (by omega) (by omega)];omega
 have h:=bG (X:=XV) (T:=[70,74,122,126]) (L:=1) (live:=[0,10,13]) (b:=xD) (n:=Y.length) (γ:=Unit) (st:=fun(_:Unit) s=>⟨[(0,.tsl true 0 3 N),(10,aa (a+1+Y.length:Nat)),(13,aa (a+s:Nat))],[some (kc (A++Y.take s++x::(Y.drop s++Z)))]⟩) (step:=fun _ _=> .inl ())
  (F:=fun _=>(.exit 2,⟨[(0,.tsl true 0 3 N),(10,aa (a+1+Y.length:Nat)),(13,aa (a+Y.length:Nat)),(58,au false)],[some (kc (A++Y.take Y.length++x::(Y.drop Y.length++Z)))]⟩)) (R:=fun _=>(.ret,⟨[],[]⟩))
  (fun _=>⟨by simp,by
   generalize ((a+1+Y.length:Nat):Int)=gv1 at*
   generalize ((a+Y.length:Nat):Int)=gv2 at*
   simp[xD,e]⟩)
  (fun _ s o=>by
   have d:=qMK (A++Y.take s++x::(Y.drop s++Z)) (a+s) (by rw[c];exact p) (by rw[c];omega) (a+1+Y.length:Nat);rw[<-j,right_step A Y Z x s o,j,c]at d;have k:=aV (n:=a+s) (by omega);have g:((a+s:Nat):Int)<((a+Y.length:Nat):Int):=by omega
   generalize i:kc (A++Y.take (s+1)++x::(Y.drop (s+1)++Z))=c2 at d;generalize kc (A++Y.take s++x::(Y.drop s++Z))=c1 at d⊢
   exact⟨⟨[(0,.tsl true 0 3 N),(10,aa (a+1+Y.length:Nat)),(13,aa (a+s+1:Nat))],[some c2]⟩,by
    generalize ((a+s+1:Nat):Int)=gv3 at*
    generalize ((a+s:Nat):Int)=gv4 at*
    generalize ((a+1+Y.length:Nat):Int)=gv1 at*
    generalize ((a+Y.length:Nat):Int)=gv2 at*
    simp[xD,e,g];rw[d];simp[k],by rw[<-i];simp[aA,aB,fN];omega⟩)
  Y.length () 0 ⟨[(0,.tsl true 0 3 N),(10,aa (a+1+Y.length:Nat)),(13,aa a)],[some (kc (A++x::(Y++Z)))]⟩ (by omega) (by simp[aA,aB,fN])
 rw[dB,jY,Gu,co]at h;exact h
theorem left_step(A X Z:ah)(y:T)(n:Nat)(a:n<X.length):swp (A++X.take (n+1)++y::(X.drop (n+1)++Z)) (A.length+n) (A.length+n+1)=A++X.take n++y::(X.drop n++Z):=by
 have b:(A++X.take n).length=A.length+n:=by simp;omega
 rw[<-List.take_append_getElem a,dS a,<-b];have:=Bf (A++X.take n) [] (X.drop (n+1)++Z) X[n] y ((A++X.take n).length+1) rfl;simp only[co]at this;rw[show A++(X.take n++[X[n]])++y::(X.drop (n+1)++Z)=A++X.take n++X[n]::y::(X.drop (n+1)++Z)by simp only[bX,c9,co],this];simp only[bX,c9]
theorem Vs(A X Z:ah)(y:T)(N a:Nat)(k:A.length=a)(o:(A++X++y::Z).length=N)(p:N<=1099511627776):
 bq XV [70,74,122,126] 1 [0,14,17] vi ⟨[(0,.tsl true 0 3 N),(14,aa a),(17,aa (a+X.length:Nat))],[some (kc (A++X++y::Z))]⟩=
  some (.exit 6,⟨[(0,.tsl true 0 3 N),(14,aa a),(17,aa a),(110,au false)],[some (kc (A++y::(X++Z)))]⟩):=by
 have m:A.length+X.length+(Z.length+1)=N:=by rw[<-o];simp;omega
 have c:∀s,(A++X.take s++y::(X.drop s++Z)).length=N:=fun s=>by simp;omega
 have h:=bG (X:=XV) (T:=[70,74,122,126]) (L:=1) (live:=[0,14,17]) (b:=vi) (n:=X.length) (γ:=Unit) (st:=fun(_:Unit) s=>⟨[(0,.tsl true 0 3 N),(14,aa a),(17,aa (a+(X.length-s):Nat))],[some (kc (A++X.take (X.length-s)++y::(X.drop (X.length-s)++Z)))]⟩) (step:=fun _ _=> .inl ())
  (F:=fun _=>(.exit 6,⟨[(0,.tsl true 0 3 N),(14,aa a),(17,aa a),(110,au false)],[some (kc (A++X.take 0++y::(X.drop 0++Z)))]⟩)) (R:=fun _=>(.ret,⟨[],[]⟩))
  (fun _=>⟨by simp,by
   rw[mO,Cx];simp[vi]⟩)
  (fun _ s q=>by
   obtain⟨n,i⟩:∃n,X.length-s=n+1:=⟨X.length-s-1,by omega⟩;have g:X.length-(s+1)=n:=by omega
   have d:=WS (A++X.take (n+1)++y::(X.drop (n+1)++Z)) (a+n) (by rw[c];exact p) (by rw[c];omega) a;rw[<-k,left_step A X Z y n (by omega),k,c]at d;have l:IntKind.i64.wrap (((a+n+1:Nat):Int)-1)=((a+n:Nat):Int):=by rw[wrap_i64 (by omega) (by omega)];omega
   have e:(a:Int)<((a+n+1:Nat):Int):=by omega
   rw[i,show a+(n+1)=a+n+1 by omega];generalize j:kc (A++X.take n++y::(X.drop n++Z))=c2 at d;generalize kc (A++X.take (n+1)++y::(X.drop (n+1)++Z))=c1 at d⊢
   exact⟨⟨[(0,.tsl true 0 3 N),(14,aa a),(17,aa (a+n:Nat))],[some c2]⟩,by
    generalize ((a+n+1:Nat):Int)=gv3 at*
    generalize ((a+n:Nat):Int)=gv4 at*
    simp[vi,e];rw[d];simp[l],by rw[<-j];simp[aA,aB,fN,g]⟩)
  X.length () 0 ⟨[(0,.tsl true 0 3 N),(14,aa a),(17,aa (a+X.length:Nat))],[some (kc (A++X++y::Z))]⟩ (by omega) (by simp[aA,aB,fN])
 rw[dB]at h;simpa using h
variable{S:ah}
theorem Rq(h:b0 S){p:T}(c:p∈S):∃s,S.getLast?=some s/\cZ p s:=by
 have a:S≠[]:=fun b=>by rw[b]at c;simp at c
 refine⟨S.getLast a,Np a,?_⟩
 by_cases b:p=S.getLast a
 ·rw[b];exact LE _
 ·have e:p∈S.dropLast:=by
   have:=vL a;rw[<-this]at c;rcases bw.1 c with h|h
   ·exact h
   ·simp at h;exact absurd h b
  have d:(S.dropLast++[S.getLast a]).Pairwise cZ:=by rw[vL];exact h
  exact(ob.1 d).2.2 p e _ (by simp)
theorem qVo(h:b0 S){p:T}(a:p∈S):∃s,S.head?=some s/\cZ s p:=by
 cases S with
 |nil=>simp at a
 |cons x r=>
  refine⟨x,rfl,?_⟩;rcases cE.1 a with rfl|a
  ·exact LE _
  ·exact(nX.1 h).1 p a
theorem D_{R:ah}(d:b0 S)(a:b0 R)(h:∀s r,S.getLast?=some s->R.head?=some r->cZ s r):∀p,p∈S->∀q,q∈R->cZ p q:=by intro p j q g;obtain⟨s,b,e⟩:=Rq d j;obtain⟨r,c,i⟩:=qVo a g;exact vI (vI e (h s r b c)) i
theorem Py{d c:ah}{x:T}(h:b0 (d++c))(k:∀s,d.getLast?=some s->cZ s x)(o:∀s,c.head?=some s->cZ x s):b0 (d++x::c):=by
 obtain⟨j,i,l⟩:=ob.1 h;have m:=D_ (S:=d) (R:=[x]) j (ru _ _) (fun s r e b=>by simp at b;subst b;exact k s e);have n:=D_ (S:=[x]) (R:=c) (ru _ _) i (fun s r e b=>by simp at e;subst e;exact o r b);refine ob.2 ⟨j,nX.2 ⟨fun q a=>n x (by simp) q a,i⟩,fun p g q a=> ?_⟩;rcases cE.1 a with rfl|a
 ·exact m p g _ (by simp)
 ·exact l p g q a
theorem Ag(A X R:ah)(q:Nat)(a:q<X.length):ai (A++X++R) (A.length+q)=ai X q:=by unfold ai;rw[bX,dx (by omega),Nat.add_sub_cancel_left,d8 a]
variable{t:Nat}{X:ah}
theorem CW{s:T}(b:t<=X.length)(h:(X.take t).getLast?=some s):0<t/\s=ai X (t-1):=by
 rw[List.getLast?_eq_getElem?,xd,HJ b]at h;have a:=(cw.1 h).1;simp at a;rw[pX]at h;split at h
 ·exact⟨by omega,by simp[ai,h]⟩
 ·simp at h
theorem A3{s:T}(h:(X.drop t).head?=some s):t<X.length/\s=ai X t:=by rw[List.head?_drop]at h;exact⟨(cw.1 h).1,by simp[ai,h]⟩
theorem qIX(A Y Z:ah)(x:T)(a m b N:Nat)(y:a=A.length)(K:m=a+1)(O:b=m+Y.length)(k:N=(A++x::(Y++Z)).length)(F:N<=1099511627776)(o:∀t,t∈A++x::(Y++Z)->t.inner<=1099511627776)(M:b0 Y):
 ∃W:ah,W.Perm (x::Y)/\b0 W/\aj XV 173 [.tsl true 0 3 N,aa a,aa m,aa b,.fn 6 []] [some (kc (A++x::(Y++Z)))]=some (.d (.tup []),[some (kc (A++W++Z))]):=by
 have J:A.length+1+Y.length+Z.length=N:=by rw[k];simp;omega
 have g:=qO2 (A++x::(Y++Z)) a (by rw[<-k];exact F) (by rw[<-k];omega) o Y.length m b (by omega) (by omega) (by rw[<-k];omega);have p:ai (A++x::(Y++Z)) a=x:=Eb _ _ _ _ y;have n:∀q,q<Y.length->ai (A++x::(Y++Z)) (m+q)=ai Y q:=fun q G=>by have:=Ag (A++[x]) Y Z q G;simp only[cG,c7,lE,bX,c9,co]at this;rw[K,y];exact this
 obtain⟨s1,I,i,j⟩:=xi (fun h=>decide (T.cmp (ai (A++x::(Y++Z)) h) (ai (A++x::(Y++Z)) a)<0)) Y.length m b (by omega) (by omega);generalize bs (fun h=>decide (T.cmp (ai (A++x::(Y++Z)) h) (ai (A++x::(Y++Z)) a)<0)) Y.length m b=r at g s1 I i j;rw[p]at i j;obtain⟨t,rfl⟩:∃t,r=m+t:=⟨r-m,by omega⟩;have u:t<=Y.length:=by omega
 have c:Y.take t++Y.drop t=Y:=dJ _ _;have C:(Y.take t).length=t:=by simp;omega
 have e:=Sm A (Y.take t) (Y.drop t++Z) x N a y.symm (by rw[k,<-bX (Y.take t),c]) F;rw[<-bX (Y.take t),c,C,show a+1+t=m+t by omega]at e;refine⟨Y.take t++x::Y.drop t,?_,Py (by rw[c];exact M) (fun s z=> ?_) (fun s z=> ?_),?_⟩
 ·refine Dd.trans ?_
  rw[c]
 ·obtain⟨D,w⟩:=CW u z
  rcases i with i|i
  ·omega
  ·rw[show m+t-1=m+(t-1)by omega,n _ (by omega)]at i
   rw[w];exact rQ (by simpa using i)
 ·obtain⟨D,w⟩:=A3 z
  rcases j with j|j
  ·omega
  ·rw[n _ D]at j
   rw[w];exact si (by simpa using j)
 ·have l:A++(Y.take t++x::Y.drop t)++Z=A++Y.take t++x::(Y.drop t++Z):=by simp only[bX,c9]
  rw[l];rw[aK 173 o8 rfl];rw[<-k]at g;have H:IntKind.i64.wrap ((m:Int)-a)=1:=by rw[wrap_i64 (by omega) (by omega)];omega
  generalize kc (A++Y.take t++x::(Y.drop t++Z))=c2 at e⊢
  generalize kc (A++x::(Y++Z))=c1 at g e⊢
  generalize ((m+t:Nat):Int)=gv1 at*
  generalize ((a+t:Nat):Int)=gv2 at*
  simp[o8,vA,H];rw[g];simp[On];rw[e];simp
theorem qBR(A X Z:ah)(y:T)(a m b N:Nat)(K:a=A.length)(V:m=a+X.length)(R:b=m+1)(I:2<=X.length)(l:N=(A++X++y::Z).length)(F:N<=1099511627776)(p:∀t,t∈A++X++y::Z->t.inner<=1099511627776)(P:b0 X):
 ∃W:ah,W.Perm (X++[y])/\b0 W/\aj XV 173 [.tsl true 0 3 N,aa a,aa m,aa b,.fn 6 []] [some (kc (A++X++y::Z))]=some (.d (.tup []),[some (kc (A++W++Z))]):=by
 have O:A.length+X.length+(Z.length+1)=N:=by rw[l];simp;omega
 have i:=PQ (A++X++y::Z) m (by rw[<-l];exact F) (by rw[<-l];omega) p X.length a m (by omega) (by omega) (by rw[<-l];omega);have C:ai (A++X++y::Z) m=y:=Eb _ _ _ _ (by simp;omega);have o:∀q,q<X.length->ai (A++X++y::Z) (a+q)=ai X q:=fun q H=>by rw[K];exact Ag A X (y::Z) q H
 obtain⟨s1,M,j,k⟩:=xi (fun h=> !decide (T.cmp (ai (A++X++y::Z) m) (ai (A++X++y::Z) h)<0)) X.length a m (by omega) (by omega);generalize bs (fun h=> !decide (T.cmp (ai (A++X++y::Z) m) (ai (A++X++y::Z) h)<0)) X.length a m=r at i s1 M j k;rw[C]at j k;obtain⟨t,rfl⟩:∃t,r=a+t:=⟨r-a,by omega⟩;have u:t<=X.length:=by omega
 have e:X.take t++X.drop t=X:=dJ _ _;have x:(X.drop t).length=X.length-t:=by simp
 have c:A++X.take t++X.drop t++y::Z=A++X++y::Z:=by rw[bX A,e]
 have g:=Vs (A++X.take t) (X.drop t) Z y N (a+t) (by simp;omega) (by rw[c,l]) F;rw[c,x,show a+t+(X.length-t)=m by omega]at g;refine⟨X.take t++y::X.drop t,?_,Py (by rw[e];exact P) (fun s z=> ?_) (fun s z=> ?_),?_⟩
 ·refine Dd.trans ?_
  rw[e];exact yt (l₁:=[y]) (l₂:=X)
 ·obtain⟨D,w⟩:=CW u z
  rcases j with j|j
  ·omega
  ·rw[show a+t-1=a+(t-1)by omega,o _ (by omega)]at j
   rw[w];exact si (by simpa using j)
 ·obtain⟨D,w⟩:=A3 z
  rcases k with k|k
  ·omega
  ·rw[o _ D]at k
   rw[w];exact rQ (by simpa using k)
 ·have n:A++(X.take t++y::X.drop t)++Z=A++X.take t++y::(X.drop t++Z):=by simp only[bX,c9]
  rw[n];rw[aK 173 o8 rfl];rw[<-l]at i;have J:IntKind.i64.wrap ((m:Int)-a)=(X.length:Int):=by rw[wrap_i64 (by omega) (by omega)];omega
  have G:((X.length:Int)==1)=false:=by simp;omega
  have Q:IntKind.i64.wrap ((b:Int)-m)=1:=by rw[wrap_i64 (by omega) (by omega)];omega
  generalize kc (A++X.take t++y::(X.drop t++Z))=c2 at g⊢
  generalize kc (A++X++y::Z)=c1 at i g⊢
  generalize ((a+t:Nat):Int)=gv2 at*
  generalize (X.length:Int)=vx at*
  simp[o8,vA,BN,J,Q,G];rw[i];simp[LJ];rw[g];simp
theorem qBQ(N:Nat)(j e m a b r c:Int)(k h g l:aG)(F:IntKind.i64.wrap (r-b)=c)
 (x:(b<e/\e<c/\aj XV 174 [.tsl true 0 3 N,aa b,aa e,aa c,.fn 6 []] [some k]=some (.d (.tup []),[some h]))\/(b<e/\¬e<c/\k=h)\/(¬b<e/\k=h))
 (w:(j<b/\b<a/\aj XV 173 [.tsl true 0 3 N,aa j,aa b,aa a,.fn 6 []] [some h]=some (.d (.tup []),[some g]))\/(j<b/\¬b<a/\h=g)\/(¬j<b/\h=g))
 (z:(a<c/\c<m/\aj XV 173 [.tsl true 0 3 N,aa a,aa c,aa m,.fn 6 []] [some g]=some (.d (.tup []),[some l]))\/(a<c/\¬c<m/\g=l)\/(¬a<c/\g=l)) (o n i:AV):
 ∃s,aS XV [70,74,122,126] (.seq (.region false 0 [0,1,2,3,4,18,20,24] xC) (.seq (.seq (.region false 0 [0,1,2,3,4,18,20,24,185] uZ) (.cond (.t 185) (.region false 0 [0,1,3,4,18,20,24] xc) .skip)) (.seq (.seq (.region false 0 [0,1,3,4,18,20,24,199] wT) (.cond (.t 199) (.region false 0 [0,3,4,18,24] ww) .skip)) (.seq (.region false 0 [0,3,4,18,24,213] vW) (.cond (.t 213) (.region false 0 [] ve) .skip)))))
  ⟨[(0,.tsl true 0 3 N),(1,aa j),(2,aa e),(3,aa m),(4,.fn 6 []),(18,aa a),(19,aa r),(20,aa b),(21,o),(22,n),(151,i)],[some k]⟩=some (.normal,⟨s,[some l]⟩):=by
 rcases x with⟨q,u,C⟩|⟨q,u,rfl⟩|⟨q,rfl⟩<;>rcases w with⟨p,y,D⟩|⟨p,y,rfl⟩|⟨p,rfl⟩<;>rcases z with⟨d1,d2,d3⟩|⟨d1,d2,rfl⟩|⟨d1,rfl⟩<;>
  exact⟨_,by simp[xC,uZ,xc,wT,ww,vW,ve, *];rfl⟩
theorem qw4(N:Nat)(j b k a h l e vb vx o g:Int)(m w:aG)(x:IntKind.i64.wrap (b-j)=vx)(q:(vx==1)=false)(u:IntKind.i64.wrap (k-b)=o)(y:(o==1)=false)
 (z:IntKind.i64.wrap (j+k)=g) (C:IntKind.u64.wrap g=g) (s:g.fdiv 2=a) (p:IntKind.i64.wrap a=a) (F:IntKind.i64.wrap (a+b)=l) (D:IntKind.i64.wrap (l-1)=e) (H:a<b->IntKind.i64.wrap (l-k)=vb)
 (i:bq XV [70,74,122,126] 1 [0,1,2,3,4,18,19,20,21,22] ms ⟨[(0,.tsl true 0 3 N),(1,aa j),(2,aa b),(3,aa k),(4,.fn 6 []),(18,aa a),(19,aa l),(20,aa (if a<b then vb else j)),(21,aa (if a<b then a else b)),(22,aa e)],[some m]⟩=
  some (.exit 8,⟨[(0,.tsl true 0 3 N),(1,aa j),(2,aa b),(3,aa k),(4,.fn 6 []),(18,aa a),(19,aa l),(20,aa h),(21,aa h),(22,aa e),(151,au false)],[some m]⟩))
 (tail:∃r,aS XV [70,74,122,126] (.seq (.region false 0 [0,1,2,3,4,18,20,24] xC) (.seq (.seq (.region false 0 [0,1,2,3,4,18,20,24,185] uZ) (.cond (.t 185) (.region false 0 [0,1,3,4,18,20,24] xc) .skip)) (.seq (.seq (.region false 0 [0,1,3,4,18,20,24,199] wT) (.cond (.t 199) (.region false 0 [0,3,4,18,24] ww) .skip)) (.seq (.region false 0 [0,3,4,18,24,213] vW) (.cond (.t 213) (.region false 0 [] ve) .skip)))))
  ⟨[(0,.tsl true 0 3 N),(1,aa j),(2,aa b),(3,aa k),(4,.fn 6 []),(18,aa a),(19,aa l),(20,aa h),(21,aa h),(22,aa e),(151,au false)],[some m]⟩=some (.normal,⟨r,[some w]⟩)):
 aj XV 173 [.tsl true 0 3 N,aa j,aa b,aa k,.fn 6 []] [some m]=some (.d (.tup []),[some w]):=by
 obtain⟨r,t1⟩:=tail;generalize G:(.seq (.region false 0 [0,1,2,3,4,18,20,24] xC) (.seq (.seq (.region false 0 [0,1,2,3,4,18,20,24,185] uZ) (.cond (.t 185) (.region false 0 [0,1,3,4,18,20,24] xc) .skip)) (.seq (.seq (.region false 0 [0,1,3,4,18,20,24,199] wT) (.cond (.t 199) (.region false 0 [0,3,4,18,24] ww) .skip)) (.seq (.region false 0 [0,3,4,18,24,213] vW) (.cond (.t 213) (.region false 0 [] ve) .skip)))):VCode)=code at t1;rw[aK 173 o8 rfl];unfold o8;rw[G]
 by_cases c:a<b
 ·have n:=H c
  simp only[ay c]at i;simp[vA,BN,E9,H8,Hp,H2,Pn,OX,H_,x,q,u,y,z,C,s,p,F,D,n,c,oH];rw[i];simp[t1]
 ·simp only[aC c]at i
  simp[vA,BN,E9,H8,Hp,H2,JL,OI,H_,x,q,u,y,z,C,s,p,F,D,c,oH];rw[i];simp[t1]
theorem qIW(A n g e k Z W1 W2:ah)(a m b c st N:Nat)(ha:a=A.length)(hm:m=a+n.length+g.length)(hb:b=m+e.length+k.length)(hX:2<=n.length+g.length)(hY:2<=e.length+k.length)
 (s:c=(a+b)/2) (h4:st=a+n.length) (u:c=st+e.length) (hN:N=(A++(n++g)++(e++k)++Z).length) (hn:N<=1099511627776)
 (r:∀(i j:Nat),(if c<m then i=c+m-b/\j=c else i=a/\j=m)->bq XV [70,74,122,126] 1 [0,1,2,3,4,18,19,20,21,22] ms ⟨[(0,.tsl true 0 3 N),(1,aa a),(2,aa m),(3,aa b),(4,.fn 6 []),(18,aa c),(19,aa (c+m:Nat)),(20,aa i),(21,aa j),(22,aa (c+m-1:Nat))],[some (kc (A++(n++g)++(e++k)++Z))]⟩=
  some (.exit 8,⟨[(0,.tsl true 0 3 N),(1,aa a),(2,aa m),(3,aa b),(4,.fn 6 []),(18,aa c),(19,aa (c+m:Nat)),(20,aa st),(21,aa st),(22,aa (c+m-1:Nat)),(151,au false)],[some (kc (A++(n++g)++(e++k)++Z))]⟩))
 (hr:g≠[]->e≠[]->aj XV 174 [.tsl true 0 3 N,aa st,aa m,aa (m+e.length:Nat),.fn 6 []] [some (kc (A++(n++g)++(e++k)++Z))]=some (.d (.tup []),[some (kc (A++(n++e)++(g++k)++Z))]))
 (O:(n≠[]/\e≠[])->aj XV 173 [.tsl true 0 3 N,aa a,aa st,aa c,.fn 6 []] [some (kc (A++(n++e)++(g++k)++Z))]=some (.d (.tup []),[some (kc (A++W1++(g++k)++Z))]))
 (y:¬(n≠[]/\e≠[])->W1=n++e)
 (h3:(g≠[]/\k≠[])->aj XV 173 [.tsl true 0 3 N,aa c,aa (m+e.length:Nat),aa b,.fn 6 []] [some (kc (A++W1++(g++k)++Z))]=some (.d (.tup []),[some (kc (A++W1++W2++Z))]))
 (z:¬(g≠[]/\k≠[])->W2=g++k):
 aj XV 173 [.tsl true 0 3 N,aa a,aa m,aa b,.fn 6 []] [some (kc (A++(n++g)++(e++k)++Z))]=some (.d (.tup []),[some (kc (A++W1++W2++Z))]):=by
 have R:A.length+n.length+g.length+e.length+k.length+Z.length=N:=by rw[hN];simp;omega
 have ne:∀l:ah,l≠[]↔0<l.length:=fun l=>by cases l<;>simp
 have K:IntKind.i64.wrap ((m:Int)-a)=((n.length+g.length:Nat):Int):=by rw[wrap_i64 (by omega) (by omega)];omega
 have Y:(((n.length+g.length:Nat):Int)==1)=false:=by simp;omega
 have w2:IntKind.i64.wrap ((b:Int)-m)=((e.length+k.length:Nat):Int):=by rw[wrap_i64 (by omega) (by omega)];omega
 have n2:(((e.length+k.length:Nat):Int)==1)=false:=by simp;omega
 obtain⟨m1,M,I,H⟩:=BE a b (by omega);rw[<-s]at I H;have P:IntKind.i64.wrap ((c:Int)+m)=((c+m:Nat):Int):=by rw[wrap_i64 (by omega) (by omega)];omega
 have w4:IntKind.i64.wrap (((c+m:Nat):Int)-1)=((c+m-1:Nat):Int):=by rw[wrap_i64 (by omega) (by omega)];omega
 have w5:IntKind.i64.wrap (((c+m:Nat):Int)-st)=((m+e.length:Nat):Int):=by rw[wrap_i64 (by omega) (by omega)];omega
 have w6:c<m->IntKind.i64.wrap (((c+m:Nat):Int)-b)=((c+m-b:Nat):Int):=fun h=>by rw[wrap_i64 (by omega) (by omega)];omega
 have w:(g≠[]/\e≠[])\/A++(n++g)++(e++k)++Z=A++(n++e)++(g++k)++Z:=by
  by_cases o:g=[]
  ·right;subst o;simp
  ·by_cases p:e=[]
   ·right;subst p;simp
   ·exact .inl ⟨o,p⟩
 have C:((st:Int)<m)↔g≠[]:=by rw[ne];omega
 have G:((m:Int)<((m+e.length:Nat):Int))↔e≠[]:=by rw[ne];omega
 have x:((a:Int)<st)↔n≠[]:=by rw[ne];omega
 have F:((st:Int)<c)↔e≠[]:=by rw[ne];omega
 have D:((c:Int)<((m+e.length:Nat):Int))↔g≠[]:=by rw[ne];omega
 have J:(((m+e.length:Nat):Int)<b)↔k≠[]:=by rw[ne];omega
 have step2:(¬(n≠[]/\e≠[]))->kc (A++(n++e)++(g++k)++Z)=kc (A++W1++(g++k)++Z):=fun h=>by rw[y h]
 have q:(¬(g≠[]/\k≠[]))->kc (A++W1++(g++k)++Z)=kc (A++W1++W2++Z):=fun h=>by rw[z h]
 have step1:(¬(g≠[]/\e≠[]))->kc (A++(n++g)++(e++k)++Z)=kc (A++(n++e)++(g++k)++Z):=fun h=>by
  rcases w with u|u
  ·exact absurd u h
  ·rw[u]
 have hA:((st:Int)<m/\(m:Int)<((m+e.length:Nat):Int)/\aj XV 174 [.tsl true 0 3 N,aa st,aa m,aa (m+e.length:Nat),.fn 6 []] [some (kc (A++(n++g)++(e++k)++Z))]=some (.d (.tup []),[some (kc (A++(n++e)++(g++k)++Z))]))\/((st:Int)<m/\¬(m:Int)<((m+e.length:Nat):Int)/\kc (A++(n++g)++(e++k)++Z)=kc (A++(n++e)++(g++k)++Z))\/(¬(st:Int)<m/\kc (A++(n++g)++(e++k)++Z)=kc (A++(n++e)++(g++k)++Z)):=by
  by_cases o:g=[]
  ·exact .inr (.inr ⟨fun h=>(C.1 h) o,step1 fun h=>h.1 o⟩)
  ·by_cases p:e=[]
   ·exact .inr (.inl ⟨C.2 o,fun h=>(G.1 h) p,step1 fun h=>h.2 p⟩)
   ·exact .inl ⟨C.2 o,G.2 p,hr o p⟩
 have V:((a:Int)<st/\(st:Int)<c/\aj XV 173 [.tsl true 0 3 N,aa a,aa st,aa c,.fn 6 []] [some (kc (A++(n++e)++(g++k)++Z))]=some (.d (.tup []),[some (kc (A++W1++(g++k)++Z))]))\/((a:Int)<st/\¬(st:Int)<c/\kc (A++(n++e)++(g++k)++Z)=kc (A++W1++(g++k)++Z))\/(¬(a:Int)<st/\kc (A++(n++e)++(g++k)++Z)=kc (A++W1++(g++k)++Z)):=by
  by_cases o:n=[]
  ·exact .inr (.inr ⟨fun h=>(x.1 h) o,step2 fun h=>h.1 o⟩)
  ·by_cases p:e=[]
   ·exact .inr (.inl ⟨x.2 o,fun h=>(F.1 h) p,step2 fun h=>h.2 p⟩)
   ·exact .inl ⟨x.2 o,F.2 p,O ⟨o,p⟩⟩
 have Q:((c:Int)<((m+e.length:Nat):Int)/\((m+e.length:Nat):Int)<b/\aj XV 173 [.tsl true 0 3 N,aa c,aa (m+e.length:Nat),aa b,.fn 6 []] [some (kc (A++W1++(g++k)++Z))]=some (.d (.tup []),[some (kc (A++W1++W2++Z))]))\/((c:Int)<((m+e.length:Nat):Int)/\¬((m+e.length:Nat):Int)<b/\kc (A++W1++(g++k)++Z)=kc (A++W1++W2++Z))\/(¬(c:Int)<((m+e.length:Nat):Int)/\kc (A++W1++(g++k)++Z)=kc (A++W1++W2++Z)):=by
  by_cases o:g=[]
  ·exact .inr (.inr ⟨fun h=>(D.1 h) o,q fun h=>h.1 o⟩)
  ·by_cases p:k=[]
   ·exact .inr (.inl ⟨D.2 o,fun h=>(J.1 h) p,q fun h=>h.2 p⟩)
   ·exact .inl ⟨D.2 o,J.2 p,h3 ⟨o,p⟩⟩
 refine qw4 N a m b c st (c+m:Nat) (c+m-1:Nat) (c+m-b:Nat) (n.length+g.length:Nat) (e.length+k.length:Nat) (a+b:Nat) _ _ K Y w2 n2 m1 M I H P w4 (fun h=>w6 (by omega)) ?_ (qBQ N a m b c st (c+m:Nat) (m+e.length:Nat) _ _ _ _ w5 hA V Q _ _ _)
 by_cases h:c<m
 ·have h':(c:Int)<m:=by omega
  rw[ay h',ay h'];exact r (c+m-b) c (by rw[ay h];exact⟨rfl,rfl⟩)
 ·have h':¬(c:Int)<m:=by omega
  rw[aC h',aC h'];exact r a m (by rw[aC h];exact⟨rfl,rfl⟩)
theorem OK:∀(k:Nat) (A X Y Z:ah) (a m b N:Nat),X.length+Y.length<=k->0<X.length->0<Y.length->a=A.length->m=a+X.length->b=m+Y.length->N=(A++X++Y++Z).length->N<=1099511627776->(∀t,t∈A++X++Y++Z->t.inner<=1099511627776)->b0 X->b0 Y->
 ∃W:ah,W.Perm (X++Y)/\b0 W/\aj XV 173 [.tsl true 0 3 N,aa a,aa m,aa b,.fn 6 []] [some (kc (A++X++Y++Z))]=some (.d (.tup []),[some (kc (A++W++Z))]):=by
 intro k
 induction k with
 |zero=>intro A X Y Z a m b N hk hx hy;omega
 |succ k ih=>
  intro A X Y Z a m b N hk hx hy ha C J I hn o hX hY;have V:A.length+X.length+Y.length+Z.length=N:=by rw[I];simp;omega
  by_cases x3:X.length=1
  ·obtain⟨x,rfl⟩:∃x,X=[x]:=LC.1 x3
   have e:A++[x]++Y++Z=A++x::(Y++Z):=by simp
   rw[e]at I o⊢
   obtain⟨W,w1,w2,w3⟩:=qIX A Y Z x a m b N ha (by simpa using C) J I hn o hY;exact⟨W,by simpa using w1,w2,w3⟩
  by_cases a3:Y.length=1
  ·obtain⟨y,rfl⟩:∃y,Y=[y]:=LC.1 a3
   have e:A++X++[y]++Z=A++X++y::Z:=by simp
   rw[e]at I o⊢
   exact qBR A X Z y a m b N ha C (by simpa using J) (by omega) I hn o hX
  obtain⟨g,b1⟩:∃g,g=(a+b)/2:=⟨_,rfl⟩;have F:∀q,q<X.length->ai (A++X++Y++Z) (a+q)=ai X q:=fun q hq=>by rw[ha,bX (A++X)];exact Ag A X (Y++Z) q hq
  have H:∀q,q<Y.length->ai (A++X++Y++Z) (m+q)=ai Y q:=fun q hq=>by have:=Ag (A++X) Y Z q hq;rw[cG,<-ha,<-C]at this;exact this
  have key:∀i j:Nat,(if g<m then i=g+m-b/\j=g else i=a/\j=m)->∃st,i<=st/\st<=j/\(st=i\/cZ (ai (A++X++Y++Z) (st-1)) (ai (A++X++Y++Z) (g+m-1-(st-1))))/\(st=j\/cZ (ai (A++X++Y++Z) (g+m-1-st)) (ai (A++X++Y++Z) st))/\
   bq XV [70,74,122,126] 1 [0,1,2,3,4,18,19,20,21,22] ms ⟨[(0,.tsl true 0 3 N),(1,aa a),(2,aa m),(3,aa b),(4,.fn 6 []),(18,aa g),(19,aa (g+m:Nat)),(20,aa i),(21,aa j),(22,aa (g+m-1:Nat))],[some (kc (A++X++Y++Z))]⟩=
    some (.exit 8,⟨[(0,.tsl true 0 3 N),(1,aa a),(2,aa m),(3,aa b),(4,.fn 6 []),(18,aa g),(19,aa (g+m:Nat)),(20,aa st),(21,aa st),(22,aa (g+m-1:Nat)),(151,au false)],[some (kc (A++X++Y++Z))]⟩):=by
   intro i j R;have z:i<=j/\j<=N/\∀c,i<=c->c<j->c<=g+m-1/\g+m-1-c<N:=by
    split at R
    ·obtain⟨rfl,rfl⟩:=R
     exact⟨by omega,by omega,fun c D w=>by omega⟩
    ·obtain⟨rfl,rfl⟩:=R
     exact⟨by omega,by omega,fun c D w=>by omega⟩
   have hl:=Ro (A++X++Y++Z) (g+m-1) a m b g (g+m:Nat) (by rw[<-I];exact hn) (by omega) o (j-i) i j z.1 (bI _) (by rw[<-I];exact z.2.1) (by rw[<-I];exact z.2.2);obtain⟨s1,s2,s3,s4⟩:=xi (fun c=> !decide (T.cmp (ai (A++X++Y++Z) (g+m-1-c)) (ai (A++X++Y++Z) c)<0)) (j-i) i j z.1 (bI _);rw[<-I]at hl;refine⟨_,s1,s2,s3.imp_right fun h=>si (by simpa using h),s4.imp_right fun h=>rQ (by simpa using h),hl⟩
  obtain⟨i0,j0,n⟩:∃i j:Nat,(if g<m then i=g+m-b/\j=g else i=a/\j=m):=by
   by_cases h:g<m
   ·exact⟨g+m-b,g,by rw[ay h];exact⟨rfl,rfl⟩⟩
   ·exact⟨a,m,by rw[aC h];exact⟨rfl,rfl⟩⟩
  obtain⟨st,q1,q2,q3,q4,b2⟩:=key i0 j0 n;clear key;have hb1:a<=st/\st<=m/\st<=g/\m<=g+m-st/\g+m-st<=b:=by
   split at n
   ·obtain⟨rfl,rfl⟩:=n;omega
   ·obtain⟨rfl,rfl⟩:=n;omega
  obtain⟨t,ht⟩:∃t,st=a+t:=⟨st-a,by omega⟩;obtain⟨u,hu⟩:∃u,g+m-st=m+u:=⟨g-st,by omega⟩;have htl:t<=X.length:=by omega
  have hul:u<=Y.length:=by omega
  have M:X.take t++X.drop t=X:=dJ _ _;have O:Y.take u++Y.drop u=Y:=dJ _ _;have lx1:(X.take t).length=t:=by simp;omega
  have lx2:(X.drop t).length=X.length-t:=by simp
  have ly1:(Y.take u).length=u:=by simp;omega
  have ne:∀l:ah,l≠[]->0<l.length:=fun l h=>yl.2 h
  obtain⟨sx1,Q,a2⟩:=ob.1 (show b0 (X.take t++X.drop t)by rw[M];exact hX);obtain⟨P,h5,x1⟩:=ob.1 (show b0 (Y.take u++Y.drop u)by rw[O];exact hY);have F1:∀p,p∈X.take t->∀q,q∈Y.drop u->cZ p q:=D_ sx1 h5 fun s r hs hr=>by
   obtain⟨D,w⟩:=CW htl hs;obtain⟨h3,h4⟩:=A3 hr;rcases q3 with q3|q3
   ·exfalso
    split at n
    ·obtain⟨rfl,rfl⟩:=n;omega
    ·obtain⟨rfl,rfl⟩:=n;omega
   ·rw[show st-1=a+(t-1)by omega,F _ (by omega),show g+m-1-(a+(t-1))=m+u by omega,H _ h3]at q3
    rw[w,h4];exact q3
  have F2:∀p,p∈Y.take u->∀q,q∈X.drop t->cZ p q:=D_ P Q fun s r hs hr=>by
   obtain⟨D,w⟩:=CW hul hs;obtain⟨h3,h4⟩:=A3 hr;rcases q4 with q4|q4
   ·exfalso
    split at n
    ·obtain⟨rfl,rfl⟩:=n;omega
    ·obtain⟨rfl,rfl⟩:=n;omega
   ·rw[show g+m-1-st=m+(u-1)by omega,H _ (by omega),show st=a+t from ht,F _ h3]at q4
    rw[w,h4];exact q4
  generalize hX1:X.take t=X1 at*
  generalize hX2:X.drop t=X2 at*
  generalize hY1:Y.take u=Y1 at*
  generalize hY2:Y.drop u=Y2 at*
  clear F H q3 q4;subst M;subst O;have L:∃W1:ah,W1.Perm (X1++Y1)/\b0 W1/\((X1≠[]/\Y1≠[])->aj XV 173 [.tsl true 0 3 N,aa a,aa st,aa g,.fn 6 []] [some (kc (A++(X1++Y1)++(X2++Y2)++Z))]=some (.d (.tup []),[some (kc (A++W1++(X2++Y2)++Z))]))/\(¬(X1≠[]/\Y1≠[])->W1=X1++Y1):=by
   by_cases h:X1≠[]/\Y1≠[]
   ·obtain⟨W,w1,w2,w3⟩:=ih A X1 Y1 (X2++Y2++Z) a st g N (by simp at hk C J;omega) (ne _ h.1) (ne _ h.2) ha (by omega) (by simp at C J;omega) (by simp at V⊢;omega) hn (fun x hx=>o x (by
     simp only[bw]at hx⊢
     rcases hx with((h|h)|h)|((h|h)|h)<;>simp[h])) sx1 P
    refine⟨W,w1,w2,fun _=> ?_,fun h'=>absurd h h'⟩;have G:A++(X1++Y1)++(X2++Y2)++Z=A++X1++Y1++(X2++Y2++Z):=by simp
    have K:A++W++(X2++Y2)++Z=A++W++(X2++Y2++Z):=by simp
    rw[G,K];exact w3
   ·refine⟨X1++Y1,kt _,?_,fun h'=>absurd h' h,fun _=>rfl⟩
    by_cases G:X1=[]
    ·subst G;rw[co];exact P
    ·by_cases K:Y1=[]
     ·subst K;rw[cS];exact sx1
     ·exact absurd ⟨G,K⟩ h
  obtain⟨W1,p1,s1,c1,c1'⟩:=L;have lw1:W1.length=X1.length+Y1.length:=by rw[p1.length_eq];simp
  have Rr:∃W2:ah,W2.Perm (X2++Y2)/\b0 W2/\((X2≠[]/\Y2≠[])->aj XV 173 [.tsl true 0 3 N,aa g,aa (m+Y1.length:Nat),aa b,.fn 6 []] [some (kc (A++W1++(X2++Y2)++Z))]=some (.d (.tup []),[some (kc (A++W1++W2++Z))]))/\(¬(X2≠[]/\Y2≠[])->W2=X2++Y2):=by
   by_cases h:X2≠[]/\Y2≠[]
   ·obtain⟨W,w1,w2,w3⟩:=ih (A++W1) X2 Y2 Z g (m+Y1.length) b N (by simp at hk C J;omega) (ne _ h.1) (ne _ h.2) (by simp at C J⊢;omega) (by simp at C J⊢;omega) (by simp at C J⊢;omega) (by simp at V⊢;omega) hn (fun x hx=>o x (by
     simp only[bw]at hx⊢
     rcases hx with(((h|h)|h)|h)|h
     ·simp[h]
     ·have:=p1.mem_iff.1 h
      simp only[bw]at this;rcases this with h|h<;>simp[h]
     ·simp[h]
     ·simp[h]
     ·simp[h])) Q h5
    refine⟨W,w1,w2,fun _=> ?_,fun h'=>absurd h h'⟩;have G:A++W1++(X2++Y2)++Z=A++W1++X2++Y2++Z:=by simp
    rw[G];exact w3
   ·refine⟨X2++Y2,kt _,?_,fun h'=>absurd h' h,fun _=>rfl⟩
    by_cases G:X2=[]
    ·subst G;rw[co];exact h5
    ·by_cases K:Y2=[]
     ·subst K;rw[cS];exact Q
     ·exact absurd ⟨G,K⟩ h
  obtain⟨W2,p2,s2,c2,c2'⟩:=Rr;refine⟨W1++W2,?_,ob.2 ⟨s1,s2,fun p hp q hq=> ?_⟩,?_⟩
  ·refine(p1.append p2).trans ?_
   have:=yt (l₁:=Y1) (l₂:=X2);have h3:=((kt X1).append (this.append (kt Y2)));simpa using h3
  ·have D:=p1.mem_iff.1 hp
   have w:=p2.mem_iff.1 hq;rcases bw.1 D with D|D<;>rcases bw.1 w with w|w
   ·exact a2 p D q w
   ·exact F1 p D q w
   ·exact F2 p D q w
   ·exact x1 p D q w
  ·have x2:X2≠[]->Y1≠[]->aj XV 174 [.tsl true 0 3 N,aa st,aa m,aa (m+Y1.length:Nat),.fn 6 []] [some (kc (A++(X1++X2)++(Y1++Y2)++Z))]=some (.d (.tup []),[some (kc (A++(X1++Y1)++(X2++Y2)++Z))]):=fun D w=>by
    have hro:=ZD (A++X1) X2 Y1 (Y2++Z) st m (m+Y1.length) N (by simp;omega) (by simp at C⊢;omega) (by simp at C⊢;omega) (by simp at V⊢;omega) hn (ne _ D) (ne _ w) (.fn 6 []) (by simp[AV.clr,AV.clrs]) (by simp[ix,eP]);have G:A++(X1++X2)++(Y1++Y2)++Z=A++X1++X2++Y1++(Y2++Z):=by simp
    have K:A++(X1++Y1)++(X2++Y2)++Z=A++X1++Y1++X2++(Y2++Z):=by simp
    rw[G,K];exact hro
   have a1:A++(W1++W2)++Z=A++W1++W2++Z:=by simp
   rw[a1];exact qIW A X1 X2 Y1 Y2 Z W1 W2 a m b g st N ha (by simp at C;omega) (by simp at J;omega) (by simp at x3 hx;omega) (by simp at a3 hy;omega) b1 (by omega) (by simp at C J;omega) I hn (fun i j h=>by
    have:i=i0/\j=j0:=by split at h<;>split at n<;>first|omega|skip
    rw[this.1,this.2];exact b2) x2 c1 c1' c2 c2'
inductive Blk(s:Nat):ah->Prop where
 |last (l:ah):l.length<s->b0 l->Blk s l
 |cons (c r:ah):c.length=s->b0 c->Blk s r->Blk s (c++r)
theorem Blk.srt{s:Nat}{l:ah}(h:Blk s l)(b:l.length<=s)(d:0<s):b0 l:=by
 cases h with
 |last _ _ a=>exact a
 |cons c r e a g=>have:r=[]:=gS.1 (by simp at b;omega);subst this;rw[cS];exact a
theorem ZE(N:Nat)(J:N<=1099511627776):∀(k:Nat) (P R:ah),R.length<=k->(P++R).length=N->(∀t,t∈P++R->t.inner<=1099511627776)->
 ∃(b d:ah) (a:Nat),d.length<20/\a=P.length+b.length/\a+d.length=N/\(b++d).Perm R/\(∀Q,Blk 20 Q->Blk 20 (b++Q))/\
  bq XV [] 1 [0,1,2,6,7,8] qD ⟨[(0,.tsl true 0 3 N),(1,aa N),(2,.fn 6 []),(6,aa 20),(7,aa P.length),(8,aa (P.length+20:Nat))],[some (kc (P++R))]⟩=
   some (.exit 0,⟨[(0,.tsl true 0 3 N),(1,aa N),(2,.fn 6 []),(6,aa 20),(7,aa a),(8,aa (a+20:Nat)),(13,au false)],[some (kc (P++b++d))]⟩):=by
 have head:∀(x y:Int) (c:aG),aA 1 [0,1,2,6,7,8] ⟨[(0,.tsl true 0 3 N),(1,aa N),(2,.fn 6 []),(6,aa 20),(7,aa x),(8,aa y)],[some c]⟩=some ⟨[(0,.tsl true 0 3 N),(1,aa N),(2,.fn 6 []),(6,aa 20),(7,aa x),(8,aa y)],[some c]⟩:=fun x y c=>by simp[aA,aB,fN,ix,eP]
 have stop:∀(P R:ah),(P++R).length=N->R.length<20->bq XV [] 1 [0,1,2,6,7,8] qD ⟨[(0,.tsl true 0 3 N),(1,aa N),(2,.fn 6 []),(6,aa 20),(7,aa P.length),(8,aa (P.length+20:Nat))],[some (kc (P++R))]⟩=
  some (.exit 0,⟨[(0,.tsl true 0 3 N),(1,aa N),(2,.fn 6 []),(6,aa 20),(7,aa P.length),(8,aa (P.length+20:Nat)),(13,au false)],[some (kc (P++R))]⟩):=fun P R M h2=>by
  refine dX (head _ _ _) ?_ (by simp);have q:¬(((P.length+20:Nat):Int)<=(N:Int)):=by simp at M;omega
  generalize ((P.length+20:Nat):Int)=v at*
  generalize (N:Int)=w at*
  simp[qD,q]
 intro k
 induction k with
 |zero=>intro P R z i e;exact⟨[],R,P.length,by omega,by simp,by simpa using i,by simp,fun Q h=>by simpa using h,by simpa using stop P R i (by omega)⟩
 |succ k ih=>
  intro P R z i e
  by_cases s:R.length<20
  ·exact⟨[],R,P.length,s,by simp,by simpa using i,by simp,fun Q h=>by simpa using h,by simpa using stop P R i s⟩
  ·have r:(R.take 20).length=20:=by simp;omega
   have g:R.take 20++R.drop 20=R:=dJ _ _;have G:(R.drop 20).length=R.length-20:=by simp
   generalize R.take 20=C at r g;generalize R.drop 20=D at G g;subst g;have I:P.length+C.length+D.length=N:=by simp at i;omega
   have F:P++(C++D)=P++C++D:=by simp
   obtain⟨W,l,w2,m⟩:=I6 P C D P.length (P.length+20) N rfl (by omega) (by simp;omega) J (fun t j=>e t (by rw[F];exact j));have p:W.length=20:=by rw[l.length_eq,r]
   have o:(P++W).length=P.length+20:=by simp;omega
   obtain⟨b,d,a,r1,H,K,O,r5,V⟩:=ih (P++W) D (by simp at z;omega) (by simp;omega) (fun t j=>e t (by
    simp only[bw]at j⊢
    rcases j with(h|h)|h
    ·simp[h]
    ·simp[l.mem_iff.1 h]
    ·simp[h]))
   refine⟨W++b,d,a,r1,by simp at H⊢;omega,K,?_,fun Q hQ=>by rw[bX];exact .cons W _ p w2 (r5 Q hQ),?_⟩
   ·rw[bX];exact l.append O
   ·have Z:P++(W++b)++d=P++W++b++d:=by simp
    rw[Z,<-V,o,F];refine d_ (head _ _ _) ?_;have n:(((P.length+20:Nat):Int)<=(N:Int)):=by omega
    have Y:IntKind.i64.wrap (((P.length+20:Nat):Int)+20)=((P.length+20+20:Nat):Int):=by rw[wrap_i64 (by omega) (by omega)];omega
    generalize kc (P++C++D)=c1 at m⊢
    generalize kc (P++W++D)=c2 at m⊢
    generalize ((P.length+20+20:Nat):Int)=gv2 at*
    generalize ((P.length+20:Nat):Int)=v at*
    generalize (P.length:Int)=u at*
    generalize h3:(N:Int)=w at*
    simp[qD,n,Y,m]
theorem Rs(N s:Nat)(hn:N<=1099511627776)(hs:0<s)(x2:s<=1099511627776):∀(k:Nat) (P R:ah),R.length<=k->(P++R).length=N->(∀t,t∈P++R->t.inner<=1099511627776)->Blk s R->
 ∃(g e:ah) (a:Nat),e.length<2*s/\a=P.length+g.length/\a+e.length=N/\(g++e).Perm R/\Blk s e/\(∀Q,Blk (2*s) Q->Blk (2*s) (g++Q))/\
  bq XV [] 1 [0,1,2,6,7,8] xS ⟨[(0,.tsl true 0 3 N),(1,aa N),(2,.fn 6 []),(6,aa s),(7,aa P.length),(8,aa (P.length+2*s:Nat))],[some (kc (P++R))]⟩=
   some (.exit 4,⟨[(0,.tsl true 0 3 N),(1,aa N),(2,.fn 6 []),(6,aa s),(7,aa a),(8,aa (a+2*s:Nat)),(35,au false)],[some (kc (P++g++e))]⟩):=by
 have head:∀(x y:Int) (c:aG),aA 1 [0,1,2,6,7,8] ⟨[(0,.tsl true 0 3 N),(1,aa N),(2,.fn 6 []),(6,aa s),(7,aa x),(8,aa y)],[some c]⟩=some ⟨[(0,.tsl true 0 3 N),(1,aa N),(2,.fn 6 []),(6,aa s),(7,aa x),(8,aa y)],[some c]⟩:=fun x y c=>by simp[aA,aB,fN,ix,eP]
 have stop:∀(P R:ah),(P++R).length=N->R.length<2*s->bq XV [] 1 [0,1,2,6,7,8] xS ⟨[(0,.tsl true 0 3 N),(1,aa N),(2,.fn 6 []),(6,aa s),(7,aa P.length),(8,aa (P.length+2*s:Nat))],[some (kc (P++R))]⟩=
  some (.exit 4,⟨[(0,.tsl true 0 3 N),(1,aa N),(2,.fn 6 []),(6,aa s),(7,aa P.length),(8,aa (P.length+2*s:Nat)),(35,au false)],[some (kc (P++R))]⟩):=fun P R m J=>by
  refine dX (head _ _ _) ?_ (by simp);have H:¬(((P.length+2*s:Nat):Int)<=(N:Int)):=by simp at m;omega
  generalize ((P.length+2*s:Nat):Int)=v at*
  generalize (N:Int)=w at*
  simp[xS,H]
 intro k
 induction k with
 |zero=>intro P R M j i l;exact⟨[],R,P.length,by omega,by simp,by simpa using j,by simp,l,fun Q h=>by simpa using h,by simpa using stop P R j (by omega)⟩
 |succ k ih=>
  intro P R M j i l
  by_cases F:R.length<2*s
  ·exact⟨[],R,P.length,F,by simp,by simpa using j,by simp,l,fun Q h=>by simpa using h,by simpa using stop P R j F⟩
  ·obtain⟨d,b,D,rfl,l1,l2,V,b2,b3⟩:∃d b D,R=d++(b++D)/\d.length=s/\b.length=s/\b0 d/\b0 b/\Blk s D:=by
    cases l with
    |last _ m _=>omega
    |cons c r m J h3=>
     cases h3 with
     |last _ K _=>simp at F;omega
     |cons c' r' K h5 Y=>exact⟨c,c',r',rfl,m,K,J,h5,Y⟩
   have x1:P.length+d.length+b.length+D.length=N:=by simp at j;omega
   have O:P++(d++(b++D))=P++d++b++D:=by simp
   obtain⟨W,p,w2,q⟩:=OK (d.length+b.length) P d b D P.length (P.length+s) (P.length+2*s) N (bI _) (by omega) (by omega) rfl (by omega) (by omega) (by simp;omega) hn (fun t n=>i t (by rw[O];exact n)) V b2;have G:W.length=2*s:=by rw[p.length_eq];simp;omega
   have C:(P++W).length=P.length+2*s:=by simp;omega
   obtain⟨g,e,a,r1,Z,r3,r4,r5,r6,r7⟩:=ih (P++W) D (by simp at M;omega) (by simp;omega) (fun t n=>i t (by
    simp only[bw]at n⊢
    rcases n with(h|h)|h
    ·simp[h]
    ·have:=p.mem_iff.1 h
     simp only[bw]at this;rcases this with h|h<;>simp[h]
    ·simp[h])) b3
   refine⟨W++g,e,a,r1,by simp at Z⊢;omega,r3,?_,r5,fun Q hQ=>by rw[bX];exact .cons W _ G w2 (r6 Q hQ),?_⟩
   ·rw[bX]
    refine(p.append r4).trans ?_;simp
   ·have e1:P++(W++g)++e=P++W++g++e:=by simp
    rw[e1,<-r7,C,O];refine d_ (head _ _ _) ?_;have z:(((P.length+2*s:Nat):Int)<=(N:Int)):=by omega
    have hw:IntKind.i64.wrap (((P.length+2*s:Nat):Int)+((2*s:Nat):Int))=((P.length+2*s+2*s:Nat):Int):=by rw[wrap_i64 (by omega) (by omega)];omega
    have o:IntKind.i64.wrap (2*(s:Int))=((2*s:Nat):Int):=by rw[wrap_i64 (by omega) (by omega)];omega
    have I:IntKind.i64.wrap ((P.length:Int)+s)=((P.length+s:Nat):Int):=by rw[wrap_i64 (by omega) (by omega)];omega
    generalize kc (P++d++b++D)=c1 at q⊢
    generalize kc (P++W++D)=c2 at q⊢
    generalize ((P.length+2*s+2*s:Nat):Int)=gv2 at*
    generalize ((P.length+2*s:Nat):Int)=v at*
    generalize ((P.length+s:Nat):Int)=gv3 at*
    generalize ((2*s:Nat):Int)=gv4 at*
    generalize (P.length:Int)=u at*
    generalize (s:Int)=gs at*
    generalize x3:(N:Int)=w at*
    simp[xS,z,hw,o,I,q]
theorem Xy(N:Nat)(hn:N<=1099511627776):∀(k s:Nat) (l:ah),N-s<=k->0<s->s<=2199023255552->l.length=N->(∀t,t∈l->t.inner<=1099511627776)->Blk s l->
 ∃(l':ah) (s':Nat),l'.Perm l/\b0 l'/\
  bq XV [] 1 [0,1,2,6] pC ⟨[(0,.tsl true 0 3 N),(1,aa N),(2,.fn 6 []),(6,aa s)],[some (kc l)]⟩=
   some (.exit 2,⟨[(0,.tsl true 0 3 N),(1,aa N),(2,.fn 6 []),(6,aa s'),(30,au false)],[some (kc l')]⟩):=by
 have head:∀(x:Int) (c:aG),aA 1 [0,1,2,6] ⟨[(0,.tsl true 0 3 N),(1,aa N),(2,.fn 6 []),(6,aa x)],[some c]⟩=some ⟨[(0,.tsl true 0 3 N),(1,aa N),(2,.fn 6 []),(6,aa x)],[some c]⟩:=fun x c=>by simp[aA,aB,fN,ix,eP]
 have stop:∀(s:Nat) (l:ah),0<s->N<=s->l.length=N->Blk s l->∃(l':ah) (s':Nat),l'.Perm l/\b0 l'/\
  bq XV [] 1 [0,1,2,6] pC ⟨[(0,.tsl true 0 3 N),(1,aa N),(2,.fn 6 []),(6,aa s)],[some (kc l)]⟩=
   some (.exit 2,⟨[(0,.tsl true 0 3 N),(1,aa N),(2,.fn 6 []),(6,aa s'),(30,au false)],[some (kc l')]⟩):=fun s l i G Z K=>by
  refine⟨l,s,kt _,K.srt (by omega) i,?_⟩;refine dX (head _ _) ?_ (by simp);have e:¬((s:Int)<(N:Int)):=by omega
  generalize (s:Int)=v at*
  generalize (N:Int)=w at*
  simp[pC,e]
 intro k
 induction k with
 |zero=>intro s l hk i P y n z;exact stop s l i (by omega) y z
 |succ k ih=>
  intro s l hk i P y n z
  by_cases M:N<=s
  ·exact stop s l i M y z
  obtain⟨b,j,a,r1,R,r3,V,r5,r6,F⟩:=Rs N s hn i (by omega) l.length [] l (bI _) (by simpa using y) (by simpa using n) z;simp only[co,lE,dE]at R F;have m:∀t,t∈b++j->t.inner<=1099511627776:=fun t q=>n t (V.mem_iff.1 q)
  obtain⟨W,p,Q,I⟩:∃W:ah,W.Perm j/\b0 W/\((((a+s:Nat):Int)<(N:Int)/\aj XV 173 [.tsl true 0 3 N,aa a,aa (a+s:Nat),aa N,.fn 6 []] [some (kc (b++j))]=some (.d (.tup []),[some (kc (b++W))]))\/(¬((a+s:Nat):Int)<(N:Int)/\W=j)):=by
   by_cases h:a+s<N
   ·obtain⟨C,D,rfl,l1,b1,b2⟩:∃C D,j=C++D/\C.length=s/\b0 C/\Blk s D:=by
     cases r5 with
     |last _ G _=>omega
     |cons c r G Z K=>exact⟨c,r,rfl,G,Z,K⟩
    have Y:a+(s+D.length)=N:=by simp at r3;omega
    obtain⟨W,p,Q,I⟩:=OK (C.length+D.length) b C D [] a (a+s) N N (bI _) (by omega) (by omega) R (by omega) (by omega) (by simp;omega) hn (fun t q=>m t (by simpa using q)) b1 (b2.srt (by omega) i);refine⟨W,p,Q,.inl ⟨by omega,?_⟩⟩;have e1:b++(C++D)=b++C++D++[]:=by simp
    have e2:b++W=b++W++[]:=by simp
    rw[e1,e2];exact I
   ·exact⟨j,kt _,r5.srt (by omega) i,.inr ⟨by omega,rfl⟩⟩
  have h4:W.length=j.length:=p.length_eq;have O:Blk (2*s) (b++W):=r6 W (.last W (by omega) Q);obtain⟨l',s',p1,p2,p3⟩:=ih (2*s) (b++W) (by omega) (by omega) (by omega) (by simp;omega) (fun t q=>m t (by
   rcases bw.1 q with h|h
   ·simp[h]
   ·simp[p.mem_iff.1 h])) O
  refine⟨l',s',p1.trans ((kt b).append p|>.trans V),p2,?_⟩;rw[<-p3];refine d_ (head _ _) ?_;have e:((s:Int)<(N:Int)):=by omega
  have o:IntKind.i64.wrap (2*(s:Int))=((2*s:Nat):Int):=by rw[wrap_i64 (by omega) (by omega)];omega
  have g:IntKind.i64.wrap ((s:Int)*2)=((2*s:Nat):Int):=by rw[wrap_i64 (by omega) (by omega)];omega
  have u:IntKind.i64.wrap ((a:Int)+s)=((a+s:Nat):Int):=by rw[wrap_i64 (by omega) (by omega)];omega
  simp only[nv]at F;rcases I with⟨J,g2⟩|⟨J,rfl⟩
  ·generalize kc (b++W)=c3 at*
   generalize kc (b++j)=c2 at*
   generalize kc l=c1 at*
   generalize ((a+2*s:Nat):Int)=gv1 at*
   generalize ((a+s:Nat):Int)=gv3 at*
   generalize ((2*s:Nat):Int)=gv4 at*
   generalize (a:Int)=ga at*
   generalize (s:Int)=gs at*
   generalize H:(N:Int)=w at*
   simp[pC,e,o];rw[F];simp[g,u,J,g2]
  ·generalize kc (b++W)=c2 at*
   generalize kc l=c1 at*
   generalize ((a+2*s:Nat):Int)=gv1 at*
   generalize ((a+s:Nat):Int)=gv3 at*
   generalize ((2*s:Nat):Int)=gv4 at*
   generalize (a:Int)=ga at*
   generalize (s:Int)=gs at*
   generalize H:(N:Int)=w at*
   simp[pC,e,o];rw[F];simp[g,u,J]
theorem qFe(l:ah)(m:l.length<=1099511627776)(e:∀t,t∈l->t.inner<=1099511627776):
 ∃l':ah,l'.Perm l/\b0 l'/\aj XV 171 [.tsl true 0 3 l.length,aa l.length,.fn 6 []] [some (kc l)]=some (.d (.tup []),[some (kc l')]):=by
 obtain⟨c,i,a,F,n,D,p,C,j⟩:=ZE l.length m l.length [] l (bI _) (by simp) (by simpa using e);simp only[co,lE,dE]at n j;have b:∀t,t∈c++i->t.inner<=1099511627776:=fun t g=>e t (p.mem_iff.1 g)
 obtain⟨W,k,x,q⟩:=I6 c i [] a l.length l.length n (by omega) (by simp;omega) m (fun t g=>b t (by simpa using g));simp only[cS]at q;have r:W.length=i.length:=k.length_eq;have y:Blk 20 (c++W):=C W (.last W (by omega) x);obtain⟨l',s',s,z,o⟩:=Xy l.length m l.length 20 (c++W) (by omega) (by omega) (by omega) (by simp;omega) (fun t g=>b t (by
  rcases bw.1 g with h|h
  ·simp[h]
  ·simp[k.mem_iff.1 h])) y
 refine⟨l',s.trans ((kt c).append k|>.trans p),z,?_⟩;rw[aK 171 tF rfl];simp only[nv,show((20:Nat):Int)=20 from rfl]at j o;generalize kc (c++W)=c3 at*
 generalize kc (c++i)=c2 at*
 generalize kc l=c1 at*
 generalize kc l'=c4 at*
 generalize ((a+20:Nat):Int)=gv1 at*
 generalize (a:Int)=ga at*
 generalize u:(l.length:Int)=w at*
 simp[tF];rw[j];simp[EA,q];rw[o];simp
theorem qq1(l:ah)(b:l.length<=1099511627776)(a:∀t,t∈l->t.inner<=1099511627776):
 ∃l':ah,l'.Perm l/\b0 l'/\aj XV 170 [.tsl true 0 3 l.length,.fn 6 []] [some (kc l)]=some (.d (.tup []),[some (kc l')]):=by
 obtain⟨l',c,g,e⟩:=qFe l b a;refine⟨l',c,g,?_⟩;rw[aK 170 sP rfl];generalize kc l'=c2 at*
 generalize kc l=c1 at*
 simp[sP,e]
mutual
theorem qPo:∀t:T,(t.enc U).allU=true
 | .node f v ks=>by
  have:=EM ks;unfold T.enc;cases ks with
  |nil=>simp[T.encs,DV.allU,DV.allUs]
  |cons a r=>simp only[T.encs]at this⊢;simp[DV.allU,DV.allUs]at this⊢;exact this
theorem EM:∀l:ah,DV.allUs (T.encs U l)=true
 | []=>by simp[T.encs,DV.allUs]
 |t::r=>by simp[T.encs,DV.allUs,qPo t,EM r]
end
theorem qPn:∀l:ah,DV.allUs (l.map (T.enc U))=true:=fun l=>by rw[<-T.qeO];exact EM l
def nB(f v:Int)(ks:ah):az:=[some [aa f,aa v,.d (ao .sub ks)],some [aa 0,aa 0,.d (.sl U [])]]
theorem X7(s:aD)(q:s.length<=1099511627776)(f v:Int)(ks acc:ah)(r:ks.length<=1099511627776)(i:Nat)(hi:i<ks.length)(p:acc.length<=1099511627776)(u:((ai ks i).norm s).kids.length<=1099511627776)
 (hc:aj XV 169 [.d (sg s),.d ((ai ks i).enc .sub)] []=some (.d (((ai ks i).norm s).enc U),[])):
 ∃e:az,aS XV (XV.lin 169) nH ⟨[(0,.d (sg s)),(3,.ptr 0 0),(4,.ptr 1 0),(5,.d (.sl U (acc.map (T.enc U)))),(10,.d (ao .sub ks)),(11,aa ks.length),(12,aa i)],nB f v ks⟩=
  some (.normal,⟨[(0,.d (sg s)),(3,.ptr 0 0),(4,.ptr 1 0),(5,.d (.sl U ((acc++dw s f ((ai ks i).norm s)).map (T.enc U)))),(10,.d (ao .sub ks)),(11,aa ks.length),(12,aa (i+1:Nat))],nB f v ks++e⟩):=by
 have g:=aV (n:=i) (by omega);have j:=xX s q f;have l:=aZ hi;generalize ai ks i=k at*
 generalize w:k.norm s=n at*
 unfold dw nB
 by_cases c:br s f=true
 ·by_cases o:(n.f==f)=true
  ·have a:=rC acc n.kids U (by omega)
   generalize b:(acc++n.kids).map (T.enc U)=l2 at a;generalize acc.map (T.enc U)=l1 at a⊢
   refine⟨[some [aa n.f,aa n.v,.d (ao .sub n.kids)]],?_⟩;simp[nH,hi,g,cut,l,hc,j,c,o,a,b,splice,aY,a6,bb,ba,aW,AV.qay]
  ·have a:=rC acc [n] U (by simp;omega)
   have m:(n.f==f)=false:=by simpa using o
   simp only[bF,bT]at a;generalize b:(acc++[n]).map (T.enc U)=l2 at a;generalize acc.map (T.enc U)=l1 at a⊢
   refine⟨[some [aa n.f,aa n.v,.d (ao .sub n.kids)]],?_⟩;simp[nH,hi,g,cut,l,hc,j,c,m,a,b,splice,aY,a6,bb,ba,aW,AV.qay]
 ·have h:br s f=false:=by simpa using c
  have a:=rC acc [n] U (by simp;omega);simp only[bF,bT]at a;generalize b:(acc++[n]).map (T.enc U)=l2 at a;generalize acc.map (T.enc U)=l1 at a⊢
  refine⟨[some [aa n.f,aa n.v,.d (ao .sub n.kids)]],?_⟩;simp[nH,hi,g,cut,l,hc,j,h,a,b,splice,aY,a6,bb,ba,aW,AV.qay]
theorem Tt(B:az):aj XV 172 [.d (.sl .sub []),aa 0,aa 0,.fn 6 []] B=some (.d (.tup []),B):=by
 rw[aK 172 oi rfl];have a:bq XV [46,50] B.length [0,1,2,3,8] pR ⟨[(0,.d (.sl .sub [])),(1,aa 0),(2,aa 0),(3,.fn 6 []),(8,aa 1)],B⟩=some (.exit 0,⟨[(0,.d (.sl .sub [])),(1,aa 0),(2,aa 0),(3,.fn 6 []),(8,aa 1),(14,au false)],B⟩):=by refine dX (s0:=⟨[(0,.d (.sl .sub [])),(1,aa 0),(2,aa 0),(3,.fn 6 []),(8,aa 1)],B⟩) (by simp[aA,aB,ix,eP]) ?_ (by simp);simp[pR]
 simp[oi,wrap_i64];rw[a];simp
theorem YQ(B:az):aj XV 170 [.d (.sl .sub []),.fn 6 []] B=some (.d (.tup []),B):=by
 have hi:=Tt B;have a:bq XV [] B.length [0,1,2,6,7,8] qD ⟨[(0,.d (.sl .sub [])),(1,aa 0),(2,.fn 6 []),(6,aa 20),(7,aa 0),(8,aa 20)],B⟩=some (.exit 0,⟨[(0,.d (.sl .sub [])),(1,aa 0),(2,.fn 6 []),(6,aa 20),(7,aa 0),(8,aa 20),(13,au false)],B⟩):=by refine dX (s0:=⟨[(0,.d (.sl .sub [])),(1,aa 0),(2,.fn 6 []),(6,aa 20),(7,aa 0),(8,aa 20)],B⟩) (by simp[aA,aB,ix,eP]) ?_ (by simp);simp[qD]
 have c:bq XV [] B.length [0,1,2,6] pC ⟨[(0,.d (.sl .sub [])),(1,aa 0),(2,.fn 6 []),(6,aa 20)],B⟩=some (.exit 2,⟨[(0,.d (.sl .sub [])),(1,aa 0),(2,.fn 6 []),(6,aa 20),(30,au false)],B⟩):=by refine dX (s0:=⟨[(0,.d (.sl .sub [])),(1,aa 0),(2,.fn 6 []),(6,aa 20)],B⟩) (by simp[aA,aB,ix,eP]) ?_ (by simp);simp[pC]
 have b:aj XV 171 [.d (.sl .sub []),aa 0,.fn 6 []] B=some (.d (.tup []),B):=by rw[aK 171 tF rfl];simp[tF];rw[a];simp[EA,hi];rw[c];simp
 rw[aK 170 sP rfl];simp[sP,b]
theorem qUx(s:aD)(m:s.length<=1099511627776)(f v:Int)(ks:ah)(p:bJ ks<=1099511627776)
 (hc:∀t,t∈ks->aj XV 169 [.d (sg s),.d (t.enc .sub)] []=some (.d ((t.norm s).enc U),[])):∀(k i:Nat),i+k=ks.length->∀e:az,
 bq XV (XV.lin 169) 2 [0,3,4,5,10,11,12] nH ⟨[(0,.d (sg s)),(3,.ptr 0 0),(4,.ptr 1 0),(5,.d (.sl U ((ia s f ks i).map (T.enc U)))),(10,.d (ao .sub ks)),(11,aa ks.length),(12,aa i)],nB f v ks++e⟩=
  some (.exit 0,⟨[(0,.d (sg s)),(3,.ptr 0 0),(4,.ptr 1 0),(5,.d (.sl U ((flatK s f (T.norms s ks)).map (T.enc U)))),(10,.d (ao .sub ks)),(11,aa ks.length),(12,aa ks.length),(13,au false)],nB f v ks⟩):=by
 have head:∀(x y:AV) (e:az),y.clr=y->x.safe 2=true->y.safe 2=true->aA 2 [0,3,4,5,10,11,12] ⟨[(0,.d (sg s)),(3,.ptr 0 0),(4,.ptr 1 0),(5,x),(10,.d (ao .sub ks)),(11,aa ks.length),(12,y)],nB f v ks++e⟩=some ⟨[(0,.d (sg s)),(3,.ptr 0 0),(4,.ptr 1 0),(5,x),(10,.d (ao .sub ks)),(11,aa ks.length),(12,y)],nB f v ks⟩:=fun x y e hy hx b=>im (by simp) (by simp[aB,hx,b]) (by simp[nB]) rfl
 intro k
 induction k with
 |zero=>
  intro i hi e;have:i=ks.length:=by omega
  subst this;refine dX (head _ _ e (by simp) (by simp) (by simp)) ?_ (by simp);rw[Od];simp[nH]
 |succ k j=>
  intro i hi e;have a:i<ks.length:=by omega
  have c:=bM a;have n:=eS c;have o:=qj s (ai ks i);have q:=Ma s f ks i;have r:=g8 (ia s f ks i);have l:((ai ks i).norm s).kids.length<=1099511627776:=by have:=g8 ((ai ks i).norm s).kids;rw[Fq]at this;omega
  obtain⟨h,g⟩:=X7 s m f v ks (ia s f ks i) (by have:=g8 ks;omega) i a (by omega) l (hc _ c);rw[<-j (i+1) (by omega) h,Kd s f ks i a];exact d_ (head _ _ e (by simp) (by simp) (by simp)) g
theorem q0A(s:aD)(b:s.length<=1099511627776)(f v:Int)(ks:ah)(e:bJ ks<=1099511627776)
 (hc:∀t,t∈ks->aj XV 169 [.d (sg s),.d (t.enc .sub)] []=some (.d ((t.norm s).enc U),[])):
 aS XV (XV.lin 169) eO.pre ⟨bn 0 [.d (sg s),.d ((T.node f v ks).enc .sub)],[]⟩=
  some (.normal,⟨[(3,.ptr 0 0),(4,.ptr 1 0),(5,.d (.sl U ((flatK s f (T.norms s ks)).map (T.enc U)))),(42,au (br s f))],nB f v ks⟩):=by
 have a:=qUx s b f v ks e hc ks.length 0 (by omega) [];have c:=xX s b f;simp only[Of,bT,cS,PK,nB,nv]at a;simp[eO,qZ,BZ,DF,Db,Du,aY,a6,bb,ba,aW,nB];rw[a];simp[c,aW]
theorem qOx:∀l:ah,((l.map (T.enc U)).flatMap DV.cells).map AV.d=kc l:=fun l=>by rw[EK];rfl
theorem qMS(t:T)(r:ah)(q:bJ (t::r)<=1099511627776):ji (aj XV) eO (t.enc U) (r.map (T.enc U))=some ((dL (t::r)).map (T.enc U)):=by
 have b:=g8 (t::r);obtain⟨l',e,o,l⟩:=qq1 (t::r) (by omega) (fun x hx=>by have:=eS hx;omega);have k:=IL e o;have c:=qPn (t::r);have h:=qOx (t::r);simp only[bF]at c h;unfold ji;rw[ay c,h];have m:(T.enc U t).cells.length=3:=by simp
 have p:(r.map (T.enc U)).length+1=(t::r).length:=by simp
 rw[m,p];have e3:aj XV eO.srt [.tsl true 0 3 (t::r).length,.fn eO.cmp []] [some (kc (t::r))]=some (.d (.tup []),[some (kc l')]):=l;rw[e3];have a:l'.length=(t::r).length:=e.length_eq;have j:bd (kc l')=some (flat (l'.map (T.enc U))):=by rw[EK];exact CO _
 have i:=vd (l'.map (T.enc U)) (Fi U l');have n:(flat (l'.map (T.enc U))).length=(t::r).length*3:=by have:=ri j;have g:=mt l';rw[this,cT]at g;rw[g,a]
 simp only[j,bO];rw[ay n,<-a];rw[cT]at i;rw[i,k]
theorem R9{X:XEnv}{T:ae}{sf:SFn}{ds:aw}{S:XS}{x:DV}{xr:aw}{y:DV×DV}{q:aw}(b:ds.length=sf.np)(a:aS X T sf.pre ⟨bn 0 (ds.map .d),[]⟩=some (.normal,S))
 (c:lk S.r sf.cond=some (au true)) (e:lk S.r sf.row=some (.d (.sl U (x::xr)))) (g:rY S=some y) (h:ji (aj X) sf x xr=some q):mx X T sf ds=some (.agg [y.1,y.2,.sl U q]):=by
 unfold mx;rw[aC (by simpa using b),a];simp only[bO];rw[c,e];simp only[U];rw[g];simp only[bO,h,b9]
theorem qxn(s:aD)(k:s.length<=1099511627776)(f v:Int)(ks:ah)(l:bJ ks<=1099511627776)
 (hc:∀t,t∈ks->aj XV 169 [.d (sg s),.d (t.enc .sub)] []=some (.d ((t.norm s).enc U),[])):
 aj XV 169 [.d (sg s),.d ((T.node f v ks).enc .sub)] []=some (.d (((T.node f v ks).norm s).enc U),[]):=by
 have h:=q0A s k f v ks l hc;have c:bJ (flatK s f (T.norms s ks))<=1099511627776:=by have:=AK s f (T.norms s ks);have:=CR s ks;omega
 rw[Rl XV 169 _ _ eO rfl Sk VY];simp only[bd,bO,b9];have a:mx XV (XV.lin 169) eO [sg s,(T.node f v ks).enc .sub]=mx XV (XV.lin 169) eO [sg s,(T.node f v ks).enc .sub]:=rfl
 conv at a=>rhs;unfold mx
 rw[aC (by simp[eO,qZ])]at a;simp only[bF,bT]at a;rw[h]at a;simp only[T.norm]
 by_cases b:br s f=true
 ·rw[ay b]
  cases hq:flatK s f (T.norms s ks)with
  |nil=>rw[a];have i:dL ([]:ah)=[]:=rfl;have e:=YQ (nB f v ks);simp only[nB]at e;simp[eO,qZ,b,hq,lk,nB,i,e,splice,aY,a6,bb,ba,aW];rw[T.qb8];rfl
  |cons x r=>rw[hq]at c;have j:=qMS x r c;have:=R9 (X:=XV) (T:=XV.lin 169) (sf:=eO) (ds:=[sg s,(T.node f v ks).enc .sub]) (x:=x.enc U) (xr:=r.map (T.enc U)) (y:=(.int .i64 f,.int .i64 v)) rfl h (by simp[eO,qZ,lk,b]) (by simp[eO,qZ,lk,hq]) (by simp[rY,lk,nB,DV.flat,aY]) j;rw[this];simp only[b9];rw[T.qb8];rfl
 ·rw[aC b,a]
  have g:br s f=false:=by simpa using b
  simp[eO,qZ,g,lk,nB,splice,aY,a6,bb,ba,aW]
theorem DU(s:aD)(b:s.length<=1099511627776)(t:T)(a:t.inner<=1099511627776):aj XV 169 [.d (sg s),.d (t.enc .sub)] []=some (.d ((t.norm s).enc U),[]):=by
 match t,a with
 | .node f v ks,a=>rw[T.qa1]at a;exact qxn s b f v ks a fun x hx=>DU s b x (by have:=eS hx;omega)
termination_by t
decreasing_by
 simp_wf
 have:=ed hx;omega
theorem E8(a c:ah)(g:Tag)(h:(a.length+c.length)*40<=140737488355328):bU 3 40 (.sl U (a.map (T.enc U))) (.sl g (c.map (T.enc U)))=some (.sl U ((a++c).map (T.enc U))):=by
 have b:(c.map (T.enc U)).all (fun e=>decide (e.cells.length=3/\e.cells.all DV.isCell=true))=true:=by simp[aY,a6]
 have d:(a.map (T.enc U)).all (fun e=>decide (e.cells.length=3))=true:=by simp
 unfold bU;simp only;rw[ay b];cases c with
 |nil=>simp
 |cons x r=>simp only[bF,ge,bg,if_false];rw[ay ⟨by simpa using h,trivial,d⟩];simp
theorem qFt(xs:aw)(m:Nat):fR xs 0 m=(xs.take m).map DV.clr++xs.drop m:=by unfold fR;simp[DV.qay]
def putAt(t:T)(l:ah):Nat:=match aR (fun i=>decide (T.cmp t (ai l i)<0)) l.length 0 with
 |some j=>j
 |none=>l.length
theorem y9(q:Nat->Bool):∀(k i:Nat),(∀j,aR q k i=some j->∀m,i<=m->m<j->q m=false)/\(aR q k i=none->∀m,i<=m->m<i+k->q m=false)
 |0,i=>⟨fun j h=>by simp[aR]at h,fun _ m b a=>by omega⟩
 |k+1,i=>by
  have d:=y9 q k (i+1);simp only[aR]
  by_cases h:q i=true
  ·simp only[h,if_true]
   exact⟨fun j c m b a=>by simp at c;omega,fun h=>by simp at h⟩
  ·simp only[h,bg,if_false]
   refine⟨fun j c m b a=> ?_,fun g m b a=> ?_⟩
   ·by_cases e:m=i
    ·subst e;simpa using h
    ·exact d.1 j c m (by omega) a
   ·by_cases e:m=i
    ·subst e;simpa using h
    ·exact d.2 g m (by omega) (by omega)
theorem NU(t:T)(l:ah):putAt t l<=l.length:=by
 unfold putAt;split
 ·rename_i j h;have:=(dy _ _ _ _ h).2.1;omega
 ·omega
theorem Xk(t:T)(l:ah):iq t l=l.take (putAt t l)++t::l.drop (putAt t l):=by
 have h:=y9 (fun i=>decide (T.cmp t (ai l i)<0)) l.length 0;refine Kx t l _ (NU t l) (fun i hi=> ?_) (fun a=> ?_)
 ·unfold putAt at hi
  split at hi
  ·rename_i j b
   simpa using h.1 j b i (by omega) hi
  ·rename_i c
   simpa using h.2 c i (by omega) (by omega)
 ·unfold putAt at a⊢
  split
  ·rename_i j b
   simpa using (dy _ _ _ _ b).2.2
  ·rename_i c;rw[c]at a;simp at a
theorem O2(l:ah)(t:T)(Y:bJ l<=1099511627776)(Q:t.inner<=1099511627776)(o r k p:Option aG):aj XV 154 [.d (ao U l),.d (t.enc U)] [o,r,k,p]=some (.d (.sl U ((iq t l).map (T.enc U))),[o,r,k,p]):=by
 have H:=g8 l;have D:=NU t l;have O:∀i,i<l.length->aj XV 84 [.d (t.enc .sub),.d ((ai l i).enc .sub)] []=some (au (decide (T.cmp t (ai l i)<0)),[]):=fun i hi=>H3 t (ai l i) Q (by have:=eS (bM hi);omega)
 rw[aK 154 Ad rfl];have h:=bG (X:=XV) (T:=XV.lin 154) (L:=5) (live:=[0,3,5]) (b:=ui) (n:=l.length) (st:=fun(_:Unit) i=>⟨[(0,.d (ao U l)),(3,.ptr 4 0),(5,aa i)],[o,r,k,p,some [aa t.f,aa t.v,.d (ao U t.kids)]]⟩) (step:=bH fun i=>decide (T.cmp t (ai l i)<0))
  (F:=fun _=>(.exit 0,⟨[(0,.d (ao U l)),(3,.ptr 4 0),(5,aa l.length),(19,au false)],[o,r,k,p,some [aa t.f,aa t.v,.d (ao U t.kids)]]⟩)) (R:=fun(j:Nat)=>(.exit 0,⟨[(0,.d (ao U l)),(3,.ptr 4 0),(5,aa j),(19,au false)],[o,r,k,p,some [aa t.f,aa t.v,.d (ao U t.kids)]]⟩))
  (fun a=>⟨by simp,by simp[ui,E2]⟩)
  (fun a i hi=>by
   have M:=aV (n:=i) (by omega);have hc:=O i hi;unfold bH
   by_cases w:decide (T.cmp t (ai l i)<0)=true
   ·rw[ay w]
    rw[w]at hc;exact⟨by simp,by simp[ui,E2,hi,cut,aZ hi,hc,aW]⟩
   ·rw[aC w]
    have y:decide (T.cmp t (ai l i)<0)=false:=by simpa using w
    rw[y]at hc;exact⟨⟨[(0,.d (ao U l)),(3,.ptr 4 0),(5,aa (i+1:Nat))],[o,r,k,p,some [aa t.f,aa t.v,.d (ao U t.kids)]]⟩,by simp[ui,E2,hi,M,cut,aZ hi,hc,aW],by simp[aA,aB]⟩)
  l.length () 0 ⟨[(0,.d (ao U l)),(3,.ptr 4 0),(5,aa 0)],[o,r,k,p,some [aa t.f,aa t.v,.d (ao U t.kids)]]⟩ (by omega) (by simp[aA,aB])
 have h':bq XV (XV.lin 154) 5 [0,3,5] ui ⟨[(0,.d (ao U l)),(3,.ptr 4 0),(5,aa 0)],[o,r,k,p,some [aa t.f,aa t.v,.d (ao U t.kids)]]⟩=
  some (.exit 0,⟨[(0,.d (ao U l)),(3,.ptr 4 0),(5,aa (putAt t l)),(19,au false)],[o,r,k,p,some [aa t.f,aa t.v,.d (ao U t.kids)]]⟩):=by
  rw[h,cU];unfold putAt;cases w:aR (fun i=>decide (T.cmp t (ai l i)<0)) l.length 0<;>simp
 clear h;rw[Xk];generalize putAt t l=m at*
 have G:=E8 [] (l.take m) .sub (by simp;omega);have J:=E8 (l.take m) [t] U (by simp;omega);have I:=E8 (l.take m++[t]) (l.drop m) .sub (by simp;omega);have x:(l.map (T.enc U)).all (fun e=>decide (e.cells.length=3))=true:=by simp
 have s:fR (l.map (T.enc U)) 0 m=(l.take m).map (T.enc .sub)++(l.drop m).map (T.enc U):=by rw[qFt,<-List.map_take,mg,<-List.map_drop]
 have u:((l.take m).map (T.enc .sub)++(l.drop m).map (T.enc U)).all (fun e=>decide (e.cells.length=3))=true:=by
  have q:∀(l:ah) (g:Tag),(l.map (T.enc g)).all (fun e=>decide (e.cells.length=3))=true:=fun l g=>by simp
  rw[HE,q,q];rfl
 have c:((l.take m).map (T.enc .sub)++(l.drop m).map (T.enc U)).length=l.length:=by simp;omega
 have C:(((l.take m).map (T.enc .sub)++(l.drop m).map (T.enc U)).take l.length).drop m=(l.drop m).map (T.enc U):=by rw[dD (by rw[c];exact bI _),List.drop_append_of_le_length (by simp;omega),yp (by simp;omega)];rfl
 have z:(l.map (T.enc U)).take m=(l.take m).map (T.enc U):=yJ.symm;simp only[bT,co,bF,cL,bX,c9]at G J I⊢
 generalize Z:(l.take m).map (T.enc .sub)++(l.drop m).map (T.enc U)=R at*
 generalize P:(l.take m).map (T.enc U)=L1 at*
 generalize K:(l.drop m).map (T.enc U)=L2 at*
 generalize V:L1++[T.enc U t]=L3 at*
 generalize N:L1++T.enc U t::L2=L4 at*
 simp only[qU5]at h';simp[Ad,aY,a6,bb,ba];rw[h'];simp[MB,Ps,OY,D,x,u,c,s,C,z,G,J,I,aW,splice,AV.qay]
def nM(s:aD)(t:T):DV:=(t.norm s).enc U
theorem nm(s:aD)(f:Int)(h:¬br s f=true):∀l:ah,flatK s f l=l
 | []=>rfl
 |k::l=>by
  rw[lh,nm s f h l];have h':br s f=false:=by simpa using h
  simp[dw,h']
def jl(s:aD)(t:T):aw:=(t.norm s).kids.map (T.enc U)
theorem nZ(s:aD)(t:T):nM s t= .agg [.int .i64 t.f,.int .i64 t.v,.sl U (jl s t)]:=by unfold nM jl;rw[T.qb8,Fg,Gz]
theorem Lu(s:aD)(t:T):(jl s t).map DV.clr=(t.norm s).kids.map (T.enc .sub):=by unfold jl;exact mg _ _
theorem Jh(s:aD)(t:T):(nM s t).cells=[.int .i64 t.f,.int .i64 t.v,.sl U (jl s t)]:=by rw[nZ];rfl
theorem XR(s:aD)(a:ah)(t:T)(h:a.length<=1099511627776):bU 3 40 (.sl U (a.map (nM s))) (.sl U [nM s t])=some (.sl U (a.map (nM s)++[nM s t])):=by unfold bU;simp only;rw[ay (by simp[Jh,aY,a6])];simp only[ge,bg,if_false];rw[ay ⟨by simp;omega,trivial,by simp[Jh]⟩]
def rowAt(s:aD)(f:Int)(ks:ah)(i:Nat):aw:=if br s f=true then(dL (ia s f ks i)).map (T.enc U)else(ks.take i).map (nM s)
theorem rowAt_zero(s:aD)(f:Int)(ks:ah):rowAt s f ks 0=[]:=by unfold rowAt;rw[Of];split<;>rfl
theorem norms_map(s:aD):∀l:ah,T.norms s l=l.map (T.norm s)
 | []=>by simp[T.norms]
 |t::r=>by simp[T.norms,norms_map s r]
theorem rowAt_all(s:aD)(f v:Int)(ks:ah):DV.agg [.int .i64 f,.int .i64 v,.sl U (rowAt s f ks ks.length)]=nM s (.node f v ks):=by
 rw[nZ];unfold rowAt jl;rw[Od,jY];simp only[T.qaP,T.qbz,T.norm]
 by_cases a:br s f=true
 ·simp only[a,if_true,T.qav]
 ·simp only[a,bg,if_false,T.qav]
  rw[nm s f a,norms_map,eX];rfl
def dk(f v:Int)(ks:ah)(R:aw):az:=[some [aa f,aa v,.d (ao .sub ks)],some [aa 0,aa 0,.d (.sl U [])],some [aa f,aa v,.d (.sl U R)]]
def eH(l:ah)(j:Nat):aw:=(l.take j).map (T.enc .sub)++(l.drop j).map (T.enc U)
theorem qM6(l:ah)(j:Nat)(h:j<=l.length):(eH l j).length=l.length:=by unfold eH;simp;omega
theorem Xl(l:ah)(j:Nat):(eH l j).map DV.clr=l.map (T.enc .sub):=by unfold eH;rw[cL,mg,mg,<-List.map_append,dJ]
theorem qTk(l:ah)(j:Nat)(h:j<l.length):(eH l j)[j]?=some ((ai l j).enc U):=by unfold eH;rw[dx (by simp;omega),dS h,aZ h];simp[HJ (Nat.le_of_lt h)]
theorem Yc(l:ah)(j:Nat)(h:j<l.length):(eH l j).set j ((ai l j).enc .sub)=eH l (j+1):=by
 unfold eH;have a:((l.take j).map (T.enc .sub)).length=j:=by simp;omega
 rw[ye _ _ (by rw[a];exact bI _),a,mO,dS h,aZ h,bF,wI,tu l j h,cL,bX,bF,bT];rfl
theorem Vd(l:ah):eH l l.length=l.map (T.enc .sub):=by unfold eH;simp
theorem qFq(l:ah):eH l 0=l.map (T.enc U):=by unfold eH;simp
theorem PW(TT:ae)(d4:Nat)(s:XS)(b off:Nat)(cs:aG)(g gt:Tag)(xs:aw)(k:Nat)(t:T):wa TT d4 3 s b off cs g xs k (some (t.enc gt))=some (a9 TT ⟨s.r,s.B.set b (some (cs.set off (.d (.sl g (xs.set k (t.enc .sub))))))⟩ (some d4) (.d (t.enc gt))):=by rw[<-T.qfj gt t,T.qb8];rfl
theorem VT(s:aD)(D:s.length<=1099511627776)(f v c m:Int)(ks l:ah)(i:Nat)(F:l.length<=1099511627776):∀(k j:Nat),j+k=l.length->∀acc:ah,bJ acc+bJ (l.drop j)<=1099511627776->∀e:az,
 bq XV (XV.lin 153) 4 [0,3,4,5,6,7,8] Ah ⟨[(0,.d (sg s)),(3,.ptr 0 0),(4,.ptr 1 0),(5,.ptr 2 0),(6,aa i),(7,.ptr 3 0),(8,aa j)],dk f v ks (acc.map (T.enc U))++[some [aa c,aa m,.d (.sl U (eH l j))]]++e⟩=
  some (.exit 3,⟨[(0,.d (sg s)),(3,.ptr 0 0),(4,.ptr 1 0),(5,.ptr 2 0),(6,aa i),(7,.ptr 3 0),(8,aa l.length),(32,au false)],dk f v ks ((gz acc (l.drop j)).map (T.enc U))++[some [aa c,aa m,.d (.sl U (l.map (T.enc .sub)))]]⟩):=by
 have head:∀(x:Int) (A e:az),A.length=4->aA 4 [0,3,4,5,6,7,8] ⟨[(0,.d (sg s)),(3,.ptr 0 0),(4,.ptr 1 0),(5,.ptr 2 0),(6,aa i),(7,.ptr 3 0),(8,aa x)],A++e⟩=some ⟨[(0,.d (sg s)),(3,.ptr 0 0),(4,.ptr 1 0),(5,.ptr 2 0),(6,aa i),(7,.ptr 3 0),(8,aa x)],A⟩:=fun x A e C=>im (by simp) (by simp[aB]) C rfl
 intro k
 induction k with
 |zero=>
  intro j y acc b e;have:j=l.length:=by omega
  subst this;refine dX (head _ _ e (by simp[dk])) ?_ (by simp);rw[Gu,Vd];simp only[gz];simp[Ah,dk,aW]
 |succ k w=>
  intro j y acc b e;have a:j<l.length:=by omega
  have g:l.drop j=ai l j::l.drop (j+1):=by rw[dS a,aZ a]
  have z:=aV (n:=j) (by omega);have q:=qM6 l j (by omega);have o:=Xl l j;have p:∀h:j<(eH l j).length,(eH l j)[j]'h=(ai l j).enc U:=fun h=>(cw.1 (qTk l j a)).2
  have r:=Yc l j a;rw[g,jh]at b;have u:=O2 acc (ai l j) (by omega) (by omega);rw[g];simp only[gz];rw[<-w (j+1) (by omega) (iq (ai l j) acc) (by rw[AY (En _ _),jh];omega) []];refine d_ (head _ _ e (by simp[dk])) ?_;generalize eH l (j+1)=R1 at*
  generalize eH l j=R0 at*
  simp[Ah,q24,dk,a,z,aZ a,u,q,o,p,r,PW,c6,VX.linT,splice,a6,bb,ba,aW]
theorem Zm(s:aD)(I:s.length<=1099511627776)(f v:Int)(ks:ah)(N:bJ ks<=1099511627776)(i:Nat)(hi:i<ks.length)
 (hc:aj XV 153 [.d (sg s),.d ((ai ks i).enc .sub)] []=some (.d (nM s (ai ks i)),[])):
 ∃e:az,aS XV (XV.lin 153) rf ⟨[(0,.d (sg s)),(3,.ptr 0 0),(4,.ptr 1 0),(5,.ptr 2 0),(6,aa i)],dk f v ks (rowAt s f ks i)⟩=
  some (.normal,⟨[(0,.d (sg s)),(3,.ptr 0 0),(4,.ptr 1 0),(5,.ptr 2 0),(6,aa (i+1:Nat))],dk f v ks (rowAt s f ks (i+1))++e⟩):=by
 have G:=g8 ks;have u:=aV (n:=i) (by omega);have y:=BS s I f;have z:=aZ hi;have Q:=eS (bM hi);have J:=qj s (ai ks i);have m:=Kd s f ks i hi;have h:=Ma s f ks (i+1);have x:=tu ks i hi;have D:=Lu s (ai ks i);have c:=Fg s (ai ks i);have F:=Gz s (ai ks i);have b:=XR s (ks.take i) (ai ks i) (by simp;omega);rw[m,AU]at h;unfold rowAt;rw[m,x];rw[nZ]at hc b;generalize O:ai ks i=k at*
 generalize P:ia s f ks i=acc at*
 have p:jl s k=(k.norm s).kids.map (T.enc U):=rfl;generalize M:jl s k=X at*
 by_cases j:br s f=true
 ·simp only[j,if_true]
  by_cases q:(k.f==f)=true
  ·have w:dw s f (k.norm s)=(k.norm s).kids:=by unfold dw;rw[c,j,q];rfl
   rw[w]at h⊢
   have a:=VT s I f v k.f k.v ks (k.norm s).kids i (by have:=g8 (k.norm s).kids;rw[Fq]at this;omega) (k.norm s).kids.length 0 (by omega) (dL acc) (by rw[AY (kM acc),eQ];omega) [];rw[eQ,qFq,show gz (dL acc) (k.norm s).kids=dL (acc++(k.norm s).kids)from by unfold dL;rw[H9]]at a;refine⟨[some [aa k.f,aa k.v,.d (.sl U ((k.norm s).kids.map (T.enc .sub)))]],?_⟩;have g:(k.f !=f)=false:=by simpa using q
   rw[<-p]at a;generalize (dL (acc++(k.norm s).kids)).map (T.enc U)=R2 at*
   generalize (dL acc).map (T.enc U)=R1 at*
   generalize (k.norm s).kids=l at*
   simp only[dk,Jx,nv,c9,co,cS]at a⊢
   simp[rf,hi,cut,z,hc,y,j,g,D,splice,aY,a6,bb,ba,aW];rw[a];simp[u]
  ·have C:(k.f==f)=false:=by simpa using q
   have g:(k.f !=f)=true:=by simpa using q
   have w:dw s f (k.norm s)=[k.norm s]:=by unfold dw;rw[c,j,C];rfl
   rw[w]at h⊢
   rw[show dL (acc++[k.norm s])=iq (k.norm s) (dL acc)from by unfold dL;rw[H9];rfl];have H:=O2 (dL acc) (k.norm s) (by rw[AY (kM acc)];omega) (by omega);have r:(k.norm s).enc U= .agg [.int .i64 k.f,.int .i64 k.v,.sl U X]:=by rw[T.qb8,c,F,p]
   simp only[r]at H;refine⟨[some [aa k.f,aa k.v,.d (ao .sub (k.norm s).kids)]],?_⟩;generalize iq (k.norm s) (dL acc)=R2 at*
   generalize dL acc=R1 at*
   generalize (k.norm s).kids=l at*
   simp[rf,dk,hi,u,cut,z,hc,y,j,g,D,H,c6,VX.linT,splice,aY,a6,bb,ba,aW,AV.qay]
 ·have o:br s f=false:=by simpa using j
  simp only[o,bg,if_false];refine⟨[some [aa k.f,aa k.v,.d (ao .sub (k.norm s).kids)]],?_⟩;rw[cL,bF,bT,nZ,M];generalize K:(ks.take i).map (nM s)++[.agg [.int .i64 k.f,.int .i64 k.v,.sl U X]]=R2 at*
  generalize (ks.take i).map (nM s)=R1 at*
  generalize (k.norm s).kids=l at*
  simp[rf,dk,hi,u,cut,z,hc,y,o,b,D,splice,aY,a6,bb,ba,aW,AV.qay]
theorem qUy(s:aD)(h:s.length<=1099511627776)(f v:Int)(ks:ah)(l:bJ ks<=1099511627776)
 (hc:∀t,t∈ks->aj XV 153 [.d (sg s),.d (t.enc .sub)] []=some (.d (nM s t),[])):∀(k i:Nat),i+k=ks.length->∀e:az,
 bq XV (XV.lin 153) 3 [0,3,4,5,6] rf ⟨[(0,.d (sg s)),(3,.ptr 0 0),(4,.ptr 1 0),(5,.ptr 2 0),(6,aa i)],dk f v ks (rowAt s f ks i)++e⟩=
  some (.exit 0,⟨[(0,.d (sg s)),(3,.ptr 0 0),(4,.ptr 1 0),(5,.ptr 2 0),(6,aa ks.length),(18,au false)],dk f v ks (rowAt s f ks ks.length)⟩):=by
 have head:∀(x:Int) (A e:az),A.length=3->aA 3 [0,3,4,5,6] ⟨[(0,.d (sg s)),(3,.ptr 0 0),(4,.ptr 1 0),(5,.ptr 2 0),(6,aa x)],A++e⟩=some ⟨[(0,.d (sg s)),(3,.ptr 0 0),(4,.ptr 1 0),(5,.ptr 2 0),(6,aa x)],A⟩:=fun x A e j=>im (by simp) (by simp[aB]) j rfl
 intro k
 induction k with
 |zero=>
  intro i hi e;have:i=ks.length:=by omega
  subst this;refine dX (head _ _ e (by simp[dk])) ?_ (by simp);generalize rowAt s f ks ks.length=R;simp[rf,dk,aW]
 |succ k g=>
  intro i hi e;have a:i<ks.length:=by omega
  obtain⟨c,b⟩:=Zm s h f v ks l i a (hc _ (bM a));rw[<-g (i+1) (by omega) c];exact d_ (head _ _ e (by simp[dk])) b
theorem Qq(s:aD)(b:s.length<=1099511627776)(f v:Int)(ks:ah)(c:bJ ks<=1099511627776)
 (hc:∀t,t∈ks->aj XV 153 [.d (sg s),.d (t.enc .sub)] []=some (.d (nM s t),[])):
 aj XV 153 [.d (sg s),.d ((T.node f v ks).enc .sub)] []=some (.d (nM s (.node f v ks)),[]):=by
 rw[aK 153 Bl rfl];have a:=qUy s b f v ks c hc ks.length 0 (by omega) [];rw[<-rowAt_all];simp only[rowAt_zero,cS,Jx,dk,nv]at a;generalize rowAt s f ks ks.length=R at*
 simp[Bl,splice,aY,a6,bb,ba,aW];rw[a];simp[MK,splice,aY,a6,bb,ba,aW,AV.qay]
theorem CG(s:aD)(b:s.length<=1099511627776)(t:T)(a:t.inner<=1099511627776):aj XV 153 [.d (sg s),.d (t.enc .sub)] []=some (.d (nM s t),[]):=by
 match t,a with
 | .node f v ks,a=>rw[T.qa1]at a;exact Qq s b f v ks a fun x hx=>CG s b x (by have:=eS hx;omega)
termination_by t
decreasing_by
 simp_wf
 have:=ed hx;omega
abbrev ts(l:aF):ah:=l.map Bd.t
def dst(n:Int)(neg:Bool)(s:ByteArray):XS:=⟨[(0,aa n),(3,au neg),(4,.d (.str s))],[]⟩
theorem q8B(a b:Nat):(a+(b+1)<=a)=False:=by simp
theorem P0(x y z:AV):AV.clrs [x,y,z]=[x.clr,y.clr,z.clr]:=by simp only[AV.clrs]
def IsV(d:DV)(a:T):Prop:=∃(g:Tag) (X:aw),d= .agg [.int .i64 a.f,.int .i64 a.v,.sl g X]/\X.map DV.clr=a.kids.map (T.enc .sub)
theorem AJ(s:aD)(t:T):IsV (nM s t) (t.norm s):=⟨U,jl s t,by rw[nZ,Fg,Gz],Lu s t⟩
theorem K8(g:Tag)(t:T):IsV (t.enc g) t:=⟨g,t.kids.map (T.enc g),by rw[T.qb8],mg g _⟩
theorem qJm(ks:ah)(l:bJ ks<=1099511627776):aj XV 197 [.d (ao .sub ks)] []=some (.d (ao U ks),[]):=by
 have h:=g8 ks;have hc:∀t,t∈ks->aj XV 146 [.d (t.enc .sub)] []=some (.d (t.enc U),[]):=fun t k=>wJ t (by have:=eS k;omega)
 rw[aK 197 Ck rfl];have a:=bG (X:=XV) (T:=XV.lin 197) (L:=0) (live:=[0,3,4]) (b:=Cp) (n:=ks.length) (γ:=Unit) (st:=fun(_:Unit) i=>⟨[(0,.d (ao .sub ks)),(3,.d (.sl U ((ks.take i).map (T.enc U)))),(4,aa i)],[]⟩) (step:=fun _ _=> .inl ())
  (F:=fun _=>(.exit 0,⟨[(0,.d (ao .sub ks)),(3,.d (.sl U ((ks.take ks.length).map (T.enc U)))),(4,aa ks.length),(9,au false)],[]⟩)) (R:=fun _=>(.ret,⟨[],[]⟩))
  (fun _=>⟨by simp,by simp[Cp]⟩)
  (fun _ i hi=>by
   have j:=aV (n:=i) (by omega);have e:=hc _ (bM hi);have c:=EN ks i hi (by omega);generalize g:(ks.take (i+1)).map (T.enc U)=l2 at c;generalize (ks.take i).map (T.enc U)=l1 at c⊢
   exact⟨⟨[(0,.d (ao .sub ks)),(3,.d (.sl U l2)),(4,aa (i+1:Nat))],[]⟩,by simp[Cp,hi,j,cut,aZ hi,e,c,aY,a6],by simp[aA,aB,<-g]⟩)
  ks.length () 0 ⟨[(0,.d (ao .sub ks)),(3,.d (.sl U [])),(4,aa 0)],[]⟩ (by omega) (by simp[aA,aB])
 rw[dB,jY]at a;simp only[Sp]at a;simp[Ck];rw[a];simp[NR]
theorem qVh(f:Int)(ks:ah):aj XV 164 [aa f,.d (ao .sub ks)] []=some (.d ((T.node f 0 ks).enc .sub),[]):=by rw[aK 164 AP rfl];simp[AP,splice,aY,a6,bb,ba,aW]
def en(s:aD)(f:Int)(ks:ah):T:=
 if br s f=true/\ks.length=0 then .node 0 0 []
 else if br s f=true/\ks.length=1 then(ai ks 0).norm s
 else if dz s f=true then(T.node f 0 ks).norm s else .node f 0 ks
theorem Vm(s:aD)(f:Int)(ks:ah):(en s f ks).inner<=bJ ks:=by
 unfold en;split
 ·simp[T.inner,T.inners]
 ·split
  ·rename_i h
   have a:=qj s (ai ks 0);have b:=eS (bM (l:=ks) (i:=0) (by omega));omega
  ·split
   ·have:=qj s (T.node f 0 ks);rw[T.qa1]at this;exact this
   ·rw[T.qa1];omega
theorem O3(g:Tag):(T.node 0 0 []).enc g= .agg [.int .i64 0,.int .i64 0,.sl g []]:=by rw[T.qb8];rfl
theorem TE(s:aD)(p:s.length<=1099511627776)(f:Int)(ks:ah)(y:bJ ks<=1099511627776):aj XV 192 [.d (sg s),aa f,.d (ao .sub ks)] []=some (.d ((en s f ks).enc U),[]):=by
 have b:=Gp s p f;have l:=Qo ks y;have x:=DU s p (T.node f 0 ks) (by rw[T.qa1];exact y);rw[aK 192 pe rfl];unfold en
 by_cases c:dz s f=true
 ·obtain⟨k,h⟩:=od c
  have e:=bY h;have g:br s f=(aX s f.toNat).ac:=by unfold br;rw[c];rfl
  rw[g];cases c2:(aX s f.toNat).ac with
  |false=>
   simp only[bg,Dv,if_false,c,if_true];generalize (T.node f 0 ks).norm s=a at*
   simp[pe,b,c,c2,k,h,e,cut,x,splice,aY,a6,bb,ba,aW]
  |true=>
   simp only[qx]
   by_cases u:ks.length=0
   ·rw[ay u]
    have n:(ks.length:Int)=0:=by omega
    generalize j:(ks.length:Int)=m at*
    rw[O3];simp[pe,b,c,c2,k,h,e,j,n,cut,splice,aY,a6,bb,ba,aW]
   ·rw[aC u]
    by_cases w:ks.length=1
    ·rw[ay w]
     have o:0<ks.length:=by omega
     have r:=DU s p (ai ks 0) (by have:=eS (bM o);omega);have z:ks[0]=ai ks 0:=aZ o;have q:(ks.length:Int)=1:=by omega
     generalize (ai ks 0).norm s=a at*
     generalize j:(ks.length:Int)=m at*
     simp[pe,b,c,c2,k,h,e,j,q,o,cut,r,z,splice,aY,a6,bb,ba,aW]
    ·rw[aC w,ay c]
     have e3:((ks.length:Int)==0)=false:=dV (by omega);have C:((ks.length:Int)==1)=false:=dV (by omega);generalize (T.node f 0 ks).norm s=a at*
     generalize j:(ks.length:Int)=m at*
     simp[pe,b,c,c2,k,h,e,j,e3,C,cut,x,splice,aY,a6,bb,ba,aW]
 ·have g:br s f=false:=by unfold br;simp[c]
  have i:dz s f=false:=by simpa using c
  simp only[g,bg,Dv,if_false,i];simp only[ao]at*
  rw[T.qb8];simp[pe,b,i,l,splice,aY,a6,bb,ba,aW]
theorem IsV.clr{d:DV}{a:T}(h:IsV d a):d.clr=a.enc .sub:=by obtain⟨g,X,rfl,b⟩:=h;simp only[DV.clr,DV.clrs];rw[DV.qay,b,T.qb8]
theorem qvW(s:aD)(n:s.length<=1099511627776)(f:Int)(ks:ah)(u:bJ ks<=1099511627776):∃d,aj XV 193 [.d (sg s),aa f,.d (ao .sub ks)] []=some (.d d,[])/\IsV d (en s f ks):=by
 have g:=BS s n f;have a:=lT f 0 (s.length-1);have i:=qJm ks u;have p:=qVh f ks;have h:=CG s n (T.node f 0 ks) (by rw[T.qa1];exact u);have l:IntKind.i64.wrap ((s.length:Int)-1)=s.length-1:=wrap_i64 (by omega) (by omega);rw[aK 193 oe rfl];unfold en;cases c2:br s f with
 |false=>
  simp only[bg,Dv,if_false];cases b:dz s f with
  |true=>
   simp only[if_true];refine⟨_,?_,AJ s _⟩;rw[nZ]at h⊢
   generalize jl s (T.node f 0 ks)=X at*
   rw[show b4 f 0 (s.length-1)=true from b]at a;simp[oe,g,c2,l,a,p,h,splice,aY,a6,bb,ba,aW]
  |false=>simp only[bg,if_false];refine⟨_,?_,K8 .sub _⟩;rw[show b4 f 0 (s.length-1)=false from b]at a;simp[oe,g,c2,l,a,p,i,splice,aY,a6,bb,ba,aW]
 |true=>
  have b:dz s f=true:=by unfold br at c2;simp only[cd]at c2;exact c2.1
  simp only[qx]
  by_cases q:ks.length=0
  ·rw[ay q]
   have j:(ks.length:Int)=0:=by omega
   generalize c:(ks.length:Int)=m at*
   refine⟨_,?_,K8 U _⟩;rw[O3];simp[oe,g,c2,c,j,splice,aY,a6,bb,ba,aW]
  ·rw[aC q]
   by_cases r:ks.length=1
   ·rw[ay r]
    have k:0<ks.length:=by omega
    have e:=CG s n (ai ks 0) (by have:=eS (bM k);omega);have w:ks[0]=ai ks 0:=aZ k;have o:(ks.length:Int)=1:=by omega
    refine⟨_,?_,AJ s _⟩;rw[nZ]at e⊢
    generalize jl s (ai ks 0)=X at*
    generalize c:(ks.length:Int)=m at*
    simp[oe,g,c2,c,o,k,cut,e,w,splice,aY,a6,bb,ba,aW]
   ·rw[aC r,ay b]
    have e3:((ks.length:Int)==0)=false:=dV (by omega);have x:((ks.length:Int)==1)=false:=dV (by omega);refine⟨_,?_,AJ s _⟩;rw[nZ]at h⊢
    generalize jl s (T.node f 0 ks)=X at*
    rw[show b4 f 0 (s.length-1)=true from b]at a;generalize c:(ks.length:Int)=m at*
    simp[oe,g,c2,l,a,p,h,c,e3,x,splice,aY,a6,bb,ba,aW]
mutual
def bN(u:aF):T->T
 | .node f v ks=>if f= -1/\ks.length=0 then cH u v else .node f v (cb u ks)
def cb(u:aF):ah->ah
 | []=>[]
 |t::r=>bN u t::cb u r
end
theorem iW(u:aF):∀l:ah,cb u l=l.map (bN u)
 | []=>by simp[cb]
 |t::r=>by simp[cb,iW u r]
end Go.Proofs.YtpcoohnjllclnaaGreat.VS
